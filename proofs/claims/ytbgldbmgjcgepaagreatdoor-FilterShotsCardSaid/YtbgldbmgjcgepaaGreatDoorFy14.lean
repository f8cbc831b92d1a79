/- FilterShots: whatever the arguments, the call returns true, and each argument reads afterwards as it read before (the package-level variables that the row lists hold what it says: the card ties that to the program's text). -/
import Derived.Test.YtbgldbmgjcgepaaGreatDoorFy10
import Derived.Test.YtbgldbmgjcgepaaGreatDoorFy7
import Derived.Test.YtbgldbmgjcgepaaGreatDoorFy13
set_option linter.all false
namespace Go.Proofs.YtbgldbmgjcgepaaGreatDoor
open Go.ChangeShapes Go.WideShapes Go.RowKit Go.Abs

theorem shots_globs : globL Tryz.prog Rows.filterShotsRow.laid 11 = globS := by kernel_rfl
theorem shots_w1 : Tryz.prog.inits.idxOf? 13 = none := by kernel_rfl
theorem shots_w2 (os : Os) : Input.okWideB Tryz.prog ((World.laidAll Tryz.prog os Rows.filterShotsRow.laid).forCall (fun _ _ => 0) ⟨#[], #[.agg #[.string ⟨#[]⟩, .slice none 0 0], .slice none 0 0, .slice none 0 0], []⟩) 13 ⟨#[], #[.agg #[.string ⟨#[]⟩, .slice none 0 0], .slice none 0 0, .slice none 0 0], []⟩ = true := by kernel_rfl
theorem shots_w3 (os : Os) (H : Type) (enc : TypeId × Value → H) : Rows.filterShotsSpec.preB enc Tryz.prog Tryz.f13 Rows.filterShotsRow.domain false ((World.laidAll Tryz.prog os Rows.filterShotsRow.laid).forCall (fun _ _ => 0) ⟨#[], #[.agg #[.string ⟨#[]⟩, .slice none 0 0], .slice none 0 0, .slice none 0 0], []⟩).memory #[.agg #[.string ⟨#[]⟩, .slice none 0 0], .slice none 0 0, .slice none 0 0] 8 = true := by kernel_rfl
theorem shots_w4 (os : Os) (H : Type) (enc : TypeId × Value → H) : Rows.filterShotsSpec.sizedB enc Tryz.prog Tryz.f13 false ((World.laidAll Tryz.prog os Rows.filterShotsRow.laid).forCall (fun _ _ => 0) ⟨#[], #[.agg #[.string ⟨#[]⟩, .slice none 0 0], .slice none 0 0, .slice none 0 0], []⟩).memory #[.agg #[.string ⟨#[]⟩, .slice none 0 0], .slice none 0 0, .slice none 0 0] 8 = true := by kernel_rfl
theorem shots_ats : atsOf Tryz.prog 6 (Tryz.f13).params.toList = some [.agg [.str, .sl ctTr], .one (.sl [.int .i64, .int .i64]), .one (.sl [.int .i64])] := by kernel_rfl
theorem shots_par : ∀ t ∈ (Tryz.f13).params.toList, Tryz.prog.readableRec t = true ∧ t < Tryz.prog.types.size := by decide +kernel
theorem shots_res : (Tryz.f13).resultTypes = #[4] := by kernel_rfl

set_option maxRecDepth 100000 in
theorem shots_lifted (os : Os) (started : os.Started) (H : Type) (enc : TypeId × Value → H) :
    ReturnsInHanded {} Tryz.checked os 13 .any (fun w args => (Rows.filterShotsSpec.pre enc Tryz.prog Tryz.f13 Rows.filterShotsRow.domain false w args ∧ laidMetH Tryz.prog Rows.filterShotsRow.laid w) ∧ sizedMet enc Tryz.prog Tryz.f13 (OpenSpec.ofChange Rows.filterShotsSpec) false w args)
      (Rows.filterShotsSpec.post enc Tryz.prog Tryz.f13 false true false false) := by
  refine returnsInHanded_of_change_and (C := Tryz.checked) (X := fun w _ => laidMetH Tryz.prog Rows.filterShotsRow.laid w) (fun _ _ _ hh h => h.of_heap hh) own started shots_w1 Tryz.func13
    (ChangeSpec.witness_shaped (enc := enc) (C := Tryz.checked) (os := os) (X := fun w _ => laidMetH Tryz.prog Rows.filterShotsRow.laid w) false (World.laidAll Tryz.prog os Rows.filterShotsRow.laid) #[.agg #[.string ⟨#[]⟩, .slice none 0 0], .slice none 0 0, .slice none 0 0] 8 (World.laidAll_os _ _ _)
      (scS_shaped os _) (shots_w2 os) (shots_w3 os H enc) (shots_w4 os H enc) (scS_laid os _)) ?_
  intro W base args ds gs before hval hW _ _ hL _
  have hL' : laidMetH Tryz.prog Rows.filterShotsRow.laid W := hL
  rw [MakeChecks.laidMetH_plain _ _ _ (by kernel_rfl)] at hL'
  obtain ⟨aw, hz⟩ := AW.globals hL' (fun x hx => hx) 11 (nm := "math/bits.deBruijn64tab") (d := Rows.laid_math_bits_deBruijn64tab) (by unfold Rows.filterShotsRow; simp) (by kernel_rfl)
  rw [shots_globs] at aw
  obtain ⟨p, q, hA, hV, _⟩ := id hW
  obtain ⟨rfl, _⟩ := trodVars_none hV
  have hA' : DataW.TrodAll enc Tryz.prog W 0 (fun _ => true) true (Tryz.f13).params.toList args.toList ds p := hA
  rw [Tryz.params13] at hA'
  obtain ⟨_, _, _, d1, d2, d3, _, _, _, _, rfl, _⟩ := trodAll_three hA'
  refine row_true (n := 6) (ats := [.agg [.str, .sl ctTr], .one (.sl [.int .i64, .int .i64]), .one (.sl [.int .i64])]) laidOut shots_par shots_res Tryz.underlying4 rfl rfl shots_ats hval hW aw hz ?_
  intro k vs e h
  obtain ⟨_, _, rfl, h1, h⟩ := tyas_cons h
  obtain ⟨_, _, rfl, h2, h⟩ := tyas_cons h
  obtain ⟨_, _, rfl, h3, h⟩ := tyas_cons h
  obtain rfl := tyas_nil h
  obtain ⟨nm, s, L, rfl, os, hL⟩ := tya_shot h1
  obtain ⟨l, h1, _, _⟩ := tya_rats h2
  obtain ⟨t, h2, _, _⟩ := tya_ints h3
  exact r13 tbl xfl (e.some rfl) (fun k' e' => awake_ag (globS_ag (e.trans e'))) (l := l) (t := t) os hL h1 h2

theorem shots_f1 : (Rows.filterShotsRow.inPlace == Tryz.prog.inPlace 13) = true := by kernel_rfl
theorem shots_f2 : (Rows.filterShotsRow.unfollowed == Tryz.prog.unfollowed 13) = true := by kernel_rfl
theorem shots_f3 : (Rows.filterShotsRow.recurses == Tryz.prog.recurses 13) = true := by kernel_rfl
theorem shots_f4 : (Rows.filterShotsRow.named == Tryz.prog.varsNamed 13) = true := by kernel_rfl
theorem shots_f5 : Tryz.prog.funcNamed "moveout/moveoutlaw05.FilterShots" = some 13 := by kernel_rfl
theorem shots_f6 : (Tryz.f13).isInstance Tryz.prog Rows.filterShotsRow.origin Rows.filterShotsRow.targs := of_decide_eq_true (by kernel_rfl)
theorem shots_f7 : (Tryz.f13).isWrapper Tryz.prog Rows.filterShotsRow.wrapper Rows.filterShotsRow.mainSum := by
  unfold Func.isWrapper; first | (rw [if_pos (by decide +kernel)]; kernel_rfl) | (rw [if_neg (by decide +kernel)]; exact ⟨rfl, rfl⟩)
theorem shots_f8 : ((Tryz.f13).params.all (Tryz.prog.readableRec ·)) = true := by kernel_rfl
theorem shots_closed : joinedFacts Tryz.prog 13 Tryz.f13 Rows.filterShotsSpec Rows.filterShotsRow = true := by
  unfold joinedFacts
  exact and2 (and2 (and2 (and2 (and2 (and2 (and2 (and2 (and2 (and2 (and2 (and2 (and2 (and2 (and2 (and2 (and2 (and2 (and2 (and2 (and2 (and2 (and2 (and2 (and2 (and2 (and2 (and2 (and2 (and2 (and2 (by kernel_rfl) laidOut) sc_maps) shots_f8) (by kernel_rfl)) (by kernel_rfl)) sc_stops) (by kernel_rfl)) sc_knobs) shots_f1) shots_f2) shots_f3) shots_f4)
    (by kernel_rfl)) (by kernel_rfl)) (by kernel_rfl)) (by kernel_rfl)) (by kernel_rfl)) (by kernel_rfl)) (by kernel_rfl)) (by kernel_rfl)) (by kernel_rfl)) sc_keys) (by kernel_rfl)) sc_heard) sc_enter) sc_lifts) sc_make) (by kernel_rfl)) (by kernel_rfl)) (by kernel_rfl)) (by kernel_rfl)

theorem shots_holds : Rows.FilterShotsSaid :=
  OpenClaim.holds_of_wide 13 Tryz.f13 rfl rfl rfl rfl rfl rfl rfl ⟨rfl, rfl, rfl, rfl, rfl⟩ rfl rfl rfl rfl rfl shots_f5 Tryz.func13 shots_closed
    shots_f6 shots_f7 (fun os started H enc _ => shots_lifted os started H enc)

theorem shots_stand : ((Tryz.f13).params.toList.all fun u => !Tryz.prog.wantsStandIn u) = true := by kernel_rfl
theorem shots_goes : false = Rows.filterShotsRow.goesBy Tryz.prog := by kernel_rfl
theorem shots_text : Rows.filterShotsRow.wfByText (OpenSpec.ofChange Rows.filterShotsSpec) = true := by kernel_rfl
theorem shots_card_holds : Rows.FilterShotsCardSaid :=
  Claim7.holds_tied_plain_at .later [] [.data, .data, .data, .data, .data] true (true, "935bb61a7861a9fad800c7aac49f604bfc9e5b8f028eba8f042cb1ef6ca0aa73") true shots_holds (fun _ h => by cases h) shots_text (fun _ h => by cases h) filterShots_row_tie rfl ⟨rfl, rfl⟩ sc_main rfl
    (fun f fn hf hfn => by
      obtain rfl : f = 13 := Option.some.inj (shots_f5.symm.trans hf) |>.symm
      obtain rfl : fn = Tryz.f13 := (Option.some.inj ((Tryz.func13).symm.trans hfn)).symm
      exact ⟨sc_looks, fun j t ht => by
        have hm : t ∈ (Tryz.f13).params.toList := by simpa using Array.mem_of_getElem? ht
        exact (show Tryz.prog.wantsStandIn t = false by simpa using List.all_eq_true.1 shots_stand t hm)⟩)
    shots_goes
#print axioms shots_card_holds
end Go.Proofs.YtbgldbmgjcgepaaGreatDoor
