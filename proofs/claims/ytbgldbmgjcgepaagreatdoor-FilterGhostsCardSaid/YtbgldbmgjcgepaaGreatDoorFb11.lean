/- FilterGhosts: whatever the arguments, the call returns true, and each argument reads afterwards as it read before (the package-level variables that the row lists hold what it says: the card ties that to the program's text). -/
import Derived.Test.YtbgldbmgjcgepaaGreatDoorFb9
import Derived.Test.YtbgldbmgjcgepaaGreatDoorFb6
import Derived.Test.YtbgldbmgjcgepaaGreatDoorFb10
set_option linter.all false
namespace Go.Proofs.YtbgldbmgjcgepaaGreatDoor
open Go.ChangeShapes Go.WideShapes Go.RowKit Go.Abs

theorem ghosts_globs : globL Tryz.prog Rows.filterGhostsRow.laid 11 = glob0 := by kernel_rfl
theorem ghosts_w1 : Tryz.prog.inits.idxOf? 11 = none := by kernel_rfl
theorem ghosts_w2 (os : Os) : Input.okWideB Tryz.prog ((World.laidAll Tryz.prog os Rows.filterGhostsRow.laid).forCall (fun _ _ => 0) ⟨#[], #[.slice none 0 0, .int .i64 0], []⟩) 11 ⟨#[], #[.slice none 0 0, .int .i64 0], []⟩ = true := by kernel_rfl
theorem ghosts_w3 (os : Os) (H : Type) (enc : TypeId × Value → H) : Rows.filterGhostsSpec.preB enc Tryz.prog Tryz.f11 Rows.filterGhostsRow.domain false ((World.laidAll Tryz.prog os Rows.filterGhostsRow.laid).forCall (fun _ _ => 0) ⟨#[], #[.slice none 0 0, .int .i64 0], []⟩).memory #[.slice none 0 0, .int .i64 0] 8 = true := by kernel_rfl
theorem ghosts_w4 (os : Os) (H : Type) (enc : TypeId × Value → H) : Rows.filterGhostsSpec.sizedB enc Tryz.prog Tryz.f11 false ((World.laidAll Tryz.prog os Rows.filterGhostsRow.laid).forCall (fun _ _ => 0) ⟨#[], #[.slice none 0 0, .int .i64 0], []⟩).memory #[.slice none 0 0, .int .i64 0] 8 = true := by kernel_rfl
theorem ghosts_ats : atsOf Tryz.prog 6 (Tryz.f11).params.toList = some [.one (.sl [.flt .f32]), .one (.int .i64)] := by kernel_rfl
theorem ghosts_par : ∀ t ∈ (Tryz.f11).params.toList, Tryz.prog.readableRec t = true ∧ t < Tryz.prog.types.size := by decide +kernel
theorem ghosts_res : (Tryz.f11).resultTypes = #[4] := by kernel_rfl

set_option maxRecDepth 100000 in
theorem ghosts_lifted (os : Os) (started : os.Started) (H : Type) (enc : TypeId × Value → H) :
    ReturnsInHanded {} Tryz.checked os 11 .any (fun w args => (Rows.filterGhostsSpec.pre enc Tryz.prog Tryz.f11 Rows.filterGhostsRow.domain false w args ∧ laidMetH Tryz.prog Rows.filterGhostsRow.laid w) ∧ sizedMet enc Tryz.prog Tryz.f11 (OpenSpec.ofChange Rows.filterGhostsSpec) false w args)
      (Rows.filterGhostsSpec.post enc Tryz.prog Tryz.f11 false true false false) := by
  refine returnsInHanded_of_change_and (C := Tryz.checked) (X := fun w _ => laidMetH Tryz.prog Rows.filterGhostsRow.laid w) (fun _ _ _ hh h => h.of_heap hh) own started ghosts_w1 Tryz.func11
    (ChangeSpec.witness_shaped (enc := enc) (C := Tryz.checked) (os := os) (X := fun w _ => laidMetH Tryz.prog Rows.filterGhostsRow.laid w) false (World.laidAll Tryz.prog os Rows.filterGhostsRow.laid) #[.slice none 0 0, .int .i64 0] 8 (World.laidAll_os _ _ _)
      (sc_shaped os _) (ghosts_w2 os) (ghosts_w3 os H enc) (ghosts_w4 os H enc) (sc_laid os _)) ?_
  intro W base args ds gs before hval hW _ _ hL _
  have hL' : laidMetH Tryz.prog Rows.filterGhostsRow.laid W := hL
  rw [MakeChecks.laidMetH_plain _ _ _ (by kernel_rfl)] at hL'
  obtain ⟨aw, hz⟩ := AW.globals hL' (fun x hx => hx) 11 (nm := "math/bits.deBruijn64tab") (d := Rows.laid_math_bits_deBruijn64tab) (by unfold Rows.filterGhostsRow; simp) (by kernel_rfl)
  rw [ghosts_globs] at aw
  obtain ⟨p, q, hA, hV, _⟩ := id hW
  obtain ⟨rfl, _⟩ := trodVars_none hV
  have hA' : DataW.TrodAll enc Tryz.prog W 0 (fun _ => true) true (Tryz.f11).params.toList args.toList ds p := hA
  rw [Tryz.params11] at hA'
  obtain ⟨_, _, d1, d2, _, _, _, rfl, _⟩ := trodAll_two hA'
  refine row_true (n := 6) (ats := [.one (.sl [.flt .f32]), .one (.int .i64)]) laidOut ghosts_par ghosts_res Tryz.underlying4 rfl rfl ghosts_ats hval hW aw hz ?_
  intro k vs e h
  obtain ⟨_, _, rfl, h1, h⟩ := tyas_cons h
  obtain ⟨_, _, rfl, h2, h⟩ := tyas_cons h
  obtain rfl := tyas_nil h
  obtain ⟨L, hL, _⟩ := tya_flts h1
  obtain ⟨x, rfl, _⟩ := tya_int h2
  exact r11 tbl xfl (fun k' e' => awake_ok k' (e.trans e')) (l := L) hL x

theorem ghosts_f1 : (Rows.filterGhostsRow.inPlace == Tryz.prog.inPlace 11) = true := by kernel_rfl
theorem ghosts_f2 : (Rows.filterGhostsRow.unfollowed == Tryz.prog.unfollowed 11) = true := by kernel_rfl
theorem ghosts_f3 : (Rows.filterGhostsRow.recurses == Tryz.prog.recurses 11) = true := by kernel_rfl
theorem ghosts_f4 : (Rows.filterGhostsRow.named == Tryz.prog.varsNamed 11) = true := by kernel_rfl
theorem ghosts_f5 : Tryz.prog.funcNamed "moveout/moveoutlaw05.FilterGhosts" = some 11 := by kernel_rfl
theorem ghosts_f6 : (Tryz.f11).isInstance Tryz.prog Rows.filterGhostsRow.origin Rows.filterGhostsRow.targs := of_decide_eq_true (by kernel_rfl)
theorem ghosts_f7 : (Tryz.f11).isWrapper Tryz.prog Rows.filterGhostsRow.wrapper Rows.filterGhostsRow.mainSum := by
  unfold Func.isWrapper; first | (rw [if_pos (by decide +kernel)]; kernel_rfl) | (rw [if_neg (by decide +kernel)]; exact ⟨rfl, rfl⟩)
theorem ghosts_f8 : ((Tryz.f11).params.all (Tryz.prog.readableRec ·)) = true := by kernel_rfl
theorem ghosts_closed : joinedFacts Tryz.prog 11 Tryz.f11 Rows.filterGhostsSpec Rows.filterGhostsRow = true := by
  unfold joinedFacts
  exact and2 (and2 (and2 (and2 (and2 (and2 (and2 (and2 (and2 (and2 (and2 (and2 (and2 (and2 (and2 (and2 (and2 (and2 (and2 (and2 (and2 (and2 (and2 (and2 (and2 (and2 (and2 (and2 (and2 (and2 (and2 (by kernel_rfl) laidOut) sc_maps) ghosts_f8) (by kernel_rfl)) (by kernel_rfl)) sc_stops) (by kernel_rfl)) sc_knobs) ghosts_f1) ghosts_f2) ghosts_f3) ghosts_f4)
    (by kernel_rfl)) (by kernel_rfl)) (by kernel_rfl)) (by kernel_rfl)) (by kernel_rfl)) (by kernel_rfl)) (by kernel_rfl)) (by kernel_rfl)) (by kernel_rfl)) sc_keys) (by kernel_rfl)) sc_heard) sc_enter) sc_lifts) sc_make) (by kernel_rfl)) (by kernel_rfl)) (by kernel_rfl)) (by kernel_rfl)

theorem ghosts_holds : Rows.FilterGhostsSaid :=
  OpenClaim.holds_of_wide 11 Tryz.f11 rfl rfl rfl rfl rfl rfl rfl ⟨rfl, rfl, rfl, rfl, rfl⟩ rfl rfl rfl rfl rfl ghosts_f5 Tryz.func11 ghosts_closed
    ghosts_f6 ghosts_f7 (fun os started H enc _ => ghosts_lifted os started H enc)

theorem ghosts_stand : ((Tryz.f11).params.toList.all fun u => !Tryz.prog.wantsStandIn u) = true := by kernel_rfl
theorem ghosts_goes : false = Rows.filterGhostsRow.goesBy Tryz.prog := by kernel_rfl
theorem ghosts_text : Rows.filterGhostsRow.wfByText (OpenSpec.ofChange Rows.filterGhostsSpec) = true := by kernel_rfl
theorem ghosts_card_holds : Rows.FilterGhostsCardSaid :=
  Claim7.holds_tied_plain_at .later [] [.data, .data, .data, .data] true (true, "935bb61a7861a9fad800c7aac49f604bfc9e5b8f028eba8f042cb1ef6ca0aa73") true ghosts_holds (fun _ h => by cases h) ghosts_text (fun _ h => by cases h) filterGhosts_row_tie rfl ⟨rfl, rfl⟩ sc_main rfl
    (fun f fn hf hfn => by
      obtain rfl : f = 11 := Option.some.inj (ghosts_f5.symm.trans hf) |>.symm
      obtain rfl : fn = Tryz.f11 := (Option.some.inj ((Tryz.func11).symm.trans hfn)).symm
      exact ⟨sc_looks, fun j t ht => by
        have hm : t ∈ (Tryz.f11).params.toList := by simpa using Array.mem_of_getElem? ht
        exact (show Tryz.prog.wantsStandIn t = false by simpa using List.all_eq_true.1 ghosts_stand t hm)⟩)
    ghosts_goes
#print axioms ghosts_card_holds
end Go.Proofs.YtbgldbmgjcgepaaGreatDoor
