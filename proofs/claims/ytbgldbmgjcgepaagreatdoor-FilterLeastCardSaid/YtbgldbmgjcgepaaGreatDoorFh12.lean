/- FilterLeast: whatever the arguments, the call returns true, and each argument reads afterwards as it read before (the package-level variables that the row lists hold what it says: the card ties that to the program's text). -/
import Derived.Test.YtbgldbmgjcgepaaGreatDoorFh9
import Derived.Test.YtbgldbmgjcgepaaGreatDoorFh6
import Derived.Test.YtbgldbmgjcgepaaGreatDoorFh11
set_option linter.all false
namespace Go.Proofs.YtbgldbmgjcgepaaGreatDoor
open Go.ChangeShapes Go.WideShapes Go.RowKit Go.Abs

theorem least_globs : globL Tryz.prog Rows.filterLeastRow.laid 11 = glob0 := by kernel_rfl
theorem least_w1 : Tryz.prog.inits.idxOf? 10 = none := by kernel_rfl
theorem least_w2 (os : Os) : Input.okWideB Tryz.prog ((World.laidAll Tryz.prog os Rows.filterLeastRow.laid).forCall (fun _ _ => 0) ⟨#[], #[.slice none 0 0, .slice none 0 0, .agg #[.int .i8 0, .int .i8 0, .int .i8 0, .int .i8 0]], []⟩) 10 ⟨#[], #[.slice none 0 0, .slice none 0 0, .agg #[.int .i8 0, .int .i8 0, .int .i8 0, .int .i8 0]], []⟩ = true := by kernel_rfl
theorem least_w3 (os : Os) (H : Type) (enc : TypeId × Value → H) : Rows.filterLeastSpec.preB enc Tryz.prog Tryz.f10 Rows.filterLeastRow.domain false ((World.laidAll Tryz.prog os Rows.filterLeastRow.laid).forCall (fun _ _ => 0) ⟨#[], #[.slice none 0 0, .slice none 0 0, .agg #[.int .i8 0, .int .i8 0, .int .i8 0, .int .i8 0]], []⟩).memory #[.slice none 0 0, .slice none 0 0, .agg #[.int .i8 0, .int .i8 0, .int .i8 0, .int .i8 0]] 8 = true := by kernel_rfl
theorem least_w4 (os : Os) (H : Type) (enc : TypeId × Value → H) : Rows.filterLeastSpec.sizedB enc Tryz.prog Tryz.f10 false ((World.laidAll Tryz.prog os Rows.filterLeastRow.laid).forCall (fun _ _ => 0) ⟨#[], #[.slice none 0 0, .slice none 0 0, .agg #[.int .i8 0, .int .i8 0, .int .i8 0, .int .i8 0]], []⟩).memory #[.slice none 0 0, .slice none 0 0, .agg #[.int .i8 0, .int .i8 0, .int .i8 0, .int .i8 0]] 8 = true := by kernel_rfl
theorem least_ats : atsOf Tryz.prog 6 (Tryz.f10).params.toList = some [.one (.sl [.flt .f32]), .one (.sl [.flt .f32]), .agg (List.replicate 4 (.int .i8))] := by kernel_rfl
theorem least_par : ∀ t ∈ (Tryz.f10).params.toList, Tryz.prog.readableRec t = true ∧ t < Tryz.prog.types.size := by decide +kernel
theorem least_res : (Tryz.f10).resultTypes = #[4] := by kernel_rfl

set_option maxRecDepth 100000 in
theorem least_lifted (os : Os) (started : os.Started) (H : Type) (enc : TypeId × Value → H) :
    ReturnsInHanded {} Tryz.checked os 10 .any (fun w args => (Rows.filterLeastSpec.pre enc Tryz.prog Tryz.f10 Rows.filterLeastRow.domain false w args ∧ laidMetH Tryz.prog Rows.filterLeastRow.laid w) ∧ sizedMet enc Tryz.prog Tryz.f10 (OpenSpec.ofChange Rows.filterLeastSpec) false w args)
      (Rows.filterLeastSpec.post enc Tryz.prog Tryz.f10 false true false false) := by
  refine returnsInHanded_of_change_and (C := Tryz.checked) (X := fun w _ => laidMetH Tryz.prog Rows.filterLeastRow.laid w) (fun _ _ _ hh h => h.of_heap hh) own started least_w1 Tryz.func10
    (ChangeSpec.witness_shaped (enc := enc) (C := Tryz.checked) (os := os) (X := fun w _ => laidMetH Tryz.prog Rows.filterLeastRow.laid w) false (World.laidAll Tryz.prog os Rows.filterLeastRow.laid) #[.slice none 0 0, .slice none 0 0, .agg #[.int .i8 0, .int .i8 0, .int .i8 0, .int .i8 0]] 8 (World.laidAll_os _ _ _)
      (sc_shaped os _) (least_w2 os) (least_w3 os H enc) (least_w4 os H enc) (sc_laid os _)) ?_
  intro W base args ds gs before hval hW _ _ hL _
  have hL' : laidMetH Tryz.prog Rows.filterLeastRow.laid W := hL
  rw [MakeChecks.laidMetH_plain _ _ _ (by kernel_rfl)] at hL'
  obtain ⟨aw, hz⟩ := AW.globals hL' (fun x hx => hx) 11 (nm := "math/bits.deBruijn64tab") (d := Rows.laid_math_bits_deBruijn64tab) (by unfold Rows.filterLeastRow; simp) (by kernel_rfl)
  rw [least_globs] at aw
  obtain ⟨p, q, hA, hV, _⟩ := id hW
  obtain ⟨rfl, _⟩ := trodVars_none hV
  have hA' : DataW.TrodAll enc Tryz.prog W 0 (fun _ => true) true (Tryz.f10).params.toList args.toList ds p := hA
  rw [Tryz.params10] at hA'
  obtain ⟨_, _, _, d1, d2, d3, _, _, _, _, rfl, _⟩ := trodAll_three hA'
  refine row_true (n := 6) (ats := [.one (.sl [.flt .f32]), .one (.sl [.flt .f32]), .agg (List.replicate 4 (.int .i8))]) laidOut least_par least_res Tryz.underlying4 rfl rfl least_ats hval hW aw hz ?_
  intro k vs e h
  obtain ⟨_, _, rfl, h1, h⟩ := tyas_cons h
  obtain ⟨_, _, rfl, h2, h⟩ := tyas_cons h
  obtain ⟨_, _, rfl, h3, h⟩ := tyas_cons h
  obtain rfl := tyas_nil h
  obtain ⟨L, hL, _⟩ := tya_flts h1
  obtain ⟨M, hM, _⟩ := tya_flts h2
  obtain ⟨nn, rfl, hn4, hnb⟩ := tya_arr h3
  exact r10 tbl xfl (fun k' e' => awake_ok k' (e.trans e')) (l := L) (m := M) hL hM hn4 (fun y hy => i8_bd (hnb y hy))

theorem least_f1 : (Rows.filterLeastRow.inPlace == Tryz.prog.inPlace 10) = true := by kernel_rfl
theorem least_f2 : (Rows.filterLeastRow.unfollowed == Tryz.prog.unfollowed 10) = true := by kernel_rfl
theorem least_f3 : (Rows.filterLeastRow.recurses == Tryz.prog.recurses 10) = true := by kernel_rfl
theorem least_f4 : (Rows.filterLeastRow.named == Tryz.prog.varsNamed 10) = true := by kernel_rfl
theorem least_f5 : Tryz.prog.funcNamed "moveout/moveoutlaw05.FilterLeast" = some 10 := by kernel_rfl
theorem least_f6 : (Tryz.f10).isInstance Tryz.prog Rows.filterLeastRow.origin Rows.filterLeastRow.targs := of_decide_eq_true (by kernel_rfl)
theorem least_f7 : (Tryz.f10).isWrapper Tryz.prog Rows.filterLeastRow.wrapper Rows.filterLeastRow.mainSum := by
  unfold Func.isWrapper; first | (rw [if_pos (by decide +kernel)]; kernel_rfl) | (rw [if_neg (by decide +kernel)]; exact ⟨rfl, rfl⟩)
theorem least_f8 : ((Tryz.f10).params.all (Tryz.prog.readableRec ·)) = true := by kernel_rfl
theorem least_closed : joinedFacts Tryz.prog 10 Tryz.f10 Rows.filterLeastSpec Rows.filterLeastRow = true := by
  unfold joinedFacts
  exact and2 (and2 (and2 (and2 (and2 (and2 (and2 (and2 (and2 (and2 (and2 (and2 (and2 (and2 (and2 (and2 (and2 (and2 (and2 (and2 (and2 (and2 (and2 (and2 (and2 (and2 (and2 (and2 (and2 (and2 (and2 (by kernel_rfl) laidOut) sc_maps) least_f8) (by kernel_rfl)) (by kernel_rfl)) sc_stops) (by kernel_rfl)) sc_knobs) least_f1) least_f2) least_f3) least_f4)
    (by kernel_rfl)) (by kernel_rfl)) (by kernel_rfl)) (by kernel_rfl)) (by kernel_rfl)) (by kernel_rfl)) (by kernel_rfl)) (by kernel_rfl)) (by kernel_rfl)) sc_keys) (by kernel_rfl)) sc_heard) sc_enter) sc_lifts) sc_make) (by kernel_rfl)) (by kernel_rfl)) (by kernel_rfl)) (by kernel_rfl)

theorem least_holds : Rows.FilterLeastSaid :=
  OpenClaim.holds_of_wide 10 Tryz.f10 rfl rfl rfl rfl rfl rfl rfl ⟨rfl, rfl, rfl, rfl, rfl⟩ rfl rfl rfl rfl rfl least_f5 Tryz.func10 least_closed
    least_f6 least_f7 (fun os started H enc _ => least_lifted os started H enc)

theorem least_stand : ((Tryz.f10).params.toList.all fun u => !Tryz.prog.wantsStandIn u) = true := by kernel_rfl
theorem least_goes : false = Rows.filterLeastRow.goesBy Tryz.prog := by kernel_rfl
theorem least_text : Rows.filterLeastRow.wfByText (OpenSpec.ofChange Rows.filterLeastSpec) = true := by kernel_rfl
theorem least_card_holds : Rows.FilterLeastCardSaid :=
  Claim7.holds_tied_plain_at .later [] [.data, .data, .data, .data] true (true, "935bb61a7861a9fad800c7aac49f604bfc9e5b8f028eba8f042cb1ef6ca0aa73") true least_holds (fun _ h => by cases h) least_text (fun _ h => by cases h) filterLeast_row_tie rfl ⟨rfl, rfl⟩ sc_main rfl
    (fun f fn hf hfn => by
      obtain rfl : f = 10 := Option.some.inj (least_f5.symm.trans hf) |>.symm
      obtain rfl : fn = Tryz.f10 := (Option.some.inj ((Tryz.func10).symm.trans hfn)).symm
      exact ⟨sc_looks, fun j t ht => by
        have hm : t ∈ (Tryz.f10).params.toList := by simpa using Array.mem_of_getElem? ht
        exact (show Tryz.prog.wantsStandIn t = false by simpa using List.all_eq_true.1 least_stand t hm)⟩)
    least_goes
#print axioms least_card_holds
end Go.Proofs.YtbgldbmgjcgepaaGreatDoor
