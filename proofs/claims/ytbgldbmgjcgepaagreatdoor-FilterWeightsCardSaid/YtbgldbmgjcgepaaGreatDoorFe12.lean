/- FilterWeights: whatever the arguments, the call returns true, and each argument reads afterwards as it read before (the package-level variables that the row lists hold what it says: the card ties that to the program's text). -/
import Derived.Test.YtbgldbmgjcgepaaGreatDoorFe9
import Derived.Test.YtbgldbmgjcgepaaGreatDoorFe6
import Derived.Test.YtbgldbmgjcgepaaGreatDoorFe11
set_option linter.all false
namespace Go.Proofs.YtbgldbmgjcgepaaGreatDoor
open Go.ChangeShapes Go.WideShapes Go.RowKit Go.Abs

theorem weights_globs : globL Tryz.prog Rows.filterWeightsRow.laid 11 = glob0 := by kernel_rfl
theorem weights_w1 : Tryz.prog.inits.idxOf? 5 = none := by kernel_rfl
theorem weights_w2 (os : Os) : Input.okWideB Tryz.prog ((World.laidAll Tryz.prog os Rows.filterWeightsRow.laid).forCall (fun _ _ => 0) ⟨#[], #[.slice none 0 0, .agg #[.int .i64 0, .int .i64 0, .int .i64 0]], []⟩) 5 ⟨#[], #[.slice none 0 0, .agg #[.int .i64 0, .int .i64 0, .int .i64 0]], []⟩ = true := by kernel_rfl
theorem weights_w3 (os : Os) (H : Type) (enc : TypeId × Value → H) : Rows.filterWeightsSpec.preB enc Tryz.prog Tryz.f5 Rows.filterWeightsRow.domain false ((World.laidAll Tryz.prog os Rows.filterWeightsRow.laid).forCall (fun _ _ => 0) ⟨#[], #[.slice none 0 0, .agg #[.int .i64 0, .int .i64 0, .int .i64 0]], []⟩).memory #[.slice none 0 0, .agg #[.int .i64 0, .int .i64 0, .int .i64 0]] 8 = true := by kernel_rfl
theorem weights_w4 (os : Os) (H : Type) (enc : TypeId × Value → H) : Rows.filterWeightsSpec.sizedB enc Tryz.prog Tryz.f5 false ((World.laidAll Tryz.prog os Rows.filterWeightsRow.laid).forCall (fun _ _ => 0) ⟨#[], #[.slice none 0 0, .agg #[.int .i64 0, .int .i64 0, .int .i64 0]], []⟩).memory #[.slice none 0 0, .agg #[.int .i64 0, .int .i64 0, .int .i64 0]] 8 = true := by kernel_rfl
theorem weights_ats : atsOf Tryz.prog 6 (Tryz.f5).params.toList = some [.one (.sl [.flt .f32]), .agg (List.replicate 3 (.int .i64))] := by kernel_rfl
theorem weights_par : ∀ t ∈ (Tryz.f5).params.toList, Tryz.prog.readableRec t = true ∧ t < Tryz.prog.types.size := by decide +kernel
theorem weights_res : (Tryz.f5).resultTypes = #[4] := by kernel_rfl

set_option maxRecDepth 100000 in
theorem weights_lifted (os : Os) (started : os.Started) (H : Type) (enc : TypeId × Value → H) :
    ReturnsInHanded {} Tryz.checked os 5 .any (fun w args => (Rows.filterWeightsSpec.pre enc Tryz.prog Tryz.f5 Rows.filterWeightsRow.domain false w args ∧ laidMetH Tryz.prog Rows.filterWeightsRow.laid w) ∧ sizedMet enc Tryz.prog Tryz.f5 (OpenSpec.ofChange Rows.filterWeightsSpec) false w args)
      (Rows.filterWeightsSpec.post enc Tryz.prog Tryz.f5 false true false false) := by
  refine returnsInHanded_of_change_and (C := Tryz.checked) (X := fun w _ => laidMetH Tryz.prog Rows.filterWeightsRow.laid w) (fun _ _ _ hh h => h.of_heap hh) own started weights_w1 Tryz.func5
    (ChangeSpec.witness_shaped (enc := enc) (C := Tryz.checked) (os := os) (X := fun w _ => laidMetH Tryz.prog Rows.filterWeightsRow.laid w) false (World.laidAll Tryz.prog os Rows.filterWeightsRow.laid) #[.slice none 0 0, .agg #[.int .i64 0, .int .i64 0, .int .i64 0]] 8 (World.laidAll_os _ _ _)
      (sc_shaped os _) (weights_w2 os) (weights_w3 os H enc) (weights_w4 os H enc) (sc_laid os _)) ?_
  intro W base args ds gs before hval hW _ _ hL _
  have hL' : laidMetH Tryz.prog Rows.filterWeightsRow.laid W := hL
  rw [MakeChecks.laidMetH_plain _ _ _ (by kernel_rfl)] at hL'
  obtain ⟨aw, hz⟩ := AW.globals hL' (fun x hx => hx) 11 (nm := "math/bits.deBruijn64tab") (d := Rows.laid_math_bits_deBruijn64tab) (by unfold Rows.filterWeightsRow; simp) (by kernel_rfl)
  rw [weights_globs] at aw
  obtain ⟨p, q, hA, hV, _⟩ := id hW
  obtain ⟨rfl, _⟩ := trodVars_none hV
  have hA' : DataW.TrodAll enc Tryz.prog W 0 (fun _ => true) true (Tryz.f5).params.toList args.toList ds p := hA
  rw [Tryz.params5] at hA'
  obtain ⟨_, _, d1, d2, _, _, _, rfl, _⟩ := trodAll_two hA'
  refine row_true (n := 6) (ats := [.one (.sl [.flt .f32]), .agg (List.replicate 3 (.int .i64))]) laidOut weights_par weights_res Tryz.underlying4 rfl rfl weights_ats hval hW aw hz ?_
  intro k vs e h
  obtain ⟨_, _, rfl, h1, h⟩ := tyas_cons h
  obtain ⟨_, _, rfl, h2, h⟩ := tyas_cons h
  obtain rfl := tyas_nil h
  obtain ⟨L, hL, _⟩ := tya_flts h1
  obtain ⟨nn, rfl, hn3, _⟩ := tya_arr h2
  obtain ⟨n0, n1, n2, rfl⟩ := len3 hn3
  exact r5 tbl xfl srt (fun k' e' => awake_ok k' (e.trans e')) (l := L) hL n0 n1 n2

theorem weights_f1 : (Rows.filterWeightsRow.inPlace == Tryz.prog.inPlace 5) = true := by kernel_rfl
theorem weights_f2 : (Rows.filterWeightsRow.unfollowed == Tryz.prog.unfollowed 5) = true := by kernel_rfl
theorem weights_f3 : (Rows.filterWeightsRow.recurses == Tryz.prog.recurses 5) = true := by kernel_rfl
theorem weights_f4 : (Rows.filterWeightsRow.named == Tryz.prog.varsNamed 5) = true := by kernel_rfl
theorem weights_f5 : Tryz.prog.funcNamed "moveout/moveoutlaw05.FilterWeights" = some 5 := by kernel_rfl
theorem weights_f6 : (Tryz.f5).isInstance Tryz.prog Rows.filterWeightsRow.origin Rows.filterWeightsRow.targs := of_decide_eq_true (by kernel_rfl)
theorem weights_f7 : (Tryz.f5).isWrapper Tryz.prog Rows.filterWeightsRow.wrapper Rows.filterWeightsRow.mainSum := by
  unfold Func.isWrapper; first | (rw [if_pos (by decide +kernel)]; kernel_rfl) | (rw [if_neg (by decide +kernel)]; exact ⟨rfl, rfl⟩)
theorem weights_f8 : ((Tryz.f5).params.all (Tryz.prog.readableRec ·)) = true := by kernel_rfl
theorem weights_closed : joinedFacts Tryz.prog 5 Tryz.f5 Rows.filterWeightsSpec Rows.filterWeightsRow = true := by
  unfold joinedFacts
  exact and2 (and2 (and2 (and2 (and2 (and2 (and2 (and2 (and2 (and2 (and2 (and2 (and2 (and2 (and2 (and2 (and2 (and2 (and2 (and2 (and2 (and2 (and2 (and2 (and2 (and2 (and2 (and2 (and2 (and2 (and2 (by kernel_rfl) laidOut) sc_maps) weights_f8) (by kernel_rfl)) (by kernel_rfl)) sc_stops) (by kernel_rfl)) sc_knobs) weights_f1) weights_f2) weights_f3) weights_f4)
    (by kernel_rfl)) (by kernel_rfl)) (by kernel_rfl)) (by kernel_rfl)) (by kernel_rfl)) (by kernel_rfl)) (by kernel_rfl)) (by kernel_rfl)) (by kernel_rfl)) sc_keys) (by kernel_rfl)) sc_heard) sc_enter) sc_lifts) sc_make) (by kernel_rfl)) (by kernel_rfl)) (by kernel_rfl)) (by kernel_rfl)

theorem weights_holds : Rows.FilterWeightsSaid :=
  OpenClaim.holds_of_wide 5 Tryz.f5 rfl rfl rfl rfl rfl rfl rfl ⟨rfl, rfl, rfl, rfl, rfl⟩ rfl rfl rfl rfl rfl weights_f5 Tryz.func5 weights_closed
    weights_f6 weights_f7 (fun os started H enc _ => weights_lifted os started H enc)

theorem weights_stand : ((Tryz.f5).params.toList.all fun u => !Tryz.prog.wantsStandIn u) = true := by kernel_rfl
theorem weights_goes : false = Rows.filterWeightsRow.goesBy Tryz.prog := by kernel_rfl
theorem weights_text : Rows.filterWeightsRow.wfByText (OpenSpec.ofChange Rows.filterWeightsSpec) = true := by kernel_rfl
theorem weights_card_holds : Rows.FilterWeightsCardSaid :=
  Claim7.holds_tied_plain_at .later [] [.data, .data, .data, .data] true (true, "935bb61a7861a9fad800c7aac49f604bfc9e5b8f028eba8f042cb1ef6ca0aa73") true weights_holds (fun _ h => by cases h) weights_text (fun _ h => by cases h) filterWeights_row_tie rfl ⟨rfl, rfl⟩ sc_main rfl
    (fun f fn hf hfn => by
      obtain rfl : f = 5 := Option.some.inj (weights_f5.symm.trans hf) |>.symm
      obtain rfl : fn = Tryz.f5 := (Option.some.inj ((Tryz.func5).symm.trans hfn)).symm
      exact ⟨sc_looks, fun j t ht => by
        have hm : t ∈ (Tryz.f5).params.toList := by simpa using Array.mem_of_getElem? ht
        exact (show Tryz.prog.wantsStandIn t = false by simpa using List.all_eq_true.1 weights_stand t hm)⟩)
    weights_goes
#print axioms weights_card_holds
end Go.Proofs.YtbgldbmgjcgepaaGreatDoor
