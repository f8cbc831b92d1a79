/- FilterPredicts: whatever the arguments, the call returns true, and each argument reads afterwards as it read before (the package-level variables that the row lists hold what it says: the card ties that to the program's text). -/
import Derived.Test.YtbgldbmgjcgepaaGreatDoorFf9
import Derived.Test.YtbgldbmgjcgepaaGreatDoorFf6
import Derived.Test.YtbgldbmgjcgepaaGreatDoorFf11
set_option linter.all false
namespace Go.Proofs.YtbgldbmgjcgepaaGreatDoor
open Go.ChangeShapes Go.WideShapes Go.RowKit Go.Abs

theorem predicts_globs : globL Tryz.prog Rows.filterPredictsRow.laid 11 = glob0 := by kernel_rfl
theorem predicts_w1 : Tryz.prog.inits.idxOf? 9 = none := by kernel_rfl
theorem predicts_w2 (os : Os) : Input.okWideB Tryz.prog ((World.laidAll Tryz.prog os Rows.filterPredictsRow.laid).forCall (fun _ _ => 0) ⟨#[], #[.slice none 0 0, .agg #[.int .i64 0, .int .i64 0, .int .i64 0]], []⟩) 9 ⟨#[], #[.slice none 0 0, .agg #[.int .i64 0, .int .i64 0, .int .i64 0]], []⟩ = true := by kernel_rfl
theorem predicts_w3 (os : Os) (H : Type) (enc : TypeId × Value → H) : Rows.filterPredictsSpec.preB enc Tryz.prog Tryz.f9 Rows.filterPredictsRow.domain false ((World.laidAll Tryz.prog os Rows.filterPredictsRow.laid).forCall (fun _ _ => 0) ⟨#[], #[.slice none 0 0, .agg #[.int .i64 0, .int .i64 0, .int .i64 0]], []⟩).memory #[.slice none 0 0, .agg #[.int .i64 0, .int .i64 0, .int .i64 0]] 8 = true := by kernel_rfl
theorem predicts_w4 (os : Os) (H : Type) (enc : TypeId × Value → H) : Rows.filterPredictsSpec.sizedB enc Tryz.prog Tryz.f9 false ((World.laidAll Tryz.prog os Rows.filterPredictsRow.laid).forCall (fun _ _ => 0) ⟨#[], #[.slice none 0 0, .agg #[.int .i64 0, .int .i64 0, .int .i64 0]], []⟩).memory #[.slice none 0 0, .agg #[.int .i64 0, .int .i64 0, .int .i64 0]] 8 = true := by kernel_rfl
theorem predicts_ats : atsOf Tryz.prog 6 (Tryz.f9).params.toList = some [.one (.sl [.flt .f32]), .agg (List.replicate 3 (.int .i64))] := by kernel_rfl
theorem predicts_par : ∀ t ∈ (Tryz.f9).params.toList, Tryz.prog.readableRec t = true ∧ t < Tryz.prog.types.size := by decide +kernel
theorem predicts_res : (Tryz.f9).resultTypes = #[4] := by kernel_rfl

set_option maxRecDepth 100000 in
theorem predicts_lifted (os : Os) (started : os.Started) (H : Type) (enc : TypeId × Value → H) :
    ReturnsInHanded {} Tryz.checked os 9 .any (fun w args => (Rows.filterPredictsSpec.pre enc Tryz.prog Tryz.f9 Rows.filterPredictsRow.domain false w args ∧ laidMetH Tryz.prog Rows.filterPredictsRow.laid w) ∧ sizedMet enc Tryz.prog Tryz.f9 (OpenSpec.ofChange Rows.filterPredictsSpec) false w args)
      (Rows.filterPredictsSpec.post enc Tryz.prog Tryz.f9 false true false false) := by
  refine returnsInHanded_of_change_and (C := Tryz.checked) (X := fun w _ => laidMetH Tryz.prog Rows.filterPredictsRow.laid w) (fun _ _ _ hh h => h.of_heap hh) own started predicts_w1 Tryz.func9
    (ChangeSpec.witness_shaped (enc := enc) (C := Tryz.checked) (os := os) (X := fun w _ => laidMetH Tryz.prog Rows.filterPredictsRow.laid w) false (World.laidAll Tryz.prog os Rows.filterPredictsRow.laid) #[.slice none 0 0, .agg #[.int .i64 0, .int .i64 0, .int .i64 0]] 8 (World.laidAll_os _ _ _)
      (sc_shaped os _) (predicts_w2 os) (predicts_w3 os H enc) (predicts_w4 os H enc) (sc_laid os _)) ?_
  intro W base args ds gs before hval hW _ _ hL _
  have hL' : laidMetH Tryz.prog Rows.filterPredictsRow.laid W := hL
  rw [MakeChecks.laidMetH_plain _ _ _ (by kernel_rfl)] at hL'
  obtain ⟨aw, hz⟩ := AW.globals hL' (fun x hx => hx) 11 (nm := "math/bits.deBruijn64tab") (d := Rows.laid_math_bits_deBruijn64tab) (by unfold Rows.filterPredictsRow; simp) (by kernel_rfl)
  rw [predicts_globs] at aw
  obtain ⟨p, q, hA, hV, _⟩ := id hW
  obtain ⟨rfl, _⟩ := trodVars_none hV
  have hA' : DataW.TrodAll enc Tryz.prog W 0 (fun _ => true) true (Tryz.f9).params.toList args.toList ds p := hA
  rw [Tryz.params9] at hA'
  obtain ⟨_, _, d1, d2, _, _, _, rfl, _⟩ := trodAll_two hA'
  refine row_true (n := 6) (ats := [.one (.sl [.flt .f32]), .agg (List.replicate 3 (.int .i64))]) laidOut predicts_par predicts_res Tryz.underlying4 rfl rfl predicts_ats hval hW aw hz ?_
  intro k vs e h
  obtain ⟨_, _, rfl, h1, h⟩ := tyas_cons h
  obtain ⟨_, _, rfl, h2, h⟩ := tyas_cons h
  obtain rfl := tyas_nil h
  obtain ⟨L, hL, _⟩ := tya_flts h1
  obtain ⟨nn, rfl, hn3, _⟩ := tya_arr h2
  obtain ⟨n0, n1, n2, rfl⟩ := len3p hn3
  exact r9 tbl xfl (fun k' e' => awake_ok k' (e.trans e')) (l := L) hL (n0, n1, n2)

theorem predicts_f1 : (Rows.filterPredictsRow.inPlace == Tryz.prog.inPlace 9) = true := by kernel_rfl
theorem predicts_f2 : (Rows.filterPredictsRow.unfollowed == Tryz.prog.unfollowed 9) = true := by kernel_rfl
theorem predicts_f3 : (Rows.filterPredictsRow.recurses == Tryz.prog.recurses 9) = true := by kernel_rfl
theorem predicts_f4 : (Rows.filterPredictsRow.named == Tryz.prog.varsNamed 9) = true := by kernel_rfl
theorem predicts_f5 : Tryz.prog.funcNamed "moveout/moveoutlaw05.FilterPredicts" = some 9 := by kernel_rfl
theorem predicts_f6 : (Tryz.f9).isInstance Tryz.prog Rows.filterPredictsRow.origin Rows.filterPredictsRow.targs := of_decide_eq_true (by kernel_rfl)
theorem predicts_f7 : (Tryz.f9).isWrapper Tryz.prog Rows.filterPredictsRow.wrapper Rows.filterPredictsRow.mainSum := by
  unfold Func.isWrapper; first | (rw [if_pos (by decide +kernel)]; kernel_rfl) | (rw [if_neg (by decide +kernel)]; exact ⟨rfl, rfl⟩)
theorem predicts_f8 : ((Tryz.f9).params.all (Tryz.prog.readableRec ·)) = true := by kernel_rfl
theorem predicts_closed : joinedFacts Tryz.prog 9 Tryz.f9 Rows.filterPredictsSpec Rows.filterPredictsRow = true := by
  unfold joinedFacts
  exact and2 (and2 (and2 (and2 (and2 (and2 (and2 (and2 (and2 (and2 (and2 (and2 (and2 (and2 (and2 (and2 (and2 (and2 (and2 (and2 (and2 (and2 (and2 (and2 (and2 (and2 (and2 (and2 (and2 (and2 (and2 (by kernel_rfl) laidOut) sc_maps) predicts_f8) (by kernel_rfl)) (by kernel_rfl)) sc_stops) (by kernel_rfl)) sc_knobs) predicts_f1) predicts_f2) predicts_f3) predicts_f4)
    (by kernel_rfl)) (by kernel_rfl)) (by kernel_rfl)) (by kernel_rfl)) (by kernel_rfl)) (by kernel_rfl)) (by kernel_rfl)) (by kernel_rfl)) (by kernel_rfl)) sc_keys) (by kernel_rfl)) sc_heard) sc_enter) sc_lifts) sc_make) (by kernel_rfl)) (by kernel_rfl)) (by kernel_rfl)) (by kernel_rfl)

theorem predicts_holds : Rows.FilterPredictsSaid :=
  OpenClaim.holds_of_wide 9 Tryz.f9 rfl rfl rfl rfl rfl rfl rfl ⟨rfl, rfl, rfl, rfl, rfl⟩ rfl rfl rfl rfl rfl predicts_f5 Tryz.func9 predicts_closed
    predicts_f6 predicts_f7 (fun os started H enc _ => predicts_lifted os started H enc)

theorem predicts_stand : ((Tryz.f9).params.toList.all fun u => !Tryz.prog.wantsStandIn u) = true := by kernel_rfl
theorem predicts_goes : false = Rows.filterPredictsRow.goesBy Tryz.prog := by kernel_rfl
theorem predicts_text : Rows.filterPredictsRow.wfByText (OpenSpec.ofChange Rows.filterPredictsSpec) = true := by kernel_rfl
theorem predicts_card_holds : Rows.FilterPredictsCardSaid :=
  Claim7.holds_tied_plain_at .later [] [.data, .data, .data, .data] true (true, "935bb61a7861a9fad800c7aac49f604bfc9e5b8f028eba8f042cb1ef6ca0aa73") true predicts_holds (fun _ h => by cases h) predicts_text (fun _ h => by cases h) filterPredicts_row_tie rfl ⟨rfl, rfl⟩ sc_main rfl
    (fun f fn hf hfn => by
      obtain rfl : f = 9 := Option.some.inj (predicts_f5.symm.trans hf) |>.symm
      obtain rfl : fn = Tryz.f9 := (Option.some.inj ((Tryz.func9).symm.trans hfn)).symm
      exact ⟨sc_looks, fun j t ht => by
        have hm : t ∈ (Tryz.f9).params.toList := by simpa using Array.mem_of_getElem? ht
        exact (show Tryz.prog.wantsStandIn t = false by simpa using List.all_eq_true.1 predicts_stand t hm)⟩)
    predicts_goes
#print axioms predicts_card_holds
end Go.Proofs.YtbgldbmgjcgepaaGreatDoor
