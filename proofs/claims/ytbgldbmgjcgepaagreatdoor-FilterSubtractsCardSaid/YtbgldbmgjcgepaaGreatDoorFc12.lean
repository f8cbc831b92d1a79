/- FilterSubtracts: whatever the arguments, the call returns true, and each argument reads afterwards as it read before (the package-level variables that the row lists hold what it says: the card ties that to the program's text). -/
import Derived.Test.YtbgldbmgjcgepaaGreatDoorFc9
import Derived.Test.YtbgldbmgjcgepaaGreatDoorFc6
import Derived.Test.YtbgldbmgjcgepaaGreatDoorFc11
set_option linter.all false
namespace Go.Proofs.YtbgldbmgjcgepaaGreatDoor
open Go.ChangeShapes Go.WideShapes Go.RowKit Go.Abs

theorem subtracts_globs : globL Tryz.prog Rows.filterSubtractsRow.laid 11 = glob0 := by kernel_rfl
theorem subtracts_w1 : Tryz.prog.inits.idxOf? 4 = none := by kernel_rfl
theorem subtracts_w2 (os : Os) : Input.okWideB Tryz.prog ((World.laidAll Tryz.prog os Rows.filterSubtractsRow.laid).forCall (fun _ _ => 0) ⟨#[], #[.slice none 0 0, .slice none 0 0], []⟩) 4 ⟨#[], #[.slice none 0 0, .slice none 0 0], []⟩ = true := by kernel_rfl
theorem subtracts_w3 (os : Os) (H : Type) (enc : TypeId × Value → H) : Rows.filterSubtractsSpec.preB enc Tryz.prog Tryz.f4 Rows.filterSubtractsRow.domain false ((World.laidAll Tryz.prog os Rows.filterSubtractsRow.laid).forCall (fun _ _ => 0) ⟨#[], #[.slice none 0 0, .slice none 0 0], []⟩).memory #[.slice none 0 0, .slice none 0 0] 8 = true := by kernel_rfl
theorem subtracts_w4 (os : Os) (H : Type) (enc : TypeId × Value → H) : Rows.filterSubtractsSpec.sizedB enc Tryz.prog Tryz.f4 false ((World.laidAll Tryz.prog os Rows.filterSubtractsRow.laid).forCall (fun _ _ => 0) ⟨#[], #[.slice none 0 0, .slice none 0 0], []⟩).memory #[.slice none 0 0, .slice none 0 0] 8 = true := by kernel_rfl
theorem subtracts_ats : atsOf Tryz.prog 6 (Tryz.f4).params.toList = some [.one (.sl [.flt .f32]), .one (.sl [.flt .f32])] := by kernel_rfl
theorem subtracts_par : ∀ t ∈ (Tryz.f4).params.toList, Tryz.prog.readableRec t = true ∧ t < Tryz.prog.types.size := by decide +kernel
theorem subtracts_res : (Tryz.f4).resultTypes = #[4] := by kernel_rfl

set_option maxRecDepth 100000 in
theorem subtracts_lifted (os : Os) (started : os.Started) (H : Type) (enc : TypeId × Value → H) :
    ReturnsInHanded {} Tryz.checked os 4 .any (fun w args => (Rows.filterSubtractsSpec.pre enc Tryz.prog Tryz.f4 Rows.filterSubtractsRow.domain false w args ∧ laidMetH Tryz.prog Rows.filterSubtractsRow.laid w) ∧ sizedMet enc Tryz.prog Tryz.f4 (OpenSpec.ofChange Rows.filterSubtractsSpec) false w args)
      (Rows.filterSubtractsSpec.post enc Tryz.prog Tryz.f4 false true false false) := by
  refine returnsInHanded_of_change_and (C := Tryz.checked) (X := fun w _ => laidMetH Tryz.prog Rows.filterSubtractsRow.laid w) (fun _ _ _ hh h => h.of_heap hh) own started subtracts_w1 Tryz.func4
    (ChangeSpec.witness_shaped (enc := enc) (C := Tryz.checked) (os := os) (X := fun w _ => laidMetH Tryz.prog Rows.filterSubtractsRow.laid w) false (World.laidAll Tryz.prog os Rows.filterSubtractsRow.laid) #[.slice none 0 0, .slice none 0 0] 8 (World.laidAll_os _ _ _)
      (sc_shaped os _) (subtracts_w2 os) (subtracts_w3 os H enc) (subtracts_w4 os H enc) (sc_laid os _)) ?_
  intro W base args ds gs before hval hW _ _ hL _
  have hL' : laidMetH Tryz.prog Rows.filterSubtractsRow.laid W := hL
  rw [MakeChecks.laidMetH_plain _ _ _ (by kernel_rfl)] at hL'
  obtain ⟨aw, hz⟩ := AW.globals hL' (fun x hx => hx) 11 (nm := "math/bits.deBruijn64tab") (d := Rows.laid_math_bits_deBruijn64tab) (by unfold Rows.filterSubtractsRow; simp) (by kernel_rfl)
  rw [subtracts_globs] at aw
  obtain ⟨p, q, hA, hV, _⟩ := id hW
  obtain ⟨rfl, _⟩ := trodVars_none hV
  have hA' : DataW.TrodAll enc Tryz.prog W 0 (fun _ => true) true (Tryz.f4).params.toList args.toList ds p := hA
  rw [Tryz.params4] at hA'
  obtain ⟨_, _, d1, d2, _, _, _, rfl, _⟩ := trodAll_two hA'
  refine row_true (n := 6) (ats := [.one (.sl [.flt .f32]), .one (.sl [.flt .f32])]) laidOut subtracts_par subtracts_res Tryz.underlying4 rfl rfl subtracts_ats hval hW aw hz ?_
  intro k vs e h
  obtain ⟨_, _, rfl, h1, h⟩ := tyas_cons h
  obtain ⟨_, _, rfl, h2, h⟩ := tyas_cons h
  obtain rfl := tyas_nil h
  obtain ⟨L, hL, _⟩ := tya_flts h1
  obtain ⟨M, hM, _⟩ := tya_flts h2
  exact r4 tbl xfl (fun k' e' => awake_ok k' (e.trans e')) (l := L) (m := M) hL hM

theorem subtracts_f1 : (Rows.filterSubtractsRow.inPlace == Tryz.prog.inPlace 4) = true := by kernel_rfl
theorem subtracts_f2 : (Rows.filterSubtractsRow.unfollowed == Tryz.prog.unfollowed 4) = true := by kernel_rfl
theorem subtracts_f3 : (Rows.filterSubtractsRow.recurses == Tryz.prog.recurses 4) = true := by kernel_rfl
theorem subtracts_f4 : (Rows.filterSubtractsRow.named == Tryz.prog.varsNamed 4) = true := by kernel_rfl
theorem subtracts_f5 : Tryz.prog.funcNamed "moveout/moveoutlaw05.FilterSubtracts" = some 4 := by kernel_rfl
theorem subtracts_f6 : (Tryz.f4).isInstance Tryz.prog Rows.filterSubtractsRow.origin Rows.filterSubtractsRow.targs := of_decide_eq_true (by kernel_rfl)
theorem subtracts_f7 : (Tryz.f4).isWrapper Tryz.prog Rows.filterSubtractsRow.wrapper Rows.filterSubtractsRow.mainSum := by
  unfold Func.isWrapper; first | (rw [if_pos (by decide +kernel)]; kernel_rfl) | (rw [if_neg (by decide +kernel)]; exact ⟨rfl, rfl⟩)
theorem subtracts_f8 : ((Tryz.f4).params.all (Tryz.prog.readableRec ·)) = true := by kernel_rfl
theorem subtracts_closed : joinedFacts Tryz.prog 4 Tryz.f4 Rows.filterSubtractsSpec Rows.filterSubtractsRow = true := by
  unfold joinedFacts
  exact and2 (and2 (and2 (and2 (and2 (and2 (and2 (and2 (and2 (and2 (and2 (and2 (and2 (and2 (and2 (and2 (and2 (and2 (and2 (and2 (and2 (and2 (and2 (and2 (and2 (and2 (and2 (and2 (and2 (and2 (and2 (by kernel_rfl) laidOut) sc_maps) subtracts_f8) (by kernel_rfl)) (by kernel_rfl)) sc_stops) (by kernel_rfl)) sc_knobs) subtracts_f1) subtracts_f2) subtracts_f3) subtracts_f4)
    (by kernel_rfl)) (by kernel_rfl)) (by kernel_rfl)) (by kernel_rfl)) (by kernel_rfl)) (by kernel_rfl)) (by kernel_rfl)) (by kernel_rfl)) (by kernel_rfl)) sc_keys) (by kernel_rfl)) sc_heard) sc_enter) sc_lifts) sc_make) (by kernel_rfl)) (by kernel_rfl)) (by kernel_rfl)) (by kernel_rfl)

theorem subtracts_holds : Rows.FilterSubtractsSaid :=
  OpenClaim.holds_of_wide 4 Tryz.f4 rfl rfl rfl rfl rfl rfl rfl ⟨rfl, rfl, rfl, rfl, rfl⟩ rfl rfl rfl rfl rfl subtracts_f5 Tryz.func4 subtracts_closed
    subtracts_f6 subtracts_f7 (fun os started H enc _ => subtracts_lifted os started H enc)

theorem subtracts_stand : ((Tryz.f4).params.toList.all fun u => !Tryz.prog.wantsStandIn u) = true := by kernel_rfl
theorem subtracts_goes : false = Rows.filterSubtractsRow.goesBy Tryz.prog := by kernel_rfl
theorem subtracts_text : Rows.filterSubtractsRow.wfByText (OpenSpec.ofChange Rows.filterSubtractsSpec) = true := by kernel_rfl
theorem subtracts_card_holds : Rows.FilterSubtractsCardSaid :=
  Claim7.holds_tied_plain_at .later [] [.data, .data, .data, .data] true (true, "935bb61a7861a9fad800c7aac49f604bfc9e5b8f028eba8f042cb1ef6ca0aa73") true subtracts_holds (fun _ h => by cases h) subtracts_text (fun _ h => by cases h) filterSubtracts_row_tie rfl ⟨rfl, rfl⟩ sc_main rfl
    (fun f fn hf hfn => by
      obtain rfl : f = 4 := Option.some.inj (subtracts_f5.symm.trans hf) |>.symm
      obtain rfl : fn = Tryz.f4 := (Option.some.inj ((Tryz.func4).symm.trans hfn)).symm
      exact ⟨sc_looks, fun j t ht => by
        have hm : t ∈ (Tryz.f4).params.toList := by simpa using Array.mem_of_getElem? ht
        exact (show Tryz.prog.wantsStandIn t = false by simpa using List.all_eq_true.1 subtracts_stand t hm)⟩)
    subtracts_goes
#print axioms subtracts_card_holds
end Go.Proofs.YtbgldbmgjcgepaaGreatDoor
