/- FilterAdjoint: whatever the arguments, the call returns true, and each argument reads afterwards as it read before (the package-level variables that the row lists hold what it says: the card ties that to the program's text). -/
import Derived.Test.YtbgldbmgjcgepaaGreatDoorFv9
import Derived.Test.YtbgldbmgjcgepaaGreatDoorFv6
import Derived.Test.YtbgldbmgjcgepaaGreatDoorFv11
set_option linter.all false
namespace Go.Proofs.YtbgldbmgjcgepaaGreatDoor
open Go.ChangeShapes Go.WideShapes Go.RowKit Go.Abs

theorem adjoint_globs : globL Tryz.prog Rows.filterAdjointRow.laid 11 = glob0 := by kernel_rfl
theorem adjoint_w1 : Tryz.prog.inits.idxOf? 7 = none := by kernel_rfl
theorem adjoint_w2 (os : Os) : Input.okWideB Tryz.prog ((World.laidAll Tryz.prog os Rows.filterAdjointRow.laid).forCall (fun _ _ => 0) ⟨#[], #[.slice none 0 0, .slice none 0 0, .agg #[.slice none 0 0, .slice none 0 0]], []⟩) 7 ⟨#[], #[.slice none 0 0, .slice none 0 0, .agg #[.slice none 0 0, .slice none 0 0]], []⟩ = true := by kernel_rfl
theorem adjoint_w3 (os : Os) (H : Type) (enc : TypeId × Value → H) : Rows.filterAdjointSpec.preB enc Tryz.prog Tryz.f7 Rows.filterAdjointRow.domain false ((World.laidAll Tryz.prog os Rows.filterAdjointRow.laid).forCall (fun _ _ => 0) ⟨#[], #[.slice none 0 0, .slice none 0 0, .agg #[.slice none 0 0, .slice none 0 0]], []⟩).memory #[.slice none 0 0, .slice none 0 0, .agg #[.slice none 0 0, .slice none 0 0]] 8 = true := by kernel_rfl
theorem adjoint_w4 (os : Os) (H : Type) (enc : TypeId × Value → H) : Rows.filterAdjointSpec.sizedB enc Tryz.prog Tryz.f7 false ((World.laidAll Tryz.prog os Rows.filterAdjointRow.laid).forCall (fun _ _ => 0) ⟨#[], #[.slice none 0 0, .slice none 0 0, .agg #[.slice none 0 0, .slice none 0 0]], []⟩).memory #[.slice none 0 0, .slice none 0 0, .agg #[.slice none 0 0, .slice none 0 0]] 8 = true := by kernel_rfl
theorem adjoint_ats : atsOf Tryz.prog 6 (Tryz.f7).params.toList = some [.one (.sl [.int .i64]), .one (.sl [.int .i64]), .agg [.sl [.flt .f32], .sl [.flt .f32]]] := by kernel_rfl
theorem adjoint_par : ∀ t ∈ (Tryz.f7).params.toList, Tryz.prog.readableRec t = true ∧ t < Tryz.prog.types.size := by decide +kernel
theorem adjoint_res : (Tryz.f7).resultTypes = #[4] := by kernel_rfl

set_option maxRecDepth 100000 in
theorem adjoint_lifted (os : Os) (started : os.Started) (H : Type) (enc : TypeId × Value → H) :
    ReturnsInHanded {} Tryz.checked os 7 .any (fun w args => (Rows.filterAdjointSpec.pre enc Tryz.prog Tryz.f7 Rows.filterAdjointRow.domain false w args ∧ laidMetH Tryz.prog Rows.filterAdjointRow.laid w) ∧ sizedMet enc Tryz.prog Tryz.f7 (OpenSpec.ofChange Rows.filterAdjointSpec) false w args)
      (Rows.filterAdjointSpec.post enc Tryz.prog Tryz.f7 false true false false) := by
  refine returnsInHanded_of_change_and (C := Tryz.checked) (X := fun w _ => laidMetH Tryz.prog Rows.filterAdjointRow.laid w) (fun _ _ _ hh h => h.of_heap hh) own started adjoint_w1 Tryz.func7
    (ChangeSpec.witness_shaped (enc := enc) (C := Tryz.checked) (os := os) (X := fun w _ => laidMetH Tryz.prog Rows.filterAdjointRow.laid w) false (World.laidAll Tryz.prog os Rows.filterAdjointRow.laid) #[.slice none 0 0, .slice none 0 0, .agg #[.slice none 0 0, .slice none 0 0]] 8 (World.laidAll_os _ _ _)
      (sc_shaped os _) (adjoint_w2 os) (adjoint_w3 os H enc) (adjoint_w4 os H enc) (sc_laid os _)) ?_
  intro W base args ds gs before hval hW _ _ hL _
  have hL' : laidMetH Tryz.prog Rows.filterAdjointRow.laid W := hL
  rw [MakeChecks.laidMetH_plain _ _ _ (by kernel_rfl)] at hL'
  obtain ⟨aw, hz⟩ := AW.globals hL' (fun x hx => hx) 11 (nm := "math/bits.deBruijn64tab") (d := Rows.laid_math_bits_deBruijn64tab) (by unfold Rows.filterAdjointRow; simp) (by kernel_rfl)
  rw [adjoint_globs] at aw
  obtain ⟨p, q, hA, hV, _⟩ := id hW
  obtain ⟨rfl, _⟩ := trodVars_none hV
  have hA' : DataW.TrodAll enc Tryz.prog W 0 (fun _ => true) true (Tryz.f7).params.toList args.toList ds p := hA
  rw [Tryz.params7] at hA'
  obtain ⟨_, _, _, d1, d2, d3, _, _, _, _, rfl, _⟩ := trodAll_three hA'
  refine row_true (n := 6) (ats := [.one (.sl [.int .i64]), .one (.sl [.int .i64]), .agg [.sl [.flt .f32], .sl [.flt .f32]]]) laidOut adjoint_par adjoint_res Tryz.underlying4 rfl rfl adjoint_ats hval hW aw hz ?_
  intro k vs e h
  obtain ⟨_, _, rfl, h1, h⟩ := tyas_cons h
  obtain ⟨_, _, rfl, h2, h⟩ := tyas_cons h
  obtain ⟨_, _, rfl, h3, h⟩ := tyas_cons h
  obtain rfl := tyas_nil h
  obtain ⟨t, ht, _⟩ := tya_ints h1
  obtain ⟨m, hm, _⟩ := tya_ints h2
  obtain ⟨x, y, L, M, rfl, hL, hM⟩ := tya_flt2 h3
  exact r7 tbl xfl (fun k' e' => awake_ok k' (e.trans e')) (t := t) (m := m) (L := L) (M := M) ht hm hL hM

theorem adjoint_f1 : (Rows.filterAdjointRow.inPlace == Tryz.prog.inPlace 7) = true := by kernel_rfl
theorem adjoint_f2 : (Rows.filterAdjointRow.unfollowed == Tryz.prog.unfollowed 7) = true := by kernel_rfl
theorem adjoint_f3 : (Rows.filterAdjointRow.recurses == Tryz.prog.recurses 7) = true := by kernel_rfl
theorem adjoint_f4 : (Rows.filterAdjointRow.named == Tryz.prog.varsNamed 7) = true := by kernel_rfl
theorem adjoint_f5 : Tryz.prog.funcNamed "moveout/moveoutlaw05.FilterAdjoint" = some 7 := by kernel_rfl
theorem adjoint_f6 : (Tryz.f7).isInstance Tryz.prog Rows.filterAdjointRow.origin Rows.filterAdjointRow.targs := of_decide_eq_true (by kernel_rfl)
theorem adjoint_f7 : (Tryz.f7).isWrapper Tryz.prog Rows.filterAdjointRow.wrapper Rows.filterAdjointRow.mainSum := by
  unfold Func.isWrapper; first | (rw [if_pos (by decide +kernel)]; kernel_rfl) | (rw [if_neg (by decide +kernel)]; exact ⟨rfl, rfl⟩)
theorem adjoint_f8 : ((Tryz.f7).params.all (Tryz.prog.readableRec ·)) = true := by kernel_rfl
theorem adjoint_closed : joinedFacts Tryz.prog 7 Tryz.f7 Rows.filterAdjointSpec Rows.filterAdjointRow = true := by
  unfold joinedFacts
  exact and2 (and2 (and2 (and2 (and2 (and2 (and2 (and2 (and2 (and2 (and2 (and2 (and2 (and2 (and2 (and2 (and2 (and2 (and2 (and2 (and2 (and2 (and2 (and2 (and2 (and2 (and2 (and2 (and2 (and2 (and2 (by kernel_rfl) laidOut) sc_maps) adjoint_f8) (by kernel_rfl)) (by kernel_rfl)) sc_stops) (by kernel_rfl)) sc_knobs) adjoint_f1) adjoint_f2) adjoint_f3) adjoint_f4)
    (by kernel_rfl)) (by kernel_rfl)) (by kernel_rfl)) (by kernel_rfl)) (by kernel_rfl)) (by kernel_rfl)) (by kernel_rfl)) (by kernel_rfl)) (by kernel_rfl)) sc_keys) (by kernel_rfl)) sc_heard) sc_enter) sc_lifts) sc_make) (by kernel_rfl)) (by kernel_rfl)) (by kernel_rfl)) (by kernel_rfl)

theorem adjoint_holds : Rows.FilterAdjointSaid :=
  OpenClaim.holds_of_wide 7 Tryz.f7 rfl rfl rfl rfl rfl rfl rfl ⟨rfl, rfl, rfl, rfl, rfl⟩ rfl rfl rfl rfl rfl adjoint_f5 Tryz.func7 adjoint_closed
    adjoint_f6 adjoint_f7 (fun os started H enc _ => adjoint_lifted os started H enc)

theorem adjoint_stand : ((Tryz.f7).params.toList.all fun u => !Tryz.prog.wantsStandIn u) = true := by kernel_rfl
theorem adjoint_goes : false = Rows.filterAdjointRow.goesBy Tryz.prog := by kernel_rfl
theorem adjoint_text : Rows.filterAdjointRow.wfByText (OpenSpec.ofChange Rows.filterAdjointSpec) = true := by kernel_rfl
theorem adjoint_card_holds : Rows.FilterAdjointCardSaid :=
  Claim7.holds_tied_plain_at .later [] [.data, .data, .data, .data] true (true, "935bb61a7861a9fad800c7aac49f604bfc9e5b8f028eba8f042cb1ef6ca0aa73") true adjoint_holds (fun _ h => by cases h) adjoint_text (fun _ h => by cases h) filterAdjoint_row_tie rfl ⟨rfl, rfl⟩ sc_main rfl
    (fun f fn hf hfn => by
      obtain rfl : f = 7 := Option.some.inj (adjoint_f5.symm.trans hf) |>.symm
      obtain rfl : fn = Tryz.f7 := (Option.some.inj ((Tryz.func7).symm.trans hfn)).symm
      exact ⟨sc_looks, fun j t ht => by
        have hm : t ∈ (Tryz.f7).params.toList := by simpa using Array.mem_of_getElem? ht
        exact (show Tryz.prog.wantsStandIn t = false by simpa using List.all_eq_true.1 adjoint_stand t hm)⟩)
    adjoint_goes
#print axioms adjoint_card_holds
end Go.Proofs.YtbgldbmgjcgepaaGreatDoor
