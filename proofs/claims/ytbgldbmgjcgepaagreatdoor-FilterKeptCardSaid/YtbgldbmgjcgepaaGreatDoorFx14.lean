/- FilterKept: whatever the arguments, the call returns true, and each argument reads afterwards as it read before (the package-level variables that the row lists hold what it says: the card ties that to the program's text). -/
import Derived.Test.YtbgldbmgjcgepaaGreatDoorFx10
import Derived.Test.YtbgldbmgjcgepaaGreatDoorFx7
import Derived.Test.YtbgldbmgjcgepaaGreatDoorFx13
set_option linter.all false
namespace Go.Proofs.YtbgldbmgjcgepaaGreatDoor
open Go.ChangeShapes Go.WideShapes Go.RowKit Go.Abs

theorem kept_globs : globL Tryz.prog Rows.filterKeptRow.laid 11 = glob0 := by kernel_rfl
theorem kept_w1 : Tryz.prog.inits.idxOf? 8 = none := by kernel_rfl
theorem kept_w2 (os : Os) : Input.okWideB Tryz.prog ((World.laidAll Tryz.prog os Rows.filterKeptRow.laid).forCall (fun _ _ => 0) ⟨#[], #[.agg #[.float .f32 0, .float .f32 0, .float .f32 0, .float .f32 0, .float .f32 0, .float .f32 0, .float .f32 0, .float .f32 0, .float .f32 0, .float .f32 0, .float .f32 0, .float .f32 0, .float .f32 0, .float .f32 0, .float .f32 0, .float .f32 0], .int .u16 0], []⟩) 8 ⟨#[], #[.agg #[.float .f32 0, .float .f32 0, .float .f32 0, .float .f32 0, .float .f32 0, .float .f32 0, .float .f32 0, .float .f32 0, .float .f32 0, .float .f32 0, .float .f32 0, .float .f32 0, .float .f32 0, .float .f32 0, .float .f32 0, .float .f32 0], .int .u16 0], []⟩ = true := by kernel_rfl
theorem kept_w3 (os : Os) (H : Type) (enc : TypeId × Value → H) : Rows.filterKeptSpec.preB enc Tryz.prog Tryz.f8 Rows.filterKeptRow.domain false ((World.laidAll Tryz.prog os Rows.filterKeptRow.laid).forCall (fun _ _ => 0) ⟨#[], #[.agg #[.float .f32 0, .float .f32 0, .float .f32 0, .float .f32 0, .float .f32 0, .float .f32 0, .float .f32 0, .float .f32 0, .float .f32 0, .float .f32 0, .float .f32 0, .float .f32 0, .float .f32 0, .float .f32 0, .float .f32 0, .float .f32 0], .int .u16 0], []⟩).memory #[.agg #[.float .f32 0, .float .f32 0, .float .f32 0, .float .f32 0, .float .f32 0, .float .f32 0, .float .f32 0, .float .f32 0, .float .f32 0, .float .f32 0, .float .f32 0, .float .f32 0, .float .f32 0, .float .f32 0, .float .f32 0, .float .f32 0], .int .u16 0] 8 = true := by kernel_rfl
theorem kept_w4 (os : Os) (H : Type) (enc : TypeId × Value → H) : Rows.filterKeptSpec.sizedB enc Tryz.prog Tryz.f8 false ((World.laidAll Tryz.prog os Rows.filterKeptRow.laid).forCall (fun _ _ => 0) ⟨#[], #[.agg #[.float .f32 0, .float .f32 0, .float .f32 0, .float .f32 0, .float .f32 0, .float .f32 0, .float .f32 0, .float .f32 0, .float .f32 0, .float .f32 0, .float .f32 0, .float .f32 0, .float .f32 0, .float .f32 0, .float .f32 0, .float .f32 0], .int .u16 0], []⟩).memory #[.agg #[.float .f32 0, .float .f32 0, .float .f32 0, .float .f32 0, .float .f32 0, .float .f32 0, .float .f32 0, .float .f32 0, .float .f32 0, .float .f32 0, .float .f32 0, .float .f32 0, .float .f32 0, .float .f32 0, .float .f32 0, .float .f32 0], .int .u16 0] 8 = true := by kernel_rfl
theorem kept_ats : atsOf Tryz.prog 6 (Tryz.f8).params.toList = some [.agg (List.replicate 16 (.flt .f32)), .one (.int .u16)] := by kernel_rfl
theorem kept_par : ∀ t ∈ (Tryz.f8).params.toList, Tryz.prog.readableRec t = true ∧ t < Tryz.prog.types.size := by decide +kernel
theorem kept_res : (Tryz.f8).resultTypes = #[4] := by kernel_rfl

set_option maxRecDepth 100000 in
theorem kept_lifted (os : Os) (started : os.Started) (H : Type) (enc : TypeId × Value → H) :
    ReturnsInHanded {} Tryz.checked os 8 .any (fun w args => (Rows.filterKeptSpec.pre enc Tryz.prog Tryz.f8 Rows.filterKeptRow.domain false w args ∧ laidMetH Tryz.prog Rows.filterKeptRow.laid w) ∧ sizedMet enc Tryz.prog Tryz.f8 (OpenSpec.ofChange Rows.filterKeptSpec) false w args)
      (Rows.filterKeptSpec.post enc Tryz.prog Tryz.f8 false true false false) := by
  refine returnsInHanded_of_change_and (C := Tryz.checked) (X := fun w _ => laidMetH Tryz.prog Rows.filterKeptRow.laid w) (fun _ _ _ hh h => h.of_heap hh) own started kept_w1 Tryz.func8
    (ChangeSpec.witness_shaped (enc := enc) (C := Tryz.checked) (os := os) (X := fun w _ => laidMetH Tryz.prog Rows.filterKeptRow.laid w) false (World.laidAll Tryz.prog os Rows.filterKeptRow.laid) #[.agg #[.float .f32 0, .float .f32 0, .float .f32 0, .float .f32 0, .float .f32 0, .float .f32 0, .float .f32 0, .float .f32 0, .float .f32 0, .float .f32 0, .float .f32 0, .float .f32 0, .float .f32 0, .float .f32 0, .float .f32 0, .float .f32 0], .int .u16 0] 8 (World.laidAll_os _ _ _)
      (sc_shaped os _) (kept_w2 os) (kept_w3 os H enc) (kept_w4 os H enc) (sc_laid os _)) ?_
  intro W base args ds gs before hval hW _ _ hL _
  have hL' : laidMetH Tryz.prog Rows.filterKeptRow.laid W := hL
  rw [MakeChecks.laidMetH_plain _ _ _ (by kernel_rfl)] at hL'
  obtain ⟨aw, hz⟩ := AW.globals hL' (fun x hx => hx) 11 (nm := "math/bits.deBruijn64tab") (d := Rows.laid_math_bits_deBruijn64tab) (by unfold Rows.filterKeptRow; simp) (by kernel_rfl)
  rw [kept_globs] at aw
  obtain ⟨p, q, hA, hV, _⟩ := id hW
  obtain ⟨rfl, _⟩ := trodVars_none hV
  have hA' : DataW.TrodAll enc Tryz.prog W 0 (fun _ => true) true (Tryz.f8).params.toList args.toList ds p := hA
  rw [Tryz.params8] at hA'
  obtain ⟨_, _, d1, d2, _, _, _, rfl, _⟩ := trodAll_two hA'
  refine row_true (n := 6) (ats := [.agg (List.replicate 16 (.flt .f32)), .one (.int .u16)]) laidOut kept_par kept_res Tryz.underlying4 rfl rfl kept_ats hval hW aw hz ?_
  intro k vs e h
  obtain ⟨_, _, rfl, h1, h⟩ := tyas_cons h
  obtain ⟨_, _, rfl, h2, h⟩ := tyas_cons h
  obtain rfl := tyas_nil h
  obtain ⟨l, rfl⟩ := tya_fl44 h1
  obtain ⟨z, rfl, wz⟩ := tya_int h2
  obtain ⟨z1, z2⟩ := u16_bd wz
  obtain ⟨x, rfl⟩ : ∃ x : Nat, z = (x : Int) := ⟨z.toNat, by omega⟩
  exact r8 tbl xfl (e.some rfl) (fun k' e' => awake_ok k' (e.trans e')) (l := l) (x := x) (by omega)

theorem kept_f1 : (Rows.filterKeptRow.inPlace == Tryz.prog.inPlace 8) = true := by kernel_rfl
theorem kept_f2 : (Rows.filterKeptRow.unfollowed == Tryz.prog.unfollowed 8) = true := by kernel_rfl
theorem kept_f3 : (Rows.filterKeptRow.recurses == Tryz.prog.recurses 8) = true := by kernel_rfl
theorem kept_f4 : (Rows.filterKeptRow.named == Tryz.prog.varsNamed 8) = true := by kernel_rfl
theorem kept_f5 : Tryz.prog.funcNamed "moveout/moveoutlaw05.FilterKept" = some 8 := by kernel_rfl
theorem kept_f6 : (Tryz.f8).isInstance Tryz.prog Rows.filterKeptRow.origin Rows.filterKeptRow.targs := of_decide_eq_true (by kernel_rfl)
theorem kept_f7 : (Tryz.f8).isWrapper Tryz.prog Rows.filterKeptRow.wrapper Rows.filterKeptRow.mainSum := by
  unfold Func.isWrapper; first | (rw [if_pos (by decide +kernel)]; kernel_rfl) | (rw [if_neg (by decide +kernel)]; exact ⟨rfl, rfl⟩)
theorem kept_f8 : ((Tryz.f8).params.all (Tryz.prog.readableRec ·)) = true := by kernel_rfl
theorem kept_closed : joinedFacts Tryz.prog 8 Tryz.f8 Rows.filterKeptSpec Rows.filterKeptRow = true := by
  unfold joinedFacts
  exact and2 (and2 (and2 (and2 (and2 (and2 (and2 (and2 (and2 (and2 (and2 (and2 (and2 (and2 (and2 (and2 (and2 (and2 (and2 (and2 (and2 (and2 (and2 (and2 (and2 (and2 (and2 (and2 (and2 (and2 (and2 (by kernel_rfl) laidOut) sc_maps) kept_f8) (by kernel_rfl)) (by kernel_rfl)) sc_stops) (by kernel_rfl)) sc_knobs) kept_f1) kept_f2) kept_f3) kept_f4)
    (by kernel_rfl)) (by kernel_rfl)) (by kernel_rfl)) (by kernel_rfl)) (by kernel_rfl)) (by kernel_rfl)) (by kernel_rfl)) (by kernel_rfl)) (by kernel_rfl)) sc_keys) (by kernel_rfl)) sc_heard) sc_enter) sc_lifts) sc_make) (by kernel_rfl)) (by kernel_rfl)) (by kernel_rfl)) (by kernel_rfl)

theorem kept_holds : Rows.FilterKeptSaid :=
  OpenClaim.holds_of_wide 8 Tryz.f8 rfl rfl rfl rfl rfl rfl rfl ⟨rfl, rfl, rfl, rfl, rfl⟩ rfl rfl rfl rfl rfl kept_f5 Tryz.func8 kept_closed
    kept_f6 kept_f7 (fun os started H enc _ => kept_lifted os started H enc)

theorem kept_stand : ((Tryz.f8).params.toList.all fun u => !Tryz.prog.wantsStandIn u) = true := by kernel_rfl
theorem kept_goes : false = Rows.filterKeptRow.goesBy Tryz.prog := by kernel_rfl
theorem kept_text : Rows.filterKeptRow.wfByText (OpenSpec.ofChange Rows.filterKeptSpec) = true := by kernel_rfl
theorem kept_card_holds : Rows.FilterKeptCardSaid :=
  Claim7.holds_tied_plain_at .later [] [.data, .data, .data, .data] true (true, "935bb61a7861a9fad800c7aac49f604bfc9e5b8f028eba8f042cb1ef6ca0aa73") true kept_holds (fun _ h => by cases h) kept_text (fun _ h => by cases h) filterKept_row_tie rfl ⟨rfl, rfl⟩ sc_main rfl
    (fun f fn hf hfn => by
      obtain rfl : f = 8 := Option.some.inj (kept_f5.symm.trans hf) |>.symm
      obtain rfl : fn = Tryz.f8 := (Option.some.inj ((Tryz.func8).symm.trans hfn)).symm
      exact ⟨sc_looks, fun j t ht => by
        have hm : t ∈ (Tryz.f8).params.toList := by simpa using Array.mem_of_getElem? ht
        exact (show Tryz.prog.wantsStandIn t = false by simpa using List.all_eq_true.1 kept_stand t hm)⟩)
    kept_goes
#print axioms kept_card_holds
end Go.Proofs.YtbgldbmgjcgepaaGreatDoor
