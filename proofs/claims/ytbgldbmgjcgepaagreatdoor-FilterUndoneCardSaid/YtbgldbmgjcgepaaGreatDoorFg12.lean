/- FilterUndone: whatever the arguments, the call returns true, and each argument reads afterwards as it read before (the package-level variables that the row lists hold what it says: the card ties that to the program's text). -/
import Derived.Test.YtbgldbmgjcgepaaGreatDoorFg9
import Derived.Test.YtbgldbmgjcgepaaGreatDoorFg6
import Derived.Test.YtbgldbmgjcgepaaGreatDoorFg11
set_option linter.all false
namespace Go.Proofs.YtbgldbmgjcgepaaGreatDoor
open Go.ChangeShapes Go.WideShapes Go.RowKit Go.Abs

theorem undone_globs : globL Tryz.prog Rows.filterUndoneRow.laid 11 = glob0 := by kernel_rfl
theorem undone_w1 : Tryz.prog.inits.idxOf? 12 = none := by kernel_rfl
theorem undone_w2 (os : Os) : Input.okWideB Tryz.prog ((World.laidAll Tryz.prog os Rows.filterUndoneRow.laid).forCall (fun _ _ => 0) ⟨#[], #[.slice none 0 0, .slice none 0 0, .int .u8 0], []⟩) 12 ⟨#[], #[.slice none 0 0, .slice none 0 0, .int .u8 0], []⟩ = true := by kernel_rfl
theorem undone_w3 (os : Os) (H : Type) (enc : TypeId × Value → H) : Rows.filterUndoneSpec.preB enc Tryz.prog Tryz.f12 Rows.filterUndoneRow.domain false ((World.laidAll Tryz.prog os Rows.filterUndoneRow.laid).forCall (fun _ _ => 0) ⟨#[], #[.slice none 0 0, .slice none 0 0, .int .u8 0], []⟩).memory #[.slice none 0 0, .slice none 0 0, .int .u8 0] 8 = true := by kernel_rfl
theorem undone_w4 (os : Os) (H : Type) (enc : TypeId × Value → H) : Rows.filterUndoneSpec.sizedB enc Tryz.prog Tryz.f12 false ((World.laidAll Tryz.prog os Rows.filterUndoneRow.laid).forCall (fun _ _ => 0) ⟨#[], #[.slice none 0 0, .slice none 0 0, .int .u8 0], []⟩).memory #[.slice none 0 0, .slice none 0 0, .int .u8 0] 8 = true := by kernel_rfl
theorem undone_ats : atsOf Tryz.prog 6 (Tryz.f12).params.toList = some [.one (.sl [.int .i64]), .one (.sl [.flt .f32]), .one (.int .u8)] := by kernel_rfl
theorem undone_par : ∀ t ∈ (Tryz.f12).params.toList, Tryz.prog.readableRec t = true ∧ t < Tryz.prog.types.size := by decide +kernel
theorem undone_res : (Tryz.f12).resultTypes = #[4] := by kernel_rfl

set_option maxRecDepth 100000 in
theorem undone_lifted (os : Os) (started : os.Started) (H : Type) (enc : TypeId × Value → H) :
    ReturnsInHanded {} Tryz.checked os 12 .any (fun w args => (Rows.filterUndoneSpec.pre enc Tryz.prog Tryz.f12 Rows.filterUndoneRow.domain false w args ∧ laidMetH Tryz.prog Rows.filterUndoneRow.laid w) ∧ sizedMet enc Tryz.prog Tryz.f12 (OpenSpec.ofChange Rows.filterUndoneSpec) false w args)
      (Rows.filterUndoneSpec.post enc Tryz.prog Tryz.f12 false true false false) := by
  refine returnsInHanded_of_change_and (C := Tryz.checked) (X := fun w _ => laidMetH Tryz.prog Rows.filterUndoneRow.laid w) (fun _ _ _ hh h => h.of_heap hh) own started undone_w1 Tryz.func12
    (ChangeSpec.witness_shaped (enc := enc) (C := Tryz.checked) (os := os) (X := fun w _ => laidMetH Tryz.prog Rows.filterUndoneRow.laid w) false (World.laidAll Tryz.prog os Rows.filterUndoneRow.laid) #[.slice none 0 0, .slice none 0 0, .int .u8 0] 8 (World.laidAll_os _ _ _)
      (sc_shaped os _) (undone_w2 os) (undone_w3 os H enc) (undone_w4 os H enc) (sc_laid os _)) ?_
  intro W base args ds gs before hval hW _ _ hL _
  have hL' : laidMetH Tryz.prog Rows.filterUndoneRow.laid W := hL
  rw [MakeChecks.laidMetH_plain _ _ _ (by kernel_rfl)] at hL'
  obtain ⟨aw, hz⟩ := AW.globals hL' (fun x hx => hx) 11 (nm := "math/bits.deBruijn64tab") (d := Rows.laid_math_bits_deBruijn64tab) (by unfold Rows.filterUndoneRow; simp) (by kernel_rfl)
  rw [undone_globs] at aw
  obtain ⟨p, q, hA, hV, _⟩ := id hW
  obtain ⟨rfl, _⟩ := trodVars_none hV
  have hA' : DataW.TrodAll enc Tryz.prog W 0 (fun _ => true) true (Tryz.f12).params.toList args.toList ds p := hA
  rw [Tryz.params12] at hA'
  obtain ⟨_, _, _, d1, d2, d3, _, _, _, _, rfl, _⟩ := trodAll_three hA'
  refine row_true (n := 6) (ats := [.one (.sl [.int .i64]), .one (.sl [.flt .f32]), .one (.int .u8)]) laidOut undone_par undone_res Tryz.underlying4 rfl rfl undone_ats hval hW aw hz ?_
  intro k vs e h
  obtain ⟨_, _, rfl, h1, h⟩ := tyas_cons h
  obtain ⟨_, _, rfl, h2, h⟩ := tyas_cons h
  obtain ⟨_, _, rfl, h3, h⟩ := tyas_cons h
  obtain rfl := tyas_nil h
  obtain ⟨t, ht, _⟩ := tya_ints h1
  obtain ⟨L, hL, _⟩ := tya_flts h2
  obtain ⟨z, rfl, wz⟩ := tya_int h3
  exact r12 tbl xfl (fun k' e' => awake_ok k' (e.trans e')) (e.some rfl) (t := t) (l := L) ht hL (u8_bd wz)

theorem undone_f1 : (Rows.filterUndoneRow.inPlace == Tryz.prog.inPlace 12) = true := by kernel_rfl
theorem undone_f2 : (Rows.filterUndoneRow.unfollowed == Tryz.prog.unfollowed 12) = true := by kernel_rfl
theorem undone_f3 : (Rows.filterUndoneRow.recurses == Tryz.prog.recurses 12) = true := by kernel_rfl
theorem undone_f4 : (Rows.filterUndoneRow.named == Tryz.prog.varsNamed 12) = true := by kernel_rfl
theorem undone_f5 : Tryz.prog.funcNamed "moveout/moveoutlaw05.FilterUndone" = some 12 := by kernel_rfl
theorem undone_f6 : (Tryz.f12).isInstance Tryz.prog Rows.filterUndoneRow.origin Rows.filterUndoneRow.targs := of_decide_eq_true (by kernel_rfl)
theorem undone_f7 : (Tryz.f12).isWrapper Tryz.prog Rows.filterUndoneRow.wrapper Rows.filterUndoneRow.mainSum := by
  unfold Func.isWrapper; first | (rw [if_pos (by decide +kernel)]; kernel_rfl) | (rw [if_neg (by decide +kernel)]; exact ⟨rfl, rfl⟩)
theorem undone_f8 : ((Tryz.f12).params.all (Tryz.prog.readableRec ·)) = true := by kernel_rfl
theorem undone_closed : joinedFacts Tryz.prog 12 Tryz.f12 Rows.filterUndoneSpec Rows.filterUndoneRow = true := by
  unfold joinedFacts
  exact and2 (and2 (and2 (and2 (and2 (and2 (and2 (and2 (and2 (and2 (and2 (and2 (and2 (and2 (and2 (and2 (and2 (and2 (and2 (and2 (and2 (and2 (and2 (and2 (and2 (and2 (and2 (and2 (and2 (and2 (and2 (by kernel_rfl) laidOut) sc_maps) undone_f8) (by kernel_rfl)) (by kernel_rfl)) sc_stops) (by kernel_rfl)) sc_knobs) undone_f1) undone_f2) undone_f3) undone_f4)
    (by kernel_rfl)) (by kernel_rfl)) (by kernel_rfl)) (by kernel_rfl)) (by kernel_rfl)) (by kernel_rfl)) (by kernel_rfl)) (by kernel_rfl)) (by kernel_rfl)) sc_keys) (by kernel_rfl)) sc_heard) sc_enter) sc_lifts) sc_make) (by kernel_rfl)) (by kernel_rfl)) (by kernel_rfl)) (by kernel_rfl)

theorem undone_holds : Rows.FilterUndoneSaid :=
  OpenClaim.holds_of_wide 12 Tryz.f12 rfl rfl rfl rfl rfl rfl rfl ⟨rfl, rfl, rfl, rfl, rfl⟩ rfl rfl rfl rfl rfl undone_f5 Tryz.func12 undone_closed
    undone_f6 undone_f7 (fun os started H enc _ => undone_lifted os started H enc)

theorem undone_stand : ((Tryz.f12).params.toList.all fun u => !Tryz.prog.wantsStandIn u) = true := by kernel_rfl
theorem undone_goes : false = Rows.filterUndoneRow.goesBy Tryz.prog := by kernel_rfl
theorem undone_text : Rows.filterUndoneRow.wfByText (OpenSpec.ofChange Rows.filterUndoneSpec) = true := by kernel_rfl
theorem undone_card_holds : Rows.FilterUndoneCardSaid :=
  Claim7.holds_tied_plain_at .later [] [.data, .data, .data, .data] true (true, "935bb61a7861a9fad800c7aac49f604bfc9e5b8f028eba8f042cb1ef6ca0aa73") true undone_holds (fun _ h => by cases h) undone_text (fun _ h => by cases h) filterUndone_row_tie rfl ⟨rfl, rfl⟩ sc_main rfl
    (fun f fn hf hfn => by
      obtain rfl : f = 12 := Option.some.inj (undone_f5.symm.trans hf) |>.symm
      obtain rfl : fn = Tryz.f12 := (Option.some.inj ((Tryz.func12).symm.trans hfn)).symm
      exact ⟨sc_looks, fun j t ht => by
        have hm : t ∈ (Tryz.f12).params.toList := by simpa using Array.mem_of_getElem? ht
        exact (show Tryz.prog.wantsStandIn t = false by simpa using List.all_eq_true.1 undone_stand t hm)⟩)
    undone_goes
#print axioms undone_card_holds
end Go.Proofs.YtbgldbmgjcgepaaGreatDoor
