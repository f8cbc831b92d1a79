/- FilterBack: whatever the arguments, the call returns true, and each argument reads afterwards as it read before (the package-level variables that the row lists hold what it says: the card ties that to the program's text). -/
import Derived.Test.YtbgldbmgjcgepaaGreatDoorGa10
import Derived.Test.YtbgldbmgjcgepaaGreatDoorGa7
import Derived.Test.YtbgldbmgjcgepaaGreatDoorGa15
import Derived.Test.YtbgldbmgjcgepaaGreatDoorGa13
set_option linter.all false
namespace Go.Proofs.YtbgldbmgjcgepaaGreatDoor
open Go.ChangeShapes Go.WideShapes Go.RowKit Go.Abs

theorem back_globs : globL Tryz.prog Rows.filterBackRow.laid 11 = globT := by kernel_rfl
theorem back_w1 : Tryz.prog.inits.idxOf? 16 = none := by kernel_rfl
theorem back_w2 (os : Os) : Input.okWideB Tryz.prog ((World.laidAll Tryz.prog os Rows.filterBackRow.laid).forCall (fun _ _ => 0) ⟨#[], #[.slice none 0 0, .string ⟨#[]⟩], []⟩) 16 ⟨#[], #[.slice none 0 0, .string ⟨#[]⟩], []⟩ = true := by kernel_rfl
theorem back_w3 (os : Os) (H : Type) (enc : TypeId × Value → H) : Rows.filterBackSpec.preB enc Tryz.prog Tryz.f16 Rows.filterBackRow.domain false ((World.laidAll Tryz.prog os Rows.filterBackRow.laid).forCall (fun _ _ => 0) ⟨#[], #[.slice none 0 0, .string ⟨#[]⟩], []⟩).memory #[.slice none 0 0, .string ⟨#[]⟩] 8 = true := by kernel_rfl
theorem back_w4 (os : Os) (H : Type) (enc : TypeId × Value → H) : Rows.filterBackSpec.sizedB enc Tryz.prog Tryz.f16 false ((World.laidAll Tryz.prog os Rows.filterBackRow.laid).forCall (fun _ _ => 0) ⟨#[], #[.slice none 0 0, .string ⟨#[]⟩], []⟩).memory #[.slice none 0 0, .string ⟨#[]⟩] 8 = true := by kernel_rfl
theorem back_ats : atsOf Tryz.prog 6 (Tryz.f16).params.toList = some [.one (.sl [.int .i64]), .one .str] := by kernel_rfl
theorem back_par : ∀ t ∈ (Tryz.f16).params.toList, Tryz.prog.readableRec t = true ∧ t < Tryz.prog.types.size := by decide +kernel
theorem back_res : (Tryz.f16).resultTypes = #[4] := by kernel_rfl

set_option maxRecDepth 100000 in
theorem back_lifted (os : Os) (started : os.Started) (H : Type) (enc : TypeId × Value → H) :
    ReturnsInHanded {} Tryz.checked os 16 .any (fun w args => (Rows.filterBackSpec.pre enc Tryz.prog Tryz.f16 Rows.filterBackRow.domain false w args ∧ laidMetH Tryz.prog Rows.filterBackRow.laid w) ∧ sizedMet enc Tryz.prog Tryz.f16 (OpenSpec.ofChange Rows.filterBackSpec) false w args)
      (Rows.filterBackSpec.post enc Tryz.prog Tryz.f16 false true false false) := by
  refine returnsInHanded_of_change_and (C := Tryz.checked) (X := fun w _ => laidMetH Tryz.prog Rows.filterBackRow.laid w) (fun _ _ _ hh h => h.of_heap hh) own started back_w1 Tryz.func16
    (ChangeSpec.witness_shaped (enc := enc) (C := Tryz.checked) (os := os) (X := fun w _ => laidMetH Tryz.prog Rows.filterBackRow.laid w) false (World.laidAll Tryz.prog os Rows.filterBackRow.laid) #[.slice none 0 0, .string ⟨#[]⟩] 8 (World.laidAll_os _ _ _)
      (scT_shaped os _) (back_w2 os) (back_w3 os H enc) (back_w4 os H enc) (scT_laid os _)) ?_
  intro W base args ds gs before hval hW _ _ hL _
  have hL' : laidMetH Tryz.prog Rows.filterBackRow.laid W := hL
  rw [MakeChecks.laidMetH_plain _ _ _ (by kernel_rfl)] at hL'
  obtain ⟨aw, hz⟩ := AW.globals hL' (fun x hx => hx) 11 (nm := "math/bits.deBruijn64tab") (d := Rows.laid_math_bits_deBruijn64tab) (by unfold Rows.filterBackRow; simp) (by kernel_rfl)
  rw [back_globs] at aw
  obtain ⟨p, q, hA, hV, _⟩ := id hW
  obtain ⟨rfl, _⟩ := trodVars_none hV
  have hA' : DataW.TrodAll enc Tryz.prog W 0 (fun _ => true) true (Tryz.f16).params.toList args.toList ds p := hA
  rw [Tryz.params16] at hA'
  obtain ⟨_, _, d1, d2, _, _, _, rfl, _⟩ := trodAll_two hA'
  refine row_true (n := 6) (ats := [.one (.sl [.int .i64]), .one .str]) laidOut back_par back_res Tryz.underlying4 rfl rfl back_ats hval hW aw hz ?_
  intro k vs e h
  obtain ⟨_, _, rfl, h1, h⟩ := tyas_cons h
  obtain ⟨_, _, rfl, h2, h⟩ := tyas_cons h
  obtain rfl := tyas_nil h
  obtain ⟨t, ht, _⟩ := tya_ints h1
  obtain ⟨x, rfl, _⟩ := tya_str h2
  exact r16 tbl xtn txf (globT_tx e) (fun k' e' => awake_ag (globT_ag (e.trans e'))) (l := t) ht x

theorem back_f1 : (Rows.filterBackRow.inPlace == Tryz.prog.inPlace 16) = true := by kernel_rfl
theorem back_f2 : (Rows.filterBackRow.unfollowed == Tryz.prog.unfollowed 16) = true := by kernel_rfl
theorem back_f3 : (Rows.filterBackRow.recurses == Tryz.prog.recurses 16) = true := by kernel_rfl
theorem back_f4 : (Rows.filterBackRow.named == Tryz.prog.varsNamed 16) = true := by kernel_rfl
theorem back_f5 : Tryz.prog.funcNamed "moveout/moveoutlaw05.FilterBack" = some 16 := by kernel_rfl
theorem back_f6 : (Tryz.f16).isInstance Tryz.prog Rows.filterBackRow.origin Rows.filterBackRow.targs := of_decide_eq_true (by kernel_rfl)
theorem back_f7 : (Tryz.f16).isWrapper Tryz.prog Rows.filterBackRow.wrapper Rows.filterBackRow.mainSum := by
  unfold Func.isWrapper; first | (rw [if_pos (by decide +kernel)]; kernel_rfl) | (rw [if_neg (by decide +kernel)]; exact ⟨rfl, rfl⟩)
theorem back_f8 : ((Tryz.f16).params.all (Tryz.prog.readableRec ·)) = true := by kernel_rfl
theorem back_closed : joinedFacts Tryz.prog 16 Tryz.f16 Rows.filterBackSpec Rows.filterBackRow = true := by
  unfold joinedFacts
  exact and2 (and2 (and2 (and2 (and2 (and2 (and2 (and2 (and2 (and2 (and2 (and2 (and2 (and2 (and2 (and2 (and2 (and2 (and2 (and2 (and2 (and2 (and2 (and2 (and2 (and2 (and2 (and2 (and2 (and2 (and2 (by kernel_rfl) laidOut) sc_maps) back_f8) (by kernel_rfl)) (by kernel_rfl)) sc_stops) (by kernel_rfl)) sc_knobs) back_f1) back_f2) back_f3) back_f4)
    (by kernel_rfl)) (by kernel_rfl)) (by kernel_rfl)) (by kernel_rfl)) (by kernel_rfl)) (by kernel_rfl)) (by kernel_rfl)) (by kernel_rfl)) (by kernel_rfl)) sc_keys) (by kernel_rfl)) sc_heard) sc_enter) sc_lifts) sc_make) (by kernel_rfl)) (by kernel_rfl)) (by kernel_rfl)) (by kernel_rfl)

theorem back_holds : Rows.FilterBackSaid :=
  OpenClaim.holds_of_wide 16 Tryz.f16 rfl rfl rfl rfl rfl rfl rfl ⟨rfl, rfl, rfl, rfl, rfl⟩ rfl rfl rfl rfl rfl back_f5 Tryz.func16 back_closed
    back_f6 back_f7 (fun os started H enc _ => back_lifted os started H enc)

theorem back_stand : ((Tryz.f16).params.toList.all fun u => !Tryz.prog.wantsStandIn u) = true := by kernel_rfl
theorem back_goes : false = Rows.filterBackRow.goesBy Tryz.prog := by kernel_rfl
theorem back_text : Rows.filterBackRow.wfByText (OpenSpec.ofChange Rows.filterBackSpec) = true := by kernel_rfl
theorem back_card_holds : Rows.FilterBackCardSaid :=
  Claim7.holds_tied_plain_at .later [] [.data, .data, .data, .data, .sentinel, .sentinel, .data, .pinned] true (true, "935bb61a7861a9fad800c7aac49f604bfc9e5b8f028eba8f042cb1ef6ca0aa73") true back_holds (fun _ h => by cases h) back_text (fun _ h => by cases h) filterBack_row_tie rfl ⟨rfl, rfl⟩ sc_main rfl
    (fun f fn hf hfn => by
      obtain rfl : f = 16 := Option.some.inj (back_f5.symm.trans hf) |>.symm
      obtain rfl : fn = Tryz.f16 := (Option.some.inj ((Tryz.func16).symm.trans hfn)).symm
      exact ⟨sc_looks, fun j t ht => by
        have hm : t ∈ (Tryz.f16).params.toList := by simpa using Array.mem_of_getElem? ht
        exact (show Tryz.prog.wantsStandIn t = false by simpa using List.all_eq_true.1 back_stand t hm)⟩)
    back_goes
#print axioms back_card_holds
end Go.Proofs.YtbgldbmgjcgepaaGreatDoor
