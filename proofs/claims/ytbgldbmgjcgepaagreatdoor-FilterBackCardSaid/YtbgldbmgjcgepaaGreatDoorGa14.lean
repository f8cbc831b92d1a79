/- FilterTexts: whatever the arguments, the call returns true, and each argument reads afterwards as it read before (the package-level variables that the row lists hold what it says: the card ties that to the program's text). -/
import Derived.Test.YtbgldbmgjcgepaaGreatDoorGa10
import Derived.Test.YtbgldbmgjcgepaaGreatDoorGa7
import Derived.Test.YtbgldbmgjcgepaaGreatDoorGa13
set_option linter.all false
namespace Go.Proofs.YtbgldbmgjcgepaaGreatDoor
open Go.ChangeShapes Go.WideShapes Go.RowKit Go.Abs

theorem texts_globs : globL Tryz.prog Rows.filterTextsRow.laid 11 = globT := rfl
theorem texts_w1 : Tryz.prog.inits.idxOf? 15 = none := by kernel_rfl
theorem texts_w2 (os : Os) : Input.okWideB Tryz.prog ((World.laidAll Tryz.prog os Rows.filterTextsRow.laid).forCall (fun _ _ => 0) ⟨#[], #[.slice none 0 0, .string ⟨#[]⟩], []⟩) 15 ⟨#[], #[.slice none 0 0, .string ⟨#[]⟩], []⟩ = true := by kernel_rfl
theorem texts_w3 (os : Os) (H : Type) (enc : TypeId × Value → H) : Rows.filterTextsSpec.preB enc Tryz.prog Tryz.f15 Rows.filterTextsRow.domain false ((World.laidAll Tryz.prog os Rows.filterTextsRow.laid).forCall (fun _ _ => 0) ⟨#[], #[.slice none 0 0, .string ⟨#[]⟩], []⟩).memory #[.slice none 0 0, .string ⟨#[]⟩] 8 = true := by kernel_rfl
theorem texts_w4 (os : Os) (H : Type) (enc : TypeId × Value → H) : Rows.filterTextsSpec.sizedB enc Tryz.prog Tryz.f15 false ((World.laidAll Tryz.prog os Rows.filterTextsRow.laid).forCall (fun _ _ => 0) ⟨#[], #[.slice none 0 0, .string ⟨#[]⟩], []⟩).memory #[.slice none 0 0, .string ⟨#[]⟩] 8 = true := by kernel_rfl
theorem texts_ats : atsOf Tryz.prog 6 (Tryz.f15).params.toList = some [.one (.sl [.int .i64]), .one .str] := by kernel_rfl
theorem texts_par : ∀ t ∈ (Tryz.f15).params.toList, Tryz.prog.readableRec t = true ∧ t < Tryz.prog.types.size := by decide +kernel
theorem texts_res : (Tryz.f15).resultTypes = #[4] := by kernel_rfl

set_option maxRecDepth 100000 in
theorem texts_lifted (os : Os) (started : os.Started) (H : Type) (enc : TypeId × Value → H) :
    ReturnsInHanded {} Tryz.checked os 15 .any (fun w args => (Rows.filterTextsSpec.pre enc Tryz.prog Tryz.f15 Rows.filterTextsRow.domain false w args ∧ laidMetH Tryz.prog Rows.filterTextsRow.laid w) ∧ sizedMet enc Tryz.prog Tryz.f15 (OpenSpec.ofChange Rows.filterTextsSpec) false w args)
      (Rows.filterTextsSpec.post enc Tryz.prog Tryz.f15 false true false false) := by
  refine returnsInHanded_of_change_and (C := Tryz.checked) (X := fun w _ => laidMetH Tryz.prog Rows.filterTextsRow.laid w) (fun _ _ _ hh h => h.of_heap hh) own started texts_w1 Tryz.func15
    (ChangeSpec.witness_shaped (enc := enc) (C := Tryz.checked) (os := os) (X := fun w _ => laidMetH Tryz.prog Rows.filterTextsRow.laid w) false (World.laidAll Tryz.prog os Rows.filterTextsRow.laid) #[.slice none 0 0, .string ⟨#[]⟩] 8 (World.laidAll_os _ _ _)
      (scT_shaped os _) (texts_w2 os) (texts_w3 os H enc) (texts_w4 os H enc) (scT_laid os _)) ?_
  intro W base args ds gs before hval hW _ _ hL _
  have hL' : laidMetH Tryz.prog Rows.filterTextsRow.laid W := hL
  rw [MakeChecks.laidMetH_plain _ _ _ (by kernel_rfl)] at hL'
  obtain ⟨aw, hz⟩ := AW.globals hL' (fun x hx => hx) 11 (nm := "math/bits.deBruijn64tab") (d := Rows.laid_math_bits_deBruijn64tab) (by unfold Rows.filterTextsRow; simp) (by kernel_rfl)
  rw [texts_globs] at aw
  obtain ⟨p, q, hA, hV, _⟩ := id hW
  obtain ⟨rfl, _⟩ := trodVars_none hV
  have hA' : DataW.TrodAll enc Tryz.prog W 0 (fun _ => true) true (Tryz.f15).params.toList args.toList ds p := hA
  rw [Tryz.params15] at hA'
  obtain ⟨_, _, d1, d2, _, _, _, rfl, _⟩ := trodAll_two hA'
  refine row_true (n := 6) (ats := [.one (.sl [.int .i64]), .one .str]) laidOut texts_par texts_res Tryz.underlying4 rfl rfl texts_ats hval hW aw hz ?_
  intro k vs e h
  obtain ⟨_, _, rfl, h1, h⟩ := tyas_cons h
  obtain ⟨_, _, rfl, h2, h⟩ := tyas_cons h
  obtain rfl := tyas_nil h
  obtain ⟨t, ht, _⟩ := tya_ints h1
  obtain ⟨x, rfl, _⟩ := tya_str h2
  exact r15 tbl xtn txf (globT_tx e) (fun k' e' => awake_ag (globT_ag (e.trans e'))) (l := t) ht x

theorem texts_f1 : (Rows.filterTextsRow.inPlace == Tryz.prog.inPlace 15) = true := by kernel_rfl
theorem texts_f2 : (Rows.filterTextsRow.unfollowed == Tryz.prog.unfollowed 15) = true := by kernel_rfl
theorem texts_f3 : (Rows.filterTextsRow.recurses == Tryz.prog.recurses 15) = true := by kernel_rfl
theorem texts_f4 : (Rows.filterTextsRow.named == Tryz.prog.varsNamed 15) = true := by kernel_rfl
theorem texts_f5 : Tryz.prog.funcNamed "moveout/moveoutlaw05.FilterTexts" = some 15 := by kernel_rfl
theorem texts_f6 : (Tryz.f15).isInstance Tryz.prog Rows.filterTextsRow.origin Rows.filterTextsRow.targs := of_decide_eq_true (by kernel_rfl)
theorem texts_f7 : (Tryz.f15).isWrapper Tryz.prog Rows.filterTextsRow.wrapper Rows.filterTextsRow.mainSum := by
  unfold Func.isWrapper; first | (rw [if_pos (by decide +kernel)]; kernel_rfl) | (rw [if_neg (by decide +kernel)]; exact ⟨rfl, rfl⟩)
theorem texts_f8 : ((Tryz.f15).params.all (Tryz.prog.readableRec ·)) = true := by kernel_rfl
theorem texts_closed : joinedFacts Tryz.prog 15 Tryz.f15 Rows.filterTextsSpec Rows.filterTextsRow = true := by
  unfold joinedFacts
  exact and2 (and2 (and2 (and2 (and2 (and2 (and2 (and2 (and2 (and2 (and2 (and2 (and2 (and2 (and2 (and2 (and2 (and2 (and2 (and2 (and2 (and2 (and2 (and2 (and2 (and2 (and2 (and2 (and2 (and2 (and2 (by kernel_rfl) laidOut) sc_maps) texts_f8) (by kernel_rfl)) (by kernel_rfl)) sc_stops) (by kernel_rfl)) sc_knobs) texts_f1) texts_f2) texts_f3) texts_f4)
    (by kernel_rfl)) (by kernel_rfl)) (by kernel_rfl)) (by kernel_rfl)) (by kernel_rfl)) (by kernel_rfl)) (by kernel_rfl)) (by kernel_rfl)) (by kernel_rfl)) sc_keys) (by kernel_rfl)) sc_heard) sc_enter) sc_lifts) sc_make) (by kernel_rfl)) (by kernel_rfl)) (by kernel_rfl)) (by kernel_rfl)

theorem texts_holds : Rows.FilterTextsSaid :=
  OpenClaim.holds_of_wide 15 Tryz.f15 rfl rfl rfl rfl rfl rfl rfl ⟨rfl, rfl, rfl, rfl, rfl⟩ rfl rfl rfl rfl rfl texts_f5 Tryz.func15 texts_closed
    texts_f6 texts_f7 (fun os started H enc _ => texts_lifted os started H enc)

theorem texts_stand : ((Tryz.f15).params.toList.all fun u => !Tryz.prog.wantsStandIn u) = true := by kernel_rfl
theorem texts_goes : false = Rows.filterTextsRow.goesBy Tryz.prog := by kernel_rfl
theorem texts_text : Rows.filterTextsRow.wfByText (OpenSpec.ofChange Rows.filterTextsSpec) = true := by kernel_rfl
theorem texts_card_holds : Rows.FilterTextsCardSaid :=
  Claim7.holds_tied_plain_at .later [] [.data, .data, .data, .data, .sentinel, .sentinel, .data, .pinned] true (true, "935bb61a7861a9fad800c7aac49f604bfc9e5b8f028eba8f042cb1ef6ca0aa73") true texts_holds (fun _ h => by cases h) texts_text (fun _ h => by cases h) filterTexts_row_tie rfl ⟨rfl, rfl⟩ sc_main rfl
    (fun f fn hf hfn => by
      obtain rfl : f = 15 := Option.some.inj (texts_f5.symm.trans hf) |>.symm
      obtain rfl : fn = Tryz.f15 := (Option.some.inj ((Tryz.func15).symm.trans hfn)).symm
      exact ⟨sc_looks, fun j t ht => by
        have hm : t ∈ (Tryz.f15).params.toList := by simpa using Array.mem_of_getElem? ht
        exact (show Tryz.prog.wantsStandIn t = false by simpa using List.all_eq_true.1 texts_stand t hm)⟩)
    texts_goes
#print axioms texts_card_holds
end Go.Proofs.YtbgldbmgjcgepaaGreatDoor
