/- HorizonTexts: whatever the arguments, the call returns true, and each argument reads afterwards as it read before (the package-level variables that the row lists hold what it says: the card ties that to the program's text). -/
import Derived.Test.YtjhdkimkijhloaaGreatDoorTx7
import Derived.Test.YtjhdkimkijhloaaGreatDoorTx14
import Derived.Test.YtjhdkimkijhloaaGreatDoorTx12
set_option linter.all false
namespace Go.Proofs.YtjhdkimkijhloaaGreatDoor
open Go.ChangeShapes Go.WideShapes Go.RowKit Go.Abs
theorem texts_globs : globL Tryz.prog Rows.horizonPicksRow.laid 3 = glob0 := by kernel_rfl
theorem texts_shaped (os : Os) (args : Array Value) : ((World.laidAll Tryz.prog os Rows.horizonTextsRow.laid).forCall (fun _ _ => 0) ⟨#[], args, []⟩).Shaped Tryz.prog := World.shaped_of_ZipB (by kernel_rfl) (by kernel_rfl)
theorem texts_laid (os : Os) (args : Array Value) : laidMetH Tryz.prog Rows.horizonTextsRow.laid ((World.laidAll Tryz.prog os Rows.horizonTextsRow.laid).forCall (fun _ _ => 0) ⟨#[], args, []⟩).memory := by
  rw [MakeChecks.laidMetH_plain _ _ _ (by kernel_rfl)]
  exact laidMet_laidAll _ (by kernel_rfl) (by kernel_rfl)
theorem texts_w1 : Tryz.prog.inits.idxOf? 13 = none := by kernel_rfl
theorem texts_w2 (os : Os) : Input.okWideB Tryz.prog ((World.laidAll Tryz.prog os Rows.horizonTextsRow.laid).forCall (fun _ _ => 0) ⟨#[], #[.slice none 0 0, .string ⟨#[]⟩], []⟩) 13 ⟨#[], #[.slice none 0 0, .string ⟨#[]⟩], []⟩ = true := by kernel_rfl
theorem texts_w3 (os : Os) (H : Type) (enc : TypeId × Value → H) : Rows.horizonTextsSpec.preB enc Tryz.prog Tryz.f13 Rows.horizonTextsRow.domain false ((World.laidAll Tryz.prog os Rows.horizonTextsRow.laid).forCall (fun _ _ => 0) ⟨#[], #[.slice none 0 0, .string ⟨#[]⟩], []⟩).memory #[.slice none 0 0, .string ⟨#[]⟩] 8 = true := by kernel_rfl
theorem texts_w4 (os : Os) (H : Type) (enc : TypeId × Value → H) : Rows.horizonTextsSpec.sizedB enc Tryz.prog Tryz.f13 false ((World.laidAll Tryz.prog os Rows.horizonTextsRow.laid).forCall (fun _ _ => 0) ⟨#[], #[.slice none 0 0, .string ⟨#[]⟩], []⟩).memory #[.slice none 0 0, .string ⟨#[]⟩] 8 = true := by kernel_rfl
theorem texts_ats : atsOf Tryz.prog 6 (Tryz.f13).params.toList = some [.one (.sl ctHor), .one .str] := by kernel_rfl
theorem texts_par : ∀ t ∈ (Tryz.f13).params.toList, Tryz.prog.readableRec t = true ∧ t < Tryz.prog.types.size := by decide +kernel
theorem texts_res : (Tryz.f13).resultTypes = #[4] := by kernel_rfl
set_option maxRecDepth 100000 in
theorem texts_lifted (os : Os) (started : os.Started) (H : Type) (enc : TypeId × Value → H) :
    ReturnsInHanded {} Tryz.checked os 13 .any (fun w args => (Rows.horizonTextsSpec.pre enc Tryz.prog Tryz.f13 Rows.horizonTextsRow.domain false w args ∧ laidMetH Tryz.prog Rows.horizonTextsRow.laid w) ∧ sizedMet enc Tryz.prog Tryz.f13 (OpenSpec.ofChange Rows.horizonTextsSpec) false w args)
      (Rows.horizonTextsSpec.post enc Tryz.prog Tryz.f13 false true false false) := by
  refine returnsInHanded_of_change_and (C := Tryz.checked) (X := fun w _ => laidMetH Tryz.prog Rows.horizonTextsRow.laid w) (fun _ _ _ hh h => h.of_heap hh) own started texts_w1 Tryz.func13
    (ChangeSpec.witness_shaped (enc := enc) (C := Tryz.checked) (os := os) (X := fun w _ => laidMetH Tryz.prog Rows.horizonTextsRow.laid w) false (World.laidAll Tryz.prog os Rows.horizonTextsRow.laid) #[.slice none 0 0, .string ⟨#[]⟩] 8 (World.laidAll_os _ _ _)
      (texts_shaped os _) (texts_w2 os) (texts_w3 os H enc) (texts_w4 os H enc) (texts_laid os _)) ?_
  intro W base args ds gs before hval hW _ _ hL _
  have hL' : laidMetH Tryz.prog Rows.horizonTextsRow.laid W := hL
  rw [MakeChecks.laidMetH_plain _ _ _ (by kernel_rfl)] at hL'
  obtain ⟨aw, hz⟩ := AW.globals hL' (laid := Rows.horizonPicksRow.laid) (fun x hx => by unfold Rows.horizonPicksRow at hx; unfold Rows.horizonTextsRow; simp only [List.mem_cons, List.mem_nil_iff, or_false] at hx ⊢; rcases hx with rfl | rfl | rfl | rfl <;> simp only [true_or, or_true]) 3 (nm := "math/bits.deBruijn64tab") (d := Rows.laid_math_bits_deBruijn64tab) (by unfold Rows.horizonPicksRow; simp) (by kernel_rfl)
  rw [texts_globs] at aw
  obtain ⟨p, q, hA, hV, _⟩ := id hW
  obtain ⟨rfl, _⟩ := trodVars_none hV
  have hA' : DataW.TrodAll enc Tryz.prog W 0 (fun _ => true) true (Tryz.f13).params.toList args.toList ds p := hA
  rw [Tryz.params13] at hA'
  obtain ⟨_, _, d1, d2, _, _, _, rfl, _⟩ := trodAll_two hA'
  refine row_true (n := 6) (ats := [.one (.sl ctHor), .one .str]) laidOut texts_par texts_res Tryz.underlying4 rfl rfl texts_ats hval hW aw hz ?_
  intro k vs e h
  obtain ⟨_, _, rfl, h1, h⟩ := tyas_cons h
  obtain ⟨_, _, rfl, h2, h⟩ := tyas_cons h
  obtain rfl := tyas_nil h
  obtain ⟨L, ol⟩ := tya_hors h1
  obtain ⟨s, rfl, _⟩ := tya_str h2
  exact r13 tbl xtn prt (fun k' e' => awake_ok k' (e.trans e')) ol (pw0 e) s
theorem texts_f1 : (Rows.horizonTextsRow.inPlace == Tryz.prog.inPlace 13) = true := by kernel_rfl
theorem texts_f2 : (Rows.horizonTextsRow.unfollowed == Tryz.prog.unfollowed 13) = true := by kernel_rfl
theorem texts_f3 : (Rows.horizonTextsRow.recurses == Tryz.prog.recurses 13) = true := by kernel_rfl
theorem texts_f4 : (Rows.horizonTextsRow.named == Tryz.prog.varsNamed 13) = true := by kernel_rfl
theorem texts_f5 : Tryz.prog.funcNamed "moveout/moveoutlaw08.HorizonTexts" = some 13 := by kernel_rfl
theorem texts_f6 : (Tryz.f13).isInstance Tryz.prog Rows.horizonTextsRow.origin Rows.horizonTextsRow.targs := of_decide_eq_true (by kernel_rfl)
theorem texts_f7 : (Tryz.f13).isWrapper Tryz.prog Rows.horizonTextsRow.wrapper Rows.horizonTextsRow.mainSum := by
  unfold Func.isWrapper; first | (rw [if_pos (by decide +kernel)]; kernel_rfl) | (rw [if_neg (by decide +kernel)]; exact ⟨rfl, rfl⟩)
theorem texts_f8 : ((Tryz.f13).params.all (Tryz.prog.readableRec ·)) = true := by kernel_rfl
theorem texts_closed : joinedFacts Tryz.prog 13 Tryz.f13 Rows.horizonTextsSpec Rows.horizonTextsRow = true := by
  unfold joinedFacts
  exact and2 (and2 (and2 (and2 (and2 (and2 (and2 (and2 (and2 (and2 (and2 (and2 (and2 (and2 (and2 (and2 (and2 (and2 (and2 (and2 (and2 (and2 (and2 (and2 (and2 (and2 (and2 (and2 (and2 (and2 (and2 (by kernel_rfl) laidOut) sc_maps) texts_f8) (by kernel_rfl)) (by kernel_rfl)) sc_stops) (by kernel_rfl)) sc_knobs) texts_f1) texts_f2) texts_f3) texts_f4)
    (by kernel_rfl)) (by kernel_rfl)) (by kernel_rfl)) (by kernel_rfl)) (by kernel_rfl)) (by kernel_rfl)) (by kernel_rfl)) (by kernel_rfl)) (by kernel_rfl)) sc_keys) (by kernel_rfl)) sc_heard) sc_enter) sc_lifts) sc_make) (by kernel_rfl)) (by kernel_rfl)) (by kernel_rfl)) (by kernel_rfl)
theorem texts_holds : Rows.HorizonTextsSaid :=
  OpenClaim.holds_of_wide 13 Tryz.f13 rfl rfl rfl rfl rfl rfl rfl ⟨rfl, rfl, rfl, rfl, rfl⟩ rfl rfl rfl rfl rfl texts_f5 Tryz.func13 texts_closed
    texts_f6 texts_f7 (fun os started H enc _ => texts_lifted os started H enc)
theorem texts_stand : ((Tryz.f13).params.toList.all fun u => !Tryz.prog.wantsStandIn u) = true := by kernel_rfl
theorem texts_goes : false = Rows.horizonTextsRow.goesBy Tryz.prog := by kernel_rfl
theorem texts_text : Rows.horizonTextsRow.wfByText (OpenSpec.ofChange Rows.horizonTextsSpec) = true := by kernel_rfl
theorem texts_card_holds : Rows.HorizonTextsCardSaid :=
  Claim7.holds_tied_plain_at .later [] [.data, .data, .data, .data, .data, .pinned] true (true, "ebcced09975124e4fdc27a793f740c15c9f79016bad178323bd89e6d8461bc8d") false texts_holds (fun _ h => by cases h) texts_text (fun _ h => by cases h) horizonTexts_row_tie rfl ⟨rfl, rfl⟩ sc_main rfl
    (fun f fn hf hfn => by
      obtain rfl : f = 13 := Option.some.inj (texts_f5.symm.trans hf) |>.symm
      obtain rfl : fn = Tryz.f13 := (Option.some.inj ((Tryz.func13).symm.trans hfn)).symm
      exact ⟨sc_looks, fun j t ht => by
        have hm : t ∈ (Tryz.f13).params.toList := by simpa using Array.mem_of_getElem? ht
        exact (show Tryz.prog.wantsStandIn t = false by simpa using List.all_eq_true.1 texts_stand t hm)⟩)
    texts_goes
#print axioms texts_card_holds
end Go.Proofs.YtjhdkimkijhloaaGreatDoor
