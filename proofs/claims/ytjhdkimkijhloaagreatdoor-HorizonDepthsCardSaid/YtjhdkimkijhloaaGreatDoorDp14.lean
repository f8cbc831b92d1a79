/- HorizonDepths: whatever the arguments, the call returns true, and each argument reads afterwards as it read before (the package-level variables that the row lists hold what it says: the card ties that to the program's text). -/
import Derived.Test.YtjhdkimkijhloaaGreatDoorDp7
import Derived.Test.YtjhdkimkijhloaaGreatDoorDp8
import Derived.Test.YtjhdkimkijhloaaGreatDoorDp12
import Derived.Test.YtjhdkimkijhloaaGreatDoorDp13
set_option linter.all false
namespace Go.Proofs.YtjhdkimkijhloaaGreatDoor
open Go.ChangeShapes Go.WideShapes Go.RowKit Go.Abs

theorem depths_globs : globL Tryz.prog Rows.horizonDepthsRow.laid 3 = glob0 := by kernel_rfl
theorem depths_w1 : Tryz.prog.inits.idxOf? 5 = none := by kernel_rfl
theorem depths_w2 (os : Os) : Input.okWideB Tryz.prog ((World.laidAll Tryz.prog os Rows.horizonDepthsRow.laid).forCall (fun _ _ => 0) ⟨#[], #[.slice none 0 0, .agg #[.slice none 0 0, .slice none 0 0, .int .i64 0]], []⟩) 5 ⟨#[], #[.slice none 0 0, .agg #[.slice none 0 0, .slice none 0 0, .int .i64 0]], []⟩ = true := by kernel_rfl
theorem depths_w3 (os : Os) (H : Type) (enc : TypeId × Value → H) : Rows.horizonDepthsSpec.preB enc Tryz.prog Tryz.f5 Rows.horizonDepthsRow.domain false ((World.laidAll Tryz.prog os Rows.horizonDepthsRow.laid).forCall (fun _ _ => 0) ⟨#[], #[.slice none 0 0, .agg #[.slice none 0 0, .slice none 0 0, .int .i64 0]], []⟩).memory #[.slice none 0 0, .agg #[.slice none 0 0, .slice none 0 0, .int .i64 0]] 8 = true := by kernel_rfl
theorem depths_w4 (os : Os) (H : Type) (enc : TypeId × Value → H) : Rows.horizonDepthsSpec.sizedB enc Tryz.prog Tryz.f5 false ((World.laidAll Tryz.prog os Rows.horizonDepthsRow.laid).forCall (fun _ _ => 0) ⟨#[], #[.slice none 0 0, .agg #[.slice none 0 0, .slice none 0 0, .int .i64 0]], []⟩).memory #[.slice none 0 0, .agg #[.slice none 0 0, .slice none 0 0, .int .i64 0]] 8 = true := by kernel_rfl
theorem depths_ats : atsOf Tryz.prog 6 (Tryz.f5).params.toList = some [.one (.sl ctHor), .agg ctCol] := by kernel_rfl
theorem depths_par : ∀ t ∈ (Tryz.f5).params.toList, Tryz.prog.readableRec t = true ∧ t < Tryz.prog.types.size := by decide +kernel
theorem depths_res : (Tryz.f5).resultTypes = #[4] := by kernel_rfl

set_option maxRecDepth 100000 in
theorem depths_lifted (os : Os) (started : os.Started) (H : Type) (enc : TypeId × Value → H) :
    ReturnsInHanded {} Tryz.checked os 5 .any (fun w args => (Rows.horizonDepthsSpec.pre enc Tryz.prog Tryz.f5 Rows.horizonDepthsRow.domain false w args ∧ laidMetH Tryz.prog Rows.horizonDepthsRow.laid w) ∧ sizedMet enc Tryz.prog Tryz.f5 (OpenSpec.ofChange Rows.horizonDepthsSpec) false w args)
      (Rows.horizonDepthsSpec.post enc Tryz.prog Tryz.f5 false true false false) := by
  refine returnsInHanded_of_change_and (C := Tryz.checked) (X := fun w _ => laidMetH Tryz.prog Rows.horizonDepthsRow.laid w) (fun _ _ _ hh h => h.of_heap hh) own started depths_w1 Tryz.func5
    (ChangeSpec.witness_shaped (enc := enc) (C := Tryz.checked) (os := os) (X := fun w _ => laidMetH Tryz.prog Rows.horizonDepthsRow.laid w) false (World.laidAll Tryz.prog os Rows.horizonDepthsRow.laid) #[.slice none 0 0, .agg #[.slice none 0 0, .slice none 0 0, .int .i64 0]] 8 (World.laidAll_os _ _ _)
      (sc_shaped os _) (depths_w2 os) (depths_w3 os H enc) (depths_w4 os H enc) (sc_laid os _)) ?_
  intro W base args ds gs before hval hW _ _ hL _
  have hL' : laidMetH Tryz.prog Rows.horizonDepthsRow.laid W := hL
  rw [MakeChecks.laidMetH_plain _ _ _ (by kernel_rfl)] at hL'
  obtain ⟨aw, hz⟩ := AW.globals hL' (fun x hx => hx) 3 (nm := "math/bits.deBruijn64tab") (d := Rows.laid_math_bits_deBruijn64tab) (by unfold Rows.horizonDepthsRow; simp) (by kernel_rfl)
  rw [depths_globs] at aw
  obtain ⟨p, q, hA, hV, _⟩ := id hW
  obtain ⟨rfl, _⟩ := trodVars_none hV
  have hA' : DataW.TrodAll enc Tryz.prog W 0 (fun _ => true) true (Tryz.f5).params.toList args.toList ds p := hA
  rw [Tryz.params5] at hA'
  obtain ⟨_, _, d1, d2, _, _, _, rfl, _⟩ := trodAll_two hA'
  refine row_true (n := 6) (ats := [.one (.sl ctHor), .agg ctCol]) laidOut depths_par depths_res Tryz.underlying4 rfl rfl depths_ats hval hW aw hz ?_
  intro k vs e h
  obtain ⟨_, _, rfl, h1, h⟩ := tyas_cons h
  obtain ⟨_, _, rfl, h2, h⟩ := tyas_cons h
  obtain rfl := tyas_nil h
  obtain ⟨L, ol⟩ := tya_hors h1
  obtain ⟨V, W, sv, sw, x, rfl, hv, hw⟩ := tya_col h2
  exact r5 tbl (fun k' e' => awake_ok k' (e.trans e')) ol hv hw

theorem depths_f1 : (Rows.horizonDepthsRow.inPlace == Tryz.prog.inPlace 5) = true := by kernel_rfl
theorem depths_f2 : (Rows.horizonDepthsRow.unfollowed == Tryz.prog.unfollowed 5) = true := by kernel_rfl
theorem depths_f3 : (Rows.horizonDepthsRow.recurses == Tryz.prog.recurses 5) = true := by kernel_rfl
theorem depths_f4 : (Rows.horizonDepthsRow.named == Tryz.prog.varsNamed 5) = true := by kernel_rfl
theorem depths_f5 : Tryz.prog.funcNamed "moveout/moveoutlaw08.HorizonDepths" = some 5 := by kernel_rfl
theorem depths_f6 : (Tryz.f5).isInstance Tryz.prog Rows.horizonDepthsRow.origin Rows.horizonDepthsRow.targs := of_decide_eq_true (by kernel_rfl)
theorem depths_f7 : (Tryz.f5).isWrapper Tryz.prog Rows.horizonDepthsRow.wrapper Rows.horizonDepthsRow.mainSum := by
  unfold Func.isWrapper; first | (rw [if_pos (by decide +kernel)]; kernel_rfl) | (rw [if_neg (by decide +kernel)]; exact ⟨rfl, rfl⟩)
theorem depths_f8 : ((Tryz.f5).params.all (Tryz.prog.readableRec ·)) = true := by kernel_rfl
theorem depths_closed : joinedFacts Tryz.prog 5 Tryz.f5 Rows.horizonDepthsSpec Rows.horizonDepthsRow = true := by
  unfold joinedFacts
  exact and2 (and2 (and2 (and2 (and2 (and2 (and2 (and2 (and2 (and2 (and2 (and2 (and2 (and2 (and2 (and2 (and2 (and2 (and2 (and2 (and2 (and2 (and2 (and2 (and2 (and2 (and2 (and2 (and2 (and2 (and2 (by kernel_rfl) laidOut) sc_maps) depths_f8) (by kernel_rfl)) (by kernel_rfl)) sc_stops) (by kernel_rfl)) sc_knobs) depths_f1) depths_f2) depths_f3) depths_f4)
    (by kernel_rfl)) (by kernel_rfl)) (by kernel_rfl)) (by kernel_rfl)) (by kernel_rfl)) (by kernel_rfl)) (by kernel_rfl)) (by kernel_rfl)) (by kernel_rfl)) sc_keys) (by kernel_rfl)) sc_heard) sc_enter) sc_lifts) sc_make) (by kernel_rfl)) (by kernel_rfl)) (by kernel_rfl)) (by kernel_rfl)

theorem depths_holds : Rows.HorizonDepthsSaid :=
  OpenClaim.holds_of_wide 5 Tryz.f5 rfl rfl rfl rfl rfl rfl rfl ⟨rfl, rfl, rfl, rfl, rfl⟩ rfl rfl rfl rfl rfl depths_f5 Tryz.func5 depths_closed
    depths_f6 depths_f7 (fun os started H enc _ => depths_lifted os started H enc)

theorem depths_stand : ((Tryz.f5).params.toList.all fun u => !Tryz.prog.wantsStandIn u) = true := by kernel_rfl
theorem depths_goes : false = Rows.horizonDepthsRow.goesBy Tryz.prog := by kernel_rfl
theorem depths_text : Rows.horizonDepthsRow.wfByText (OpenSpec.ofChange Rows.horizonDepthsSpec) = true := by kernel_rfl
theorem depths_card_holds : Rows.HorizonDepthsCardSaid :=
  Claim7.holds_tied_plain_at .later [] [.data, .data, .data, .data] true (true, "ebcced09975124e4fdc27a793f740c15c9f79016bad178323bd89e6d8461bc8d") false depths_holds (fun _ h => by cases h) depths_text (fun _ h => by cases h) horizonDepths_row_tie rfl ⟨rfl, rfl⟩ sc_main rfl
    (fun f fn hf hfn => by
      obtain rfl : f = 5 := Option.some.inj (depths_f5.symm.trans hf) |>.symm
      obtain rfl : fn = Tryz.f5 := (Option.some.inj ((Tryz.func5).symm.trans hfn)).symm
      exact ⟨sc_looks, fun j t ht => by
        have hm : t ∈ (Tryz.f5).params.toList := by simpa using Array.mem_of_getElem? ht
        exact (show Tryz.prog.wantsStandIn t = false by simpa using List.all_eq_true.1 depths_stand t hm)⟩)
    depths_goes
#print axioms depths_card_holds
end Go.Proofs.YtjhdkimkijhloaaGreatDoor
