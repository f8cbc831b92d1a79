/- HorizonPicks: whatever the arguments, the call returns true, and each argument reads afterwards as it read before (the package-level variables that the row lists hold what it says: the card ties that to the program's text). -/
import Derived.Test.YtjhdkimkijhloaaGreatDoorPk7
import Derived.Test.YtjhdkimkijhloaaGreatDoorPk12
import Derived.Test.YtjhdkimkijhloaaGreatDoorPk13
set_option linter.all false
namespace Go.Proofs.YtjhdkimkijhloaaGreatDoor
open Go.ChangeShapes Go.WideShapes Go.RowKit Go.Abs

theorem globs : globL Tryz.prog Rows.horizonPicksRow.laid 3 = glob0 := by kernel_rfl
theorem picks_w1 : Tryz.prog.inits.idxOf? 3 = none := by kernel_rfl
theorem picks_w2 (os : Os) : Input.okWideB Tryz.prog ((World.laidAll Tryz.prog os Rows.horizonPicksRow.laid).forCall (fun _ _ => 0) ⟨#[], #[.agg #[.string ⟨#[]⟩, .int .i64 0, .slice none 0 0], .slice none 0 0, .int .i64 0], []⟩) 3 ⟨#[], #[.agg #[.string ⟨#[]⟩, .int .i64 0, .slice none 0 0], .slice none 0 0, .int .i64 0], []⟩ = true := by kernel_rfl
theorem picks_w3 (os : Os) (H : Type) (enc : TypeId × Value → H) : Rows.horizonPicksSpec.preB enc Tryz.prog Tryz.f3 Rows.horizonPicksRow.domain false ((World.laidAll Tryz.prog os Rows.horizonPicksRow.laid).forCall (fun _ _ => 0) ⟨#[], #[.agg #[.string ⟨#[]⟩, .int .i64 0, .slice none 0 0], .slice none 0 0, .int .i64 0], []⟩).memory #[.agg #[.string ⟨#[]⟩, .int .i64 0, .slice none 0 0], .slice none 0 0, .int .i64 0] 8 = true := by kernel_rfl
theorem picks_w4 (os : Os) (H : Type) (enc : TypeId × Value → H) : Rows.horizonPicksSpec.sizedB enc Tryz.prog Tryz.f3 false ((World.laidAll Tryz.prog os Rows.horizonPicksRow.laid).forCall (fun _ _ => 0) ⟨#[], #[.agg #[.string ⟨#[]⟩, .int .i64 0, .slice none 0 0], .slice none 0 0, .int .i64 0], []⟩).memory #[.agg #[.string ⟨#[]⟩, .int .i64 0, .slice none 0 0], .slice none 0 0, .int .i64 0] 8 = true := by kernel_rfl
theorem picks_ats : atsOf Tryz.prog 6 (Tryz.f3).params.toList = some [.agg ctHor, .one (.sl ctHor), .one (.int .i64)] := by kernel_rfl
theorem picks_par : ∀ t ∈ (Tryz.f3).params.toList, Tryz.prog.readableRec t = true ∧ t < Tryz.prog.types.size := by decide +kernel
theorem picks_res : (Tryz.f3).resultTypes = #[4] := by kernel_rfl

set_option maxRecDepth 100000 in
theorem picks_lifted (os : Os) (started : os.Started) (H : Type) (enc : TypeId × Value → H) :
    ReturnsInHanded {} Tryz.checked os 3 .any (fun w args => (Rows.horizonPicksSpec.pre enc Tryz.prog Tryz.f3 Rows.horizonPicksRow.domain false w args ∧ laidMetH Tryz.prog Rows.horizonPicksRow.laid w) ∧ sizedMet enc Tryz.prog Tryz.f3 (OpenSpec.ofChange Rows.horizonPicksSpec) false w args)
      (Rows.horizonPicksSpec.post enc Tryz.prog Tryz.f3 false true false false) := by
  refine returnsInHanded_of_change_and (C := Tryz.checked) (X := fun w _ => laidMetH Tryz.prog Rows.horizonPicksRow.laid w) (fun _ _ _ hh h => h.of_heap hh) own started picks_w1 Tryz.func3
    (ChangeSpec.witness_shaped (enc := enc) (C := Tryz.checked) (os := os) (X := fun w _ => laidMetH Tryz.prog Rows.horizonPicksRow.laid w) false (World.laidAll Tryz.prog os Rows.horizonPicksRow.laid) #[.agg #[.string ⟨#[]⟩, .int .i64 0, .slice none 0 0], .slice none 0 0, .int .i64 0] 8 (World.laidAll_os _ _ _)
      (sc_shaped os _) (picks_w2 os) (picks_w3 os H enc) (picks_w4 os H enc) (sc_laid os _)) ?_
  intro W base args ds gs before hval hW _ _ hL _
  have hL' : laidMetH Tryz.prog Rows.horizonPicksRow.laid W := hL
  rw [MakeChecks.laidMetH_plain _ _ _ (by kernel_rfl)] at hL'
  obtain ⟨aw, hz⟩ := AW.globals hL' (fun x hx => hx) 3 (nm := "math/bits.deBruijn64tab") (d := Rows.laid_math_bits_deBruijn64tab) (by unfold Rows.horizonPicksRow; simp) (by kernel_rfl)
  rw [globs] at aw
  obtain ⟨p, q, hA, hV, _⟩ := id hW
  obtain ⟨rfl, _⟩ := trodVars_none hV
  have hA' : DataW.TrodAll enc Tryz.prog W 0 (fun _ => true) true (Tryz.f3).params.toList args.toList ds p := hA
  rw [Tryz.params3] at hA'
  obtain ⟨_, _, _, d1, d2, d3, _, _, _, _, rfl, _⟩ := trodAll_three hA'
  refine row_true (n := 6) (ats := [.agg ctHor, .one (.sl ctHor), .one (.int .i64)]) laidOut picks_par picks_res Tryz.underlying4 rfl rfl picks_ats hval hW aw hz ?_
  intro k vs e h
  obtain ⟨_, _, rfl, h1, h⟩ := tyas_cons h
  obtain ⟨_, _, rfl, h2, h⟩ := tyas_cons h
  obtain ⟨_, _, rfl, h3, h⟩ := tyas_cons h
  obtain rfl := tyas_nil h
  obtain ⟨Hr, s, rfl, o⟩ := tya_hor h1
  obtain ⟨L, ol⟩ := tya_hors h2
  obtain ⟨x, rfl, _⟩ := tya_int h3
  exact r3 tbl (fun k' e' => awake_ok k' (e.trans e')) o ol x

theorem picks_f1 : (Rows.horizonPicksRow.inPlace == Tryz.prog.inPlace 3) = true := by kernel_rfl
theorem picks_f2 : (Rows.horizonPicksRow.unfollowed == Tryz.prog.unfollowed 3) = true := by kernel_rfl
theorem picks_f3 : (Rows.horizonPicksRow.recurses == Tryz.prog.recurses 3) = true := by kernel_rfl
theorem picks_f4 : (Rows.horizonPicksRow.named == Tryz.prog.varsNamed 3) = true := by kernel_rfl
theorem picks_f5 : Tryz.prog.funcNamed "moveout/moveoutlaw08.HorizonPicks" = some 3 := by kernel_rfl
theorem picks_f6 : (Tryz.f3).isInstance Tryz.prog Rows.horizonPicksRow.origin Rows.horizonPicksRow.targs := of_decide_eq_true (by kernel_rfl)
theorem picks_f7 : (Tryz.f3).isWrapper Tryz.prog Rows.horizonPicksRow.wrapper Rows.horizonPicksRow.mainSum := by
  unfold Func.isWrapper; first | (rw [if_pos (by decide +kernel)]; kernel_rfl) | (rw [if_neg (by decide +kernel)]; exact ⟨rfl, rfl⟩)
theorem picks_f8 : ((Tryz.f3).params.all (Tryz.prog.readableRec ·)) = true := by kernel_rfl
theorem picks_closed : joinedFacts Tryz.prog 3 Tryz.f3 Rows.horizonPicksSpec Rows.horizonPicksRow = true := by
  unfold joinedFacts
  exact and2 (and2 (and2 (and2 (and2 (and2 (and2 (and2 (and2 (and2 (and2 (and2 (and2 (and2 (and2 (and2 (and2 (and2 (and2 (and2 (and2 (and2 (and2 (and2 (and2 (and2 (and2 (and2 (and2 (and2 (and2 (by kernel_rfl) laidOut) sc_maps) picks_f8) (by kernel_rfl)) (by kernel_rfl)) sc_stops) (by kernel_rfl)) sc_knobs) picks_f1) picks_f2) picks_f3) picks_f4)
    (by kernel_rfl)) (by kernel_rfl)) (by kernel_rfl)) (by kernel_rfl)) (by kernel_rfl)) (by kernel_rfl)) (by kernel_rfl)) (by kernel_rfl)) (by kernel_rfl)) sc_keys) (by kernel_rfl)) sc_heard) sc_enter) sc_lifts) sc_make) (by kernel_rfl)) (by kernel_rfl)) (by kernel_rfl)) (by kernel_rfl)

theorem picks_holds : Rows.HorizonPicksSaid :=
  OpenClaim.holds_of_wide 3 Tryz.f3 rfl rfl rfl rfl rfl rfl rfl ⟨rfl, rfl, rfl, rfl, rfl⟩ rfl rfl rfl rfl rfl picks_f5 Tryz.func3 picks_closed
    picks_f6 picks_f7 (fun os started H enc _ => picks_lifted os started H enc)

theorem picks_stand : ((Tryz.f3).params.toList.all fun u => !Tryz.prog.wantsStandIn u) = true := by kernel_rfl
theorem picks_goes : false = Rows.horizonPicksRow.goesBy Tryz.prog := by kernel_rfl
theorem picks_text : Rows.horizonPicksRow.wfByText (OpenSpec.ofChange Rows.horizonPicksSpec) = true := by kernel_rfl
theorem picks_card_holds : Rows.HorizonPicksCardSaid :=
  Claim7.holds_tied_plain_at .later [] [.data, .data, .data, .data] true (true, "ebcced09975124e4fdc27a793f740c15c9f79016bad178323bd89e6d8461bc8d") false picks_holds (fun _ h => by cases h) picks_text (fun _ h => by cases h) horizonPicks_row_tie rfl ⟨rfl, rfl⟩ sc_main rfl
    (fun f fn hf hfn => by
      obtain rfl : f = 3 := Option.some.inj (picks_f5.symm.trans hf) |>.symm
      obtain rfl : fn = Tryz.f3 := (Option.some.inj ((Tryz.func3).symm.trans hfn)).symm
      exact ⟨sc_looks, fun j t ht => by
        have hm : t ∈ (Tryz.f3).params.toList := by simpa using Array.mem_of_getElem? ht
        exact (show Tryz.prog.wantsStandIn t = false by simpa using List.all_eq_true.1 picks_stand t hm)⟩)
    picks_goes
#print axioms picks_card_holds
end Go.Proofs.YtjhdkimkijhloaaGreatDoor
