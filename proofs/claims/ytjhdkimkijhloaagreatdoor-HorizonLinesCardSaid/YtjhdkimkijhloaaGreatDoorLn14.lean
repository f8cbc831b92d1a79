/- HorizonLines: whatever the arguments, the call returns true, and each argument reads afterwards as it read before (the package-level variables that the row lists hold what it says: the card ties that to the program's text). -/
import Derived.Test.YtjhdkimkijhloaaGreatDoorLn7
import Derived.Test.YtjhdkimkijhloaaGreatDoorLn12
import Derived.Test.YtjhdkimkijhloaaGreatDoorLn13
set_option linter.all false
namespace Go.Proofs.YtjhdkimkijhloaaGreatDoor
open Go.ChangeShapes Go.WideShapes Go.RowKit Go.Abs

theorem lines_globs : globL Tryz.prog Rows.horizonLinesRow.laid 3 = glob0 := by kernel_rfl
theorem lines_w1 : Tryz.prog.inits.idxOf? 8 = none := by kernel_rfl
theorem lines_w2 (os : Os) : Input.okWideB Tryz.prog ((World.laidAll Tryz.prog os Rows.horizonLinesRow.laid).forCall (fun _ _ => 0) ⟨#[], #[.agg #[.string ⟨#[]⟩, .int .i64 0, .slice none 0 0], .agg #[.int .i64 0, .int .i64 0], .int .u8 0], []⟩) 8 ⟨#[], #[.agg #[.string ⟨#[]⟩, .int .i64 0, .slice none 0 0], .agg #[.int .i64 0, .int .i64 0], .int .u8 0], []⟩ = true := by kernel_rfl
theorem lines_w3 (os : Os) (H : Type) (enc : TypeId × Value → H) : Rows.horizonLinesSpec.preB enc Tryz.prog Tryz.f8 Rows.horizonLinesRow.domain false ((World.laidAll Tryz.prog os Rows.horizonLinesRow.laid).forCall (fun _ _ => 0) ⟨#[], #[.agg #[.string ⟨#[]⟩, .int .i64 0, .slice none 0 0], .agg #[.int .i64 0, .int .i64 0], .int .u8 0], []⟩).memory #[.agg #[.string ⟨#[]⟩, .int .i64 0, .slice none 0 0], .agg #[.int .i64 0, .int .i64 0], .int .u8 0] 8 = true := by kernel_rfl
theorem lines_w4 (os : Os) (H : Type) (enc : TypeId × Value → H) : Rows.horizonLinesSpec.sizedB enc Tryz.prog Tryz.f8 false ((World.laidAll Tryz.prog os Rows.horizonLinesRow.laid).forCall (fun _ _ => 0) ⟨#[], #[.agg #[.string ⟨#[]⟩, .int .i64 0, .slice none 0 0], .agg #[.int .i64 0, .int .i64 0], .int .u8 0], []⟩).memory #[.agg #[.string ⟨#[]⟩, .int .i64 0, .slice none 0 0], .agg #[.int .i64 0, .int .i64 0], .int .u8 0] 8 = true := by kernel_rfl
theorem lines_ats : atsOf Tryz.prog 6 (Tryz.f8).params.toList = some [.agg ctHor, .agg ctPk, .one (.int .u8)] := by kernel_rfl
theorem lines_par : ∀ t ∈ (Tryz.f8).params.toList, Tryz.prog.readableRec t = true ∧ t < Tryz.prog.types.size := by decide +kernel
theorem lines_res : (Tryz.f8).resultTypes = #[4] := by kernel_rfl

set_option maxRecDepth 100000 in
theorem lines_lifted (os : Os) (started : os.Started) (H : Type) (enc : TypeId × Value → H) :
    ReturnsInHanded {} Tryz.checked os 8 .any (fun w args => (Rows.horizonLinesSpec.pre enc Tryz.prog Tryz.f8 Rows.horizonLinesRow.domain false w args ∧ laidMetH Tryz.prog Rows.horizonLinesRow.laid w) ∧ sizedMet enc Tryz.prog Tryz.f8 (OpenSpec.ofChange Rows.horizonLinesSpec) false w args)
      (Rows.horizonLinesSpec.post enc Tryz.prog Tryz.f8 false true false false) := by
  refine returnsInHanded_of_change_and (C := Tryz.checked) (X := fun w _ => laidMetH Tryz.prog Rows.horizonLinesRow.laid w) (fun _ _ _ hh h => h.of_heap hh) own started lines_w1 Tryz.func8
    (ChangeSpec.witness_shaped (enc := enc) (C := Tryz.checked) (os := os) (X := fun w _ => laidMetH Tryz.prog Rows.horizonLinesRow.laid w) false (World.laidAll Tryz.prog os Rows.horizonLinesRow.laid) #[.agg #[.string ⟨#[]⟩, .int .i64 0, .slice none 0 0], .agg #[.int .i64 0, .int .i64 0], .int .u8 0] 8 (World.laidAll_os _ _ _)
      (sc_shaped os _) (lines_w2 os) (lines_w3 os H enc) (lines_w4 os H enc) (sc_laid os _)) ?_
  intro W base args ds gs before hval hW _ _ hL _
  have hL' : laidMetH Tryz.prog Rows.horizonLinesRow.laid W := hL
  rw [MakeChecks.laidMetH_plain _ _ _ (by kernel_rfl)] at hL'
  obtain ⟨aw, hz⟩ := AW.globals hL' (fun x hx => hx) 3 (nm := "math/bits.deBruijn64tab") (d := Rows.laid_math_bits_deBruijn64tab) (by unfold Rows.horizonLinesRow; simp) (by kernel_rfl)
  rw [lines_globs] at aw
  obtain ⟨p, q, hA, hV, _⟩ := id hW
  obtain ⟨rfl, _⟩ := trodVars_none hV
  have hA' : DataW.TrodAll enc Tryz.prog W 0 (fun _ => true) true (Tryz.f8).params.toList args.toList ds p := hA
  rw [Tryz.params8] at hA'
  obtain ⟨_, _, _, d1, d2, d3, _, _, _, _, rfl, _⟩ := trodAll_three hA'
  refine row_true (n := 6) (ats := [.agg ctHor, .agg ctPk, .one (.int .u8)]) laidOut lines_par lines_res Tryz.underlying4 rfl rfl lines_ats hval hW aw hz ?_
  intro k vs e h
  obtain ⟨_, _, rfl, h1, h⟩ := tyas_cons h
  obtain ⟨_, _, rfl, h2, h⟩ := tyas_cons h
  obtain ⟨_, _, rfl, h3, h⟩ := tyas_cons h
  obtain rfl := tyas_nil h
  obtain ⟨Hr, s, rfl, o⟩ := tya_hor h1
  obtain ⟨p, t, rfl⟩ := tya_pk h2
  obtain ⟨x, rfl, wx⟩ := tya_int h3
  exact r8 tbl (fun k' e' => awake_ok k' (e.trans e')) o p t x (u8_bd wx)

theorem lines_f1 : (Rows.horizonLinesRow.inPlace == Tryz.prog.inPlace 8) = true := by kernel_rfl
theorem lines_f2 : (Rows.horizonLinesRow.unfollowed == Tryz.prog.unfollowed 8) = true := by kernel_rfl
theorem lines_f3 : (Rows.horizonLinesRow.recurses == Tryz.prog.recurses 8) = true := by kernel_rfl
theorem lines_f4 : (Rows.horizonLinesRow.named == Tryz.prog.varsNamed 8) = true := by kernel_rfl
theorem lines_f5 : Tryz.prog.funcNamed "moveout/moveoutlaw08.HorizonLines" = some 8 := by kernel_rfl
theorem lines_f6 : (Tryz.f8).isInstance Tryz.prog Rows.horizonLinesRow.origin Rows.horizonLinesRow.targs := of_decide_eq_true (by kernel_rfl)
theorem lines_f7 : (Tryz.f8).isWrapper Tryz.prog Rows.horizonLinesRow.wrapper Rows.horizonLinesRow.mainSum := by
  unfold Func.isWrapper; first | (rw [if_pos (by decide +kernel)]; kernel_rfl) | (rw [if_neg (by decide +kernel)]; exact ⟨rfl, rfl⟩)
theorem lines_f8 : ((Tryz.f8).params.all (Tryz.prog.readableRec ·)) = true := by kernel_rfl
theorem lines_closed : joinedFacts Tryz.prog 8 Tryz.f8 Rows.horizonLinesSpec Rows.horizonLinesRow = true := by
  unfold joinedFacts
  exact and2 (and2 (and2 (and2 (and2 (and2 (and2 (and2 (and2 (and2 (and2 (and2 (and2 (and2 (and2 (and2 (and2 (and2 (and2 (and2 (and2 (and2 (and2 (and2 (and2 (and2 (and2 (and2 (and2 (and2 (and2 (by kernel_rfl) laidOut) sc_maps) lines_f8) (by kernel_rfl)) (by kernel_rfl)) sc_stops) (by kernel_rfl)) sc_knobs) lines_f1) lines_f2) lines_f3) lines_f4)
    (by kernel_rfl)) (by kernel_rfl)) (by kernel_rfl)) (by kernel_rfl)) (by kernel_rfl)) (by kernel_rfl)) (by kernel_rfl)) (by kernel_rfl)) (by kernel_rfl)) sc_keys) (by kernel_rfl)) sc_heard) sc_enter) sc_lifts) sc_make) (by kernel_rfl)) (by kernel_rfl)) (by kernel_rfl)) (by kernel_rfl)

theorem lines_holds : Rows.HorizonLinesSaid :=
  OpenClaim.holds_of_wide 8 Tryz.f8 rfl rfl rfl rfl rfl rfl rfl ⟨rfl, rfl, rfl, rfl, rfl⟩ rfl rfl rfl rfl rfl lines_f5 Tryz.func8 lines_closed
    lines_f6 lines_f7 (fun os started H enc _ => lines_lifted os started H enc)

theorem lines_stand : ((Tryz.f8).params.toList.all fun u => !Tryz.prog.wantsStandIn u) = true := by kernel_rfl
theorem lines_goes : false = Rows.horizonLinesRow.goesBy Tryz.prog := by kernel_rfl
theorem lines_text : Rows.horizonLinesRow.wfByText (OpenSpec.ofChange Rows.horizonLinesSpec) = true := by kernel_rfl
theorem lines_card_holds : Rows.HorizonLinesCardSaid :=
  Claim7.holds_tied_plain_at .later [] [.data, .data, .data, .data] true (true, "ebcced09975124e4fdc27a793f740c15c9f79016bad178323bd89e6d8461bc8d") false lines_holds (fun _ h => by cases h) lines_text (fun _ h => by cases h) horizonLines_row_tie rfl ⟨rfl, rfl⟩ sc_main rfl
    (fun f fn hf hfn => by
      obtain rfl : f = 8 := Option.some.inj (lines_f5.symm.trans hf) |>.symm
      obtain rfl : fn = Tryz.f8 := (Option.some.inj ((Tryz.func8).symm.trans hfn)).symm
      exact ⟨sc_looks, fun j t ht => by
        have hm : t ∈ (Tryz.f8).params.toList := by simpa using Array.mem_of_getElem? ht
        exact (show Tryz.prog.wantsStandIn t = false by simpa using List.all_eq_true.1 lines_stand t hm)⟩)
    lines_goes
#print axioms lines_card_holds
end Go.Proofs.YtjhdkimkijhloaaGreatDoor
