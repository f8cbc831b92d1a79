/- HorizonLapse: whatever the arguments, the call returns true, and each argument reads afterwards as it read before (the package-level variables that the row lists hold what it says: the card ties that to the program's text). -/
import Derived.Test.YtjhdkimkijhloaaGreatDoorLp7
import Derived.Test.YtjhdkimkijhloaaGreatDoorLp12
import Derived.Test.YtjhdkimkijhloaaGreatDoorLp13
set_option linter.all false
namespace Go.Proofs.YtjhdkimkijhloaaGreatDoor
open Go.ChangeShapes Go.WideShapes Go.RowKit Go.Abs

theorem lapse_globs : globL Tryz.prog Rows.horizonLapseRow.laid 3 = glob0 := by kernel_rfl
theorem lapse_w1 : Tryz.prog.inits.idxOf? 10 = none := by kernel_rfl
theorem lapse_w2 (os : Os) : Input.okWideB Tryz.prog ((World.laidAll Tryz.prog os Rows.horizonLapseRow.laid).forCall (fun _ _ => 0) ⟨#[], #[.agg #[.string ⟨#[]⟩, .int .i64 0, .slice none 0 0], .agg #[.string ⟨#[]⟩, .int .i64 0, .slice none 0 0], .int .i64 0], []⟩) 10 ⟨#[], #[.agg #[.string ⟨#[]⟩, .int .i64 0, .slice none 0 0], .agg #[.string ⟨#[]⟩, .int .i64 0, .slice none 0 0], .int .i64 0], []⟩ = true := by kernel_rfl
theorem lapse_w3 (os : Os) (H : Type) (enc : TypeId × Value → H) : Rows.horizonLapseSpec.preB enc Tryz.prog Tryz.f10 Rows.horizonLapseRow.domain false ((World.laidAll Tryz.prog os Rows.horizonLapseRow.laid).forCall (fun _ _ => 0) ⟨#[], #[.agg #[.string ⟨#[]⟩, .int .i64 0, .slice none 0 0], .agg #[.string ⟨#[]⟩, .int .i64 0, .slice none 0 0], .int .i64 0], []⟩).memory #[.agg #[.string ⟨#[]⟩, .int .i64 0, .slice none 0 0], .agg #[.string ⟨#[]⟩, .int .i64 0, .slice none 0 0], .int .i64 0] 8 = true := by kernel_rfl
theorem lapse_w4 (os : Os) (H : Type) (enc : TypeId × Value → H) : Rows.horizonLapseSpec.sizedB enc Tryz.prog Tryz.f10 false ((World.laidAll Tryz.prog os Rows.horizonLapseRow.laid).forCall (fun _ _ => 0) ⟨#[], #[.agg #[.string ⟨#[]⟩, .int .i64 0, .slice none 0 0], .agg #[.string ⟨#[]⟩, .int .i64 0, .slice none 0 0], .int .i64 0], []⟩).memory #[.agg #[.string ⟨#[]⟩, .int .i64 0, .slice none 0 0], .agg #[.string ⟨#[]⟩, .int .i64 0, .slice none 0 0], .int .i64 0] 8 = true := by kernel_rfl
theorem lapse_ats : atsOf Tryz.prog 6 (Tryz.f10).params.toList = some [.agg ctHor, .agg ctHor, .one (.int .i64)] := by kernel_rfl
theorem lapse_par : ∀ t ∈ (Tryz.f10).params.toList, Tryz.prog.readableRec t = true ∧ t < Tryz.prog.types.size := by decide +kernel
theorem lapse_res : (Tryz.f10).resultTypes = #[4] := by kernel_rfl

set_option maxRecDepth 100000 in
theorem lapse_lifted (os : Os) (started : os.Started) (H : Type) (enc : TypeId × Value → H) :
    ReturnsInHanded {} Tryz.checked os 10 .any (fun w args => (Rows.horizonLapseSpec.pre enc Tryz.prog Tryz.f10 Rows.horizonLapseRow.domain false w args ∧ laidMetH Tryz.prog Rows.horizonLapseRow.laid w) ∧ sizedMet enc Tryz.prog Tryz.f10 (OpenSpec.ofChange Rows.horizonLapseSpec) false w args)
      (Rows.horizonLapseSpec.post enc Tryz.prog Tryz.f10 false true false false) := by
  refine returnsInHanded_of_change_and (C := Tryz.checked) (X := fun w _ => laidMetH Tryz.prog Rows.horizonLapseRow.laid w) (fun _ _ _ hh h => h.of_heap hh) own started lapse_w1 Tryz.func10
    (ChangeSpec.witness_shaped (enc := enc) (C := Tryz.checked) (os := os) (X := fun w _ => laidMetH Tryz.prog Rows.horizonLapseRow.laid w) false (World.laidAll Tryz.prog os Rows.horizonLapseRow.laid) #[.agg #[.string ⟨#[]⟩, .int .i64 0, .slice none 0 0], .agg #[.string ⟨#[]⟩, .int .i64 0, .slice none 0 0], .int .i64 0] 8 (World.laidAll_os _ _ _)
      (sc_shaped os _) (lapse_w2 os) (lapse_w3 os H enc) (lapse_w4 os H enc) (sc_laid os _)) ?_
  intro W base args ds gs before hval hW _ _ hL _
  have hL' : laidMetH Tryz.prog Rows.horizonLapseRow.laid W := hL
  rw [MakeChecks.laidMetH_plain _ _ _ (by kernel_rfl)] at hL'
  obtain ⟨aw, hz⟩ := AW.globals hL' (fun x hx => hx) 3 (nm := "math/bits.deBruijn64tab") (d := Rows.laid_math_bits_deBruijn64tab) (by unfold Rows.horizonLapseRow; simp) (by kernel_rfl)
  rw [lapse_globs] at aw
  obtain ⟨p, q, hA, hV, _⟩ := id hW
  obtain ⟨rfl, _⟩ := trodVars_none hV
  have hA' : DataW.TrodAll enc Tryz.prog W 0 (fun _ => true) true (Tryz.f10).params.toList args.toList ds p := hA
  rw [Tryz.params10] at hA'
  obtain ⟨_, _, _, d1, d2, d3, _, _, _, _, rfl, _⟩ := trodAll_three hA'
  refine row_true (n := 6) (ats := [.agg ctHor, .agg ctHor, .one (.int .i64)]) laidOut lapse_par lapse_res Tryz.underlying4 rfl rfl lapse_ats hval hW aw hz ?_
  intro k vs e h
  obtain ⟨_, _, rfl, h1, h⟩ := tyas_cons h
  obtain ⟨_, _, rfl, h2, h⟩ := tyas_cons h
  obtain ⟨_, _, rfl, h3, h⟩ := tyas_cons h
  obtain rfl := tyas_nil h
  obtain ⟨Ha, sa, rfl, oa⟩ := tya_hor h1
  obtain ⟨Hb, sb, rfl, ob⟩ := tya_hor h2
  obtain ⟨x, rfl, wx⟩ := tya_int h3
  exact r10 tbl (fun k' e' => awake_ok k' (e.trans e')) oa ob x

theorem lapse_f1 : (Rows.horizonLapseRow.inPlace == Tryz.prog.inPlace 10) = true := by kernel_rfl
theorem lapse_f2 : (Rows.horizonLapseRow.unfollowed == Tryz.prog.unfollowed 10) = true := by kernel_rfl
theorem lapse_f3 : (Rows.horizonLapseRow.recurses == Tryz.prog.recurses 10) = true := by kernel_rfl
theorem lapse_f4 : (Rows.horizonLapseRow.named == Tryz.prog.varsNamed 10) = true := by kernel_rfl
theorem lapse_f5 : Tryz.prog.funcNamed "moveout/moveoutlaw08.HorizonLapse" = some 10 := by kernel_rfl
theorem lapse_f6 : (Tryz.f10).isInstance Tryz.prog Rows.horizonLapseRow.origin Rows.horizonLapseRow.targs := of_decide_eq_true (by kernel_rfl)
theorem lapse_f7 : (Tryz.f10).isWrapper Tryz.prog Rows.horizonLapseRow.wrapper Rows.horizonLapseRow.mainSum := by
  unfold Func.isWrapper; first | (rw [if_pos (by decide +kernel)]; kernel_rfl) | (rw [if_neg (by decide +kernel)]; exact ⟨rfl, rfl⟩)
theorem lapse_f8 : ((Tryz.f10).params.all (Tryz.prog.readableRec ·)) = true := by kernel_rfl
theorem lapse_closed : joinedFacts Tryz.prog 10 Tryz.f10 Rows.horizonLapseSpec Rows.horizonLapseRow = true := by
  unfold joinedFacts
  exact and2 (and2 (and2 (and2 (and2 (and2 (and2 (and2 (and2 (and2 (and2 (and2 (and2 (and2 (and2 (and2 (and2 (and2 (and2 (and2 (and2 (and2 (and2 (and2 (and2 (and2 (and2 (and2 (and2 (and2 (and2 (by kernel_rfl) laidOut) sc_maps) lapse_f8) (by kernel_rfl)) (by kernel_rfl)) sc_stops) (by kernel_rfl)) sc_knobs) lapse_f1) lapse_f2) lapse_f3) lapse_f4)
    (by kernel_rfl)) (by kernel_rfl)) (by kernel_rfl)) (by kernel_rfl)) (by kernel_rfl)) (by kernel_rfl)) (by kernel_rfl)) (by kernel_rfl)) (by kernel_rfl)) sc_keys) (by kernel_rfl)) sc_heard) sc_enter) sc_lifts) sc_make) (by kernel_rfl)) (by kernel_rfl)) (by kernel_rfl)) (by kernel_rfl)

theorem lapse_holds : Rows.HorizonLapseSaid :=
  OpenClaim.holds_of_wide 10 Tryz.f10 rfl rfl rfl rfl rfl rfl rfl ⟨rfl, rfl, rfl, rfl, rfl⟩ rfl rfl rfl rfl rfl lapse_f5 Tryz.func10 lapse_closed
    lapse_f6 lapse_f7 (fun os started H enc _ => lapse_lifted os started H enc)

theorem lapse_stand : ((Tryz.f10).params.toList.all fun u => !Tryz.prog.wantsStandIn u) = true := by kernel_rfl
theorem lapse_goes : false = Rows.horizonLapseRow.goesBy Tryz.prog := by kernel_rfl
theorem lapse_text : Rows.horizonLapseRow.wfByText (OpenSpec.ofChange Rows.horizonLapseSpec) = true := by kernel_rfl
theorem lapse_card_holds : Rows.HorizonLapseCardSaid :=
  Claim7.holds_tied_plain_at .later [] [.data, .data, .data, .data] true (true, "ebcced09975124e4fdc27a793f740c15c9f79016bad178323bd89e6d8461bc8d") false lapse_holds (fun _ h => by cases h) lapse_text (fun _ h => by cases h) horizonLapse_row_tie rfl ⟨rfl, rfl⟩ sc_main rfl
    (fun f fn hf hfn => by
      obtain rfl : f = 10 := Option.some.inj (lapse_f5.symm.trans hf) |>.symm
      obtain rfl : fn = Tryz.f10 := (Option.some.inj ((Tryz.func10).symm.trans hfn)).symm
      exact ⟨sc_looks, fun j t ht => by
        have hm : t ∈ (Tryz.f10).params.toList := by simpa using Array.mem_of_getElem? ht
        exact (show Tryz.prog.wantsStandIn t = false by simpa using List.all_eq_true.1 lapse_stand t hm)⟩)
    lapse_goes
#print axioms lapse_card_holds
end Go.Proofs.YtjhdkimkijhloaaGreatDoor
