/- HorizonCloses: whatever the arguments, the call returns true, and each argument reads afterwards as it read before (the package-level variables that the row lists hold what it says: the card ties that to the program's text). -/
import Derived.Test.YtjhdkimkijhloaaGreatDoorCs7
import Derived.Test.YtjhdkimkijhloaaGreatDoorCs13
import Derived.Test.YtjhdkimkijhloaaGreatDoorCs12
import Derived.Test.YtjhdkimkijhloaaGreatDoorCs14
set_option linter.all false
namespace Go.Proofs.YtjhdkimkijhloaaGreatDoor
open Go.ChangeShapes Go.WideShapes Go.RowKit Go.Abs

theorem closes_globs : globL Tryz.prog Rows.horizonClosesRow.laid 3 = glob0 := by kernel_rfl
theorem closes_w1 : Tryz.prog.inits.idxOf? 9 = none := by kernel_rfl
theorem closes_w2 (os : Os) : Input.okWideB Tryz.prog ((World.laidAll Tryz.prog os Rows.horizonClosesRow.laid).forCall (fun _ _ => 0) ⟨#[], #[.agg #[.int .i64 0, .int .i64 0, .slice none 0 0], .agg #[.int .u8 0, .int .u8 0], .int .u16 0], []⟩) 9 ⟨#[], #[.agg #[.int .i64 0, .int .i64 0, .slice none 0 0], .agg #[.int .u8 0, .int .u8 0], .int .u16 0], []⟩ = true := by kernel_rfl
theorem closes_w3 (os : Os) (H : Type) (enc : TypeId × Value → H) : Rows.horizonClosesSpec.preB enc Tryz.prog Tryz.f9 Rows.horizonClosesRow.domain false ((World.laidAll Tryz.prog os Rows.horizonClosesRow.laid).forCall (fun _ _ => 0) ⟨#[], #[.agg #[.int .i64 0, .int .i64 0, .slice none 0 0], .agg #[.int .u8 0, .int .u8 0], .int .u16 0], []⟩).memory #[.agg #[.int .i64 0, .int .i64 0, .slice none 0 0], .agg #[.int .u8 0, .int .u8 0], .int .u16 0] 8 = true := by kernel_rfl
theorem closes_w4 (os : Os) (H : Type) (enc : TypeId × Value → H) : Rows.horizonClosesSpec.sizedB enc Tryz.prog Tryz.f9 false ((World.laidAll Tryz.prog os Rows.horizonClosesRow.laid).forCall (fun _ _ => 0) ⟨#[], #[.agg #[.int .i64 0, .int .i64 0, .slice none 0 0], .agg #[.int .u8 0, .int .u8 0], .int .u16 0], []⟩).memory #[.agg #[.int .i64 0, .int .i64 0, .slice none 0 0], .agg #[.int .u8 0, .int .u8 0], .int .u16 0] 8 = true := by kernel_rfl
theorem closes_ats : atsOf Tryz.prog 6 (Tryz.f9).params.toList = some [.agg ctMap, .agg (List.replicate 2 (.int .u8)), .one (.int .u16)] := by kernel_rfl
theorem closes_par : ∀ t ∈ (Tryz.f9).params.toList, Tryz.prog.readableRec t = true ∧ t < Tryz.prog.types.size := by decide +kernel
theorem closes_res : (Tryz.f9).resultTypes = #[4] := by kernel_rfl

set_option maxRecDepth 100000 in
theorem closes_lifted (os : Os) (started : os.Started) (H : Type) (enc : TypeId × Value → H) :
    ReturnsInHanded {} Tryz.checked os 9 .any (fun w args => (Rows.horizonClosesSpec.pre enc Tryz.prog Tryz.f9 Rows.horizonClosesRow.domain false w args ∧ laidMetH Tryz.prog Rows.horizonClosesRow.laid w) ∧ sizedMet enc Tryz.prog Tryz.f9 (OpenSpec.ofChange Rows.horizonClosesSpec) false w args)
      (Rows.horizonClosesSpec.post enc Tryz.prog Tryz.f9 false true false false) := by
  refine returnsInHanded_of_change_and (C := Tryz.checked) (X := fun w _ => laidMetH Tryz.prog Rows.horizonClosesRow.laid w) (fun _ _ _ hh h => h.of_heap hh) own started closes_w1 Tryz.func9
    (ChangeSpec.witness_shaped (enc := enc) (C := Tryz.checked) (os := os) (X := fun w _ => laidMetH Tryz.prog Rows.horizonClosesRow.laid w) false (World.laidAll Tryz.prog os Rows.horizonClosesRow.laid) #[.agg #[.int .i64 0, .int .i64 0, .slice none 0 0], .agg #[.int .u8 0, .int .u8 0], .int .u16 0] 8 (World.laidAll_os _ _ _)
      (sc_shaped os _) (closes_w2 os) (closes_w3 os H enc) (closes_w4 os H enc) (sc_laid os _)) ?_
  intro W base args ds gs before hval hW _ _ hL _
  have hL' : laidMetH Tryz.prog Rows.horizonClosesRow.laid W := hL
  rw [MakeChecks.laidMetH_plain _ _ _ (by kernel_rfl)] at hL'
  obtain ⟨aw, hz⟩ := AW.globals hL' (fun x hx => hx) 3 (nm := "math/bits.deBruijn64tab") (d := Rows.laid_math_bits_deBruijn64tab) (by unfold Rows.horizonClosesRow; simp) (by kernel_rfl)
  rw [closes_globs] at aw
  obtain ⟨p, q, hA, hV, _⟩ := id hW
  obtain ⟨rfl, _⟩ := trodVars_none hV
  have hA' : DataW.TrodAll enc Tryz.prog W 0 (fun _ => true) true (Tryz.f9).params.toList args.toList ds p := hA
  rw [Tryz.params9] at hA'
  obtain ⟨_, _, _, d1, d2, d3, _, _, _, _, rfl, _⟩ := trodAll_three hA'
  refine row_true (n := 6) (ats := [.agg ctMap, .agg (List.replicate 2 (.int .u8)), .one (.int .u16)]) laidOut closes_par closes_res Tryz.underlying4 rfl rfl closes_ats hval hW aw hz ?_
  intro k vs e h
  obtain ⟨_, _, rfl, h1, h⟩ := tyas_cons h
  obtain ⟨_, _, rfl, h2, h⟩ := tyas_cons h
  obtain ⟨_, _, rfl, h3, h⟩ := tyas_cons h
  obtain rfl := tyas_nil h
  obtain ⟨m, s, rfl, hs⟩ := tya_map h1
  obtain ⟨nn, rfl, hn2, hnb⟩ := tya_arr h2
  obtain ⟨y, rfl, wy⟩ := tya_int h3
  exact r9 tbl srt (gl0 e) (fun k' e' => awake_ok k' (e.trans e')) hs hn2 (fun y hy => u8_bd (hnb y hy)) (u16_bd wy)

theorem closes_f1 : (Rows.horizonClosesRow.inPlace == Tryz.prog.inPlace 9) = true := by kernel_rfl
theorem closes_f2 : (Rows.horizonClosesRow.unfollowed == Tryz.prog.unfollowed 9) = true := by kernel_rfl
theorem closes_f3 : (Rows.horizonClosesRow.recurses == Tryz.prog.recurses 9) = true := by kernel_rfl
theorem closes_f4 : (Rows.horizonClosesRow.named == Tryz.prog.varsNamed 9) = true := by kernel_rfl
theorem closes_f5 : Tryz.prog.funcNamed "moveout/moveoutlaw08.HorizonCloses" = some 9 := by kernel_rfl
theorem closes_f6 : (Tryz.f9).isInstance Tryz.prog Rows.horizonClosesRow.origin Rows.horizonClosesRow.targs := of_decide_eq_true (by kernel_rfl)
theorem closes_f7 : (Tryz.f9).isWrapper Tryz.prog Rows.horizonClosesRow.wrapper Rows.horizonClosesRow.mainSum := by
  unfold Func.isWrapper; first | (rw [if_pos (by decide +kernel)]; kernel_rfl) | (rw [if_neg (by decide +kernel)]; exact ⟨rfl, rfl⟩)
theorem closes_f8 : ((Tryz.f9).params.all (Tryz.prog.readableRec ·)) = true := by kernel_rfl
theorem closes_closed : joinedFacts Tryz.prog 9 Tryz.f9 Rows.horizonClosesSpec Rows.horizonClosesRow = true := by
  unfold joinedFacts
  exact and2 (and2 (and2 (and2 (and2 (and2 (and2 (and2 (and2 (and2 (and2 (and2 (and2 (and2 (and2 (and2 (and2 (and2 (and2 (and2 (and2 (and2 (and2 (and2 (and2 (and2 (and2 (and2 (and2 (and2 (and2 (by kernel_rfl) laidOut) sc_maps) closes_f8) (by kernel_rfl)) (by kernel_rfl)) sc_stops) (by kernel_rfl)) sc_knobs) closes_f1) closes_f2) closes_f3) closes_f4)
    (by kernel_rfl)) (by kernel_rfl)) (by kernel_rfl)) (by kernel_rfl)) (by kernel_rfl)) (by kernel_rfl)) (by kernel_rfl)) (by kernel_rfl)) (by kernel_rfl)) sc_keys) (by kernel_rfl)) sc_heard) sc_enter) sc_lifts) sc_make) (by kernel_rfl)) (by kernel_rfl)) (by kernel_rfl)) (by kernel_rfl)

theorem closes_holds : Rows.HorizonClosesSaid :=
  OpenClaim.holds_of_wide 9 Tryz.f9 rfl rfl rfl rfl rfl rfl rfl ⟨rfl, rfl, rfl, rfl, rfl⟩ rfl rfl rfl rfl rfl closes_f5 Tryz.func9 closes_closed
    closes_f6 closes_f7 (fun os started H enc _ => closes_lifted os started H enc)

theorem closes_stand : ((Tryz.f9).params.toList.all fun u => !Tryz.prog.wantsStandIn u) = true := by kernel_rfl
theorem closes_goes : false = Rows.horizonClosesRow.goesBy Tryz.prog := by kernel_rfl
theorem closes_text : Rows.horizonClosesRow.wfByText (OpenSpec.ofChange Rows.horizonClosesSpec) = true := by kernel_rfl
theorem closes_card_holds : Rows.HorizonClosesCardSaid :=
  Claim7.holds_tied_plain_at .later [] [.data, .data, .data, .data] true (true, "ebcced09975124e4fdc27a793f740c15c9f79016bad178323bd89e6d8461bc8d") false closes_holds (fun _ h => by cases h) closes_text (fun _ h => by cases h) horizonCloses_row_tie rfl ⟨rfl, rfl⟩ sc_main rfl
    (fun f fn hf hfn => by
      obtain rfl : f = 9 := Option.some.inj (closes_f5.symm.trans hf) |>.symm
      obtain rfl : fn = Tryz.f9 := (Option.some.inj ((Tryz.func9).symm.trans hfn)).symm
      exact ⟨sc_looks, fun j t ht => by
        have hm : t ∈ (Tryz.f9).params.toList := by simpa using Array.mem_of_getElem? ht
        exact (show Tryz.prog.wantsStandIn t = false by simpa using List.all_eq_true.1 closes_stand t hm)⟩)
    closes_goes
#print axioms closes_card_holds
end Go.Proofs.YtjhdkimkijhloaaGreatDoor
