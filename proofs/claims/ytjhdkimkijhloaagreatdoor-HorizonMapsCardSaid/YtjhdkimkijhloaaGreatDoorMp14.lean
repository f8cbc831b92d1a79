/- HorizonMaps: whatever the arguments, the call returns true, and each argument reads afterwards as it read before (the package-level variables that the row lists hold what it says: the card ties that to the program's text). -/
import Derived.Test.YtjhdkimkijhloaaGreatDoorMp7
import Derived.Test.YtjhdkimkijhloaaGreatDoorMp13
import Derived.Test.YtjhdkimkijhloaaGreatDoorMp12
set_option linter.all false
namespace Go.Proofs.YtjhdkimkijhloaaGreatDoor
open Go.ChangeShapes Go.WideShapes Go.RowKit Go.Abs

theorem maps_globs : globL Tryz.prog Rows.horizonMapsRow.laid 3 = glob0 := by kernel_rfl
theorem maps_w1 : Tryz.prog.inits.idxOf? 6 = none := by kernel_rfl
theorem maps_w2 (os : Os) : Input.okWideB Tryz.prog ((World.laidAll Tryz.prog os Rows.horizonMapsRow.laid).forCall (fun _ _ => 0) ⟨#[], #[.agg #[.int .i64 0, .int .i64 0, .slice none 0 0], .int .i64 0, .int .i64 0], []⟩) 6 ⟨#[], #[.agg #[.int .i64 0, .int .i64 0, .slice none 0 0], .int .i64 0, .int .i64 0], []⟩ = true := by kernel_rfl
theorem maps_w3 (os : Os) (H : Type) (enc : TypeId × Value → H) : Rows.horizonMapsSpec.preB enc Tryz.prog Tryz.f6 Rows.horizonMapsRow.domain false ((World.laidAll Tryz.prog os Rows.horizonMapsRow.laid).forCall (fun _ _ => 0) ⟨#[], #[.agg #[.int .i64 0, .int .i64 0, .slice none 0 0], .int .i64 0, .int .i64 0], []⟩).memory #[.agg #[.int .i64 0, .int .i64 0, .slice none 0 0], .int .i64 0, .int .i64 0] 8 = true := by kernel_rfl
theorem maps_w4 (os : Os) (H : Type) (enc : TypeId × Value → H) : Rows.horizonMapsSpec.sizedB enc Tryz.prog Tryz.f6 false ((World.laidAll Tryz.prog os Rows.horizonMapsRow.laid).forCall (fun _ _ => 0) ⟨#[], #[.agg #[.int .i64 0, .int .i64 0, .slice none 0 0], .int .i64 0, .int .i64 0], []⟩).memory #[.agg #[.int .i64 0, .int .i64 0, .slice none 0 0], .int .i64 0, .int .i64 0] 8 = true := by kernel_rfl
theorem maps_ats : atsOf Tryz.prog 6 (Tryz.f6).params.toList = some [.agg ctMap, .one (.int .i64), .one (.int .i64)] := by kernel_rfl
theorem maps_par : ∀ t ∈ (Tryz.f6).params.toList, Tryz.prog.readableRec t = true ∧ t < Tryz.prog.types.size := by decide +kernel
theorem maps_res : (Tryz.f6).resultTypes = #[4] := by kernel_rfl

set_option maxRecDepth 100000 in
theorem maps_lifted (os : Os) (started : os.Started) (H : Type) (enc : TypeId × Value → H) :
    ReturnsInHanded {} Tryz.checked os 6 .any (fun w args => (Rows.horizonMapsSpec.pre enc Tryz.prog Tryz.f6 Rows.horizonMapsRow.domain false w args ∧ laidMetH Tryz.prog Rows.horizonMapsRow.laid w) ∧ sizedMet enc Tryz.prog Tryz.f6 (OpenSpec.ofChange Rows.horizonMapsSpec) false w args)
      (Rows.horizonMapsSpec.post enc Tryz.prog Tryz.f6 false true false false) := by
  refine returnsInHanded_of_change_and (C := Tryz.checked) (X := fun w _ => laidMetH Tryz.prog Rows.horizonMapsRow.laid w) (fun _ _ _ hh h => h.of_heap hh) own started maps_w1 Tryz.func6
    (ChangeSpec.witness_shaped (enc := enc) (C := Tryz.checked) (os := os) (X := fun w _ => laidMetH Tryz.prog Rows.horizonMapsRow.laid w) false (World.laidAll Tryz.prog os Rows.horizonMapsRow.laid) #[.agg #[.int .i64 0, .int .i64 0, .slice none 0 0], .int .i64 0, .int .i64 0] 8 (World.laidAll_os _ _ _)
      (sc_shaped os _) (maps_w2 os) (maps_w3 os H enc) (maps_w4 os H enc) (sc_laid os _)) ?_
  intro W base args ds gs before hval hW _ _ hL _
  have hL' : laidMetH Tryz.prog Rows.horizonMapsRow.laid W := hL
  rw [MakeChecks.laidMetH_plain _ _ _ (by kernel_rfl)] at hL'
  obtain ⟨aw, hz⟩ := AW.globals hL' (fun x hx => hx) 3 (nm := "math/bits.deBruijn64tab") (d := Rows.laid_math_bits_deBruijn64tab) (by unfold Rows.horizonMapsRow; simp) (by kernel_rfl)
  rw [maps_globs] at aw
  obtain ⟨p, q, hA, hV, _⟩ := id hW
  obtain ⟨rfl, _⟩ := trodVars_none hV
  have hA' : DataW.TrodAll enc Tryz.prog W 0 (fun _ => true) true (Tryz.f6).params.toList args.toList ds p := hA
  rw [Tryz.params6] at hA'
  obtain ⟨_, _, _, d1, d2, d3, _, _, _, _, rfl, _⟩ := trodAll_three hA'
  refine row_true (n := 6) (ats := [.agg ctMap, .one (.int .i64), .one (.int .i64)]) laidOut maps_par maps_res Tryz.underlying4 rfl rfl maps_ats hval hW aw hz ?_
  intro k vs e h
  obtain ⟨_, _, rfl, h1, h⟩ := tyas_cons h
  obtain ⟨_, _, rfl, h2, h⟩ := tyas_cons h
  obtain ⟨_, _, rfl, h3, h⟩ := tyas_cons h
  obtain rfl := tyas_nil h
  obtain ⟨m, s, rfl, hs⟩ := tya_map h1
  obtain ⟨x, rfl, _⟩ := tya_int h2
  obtain ⟨y, rfl, _⟩ := tya_int h3
  exact r6 tbl srt (gl0 e) (fun k' e' => awake_ok k' (e.trans e')) hs

theorem maps_f1 : (Rows.horizonMapsRow.inPlace == Tryz.prog.inPlace 6) = true := by kernel_rfl
theorem maps_f2 : (Rows.horizonMapsRow.unfollowed == Tryz.prog.unfollowed 6) = true := by kernel_rfl
theorem maps_f3 : (Rows.horizonMapsRow.recurses == Tryz.prog.recurses 6) = true := by kernel_rfl
theorem maps_f4 : (Rows.horizonMapsRow.named == Tryz.prog.varsNamed 6) = true := by kernel_rfl
theorem maps_f5 : Tryz.prog.funcNamed "moveout/moveoutlaw08.HorizonMaps" = some 6 := by kernel_rfl
theorem maps_f6 : (Tryz.f6).isInstance Tryz.prog Rows.horizonMapsRow.origin Rows.horizonMapsRow.targs := of_decide_eq_true (by kernel_rfl)
theorem maps_f7 : (Tryz.f6).isWrapper Tryz.prog Rows.horizonMapsRow.wrapper Rows.horizonMapsRow.mainSum := by
  unfold Func.isWrapper; first | (rw [if_pos (by decide +kernel)]; kernel_rfl) | (rw [if_neg (by decide +kernel)]; exact ⟨rfl, rfl⟩)
theorem maps_f8 : ((Tryz.f6).params.all (Tryz.prog.readableRec ·)) = true := by kernel_rfl
theorem maps_closed : joinedFacts Tryz.prog 6 Tryz.f6 Rows.horizonMapsSpec Rows.horizonMapsRow = true := by
  unfold joinedFacts
  exact and2 (and2 (and2 (and2 (and2 (and2 (and2 (and2 (and2 (and2 (and2 (and2 (and2 (and2 (and2 (and2 (and2 (and2 (and2 (and2 (and2 (and2 (and2 (and2 (and2 (and2 (and2 (and2 (and2 (and2 (and2 (by kernel_rfl) laidOut) sc_maps) maps_f8) (by kernel_rfl)) (by kernel_rfl)) sc_stops) (by kernel_rfl)) sc_knobs) maps_f1) maps_f2) maps_f3) maps_f4)
    (by kernel_rfl)) (by kernel_rfl)) (by kernel_rfl)) (by kernel_rfl)) (by kernel_rfl)) (by kernel_rfl)) (by kernel_rfl)) (by kernel_rfl)) (by kernel_rfl)) sc_keys) (by kernel_rfl)) sc_heard) sc_enter) sc_lifts) sc_make) (by kernel_rfl)) (by kernel_rfl)) (by kernel_rfl)) (by kernel_rfl)

theorem maps_holds : Rows.HorizonMapsSaid :=
  OpenClaim.holds_of_wide 6 Tryz.f6 rfl rfl rfl rfl rfl rfl rfl ⟨rfl, rfl, rfl, rfl, rfl⟩ rfl rfl rfl rfl rfl maps_f5 Tryz.func6 maps_closed
    maps_f6 maps_f7 (fun os started H enc _ => maps_lifted os started H enc)

theorem maps_stand : ((Tryz.f6).params.toList.all fun u => !Tryz.prog.wantsStandIn u) = true := by kernel_rfl
theorem maps_goes : false = Rows.horizonMapsRow.goesBy Tryz.prog := by kernel_rfl
theorem maps_text : Rows.horizonMapsRow.wfByText (OpenSpec.ofChange Rows.horizonMapsSpec) = true := by kernel_rfl
theorem maps_card_holds : Rows.HorizonMapsCardSaid :=
  Claim7.holds_tied_plain_at .later [] [.data, .data, .data, .data] true (true, "ebcced09975124e4fdc27a793f740c15c9f79016bad178323bd89e6d8461bc8d") false maps_holds (fun _ h => by cases h) maps_text (fun _ h => by cases h) horizonMaps_row_tie rfl ⟨rfl, rfl⟩ sc_main rfl
    (fun f fn hf hfn => by
      obtain rfl : f = 6 := Option.some.inj (maps_f5.symm.trans hf) |>.symm
      obtain rfl : fn = Tryz.f6 := (Option.some.inj ((Tryz.func6).symm.trans hfn)).symm
      exact ⟨sc_looks, fun j t ht => by
        have hm : t ∈ (Tryz.f6).params.toList := by simpa using Array.mem_of_getElem? ht
        exact (show Tryz.prog.wantsStandIn t = false by simpa using List.all_eq_true.1 maps_stand t hm)⟩)
    maps_goes
#print axioms maps_card_holds
end Go.Proofs.YtjhdkimkijhloaaGreatDoor
