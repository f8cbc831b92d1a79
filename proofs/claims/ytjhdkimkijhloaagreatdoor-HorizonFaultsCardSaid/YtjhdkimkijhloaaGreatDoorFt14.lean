/- HorizonFaults: whatever the arguments, the call returns true, and each argument reads afterwards as it read before (the package-level variables that the row lists hold what it says: the card ties that to the program's text). -/
import Derived.Test.YtjhdkimkijhloaaGreatDoorFt7
import Derived.Test.YtjhdkimkijhloaaGreatDoorFt12
import Derived.Test.YtjhdkimkijhloaaGreatDoorFt13
set_option linter.all false
namespace Go.Proofs.YtjhdkimkijhloaaGreatDoor
open Go.ChangeShapes Go.WideShapes Go.RowKit Go.Abs

theorem faults_globs : globL Tryz.prog Rows.horizonFaultsRow.laid 3 = glob0 := by kernel_rfl
theorem faults_w1 : Tryz.prog.inits.idxOf? 4 = none := by kernel_rfl
theorem faults_w2 (os : Os) : Input.okWideB Tryz.prog ((World.laidAll Tryz.prog os Rows.horizonFaultsRow.laid).forCall (fun _ _ => 0) ⟨#[], #[.agg #[.string ⟨#[]⟩, .int .i64 0, .slice none 0 0], .agg #[.int .i64 0, .int .i64 0], .int .i64 0], []⟩) 4 ⟨#[], #[.agg #[.string ⟨#[]⟩, .int .i64 0, .slice none 0 0], .agg #[.int .i64 0, .int .i64 0], .int .i64 0], []⟩ = true := by kernel_rfl
theorem faults_w3 (os : Os) (H : Type) (enc : TypeId × Value → H) : Rows.horizonFaultsSpec.preB enc Tryz.prog Tryz.f4 Rows.horizonFaultsRow.domain false ((World.laidAll Tryz.prog os Rows.horizonFaultsRow.laid).forCall (fun _ _ => 0) ⟨#[], #[.agg #[.string ⟨#[]⟩, .int .i64 0, .slice none 0 0], .agg #[.int .i64 0, .int .i64 0], .int .i64 0], []⟩).memory #[.agg #[.string ⟨#[]⟩, .int .i64 0, .slice none 0 0], .agg #[.int .i64 0, .int .i64 0], .int .i64 0] 8 = true := by kernel_rfl
theorem faults_w4 (os : Os) (H : Type) (enc : TypeId × Value → H) : Rows.horizonFaultsSpec.sizedB enc Tryz.prog Tryz.f4 false ((World.laidAll Tryz.prog os Rows.horizonFaultsRow.laid).forCall (fun _ _ => 0) ⟨#[], #[.agg #[.string ⟨#[]⟩, .int .i64 0, .slice none 0 0], .agg #[.int .i64 0, .int .i64 0], .int .i64 0], []⟩).memory #[.agg #[.string ⟨#[]⟩, .int .i64 0, .slice none 0 0], .agg #[.int .i64 0, .int .i64 0], .int .i64 0] 8 = true := by kernel_rfl
theorem faults_ats : atsOf Tryz.prog 6 (Tryz.f4).params.toList = some [.agg ctHor, .agg ctPk, .one (.int .i64)] := by kernel_rfl
theorem faults_par : ∀ t ∈ (Tryz.f4).params.toList, Tryz.prog.readableRec t = true ∧ t < Tryz.prog.types.size := by decide +kernel
theorem faults_res : (Tryz.f4).resultTypes = #[4] := by kernel_rfl

set_option maxRecDepth 100000 in
theorem faults_lifted (os : Os) (started : os.Started) (H : Type) (enc : TypeId × Value → H) :
    ReturnsInHanded {} Tryz.checked os 4 .any (fun w args => (Rows.horizonFaultsSpec.pre enc Tryz.prog Tryz.f4 Rows.horizonFaultsRow.domain false w args ∧ laidMetH Tryz.prog Rows.horizonFaultsRow.laid w) ∧ sizedMet enc Tryz.prog Tryz.f4 (OpenSpec.ofChange Rows.horizonFaultsSpec) false w args)
      (Rows.horizonFaultsSpec.post enc Tryz.prog Tryz.f4 false true false false) := by
  refine returnsInHanded_of_change_and (C := Tryz.checked) (X := fun w _ => laidMetH Tryz.prog Rows.horizonFaultsRow.laid w) (fun _ _ _ hh h => h.of_heap hh) own started faults_w1 Tryz.func4
    (ChangeSpec.witness_shaped (enc := enc) (C := Tryz.checked) (os := os) (X := fun w _ => laidMetH Tryz.prog Rows.horizonFaultsRow.laid w) false (World.laidAll Tryz.prog os Rows.horizonFaultsRow.laid) #[.agg #[.string ⟨#[]⟩, .int .i64 0, .slice none 0 0], .agg #[.int .i64 0, .int .i64 0], .int .i64 0] 8 (World.laidAll_os _ _ _)
      (sc_shaped os _) (faults_w2 os) (faults_w3 os H enc) (faults_w4 os H enc) (sc_laid os _)) ?_
  intro W base args ds gs before hval hW _ _ hL _
  have hL' : laidMetH Tryz.prog Rows.horizonFaultsRow.laid W := hL
  rw [MakeChecks.laidMetH_plain _ _ _ (by kernel_rfl)] at hL'
  obtain ⟨aw, hz⟩ := AW.globals hL' (fun x hx => hx) 3 (nm := "math/bits.deBruijn64tab") (d := Rows.laid_math_bits_deBruijn64tab) (by unfold Rows.horizonFaultsRow; simp) (by kernel_rfl)
  rw [faults_globs] at aw
  obtain ⟨p, q, hA, hV, _⟩ := id hW
  obtain ⟨rfl, _⟩ := trodVars_none hV
  have hA' : DataW.TrodAll enc Tryz.prog W 0 (fun _ => true) true (Tryz.f4).params.toList args.toList ds p := hA
  rw [Tryz.params4] at hA'
  obtain ⟨_, _, _, d1, d2, d3, _, _, _, _, rfl, _⟩ := trodAll_three hA'
  refine row_true (n := 6) (ats := [.agg ctHor, .agg ctPk, .one (.int .i64)]) laidOut faults_par faults_res Tryz.underlying4 rfl rfl faults_ats hval hW aw hz ?_
  intro k vs e h
  obtain ⟨_, _, rfl, h1, h⟩ := tyas_cons h
  obtain ⟨_, _, rfl, h2, h⟩ := tyas_cons h
  obtain ⟨_, _, rfl, h3, h⟩ := tyas_cons h
  obtain rfl := tyas_nil h
  obtain ⟨Hr, s, rfl, o⟩ := tya_hor h1
  obtain ⟨p, t, rfl⟩ := tya_pk h2
  obtain ⟨x, rfl, _⟩ := tya_int h3
  exact r4 tbl (fun k' e' => awake_ok k' (e.trans e')) o p t x

theorem faults_f1 : (Rows.horizonFaultsRow.inPlace == Tryz.prog.inPlace 4) = true := by kernel_rfl
theorem faults_f2 : (Rows.horizonFaultsRow.unfollowed == Tryz.prog.unfollowed 4) = true := by kernel_rfl
theorem faults_f3 : (Rows.horizonFaultsRow.recurses == Tryz.prog.recurses 4) = true := by kernel_rfl
theorem faults_f4 : (Rows.horizonFaultsRow.named == Tryz.prog.varsNamed 4) = true := by kernel_rfl
theorem faults_f5 : Tryz.prog.funcNamed "moveout/moveoutlaw08.HorizonFaults" = some 4 := by kernel_rfl
theorem faults_f6 : (Tryz.f4).isInstance Tryz.prog Rows.horizonFaultsRow.origin Rows.horizonFaultsRow.targs := of_decide_eq_true (by kernel_rfl)
theorem faults_f7 : (Tryz.f4).isWrapper Tryz.prog Rows.horizonFaultsRow.wrapper Rows.horizonFaultsRow.mainSum := by
  unfold Func.isWrapper; first | (rw [if_pos (by decide +kernel)]; kernel_rfl) | (rw [if_neg (by decide +kernel)]; exact ⟨rfl, rfl⟩)
theorem faults_f8 : ((Tryz.f4).params.all (Tryz.prog.readableRec ·)) = true := by kernel_rfl
theorem faults_closed : joinedFacts Tryz.prog 4 Tryz.f4 Rows.horizonFaultsSpec Rows.horizonFaultsRow = true := by
  unfold joinedFacts
  exact and2 (and2 (and2 (and2 (and2 (and2 (and2 (and2 (and2 (and2 (and2 (and2 (and2 (and2 (and2 (and2 (and2 (and2 (and2 (and2 (and2 (and2 (and2 (and2 (and2 (and2 (and2 (and2 (and2 (and2 (and2 (by kernel_rfl) laidOut) sc_maps) faults_f8) (by kernel_rfl)) (by kernel_rfl)) sc_stops) (by kernel_rfl)) sc_knobs) faults_f1) faults_f2) faults_f3) faults_f4)
    (by kernel_rfl)) (by kernel_rfl)) (by kernel_rfl)) (by kernel_rfl)) (by kernel_rfl)) (by kernel_rfl)) (by kernel_rfl)) (by kernel_rfl)) (by kernel_rfl)) sc_keys) (by kernel_rfl)) sc_heard) sc_enter) sc_lifts) sc_make) (by kernel_rfl)) (by kernel_rfl)) (by kernel_rfl)) (by kernel_rfl)

theorem faults_holds : Rows.HorizonFaultsSaid :=
  OpenClaim.holds_of_wide 4 Tryz.f4 rfl rfl rfl rfl rfl rfl rfl ⟨rfl, rfl, rfl, rfl, rfl⟩ rfl rfl rfl rfl rfl faults_f5 Tryz.func4 faults_closed
    faults_f6 faults_f7 (fun os started H enc _ => faults_lifted os started H enc)

theorem faults_stand : ((Tryz.f4).params.toList.all fun u => !Tryz.prog.wantsStandIn u) = true := by kernel_rfl
theorem faults_goes : false = Rows.horizonFaultsRow.goesBy Tryz.prog := by kernel_rfl
theorem faults_text : Rows.horizonFaultsRow.wfByText (OpenSpec.ofChange Rows.horizonFaultsSpec) = true := by kernel_rfl
theorem faults_card_holds : Rows.HorizonFaultsCardSaid :=
  Claim7.holds_tied_plain_at .later [] [.data, .data, .data, .data] true (true, "ebcced09975124e4fdc27a793f740c15c9f79016bad178323bd89e6d8461bc8d") false faults_holds (fun _ h => by cases h) faults_text (fun _ h => by cases h) horizonFaults_row_tie rfl ⟨rfl, rfl⟩ sc_main rfl
    (fun f fn hf hfn => by
      obtain rfl : f = 4 := Option.some.inj (faults_f5.symm.trans hf) |>.symm
      obtain rfl : fn = Tryz.f4 := (Option.some.inj ((Tryz.func4).symm.trans hfn)).symm
      exact ⟨sc_looks, fun j t ht => by
        have hm : t ∈ (Tryz.f4).params.toList := by simpa using Array.mem_of_getElem? ht
        exact (show Tryz.prog.wantsStandIn t = false by simpa using List.all_eq_true.1 faults_stand t hm)⟩)
    faults_goes
#print axioms faults_card_holds
end Go.Proofs.YtjhdkimkijhloaaGreatDoor
