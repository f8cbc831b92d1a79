/- HorizonGround: whatever the arguments, the call returns true, and each argument reads afterwards as it read before (the package-level variables that the row lists hold what it says: the card ties that to the program's text). -/
import Derived.Test.YtjhdkimkijhloaaGreatDoorGd7
import Derived.Test.YtjhdkimkijhloaaGreatDoorGd8
import Derived.Test.YtjhdkimkijhloaaGreatDoorGd12
import Derived.Test.YtjhdkimkijhloaaGreatDoorGd14
set_option linter.all false
namespace Go.Proofs.YtjhdkimkijhloaaGreatDoor
open Go.ChangeShapes Go.WideShapes Go.RowKit Go.Abs

theorem ground_globs : globL Tryz.prog Rows.horizonGroundRow.laid 3 = glob0 := by kernel_rfl
theorem ground_w1 : Tryz.prog.inits.idxOf? 11 = none := by kernel_rfl
theorem ground_w2 (os : Os) : Input.okWideB Tryz.prog ((World.laidAll Tryz.prog os Rows.horizonGroundRow.laid).forCall (fun _ _ => 0) ⟨#[], #[.agg #[.string ⟨#[]⟩, .int .i64 0, .slice none 0 0], .agg #[.string ⟨#[]⟩, .int .i64 0, .slice none 0 0], .agg #[.int .i8 0, .int .i8 0, .int .i8 0, .int .i8 0]], []⟩) 11 ⟨#[], #[.agg #[.string ⟨#[]⟩, .int .i64 0, .slice none 0 0], .agg #[.string ⟨#[]⟩, .int .i64 0, .slice none 0 0], .agg #[.int .i8 0, .int .i8 0, .int .i8 0, .int .i8 0]], []⟩ = true := by kernel_rfl
theorem ground_w3 (os : Os) (H : Type) (enc : TypeId × Value → H) : Rows.horizonGroundSpec.preB enc Tryz.prog Tryz.f11 Rows.horizonGroundRow.domain false ((World.laidAll Tryz.prog os Rows.horizonGroundRow.laid).forCall (fun _ _ => 0) ⟨#[], #[.agg #[.string ⟨#[]⟩, .int .i64 0, .slice none 0 0], .agg #[.string ⟨#[]⟩, .int .i64 0, .slice none 0 0], .agg #[.int .i8 0, .int .i8 0, .int .i8 0, .int .i8 0]], []⟩).memory #[.agg #[.string ⟨#[]⟩, .int .i64 0, .slice none 0 0], .agg #[.string ⟨#[]⟩, .int .i64 0, .slice none 0 0], .agg #[.int .i8 0, .int .i8 0, .int .i8 0, .int .i8 0]] 8 = true := by kernel_rfl
theorem ground_w4 (os : Os) (H : Type) (enc : TypeId × Value → H) : Rows.horizonGroundSpec.sizedB enc Tryz.prog Tryz.f11 false ((World.laidAll Tryz.prog os Rows.horizonGroundRow.laid).forCall (fun _ _ => 0) ⟨#[], #[.agg #[.string ⟨#[]⟩, .int .i64 0, .slice none 0 0], .agg #[.string ⟨#[]⟩, .int .i64 0, .slice none 0 0], .agg #[.int .i8 0, .int .i8 0, .int .i8 0, .int .i8 0]], []⟩).memory #[.agg #[.string ⟨#[]⟩, .int .i64 0, .slice none 0 0], .agg #[.string ⟨#[]⟩, .int .i64 0, .slice none 0 0], .agg #[.int .i8 0, .int .i8 0, .int .i8 0, .int .i8 0]] 8 = true := by kernel_rfl
theorem ground_ats : atsOf Tryz.prog 6 (Tryz.f11).params.toList = some [.agg ctHor, .agg ctHor, .agg (List.replicate 4 (.int .i8))] := by kernel_rfl
theorem ground_par : ∀ t ∈ (Tryz.f11).params.toList, Tryz.prog.readableRec t = true ∧ t < Tryz.prog.types.size := by decide +kernel
theorem ground_res : (Tryz.f11).resultTypes = #[4] := by kernel_rfl

set_option maxRecDepth 100000 in
theorem ground_lifted (os : Os) (started : os.Started) (H : Type) (enc : TypeId × Value → H) :
    ReturnsInHanded {} Tryz.checked os 11 .any (fun w args => (Rows.horizonGroundSpec.pre enc Tryz.prog Tryz.f11 Rows.horizonGroundRow.domain false w args ∧ laidMetH Tryz.prog Rows.horizonGroundRow.laid w) ∧ sizedMet enc Tryz.prog Tryz.f11 (OpenSpec.ofChange Rows.horizonGroundSpec) false w args)
      (Rows.horizonGroundSpec.post enc Tryz.prog Tryz.f11 false true false false) := by
  refine returnsInHanded_of_change_and (C := Tryz.checked) (X := fun w _ => laidMetH Tryz.prog Rows.horizonGroundRow.laid w) (fun _ _ _ hh h => h.of_heap hh) own started ground_w1 Tryz.func11
    (ChangeSpec.witness_shaped (enc := enc) (C := Tryz.checked) (os := os) (X := fun w _ => laidMetH Tryz.prog Rows.horizonGroundRow.laid w) false (World.laidAll Tryz.prog os Rows.horizonGroundRow.laid) #[.agg #[.string ⟨#[]⟩, .int .i64 0, .slice none 0 0], .agg #[.string ⟨#[]⟩, .int .i64 0, .slice none 0 0], .agg #[.int .i8 0, .int .i8 0, .int .i8 0, .int .i8 0]] 8 (World.laidAll_os _ _ _)
      (sc_shaped os _) (ground_w2 os) (ground_w3 os H enc) (ground_w4 os H enc) (sc_laid os _)) ?_
  intro W base args ds gs before hval hW _ _ hL _
  have hL' : laidMetH Tryz.prog Rows.horizonGroundRow.laid W := hL
  rw [MakeChecks.laidMetH_plain _ _ _ (by kernel_rfl)] at hL'
  obtain ⟨aw, hz⟩ := AW.globals hL' (fun x hx => hx) 3 (nm := "math/bits.deBruijn64tab") (d := Rows.laid_math_bits_deBruijn64tab) (by unfold Rows.horizonGroundRow; simp) (by kernel_rfl)
  rw [ground_globs] at aw
  obtain ⟨p, q, hA, hV, _⟩ := id hW
  obtain ⟨rfl, _⟩ := trodVars_none hV
  have hA' : DataW.TrodAll enc Tryz.prog W 0 (fun _ => true) true (Tryz.f11).params.toList args.toList ds p := hA
  rw [Tryz.params11] at hA'
  obtain ⟨_, _, _, d1, d2, d3, _, _, _, _, rfl, _⟩ := trodAll_three hA'
  refine row_true (n := 6) (ats := [.agg ctHor, .agg ctHor, .agg (List.replicate 4 (.int .i8))]) laidOut ground_par ground_res Tryz.underlying4 rfl rfl ground_ats hval hW aw hz ?_
  intro k vs e h
  obtain ⟨_, _, rfl, h1, h⟩ := tyas_cons h
  obtain ⟨_, _, rfl, h2, h⟩ := tyas_cons h
  obtain ⟨_, _, rfl, h3, h⟩ := tyas_cons h
  obtain rfl := tyas_nil h
  obtain ⟨Ha, sa, rfl, oa⟩ := tya_hor h1
  obtain ⟨Hb, sb, rfl, ob⟩ := tya_hor h2
  obtain ⟨nn, rfl, hn4, hnb⟩ := tya_arr h3
  exact r11 tbl (fun k' e' => awake_ok k' (e.trans e')) oa ob hn4 (fun y hy => i8_bd (hnb y hy))

theorem ground_f1 : (Rows.horizonGroundRow.inPlace == Tryz.prog.inPlace 11) = true := by kernel_rfl
theorem ground_f2 : (Rows.horizonGroundRow.unfollowed == Tryz.prog.unfollowed 11) = true := by kernel_rfl
theorem ground_f3 : (Rows.horizonGroundRow.recurses == Tryz.prog.recurses 11) = true := by kernel_rfl
theorem ground_f4 : (Rows.horizonGroundRow.named == Tryz.prog.varsNamed 11) = true := by kernel_rfl
theorem ground_f5 : Tryz.prog.funcNamed "moveout/moveoutlaw08.HorizonGround" = some 11 := by kernel_rfl
theorem ground_f6 : (Tryz.f11).isInstance Tryz.prog Rows.horizonGroundRow.origin Rows.horizonGroundRow.targs := of_decide_eq_true (by kernel_rfl)
theorem ground_f7 : (Tryz.f11).isWrapper Tryz.prog Rows.horizonGroundRow.wrapper Rows.horizonGroundRow.mainSum := by
  unfold Func.isWrapper; first | (rw [if_pos (by decide +kernel)]; kernel_rfl) | (rw [if_neg (by decide +kernel)]; exact ⟨rfl, rfl⟩)
theorem ground_f8 : ((Tryz.f11).params.all (Tryz.prog.readableRec ·)) = true := by kernel_rfl
theorem ground_closed : joinedFacts Tryz.prog 11 Tryz.f11 Rows.horizonGroundSpec Rows.horizonGroundRow = true := by
  unfold joinedFacts
  exact and2 (and2 (and2 (and2 (and2 (and2 (and2 (and2 (and2 (and2 (and2 (and2 (and2 (and2 (and2 (and2 (and2 (and2 (and2 (and2 (and2 (and2 (and2 (and2 (and2 (and2 (and2 (and2 (and2 (and2 (and2 (by kernel_rfl) laidOut) sc_maps) ground_f8) (by kernel_rfl)) (by kernel_rfl)) sc_stops) (by kernel_rfl)) sc_knobs) ground_f1) ground_f2) ground_f3) ground_f4)
    (by kernel_rfl)) (by kernel_rfl)) (by kernel_rfl)) (by kernel_rfl)) (by kernel_rfl)) (by kernel_rfl)) (by kernel_rfl)) (by kernel_rfl)) (by kernel_rfl)) sc_keys) (by kernel_rfl)) sc_heard) sc_enter) sc_lifts) sc_make) (by kernel_rfl)) (by kernel_rfl)) (by kernel_rfl)) (by kernel_rfl)

theorem ground_holds : Rows.HorizonGroundSaid :=
  OpenClaim.holds_of_wide 11 Tryz.f11 rfl rfl rfl rfl rfl rfl rfl ⟨rfl, rfl, rfl, rfl, rfl⟩ rfl rfl rfl rfl rfl ground_f5 Tryz.func11 ground_closed
    ground_f6 ground_f7 (fun os started H enc _ => ground_lifted os started H enc)

theorem ground_stand : ((Tryz.f11).params.toList.all fun u => !Tryz.prog.wantsStandIn u) = true := by kernel_rfl
theorem ground_goes : false = Rows.horizonGroundRow.goesBy Tryz.prog := by kernel_rfl
theorem ground_text : Rows.horizonGroundRow.wfByText (OpenSpec.ofChange Rows.horizonGroundSpec) = true := by kernel_rfl
theorem ground_card_holds : Rows.HorizonGroundCardSaid :=
  Claim7.holds_tied_plain_at .later [] [.data, .data, .data, .data] true (true, "ebcced09975124e4fdc27a793f740c15c9f79016bad178323bd89e6d8461bc8d") false ground_holds (fun _ h => by cases h) ground_text (fun _ h => by cases h) horizonGround_row_tie rfl ⟨rfl, rfl⟩ sc_main rfl
    (fun f fn hf hfn => by
      obtain rfl : f = 11 := Option.some.inj (ground_f5.symm.trans hf) |>.symm
      obtain rfl : fn = Tryz.f11 := (Option.some.inj ((Tryz.func11).symm.trans hfn)).symm
      exact ⟨sc_looks, fun j t ht => by
        have hm : t ∈ (Tryz.f11).params.toList := by simpa using Array.mem_of_getElem? ht
        exact (show Tryz.prog.wantsStandIn t = false by simpa using List.all_eq_true.1 ground_stand t hm)⟩)
    ground_goes
#print axioms ground_card_holds
end Go.Proofs.YtjhdkimkijhloaaGreatDoor
