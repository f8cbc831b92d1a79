/- HorizonOrders: whatever the arguments, the call returns true, and each argument reads afterwards as it read before (the package-level variables that the row lists hold what it says: the card ties that to the program's text). -/
import Derived.Test.YtjhdkimkijhloaaGreatDoorOd7
import Derived.Test.YtjhdkimkijhloaaGreatDoorOd12
import Derived.Test.YtjhdkimkijhloaaGreatDoorOd13
set_option linter.all false
namespace Go.Proofs.YtjhdkimkijhloaaGreatDoor
open Go.ChangeShapes Go.WideShapes Go.RowKit Go.Abs

theorem orders_globs : globL Tryz.prog Rows.horizonOrdersRow.laid 3 = glob0 := by kernel_rfl
theorem orders_w1 : Tryz.prog.inits.idxOf? 12 = none := by kernel_rfl
theorem orders_w2 (os : Os) : Input.okWideB Tryz.prog ((World.laidAll Tryz.prog os Rows.horizonOrdersRow.laid).forCall (fun _ _ => 0) ⟨#[], #[.agg #[.string ⟨#[]⟩, .int .i64 0, .slice none 0 0], .agg #[.string ⟨#[]⟩, .int .i64 0, .slice none 0 0], .slice none 0 0], []⟩) 12 ⟨#[], #[.agg #[.string ⟨#[]⟩, .int .i64 0, .slice none 0 0], .agg #[.string ⟨#[]⟩, .int .i64 0, .slice none 0 0], .slice none 0 0], []⟩ = true := by kernel_rfl
theorem orders_w3 (os : Os) (H : Type) (enc : TypeId × Value → H) : Rows.horizonOrdersSpec.preB enc Tryz.prog Tryz.f12 Rows.horizonOrdersRow.domain false ((World.laidAll Tryz.prog os Rows.horizonOrdersRow.laid).forCall (fun _ _ => 0) ⟨#[], #[.agg #[.string ⟨#[]⟩, .int .i64 0, .slice none 0 0], .agg #[.string ⟨#[]⟩, .int .i64 0, .slice none 0 0], .slice none 0 0], []⟩).memory #[.agg #[.string ⟨#[]⟩, .int .i64 0, .slice none 0 0], .agg #[.string ⟨#[]⟩, .int .i64 0, .slice none 0 0], .slice none 0 0] 8 = true := by kernel_rfl
theorem orders_w4 (os : Os) (H : Type) (enc : TypeId × Value → H) : Rows.horizonOrdersSpec.sizedB enc Tryz.prog Tryz.f12 false ((World.laidAll Tryz.prog os Rows.horizonOrdersRow.laid).forCall (fun _ _ => 0) ⟨#[], #[.agg #[.string ⟨#[]⟩, .int .i64 0, .slice none 0 0], .agg #[.string ⟨#[]⟩, .int .i64 0, .slice none 0 0], .slice none 0 0], []⟩).memory #[.agg #[.string ⟨#[]⟩, .int .i64 0, .slice none 0 0], .agg #[.string ⟨#[]⟩, .int .i64 0, .slice none 0 0], .slice none 0 0] 8 = true := by kernel_rfl
theorem orders_ats : atsOf Tryz.prog 6 (Tryz.f12).params.toList = some [.agg ctHor, .agg ctHor, .one (.sl ctHor)] := by kernel_rfl
theorem orders_par : ∀ t ∈ (Tryz.f12).params.toList, Tryz.prog.readableRec t = true ∧ t < Tryz.prog.types.size := by decide +kernel
theorem orders_res : (Tryz.f12).resultTypes = #[4] := by kernel_rfl

set_option maxRecDepth 100000 in
theorem orders_lifted (os : Os) (started : os.Started) (H : Type) (enc : TypeId × Value → H) :
    ReturnsInHanded {} Tryz.checked os 12 .any (fun w args => (Rows.horizonOrdersSpec.pre enc Tryz.prog Tryz.f12 Rows.horizonOrdersRow.domain false w args ∧ laidMetH Tryz.prog Rows.horizonOrdersRow.laid w) ∧ sizedMet enc Tryz.prog Tryz.f12 (OpenSpec.ofChange Rows.horizonOrdersSpec) false w args)
      (Rows.horizonOrdersSpec.post enc Tryz.prog Tryz.f12 false true false false) := by
  refine returnsInHanded_of_change_and (C := Tryz.checked) (X := fun w _ => laidMetH Tryz.prog Rows.horizonOrdersRow.laid w) (fun _ _ _ hh h => h.of_heap hh) own started orders_w1 Tryz.func12
    (ChangeSpec.witness_shaped (enc := enc) (C := Tryz.checked) (os := os) (X := fun w _ => laidMetH Tryz.prog Rows.horizonOrdersRow.laid w) false (World.laidAll Tryz.prog os Rows.horizonOrdersRow.laid) #[.agg #[.string ⟨#[]⟩, .int .i64 0, .slice none 0 0], .agg #[.string ⟨#[]⟩, .int .i64 0, .slice none 0 0], .slice none 0 0] 8 (World.laidAll_os _ _ _)
      (sc_shaped os _) (orders_w2 os) (orders_w3 os H enc) (orders_w4 os H enc) (sc_laid os _)) ?_
  intro W base args ds gs before hval hW _ _ hL _
  have hL' : laidMetH Tryz.prog Rows.horizonOrdersRow.laid W := hL
  rw [MakeChecks.laidMetH_plain _ _ _ (by kernel_rfl)] at hL'
  obtain ⟨aw, hz⟩ := AW.globals hL' (fun x hx => hx) 3 (nm := "math/bits.deBruijn64tab") (d := Rows.laid_math_bits_deBruijn64tab) (by unfold Rows.horizonOrdersRow; simp) (by kernel_rfl)
  rw [orders_globs] at aw
  obtain ⟨p, q, hA, hV, _⟩ := id hW
  obtain ⟨rfl, _⟩ := trodVars_none hV
  have hA' : DataW.TrodAll enc Tryz.prog W 0 (fun _ => true) true (Tryz.f12).params.toList args.toList ds p := hA
  rw [Tryz.params12] at hA'
  obtain ⟨_, _, _, d1, d2, d3, _, _, _, _, rfl, _⟩ := trodAll_three hA'
  refine row_true (n := 6) (ats := [.agg ctHor, .agg ctHor, .one (.sl ctHor)]) laidOut orders_par orders_res Tryz.underlying4 rfl rfl orders_ats hval hW aw hz ?_
  intro k vs e h
  obtain ⟨_, _, rfl, h1, h⟩ := tyas_cons h
  obtain ⟨_, _, rfl, h2, h⟩ := tyas_cons h
  obtain ⟨_, _, rfl, h3, h⟩ := tyas_cons h
  obtain rfl := tyas_nil h
  obtain ⟨Ha, sa, rfl, oa⟩ := tya_hor h1
  obtain ⟨Hb, sb, rfl, ob⟩ := tya_hor h2
  obtain ⟨L, ol⟩ := tya_hors h3
  exact r12 tbl (fun k' e' => awake_ok k' (e.trans e')) oa ob ol

theorem orders_f1 : (Rows.horizonOrdersRow.inPlace == Tryz.prog.inPlace 12) = true := by kernel_rfl
theorem orders_f2 : (Rows.horizonOrdersRow.unfollowed == Tryz.prog.unfollowed 12) = true := by kernel_rfl
theorem orders_f3 : (Rows.horizonOrdersRow.recurses == Tryz.prog.recurses 12) = true := by kernel_rfl
theorem orders_f4 : (Rows.horizonOrdersRow.named == Tryz.prog.varsNamed 12) = true := by kernel_rfl
theorem orders_f5 : Tryz.prog.funcNamed "moveout/moveoutlaw08.HorizonOrders" = some 12 := by kernel_rfl
theorem orders_f6 : (Tryz.f12).isInstance Tryz.prog Rows.horizonOrdersRow.origin Rows.horizonOrdersRow.targs := of_decide_eq_true (by kernel_rfl)
theorem orders_f7 : (Tryz.f12).isWrapper Tryz.prog Rows.horizonOrdersRow.wrapper Rows.horizonOrdersRow.mainSum := by
  unfold Func.isWrapper; first | (rw [if_pos (by decide +kernel)]; kernel_rfl) | (rw [if_neg (by decide +kernel)]; exact ⟨rfl, rfl⟩)
theorem orders_f8 : ((Tryz.f12).params.all (Tryz.prog.readableRec ·)) = true := by kernel_rfl
theorem orders_closed : joinedFacts Tryz.prog 12 Tryz.f12 Rows.horizonOrdersSpec Rows.horizonOrdersRow = true := by
  unfold joinedFacts
  exact and2 (and2 (and2 (and2 (and2 (and2 (and2 (and2 (and2 (and2 (and2 (and2 (and2 (and2 (and2 (and2 (and2 (and2 (and2 (and2 (and2 (and2 (and2 (and2 (and2 (and2 (and2 (and2 (and2 (and2 (and2 (by kernel_rfl) laidOut) sc_maps) orders_f8) (by kernel_rfl)) (by kernel_rfl)) sc_stops) (by kernel_rfl)) sc_knobs) orders_f1) orders_f2) orders_f3) orders_f4)
    (by kernel_rfl)) (by kernel_rfl)) (by kernel_rfl)) (by kernel_rfl)) (by kernel_rfl)) (by kernel_rfl)) (by kernel_rfl)) (by kernel_rfl)) (by kernel_rfl)) sc_keys) (by kernel_rfl)) sc_heard) sc_enter) sc_lifts) sc_make) (by kernel_rfl)) (by kernel_rfl)) (by kernel_rfl)) (by kernel_rfl)

theorem orders_holds : Rows.HorizonOrdersSaid :=
  OpenClaim.holds_of_wide 12 Tryz.f12 rfl rfl rfl rfl rfl rfl rfl ⟨rfl, rfl, rfl, rfl, rfl⟩ rfl rfl rfl rfl rfl orders_f5 Tryz.func12 orders_closed
    orders_f6 orders_f7 (fun os started H enc _ => orders_lifted os started H enc)

theorem orders_stand : ((Tryz.f12).params.toList.all fun u => !Tryz.prog.wantsStandIn u) = true := by kernel_rfl
theorem orders_goes : false = Rows.horizonOrdersRow.goesBy Tryz.prog := by kernel_rfl
theorem orders_text : Rows.horizonOrdersRow.wfByText (OpenSpec.ofChange Rows.horizonOrdersSpec) = true := by kernel_rfl
theorem orders_card_holds : Rows.HorizonOrdersCardSaid :=
  Claim7.holds_tied_plain_at .later [] [.data, .data, .data, .data] true (true, "ebcced09975124e4fdc27a793f740c15c9f79016bad178323bd89e6d8461bc8d") false orders_holds (fun _ h => by cases h) orders_text (fun _ h => by cases h) horizonOrders_row_tie rfl ⟨rfl, rfl⟩ sc_main rfl
    (fun f fn hf hfn => by
      obtain rfl : f = 12 := Option.some.inj (orders_f5.symm.trans hf) |>.symm
      obtain rfl : fn = Tryz.f12 := (Option.some.inj ((Tryz.func12).symm.trans hfn)).symm
      exact ⟨sc_looks, fun j t ht => by
        have hm : t ∈ (Tryz.f12).params.toList := by simpa using Array.mem_of_getElem? ht
        exact (show Tryz.prog.wantsStandIn t = false by simpa using List.all_eq_true.1 orders_stand t hm)⟩)
    orders_goes
#print axioms orders_card_holds
end Go.Proofs.YtjhdkimkijhloaaGreatDoor
