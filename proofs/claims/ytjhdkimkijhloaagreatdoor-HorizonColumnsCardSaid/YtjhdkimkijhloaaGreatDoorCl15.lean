/- HorizonColumns: whatever the arguments, the call returns true, and each argument reads afterwards as it read before (the package-level variables that the row lists hold what it says: the card ties that to the program's text). -/
import Derived.Test.YtjhdkimkijhloaaGreatDoorCl7
import Derived.Test.YtjhdkimkijhloaaGreatDoorCl8
import Derived.Test.YtjhdkimkijhloaaGreatDoorCl12
import Derived.Test.YtjhdkimkijhloaaGreatDoorCl14
set_option linter.all false
namespace Go.Proofs.YtjhdkimkijhloaaGreatDoor
open Go.ChangeShapes Go.WideShapes Go.RowKit Go.Abs

theorem columns_globs : globL Tryz.prog Rows.horizonColumnsRow.laid 3 = glob0 := by kernel_rfl
theorem columns_w1 : Tryz.prog.inits.idxOf? 7 = none := by kernel_rfl
theorem columns_w2 (os : Os) : Input.okWideB Tryz.prog ((World.laidAll Tryz.prog os Rows.horizonColumnsRow.laid).forCall (fun _ _ => 0) ⟨#[], #[.slice none 0 0, .agg #[.slice none 0 0, .slice none 0 0, .int .i64 0], .agg #[.int .u8 0, .int .u8 0, .int .u8 0, .int .u8 0, .int .u8 0, .int .u8 0, .int .u8 0, .int .u8 0]], []⟩) 7 ⟨#[], #[.slice none 0 0, .agg #[.slice none 0 0, .slice none 0 0, .int .i64 0], .agg #[.int .u8 0, .int .u8 0, .int .u8 0, .int .u8 0, .int .u8 0, .int .u8 0, .int .u8 0, .int .u8 0]], []⟩ = true := by kernel_rfl
theorem columns_w3 (os : Os) (H : Type) (enc : TypeId × Value → H) : Rows.horizonColumnsSpec.preB enc Tryz.prog Tryz.f7 Rows.horizonColumnsRow.domain false ((World.laidAll Tryz.prog os Rows.horizonColumnsRow.laid).forCall (fun _ _ => 0) ⟨#[], #[.slice none 0 0, .agg #[.slice none 0 0, .slice none 0 0, .int .i64 0], .agg #[.int .u8 0, .int .u8 0, .int .u8 0, .int .u8 0, .int .u8 0, .int .u8 0, .int .u8 0, .int .u8 0]], []⟩).memory #[.slice none 0 0, .agg #[.slice none 0 0, .slice none 0 0, .int .i64 0], .agg #[.int .u8 0, .int .u8 0, .int .u8 0, .int .u8 0, .int .u8 0, .int .u8 0, .int .u8 0, .int .u8 0]] 8 = true := by kernel_rfl
theorem columns_w4 (os : Os) (H : Type) (enc : TypeId × Value → H) : Rows.horizonColumnsSpec.sizedB enc Tryz.prog Tryz.f7 false ((World.laidAll Tryz.prog os Rows.horizonColumnsRow.laid).forCall (fun _ _ => 0) ⟨#[], #[.slice none 0 0, .agg #[.slice none 0 0, .slice none 0 0, .int .i64 0], .agg #[.int .u8 0, .int .u8 0, .int .u8 0, .int .u8 0, .int .u8 0, .int .u8 0, .int .u8 0, .int .u8 0]], []⟩).memory #[.slice none 0 0, .agg #[.slice none 0 0, .slice none 0 0, .int .i64 0], .agg #[.int .u8 0, .int .u8 0, .int .u8 0, .int .u8 0, .int .u8 0, .int .u8 0, .int .u8 0, .int .u8 0]] 8 = true := by kernel_rfl
theorem columns_ats : atsOf Tryz.prog 6 (Tryz.f7).params.toList = some [.one (.sl ctHor), .agg ctCol, .agg (List.replicate 8 (.int .u8))] := by kernel_rfl
theorem columns_par : ∀ t ∈ (Tryz.f7).params.toList, Tryz.prog.readableRec t = true ∧ t < Tryz.prog.types.size := by decide +kernel
theorem columns_res : (Tryz.f7).resultTypes = #[4] := by kernel_rfl

set_option maxRecDepth 100000 in
theorem columns_lifted (os : Os) (started : os.Started) (H : Type) (enc : TypeId × Value → H) :
    ReturnsInHanded {} Tryz.checked os 7 .any (fun w args => (Rows.horizonColumnsSpec.pre enc Tryz.prog Tryz.f7 Rows.horizonColumnsRow.domain false w args ∧ laidMetH Tryz.prog Rows.horizonColumnsRow.laid w) ∧ sizedMet enc Tryz.prog Tryz.f7 (OpenSpec.ofChange Rows.horizonColumnsSpec) false w args)
      (Rows.horizonColumnsSpec.post enc Tryz.prog Tryz.f7 false true false false) := by
  refine returnsInHanded_of_change_and (C := Tryz.checked) (X := fun w _ => laidMetH Tryz.prog Rows.horizonColumnsRow.laid w) (fun _ _ _ hh h => h.of_heap hh) own started columns_w1 Tryz.func7
    (ChangeSpec.witness_shaped (enc := enc) (C := Tryz.checked) (os := os) (X := fun w _ => laidMetH Tryz.prog Rows.horizonColumnsRow.laid w) false (World.laidAll Tryz.prog os Rows.horizonColumnsRow.laid) #[.slice none 0 0, .agg #[.slice none 0 0, .slice none 0 0, .int .i64 0], .agg #[.int .u8 0, .int .u8 0, .int .u8 0, .int .u8 0, .int .u8 0, .int .u8 0, .int .u8 0, .int .u8 0]] 8 (World.laidAll_os _ _ _)
      (sc_shaped os _) (columns_w2 os) (columns_w3 os H enc) (columns_w4 os H enc) (sc_laid os _)) ?_
  intro W base args ds gs before hval hW _ _ hL _
  have hL' : laidMetH Tryz.prog Rows.horizonColumnsRow.laid W := hL
  rw [MakeChecks.laidMetH_plain _ _ _ (by kernel_rfl)] at hL'
  obtain ⟨aw, hz⟩ := AW.globals hL' (fun x hx => hx) 3 (nm := "math/bits.deBruijn64tab") (d := Rows.laid_math_bits_deBruijn64tab) (by unfold Rows.horizonColumnsRow; simp) (by kernel_rfl)
  rw [columns_globs] at aw
  obtain ⟨p, q, hA, hV, _⟩ := id hW
  obtain ⟨rfl, _⟩ := trodVars_none hV
  have hA' : DataW.TrodAll enc Tryz.prog W 0 (fun _ => true) true (Tryz.f7).params.toList args.toList ds p := hA
  rw [Tryz.params7] at hA'
  obtain ⟨_, _, _, d1, d2, d3, _, _, _, _, rfl, _⟩ := trodAll_three hA'
  refine row_true (n := 6) (ats := [.one (.sl ctHor), .agg ctCol, .agg (List.replicate 8 (.int .u8))]) laidOut columns_par columns_res Tryz.underlying4 rfl rfl columns_ats hval hW aw hz ?_
  intro k vs e h
  obtain ⟨_, _, rfl, h1, h⟩ := tyas_cons h
  obtain ⟨_, _, rfl, h2, h⟩ := tyas_cons h
  obtain ⟨_, _, rfl, h3, h⟩ := tyas_cons h
  obtain rfl := tyas_nil h
  obtain ⟨L, ol⟩ := tya_hors h1
  obtain ⟨V, W, sv, sw, x, rfl, hv, hw⟩ := tya_col h2
  obtain ⟨nn, rfl, hn8, hnb⟩ := tya_arr h3
  exact r7 tbl (fun k' e' => awake_ok k' (e.trans e')) ol hv hw hn8 (fun y hy => u8_bd (hnb y hy))

theorem columns_f1 : (Rows.horizonColumnsRow.inPlace == Tryz.prog.inPlace 7) = true := by kernel_rfl
theorem columns_f2 : (Rows.horizonColumnsRow.unfollowed == Tryz.prog.unfollowed 7) = true := by kernel_rfl
theorem columns_f3 : (Rows.horizonColumnsRow.recurses == Tryz.prog.recurses 7) = true := by kernel_rfl
theorem columns_f4 : (Rows.horizonColumnsRow.named == Tryz.prog.varsNamed 7) = true := by kernel_rfl
theorem columns_f5 : Tryz.prog.funcNamed "moveout/moveoutlaw08.HorizonColumns" = some 7 := by kernel_rfl
theorem columns_f6 : (Tryz.f7).isInstance Tryz.prog Rows.horizonColumnsRow.origin Rows.horizonColumnsRow.targs := of_decide_eq_true (by kernel_rfl)
theorem columns_f7 : (Tryz.f7).isWrapper Tryz.prog Rows.horizonColumnsRow.wrapper Rows.horizonColumnsRow.mainSum := by
  unfold Func.isWrapper; first | (rw [if_pos (by decide +kernel)]; kernel_rfl) | (rw [if_neg (by decide +kernel)]; exact ⟨rfl, rfl⟩)
theorem columns_f8 : ((Tryz.f7).params.all (Tryz.prog.readableRec ·)) = true := by kernel_rfl
theorem columns_closed : joinedFacts Tryz.prog 7 Tryz.f7 Rows.horizonColumnsSpec Rows.horizonColumnsRow = true := by
  unfold joinedFacts
  exact and2 (and2 (and2 (and2 (and2 (and2 (and2 (and2 (and2 (and2 (and2 (and2 (and2 (and2 (and2 (and2 (and2 (and2 (and2 (and2 (and2 (and2 (and2 (and2 (and2 (and2 (and2 (and2 (and2 (and2 (and2 (by kernel_rfl) laidOut) sc_maps) columns_f8) (by kernel_rfl)) (by kernel_rfl)) sc_stops) (by kernel_rfl)) sc_knobs) columns_f1) columns_f2) columns_f3) columns_f4)
    (by kernel_rfl)) (by kernel_rfl)) (by kernel_rfl)) (by kernel_rfl)) (by kernel_rfl)) (by kernel_rfl)) (by kernel_rfl)) (by kernel_rfl)) (by kernel_rfl)) sc_keys) (by kernel_rfl)) sc_heard) sc_enter) sc_lifts) sc_make) (by kernel_rfl)) (by kernel_rfl)) (by kernel_rfl)) (by kernel_rfl)

theorem columns_holds : Rows.HorizonColumnsSaid :=
  OpenClaim.holds_of_wide 7 Tryz.f7 rfl rfl rfl rfl rfl rfl rfl ⟨rfl, rfl, rfl, rfl, rfl⟩ rfl rfl rfl rfl rfl columns_f5 Tryz.func7 columns_closed
    columns_f6 columns_f7 (fun os started H enc _ => columns_lifted os started H enc)

theorem columns_stand : ((Tryz.f7).params.toList.all fun u => !Tryz.prog.wantsStandIn u) = true := by kernel_rfl
theorem columns_goes : false = Rows.horizonColumnsRow.goesBy Tryz.prog := by kernel_rfl
theorem columns_text : Rows.horizonColumnsRow.wfByText (OpenSpec.ofChange Rows.horizonColumnsSpec) = true := by kernel_rfl
theorem columns_card_holds : Rows.HorizonColumnsCardSaid :=
  Claim7.holds_tied_plain_at .later [] [.data, .data, .data, .data] true (true, "ebcced09975124e4fdc27a793f740c15c9f79016bad178323bd89e6d8461bc8d") false columns_holds (fun _ h => by cases h) columns_text (fun _ h => by cases h) horizonColumns_row_tie rfl ⟨rfl, rfl⟩ sc_main rfl
    (fun f fn hf hfn => by
      obtain rfl : f = 7 := Option.some.inj (columns_f5.symm.trans hf) |>.symm
      obtain rfl : fn = Tryz.f7 := (Option.some.inj ((Tryz.func7).symm.trans hfn)).symm
      exact ⟨sc_looks, fun j t ht => by
        have hm : t ∈ (Tryz.f7).params.toList := by simpa using Array.mem_of_getElem? ht
        exact (show Tryz.prog.wantsStandIn t = false by simpa using List.all_eq_true.1 columns_stand t hm)⟩)
    columns_goes
#print axioms columns_card_holds
end Go.Proofs.YtjhdkimkijhloaaGreatDoor
