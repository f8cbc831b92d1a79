/- TopKeelLapse: whatever the arguments, the call returns true, and each argument reads afterwards as it read before (the package-level variables that the row lists hold what it says: the card ties that to the program's text). -/
import Derived.Test.YtfcfelnabfaelaaDoorKl8
import Derived.Test.YtfcfelnabfaelaaDoorKl6
import Derived.Test.YtfcfelnabfaelaaDoorKl5
set_option linter.all false
namespace Go.Proofs.YtfcfelnabfaelaaDoor
open Go.ChangeShapes Go.WideShapes Go.RowKit Go.Abs

theorem keelLapse_globs : globL Tryd.prog Rows.topKeelLapseRow.laid 11 = glob0 := by kernel_rfl
theorem keelLapse_w1 : Tryd.prog.inits.idxOf? 3 = none := by kernel_rfl
theorem keelLapse_w2 (os : Os) : Input.okWideB Tryd.prog ((World.laidAll Tryd.prog os Rows.topKeelLapseRow.laid).forCall (fun _ _ => 0) ⟨#[], #[.agg #[.slice none 0 0, .int .u8 0, .int .u8 0, .int .i8 0, .int .i8 0, .int .i8 0, .int .i8 0, .int .i8 0, .int .i8 0, .int .i8 0, .int .i8 0, .int .i8 0, .int .i8 0, .int .i8 0, .int .i8 0, .int .i8 0, .int .i8 0], .int .i8 0], []⟩) 3 ⟨#[], #[.agg #[.slice none 0 0, .int .u8 0, .int .u8 0, .int .i8 0, .int .i8 0, .int .i8 0, .int .i8 0, .int .i8 0, .int .i8 0, .int .i8 0, .int .i8 0, .int .i8 0, .int .i8 0, .int .i8 0, .int .i8 0, .int .i8 0, .int .i8 0], .int .i8 0], []⟩ = true := by kernel_rfl
theorem keelLapse_w3 (os : Os) (H : Type) (enc : TypeId × Value → H) : Rows.topKeelLapseSpec.preB enc Tryd.prog Tryd.f3 Rows.topKeelLapseRow.domain false ((World.laidAll Tryd.prog os Rows.topKeelLapseRow.laid).forCall (fun _ _ => 0) ⟨#[], #[.agg #[.slice none 0 0, .int .u8 0, .int .u8 0, .int .i8 0, .int .i8 0, .int .i8 0, .int .i8 0, .int .i8 0, .int .i8 0, .int .i8 0, .int .i8 0, .int .i8 0, .int .i8 0, .int .i8 0, .int .i8 0, .int .i8 0, .int .i8 0], .int .i8 0], []⟩).memory #[.agg #[.slice none 0 0, .int .u8 0, .int .u8 0, .int .i8 0, .int .i8 0, .int .i8 0, .int .i8 0, .int .i8 0, .int .i8 0, .int .i8 0, .int .i8 0, .int .i8 0, .int .i8 0, .int .i8 0, .int .i8 0, .int .i8 0, .int .i8 0], .int .i8 0] 8 = true := by kernel_rfl
theorem keelLapse_w4 (os : Os) (H : Type) (enc : TypeId × Value → H) : Rows.topKeelLapseSpec.sizedB enc Tryd.prog Tryd.f3 false ((World.laidAll Tryd.prog os Rows.topKeelLapseRow.laid).forCall (fun _ _ => 0) ⟨#[], #[.agg #[.slice none 0 0, .int .u8 0, .int .u8 0, .int .i8 0, .int .i8 0, .int .i8 0, .int .i8 0, .int .i8 0, .int .i8 0, .int .i8 0, .int .i8 0, .int .i8 0, .int .i8 0, .int .i8 0, .int .i8 0, .int .i8 0, .int .i8 0], .int .i8 0], []⟩).memory #[.agg #[.slice none 0 0, .int .u8 0, .int .u8 0, .int .i8 0, .int .i8 0, .int .i8 0, .int .i8 0, .int .i8 0, .int .i8 0, .int .i8 0, .int .i8 0, .int .i8 0, .int .i8 0, .int .i8 0, .int .i8 0, .int .i8 0, .int .i8 0], .int .i8 0] 8 = true := by kernel_rfl
theorem keelLapse_ats : atsOf Tryd.prog 6 (Tryd.f3).params.toList = some [.agg ctGr, .one (.int .i8)] := by kernel_rfl
theorem keelLapse_par : ∀ t ∈ (Tryd.f3).params.toList, Tryd.prog.readableRec t = true ∧ t < Tryd.prog.types.size := by decide +kernel
theorem keelLapse_res : (Tryd.f3).resultTypes = #[4] := by kernel_rfl

set_option maxRecDepth 100000 in
theorem keelLapse_lifted (os : Os) (started : os.Started) (H : Type) (enc : TypeId × Value → H) :
    ReturnsInHanded {} Tryd.checked os 3 .any (fun w args => (Rows.topKeelLapseSpec.pre enc Tryd.prog Tryd.f3 Rows.topKeelLapseRow.domain false w args ∧ laidMetH Tryd.prog Rows.topKeelLapseRow.laid w) ∧ sizedMet enc Tryd.prog Tryd.f3 (OpenSpec.ofChange Rows.topKeelLapseSpec) false w args)
      (Rows.topKeelLapseSpec.post enc Tryd.prog Tryd.f3 false true false false) := by
  refine of_change_sh (C := Tryd.checked) (X := fun w _ => laidMetH Tryd.prog Rows.topKeelLapseRow.laid w) (fun _ _ _ hh h => h.of_heap hh) own started keelLapse_w1 Tryd.func3
    (ChangeSpec.witness_shaped (enc := enc) (C := Tryd.checked) (os := os) (X := fun w _ => laidMetH Tryd.prog Rows.topKeelLapseRow.laid w) false (World.laidAll Tryd.prog os Rows.topKeelLapseRow.laid) #[.agg #[.slice none 0 0, .int .u8 0, .int .u8 0, .int .i8 0, .int .i8 0, .int .i8 0, .int .i8 0, .int .i8 0, .int .i8 0, .int .i8 0, .int .i8 0, .int .i8 0, .int .i8 0, .int .i8 0, .int .i8 0, .int .i8 0, .int .i8 0], .int .i8 0] 8 (World.laidAll_os _ _ _)
      (sc_shaped os _) (keelLapse_w2 os) (keelLapse_w3 os H enc) (keelLapse_w4 os H enc) (sc_laid os _)) ?_
  intro W base args ds gs before sh hval hW _ _ hL _
  have hL' : laidMetH Tryd.prog Rows.topKeelLapseRow.laid W := hL
  rw [MakeChecks.laidMetH_plain _ _ _ (by kernel_rfl)] at hL'
  obtain ⟨hsz, hz⟩ := shaped_last sh (by decide +kernel) tc_last
  have aw := AW.globals2 hL' (fun x hx => hx) 11 hsz
  rw [keelLapse_globs] at aw
  obtain ⟨p, q, hA, hV, _⟩ := id hW
  obtain ⟨rfl, _⟩ := trodVars_none hV
  have hA' : DataW.TrodAll enc Tryd.prog W 0 (fun _ => true) true (Tryd.f3).params.toList args.toList ds p := hA
  rw [Tryd.params3] at hA'
  obtain ⟨_, _, d1, d2, _, _, _, rfl, _⟩ := trodAll_two hA'
  refine row_true (n := 6) (ats := [.agg ctGr, .one (.int .i8)]) laidOut keelLapse_par keelLapse_res Tryd.underlying4 rfl rfl keelLapse_ats hval hW aw hz ?_
  intro k vs e h
  obtain ⟨_, _, rfl, h1, h⟩ := tyas_cons h
  obtain ⟨_, _, rfl, h2, h⟩ := tyas_cons h
  obtain rfl := tyas_nil h
  obtain ⟨s, g, rfl, ok, hL⟩ := tya_gr h1
  obtain ⟨z, rfl, wz⟩ := tya_int h2
  exact r3 tbl (e.some rfl) (fun k' e' => awake_ok k' (e.trans e')) ok hL (i8_bd wz)

theorem keelLapse_f1 : (Rows.topKeelLapseRow.inPlace == Tryd.prog.inPlace 3) = true := by kernel_rfl
theorem keelLapse_f2 : (Rows.topKeelLapseRow.unfollowed == Tryd.prog.unfollowed 3) = true := by kernel_rfl
theorem keelLapse_f3 : (Rows.topKeelLapseRow.recurses == Tryd.prog.recurses 3) = true := by kernel_rfl
theorem keelLapse_f4 : (Rows.topKeelLapseRow.named == Tryd.prog.varsNamed 3) = true := by kernel_rfl
theorem keelLapse_f5 : Tryd.prog.funcNamed "moveout/moveouttop.TopKeelLapse" = some 3 := by kernel_rfl
theorem keelLapse_f6 : (Tryd.f3).isInstance Tryd.prog Rows.topKeelLapseRow.origin Rows.topKeelLapseRow.targs := of_decide_eq_true (by kernel_rfl)
theorem keelLapse_f7 : (Tryd.f3).isWrapper Tryd.prog Rows.topKeelLapseRow.wrapper Rows.topKeelLapseRow.mainSum := by
  unfold Func.isWrapper; first | (rw [if_pos (by decide +kernel)]; kernel_rfl) | (rw [if_neg (by decide +kernel)]; exact ⟨rfl, rfl⟩)
theorem keelLapse_f8 : ((Tryd.f3).params.all (Tryd.prog.readableRec ·)) = true := by kernel_rfl
theorem keelLapse_closed : joinedFacts Tryd.prog 3 Tryd.f3 Rows.topKeelLapseSpec Rows.topKeelLapseRow = true := by
  unfold joinedFacts
  exact and2 (and2 (and2 (and2 (and2 (and2 (and2 (and2 (and2 (and2 (and2 (and2 (and2 (and2 (and2 (and2 (and2 (and2 (and2 (and2 (and2 (and2 (and2 (and2 (and2 (and2 (and2 (and2 (and2 (and2 (and2 (by kernel_rfl) laidOut) sc_maps) keelLapse_f8) (by kernel_rfl)) (by kernel_rfl)) sc_stops) (by kernel_rfl)) sc_knobs) keelLapse_f1) keelLapse_f2) keelLapse_f3) keelLapse_f4)
    (by kernel_rfl)) (by kernel_rfl)) (by kernel_rfl)) (by kernel_rfl)) (by kernel_rfl)) (by kernel_rfl)) (by kernel_rfl)) (by kernel_rfl)) (by kernel_rfl)) sc_keys) (by kernel_rfl)) sc_heard) sc_enter) sc_lifts) sc_make) (by kernel_rfl)) (by kernel_rfl)) (by kernel_rfl)) (by kernel_rfl)

theorem keelLapse_holds : Rows.TopKeelLapseSaid :=
  OpenClaim.holds_of_wide 3 Tryd.f3 rfl rfl rfl rfl rfl rfl rfl ⟨rfl, rfl, rfl, rfl, rfl⟩ rfl rfl rfl rfl rfl keelLapse_f5 Tryd.func3 keelLapse_closed
    keelLapse_f6 keelLapse_f7 (fun os started H enc _ => keelLapse_lifted os started H enc)

theorem keelLapse_stand : ((Tryd.f3).params.toList.all fun u => !Tryd.prog.wantsStandIn u) = true := by kernel_rfl
theorem keelLapse_goes : false = Rows.topKeelLapseRow.goesBy Tryd.prog := by kernel_rfl
theorem keelLapse_text : Rows.topKeelLapseRow.wfByText (OpenSpec.ofChange Rows.topKeelLapseSpec) = true := by kernel_rfl
theorem keelLapse_card_holds : Rows.TopKeelLapseCardSaid :=
  Claim7.holds_tied_plain_at .later [] [.data] true (true, "3328d075bebf4e946c88a45f7b03a159c4d9bd31d44fe76e17e89ac0d8e9a256") false keelLapse_holds (fun _ h => by cases h) keelLapse_text (fun _ h => by cases h) topKeelLapse_row_tie rfl ⟨rfl, rfl⟩ sc_main rfl
    (fun f fn hf hfn => by
      obtain rfl : f = 3 := Option.some.inj (keelLapse_f5.symm.trans hf) |>.symm
      obtain rfl : fn = Tryd.f3 := (Option.some.inj ((Tryd.func3).symm.trans hfn)).symm
      exact ⟨sc_looks, fun j t ht => by
        have hm : t ∈ (Tryd.f3).params.toList := by simpa using Array.mem_of_getElem? ht
        exact (show Tryd.prog.wantsStandIn t = false by simpa using List.all_eq_true.1 keelLapse_stand t hm)⟩)
    keelLapse_goes
#print axioms keelLapse_card_holds
end Go.Proofs.YtfcfelnabfaelaaDoor
