/- TopKeelGhosted: whatever the arguments, the call returns true, and each argument reads afterwards as it read before (the package-level variables that the row lists hold what it says: the card ties that to the program's text). -/
import Derived.Test.YtfcfelnabfaelaaGreatDoorKg7
import Derived.Test.YtfcfelnabfaelaaGreatDoorKg6
import Derived.Test.YtfcfelnabfaelaaGreatDoorKg9
import Derived.Test.YtfcfelnabfaelaaGreatDoorKg5
set_option linter.all false
namespace Go.Proofs.YtfcfelnabfaelaaGreatDoor
open Go.ChangeShapes Go.WideShapes Go.RowKit Go.Abs

theorem keelGhosted_globs : globL Tryz.prog Rows.topKeelGhostedRow.laid 11 = glob0 := by kernel_rfl
theorem keelGhosted_w1 : Tryz.prog.inits.idxOf? 3 = none := by kernel_rfl
theorem keelGhosted_w2 (os : Os) : Input.okWideB Tryz.prog ((World.laidAll Tryz.prog os Rows.topKeelGhostedRow.laid).forCall (fun _ _ => 0) ⟨#[], #[.agg #[.string ⟨#[]⟩, .slice none 0 0], .int .u8 0], []⟩) 3 ⟨#[], #[.agg #[.string ⟨#[]⟩, .slice none 0 0], .int .u8 0], []⟩ = true := by kernel_rfl
theorem keelGhosted_w3 (os : Os) (H : Type) (enc : TypeId × Value → H) : Rows.topKeelGhostedSpec.preB enc Tryz.prog Tryz.f3 Rows.topKeelGhostedRow.domain false ((World.laidAll Tryz.prog os Rows.topKeelGhostedRow.laid).forCall (fun _ _ => 0) ⟨#[], #[.agg #[.string ⟨#[]⟩, .slice none 0 0], .int .u8 0], []⟩).memory #[.agg #[.string ⟨#[]⟩, .slice none 0 0], .int .u8 0] 8 = true := by kernel_rfl
theorem keelGhosted_w4 (os : Os) (H : Type) (enc : TypeId × Value → H) : Rows.topKeelGhostedSpec.sizedB enc Tryz.prog Tryz.f3 false ((World.laidAll Tryz.prog os Rows.topKeelGhostedRow.laid).forCall (fun _ _ => 0) ⟨#[], #[.agg #[.string ⟨#[]⟩, .slice none 0 0], .int .u8 0], []⟩).memory #[.agg #[.string ⟨#[]⟩, .slice none 0 0], .int .u8 0] 8 = true := by kernel_rfl
theorem keelGhosted_ats : atsOf Tryz.prog 6 (Tryz.f3).params.toList = some [.agg [.str, .sl ctTr], .one (.int .u8)] := by kernel_rfl
theorem keelGhosted_par : ∀ t ∈ (Tryz.f3).params.toList, Tryz.prog.readableRec t = true ∧ t < Tryz.prog.types.size := by decide +kernel
theorem keelGhosted_res : (Tryz.f3).resultTypes = #[4] := by kernel_rfl

set_option maxRecDepth 100000 in
theorem keelGhosted_lifted (os : Os) (started : os.Started) (H : Type) (enc : TypeId × Value → H) :
    ReturnsInHanded {} Tryz.checked os 3 .any (fun w args => (Rows.topKeelGhostedSpec.pre enc Tryz.prog Tryz.f3 Rows.topKeelGhostedRow.domain false w args ∧ laidMetH Tryz.prog Rows.topKeelGhostedRow.laid w) ∧ sizedMet enc Tryz.prog Tryz.f3 (OpenSpec.ofChange Rows.topKeelGhostedSpec) false w args)
      (Rows.topKeelGhostedSpec.post enc Tryz.prog Tryz.f3 false true false false) := by
  refine of_change_sh (C := Tryz.checked) (X := fun w _ => laidMetH Tryz.prog Rows.topKeelGhostedRow.laid w) (fun _ _ _ hh h => h.of_heap hh) own started keelGhosted_w1 Tryz.func3
    (ChangeSpec.witness_shaped (enc := enc) (C := Tryz.checked) (os := os) (X := fun w _ => laidMetH Tryz.prog Rows.topKeelGhostedRow.laid w) false (World.laidAll Tryz.prog os Rows.topKeelGhostedRow.laid) #[.agg #[.string ⟨#[]⟩, .slice none 0 0], .int .u8 0] 8 (World.laidAll_os _ _ _)
      (sc_shaped os _) (keelGhosted_w2 os) (keelGhosted_w3 os H enc) (keelGhosted_w4 os H enc) (sc_laid os _)) ?_
  intro W base args ds gs before sh hval hW _ _ hL _
  have hL' : laidMetH Tryz.prog Rows.topKeelGhostedRow.laid W := hL
  rw [MakeChecks.laidMetH_plain _ _ _ (by kernel_rfl)] at hL'
  obtain ⟨hsz, hz⟩ := shaped_last sh (by decide +kernel) tc_last
  have aw := AW.globals2 hL' (fun x hx => hx) 11 hsz
  rw [keelGhosted_globs] at aw
  obtain ⟨p, q, hA, hV, _⟩ := id hW
  obtain ⟨rfl, _⟩ := trodVars_none hV
  have hA' : DataW.TrodAll enc Tryz.prog W 0 (fun _ => true) true (Tryz.f3).params.toList args.toList ds p := hA
  rw [Tryz.params3] at hA'
  obtain ⟨_, _, d1, d2, _, _, _, rfl, _⟩ := trodAll_two hA'
  refine row_true (n := 6) (ats := [.agg [.str, .sl ctTr], .one (.int .u8)]) laidOut keelGhosted_par keelGhosted_res Tryz.underlying4 rfl rfl keelGhosted_ats hval hW aw hz ?_
  intro k vs e h
  obtain ⟨_, _, rfl, h1, h⟩ := tyas_cons h
  obtain ⟨_, _, rfl, h2, h⟩ := tyas_cons h
  obtain rfl := tyas_nil h
  obtain ⟨nm, s, L, rfl, os, hL⟩ := tya_shot h1
  obtain ⟨z, rfl, wz⟩ := tya_int h2
  exact r3 tbl xfl (e.some rfl) (fun k' e' => awake_ok k' (e.trans e')) os hL (u8_bd wz)

theorem keelGhosted_f1 : (Rows.topKeelGhostedRow.inPlace == Tryz.prog.inPlace 3) = true := by kernel_rfl
theorem keelGhosted_f2 : (Rows.topKeelGhostedRow.unfollowed == Tryz.prog.unfollowed 3) = true := by kernel_rfl
theorem keelGhosted_f3 : (Rows.topKeelGhostedRow.recurses == Tryz.prog.recurses 3) = true := by kernel_rfl
theorem keelGhosted_f4 : (Rows.topKeelGhostedRow.named == Tryz.prog.varsNamed 3) = true := by kernel_rfl
theorem keelGhosted_f5 : Tryz.prog.funcNamed "moveout/moveouttop.TopKeelGhosted" = some 3 := by kernel_rfl
theorem keelGhosted_f6 : (Tryz.f3).isInstance Tryz.prog Rows.topKeelGhostedRow.origin Rows.topKeelGhostedRow.targs := of_decide_eq_true (by kernel_rfl)
theorem keelGhosted_f7 : (Tryz.f3).isWrapper Tryz.prog Rows.topKeelGhostedRow.wrapper Rows.topKeelGhostedRow.mainSum := by
  unfold Func.isWrapper; first | (rw [if_pos (by decide +kernel)]; kernel_rfl) | (rw [if_neg (by decide +kernel)]; exact ⟨rfl, rfl⟩)
theorem keelGhosted_f8 : ((Tryz.f3).params.all (Tryz.prog.readableRec ·)) = true := by kernel_rfl
theorem keelGhosted_closed : joinedFacts Tryz.prog 3 Tryz.f3 Rows.topKeelGhostedSpec Rows.topKeelGhostedRow = true := by
  unfold joinedFacts
  exact and2 (and2 (and2 (and2 (and2 (and2 (and2 (and2 (and2 (and2 (and2 (and2 (and2 (and2 (and2 (and2 (and2 (and2 (and2 (and2 (and2 (and2 (and2 (and2 (and2 (and2 (and2 (and2 (and2 (and2 (and2 (by kernel_rfl) laidOut) sc_maps) keelGhosted_f8) (by kernel_rfl)) (by kernel_rfl)) sc_stops) (by kernel_rfl)) sc_knobs) keelGhosted_f1) keelGhosted_f2) keelGhosted_f3) keelGhosted_f4)
    (by kernel_rfl)) (by kernel_rfl)) (by kernel_rfl)) (by kernel_rfl)) (by kernel_rfl)) (by kernel_rfl)) (by kernel_rfl)) (by kernel_rfl)) (by kernel_rfl)) sc_keys) (by kernel_rfl)) sc_heard) sc_enter) sc_lifts) sc_make) (by kernel_rfl)) (by kernel_rfl)) (by kernel_rfl)) (by kernel_rfl)

theorem keelGhosted_holds : Rows.TopKeelGhostedSaid :=
  OpenClaim.holds_of_wide 3 Tryz.f3 rfl rfl rfl rfl rfl rfl rfl ⟨rfl, rfl, rfl, rfl, rfl⟩ rfl rfl rfl rfl rfl keelGhosted_f5 Tryz.func3 keelGhosted_closed
    keelGhosted_f6 keelGhosted_f7 (fun os started H enc _ => keelGhosted_lifted os started H enc)

theorem keelGhosted_stand : ((Tryz.f3).params.toList.all fun u => !Tryz.prog.wantsStandIn u) = true := by kernel_rfl
theorem keelGhosted_goes : false = Rows.topKeelGhostedRow.goesBy Tryz.prog := by kernel_rfl
theorem keelGhosted_text : Rows.topKeelGhostedRow.wfByText (OpenSpec.ofChange Rows.topKeelGhostedSpec) = true := by kernel_rfl
theorem keelGhosted_card_holds : Rows.TopKeelGhostedCardSaid :=
  Claim7.holds_tied_plain_at .later [] [.data] true (true, "20811e888ac8014771364c1ae681d1dfcd67913949ffd353f62130b92039258e") false keelGhosted_holds (fun _ h => by cases h) keelGhosted_text (fun _ h => by cases h) topKeelGhosted_row_tie rfl ⟨rfl, rfl⟩ sc_main rfl
    (fun f fn hf hfn => by
      obtain rfl : f = 3 := Option.some.inj (keelGhosted_f5.symm.trans hf) |>.symm
      obtain rfl : fn = Tryz.f3 := (Option.some.inj ((Tryz.func3).symm.trans hfn)).symm
      exact ⟨sc_looks, fun j t ht => by
        have hm : t ∈ (Tryz.f3).params.toList := by simpa using Array.mem_of_getElem? ht
        exact (show Tryz.prog.wantsStandIn t = false by simpa using List.all_eq_true.1 keelGhosted_stand t hm)⟩)
    keelGhosted_goes
#print axioms keelGhosted_card_holds
end Go.Proofs.YtfcfelnabfaelaaGreatDoor
