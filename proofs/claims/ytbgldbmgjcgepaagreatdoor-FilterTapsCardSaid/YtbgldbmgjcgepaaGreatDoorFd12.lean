/- FilterTaps: whatever the arguments, the call returns true, and each argument reads afterwards as it read before (the package-level variables that the row lists hold what it says: the card ties that to the program's text). -/
import Derived.Test.YtbgldbmgjcgepaaGreatDoorFd9
import Derived.Test.YtbgldbmgjcgepaaGreatDoorFd6
import Derived.Test.YtbgldbmgjcgepaaGreatDoorFd11
set_option linter.all false
namespace Go.Proofs.YtbgldbmgjcgepaaGreatDoor
open Go.ChangeShapes Go.WideShapes Go.RowKit Go.Abs

theorem taps_globs : globL Tryz.prog Rows.filterTapsRow.laid 11 = glob0 := by kernel_rfl
theorem taps_w1 : Tryz.prog.inits.idxOf? 3 = none := by kernel_rfl
theorem taps_w2 (os : Os) : Input.okWideB Tryz.prog ((World.laidAll Tryz.prog os Rows.filterTapsRow.laid).forCall (fun _ _ => 0) ⟨#[], #[.slice none 0 0, .slice none 0 0], []⟩) 3 ⟨#[], #[.slice none 0 0, .slice none 0 0], []⟩ = true := by kernel_rfl
theorem taps_w3 (os : Os) (H : Type) (enc : TypeId × Value → H) : Rows.filterTapsSpec.preB enc Tryz.prog Tryz.f3 Rows.filterTapsRow.domain false ((World.laidAll Tryz.prog os Rows.filterTapsRow.laid).forCall (fun _ _ => 0) ⟨#[], #[.slice none 0 0, .slice none 0 0], []⟩).memory #[.slice none 0 0, .slice none 0 0] 8 = true := by kernel_rfl
theorem taps_w4 (os : Os) (H : Type) (enc : TypeId × Value → H) : Rows.filterTapsSpec.sizedB enc Tryz.prog Tryz.f3 false ((World.laidAll Tryz.prog os Rows.filterTapsRow.laid).forCall (fun _ _ => 0) ⟨#[], #[.slice none 0 0, .slice none 0 0], []⟩).memory #[.slice none 0 0, .slice none 0 0] 8 = true := by kernel_rfl
theorem taps_ats : atsOf Tryz.prog 6 (Tryz.f3).params.toList = some [.one (.sl [.int .i64]), .one (.sl [.flt .f32])] := by kernel_rfl
theorem taps_par : ∀ t ∈ (Tryz.f3).params.toList, Tryz.prog.readableRec t = true ∧ t < Tryz.prog.types.size := by decide +kernel
theorem taps_res : (Tryz.f3).resultTypes = #[4] := by kernel_rfl

set_option maxRecDepth 100000 in
theorem taps_lifted (os : Os) (started : os.Started) (H : Type) (enc : TypeId × Value → H) :
    ReturnsInHanded {} Tryz.checked os 3 .any (fun w args => (Rows.filterTapsSpec.pre enc Tryz.prog Tryz.f3 Rows.filterTapsRow.domain false w args ∧ laidMetH Tryz.prog Rows.filterTapsRow.laid w) ∧ sizedMet enc Tryz.prog Tryz.f3 (OpenSpec.ofChange Rows.filterTapsSpec) false w args)
      (Rows.filterTapsSpec.post enc Tryz.prog Tryz.f3 false true false false) := by
  refine returnsInHanded_of_change_and (C := Tryz.checked) (X := fun w _ => laidMetH Tryz.prog Rows.filterTapsRow.laid w) (fun _ _ _ hh h => h.of_heap hh) own started taps_w1 Tryz.func3
    (ChangeSpec.witness_shaped (enc := enc) (C := Tryz.checked) (os := os) (X := fun w _ => laidMetH Tryz.prog Rows.filterTapsRow.laid w) false (World.laidAll Tryz.prog os Rows.filterTapsRow.laid) #[.slice none 0 0, .slice none 0 0] 8 (World.laidAll_os _ _ _)
      (sc_shaped os _) (taps_w2 os) (taps_w3 os H enc) (taps_w4 os H enc) (sc_laid os _)) ?_
  intro W base args ds gs before hval hW _ _ hL _
  have hL' : laidMetH Tryz.prog Rows.filterTapsRow.laid W := hL
  rw [MakeChecks.laidMetH_plain _ _ _ (by kernel_rfl)] at hL'
  obtain ⟨aw, hz⟩ := AW.globals hL' (fun x hx => hx) 11 (nm := "math/bits.deBruijn64tab") (d := Rows.laid_math_bits_deBruijn64tab) (by unfold Rows.filterTapsRow; simp) (by kernel_rfl)
  rw [taps_globs] at aw
  obtain ⟨p, q, hA, hV, _⟩ := id hW
  obtain ⟨rfl, _⟩ := trodVars_none hV
  have hA' : DataW.TrodAll enc Tryz.prog W 0 (fun _ => true) true (Tryz.f3).params.toList args.toList ds p := hA
  rw [Tryz.params3] at hA'
  obtain ⟨_, _, d1, d2, _, _, _, rfl, _⟩ := trodAll_two hA'
  refine row_true (n := 6) (ats := [.one (.sl [.int .i64]), .one (.sl [.flt .f32])]) laidOut taps_par taps_res Tryz.underlying4 rfl rfl taps_ats hval hW aw hz ?_
  intro k vs e h
  obtain ⟨_, _, rfl, h1, h⟩ := tyas_cons h
  obtain ⟨_, _, rfl, h2, h⟩ := tyas_cons h
  obtain rfl := tyas_nil h
  obtain ⟨t, ht, _⟩ := tya_ints h1
  obtain ⟨L, hL, _⟩ := tya_flts h2
  exact r3 tbl xfl (fun k' e' => awake_ok k' (e.trans e')) (e.some rfl) (t := t) (l := L) ht hL

theorem taps_f1 : (Rows.filterTapsRow.inPlace == Tryz.prog.inPlace 3) = true := by kernel_rfl
theorem taps_f2 : (Rows.filterTapsRow.unfollowed == Tryz.prog.unfollowed 3) = true := by kernel_rfl
theorem taps_f3 : (Rows.filterTapsRow.recurses == Tryz.prog.recurses 3) = true := by kernel_rfl
theorem taps_f4 : (Rows.filterTapsRow.named == Tryz.prog.varsNamed 3) = true := by kernel_rfl
theorem taps_f5 : Tryz.prog.funcNamed "moveout/moveoutlaw05.FilterTaps" = some 3 := by kernel_rfl
theorem taps_f6 : (Tryz.f3).isInstance Tryz.prog Rows.filterTapsRow.origin Rows.filterTapsRow.targs := of_decide_eq_true (by kernel_rfl)
theorem taps_f7 : (Tryz.f3).isWrapper Tryz.prog Rows.filterTapsRow.wrapper Rows.filterTapsRow.mainSum := by
  unfold Func.isWrapper; first | (rw [if_pos (by decide +kernel)]; kernel_rfl) | (rw [if_neg (by decide +kernel)]; exact ⟨rfl, rfl⟩)
theorem taps_f8 : ((Tryz.f3).params.all (Tryz.prog.readableRec ·)) = true := by kernel_rfl
theorem taps_closed : joinedFacts Tryz.prog 3 Tryz.f3 Rows.filterTapsSpec Rows.filterTapsRow = true := by
  unfold joinedFacts
  exact and2 (and2 (and2 (and2 (and2 (and2 (and2 (and2 (and2 (and2 (and2 (and2 (and2 (and2 (and2 (and2 (and2 (and2 (and2 (and2 (and2 (and2 (and2 (and2 (and2 (and2 (and2 (and2 (and2 (and2 (and2 (by kernel_rfl) laidOut) sc_maps) taps_f8) (by kernel_rfl)) (by kernel_rfl)) sc_stops) (by kernel_rfl)) sc_knobs) taps_f1) taps_f2) taps_f3) taps_f4)
    (by kernel_rfl)) (by kernel_rfl)) (by kernel_rfl)) (by kernel_rfl)) (by kernel_rfl)) (by kernel_rfl)) (by kernel_rfl)) (by kernel_rfl)) (by kernel_rfl)) sc_keys) (by kernel_rfl)) sc_heard) sc_enter) sc_lifts) sc_make) (by kernel_rfl)) (by kernel_rfl)) (by kernel_rfl)) (by kernel_rfl)

theorem taps_holds : Rows.FilterTapsSaid :=
  OpenClaim.holds_of_wide 3 Tryz.f3 rfl rfl rfl rfl rfl rfl rfl ⟨rfl, rfl, rfl, rfl, rfl⟩ rfl rfl rfl rfl rfl taps_f5 Tryz.func3 taps_closed
    taps_f6 taps_f7 (fun os started H enc _ => taps_lifted os started H enc)

theorem taps_stand : ((Tryz.f3).params.toList.all fun u => !Tryz.prog.wantsStandIn u) = true := by kernel_rfl
theorem taps_goes : false = Rows.filterTapsRow.goesBy Tryz.prog := by kernel_rfl
theorem taps_text : Rows.filterTapsRow.wfByText (OpenSpec.ofChange Rows.filterTapsSpec) = true := by kernel_rfl
theorem taps_card_holds : Rows.FilterTapsCardSaid :=
  Claim7.holds_tied_plain_at .later [] [.data, .data, .data, .data] true (true, "935bb61a7861a9fad800c7aac49f604bfc9e5b8f028eba8f042cb1ef6ca0aa73") true taps_holds (fun _ h => by cases h) taps_text (fun _ h => by cases h) filterTaps_row_tie rfl ⟨rfl, rfl⟩ sc_main rfl
    (fun f fn hf hfn => by
      obtain rfl : f = 3 := Option.some.inj (taps_f5.symm.trans hf) |>.symm
      obtain rfl : fn = Tryz.f3 := (Option.some.inj ((Tryz.func3).symm.trans hfn)).symm
      exact ⟨sc_looks, fun j t ht => by
        have hm : t ∈ (Tryz.f3).params.toList := by simpa using Array.mem_of_getElem? ht
        exact (show Tryz.prog.wantsStandIn t = false by simpa using List.all_eq_true.1 taps_stand t hm)⟩)
    taps_goes
#print axioms taps_card_holds
end Go.Proofs.YtbgldbmgjcgepaaGreatDoor
