/- FilterTides: whatever the arguments, the call returns true, and each argument reads afterwards as it read before (the package-level variables that the row lists hold what it says: the card ties that to the program's text). -/
import Derived.Test.YtbgldbmgjcgepaaGreatDoorFa9
import Derived.Test.YtbgldbmgjcgepaaGreatDoorFa6
import Derived.Test.YtbgldbmgjcgepaaGreatDoorFa10
set_option linter.all false
namespace Go.Proofs.YtbgldbmgjcgepaaGreatDoor
open Go.ChangeShapes Go.WideShapes Go.RowKit Go.Abs

theorem tides_globs : globL Tryz.prog Rows.filterTidesRow.laid 11 = glob0 := by kernel_rfl
theorem tides_w1 : Tryz.prog.inits.idxOf? 6 = none := by kernel_rfl
theorem tides_w2 (os : Os) : Input.okWideB Tryz.prog ((World.laidAll Tryz.prog os Rows.filterTidesRow.laid).forCall (fun _ _ => 0) ⟨#[], #[.slice none 0 0, .int .i64 0], []⟩) 6 ⟨#[], #[.slice none 0 0, .int .i64 0], []⟩ = true := by kernel_rfl
theorem tides_w3 (os : Os) (H : Type) (enc : TypeId × Value → H) : Rows.filterTidesSpec.preB enc Tryz.prog Tryz.f6 Rows.filterTidesRow.domain false ((World.laidAll Tryz.prog os Rows.filterTidesRow.laid).forCall (fun _ _ => 0) ⟨#[], #[.slice none 0 0, .int .i64 0], []⟩).memory #[.slice none 0 0, .int .i64 0] 8 = true := by kernel_rfl
theorem tides_w4 (os : Os) (H : Type) (enc : TypeId × Value → H) : Rows.filterTidesSpec.sizedB enc Tryz.prog Tryz.f6 false ((World.laidAll Tryz.prog os Rows.filterTidesRow.laid).forCall (fun _ _ => 0) ⟨#[], #[.slice none 0 0, .int .i64 0], []⟩).memory #[.slice none 0 0, .int .i64 0] 8 = true := by kernel_rfl
theorem tides_ats : atsOf Tryz.prog 6 (Tryz.f6).params.toList = some [.one (.sl [.int .i64, .int .i64]), .one (.int .i64)] := by kernel_rfl
theorem tides_par : ∀ t ∈ (Tryz.f6).params.toList, Tryz.prog.readableRec t = true ∧ t < Tryz.prog.types.size := by decide +kernel
theorem tides_res : (Tryz.f6).resultTypes = #[4] := by kernel_rfl

set_option maxRecDepth 100000 in
theorem tides_lifted (os : Os) (started : os.Started) (H : Type) (enc : TypeId × Value → H) :
    ReturnsInHanded {} Tryz.checked os 6 .any (fun w args => (Rows.filterTidesSpec.pre enc Tryz.prog Tryz.f6 Rows.filterTidesRow.domain false w args ∧ laidMetH Tryz.prog Rows.filterTidesRow.laid w) ∧ sizedMet enc Tryz.prog Tryz.f6 (OpenSpec.ofChange Rows.filterTidesSpec) false w args)
      (Rows.filterTidesSpec.post enc Tryz.prog Tryz.f6 false true false false) := by
  refine returnsInHanded_of_change_and (C := Tryz.checked) (X := fun w _ => laidMetH Tryz.prog Rows.filterTidesRow.laid w) (fun _ _ _ hh h => h.of_heap hh) own started tides_w1 Tryz.func6
    (ChangeSpec.witness_shaped (enc := enc) (C := Tryz.checked) (os := os) (X := fun w _ => laidMetH Tryz.prog Rows.filterTidesRow.laid w) false (World.laidAll Tryz.prog os Rows.filterTidesRow.laid) #[.slice none 0 0, .int .i64 0] 8 (World.laidAll_os _ _ _)
      (sc_shaped os _) (tides_w2 os) (tides_w3 os H enc) (tides_w4 os H enc) (sc_laid os _)) ?_
  intro W base args ds gs before hval hW _ _ hL _
  have hL' : laidMetH Tryz.prog Rows.filterTidesRow.laid W := hL
  rw [MakeChecks.laidMetH_plain _ _ _ (by kernel_rfl)] at hL'
  obtain ⟨aw, hz⟩ := AW.globals hL' (fun x hx => hx) 11 (nm := "math/bits.deBruijn64tab") (d := Rows.laid_math_bits_deBruijn64tab) (by unfold Rows.filterTidesRow; simp) (by kernel_rfl)
  rw [tides_globs] at aw
  obtain ⟨p, q, hA, hV, _⟩ := id hW
  obtain ⟨rfl, _⟩ := trodVars_none hV
  have hA' : DataW.TrodAll enc Tryz.prog W 0 (fun _ => true) true (Tryz.f6).params.toList args.toList ds p := hA
  rw [Tryz.params6] at hA'
  obtain ⟨_, _, d1, d2, _, _, _, rfl, _⟩ := trodAll_two hA'
  refine row_true (n := 6) (ats := [.one (.sl [.int .i64, .int .i64]), .one (.int .i64)]) laidOut tides_par tides_res Tryz.underlying4 rfl rfl tides_ats hval hW aw hz ?_
  intro k vs e h
  obtain ⟨_, _, rfl, h1, h⟩ := tyas_cons h
  obtain ⟨_, _, rfl, h2, h⟩ := tyas_cons h
  obtain rfl := tyas_nil h
  obtain ⟨L, hL, _, _⟩ := tya_rats h1
  obtain ⟨x, rfl, _⟩ := tya_int h2
  exact r6 tbl (fun k' e' => awake_ok k' (e.trans e')) hL x

theorem tides_f1 : (Rows.filterTidesRow.inPlace == Tryz.prog.inPlace 6) = true := by kernel_rfl
theorem tides_f2 : (Rows.filterTidesRow.unfollowed == Tryz.prog.unfollowed 6) = true := by kernel_rfl
theorem tides_f3 : (Rows.filterTidesRow.recurses == Tryz.prog.recurses 6) = true := by kernel_rfl
theorem tides_f4 : (Rows.filterTidesRow.named == Tryz.prog.varsNamed 6) = true := by kernel_rfl
theorem tides_f5 : Tryz.prog.funcNamed "moveout/moveoutlaw05.FilterTides" = some 6 := by kernel_rfl
theorem tides_f6 : (Tryz.f6).isInstance Tryz.prog Rows.filterTidesRow.origin Rows.filterTidesRow.targs := of_decide_eq_true (by kernel_rfl)
theorem tides_f7 : (Tryz.f6).isWrapper Tryz.prog Rows.filterTidesRow.wrapper Rows.filterTidesRow.mainSum := by
  unfold Func.isWrapper; first | (rw [if_pos (by decide +kernel)]; kernel_rfl) | (rw [if_neg (by decide +kernel)]; exact ⟨rfl, rfl⟩)
theorem tides_f8 : ((Tryz.f6).params.all (Tryz.prog.readableRec ·)) = true := by kernel_rfl
theorem tides_closed : joinedFacts Tryz.prog 6 Tryz.f6 Rows.filterTidesSpec Rows.filterTidesRow = true := by
  unfold joinedFacts
  exact and2 (and2 (and2 (and2 (and2 (and2 (and2 (and2 (and2 (and2 (and2 (and2 (and2 (and2 (and2 (and2 (and2 (and2 (and2 (and2 (and2 (and2 (and2 (and2 (and2 (and2 (and2 (and2 (and2 (and2 (and2 (by kernel_rfl) laidOut) sc_maps) tides_f8) (by kernel_rfl)) (by kernel_rfl)) sc_stops) (by kernel_rfl)) sc_knobs) tides_f1) tides_f2) tides_f3) tides_f4)
    (by kernel_rfl)) (by kernel_rfl)) (by kernel_rfl)) (by kernel_rfl)) (by kernel_rfl)) (by kernel_rfl)) (by kernel_rfl)) (by kernel_rfl)) (by kernel_rfl)) sc_keys) (by kernel_rfl)) sc_heard) sc_enter) sc_lifts) sc_make) (by kernel_rfl)) (by kernel_rfl)) (by kernel_rfl)) (by kernel_rfl)

theorem tides_holds : Rows.FilterTidesSaid :=
  OpenClaim.holds_of_wide 6 Tryz.f6 rfl rfl rfl rfl rfl rfl rfl ⟨rfl, rfl, rfl, rfl, rfl⟩ rfl rfl rfl rfl rfl tides_f5 Tryz.func6 tides_closed
    tides_f6 tides_f7 (fun os started H enc _ => tides_lifted os started H enc)

theorem tides_stand : ((Tryz.f6).params.toList.all fun u => !Tryz.prog.wantsStandIn u) = true := by kernel_rfl
theorem tides_goes : false = Rows.filterTidesRow.goesBy Tryz.prog := by kernel_rfl
theorem tides_text : Rows.filterTidesRow.wfByText (OpenSpec.ofChange Rows.filterTidesSpec) = true := by kernel_rfl
theorem tides_card_holds : Rows.FilterTidesCardSaid :=
  Claim7.holds_tied_plain_at .later [] [.data, .data, .data, .data] true (true, "935bb61a7861a9fad800c7aac49f604bfc9e5b8f028eba8f042cb1ef6ca0aa73") true tides_holds (fun _ h => by cases h) tides_text (fun _ h => by cases h) filterTides_row_tie rfl ⟨rfl, rfl⟩ sc_main rfl
    (fun f fn hf hfn => by
      obtain rfl : f = 6 := Option.some.inj (tides_f5.symm.trans hf) |>.symm
      obtain rfl : fn = Tryz.f6 := (Option.some.inj ((Tryz.func6).symm.trans hfn)).symm
      exact ⟨sc_looks, fun j t ht => by
        have hm : t ∈ (Tryz.f6).params.toList := by simpa using Array.mem_of_getElem? ht
        exact (show Tryz.prog.wantsStandIn t = false by simpa using List.all_eq_true.1 tides_stand t hm)⟩)
    tides_goes
#print axioms tides_card_holds
end Go.Proofs.YtbgldbmgjcgepaaGreatDoor
