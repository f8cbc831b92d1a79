/- FilterHoles: whatever the arguments, the call returns true, and each argument reads afterwards as it read before (the package-level variables that the row lists hold what it says: the card ties that to the program's text). -/
import Derived.Test.YtbgldbmgjcgepaaGreatDoorFz10
import Derived.Test.YtbgldbmgjcgepaaGreatDoorFz7
import Derived.Test.YtbgldbmgjcgepaaGreatDoorFz13
import Derived.Test.YtbgldbmgjcgepaaGreatDoorFz14
set_option linter.all false
namespace Go.Proofs.YtbgldbmgjcgepaaGreatDoor
open Go.ChangeShapes Go.WideShapes Go.RowKit Go.Abs
theorem holes_globs : globL Tryz.prog Rows.filterHolesRow.laid 11 = globS := by kernel_rfl
theorem holes_w1 : Tryz.prog.inits.idxOf? 14 = none := by kernel_rfl
theorem holes_w2 (os : Os) : Input.okWideB Tryz.prog ((World.laidAll Tryz.prog os Rows.filterHolesRow.laid).forCall (fun _ _ => 0) ⟨#[], #[.agg #[.string ⟨#[]⟩, .slice none 0 0], .slice none 0 0, .agg #[.int .i16 0, .int .i16 0, .int .i16 0]], []⟩) 14 ⟨#[], #[.agg #[.string ⟨#[]⟩, .slice none 0 0], .slice none 0 0, .agg #[.int .i16 0, .int .i16 0, .int .i16 0]], []⟩ = true := by kernel_rfl
theorem holes_w3 (os : Os) (H : Type) (enc : TypeId × Value → H) : Rows.filterHolesSpec.preB enc Tryz.prog Tryz.f14 Rows.filterHolesRow.domain false ((World.laidAll Tryz.prog os Rows.filterHolesRow.laid).forCall (fun _ _ => 0) ⟨#[], #[.agg #[.string ⟨#[]⟩, .slice none 0 0], .slice none 0 0, .agg #[.int .i16 0, .int .i16 0, .int .i16 0]], []⟩).memory #[.agg #[.string ⟨#[]⟩, .slice none 0 0], .slice none 0 0, .agg #[.int .i16 0, .int .i16 0, .int .i16 0]] 8 = true := by kernel_rfl
theorem holes_w4 (os : Os) (H : Type) (enc : TypeId × Value → H) : Rows.filterHolesSpec.sizedB enc Tryz.prog Tryz.f14 false ((World.laidAll Tryz.prog os Rows.filterHolesRow.laid).forCall (fun _ _ => 0) ⟨#[], #[.agg #[.string ⟨#[]⟩, .slice none 0 0], .slice none 0 0, .agg #[.int .i16 0, .int .i16 0, .int .i16 0]], []⟩).memory #[.agg #[.string ⟨#[]⟩, .slice none 0 0], .slice none 0 0, .agg #[.int .i16 0, .int .i16 0, .int .i16 0]] 8 = true := by kernel_rfl
theorem holes_ats : atsOf Tryz.prog 6 (Tryz.f14).params.toList = some [.agg [.str, .sl ctTr], .one (.sl [.int .i64]), .agg (List.replicate 3 (.int .i16))] := by kernel_rfl
theorem holes_par : ∀ t ∈ (Tryz.f14).params.toList, Tryz.prog.readableRec t = true ∧ t < Tryz.prog.types.size := by decide +kernel
theorem holes_res : (Tryz.f14).resultTypes = #[4] := by kernel_rfl
set_option maxRecDepth 100000 in
theorem holes_lifted (os : Os) (started : os.Started) (H : Type) (enc : TypeId × Value → H) :
    ReturnsInHanded {} Tryz.checked os 14 .any (fun w args => (Rows.filterHolesSpec.pre enc Tryz.prog Tryz.f14 Rows.filterHolesRow.domain false w args ∧ laidMetH Tryz.prog Rows.filterHolesRow.laid w) ∧ sizedMet enc Tryz.prog Tryz.f14 (OpenSpec.ofChange Rows.filterHolesSpec) false w args)
      (Rows.filterHolesSpec.post enc Tryz.prog Tryz.f14 false true false false) := by
  refine returnsInHanded_of_change_and (C := Tryz.checked) (X := fun w _ => laidMetH Tryz.prog Rows.filterHolesRow.laid w) (fun _ _ _ hh h => h.of_heap hh) own started holes_w1 Tryz.func14
    (ChangeSpec.witness_shaped (enc := enc) (C := Tryz.checked) (os := os) (X := fun w _ => laidMetH Tryz.prog Rows.filterHolesRow.laid w) false (World.laidAll Tryz.prog os Rows.filterHolesRow.laid) #[.agg #[.string ⟨#[]⟩, .slice none 0 0], .slice none 0 0, .agg #[.int .i16 0, .int .i16 0, .int .i16 0]] 8 (World.laidAll_os _ _ _)
      (scS_shaped os _) (holes_w2 os) (holes_w3 os H enc) (holes_w4 os H enc) (scS_laid os _)) ?_
  intro W base args ds gs before hval hW _ _ hL _
  have hL' : laidMetH Tryz.prog Rows.filterHolesRow.laid W := hL
  rw [MakeChecks.laidMetH_plain _ _ _ (by kernel_rfl)] at hL'
  obtain ⟨aw, hz⟩ := AW.globals hL' (fun x hx => hx) 11 (nm := "math/bits.deBruijn64tab") (d := Rows.laid_math_bits_deBruijn64tab) (by unfold Rows.filterHolesRow; simp) (by kernel_rfl)
  rw [holes_globs] at aw
  obtain ⟨p, q, hA, hV, _⟩ := id hW
  obtain ⟨rfl, _⟩ := trodVars_none hV
  have hA' : DataW.TrodAll enc Tryz.prog W 0 (fun _ => true) true (Tryz.f14).params.toList args.toList ds p := hA
  rw [Tryz.params14] at hA'
  obtain ⟨_, _, _, d1, d2, d3, _, _, _, _, rfl, _⟩ := trodAll_three hA'
  refine row_true (n := 6) (ats := [.agg [.str, .sl ctTr], .one (.sl [.int .i64]), .agg (List.replicate 3 (.int .i16))]) laidOut holes_par holes_res Tryz.underlying4 rfl rfl holes_ats hval hW aw hz ?_
  intro k vs e h
  obtain ⟨_, _, rfl, h1, h⟩ := tyas_cons h
  obtain ⟨_, _, rfl, h2, h⟩ := tyas_cons h
  obtain ⟨_, _, rfl, h3, h⟩ := tyas_cons h
  obtain rfl := tyas_nil h
  obtain ⟨nm, s, L, rfl, os, hL⟩ := tya_shot h1
  obtain ⟨t, h2, _, _⟩ := tya_ints h2
  obtain ⟨nn, rfl, hn3, hnb⟩ := tya_arr h3
  obtain ⟨n0, n1, n2, rfl⟩ := len3 hn3
  exact r14 tbl xfl srt (e.some rfl) (fun k' e' => awake_ag (globS_ag (e.trans e'))) (t := t) os hL h2 (i16_bd (hnb n0 (by simp))) (i16_bd (hnb n1 (by simp))) (i16_bd (hnb n2 (by simp)))
theorem holes_f1 : (Rows.filterHolesRow.inPlace == Tryz.prog.inPlace 14) = true := by kernel_rfl
theorem holes_f2 : (Rows.filterHolesRow.unfollowed == Tryz.prog.unfollowed 14) = true := by kernel_rfl
theorem holes_f3 : (Rows.filterHolesRow.recurses == Tryz.prog.recurses 14) = true := by kernel_rfl
theorem holes_f4 : (Rows.filterHolesRow.named == Tryz.prog.varsNamed 14) = true := by kernel_rfl
theorem holes_f5 : Tryz.prog.funcNamed "moveout/moveoutlaw05.FilterHoles" = some 14 := by kernel_rfl
theorem holes_f6 : (Tryz.f14).isInstance Tryz.prog Rows.filterHolesRow.origin Rows.filterHolesRow.targs := of_decide_eq_true (by kernel_rfl)
theorem holes_f7 : (Tryz.f14).isWrapper Tryz.prog Rows.filterHolesRow.wrapper Rows.filterHolesRow.mainSum := by
  unfold Func.isWrapper; first | (rw [if_pos (by decide +kernel)]; kernel_rfl) | (rw [if_neg (by decide +kernel)]; exact ⟨rfl, rfl⟩)
theorem holes_f8 : ((Tryz.f14).params.all (Tryz.prog.readableRec ·)) = true := by kernel_rfl
theorem holes_closed : joinedFacts Tryz.prog 14 Tryz.f14 Rows.filterHolesSpec Rows.filterHolesRow = true := by
  unfold joinedFacts
  exact and2 (and2 (and2 (and2 (and2 (and2 (and2 (and2 (and2 (and2 (and2 (and2 (and2 (and2 (and2 (and2 (and2 (and2 (and2 (and2 (and2 (and2 (and2 (and2 (and2 (and2 (and2 (and2 (and2 (and2 (and2 (by kernel_rfl) laidOut) sc_maps) holes_f8) (by kernel_rfl)) (by kernel_rfl)) sc_stops) (by kernel_rfl)) sc_knobs) holes_f1) holes_f2) holes_f3) holes_f4)
    (by kernel_rfl)) (by kernel_rfl)) (by kernel_rfl)) (by kernel_rfl)) (by kernel_rfl)) (by kernel_rfl)) (by kernel_rfl)) (by kernel_rfl)) (by kernel_rfl)) sc_keys) (by kernel_rfl)) sc_heard) sc_enter) sc_lifts) sc_make) (by kernel_rfl)) (by kernel_rfl)) (by kernel_rfl)) (by kernel_rfl)
theorem holes_holds : Rows.FilterHolesSaid :=
  OpenClaim.holds_of_wide 14 Tryz.f14 rfl rfl rfl rfl rfl rfl rfl ⟨rfl, rfl, rfl, rfl, rfl⟩ rfl rfl rfl rfl rfl holes_f5 Tryz.func14 holes_closed
    holes_f6 holes_f7 (fun os started H enc _ => holes_lifted os started H enc)
theorem holes_stand : ((Tryz.f14).params.toList.all fun u => !Tryz.prog.wantsStandIn u) = true := by kernel_rfl
theorem holes_goes : false = Rows.filterHolesRow.goesBy Tryz.prog := by kernel_rfl
theorem holes_text : Rows.filterHolesRow.wfByText (OpenSpec.ofChange Rows.filterHolesSpec) = true := by kernel_rfl
theorem holes_card_holds : Rows.FilterHolesCardSaid :=
  Claim7.holds_tied_plain_at .later [] [.data, .data, .data, .data, .data] true (true, "935bb61a7861a9fad800c7aac49f604bfc9e5b8f028eba8f042cb1ef6ca0aa73") true holes_holds (fun _ h => by cases h) holes_text (fun _ h => by cases h) filterHoles_row_tie rfl ⟨rfl, rfl⟩ sc_main rfl
    (fun f fn hf hfn => by
      obtain rfl : f = 14 := Option.some.inj (holes_f5.symm.trans hf) |>.symm
      obtain rfl : fn = Tryz.f14 := (Option.some.inj ((Tryz.func14).symm.trans hfn)).symm
      exact ⟨sc_looks, fun j t ht => by
        have hm : t ∈ (Tryz.f14).params.toList := by simpa using Array.mem_of_getElem? ht
        exact (show Tryz.prog.wantsStandIn t = false by simpa using List.all_eq_true.1 holes_stand t hm)⟩)
    holes_goes
#print axioms holes_card_holds
end Go.Proofs.YtbgldbmgjcgepaaGreatDoor
