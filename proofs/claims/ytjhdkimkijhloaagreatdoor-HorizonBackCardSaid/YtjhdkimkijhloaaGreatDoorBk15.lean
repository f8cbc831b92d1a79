/- HorizonBack: whatever the arguments, the call returns true, and each argument reads afterwards as it read before (the package-level variables that the row lists hold what it says: the card ties that to the program's text). -/
import Derived.Test.YtjhdkimkijhloaaGreatDoorBk7
import Derived.Test.YtjhdkimkijhloaaGreatDoorBk14
import Derived.Test.YtjhdkimkijhloaaGreatDoorBk12
set_option linter.all false
namespace Go.Proofs.YtjhdkimkijhloaaGreatDoor
open Go.ChangeShapes Go.WideShapes Go.RowKit Go.Abs
theorem back_globs : globL Tryz.prog Rows.horizonPicksRow.laid 3 = glob0 := by kernel_rfl
theorem back_shaped (os : Os) (args : Array Value) : ((World.laidAll Tryz.prog os Rows.horizonBackRow.laid).forCall (fun _ _ => 0) ⟨#[], args, []⟩).Shaped Tryz.prog := World.shaped_of_ZipB (by kernel_rfl) (by kernel_rfl)
theorem back_laid (os : Os) (args : Array Value) : laidMetH Tryz.prog Rows.horizonBackRow.laid ((World.laidAll Tryz.prog os Rows.horizonBackRow.laid).forCall (fun _ _ => 0) ⟨#[], args, []⟩).memory := by
  rw [MakeChecks.laidMetH_plain _ _ _ (by kernel_rfl)]
  exact laidMet_laidAll _ (by kernel_rfl) (by kernel_rfl)
theorem back_w1 : Tryz.prog.inits.idxOf? 14 = none := by kernel_rfl
theorem back_w2 (os : Os) : Input.okWideB Tryz.prog ((World.laidAll Tryz.prog os Rows.horizonBackRow.laid).forCall (fun _ _ => 0) ⟨#[], #[.slice none 0 0, .string ⟨#[]⟩], []⟩) 14 ⟨#[], #[.slice none 0 0, .string ⟨#[]⟩], []⟩ = true := by kernel_rfl
theorem back_w3 (os : Os) (H : Type) (enc : TypeId × Value → H) : Rows.horizonBackSpec.preB enc Tryz.prog Tryz.f14 Rows.horizonBackRow.domain false ((World.laidAll Tryz.prog os Rows.horizonBackRow.laid).forCall (fun _ _ => 0) ⟨#[], #[.slice none 0 0, .string ⟨#[]⟩], []⟩).memory #[.slice none 0 0, .string ⟨#[]⟩] 8 = true := by kernel_rfl
theorem back_w4 (os : Os) (H : Type) (enc : TypeId × Value → H) : Rows.horizonBackSpec.sizedB enc Tryz.prog Tryz.f14 false ((World.laidAll Tryz.prog os Rows.horizonBackRow.laid).forCall (fun _ _ => 0) ⟨#[], #[.slice none 0 0, .string ⟨#[]⟩], []⟩).memory #[.slice none 0 0, .string ⟨#[]⟩] 8 = true := by kernel_rfl
theorem back_ats : atsOf Tryz.prog 6 (Tryz.f14).params.toList = some [.one (.sl ctHor), .one .str] := by kernel_rfl
theorem back_par : ∀ t ∈ (Tryz.f14).params.toList, Tryz.prog.readableRec t = true ∧ t < Tryz.prog.types.size := by decide +kernel
theorem back_res : (Tryz.f14).resultTypes = #[4] := by kernel_rfl
set_option maxRecDepth 100000 in
theorem back_lifted (os : Os) (started : os.Started) (H : Type) (enc : TypeId × Value → H) :
    ReturnsInHanded {} Tryz.checked os 14 .any (fun w args => (Rows.horizonBackSpec.pre enc Tryz.prog Tryz.f14 Rows.horizonBackRow.domain false w args ∧ laidMetH Tryz.prog Rows.horizonBackRow.laid w) ∧ sizedMet enc Tryz.prog Tryz.f14 (OpenSpec.ofChange Rows.horizonBackSpec) false w args)
      (Rows.horizonBackSpec.post enc Tryz.prog Tryz.f14 false true false false) := by
  refine returnsInHanded_of_change_and (C := Tryz.checked) (X := fun w _ => laidMetH Tryz.prog Rows.horizonBackRow.laid w) (fun _ _ _ hh h => h.of_heap hh) own started back_w1 Tryz.func14
    (ChangeSpec.witness_shaped (enc := enc) (C := Tryz.checked) (os := os) (X := fun w _ => laidMetH Tryz.prog Rows.horizonBackRow.laid w) false (World.laidAll Tryz.prog os Rows.horizonBackRow.laid) #[.slice none 0 0, .string ⟨#[]⟩] 8 (World.laidAll_os _ _ _)
      (back_shaped os _) (back_w2 os) (back_w3 os H enc) (back_w4 os H enc) (back_laid os _)) ?_
  intro W base args ds gs before hval hW _ _ hL _
  have hL' : laidMetH Tryz.prog Rows.horizonBackRow.laid W := hL
  rw [MakeChecks.laidMetH_plain _ _ _ (by kernel_rfl)] at hL'
  obtain ⟨aw, hz⟩ := AW.globals hL' (laid := Rows.horizonPicksRow.laid) (fun x hx => by unfold Rows.horizonPicksRow at hx; unfold Rows.horizonBackRow; simp only [List.mem_cons, List.mem_nil_iff, or_false] at hx ⊢; rcases hx with rfl | rfl | rfl | rfl <;> simp only [true_or, or_true]) 3 (nm := "math/bits.deBruijn64tab") (d := Rows.laid_math_bits_deBruijn64tab) (by unfold Rows.horizonPicksRow; simp) (by kernel_rfl)
  rw [back_globs] at aw
  obtain ⟨p, q, hA, hV, _⟩ := id hW
  obtain ⟨rfl, _⟩ := trodVars_none hV
  have hA' : DataW.TrodAll enc Tryz.prog W 0 (fun _ => true) true (Tryz.f14).params.toList args.toList ds p := hA
  rw [Tryz.params14] at hA'
  obtain ⟨_, _, d1, d2, _, _, _, rfl, _⟩ := trodAll_two hA'
  refine row_true (n := 6) (ats := [.one (.sl ctHor), .one .str]) laidOut back_par back_res Tryz.underlying4 rfl rfl back_ats hval hW aw hz ?_
  intro k vs e h
  obtain ⟨_, _, rfl, h1, h⟩ := tyas_cons h
  obtain ⟨_, _, rfl, h2, h⟩ := tyas_cons h
  obtain rfl := tyas_nil h
  obtain ⟨L, ol⟩ := tya_hors h1
  obtain ⟨s, rfl, _⟩ := tya_str h2
  exact r14 tbl xtn prt (fun k' e' => awake_ok k' (e.trans e')) ol (pw0 e) s
theorem back_f1 : (Rows.horizonBackRow.inPlace == Tryz.prog.inPlace 14) = true := by kernel_rfl
theorem back_f2 : (Rows.horizonBackRow.unfollowed == Tryz.prog.unfollowed 14) = true := by kernel_rfl
theorem back_f3 : (Rows.horizonBackRow.recurses == Tryz.prog.recurses 14) = true := by kernel_rfl
theorem back_f4 : (Rows.horizonBackRow.named == Tryz.prog.varsNamed 14) = true := by kernel_rfl
theorem back_f5 : Tryz.prog.funcNamed "moveout/moveoutlaw08.HorizonBack" = some 14 := by kernel_rfl
theorem back_f6 : (Tryz.f14).isInstance Tryz.prog Rows.horizonBackRow.origin Rows.horizonBackRow.targs := of_decide_eq_true (by kernel_rfl)
theorem back_f7 : (Tryz.f14).isWrapper Tryz.prog Rows.horizonBackRow.wrapper Rows.horizonBackRow.mainSum := by
  unfold Func.isWrapper; first | (rw [if_pos (by decide +kernel)]; kernel_rfl) | (rw [if_neg (by decide +kernel)]; exact ⟨rfl, rfl⟩)
theorem back_f8 : ((Tryz.f14).params.all (Tryz.prog.readableRec ·)) = true := by kernel_rfl
theorem back_closed : joinedFacts Tryz.prog 14 Tryz.f14 Rows.horizonBackSpec Rows.horizonBackRow = true := by
  unfold joinedFacts
  exact and2 (and2 (and2 (and2 (and2 (and2 (and2 (and2 (and2 (and2 (and2 (and2 (and2 (and2 (and2 (and2 (and2 (and2 (and2 (and2 (and2 (and2 (and2 (and2 (and2 (and2 (and2 (and2 (and2 (and2 (and2 (by kernel_rfl) laidOut) sc_maps) back_f8) (by kernel_rfl)) (by kernel_rfl)) sc_stops) (by kernel_rfl)) sc_knobs) back_f1) back_f2) back_f3) back_f4)
    (by kernel_rfl)) (by kernel_rfl)) (by kernel_rfl)) (by kernel_rfl)) (by kernel_rfl)) (by kernel_rfl)) (by kernel_rfl)) (by kernel_rfl)) (by kernel_rfl)) sc_keys) (by kernel_rfl)) sc_heard) sc_enter) sc_lifts) sc_make) (by kernel_rfl)) (by kernel_rfl)) (by kernel_rfl)) (by kernel_rfl)
theorem back_holds : Rows.HorizonBackSaid :=
  OpenClaim.holds_of_wide 14 Tryz.f14 rfl rfl rfl rfl rfl rfl rfl ⟨rfl, rfl, rfl, rfl, rfl⟩ rfl rfl rfl rfl rfl back_f5 Tryz.func14 back_closed
    back_f6 back_f7 (fun os started H enc _ => back_lifted os started H enc)
theorem back_stand : ((Tryz.f14).params.toList.all fun u => !Tryz.prog.wantsStandIn u) = true := by kernel_rfl
theorem back_goes : false = Rows.horizonBackRow.goesBy Tryz.prog := by kernel_rfl
theorem back_text : Rows.horizonBackRow.wfByText (OpenSpec.ofChange Rows.horizonBackSpec) = true := by kernel_rfl
theorem back_card_holds : Rows.HorizonBackCardSaid :=
  Claim7.holds_tied_plain_at .later [] [.data, .data, .data, .data, .data, .pinned] true (true, "ebcced09975124e4fdc27a793f740c15c9f79016bad178323bd89e6d8461bc8d") false back_holds (fun _ h => by cases h) back_text (fun _ h => by cases h) horizonBack_row_tie rfl ⟨rfl, rfl⟩ sc_main rfl
    (fun f fn hf hfn => by
      obtain rfl : f = 14 := Option.some.inj (back_f5.symm.trans hf) |>.symm
      obtain rfl : fn = Tryz.f14 := (Option.some.inj ((Tryz.func14).symm.trans hfn)).symm
      exact ⟨sc_looks, fun j t ht => by
        have hm : t ∈ (Tryz.f14).params.toList := by simpa using Array.mem_of_getElem? ht
        exact (show Tryz.prog.wantsStandIn t = false by simpa using List.all_eq_true.1 back_stand t hm)⟩)
    back_goes
#print axioms back_card_holds
end Go.Proofs.YtjhdkimkijhloaaGreatDoor
