/- The law of texts of taps and back. No condition. -/
import Derived.Test.YtbgldbmgjcgepaaGreatDoorGa13
set_option linter.all false
namespace Go.Abs

def xbC : ICode := match (fn16).body with
  | .seq _ (.seq _ c) => c
  | c => c
set_option maxRecDepth 10000
attribute [local irreducible] WP WC WE WB WR WF WL WG WRg WQ
section
variable {P : Program} (T : Tbl P) {h Y : AHeap} {ts : TS} {s : AV} {l : List Int} {x : List UInt8}
include T
set_option maxHeartbeats 4000000 in
theorem xb_C (X : Xtn P) (Z : Txf P) (tw : Txw Y) (hs : IsSl Y s 1 (l.map intRow)) (hz : chkTp l = 0) (hx : x.length ≤ 200) (hlen : ts.length = 81) (t0 : slot ts 0 = s) (t1 : slot ts 1 = .str x) (e0 : Ext h Y) :
    WC P inFn xbC [] ts Y (FQ [(4, none)] fun v k => Ext h k ∧ v = .bool true) := by
  unfold xbC fn16
  dsimp only
  have ok := chkTp_z hz
  have l2 := ok.l2
  have pl := parL_len x
  obtain ⟨bl, bt⟩ := back_len hz
  obtain ⟨bE, bL⟩ := back_par hz
  have d0 : decide ((0 : Int) ≠ 0) = false := rfl
  refine Rs (A2 @t0 @t1) ?_
  refine WF.res T.c21 (r21 T hs (by omega)) ?_
  intro sl g1 isl
  have pr := r98 T Z (tw.ext (show Ext Y (Y ++ g1) from Xx)) isl (by omega)
  rw [if_pos hz, hz] at pr
  refine Rs (A2 @t0 @t1) ?_
  refine WF.ce T.c98 pr fun g2 => ?_
  refine Rs (A2 @t0 @t1) ?_
  refine WF.res T.c99 (r99 T X Z (tw.ext Xx) (txS l) (by omega)) ?_
  rintro _ g3 ⟨t7, e8, rfl, h7⟩
  rw [bE, bL] at h7
  unfold ListS at h7
  rw [if_neg (fun z => z rfl)] at h7
  obtain ⟨i7, rfl⟩ := h7
  have o7 := i7.one
  refine Rs (A4 @t0 @t1 @o7 @d0) ?_
  refine WF.ce T.c102 (r102 T i7 (hs.ext Xx) (by omega)) fun g4 => ?_
  refine Rs (A5 @t0 @t1 @o7 @decide_true @Bool.not_true) ?_
  refine WF.res T.c103 (r103 T (txS l) 32 (by omega)) ?_
  intro sv g5 fsv
  have ov := fsv.isSl.one
  have ln := fun G => fsv.isSl.lenm G
  have ls := fun G => hs.lenm G
  have d1 : decide ((((splitB 32 (txS l)).length : Nat) : Int) ≠ (l.length : Int)) = false := decide_eq_false fun z => z (by rw [bl])
  repeat (first | simp (config := { maxSteps := 1000000 }) only [wset, hset, dset, bset, Nat.reduceAdd, Nat.reduceMul, Nat.reduceLeDiff, Nat.reduceEqDiff, pset, hlen, if_false, if_true, t0, t1, o7, ov, ln, ls, d1] | simp (config := { maxSteps := 1000000 }) (disch := first | (simp only [List.length_append, List.length_cons, List.length_nil] <;> omega) | rfl | omega | fail) only [kset, wset, hset, dset, bset, Nat.reduceAdd, Nat.reduceMul, Nat.reduceLeDiff, Nat.reduceEqDiff, pset, hlen, if_false, if_true, t0, t1, o7, ov, ln, ls, d1])
  refine WF.res T.c99 (r99 T X Z (tw.ext Xx) x (by omega)) ?_
  rintro _ g6 ⟨t9, e10, rfl, h9⟩
  have o9 := list_one h9
  by_cases hp : parE x = 0
  case neg =>
    unfold ListS at h9
    rw [if_pos hp] at h9
    obtain ⟨rfl, rfl⟩ := h9
    have d2 : decide (parE x = 0) = false := decide_eq_false hp
    refine Rs (A3 @t0 @t1 @d2) ?_
    exact ⟨e0.trans Xx, trivial⟩
  obtain ⟨p1, p2⟩ := par_zero hp
  have bx : txS (parL x) = x := back_tx p1
  unfold ListS at h9
  rw [if_neg (fun z => z hp)] at h9
  obtain ⟨i9, rfl⟩ := h9
  have eL : Ext Y (Y ++ g1 ++ g2 ++ g3 ++ g4 ++ g5 ++ g6) := Xx
  have pr := r98 T Z (tw.ext eL) i9 (by omega)
  rw [if_pos p2, p2, bx] at pr
  refine Rs (A4 @t0 @t1 @o9 @decide_true) ?_
  refine WF.ce T.c98 pr fun g7 => ?_
  refine Rs (A3 @t0 @t1 @decide_true) ?_
  exact ⟨e0.trans Xx, trivial⟩
set_option maxHeartbeats 4000000 in
theorem r16 (X : Xtn P) (Z : Txf P) (tw : Txw h) (hw : ∀ k, Ext h k → RCall P 17 [] k (fun v _ => v = .bool true)) (hs : IsSl h s 1 (l.map intRow)) (x : List UInt8) : RCall P 16 [s, .str x] h (fun v _ => v = .bool true) := by
  refine .st2 81 T.mix T.c16 ?_;intro ts hlen t0 t1;unfold fn16
  show WC P inFn (.seq _ (.seq _ xbC)) _ _ _ _
  refine Rs (A2 @t0 @t1) ?_
  refine WF.ce T.c17 (hw _ Xx) fun g1 => ?_
  refine Rs (A3 @t0 @t1 @Bool.not_true) ?_
  refine WF.ce T.c18 (r18 T (hs.ext Xx)) fun g2 => ?_
  have e2 : Ext h (h ++ g1 ++ g2) := Xx
  by_cases hl : (l.length : Int) ≤ 9
  case neg =>
    have d1 : decide ((l.length : Int) ≤ 9) = false := decide_eq_false hl
    refine Rs (A4 @t0 @t1 @d1 @Bool.not_false) ?_
    refine WF.ce T.c17 (hw _ e2) fun g3 => ?_
    exact Rs (A2 @t0 @t1) trivial
    all_goals exact ⟨e2.trans Xx, trivial⟩
  have d1 : decide ((l.length : Int) ≤ 9) = true := decide_eq_true hl
  refine Rs (A4 @t0 @t1 @d1 @Bool.not_true) ?_
  refine WF.ce T.c26 (r26 T (hs.ext e2) (by omega)) fun g3 => ?_
  have e3 : Ext h (h ++ g1 ++ g2 ++ g3) := Xx
  by_cases hz : chkTp l = 0
  case neg =>
    have d2 : decide (chkTp l ≠ 0) = true := decide_eq_true hz
    refine Rs (A3 @t0 @t1 @d2) ?_
    refine WF.ce T.c17 (hw _ e3) fun g4 => ?_
    exact Rs (A2 @t0 @t1) trivial
    all_goals exact ⟨e3.trans Xx, trivial⟩
  have d2 : decide (chkTp l ≠ 0) = false := decide_eq_false fun z => z hz
  by_cases h2 : 200 < x.length
  · have d3 : decide ((200 : Int) < ((x.length : Nat) : Int)) = true := decide_eq_true (by omega)
    refine Rs (A4 @t0 @t1 @d2 @d3) ?_
    refine WF.ce T.c17 (hw _ e3) fun g4 => ?_
    exact Rs (A2 @t0 @t1) trivial
    all_goals exact ⟨e3.trans Xx, trivial⟩
  · have d3 : decide ((200 : Int) < ((x.length : Nat) : Int)) = false := decide_eq_false (by omega)
    refine Rs (A4 @t0 @t1 @d2 @d3) ?_
    exact xb_C T (x := x) (s := s) (l := l) X Z (tw.ext e3) (hs.ext e3) hz (by omega) Sn (Sq @t0) (Sq @t1) e3
end
end Go.Abs
