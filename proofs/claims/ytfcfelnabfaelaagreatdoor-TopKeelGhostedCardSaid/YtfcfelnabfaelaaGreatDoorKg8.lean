/- Contracts: a shot checked, short shots, shots that are alike: the reference. No condition. · Contracts: fitting lists checked; their sums by the reference. No condition. · Contracts: the sums of a fitting list by the program. No condition. · Contracts: predictions by the program. No condition. · Contracts: predictions checked, and the least error, by the program. No condition. · Contracts: predictions by the reference. No condition. · Samples added; lists made cell by cell; copies of one's own. No condition. · Contracts: shots copied from one form into the other: lists of traces that grow in a box. No condition. · Contracts: shots copied from one form into the other, and owned. No condition. · Contracts: each trace of a shot changed: taps, tides. No condition. · Contracts: a shot changed trace by trace, the program and the reference. No condition. · Contracts: a shot changed trace by trace: the reference. No condition. · Contracts: a shot delayed. No condition. · Contracts: a shot delayed, whole. No condition. · Plain: a shot less itself, delayed. No condition. · Contracts: shots copied from one form into the other. No condition. · Contracts: short shots exactly, calm shots. No condition. · Contracts: a shot times -1: the small functions. No condition. · Contracts: a shot times -1. No condition. · Contracts: the energy of a list. No condition. · Contracts: the sum of two shots: the small functions. No condition. · Contracts: the sum of two shots. No condition. · The law of the ghosted shot: its cuts, what its stages know. No condition. · The law of the ghosted shot: the taps. No condition. · The law of the ghosted shot: the loop over its traces. No condition. -/
import Derived.Test.YtfcfelnabfaelaaGreatDoorKg7
import Derived.Test.YtfcfelnabfaelaaGreatDoorKg5
set_option linter.all false
namespace Go.Abs

theorem widN_cons (t : Trc) (r : List Trc) : widN (t :: r) = if t.hole then widN r else t.sm.length := by
  unfold widN
  rw [List.find?_cons]
  cases t.hole <;> rfl
/-- What short shots have. -/
structure ShtP (nm : List UInt8) (L : List (Trc × AV)) : Prop where
  n : nm.length ≤ 60
  l : L.length ≤ 65
  s : ∀ x ∈ L, x.1.sm.length ≤ 1025
theorem ShtP.sz {nm : List UInt8} {L : List (Trc × AV)} (p : ShtP nm L) : ShSz L := ⟨by have := p.l; omega, fun x hx => by have := p.s x hx; omega⟩
theorem hd_same {f : Nat → Int} : eqvK (.agg [.i, .i, .i, .i, .i, .i, .i, .i]) (.agg (hdR f)) (.agg (hdR f)) = some true := by
  rw [eqA rfl rfl]
  simp [hdR, eqCells, eqQ, eqCell]
/-- Lists of traces that are alike. -/
structure ShEq (A B : List (Trc × AV)) : Prop where
  l : A.length = B.length
  t : ∀ (i : Nat) (h1 : i < A.length) (h2 : i < B.length), TrEq A[i].1 B[i].1
set_option maxRecDepth 10000
attribute [local irreducible] WP WC WE WB WR WF WL WG WRg WQ
section
variable {P : Program} (T : Tbl P) {h : AHeap}
include T
set_option maxHeartbeats 4000000 in
theorem r70 {nm : List UInt8} {s : AV} {L : List (Trc × AV)} (o : ShOk h L s) (z : ShSz L) : RCall P 70 [.agg [.str nm, s]] h (fun v _ => ∃ q : Bool, v = .tup [.int .i64 (widN (L.map Prod.fst) : Nat), .bool q]) := by
  refine .st1 26 T.mix T.c70 ?_;intro ts hlen t0;unfold fn70
  have bx := @sh_box nm s o.sl.one
  have ls : ldV (shC nm s)[1]? = some (s, .keep) := rfl
  have zl := z.l
  refine Rs (A2 @t0 @bx) ?_
  obtain ⟨Y, hY⟩ : ∃ Y, Y = h ++ [ABlk.cells (shC nm s) true false] := ⟨_, rfl⟩
  have eY : Ext h Y := by rw [hY]; exact Xx
  have m1 : Y[h.length]? = some (.cells (shC nm s) true false) := by rw [hY]; exact at_new
  obtain ⟨b1, hb1⟩ : ∃ b, b = h.length := ⟨_, rfl⟩
  rw [← hb1] at m1
  rw [← hb1, ← hY]
  clear hb1 hY
  have l1 := @ldx _ _ _ m1
  have oY := o.ext eY
  refine WL.inv T.mix (fun n ts K => ∃ k : Nat, k ≤ L.length ∧ n = L.length - k ∧ K = Y ∧ widN (L.map Prod.fst) = widN ((L.drop k).map Prod.fst) ∧ ts.length = 26 ∧ slot ts 1 = .ptr b1 0 ∧ slot ts 4 = .int .i64 k) L.length
    ⟨0, by omega, rfl, rfl, rfl, Sn, Sw, Swr⟩ ?_
  clear hlen t0
  rintro _ ts K ⟨k, hk, rfl, rfl, hw, hlen, t1, t4⟩
  have hlm := fun G => oY.sl.lenm G
  by_cases hlt : k < L.length
  case neg =>
    have e3 := dltF hlt
    have e4 : k = L.length := by omega
    rw [e4, List.drop_length] at hw
    refine Rs (A6 @t1 @t4 @l1 @ls @hlm @e3) ?_
    exact ⟨eY, _, by rw [hw]; rfl⟩
  have e3 := dltT hlt
  have e5 := wrapN (n := k) (by omega)
  have ix := oY.sl.ixm (kk := .i64) hlt
  obtain ⟨x, hx⟩ : ∃ x, x = L[k] := ⟨_, rfl⟩
  have hmem : x ∈ L := by rw [hx]; exact List.getElem_mem _
  have lh : ∀ {kk : AHeap}, Ext K kk → loadF none (elf s 10 k 8) (fun b => kk[b]?) = some (.bool x.1.hole, .keep) := fun {kk} e => by rw [hx]; exact oY.sl.lfm hlt rfl e
  have l9 : ∀ {kk : AHeap}, Ext K kk → loadF none (elf s 10 k 9) (fun b => kk[b]?) = some (x.2, .keep) := fun {kk} e => by rw [hx]; exact oY.sl.lfm hlt rfl e
  have lx := fun G => (oY.all x hmem).lenm G
  have hc : widN ((L.drop k).map Prod.fst) = if x.1.hole then widN ((L.drop (k + 1)).map Prod.fst) else x.1.sm.length := by
    rw [List.drop_eq_getElem_cons hlt, List.map_cons, ← hx, widN_cons]
  cases hb : x.1.hole with
  | true =>
    rw [hb, if_pos rfl] at hc
    refine Rs (A11 @t1 @t4 @l1 @ls @hlm @e3 @ix @lh @hb @Bool.not_true @e5) ?_
    exact ⟨L.length - (k + 1), by omega, k + 1, by omega, rfl, hw.trans hc, rfl⟩
  | false =>
    rw [hb, if_neg (by decide)] at hc
    refine Rs (A12 @t1 @t4 @l1 @ls @hlm @e3 @ix @lh @l9 @lx @hb @Bool.not_false) ?_
    exact ⟨eY, _, by rw [hw, hc]⟩
set_option maxHeartbeats 8000000 in
theorem r21 (X : Xfl P) {nm : List UInt8} (hn : nm.length < 2 ^ 40) {s : AV} {L : List (Trc × AV)} (o : ShOk h L s) (z : ShSz L) : RCall P 21 [.agg [.str nm, s]] h (fun v _ => v = .int .i64 (chkSh nm (L.map Prod.fst))) := by
  refine .st1 66 T.mix T.c21 ?_;intro ts hlen t0;unfold fn21
  have bx := @sh_box nm s o.sl.one
  have l2 := @sh_l2 nm s
  have ln : ldV (shC nm s)[0]? = some (.str nm, .keep) := rfl
  have ls : ldV (shC nm s)[1]? = some (s, .keep) := rfl
  have zl := z.l
  have hlm := fun G => o.sl.lenm G
  refine Rs (A2 @t0 @bx) ?_
  obtain ⟨Y, hY⟩ : ∃ Y, Y = h ++ [ABlk.cells (shC nm s) true false] := ⟨_, rfl⟩
  have eY : Ext h Y := by rw [hY]; exact Xx
  have m1 : Y[h.length]? = some (.cells (shC nm s) true false) := by rw [hY]; exact at_new
  obtain ⟨b1, hb1⟩ : ∃ b, b = h.length := ⟨_, rfl⟩
  rw [← hb1] at m1
  rw [← hb1, ← hY]
  clear hb1 hY
  have l1 := @ldx _ _ _ m1
  have dz : decide ((L.length : Int) = 0) = decide (L.length = 0) := decide_eq_decide.2 (by omega)
  have dg : decide ((64 : Int) < (L.length : Int)) = decide (64 < L.length) := decide_eq_decide.2 (by omega)
  have hc : chkSh nm (L.map Prod.fst) = firstS [whenS (!nameS nm) 8, whenS (decide (L.length = 0)) 12, whenS (decide (64 < L.length)) 5, firstS (L.map fun x => chkTr x.1), whenS ((L.map Prod.fst).any fun t => !t.hole && decide (t.sm.length ≠ widN (L.map Prod.fst))) 2] := by
    unfold chkSh
    rw [List.length_map, List.map_map]
    rfl
  repeat (first | simp (config := { maxSteps := 1000000 }) only [wset, hset, dset, bset, Nat.reduceAdd, Nat.reduceMul, Nat.reduceLeDiff, Nat.reduceEqDiff, pset, hlen, if_false, if_true, t0, l1, ln] | simp (config := { maxSteps := 1000000 }) (disch := first | (simp only [List.length_append, List.length_cons, List.length_nil] <;> omega) | rfl | omega | fail) only [kset, wset, hset, dset, bset, Nat.reduceAdd, Nat.reduceMul, Nat.reduceLeDiff, Nat.reduceEqDiff, pset, hlen, if_false, if_true, t0, l1, ln])
  refine WF.ce T.c68 (r68 T nm (by omega)) fun g1 => ?_
  have f1 : Ext Y (Y ++ g1) := Xx
  cases hnm : nameS nm with
  | false =>
    refine Rs (A2 @t0 @Bool.not_false) ?_
    exact ⟨eY.trans f1, by rw [hc, hnm]; rfl⟩
  | true =>
  rw [hnm] at hc
  by_cases h0 : L.length = 0
  · have d0 : decide (L.length = 0) = true := decide_eq_true h0
    rw [d0] at hc
    refine Rs (A7 @t0 @Bool.not_true @l1 @ls @hlm @dz @d0) ?_
    exact ⟨eY.trans f1, by rw [hc]; rfl⟩
  have d0 : decide (L.length = 0) = false := decide_eq_false h0
  rw [d0] at hc
  by_cases h64 : 64 < L.length
  · have d64 : decide (64 < L.length) = true := decide_eq_true h64
    rw [d64] at hc
    refine Rs (A9 @t0 @Bool.not_true @l1 @ls @hlm @dz @d0 @dg @d64) ?_
    exact ⟨eY.trans f1, by rw [hc]; rfl⟩
  have d64 : decide (64 < L.length) = false := decide_eq_false h64
  rw [d64] at hc
  have hc : chkSh nm (L.map Prod.fst) = firstS [firstS (L.map fun x => chkTr x.1), whenS ((L.map Prod.fst).any fun t => !t.hole && decide (t.sm.length ≠ widN (L.map Prod.fst))) 2] := hc
  refine Rs (A9 @t0 @Bool.not_true @l1 @ls @hlm @dz @d0 @dg @d64) ?_
  refine WL.inv T.mix (fun n ts K => ∃ k : Nat, k ≤ L.length ∧ n = L.length - k ∧ Ext Y K ∧ firstS (L.map fun x => chkTr x.1) = firstS ((L.drop k).map fun x => chkTr x.1) ∧ ts.length = 66 ∧ slot ts 1 = .ptr b1 0 ∧ slot ts 3 = .int .i64 k) L.length
    ⟨0, by omega, rfl, f1, rfl, Sn, Sw, Swr⟩ ?_
  clear hlen t0 f1
  rintro _ ts K ⟨k, hk, rfl, eK, hw, hlen, t1, t3⟩
  have oK := o.ext (eY.trans eK)
  have l1 := @ldx _ _ _ (eK.some m1)
  by_cases hlt : k < L.length
  case neg =>
    have e3 := dltF hlt
    have e4 : k = L.length := by omega
    rw [e4, List.drop_length] at hw
    rw [hw] at hc
    have hc : chkSh nm (L.map Prod.fst) = firstS [whenS ((L.map Prod.fst).any fun t => !t.hole && decide (t.sm.length ≠ widN (L.map Prod.fst))) 2] := hc
    refine Rs (A7 @t1 @t3 @l1 @l2 @ls @hlm @e3) ?_
    refine WF.res T.c70 (r70 T oK z) ?_
    rintro _ g2 ⟨q, rfl⟩
    obtain ⟨w, hw⟩ : ∃ w, w = widN (L.map Prod.fst) := ⟨_, rfl⟩
    rw [← hw] at hc ⊢
    obtain ⟨bad, hbad⟩ : ∃ bad : Trc → Bool, bad = fun t => !t.hole && decide (t.sm.length ≠ w) := ⟨_, rfl⟩
    rw [← hbad] at hc
    obtain ⟨W, hW⟩ : ∃ W, W = K ++ g2 := ⟨_, rfl⟩
    have eW : Ext K W := by rw [hW]; exact Xx
    rw [← hW]
    clear hW
    have oW := oK.ext eW
    have l1 := @ldx _ _ _ ((eK.trans eW).some m1)
    refine Rs (A2 @t1 @t3) ?_
    refine WL.inv T.mix (fun n ts H => ∃ k : Nat, k ≤ L.length ∧ n = L.length - k ∧ H = W ∧ (L.map Prod.fst).any bad = ((L.drop k).map Prod.fst).any bad ∧ ts.length = 66 ∧ slot ts 1 = .ptr b1 0 ∧ slot ts 5 = .int .i64 w ∧ slot ts 7 = .int .i64 k) L.length
      ⟨0, by omega, rfl, rfl, rfl, Sn, (Sq @t1), Sw, Swr⟩ ?_
    clear hlen t1 t3
    rintro _ ts H ⟨k, hk, rfl, rfl, ha, hlen, t1, t5, t7⟩
    by_cases hlt : k < L.length
    case neg =>
      have e3 := dltF hlt
      have e4 : k = L.length := by omega
      rw [e4, List.drop_length] at ha
      refine Rs (A7 @t1 @t5 @t7 @l1 @ls @hlm @e3) ?_
      exact ⟨eY.trans (eK.trans eW), by rw [hc, ha]; rfl⟩
    have e3 := dltT hlt
    have e5 := wrapN (n := k) (by omega)
    have ix := oW.sl.ixm (kk := .i64) hlt
    obtain ⟨x, hx⟩ : ∃ x, x = L[k] := ⟨_, rfl⟩
    have hmem : x ∈ L := by rw [hx]; exact List.getElem_mem _
    have lh : ∀ {kk : AHeap}, Ext H kk → loadF none (elf s 10 k 8) (fun b => kk[b]?) = some (.bool x.1.hole, .keep) := fun {kk} e => by rw [hx]; exact oW.sl.lfm hlt rfl e
    have l9 : ∀ {kk : AHeap}, Ext H kk → loadF none (elf s 10 k 9) (fun b => kk[b]?) = some (x.2, .keep) := fun {kk} e => by rw [hx]; exact oW.sl.lfm hlt rfl e
    have lx := fun G => (oW.all x hmem).lenm G
    have hcc : ((L.drop k).map Prod.fst).any bad = (bad x.1 || ((L.drop (k + 1)).map Prod.fst).any bad) := by
      rw [List.drop_eq_getElem_cons hlt, List.map_cons, ← hx, List.any_cons]
    have hbx : bad x.1 = (!x.1.hole && decide (x.1.sm.length ≠ w)) := by rw [hbad]
    cases hb : x.1.hole with
    | true =>
      rw [hb, Bool.not_true, Bool.false_and] at hbx
      rw [hbx, Bool.false_or] at hcc
      refine Rs (A12 @t1 @t5 @t7 @l1 @ls @hlm @e3 @ix @lh @hb @Bool.not_true @e5) ?_
      exact ⟨L.length - (k + 1), by omega, k + 1, by omega, rfl, ha.trans hcc, rfl⟩
    | false =>
      rw [hb, Bool.not_false, Bool.true_and] at hbx
      by_cases hne : x.1.sm.length ≠ w
      · have d3 : decide ((x.1.sm.length : Int) ≠ (w : Int)) = true := decide_eq_true (by omega)
        rw [decide_eq_true hne] at hbx
        rw [hbx, Bool.true_or] at hcc
        refine Rs (A14 @t1 @t5 @t7 @l1 @ls @hlm @e3 @ix @lh @l9 @lx @hb @Bool.not_false @d3) ?_
        exact ⟨eY.trans (eK.trans eW), by rw [hc, ha, hcc]; rfl⟩
      · have d3 : decide ((x.1.sm.length : Int) ≠ (w : Int)) = false := decide_eq_false (by omega)
        rw [decide_eq_false hne] at hbx
        rw [hbx, Bool.false_or] at hcc
        refine Rs (A15 @t1 @t5 @t7 @l1 @ls @hlm @e3 @ix @lh @l9 @lx @hb @Bool.not_false @d3 @e5) ?_
        exact ⟨L.length - (k + 1), by omega, k + 1, by omega, rfl, ha.trans hcc, rfl⟩
  have e3 := dltT hlt
  have e5 := wrapN (n := k) (by omega)
  have ix := oK.sl.ixm (kk := .i64) hlt
  obtain ⟨x, hx⟩ : ∃ x, x = L[k] := ⟨_, rfl⟩
  have hmem : x ∈ L := by rw [hx]; exact List.getElem_mem _
  have ld : ∀ {kk : AHeap}, Ext K kk → loadF (some 10) (elp s 10 k) (fun b => kk[b]?) = some (.agg (trRow x), .keep) := fun {kk} e => by rw [hx]; exact oK.sl.ldm hlt e
  have hcc : firstS ((L.drop k).map fun x => chkTr x.1) = if chkTr x.1 = 0 then firstS ((L.drop (k + 1)).map fun x => chkTr x.1) else chkTr x.1 := by
    rw [List.drop_eq_getElem_cons hlt, List.map_cons, ← hx, firstS]
  refine Rs (A8 @t1 @t3 @l1 @ls @hlm @e3 @ix @ld) ?_
  refine WF.ce T.c69 (r69 T X (oK.all x hmem) (z.s x hmem)) fun g2 => ?_
  have eG : Ext K (K ++ g2) := Xx
  obtain ⟨E, hE⟩ : ∃ E, E = chkTr x.1 := ⟨_, rfl⟩
  rw [← hE] at hcc ⊢
  by_cases hz : E = 0
  case neg =>
    have d1 : decide (E ≠ 0) = true := decide_eq_true hz
    rw [if_neg hz] at hcc
    refine Rs (A3 @t1 @t3 @d1) ?_
    exact ⟨eY.trans (eK.trans eG), by rw [hc, hw, hcc, firstS, if_neg hz]⟩
  have d1 : decide (E ≠ 0) = false := decide_eq_false fun z => z hz
  rw [if_pos hz] at hcc
  refine Rs (A4 @t1 @t3 @d1 @e5) ?_
  exact ⟨L.length - (k + 1), by omega, k + 1, by omega, rfl, eK.trans eG, hw.trans hcc, rfl⟩
set_option maxHeartbeats 1000000 in
theorem r67 {x : Trc × AV} (hx : IsSl h x.2 1 (x.1.sm.map fltR)) : RCall P 67 [.agg (trRow x)] h (fun v _ => v = .bool (decide (x.1.sm.length ≤ 32) || decide (x.1.sm.length = 1025))) := by
  refine .st1 6 T.mix T.c67 ?_;intro ts hlen t0;unfold fn67
  have bx : ∀ {N : Nat}, boxF (.agg (trRow x)) N = some (.ptr N 0, .push (.cells (trRow x) true false)) := fun {N} => tr_box hx.one
  have l9 : ldV (trRow x)[9]? = some (x.2, .keep) := rfl
  refine Rs (A3 @t0 @bx @l9) ?_
  refine WF.ce T.c94 (r94 T (hx.ext Xx)) fun g2 => ?_
  exact Rs @t0 trivial
set_option maxHeartbeats 4000000 in
theorem r61 {x y : Trc × AV} (hx : IsSl h x.2 1 (x.1.sm.map fltR)) (hy : IsSl h y.2 1 (y.1.sm.map fltR)) (e : TrEq x.1 y.1) (hl : x.1.sm.length < 2 ^ 40) : RCall P 61 [.agg (trRow x), .agg (trRow y)] h (fun v _ => v = .bool true) := by
  refine .st2 24 T.mix T.c61 ?_;intro ts hlen t0 t1;unfold fn61
  have bx : ∀ {N : Nat}, boxF (.agg (trRow x)) N = some (.ptr N 0, .push (.cells (trRow x) true false)) := fun {N} => tr_box hx.one
  have b2 : ∀ {N : Nat}, boxF (.agg (trRow y)) N = some (.ptr N 0, .push (.cells (trRow y) true false)) := fun {N} => tr_box hy.one
  have la := @tr_l8 x
  have lb : ldB (some 8) 0 (.cells (trRow y) true false) = some (.agg (hdR x.1.hd), .keep) := by rw [e.hd]; rfl
  have la8 : ldV (trRow x)[8]? = some (.bool x.1.hole, .keep) := rfl
  have lb8 : ldV (trRow y)[8]? = some (.bool x.1.hole, .keep) := by rw [e.hole]; rfl
  have la9 : ldV (trRow x)[9]? = some (x.2, .keep) := rfl
  have lb9 : ldV (trRow y)[9]? = some (y.2, .keep) := rfl
  have q1 := @hd_same x.1.hd
  have q2 : eqvK (.one .b) (.bool x.1.hole) (.bool x.1.hole) = some true := by rw [eq_1b]; simp
  refine Rs (A12 @t0 @t1 @bx @b2 @la @lb @q1 @la8 @lb8 @q2 @la9 @lb9) ?_
  refine WF.ce T.c13 (r13 T (hx.ext Xx) (hy.ext Xx) hl e.ga e.gb) fun g2 => ?_
  have d : decide (x.1.sm.map gridN = y.1.sm.map gridN) = true := decide_eq_true e.nn
  exact Rs (A2 @t0 @d) trivial
set_option maxHeartbeats 4000000 in
theorem r17 {nm : List UInt8} {s t : AV} {A B : List (Trc × AV)} (oa : ShOk h A s) (ob : ShOk h B t) (z : ShSz A) (e : ShEq A B) : RCall P 17 [.agg [.str nm, s], .agg [.str nm, t]] h (fun v _ => v = .bool true) := by
  refine .st2 39 T.mix T.c17 ?_;intro ts hlen t0 t1;unfold fn17
  have bx := @sh_box nm s oa.sl.one
  have b2 := @sh_box nm t ob.sl.one
  have ln : ldV (shC nm s)[0]? = some (.str nm, .keep) := rfl
  have ls : ldV (shC nm s)[1]? = some (s, .keep) := rfl
  have ln2 : ldV (shC nm t)[0]? = some (.str nm, .keep) := rfl
  have ls2 : ldV (shC nm t)[1]? = some (t, .keep) := rfl
  have hlm := fun G => oa.sl.lenm G
  have hlm2 := fun G => ob.sl.lenm G
  have zl := z.l
  have el := e.l
  refine Rs (A4 @t0 @t1 @bx @b2) ?_
  obtain ⟨Y, hY⟩ : ∃ Y, Y = h ++ [ABlk.cells (shC nm s) true false] ++ [ABlk.cells (shC nm t) true false] := ⟨_, rfl⟩
  have eY : Ext h Y := by rw [hY]; exact Xx
  have m1 : Y[h.length]? = some (.cells (shC nm s) true false) := by rw [hY]; exact at_1
  have m2 : Y[(h ++ [ABlk.cells (shC nm s) true false]).length]? = some (.cells (shC nm t) true false) := by rw [hY]; exact at_new
  obtain ⟨c1, hc1⟩ : ∃ b, b = h.length := ⟨_, rfl⟩
  obtain ⟨c2, hc2⟩ : ∃ b, b = (h ++ [ABlk.cells (shC nm s) true false]).length := ⟨_, rfl⟩
  rw [← hc1] at m1
  rw [← hc2] at m2
  rw [← hc1, ← hc2, ← hY]
  clear hc1 hc2 hY
  have l1 := @ldx _ _ _ m1
  have l2 := @ldx _ _ _ m2
  have dn : decide (nm ≠ nm) = false := decide_eq_false fun z => z rfl
  have dl : decide ((A.length : Int) ≠ (B.length : Int)) = false := decide_eq_false fun z => z (by rw [el])
  repeat (first | simp (config := { maxSteps := 1000000 }) only [wset, hset, dset, bset, Nat.reduceAdd, Nat.reduceMul, Nat.reduceLeDiff, Nat.reduceEqDiff, pset, hlen, if_false, if_true, t0, t1, l1, l2, ln, ln2, ls, ls2, hlm, hlm2, dn, dl] | simp (config := { maxSteps := 1000000 }) (disch := first | (simp only [List.length_append, List.length_cons, List.length_nil] <;> omega) | rfl | omega | fail) only [kset, wset, hset, dset, bset, Nat.reduceAdd, Nat.reduceMul, Nat.reduceLeDiff, Nat.reduceEqDiff, pset, hlen, if_false, if_true, t0, t1, l1, l2, ln, ln2, ls, ls2, hlm, hlm2, dn, dl])
  refine WL.inv T.mix (fun n ts K => ∃ k : Nat, k ≤ A.length ∧ n = A.length - k ∧ Ext Y K ∧ ts.length = 39 ∧ slot ts 2 = .ptr c1 0 ∧ slot ts 3 = .ptr c2 0 ∧ slot ts 5 = .int .i64 k) A.length
    ⟨0, by omega, rfl, .refl _, Sn, Sw, Sw, Swr⟩ ?_
  clear hlen t0 t1
  rintro _ ts K ⟨k, hk, rfl, eK, hlen, t2, t3, t5⟩
  have l1 := @ldx _ _ _ (eK.some m1)
  have l2 := @ldx _ _ _ (eK.some m2)
  have oA := oa.ext (eY.trans eK)
  have oB := ob.ext (eY.trans eK)
  by_cases hlt : k < A.length
  case neg =>
    have e3 := dltF hlt
    refine Rs (A9 @t2 @t3 @t5 @l1 @l2 @ls @ls2 @hlm @e3) ?_
    exact ⟨eY.trans eK, trivial⟩
  have e3 := dltT hlt
  have e5 := wrapN (n := k) (by omega)
  have hlt2 : k < B.length := by omega
  have ix := oA.sl.ixm (kk := .i64) hlt
  have iy := oB.sl.ixm (kk := .i64) hlt2
  have te := e.t k hlt hlt2
  obtain ⟨x, hx⟩ : ∃ x, x = A[k] := ⟨_, rfl⟩
  obtain ⟨y, hy⟩ : ∃ y, y = B[k] := ⟨_, rfl⟩
  rw [← hx, ← hy] at te
  have hmx : x ∈ A := by rw [hx]; exact List.getElem_mem _
  have hmy : y ∈ B := by rw [hy]; exact List.getElem_mem _
  have ldx' : ∀ {kk : AHeap}, Ext K kk → loadF (some 10) (elp s 10 k) (fun b => kk[b]?) = some (.agg (trRow x), .keep) := fun {kk} e => by rw [hx]; exact oA.sl.ldm hlt e
  have ldy' : ∀ {kk : AHeap}, Ext K kk → loadF (some 10) (elp t 10 k) (fun b => kk[b]?) = some (.agg (trRow y), .keep) := fun {kk} e => by rw [hy]; exact oB.sl.ldm hlt2 e
  refine Rs (A13 @t2 @t3 @t5 @l1 @l2 @ls @ls2 @hlm @e3 @ix @iy @ldx' @ldy') ?_
  refine WF.ce T.c61 (r61 T (oA.all x hmx) (oB.all y hmy) te (z.s x hmx)) fun g2 => ?_
  refine Rs (A5 @t2 @t3 @t5 @Bool.not_true @e5) ?_
  exact ⟨A.length - (k + 1), by omega, k + 1, by omega, rfl, eK.trans ⟨g2, rfl⟩, rfl⟩
end
end Go.Abs
namespace Go.Abs

set_option maxRecDepth 10000
attribute [local irreducible] WP WC WE WB WR WF WL WG WRg WQ
section
variable {P : Program} (T : Tbl P) {h : AHeap}
include T
end
end Go.Abs
namespace Go.Abs

set_option maxRecDepth 10000
attribute [local irreducible] WP WC WE WB WR WF WL WG WRg WQ
section
variable {P : Program} (T : Tbl P) {h : AHeap}
include T
end
end Go.Abs
namespace Go.Abs

set_option maxRecDepth 10000
attribute [local irreducible] WP WC WE WB WR WF WL WG WRg WQ
section
variable {P : Program} (T : Tbl P) {h : AHeap}
include T
end
end Go.Abs
namespace Go.Abs

set_option maxRecDepth 10000
attribute [local irreducible] WP WC WE WB WR WF WL WG WRg WQ
section
variable {P : Program} (T : Tbl P) {h : AHeap}
include T
end
end Go.Abs
namespace Go.Abs

set_option maxRecDepth 10000
attribute [local irreducible] WP WC WE WB WR WF WL WG WRg WQ
section
variable {P : Program} (T : Tbl P) {h : AHeap}
include T
end
end Go.Abs
namespace Go.Abs
open Ieee

theorem add_vl {s u : Bool} {m n : Nat} {i j : Int} (hi : -1200 ≤ i) (hj : -1200 ≤ j) : vl (.number s m i) + vl (.number u n j) = (signed s m (i - min i j).toNat + signed u n (j - min i j).toNat) * 2 ^ (min i j + 1200).toNat := by
  rw [vl_base (s := s) (m := m) (b := min i j) (by omega) (by omega), vl_base (s := u) (m := n) (b := min i j) (by omega) (by omega), Int.add_mul]
theorem num_add {a b : Nat} {u v N M : Int} (ha : Num .f32 a u) (hb : Num .f32 b v) (hu : N * UU = 16 * u) (hv : M * UU = 16 * v) (hK : -16384 ≤ N + M ∧ N + M ≤ 16384) : ∃ q, binK .add (.flt .f32 a) (.flt .f32 b) = some (.flt .f32 q) ∧ Num .f32 q (u + v) := by
  obtain ⟨s, m, i, h1, h2, rfl⟩ := ha
  obtain ⟨s', n, j, h3, h4, rfl⟩ := hb
  have l1 := (read_fin h1).2
  have l2 := (read_fin h3).2
  have hlp : FloatKind.f32.format.leastPlace = -149 := by decide
  have hfb : FloatKind.f32.format.fractionBits = 23 := rfl
  have heb : (2 ^ FloatKind.f32.format.exponentBits : Nat) = 256 := by decide
  rw [hlp] at l1 l2
  obtain ⟨B, hB⟩ : ∃ B, B = min i j := ⟨_, rfl⟩
  have hBl : -149 ≤ B := by omega
  have hsum := add_vl (s := s) (u := s') (m := m) (n := n) h2 h4
  obtain ⟨W, hW⟩ : ∃ W, W = signed s m (i - min i j).toNat + signed s' n (j - min i j).toNat := ⟨_, rfl⟩
  rw [← hW] at hsum
  obtain ⟨z, hz⟩ : ∃ z : Bool, z = (if W = 0 then s && s' else decide (W < 0)) := ⟨_, rfl⟩
  have p1 : FloatKind.f32.format.add a b = some (FloatKind.f32.format.write (.number z W.natAbs B)) := by
    unfold Format.add
    rw [h1, h3]
    subst hz hW hB
    rfl
  have hvl : vl (.number z W.natAbs B) = vl (.number s m i) + vl (.number s' n j) := by
    rw [hsum, ← hB]
    show sgN z W.natAbs * _ = _
    congr 1
    by_cases h0 : W = 0
    · rw [h0]; cases z <;> rfl
    · rw [hz, if_neg h0]; exact sgN_int W
  refine ⟨_, by simp only [binK, if_true, fltBin, p1, fltRes]; rfl, ?_⟩
  rw [← hvl]
  refine num_write (by omega) ?_
  by_cases h0 : W.natAbs = 0
  · exact .inl h0
  refine .inr ?_
  rw [hlp, hfb, heb]
  obtain ⟨c, hc⟩ : ∃ c, bU = c + 4 := ⟨1196, rfl⟩
  have hbu := bU_eq
  have key : W.natAbs * 2 ^ (B + 1200).toNat = (N + M).natAbs * 2 ^ c := by
    have e1 : (N + M) * UU = 16 * vl (.number z W.natAbs B) := by rw [hvl, Int.add_mul, hu, hv, Int.mul_add]
    have e2 := congrArg Int.natAbs e1
    rw [Int.natAbs_mul, UU_abs, Int.natAbs_mul, vl_abs, hc, Nat.pow_add] at e2
    have e3 : (2 : Nat) ^ 4 = 16 := rfl
    rw [e3, ← Nat.mul_assoc, Nat.mul_comm] at e2
    exact (Nat.eq_of_mul_eq_mul_left (by decide : 0 < 16) e2).symm
  have hKn : (N + M).natAbs ≤ 2 ^ 14 := by have : (2 : Nat) ^ 14 = 16384 := rfl; omega
  obtain ⟨p, hp⟩ : ∃ p, p = (B + 1200).toNat := ⟨_, rfl⟩
  rw [← hp] at key
  rcases Nat.le_total c p with h | h
  · obtain ⟨d, rfl⟩ := Nat.exists_eq_add_of_le h
    rw [Nat.pow_add, Nat.mul_comm (2 ^ c), ← Nat.mul_assoc] at key
    have k2 := Nat.eq_of_mul_eq_mul_right (Nat.two_pow_pos c) key
    have k3 : 2 ^ (W.natAbs.log2 + d) ≤ 2 ^ 14 := by
      rw [Nat.pow_add]
      refine Nat.le_trans (Nat.mul_le_mul_right _ (Nat.log2_self_le h0)) ?_
      rw [k2]; exact hKn
    have k4 := pow_le' k3
    exact ⟨W.natAbs, 0, by simp, h0, by omega, by omega, by omega⟩
  · obtain ⟨d, hd⟩ := Nat.exists_eq_add_of_le h
    rw [hd, Nat.pow_add, Nat.mul_comm (2 ^ p), ← Nat.mul_assoc] at key
    have k2 := Nat.eq_of_mul_eq_mul_right (Nat.two_pow_pos p) key
    have hK0 : (N + M).natAbs ≠ 0 := fun q => by rw [q, Nat.zero_mul] at k2; exact h0 k2
    have k4 := pow_le' (Nat.le_trans (Nat.log2_self_le hK0) hKn)
    exact ⟨(N + M).natAbs, d, k2, hK0, by omega, by omega, by omega⟩
theorem num_grid {q : Nat} {w n : Int} (h : Num .f32 q w) (hw : n * UU = 16 * w) (hn : -16384 ≤ n ∧ n ≤ 16384) : gridE q = 0 ∧ gridN q = n := by
  have hU := UU_pos
  have e := num_fval h
  have hg : gridN q = n := by
    unfold gridN
    rw [← e, ← hw, Int.mul_ediv_cancel _ (by omega)]
  refine ⟨grid_z (finB_t h) ?_, hg⟩
  unfold gOkB
  rw [finB_t h, hg, ← e]
  have b1 : -16384 * UU ≤ n * UU := Int.mul_le_mul_of_nonneg_right hn.1 (by omega)
  have b2 : n * UU ≤ 16384 * UU := Int.mul_le_mul_of_nonneg_right hn.2 (by omega)
  rw [decide_eq_true (by omega), decide_eq_true (by omega), decide_eq_true hw]
  rfl
/-- Samples added, and compared. -/
theorem grid_add {a b : Nat} (ha : gridE a = 0) (hb : gridE b = 0) (hK : -16384 ≤ gridN a + gridN b ∧ gridN a + gridN b ≤ 16384) : ∃ q, binK .add (.flt .f32 a) (.flt .f32 b) = some (.flt .f32 q) ∧ gridE q = 0 ∧ gridN q = gridN a + gridN b := by
  obtain ⟨h1, h2, _⟩ := grid_num ha
  obtain ⟨h3, h4, _⟩ := grid_num hb
  obtain ⟨q, e, hq⟩ := num_add h1 h3 h2 h4 hK
  exact ⟨q, e, num_grid hq (by rw [Int.add_mul, h2, h4, Int.mul_add]) hK⟩
/-- A list whose first cells are made. -/
def GrTo (Z : List Nat) (n : Nat) (f : Nat → Int) (k : Nat) : Prop := Z.length = n ∧ ∀ (i : Nat) (h : i < Z.length), i < k → gridE Z[i] = 0 ∧ gridN Z[i] = f i
theorem GrTo.set {Z : List Nat} {n k : Nat} {f : Nat → Int} (g : GrTo Z n f k) {x : Nat} (h1 : gridE x = 0) (h2 : gridN x = f k) : GrTo (Z.set k x) n f (k + 1) := by
  refine ⟨by rw [List.length_set]; exact g.1, fun i hi hk => ?_⟩
  rw [List.length_set] at hi
  rw [List.getElem_set]
  by_cases h : k = i
  · subst h; rw [if_pos rfl]; exact ⟨h1, h2⟩
  · rw [if_neg h]; exact g.2 i hi (by omega)
theorem GrTo.all {Z : List Nat} {n : Nat} {f : Nat → Int} (g : GrTo Z n f n) : (∀ b ∈ Z, gridE b = 0) ∧ Z.map gridN = genL n f := by
  obtain ⟨h1, h2⟩ := g
  refine ⟨fun b hb => ?_, ?_⟩
  · obtain ⟨i, hi, rfl⟩ := List.mem_iff_getElem.1 hb
    exact (h2 i hi (by omega)).1
  · refine list_atZ (by rw [List.length_map, genL_len]; exact h1) fun i hi => ?_
    rw [List.length_map] at hi
    rw [atZ_at (by rw [List.length_map]; exact hi), List.getElem_map, (h2 i hi (by omega)).2]
    exact (atZ_gen (by omega)).symm
set_option maxRecDepth 10000
attribute [local irreducible] WP WC WE WB WR WF WL WG WRg WQ
section
variable {P : Program} (T : Tbl P) {h : AHeap}
include T
end
end Go.Abs
namespace Go.Abs

/-- Slices of different blocks. -/
def Apart (s t : AV) : Prop := ∀ b o n e b' o' n' e', s = .slice b o n e → t = .slice b' o' n' e' → b ≠ b'
theorem Apart.symm {s t : AV} (a : Apart s t) : Apart t s := fun _ _ _ _ _ _ _ _ q1 q2 z => a _ _ _ _ _ _ _ _ q2 q1 z.symm
theorem IsSl.apart_new {K : AHeap} {s : AV} {es : Nat} {cs : List (List AV)} (o : IsSl K s es cs) {b o' n e : Nat} (hb : K.length ≤ b) : Apart s (.slice b o' n e) := fun _ _ _ _ _ _ _ _ q1 q2 => by
  cases q2
  have := o.lt q1
  omega
theorem IsSl.apart_fr {h K : AHeap} {s t : AV} {es es' : Nat} {cs cs' : List (List AV)} {M : Nat} (o : IsSl h s es cs) (f : Fr M K t es' cs') (hM : h.length ≤ M) : Apart s t := fun _ _ _ _ _ _ _ _ q1 q2 z => by
  have h1 := o.lt q1
  have h2 := (f.lt q2).1
  omega
theorem Fr.apart_fr {K K2 : AHeap} {s t : AV} {es es' : Nat} {cs cs' : List (List AV)} {M M2 : Nat} (o : Fr M K s es cs) (f : Fr M2 K2 t es' cs') (hM : K.length ≤ M2) : Apart s t := fun _ _ _ _ _ _ _ _ q1 q2 z => by
  have h1 := (o.lt q1).2
  have h2 := (f.lt q2).1
  omega
/-- A slice is not of this block. -/
def NotB (b : Nat) (s : AV) : Prop := ∀ b0 o n e, s = .slice b0 o n e → b0 ≠ b
theorem IsSl.notB {h : AHeap} {s : AV} {es : Nat} {cs : List (List AV)} (o : IsSl h s es cs) {b : Nat} (hb : h.length ≤ b) : NotB b s := fun _ _ _ _ q z => by
  have := o.lt q
  omega
theorem Fr.notB {M : Nat} {h : AHeap} {s : AV} {es : Nat} {cs : List (List AV)} (o : Fr M h s es cs) {b : Nat} (hb : b < M) : NotB b s := fun _ _ _ _ q z => by
  have := (o.lt q).1
  omega
theorem Fr.up {N M : Nat} {h : AHeap} {b n es : Nat} {cs : List (List AV)} (o : Fr N h (.slice b 0 n es) es cs) (hM : M ≤ b) : Fr M h (.slice b 0 n es) es cs := by
  cases o with
  | mk hN hb he => exact .mk hM hb he
theorem Fr.setn {N : Nat} {h : AHeap} {s : AV} {es : Nat} {cs : List (List AV)} (o : Fr N h s es cs) {b : Nat} {X : ABlk} (hb : NotB b s) : Fr N (h.set b X) s es cs := by
  cases o with
  | nil => exact .nil
  | mk hN h1 he => exact .mk hN (set_ne' (fun z => hb _ _ _ _ rfl z.symm) h1) he
theorem IsSl.setb {h : AHeap} {s : AV} {es : Nat} {cs : List (List AV)} (o : IsSl h s es cs) {b : Nat} {X : ABlk} (hb : NotB b s) : IsSl (h.set b X) s es cs := by
  cases o with
  | nil => exact .nil
  | mk h1 hf ho he => exact .mk (set_ne' (fun z => hb _ _ _ _ rfl z.symm) h1) hf ho he
/-- A shot in a box, whose list of traces is its own and grows. -/
structure ShGr (N M : Nat) (K : AHeap) (b : Nat) (nm : List UInt8) (L : List (Trc × AV)) (out : AV) : Prop where
  m : K[b]? = some (.cells (shC nm out) true false)
  fr : Fr M K out 10 (L.map trRow)
  all : ∀ x ∈ L, IsSl K x.2 1 (x.1.sm.map fltR)
  ns : ∀ x ∈ L, Apart x.2 out
  nx : ∀ x ∈ L, ∀ c, N ≤ c → c < M → NotB c x.2
theorem ShGr.ext {N M : Nat} {K k : AHeap} {b : Nat} {nm : List UInt8} {L : List (Trc × AV)} {out : AV} (o : ShGr N M K b nm L out) (e : Ext K k) : ShGr N M k b nm L out := ⟨e.some o.m, o.fr.ext e, fun x hx => (o.all x hx).ext e, o.ns, o.nx⟩
theorem ShGr.nil {N M : Nat} {K : AHeap} {b : Nat} {nm : List UInt8} (m : K[b]? = some (.cells (shC nm .nilSlice) true false)) : ShGr N M K b nm [] .nilSlice := ⟨m, .nil, fun x hx => by simp at hx, fun x hx => by simp at hx, fun x hx => by simp at hx⟩
theorem sh_st1 {K : AHeap} {b : Nat} {nm : List UInt8} {s s' : AV} (m : K[b]? = some (.cells (shC nm s) true false)) (os : s'.one = true) : storeF 1 (.ptr b 1) s' (fun z => K[z]?) = some (undefA, .set b (.cells (shC nm s') true false)) := by
  rw [storeF_at m, stB_one os (by show 1 + 1 ≤ 2; omega)]; rfl
/-- A TRACE IS APPENDED TO THE LIST IN THE BOX. -/
theorem ShGr.grow {P : Program} {ro : Option Nat → Prop} {ks : List Kt} {ts : TS} {Q : Ex → TS → AHeap → Prop} {d : Option Nat} {l : List IOp} {h Y : AHeap} {M b : Nat} {nm : List UInt8} {L : List (Trc × AV)} {out : AV} (o : ShGr h.length M Y b nm L out) (eY : Ext h Y) (h1 : h.length ≤ M) (h2 : M ≤ Y.length) (hb : h.length ≤ b) (hbM : b < M) {x : Trc × AV} (hx : IsSl Y x.2 1 (x.1.sm.map fltR)) (hap : Apart x.2 out) (hxb : ∀ c, h.length ≤ c → c < M → NotB c x.2) (hl : L.length < 2 ^ 38)
    (C : ∀ (W : AHeap) (out' : AV), Ext h W → M ≤ W.length → out'.one = true → W[b]? = some (.cells (shC nm out) true false) → ShGr h.length M (W.set b (.cells (shC nm out') true false)) b nm (L ++ [x]) out' → Ext h (W.set b (.cells (shC nm out') true false)) → (∀ c k, c < M → c ≠ b → Y[c]? = some k → (W.set b (.cells (shC nm out') true false))[c]? = some k) → (∀ c, c < Y.length → c ≠ b → (∀ b0 o n e, out = .slice b0 o n e → c ≠ b0) → (W.set b (.cells (shC nm out') true false))[c]? = Y[c]?) → (∀ es (s : AV) (cs : List (List AV)), IsSl Y s es cs → Apart s out') → WP P ro l ks (put ts d out') W Q) :
    WR P ro (appT 10 96 out (.slice Y.length 0 1 10) (fun z => (Y ++ [ABlk.cells (trRow x) true true])[z]?) (Y ++ [ABlk.cells (trRow x) true true]).length) false d l ks ts (Y ++ [ABlk.cells (trRow x) true true]) Q := by
  have hyz : IsSl (Y ++ [ABlk.cells (trRow x) true true]) (AV.slice Y.length 0 1 10) 10 [trRow x] := by
    have := (Fr.push (N := 0) (es := 10) (h := Y) (Nat.zero_le _) [trRow x] (fun y hy => by rw [List.mem_singleton] at hy; rw [hy]; rfl)).isSl
    simpa using this
  refine WR.app1 (h0 := h) (cs := L.map trRow) (ys := [trRow x]) ((o.fr.low h1).app _) hyz (by decide) (by simp) (by rw [List.length_map, List.length_singleton]; omega) (eY.trans (Ext.app _ (Ext.refl _))) ?_
  intro g' hl' hff hkp
  have hWl : (h ++ g').length = Y.length + 2 := by rw [hl', List.length_append, List.length_singleton]
  have keep : ∀ c, c < Y.length → (∀ b0 o n e, out = .slice b0 o n e → c ≠ b0) → (h ++ g')[c]? = Y[c]? := fun c hc hn => by
    rw [hkp c (by rw [List.length_append]; omega) hn, List.getElem?_append_left hc]
  have lowb : ∀ c, c < M → ∀ b0 o' n e, out = .slice b0 o' n e → c ≠ b0 := fun c hc b0 o' n e q z => by
    have := (o.fr.lt q).1
    omega
  have hbY : b < Y.length := by omega
  have mb : (h ++ g')[b]? = some (.cells (shC nm out) true false) := by rw [keep b hbY (lowb b hbM)]; exact o.m
  have hrow : L.map trRow ++ [trRow x] = (L ++ [x]).map trRow := by rw [List.map_append]; rfl
  rw [hrow] at hff ⊢
  have hff := hff.up (M := M) (by rw [List.length_append]; omega)
  obtain ⟨out', ho⟩ : ∃ s, s = AV.slice (Y ++ [ABlk.cells (trRow x) true true]).length 0 ((L ++ [x]).map trRow).length 10 := ⟨_, rfl⟩
  have one' : out'.one = true := by rw [ho]; rfl
  have apn : ∀ {es : Nat} {s : AV} {cs : List (List AV)}, IsSl Y s es cs → Apart s out' := fun {es s cs} q => by
    rw [ho]; exact q.apart_new (by rw [List.length_append]; omega)
  rw [← ho] at hff ⊢
  obtain ⟨W, hW⟩ : ∃ W, W = h ++ g' := ⟨_, rfl⟩
  rw [← hW] at hff hWl keep mb ⊢
  have eW : Ext h W := ⟨g', hW⟩
  have nb : NotB b out' := hff.notB hbM
  have keepc : ∀ c, c < Y.length → c ≠ b → (∀ b0 o n e, out = .slice b0 o n e → c ≠ b0) → (W.set b (.cells (shC nm out') true false))[c]? = Y[c]? := fun c hc hne hn => by
    rw [List.getElem?_set_ne hne.symm, keep c hc hn]
  have hset : ∀ es (s : AV) (cs : List (List AV)), IsSl Y s es cs → Apart s out → NotB b s → IsSl (W.set b (.cells (shC nm out') true false)) s es cs := fun es s cs hs ha hsb => by
    cases hs with
    | nil => exact .nil
    | mk hb' hf ho' he =>
      have hlt := (List.getElem?_eq_some_iff.1 hb').1
      exact .mk ((keepc _ hlt (hsb _ _ _ _ rfl) fun b0 o2 n2 e2 q2 => ha _ _ _ _ _ _ _ _ rfl q2).trans hb') hf ho' he
  refine C W out' eW (by omega) one' mb ⟨set_eq' mb, hff.setn nb, fun y hy => ?_, fun y hy => ?_, fun y hy => ?_⟩ (ext_setG eW hb) (fun c k hc hne hk => (keepc c (by omega) hne (lowb c hc)).trans hk) keepc (fun es s cs q => apn q)
  · rcases List.mem_append.1 hy with hy | hy
    · exact hset _ _ _ (o.all y hy) (o.ns y hy) (o.nx y hy b hb hbM)
    · rw [List.mem_singleton.1 hy]; exact hset _ _ _ hx hap (hxb b hb hbM)
  · rcases List.mem_append.1 hy with hy | hy
    · exact apn (o.all y hy)
    · rw [List.mem_singleton.1 hy]; exact apn hx
  · rcases List.mem_append.1 hy with hy | hy
    · exact o.nx y hy
    · rw [List.mem_singleton.1 hy]; exact hxb
theorem fill_tr {x : Trc × AV} (hv : x.2.cells = [x.2]) : fillA [.int .i64 0, .int .i64 0, .int .i64 0, .int .i64 0, .int .i64 0, .int .i64 0, .int .i64 0, .int .i64 0, .bool false, .nilSlice] [(0, 8, .agg (hdR x.1.hd)), (8, 1, .bool x.1.hole), (9, 1, x.2)] = some (trRow x) := by
  unfold fillA
  rw [if_pos ⟨rfl, by decide⟩]
  unfold fillA
  rw [if_pos ⟨rfl, by show 8 + 1 ≤ 10; omega⟩]
  unfold fillA
  rw [hv, if_pos ⟨rfl, by show 9 + 1 ≤ 10; omega⟩]
  rfl
theorem bsl_tr {x : Trc × AV} (ox : x.2.one = true) {N : Nat} : bslF 10 1 (fillA [.int .i64 0, .int .i64 0, .int .i64 0, .int .i64 0, .int .i64 0, .int .i64 0, .int .i64 0, .int .i64 0, .bool false, .nilSlice] [(0, 10, .agg (trRow x))]) N = some (.slice N 0 1 10, .push (.cells (trRow x) true true)) := by
  have e : fillA [.int .i64 0, .int .i64 0, .int .i64 0, .int .i64 0, .int .i64 0, .int .i64 0, .int .i64 0, .int .i64 0, .bool false, .nilSlice] [(0, 10, .agg (trRow x))] = some (trRow x) := rfl
  rw [e]
  show (if (trRow x).all AV.one = true ∧ (trRow x).length = 1 * 10 then _ else _) = _
  rw [if_pos ⟨tr_one ox, rfl⟩]
  rfl
theorem st9 {K : AHeap} {b : Nat} {x : Trc × AV} {v : AV} {t : Trc} (m : K[b]? = some (.cells (trRow x) true false)) (ov : v.one = true) (hh : t.hd = x.1.hd) (ho : t.hole = x.1.hole) : storeF 1 (.ptr b 9) v (fun z => K[z]?) = some (undefA, .set b (.cells (trRow (t, v)) true false)) := by
  rw [storeF_at m, stB_one ov (by show 9 + 1 ≤ 10; omega)]
  obtain ⟨hd, hole, sm⟩ := t
  simp only at hh ho
  subst hh ho
  rfl
set_option maxRecDepth 10000
attribute [local irreducible] WP WC WE WB WR WF WL WG WRg WQ
section
variable {P : Program} (T : Tbl P) {h : AHeap}
include T
end
end Go.Abs
namespace Go.Abs

set_option maxRecDepth 10000
attribute [local irreducible] WP WC WE WB WR WF WL WG WRg WQ
section
variable {P : Program} (T : Tbl P) {h : AHeap}
include T
end
end Go.Abs
namespace Go.Abs

/-- A list moved by a number of places. -/
def shfL (A : List Int) (n : Int) : List Int := genL A.length fun i : Nat => atZ A ((i : Int) + n)
/-- A trace that is changed, if it is no hole. -/
def chgT (G : Trc × AV → List Nat) (x : Trc × AV) : Trc := if x.1.hole = true then x.1 else ⟨x.1.hd, x.1.hole, G x⟩
def errL (E : Trc × AV → Int) (L : List (Trc × AV)) : Int := firstS (L.map fun x => if x.1.hole = true then 0 else E x)
theorem errL_cons (E : Trc × AV → Int) (x : Trc × AV) (r : List (Trc × AV)) : errL E (x :: r) = if (if x.1.hole = true then 0 else E x) = 0 then errL E r else if x.1.hole = true then 0 else E x := by
  unfold errL
  rw [List.map_cons, firstS]
set_option maxRecDepth 10000
attribute [local irreducible] WP WC WE WB WR WF WL WG WRg WQ
section
variable {P : Program} (T : Tbl P) {h : AHeap}
include T
set_option maxHeartbeats 4000000 in
theorem r59 {b : Nat} {s0 : AV} {t : List Int} (mb : h[b]? = some (.cells [s0] true false)) (h0 : IsSl h s0 1 (t.map intRow)) (ht : TpOk t) {x : Trc × AV} (hx : IsSl h x.2 1 (x.1.sm.map fltR)) (hc : chkL x.1.sm = 0) : RCall P 59 [.agg (trRow x), .ptr b 0] h (fun v h' => ∃ (s : AV) (e : Int), v = .tup [s, .int .i64 e] ∧ if fitsB (apL t (x.1.sm.map gridN) (-1)) = true then Fr h.length h' s 1 (((apL t (x.1.sm.map gridN) (-1)).map smpl).map fltR) ∧ e = 0 else s = .nilSlice ∧ e = 4) := by
  refine .st2 13 T.mix T.c59 ?_;intro ts hlen t0 t1;unfold fn59
  have ox := hx.one
  have bx : ∀ {N : Nat}, boxF (.agg (trRow x)) N = some (.ptr N 0, .push (.cells (trRow x) true false)) := fun {N} => tr_box ox
  have lb : loadF none (.ptr b 0) (fun z => h[z]?) = some (s0, .keep) := by rw [loadF_at mb]; rfl
  have lbk : ∀ {k : AHeap}, Ext h k → loadF none (.ptr b 0) (fun z => k[z]?) = some (s0, .keep) := fun {k} e => by rw [loadF_at (e.some mb)]; rfl
  have l9v : ldV (trRow x)[9]? = some (x.2, .keep) := rfl
  obtain ⟨hl, hg⟩ := chkL_z hc
  have o0 := h0.one
  refine Rs (A7 @t0 @t1 @bx @lbk @l9v @o0 @ox) ?_
  refine WF.res T.c42 (r42 T (hx.ext Xx) (by omega) T.c43 (g := gridN) (fun y hy k => r43 T (hg y hy))) ?_
  intro s2 g1 is1
  refine Rs (A3 @t0 @t1 @o0) ?_
  refine WF.res T.c60 (r60 T (h0.ext Xx) is1 ht (by rw [List.length_map]; exact hl) (grid_all hg) ⟨by omega, by omega⟩) ?_
  intro s3 g2 is2
  refine Rs (A2 @t0 @t1) ?_
  refine WF.res T.c45 (q45 T is2 (by rw [apL_len, List.length_map]; omega)) ?_
  rintro _ g3 ⟨s, e, rfl, hh⟩
  refine Rs (A2 @t0 @t1) ?_
  refine ⟨s, e, rfl, ?_⟩
  by_cases hf : fitsB (apL t (x.1.sm.map gridN) (-1)) = true
  · rw [if_pos hf] at hh ⊢
    exact ⟨hh.1.low (by simp only [List.length_append]; omega), hh.2⟩
  · rw [if_neg hf] at hh ⊢
    exact hh
set_option maxHeartbeats 8000000 in
theorem r58 {nm : List UInt8} {s : AV} {L : List (Trc × AV)} (o : ShOk h L s) (zl : L.length < 2 ^ 38) {f : FuncId} {AF : AFunc} (hA : compileFn P f = some AF) {c : Nat} {E : Trc × AV → Int} {G : Trc × AV → List Nat} (hf : ∀ x ∈ L, x.1.hole = false → ∀ k, Ext h k → RCall P f [.agg (trRow x), .ptr c 0] k (fun v k' => ∃ t : AV, v = .tup [t, .int .i64 (E x)] ∧ (E x = 0 → Fr k.length k' t 1 ((G x).map fltR)))) : RCall P 58 [.agg [.str nm, s], .func (.func f) [] [.ptr c 0]] h (fun v h' => ∃ (r : AV), v = .tup [r, .int .i64 (errL E L)] ∧ if errL E L = 0 then ∃ (s' : AV) (L' : List (Trc × AV)), r = .agg [.str nm, s'] ∧ ShOk h' L' s' ∧ L'.map Prod.fst = L.map (chgT G) ∧ (∀ c, c < h.length → NotB c s') ∧ ∀ y ∈ L', (∃ x ∈ L, y.2 = x.2) ∨ ∀ c, c < h.length → NotB c y.2 else r = .agg [.str [], .nilSlice]) := by
  refine .st2 44 T.mix T.c58 ?_;intro ts hlen t0 t1;unfold fn58
  have bx := @sh_box nm s o.sl.one
  have bz : ∀ {N : Nat}, boxF (.agg [.str [], .nilSlice]) N = some (.ptr N 0, .push (.cells (shC [] .nilSlice) true false)) := fun {N} => rfl
  have ln : ldV (shC nm s)[0]? = some (.str nm, .keep) := rfl
  have ls : ldV (shC nm s)[1]? = some (s, .keep) := rfl
  have hlm := fun G => o.sl.lenm G
  have bd : fillA [.str [], .nilSlice] [(0, 1, .str nm)] = some [.str nm, .nilSlice] := rfl
  have bd0 : fillA [.str [], .nilSlice] [] = some [.str [], .nilSlice] := rfl
  have st3 : ∀ {n : Nat}, stB 2 0 (.agg [.str nm, .nilSlice]) n (.cells (shC [] .nilSlice) true false) = some (undefA, .set n (.cells (shC nm .nilSlice) true false)) := fun {n} => sh_st rfl
  repeat (first | simp (config := { maxSteps := 1000000 }) only [wset, hset, dset, bset, Nat.reduceAdd, Nat.reduceMul, Nat.reduceLeDiff, Nat.reduceEqDiff, pset, hlen, if_false, if_true, t0, t1, bx, bz, ln, bd, st3, ls, hlm] | simp (config := { maxSteps := 1000000 }) (disch := first | (simp only [List.length_append, List.length_cons, List.length_nil] <;> omega) | rfl | omega | fail) only [kset, wset, hset, dset, bset, Nat.reduceAdd, Nat.reduceMul, Nat.reduceLeDiff, Nat.reduceEqDiff, pset, hlen, if_false, if_true, t0, t1, bx, bz, ln, bd, st3, ls, hlm])
  obtain ⟨Y, hY⟩ : ∃ Y, Y = h ++ [ABlk.cells (shC nm s) true false] ++ [ABlk.cells (shC [] .nilSlice) true false] ++ [ABlk.cells (shC nm .nilSlice) true false] := ⟨_, rfl⟩
  have eY : Ext h Y := by rw [hY]; exact Xx
  have m4 : Y[(h ++ [ABlk.cells (shC nm s) true false]).length]? = some (.cells (shC [] .nilSlice) true false) := by rw [hY]; exact at_1
  have m6 : Y[(h ++ [ABlk.cells (shC nm s) true false] ++ [ABlk.cells (shC [] .nilSlice) true false]).length]? = some (.cells (shC nm .nilSlice) true false) := by rw [hY]; exact at_new
  obtain ⟨b4, hb4⟩ : ∃ b, b = (h ++ [ABlk.cells (shC nm s) true false]).length := ⟨_, rfl⟩
  obtain ⟨b6, hb6⟩ : ∃ b, b = (h ++ [ABlk.cells (shC nm s) true false] ++ [ABlk.cells (shC [] .nilSlice) true false]).length := ⟨_, rfl⟩
  have n4 : h.length ≤ b4 := by rw [hb4]; simp only [List.length_append]; omega
  have n6 : h.length ≤ b6 := by rw [hb6]; simp only [List.length_append]; omega
  have n46 : b4 ≠ b6 := by rw [hb4, hb6]; simp only [List.length_append, List.length_cons, List.length_nil]; omega
  rw [← hb4] at m4
  rw [← hb6] at m6
  rw [← hY, ← hb4, ← hb6]
  clear hY hb4 hb6
  have q4 := (List.getElem?_eq_some_iff.1 m4).1
  have q6 := (List.getElem?_eq_some_iff.1 m6).1
  obtain ⟨M, hM⟩ : ∃ M, M = Y.length := ⟨_, rfl⟩
  rw [← hM] at q4 q6
  have hm := eY.len
  rw [← hM] at hm
  refine WL.inv T.mix (fun n ts K => ∃ (k : Nat) (out : AV) (L' : List (Trc × AV)), k ≤ L.length ∧ n = L.length - k ∧ Ext h K ∧ M ≤ K.length ∧ K[b4]? = some (.cells (shC [] .nilSlice) true false) ∧ ShGr h.length M K b6 nm L' out ∧ (∀ y ∈ L', (∃ x ∈ L, y.2 = x.2) ∨ ∀ c, c < h.length → NotB c y.2) ∧ L'.map Prod.fst = (L.take k).map (chgT G) ∧ errL E L = errL E (L.drop k) ∧ ts.length = 44 ∧ slot ts 1 = .func (.func f) [] [.ptr c 0] ∧ slot ts 4 = .ptr b4 0 ∧ slot ts 6 = .ptr b6 0 ∧ slot ts 15 = s ∧ slot ts 16 = .int .i64 L.length ∧ slot ts 17 = .int .i64 k) L.length
    ⟨0, .nilSlice, [], by omega, rfl, eY, by omega, m4, .nil m6, fun y hy => by simp at hy, rfl, rfl, Sn, (Sq @t1), Sw, Sw, Sw, Sw, Swr⟩ ?_
  clear hlen t0 t1 eY m4 m6 hM
  rintro _ ts K ⟨k, out, L', hk, rfl, eK, hMK, m4, gr, hN, hL', herr, hlen, t1, t4, t6, t15, t16, t17⟩
  have oK := o.ext eK
  by_cases hlt : k < L.length
  case neg =>
    have e3 := dltF hlt
    have e4 : k = L.length := by omega
    rw [e4, List.take_length] at hL'
    rw [e4, List.drop_length] at herr
    have herr : errL E L = 0 := herr
    have l3 := @ldx _ _ _ gr.m
    have l2 : ldB (some 2) 0 (.cells (shC nm out) true false) = some (.agg [.str nm, out], .keep) := rfl
    have s2 : storeF 2 (.ptr b4 0) (.agg [.str nm, out]) (fun z => K[z]?) = some (undefA, .set b4 (.cells (shC nm out) true false)) := by
      rw [storeF_at m4]; exact sh_st gr.fr.isSl.one
    have k2 : (K.set b4 (.cells (shC nm out) true false))[b4]? = some (.cells (shC nm out) true false) := set_eq' m4
    have f2 := @loadF_at (some 2) b4 0 _ _ k2
    refine Rs (A11 @t1 @t4 @t6 @t15 @t16 @t17 @e3 @l3 @l2 @s2 @f2) ?_
    refine ⟨ext_setG eK n4, _, by rw [herr], ?_⟩
    rw [if_pos herr]
    exact ⟨out, L', rfl, ⟨(gr.fr.setn (gr.fr.notB q4)).isSl, fun x hx => (gr.all x hx).setb (gr.nx x hx b4 n4 q4)⟩, hL', fun c hc => gr.fr.notB (by omega), hN⟩
  have e3 := dltT hlt
  have e5 := wrapN (n := k) (by omega)
  have ix := oK.sl.ixm (kk := .i64) hlt
  obtain ⟨x, hx⟩ : ∃ x, x = L[k] := ⟨_, rfl⟩
  have ld : ∀ {kk : AHeap}, Ext K kk → loadF (some 10) (elp s 10 k) (fun b => kk[b]?) = some (.agg (trRow x), .keep) := fun {kk} e => by rw [hx]; exact oK.sl.ldm hlt e
  have hmem : x ∈ L := by rw [hx]; exact List.getElem_mem _
  have hsx := oK.all x hmem
  have ox := hsx.one
  have htk : L.take (k + 1) = L.take k ++ [x] := by rw [hx]; exact List.take_succ_eq_append_getElem hlt
  have hdk : L.drop k = x :: L.drop (k + 1) := by rw [hx]; exact List.drop_eq_getElem_cons hlt
  rw [hdk, errL_cons] at herr
  have hLk : L'.length = k := by
    have := congrArg List.length hL'
    rw [List.length_map, List.length_map, List.length_take] at this
    omega
  have b10 := @z10_box
  have st := @st_tr x ox
  have gr0 := gr
  have l8v : ldV (trRow x)[8]? = some (.bool x.1.hole, .keep) := rfl
  have l10 := @tr_l10 x
  have oo := gr.fr.isSl.one
  have l3 := @ldx _ _ _ gr.m
  have l3v : ldV (shC nm out)[1]? = some (out, .keep) := rfl
  cases hb : x.1.hole with
  | true =>
    rw [hb, if_pos rfl, if_pos rfl] at herr
    have herr2 := herr
    have bs := @bsl_tr x ox
    have hch : chgT G x = x.1 := by unfold chgT; rw [if_pos hb]
    refine Rs (A20 @t1 @t4 @t6 @t15 @t16 @t17 @e3 @ix @ld @b10 @st @l8v @hb @Bool.not_true @l3 @l3v @l10 @oo @ox @bs) ?_
    obtain ⟨K1, hK1⟩ : ∃ K1, K1 = K ++ [ABlk.cells (trRow x) true false] := ⟨_, rfl⟩
    have eK1 : Ext K K1 := by rw [hK1]; exact Xx
    have hK1l : K1.length = K.length + 1 := by rw [hK1, List.length_append, List.length_singleton]
    rw [← hK1]
    clear hK1
    have gr := gr.ext eK1
    refine ShGr.grow (x := x) gr (eK.trans eK1) hm (by omega) n6 q6 (hsx.ext eK1) ((o.all x hmem).apart_fr gr.fr hm) (fun c h1 h2 => (o.all x hmem).notB h1) (by omega) ?_
    intro W out' eW hMW one' mW grW eS keepM keepc apn
    have s3 := sh_st1 mW one'
    have hlist : (L' ++ [x]).map Prod.fst = (L.take (k + 1)).map (chgT G) := by rw [htk, List.map_append, List.map_append, hL']; rw [show ([x] : List (Trc × AV)).map (chgT G) = [x.1] by rw [List.map_singleton, hch]]; rfl
    refine Rs (A9 @t1 @t4 @t6 @t15 @t16 @t17 @one' @s3 @e5) ?_
    exact ⟨L.length - (k + 1), by omega, k + 1, out', L' ++ [x], by omega, rfl, eS, by rw [List.length_set]; exact hMW, keepM b4 _ q4 n46 (eK1.some m4), grW, fun y' hy' => (List.mem_append.1 hy').elim (hN y') (fun q => by rw [List.mem_singleton.1 q]; exact .inl ⟨x, hmem, rfl⟩), hlist, herr2, rfl⟩
  | false =>
    have hn : ¬ x.1.hole = true := by rw [hb]; decide
    simp only [if_neg hn] at herr
    refine Rs (A15 @t1 @t4 @t6 @t15 @t16 @t17 @e3 @ix @ld @b10 @st @l8v @hb @Bool.not_false @l10) ?_
    obtain ⟨K1, hK1⟩ : ∃ K1, K1 = K ++ [ABlk.cells (trRow x) true false] := ⟨_, rfl⟩
    have eK1 : Ext K K1 := by rw [hK1]; exact Xx
    have m8 : K1[K.length]? = some (.cells (trRow x) true false) := by rw [hK1]; exact at_new
    have hK1l : K1.length = K.length + 1 := by rw [hK1, List.length_append, List.length_singleton]
    rw [← hK1]
    clear hK1
    refine WF.res (a := []) (c := [.ptr c 0]) hA (hf x hmem hb K1 (eK.trans eK1)) ?_
    rintro _ g1 ⟨t, rfl, hfr⟩
    have eG : Ext K1 (K1 ++ g1) := Xx
    by_cases hz : E x = 0
    case neg =>
      have d1 : decide (E x ≠ 0) = true := decide_eq_true hz
      rw [if_neg hz] at herr
      have s4 : storeF 2 (.ptr b4 0) (.agg [.str [], .nilSlice]) (fun z => (K1 ++ g1)[z]?) = some (undefA, .set b4 (.cells (shC [] .nilSlice) true false)) := by
        rw [storeF_at ((eK1.trans eG).some m4)]; exact sh_st rfl
      have k4 : ((K1 ++ g1).set b4 (.cells (shC [] .nilSlice) true false))[b4]? = some (.cells (shC [] .nilSlice) true false) := set_eq' ((eK1.trans eG).some m4)
      have f4 := @loadF_at (some 2) b4 0 _ _ k4
      have l2 : ldB (some 2) 0 (.cells (shC [] .nilSlice) true false) = some (.agg [.str [], .nilSlice], .keep) := rfl
      refine Rs (A11 @t1 @t4 @t6 @t15 @t16 @t17 @d1 @bd0 @s4 @f4 @l2) ?_
      refine ⟨?_, _, by rw [herr], ?_⟩
      · have := ext_setG (X := .cells (shC [] .nilSlice) true false) (eK.trans (eK1.trans eG)) n4
        first | exact this | (rw [List.set_append_left _ _ (List.getElem?_eq_some_iff.1 (eK1.some m4)).1] at this; exact this)
      · rw [herr, if_neg hz]
    have d1 : decide (E x ≠ 0) = false := decide_eq_false fun z => z hz
    rw [if_pos hz] at herr
    have herr2 := herr
    have hfr := hfr hz
    have ot := hfr.isSl.one
    obtain ⟨y, hy⟩ : ∃ y : Trc, y = chgT G x := ⟨_, rfl⟩
    have hy1 : y = ⟨x.1.hd, x.1.hole, G x⟩ := by rw [hy]; unfold chgT; rw [if_neg hn]
    have s9 := st9 (v := t) (t := y) (eG.some m8) ot (by rw [hy1]) (by rw [hy1])
    have hfr : Fr K1.length (K1 ++ g1) t 1 (y.sm.map fltR) := by rw [hy1]; exact hfr
    obtain ⟨K2, hK2⟩ : ∃ K2, K2 = (K1 ++ g1).set K.length (.cells (trRow (y, t)) true false) := ⟨_, rfl⟩
    have hK2' : (K1.set K.length (.cells (trRow (y, t)) true false)) ++ g1 = K2 := by rw [hK2, List.set_append_left _ _ (by omega)]
    refine Rs (A9 @t1 @t4 @t6 @t15 @t16 @t17 @d1 @s9 @ot) ?_
    have eK2 : Ext K K2 := by rw [hK2]; exact ext_setG (eK1.trans eG) (Nat.le_refl _)
    have m8 : K2[K.length]? = some (.cells (trRow (y, t)) true false) := by rw [hK2]; exact set_eq' (eG.some m8)
    have f2 : Fr K1.length K2 t 1 (y.sm.map fltR) := by rw [hK2]; exact hfr.setn (hfr.notB (by omega))
    first | rw [hK2'] | rw [← hK2]
    clear hK2 hK2'
    have hK2l := eK2.len
    have gr := gr.ext eK2
    have l3 := @ldx _ _ _ gr.m
    have l8 := @ldx _ _ _ m8
    have l10 := @tr_l10 (y, t)
    have bs := @bsl_tr (y, t) ot
    refine Rs (A13 @t1 @t4 @t6 @t15 @t16 @t17 @l3 @l3v @l8 @l10 @oo @ot @bs) ?_
    refine ShGr.grow (x := (y, t)) gr (eK.trans eK2) hm (by omega) n6 q6 f2.isSl (gr0.fr.apart_fr f2 (by omega)).symm (fun c h1 h2 => f2.notB (by omega)) (by omega) ?_
    intro W out' eW hMW one' mW grW eS keepM keepc apn
    have s3 := sh_st1 mW one'
    have hlist : (L' ++ [(y, t)]).map Prod.fst = (L.take (k + 1)).map (chgT G) := by rw [htk, List.map_append, List.map_append, hL']; rw [show ([x] : List (Trc × AV)).map (chgT G) = [y] by rw [List.map_singleton, hy]]; rfl
    refine Rs (A9 @t1 @t4 @t6 @t15 @t16 @t17 @one' @s3 @e5) ?_
    exact ⟨L.length - (k + 1), by omega, k + 1, out', L' ++ [(y, t)], by omega, rfl, eS, by rw [List.length_set]; exact hMW, keepM b4 _ q4 n46 (eK2.some m4), grW, fun y' hy' => (List.mem_append.1 hy').elim (hN y') (fun q => by rw [List.mem_singleton.1 q]; exact .inr fun c hc => f2.notB (by omega)), hlist, herr2, rfl⟩
end
end Go.Abs
namespace Go.Abs

theorem grid_z0 : gridE 0 = 0 ∧ gridN 0 = 0 := by
  have := smpl_ok (n := 0) (by omega) (by omega)
  rw [show smpl 0 = 0 by unfold smpl; decide] at this
  exact this.2
/-- A list of samples at an index, 0 where there is none; moved by a number of places. -/
def atF (l : List Nat) (j : Int) : Nat := if 0 ≤ j then l.getD j.toNat 0 else 0
def shfF (l : List Nat) (n : Int) : List Nat := (List.range l.length).map fun i : Nat => atF l ((i : Int) + n)
theorem atF_grid (l : List Nat) (j : Int) : gridN (atF l j) = atZ (l.map gridN) j := by
  unfold atF atZ
  by_cases h : 0 ≤ j
  · rw [if_pos h, if_pos h, List.getD_eq_getElem?_getD, List.getD_eq_getElem?_getD, List.getElem?_map]
    cases l[j.toNat]? with
    | none => exact grid_z0.2
    | some x => rfl
  · rw [if_neg h, if_neg h]; exact grid_z0.2
theorem atF_ok {l : List Nat} (hl : ∀ b ∈ l, gridE b = 0) (j : Int) : gridE (atF l j) = 0 := by
  unfold atF
  by_cases h : 0 ≤ j
  · rw [if_pos h, List.getD_eq_getElem?_getD]
    cases hx : l[j.toNat]? with
    | none => exact grid_z0.1
    | some x => exact hl x (List.mem_of_getElem? hx)
  · rw [if_neg h]; exact grid_z0.1
theorem shfF_grid (l : List Nat) (n : Int) : (shfF l n).map gridN = shfL (l.map gridN) n := by
  unfold shfF shfL genL
  rw [List.map_map, List.length_map]
  exact List.map_congr_left fun i _ => atF_grid l _
theorem shfF_ok {l : List Nat} (hl : ∀ b ∈ l, gridE b = 0) (n : Int) : ∀ b ∈ shfF l n, gridE b = 0 := fun b hb => by
  unfold shfF at hb
  obtain ⟨i, _, rfl⟩ := List.mem_map.1 hb
  exact atF_ok hl _
theorem chkTr_z {t : Trc} (h : chkTr t = 0) : hdE t.hd = 0 ∧ (t.hole = true → t.sm = []) ∧ chkL t.sm = 0 := by
  have q := firstS_z h
  refine ⟨q _ (by simp), fun hb => ?_, q _ (by simp)⟩
  have := q (whenS (t.hole && decide (0 < t.sm.length)) 24) (by simp)
  rw [hb, Bool.true_and] at this
  by_cases hl : 0 < t.sm.length
  · rw [decide_eq_true hl] at this; cases this
  · exact List.eq_nil_of_length_eq_zero (by omega)
theorem chkSh_z {nm : List UInt8} {L : List Trc} (h : chkSh nm L = 0) : nameS nm = true ∧ 0 < L.length ∧ L.length ≤ 64 ∧ ∀ t ∈ L, chkTr t = 0 := by
  have q := firstS_z h
  have q1 := q (whenS (!nameS nm) 8) (by simp)
  have q2 := q (whenS (decide (L.length = 0)) 12) (by simp)
  have q3 := q (whenS (decide (64 < L.length)) 5) (by simp)
  have q4 := q (firstS (L.map chkTr)) (by simp)
  refine ⟨?_, ?_, ?_, fun t ht => firstS_z q4 _ (List.mem_map_of_mem ht)⟩
  · cases hn : nameS nm with
    | true => rfl
    | false => rw [hn] at q1; cases q1
  · refine Nat.pos_of_ne_zero fun z => ?_
    rw [decide_eq_true z] at q2; cases q2
  · refine Nat.not_lt.1 fun z => ?_
    rw [decide_eq_true z] at q3; cases q3
noncomputable def eachE (t : List Int) (x : Trc × AV) : Int := if fitsB (apL t (x.1.sm.map gridN) (-1)) = true then 0 else 4
noncomputable def eachG (t : List Int) (x : Trc × AV) : List Nat := (apL t (x.1.sm.map gridN) (-1)).map smpl
/-- What a changed shot is. -/
def ChgR (h : AHeap) (nm : List UInt8) (L : List (Trc × AV)) (G : Trc × AV → List Nat) (bad : Int) (r : AV) (e : Int) (ex : Int) : Prop := e = firstS [bad, ex] ∧ if e = 0 then ∃ (s' : AV) (L' : List (Trc × AV)), r = .agg [.str nm, s'] ∧ ShOk h L' s' ∧ L'.map Prod.fst = L.map (chgT G) else r = .agg [.str [], .nilSlice]
set_option maxRecDepth 10000
attribute [local irreducible] WP WC WE WB WR WF WL WG WRg WQ
section
variable {P : Program} (T : Tbl P) {h : AHeap}
include T
set_option maxHeartbeats 8000000 in
theorem r16 (rg : Rng h) {nm : List UInt8} {s s0 : AV} {L : List (Trc × AV)} {t : List Int} (o : ShOk h L s) (z : ShSz L) (zl : L.length < 2 ^ 38) (h0 : IsSl h s0 1 (t.map intRow)) (hl0 : t.length < 2 ^ 40) : RCall P 16 [.agg [.str nm, s], s0] h (fun v h' => ∃ (r : AV) (e : Int), v = .tup [r, .int .i64 e] ∧ ChgR h' nm L (eachG t) (firstS [chkSh nm (L.map Prod.fst), chkTp t]) r e (errL (eachE t) L)) := by
  refine .st2 22 T.mix T.c16 ?_;intro ts hlen t0 t1;unfold fn16
  have bx := @sh_box nm s o.sl.one
  have o0 := h0.one
  have b0 : ∀ {N : Nat}, boxF s0 N = some (.ptr N 0, .push (.cells [s0] true false)) := fun {N} => by
    unfold boxF
    rw [h0.cells, if_pos (by simp only [List.all_cons, List.all_nil, o0]; rfl)]
  have bz : ∀ {N : Nat}, boxF (.agg [.str [], .nilSlice]) N = some (.ptr N 0, .push (.cells (shC [] .nilSlice) true false)) := fun {N} => rfl
  have l2 := @sh_l2 nm s
  have bd0 : fillA [.str [], .nilSlice] [] = some [.str [], .nilSlice] := rfl
  refine Rs (A5 @t0 @t1 @bx @b0 @bz) ?_
  obtain ⟨Y, hY⟩ : ∃ Y, Y = h ++ [ABlk.cells (shC nm s) true false] ++ [ABlk.cells [s0] true false] ++ [ABlk.cells (shC [] .nilSlice) true false] := ⟨_, rfl⟩
  have eY : Ext h Y := by rw [hY]; exact Xx
  have m2 : Y[h.length]? = some (.cells (shC nm s) true false) := by rw [hY]; exact at_2
  have m3 : Y[(h ++ [ABlk.cells (shC nm s) true false]).length]? = some (.cells [s0] true false) := by rw [hY]; exact at_1
  have m4 : Y[(h ++ [ABlk.cells (shC nm s) true false] ++ [ABlk.cells [s0] true false]).length]? = some (.cells (shC [] .nilSlice) true false) := by rw [hY]; exact at_new
  obtain ⟨b2, hb2⟩ : ∃ b, b = h.length := ⟨_, rfl⟩
  obtain ⟨b3, hb3⟩ : ∃ b, b = (h ++ [ABlk.cells (shC nm s) true false]).length := ⟨_, rfl⟩
  obtain ⟨b4, hb4⟩ : ∃ b, b = (h ++ [ABlk.cells (shC nm s) true false] ++ [ABlk.cells [s0] true false]).length := ⟨_, rfl⟩
  have n4 : h.length ≤ b4 := by rw [hb4]; simp only [List.length_append]; omega
  rw [← hb2] at m2
  rw [← hb3] at m3
  rw [← hb4] at m4
  rw [← hY, ← hb2, ← hb3, ← hb4]
  clear hY hb2 hb3 hb4
  have i2 := @ldx _ _ _ m2
  have i3 : ∀ {k : AHeap}, Ext Y k → loadF none (.ptr b3 0) (fun z => k[z]?) = some (s0, .keep) := fun {k} e => by rw [loadF_at (e.some m3)]; rfl
  refine Rs (A4 @t0 @t1 @i2 @l2) ?_
  refine WF.ce T.c24 (r24 T (rg.ext eY) (o.ext eY) z) fun g1 => ?_
  refine Rs (A4 @t0 @t1 @i3 @o0) ?_
  refine WF.ce T.c57 (r57 T ((h0.ext eY).ext Xx) hl0) fun g2 => ?_
  refine Rs (A2 @t0 @t1) ?_
  refine WF.ce T.c56 (r56 T (isSl_ints [_, _]) (by simp)) fun g3 => ?_
  obtain ⟨bad, hbad⟩ : ∃ bad, bad = firstS [chkSh nm (L.map Prod.fst), chkTp t] := ⟨_, rfl⟩
  obtain ⟨K1, hK1⟩ : ∃ K, K = Y ++ g1 ++ g2 ++ [ABlk.cells [AV.int .i64 (chkSh nm (L.map Prod.fst)), AV.int .i64 (chkTp t)] true true] ++ g3 := ⟨_, rfl⟩
  have f1 : Ext Y K1 := by rw [hK1]; exact Xx
  rw [← hbad, ← hK1]
  clear hK1
  by_cases hz : bad = 0
  case neg =>
    have d1 : decide (bad ≠ 0) = true := decide_eq_true hz
    have s4 : storeF 2 (.ptr b4 0) (.agg [.str [], .nilSlice]) (fun z => K1[z]?) = some (undefA, .set b4 (.cells (shC [] .nilSlice) true false)) := by
      rw [storeF_at (f1.some m4)]; exact sh_st rfl
    have k4 : (K1.set b4 (.cells (shC [] .nilSlice) true false))[b4]? = some (.cells (shC [] .nilSlice) true false) := set_eq' (f1.some m4)
    have f4 := @loadF_at (some 2) b4 0 _ _ k4
    have l4 : ldB (some 2) 0 (.cells (shC [] .nilSlice) true false) = some (.agg [.str [], .nilSlice], .keep) := rfl
    refine Rs (A7 @t0 @t1 @d1 @bd0 @s4 @f4 @l4) ?_
    refine ⟨ext_setG (eY.trans f1) n4, _, _, rfl, ?_⟩
    unfold ChgR
    rw [firstS, if_neg hz, if_neg hz]
    exact ⟨rfl, rfl⟩
  have d1 : decide (bad ≠ 0) = false := decide_eq_false fun z => z hz
  obtain ⟨c1, c2⟩ := first2 (hbad.symm.trans hz)
  obtain ⟨_, _, _, hct⟩ := chkSh_z c1
  have ht := chkTp_z c2
  have i2 := @ldx _ _ _ (f1.some m2)
  refine Rs (A5 @t0 @t1 @d1 @i2 @l2) ?_
  refine WF.res T.c58 (r58 T (o.ext (eY.trans f1)) zl T.c59 (c := b3) (E := eachE t) (G := eachG t) (fun x hx hb k ek => ?_)) ?_
  · have hcx := chkTr_z (hct x.1 (List.mem_map_of_mem hx))
    have ekh := eY.trans (f1.trans ek)
    refine (r59 T (b := b3) (s0 := s0) (t := t) ((f1.trans ek).some m3) (h0.ext ekh) ht ((o.all x hx).ext ekh) hcx.2.2).mono ?_
    rintro _ _ ⟨w, e, rfl, hw⟩
    by_cases hf : fitsB (apL t (x.1.sm.map gridN) (-1)) = true
    · rw [if_pos hf] at hw
      obtain ⟨hw, rfl⟩ := hw
      have e0 : eachE t x = 0 := if_pos hf
      exact ⟨w, by rw [e0], fun _ => hw⟩
    · rw [if_neg hf] at hw
      obtain ⟨rfl, rfl⟩ := hw
      have e0 : eachE t x = 4 := if_neg hf
      exact ⟨.nilSlice, by rw [e0], fun q => by rw [e0] at q; cases q⟩
  rintro _ g4 ⟨r, rfl, hr⟩
  obtain ⟨ex, hex⟩ : ∃ ex, ex = errL (eachE t) L := ⟨_, rfl⟩
  rw [← hex] at hr ⊢
  have eg : Ext K1 (K1 ++ g4) := ⟨g4, rfl⟩
  have fin : firstS [bad, ex] = ex := by
    rw [hz]
    show (if (0 : Int) = 0 then (if ex = 0 then 0 else ex) else 0) = ex
    rw [if_pos rfl]
    by_cases q : ex = 0
    · rw [if_pos q, q]
    · rw [if_neg q]
  by_cases hq : ex = 0
  · rw [if_pos hq] at hr
    obtain ⟨s', L', rfl, ok', hl', hn1, hn2⟩ := hr
    have b4K : b4 < K1.length := (List.getElem?_eq_some_iff.1 (f1.some m4)).1
    have okS : ShOk ((K1 ++ g4).set b4 (.cells (shC nm s') true false)) L' s' := ⟨ok'.sl.setb (hn1 b4 b4K), fun y hy => (ok'.all y hy).setb ((hn2 y hy).elim (fun ⟨x, hx, q⟩ => by rw [q]; exact (o.all x hx).notB n4) fun q => q b4 b4K)⟩
    have eS : Ext h ((K1 ++ g4).set b4 (.cells (shC nm s') true false)) := ext_setG (eY.trans (f1.trans eg)) n4
    have s4 : storeF 2 (.ptr b4 0) (.agg [.str nm, s']) (fun z => (K1 ++ g4)[z]?) = some (undefA, .set b4 (.cells (shC nm s') true false)) := by
      rw [storeF_at ((f1.trans eg).some m4)]; exact sh_st ok'.sl.one
    have k4 : ((K1 ++ g4).set b4 (.cells (shC nm s') true false))[b4]? = some (.cells (shC nm s') true false) := set_eq' ((f1.trans eg).some m4)
    have f4 := @loadF_at (some 2) b4 0 _ _ k4
    have l4 := @sh_l2 nm s'
    have hsw : K1.set b4 (.cells (shC nm s') true false) ++ g4 = (K1 ++ g4).set b4 (.cells (shC nm s') true false) := by rw [List.set_append_left _ _ (List.getElem?_eq_some_iff.1 (f1.some m4)).1]
    refine Rs (A5 @t0 @t1 @s4 @f4 @l4) ?_
    rw [hsw]
    refine ⟨eS, _, _, rfl, ?_⟩
    unfold ChgR
    rw [fin, if_pos hq]
    exact ⟨rfl, s', L', rfl, okS, hl'⟩
  · rw [if_neg hq] at hr
    subst hr
    have s4 : storeF 2 (.ptr b4 0) (.agg [.str [], .nilSlice]) (fun z => (K1 ++ g4)[z]?) = some (undefA, .set b4 (.cells (shC [] .nilSlice) true false)) := by
      rw [storeF_at ((f1.trans eg).some m4)]; exact sh_st rfl
    have k4 : ((K1 ++ g4).set b4 (.cells (shC [] .nilSlice) true false))[b4]? = some (.cells (shC [] .nilSlice) true false) := set_eq' ((f1.trans eg).some m4)
    have f4 := @loadF_at (some 2) b4 0 _ _ k4
    have l4 := @sh_l2 [] .nilSlice
    refine Rs (A5 @t0 @t1 @s4 @f4 @l4) ?_
    refine ⟨?_, _, _, rfl, ?_⟩
    · have := ext_setG (X := .cells (shC [] .nilSlice) true false) (eY.trans (f1.trans eg)) n4
      first | exact this | (rw [List.set_append_left _ _ (List.getElem?_eq_some_iff.1 (f1.some m4)).1] at this; exact this)
    · unfold ChgR
      rw [fin, if_neg hq]
      exact ⟨rfl, rfl⟩
end
end Go.Abs
namespace Go.Abs

theorem set_td {α : Type} {A B : List α} (hl : A.length = B.length) {k : Nat} (hk : k < A.length) {x : α} (hx : x = A[k]) : (A.take k ++ B.drop k).set k x = A.take (k + 1) ++ B.drop (k + 1) := by
  have h1 : (A.take k).length = k := by rw [List.length_take]; omega
  rw [List.set_append_right _ _ (by omega), h1, Nat.sub_self, List.drop_eq_getElem_cons (by omega), List.set_cons_zero, List.take_succ_eq_append_getElem hk, hx, List.append_assoc]
  rfl
theorem shfF_len (l : List Nat) (n : Int) : (shfF l n).length = l.length := by simp [shfF]
set_option maxRecDepth 10000
attribute [local irreducible] WP WC WE WB WR WF WL WG WRg WQ
section
variable {P : Program} (T : Tbl P) {h : AHeap}
include T
end
end Go.Abs
namespace Go.Abs

theorem td_skip {α : Type} {A B : List α} (hl : A.length = B.length) {k : Nat} (hk : k < A.length) (hx : A[k] = B[k]'(by omega)) : A.take k ++ B.drop k = A.take (k + 1) ++ B.drop (k + 1) := by
  rw [List.take_succ_eq_append_getElem hk, List.drop_eq_getElem_cons (show k < B.length by omega), hx, List.append_assoc]
  rfl
/-- A list of traces that grows: one more. -/
theorem grow_tr {P : Program} {ro : Option Nat → Prop} {ks : List Kt} {ts : TS} {Q : Ex → TS → AHeap → Prop} {d : Option Nat} {l : List IOp} {h Y : AHeap} {L : List (Trc × AV)} {out : AV} (fr : Fr h.length Y out 10 (L.map trRow)) (all : ∀ y ∈ L, Fr h.length Y y.2 1 (y.1.sm.map fltR) ∧ Apart y.2 out) (eY : Ext h Y) {x : Trc × AV} (hx : Fr h.length Y x.2 1 (x.1.sm.map fltR)) (hap : Apart x.2 out) (hl : L.length < 2 ^ 38)
    (C : ∀ (W : AHeap) (out' : AV), Ext h W → out'.one = true → Fr h.length W out' 10 ((L ++ [x]).map trRow) → (∀ y ∈ L ++ [x], Fr h.length W y.2 1 (y.1.sm.map fltR) ∧ Apart y.2 out') → WP P ro l ks (put ts d out') W Q) :
    WR P ro (appT 10 96 out (.slice Y.length 0 1 10) (fun z => (Y ++ [ABlk.cells (trRow x) true true])[z]?) (Y ++ [ABlk.cells (trRow x) true true]).length) false d l ks ts (Y ++ [ABlk.cells (trRow x) true true]) Q := by
  have hyz : IsSl (Y ++ [ABlk.cells (trRow x) true true]) (AV.slice Y.length 0 1 10) 10 [trRow x] := by
    have := (Fr.push (N := 0) (es := 10) (h := Y) (Nat.zero_le _) [trRow x] (fun y hy => by rw [List.mem_singleton] at hy; rw [hy]; rfl)).isSl
    simpa using this
  refine WR.app1 (h0 := h) (cs := L.map trRow) (ys := [trRow x]) (fr.app _) hyz (by decide) (by simp) (by rw [List.length_map, List.length_singleton]; omega) (eY.trans (Ext.app _ (Ext.refl _))) ?_
  intro g' hl' hff hkp
  have keep : ∀ c, c < Y.length → (∀ b0 o n e, out = .slice b0 o n e → c ≠ b0) → (h ++ g')[c]? = Y[c]? := fun c hc hn => by
    rw [hkp c (by rw [List.length_append]; omega) hn, List.getElem?_append_left hc]
  have hrow : L.map trRow ++ [trRow x] = (L ++ [x]).map trRow := by rw [List.map_append]; rfl
  rw [hrow] at hff ⊢
  obtain ⟨out', ho⟩ : ∃ s, s = AV.slice (Y ++ [ABlk.cells (trRow x) true true]).length 0 ((L ++ [x]).map trRow).length 10 := ⟨_, rfl⟩
  have one' : out'.one = true := by rw [ho]; rfl
  have apn : ∀ {es : Nat} {s : AV} {cs : List (List AV)}, IsSl Y s es cs → Apart s out' := fun {es s cs} q => by
    rw [ho]; exact q.apart_new (by rw [List.length_append]; omega)
  rw [← ho] at hff ⊢
  have kp : ∀ {es : Nat} {s : AV} {cs : List (List AV)}, Fr h.length Y s es cs → Apart s out → Fr h.length (h ++ g') s es cs := fun {es s cs} o ap => by
    cases o with
    | nil => exact .nil
    | mk hN hb he => exact .mk hN ((keep _ (List.getElem?_eq_some_iff.1 hb).1 fun b0 o2 n2 e2 q => ap _ _ _ _ _ _ _ _ rfl q).trans hb) he
  refine C _ out' ⟨g', rfl⟩ one' hff fun y hy => ?_
  rcases List.mem_append.1 hy with hy | hy
  · exact ⟨kp (all y hy).1 (all y hy).2, apn (all y hy).1.isSl⟩
  · rw [List.mem_singleton.1 hy]; exact ⟨kp hx hap, apn hx.isSl⟩
/-- A trace that comes n samples later. -/
noncomputable def delT (n : Int) (t : Trc) : Trc := ⟨t.hd, t.hole, if t.hole = true then [] else shfF t.sm (-n)⟩
set_option maxRecDepth 10000
attribute [local irreducible] WP WC WE WB WR WF WL WG WRg WQ
section
variable {P : Program} (T : Tbl P) {h : AHeap}
include T
set_option maxHeartbeats 2000000 in
theorem r28 {x : Trc × AV} (ox : x.2.one = true) {w : AV} (ow : w.one = true) (cw : w.cells = [w]) : RCall P 28 [.agg (trRow x), w] h (fun v _ => v = .agg (trRow (x.1, if x.1.hole = true then .nilSlice else w))) := by
  refine .st2 13 T.mix T.c28 ?_;intro ts hlen t0 t1;unfold fn28
  have bx : ∀ {N : Nat}, boxF (.agg (trRow x)) N = some (.ptr N 0, .push (.cells (trRow x) true false)) := fun {N} => tr_box ox
  have b10 := @z10_box
  have l8v : ldV (trRow x)[8]? = some (.bool x.1.hole, .keep) := rfl
  have l8 := @tr_l8 x
  cases hb : x.1.hole with
  | true =>
    have bd := @fill_tr (x.1, .nilSlice) rfl
    rw [show (x.1, AV.nilSlice).1.hole = true from hb] at bd
    have st := @st_tr (x.1, .nilSlice) rfl
    have l10 := @tr_l10 (x.1, .nilSlice)
    rw [if_pos rfl]
    exact Rs (A10 @t0 @t1 @bx @b10 @l8v @hb @l8 @bd @st @l10) trivial
  | false =>
    have bd := @fill_tr (x.1, w) cw
    rw [show (x.1, w).1.hole = false from hb] at bd
    have st := @st_tr (x.1, w) ow
    have l10 := @tr_l10 (x.1, w)
    rw [if_neg (by decide)]
    repeat (first | simp (config := { maxSteps := 1000000 }) only [wset, hset, dset, bset, Nat.reduceAdd, Nat.reduceMul, Nat.reduceLeDiff, Nat.reduceEqDiff, pset, hlen, if_false, if_true, t0, t1, bx, b10, l8v, hb, l8, bd, st, l10, ow] | simp (config := { maxSteps := 1000000 }) (disch := first | (simp only [List.length_append, List.length_cons, List.length_nil] <;> omega) | rfl | omega | fail) only [kset, wset, hset, dset, bset, Nat.reduceAdd, Nat.reduceMul, Nat.reduceLeDiff, Nat.reduceEqDiff, pset, hlen, if_false, if_true, t0, t1, bx, b10, l8v, hb, l8, bd, st, l10, ow])
set_option maxHeartbeats 8000000 in
theorem r27 {c : Nat} {n : Int} (mc : h[c]? = some (.cells [.int .i64 n] true false)) (hn : -1024 ≤ n ∧ n ≤ 1024) {x : Trc × AV} (hx : IsSl h x.2 1 (x.1.sm.map fltR)) (hl : x.1.sm.length ≤ 1024) : RCall P 27 [.agg (trRow x), .ptr c 0] h (fun v h' => ∃ w : AV, v = .agg (trRow (delT n x.1, w)) ∧ Fr h.length h' w 1 ((delT n x.1).sm.map fltR)) := by
  refine .st2 39 T.mix T.c27 ?_;intro ts hlen t0 t1;unfold fn27
  have ox := hx.one
  have bx : ∀ {N : Nat}, boxF (.agg (trRow x)) N = some (.ptr N 0, .push (.cells (trRow x) true false)) := fun {N} => tr_box ox
  have b10 := @z10_box
  have l9v : ldV (trRow x)[9]? = some (x.2, .keep) := rfl
  have hlm := fun G => hx.lenm G
  obtain ⟨A, hA⟩ : ∃ A, A = shfF x.1.sm (-n) := ⟨_, rfl⟩
  have hAl : A.length = x.1.sm.length := by rw [hA, shfF_len]
  have hAk : ∀ (k : Nat) (hk : k < A.length), A[k] = atF x.1.sm ((k : Int) - n) := fun k hk => by simp only [hA, shfF, List.getElem_map, List.getElem_range]; rw [Int.sub_eq_add_neg]
  refine Rs (A6 @t0 @t1 @bx @b10 @l9v @hlm) ?_
  obtain ⟨B, hB⟩ : ∃ B, B = h ++ [ABlk.cells (trRow x) true false] ++ [ABlk.cells z10 true false] := ⟨_, rfl⟩
  have eB : Ext h B := by rw [hB]; exact Xx
  have m2 : B[h.length]? = some (.cells (trRow x) true false) := by rw [hB]; exact at_1
  have m3 : B[(h ++ [ABlk.cells (trRow x) true false]).length]? = some (.cells z10 true false) := by rw [hB]; exact at_new
  obtain ⟨b2, hb2⟩ : ∃ b, b = h.length := ⟨_, rfl⟩
  obtain ⟨b3, hb3⟩ : ∃ b, b = (h ++ [ABlk.cells (trRow x) true false]).length := ⟨_, rfl⟩
  have n3 : h.length ≤ b3 := by rw [hb3]; simp only [List.length_append]; omega
  have hbe := hb2
  rw [← hb2] at m2
  rw [← hb3] at m3
  rw [← hB, ← hb2, ← hb3]
  clear hB hb2 hb3
  repeat (first | simp (config := { maxSteps := 1000000 }) only [wset, hset, dset, bset, Nat.reduceAdd, Nat.reduceMul, Nat.reduceLeDiff, Nat.reduceEqDiff, pset, hlen, if_false, if_true, t0, t1, mksl_ok (es := 1) (w := 4) (N0 := B.length) (n := x.1.sm.length) (z := [AV.flt .f32 0]) (k := .i64) (k' := .i64) (by omega) (by omega)] | simp (config := { maxSteps := 1000000 }) (disch := first | (simp only [List.length_append, List.length_cons, List.length_nil] <;> omega) | rfl | omega | fail) only [kset, wset, hset, dset, bset, Nat.reduceAdd, Nat.reduceMul, Nat.reduceLeDiff, Nat.reduceEqDiff, pset, hlen, if_false, if_true, t0, t1, mksl_ok (es := 1) (w := 4) (N0 := B.length) (n := x.1.sm.length) (z := [AV.flt .f32 0]) (k := .i64) (k' := .i64) (by omega) (by omega)])
  have hF := Fr.zeros (N := B.length) (n := x.1.sm.length) (h := B) (z := [AV.flt .f32 0]) (es := 1) (Nat.le_refl _) rfl
  obtain ⟨sv, hsv⟩ : ∃ sv, sv = AV.slice B.length 0 x.1.sm.length 1 := ⟨_, rfl⟩
  have lsv : ∀ {G : Nat → Option ABlk}, lenG .sl G sv = some x.1.sm.length := fun {G} => by rw [hsv]; rfl
  rw [← hsv] at hF ⊢
  obtain ⟨Z, hZ⟩ : ∃ Z, Z = List.replicate x.1.sm.length (0 : Nat) := ⟨_, rfl⟩
  have hZl : Z.length = x.1.sm.length := by rw [hZ, List.length_replicate]
  have hZk : ∀ (k : Nat) (hk : k < Z.length), Z[k] = 0 := fun k hk => by simp only [hZ, List.getElem_replicate]
  have er : List.replicate x.1.sm.length [AV.flt .f32 0] = Z.map fltR := by rw [hZ]; simp [fltR]
  rw [er] at hF
  refine Rs (A3 @t0 @t1 @lsv) ?_
  refine WL.inv T.mix (fun m ts K => ∃ (k : Nat) (G : AHeap), k ≤ A.length ∧ m = A.length - k ∧ K = B ++ G ∧ Fr B.length K sv 1 ((A.take k ++ Z.drop k).map fltR) ∧ ts.length = 39 ∧ slot ts 1 = .ptr c 0 ∧ slot ts 2 = .ptr b2 0 ∧ slot ts 3 = .ptr b3 0 ∧ slot ts 4 = sv ∧ slot ts 12 = .int .i64 x.1.sm.length ∧ slot ts 13 = .int .i64 k) A.length
    ⟨0, _, by omega, rfl, rfl, hF, Sn, (Sq @t1), Sw, Sw, Sw, Sw, Swr⟩ ?_
  clear hlen t0 t1
  rintro _ ts _ ⟨k, G, hk, rfl, rfl, hfr, hlen, t1, t2, t3, t4, t12, t13⟩
  have eK : Ext B (B ++ G) := ⟨G, rfl⟩
  have i2 := @ldx _ _ _ (eK.some m2)
  have osv := hfr.isSl.one
  by_cases hlt : k < x.1.sm.length
  case neg =>
    have e3 := dltF hlt
    have e4 : k = A.length := by omega
    rw [e4, List.take_length, hAl, ← hZl, List.drop_length, List.append_nil] at hfr
    have l10 := @tr_l10 x
    refine Rs (A10 @t1 @t2 @t3 @t4 @t12 @t13 @e3 @i2 @l10 @osv) ?_
    refine WF.ce T.c28 (r28 T ox osv hfr.isSl.cells) fun g5 => ?_
    have eG : Ext B (B ++ G ++ g5) := eK.trans ⟨g5, rfl⟩
    obtain ⟨w, hw⟩ : ∃ w : AV, w = if x.1.hole = true then .nilSlice else sv := ⟨_, rfl⟩
    rw [← hw]
    have ow : w.one = true := by
      rw [hw]; split
      · rfl
      · exact osv
    have st : storeF 10 (.ptr b3 0) (.agg (trRow (x.1, w))) (fun z => (B ++ G ++ g5)[z]?) = some (undefA, .set b3 (.cells (trRow (x.1, w)) true false)) := by
      rw [storeF_at (eG.some m3)]; exact st_tr ow
    have k3 : ((B ++ G ++ g5).set b3 (.cells (trRow (x.1, w)) true false))[b3]? = some (.cells (trRow (x.1, w)) true false) := set_eq' (eG.some m3)
    have f3 := @loadF_at (some 10) b3 0 _ _ k3
    have l3 := @tr_l10 (x.1, w)
    have b3B := (List.getElem?_eq_some_iff.1 m3).1
    obtain ⟨W, hW⟩ : ∃ W, W = (B ++ G ++ g5).set b3 (.cells (trRow (x.1, w)) true false) := ⟨_, rfl⟩
    have eW : Ext h W := by rw [hW]; exact ext_setG (eB.trans eG) n3
    have hfW : Fr h.length W w 1 ((delT n x.1).sm.map fltR) := by
      rw [hw]
      unfold delT
      by_cases hb : x.1.hole = true
      · simp only [if_pos hb, List.map_nil]; exact .nil
      · simp only [if_neg hb, ← hA]
        rw [hW]
        exact ((hfr.app g5).setn ((hfr.app g5).notB b3B)).low eB.len
    refine Rs (A9 @t1 @t2 @t3 @t4 @t12 @t13 @st @f3 @l3) ?_
    have hW1 : B.set b3 (.cells (trRow (x.1, w)) true false) ++ G ++ g5 = W := by rw [hW, List.append_assoc, List.append_assoc, List.set_append_left _ _ b3B]
    first | rw [hW1] | rw [← hW]
    exact ⟨by first | exact eW | (rw [hbe]; exact eW), w, rfl, by first | exact hfW | (rw [hbe]; exact hfW)⟩
  have e3 := dltT hlt
  have e5 := wrapN (n := k) (by omega)
  have hkA : k < A.length := by omega
  have hkZ : k < Z.length := by omega
  have w1 : IntKind.i64.wrap ((k : Int) - n) = (k : Int) - n := wrap_in (by omega) (by omega)
  have lc : ∀ {kk : AHeap}, Ext (B ++ G) kk → loadF none (.ptr c 0) (fun z => kk[z]?) = some (.int .i64 n, .keep) := fun {kk} e => by rw [loadF_at (e.some ((eB.trans eK).some mc))]; rfl
  have hat := hAk k hkA
  have hxK := hx.ext (eB.trans eK)
  have lsv' : ∀ {G : Nat → Option ABlk}, lenG .sl G sv = some x.1.sm.length := lsv
  by_cases hneg : 0 ≤ (k : Int) - n
  case neg =>
    have d2 : decide (0 ≤ (k : Int) - n) = false := decide_eq_false hneg
    have e0 : A[k] = Z[k] := by rw [hat, hZk]; unfold atF; rw [if_neg hneg]
    rw [td_skip (hAl.trans hZl.symm) hkA e0] at hfr
    refine Rs (A11 @t1 @t2 @t3 @t4 @t12 @t13 @e3 @lc @w1 @d2 @e5) ?_
    exact ⟨A.length - (k + 1), by omega, k + 1, G, by omega, rfl, rfl, hfr, rfl⟩
  have d2 : decide (0 ≤ (k : Int) - n) = true := decide_eq_true hneg
  obtain ⟨q, hq⟩ : ∃ q : Nat, (k : Int) - n = (q : Int) := ⟨((k : Int) - n).toNat, by omega⟩
  rw [hq] at w1 d2 hat
  have w1' : IntKind.i64.wrap ((k : Int) - n) = (q : Int) := by rw [hq]; exact w1
  by_cases hql : q < x.1.sm.length
  case neg =>
    have d3 : decide ((q : Int) < (x.1.sm.length : Int)) = false := decide_eq_false (by omega)
    have e0 : A[k] = Z[k] := by
      rw [hat, hZk]; unfold atF
      rw [if_pos (by omega), List.getD_eq_getElem?_getD, Int.toNat_natCast, List.getElem?_eq_none (by omega)]; rfl
    rw [td_skip (hAl.trans hZl.symm) hkA e0] at hfr
    refine Rs (A13 @t1 @t2 @t3 @t4 @t12 @t13 @e3 @lc @w1' @d2 @lsv' @d3 @e5) ?_
    exact ⟨A.length - (k + 1), by omega, k + 1, G, by omega, rfl, rfl, hfr, rfl⟩
  have d3 : decide ((q : Int) < (x.1.sm.length : Int)) = true := decide_eq_true (by omega)
  obtain ⟨y, hy⟩ : ∃ y, y = x.1.sm[q] := ⟨_, rfl⟩
  have e0 : y = A[k] := by
    rw [hat]; unfold atF
    rw [if_pos (by omega), List.getD_eq_getElem?_getD, Int.toNat_natCast, List.getElem?_eq_getElem hql, hy]; rfl
  have ixq := hxK.ixm (kk := .i64) hql
  have ldq : ∀ {kk : AHeap}, Ext (B ++ G) kk → loadF none (elp x.2 1 q) (fun b => kk[b]?) = some (.flt .f32 y, .keep) := fun {kk} e => by rw [hy]; exact hxK.l1m hql rfl e
  have hpl : (A.take k ++ Z.drop k).length = x.1.sm.length := by rw [List.length_append, List.length_take, List.length_drop]; omega
  have ixv := hfr.isSl.ixm (kk := .i64) (show k < _ by rw [hpl]; exact hlt)
  refine Rs (A17 @t1 @t2 @t3 @t4 @t12 @t13 @e3 @lc @w1' @d2 @lsv' @d3 @i2 @l9v @ixq @ldq @ixv) ?_
  refine WR.put1 (h0 := B) (off := 0) (row := fltR) (x' := y) hfr (by rw [hpl]; exact hlt) (by decide) rfl rfl ?_
  intro g4 hl4 hF4 _
  rw [set_td (hAl.trans hZl.symm) hkA e0] at hF4
  refine Rs (A7 @t1 @t2 @t3 @t4 @t12 @t13 @e5) ?_
  exact ⟨A.length - (k + 1), by omega, k + 1, g4, by omega, rfl, rfl, hF4, rfl⟩
set_option maxHeartbeats 8000000 in
theorem r75 {s : AV} {L : List (Trc × AV)} (o : ShOk h L s) (zl : L.length < 2 ^ 38) {f : FuncId} {AF : AFunc} (hA : compileFn P f = some AF) {c : List AV} {G : Trc → Trc} (hf : ∀ x ∈ L, ∀ k, Ext h k → RCall P f (.agg (trRow x) :: c) k (fun v k' => ∃ w : AV, v = .agg (trRow (G x.1, w)) ∧ Fr k.length k' w 1 ((G x.1).sm.map fltR))) : RCall P 75 [s, .func (.func f) [] c] h (fun v h' => ∃ L' : List (Trc × AV), Fr h.length h' v 10 (L'.map trRow) ∧ (∀ y ∈ L', Fr h.length h' y.2 1 (y.1.sm.map fltR)) ∧ L'.map Prod.fst = L.map (fun x => G x.1)) := by
  refine .st2 22 T.mix T.c75 ?_;intro ts hlen t0 t1;unfold fn75
  refine Rs (A3 @t0 @t1 o.sl.lenm) ?_
  refine WL.inv T.mix (fun n ts K => ∃ (k : Nat) (t : AV) (L' : List (Trc × AV)), k ≤ L.length ∧ n = L.length - k ∧ Ext h K ∧ Fr h.length K t 10 (L'.map trRow) ∧ (∀ y ∈ L', Fr h.length K y.2 1 (y.1.sm.map fltR) ∧ Apart y.2 t) ∧ L'.map Prod.fst = (L.take k).map (fun x => G x.1) ∧ ts.length = 22 ∧ slot ts 1 = .func (.func f) [] c ∧ slot ts 5 = t ∧ slot ts 8 = s ∧ slot ts 9 = .int .i64 L.length ∧ slot ts 10 = .int .i64 k) L.length
    ⟨0, .nilSlice, [], by omega, rfl, .refl _, .nil, (fun y hy => by cases hy), rfl, Sn, (Sq @t1), Sw, Sw, Sw, Swr⟩ ?_
  clear hlen t0 t1
  rintro _ ts K ⟨k, t, L', hk, rfl, eK, hfr, hall, hL', hlen, t1, t5, t8, t9, t10⟩
  have hsK := o.sl.ext eK
  by_cases hlt : k < L.length
  case neg =>
    have e3 := dltF hlt
    have e4 : k = L.length := by omega
    rw [e4, List.take_length] at hL'
    refine Rs (A6 @t1 @t5 @t8 @t9 @t10 @e3) ?_
    exact ⟨eK, L', hfr, fun y hy => (hall y hy).1, hL'⟩
  have e3 := dltT hlt
  have e5 := wrapN (n := k) (by omega)
  have ix := hsK.ixm (kk := .i64) hlt
  obtain ⟨x, hx⟩ : ∃ x, x = L[k] := ⟨_, rfl⟩
  have ld : ∀ {kk : AHeap}, Ext K kk → loadF (some 10) (elp s 10 k) (fun b => kk[b]?) = some (.agg (trRow x), .keep) := fun {kk} e => by rw [hx]; exact hsK.ldm hlt e
  have hmem : x ∈ L := by rw [hx]; exact List.getElem_mem _
  have ox := (o.all x hmem).one
  have ot := hfr.isSl.one
  have htk : L.take (k + 1) = L.take k ++ [x] := by rw [hx]; exact List.take_succ_eq_append_getElem hlt
  have hLk : L'.length = k := by
    have := congrArg List.length hL'
    rw [List.length_map, List.length_map, List.length_take] at this
    omega
  have bz := @z10_box
  have st := @st_tr x ox
  have l10 := @tr_l10 x
  refine Rs (A12 @t1 @t5 @t8 @t9 @t10 @e3 @ix @ld @bz @st @l10 @ot) ?_
  obtain ⟨K1, hK1⟩ : ∃ K1, K1 = K ++ [ABlk.cells (trRow x) true false] := ⟨_, rfl⟩
  have eK1 : Ext K K1 := by rw [hK1]; exact Xx
  rw [← hK1]
  clear hK1
  refine WF.res (a := []) (c := c) hA (hf x hmem K1 (eK.trans eK1)) ?_
  rintro _ g1 ⟨w, rfl, hw⟩
  have eG : Ext K1 (K1 ++ g1) := Xx
  have ow := hw.isSl.one
  have bs := @bsl_tr (G x.1, w) ow
  have kl := (eK.trans eK1).len
  have kl1 := eK1.len
  refine Rs (A7 @t1 @t5 @t8 @t9 @t10 @ot @bs) ?_
  refine grow_tr (h := h) (x := (G x.1, w)) (hfr.ext (eK1.trans eG)) (fun y hy => ⟨(hall y hy).1.ext (eK1.trans eG), (hall y hy).2⟩) (eK.trans (eK1.trans eG)) (hw.low kl) (hfr.apart_fr hw kl1).symm (by omega) ?_
  intro W out' eW one' hfr' hall'
  have hlist : (L' ++ [(G x.1, w)]).map Prod.fst = (L.take (k + 1)).map (fun x => G x.1) := by rw [htk, List.map_append, List.map_append, hL']; rfl
  refine Rs (A7 @t1 @t5 @t8 @t9 @t10 @one' @e5) ?_
  exact ⟨L.length - (k + 1), by omega, k + 1, out', L' ++ [(G x.1, w)], by omega, rfl, eW, hfr', hall', hlist, rfl, rfl⟩
end
end Go.Abs
namespace Go.Abs

set_option maxRecDepth 10000
attribute [local irreducible] WP WC WE WB WR WF WL WG WRg WQ
section
variable {P : Program} (T : Tbl P) {h : AHeap}
include T
set_option maxHeartbeats 4000000 in
theorem r26 {nm : List UInt8} {s : AV} {L : List (Trc × AV)} (o : ShOk h L s) (zl : L.length < 2 ^ 38) {f : FuncId} {AF : AFunc} (hA : compileFn P f = some AF) {c : List AV} {G : Trc → Trc} (hf : ∀ x ∈ L, ∀ k, Ext h k → RCall P f (.agg (trRow x) :: c) k (fun v k' => ∃ w : AV, v = .agg (trRow (G x.1, w)) ∧ Fr k.length k' w 1 ((G x.1).sm.map fltR))) : RCall P 26 [.agg [.str nm, s], .func (.func f) [] c] h (fun v h' => ∃ (s' : AV) (L' : List (Trc × AV)), v = .agg [.str nm, s'] ∧ Fr h.length h' s' 10 (L'.map trRow) ∧ (∀ y ∈ L', Fr h.length h' y.2 1 (y.1.sm.map fltR)) ∧ L'.map Prod.fst = L.map (fun x => G x.1)) := by
  refine .st2 12 T.mix T.c26 ?_;intro ts hlen t0 t1;unfold fn26
  have bx := @sh_box nm s o.sl.one
  have bz : ∀ {N : Nat}, boxF (.agg [.str [], .nilSlice]) N = some (.ptr N 0, .push (.cells (shC [] .nilSlice) true false)) := fun {N} => rfl
  have ln : ldV (shC nm s)[0]? = some (.str nm, .keep) := rfl
  have ls : ldV (shC nm s)[1]? = some (s, .keep) := rfl
  have os := o.sl.one
  repeat (first | simp (config := { maxSteps := 1000000 }) only [wset, hset, dset, bset, Nat.reduceAdd, Nat.reduceMul, Nat.reduceLeDiff, Nat.reduceEqDiff, pset, hlen, if_false, if_true, t0, t1, bx, bz, ln, ls, os] | simp (config := { maxSteps := 1000000 }) (disch := first | (simp only [List.length_append, List.length_cons, List.length_nil] <;> omega) | rfl | omega | fail) only [kset, wset, hset, dset, bset, Nat.reduceAdd, Nat.reduceMul, Nat.reduceLeDiff, Nat.reduceEqDiff, pset, hlen, if_false, if_true, t0, t1, bx, bz, ln, ls, os])
  obtain ⟨K1, hK1⟩ : ∃ K1, K1 = h ++ [ABlk.cells (shC nm s) true false] ++ [ABlk.cells (shC [] .nilSlice) true false] := ⟨_, rfl⟩
  have eK1 : Ext h K1 := by rw [hK1]; exact Xx
  have m4 : K1[(h ++ [ABlk.cells (shC nm s) true false]).length]? = some (.cells (shC [] .nilSlice) true false) := by rw [hK1]; exact at_new
  obtain ⟨b4, hb4⟩ : ∃ b, b = (h ++ [ABlk.cells (shC nm s) true false]).length := ⟨_, rfl⟩
  have n4 : h.length ≤ b4 := by rw [hb4]; simp only [List.length_append]; omega
  rw [← hb4] at m4
  rw [← hK1, ← hb4]
  clear hK1 hb4
  refine WF.res T.c75 (r75 T (o.ext eK1) zl hA (fun x hx k ek => hf x hx k (eK1.trans ek))) ?_
  rintro v g1 ⟨L', fr, all, fl⟩
  have b4K := (List.getElem?_eq_some_iff.1 m4).1
  have eg : Ext K1 (K1 ++ g1) := ⟨g1, rfl⟩
  have ov := fr.isSl.one
  have bd : fillA [.str [], .nilSlice] [(0, 1, .str nm), (1, 1, v)] = some [.str nm, v] := by
    unfold fillA
    rw [if_pos ⟨rfl, by decide⟩]
    unfold fillA
    rw [fr.isSl.cells, if_pos ⟨rfl, by show 1 + 1 ≤ 2; omega⟩]
    rfl
  have s4 : storeF 2 (.ptr b4 0) (.agg [.str nm, v]) (fun z => (K1 ++ g1)[z]?) = some (undefA, .set b4 (.cells (shC nm v) true false)) := by
    rw [storeF_at (eg.some m4)]; exact sh_st ov
  have k4 : ((K1 ++ g1).set b4 (.cells (shC nm v) true false))[b4]? = some (.cells (shC nm v) true false) := set_eq' (eg.some m4)
  have f4 := @loadF_at (some 2) b4 0 _ _ k4
  have l4 := @sh_l2 nm v
  obtain ⟨W, hW⟩ : ∃ W, W = (K1 ++ g1).set b4 (.cells (shC nm v) true false) := ⟨_, rfl⟩
  have hW1 : K1.set b4 (.cells (shC nm v) true false) ++ g1 = W := by rw [hW, List.set_append_left _ _ b4K]
  have eW : Ext h W := by rw [hW]; exact ext_setG (eK1.trans eg) n4
  have frW : Fr h.length W v 10 (L'.map trRow) := by rw [hW]; exact (fr.setn (fr.notB b4K)).low eK1.len
  have allW : ∀ y ∈ L', Fr h.length W y.2 1 (y.1.sm.map fltR) := fun y hy => by rw [hW]; exact ((all y hy).setn ((all y hy).notB b4K)).low eK1.len
  refine Rs (A7 @t0 @t1 @ov @bd @s4 @f4 @l4) ?_
  first | rw [hW1] | rw [← hW]
  exact ⟨eW, v, L', rfl, frW, allW, fl⟩
set_option maxHeartbeats 8000000 in
theorem r6 (rg : Rng h) {nm : List UInt8} {s : AV} {L : List (Trc × AV)} (o : ShOk h L s) (z : ShSz L) (zl : L.length < 2 ^ 38) (hc : chkSh nm (L.map Prod.fst) = 0) {n : Int} (hn : -1024 ≤ n ∧ n ≤ 1024) : RCall P 6 [.agg [.str nm, s], .int .i64 n] h (fun v h' => ∃ (s' : AV) (L' : List (Trc × AV)), v = .tup [.agg [.str nm, s'], .int .i64 0] ∧ ShOk h' L' s' ∧ L'.map Prod.fst = (L.map Prod.fst).map (delT n)) := by
  refine .st2 20 T.mix T.c6 ?_;intro ts hlen t0 t1;unfold fn6
  have bx := @sh_box nm s o.sl.one
  have b0 : ∀ {N : Nat}, boxF (.int .i64 n) N = some (.ptr N 0, .push (.cells [.int .i64 n] true false)) := fun {N} => rfl
  have bz : ∀ {N : Nat}, boxF (.agg [.str [], .nilSlice]) N = some (.ptr N 0, .push (.cells (shC [] .nilSlice) true false)) := fun {N} => rfl
  have l2 := @sh_l2 nm s
  refine Rs (A5 @t0 @t1 @bx @b0 @bz) ?_
  obtain ⟨Y, hY⟩ : ∃ Y, Y = h ++ [ABlk.cells (shC nm s) true false] ++ [ABlk.cells [AV.int .i64 n] true false] ++ [ABlk.cells (shC [] .nilSlice) true false] := ⟨_, rfl⟩
  have eY : Ext h Y := by rw [hY]; exact Xx
  have m2 : Y[h.length]? = some (.cells (shC nm s) true false) := by rw [hY]; exact at_2
  have m3 : Y[(h ++ [ABlk.cells (shC nm s) true false]).length]? = some (.cells [AV.int .i64 n] true false) := by rw [hY]; exact at_1
  have m4 : Y[(h ++ [ABlk.cells (shC nm s) true false] ++ [ABlk.cells [AV.int .i64 n] true false]).length]? = some (.cells (shC [] .nilSlice) true false) := by rw [hY]; exact at_new
  obtain ⟨b2, hb2⟩ : ∃ b, b = h.length := ⟨_, rfl⟩
  obtain ⟨b3, hb3⟩ : ∃ b, b = (h ++ [ABlk.cells (shC nm s) true false]).length := ⟨_, rfl⟩
  obtain ⟨b4, hb4⟩ : ∃ b, b = (h ++ [ABlk.cells (shC nm s) true false] ++ [ABlk.cells [AV.int .i64 n] true false]).length := ⟨_, rfl⟩
  have n4 : h.length ≤ b4 := by rw [hb4]; simp only [List.length_append]; omega
  rw [← hb2] at m2
  rw [← hb3] at m3
  rw [← hb4] at m4
  rw [← hY, ← hb2, ← hb3, ← hb4]
  clear hY hb2 hb3 hb4
  have i2 := @ldx _ _ _ m2
  have i3 : ∀ {k : AHeap}, Ext Y k → loadF none (.ptr b3 0) (fun z => k[z]?) = some (.int .i64 n, .keep) := fun {k} e => by rw [loadF_at (e.some m3)]; rfl
  have hr : rangeS n (-1024) 1024 = 0 := rangeS_z.2 hn
  refine Rs (A4 @t0 @t1 @i2 @l2) ?_
  refine WF.ce T.c24 (r24 T (rg.ext eY) (o.ext eY) z) fun g1 => ?_
  rw [hc]
  refine Rs (A3 @t0 @t1 @i3) ?_
  refine WF.ce T.c25 (r25 T _ _ _) fun g2 => ?_
  rw [hr]
  refine Rs (A2 @t0 @t1) ?_
  refine WF.ce T.c23 (r23 T (isSl_ints [_, _]) (by simp)) fun g3 => ?_
  have hz : firstS [(0 : Int), 0] = 0 := rfl
  have d1 : decide ((0 : Int) ≠ 0) = false := rfl
  rw [hz]
  obtain ⟨K1, hK1⟩ : ∃ K, K = Y ++ g1 ++ g2 ++ [ABlk.cells [AV.int .i64 0, AV.int .i64 0] true true] ++ g3 := ⟨_, rfl⟩
  have f1 : Ext Y K1 := by rw [hK1]; exact Xx
  rw [← hK1]
  clear hK1
  obtain ⟨_, _, _, hct⟩ := chkSh_z hc
  have i2 := @ldx _ _ _ (f1.some m2)
  refine Rs (A5 @t0 @t1 @d1 @i2 @l2) ?_
  refine WF.res T.c26 (r26 T (o.ext (eY.trans f1)) zl T.c27 (c := [.ptr b3 0]) (G := delT n) (fun x hx k ek => ?_)) ?_
  · have hcx := chkTr_z (hct x.1 (List.mem_map_of_mem hx))
    exact r27 T ((f1.trans ek).some m3) hn ((o.all x hx).ext (eY.trans (f1.trans ek))) (chkL_z hcx.2.2).1
  rintro _ g4 ⟨s', L', rfl, fr, all, fl⟩
  have eg : Ext K1 (K1 ++ g4) := ⟨g4, rfl⟩
  have b4K : b4 < K1.length := (List.getElem?_eq_some_iff.1 (f1.some m4)).1
  have os' := fr.isSl.one
  have s4 : storeF 2 (.ptr b4 0) (.agg [.str nm, s']) (fun z => (K1 ++ g4)[z]?) = some (undefA, .set b4 (.cells (shC nm s') true false)) := by
    rw [storeF_at ((f1.trans eg).some m4)]; exact sh_st os'
  have k4 : ((K1 ++ g4).set b4 (.cells (shC nm s') true false))[b4]? = some (.cells (shC nm s') true false) := set_eq' ((f1.trans eg).some m4)
  have f4 := @loadF_at (some 2) b4 0 _ _ k4
  have l4 := @sh_l2 nm s'
  obtain ⟨W, hW⟩ : ∃ W, W = (K1 ++ g4).set b4 (.cells (shC nm s') true false) := ⟨_, rfl⟩
  have hW1 : K1.set b4 (.cells (shC nm s') true false) ++ g4 = W := by rw [hW, List.set_append_left _ _ b4K]
  have eW : Ext h W := by rw [hW]; exact ext_setG (eY.trans (f1.trans eg)) n4
  have okW : ShOk W L' s' := by rw [hW]; exact ⟨fr.isSl.setb (fr.notB b4K), fun y hy => (all y hy).isSl.setb ((all y hy).notB b4K)⟩
  refine Rs (A5 @t0 @t1 @s4 @f4 @l4) ?_
  first | rw [hW1] | rw [← hW]
  exact ⟨eW, s', L', rfl, okW, by rw [fl, List.map_map]; rfl⟩
end
end Go.Abs
namespace Go.Abs

/-- Traces of the same form, the second one with samples on the grid. -/
structure Lik (a b : Trc) : Prop where
  hd : b.hd = a.hd
  hole : b.hole = a.hole
  len : b.sm.length = a.sm.length
  gr : ∀ x ∈ b.sm, gridE x = 0
def LikL : List Trc → List Trc → Prop
  | [], [] => True
  | a :: A, b :: B => Lik a b ∧ LikL A B
  | _, _ => False
theorem LikL.len : ∀ {A B : List Trc}, LikL A B → B.length = A.length
  | [], [], _ => rfl
  | _ :: _, _ :: _, h => congrArg (· + 1) (LikL.len h.2)
  | [], _ :: _, h => h.elim
  | _ :: _, [], h => h.elim
theorem LikL.map {f : Trc → Trc} : ∀ {A : List Trc}, (∀ t ∈ A, Lik t (f t)) → LikL A (A.map f)
  | [], _ => trivial
  | _ :: _, h => ⟨h _ List.mem_cons_self, LikL.map fun t ht => h t (List.mem_cons_of_mem _ ht)⟩
theorem LikL.of : ∀ {A B : List Trc}, A.length = B.length → (∀ (i : Nat) (h1 : i < A.length) (h2 : i < B.length), Lik A[i] B[i]) → LikL A B
  | [], [], _, _ => trivial
  | _ :: A, _ :: B, hl, h => ⟨h 0 (by simp) (by simp), LikL.of (by simpa using hl) fun i h1 h2 => by
      have := h (i + 1) (by simpa using h1) (by simpa using h2)
      simpa using this⟩
  | [], _ :: _, hl, _ => by simp at hl
  | _ :: _, [], hl, _ => by simp at hl
theorem LikL.wid : ∀ {A B : List Trc}, LikL A B → widN B = widN A
  | [], [], _ => rfl
  | a :: A, b :: B, h => by rw [widN_cons, widN_cons, h.1.hole, h.1.len, LikL.wid h.2]
  | [], _ :: _, h => h.elim
  | _ :: _, [], h => h.elim
theorem chkL_of {l : List Nat} (h1 : l.length ≤ 1024) (h2 : ∀ x ∈ l, gridE x = 0) : chkL l = 0 := chkL_ok h1 h2
theorem first3z {a b c : Int} (ha : a = 0) (hb : b = 0) (hc : c = 0) : firstS [a, b, c] = 0 := by rw [ha, hb, hc]; rfl
theorem chkTr_lik {a b : Trc} (h : Lik a b) (ha : chkTr a = 0) : chkTr b = 0 := by
  obtain ⟨h1, h2, h3⟩ := chkTr_z ha
  unfold chkTr
  refine first3z (by rw [h.hd]; exact h1) ?_ (chkL_of (by rw [h.len]; exact (chkL_z h3).1) h.gr)
  cases hb : b.hole with
  | false => rfl
  | true =>
    have := h2 (by rw [← h.hole]; exact hb)
    have hl : b.sm.length = 0 := by rw [h.len, this]; rfl
    rw [hl]; rfl
theorem LikL.any {w : Nat} : ∀ {A B : List Trc}, LikL A B → (B.any fun t => !t.hole && decide (t.sm.length ≠ w)) = A.any fun t => !t.hole && decide (t.sm.length ≠ w)
  | [], [], _ => rfl
  | a :: A, b :: B, h => by rw [List.any_cons, List.any_cons, h.1.hole, h.1.len, LikL.any h.2]
  | [], _ :: _, h => h.elim
  | _ :: _, [], h => h.elim
theorem LikL.all0 : ∀ {A B : List Trc}, LikL A B → (∀ t ∈ A, chkTr t = 0) → ∀ t ∈ B, chkTr t = 0
  | [], [], _, _, _, ht => by simp at ht
  | a :: A, b :: B, h, hA, t, ht => by
    rcases List.mem_cons.1 ht with rfl | ht
    · exact chkTr_lik h.1 (hA a List.mem_cons_self)
    · exact LikL.all0 h.2 (fun t ht => hA t (List.mem_cons_of_mem _ ht)) t ht
  | [], _ :: _, h, _, _, _ => h.elim
  | _ :: _, [], h, _, _, _ => h.elim
theorem LikL.chk {nm : List UInt8} {A B : List Trc} (h : LikL A B) (ha : chkSh nm A = 0) : chkSh nm B = 0 := by
  have q := firstS_z ha
  have hB : firstS (B.map chkTr) = 0 := firstS_nil0 fun x hx => by
    obtain ⟨t, ht, rfl⟩ := List.mem_map.1 hx
    exact LikL.all0 h (chkSh_z ha).2.2.2 t ht
  refine firstS_nil0 fun x hx => ?_
  rw [h.len, h.wid, h.any, hB] at hx
  have hA : firstS (A.map chkTr) = 0 := q _ (by simp)
  rw [← hA] at hx
  exact q x hx
/-- What Short says. -/
def shortB (nm : List UInt8) (L : List Trc) : Bool := decide (nm.length ≤ 60) && ((decide (L.length ≤ 6) || decide (L.length = 65)) && L.all fun t => decide (t.sm.length ≤ 32) || decide (t.sm.length = 1025))
theorem LikL.shall : ∀ {A B : List Trc}, LikL A B → (B.all fun t => decide (t.sm.length ≤ 32) || decide (t.sm.length = 1025)) = A.all fun t => decide (t.sm.length ≤ 32) || decide (t.sm.length = 1025)
  | [], [], _ => rfl
  | a :: A, b :: B, h => by rw [List.all_cons, List.all_cons, h.1.len, LikL.shall h.2]
  | [], _ :: _, h => h.elim
  | _ :: _, [], h => h.elim
theorem LikL.short {nm : List UInt8} {A B : List Trc} (h : LikL A B) : shortB nm B = shortB nm A := by unfold shortB; rw [h.len, h.shall]
/-- What keelCalm says. -/
noncomputable def calmB (nm : List UInt8) (L : List Trc) (lim : Int) : Bool := shortB nm L && (decide (chkSh nm L = 0) && L.all fun t => t.sm.all fun b => decide (-lim ≤ gridN b) && decide (gridN b ≤ lim))
theorem calmB_i {nm : List UInt8} {L : List Trc} {lim : Int} (h1 : shortB nm L = true) (h2 : chkSh nm L = 0) (h3 : ∀ t ∈ L, ∀ b ∈ t.sm, -lim ≤ gridN b ∧ gridN b ≤ lim) : calmB nm L lim = true := by
  unfold calmB
  rw [h1, decide_eq_true h2, Bool.true_and, Bool.true_and]
  refine List.all_eq_true.2 fun t ht => List.all_eq_true.2 fun b hb => ?_
  rw [decide_eq_true (h3 t ht b hb).1, decide_eq_true (h3 t ht b hb).2]; rfl
/-- What a calm shot is. -/
structure Calm (nm : List UInt8) (L : List Trc) (lim : Int) : Prop where
  n : nm.length ≤ 60
  l : L.length ≤ 6
  s : ∀ t ∈ L, t.sm.length ≤ 32
  sh : shortB nm L = true
  ck : chkSh nm L = 0
  tr : ∀ t ∈ L, chkTr t = 0
  bd : ∀ t ∈ L, ∀ b ∈ t.sm, -lim ≤ gridN b ∧ gridN b ≤ lim
theorem calmB_t {nm : List UInt8} {L : List Trc} {lim : Int} (h : calmB nm L lim = true) : Calm nm L lim := by
  unfold calmB at h
  rw [Bool.and_eq_true, Bool.and_eq_true, decide_eq_true_eq] at h
  obtain ⟨h1, h2, h3⟩ := h
  have h0 := h1
  unfold shortB at h1
  rw [Bool.and_eq_true, Bool.and_eq_true, decide_eq_true_eq, Bool.or_eq_true, decide_eq_true_eq, decide_eq_true_eq] at h1
  obtain ⟨h4, h5, h6⟩ := h1
  have q := chkSh_z h2
  refine ⟨h4, ?_, fun t ht => ?_, h0, h2, q.2.2.2, fun t ht b hb => ?_⟩
  · have := q.2.2.1
    omega
  · have z := List.all_eq_true.1 h6 t ht
    rw [Bool.or_eq_true, decide_eq_true_eq, decide_eq_true_eq] at z
    have := (chkL_z (chkTr_z (q.2.2.2 t ht)).2.2).1
    omega
  · have z := List.all_eq_true.1 (List.all_eq_true.1 h3 t ht) b hb
    rw [Bool.and_eq_true, decide_eq_true_eq, decide_eq_true_eq] at z
    exact z
theorem Calm.lik {nm : List UInt8} {A B : List Trc} {lim lim' : Int} (c : Calm nm A lim) (h : LikL A B) (hb : ∀ t ∈ B, ∀ b ∈ t.sm, -lim' ≤ gridN b ∧ gridN b ≤ lim') : calmB nm B lim' = true := calmB_i (h.short.trans c.sh) (h.chk c.ck) hb
theorem shfF_len' (l : List Nat) (n : Int) : (shfF l n).length = l.length := by simp [shfF]
theorem lik_del {t : Trc} (n : Int) (h : chkTr t = 0) : Lik t (delT n t) := by
  obtain ⟨_, h2, h3⟩ := chkTr_z h
  refine ⟨rfl, rfl, ?_, ?_⟩
  · unfold delT
    show (if t.hole = true then [] else shfF t.sm (-n)).length = _
    split
    · rename_i hb; rw [h2 hb]
    · exact shfF_len' _ _
  · unfold delT
    show ∀ x ∈ (if t.hole = true then [] else shfF t.sm (-n)), _
    split
    · simp
    · exact shfF_ok (chkL_z h3).2 _
theorem del_grid {t : Trc} (n : Int) (h : chkTr t = 0) : (delT n t).sm.map gridN = shfL (t.sm.map gridN) (-n) := by
  obtain ⟨_, h2, _⟩ := chkTr_z h
  unfold delT
  show (if t.hole = true then [] else shfF t.sm (-n)).map gridN = _
  split
  · rename_i hb; rw [h2 hb]; rfl
  · exact shfF_grid _ _
theorem shfL_bd {A : List Int} {B : Int} (hB : 0 ≤ B) (hA : ∀ x ∈ A, -B ≤ x ∧ x ≤ B) (n : Int) : ∀ x ∈ shfL A n, -B ≤ x ∧ x ≤ B := fun x hx => by
  unfold shfL genL at hx
  obtain ⟨i, _, rfl⟩ := List.mem_map.1 hx
  exact atZ_bd' hB hA _
theorem map_bd {l : List Nat} {B : Int} (h : ∀ b ∈ l, -B ≤ gridN b ∧ gridN b ≤ B) : ∀ x ∈ l.map gridN, -B ≤ x ∧ x ≤ B := fun x hx => by
  obtain ⟨b, hb, rfl⟩ := List.mem_map.1 hx
  exact h b hb
theorem bd_map {l : List Nat} {B : Int} (h : ∀ x ∈ l.map gridN, -B ≤ x ∧ x ≤ B) : ∀ b ∈ l, -B ≤ gridN b ∧ gridN b ≤ B := fun b hb => h _ (List.mem_map_of_mem hb)
theorem calm_del {nm : List UInt8} {L : List Trc} {lim : Int} (hl : 0 ≤ lim) (c : Calm nm L lim) (n : Int) : calmB nm (L.map (delT n)) lim = true := by
  refine c.lik (LikL.map fun t ht => lik_del n (c.tr t ht)) fun u hu => ?_
  obtain ⟨t, ht, rfl⟩ := List.mem_map.1 hu
  refine bd_map ?_
  rw [del_grid n (c.tr t ht)]
  exact shfL_bd hl (map_bd (c.bd t ht)) _
/-- A trace with the opposite samples. -/
noncomputable def negT (t : Trc) : Trc := ⟨t.hd, t.hole, if t.hole = true then [] else t.sm.map fun b => smpl (-gridN b)⟩
theorem neg_sm {t : Trc} (h : chkTr t = 0) : (negT t).sm = t.sm.map fun b => smpl (-gridN b) := by
  obtain ⟨_, h2, _⟩ := chkTr_z h
  unfold negT
  show (if t.hole = true then [] else _) = _
  split
  · rename_i hb; rw [h2 hb]; rfl
  · rfl
theorem neg_one {b : Nat} (h : gridE b = 0) : gridE (smpl (-gridN b)) = 0 ∧ gridN (smpl (-gridN b)) = -gridN b := by
  obtain ⟨_, _, h1, h2⟩ := grid_num h
  exact (smpl_ok (n := -gridN b) (by omega) (by omega)).2
theorem lik_neg {t : Trc} (h : chkTr t = 0) : Lik t (negT t) := by
  obtain ⟨_, h2, h3⟩ := chkTr_z h
  refine ⟨rfl, rfl, by rw [neg_sm h, List.length_map], ?_⟩
  rw [neg_sm h]
  intro x hx
  obtain ⟨b, hb, rfl⟩ := List.mem_map.1 hx
  exact (neg_one ((chkL_z h3).2 b hb)).1
theorem neg_grid {t : Trc} (h : chkTr t = 0) : (negT t).sm.map gridN = (t.sm.map gridN).map fun n => -n := by
  rw [neg_sm h, List.map_map, List.map_map]
  exact List.map_congr_left fun b hb => (neg_one ((chkL_z (chkTr_z h).2.2).2 b hb)).2
theorem calm_neg {nm : List UInt8} {L : List Trc} {lim : Int} (c : Calm nm L lim) : calmB nm (L.map negT) lim = true := by
  refine c.lik (LikL.map fun t ht => lik_neg (c.tr t ht)) fun u hu => ?_
  obtain ⟨t, ht, rfl⟩ := List.mem_map.1 hu
  refine bd_map ?_
  rw [neg_grid (c.tr t ht)]
  intro x hx
  obtain ⟨y, hy, rfl⟩ := List.mem_map.1 hx
  have := map_bd (c.bd t ht) y hy
  show -lim ≤ -y ∧ -y ≤ lim
  omega
theorem atZ_negL (A : List Int) (j : Int) : atZ (A.map fun n => -n) j = -atZ A j := by
  unfold atZ
  by_cases h : 0 ≤ j
  · rw [if_pos h, if_pos h, List.getD_eq_getElem?_getD, List.getD_eq_getElem?_getD, List.getElem?_map]
    cases A[j.toNat]? <;> rfl
  · rw [if_neg h, if_neg h]; rfl
/-- The sum of two traces. -/
structure SumT (a b u : Trc) : Prop where
  hd : u.hd = a.hd
  hole : u.hole = (a.hole || b.hole)
  hs : u.hole = true → u.sm = []
  ok : u.hole = false → (∀ x ∈ u.sm, gridE x = 0) ∧ u.sm.map gridN = addL (a.sm.map gridN) (b.sm.map gridN)
theorem add_ghost {A : List Int} {d : Int} : addL A ((shfL A (-d)).map fun n => -n) = ghostL A d := by
  unfold addL ghostL genL
  refine List.map_congr_left fun i hi => ?_
  rw [atZ_negL]
  unfold shfL
  rw [atZ_gen (List.mem_range.1 hi), show (i : Int) - d = (i : Int) + -d by omega]
  omega
/-- A trace whose samples are the ghost of another one's. -/
structure GhT (d : Int) (t u : Trc) : Prop where
  hd : u.hd = t.hd
  hole : u.hole = t.hole
  gr : ∀ x ∈ u.sm, gridE x = 0
  nn : u.sm.map gridN = ghostL (t.sm.map gridN) d
theorem sum_gh {d : Int} {t u : Trc} (h : chkTr t = 0) (s : SumT t (negT (delT d t)) u) : GhT d t u := by
  have ho : u.hole = t.hole := by rw [s.hole]; show (t.hole || t.hole) = _; rw [Bool.or_self]
  cases hb : t.hole with
  | true =>
    have e := s.hs (ho.trans hb)
    have e2 := (chkTr_z h).2.1 hb
    exact ⟨s.hd, ho, by rw [e]; simp, by rw [e, e2]; rfl⟩
  | false =>
    obtain ⟨g1, g2⟩ := s.ok (ho.trans hb)
    refine ⟨s.hd, ho, g1, ?_⟩
    rw [g2, neg_grid (chkTr_lik (lik_del d h) h), del_grid d h, add_ghost]
theorem GhT.lik {d : Int} {t u : Trc} (g : GhT d t u) : Lik t u := ⟨g.hd, g.hole, by
  have := congrArg List.length g.nn
  rw [ghostL_len, List.length_map, List.length_map] at this
  exact this, g.gr⟩
/-- Lists of traces that are ghosts. -/
structure GhL (d : Int) (A U : List Trc) : Prop where
  l : A.length = U.length
  t : ∀ (i : Nat) (h1 : i < A.length) (h2 : i < U.length), GhT d A[i] U[i]
theorem calm_sum {nm : List UInt8} {L U : List Trc} {d : Int} (c : Calm nm L 4000) (g : GhL d L U) : calmB nm U 8000 = true := by
  refine c.lik (LikL.of g.l fun i h1 h2 => (g.t i h1 h2).lik) fun u hu => ?_
  obtain ⟨i, hi, rfl⟩ := List.mem_iff_getElem.1 hu
  have h1 : i < L.length := by rw [g.l]; exact hi
  refine bd_map ?_
  rw [(g.t i h1 hi).nn]
  exact ghost_lim (B := 4000) (by omega) (map_bd (c.bd _ (List.getElem_mem h1))) d
theorem dot_shift {A : List Int} {d : Nat} : ∀ j : Nat, j ≤ A.length → dotS (shfL A (-(d : Int))) (shfL A (-(d : Int))) j = dotS A A (j - d)
  | 0, _ => by rw [Nat.zero_sub]; rfl
  | j + 1, h => by
    rw [dotS, dot_shift j (by omega)]
    have e : atZ (shfL A (-(d : Int))) (j : Int) = atZ A ((j : Int) + -(d : Int)) := atZ_gen (by omega)
    rw [e]
    by_cases hj : d ≤ j
    · rw [show j + 1 - d = (j - d) + 1 by omega, dotS, show (j : Int) + -(d : Int) = ((j - d : Nat) : Int) by omega]
    · rw [show j + 1 - d = 0 by omega, show j - d = 0 by omega]
      have : atZ A ((j : Int) + -(d : Int)) = 0 := by unfold atZ; rw [if_neg (by omega)]
      rw [this]; rfl
theorem dot_mono {A : List Int} {j : Nat} : ∀ {k : Nat}, j ≤ k → dotS A A j ≤ dotS A A k
  | 0, h => by rw [Nat.le_zero.1 h]; omega
  | k + 1, h => by
    by_cases he : j = k + 1
    · rw [he]; omega
    · have := dot_mono (A := A) (j := j) (k := k) (by omega)
      rw [dotS]
      have h2 : 0 ≤ atZ A k * atZ A k := by
        rcases Int.le_total 0 (atZ A k) with h | h
        · exact Int.mul_nonneg h h
        · exact Int.mul_nonneg_of_nonpos_of_nonpos h h
      omega
theorem dot_lim {A : List Int} (hA : ∀ x ∈ A, -4000 ≤ x ∧ x ≤ 4000) : ∀ j : Nat, dotS A A j ≤ j * 16000000
  | 0 => by simp [dotS]
  | j + 1 => by
    have h1 := dot_lim hA j
    have h3 := mul_bd' (X := 4000) (Y := 4000) (atZ_bd' (by omega) hA j) (atZ_bd' (by omega) hA j)
    rw [dotS]
    have e : ((j + 1 : Nat) : Int) * 16000000 = j * 16000000 + 16000000 := by rw [Int.natCast_add, Int.add_mul]; rfl
    omega
theorem dif_ghost {A : List Int} {d : Int} : difL A (ghostL A d) = shfL A (-d) := by
  unfold difL shfL genL
  refine List.map_congr_left fun i hi => ?_
  rw [ghostL_at (List.mem_range.1 hi), show (i : Int) - d = (i : Int) + -d by omega]
  omega
theorem shfL_len' (A : List Int) (n : Int) : (shfL A n).length = A.length := genL_len _ _
/-- The energies. -/
theorem dots_ok {A : List Int} {d : Nat} (hl : A.length ≤ 32) (hA : ∀ x ∈ A, -4000 ≤ x ∧ x ≤ 4000) : 0 ≤ dotI A A ∧ dotI A A ≤ 1073741824 ∧ 0 ≤ dotI (shfL A (-(d : Int))) (shfL A (-(d : Int))) ∧ dotI (shfL A (-(d : Int))) (shfL A (-(d : Int))) ≤ dotI A A := by
  have h1 := dot_lim hA A.length
  have h2 := dot_shift (A := A) (d := d) A.length (Nat.le_refl _)
  have h3 := dot_mono (A := A) (j := A.length - d) (k := A.length) (by omega)
  have h4 := dot_sq (A := A) (A.length - d)
  have h5 := dot_sq (A := A) A.length
  unfold dotI
  rw [shfL_len', h2]
  refine ⟨h5, ?_, h4, h3⟩
  omega
theorem rat_share {n d : Int} (hn : 0 ≤ n) (hnd : n ≤ d) (hd : 0 < d) : 1 ≤ (ratI n d).2 ∧ (ratI n d).2 ≤ d ∧ 0 ≤ (ratI n d).1 ∧ (ratI n d).1 ≤ d ∧ (ratI n d).1 * d = n * (ratI n d).2 := by
  obtain ⟨g1, g2⟩ := gcd_le (n := n) hd
  obtain ⟨g, hg⟩ : ∃ g : Int, g = ((Int.gcd n d : Nat) : Int) := ⟨_, rfl⟩
  have e1 : n.tdiv g * g = n := Int.tdiv_mul_cancel (by rw [hg]; exact Int.gcd_dvd_left ..)
  have e2 : d.tdiv g * g = d := Int.tdiv_mul_cancel (by rw [hg]; exact Int.gcd_dvd_right ..)
  rw [← hg] at g1 g2
  unfold ratI
  rw [← hg]
  show 1 ≤ d.tdiv g ∧ d.tdiv g ≤ d ∧ 0 ≤ n.tdiv g ∧ n.tdiv g ≤ d ∧ n.tdiv g * d = n * d.tdiv g
  obtain ⟨x, hx⟩ : ∃ x, x = n.tdiv g := ⟨_, rfl⟩
  obtain ⟨y, hy⟩ : ∃ y, y = d.tdiv g := ⟨_, rfl⟩
  rw [← hx] at e1 ⊢
  rw [← hy] at e2 ⊢
  have y1 : 1 ≤ y := by
    refine Int.not_lt.1 fun z => ?_
    have := Int.mul_nonpos_of_nonpos_of_nonneg (show y ≤ 0 by omega) (show 0 ≤ g by omega)
    omega
  have x0 : 0 ≤ x := by
    refine Int.not_lt.1 fun z => ?_
    have := Int.mul_le_mul_of_nonneg_right (show x ≤ -1 by omega) (show 0 ≤ g by omega)
    omega
  have y2 := Int.mul_le_mul_of_nonneg_left (show 1 ≤ g by omega) (show 0 ≤ y by omega)
  have x2 := Int.mul_le_mul_of_nonneg_left (show 1 ≤ g by omega) x0
  refine ⟨y1, by omega, x0, by omega, ?_⟩
  rw [← e1, ← e2]
  grind
theorem rem_ghost {A : List Int} {d : Int} : remR A (ghostL A d) = if dotI A A = 0 then ((0, 0), 6) else (ratI (dotI (shfL A (-d)) (shfL A (-d))) (dotI A A), 0) := by
  unfold remR
  rw [dif_ghost]
def twoL (d : Nat) : List Int := ((List.replicate (d + 1) (0 : Int)).set 0 1).set d (-1)
theorem twoL_len (d : Nat) : (twoL d).length = d + 1 := by simp [twoL]
theorem twoL_at {d k : Nat} (hd : 1 ≤ d) (hk : k ≤ d) : atZ (twoL d) k = if k = 0 then 1 else if k = d then -1 else 0 := by
  rw [atZ_at (by rw [twoL_len]; omega)]
  unfold twoL
  rw [List.getElem_set, List.getElem_set, List.getElem_replicate]
  by_cases h0 : k = 0
  · rw [if_neg (by omega), if_pos h0.symm, if_pos h0]
  · rw [if_neg h0]
    by_cases h1 : k = d
    · rw [if_pos h1.symm, if_pos h1]
    · rw [if_neg (fun z => h1 z.symm), if_neg (fun z => h0 z.symm), if_neg h1]
theorem twoL_ok {d : Nat} (h1 : 1 ≤ d) (h7 : d ≤ 7) : chkTp (twoL d) = 0 := by
  rcases (show d = 1 ∨ d = 2 ∨ d = 3 ∨ d = 4 ∨ d = 5 ∨ d = 6 ∨ d = 7 by omega) with rfl | rfl | rfl | rfl | rfl | rfl | rfl <;> decide
/-- TWO TAPS ARE A GHOST. -/
theorem two_ghost {A : List Int} {d : Nat} (hd : 1 ≤ d) : apL (twoL d) A (-1) = ghostL A d := by
  refine list_atZ (by rw [apL_len, ghostL_len]) fun i hi => ?_
  rw [apL_len] at hi
  rw [apL_at _ _ (by omega), ghostL_at hi, twoL_len, sumN_first]
  obtain ⟨e, rfl⟩ : ∃ e, d = e + 1 := ⟨d - 1, by omega⟩
  rw [sumN, sumN_zero fun q hq => by rw [twoL_at hd (by omega), if_neg (by omega), if_neg (by omega), Int.zero_mul]]
  have h0 := twoL_at (k := 0) hd (by omega)
  have h1 := twoL_at (k := e + 1) hd (Nat.le_refl _)
  rw [if_pos rfl] at h0
  rw [if_neg (by omega), if_pos rfl] at h1
  rw [h0, h1]
  have : (i : Int) - ((0 : Nat) : Int) = i := by omega
  rw [this]
  omega
theorem fits_ghost {A : List Int} {d : Int} (hA : ∀ x ∈ A, -4000 ≤ x ∧ x ≤ 4000) : fitsB (ghostL A d) = true := fits_of fun x hx => by have := ghost_lim (B := 4000) (by omega) hA d x hx; omega
/-- The taps make the ghost of each trace: no trace has an error, and the traces are alike. -/
theorem each_ok {L : List (Trc × AV)} {d : Nat} (hd : 1 ≤ d) (hb : ∀ x ∈ L, ∀ b ∈ x.1.sm, -4000 ≤ gridN b ∧ gridN b ≤ 4000) : errL (eachE (twoL d)) L = 0 := by
  unfold errL
  refine firstS_nil0 fun z hz => ?_
  obtain ⟨x, hx, rfl⟩ := List.mem_map.1 hz
  show (if x.1.hole = true then 0 else eachE (twoL d) x) = 0
  split
  · rfl
  · unfold eachE
    rw [two_ghost hd, if_pos (fits_ghost (map_bd (hb x hx)))]
theorem each_eq {x : Trc × AV} {u : Trc} {d : Nat} (hd : 1 ≤ d) (hc : chkTr x.1 = 0) (hb : ∀ b ∈ x.1.sm, -4000 ≤ gridN b ∧ gridN b ≤ 4000) (g : GhT d x.1 u) : TrEq (chgT (eachG (twoL d)) x) u := by
  have hf := fits_ghost (d := (d : Int)) (map_bd hb)
  unfold chgT
  split
  · rename_i hh
    have e := (chkTr_z hc).2.1 hh
    refine ⟨g.hd.symm, g.hole.symm, by rw [e]; simp, g.gr, ?_⟩
    rw [g.nn, e]; rfl
  · refine ⟨g.hd.symm, g.hole.symm, ?_, g.gr, ?_⟩
    · show ∀ b ∈ eachG (twoL d) x, _
      unfold eachG
      rw [two_ghost hd]
      exact (smpl_all hf).1
    · show (eachG (twoL d) x).map gridN = _
      unfold eachG
      rw [two_ghost hd, (smpl_all hf).2, g.nn]
end Go.Abs
namespace Go.Abs

section
variable {P : Program} {ro : Option Nat → Prop} {ks : List Kt} {ts : TS} {h : AHeap} {Q : Ex → TS → AHeap → Prop} {S : AHeap → Prop} {K : TS → AHeap → Prop} {l : List IOp}
theorem WC_opsM (S : AHeap → Prop) (H : WM P S l ts h (kq P ro ks Q .normal)) : WC P ro (.opsM l) ks ts h Q := ⟨S, H⟩
theorem WM_op {o} (hS : S h) (hl : ldQ o = false) (hn : lateAll (o :: l) = false) (H : WP P inFn [o] [] ts h (fun _ ts1 h1 => WM P S l ts1 h1 K)) : WM P S (o :: l) ts h K := ⟨hS, .inr ⟨hn, .inr ⟨hl, H⟩⟩⟩
theorem WM_late {o} (hS : S h) (hl : lateAll (o :: l) = true) (H : WP P ro (o :: l) ks ts h Q) : WM P S (o :: l) ts h (kq P ro ks Q .normal) := ⟨hS, .inl ⟨hl, H⟩⟩
theorem WM_ld {n} {a} {d} {v} (hS : S h) (hv : ∀ g, S g → loadF n (val ts a) (fun b => g[b]?) = some (v, .keep)) (H : WM P S l (put ts d v) h K) (hn : lateAll (({ dst := d, k := .load n a, gd := none, q := true } : IOp) :: l) = false := by rfl) : WM P S ({ dst := d, k := .load n a, gd := none, q := true } :: l) ts h K := by
  refine ⟨hS, .inr ⟨hn, .inl ⟨rfl, v, fun g hg => ?_, H⟩⟩⟩
  refine IStep.run trivial ?_ ?_
  · cases d <;> trivial
  · have h1 : stepT (.load n a) (val ts) (fun b => g[b]?) g.length = some (v, .keep) := hv g hg
    exact stepT_ok h1
end
/-- What the loads of a stretch look at: the shot's box, the trace's box. -/
structure TwS (b3 b5 : Nat) (c3 c5 : List AV) (g : AHeap) : Prop where
  m3 : g[b3]? = some (.cells c3 true false)
  m5 : g[b5]? = some (.cells c5 true false)
theorem TwS.ext {b3 b5 : Nat} {c3 c5 : List AV} {g k : AHeap} (s : TwS b3 b5 c3 c5 g) (e : Ext g k) : TwS b3 b5 c3 c5 k := ⟨e.some s.m3, e.some s.m5⟩
set_option maxRecDepth 10000
attribute [local irreducible] WP WC WE WB WR WF WL WG WRg WQ
section
variable {P : Program} (T : Tbl P) {h : AHeap}
include T
set_option maxHeartbeats 8000000 in
theorem r7 {nm : List UInt8} {s : AV} {L : List (Trc × AV)} (o : ShOk h L s) (z : ShSz L) (zl : L.length < 2 ^ 38) : RCall P 7 [.agg [.str nm, s]] h (fun v h' => ∃ (s' : AV) (L' : List (Trc × AV)), v = .agg [.str nm, s'] ∧ ShOk h' L' s' ∧ L'.map Prod.fst = L.map Prod.fst) := by
  refine .st1 32 T.mix T.c7 ?_;intro ts hlen t0;unfold fn7
  have bx := @sh_box nm s o.sl.one
  have bz : ∀ {N : Nat}, boxF (.agg [.str [], .nilSlice]) N = some (.ptr N 0, .push (.cells (shC [] .nilSlice) true false)) := fun {N} => rfl
  have ln : ldV (shC nm s)[0]? = some (.str nm, .keep) := rfl
  have ls : ldV (shC nm s)[1]? = some (s, .keep) := rfl
  have hlm := fun G => o.sl.lenm G
  have bd : fillA [.str [], .nilSlice] [(0, 1, .str nm)] = some [.str nm, .nilSlice] := rfl
  have st3 : ∀ {n : Nat}, stB 2 0 (.agg [.str nm, .nilSlice]) n (.cells (shC [] .nilSlice) true false) = some (undefA, .set n (.cells (shC nm .nilSlice) true false)) := fun {n} => sh_st rfl
  repeat (first | simp (config := { maxSteps := 1000000 }) only [wset, hset, dset, bset, Nat.reduceAdd, Nat.reduceMul, Nat.reduceLeDiff, Nat.reduceEqDiff, pset, hlen, if_false, if_true, t0, bx, bz, ln, bd, st3, ls, hlm] | simp (config := { maxSteps := 1000000 }) (disch := first | (simp only [List.length_append, List.length_cons, List.length_nil] <;> omega) | rfl | omega | fail) only [kset, wset, hset, dset, bset, Nat.reduceAdd, Nat.reduceMul, Nat.reduceLeDiff, Nat.reduceEqDiff, pset, hlen, if_false, if_true, t0, bx, bz, ln, bd, st3, ls, hlm])
  obtain ⟨Y, hY⟩ : ∃ Y, Y = h ++ [ABlk.cells (shC nm s) true false] ++ [ABlk.cells (shC [] .nilSlice) true false] ++ [ABlk.cells (shC nm .nilSlice) true false] := ⟨_, rfl⟩
  have eY : Ext h Y := by rw [hY]; exact Xx
  have m1 : Y[h.length]? = some (.cells (shC nm s) true false) := by rw [hY]; exact at_2
  have m2 : Y[(h ++ [ABlk.cells (shC nm s) true false]).length]? = some (.cells (shC [] .nilSlice) true false) := by rw [hY]; exact at_1
  have m3 : Y[(h ++ [ABlk.cells (shC nm s) true false] ++ [ABlk.cells (shC [] .nilSlice) true false]).length]? = some (.cells (shC nm .nilSlice) true false) := by rw [hY]; exact at_new
  obtain ⟨b1, hb1⟩ : ∃ b, b = h.length := ⟨_, rfl⟩
  obtain ⟨b2, hb2⟩ : ∃ b, b = (h ++ [ABlk.cells (shC nm s) true false]).length := ⟨_, rfl⟩
  obtain ⟨b3, hb3⟩ : ∃ b, b = (h ++ [ABlk.cells (shC nm s) true false] ++ [ABlk.cells (shC [] .nilSlice) true false]).length := ⟨_, rfl⟩
  have n1 : h.length ≤ b1 := by omega
  have n2 : h.length ≤ b2 := by rw [hb2]; simp only [List.length_append]; omega
  have n3 : h.length ≤ b3 := by rw [hb3]; simp only [List.length_append]; omega
  have n13 : b1 ≠ b3 := by rw [hb1, hb3]; simp only [List.length_append, List.length_cons, List.length_nil]; omega
  have n23 : b2 ≠ b3 := by rw [hb2, hb3]; simp only [List.length_append, List.length_cons, List.length_nil]; omega
  rw [← hb1] at m1
  rw [← hb2] at m2
  rw [← hb3] at m3
  rw [← hY, ← hb2, ← hb3]
  clear hY hb1 hb2 hb3
  have q1 := (List.getElem?_eq_some_iff.1 m1).1
  have q2 := (List.getElem?_eq_some_iff.1 m2).1
  have q3 := (List.getElem?_eq_some_iff.1 m3).1
  obtain ⟨M, hM⟩ : ∃ M, M = Y.length := ⟨_, rfl⟩
  rw [← hM] at q1 q2 q3
  have hm := eY.len
  rw [← hM] at hm
  refine WL.inv T.mix (fun n ts K => ∃ (k : Nat) (out : AV) (L' : List (Trc × AV)), k ≤ L.length ∧ n = L.length - k ∧ Ext h K ∧ M ≤ K.length ∧ K[b1]? = some (.cells (shC nm s) true false) ∧ K[b2]? = some (.cells (shC [] .nilSlice) true false) ∧ ShGr h.length M K b3 nm L' out ∧ L'.map Prod.fst = (L.take k).map Prod.fst ∧ ts.length = 32 ∧ slot ts 2 = .ptr b2 0 ∧ slot ts 3 = .ptr b3 0 ∧ slot ts 10 = s ∧ slot ts 11 = .int .i64 L.length ∧ slot ts 12 = .int .i64 k) L.length
    ⟨0, .nilSlice, [], by omega, rfl, eY, by omega, m1, m2, .nil m3, rfl, Sn, Sw, Sw, Sw, Sw, Swr⟩ ?_
  clear hlen t0 eY m1 m2 m3 hM
  rintro _ ts K ⟨k, out, L', hk, rfl, eK, hMK, m1, m2, gr, hL', hlen, t2, t3, t10, t11, t12⟩
  have oK := o.ext eK
  by_cases hlt : k < L.length
  case neg =>
    have e3 := dltF hlt
    have e4 : k = L.length := by omega
    rw [e4, List.take_length] at hL'
    have l3 := @ldx _ _ _ gr.m
    have l2 : ldB (some 2) 0 (.cells (shC nm out) true false) = some (.agg [.str nm, out], .keep) := rfl
    have s2 : storeF 2 (.ptr b2 0) (.agg [.str nm, out]) (fun z => K[z]?) = some (undefA, .set b2 (.cells (shC nm out) true false)) := by
      rw [storeF_at m2]; exact sh_st gr.fr.isSl.one
    have k2 : (K.set b2 (.cells (shC nm out) true false))[b2]? = some (.cells (shC nm out) true false) := set_eq' m2
    have f2 := @loadF_at (some 2) b2 0 _ _ k2
    refine Rs (A10 @t2 @t3 @t10 @t11 @t12 @e3 @l3 @l2 @s2 @f2) ?_
    exact ⟨ext_setG eK n2, out, L', rfl, ⟨(gr.fr.setn (gr.fr.notB q2)).isSl, fun x hx => (gr.all x hx).setb (gr.nx x hx b2 n2 q2)⟩, hL'⟩
  have e3 := dltT hlt
  have e5 := wrapN (n := k) (by omega)
  have ix := oK.sl.ixm (kk := .i64) hlt
  obtain ⟨x, hx⟩ : ∃ x, x = L[k] := ⟨_, rfl⟩
  have ld : ∀ {kk : AHeap}, Ext K kk → loadF (some 10) (elp s 10 k) (fun b => kk[b]?) = some (.agg (trRow x), .keep) := fun {kk} e => by rw [hx]; exact oK.sl.ldm hlt e
  have hmem : x ∈ L := by rw [hx]; exact List.getElem_mem _
  have hsx := oK.all x hmem
  have ox := hsx.one
  have htk : L.take (k + 1) = L.take k ++ [x] := by rw [hx]; exact List.take_succ_eq_append_getElem hlt
  have hLk : L'.length = k := by
    have := congrArg List.length hL'
    rw [List.length_map, List.length_map, List.length_take] at this
    omega
  have b10 := @z10_box
  have st := @st_tr x ox
  have l3v : ldV (shC nm out)[1]? = some (out, .keep) := rfl
  have l8 := @tr_l8 x
  have l8v : ldV (trRow x)[8]? = some (.bool x.1.hole, .keep) := rfl
  have l9v : ldV (trRow x)[9]? = some (x.2, .keep) := rfl
  have oo := gr.fr.isSl.one
  refine Rs (A10 @t2 @t3 @t10 @t11 @t12 @e3 @ix @ld @b10 @st) ?_
  obtain ⟨K1, hK1⟩ : ∃ K1, K1 = K ++ [ABlk.cells (trRow x) true false] := ⟨_, rfl⟩
  have eK1 : Ext K K1 := by rw [hK1]; exact Xx
  have m5 : K1[K.length]? = some (.cells (trRow x) true false) := by rw [hK1]; exact at_new
  have hK1l : K1.length = K.length + 1 := by rw [hK1, List.length_append, List.length_singleton]
  rw [← hK1]
  clear hK1
  have gr0 := gr
  have gr := gr.ext eK1
  obtain ⟨b5, hb5⟩ : ∃ b, b = K.length := ⟨_, rfl⟩
  rw [← hb5] at m5 ⊢
  have S5 : TwS b3 b5 (shC nm out) (trRow x) K1 := ⟨gr.m, m5⟩
  refine WC_opsM (TwS b3 b5 (shC nm out) (trRow x)) ?_
  refine WM_op S5 rfl rfl ?_
  refine Rs (A5 @t2 @t3 @t10 @t11 @t12) ?_
  refine WM_ld S5 (v := out) (fun g hg => ?_) ?_
  · simp only [wset, hset, dset, bset, Nat.reduceAdd, Nat.reduceMul, Nat.reduceLeDiff, Nat.reduceEqDiff, pset, hlen, if_false, if_true, t3, loadF_at hg.m3, l3v]
  refine Rs (A5 @t2 @t3 @t10 @t11 @t12) ?_
  refine WM_op S5 rfl rfl ?_
  refine Rs (A5 @t2 @t3 @t10 @t11 @t12) ?_
  refine WM_ld S5 (v := .agg (hdR x.1.hd)) (fun g hg => ?_) ?_
  · simp only [wset, hset, dset, bset, Nat.reduceAdd, Nat.reduceMul, Nat.reduceLeDiff, Nat.reduceEqDiff, pset, hlen, if_false, if_true, t3, loadF_at hg.m5, l8]
  refine Rs (A5 @t2 @t3 @t10 @t11 @t12) ?_
  refine WM_op S5 rfl rfl ?_
  refine Rs (A5 @t2 @t3 @t10 @t11 @t12) ?_
  refine WM_ld S5 (v := .bool x.1.hole) (fun g hg => ?_) ?_
  · simp only [wset, hset, dset, bset, Nat.reduceAdd, Nat.reduceMul, Nat.reduceLeDiff, Nat.reduceEqDiff, pset, hlen, if_false, if_true, t3, loadF_at hg.m5, l8v]
  refine Rs (A5 @t2 @t3 @t10 @t11 @t12) ?_
  refine WM_op S5 rfl rfl ?_
  refine Rs (A5 @t2 @t3 @t10 @t11 @t12) ?_
  have S6 : TwS b3 b5 (shC nm out) (trRow x) (K1 ++ [ABlk.cells [] true false]) := S5.ext ⟨_, rfl⟩
  refine WM_op S6 rfl rfl ?_
  refine Rs (A5 @t2 @t3 @t10 @t11 @t12) ?_
  refine WM_ld S6 (v := x.2) (fun g hg => ?_) ?_
  · simp only [wset, hset, dset, bset, Nat.reduceAdd, Nat.reduceMul, Nat.reduceLeDiff, Nat.reduceEqDiff, pset, hlen, if_false, if_true, t3, loadF_at hg.m5, l9v]
  refine Rs (A5 @t2 @t3 @t10 @t11 @t12) ?_
  refine WM_op S6 rfl rfl ?_
  refine Rs (A6 @t2 @t3 @t10 @t11 @t12 @oo) ?_
  refine WR.appz (N := K1.length) (w := 4) at_new (Nat.le_refl _) (hsx.ext (eK1.trans Xx)) (by rw [List.length_map]; have := z.s x hmem; omega) fun v y1 f1 => ?_
  obtain ⟨K2, hK2⟩ : ∃ K2, K2 = K1 ++ [ABlk.cells [] true false] ++ y1 := ⟨_, rfl⟩
  rw [← hK2] at f1 ⊢
  have e12 : Ext K1 K2 := by rw [hK2]; exact Xx
  clear hK2
  have ov := f1.isSl.one
  have bd := @fill_tr (x.1, v) f1.isSl.cells
  have bs := @bsl_tr (x.1, v) ov
  have S7 := S5.ext e12
  refine Rs (A5 @t2 @t3 @t10 @t11 @t12) ?_
  refine WM_op S7 rfl rfl ?_
  refine Rs (A7 @t2 @t3 @t10 @t11 @t12 @ov @bd) ?_
  refine WM_op S7 rfl rfl ?_
  refine Rs (A6 @t2 @t3 @t10 @t11 @t12 @bs) ?_
  refine WM_op (S7.ext ⟨_, rfl⟩) rfl rfl ?_
  refine Rs (A6 @t2 @t3 @t10 @t11 @t12 @oo) ?_
  have k12 := e12.len
  refine ShGr.grow (x := (x.1, v)) (gr.ext e12) (eK.trans (eK1.trans e12)) hm (by omega) n3 q3 f1.isSl (gr.fr.apart_fr f1 (Nat.le_refl _)).symm (fun c h1 h2 => f1.notB (by omega)) (by omega) ?_
  intro W out' eW hMW one' mW grW eS keepM keepc apn
  have s3 := sh_st1 mW one'
  have hlist : (L' ++ [(x.1, v)]).map Prod.fst = (L.take (k + 1)).map Prod.fst := by rw [htk, List.map_append, List.map_append, hL']; rfl
  have m5W : W[b5]? = some (.cells (trRow x) true false) := by
    have h5 := keepc b5 (by omega) (by omega) (fun b0 o n e q => by have := (gr0.fr.lt q).2; omega)
    rw [List.getElem?_set_ne (by omega)] at h5
    rw [h5]; exact e12.some m5
  refine Rs (A6 @t2 @t3 @t10 @t11 @t12 @one') ?_
  refine WM_late ⟨mW, m5W⟩ rfl ?_
  refine Rs (A8 @t2 @t3 @t10 @t11 @t12 @one' @s3 @e5) ?_
  exact ⟨L.length - (k + 1), by omega, k + 1, out', L' ++ [(x.1, v)], by omega, rfl, eS, by rw [List.length_set]; exact hMW, keepM b1 _ q1 n13 ((eK1.trans e12).some m1), keepM b2 _ q2 n23 ((eK1.trans e12).some m2), grW, hlist, rfl⟩
set_option maxHeartbeats 8000000 in
theorem r8 {nm : List UInt8} {s : AV} {L : List (Trc × AV)} (o : ShOk h L s) (z : ShSz L) (zl : L.length < 2 ^ 38) : RCall P 8 [.agg [.str nm, s]] h (fun v h' => ∃ (s' : AV) (L' : List (Trc × AV)), v = .agg [.str nm, s'] ∧ ShOk h' L' s' ∧ L'.map Prod.fst = L.map Prod.fst) := by
  refine .st1 32 T.mix T.c8 ?_;intro ts hlen t0;unfold fn8
  have bx := @sh_box nm s o.sl.one
  have bz : ∀ {N : Nat}, boxF (.agg [.str [], .nilSlice]) N = some (.ptr N 0, .push (.cells (shC [] .nilSlice) true false)) := fun {N} => rfl
  have ln : ldV (shC nm s)[0]? = some (.str nm, .keep) := rfl
  have ls : ldV (shC nm s)[1]? = some (s, .keep) := rfl
  have hlm := fun G => o.sl.lenm G
  have bd : fillA [.str [], .nilSlice] [(0, 1, .str nm)] = some [.str nm, .nilSlice] := rfl
  have st3 : ∀ {n : Nat}, stB 2 0 (.agg [.str nm, .nilSlice]) n (.cells (shC [] .nilSlice) true false) = some (undefA, .set n (.cells (shC nm .nilSlice) true false)) := fun {n} => sh_st rfl
  repeat (first | simp (config := { maxSteps := 1000000 }) only [wset, hset, dset, bset, Nat.reduceAdd, Nat.reduceMul, Nat.reduceLeDiff, Nat.reduceEqDiff, pset, hlen, if_false, if_true, t0, bx, bz, ln, bd, st3, ls, hlm] | simp (config := { maxSteps := 1000000 }) (disch := first | (simp only [List.length_append, List.length_cons, List.length_nil] <;> omega) | rfl | omega | fail) only [kset, wset, hset, dset, bset, Nat.reduceAdd, Nat.reduceMul, Nat.reduceLeDiff, Nat.reduceEqDiff, pset, hlen, if_false, if_true, t0, bx, bz, ln, bd, st3, ls, hlm])
  obtain ⟨Y, hY⟩ : ∃ Y, Y = h ++ [ABlk.cells (shC nm s) true false] ++ [ABlk.cells (shC [] .nilSlice) true false] ++ [ABlk.cells (shC nm .nilSlice) true false] := ⟨_, rfl⟩
  have eY : Ext h Y := by rw [hY]; exact Xx
  have m1 : Y[h.length]? = some (.cells (shC nm s) true false) := by rw [hY]; exact at_2
  have m2 : Y[(h ++ [ABlk.cells (shC nm s) true false]).length]? = some (.cells (shC [] .nilSlice) true false) := by rw [hY]; exact at_1
  have m3 : Y[(h ++ [ABlk.cells (shC nm s) true false] ++ [ABlk.cells (shC [] .nilSlice) true false]).length]? = some (.cells (shC nm .nilSlice) true false) := by rw [hY]; exact at_new
  obtain ⟨b1, hb1⟩ : ∃ b, b = h.length := ⟨_, rfl⟩
  obtain ⟨b2, hb2⟩ : ∃ b, b = (h ++ [ABlk.cells (shC nm s) true false]).length := ⟨_, rfl⟩
  obtain ⟨b3, hb3⟩ : ∃ b, b = (h ++ [ABlk.cells (shC nm s) true false] ++ [ABlk.cells (shC [] .nilSlice) true false]).length := ⟨_, rfl⟩
  have n1 : h.length ≤ b1 := by omega
  have n2 : h.length ≤ b2 := by rw [hb2]; simp only [List.length_append]; omega
  have n3 : h.length ≤ b3 := by rw [hb3]; simp only [List.length_append]; omega
  have n13 : b1 ≠ b3 := by rw [hb1, hb3]; simp only [List.length_append, List.length_cons, List.length_nil]; omega
  have n23 : b2 ≠ b3 := by rw [hb2, hb3]; simp only [List.length_append, List.length_cons, List.length_nil]; omega
  rw [← hb1] at m1
  rw [← hb2] at m2
  rw [← hb3] at m3
  rw [← hY, ← hb2, ← hb3]
  clear hY hb1 hb2 hb3
  have q1 := (List.getElem?_eq_some_iff.1 m1).1
  have q2 := (List.getElem?_eq_some_iff.1 m2).1
  have q3 := (List.getElem?_eq_some_iff.1 m3).1
  obtain ⟨M, hM⟩ : ∃ M, M = Y.length := ⟨_, rfl⟩
  rw [← hM] at q1 q2 q3
  have hm := eY.len
  rw [← hM] at hm
  refine WL.inv T.mix (fun n ts K => ∃ (k : Nat) (out : AV) (L' : List (Trc × AV)), k ≤ L.length ∧ n = L.length - k ∧ Ext h K ∧ M ≤ K.length ∧ K[b1]? = some (.cells (shC nm s) true false) ∧ K[b2]? = some (.cells (shC [] .nilSlice) true false) ∧ ShGr h.length M K b3 nm L' out ∧ L'.map Prod.fst = (L.take k).map Prod.fst ∧ ts.length = 32 ∧ slot ts 2 = .ptr b2 0 ∧ slot ts 3 = .ptr b3 0 ∧ slot ts 10 = s ∧ slot ts 11 = .int .i64 L.length ∧ slot ts 12 = .int .i64 k) L.length
    ⟨0, .nilSlice, [], by omega, rfl, eY, by omega, m1, m2, .nil m3, rfl, Sn, Sw, Sw, Sw, Sw, Swr⟩ ?_
  clear hlen t0 eY m1 m2 m3 hM
  rintro _ ts K ⟨k, out, L', hk, rfl, eK, hMK, m1, m2, gr, hL', hlen, t2, t3, t10, t11, t12⟩
  have oK := o.ext eK
  by_cases hlt : k < L.length
  case neg =>
    have e3 := dltF hlt
    have e4 : k = L.length := by omega
    rw [e4, List.take_length] at hL'
    have l3 := @ldx _ _ _ gr.m
    have l2 : ldB (some 2) 0 (.cells (shC nm out) true false) = some (.agg [.str nm, out], .keep) := rfl
    have s2 : storeF 2 (.ptr b2 0) (.agg [.str nm, out]) (fun z => K[z]?) = some (undefA, .set b2 (.cells (shC nm out) true false)) := by
      rw [storeF_at m2]; exact sh_st gr.fr.isSl.one
    have k2 : (K.set b2 (.cells (shC nm out) true false))[b2]? = some (.cells (shC nm out) true false) := set_eq' m2
    have f2 := @loadF_at (some 2) b2 0 _ _ k2
    refine Rs (A10 @t2 @t3 @t10 @t11 @t12 @e3 @l3 @l2 @s2 @f2) ?_
    exact ⟨ext_setG eK n2, out, L', rfl, ⟨(gr.fr.setn (gr.fr.notB q2)).isSl, fun x hx => (gr.all x hx).setb (gr.nx x hx b2 n2 q2)⟩, hL'⟩
  have e3 := dltT hlt
  have e5 := wrapN (n := k) (by omega)
  have ix := oK.sl.ixm (kk := .i64) hlt
  obtain ⟨x, hx⟩ : ∃ x, x = L[k] := ⟨_, rfl⟩
  have ld : ∀ {kk : AHeap}, Ext K kk → loadF (some 10) (elp s 10 k) (fun b => kk[b]?) = some (.agg (trRow x), .keep) := fun {kk} e => by rw [hx]; exact oK.sl.ldm hlt e
  have hmem : x ∈ L := by rw [hx]; exact List.getElem_mem _
  have hsx := oK.all x hmem
  have ox := hsx.one
  have htk : L.take (k + 1) = L.take k ++ [x] := by rw [hx]; exact List.take_succ_eq_append_getElem hlt
  have hLk : L'.length = k := by
    have := congrArg List.length hL'
    rw [List.length_map, List.length_map, List.length_take] at this
    omega
  have b10 := @z10_box
  have st := @st_tr x ox
  have l3v : ldV (shC nm out)[1]? = some (out, .keep) := rfl
  have l8 := @tr_l8 x
  have l8v : ldV (trRow x)[8]? = some (.bool x.1.hole, .keep) := rfl
  have l9v : ldV (trRow x)[9]? = some (x.2, .keep) := rfl
  have oo := gr.fr.isSl.one
  refine Rs (A10 @t2 @t3 @t10 @t11 @t12 @e3 @ix @ld @b10 @st) ?_
  obtain ⟨K1, hK1⟩ : ∃ K1, K1 = K ++ [ABlk.cells (trRow x) true false] := ⟨_, rfl⟩
  have eK1 : Ext K K1 := by rw [hK1]; exact Xx
  have m5 : K1[K.length]? = some (.cells (trRow x) true false) := by rw [hK1]; exact at_new
  have hK1l : K1.length = K.length + 1 := by rw [hK1, List.length_append, List.length_singleton]
  rw [← hK1]
  clear hK1
  have gr0 := gr
  have gr := gr.ext eK1
  obtain ⟨b5, hb5⟩ : ∃ b, b = K.length := ⟨_, rfl⟩
  rw [← hb5] at m5 ⊢
  have S5 : TwS b3 b5 (shC nm out) (trRow x) K1 := ⟨gr.m, m5⟩
  refine WC_opsM (TwS b3 b5 (shC nm out) (trRow x)) ?_
  refine WM_op S5 rfl rfl ?_
  refine Rs (A5 @t2 @t3 @t10 @t11 @t12) ?_
  refine WM_ld S5 (v := out) (fun g hg => ?_) ?_
  · simp only [wset, hset, dset, bset, Nat.reduceAdd, Nat.reduceMul, Nat.reduceLeDiff, Nat.reduceEqDiff, pset, hlen, if_false, if_true, t3, loadF_at hg.m3, l3v]
  refine Rs (A5 @t2 @t3 @t10 @t11 @t12) ?_
  refine WM_op S5 rfl rfl ?_
  refine Rs (A5 @t2 @t3 @t10 @t11 @t12) ?_
  refine WM_ld S5 (v := .agg (hdR x.1.hd)) (fun g hg => ?_) ?_
  · simp only [wset, hset, dset, bset, Nat.reduceAdd, Nat.reduceMul, Nat.reduceLeDiff, Nat.reduceEqDiff, pset, hlen, if_false, if_true, t3, loadF_at hg.m5, l8]
  refine Rs (A5 @t2 @t3 @t10 @t11 @t12) ?_
  refine WM_op S5 rfl rfl ?_
  refine Rs (A5 @t2 @t3 @t10 @t11 @t12) ?_
  refine WM_ld S5 (v := .bool x.1.hole) (fun g hg => ?_) ?_
  · simp only [wset, hset, dset, bset, Nat.reduceAdd, Nat.reduceMul, Nat.reduceLeDiff, Nat.reduceEqDiff, pset, hlen, if_false, if_true, t3, loadF_at hg.m5, l8v]
  refine Rs (A5 @t2 @t3 @t10 @t11 @t12) ?_
  refine WM_op S5 rfl rfl ?_
  refine Rs (A5 @t2 @t3 @t10 @t11 @t12) ?_
  have S6 : TwS b3 b5 (shC nm out) (trRow x) (K1 ++ [ABlk.cells [] true false]) := S5.ext ⟨_, rfl⟩
  refine WM_op S6 rfl rfl ?_
  refine Rs (A5 @t2 @t3 @t10 @t11 @t12) ?_
  refine WM_ld S6 (v := x.2) (fun g hg => ?_) ?_
  · simp only [wset, hset, dset, bset, Nat.reduceAdd, Nat.reduceMul, Nat.reduceLeDiff, Nat.reduceEqDiff, pset, hlen, if_false, if_true, t3, loadF_at hg.m5, l9v]
  refine Rs (A5 @t2 @t3 @t10 @t11 @t12) ?_
  refine WM_op S6 rfl rfl ?_
  refine Rs (A6 @t2 @t3 @t10 @t11 @t12 @oo) ?_
  refine WR.appz (N := K1.length) (w := 4) at_new (Nat.le_refl _) (hsx.ext (eK1.trans Xx)) (by rw [List.length_map]; have := z.s x hmem; omega) fun v y1 f1 => ?_
  obtain ⟨K2, hK2⟩ : ∃ K2, K2 = K1 ++ [ABlk.cells [] true false] ++ y1 := ⟨_, rfl⟩
  rw [← hK2] at f1 ⊢
  have e12 : Ext K1 K2 := by rw [hK2]; exact Xx
  clear hK2
  have ov := f1.isSl.one
  have bd := @fill_tr (x.1, v) f1.isSl.cells
  have bs := @bsl_tr (x.1, v) ov
  have S7 := S5.ext e12
  refine Rs (A5 @t2 @t3 @t10 @t11 @t12) ?_
  refine WM_op S7 rfl rfl ?_
  refine Rs (A7 @t2 @t3 @t10 @t11 @t12 @ov @bd) ?_
  refine WM_op S7 rfl rfl ?_
  refine Rs (A6 @t2 @t3 @t10 @t11 @t12 @bs) ?_
  refine WM_op (S7.ext ⟨_, rfl⟩) rfl rfl ?_
  refine Rs (A6 @t2 @t3 @t10 @t11 @t12 @oo) ?_
  have k12 := e12.len
  refine ShGr.grow (x := (x.1, v)) (gr.ext e12) (eK.trans (eK1.trans e12)) hm (by omega) n3 q3 f1.isSl (gr.fr.apart_fr f1 (Nat.le_refl _)).symm (fun c h1 h2 => f1.notB (by omega)) (by omega) ?_
  intro W out' eW hMW one' mW grW eS keepM keepc apn
  have s3 := sh_st1 mW one'
  have hlist : (L' ++ [(x.1, v)]).map Prod.fst = (L.take (k + 1)).map Prod.fst := by rw [htk, List.map_append, List.map_append, hL']; rfl
  have m5W : W[b5]? = some (.cells (trRow x) true false) := by
    have h5 := keepc b5 (by omega) (by omega) (fun b0 o n e q => by have := (gr0.fr.lt q).2; omega)
    rw [List.getElem?_set_ne (by omega)] at h5
    rw [h5]; exact e12.some m5
  refine Rs (A6 @t2 @t3 @t10 @t11 @t12 @one') ?_
  refine WM_late ⟨mW, m5W⟩ rfl ?_
  refine Rs (A8 @t2 @t3 @t10 @t11 @t12 @one' @s3 @e5) ?_
  exact ⟨L.length - (k + 1), by omega, k + 1, out', L' ++ [(x.1, v)], by omega, rfl, eS, by rw [List.length_set]; exact hMW, keepM b1 _ q1 n13 ((eK1.trans e12).some m1), keepM b2 _ q2 n23 ((eK1.trans e12).some m2), grW, hlist, rfl⟩
end
end Go.Abs
namespace Go.Abs

def sqB (x : Trc × AV) : Bool := decide (x.1.sm.length ≤ 32) || decide (x.1.sm.length = 1025)
theorem shortB_eq {nm : List UInt8} {L : List (Trc × AV)} : shortB nm (L.map Prod.fst) = (decide (nm.length ≤ 60) && ((decide (L.length ≤ 6) || decide (L.length = 65)) && L.all sqB)) := by
  unfold shortB
  rw [List.length_map, List.all_map]
  rfl
theorem shortB_p {nm : List UInt8} {L : List (Trc × AV)} (h : shortB nm (L.map Prod.fst) = true) : ShtP nm L := by
  rw [shortB_eq, Bool.and_eq_true, Bool.and_eq_true, decide_eq_true_eq, Bool.or_eq_true, decide_eq_true_eq, decide_eq_true_eq] at h
  obtain ⟨h1, h2, h3⟩ := h
  refine ⟨h1, by omega, fun x hx => ?_⟩
  have z := List.all_eq_true.1 h3 x hx
  unfold sqB at z
  rw [Bool.or_eq_true, decide_eq_true_eq, decide_eq_true_eq] at z
  omega
def szC : ICode := match (fn20).body with
  | .seq _ (.seq _ c) => c
  | c => c
noncomputable def cmX (lim : Int) (x : Trc × AV) : Bool := x.1.sm.all fun b => decide (-lim ≤ gridN b) && decide (gridN b ≤ lim)
theorem calmB_eq {nm : List UInt8} {L : List (Trc × AV)} {lim : Int} (h1 : shortB nm (L.map Prod.fst) = true) (h2 : chkSh nm (L.map Prod.fst) = 0) : calmB nm (L.map Prod.fst) lim = L.all (cmX lim) := by
  unfold calmB
  rw [h1, decide_eq_true h2, Bool.true_and, Bool.true_and, List.all_map]
  rfl
set_option maxRecDepth 10000
attribute [local irreducible] WP WC WE WB WR WF WL WG WRg WQ
section
variable {P : Program} (T : Tbl P) {h Y : AHeap} {ts : TS} {nm : List UInt8} {s : AV} {L : List (Trc × AV)} {b1 : Nat}
include T
set_option maxHeartbeats 4000000 in
theorem sz_loop (hlen : ts.length = 34) (t1 : slot ts 1 = .ptr b1 0) (e0 : Ext h Y) (m1 : Y[b1]? = some (.cells (shC nm s) true false)) (oY : ShOk Y L s) (hl : L.length < 2 ^ 63) : WC P inFn szC [] ts Y (FQ [(2, none)] fun v k => Ext h k ∧ v = .bool (L.all sqB)) := by
  have ls : ldV (shC nm s)[1]? = some (s, .keep) := rfl
  have hlm := fun G => oY.sl.lenm G
  unfold szC fn20
  dsimp only
  refine Rs @t1 ?_
  refine WL.inv T.mix (fun n ts K => ∃ k : Nat, k ≤ L.length ∧ n = L.length - k ∧ Ext Y K ∧ L.all sqB = (L.drop k).all sqB ∧ ts.length = 34 ∧ slot ts 1 = .ptr b1 0 ∧ slot ts 3 = .int .i64 k) L.length
    ⟨0, by omega, rfl, .refl _, rfl, Sn, (Sq @t1), Swr⟩ ?_
  clear hlen t1
  rintro _ ts K ⟨k, hk, rfl, eK, hw, hlen, t1, t3⟩
  have oK := oY.ext eK
  have l1 := @ldx _ _ _ (eK.some m1)
  by_cases hlt : k < L.length
  case neg =>
    have e3 := dltF hlt
    have e4 : k = L.length := by omega
    rw [e4, List.drop_length] at hw
    have hw : L.all sqB = true := hw
    rw [hw]
    refine Rs (A6 @t1 @t3 @l1 @ls @hlm @e3) ?_
    exact ⟨e0.trans eK, trivial⟩
  have e3 := dltT hlt
  have e5 := wrapN (n := k) (by omega)
  have ix := oK.sl.ixm (kk := .i64) hlt
  obtain ⟨x, hx⟩ : ∃ x, x = L[k] := ⟨_, rfl⟩
  have hmem : x ∈ L := by rw [hx]; exact List.getElem_mem _
  have ld : ∀ {kk : AHeap}, Ext K kk → loadF (some 10) (elp s 10 k) (fun b => kk[b]?) = some (.agg (trRow x), .keep) := fun {kk} e => by rw [hx]; exact oK.sl.ldm hlt e
  have hdk : (L.drop k).all sqB = (sqB x && (L.drop (k + 1)).all sqB) := by rw [List.drop_eq_getElem_cons hlt, List.all_cons, ← hx]
  refine Rs (A8 @t1 @t3 @l1 @ls @hlm @e3 @ix @ld) ?_
  refine WF.ce T.c67 (r67 T (oK.all x hmem)) fun g2 => ?_
  have eG : Ext K (K ++ g2) := Xx
  have hsq : (decide (x.1.sm.length ≤ 32) || decide (x.1.sm.length = 1025)) = sqB x := rfl
  rw [hsq]
  cases hb : sqB x with
  | false =>
    rw [hb, Bool.false_and] at hdk
    rw [hw, hdk]
    refine Rs (A3 @t1 @t3 @Bool.not_false) ?_
    exact ⟨e0.trans (eK.trans eG), trivial⟩
  | true =>
    rw [hb, Bool.true_and] at hdk
    refine Rs (A4 @t1 @t3 @Bool.not_true @e5) ?_
    exact ⟨L.length - (k + 1), by omega, k + 1, by omega, rfl, eK.trans eG, hw.trans hdk, rfl⟩
set_option maxHeartbeats 4000000 in
theorem x20 (o : ShOk h L s) (hl : L.length < 2 ^ 63) : RCall P 20 [.agg [.str nm, s]] h (fun v _ => v = .bool (shortB nm (L.map Prod.fst))) := by
  rw [shortB_eq]
  refine .st1 34 T.mix T.c20 ?_;intro ts hlen t0;unfold fn20
  have bx := @sh_box nm s o.sl.one
  have ln : ldV (shC nm s)[0]? = some (.str nm, .keep) := rfl
  have ls : ldV (shC nm s)[1]? = some (s, .keep) := rfl
  have hlm := fun G => o.sl.lenm G
  show WC P inFn (.seq _ (.seq _ szC)) _ _ _ _
  refine Rs (A2 @t0 @bx) ?_
  obtain ⟨Y, hY⟩ : ∃ Y, Y = h ++ [ABlk.cells (shC nm s) true false] := ⟨_, rfl⟩
  have eY : Ext h Y := by rw [hY]; exact Xx
  have m1 : Y[h.length]? = some (.cells (shC nm s) true false) := by rw [hY]; exact at_new
  obtain ⟨b1, hb1⟩ : ∃ b, b = h.length := ⟨_, rfl⟩
  rw [← hb1] at m1
  rw [← hb1, ← hY]
  clear hb1 hY
  have l1 := @ldx _ _ _ m1
  by_cases h60 : 60 < nm.length
  · have d1 : decide ((60 : Int) < (nm.length : Int)) = true := decide_eq_true (by omega)
    rw [decide_eq_false (show ¬ nm.length ≤ 60 by omega), Bool.false_and]
    repeat (first | simp (config := { maxSteps := 1000000 }) only [wset, hset, dset, bset, Nat.reduceAdd, Nat.reduceMul, Nat.reduceLeDiff, Nat.reduceEqDiff, pset, hlen, if_false, if_true, t0, l1, ln, d1] | simp (config := { maxSteps := 1000000 }) (disch := first | (simp only [List.length_append, List.length_cons, List.length_nil] <;> omega) | rfl | omega | fail) only [kset, wset, hset, dset, bset, Nat.reduceAdd, Nat.reduceMul, Nat.reduceLeDiff, Nat.reduceEqDiff, pset, hlen, if_false, if_true, t0, l1, ln, d1])
    exact ⟨eY, trivial⟩
  have d1 : decide ((60 : Int) < (nm.length : Int)) = false := decide_eq_false (by omega)
  rw [decide_eq_true (show nm.length ≤ 60 by omega), Bool.true_and]
  by_cases h6 : 6 < L.length
  · have d2 : decide ((6 : Int) < (L.length : Int)) = true := decide_eq_true (by omega)
    rw [decide_eq_false (show ¬ L.length ≤ 6 by omega), Bool.false_or]
    by_cases h65 : L.length = 65
    case neg =>
      have d3 : decide ((L.length : Int) ≠ 65) = true := decide_eq_true (by omega)
      rw [decide_eq_false h65, Bool.false_and]
      repeat (first | simp (config := { maxSteps := 1000000 }) only [wset, hset, dset, bset, Nat.reduceAdd, Nat.reduceMul, Nat.reduceLeDiff, Nat.reduceEqDiff, pset, hlen, if_false, if_true, t0, l1, ln, ls, hlm, d1, d2, d3] | simp (config := { maxSteps := 1000000 }) (disch := first | (simp only [List.length_append, List.length_cons, List.length_nil] <;> omega) | rfl | omega | fail) only [kset, wset, hset, dset, bset, Nat.reduceAdd, Nat.reduceMul, Nat.reduceLeDiff, Nat.reduceEqDiff, pset, hlen, if_false, if_true, t0, l1, ln, ls, hlm, d1, d2, d3])
      exact ⟨eY, trivial⟩
    have d3 : decide ((L.length : Int) ≠ 65) = false := decide_eq_false (by omega)
    rw [decide_eq_true h65, Bool.true_and]
    repeat (first | simp (config := { maxSteps := 1000000 }) only [wset, hset, dset, bset, Nat.reduceAdd, Nat.reduceMul, Nat.reduceLeDiff, Nat.reduceEqDiff, pset, hlen, if_false, if_true, t0, l1, ln, ls, hlm, d1, d2, d3] | simp (config := { maxSteps := 1000000 }) (disch := first | (simp only [List.length_append, List.length_cons, List.length_nil] <;> omega) | rfl | omega | fail) only [kset, wset, hset, dset, bset, Nat.reduceAdd, Nat.reduceMul, Nat.reduceLeDiff, Nat.reduceEqDiff, pset, hlen, if_false, if_true, t0, l1, ln, ls, hlm, d1, d2, d3])
    exact sz_loop T Sn Sw eY m1 (o.ext eY) hl
  have d2 : decide ((6 : Int) < (L.length : Int)) = false := decide_eq_false (by omega)
  rw [decide_eq_true (show L.length ≤ 6 by omega), Bool.true_or, Bool.true_and]
  repeat (first | simp (config := { maxSteps := 1000000 }) only [wset, hset, dset, bset, Nat.reduceAdd, Nat.reduceMul, Nat.reduceLeDiff, Nat.reduceEqDiff, pset, hlen, if_false, if_true, t0, l1, ln, ls, hlm, d1, d2] | simp (config := { maxSteps := 1000000 }) (disch := first | (simp only [List.length_append, List.length_cons, List.length_nil] <;> omega) | rfl | omega | fail) only [kset, wset, hset, dset, bset, Nat.reduceAdd, Nat.reduceMul, Nat.reduceLeDiff, Nat.reduceEqDiff, pset, hlen, if_false, if_true, t0, l1, ln, ls, hlm, d1, d2])
  exact sz_loop T Sn Sw eY m1 (o.ext eY) hl
set_option maxHeartbeats 8000000 in
theorem r5 (X : Xfl P) (o : ShOk h L s) (hl : L.length < 2 ^ 63) {lim : Int} (hlim : 0 ≤ lim ∧ lim ≤ 10000) : RCall P 5 [.agg [.str nm, s], .int .i64 lim] h (fun v _ => v = .bool (calmB nm (L.map Prod.fst) lim)) := by
  refine .st2 45 T.mix T.c5 ?_;intro ts hlen t0 t1;unfold fn5
  have bx := @sh_box nm s o.sl.one
  have l2 := @sh_l2 nm s
  have ls : ldV (shC nm s)[1]? = some (s, .keep) := rfl
  refine Rs (A3 @t0 @t1 @bx) ?_
  obtain ⟨Y, hY⟩ : ∃ Y, Y = h ++ [ABlk.cells (shC nm s) true false] := ⟨_, rfl⟩
  have eY : Ext h Y := by rw [hY]; exact Xx
  have m1 : Y[h.length]? = some (.cells (shC nm s) true false) := by rw [hY]; exact at_new
  obtain ⟨b2, hb2⟩ : ∃ b, b = h.length := ⟨_, rfl⟩
  rw [← hb2] at m1
  rw [← hb2, ← hY]
  clear hb2 hY
  have i2 := @ldx _ _ _ m1
  refine Rs (A4 @t0 @t1 @i2 @l2) ?_
  refine WF.ce T.c20 (x20 T (nm := nm) (o.ext eY) hl) fun g1 => ?_
  have f1 : Ext Y (Y ++ g1) := Xx
  cases hsb : shortB nm (L.map Prod.fst) with
  | false =>
    have hc : calmB nm (L.map Prod.fst) lim = false := by unfold calmB; rw [hsb, Bool.false_and]
    rw [hc]
    refine Rs (A3 @t0 @t1 @Bool.not_false) ?_
    exact ⟨eY.trans f1, trivial⟩
  | true =>
  have p := shortB_p hsb
  have pn := p.n
  have i2 := @ldx _ _ _ (f1.some m1)
  refine Rs (A5 @t0 @t1 @Bool.not_true @i2 @l2) ?_
  refine WF.ce T.c21 (r21 T X (by omega) (o.ext (eY.trans f1)) p.sz) fun g2 => ?_
  have f2 : Ext Y (Y ++ g1 ++ g2) := Xx
  by_cases hz : chkSh nm (L.map Prod.fst) = 0
  case neg =>
    have d1 : decide (chkSh nm (L.map Prod.fst) ≠ 0) = true := decide_eq_true hz
    have hc : calmB nm (L.map Prod.fst) lim = false := by unfold calmB; rw [decide_eq_false hz, Bool.false_and, Bool.and_false]
    rw [hc]
    refine Rs (A3 @t0 @t1 @d1) ?_
    exact ⟨eY.trans f2, trivial⟩
  have d1 : decide (chkSh nm (L.map Prod.fst) ≠ 0) = false := decide_eq_false fun z => z hz
  rw [calmB_eq hsb hz]
  obtain ⟨_, _, _, hct⟩ := chkSh_z hz
  have nw : IntKind.i64.wrap (0 - lim) = -lim := by rw [wrap_in (by omega) (by omega)]; omega
  obtain ⟨W, hW⟩ : ∃ W, W = Y ++ g1 ++ g2 := ⟨_, rfl⟩
  rw [← hW] at f2 ⊢
  clear hW
  have i2 := @ldx _ _ _ (f2.some m1)
  have hlm := fun G => o.sl.lenm G
  refine Rs (A6 @t0 @t1 @d1 @i2 @ls @hlm) ?_
  refine WL.inv T.mix (fun n ts K => ∃ k : Nat, k ≤ L.length ∧ n = L.length - k ∧ Ext Y K ∧ L.all (cmX lim) = (L.drop k).all (cmX lim) ∧ ts.length = 45 ∧ slot ts 1 = .int .i64 lim ∧ slot ts 19 = s ∧ slot ts 20 = .int .i64 L.length ∧ slot ts 21 = .int .i64 k) L.length
    ⟨0, by omega, rfl, f2, rfl, Sn, (Sq @t1), Sw, Sw, Swr⟩ ?_
  clear hlen t0 t1 i2 f2 f1
  rintro _ ts K ⟨k, hk, rfl, eK, hw, hlen, t1, t19, t20, t21⟩
  have oK := o.ext (eY.trans eK)
  by_cases hlt : k < L.length
  case neg =>
    have e3 := dltF hlt
    have e4 : k = L.length := by omega
    rw [e4, List.drop_length] at hw
    have hw : L.all (cmX lim) = true := hw
    rw [hw]
    refine Rs (A5 @t1 @t19 @t20 @t21 @e3) ?_
    exact ⟨eY.trans eK, trivial⟩
  have e3 := dltT hlt
  have e5 := wrapN (n := k) (by omega)
  have ix := oK.sl.ixm (kk := .i64) hlt
  obtain ⟨x, hx⟩ : ∃ x, x = L[k] := ⟨_, rfl⟩
  have hmem : x ∈ L := by rw [hx]; exact List.getElem_mem _
  have ld : ∀ {kk : AHeap}, Ext K kk → loadF (some 10) (elp s 10 k) (fun b => kk[b]?) = some (.agg (trRow x), .keep) := fun {kk} e => by rw [hx]; exact oK.sl.ldm hlt e
  have hdk : (L.drop k).all (cmX lim) = (cmX lim x && (L.drop (k + 1)).all (cmX lim)) := by rw [List.drop_eq_getElem_cons hlt, List.all_cons, ← hx]
  have hsx := oK.all x hmem
  have ox := hsx.one
  have hlx := p.s x hmem
  obtain ⟨_, hg⟩ := chkL_z (chkTr_z (hct x.1 (List.mem_map_of_mem hmem))).2.2
  have bz := @z10_box
  have st := @st_tr x ox
  have l9 : ldV (trRow x)[9]? = some (x.2, .keep) := rfl
  have lx := fun G => hsx.lenm G
  refine Rs (A11 @t1 @t19 @t20 @t21 @e3 @ix @ld @bz @st @l9 @lx) ?_
  obtain ⟨q, hq⟩ : ∃ q : Nat → Bool, q = fun b => decide (-lim ≤ gridN b) && decide (gridN b ≤ lim) := ⟨_, rfl⟩
  have hcx : cmX lim x = x.1.sm.all q := by rw [hq]; rfl
  obtain ⟨K1, hK1⟩ : ∃ K1, K1 = K ++ [ABlk.cells (trRow x) true false] := ⟨_, rfl⟩
  have eK1 : Ext K K1 := by rw [hK1]; exact Xx
  rw [← hK1]
  clear hK1
  have hs1 := hsx.ext eK1
  refine WL.inv T.mix (fun n ts H => ∃ j : Nat, j ≤ x.1.sm.length ∧ n = x.1.sm.length - j ∧ Ext K1 H ∧ x.1.sm.all q = (x.1.sm.drop j).all q ∧ ts.length = 45 ∧ slot ts 1 = .int .i64 lim ∧ slot ts 19 = s ∧ slot ts 20 = .int .i64 L.length ∧ slot ts 21 = .int .i64 k ∧ slot ts 26 = x.2 ∧ slot ts 27 = .int .i64 x.1.sm.length ∧ slot ts 28 = .int .i64 j) x.1.sm.length
    ⟨0, by omega, rfl, .refl _, rfl, Sn, (Sq @t1), (Sq @t19), (Sq @t20), (Sq @t21), Sw, Sw, Swr⟩ ?_
  clear hlen t1 t19 t20 t21
  rintro _ ts H ⟨j, hj, rfl, eH, hv, hlen, t1, t19, t20, t21, t26, t27, t28⟩
  have hsH := hs1.ext eH
  by_cases hjl : j < x.1.sm.length
  case neg =>
    have e3 := dltF hjl
    have e4 : j = x.1.sm.length := by omega
    rw [e4, List.drop_length] at hv
    have hv : x.1.sm.all q = true := hv
    rw [hcx, hv, Bool.true_and] at hdk
    refine Rs (A9 @t1 @t19 @t20 @t21 @t26 @t27 @t28 @e3 @e5) ?_
    exact ⟨L.length - (k + 1), by omega, k + 1, by omega, rfl, eK.trans (eK1.trans eH), hw.trans hdk, rfl⟩
  have e3 := dltT hjl
  have e6 := wrapN (n := j) (by omega)
  have ix := hsH.ixm (kk := .i64) hjl
  obtain ⟨y, hy⟩ : ∃ y, y = x.1.sm[j] := ⟨_, rfl⟩
  have ld : ∀ {kk : AHeap}, Ext H kk → loadF none (elp x.2 1 j) (fun b => kk[b]?) = some (.flt .f32 y, .keep) := fun {kk} e => by rw [hy]; exact hsH.l1m hjl rfl e
  have hgy : gridE y = 0 := by rw [hy]; exact hg _ (List.getElem_mem _)
  have hdj : (x.1.sm.drop j).all q = (q y && (x.1.sm.drop (j + 1)).all q) := by rw [List.drop_eq_getElem_cons hjl, List.all_cons, ← hy]
  refine Rs (A10 @t1 @t19 @t20 @t21 @t26 @t27 @t28 @e3 @ix @ld) ?_
  refine WF.ce T.c22 (r22 T hgy) fun g3 => ?_
  have eG : Ext H (H ++ g3) := Xx
  obtain ⟨n, hn⟩ : ∃ n, n = gridN y := ⟨_, rfl⟩
  have hqy : q y = (decide (-lim ≤ n) && decide (n ≤ lim)) := by rw [hq, hn]
  rw [← hn]
  by_cases c1 : lim < n
  · have d2 : decide (lim < n) = true := decide_eq_true c1
    rw [decide_eq_false (show ¬ n ≤ lim by omega), Bool.and_false] at hqy
    rw [hqy, Bool.false_and] at hdj
    rw [hcx, hv, hdj, Bool.false_and] at hdk
    rw [hw, hdk]
    refine Rs (A8 @t1 @t19 @t20 @t21 @t26 @t27 @t28 @d2) ?_
    exact ⟨eY.trans (eK.trans (eK1.trans (eH.trans eG))), trivial⟩
  have d2 : decide (lim < n) = false := decide_eq_false c1
  by_cases c2 : n < -lim
  · have d3 : decide (n < -lim) = true := decide_eq_true c2
    rw [decide_eq_false (show ¬ -lim ≤ n by omega), Bool.false_and] at hqy
    rw [hqy, Bool.false_and] at hdj
    rw [hcx, hv, hdj, Bool.false_and] at hdk
    rw [hw, hdk]
    refine Rs (A10 @t1 @t19 @t20 @t21 @t26 @t27 @t28 @d2 @nw @d3) ?_
    exact ⟨eY.trans (eK.trans (eK1.trans (eH.trans eG))), trivial⟩
  have d3 : decide (n < -lim) = false := decide_eq_false c2
  rw [decide_eq_true (show -lim ≤ n by omega), decide_eq_true (show n ≤ lim by omega), Bool.true_and] at hqy
  rw [hqy, Bool.true_and] at hdj
  refine Rs (A11 @t1 @t19 @t20 @t21 @t26 @t27 @t28 @d2 @nw @d3 @e6) ?_
  exact ⟨x.1.sm.length - (j + 1), by omega, j + 1, by omega, rfl, eH.trans eG, hv.trans hdj, rfl⟩
end
end Go.Abs
namespace Go.Abs

theorem rnd_one (n : Int) : rndI n 1 = n := by unfold rndI; omega
set_option maxRecDepth 10000
attribute [local irreducible] WP WC WE WB WR WF WL WG WRg WQ
section
variable {P : Program} (T : Tbl P) {h : AHeap}
include T
set_option maxHeartbeats 1000000 in
theorem r34 {b : Nat} (hb : gridE b = 0) : RCall P 34 [.flt .f32 b] h (fun v _ => v = .int .i64 (gridN b)) := by
  refine .st1 6 T.mix T.c34 ?_;intro ts hlen t0;unfold fn34
  obtain ⟨hv, hg, g1, g2⟩ := grid_num hb
  obtain ⟨hg3, hg4⟩ := grid_bd hb
  obtain ⟨p, m1, m2, hp⟩ := mul16 hv (bd_abs hg3 hg4)
  have m1 : binK .mul (.flt .f32 b) (.flt .f32 1098907648) = some (.flt .f32 p) := m1
  have hU := UU_pos
  have ht : (16 * fval b).tdiv UU = gridN b := by rw [← hg, Int.mul_tdiv_cancel _ (by omega)]
  have c3 := @num_f2i _ _ _ hp (by omega) (by omega)
  rw [ht] at c3
  exact Rs (A3 @t0 @m1 @c3) trivial
set_option maxHeartbeats 1000000 in
theorem r32 {n : Int} (h1 : -16384 ≤ n) (h2 : n ≤ 16384) : RCall P 32 [.int .i64 n] h (fun v _ => v = .flt .f32 (smpl n)) := by
  refine .st1 6 T.mix T.c32 ?_;intro ts hlen t0;unfold fn32
  have c1 : ∀ {G : Nat → Option ABlk} {N : Nat}, convT (.i2f .f32) (.int .i64 n) G N = some (.flt .f32 (FloatKind.f32.nearest n), .keep) := fun {_ _} => rfl
  have q1 := (smpl_ok h1 h2).1
  exact Rs (A3 @t0 @c1 @q1) trivial
set_option maxHeartbeats 2000000 in
theorem r33 {n d : Int} (hn : -2 ^ 40 ≤ n ∧ n ≤ 2 ^ 40) (hd : 1 ≤ d ∧ d ≤ 2 ^ 20) : RCall P 33 [.int .i64 n, .int .i64 d] h (fun v _ => v = .int .i64 (rndI n d)) := by
  refine .st2 23 T.mix T.c33 ?_;intro ts hlen t0 t1;unfold fn33
  have w1 : IntKind.i64.wrap (2 * n) = 2 * n := wrap_in (by omega) (by omega)
  have w2 : IntKind.i64.wrap (2 * n + d) = 2 * n + d := wrap_in (by omega) (by omega)
  have w3 : IntKind.i64.wrap (2 * d) = 2 * d := wrap_in (by omega) (by omega)
  obtain ⟨a, ha⟩ : ∃ a, a = 2 * n + d := ⟨_, rfl⟩
  obtain ⟨b, hb⟩ : ∃ b, b = 2 * d := ⟨_, rfl⟩
  have hbp : 0 < b := by omega
  obtain ⟨k1, k2, k3, k4⟩ := tdiv_le_self (a := a) hbp (M := 2 ^ 62) (by omega) (by omega)
  have q1 : binK .quo (.int .i64 a) (.int .i64 b) = some (.int .i64 (a.tdiv b)) := by rw [bin_quo (by omega), wrap_in (by omega) (by omega)]
  have hr : rndI n d = if a < a.tdiv b * b then a.tdiv b - 1 else a.tdiv b := by unfold rndI; rw [← ha, ← hb, flo_eq2 hbp]
  have k5 := tdiv_le_self (a := a) hbp (M := 2 ^ 61) (by omega) (by omega)
  have w6 : IntKind.i64.wrap (a.tdiv b * b) = a.tdiv b * b := wrap_in (by omega) (by omega)
  have w7 : IntKind.i64.wrap (a.tdiv b - 1) = a.tdiv b - 1 := wrap_in (by omega) (by omega)
  have w2 : IntKind.i64.wrap (2 * n + d) = a := w2.trans ha.symm
  have w3 : IntKind.i64.wrap (2 * d) = b := w3.trans hb.symm
  by_cases c : a < a.tdiv b * b
  · have d1 : decide (a < a.tdiv b * b) = true := decide_eq_true c
    rw [if_pos c] at hr
    refine Rs (A9 @t0 @t1 @w1 @w2 @w3 @q1 @w6 @d1 @w7) ?_
    rw [hr]
  · have d1 : decide (a < a.tdiv b * b) = false := decide_eq_false c
    rw [if_neg c] at hr
    refine Rs (A8 @t0 @t1 @w1 @w2 @w3 @q1 @w6 @d1) ?_
    rw [hr]
set_option maxHeartbeats 2000000 in
theorem r31 {c1 c2 : Nat} (m1 : h[c1]? = some (.cells [.int .i64 (-1)] true false)) (m2 : h[c2]? = some (.cells [.int .i64 1] true false)) {b : Nat} (hb : gridE b = 0) : RCall P 31 [.flt .f32 b, .ptr c1 0, .ptr c2 0] h (fun v _ => v = .flt .f32 (smpl (-gridN b))) := by
  refine .st3 12 T.mix T.c31 ?_;intro ts hlen t0 t1 t2;unfold fn31
  obtain ⟨_, _, g1, g2⟩ := grid_num hb
  have i1 : ∀ {k : AHeap}, Ext h k → loadF none (.ptr c1 0) (fun z => k[z]?) = some (.int .i64 (-1), .keep) := fun {k} e => by rw [loadF_at (e.some m1)]; rfl
  have i2 : ∀ {k : AHeap}, Ext h k → loadF none (.ptr c2 0) (fun z => k[z]?) = some (.int .i64 1, .keep) := fun {k} e => by rw [loadF_at (e.some m2)]; rfl
  have w1 : IntKind.i64.wrap (gridN b * -1) = -gridN b := by rw [wrap_in (by omega) (by omega)]; omega
  refine Rs @t0 ?_
  refine WF.ce T.c34 (r34 T hb) fun g3 => ?_
  refine Rs (A5 @t1 @t2 @i1 @i2 @w1) ?_
  refine WF.ce T.c33 (r33 T (by omega) (by omega)) fun g4 => ?_
  rw [rnd_one]
  refine Rs @t0 ?_
  refine WF.ce T.c32 (r32 T (by omega) (by omega)) fun g5 => ?_
  exact Rs @t0 trivial
set_option maxHeartbeats 2000000 in
theorem q30 {s : AV} {l : List Nat} (hs : IsSl h s 1 (l.map fltR)) (hl : l.length < 2 ^ 40) {f : FuncId} {c : List AV} {AF : AFunc} (hA : compileFn P f = some AF) {g : Nat → Nat} (hf : ∀ x ∈ l, ∀ k, Ext h k → RCall P f (.flt .f32 x :: c) k (fun v _ => v = .flt .f32 (g x))) : RCall P 30 [s, .func (.func f) [] c] h (fun v h' => Fr h.length h' v 1 ((l.map g).map fltR)) := by
  refine .st2 22 T.mix T.c30 ?_;intro ts hlen t0 t1;unfold fn30
  refine Rs (A3 @t0 @t1 hs.lenm) ?_
  refine WL.inv T.mix (fun n ts K => ∃ (k : Nat) (t : AV), k ≤ l.length ∧ n = l.length - k ∧ Ext h K ∧ Fr h.length K t 1 (((l.take k).map g).map fltR) ∧ ts.length = 22 ∧ slot ts 1 = .func (.func f) [] c ∧ slot ts 5 = t ∧ slot ts 8 = s ∧ slot ts 9 = .int .i64 l.length ∧ slot ts 10 = .int .i64 k) l.length
    ⟨0, .nilSlice, by omega, rfl, .refl _, .nil, Sn, (Sq @t1), Sw, Sw, Sw, Swr⟩ ?_
  clear hlen t0 t1
  rintro _ ts K ⟨k, t, hk, rfl, eK, hfr, hlen, t1, t5, t8, t9, t10⟩
  have hsK := hs.ext eK
  by_cases hlt : k < l.length
  case neg =>
    have e3 := dltF hlt
    have e4 : k = l.length := by omega
    rw [e4, List.take_length] at hfr
    refine Rs (A6 @t1 @t5 @t8 @t9 @t10 @e3) ?_
    exact ⟨eK, hfr⟩
  have e3 := dltT hlt
  have e5 := wrapN (n := k) (by omega)
  have ix := hsK.ixm (kk := .i64) hlt
  obtain ⟨x, hx⟩ : ∃ x, x = l[k] := ⟨_, rfl⟩
  have ld : ∀ {kk : AHeap}, Ext K kk → loadF none (elp s 1 k) (fun b => kk[b]?) = some (.flt .f32 x, .keep) := fun {kk} e => by rw [hx]; exact hsK.l1m hlt rfl e
  have hmem : x ∈ l := by rw [hx]; exact List.getElem_mem _
  have ot := hfr.isSl.one
  have htk : l.take (k + 1) = l.take k ++ [x] := by rw [hx]; exact List.take_succ_eq_append_getElem hlt
  refine Rs (A9 @t1 @t5 @t8 @t9 @t10 @e3 @ix @ld @ot) ?_
  refine WF.ce hA (hf x hmem _ eK) fun g1 => ?_
  have bs : ∀ {N : Nat}, bslF 1 1 (fillA [.flt .f32 0] [(0, 1, .flt .f32 (g x))]) N = some (.slice N 0 1 1, .push (.cells [.flt .f32 (g x)] true true)) := fun {N} => rfl
  refine Rs (A7 @t1 @t5 @t8 @t9 @t10 @ot @bs) ?_
  refine WR.appR (B := h) (cs := ((l.take k).map g).map fltR) (z := fltR (g x)) (hfr.app _) rfl (eK.trans ⟨_, rfl⟩) (by decide) (by rw [List.length_map, List.length_map, List.length_take]; omega) ?_
  intro W5 s' x5 hff q5
  have hrow : ((l.take k).map g).map fltR ++ [fltR (g x)] = ((l.take (k + 1)).map g).map fltR := by rw [htk, List.map_append, List.map_append]; rfl
  rw [hrow] at hff
  refine Rs (A7 @t1 @t5 @t8 @t9 @t10 @q5 @e5) ?_
  exact ⟨l.length - (k + 1), by omega, k + 1, s', by omega, rfl, x5, hff, rfl, rfl⟩
set_option maxHeartbeats 8000000 in
theorem r29 {c1 c2 : Nat} (m1 : h[c1]? = some (.cells [.int .i64 (-1)] true false)) (m2 : h[c2]? = some (.cells [.int .i64 1] true false)) {x : Trc × AV} (hx : IsSl h x.2 1 (x.1.sm.map fltR)) (hc : chkTr x.1 = 0) : RCall P 29 [.agg (trRow x), .ptr c1 0, .ptr c2 0] h (fun v h' => ∃ w : AV, v = .agg (trRow (negT x.1, w)) ∧ Fr h.length h' w 1 ((negT x.1).sm.map fltR)) := by
  refine .st3 11 T.mix T.c29 ?_;intro ts hlen t0 t1 t2;unfold fn29
  obtain ⟨hl, hg⟩ := chkL_z (chkTr_z hc).2.2
  have ox := hx.one
  have bx : ∀ {N : Nat}, boxF (.agg (trRow x)) N = some (.ptr N 0, .push (.cells (trRow x) true false)) := fun {N} => tr_box ox
  have b10 := @z10_box
  have l10 := @tr_l10 x
  have l9v : ldV (trRow x)[9]? = some (x.2, .keep) := rfl
  refine Rs (A5 @t0 @t1 @t2 @bx @b10) ?_
  obtain ⟨B, hB⟩ : ∃ B, B = h ++ [ABlk.cells (trRow x) true false] ++ [ABlk.cells z10 true false] := ⟨_, rfl⟩
  have eB : Ext h B := by rw [hB]; exact Xx
  have n2 : B[h.length]? = some (.cells (trRow x) true false) := by rw [hB]; exact at_1
  have n3 : B[(h ++ [ABlk.cells (trRow x) true false]).length]? = some (.cells z10 true false) := by rw [hB]; exact at_new
  obtain ⟨b2, hb2⟩ : ∃ b, b = h.length := ⟨_, rfl⟩
  obtain ⟨b3, hb3⟩ : ∃ b, b = (h ++ [ABlk.cells (trRow x) true false]).length := ⟨_, rfl⟩
  have k3 : h.length ≤ b3 := by rw [hb3]; simp only [List.length_append]; omega
  have hbe := hb2
  rw [← hb2] at n2
  rw [← hb3] at n3
  rw [← hB, ← hb2, ← hb3]
  clear hB hb2 hb3
  have i2 := @ldx _ _ _ n2
  refine Rs (A6 @t0 @t1 @t2 @i2 @l10 @l9v) ?_
  refine WF.res T.c30 (q30 T (hx.ext eB) (by omega) T.c31 (c := [.ptr c1 0, .ptr c2 0]) (g := fun b => smpl (-gridN b)) (fun y hy k ek => r31 T ((eB.trans ek).some m1) ((eB.trans ek).some m2) (hg y hy))) ?_
  intro sv g1 hfr
  have osv := hfr.isSl.one
  have b3B := (List.getElem?_eq_some_iff.1 n3).1
  refine Rs (A3 @t0 @t1 @t2) ?_
  refine WF.ce T.c28 (r28 T ox osv hfr.isSl.cells) fun g5 => ?_
  have eG : Ext B (B ++ g1 ++ g5) := Xx
  obtain ⟨w, hw⟩ : ∃ w : AV, w = if x.1.hole = true then .nilSlice else sv := ⟨_, rfl⟩
  rw [← hw]
  have ow : w.one = true := by
    rw [hw]; split
    · rfl
    · exact osv
  have hfW : Fr h.length ((B ++ g1 ++ g5).set b3 (.cells (trRow (negT x.1, w)) true false)) w 1 ((negT x.1).sm.map fltR) := by
    rw [hw]
    unfold negT
    by_cases hb : x.1.hole = true
    · simp only [if_pos hb, List.map_nil]; exact .nil
    · simp only [if_neg hb]
      exact ((hfr.app g5).setn ((hfr.app g5).notB b3B)).low eB.len
  obtain ⟨D, hD⟩ : ∃ D, D = B ++ g1 ++ g5 := ⟨_, rfl⟩
  have hrow : trRow (negT x.1, w) = trRow (x.1, w) := rfl
  rw [hrow] at hfW
  rw [← hD] at eG hfW ⊢
  clear hD
  have st : storeF 10 (.ptr b3 0) (.agg (trRow (x.1, w))) (fun z => D[z]?) = some (undefA, .set b3 (.cells (trRow (x.1, w)) true false)) := by
    rw [storeF_at (eG.some n3)]; exact st_tr ow
  have kk3 : (D.set b3 (.cells (trRow (x.1, w)) true false))[b3]? = some (.cells (trRow (x.1, w)) true false) := set_eq' (eG.some n3)
  have f3 := @loadF_at (some 10) b3 0 _ _ kk3
  have l3 := @tr_l10 (x.1, w)
  have eW : Ext h (D.set b3 (.cells (trRow (x.1, w)) true false)) := ext_setG (eB.trans eG) k3
  refine Rs (A6 @t0 @t1 @t2 @st @f3 @l3) ?_
  exact ⟨by first | exact eW | (rw [hbe]; exact eW), w, rfl, by first | exact hfW | (rw [hbe]; exact hfW)⟩
end
end Go.Abs
namespace Go.Abs

set_option maxRecDepth 10000
attribute [local irreducible] WP WC WE WB WR WF WL WG WRg WQ
section
variable {P : Program} (T : Tbl P) {h : AHeap}
include T
set_option maxHeartbeats 16000000 in
theorem r9 (rg : Rng h) {nm : List UInt8} {s : AV} {L : List (Trc × AV)} (o : ShOk h L s) (z : ShSz L) (zl : L.length < 2 ^ 38) (hc : chkSh nm (L.map Prod.fst) = 0) : RCall P 9 [.agg [.str nm, s], .int .i64 (-1), .int .i64 1] h (fun v h' => ∃ (s' : AV) (L' : List (Trc × AV)), v = .tup [.agg [.str nm, s'], .int .i64 0] ∧ ShOk h' L' s' ∧ L'.map Prod.fst = (L.map Prod.fst).map negT) := by
  refine .st3 37 T.mix T.c9 ?_;intro ts hlen t0 t1 t2;unfold fn9
  have bx := @sh_box nm s o.sl.one
  have b0 : ∀ {n : Int} {N : Nat}, boxF (.int .i64 n) N = some (.ptr N 0, .push (.cells [.int .i64 n] true false)) := fun {n N} => rfl
  have bz : ∀ {N : Nat}, boxF (.agg [.str [], .nilSlice]) N = some (.ptr N 0, .push (.cells (shC [] .nilSlice) true false)) := fun {N} => rfl
  have l2 := @sh_l2 nm s
  refine Rs (A6 @t0 @t1 @t2 @bx @b0 @bz) ?_
  obtain ⟨Y, hY⟩ : ∃ Y, Y = h ++ [ABlk.cells (shC nm s) true false] ++ [ABlk.cells [AV.int .i64 (-1)] true false] ++ [ABlk.cells [AV.int .i64 1] true false] ++ [ABlk.cells (shC [] .nilSlice) true false] ++ [ABlk.cells [AV.int .i64 0] true false] := ⟨_, rfl⟩
  obtain ⟨b3, hb3⟩ : ∃ b, b = h.length := ⟨_, rfl⟩
  obtain ⟨b4, hb4⟩ : ∃ b, b = (h ++ [ABlk.cells (shC nm s) true false]).length := ⟨_, rfl⟩
  obtain ⟨b5, hb5⟩ : ∃ b, b = (h ++ [ABlk.cells (shC nm s) true false] ++ [ABlk.cells [AV.int .i64 (-1)] true false]).length := ⟨_, rfl⟩
  obtain ⟨b6, hb6⟩ : ∃ b, b = (h ++ [ABlk.cells (shC nm s) true false] ++ [ABlk.cells [AV.int .i64 (-1)] true false] ++ [ABlk.cells [AV.int .i64 1] true false]).length := ⟨_, rfl⟩
  obtain ⟨b7, hb7⟩ : ∃ b, b = (h ++ [ABlk.cells (shC nm s) true false] ++ [ABlk.cells [AV.int .i64 (-1)] true false] ++ [ABlk.cells [AV.int .i64 1] true false] ++ [ABlk.cells (shC [] .nilSlice) true false]).length := ⟨_, rfl⟩
  have eY : Ext h Y := by rw [hY]; exact Xx
  have m7 : Y[b7]? = some (.cells [AV.int .i64 0] true false) := by rw [hY, hb7]; exact at_new
  have m6 : Y[b6]? = some (.cells (shC [] .nilSlice) true false) := by rw [hY, hb6]; exact at_1
  have m5 : Y[b5]? = some (.cells [AV.int .i64 1] true false) := by rw [hY, hb5]; exact at_2
  have m4 : Y[b4]? = some (.cells [AV.int .i64 (-1)] true false) := by rw [hY, hb4]; exact (show Ext (h ++ [ABlk.cells (shC nm s) true false] ++ [ABlk.cells [AV.int .i64 (-1)] true false] ++ [ABlk.cells [AV.int .i64 1] true false]) _ from Xx).some at_1
  have m3 : Y[b3]? = some (.cells (shC nm s) true false) := by rw [hY, hb3]; exact (show Ext (h ++ [ABlk.cells (shC nm s) true false] ++ [ABlk.cells [AV.int .i64 (-1)] true false] ++ [ABlk.cells [AV.int .i64 1] true false]) _ from Xx).some at_2
  have n6 : h.length ≤ b6 := by rw [hb6]; simp only [List.length_append]; omega
  have n7 : h.length ≤ b7 := by rw [hb7]; simp only [List.length_append]; omega
  have n67 : b6 ≠ b7 := by rw [hb6, hb7]; simp only [List.length_append, List.length_cons, List.length_nil]; omega
  rw [← hY, ← hb3, ← hb4, ← hb5, ← hb6, ← hb7]
  clear hY hb3 hb4 hb5 hb6 hb7
  have i3 := @ldx _ _ _ m3
  have i4 : ∀ {k : AHeap}, Ext Y k → loadF none (.ptr b4 0) (fun z => k[z]?) = some (.int .i64 (-1), .keep) := fun {k} e => by rw [loadF_at (e.some m4)]; rfl
  have i5 : ∀ {k : AHeap}, Ext Y k → loadF none (.ptr b5 0) (fun z => k[z]?) = some (.int .i64 1, .keep) := fun {k} e => by rw [loadF_at (e.some m5)]; rfl
  refine Rs (A5 @t0 @t1 @t2 @i3 @l2) ?_
  refine WF.ce T.c24 (r24 T (rg.ext eY) (o.ext eY) z) fun g1 => ?_
  rw [hc]
  refine Rs (A4 @t0 @t1 @t2 @i4) ?_
  refine WF.ce T.c25 (r25 T _ _ _) fun g2 => ?_
  rw [show rangeS (-1) (-1024) 1024 = 0 from rfl]
  refine Rs (A4 @t0 @t1 @t2 @i5) ?_
  refine WF.ce T.c25 (r25 T _ _ _) fun g3 => ?_
  rw [show rangeS 1 1 1024 = 0 from rfl]
  refine Rs (A3 @t0 @t1 @t2) ?_
  refine WF.ce T.c23 (r23 T (isSl_ints [_, _, _]) (by simp)) fun g4 => ?_
  have d1 : decide ((0 : Int) ≠ 0) = false := rfl
  rw [show firstS [(0 : Int), 0, 0] = 0 from rfl]
  obtain ⟨K1, hK1⟩ : ∃ K, K = Y ++ g1 ++ g2 ++ g3 ++ [ABlk.cells [AV.int .i64 0, AV.int .i64 0, AV.int .i64 0] true true] ++ g4 := ⟨_, rfl⟩
  have f1 : Ext Y K1 := by rw [hK1]; exact Xx
  rw [← hK1]
  clear hK1
  obtain ⟨_, _, _, hct⟩ := chkSh_z hc
  have hcx : ∀ x ∈ L, chkTr x.1 = 0 := fun x hx => hct x.1 (List.mem_map_of_mem hx)
  have i3 := @ldx _ _ _ (f1.some m3)
  refine Rs (A6 @t0 @t1 @t2 @d1 @i3 @l2) ?_
  refine WF.res T.c26 (r26 T (o.ext (eY.trans f1)) zl T.c29 (c := [.ptr b4 0, .ptr b5 0]) (G := negT) (fun x hx k ek => ?_)) ?_
  · exact r29 T ((f1.trans ek).some m4) ((f1.trans ek).some m5) ((o.all x hx).ext (eY.trans (f1.trans ek))) (hcx x hx)
  rintro _ g5 ⟨s', L', rfl, fr, all, fl⟩
  have os' := fr.isSl.one
  have st9 : ∀ {n : Nat}, stB 2 0 (.agg [.str nm, s']) n (.cells (shC [] .nilSlice) true false) = some (undefA, .set n (.cells (shC nm s') true false)) := fun {n} => sh_st os'
  obtain ⟨K2, hK2⟩ : ∃ K, K = K1 ++ g5 := ⟨_, rfl⟩
  have f2 : Ext K1 K2 := by rw [hK2]; exact Xx
  rw [← hK2] at fr all ⊢
  clear hK2
  have bz2 : ∀ {N : Nat}, boxF (.agg [.str [], .nilSlice]) N = some (.ptr N 0, .push (.cells (shC [] .nilSlice) true false)) := fun {N} => rfl
  refine Rs (A5 @t0 @t1 @t2 @bz2 @st9) ?_
  obtain ⟨K3, hK3⟩ : ∃ K, K = K2 ++ [ABlk.cells (shC nm s') true false] := ⟨_, rfl⟩
  have f3 : Ext K2 K3 := by rw [hK3]; exact Xx
  have m9 : K3[K2.length]? = some (.cells (shC nm s') true false) := by rw [hK3]; exact at_new
  obtain ⟨b9, hb9⟩ : ∃ b, b = K2.length := ⟨_, rfl⟩
  rw [← hb9] at m9
  rw [← hK3, ← hb9]
  clear hK3 hb9
  have i9 := @ldx _ _ _ m9
  have l9 := @sh_l2 nm s'
  refine Rs (A5 @t0 @t1 @t2 @i9 @l9) ?_
  refine WF.res T.c35 (r35 T os') ?_
  rintro _ g6 ⟨b, rfl, mb⟩
  obtain ⟨W, hW⟩ : ∃ W, W = K3 ++ g6 := ⟨_, rfl⟩
  have f4 : Ext K3 W := by rw [hW]; exact Xx
  rw [← hW] at mb ⊢
  clear hW
  have e2W : Ext K2 W := f3.trans f4
  have eYW : Ext Y W := f1.trans (f2.trans e2W)
  have oW : ShOk W L' s' := ⟨fr.isSl.ext e2W, fun y hy => (all y hy).isSl.ext e2W⟩
  have hlen' : L'.length = L.length := by have := congrArg List.length fl; simpa using this
  have hL'c : ∀ y ∈ L', chkTr y.1 = 0 := fun y hy => by
    have : y.1 ∈ L'.map Prod.fst := List.mem_map_of_mem hy
    rw [fl] at this
    obtain ⟨x, hx, hxy⟩ := List.mem_map.1 this
    have hxy : negT x.1 = y.1 := hxy
    rw [← hxy]
    exact chkTr_lik (lik_neg (hcx x hx)) (hcx x hx)
  have zW : ShSz L' := ⟨by rw [hlen']; exact z.l, fun y hy => by have := (chkL_z (chkTr_z (hL'c y hy)).2.2).1; omega⟩
  have w6 := eYW.some m6
  have w7 := eYW.some m7
  have w9 := f4.some m9
  refine Rs (A3 @t0 @t1 @t2) ?_
  refine WC.iter T.mix T.c76 (a := []) (c := [.ptr b 0]) Sw (iter_live T mb oW zW) (liveL_two L' 0)
    (fun i h' g => h' = W) (fun e h' g => False)
    rfl (fun i h' g g' hI => hI) (fun i h' g X hl hI => ?_) (fun i hi h' g R B hl' hI => ?_) (fun e h' g hl hI => ?_)
  · rw [hI]; exact Xx
  · subst hI
    have hi2 : i < (liveT L').length := by rw [← liveL_len L' 0]; exact hi
    obtain ⟨j, en⟩ := liveL_at L' 0 i hi hi2
    rw [en]
    obtain ⟨x, hx0⟩ : ∃ x, x = (liveT L')[i] := ⟨_, rfl⟩
    rw [← hx0]
    have hmem : x ∈ L' := (List.mem_filter.1 (show x ∈ liveT L' by rw [hx0]; exact List.getElem_mem _)).1
    have hx := oW.all x hmem
    have bz3 := @z10_box
    have st := @st_tr x hx.one
    simp only [setArgs]
    refine Rs (A3 @t0 @bz3 @st) ?_
    refine ⟨h', g ++ [ABlk.cells (trRow x) true false], by rw [← List.append_assoc], rfl, ?_⟩
    have l8 : ∀ {n : Option Nat} {a : Nat}, loadF n (.ptr (h' ++ [R] ++ g).length a) (fun z => (h' ++ [B] ++ (g ++ [ABlk.cells (trRow x) true false]))[z]?) = ldB n a (.cells (trRow x) true false) := fun {n a} => loadF_at at_it
    have l9v : ldV (trRow x)[9]? = some (x.2, .keep) := rfl
    obtain ⟨hxl, hxg⟩ := chkL_z (chkTr_z (hL'c x hmem)).2.2
    have hz : firstS (x.1.sm.map gridE) = 0 := firstS_nil0 fun y hy => by
      obtain ⟨u, hu, rfl⟩ := List.mem_map.1 hy
      exact hxg u hu
    refine Rs (A3 @t0 @l8 @l9v) ?_
    refine WF.ce T.c36 (r36 T (hx.ext (show Ext h' (h' ++ [B] ++ (g ++ [ABlk.cells (trRow x) true false])) from ⟨[B] ++ (g ++ [ABlk.cells (trRow x) true false]), by rw [List.append_assoc]⟩)) (by omega)) fun g7 => ?_
    rw [hz]
    refine Rs (A2 @t0 @d1) ?_
    exact ⟨h', g ++ [ABlk.cells (trRow x) true false] ++ g7, by simp only [List.append_assoc], rfl, rfl⟩
  · by_cases hen : e = .normal
    case neg => rw [if_neg hen] at hI; exact hI.elim
    subst hen
    rw [if_pos rfl] at hI
    subst hI
    obtain ⟨D, hD⟩ : ∃ D, D = h' ++ [ABlk.dead] ++ g := ⟨_, rfl⟩
    have eD : Ext h' D := by rw [hD]; exact Xx
    rw [← hD]
    clear hD
    have i9 := @ldx _ _ _ (eD.some w9)
    have s6 : storeF 2 (.ptr b6 0) (.agg [.str nm, s']) (fun z => D[z]?) = some (undefA, .set b6 (.cells (shC nm s') true false)) := by
      rw [storeF_at (eD.some w6)]; exact sh_st os'
    have k6 : (D.set b6 (.cells (shC nm s') true false))[b6]? = some (.cells (shC nm s') true false) := set_eq' (eD.some w6)
    have k7 : (D.set b6 (.cells (shC nm s') true false))[b7]? = some (.cells [AV.int .i64 0] true false) := set_ne' n67 (eD.some w7)
    have s7 := st1_at (v := .int .i64 0) k7 rfl
    have k6' : ((D.set b6 (.cells (shC nm s') true false)).set b7 (.cells [AV.int .i64 0] true false))[b6]? = some (.cells (shC nm s') true false) := set_ne' n67.symm k6
    have k7' : ((D.set b6 (.cells (shC nm s') true false)).set b7 (.cells [AV.int .i64 0] true false))[b7]? = some (.cells [AV.int .i64 0] true false) := set_eq' k7
    have p6 := @loadF_at (some 2) b6 0 _ _ k6'
    have p7 := @loadF_at none b7 0 _ _ k7'
    have eW : Ext h ((D.set b6 (.cells (shC nm s') true false)).set b7 (.cells [AV.int .i64 0] true false)) := ext_setG (ext_setG (eY.trans (eYW.trans eD)) n6) n7
    have b6K : b6 < K2.length := (List.getElem?_eq_some_iff.1 ((f1.trans f2).some m6)).1
    have b7K : b7 < K2.length := (List.getElem?_eq_some_iff.1 ((f1.trans f2).some m7)).1
    have hK1l := (List.getElem?_eq_some_iff.1 (f1.some m6)).1
    have hK1m := (List.getElem?_eq_some_iff.1 (f1.some m7)).1
    have okW : ShOk ((D.set b6 (.cells (shC nm s') true false)).set b7 (.cells [AV.int .i64 0] true false)) L' s' := ⟨((oW.sl.ext eD).setb (fr.notB hK1l)).setb (fr.notB hK1m), fun y hy => (((oW.all y hy).ext eD).setb ((all y hy).notB hK1l)).setb ((all y hy).notB hK1m)⟩
    refine Rs (A7 @t0 @i9 @l9 @s6 @s7 @p6 @p7) ?_
    exact ⟨eW, s', L', rfl, okW, by rw [fl, List.map_map]; rfl⟩
end
end Go.Abs
namespace Go.Abs

set_option maxRecDepth 10000
attribute [local irreducible] WP WC WE WB WR WF WL WG WRg WQ
section
variable {P : Program} (T : Tbl P) {h : AHeap}
include T
set_option maxHeartbeats 2000000 in
theorem r55 {s : AV} {l : List Nat} (hs : IsSl h s 1 (l.map fltR)) (hl : l.length < 2 ^ 40) {f : FuncId} {AF : AFunc} (hA : compileFn P f = some AF) {g : Nat → Int} (hf : ∀ x ∈ l, ∀ k, RCall P f [.flt .f32 x] k (fun v _ => v = .int .i64 (g x))) : RCall P 55 [s, .func (.func f) [] []] h (fun v h' => IsSl h' v 1 ((l.map g).map intRow)) := by
  refine .st2 22 T.mix T.c55 ?_;intro ts hlen t0 t1;unfold fn55
  refine Rs (A3 @t0 @t1 hs.lenm) ?_
  refine WL.inv T.mix (fun n ts K => ∃ (k : Nat) (t : AV), k ≤ l.length ∧ n = l.length - k ∧ Ext h K ∧ Fr h.length K t 1 (((l.take k).map g).map intRow) ∧ ts.length = 22 ∧ slot ts 1 = .func (.func f) [] [] ∧ slot ts 5 = t ∧ slot ts 8 = s ∧ slot ts 9 = .int .i64 l.length ∧ slot ts 10 = .int .i64 k) l.length
    ⟨0, .nilSlice, by omega, rfl, .refl _, .nil, Sn, (Sq @t1), Sw, Sw, Sw, Swr⟩ ?_
  clear hlen t0 t1
  rintro _ ts K ⟨k, t, hk, rfl, eK, hfr, hlen, t1, t5, t8, t9, t10⟩
  have hsK := hs.ext eK
  by_cases hlt : k < l.length
  case neg =>
    have e3 := dltF hlt
    have e4 : k = l.length := by omega
    rw [e4, List.take_length] at hfr
    refine Rs (A6 @t1 @t5 @t8 @t9 @t10 @e3) ?_
    exact ⟨eK, hfr.isSl⟩
  have e3 := dltT hlt
  have e5 := wrapN (n := k) (by omega)
  have ix := hsK.ixm (kk := .i64) hlt
  obtain ⟨x, hx⟩ : ∃ x, x = l[k] := ⟨_, rfl⟩
  have ld : ∀ {kk : AHeap}, Ext K kk → loadF none (elp s 1 k) (fun b => kk[b]?) = some (.flt .f32 x, .keep) := fun {kk} e => by rw [hx]; exact hsK.l1m hlt rfl e
  have hmem : x ∈ l := by rw [hx]; exact List.getElem_mem _
  have ot := hfr.isSl.one
  have htk : l.take (k + 1) = l.take k ++ [x] := by rw [hx]; exact List.take_succ_eq_append_getElem hlt
  refine Rs (A9 @t1 @t5 @t8 @t9 @t10 @e3 @ix @ld @ot) ?_
  refine WF.ce hA (hf x hmem _) fun g1 => ?_
  have bs : ∀ {N : Nat}, bslF 1 1 (fillA [.int .i64 0] [(0, 1, .int .i64 (g x))]) N = some (.slice N 0 1 1, .push (.cells [.int .i64 (g x)] true true)) := fun {N} => rfl
  refine Rs (A7 @t1 @t5 @t8 @t9 @t10 @ot @bs) ?_
  refine WR.appR (B := h) (cs := ((l.take k).map g).map intRow) (z := intRow (g x)) (hfr.app _) rfl (eK.trans ⟨_, rfl⟩) (by decide) (by rw [List.length_map, List.length_map, List.length_take]; omega) ?_
  intro W5 s' x5 hff q5
  have hrow : ((l.take k).map g).map intRow ++ [intRow (g x)] = ((l.take (k + 1)).map g).map intRow := by rw [htk, List.map_append, List.map_append]; rfl
  rw [hrow] at hff
  refine Rs (A7 @t1 @t5 @t8 @t9 @t10 @q5 @e5) ?_
  exact ⟨l.length - (k + 1), by omega, k + 1, s', by omega, rfl, x5, hff, rfl, rfl⟩
set_option maxHeartbeats 4000000 in
theorem r15 {s : AV} {l : List Nat} (hs : IsSl h s 1 (l.map fltR)) (hc : chkL l = 0) : RCall P 15 [s] h (fun v _ => v = .tup [.int .i64 (dotI (l.map gridN) (l.map gridN)), .int .i64 0]) := by
  refine .st1 27 T.mix T.c15 ?_;intro ts hlen t0;unfold fn15
  obtain ⟨hl, hg⟩ := chkL_z hc
  have d1 : decide ((0 : Int) ≠ 0) = false := rfl
  refine Rs @t0 ?_
  refine WF.ce T.c54 (r54 T hs (by omega)) fun g1 => ?_
  rw [hc]
  refine Rs (A2 @t0 @d1) ?_
  refine WF.res T.c55 (r55 T (hs.ext Xx) (by omega) T.c34 (g := gridN) (fun x hx k => r34 T (hg x hx))) ?_
  intro w g2 hw
  obtain ⟨A, hA⟩ : ∃ A, A = l.map gridN := ⟨_, rfl⟩
  have hAb : ∀ x ∈ A, -32768 ≤ x ∧ x ≤ 32768 := by rw [hA]; exact wide (grid_all hg)
  have hAl : A.length ≤ 1024 := by rw [hA, List.length_map]; exact hl
  rw [← hA] at hw ⊢
  obtain ⟨Y, hY⟩ : ∃ Y, Y = h ++ g1 ++ g2 := ⟨_, rfl⟩
  have eY : Ext h Y := by rw [hY]; exact Xx
  rw [← hY] at hw ⊢
  clear hY
  refine Rs (A2 @t0 hw.lenm) ?_
  refine WL.inv T.mix (fun n ts K => ∃ k : Nat, k ≤ A.length ∧ n = A.length - k ∧ K = Y ∧ ts.length = 27 ∧ slot ts 5 = .int .i64 (dotS A A k) ∧ slot ts 14 = w ∧ slot ts 15 = .int .i64 A.length ∧ slot ts 16 = .int .i64 k) A.length
    ⟨0, by omega, rfl, rfl, Sn, Swr, Sw, Sw, Swr⟩ ?_
  clear hlen t0
  rintro _ ts K ⟨k, hk, rfl, rfl, hlen, t5, t14, t15, t16⟩
  by_cases hlt : k < A.length
  case neg =>
    have e3 := dltF hlt
    have e4 : k = A.length := by omega
    rw [e4] at t5
    refine Rs (A5 @t5 @t14 @t15 @t16 @e3) ?_
    exact ⟨eY, rfl⟩
  have e3 := dltT hlt
  have e5 := wrapN (n := k) (by omega)
  have ix := hw.ixm (kk := .i64) hlt
  have ax := atZ_at hlt
  have bx := hAb A[k] (List.getElem_mem _)
  have db := dotS_bd hAb hAb k
  obtain ⟨x, hx⟩ : ∃ x, x = A[k] := ⟨_, rfl⟩
  have ld : ∀ {kk : AHeap}, Ext K kk → loadF none (elp w 1 k) (fun b => kk[b]?) = some (.int .i64 x, .keep) := fun {kk} e => by rw [hx]; exact hw.l1m hlt rfl e
  rw [← hx] at ax bx
  have pb := prod_bd' bx bx
  have w3 : IntKind.i64.wrap (x * x) = x * x := wrap_in (by omega) (by omega)
  have w4 : IntKind.i64.wrap (dotS A A k + x * x) = dotS A A (k + 1) := by rw [dotS, ax, wrap_in (by omega) (by omega)]
  refine Rs (A10 @t5 @t14 @t15 @t16 @e3 @ix @ld @w3 @w4 @e5) ?_
  exact ⟨A.length - (k + 1), by omega, k + 1, by omega, rfl, rfl, rfl⟩
end
end Go.Abs
namespace Go.Abs

/-- A part of a row of a list, loaded whole. -/
theorem IsSl.loadn {h k : AHeap} {s : AV} {es n : Nat} {α : Type} {row : α → List AV} {L : List α} (hs : IsSl h s es (L.map row)) (e : Ext h k) {i : Nat} (hi : i < L.length) (hn : n ≤ es) : loadF (some n) (elf s es i 0) (fun b => k[b]?) = some (.agg ((row L[i]).take n), .keep) := by
  have hk := hs.ext e
  have hi' : i < (L.map row).length := by rw [List.length_map]; exact hi
  generalize hcs : L.map row = cs at hk hi'
  have hrow : cs[i] = row L[i] := by subst hcs; rw [List.getElem_map]
  rw [← hrow]
  cases hk with
  | nil => simp at hi'
  | @mk b o es cs c mu tl hb hf ho he =>
    have hle : i * es + es ≤ cs.length * es := by rw [← Nat.succ_mul]; exact Nat.mul_le_mul_right _ hi'
    have h1 := flatten_row he hi'
    show loadF (some n) (.ptr b (o + i * es + 0)) (fun b => k[b]?) = _
    simp only [loadF, hb, Nat.add_zero]
    rw [if_pos (by omega), ← h1, ← hf, List.drop_take, List.take_take, List.take_take, List.drop_drop, show min (min n es) (cs.length * es - i * es) = n by omega]
theorem fill_th {f : Nat → Int} {b : Bool} : fillA [.int .i64 0, .int .i64 0, .int .i64 0, .int .i64 0, .int .i64 0, .int .i64 0, .int .i64 0, .int .i64 0, .bool false, .nilSlice] [(0, 8, .agg (hdR f)), (8, 1, .bool b)] = some (trRow (⟨f, b, []⟩, .nilSlice)) := by
  unfold fillA
  rw [if_pos ⟨rfl, by decide⟩]
  unfold fillA
  rw [if_pos ⟨rfl, by show 8 + 1 ≤ 10; omega⟩]
  rfl
/-- Two lists of samples that can be added. -/
structure AddOk (l m : List Nat) : Prop where
  ga : ∀ b ∈ l, gridE b = 0
  gb : ∀ b ∈ m, gridE b = 0
  le : l.length = m.length
  l2 : l.length ≤ 1024
  bd : ∀ (i : Nat) (h1 : i < l.length) (h2 : i < m.length), -16384 ≤ gridN l[i] + gridN m[i] ∧ gridN l[i] + gridN m[i] ≤ 16384
set_option maxRecDepth 10000
attribute [local irreducible] WP WC WE WB WR WF WL WG WRg WQ
section
variable {P : Program} (T : Tbl P) {h : AHeap}
include T
set_option maxHeartbeats 4000000 in
theorem r37 (rg : Rng h) {na nb : List UInt8} {s t : AV} {A B : List (Trc × AV)} (oa : ShOk h A s) (ob : ShOk h B t) (za : ShSz A) (zb : ShSz B) (ca : chkSh na (A.map Prod.fst) = 0) (cb : chkSh nb (B.map Prod.fst) = 0) (hl : A.length = B.length) : RCall P 37 [.agg [.str na, s], .agg [.str nb, t]] h (fun v _ => v = .int .i64 0) := by
  refine .st2 19 T.mix T.c37 ?_;intro ts hlen t0 t1;unfold fn37
  have bx := @sh_box na s oa.sl.one
  have by' := @sh_box nb t ob.sl.one
  have l2 := @sh_l2 na s
  have l3 := @sh_l2 nb t
  have l2v : ldV (shC na s)[1]? = some (s, .keep) := rfl
  have l3v : ldV (shC nb t)[1]? = some (t, .keep) := rfl
  refine Rs (A4 @t0 @t1 @bx @by') ?_
  obtain ⟨Y, hY⟩ : ∃ Y, Y = h ++ [ABlk.cells (shC na s) true false] ++ [ABlk.cells (shC nb t) true false] := ⟨_, rfl⟩
  have eY : Ext h Y := by rw [hY]; exact Xx
  have m2 : Y[h.length]? = some (.cells (shC na s) true false) := by rw [hY]; exact at_1
  have m3 : Y[(h ++ [ABlk.cells (shC na s) true false]).length]? = some (.cells (shC nb t) true false) := by rw [hY]; exact at_new
  obtain ⟨b2, hb2⟩ : ∃ b, b = h.length := ⟨_, rfl⟩
  obtain ⟨b3, hb3⟩ : ∃ b, b = (h ++ [ABlk.cells (shC na s) true false]).length := ⟨_, rfl⟩
  rw [← hb2] at m2
  rw [← hb3] at m3
  rw [← hY, ← hb2, ← hb3]
  clear hY hb2 hb3
  have i2 := @ldx _ _ _ m2
  have i3 := @ldx _ _ _ m3
  have la := fun G => oa.sl.lenm G
  have lb := fun G => ob.sl.lenm G
  have d0 : decide ((A.length : Int) ≠ (B.length : Int)) = false := decide_eq_false fun z => z (by rw [hl])
  refine Rs (A4 @t0 @t1 @i2 @l2) ?_
  refine WF.ce T.c24 (r24 T (rg.ext eY) (oa.ext eY) za) fun g1 => ?_
  rw [ca]
  refine Rs (A4 @t0 @t1 @i3 @l3) ?_
  refine WF.ce T.c24 (r24 T (rg.ext (eY.trans Xx)) (ob.ext (eY.trans Xx)) zb) fun g2 => ?_
  rw [cb]
  refine Rs (A9 @t0 @t1 @i2 @i3 @l2v @l3v @la @lb @d0) ?_
  refine WF.ce T.c71 (r71 T _ _) fun g3 => ?_
  rw [show whenS false 2 = 0 from rfl]
  refine Rs (A2 @t0 @t1) ?_
  refine WF.ce T.c23 (r23 T (isSl_ints [_, _, _]) (by simp)) fun g4 => ?_
  rw [show firstS [(0 : Int), 0, 0] = 0 from rfl]
  refine Rs (A2 @t0 @t1) ?_
  exact ⟨eY.trans Xx, trivial⟩
set_option maxHeartbeats 8000000 in
theorem r40 {p q : Nat} {x y : Trc × AV} (mp : h[p]? = some (.cells (trRow x) true false)) (mq : h[q]? = some (.cells (trRow y) true false)) (hx : IsSl h x.2 1 (x.1.sm.map fltR)) (hy : IsSl h y.2 1 (y.1.sm.map fltR)) (ad : AddOk x.1.sm y.1.sm) : RCall P 40 [.ptr p 0, .ptr q 0] h (fun v h' => ∃ l : List Nat, Fr h.length h' v 1 (l.map fltR) ∧ (∀ b ∈ l, gridE b = 0) ∧ l.map gridN = addL (x.1.sm.map gridN) (y.1.sm.map gridN)) := by
  refine .st2 30 T.mix T.c40 ?_;intro ts hlen t0 t1;unfold fn40
  have ip := @ldx _ _ _ mp
  have iq := @ldx _ _ _ mq
  have l9x : ldV (trRow x)[9]? = some (x.2, .keep) := rfl
  have l9y : ldV (trRow y)[9]? = some (y.2, .keep) := rfl
  have hlx := fun G => hx.lenm G
  have hl2 := ad.l2
  have hle := ad.le
  repeat (first | simp (config := { maxSteps := 1000000 }) only [wset, hset, dset, bset, Nat.reduceAdd, Nat.reduceMul, Nat.reduceLeDiff, Nat.reduceEqDiff, pset, hlen, if_false, if_true, t0, t1, ip, l9x, hlx, mksl_ok (es := 1) (w := 4) (N0 := h.length) (n := x.1.sm.length) (z := [AV.flt .f32 0]) (k := .i64) (k' := .i64) (by omega) (by omega)] | simp (config := { maxSteps := 1000000 }) (disch := first | (simp only [List.length_append, List.length_cons, List.length_nil] <;> omega) | rfl | omega | fail) only [kset, wset, hset, dset, bset, Nat.reduceAdd, Nat.reduceMul, Nat.reduceLeDiff, Nat.reduceEqDiff, pset, hlen, if_false, if_true, t0, t1, ip, l9x, hlx, mksl_ok (es := 1) (w := 4) (N0 := h.length) (n := x.1.sm.length) (z := [AV.flt .f32 0]) (k := .i64) (k' := .i64) (by omega) (by omega)])
  have hF := Fr.zeros (N := h.length) (n := x.1.sm.length) (h := h) (z := [AV.flt .f32 0]) (es := 1) (Nat.le_refl _) rfl
  obtain ⟨sv, hsv⟩ : ∃ sv, sv = AV.slice h.length 0 x.1.sm.length 1 := ⟨_, rfl⟩
  rw [← hsv] at hF ⊢
  have er : List.replicate x.1.sm.length [AV.flt .f32 0] = (List.replicate x.1.sm.length (0 : Nat)).map fltR := by simp [fltR]
  rw [er] at hF
  obtain ⟨f, hf⟩ : ∃ f : Nat → Int, f = fun i : Nat => atZ (x.1.sm.map gridN) i + atZ (y.1.sm.map gridN) i := ⟨_, rfl⟩
  have ef : genL x.1.sm.length f = addL (x.1.sm.map gridN) (y.1.sm.map gridN) := by rw [addL, List.length_map, hf]
  have osv := hF.isSl.one
  refine Rs (A6 @t0 @t1 @ip @l9x @hlx @osv) ?_
  refine WL.inv T.mix (fun n ts K => ∃ (j : Nat) (G : AHeap) (Z : List Nat), j ≤ x.1.sm.length ∧ n = x.1.sm.length - j ∧ K = h ++ G ∧ Fr h.length K sv 1 (Z.map fltR) ∧ GrTo Z x.1.sm.length f j ∧ ts.length = 30 ∧ slot ts 0 = .ptr p 0 ∧ slot ts 1 = .ptr q 0 ∧ slot ts 3 = sv ∧ slot ts 11 = x.2 ∧ slot ts 12 = .int .i64 x.1.sm.length ∧ slot ts 13 = .int .i64 j) x.1.sm.length
    ⟨0, _, List.replicate x.1.sm.length 0, by omega, rfl, rfl, hF, ⟨List.length_replicate, fun i _ hi => by omega⟩, Sn, (Sq @t0), (Sq @t1), Sw, Sw, Sw, Swr⟩ ?_
  clear hlen t0 t1 hF
  rintro _ ts _ ⟨j, G, Z, hj, rfl, rfl, fz, gr, hlen, t0, t1, t3, t11, t12, t13⟩
  have eK : Ext h (h ++ G) := ⟨G, rfl⟩
  by_cases hlt : j < x.1.sm.length
  case neg =>
    have e3 := dltF hlt
    have e4 : j = x.1.sm.length := by omega
    rw [e4] at gr
    obtain ⟨q1, n1⟩ := gr.all
    refine Rs (A7 @t0 @t1 @t3 @t11 @t12 @t13 @e3) ?_
    exact ⟨Z, fz, q1, by rw [n1, ef]⟩
  have e3 := dltT hlt
  have e5 := wrapN (n := j) (by omega)
  have hly : j < y.1.sm.length := by omega
  have k1 : j < Z.length := by rw [gr.1]; exact hlt
  have hxK := hx.ext eK
  have hyK := hy.ext eK
  have ixx := hxK.ixm (kk := .i64) hlt
  have ixy := hyK.ixm (kk := .i64) hly
  have ixz := fz.isSl.ixm (kk := .i64) k1
  have lx : ∀ {kk : AHeap}, Ext (h ++ G) kk → loadF none (elp x.2 1 j) (fun b => kk[b]?) = some (.flt .f32 x.1.sm[j], .keep) := fun {kk} e => hxK.l1m hlt rfl e
  have ly : ∀ {kk : AHeap}, Ext (h ++ G) kk → loadF none (elp y.2 1 j) (fun b => kk[b]?) = some (.flt .f32 y.1.sm[j], .keep) := fun {kk} e => hyK.l1m hly rfl e
  have gx := ad.ga x.1.sm[j] (List.getElem_mem _)
  have gy := ad.gb y.1.sm[j] (List.getElem_mem _)
  obtain ⟨r, hr, gq, nq⟩ := grid_add gx gy (ad.bd j hlt hly)
  have hfj : f j = gridN x.1.sm[j] + gridN y.1.sm[j] := by
    rw [hf]
    show atZ _ (j : Int) + atZ _ (j : Int) = _
    rw [atZ_at (by rw [List.length_map]; exact hlt), atZ_at (by rw [List.length_map]; exact hly), List.getElem_map, List.getElem_map]
  have gr' := gr.set gq (nq.trans hfj.symm)
  have iq := @ldx _ _ _ (eK.some mq)
  have osv := fz.isSl.one
  refine Rs (A16 @t0 @t1 @t3 @t11 @t12 @t13 @e3 @ixx @lx @iq @l9y @ixy @ly @hr @ixz @osv) ?_
  refine WR.put1 (h0 := h) (off := 0) (row := fltR) (x' := r) fz k1 (by decide) rfl rfl ?_
  intro G2 hl2 F2 fr2
  refine Rs (A7 @t0 @t1 @t3 @t11 @t12 @t13 @e5) ?_
  exact ⟨x.1.sm.length - (j + 1), by omega, j + 1, G2, Z.set j r, by omega, rfl, rfl, F2, gr', rfl⟩
set_option maxHeartbeats 8000000 in
theorem r39 {p q : Nat} {x y : Trc × AV} (mp : h[p]? = some (.cells (trRow x) true false)) (mq : h[q]? = some (.cells (trRow y) true false)) (hx : IsSl h x.2 1 (x.1.sm.map fltR)) (hy : IsSl h y.2 1 (y.1.sm.map fltR)) (ad : x.1.hole = false → y.1.hole = false → AddOk x.1.sm y.1.sm) : RCall P 39 [.agg (trRow x), .agg (trRow y), .func (.func 40) [] [.ptr p 0, .ptr q 0]] h (fun v h' => ∃ (u : Trc) (w : AV), v = .agg (trRow (u, w)) ∧ Fr h.length h' w 1 (u.sm.map fltR) ∧ SumT x.1 y.1 u) := by
  refine .st3 24 T.mix T.c39 ?_;intro ts hlen t0 t1 t2;unfold fn39
  have bx : ∀ {N : Nat}, boxF (.agg (trRow x)) N = some (.ptr N 0, .push (.cells (trRow x) true false)) := fun {N} => tr_box hx.one
  have by' : ∀ {N : Nat}, boxF (.agg (trRow y)) N = some (.ptr N 0, .push (.cells (trRow y) true false)) := fun {N} => tr_box hy.one
  have b10 := @z10_box
  refine Rs (A6 @t0 @t1 @t2 @bx @by' @b10) ?_
  obtain ⟨Y, hY⟩ : ∃ Y, Y = h ++ [ABlk.cells (trRow x) true false] ++ [ABlk.cells (trRow y) true false] ++ [ABlk.cells z10 true false] := ⟨_, rfl⟩
  obtain ⟨b3, hb3⟩ : ∃ b, b = h.length := ⟨_, rfl⟩
  have hbe := hb3
  obtain ⟨b4, hb4⟩ : ∃ b, b = (h ++ [ABlk.cells (trRow x) true false]).length := ⟨_, rfl⟩
  obtain ⟨b6, hb6⟩ : ∃ b, b = (h ++ [ABlk.cells (trRow x) true false] ++ [ABlk.cells (trRow y) true false]).length := ⟨_, rfl⟩
  have eY : Ext h Y := by rw [hY]; exact Xx
  have m6 : Y[b6]? = some (.cells z10 true false) := by rw [hY, hb6]; exact at_new
  have m4 : Y[b4]? = some (.cells (trRow y) true false) := by rw [hY, hb4]; exact at_1
  have m3 : Y[b3]? = some (.cells (trRow x) true false) := by rw [hY, hb3]; exact at_2
  have n6 : h.length ≤ b6 := by rw [hb6]; simp only [List.length_append]; omega
  rw [← hY, ← hb3, ← hb4, ← hb6]
  clear hY hb3 hb4 hb6
  have b6Y := (List.getElem?_eq_some_iff.1 m6).1
  have i3 := @ldx _ _ _ m3
  have i4 := @ldx _ _ _ m4
  have l8 := @tr_l8 x
  have h8 : ldV (trRow x)[8]? = some (.bool x.1.hole, .keep) := rfl
  have h8y : ldV (trRow y)[8]? = some (.bool y.1.hole, .keep) := rfl
  obtain ⟨hb, hhb⟩ : ∃ hb, hb = (x.1.hole || y.1.hole) := ⟨_, rfl⟩
  obtain ⟨u0, hu0⟩ : ∃ u0 : Trc × AV, u0 = (⟨x.1.hd, hb, []⟩, .nilSlice) := ⟨_, rfl⟩
  have bd := @fill_th x.1.hd hb
  rw [← hu0] at bd
  have hu1 : u0.1.hd = x.1.hd := by rw [hu0]
  have hu2 : u0.1.hole = hb := by rw [hu0]
  have hu3 : u0.2 = .nilSlice := by rw [hu0]
  have st := @st_tr u0 (by rw [hu3]; rfl)
  have tl : ∀ {D : AHeap} {b7 : Nat} {u : Trc} {w : AV}, Ext Y D → D[b7]? = some (.cells (trRow (u, w)) true false) → Fr Y.length D w 1 (u.sm.map fltR) → storeF 10 (.ptr b6 0) (.agg (trRow (u, w))) (fun z => D[z]?) = some (undefA, .set b6 (.cells (trRow (u, w)) true false)) ∧ loadF (some 10) (.ptr b6 0) (fun z => (D.set b6 (.cells (trRow (u, w)) true false))[z]?) = some (.agg (trRow (u, w)), .keep) ∧ Ext h (D.set b6 (.cells (trRow (u, w)) true false)) ∧ Fr h.length (D.set b6 (.cells (trRow (u, w)) true false)) w 1 (u.sm.map fltR) := by
    intro D b7 u w eD m7 fw
    have k6 : (D.set b6 (.cells (trRow (u, w)) true false))[b6]? = some (.cells (trRow (u, w)) true false) := set_eq' (eD.some m6)
    refine ⟨?_, ?_, ext_setG (eY.trans eD) n6, (fw.setn (fw.notB b6Y)).low eY.len⟩
    · rw [storeF_at (eD.some m6)]; exact st_tr fw.isSl.one
    · rw [loadF_at k6]; exact tr_l10
  cases hx0 : x.1.hole with
  | true =>
    have hbt : hb = true := by rw [hhb, hx0, Bool.true_or]
    have su : SumT x.1 y.1 u0.1 := ⟨hu1, hu2.trans hhb, fun _ => by rw [hu0], fun z => by rw [hu2, hbt] at z; cases z⟩
    have hu : trRow u0 = trRow (u0.1, u0.2) := rfl
    have lu8 : ldV (trRow u0)[8]? = some (.bool hb, .keep) := by rw [← hu2]; rfl
    rw [hbt] at bd lu8
    have n6' := n6
    refine Rs (A10 @t0 @t1 @t2 @i3 @l8 @h8 @hx0 @bd @b10 @st) ?_
    obtain ⟨D, hD⟩ : ∃ D, D = Y ++ [ABlk.cells (trRow u0) true false] := ⟨_, rfl⟩
    have eD : Ext Y D := by rw [hD]; exact Xx
    have m7 : D[Y.length]? = some (.cells (trRow u0) true false) := by rw [hD]; exact at_new
    rw [← hD]
    clear hD
    have i7 := @ldx _ _ _ m7
    obtain ⟨s6, f6, x6, r6⟩ := tl (u := u0.1) (w := u0.2) eD m7 (by rw [hu3]; rw [hu0]; exact .nil)
    have l10 : ldB (some 10) 0 (.cells (trRow u0) true false) = some (.agg (trRow u0), .keep) := @tr_l10 u0
    have s6 : storeF 10 (.ptr b6 0) (.agg (trRow u0)) (fun z => D[z]?) = some (undefA, .set b6 (.cells (trRow u0) true false)) := s6
    have f6 : loadF (some 10) (.ptr b6 0) (fun z => (D.set b6 (.cells (trRow u0) true false))[z]?) = some (.agg (trRow u0), .keep) := f6
    refine Rs (A9 @t0 @t1 @t2 @i7 @lu8 @Bool.not_true @l10 @s6 @f6) ?_
    exact ⟨by first | exact x6 | (rw [hbe]; exact x6), u0.1, u0.2, rfl, by first | exact r6 | (rw [hbe]; exact r6), su⟩
  | false =>
    cases hy0 : y.1.hole with
    | true =>
      have hbt : hb = true := by rw [hhb, hx0, hy0]; rfl
      have su : SumT x.1 y.1 u0.1 := ⟨hu1, hu2.trans hhb, fun _ => by rw [hu0], fun z => by rw [hu2, hbt] at z; cases z⟩
      have lu8 : ldV (trRow u0)[8]? = some (.bool hb, .keep) := by rw [← hu2]; rfl
      rw [hbt] at bd lu8
      refine Rs (A13 @t0 @t1 @t2 @i3 @i4 @l8 @h8 @h8y @hx0 @hy0 @bd @b10 @st) ?_
      obtain ⟨D, hD⟩ : ∃ D, D = Y ++ [ABlk.cells (trRow u0) true false] := ⟨_, rfl⟩
      have eD : Ext Y D := by rw [hD]; exact Xx
      have m7 : D[Y.length]? = some (.cells (trRow u0) true false) := by rw [hD]; exact at_new
      rw [← hD]
      clear hD
      have i7 := @ldx _ _ _ m7
      obtain ⟨s6, f6, x6, r6⟩ := tl (u := u0.1) (w := u0.2) eD m7 (by rw [hu3]; rw [hu0]; exact .nil)
      have l10 : ldB (some 10) 0 (.cells (trRow u0) true false) = some (.agg (trRow u0), .keep) := @tr_l10 u0
      have s6 : storeF 10 (.ptr b6 0) (.agg (trRow u0)) (fun z => D[z]?) = some (undefA, .set b6 (.cells (trRow u0) true false)) := s6
      have f6 : loadF (some 10) (.ptr b6 0) (fun z => (D.set b6 (.cells (trRow u0) true false))[z]?) = some (.agg (trRow u0), .keep) := f6
      refine Rs (A9 @t0 @t1 @t2 @i7 @lu8 @Bool.not_true @l10 @s6 @f6) ?_
      exact ⟨by first | exact x6 | (rw [hbe]; exact x6), u0.1, u0.2, rfl, by first | exact r6 | (rw [hbe]; exact r6), su⟩
    | false =>
      have hbf : hb = false := by rw [hhb, hx0, hy0]; rfl
      have lu8 : ldV (trRow u0)[8]? = some (.bool hb, .keep) := by rw [← hu2]; rfl
      rw [hbf] at bd lu8
      refine Rs (A13 @t0 @t1 @t2 @i3 @i4 @l8 @h8 @h8y @hx0 @hy0 @bd @b10 @st) ?_
      obtain ⟨D, hD⟩ : ∃ D, D = Y ++ [ABlk.cells (trRow u0) true false] := ⟨_, rfl⟩
      have eD : Ext Y D := by rw [hD]; exact Xx
      have m7 : D[Y.length]? = some (.cells (trRow u0) true false) := by rw [hD]; exact at_new
      have hDl : D.length = Y.length + 1 := by rw [hD, List.length_append, List.length_singleton]
      rw [← hD]
      clear hD
      obtain ⟨b7, hb7⟩ : ∃ b, b = Y.length := ⟨_, rfl⟩
      rw [← hb7] at m7 ⊢
      have i7 := @ldx _ _ _ m7
      have eh := eY.trans eD
      refine Rs (A6 @t0 @t1 @t2 @i7 @lu8 @Bool.not_false) ?_
      refine WF.res (a := []) (c := [.ptr p 0, .ptr q 0]) T.c40 (r40 T (eh.some mp) (eh.some mq) (hx.ext eh) (hy.ext eh) (ad hx0 hy0)) ?_
      rintro w g1 ⟨l, fw, gl, nl⟩
      have ow := fw.isSl.one
      obtain ⟨E, hE⟩ : ∃ E, E = D ++ g1 := ⟨_, rfl⟩
      have eE : Ext D E := by rw [hE]; exact Xx
      rw [← hE] at fw ⊢
      clear hE
      have m7 := eE.some m7
      have s7 := st9 (v := w) (t := ⟨x.1.hd, false, l⟩) m7 ow (by rw [hu1]) (by rw [hu2, hbf])
      obtain ⟨F, hF⟩ : ∃ F, F = E.set b7 (.cells (trRow (⟨x.1.hd, false, l⟩, w)) true false) := ⟨_, rfl⟩
      have eF : Ext Y F := by rw [hF]; exact ext_setG (eD.trans eE) (by omega)
      have mF : F[b7]? = some (.cells (trRow (⟨x.1.hd, false, l⟩, w)) true false) := by rw [hF]; exact set_eq' m7
      have fF : Fr Y.length F w 1 (l.map fltR) := by rw [hF]; exact (fw.low eD.len).setn (fw.notB (by omega))
      obtain ⟨s6, f6, x6, r6⟩ := tl (u := ⟨x.1.hd, false, l⟩) (w := w) eF mF fF
      have i7 := @ldx _ _ _ mF
      have l10 := @tr_l10 (⟨x.1.hd, false, l⟩, w)
      rw [hF] at i7 s6 f6 x6 r6
      refine Rs (A8 @t0 @t1 @t2 @s7 @i7 @l10 @s6 @f6) ?_
      exact ⟨by first | exact x6 | (rw [hbe]; exact x6), ⟨x.1.hd, false, l⟩, w, rfl, by first | exact r6 | (rw [hbe]; exact r6), ⟨rfl, (by rw [hx0, hy0]; rfl), (fun z => by cases z), fun _ => ⟨gl, nl⟩⟩⟩
end
end Go.Abs
namespace Go.Abs

/-- The traces of a sum. -/
structure SumL (A B U : List (Trc × AV)) : Prop where
  l : U.length = A.length
  t : ∀ (i : Nat) (h1 : i < A.length) (h2 : i < B.length) (h3 : i < U.length), SumT A[i].1 B[i].1 U[i].1
/-- What the stages of the sum know. -/
structure SmS (h Y : AHeap) (b2 b3 b4 : Nat) (na nb : List UInt8) (s t : AV) (A B : List (Trc × AV)) : Prop where
  e : Ext h Y
  m2 : Y[b2]? = some (.cells (shC na s) true false)
  m3 : Y[b3]? = some (.cells (shC nb t) true false)
  m4 : Y[b4]? = some (.cells (shC [] .nilSlice) true false)
  n4 : h.length ≤ b4
  oa : ShOk h A s
  ob : ShOk h B t
  hl : A.length = B.length
  l2 : A.length ≤ 64
  hh : ∀ (i : Nat) (h1 : i < A.length) (h2 : i < B.length), A[i].1.hd = B[i].1.hd
  ad : ∀ (i : Nat) (h1 : i < A.length) (h2 : i < B.length), A[i].1.hole = false → B[i].1.hole = false → AddOk A[i].1.sm B[i].1.sm
theorem SmS.ext {h Y k : AHeap} {b2 b3 b4 : Nat} {na nb : List UInt8} {s t : AV} {A B : List (Trc × AV)} (q : SmS h Y b2 b3 b4 na nb s t A B) (e : Ext Y k) : SmS h k b2 b3 b4 na nb s t A B := ⟨q.e.trans e, e.some q.m2, e.some q.m3, e.some q.m4, q.n4, q.oa, q.ob, q.hl, q.l2, q.hh, q.ad⟩
theorem SumT.len {a b u : Trc} (s : SumT a b u) (hl : a.sm.length ≤ 1024) : u.sm.length ≤ 1024 ∧ ∀ x ∈ u.sm, gridE x = 0 := by
  cases hb : u.hole with
  | true => rw [s.hs hb]; exact ⟨by simp, by simp⟩
  | false =>
    obtain ⟨h1, h2⟩ := s.ok hb
    have := congrArg List.length h2
    rw [List.length_map, addL, genL_len, List.length_map] at this
    exact ⟨by omega, h1⟩
def smB : ICode := match (fn10).body with
  | .seq _ (.seq _ (.seq _ (.seq _ (.seq _ c)))) => c
  | c => c
def smC : ICode := match smB with
  | .seq _ c => c
  | c => c
set_option maxRecDepth 10000
attribute [local irreducible] WP WC WE WB WR WF WL WG WRg WQ
section
variable {P : Program} (T : Tbl P) {h Y : AHeap} {ts : TS} {b2 b3 b4 : Nat} {na nb : List UInt8} {s t : AV} {A B : List (Trc × AV)}
include T
set_option maxHeartbeats 16000000 in
theorem sm_C (q : SmS h Y b2 b3 b4 na nb s t A B) (hlA : ∀ x ∈ A, x.1.sm.length ≤ 1024) (hlen : ts.length = 97) (t2 : slot ts 2 = .ptr b2 0) (t3 : slot ts 3 = .ptr b3 0) (t4 : slot ts 4 = .ptr b4 0) : WC P inFn smC [] ts Y (FQ [(4, some (some 2)), (5, none)] fun v h' => Ext h h' ∧ ∃ (s' : AV) (U : List (Trc × AV)), v = .tup [.agg [.str na, s'], .int .i64 0] ∧ ShOk h' U s' ∧ SumL A B U) := by
  have lna : ldV (shC na s)[0]? = some (.str na, .keep) := rfl
  have lsa : ldV (shC na s)[1]? = some (s, .keep) := rfl
  have lsb : ldV (shC nb t)[1]? = some (t, .keep) := rfl
  have bd : fillA [.str [], .nilSlice] [(0, 1, .str na)] = some [.str na, .nilSlice] := rfl
  have bz : ∀ {N : Nat}, boxF (.agg [.str [], .nilSlice]) N = some (.ptr N 0, .push (.cells (shC [] .nilSlice) true false)) := fun {N} => rfl
  have st3 : ∀ {n : Nat}, stB 2 0 (.agg [.str na, .nilSlice]) n (.cells (shC [] .nilSlice) true false) = some (undefA, .set n (.cells (shC na .nilSlice) true false)) := fun {n} => sh_st rfl
  have i2 := @ldx _ _ _ q.m2
  have hlm := fun G => q.oa.sl.lenm G
  have hlb := fun G => q.ob.sl.lenm G
  have l2 := q.l2
  have hl := q.hl
  unfold smC smB fn10
  dsimp only
  refine Rs (A10 @t2 @t3 @t4 @i2 @lna @bd @bz @st3 @lsa @hlm) ?_
  obtain ⟨Z, hZ⟩ : ∃ Z, Z = Y ++ [ABlk.cells (shC na .nilSlice) true false] := ⟨_, rfl⟩
  have eZ : Ext Y Z := by rw [hZ]; exact Xx
  have m13 : Z[Y.length]? = some (.cells (shC na .nilSlice) true false) := by rw [hZ]; exact at_new
  have hZl : Z.length = Y.length + 1 := by rw [hZ, List.length_append, List.length_singleton]
  obtain ⟨b13, hb13⟩ : ∃ b, b = Y.length := ⟨_, rfl⟩
  rw [← hb13] at m13
  rw [← hZ, ← hb13]
  clear hZ
  have hm := (q.e.trans eZ).len
  have n13 : h.length ≤ b13 := by rw [hb13]; exact q.e.len
  have q2 := (List.getElem?_eq_some_iff.1 q.m2).1
  have q3 := (List.getElem?_eq_some_iff.1 q.m3).1
  have q4 := (List.getElem?_eq_some_iff.1 q.m4).1
  have qZ := q.ext eZ
  obtain ⟨M, hM⟩ : ∃ M, M = Z.length := ⟨_, rfl⟩
  refine WL.inv T.mix (fun n ts K => ∃ (k : Nat) (out : AV) (U : List (Trc × AV)), k ≤ A.length ∧ n = A.length - k ∧ M ≤ K.length ∧ SmS h K b2 b3 b4 na nb s t A B ∧ ShGr h.length M K b13 na U out ∧ U.length = k ∧ (∀ (i : Nat) (h1 : i < A.length) (h2 : i < B.length) (h3 : i < U.length), SumT A[i].1 B[i].1 U[i].1) ∧ ts.length = 97 ∧ slot ts 2 = .ptr b2 0 ∧ slot ts 3 = .ptr b3 0 ∧ slot ts 4 = .ptr b4 0 ∧ slot ts 13 = .ptr b13 0 ∧ slot ts 68 = s ∧ slot ts 69 = .int .i64 A.length ∧ slot ts 70 = .int .i64 k) A.length
    ⟨0, .nilSlice, [], by omega, rfl, by omega, qZ, .nil m13, rfl, (fun i h1 h2 h3 => by simp at h3), Sn, (Sq @t2), (Sq @t3), (Sq @t4), Sw, Sw, Sw, Swr⟩ ?_
  clear hlen t2 t3 t4 i2 m13 qZ
  rintro _ ts K ⟨k, out, U, hk, rfl, hMK, qK, gr, hUl, hU, hlen, t2, t3, t4, t13, t68, t69, t70⟩
  have oa := qK.oa.ext qK.e
  have ob := qK.ob.ext qK.e
  by_cases hlt : k < A.length
  case neg =>
    have e3 := dltF hlt
    have e4 : k = A.length := by omega
    have i13 := @ldx _ _ _ gr.m
    have l13 := @sh_l2 na out
    have s4 : storeF 2 (.ptr b4 0) (.agg [.str na, out]) (fun z => K[z]?) = some (undefA, .set b4 (.cells (shC na out) true false)) := by
      rw [storeF_at qK.m4]; exact sh_st gr.fr.isSl.one
    have k4 : (K.set b4 (.cells (shC na out) true false))[b4]? = some (.cells (shC na out) true false) := set_eq' qK.m4
    have f4 := @loadF_at (some 2) b4 0 _ _ k4
    refine Rs (A12 @t2 @t3 @t4 @t13 @t68 @t69 @t70 @e3 @i13 @l13 @s4 @f4) ?_
    exact ⟨ext_setG qK.e qK.n4, out, U, rfl, ⟨(gr.fr.setn (gr.fr.notB (by omega))).isSl, fun x hx => (gr.all x hx).setb (gr.nx x hx b4 qK.n4 (by omega))⟩, hUl.trans e4, hU⟩
  have e3 := dltT hlt
  have e5 := wrapN (n := k) (by omega)
  have hltB : k < B.length := by omega
  have ix := oa.sl.ixm (kk := .i64) hlt
  have iy := ob.sl.ixm (kk := .i64) hltB
  obtain ⟨x, hx⟩ : ∃ x, x = A[k] := ⟨_, rfl⟩
  obtain ⟨y, hy⟩ : ∃ y, y = B[k] := ⟨_, rfl⟩
  have ld : ∀ {kk : AHeap}, Ext K kk → loadF (some 10) (elp s 10 k) (fun b => kk[b]?) = some (.agg (trRow x), .keep) := fun {kk} e => by rw [hx]; exact oa.sl.ldm hlt e
  have le : ∀ {kk : AHeap}, Ext K kk → loadF (some 10) (elp t 10 k) (fun b => kk[b]?) = some (.agg (trRow y), .keep) := fun {kk} e => by rw [hy]; exact ob.sl.ldm hltB e
  have mx : x ∈ A := by rw [hx]; exact List.getElem_mem _
  have my : y ∈ B := by rw [hy]; exact List.getElem_mem _
  have hsx := oa.all x mx
  have hsy := ob.all y my
  have ad : x.1.hole = false → y.1.hole = false → AddOk x.1.sm y.1.sm := by rw [hx, hy]; exact qK.ad k hlt hltB
  have b10 := @z10_box
  have stx := @st_tr x hsx.one
  have sty := @st_tr y hsy.one
  have i3 := @ldx _ _ _ qK.m3
  refine Rs (A17 @t2 @t3 @t4 @t13 @t68 @t69 @t70 @e3 @ix @ld @b10 @stx @i3 @lsb @iy @le @sty) ?_
  obtain ⟨K2, hK2⟩ : ∃ K2, K2 = K ++ [ABlk.cells (trRow x) true false] ++ [ABlk.cells (trRow y) true false] := ⟨_, rfl⟩
  have e2 : Ext K K2 := by rw [hK2]; exact Xx
  have m15 : K2[K.length]? = some (.cells (trRow x) true false) := by rw [hK2]; exact at_1
  have m16 : K2[(K ++ [ABlk.cells (trRow x) true false]).length]? = some (.cells (trRow y) true false) := by rw [hK2]; exact at_new
  obtain ⟨b15, hb15⟩ : ∃ b, b = K.length := ⟨_, rfl⟩
  obtain ⟨b16, hb16⟩ : ∃ b, b = (K ++ [ABlk.cells (trRow x) true false]).length := ⟨_, rfl⟩
  rw [← hb15] at m15
  rw [← hb16] at m16
  rw [← hK2, ← hb15, ← hb16]
  clear hK2 hb16
  have i15 := @ldx _ _ _ m15
  have i16 := @ldx _ _ _ m16
  have l15 := @tr_l10 x
  have l16 := @tr_l10 y
  refine Rs (A11 @t2 @t3 @t4 @t13 @t68 @t69 @t70 @i15 @i16 @l15 @l16) ?_
  refine WF.res T.c39 (r39 T m15 m16 (hsx.ext e2) (hsy.ext e2) ad) ?_
  rintro _ g1 ⟨u, w, rfl, fw, su⟩
  have ow := fw.isSl.one
  have stu := @st_tr (u, w) ow
  obtain ⟨ul, ug⟩ := su.len (hlA x mx)
  refine Rs (A9 @t2 @t3 @t4 @t13 @t68 @t69 @t70 @b10 @stu) ?_
  obtain ⟨K3, hK3⟩ : ∃ K3, K3 = K2 ++ g1 ++ [ABlk.cells (trRow (u, w)) true false] := ⟨_, rfl⟩
  have e23 : Ext (K2 ++ g1) K3 := by rw [hK3]; exact Xx
  have e3K : Ext K2 K3 := by rw [hK3]; exact Xx
  have m17 : K3[(K2 ++ g1).length]? = some (.cells (trRow (u, w)) true false) := by rw [hK3]; exact at_new
  have fw := fw.ext e23
  obtain ⟨b17, hb17⟩ : ∃ b, b = (K2 ++ g1).length := ⟨_, rfl⟩
  rw [← hb17] at m17
  rw [← hK3, ← hb17]
  clear hK3 hb17 e23
  have i17 := @ldx _ _ _ m17
  have l17 : ldV (trRow (u, w))[9]? = some (w, .keep) := rfl
  have hz : firstS (u.sm.map gridE) = 0 := firstS_nil0 fun z hz => by
    obtain ⟨a, ha, rfl⟩ := List.mem_map.1 hz
    exact ug a ha
  have d1 : decide ((0 : Int) ≠ 0) = false := rfl
  refine Rs (A9 @t2 @t3 @t4 @t13 @t68 @t69 @t70 @i17 @l17) ?_
  refine WF.ce T.c36 (r36 T fw.isSl (by omega)) fun g2 => ?_
  rw [hz]
  obtain ⟨K4, hK4⟩ : ∃ K4, K4 = K3 ++ g2 := ⟨_, rfl⟩
  have e34 : Ext K3 K4 := by rw [hK4]; exact Xx
  rw [← hK4]
  clear hK4
  have e4K : Ext K K4 := e2.trans (e3K.trans e34)
  have gr4 := gr.ext e4K
  have fw := fw.ext e34
  have i13 := @ldx _ _ _ gr4.m
  have l13 : ldV (shC na out)[1]? = some (out, .keep) := rfl
  have i17 := @ldx _ _ _ (e34.some m17)
  have l17' := @tr_l10 (u, w)
  have oo := gr.fr.isSl.one
  have bs := @bsl_tr (u, w) ow
  have hK2l := e2.len
  refine Rs (A14 @t2 @t3 @t4 @t13 @t68 @t69 @t70 @d1 @i13 @l13 @i17 @l17' @oo @bs) ?_
  refine ShGr.grow (x := (u, w)) gr4 (qK.e.trans e4K) (by omega) (by have := e4K.len; omega) n13 (by omega) fw.isSl (gr.fr.apart_fr fw hK2l).symm (fun c h1 h2 => fw.notB (by omega)) (by omega) ?_
  intro W out' eW hMW one' mW grW eS keepM keepc apn
  have s3 := sh_st1 mW one'
  have qS : SmS h (W.set b13 (.cells (shC na out') true false)) b2 b3 b4 na nb s t A B := ⟨eS, keepM b2 _ (by omega) (by omega) (e4K.some qK.m2), keepM b3 _ (by omega) (by omega) (e4K.some qK.m3), keepM b4 _ (by omega) (by omega) (e4K.some qK.m4), qK.n4, qK.oa, qK.ob, qK.hl, qK.l2, qK.hh, qK.ad⟩
  refine Rs (A10 @t2 @t3 @t4 @t13 @t68 @t69 @t70 @one' @s3 @e5) ?_
  refine ⟨A.length - (k + 1), by omega, k + 1, out', U ++ [(u, w)], by omega, rfl, by rw [List.length_set]; exact hMW, qS, grW, by rw [List.length_append, hUl]; rfl, fun i h1 h2 h3 => ?_, rfl⟩
  by_cases hik : i < k
  · have h4 : i < U.length := by omega
    rw [List.getElem_append_left h4]
    exact hU i h1 h2 h4
  · have hik : i = k := by rw [List.length_append, List.length_singleton] at h3; omega
    subst hik
    rw [List.getElem_append_right (by omega)]
    simp only [hUl, Nat.sub_self, List.getElem_singleton]
    rw [← hx, ← hy]
    exact su
set_option maxHeartbeats 16000000 in
theorem sm_B (q : SmS h Y b2 b3 b4 na nb s t A B) (hlA : ∀ x ∈ A, x.1.sm.length ≤ 1024) (hlen : ts.length = 97) (t2 : slot ts 2 = .ptr b2 0) (t3 : slot ts 3 = .ptr b3 0) (t4 : slot ts 4 = .ptr b4 0) : WC P inFn smB [] ts Y (FQ [(4, some (some 2)), (5, none)] fun v h' => Ext h h' ∧ ∃ (s' : AV) (U : List (Trc × AV)), v = .tup [.agg [.str na, s'], .int .i64 0] ∧ ShOk h' U s' ∧ SumL A B U) := by
  have lsa : ldV (shC na s)[1]? = some (s, .keep) := rfl
  have lsb : ldV (shC nb t)[1]? = some (t, .keep) := rfl
  have i2 := @ldx _ _ _ q.m2
  have hlm := fun G => q.oa.sl.lenm G
  have l2 := q.l2
  have hl := q.hl
  show WC P inFn (.seq _ smC) _ _ _ _
  refine Rs (A6 @t2 @t3 @t4 @i2 @lsa @hlm) ?_
  refine WL.inv T.mix (fun n ts K => ∃ k : Nat, k ≤ A.length ∧ n = A.length - k ∧ Ext Y K ∧ ts.length = 97 ∧ slot ts 2 = .ptr b2 0 ∧ slot ts 3 = .ptr b3 0 ∧ slot ts 4 = .ptr b4 0 ∧ slot ts 46 = s ∧ slot ts 47 = .int .i64 A.length ∧ slot ts 48 = .int .i64 k) A.length
    ⟨0, by omega, rfl, .refl _, Sn, (Sq @t2), (Sq @t3), (Sq @t4), Sw, Sw, Swr⟩ ?_
  clear hlen t2 t3 t4 i2
  rintro _ ts K ⟨k, hk, rfl, eK, hlen, t2, t3, t4, t46, t47, t48⟩
  have qK := q.ext eK
  have oa := qK.oa.ext qK.e
  have ob := qK.ob.ext qK.e
  by_cases hlt : k < A.length
  case neg =>
    have e3 := dltF hlt
    refine Rs (A7 @t2 @t3 @t4 @t46 @t47 @t48 @e3) ?_
    exact sm_C T qK hlA Sn (Sq @t2) (Sq @t3) (Sq @t4)
  have e3 := dltT hlt
  have e5 := wrapN (n := k) (by omega)
  have hltB : k < B.length := by omega
  have ix := oa.sl.ixm (kk := .i64) hlt
  have iy := ob.sl.ixm (kk := .i64) hltB
  obtain ⟨x, hx⟩ : ∃ x, x = A[k] := ⟨_, rfl⟩
  have ld : ∀ {kk : AHeap}, Ext K kk → loadF (some 10) (elp s 10 k) (fun b => kk[b]?) = some (.agg (trRow x), .keep) := fun {kk} e => by rw [hx]; exact oa.sl.ldm hlt e
  have mx : x ∈ A := by rw [hx]; exact List.getElem_mem _
  have hsx := oa.all x mx
  have lh : ∀ {kk : AHeap}, Ext K kk → loadF (some 8) (elf t 10 k 0) (fun b => kk[b]?) = some (.agg (hdR x.1.hd), .keep) := fun {kk} e => by
    rw [ob.sl.loadn e hltB (by decide)]
    show some (AV.agg (hdR B[k].1.hd), _) = _
    rw [← qK.hh k hlt hltB, ← hx]
  have b10 := @z10_box
  have stx := @st_tr x hsx.one
  have i3 := @ldx _ _ _ qK.m3
  have l8 := @tr_l8 x
  have q1 := @hd_same x.1.hd
  refine Rs (A19 @t2 @t3 @t4 @t46 @t47 @t48 @e3 @ix @ld @b10 @stx @l8 @i3 @lsb @iy @lh @q1 @Bool.not_true @e5) ?_
  exact ⟨A.length - (k + 1), by omega, k + 1, by omega, rfl, eK.trans Xx, rfl⟩
set_option maxHeartbeats 16000000 in
theorem r10 (rg : Rng h) (oa : ShOk h A s) (ob : ShOk h B t) (za : ShSz A) (zb : ShSz B) (ca : chkSh na (A.map Prod.fst) = 0) (cb : chkSh nb (B.map Prod.fst) = 0) (hl : A.length = B.length) (hw : widN (A.map Prod.fst) = widN (B.map Prod.fst))
    (hh : ∀ (i : Nat) (h1 : i < A.length) (h2 : i < B.length), A[i].1.hd = B[i].1.hd) (ad : ∀ (i : Nat) (h1 : i < A.length) (h2 : i < B.length), A[i].1.hole = false → B[i].1.hole = false → AddOk A[i].1.sm B[i].1.sm) :
    RCall P 10 [.agg [.str na, s], .agg [.str nb, t]] h (fun v h' => ∃ (s' : AV) (U : List (Trc × AV)), v = .tup [.agg [.str na, s'], .int .i64 0] ∧ ShOk h' U s' ∧ SumL A B U) := by
  refine .st2 97 T.mix T.c10 ?_;intro ts hlen t0 t1;unfold fn10
  have bx := @sh_box na s oa.sl.one
  have by' := @sh_box nb t ob.sl.one
  have bz : ∀ {N : Nat}, boxF (.agg [.str [], .nilSlice]) N = some (.ptr N 0, .push (.cells (shC [] .nilSlice) true false)) := fun {N} => rfl
  have l2 := @sh_l2 na s
  have l3 := @sh_l2 nb t
  show WC P inFn (.seq _ (.seq _ (.seq _ (.seq _ (.seq _ smB))))) _ _ _ _
  refine Rs (A5 @t0 @t1 @bx @by' @bz) ?_
  obtain ⟨Y, hY⟩ : ∃ Y, Y = h ++ [ABlk.cells (shC na s) true false] ++ [ABlk.cells (shC nb t) true false] ++ [ABlk.cells (shC [] .nilSlice) true false] := ⟨_, rfl⟩
  obtain ⟨b2, hb2⟩ : ∃ b, b = h.length := ⟨_, rfl⟩
  obtain ⟨b3, hb3⟩ : ∃ b, b = (h ++ [ABlk.cells (shC na s) true false]).length := ⟨_, rfl⟩
  obtain ⟨b4, hb4⟩ : ∃ b, b = (h ++ [ABlk.cells (shC na s) true false] ++ [ABlk.cells (shC nb t) true false]).length := ⟨_, rfl⟩
  obtain ⟨_, _, hl64, hct⟩ := chkSh_z ca
  rw [List.length_map] at hl64
  have eY : Ext h Y := by rw [hY]; exact Xx
  have q : SmS h Y b2 b3 b4 na nb s t A B := ⟨eY, by rw [hY, hb2]; exact at_2, by rw [hY, hb3]; exact at_1, by rw [hY, hb4]; exact at_new, by rw [hb4]; simp only [List.length_append]; omega, oa, ob, hl, hl64, hh, ad⟩
  rw [← hY, ← hb2, ← hb3, ← hb4]
  have hlA : ∀ x ∈ A, x.1.sm.length ≤ 1024 := fun x hx => (chkL_z (chkTr_z (hct x.1 (List.mem_map_of_mem hx))).2.2).1
  clear hY hb2 hb3 hb4
  have i2 := @ldx _ _ _ q.m2
  have i3 := @ldx _ _ _ q.m3
  refine Rs (A6 @t0 @t1 @i2 @i3 @l2 @l3) ?_
  refine WF.ce T.c37 (r37 T (rg.ext eY) (oa.ext eY) (ob.ext eY) za zb ca cb hl) fun g1 => ?_
  have d1 : decide ((0 : Int) ≠ 0) = false := rfl
  have e1 : Ext Y (Y ++ g1) := Xx
  refine Rs (A7 @t0 @t1 @d1 @i2 @i3 @l2 @l3) ?_
  refine WF.res T.c38 (r38 T (oa.ext (eY.trans e1)) za) ?_
  rintro _ g2 ⟨p1, rfl⟩
  have e2 : Ext Y (Y ++ g1 ++ g2) := Xx
  refine Rs (A6 @t0 @t1 @i2 @i3 @l2 @l3) ?_
  refine WF.res T.c38 (r38 T (ob.ext (eY.trans e2)) zb) ?_
  rintro _ g3 ⟨p2, rfl⟩
  have e3 : Ext Y (Y ++ g1 ++ g2 ++ g3) := Xx
  have d2 : decide ((widN (A.map Prod.fst) : Int) ≠ (widN (B.map Prod.fst) : Int)) = false := decide_eq_false fun z => z (by rw [hw])
  cases p1 with
  | false =>
    refine Rs (A2 @t0 @t1) ?_
    exact sm_B T (q.ext e3) hlA Sn Sw Sw Sw
  | true =>
    cases p2 with
    | false =>
      refine Rs (A2 @t0 @t1) ?_
      exact sm_B T (q.ext e3) hlA Sn Sw Sw Sw
    | true =>
      refine Rs (A3 @t0 @t1 @d2) ?_
      exact sm_B T (q.ext e3) hlA Sn Sw Sw Sw
end
end Go.Abs
namespace Go.Abs

theorem st_R {z : Int × Int} {b : Nat} {a0 a1 : AV} : stB 2 0 (.agg (ratR z)) b (.cells [a0, a1] true false) = some (undefA, .set b (.cells (ratR z) true false)) := rat_st
/-- What each stage knows. -/
structure KgS (h Y : AHeap) (b2 : Nat) (nm : List UInt8) (s : AV) (L : List (Trc × AV)) : Prop where
  e : Ext h Y
  m2 : Y[b2]? = some (.cells (shC nm s) true false)
  o : ShOk Y L s
  rg : Rng Y
  c : Calm nm (L.map Prod.fst) 4000
theorem KgS.ext {h Y k : AHeap} {b2 : Nat} {nm : List UInt8} {s : AV} {L : List (Trc × AV)} (q : KgS h Y b2 nm s L) (e : Ext Y k) : KgS h k b2 nm s L := ⟨q.e.trans e, e.some q.m2, q.o.ext e, q.rg.ext e, q.c⟩
theorem KgS.l {h Y : AHeap} {b2 : Nat} {nm : List UInt8} {s : AV} {L : List (Trc × AV)} (q : KgS h Y b2 nm s L) : L.length ≤ 6 := by have := q.c.l; rwa [List.length_map] at this
theorem KgS.sz {h Y : AHeap} {b2 : Nat} {nm : List UInt8} {s : AV} {L : List (Trc × AV)} (q : KgS h Y b2 nm s L) : ShSz L := ⟨by have := q.l; omega, fun x hx => by have := q.c.s x.1 (List.mem_map_of_mem hx); omega⟩
theorem Calm.sz {nm : List UInt8} {L : List (Trc × AV)} {lim : Int} (q : Calm nm (L.map Prod.fst) lim) : ShSz L := ⟨by have := q.l; rw [List.length_map] at this; omega, fun x hx => by have := q.s x.1 (List.mem_map_of_mem hx); omega⟩
theorem Calm.z {nm : List UInt8} {L : List (Trc × AV)} {lim : Int} (q : Calm nm (L.map Prod.fst) lim) : L.length ≤ 6 := by have := q.l; rwa [List.length_map] at this
def kgB : ICode := match (fn3).body with
  | .seq _ (.seq _ (.seq _ c)) => c
  | c => c
def kgC : ICode := match kgB with
  | .seq _ (.seq _ c) => c
  | c => c
def kgD : ICode := match kgC with
  | .seq _ (.seq _ c) => c
  | c => c
def kgE : ICode := match kgD with
  | .seq _ (.seq _ c) => c
  | c => c
def kgF : ICode := match kgE with
  | .seq _ c => c
  | c => c
end Go.Abs
namespace Go.Abs

theorem fst_get {L : List (Trc × AV)} {M : List Trc} (h : L.map Prod.fst = M) {i : Nat} (h1 : i < L.length) (h2 : i < M.length) : L[i].1 = M[i] := by
  subst h
  rw [List.getElem_map]
theorem trEq_len {a b : Trc} (e : TrEq a b) : a.sm.length = b.sm.length := by
  have := congrArg List.length e.nn
  rwa [List.length_map, List.length_map] at this
set_option maxRecDepth 10000
attribute [local irreducible] WP WC WE WB WR WF WL WG WRg WQ
section
variable {P : Program} (T : Tbl P) {h Y : AHeap} {ts : TS} {b2 b10 d : Nat} {nm : List UInt8} {s s10 : AV} {L U : List (Trc × AV)}
include T
set_option maxHeartbeats 16000000 in
theorem kg_F (q : KgS h Y b2 nm s L) (m10 : Y[b10]? = some (.cells (shC nm s10) true false)) (oU : ShOk Y U s10) (gh : GhL (d : Int) (L.map Prod.fst) (U.map Prod.fst)) (hd : 1 ≤ d ∧ d ≤ 24) (hlen : ts.length = 304) (t2 : slot ts 2 = .ptr b2 0) (t5 : slot ts 5 = .int .i64 (d : Int)) (t10 : slot ts 10 = .ptr b10 0) :
    WC P inFn kgF [] ts Y (FQ [(4, none)] fun v k => Ext h k ∧ v = .bool true) := by
  have l2 := @sh_l2 nm s
  have l10 := @sh_l2 nm s10
  have hL6 := q.l
  have hUl : L.length = U.length := by have := gh.l; rwa [List.length_map, List.length_map] at this
  unfold kgF kgE kgD kgC kgB fn3
  dsimp only
  by_cases h8 : d ≤ 7
  case neg =>
    have d1 : decide ((8 : Int) ≤ (d : Int)) = true := decide_eq_true (by omega)
    refine Rs (A2 @t5 @d1) ?_
    exact ⟨q.e, trivial⟩
  have d1 : decide ((8 : Int) ≤ (d : Int)) = false := decide_eq_false (by omega)
  have w1 : IntKind.i64.wrap ((d : Int) + 1) = ((d + 1 : Nat) : Int) := wrapN (by omega)
  repeat (first | simp (config := { maxSteps := 1000000 }) only [wset, hset, dset, bset, Nat.reduceAdd, Nat.reduceMul, Nat.reduceLeDiff, Nat.reduceEqDiff, pset, hlen, if_false, if_true, t2, t5, t10, d1, w1, mksl_ok (es := 1) (w := 8) (N0 := Y.length) (n := d + 1) (z := [AV.int .i64 0]) (k := .i64) (k' := .i64) (by omega) (by omega)] | simp (config := { maxSteps := 1000000 }) (disch := first | (simp only [List.length_append, List.length_cons, List.length_nil] <;> omega) | rfl | omega | fail) only [kset, wset, hset, dset, bset, Nat.reduceAdd, Nat.reduceMul, Nat.reduceLeDiff, Nat.reduceEqDiff, pset, hlen, if_false, if_true, t2, t5, t10, d1, w1, mksl_ok (es := 1) (w := 8) (N0 := Y.length) (n := d + 1) (z := [AV.int .i64 0]) (k := .i64) (k' := .i64) (by omega) (by omega)])
  have hF := Fr.zeros (N := Y.length) (n := d + 1) (h := Y) (z := [AV.int .i64 0]) (es := 1) (Nat.le_refl _) rfl
  obtain ⟨sv, hsv⟩ : ∃ sv, sv = AV.slice Y.length 0 (d + 1) 1 := ⟨_, rfl⟩
  rw [← hsv] at hF ⊢
  have er : List.replicate (d + 1) [AV.int .i64 0] = (List.replicate (d + 1) (0 : Int)).map intRow := by simp [intRow]
  rw [er] at hF
  have i0 := hF.isSl.ix0 (kk := .i64) (by simp)
  refine Rs (A4 @t2 @t5 @t10 @i0) ?_
  refine WR.put1 (h0 := Y) (off := 0) (row := intRow) (x' := 1) hF (show 0 < (List.replicate (d + 1) (0 : Int)).length by simp) (by decide) rfl rfl ?_
  intro g1 hl1 hF1 _
  have id' := hF1.isSl.ixm (kk := .i64) (show d < ((List.replicate (d + 1) (0 : Int)).set 0 1).length by simp)
  refine Rs (A4 @t2 @t5 @t10 @id') ?_
  refine WR.put1 (h0 := Y) (off := 0) (row := intRow) (x' := -1) hF1 (show d < ((List.replicate (d + 1) (0 : Int)).set 0 1).length by simp) (by decide) rfl rfl ?_
  intro g2 hl2 hF2 _
  have is2 : IsSl (Y ++ g2) sv 1 ((twoL d).map intRow) := hF2.isSl
  have eY : Ext Y (Y ++ g2) := ⟨_, rfl⟩
  obtain ⟨Z, hZ⟩ : ∃ Z, Z = Y ++ g2 := ⟨_, rfl⟩
  rw [← hZ] at is2 eY ⊢
  clear hF hF1 hF2 hZ
  have osv := is2.one
  have tl : (twoL d).length < 2 ^ 40 := by rw [twoL_len]; omega
  have tz := twoL_ok hd.1 h8
  have qZ := q.ext eY
  have i2 := @ldx _ _ _ qZ.m2
  refine Rs (A6 @t2 @t5 @t10 @osv @i2 @l2) ?_
  refine WF.res T.c7 (r7 T qZ.o qZ.sz (by omega)) ?_
  rintro _ g3 ⟨s3, L3, rfl, o3, f3⟩
  have os3 := o3.sl.one
  obtain ⟨Z1, hZ1⟩ : ∃ Z1, Z1 = Z ++ g3 := ⟨_, rfl⟩
  have e1 : Ext Z Z1 := by rw [hZ1]; exact Xx
  rw [← hZ1] at o3 ⊢
  clear hZ1
  have hL3 : L3.length = L.length := by have := congrArg List.length f3; simpa using this
  have c3 : Calm nm (L3.map Prod.fst) 4000 := by rw [f3]; exact q.c
  have hb3 : ∀ x ∈ L3, ∀ b ∈ x.1.sm, -4000 ≤ gridN b ∧ gridN b ≤ 4000 := fun x hx => c3.bd x.1 (List.mem_map_of_mem hx)
  have ez : errL (eachE (twoL d)) L3 = 0 := each_ok hd.1 hb3
  refine Rs (A5 @t2 @t5 @t10 @osv @os3) ?_
  refine WF.res T.c16 (r16 T ((qZ.rg).ext e1) o3 c3.sz (by omega) (is2.ext e1) tl) ?_
  rintro _ g4 ⟨r, e, rfl, hr⟩
  unfold ChgR at hr
  rw [c3.ck, tz, ez] at hr
  obtain ⟨he, hr⟩ := hr
  have he : e = 0 := he
  subst he
  rw [if_pos rfl] at hr
  obtain ⟨s4, L4, rfl, o4, f4⟩ := hr
  have os4 := o4.sl.one
  have bz : ∀ {N : Nat}, boxF (.agg [.str [], .nilSlice]) N = some (.ptr N 0, .push (.cells (shC [] .nilSlice) true false)) := fun {N} => rfl
  have st4 : ∀ {n : Nat}, stB 2 0 (.agg [.str nm, s4]) n (.cells (shC [] .nilSlice) true false) = some (undefA, .set n (.cells (shC nm s4) true false)) := fun {n} => sh_st os4
  have d0 : decide ((0 : Int) = 0) = true := rfl
  refine Rs (A7 @t2 @t5 @t10 @bz @st4 @d0 @decide_true) ?_
  obtain ⟨Z2, hZ2⟩ : ∃ Z2, Z2 = Z1 ++ g4 ++ [ABlk.cells (shC nm s4) true false] := ⟨_, rfl⟩
  have e2 : Ext (Z1 ++ g4) Z2 := by rw [hZ2]; exact Xx
  have e12 : Ext Z1 Z2 := by rw [hZ2]; exact Xx
  have m25 : Z2[(Z1 ++ g4).length]? = some (.cells (shC nm s4) true false) := by rw [hZ2]; exact at_new
  obtain ⟨b25, hb25⟩ : ∃ b, b = (Z1 ++ g4).length := ⟨_, rfl⟩
  have o4 := o4.ext e2
  rw [← hb25] at m25
  rw [← hZ2, ← hb25]
  clear hZ2 hb25 e2
  have hL4 : L4.length = L3.length := by have := congrArg List.length f4; simpa using this
  have i25 := @ldx _ _ _ m25
  have l25 := @sh_l2 nm s4
  have g3m : ∀ x ∈ L3, chkTr x.1 = 0 := fun x hx => c3.tr x.1 (List.mem_map_of_mem hx)
  have teq : ∀ (i : Nat) (h1 : i < L4.length) (h2 : i < U.length), TrEq L4[i].1 U[i].1 := fun i h1 h2 => by
    have h3 : i < L3.length := by omega
    have h5 : i < L.length := by omega
    have a1 : L4[i].1 = chgT (eachG (twoL d)) L3[i] := by
      rw [fst_get f4 h1 (by rw [List.length_map]; exact h3), List.getElem_map]
    rw [a1]
    have a2 : L3[i].1 = L[i].1 := by rw [fst_get f3 h3 (by rw [List.length_map]; exact h5), List.getElem_map]
    have a3 := gh.t i (by rw [List.length_map]; exact h5) (by rw [List.length_map]; exact h2)
    rw [List.getElem_map, List.getElem_map, ← a2] at a3
    exact each_eq hd.1 (g3m _ (List.getElem_mem h3)) (hb3 _ (List.getElem_mem h3)) a3
  have z4 : ShSz L4 := ⟨by omega, fun x hx => by
    obtain ⟨i, hi, rfl⟩ := List.mem_iff_getElem.1 hx
    have h2 : i < U.length := by omega
    have h5 : i < L.length := by omega
    have e1 := trEq_len (teq i hi h2)
    have a3 := gh.t i (by rw [List.length_map]; exact h5) (by rw [List.length_map]; exact h2)
    rw [List.getElem_map, List.getElem_map] at a3
    have e2 := a3.lik.len
    have e3 := q.c.s L[i].1 (List.mem_map_of_mem (List.getElem_mem h5))
    omega⟩
  have zU : ShSz U := ⟨by omega, fun x hx => by
    obtain ⟨i, hi, rfl⟩ := List.mem_iff_getElem.1 hx
    have h5 : i < L.length := by omega
    have a3 := gh.t i (by rw [List.length_map]; exact h5) (by rw [List.length_map]; exact hi)
    rw [List.getElem_map, List.getElem_map] at a3
    have e2 := a3.lik.len
    have e3 := q.c.s L[i].1 (List.mem_map_of_mem (List.getElem_mem h5))
    omega⟩
  have eU : Ext Y Z2 := eY.trans (e1.trans e12)
  have oU2 := oU.ext eU
  have i10 := @ldx _ _ _ (eU.some m10)
  refine Rs (A6 @t2 @t5 @t10 @i25 @l25 @decide_true) ?_
  refine WF.res T.c8 (r8 T o4 z4 (by omega)) ?_
  rintro _ g5 ⟨s5, L5, rfl, o5, f5⟩
  have os5 := o5.sl.one
  refine Rs (A7 @t2 @t5 @t10 @i10 @l10 @os5 @decide_true) ?_
  refine WF.res T.c8 (r8 T (oU2.ext Xx) zU (by omega)) ?_
  rintro _ g6 ⟨s6, U6, rfl, o6, f6⟩
  have os6 := o6.sl.one
  have hL5 : L5.length = L4.length := by have := congrArg List.length f5; simpa using this
  have hU6 : U6.length = U.length := by have := congrArg List.length f6; simpa using this
  have seq : ShEq L5 U6 := ⟨by omega, fun i h1 h2 => by
    have h3 : i < L4.length := by omega
    have h4 : i < U.length := by omega
    have a1 : L5[i].1 = L4[i].1 := by rw [fst_get f5 h1 (by rw [List.length_map]; exact h3), List.getElem_map]
    have a2 : U6[i].1 = U[i].1 := by rw [fst_get f6 h2 (by rw [List.length_map]; exact h4), List.getElem_map]
    rw [a1, a2]
    exact teq i h3 h4⟩
  have z5 : ShSz L5 := ⟨by omega, fun x hx => by
    obtain ⟨i, hi, rfl⟩ := List.mem_iff_getElem.1 hx
    have h3 : i < L4.length := by omega
    have a1 : L5[i].1 = L4[i].1 := by rw [fst_get f5 hi (by rw [List.length_map]; exact h3), List.getElem_map]
    rw [a1]
    exact z4.s _ (List.getElem_mem h3)⟩
  refine Rs (A6 @t2 @t5 @t10 @os5 @os6 @decide_true) ?_
  refine WF.ce T.c17 (r17 T (o5.ext Xx) o6 z5 seq) fun g7 => ?_
  refine Rs (A3 @t2 @t5 @t10) ?_
  exact ⟨q.e.trans (eU.trans Xx), trivial⟩
end
end Go.Abs
namespace Go.Abs

/-- What is true of one trace, of the late one and of the sum's one. -/
structure GhX (d : Nat) (x dl u : Trc) : Prop where
  tr : chkTr x = 0
  l : x.sm.length ≤ 32
  b : ∀ b ∈ x.sm, -4000 ≤ gridN b ∧ gridN b ≤ 4000
  dn : dl.sm.map gridN = shfL (x.sm.map gridN) (-(d : Int))
  dg : chkL dl.sm = 0
  g : GhT (d : Int) x u
theorem GhX.xg {d : Nat} {x dl u : Trc} (q : GhX d x dl u) : chkL x.sm = 0 := (chkTr_z q.tr).2.2
theorem GhX.ug {d : Nat} {x dl u : Trc} (q : GhX d x dl u) : chkL u.sm = 0 := (chkTr_z (chkTr_lik q.g.lik q.tr)).2.2
theorem GhX.ul {d : Nat} {x dl u : Trc} (q : GhX d x dl u) : u.sm.length = x.sm.length := q.g.lik.len
theorem chkP_ok {l m : List Nat} (h1 : chkL l = 0) (h2 : chkL m = 0) (h3 : l.length = m.length) : chkP l m = 0 := first3z h1 h2 (by rw [decide_eq_false fun z => z (by rw [h3])]; rfl)
theorem ghx_of {L D U : List (Trc × AV)} {nm : List UInt8} {d : Nat} (c : Calm nm (L.map Prod.fst) 4000) (hD : D.map Prod.fst = (L.map Prod.fst).map (delT (d : Int))) (gh : GhL (d : Int) (L.map Prod.fst) (U.map Prod.fst)) {k : Nat} (h1 : k < L.length) (h2 : k < D.length) (h3 : k < U.length) : GhX d L[k].1 D[k].1 U[k].1 := by
  have hm : L[k].1 ∈ L.map Prod.fst := List.mem_map_of_mem (List.getElem_mem h1)
  have ht := c.tr _ hm
  have hd : D[k].1 = delT (d : Int) L[k].1 := by
    have e : (D.map Prod.fst)[k]'(by simpa using h2) = ((L.map Prod.fst).map (delT (d : Int)))[k]'(by simpa using h1) := by simp only [hD]
    rwa [List.getElem_map, List.getElem_map, List.getElem_map] at e
  have a3 := gh.t k (by rw [List.length_map]; exact h1) (by rw [List.length_map]; exact h3)
  rw [List.getElem_map, List.getElem_map] at a3
  exact ⟨ht, c.s _ hm, c.bd _ hm, by rw [hd]; exact del_grid _ ht, by rw [hd]; exact (chkTr_z (chkTr_lik (lik_del _ ht) ht)).2.2, a3⟩
set_option maxRecDepth 10000
attribute [local irreducible] WP WC WE WB WR WF WL WG WRg WQ
section
variable {P : Program} (T : Tbl P) {h Y : AHeap} {ts : TS} {b2 b6 b10 d : Nat} {nm : List UInt8} {s s6 s10 : AV} {L D U : List (Trc × AV)} {Q : Ex → TS → AHeap → Prop}
include T
set_option maxHeartbeats 32000000 in
theorem kg_E (q : KgS h Y b2 nm s L) (m6 : Y[b6]? = some (.cells (shC nm s6) true false)) (oD : ShOk Y D s6) (hD : D.map Prod.fst = (L.map Prod.fst).map (delT (d : Int))) (m10 : Y[b10]? = some (.cells (shC nm s10) true false)) (oU : ShOk Y U s10) (gh : GhL (d : Int) (L.map Prod.fst) (U.map Prod.fst)) (hd : 1 ≤ d ∧ d ≤ 24) (hlen : ts.length = 304) (t2 : slot ts 2 = .ptr b2 0) (t5 : slot ts 5 = .int .i64 (d : Int)) (t6 : slot ts 6 = .ptr b6 0) (t10 : slot ts 10 = .ptr b10 0)
    (C : ∀ {ts' : TS} {Y' : AHeap}, ts'.length = 304 → slot ts' 2 = .ptr b2 0 → slot ts' 5 = .int .i64 (d : Int) → slot ts' 10 = .ptr b10 0 → Ext Y Y' → WC P inFn kgF [] ts' Y' Q) :
    WC P inFn kgE [] ts Y Q := by
  show WC P inFn (.seq _ kgF) _ _ _ _
  have i2 := @ldx _ _ _ q.m2
  have lss : ldV (shC nm s)[1]? = some (s, .keep) := rfl
  have ls6 : ldV (shC nm s6)[1]? = some (s6, .keep) := rfl
  have ls10 : ldV (shC nm s10)[1]? = some (s10, .keep) := rfl
  have hlm := fun G => q.o.sl.lenm G
  have hl6 := q.l
  have hUl : L.length = U.length := by have := gh.l; rwa [List.length_map, List.length_map] at this
  have hDl : D.length = L.length := by have := congrArg List.length hD; simpa using this
  refine Rs (A7 @t2 @t5 @t6 @t10 @i2 @lss @hlm) ?_
  refine WL.inv T.mix (fun n ts K => ∃ k : Nat, k ≤ L.length ∧ n = L.length - k ∧ Ext Y K ∧ ts.length = 304 ∧ slot ts 2 = .ptr b2 0 ∧ slot ts 5 = .int .i64 (d : Int) ∧ slot ts 6 = .ptr b6 0 ∧ slot ts 10 = .ptr b10 0 ∧ slot ts 112 = s ∧ slot ts 113 = .int .i64 L.length ∧ slot ts 114 = .int .i64 k) L.length
    ⟨0, by omega, rfl, .refl _, Sn, (Sq @t2), (Sq @t5), (Sq @t6), (Sq @t10), Sw, Sw, Swr⟩ ?_
  clear hlen t2 t5 t6 t10 i2
  rintro _ ts K ⟨k, hk, rfl, eK, hlen, t2, t5, t6, t10, t112, t113, t114⟩
  by_cases hlt : k < L.length
  case neg =>
    have e3 := dltF hlt
    refine Rs (A8 @t2 @t5 @t6 @t10 @t112 @t113 @t114 @e3) ?_
    exact C Sn (Sq @t2) (Sq @t5) (Sq @t10) eK
  have e3 := dltT hlt
  have e5 := wrapN (n := k) (by omega)
  have hltU : k < U.length := by omega
  have hltD : k < D.length := by omega
  have X := ghx_of q.c hD gh hlt hltD hltU
  have oL := q.o.ext eK
  have oDK := oD.ext eK
  have oUK := oU.ext eK
  have ix := oL.sl.ixm (kk := .i64) hlt
  have iu := oUK.sl.ixm (kk := .i64) hltU
  have id' := oDK.sl.ixm (kk := .i64) hltD
  obtain ⟨x, hx⟩ : ∃ x, x = L[k] := ⟨_, rfl⟩
  obtain ⟨u, hu⟩ : ∃ u, u = U[k] := ⟨_, rfl⟩
  obtain ⟨dl, hdl⟩ : ∃ dl, dl = D[k] := ⟨_, rfl⟩
  rw [← hx, ← hu, ← hdl] at X
  have ld : ∀ {kk : AHeap}, Ext K kk → loadF (some 10) (elp s 10 k) (fun b => kk[b]?) = some (.agg (trRow x), .keep) := fun {kk} e => by rw [hx]; exact oL.sl.ldm hlt e
  have hsx := oL.all x (by rw [hx]; exact List.getElem_mem _)
  have hsu := oUK.all u (by rw [hu]; exact List.getElem_mem _)
  have hsd := oDK.all dl (by rw [hdl]; exact List.getElem_mem _)
  have h8 : ∀ {kk : AHeap}, Ext K kk → loadF none (elf s10 10 k 8) (fun b => kk[b]?) = some (.bool x.1.hole, .keep) := fun {kk} e => oUK.sl.lfm hltU (by rw [← hu]; show some (AV.bool u.1.hole) = _; rw [X.g.hole]) e
  have h9 : ∀ {kk : AHeap}, Ext K kk → loadF none (elf s10 10 k 9) (fun b => kk[b]?) = some (u.2, .keep) := fun {kk} e => oUK.sl.lfm hltU (by rw [← hu]; rfl) e
  have h0 : ∀ {kk : AHeap}, Ext K kk → loadF (some 8) (elf s10 10 k 0) (fun b => kk[b]?) = some (.agg (hdR x.1.hd), .keep) := fun {kk} e => by
    rw [oUK.sl.loadn e hltU (by decide), ← hu]
    show some (AV.agg (hdR u.1.hd), _) = _
    rw [X.g.hd]
  have k9 : ∀ {kk : AHeap}, Ext K kk → loadF none (elf s6 10 k 9) (fun b => kk[b]?) = some (dl.2, .keep) := fun {kk} e => oDK.sl.lfm hltD (by rw [← hdl]; rfl) e
  have q2 := @hd_same x.1.hd
  have q3 : eqvK (.one .b) (.bool x.1.hole) (.bool x.1.hole) = some true := by rw [eq_1b]; simp
  have l8x := @tr_l8 x
  have l8 : ldV (trRow x)[8]? = some (.bool x.1.hole, .keep) := rfl
  have l9 : ldV (trRow x)[9]? = some (x.2, .keep) := rfl
  have ox := hsx.one
  have ou := hsu.one
  have od := hsd.one
  have bz := @z10_box
  have st := @st_tr x ox
  have i10 := @ldx _ _ _ (eK.some m10)
  have i6 := @ldx _ _ _ (eK.some m6)
  obtain ⟨A, hA⟩ : ∃ A, A = x.1.sm.map gridN := ⟨_, rfl⟩
  have hAb : ∀ y ∈ A, -4000 ≤ y ∧ y ≤ 4000 := by rw [hA]; exact map_bd X.b
  have hAl : A.length = x.1.sm.length := by rw [hA, List.length_map]
  have hxl := X.l
  have hul := X.ul
  have fg : fitsB (ghostL A (d : Int)) = true := fits_ghost hAb
  have hun : u.1.sm.map gridN = ghostL A (d : Int) := by rw [hA]; exact X.g.nn
  have hdg : degP (u.1.sm.map gridN) (d : Int) u.1.sm.length = A := by rw [hun, hul, ← hAl]; exact deg_ghost (by omega)
  have fA : fitsB A = true := fits_of fun y hy => by have := hAb y hy; omega
  have hd64 : 1 ≤ (d : Int) ∧ (d : Int) ≤ 64 := by omega
  obtain ⟨sg, ng⟩ := smpl_all fg
  obtain ⟨sA, nA⟩ := smpl_all fA
  have hgl : ((ghostL A (d : Int)).map smpl).length = x.1.sm.length := by rw [List.length_map, ghostL_len, hAl]
  have cg : chkL ((ghostL A (d : Int)).map smpl) = 0 := chkL_ok (by omega) sg
  have d0 : decide ((0 : Int) ≠ 0) = false := rfl
  refine Rs (A12 @t2 @t5 @t6 @t10 @t112 @t113 @t114 @e3 @ix @ld @bz @st) ?_
  obtain ⟨K1, hK1⟩ : ∃ K1, K1 = K ++ [ABlk.cells (trRow x) true false] := ⟨_, rfl⟩
  have eK1 : Ext K K1 := by rw [hK1]; exact Xx
  have m13 : K1[K.length]? = some (.cells (trRow x) true false) := by rw [hK1]; exact at_new
  obtain ⟨b13, hb13⟩ : ∃ b, b = K.length := ⟨_, rfl⟩
  rw [← hb13] at m13
  rw [← hK1, ← hb13]
  clear hK1 hb13
  have i13 := @ldx _ _ _ m13
  have i10 := @ldx _ _ _ ((eK.trans eK1).some m10)
  have h8 : ∀ {kk : AHeap}, Ext K1 kk → loadF none (elf s10 10 k 8) (fun b => kk[b]?) = some (.bool x.1.hole, .keep) := fun {kk} e => h8 (eK1.trans e)
  have h0 : ∀ {kk : AHeap}, Ext K1 kk → loadF (some 8) (elf s10 10 k 0) (fun b => kk[b]?) = some (.agg (hdR x.1.hd), .keep) := fun {kk} e => h0 (eK1.trans e)
  refine Rs (A19 @t2 @t5 @t6 @t10 @t112 @t113 @t114 @i10 @ls10 @iu @h8 @i13 @l8 @q3 @Bool.not_true @h0 @l8x @q2 @l9) ?_
  refine WR.appz (N := K1.length) (w := 4) at_new (Nat.le_refl _) (hsx.ext (eK1.trans Xx)) (by rw [List.length_map]; omega) fun v1 y1 f1 => ?_
  obtain ⟨K2, hK2⟩ : ∃ K2, K2 = K1 ++ [ABlk.cells [] true false] ++ y1 := ⟨_, rfl⟩
  have e12 : Ext K1 K2 := by rw [hK2]; exact Xx
  rw [← hK2] at f1 ⊢
  clear hK2
  have p1 := f1.isSl.one
  refine Rs (A8 @t2 @t5 @t6 @t10 @t112 @t113 @t114 @p1) ?_
  refine WF.res T.c11 (r11 T f1.isSl (by omega) _) ?_
  rintro _ g1 ⟨gv, eg, rfl, hh1⟩
  rw [← hA] at hh1
  obtain ⟨isg, rfl⟩ := heard_ok hh1 (chkD_ok X.xg hd64) fg
  have og := isg.one
  obtain ⟨K3, hK3⟩ : ∃ K3, K3 = K2 ++ g1 := ⟨_, rfl⟩
  have e23 : Ext K2 K3 := by rw [hK3]; exact Xx
  rw [← hK3] at isg ⊢
  clear hK3 hh1
  have E3 := e12.trans e23
  have i10 := @ldx _ _ _ ((eK.trans (eK1.trans E3)).some m10)
  have h9' : ∀ {kk : AHeap}, Ext K3 kk → loadF none (elf s10 10 k 9) (fun b => kk[b]?) = some (u.2, .keep) := fun {kk} e => h9 (eK1.trans (E3.trans e))
  refine Rs (A12 @t2 @t5 @t6 @t10 @t112 @t113 @t114 @og @i10 @ls10 @iu @h9') ?_
  refine WR.appz (N := K3.length) (w := 4) at_new (Nat.le_refl _) (hsu.ext (eK1.trans (E3.trans Xx))) (by rw [List.length_map]; omega) fun v2 y2 f2 => ?_
  obtain ⟨K4, hK4⟩ : ∃ K4, K4 = K3 ++ [ABlk.cells [] true false] ++ y2 := ⟨_, rfl⟩
  have e34 : Ext K3 K4 := by rw [hK4]; exact Xx
  rw [← hK4] at f2 ⊢
  clear hK4
  have p2 := f2.isSl.one
  refine Rs (A8 @t2 @t5 @t6 @t10 @t112 @t113 @t114 @p2) ?_
  refine WF.res T.c12 (r12 T f2.isSl (by omega) _) ?_
  rintro _ g2 ⟨bv, eb, rfl, hh2⟩
  rw [hdg] at hh2
  obtain ⟨isb, rfl⟩ := heard_ok hh2 (chkD_ok X.ug hd64) fA
  have ob := isb.one
  obtain ⟨K5, hK5⟩ : ∃ K5, K5 = K4 ++ g2 := ⟨_, rfl⟩
  have e45 : Ext K4 K5 := by rw [hK5]; exact Xx
  rw [← hK5] at isb ⊢
  clear hK5 hh2
  have E5 := E3.trans (e34.trans e45)
  have isg := isg.ext (e34.trans e45)
  have i10 := @ldx _ _ _ ((eK.trans (eK1.trans E5)).some m10)
  have i13 := @ldx _ _ _ (E5.some m13)
  have h9' : ∀ {kk : AHeap}, Ext K5 kk → loadF none (elf s10 10 k 9) (fun b => kk[b]?) = some (u.2, .keep) := fun {kk} e => h9 (eK1.trans (E5.trans e))
  refine Rs (A14 @t2 @t5 @t6 @t10 @t112 @t113 @t114 @og @ob @d0 @i10 @ls10 @iu @h9') ?_
  refine WF.ce T.c13 (r13 T (hsu.ext (eK1.trans E5)) isg (by omega) (chkL_z X.ug).2 sg) fun g3 => ?_
  have ds1 : decide (u.1.sm.map gridN = ((ghostL A (d : Int)).map smpl).map gridN) = true := decide_eq_true (by rw [hun, ng])
  rw [ds1]
  refine Rs (A12 @t2 @t5 @t6 @t10 @t112 @t113 @t114 @Bool.not_true @og @ob @i13 @l9) ?_
  refine WF.ce T.c13 (r13 T (isb.ext Xx) (hsx.ext (eK1.trans (E5.trans Xx))) (by rw [List.length_map]; omega) sA (chkL_z X.xg).2) fun g4 => ?_
  have ds2 : decide ((A.map smpl).map gridN = x.1.sm.map gridN) = true := decide_eq_true (by rw [nA, hA])
  rw [ds2]
  obtain ⟨K6, hK6⟩ : ∃ K6, K6 = K5 ++ g3 ++ g4 := ⟨_, rfl⟩
  have e56 : Ext K5 K6 := by rw [hK6]; exact Xx
  rw [← hK6]
  clear hK6
  have E6 := E5.trans e56
  have isg := isg.ext e56
  have i13 := @ldx _ _ _ (E6.some m13)
  refine Rs (A12 @t2 @t5 @t6 @t10 @t112 @t113 @t114 @Bool.not_true @og @ob @i13 @l9) ?_
  refine WR.appz (N := K6.length) (w := 4) at_new (Nat.le_refl _) (hsx.ext (eK1.trans (E6.trans Xx))) (by rw [List.length_map]; omega) fun v3 y3 f3 => ?_
  obtain ⟨K7, hK7⟩ : ∃ K7, K7 = K6 ++ [ABlk.cells [] true false] ++ y3 := ⟨_, rfl⟩
  have e67 : Ext K6 K7 := by rw [hK7]; exact Xx
  rw [← hK7] at f3 ⊢
  clear hK7
  have p3 := f3.isSl.one
  refine Rs (A9 @t2 @t5 @t6 @t10 @t112 @t113 @t114 @og @p3) ?_
  refine WR.appz (N := K7.length) (w := 4) at_new (Nat.le_refl _) (isg.ext (e67.trans Xx)) (by simp only [List.length_map, ghostL_len]; omega) fun v4 y4 f4 => ?_
  obtain ⟨K8, hK8⟩ : ∃ K8, K8 = K7 ++ [ABlk.cells [] true false] ++ y4 := ⟨_, rfl⟩
  have e78 : Ext K7 K8 := by rw [hK8]; exact Xx
  rw [← hK8] at f4 ⊢
  clear hK8
  have p4 := f4.isSl.one
  refine Rs (A10 @t2 @t5 @t6 @t10 @t112 @t113 @t114 @og @p3 @p4) ?_
  refine WF.ce T.c14 (r14 T (f3.isSl.ext e78) f4.isSl (by omega) (by omega)) fun g5 => ?_
  rw [if_pos (chkP_ok X.xg cg hgl.symm), if_pos (chkP_ok X.xg cg hgl.symm), ← hA, ng, rem_ghost]
  obtain ⟨B, hB⟩ : ∃ B, B = shfL A (-(d : Int)) := ⟨_, rfl⟩
  obtain ⟨en, hen⟩ : ∃ en, en = dotI A A := ⟨_, rfl⟩
  obtain ⟨lo, hlo⟩ : ∃ lo, lo = dotI B B := ⟨_, rfl⟩
  obtain ⟨n1, n2, n3, n4⟩ := dots_ok (A := A) (d := d) (by omega) hAb
  rw [← hB, ← hlo, ← hen] at n4
  rw [← hB, ← hlo] at n3
  rw [← hen] at n1 n2
  rw [← hB, ← hlo, ← hen]
  obtain ⟨rr, hrr⟩ : ∃ rr : (Int × Int) × Int, rr = if en = 0 then ((0, 0), 6) else (ratI lo en, 0) := ⟨_, rfl⟩
  rw [← hrr]
  have bR : ∀ {N : Nat}, boxF (.agg [.int .i64 0, .int .i64 0]) N = some (.ptr N 0, .push (.cells [.int .i64 0, .int .i64 0] true false)) := fun {N} => rfl
  have sR : ∀ {n : Nat}, stB 2 0 (.agg (ratR rr.1)) n (.cells [.int .i64 0, .int .i64 0] true false) = some (undefA, .set n (.cells (ratR rr.1) true false)) := fun {n} => st_R
  refine Rs (A9 @t2 @t5 @t6 @t10 @t112 @t113 @t114 @bR @sR) ?_
  obtain ⟨K9, hK9⟩ : ∃ K9, K9 = K8 ++ g5 ++ [ABlk.cells (ratR rr.1) true false] := ⟨_, rfl⟩
  have e89 : Ext K8 K9 := by rw [hK9]; exact Xx
  have m18 : K9[(K8 ++ g5).length]? = some (.cells (ratR rr.1) true false) := by rw [hK9]; exact at_new
  obtain ⟨b18, hb18⟩ : ∃ b, b = (K8 ++ g5).length := ⟨_, rfl⟩
  rw [← hb18] at m18
  rw [← hK9, ← hb18]
  clear hK9 hb18
  have E9 := E6.trans (e67.trans (e78.trans e89))
  have i13 := @ldx _ _ _ (E9.some m13)
  refine Rs (A9 @t2 @t5 @t6 @t10 @t112 @t113 @t114 @i13 @l9) ?_
  refine WR.appz (N := K9.length) (w := 4) at_new (Nat.le_refl _) (hsx.ext (eK1.trans (E9.trans Xx))) (by rw [List.length_map]; omega) fun v5 y5 f5 => ?_
  obtain ⟨K10, hK10⟩ : ∃ K10, K10 = K9 ++ [ABlk.cells [] true false] ++ y5 := ⟨_, rfl⟩
  have e910 : Ext K9 K10 := by rw [hK10]; exact Xx
  rw [← hK10] at f5 ⊢
  clear hK10
  have p5 := f5.isSl.one
  refine Rs (A8 @t2 @t5 @t6 @t10 @t112 @t113 @t114 @p5) ?_
  refine WF.ce T.c15 (r15 T f5.isSl X.xg) fun g6 => ?_
  rw [← hA, ← hen]
  obtain ⟨K11, hK11⟩ : ∃ K11, K11 = K10 ++ g6 := ⟨_, rfl⟩
  have e1011 : Ext K10 K11 := by rw [hK11]; exact Xx
  rw [← hK11]
  clear hK11
  have E11 := E9.trans (e910.trans e1011)
  have i6 := @ldx _ _ _ ((eK.trans (eK1.trans E11)).some m6)
  have k9' : ∀ {kk : AHeap}, Ext K11 kk → loadF none (elf s6 10 k 9) (fun b => kk[b]?) = some (dl.2, .keep) := fun {kk} e => k9 (eK1.trans (E11.trans e))
  refine Rs (A11 @t2 @t5 @t6 @t10 @t112 @t113 @t114 @i6 @ls6 @id' @k9') ?_
  have hdll : dl.1.sm.length ≤ 1024 := (chkL_z X.dg).1
  refine WR.appz (N := K11.length) (w := 4) at_new (Nat.le_refl _) (hsd.ext (eK1.trans (E11.trans Xx))) (by rw [List.length_map]; omega) fun v6 y6 f6 => ?_
  obtain ⟨K12, hK12⟩ : ∃ K12, K12 = K11 ++ [ABlk.cells [] true false] ++ y6 := ⟨_, rfl⟩
  have e1112 : Ext K11 K12 := by rw [hK12]; exact Xx
  rw [← hK12] at f6 ⊢
  clear hK12
  have p6 := f6.isSl.one
  refine Rs (A8 @t2 @t5 @t6 @t10 @t112 @t113 @t114 @p6) ?_
  refine WF.ce T.c15 (r15 T f6.isSl X.dg) fun g7 => ?_
  rw [X.dn, ← hA, ← hB, ← hlo]
  obtain ⟨K13, hK13⟩ : ∃ K13, K13 = K12 ++ g7 := ⟨_, rfl⟩
  have e1213 : Ext K12 K13 := by rw [hK13]; exact Xx
  rw [← hK13]
  clear hK13
  have E13 := E11.trans (e1112.trans e1213)
  have i18 := @ldx _ _ _ ((e910.trans (e1011.trans (e1112.trans e1213))).some m18)
  have z1 : decide (en < 0) = false := decide_eq_false (by omega)
  have z2 : decide (lo < 0) = false := decide_eq_false (by omega)
  have z3 : decide (1073741824 < en) = false := decide_eq_false (by omega)
  have z4 : decide (1073741824 < lo) = false := decide_eq_false (by omega)
  have EY := eK.trans (eK1.trans E13)
  by_cases he0 : en = 0
  · have z5 : decide (en = 0) = true := decide_eq_true he0
    have r2 : rr.2 = 6 := by rw [hrr, if_pos he0]
    have z6 : decide (rr.2 ≠ 6) = false := decide_eq_false fun z => z r2
    repeat (first | simp (config := { maxSteps := 1000000 }) only [wset, hset, dset, bset, Nat.reduceAdd, Nat.reduceMul, Nat.reduceLeDiff, Nat.reduceEqDiff, pset, hlen, if_false, if_true, t2, t5, t6, t10, t112, t113, t114, d0, z1, z2, z3, z4, z5, z6, e5] | simp (config := { maxSteps := 1000000 }) (disch := first | (simp only [List.length_append, List.length_cons, List.length_nil] <;> omega) | rfl | omega | fail) only [kset, wset, hset, dset, bset, Nat.reduceAdd, Nat.reduceMul, Nat.reduceLeDiff, Nat.reduceEqDiff, pset, hlen, if_false, if_true, t2, t5, t6, t10, t112, t113, t114, d0, z1, z2, z3, z4, z5, z6, e5])
    exact ⟨L.length - (k + 1), by omega, k + 1, by omega, rfl, EY, rfl⟩
  have z5 : decide (en = 0) = false := decide_eq_false he0
  have r1 : rr = (ratI lo en, 0) := by rw [hrr, if_neg he0]
  obtain ⟨c1, c2, c3, c4, c5⟩ := rat_share n3 n4 (show 0 < en by omega)
  obtain ⟨y, hy⟩ : ∃ y, y = ratI lo en := ⟨_, rfl⟩
  rw [← hy] at c1 c2 c3 c4 c5 r1
  have l180 : ldV (ratR rr.1)[0]? = some (.int .i64 y.1, .keep) := by rw [r1]; rfl
  have l181 : ldV (ratR rr.1)[1]? = some (.int .i64 y.2, .keep) := by rw [r1]; rfl
  have z6 : decide (rr.2 ≠ 0) = false := decide_eq_false fun z => z (by rw [r1])
  have z7 : decide (y.2 < 1) = false := decide_eq_false (by omega)
  have z8 : decide (en < y.2) = false := decide_eq_false (by omega)
  have z9 : decide (y.1 < 0) = false := decide_eq_false (by omega)
  have z10' : decide (en < y.1) = false := decide_eq_false (by omega)
  have pb : -(1073741824 * 1073741824) ≤ y.1 * en ∧ y.1 * en ≤ 1073741824 * 1073741824 := mul_bd' (by omega) (by omega)
  have w1 : IntKind.i64.wrap (y.1 * en) = y.1 * en := wrap_in (by omega) (by omega)
  have w2 : IntKind.i64.wrap (lo * y.2) = y.1 * en := by rw [← c5]; exact w1
  have z11 : decide (y.1 * en ≠ y.1 * en) = false := decide_eq_false fun z => z rfl
  repeat (first | simp (config := { maxSteps := 1000000 }) only [wset, hset, dset, bset, Nat.reduceAdd, Nat.reduceMul, Nat.reduceLeDiff, Nat.reduceEqDiff, pset, hlen, if_false, if_true, t2, t5, t6, t10, t112, t113, t114, d0, z1, z2, z3, z4, z5, z6, i18, l180, l181, z7, z8, z9, z10', w1, w2, z11, e5] | simp (config := { maxSteps := 1000000 }) (disch := first | (simp only [List.length_append, List.length_cons, List.length_nil] <;> omega) | rfl | omega | fail) only [kset, wset, hset, dset, bset, Nat.reduceAdd, Nat.reduceMul, Nat.reduceLeDiff, Nat.reduceEqDiff, pset, hlen, if_false, if_true, t2, t5, t6, t10, t112, t113, t114, d0, z1, z2, z3, z4, z5, z6, i18, l180, l181, z7, z8, z9, z10', w1, w2, z11, e5])
  exact ⟨L.length - (k + 1), by omega, k + 1, by omega, rfl, EY, rfl⟩
end
end Go.Abs
