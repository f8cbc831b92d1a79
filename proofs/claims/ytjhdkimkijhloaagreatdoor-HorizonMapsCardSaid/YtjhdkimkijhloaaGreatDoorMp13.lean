/- The type of a map among the arguments, and what the maps' rows need besides. No condition. · Contracts, part AK: the reference's maps: border, depths, checks. No condition. · Contracts, part AL: the checks of a map, of a cell and of a contact. No condition. · Contracts, part O: a fault. No condition. · Contracts, part AH: stores of whole elements. No condition. · Contracts, part AM: the reference's area. No condition. · Contracts, part P: the reference's fault; steps. No condition. · Contracts, part Q: the reference's steps; rounding. No condition. · Contracts, part R: the common places of two horizons; a filled horizon. No condition. · Contracts, part AN: sorted values. No condition. · The spill of a cell, in plain Lean. No condition. · What the closures promise, in plain Lean. No condition. · Contracts, part AO: the program's spill, region and volume. No condition. · Contracts, part AP: the reference's spill and volume. No condition. · The law HorizonMaps, by the contracts; 'awake' stands as a hypothesis. No condition. -/
import Derived.Test.YtjhdkimkijhloaaGreatDoorMp8
import Derived.Test.YtjhdkimkijhloaaGreatDoorMp11
import Derived.Test.YtjhdkimkijhloaaGreatDoorMp12
import Derived.Test.YtjhdkimkijhloaaGreatDoorMp5
set_option linter.all false
namespace Go.Abs
def ctMap : List CT := [.int .i64, .int .i64, .sl ctPk]
theorem tya_map {h : AHeap} {a : AV} (x : TYa h (.agg ctMap) a) : ∃ (m : Mp) (s : AV), a = mapA m s ∧ IsSl h s 2 (m.deps.map ratRow) := by
  obtain ⟨l, rfl, x⟩ := x
  obtain ⟨_, _, rfl, h1, x⟩ := tys_cons x
  obtain ⟨_, _, rfl, h2, x⟩ := tys_cons x
  obtain ⟨_, _, rfl, h3, x⟩ := tys_cons x
  obtain rfl := tys_nil x
  obtain ⟨a, rfl, _⟩ := ty_int h1
  obtain ⟨b, rfl, _⟩ := ty_int h2
  obtain ⟨L, hL, _⟩ := ty_ivs h3
  exact ⟨⟨a, b, L⟩, _, rfl, hL⟩
theorem srt : SrtOk Go.Proofs.Tryz.prog := ⟨sort_ok, sort_nil⟩
theorem gl0 {k : AHeap} (e : Ext glob0 k) : Glb k := e.some rfl
end Go.Abs
namespace Go.Abs
attribute [local irreducible] WP WC WE WB WR WF WL WG WRg
def brdS (m : Mp) (x : Int) : Bool := decide (x % m.cols = 0) || (decide (x % m.cols = m.cols - 1) || (decide (x / m.cols = 0) || decide (x / m.cols = m.rows - 1)))
theorem brd_nb {m : Mp} (v : MpV m) {x : Int} (hx : InM m x) : decide ((nbS m x).length < 4) = brdS m x := by
  obtain ⟨b1, b2, b3, b4, b5⟩ := cell_bd v hx
  have key : ∀ s : Int × Int, nbOk m x s = true ↔ (0 ≤ x % m.cols + s.1 ∧ x % m.cols + s.1 < m.cols) ∧ (0 ≤ x / m.cols + s.2 ∧ x / m.cols + s.2 < m.rows) := by
    intro s
    unfold nbOk nbC
    simp only [Bool.and_eq_true, decide_eq_true_eq, and_assoc]
  have h1 : (nbS m x).length < 4 ↔ ∃ s ∈ stepsL, ¬ nbOk m x s = true := by
    rw [nbS, List.length_map]
    exact List.length_filter_lt_length_iff_exists (l := stepsL)
  rw [Bool.eq_iff_iff, decide_eq_true_eq, h1]
  unfold brdS
  simp only [stepsL, List.mem_cons, List.not_mem_nil, or_false, exists_eq_or_imp, exists_eq_left, key, Bool.or_eq_true, decide_eq_true_eq]
  omega
section
variable {P : Program} (T : Tbl P) {h : AHeap}
include T
theorem r71 {m : Mp} {s : AV} (hs : s.one = true) (v : MpV m) {cell : Int} (hc : InM m cell) : RCall P 71 [mapA m s, .int .i64 cell] h (fun w _ => w = .bool (brdS m cell)) := by
  refine .of T.mix T.c71 ?_
  unfold fn71
  obtain ⟨b1, b2, b3, b4, b5⟩ := cell_bd v hc
  have vc := v.c
  have vr := v.r
  have hc0 : m.cols ≠ 0 := by omega
  have er : cell.tmod m.cols = cell % m.cols := Int.tmod_eq_emod_of_nonneg hc.1
  have eq : cell.tdiv m.cols = cell / m.cols := Int.tdiv_eq_ediv_of_nonneg hc.1
  have w0 : IntKind.i64.wrap (cell / m.cols) = cell / m.cols := wrap_in (by omega) (by omega)
  have w1 : IntKind.i64.wrap (m.cols - 1) = m.cols - 1 := wrap_in (by omega) (by omega)
  have w2 : IntKind.i64.wrap (m.rows - 1) = m.rows - 1 := wrap_in (by omega) (by omega)
  unfold brdS
  by_cases h1 : cell % m.cols = 0
  · simp only [wset, hset, dset, bset, Nat.reduceAdd, Nat.reduceMul, Nat.reduceLeDiff, Nat.reduceEqDiff, hs, er, eq, w0, w1, w2, bin_rem hc0, bin_quo hc0, decide_eq_true h1, Bool.true_or, Bool.false_or]
  by_cases h2 : cell % m.cols = m.cols - 1
  · simp only [wset, hset, dset, bset, Nat.reduceAdd, Nat.reduceMul, Nat.reduceLeDiff, Nat.reduceEqDiff, hs, er, eq, w0, w1, w2, bin_rem hc0, bin_quo hc0, decide_eq_false h1, decide_eq_true h2, Bool.true_or, Bool.false_or]
  by_cases h3 : cell / m.cols = 0
  · simp only [wset, hset, dset, bset, Nat.reduceAdd, Nat.reduceMul, Nat.reduceLeDiff, Nat.reduceEqDiff, hs, er, eq, w0, w1, w2, bin_rem hc0, bin_quo hc0, decide_eq_false h1, decide_eq_false h2, decide_eq_true h3, Bool.true_or, Bool.false_or]
  · simp only [wset, hset, dset, bset, Nat.reduceAdd, Nat.reduceMul, Nat.reduceLeDiff, Nat.reduceEqDiff, hs, er, eq, w0, w1, w2, bin_rem hc0, bin_quo hc0, decide_eq_false h1, decide_eq_false h2, decide_eq_false h3, Bool.true_or, Bool.false_or]

theorem r63 {m : Mp} {s : AV} (hs : IsSl h s 2 (m.deps.map ratRow)) (hl : m.deps.length ≤ 2 ^ 40) : RCall P 63 [mapA m s] h (fun v h' => Fr h.length h' v 1 ((m.deps.map (·.1)).map intRow)) := by
  refine .of T.mix T.c63 ?_
  unfold fn63
  simp only [wset, hset, dset, bset, Nat.reduceAdd, Nat.reduceMul, Nat.reduceLeDiff, Nat.reduceEqDiff, hs.one]
  obtain ⟨B, hB⟩ : ∃ B, B = h ++ [ABlk.cells [AV.int IntKind.i64 m.cols, AV.int IntKind.i64 m.rows, s] true false] := ⟨_, rfl⟩
  have eB : Ext h B := by rw [hB]; exact (by repeat first | with_reducible exact Ext.refl _ | refine Ext.app _ ?_)
  have m1 : B[h.length]? = some (.cells [AV.int IntKind.i64 m.cols, AV.int IntKind.i64 m.rows, s] true false) := by rw [hB, List.getElem?_append_right (Nat.le_refl _), Nat.sub_self]; rfl
  have lB : ∀ {n : Option Nat} {o : Nat} {kk : AHeap}, Ext B kk → loadF n (.ptr h.length o) (fun b => kk[b]?) = ldB n o (.cells [AV.int IntKind.i64 m.cols, AV.int IntKind.i64 m.rows, s] true false) := fun e => loadF_at (e.some m1)
  rw [← hB]
  refine WL.inv T.mix (fun n ts h' => ∃ (k : Nat) (out : AV) (g : AHeap), k ≤ m.deps.length ∧ n = m.deps.length - k ∧ h' = B ++ g ∧ Fr B.length (B ++ g) out 1 (((m.deps.take k).map (·.1)).map intRow) ∧ ts.length = 22 ∧ slot ts 1 = .ptr h.length 0 ∧ slot ts 3 = out ∧ slot ts 4 = .int .i64 k) m.deps.length
    ⟨0, .nilSlice, [], by omega, rfl, by rw [List.append_nil], .nil, rfl, rfl, rfl, rfl⟩ ?_
  rintro _ ts _ ⟨k, out, g, hk, rfl, rfl, hfr, hlen, t1, t3, t4⟩
  by_cases hlt : k < m.deps.length
  · have e3 : (k : Int) < m.deps.length := by omega
    have l2 := fun {kk : AHeap} (e : Ext B kk) => (hs.ext eB).lfm (off := 0) hlt rfl e
    have hix := hs.ixm (kk := .i64) hlt
    have hlen2 := fun G => hs.lenm G
    have hwk := wrapN (show k + 1 < 2 ^ 63 by omega)
    repeat (first | simp (config := { maxSteps := 1000000 }) only [wset, hset, dset, bset, Nat.reduceAdd, Nat.reduceMul, Nat.reduceLeDiff, Nat.reduceEqDiff, pset, hlen, if_false, if_true, t1, t3, t4, lB, hlen2, e3, decide_true, hix, l2] | simp (config := { maxSteps := 1000000 }) (disch := first | (simp only [List.length_append, List.length_cons, List.length_nil] <;> omega) | rfl | omega | fail) only [kset, wset, hset, dset, bset, Nat.reduceAdd, Nat.reduceMul, Nat.reduceLeDiff, Nat.reduceEqDiff, pset, hlen, if_false, if_true, t1, t3, t4, lB, hlen2, e3, decide_true, hix, l2])
    refine WR.app1 (h0 := B) (cs := ((m.deps.take k).map (·.1)).map intRow) (ys := [intRow m.deps[k].1]) ?f1 (Fr.push (N := 0) (Nat.zero_le _) [intRow m.deps[k].1] (by simp)).isSl (by decide) (by simp) (by simp; omega) (by repeat first | with_reducible exact Ext.refl _ | refine Ext.app _ ?_) ?_
    case f1 => exact hfr.app _
    intro g' hl' hff hkp
    have hrow : ((m.deps.take k).map (·.1)).map intRow ++ [intRow m.deps[k].1] = ((m.deps.take (k + 1)).map (·.1)).map intRow := by rw [List.take_add_one, List.getElem?_eq_getElem hlt, List.map_append, List.map_append]; rfl
    rw [hrow] at hff ⊢
    repeat (first | simp (config := { maxSteps := 1000000 }) only [wset, hset, dset, bset, Nat.reduceAdd, Nat.reduceMul, Nat.reduceLeDiff, Nat.reduceEqDiff, pset, hlen, if_false, if_true, t1, t3, t4, hwk] | simp (config := { maxSteps := 1000000 }) (disch := first | (simp only [List.length_append, List.length_cons, List.length_nil] <;> omega) | rfl | omega | fail) only [kset, wset, hset, dset, bset, Nat.reduceAdd, Nat.reduceMul, Nat.reduceLeDiff, Nat.reduceEqDiff, pset, hlen, if_false, if_true, t1, t3, t4, hwk])
    exact ⟨_, by omega, k + 1, _, g', by omega, rfl, rfl, hff, rfl, rfl⟩
  · have e3 : ¬ (k : Int) < m.deps.length := by omega
    have e4 : k = m.deps.length := by omega
    have hlen2 := fun G => hs.lenm G
    repeat (first | simp (config := { maxSteps := 1000000 }) only [wset, hset, dset, bset, Nat.reduceAdd, Nat.reduceMul, Nat.reduceLeDiff, Nat.reduceEqDiff, pset, hlen, if_false, if_true, t1, t3, t4, lB, hlen2, e3, decide_false] | simp (config := { maxSteps := 1000000 }) (disch := first | (simp only [List.length_append, List.length_cons, List.length_nil] <;> omega) | rfl | omega | fail) only [kset, wset, hset, dset, bset, Nat.reduceAdd, Nat.reduceMul, Nat.reduceLeDiff, Nat.reduceEqDiff, pset, hlen, if_false, if_true, t1, t3, t4, lB, hlen2, e3, decide_false])
    exact ⟨eB.trans (by repeat first | with_reducible exact Ext.refl _ | refine Ext.app _ ?_), by rw [e4, List.take_length] at hfr; exact hfr.low eB.len⟩
theorem r62 {m : Mp} {s : AV} (hs : IsSl h s 2 (m.deps.map ratRow)) (hl : m.deps.length ≤ 2 ^ 40) : RCall P 62 [mapA m s] h (fun v h' => Fr h.length h' v 1 ((m.deps.map (·.2)).map intRow)) := by
  refine .of T.mix T.c62 ?_
  unfold fn62
  simp only [wset, hset, dset, bset, Nat.reduceAdd, Nat.reduceMul, Nat.reduceLeDiff, Nat.reduceEqDiff, hs.one]
  obtain ⟨B, hB⟩ : ∃ B, B = h ++ [ABlk.cells [AV.int IntKind.i64 m.cols, AV.int IntKind.i64 m.rows, s] true false] := ⟨_, rfl⟩
  have eB : Ext h B := by rw [hB]; exact (by repeat first | with_reducible exact Ext.refl _ | refine Ext.app _ ?_)
  have m1 : B[h.length]? = some (.cells [AV.int IntKind.i64 m.cols, AV.int IntKind.i64 m.rows, s] true false) := by rw [hB, List.getElem?_append_right (Nat.le_refl _), Nat.sub_self]; rfl
  have lB : ∀ {n : Option Nat} {o : Nat} {kk : AHeap}, Ext B kk → loadF n (.ptr h.length o) (fun b => kk[b]?) = ldB n o (.cells [AV.int IntKind.i64 m.cols, AV.int IntKind.i64 m.rows, s] true false) := fun e => loadF_at (e.some m1)
  rw [← hB]
  refine WL.inv T.mix (fun n ts h' => ∃ (k : Nat) (out : AV) (g : AHeap), k ≤ m.deps.length ∧ n = m.deps.length - k ∧ h' = B ++ g ∧ Fr B.length (B ++ g) out 1 (((m.deps.take k).map (·.2)).map intRow) ∧ ts.length = 22 ∧ slot ts 1 = .ptr h.length 0 ∧ slot ts 3 = out ∧ slot ts 4 = .int .i64 k) m.deps.length
    ⟨0, .nilSlice, [], by omega, rfl, by rw [List.append_nil], .nil, rfl, rfl, rfl, rfl⟩ ?_
  rintro _ ts _ ⟨k, out, g, hk, rfl, rfl, hfr, hlen, t1, t3, t4⟩
  by_cases hlt : k < m.deps.length
  · have e3 : (k : Int) < m.deps.length := by omega
    have l2 := fun {kk : AHeap} (e : Ext B kk) => (hs.ext eB).lfm (off := 1) hlt rfl e
    have hix := hs.ixm (kk := .i64) hlt
    have hlen2 := fun G => hs.lenm G
    have hwk := wrapN (show k + 1 < 2 ^ 63 by omega)
    repeat (first | simp (config := { maxSteps := 1000000 }) only [wset, hset, dset, bset, Nat.reduceAdd, Nat.reduceMul, Nat.reduceLeDiff, Nat.reduceEqDiff, pset, hlen, if_false, if_true, t1, t3, t4, lB, hlen2, e3, decide_true, hix, l2] | simp (config := { maxSteps := 1000000 }) (disch := first | (simp only [List.length_append, List.length_cons, List.length_nil] <;> omega) | rfl | omega | fail) only [kset, wset, hset, dset, bset, Nat.reduceAdd, Nat.reduceMul, Nat.reduceLeDiff, Nat.reduceEqDiff, pset, hlen, if_false, if_true, t1, t3, t4, lB, hlen2, e3, decide_true, hix, l2])
    refine WR.app1 (h0 := B) (cs := ((m.deps.take k).map (·.2)).map intRow) (ys := [intRow m.deps[k].2]) ?f1 (Fr.push (N := 0) (Nat.zero_le _) [intRow m.deps[k].2] (by simp)).isSl (by decide) (by simp) (by simp; omega) (by repeat first | with_reducible exact Ext.refl _ | refine Ext.app _ ?_) ?_
    case f1 => exact hfr.app _
    intro g' hl' hff hkp
    have hrow : ((m.deps.take k).map (·.2)).map intRow ++ [intRow m.deps[k].2] = ((m.deps.take (k + 1)).map (·.2)).map intRow := by rw [List.take_add_one, List.getElem?_eq_getElem hlt, List.map_append, List.map_append]; rfl
    rw [hrow] at hff ⊢
    repeat (first | simp (config := { maxSteps := 1000000 }) only [wset, hset, dset, bset, Nat.reduceAdd, Nat.reduceMul, Nat.reduceLeDiff, Nat.reduceEqDiff, pset, hlen, if_false, if_true, t1, t3, t4, hwk] | simp (config := { maxSteps := 1000000 }) (disch := first | (simp only [List.length_append, List.length_cons, List.length_nil] <;> omega) | rfl | omega | fail) only [kset, wset, hset, dset, bset, Nat.reduceAdd, Nat.reduceMul, Nat.reduceLeDiff, Nat.reduceEqDiff, pset, hlen, if_false, if_true, t1, t3, t4, hwk])
    exact ⟨_, by omega, k + 1, _, g', by omega, rfl, rfl, hff, rfl, rfl⟩
  · have e3 : ¬ (k : Int) < m.deps.length := by omega
    have e4 : k = m.deps.length := by omega
    have hlen2 := fun G => hs.lenm G
    repeat (first | simp (config := { maxSteps := 1000000 }) only [wset, hset, dset, bset, Nat.reduceAdd, Nat.reduceMul, Nat.reduceLeDiff, Nat.reduceEqDiff, pset, hlen, if_false, if_true, t1, t3, t4, lB, hlen2, e3, decide_false] | simp (config := { maxSteps := 1000000 }) (disch := first | (simp only [List.length_append, List.length_cons, List.length_nil] <;> omega) | rfl | omega | fail) only [kset, wset, hset, dset, bset, Nat.reduceAdd, Nat.reduceMul, Nat.reduceLeDiff, Nat.reduceEqDiff, pset, hlen, if_false, if_true, t1, t3, t4, lB, hlen2, e3, decide_false])
    exact ⟨eB.trans (by repeat first | with_reducible exact Ext.refl _ | refine Ext.app _ ?_), by rw [e4, List.take_length] at hfr; exact hfr.low eB.len⟩
end
end Go.Abs
namespace Go.Abs
def cellS (m : Mp) (cell : Int) : Int := whenS (decide (cell < 0) || decide ((m.deps.length : Int) ≤ cell)) 10
def chkCellS (m : Mp) (cell : Int) : Int := if chkMapS m = 0 then cellS m cell else chkMapS m
def chkContS (m : Mp) (cell c : Int) : Int := firstS [chkCellS m cell, rangeS c 0 100000000]
theorem cell_zero {m : Mp} {cell : Int} : cellS m cell = 0 ↔ 0 ≤ cell ∧ cell < m.deps.length := by
  unfold cellS
  rw [whenS_zero (by decide), Bool.or_eq_false_iff, decide_eq_false_iff_not, decide_eq_false_iff_not]
  omega
theorem chkCell_zero {m : Mp} {cell : Int} : chkCellS m cell = 0 ↔ MpV m ∧ InM m cell := by
  unfold chkCellS
  by_cases h : chkMapS m = 0
  · rw [if_pos h, cell_zero]
    have v := map_zero.1 h
    have := v.l
    unfold InM
    exact ⟨fun x => ⟨v, x.1, by omega⟩, fun x => ⟨x.2.1, by have := x.2.2; omega⟩⟩
  · rw [if_neg h]
    exact ⟨fun x => absurd x h, fun x => absurd (map_zero.2 x.1) h⟩
theorem chkCont_zero {m : Mp} {cell c : Int} : chkContS m cell c = 0 ↔ (MpV m ∧ InM m cell) ∧ 0 ≤ c ∧ c ≤ 100000000 := by
  unfold chkContS
  rw [firstS_zero]
  simp only [List.mem_cons, List.not_mem_nil, or_false, forall_eq_or_imp, forall_eq, chkCell_zero, rangeS_zero]

attribute [local irreducible] WP WC WE WB WR WF WL WG WRg
section
variable {P : Program} (T : Tbl P) {h : AHeap}
include T
theorem r58 {m : Mp} {s : AV} (hs : IsSl h s 2 (m.deps.map ratRow)) (hl : m.deps.length ≤ 2 ^ 40) : RCall P 58 [mapA m s] h (fun v _ => v = .int .i64 (chkMapS m)) := by
  refine .of T.mix T.c58 ?_
  unfold fn58
  simp only [wset, hset, dset, bset, Nat.reduceAdd, Nat.reduceMul, Nat.reduceLeDiff, Nat.reduceEqDiff, hs.one]
  refine WF.res T.c35 (r35 T _ _ _) ?_
  rintro _ g1 rfl
  simp only [wset, hset, dset, bset, Nat.reduceAdd, Nat.reduceMul, Nat.reduceLeDiff, Nat.reduceEqDiff]
  refine WF.res T.c35 (r35 T _ _ _) ?_
  rintro _ g2 rfl
  simp only [wset, hset, dset, bset, Nat.reduceAdd, Nat.reduceMul, Nat.reduceLeDiff, Nat.reduceEqDiff, hs.lenm]
  refine WF.res T.c22 (r22 T _ _) ?_
  rintro _ g3 rfl
  simp only [wset, hset, dset, bset, Nat.reduceAdd, Nat.reduceMul, Nat.reduceLeDiff, Nat.reduceEqDiff]
  refine WF.res T.c98 (r98 T (isSl_ints [_, _, _]) (by simp)) ?_
  rintro _ g4 rfl
  rw [head_wrap]
  by_cases h0 : mapHeadS m = 0
  case neg =>
    simp only [wset, hset, dset, bset, Nat.reduceAdd, Nat.reduceMul, Nat.reduceLeDiff, Nat.reduceEqDiff, show decide (mapHeadS m ≠ 0) = true from decide_eq_true h0]
    rw [chkMapS, if_neg h0]
  simp only [wset, hset, dset, bset, Nat.reduceAdd, Nat.reduceMul, Nat.reduceLeDiff, Nat.reduceEqDiff, show decide (mapHeadS m ≠ 0) = false from decide_eq_false (fun hne => hne h0)]
  rw [chkMapS, if_pos h0]
  obtain ⟨B, hB⟩ : ∃ B, B = h ++ [ABlk.cells [AV.int IntKind.i64 m.cols, AV.int IntKind.i64 m.rows, s] true false] := ⟨_, rfl⟩
  have eB : Ext h B := by rw [hB]; exact (by repeat first | with_reducible exact Ext.refl _ | refine Ext.app _ ?_)
  have m1 : B[h.length]? = some (.cells [AV.int IntKind.i64 m.cols, AV.int IntKind.i64 m.rows, s] true false) := by rw [hB, List.getElem?_append_right (Nat.le_refl _), Nat.sub_self]; rfl
  have lB : ∀ {n : Option Nat} {o : Nat} {kk : AHeap}, Ext B kk → loadF n (.ptr h.length o) (fun b => kk[b]?) = ldB n o (.cells [AV.int IntKind.i64 m.cols, AV.int IntKind.i64 m.rows, s] true false) := fun e => loadF_at (e.some m1)
  rw [← hB]
  have hsB := hs.ext eB
  clear hB
  refine WL.inv T.mix (fun n ts h' => ∃ k : Nat, k ≤ m.deps.length ∧ n = m.deps.length - k ∧ Ext B h' ∧ firstS (m.deps.map fun x => chkIvS x 0 100000000) = firstS ((m.deps.drop k).map fun x => chkIvS x 0 100000000) ∧ ts.length = 57 ∧ slot ts 1 = .ptr h.length 0 ∧ slot ts 4 = .int .i64 k) m.deps.length
    ⟨0, by omega, rfl, by first | exact (by repeat first | with_reducible exact Ext.refl _ | refine Ext.app _ ?_) | simp, rfl, rfl, rfl, rfl⟩ ?_
  rintro _ ts _ ⟨k, hk, rfl, ⟨g, rfl⟩, hi, hlen, t1, t4⟩
  by_cases hlt : k < m.deps.length
  · have e3 : (k : Int) < m.deps.length := by omega
    rw [List.drop_eq_getElem_cons hlt, List.map_cons, firstS] at hi
    have hlm := fun G => hsB.lenm G
    have hix := hsB.ixm (kk := .i64) hlt
    have l2 := fun {kk : AHeap} (e : Ext B kk) => hsB.ldm hlt e
    have hwk := wrapN (show k + 1 < 2 ^ 63 by omega)
    repeat (first | simp (config := { maxSteps := 1000000 }) only [wset, hset, dset, bset, Nat.reduceAdd, Nat.reduceMul, Nat.reduceLeDiff, Nat.reduceEqDiff, pset, hlen, if_false, if_true, t1, t4, lB, hlm, e3, decide_true, hix, l2] | simp (config := { maxSteps := 1000000 }) (disch := first | (simp only [List.length_append, List.length_cons, List.length_nil] <;> omega) | rfl | omega | fail) only [kset, wset, hset, dset, bset, Nat.reduceAdd, Nat.reduceMul, Nat.reduceLeDiff, Nat.reduceEqDiff, pset, hlen, if_false, if_true, t1, t4, lB, hlm, e3, decide_true, hix, l2])
    refine WF.res T.c35 (r35 T _ _ _) ?_
    rintro _ g1 rfl
    repeat (first | simp (config := { maxSteps := 1000000 }) only [wset, hset, dset, bset, Nat.reduceAdd, Nat.reduceMul, Nat.reduceLeDiff, Nat.reduceEqDiff, pset, hlen, if_false, if_true, t1, t4] | simp (config := { maxSteps := 1000000 }) (disch := first | (simp only [List.length_append, List.length_cons, List.length_nil] <;> omega) | rfl | omega | fail) only [kset, wset, hset, dset, bset, Nat.reduceAdd, Nat.reduceMul, Nat.reduceLeDiff, Nat.reduceEqDiff, pset, hlen, if_false, if_true, t1, t4])
    refine WF.res T.c35 (r35 T _ _ _) ?_
    rintro _ g2 rfl
    repeat (first | simp (config := { maxSteps := 1000000 }) only [wset, hset, dset, bset, Nat.reduceAdd, Nat.reduceMul, Nat.reduceLeDiff, Nat.reduceEqDiff, pset, hlen, if_false, if_true, t1, t4] | simp (config := { maxSteps := 1000000 }) (disch := first | (simp only [List.length_append, List.length_cons, List.length_nil] <;> omega) | rfl | omega | fail) only [kset, wset, hset, dset, bset, Nat.reduceAdd, Nat.reduceMul, Nat.reduceLeDiff, Nat.reduceEqDiff, pset, hlen, if_false, if_true, t1, t4])
    refine WF.res T.c22 (r22 T _ _) ?_
    rintro _ g3 rfl
    repeat (first | simp (config := { maxSteps := 1000000 }) only [wset, hset, dset, bset, Nat.reduceAdd, Nat.reduceMul, Nat.reduceLeDiff, Nat.reduceEqDiff, pset, hlen, if_false, if_true, t1, t4] | simp (config := { maxSteps := 1000000 }) (disch := first | (simp only [List.length_append, List.length_cons, List.length_nil] <;> omega) | rfl | omega | fail) only [kset, wset, hset, dset, bset, Nat.reduceAdd, Nat.reduceMul, Nat.reduceLeDiff, Nat.reduceEqDiff, pset, hlen, if_false, if_true, t1, t4])
    refine WF.res T.c98 (r98 T (isSl_ints [_, _, _]) (by simp)) ?_
    rintro _ g4 rfl
    have hiv : firstS [rangeS m.deps[k].1 0 100000000, rangeS m.deps[k].2 0 100000000, whenS (decide (m.deps[k].2 < m.deps[k].1)) 11] = chkIvS m.deps[k] 0 100000000 := rfl
    rw [hiv]
    by_cases h0 : chkIvS m.deps[k] 0 100000000 = 0
    · rw [if_pos h0] at hi
      have hd0 : decide (chkIvS m.deps[k] 0 100000000 ≠ 0) = false := decide_eq_false (fun hne => hne h0)
      generalize chkIvS m.deps[k] 0 100000000 = cc at *
      repeat (first | simp (config := { maxSteps := 1000000 }) only [wset, hset, dset, bset, Nat.reduceAdd, Nat.reduceMul, Nat.reduceLeDiff, Nat.reduceEqDiff, pset, hlen, if_false, if_true, t1, t4, hd0, hwk] | simp (config := { maxSteps := 1000000 }) (disch := first | (simp only [List.length_append, List.length_cons, List.length_nil] <;> omega) | rfl | omega | fail) only [kset, wset, hset, dset, bset, Nat.reduceAdd, Nat.reduceMul, Nat.reduceLeDiff, Nat.reduceEqDiff, pset, hlen, if_false, if_true, t1, t4, hd0, hwk])
      exact ⟨_, by omega, k + 1, by omega, rfl, hi, rfl⟩
    · rw [if_neg h0] at hi
      have hd0 : decide (chkIvS m.deps[k] 0 100000000 ≠ 0) = true := decide_eq_true h0
      generalize chkIvS m.deps[k] 0 100000000 = cc at *
      repeat (first | simp (config := { maxSteps := 1000000 }) only [wset, hset, dset, bset, Nat.reduceAdd, Nat.reduceMul, Nat.reduceLeDiff, Nat.reduceEqDiff, pset, hlen, if_false, if_true, t1, t4, hd0] | simp (config := { maxSteps := 1000000 }) (disch := first | (simp only [List.length_append, List.length_cons, List.length_nil] <;> omega) | rfl | omega | fail) only [kset, wset, hset, dset, bset, Nat.reduceAdd, Nat.reduceMul, Nat.reduceLeDiff, Nat.reduceEqDiff, pset, hlen, if_false, if_true, t1, t4, hd0])
      exact ⟨eB.trans (by repeat first | with_reducible exact Ext.refl _ | refine Ext.app _ ?_), by rw [hi]⟩
  · have e3 : ¬ (k : Int) < m.deps.length := by omega
    rw [List.drop_eq_nil_of_le (by omega)] at hi
    have hlm := fun G => hsB.lenm G
    repeat (first | simp (config := { maxSteps := 1000000 }) only [wset, hset, dset, bset, Nat.reduceAdd, Nat.reduceMul, Nat.reduceLeDiff, Nat.reduceEqDiff, pset, hlen, if_false, if_true, t1, t4, lB, hlm, e3, decide_false] | simp (config := { maxSteps := 1000000 }) (disch := first | (simp only [List.length_append, List.length_cons, List.length_nil] <;> omega) | rfl | omega | fail) only [kset, wset, hset, dset, bset, Nat.reduceAdd, Nat.reduceMul, Nat.reduceLeDiff, Nat.reduceEqDiff, pset, hlen, if_false, if_true, t1, t4, lB, hlm, e3, decide_false])
    exact ⟨eB.trans (by repeat first | with_reducible exact Ext.refl _ | refine Ext.app _ ?_), by rw [hi]; rfl⟩

theorem r59 {m : Mp} {s : AV} (hs : IsSl h s 2 (m.deps.map ratRow)) (cell : Int) : RCall P 59 [mapA m s, .int .i64 cell] h (fun v _ => v = .int .i64 (cellS m cell)) := by
  refine .of T.mix T.c59 ?_
  unfold fn59
  by_cases h1 : cell < 0
  · simp only [wset, hset, dset, bset, Nat.reduceAdd, Nat.reduceMul, Nat.reduceLeDiff, Nat.reduceEqDiff, hs.one, hs.lenm, decide_eq_true h1]
    refine WF.res T.c22 (r22 T _ _) ?_
    rintro _ g1 rfl
    simp only [wset, hset, dset, bset, Nat.reduceAdd, Nat.reduceMul, Nat.reduceLeDiff, Nat.reduceEqDiff]
    rw [cellS, decide_eq_true h1]; rfl
  · simp only [wset, hset, dset, bset, Nat.reduceAdd, Nat.reduceMul, Nat.reduceLeDiff, Nat.reduceEqDiff, hs.one, hs.lenm, decide_eq_false h1]
    refine WF.res T.c22 (r22 T _ _) ?_
    rintro _ g1 rfl
    simp only [wset, hset, dset, bset, Nat.reduceAdd, Nat.reduceMul, Nat.reduceLeDiff, Nat.reduceEqDiff]
    rw [cellS, decide_eq_false h1]; rfl
theorem r127 {m : Mp} {s : AV} (hs : IsSl h s 2 (m.deps.map ratRow)) (hl : m.deps.length ≤ 2 ^ 40) (cell : Int) : RCall P 127 [mapA m s, .int .i64 cell] h (fun v _ => v = .int .i64 (chkCellS m cell)) := by
  refine .of T.mix T.c127 ?_
  unfold fn127
  simp only [wset, hset, dset, bset, Nat.reduceAdd, Nat.reduceMul, Nat.reduceLeDiff, Nat.reduceEqDiff, hs.one]
  refine WF.res T.c65 (r65 T (hs.ext (by repeat first | with_reducible exact Ext.refl _ | refine Ext.app _ ?_)) hl) ?_
  rintro _ g1 rfl
  by_cases h0 : chkMapS m = 0
  case neg =>
    simp only [wset, hset, dset, bset, Nat.reduceAdd, Nat.reduceMul, Nat.reduceLeDiff, Nat.reduceEqDiff, show decide (chkMapS m ≠ 0) = true from decide_eq_true h0]
    rw [chkCellS, if_neg h0]
  by_cases h1 : cell < 0
  · simp only [wset, hset, dset, bset, Nat.reduceAdd, Nat.reduceMul, Nat.reduceLeDiff, Nat.reduceEqDiff, show decide (chkMapS m ≠ 0) = false from decide_eq_false (fun hne => hne h0), hs.one, hs.lenm, decide_eq_true h1]
    refine WF.res T.c106 (r106 T _ _) ?_
    rintro _ g1 rfl
    simp only [wset, hset, dset, bset, Nat.reduceAdd, Nat.reduceMul, Nat.reduceLeDiff, Nat.reduceEqDiff]
    rw [chkCellS, if_pos h0, cellS, decide_eq_true h1]; rfl
  · simp only [wset, hset, dset, bset, Nat.reduceAdd, Nat.reduceMul, Nat.reduceLeDiff, Nat.reduceEqDiff, show decide (chkMapS m ≠ 0) = false from decide_eq_false (fun hne => hne h0), hs.one, hs.lenm, decide_eq_false h1]
    refine WF.res T.c106 (r106 T _ _) ?_
    rintro _ g1 rfl
    simp only [wset, hset, dset, bset, Nat.reduceAdd, Nat.reduceMul, Nat.reduceLeDiff, Nat.reduceEqDiff]
    rw [chkCellS, if_pos h0, cellS, decide_eq_false h1]; rfl
theorem r131 {m : Mp} {s : AV} (hs : IsSl h s 2 (m.deps.map ratRow)) (hl : m.deps.length ≤ 2 ^ 40) (cell c : Int) : RCall P 131 [mapA m s, .int .i64 cell, .int .i64 c] h (fun v _ => v = .int .i64 (chkContS m cell c)) := by
  refine .of T.mix T.c131 ?_
  unfold fn131
  simp only [wset, hset, dset, bset, Nat.reduceAdd, Nat.reduceMul, Nat.reduceLeDiff, Nat.reduceEqDiff, hs.one]
  refine WF.res T.c127 (r127 T (hs.ext (by repeat first | with_reducible exact Ext.refl _ | refine Ext.app _ ?_)) hl cell) ?_
  rintro _ g1 rfl
  simp only [wset, hset, dset, bset, Nat.reduceAdd, Nat.reduceMul, Nat.reduceLeDiff, Nat.reduceEqDiff]
  refine WF.res T.c108 (r108 T _ _ _) ?_
  rintro _ g2 rfl
  simp only [wset, hset, dset, bset, Nat.reduceAdd, Nat.reduceMul, Nat.reduceLeDiff, Nat.reduceEqDiff]
  refine WF.res T.c105 (r105 T (isSl_ints [_, _]) (by simp)) ?_
  rintro _ g3 rfl
  simp only [wset, hset, dset, bset, Nat.reduceAdd, Nat.reduceMul, Nat.reduceLeDiff, Nat.reduceEqDiff]
  rfl
theorem r53 {m : Mp} {s : AV} (hs : IsSl h s 2 (m.deps.map ratRow)) : RCall P 53 [mapA m s] h (fun v _ => v = .bool (decide (m.deps.length ≤ 30))) := by
  refine .of T.mix T.c53 ?_
  unfold fn53
  simp only [wset, hset, dset, bset, Nat.reduceAdd, Nat.reduceMul, Nat.reduceLeDiff, Nat.reduceEqDiff, hs.one, hs.lenm]
  congr 1
  rw [Bool.eq_iff_iff, decide_eq_true_eq, decide_eq_true_eq]; omega
theorem r55 {m : Mp} {s : AV} (hs : IsSl h s 2 (m.deps.map ratRow)) (hl : m.deps.length ≤ 2 ^ 40) : RCall P 55 [mapA m s] h (fun v h' => ∃ s', v = mapA m s' ∧ Fr h.length h' s' 2 (m.deps.map ratRow)) := by
  refine .of T.mix T.c55 ?_
  unfold fn55
  simp only [wset, hset, dset, bset, Nat.reduceAdd, Nat.reduceMul, Nat.reduceLeDiff, Nat.reduceEqDiff, hs.one]
  refine WF.res T.c42 (r42 T (hs.ext (by repeat first | with_reducible exact Ext.refl _ | refine Ext.app _ ?_)) hl) ?_
  rintro s' g1 hf
  simp only [wset, hset, dset, bset, Nat.reduceAdd, Nat.reduceMul, Nat.reduceLeDiff, Nat.reduceEqDiff, hf.isSl.one]
  exact ⟨s', rfl, Fr.low (M := h.length) (hf.swap (by simp)) (by simp)⟩
end
end Go.Abs
namespace Go.Abs

/-- A list whose first elements are changed. -/
def mix {α : Type} (f : α → α) (L : List α) (k : Nat) : List α := (L.take k).map f ++ L.drop k
section
variable {P : Program} (T : Tbl P) {h : AHeap}
include T

end
end Go.Abs
namespace Go.Abs

section
variable {P : Program} {ro : Option Nat → Prop} {ks : List Kt} {ts : TS} {Q : Ex → TS → AHeap → Prop} {d : Option Nat} {l : List IOp}

end

section
variable {P : Program} (T : Tbl P) {h : AHeap}
include T
end
end Go.Abs
namespace Go.Abs
def boolRow (b : Bool) : List AV := [.bool b]
structure ArI (m : Mp) (D : List Int) (c cell : Int) (A : List Bool) : Prop where
  len : A.length = D.length
  r : ∀ k : Nat, A[k]? = some true → Rch m D (c - 1) cell k
  st : dI D cell < c → A[cell.toNat]? = some true
def ArC (m : Mp) (D : List Int) (c : Int) (A : List Bool) (i k : Nat) : Prop :=
  ∀ a b : Nat, a < D.length → b < D.length → (a < i ∨ (a = i ∧ b < k)) → A[a]? = some true → AdjM m a b → dI D b < c → A[b]? = some true
theorem cnt_set {A : List Bool} {k : Nat} (hk : k < A.length) (hf : A[k] = false) : (A.set k true).count false < A.count false := by
  have h1 : A.count false = (A.set k true).count false + 1 := by
    rw [List.count_set hk]
    have : 0 < A.count false := List.count_pos_iff.2 (hf ▸ List.getElem_mem hk)
    simp [hf]; omega
  omega
section
variable {m : Mp} (v : MpV m) {D : List Int} (hD : (D.length : Int) = m.cols * m.rows) {c cell : Int} {A : List Bool}
include v hD
theorem ArI.set (a : ArI m D c cell A) {i k : Nat} (hi : A[i]? = some true) (hk : k < D.length) (hadj : AdjM m i k) (hd : dI D k < c) : ArI m D c cell (A.set k true) := by
  have hiD : i < D.length := a.len ▸ (List.getElem?_eq_some_iff.1 hi).1
  refine ⟨by rw [List.length_set]; exact a.len, fun j hj => ?_, fun h => ?_⟩
  · rw [List.getElem?_set] at hj
    by_cases e : k = j
    · subst e
      exact .step (a.r i hi) ((nbS_iff v ⟨by omega, by omega⟩).2 ⟨⟨by omega, by omega⟩, hadj⟩) (by omega)
    · rw [if_neg e] at hj; exact a.r j hj
  · have := a.st h
    rw [List.getElem?_set]
    by_cases e : k = cell.toNat
    · rw [if_pos e, if_pos (by rw [a.len]; exact hk)]
    · rw [if_neg e]; exact this
theorem ArI.fin (a : ArI m D c cell A) (hc : InM m cell) (hcl : ArC m D c A D.length 0) : (rangeI A.length).filter (fun x => A.getD x.toNat false) = areaS m D (c - 1) cell := by
  refine areaS_eq v hD hc ((range_lt _).filter _) fun x => ?_
  rw [List.mem_filter, rangeI_mem]
  have hget : ∀ {k : Nat}, A.getD k false = true ↔ A[k]? = some true := by
    intro k
    rw [List.getD_eq_getElem?_getD]
    cases h : A[k]? with
    | none => simp
    | some b => simp
  rw [hget]
  constructor
  · rintro ⟨⟨h1, h2⟩, h3⟩
    have := a.r _ h3
    rwa [Int.toNat_of_nonneg h1] at this
  · intro h
    have hin := h.inM v hc
    refine ⟨⟨hin.1, by rw [a.len, hD]; exact hin.2⟩, ?_⟩
    induction h with
    | start h => exact a.st (by omega)
    | @step y k hx hn hk ih =>
      have hy := hx.inM v hc
      have hk' := (nbS_iff v hy).1 hn
      have hin' := hk'.1
      refine hcl y.toNat k.toNat (by have := hy.1; have := hy.2; omega) (by have := hin'.1; have := hin'.2; omega) (.inl (by have := hy.1; have := hy.2; omega)) (ih hy) ?_ ?_
      · rw [Int.toNat_of_nonneg hy.1, Int.toNat_of_nonneg hin'.1]; exact hk'.2
      · rw [Int.toNat_of_nonneg hin'.1]; omega
end
theorem ArI.begin {m : Mp} {D : List Int} {c : Int} {n : Nat} (hn : n < D.length) : ArI m D c n ((List.replicate D.length false).set n (decide (D[n] < c))) := by
  have hd := dI_get hn
  refine ⟨by simp, fun k hk => ?_, fun h => ?_⟩
  · rw [List.getElem?_set] at hk
    by_cases e : n = k
    · subst e
      rw [if_pos rfl, if_pos (by simpa using hn)] at hk
      have h1 : decide (D[n] < c) = true := by simpa using hk
      exact .start (by have := of_decide_eq_true h1; omega)
    · rw [if_neg e, List.getElem?_replicate] at hk
      split at hk <;> simp at hk
  · rw [Int.toNat_natCast, List.getElem?_set, if_pos rfl, if_pos (by simpa using hn), decide_eq_true (by omega)]
theorem ArC.next {m : Mp} {D : List Int} {c : Int} {A : List Bool} {i : Nat} (h : ArC m D c A i D.length) : ArC m D c A (i + 1) 0 := by
  intro a b ha hb hab
  exact h a b ha hb (by omega)
theorem ArC.step {m : Mp} {D : List Int} {c : Int} {A : List Bool} {i k : Nat} (h : ArC m D c A i k) (hn : A[i]? = some true → AdjM m i k → dI D k < c → A[k]? = some true) : ArC m D c A i (k + 1) := by
  intro a b ha hb hab
  by_cases e : a = i ∧ b = k
  · obtain ⟨rfl, rfl⟩ := e; exact hn
  · exact h a b ha hb (by omega)
theorem rangeI_succ (n : Nat) : rangeI (n + 1) = rangeI n ++ [(n : Int)] := by
  unfold rangeI
  rw [List.range_succ, List.map_append]; rfl

attribute [local irreducible] WP WC WE WB WR WF WL WG WRg
section
variable {P : Program} (T : Tbl P) {h : AHeap}
include T
set_option maxRecDepth 10000 in
set_option maxHeartbeats 1000000 in
theorem area_R {m : Mp} {sI : AV} {D : List Int} {A : List Bool} {c cell : Int} {B g : AHeap} {N : Nat} {ts : TS} (hN : N ≤ B.length) (eB : Ext h B) (hl : A.length ≤ 256)
    (hlen : ts.length = 107) (t9 : slot ts 9 = sI) (hf : Fr B.length (B ++ g) sI 1 (A.map boolRow)) (hA : (rangeI A.length).filter (fun x => A.getD x.toNat false) = areaS m D (c - 1) cell) :
    WC P inFn ((fn61).body.dr 4) [] ts (B ++ g) (FQ [(8, none)] (fun w h' => Ext h h' ∧ Fr N h' w 1 ((areaS m D (c - 1) cell).map intRow))) := by
  unfold fn61
  simp only [ICode.dr, ICode.tl]
  repeat (first | simp (config := { maxSteps := 1000000 }) only [wset, hset, dset, bset, Nat.reduceAdd, Nat.reduceMul, Nat.reduceLeDiff, Nat.reduceEqDiff, pset, hlen, if_false, if_true, t9] | simp (config := { maxSteps := 1000000 }) (disch := first | (simp only [List.length_append, List.length_cons, List.length_nil] <;> omega) | rfl | omega | fail) only [kset, wset, hset, dset, bset, Nat.reduceAdd, Nat.reduceMul, Nat.reduceLeDiff, Nat.reduceEqDiff, pset, hlen, if_false, if_true, t9])
  refine WL.inv T.mix (fun n ts h' => ∃ (k : Nat) (out : AV) (g' : AHeap), n = A.length - k ∧ k ≤ A.length ∧ h' = B ++ g ++ g' ∧ Fr (B ++ g).length (B ++ g ++ g') out 1 (((rangeI k).filter (fun x => A.getD x.toNat false)).map intRow) ∧ ts.length = 107 ∧ slot ts 9 = sI ∧ slot ts 15 = out ∧ slot ts 16 = .int .i64 k) A.length
    ⟨0, .nilSlice, [], by omega, by omega, by rw [List.append_nil], .nil, (by simp only [wset, hset, dset, bset, Nat.reduceAdd, Nat.reduceMul, Nat.reduceLeDiff, Nat.reduceEqDiff, pset, hlen, if_false, if_true, t9]), (by simp only [wset, hset, dset, bset, Nat.reduceAdd, Nat.reduceMul, Nat.reduceLeDiff, Nat.reduceEqDiff, pset, hlen, if_false, if_true, t9]), (by simp only [wset, hset, dset, bset, Nat.reduceAdd, Nat.reduceMul, Nat.reduceLeDiff, Nat.reduceEqDiff, pset, hlen, if_false, if_true, t9]), (by simp only [wset, hset, dset, bset, Nat.reduceAdd, Nat.reduceMul, Nat.reduceLeDiff, Nat.reduceEqDiff, pset, hlen, if_false, if_true, t9]; rfl)⟩ ?_
  clear t9 hlen ts
  rintro _ ts _ ⟨k, out, g', rfl, hk, rfl, hfr, hlen, t9, t15, t16⟩
  have hlm := fun G => hf.isSl.lenm G
  by_cases hlt : k < A.length
  · have e3 : (k : Int) < A.length := by omega
    have hix := hf.isSl.ixm (kk := .i64) hlt
    have l1 := fun {kk : AHeap} (e : Ext (B ++ g) kk) => hf.isSl.l1m hlt rfl e
    have hwk := wrapN (show k + 1 < 2 ^ 63 by omega)
    have hs := rangeI_succ k
    have hg : A.getD (k : Int).toNat false = A[k] := by rw [Int.toNat_natCast, List.getD_eq_getElem?_getD, List.getElem?_eq_getElem hlt, Option.getD_some]
    have hkl : (List.filter (fun x => A.getD x.toNat false) (rangeI k)).length ≤ 256 := Nat.le_trans (List.length_filter_le _ _) (by simp [rangeI]; omega)
    cases hb : A[k] with
    | false =>
      rw [hb] at l1 hg
      have hrow : (rangeI (k + 1)).filter (fun x => A.getD x.toNat false) = (rangeI k).filter (fun x => A.getD x.toNat false) := by
        rw [hs, List.filter_append, List.filter_cons, hg, if_neg (by simp), List.filter_nil, List.append_nil]
      repeat (first | simp (config := { maxSteps := 1000000 }) only [wset, hset, dset, bset, Nat.reduceAdd, Nat.reduceMul, Nat.reduceLeDiff, Nat.reduceEqDiff, pset, hlen, if_false, if_true, t9, t15, t16, hlm, e3, decide_true, hix, l1, hwk] | simp (config := { maxSteps := 1000000 }) (disch := first | (simp only [List.length_append, List.length_cons, List.length_nil] <;> omega) | rfl | omega | fail) only [kset, wset, hset, dset, bset, Nat.reduceAdd, Nat.reduceMul, Nat.reduceLeDiff, Nat.reduceEqDiff, pset, hlen, if_false, if_true, t9, t15, t16, hlm, e3, decide_true, hix, l1, hwk])
      exact ⟨_, by omega, k + 1, out, g', rfl, by omega, rfl, by rw [hrow]; exact hfr, rfl, rfl⟩
    | true =>
      rw [hb] at l1 hg
      have hrow : ((rangeI k).filter (fun x => A.getD x.toNat false)).map intRow ++ [intRow k] = ((rangeI (k + 1)).filter (fun x => A.getD x.toNat false)).map intRow := by
        rw [hs, List.filter_append, List.filter_cons, hg, if_pos rfl, List.filter_nil, List.map_append]; rfl
      repeat (first | simp (config := { maxSteps := 1000000 }) only [wset, hset, dset, bset, Nat.reduceAdd, Nat.reduceMul, Nat.reduceLeDiff, Nat.reduceEqDiff, pset, hlen, if_false, if_true, t9, t15, t16, hlm, e3, decide_true, hix, l1, hwk] | simp (config := { maxSteps := 1000000 }) (disch := first | (simp only [List.length_append, List.length_cons, List.length_nil] <;> omega) | rfl | omega | fail) only [kset, wset, hset, dset, bset, Nat.reduceAdd, Nat.reduceMul, Nat.reduceLeDiff, Nat.reduceEqDiff, pset, hlen, if_false, if_true, t9, t15, t16, hlm, e3, decide_true, hix, l1, hwk])
      refine WR.app1 (h0 := B ++ g) (cs := ((rangeI k).filter (fun x => A.getD x.toNat false)).map intRow) (ys := [intRow k]) ?f1 (Fr.push (N := 0) (Nat.zero_le _) [intRow k] (by simp)).isSl (by decide) (by simp) (by rw [List.length_map]; simp only [List.length_cons, List.length_nil]; omega) (by repeat first | with_reducible exact Ext.refl _ | refine Ext.app _ ?_) ?_
      case f1 => exact hfr.app _
      intro g3 hl' hff hkp
      rw [hrow] at hff ⊢
      repeat (first | simp (config := { maxSteps := 1000000 }) only [wset, hset, dset, bset, Nat.reduceAdd, Nat.reduceMul, Nat.reduceLeDiff, Nat.reduceEqDiff, pset, hlen, if_false, if_true, t9, t15, t16, hwk] | simp (config := { maxSteps := 1000000 }) (disch := first | (simp only [List.length_append, List.length_cons, List.length_nil] <;> omega) | rfl | omega | fail) only [kset, wset, hset, dset, bset, Nat.reduceAdd, Nat.reduceMul, Nat.reduceLeDiff, Nat.reduceEqDiff, pset, hlen, if_false, if_true, t9, t15, t16, hwk])
      exact ⟨_, by omega, k + 1, _, g3, rfl, by omega, rfl, hff, rfl, rfl⟩
  · have e3 : ¬ (k : Int) < A.length := by omega
    have e4 : k = A.length := by omega
    rw [e4, hA] at hfr
    repeat (first | simp (config := { maxSteps := 1000000 }) only [wset, hset, dset, bset, Nat.reduceAdd, Nat.reduceMul, Nat.reduceLeDiff, Nat.reduceEqDiff, pset, hlen, if_false, if_true, t9, t15, t16, hlm, e3, decide_false] | simp (config := { maxSteps := 1000000 }) (disch := first | (simp only [List.length_append, List.length_cons, List.length_nil] <;> omega) | rfl | omega | fail) only [kset, wset, hset, dset, bset, Nat.reduceAdd, Nat.reduceMul, Nat.reduceLeDiff, Nat.reduceEqDiff, pset, hlen, if_false, if_true, t9, t15, t16, hlm, e3, decide_false])
    exact ⟨eB.trans (by repeat first | with_reducible exact Ext.refl _ | refine Ext.app _ ?_), hfr.low (Nat.le_trans hN (by simp))⟩
set_option maxRecDepth 10000 in
set_option maxHeartbeats 1000000 in
theorem area_L {m : Mp} {s sI d : AV} {D : List Int} {A : List Bool} {c cell : Int} {B g : AHeap} {N b4 : Nat} {ts : TS} (v : MpV m) (hd : IsSl B d 1 (D.map intRow)) (hD : (D.length : Int) = m.cols * m.rows) (hc : InM m cell)
    (m4 : B[b4]? = some (.cells [AV.int IntKind.i64 m.cols, AV.int IntKind.i64 m.rows, s] true false)) (hN : N ≤ B.length) (eB : Ext h B)
    (hlen : ts.length = 107) (t1 : slot ts 1 = d) (t3 : slot ts 3 = .int .i64 c) (t4 : slot ts 4 = .ptr b4 0) (t9 : slot ts 9 = sI) (hf : Fr B.length (B ++ g) sI 1 (A.map boolRow)) (hA : ArI m D c cell A) :
    WC P inFn ((fn61).body.dr 3) [] ts (B ++ g) (FQ [(8, none)] (fun w h' => Ext h h' ∧ Fr N h' w 1 ((areaS m D (c - 1) cell).map intRow))) := by
  have hDl : D.length ≤ 256 := by
    have := mul_bd (a := m.cols) (b := m.rows) (A := 16) (B := 16) (by have := v.c; omega) (by have := v.r; omega)
    omega
  have lB : ∀ {n : Option Nat} {o : Nat} {kk : AHeap}, Ext B kk → loadF n (.ptr b4 o) (fun b => kk[b]?) = ldB n o (.cells [AV.int IntKind.i64 m.cols, AV.int IntKind.i64 m.rows, s] true false) := fun e => loadF_at (e.some m4)
  have hlm := fun G => hd.lenm G
  have hc0 : m.cols ≠ 0 := by have := v.c; omega
  have vc := v.c
  have vr := v.r
  obtain ⟨R, hR⟩ : ∃ R, R = (fn61).body.dr 4 := ⟨_, rfl⟩
  have hbody : ∃ a, (fn61).body.dr 3 = .seq a R ∧ a = ((fn61).body.dr 3).hd := ⟨_, by rw [hR]; rfl, rfl⟩
  obtain ⟨a, e, rfl⟩ := hbody
  rw [e]
  unfold fn61
  simp only [ICode.dr, ICode.tl, ICode.hd]
  repeat (first | simp (config := { maxSteps := 1000000 }) only [wset, hset, dset, bset, Nat.reduceAdd, Nat.reduceMul, Nat.reduceLeDiff, Nat.reduceEqDiff, pset, hlen, if_false, if_true, t1] | simp (config := { maxSteps := 1000000 }) (disch := first | (simp only [List.length_append, List.length_cons, List.length_nil] <;> omega) | rfl | omega | fail) only [kset, wset, hset, dset, bset, Nat.reduceAdd, Nat.reduceMul, Nat.reduceLeDiff, Nat.reduceEqDiff, pset, hlen, if_false, if_true, t1])
  refine WL.inv T.mix (fun n ts h' => ∃ (A : List Bool) (g : AHeap) (ch : Bool), n = (if ch = true then A.count false + 1 else 0) ∧ h' = B ++ g ∧ Fr B.length (B ++ g) sI 1 (A.map boolRow) ∧ ArI m D c cell A ∧ (ch = false → ArC m D c A D.length 0) ∧ ts.length = 107 ∧ slot ts 1 = d ∧ slot ts 3 = .int .i64 c ∧ slot ts 4 = .ptr b4 0 ∧ slot ts 9 = sI ∧ slot ts 10 = .bool ch) (A.count false + 1)
    ⟨A, g, true, rfl, rfl, hf, hA, by simp, (by simp only [wset, hset, dset, bset, Nat.reduceAdd, Nat.reduceMul, Nat.reduceLeDiff, Nat.reduceEqDiff, pset, hlen, if_false, if_true, t1]), (by simp only [wset, hset, dset, bset, Nat.reduceAdd, Nat.reduceMul, Nat.reduceLeDiff, Nat.reduceEqDiff, pset, hlen, if_false, if_true, t1]), (by simp only [wset, hset, dset, bset, Nat.reduceAdd, Nat.reduceMul, Nat.reduceLeDiff, Nat.reduceEqDiff, pset, hlen, if_false, if_true, t3]), (by simp only [wset, hset, dset, bset, Nat.reduceAdd, Nat.reduceMul, Nat.reduceLeDiff, Nat.reduceEqDiff, pset, hlen, if_false, if_true, t4]), (by simp only [wset, hset, dset, bset, Nat.reduceAdd, Nat.reduceMul, Nat.reduceLeDiff, Nat.reduceEqDiff, pset, hlen, if_false, if_true, t9]), (by simp only [wset, hset, dset, bset, Nat.reduceAdd, Nat.reduceMul, Nat.reduceLeDiff, Nat.reduceEqDiff, pset, hlen, if_false, if_true, t1])⟩ ?_
  clear hf hA t1 t3 t4 t9 hlen ts A g
  rintro _ ts _ ⟨A, g, ch, rfl, rfl, hf, hA, hcl, hlen, t1, t3, t4, t9, t10⟩
  cases ch with
  | false =>
    repeat (first | simp (config := { maxSteps := 1000000 }) only [wset, hset, dset, bset, Nat.reduceAdd, Nat.reduceMul, Nat.reduceLeDiff, Nat.reduceEqDiff, pset, hlen, if_false, if_true, t1, t3, t4, t9, t10] | simp (config := { maxSteps := 1000000 }) (disch := first | (simp only [List.length_append, List.length_cons, List.length_nil] <;> omega) | rfl | omega | fail) only [kset, wset, hset, dset, bset, Nat.reduceAdd, Nat.reduceMul, Nat.reduceLeDiff, Nat.reduceEqDiff, pset, hlen, if_false, if_true, t1, t3, t4, t9, t10])
    rw [hR]
    have hcl' := hcl rfl
    refine area_R T hN eB (by rw [hA.len]; exact hDl) (by simp only [wset, hset, dset, bset, Nat.reduceAdd, Nat.reduceMul, Nat.reduceLeDiff, Nat.reduceEqDiff, pset, hlen, if_false, if_true, t9]) (by simp only [wset, hset, dset, bset, Nat.reduceAdd, Nat.reduceMul, Nat.reduceLeDiff, Nat.reduceEqDiff, pset, hlen, if_false, if_true, t9]) hf (hA.fin v hD hc hcl')
  | true =>
    repeat (first | simp (config := { maxSteps := 1000000 }) only [wset, hset, dset, bset, Nat.reduceAdd, Nat.reduceMul, Nat.reduceLeDiff, Nat.reduceEqDiff, pset, hlen, if_false, if_true, t1, t3, t4, t9, t10] | simp (config := { maxSteps := 1000000 }) (disch := first | (simp only [List.length_append, List.length_cons, List.length_nil] <;> omega) | rfl | omega | fail) only [kset, wset, hset, dset, bset, Nat.reduceAdd, Nat.reduceMul, Nat.reduceLeDiff, Nat.reduceEqDiff, pset, hlen, if_false, if_true, t1, t3, t4, t9, t10])
    obtain ⟨F0, hF0⟩ : ∃ F0, F0 = A.count false := ⟨_, rfl⟩
    rw [← hF0]
    refine WL.inv T.mix (fun n ts h' => ∃ (i : Nat) (A : List Bool) (g : AHeap) (ch : Bool), n = D.length - i ∧ i ≤ D.length ∧ h' = B ++ g ∧ Fr B.length (B ++ g) sI 1 (A.map boolRow) ∧ ArI m D c cell A ∧ A.count false ≤ F0 ∧ (ch = true → A.count false < F0) ∧ (ch = false → ArC m D c A i 0) ∧ ts.length = 107 ∧ slot ts 1 = d ∧ slot ts 3 = .int .i64 c ∧ slot ts 4 = .ptr b4 0 ∧ slot ts 9 = sI ∧ slot ts 10 = .bool ch ∧ slot ts 11 = .int .i64 i) D.length
      ⟨0, A, g, false, by omega, by omega, rfl, hf, hA, by omega, by simp, fun _ a b ha hb hab => absurd hab (by omega), (by simp only [wset, hset, dset, bset, Nat.reduceAdd, Nat.reduceMul, Nat.reduceLeDiff, Nat.reduceEqDiff, pset, hlen, if_false, if_true, t1]), (by simp only [wset, hset, dset, bset, Nat.reduceAdd, Nat.reduceMul, Nat.reduceLeDiff, Nat.reduceEqDiff, pset, hlen, if_false, if_true, t1]), (by simp only [wset, hset, dset, bset, Nat.reduceAdd, Nat.reduceMul, Nat.reduceLeDiff, Nat.reduceEqDiff, pset, hlen, if_false, if_true, t3]), (by simp only [wset, hset, dset, bset, Nat.reduceAdd, Nat.reduceMul, Nat.reduceLeDiff, Nat.reduceEqDiff, pset, hlen, if_false, if_true, t4]), (by simp only [wset, hset, dset, bset, Nat.reduceAdd, Nat.reduceMul, Nat.reduceLeDiff, Nat.reduceEqDiff, pset, hlen, if_false, if_true, t9]), (by simp only [wset, hset, dset, bset, Nat.reduceAdd, Nat.reduceMul, Nat.reduceLeDiff, Nat.reduceEqDiff, pset, hlen, if_false, if_true, t1]), (by simp only [wset, hset, dset, bset, Nat.reduceAdd, Nat.reduceMul, Nat.reduceLeDiff, Nat.reduceEqDiff, pset, hlen, if_false, if_true, t1]; rfl)⟩ ?_
    clear hf hA hcl t1 t3 t4 t9 t10 hlen ts hF0 A g
    rintro _ ts _ ⟨i, A, g, ch, rfl, hi, rfl, hf, hA, hF, hch, hcl, hlen, t1, t3, t4, t9, t10, t11⟩
    by_cases hlt : i < D.length
    · have e3 : (i : Int) < D.length := by omega
      repeat (first | simp (config := { maxSteps := 1000000 }) only [wset, hset, dset, bset, Nat.reduceAdd, Nat.reduceMul, Nat.reduceLeDiff, Nat.reduceEqDiff, pset, hlen, if_false, if_true, t1, t3, t4, t9, t10, t11, hlm, e3, decide_true] | simp (config := { maxSteps := 1000000 }) (disch := first | (simp only [List.length_append, List.length_cons, List.length_nil] <;> omega) | rfl | omega | fail) only [kset, wset, hset, dset, bset, Nat.reduceAdd, Nat.reduceMul, Nat.reduceLeDiff, Nat.reduceEqDiff, pset, hlen, if_false, if_true, t1, t3, t4, t9, t10, t11, hlm, e3, decide_true])
      refine WL.inv T.mix (fun n ts h' => ∃ (k : Nat) (A : List Bool) (g : AHeap) (ch : Bool), n = D.length - k ∧ k ≤ D.length ∧ h' = B ++ g ∧ Fr B.length (B ++ g) sI 1 (A.map boolRow) ∧ ArI m D c cell A ∧ A.count false ≤ F0 ∧ (ch = true → A.count false < F0) ∧ (ch = false → ArC m D c A i k) ∧ ts.length = 107 ∧ slot ts 1 = d ∧ slot ts 3 = .int .i64 c ∧ slot ts 4 = .ptr b4 0 ∧ slot ts 9 = sI ∧ slot ts 10 = .bool ch ∧ slot ts 11 = .int .i64 i ∧ slot ts 12 = .int .i64 k) D.length
        ⟨0, A, g, ch, by omega, by omega, rfl, hf, hA, hF, hch, hcl, (by simp only [wset, hset, dset, bset, Nat.reduceAdd, Nat.reduceMul, Nat.reduceLeDiff, Nat.reduceEqDiff, pset, hlen, if_false, if_true, t1]), (by simp only [wset, hset, dset, bset, Nat.reduceAdd, Nat.reduceMul, Nat.reduceLeDiff, Nat.reduceEqDiff, pset, hlen, if_false, if_true, t1]), (by simp only [wset, hset, dset, bset, Nat.reduceAdd, Nat.reduceMul, Nat.reduceLeDiff, Nat.reduceEqDiff, pset, hlen, if_false, if_true, t3]), (by simp only [wset, hset, dset, bset, Nat.reduceAdd, Nat.reduceMul, Nat.reduceLeDiff, Nat.reduceEqDiff, pset, hlen, if_false, if_true, t4]), (by simp only [wset, hset, dset, bset, Nat.reduceAdd, Nat.reduceMul, Nat.reduceLeDiff, Nat.reduceEqDiff, pset, hlen, if_false, if_true, t9]), (by simp only [wset, hset, dset, bset, Nat.reduceAdd, Nat.reduceMul, Nat.reduceLeDiff, Nat.reduceEqDiff, pset, hlen, if_false, if_true, t10]), (by simp only [wset, hset, dset, bset, Nat.reduceAdd, Nat.reduceMul, Nat.reduceLeDiff, Nat.reduceEqDiff, pset, hlen, if_false, if_true, t11]), (by simp only [wset, hset, dset, bset, Nat.reduceAdd, Nat.reduceMul, Nat.reduceLeDiff, Nat.reduceEqDiff, pset, hlen, if_false, if_true, t1]; rfl)⟩ ?_
      clear hf hA hcl hch hF t1 t3 t4 t9 t10 t11 hlen ts A g ch
      rintro _ ts _ ⟨k, A, g, ch, rfl, hk, rfl, hf, hA, hF, hch, hcl, hlen, t1, t3, t4, t9, t10, t11, t12⟩
      by_cases hlk : k < D.length
      · have e4 : (k : Int) < D.length := by omega
        have hiA : i < A.length := by rw [hA.len]; exact hlt
        have hkA : k < A.length := by rw [hA.len]; exact hlk
        obtain ⟨b1, b2, b3, b4', -⟩ := cell_bd v (x := i) ⟨by omega, by omega⟩
        obtain ⟨c1, c2, c3, c4, -⟩ := cell_bd v (x := k) ⟨by omega, by omega⟩
        have er1 : (i : Int).tmod m.cols = i % m.cols := Int.tmod_eq_emod_of_nonneg (by omega)
        have er2 : (k : Int).tmod m.cols = k % m.cols := Int.tmod_eq_emod_of_nonneg (by omega)
        have eq1 : (i : Int).tdiv m.cols = i / m.cols := Int.tdiv_eq_ediv_of_nonneg (by omega)
        have eq2 : (k : Int).tdiv m.cols = k / m.cols := Int.tdiv_eq_ediv_of_nonneg (by omega)
        obtain ⟨a, ha⟩ : ∃ a, a = (i : Int) % m.cols - k % m.cols := ⟨_, rfl⟩
        obtain ⟨b, hb⟩ : ∃ b, b = (i : Int) / m.cols - k / m.cols := ⟨_, rfl⟩
        have hadj : AdjM m i k ↔ a * a + b * b = 1 := by unfold AdjM; rw [← ha, ← hb]
        have w1 : IntKind.i64.wrap (i / m.cols) = i / m.cols := wrap_in (by omega) (by omega)
        have w2 : IntKind.i64.wrap (k / m.cols) = k / m.cols := wrap_in (by omega) (by omega)
        have w3 : IntKind.i64.wrap (i % m.cols - k % m.cols) = a := by rw [wrap_in (by omega) (by omega)]; exact ha.symm
        have w4 : IntKind.i64.wrap (i / m.cols - k / m.cols) = b := by rw [wrap_in (by omega) (by omega)]; exact hb.symm
        have sq : ∀ z : Int, -16 ≤ z ∧ z ≤ 16 → 0 ≤ z * z ∧ z * z ≤ 256 := by
          intro z hz
          by_cases h0 : 0 ≤ z
          · exact mul_bd (A := 16) (B := 16) ⟨h0, hz.2⟩ ⟨h0, hz.2⟩
          · have := mul_bd (a := -z) (b := -z) (A := 16) (B := 16) (by omega) (by omega)
            rwa [Int.neg_mul_neg] at this
        have sa := sq a (by omega)
        have sb := sq b (by omega)
        have w5 : IntKind.i64.wrap (a * a) = a * a := wrap_in (by omega) (by omega)
        have w6 : IntKind.i64.wrap (b * b) = b * b := wrap_in (by omega) (by omega)
        have w7 : IntKind.i64.wrap (a * a + b * b) = a * a + b * b := wrap_in (by omega) (by omega)
        have hwk := wrapN (show k + 1 < 2 ^ 63 by omega)
        have hixi := hf.isSl.ixm (kk := .i64) hiA
        have hixk := hf.isSl.ixm (kk := .i64) hkA
        have hixd := hd.ixm (kk := .i64) hlk
        have li := fun {kk : AHeap} (e : Ext (B ++ g) kk) => hf.isSl.l1m hiA rfl e
        have lk := fun {kk : AHeap} (e : Ext (B ++ g) kk) => hf.isSl.l1m hkA rfl e
        have ldk := fun {kk : AHeap} (e : Ext B kk) => hd.l1m hlk rfl e
        have hdk := dI_get hlk
        have br1 := fun (kk : IntKind) (a : Int) => bin_rem (k := kk) (a := a) hc0
        have br2 := fun (kk : IntKind) (a : Int) => bin_quo (k := kk) (a := a) hc0
        have keep : (A[i]? = some true → AdjM m i k → dI D k < c → A[k]? = some true) → ∃ m_1, m_1 < D.length - k ∧ ∃ k_1 A' g' ch', m_1 = D.length - k_1 ∧ k_1 ≤ D.length ∧ B ++ g = B ++ g' ∧ Fr B.length (B ++ g') sI 1 (List.map boolRow A') ∧ ArI m D c cell A' ∧ List.count false A' ≤ F0 ∧ (ch' = true → List.count false A' < F0) ∧ (ch' = false → ArC m D c A' i k_1) ∧ AV.bool ch = AV.bool ch' ∧ AV.int IntKind.i64 ((k + 1 : Nat) : Int) = AV.int IntKind.i64 (k_1 : Int) :=
          fun hs => ⟨_, by omega, k + 1, A, g, ch, rfl, by omega, rfl, hf, hA, hF, hch, fun h' => (hcl h').step hs, rfl, rfl⟩
        have hgi : A[i]? = some A[i] := List.getElem?_eq_getElem hiA
        have hgk : A[k]? = some A[k] := List.getElem?_eq_getElem hkA
        clear hcl
        cases hAi : A[i] with
        | false =>
          rw [hAi] at li hgi
          repeat (first | simp (config := { maxSteps := 1000000 }) only [wset, hset, dset, bset, Nat.reduceAdd, Nat.reduceMul, Nat.reduceLeDiff, Nat.reduceEqDiff, pset, hlen, if_false, if_true, t1, t3, t4, t9, t10, t11, t12, hlm, e4, decide_true, lB, er1, er2, eq1, eq2, br1, br2, w1, w2, w3, w4, hixi, li, hwk] | simp (config := { maxSteps := 1000000 }) (disch := first | (simp only [List.length_append, List.length_cons, List.length_nil] <;> omega) | rfl | omega | fail) only [kset, wset, hset, dset, bset, Nat.reduceAdd, Nat.reduceMul, Nat.reduceLeDiff, Nat.reduceEqDiff, pset, hlen, if_false, if_true, t1, t3, t4, t9, t10, t11, t12, hlm, e4, decide_true, lB, er1, er2, eq1, eq2, br1, br2, w1, w2, w3, w4, hixi, li, hwk])
          exact keep fun h' => absurd h' (by rw [hgi]; simp)
        | true =>
          rw [hAi] at li hgi
          cases hAk : A[k] with
          | true =>
            rw [hAk] at lk hgk
            repeat (first | simp (config := { maxSteps := 1000000 }) only [wset, hset, dset, bset, Nat.reduceAdd, Nat.reduceMul, Nat.reduceLeDiff, Nat.reduceEqDiff, pset, hlen, if_false, if_true, t1, t3, t4, t9, t10, t11, t12, hlm, e4, decide_true, lB, er1, er2, eq1, eq2, br1, br2, w1, w2, w3, w4, hixi, li, hixk, lk, Bool.not_true, hwk] | simp (config := { maxSteps := 1000000 }) (disch := first | (simp only [List.length_append, List.length_cons, List.length_nil] <;> omega) | rfl | omega | fail) only [kset, wset, hset, dset, bset, Nat.reduceAdd, Nat.reduceMul, Nat.reduceLeDiff, Nat.reduceEqDiff, pset, hlen, if_false, if_true, t1, t3, t4, t9, t10, t11, t12, hlm, e4, decide_true, lB, er1, er2, eq1, eq2, br1, br2, w1, w2, w3, w4, hixi, li, hixk, lk, Bool.not_true, hwk])
            exact keep fun _ _ _ => hgk
          | false =>
            rw [hAk] at lk hgk
            by_cases had : a * a + b * b = 1
            · by_cases hdc : D[k] < c
              · repeat (first | simp (config := { maxSteps := 1000000 }) only [wset, hset, dset, bset, Nat.reduceAdd, Nat.reduceMul, Nat.reduceLeDiff, Nat.reduceEqDiff, pset, hlen, if_false, if_true, t1, t3, t4, t9, t10, t11, t12, hlm, e4, decide_true, lB, er1, er2, eq1, eq2, br1, br2, w1, w2, w3, w4, hixi, li, hixk, lk, Bool.not_false, w5, w6, w7, decide_eq_true had, hixd, ldk, decide_eq_true hdc] | simp (config := { maxSteps := 1000000 }) (disch := first | (simp only [List.length_append, List.length_cons, List.length_nil] <;> omega) | rfl | omega | fail) only [kset, wset, hset, dset, bset, Nat.reduceAdd, Nat.reduceMul, Nat.reduceLeDiff, Nat.reduceEqDiff, pset, hlen, if_false, if_true, t1, t3, t4, t9, t10, t11, t12, hlm, e4, decide_true, lB, er1, er2, eq1, eq2, br1, br2, w1, w2, w3, w4, hixi, li, hixk, lk, Bool.not_false, w5, w6, w7, decide_eq_true had, hixd, ldk, decide_eq_true hdc])
                have hcnt := cnt_set hkA hAk
                refine WR.put1 (h0 := B) (L := A) (row := boolRow) (x' := true) (i := k) (es := 1) (off := 0) hf hkA (by decide) rfl (by rw [hAk]; rfl) ?_
                intro g' hg' hf' hkp
                repeat (first | simp (config := { maxSteps := 1000000 }) only [wset, hset, dset, bset, Nat.reduceAdd, Nat.reduceMul, Nat.reduceLeDiff, Nat.reduceEqDiff, pset, hlen, if_false, if_true, t1, t3, t4, t9, t10, t11, t12, hwk] | simp (config := { maxSteps := 1000000 }) (disch := first | (simp only [List.length_append, List.length_cons, List.length_nil] <;> omega) | rfl | omega | fail) only [kset, wset, hset, dset, bset, Nat.reduceAdd, Nat.reduceMul, Nat.reduceLeDiff, Nat.reduceEqDiff, pset, hlen, if_false, if_true, t1, t3, t4, t9, t10, t11, t12, hwk])
                exact ⟨_, by omega, k + 1, _, g', true, rfl, by omega, rfl, hf', hA.set v hD hgi hlk (hadj.2 had) (by rw [hdk]; exact hdc), by omega, fun _ => by omega, by simp, rfl, rfl⟩
              · repeat (first | simp (config := { maxSteps := 1000000 }) only [wset, hset, dset, bset, Nat.reduceAdd, Nat.reduceMul, Nat.reduceLeDiff, Nat.reduceEqDiff, pset, hlen, if_false, if_true, t1, t3, t4, t9, t10, t11, t12, hlm, e4, decide_true, lB, er1, er2, eq1, eq2, br1, br2, w1, w2, w3, w4, hixi, li, hixk, lk, Bool.not_false, w5, w6, w7, decide_eq_true had, hixd, ldk, decide_eq_false hdc, hwk] | simp (config := { maxSteps := 1000000 }) (disch := first | (simp only [List.length_append, List.length_cons, List.length_nil] <;> omega) | rfl | omega | fail) only [kset, wset, hset, dset, bset, Nat.reduceAdd, Nat.reduceMul, Nat.reduceLeDiff, Nat.reduceEqDiff, pset, hlen, if_false, if_true, t1, t3, t4, t9, t10, t11, t12, hlm, e4, decide_true, lB, er1, er2, eq1, eq2, br1, br2, w1, w2, w3, w4, hixi, li, hixk, lk, Bool.not_false, w5, w6, w7, decide_eq_true had, hixd, ldk, decide_eq_false hdc, hwk])
                exact keep fun _ _ h' => absurd h' (by rw [hdk]; exact hdc)
            · repeat (first | simp (config := { maxSteps := 1000000 }) only [wset, hset, dset, bset, Nat.reduceAdd, Nat.reduceMul, Nat.reduceLeDiff, Nat.reduceEqDiff, pset, hlen, if_false, if_true, t1, t3, t4, t9, t10, t11, t12, hlm, e4, decide_true, lB, er1, er2, eq1, eq2, br1, br2, w1, w2, w3, w4, hixi, li, hixk, lk, Bool.not_false, w5, w6, w7, decide_eq_false had, hwk] | simp (config := { maxSteps := 1000000 }) (disch := first | (simp only [List.length_append, List.length_cons, List.length_nil] <;> omega) | rfl | omega | fail) only [kset, wset, hset, dset, bset, Nat.reduceAdd, Nat.reduceMul, Nat.reduceLeDiff, Nat.reduceEqDiff, pset, hlen, if_false, if_true, t1, t3, t4, t9, t10, t11, t12, hlm, e4, decide_true, lB, er1, er2, eq1, eq2, br1, br2, w1, w2, w3, w4, hixi, li, hixk, lk, Bool.not_false, w5, w6, w7, decide_eq_false had, hwk])
              exact keep fun _ h' => absurd (hadj.1 h') had
      · have e4 : ¬ (k : Int) < D.length := by omega
        have hkE : k = D.length := by omega
        have hwi := wrapN (show i + 1 < 2 ^ 63 by omega)
        repeat (first | simp (config := { maxSteps := 1000000 }) only [wset, hset, dset, bset, Nat.reduceAdd, Nat.reduceMul, Nat.reduceLeDiff, Nat.reduceEqDiff, pset, hlen, if_false, if_true, t1, t3, t4, t9, t10, t11, t12, hlm, e4, decide_false, hwi] | simp (config := { maxSteps := 1000000 }) (disch := first | (simp only [List.length_append, List.length_cons, List.length_nil] <;> omega) | rfl | omega | fail) only [kset, wset, hset, dset, bset, Nat.reduceAdd, Nat.reduceMul, Nat.reduceLeDiff, Nat.reduceEqDiff, pset, hlen, if_false, if_true, t1, t3, t4, t9, t10, t11, t12, hlm, e4, decide_false, hwi])
        exact ⟨_, by omega, i + 1, A, g, ch, rfl, by omega, rfl, hf, hA, hF, hch, fun h' => (hkE ▸ hcl h').next, rfl, rfl⟩
    · have e3 : ¬ (i : Int) < D.length := by omega
      have hiE : i = D.length := by omega
      repeat (first | simp (config := { maxSteps := 1000000 }) only [wset, hset, dset, bset, Nat.reduceAdd, Nat.reduceMul, Nat.reduceLeDiff, Nat.reduceEqDiff, pset, hlen, if_false, if_true, t1, t3, t4, t9, t10, t11, hlm, e3, decide_false] | simp (config := { maxSteps := 1000000 }) (disch := first | (simp only [List.length_append, List.length_cons, List.length_nil] <;> omega) | rfl | omega | fail) only [kset, wset, hset, dset, bset, Nat.reduceAdd, Nat.reduceMul, Nat.reduceLeDiff, Nat.reduceEqDiff, pset, hlen, if_false, if_true, t1, t3, t4, t9, t10, t11, hlm, e3, decide_false])
      refine ⟨_, ?_, A, g, ch, rfl, rfl, hf, hA, fun h' => hiE ▸ hcl h', rfl⟩
      cases ch with
      | false => simp
      | true => have := hch rfl; simp; omega

set_option maxRecDepth 10000 in
set_option maxHeartbeats 1000000 in
theorem r61 {m : Mp} {s d : AV} {D : List Int} (hs : s.one = true) (v : MpV m) (hd : IsSl h d 1 (D.map intRow)) (hD : (D.length : Int) = m.cols * m.rows) {cell c : Int} (hc : InM m cell) :
    RCall P 61 [mapA m s, d, .int .i64 cell, .int .i64 c] h (fun w h' => Fr h.length h' w 1 ((areaS m D (c - 1) cell).map intRow)) := by
  obtain ⟨n, hn⟩ := Int.eq_ofNat_of_zero_le hc.1
  have hnD : n < D.length := by have := hc.2; omega
  have hDl : D.length ≤ 256 := by
    have := mul_bd (a := m.cols) (b := m.rows) (A := 16) (B := 16) (by have := v.c; omega) (by have := v.r; omega)
    omega
  refine .of T.mix T.c61 ?_
  have eB : Ext h (h ++ [ABlk.cells [AV.int IntKind.i64 m.cols, AV.int IntKind.i64 m.rows, s] true false]) := by repeat first | with_reducible exact Ext.refl _ | refine Ext.app _ ?_
  have lB : (h ++ [ABlk.cells [AV.int IntKind.i64 m.cols, AV.int IntKind.i64 m.rows, s] true false])[h.length]? = some (.cells [AV.int IntKind.i64 m.cols, AV.int IntKind.i64 m.rows, s] true false) := by rw [List.getElem?_append_right (Nat.le_refl _), Nat.sub_self]; rfl
  obtain ⟨B, hB⟩ : ∃ B, B = h ++ [ABlk.cells [AV.int IntKind.i64 m.cols, AV.int IntKind.i64 m.rows, s] true false] := ⟨_, rfl⟩
  rw [← hB] at eB lB
  obtain ⟨ts, hts⟩ : ∃ ts, ts = startTS 107 [mapA m s, d, .int .i64 cell, .int .i64 c] := ⟨_, rfl⟩
  have hlen : ts.length = 107 := by rw [hts]; rfl
  have t0 : slot ts 0 = mapA m s := by rw [hts]; rfl
  have t1 : slot ts 1 = d := by rw [hts]; rfl
  have t2 : slot ts 2 = .int .i64 cell := by rw [hts]; rfl
  have t3 : slot ts 3 = .int .i64 c := by rw [hts]; rfl
  show WC P inFn (fn61).body [] (startTS 107 _) h (FQ [(8, none)] _)
  rw [← hts]
  clear hts
  obtain ⟨R, hR⟩ : ∃ R, R = (fn61).body.dr 3 := ⟨_, rfl⟩
  have hbody : ∃ a b c, (fn61).body = .seq a (.seq b (.seq c R)) ∧ a = (fn61).body.hd ∧ b = (fn61).body.tl.hd ∧ c = (fn61).body.tl.tl.hd := ⟨_, _, _, by rw [hR]; rfl, rfl, rfl, rfl⟩
  obtain ⟨a, b, c', e, rfl, rfl, rfl⟩ := hbody
  rw [e]
  unfold fn61
  simp only [ICode.tl, ICode.hd]
  have l1 := fun {kk : AHeap} (e : Ext h kk) => hd.l1m hnD rfl e
  have hix := hd.ixm (kk := .i64) hnD
  have hlm := fun G => hd.lenm G
  have hdI := dI_get hnD
  have hmk := fun (N0 : Nat) => mksl_ok (es := 1) (w := 1) (N0 := N0) (n := D.length) (z := [AV.bool false]) (k := .i64) (k' := .i64) (by omega) (by omega)
  subst hn
  repeat (first | simp (config := { maxSteps := 1000000 }) only [wset, hset, dset, bset, Nat.reduceAdd, Nat.reduceMul, Nat.reduceLeDiff, Nat.reduceEqDiff, pset, hlen, if_false, if_true, t0, t1, t2, t3, hs, hlm, hmk] | simp (config := { maxSteps := 1000000 }) (disch := first | (simp only [List.length_append, List.length_cons, List.length_nil] <;> omega) | rfl | omega | fail) only [kset, wset, hset, dset, bset, Nat.reduceAdd, Nat.reduceMul, Nat.reduceLeDiff, Nat.reduceEqDiff, pset, hlen, if_false, if_true, t0, t1, t2, t3, hs, hlm, hmk])
  rw [← hB]
  have hz : Fr B.length (B ++ [.cells (zrep D.length [AV.bool false]) true true]) (.slice B.length 0 D.length 1) 1 ((List.replicate D.length false).map boolRow) := by
    rw [List.map_replicate]; exact Fr.zeros (Nat.le_refl _) rfl
  obtain ⟨sI, hsI⟩ : ∃ sI, sI = AV.slice B.length 0 D.length 1 := ⟨_, rfl⟩
  rw [← hsI] at hz ⊢
  have hixz := hz.isSl.ixm (kk := .i64) (i := n) (by simpa using hnD)
  have l1' := fun {kk : AHeap} (e : Ext B kk) => l1 (eB.trans e)
  repeat (first | simp (config := { maxSteps := 1000000 }) only [wset, hset, dset, bset, Nat.reduceAdd, Nat.reduceMul, Nat.reduceLeDiff, Nat.reduceEqDiff, pset, hlen, if_false, if_true, t0, t1, t2, t3, hix, l1', hixz] | simp (config := { maxSteps := 1000000 }) (disch := first | (simp only [List.length_append, List.length_cons, List.length_nil] <;> omega) | rfl | omega | fail) only [kset, wset, hset, dset, bset, Nat.reduceAdd, Nat.reduceMul, Nat.reduceLeDiff, Nat.reduceEqDiff, pset, hlen, if_false, if_true, t0, t1, t2, t3, hix, l1', hixz])
  refine WR.put1 (h0 := B) (L := List.replicate D.length false) (row := boolRow) (x' := decide (D[n] < c)) (i := n) (es := 1) (off := 0) hz (by simpa using hnD) (by decide) rfl (by rw [List.getElem_replicate]; rfl) ?_
  intro g' hg' hf' hkp
  repeat (first | simp (config := { maxSteps := 1000000 }) only [wset, hset, dset, bset, Nat.reduceAdd, Nat.reduceMul, Nat.reduceLeDiff, Nat.reduceEqDiff, pset, hlen, if_false, if_true, t1] | simp (config := { maxSteps := 1000000 }) (disch := first | (simp only [List.length_append, List.length_cons, List.length_nil] <;> omega) | rfl | omega | fail) only [kset, wset, hset, dset, bset, Nat.reduceAdd, Nat.reduceMul, Nat.reduceLeDiff, Nat.reduceEqDiff, pset, hlen, if_false, if_true, t1])
  rw [hR]
  have hI := ArI.begin (m := m) (D := D) (c := c) hnD
  exact area_L T v (hd.ext eB) hD hc lB eB.len eB (by simp only [wset, hset, dset, bset, Nat.reduceAdd, Nat.reduceMul, Nat.reduceLeDiff, Nat.reduceEqDiff, pset, hlen, if_false, if_true, t0]) (by simp only [wset, hset, dset, bset, Nat.reduceAdd, Nat.reduceMul, Nat.reduceLeDiff, Nat.reduceEqDiff, pset, hlen, if_false, if_true, t1]) (by simp only [wset, hset, dset, bset, Nat.reduceAdd, Nat.reduceMul, Nat.reduceLeDiff, Nat.reduceEqDiff, pset, hlen, if_false, if_true, t3]) (by simp only [wset, hset, dset, bset, Nat.reduceAdd, Nat.reduceMul, Nat.reduceLeDiff, Nat.reduceEqDiff, pset, hlen, if_false, if_true, t1]) (by simp only [wset, hset, dset, bset, Nat.reduceAdd, Nat.reduceMul, Nat.reduceLeDiff, Nat.reduceEqDiff, pset, hlen, if_false, if_true, t1]) hf' hI
end
end Go.Abs
namespace Go.Abs

/-- A horizon whose picks lie in a block of their own, from a number on. -/
structure HorFr (N : Nat) (h : AHeap) (H : Hor) (s : AV) : Prop where
  fr : Fr N h s 2 (H.picks.map pkRow)
  len : H.picks.length < 2 ^ 63
  nm : H.name.length < 2 ^ 63
section
variable {P : Program} (T : Tbl P) {h : AHeap}
include T

end
end Go.Abs
namespace Go.Abs

section
variable {P : Program} (T : Tbl P) {h : AHeap}
include T

end
end Go.Abs
namespace Go.Abs

theorem WF.valg {P : Program} {ro : Option Nat → Prop} {ks : List Kt} {ts : TS} {h h' : AHeap} {Q : Ex → TS → AHeap → Prop} {fv : AV} {args : List AV} {d : Option Nat} {l : List IOp} {v : AV} (H : SCallV P fv args h v h') (K : WP P ro l ks (put ts d v) h' Q) : WF P ro false fv args d l ks ts h Q :=
  ⟨v, h', H, fun hq => absurd hq (by simp), K⟩

section
variable {P : Program} (T : Tbl P) {h : AHeap}
include T

end
end Go.Abs
namespace Go.Abs
attribute [local irreducible] WP WC WE WB WR WF WL WG WRg
section
variable {P : Program} (T : Tbl P) {h : AHeap}
include T
theorem iter_vals {b : Nat} {d : AV} {D : List Int} (m : h[b]? = some (.cells [d] true false)) (hd : IsSl h d 1 (D.map intRow)) (hl : D.length < 2 ^ 62) :
    Iter P 202 [] [.ptr b 0] (D.map fun x => [.int .i64 x]) (Ext h) := by
  refine ⟨fun l h1 J Dn hpre happ hstep hend h0 => GCall.of T.mix T.c202 ?_⟩
  have e1 := hpre 0 h1 h0
  unfold fn202
  have hlm := fun G => hd.lenm G
  have l0 : loadF none (.ptr b 0) (fun z => h1[z]?) = some (d, .keep) := by rw [loadF_at (e1.some m)]; rfl
  simp only [wset, hset, dset, bset, Nat.reduceAdd, Nat.reduceMul, Nat.reduceLeDiff, Nat.reduceEqDiff, l0, hlm]
  refine WL.inv T.mix (fun n ts h' => ∃ k : Nat, k ≤ D.length ∧ n = D.length - k ∧ J k h' ∧ ts.length = 16 ∧ slot ts 0 = .func (.yield l) [] [] ∧ slot ts 5 = d ∧ slot ts 6 = .int .i64 D.length ∧ slot ts 7 = .int .i64 k) D.length
    ⟨0, by omega, rfl, h0, rfl, rfl, rfl, rfl, rfl⟩ ?_
  rintro _ ts h' ⟨k, hk, rfl, hJ, hlen, t0, t5, t6, t7⟩
  by_cases hlt : k < D.length
  · have e3 : (k : Int) < D.length := by omega
    have e2 := hpre _ _ hJ
    have l1 := hd.l1m hlt rfl e2
    have hix := hd.ixm (kk := .i64) hlt
    have hwk := wrapN (show k + 1 < 2 ^ 63 by omega)
    repeat (first | simp (config := { maxSteps := 1000000 }) only [wset, hset, dset, bset, Nat.reduceAdd, Nat.reduceMul, Nat.reduceLeDiff, Nat.reduceEqDiff, pset, hlen, if_false, if_true, t0, t5, t6, t7, e3, decide_true, hix, l1] | simp (config := { maxSteps := 1000000 }) (disch := first | (simp only [List.length_append, List.length_cons, List.length_nil] <;> omega) | rfl | omega | fail) only [kset, wset, hset, dset, bset, Nat.reduceAdd, Nat.reduceMul, Nat.reduceLeDiff, Nat.reduceEqDiff, pset, hlen, if_false, if_true, t0, t5, t6, t7, e3, decide_true, hix, l1])
    obtain ⟨bb, k', q1, q2⟩ := hstep k (by rw [List.length_map]; exact hlt) h' hJ
    rw [List.getElem_map] at q1
    refine WF.valg q1 ?_
    cases bb with
    | true =>
      repeat (first | simp (config := { maxSteps := 1000000 }) only [wset, hset, dset, bset, Nat.reduceAdd, Nat.reduceMul, Nat.reduceLeDiff, Nat.reduceEqDiff, pset, hlen, if_false, if_true, t0, t5, t6, t7, Bool.not_true, hwk] | simp (config := { maxSteps := 1000000 }) (disch := first | (simp only [List.length_append, List.length_cons, List.length_nil] <;> omega) | rfl | omega | fail) only [kset, wset, hset, dset, bset, Nat.reduceAdd, Nat.reduceMul, Nat.reduceLeDiff, Nat.reduceEqDiff, pset, hlen, if_false, if_true, t0, t5, t6, t7, Bool.not_true, hwk])
      exact ⟨_, by omega, k + 1, by omega, rfl, q2, rfl⟩
    | false =>
      repeat (first | simp (config := { maxSteps := 1000000 }) only [wset, hset, dset, bset, Nat.reduceAdd, Nat.reduceMul, Nat.reduceLeDiff, Nat.reduceEqDiff, pset, hlen, if_false, if_true, t0, t5, t6, t7, Bool.not_false] | simp (config := { maxSteps := 1000000 }) (disch := first | (simp only [List.length_append, List.length_cons, List.length_nil] <;> omega) | rfl | omega | fail) only [kset, wset, hset, dset, bset, Nat.reduceAdd, Nat.reduceMul, Nat.reduceLeDiff, Nat.reduceEqDiff, pset, hlen, if_false, if_true, t0, t5, t6, t7, Bool.not_false])
      exact q2
  · have e3 : ¬ (k : Int) < D.length := by omega
    have e4 : k = D.length := by omega
    repeat (first | simp (config := { maxSteps := 1000000 }) only [wset, hset, dset, bset, Nat.reduceAdd, Nat.reduceMul, Nat.reduceLeDiff, Nat.reduceEqDiff, pset, hlen, if_false, if_true, t0, t5, t6, t7, e3, decide_false] | simp (config := { maxSteps := 1000000 }) (disch := first | (simp only [List.length_append, List.length_cons, List.length_nil] <;> omega) | rfl | omega | fail) only [kset, wset, hset, dset, bset, Nat.reduceAdd, Nat.reduceMul, Nat.reduceLeDiff, Nat.reduceEqDiff, pset, hlen, if_false, if_true, t0, t5, t6, t7, e3, decide_false])
    refine hend h' ?_
    rw [List.length_map, ← e4]; exact hJ

theorem r172 {d : AV} {D : List Int} (hd : IsSl h d 1 (D.map intRow)) : RCall P 172 [d] h (fun v h' => ∃ b, v = .func (.func 202) [] [.ptr b 0] ∧ h'[b]? = some (.cells [d] true false)) := by
  refine .of T.mix T.c172 ?_
  unfold fn172
  simp only [wset, hset, dset, bset, Nat.reduceAdd, Nat.reduceMul, Nat.reduceLeDiff, Nat.reduceEqDiff, hd.one]
  exact ⟨_, rfl, at_new⟩

theorem r216 {b : Nat} {d : AV} {D : List Int} (m : h[b]? = some (.cells [d] true false)) (hd : IsSl h d 1 (D.map intRow)) (hl : D.length ≤ 2 ^ 40) :
    RCall P 216 [.nilSlice, .func (.func 202) [] [.ptr b 0]] h (fun v h' => Fr h.length h' v 1 (D.map intRow)) := by
  refine .of T.mix T.c216 ?_
  unfold fn216
  simp only [wset, hset, dset, bset, Nat.reduceAdd, Nat.reduceMul, Nat.reduceLeDiff, Nat.reduceEqDiff]
  refine WC.iter T.mix T.c202 (a := []) (c := [.ptr b 0]) rfl (iter_vals T m hd (by omega)) (fun y hy => by obtain ⟨z, _, rfl⟩ := List.mem_map.1 hy; rfl)
    (fun i h' g => ∃ out, h' = h ++ [ABlk.cells [out] true false] ∧ Fr (h'.length + 1) (h' ++ [.dead] ++ g) out 1 ((D.take i).map intRow)) (fun _ _ _ => False)
    ⟨.nilSlice, rfl, .nil⟩ (fun i h' g g' hI => ?_) (fun i h' g X hl hI => ?_) (fun i hi h' g R B hl' hI => ?_) (fun e h' g hl hI => ?_)
  · obtain ⟨out, h1, h2⟩ := hI
    exact ⟨out, h1, by rw [← List.append_assoc]; exact h2.app _⟩
  · obtain ⟨out, rfl, _⟩ := hI
    exact (by repeat first | with_reducible exact Ext.refl _ | refine Ext.app _ ?_)
  · obtain ⟨out, rfl, hfr⟩ := hI
    have hi' : i < D.length := by simpa using hi
    rw [List.getElem_map]
    simp only [wset, hset, dset, bset, Nat.reduceAdd, Nat.reduceMul, Nat.reduceLeDiff, Nat.reduceEqDiff, setArgs]
    refine ⟨_, g, rfl, by simp, ?_⟩
    simp only [wset, hset, dset, bset, Nat.reduceAdd, Nat.reduceMul, Nat.reduceLeDiff, Nat.reduceEqDiff]
    have hN : ∀ (o' : AV) (X : ABlk), (h ++ [ABlk.cells [o'] true false] ++ [X]).length = (h ++ [ABlk.cells [out] true false]).length + 1 := fun o' X => by simp only [List.length_append, List.length_cons, List.length_nil]
    have hfrB := hfr.swap' (hN out .dead) (hN out B)
    refine WR.app1 (h0 := h ++ [ABlk.cells [out] true false] ++ [B]) (cs := (D.take i).map intRow) (ys := [intRow D[i]]) (by rw [hN]; exact hfrB.app _) (Fr.push (N := 0) (Nat.zero_le _) [intRow D[i]] (by simp)).isSl (by decide) (by simp) (by simp; omega) (by repeat first | exact Ext.refl _ | refine Ext.app _ ?_) ?_
    intro g' hl' hff hkp
    have hrow : (D.take i).map intRow ++ [intRow D[i]] = (D.take (i + 1)).map intRow := by
      rw [List.take_add_one, List.getElem?_eq_getElem hi', List.map_append]; rfl
    rw [hrow, hN] at hff
    rw [hrow]
    simp only [wset, hset, dset, bset, Nat.reduceAdd, Nat.reduceMul, Nat.reduceLeDiff, Nat.reduceEqDiff]
    refine ⟨_, g', rfl, by simp only [List.length_append, List.length_cons, List.length_nil], ?_⟩
    rw [if_pos trivial]
    refine ⟨_, rfl, ?_⟩
    have e9 : ∀ o', (h ++ [ABlk.cells [o'] true false]).length = (h ++ [ABlk.cells [out] true false]).length := fun o' => by simp only [List.length_append, List.length_cons, List.length_nil]
    rw [e9]
    exact hff.swap' (hN out B) (hN _ .dead)
  · by_cases hen : e = .normal
    · subst hen
      rw [if_pos rfl] at hI
      obtain ⟨out, rfl, hfr⟩ := hI
      rw [List.length_map, List.take_length] at hfr
      simp only [wset, hset, dset, bset, Nat.reduceAdd, Nat.reduceMul, Nat.reduceLeDiff, Nat.reduceEqDiff]
      exact hfr.low (by simp; omega)
    · rw [if_neg hen] at hI
      exact hI.elim
theorem r201 {b : Nat} {d : AV} {D : List Int} (m : h[b]? = some (.cells [d] true false)) (hd : IsSl h d 1 (D.map intRow)) (hl : D.length ≤ 2 ^ 40) :
    RCall P 201 [.func (.func 202) [] [.ptr b 0]] h (fun v h' => Fr h.length h' v 1 (D.map intRow)) := by
  refine .of T.mix T.c201 ?_
  unfold fn201
  simp only [wset, hset, dset, bset, Nat.reduceAdd, Nat.reduceMul, Nat.reduceLeDiff, Nat.reduceEqDiff]
  refine WF.res T.c216 (r216 T m hd hl) ?_
  intro v g1 hv
  simp only [wset, hset, dset, bset, Nat.reduceAdd, Nat.reduceMul, Nat.reduceLeDiff, Nat.reduceEqDiff]
  exact hv
theorem r171 (S : SrtOk P) {b : Nat} {d : AV} {D : List Int} (m : h[b]? = some (.cells [d] true false)) (hd : IsSl h d 1 (D.map intRow)) (hl : D.length ≤ 2 ^ 40) :
    RCall P 171 [.func (.func 202) [] [.ptr b 0]] h (fun v h' => Fr h.length h' v 1 ((sortI D).map intRow)) := by
  refine .of T.mix T.c171 ?_
  unfold fn171
  simp only [wset, hset, dset, bset, Nat.reduceAdd, Nat.reduceMul, Nat.reduceLeDiff, Nat.reduceEqDiff]
  refine WF.res T.c201 (r201 T m hd hl) ?_
  intro v g1 hv
  simp only [wset, hset, dset, bset, Nat.reduceAdd, Nat.reduceMul, Nat.reduceLeDiff, Nat.reduceEqDiff]
  refine WF.gen T.c182 (gsort S hv (by omega)) ?_
  rintro _ _ ⟨g', hg', rfl, hff, -⟩
  simp only [wset, hset, dset, bset, Nat.reduceAdd, Nat.reduceMul, Nat.reduceLeDiff, Nat.reduceEqDiff]
  exact hff
theorem r173 {s f : AV} {L : List Int} {p : Int → Bool} (hs : IsSl h s 1 (L.map intRow)) (hl : L.length ≤ 2 ^ 40) (hf : ∀ x, x ∈ L → ∀ k, Ext h k → VCall P f [.int .i64 x] k (fun v _ => v = .bool (p x))) :
    RCall P 173 [s, f] h (fun v _ => v = .int .i64 (if L.findIdx p < L.length then (L.findIdx p : Int) else -1)) := by
  refine .of T.mix T.c173 ?_
  unfold fn173
  simp only [wset, hset, dset, bset, Nat.reduceAdd, Nat.reduceMul, Nat.reduceLeDiff, Nat.reduceEqDiff, hs.lenm]
  refine WL.inv T.mix (fun n ts h' => ∃ k : Nat, k ≤ L.length ∧ n = L.length - k ∧ Ext h h' ∧ L.findIdx p = k + (L.drop k).findIdx p ∧ ts.length = 19 ∧ slot ts 0 = s ∧ slot ts 1 = f ∧ slot ts 7 = .int .i64 L.length ∧ slot ts 8 = .int .i64 k) L.length
    ⟨0, by omega, rfl, Ext.refl h, by simp, rfl, rfl, rfl, rfl, rfl⟩ ?_
  rintro _ ts _ ⟨k, hk, rfl, ⟨g, rfl⟩, hi, hlen, t0, t1, t7, t8⟩
  by_cases hlt : k < L.length
  · have e3 : (k : Int) < L.length := by omega
    rw [List.drop_eq_getElem_cons hlt, List.findIdx_cons] at hi
    have hix := hs.ixm (kk := .i64) hlt
    have l1 := fun {kk : AHeap} (e : Ext h kk) => hs.l1m hlt rfl e
    have hwk := wrapN (show k + 1 < 2 ^ 63 by omega)
    repeat (first | simp (config := { maxSteps := 1000000 }) only [wset, hset, dset, bset, Nat.reduceAdd, Nat.reduceMul, Nat.reduceLeDiff, Nat.reduceEqDiff, pset, hlen, if_false, if_true, t0, t1, t7, t8, e3, decide_true, hix, l1] | simp (config := { maxSteps := 1000000 }) (disch := first | (simp only [List.length_append, List.length_cons, List.length_nil] <;> omega) | rfl | omega | fail) only [kset, wset, hset, dset, bset, Nat.reduceAdd, Nat.reduceMul, Nat.reduceLeDiff, Nat.reduceEqDiff, pset, hlen, if_false, if_true, t0, t1, t7, t8, e3, decide_true, hix, l1])
    refine WF.val (hf L[k] (List.getElem_mem hlt) _ (by repeat first | with_reducible exact Ext.refl _ | refine Ext.app _ ?_)) ?_
    rintro _ g1 rfl
    cases hp : p L[k] with
    | true =>
      rw [hp, cond_true, Nat.add_zero] at hi
      repeat (first | simp (config := { maxSteps := 1000000 }) only [wset, hset, dset, bset, Nat.reduceAdd, Nat.reduceMul, Nat.reduceLeDiff, Nat.reduceEqDiff, pset, hlen, if_false, if_true, t0, t1, t7, t8] | simp (config := { maxSteps := 1000000 }) (disch := first | (simp only [List.length_append, List.length_cons, List.length_nil] <;> omega) | rfl | omega | fail) only [kset, wset, hset, dset, bset, Nat.reduceAdd, Nat.reduceMul, Nat.reduceLeDiff, Nat.reduceEqDiff, pset, hlen, if_false, if_true, t0, t1, t7, t8])
      rw [hi, if_pos hlt]
    | false =>
      rw [hp, cond_false] at hi
      repeat (first | simp (config := { maxSteps := 1000000 }) only [wset, hset, dset, bset, Nat.reduceAdd, Nat.reduceMul, Nat.reduceLeDiff, Nat.reduceEqDiff, pset, hlen, if_false, if_true, t0, t1, t7, t8, hwk] | simp (config := { maxSteps := 1000000 }) (disch := first | (simp only [List.length_append, List.length_cons, List.length_nil] <;> omega) | rfl | omega | fail) only [kset, wset, hset, dset, bset, Nat.reduceAdd, Nat.reduceMul, Nat.reduceLeDiff, Nat.reduceEqDiff, pset, hlen, if_false, if_true, t0, t1, t7, t8, hwk])
      exact ⟨_, by omega, k + 1, by omega, rfl, by omega, rfl⟩
  · have e3 : ¬ (k : Int) < L.length := by omega
    rw [List.drop_eq_nil_of_le (by omega), List.findIdx_nil] at hi
    repeat (first | simp (config := { maxSteps := 1000000 }) only [wset, hset, dset, bset, Nat.reduceAdd, Nat.reduceMul, Nat.reduceLeDiff, Nat.reduceEqDiff, pset, hlen, if_false, if_true, t0, t1, t7, t8, e3, decide_false] | simp (config := { maxSteps := 1000000 }) (disch := first | (simp only [List.length_append, List.length_cons, List.length_nil] <;> omega) | rfl | omega | fail) only [kset, wset, hset, dset, bset, Nat.reduceAdd, Nat.reduceMul, Nat.reduceLeDiff, Nat.reduceEqDiff, pset, hlen, if_false, if_true, t0, t1, t7, t8, e3, decide_false])
    rw [hi, if_neg (by omega)]
theorem r175 {s f : AV} {L : List Int} {p : Int → Bool} (hs : IsSl h s 1 (L.map intRow)) (hl : L.length ≤ 2 ^ 40) (hf : ∀ x, x ∈ L → ∀ k, Ext h k → VCall P f [.int .i64 x] k (fun v _ => v = .bool (p x))) :
    RCall P 175 [s, f] h (fun v _ => v = .bool (L.any p)) := by
  refine .of T.mix T.c175 ?_
  unfold fn175
  simp only [wset, hset, dset, bset, Nat.reduceAdd, Nat.reduceMul, Nat.reduceLeDiff, Nat.reduceEqDiff]
  refine WF.res T.c173 (r173 T hs hl hf) ?_
  rintro _ g1 rfl
  simp only [wset, hset, dset, bset, Nat.reduceAdd, Nat.reduceMul, Nat.reduceLeDiff, Nat.reduceEqDiff]
  congr 1
  rw [Bool.eq_iff_iff, decide_eq_true_eq, List.any_eq_true]
  by_cases hi : L.findIdx p < L.length
  · rw [if_pos hi]
    exact ⟨fun _ => ⟨_, List.getElem_mem hi, List.findIdx_getElem⟩, fun _ => by omega⟩
  · rw [if_neg hi]
    refine ⟨fun h => by omega, fun ⟨x, hx, hpx⟩ => absurd (List.findIdx_lt_length_of_exists ⟨x, hx, hpx⟩) hi⟩
end
end Go.Abs
namespace Go.Abs
def Bd (m : Mp) (D : List Int) (cell level : Int) : Prop := ∃ x, Rch m D level cell x ∧ brdS m x = true
structure IsSpl (m : Mp) (D : List Int) (cell v : Int) : Prop where
  mem : v ∈ D
  bd : Bd m D cell v
  le : ∀ d ∈ D, Bd m D cell d → v ≤ d
open Classical in
noncomputable def spillS (m : Mp) (D : List Int) (cell : Int) : Int := if h : ∃ v, IsSpl m D cell v then Classical.choose h else 100000000
theorem IsSpl.eq {m : Mp} {D : List Int} {cell v : Int} (h : IsSpl m D cell v) : spillS m D cell = v := by
  have hx : ∃ v, IsSpl m D cell v := ⟨v, h⟩
  have e : spillS m D cell = Classical.choose hx := by unfold spillS; rw [dif_pos hx]
  have hc := Classical.choose_spec hx
  rw [e]
  have h1 := h.le _ hc.mem hc.bd
  have h2 := hc.le _ h.mem h.bd
  omega
theorem exists_min {Q : Int → Prop} : ∀ {L : List Int}, (∃ d ∈ L, Q d) → ∃ v ∈ L, Q v ∧ ∀ d ∈ L, Q d → v ≤ d
  | [], h => by simp at h
  | x :: l, h => by
    by_cases hl : ∃ d ∈ l, Q d
    · obtain ⟨v, h1, h2, h3⟩ := exists_min hl
      by_cases hx : Q x ∧ x < v
      · exact ⟨x, by simp, hx.1, fun d hd hq => by
          rcases List.mem_cons.1 hd with rfl | hd
          · exact Int.le_refl _
          · have := h3 d hd hq; omega⟩
      · exact ⟨v, List.mem_cons_of_mem _ h1, h2, fun d hd hq => by
          rcases List.mem_cons.1 hd with rfl | hd
          · apply Int.not_lt.1; intro hlt; exact hx ⟨hq, hlt⟩
          · exact h3 d hd hq⟩
    · obtain ⟨d, hd, hq⟩ := h
      rcases List.mem_cons.1 hd with rfl | hd
      · exact ⟨d, by simp, hq, fun d' hd' hq' => by
          rcases List.mem_cons.1 hd' with rfl | hd'
          · exact Int.le_refl _
          · exact absurd ⟨d', hd', hq'⟩ hl⟩
      · exact absurd ⟨d, hd, hq⟩ hl
section
variable {m : Mp} (v : MpV m) {D : List Int} (hD : (D.length : Int) = m.cols * m.rows) {cell : Int} (hc : InM m cell)
include v hD
theorem dI_mem {x : Int} (hx : InM m x) : dI D x ∈ D := by
  obtain ⟨n, rfl⟩ := Int.eq_ofNat_of_zero_le hx.1
  have hn : n < D.length := by have := hx.2; omega
  rw [dI_get hn]; exact List.getElem_mem hn
theorem way_out {lv : Int} (hlv : ∀ d ∈ D, d ≤ lv) : ∀ (n : Nat) (x : Int), x.toNat = n → InM m x → Rch m D lv cell x → ∃ y, Rch m D lv cell y ∧ brdS m y = true := by
  intro n
  induction n with
  | zero =>
    intro x hn hx hr
    have hx0 : x = 0 := by have := hx.1; omega
    refine ⟨x, hr, ?_⟩
    rw [hx0]; unfold brdS; simp
  | succ n ih =>
    intro x hn hx hr
    by_cases h0 : x % m.cols = 0
    · exact ⟨x, hr, by unfold brdS; rw [decide_eq_true h0]; rfl⟩
    · obtain ⟨b1, b2, b3, b4, b5⟩ := cell_bd v hx
      obtain ⟨i1, i2, i3⟩ := cellAt_bd v (c := x % m.cols - 1) (r := x / m.cols) (by omega) (by omega)
      rw [show x / m.cols * m.cols + (x % m.cols - 1) = x - 1 by omega] at i1 i2 i3
      refine ih (x - 1) (by omega) i1 (.step hr ((nbS_iff v hx).2 ⟨i1, ?_⟩) (hlv _ (dI_mem v hD i1)))
      unfold AdjM
      rw [i2, i3, sq1]; omega
include hc
theorem spl_ex : ∃ w, IsSpl m D cell w := by
  have hne : ∃ d ∈ D, True := ⟨dI D cell, dI_mem v hD hc, trivial⟩
  obtain ⟨w, h1, -, h3⟩ := exists_min (Q := fun _ => True) (L := D.map fun x => -x) (by obtain ⟨d, hd, -⟩ := hne; exact ⟨-d, List.mem_map.2 ⟨d, hd, rfl⟩, trivial⟩)
  obtain ⟨u, hu, rfl⟩ := List.mem_map.1 h1
  have hmax : ∀ d ∈ D, d ≤ u := fun d hd => by have := h3 (-d) (List.mem_map.2 ⟨d, hd, rfl⟩) trivial; omega
  obtain ⟨y, hy, hb⟩ := way_out v hD (cell := cell) hmax _ cell rfl hc (.start (hmax _ (dI_mem v hD hc)))
  obtain ⟨w, w1, w2, w3⟩ := exists_min (Q := Bd m D cell) (L := D) ⟨u, hu, y, hy, hb⟩
  exact ⟨w, w1, w2, w3⟩
theorem spl_is : IsSpl m D cell (spillS m D cell) := by
  obtain ⟨w, hw⟩ := spl_ex v hD hc
  rw [hw.eq]; exact hw
theorem bd_any {lv : Int} : (areaS m D lv cell).any (brdS m) = true ↔ Bd m D cell lv := by
  rw [List.any_eq_true]
  unfold Bd
  simp only [areaS_mem v hD hc]
open Classical in
theorem spl_find : ∃ hi : (sortI D).findIdx (fun lv => decide (Bd m D cell lv)) < (sortI D).length, (sortI D)[(sortI D).findIdx (fun lv => decide (Bd m D cell lv))] = spillS m D cell := by
  have hs := spl_is v hD hc
  have hi := List.findIdx_lt_length_of_exists (xs := sortI D) (p := fun lv => decide (Bd m D cell lv)) ⟨_, (sortI_perm D).mem_iff.2 hs.mem, decide_eq_true hs.bd⟩
  refine ⟨hi, (IsSpl.eq ⟨(sortI_perm D).mem_iff.1 (List.getElem_mem hi), of_decide_eq_true (List.findIdx_getElem (p := fun lv => decide (Bd m D cell lv)) (w := hi)), fun d hd hb => ?_⟩).symm⟩
  obtain ⟨j, hj, rfl⟩ := List.mem_iff_getElem.1 ((sortI_perm D).mem_iff.2 hd)
  by_cases hlt : j < (sortI D).findIdx (fun lv => decide (Bd m D cell lv))
  · have := List.not_of_lt_findIdx hlt
    rw [decide_eq_true hb] at this
    simp at this
  · rcases Nat.lt_or_eq_of_le (Nat.le_of_not_lt hlt) with h | h
    · exact List.pairwise_iff_getElem.1 (sortI_sorted D) _ _ hi hj h
    · exact Int.le_of_eq (by simp only [h])
end
/-- The volume over a list of cells. -/
def volL (D : List Int) (c : Int) (L : List Int) : Int := (L.map fun k => c - dI D k).sum
theorem volL_s {D : List Int} {c : Int} {L : List Int} {k : Nat} (hk : k < L.length) : volL D c (L.take (k + 1)) = volL D c (L.take k) + (c - dI D L[k]) := by
  rw [volL, List.take_add_one, List.getElem?_eq_getElem hk, List.map_append, List.sum_append]
  simp [volL]
theorem volL_bd {D : List Int} {c : Int} {L : List Int} (h : ∀ k ∈ L, -100000000 ≤ c - dI D k ∧ c - dI D k ≤ 100000000) : -100000000 * (L.length : Int) ≤ volL D c L ∧ volL D c L ≤ 100000000 * L.length := by
  induction L with
  | nil => simp [volL]
  | cons x l ih =>
    have h1 := ih fun k hk => h k (List.mem_cons_of_mem _ hk)
    have h2 := h x (by simp)
    simp only [volL, List.map_cons, List.sum_cons, List.length_cons] at h1 ⊢
    omega
end Go.Abs
namespace Go.Abs
section
variable {m : Mp} (v : MpV m) {D E : List Int} {cell : Int} (hc : InM m cell)
include v hc
open Classical in
end
section
variable {m m' : Mp} (ec : m'.cols = m.cols) (er : m'.rows = m.rows) {D : List Int} {a cell : Int}
include ec er
end
def lowsS (m : Mp) : List Int := m.deps.map (·.1)
def highsS (m : Mp) : List Int := m.deps.map (·.2)
theorem lowsS_ok {m : Mp} (v : MpV m) : ((lowsS m).length : Int) = m.cols * m.rows ∧ ∀ x ∈ lowsS m, 0 ≤ x ∧ x ≤ 100000000 := by
  refine ⟨by rw [lowsS, List.length_map]; exact v.l, fun x hx => ?_⟩
  obtain ⟨y, hy, rfl⟩ := List.mem_map.1 hx
  have := v.d y hy; exact ⟨this.1, this.2.1⟩
theorem highsS_ok {m : Mp} (v : MpV m) : ((highsS m).length : Int) = m.cols * m.rows ∧ ∀ x ∈ highsS m, 0 ≤ x ∧ x ≤ 100000000 := by
  refine ⟨by rw [highsS, List.length_map]; exact v.l, fun x hx => ?_⟩
  obtain ⟨y, hy, rfl⟩ := List.mem_map.1 hx
  have := v.d y hy; exact ⟨this.2.2.1, this.2.2.2.1⟩
end Go.Abs
namespace Go.Abs
theorem area_len {m : Mp} {D : List Int} {lv cell : Int} : (areaS m D lv cell).length ≤ D.length := by
  unfold areaS
  exact Nat.le_trans (List.length_filter_le _ _) (by simp [rangeI])
theorem mp_len {m : Mp} (v : MpV m) {n : Nat} (h : (n : Int) = m.cols * m.rows) : n ≤ 256 := by
  have := mul_bd (a := m.cols) (b := m.rows) (A := 16) (B := 16) (by have := v.c; omega) (by have := v.r; omega)
  omega
attribute [local irreducible] WP WC WE WB WR WF WL WG WRg
section
variable {P : Program} (T : Tbl P) (S : SrtOk P) {h : AHeap}
include T S
open Classical in
set_option maxRecDepth 10000 in
set_option maxHeartbeats 1000000 in
theorem r174 {m : Mp} {s d : AV} {D : List Int} {b3 b4 b5 : Nat} (hs : s.one = true) (gl : Glb h) (v : MpV m) (hd : IsSl h d 1 (D.map intRow)) (hD : (D.length : Int) = m.cols * m.rows) {cell lv : Int} (hc : InM m cell)
    (m3 : h[b3]? = some (.cells [.int .i64 m.cols, .int .i64 m.rows, s] true false)) (m4 : h[b4]? = some (.cells [d] true false)) (m5 : h[b5]? = some (.cells [.int .i64 cell] true false)) :
    RCall P 174 [.int .i64 lv, .ptr b3 0, .ptr b4 0, .ptr b5 0] h (fun w _ => w = .bool (decide (Bd m D cell lv))) := by
  have hDl := mp_len v hD
  refine .of T.mix T.c174 ?_
  unfold fn174
  have l3 : ∀ {kk : AHeap}, Ext h kk → loadF (some 3) (.ptr b3 0) (fun b => kk[b]?) = some (mapA m s, .keep) := fun e => by rw [loadF_at (e.some m3)]; rfl
  have l4 : ∀ {kk : AHeap}, Ext h kk → loadF none (.ptr b4 0) (fun b => kk[b]?) = some (d, .keep) := fun e => by rw [loadF_at (e.some m4)]; rfl
  have l5 : ∀ {kk : AHeap}, Ext h kk → loadF none (.ptr b5 0) (fun b => kk[b]?) = some (.int .i64 cell, .keep) := fun e => by rw [loadF_at (e.some m5)]; rfl
  simp only [wset, hset, dset, bset, Nat.reduceAdd, Nat.reduceMul, Nat.reduceLeDiff, Nat.reduceEqDiff, l3 (Ext.refl h), l4 (Ext.refl h), l5 (Ext.refl h)]
  refine WF.res T.c132 (r132 T S hs gl v hd hD hc) ?_
  intro w g1 hw
  simp only [wset, hset, dset, bset, Nat.reduceAdd, Nat.reduceMul, Nat.reduceLeDiff, Nat.reduceEqDiff, l3 (kk := h ++ g1) (by repeat first | with_reducible exact Ext.refl _ | refine Ext.app _ ?_)]
  have hal : (areaS m D lv cell).length ≤ 256 := Nat.le_trans area_len hDl
  refine WF.res T.c175 (r175 T (p := brdS m) hw.isSl (by omega) (fun x hx k e => VCall.of (a := [mapA m s]) (c := []) T.c176 ?_)) ?_
  · have hx' := ((areaS_mem v hD hc).1 hx).inM v hc
    refine (r176 T hs ((gl.ext (by repeat first | with_reducible exact Ext.refl _ | refine Ext.app _ ?_)).ext e) v hx').mono ?_
    rintro _ g2 rfl
    rw [brd_nb v hx']
  rintro _ g2 rfl
  simp only [wset, hset, dset, bset, Nat.reduceAdd, Nat.reduceMul, Nat.reduceLeDiff, Nat.reduceEqDiff]
  congr 1
  rw [Bool.eq_iff_iff, decide_eq_true_eq]
  exact bd_any v hD hc

open Classical in
set_option maxRecDepth 10000 in
set_option maxHeartbeats 1000000 in
theorem r128 {m : Mp} {s d : AV} {D : List Int} (hs : s.one = true) (gl : Glb h) (v : MpV m) (hd : IsSl h d 1 (D.map intRow)) (hD : (D.length : Int) = m.cols * m.rows) {cell : Int} (hc : InM m cell) :
    RCall P 128 [mapA m s, d, .int .i64 cell] h (fun w _ => w = .int .i64 (spillS m D cell)) := by
  have hDl := mp_len v hD
  refine .of T.mix T.c128 ?_
  unfold fn128
  simp only [wset, hset, dset, bset, Nat.reduceAdd, Nat.reduceMul, Nat.reduceLeDiff, Nat.reduceEqDiff, hs, hd.one]
  obtain ⟨B, hB⟩ : ∃ B, B = h ++ [ABlk.cells [AV.int IntKind.i64 m.cols, AV.int IntKind.i64 m.rows, s] true false] ++ [ABlk.cells [d] true false] ++ [ABlk.cells [AV.int IntKind.i64 cell] true false] := ⟨_, rfl⟩
  have eB : Ext h B := by rw [hB]; exact (by repeat first | with_reducible exact Ext.refl _ | refine Ext.app _ ?_)
  have n1 : (h ++ [ABlk.cells [AV.int IntKind.i64 m.cols, AV.int IntKind.i64 m.rows, s] true false]).length = h.length + 1 := by simp
  have n2 : (h ++ [ABlk.cells [AV.int IntKind.i64 m.cols, AV.int IntKind.i64 m.rows, s] true false] ++ [ABlk.cells [d] true false]).length = h.length + 2 := by simp
  have m3 : B[h.length]? = some (.cells [.int .i64 m.cols, .int .i64 m.rows, s] true false) := by rw [hB]; simp
  have m4 : B[h.length + 1]? = some (.cells [d] true false) := by rw [hB]; simp
  have m5 : B[h.length + 2]? = some (.cells [.int .i64 cell] true false) := by rw [hB]; simp
  rw [n1, n2, ← hB]
  clear hB n1 n2
  refine WF.res T.c172 (r172 T (hd.ext eB)) ?_
  rintro _ g1 ⟨b, rfl, mb⟩
  simp only [wset, hset, dset, bset, Nat.reduceAdd, Nat.reduceMul, Nat.reduceLeDiff, Nat.reduceEqDiff]
  refine WF.res T.c171 (r171 T S mb (hd.ext (eB.trans (by repeat first | with_reducible exact Ext.refl _ | refine Ext.app _ ?_))) (by omega)) ?_
  intro sl g2 hsl
  have hsl' := hsl.isSl
  have hsn : (sortI D).length = D.length := sortI_len D
  simp only [wset, hset, dset, bset, Nat.reduceAdd, Nat.reduceMul, Nat.reduceLeDiff, Nat.reduceEqDiff]
  refine WF.res T.c173 (r173 T (p := fun lv => decide (Bd m D cell lv)) hsl' (by omega) (fun x hx k e => VCall.of (a := []) (c := [.ptr h.length 0, .ptr (h.length + 1) 0, .ptr (h.length + 2) 0]) T.c174 ?_)) ?_
  · have ek : Ext B k := Ext.trans (by repeat first | with_reducible exact Ext.refl _ | refine Ext.app _ ?_) e
    exact r174 T S hs (gl.ext (eB.trans ek)) v (hd.ext (eB.trans ek)) hD hc (ek.some m3) (ek.some m4) (ek.some m5)
  rintro _ g3 rfl
  obtain ⟨hi, hsp⟩ := spl_find v hD hc
  rw [if_pos hi]
  have hix := hsl'.ixm (kk := .i64) hi
  have l1 := fun {kk : AHeap} (e : Ext (B ++ g1 ++ g2) kk) => hsl'.l1m hi rfl e
  rw [hsp] at l1
  simp only [wset, hset, dset, bset, Nat.reduceAdd, Nat.reduceMul, Nat.reduceLeDiff, Nat.reduceEqDiff, hix, l1 (kk := B ++ g1 ++ g2 ++ g3) (by repeat first | with_reducible exact Ext.refl _ | refine Ext.app _ ?_)]
  exact ⟨eB.trans (by repeat first | with_reducible exact Ext.refl _ | refine Ext.app _ ?_), trivial⟩

set_option maxRecDepth 10000 in
set_option maxHeartbeats 1000000 in
theorem r133 {m : Mp} {s d : AV} {D : List Int} (hs : s.one = true) (gl : Glb h) (v : MpV m) (hd : IsSl h d 1 (D.map intRow)) (hD : (D.length : Int) = m.cols * m.rows) (hDb : ∀ x ∈ D, 0 ≤ x ∧ x ≤ 100000000) {cell c : Int} (hc : InM m cell) (hcb : 0 ≤ c ∧ c ≤ 100000000) :
    RCall P 133 [mapA m s, d, .int .i64 cell, .int .i64 c] h (fun w _ => w = .int .i64 (volL D c (areaS m D (c - 1) cell))) := by
  have hDl := mp_len v hD
  have hal : (areaS m D (c - 1) cell).length ≤ 256 := Nat.le_trans area_len hDl
  refine .of T.mix T.c133 ?_
  unfold fn133
  have w1 : IntKind.i64.wrap (c - 1) = c - 1 := wrap_in (by omega) (by omega)
  simp only [wset, hset, dset, bset, Nat.reduceAdd, Nat.reduceMul, Nat.reduceLeDiff, Nat.reduceEqDiff, hs, w1]
  refine WF.res T.c132 (r132 T S hs (gl.ext (by repeat first | with_reducible exact Ext.refl _ | refine Ext.app _ ?_)) v (hd.ext (by repeat first | with_reducible exact Ext.refl _ | refine Ext.app _ ?_)) hD hc) ?_
  intro w g1 hw
  have hw' := hw.isSl
  simp only [wset, hset, dset, bset, Nat.reduceAdd, Nat.reduceMul, Nat.reduceLeDiff, Nat.reduceEqDiff, hw'.lenm]
  obtain ⟨L, hL⟩ : ∃ L, L = areaS m D (c - 1) cell := ⟨_, rfl⟩
  have hLm : ∀ k ∈ L, InM m k := fun k hk => ((areaS_mem v hD hc).1 (hL ▸ hk)).inM v hc
  have hLb : ∀ k ∈ L, -100000000 ≤ c - dI D k ∧ c - dI D k ≤ 100000000 := fun k hk => by have := hDb _ (dI_mem v hD (hLm k hk)); omega
  rw [← hL] at hw' hal ⊢
  clear hL hw
  obtain ⟨B, hB⟩ : ∃ B, B = h ++ [ABlk.cells [AV.int IntKind.i64 m.cols, AV.int IntKind.i64 m.rows, s] true false] ++ g1 := ⟨_, rfl⟩
  rw [← hB] at hw' ⊢
  have eB : Ext h B := by rw [hB]; exact (by repeat first | with_reducible exact Ext.refl _ | refine Ext.app _ ?_)
  clear hB
  refine WL.inv T.mix (fun n ts h' => ∃ k : Nat, k ≤ L.length ∧ n = L.length - k ∧ h' = B ∧ ts.length = 33 ∧ slot ts 1 = d ∧ slot ts 3 = .int .i64 c ∧ slot ts 9 = .int .i64 (volL D c (L.take k)) ∧ slot ts 17 = w ∧ slot ts 18 = .int .i64 L.length ∧ slot ts 19 = .int .i64 k) L.length
    ⟨0, by omega, rfl, rfl, rfl, rfl, rfl, rfl, rfl, rfl, rfl⟩ ?_
  rintro _ ts _ ⟨k, hk, rfl, rfl, hlen, t1, t3, t9, t17, t18, t19⟩
  by_cases hlt : k < L.length
  · have e3 : (k : Int) < L.length := by omega
    have hx := hLm _ (List.getElem_mem hlt)
    obtain ⟨x, hxe⟩ : ∃ x, x = L[k] := ⟨_, rfl⟩
    have hv := volL_s (D := D) (c := c) hlt
    have hb0 := volL_bd (D := D) (c := c) (L := L.take k) fun y hy => hLb y (List.mem_of_mem_take hy)
    have hb1 := hLb _ (List.getElem_mem hlt)
    have hkl : (L.take k).length = k := by rw [List.length_take]; omega
    rw [hkl] at hb0
    have hix := hw'.ixm (kk := .i64) hlt
    have l1 := fun {kk : AHeap} (e : Ext _ kk) => hw'.l1m hlt rfl e
    rw [← hxe] at hx hv hb1 l1
    obtain ⟨n, rfl⟩ := Int.eq_ofNat_of_zero_le hx.1
    have hnD : n < D.length := by have := hx.2; omega
    have hix2 := hd.ixm (kk := .i64) hnD
    have l2 := fun {kk : AHeap} (e : Ext _ kk) => hd.l1m hnD rfl (eB.trans e)
    rw [dI_get hnD] at hv hb1
    have w2 : IntKind.i64.wrap (c - D[n]) = c - D[n] := wrap_in (by omega) (by omega)
    have w3 : IntKind.i64.wrap (volL D c (L.take k) + (c - D[n])) = volL D c (L.take (k + 1)) := by rw [hv]; exact wrap_in (by omega) (by omega)
    have hwk := wrapN (show k + 1 < 2 ^ 63 by omega)
    repeat (first | simp (config := { maxSteps := 1000000 }) only [wset, hset, dset, bset, Nat.reduceAdd, Nat.reduceMul, Nat.reduceLeDiff, Nat.reduceEqDiff, pset, hlen, if_false, if_true, t1, t3, t9, t17, t18, t19, e3, decide_true, hix, l1, hix2, l2, w2, w3, hwk] | simp (config := { maxSteps := 1000000 }) (disch := first | (simp only [List.length_append, List.length_cons, List.length_nil] <;> omega) | rfl | omega | fail) only [kset, wset, hset, dset, bset, Nat.reduceAdd, Nat.reduceMul, Nat.reduceLeDiff, Nat.reduceEqDiff, pset, hlen, if_false, if_true, t1, t3, t9, t17, t18, t19, e3, decide_true, hix, l1, hix2, l2, w2, w3, hwk])
    refine ⟨_, by omega, k + 1, by omega, rfl, ?_⟩
    repeat (first | rfl | refine ⟨rfl, ?_⟩)
  · have e3 : ¬ (k : Int) < L.length := by omega
    have e4 : k = L.length := by omega
    rw [e4, List.take_length] at t9
    repeat (first | simp (config := { maxSteps := 1000000 }) only [wset, hset, dset, bset, Nat.reduceAdd, Nat.reduceMul, Nat.reduceLeDiff, Nat.reduceEqDiff, pset, hlen, if_false, if_true, t1, t3, t9, t17, t18, t19, e3, decide_false] | simp (config := { maxSteps := 1000000 }) (disch := first | (simp only [List.length_append, List.length_cons, List.length_nil] <;> omega) | rfl | omega | fail) only [kset, wset, hset, dset, bset, Nat.reduceAdd, Nat.reduceMul, Nat.reduceLeDiff, Nat.reduceEqDiff, pset, hlen, if_false, if_true, t1, t3, t9, t17, t18, t19, e3, decide_false])
    first | exact eB | exact ⟨eB, rfl⟩ | rfl | exact ⟨eB, trivial⟩
end

noncomputable def splR (m : Mp) (cell : Int) : Int × Int := if chkCellS m cell = 0 then (spillS m (lowsS m) cell, spillS m (highsS m) cell) else (0, 0)
noncomputable def regR (m : Mp) (cell c : Int) : List Int × List Int := if chkContS m cell c = 0 then (areaS m (highsS m) (c - 1) cell, areaS m (lowsS m) (c - 1) cell) else ([], [])
noncomputable def volR (m : Mp) (cell c : Int) : Int × Int := if chkContS m cell c = 0 then (volL (highsS m) c (areaS m (highsS m) (c - 1) cell), volL (lowsS m) c (areaS m (lowsS m) (c - 1) cell)) else (0, 0)
section
variable {P : Program} (T : Tbl P) (S : SrtOk P) {h : AHeap}
include T S
set_option maxRecDepth 10000 in
set_option maxHeartbeats 1000000 in
theorem r54 {m : Mp} {s : AV} (gl : Glb h) (hs : IsSl h s 2 (m.deps.map ratRow)) (hl : m.deps.length ≤ 2 ^ 40) (cell : Int) : RCall P 54 [mapA m s, .int .i64 cell] h (fun w _ => w = .tup [ratA (splR m cell), .int .i64 (chkCellS m cell)]) := by
  refine .of T.mix T.c54 ?_
  unfold fn54
  simp only [wset, hset, dset, bset, Nat.reduceAdd, Nat.reduceMul, Nat.reduceLeDiff, Nat.reduceEqDiff, hs.one]
  refine WF.res T.c127 (r127 T (hs.ext (by repeat first | with_reducible exact Ext.refl _ | refine Ext.app _ ?_)) hl cell) ?_
  rintro _ g1 rfl
  by_cases h0 : chkCellS m cell = 0
  case neg =>
    simp only [wset, hset, dset, bset, Nat.reduceAdd, Nat.reduceMul, Nat.reduceLeDiff, Nat.reduceEqDiff, show decide (chkCellS m cell ≠ 0) = true from decide_eq_true h0]
    rw [splR, if_neg h0]
  obtain ⟨v, hc⟩ := chkCell_zero.1 h0
  simp only [wset, hset, dset, bset, Nat.reduceAdd, Nat.reduceMul, Nat.reduceLeDiff, Nat.reduceEqDiff, show decide (chkCellS m cell ≠ 0) = false from decide_eq_false (fun hne => hne h0), hs.one]
  refine WF.res T.c129 (r129 T (hs.ext (by repeat first | with_reducible exact Ext.refl _ | refine Ext.app _ ?_)) hl) ?_
  intro d1 g2 hd1
  simp only [wset, hset, dset, bset, Nat.reduceAdd, Nat.reduceMul, Nat.reduceLeDiff, Nat.reduceEqDiff, hs.one]
  refine WF.res T.c128 (r128 T S hs.one (gl.ext (by repeat first | with_reducible exact Ext.refl _ | refine Ext.app _ ?_)) v hd1.isSl (lowsS_ok v).1 hc) ?_
  rintro _ g3 rfl
  simp only [wset, hset, dset, bset, Nat.reduceAdd, Nat.reduceMul, Nat.reduceLeDiff, Nat.reduceEqDiff, hs.one]
  refine WF.res T.c130 (r130 T (hs.ext (by repeat first | with_reducible exact Ext.refl _ | refine Ext.app _ ?_)) hl) ?_
  intro d2 g4 hd2
  simp only [wset, hset, dset, bset, Nat.reduceAdd, Nat.reduceMul, Nat.reduceLeDiff, Nat.reduceEqDiff, hs.one]
  refine WF.res T.c128 (r128 T S hs.one (gl.ext (by repeat first | with_reducible exact Ext.refl _ | refine Ext.app _ ?_)) v hd2.isSl (highsS_ok v).1 hc) ?_
  rintro _ g5 rfl
  simp only [wset, hset, dset, bset, Nat.reduceAdd, Nat.reduceMul, Nat.reduceLeDiff, Nat.reduceEqDiff]
  rw [splR, if_pos h0, h0]; rfl
set_option maxRecDepth 10000 in
set_option maxHeartbeats 1000000 in
theorem r56 {m : Mp} {s : AV} (gl : Glb h) (hs : IsSl h s 2 (m.deps.map ratRow)) (hl : m.deps.length ≤ 2 ^ 40) (cell c : Int) : RCall P 56 [mapA m s, .int .i64 cell, .int .i64 c] h (fun w h' => ∃ x y, w = .tup [x, y, .int .i64 (chkContS m cell c)] ∧ IsSl h' x 1 ((regR m cell c).1.map intRow) ∧ IsSl h' y 1 ((regR m cell c).2.map intRow)) := by
  refine .of T.mix T.c56 ?_
  unfold fn56
  simp only [wset, hset, dset, bset, Nat.reduceAdd, Nat.reduceMul, Nat.reduceLeDiff, Nat.reduceEqDiff, hs.one]
  refine WF.res T.c131 (r131 T (hs.ext (by repeat first | with_reducible exact Ext.refl _ | refine Ext.app _ ?_)) hl cell c) ?_
  rintro _ g1 rfl
  by_cases h0 : chkContS m cell c = 0
  case neg =>
    simp only [wset, hset, dset, bset, Nat.reduceAdd, Nat.reduceMul, Nat.reduceLeDiff, Nat.reduceEqDiff, show decide (chkContS m cell c ≠ 0) = true from decide_eq_true h0]
    rw [regR, if_neg h0]
    exact ⟨_, _, rfl, .nil, .nil⟩
  obtain ⟨⟨v, hc⟩, hcb⟩ := chkCont_zero.1 h0
  have w1 : IntKind.i64.wrap (c - 1) = c - 1 := wrap_in (by omega) (by omega)
  simp only [wset, hset, dset, bset, Nat.reduceAdd, Nat.reduceMul, Nat.reduceLeDiff, Nat.reduceEqDiff, show decide (chkContS m cell c ≠ 0) = false from decide_eq_false (fun hne => hne h0), hs.one]
  refine WF.res T.c130 (r130 T (hs.ext (by repeat first | with_reducible exact Ext.refl _ | refine Ext.app _ ?_)) hl) ?_
  intro d1 g2 hd1
  simp only [wset, hset, dset, bset, Nat.reduceAdd, Nat.reduceMul, Nat.reduceLeDiff, Nat.reduceEqDiff, hs.one, w1]
  refine WF.res T.c132 (r132 T S hs.one (gl.ext (by repeat first | with_reducible exact Ext.refl _ | refine Ext.app _ ?_)) v hd1.isSl (highsS_ok v).1 hc) ?_
  intro x g3 hx
  simp only [wset, hset, dset, bset, Nat.reduceAdd, Nat.reduceMul, Nat.reduceLeDiff, Nat.reduceEqDiff, hs.one]
  refine WF.res T.c129 (r129 T (hs.ext (by repeat first | with_reducible exact Ext.refl _ | refine Ext.app _ ?_)) hl) ?_
  intro d2 g4 hd2
  simp only [wset, hset, dset, bset, Nat.reduceAdd, Nat.reduceMul, Nat.reduceLeDiff, Nat.reduceEqDiff, hs.one, w1]
  refine WF.res T.c132 (r132 T S hs.one (gl.ext (by repeat first | with_reducible exact Ext.refl _ | refine Ext.app _ ?_)) v hd2.isSl (lowsS_ok v).1 hc) ?_
  intro y g5 hy
  simp only [wset, hset, dset, bset, Nat.reduceAdd, Nat.reduceMul, Nat.reduceLeDiff, Nat.reduceEqDiff]
  rw [regR, if_pos h0, h0]
  exact ⟨_, _, rfl, hx.isSl.ext (by repeat first | with_reducible exact Ext.refl _ | refine Ext.app _ ?_), hy.isSl⟩
set_option maxRecDepth 10000 in
set_option maxHeartbeats 1000000 in
theorem r57 {m : Mp} {s : AV} (gl : Glb h) (hs : IsSl h s 2 (m.deps.map ratRow)) (hl : m.deps.length ≤ 2 ^ 40) (cell c : Int) : RCall P 57 [mapA m s, .int .i64 cell, .int .i64 c] h (fun w _ => w = .tup [ratA (volR m cell c), .int .i64 (chkContS m cell c)]) := by
  refine .of T.mix T.c57 ?_
  unfold fn57
  simp only [wset, hset, dset, bset, Nat.reduceAdd, Nat.reduceMul, Nat.reduceLeDiff, Nat.reduceEqDiff, hs.one]
  refine WF.res T.c131 (r131 T (hs.ext (by repeat first | with_reducible exact Ext.refl _ | refine Ext.app _ ?_)) hl cell c) ?_
  rintro _ g1 rfl
  by_cases h0 : chkContS m cell c = 0
  case neg =>
    simp only [wset, hset, dset, bset, Nat.reduceAdd, Nat.reduceMul, Nat.reduceLeDiff, Nat.reduceEqDiff, show decide (chkContS m cell c ≠ 0) = true from decide_eq_true h0]
    rw [volR, if_neg h0]
  obtain ⟨⟨v, hc⟩, hcb⟩ := chkCont_zero.1 h0
  simp only [wset, hset, dset, bset, Nat.reduceAdd, Nat.reduceMul, Nat.reduceLeDiff, Nat.reduceEqDiff, show decide (chkContS m cell c ≠ 0) = false from decide_eq_false (fun hne => hne h0), hs.one]
  refine WF.res T.c130 (r130 T (hs.ext (by repeat first | with_reducible exact Ext.refl _ | refine Ext.app _ ?_)) hl) ?_
  intro d1 g2 hd1
  simp only [wset, hset, dset, bset, Nat.reduceAdd, Nat.reduceMul, Nat.reduceLeDiff, Nat.reduceEqDiff, hs.one]
  refine WF.res T.c133 (r133 T S hs.one (gl.ext (by repeat first | with_reducible exact Ext.refl _ | refine Ext.app _ ?_)) v hd1.isSl (highsS_ok v).1 (highsS_ok v).2 hc hcb) ?_
  rintro _ g3 rfl
  simp only [wset, hset, dset, bset, Nat.reduceAdd, Nat.reduceMul, Nat.reduceLeDiff, Nat.reduceEqDiff, hs.one]
  refine WF.res T.c129 (r129 T (hs.ext (by repeat first | with_reducible exact Ext.refl _ | refine Ext.app _ ?_)) hl) ?_
  intro d2 g4 hd2
  simp only [wset, hset, dset, bset, Nat.reduceAdd, Nat.reduceMul, Nat.reduceLeDiff, Nat.reduceEqDiff, hs.one]
  refine WF.res T.c133 (r133 T S hs.one (gl.ext (by repeat first | with_reducible exact Ext.refl _ | refine Ext.app _ ?_)) v hd2.isSl (lowsS_ok v).1 (lowsS_ok v).2 hc hcb) ?_
  rintro _ g5 rfl
  simp only [wset, hset, dset, bset, Nat.reduceAdd, Nat.reduceMul, Nat.reduceLeDiff, Nat.reduceEqDiff]
  rw [volR, if_pos h0, h0]; rfl
end
end Go.Abs
namespace Go.Abs
/-- What the reference's spill knows after i depths. -/
structure SpI (m : Mp) (D : List Int) (cell : Int) (i : Nat) (best : Int) : Prop where
  hi : best ≤ 100000000
  mem : best = 100000000 ∨ (best ∈ D ∧ Bd m D cell best)
  le : ∀ k (_ : k < i) (hk : k < D.length), Bd m D cell D[k] → best ≤ D[k]
theorem SpI.begin {m : Mp} {D : List Int} {cell : Int} : SpI m D cell 0 100000000 := ⟨Int.le_refl _, .inl rfl, fun k hk => absurd hk (by omega)⟩
theorem SpI.skip {m : Mp} {D : List Int} {cell best : Int} {i : Nat} (s : SpI m D cell i best) (hn : ∀ hi : i < D.length, ¬ Bd m D cell D[i]) : SpI m D cell (i + 1) best :=
  ⟨s.hi, s.mem, fun k hk hk2 hb => by
    by_cases e : k = i
    · subst e; exact absurd hb (hn hk2)
    · exact s.le k (by omega) hk2 hb⟩
theorem SpI.take {m : Mp} {D : List Int} {cell best : Int} {i : Nat} (s : SpI m D cell i best) (hi : i < D.length) (hb : Bd m D cell D[i]) : SpI m D cell (i + 1) (min best D[i]) := by
  refine ⟨by have := s.hi; omega, ?_, fun k hk hk2 hbk => ?_⟩
  · by_cases e : best ≤ D[i]
    · rw [Int.min_eq_left e]; exact s.mem
    · rw [Int.min_eq_right (by omega)]; exact .inr ⟨List.getElem_mem hi, hb⟩
  · by_cases e : k = i
    · subst e; omega
    · have := s.le k (by omega) hk2 hbk; omega
theorem SpI.fin {m : Mp} {D : List Int} {cell best : Int} (v : MpV m) (hD : (D.length : Int) = m.cols * m.rows) (hDb : ∀ x ∈ D, x ≤ 100000000) (hc : InM m cell) (s : SpI m D cell D.length best) : best = spillS m D cell := by
  have h := spl_is v hD hc
  obtain ⟨k, hk, e⟩ := List.mem_iff_getElem.1 h.mem
  have h1 := s.le k hk hk (by rw [e]; exact h.bd)
  rw [e] at h1
  rcases s.mem with h2 | ⟨h2, h3⟩
  · have := hDb _ h.mem; omega
  · have := h.le _ h2 h3; omega

attribute [local irreducible] WP WC WE WB WR WF WL WG WRg
section
variable {P : Program} (T : Tbl P) {h : AHeap}
include T
set_option maxRecDepth 10000 in
set_option maxHeartbeats 1000000 in
theorem r134 {m : Mp} {s d : AV} {D : List Int} (hs : s.one = true) (v : MpV m) (hd : IsSl h d 1 (D.map intRow)) (hD : (D.length : Int) = m.cols * m.rows) (hDb : ∀ x ∈ D, 0 ≤ x ∧ x ≤ 100000000) {cell : Int} (hc : InM m cell) :
    RCall P 134 [mapA m s, d, .int .i64 cell] h (fun w _ => w = .int .i64 (spillS m D cell)) := by
  have hDl := mp_len v hD
  refine .of T.mix T.c134 ?_
  unfold fn134
  simp only [wset, hset, dset, bset, Nat.reduceAdd, Nat.reduceMul, Nat.reduceLeDiff, Nat.reduceEqDiff, hs]
  obtain ⟨B, hB⟩ : ∃ B, B = h ++ [ABlk.cells [AV.int IntKind.i64 m.cols, AV.int IntKind.i64 m.rows, s] true false] := ⟨_, rfl⟩
  have eB : Ext h B := by rw [hB]; exact (by repeat first | with_reducible exact Ext.refl _ | refine Ext.app _ ?_)
  have m3 : B[h.length]? = some (.cells [.int .i64 m.cols, .int .i64 m.rows, s] true false) := by rw [hB]; simp
  have lB : ∀ {n : Option Nat} {o : Nat} {kk : AHeap}, Ext B kk → loadF n (.ptr h.length o) (fun b => kk[b]?) = ldB n o (.cells [AV.int IntKind.i64 m.cols, AV.int IntKind.i64 m.rows, s] true false) := fun e => loadF_at (e.some m3)
  rw [← hB]
  clear hB
  have hlm := fun G => hd.lenm G
  refine WL.inv T.mix (fun n ts h' => ∃ (i : Nat) (best : Int), i ≤ D.length ∧ n = D.length - i ∧ Ext B h' ∧ SpI m D cell i best ∧ ts.length = 45 ∧ slot ts 1 = d ∧ slot ts 2 = .int .i64 cell ∧ slot ts 3 = .ptr h.length 0 ∧ slot ts 7 = .int .i64 best ∧ slot ts 8 = .int .i64 i) D.length
    ⟨0, 100000000, by omega, rfl, by first | exact (by repeat first | with_reducible exact Ext.refl _ | refine Ext.app _ ?_) | simp, .begin, rfl, rfl, rfl, rfl, rfl, rfl⟩ ?_
  rintro _ ts _ ⟨i, best, hi, rfl, ⟨g, rfl⟩, hsp, hlen, t1, t2, t3, t7, t8⟩
  by_cases hlt : i < D.length
  · have e3 : (i : Int) < D.length := by omega
    have hix := hd.ixm (kk := .i64) hlt
    have l1 := fun {kk : AHeap} (e : Ext B kk) => hd.l1m hlt rfl (eB.trans e)
    obtain ⟨x, hx⟩ : ∃ x, x = D[i] := ⟨_, rfl⟩
    have hxb := hDb _ (List.getElem_mem hlt)
    rw [← hx] at l1 hxb
    have w1 : IntKind.i64.wrap (x + 1) = x + 1 := wrap_in (by omega) (by omega)
    repeat (first | simp (config := { maxSteps := 1000000 }) only [wset, hset, dset, bset, Nat.reduceAdd, Nat.reduceMul, Nat.reduceLeDiff, Nat.reduceEqDiff, pset, hlen, if_false, if_true, t1, t2, t3, t7, t8, hlm, e3, decide_true, lB, hix, l1, w1] | simp (config := { maxSteps := 1000000 }) (disch := first | (simp only [List.length_append, List.length_cons, List.length_nil] <;> omega) | rfl | omega | fail) only [kset, wset, hset, dset, bset, Nat.reduceAdd, Nat.reduceMul, Nat.reduceLeDiff, Nat.reduceEqDiff, pset, hlen, if_false, if_true, t1, t2, t3, t7, t8, hlm, e3, decide_true, lB, hix, l1, w1])
    refine WF.res T.c61 (r61 T hs v (hd.ext (eB.trans (by repeat first | with_reducible exact Ext.refl _ | refine Ext.app _ ?_))) hD hc) ?_
    intro w g1 hw
    have hw' := hw.isSl
    rw [show x + 1 - 1 = x by omega] at hw'
    have hal : (areaS m D x cell).length ≤ 256 := Nat.le_trans area_len hDl
    have hbd : (areaS m D x cell).any (brdS m) = true ↔ Bd m D cell x := bd_any v hD hc
    have hLm : ∀ k ∈ areaS m D x cell, InM m k := fun k hk => ((areaS_mem v hD hc).1 hk).inM v hc
    obtain ⟨L, hL⟩ : ∃ L, L = areaS m D x cell := ⟨_, rfl⟩
    rw [← hL] at hw' hal hbd hLm
    clear hw
    have hlm2 := fun G => hw'.lenm G
    repeat (first | simp (config := { maxSteps := 1000000 }) only [wset, hset, dset, bset, Nat.reduceAdd, Nat.reduceMul, Nat.reduceLeDiff, Nat.reduceEqDiff, pset, hlen, if_false, if_true, t1, t2, t3, t7, t8] | simp (config := { maxSteps := 1000000 }) (disch := first | (simp only [List.length_append, List.length_cons, List.length_nil] <;> omega) | rfl | omega | fail) only [kset, wset, hset, dset, bset, Nat.reduceAdd, Nat.reduceMul, Nat.reduceLeDiff, Nat.reduceEqDiff, pset, hlen, if_false, if_true, t1, t2, t3, t7, t8])
    refine WL.inv T.mix (fun n ts h' => ∃ k : Nat, k ≤ L.length ∧ n = L.length - k ∧ Ext (B ++ g ++ g1) h' ∧ ts.length = 45 ∧ slot ts 1 = d ∧ slot ts 2 = .int .i64 cell ∧ slot ts 3 = .ptr h.length 0 ∧ slot ts 7 = .int .i64 (if (L.take k).any (brdS m) = true then min best x else best) ∧ slot ts 8 = .int .i64 i ∧ slot ts 9 = w ∧ slot ts 10 = .int .i64 k) L.length
      ⟨0, by omega, rfl, by first | exact (by repeat first | with_reducible exact Ext.refl _ | refine Ext.app _ ?_) | simp, (by simp only [wset, hset, dset, bset, Nat.reduceAdd, Nat.reduceMul, Nat.reduceLeDiff, Nat.reduceEqDiff, pset, hlen, if_false, if_true, t1]), (by simp only [wset, hset, dset, bset, Nat.reduceAdd, Nat.reduceMul, Nat.reduceLeDiff, Nat.reduceEqDiff, pset, hlen, if_false, if_true, t1]), (by simp only [wset, hset, dset, bset, Nat.reduceAdd, Nat.reduceMul, Nat.reduceLeDiff, Nat.reduceEqDiff, pset, hlen, if_false, if_true, t2]), (by simp only [wset, hset, dset, bset, Nat.reduceAdd, Nat.reduceMul, Nat.reduceLeDiff, Nat.reduceEqDiff, pset, hlen, if_false, if_true, t3]), (by simp only [wset, hset, dset, bset, Nat.reduceAdd, Nat.reduceMul, Nat.reduceLeDiff, Nat.reduceEqDiff, pset, hlen, if_false, if_true, t7]; rfl), (by simp only [wset, hset, dset, bset, Nat.reduceAdd, Nat.reduceMul, Nat.reduceLeDiff, Nat.reduceEqDiff, pset, hlen, if_false, if_true, t8]), (by simp only [wset, hset, dset, bset, Nat.reduceAdd, Nat.reduceMul, Nat.reduceLeDiff, Nat.reduceEqDiff, pset, hlen, if_false, if_true, t1]), (by simp only [wset, hset, dset, bset, Nat.reduceAdd, Nat.reduceMul, Nat.reduceLeDiff, Nat.reduceEqDiff, pset, hlen, if_false, if_true, t1]; rfl)⟩ ?_
    clear t1 t2 t3 t7 t8 hlen ts
    rintro _ ts _ ⟨k, hk, rfl, ⟨g2, rfl⟩, hlen, t1, t2, t3, t7, t8, t9, t10⟩
    by_cases hlk : k < L.length
    · have e4 : (k : Int) < L.length := by omega
      have hix2 := hw'.ixm (kk := .i64) hlk
      have l2 := fun {kk : AHeap} (e : Ext (B ++ g ++ g1) kk) => hw'.l1m hlk rfl e
      have hyM := hLm _ (List.getElem_mem hlk)
      have htk : (L.take (k + 1)).any (brdS m) = ((L.take k).any (brdS m) || brdS m L[k]) := by
        rw [List.take_add_one, List.getElem?_eq_getElem hlk, List.any_append]; simp
      obtain ⟨y, hy⟩ : ∃ y, y = L[k] := ⟨_, rfl⟩
      rw [← hy] at l2 hyM htk
      have hwk := wrapN (show k + 1 < 2 ^ 63 by omega)
      obtain ⟨q, hq⟩ : ∃ q, q = (L.take k).any (brdS m) := ⟨_, rfl⟩
      rw [← hq] at t7 htk
      repeat (first | simp (config := { maxSteps := 1000000 }) only [wset, hset, dset, bset, Nat.reduceAdd, Nat.reduceMul, Nat.reduceLeDiff, Nat.reduceEqDiff, pset, hlen, if_false, if_true, t1, t2, t3, t7, t8, t9, t10, hlm2, e4, decide_true, lB, hix2, l2] | simp (config := { maxSteps := 1000000 }) (disch := first | (simp only [List.length_append, List.length_cons, List.length_nil] <;> omega) | rfl | omega | fail) only [kset, wset, hset, dset, bset, Nat.reduceAdd, Nat.reduceMul, Nat.reduceLeDiff, Nat.reduceEqDiff, pset, hlen, if_false, if_true, t1, t2, t3, t7, t8, t9, t10, hlm2, e4, decide_true, lB, hix2, l2])
      refine WF.res T.c71 (r71 T hs v hyM) ?_
      rintro _ g3 rfl
      cases hb : brdS m y with
      | false =>
        rw [hb, Bool.or_false] at htk
        repeat (first | simp (config := { maxSteps := 1000000 }) only [wset, hset, dset, bset, Nat.reduceAdd, Nat.reduceMul, Nat.reduceLeDiff, Nat.reduceEqDiff, pset, hlen, if_false, if_true, t1, t2, t3, t7, t8, t9, t10, hwk] | simp (config := { maxSteps := 1000000 }) (disch := first | (simp only [List.length_append, List.length_cons, List.length_nil] <;> omega) | rfl | omega | fail) only [kset, wset, hset, dset, bset, Nat.reduceAdd, Nat.reduceMul, Nat.reduceLeDiff, Nat.reduceEqDiff, pset, hlen, if_false, if_true, t1, t2, t3, t7, t8, t9, t10, hwk])
        exact ⟨_, by omega, k + 1, by omega, rfl, congrArg (AV.int .i64) (by rw [htk]), rfl⟩
      | true =>
        rw [hb, Bool.or_true] at htk
        have hmn : min (if q = true then min best x else best) x = if (List.take (k + 1) L).any (brdS m) = true then min best x else best := by
          rw [htk, if_pos rfl]
          split <;> omega
        repeat (first | simp (config := { maxSteps := 1000000 }) only [wset, hset, dset, bset, Nat.reduceAdd, Nat.reduceMul, Nat.reduceLeDiff, Nat.reduceEqDiff, pset, hlen, if_false, if_true, t1, t2, t3, t7, t8, t9, t10, hix, l1, hwk] | simp (config := { maxSteps := 1000000 }) (disch := first | (simp only [List.length_append, List.length_cons, List.length_nil] <;> omega) | rfl | omega | fail) only [kset, wset, hset, dset, bset, Nat.reduceAdd, Nat.reduceMul, Nat.reduceLeDiff, Nat.reduceEqDiff, pset, hlen, if_false, if_true, t1, t2, t3, t7, t8, t9, t10, hix, l1, hwk])
        exact ⟨_, by omega, k + 1, by omega, rfl, congrArg (AV.int .i64) hmn, rfl⟩
    · have e4 : ¬ (k : Int) < L.length := by omega
      have e5 : k = L.length := by omega
      rw [e5, List.take_length] at t7
      have hwi := wrapN (show i + 1 < 2 ^ 63 by omega)
      have hsp' : SpI m D cell (i + 1) (if L.any (brdS m) = true then min best x else best) := by
        by_cases hb : Bd m D cell x
        · rw [if_pos (hbd.2 hb), hx]; exact hsp.take hlt (hx ▸ hb)
        · rw [if_neg (fun h => hb (hbd.1 h))]; exact hsp.skip fun _ => hx ▸ hb
      obtain ⟨b', hb'⟩ : ∃ b', b' = (if L.any (brdS m) = true then min best x else best) := ⟨_, rfl⟩
      rw [← hb'] at t7 hsp'
      repeat (first | simp (config := { maxSteps := 1000000 }) only [wset, hset, dset, bset, Nat.reduceAdd, Nat.reduceMul, Nat.reduceLeDiff, Nat.reduceEqDiff, pset, hlen, if_false, if_true, t1, t2, t3, t7, t8, t9, t10, hlm2, e4, decide_false, hwi] | simp (config := { maxSteps := 1000000 }) (disch := first | (simp only [List.length_append, List.length_cons, List.length_nil] <;> omega) | rfl | omega | fail) only [kset, wset, hset, dset, bset, Nat.reduceAdd, Nat.reduceMul, Nat.reduceLeDiff, Nat.reduceEqDiff, pset, hlen, if_false, if_true, t1, t2, t3, t7, t8, t9, t10, hlm2, e4, decide_false, hwi])
      refine ⟨_, by omega, i + 1, b', by omega, rfl, ?_⟩
      refine ⟨hsp', ?_⟩
      repeat (first | rfl | refine ⟨rfl, ?_⟩)
  · have e3 : ¬ (i : Int) < D.length := by omega
    have e4 : i = D.length := by omega
    have hf := SpI.fin v hD (fun x hx => (hDb x hx).2) hc (e4 ▸ hsp)
    repeat (first | simp (config := { maxSteps := 1000000 }) only [wset, hset, dset, bset, Nat.reduceAdd, Nat.reduceMul, Nat.reduceLeDiff, Nat.reduceEqDiff, pset, hlen, if_false, if_true, t1, t2, t3, t7, t8, hlm, e3, decide_false] | simp (config := { maxSteps := 1000000 }) (disch := first | (simp only [List.length_append, List.length_cons, List.length_nil] <;> omega) | rfl | omega | fail) only [kset, wset, hset, dset, bset, Nat.reduceAdd, Nat.reduceMul, Nat.reduceLeDiff, Nat.reduceEqDiff, pset, hlen, if_false, if_true, t1, t2, t3, t7, t8, hlm, e3, decide_false])
    exact ⟨eB.trans (by repeat first | with_reducible exact Ext.refl _ | refine Ext.app _ ?_), by rw [hf]⟩

set_option maxRecDepth 10000 in
set_option maxHeartbeats 1000000 in
theorem r135 {m : Mp} {s d : AV} {D : List Int} (hs : s.one = true) (v : MpV m) (hd : IsSl h d 1 (D.map intRow)) (hD : (D.length : Int) = m.cols * m.rows) (hDb : ∀ x ∈ D, 0 ≤ x ∧ x ≤ 100000000) {cell c : Int} (hc : InM m cell) (hcb : 0 ≤ c ∧ c ≤ 100000000) :
    RCall P 135 [mapA m s, d, .int .i64 cell, .int .i64 c] h (fun w _ => w = .int .i64 (volL D c (areaS m D (c - 1) cell))) := by
  have hDl := mp_len v hD
  have hal : (areaS m D (c - 1) cell).length ≤ 256 := Nat.le_trans area_len hDl
  refine .of T.mix T.c135 ?_
  unfold fn135
  simp only [wset, hset, dset, bset, Nat.reduceAdd, Nat.reduceMul, Nat.reduceLeDiff, Nat.reduceEqDiff, hs]
  refine WF.res T.c61 (r61 T hs v (hd.ext (by repeat first | with_reducible exact Ext.refl _ | refine Ext.app _ ?_)) hD hc) ?_
  intro w g1 hw
  have hw' := hw.isSl
  simp only [wset, hset, dset, bset, Nat.reduceAdd, Nat.reduceMul, Nat.reduceLeDiff, Nat.reduceEqDiff]
  obtain ⟨L, hL⟩ : ∃ L, L = areaS m D (c - 1) cell := ⟨_, rfl⟩
  have hLm : ∀ k ∈ L, InM m k := fun k hk => ((areaS_mem v hD hc).1 (hL ▸ hk)).inM v hc
  have hLb : ∀ k ∈ L, -100000000 ≤ c - dI D k ∧ c - dI D k ≤ 100000000 := fun k hk => by have := hDb _ (dI_mem v hD (hLm k hk)); omega
  rw [← hL] at hw' hal ⊢
  clear hL hw
  obtain ⟨B, hB⟩ : ∃ B, B = h ++ [ABlk.cells [AV.int IntKind.i64 m.cols, AV.int IntKind.i64 m.rows, s] true false] ++ g1 := ⟨_, rfl⟩
  rw [← hB] at hw' ⊢
  have eB : Ext h B := by rw [hB]; exact (by repeat first | with_reducible exact Ext.refl _ | refine Ext.app _ ?_)
  clear hB
  have hlm := fun G => hw'.lenm G
  refine WL.inv T.mix (fun n ts h' => ∃ k : Nat, k ≤ L.length ∧ n = L.length - k ∧ h' = B ∧ ts.length = 35 ∧ slot ts 1 = d ∧ slot ts 3 = .int .i64 c ∧ slot ts 9 = .int .i64 (volL D c (L.take k)) ∧ slot ts 10 = w ∧ slot ts 11 = .int .i64 k) L.length
    ⟨0, by omega, rfl, rfl, rfl, rfl, rfl, rfl, rfl, rfl⟩ ?_
  rintro _ ts _ ⟨k, hk, rfl, rfl, hlen, t1, t3, t9, t10, t11⟩
  by_cases hlt : k < L.length
  · have e3 : (k : Int) < L.length := by omega
    have hx := hLm _ (List.getElem_mem hlt)
    obtain ⟨x, hxe⟩ : ∃ x, x = L[k] := ⟨_, rfl⟩
    have hv := volL_s (D := D) (c := c) hlt
    have hb0 := volL_bd (D := D) (c := c) (L := L.take k) fun y hy => hLb y (List.mem_of_mem_take hy)
    have hb1 := hLb _ (List.getElem_mem hlt)
    have hkl : (L.take k).length = k := by rw [List.length_take]; omega
    rw [hkl] at hb0
    have hix := hw'.ixm (kk := .i64) hlt
    have l1 := fun {kk : AHeap} (e : Ext _ kk) => hw'.l1m hlt rfl e
    rw [← hxe] at hx hv hb1 l1
    obtain ⟨n, rfl⟩ := Int.eq_ofNat_of_zero_le hx.1
    have hnD : n < D.length := by have := hx.2; omega
    have hix2 := hd.ixm (kk := .i64) hnD
    have l2 := fun {kk : AHeap} (e : Ext _ kk) => hd.l1m hnD rfl (eB.trans e)
    rw [dI_get hnD] at hv hb1
    have w2 : IntKind.i64.wrap (volL D c (L.take k) + c) = volL D c (L.take k) + c := wrap_in (by omega) (by omega)
    have w3 : IntKind.i64.wrap (volL D c (L.take k) + c - D[n]) = volL D c (L.take (k + 1)) := by rw [wrap_in (by omega) (by omega)]; omega
    have hwk := wrapN (show k + 1 < 2 ^ 63 by omega)
    repeat (first | simp (config := { maxSteps := 1000000 }) only [wset, hset, dset, bset, Nat.reduceAdd, Nat.reduceMul, Nat.reduceLeDiff, Nat.reduceEqDiff, pset, hlen, if_false, if_true, t1, t3, t9, t10, t11, hlm, e3, decide_true, hix, l1, hix2, l2, w2, w3, hwk] | simp (config := { maxSteps := 1000000 }) (disch := first | (simp only [List.length_append, List.length_cons, List.length_nil] <;> omega) | rfl | omega | fail) only [kset, wset, hset, dset, bset, Nat.reduceAdd, Nat.reduceMul, Nat.reduceLeDiff, Nat.reduceEqDiff, pset, hlen, if_false, if_true, t1, t3, t9, t10, t11, hlm, e3, decide_true, hix, l1, hix2, l2, w2, w3, hwk])
    exact ⟨_, by omega, k + 1, by omega, rfl, rfl, rfl⟩
  · have e3 : ¬ (k : Int) < L.length := by omega
    have e4 : k = L.length := by omega
    rw [e4, List.take_length] at t9
    repeat (first | simp (config := { maxSteps := 1000000 }) only [wset, hset, dset, bset, Nat.reduceAdd, Nat.reduceMul, Nat.reduceLeDiff, Nat.reduceEqDiff, pset, hlen, if_false, if_true, t1, t3, t9, t10, t11, hlm, e3, decide_false] | simp (config := { maxSteps := 1000000 }) (disch := first | (simp only [List.length_append, List.length_cons, List.length_nil] <;> omega) | rfl | omega | fail) only [kset, wset, hset, dset, bset, Nat.reduceAdd, Nat.reduceMul, Nat.reduceLeDiff, Nat.reduceEqDiff, pset, hlen, if_false, if_true, t1, t3, t9, t10, t11, hlm, e3, decide_false])
    first | exact eB | exact ⟨eB, rfl⟩ | exact ⟨eB, trivial⟩ | rfl

set_option maxRecDepth 10000 in
set_option maxHeartbeats 1000000 in
theorem r60 {m : Mp} {s : AV} (v : MpV m) (hs : IsSl h s 2 (m.deps.map ratRow)) (hl : m.deps.length ≤ 2 ^ 40) {cell : Int} (hc : InM m cell) : RCall P 60 [mapA m s, .int .i64 cell] h (fun w _ => w = ratA (spillS m (lowsS m) cell, spillS m (highsS m) cell)) := by
  refine .of T.mix T.c60 ?_
  unfold fn60
  simp only [wset, hset, dset, bset, Nat.reduceAdd, Nat.reduceMul, Nat.reduceLeDiff, Nat.reduceEqDiff, hs.one]
  refine WF.res T.c63 (r63 T (hs.ext (by repeat first | with_reducible exact Ext.refl _ | refine Ext.app _ ?_)) hl) ?_
  intro d1 g1 hd1
  simp only [wset, hset, dset, bset, Nat.reduceAdd, Nat.reduceMul, Nat.reduceLeDiff, Nat.reduceEqDiff, hs.one]
  refine WF.res T.c134 (r134 T hs.one v hd1.isSl (lowsS_ok v).1 (lowsS_ok v).2 hc) ?_
  rintro _ g2 rfl
  simp only [wset, hset, dset, bset, Nat.reduceAdd, Nat.reduceMul, Nat.reduceLeDiff, Nat.reduceEqDiff, hs.one]
  refine WF.res T.c62 (r62 T (hs.ext (by repeat first | with_reducible exact Ext.refl _ | refine Ext.app _ ?_)) hl) ?_
  intro d2 g3 hd2
  simp only [wset, hset, dset, bset, Nat.reduceAdd, Nat.reduceMul, Nat.reduceLeDiff, Nat.reduceEqDiff, hs.one]
  refine WF.res T.c134 (r134 T hs.one v hd2.isSl (highsS_ok v).1 (highsS_ok v).2 hc) ?_
  rintro _ g4 rfl
  simp only [wset, hset, dset, bset, Nat.reduceAdd, Nat.reduceMul, Nat.reduceLeDiff, Nat.reduceEqDiff]
  rfl
set_option maxRecDepth 10000 in
set_option maxHeartbeats 1000000 in
theorem r64 {m : Mp} {s : AV} (v : MpV m) (hs : IsSl h s 2 (m.deps.map ratRow)) (hl : m.deps.length ≤ 2 ^ 40) {cell c : Int} (hc : InM m cell) (hcb : 0 ≤ c ∧ c ≤ 100000000) : RCall P 64 [mapA m s, .int .i64 cell, .int .i64 c] h (fun w _ => w = ratA (volL (highsS m) c (areaS m (highsS m) (c - 1) cell), volL (lowsS m) c (areaS m (lowsS m) (c - 1) cell))) := by
  refine .of T.mix T.c64 ?_
  unfold fn64
  simp only [wset, hset, dset, bset, Nat.reduceAdd, Nat.reduceMul, Nat.reduceLeDiff, Nat.reduceEqDiff, hs.one]
  refine WF.res T.c62 (r62 T (hs.ext (by repeat first | with_reducible exact Ext.refl _ | refine Ext.app _ ?_)) hl) ?_
  intro d1 g1 hd1
  simp only [wset, hset, dset, bset, Nat.reduceAdd, Nat.reduceMul, Nat.reduceLeDiff, Nat.reduceEqDiff, hs.one]
  refine WF.res T.c135 (r135 T hs.one v hd1.isSl (highsS_ok v).1 (highsS_ok v).2 hc hcb) ?_
  rintro _ g2 rfl
  simp only [wset, hset, dset, bset, Nat.reduceAdd, Nat.reduceMul, Nat.reduceLeDiff, Nat.reduceEqDiff, hs.one]
  refine WF.res T.c63 (r63 T (hs.ext (by repeat first | with_reducible exact Ext.refl _ | refine Ext.app _ ?_)) hl) ?_
  intro d2 g3 hd2
  simp only [wset, hset, dset, bset, Nat.reduceAdd, Nat.reduceMul, Nat.reduceLeDiff, Nat.reduceEqDiff, hs.one]
  refine WF.res T.c135 (r135 T hs.one v hd2.isSl (lowsS_ok v).1 (lowsS_ok v).2 hc hcb) ?_
  rintro _ g4 rfl
  simp only [wset, hset, dset, bset, Nat.reduceAdd, Nat.reduceMul, Nat.reduceLeDiff, Nat.reduceEqDiff]
  rfl
end
end Go.Abs
namespace Go.Abs

def mpc (k : Nat) : ICode := ((fn6).body.dr k).hd
def mpT (k : Nat) : ICode := (fn6).body.dr k
theorem mp_0 : fn6 = ⟨129, 3, [(6, none)], .seq (mpc 0) (.seq (mpc 1) (mpT 2))⟩ := rfl
theorem mp_A : mpT 2 = .seq (mpc 2) (.seq (mpc 3) (.seq (mpc 4) (mpT 5))) := rfl
theorem mp_B : mpT 5 = .seq (mpc 5) (.seq (mpc 6) (.seq (mpc 7) (.seq (mpc 8) (mpT 9)))) := rfl
theorem mp_C : mpT 9 = .seq (mpc 9) (.seq (mpc 10) (.seq (mpc 11) (mpT 12))) := rfl
theorem mp_D : mpT 12 = .seq (mpc 12) (mpT 13) := rfl

attribute [local irreducible] WP WC WE WB WR WF WL WG WRg
section
variable {P : Program} (T : Tbl P) {h : AHeap}
include T

set_option maxRecDepth 10000 in
set_option maxHeartbeats 1000000 in
theorem maps_E {m : Mp} {sm : AV} {W : AHeap} {ts : TS} {sp vo : Int × Int} {A B : List Int} {x y x' y' : AV} {one two : Int} {b3 b7 b12 b17 b18 : Nat} (hlen : ts.length = 129)
    (t3 : slot ts 3 = .ptr b3 0) (t7 : slot ts 7 = .ptr b7 0) (t8 : slot ts 8 = .int .i64 one) (t9 : slot ts 9 = x) (t10 : slot ts 10 = y) (t11 : slot ts 11 = .int .i64 two) (t12 : slot ts 12 = .ptr b12 0) (t13 : slot ts 13 = .int .i64 two) (t14 : slot ts 14 = .int .i64 (chkMapS m)) (t15 : slot ts 15 = .int .i64 one) (t16 : slot ts 16 = .int .i64 two) (t17 : slot ts 17 = .ptr b17 0) (t18 : slot ts 18 = .ptr b18 0) (t19 : slot ts 19 = x') (t20 : slot ts 20 = y')
    (m3 : W[b3]? = some (.cells [.int .i64 m.cols, .int .i64 m.rows, sm] true false)) (m7 : W[b7]? = some (.cells [.int .i64 sp.1, .int .i64 sp.2] true false)) (m17 : W[b17]? = some (.cells [.int .i64 sp.1, .int .i64 sp.2] true false)) (m12 : W[b12]? = some (.cells [.int .i64 vo.1, .int .i64 vo.2] true false)) (m18 : W[b18]? = some (.cells [.int .i64 vo.1, .int .i64 vo.2] true false))
    (o9 : IsSl W x 1 (A.map intRow)) (o19 : IsSl W x' 1 (A.map intRow)) (o10 : IsSl W y 1 (B.map intRow)) (o20 : IsSl W y' 1 (B.map intRow)) (la : A.length ≤ 256) (lb : B.length ≤ 256)
    (hs : IsSl W sm 2 (m.deps.map ratRow)) (hl : m.deps.length ≤ 2 ^ 40) (he : Ext h W) :
    WC P inFn (mpT 13) [] ts W (FQ [(6, none)] fun v h' => Ext h h' ∧ v = .bool true) := by
  have q3 := (List.getElem?_eq_some_iff.1 m3).1
  have q7 := (List.getElem?_eq_some_iff.1 m7).1
  have q12 := (List.getElem?_eq_some_iff.1 m12).1
  have q17 := (List.getElem?_eq_some_iff.1 m17).1
  have q18 := (List.getElem?_eq_some_iff.1 m18).1
  have l3 : ∀ n o, loadF n (.ptr b3 o) (fun z => W[z]?) = ldB n o (.cells [.int .i64 m.cols, .int .i64 m.rows, sm] true false) := fun n o => loadF_at m3
  have l7 : ∀ n o, loadF n (.ptr b7 o) (fun z => W[z]?) = ldB n o (.cells [.int .i64 sp.1, .int .i64 sp.2] true false) := fun n o => loadF_at m7
  have l12 : ∀ n o, loadF n (.ptr b12 o) (fun z => W[z]?) = ldB n o (.cells [.int .i64 vo.1, .int .i64 vo.2] true false) := fun n o => loadF_at m12
  have l17 : ∀ n o, loadF n (.ptr b17 o) (fun z => W[z]?) = ldB n o (.cells [.int .i64 sp.1, .int .i64 sp.2] true false) := fun n o => loadF_at m17
  have l18 : ∀ n o, loadF n (.ptr b18 o) (fun z => W[z]?) = ldB n o (.cells [.int .i64 vo.1, .int .i64 vo.2] true false) := fun n o => loadF_at m18
  unfold mpT fn6
  simp only [ICode.dr, ICode.tl]
  have c0 := hs.one
  repeat (first | simp (config := { maxSteps := 1000000 }) only [wset, hset, dset, bset, Nat.reduceAdd, Nat.reduceMul, Nat.reduceLeDiff, Nat.reduceEqDiff, pset, hlen, if_false, if_true, t3, l3, c0] | simp (config := { maxSteps := 1000000 }) (disch := first | (simp only [List.length_append, List.length_cons, List.length_nil] <;> omega) | rfl | omega | fail) only [kset, wset, hset, dset, bset, Nat.reduceAdd, Nat.reduceMul, Nat.reduceLeDiff, Nat.reduceEqDiff, pset, hlen, if_false, if_true, t3, l3, c0])
  refine WF.res T.c55 (r55 T (hs.ext (by repeat first | with_reducible exact Ext.refl _ | refine Ext.app _ ?_)) hl) ?_
  rintro _ g1 ⟨s', rfl, hf⟩
  repeat (first | simp (config := { maxSteps := 1000000 }) only [wset, hset, dset, bset, Nat.reduceAdd, Nat.reduceMul, Nat.reduceLeDiff, Nat.reduceEqDiff, pset, hlen, if_false, if_true, t3, l3, hf.isSl.one] | simp (config := { maxSteps := 1000000 }) (disch := first | (simp only [List.length_append, List.length_cons, List.length_nil] <;> omega) | rfl | omega | fail) only [kset, wset, hset, dset, bset, Nat.reduceAdd, Nat.reduceMul, Nat.reduceLeDiff, Nat.reduceEqDiff, pset, hlen, if_false, if_true, t3, l3, hf.isSl.one])
  refine WF.res T.c65 (r65 T hf.isSl hl) ?_
  rintro _ g2 rfl
  repeat (first | simp (config := { maxSteps := 1000000 }) only [wset, hset, dset, bset, Nat.reduceAdd, Nat.reduceMul, Nat.reduceLeDiff, Nat.reduceEqDiff, pset, hlen, if_false, if_true, t3, t7, t8, t9, t10, t11, t12, t13, t14, t15, t16, t17, t18, t19, t20, l7, l12, l17, l18, decide_true, Bool.and_true, Bool.true_and] | simp (config := { maxSteps := 1000000 }) (disch := first | (simp only [List.length_append, List.length_cons, List.length_nil] <;> omega) | rfl | omega | fail) only [kset, wset, hset, dset, bset, Nat.reduceAdd, Nat.reduceMul, Nat.reduceLeDiff, Nat.reduceEqDiff, pset, hlen, if_false, if_true, t3, t7, t8, t9, t10, t11, t12, t13, t14, t15, t16, t17, t18, t19, t20, l7, l12, l17, l18, decide_true, Bool.and_true, Bool.true_and])
  refine WF.res T.c40 (r40 T (A := A) (B := A) (o9.ext (by repeat first | with_reducible exact Ext.refl _ | refine Ext.app _ ?_)) (o19.ext (by repeat first | with_reducible exact Ext.refl _ | refine Ext.app _ ?_)) (by omega)) ?_
  rintro _ g3 rfl
  repeat (first | simp (config := { maxSteps := 1000000 }) only [wset, hset, dset, bset, Nat.reduceAdd, Nat.reduceMul, Nat.reduceLeDiff, Nat.reduceEqDiff, pset, hlen, if_false, if_true, t3, t7, t8, t9, t10, t11, t12, t13, t14, t15, t16, t17, t18, t19, t20, l7, l12, l17, l18, decide_true, Bool.and_true, Bool.true_and] | simp (config := { maxSteps := 1000000 }) (disch := first | (simp only [List.length_append, List.length_cons, List.length_nil] <;> omega) | rfl | omega | fail) only [kset, wset, hset, dset, bset, Nat.reduceAdd, Nat.reduceMul, Nat.reduceLeDiff, Nat.reduceEqDiff, pset, hlen, if_false, if_true, t3, t7, t8, t9, t10, t11, t12, t13, t14, t15, t16, t17, t18, t19, t20, l7, l12, l17, l18, decide_true, Bool.and_true, Bool.true_and])
  refine WF.res T.c40 (r40 T (A := B) (B := B) (o10.ext (by repeat first | with_reducible exact Ext.refl _ | refine Ext.app _ ?_)) (o20.ext (by repeat first | with_reducible exact Ext.refl _ | refine Ext.app _ ?_)) (by omega)) ?_
  rintro _ g4 rfl
  repeat (first | simp (config := { maxSteps := 1000000 }) only [wset, hset, dset, bset, Nat.reduceAdd, Nat.reduceMul, Nat.reduceLeDiff, Nat.reduceEqDiff, pset, hlen, if_false, if_true, t3, t7, t8, t9, t10, t11, t12, t13, t14, t15, t16, t17, t18, t19, t20, l7, l12, l17, l18, decide_true, Bool.and_true, Bool.true_and] | simp (config := { maxSteps := 1000000 }) (disch := first | (simp only [List.length_append, List.length_cons, List.length_nil] <;> omega) | rfl | omega | fail) only [kset, wset, hset, dset, bset, Nat.reduceAdd, Nat.reduceMul, Nat.reduceLeDiff, Nat.reduceEqDiff, pset, hlen, if_false, if_true, t3, t7, t8, t9, t10, t11, t12, t13, t14, t15, t16, t17, t18, t19, t20, l7, l12, l17, l18, decide_true, Bool.and_true, Bool.true_and])
  exact ⟨Ext.trans he (by repeat first | with_reducible exact Ext.refl _ | refine Ext.app _ ?_), trivial⟩

set_option maxRecDepth 10000 in
set_option maxHeartbeats 1000000 in
theorem maps_D {m : Mp} {sm : AV} {W g H : AHeap} {ts : TS} {sp : Int × Int} {x y : AV} {cell c one : Int} {b3 b7 b12 b17 : Nat} (hH : H = W ++ [.cells [.int .i64 0, .int .i64 0] true false] ++ g) (hlen : ts.length = 129)
    (t1 : slot ts 1 = .int .i64 cell) (t2 : slot ts 2 = .int .i64 c) (t3 : slot ts 3 = .ptr b3 0) (t7 : slot ts 7 = .ptr b7 0) (t8 : slot ts 8 = .int .i64 one) (t9 : slot ts 9 = x) (t10 : slot ts 10 = y) (t11 : slot ts 11 = .int .i64 (chkContS m cell c)) (t12 : slot ts 12 = .ptr b12 0) (t13 : slot ts 13 = .int .i64 (chkContS m cell c)) (t14 : slot ts 14 = .int .i64 (chkMapS m)) (t15 : slot ts 15 = .int .i64 one) (t16 : slot ts 16 = .int .i64 (chkContS m cell c)) (t17 : slot ts 17 = .ptr b17 0) (t18 : slot ts 18 = .ptr W.length 0) (t19 : slot ts 19 = .nilSlice) (t20 : slot ts 20 = .nilSlice)
    (m3 : W[b3]? = some (.cells [.int .i64 m.cols, .int .i64 m.rows, sm] true false)) (m7 : W[b7]? = some (.cells [.int .i64 sp.1, .int .i64 sp.2] true false)) (m17 : W[b17]? = some (.cells [.int .i64 sp.1, .int .i64 sp.2] true false)) (m12 : W[b12]? = some (.cells [.int .i64 (volR m cell c).1, .int .i64 (volR m cell c).2] true false))
    (o9 : IsSl W x 1 ((regR m cell c).1.map intRow)) (o10 : IsSl W y 1 ((regR m cell c).2.map intRow))
    (hs : IsSl W sm 2 (m.deps.map ratRow)) (hl : m.deps.length ≤ 2 ^ 40) (he : Ext h W) :
    WC P inFn (mpT 12) [] ts H (FQ [(6, none)] fun v h' => Ext h h' ∧ v = .bool true) := by
  subst hH
  have q3 := (List.getElem?_eq_some_iff.1 m3).1
  have l3 : ∀ n o, loadF n (.ptr b3 o) (fun z => W[z]?) = ldB n o (.cells [.int .i64 m.cols, .int .i64 m.rows, sm] true false) := fun n o => loadF_at m3
  rw [mp_D]
  unfold mpc fn6
  simp only [ICode.dr, ICode.tl, ICode.hd]
  have c0 := hs.one
  by_cases h0 : chkContS m cell c = 0
  · have d0 : decide (chkContS m cell c = 0) = true := decide_eq_true h0
    rw [regR, if_pos h0] at o9 o10
    rw [volR, if_pos h0] at m12
    obtain ⟨⟨v, hc⟩, hcb⟩ := chkCont_zero.1 h0
    have la : (areaS m (highsS m) (c - 1) cell).length ≤ 256 := Nat.le_trans area_len (mp_len v (highsS_ok v).1)
    have lb : (areaS m (lowsS m) (c - 1) cell).length ≤ 256 := Nat.le_trans area_len (mp_len v (lowsS_ok v).1)
    repeat (first | simp (config := { maxSteps := 1000000 }) only [wset, hset, dset, bset, Nat.reduceAdd, Nat.reduceMul, Nat.reduceLeDiff, Nat.reduceEqDiff, pset, hlen, if_false, if_true, t1, t2, t3, t16, l3, c0, d0] | simp (config := { maxSteps := 1000000 }) (disch := first | (simp only [List.length_append, List.length_cons, List.length_nil] <;> omega) | rfl | omega | fail) only [kset, wset, hset, dset, bset, Nat.reduceAdd, Nat.reduceMul, Nat.reduceLeDiff, Nat.reduceEqDiff, pset, hlen, if_false, if_true, t1, t2, t3, t16, l3, c0, d0])
    refine WF.res T.c62 (r62 T (hs.ext (by repeat first | with_reducible exact Ext.refl _ | refine Ext.app _ ?_)) hl) ?_
    intro d1 g1 hd1
    repeat (first | simp (config := { maxSteps := 1000000 }) only [wset, hset, dset, bset, Nat.reduceAdd, Nat.reduceMul, Nat.reduceLeDiff, Nat.reduceEqDiff, pset, hlen, if_false, if_true, t1, t2, t3, t16, l3, c0] | simp (config := { maxSteps := 1000000 }) (disch := first | (simp only [List.length_append, List.length_cons, List.length_nil] <;> omega) | rfl | omega | fail) only [kset, wset, hset, dset, bset, Nat.reduceAdd, Nat.reduceMul, Nat.reduceLeDiff, Nat.reduceEqDiff, pset, hlen, if_false, if_true, t1, t2, t3, t16, l3, c0])
    refine WF.res T.c61 (r61 T c0 v hd1.isSl (highsS_ok v).1 hc) ?_
    intro x' g2 hx
    repeat (first | simp (config := { maxSteps := 1000000 }) only [wset, hset, dset, bset, Nat.reduceAdd, Nat.reduceMul, Nat.reduceLeDiff, Nat.reduceEqDiff, pset, hlen, if_false, if_true, t1, t2, t3, t16, l3, c0] | simp (config := { maxSteps := 1000000 }) (disch := first | (simp only [List.length_append, List.length_cons, List.length_nil] <;> omega) | rfl | omega | fail) only [kset, wset, hset, dset, bset, Nat.reduceAdd, Nat.reduceMul, Nat.reduceLeDiff, Nat.reduceEqDiff, pset, hlen, if_false, if_true, t1, t2, t3, t16, l3, c0])
    refine WF.res T.c63 (r63 T (hs.ext (by repeat first | with_reducible exact Ext.refl _ | refine Ext.app _ ?_)) hl) ?_
    intro d2 g3 hd2
    repeat (first | simp (config := { maxSteps := 1000000 }) only [wset, hset, dset, bset, Nat.reduceAdd, Nat.reduceMul, Nat.reduceLeDiff, Nat.reduceEqDiff, pset, hlen, if_false, if_true, t1, t2, t3, t16, l3, c0] | simp (config := { maxSteps := 1000000 }) (disch := first | (simp only [List.length_append, List.length_cons, List.length_nil] <;> omega) | rfl | omega | fail) only [kset, wset, hset, dset, bset, Nat.reduceAdd, Nat.reduceMul, Nat.reduceLeDiff, Nat.reduceEqDiff, pset, hlen, if_false, if_true, t1, t2, t3, t16, l3, c0])
    refine WF.res T.c61 (r61 T c0 v hd2.isSl (lowsS_ok v).1 hc) ?_
    intro y' g4 hy
    repeat (first | simp (config := { maxSteps := 1000000 }) only [wset, hset, dset, bset, Nat.reduceAdd, Nat.reduceMul, Nat.reduceLeDiff, Nat.reduceEqDiff, pset, hlen, if_false, if_true, t1, t2, t3, t16, l3, c0] | simp (config := { maxSteps := 1000000 }) (disch := first | (simp only [List.length_append, List.length_cons, List.length_nil] <;> omega) | rfl | omega | fail) only [kset, wset, hset, dset, bset, Nat.reduceAdd, Nat.reduceMul, Nat.reduceLeDiff, Nat.reduceEqDiff, pset, hlen, if_false, if_true, t1, t2, t3, t16, l3, c0])
    refine WF.res T.c64 (r64 T v (hs.ext (by repeat first | with_reducible exact Ext.refl _ | refine Ext.app _ ?_)) hl hc hcb) ?_
    rintro _ g5 rfl
    repeat (first | simp (config := { maxSteps := 1000000 }) only [wset, hset, dset, bset, Nat.reduceAdd, Nat.reduceMul, Nat.reduceLeDiff, Nat.reduceEqDiff, pset, hlen, if_false, if_true, t1, t2, t3, t16, t18, l3, c0] | simp (config := { maxSteps := 1000000 }) (disch := first | (simp only [List.length_append, List.length_cons, List.length_nil] <;> omega) | rfl | omega | fail) only [kset, wset, hset, dset, bset, Nat.reduceAdd, Nat.reduceMul, Nat.reduceLeDiff, Nat.reduceEqDiff, pset, hlen, if_false, if_true, t1, t2, t3, t16, t18, l3, c0])
    have e19 : (W ++ [ABlk.cells [.int .i64 (volL (highsS m) c (areaS m (highsS m) (c - 1) cell)), .int .i64 (volL (lowsS m) c (areaS m (lowsS m) (c - 1) cell))] true false] ++ g ++ g1).length = (W ++ [ABlk.cells [.int .i64 0, .int .i64 0] true false] ++ g ++ g1).length := by simp
    have e20 : (W ++ [ABlk.cells [.int .i64 (volL (highsS m) c (areaS m (highsS m) (c - 1) cell)), .int .i64 (volL (lowsS m) c (areaS m (lowsS m) (c - 1) cell))] true false] ++ g ++ g1 ++ g2 ++ g3).length = (W ++ [ABlk.cells [.int .i64 0, .int .i64 0] true false] ++ g ++ g1 ++ g2 ++ g3).length := by simp
    refine maps_E T (m := m) (sm := sm) (sp := sp) (vo := (volL (highsS m) c (areaS m (highsS m) (c - 1) cell), volL (lowsS m) c (areaS m (lowsS m) (c - 1) cell))) (A := areaS m (highsS m) (c - 1) cell) (B := areaS m (lowsS m) (c - 1) cell) (x := x) (y := y) (x' := x') (y' := y') (one := one) (two := chkContS m cell c) (b3 := b3) (b7 := b7) (b12 := b12) (b17 := b17) (b18 := W.length) (by simp only [wset, hset, dset, bset, Nat.reduceAdd, Nat.reduceMul, Nat.reduceLeDiff, Nat.reduceEqDiff, pset, hlen, if_false, if_true, t1]) (by simp only [wset, hset, dset, bset, Nat.reduceAdd, Nat.reduceMul, Nat.reduceLeDiff, Nat.reduceEqDiff, pset, hlen, if_false, if_true, t3]) (by simp only [wset, hset, dset, bset, Nat.reduceAdd, Nat.reduceMul, Nat.reduceLeDiff, Nat.reduceEqDiff, pset, hlen, if_false, if_true, t7]) (by simp only [wset, hset, dset, bset, Nat.reduceAdd, Nat.reduceMul, Nat.reduceLeDiff, Nat.reduceEqDiff, pset, hlen, if_false, if_true, t8]) (by simp only [wset, hset, dset, bset, Nat.reduceAdd, Nat.reduceMul, Nat.reduceLeDiff, Nat.reduceEqDiff, pset, hlen, if_false, if_true, t9]) (by simp only [wset, hset, dset, bset, Nat.reduceAdd, Nat.reduceMul, Nat.reduceLeDiff, Nat.reduceEqDiff, pset, hlen, if_false, if_true, t10]) (by simp only [wset, hset, dset, bset, Nat.reduceAdd, Nat.reduceMul, Nat.reduceLeDiff, Nat.reduceEqDiff, pset, hlen, if_false, if_true, t11]) (by simp only [wset, hset, dset, bset, Nat.reduceAdd, Nat.reduceMul, Nat.reduceLeDiff, Nat.reduceEqDiff, pset, hlen, if_false, if_true, t12]) (by simp only [wset, hset, dset, bset, Nat.reduceAdd, Nat.reduceMul, Nat.reduceLeDiff, Nat.reduceEqDiff, pset, hlen, if_false, if_true, t13]) (by simp only [wset, hset, dset, bset, Nat.reduceAdd, Nat.reduceMul, Nat.reduceLeDiff, Nat.reduceEqDiff, pset, hlen, if_false, if_true, t14]) (by simp only [wset, hset, dset, bset, Nat.reduceAdd, Nat.reduceMul, Nat.reduceLeDiff, Nat.reduceEqDiff, pset, hlen, if_false, if_true, t15]) (by simp only [wset, hset, dset, bset, Nat.reduceAdd, Nat.reduceMul, Nat.reduceLeDiff, Nat.reduceEqDiff, pset, hlen, if_false, if_true, t16]) (by simp only [wset, hset, dset, bset, Nat.reduceAdd, Nat.reduceMul, Nat.reduceLeDiff, Nat.reduceEqDiff, pset, hlen, if_false, if_true, t17]) (by simp only [wset, hset, dset, bset, Nat.reduceAdd, Nat.reduceMul, Nat.reduceLeDiff, Nat.reduceEqDiff, pset, hlen, if_false, if_true, t18]) (by simp only [wset, hset, dset, bset, Nat.reduceAdd, Nat.reduceMul, Nat.reduceLeDiff, Nat.reduceEqDiff, pset, hlen, if_false, if_true, t1]) (by simp only [wset, hset, dset, bset, Nat.reduceAdd, Nat.reduceMul, Nat.reduceLeDiff, Nat.reduceEqDiff, pset, hlen, if_false, if_true, t1]) ?m3 ?m7 ?m17 ?m12 ?m18 ?o9 ?o19 ?o10 ?o20 la lb ?hs hl ?ee
    case m3 => exact Ext.some (by repeat first | with_reducible exact Ext.refl _ | refine Ext.app _ ?_) m3
    case m7 => exact Ext.some (by repeat first | with_reducible exact Ext.refl _ | refine Ext.app _ ?_) m7
    case m17 => exact Ext.some (by repeat first | with_reducible exact Ext.refl _ | refine Ext.app _ ?_) m17
    case m12 => exact Ext.some (by repeat first | with_reducible exact Ext.refl _ | refine Ext.app _ ?_) m12
    case m18 => exact Ext.some (by repeat first | with_reducible exact Ext.refl _ | refine Ext.app _ ?_) (at_new (X := W))
    case o9 => exact o9.ext (by repeat first | with_reducible exact Ext.refl _ | refine Ext.app _ ?_)
    case o10 => exact o10.ext (by repeat first | with_reducible exact Ext.refl _ | refine Ext.app _ ?_)
    case o19 => exact (hx.swap' rfl e19).isSl.ext (by repeat first | with_reducible exact Ext.refl _ | refine Ext.app _ ?_)
    case o20 => exact (hy.swap' rfl e20).isSl.ext (by repeat first | with_reducible exact Ext.refl _ | refine Ext.app _ ?_)
    case hs => exact hs.ext (by repeat first | with_reducible exact Ext.refl _ | refine Ext.app _ ?_)
    case ee => exact Ext.trans he (by repeat first | with_reducible exact Ext.refl _ | refine Ext.app _ ?_)
  · have d0 : decide (chkContS m cell c = 0) = false := decide_eq_false h0
    rw [regR, if_neg h0] at o9 o10
    rw [volR, if_neg h0] at m12
    repeat (first | simp (config := { maxSteps := 1000000 }) only [wset, hset, dset, bset, Nat.reduceAdd, Nat.reduceMul, Nat.reduceLeDiff, Nat.reduceEqDiff, pset, hlen, if_false, if_true, t1, t2, t3, t16, l3, c0, d0] | simp (config := { maxSteps := 1000000 }) (disch := first | (simp only [List.length_append, List.length_cons, List.length_nil] <;> omega) | rfl | omega | fail) only [kset, wset, hset, dset, bset, Nat.reduceAdd, Nat.reduceMul, Nat.reduceLeDiff, Nat.reduceEqDiff, pset, hlen, if_false, if_true, t1, t2, t3, t16, l3, c0, d0])
    refine maps_E T (m := m) (sm := sm) (sp := sp) (vo := (0, 0)) (A := []) (B := []) (x := x) (y := y) (x' := .nilSlice) (y' := .nilSlice) (one := one) (two := chkContS m cell c) (b3 := b3) (b7 := b7) (b12 := b12) (b17 := b17) (b18 := W.length) (by simp only [wset, hset, dset, bset, Nat.reduceAdd, Nat.reduceMul, Nat.reduceLeDiff, Nat.reduceEqDiff, pset, hlen, if_false, if_true, t1]) (by simp only [wset, hset, dset, bset, Nat.reduceAdd, Nat.reduceMul, Nat.reduceLeDiff, Nat.reduceEqDiff, pset, hlen, if_false, if_true, t3]) (by simp only [wset, hset, dset, bset, Nat.reduceAdd, Nat.reduceMul, Nat.reduceLeDiff, Nat.reduceEqDiff, pset, hlen, if_false, if_true, t7]) (by simp only [wset, hset, dset, bset, Nat.reduceAdd, Nat.reduceMul, Nat.reduceLeDiff, Nat.reduceEqDiff, pset, hlen, if_false, if_true, t8]) (by simp only [wset, hset, dset, bset, Nat.reduceAdd, Nat.reduceMul, Nat.reduceLeDiff, Nat.reduceEqDiff, pset, hlen, if_false, if_true, t9]) (by simp only [wset, hset, dset, bset, Nat.reduceAdd, Nat.reduceMul, Nat.reduceLeDiff, Nat.reduceEqDiff, pset, hlen, if_false, if_true, t10]) (by simp only [wset, hset, dset, bset, Nat.reduceAdd, Nat.reduceMul, Nat.reduceLeDiff, Nat.reduceEqDiff, pset, hlen, if_false, if_true, t11]) (by simp only [wset, hset, dset, bset, Nat.reduceAdd, Nat.reduceMul, Nat.reduceLeDiff, Nat.reduceEqDiff, pset, hlen, if_false, if_true, t12]) (by simp only [wset, hset, dset, bset, Nat.reduceAdd, Nat.reduceMul, Nat.reduceLeDiff, Nat.reduceEqDiff, pset, hlen, if_false, if_true, t13]) (by simp only [wset, hset, dset, bset, Nat.reduceAdd, Nat.reduceMul, Nat.reduceLeDiff, Nat.reduceEqDiff, pset, hlen, if_false, if_true, t14]) (by simp only [wset, hset, dset, bset, Nat.reduceAdd, Nat.reduceMul, Nat.reduceLeDiff, Nat.reduceEqDiff, pset, hlen, if_false, if_true, t15]) (by simp only [wset, hset, dset, bset, Nat.reduceAdd, Nat.reduceMul, Nat.reduceLeDiff, Nat.reduceEqDiff, pset, hlen, if_false, if_true, t16]) (by simp only [wset, hset, dset, bset, Nat.reduceAdd, Nat.reduceMul, Nat.reduceLeDiff, Nat.reduceEqDiff, pset, hlen, if_false, if_true, t17]) (by simp only [wset, hset, dset, bset, Nat.reduceAdd, Nat.reduceMul, Nat.reduceLeDiff, Nat.reduceEqDiff, pset, hlen, if_false, if_true, t18]) (by simp only [wset, hset, dset, bset, Nat.reduceAdd, Nat.reduceMul, Nat.reduceLeDiff, Nat.reduceEqDiff, pset, hlen, if_false, if_true, t19]) (by simp only [wset, hset, dset, bset, Nat.reduceAdd, Nat.reduceMul, Nat.reduceLeDiff, Nat.reduceEqDiff, pset, hlen, if_false, if_true, t20]) ?m3 ?m7 ?m17 ?m12 ?m18 ?o9 .nil ?o10 .nil (Nat.zero_le _) (Nat.zero_le _) ?hs hl ?ee
    case m3 => exact Ext.some (by repeat first | with_reducible exact Ext.refl _ | refine Ext.app _ ?_) m3
    case m7 => exact Ext.some (by repeat first | with_reducible exact Ext.refl _ | refine Ext.app _ ?_) m7
    case m17 => exact Ext.some (by repeat first | with_reducible exact Ext.refl _ | refine Ext.app _ ?_) m17
    case m12 => exact Ext.some (by repeat first | with_reducible exact Ext.refl _ | refine Ext.app _ ?_) m12
    case m18 => exact Ext.some (by repeat first | with_reducible exact Ext.refl _ | refine Ext.app _ ?_) (at_new (X := W))
    case o9 => exact o9.ext (by repeat first | with_reducible exact Ext.refl _ | refine Ext.app _ ?_)
    case o10 => exact o10.ext (by repeat first | with_reducible exact Ext.refl _ | refine Ext.app _ ?_)
    case hs => exact hs.ext (by repeat first | with_reducible exact Ext.refl _ | refine Ext.app _ ?_)
    case ee => exact Ext.trans he (by repeat first | with_reducible exact Ext.refl _ | refine Ext.app _ ?_)

set_option maxRecDepth 10000 in
set_option maxHeartbeats 1000000 in
theorem maps_C {m : Mp} {sm : AV} {W : AHeap} {ts : TS} {x y : AV} {cell c : Int} {b3 b7 b12 : Nat} (hlen : ts.length = 129)
    (t1 : slot ts 1 = .int .i64 cell) (t2 : slot ts 2 = .int .i64 c) (t3 : slot ts 3 = .ptr b3 0) (t7 : slot ts 7 = .ptr b7 0) (t8 : slot ts 8 = .int .i64 (chkCellS m cell)) (t9 : slot ts 9 = x) (t10 : slot ts 10 = y) (t11 : slot ts 11 = .int .i64 (chkContS m cell c)) (t12 : slot ts 12 = .ptr b12 0) (t13 : slot ts 13 = .int .i64 (chkContS m cell c)) (t14 : slot ts 14 = .int .i64 (chkMapS m)) (t15 : slot ts 15 = .int .i64 (chkCellS m cell)) (t16 : slot ts 16 = .int .i64 (chkContS m cell c))
    (m3 : W[b3]? = some (.cells [.int .i64 m.cols, .int .i64 m.rows, sm] true false)) (m7 : W[b7]? = some (.cells [.int .i64 (splR m cell).1, .int .i64 (splR m cell).2] true false)) (m12 : W[b12]? = some (.cells [.int .i64 (volR m cell c).1, .int .i64 (volR m cell c).2] true false))
    (o9 : IsSl W x 1 ((regR m cell c).1.map intRow)) (o10 : IsSl W y 1 ((regR m cell c).2.map intRow))
    (hs : IsSl W sm 2 (m.deps.map ratRow)) (hl : m.deps.length ≤ 2 ^ 40) (he : Ext h W) :
    WC P inFn (mpT 9) [] ts W (FQ [(6, none)] fun v h' => Ext h h' ∧ v = .bool true) := by
  have q3 := (List.getElem?_eq_some_iff.1 m3).1
  have l3 : ∀ n o, loadF n (.ptr b3 o) (fun z => W[z]?) = ldB n o (.cells [.int .i64 m.cols, .int .i64 m.rows, sm] true false) := fun n o => loadF_at m3
  rw [mp_C]
  unfold mpc fn6
  simp only [ICode.dr, ICode.tl, ICode.hd]
  have c0 := hs.one
  by_cases h0 : chkCellS m cell = 0
  · have d0 : decide (chkCellS m cell = 0) = true := decide_eq_true h0
    rw [splR, if_pos h0] at m7
    obtain ⟨v, hc⟩ := chkCell_zero.1 h0
    repeat (first | simp (config := { maxSteps := 1000000 }) only [wset, hset, dset, bset, Nat.reduceAdd, Nat.reduceMul, Nat.reduceLeDiff, Nat.reduceEqDiff, pset, hlen, if_false, if_true, t1, t2, t3, t15, l3, c0, d0] | simp (config := { maxSteps := 1000000 }) (disch := first | (simp only [List.length_append, List.length_cons, List.length_nil] <;> omega) | rfl | omega | fail) only [kset, wset, hset, dset, bset, Nat.reduceAdd, Nat.reduceMul, Nat.reduceLeDiff, Nat.reduceEqDiff, pset, hlen, if_false, if_true, t1, t2, t3, t15, l3, c0, d0])
    refine WF.res T.c60 (r60 T v (hs.ext (by repeat first | with_reducible exact Ext.refl _ | refine Ext.app _ ?_)) hl hc) ?_
    rintro _ g1 rfl
    repeat (first | simp (config := { maxSteps := 1000000 }) only [wset, hset, dset, bset, Nat.reduceAdd, Nat.reduceMul, Nat.reduceLeDiff, Nat.reduceEqDiff, pset, hlen, if_false, if_true, t1, t2, t3, t15, l3, c0] | simp (config := { maxSteps := 1000000 }) (disch := first | (simp only [List.length_append, List.length_cons, List.length_nil] <;> omega) | rfl | omega | fail) only [kset, wset, hset, dset, bset, Nat.reduceAdd, Nat.reduceMul, Nat.reduceLeDiff, Nat.reduceEqDiff, pset, hlen, if_false, if_true, t1, t2, t3, t15, l3, c0])
    refine maps_D T (m := m) (sm := sm) (W := W ++ [.cells [.int .i64 (spillS m (lowsS m) cell), .int .i64 (spillS m (highsS m) cell)] true false]) (g := g1) (sp := (spillS m (lowsS m) cell, spillS m (highsS m) cell)) (x := x) (y := y) (cell := cell) (c := c) (one := chkCellS m cell) (b3 := b3) (b7 := b7) (b12 := b12) (b17 := W.length) ?hH (by simp only [wset, hset, dset, bset, Nat.reduceAdd, Nat.reduceMul, Nat.reduceLeDiff, Nat.reduceEqDiff, pset, hlen, if_false, if_true, t1]) (by simp only [wset, hset, dset, bset, Nat.reduceAdd, Nat.reduceMul, Nat.reduceLeDiff, Nat.reduceEqDiff, pset, hlen, if_false, if_true, t1]) (by simp only [wset, hset, dset, bset, Nat.reduceAdd, Nat.reduceMul, Nat.reduceLeDiff, Nat.reduceEqDiff, pset, hlen, if_false, if_true, t2]) (by simp only [wset, hset, dset, bset, Nat.reduceAdd, Nat.reduceMul, Nat.reduceLeDiff, Nat.reduceEqDiff, pset, hlen, if_false, if_true, t3]) (by simp only [wset, hset, dset, bset, Nat.reduceAdd, Nat.reduceMul, Nat.reduceLeDiff, Nat.reduceEqDiff, pset, hlen, if_false, if_true, t7]) (by simp only [wset, hset, dset, bset, Nat.reduceAdd, Nat.reduceMul, Nat.reduceLeDiff, Nat.reduceEqDiff, pset, hlen, if_false, if_true, t8]) (by simp only [wset, hset, dset, bset, Nat.reduceAdd, Nat.reduceMul, Nat.reduceLeDiff, Nat.reduceEqDiff, pset, hlen, if_false, if_true, t9]) (by simp only [wset, hset, dset, bset, Nat.reduceAdd, Nat.reduceMul, Nat.reduceLeDiff, Nat.reduceEqDiff, pset, hlen, if_false, if_true, t10]) (by simp only [wset, hset, dset, bset, Nat.reduceAdd, Nat.reduceMul, Nat.reduceLeDiff, Nat.reduceEqDiff, pset, hlen, if_false, if_true, t11]) (by simp only [wset, hset, dset, bset, Nat.reduceAdd, Nat.reduceMul, Nat.reduceLeDiff, Nat.reduceEqDiff, pset, hlen, if_false, if_true, t12]) (by simp only [wset, hset, dset, bset, Nat.reduceAdd, Nat.reduceMul, Nat.reduceLeDiff, Nat.reduceEqDiff, pset, hlen, if_false, if_true, t13]) (by simp only [wset, hset, dset, bset, Nat.reduceAdd, Nat.reduceMul, Nat.reduceLeDiff, Nat.reduceEqDiff, pset, hlen, if_false, if_true, t14]) (by simp only [wset, hset, dset, bset, Nat.reduceAdd, Nat.reduceMul, Nat.reduceLeDiff, Nat.reduceEqDiff, pset, hlen, if_false, if_true, t15]) (by simp only [wset, hset, dset, bset, Nat.reduceAdd, Nat.reduceMul, Nat.reduceLeDiff, Nat.reduceEqDiff, pset, hlen, if_false, if_true, t16]) (by simp only [wset, hset, dset, bset, Nat.reduceAdd, Nat.reduceMul, Nat.reduceLeDiff, Nat.reduceEqDiff, pset, hlen, if_false, if_true, t1]) ?k18 (by simp only [wset, hset, dset, bset, Nat.reduceAdd, Nat.reduceMul, Nat.reduceLeDiff, Nat.reduceEqDiff, pset, hlen, if_false, if_true, t1]) (by simp only [wset, hset, dset, bset, Nat.reduceAdd, Nat.reduceMul, Nat.reduceLeDiff, Nat.reduceEqDiff, pset, hlen, if_false, if_true, t1]) ?m3 ?m7 ?m17 ?m12 ?o9 ?o10 ?hs hl ?ee
    case hH => rfl
    case k18 => simp only [wset, hset, dset, bset, Nat.reduceAdd, Nat.reduceMul, Nat.reduceLeDiff, Nat.reduceEqDiff, pset, hlen, if_false, if_true, List.length_append, List.length_cons, List.length_nil]
    case m3 => exact Ext.some (by repeat first | with_reducible exact Ext.refl _ | refine Ext.app _ ?_) m3
    case m7 => exact Ext.some (by repeat first | with_reducible exact Ext.refl _ | refine Ext.app _ ?_) m7
    case m17 => exact at_new
    case m12 => exact Ext.some (by repeat first | with_reducible exact Ext.refl _ | refine Ext.app _ ?_) m12
    case o9 => exact o9.ext (by repeat first | with_reducible exact Ext.refl _ | refine Ext.app _ ?_)
    case o10 => exact o10.ext (by repeat first | with_reducible exact Ext.refl _ | refine Ext.app _ ?_)
    case hs => exact hs.ext (by repeat first | with_reducible exact Ext.refl _ | refine Ext.app _ ?_)
    case ee => exact Ext.trans he (by repeat first | with_reducible exact Ext.refl _ | refine Ext.app _ ?_)
  · have d0 : decide (chkCellS m cell = 0) = false := decide_eq_false h0
    rw [splR, if_neg h0] at m7
    repeat (first | simp (config := { maxSteps := 1000000 }) only [wset, hset, dset, bset, Nat.reduceAdd, Nat.reduceMul, Nat.reduceLeDiff, Nat.reduceEqDiff, pset, hlen, if_false, if_true, t1, t2, t3, t15, l3, c0, d0] | simp (config := { maxSteps := 1000000 }) (disch := first | (simp only [List.length_append, List.length_cons, List.length_nil] <;> omega) | rfl | omega | fail) only [kset, wset, hset, dset, bset, Nat.reduceAdd, Nat.reduceMul, Nat.reduceLeDiff, Nat.reduceEqDiff, pset, hlen, if_false, if_true, t1, t2, t3, t15, l3, c0, d0])
    refine maps_D T (m := m) (sm := sm) (W := W ++ [.cells [.int .i64 0, .int .i64 0] true false]) (g := []) (sp := (0, 0)) (x := x) (y := y) (cell := cell) (c := c) (one := chkCellS m cell) (b3 := b3) (b7 := b7) (b12 := b12) (b17 := W.length) ?hH (by simp only [wset, hset, dset, bset, Nat.reduceAdd, Nat.reduceMul, Nat.reduceLeDiff, Nat.reduceEqDiff, pset, hlen, if_false, if_true, t1]) (by simp only [wset, hset, dset, bset, Nat.reduceAdd, Nat.reduceMul, Nat.reduceLeDiff, Nat.reduceEqDiff, pset, hlen, if_false, if_true, t1]) (by simp only [wset, hset, dset, bset, Nat.reduceAdd, Nat.reduceMul, Nat.reduceLeDiff, Nat.reduceEqDiff, pset, hlen, if_false, if_true, t2]) (by simp only [wset, hset, dset, bset, Nat.reduceAdd, Nat.reduceMul, Nat.reduceLeDiff, Nat.reduceEqDiff, pset, hlen, if_false, if_true, t3]) (by simp only [wset, hset, dset, bset, Nat.reduceAdd, Nat.reduceMul, Nat.reduceLeDiff, Nat.reduceEqDiff, pset, hlen, if_false, if_true, t7]) (by simp only [wset, hset, dset, bset, Nat.reduceAdd, Nat.reduceMul, Nat.reduceLeDiff, Nat.reduceEqDiff, pset, hlen, if_false, if_true, t8]) (by simp only [wset, hset, dset, bset, Nat.reduceAdd, Nat.reduceMul, Nat.reduceLeDiff, Nat.reduceEqDiff, pset, hlen, if_false, if_true, t9]) (by simp only [wset, hset, dset, bset, Nat.reduceAdd, Nat.reduceMul, Nat.reduceLeDiff, Nat.reduceEqDiff, pset, hlen, if_false, if_true, t10]) (by simp only [wset, hset, dset, bset, Nat.reduceAdd, Nat.reduceMul, Nat.reduceLeDiff, Nat.reduceEqDiff, pset, hlen, if_false, if_true, t11]) (by simp only [wset, hset, dset, bset, Nat.reduceAdd, Nat.reduceMul, Nat.reduceLeDiff, Nat.reduceEqDiff, pset, hlen, if_false, if_true, t12]) (by simp only [wset, hset, dset, bset, Nat.reduceAdd, Nat.reduceMul, Nat.reduceLeDiff, Nat.reduceEqDiff, pset, hlen, if_false, if_true, t13]) (by simp only [wset, hset, dset, bset, Nat.reduceAdd, Nat.reduceMul, Nat.reduceLeDiff, Nat.reduceEqDiff, pset, hlen, if_false, if_true, t14]) (by simp only [wset, hset, dset, bset, Nat.reduceAdd, Nat.reduceMul, Nat.reduceLeDiff, Nat.reduceEqDiff, pset, hlen, if_false, if_true, t15]) (by simp only [wset, hset, dset, bset, Nat.reduceAdd, Nat.reduceMul, Nat.reduceLeDiff, Nat.reduceEqDiff, pset, hlen, if_false, if_true, t16]) (by simp only [wset, hset, dset, bset, Nat.reduceAdd, Nat.reduceMul, Nat.reduceLeDiff, Nat.reduceEqDiff, pset, hlen, if_false, if_true, t1]) ?k18 (by simp only [wset, hset, dset, bset, Nat.reduceAdd, Nat.reduceMul, Nat.reduceLeDiff, Nat.reduceEqDiff, pset, hlen, if_false, if_true, t1]) (by simp only [wset, hset, dset, bset, Nat.reduceAdd, Nat.reduceMul, Nat.reduceLeDiff, Nat.reduceEqDiff, pset, hlen, if_false, if_true, t1]) ?m3 ?m7 ?m17 ?m12 ?o9 ?o10 ?hs hl ?ee
    case hH => rw [List.append_nil]
    case k18 => simp only [wset, hset, dset, bset, Nat.reduceAdd, Nat.reduceMul, Nat.reduceLeDiff, Nat.reduceEqDiff, pset, hlen, if_false, if_true, List.length_append, List.length_cons, List.length_nil]
    case m3 => exact Ext.some (by repeat first | with_reducible exact Ext.refl _ | refine Ext.app _ ?_) m3
    case m7 => exact Ext.some (by repeat first | with_reducible exact Ext.refl _ | refine Ext.app _ ?_) m7
    case m17 => exact at_new
    case m12 => exact Ext.some (by repeat first | with_reducible exact Ext.refl _ | refine Ext.app _ ?_) m12
    case o9 => exact o9.ext (by repeat first | with_reducible exact Ext.refl _ | refine Ext.app _ ?_)
    case o10 => exact o10.ext (by repeat first | with_reducible exact Ext.refl _ | refine Ext.app _ ?_)
    case hs => exact hs.ext (by repeat first | with_reducible exact Ext.refl _ | refine Ext.app _ ?_)
    case ee => exact Ext.trans he (by repeat first | with_reducible exact Ext.refl _ | refine Ext.app _ ?_)

set_option maxRecDepth 10000 in
set_option maxHeartbeats 1000000 in
theorem maps_B {m : Mp} {sm : AV} {W : AHeap} {ts : TS} {x y : AV} {cell c : Int} {b3 b7 b12 : Nat} (hlen : ts.length = 129)
    (t1 : slot ts 1 = .int .i64 cell) (t2 : slot ts 2 = .int .i64 c) (t3 : slot ts 3 = .ptr b3 0) (t7 : slot ts 7 = .ptr b7 0) (t8 : slot ts 8 = .int .i64 (chkCellS m cell)) (t9 : slot ts 9 = x) (t10 : slot ts 10 = y) (t11 : slot ts 11 = .int .i64 (chkContS m cell c)) (t12 : slot ts 12 = .ptr b12 0) (t13 : slot ts 13 = .int .i64 (chkContS m cell c))
    (m3 : W[b3]? = some (.cells [.int .i64 m.cols, .int .i64 m.rows, sm] true false)) (m7 : W[b7]? = some (.cells [.int .i64 (splR m cell).1, .int .i64 (splR m cell).2] true false)) (m12 : W[b12]? = some (.cells [.int .i64 (volR m cell c).1, .int .i64 (volR m cell c).2] true false))
    (o9 : IsSl W x 1 ((regR m cell c).1.map intRow)) (o10 : IsSl W y 1 ((regR m cell c).2.map intRow))
    (hs : IsSl W sm 2 (m.deps.map ratRow)) (hl : m.deps.length ≤ 2 ^ 40) (he : Ext h W) :
    WC P inFn (mpT 5) [] ts W (FQ [(6, none)] fun v h' => Ext h h' ∧ v = .bool true) := by
  have q3 := (List.getElem?_eq_some_iff.1 m3).1
  have l3 : ∀ n o, loadF n (.ptr b3 o) (fun z => W[z]?) = ldB n o (.cells [.int .i64 m.cols, .int .i64 m.rows, sm] true false) := fun n o => loadF_at m3
  rw [mp_B]
  unfold mpc fn6
  simp only [ICode.dr, ICode.tl, ICode.hd]
  have c0 := hs.one
  repeat (first | simp (config := { maxSteps := 1000000 }) only [wset, hset, dset, bset, Nat.reduceAdd, Nat.reduceMul, Nat.reduceLeDiff, Nat.reduceEqDiff, pset, hlen, if_false, if_true, t1, t2, t3, l3, c0] | simp (config := { maxSteps := 1000000 }) (disch := first | (simp only [List.length_append, List.length_cons, List.length_nil] <;> omega) | rfl | omega | fail) only [kset, wset, hset, dset, bset, Nat.reduceAdd, Nat.reduceMul, Nat.reduceLeDiff, Nat.reduceEqDiff, pset, hlen, if_false, if_true, t1, t2, t3, l3, c0])
  refine WF.res T.c58 (r58 T (hs.ext (by repeat first | with_reducible exact Ext.refl _ | refine Ext.app _ ?_)) hl) ?_
  rintro _ g1 rfl
  have hgo : ∀ (ts : TS) (g : AHeap), ts.length = 129 → slot ts 1 = .int .i64 cell → slot ts 2 = .int .i64 c → slot ts 3 = .ptr b3 0 → slot ts 7 = .ptr b7 0 → slot ts 8 = .int .i64 (chkCellS m cell) → slot ts 9 = x → slot ts 10 = y → slot ts 11 = .int .i64 (chkContS m cell c) → slot ts 12 = .ptr b12 0 → slot ts 13 = .int .i64 (chkContS m cell c) → slot ts 14 = .int .i64 (chkMapS m) → slot ts 15 = .int .i64 (chkCellS m cell) → slot ts 16 = .int .i64 (chkContS m cell c) → WC P inFn (mpT 9) [] ts (W ++ g) (FQ [(6, none)] fun v h' => Ext h h' ∧ v = .bool true) :=
    fun ts g k0 k1 k2 k3 k7 k8 k9 k10 k11 k12 k13 k14 k15 k16 => maps_C T k0 k1 k2 k3 k7 k8 k9 k10 k11 k12 k13 k14 k15 k16 (Ext.some (by repeat first | with_reducible exact Ext.refl _ | refine Ext.app _ ?_) m3) (Ext.some (by repeat first | with_reducible exact Ext.refl _ | refine Ext.app _ ?_) m7) (Ext.some (by repeat first | with_reducible exact Ext.refl _ | refine Ext.app _ ?_) m12) (o9.ext (by repeat first | with_reducible exact Ext.refl _ | refine Ext.app _ ?_)) (o10.ext (by repeat first | with_reducible exact Ext.refl _ | refine Ext.app _ ?_)) (hs.ext (by repeat first | with_reducible exact Ext.refl _ | refine Ext.app _ ?_)) hl (Ext.trans he (by repeat first | with_reducible exact Ext.refl _ | refine Ext.app _ ?_))
  by_cases h0 : chkMapS m = 0
  · have hce : chkCellS m cell = cellS m cell := by rw [chkCellS, if_pos h0]
    have d0 : decide (chkMapS m = 0) = true := decide_eq_true h0
    repeat (first | simp (config := { maxSteps := 1000000 }) only [wset, hset, dset, bset, Nat.reduceAdd, Nat.reduceMul, Nat.reduceLeDiff, Nat.reduceEqDiff, pset, hlen, if_false, if_true, t1, t2, t3, l3, c0, d0] | simp (config := { maxSteps := 1000000 }) (disch := first | (simp only [List.length_append, List.length_cons, List.length_nil] <;> omega) | rfl | omega | fail) only [kset, wset, hset, dset, bset, Nat.reduceAdd, Nat.reduceMul, Nat.reduceLeDiff, Nat.reduceEqDiff, pset, hlen, if_false, if_true, t1, t2, t3, l3, c0, d0])
    refine WF.res T.c59 (r59 T (hs.ext (by repeat first | with_reducible exact Ext.refl _ | refine Ext.app _ ?_)) cell) ?_
    rintro _ g2 rfl
    rw [← hce]
    repeat (first | simp (config := { maxSteps := 1000000 }) only [wset, hset, dset, bset, Nat.reduceAdd, Nat.reduceMul, Nat.reduceLeDiff, Nat.reduceEqDiff, pset, hlen, if_false, if_true, t1, t2, t3] | simp (config := { maxSteps := 1000000 }) (disch := first | (simp only [List.length_append, List.length_cons, List.length_nil] <;> omega) | rfl | omega | fail) only [kset, wset, hset, dset, bset, Nat.reduceAdd, Nat.reduceMul, Nat.reduceLeDiff, Nat.reduceEqDiff, pset, hlen, if_false, if_true, t1, t2, t3])
    refine WF.res T.c35 (r35 T _ _ _) ?_
    rintro _ g3 rfl
    repeat (first | simp (config := { maxSteps := 1000000 }) only [wset, hset, dset, bset, Nat.reduceAdd, Nat.reduceMul, Nat.reduceLeDiff, Nat.reduceEqDiff, pset, hlen, if_false, if_true, t1, t2, t3] | simp (config := { maxSteps := 1000000 }) (disch := first | (simp only [List.length_append, List.length_cons, List.length_nil] <;> omega) | rfl | omega | fail) only [kset, wset, hset, dset, bset, Nat.reduceAdd, Nat.reduceMul, Nat.reduceLeDiff, Nat.reduceEqDiff, pset, hlen, if_false, if_true, t1, t2, t3])
    refine WF.res T.c33 (r33 T (isSl_ints [_, _]) (by simp)) ?_
    rintro _ g4 rfl
    rw [show firstS [chkCellS m cell, rangeS c 0 100000000] = chkContS m cell c from rfl]
    repeat (first | simp (config := { maxSteps := 1000000 }) only [wset, hset, dset, bset, Nat.reduceAdd, Nat.reduceMul, Nat.reduceLeDiff, Nat.reduceEqDiff, pset, hlen, if_false, if_true, t1] | simp (config := { maxSteps := 1000000 }) (disch := first | (simp only [List.length_append, List.length_cons, List.length_nil] <;> omega) | rfl | omega | fail) only [kset, wset, hset, dset, bset, Nat.reduceAdd, Nat.reduceMul, Nat.reduceLeDiff, Nat.reduceEqDiff, pset, hlen, if_false, if_true, t1])
    simp only [List.append_assoc]
    exact hgo _ _ (by simp only [wset, hset, dset, bset, Nat.reduceAdd, Nat.reduceMul, Nat.reduceLeDiff, Nat.reduceEqDiff, pset, hlen, if_false, if_true, t1]) (by simp only [wset, hset, dset, bset, Nat.reduceAdd, Nat.reduceMul, Nat.reduceLeDiff, Nat.reduceEqDiff, pset, hlen, if_false, if_true, t1]) (by simp only [wset, hset, dset, bset, Nat.reduceAdd, Nat.reduceMul, Nat.reduceLeDiff, Nat.reduceEqDiff, pset, hlen, if_false, if_true, t2]) (by simp only [wset, hset, dset, bset, Nat.reduceAdd, Nat.reduceMul, Nat.reduceLeDiff, Nat.reduceEqDiff, pset, hlen, if_false, if_true, t3]) (by simp only [wset, hset, dset, bset, Nat.reduceAdd, Nat.reduceMul, Nat.reduceLeDiff, Nat.reduceEqDiff, pset, hlen, if_false, if_true, t7]) (by simp only [wset, hset, dset, bset, Nat.reduceAdd, Nat.reduceMul, Nat.reduceLeDiff, Nat.reduceEqDiff, pset, hlen, if_false, if_true, t8]) (by simp only [wset, hset, dset, bset, Nat.reduceAdd, Nat.reduceMul, Nat.reduceLeDiff, Nat.reduceEqDiff, pset, hlen, if_false, if_true, t9]) (by simp only [wset, hset, dset, bset, Nat.reduceAdd, Nat.reduceMul, Nat.reduceLeDiff, Nat.reduceEqDiff, pset, hlen, if_false, if_true, t10]) (by simp only [wset, hset, dset, bset, Nat.reduceAdd, Nat.reduceMul, Nat.reduceLeDiff, Nat.reduceEqDiff, pset, hlen, if_false, if_true, t11]) (by simp only [wset, hset, dset, bset, Nat.reduceAdd, Nat.reduceMul, Nat.reduceLeDiff, Nat.reduceEqDiff, pset, hlen, if_false, if_true, t12]) (by simp only [wset, hset, dset, bset, Nat.reduceAdd, Nat.reduceMul, Nat.reduceLeDiff, Nat.reduceEqDiff, pset, hlen, if_false, if_true, t13]) (by simp only [wset, hset, dset, bset, Nat.reduceAdd, Nat.reduceMul, Nat.reduceLeDiff, Nat.reduceEqDiff, pset, hlen, if_false, if_true, t1]) (by simp only [wset, hset, dset, bset, Nat.reduceAdd, Nat.reduceMul, Nat.reduceLeDiff, Nat.reduceEqDiff, pset, hlen, if_false, if_true, t1]) (by simp only [wset, hset, dset, bset, Nat.reduceAdd, Nat.reduceMul, Nat.reduceLeDiff, Nat.reduceEqDiff, pset, hlen, if_false, if_true, t1])
  · have hce : chkCellS m cell = chkMapS m := by rw [chkCellS, if_neg h0]
    have d0 : decide (chkMapS m = 0) = false := decide_eq_false h0
    repeat (first | simp (config := { maxSteps := 1000000 }) only [wset, hset, dset, bset, Nat.reduceAdd, Nat.reduceMul, Nat.reduceLeDiff, Nat.reduceEqDiff, pset, hlen, if_false, if_true, t1, t2, t3, l3, c0, d0] | simp (config := { maxSteps := 1000000 }) (disch := first | (simp only [List.length_append, List.length_cons, List.length_nil] <;> omega) | rfl | omega | fail) only [kset, wset, hset, dset, bset, Nat.reduceAdd, Nat.reduceMul, Nat.reduceLeDiff, Nat.reduceEqDiff, pset, hlen, if_false, if_true, t1, t2, t3, l3, c0, d0])
    refine WF.res T.c35 (r35 T _ _ _) ?_
    rintro _ g3 rfl
    repeat (first | simp (config := { maxSteps := 1000000 }) only [wset, hset, dset, bset, Nat.reduceAdd, Nat.reduceMul, Nat.reduceLeDiff, Nat.reduceEqDiff, pset, hlen, if_false, if_true, t1, t2, t3] | simp (config := { maxSteps := 1000000 }) (disch := first | (simp only [List.length_append, List.length_cons, List.length_nil] <;> omega) | rfl | omega | fail) only [kset, wset, hset, dset, bset, Nat.reduceAdd, Nat.reduceMul, Nat.reduceLeDiff, Nat.reduceEqDiff, pset, hlen, if_false, if_true, t1, t2, t3])
    refine WF.res T.c33 (r33 T (isSl_ints [_, _]) (by simp)) ?_
    rintro _ g4 rfl
    rw [show firstS [chkMapS m, rangeS c 0 100000000] = chkContS m cell c by rw [← hce]; rfl]
    repeat (first | simp (config := { maxSteps := 1000000 }) only [wset, hset, dset, bset, Nat.reduceAdd, Nat.reduceMul, Nat.reduceLeDiff, Nat.reduceEqDiff, pset, hlen, if_false, if_true, t1] | simp (config := { maxSteps := 1000000 }) (disch := first | (simp only [List.length_append, List.length_cons, List.length_nil] <;> omega) | rfl | omega | fail) only [kset, wset, hset, dset, bset, Nat.reduceAdd, Nat.reduceMul, Nat.reduceLeDiff, Nat.reduceEqDiff, pset, hlen, if_false, if_true, t1])
    simp only [List.append_assoc]
    refine hgo _ _ (by simp only [wset, hset, dset, bset, Nat.reduceAdd, Nat.reduceMul, Nat.reduceLeDiff, Nat.reduceEqDiff, pset, hlen, if_false, if_true, t1]) (by simp only [wset, hset, dset, bset, Nat.reduceAdd, Nat.reduceMul, Nat.reduceLeDiff, Nat.reduceEqDiff, pset, hlen, if_false, if_true, t1]) (by simp only [wset, hset, dset, bset, Nat.reduceAdd, Nat.reduceMul, Nat.reduceLeDiff, Nat.reduceEqDiff, pset, hlen, if_false, if_true, t2]) (by simp only [wset, hset, dset, bset, Nat.reduceAdd, Nat.reduceMul, Nat.reduceLeDiff, Nat.reduceEqDiff, pset, hlen, if_false, if_true, t3]) (by simp only [wset, hset, dset, bset, Nat.reduceAdd, Nat.reduceMul, Nat.reduceLeDiff, Nat.reduceEqDiff, pset, hlen, if_false, if_true, t7]) (by simp only [wset, hset, dset, bset, Nat.reduceAdd, Nat.reduceMul, Nat.reduceLeDiff, Nat.reduceEqDiff, pset, hlen, if_false, if_true, t8]) (by simp only [wset, hset, dset, bset, Nat.reduceAdd, Nat.reduceMul, Nat.reduceLeDiff, Nat.reduceEqDiff, pset, hlen, if_false, if_true, t9]) (by simp only [wset, hset, dset, bset, Nat.reduceAdd, Nat.reduceMul, Nat.reduceLeDiff, Nat.reduceEqDiff, pset, hlen, if_false, if_true, t10]) (by simp only [wset, hset, dset, bset, Nat.reduceAdd, Nat.reduceMul, Nat.reduceLeDiff, Nat.reduceEqDiff, pset, hlen, if_false, if_true, t11]) (by simp only [wset, hset, dset, bset, Nat.reduceAdd, Nat.reduceMul, Nat.reduceLeDiff, Nat.reduceEqDiff, pset, hlen, if_false, if_true, t12]) (by simp only [wset, hset, dset, bset, Nat.reduceAdd, Nat.reduceMul, Nat.reduceLeDiff, Nat.reduceEqDiff, pset, hlen, if_false, if_true, t13]) (by simp only [wset, hset, dset, bset, Nat.reduceAdd, Nat.reduceMul, Nat.reduceLeDiff, Nat.reduceEqDiff, pset, hlen, if_false, if_true, t1]) ?k15 (by simp only [wset, hset, dset, bset, Nat.reduceAdd, Nat.reduceMul, Nat.reduceLeDiff, Nat.reduceEqDiff, pset, hlen, if_false, if_true, t1])
    simp only [wset, hset, dset, bset, Nat.reduceAdd, Nat.reduceMul, Nat.reduceLeDiff, Nat.reduceEqDiff, pset, hlen, if_false, if_true]; rw [hce]

variable (S : SrtOk P)
include S
set_option maxRecDepth 10000 in
set_option maxHeartbeats 1000000 in
theorem maps_A {m : Mp} {sm : AV} {W : AHeap} {ts : TS} {cell c : Int} {b3 : Nat} (hlen : ts.length = 129) (gl : Glb W)
    (t1 : slot ts 1 = .int .i64 cell) (t2 : slot ts 2 = .int .i64 c) (t3 : slot ts 3 = .ptr b3 0)
    (m3 : W[b3]? = some (.cells [.int .i64 m.cols, .int .i64 m.rows, sm] true false))
    (hs : IsSl W sm 2 (m.deps.map ratRow)) (hl : m.deps.length ≤ 2 ^ 40) (he : Ext h W) :
    WC P inFn (mpT 2) [] ts W (FQ [(6, none)] fun v h' => Ext h h' ∧ v = .bool true) := by
  have q3 := (List.getElem?_eq_some_iff.1 m3).1
  have l3 : ∀ n o, loadF n (.ptr b3 o) (fun z => W[z]?) = ldB n o (.cells [.int .i64 m.cols, .int .i64 m.rows, sm] true false) := fun n o => loadF_at m3
  rw [mp_A]
  unfold mpc fn6
  simp only [ICode.dr, ICode.tl, ICode.hd]
  have c0 := hs.one
  repeat (first | simp (config := { maxSteps := 1000000 }) only [wset, hset, dset, bset, Nat.reduceAdd, Nat.reduceMul, Nat.reduceLeDiff, Nat.reduceEqDiff, pset, hlen, if_false, if_true, t1, t2, t3, l3, c0] | simp (config := { maxSteps := 1000000 }) (disch := first | (simp only [List.length_append, List.length_cons, List.length_nil] <;> omega) | rfl | omega | fail) only [kset, wset, hset, dset, bset, Nat.reduceAdd, Nat.reduceMul, Nat.reduceLeDiff, Nat.reduceEqDiff, pset, hlen, if_false, if_true, t1, t2, t3, l3, c0])
  refine WF.res T.c55 (r55 T (hs.ext (by repeat first | with_reducible exact Ext.refl _ | refine Ext.app _ ?_)) hl) ?_
  rintro _ g1 ⟨s1, rfl, hf1⟩
  repeat (first | simp (config := { maxSteps := 1000000 }) only [wset, hset, dset, bset, Nat.reduceAdd, Nat.reduceMul, Nat.reduceLeDiff, Nat.reduceEqDiff, pset, hlen, if_false, if_true, t1, t2, t3, l3, c0, hf1.isSl.one] | simp (config := { maxSteps := 1000000 }) (disch := first | (simp only [List.length_append, List.length_cons, List.length_nil] <;> omega) | rfl | omega | fail) only [kset, wset, hset, dset, bset, Nat.reduceAdd, Nat.reduceMul, Nat.reduceLeDiff, Nat.reduceEqDiff, pset, hlen, if_false, if_true, t1, t2, t3, l3, c0, hf1.isSl.one])
  refine WF.res T.c54 (r54 T S (gl.ext (by repeat first | with_reducible exact Ext.refl _ | refine Ext.app _ ?_)) hf1.isSl hl cell) ?_
  rintro _ g2 rfl
  repeat (first | simp (config := { maxSteps := 1000000 }) only [wset, hset, dset, bset, Nat.reduceAdd, Nat.reduceMul, Nat.reduceLeDiff, Nat.reduceEqDiff, pset, hlen, if_false, if_true, t1, t2, t3, l3, c0] | simp (config := { maxSteps := 1000000 }) (disch := first | (simp only [List.length_append, List.length_cons, List.length_nil] <;> omega) | rfl | omega | fail) only [kset, wset, hset, dset, bset, Nat.reduceAdd, Nat.reduceMul, Nat.reduceLeDiff, Nat.reduceEqDiff, pset, hlen, if_false, if_true, t1, t2, t3, l3, c0])
  refine WF.res T.c55 (r55 T (hs.ext (by repeat first | with_reducible exact Ext.refl _ | refine Ext.app _ ?_)) hl) ?_
  rintro _ g3 ⟨s2, rfl, hf2⟩
  repeat (first | simp (config := { maxSteps := 1000000 }) only [wset, hset, dset, bset, Nat.reduceAdd, Nat.reduceMul, Nat.reduceLeDiff, Nat.reduceEqDiff, pset, hlen, if_false, if_true, t1, t2, t3, l3, c0, hf2.isSl.one] | simp (config := { maxSteps := 1000000 }) (disch := first | (simp only [List.length_append, List.length_cons, List.length_nil] <;> omega) | rfl | omega | fail) only [kset, wset, hset, dset, bset, Nat.reduceAdd, Nat.reduceMul, Nat.reduceLeDiff, Nat.reduceEqDiff, pset, hlen, if_false, if_true, t1, t2, t3, l3, c0, hf2.isSl.one])
  refine WF.res T.c56 (r56 T S (gl.ext (by repeat first | with_reducible exact Ext.refl _ | refine Ext.app _ ?_)) hf2.isSl hl cell c) ?_
  rintro _ g4 ⟨x, y, rfl, hx, hy⟩
  repeat (first | simp (config := { maxSteps := 1000000 }) only [wset, hset, dset, bset, Nat.reduceAdd, Nat.reduceMul, Nat.reduceLeDiff, Nat.reduceEqDiff, pset, hlen, if_false, if_true, t1, t2, t3, l3, c0] | simp (config := { maxSteps := 1000000 }) (disch := first | (simp only [List.length_append, List.length_cons, List.length_nil] <;> omega) | rfl | omega | fail) only [kset, wset, hset, dset, bset, Nat.reduceAdd, Nat.reduceMul, Nat.reduceLeDiff, Nat.reduceEqDiff, pset, hlen, if_false, if_true, t1, t2, t3, l3, c0])
  refine WF.res T.c55 (r55 T (hs.ext (by repeat first | with_reducible exact Ext.refl _ | refine Ext.app _ ?_)) hl) ?_
  rintro _ g5 ⟨s3, rfl, hf3⟩
  repeat (first | simp (config := { maxSteps := 1000000 }) only [wset, hset, dset, bset, Nat.reduceAdd, Nat.reduceMul, Nat.reduceLeDiff, Nat.reduceEqDiff, pset, hlen, if_false, if_true, t1, t2, t3, l3, c0, hf3.isSl.one] | simp (config := { maxSteps := 1000000 }) (disch := first | (simp only [List.length_append, List.length_cons, List.length_nil] <;> omega) | rfl | omega | fail) only [kset, wset, hset, dset, bset, Nat.reduceAdd, Nat.reduceMul, Nat.reduceLeDiff, Nat.reduceEqDiff, pset, hlen, if_false, if_true, t1, t2, t3, l3, c0, hf3.isSl.one])
  refine WF.res T.c57 (r57 T S (gl.ext (by repeat first | with_reducible exact Ext.refl _ | refine Ext.app _ ?_)) hf3.isSl hl cell c) ?_
  rintro _ g6 rfl
  repeat (first | simp (config := { maxSteps := 1000000 }) only [wset, hset, dset, bset, Nat.reduceAdd, Nat.reduceMul, Nat.reduceLeDiff, Nat.reduceEqDiff, pset, hlen, if_false, if_true, t1, t2, t3, l3, c0] | simp (config := { maxSteps := 1000000 }) (disch := first | (simp only [List.length_append, List.length_cons, List.length_nil] <;> omega) | rfl | omega | fail) only [kset, wset, hset, dset, bset, Nat.reduceAdd, Nat.reduceMul, Nat.reduceLeDiff, Nat.reduceEqDiff, pset, hlen, if_false, if_true, t1, t2, t3, l3, c0])
  refine maps_B T (m := m) (sm := sm) (x := x) (y := y) (cell := cell) (c := c) (b3 := b3) (b7 := ?b7) (b12 := ?b12) (by simp only [wset, hset, dset, bset, Nat.reduceAdd, Nat.reduceMul, Nat.reduceLeDiff, Nat.reduceEqDiff, pset, hlen, if_false, if_true, t1]) (by simp only [wset, hset, dset, bset, Nat.reduceAdd, Nat.reduceMul, Nat.reduceLeDiff, Nat.reduceEqDiff, pset, hlen, if_false, if_true, t1]) (by simp only [wset, hset, dset, bset, Nat.reduceAdd, Nat.reduceMul, Nat.reduceLeDiff, Nat.reduceEqDiff, pset, hlen, if_false, if_true, t2]) (by simp only [wset, hset, dset, bset, Nat.reduceAdd, Nat.reduceMul, Nat.reduceLeDiff, Nat.reduceEqDiff, pset, hlen, if_false, if_true, t3]) ?k7 (by simp only [wset, hset, dset, bset, Nat.reduceAdd, Nat.reduceMul, Nat.reduceLeDiff, Nat.reduceEqDiff, pset, hlen, if_false, if_true, t1]) (by simp only [wset, hset, dset, bset, Nat.reduceAdd, Nat.reduceMul, Nat.reduceLeDiff, Nat.reduceEqDiff, pset, hlen, if_false, if_true, t1]) (by simp only [wset, hset, dset, bset, Nat.reduceAdd, Nat.reduceMul, Nat.reduceLeDiff, Nat.reduceEqDiff, pset, hlen, if_false, if_true, t1]) (by simp only [wset, hset, dset, bset, Nat.reduceAdd, Nat.reduceMul, Nat.reduceLeDiff, Nat.reduceEqDiff, pset, hlen, if_false, if_true, t1]) ?k12 (by simp only [wset, hset, dset, bset, Nat.reduceAdd, Nat.reduceMul, Nat.reduceLeDiff, Nat.reduceEqDiff, pset, hlen, if_false, if_true, t1]) ?m3 ?m7 ?m12 ?o9 ?o10 ?hs hl ?ee
  case k7 => simp only [wset, hset, dset, bset, Nat.reduceAdd, Nat.reduceMul, Nat.reduceLeDiff, Nat.reduceEqDiff, pset, hlen, if_false, if_true]; rfl
  case k12 => simp only [wset, hset, dset, bset, Nat.reduceAdd, Nat.reduceMul, Nat.reduceLeDiff, Nat.reduceEqDiff, pset, hlen, if_false, if_true]; rfl
  case m3 => exact Ext.some (by repeat first | with_reducible exact Ext.refl _ | refine Ext.app _ ?_) m3
  case m7 => exact Ext.some (by repeat first | with_reducible exact Ext.refl _ | refine Ext.app _ ?_) at_new
  case m12 => exact at_new
  case o9 => exact hx.ext (by repeat first | with_reducible exact Ext.refl _ | refine Ext.app _ ?_)
  case o10 => exact hy.ext (by repeat first | with_reducible exact Ext.refl _ | refine Ext.app _ ?_)
  case hs => exact hs.ext (by repeat first | with_reducible exact Ext.refl _ | refine Ext.app _ ?_)
  case ee => exact Ext.trans he (by repeat first | with_reducible exact Ext.refl _ | refine Ext.app _ ?_)

set_option maxRecDepth 10000 in
set_option maxHeartbeats 1000000 in
theorem r6 (gl : Glb h) (haw : ∀ k, Ext h k → RCall P 15 [] k (fun v _ => v = .bool true)) {m : Mp} {sm : AV} {cell c : Int} (hs : IsSl h sm 2 (m.deps.map ratRow)) :
    RCall P 6 [mapA m sm, .int .i64 cell, .int .i64 c] h (fun v _ => v = .bool true) := by
  refine .of T.mix (Eq.trans T.c6 (congrArg some mp_0)) ?_
  obtain ⟨ts, hts⟩ : ∃ ts, ts = startTS 129 [mapA m sm, .int .i64 cell, .int .i64 c] := ⟨_, rfl⟩
  have hlen : ts.length = 129 := by rw [hts]; rfl
  have t0 : slot ts 0 = mapA m sm := by rw [hts]; rfl
  have t1 : slot ts 1 = .int .i64 cell := by rw [hts]; rfl
  have t2 : slot ts 2 = .int .i64 c := by rw [hts]; rfl
  have c0 := hs.one
  show WC P inFn (.seq (mpc 0) (.seq (mpc 1) (mpT 2))) [] (startTS 129 _) h (FQ [(6, none)] _)
  rw [← hts]
  clear hts
  unfold mpc fn6
  simp only [ICode.dr, ICode.tl, ICode.hd]
  repeat (first | simp (config := { maxSteps := 1000000 }) only [wset, hset, dset, bset, Nat.reduceAdd, Nat.reduceMul, Nat.reduceLeDiff, Nat.reduceEqDiff, pset, hlen, if_false, if_true, t0, t1, c0] | simp (config := { maxSteps := 1000000 }) (disch := first | (simp only [List.length_append, List.length_cons, List.length_nil] <;> omega) | rfl | omega | fail) only [kset, wset, hset, dset, bset, Nat.reduceAdd, Nat.reduceMul, Nat.reduceLeDiff, Nat.reduceEqDiff, pset, hlen, if_false, if_true, t0, t1, c0])
  refine WF.res T.c15 (haw _ (by repeat first | with_reducible exact Ext.refl _ | refine Ext.app _ ?_)) ?_
  rintro _ g1 rfl
  repeat (first | simp (config := { maxSteps := 1000000 }) only [wset, hset, dset, bset, Nat.reduceAdd, Nat.reduceMul, Nat.reduceLeDiff, Nat.reduceEqDiff, pset, hlen, if_false, if_true, t0, t1, c0, Bool.not_true] | simp (config := { maxSteps := 1000000 }) (disch := first | (simp only [List.length_append, List.length_cons, List.length_nil] <;> omega) | rfl | omega | fail) only [kset, wset, hset, dset, bset, Nat.reduceAdd, Nat.reduceMul, Nat.reduceLeDiff, Nat.reduceEqDiff, pset, hlen, if_false, if_true, t0, t1, c0, Bool.not_true])
  refine WF.res T.c53 (r53 T (hs.ext (by repeat first | with_reducible exact Ext.refl _ | refine Ext.app _ ?_))) ?_
  rintro _ g2 rfl
  by_cases hsh : m.deps.length ≤ 30
  · repeat (first | simp (config := { maxSteps := 1000000 }) only [wset, hset, dset, bset, Nat.reduceAdd, Nat.reduceMul, Nat.reduceLeDiff, Nat.reduceEqDiff, pset, hlen, if_false, if_true, t0, t1, c0, decide_eq_true hsh, Bool.not_true] | simp (config := { maxSteps := 1000000 }) (disch := first | (simp only [List.length_append, List.length_cons, List.length_nil] <;> omega) | rfl | omega | fail) only [kset, wset, hset, dset, bset, Nat.reduceAdd, Nat.reduceMul, Nat.reduceLeDiff, Nat.reduceEqDiff, pset, hlen, if_false, if_true, t0, t1, c0, decide_eq_true hsh, Bool.not_true])
    refine maps_A T S (h := h) (m := m) (sm := sm) (cell := cell) (c := c) (b3 := h.length) (by simp only [wset, hset, dset, bset, Nat.reduceAdd, Nat.reduceMul, Nat.reduceLeDiff, Nat.reduceEqDiff, pset, hlen, if_false, if_true, t1]) (gl.ext (by repeat first | with_reducible exact Ext.refl _ | refine Ext.app _ ?_)) (by simp only [wset, hset, dset, bset, Nat.reduceAdd, Nat.reduceMul, Nat.reduceLeDiff, Nat.reduceEqDiff, pset, hlen, if_false, if_true, t1]) (by simp only [wset, hset, dset, bset, Nat.reduceAdd, Nat.reduceMul, Nat.reduceLeDiff, Nat.reduceEqDiff, pset, hlen, if_false, if_true, t2]) (by simp only [wset, hset, dset, bset, Nat.reduceAdd, Nat.reduceMul, Nat.reduceLeDiff, Nat.reduceEqDiff, pset, hlen, if_false, if_true, t0]) ?m3 ?hs (by omega) ?ee
    case m3 => exact Ext.some (by repeat first | with_reducible exact Ext.refl _ | refine Ext.app _ ?_) (at_new (X := h))
    case hs => exact hs.ext (by repeat first | with_reducible exact Ext.refl _ | refine Ext.app _ ?_)
    case ee => exact (by repeat first | with_reducible exact Ext.refl _ | refine Ext.app _ ?_)
  · repeat (first | simp (config := { maxSteps := 1000000 }) only [wset, hset, dset, bset, Nat.reduceAdd, Nat.reduceMul, Nat.reduceLeDiff, Nat.reduceEqDiff, pset, hlen, if_false, if_true, t0, t1, c0, decide_eq_false hsh, Bool.not_false] | simp (config := { maxSteps := 1000000 }) (disch := first | (simp only [List.length_append, List.length_cons, List.length_nil] <;> omega) | rfl | omega | fail) only [kset, wset, hset, dset, bset, Nat.reduceAdd, Nat.reduceMul, Nat.reduceLeDiff, Nat.reduceEqDiff, pset, hlen, if_false, if_true, t0, t1, c0, decide_eq_false hsh, Bool.not_false])
    refine WF.res T.c15 (haw _ (by repeat first | with_reducible exact Ext.refl _ | refine Ext.app _ ?_)) ?_
    rintro _ g3 rfl
    repeat (first | simp (config := { maxSteps := 1000000 }) only [wset, hset, dset, bset, Nat.reduceAdd, Nat.reduceMul, Nat.reduceLeDiff, Nat.reduceEqDiff, pset, hlen, if_false, if_true, t0] | simp (config := { maxSteps := 1000000 }) (disch := first | (simp only [List.length_append, List.length_cons, List.length_nil] <;> omega) | rfl | omega | fail) only [kset, wset, hset, dset, bset, Nat.reduceAdd, Nat.reduceMul, Nat.reduceLeDiff, Nat.reduceEqDiff, pset, hlen, if_false, if_true, t0])
end
end Go.Abs
