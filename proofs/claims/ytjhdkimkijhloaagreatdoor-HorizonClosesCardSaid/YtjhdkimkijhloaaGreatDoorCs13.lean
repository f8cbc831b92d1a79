/- The type of a map among the arguments, and what the maps' rows need besides. No condition. · Contracts, part AK: the reference's maps: border, depths, checks. No condition. · Contracts, part AL: the checks of a map, of a cell and of a contact. No condition. · Contracts, part O: a fault. No condition. · Contracts, part AH: stores of whole elements. No condition. · Contracts, part AM: the reference's area. No condition. · Contracts, part P: the reference's fault; steps. No condition. · Contracts, part Q: the reference's steps; rounding. No condition. · Contracts, part R: the common places of two horizons; a filled horizon. No condition. · Contracts, part AN: sorted values. No condition. · The spill of a cell, in plain Lean. No condition. · What the closures promise, in plain Lean. No condition. · Contracts, part AO: the program's spill, region and volume. No condition. · Contracts, part AP: the reference's spill and volume. No condition. · Contracts, part AC: whether a list has an integer. No condition. -/
import Derived.Test.YtjhdkimkijhloaaGreatDoorCs8
import Derived.Test.YtjhdkimkijhloaaGreatDoorCs11
import Derived.Test.YtjhdkimkijhloaaGreatDoorCs12
import Derived.Test.YtjhdkimkijhloaaGreatDoorCs5
set_option linter.all false
namespace Go.Abs
def ctMap : List CT := [.int .i64, .int .i64, .sl ctPk]
theorem tya_map {h : AHeap} {a : AV} (x : TYa h (.agg ctMap) a) : ∃ (m : Mp) (s : AV), a = mapA m s ∧ IsSl h s 2 (m.deps.map ratRow) := by
  obtain ⟨l, rfl, x⟩ := x
  obtain ⟨_, _, rfl, h1, x⟩ := tys_cons x
  obtain ⟨_, _, rfl, h2, x⟩ := tys_cons x
  obtain ⟨_, _, rfl, h3, x⟩ := tys_cons x
  obtain rfl := tys_nil x
  obtain ⟨a, rfl, _⟩ := ty_int h1
  obtain ⟨b, rfl, _⟩ := ty_int h2
  obtain ⟨L, hL, _⟩ := ty_ivs h3
  exact ⟨⟨a, b, L⟩, _, rfl, hL⟩
theorem srt : SrtOk Go.Proofs.Tryz.prog := ⟨sort_ok, sort_nil⟩
theorem gl0 {k : AHeap} (e : Ext glob0 k) : Glb k := e.some rfl
end Go.Abs
namespace Go.Abs
attribute [local irreducible] WP WC WE WB WR WF WL WG WRg
def brdS (m : Mp) (x : Int) : Bool := decide (x % m.cols = 0) || (decide (x % m.cols = m.cols - 1) || (decide (x / m.cols = 0) || decide (x / m.cols = m.rows - 1)))
theorem brd_nb {m : Mp} (v : MpV m) {x : Int} (hx : InM m x) : decide ((nbS m x).length < 4) = brdS m x := by
  obtain ⟨b1, b2, b3, b4, b5⟩ := cell_bd v hx
  have key : ∀ s : Int × Int, nbOk m x s = true ↔ (0 ≤ x % m.cols + s.1 ∧ x % m.cols + s.1 < m.cols) ∧ (0 ≤ x / m.cols + s.2 ∧ x / m.cols + s.2 < m.rows) := by
    intro s
    unfold nbOk nbC
    simp only [Bool.and_eq_true, decide_eq_true_eq, and_assoc]
  have h1 : (nbS m x).length < 4 ↔ ∃ s ∈ stepsL, ¬ nbOk m x s = true := by
    rw [nbS, List.length_map]
    exact List.length_filter_lt_length_iff_exists (l := stepsL)
  rw [Bool.eq_iff_iff, decide_eq_true_eq, h1]
  unfold brdS
  simp only [stepsL, List.mem_cons, List.not_mem_nil, or_false, exists_eq_or_imp, exists_eq_left, key, Bool.or_eq_true, decide_eq_true_eq]
  omega
section
variable {P : Program} (T : Tbl P) {h : AHeap}
include T
theorem r71 {m : Mp} {s : AV} (hs : s.one = true) (v : MpV m) {cell : Int} (hc : InM m cell) : RCall P 71 [mapA m s, .int .i64 cell] h (fun w _ => w = .bool (brdS m cell)) := by
  refine .of T.mix T.c71 ?_
  unfold fn71
  obtain ⟨b1, b2, b3, b4, b5⟩ := cell_bd v hc
  have vc := v.c
  have vr := v.r
  have hc0 : m.cols ≠ 0 := by omega
  have er : cell.tmod m.cols = cell % m.cols := Int.tmod_eq_emod_of_nonneg hc.1
  have eq : cell.tdiv m.cols = cell / m.cols := Int.tdiv_eq_ediv_of_nonneg hc.1
  have w0 : IntKind.i64.wrap (cell / m.cols) = cell / m.cols := wrap_in (by omega) (by omega)
  have w1 : IntKind.i64.wrap (m.cols - 1) = m.cols - 1 := wrap_in (by omega) (by omega)
  have w2 : IntKind.i64.wrap (m.rows - 1) = m.rows - 1 := wrap_in (by omega) (by omega)
  unfold brdS
  by_cases h1 : cell % m.cols = 0
  · simp only [wset, hset, dset, bset, Nat.reduceAdd, Nat.reduceMul, Nat.reduceLeDiff, Nat.reduceEqDiff, hs, er, eq, w0, w1, w2, bin_rem hc0, bin_quo hc0, decide_eq_true h1, Bool.true_or, Bool.false_or]
  by_cases h2 : cell % m.cols = m.cols - 1
  · simp only [wset, hset, dset, bset, Nat.reduceAdd, Nat.reduceMul, Nat.reduceLeDiff, Nat.reduceEqDiff, hs, er, eq, w0, w1, w2, bin_rem hc0, bin_quo hc0, decide_eq_false h1, decide_eq_true h2, Bool.true_or, Bool.false_or]
  by_cases h3 : cell / m.cols = 0
  · simp only [wset, hset, dset, bset, Nat.reduceAdd, Nat.reduceMul, Nat.reduceLeDiff, Nat.reduceEqDiff, hs, er, eq, w0, w1, w2, bin_rem hc0, bin_quo hc0, decide_eq_false h1, decide_eq_false h2, decide_eq_true h3, Bool.true_or, Bool.false_or]
  · simp only [wset, hset, dset, bset, Nat.reduceAdd, Nat.reduceMul, Nat.reduceLeDiff, Nat.reduceEqDiff, hs, er, eq, w0, w1, w2, bin_rem hc0, bin_quo hc0, decide_eq_false h1, decide_eq_false h2, decide_eq_false h3, Bool.true_or, Bool.false_or]

end
end Go.Abs
namespace Go.Abs
def cellS (m : Mp) (cell : Int) : Int := whenS (decide (cell < 0) || decide ((m.deps.length : Int) ≤ cell)) 10
def chkCellS (m : Mp) (cell : Int) : Int := if chkMapS m = 0 then cellS m cell else chkMapS m
def chkContS (m : Mp) (cell c : Int) : Int := firstS [chkCellS m cell, rangeS c 0 100000000]
theorem cell_zero {m : Mp} {cell : Int} : cellS m cell = 0 ↔ 0 ≤ cell ∧ cell < m.deps.length := by
  unfold cellS
  rw [whenS_zero (by decide), Bool.or_eq_false_iff, decide_eq_false_iff_not, decide_eq_false_iff_not]
  omega
theorem chkCell_zero {m : Mp} {cell : Int} : chkCellS m cell = 0 ↔ MpV m ∧ InM m cell := by
  unfold chkCellS
  by_cases h : chkMapS m = 0
  · rw [if_pos h, cell_zero]
    have v := map_zero.1 h
    have := v.l
    unfold InM
    exact ⟨fun x => ⟨v, x.1, by omega⟩, fun x => ⟨x.2.1, by have := x.2.2; omega⟩⟩
  · rw [if_neg h]
    exact ⟨fun x => absurd x h, fun x => absurd (map_zero.2 x.1) h⟩
theorem chkCont_zero {m : Mp} {cell c : Int} : chkContS m cell c = 0 ↔ (MpV m ∧ InM m cell) ∧ 0 ≤ c ∧ c ≤ 100000000 := by
  unfold chkContS
  rw [firstS_zero]
  simp only [List.mem_cons, List.not_mem_nil, or_false, forall_eq_or_imp, forall_eq, chkCell_zero, rangeS_zero]

attribute [local irreducible] WP WC WE WB WR WF WL WG WRg
section
variable {P : Program} (T : Tbl P) {h : AHeap}
include T
theorem r58 {m : Mp} {s : AV} (hs : IsSl h s 2 (m.deps.map ratRow)) (hl : m.deps.length ≤ 2 ^ 40) : RCall P 58 [mapA m s] h (fun v _ => v = .int .i64 (chkMapS m)) := by
  refine .of T.mix T.c58 ?_
  unfold fn58
  simp only [wset, hset, dset, bset, Nat.reduceAdd, Nat.reduceMul, Nat.reduceLeDiff, Nat.reduceEqDiff, hs.one]
  refine WF.res T.c35 (r35 T _ _ _) ?_
  rintro _ g1 rfl
  simp only [wset, hset, dset, bset, Nat.reduceAdd, Nat.reduceMul, Nat.reduceLeDiff, Nat.reduceEqDiff]
  refine WF.res T.c35 (r35 T _ _ _) ?_
  rintro _ g2 rfl
  simp only [wset, hset, dset, bset, Nat.reduceAdd, Nat.reduceMul, Nat.reduceLeDiff, Nat.reduceEqDiff, hs.lenm]
  refine WF.res T.c22 (r22 T _ _) ?_
  rintro _ g3 rfl
  simp only [wset, hset, dset, bset, Nat.reduceAdd, Nat.reduceMul, Nat.reduceLeDiff, Nat.reduceEqDiff]
  refine WF.res T.c98 (r98 T (isSl_ints [_, _, _]) (by simp)) ?_
  rintro _ g4 rfl
  rw [head_wrap]
  by_cases h0 : mapHeadS m = 0
  case neg =>
    simp only [wset, hset, dset, bset, Nat.reduceAdd, Nat.reduceMul, Nat.reduceLeDiff, Nat.reduceEqDiff, show decide (mapHeadS m ≠ 0) = true from decide_eq_true h0]
    rw [chkMapS, if_neg h0]
  simp only [wset, hset, dset, bset, Nat.reduceAdd, Nat.reduceMul, Nat.reduceLeDiff, Nat.reduceEqDiff, show decide (mapHeadS m ≠ 0) = false from decide_eq_false (fun hne => hne h0)]
  rw [chkMapS, if_pos h0]
  obtain ⟨B, hB⟩ : ∃ B, B = h ++ [ABlk.cells [AV.int IntKind.i64 m.cols, AV.int IntKind.i64 m.rows, s] true false] := ⟨_, rfl⟩
  have eB : Ext h B := by rw [hB]; exact (by repeat first | with_reducible exact Ext.refl _ | refine Ext.app _ ?_)
  have m1 : B[h.length]? = some (.cells [AV.int IntKind.i64 m.cols, AV.int IntKind.i64 m.rows, s] true false) := by rw [hB, List.getElem?_append_right (Nat.le_refl _), Nat.sub_self]; rfl
  have lB : ∀ {n : Option Nat} {o : Nat} {kk : AHeap}, Ext B kk → loadF n (.ptr h.length o) (fun b => kk[b]?) = ldB n o (.cells [AV.int IntKind.i64 m.cols, AV.int IntKind.i64 m.rows, s] true false) := fun e => loadF_at (e.some m1)
  rw [← hB]
  have hsB := hs.ext eB
  clear hB
  refine WL.inv T.mix (fun n ts h' => ∃ k : Nat, k ≤ m.deps.length ∧ n = m.deps.length - k ∧ Ext B h' ∧ firstS (m.deps.map fun x => chkIvS x 0 100000000) = firstS ((m.deps.drop k).map fun x => chkIvS x 0 100000000) ∧ ts.length = 57 ∧ slot ts 1 = .ptr h.length 0 ∧ slot ts 4 = .int .i64 k) m.deps.length
    ⟨0, by omega, rfl, by first | exact (by repeat first | with_reducible exact Ext.refl _ | refine Ext.app _ ?_) | simp, rfl, rfl, rfl, rfl⟩ ?_
  rintro _ ts _ ⟨k, hk, rfl, ⟨g, rfl⟩, hi, hlen, t1, t4⟩
  by_cases hlt : k < m.deps.length
  · have e3 : (k : Int) < m.deps.length := by omega
    rw [List.drop_eq_getElem_cons hlt, List.map_cons, firstS] at hi
    have hlm := fun G => hsB.lenm G
    have hix := hsB.ixm (kk := .i64) hlt
    have l2 := fun {kk : AHeap} (e : Ext B kk) => hsB.ldm hlt e
    have hwk := wrapN (show k + 1 < 2 ^ 63 by omega)
    repeat (first | simp (config := { maxSteps := 1000000 }) only [wset, hset, dset, bset, Nat.reduceAdd, Nat.reduceMul, Nat.reduceLeDiff, Nat.reduceEqDiff, pset, hlen, if_false, if_true, t1, t4, lB, hlm, e3, decide_true, hix, l2] | simp (config := { maxSteps := 1000000 }) (disch := first | (simp only [List.length_append, List.length_cons, List.length_nil] <;> omega) | rfl | omega | fail) only [kset, wset, hset, dset, bset, Nat.reduceAdd, Nat.reduceMul, Nat.reduceLeDiff, Nat.reduceEqDiff, pset, hlen, if_false, if_true, t1, t4, lB, hlm, e3, decide_true, hix, l2])
    refine WF.res T.c35 (r35 T _ _ _) ?_
    rintro _ g1 rfl
    repeat (first | simp (config := { maxSteps := 1000000 }) only [wset, hset, dset, bset, Nat.reduceAdd, Nat.reduceMul, Nat.reduceLeDiff, Nat.reduceEqDiff, pset, hlen, if_false, if_true, t1, t4] | simp (config := { maxSteps := 1000000 }) (disch := first | (simp only [List.length_append, List.length_cons, List.length_nil] <;> omega) | rfl | omega | fail) only [kset, wset, hset, dset, bset, Nat.reduceAdd, Nat.reduceMul, Nat.reduceLeDiff, Nat.reduceEqDiff, pset, hlen, if_false, if_true, t1, t4])
    refine WF.res T.c35 (r35 T _ _ _) ?_
    rintro _ g2 rfl
    repeat (first | simp (config := { maxSteps := 1000000 }) only [wset, hset, dset, bset, Nat.reduceAdd, Nat.reduceMul, Nat.reduceLeDiff, Nat.reduceEqDiff, pset, hlen, if_false, if_true, t1, t4] | simp (config := { maxSteps := 1000000 }) (disch := first | (simp only [List.length_append, List.length_cons, List.length_nil] <;> omega) | rfl | omega | fail) only [kset, wset, hset, dset, bset, Nat.reduceAdd, Nat.reduceMul, Nat.reduceLeDiff, Nat.reduceEqDiff, pset, hlen, if_false, if_true, t1, t4])
    refine WF.res T.c22 (r22 T _ _) ?_
    rintro _ g3 rfl
    repeat (first | simp (config := { maxSteps := 1000000 }) only [wset, hset, dset, bset, Nat.reduceAdd, Nat.reduceMul, Nat.reduceLeDiff, Nat.reduceEqDiff, pset, hlen, if_false, if_true, t1, t4] | simp (config := { maxSteps := 1000000 }) (disch := first | (simp only [List.length_append, List.length_cons, List.length_nil] <;> omega) | rfl | omega | fail) only [kset, wset, hset, dset, bset, Nat.reduceAdd, Nat.reduceMul, Nat.reduceLeDiff, Nat.reduceEqDiff, pset, hlen, if_false, if_true, t1, t4])
    refine WF.res T.c98 (r98 T (isSl_ints [_, _, _]) (by simp)) ?_
    rintro _ g4 rfl
    have hiv : firstS [rangeS m.deps[k].1 0 100000000, rangeS m.deps[k].2 0 100000000, whenS (decide (m.deps[k].2 < m.deps[k].1)) 11] = chkIvS m.deps[k] 0 100000000 := rfl
    rw [hiv]
    by_cases h0 : chkIvS m.deps[k] 0 100000000 = 0
    · rw [if_pos h0] at hi
      have hd0 : decide (chkIvS m.deps[k] 0 100000000 ≠ 0) = false := decide_eq_false (fun hne => hne h0)
      generalize chkIvS m.deps[k] 0 100000000 = cc at *
      repeat (first | simp (config := { maxSteps := 1000000 }) only [wset, hset, dset, bset, Nat.reduceAdd, Nat.reduceMul, Nat.reduceLeDiff, Nat.reduceEqDiff, pset, hlen, if_false, if_true, t1, t4, hd0, hwk] | simp (config := { maxSteps := 1000000 }) (disch := first | (simp only [List.length_append, List.length_cons, List.length_nil] <;> omega) | rfl | omega | fail) only [kset, wset, hset, dset, bset, Nat.reduceAdd, Nat.reduceMul, Nat.reduceLeDiff, Nat.reduceEqDiff, pset, hlen, if_false, if_true, t1, t4, hd0, hwk])
      exact ⟨_, by omega, k + 1, by omega, rfl, hi, rfl⟩
    · rw [if_neg h0] at hi
      have hd0 : decide (chkIvS m.deps[k] 0 100000000 ≠ 0) = true := decide_eq_true h0
      generalize chkIvS m.deps[k] 0 100000000 = cc at *
      repeat (first | simp (config := { maxSteps := 1000000 }) only [wset, hset, dset, bset, Nat.reduceAdd, Nat.reduceMul, Nat.reduceLeDiff, Nat.reduceEqDiff, pset, hlen, if_false, if_true, t1, t4, hd0] | simp (config := { maxSteps := 1000000 }) (disch := first | (simp only [List.length_append, List.length_cons, List.length_nil] <;> omega) | rfl | omega | fail) only [kset, wset, hset, dset, bset, Nat.reduceAdd, Nat.reduceMul, Nat.reduceLeDiff, Nat.reduceEqDiff, pset, hlen, if_false, if_true, t1, t4, hd0])
      exact ⟨eB.trans (by repeat first | with_reducible exact Ext.refl _ | refine Ext.app _ ?_), by rw [hi]⟩
  · have e3 : ¬ (k : Int) < m.deps.length := by omega
    rw [List.drop_eq_nil_of_le (by omega)] at hi
    have hlm := fun G => hsB.lenm G
    repeat (first | simp (config := { maxSteps := 1000000 }) only [wset, hset, dset, bset, Nat.reduceAdd, Nat.reduceMul, Nat.reduceLeDiff, Nat.reduceEqDiff, pset, hlen, if_false, if_true, t1, t4, lB, hlm, e3, decide_false] | simp (config := { maxSteps := 1000000 }) (disch := first | (simp only [List.length_append, List.length_cons, List.length_nil] <;> omega) | rfl | omega | fail) only [kset, wset, hset, dset, bset, Nat.reduceAdd, Nat.reduceMul, Nat.reduceLeDiff, Nat.reduceEqDiff, pset, hlen, if_false, if_true, t1, t4, lB, hlm, e3, decide_false])
    exact ⟨eB.trans (by repeat first | with_reducible exact Ext.refl _ | refine Ext.app _ ?_), by rw [hi]; rfl⟩

theorem r127 {m : Mp} {s : AV} (hs : IsSl h s 2 (m.deps.map ratRow)) (hl : m.deps.length ≤ 2 ^ 40) (cell : Int) : RCall P 127 [mapA m s, .int .i64 cell] h (fun v _ => v = .int .i64 (chkCellS m cell)) := by
  refine .of T.mix T.c127 ?_
  unfold fn127
  simp only [wset, hset, dset, bset, Nat.reduceAdd, Nat.reduceMul, Nat.reduceLeDiff, Nat.reduceEqDiff, hs.one]
  refine WF.res T.c65 (r65 T (hs.ext (by repeat first | with_reducible exact Ext.refl _ | refine Ext.app _ ?_)) hl) ?_
  rintro _ g1 rfl
  by_cases h0 : chkMapS m = 0
  case neg =>
    simp only [wset, hset, dset, bset, Nat.reduceAdd, Nat.reduceMul, Nat.reduceLeDiff, Nat.reduceEqDiff, show decide (chkMapS m ≠ 0) = true from decide_eq_true h0]
    rw [chkCellS, if_neg h0]
  by_cases h1 : cell < 0
  · simp only [wset, hset, dset, bset, Nat.reduceAdd, Nat.reduceMul, Nat.reduceLeDiff, Nat.reduceEqDiff, show decide (chkMapS m ≠ 0) = false from decide_eq_false (fun hne => hne h0), hs.one, hs.lenm, decide_eq_true h1]
    refine WF.res T.c106 (r106 T _ _) ?_
    rintro _ g1 rfl
    simp only [wset, hset, dset, bset, Nat.reduceAdd, Nat.reduceMul, Nat.reduceLeDiff, Nat.reduceEqDiff]
    rw [chkCellS, if_pos h0, cellS, decide_eq_true h1]; rfl
  · simp only [wset, hset, dset, bset, Nat.reduceAdd, Nat.reduceMul, Nat.reduceLeDiff, Nat.reduceEqDiff, show decide (chkMapS m ≠ 0) = false from decide_eq_false (fun hne => hne h0), hs.one, hs.lenm, decide_eq_false h1]
    refine WF.res T.c106 (r106 T _ _) ?_
    rintro _ g1 rfl
    simp only [wset, hset, dset, bset, Nat.reduceAdd, Nat.reduceMul, Nat.reduceLeDiff, Nat.reduceEqDiff]
    rw [chkCellS, if_pos h0, cellS, decide_eq_false h1]; rfl
theorem r131 {m : Mp} {s : AV} (hs : IsSl h s 2 (m.deps.map ratRow)) (hl : m.deps.length ≤ 2 ^ 40) (cell c : Int) : RCall P 131 [mapA m s, .int .i64 cell, .int .i64 c] h (fun v _ => v = .int .i64 (chkContS m cell c)) := by
  refine .of T.mix T.c131 ?_
  unfold fn131
  simp only [wset, hset, dset, bset, Nat.reduceAdd, Nat.reduceMul, Nat.reduceLeDiff, Nat.reduceEqDiff, hs.one]
  refine WF.res T.c127 (r127 T (hs.ext (by repeat first | with_reducible exact Ext.refl _ | refine Ext.app _ ?_)) hl cell) ?_
  rintro _ g1 rfl
  simp only [wset, hset, dset, bset, Nat.reduceAdd, Nat.reduceMul, Nat.reduceLeDiff, Nat.reduceEqDiff]
  refine WF.res T.c108 (r108 T _ _ _) ?_
  rintro _ g2 rfl
  simp only [wset, hset, dset, bset, Nat.reduceAdd, Nat.reduceMul, Nat.reduceLeDiff, Nat.reduceEqDiff]
  refine WF.res T.c105 (r105 T (isSl_ints [_, _]) (by simp)) ?_
  rintro _ g3 rfl
  simp only [wset, hset, dset, bset, Nat.reduceAdd, Nat.reduceMul, Nat.reduceLeDiff, Nat.reduceEqDiff]
  rfl
theorem r53 {m : Mp} {s : AV} (hs : IsSl h s 2 (m.deps.map ratRow)) : RCall P 53 [mapA m s] h (fun v _ => v = .bool (decide (m.deps.length ≤ 30))) := by
  refine .of T.mix T.c53 ?_
  unfold fn53
  simp only [wset, hset, dset, bset, Nat.reduceAdd, Nat.reduceMul, Nat.reduceLeDiff, Nat.reduceEqDiff, hs.one, hs.lenm]
  congr 1
  rw [Bool.eq_iff_iff, decide_eq_true_eq, decide_eq_true_eq]; omega
theorem r55 {m : Mp} {s : AV} (hs : IsSl h s 2 (m.deps.map ratRow)) (hl : m.deps.length ≤ 2 ^ 40) : RCall P 55 [mapA m s] h (fun v h' => ∃ s', v = mapA m s' ∧ Fr h.length h' s' 2 (m.deps.map ratRow)) := by
  refine .of T.mix T.c55 ?_
  unfold fn55
  simp only [wset, hset, dset, bset, Nat.reduceAdd, Nat.reduceMul, Nat.reduceLeDiff, Nat.reduceEqDiff, hs.one]
  refine WF.res T.c42 (r42 T (hs.ext (by repeat first | with_reducible exact Ext.refl _ | refine Ext.app _ ?_)) hl) ?_
  rintro s' g1 hf
  simp only [wset, hset, dset, bset, Nat.reduceAdd, Nat.reduceMul, Nat.reduceLeDiff, Nat.reduceEqDiff, hf.isSl.one]
  exact ⟨s', rfl, Fr.low (M := h.length) (hf.swap (by simp)) (by simp)⟩
end
end Go.Abs
namespace Go.Abs

/-- A list whose first elements are changed. -/
def mix {α : Type} (f : α → α) (L : List α) (k : Nat) : List α := (L.take k).map f ++ L.drop k
section
variable {P : Program} (T : Tbl P) {h : AHeap}
include T

end
end Go.Abs
namespace Go.Abs

theorem setL_mid : ∀ (l x pre r : List AV), x.length = l.length → setL (pre ++ x ++ r) pre.length l = pre ++ l ++ r
  | [], x, pre, r, h => by
    have : x = [] := List.length_eq_zero_iff.1 h
    subst this; rfl
  | v :: l, [], pre, r, h => by simp at h
  | v :: l, y :: x, pre, r, h => by
    have e1 : (pre ++ (y :: x) ++ r).set pre.length v = (pre ++ [v]) ++ x ++ r := by
      rw [List.append_assoc, List.set_append_right _ _ (Nat.le_refl _), Nat.sub_self]
      simp
    have e2 : pre.length + 1 = (pre ++ [v]).length := by simp
    rw [setL_cons, e1, e2, setL_mid l x (pre ++ [v]) r (by simpa using h)]
    simp
theorem flatten_setL {es : Nat} {l : List AV} (hl : l.length = es) : ∀ {cs : List (List AV)}, (∀ x ∈ cs, x.length = es) → ∀ {i : Nat}, i < cs.length → setL cs.flatten (i * es) l = (cs.set i l).flatten
  | [], _, i, hi => absurd hi (Nat.not_lt_zero _)
  | c :: cs, h, 0, _ => by
    have hc : c.length = es := h c (List.mem_cons_self ..)
    rw [List.flatten_cons, Nat.zero_mul]
    have := setL_mid l c [] cs.flatten (by omega)
    simpa using this
  | c :: cs, h, i + 1, hi => by
    have hc : c.length = es := h c (List.mem_cons_self ..)
    have h1 := flatten_setL hl (cs := cs) (fun x hx => h x (List.mem_cons_of_mem _ hx)) (i := i) (by simpa using hi)
    have h2 : ∀ (l : List AV) (o : Nat) (d : List AV), setL (c ++ d) (c.length + o) l = c ++ setL d o l := fun l => by
      induction l with
      | nil => intro o d; rfl
      | cons v l ih =>
        intro o d
        rw [setL_cons, setL_cons, List.set_append_right _ _ (by omega), Nat.add_sub_cancel_left, show c.length + o + 1 = c.length + (o + 1) by omega, ih]
    rw [List.flatten_cons, Nat.succ_mul, Nat.add_comm, ← hc, h2, hc, h1]; rfl

section
variable {P : Program} {ro : Option Nat → Prop} {ks : List Kt} {ts : TS} {Q : Ex → TS → AHeap → Prop} {d : Option Nat} {l : List IOp}

/-- A store of a whole element into a slice of one's own. -/
theorem WR.puta {α : Type} {row : α → List AV} {L : List α} {h0 g : AHeap} {s : AV} {es i : Nat} {x' : α} {cl : List AV} (hs : Fr h0.length (h0 ++ g) s es (L.map row)) (hi : i < L.length) (hv : cl.all AV.one = true) (hx : row x' = cl) (hl : cl.length = es)
    (K : ∀ g', g'.length = g.length → Fr h0.length (h0 ++ g') s es ((L.set i x').map row) → (∀ b, (∀ b0 o n e, s = .slice b0 o n e → b ≠ b0) → (h0 ++ g')[b]? = (h0 ++ g)[b]?) → WP P ro l ks (put ts d undefA) (h0 ++ g') Q) :
    WR P ro (storeF es (elp s es i) (.agg cl) (fun b => (h0 ++ g)[b]?)) false d l ks ts (h0 ++ g) Q := by
  generalize hcs : L.map row = cs at hs
  have hcl : cs.length = L.length := by rw [← hcs, List.length_map]
  cases hs with
  | nil => simp at hcl; omega
  | @mk b _ _ tl hN hb he =>
    have hfl := flatten_len he
    have hie : i * es + es ≤ cs.flatten.length := by
      rw [hfl, hcl]
      have : (i + 1) * es ≤ L.length * es := Nat.mul_le_mul_right _ hi
      rw [Nat.succ_mul] at this; omega
    have hset : setL cs.flatten (i * es) cl = ((L.set i x').map row).flatten := by
      rw [flatten_setL hl he (by omega), List.map_set, hx, hcs]
    have hbl : b < (h0 ++ g).length := (List.getElem?_eq_some_iff.1 hb).1
    show WR P ro (storeF es (.ptr b (0 + i * es)) (.agg cl) (fun b => (h0 ++ g)[b]?)) false d l ks ts (h0 ++ g) Q
    rw [Nat.zero_add, storeF_at hb, stB_agg hl hv hie, WR_set, hset, List.set_append_right _ _ hN]
    refine K _ (by simp) ?_ fun b' hb' => ?_
    · have hl2 : ((L.set i x').map row).length = cs.length := by simp [hcl]
      rw [← hl2]
      refine Fr.mk hN (tl := tl) ?_ fun y hy => ?_
      · rw [List.getElem?_append_right hN, List.getElem?_set_self (by simp at hbl; omega)]
      · rw [List.map_set] at hy
        rcases List.mem_or_eq_of_mem_set hy with hy | hy
        · exact he y (by rw [← hcs]; exact hy)
        · rw [hy, hx, hl]
    · have hne := hb' b 0 _ _ rfl
      rw [← List.set_append_right _ _ hN, List.getElem?_set_ne (Ne.symm hne)]
end

section
variable {P : Program} (T : Tbl P) {h : AHeap}
include T
theorem r67 (a b : Int) : RCall P 67 [.int .i64 a, .int .i64 b] h (fun v _ => v = ratA (a, b)) := by
  refine .of T.mix T.c67 ?_
  unfold fn67
  simp only [wset, hset, dset, bset, Nat.reduceAdd, Nat.reduceMul, Nat.reduceLeDiff, Nat.reduceEqDiff]
end
end Go.Abs
namespace Go.Abs
structure ArI (m : Mp) (D : List Int) (c cell : Int) (A : List Bool) : Prop where
  len : A.length = D.length
  r : ∀ k : Nat, A[k]? = some true → Rch m D (c - 1) cell k
  st : dI D cell < c → A[cell.toNat]? = some true
def ArC (m : Mp) (D : List Int) (c : Int) (A : List Bool) (i k : Nat) : Prop :=
  ∀ a b : Nat, a < D.length → b < D.length → (a < i ∨ (a = i ∧ b < k)) → A[a]? = some true → AdjM m a b → dI D b < c → A[b]? = some true
section
variable {m : Mp} (v : MpV m) {D : List Int} (hD : (D.length : Int) = m.cols * m.rows) {c cell : Int} {A : List Bool}
include v hD
theorem ArI.set (a : ArI m D c cell A) {i k : Nat} (hi : A[i]? = some true) (hk : k < D.length) (hadj : AdjM m i k) (hd : dI D k < c) : ArI m D c cell (A.set k true) := by
  have hiD : i < D.length := a.len ▸ (List.getElem?_eq_some_iff.1 hi).1
  refine ⟨by rw [List.length_set]; exact a.len, fun j hj => ?_, fun h => ?_⟩
  · rw [List.getElem?_set] at hj
    by_cases e : k = j
    · subst e
      exact .step (a.r i hi) ((nbS_iff v ⟨by omega, by omega⟩).2 ⟨⟨by omega, by omega⟩, hadj⟩) (by omega)
    · rw [if_neg e] at hj; exact a.r j hj
  · have := a.st h
    rw [List.getElem?_set]
    by_cases e : k = cell.toNat
    · rw [if_pos e, if_pos (by rw [a.len]; exact hk)]
    · rw [if_neg e]; exact this
end
theorem ArC.step {m : Mp} {D : List Int} {c : Int} {A : List Bool} {i k : Nat} (h : ArC m D c A i k) (hn : A[i]? = some true → AdjM m i k → dI D k < c → A[k]? = some true) : ArC m D c A i (k + 1) := by
  intro a b ha hb hab
  by_cases e : a = i ∧ b = k
  · obtain ⟨rfl, rfl⟩ := e; exact hn
  · exact h a b ha hb (by omega)
attribute [local irreducible] WP WC WE WB WR WF WL WG WRg
section
variable {P : Program} (T : Tbl P) {h : AHeap}
include T
end
end Go.Abs
namespace Go.Abs

/-- A horizon whose picks lie in a block of their own, from a number on. -/
structure HorFr (N : Nat) (h : AHeap) (H : Hor) (s : AV) : Prop where
  fr : Fr N h s 2 (H.picks.map pkRow)
  len : H.picks.length < 2 ^ 63
  nm : H.name.length < 2 ^ 63
section
variable {P : Program} (T : Tbl P) {h : AHeap}
include T

end
end Go.Abs
namespace Go.Abs

section
variable {P : Program} (T : Tbl P) {h : AHeap}
include T

end
end Go.Abs
namespace Go.Abs

theorem WF.valg {P : Program} {ro : Option Nat → Prop} {ks : List Kt} {ts : TS} {h h' : AHeap} {Q : Ex → TS → AHeap → Prop} {fv : AV} {args : List AV} {d : Option Nat} {l : List IOp} {v : AV} (H : SCallV P fv args h v h') (K : WP P ro l ks (put ts d v) h' Q) : WF P ro false fv args d l ks ts h Q :=
  ⟨v, h', H, fun hq => absurd hq (by simp), K⟩

section
variable {P : Program} (T : Tbl P) {h : AHeap}
include T

end
end Go.Abs
namespace Go.Abs
attribute [local irreducible] WP WC WE WB WR WF WL WG WRg
section
variable {P : Program} (T : Tbl P) {h : AHeap}
include T
theorem iter_vals {b : Nat} {d : AV} {D : List Int} (m : h[b]? = some (.cells [d] true false)) (hd : IsSl h d 1 (D.map intRow)) (hl : D.length < 2 ^ 62) :
    Iter P 202 [] [.ptr b 0] (D.map fun x => [.int .i64 x]) (Ext h) := by
  refine ⟨fun l h1 J Dn hpre happ hstep hend h0 => GCall.of T.mix T.c202 ?_⟩
  have e1 := hpre 0 h1 h0
  unfold fn202
  have hlm := fun G => hd.lenm G
  have l0 : loadF none (.ptr b 0) (fun z => h1[z]?) = some (d, .keep) := by rw [loadF_at (e1.some m)]; rfl
  simp only [wset, hset, dset, bset, Nat.reduceAdd, Nat.reduceMul, Nat.reduceLeDiff, Nat.reduceEqDiff, l0, hlm]
  refine WL.inv T.mix (fun n ts h' => ∃ k : Nat, k ≤ D.length ∧ n = D.length - k ∧ J k h' ∧ ts.length = 16 ∧ slot ts 0 = .func (.yield l) [] [] ∧ slot ts 5 = d ∧ slot ts 6 = .int .i64 D.length ∧ slot ts 7 = .int .i64 k) D.length
    ⟨0, by omega, rfl, h0, rfl, rfl, rfl, rfl, rfl⟩ ?_
  rintro _ ts h' ⟨k, hk, rfl, hJ, hlen, t0, t5, t6, t7⟩
  by_cases hlt : k < D.length
  · have e3 : (k : Int) < D.length := by omega
    have e2 := hpre _ _ hJ
    have l1 := hd.l1m hlt rfl e2
    have hix := hd.ixm (kk := .i64) hlt
    have hwk := wrapN (show k + 1 < 2 ^ 63 by omega)
    repeat (first | simp (config := { maxSteps := 1000000 }) only [wset, hset, dset, bset, Nat.reduceAdd, Nat.reduceMul, Nat.reduceLeDiff, Nat.reduceEqDiff, pset, hlen, if_false, if_true, t0, t5, t6, t7, e3, decide_true, hix, l1] | simp (config := { maxSteps := 1000000 }) (disch := first | (simp only [List.length_append, List.length_cons, List.length_nil] <;> omega) | rfl | omega | fail) only [kset, wset, hset, dset, bset, Nat.reduceAdd, Nat.reduceMul, Nat.reduceLeDiff, Nat.reduceEqDiff, pset, hlen, if_false, if_true, t0, t5, t6, t7, e3, decide_true, hix, l1])
    obtain ⟨bb, k', q1, q2⟩ := hstep k (by rw [List.length_map]; exact hlt) h' hJ
    rw [List.getElem_map] at q1
    refine WF.valg q1 ?_
    cases bb with
    | true =>
      repeat (first | simp (config := { maxSteps := 1000000 }) only [wset, hset, dset, bset, Nat.reduceAdd, Nat.reduceMul, Nat.reduceLeDiff, Nat.reduceEqDiff, pset, hlen, if_false, if_true, t0, t5, t6, t7, Bool.not_true, hwk] | simp (config := { maxSteps := 1000000 }) (disch := first | (simp only [List.length_append, List.length_cons, List.length_nil] <;> omega) | rfl | omega | fail) only [kset, wset, hset, dset, bset, Nat.reduceAdd, Nat.reduceMul, Nat.reduceLeDiff, Nat.reduceEqDiff, pset, hlen, if_false, if_true, t0, t5, t6, t7, Bool.not_true, hwk])
      exact ⟨_, by omega, k + 1, by omega, rfl, q2, rfl⟩
    | false =>
      repeat (first | simp (config := { maxSteps := 1000000 }) only [wset, hset, dset, bset, Nat.reduceAdd, Nat.reduceMul, Nat.reduceLeDiff, Nat.reduceEqDiff, pset, hlen, if_false, if_true, t0, t5, t6, t7, Bool.not_false] | simp (config := { maxSteps := 1000000 }) (disch := first | (simp only [List.length_append, List.length_cons, List.length_nil] <;> omega) | rfl | omega | fail) only [kset, wset, hset, dset, bset, Nat.reduceAdd, Nat.reduceMul, Nat.reduceLeDiff, Nat.reduceEqDiff, pset, hlen, if_false, if_true, t0, t5, t6, t7, Bool.not_false])
      exact q2
  · have e3 : ¬ (k : Int) < D.length := by omega
    have e4 : k = D.length := by omega
    repeat (first | simp (config := { maxSteps := 1000000 }) only [wset, hset, dset, bset, Nat.reduceAdd, Nat.reduceMul, Nat.reduceLeDiff, Nat.reduceEqDiff, pset, hlen, if_false, if_true, t0, t5, t6, t7, e3, decide_false] | simp (config := { maxSteps := 1000000 }) (disch := first | (simp only [List.length_append, List.length_cons, List.length_nil] <;> omega) | rfl | omega | fail) only [kset, wset, hset, dset, bset, Nat.reduceAdd, Nat.reduceMul, Nat.reduceLeDiff, Nat.reduceEqDiff, pset, hlen, if_false, if_true, t0, t5, t6, t7, e3, decide_false])
    refine hend h' ?_
    rw [List.length_map, ← e4]; exact hJ

theorem r172 {d : AV} {D : List Int} (hd : IsSl h d 1 (D.map intRow)) : RCall P 172 [d] h (fun v h' => ∃ b, v = .func (.func 202) [] [.ptr b 0] ∧ h'[b]? = some (.cells [d] true false)) := by
  refine .of T.mix T.c172 ?_
  unfold fn172
  simp only [wset, hset, dset, bset, Nat.reduceAdd, Nat.reduceMul, Nat.reduceLeDiff, Nat.reduceEqDiff, hd.one]
  exact ⟨_, rfl, at_new⟩

theorem r216 {b : Nat} {d : AV} {D : List Int} (m : h[b]? = some (.cells [d] true false)) (hd : IsSl h d 1 (D.map intRow)) (hl : D.length ≤ 2 ^ 40) :
    RCall P 216 [.nilSlice, .func (.func 202) [] [.ptr b 0]] h (fun v h' => Fr h.length h' v 1 (D.map intRow)) := by
  refine .of T.mix T.c216 ?_
  unfold fn216
  simp only [wset, hset, dset, bset, Nat.reduceAdd, Nat.reduceMul, Nat.reduceLeDiff, Nat.reduceEqDiff]
  refine WC.iter T.mix T.c202 (a := []) (c := [.ptr b 0]) rfl (iter_vals T m hd (by omega)) (fun y hy => by obtain ⟨z, _, rfl⟩ := List.mem_map.1 hy; rfl)
    (fun i h' g => ∃ out, h' = h ++ [ABlk.cells [out] true false] ∧ Fr (h'.length + 1) (h' ++ [.dead] ++ g) out 1 ((D.take i).map intRow)) (fun _ _ _ => False)
    ⟨.nilSlice, rfl, .nil⟩ (fun i h' g g' hI => ?_) (fun i h' g X hl hI => ?_) (fun i hi h' g R B hl' hI => ?_) (fun e h' g hl hI => ?_)
  · obtain ⟨out, h1, h2⟩ := hI
    exact ⟨out, h1, by rw [← List.append_assoc]; exact h2.app _⟩
  · obtain ⟨out, rfl, _⟩ := hI
    exact (by repeat first | with_reducible exact Ext.refl _ | refine Ext.app _ ?_)
  · obtain ⟨out, rfl, hfr⟩ := hI
    have hi' : i < D.length := by simpa using hi
    rw [List.getElem_map]
    simp only [wset, hset, dset, bset, Nat.reduceAdd, Nat.reduceMul, Nat.reduceLeDiff, Nat.reduceEqDiff, setArgs]
    refine ⟨_, g, rfl, by simp, ?_⟩
    simp only [wset, hset, dset, bset, Nat.reduceAdd, Nat.reduceMul, Nat.reduceLeDiff, Nat.reduceEqDiff]
    have hN : ∀ (o' : AV) (X : ABlk), (h ++ [ABlk.cells [o'] true false] ++ [X]).length = (h ++ [ABlk.cells [out] true false]).length + 1 := fun o' X => by simp only [List.length_append, List.length_cons, List.length_nil]
    have hfrB := hfr.swap' (hN out .dead) (hN out B)
    refine WR.app1 (h0 := h ++ [ABlk.cells [out] true false] ++ [B]) (cs := (D.take i).map intRow) (ys := [intRow D[i]]) (by rw [hN]; exact hfrB.app _) (Fr.push (N := 0) (Nat.zero_le _) [intRow D[i]] (by simp)).isSl (by decide) (by simp) (by simp; omega) (by repeat first | exact Ext.refl _ | refine Ext.app _ ?_) ?_
    intro g' hl' hff hkp
    have hrow : (D.take i).map intRow ++ [intRow D[i]] = (D.take (i + 1)).map intRow := by
      rw [List.take_add_one, List.getElem?_eq_getElem hi', List.map_append]; rfl
    rw [hrow, hN] at hff
    rw [hrow]
    simp only [wset, hset, dset, bset, Nat.reduceAdd, Nat.reduceMul, Nat.reduceLeDiff, Nat.reduceEqDiff]
    refine ⟨_, g', rfl, by simp only [List.length_append, List.length_cons, List.length_nil], ?_⟩
    rw [if_pos trivial]
    refine ⟨_, rfl, ?_⟩
    have e9 : ∀ o', (h ++ [ABlk.cells [o'] true false]).length = (h ++ [ABlk.cells [out] true false]).length := fun o' => by simp only [List.length_append, List.length_cons, List.length_nil]
    rw [e9]
    exact hff.swap' (hN out B) (hN _ .dead)
  · by_cases hen : e = .normal
    · subst hen
      rw [if_pos rfl] at hI
      obtain ⟨out, rfl, hfr⟩ := hI
      rw [List.length_map, List.take_length] at hfr
      simp only [wset, hset, dset, bset, Nat.reduceAdd, Nat.reduceMul, Nat.reduceLeDiff, Nat.reduceEqDiff]
      exact hfr.low (by simp; omega)
    · rw [if_neg hen] at hI
      exact hI.elim
theorem r201 {b : Nat} {d : AV} {D : List Int} (m : h[b]? = some (.cells [d] true false)) (hd : IsSl h d 1 (D.map intRow)) (hl : D.length ≤ 2 ^ 40) :
    RCall P 201 [.func (.func 202) [] [.ptr b 0]] h (fun v h' => Fr h.length h' v 1 (D.map intRow)) := by
  refine .of T.mix T.c201 ?_
  unfold fn201
  simp only [wset, hset, dset, bset, Nat.reduceAdd, Nat.reduceMul, Nat.reduceLeDiff, Nat.reduceEqDiff]
  refine WF.res T.c216 (r216 T m hd hl) ?_
  intro v g1 hv
  simp only [wset, hset, dset, bset, Nat.reduceAdd, Nat.reduceMul, Nat.reduceLeDiff, Nat.reduceEqDiff]
  exact hv
theorem r171 (S : SrtOk P) {b : Nat} {d : AV} {D : List Int} (m : h[b]? = some (.cells [d] true false)) (hd : IsSl h d 1 (D.map intRow)) (hl : D.length ≤ 2 ^ 40) :
    RCall P 171 [.func (.func 202) [] [.ptr b 0]] h (fun v h' => Fr h.length h' v 1 ((sortI D).map intRow)) := by
  refine .of T.mix T.c171 ?_
  unfold fn171
  simp only [wset, hset, dset, bset, Nat.reduceAdd, Nat.reduceMul, Nat.reduceLeDiff, Nat.reduceEqDiff]
  refine WF.res T.c201 (r201 T m hd hl) ?_
  intro v g1 hv
  simp only [wset, hset, dset, bset, Nat.reduceAdd, Nat.reduceMul, Nat.reduceLeDiff, Nat.reduceEqDiff]
  refine WF.gen T.c182 (gsort S hv (by omega)) ?_
  rintro _ _ ⟨g', hg', rfl, hff, -⟩
  simp only [wset, hset, dset, bset, Nat.reduceAdd, Nat.reduceMul, Nat.reduceLeDiff, Nat.reduceEqDiff]
  exact hff
theorem r173 {s f : AV} {L : List Int} {p : Int → Bool} (hs : IsSl h s 1 (L.map intRow)) (hl : L.length ≤ 2 ^ 40) (hf : ∀ x, x ∈ L → ∀ k, Ext h k → VCall P f [.int .i64 x] k (fun v _ => v = .bool (p x))) :
    RCall P 173 [s, f] h (fun v _ => v = .int .i64 (if L.findIdx p < L.length then (L.findIdx p : Int) else -1)) := by
  refine .of T.mix T.c173 ?_
  unfold fn173
  simp only [wset, hset, dset, bset, Nat.reduceAdd, Nat.reduceMul, Nat.reduceLeDiff, Nat.reduceEqDiff, hs.lenm]
  refine WL.inv T.mix (fun n ts h' => ∃ k : Nat, k ≤ L.length ∧ n = L.length - k ∧ Ext h h' ∧ L.findIdx p = k + (L.drop k).findIdx p ∧ ts.length = 19 ∧ slot ts 0 = s ∧ slot ts 1 = f ∧ slot ts 7 = .int .i64 L.length ∧ slot ts 8 = .int .i64 k) L.length
    ⟨0, by omega, rfl, Ext.refl h, by simp, rfl, rfl, rfl, rfl, rfl⟩ ?_
  rintro _ ts _ ⟨k, hk, rfl, ⟨g, rfl⟩, hi, hlen, t0, t1, t7, t8⟩
  by_cases hlt : k < L.length
  · have e3 : (k : Int) < L.length := by omega
    rw [List.drop_eq_getElem_cons hlt, List.findIdx_cons] at hi
    have hix := hs.ixm (kk := .i64) hlt
    have l1 := fun {kk : AHeap} (e : Ext h kk) => hs.l1m hlt rfl e
    have hwk := wrapN (show k + 1 < 2 ^ 63 by omega)
    repeat (first | simp (config := { maxSteps := 1000000 }) only [wset, hset, dset, bset, Nat.reduceAdd, Nat.reduceMul, Nat.reduceLeDiff, Nat.reduceEqDiff, pset, hlen, if_false, if_true, t0, t1, t7, t8, e3, decide_true, hix, l1] | simp (config := { maxSteps := 1000000 }) (disch := first | (simp only [List.length_append, List.length_cons, List.length_nil] <;> omega) | rfl | omega | fail) only [kset, wset, hset, dset, bset, Nat.reduceAdd, Nat.reduceMul, Nat.reduceLeDiff, Nat.reduceEqDiff, pset, hlen, if_false, if_true, t0, t1, t7, t8, e3, decide_true, hix, l1])
    refine WF.val (hf L[k] (List.getElem_mem hlt) _ (by repeat first | with_reducible exact Ext.refl _ | refine Ext.app _ ?_)) ?_
    rintro _ g1 rfl
    cases hp : p L[k] with
    | true =>
      rw [hp, cond_true, Nat.add_zero] at hi
      repeat (first | simp (config := { maxSteps := 1000000 }) only [wset, hset, dset, bset, Nat.reduceAdd, Nat.reduceMul, Nat.reduceLeDiff, Nat.reduceEqDiff, pset, hlen, if_false, if_true, t0, t1, t7, t8] | simp (config := { maxSteps := 1000000 }) (disch := first | (simp only [List.length_append, List.length_cons, List.length_nil] <;> omega) | rfl | omega | fail) only [kset, wset, hset, dset, bset, Nat.reduceAdd, Nat.reduceMul, Nat.reduceLeDiff, Nat.reduceEqDiff, pset, hlen, if_false, if_true, t0, t1, t7, t8])
      rw [hi, if_pos hlt]
    | false =>
      rw [hp, cond_false] at hi
      repeat (first | simp (config := { maxSteps := 1000000 }) only [wset, hset, dset, bset, Nat.reduceAdd, Nat.reduceMul, Nat.reduceLeDiff, Nat.reduceEqDiff, pset, hlen, if_false, if_true, t0, t1, t7, t8, hwk] | simp (config := { maxSteps := 1000000 }) (disch := first | (simp only [List.length_append, List.length_cons, List.length_nil] <;> omega) | rfl | omega | fail) only [kset, wset, hset, dset, bset, Nat.reduceAdd, Nat.reduceMul, Nat.reduceLeDiff, Nat.reduceEqDiff, pset, hlen, if_false, if_true, t0, t1, t7, t8, hwk])
      exact ⟨_, by omega, k + 1, by omega, rfl, by omega, rfl⟩
  · have e3 : ¬ (k : Int) < L.length := by omega
    rw [List.drop_eq_nil_of_le (by omega), List.findIdx_nil] at hi
    repeat (first | simp (config := { maxSteps := 1000000 }) only [wset, hset, dset, bset, Nat.reduceAdd, Nat.reduceMul, Nat.reduceLeDiff, Nat.reduceEqDiff, pset, hlen, if_false, if_true, t0, t1, t7, t8, e3, decide_false] | simp (config := { maxSteps := 1000000 }) (disch := first | (simp only [List.length_append, List.length_cons, List.length_nil] <;> omega) | rfl | omega | fail) only [kset, wset, hset, dset, bset, Nat.reduceAdd, Nat.reduceMul, Nat.reduceLeDiff, Nat.reduceEqDiff, pset, hlen, if_false, if_true, t0, t1, t7, t8, e3, decide_false])
    rw [hi, if_neg (by omega)]
theorem r175 {s f : AV} {L : List Int} {p : Int → Bool} (hs : IsSl h s 1 (L.map intRow)) (hl : L.length ≤ 2 ^ 40) (hf : ∀ x, x ∈ L → ∀ k, Ext h k → VCall P f [.int .i64 x] k (fun v _ => v = .bool (p x))) :
    RCall P 175 [s, f] h (fun v _ => v = .bool (L.any p)) := by
  refine .of T.mix T.c175 ?_
  unfold fn175
  simp only [wset, hset, dset, bset, Nat.reduceAdd, Nat.reduceMul, Nat.reduceLeDiff, Nat.reduceEqDiff]
  refine WF.res T.c173 (r173 T hs hl hf) ?_
  rintro _ g1 rfl
  simp only [wset, hset, dset, bset, Nat.reduceAdd, Nat.reduceMul, Nat.reduceLeDiff, Nat.reduceEqDiff]
  congr 1
  rw [Bool.eq_iff_iff, decide_eq_true_eq, List.any_eq_true]
  by_cases hi : L.findIdx p < L.length
  · rw [if_pos hi]
    exact ⟨fun _ => ⟨_, List.getElem_mem hi, List.findIdx_getElem⟩, fun _ => by omega⟩
  · rw [if_neg hi]
    refine ⟨fun h => by omega, fun ⟨x, hx, hpx⟩ => absurd (List.findIdx_lt_length_of_exists ⟨x, hx, hpx⟩) hi⟩
end
end Go.Abs
namespace Go.Abs
def Bd (m : Mp) (D : List Int) (cell level : Int) : Prop := ∃ x, Rch m D level cell x ∧ brdS m x = true
structure IsSpl (m : Mp) (D : List Int) (cell v : Int) : Prop where
  mem : v ∈ D
  bd : Bd m D cell v
  le : ∀ d ∈ D, Bd m D cell d → v ≤ d
open Classical in
noncomputable def spillS (m : Mp) (D : List Int) (cell : Int) : Int := if h : ∃ v, IsSpl m D cell v then Classical.choose h else 100000000
theorem IsSpl.eq {m : Mp} {D : List Int} {cell v : Int} (h : IsSpl m D cell v) : spillS m D cell = v := by
  have hx : ∃ v, IsSpl m D cell v := ⟨v, h⟩
  have e : spillS m D cell = Classical.choose hx := by unfold spillS; rw [dif_pos hx]
  have hc := Classical.choose_spec hx
  rw [e]
  have h1 := h.le _ hc.mem hc.bd
  have h2 := hc.le _ h.mem h.bd
  omega
theorem exists_min {Q : Int → Prop} : ∀ {L : List Int}, (∃ d ∈ L, Q d) → ∃ v ∈ L, Q v ∧ ∀ d ∈ L, Q d → v ≤ d
  | [], h => by simp at h
  | x :: l, h => by
    by_cases hl : ∃ d ∈ l, Q d
    · obtain ⟨v, h1, h2, h3⟩ := exists_min hl
      by_cases hx : Q x ∧ x < v
      · exact ⟨x, by simp, hx.1, fun d hd hq => by
          rcases List.mem_cons.1 hd with rfl | hd
          · exact Int.le_refl _
          · have := h3 d hd hq; omega⟩
      · exact ⟨v, List.mem_cons_of_mem _ h1, h2, fun d hd hq => by
          rcases List.mem_cons.1 hd with rfl | hd
          · apply Int.not_lt.1; intro hlt; exact hx ⟨hq, hlt⟩
          · exact h3 d hd hq⟩
    · obtain ⟨d, hd, hq⟩ := h
      rcases List.mem_cons.1 hd with rfl | hd
      · exact ⟨d, by simp, hq, fun d' hd' hq' => by
          rcases List.mem_cons.1 hd' with rfl | hd'
          · exact Int.le_refl _
          · exact absurd ⟨d', hd', hq'⟩ hl⟩
      · exact absurd ⟨d, hd, hq⟩ hl
section
variable {m : Mp} (v : MpV m) {D : List Int} (hD : (D.length : Int) = m.cols * m.rows) {cell : Int} (hc : InM m cell)
include v hD
theorem dI_mem {x : Int} (hx : InM m x) : dI D x ∈ D := by
  obtain ⟨n, rfl⟩ := Int.eq_ofNat_of_zero_le hx.1
  have hn : n < D.length := by have := hx.2; omega
  rw [dI_get hn]; exact List.getElem_mem hn
theorem way_out {lv : Int} (hlv : ∀ d ∈ D, d ≤ lv) : ∀ (n : Nat) (x : Int), x.toNat = n → InM m x → Rch m D lv cell x → ∃ y, Rch m D lv cell y ∧ brdS m y = true := by
  intro n
  induction n with
  | zero =>
    intro x hn hx hr
    have hx0 : x = 0 := by have := hx.1; omega
    refine ⟨x, hr, ?_⟩
    rw [hx0]; unfold brdS; simp
  | succ n ih =>
    intro x hn hx hr
    by_cases h0 : x % m.cols = 0
    · exact ⟨x, hr, by unfold brdS; rw [decide_eq_true h0]; rfl⟩
    · obtain ⟨b1, b2, b3, b4, b5⟩ := cell_bd v hx
      obtain ⟨i1, i2, i3⟩ := cellAt_bd v (c := x % m.cols - 1) (r := x / m.cols) (by omega) (by omega)
      rw [show x / m.cols * m.cols + (x % m.cols - 1) = x - 1 by omega] at i1 i2 i3
      refine ih (x - 1) (by omega) i1 (.step hr ((nbS_iff v hx).2 ⟨i1, ?_⟩) (hlv _ (dI_mem v hD i1)))
      unfold AdjM
      rw [i2, i3, sq1]; omega
include hc
theorem spl_ex : ∃ w, IsSpl m D cell w := by
  have hne : ∃ d ∈ D, True := ⟨dI D cell, dI_mem v hD hc, trivial⟩
  obtain ⟨w, h1, -, h3⟩ := exists_min (Q := fun _ => True) (L := D.map fun x => -x) (by obtain ⟨d, hd, -⟩ := hne; exact ⟨-d, List.mem_map.2 ⟨d, hd, rfl⟩, trivial⟩)
  obtain ⟨u, hu, rfl⟩ := List.mem_map.1 h1
  have hmax : ∀ d ∈ D, d ≤ u := fun d hd => by have := h3 (-d) (List.mem_map.2 ⟨d, hd, rfl⟩) trivial; omega
  obtain ⟨y, hy, hb⟩ := way_out v hD (cell := cell) hmax _ cell rfl hc (.start (hmax _ (dI_mem v hD hc)))
  obtain ⟨w, w1, w2, w3⟩ := exists_min (Q := Bd m D cell) (L := D) ⟨u, hu, y, hy, hb⟩
  exact ⟨w, w1, w2, w3⟩
theorem spl_is : IsSpl m D cell (spillS m D cell) := by
  obtain ⟨w, hw⟩ := spl_ex v hD hc
  rw [hw.eq]; exact hw
theorem bd_any {lv : Int} : (areaS m D lv cell).any (brdS m) = true ↔ Bd m D cell lv := by
  rw [List.any_eq_true]
  unfold Bd
  simp only [areaS_mem v hD hc]
open Classical in
theorem spl_find : ∃ hi : (sortI D).findIdx (fun lv => decide (Bd m D cell lv)) < (sortI D).length, (sortI D)[(sortI D).findIdx (fun lv => decide (Bd m D cell lv))] = spillS m D cell := by
  have hs := spl_is v hD hc
  have hi := List.findIdx_lt_length_of_exists (xs := sortI D) (p := fun lv => decide (Bd m D cell lv)) ⟨_, (sortI_perm D).mem_iff.2 hs.mem, decide_eq_true hs.bd⟩
  refine ⟨hi, (IsSpl.eq ⟨(sortI_perm D).mem_iff.1 (List.getElem_mem hi), of_decide_eq_true (List.findIdx_getElem (p := fun lv => decide (Bd m D cell lv)) (w := hi)), fun d hd hb => ?_⟩).symm⟩
  obtain ⟨j, hj, rfl⟩ := List.mem_iff_getElem.1 ((sortI_perm D).mem_iff.2 hd)
  by_cases hlt : j < (sortI D).findIdx (fun lv => decide (Bd m D cell lv))
  · have := List.not_of_lt_findIdx hlt
    rw [decide_eq_true hb] at this
    simp at this
  · rcases Nat.lt_or_eq_of_le (Nat.le_of_not_lt hlt) with h | h
    · exact List.pairwise_iff_getElem.1 (sortI_sorted D) _ _ hi hj h
    · exact Int.le_of_eq (by simp only [h])
end
/-- The volume over a list of cells. -/
def volL (D : List Int) (c : Int) (L : List Int) : Int := (L.map fun k => c - dI D k).sum
theorem volL_s {D : List Int} {c : Int} {L : List Int} {k : Nat} (hk : k < L.length) : volL D c (L.take (k + 1)) = volL D c (L.take k) + (c - dI D L[k]) := by
  rw [volL, List.take_add_one, List.getElem?_eq_getElem hk, List.map_append, List.sum_append]
  simp [volL]
theorem volL_bd {D : List Int} {c : Int} {L : List Int} (h : ∀ k ∈ L, -100000000 ≤ c - dI D k ∧ c - dI D k ≤ 100000000) : -100000000 * (L.length : Int) ≤ volL D c L ∧ volL D c L ≤ 100000000 * L.length := by
  induction L with
  | nil => simp [volL]
  | cons x l ih =>
    have h1 := ih fun k hk => h k (List.mem_cons_of_mem _ hk)
    have h2 := h x (by simp)
    simp only [volL, List.map_cons, List.sum_cons, List.length_cons] at h1 ⊢
    omega
end Go.Abs
namespace Go.Abs
theorem sum_filter_mono {p q : Int → Bool} {f g : Int → Int} : ∀ {L : List Int}, (∀ x ∈ L, p x = true → q x = true ∧ f x ≤ g x) → (∀ x ∈ L, q x = true → 0 ≤ g x) → ((L.filter p).map f).sum ≤ ((L.filter q).map g).sum
  | [], _, _ => by simp
  | x :: l, h, hq => by
    have ih := sum_filter_mono (L := l) (fun y hy => h y (List.mem_cons_of_mem _ hy)) (fun y hy => hq y (List.mem_cons_of_mem _ hy))
    have hx := h x (by simp)
    have hqx := hq x (by simp)
    by_cases hp : p x = true
    · obtain ⟨h1, h2⟩ := hx hp
      rw [List.filter_cons_of_pos hp, List.filter_cons_of_pos h1]
      simp only [List.map_cons, List.sum_cons]
      omega
    · rw [List.filter_cons_of_neg hp]
      by_cases hqq : q x = true
      · have := hqx hqq
        rw [List.filter_cons_of_pos hqq]
        simp only [List.map_cons, List.sum_cons]
        omega
      · rw [List.filter_cons_of_neg hqq]
        exact ih
section
variable {m : Mp} (v : MpV m) {D E : List Int} {cell : Int} (hc : InM m cell)
include v hc
theorem Rch.mono2 {a b : Int} (hab : ∀ k, InM m k → dI D k ≤ a → dI E k ≤ b) {x : Int} (h : Rch m D a cell x) : Rch m E b cell x := by
  induction h with
  | start h => exact .start (hab _ hc h)
  | step hx hn hk ih => exact .step ih hn (hab _ ((nbS_iff v (hx.inM v hc)).1 hn).1 hk)
theorem bd_mono {a b : Int} (hab : ∀ k, InM m k → dI D k ≤ a → dI E k ≤ b) (h : Bd m D cell a) : Bd m E cell b := by
  obtain ⟨x, hx, hb⟩ := h
  exact ⟨x, hx.mono2 v hc hab, hb⟩
theorem spl_le (hD : (D.length : Int) = m.cols * m.rows) {t : Int} (h : Bd m D cell t) : spillS m D cell ≤ t := by
  have h0 : dI D cell ≤ t := by
    obtain ⟨x, hx, -⟩ := h
    clear hc
    induction hx with
    | start h => exact h
    | step _ _ _ ih => exact ih
  obtain ⟨w, h1, h2, h3⟩ := exists_min (Q := fun d => -d ≤ t) (L := D.map fun x => -x) ⟨-(dI D cell), List.mem_map.2 ⟨_, dI_mem v hD hc, rfl⟩, by omega⟩
  obtain ⟨u, hu, rfl⟩ := List.mem_map.1 h1
  have hb : Bd m D cell u := bd_mono v hc (fun k hk hkt => by
    have := h3 (-(dI D k)) (List.mem_map.2 ⟨_, dI_mem v hD hk, rfl⟩) (by omega)
    omega) h
  have := (spl_is v hD hc).le u hu hb
  omega
theorem spl_mono (hD : (D.length : Int) = m.cols * m.rows) (hE : (E.length : Int) = m.cols * m.rows) (hle : ∀ k, InM m k → dI E k ≤ dI D k) : spillS m E cell ≤ spillS m D cell :=
  spl_le v hc hE (bd_mono v hc (fun k hk h => Int.le_trans (hle k hk) h) (spl_is v hD hc).bd)
theorem area_mono (hD : (D.length : Int) = m.cols * m.rows) (hE : (E.length : Int) = m.cols * m.rows) {a b : Int} (hab : ∀ k, InM m k → dI D k ≤ a → dI E k ≤ b) {x : Int} (hx : x ∈ areaS m D a cell) : x ∈ areaS m E b cell :=
  (areaS_mem v hE hc).2 (((areaS_mem v hD hc).1 hx).mono2 v hc hab)
open Classical in
theorem vol_mono (hD : (D.length : Int) = m.cols * m.rows) (hE : (E.length : Int) = m.cols * m.rows) {c : Int} (hle : ∀ k, InM m k → dI E k ≤ dI D k) : volL D c (areaS m D (c - 1) cell) ≤ volL E c (areaS m E (c - 1) cell) := by
  have hl : D.length = E.length := by omega
  unfold volL areaS
  rw [hl]
  refine sum_filter_mono (fun x _ hx => ?_) fun x _ hx => ?_
  · have hr := of_decide_eq_true hx
    have := hle x (hr.inM v hc)
    exact ⟨decide_eq_true (hr.mono2 v hc fun k hk h => Int.le_trans (hle k hk) h), by omega⟩
  · have := (of_decide_eq_true hx).le
    omega
theorem low_none (hD : (D.length : Int) = m.cols * m.rows) {lv : Int} (h : lv ≤ spillS m D cell) : (areaS m D (lv - 1) cell).any (brdS m) = false := by
  rw [Bool.eq_false_iff]
  intro hb
  have := spl_le v hc hD ((bd_any v hD hc).1 hb)
  omega
theorem high_some (hD : (D.length : Int) = m.cols * m.rows) {lv : Int} (h : spillS m D cell < lv) : (areaS m D (lv - 1) cell).any (brdS m) = true :=
  (bd_any v hD hc).2 (bd_mono v hc (fun k _ hk => by omega) (spl_is v hD hc).bd)
end
section
variable {m m' : Mp} (ec : m'.cols = m.cols) (er : m'.rows = m.rows) {D : List Int} {a cell : Int}
include ec er
theorem nb_m (x : Int) : nbS m' x = nbS m x := by
  have h1 : nbOk m' x = nbOk m x := by funext s; unfold nbOk nbC; rw [ec, er]
  have h2 : nbI m' x = nbI m x := by funext s; unfold nbI nbC; rw [ec]
  unfold nbS; rw [h1, h2]
theorem brd_m : brdS m' = brdS m := by funext x; unfold brdS; rw [ec, er]
theorem rch_m1 {x : Int} (h : Rch m D a cell x) : Rch m' D a cell x := by
  induction h with
  | start h => exact .start h
  | step _ hn hk ih => exact .step ih (by rw [nb_m ec er]; exact hn) hk
theorem rch_m : Rch m' D a cell = Rch m D a cell := by
  funext x
  exact propext ⟨rch_m1 ec.symm er.symm, rch_m1 ec er⟩
theorem area_m : areaS m' D a cell = areaS m D a cell := by
  unfold areaS; rw [rch_m ec er]
theorem bd_m : Bd m' D cell a = Bd m D cell a := by
  unfold Bd; rw [rch_m ec er, brd_m ec er]
theorem spl_m (v : MpV m) (hD : (D.length : Int) = m.cols * m.rows) (hc : InM m cell) : spillS m' D cell = spillS m D cell := by
  have h := spl_is v hD hc
  refine IsSpl.eq ⟨h.mem, ?_, fun d hd hb => h.le d hd ?_⟩
  · rw [bd_m ec er]; exact h.bd
  · rw [bd_m ec er] at hb; exact hb
end
def lowsS (m : Mp) : List Int := m.deps.map (·.1)
def highsS (m : Mp) : List Int := m.deps.map (·.2)
theorem lowsS_ok {m : Mp} (v : MpV m) : ((lowsS m).length : Int) = m.cols * m.rows ∧ ∀ x ∈ lowsS m, 0 ≤ x ∧ x ≤ 100000000 := by
  refine ⟨by rw [lowsS, List.length_map]; exact v.l, fun x hx => ?_⟩
  obtain ⟨y, hy, rfl⟩ := List.mem_map.1 hx
  have := v.d y hy; exact ⟨this.1, this.2.1⟩
theorem highsS_ok {m : Mp} (v : MpV m) : ((highsS m).length : Int) = m.cols * m.rows ∧ ∀ x ∈ highsS m, 0 ≤ x ∧ x ≤ 100000000 := by
  refine ⟨by rw [highsS, List.length_map]; exact v.l, fun x hx => ?_⟩
  obtain ⟨y, hy, rfl⟩ := List.mem_map.1 hx
  have := v.d y hy; exact ⟨this.2.2.1, this.2.2.2.1⟩
/-- The place of a cell. -/
def dpS (m : Mp) (k : Int) : Int × Int := m.deps.getD k.toNat (0, 0)
theorem low_dp {m : Mp} {k : Int} : dI (lowsS m) k = (dpS m k).1 := by
  unfold dI lowsS dpS
  rw [List.getD_eq_getElem?_getD, List.getElem?_map, List.getD_eq_getElem?_getD]
  cases m.deps[k.toNat]? <;> rfl
theorem high_dp {m : Mp} {k : Int} : dI (highsS m) k = (dpS m k).2 := by
  unfold dI highsS dpS
  rw [List.getD_eq_getElem?_getD, List.getElem?_map, List.getD_eq_getElem?_getD]
  cases m.deps[k.toNat]? <;> rfl
theorem dp_mem {m : Mp} (v : MpV m) {k : Int} (hk : InM m k) : dpS m k ∈ m.deps := by
  obtain ⟨n, rfl⟩ := Int.eq_ofNat_of_zero_le hk.1
  have hl := v.l
  have hn : n < m.deps.length := by have := hk.2; omega
  unfold dpS
  rw [Int.toNat_natCast, List.getD_eq_getElem?_getD, List.getElem?_eq_getElem hn]
  exact List.getElem_mem hn
/-- A map whose depth at a place is less by one. -/
def shlP (x : Int × Int) : Int × Int := (max 0 (x.1 - 1), max 0 (x.2 - 1))
def shlM (m : Mp) (n : Nat) : Mp := ⟨m.cols, m.rows, m.deps.set n (shlP (m.deps.getD n (0, 0)))⟩
theorem shl_v {m : Mp} (v : MpV m) {n : Nat} (hn : n < m.deps.length) : MpV (shlM m n) := by
  refine ⟨v.c, v.r, ?_, ?_⟩
  · unfold shlM; simp only [List.length_set]; exact v.l
  · intro x hx
    unfold shlM at hx
    simp only at hx
    rcases List.mem_or_eq_of_mem_set hx with h | rfl
    · exact v.d x h
    · have hm : m.deps.getD n (0, 0) ∈ m.deps := by
        rw [List.getD_eq_getElem?_getD, List.getElem?_eq_getElem hn]; exact List.getElem_mem hn
      have := v.d _ hm
      unfold shlP
      simp only
      omega
theorem shl_le {m : Mp} (v : MpV m) {n : Nat} (hn : n < m.deps.length) {k : Int} (hk : InM m k) : dI (lowsS (shlM m n)) k ≤ dI (lowsS m) k ∧ dI (highsS (shlM m n)) k ≤ dI (highsS m) k := by
  rw [low_dp, low_dp, high_dp, high_dp]
  have hd := v.d _ (dp_mem v hk)
  obtain ⟨j, rfl⟩ := Int.eq_ofNat_of_zero_le hk.1
  unfold dpS at hd ⊢
  unfold shlM
  simp only [Int.toNat_natCast] at hd ⊢
  by_cases e : n = j
  · subst e
    have : (m.deps.set n (shlP (m.deps.getD n (0, 0)))).getD n (0, 0) = shlP (m.deps.getD n (0, 0)) := by
      simp only [List.getD_eq_getElem?_getD, List.getElem?_set_self hn, Option.getD_some]
    rw [this]
    unfold shlP
    simp only
    omega
  · have : (m.deps.set n (shlP (m.deps.getD n (0, 0)))).getD j (0, 0) = m.deps.getD j (0, 0) := by
      simp only [List.getD_eq_getElem?_getD, List.getElem?_set_ne e]
    rw [this]
    exact ⟨Int.le_refl _, Int.le_refl _⟩
theorem lo_hi {m : Mp} (v : MpV m) {k : Int} (hk : InM m k) : dI (lowsS m) k ≤ dI (highsS m) k := by
  rw [low_dp, high_dp]
  have := v.d _ (dp_mem v hk)
  omega
end Go.Abs
namespace Go.Abs
theorem area_len {m : Mp} {D : List Int} {lv cell : Int} : (areaS m D lv cell).length ≤ D.length := by
  unfold areaS
  exact Nat.le_trans (List.length_filter_le _ _) (by simp [rangeI])
theorem mp_len {m : Mp} (v : MpV m) {n : Nat} (h : (n : Int) = m.cols * m.rows) : n ≤ 256 := by
  have := mul_bd (a := m.cols) (b := m.rows) (A := 16) (B := 16) (by have := v.c; omega) (by have := v.r; omega)
  omega
attribute [local irreducible] WP WC WE WB WR WF WL WG WRg
section
variable {P : Program} (T : Tbl P) (S : SrtOk P) {h : AHeap}
include T S
open Classical in
set_option maxRecDepth 10000 in
set_option maxHeartbeats 1000000 in
theorem r174 {m : Mp} {s d : AV} {D : List Int} {b3 b4 b5 : Nat} (hs : s.one = true) (gl : Glb h) (v : MpV m) (hd : IsSl h d 1 (D.map intRow)) (hD : (D.length : Int) = m.cols * m.rows) {cell lv : Int} (hc : InM m cell)
    (m3 : h[b3]? = some (.cells [.int .i64 m.cols, .int .i64 m.rows, s] true false)) (m4 : h[b4]? = some (.cells [d] true false)) (m5 : h[b5]? = some (.cells [.int .i64 cell] true false)) :
    RCall P 174 [.int .i64 lv, .ptr b3 0, .ptr b4 0, .ptr b5 0] h (fun w _ => w = .bool (decide (Bd m D cell lv))) := by
  have hDl := mp_len v hD
  refine .of T.mix T.c174 ?_
  unfold fn174
  have l3 : ∀ {kk : AHeap}, Ext h kk → loadF (some 3) (.ptr b3 0) (fun b => kk[b]?) = some (mapA m s, .keep) := fun e => by rw [loadF_at (e.some m3)]; rfl
  have l4 : ∀ {kk : AHeap}, Ext h kk → loadF none (.ptr b4 0) (fun b => kk[b]?) = some (d, .keep) := fun e => by rw [loadF_at (e.some m4)]; rfl
  have l5 : ∀ {kk : AHeap}, Ext h kk → loadF none (.ptr b5 0) (fun b => kk[b]?) = some (.int .i64 cell, .keep) := fun e => by rw [loadF_at (e.some m5)]; rfl
  simp only [wset, hset, dset, bset, Nat.reduceAdd, Nat.reduceMul, Nat.reduceLeDiff, Nat.reduceEqDiff, l3 (Ext.refl h), l4 (Ext.refl h), l5 (Ext.refl h)]
  refine WF.res T.c132 (r132 T S hs gl v hd hD hc) ?_
  intro w g1 hw
  simp only [wset, hset, dset, bset, Nat.reduceAdd, Nat.reduceMul, Nat.reduceLeDiff, Nat.reduceEqDiff, l3 (kk := h ++ g1) (by repeat first | with_reducible exact Ext.refl _ | refine Ext.app _ ?_)]
  have hal : (areaS m D lv cell).length ≤ 256 := Nat.le_trans area_len hDl
  refine WF.res T.c175 (r175 T (p := brdS m) hw.isSl (by omega) (fun x hx k e => VCall.of (a := [mapA m s]) (c := []) T.c176 ?_)) ?_
  · have hx' := ((areaS_mem v hD hc).1 hx).inM v hc
    refine (r176 T hs ((gl.ext (by repeat first | with_reducible exact Ext.refl _ | refine Ext.app _ ?_)).ext e) v hx').mono ?_
    rintro _ g2 rfl
    rw [brd_nb v hx']
  rintro _ g2 rfl
  simp only [wset, hset, dset, bset, Nat.reduceAdd, Nat.reduceMul, Nat.reduceLeDiff, Nat.reduceEqDiff]
  congr 1
  rw [Bool.eq_iff_iff, decide_eq_true_eq]
  exact bd_any v hD hc

open Classical in
set_option maxRecDepth 10000 in
set_option maxHeartbeats 1000000 in
theorem r128 {m : Mp} {s d : AV} {D : List Int} (hs : s.one = true) (gl : Glb h) (v : MpV m) (hd : IsSl h d 1 (D.map intRow)) (hD : (D.length : Int) = m.cols * m.rows) {cell : Int} (hc : InM m cell) :
    RCall P 128 [mapA m s, d, .int .i64 cell] h (fun w _ => w = .int .i64 (spillS m D cell)) := by
  have hDl := mp_len v hD
  refine .of T.mix T.c128 ?_
  unfold fn128
  simp only [wset, hset, dset, bset, Nat.reduceAdd, Nat.reduceMul, Nat.reduceLeDiff, Nat.reduceEqDiff, hs, hd.one]
  obtain ⟨B, hB⟩ : ∃ B, B = h ++ [ABlk.cells [AV.int IntKind.i64 m.cols, AV.int IntKind.i64 m.rows, s] true false] ++ [ABlk.cells [d] true false] ++ [ABlk.cells [AV.int IntKind.i64 cell] true false] := ⟨_, rfl⟩
  have eB : Ext h B := by rw [hB]; exact (by repeat first | with_reducible exact Ext.refl _ | refine Ext.app _ ?_)
  have n1 : (h ++ [ABlk.cells [AV.int IntKind.i64 m.cols, AV.int IntKind.i64 m.rows, s] true false]).length = h.length + 1 := by simp
  have n2 : (h ++ [ABlk.cells [AV.int IntKind.i64 m.cols, AV.int IntKind.i64 m.rows, s] true false] ++ [ABlk.cells [d] true false]).length = h.length + 2 := by simp
  have m3 : B[h.length]? = some (.cells [.int .i64 m.cols, .int .i64 m.rows, s] true false) := by rw [hB]; simp
  have m4 : B[h.length + 1]? = some (.cells [d] true false) := by rw [hB]; simp
  have m5 : B[h.length + 2]? = some (.cells [.int .i64 cell] true false) := by rw [hB]; simp
  rw [n1, n2, ← hB]
  clear hB n1 n2
  refine WF.res T.c172 (r172 T (hd.ext eB)) ?_
  rintro _ g1 ⟨b, rfl, mb⟩
  simp only [wset, hset, dset, bset, Nat.reduceAdd, Nat.reduceMul, Nat.reduceLeDiff, Nat.reduceEqDiff]
  refine WF.res T.c171 (r171 T S mb (hd.ext (eB.trans (by repeat first | with_reducible exact Ext.refl _ | refine Ext.app _ ?_))) (by omega)) ?_
  intro sl g2 hsl
  have hsl' := hsl.isSl
  have hsn : (sortI D).length = D.length := sortI_len D
  simp only [wset, hset, dset, bset, Nat.reduceAdd, Nat.reduceMul, Nat.reduceLeDiff, Nat.reduceEqDiff]
  refine WF.res T.c173 (r173 T (p := fun lv => decide (Bd m D cell lv)) hsl' (by omega) (fun x hx k e => VCall.of (a := []) (c := [.ptr h.length 0, .ptr (h.length + 1) 0, .ptr (h.length + 2) 0]) T.c174 ?_)) ?_
  · have ek : Ext B k := Ext.trans (by repeat first | with_reducible exact Ext.refl _ | refine Ext.app _ ?_) e
    exact r174 T S hs (gl.ext (eB.trans ek)) v (hd.ext (eB.trans ek)) hD hc (ek.some m3) (ek.some m4) (ek.some m5)
  rintro _ g3 rfl
  obtain ⟨hi, hsp⟩ := spl_find v hD hc
  rw [if_pos hi]
  have hix := hsl'.ixm (kk := .i64) hi
  have l1 := fun {kk : AHeap} (e : Ext (B ++ g1 ++ g2) kk) => hsl'.l1m hi rfl e
  rw [hsp] at l1
  simp only [wset, hset, dset, bset, Nat.reduceAdd, Nat.reduceMul, Nat.reduceLeDiff, Nat.reduceEqDiff, hix, l1 (kk := B ++ g1 ++ g2 ++ g3) (by repeat first | with_reducible exact Ext.refl _ | refine Ext.app _ ?_)]
  exact ⟨eB.trans (by repeat first | with_reducible exact Ext.refl _ | refine Ext.app _ ?_), trivial⟩

set_option maxRecDepth 10000 in
set_option maxHeartbeats 1000000 in
theorem r133 {m : Mp} {s d : AV} {D : List Int} (hs : s.one = true) (gl : Glb h) (v : MpV m) (hd : IsSl h d 1 (D.map intRow)) (hD : (D.length : Int) = m.cols * m.rows) (hDb : ∀ x ∈ D, 0 ≤ x ∧ x ≤ 100000000) {cell c : Int} (hc : InM m cell) (hcb : 0 ≤ c ∧ c ≤ 100000000) :
    RCall P 133 [mapA m s, d, .int .i64 cell, .int .i64 c] h (fun w _ => w = .int .i64 (volL D c (areaS m D (c - 1) cell))) := by
  have hDl := mp_len v hD
  have hal : (areaS m D (c - 1) cell).length ≤ 256 := Nat.le_trans area_len hDl
  refine .of T.mix T.c133 ?_
  unfold fn133
  have w1 : IntKind.i64.wrap (c - 1) = c - 1 := wrap_in (by omega) (by omega)
  simp only [wset, hset, dset, bset, Nat.reduceAdd, Nat.reduceMul, Nat.reduceLeDiff, Nat.reduceEqDiff, hs, w1]
  refine WF.res T.c132 (r132 T S hs (gl.ext (by repeat first | with_reducible exact Ext.refl _ | refine Ext.app _ ?_)) v (hd.ext (by repeat first | with_reducible exact Ext.refl _ | refine Ext.app _ ?_)) hD hc) ?_
  intro w g1 hw
  have hw' := hw.isSl
  simp only [wset, hset, dset, bset, Nat.reduceAdd, Nat.reduceMul, Nat.reduceLeDiff, Nat.reduceEqDiff, hw'.lenm]
  obtain ⟨L, hL⟩ : ∃ L, L = areaS m D (c - 1) cell := ⟨_, rfl⟩
  have hLm : ∀ k ∈ L, InM m k := fun k hk => ((areaS_mem v hD hc).1 (hL ▸ hk)).inM v hc
  have hLb : ∀ k ∈ L, -100000000 ≤ c - dI D k ∧ c - dI D k ≤ 100000000 := fun k hk => by have := hDb _ (dI_mem v hD (hLm k hk)); omega
  rw [← hL] at hw' hal ⊢
  clear hL hw
  obtain ⟨B, hB⟩ : ∃ B, B = h ++ [ABlk.cells [AV.int IntKind.i64 m.cols, AV.int IntKind.i64 m.rows, s] true false] ++ g1 := ⟨_, rfl⟩
  rw [← hB] at hw' ⊢
  have eB : Ext h B := by rw [hB]; exact (by repeat first | with_reducible exact Ext.refl _ | refine Ext.app _ ?_)
  clear hB
  refine WL.inv T.mix (fun n ts h' => ∃ k : Nat, k ≤ L.length ∧ n = L.length - k ∧ h' = B ∧ ts.length = 33 ∧ slot ts 1 = d ∧ slot ts 3 = .int .i64 c ∧ slot ts 9 = .int .i64 (volL D c (L.take k)) ∧ slot ts 17 = w ∧ slot ts 18 = .int .i64 L.length ∧ slot ts 19 = .int .i64 k) L.length
    ⟨0, by omega, rfl, rfl, rfl, rfl, rfl, rfl, rfl, rfl, rfl⟩ ?_
  rintro _ ts _ ⟨k, hk, rfl, rfl, hlen, t1, t3, t9, t17, t18, t19⟩
  by_cases hlt : k < L.length
  · have e3 : (k : Int) < L.length := by omega
    have hx := hLm _ (List.getElem_mem hlt)
    obtain ⟨x, hxe⟩ : ∃ x, x = L[k] := ⟨_, rfl⟩
    have hv := volL_s (D := D) (c := c) hlt
    have hb0 := volL_bd (D := D) (c := c) (L := L.take k) fun y hy => hLb y (List.mem_of_mem_take hy)
    have hb1 := hLb _ (List.getElem_mem hlt)
    have hkl : (L.take k).length = k := by rw [List.length_take]; omega
    rw [hkl] at hb0
    have hix := hw'.ixm (kk := .i64) hlt
    have l1 := fun {kk : AHeap} (e : Ext _ kk) => hw'.l1m hlt rfl e
    rw [← hxe] at hx hv hb1 l1
    obtain ⟨n, rfl⟩ := Int.eq_ofNat_of_zero_le hx.1
    have hnD : n < D.length := by have := hx.2; omega
    have hix2 := hd.ixm (kk := .i64) hnD
    have l2 := fun {kk : AHeap} (e : Ext _ kk) => hd.l1m hnD rfl (eB.trans e)
    rw [dI_get hnD] at hv hb1
    have w2 : IntKind.i64.wrap (c - D[n]) = c - D[n] := wrap_in (by omega) (by omega)
    have w3 : IntKind.i64.wrap (volL D c (L.take k) + (c - D[n])) = volL D c (L.take (k + 1)) := by rw [hv]; exact wrap_in (by omega) (by omega)
    have hwk := wrapN (show k + 1 < 2 ^ 63 by omega)
    repeat (first | simp (config := { maxSteps := 1000000 }) only [wset, hset, dset, bset, Nat.reduceAdd, Nat.reduceMul, Nat.reduceLeDiff, Nat.reduceEqDiff, pset, hlen, if_false, if_true, t1, t3, t9, t17, t18, t19, e3, decide_true, hix, l1, hix2, l2, w2, w3, hwk] | simp (config := { maxSteps := 1000000 }) (disch := first | (simp only [List.length_append, List.length_cons, List.length_nil] <;> omega) | rfl | omega | fail) only [kset, wset, hset, dset, bset, Nat.reduceAdd, Nat.reduceMul, Nat.reduceLeDiff, Nat.reduceEqDiff, pset, hlen, if_false, if_true, t1, t3, t9, t17, t18, t19, e3, decide_true, hix, l1, hix2, l2, w2, w3, hwk])
    refine ⟨_, by omega, k + 1, by omega, rfl, ?_⟩
    repeat (first | rfl | refine ⟨rfl, ?_⟩)
  · have e3 : ¬ (k : Int) < L.length := by omega
    have e4 : k = L.length := by omega
    rw [e4, List.take_length] at t9
    repeat (first | simp (config := { maxSteps := 1000000 }) only [wset, hset, dset, bset, Nat.reduceAdd, Nat.reduceMul, Nat.reduceLeDiff, Nat.reduceEqDiff, pset, hlen, if_false, if_true, t1, t3, t9, t17, t18, t19, e3, decide_false] | simp (config := { maxSteps := 1000000 }) (disch := first | (simp only [List.length_append, List.length_cons, List.length_nil] <;> omega) | rfl | omega | fail) only [kset, wset, hset, dset, bset, Nat.reduceAdd, Nat.reduceMul, Nat.reduceLeDiff, Nat.reduceEqDiff, pset, hlen, if_false, if_true, t1, t3, t9, t17, t18, t19, e3, decide_false])
    first | exact eB | exact ⟨eB, rfl⟩ | rfl | exact ⟨eB, trivial⟩
end

noncomputable def splR (m : Mp) (cell : Int) : Int × Int := if chkCellS m cell = 0 then (spillS m (lowsS m) cell, spillS m (highsS m) cell) else (0, 0)
noncomputable def regR (m : Mp) (cell c : Int) : List Int × List Int := if chkContS m cell c = 0 then (areaS m (highsS m) (c - 1) cell, areaS m (lowsS m) (c - 1) cell) else ([], [])
noncomputable def volR (m : Mp) (cell c : Int) : Int × Int := if chkContS m cell c = 0 then (volL (highsS m) c (areaS m (highsS m) (c - 1) cell), volL (lowsS m) c (areaS m (lowsS m) (c - 1) cell)) else (0, 0)
section
variable {P : Program} (T : Tbl P) (S : SrtOk P) {h : AHeap}
include T S
set_option maxRecDepth 10000 in
set_option maxHeartbeats 1000000 in
theorem r54 {m : Mp} {s : AV} (gl : Glb h) (hs : IsSl h s 2 (m.deps.map ratRow)) (hl : m.deps.length ≤ 2 ^ 40) (cell : Int) : RCall P 54 [mapA m s, .int .i64 cell] h (fun w _ => w = .tup [ratA (splR m cell), .int .i64 (chkCellS m cell)]) := by
  refine .of T.mix T.c54 ?_
  unfold fn54
  simp only [wset, hset, dset, bset, Nat.reduceAdd, Nat.reduceMul, Nat.reduceLeDiff, Nat.reduceEqDiff, hs.one]
  refine WF.res T.c127 (r127 T (hs.ext (by repeat first | with_reducible exact Ext.refl _ | refine Ext.app _ ?_)) hl cell) ?_
  rintro _ g1 rfl
  by_cases h0 : chkCellS m cell = 0
  case neg =>
    simp only [wset, hset, dset, bset, Nat.reduceAdd, Nat.reduceMul, Nat.reduceLeDiff, Nat.reduceEqDiff, show decide (chkCellS m cell ≠ 0) = true from decide_eq_true h0]
    rw [splR, if_neg h0]
  obtain ⟨v, hc⟩ := chkCell_zero.1 h0
  simp only [wset, hset, dset, bset, Nat.reduceAdd, Nat.reduceMul, Nat.reduceLeDiff, Nat.reduceEqDiff, show decide (chkCellS m cell ≠ 0) = false from decide_eq_false (fun hne => hne h0), hs.one]
  refine WF.res T.c129 (r129 T (hs.ext (by repeat first | with_reducible exact Ext.refl _ | refine Ext.app _ ?_)) hl) ?_
  intro d1 g2 hd1
  simp only [wset, hset, dset, bset, Nat.reduceAdd, Nat.reduceMul, Nat.reduceLeDiff, Nat.reduceEqDiff, hs.one]
  refine WF.res T.c128 (r128 T S hs.one (gl.ext (by repeat first | with_reducible exact Ext.refl _ | refine Ext.app _ ?_)) v hd1.isSl (lowsS_ok v).1 hc) ?_
  rintro _ g3 rfl
  simp only [wset, hset, dset, bset, Nat.reduceAdd, Nat.reduceMul, Nat.reduceLeDiff, Nat.reduceEqDiff, hs.one]
  refine WF.res T.c130 (r130 T (hs.ext (by repeat first | with_reducible exact Ext.refl _ | refine Ext.app _ ?_)) hl) ?_
  intro d2 g4 hd2
  simp only [wset, hset, dset, bset, Nat.reduceAdd, Nat.reduceMul, Nat.reduceLeDiff, Nat.reduceEqDiff, hs.one]
  refine WF.res T.c128 (r128 T S hs.one (gl.ext (by repeat first | with_reducible exact Ext.refl _ | refine Ext.app _ ?_)) v hd2.isSl (highsS_ok v).1 hc) ?_
  rintro _ g5 rfl
  simp only [wset, hset, dset, bset, Nat.reduceAdd, Nat.reduceMul, Nat.reduceLeDiff, Nat.reduceEqDiff]
  rw [splR, if_pos h0, h0]; rfl
set_option maxRecDepth 10000 in
set_option maxHeartbeats 1000000 in
theorem r56 {m : Mp} {s : AV} (gl : Glb h) (hs : IsSl h s 2 (m.deps.map ratRow)) (hl : m.deps.length ≤ 2 ^ 40) (cell c : Int) : RCall P 56 [mapA m s, .int .i64 cell, .int .i64 c] h (fun w h' => ∃ x y, w = .tup [x, y, .int .i64 (chkContS m cell c)] ∧ IsSl h' x 1 ((regR m cell c).1.map intRow) ∧ IsSl h' y 1 ((regR m cell c).2.map intRow)) := by
  refine .of T.mix T.c56 ?_
  unfold fn56
  simp only [wset, hset, dset, bset, Nat.reduceAdd, Nat.reduceMul, Nat.reduceLeDiff, Nat.reduceEqDiff, hs.one]
  refine WF.res T.c131 (r131 T (hs.ext (by repeat first | with_reducible exact Ext.refl _ | refine Ext.app _ ?_)) hl cell c) ?_
  rintro _ g1 rfl
  by_cases h0 : chkContS m cell c = 0
  case neg =>
    simp only [wset, hset, dset, bset, Nat.reduceAdd, Nat.reduceMul, Nat.reduceLeDiff, Nat.reduceEqDiff, show decide (chkContS m cell c ≠ 0) = true from decide_eq_true h0]
    rw [regR, if_neg h0]
    exact ⟨_, _, rfl, .nil, .nil⟩
  obtain ⟨⟨v, hc⟩, hcb⟩ := chkCont_zero.1 h0
  have w1 : IntKind.i64.wrap (c - 1) = c - 1 := wrap_in (by omega) (by omega)
  simp only [wset, hset, dset, bset, Nat.reduceAdd, Nat.reduceMul, Nat.reduceLeDiff, Nat.reduceEqDiff, show decide (chkContS m cell c ≠ 0) = false from decide_eq_false (fun hne => hne h0), hs.one]
  refine WF.res T.c130 (r130 T (hs.ext (by repeat first | with_reducible exact Ext.refl _ | refine Ext.app _ ?_)) hl) ?_
  intro d1 g2 hd1
  simp only [wset, hset, dset, bset, Nat.reduceAdd, Nat.reduceMul, Nat.reduceLeDiff, Nat.reduceEqDiff, hs.one, w1]
  refine WF.res T.c132 (r132 T S hs.one (gl.ext (by repeat first | with_reducible exact Ext.refl _ | refine Ext.app _ ?_)) v hd1.isSl (highsS_ok v).1 hc) ?_
  intro x g3 hx
  simp only [wset, hset, dset, bset, Nat.reduceAdd, Nat.reduceMul, Nat.reduceLeDiff, Nat.reduceEqDiff, hs.one]
  refine WF.res T.c129 (r129 T (hs.ext (by repeat first | with_reducible exact Ext.refl _ | refine Ext.app _ ?_)) hl) ?_
  intro d2 g4 hd2
  simp only [wset, hset, dset, bset, Nat.reduceAdd, Nat.reduceMul, Nat.reduceLeDiff, Nat.reduceEqDiff, hs.one, w1]
  refine WF.res T.c132 (r132 T S hs.one (gl.ext (by repeat first | with_reducible exact Ext.refl _ | refine Ext.app _ ?_)) v hd2.isSl (lowsS_ok v).1 hc) ?_
  intro y g5 hy
  simp only [wset, hset, dset, bset, Nat.reduceAdd, Nat.reduceMul, Nat.reduceLeDiff, Nat.reduceEqDiff]
  rw [regR, if_pos h0, h0]
  exact ⟨_, _, rfl, hx.isSl.ext (by repeat first | with_reducible exact Ext.refl _ | refine Ext.app _ ?_), hy.isSl⟩
set_option maxRecDepth 10000 in
set_option maxHeartbeats 1000000 in
theorem r57 {m : Mp} {s : AV} (gl : Glb h) (hs : IsSl h s 2 (m.deps.map ratRow)) (hl : m.deps.length ≤ 2 ^ 40) (cell c : Int) : RCall P 57 [mapA m s, .int .i64 cell, .int .i64 c] h (fun w _ => w = .tup [ratA (volR m cell c), .int .i64 (chkContS m cell c)]) := by
  refine .of T.mix T.c57 ?_
  unfold fn57
  simp only [wset, hset, dset, bset, Nat.reduceAdd, Nat.reduceMul, Nat.reduceLeDiff, Nat.reduceEqDiff, hs.one]
  refine WF.res T.c131 (r131 T (hs.ext (by repeat first | with_reducible exact Ext.refl _ | refine Ext.app _ ?_)) hl cell c) ?_
  rintro _ g1 rfl
  by_cases h0 : chkContS m cell c = 0
  case neg =>
    simp only [wset, hset, dset, bset, Nat.reduceAdd, Nat.reduceMul, Nat.reduceLeDiff, Nat.reduceEqDiff, show decide (chkContS m cell c ≠ 0) = true from decide_eq_true h0]
    rw [volR, if_neg h0]
  obtain ⟨⟨v, hc⟩, hcb⟩ := chkCont_zero.1 h0
  simp only [wset, hset, dset, bset, Nat.reduceAdd, Nat.reduceMul, Nat.reduceLeDiff, Nat.reduceEqDiff, show decide (chkContS m cell c ≠ 0) = false from decide_eq_false (fun hne => hne h0), hs.one]
  refine WF.res T.c130 (r130 T (hs.ext (by repeat first | with_reducible exact Ext.refl _ | refine Ext.app _ ?_)) hl) ?_
  intro d1 g2 hd1
  simp only [wset, hset, dset, bset, Nat.reduceAdd, Nat.reduceMul, Nat.reduceLeDiff, Nat.reduceEqDiff, hs.one]
  refine WF.res T.c133 (r133 T S hs.one (gl.ext (by repeat first | with_reducible exact Ext.refl _ | refine Ext.app _ ?_)) v hd1.isSl (highsS_ok v).1 (highsS_ok v).2 hc hcb) ?_
  rintro _ g3 rfl
  simp only [wset, hset, dset, bset, Nat.reduceAdd, Nat.reduceMul, Nat.reduceLeDiff, Nat.reduceEqDiff, hs.one]
  refine WF.res T.c129 (r129 T (hs.ext (by repeat first | with_reducible exact Ext.refl _ | refine Ext.app _ ?_)) hl) ?_
  intro d2 g4 hd2
  simp only [wset, hset, dset, bset, Nat.reduceAdd, Nat.reduceMul, Nat.reduceLeDiff, Nat.reduceEqDiff, hs.one]
  refine WF.res T.c133 (r133 T S hs.one (gl.ext (by repeat first | with_reducible exact Ext.refl _ | refine Ext.app _ ?_)) v hd2.isSl (lowsS_ok v).1 (lowsS_ok v).2 hc hcb) ?_
  rintro _ g5 rfl
  simp only [wset, hset, dset, bset, Nat.reduceAdd, Nat.reduceMul, Nat.reduceLeDiff, Nat.reduceEqDiff]
  rw [volR, if_pos h0, h0]; rfl
end
end Go.Abs
namespace Go.Abs
/-- What the reference's spill knows after i depths. -/
structure SpI (m : Mp) (D : List Int) (cell : Int) (i : Nat) (best : Int) : Prop where
  hi : best ≤ 100000000
  mem : best = 100000000 ∨ (best ∈ D ∧ Bd m D cell best)
  le : ∀ k (_ : k < i) (hk : k < D.length), Bd m D cell D[k] → best ≤ D[k]
theorem SpI.take {m : Mp} {D : List Int} {cell best : Int} {i : Nat} (s : SpI m D cell i best) (hi : i < D.length) (hb : Bd m D cell D[i]) : SpI m D cell (i + 1) (min best D[i]) := by
  refine ⟨by have := s.hi; omega, ?_, fun k hk hk2 hbk => ?_⟩
  · by_cases e : best ≤ D[i]
    · rw [Int.min_eq_left e]; exact s.mem
    · rw [Int.min_eq_right (by omega)]; exact .inr ⟨List.getElem_mem hi, hb⟩
  · by_cases e : k = i
    · subst e; omega
    · have := s.le k (by omega) hk2 hbk; omega
attribute [local irreducible] WP WC WE WB WR WF WL WG WRg
section
variable {P : Program} (T : Tbl P) {h : AHeap}
include T
end
end Go.Abs
namespace Go.Abs

section
variable {P : Program} (T : Tbl P) {h : AHeap}
include T

theorem r70 {s : AV} {L : List Int} (hs : IsSl h s 1 (L.map intRow)) (hl : L.length < 2 ^ 62) (x : Int) : RCall P 70 [s, .int .i64 x] h (fun v _ => v = .bool (decide (x ∈ L))) := by
  refine .of T.mix T.c70 ?_
  unfold fn70
  simp only [wset, hset, dset, bset, Nat.reduceAdd, Nat.reduceMul, Nat.reduceLeDiff, Nat.reduceEqDiff]
  refine WL.inv T.mix (fun n ts h' => ∃ k : Nat, k ≤ L.length ∧ n = L.length - k ∧ h' = h ∧ decide (x ∈ L) = decide (x ∈ L.drop k) ∧ ts.length = 18 ∧ slot ts 0 = s ∧ slot ts 1 = .int .i64 x ∧ slot ts 5 = .int .i64 k) L.length
    ⟨0, by omega, rfl, rfl, rfl, rfl, rfl, rfl, rfl⟩ ?_
  rintro _ ts _ ⟨k, hk, rfl, rfl, hi, hlen, t0, t1, t5⟩
  rw [expl ts 18 hlen]
  by_cases hlt : k < L.length
  · have e3 : (k : Int) < L.length := by omega
    rw [List.drop_eq_getElem_cons hlt] at hi
    simp only [wset, hset, dset, bset, Nat.reduceAdd, Nat.reduceMul, Nat.reduceLeDiff, Nat.reduceEqDiff, t0, t1, t5, hs.lenm, e3, decide_true, hs.ixm hlt, hs.l1m hlt rfl (Ext.refl _)]
    by_cases hq : L[k] = x
    · simp only [wset, hset, dset, bset, Nat.reduceAdd, Nat.reduceMul, Nat.reduceLeDiff, Nat.reduceEqDiff, show decide (L[k] = x) = true from decide_eq_true hq]
      rw [hi, decide_eq_true (by rw [hq]; exact List.mem_cons_self ..)]
    · have h2 : decide (x ∈ L[k] :: L.drop (k + 1)) = decide (x ∈ L.drop (k + 1)) := by
        rw [Bool.eq_iff_iff, decide_eq_true_eq, decide_eq_true_eq, List.mem_cons]
        exact ⟨fun c => c.resolve_left (Ne.symm hq), .inr⟩
      rw [h2] at hi
      simp only [wset, hset, dset, bset, Nat.reduceAdd, Nat.reduceMul, Nat.reduceLeDiff, Nat.reduceEqDiff, show decide (L[k] = x) = false from decide_eq_false hq, t0, t1, t5, wrapN (show k + 1 < 2 ^ 63 by omega)]
      refine ⟨_, ?_, k + 1, by omega, rfl, hi, rfl⟩
      omega
  · have e3 : ¬ (k : Int) < L.length := by omega
    rw [List.drop_eq_nil_of_le (by omega)] at hi
    simp only [wset, hset, dset, bset, Nat.reduceAdd, Nat.reduceMul, Nat.reduceLeDiff, Nat.reduceEqDiff, t0, t1, t5, hs.lenm, e3, decide_false, if_true]
    rw [hi]; rfl
end
end Go.Abs
