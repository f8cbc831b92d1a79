/- Contracts, part AD: velocities and depths, by the reference. No condition. · Contracts, part AE: wells, by the reference. No condition. · The abstract layer: loops over functions, by what the function yields. No condition. · The abstract layer: append on an empty literal; stores into a slice of one's own; make and copy. No condition. · Contracts, part N: the law's copies, and comparisons. No condition. · Contracts, part O: a fault. No condition. · Contracts, part P: the reference's fault; steps. No condition. · Contracts, part Q: the reference's steps; rounding. No condition. · Contracts, part R: the common places of two horizons; a filled horizon. No condition. · Contracts, part S: the reference's filled horizon. No condition. · Contracts, part T: where a horizon crosses another one. No condition. · Contracts, part U: the reference's places and crossings; the first crossing of a list. No condition. · Plain facts on the lines between picks. No condition. · Plain facts on depths. No condition. · The true depths, one horizon after the other. No condition. · Contracts, part AH: stores of whole elements. No condition. · Contracts, part W: where two horizons differ. No condition. · Contracts, part AG: depths and misties of the program; copies of wells and intervals. No condition. · Laws are walked in pieces. No condition. · The abstract layer: slots of a long row, one by one. No condition. -/
import Derived.Test.YtjhdkimkijhloaaGreatDoorCl8
import Derived.Test.YtjhdkimkijhloaaGreatDoorCl3
import Derived.Test.YtjhdkimkijhloaaGreatDoorCl5
set_option linter.all false
namespace Go.Abs

def velRS (n : Nat) (V : List (Int × Int)) : Int := if V.length = n then firstS (V.map fun x => chkIvS x 1 1000) else 2

attribute [local irreducible] WP WC WE WB WR WF WL WG WRg
section
variable {P : Program} (T : Tbl P) {h : AHeap}
include T

theorem r46 {L : List (Hor × AV)} {s : AV} (o : HorsOk h L s) {V : List (Int × Int)} {sv : AV} (hv : IsSl h sv 2 (V.map ratRow)) (hvl : V.length ≤ 2 ^ 40) : RCall P 46 [s, sv] h (fun v _ => v = .int .i64 (velRS L.length V)) := by
  refine .of T.mix T.c46 ?_
  unfold fn46
  by_cases hn : V.length = L.length
  case neg =>
    simp only [wset, hset, dset, bset, Nat.reduceAdd, Nat.reduceMul, Nat.reduceLeDiff, Nat.reduceEqDiff, o.sl.lenm, hv.lenm, show decide ((V.length : Int) ≠ L.length) = true from decide_eq_true (by omega)]
    rw [velRS, if_neg hn]
  rw [velRS, if_pos hn]
  simp only [wset, hset, dset, bset, Nat.reduceAdd, Nat.reduceMul, Nat.reduceLeDiff, Nat.reduceEqDiff, o.sl.lenm, hv.lenm, show decide ((V.length : Int) ≠ L.length) = false from decide_eq_false (by omega)]
  refine WL.inv T.mix (fun n ts h' => ∃ k : Nat, k ≤ V.length ∧ n = V.length - k ∧ Ext h h' ∧ firstS (V.map fun x => chkIvS x 1 1000) = firstS ((V.drop k).map fun x => chkIvS x 1 1000) ∧ ts.length = 47 ∧ slot ts 1 = sv ∧ slot ts 5 = .int .i64 k) V.length
    ⟨0, by omega, rfl, Ext.refl h, rfl, rfl, rfl, rfl⟩ ?_
  rintro _ ts _ ⟨k, hk, rfl, ⟨g, rfl⟩, hi, hlen, t1, t5⟩
  rw [expl ts 47 hlen]
  by_cases hlt : k < V.length
  · have e3 : (k : Int) < V.length := by omega
    rw [List.drop_eq_getElem_cons hlt, List.map_cons, firstS] at hi
    simp only [wset, hset, dset, bset, Nat.reduceAdd, Nat.reduceMul, Nat.reduceLeDiff, Nat.reduceEqDiff, t1, t5, hv.lenm, e3, decide_true, hv.ixm hlt, hv.lfm (off := 0) hlt rfl]
    refine WF.res T.c35 (r35 T _ _ _) ?_
    rintro _ g1 rfl
    simp only [wset, hset, dset, bset, Nat.reduceAdd, Nat.reduceMul, Nat.reduceLeDiff, Nat.reduceEqDiff, t1, t5, hv.lenm, hv.ixm hlt, hv.lfm (off := 1) hlt rfl]
    refine WF.res T.c35 (r35 T _ _ _) ?_
    rintro _ g2 rfl
    simp only [wset, hset, dset, bset, Nat.reduceAdd, Nat.reduceMul, Nat.reduceLeDiff, Nat.reduceEqDiff, t1, t5, hv.lenm, hv.ixm hlt, hv.lfm (off := 0) hlt rfl, hv.lfm (off := 1) hlt rfl]
    refine WF.res T.c22 (r22 T _ _) ?_
    rintro _ g3 rfl
    simp only [wset, hset, dset, bset, Nat.reduceAdd, Nat.reduceMul, Nat.reduceLeDiff, Nat.reduceEqDiff]
    refine WF.res T.c98 (r98 T (isSl_ints [_, _, _]) (by simp)) ?_
    rintro _ g4 rfl
    have hiv : firstS [rangeS V[k].1 1 1000, rangeS V[k].2 1 1000, whenS (decide (V[k].2 < V[k].1)) 11] = chkIvS V[k] 1 1000 := rfl
    rw [hiv]
    by_cases h0 : chkIvS V[k] 1 1000 = 0
    · rw [if_pos h0] at hi
      simp only [wset, hset, dset, bset, Nat.reduceAdd, Nat.reduceMul, Nat.reduceLeDiff, Nat.reduceEqDiff, t1, t5, show decide (chkIvS V[k] 1 1000 ≠ 0) = false from decide_eq_false (fun hne => hne h0), wrapN (show k + 1 < 2 ^ 63 by omega)]
      refine ⟨_, ?_, k + 1, by omega, rfl, hi, rfl⟩
      omega
    · rw [if_neg h0] at hi
      simp only [wset, hset, dset, bset, Nat.reduceAdd, Nat.reduceMul, Nat.reduceLeDiff, Nat.reduceEqDiff, show decide (chkIvS V[k] 1 1000 ≠ 0) = true from decide_eq_true h0]
      rw [hi]
  · have e3 : ¬ (k : Int) < V.length := by omega
    rw [List.drop_eq_nil_of_le (by omega)] at hi
    simp only [wset, hset, dset, bset, Nat.reduceAdd, Nat.reduceMul, Nat.reduceLeDiff, Nat.reduceEqDiff, t1, t5, hv.lenm, e3, decide_false, if_true]
    rw [hi]; rfl

theorem r47 {L : List (Hor × AV)} {s : AV} (o : HorsOk h L s) (hn : ∀ y ∈ L, 0 < y.1.picks.length) (x : Int) : RCall P 47 [s, .int .i64 x] h (fun v _ => v = .int .i64 (whenS (!allHasS (L.map (·.1)) x) 14)) := by
  refine .of T.mix T.c47 ?_
  unfold fn47
  have hs := o.sl
  have hl := o.len
  simp only [wset, hset, dset, bset, Nat.reduceAdd, Nat.reduceMul, Nat.reduceLeDiff, Nat.reduceEqDiff]
  refine WL.inv T.mix (fun n ts h' => ∃ k : Nat, k ≤ L.length ∧ n = L.length - k ∧ Ext h h' ∧ allHasS (L.map (·.1)) x = allHasS ((L.drop k).map (·.1)) x ∧ ts.length = 19 ∧ slot ts 0 = s ∧ slot ts 1 = .int .i64 x ∧ slot ts 5 = .int .i64 k) L.length
    ⟨0, by omega, rfl, Ext.refl h, rfl, rfl, rfl, rfl, rfl⟩ ?_
  rintro _ ts _ ⟨k, hk, rfl, ⟨g, rfl⟩, hi, hlen, t0, t1, t5⟩
  rw [expl ts 19 hlen]
  by_cases hlt : k < L.length
  · have e3 : (k : Int) < L.length := by omega
    have ok := o.all L[k] (List.getElem_mem hlt)
    have hi' : allHasS (L.map (·.1)) x = (hasS L[k].1 x && allHasS ((L.drop (k + 1)).map (·.1)) x) := by rw [hi, List.drop_eq_getElem_cons hlt]; rfl
    simp only [wset, hset, dset, bset, Nat.reduceAdd, Nat.reduceMul, Nat.reduceLeDiff, Nat.reduceEqDiff, t0, t1, t5, hs.lenm, e3, decide_true, hs.ixm hlt, hs.ldm hlt]
    refine WF.res T.c23 (r23 T (H := L[k].1) (ok.ext (by repeat first | exact Ext.refl _ | refine Ext.app _ ?_)) (hn L[k] (List.getElem_mem hlt)) x) ?_
    rintro _ g1 rfl
    cases hh : hasS L[k].1 x with
    | true =>
      rw [hh, Bool.true_and] at hi'
      simp only [wset, hset, dset, bset, Nat.reduceAdd, Nat.reduceMul, Nat.reduceLeDiff, Nat.reduceEqDiff, Bool.not_true, t0, t1, t5, wrapN (show k + 1 < 2 ^ 63 by omega)]
      refine ⟨_, ?_, k + 1, by omega, rfl, hi', rfl⟩
      omega
    | false =>
      rw [hh, Bool.false_and] at hi'
      simp only [wset, hset, dset, bset, Nat.reduceAdd, Nat.reduceMul, Nat.reduceLeDiff, Nat.reduceEqDiff, Bool.not_false]
      rw [hi']; rfl
  · have e3 : ¬ (k : Int) < L.length := by omega
    rw [List.drop_eq_nil_of_le (by omega)] at hi
    simp only [wset, hset, dset, bset, Nat.reduceAdd, Nat.reduceMul, Nat.reduceLeDiff, Nat.reduceEqDiff, t0, t1, t5, hs.lenm, e3, decide_false, if_true]
    rw [hi]; rfl

theorem r49 {L : List (Hor × AV)} {s : AV} (o : HorsOk h L s) {V : List (Int × Int)} {sv : AV} (hv : IsSl h sv 2 (V.map ratRow)) (hlen : L.length ≤ V.length) (hl8 : L.length ≤ 1000) {x : Int}
    (hok : ∀ y ∈ L, HorV y.1 ∧ hasS y.1 x = true) (hvo : ∀ y ∈ V, 1 ≤ y.1 ∧ y.1 ≤ 1000 ∧ 1 ≤ y.2 ∧ y.2 ≤ 1000) :
    RCall P 49 [s, sv, .int .i64 x] h (fun v h' => Fr h.length h' v 2 ((depthsS (0, 0) (0, 0) ((L.map (·.1)).zip V) x).map ratRow)) := by
  refine .of T.mix T.c49 ?_
  unfold fn49
  have hs := o.sl
  simp only [wset, hset, dset, bset, Nat.reduceAdd, Nat.reduceMul, Nat.reduceLeDiff, Nat.reduceEqDiff, hs.lenm]
  refine WL.inv T.mix (fun n ts h' => ∃ (k : Nat) (out : AV) (D : List (Int × Int)) (above dep : Int × Int) (g : AHeap), k ≤ L.length ∧ n = L.length - k ∧ h' = h ++ [ABlk.cells [AV.int IntKind.i64 above.1, AV.int IntKind.i64 above.2] true false] ++ [ABlk.cells [AV.int IntKind.i64 dep.1, AV.int IntKind.i64 dep.2] true false] ++ g ∧ Fr (h.length + 2) h' out 2 (D.map ratRow) ∧ D.length = k ∧ depthsS (0, 0) (0, 0) ((L.map (·.1)).zip V) x = D ++ depthsS above dep (((L.drop k).map (·.1)).zip (V.drop k)) x ∧ (-1000 ≤ above.1 ∧ above.1 ≤ 26000000 ∧ 0 ≤ above.2 ∧ above.2 ≤ 26000000) ∧ (0 ≤ dep.1 ∧ dep.1 ≤ k * 30000000000 ∧ 0 ≤ dep.2 ∧ dep.2 ≤ k * 30000000000) ∧ ts.length = 61 ∧ slot ts 0 = s ∧ slot ts 1 = sv ∧ slot ts 2 = .int .i64 x ∧ slot ts 7 = out ∧ slot ts 8 = .ptr h.length 0 ∧ slot ts 9 = .ptr (h ++ [ABlk.cells [AV.int IntKind.i64 above.1, AV.int IntKind.i64 above.2] true false]).length 0 ∧ slot ts 10 = .int .i64 k) L.length
    ⟨0, .nilSlice, [], (0, 0), (0, 0), [], by omega, rfl, by rw [List.append_nil], .nil, rfl, rfl, by simp, by simp, rfl, rfl, rfl, rfl, rfl, rfl, rfl, rfl⟩ ?_
  rintro _ ts _ ⟨k, out, D, above, dep, g, hk, rfl, rfl, hfr, hDl, hD, hab, hdb, hlen, t0, t1, t2, t7, t8, t9, t10⟩
  rw [expl ts 61 hlen]
  by_cases hlt : k < L.length
  · have e3 : (k : Int) < L.length := by omega
    have ok := o.all L[k] (by simp)
    simp only [wset, hset, dset, bset, Nat.reduceAdd, Nat.reduceMul, Nat.reduceLeDiff, Nat.reduceEqDiff, t0, t1, t2, t7, t8, t9, t10, hs.lenm, e3, decide_true, hs.ixm hlt, hs.ldm hlt]
    have hkV : k < V.length := by omega
    have hH := hok L[k] (by simp)
    have hv1 := hvo V[k] (by simp)
    have hb := band_bd hH.1 hH.2
    refine WF.res T.c25 (r25 T (H := L[k].1) (ok.ext (by repeat first | exact Ext.refl _ | refine Ext.app _ ?_)) hH.1 hH.2) ?_
    rintro _ g1 rfl
    simp only [wset, hset, dset, bset, Nat.reduceAdd, Nat.reduceMul, Nat.reduceLeDiff, Nat.reduceEqDiff, t0, t1, t2, t7, t8, t9, t10, hv.ixm hkV, hv.lfm (off := 0) hkV rfl, hv.lfm (off := 1) hkV rfl]
    have m1 := mul_bd (a := max 0 ((bandS L[k].1 x).1 - above.2)) (b := V[k].1) (A := 26000000) (B := 1000) (by omega) (by omega)
    have m2 := mul_bd (a := max 0 ((bandS L[k].1 x).2 - above.1)) (b := V[k].2) (A := 26000000) (B := 1000) (by omega) (by omega)
    have cm1 : V[k].1 * max 0 ((bandS L[k].1 x).1 - above.2) = max 0 ((bandS L[k].1 x).1 - above.2) * V[k].1 := Int.mul_comm _ _
    have cm2 : V[k].2 * max 0 ((bandS L[k].1 x).2 - above.1) = max 0 ((bandS L[k].1 x).2 - above.1) * V[k].2 := Int.mul_comm _ _
    simp only [wrap_in (n := (bandS L[k].1 x).1 - above.2) (by omega) (by omega), wrap_in (n := (bandS L[k].1 x).2 - above.1) (by omega) (by omega), cm1, cm2, wrap_in (n := max 0 ((bandS L[k].1 x).1 - above.2) * V[k].1) (by omega) (by omega), wrap_in (n := max 0 ((bandS L[k].1 x).2 - above.1) * V[k].2) (by omega) (by omega), wrap_in (n := dep.1 + max 0 ((bandS L[k].1 x).1 - above.2) * V[k].1) (by omega) (by omega), wrap_in (n := dep.2 + max 0 ((bandS L[k].1 x).2 - above.1) * V[k].2) (by omega) (by omega)]
    have hd' : depthsS above dep (((L.drop k).map (·.1)).zip (V.drop k)) x = (dep.1 + max 0 ((bandS L[k].1 x).1 - above.2) * V[k].1, dep.2 + max 0 ((bandS L[k].1 x).2 - above.1) * V[k].2) :: depthsS (bandS L[k].1 x) (dep.1 + max 0 ((bandS L[k].1 x).1 - above.2) * V[k].1, dep.2 + max 0 ((bandS L[k].1 x).2 - above.1) * V[k].2) (((L.drop (k + 1)).map (·.1)).zip (V.drop (k + 1))) x := by
      rw [List.drop_eq_getElem_cons hlt, List.drop_eq_getElem_cons hkV]; rfl
    rw [hd'] at hD
    have b1 : 0 ≤ dep.1 + max 0 ((bandS L[k].1 x).1 - above.2) * V[k].1 ∧ dep.1 + max 0 ((bandS L[k].1 x).1 - above.2) * V[k].1 ≤ ((k + 1 : Nat) : Int) * 30000000000 := by omega
    have b2 : 0 ≤ dep.2 + max 0 ((bandS L[k].1 x).2 - above.1) * V[k].2 ∧ dep.2 + max 0 ((bandS L[k].1 x).2 - above.1) * V[k].2 ≤ ((k + 1 : Nat) : Int) * 30000000000 := by omega
    generalize dep.1 + max 0 ((bandS L[k].1 x).1 - above.2) * V[k].1 = d1 at *
    generalize dep.2 + max 0 ((bandS L[k].1 x).2 - above.1) * V[k].2 = d2 at *
    have e0 : ∀ K K' : ABlk, (h ++ [K] ++ [K']).length = h.length + 2 := fun _ _ => by simp
    refine WR.app1 (h0 := h ++ [ABlk.cells [AV.int IntKind.i64 above.1, AV.int IntKind.i64 above.2] true false] ++ [ABlk.cells [AV.int .i64 d1, AV.int .i64 d2] true false]) (cs := D.map ratRow) (ys := [ratRow (d1, d2)]) (by rw [e0]; exact (((hfr.swap' (e0 _ _) (e0 _ _)).app _).app _).app _) (Fr.push (N := 0) (Nat.zero_le _) [ratRow (d1, d2)] (by simp)).isSl (by decide) (by simp) (by simp; omega) (by repeat first | exact Ext.refl _ | refine Ext.app _ ?_) ?_
    intro g' hl' hff hkp
    have hrow : D.map ratRow ++ [ratRow (d1, d2)] = (D ++ [(d1, d2)]).map ratRow := by rw [List.map_append]; rfl
    rw [hrow, e0] at hff
    rw [hrow]
    have hN : (h ++ [ABlk.cells [AV.int IntKind.i64 above.1, AV.int IntKind.i64 above.2] true false] ++ [ABlk.cells [AV.int IntKind.i64 dep.1, AV.int IntKind.i64 dep.2] true false] ++ g ++ g1).length = (h ++ [ABlk.cells [AV.int IntKind.i64 above.1, AV.int IntKind.i64 above.2] true false] ++ [ABlk.cells [AV.int .i64 d1, AV.int .i64 d2] true false] ++ g ++ g1).length := by simp
    have h12 : (h ++ [ABlk.cells [AV.int IntKind.i64 above.1, AV.int IntKind.i64 above.2] true false] ++ [ABlk.cells [AV.int .i64 d1, AV.int .i64 d2] true false] ++ g')[(h ++ [ABlk.cells [AV.int IntKind.i64 above.1, AV.int IntKind.i64 above.2] true false] ++ [ABlk.cells [AV.int IntKind.i64 dep.1, AV.int IntKind.i64 dep.2] true false] ++ g ++ g1).length]? = some (ABlk.cells [AV.int .i64 (bandS L[k].1 x).1, AV.int .i64 (bandS L[k].1 x).2] true false) := by
      rw [hN, hkp _ (by simp only [List.length_append, List.length_cons, List.length_nil]; omega) (fun b0 o n e hb => by have := (hfr.lt hb).2; simp only [List.length_append, List.length_cons, List.length_nil] at *; omega)]
      exact at_1
    have hl12 : ∀ n o, loadF n (.ptr (h ++ [ABlk.cells [AV.int IntKind.i64 above.1, AV.int IntKind.i64 above.2] true false] ++ [ABlk.cells [AV.int IntKind.i64 dep.1, AV.int IntKind.i64 dep.2] true false] ++ g ++ g1).length o) (fun z => (h ++ [ABlk.cells [AV.int IntKind.i64 above.1, AV.int IntKind.i64 above.2] true false] ++ [ABlk.cells [AV.int .i64 d1, AV.int .i64 d2] true false] ++ g')[z]?) = ldB n o (ABlk.cells [AV.int .i64 (bandS L[k].1 x).1, AV.int .i64 (bandS L[k].1 x).2] true false) := fun n o => loadF_at h12
    simp only [wset, hset, dset, bset, Nat.reduceAdd, Nat.reduceMul, Nat.reduceLeDiff, Nat.reduceEqDiff, t0, t1, t2, t7, t8, t9, t10, hl12, wrapN (show k + 1 < 2 ^ 63 by omega)]
    have e9 : ∀ K K' : ABlk, (h ++ [K]).length = (h ++ [K']).length := fun _ _ => by simp
    refine ⟨_, ?_, k + 1, _, D ++ [(d1, d2)], bandS L[k].1 x, (d1, d2), g', by omega, rfl, rfl, hff.swap' (e0 _ _) (e0 _ _), by simp [hDl], ?_, by omega, ⟨b1.1, b1.2, b2.1, b2.2⟩, rfl, by rw [e9], rfl⟩
    · omega
    · rw [hD, List.append_assoc]; rfl
  · have e3 : ¬ (k : Int) < L.length := by omega
    have e4 : k = L.length := by omega
    simp only [wset, hset, dset, bset, Nat.reduceAdd, Nat.reduceMul, Nat.reduceLeDiff, Nat.reduceEqDiff, t0, t1, t2, t7, t8, t9, t10, hs.lenm, e3, decide_false, if_true]
    rw [e4, List.drop_length] at hD
    simp only [List.map_nil, List.zip_nil_left, depthsS, List.append_nil] at hD
    rw [hD]
    exact hfr.low (by omega)

theorem r126 {L : List (Hor × AV)} {s : AV} (o : HorsOk h L s) {V : List (Int × Int)} {sv : AV} (hv : IsSl h sv 2 (V.map ratRow)) (hz : chkVelS (L.map (·.1)) V = 0) {w : Wl} (ow : WOk L w) :
    RCall P 126 [s, sv, wlA w] h (fun v _ => v = ratA (depthAtS (L.map (·.1)) V w.hor.toNat w.place)) := by
  refine .of T.mix T.c126 ?_
  unfold fn126
  have z := vel_zero hz
  have hVl : V.length = L.length := by have := z.2.2.1; simpa using this
  have hL8 : L.length ≤ 8 := by have := z.2.1; simpa using this
  have h0 := ow.h0
  have hl := ow.hl
  obtain ⟨j, hj⟩ : ∃ j, j = w.hor.toNat := ⟨_, rfl⟩
  have hjw : w.hor = (j : Int) := by omega
  have hok := ow.ok
  rw [← hj] at hok ⊢
  obtain ⟨s', hsl, hs'⟩ := o.sl.slm (bnds_hi (kk := .i64) (show j + 1 ≤ L.length by omega))
  rw [List.drop_zero, Nat.sub_zero] at hs'
  have e1 : IntKind.i64.wrap ((j : Int) + 1) = ((j + 1 : Nat) : Int) := wrapN (by omega)
  have hzip : ((L.take (j + 1)).map (·.1)).zip V = ((L.map (·.1)).take (j + 1)).zip (V.take (j + 1)) := by
    rw [List.zip_eq_zip_take_min, List.length_map, List.length_take, Nat.min_eq_left (show j + 1 ≤ L.length by omega), Nat.min_eq_left (show j + 1 ≤ V.length by omega), List.map_take, List.take_take, Nat.min_self]
  simp only [wset, hset, dset, bset, Nat.reduceAdd, Nat.reduceMul, Nat.reduceLeDiff, Nat.reduceEqDiff, hjw, e1, hsl]
  refine WF.res T.c49 (r49 T (L := L.take (j + 1)) ⟨hs'.ext (by repeat first | exact Ext.refl _ | refine Ext.app _ ?_), by simp; omega, fun y hy => (o.all y (List.mem_of_mem_take hy)).ext (by repeat first | exact Ext.refl _ | refine Ext.app _ ?_)⟩ (V := V) (hv.ext (by repeat first | exact Ext.refl _ | refine Ext.app _ ?_)) (by simp; omega) (by simp; omega) (x := w.place) (fun y hy => ⟨z.1 _ (List.mem_map_of_mem (List.mem_of_mem_take hy)), hok y hy⟩) (fun y hy => by have := z.2.2.2 y hy; omega)) ?_
  rintro v g1 hD0
  rw [hzip] at hD0
  have hD := hD0.isSl
  have hDl : (depthsS (0, 0) (0, 0) (((L.map (·.1)).take (j + 1)).zip (V.take (j + 1))) w.place).length = j + 1 := by rw [depthsS_len]; simp; omega
  have hjD : j < (depthsS (0, 0) (0, 0) (((L.map (·.1)).take (j + 1)).zip (V.take (j + 1))) w.place).length := by omega
  have hget : (depthsS (0, 0) (0, 0) (((L.map (·.1)).take (j + 1)).zip (V.take (j + 1))) w.place)[j] = depthAtS (L.map (·.1)) V j w.place := by
    rw [depthAtS, List.getD_eq_getElem?_getD, List.getElem?_eq_getElem hjD]; rfl
  repeat (first | simp only [wset, hset, dset, bset, Nat.reduceAdd, Nat.reduceMul, Nat.reduceLeDiff, Nat.reduceEqDiff, hjw, hD.ixm hjD, hD.ldm hjD, hget] | simp (disch := first | (simp only [List.length_append, List.length_cons, List.length_nil] <;> omega) | rfl | omega | fail) only [kset, wset, hset, dset, bset, Nat.reduceAdd, Nat.reduceMul, Nat.reduceLeDiff, Nat.reduceEqDiff, hjw, hget])
end
end Go.Abs
namespace Go.Abs

def wellsRS (L : List Hor) (W : List Wl) : Int := if 16 < (W.length : Int) then 5 else chkWellsLS L W
def mistB (L : List Hor) (V : List (Int × Int)) (w : Wl) : Bool := decide ((depthAtS L V w.hor.toNat w.place).2 < w.depth - w.err) || decide (w.depth + w.err < (depthAtS L V w.hor.toNat w.place).1)
def mistI (L : List Hor) (V : List (Int × Int)) (W : List Wl) (i : Nat) : Bool :=
  match W[i]? with
  | some w => mistB L V w
  | none => false
def misK (L : List Hor) (V : List (Int × Int)) (W : List Wl) (k : Nat) : List Int := ((List.range k).filter (mistI L V W)).map fun (i : Nat) => (i : Int)
theorem misK_s {L : List Hor} {V : List (Int × Int)} {W : List Wl} {k : Nat} (hk : k < W.length) : misK L V W (k + 1) = misK L V W k ++ (if mistB L V W[k] = true then [(k : Int)] else []) := by
  have e : mistI L V W k = mistB L V W[k] := by rw [mistI, List.getElem?_eq_getElem hk]
  rw [misK, List.range_succ, List.filter_append, List.map_append, misK]
  congr 1
  cases h : mistB L V W[k] <;> simp [e, h]
theorem misK_len {L : List Hor} {V : List (Int × Int)} {W : List Wl} {k : Nat} : (misK L V W k).length ≤ k := by
  rw [misK, List.length_map]
  exact Nat.le_trans (List.length_filter_le _ _) (by simp)
theorem first4 {p q d e s R : Int} (h : firstS [p, q, d, e] ≠ 0) : (if firstS [p, q] = 0 then (if firstS [d, e, s] = 0 then R else firstS [d, e, s]) else firstS [p, q]) = firstS [p, q, d, e] := by
  simp only [firstS] at *
  by_cases h1 : p = 0 <;> by_cases h2 : q = 0 <;> by_cases h3 : d = 0 <;> by_cases h4 : e = 0 <;> simp_all
theorem first2 {c : Int} : firstS [0, 0, c] = c := by
  simp only [firstS, if_true]
  by_cases h : c = 0
  · rw [if_pos h, h]
  · rw [if_neg h]
theorem first4z {p q d e : Int} (h : firstS [p, q, d, e] = 0) : p = 0 ∧ q = 0 ∧ d = 0 ∧ e = 0 := by
  have := firstS_zero.1 h
  exact ⟨this _ (by simp), this _ (by simp), this _ (by simp), this _ (by simp)⟩

attribute [local irreducible] WP WC WE WB WR WF WL WG WRg
section
variable {P : Program} (T : Tbl P) {h : AHeap}
include T

theorem r48 {L : List (Hor × AV)} {s : AV} (o : HorsOk h L s) (hn : ∀ y ∈ L, HorV y.1) (hl8 : L.length ≤ 8) {W : List Wl} {sw : AV} (hw : IsSl h sw 4 (W.map wlRow)) : RCall P 48 [s, sw] h (fun v _ => v = .int .i64 (wellsRS (L.map (·.1)) W)) := by
  refine .of T.mix T.c48 ?_
  unfold fn48
  by_cases h16 : 16 < (W.length : Int)
  · simp only [wset, hset, dset, bset, Nat.reduceAdd, Nat.reduceMul, Nat.reduceLeDiff, Nat.reduceEqDiff, hw.lenm, eq_true h16, decide_true]
    rw [wellsRS, if_pos h16]
  rw [wellsRS, if_neg h16]
  simp only [wset, hset, dset, bset, Nat.reduceAdd, Nat.reduceMul, Nat.reduceLeDiff, Nat.reduceEqDiff, hw.lenm, eq_false h16, decide_false]
  refine WL.inv T.mix (fun n ts h' => ∃ k : Nat, k ≤ W.length ∧ n = W.length - k ∧ Ext h h' ∧ chkWellsLS (L.map (·.1)) W = chkWellsLS (L.map (·.1)) (W.drop k) ∧ ts.length = 58 ∧ slot ts 0 = s ∧ slot ts 1 = sw ∧ slot ts 5 = .int .i64 k) W.length
    ⟨0, by omega, rfl, Ext.refl h, rfl, rfl, rfl, rfl, rfl⟩ ?_
  rintro _ ts _ ⟨k, hk, rfl, ⟨g, rfl⟩, hi, hlen, t0, t1, t5⟩
  rw [expl ts 58 hlen]
  by_cases hlt : k < W.length
  · have e3 : (k : Int) < W.length := by omega
    rw [List.drop_eq_getElem_cons hlt, chkWellsLS] at hi
    have hix := hw.ixm (kk := .i64) hlt
    have hld : ∀ {kk : AHeap}, Ext h kk → loadF (some 4) (elp sw 4 k) (fun b => kk[b]?) = some (.agg (wlRow W[k]), .keep) := fun {kk} e => hw.ldm hlt e
    generalize W[k] = w at *
    have hll : (L.map (·.1)).length = L.length := List.length_map _
    by_cases h0 : w.hor < 0
    · have hq : well1S (L.map (·.1)) w = firstS [rangeS w.place 0 255, whenS true 10] := by rw [well1S, decide_eq_true h0]; rfl
      simp only [wset, hset, dset, bset, Nat.reduceAdd, Nat.reduceMul, Nat.reduceLeDiff, Nat.reduceEqDiff, t0, t1, t5, hw.lenm, e3, decide_true, hix, hld]
      refine WF.res T.c66 (r66 T _) ?_
      rintro _ g1 rfl
      simp only [wset, hset, dset, bset, Nat.reduceAdd, Nat.reduceMul, Nat.reduceLeDiff, Nat.reduceEqDiff, t0, t1, t5, eq_true h0, decide_true]
      refine WF.res T.c22 (r22 T _ _) ?_
      rintro _ g2 rfl
      simp only [wset, hset, dset, bset, Nat.reduceAdd, Nat.reduceMul, Nat.reduceLeDiff, Nat.reduceEqDiff]
      refine WF.res T.c35 (r35 T _ _ _) ?_
      rintro _ g3 rfl
      simp only [wset, hset, dset, bset, Nat.reduceAdd, Nat.reduceMul, Nat.reduceLeDiff, Nat.reduceEqDiff]
      refine WF.res T.c35 (r35 T _ _ _) ?_
      rintro _ g4 rfl
      simp only [wset, hset, dset, bset, Nat.reduceAdd, Nat.reduceMul, Nat.reduceLeDiff, Nat.reduceEqDiff]
      refine WF.res T.c98 (r98 T (isSl_ints [_, _, _, _]) (by simp)) ?_
      rintro _ g5 rfl
      have hne : firstS [rangeS w.place 0 255, whenS true 10, rangeS w.depth 0 100000000, rangeS w.err 0 100000000] ≠ 0 := fun hz => by
        have := (first4z hz).2.1; simp [whenS] at this
      have hf := first4 (s := whenS (!allHasS ((L.map (·.1)).take (w.hor.toNat + 1)) w.place) 14) (R := chkWellsLS (L.map (·.1)) (W.drop (k + 1))) hne
      rw [← hq] at hf
      simp only [wset, hset, dset, bset, Nat.reduceAdd, Nat.reduceMul, Nat.reduceLeDiff, Nat.reduceEqDiff, show decide (firstS [rangeS w.place 0 255, whenS true 10, rangeS w.depth 0 100000000, rangeS w.err 0 100000000] ≠ 0) = true from decide_eq_true hne]
      rw [hi, ← hf]; rfl
    · have hq : well1S (L.map (·.1)) w = firstS [rangeS w.place 0 255, whenS (decide ((L.length : Int) ≤ w.hor)) 10] := by rw [well1S, decide_eq_false h0, hll]; rfl
      simp only [wset, hset, dset, bset, Nat.reduceAdd, Nat.reduceMul, Nat.reduceLeDiff, Nat.reduceEqDiff, t0, t1, t5, hw.lenm, e3, decide_true, hix, hld]
      refine WF.res T.c66 (r66 T _) ?_
      rintro _ g1 rfl
      simp only [wset, hset, dset, bset, Nat.reduceAdd, Nat.reduceMul, Nat.reduceLeDiff, Nat.reduceEqDiff, t0, t1, t5, eq_false h0, decide_false, o.sl.lenm]
      refine WF.res T.c22 (r22 T _ _) ?_
      rintro _ g2 rfl
      simp only [wset, hset, dset, bset, Nat.reduceAdd, Nat.reduceMul, Nat.reduceLeDiff, Nat.reduceEqDiff]
      refine WF.res T.c35 (r35 T _ _ _) ?_
      rintro _ g3 rfl
      simp only [wset, hset, dset, bset, Nat.reduceAdd, Nat.reduceMul, Nat.reduceLeDiff, Nat.reduceEqDiff]
      refine WF.res T.c35 (r35 T _ _ _) ?_
      rintro _ g4 rfl
      simp only [wset, hset, dset, bset, Nat.reduceAdd, Nat.reduceMul, Nat.reduceLeDiff, Nat.reduceEqDiff]
      refine WF.res T.c98 (r98 T (isSl_ints [_, _, _, _]) (by simp)) ?_
      rintro _ g5 rfl
      by_cases hz : firstS [rangeS w.place 0 255, whenS (decide ((L.length : Int) ≤ w.hor)) 10, rangeS w.depth 0 100000000, rangeS w.err 0 100000000] = 0
      case neg =>
        have hf := first4 (s := whenS (!allHasS ((L.map (·.1)).take (w.hor.toNat + 1)) w.place) 14) (R := chkWellsLS (L.map (·.1)) (W.drop (k + 1))) hz
        rw [← hq] at hf
        simp only [wset, hset, dset, bset, Nat.reduceAdd, Nat.reduceMul, Nat.reduceLeDiff, Nat.reduceEqDiff, show decide (firstS [rangeS w.place 0 255, whenS (decide ((L.length : Int) ≤ w.hor)) 10, rangeS w.depth 0 100000000, rangeS w.err 0 100000000] ≠ 0) = true from decide_eq_true hz]
        rw [hi, ← hf]; rfl
      obtain ⟨z1, z2, z3, z4⟩ := first4z hz
      have hq0 : well1S (L.map (·.1)) w = 0 := by rw [hq, z1, z2]; rfl
      have hw2 : well2S (L.map (·.1)) w = whenS (!allHasS ((L.map (·.1)).take (w.hor.toNat + 1)) w.place) 14 := by rw [well2S, z3, z4, first2]
      rw [whenS_zero (by decide), decide_eq_false_iff_not] at z2
      obtain ⟨j, hj⟩ : ∃ j, j = w.hor.toNat := ⟨_, rfl⟩
      have hjw : w.hor = (j : Int) := by omega
      rw [if_pos hq0, hw2, ← hj] at hi
      obtain ⟨s', hsl, hs'⟩ := o.sl.slm (bnds_hi (kk := .i64) (show j + 1 ≤ L.length by omega))
      rw [List.drop_zero, Nat.sub_zero] at hs'
      have e1 : IntKind.i64.wrap (w.hor + 1) = ((j + 1 : Nat) : Int) := by rw [hjw]; exact wrapN (by omega)
      simp only [wset, hset, dset, bset, Nat.reduceAdd, Nat.reduceMul, Nat.reduceLeDiff, Nat.reduceEqDiff, t0, t1, t5, show decide (firstS [rangeS w.place 0 255, whenS (decide ((L.length : Int) ≤ w.hor)) 10, rangeS w.depth 0 100000000, rangeS w.err 0 100000000] ≠ 0) = false from decide_eq_false (fun hne => hne hz), e1, hsl]
      refine WF.res T.c47 (r47 T (L := L.take (j + 1)) ⟨hs'.ext (by repeat first | exact Ext.refl _ | refine Ext.app _ ?_), by simp; omega, fun y hy => (o.all y (List.mem_of_mem_take hy)).ext (by repeat first | exact Ext.refl _ | refine Ext.app _ ?_)⟩ (fun y hy => (hn y (List.mem_of_mem_take hy)).ne) w.place) ?_
      rintro _ g6 rfl
      rw [List.map_take]
      cases ha : allHasS ((L.map (·.1)).take (j + 1)) w.place with
      | true =>
        rw [ha] at hi
        simp only [wset, hset, dset, bset, Nat.reduceAdd, Nat.reduceMul, Nat.reduceLeDiff, Nat.reduceEqDiff, t0, t1, t5, Bool.not_true, whenS, Bool.false_eq_true, if_false, show decide ((0 : Int) ≠ 0) = false from rfl, wrapN (show k + 1 < 2 ^ 63 by omega)]
        refine ⟨_, ?_, k + 1, by omega, rfl, ?_, rfl⟩
        · omega
        · rw [hi]; rfl
      | false =>
        rw [ha] at hi
        simp only [wset, hset, dset, bset, Nat.reduceAdd, Nat.reduceMul, Nat.reduceLeDiff, Nat.reduceEqDiff, t0, t1, t5, Bool.not_false, whenS, if_true, show decide ((14 : Int) ≠ 0) = true from rfl]
        rw [hi]; rfl
  · have e3 : ¬ (k : Int) < W.length := by omega
    rw [List.drop_eq_nil_of_le (by omega)] at hi
    simp only [wset, hset, dset, bset, Nat.reduceAdd, Nat.reduceMul, Nat.reduceLeDiff, Nat.reduceEqDiff, t0, t1, t5, hw.lenm, e3, decide_false, if_true]
    rw [hi]; rfl

theorem r50 {L : List (Hor × AV)} {s : AV} (o : HorsOk h L s) {V : List (Int × Int)} {sv : AV} (hv : IsSl h sv 2 (V.map ratRow)) (hz : chkVelS (L.map (·.1)) V = 0) {W : List Wl} {sw : AV} (hw : IsSl h sw 4 (W.map wlRow)) (hwl : W.length ≤ 16) (ow : ∀ w ∈ W, WOk L w) :
    RCall P 50 [s, sv, sw] h (fun v h' => Fr h.length h' v 1 ((misK (L.map (·.1)) V W W.length).map intRow)) := by
  refine .of T.mix T.c50 ?_
  unfold fn50
  simp only [wset, hset, dset, bset, Nat.reduceAdd, Nat.reduceMul, Nat.reduceLeDiff, Nat.reduceEqDiff]
  refine WL.inv T.mix (fun n ts h' => ∃ (k : Nat) (out : AV), k ≤ W.length ∧ n = W.length - k ∧ Ext h h' ∧ Fr h.length h' out 1 ((misK (L.map (·.1)) V W k).map intRow) ∧ ts.length = 51 ∧ slot ts 0 = s ∧ slot ts 1 = sv ∧ slot ts 2 = sw ∧ slot ts 7 = out ∧ slot ts 8 = .int .i64 k) W.length
    ⟨0, .nilSlice, by omega, rfl, Ext.refl h, (show Fr h.length h .nilSlice 1 [] from .nil), rfl, rfl, rfl, rfl, rfl, rfl⟩ ?_
  rintro _ ts _ ⟨k, out, hk, rfl, ⟨g, rfl⟩, hfr, hlen, t0, t1, t2, t7, t8⟩
  rw [expl ts 51 hlen]
  by_cases hlt : k < W.length
  · have e3 : (k : Int) < W.length := by omega
    have hK := misK_s (L := L.map (·.1)) (V := V) hlt
    have hkl := misK_len (L := L.map (·.1)) (V := V) (W := W) (k := k)
    have hok := ow W[k] (List.getElem_mem hlt)
    have hix := hw.ixm (kk := .i64) hlt
    have hld : ∀ {kk : AHeap}, Ext h kk → loadF (some 4) (elp sw 4 k) (fun b => kk[b]?) = some (.agg (wlRow W[k]), .keep) := fun {kk} e => hw.ldm hlt e
    generalize W[k] = w at *
    have hd := hok.d
    have he := hok.e
    simp only [wset, hset, dset, bset, Nat.reduceAdd, Nat.reduceMul, Nat.reduceLeDiff, Nat.reduceEqDiff, t0, t1, t2, t7, t8, hw.lenm, e3, decide_true, hix, hld]
    refine WF.res T.c126 (r126 T (o.ext (by repeat first | exact Ext.refl _ | refine Ext.app _ ?_)) (hv.ext (by repeat first | exact Ext.refl _ | refine Ext.app _ ?_)) hz hok) ?_
    rintro _ g1 rfl
    have hmb : mistB (L.map (·.1)) V w = (decide ((depthAtS (L.map (·.1)) V w.hor.toNat w.place).2 < w.depth - w.err) || decide (w.depth + w.err < (depthAtS (L.map (·.1)) V w.hor.toNat w.place).1)) := rfl
    generalize depthAtS (L.map (·.1)) V w.hor.toNat w.place = D at *
    have w1 : IntKind.i64.wrap (w.depth - w.err) = w.depth - w.err := wrap_in (by omega) (by omega)
    have w2 : IntKind.i64.wrap (w.depth + w.err) = w.depth + w.err := wrap_in (by omega) (by omega)
    by_cases c1 : D.2 < w.depth - w.err
    · rw [decide_eq_true c1, Bool.true_or] at hmb
      rw [hmb, if_pos rfl] at hK
      repeat (first | simp only [wset, hset, dset, bset, Nat.reduceAdd, Nat.reduceMul, Nat.reduceLeDiff, Nat.reduceEqDiff, t0, t1, t2, t7, t8, hix, hld, w1, w2, eq_true c1, decide_true] | simp (disch := first | (simp only [List.length_append, List.length_cons, List.length_nil] <;> omega) | rfl | omega | fail) only [kset, wset, hset, dset, bset, Nat.reduceAdd, Nat.reduceMul, Nat.reduceLeDiff, Nat.reduceEqDiff, t0, t1, t2, t7, t8, hld])
      refine WR.app1 (h0 := h) (cs := (misK (L.map (·.1)) V W k).map intRow) (ys := [intRow k]) ?f1 (Fr.push (N := 0) (Nat.zero_le _) [intRow k] (by simp)).isSl (by decide) (by simp) (by simp; omega) (by repeat first | with_reducible exact Ext.refl _ | refine Ext.app _ ?_) ?_
      case f1 => exact hfr.ext (by repeat first | with_reducible exact Ext.refl _ | refine Ext.app _ ?_)
      intro g' hl' hff hkp
      have hrow : (misK (L.map (·.1)) V W k).map intRow ++ [intRow k] = (misK (L.map (·.1)) V W (k + 1)).map intRow := by rw [hK, List.map_append]; rfl
      rw [hrow] at hff
      rw [hrow]
      simp only [wset, hset, dset, bset, Nat.reduceAdd, Nat.reduceMul, Nat.reduceLeDiff, Nat.reduceEqDiff, t0, t1, t2, t7, t8, wrapN (show k + 1 < 2 ^ 63 by omega)]
      refine ⟨_, ?_, k + 1, _, by omega, rfl, hff, rfl, rfl⟩
      omega
    · by_cases c2 : w.depth + w.err < D.1
      · rw [decide_eq_true c2, Bool.or_true] at hmb
        rw [hmb, if_pos rfl] at hK
        repeat (first | simp only [wset, hset, dset, bset, Nat.reduceAdd, Nat.reduceMul, Nat.reduceLeDiff, Nat.reduceEqDiff, t0, t1, t2, t7, t8, hix, hld, w1, w2, eq_false c1, eq_true c2, decide_true, decide_false] | simp (disch := first | (simp only [List.length_append, List.length_cons, List.length_nil] <;> omega) | rfl | omega | fail) only [kset, wset, hset, dset, bset, Nat.reduceAdd, Nat.reduceMul, Nat.reduceLeDiff, Nat.reduceEqDiff, t0, t1, t2, t7, t8, hld])
        refine WR.app1 (h0 := h) (cs := (misK (L.map (·.1)) V W k).map intRow) (ys := [intRow k]) ?f1 (Fr.push (N := 0) (Nat.zero_le _) [intRow k] (by simp)).isSl (by decide) (by simp) (by simp; omega) (by repeat first | with_reducible exact Ext.refl _ | refine Ext.app _ ?_) ?_
        case f1 => exact hfr.ext (by repeat first | with_reducible exact Ext.refl _ | refine Ext.app _ ?_)
        intro g' hl' hff hkp
        have hrow : (misK (L.map (·.1)) V W k).map intRow ++ [intRow k] = (misK (L.map (·.1)) V W (k + 1)).map intRow := by rw [hK, List.map_append]; rfl
        rw [hrow] at hff
        rw [hrow]
        simp only [wset, hset, dset, bset, Nat.reduceAdd, Nat.reduceMul, Nat.reduceLeDiff, Nat.reduceEqDiff, t0, t1, t2, t7, t8, wrapN (show k + 1 < 2 ^ 63 by omega)]
        refine ⟨_, ?_, k + 1, _, by omega, rfl, hff, rfl, rfl⟩
        omega
      · rw [decide_eq_false c1, decide_eq_false c2, Bool.or_false] at hmb
        rw [hmb, if_neg (by simp), List.append_nil] at hK
        repeat (first | simp only [wset, hset, dset, bset, Nat.reduceAdd, Nat.reduceMul, Nat.reduceLeDiff, Nat.reduceEqDiff, t0, t1, t2, t7, t8, hix, hld, w1, w2, eq_false c1, eq_false c2, decide_false, wrapN (show k + 1 < 2 ^ 63 by omega)] | simp (disch := first | (simp only [List.length_append, List.length_cons, List.length_nil] <;> omega) | rfl | omega | fail) only [kset, wset, hset, dset, bset, Nat.reduceAdd, Nat.reduceMul, Nat.reduceLeDiff, Nat.reduceEqDiff, t0, t1, t2, t7, t8, hld])
        refine ⟨_, ?_, k + 1, out, by omega, rfl, ?_, rfl, rfl⟩
        · omega
        · rw [hK]; exact hfr.ext (by repeat first | with_reducible exact Ext.refl _ | refine Ext.app _ ?_)
  · have e3 : ¬ (k : Int) < W.length := by omega
    have e4 : k = W.length := by omega
    rw [e4] at hfr
    simp only [wset, hset, dset, bset, Nat.reduceAdd, Nat.reduceMul, Nat.reduceLeDiff, Nat.reduceEqDiff, t0, t1, t2, t7, t8, hw.lenm, e3, decide_false, if_true]
    exact hfr
end
end Go.Abs
namespace Go.Abs

theorem lh_get {h' : AHeap} {X : ABlk} {g : AHeap} {n : Nat} (hn : h'.length = n) : (h' ++ [X] ++ g)[n]? = some X := by
  subst hn
  rw [List.append_assoc, List.getElem?_append_right (Nat.le_refl _), Nat.sub_self]; rfl
theorem lh_set {h' : AHeap} {X Y : ABlk} {g : AHeap} {n : Nat} (hn : h'.length = n) : (h' ++ [X] ++ g).set n Y = h' ++ [Y] ++ g := by
  subst hn
  rw [List.append_assoc, List.set_append_right _ _ (Nat.le_refl _), Nat.sub_self, List.append_assoc]; rfl

/-- A function calls yield with one list of arguments after the other, until yield says no. -/
structure Iter (P : Program) (f : FuncId) (a c : List AV) (L : List (List AV)) (pre : AHeap → Prop) : Prop where
  run : ∀ (l : Nat) (h : AHeap) (J : Nat → AHeap → Prop) (D : AHeap → Prop), (∀ i k, J i k → pre k) → (∀ i k g, J i k → J i (k ++ g)) →
    (∀ i (hi : i < L.length) k, J i k → ∃ b k', SCallV P (.func (.yield l) [] []) L[i] k (.bool b) k' ∧ (if b = true then J (i + 1) k' else D k')) →
    (∀ k, J L.length k → D k) → J 0 h → GCall P f (a ++ [.func (.yield l) [] []] ++ c) h (fun _ k => D k)

section
variable {P : Program} {ks : List Kt} {ts : TS} {h : AHeap} {Q : Ex → TS → AHeap → Prop}

/-- THE STATEMENT 'for .. := range f { .. }', by an invariant on what was there before the loop, and on what came since. -/
theorem WC.iter (hmix : P.follows .mixedOrders = true) {f : FuncId} {A : AFunc} {a c : List AV} {L : List (List AV)} {pre : AHeap → Prop} {g : Opd} {ps : List Nat} {asg body : ICode} (hA : compileFn P f = some A)
    (hg : val ts g = .func (.func f) a c) (hi : Iter P f a c L pre) (hps : ∀ x ∈ L, x.length = ps.length) (I : Nat → AHeap → AHeap → Prop) (Fin : Ex → AHeap → AHeap → Prop)
    (h0 : I 0 h []) (hcl : ∀ i h' g g2, I i h' g → I i h' (g ++ g2)) (hpre : ∀ i h' g X, h'.length = h.length → I i h' g → pre (h' ++ [X] ++ g))
    (step : ∀ i (hi : i < L.length) h' g (R B : ABlk), h'.length = h.length → I i h' g →
      WC P inRd asg [] (setArgs ts ps L[i]) (h' ++ [R] ++ g) fun e1 ts2 h2 => e1 = .normal ∧ ∃ h1 g1, h2 = h1 ++ [R] ++ g1 ∧ h1.length = h.length ∧
        WC P inRd body [] ts2 (h1 ++ [B] ++ g1) fun e2 _ h4 => ∃ h3 g3, h4 = h3 ++ [B] ++ g3 ∧ h3.length = h.length ∧ (if e2 = .normal then I (i + 1) h3 g3 else Fin e2 h3 g3))
    (done : ∀ e h' g, h'.length = h.length → (if e = .normal then I L.length h' g else Fin e h' g) → WE P inFn e ks ts (h' ++ [ABlk.dead] ++ g) Q) : WC P inFn (.rangeF g ps asg body) ks ts h Q := by
  let J : Nat → AHeap → Prop := fun i k => ∃ h' g, k = h' ++ [.loop .ready .normal ts ps asg body] ++ g ∧ h'.length = h.length ∧ I i h' g
  let D : AHeap → Prop := fun k => ∃ e h' g st, k = h' ++ [.loop st e ts ps asg body] ++ g ∧ h'.length = h.length ∧ st ≠ .busy ∧ (if e = .normal then I L.length h' g else Fin e h' g)
  obtain ⟨v, h2, hs, e, h', g', st, rfl, hl, hst, hfin⟩ := hi.run h.length (h ++ [.loop .ready .normal ts ps asg body]) J D
    (fun i k hJ => by obtain ⟨h', g, rfl, h1, h2⟩ := hJ; exact hpre i h' g _ h1 h2)
    (fun i k g2 hJ => by obtain ⟨h', g, rfl, h1, h2⟩ := hJ; exact ⟨h', g ++ g2, by rw [List.append_assoc], h1, hcl _ _ _ _ h2⟩)
    (fun i hi k hJ => by
      obtain ⟨h', g, rfl, h1, h2⟩ := hJ
      obtain ⟨e1, ts2, k2, q1, rfl, h3, g3, rfl, h4, q2⟩ := W.sound hmix (step i hi h' g (.loop .ready .normal ts ps asg body) (.loop .busy .normal ts ps asg body) h1 h2)
      obtain ⟨e2, ts3, k3, q3, h5, g5, rfl, h6, q4⟩ := W.sound hmix q2
      have hy : SCallV P (.func (.yield h.length) [] []) L[i] (h' ++ [.loop .ready .normal ts ps asg body] ++ g) (.bool (decide (e2 = .normal))) (List.set (h5 ++ [ABlk.loop .busy .normal ts ps asg body] ++ g5) h.length (ABlk.loop (if e2 = .normal then .ready else .done) e2 ts ps asg body)) :=
        SCallV.yield (lh_get h1) (hps _ (List.getElem_mem hi)) (fun r => q1 (some r) ⟨r, rfl⟩) (lh_get h4) (fun r => by rw [lh_set h4]; exact q3 (some r) ⟨r, rfl⟩) (lh_get h6)
      rw [lh_set h6] at hy
      refine ⟨decide (e2 = .normal), _, hy, ?_⟩
      by_cases he : e2 = .normal
      · subst he
        rw [if_pos rfl] at q4
        simp only [decide_true, if_true]
        exact ⟨h5, g5, rfl, h6, q4⟩
      · rw [if_neg he] at q4
        simp only [he, decide_false, Bool.false_eq_true, if_false]
        exact ⟨e2, h5, g5, .done, rfl, h6, by simp, by rw [if_neg he]; exact q4⟩)
    (fun k hJ => by obtain ⟨h', g, rfl, h1, h2⟩ := hJ; exact ⟨.normal, h', g, .ready, rfl, h1, by simp, by rw [if_pos rfl]; exact h2⟩)
    ⟨h, [], by rw [List.append_nil], rfl, h0⟩
  refine ⟨e, ts, h' ++ [ABlk.dead] ++ g', fun r hr => ?_, done e h' g' hl hfin⟩
  have : r = none := hr
  subst this
  have := Ev.rangeF (h := h) (ps := ps) (asg := asg) (body := body) hA hg hs (lh_get hl) hst
  rw [lh_set hl] at this
  exact this
end
end Go.Abs
namespace Go.Abs

theorem setL_all : ∀ (l c pre : List AV), c.length = l.length → setL (pre ++ c) pre.length l = pre ++ l
  | [], c, pre, h => by
    have : c = [] := List.length_eq_zero_iff.1 h
    subst this; rfl
  | x :: l, [], pre, h => by simp at h
  | x :: l, y :: c, pre, h => by
    have e1 : (pre ++ y :: c).set pre.length x = (pre ++ [x]) ++ c := by
      rw [List.set_append_right _ _ (Nat.le_refl _), Nat.sub_self, List.append_assoc]; rfl
    have e2 : pre.length + 1 = (pre ++ [x]).length := by simp
    rw [setL_cons, e1, e2, setL_all l c (pre ++ [x]) (by simpa using h), List.append_assoc]; rfl

theorem flatten_set {es : Nat} {v : AV} : ∀ {cs : List (List AV)}, (∀ x ∈ cs, x.length = es) → ∀ {i off : Nat} (hi : i < cs.length), off < es → cs.flatten.set (i * es + off) v = (cs.set i (cs[i].set off v)).flatten
  | [], _, i, off, hi, _ => absurd hi (Nat.not_lt_zero _)
  | c :: cs, h, 0, off, hi, ho => by
    have hc : c.length = es := h c (List.mem_cons_self ..)
    rw [List.flatten_cons, Nat.zero_mul, Nat.zero_add, List.set_append_left _ _ (by omega)]
    rfl
  | c :: cs, h, i + 1, off, hi, ho => by
    have hc : c.length = es := h c (List.mem_cons_self ..)
    have h1 := flatten_set (v := v) (cs := cs) (fun x hx => h x (List.mem_cons_of_mem _ hx)) (i := i) (off := off) (by simpa using hi) ho
    rw [List.flatten_cons, List.set_append_right _ _ (by rw [Nat.succ_mul]; omega), show (i + 1) * es + off - c.length = i * es + off by rw [Nat.succ_mul]; omega, h1]
    rfl

theorem mksl_ok {es w N0 n : Nat} {z : List AV} {k k' : IntKind} (h1 : w * n ≤ 2 ^ 48) (h2 : n < 2 ^ 63) : mkslF es w z (.int k n) (.int k' n) N0 = some (.slice N0 0 n es, .push (.cells (zrep n z) true true)) := by
  simp only [mkslF]
  rw [if_pos ⟨by omega, by omega, by exact_mod_cast h1, by exact_mod_cast h2⟩]
  rfl

theorem Fr.zeros {N n es : Nat} {h : AHeap} {z : List AV} (hN : N ≤ h.length) (hz : z.length = es) : Fr N (h ++ [.cells (zrep n z) true true]) (.slice h.length 0 n es) es (List.replicate n z) := by
  have := Fr.push (h := h) (es := es) hN (List.replicate n z) (fun x hx => by rw [(List.mem_replicate.1 hx).2]; exact hz)
  rw [List.length_replicate] at this
  exact this

section
variable {P : Program} {ro : Option Nat → Prop} {ks : List Kt} {ts : TS} {Q : Ex → TS → AHeap → Prop} {d : Option Nat} {l : List IOp}

/-- append on a literal without elements: what is there is left alone. -/
theorem WR.appz {q : Bool} {N b es w : Nat} {h : AHeap} {y : AV} {ys : List (List AV)} (hb : h[b]? = some (.cells [] true false)) (hN : N ≤ b) (hy : IsSl h y es ys) (hsz : ys.length * w ≤ 2 ^ 46)
    (K : ∀ s' g, Fr N (h ++ g) s' es ys → WP P ro l ks (put ts d s') (h ++ g) Q) : WR P ro (appT es w (.slice b 0 0 es) y (fun b => h[b]?) h.length) q d l ks ts h Q := by
  have hbl : b < h.length := (List.getElem?_eq_some_iff.1 hb).1
  simp only [appT, hy.cellsG, if_true]
  by_cases hk : ys.length = 0
  · have hys : ys = [] := List.length_eq_zero_iff.1 hk
    subst hys
    simp only [List.length_nil, if_true, List.flatten_nil, List.isEmpty_nil]
    rw [WR_keep]
    have := K (.slice b 0 0 es) [] (by rw [List.append_nil]; exact Fr.mk (cs := []) hN hb (by simp))
    rwa [List.append_nil] at this
  · simp only [if_neg hk, Nat.zero_add, if_pos hsz, hb]
    rw [if_pos (by simp), WR_push]
    exact K _ _ (Fr.push (by omega) ys hy.rows)

/-- A store of one cell into a slice of one's own. -/
theorem WR.put1 {α : Type} {row : α → List AV} {L : List α} {h0 g : AHeap} {s v : AV} {es i off : Nat} {x' : α} (hs : Fr h0.length (h0 ++ g) s es (L.map row)) (hi : i < L.length) (ho : off < es) (hv : v.one = true) (hx : row x' = (row L[i]).set off v)
    (K : ∀ g', g'.length = g.length → Fr h0.length (h0 ++ g') s es ((L.set i x').map row) → (∀ b, (∀ b0 o n e, s = .slice b0 o n e → b ≠ b0) → (h0 ++ g')[b]? = (h0 ++ g)[b]?) → WP P ro l ks (put ts d undefA) (h0 ++ g') Q) :
    WR P ro (storeF 1 (elf s es i off) v (fun b => (h0 ++ g)[b]?)) false d l ks ts (h0 ++ g) Q := by
  have hrl := hs.isSl.rows
  generalize hcs : L.map row = cs at hs
  have hcl : cs.length = L.length := by rw [← hcs, List.length_map]
  cases hs with
  | nil => simp at hcl; omega
  | @mk b _ _ tl hN hb he =>
    have hfl := flatten_len he
    have hie : i * es + off < cs.flatten.length := by
      rw [hfl, hcl]
      have : (i + 1) * es ≤ L.length * es := Nat.mul_le_mul_right _ hi
      rw [Nat.succ_mul] at this; omega
    have hset : cs.flatten.set (i * es + off) v = ((L.set i x').map row).flatten := by
      have := flatten_set (v := v) he (i := i) (off := off) (by omega) ho
      rw [this, List.map_set, hx, hcs]
      congr 2
      simp [← hcs]
    have hbl : b < (h0 ++ g).length := (List.getElem?_eq_some_iff.1 hb).1
    show WR P ro (storeF 1 (.ptr b (0 + i * es + off)) v (fun b => (h0 ++ g)[b]?)) false d l ks ts (h0 ++ g) Q
    rw [Nat.zero_add, storeF_at hb, stB_one hv (by omega), WR_set, hset, List.set_append_right _ _ hN]
    refine K _ (by simp) ?_ fun b' hb' => ?_
    · have hl2 : ((L.set i x').map row).length = cs.length := by simp [hcl]
      rw [← hl2]
      refine Fr.mk hN (tl := tl) ?_ fun y hy => ?_
      · rw [List.getElem?_append_right hN, List.getElem?_set_self (by simp at hbl; omega)]
      · rw [List.map_set] at hy
        rcases List.mem_or_eq_of_mem_set hy with hy | hy
        · exact he y (by rw [← hcs]; exact hy)
        · rw [hy, hx, List.length_set]
          exact he _ (by rw [← hcs]; exact List.mem_map_of_mem (List.getElem_mem hi))
    · have hne := hb' b 0 _ _ rfl
      rw [← List.set_append_right _ _ hN, List.getElem?_set_ne (Ne.symm hne)]

/-- copy, where both are of one length. -/
theorem WR.cpy1 {h0 g : AHeap} {s sy : AV} {es : Nat} {cs ys : List (List AV)} {x y : Opd} (hx : val ts x = s) (hy : val ts y = sy) (hs : Fr h0.length (h0 ++ g) s es cs) (hsy : IsSl (h0 ++ g) sy es ys) (hl : cs.length = ys.length)
    (K : ∀ g' v, g'.length = g.length → Fr h0.length (h0 ++ g') s es ys → (∀ b, (∀ b0 o n e, s = .slice b0 o n e → b ≠ b0) → (h0 ++ g')[b]? = (h0 ++ g)[b]?) → WP P ro l ks (put ts d v) (h0 ++ g') Q) :
    WR P ro (stepT (.cpy es x y) (val ts) (fun b => (h0 ++ g)[b]?) (h0 ++ g).length) false d l ks ts (h0 ++ g) Q := by
  simp only [stepT, fnT, hx, hy, hsy.cellsG]
  have hyl := flatten_len hsy.rows
  cases hs with
  | nil =>
    have : ys = [] := List.length_eq_zero_iff.1 hl.symm
    subst this
    simp only
    rw [WR_keep]
    exact K g _ rfl .nil fun _ _ => rfl
  | @mk b _ _ tl hN hb he =>
    have hcl := flatten_len he
    have hmin : min ys.length cs.length = ys.length := by omega
    simp only [if_true, hmin]
    by_cases hk : ys.length = 0
    · have hys : ys = [] := List.length_eq_zero_iff.1 hk
      have hcs : cs = [] := List.length_eq_zero_iff.1 (by omega)
      subst hys; subst hcs
      simp only [List.length_nil, if_true]
      rw [WR_keep]
      exact K g _ rfl (Fr.mk (cs := []) hN hb (by simp)) fun _ _ => rfl
    · have hbl : b < (h0 ++ g).length := (List.getElem?_eq_some_iff.1 hb).1
      simp only [if_neg hk, hb, Nat.zero_add]
      rw [if_pos (by rw [hcl, hl]; omega), WR_set]
      have hset : setL cs.flatten 0 (ys.flatten.take (ys.length * es)) = ys.flatten := by
        rw [← hyl, List.take_length]
        have := setL_all ys.flatten cs.flatten [] (by rw [hcl, hyl, hl])
        simpa using this
      rw [hset, List.set_append_right _ _ hN]
      refine K _ _ (by simp) ?_ fun b' hb' => ?_
      · rw [hl]
        refine Fr.mk hN (tl := tl) ?_ hsy.rows
        rw [List.getElem?_append_right hN, List.getElem?_set_self (by simp at hbl; omega)]
      · have hne := hb' b 0 _ _ rfl
        rw [← List.set_append_right _ _ hN, List.getElem?_set_ne (Ne.symm hne)]
end
end Go.Abs
namespace Go.Abs

/-- Two horizons are alike. -/
def sameS (A B : Hor) : Bool := decide (A.name = B.name) && (decide (A.err = B.err) && decide (A.picks = B.picks))
def noHor : Hor := ⟨[], 0, []⟩
def changedS (A : Hor) (e bad : Int) (B : Hor) : Bool := if bad ≠ 0 then sameS A noHor && decide (e = bad) else decide (e = 0) && sameS A B

theorem sameS_refl (A : Hor) : sameS A A = true := by simp [sameS]
theorem HorOk.no {h : AHeap} : HorOk h noHor .nilSlice := ⟨.nil, by decide, by decide⟩

theorem drop_eq_step {α : Type} [DecidableEq α] {A B : List α} {k : Nat} (ha : k < A.length) (hb : k < B.length) : decide (A.drop k = B.drop k) = (decide (A[k] = B[k]) && decide (A.drop (k + 1) = B.drop (k + 1))) := by
  rw [List.drop_eq_getElem_cons ha, List.drop_eq_getElem_cons hb, Bool.eq_iff_iff]
  simp only [List.cons.injEq, decide_eq_true_eq, Bool.and_eq_true]
theorem pk_eq (a b : Pk) : (decide (a.1 = b.1) && (decide (a.2 = b.2) && true)) = decide (a = b) := by
  rw [Bool.eq_iff_iff]; simp [Prod.ext_iff]

section
variable {P : Program} (T : Tbl P) {h : AHeap}
include T

theorem r68 {H : Hor} {s : AV} (hs : IsSl h s 2 (H.picks.map pkRow)) (hb : H.picks.length ≤ 2 ^ 40) : RCall P 68 [horA H s] h (fun v h' => ∃ s', v = horA H s' ∧ Fr h.length h' s' 2 (H.picks.map pkRow)) := by
  refine .of T.mix T.c68 ?_
  unfold fn68
  simp only [wset, hset, dset, bset, Nat.reduceAdd, Nat.reduceMul, Nat.reduceLeDiff, Nat.reduceEqDiff, hs.one, hs.lenm]
  refine WL.inv T.mix (fun n ts h' => ∃ (k : Nat) (out : AV) (g : AHeap), k ≤ H.picks.length ∧ n = H.picks.length - k ∧ h' = h ++ [ABlk.cells [AV.str H.name, AV.int IntKind.i64 H.err, s] true false] ++ [ABlk.cells [AV.str [], AV.int IntKind.i64 0, AV.nilSlice] true false] ++ [ABlk.cells [AV.str H.name, AV.int IntKind.i64 H.err, out] true false] ++ g ∧ Fr (h.length + 3) h' out 2 ((H.picks.take k).map pkRow) ∧ ts.length = 26 ∧ slot ts 2 = .ptr (h ++ [ABlk.cells [AV.str H.name, AV.int IntKind.i64 H.err, s] true false]).length 0 ∧ slot ts 3 = .ptr (h ++ [ABlk.cells [AV.str H.name, AV.int IntKind.i64 H.err, s] true false] ++ [ABlk.cells [AV.str [], AV.int IntKind.i64 0, AV.nilSlice] true false]).length 0 ∧ slot ts 12 = s ∧ slot ts 13 = .int .i64 H.picks.length ∧ slot ts 14 = .int .i64 k) H.picks.length
    ⟨0, .nilSlice, [], by omega, rfl, by rw [List.append_nil], .nil, rfl, rfl, rfl, rfl, rfl, rfl⟩ ?_
  rintro _ ts _ ⟨k, out, g, hk, rfl, rfl, hfr, hlen, t2, t3, t12, t13, t14⟩
  rw [expl ts 26 hlen]
  by_cases hlt : k < H.picks.length
  · have e3 : (k : Int) < H.picks.length := by omega
    simp only [wset, hset, dset, bset, Nat.reduceAdd, Nat.reduceMul, Nat.reduceLeDiff, Nat.reduceEqDiff, t2, t3, t12, t13, t14, e3, decide_true, hs.ixm hlt, hs.ldm hlt]
    have e0 : (h ++ [ABlk.cells [AV.str H.name, AV.int IntKind.i64 H.err, s] true false] ++ [ABlk.cells [AV.str [], AV.int IntKind.i64 0, AV.nilSlice] true false] ++ [ABlk.cells [AV.str H.name, AV.int IntKind.i64 H.err, out] true false]).length = h.length + 3 := by simp
    refine WR.app1 (h0 := h ++ [ABlk.cells [AV.str H.name, AV.int IntKind.i64 H.err, s] true false] ++ [ABlk.cells [AV.str [], AV.int IntKind.i64 0, AV.nilSlice] true false] ++ [ABlk.cells [AV.str H.name, AV.int IntKind.i64 H.err, out] true false]) (cs := (H.picks.take k).map pkRow) (ys := [pkRow H.picks[k]]) (by rw [e0]; exact (hfr.app _).app _) (Fr.push (N := 0) (Nat.zero_le _) [pkRow H.picks[k]] (by simp)).isSl (by decide) (by simp) (by simp; omega) (by simp only [eset]) ?_
    intro g' hl hf hkp
    have hrow : (H.picks.take k).map pkRow ++ [pkRow H.picks[k]] = (H.picks.take (k + 1)).map pkRow := by rw [List.take_add_one, List.getElem?_eq_getElem hlt, List.map_append]; rfl
    rw [e0, hrow] at hf
    rw [hrow]
    simp only [wset, hset, dset, bset, Nat.reduceAdd, Nat.reduceMul, Nat.reduceLeDiff, Nat.reduceEqDiff, t2, t3, t12, t13, t14, wrapN (show k + 1 < 2 ^ 63 by omega)]
    refine ⟨_, ?_, k + 1, _, g', by omega, rfl, rfl, hf.swap' e0 (by simp), rfl⟩
    omega
  · have e3 : ¬ (k : Int) < H.picks.length := by omega
    have e4 : k = H.picks.length := by omega
    simp only [wset, hset, dset, bset, Nat.reduceAdd, Nat.reduceMul, Nat.reduceLeDiff, Nat.reduceEqDiff, t2, t3, t12, t13, t14, e3, decide_false, if_true, hfr.isSl.one]
    rw [e4, List.take_length] at hfr
    exact ⟨_, rfl, (hfr.swap' (A := h ++ [ABlk.cells [AV.str H.name, AV.int IntKind.i64 H.err, s] true false] ++ [ABlk.cells [AV.str [], AV.int IntKind.i64 0, AV.nilSlice] true false] ++ [ABlk.cells [AV.str H.name, AV.int IntKind.i64 H.err, out] true false]) (by simp) (by simp)).low (by omega)⟩

theorem r79 {H : Hor} {s : AV} (hs : IsSl h s 2 (H.picks.map pkRow)) (hb : H.picks.length ≤ 2 ^ 40) : RCall P 79 [horA H s] h (fun v h' => ∃ s', v = horA H s' ∧ Fr h.length h' s' 2 (H.picks.map pkRow)) := by
  refine .of T.mix T.c79 ?_
  unfold fn79
  simp only [wset, hset, dset, bset, Nat.reduceAdd, Nat.reduceMul, Nat.reduceLeDiff, Nat.reduceEqDiff, hs.one]
  refine WR.appz (N := h.length + 2) at_new (by simp) (hs.ext (by repeat first | exact Ext.refl _ | refine Ext.app _ ?_)) (by simp; omega) fun s' g hf => ?_
  simp only [wset, hset, dset, bset, Nat.reduceAdd, Nat.reduceMul, Nat.reduceLeDiff, Nat.reduceEqDiff, hf.isSl.one]
  have e0 : ∀ K K' : ABlk, (h ++ [K] ++ [K']).length = h.length + 2 := fun _ _ => by simp
  rw [List.append_assoc] at hf ⊢
  exact ⟨s', rfl, (hf.swap' (e0 _ _) (e0 _ _)).low (by omega)⟩

theorem r69 {A B : Hor} {sa sb : AV} (ha : HorOk h A sa) (hb : HorOk h B sb) : RCall P 69 [horA A sa, horA B sb] h (fun v _ => v = .bool (sameS A B)) := by
  refine .of T.mix T.c69 ?_
  unfold fn69
  simp only [wset, hset, dset, bset, Nat.reduceAdd, Nat.reduceMul, Nat.reduceLeDiff, Nat.reduceEqDiff, ha.sl.one, hb.sl.one, ha.sl.lenm, hb.sl.lenm]
  by_cases hn : A.name = B.name
  case neg =>
    rw [show decide (A.name ≠ B.name) = true from by simp [hn], show sameS A B = false from by simp [sameS, hn]]
    simp only [wset, hset, dset, bset, Nat.reduceAdd, Nat.reduceMul, Nat.reduceLeDiff, Nat.reduceEqDiff]
  rw [show decide (A.name ≠ B.name) = false from by simp [hn]]
  by_cases he : A.err = B.err
  case neg =>
    simp only [wset, hset, dset, bset, Nat.reduceAdd, Nat.reduceMul, Nat.reduceLeDiff, Nat.reduceEqDiff, show decide (A.err ≠ B.err) = true from by simp [he]]
    rw [show sameS A B = false from by simp [sameS, he]]
  by_cases hp : A.picks.length = B.picks.length
  case neg =>
    simp only [wset, hset, dset, bset, Nat.reduceAdd, Nat.reduceMul, Nat.reduceLeDiff, Nat.reduceEqDiff, ha.sl.lenm, hb.sl.lenm, show decide (A.err ≠ B.err) = false from by simp [he], show decide ((A.picks.length : Int) ≠ (B.picks.length : Int)) = true from by simp; omega]
    rw [show sameS A B = false from by simp [sameS]; intro _ _ e; exact hp (by rw [e])]
  simp only [wset, hset, dset, bset, Nat.reduceAdd, Nat.reduceMul, Nat.reduceLeDiff, Nat.reduceEqDiff, ha.sl.lenm, hb.sl.lenm, show decide (A.err ≠ B.err) = false from by simp [he], show decide ((A.picks.length : Int) ≠ (B.picks.length : Int)) = false from by simp; omega]
  have hs : sameS A B = decide (A.picks = B.picks) := by simp [sameS, hn, he]
  rw [hs]
  refine WL.inv T.mix (fun n ts h' => ∃ k : Nat, k ≤ A.picks.length ∧ n = A.picks.length - k ∧ h' = h ++ [ABlk.cells [AV.str A.name, AV.int IntKind.i64 A.err, sa] true false] ++ [ABlk.cells [AV.str B.name, AV.int IntKind.i64 B.err, sb] true false] ∧ decide (A.picks = B.picks) = decide (A.picks.drop k = B.picks.drop k) ∧ ts.length = 45 ∧ slot ts 2 = .ptr h.length 0 ∧ slot ts 3 = .ptr (h ++ [ABlk.cells [AV.str A.name, AV.int IntKind.i64 A.err, sa] true false]).length 0 ∧ slot ts 5 = .int .i64 k) A.picks.length
    ⟨0, by omega, rfl, rfl, rfl, rfl, rfl, rfl, rfl⟩ ?_
  rintro _ ts _ ⟨k, hk, rfl, rfl, hi, hlen, t2, t3, t5⟩
  rw [expl ts 45 hlen]
  by_cases hlt : k < A.picks.length
  · have hltb : k < B.picks.length := by omega
    have e3 : (k : Int) < A.picks.length := by omega
    rw [drop_eq_step hlt hltb] at hi
    simp only [wset, hset, dset, bset, Nat.reduceAdd, Nat.reduceMul, Nat.reduceLeDiff, Nat.reduceEqDiff, t2, t3, t5, ha.sl.lenm, e3, decide_true, ha.sl.ixm hlt, ha.sl.ldm hlt, hb.sl.ixm hltb, hb.sl.ldm hltb, pk_eq]
    cases hq : decide (A.picks[k] = B.picks[k]) with
    | false =>
      rw [hq, Bool.false_and] at hi
      simp only [wset, hset, dset, bset, Nat.reduceAdd, Nat.reduceMul, Nat.reduceLeDiff, Nat.reduceEqDiff, Bool.not_false]
      rw [hi]
    | true =>
      rw [hq, Bool.true_and] at hi
      simp only [wset, hset, dset, bset, Nat.reduceAdd, Nat.reduceMul, Nat.reduceLeDiff, Nat.reduceEqDiff, Bool.not_true, t5, wrapN (show k + 1 < 2 ^ 63 by have := ha.len; omega)]
      refine ⟨_, ?_, k + 1, by omega, rfl, hi, rfl⟩
      omega
  · have e3 : ¬ (k : Int) < A.picks.length := by omega
    have e4 : k = A.picks.length := by omega
    have e5 : k = B.picks.length := by omega
    simp only [wset, hset, dset, bset, Nat.reduceAdd, Nat.reduceMul, Nat.reduceLeDiff, Nat.reduceEqDiff, t2, t3, t5, ha.sl.lenm, e3, decide_false, if_true]
    rw [hi, e4, List.drop_length, ← e4, e5, List.drop_length]; rfl

theorem r40 {sa sb : AV} {A B : List Int} (ha : IsSl h sa 1 (A.map intRow)) (hb : IsSl h sb 1 (B.map intRow)) (hl : A.length < 2 ^ 63) : RCall P 40 [sa, sb] h (fun v _ => v = .bool (decide (A = B))) := by
  refine .of T.mix T.c40 ?_
  unfold fn40
  simp only [wset, hset, dset, bset, Nat.reduceAdd, Nat.reduceMul, Nat.reduceLeDiff, Nat.reduceEqDiff, ha.lenm, hb.lenm]
  by_cases hp : A.length = B.length
  case neg =>
    simp only [wset, hset, dset, bset, Nat.reduceAdd, Nat.reduceMul, Nat.reduceLeDiff, Nat.reduceEqDiff, show decide ((A.length : Int) ≠ (B.length : Int)) = true from by simp; omega]
    rw [show decide (A = B) = false from by simp; intro e; exact hp (by rw [e])]
  simp only [wset, hset, dset, bset, Nat.reduceAdd, Nat.reduceMul, Nat.reduceLeDiff, Nat.reduceEqDiff, show decide ((A.length : Int) ≠ (B.length : Int)) = false from by simp; omega]
  refine WL.inv T.mix (fun n ts h' => ∃ k : Nat, k ≤ A.length ∧ n = A.length - k ∧ h' = h ∧ decide (A = B) = decide (A.drop k = B.drop k) ∧ ts.length = 26 ∧ slot ts 0 = sa ∧ slot ts 1 = sb ∧ slot ts 5 = .int .i64 k) A.length
    ⟨0, by omega, rfl, rfl, rfl, rfl, rfl, rfl, rfl⟩ ?_
  rintro _ ts _ ⟨k, hk, rfl, rfl, hi, hlen, t0, t1, t5⟩
  rw [expl ts 26 hlen]
  by_cases hlt : k < A.length
  · have hltb : k < B.length := by omega
    have e3 : (k : Int) < A.length := by omega
    rw [drop_eq_step hlt hltb] at hi
    simp only [wset, hset, dset, bset, Nat.reduceAdd, Nat.reduceMul, Nat.reduceLeDiff, Nat.reduceEqDiff, t0, t1, t5, ha.lenm, e3, decide_true, ha.ixm hlt, ha.l1m hlt rfl (Ext.refl _), hb.ixm hltb, hb.l1m hltb rfl (Ext.refl _)]
    by_cases hq : A[k] = B[k]
    · rw [decide_eq_true hq, Bool.true_and] at hi
      simp only [wset, hset, dset, bset, Nat.reduceAdd, Nat.reduceMul, Nat.reduceLeDiff, Nat.reduceEqDiff, show decide (A[k] ≠ B[k]) = false from by simp [hq], t5, wrapN (show k + 1 < 2 ^ 63 by omega)]
      refine ⟨_, ?_, k + 1, by omega, rfl, hi, rfl⟩
      omega
    · rw [decide_eq_false hq, Bool.false_and] at hi
      simp only [wset, hset, dset, bset, Nat.reduceAdd, Nat.reduceMul, Nat.reduceLeDiff, Nat.reduceEqDiff, show decide (A[k] ≠ B[k]) = true from by simp [hq]]
      rw [hi]
  · have e3 : ¬ (k : Int) < A.length := by omega
    have e4 : k = A.length := by omega
    have e5 : k = B.length := by omega
    simp only [wset, hset, dset, bset, Nat.reduceAdd, Nat.reduceMul, Nat.reduceLeDiff, Nat.reduceEqDiff, t0, t1, t5, ha.lenm, e3, decide_false, if_true]
    rw [hi, e4, List.drop_length, ← e4, e5, List.drop_length]; rfl

theorem r39 {A B : Hor} {sa sb : AV} (ha : HorOk h A sa) (hb : HorOk h B sb) (hl : A.picks.length ≤ 2 ^ 40) (e bad : Int) : RCall P 39 [horA A sa, .int .i64 e, .int .i64 bad, horA B sb] h (fun v _ => v = .bool (changedS A e bad B)) := by
  refine .of T.mix T.c39 ?_
  unfold fn39
  simp only [wset, hset, dset, bset, Nat.reduceAdd, Nat.reduceMul, Nat.reduceLeDiff, Nat.reduceEqDiff, ha.sl.one, hb.sl.one]
  by_cases hbad : bad = 0
  · subst hbad
    simp only [wset, hset, dset, bset, Nat.reduceAdd, Nat.reduceMul, Nat.reduceLeDiff, Nat.reduceEqDiff, ne_eq, not_true_eq_false, decide_false]
    by_cases he : e = 0
    · simp only [wset, hset, dset, bset, Nat.reduceAdd, Nat.reduceMul, Nat.reduceLeDiff, Nat.reduceEqDiff, show decide (e = 0) = true from by simp [he]]
      refine WF.res T.c68 (r68 T (H := A) (ha.sl.ext (by repeat first | exact Ext.refl _ | refine Ext.app _ ?_)) hl) ?_
      rintro _ g1 ⟨s1, rfl, hs1⟩
      simp only [wset, hset, dset, bset, Nat.reduceAdd, Nat.reduceMul, Nat.reduceLeDiff, Nat.reduceEqDiff]
      refine WF.res2 T.c69 (r69 T (A := A) (B := B) ⟨hs1.isSl, ha.len, ha.nm⟩ (hb.ext (by repeat first | exact Ext.refl _ | refine Ext.app _ ?_))) ?_
      rintro _ g2 rfl
      simp only [wset, hset, dset, bset, Nat.reduceAdd, Nat.reduceMul, Nat.reduceLeDiff, Nat.reduceEqDiff]
      simp [changedS, he]
    · simp only [wset, hset, dset, bset, Nat.reduceAdd, Nat.reduceMul, Nat.reduceLeDiff, Nat.reduceEqDiff, he, decide_false]
      simp [changedS, he]
  · simp only [wset, hset, dset, bset, Nat.reduceAdd, Nat.reduceMul, Nat.reduceLeDiff, Nat.reduceEqDiff, show decide (bad ≠ 0) = true from by simp [hbad]]
    refine WF.res T.c68 (r68 T (H := A) (ha.sl.ext (by repeat first | exact Ext.refl _ | refine Ext.app _ ?_)) hl) ?_
    rintro _ g1 ⟨s1, rfl, hs1⟩
    simp only [wset, hset, dset, bset, Nat.reduceAdd, Nat.reduceMul, Nat.reduceLeDiff, Nat.reduceEqDiff]
    refine WF.res2 T.c69 (r69 T (A := A) (B := noHor) ⟨hs1.isSl, ha.len, ha.nm⟩ HorOk.no) ?_
    rintro _ g2 rfl
    simp only [wset, hset, dset, bset, Nat.reduceAdd, Nat.reduceMul, Nat.reduceLeDiff, Nat.reduceEqDiff]
    cases hq : sameS A noHor with
    | false => simp only [wset, hset, dset, bset, Nat.reduceAdd, Nat.reduceMul, Nat.reduceLeDiff, Nat.reduceEqDiff]; simp [changedS, hbad, hq]
    | true => simp only [wset, hset, dset, bset, Nat.reduceAdd, Nat.reduceMul, Nat.reduceLeDiff, Nat.reduceEqDiff]; simp [changedS, hbad, hq]

theorem r33 {s : AV} {l : List Int} (hs : IsSl h s 1 (l.map intRow)) (hl : l.length < 2 ^ 63) : RCall P 33 [s] h (fun v _ => v = .int .i64 (firstS l)) := by
  refine .of T.mix T.c33 ?_
  unfold fn33
  simp only [wset, hset, dset, bset, Nat.reduceAdd, Nat.reduceMul, Nat.reduceLeDiff, Nat.reduceEqDiff]
  refine WF.res T.c98 (r98 T hs hl) ?_
  rintro _ g rfl
  simp only [wset, hset, dset, bset, Nat.reduceAdd, Nat.reduceMul, Nat.reduceLeDiff, Nat.reduceEqDiff]

theorem r34 (p t : Int) : RCall P 34 [.agg [.int .i64 p, .int .i64 t]] h (fun v _ => v = .int .i64 (firstS [rangeS p 0 255, rangeS t (-10000) 10000])) := by
  refine .of T.mix T.c34 ?_
  unfold fn34
  simp only [wset, hset, dset, bset, Nat.reduceAdd, Nat.reduceMul, Nat.reduceLeDiff, Nat.reduceEqDiff]
  refine WF.res T.c66 (r66 T _) ?_
  rintro _ g1 rfl
  simp only [wset, hset, dset, bset, Nat.reduceAdd, Nat.reduceMul, Nat.reduceLeDiff, Nat.reduceEqDiff]
  refine WF.res T.c35 (r35 T _ _ _) ?_
  rintro _ g2 rfl
  simp only [wset, hset, dset, bset, Nat.reduceAdd, Nat.reduceMul, Nat.reduceLeDiff, Nat.reduceEqDiff]
  refine WF.res T.c98 (r98 T (isSl_ints [_, _]) (by simp)) ?_
  rintro _ g3 rfl
  simp only [wset, hset, dset, bset, Nat.reduceAdd, Nat.reduceMul, Nat.reduceLeDiff, Nat.reduceEqDiff]

theorem r42 {V : List (Int × Int)} {s : AV} (hs : IsSl h s 2 (V.map ratRow)) (hb : V.length ≤ 2 ^ 40) : RCall P 42 [s] h (fun v h' => Fr h.length h' v 2 (V.map ratRow)) := by
  refine .of T.mix T.c42 ?_
  unfold fn42
  simp only [wset, hset, dset, bset, Nat.reduceAdd, Nat.reduceMul, Nat.reduceLeDiff, Nat.reduceEqDiff]
  refine WR.appz (N := h.length) at_new (Nat.le_refl _) (hs.ext (by repeat first | exact Ext.refl _ | refine Ext.app _ ?_)) (by simp; omega) fun s' g hf => ?_
  simp only [wset, hset, dset, bset, Nat.reduceAdd, Nat.reduceMul, Nat.reduceLeDiff, Nat.reduceEqDiff]
  exact hf
end
end Go.Abs
namespace Go.Abs

def fltP (p t : Int) (x : Pk) : Pk := if p ≤ x.1 then (x.1, x.2 + t) else x
def fltH (H : Hor) (p t : Int) : Hor := ⟨H.name, H.err, H.picks.map (fltP p t)⟩
def outP (x : Pk) : Bool := decide (rangeS x.2 0 100000 ≠ 0)
def fltE (H : Hor) (p t : Int) : Int := firstS [chkHorS H, rangeS p 0 255, rangeS t (-10000) 10000]
def faultedS (H : Hor) (p t : Int) : Hor × Int :=
  if fltE H p t = 0 then (if (fltH H p t).picks.any outP then (noHor, 4) else (fltH H p t, 0)) else (noHor, fltE H p t)

/-- A list whose first elements are changed. -/
def mix {α : Type} (f : α → α) (L : List α) (k : Nat) : List α := (L.take k).map f ++ L.drop k
theorem mix_len {α : Type} {f : α → α} {L : List α} {k : Nat} (hk : k ≤ L.length) : (mix f L k).length = L.length := by simp [mix]; omega
theorem mix_0 {α : Type} {f : α → α} {L : List α} : mix f L 0 = L := by simp [mix]
theorem mix_all {α : Type} {f : α → α} {L : List α} {k : Nat} (hk : k = L.length) : mix f L k = L.map f := by subst hk; simp [mix]
theorem mix_get {α : Type} {f : α → α} {L : List α} {k : Nat} (hk : k < L.length) : (mix f L k)[k]? = some L[k] := by
  rw [mix, List.getElem?_append_right (by rw [List.length_map, List.length_take]; omega), List.length_map, List.length_take, Nat.min_eq_left (Nat.le_of_lt hk), Nat.sub_self, List.getElem?_drop, Nat.add_zero, List.getElem?_eq_getElem hk]
theorem mix_set {α : Type} {f : α → α} {L : List α} {k : Nat} (hk : k < L.length) : (mix f L k).set k (f L[k]) = mix f L (k + 1) := by
  have e1 : ((L.take k).map f).length = k := by rw [List.length_map, List.length_take]; omega
  rw [mix, mix, List.set_append_right _ _ (by omega), e1, Nat.sub_self, List.take_add_one, List.getElem?_eq_getElem hk, List.drop_eq_getElem_cons hk, List.map_append, List.append_assoc]
  rfl
theorem mix_id {α : Type} {f : α → α} {L : List α} {k : Nat} (hk : k < L.length) (he : f L[k] = L[k]) : mix f L k = mix f L (k + 1) := by
  rw [← mix_set hk, he]
  exact (List.ext_getElem? fun i => by
    by_cases hi : i = k
    · subst hi
      rw [mix_get hk, List.getElem?_set_self (by rw [mix_len (Nat.le_of_lt hk)]; exact hk)]
    · rw [List.getElem?_set_ne (Ne.symm hi)])

theorem fltE_zero {H : Hor} {p t : Int} (h : fltE H p t = 0) : HorV H ∧ 0 ≤ p ∧ p ≤ 255 ∧ -10000 ≤ t ∧ t ≤ 10000 := by
  have := firstS_zero.1 h
  have h1 := horV_iff.1 (this (chkHorS H) (by simp))
  have h2 := rangeS_zero.1 (this (rangeS p 0 255) (by simp))
  have h3 := rangeS_zero.1 (this (rangeS t (-10000) 10000) (by simp))
  exact ⟨h1, h2.1, h2.2, h3.1, h3.2⟩

section
variable {P : Program} (T : Tbl P) {h : AHeap}
include T

theorem r111 {α : Type} {row : α → List AV} {L : List α} {s f : AV} (hs : IsSl h s 2 (L.map row)) (hl : L.length < 2 ^ 63) (p : α → Bool)
    (hf : ∀ x, x ∈ L → ∀ k, Ext h k → VCall P f [.agg (row x)] k (fun v _ => v = .bool (p x))) : RCall P 111 [s, f] h (fun v _ => v = .bool (L.any p)) := by
  refine .of T.mix T.c111 ?_
  unfold fn111
  simp only [wset, hset, dset, bset, Nat.reduceAdd, Nat.reduceMul, Nat.reduceLeDiff, Nat.reduceEqDiff]
  refine WF.res T.c158 (r158 T hs hl p hf) ?_
  rintro _ g rfl
  simp only [wset, hset, dset, bset, Nat.reduceAdd, Nat.reduceMul, Nat.reduceLeDiff, Nat.reduceEqDiff, idx_any]

theorem r112 (x : Pk) : RCall P 112 [.agg (pkRow x)] h (fun v _ => v = .bool (outP x)) := by
  refine .of T.mix T.c112 ?_
  unfold fn112
  simp only [wset, hset, dset, bset, Nat.reduceAdd, Nat.reduceMul, Nat.reduceLeDiff, Nat.reduceEqDiff]
  refine WF.res T.c108 (r108 T _ _ _) ?_
  rintro _ g1 rfl
  simp only [wset, hset, dset, bset, Nat.reduceAdd, Nat.reduceMul, Nat.reduceLeDiff, Nat.reduceEqDiff]
  rfl

theorem r113 {H : Hor} {s : AV} {s' : AV} {L : List Pk} (h1 : s.one = true) (h2 : s'.one = true) : RCall P 113 [horA H s, s'] h (fun v _ => v = horA ⟨H.name, H.err, L⟩ s') := by
  refine .of T.mix T.c113 ?_
  unfold fn113
  simp only [wset, hset, dset, bset, Nat.reduceAdd, Nat.reduceMul, Nat.reduceLeDiff, Nat.reduceEqDiff, h1, h2]

theorem r30 {H : Hor} {s : AV} (o : HorOk h H s) (p t : Int) : RCall P 30 [horA H s, .agg [.int .i64 p, .int .i64 t]] h (fun v h' => ∃ s', v = .tup [horA (faultedS H p t).1 s', .int .i64 (faultedS H p t).2] ∧ HorOk h' (faultedS H p t).1 s') := by
  refine .of T.mix T.c30 ?_
  unfold fn30
  simp only [wset, hset, dset, bset, Nat.reduceAdd, Nat.reduceMul, Nat.reduceLeDiff, Nat.reduceEqDiff, o.sl.one]
  refine WF.res T.c26 (r26 T (H := H) (o.sl.ext (by repeat first | exact Ext.refl _ | refine Ext.app _ ?_)) o.len) ?_
  rintro _ g1 rfl
  simp only [wset, hset, dset, bset, Nat.reduceAdd, Nat.reduceMul, Nat.reduceLeDiff, Nat.reduceEqDiff]
  refine WF.res T.c108 (r108 T _ _ _) ?_
  rintro _ g2 rfl
  simp only [wset, hset, dset, bset, Nat.reduceAdd, Nat.reduceMul, Nat.reduceLeDiff, Nat.reduceEqDiff]
  refine WF.res T.c108 (r108 T _ _ _) ?_
  rintro _ g3 rfl
  simp only [wset, hset, dset, bset, Nat.reduceAdd, Nat.reduceMul, Nat.reduceLeDiff, Nat.reduceEqDiff]
  refine WF.res T.c105 (r105 T (isSl_ints [_, _, _]) (by simp)) ?_
  rintro _ g4 rfl
  by_cases he : fltE H p t = 0
  case neg =>
    simp only [wset, hset, dset, bset, Nat.reduceAdd, Nat.reduceMul, Nat.reduceLeDiff, Nat.reduceEqDiff, show decide (firstS [chkHorS H, rangeS p 0 255, rangeS t (-10000) 10000] ≠ 0) = true from decide_eq_true he]
    rw [faultedS, if_neg he]
    exact ⟨_, rfl, HorOk.no⟩
  obtain ⟨v, hp0, hp1, ht0, ht1⟩ := fltE_zero he
  have hle := v.le
  simp only [wset, hset, dset, bset, Nat.reduceAdd, Nat.reduceMul, Nat.reduceLeDiff, Nat.reduceEqDiff, show decide (firstS [chkHorS H, rangeS p 0 255, rangeS t (-10000) 10000] ≠ 0) = false from decide_eq_false (fun hne => hne he), o.sl.one, o.sl.lenm, mksl_ok (n := H.picks.length) (w := 16) (show 16 * H.picks.length ≤ 2 ^ 48 by omega) o.len]
  refine WR.cpy1 (s := AV.slice _ 0 H.picks.length 2) rfl rfl (Fr.zeros (Nat.le_refl _) rfl) (o.sl.ext (by repeat first | exact Ext.refl _ | refine Ext.app _ ?_)) (by simp) ?_
  intro g' v' hl' hfr0 hkp
  clear hkp
  generalize hbase : h ++ [ABlk.cells [AV.str H.name, AV.int IntKind.i64 H.err, s] true false] ++ [ABlk.cells [AV.int IntKind.i64 p, AV.int IntKind.i64 t] true false] ++ [ABlk.cells [AV.str [], AV.int IntKind.i64 0, AV.nilSlice] true false] ++ g1 ++ g2 ++ g3 ++ [ABlk.cells [AV.int IntKind.i64 (chkHorS H), AV.int IntKind.i64 (rangeS p 0 255), AV.int IntKind.i64 (rangeS t (-10000) 10000)] true true] ++ g4 = B at *
  obtain ⟨sv, hsv⟩ : ∃ sv, sv = AV.slice B.length 0 H.picks.length 2 := ⟨_, rfl⟩
  rw [← hsv] at hfr0 ⊢
  have hfr1 : Fr (h.length + 3) (B ++ g') sv 2 ((mix (fltP p t) H.picks 0).map pkRow) := by rw [mix_0]; exact hfr0.low (by rw [← hbase]; simp only [List.length_append, List.length_cons, List.length_nil]; omega)
  have hB : B ++ g' = h ++ [ABlk.cells [AV.str H.name, AV.int IntKind.i64 H.err, s] true false] ++ [ABlk.cells [AV.int IntKind.i64 p, AV.int IntKind.i64 t] true false] ++ [ABlk.cells [AV.str [], AV.int IntKind.i64 0, AV.nilSlice] true false] ++ (g1 ++ g2 ++ g3 ++ [ABlk.cells [AV.int IntKind.i64 (chkHorS H), AV.int IntKind.i64 (rangeS p 0 255), AV.int IntKind.i64 (rangeS t (-10000) 10000)] true true] ++ g4 ++ g') := by rw [← hbase]; simp only [List.append_assoc]
  simp only [wset, hset, dset, bset, Nat.reduceAdd, Nat.reduceMul, Nat.reduceLeDiff, Nat.reduceEqDiff, hfr0.isSl.lenm]
  have e0 : (h ++ [ABlk.cells [AV.str H.name, AV.int IntKind.i64 H.err, s] true false] ++ [ABlk.cells [AV.int IntKind.i64 p, AV.int IntKind.i64 t] true false] ++ [ABlk.cells [AV.str [], AV.int IntKind.i64 0, AV.nilSlice] true false]).length = h.length + 3 := by simp
  refine WL.inv T.mix (fun n ts h' => ∃ (k : Nat) (g : AHeap), k ≤ H.picks.length ∧ n = H.picks.length - k ∧ h' = h ++ [ABlk.cells [AV.str H.name, AV.int IntKind.i64 H.err, s] true false] ++ [ABlk.cells [AV.int IntKind.i64 p, AV.int IntKind.i64 t] true false] ++ [ABlk.cells [AV.str [], AV.int IntKind.i64 0, AV.nilSlice] true false] ++ g ∧ Fr (h.length + 3) h' sv 2 ((mix (fltP p t) H.picks k).map pkRow) ∧ ts.length = 61 ∧ slot ts 2 = .ptr h.length 0 ∧ slot ts 3 = .ptr (h ++ [ABlk.cells [AV.str H.name, AV.int IntKind.i64 H.err, s] true false]).length 0 ∧ slot ts 4 = .ptr (h ++ [ABlk.cells [AV.str H.name, AV.int IntKind.i64 H.err, s] true false] ++ [ABlk.cells [AV.int IntKind.i64 p, AV.int IntKind.i64 t] true false]).length 0 ∧ slot ts 7 = sv ∧ slot ts 32 = .int .i64 H.picks.length ∧ slot ts 33 = .int .i64 k) H.picks.length
    ⟨0, _, by omega, rfl, hB, hfr1, rfl, rfl, rfl, rfl, rfl, rfl, rfl⟩ ?_
  rintro _ ts _ ⟨k, g, hk, rfl, rfl, hfr, hlen, t2, t3, t4, t7, t32, t33⟩
  rw [expl ts 61 hlen]
  by_cases hlt : k < H.picks.length
  · have e3 : (k : Int) < H.picks.length := by omega
    have hkM : k < (mix (fltP p t) H.picks k).length := by rw [mix_len hk]; exact hlt
    have hget : (mix (fltP p t) H.picks k)[k] = H.picks[k] := Option.some.inj ((List.getElem?_eq_getElem hkM).symm.trans (mix_get hlt))
    have hat := v.ok.at hlt
    have l0 := hfr.isSl.lfm (off := 0) (x := .int .i64 H.picks[k].1) hkM (by rw [hget]; rfl) (Ext.refl _)
    have l1 := hfr.isSl.lfm (off := 1) (x := .int .i64 H.picks[k].2) hkM (by rw [hget]; rfl) (Ext.refl _)
    simp only [wset, hset, dset, bset, Nat.reduceAdd, Nat.reduceMul, Nat.reduceLeDiff, Nat.reduceEqDiff, t2, t3, t4, t7, t32, t33, e3, decide_true, hfr.isSl.ixm hkM, l0]
    by_cases hpx : p ≤ H.picks[k].1
    · simp only [wset, hset, dset, bset, Nat.reduceAdd, Nat.reduceMul, Nat.reduceLeDiff, Nat.reduceEqDiff, t2, t3, t4, t7, t32, t33, decide_eq_true hpx, hfr.isSl.ixm hkM, l1, wrap_in (n := H.picks[k].2 + t) (by omega) (by omega)]
      refine WR.put1 (h0 := h ++ [ABlk.cells [AV.str H.name, AV.int IntKind.i64 H.err, s] true false] ++ [ABlk.cells [AV.int IntKind.i64 p, AV.int IntKind.i64 t] true false] ++ [ABlk.cells [AV.str [], AV.int IntKind.i64 0, AV.nilSlice] true false]) (x' := fltP p t H.picks[k]) (by rw [e0]; exact hfr) hkM (by decide) rfl (by rw [hget, fltP, if_pos hpx]; rfl) ?_
      intro g2 hl2 hfr2 _
      rw [e0, mix_set hlt] at hfr2
      simp only [wset, hset, dset, bset, Nat.reduceAdd, Nat.reduceMul, Nat.reduceLeDiff, Nat.reduceEqDiff, t2, t3, t4, t7, t32, t33, wrapN (show k + 1 < 2 ^ 63 by omega)]
      refine ⟨_, ?_, k + 1, g2, by omega, rfl, rfl, hfr2, rfl⟩
      omega
    · simp only [wset, hset, dset, bset, Nat.reduceAdd, Nat.reduceMul, Nat.reduceLeDiff, Nat.reduceEqDiff, t2, t3, t4, t7, t32, t33, decide_eq_false hpx, wrapN (show k + 1 < 2 ^ 63 by omega)]
      rw [mix_id hlt (by rw [fltP, if_neg hpx])] at hfr
      refine ⟨_, ?_, k + 1, g, by omega, rfl, rfl, hfr, rfl⟩
      omega
  · have e3 : ¬ (k : Int) < H.picks.length := by omega
    rw [mix_all (show k = H.picks.length by omega)] at hfr
    simp only [wset, hset, dset, bset, Nat.reduceAdd, Nat.reduceMul, Nat.reduceLeDiff, Nat.reduceEqDiff, t2, t3, t4, t7, t32, t33, e3, decide_false, if_true]
    refine WF.res T.c111 (r111 T hfr.isSl (by simpa using o.len) outP (fun y _ k e => VCall.of T.c112 (r112 T y))) ?_
    rintro _ g5 rfl
    cases hany : (H.picks.map (fltP p t)).any outP with
    | true =>
      simp only [wset, hset, dset, bset, Nat.reduceAdd, Nat.reduceMul, Nat.reduceLeDiff, Nat.reduceEqDiff]
      rw [faultedS, if_pos he, fltH, if_pos hany]
      exact ⟨_, rfl, HorOk.no⟩
    | false =>
      simp only [wset, hset, dset, bset, Nat.reduceAdd, Nat.reduceMul, Nat.reduceLeDiff, Nat.reduceEqDiff, o.sl.one, t7]
      refine WF.res T.c113 (r113 T (H := H) (L := H.picks.map (fltP p t)) o.sl.one hfr.isSl.one) ?_
      rintro _ g6 rfl
      simp only [wset, hset, dset, bset, Nat.reduceAdd, Nat.reduceMul, Nat.reduceLeDiff, Nat.reduceEqDiff, hfr.isSl.one]
      rw [faultedS, if_pos he, fltH, hany]
      exact ⟨sv, rfl, (((hfr.swap' e0 (by simp)).app g5).app g6).isSl, by simpa using o.len, o.nm⟩
end
end Go.Abs
namespace Go.Abs

def refFaultS (H : Hor) (p t : Int) : Hor × Int := if chkHorS (fltH H p t) = 0 then (fltH H p t, 0) else (noHor, 4)

theorem okPicks_flt {p t : Int} : ∀ {L : List Pk} {last : Int}, okPicks last L → (okPicks last (L.map (fltP p t)) ↔ (L.map (fltP p t)).any outP = false)
  | [], _, _ => by simp [okPicks]
  | x :: L, last, h => by
    have h1 : (fltP p t x).1 = x.1 := by unfold fltP; split <;> rfl
    rw [List.map_cons, List.any_cons, okPicks, h1, okPicks_flt h.2, Bool.or_eq_false_iff]
    have h2 : outP (fltP p t x) = false ↔ 0 ≤ (fltP p t x).2 ∧ (fltP p t x).2 ≤ 100000 := by
      unfold outP
      rw [decide_eq_false_iff_not, Decidable.not_not, rangeS_zero]
    rw [h2]
    have := h.1
    constructor
    · rintro ⟨⟨a, b, c, d, e⟩, f⟩; exact ⟨⟨c, d⟩, f⟩
    · rintro ⟨⟨c, d⟩, f⟩; exact ⟨⟨this.1, this.2.1, c, d, this.2.2.2.2⟩, f⟩

theorem chk_flt {H : Hor} (v : HorV H) {p t : Int} : chkHorS (fltH H p t) = 0 ↔ (fltH H p t).picks.any outP = false := by
  rw [horV_iff]
  show HorV (fltH H p t) ↔ (H.picks.map (fltP p t)).any outP = false
  rw [← okPicks_flt v.ok]
  exact ⟨fun w => w.ok, fun w => ⟨v.nm, v.e0, v.e1, by simpa [fltH] using v.ne, by simpa [fltH] using v.le, w⟩⟩

theorem faults_law {H : Hor} {p t : Int} (h : fltE H p t = 0) : faultedS H p t = refFaultS H p t := by
  obtain ⟨v, _⟩ := fltE_zero h
  rw [faultedS, if_pos h, refFaultS]
  by_cases hc : chkHorS (fltH H p t) = 0
  · rw [if_pos hc, chk_flt v |>.1 hc]; rfl
  · rw [if_neg hc]
    cases ha : (fltH H p t).picks.any outP with
    | true => rfl
    | false => exact absurd ((chk_flt v).2 ha) hc

theorem getD_lt {α : Type} {L : List α} {i : Nat} {d : α} (h : i < L.length) : L.getD i d = L[i] := by rw [List.getD, List.getElem?_eq_getElem h]; rfl
/-- A horizon whose picks lie in a block of their own, from a number on. -/
structure HorFr (N : Nat) (h : AHeap) (H : Hor) (s : AV) : Prop where
  fr : Fr N h s 2 (H.picks.map pkRow)
  len : H.picks.length < 2 ^ 63
  nm : H.name.length < 2 ^ 63
theorem HorFr.ok {N : Nat} {h : AHeap} {H : Hor} {s : AV} (o : HorFr N h H s) : HorOk h H s := ⟨o.fr.isSl, o.len, o.nm⟩
theorem HorFr.swap {A B g : AHeap} {H : Hor} {s : AV} (o : HorFr A.length (A ++ g) H s) (hB : B.length = A.length) : HorOk (B ++ g) H s := ⟨(o.fr.swap hB).isSl, o.len, o.nm⟩
theorem HorFr.swap2 {A B g k : AHeap} {H : Hor} {s : AV} (o : HorFr A.length (A ++ g) H s) (e : Ext (B ++ g) k) (hB : B.length = A.length) : HorOk k H s := (o.swap hB).ext e
theorem Fr.swap2 {A B g k : AHeap} {s : AV} {es : Nat} {cs : List (List AV)} (o : Fr A.length (A ++ g) s es cs) (e : Ext (B ++ g) k) (hB : B.length = A.length) : IsSl k s es cs := (o.swap hB).isSl.ext e
theorem HorFr.no {N : Nat} {h : AHeap} : HorFr N h noHor .nilSlice := ⟨.nil, by decide, by decide⟩

def stepC (slope : Int) (L : List Pk) (i : Nat) : Bool :=
  decide (slope * ((L.getD (i + 1) (0, 0)).1 - (L.getD i (0, 0)).1) < max ((L.getD (i + 1) (0, 0)).2 - (L.getD i (0, 0)).2) ((L.getD i (0, 0)).2 - (L.getD (i + 1) (0, 0)).2))
def stepsK (slope : Int) (L : List Pk) (k : Nat) : List Int := ((List.range k).filter (stepC slope L)).map fun i => (L.getD (i + 1) (0, 0)).1
def stepE (H : Hor) (slope : Int) : Int := firstS [chkHorS H, rangeS slope 0 100000]

theorem stepsK_s {slope : Int} {L : List Pk} {k : Nat} : stepsK slope L (k + 1) = stepsK slope L k ++ (if stepC slope L k = true then [(L.getD (k + 1) (0, 0)).1] else []) := by
  rw [stepsK, List.range_succ, List.filter_append, List.map_append]
  congr 1
  by_cases h : stepC slope L k = true <;> simp [h]
theorem stepsK_len {slope : Int} {L : List Pk} : ∀ {k : Nat}, (stepsK slope L k).length ≤ k := fun {k} => by
  rw [stepsK, List.length_map]
  exact Nat.le_trans (List.length_filter_le _ _) (by simp)

section
variable {P : Program} (T : Tbl P) {h : AHeap}
include T

theorem r36 {H : Hor} {s : AV} (o : HorOk h H s) (v : HorV H) {p t : Int} (ht : -10000 ≤ t ∧ t ≤ 10000) : RCall P 36 [horA H s, .agg [.int .i64 p, .int .i64 t]] h (fun v h' => ∃ s', v = .tup [horA (refFaultS H p t).1 s', .int .i64 (refFaultS H p t).2] ∧ HorFr h.length h' (refFaultS H p t).1 s') := by
  refine .of T.mix T.c36 ?_
  unfold fn36
  simp only [wset, hset, dset, bset, Nat.reduceAdd, Nat.reduceMul, Nat.reduceLeDiff, Nat.reduceEqDiff, o.sl.one]
  have hle := v.le
  refine WF.res T.c79 (r79 T (H := H) (o.sl.ext (by repeat first | exact Ext.refl _ | refine Ext.app _ ?_)) (by omega)) ?_
  rintro _ gO ⟨s', rfl, hs'⟩
  simp only [wset, hset, dset, bset, Nat.reduceAdd, Nat.reduceMul, Nat.reduceLeDiff, Nat.reduceEqDiff, hs'.isSl.one]
  have e0 : (h ++ [ABlk.cells [AV.str H.name, AV.int IntKind.i64 H.err, s] true false] ++ [ABlk.cells [AV.int IntKind.i64 p, AV.int IntKind.i64 t] true false] ++ [ABlk.cells [AV.str [], AV.int IntKind.i64 0, AV.nilSlice] true false]).length = h.length + 3 := by simp
  rw [e0] at hs'
  generalize hb6 : (h ++ [ABlk.cells [AV.str H.name, AV.int IntKind.i64 H.err, s] true false] ++ [ABlk.cells [AV.int IntKind.i64 p, AV.int IntKind.i64 t] true false] ++ [ABlk.cells [AV.str [], AV.int IntKind.i64 0, AV.nilSlice] true false] ++ gO).length = b6 at *
  have hs1 : Fr (h.length + 3) (h ++ [ABlk.cells [AV.str H.name, AV.int IntKind.i64 H.err, s] true false] ++ [ABlk.cells [AV.int IntKind.i64 p, AV.int IntKind.i64 t] true false] ++ [ABlk.cells [AV.str [], AV.int IntKind.i64 0, AV.nilSlice] true false] ++ (gO ++ [ABlk.cells [AV.str H.name, AV.int IntKind.i64 H.err, s'] true false])) s' 2 ((mix (fltP p t) H.picks 0).map pkRow) := by rw [mix_0, ← List.append_assoc]; exact hs'.app _
  have hbk : (h ++ [ABlk.cells [AV.str H.name, AV.int IntKind.i64 H.err, s] true false] ++ [ABlk.cells [AV.int IntKind.i64 p, AV.int IntKind.i64 t] true false] ++ [ABlk.cells [AV.str [], AV.int IntKind.i64 0, AV.nilSlice] true false] ++ (gO ++ [ABlk.cells [AV.str H.name, AV.int IntKind.i64 H.err, s'] true false]))[b6]? = some (.cells [AV.str H.name, AV.int IntKind.i64 H.err, s'] true false) := by rw [← List.append_assoc, ← hb6]; exact at_new
  have hne : ∀ b0 o n e, s' = AV.slice b0 o n e → b6 ≠ b0 := fun b0 o n e he => by have := (hs'.lt he).2; omega
  refine WL.inv T.mix (fun n ts h' => ∃ (k : Nat) (g : AHeap), k ≤ H.picks.length ∧ n = H.picks.length - k ∧ h' = h ++ [ABlk.cells [AV.str H.name, AV.int IntKind.i64 H.err, s] true false] ++ [ABlk.cells [AV.int IntKind.i64 p, AV.int IntKind.i64 t] true false] ++ [ABlk.cells [AV.str [], AV.int IntKind.i64 0, AV.nilSlice] true false] ++ g ∧ Fr (h.length + 3) h' s' 2 ((mix (fltP p t) H.picks k).map pkRow) ∧ h'[b6]? = some (.cells [AV.str H.name, AV.int IntKind.i64 H.err, s'] true false) ∧ ts.length = 45 ∧ slot ts 2 = .ptr h.length 0 ∧ slot ts 3 = .ptr (h ++ [ABlk.cells [AV.str H.name, AV.int IntKind.i64 H.err, s] true false]).length 0 ∧ slot ts 4 = .ptr (h ++ [ABlk.cells [AV.str H.name, AV.int IntKind.i64 H.err, s] true false] ++ [ABlk.cells [AV.int IntKind.i64 p, AV.int IntKind.i64 t] true false]).length 0 ∧ slot ts 6 = .ptr b6 0 ∧ slot ts 7 = .int .i64 k) H.picks.length
    ⟨0, _, by omega, rfl, List.append_assoc .., by rw [List.append_assoc]; exact hs1, by rw [List.append_assoc]; exact hbk, rfl, rfl, rfl, rfl, rfl, rfl⟩ ?_
  rintro _ ts _ ⟨k, g, hk, rfl, rfl, hfr, hb, hlen, t2, t3, t4, t6, t7⟩
  rw [expl ts 45 hlen]
  have hkM0 : (mix (fltP p t) H.picks k).length = H.picks.length := mix_len hk
  have l6 : ∀ n o, loadF n (.ptr b6 o) (fun z => (h ++ [ABlk.cells [AV.str H.name, AV.int IntKind.i64 H.err, s] true false] ++ [ABlk.cells [AV.int IntKind.i64 p, AV.int IntKind.i64 t] true false] ++ [ABlk.cells [AV.str [], AV.int IntKind.i64 0, AV.nilSlice] true false] ++ g)[z]?) = ldB n o (.cells [AV.str H.name, AV.int IntKind.i64 H.err, s'] true false) := fun n o => loadF_at hb
  by_cases hlt : k < H.picks.length
  · have e3 : (k : Int) < H.picks.length := by omega
    have hkM : k < (mix (fltP p t) H.picks k).length := by rw [mix_len hk]; exact hlt
    have hget : (mix (fltP p t) H.picks k)[k] = H.picks[k] := Option.some.inj ((List.getElem?_eq_getElem hkM).symm.trans (mix_get hlt))
    have hat := v.ok.at hlt
    have l0 := hfr.isSl.lfm (off := 0) (x := .int .i64 H.picks[k].1) hkM (by rw [hget]; rfl) (Ext.refl _)
    have l1 := hfr.isSl.lfm (off := 1) (x := .int .i64 H.picks[k].2) hkM (by rw [hget]; rfl) (Ext.refl _)
    simp only [wset, hset, dset, bset, Nat.reduceAdd, Nat.reduceMul, Nat.reduceLeDiff, Nat.reduceEqDiff, t2, t3, t4, t6, t7, l6, hfr.isSl.lenm, hkM0, e3, decide_true, hfr.isSl.ixm hkM, l0]
    by_cases hpx : p ≤ H.picks[k].1
    · simp only [wset, hset, dset, bset, Nat.reduceAdd, Nat.reduceMul, Nat.reduceLeDiff, Nat.reduceEqDiff, t2, t3, t4, t6, t7, l6, decide_eq_true hpx, hfr.isSl.ixm hkM, l1, wrap_in (n := H.picks[k].2 + t) (by omega) (by omega)]
      refine WR.put1 (h0 := h ++ [ABlk.cells [AV.str H.name, AV.int IntKind.i64 H.err, s] true false] ++ [ABlk.cells [AV.int IntKind.i64 p, AV.int IntKind.i64 t] true false] ++ [ABlk.cells [AV.str [], AV.int IntKind.i64 0, AV.nilSlice] true false]) (x' := fltP p t H.picks[k]) (by rw [e0]; exact hfr) hkM (by decide) rfl (by rw [hget, fltP, if_pos hpx]; rfl) ?_
      intro g2 hl2 hfr2 hkp
      rw [e0, mix_set hlt] at hfr2
      simp only [wset, hset, dset, bset, Nat.reduceAdd, Nat.reduceMul, Nat.reduceLeDiff, Nat.reduceEqDiff, t2, t3, t4, t6, t7, wrapN (show k + 1 < 2 ^ 63 by omega)]
      refine ⟨_, ?_, k + 1, g2, by omega, rfl, rfl, hfr2, ?_, rfl⟩
      · omega
      · rw [hkp b6 hne]; exact hb
    · simp only [wset, hset, dset, bset, Nat.reduceAdd, Nat.reduceMul, Nat.reduceLeDiff, Nat.reduceEqDiff, t2, t3, t4, t6, t7, decide_eq_false hpx, wrapN (show k + 1 < 2 ^ 63 by omega)]
      rw [mix_id hlt (by rw [fltP, if_neg hpx])] at hfr
      refine ⟨_, ?_, k + 1, g, by omega, rfl, rfl, hfr, hb, rfl⟩
      omega
  · have e3 : ¬ (k : Int) < H.picks.length := by omega
    simp only [wset, hset, dset, bset, Nat.reduceAdd, Nat.reduceMul, Nat.reduceLeDiff, Nat.reduceEqDiff, t2, t3, t4, t6, t7, l6, hfr.isSl.lenm, hkM0, e3, decide_false, if_true]
    rw [mix_all (show k = H.picks.length by omega)] at hfr
    refine WF.res T.c21 (r21 T (H := fltH H p t) hfr.isSl (by simpa [fltH] using o.len) o.nm) ?_
    rintro _ g5 rfl
    by_cases hc : chkHorS (fltH H p t) = 0
    case neg =>
      simp only [wset, hset, dset, bset, Nat.reduceAdd, Nat.reduceMul, Nat.reduceLeDiff, Nat.reduceEqDiff, show decide (chkHorS (fltH H p t) ≠ 0) = true from decide_eq_true hc]
      rw [refFaultS, if_neg hc]
      exact ⟨_, rfl, HorFr.no⟩
    have l6' : ∀ n o, loadF n (.ptr b6 o) (fun z => (h ++ [ABlk.cells [AV.str H.name, AV.int IntKind.i64 H.err, s] true false] ++ [ABlk.cells [AV.int IntKind.i64 p, AV.int IntKind.i64 t] true false] ++ [ABlk.cells [AV.str [], AV.int IntKind.i64 0, AV.nilSlice] true false] ++ g ++ g5)[z]?) = ldB n o (.cells [AV.str H.name, AV.int IntKind.i64 H.err, s'] true false) := fun n o => loadF_at (by rw [List.getElem?_append_left (List.getElem?_eq_some_iff.1 hb).1]; exact hb)
    simp only [wset, hset, dset, bset, Nat.reduceAdd, Nat.reduceMul, Nat.reduceLeDiff, Nat.reduceEqDiff, t4, t6, l6', show decide (chkHorS (fltH H p t) ≠ 0) = false from decide_eq_false (fun hne => hne hc), hs'.isSl.one]
    rw [refFaultS, if_pos hc]
    exact ⟨s', rfl, ((hfr.swap' e0 (by simp)).app g5).low (by omega), by simpa [fltH] using o.len, o.nm⟩

theorem r31 {H : Hor} {s : AV} (o : HorOk h H s) (x : Int) : RCall P 31 [horA H s, .int .i64 x] h (fun v h' => ∃ s', v = .tup [s', .int .i64 (stepE H x)] ∧ IsSl h' s' 1 ((if stepE H x = 0 then stepsK x H.picks (H.picks.length - 1) else []).map intRow)) := by
  refine .of T.mix T.c31 ?_
  unfold fn31
  simp only [wset, hset, dset, bset, Nat.reduceAdd, Nat.reduceMul, Nat.reduceLeDiff, Nat.reduceEqDiff, o.sl.one]
  refine WF.res T.c26 (r26 T (H := H) (o.sl.ext (by repeat first | exact Ext.refl _ | refine Ext.app _ ?_)) o.len) ?_
  rintro _ g1 rfl
  simp only [wset, hset, dset, bset, Nat.reduceAdd, Nat.reduceMul, Nat.reduceLeDiff, Nat.reduceEqDiff]
  refine WF.res T.c108 (r108 T _ _ _) ?_
  rintro _ g2 rfl
  simp only [wset, hset, dset, bset, Nat.reduceAdd, Nat.reduceMul, Nat.reduceLeDiff, Nat.reduceEqDiff]
  refine WF.res T.c105 (r105 T (isSl_ints [_, _]) (by simp)) ?_
  rintro _ g3 rfl
  by_cases he : stepE H x = 0
  case neg =>
    simp only [wset, hset, dset, bset, Nat.reduceAdd, Nat.reduceMul, Nat.reduceLeDiff, Nat.reduceEqDiff, show decide (firstS [chkHorS H, rangeS x 0 100000] ≠ 0) = true from decide_eq_true he]
    rw [if_neg he]
    exact ⟨_, rfl, .nil⟩
  rw [if_pos he]
  have hz := firstS_zero.1 he
  have v := horV_iff.1 (hz (chkHorS H) (by simp))
  have hx := rangeS_zero.1 (hz (rangeS x 0 100000) (by simp))
  have hle := v.le
  have hne := v.ne
  obtain ⟨s1, hs1', hsl⟩ := o.sl.slm (lo := some (.int .i64 ((1 : Nat) : Int))) (hi := none) (bnds_lo (show 1 ≤ H.picks.length by omega))
  have hs1 : slF 2 s (some (AV.int IntKind.i64 1)) none = some (s1, Eff.keep) := hs1'
  obtain ⟨R, hR⟩ : ∃ R, R = List.take (H.picks.length - 1) (List.drop 1 H.picks) := ⟨_, rfl⟩
  rw [← hR] at hsl
  have hRl : R.length = H.picks.length - 1 := by rw [hR]; simp
  simp only [wset, hset, dset, bset, Nat.reduceAdd, Nat.reduceMul, Nat.reduceLeDiff, Nat.reduceEqDiff, show decide (firstS [chkHorS H, rangeS x 0 100000] ≠ 0) = false from decide_eq_false (fun hne => hne he), hs1, hsl.lenm, hRl]
  refine WL.inv T.mix (fun n ts h' => ∃ (k : Nat) (out : AV) (g : AHeap), k ≤ H.picks.length - 1 ∧ n = H.picks.length - 1 - k ∧ h' = h ++ [ABlk.cells [AV.str H.name, AV.int IntKind.i64 H.err, s] true false] ++ g ∧ Fr (h.length + 1) h' out 1 ((stepsK x H.picks k).map intRow) ∧ ts.length = 59 ∧ slot ts 1 = .int .i64 x ∧ slot ts 2 = .ptr h.length 0 ∧ slot ts 7 = out ∧ slot ts 23 = s1 ∧ slot ts 24 = .int .i64 ((H.picks.length - 1 : Nat) : Int) ∧ slot ts 25 = .int .i64 k) (H.picks.length - 1)
    ⟨0, .nilSlice, g1 ++ g2 ++ [ABlk.cells [AV.int IntKind.i64 (chkHorS H), AV.int IntKind.i64 (rangeS x 0 100000)] true true] ++ g3, by omega, rfl, by simp only [List.append_assoc], .nil, rfl, rfl, rfl, rfl, rfl, rfl, rfl⟩ ?_
  rintro _ ts _ ⟨k, out, g, hk, rfl, rfl, hfr, hlen, t1, t2, t7, t23, t24, t25⟩
  rw [expl ts 59 hlen]
  have e0 : (h ++ [ABlk.cells [AV.str H.name, AV.int IntKind.i64 H.err, s] true false]).length = h.length + 1 := by simp
  by_cases hlt : k < H.picks.length - 1
  · have e3 : (k : Int) < ((H.picks.length - 1 : Nat) : Int) := by omega
    have hkR : k < R.length := by omega
    have hk1 : k + 1 < H.picks.length := by omega
    have hk0 : k < H.picks.length := by omega
    have hRk : R[k] = H.picks[k + 1] := by simp only [hR, List.getElem_take, List.getElem_drop]; congr 1; omega
    have ha := v.ok.at hk0
    have hb := v.ok.at hk1
    have hm := mul_bd (a := x) (b := H.picks[k + 1].1 - H.picks[k].1 + 255) (A := 100000) (B := 600) (by omega) (by omega)
    have hm2 : x * (H.picks[k + 1].1 - H.picks[k].1 + 255) = x * (H.picks[k + 1].1 - H.picks[k].1) + x * 255 := Int.mul_add ..
    have hC : stepC x H.picks k = decide (x * (H.picks[k + 1].1 - H.picks[k].1) < max (H.picks[k + 1].2 - H.picks[k].2) (0 - (H.picks[k + 1].2 - H.picks[k].2))) := by
      rw [stepC, getD_lt hk1, getD_lt hk0, show 0 - (H.picks[k + 1].2 - H.picks[k].2) = H.picks[k].2 - H.picks[k + 1].2 by omega]
    simp only [wset, hset, dset, bset, Nat.reduceAdd, Nat.reduceMul, Nat.reduceLeDiff, Nat.reduceEqDiff, t1, t2, t7, t23, t24, t25, e3, decide_true, hsl.ixm hkR, hsl.ldm hkR, o.sl.ixm hk0, o.sl.ldm hk0, hRk]
    simp only [wrap_in (n := H.picks[k + 1].2 - H.picks[k].2) (by omega) (by omega), wrap_in (n := 0 - (H.picks[k + 1].2 - H.picks[k].2)) (by omega) (by omega), wrap_in (n := H.picks[k + 1].1 - H.picks[k].1) (by omega) (by omega), wrap_in (n := x * (H.picks[k + 1].1 - H.picks[k].1)) (by omega) (by omega), ← hC]
    cases hc : stepC x H.picks k with
    | false =>
      simp only [wset, hset, dset, bset, Nat.reduceAdd, Nat.reduceMul, Nat.reduceLeDiff, Nat.reduceEqDiff, t1, t2, t7, t23, t24, t25, wrapN (show k + 1 < 2 ^ 63 by omega)]
      refine ⟨_, ?_, k + 1, out, g ++ [ABlk.cells (pkRow H.picks[k + 1]) true false] ++ [ABlk.cells (pkRow H.picks[k]) true false], by omega, rfl, by simp only [List.append_assoc], ?_, rfl, rfl⟩
      · omega
      · rw [stepsK_s, hc, if_neg Bool.false_ne_true, List.append_nil]
        exact (hfr.app _).app _
    | true =>
      simp only [wset, hset, dset, bset, Nat.reduceAdd, Nat.reduceMul, Nat.reduceLeDiff, Nat.reduceEqDiff, t1, t2, t7, t23, t24, t25]
      have hsl1 := stepsK_len (slope := x) (L := H.picks) (k := k)
      refine WR.app1 (h0 := h ++ [ABlk.cells [AV.str H.name, AV.int IntKind.i64 H.err, s] true false]) (cs := (stepsK x H.picks k).map intRow) (ys := [intRow H.picks[k + 1].1]) (by rw [e0]; exact ((hfr.app _).app _).app _) (Fr.push (N := 0) (Nat.zero_le _) [intRow H.picks[k + 1].1] (by simp)).isSl (by decide) (by simp) (by simp; omega) (by repeat first | exact Ext.refl _ | refine Ext.app _ ?_) ?_
      intro g' hl' hff hkp
      have hrow : (stepsK x H.picks k).map intRow ++ [intRow H.picks[k + 1].1] = (stepsK x H.picks (k + 1)).map intRow := by rw [stepsK_s, hc, if_pos rfl, List.map_append, getD_lt hk1]; rfl
      rw [hrow, e0] at hff
      rw [hrow]
      simp only [wset, hset, dset, bset, Nat.reduceAdd, Nat.reduceMul, Nat.reduceLeDiff, Nat.reduceEqDiff, t1, t2, t7, t23, t24, t25, wrapN (show k + 1 < 2 ^ 63 by omega)]
      refine ⟨_, ?_, k + 1, _, g', by omega, rfl, rfl, hff, rfl, rfl⟩
      omega
  · have e3 : ¬ (k : Int) < ((H.picks.length - 1 : Nat) : Int) := by omega
    have e4 : k = H.picks.length - 1 := by omega
    simp only [wset, hset, dset, bset, Nat.reduceAdd, Nat.reduceMul, Nat.reduceLeDiff, Nat.reduceEqDiff, t1, t2, t7, t23, t24, t25, e3, decide_false, if_true]
    rw [← e4]
    exact ⟨out, by rw [he], hfr.isSl⟩
end
end Go.Abs
namespace Go.Abs

def roundS (x : Int × Int) : Int := (2 * x.1 + x.2) / (2 * x.2)

section
variable {P : Program} (T : Tbl P) {h : AHeap}
include T

theorem r37 {H : Hor} {s : AV} (o : HorOk h H s) (v : HorV H) {x : Int} (hx : 0 ≤ x ∧ x ≤ 100000) : RCall P 37 [horA H s, .int .i64 x] h (fun s' h' => Fr h.length h' s' 1 ((stepsK x H.picks (H.picks.length - 1)).map intRow)) := by
  refine .of T.mix T.c37 ?_
  unfold fn37
  have hle := v.le
  have hne := v.ne
  simp only [wset, hset, dset, bset, Nat.reduceAdd, Nat.reduceMul, Nat.reduceLeDiff, Nat.reduceEqDiff, o.sl.one]
  refine WL.inv T.mix (fun n ts h' => ∃ (k : Nat) (out : AV) (g : AHeap), k ≤ H.picks.length - 1 ∧ n = H.picks.length - 1 - k ∧ h' = h ++ [ABlk.cells [AV.str H.name, AV.int IntKind.i64 H.err, s] true false] ++ g ∧ Fr (h.length + 1) h' out 1 ((stepsK x H.picks k).map intRow) ∧ ts.length = 52 ∧ slot ts 1 = .int .i64 x ∧ slot ts 2 = .ptr h.length 0 ∧ slot ts 5 = out ∧ slot ts 6 = .int .i64 ((k + 1 : Nat) : Int)) (H.picks.length - 1)
    ⟨0, .nilSlice, [], by omega, rfl, by rw [List.append_nil], .nil, rfl, rfl, rfl, rfl, rfl⟩ ?_
  rintro _ ts _ ⟨k, out, g, hk, rfl, rfl, hfr, hlen, t1, t2, t5, t6⟩
  rw [expl ts 52 hlen]
  have e0 : (h ++ [ABlk.cells [AV.str H.name, AV.int IntKind.i64 H.err, s] true false]).length = h.length + 1 := by simp
  by_cases hlt : k < H.picks.length - 1
  · have hk1 : k + 1 < H.picks.length := by omega
    have hk0 : k < H.picks.length := by omega
    have e3 : ((k + 1 : Nat) : Int) < (H.picks.length : Int) := by omega
    have ha := v.ok.at hk0
    have hb := v.ok.at hk1
    have hm := mul_bd (a := x) (b := H.picks[k + 1].1 - H.picks[k].1 + 255) (A := 100000) (B := 600) (by omega) (by omega)
    have hm2 : x * (H.picks[k + 1].1 - H.picks[k].1 + 255) = x * (H.picks[k + 1].1 - H.picks[k].1) + x * 255 := Int.mul_add ..
    have hC : stepC x H.picks k = decide (x * (H.picks[k + 1].1 - H.picks[k].1) < max (H.picks[k + 1].2 - H.picks[k].2) (H.picks[k].2 - H.picks[k + 1].2)) := by
      rw [stepC, getD_lt hk1, getD_lt hk0]
    have w1 : IntKind.i64.wrap (((k + 1 : Nat) : Int) - 1) = (k : Int) := by rw [wrap_in (by omega) (by omega)]; omega
    simp only [wset, hset, dset, bset, Nat.reduceAdd, Nat.reduceMul, Nat.reduceLeDiff, Nat.reduceEqDiff, t1, t2, t5, t6, o.sl.lenm, e3, decide_true, w1, o.sl.ixm hk0, o.sl.ldm hk0, o.sl.ixm hk1, o.sl.ldm hk1]
    simp (disch := first | (simp only [List.length_append, List.length_cons, List.length_nil] <;> omega) | rfl | omega | fail) only [kset, wset, hset, dset, bset, Nat.reduceAdd, Nat.reduceMul, Nat.reduceLeDiff, Nat.reduceEqDiff, t1]
    simp only [wrap_in (n := H.picks[k + 1].2 - H.picks[k].2) (by omega) (by omega), wrap_in (n := H.picks[k].2 - H.picks[k + 1].2) (by omega) (by omega), wrap_in (n := H.picks[k + 1].1 - H.picks[k].1) (by omega) (by omega), wrap_in (n := x * (H.picks[k + 1].1 - H.picks[k].1)) (by omega) (by omega), ← hC]
    cases hc : stepC x H.picks k with
    | false =>
      simp only [wset, hset, dset, bset, Nat.reduceAdd, Nat.reduceMul, Nat.reduceLeDiff, Nat.reduceEqDiff, t1, t2, t5, t6, wrapN (show k + 1 + 1 < 2 ^ 63 by omega)]
      refine ⟨_, ?_, k + 1, out, g ++ [ABlk.cells (pkRow H.picks[k + 1]) true false] ++ [ABlk.cells (pkRow H.picks[k]) true false], by omega, rfl, by simp only [List.append_assoc], ?_, rfl, rfl⟩
      · omega
      · rw [stepsK_s, hc, if_neg Bool.false_ne_true, List.append_nil]
        exact (hfr.app _).app _
    | true =>
      simp only [wset, hset, dset, bset, Nat.reduceAdd, Nat.reduceMul, Nat.reduceLeDiff, Nat.reduceEqDiff, t1, t2, t5, t6]
      try simp (disch := first | (simp only [List.length_append, List.length_cons, List.length_nil] <;> omega) | rfl | omega | fail) only [kset, wset, hset, dset, bset, Nat.reduceAdd, Nat.reduceMul, Nat.reduceLeDiff, Nat.reduceEqDiff]
      have hsl1 := stepsK_len (slope := x) (L := H.picks) (k := k)
      refine WR.app1 (h0 := h ++ [ABlk.cells [AV.str H.name, AV.int IntKind.i64 H.err, s] true false]) (cs := (stepsK x H.picks k).map intRow) (ys := [intRow H.picks[k + 1].1]) (by rw [e0]; exact ((hfr.app _).app _).app _) (Fr.push (N := 0) (Nat.zero_le _) [intRow H.picks[k + 1].1] (by simp)).isSl (by decide) (by simp) (by simp; omega) (by repeat first | exact Ext.refl _ | refine Ext.app _ ?_) ?_
      intro g' hl' hff hkp
      have hrow : (stepsK x H.picks k).map intRow ++ [intRow H.picks[k + 1].1] = (stepsK x H.picks (k + 1)).map intRow := by rw [stepsK_s, hc, if_pos rfl, List.map_append, getD_lt hk1]; rfl
      rw [hrow, e0] at hff
      rw [hrow]
      simp only [wset, hset, dset, bset, Nat.reduceAdd, Nat.reduceMul, Nat.reduceLeDiff, Nat.reduceEqDiff, t1, t2, t5, t6, wrapN (show k + 1 + 1 < 2 ^ 63 by omega)]
      refine ⟨_, ?_, k + 1, _, g', by omega, rfl, rfl, hff, rfl, rfl⟩
      omega
  · have e3 : ¬ ((k + 1 : Nat) : Int) < (H.picks.length : Int) := by omega
    have e4 : k = H.picks.length - 1 := by omega
    simp only [wset, hset, dset, bset, Nat.reduceAdd, Nat.reduceMul, Nat.reduceLeDiff, Nat.reduceEqDiff, t1, t2, t5, t6, o.sl.lenm, e3, decide_false, if_true]
    rw [← e4]
    exact hfr.low (by omega)

theorem r115 (x : Int × Int) (h1 : 0 < x.2 ∧ x.2 ≤ 2 ^ 40) (h2 : -(2 ^ 40) ≤ x.1 ∧ x.1 ≤ 2 ^ 40) : RCall P 115 [ratA x] h (fun v _ => v = .int .i64 (roundS x)) := by
  refine .of T.mix T.c115 ?_
  unfold fn115
  simp only [wset, hset, dset, bset, Nat.reduceAdd, Nat.reduceMul, Nat.reduceLeDiff, Nat.reduceEqDiff, wrap_in (n := 2 * x.1) (by omega) (by omega), wrap_in (n := 2 * x.1 + x.2) (by omega) (by omega), wrap_in (n := 2 * x.2) (by omega) (by omega)]
  refine WF.res T.c161 (r161 T (2 * x.1 + x.2, 2 * x.2) (by show 0 < 2 * x.2; omega) (by show _ ≤ 2 * x.1 + x.2 ∧ 2 * x.1 + x.2 ≤ _; omega)) ?_
  rintro _ g1 rfl
  simp only [wset, hset, dset, bset, Nat.reduceAdd, Nat.reduceMul, Nat.reduceLeDiff, Nat.reduceEqDiff]
  rfl

theorem r116 (n d : Int) (h1 : 0 < d ∧ d ≤ 2 ^ 40) (h2 : -(2 ^ 40) ≤ n ∧ n ≤ 2 ^ 40) : RCall P 116 [.int .i64 n, .int .i64 d] h (fun v _ => v = .int .i64 (roundS (n, d))) := by
  refine .of T.mix T.c116 ?_
  unfold fn116
  simp only [wset, hset, dset, bset, Nat.reduceAdd, Nat.reduceMul, Nat.reduceLeDiff, Nat.reduceEqDiff, wrap_in (n := 2 * n) (by omega) (by omega), wrap_in (n := 2 * n + d) (by omega) (by omega), wrap_in (n := 2 * d) (by omega) (by omega)]
  refine WF.res T.c103 (r103 T (2 * n + d) (2 * d) (by omega) (by omega)) ?_
  rintro _ g1 rfl
  simp only [wset, hset, dset, bset, Nat.reduceAdd, Nat.reduceMul, Nat.reduceLeDiff, Nat.reduceEqDiff]
  rfl
end
end Go.Abs
namespace Go.Abs

def ivS (lo hi : Int) : List Int := (List.range (hi + 1 - lo).toNat).map fun (i : Nat) => lo + i
def placesS (A B : Hor) : List Int := ivS (max (begS A) (begS B)) (min (endS A) (endS B))
theorem ivS_len {lo hi : Int} : (ivS lo hi).length = (hi + 1 - lo).toNat := by simp [ivS]
theorem ivS_get {lo hi : Int} {i : Nat} (h : i < (ivS lo hi).length) : (ivS lo hi)[i] = lo + i := by simp [ivS]
theorem ivS_mem {lo hi x : Int} : x ∈ ivS lo hi ↔ lo ≤ x ∧ x ≤ hi := by
  simp only [ivS, List.mem_map, List.mem_range]
  constructor
  · rintro ⟨i, h, rfl⟩; omega
  · rintro ⟨h1, h2⟩; exact ⟨(x - lo).toNat, by omega, by omega⟩

theorem end_bd {H : Hor} (v : HorV H) : 0 ≤ begS H ∧ begS H ≤ 255 ∧ 0 ≤ endS H ∧ endS H ≤ 255 ∧ begS H ≤ endS H := by
  have h0 := v.ok.at (i := 0) v.ne
  have h1 := v.ok.at (i := H.picks.length - 1) (by have := v.ne; omega)
  rw [begS_eq v.ne, endS_eq v.ne]
  refine ⟨h0.1, h0.2.1, h1.1, h1.2.1, ?_⟩
  by_cases hl : H.picks.length = 1
  · simp only [hl]; exact Int.le_refl _
  · have := v.ok.lt (i := 0) (j := H.picks.length - 1) (by have := v.ne; omega) (by have := v.ne; omega)
    omega

theorem WF.valg {P : Program} {ro : Option Nat → Prop} {ks : List Kt} {ts : TS} {h h' : AHeap} {Q : Ex → TS → AHeap → Prop} {fv : AV} {args : List AV} {d : Option Nat} {l : List IOp} {v : AV} (H : SCallV P fv args h v h') (K : WP P ro l ks (put ts d v) h' Q) : WF P ro false fv args d l ks ts h Q :=
  ⟨v, h', H, fun hq => absurd hq (by simp), K⟩

/-- What an iterator over the common places of two horizons reads. -/
def CmPre (A B : Hor) (sa sb : AV) (ba bb : Nat) (k : AHeap) : Prop :=
  k[ba]? = some (.cells [.str A.name, .int .i64 A.err, sa] true false) ∧ k[bb]? = some (.cells [.str B.name, .int .i64 B.err, sb] true false) ∧ HorOk k A sa ∧ HorOk k B sb

theorem at_swap {A B : AHeap} {K K' : ABlk} {b : Nat} (h : b ≠ A.length) : (A ++ [K] ++ B)[b]? = (A ++ [K'] ++ B)[b]? := by
  by_cases h1 : b < A.length
  · rw [List.append_assoc, List.append_assoc, List.getElem?_append_left h1, List.getElem?_append_left h1]
  · rw [List.getElem?_append_right (by simp; omega), List.getElem?_append_right (by simp; omega)]
    simp
theorem at_mid {A B : AHeap} {K : ABlk} : (A ++ [K] ++ B)[A.length]? = some K := by
  rw [List.append_assoc, List.getElem?_append_right (Nat.le_refl _), Nat.sub_self]; rfl

section
variable {P : Program} (T : Tbl P) {h : AHeap}
include T

theorem r114 {A B : Hor} {sa sb : AV} (oa : HorOk h A sa) (ob : HorOk h B sb) : RCall P 114 [horA A sa, horA B sb] h (fun v h' => ∃ ba bb, v = .func (.func 166) [] [.ptr ba 0, .ptr bb 0] ∧ CmPre A B sa sb ba bb h') := by
  refine .of T.mix T.c114 ?_
  unfold fn114
  simp only [wset, hset, dset, bset, Nat.reduceAdd, Nat.reduceMul, Nat.reduceLeDiff, Nat.reduceEqDiff, oa.sl.one, ob.sl.one]
  refine ⟨_, _, rfl, ?_, ?_, oa.ext (by repeat first | exact Ext.refl _ | refine Ext.app _ ?_), ob.ext (by repeat first | exact Ext.refl _ | refine Ext.app _ ?_)⟩
  · exact at_1
  · exact at_new

theorem iter_common {A B : Hor} {sa sb : AV} (va : HorV A) (vb : HorV B) (ba bb : Nat) : Iter P 166 [] [.ptr ba 0, .ptr bb 0] ((placesS A B).map fun x => [.int .i64 x]) (CmPre A B sa sb ba bb) := by
  refine ⟨fun l h J D hpre happ hstep hend h0 => GCall.of T.mix T.c166 ?_⟩
  obtain ⟨p1, p2, oa, ob⟩ := hpre 0 h h0
  unfold fn166
  have ea := end_bd va
  have eb := end_bd vb
  have la : ∀ n o g, loadF n (.ptr ba o) (fun z => (h ++ g)[z]?) = ldB n o (.cells [.str A.name, .int .i64 A.err, sa] true false) := fun n o g => loadF_at ((Ext.app g (Ext.refl h)).some p1)
  have lb : ∀ n o g, loadF n (.ptr bb o) (fun z => (h ++ g)[z]?) = ldB n o (.cells [.str B.name, .int .i64 B.err, sb] true false) := fun n o g => loadF_at ((Ext.app g (Ext.refl h)).some p2)
  have la0 : ∀ n o, loadF n (.ptr ba o) (fun z => h[z]?) = ldB n o (.cells [.str A.name, .int .i64 A.err, sa] true false) := fun n o => loadF_at p1
  simp only [wset, hset, dset, bset, Nat.reduceAdd, Nat.reduceMul, Nat.reduceLeDiff, Nat.reduceEqDiff, la0]
  refine WF.res T.c167 (r167 T (H := A) oa va.ne) ?_
  rintro _ g1 rfl
  simp only [wset, hset, dset, bset, Nat.reduceAdd, Nat.reduceMul, Nat.reduceLeDiff, Nat.reduceEqDiff, lb]
  refine WF.res T.c167 (r167 T (H := B) (ob.ext (by repeat first | exact Ext.refl _ | refine Ext.app _ ?_)) vb.ne) ?_
  rintro _ g2 rfl
  simp only [wset, hset, dset, bset, Nat.reduceAdd, Nat.reduceMul, Nat.reduceLeDiff, Nat.reduceEqDiff]
  refine WL.inv T.mix (fun n ts h' => ∃ k : Nat, k ≤ (placesS A B).length ∧ n = (placesS A B).length - k ∧ J k h' ∧ ts.length = 33 ∧ slot ts 0 = .func (.yield l) [] [] ∧ slot ts 5 = .int .i64 (endS A) ∧ slot ts 7 = .int .i64 (endS B) ∧ slot ts 8 = .int .i64 (max (begS A) (begS B) + k)) (placesS A B).length
    ⟨0, by omega, rfl, happ _ _ _ (happ _ _ _ h0), rfl, rfl, rfl, rfl, by simp [slot]⟩ ?_
  rintro _ ts h' ⟨k, hk, rfl, hJ, hlen, t0, t5, t7, t8⟩
  rw [expl ts 33 hlen]
  have hpl : (placesS A B).length = (min (endS A) (endS B) + 1 - max (begS A) (begS B)).toNat := ivS_len
  by_cases hlt : k < (placesS A B).length
  · have e3 : max (begS A) (begS B) + k ≤ min (endS A) (endS B) := by omega
    simp only [wset, hset, dset, bset, Nat.reduceAdd, Nat.reduceMul, Nat.reduceLeDiff, Nat.reduceEqDiff, t0, t5, t7, t8, e3, decide_true]
    obtain ⟨b, k', q1, q2⟩ := hstep k (by rw [List.length_map]; exact hlt) h' hJ
    have hx : (placesS A B)[k]'hlt = max (begS A) (begS B) + k := ivS_get (lo := max (begS A) (begS B)) (hi := min (endS A) (endS B)) hlt
    rw [List.getElem_map, hx] at q1
    refine WF.valg q1 ?_
    cases b with
    | true =>
      simp only [wset, hset, dset, bset, Nat.reduceAdd, Nat.reduceMul, Nat.reduceLeDiff, Nat.reduceEqDiff, Bool.not_true, t8, wrap_in (n := max (begS A) (begS B) + (k : Int) + 1) (by omega) (by omega)]
      refine ⟨_, ?_, k + 1, by omega, rfl, q2, ?_⟩
      · omega
      · exact congrArg (AV.int .i64) (by omega)
    | false =>
      simp only [wset, hset, dset, bset, Nat.reduceAdd, Nat.reduceMul, Nat.reduceLeDiff, Nat.reduceEqDiff, Bool.not_false]
      exact q2
  · have e3 : ¬ max (begS A) (begS B) + k ≤ min (endS A) (endS B) := by omega
    simp only [wset, hset, dset, bset, Nat.reduceAdd, Nat.reduceMul, Nat.reduceLeDiff, Nat.reduceEqDiff, t0, t5, t7, t8, e3, decide_false, if_true]
    have : k = (placesS A B).length := by omega
    refine hend h' ?_
    rw [List.length_map, ← this]; exact hJ

def fillK (H : Hor) (k : Nat) : List Pk := ((placesS H H).take k).map fun x => (x, roundS (atS H x))
def fillH (H : Hor) : Hor := ⟨H.name, H.err, (placesS H H).map fun x => (x, roundS (atS H x))⟩

def filledS (H : Hor) : Hor := if chkHorS H = 0 then fillH H else noHor

theorem r32 {H : Hor} {s : AV} (o : HorOk h H s) : RCall P 32 [horA H s] h (fun v h' => ∃ s', v = .tup [horA (filledS H) s', .int .i64 (chkHorS H)] ∧ HorOk h' (filledS H) s') := by
  refine .of T.mix T.c32 ?_
  unfold fn32
  simp only [wset, hset, dset, bset, Nat.reduceAdd, Nat.reduceMul, Nat.reduceLeDiff, Nat.reduceEqDiff, o.sl.one]
  refine WF.res T.c26 (r26 T (H := H) (o.sl.ext (by repeat first | exact Ext.refl _ | refine Ext.app _ ?_)) o.len) ?_
  rintro _ g1 rfl
  by_cases he : chkHorS H = 0
  case neg =>
    simp only [wset, hset, dset, bset, Nat.reduceAdd, Nat.reduceMul, Nat.reduceLeDiff, Nat.reduceEqDiff, show decide (chkHorS H ≠ 0) = true from decide_eq_true he]
    rw [filledS, if_neg he]
    exact ⟨_, rfl, HorOk.no⟩
  have v := horV_iff.1 he
  have eb := end_bd v
  rw [filledS, if_pos he]
  simp only [wset, hset, dset, bset, Nat.reduceAdd, Nat.reduceMul, Nat.reduceLeDiff, Nat.reduceEqDiff, show decide (chkHorS H ≠ 0) = false from decide_eq_false (fun hne => hne he), o.sl.one]
  refine WF.res T.c114 (r114 T (A := H) (B := H) (o.ext (by repeat first | exact Ext.refl _ | refine Ext.app _ ?_)) (o.ext (by repeat first | exact Ext.refl _ | refine Ext.app _ ?_))) ?_
  rintro _ g2 ⟨ba, bb, rfl, hpre⟩
  simp only [wset, hset, dset, bset, Nat.reduceAdd, Nat.reduceMul, Nat.reduceLeDiff, Nat.reduceEqDiff]
  have hb5 : ∀ (z : Nat) n e sl, (h ++ [ABlk.cells [AV.str H.name, AV.int IntKind.i64 H.err, s] true false] ++ [ABlk.cells [AV.str [], AV.int IntKind.i64 0, AV.nilSlice] true false] ++ g1 ++ [ABlk.cells [AV.nilSlice] true false] ++ g2)[z]? = some (.cells [.str n, .int .i64 e, sl] true false) → z ≠ (h ++ [ABlk.cells [AV.str H.name, AV.int IntKind.i64 H.err, s] true false] ++ [ABlk.cells [AV.str [], AV.int IntKind.i64 0, AV.nilSlice] true false] ++ g1).length := fun z n e sl hz hzz => by
    subst hzz
    rw [at_mid] at hz
    cases hz
  have hxs : ∀ i (hi : i < ((placesS H H).map fun x => [AV.int .i64 x]).length), ((placesS H H).map fun x => [AV.int .i64 x])[i] = [AV.int .i64 (begS H + i)] ∧ hasS H (begS H + i) = true ∧ (placesS H H)[i]? = some (begS H + i) := fun i hi => by
    have hi' : i < (placesS H H).length := by simpa using hi
    have hl : (placesS H H).length = (min (endS H) (endS H) + 1 - max (begS H) (begS H)).toNat := ivS_len
    have hx : (placesS H H)[i] = begS H + i := by
      have := ivS_get (lo := max (begS H) (begS H)) (hi := min (endS H) (endS H)) hi'
      exact this.trans (by rw [Int.max_self])
    refine ⟨by rw [List.getElem_map, hx], ?_, by rw [List.getElem?_eq_getElem hi', hx]⟩
    simp only [hasS, Bool.and_eq_true, decide_eq_true_eq]
    omega
  refine WC.iter T.mix T.c166 (a := []) (c := [.ptr ba 0, .ptr bb 0]) rfl (iter_common T (sa := s) (sb := s) v v ba bb) (fun y hy => by obtain ⟨z, _, rfl⟩ := List.mem_map.1 hy; rfl)
    (fun i h' g => ∃ out, h' = h ++ [ABlk.cells [AV.str H.name, AV.int IntKind.i64 H.err, s] true false] ++ [ABlk.cells [AV.str [], AV.int IntKind.i64 0, AV.nilSlice] true false] ++ g1 ++ [ABlk.cells [out] true false] ++ g2 ∧ Fr (h'.length + 1) (h' ++ [.dead] ++ g) out 2 ((fillK H i).map pkRow)) (fun _ _ _ => False)
    ⟨.nilSlice, rfl, .nil⟩ (fun i h' g g' hI => ?_) (fun i h' g X hl hI => ?_) (fun i hi h' g R B hl hI => ?_) (fun e h' g hl hI => ?_)
  · obtain ⟨out, h1, h2⟩ := hI
    exact ⟨out, h1, by rw [← List.append_assoc]; exact h2.app _⟩
  · obtain ⟨out, rfl, _⟩ := hI
    refine ⟨(Ext.app g (Ext.app [X] (Ext.refl _))).some ?_, (Ext.app g (Ext.app [X] (Ext.refl _))).some ?_, o.ext (by repeat first | exact Ext.refl _ | refine Ext.app _ ?_), o.ext (by repeat first | exact Ext.refl _ | refine Ext.app _ ?_)⟩
    · rw [at_swap (hb5 _ _ _ _ hpre.1)]; exact hpre.1
    · rw [at_swap (hb5 _ _ _ _ hpre.2.1)]; exact hpre.2.1
  · obtain ⟨out, rfl, hfr⟩ := hI
    obtain ⟨q1, q2, q3⟩ := hxs i hi
    rw [q1]
    have hbd := at_bd v q2
    simp only [wset, hset, dset, bset, Nat.reduceAdd, Nat.reduceMul, Nat.reduceLeDiff, Nat.reduceEqDiff, setArgs]
    refine ⟨_, g, rfl, by simp, ?_⟩
    simp only [wset, hset, dset, bset, Nat.reduceAdd, Nat.reduceMul, Nat.reduceLeDiff, Nat.reduceEqDiff]
    refine WF.res T.c96 (r96 T (H := H) (o.ext (by repeat first | exact Ext.refl _ | refine Ext.app _ ?_)) v q2) ?_
    rintro _ g3 rfl
    simp only [wset, hset, dset, bset, Nat.reduceAdd, Nat.reduceMul, Nat.reduceLeDiff, Nat.reduceEqDiff]
    refine WF.res T.c115 (r115 T (atS H (begS H + i)) (by omega) (by omega)) ?_
    rintro _ g4 rfl
    simp only [wset, hset, dset, bset, Nat.reduceAdd, Nat.reduceMul, Nat.reduceLeDiff, Nat.reduceEqDiff]
    have hfl : (fillK H i).length ≤ 256 := by
      have hl : (placesS H H).length = (min (endS H) (endS H) + 1 - max (begS H) (begS H)).toNat := ivS_len
      simp only [fillK, List.length_map, List.length_take]
      omega
    have hN : ∀ (o' : AV) (X : ABlk), (h ++ [ABlk.cells [AV.str H.name, AV.int IntKind.i64 H.err, s] true false] ++ [ABlk.cells [AV.str [], AV.int IntKind.i64 0, AV.nilSlice] true false] ++ g1 ++ [ABlk.cells [o'] true false] ++ g2 ++ [X]).length = (h ++ [ABlk.cells [AV.str H.name, AV.int IntKind.i64 H.err, s] true false] ++ [ABlk.cells [AV.str [], AV.int IntKind.i64 0, AV.nilSlice] true false] ++ g1 ++ [ABlk.cells [out] true false] ++ g2).length + 1 := fun o' X => by simp only [List.length_append, List.length_cons, List.length_nil]; try omega
    have hfrB := hfr.swap' (hN out .dead) (hN out B)
    refine WR.app1 (h0 := h ++ [ABlk.cells [AV.str H.name, AV.int IntKind.i64 H.err, s] true false] ++ [ABlk.cells [AV.str [], AV.int IntKind.i64 0, AV.nilSlice] true false] ++ g1 ++ [ABlk.cells [out] true false] ++ g2 ++ [B]) (cs := (fillK H i).map pkRow) (ys := [pkRow (begS H + i, roundS (atS H (begS H + i)))]) (by rw [hN]; exact ((hfrB.app _).app _).app _) (Fr.push (N := 0) (Nat.zero_le _) [pkRow (begS H + i, roundS (atS H (begS H + i)))] (by simp)).isSl (by decide) (by simp) (by simp; omega) (by repeat first | exact Ext.refl _ | refine Ext.app _ ?_) ?_
    intro g' hl' hff hkp
    have hrow : (fillK H i).map pkRow ++ [pkRow (begS H + i, roundS (atS H (begS H + i)))] = (fillK H (i + 1)).map pkRow := by
      rw [fillK, fillK, List.take_add_one, q3, List.map_append, List.map_append]; rfl
    rw [hrow, hN] at hff
    rw [hrow]
    simp only [wset, hset, dset, bset, Nat.reduceAdd, Nat.reduceMul, Nat.reduceLeDiff, Nat.reduceEqDiff]
    refine ⟨_, g', rfl, by simp only [List.length_append, List.length_cons, List.length_nil]; try omega, ?_⟩
    rw [if_pos trivial]
    refine ⟨_, rfl, ?_⟩
    have e9 : ∀ o', (h ++ [ABlk.cells [AV.str H.name, AV.int IntKind.i64 H.err, s] true false] ++ [ABlk.cells [AV.str [], AV.int IntKind.i64 0, AV.nilSlice] true false] ++ g1 ++ [ABlk.cells [o'] true false] ++ g2).length = (h ++ [ABlk.cells [AV.str H.name, AV.int IntKind.i64 H.err, s] true false] ++ [ABlk.cells [AV.str [], AV.int IntKind.i64 0, AV.nilSlice] true false] ++ g1 ++ [ABlk.cells [out] true false] ++ g2).length := fun o' => by simp only [List.length_append, List.length_cons, List.length_nil]
    rw [e9]
    exact hff.swap' (hN out B) (hN _ .dead)
  · by_cases hen : e = .normal
    · subst hen
      rw [if_pos rfl] at hI
      obtain ⟨out, rfl, hfr⟩ := hI
      simp only [wset, hset, dset, bset, Nat.reduceAdd, Nat.reduceMul, Nat.reduceLeDiff, Nat.reduceEqDiff]
      refine WF.res T.c113 (r113 T (H := H) (L := (fillH H).picks) o.sl.one hfr.isSl.one) ?_
      rintro _ g5 rfl
      simp only [wset, hset, dset, bset, Nat.reduceAdd, Nat.reduceMul, Nat.reduceLeDiff, Nat.reduceEqDiff, hfr.isSl.one]
      have hK : fillK H ((placesS H H).map fun x => [AV.int .i64 x]).length = (fillH H).picks := by
        rw [fillK, List.length_map, List.take_length]; rfl
      rw [hK] at hfr
      refine ⟨out, by rw [he]; rfl, ?_, ?_, o.nm⟩
      · have hN : ∀ K : ABlk, (h ++ [ABlk.cells [AV.str H.name, AV.int IntKind.i64 H.err, s] true false] ++ [K] ++ g1 ++ [ABlk.cells [out] true false] ++ g2 ++ [ABlk.dead]).length = (h ++ [ABlk.cells [AV.str H.name, AV.int IntKind.i64 H.err, s] true false] ++ [ABlk.cells [AV.str [], AV.int IntKind.i64 0, AV.nilSlice] true false] ++ g1 ++ [ABlk.cells [out] true false] ++ g2).length + 1 := fun K => by simp only [List.length_append, List.length_cons, List.length_nil]; try omega
        exact ((hfr.swap' (hN _) (hN _)).app g5).isSl
      · have hl : (placesS H H).length = (min (endS H) (endS H) + 1 - max (begS H) (begS H)).toNat := ivS_len
        simp only [fillH, List.length_map]
        omega
    · rw [if_neg hen] at hI
      exact hI.elim
end
end Go.Abs
namespace Go.Abs

section
variable {P : Program} (T : Tbl P) {h : AHeap}
include T

theorem r38 {H : Hor} {s : AV} (o : HorOk h H s) (v : HorV H) : RCall P 38 [horA H s] h (fun v h' => ∃ s', v = horA (fillH H) s' ∧ HorFr h.length h' (fillH H) s') := by
  refine .of T.mix T.c38 ?_
  unfold fn38
  simp only [wset, hset, dset, bset, Nat.reduceAdd, Nat.reduceMul, Nat.reduceLeDiff, Nat.reduceEqDiff, o.sl.one]
  refine WF.res T.c100 (r100 T (H := H) (o.ext (by repeat first | exact Ext.refl _ | refine Ext.app _ ?_)) v.ne) ?_
  rintro _ g0 rfl
  simp only [wset, hset, dset, bset, Nat.reduceAdd, Nat.reduceMul, Nat.reduceLeDiff, Nat.reduceEqDiff]
  have eb := end_bd v
  have hpl : (placesS H H).length = (min (endS H) (endS H) + 1 - max (begS H) (begS H)).toNat := ivS_len
  refine WL.inv T.mix (fun n ts h' => ∃ (k : Nat) (out : AV) (g : AHeap), k ≤ (placesS H H).length ∧ n = (placesS H H).length - k ∧ h' = h ++ [ABlk.cells [AV.str H.name, AV.int IntKind.i64 H.err, s] true false] ++ [ABlk.cells [AV.str [], AV.int IntKind.i64 0, AV.nilSlice] true false] ++ [ABlk.cells [AV.str H.name, AV.int IntKind.i64 H.err, out] true false] ++ g ∧ Fr (h.length + 3) h' out 2 ((fillK H k).map pkRow) ∧ ts.length = 35 ∧ slot ts 1 = .ptr h.length 0 ∧ slot ts 2 = .ptr (h ++ [ABlk.cells [AV.str H.name, AV.int IntKind.i64 H.err, s] true false]).length 0 ∧ slot ts 3 = .ptr (h ++ [ABlk.cells [AV.str H.name, AV.int IntKind.i64 H.err, s] true false] ++ [ABlk.cells [AV.str [], AV.int IntKind.i64 0, AV.nilSlice] true false]).length 0 ∧ slot ts 4 = .int .i64 (begS H + k)) (placesS H H).length
    ⟨0, .nilSlice, g0, by omega, rfl, rfl, .nil, rfl, rfl, rfl, rfl, by simp [slot]⟩ ?_
  rintro _ ts _ ⟨k, out, g, hk, rfl, rfl, hfr, hlen, t1, t2, t3, t4⟩
  rw [expl ts 35 hlen]
  simp only [wset, hset, dset, bset, Nat.reduceAdd, Nat.reduceMul, Nat.reduceLeDiff, Nat.reduceEqDiff, t1, t2, t3, t4]
  refine WF.res T.c101 (r101 T (H := H) (o.ext (by repeat first | exact Ext.refl _ | refine Ext.app _ ?_)) v.ne) ?_
  rintro _ g1 rfl
  by_cases hlt : k < (placesS H H).length
  · have e3 : begS H + k ≤ endS H := by omega
    have hx : hasS H (begS H + k) = true := by
      simp only [hasS, Bool.and_eq_true, decide_eq_true_eq]; omega
    have hbd := at_bd v hx
    simp only [wset, hset, dset, bset, Nat.reduceAdd, Nat.reduceMul, Nat.reduceLeDiff, Nat.reduceEqDiff, e3, decide_true, t1, t2, t3, t4]
    refine WF.res T.c24 (r24 T (H := H) (o.ext (by repeat first | exact Ext.refl _ | refine Ext.app _ ?_)) v hx) ?_
    rintro _ g2 rfl
    simp only [wset, hset, dset, bset, Nat.reduceAdd, Nat.reduceMul, Nat.reduceLeDiff, Nat.reduceEqDiff, t1, t2, t3, t4]
    refine WF.res T.c116 (r116 T (atS H (begS H + k)).1 (atS H (begS H + k)).2 (by omega) (by omega)) ?_
    rintro _ g3 rfl
    simp only [wset, hset, dset, bset, Nat.reduceAdd, Nat.reduceMul, Nat.reduceLeDiff, Nat.reduceEqDiff, t1, t2, t3, t4]
    have hfl : (fillK H k).length ≤ 256 := by
      simp only [fillK, List.length_map, List.length_take]; omega
    have hN : ∀ o' : AV, (h ++ [ABlk.cells [AV.str H.name, AV.int IntKind.i64 H.err, s] true false] ++ [ABlk.cells [AV.str [], AV.int IntKind.i64 0, AV.nilSlice] true false] ++ [ABlk.cells [AV.str H.name, AV.int IntKind.i64 H.err, o'] true false]).length = h.length + 3 := fun _ => by simp
    have q3 : (placesS H H)[k]? = some (begS H + k) := by
      have := ivS_get (lo := max (begS H) (begS H)) (hi := min (endS H) (endS H)) hlt
      rw [List.getElem?_eq_getElem hlt]
      exact congrArg some (this.trans (by rw [Int.max_self]))
    refine WR.app1 (h0 := h ++ [ABlk.cells [AV.str H.name, AV.int IntKind.i64 H.err, s] true false] ++ [ABlk.cells [AV.str [], AV.int IntKind.i64 0, AV.nilSlice] true false] ++ [ABlk.cells [AV.str H.name, AV.int IntKind.i64 H.err, out] true false]) (cs := (fillK H k).map pkRow) (ys := [pkRow (begS H + k, roundS (atS H (begS H + k)))]) (by rw [hN]; exact ((((hfr.app _).app _).app _).app _).app _) (Fr.push (N := 0) (Nat.zero_le _) [pkRow (begS H + k, roundS (atS H (begS H + k)))] (by simp)).isSl (by decide) (by simp) (by simp; omega) (by repeat first | exact Ext.refl _ | refine Ext.app _ ?_) ?_
    intro g' hl' hff hkp
    have hrow : (fillK H k).map pkRow ++ [pkRow (begS H + k, roundS (atS H (begS H + k)))] = (fillK H (k + 1)).map pkRow := by
      rw [fillK, fillK, List.take_add_one, q3, List.map_append, List.map_append]; rfl
    rw [hrow, hN] at hff
    rw [hrow]
    simp only [wset, hset, dset, bset, Nat.reduceAdd, Nat.reduceMul, Nat.reduceLeDiff, Nat.reduceEqDiff, t1, t2, t3, t4, wrap_in (n := begS H + (k : Int) + 1) (by omega) (by omega)]
    refine ⟨_, ?_, k + 1, _, g', by omega, rfl, rfl, hff.swap' (hN _) (hN _), ?_⟩
    · omega
    · exact congrArg (AV.int .i64) (by omega)
  · have e3 : ¬ begS H + k ≤ endS H := by omega
    have hK : fillK H k = (fillH H).picks := by
      rw [fillK, show k = (placesS H H).length by omega, List.take_length]; rfl
    rw [hK] at hfr
    simp only [wset, hset, dset, bset, Nat.reduceAdd, Nat.reduceMul, Nat.reduceLeDiff, Nat.reduceEqDiff, e3, decide_false, if_true, t1, t2, t3, t4, hfr.isSl.one]
    refine ⟨out, rfl, ?_, ?_, o.nm⟩
    · exact ((hfr.swap' (A := h ++ [ABlk.cells [AV.str H.name, AV.int IntKind.i64 H.err, s] true false] ++ [ABlk.cells [AV.str [], AV.int IntKind.i64 0, AV.nilSlice] true false] ++ [ABlk.cells [AV.str H.name, AV.int IntKind.i64 H.err, out] true false]) (by simp) (by simp)).app g1).low (by omega)
    · simp only [fillH, List.length_map]; omega
end
end Go.Abs
namespace Go.Abs

theorem find_drop {α : Type} {L : List α} {k : Nat} (p : α → Bool) (hk : k < L.length) : (L.drop k).find? p = if p L[k] then some L[k] else (L.drop (k + 1)).find? p := by
  rw [List.drop_eq_getElem_cons hk, List.find?_cons]
  cases p L[k] <;> rfl

theorem mid4 {X Y g a b c d : AHeap} : X ++ Y ++ g ++ a ++ b ++ c ++ d = X ++ Y ++ (g ++ a ++ b ++ c ++ d) := by simp only [List.append_assoc]
def crossP (A B : Hor) (x : Int) : Bool := decide ((atS B x).1 * (atS A x).2 < (atS A x).1 * (atS B x).2)
def crossO : Option Int → Int × Bool
  | some x => (x, true)
  | none => (0, false)
def crossS (A B : Hor) : Int × Bool := crossO ((placesS A B).find? (crossP A B))

theorem places_has {A B : Hor} {x : Int} (h : x ∈ placesS A B) : hasS A x = true ∧ hasS B x = true := by
  have := ivS_mem.1 h
  simp only [hasS, Bool.and_eq_true, decide_eq_true_eq]
  omega
theorem places_get {A B : Hor} {i : Nat} (hi : i < (placesS A B).length) : hasS A (placesS A B)[i] = true ∧ hasS B (placesS A B)[i] = true := places_has (List.getElem_mem hi)
theorem places_le {A B : Hor} (va : HorV A) : (placesS A B).length ≤ 256 := by
  have ea := end_bd va
  have hl : (placesS A B).length = (min (endS A) (endS B) + 1 - max (begS A) (begS B)).toNat := ivS_len
  omega
theorem cross_bd {A B : Hor} (va : HorV A) (vb : HorV B) {x : Int} (ha : hasS A x = true) (hb : hasS B x = true) : (0 ≤ (atS A x).1 * (atS B x).2 ∧ (atS A x).1 * (atS B x).2 ≤ 25500000 * 255) ∧ (0 ≤ (atS B x).1 * (atS A x).2 ∧ (atS B x).1 * (atS A x).2 ≤ 25500000 * 255) := by
  have h1 := at_bd va ha
  have h2 := at_bd vb hb
  exact ⟨mul_bd (by omega) (by omega), mul_bd (by omega) (by omega)⟩

section
variable {P : Program} (T : Tbl P) {h : AHeap}
include T

theorem r145 {A B : Hor} {sa sb : AV} (oa : HorOk h A sa) (ob : HorOk h B sb) : RCall P 145 [horA A sa, horA B sb] h (fun v _ => v = .int .i64 (firstS [chkHorS A, chkHorS B])) := by
  refine .of T.mix T.c145 ?_
  unfold fn145
  simp only [wset, hset, dset, bset, Nat.reduceAdd, Nat.reduceMul, Nat.reduceLeDiff, Nat.reduceEqDiff, oa.sl.one, ob.sl.one]
  refine WF.res T.c26 (r26 T (H := A) (oa.sl.ext (by repeat first | exact Ext.refl _ | refine Ext.app _ ?_)) oa.len) ?_
  rintro _ g1 rfl
  simp only [wset, hset, dset, bset, Nat.reduceAdd, Nat.reduceMul, Nat.reduceLeDiff, Nat.reduceEqDiff]
  refine WF.res T.c26 (r26 T (H := B) (ob.sl.ext (by repeat first | exact Ext.refl _ | refine Ext.app _ ?_)) ob.len) ?_
  rintro _ g2 rfl
  simp only [wset, hset, dset, bset, Nat.reduceAdd, Nat.reduceMul, Nat.reduceLeDiff, Nat.reduceEqDiff]
  refine WF.res T.c105 (r105 T (isSl_ints [_, _]) (by simp)) ?_
  rintro _ g3 rfl
  simp only [wset, hset, dset, bset, Nat.reduceAdd, Nat.reduceMul, Nat.reduceLeDiff, Nat.reduceEqDiff]

theorem r146 {A B : Hor} {sa sb : AV} (oa : HorOk h A sa) (ob : HorOk h B sb) (va : HorV A) (vb : HorV B) : RCall P 146 [horA A sa, horA B sb] h (fun v _ => v = .bool (decide (0 < (placesS A B).length))) := by
  refine .of T.mix T.c146 ?_
  unfold fn146
  simp only [wset, hset, dset, bset, Nat.reduceAdd, Nat.reduceMul, Nat.reduceLeDiff, Nat.reduceEqDiff, oa.sl.one, ob.sl.one]
  refine WF.res T.c114 (r114 T (A := A) (B := B) (oa.ext (by repeat first | exact Ext.refl _ | refine Ext.app _ ?_)) (ob.ext (by repeat first | exact Ext.refl _ | refine Ext.app _ ?_))) ?_
  rintro _ g1 ⟨ba, bb, rfl, hpre⟩
  simp only [wset, hset, dset, bset, Nat.reduceAdd, Nat.reduceMul, Nat.reduceLeDiff, Nat.reduceEqDiff]
  refine WC.iter T.mix T.c166 (a := []) (c := [.ptr ba 0, .ptr bb 0]) rfl (iter_common T (sa := sa) (sb := sb) va vb ba bb) (fun y hy => by obtain ⟨z, _, rfl⟩ := List.mem_map.1 hy; rfl)
    (fun i h' g => i = 0 ∧ h' = h ++ [ABlk.cells [AV.str A.name, AV.int IntKind.i64 A.err, sa] true false] ++ [ABlk.cells [AV.str B.name, AV.int IntKind.i64 B.err, sb] true false] ++ [ABlk.cells [AV.bool false] true false] ++ g1)
    (fun e h' g => e = .ret ∧ 0 < (placesS A B).length ∧ h' = h ++ [ABlk.cells [AV.str A.name, AV.int IntKind.i64 A.err, sa] true false] ++ [ABlk.cells [AV.str B.name, AV.int IntKind.i64 B.err, sb] true false] ++ [ABlk.cells [AV.bool true] true false] ++ g1)
    ⟨rfl, rfl⟩ (fun i h' g g' hI => hI) (fun i h' g X hl hI => ?_) (fun i hi h' g X Y hl hI => ?_) (fun e h' g hl hI => ?_)
  · obtain ⟨rfl, rfl⟩ := hI
    exact ⟨(Ext.app g (Ext.app [X] (Ext.refl _))).some hpre.1, (Ext.app g (Ext.app [X] (Ext.refl _))).some hpre.2.1, oa.ext (by repeat first | exact Ext.refl _ | refine Ext.app _ ?_), ob.ext (by repeat first | exact Ext.refl _ | refine Ext.app _ ?_)⟩
  · obtain ⟨rfl, rfl⟩ := hI
    rw [List.getElem_map]
    simp only [wset, hset, dset, bset, Nat.reduceAdd, Nat.reduceMul, Nat.reduceLeDiff, Nat.reduceEqDiff, setArgs]
    refine ⟨_, g, rfl, by simp, ?_⟩
    repeat (first | simp only [wset, hset, dset, bset, Nat.reduceAdd, Nat.reduceMul, Nat.reduceLeDiff, Nat.reduceEqDiff] | simp (disch := first | (simp only [List.length_append, List.length_cons, List.length_nil] <;> omega) | rfl | omega | fail) only [kset, wset, hset, dset, bset, Nat.reduceAdd, Nat.reduceMul, Nat.reduceLeDiff, Nat.reduceEqDiff])
    refine ⟨_, g, rfl, by simp only [List.length_append, List.length_cons, List.length_nil], ?_⟩
    rw [if_neg (by simp)]
    first | exact ⟨rfl, by simpa using hi, rfl⟩ | exact ⟨by simpa using hi, rfl⟩
  · by_cases hen : e = .normal
    · subst hen
      rw [if_pos rfl] at hI
      obtain ⟨h0, rfl⟩ := hI
      rw [List.length_map] at h0
      rw [show decide (0 < (placesS A B).length) = false from decide_eq_false (by omega)]
      repeat (first | simp only [wset, hset, dset, bset, Nat.reduceAdd, Nat.reduceMul, Nat.reduceLeDiff, Nat.reduceEqDiff] | simp (disch := first | (simp only [List.length_append, List.length_cons, List.length_nil] <;> omega) | rfl | omega | fail) only [kset, wset, hset, dset, bset, Nat.reduceAdd, Nat.reduceMul, Nat.reduceLeDiff, Nat.reduceEqDiff])
    · rw [if_neg hen] at hI
      obtain ⟨rfl, h0, rfl⟩ := hI
      rw [show decide (0 < (placesS A B).length) = true from decide_eq_true h0]
      repeat (first | simp only [wset, hset, dset, bset, Nat.reduceAdd, Nat.reduceMul, Nat.reduceLeDiff, Nat.reduceEqDiff] | simp (disch := first | (simp only [List.length_append, List.length_cons, List.length_nil] <;> omega) | rfl | omega | fail) only [kset, wset, hset, dset, bset, Nat.reduceAdd, Nat.reduceMul, Nat.reduceLeDiff, Nat.reduceEqDiff])

theorem r147 {A B : Hor} {sa sb : AV} (oa : HorOk h A sa) (ob : HorOk h B sb) (va : HorV A) (vb : HorV B) : RCall P 147 [horA A sa, horA B sb] h (fun v _ => v = .tup [.int .i64 (crossS A B).1, .bool (crossS A B).2]) := by
  refine .of T.mix T.c147 ?_
  unfold fn147
  simp only [wset, hset, dset, bset, Nat.reduceAdd, Nat.reduceMul, Nat.reduceLeDiff, Nat.reduceEqDiff, oa.sl.one, ob.sl.one]
  refine WF.res T.c114 (r114 T (A := A) (B := B) (oa.ext (by repeat first | exact Ext.refl _ | refine Ext.app _ ?_)) (ob.ext (by repeat first | exact Ext.refl _ | refine Ext.app _ ?_))) ?_
  rintro _ g1 ⟨ba, bb, rfl, hpre⟩
  simp only [wset, hset, dset, bset, Nat.reduceAdd, Nat.reduceMul, Nat.reduceLeDiff, Nat.reduceEqDiff]
  refine WC.iter T.mix T.c166 (a := []) (c := [.ptr ba 0, .ptr bb 0]) rfl (iter_common T (sa := sa) (sb := sb) va vb ba bb) (fun y hy => by obtain ⟨z, _, rfl⟩ := List.mem_map.1 hy; rfl)
    (fun i h' g => (placesS A B).find? (crossP A B) = ((placesS A B).drop i).find? (crossP A B) ∧ h' = h ++ [ABlk.cells [AV.str A.name, AV.int IntKind.i64 A.err, sa] true false] ++ [ABlk.cells [AV.str B.name, AV.int IntKind.i64 B.err, sb] true false] ++ [ABlk.cells [AV.int IntKind.i64 0] true false] ++ [ABlk.cells [AV.bool false] true false] ++ g1)
    (fun e h' g => e = .ret ∧ ∃ x, (placesS A B).find? (crossP A B) = some x ∧ h' = h ++ [ABlk.cells [AV.str A.name, AV.int IntKind.i64 A.err, sa] true false] ++ [ABlk.cells [AV.str B.name, AV.int IntKind.i64 B.err, sb] true false] ++ [ABlk.cells [AV.int IntKind.i64 x] true false] ++ [ABlk.cells [AV.bool true] true false] ++ g1)
    ⟨rfl, rfl⟩ (fun i h' g g' hI => hI) (fun i h' g X hl hI => ?_) (fun i hi h' g X Y hl hI => ?_) (fun e h' g hl hI => ?_)
  · obtain ⟨_, rfl⟩ := hI
    exact ⟨(Ext.app g (Ext.app [X] (Ext.refl _))).some hpre.1, (Ext.app g (Ext.app [X] (Ext.refl _))).some hpre.2.1, oa.ext (by repeat first | exact Ext.refl _ | refine Ext.app _ ?_), ob.ext (by repeat first | exact Ext.refl _ | refine Ext.app _ ?_)⟩
  · obtain ⟨hf, rfl⟩ := hI
    rw [List.length_map] at hi
    have hx := places_get hi
    have hbd := cross_bd va vb hx.1 hx.2
    rw [find_drop _ hi] at hf
    rw [List.getElem_map]
    generalize (placesS A B)[i] = x at *
    simp only [wset, hset, dset, bset, Nat.reduceAdd, Nat.reduceMul, Nat.reduceLeDiff, Nat.reduceEqDiff, setArgs]
    refine ⟨_, g, rfl, by simp, ?_⟩
    simp only [wset, hset, dset, bset, Nat.reduceAdd, Nat.reduceMul, Nat.reduceLeDiff, Nat.reduceEqDiff]
    refine WF.res T.c96 (r96 T (H := A) (oa.ext (by repeat first | exact Ext.refl _ | refine Ext.app _ ?_)) va hx.1) ?_
    rintro _ g3 rfl
    simp only [wset, hset, dset, bset, Nat.reduceAdd, Nat.reduceMul, Nat.reduceLeDiff, Nat.reduceEqDiff]
    refine WF.res T.c96 (r96 T (H := B) (ob.ext (by repeat first | exact Ext.refl _ | refine Ext.app _ ?_)) vb hx.2) ?_
    rintro _ g4 rfl
    repeat (first | simp only [wset, hset, dset, bset, Nat.reduceAdd, Nat.reduceMul, Nat.reduceLeDiff, Nat.reduceEqDiff] | simp (disch := first | (simp only [List.length_append, List.length_cons, List.length_nil] <;> omega) | rfl | omega | fail) only [kset, wset, hset, dset, bset, Nat.reduceAdd, Nat.reduceMul, Nat.reduceLeDiff, Nat.reduceEqDiff])
    simp only [wrap_in (n := (atS A x).1 * (atS B x).2) (by omega) (by omega), wrap_in (n := (atS B x).1 * (atS A x).2) (by omega) (by omega)]
    by_cases hc : (atS B x).1 * (atS A x).2 < (atS A x).1 * (atS B x).2
    · rw [show crossP A B x = true from decide_eq_true hc, if_pos rfl] at hf
      repeat (first | simp only [wset, hset, dset, bset, Nat.reduceAdd, Nat.reduceMul, Nat.reduceLeDiff, Nat.reduceEqDiff, eq_true hc, decide_true] | simp (disch := first | (simp only [List.length_append, List.length_cons, List.length_nil] <;> omega) | rfl | omega | fail) only [kset, wset, hset, dset, bset, Nat.reduceAdd, Nat.reduceMul, Nat.reduceLeDiff, Nat.reduceEqDiff, eq_true hc, decide_true])
      refine ⟨_, _, mid4, by simp only [List.length_append, List.length_cons, List.length_nil], ?_⟩
      rw [if_neg (by simp)]
      first | exact ⟨rfl, x, hf, rfl⟩ | exact ⟨x, hf, rfl⟩
    · rw [show crossP A B x = false from decide_eq_false hc, if_neg (by simp)] at hf
      repeat (first | simp only [wset, hset, dset, bset, Nat.reduceAdd, Nat.reduceMul, Nat.reduceLeDiff, Nat.reduceEqDiff, eq_false hc, decide_false] | simp (disch := first | (simp only [List.length_append, List.length_cons, List.length_nil] <;> omega) | rfl | omega | fail) only [kset, wset, hset, dset, bset, Nat.reduceAdd, Nat.reduceMul, Nat.reduceLeDiff, Nat.reduceEqDiff, eq_false hc, decide_false])
      refine ⟨_, _, mid4, by simp only [List.length_append, List.length_cons, List.length_nil], ?_⟩
      rw [if_pos trivial]
      exact ⟨hf, rfl⟩
  · by_cases hen : e = .normal
    · subst hen
      rw [if_pos rfl] at hI
      obtain ⟨h0, rfl⟩ := hI
      rw [List.length_map, List.drop_length] at h0
      rw [crossS, h0]
      repeat (first | simp only [wset, hset, dset, bset, Nat.reduceAdd, Nat.reduceMul, Nat.reduceLeDiff, Nat.reduceEqDiff] | simp (disch := first | (simp only [List.length_append, List.length_cons, List.length_nil] <;> omega) | rfl | omega | fail) only [kset, wset, hset, dset, bset, Nat.reduceAdd, Nat.reduceMul, Nat.reduceLeDiff, Nat.reduceEqDiff])
      rfl
    · rw [if_neg hen] at hI
      obtain ⟨rfl, x, h0, rfl⟩ := hI
      rw [crossS, h0]
      repeat (first | simp only [wset, hset, dset, bset, Nat.reduceAdd, Nat.reduceMul, Nat.reduceLeDiff, Nat.reduceEqDiff] | simp (disch := first | (simp only [List.length_append, List.length_cons, List.length_nil] <;> omega) | rfl | omega | fail) only [kset, wset, hset, dset, bset, Nat.reduceAdd, Nat.reduceMul, Nat.reduceLeDiff, Nat.reduceEqDiff])
      rfl

theorem r80 {A B : Hor} {sa sb : AV} (oa : HorOk h A sa) (ob : HorOk h B sb) : RCall P 80 [horA A sa, horA B sb] h (fun v _ => v = .tup (if firstS [chkHorS A, chkHorS B] = 0 then (if (placesS A B).length = 0 then [.int .i64 0, .bool false, .int .i64 7] else [.int .i64 (crossS A B).1, .bool (crossS A B).2, .int .i64 0]) else [.int .i64 0, .bool false, .int .i64 (firstS [chkHorS A, chkHorS B])])) := by
  refine .of T.mix T.c80 ?_
  unfold fn80
  simp only [wset, hset, dset, bset, Nat.reduceAdd, Nat.reduceMul, Nat.reduceLeDiff, Nat.reduceEqDiff, oa.sl.one, ob.sl.one]
  refine WF.res T.c145 (r145 T (A := A) (B := B) (oa.ext (by repeat first | exact Ext.refl _ | refine Ext.app _ ?_)) (ob.ext (by repeat first | exact Ext.refl _ | refine Ext.app _ ?_))) ?_
  rintro _ g1 rfl
  by_cases he : firstS [chkHorS A, chkHorS B] = 0
  case neg =>
    rw [if_neg he]
    simp only [wset, hset, dset, bset, Nat.reduceAdd, Nat.reduceMul, Nat.reduceLeDiff, Nat.reduceEqDiff, show decide (firstS [chkHorS A, chkHorS B] ≠ 0) = true from decide_eq_true he]
  have hz := firstS_zero.1 he
  have va := horV_iff.1 (hz (chkHorS A) (by simp))
  have vb := horV_iff.1 (hz (chkHorS B) (by simp))
  rw [if_pos he]
  simp only [wset, hset, dset, bset, Nat.reduceAdd, Nat.reduceMul, Nat.reduceLeDiff, Nat.reduceEqDiff, show decide (firstS [chkHorS A, chkHorS B] ≠ 0) = false from decide_eq_false (fun hne => hne he), oa.sl.one, ob.sl.one]
  refine WF.res T.c146 (r146 T (A := A) (B := B) (oa.ext (by repeat first | exact Ext.refl _ | refine Ext.app _ ?_)) (ob.ext (by repeat first | exact Ext.refl _ | refine Ext.app _ ?_)) va vb) ?_
  rintro _ g2 rfl
  by_cases hm : (placesS A B).length = 0
  · rw [if_pos hm]
    simp only [wset, hset, dset, bset, Nat.reduceAdd, Nat.reduceMul, Nat.reduceLeDiff, Nat.reduceEqDiff, show decide (0 < (placesS A B).length) = false from decide_eq_false (by omega), Bool.not_false]
  · rw [if_neg hm]
    simp only [wset, hset, dset, bset, Nat.reduceAdd, Nat.reduceMul, Nat.reduceLeDiff, Nat.reduceEqDiff, show decide (0 < (placesS A B).length) = true from decide_eq_true (by omega), Bool.not_true]
    refine WF.res T.c147 (r147 T (A := A) (B := B) (oa.ext (by repeat first | exact Ext.refl _ | refine Ext.app _ ?_)) (ob.ext (by repeat first | exact Ext.refl _ | refine Ext.app _ ?_)) va vb) ?_
    rintro _ g3 rfl
    simp only [wset, hset, dset, bset, Nat.reduceAdd, Nat.reduceMul, Nat.reduceLeDiff, Nat.reduceEqDiff]
end
end Go.Abs
namespace Go.Abs

theorem ivS_no {lo hi : Int} (h : hi < lo) : ivS lo hi = [] := by
  have : (hi + 1 - lo).toNat = 0 := by omega
  rw [ivS, this]; rfl
theorem ivS_snoc {lo hi : Int} (h : lo ≤ hi) : ivS lo hi = ivS lo (hi - 1) ++ [hi] := by
  have : (hi + 1 - lo).toNat = (hi - 1 + 1 - lo).toNat + 1 := by omega
  rw [ivS, this, List.range_succ, List.map_append, ivS]
  congr 1
  simp; omega
def iplS (A B : Hor) (k : Nat) : List Int := ivS (max (begS A) (begS B)) (min (min (endS A) (endS B)) ((k : Int) - 1))
theorem iplS_len {A B : Hor} {k : Nat} (va : HorV A) : (iplS A B k).length ≤ 256 := by
  have ea := end_bd va
  have : (iplS A B k).length = (min (min (endS A) (endS B)) ((k : Int) - 1) + 1 - max (begS A) (begS B)).toNat := ivS_len
  omega
theorem iplS_yes {A B : Hor} {k : Nat} (h : hasS A k = true ∧ hasS B k = true) : iplS A B (k + 1) = iplS A B k ++ [(k : Int)] := by
  simp only [hasS, Bool.and_eq_true, decide_eq_true_eq] at h
  have e1 : min (min (endS A) (endS B)) (((k + 1 : Nat) : Int) - 1) = k := by omega
  have e2 : min (min (endS A) (endS B)) ((k : Int) - 1) = (k : Int) - 1 := by omega
  rw [iplS, iplS, e1, e2]
  exact ivS_snoc (by omega)
theorem iplS_not {A B : Hor} {k : Nat} (h : ¬ (hasS A k = true ∧ hasS B k = true)) : iplS A B (k + 1) = iplS A B k := by
  simp only [hasS, Bool.and_eq_true, decide_eq_true_eq] at h
  by_cases hl : max (begS A) (begS B) ≤ k
  · have e1 : min (min (endS A) (endS B)) (((k + 1 : Nat) : Int) - 1) = min (min (endS A) (endS B)) ((k : Int) - 1) := by omega
    rw [iplS, iplS, e1]
  · rw [iplS, iplS, ivS_no (by omega), ivS_no (by omega)]
theorem iplS_all {A B : Hor} (va : HorV A) : iplS A B 256 = placesS A B := by
  have ea := end_bd va
  rw [iplS, placesS]; congr 1; omega
theorem iplS_0 {A B : Hor} (va : HorV A) : iplS A B 0 = [] := by
  have ea := end_bd va
  exact ivS_no (by omega)

section
variable {P : Program} (T : Tbl P) {h : AHeap}
include T

theorem r75 {A B : Hor} {sa sb : AV} (oa : HorOk h A sa) (ob : HorOk h B sb) (va : HorV A) (vb : HorV B) : RCall P 75 [horA A sa, horA B sb] h (fun s' h' => Fr h.length h' s' 1 ((placesS A B).map intRow)) := by
  refine .of T.mix T.c75 ?_
  unfold fn75
  simp only [wset, hset, dset, bset, Nat.reduceAdd, Nat.reduceMul, Nat.reduceLeDiff, Nat.reduceEqDiff, oa.sl.one, ob.sl.one]
  refine WL.inv T.mix (fun n ts h' => ∃ (k : Nat) (out : AV) (g : AHeap), k ≤ 256 ∧ n = 256 - k ∧ h' = h ++ [ABlk.cells [AV.str A.name, AV.int IntKind.i64 A.err, sa] true false] ++ [ABlk.cells [AV.str B.name, AV.int IntKind.i64 B.err, sb] true false] ++ g ∧ Fr (h.length + 2) h' out 1 ((iplS A B k).map intRow) ∧ ts.length = 24 ∧ slot ts 2 = .ptr h.length 0 ∧ slot ts 3 = .ptr (h ++ [ABlk.cells [AV.str A.name, AV.int IntKind.i64 A.err, sa] true false]).length 0 ∧ slot ts 5 = out ∧ slot ts 6 = .int .i64 k) 256
    ⟨0, .nilSlice, [], by omega, rfl, by rw [List.append_nil], by rw [iplS_0 va]; exact .nil, rfl, rfl, rfl, rfl, rfl⟩ ?_
  rintro _ ts _ ⟨k, out, g, hk, rfl, rfl, hfr, hlen, t2, t3, t5, t6⟩
  rw [expl ts 24 hlen]
  have e0 : (h ++ [ABlk.cells [AV.str A.name, AV.int IntKind.i64 A.err, sa] true false] ++ [ABlk.cells [AV.str B.name, AV.int IntKind.i64 B.err, sb] true false]).length = h.length + 2 := by simp
  by_cases hlt : k < 256
  · have e3 : (k : Int) < 256 := by omega
    simp only [wset, hset, dset, bset, Nat.reduceAdd, Nat.reduceMul, Nat.reduceLeDiff, Nat.reduceEqDiff, t2, t3, t5, t6, e3, decide_true]
    refine WF.res T.c23 (r23 T (H := A) (oa.ext (by repeat first | exact Ext.refl _ | refine Ext.app _ ?_)) va.ne _) ?_
    rintro _ g1 rfl
    cases ha : hasS A k with
    | false =>
      simp only [wset, hset, dset, bset, Nat.reduceAdd, Nat.reduceMul, Nat.reduceLeDiff, Nat.reduceEqDiff, t2, t3, t5, t6, wrapN (show k + 1 < 2 ^ 63 by omega)]
      refine ⟨_, ?_, k + 1, out, g ++ g1, by omega, rfl, by simp only [List.append_assoc], ?_, rfl, rfl⟩
      · omega
      · rw [iplS_not (by simp [ha])]; exact hfr.app _
    | true =>
      simp only [wset, hset, dset, bset, Nat.reduceAdd, Nat.reduceMul, Nat.reduceLeDiff, Nat.reduceEqDiff, t2, t3, t5, t6]
      refine WF.res T.c23 (r23 T (H := B) (ob.ext (by repeat first | exact Ext.refl _ | refine Ext.app _ ?_)) vb.ne _) ?_
      rintro _ g2 rfl
      cases hb : hasS B k with
      | false =>
        simp only [wset, hset, dset, bset, Nat.reduceAdd, Nat.reduceMul, Nat.reduceLeDiff, Nat.reduceEqDiff, t2, t3, t5, t6, wrapN (show k + 1 < 2 ^ 63 by omega)]
        refine ⟨_, ?_, k + 1, out, g ++ g1 ++ g2, by omega, rfl, by simp only [List.append_assoc], ?_, rfl, rfl⟩
        · omega
        · rw [iplS_not (by simp [hb])]; exact (hfr.app _).app _
      | true =>
        simp only [wset, hset, dset, bset, Nat.reduceAdd, Nat.reduceMul, Nat.reduceLeDiff, Nat.reduceEqDiff, t2, t3, t5, t6]
        have hl := iplS_len (B := B) (k := k) va
        refine WR.app1 (h0 := h ++ [ABlk.cells [AV.str A.name, AV.int IntKind.i64 A.err, sa] true false] ++ [ABlk.cells [AV.str B.name, AV.int IntKind.i64 B.err, sb] true false]) (cs := (iplS A B k).map intRow) (ys := [intRow k]) (by rw [e0]; exact ((hfr.app _).app _).app _) (Fr.push (N := 0) (Nat.zero_le _) [intRow k] (by simp)).isSl (by decide) (by simp) (by simp; omega) (by repeat first | exact Ext.refl _ | refine Ext.app _ ?_) ?_
        intro g' hl' hff hkp
        have hrow : (iplS A B k).map intRow ++ [intRow k] = (iplS A B (k + 1)).map intRow := by rw [iplS_yes ⟨ha, hb⟩, List.map_append]; rfl
        rw [hrow, e0] at hff
        rw [hrow]
        simp only [wset, hset, dset, bset, Nat.reduceAdd, Nat.reduceMul, Nat.reduceLeDiff, Nat.reduceEqDiff, t2, t3, t5, t6, wrapN (show k + 1 < 2 ^ 63 by omega)]
        refine ⟨_, ?_, k + 1, _, g', by omega, rfl, rfl, hff, rfl, rfl⟩
        omega
  · have e3 : ¬ (k : Int) < 256 := by omega
    have e4 : k = 256 := by omega
    simp only [wset, hset, dset, bset, Nat.reduceAdd, Nat.reduceMul, Nat.reduceLeDiff, Nat.reduceEqDiff, t2, t3, t5, t6, e3, decide_false, if_true]
    rw [← iplS_all (B := B) va, ← e4]
    exact hfr.low (by omega)

theorem r148 (x y : Int × Int) (h1 : -4611686018427387904 ≤ x.1 * y.2 ∧ x.1 * y.2 ≤ 4611686018427387904) (h2 : -4611686018427387904 ≤ y.1 * x.2 ∧ y.1 * x.2 ≤ 4611686018427387904) : RCall P 148 [ratA x, ratA y] h (fun v _ => v = .int .i64 (whenS (decide (y.1 * x.2 < x.1 * y.2)) 1 - whenS (decide (x.1 * y.2 < y.1 * x.2)) 1)) := by
  refine .of T.mix T.c148 ?_
  unfold fn148
  simp only [wset, hset, dset, bset, Nat.reduceAdd, Nat.reduceMul, Nat.reduceLeDiff, Nat.reduceEqDiff, wrap_in (n := x.1 * y.2) (by omega) (by omega), wrap_in (n := y.1 * x.2) (by omega) (by omega)]
  refine WF.res T.c22 (r22 T _ _) ?_
  rintro _ g1 rfl
  simp only [wset, hset, dset, bset, Nat.reduceAdd, Nat.reduceMul, Nat.reduceLeDiff, Nat.reduceEqDiff]
  refine WF.res T.c22 (r22 T _ _) ?_
  rintro _ g2 rfl
  have e : ∀ c : Bool, whenS c 1 = 0 ∨ whenS c 1 = 1 := fun c => by cases c <;> simp [whenS]
  have e1 := e (decide (y.1 * x.2 < x.1 * y.2))
  have e2 := e (decide (x.1 * y.2 < y.1 * x.2))
  simp only [wset, hset, dset, bset, Nat.reduceAdd, Nat.reduceMul, Nat.reduceLeDiff, Nat.reduceEqDiff]
  rw [wrap_in (by omega) (by omega)]

theorem r82 {A B : Hor} {sa sb : AV} (oa : HorOk h A sa) (ob : HorOk h B sb) (va : HorV A) (vb : HorV B) : RCall P 82 [horA A sa, horA B sb] h (fun v _ => v = .tup [.int .i64 (crossS A B).1, .bool (crossS A B).2]) := by
  refine .of T.mix T.c82 ?_
  unfold fn82
  simp only [wset, hset, dset, bset, Nat.reduceAdd, Nat.reduceMul, Nat.reduceLeDiff, Nat.reduceEqDiff, oa.sl.one, ob.sl.one]
  refine WF.res T.c75 (r75 T (A := A) (B := B) (oa.ext (by repeat first | exact Ext.refl _ | refine Ext.app _ ?_)) (ob.ext (by repeat first | exact Ext.refl _ | refine Ext.app _ ?_)) va vb) ?_
  rintro s' g1 hfr
  have hs' := hfr.isSl
  have hpl := places_le (B := B) va
  simp only [wset, hset, dset, bset, Nat.reduceAdd, Nat.reduceMul, Nat.reduceLeDiff, Nat.reduceEqDiff]
  refine WL.inv T.mix (fun n ts h' => ∃ (k : Nat) (g : AHeap), k ≤ (placesS A B).length ∧ n = (placesS A B).length - k ∧ h' = h ++ [ABlk.cells [AV.str A.name, AV.int IntKind.i64 A.err, sa] true false] ++ [ABlk.cells [AV.str B.name, AV.int IntKind.i64 B.err, sb] true false] ++ g1 ++ g ∧ (placesS A B).find? (crossP A B) = ((placesS A B).drop k).find? (crossP A B) ∧ ts.length = 35 ∧ slot ts 2 = .ptr h.length 0 ∧ slot ts 3 = .ptr (h ++ [ABlk.cells [AV.str A.name, AV.int IntKind.i64 A.err, sa] true false]).length 0 ∧ slot ts 6 = s' ∧ slot ts 7 = .int .i64 k) (placesS A B).length
    ⟨0, [], by omega, rfl, by rw [List.append_nil], rfl, rfl, rfl, rfl, rfl, rfl⟩ ?_
  rintro _ ts _ ⟨k, g, hk, rfl, rfl, hf, hlen, t2, t3, t6, t7⟩
  rw [expl ts 35 hlen]
  by_cases hlt : k < (placesS A B).length
  · have e3 : (k : Int) < (placesS A B).length := by omega
    have hx := places_get hlt
    have hbd := cross_bd va vb hx.1 hx.2
    rw [find_drop _ hlt] at hf
    simp only [wset, hset, dset, bset, Nat.reduceAdd, Nat.reduceMul, Nat.reduceLeDiff, Nat.reduceEqDiff, t2, t3, t6, t7, hs'.lenm, e3, decide_true, hs'.ixm hlt, hs'.l1m hlt rfl]
    have hld : ∀ {kk : AHeap}, Ext _ kk → loadF none (elp s' 1 k) (fun b => kk[b]?) = some (.int .i64 (placesS A B)[k], .keep) := fun {kk} e => hs'.l1m hlt rfl e
    generalize (placesS A B)[k] = x at *
    refine WF.res T.c24 (r24 T (H := A) (oa.ext (by repeat first | exact Ext.refl _ | refine Ext.app _ ?_)) va hx.1) ?_
    rintro _ g3 rfl
    simp only [wset, hset, dset, bset, Nat.reduceAdd, Nat.reduceMul, Nat.reduceLeDiff, Nat.reduceEqDiff, t2, t3, t6, t7, hs'.ixm hlt, hld]
    refine WF.res T.c24 (r24 T (H := B) (ob.ext (by repeat first | exact Ext.refl _ | refine Ext.app _ ?_)) vb hx.2) ?_
    rintro _ g4 rfl
    simp only [wset, hset, dset, bset, Nat.reduceAdd, Nat.reduceMul, Nat.reduceLeDiff, Nat.reduceEqDiff, t2, t3, t6, t7, hs'.ixm hlt, hld]
    refine WF.res T.c148 (r148 T _ _ (by omega) (by omega)) ?_
    rintro _ g5 rfl
    by_cases hc : (atS B x).1 * (atS A x).2 < (atS A x).1 * (atS B x).2
    · rw [show crossP A B x = true from decide_eq_true hc, if_pos rfl] at hf
      have hgt : decide (0 < whenS (decide ((atS B x).1 * (atS A x).2 < (atS A x).1 * (atS B x).2)) 1 - whenS (decide ((atS A x).1 * (atS B x).2 < (atS B x).1 * (atS A x).2)) 1) = true := by
        rw [decide_eq_true hc, decide_eq_false (show ¬ (atS A x).1 * (atS B x).2 < (atS B x).1 * (atS A x).2 by omega)]; rfl
      simp only [wset, hset, dset, bset, Nat.reduceAdd, Nat.reduceMul, Nat.reduceLeDiff, Nat.reduceEqDiff, t2, t3, t6, t7, hs'.ixm hlt, hld, hgt]
      rw [crossS, hf]; rfl
    · rw [show crossP A B x = false from decide_eq_false hc, if_neg (by simp)] at hf
      have hgt : decide (0 < whenS (decide ((atS B x).1 * (atS A x).2 < (atS A x).1 * (atS B x).2)) 1 - whenS (decide ((atS A x).1 * (atS B x).2 < (atS B x).1 * (atS A x).2)) 1) = false := by
        rw [decide_eq_false hc]
        cases decide ((atS A x).1 * (atS B x).2 < (atS B x).1 * (atS A x).2) <;> rfl
      simp only [wset, hset, dset, bset, Nat.reduceAdd, Nat.reduceMul, Nat.reduceLeDiff, Nat.reduceEqDiff, t2, t3, t6, t7, hs'.ixm hlt, hld, hgt, wrapN (show k + 1 < 2 ^ 63 by omega)]
      refine ⟨_, ?_, k + 1, _, by omega, rfl, by simp only [List.append_assoc]; rfl, hf, rfl⟩
      omega
  · have e3 : ¬ (k : Int) < (placesS A B).length := by omega
    have e4 : k = (placesS A B).length := by omega
    rw [e4, List.drop_length] at hf
    simp only [wset, hset, dset, bset, Nat.reduceAdd, Nat.reduceMul, Nat.reduceLeDiff, Nat.reduceEqDiff, t2, t3, t6, t7, hs'.lenm, e3, decide_false, if_true]
    rw [crossS, hf]; rfl

def orO {α : Type} : Option α → Option α → Option α
  | some x, _ => some x
  | none, y => y
def ordIn (A : Hor) (i : Nat) : Nat → List Hor → Option (Nat × Nat × Int)
  | _, [] => none
  | j, B :: r => if (crossS A B).2 = true then some (i, j, (crossS A B).1) else ordIn A i (j + 1) r
def ordS : Nat → List Hor → Option (Nat × Nat × Int)
  | _, [] => none
  | i, A :: r => orO (ordIn A i (i + 1) r) (ordS (i + 1) r)
def ordA : Option (Nat × Nat × Int) → List AV
  | some (i, j, x) => [.int .i64 i, .int .i64 j, .int .i64 x]
  | none => [.int .i64 0, .int .i64 0, .int .i64 0]

theorem r83 {L : List (Hor × AV)} {s : AV} (o : HorsOk h L s) (v : ∀ x ∈ L, HorV x.1) (hl8 : L.length ≤ 8) : RCall P 83 [s] h (fun v _ => v = .tup [.agg (ordA (ordS 0 (L.map (·.1)))), .bool (ordS 0 (L.map (·.1))).isSome]) := by
  refine .of T.mix T.c83 ?_
  unfold fn83
  have hs := o.sl
  simp only [wset, hset, dset, bset, Nat.reduceAdd, Nat.reduceMul, Nat.reduceLeDiff, Nat.reduceEqDiff]
  refine WL.inv T.mix (fun n ts h' => ∃ (i : Nat) (g : AHeap), i ≤ L.length ∧ n = L.length - i ∧ h' = h ++ [ABlk.cells [AV.int IntKind.i64 0, AV.int IntKind.i64 0, AV.int IntKind.i64 0] true false] ++ g ∧ ordS 0 (L.map (·.1)) = ordS i ((L.drop i).map (·.1)) ∧ ts.length = 40 ∧ slot ts 0 = s ∧ slot ts 2 = .ptr h.length 0 ∧ slot ts 4 = .int .i64 i) L.length
    ⟨0, [], by omega, rfl, by rw [List.append_nil], rfl, rfl, rfl, rfl, rfl⟩ ?_
  rintro _ ts _ ⟨i, g, hi, rfl, rfl, ho, hlen, t0, t2, t4⟩
  rw [expl ts 40 hlen]
  by_cases hlt : i < L.length
  · have e3 : (i : Int) < L.length := by omega
    have hA := o.all L[i] (List.getElem_mem hlt)
    have vA := v L[i] (List.getElem_mem hlt)
    have hd : (L.drop i).map (·.1) = L[i].1 :: (L.drop (i + 1)).map (·.1) := by rw [List.drop_eq_getElem_cons hlt]; rfl
    rw [hd, ordS] at ho
    simp only [wset, hset, dset, bset, Nat.reduceAdd, Nat.reduceMul, Nat.reduceLeDiff, Nat.reduceEqDiff, t0, t2, t4, hs.lenm, e3, decide_true, wrapN (show i + 1 < 2 ^ 63 by omega)]
    refine WL.inv T.mix (fun n ts h' => ∃ (j : Nat) (g : AHeap), j ≤ L.length ∧ i + 1 ≤ j ∧ n = L.length - j ∧ h' = h ++ [ABlk.cells [AV.int IntKind.i64 0, AV.int IntKind.i64 0, AV.int IntKind.i64 0] true false] ++ g ∧ ordS 0 (L.map (·.1)) = orO (ordIn L[i].1 i j ((L.drop j).map (·.1))) (ordS (i + 1) ((L.drop (i + 1)).map (·.1))) ∧ ts.length = 40 ∧ slot ts 0 = s ∧ slot ts 2 = .ptr h.length 0 ∧ slot ts 4 = .int .i64 i ∧ slot ts 5 = .int .i64 j) (L.length - (i + 1))
      ⟨i + 1, g, by omega, by omega, rfl, rfl, ho, rfl, rfl, rfl, rfl, rfl⟩ ?_
    rintro _ ts _ ⟨j, g, hj, hij, rfl, rfl, ho, hlen, t0, t2, t4, t5⟩
    rw [expl ts 40 hlen]
    by_cases hjl : j < L.length
    · have e5 : (j : Int) < L.length := by omega
      have hB := o.all L[j] (List.getElem_mem hjl)
      have vB := v L[j] (List.getElem_mem hjl)
      have hd : (L.drop j).map (·.1) = L[j].1 :: (L.drop (j + 1)).map (·.1) := by rw [List.drop_eq_getElem_cons hjl]; rfl
      rw [hd, ordIn] at ho
      simp only [wset, hset, dset, bset, Nat.reduceAdd, Nat.reduceMul, Nat.reduceLeDiff, Nat.reduceEqDiff, t0, t2, t4, t5, hs.lenm, e5, decide_true, hs.ixm hlt, hs.ixm hjl, hs.ldm hlt, hs.ldm hjl]
      refine WF.res T.c82 (r82 T (A := L[i].1) (B := L[j].1) (hA.ext (by repeat first | exact Ext.refl _ | refine Ext.app _ ?_)) (hB.ext (by repeat first | exact Ext.refl _ | refine Ext.app _ ?_)) vA vB) ?_
      rintro _ g3 rfl
      cases hc : (crossS L[i].1 L[j].1).2 with
      | true =>
        rw [hc, if_pos rfl] at ho
        repeat (first | simp only [wset, hset, dset, bset, Nat.reduceAdd, Nat.reduceMul, Nat.reduceLeDiff, Nat.reduceEqDiff, t0, t2, t4, t5] | simp (disch := first | (simp only [List.length_append, List.length_cons, List.length_nil] <;> omega) | rfl | omega | fail) only [kset, wset, hset, dset, bset, Nat.reduceAdd, Nat.reduceMul, Nat.reduceLeDiff, Nat.reduceEqDiff, t0, t2, t4, t5])
        rw [ho]; rfl
      | false =>
        rw [hc, if_neg (by simp)] at ho
        simp only [wset, hset, dset, bset, Nat.reduceAdd, Nat.reduceMul, Nat.reduceLeDiff, Nat.reduceEqDiff, t0, t2, t4, t5, wrapN (show j + 1 < 2 ^ 63 by omega)]
        refine ⟨_, ?_, j + 1, _, by omega, by omega, rfl, List.append_assoc _ _ _, ho, rfl⟩
        omega
    · have e5 : ¬ (j : Int) < L.length := by omega
      have hdn : L.drop j = [] := List.drop_eq_nil_of_le (by omega)
      rw [hdn] at ho
      simp only [wset, hset, dset, bset, Nat.reduceAdd, Nat.reduceMul, Nat.reduceLeDiff, Nat.reduceEqDiff, t0, t2, t4, t5, hs.lenm, e5, decide_false, if_true, wrapN (show i + 1 < 2 ^ 63 by omega)]
      refine ⟨_, ?_, i + 1, _, by omega, rfl, rfl, ho, rfl⟩
      omega
  · have e3 : ¬ (i : Int) < L.length := by omega
    have hdn : L.drop i = [] := List.drop_eq_nil_of_le (by omega)
    rw [hdn] at ho
    repeat (first | simp only [wset, hset, dset, bset, Nat.reduceAdd, Nat.reduceMul, Nat.reduceLeDiff, Nat.reduceEqDiff, t0, t2, t4, hs.lenm, e3, decide_false, if_true] | simp (disch := first | (simp only [List.length_append, List.length_cons, List.length_nil] <;> omega) | rfl | omega | fail) only [kset, wset, hset, dset, bset, Nat.reduceAdd, Nat.reduceMul, Nat.reduceLeDiff, Nat.reduceEqDiff, t0, t2, t4])
    rw [ho]; rfl
end
end Go.Abs
namespace Go.Abs

theorem lowS_cross {n d : Nat} (hd : 0 < d) : (lowS n d).1 * (d : Int) = (n : Int) * (lowS n d).2 := by
  have hg := gcd_bd (n := n) hd
  obtain ⟨a, ha⟩ := Nat.gcd_dvd_left n d
  obtain ⟨b, hb⟩ := Nat.gcd_dvd_right n d
  unfold lowS
  generalize hgg : Nat.gcd n d = g at *
  subst ha
  simp only
  rw [Nat.mul_div_cancel_left a hg.1]
  have e : d / g = b := by rw [hb]; exact Nat.mul_div_cancel_left b hg.1
  rw [e]
  have hb' : (d : Int) = g * b := by rw [hb]; exact Int.natCast_mul g b
  rw [hb', Int.natCast_mul]
  grind

theorem picks_mono {H : Hor} (v : HorV H) {a b : Nat} (ha : a < H.picks.length) (hb : b < H.picks.length) (h : H.picks[a].1 < H.picks[b].1) : a < b := by
  rcases Nat.lt_trichotomy a b with h1 | h1 | h1
  · exact h1
  · subst h1; omega
  · have := v.ok.lt h1 ha; omega
theorem picks_inj {H : Hor} (v : HorV H) {a b : Nat} (ha : a < H.picks.length) (hb : b < H.picks.length) (h : H.picks[a].1 = H.picks[b].1) : a = b := by
  rcases Nat.lt_trichotomy a b with h1 | h1 | h1
  · have := v.ok.lt h1 hb; omega
  · exact h1
  · have := v.ok.lt h1 ha; omega

theorem at_cases {H : Hor} (v : HorV H) {x : Int} (hx : hasS H x = true) : ∃ (i : Nat) (hi : i < H.picks.length), (H.picks[i].1 = x ∧ atS H x = (H.picks[i].2, 1)) ∨ (∃ h0 : 0 < i, (H.picks[i - 1]'(by omega)).1 < x ∧ x < H.picks[i].1 ∧ atS H x = lowS ((H.picks[i - 1]'(by omega)).2 * (H.picks[i].1 - (H.picks[i - 1]'(by omega)).1) + (H.picks[i].2 - (H.picks[i - 1]'(by omega)).2) * (x - (H.picks[i - 1]'(by omega)).1)).toNat (H.picks[i].1 - (H.picks[i - 1]'(by omega)).1).toNat) := by
  obtain ⟨i, hi, _, h2, h3, h4⟩ := atFrom_idx (a := (0, 0)) (has_some v hx)
  refine ⟨i, hi, ?_⟩
  unfold atS
  rw [h4]
  unfold stepS
  by_cases he : H.picks[i].1 = x
  · left; rw [if_pos he]; exact ⟨he, rfl⟩
  · right
    rw [if_neg he]
    have hi0 : i ≠ 0 := by
      rintro rfl
      simp only [hasS, Bool.and_eq_true, decide_eq_true_eq] at hx
      rw [begS_eq v.ne] at hx
      omega
    rw [dif_neg hi0]
    exact ⟨by omega, h3 (i - 1) (by omega), by omega, rfl⟩

theorem pick_has {H : Hor} (v : HorV H) {j : Nat} (hj : j < H.picks.length) : hasS H H.picks[j].1 = true := by
  simp only [hasS, Bool.and_eq_true, decide_eq_true_eq]
  rw [begS_eq v.ne, endS_eq v.ne]
  constructor
  · by_cases h0 : j = 0
    · subst h0; exact Int.le_refl _
    · have := v.ok.lt (i := 0) (j := j) (by omega) hj; omega
  · by_cases h0 : j = H.picks.length - 1
    · subst h0; exact Int.le_refl _
    · have := v.ok.lt (i := j) (j := H.picks.length - 1) (by omega) (by omega); omega

theorem at_pick {H : Hor} (v : HorV H) {j : Nat} (hj : j < H.picks.length) : atS H H.picks[j].1 = (H.picks[j].2, 1) := by
  obtain ⟨i, hi, h | ⟨h0, h1, h2, _⟩⟩ := at_cases v (pick_has v hj)
  · have := picks_inj v hi hj h.1
    subst this; exact h.2
  · have := picks_mono v (by omega) hj h1
    have := picks_mono v hj hi h2
    omega

theorem at_cross {H : Hor} (v : HorV H) {x : Int} (hx : hasS H x = true) {j : Nat} (hj : j + 1 < H.picks.length) (h1 : H.picks[j].1 ≤ x) (h2 : x ≤ H.picks[j + 1].1) :
    (atS H x).1 * (H.picks[j + 1].1 - H.picks[j].1) = (H.picks[j].2 * (H.picks[j + 1].1 - H.picks[j].1) + (H.picks[j + 1].2 - H.picks[j].2) * (x - H.picks[j].1)) * (atS H x).2 := by
  obtain ⟨i, hi, ⟨hp, ha⟩ | ⟨h0, h3, h4, ha⟩⟩ := at_cases v hx
  · rw [ha]
    by_cases hij : i = j
    · subst hij
      rw [← hp]
      simp only
      grind
    · have h5 : j < i := picks_mono v (by omega) hi (by
        rcases Int.lt_or_eq_of_le h1 with h | h
        · omega
        · exact absurd (picks_inj v hi (by omega) (by omega)) hij)
      have h6 : i = j + 1 := by
        by_cases hh : i = j + 1
        · exact hh
        · have := v.ok.lt (i := j + 1) (j := i) (by omega) hi
          omega
      subst h6
      rw [← hp]
      simp only
      grind
  · have e : i = j + 1 := by
      have q1 : j < i := picks_mono v (by omega) hi (by omega)
      have q2 : i - 1 < j + 1 := picks_mono v (by omega) hj (by omega)
      omega
    subst e
    have hlt := v.ok.lt (i := j) (j := j + 1) (by omega) hi
    have ba := v.ok.at (i := j) (by omega)
    have bb := v.ok.at hi
    rw [ha]
    simp only [Nat.add_sub_cancel]
    have hn := interp_bd (a := H.picks[j]) (b := H.picks[j + 1]) (x := x) (by omega) (by omega) (by omega) h2
    have hc := lowS_cross (n := (H.picks[j].2 * (H.picks[j + 1].1 - H.picks[j].1) + (H.picks[j + 1].2 - H.picks[j].2) * (x - H.picks[j].1)).toNat) (d := (H.picks[j + 1].1 - H.picks[j].1).toNat) (by omega)
    rw [Int.toNat_of_nonneg (by omega), Int.toNat_of_nonneg (by omega)] at hc
    exact hc

theorem at_line {H : Hor} (v : HorV H) {x : Int} (hx : hasS H x = true) {j : Nat} (hj : j + 1 < H.picks.length) (h1 : H.picks[j].1 ≤ x) (h2 : x ≤ H.picks[j + 1].1) :
    ((atS H x).1 - H.picks[j].2 * (atS H x).2) * (H.picks[j + 1].1 - H.picks[j].1) = (H.picks[j + 1].2 - H.picks[j].2) * (x - H.picks[j].1) * (atS H x).2 := by
  have := at_cross v hx hj h1 h2
  grind

theorem at_le {H : Hor} (v : HorV H) {x : Int} (hx : hasS H x = true) : (atS H x).1 ≤ 100000 * (atS H x).2 := by
  obtain ⟨i, hi, ⟨hp, ha⟩ | ⟨h0, h3, h4, ha⟩⟩ := at_cases v hx
  · rw [ha]; have := v.ok.at hi; simp only; omega
  · have hb := at_bd v hx
    have hc := at_cross v hx (j := i - 1) (by omega) (by omega) (by simp only [Nat.sub_add_cancel h0]; omega)
    simp only [Nat.sub_add_cancel h0] at hc
    have ba := v.ok.at (i := i - 1) (by omega)
    have bb := v.ok.at hi
    have hn := interp_bd (a := H.picks[i - 1]) (b := H.picks[i]) (x := x) (by omega) (by omega) (by omega) (by omega)
    have hd : 0 < H.picks[i].1 - H.picks[i - 1].1 := by omega
    generalize H.picks[i].1 - H.picks[i - 1].1 = d at *
    generalize H.picks[i - 1].2 * d + (H.picks[i].2 - H.picks[i - 1].2) * (x - H.picks[i - 1].1) = n at *
    have h5 : n * (atS H x).2 ≤ 100000 * d * (atS H x).2 := Int.mul_le_mul_of_nonneg_right hn.2.2.2 (by omega)
    have h6 : (atS H x).1 * d ≤ (100000 * (atS H x).2) * d := by
      rw [hc]; grind
    exact Int.le_of_mul_le_mul_right h6 hd

/-- What floors and ceilings are. -/
theorem fl_bd {n d : Int} (hd : 0 < d) : n / d * d ≤ n ∧ n < (n / d + 1) * d := by
  have h1 := Int.mul_ediv_add_emod n d
  have h2 := Int.emod_nonneg n (by omega : d ≠ 0)
  have h3 := Int.emod_lt_of_pos n hd
  generalize n / d = q at *
  generalize n % d = r at *
  constructor
  · grind
  · grind
theorem ce_bd {n d : Int} (hd : 0 < d) : n ≤ -(-n / d) * d ∧ (-(-n / d) - 1) * d < n := by
  have h1 := fl_bd (n := -n) hd
  generalize -n / d = q at *
  constructor
  · grind
  · grind
theorem round_bd {n d : Int} (hd : 0 < d) : n / d ≤ (2 * n + d) / (2 * d) ∧ (2 * n + d) / (2 * d) ≤ -(-n / d) := by
  have h1 := fl_bd (n := n) hd
  have h2 := ce_bd (n := n) hd
  have h3 := fl_bd (n := 2 * n + d) (d := 2 * d) (by omega)
  generalize n / d = q at *
  generalize -(-n / d) = p at *
  generalize (2 * n + d) / (2 * d) = m at *
  constructor
  · have : q * d < (m + 1) * d := by grind
    have := Int.lt_of_mul_lt_mul_right this (by omega)
    omega
  · have : m * (2 * d) < (p + 1) * (2 * d) := by grind
    have := Int.lt_of_mul_lt_mul_right this (by omega)
    omega
theorem round_int {t : Int} : (2 * t + 1) / (2 * 1) = t := by omega
end Go.Abs
namespace Go.Abs

def wideH (H : Hor) : Hor := ⟨H.name, min 1000 (H.err + 1), H.picks⟩
def wideV (v : Int × Int) : Int × Int := (max 1 (v.1 - 1), min 1000 (v.2 + 1))

theorem wide_v {H : Hor} (v : HorV H) : HorV (wideH H) := ⟨v.nm, by have := v.e0; simp only [wideH]; omega, by simp only [wideH]; omega, v.ne, v.le, v.ok⟩
theorem wide_has {H : Hor} {x : Int} : hasS (wideH H) x = hasS H x := rfl
theorem wide_band {H : Hor} (v : HorV H) {x : Int} : (bandS (wideH H) x).1 ≤ (bandS H x).1 ∧ (bandS H x).2 ≤ (bandS (wideH H) x).2 := by
  have h1 := v.e1
  have e : atS ⟨H.name, min 1000 (H.err + 1), H.picks⟩ x = atS H x := rfl
  simp only [bandS, wideH, e]
  omega
theorem band_le {H : Hor} (v : HorV H) {x : Int} (hx : hasS H x = true) : (bandS H x).1 ≤ (bandS H x).2 ∧ (bandS H x).2 - (bandS H x).1 ≤ 2001 := by
  have b := at_bd v hx
  have h1 := fl_bd (n := (atS H x).1) (d := (atS H x).2) (by omega)
  have h2 := ce_bd (n := (atS H x).1) (d := (atS H x).2) (by omega)
  have e0 := v.e0
  have e1 := v.e1
  simp only [bandS]
  generalize (atS H x).1 / (atS H x).2 = q at *
  generalize -(-(atS H x).1 / (atS H x).2) = p at *
  have k1 : q * (atS H x).2 ≤ p * (atS H x).2 := by omega
  have k2 := Int.le_of_mul_le_mul_right k1 (by omega)
  have k3 : (p - 1) * (atS H x).2 < (q + 1) * (atS H x).2 := by omega
  have k4 := Int.lt_of_mul_lt_mul_right k3 (by omega)
  omega

theorem chkList_wide : ∀ {L : List Hor} {seen : List (List UInt8)}, chkListS seen L = 0 → chkListS seen (L.map wideH) = 0
  | [], _, _ => rfl
  | K :: r, seen, h => by
    unfold chkListS at h
    split at h
    · rename_i h1
      have h2 := firstS_zero.1 h1
      have v := horV_iff.1 (h2 _ List.mem_cons_self)
      have h3 := h2 _ (List.mem_cons_of_mem _ (List.mem_singleton_self _))
      rw [List.map_cons, chkListS]
      have h4 : firstS [chkHorS (wideH K), whenS (seen.any fun n => decide (n = (wideH K).name)) 9] = 0 := firstS_zero.2 fun y hy => by
        simp only [List.mem_cons, List.not_mem_nil, or_false] at hy
        rcases hy with rfl | rfl
        · exact horV_iff.2 (wide_v v)
        · exact h3
      rw [if_pos h4]
      exact chkList_wide h
    · rename_i h1; exact absurd h h1
theorem chkHors_wide {L : List Hor} (h : chkHorsS L = 0) : chkHorsS (L.map wideH) = 0 := by
  unfold chkHorsS at h ⊢
  rw [List.length_map]
  split at h
  · cases h
  · rename_i h1; rw [if_neg h1]; exact chkList_wide h
theorem vel_of {L : List Hor} {V : List (Int × Int)} (h1 : chkHorsS L = 0) (h2 : V.length = L.length) (h3 : ∀ v ∈ V, 1 ≤ v.1 ∧ v.1 ≤ 1000 ∧ 1 ≤ v.2 ∧ v.2 ≤ 1000 ∧ v.1 ≤ v.2) : chkVelS L V = 0 := by
  have hh : velHeadS L V = 0 := firstS_zero.2 fun y hy => by
    simp only [List.mem_cons, List.not_mem_nil, or_false] at hy
    rcases hy with rfl | rfl
    · exact h1
    · rw [whenS_zero (by decide)]; exact decide_eq_false (by omega)
  rw [chkVelS, if_pos hh]
  refine firstS_zero.2 fun y hy => ?_
  obtain ⟨v, hv, rfl⟩ := List.mem_map.1 hy
  have := h3 v hv
  exact iv_zero.2 (by omega)
theorem vel_wide {L : List Hor} {V : List (Int × Int)} (h : chkVelS L V = 0) : chkVelS (L.map wideH) (V.map wideV) = 0 := by
  have z := vel_zero h
  have hh : chkHorsS L = 0 := by
    unfold chkVelS at h
    split at h
    · rename_i h1; exact firstS_zero.1 h1 _ List.mem_cons_self
    · rename_i h1; exact absurd h h1
  refine vel_of (chkHors_wide hh) (by rw [List.length_map, List.length_map]; exact z.2.2.1) fun v hv => ?_
  obtain ⟨u, hu, rfl⟩ := List.mem_map.1 hv
  have := z.2.2.2 u hu
  simp only [wideV]
  omega
theorem all_wide {L : List Hor} {x : Int} : allHasS (L.map wideH) x = allHasS L x := by
  rw [allHasS, List.all_map, allHasS]; rfl

/-- One horizon more. -/
def depN (a d b v : Int × Int) : Int × Int := (d.1 + max 0 (b.1 - a.2) * v.1, d.2 + max 0 (b.2 - a.1) * v.2)
theorem depthsS_c {H : Hor} {v : Int × Int} {r : List (Hor × (Int × Int))} {a d : Int × Int} {x : Int} : depthsS a d ((H, v) :: r) x = depN a d (bandS H x) v :: depthsS (bandS H x) (depN a d (bandS H x) v) r x := rfl
theorem mul_mono {a b c d : Int} (h0 : 0 ≤ a) (h1 : a ≤ b) (h2 : 0 ≤ c) (h3 : c ≤ d) : a * c ≤ b * d :=
  Int.le_trans (Int.mul_le_mul_of_nonneg_right h1 h2) (Int.mul_le_mul_of_nonneg_left h3 (by omega))
theorem dep_step {a d a' d' b b' v : Int × Int} (v1 : 1 ≤ v.1 ∧ v.1 ≤ v.2 ∧ v.2 ≤ 1000) (ha : a'.1 ≤ a.1 ∧ a.1 ≤ a.2 ∧ a.2 ≤ a'.2) (hd : d'.1 ≤ d.1 ∧ d.1 ≤ d.2 ∧ d.2 ≤ d'.2) (hb : b'.1 ≤ b.1 ∧ b.1 ≤ b.2 ∧ b.2 ≤ b'.2) :
    (depN a' d' b' (wideV v)).1 ≤ (depN a d b v).1 ∧ (depN a d b v).2 ≤ (depN a' d' b' (wideV v)).2 ∧ (depN a d b v).1 ≤ (depN a d b v).2 ∧ d.1 ≤ (depN a d b v).1 ∧ d.2 ≤ (depN a d b v).2 := by
  have m1 := mul_mono (a := max 0 (b'.1 - a'.2)) (b := max 0 (b.1 - a.2)) (c := (wideV v).1) (d := v.1) (by omega) (by omega) (by simp only [wideV]; omega) (by simp only [wideV]; omega)
  have m2 := mul_mono (a := max 0 (b.2 - a.1)) (b := max 0 (b'.2 - a'.1)) (c := v.2) (d := (wideV v).2) (by omega) (by omega) (by omega) (by simp only [wideV]; omega)
  have m3 := mul_mono (a := max 0 (b.1 - a.2)) (b := max 0 (b.2 - a.1)) (c := v.1) (d := v.2) (by omega) (by omega) (by omega) (by omega)
  have m4 : 0 ≤ max 0 (b.1 - a.2) * v.1 := Int.mul_nonneg (by omega) (by omega)
  have m5 : 0 ≤ max 0 (b.2 - a.1) * v.2 := Int.mul_nonneg (by omega) (by omega)
  simp only [depN]
  generalize max 0 (b'.1 - a'.2) * (wideV v).1 = p1 at *
  generalize max 0 (b.1 - a.2) * v.1 = p2 at *
  generalize max 0 (b.2 - a.1) * v.2 = p3 at *
  generalize max 0 (b'.2 - a'.1) * (wideV v).2 = p4 at *
  omega
theorem true_step {a d b v : Int × Int} {time now depth sp : Int} (v1 : 1 ≤ v.1 ∧ v.1 ≤ sp ∧ sp ≤ v.2) (ht : a.1 ≤ time ∧ time ≤ a.2) (hd : d.1 ≤ depth ∧ depth ≤ d.2) (hn : b.1 ≤ now ∧ now ≤ b.2 ∧ time ≤ now) :
    (depN a d b v).1 ≤ depth + (now - time) * sp ∧ depth + (now - time) * sp ≤ (depN a d b v).2 := by
  have m1 := mul_mono (a := max 0 (b.1 - a.2)) (b := now - time) (c := v.1) (d := sp) (by omega) (by omega) (by omega) (by omega)
  have m2 := mul_mono (a := now - time) (b := max 0 (b.2 - a.1)) (c := sp) (d := v.2) (by omega) (by omega) (by omega) (by omega)
  simp only [depN]
  generalize max 0 (b.1 - a.2) * v.1 = p2 at *
  generalize max 0 (b.2 - a.1) * v.2 = p3 at *
  generalize (now - time) * sp = p4 at *
  omega

theorem depthsS_take : ∀ {r : List (Hor × (Int × Int))} {a d : Int × Int} {x : Int} {j : Nat}, depthsS a d (r.take j) x = (depthsS a d r x).take j
  | [], _, _, _, j => by simp [depthsS]
  | (H, v) :: r, a, d, x, 0 => by simp [depthsS]
  | (H, v) :: r, a, d, x, j + 1 => by
    rw [List.take_succ_cons, depthsS_c, depthsS_c, List.take_succ_cons, depthsS_take]
theorem depthAt_eq {L : List Hor} {V : List (Int × Int)} {j : Nat} {x : Int} (hj : j < (depthsS (0, 0) (0, 0) (L.zip V) x).length) : depthAtS L V j x = (depthsS (0, 0) (0, 0) (L.zip V) x)[j] := by
  have e : (L.take (j + 1)).zip (V.take (j + 1)) = (L.zip V).take (j + 1) := by simp only [List.zip, List.take_zipWith]
  rw [depthAtS, e, depthsS_take, List.getD_eq_getElem?_getD, List.getElem?_take]
  rw [if_pos (by omega), List.getElem?_eq_getElem hj]; rfl

theorem wells_all {L : List Hor} : ∀ {W : List Wl}, (∀ w ∈ W, well1S L w = 0 ∧ well2S L w = 0) → chkWellsLS L W = 0
  | [], _ => rfl
  | a :: r, h => by
    have h1 := h a List.mem_cons_self
    rw [chkWellsLS, if_pos h1.1, if_pos h1.2]
    exact wells_all fun w hw => h w (List.mem_cons_of_mem _ hw)
theorem mis_none {L : List Hor} {V : List (Int × Int)} {W : List Wl} (h : ∀ w ∈ W, mistB L V w = false) : ∀ {k : Nat}, k ≤ W.length → misK L V W k = []
  | 0, _ => rfl
  | k + 1, hk => by
    rw [misK_s (show k < W.length by omega), mis_none h (by omega), h _ (List.getElem_mem _)]; rfl
theorem fac_in {ok : Int → Bool} {c : Int} (hc : ok c = true) : ∀ (n : Nat) (f : Int) (out : Int × Int), 512 ≤ f → f + n ≤ 2049 → 512 ≤ out.1 → out.2 ≤ 2048 → (f ≤ c ∧ c < f + n ∨ (out.1 ≤ c ∧ c ≤ out.2)) →
    512 ≤ (facLoop ok n f out).1 ∧ (facLoop ok n f out).2 ≤ 2048 ∧ (facLoop ok n f out).1 ≤ c ∧ c ≤ (facLoop ok n f out).2
  | 0, f, out, h1, h2, h3, h4, h5 => by rw [facLoop]; omega
  | n + 1, f, out, h1, h2, h3, h4, h5 => by
    rw [facLoop]
    by_cases hg : ok f = true
    · rw [if_pos hg]
      refine fac_in hc n (f + 1) _ (by omega) (by omega) (by simp only; omega) (by simp only; omega) ?_
      simp only
      omega
    · rw [if_neg hg]
      have hne : f ≠ c := fun e => hg (e ▸ hc)
      exact fac_in hc n (f + 1) _ (by omega) (by omega) h3 h4 (by omega)
end Go.Abs
namespace Go.Abs

/-- What holds ahead of a horizon. -/
structure ClI (L : List (Hor × AV)) (V : List (Int × Int)) (x e : Int) (D M : List (Int × Int)) (k : Nat) (time depth : Int) (a d a' d' : Int × Int) (F : List Wl) : Prop where
  hk : k ≤ L.length
  hF : F.length ≤ k
  hD : ∃ Dk : List (Int × Int), Dk.length = k ∧ D = Dk ++ depthsS a d (((L.drop k).map (·.1)).zip (V.drop k)) x
  hM : ∃ Mk : List (Int × Int), Mk.length = k ∧ M = Mk ++ depthsS a' d' ((((L.drop k).map (·.1)).map wideH).zip ((V.drop k).map wideV)) x
  ha : a'.1 ≤ a.1 ∧ a.1 ≤ time ∧ time ≤ a.2 ∧ a.2 ≤ a'.2
  hd : d'.1 ≤ d.1 ∧ d.1 ≤ depth ∧ depth ≤ d.2 ∧ d.2 ≤ d'.2
  ab : -1000 ≤ a.1 ∧ a.2 ≤ 26000000
  db : 0 ≤ d.1 ∧ d.2 ≤ (k : Int) * 30000000000
  hw : ∀ w ∈ F, w.place = x ∧ w.err = e ∧ 0 ≤ w.depth ∧ w.depth ≤ 100000000 ∧ ∃ (j : Nat) (hj : j < D.length), w.hor = (j : Int) ∧ j < k ∧ D[j].1 ≤ w.depth ∧ w.depth ≤ D[j].2

theorem ClI.start {L : List (Hor × AV)} {V : List (Int × Int)} {x e : Int} : ClI L V x e (depthsS (0, 0) (0, 0) ((L.map (·.1)).zip V) x) (depthsS (0, 0) (0, 0) (((L.map (·.1)).map wideH).zip (V.map wideV)) x) 0 0 0 (0, 0) (0, 0) (0, 0) (0, 0) [] :=
  ⟨Nat.zero_le _, Nat.le_refl _, ⟨[], rfl, rfl⟩, ⟨[], rfl, rfl⟩, by decide, by decide, by decide, by decide, fun w h => by cases h⟩

section
variable {L : List (Hor × AV)} {V : List (Int × Int)} {x e : Int} {D M : List (Int × Int)} {k : Nat} {time depth : Int} {a d a' d' : Int × Int} {F : List Wl}
theorem ClI.get (c : ClI L V x e D M k time depth a d a' d' F) (hlt : k < L.length) (hV : V.length = L.length) :
    ∃ (h1 : k < D.length) (h2 : k < M.length), D[k] = depN a d (bandS L[k].1 x) (V[k]'(by omega)) ∧ M[k] = depN a' d' (bandS (wideH L[k].1) x) (wideV (V[k]'(by omega))) := by
  obtain ⟨Dk, l1, e1⟩ := c.hD
  obtain ⟨Mk, l2, e2⟩ := c.hM
  have hkV : k < V.length := by omega
  rw [List.drop_eq_getElem_cons hlt, List.drop_eq_getElem_cons hkV, List.map_cons, List.zip_cons_cons, depthsS_c] at e1
  rw [List.drop_eq_getElem_cons hlt, List.drop_eq_getElem_cons hkV, List.map_cons, List.map_cons, List.map_cons, List.zip_cons_cons, depthsS_c] at e2
  subst e1; subst e2
  refine ⟨by simp [l1], by simp [l2], ?_, ?_⟩
  · rw [List.getElem_append_right (by omega)]; simp [l1]
  · rw [List.getElem_append_right (by omega)]; simp [l2]
theorem ClI.cmp (c : ClI L V x e D M k time depth a d a' d' F) (hlt : k < L.length) (hV : V.length = L.length) (v : HorV L[k].1) (hx : hasS L[k].1 x = true) (v1 : 1 ≤ (V[k]'(by omega)).1 ∧ (V[k]'(by omega)).1 ≤ (V[k]'(by omega)).2 ∧ (V[k]'(by omega)).2 ≤ 1000) :
    ∃ (h1 : k < D.length) (h2 : k < M.length), D[k] = depN a d (bandS L[k].1 x) (V[k]'(by omega)) ∧ M[k].1 ≤ D[k].1 ∧ D[k].2 ≤ M[k].2 ∧ D[k].1 ≤ D[k].2 ∧ d.1 ≤ D[k].1 ∧ d.2 ≤ D[k].2 := by
  obtain ⟨h1, h2, e1, e2⟩ := c.get hlt hV
  have bl := band_le v hx
  have bw := wide_band v (x := x)
  have ha := c.ha
  have hd := c.hd
  have s1 := dep_step (a := a) (d := d) (a' := a') (d' := d') (b := bandS L[k].1 x) (b' := bandS (wideH L[k].1) x) (v := V[k]) ⟨v1.1, v1.2.1, v1.2.2⟩ (by omega) (by omega) (by omega)
  refine ⟨h1, h2, e1, ?_⟩
  rw [e1, e2]
  exact ⟨s1.1, s1.2.1, s1.2.2.1, s1.2.2.2.1, s1.2.2.2.2⟩
/-- The next horizon. -/
theorem ClI.next (c : ClI L V x e D M k time depth a d a' d' F) (hlt : k < L.length) (hV : V.length = L.length) (v : HorV L[k].1) (hx : hasS L[k].1 x = true) (v1 : 1 ≤ (V[k]'(by omega)).1 ∧ (V[k]'(by omega)).1 ≤ (V[k]'(by omega)).2 ∧ (V[k]'(by omega)).2 ≤ 1000)
    {now sp : Int} (hn : (bandS L[k].1 x).1 ≤ now ∧ now ≤ (bandS L[k].1 x).2 ∧ time ≤ now) (hs : (V[k]'(by omega)).1 ≤ sp ∧ sp ≤ (V[k]'(by omega)).2) :
    ClI L V x e D M (k + 1) now (depth + (now - time) * sp) (bandS L[k].1 x) (depN a d (bandS L[k].1 x) (V[k]'(by omega))) (bandS (wideH L[k].1) x) (depN a' d' (bandS (wideH L[k].1) x) (wideV (V[k]'(by omega)))) F := by
  have hkV : k < V.length := by omega
  obtain ⟨Dk, l1, e1⟩ := c.hD
  obtain ⟨Mk, l2, e2⟩ := c.hM
  rw [List.drop_eq_getElem_cons hlt, List.drop_eq_getElem_cons hkV, List.map_cons, List.zip_cons_cons, depthsS_c] at e1
  rw [List.drop_eq_getElem_cons hlt, List.drop_eq_getElem_cons hkV, List.map_cons, List.map_cons, List.map_cons, List.zip_cons_cons, depthsS_c] at e2
  have bb := band_bd v hx
  have bl := band_le v hx
  have bw := wide_band v (x := x)
  have ha := c.ha
  have hd := c.hd
  have ab := c.ab
  have db := c.db
  have s1 := dep_step (a := a) (d := d) (a' := a') (d' := d') (b := bandS L[k].1 x) (b' := bandS (wideH L[k].1) x) (v := V[k]) ⟨v1.1, v1.2.1, v1.2.2⟩ (by omega) (by omega) (by omega)
  have s2 := true_step (a := a) (d := d) (b := bandS L[k].1 x) (v := V[k]) (time := time) (now := now) (depth := depth) (sp := sp) ⟨v1.1, hs.1, hs.2⟩ (by omega) (by omega) hn
  have m2 := mul_bd (a := max 0 ((bandS L[k].1 x).2 - a.1)) (b := V[k].2) (A := 26000000) (B := 1000) (by omega) (by omega)
  have m3 : (depN a d (bandS L[k].1 x) V[k]).2 = d.2 + max 0 ((bandS L[k].1 x).2 - a.1) * V[k].2 := rfl
  refine ⟨by omega, by have := c.hF; omega, ⟨Dk ++ [depN a d (bandS L[k].1 x) V[k]], by simp [l1], by rw [e1, List.append_assoc]; rfl⟩, ⟨Mk ++ [depN a' d' (bandS (wideH L[k].1) x) (wideV V[k])], by simp [l2], by rw [e2, List.append_assoc]; rfl⟩, by omega, by omega, by omega, by omega, fun w hw => ?_⟩
  obtain ⟨q1, q2, q3, q4, j, hj, q5, q6, q7⟩ := c.hw w hw
  exact ⟨q1, q2, q3, q4, j, hj, q5, by omega, q7⟩
theorem ClI.add (c : ClI L V x e D M (k + 1) time depth a d a' d' F) (hF : F.length ≤ k) (hk : k < D.length) (hd : D[k].1 ≤ depth ∧ depth ≤ D[k].2) (h0 : 0 ≤ depth) (h1 : depth ≤ 100000000) : ClI L V x e D M (k + 1) time depth a d a' d' (F ++ [⟨x, k, depth, e⟩]) :=
  ⟨c.hk, by simp; omega, c.hD, c.hM, c.ha, c.hd, c.ab, c.db, fun w hw => by
    rcases List.mem_append.1 hw with hw | hw
    · exact c.hw w hw
    · rw [List.mem_singleton] at hw
      subst hw
      exact ⟨rfl, rfl, h0, h1, k, hk, rfl, by omega, hd⟩⟩
theorem fac_in' {ok : Int → Bool} (hc : ok 1024 = true) : 512 ≤ (facLoop ok 1537 512 (2049, 511)).1 ∧ (facLoop ok 1537 512 (2049, 511)).2 ≤ 2048 ∧ (facLoop ok 1537 512 (2049, 511)).1 ≤ 1024 ∧ 1024 ≤ (facLoop ok 1537 512 (2049, 511)).2 :=
  fac_in hc 1537 512 (2049, 511) (by omega) (by omega) (by simp only; omega) (by simp only; omega) (.inl (by omega))
/-- At the end the wells contradict nothing. -/
theorem ClI.fin (c : ClI L V x e (depthsS (0, 0) (0, 0) ((L.map (·.1)).zip V) x) M k time depth a d a' d' F) (hz : chkVelS (L.map (·.1)) V = 0) (ha : allHasS (L.map (·.1)) x = true) (hx : 0 ≤ x ∧ x ≤ 255) (he : 0 ≤ e ∧ e ≤ 255) :
    F.length ≤ 8 ∧ chkWellsS (L.map (·.1)) V F = 0 ∧ misK (L.map (·.1)) V F F.length = [] ∧ ∃ p q, factorsS (L.map (·.1)) V F = ((p, q), 0) ∧ 512 ≤ p ∧ p ≤ 1024 ∧ 1024 ≤ q ∧ q ≤ 2048 := by
  have z := vel_zero hz
  have hL8 : L.length ≤ 8 := by have := z.2.1; simpa using this
  have hk := c.hk
  have hF := c.hF
  have hat : ∀ w ∈ F, ∃ j : Nat, w.hor = (j : Int) ∧ j < L.length ∧ (depthAtS (L.map (·.1)) V w.hor.toNat w.place).1 ≤ w.depth ∧ w.depth ≤ (depthAtS (L.map (·.1)) V w.hor.toNat w.place).2 := fun w hw => by
    obtain ⟨q1, _, _, _, j, hj, q5, q6, q7, q8⟩ := c.hw w hw
    refine ⟨j, q5, by omega, ?_⟩
    rw [q1, q5, Int.toNat_natCast, depthAt_eq hj]
    exact ⟨q7, q8⟩
  have hW : chkWellsS (L.map (·.1)) V F = 0 := by
    have hh : wellHeadS (L.map (·.1)) V F = 0 := firstS_zero.2 fun y hy => by
      simp only [List.mem_cons, List.not_mem_nil, or_false] at hy
      rcases hy with rfl | rfl
      · exact hz
      · rw [whenS_zero (by decide)]; exact decide_eq_false (by omega)
    rw [chkWellsS, if_pos hh]
    refine wells_all fun w hw => ?_
    obtain ⟨q1, q2, q3, q4, j, hj, q5, q6, q7, q8⟩ := c.hw w hw
    constructor
    · refine firstS_zero.2 fun y hy => ?_
      simp only [List.mem_cons, List.not_mem_nil, or_false] at hy
      rcases hy with rfl | rfl
      · rw [rangeS_zero, q1]; exact hx
      · rw [whenS_zero (by decide), Bool.or_eq_false_iff, List.length_map]
        exact ⟨decide_eq_false (by omega), decide_eq_false (by omega)⟩
    · refine firstS_zero.2 fun y hy => ?_
      simp only [List.mem_cons, List.not_mem_nil, or_false] at hy
      rcases hy with rfl | rfl | rfl
      · rw [rangeS_zero]; exact ⟨q3, q4⟩
      · rw [rangeS_zero, q2]; omega
      · rw [whenS_zero (by decide), Bool.not_eq_false', q1, allHasS, List.all_eq_true]
        exact fun y hy => List.all_eq_true.1 ha y (List.mem_of_mem_take hy)
  refine ⟨by omega, hW, mis_none (fun w hw => ?_) (Nat.le_refl _), ?_⟩
  · obtain ⟨j, h1, h2, h3, h4⟩ := hat w hw
    obtain ⟨_, q2, _⟩ := c.hw w hw
    rw [mistB, decide_eq_false (by omega), decide_eq_false (by omega)]; rfl
  · obtain ⟨ok, hok'⟩ : ∃ ok : Int → Bool, ok = fun f => !F.any (badS (L.map (·.1)) V f) := ⟨_, rfl⟩
    have hok : ok 1024 = true := by
      rw [hok']
      simp only [Bool.not_eq_true', List.any_eq_false]
      intro w hw
      obtain ⟨j, h1, h2, h3, h4⟩ := hat w hw
      obtain ⟨_, q2, _⟩ := c.hw w hw
      rw [badS, decide_eq_false (by omega), decide_eq_false (by omega)]; simp
    have hf := fac_in' hok
    have hfs : facLoop ok 1537 512 (2049, 511) = facS (L.map (·.1)) V F := by rw [hok']; rfl
    rw [hfs] at hf
    have hfe : factorsS (L.map (·.1)) V F = if (facS (L.map (·.1)) V F).2 < (facS (L.map (·.1)) V F).1 then ((0, 0), 18) else (facS (L.map (·.1)) V F, 0) := by rw [factorsS, if_pos hW]
    rw [hfe]
    clear hfe hfs hok hok' hat hW
    generalize facS (L.map (·.1)) V F = fs at *
    obtain ⟨b1, b2, b3, b4⟩ := hf
    rw [if_neg (by omega)]
    exact ⟨fs.1, fs.2, rfl, b1, b3, b4, b2⟩
end
end Go.Abs
namespace Go.Abs

theorem setL_mid : ∀ (l x pre r : List AV), x.length = l.length → setL (pre ++ x ++ r) pre.length l = pre ++ l ++ r
  | [], x, pre, r, h => by
    have : x = [] := List.length_eq_zero_iff.1 h
    subst this; rfl
  | v :: l, [], pre, r, h => by simp at h
  | v :: l, y :: x, pre, r, h => by
    have e1 : (pre ++ (y :: x) ++ r).set pre.length v = (pre ++ [v]) ++ x ++ r := by
      rw [List.append_assoc, List.set_append_right _ _ (Nat.le_refl _), Nat.sub_self]
      simp
    have e2 : pre.length + 1 = (pre ++ [v]).length := by simp
    rw [setL_cons, e1, e2, setL_mid l x (pre ++ [v]) r (by simpa using h)]
    simp
theorem flatten_setL {es : Nat} {l : List AV} (hl : l.length = es) : ∀ {cs : List (List AV)}, (∀ x ∈ cs, x.length = es) → ∀ {i : Nat}, i < cs.length → setL cs.flatten (i * es) l = (cs.set i l).flatten
  | [], _, i, hi => absurd hi (Nat.not_lt_zero _)
  | c :: cs, h, 0, _ => by
    have hc : c.length = es := h c (List.mem_cons_self ..)
    rw [List.flatten_cons, Nat.zero_mul]
    have := setL_mid l c [] cs.flatten (by omega)
    simpa using this
  | c :: cs, h, i + 1, hi => by
    have hc : c.length = es := h c (List.mem_cons_self ..)
    have h1 := flatten_setL hl (cs := cs) (fun x hx => h x (List.mem_cons_of_mem _ hx)) (i := i) (by simpa using hi)
    have h2 : ∀ (l : List AV) (o : Nat) (d : List AV), setL (c ++ d) (c.length + o) l = c ++ setL d o l := fun l => by
      induction l with
      | nil => intro o d; rfl
      | cons v l ih =>
        intro o d
        rw [setL_cons, setL_cons, List.set_append_right _ _ (by omega), Nat.add_sub_cancel_left, show c.length + o + 1 = c.length + (o + 1) by omega, ih]
    rw [List.flatten_cons, Nat.succ_mul, Nat.add_comm, ← hc, h2, hc, h1]; rfl

section
variable {P : Program} {ro : Option Nat → Prop} {ks : List Kt} {ts : TS} {Q : Ex → TS → AHeap → Prop} {d : Option Nat} {l : List IOp}

/-- A store of a whole element into a slice of one's own. -/
theorem WR.puta {α : Type} {row : α → List AV} {L : List α} {h0 g : AHeap} {s : AV} {es i : Nat} {x' : α} {cl : List AV} (hs : Fr h0.length (h0 ++ g) s es (L.map row)) (hi : i < L.length) (hv : cl.all AV.one = true) (hx : row x' = cl) (hl : cl.length = es)
    (K : ∀ g', g'.length = g.length → Fr h0.length (h0 ++ g') s es ((L.set i x').map row) → (∀ b, (∀ b0 o n e, s = .slice b0 o n e → b ≠ b0) → (h0 ++ g')[b]? = (h0 ++ g)[b]?) → WP P ro l ks (put ts d undefA) (h0 ++ g') Q) :
    WR P ro (storeF es (elp s es i) (.agg cl) (fun b => (h0 ++ g)[b]?)) false d l ks ts (h0 ++ g) Q := by
  generalize hcs : L.map row = cs at hs
  have hcl : cs.length = L.length := by rw [← hcs, List.length_map]
  cases hs with
  | nil => simp at hcl; omega
  | @mk b _ _ tl hN hb he =>
    have hfl := flatten_len he
    have hie : i * es + es ≤ cs.flatten.length := by
      rw [hfl, hcl]
      have : (i + 1) * es ≤ L.length * es := Nat.mul_le_mul_right _ hi
      rw [Nat.succ_mul] at this; omega
    have hset : setL cs.flatten (i * es) cl = ((L.set i x').map row).flatten := by
      rw [flatten_setL hl he (by omega), List.map_set, hx, hcs]
    have hbl : b < (h0 ++ g).length := (List.getElem?_eq_some_iff.1 hb).1
    show WR P ro (storeF es (.ptr b (0 + i * es)) (.agg cl) (fun b => (h0 ++ g)[b]?)) false d l ks ts (h0 ++ g) Q
    rw [Nat.zero_add, storeF_at hb, stB_agg hl hv hie, WR_set, hset, List.set_append_right _ _ hN]
    refine K _ (by simp) ?_ fun b' hb' => ?_
    · have hl2 : ((L.set i x').map row).length = cs.length := by simp [hcl]
      rw [← hl2]
      refine Fr.mk hN (tl := tl) ?_ fun y hy => ?_
      · rw [List.getElem?_append_right hN, List.getElem?_set_self (by simp at hbl; omega)]
      · rw [List.map_set] at hy
        rcases List.mem_or_eq_of_mem_set hy with hy | hy
        · exact he y (by rw [← hcs]; exact hy)
        · rw [hy, hx, hl]
    · have hne := hb' b 0 _ _ rfl
      rw [← List.set_append_right _ _ hN, List.getElem?_set_ne (Ne.symm hne)]
end

section
variable {P : Program} (T : Tbl P) {h : AHeap}
include T
theorem r67 (a b : Int) : RCall P 67 [.int .i64 a, .int .i64 b] h (fun v _ => v = ratA (a, b)) := by
  refine .of T.mix T.c67 ?_
  unfold fn67
  simp only [wset, hset, dset, bset, Nat.reduceAdd, Nat.reduceMul, Nat.reduceLeDiff, Nat.reduceEqDiff]
end
end Go.Abs
namespace Go.Abs

def apartS (x y : Int × Int) : Bool := decide (x.2 < y.1) || decide (y.2 < x.1)
def movS (x : Int × Int) (s : Int) : Int × Int := (x.1 + s, x.2 + s)
def diffS (A B : Hor) (s x : Int) : Bool := apartS (bandS A x) (movS (bandS B x) s)
def cmpK (A B : Hor) (s : Int) (k : Nat) : List Int := ((placesS A B).take k).filter (diffS A B s)
def cmpS (A B : Hor) (s : Int) : List Int := (placesS A B).filter (diffS A B s)
def shiftE (A B : Hor) (s lo : Int) : Int := firstS [firstS [chkHorS A, chkHorS B], rangeS s lo 1000]
def chkShS (A B : Hor) (s lo : Int) : Int := if shiftE A B s lo = 0 then whenS (!decide (0 < (placesS A B).length)) 7 else shiftE A B s lo

theorem cmpK_s {A B : Hor} {s : Int} {k : Nat} (hk : k < (placesS A B).length) : cmpK A B s (k + 1) = cmpK A B s k ++ (if diffS A B s (placesS A B)[k] = true then [(placesS A B)[k]] else []) := by
  rw [cmpK, List.take_add_one, List.getElem?_eq_getElem hk, List.filter_append, cmpK]
  congr 1
  cases h : diffS A B s (placesS A B)[k] <;> simp [h]
theorem cmpK_len {A B : Hor} {s : Int} {k : Nat} (va : HorV A) : (cmpK A B s k).length ≤ 256 := by
  have h1 := places_le (B := B) va
  have h2 := List.length_filter_le (diffS A B s) ((placesS A B).take k)
  have h3 : ((placesS A B).take k).length ≤ (placesS A B).length := by rw [List.length_take]; omega
  exact Nat.le_trans h2 (Nat.le_trans h3 h1)
theorem cmpK_all {A B : Hor} {s : Int} : cmpK A B s (placesS A B).length = cmpS A B s := by rw [cmpK, List.take_length]; rfl
theorem cmpS_len {A B : Hor} {s : Int} (va : HorV A) : (cmpS A B s).length ≤ 256 := by rw [← cmpK_all]; exact cmpK_len va

theorem shift_ok {A B : Hor} {s lo : Int} (h : chkShS A B s lo = 0) : HorV A ∧ HorV B ∧ lo ≤ s ∧ s ≤ 1000 := by
  unfold chkShS at h
  split at h
  · rename_i he
    have hz := firstS_zero.1 (firstS_zero.1 he (firstS [chkHorS A, chkHorS B]) (by simp))
    have := rangeS_zero.1 (firstS_zero.1 he (rangeS s lo 1000) (by simp))
    exact ⟨horV_iff.1 (hz (chkHorS A) (by simp)), horV_iff.1 (hz (chkHorS B) (by simp)), this.1, this.2⟩
  · exact absurd h (by assumption)

section
variable {P : Program} (T : Tbl P) {h : AHeap}
include T

theorem r122 (x y : Int × Int) : RCall P 122 [.agg [.int .i64 x.1, .int .i64 x.2, .int .i64 y.1, .int .i64 y.2]] h (fun v _ => v = .bool (apartS x y)) := by
  refine .of T.mix T.c122 ?_
  unfold fn122
  simp only [wset, hset, dset, bset, Nat.reduceAdd, Nat.reduceMul, Nat.reduceLeDiff, Nat.reduceEqDiff, iada_0 (show 0 < 2 by decide), iada_1 (show 1 < 2 by decide)]
  by_cases c : x.2 < y.1
  · simp only [wset, hset, dset, bset, Nat.reduceAdd, Nat.reduceMul, Nat.reduceLeDiff, Nat.reduceEqDiff, eq_true c, decide_true]
    rw [apartS, decide_eq_true c]; rfl
  · simp only [wset, hset, dset, bset, Nat.reduceAdd, Nat.reduceMul, Nat.reduceLeDiff, Nat.reduceEqDiff, eq_false c, decide_false, iada_0 (show 0 < 2 by decide), iada_1 (show 1 < 2 by decide)]
    rw [apartS, decide_eq_false c]; rfl

theorem r143 (x : Int × Int) (s : Int) (h1 : -(2 ^ 40) ≤ x.1 ∧ x.1 ≤ 2 ^ 40) (h2 : -(2 ^ 40) ≤ x.2 ∧ x.2 ≤ 2 ^ 40) (h3 : -(2 ^ 40) ≤ s ∧ s ≤ 2 ^ 40) : RCall P 143 [ratA x, .int .i64 s] h (fun v _ => v = ratA (movS x s)) := by
  refine .of T.mix T.c143 ?_
  unfold fn143
  repeat (first | simp only [wset, hset, dset, bset, Nat.reduceAdd, Nat.reduceMul, Nat.reduceLeDiff, Nat.reduceEqDiff, wrap_in (n := x.1 + s) (by omega) (by omega), wrap_in (n := x.2 + s) (by omega) (by omega)] | simp (disch := first | (simp only [List.length_append, List.length_cons, List.length_nil] <;> omega) | rfl | omega | fail) only [kset, wset, hset, dset, bset, Nat.reduceAdd, Nat.reduceMul, Nat.reduceLeDiff, Nat.reduceEqDiff])
  rfl

theorem r139 {A B : Hor} {sa sb : AV} (oa : HorOk h A sa) (ob : HorOk h B sb) (s lo : Int) : RCall P 139 [horA A sa, horA B sb, .int .i64 s, .int .i64 lo] h (fun v _ => v = .int .i64 (chkShS A B s lo)) := by
  refine .of T.mix T.c139 ?_
  unfold fn139
  simp only [wset, hset, dset, bset, Nat.reduceAdd, Nat.reduceMul, Nat.reduceLeDiff, Nat.reduceEqDiff, oa.sl.one, ob.sl.one]
  refine WF.res T.c145 (r145 T (A := A) (B := B) (oa.ext (by repeat first | exact Ext.refl _ | refine Ext.app _ ?_)) (ob.ext (by repeat first | exact Ext.refl _ | refine Ext.app _ ?_))) ?_
  rintro _ g1 rfl
  simp only [wset, hset, dset, bset, Nat.reduceAdd, Nat.reduceMul, Nat.reduceLeDiff, Nat.reduceEqDiff]
  refine WF.res T.c108 (r108 T _ _ _) ?_
  rintro _ g2 rfl
  simp only [wset, hset, dset, bset, Nat.reduceAdd, Nat.reduceMul, Nat.reduceLeDiff, Nat.reduceEqDiff]
  refine WF.res T.c105 (r105 T (isSl_ints [_, _]) (by simp)) ?_
  rintro _ g3 rfl
  by_cases he : shiftE A B s lo = 0
  case neg =>
    simp only [wset, hset, dset, bset, Nat.reduceAdd, Nat.reduceMul, Nat.reduceLeDiff, Nat.reduceEqDiff, show decide (firstS [firstS [chkHorS A, chkHorS B], rangeS s lo 1000] ≠ 0) = true from decide_eq_true he]
    rw [chkShS, if_neg he]; rfl
  have hz := firstS_zero.1 (firstS_zero.1 he (firstS [chkHorS A, chkHorS B]) (by simp))
  have va := horV_iff.1 (hz (chkHorS A) (by simp))
  have vb := horV_iff.1 (hz (chkHorS B) (by simp))
  simp only [wset, hset, dset, bset, Nat.reduceAdd, Nat.reduceMul, Nat.reduceLeDiff, Nat.reduceEqDiff, show decide (firstS [firstS [chkHorS A, chkHorS B], rangeS s lo 1000] ≠ 0) = false from decide_eq_false (fun hne => hne he), oa.sl.one, ob.sl.one]
  refine WF.res T.c146 (r146 T (A := A) (B := B) (oa.ext (by repeat first | exact Ext.refl _ | refine Ext.app _ ?_)) (ob.ext (by repeat first | exact Ext.refl _ | refine Ext.app _ ?_)) va vb) ?_
  rintro _ g4 rfl
  simp only [wset, hset, dset, bset, Nat.reduceAdd, Nat.reduceMul, Nat.reduceLeDiff, Nat.reduceEqDiff]
  refine WF.res T.c106 (r106 T _ _) ?_
  rintro _ g5 rfl
  simp only [wset, hset, dset, bset, Nat.reduceAdd, Nat.reduceMul, Nat.reduceLeDiff, Nat.reduceEqDiff]
  rw [chkShS, if_pos he]

theorem r140 {A B : Hor} {sa sb : AV} (oa : HorOk h A sa) (ob : HorOk h B sb) (va : HorV A) (vb : HorV B) {s : Int} (hs : -1000 ≤ s ∧ s ≤ 1000) : RCall P 140 [horA A sa, horA B sb, .int .i64 s] h (fun s' h' => Fr h.length h' s' 1 ((cmpS A B s).map intRow)) := by
  refine .of T.mix T.c140 ?_
  unfold fn140
  simp only [wset, hset, dset, bset, Nat.reduceAdd, Nat.reduceMul, Nat.reduceLeDiff, Nat.reduceEqDiff, oa.sl.one, ob.sl.one]
  refine WF.res T.c114 (r114 T (A := A) (B := B) (oa.ext (by repeat first | exact Ext.refl _ | refine Ext.app _ ?_)) (ob.ext (by repeat first | exact Ext.refl _ | refine Ext.app _ ?_))) ?_
  rintro _ g2 ⟨ba, bb, rfl, hpre⟩
  simp only [wset, hset, dset, bset, Nat.reduceAdd, Nat.reduceMul, Nat.reduceLeDiff, Nat.reduceEqDiff]
  have hpl := places_le (B := B) va
  have hb5 : ∀ (z : Nat) n e sl, (h ++ [ABlk.cells [AV.str A.name, AV.int IntKind.i64 A.err, sa] true false] ++ [ABlk.cells [AV.str B.name, AV.int IntKind.i64 B.err, sb] true false] ++ [ABlk.cells [AV.int IntKind.i64 s] true false] ++ [ABlk.cells [AV.nilSlice] true false] ++ g2)[z]? = some (.cells [.str n, .int .i64 e, sl] true false) → z ≠ (h ++ [ABlk.cells [AV.str A.name, AV.int IntKind.i64 A.err, sa] true false] ++ [ABlk.cells [AV.str B.name, AV.int IntKind.i64 B.err, sb] true false] ++ [ABlk.cells [AV.int IntKind.i64 s] true false]).length := fun z n e sl hz hzz => by
    subst hzz
    rw [at_mid] at hz
    cases hz
  refine WC.iter T.mix T.c166 (a := []) (c := [.ptr ba 0, .ptr bb 0]) rfl (iter_common T (sa := sa) (sb := sb) va vb ba bb) (fun y hy => by obtain ⟨z, _, rfl⟩ := List.mem_map.1 hy; rfl)
    (fun i h' g => ∃ out, h' = h ++ [ABlk.cells [AV.str A.name, AV.int IntKind.i64 A.err, sa] true false] ++ [ABlk.cells [AV.str B.name, AV.int IntKind.i64 B.err, sb] true false] ++ [ABlk.cells [AV.int IntKind.i64 s] true false] ++ [ABlk.cells [out] true false] ++ g2 ∧ Fr (h'.length + 1) (h' ++ [.dead] ++ g) out 1 ((cmpK A B s i).map intRow)) (fun _ _ _ => False)
    ⟨.nilSlice, rfl, .nil⟩ (fun i h' g g' hI => ?_) (fun i h' g X hl hI => ?_) (fun i hi h' g X Y hl hI => ?_) (fun e h' g hl hI => ?_)
  · obtain ⟨out, h1, h2⟩ := hI
    exact ⟨out, h1, by rw [← List.append_assoc]; exact h2.app _⟩
  · obtain ⟨out, rfl, _⟩ := hI
    refine ⟨(Ext.app g (Ext.app [X] (Ext.refl _))).some ?_, (Ext.app g (Ext.app [X] (Ext.refl _))).some ?_, oa.ext (by repeat first | exact Ext.refl _ | refine Ext.app _ ?_), ob.ext (by repeat first | exact Ext.refl _ | refine Ext.app _ ?_)⟩
    · rw [at_swap (hb5 _ _ _ _ hpre.1)]; exact hpre.1
    · rw [at_swap (hb5 _ _ _ _ hpre.2.1)]; exact hpre.2.1
  · obtain ⟨out, rfl, hfr⟩ := hI
    rw [List.length_map] at hi
    have hx := places_get hi
    have hba := band_bd va hx.1
    have hbb := band_bd vb hx.2
    have hK := cmpK_s (s := s) hi
    have hkl := cmpK_len (B := B) (s := s) (k := i) va
    rw [List.getElem_map]
    generalize (placesS A B)[i] = x at *
    simp only [wset, hset, dset, bset, Nat.reduceAdd, Nat.reduceMul, Nat.reduceLeDiff, Nat.reduceEqDiff, setArgs]
    refine ⟨_, g, rfl, by simp, ?_⟩
    simp only [wset, hset, dset, bset, Nat.reduceAdd, Nat.reduceMul, Nat.reduceLeDiff, Nat.reduceEqDiff]
    refine WF.res T.c97 (r97 T (H := A) (oa.ext (by repeat first | exact Ext.refl _ | refine Ext.app _ ?_)) va hx.1) ?_
    rintro _ g3 rfl
    simp only [wset, hset, dset, bset, Nat.reduceAdd, Nat.reduceMul, Nat.reduceLeDiff, Nat.reduceEqDiff]
    refine WF.res T.c97 (r97 T (H := B) (ob.ext (by repeat first | exact Ext.refl _ | refine Ext.app _ ?_)) vb hx.2) ?_
    rintro _ g4 rfl
    simp only [wset, hset, dset, bset, Nat.reduceAdd, Nat.reduceMul, Nat.reduceLeDiff, Nat.reduceEqDiff]
    refine WF.res T.c143 (r143 T (bandS B x) s (by omega) (by omega) (by omega)) ?_
    rintro _ g5 rfl
    simp only [wset, hset, dset, bset, Nat.reduceAdd, Nat.reduceMul, Nat.reduceLeDiff, Nat.reduceEqDiff]
    refine WF.res T.c122 (r122 T (bandS A x) (movS (bandS B x) s)) ?_
    rintro _ g6 rfl
    have hN : ∀ (o' : AV) (X : ABlk), (h ++ [ABlk.cells [AV.str A.name, AV.int IntKind.i64 A.err, sa] true false] ++ [ABlk.cells [AV.str B.name, AV.int IntKind.i64 B.err, sb] true false] ++ [ABlk.cells [AV.int IntKind.i64 s] true false] ++ [ABlk.cells [o'] true false] ++ g2 ++ [X]).length = (h ++ [ABlk.cells [AV.str A.name, AV.int IntKind.i64 A.err, sa] true false] ++ [ABlk.cells [AV.str B.name, AV.int IntKind.i64 B.err, sb] true false] ++ [ABlk.cells [AV.int IntKind.i64 s] true false] ++ [ABlk.cells [out] true false] ++ g2).length + 1 := fun o' X => by simp only [List.length_append, List.length_cons, List.length_nil]; try omega
    have e9 : ∀ o', (h ++ [ABlk.cells [AV.str A.name, AV.int IntKind.i64 A.err, sa] true false] ++ [ABlk.cells [AV.str B.name, AV.int IntKind.i64 B.err, sb] true false] ++ [ABlk.cells [AV.int IntKind.i64 s] true false] ++ [ABlk.cells [o'] true false] ++ g2).length = (h ++ [ABlk.cells [AV.str A.name, AV.int IntKind.i64 A.err, sa] true false] ++ [ABlk.cells [AV.str B.name, AV.int IntKind.i64 B.err, sb] true false] ++ [ABlk.cells [AV.int IntKind.i64 s] true false] ++ [ABlk.cells [out] true false] ++ g2).length := fun o' => by simp only [List.length_append, List.length_cons, List.length_nil]
    have hfrB := hfr.swap' (hN out .dead) (hN out Y)
    cases hd : apartS (bandS A x) (movS (bandS B x) s) with
    | false =>
      have hd' : diffS A B s x = false := hd
      rw [hd', if_neg Bool.false_ne_true, List.append_nil] at hK
      simp only [wset, hset, dset, bset, Nat.reduceAdd, Nat.reduceMul, Nat.reduceLeDiff, Nat.reduceEqDiff]
      refine ⟨_, _, mid4, by simp only [List.length_append, List.length_cons, List.length_nil], ?_⟩
      rw [if_pos trivial]
      refine ⟨_, rfl, ?_⟩
      rw [hK]
      exact by simpa only [List.append_assoc] using ((((hfr.app g3).app g4).app g5).app g6)
    | true =>
      have hd' : diffS A B s x = true := hd
      rw [hd', if_pos rfl] at hK
      repeat (first | simp only [wset, hset, dset, bset, Nat.reduceAdd, Nat.reduceMul, Nat.reduceLeDiff, Nat.reduceEqDiff] | simp (disch := first | (simp only [List.length_append, List.length_cons, List.length_nil] <;> omega) | rfl | omega | fail) only [kset, wset, hset, dset, bset, Nat.reduceAdd, Nat.reduceMul, Nat.reduceLeDiff, Nat.reduceEqDiff])
      refine WR.app1 (h0 := h ++ [ABlk.cells [AV.str A.name, AV.int IntKind.i64 A.err, sa] true false] ++ [ABlk.cells [AV.str B.name, AV.int IntKind.i64 B.err, sb] true false] ++ [ABlk.cells [AV.int IntKind.i64 s] true false] ++ [ABlk.cells [out] true false] ++ g2 ++ [Y]) (cs := (cmpK A B s i).map intRow) (ys := [intRow x]) (by rw [hN]; exact (((((hfrB.app _).app _).app _).app _).app _)) (Fr.push (N := 0) (Nat.zero_le _) [intRow x] (by simp)).isSl (by decide) (by simp) (by simp; omega) (by repeat first | exact Ext.refl _ | refine Ext.app _ ?_) ?_
      intro g' hl' hff hkp
      have hrow : (cmpK A B s i).map intRow ++ [intRow x] = (cmpK A B s (i + 1)).map intRow := by rw [hK, List.map_append]; rfl
      rw [hrow, hN] at hff
      rw [hrow]
      simp only [wset, hset, dset, bset, Nat.reduceAdd, Nat.reduceMul, Nat.reduceLeDiff, Nat.reduceEqDiff]
      refine ⟨_, g', rfl, by simp only [List.length_append, List.length_cons, List.length_nil]; try omega, ?_⟩
      rw [if_pos trivial]
      refine ⟨_, rfl, ?_⟩
      rw [e9]
      exact hff.swap' (hN out Y) (hN _ .dead)
  · by_cases hen : e = .normal
    · subst hen
      rw [if_pos rfl] at hI
      obtain ⟨out, rfl, hfr⟩ := hI
      rw [List.length_map, cmpK_all] at hfr
      repeat (first | simp only [wset, hset, dset, bset, Nat.reduceAdd, Nat.reduceMul, Nat.reduceLeDiff, Nat.reduceEqDiff] | simp (disch := first | (simp only [List.length_append, List.length_cons, List.length_nil] <;> omega) | rfl | omega | fail) only [kset, wset, hset, dset, bset, Nat.reduceAdd, Nat.reduceMul, Nat.reduceLeDiff, Nat.reduceEqDiff])
      exact hfr.low (by simp only [List.length_append, List.length_cons, List.length_nil]; omega)
    · rw [if_neg hen] at hI
      exact hI.elim

theorem r72 {A B : Hor} {sa sb : AV} (oa : HorOk h A sa) (ob : HorOk h B sb) (x : Int) : RCall P 72 [horA A sa, horA B sb, .int .i64 x] h (fun v h' => ∃ s', v = .tup [s', .int .i64 (chkShS A B x (-1000))] ∧ IsSl h' s' 1 ((if chkShS A B x (-1000) = 0 then cmpS A B x else []).map intRow)) := by
  refine .of T.mix T.c72 ?_
  unfold fn72
  simp only [wset, hset, dset, bset, Nat.reduceAdd, Nat.reduceMul, Nat.reduceLeDiff, Nat.reduceEqDiff, oa.sl.one, ob.sl.one]
  refine WF.res T.c139 (r139 T (A := A) (B := B) (oa.ext (by repeat first | exact Ext.refl _ | refine Ext.app _ ?_)) (ob.ext (by repeat first | exact Ext.refl _ | refine Ext.app _ ?_)) _ _) ?_
  rintro _ g1 rfl
  by_cases he : chkShS A B x (-1000) = 0
  case neg =>
    simp only [wset, hset, dset, bset, Nat.reduceAdd, Nat.reduceMul, Nat.reduceLeDiff, Nat.reduceEqDiff, show decide (chkShS A B x (-1000) ≠ 0) = true from decide_eq_true he]
    rw [if_neg he]
    exact ⟨_, rfl, .nil⟩
  obtain ⟨va, vb, hx⟩ := shift_ok he
  rw [if_pos he]
  simp only [wset, hset, dset, bset, Nat.reduceAdd, Nat.reduceMul, Nat.reduceLeDiff, Nat.reduceEqDiff, show decide (chkShS A B x (-1000) ≠ 0) = false from decide_eq_false (fun hne => hne he), oa.sl.one, ob.sl.one]
  refine WF.res T.c140 (r140 T (A := A) (B := B) (oa.ext (by repeat first | exact Ext.refl _ | refine Ext.app _ ?_)) (ob.ext (by repeat first | exact Ext.refl _ | refine Ext.app _ ?_)) va vb hx) ?_
  rintro s' g2 hfr
  simp only [wset, hset, dset, bset, Nat.reduceAdd, Nat.reduceMul, Nat.reduceLeDiff, Nat.reduceEqDiff]
  exact ⟨s', by rw [he], hfr.isSl⟩
end
end Go.Abs
namespace Go.Abs

def depE (L : List Hor) (V : List (Int × Int)) (x : Int) : Int := if chkVelS L V = 0 then whenS (!allHasS L x) 14 else chkVelS L V

attribute [local irreducible] WP WC WE WB WR WF WL WG WRg
section
variable {P : Program} (T : Tbl P) {h : AHeap}
include T

theorem r41 {L : List (Hor × AV)} {s : AV} (o : HorsOk h L s) {V : List (Int × Int)} {sv : AV} (hv : IsSl h sv 2 (V.map ratRow)) (hvl : V.length ≤ 2 ^ 40) (x : Int) :
    RCall P 41 [s, sv, .int .i64 x] h (fun v h' => ∃ s', v = .tup [s', .int .i64 (depE (L.map (·.1)) V x)] ∧ IsSl h' s' 2 ((if depE (L.map (·.1)) V x = 0 then depthsS (0, 0) (0, 0) ((L.map (·.1)).zip V) x else []).map ratRow)) := by
  refine .of T.mix T.c41 ?_
  unfold fn41
  simp only [wset, hset, dset, bset, Nat.reduceAdd, Nat.reduceMul, Nat.reduceLeDiff, Nat.reduceEqDiff]
  refine WF.res T.c117 (r117 T o hv hvl) ?_
  rintro _ g1 rfl
  by_cases he : chkVelS (L.map (·.1)) V = 0
  case neg =>
    simp only [wset, hset, dset, bset, Nat.reduceAdd, Nat.reduceMul, Nat.reduceLeDiff, Nat.reduceEqDiff, show decide (chkVelS (L.map (·.1)) V ≠ 0) = true from decide_eq_true he]
    rw [depE, if_neg he, if_neg he]
    exact ⟨_, rfl, .nil⟩
  have z := vel_zero he
  have hVl : V.length = L.length := by have := z.2.2.1; simpa using this
  have hL8 : L.length ≤ 8 := by have := z.2.1; simpa using this
  have hn : ∀ y ∈ L, HorV y.1 := fun y hy => z.1 _ (List.mem_map_of_mem hy)
  simp only [wset, hset, dset, bset, Nat.reduceAdd, Nat.reduceMul, Nat.reduceLeDiff, Nat.reduceEqDiff, show decide (chkVelS (L.map (·.1)) V ≠ 0) = false from decide_eq_false (fun hne => hne he)]
  refine WF.res T.c118 (r118 T (o.ext (by repeat first | exact Ext.refl _ | refine Ext.app _ ?_)) (fun y hy => (hn y hy).ne) x) ?_
  rintro _ g2 rfl
  cases ha : allHasS (L.map (·.1)) x with
  | false =>
    simp only [wset, hset, dset, bset, Nat.reduceAdd, Nat.reduceMul, Nat.reduceLeDiff, Nat.reduceEqDiff, Bool.not_false]
    rw [depE, if_pos he, ha]
    exact ⟨_, rfl, .nil⟩
  | true =>
    simp only [wset, hset, dset, bset, Nat.reduceAdd, Nat.reduceMul, Nat.reduceLeDiff, Nat.reduceEqDiff, Bool.not_true]
    have hall : ∀ y ∈ L, hasS y.1 x = true := fun y hy => List.all_eq_true.1 ha _ (List.mem_map_of_mem hy)
    refine WF.res T.c119 (r119 T (o.ext (by repeat first | exact Ext.refl _ | refine Ext.app _ ?_)) (hv.ext (by repeat first | exact Ext.refl _ | refine Ext.app _ ?_)) hVl (by omega) (fun y hy => ⟨hn y hy, hall y hy⟩) (fun y hy => by have := z.2.2.2 y hy; omega)) ?_
    rintro s' g3 hs'
    simp only [wset, hset, dset, bset, Nat.reduceAdd, Nat.reduceMul, Nat.reduceLeDiff, Nat.reduceEqDiff]
    have e0 : depE (L.map (·.1)) V x = 0 := by rw [depE, if_pos he, ha]; rfl
    rw [e0, if_pos rfl]
    exact ⟨_, rfl, hs'⟩

theorem r43 {L : List (Hor × AV)} {s : AV} (o : HorsOk h L s) {V : List (Int × Int)} {sv : AV} (hv : IsSl h sv 2 (V.map ratRow)) (hvl : V.length ≤ 2 ^ 40) {W : List Wl} {sw : AV} (hw : IsSl h sw 4 (W.map wlRow)) :
    RCall P 43 [s, sv, sw] h (fun v h' => ∃ s', v = .tup [s', .int .i64 (chkWellsS (L.map (·.1)) V W)] ∧ IsSl h' s' 1 ((if chkWellsS (L.map (·.1)) V W = 0 then misK (L.map (·.1)) V W W.length else []).map intRow)) := by
  refine .of T.mix T.c43 ?_
  unfold fn43
  simp only [wset, hset, dset, bset, Nat.reduceAdd, Nat.reduceMul, Nat.reduceLeDiff, Nat.reduceEqDiff]
  refine WF.res T.c120 (r120 T o hv hvl hw) ?_
  rintro _ g1 rfl
  by_cases h0 : chkWellsS (L.map (·.1)) V W = 0
  case neg =>
    simp only [wset, hset, dset, bset, Nat.reduceAdd, Nat.reduceMul, Nat.reduceLeDiff, Nat.reduceEqDiff, show decide (chkWellsS (L.map (·.1)) V W ≠ 0) = true from decide_eq_true h0]
    rw [if_neg h0]
    exact ⟨_, rfl, .nil⟩
  obtain ⟨hz, hwl, ow⟩ := wells_ok h0
  have z := vel_zero hz
  have hVl : V.length = L.length := by have := z.2.2.1; simpa using this
  have hL8 : L.length ≤ 8 := by have := z.2.1; simpa using this
  rw [h0, if_pos rfl]
  simp only [wset, hset, dset, bset, Nat.reduceAdd, Nat.reduceMul, Nat.reduceLeDiff, Nat.reduceEqDiff, show decide ((0 : Int) ≠ 0) = false from rfl, hw.lenm]
  refine WL.inv T.mix (fun n ts h' => ∃ (k : Nat) (out : AV), k ≤ W.length ∧ n = W.length - k ∧ Ext h h' ∧ Fr h.length h' out 1 ((misK (L.map (·.1)) V W k).map intRow) ∧ ts.length = 48 ∧ slot ts 0 = s ∧ slot ts 1 = sv ∧ slot ts 9 = out ∧ slot ts 20 = sw ∧ slot ts 21 = .int .i64 W.length ∧ slot ts 22 = .int .i64 k) W.length
    ⟨0, .nilSlice, by omega, rfl, (by repeat first | with_reducible exact Ext.refl _ | refine Ext.app _ ?_), (show Fr h.length _ .nilSlice 1 [] from .nil), rfl, rfl, rfl, rfl, rfl, rfl, rfl⟩ ?_
  rintro _ ts _ ⟨k, out, hk, rfl, ⟨g, rfl⟩, hfr, hlen, t0, t1, t9, t20, t21, t22⟩
  rw [expl ts 48 hlen]
  by_cases hlt : k < W.length
  · have e3 : (k : Int) < W.length := by omega
    have hK := misK_s (L := L.map (·.1)) (V := V) hlt
    have hkl := misK_len (L := L.map (·.1)) (V := V) (W := W) (k := k)
    have hok := ow W[k] (List.getElem_mem hlt)
    have hix := hw.ixm (kk := .i64) hlt
    have hld : ∀ {kk : AHeap}, Ext h kk → loadF (some 4) (elp sw 4 k) (fun b => kk[b]?) = some (.agg (wlRow W[k]), .keep) := fun {kk} e => hw.ldm hlt e
    generalize W[k] = w at *
    have hd := hok.d
    have he := hok.e
    have hh0 := hok.h0
    have hhl := hok.hl
    simp only [wset, hset, dset, bset, Nat.reduceAdd, Nat.reduceMul, Nat.reduceLeDiff, Nat.reduceEqDiff, t0, t1, t9, t20, t21, t22, e3, decide_true, hix, hld]
    refine WF.res T.c121 (r121 T (o.ext (by repeat first | exact Ext.refl _ | refine Ext.app _ ?_)) (hv.ext (by repeat first | exact Ext.refl _ | refine Ext.app _ ?_)) hVl hL8 (w := w) (j := w.hor.toNat) (by omega) (by omega) (fun y hy => ⟨z.1 _ (List.mem_map_of_mem (List.mem_of_mem_take hy)), hok.ok y hy⟩) (fun y hy => by have := z.2.2.2 y hy; omega) hd he) ?_
    rintro _ g2 rfl
    have hmb : mistB (L.map (·.1)) V w = (decide ((depthAtS (L.map (·.1)) V w.hor.toNat w.place).2 < w.depth - w.err) || decide (w.depth + w.err < (depthAtS (L.map (·.1)) V w.hor.toNat w.place).1)) := rfl
    generalize depthAtS (L.map (·.1)) V w.hor.toNat w.place = D at *
    by_cases ce : D.1 = w.depth - w.err ∧ D.2 = w.depth + w.err
    · have hf : mistB (L.map (·.1)) V w = false := by rw [hmb, decide_eq_false (by omega), decide_eq_false (by omega)]; rfl
      rw [hf, if_neg (by simp), List.append_nil] at hK
      repeat (first | simp only [wset, hset, dset, bset, Nat.reduceAdd, Nat.reduceMul, Nat.reduceLeDiff, Nat.reduceEqDiff, t0, t1, t9, t20, t21, t22, iada_0 (show 0 < 2 by decide), ce.1, ce.2, decide_true, Bool.and_true, Bool.not_true, wrapN (show k + 1 < 2 ^ 63 by omega)] | simp (disch := first | (simp only [List.length_append, List.length_cons, List.length_nil] <;> omega) | rfl | omega | fail) only [kset, wset, hset, dset, bset, Nat.reduceAdd, Nat.reduceMul, Nat.reduceLeDiff, Nat.reduceEqDiff, t0, t1, t9, t20, t21, t22, iada_0 (show 0 < 2 by decide)])
      refine ⟨_, ?_, k + 1, out, by omega, rfl, ?_, rfl, rfl⟩
      · omega
      · rw [hK]; exact hfr.ext (by repeat first | with_reducible exact Ext.refl _ | refine Ext.app _ ?_)
    · have hne : (decide (D.1 = w.depth - w.err) && (decide (D.2 = w.depth + w.err) && true)) = false := by
        rw [Bool.eq_false_iff]; simp; intro a b; exact ce ⟨a, b⟩
      repeat (first | simp only [wset, hset, dset, bset, Nat.reduceAdd, Nat.reduceMul, Nat.reduceLeDiff, Nat.reduceEqDiff, t0, t1, t9, t20, t21, t22, iada_0 (show 0 < 2 by decide), decide_true, Bool.true_and, hne, Bool.not_false] | simp (disch := first | (simp only [List.length_append, List.length_cons, List.length_nil] <;> omega) | rfl | omega | fail) only [kset, wset, hset, dset, bset, Nat.reduceAdd, Nat.reduceMul, Nat.reduceLeDiff, Nat.reduceEqDiff, t0, t1, t9, t20, t21, t22, iada_0 (show 0 < 2 by decide)])
      refine WF.res T.c122 (r122 T (w.depth - w.err, w.depth + w.err) D) ?_
      rintro _ g3 rfl
      have hap : apartS (w.depth - w.err, w.depth + w.err) D = mistB (L.map (·.1)) V w := by rw [hmb, apartS, Bool.or_comm]
      rw [hap]
      cases hb : mistB (L.map (·.1)) V w with
      | false =>
        rw [hb, if_neg (by simp), List.append_nil] at hK
        simp only [wset, hset, dset, bset, Nat.reduceAdd, Nat.reduceMul, Nat.reduceLeDiff, Nat.reduceEqDiff, t0, t1, t9, t20, t21, t22, wrapN (show k + 1 < 2 ^ 63 by omega)]
        refine ⟨_, ?_, k + 1, out, by omega, rfl, ?_, rfl, rfl⟩
        · omega
        · rw [hK]; exact hfr.ext (by repeat first | with_reducible exact Ext.refl _ | refine Ext.app _ ?_)
      | true =>
        rw [hb, if_pos rfl] at hK
        repeat (first | simp only [wset, hset, dset, bset, Nat.reduceAdd, Nat.reduceMul, Nat.reduceLeDiff, Nat.reduceEqDiff, t0, t1, t9, t20, t21, t22] | simp (disch := first | (simp only [List.length_append, List.length_cons, List.length_nil] <;> omega) | rfl | omega | fail) only [kset, wset, hset, dset, bset, Nat.reduceAdd, Nat.reduceMul, Nat.reduceLeDiff, Nat.reduceEqDiff, t0, t1, t9, t20, t21, t22])
        refine WR.app1 (h0 := h) (cs := (misK (L.map (·.1)) V W k).map intRow) (ys := [intRow k]) ?f1 (Fr.push (N := 0) (Nat.zero_le _) [intRow k] (by simp)).isSl (by decide) (by simp) (by simp; omega) (by repeat first | with_reducible exact Ext.refl _ | refine Ext.app _ ?_) ?_
        case f1 => exact hfr.ext (by repeat first | with_reducible exact Ext.refl _ | refine Ext.app _ ?_)
        intro g' hl' hff hkp
        have hrow : (misK (L.map (·.1)) V W k).map intRow ++ [intRow k] = (misK (L.map (·.1)) V W (k + 1)).map intRow := by rw [hK, List.map_append]; rfl
        rw [hrow] at hff
        rw [hrow]
        simp only [wset, hset, dset, bset, Nat.reduceAdd, Nat.reduceMul, Nat.reduceLeDiff, Nat.reduceEqDiff, t0, t1, t9, t20, t21, t22, wrapN (show k + 1 < 2 ^ 63 by omega)]
        refine ⟨_, ?_, k + 1, _, by omega, rfl, hff, rfl, rfl⟩
        omega
  · have e3 : ¬ (k : Int) < W.length := by omega
    have e4 : k = W.length := by omega
    rw [e4] at hfr
    simp only [wset, hset, dset, bset, Nat.reduceAdd, Nat.reduceMul, Nat.reduceLeDiff, Nat.reduceEqDiff, t0, t1, t9, t20, t21, t22, e3, decide_false, if_true]
    exact ⟨_, rfl, hfr.isSl⟩

theorem r44 {W : List Wl} {sw : AV} (hw : IsSl h sw 4 (W.map wlRow)) (hl : W.length ≤ 2 ^ 40) : RCall P 44 [sw] h (fun v h' => IsSl h' v 4 (W.map wlRow)) := by
  refine .of T.mix T.c44 ?_
  unfold fn44
  simp only [wset, hset, dset, bset, Nat.reduceAdd, Nat.reduceMul, Nat.reduceLeDiff, Nat.reduceEqDiff, hw.lenm]
  refine WL.inv T.mix (fun n ts h' => ∃ (k : Nat) (out : AV), k ≤ W.length ∧ n = W.length - k ∧ Ext h h' ∧ Fr h.length h' out 4 ((W.take k).map wlRow) ∧ ts.length = 18 ∧ slot ts 3 = out ∧ slot ts 6 = sw ∧ slot ts 7 = .int .i64 W.length ∧ slot ts 8 = .int .i64 k) W.length
    ⟨0, .nilSlice, by omega, rfl, Ext.refl h, (show Fr h.length _ .nilSlice 4 [] from .nil), rfl, rfl, rfl, rfl, rfl⟩ ?_
  rintro _ ts _ ⟨k, out, hk, rfl, ⟨g, rfl⟩, hfr, hlen, t3, t6, t7, t8⟩
  rw [expl ts 18 hlen]
  by_cases hlt : k < W.length
  · have e3 : (k : Int) < W.length := by omega
    repeat (first | simp only [wset, hset, dset, bset, Nat.reduceAdd, Nat.reduceMul, Nat.reduceLeDiff, Nat.reduceEqDiff, t3, t6, t7, t8, e3, decide_true, hw.ixm hlt, hw.ldm hlt] | simp (disch := first | (simp only [List.length_append, List.length_cons, List.length_nil] <;> omega) | rfl | omega | fail) only [kset, wset, hset, dset, bset, Nat.reduceAdd, Nat.reduceMul, Nat.reduceLeDiff, Nat.reduceEqDiff, t3, t6, t7, t8])
    refine WR.app1 (h0 := h) (cs := (W.take k).map wlRow) (ys := [wlRow W[k]]) ?f1 (Fr.push (N := 0) (Nat.zero_le _) [wlRow W[k]] (by simp)).isSl (by decide) (by simp) (by simp; omega) (by repeat first | with_reducible exact Ext.refl _ | refine Ext.app _ ?_) ?_
    case f1 => exact hfr.ext (by repeat first | with_reducible exact Ext.refl _ | refine Ext.app _ ?_)
    intro g' hl' hff hkp
    have hrow : (W.take k).map wlRow ++ [wlRow W[k]] = (W.take (k + 1)).map wlRow := by rw [List.take_add_one, List.getElem?_eq_getElem hlt, List.map_append]; rfl
    rw [hrow] at hff
    rw [hrow]
    simp only [wset, hset, dset, bset, Nat.reduceAdd, Nat.reduceMul, Nat.reduceLeDiff, Nat.reduceEqDiff, t3, t6, t7, t8, wrapN (show k + 1 < 2 ^ 63 by omega)]
    refine ⟨_, ?_, k + 1, _, by omega, rfl, hff, rfl, rfl⟩
    omega
  · have e3 : ¬ (k : Int) < W.length := by omega
    have e4 : k = W.length := by omega
    rw [e4, List.take_length] at hfr
    simp only [wset, hset, dset, bset, Nat.reduceAdd, Nat.reduceMul, Nat.reduceLeDiff, Nat.reduceEqDiff, t3, t6, t7, t8, e3, decide_false, if_true]
    exact hfr.isSl
end
end Go.Abs
namespace Go.Abs
def ICode.tl : ICode → ICode
  | .seq _ b => b
  | c => c
def ICode.hd : ICode → ICode
  | .seq a _ => a
  | c => c
def ICode.dr : Nat → ICode → ICode
  | 0, c => c
  | n + 1, c => c.tl.dr n
theorem HorsOk.of_list {h : AHeap} {L L' : List (Hor × AV)} {v : AV} (hm : L'.map (·.1) = L.map (·.1)) (hs : IsSl h v 3 (L'.map horRow)) (he : ∀ x ∈ L', IsSl h x.2 2 (x.1.picks.map pkRow)) (hl : L.length < 2 ^ 63)
    (ha : ∀ x ∈ L, x.1.picks.length < 2 ^ 63 ∧ x.1.name.length < 2 ^ 63) : HorsOk h L' v := by
  refine ⟨hs, ?_, fun x hx => ?_⟩
  · have := congrArg List.length hm; simp at this; omega
  · have : x.1 ∈ L.map (·.1) := by rw [← hm]; exact List.mem_map_of_mem hx
    obtain ⟨y, hy, hxy⟩ := List.mem_map.1 this
    have := ha y hy
    rw [hxy] at this
    exact ⟨he x hx, this.1, this.2⟩


theorem short_all {L : List (Hor × AV)} (h : shortAllS (L.map (·.1)) = true) : L.length ≤ 2 ^ 40 ∧ ∀ x ∈ L, x.1.picks.length ≤ 2 ^ 40 := by
  simp only [shortAllS, Bool.and_eq_true, List.all_eq_true, List.length_map, Bool.or_eq_true, decide_eq_true_eq] at h
  refine ⟨by omega, fun x hx => ?_⟩
  have := h.1 x.1 (List.mem_map_of_mem hx)
  simp [shortS] at this; omega
theorem r28' {P : Program} (T : Tbl P) {h : AHeap} {L : List (Hor × AV)} {s : AV} (o : HorsOk h L s) (hs : shortAllS (L.map (·.1)) = true) :
    RCall P 28 [s] h (fun v h' => ∃ L' : List (Hor × AV), L'.map (·.1) = L.map (·.1) ∧ HorsOk h' L' v) := by
  have hL := short_all hs
  exact (r28 T o.sl hL.1 (fun y hy => ⟨(o.all y hy).sl, hL.2 y hy⟩)).mono fun v g ⟨L', hm, hsl, hel⟩ => ⟨L', hm, HorsOk.of_list hm hsl hel o.len (fun y hy => ⟨(o.all y hy).len, (o.all y hy).nm⟩)⟩
end Go.Abs
namespace Go.Abs
theorem pset :
    (∀ {ts : TS} {i j : Nat} {v : AV} (_ : (i = j) = False), slot (ts.set i v) j = slot ts j) ∧
    (∀ {ts : TS} {i : Nat} {v : AV} (_ : i + 1 ≤ ts.length), slot (ts.set i v) i = v) ∧
    (∀ {ts : TS} {i : Nat} {X : Prop} (_ : i + 1 ≤ ts.length), inS ts[i]? X = X) ∧
    (∀ {ts : TS} {i : Nat} {v : AV}, (ts.set i v).length = ts.length) := by
  refine ⟨fun {ts i j v} h => ?_, fun {ts i v} h => ?_, fun {ts i X} h => by rw [List.getElem?_eq_getElem h]; rfl, fun {ts i v} => List.length_set⟩
  · have hne : i ≠ j := fun e => by rw [← h]; exact e
    unfold slot
    rw [List.getD, List.getD, List.getElem?_set_ne hne]
  · unfold slot
    rw [List.getD, List.getElem?_set_self h]; rfl
end Go.Abs
