import Derived.Test.YtjhdkimkijhloaaGreatDoorTx13
import Derived.Lib.ItoaNum
import Derived.Lib.ItoaLen
import Derived.Lib.Join
import Derived.Lib.ItoaMem
import Derived.Laws.Externs
import Derived.Test.YtjhdkimkijhloaaGreatDoorTx6
import Derived.Test.YtjhdkimkijhloaaGreatDoorTx11
import Derived.Test.YtjhdkimkijhloaaGreatDoorTx12
import Derived.Test.YtjhdkimkijhloaaGreatDoorTx5
set_option linter.all false
open Nat (reduceAdd reduceMul reduceLeDiff reduceEqDiff)
namespace Go.Abs
theorem HsR.anew {h0 g K : AHeap} {L : List (Hor × AV)} {x : Hor × AV} {s p' s' : AV} {H' : Hor} (o : HsR h0.length (h0 ++ g) (L ++ [x]) s) (e : Ext (h0 ++ g) K) (hp : Fr (h0 ++ g).length K p' 2 (H'.picks.map pkRow)) (hs : Fr (h0 ++ g).length K s' 3 ((L ++ [(H', p')]).map horRow)) (hne : ∀ b, sB p' = some b → sB s' ≠ some b) :
    HsR h0.length K (L ++ [(H', p')]) s' := by
  obtain ⟨d1, d2, d3⟩ := List.pairwise_append.1 o.di
  have hL : ∀ y ∈ L, y ∈ L ++ [x] := fun y hy => List.mem_append.2 (.inl hy)
  have hN : h0.length ≤ (h0 ++ g).length := by simp
  refine ⟨hs.low hN, ?_, ?_, ?_⟩
  · intro y hy
    rcases List.mem_append.1 hy with hy | hy
    · exact (o.el y (hL y hy)).ext e
    · rw [List.mem_singleton] at hy; subst hy
      exact hp.low hN
  · intro y hy b hb
    rcases List.mem_append.1 hy with hy | hy
    · intro e2
      have h1 := ((o.el y (hL y hy)).sBlt hb).2
      have h2 := (hs.sBlt e2).1
      omega
    · rw [List.mem_singleton] at hy; subst hy
      exact hne b hb
  · refine List.pairwise_append.2 ⟨d1, List.pairwise_singleton _ _, ?_⟩
    intro y hy z hz b hb
    rw [List.mem_singleton] at hz; subst hz
    intro e2
    have h1 := ((o.el y (hL y hy)).sBlt hb).2
    have h2 := (hp.sBlt e2).1
    omega
theorem stepW_len {M : List Hor} {ws : List (List UInt8)} (h : ws.length ≠ 3) : stepW M ws = none := by
  match ws with
  | [] => rfl
  | [_] => rfl
  | [_, _] => rfl
  | [_, _, _] => exact absurd rfl h
  | _ :: _ :: _ :: _ :: _ => rfl
theorem stepW_bad {M : List Hor} {w x y : List UInt8} (hA : ¬ (w = hzS ∧ x ≠ [] ∧ digOk y = true)) (hB : ¬ (w = pkS ∧ digOk x = true ∧ digOk y = true ∧ M ≠ [])) : stepW M [w, x, y] = none := by
  rw [stepW]
  by_cases h1 : w = hzS
  · rw [if_pos h1, if_neg fun h => hA ⟨h1, h.1, h.2⟩]
  · rw [if_neg h1]
    by_cases h2 : w = pkS
    · rw [if_pos h2, if_neg fun h => hB ⟨h2, h⟩]
    · rw [if_neg h2]
def ln (k : Nat) : ICode := ((fn156).body.dr k).hd
def lnT (k : Nat) : ICode := (fn156).body.dr k
theorem ln_A : (fn156).body = .seq (ln 0) (.seq (ln 1) (.seq (ln 2) (.seq (ln 3) (.seq (ln 4) (lnT 5))))) := rfl
theorem ln_B : lnT 5 = .seq (ln 5) (.seq (ln 6) (lnT 7)) := rfl
theorem ln_C : lnT 7 = .seq (ln 7) (.seq (ln 8) (lnT 9)) := rfl
theorem ln_D : lnT 9 = .seq (ln 9) .ret := rfl
attribute [local irreducible] WP WC WE WB WR WF WL WG WRg
section
variable {P : Program} (T : Tbl P) {h0 g : AHeap}
include T
set_option maxRecDepth 10000 in
set_option maxHeartbeats 2000000 in
theorem line_C {ts : TS} {L : List (Hor × AV)} {H : Hor} {p s : AV} {x y : List UInt8} (hlen : ts.length = 94) (t0 : slot ts 0 = s) (t7 : slot ts 7 = .int .i64 (digN y)) (t9 : slot ts 9 = .int .i64 (digN x)) (o : HsR h0.length (h0 ++ g) (L ++ [(H, p)]) s) (hl : L.length ≤ 2 ^ 40) (hp : H.picks.length ≤ 2 ^ 40) (hx : digOk x = true) (hy : digOk y = true) :
    WC P inFn (lnT 7) [] ts (h0 ++ g) (FQ [(4, none), (5, none)] (ReadR h0 (L ++ [(H, p)]) [pkS, x, y])) := by
  obtain ⟨RR, hRR⟩ : ∃ RR, RR = lnT 9 := ⟨_, rfl⟩
  obtain ⟨W, hW⟩ : ∃ W, W = h0 ++ g := ⟨_, rfl⟩
  have hs := o.fr.isSl
  have hpf : IsSl (h0 ++ g) p 2 (H.picks.map pkRow) := (o.el (H, p) (by simp)).isSl
  rw [← hW] at hs hpf ⊢
  have hLl : (L ++ [(H, p)]).length = L.length + 1 := by simp
  have w1 : IntKind.i64.wrap (((L ++ [(H, p)]).length : Int) - 1) = ((L.length : Nat) : Int) := by rw [wrap_in (by omega) (by omega)]; omega
  have hi : L.length < (L ++ [(H, p)]).length := by omega
  have gi : (L ++ [(H, p)])[L.length] = (H, p) := by simp
  have ixl := hs.ixm (kk := .i64) hi
  have ldp : ∀ {kk : AHeap}, Ext W kk → loadF (some 3) (elp s 3 L.length) (fun b => kk[b]?) = some (horA H p, .keep) := fun {kk} e => by
    have := hs.ldm hi e
    rw [gi] at this; exact this
  rw [ln_C, ← hRR]
  unfold ln fn156
  simp only [ICode.dr, ICode.tl, ICode.hd]
  repeat (first | simp (maxSteps := 1000000) only [wset, hset, dset, bset, reduceAdd, reduceMul, reduceLeDiff, reduceEqDiff, pset, hlen, if_false, if_true, t0, t7, t9, hs.lenm, w1, ixl, ldp] | simp (maxSteps := 1000000) (disch := first | (simp only [List.length_append, List.length_cons, List.length_nil] <;> omega) | rfl | omega | fail) only [kset, wset, hset, dset, bset, reduceAdd, reduceMul, reduceLeDiff, reduceEqDiff, pset, hlen, if_false, if_true, t0, t7, t9, hs.lenm, w1, ixl, ldp])
  refine WF.res T.c79 (r79 T (H := H) hpf hp) ?_
  rintro _ g2 ⟨p2, rfl, hp2⟩
  repeat (first | simp (maxSteps := 1000000) only [wset, hset, dset, bset, reduceAdd, reduceMul, reduceLeDiff, reduceEqDiff, pset, hlen, if_false, if_true, t0, t7, t9, hp2.isSl.one] | simp (maxSteps := 1000000) (disch := first | (simp only [List.length_append, List.length_cons, List.length_nil] <;> omega) | rfl | omega | fail) only [kset, wset, hset, dset, bset, reduceAdd, reduceMul, reduceLeDiff, reduceEqDiff, pset, hlen, if_false, if_true, t0, t7, t9, hp2.isSl.one])
  refine WR.app1 (w := 16) (h0 := W) (cs := H.picks.map pkRow) (ys := [pkRow (digN x, digN y)]) ((hp2.app _).app _) (Fr.push (N := 0) (Nat.zero_le _) [pkRow (digN x, digN y)] (by simp)).isSl (by decide) (by simp) (by simp; omega) (by repeat first | with_reducible exact Ext.refl _ | refine Ext.app _ ?_) ?_
  intro g3 hl3 hF3 hk3
  have er : H.picks.map pkRow ++ [pkRow (digN x, digN y)] = (H.picks ++ [(digN x, digN y)]).map pkRow := by rw [List.map_append]; rfl
  rw [er] at hF3 ⊢
  have hbl : (W ++ g2).length < (W ++ g2 ++ [ABlk.cells [AV.str H.name, AV.int IntKind.i64 H.err, p2] true false] ++ [ABlk.cells [AV.int IntKind.i64 (digN x), AV.int IntKind.i64 (digN y)] true true]).length := by simp
  have hb11 : (W ++ g3)[(W ++ g2).length]? = some (.cells [AV.str H.name, AV.int IntKind.i64 H.err, p2] true false) := by
    rw [hk3 _ hbl (fun b0 o' n' e' he => by have := (hp2.lt he).2; omega)]
    exact at_mid
  have st : storeF 1 (.ptr (W ++ g2).length 2) (AV.slice (List.length (W ++ g2 ++ [ABlk.cells [AV.str H.name, AV.int IntKind.i64 H.err, p2] true false] ++ [ABlk.cells [AV.int IntKind.i64 (digN x), AV.int IntKind.i64 (digN y)] true true])) 0 (List.map pkRow (H.picks ++ [(digN x, digN y)])).length 2) (fun z => (W ++ g3)[z]?) = some (undefA, .set (W ++ g2).length (.cells [AV.str H.name, AV.int IntKind.i64 H.err, AV.slice (List.length (W ++ g2 ++ [ABlk.cells [AV.str H.name, AV.int IntKind.i64 H.err, p2] true false] ++ [ABlk.cells [AV.int IntKind.i64 (digN x), AV.int IntKind.i64 (digN y)] true true])) 0 (List.map pkRow (H.picks ++ [(digN x, digN y)])).length 2] true false)) := by
    rw [storeF_at hb11]; rfl
  generalize hp3 : AV.slice (List.length (W ++ g2 ++ [ABlk.cells [AV.str H.name, AV.int IntKind.i64 H.err, p2] true false] ++ [ABlk.cells [AV.int IntKind.i64 (digN x), AV.int IntKind.i64 (digN y)] true true])) 0 (List.map pkRow (H.picks ++ [(digN x, digN y)])).length 2 = p3 at hF3 st ⊢
  have hsB : ∀ b, sB p3 = some b → (W ++ g2).length < b := fun b hb => by rw [← hp3] at hb; cases hb; exact hbl
  have ho3 : p3.one = true := by rw [← hp3]; rfl
  have es : ∀ {K : ABlk}, (W ++ g3).set (W ++ g2).length K = W ++ g3.set ((W ++ g2).length - W.length) K := set_base (by simp)
  have hF4 : Fr W.length (W ++ g3.set ((W ++ g2).length - W.length) (ABlk.cells [AV.str H.name, AV.int IntKind.i64 H.err, p3] true false)) p3 2 ((H.picks ++ [(digN x, digN y)]).map pkRow) := by
    rw [← es]
    refine hF3.sBkeep fun b hb => ?_
    have := hsB b hb
    exact List.getElem?_set_ne (by omega)
  have hb4 : (W ++ g3.set ((W ++ g2).length - W.length) (ABlk.cells [AV.str H.name, AV.int IntKind.i64 H.err, p3] true false))[(W ++ g2).length]? = some (.cells [AV.str H.name, AV.int IntKind.i64 H.err, p3] true false) := by
    rw [← es]
    exact List.getElem?_set_self (List.getElem?_eq_some_iff.1 hb11).1
  have hbn : bnds none (some (AV.int .i64 (L.length : Int))) (L ++ [(H, p)]).length = some (0, L.length) := bnds_hi (by omega)
  obtain ⟨s1, esl, hs1⟩ := hs.slm hbn
  have et : List.take (L.length - 0) (List.drop 0 (L ++ [(H, p)])) = L := by simp
  rw [et] at hs1
  repeat (first | simp (maxSteps := 1000000) only [wset, hset, dset, bset, reduceAdd, reduceMul, reduceLeDiff, reduceEqDiff, pset, hlen, if_false, if_true, t0, st, es] | simp (maxSteps := 1000000) (disch := first | (simp only [List.length_append, List.length_cons, List.length_nil] <;> omega) | rfl | omega | fail) only [kset, wset, hset, dset, bset, reduceAdd, reduceMul, reduceLeDiff, reduceEqDiff, pset, hlen, if_false, if_true, t0, st, es])
  generalize g3.set ((W ++ g2).length - W.length) (ABlk.cells [AV.str H.name, AV.int IntKind.i64 H.err, p3] true false) = g4 at hF4 hb4 ⊢
  rw [hRR, ln_D]
  unfold ln fn156
  simp only [ICode.dr, ICode.tl, ICode.hd]
  repeat (first | simp (maxSteps := 1000000) only [wset, hset, dset, bset, reduceAdd, reduceMul, reduceLeDiff, reduceEqDiff, pset, hlen, if_false, if_true, t0, st, es, hs.lenm, w1, esl] | simp (maxSteps := 1000000) (disch := first | (simp only [List.length_append, List.length_cons, List.length_nil] <;> omega) | rfl | omega | fail) only [kset, wset, hset, dset, bset, reduceAdd, reduceMul, reduceLeDiff, reduceEqDiff, pset, hlen, if_false, if_true, t0, st, es, hs.lenm, w1, esl])
  refine WR.appz (N := (W ++ g4).length) at_new (Nat.le_refl _) (hs1.ext (by repeat first | with_reducible exact Ext.refl _ | refine Ext.app _ ?_)) (by simp; omega) fun s2 g5 hf5 => ?_
  have hb5 : (W ++ g4 ++ [ABlk.cells [] true false] ++ g5)[(W ++ g2).length]? = some (.cells [AV.str H.name, AV.int IntKind.i64 H.err, p3] true false) := Ext.some (by repeat first | with_reducible exact Ext.refl _ | refine Ext.app _ ?_) hb4
  have l5 : loadF (some 3) (.ptr (W ++ g2).length 0) (fun z => (W ++ g4 ++ [ABlk.cells [] true false] ++ g5)[z]?) = some (.agg [AV.str H.name, AV.int IntKind.i64 H.err, p3], .keep) := by rw [loadF_at hb5]; rfl
  repeat (first | simp (maxSteps := 1000000) only [wset, hset, dset, bset, reduceAdd, reduceMul, reduceLeDiff, reduceEqDiff, pset, hlen, if_false, if_true, t0, l5, ho3] | simp (maxSteps := 1000000) (disch := first | (simp only [List.length_append, List.length_cons, List.length_nil] <;> omega) | rfl | omega | fail) only [kset, wset, hset, dset, bset, reduceAdd, reduceMul, reduceLeDiff, reduceEqDiff, pset, hlen, if_false, if_true, t0, l5, ho3])
  refine WR.app1 (w := 48) (h0 := W) (cs := L.map horRow) (ys := [horRow ((⟨H.name, H.err, H.picks ++ [(digN x, digN y)]⟩ : Hor), p3)]) ((hf5.low (by simp)).app _) (Fr.push (N := 0) (Nat.zero_le _) [horRow ((⟨H.name, H.err, H.picks ++ [(digN x, digN y)]⟩ : Hor), p3)] (by simp)).isSl (by decide) (by simp) (by simp; omega) (by repeat first | with_reducible exact Ext.refl _ | refine Ext.app _ ?_) ?_
  intro g6 hl6 hF6 hk6
  have er2 : L.map horRow ++ [horRow ((⟨H.name, H.err, H.picks ++ [(digN x, digN y)]⟩ : Hor), p3)] = (L ++ [((⟨H.name, H.err, H.picks ++ [(digN x, digN y)]⟩ : Hor), p3)]).map horRow := by rw [List.map_append]; rfl
  rw [er2] at hF6 ⊢
  have hF7 : Fr W.length (W ++ g6) p3 2 ((H.picks ++ [(digN x, digN y)]).map pkRow) := by
    refine hF4.sBkeep fun b hb => ?_
    have hbl := (hF4.sBlt hb).2
    rw [hk6 b (by simp at hbl ⊢; omega) (fun b0 o' n' e' he => by have := (hf5.lt he).1; omega)]
    exact Ext.get (h := W ++ g4) (by repeat first | with_reducible exact Ext.refl _ | refine Ext.app _ ?_) hbl
  have hbs : ∀ b, sB p3 = some b → b < (W ++ g4).length := fun b hb => (hF4.sBlt hb).2
  repeat (first | simp (maxSteps := 1000000) only [wset, hset, dset, bset, reduceAdd, reduceMul, reduceLeDiff, reduceEqDiff, pset, hlen, if_false, if_true, t0] | simp (maxSteps := 1000000) (disch := first | (simp only [List.length_append, List.length_cons, List.length_nil] <;> omega) | rfl | omega | fail) only [kset, wset, hset, dset, bset, reduceAdd, reduceMul, reduceLeDiff, reduceEqDiff, pset, hlen, if_false, if_true, t0])
  refine ⟨g ++ g6, by rw [hW, List.append_assoc], ?_⟩
  rw [stepW, if_neg (by decide), if_pos rfl, if_pos ⟨hx, hy, by simp⟩]
  refine ⟨_, _, ?_, rfl, HsR.anew o (K := h0 ++ (g ++ g6)) (by rw [← List.append_assoc]; exact ⟨g6, rfl⟩) (p' := p3) (H' := ⟨H.name, H.err, H.picks ++ [(digN x, digN y)]⟩) ?_ ?_ ?_⟩
  · rw [List.map_append, List.map_append, List.map_cons, List.map_nil, List.map_cons, List.map_nil, addPk_app]
  · rw [← List.append_assoc, ← hW]; exact hF7
  · rw [← List.append_assoc, ← hW]; exact hF6
  · intro b hb e
    have h1 := hbs b hb
    cases e
    simp at h1
    omega
set_option maxRecDepth 10000 in
set_option maxHeartbeats 2000000 in
theorem line_B {g1 : AHeap} {ts : TS} {L : List (Hor × AV)} {s sw : AV} {w x y : List UInt8} (hlen : ts.length = 94) (t0 : slot ts 0 = s) (t6 : slot ts 6 = sw) (t7 : slot ts 7 = .int .i64 (if digOk y then digN y else 0)) (t8 : slot ts 8 = .bool (digOk y)) (o : HsR h0.length (h0 ++ g) L s) (hl : L.length ≤ 2 ^ 40) (hp : ∀ x ∈ L, x.1.picks.length ≤ 2 ^ 40)
    (hs : IsSl (h0 ++ g ++ g1) sw 1 ([w, x, y].map strRow)) (hA : ¬ (w = hzS ∧ x ≠ [] ∧ digOk y = true)) :
    WC P inFn (lnT 5) [] ts (h0 ++ g ++ g1) (FQ [(4, none), (5, none)] (ReadR h0 L [w, x, y])) := by
  have ix0 : iadrF 1 sw (.int .i64 0) = some (elp sw 1 0, .keep) := hs.ix0 (kk := .i64) (by simp)
  have ix1 : iadrF 1 sw (.int .i64 1) = some (elp sw 1 1, .keep) := hs.ixm (kk := .i64) (i := 1) (by simp)
  have ld0 := fun {kk : AHeap} (e : Ext (h0 ++ g ++ g1) kk) => hs.l1m (i := 0) (x := .str w) (by simp) rfl e
  have ld1 := fun {kk : AHeap} (e : Ext (h0 ++ g ++ g1) kk) => hs.l1m (i := 1) (x := .str x) (by simp) rfl e
  obtain ⟨RR, hRR⟩ : ∃ RR, RR = lnT 7 := ⟨_, rfl⟩
  rw [ln_B, ← hRR]
  unfold ln fn156
  simp only [ICode.dr, ICode.tl, ICode.hd]
  repeat (first | simp (maxSteps := 1000000) only [wset, hset, dset, bset, reduceAdd, reduceMul, reduceLeDiff, reduceEqDiff, pset, hlen, if_false, if_true, t0, t6, t7, t8, ix1, ld1] | simp (maxSteps := 1000000) (disch := first | (simp only [List.length_append, List.length_cons, List.length_nil] <;> omega) | rfl | omega | fail) only [kset, wset, hset, dset, bset, reduceAdd, reduceMul, reduceLeDiff, reduceEqDiff, pset, hlen, if_false, if_true, t0, t6, t7, t8, ix1, ld1])
  refine WF.res T.c198 (r198 T x) ?_
  rintro _ g2 rfl
  have hll := (o.fr.isSl.app g1).lenm
  by_cases h1 : w = pkS
  · have d1 : decide (w ≠ [112, 105, 99, 107]) = false := decide_eq_false fun h => h h1
    by_cases h2 : digOk x = true
    · by_cases h4 : digOk y = true
      · rcases List.eq_nil_or_concat L with rfl | ⟨L1, ⟨H, p⟩, rfl⟩
        · have d4 : decide ((([] : List (Hor × AV)).length : Int) = 0) = true := rfl
          repeat (first | simp (maxSteps := 1000000) only [wset, hset, dset, bset, reduceAdd, reduceMul, reduceLeDiff, reduceEqDiff, pset, hlen, if_false, if_true, t0, t6, t7, t8, ix0, ld0, d1, h2, h4, o.fr.isSl.lenm, d4, Bool.not_true] | simp (maxSteps := 1000000) (disch := first | (simp only [List.length_append, List.length_cons, List.length_nil] <;> omega) | rfl | omega | fail) only [kset, wset, hset, dset, bset, reduceAdd, reduceMul, reduceLeDiff, reduceEqDiff, pset, hlen, if_false, if_true, t0, t6, t7, t8, ix0, ld0, d1, h2, h4, o.fr.isSl.lenm, d4, Bool.not_true])
          exact .bad (stepW_bad hA (by simp)) (by repeat first | with_reducible exact Ext.refl _ | refine Ext.app _ ?_)
        · rw [List.concat_eq_append] at *
          have d4 : decide (((L1 ++ [(H, p)]).length : Int) = 0) = false := decide_eq_false (by simp; omega)
          repeat (first | simp (maxSteps := 1000000) only [wset, hset, dset, bset, reduceAdd, reduceMul, reduceLeDiff, reduceEqDiff, pset, hlen, if_false, if_true, t0, t6, t7, t8, ix0, ld0, d1, h2, h4, o.fr.isSl.lenm, d4, Bool.not_true] | simp (maxSteps := 1000000) (disch := first | (simp only [List.length_append, List.length_cons, List.length_nil] <;> omega) | rfl | omega | fail) only [kset, wset, hset, dset, bset, reduceAdd, reduceMul, reduceLeDiff, reduceEqDiff, pset, hlen, if_false, if_true, t0, t6, t7, t8, ix0, ld0, d1, h2, h4, o.fr.isSl.lenm, d4, Bool.not_true])
          rw [hRR]
          have o2 := o.app (g1 ++ g2)
          rw [List.append_assoc] at o2
          subst h1
          rw [List.append_assoc, List.append_assoc]
          exact line_C T (by simp only [wset, hset, dset, bset, reduceAdd, reduceMul, reduceLeDiff, reduceEqDiff, pset, hlen, if_false, if_true, t0]) (by simp only [wset, hset, dset, bset, reduceAdd, reduceMul, reduceLeDiff, reduceEqDiff, pset, hlen, if_false, if_true, t0]) (by simp only [wset, hset, dset, bset, reduceAdd, reduceMul, reduceLeDiff, reduceEqDiff, pset, hlen, if_false, if_true, t7, h4]) (by simp only [wset, hset, dset, bset, reduceAdd, reduceMul, reduceLeDiff, reduceEqDiff, pset, hlen, if_false, if_true, t0, h2]) o2 (by simp at hl; omega) (hp (H, p) (by simp)) h2 h4
      · have h4' : digOk y = false := by simpa using h4
        repeat (first | simp (maxSteps := 1000000) only [wset, hset, dset, bset, reduceAdd, reduceMul, reduceLeDiff, reduceEqDiff, pset, hlen, if_false, if_true, t0, t6, t7, t8, ix0, ld0, d1, h2, h4', Bool.not_true, Bool.not_false] | simp (maxSteps := 1000000) (disch := first | (simp only [List.length_append, List.length_cons, List.length_nil] <;> omega) | rfl | omega | fail) only [kset, wset, hset, dset, bset, reduceAdd, reduceMul, reduceLeDiff, reduceEqDiff, pset, hlen, if_false, if_true, t0, t6, t7, t8, ix0, ld0, d1, h2, h4', Bool.not_true, Bool.not_false])
        exact .bad (stepW_bad hA (by simp [h4'])) (by repeat first | with_reducible exact Ext.refl _ | refine Ext.app _ ?_)
    · have h2' : digOk x = false := by simpa using h2
      repeat (first | simp (maxSteps := 1000000) only [wset, hset, dset, bset, reduceAdd, reduceMul, reduceLeDiff, reduceEqDiff, pset, hlen, if_false, if_true, t0, t6, t7, t8, ix0, ld0, d1, h2', Bool.not_true, Bool.not_false] | simp (maxSteps := 1000000) (disch := first | (simp only [List.length_append, List.length_cons, List.length_nil] <;> omega) | rfl | omega | fail) only [kset, wset, hset, dset, bset, reduceAdd, reduceMul, reduceLeDiff, reduceEqDiff, pset, hlen, if_false, if_true, t0, t6, t7, t8, ix0, ld0, d1, h2', Bool.not_true, Bool.not_false])
      exact .bad (stepW_bad hA (by simp [h2'])) (by repeat first | with_reducible exact Ext.refl _ | refine Ext.app _ ?_)
  · have d1 : decide (w ≠ [112, 105, 99, 107]) = true := decide_eq_true h1
    repeat (first | simp (maxSteps := 1000000) only [wset, hset, dset, bset, reduceAdd, reduceMul, reduceLeDiff, reduceEqDiff, pset, hlen, if_false, if_true, t0, t6, t7, t8, ix0, ld0, d1, Bool.not_true, Bool.not_false] | simp (maxSteps := 1000000) (disch := first | (simp only [List.length_append, List.length_cons, List.length_nil] <;> omega) | rfl | omega | fail) only [kset, wset, hset, dset, bset, reduceAdd, reduceMul, reduceLeDiff, reduceEqDiff, pset, hlen, if_false, if_true, t0, t6, t7, t8, ix0, ld0, d1, Bool.not_true, Bool.not_false])
    exact .bad (stepW_bad hA (by simp [h1])) (by repeat first | with_reducible exact Ext.refl _ | refine Ext.app _ ?_)
set_option maxRecDepth 10000 in
set_option maxHeartbeats 2000000 in
theorem g156 {L : List (Hor × AV)} {s : AV} (o : HsR h0.length (h0 ++ g) L s) (hl : L.length ≤ 2 ^ 40) (hp : ∀ x ∈ L, x.1.picks.length ≤ 2 ^ 40) (l : List UInt8) (hll : l.length ≤ 2 ^ 40) :
    GCall P 156 [s, .str l] (h0 ++ g) (ReadR h0 L (splitB 32 l)) := by
  refine .of T.mix T.c156 ?_
  obtain ⟨ts, hts⟩ : ∃ ts, ts = startTS 94 [s, .str l] := ⟨_, rfl⟩
  have hlen : ts.length = 94 := by rw [hts]; rfl
  have t0 : slot ts 0 = s := by rw [hts]; rfl
  have t1 : slot ts 1 = .str l := by rw [hts]; rfl
  show WC P inFn (fn156).body [] (startTS 94 [s, .str l]) (h0 ++ g) _
  rw [← hts, ln_A]
  clear hts
  obtain ⟨RR, hRR⟩ : ∃ RR, RR = lnT 5 := ⟨_, rfl⟩
  rw [← hRR]
  unfold ln fn156
  simp only [ICode.dr, ICode.tl, ICode.hd]
  repeat (first | simp (maxSteps := 1000000) only [wset, hset, dset, bset, reduceAdd, reduceMul, reduceLeDiff, reduceEqDiff, pset, hlen, if_false, if_true, t0, t1] | simp (maxSteps := 1000000) (disch := first | (simp only [List.length_append, List.length_cons, List.length_nil] <;> omega) | rfl | omega | fail) only [kset, wset, hset, dset, bset, reduceAdd, reduceMul, reduceLeDiff, reduceEqDiff, pset, hlen, if_false, if_true, t0, t1])
  refine WF.res T.c90 (r90 T l 32 hll) ?_
  rintro sw g1 hw
  generalize splitB 32 l = ws at hw ⊢
  have hwl := hw.isSl.lenm
  by_cases h3 : ws.length = 3
  · match ws, h3 with
    | [w, x, y], _ =>
      have hs := hw.isSl
      have ix0 : iadrF 1 sw (.int .i64 0) = some (elp sw 1 0, .keep) := hs.ix0 (kk := .i64) (by simp)
      have ix1 : iadrF 1 sw (.int .i64 1) = some (elp sw 1 1, .keep) := hs.ixm (kk := .i64) (i := 1) (by simp)
      have ix2 : iadrF 1 sw (.int .i64 2) = some (elp sw 1 2, .keep) := hs.ixm (kk := .i64) (i := 2) (by simp)
      have ld0 := fun {kk : AHeap} (e : Ext (h0 ++ g ++ g1) kk) => hs.l1m (i := 0) (x := .str w) (by simp) rfl e
      have ld1 := fun {kk : AHeap} (e : Ext (h0 ++ g ++ g1) kk) => hs.l1m (i := 1) (x := .str x) (by simp) rfl e
      have ld2 := fun {kk : AHeap} (e : Ext (h0 ++ g ++ g1) kk) => hs.l1m (i := 2) (x := .str y) (by simp) rfl e
      have d3 : decide (([w, x, y].length : Int) ≠ 3) = false := rfl
      repeat (first | simp (maxSteps := 1000000) only [wset, hset, dset, bset, reduceAdd, reduceMul, reduceLeDiff, reduceEqDiff, pset, hlen, if_false, if_true, t0, t1, hwl, d3, ix0, ix1, ix2, ld0, ld1, ld2] | simp (maxSteps := 1000000) (disch := first | (simp only [List.length_append, List.length_cons, List.length_nil] <;> omega) | rfl | omega | fail) only [kset, wset, hset, dset, bset, reduceAdd, reduceMul, reduceLeDiff, reduceEqDiff, pset, hlen, if_false, if_true, t0, t1, hwl, d3, ix0, ix1, ix2, ld0, ld1, ld2])
      refine WF.res T.c198 (r198 T y) ?_
      rintro _ g2 rfl
      have hB : ∀ {ts2 : TS}, ts2.length = 94 → slot ts2 0 = s → slot ts2 6 = sw → slot ts2 7 = .int .i64 (if digOk y then digN y else 0) → slot ts2 8 = .bool (digOk y) → ¬ (w = hzS ∧ x ≠ [] ∧ digOk y = true) → WC P inFn RR [] ts2 (h0 ++ g ++ g1 ++ g2) (FQ [(4, none), (5, none)] (ReadR h0 L [w, x, y])) := by
        intro ts2 q1 q2 q3 q4 q5 q6
        rw [hRR, List.append_assoc _ g1 g2]
        refine line_B T q1 q2 q3 q4 q5 o hl hp ?_ q6
        rw [← List.append_assoc]
        exact hs.app g2
      by_cases h1 : w = hzS
      · have d1 : decide (w = [104, 111, 114, 105, 122, 111, 110]) = true := decide_eq_true h1
        by_cases h2 : x = []
        · have d2 : decide (x ≠ []) = false := by simp [h2]
          repeat (first | simp (maxSteps := 1000000) only [wset, hset, dset, bset, reduceAdd, reduceMul, reduceLeDiff, reduceEqDiff, pset, hlen, if_false, if_true, t0, t1, ix0, ix1, ld0, ld1, d1, d2] | simp (maxSteps := 1000000) (disch := first | (simp only [List.length_append, List.length_cons, List.length_nil] <;> omega) | rfl | omega | fail) only [kset, wset, hset, dset, bset, reduceAdd, reduceMul, reduceLeDiff, reduceEqDiff, pset, hlen, if_false, if_true, t0, t1, ix0, ix1, ld0, ld1, d1, d2])
          exact hB (by simp only [wset, hset, dset, bset, reduceAdd, reduceMul, reduceLeDiff, reduceEqDiff, pset, hlen, if_false, if_true, t0]) (by simp only [wset, hset, dset, bset, reduceAdd, reduceMul, reduceLeDiff, reduceEqDiff, pset, hlen, if_false, if_true, t0]) (by simp only [wset, hset, dset, bset, reduceAdd, reduceMul, reduceLeDiff, reduceEqDiff, pset, hlen, if_false, if_true, t0]) (by simp only [wset, hset, dset, bset, reduceAdd, reduceMul, reduceLeDiff, reduceEqDiff, pset, hlen, if_false, if_true, t0]) (by simp only [wset, hset, dset, bset, reduceAdd, reduceMul, reduceLeDiff, reduceEqDiff, pset, hlen, if_false, if_true, t0]) (by simp [h2])
        · have d2 : decide (x ≠ []) = true := by simp [h2]
          by_cases h4 : digOk y = true
          · repeat (first | simp (maxSteps := 1000000) only [wset, hset, dset, bset, reduceAdd, reduceMul, reduceLeDiff, reduceEqDiff, pset, hlen, if_false, if_true, t0, t1, ix0, ix1, ld0, ld1, d1, d2, h4] | simp (maxSteps := 1000000) (disch := first | (simp only [List.length_append, List.length_cons, List.length_nil] <;> omega) | rfl | omega | fail) only [kset, wset, hset, dset, bset, reduceAdd, reduceMul, reduceLeDiff, reduceEqDiff, pset, hlen, if_false, if_true, t0, t1, ix0, ix1, ld0, ld1, d1, d2, h4])
            refine WR.app1 (w := 48) (h0 := h0) (cs := L.map horRow) (ys := [horRow (⟨x, digN y, []⟩, AV.nilSlice)]) (((o.fr.app _).app _).app _) (Fr.push (N := 0) (Nat.zero_le _) [horRow (⟨x, digN y, []⟩, AV.nilSlice)] (by simp)).isSl (by decide) (by simp) (by simp; omega) (by repeat first | with_reducible exact Ext.refl _ | refine Ext.app _ ?_) ?_
            intro g3 hl2 hF2 hkp
            have er : L.map horRow ++ [horRow (⟨x, digN y, []⟩, AV.nilSlice)] = (L ++ [((⟨x, digN y, []⟩ : Hor), AV.nilSlice)]).map horRow := by rw [List.map_append]; rfl
            rw [er] at hF2 ⊢
            repeat (first | simp (maxSteps := 1000000) only [wset, hset, dset, bset, reduceAdd, reduceMul, reduceLeDiff, reduceEqDiff, pset, hlen, if_false, if_true, t0, t1] | simp (maxSteps := 1000000) (disch := first | (simp only [List.length_append, List.length_cons, List.length_nil] <;> omega) | rfl | omega | fail) only [kset, wset, hset, dset, bset, reduceAdd, reduceMul, reduceLeDiff, reduceEqDiff, pset, hlen, if_false, if_true, t0, t1])
            refine ⟨g3, rfl, ?_⟩
            rw [stepW, if_pos h1, if_pos ⟨h2, h4⟩]
            refine ⟨_, _, by rw [List.map_append]; rfl, rfl, HsR.addH (h := h0 ++ g ++ g1 ++ g2 ++ _) (((o.app _).app _).app _) rfl hF2 rfl fun b hb hs => hkp b hb fun b0 o' n' e' he => ?_⟩
            rintro rfl
            exact hs (by rw [he]; rfl)
          · have h4' : digOk y = false := by simpa using h4
            repeat (first | simp (maxSteps := 1000000) only [wset, hset, dset, bset, reduceAdd, reduceMul, reduceLeDiff, reduceEqDiff, pset, hlen, if_false, if_true, t0, t1, ix0, ix1, ld0, ld1, d1, d2, h4'] | simp (maxSteps := 1000000) (disch := first | (simp only [List.length_append, List.length_cons, List.length_nil] <;> omega) | rfl | omega | fail) only [kset, wset, hset, dset, bset, reduceAdd, reduceMul, reduceLeDiff, reduceEqDiff, pset, hlen, if_false, if_true, t0, t1, ix0, ix1, ld0, ld1, d1, d2, h4'])
            exact hB (by simp only [wset, hset, dset, bset, reduceAdd, reduceMul, reduceLeDiff, reduceEqDiff, pset, hlen, if_false, if_true, t0]) (by simp only [wset, hset, dset, bset, reduceAdd, reduceMul, reduceLeDiff, reduceEqDiff, pset, hlen, if_false, if_true, t0]) (by simp only [wset, hset, dset, bset, reduceAdd, reduceMul, reduceLeDiff, reduceEqDiff, pset, hlen, if_false, if_true, t0]) (by simp only [wset, hset, dset, bset, reduceAdd, reduceMul, reduceLeDiff, reduceEqDiff, pset, hlen, if_false, if_true, t0, h4']) (by simp only [wset, hset, dset, bset, reduceAdd, reduceMul, reduceLeDiff, reduceEqDiff, pset, hlen, if_false, if_true, t0, h4']) (by simp [h4'])
      · have d1 : decide (w = [104, 111, 114, 105, 122, 111, 110]) = false := decide_eq_false h1
        repeat (first | simp (maxSteps := 1000000) only [wset, hset, dset, bset, reduceAdd, reduceMul, reduceLeDiff, reduceEqDiff, pset, hlen, if_false, if_true, t0, t1, ix0, ix1, ld0, ld1, d1] | simp (maxSteps := 1000000) (disch := first | (simp only [List.length_append, List.length_cons, List.length_nil] <;> omega) | rfl | omega | fail) only [kset, wset, hset, dset, bset, reduceAdd, reduceMul, reduceLeDiff, reduceEqDiff, pset, hlen, if_false, if_true, t0, t1, ix0, ix1, ld0, ld1, d1])
        exact hB (by simp only [wset, hset, dset, bset, reduceAdd, reduceMul, reduceLeDiff, reduceEqDiff, pset, hlen, if_false, if_true, t0]) (by simp only [wset, hset, dset, bset, reduceAdd, reduceMul, reduceLeDiff, reduceEqDiff, pset, hlen, if_false, if_true, t0]) (by simp only [wset, hset, dset, bset, reduceAdd, reduceMul, reduceLeDiff, reduceEqDiff, pset, hlen, if_false, if_true, t0]) (by simp only [wset, hset, dset, bset, reduceAdd, reduceMul, reduceLeDiff, reduceEqDiff, pset, hlen, if_false, if_true, t0]) (by simp only [wset, hset, dset, bset, reduceAdd, reduceMul, reduceLeDiff, reduceEqDiff, pset, hlen, if_false, if_true, t0]) (by simp [h1])
  · have d3 : decide ((ws.length : Int) ≠ 3) = true := decide_eq_true (by omega)
    repeat (first | simp (maxSteps := 1000000) only [wset, hset, dset, bset, reduceAdd, reduceMul, reduceLeDiff, reduceEqDiff, pset, hlen, if_false, if_true, t0, t1, hwl, d3] | simp (maxSteps := 1000000) (disch := first | (simp only [List.length_append, List.length_cons, List.length_nil] <;> omega) | rfl | omega | fail) only [kset, wset, hset, dset, bset, reduceAdd, reduceMul, reduceLeDiff, reduceEqDiff, pset, hlen, if_false, if_true, t0, t1, hwl, d3])
    exact .bad (stepW_len h3) (by repeat first | with_reducible exact Ext.refl _ | refine Ext.app _ ?_)
end
end Go.Abs
namespace Go.Abs
theorem parsL_bad {M : List Hor} {p : List UInt8} {q : List (List UInt8)} (h : q ≠ [] ∧ stepP M p = none ∨ q = [] ∧ p ≠ []) : parsL M (p :: q) = (none, 0) := by
  rcases h with ⟨h1, h2⟩ | ⟨h1, h2⟩
  · cases q with
    | nil => exact absurd rfl h1
    | cons r rs => rw [parsL, h2]
  · subst h1
    rw [parsL, if_neg h2]
attribute [local irreducible] WP WC WE WB WR WF WL WG WRg
section
variable {P : Program} (T : Tbl P) {h : AHeap}
include T
set_option maxRecDepth 10000 in
set_option maxHeartbeats 2000000 in
theorem r87 (s : List UInt8) (hs : s.length ≤ 2 ^ 40) : RCall P 87 [.str s] h (ParseR h.length s) := by
  refine .of T.mix T.c87 ?_
  obtain ⟨ts, hts⟩ : ∃ ts, ts = startTS 55 [.str s] := ⟨_, rfl⟩
  have hlen : ts.length = 55 := by rw [hts]; rfl
  have t0 : slot ts 0 = .str s := by rw [hts]; rfl
  unfold fn87
  show WC P inFn _ [] (startTS 55 [.str s]) h _
  rw [← hts]
  clear hts
  by_cases h26 : 1000000 < s.length
  · have d0 : decide ((1000000 : Int) < s.length) = true := decide_eq_true (by omega)
    repeat (first | simp (maxSteps := 1000000) only [wset, hset, dset, bset, reduceAdd, reduceMul, reduceLeDiff, reduceEqDiff, pset, hlen, if_false, if_true, t0, d0] | simp (maxSteps := 1000000) (disch := first | (simp only [List.length_append, List.length_cons, List.length_nil] <;> omega) | rfl | omega | fail) only [kset, wset, hset, dset, bset, reduceAdd, reduceMul, reduceLeDiff, reduceEqDiff, pset, hlen, if_false, if_true, t0, d0])
    exact ⟨[], _, 0, 26, rfl, .nil, by rw [parseS, if_pos h26]; rfl⟩
  · have d0 : decide ((1000000 : Int) < s.length) = false := decide_eq_false (by omega)
    repeat (first | simp (maxSteps := 1000000) only [wset, hset, dset, bset, reduceAdd, reduceMul, reduceLeDiff, reduceEqDiff, pset, hlen, if_false, if_true, t0, d0] | simp (maxSteps := 1000000) (disch := first | (simp only [List.length_append, List.length_cons, List.length_nil] <;> omega) | rfl | omega | fail) only [kset, wset, hset, dset, bset, reduceAdd, reduceMul, reduceLeDiff, reduceEqDiff, pset, hlen, if_false, if_true, t0, d0])
    refine WF.res T.c90 (r90 T s 10 hs) ?_
    rintro sw g1 hw
    have hpsl : (splitB 10 s).length ≤ s.length + 1 := by
      have h2 := splitB_len (c := 10) (s := s)
      have h3 := List.count_le_length (a := (10 : UInt8)) (l := s)
      omega
    have hpl : ∀ p ∈ splitB 10 s, p.length ≤ s.length := fun p hp => splitB_le p hp
    have hpne : splitB 10 s ≠ [] := splitB_ne
    have hq : ∀ ps, ps = splitB 10 s → ∀ n, (parsL [] ps = (none, n) → parseS s = ([], n, 25)) ∧ (∀ M, parsL [] ps = (some M, n) → parseS s = if chkHorsS M = 0 then (M, 0, 0) else ([], n, chkHorsS M)) := fun ps e n => ⟨fun h => by rw [parseS, if_neg h26, ← e, h], fun M h => by rw [parseS, if_neg h26, ← e, h]⟩
    have hq := hq _ rfl
    generalize splitB 10 s = ps at hw hpsl hpl hpne hq
    have hps0 := List.length_pos_iff.2 hpne
    have hsl := hw.isSl
    repeat (first | simp (maxSteps := 1000000) only [wset, hset, dset, bset, reduceAdd, reduceMul, reduceLeDiff, reduceEqDiff, pset, hlen, if_false, if_true, t0, d0] | simp (maxSteps := 1000000) (disch := first | (simp only [List.length_append, List.length_cons, List.length_nil] <;> omega) | rfl | omega | fail) only [kset, wset, hset, dset, bset, reduceAdd, reduceMul, reduceLeDiff, reduceEqDiff, pset, hlen, if_false, if_true, t0, d0])
    refine WL.inv T.mix (fun n ts' h' => ∃ (k : Nat) (M : List Hor) (L : List (Hor × AV)) (sv : AV) (g' : AHeap), k ≤ ps.length ∧ n = ps.length - k ∧ h' = (h ++ g1) ++ g' ∧ L.map Prod.fst = M ∧ BndM k s.length M ∧ HsR (h ++ g1).length ((h ++ g1) ++ g') L sv ∧ (k < ps.length → foldP [] (ps.take k) = some M) ∧ (k = ps.length → parsL [] ps = (some M, ps.length - 1)) ∧
        ts'.length = 55 ∧ slot ts' 5 = sv ∧ slot ts' 6 = sw ∧ slot ts' 7 = .int .i64 k) ps.length
      ⟨0, [], [], .nilSlice, [], by omega, rfl, by rw [List.append_nil], rfl, ⟨by simp, by simp⟩, .nil, fun _ => rfl, fun h => by omega, (by simp only [wset, hset, dset, bset, reduceAdd, reduceMul, reduceLeDiff, reduceEqDiff, pset, hlen, if_false, if_true, t0]), (by simp only [wset, hset, dset, bset, reduceAdd, reduceMul, reduceLeDiff, reduceEqDiff, pset, hlen, if_false, if_true, t0]), (by simp only [wset, hset, dset, bset, reduceAdd, reduceMul, reduceLeDiff, reduceEqDiff, pset, hlen, if_false, if_true, t0]), (by simp only [wset, hset, dset, bset, reduceAdd, reduceMul, reduceLeDiff, reduceEqDiff, pset, hlen, if_false, if_true]; rfl)⟩ ?_
    rintro _ ts' _ ⟨k, M, L, sv, g', hk, rfl, rfl, hLM, hB, o, hf, hd, hlen', u5, u6, u7⟩
    clear hlen t0
    have hlen := hlen'
    have hLl : L.length = M.length := by rw [← hLM, List.length_map]
    have hbM := hB.1
    by_cases hlt : k < ps.length
    · have hf := hf hlt
      have e3 : (k : Int) < ps.length := by omega
      have ix := hsl.ixm (kk := .i64) hlt
      have ld := fun {kk : AHeap} (e : Ext (h ++ g1) kk) => hsl.l1m (i := k) (x := .str ps[k]) hlt rfl e
      have hpar := parsL_at hlt hf
      have hdrop : ps.drop k = ps[k] :: ps.drop (k + 1) := List.drop_eq_getElem_cons hlt
      rw [hdrop] at hpar
      have w1 : IntKind.i64.wrap ((ps.length : Int) - 1) = ((ps.length - 1 : Nat) : Int) := by rw [wrap_in (by omega) (by omega)]; omega
      have hpk := hpl _ (List.getElem_mem hlt)
      have hst := fun M' (h : stepP M ps[k] = some M') => foldP_step hlt hf h
      obtain ⟨p, hp⟩ : ∃ p, p = ps[k] := ⟨_, rfl⟩
      rw [← hp] at hpar ld hpk hst
      by_cases hlast : k + 1 = ps.length
      · have d1 : decide ((k : Int) = ((ps.length - 1 : Nat) : Int)) = true := decide_eq_true (by omega)
        have hd0 : ps.drop (k + 1) = [] := List.drop_eq_nil_of_le (by omega)
        rw [hd0] at hpar
        by_cases hp0 : p = []
        · have d2 : decide (p ≠ []) = false := by simp [hp0]
          repeat (first | simp (maxSteps := 1000000) only [wset, hset, dset, bset, reduceAdd, reduceMul, reduceLeDiff, reduceEqDiff, pset, hlen, if_false, if_true, u5, u6, u7, e3, decide_true, hsl.lenm, w1, d1, ix, ld, d2, wrapN (show k + 1 < 2 ^ 63 by omega)] | simp (maxSteps := 1000000) (disch := first | (simp only [List.length_append, List.length_cons, List.length_nil] <;> omega) | rfl | omega | fail) only [kset, wset, hset, dset, bset, reduceAdd, reduceMul, reduceLeDiff, reduceEqDiff, pset, hlen, if_false, if_true, u5, u6, u7, e3, decide_true, hsl.lenm, w1, d1, ix, ld, d2, wrapN (show k + 1 < 2 ^ 63 by omega)])
          refine ⟨ps.length - (k + 1), by omega, k + 1, M, L, sv, g', by omega, rfl, rfl, hLM, ⟨by omega, fun H hH => by have := hB.2 H hH; omega⟩, o, fun h => by omega, fun _ => ?_, rfl, rfl⟩
          rw [hpar, parsL, if_pos hp0]
          simp only [Prod.mk.injEq, true_and]; omega
        · have d2 : decide (p ≠ []) = true := by simp [hp0]
          repeat (first | simp (maxSteps := 1000000) only [wset, hset, dset, bset, reduceAdd, reduceMul, reduceLeDiff, reduceEqDiff, pset, hlen, if_false, if_true, u5, u6, u7, e3, decide_true, hsl.lenm, w1, d1, ix, ld, d2] | simp (maxSteps := 1000000) (disch := first | (simp only [List.length_append, List.length_cons, List.length_nil] <;> omega) | rfl | omega | fail) only [kset, wset, hset, dset, bset, reduceAdd, reduceMul, reduceLeDiff, reduceEqDiff, pset, hlen, if_false, if_true, u5, u6, u7, e3, decide_true, hsl.lenm, w1, d1, ix, ld, d2])
          rw [parsL_bad (.inr ⟨rfl, hp0⟩)] at hpar
          exact ⟨[], _, k, 25, rfl, .nil, (hq _).1 hpar⟩
      · have d1 : decide ((k : Int) = ((ps.length - 1 : Nat) : Int)) = false := decide_eq_false (by omega)
        have hdn : ps.drop (k + 1) ≠ [] := fun e => by have := congrArg List.length e; simp at this; omega
        repeat (first | simp (maxSteps := 1000000) only [wset, hset, dset, bset, reduceAdd, reduceMul, reduceLeDiff, reduceEqDiff, pset, hlen, if_false, if_true, u5, u6, u7, e3, decide_true, hsl.lenm, w1, d1, ix, ld] | simp (maxSteps := 1000000) (disch := first | (simp only [List.length_append, List.length_cons, List.length_nil] <;> omega) | rfl | omega | fail) only [kset, wset, hset, dset, bset, reduceAdd, reduceMul, reduceLeDiff, reduceEqDiff, pset, hlen, if_false, if_true, u5, u6, u7, e3, decide_true, hsl.lenm, w1, d1, ix, ld])
        refine WF.gen T.c156 (g156 T o (by omega) (fun x hx => by have := hB.2 x.1 (by rw [← hLM]; exact List.mem_map_of_mem hx); omega) p (by omega)) ?_
        rintro v _ ⟨g3, rfl, hR⟩
        rw [hLM] at hR
        have eP : stepW M (splitB 32 p) = stepP M p := rfl
        rw [eP] at hR
        cases hsp : stepP M p with
        | none =>
          rw [hsp] at hR
          obtain ⟨s', rfl⟩ := hR
          repeat (first | simp (maxSteps := 1000000) only [wset, hset, dset, bset, reduceAdd, reduceMul, reduceLeDiff, reduceEqDiff, pset, hlen, if_false, if_true, u5, u6, u7, Bool.not_false] | simp (maxSteps := 1000000) (disch := first | (simp only [List.length_append, List.length_cons, List.length_nil] <;> omega) | rfl | omega | fail) only [kset, wset, hset, dset, bset, reduceAdd, reduceMul, reduceLeDiff, reduceEqDiff, pset, hlen, if_false, if_true, u5, u6, u7, Bool.not_false])
          rw [parsL_bad (.inl ⟨hdn, hsp⟩)] at hpar
          exact ⟨[], _, k, 25, rfl, .nil, (hq _).1 hpar⟩
        | some M' =>
          rw [hsp] at hR
          obtain ⟨L', s', q7, rfl, ho⟩ := hR
          repeat (first | simp (maxSteps := 1000000) only [wset, hset, dset, bset, reduceAdd, reduceMul, reduceLeDiff, reduceEqDiff, pset, hlen, if_false, if_true, u5, u6, u7, Bool.not_true, wrapN (show k + 1 < 2 ^ 63 by omega)] | simp (maxSteps := 1000000) (disch := first | (simp only [List.length_append, List.length_cons, List.length_nil] <;> omega) | rfl | omega | fail) only [kset, wset, hset, dset, bset, reduceAdd, reduceMul, reduceLeDiff, reduceEqDiff, pset, hlen, if_false, if_true, u5, u6, u7, Bool.not_true, wrapN (show k + 1 < 2 ^ 63 by omega)])
          exact ⟨ps.length - (k + 1), by omega, k + 1, M', L', s', g3, by omega, rfl, rfl, q7, stepP_bnd hsp hB hpk, ho, fun _ => hst M' hsp, fun h => by omega, rfl, rfl⟩
    · have e3 : ¬ (k : Int) < ps.length := by omega
      have ek : k = ps.length := by omega
      have hd := hd ek
      have hok : HorsOk (h ++ g1 ++ g') L sv := o.hors (by rw [hLM]; exact hB) (by omega) (by omega)
      have w1 : IntKind.i64.wrap ((ps.length : Int) - 1) = ((ps.length - 1 : Nat) : Int) := by rw [wrap_in (by omega) (by omega)]; omega
      repeat (first | simp (maxSteps := 1000000) only [wset, hset, dset, bset, reduceAdd, reduceMul, reduceLeDiff, reduceEqDiff, pset, hlen, if_false, if_true, u5, u6, u7, e3, decide_false, hsl.lenm, w1] | simp (maxSteps := 1000000) (disch := first | (simp only [List.length_append, List.length_cons, List.length_nil] <;> omega) | rfl | omega | fail) only [kset, wset, hset, dset, bset, reduceAdd, reduceMul, reduceLeDiff, reduceEqDiff, pset, hlen, if_false, if_true, u5, u6, u7, e3, decide_false, hsl.lenm, w1])
      refine WF.res T.c29 (r29 T hok) ?_
      rintro _ g4 rfl
      rw [hLM]
      by_cases hch : chkHorsS M = 0
      · have d1 : decide (chkHorsS M ≠ 0) = false := decide_eq_false (by simp [hch])
        repeat (first | simp (maxSteps := 1000000) only [wset, hset, dset, bset, reduceAdd, reduceMul, reduceLeDiff, reduceEqDiff, pset, hlen, if_false, if_true, u5, u6, u7, d1] | simp (maxSteps := 1000000) (disch := first | (simp only [List.length_append, List.length_cons, List.length_nil] <;> omega) | rfl | omega | fail) only [kset, wset, hset, dset, bset, reduceAdd, reduceMul, reduceLeDiff, reduceEqDiff, pset, hlen, if_false, if_true, u5, u6, u7, d1])
        exact ⟨L, sv, 0, 0, rfl, (o.app g4).weak (by simp), by rw [(hq _).2 M hd, if_pos hch, hLM]⟩
      · have d1 : decide (chkHorsS M ≠ 0) = true := decide_eq_true hch
        repeat (first | simp (maxSteps := 1000000) only [wset, hset, dset, bset, reduceAdd, reduceMul, reduceLeDiff, reduceEqDiff, pset, hlen, if_false, if_true, u5, u6, u7, d1, hsl.lenm, w1] | simp (maxSteps := 1000000) (disch := first | (simp only [List.length_append, List.length_cons, List.length_nil] <;> omega) | rfl | omega | fail) only [kset, wset, hset, dset, bset, reduceAdd, reduceMul, reduceLeDiff, reduceEqDiff, pset, hlen, if_false, if_true, u5, u6, u7, d1, hsl.lenm, w1])
        exact ⟨[], _, ps.length - 1, _, rfl, .nil, by rw [(hq _).2 M hd, if_neg hch]; rfl⟩
end
end Go.Abs
namespace Go.Abs
def Pw (h : AHeap) : Prop := ∃ mu tl, h[2]? = some (.cells (Lib.pow10Tab.map (AV.int .u64)) mu tl)
theorem Pw.ext {h k : AHeap} (o : Pw h) (e : Ext h k) : Pw k := by
  obtain ⟨mu, tl, hb⟩ := o; exact ⟨mu, tl, e.some hb⟩
structure Prt (P : Program) : Prop where
  itoa : ∀ {h : AHeap} {n : Int}, -9223372036854775808 ≤ n → n ≤ 9223372036854775807 → Pw h → RCall P 188 [.int .i64 n] h (fun v _ => v = .str (Lib.itoa n))
  join : ∀ {h : AHeap} {s : AV} {sep : List UInt8} {xs : List (List UInt8)}, IsSl h s 1 (xs.map strRow) → (Lib.join xs sep).length ≤ 140737488355328 ∧ xs.length ≤ 140737488355328 → RCall P 149 [s, .str sep] h (fun v _ => v = .str (Lib.join xs sep))
def dcS (n : Int) : List UInt8 := Lib.decDigits n.toNat
theorem itoa_pos {n : Int} (h : 0 ≤ n) : Lib.itoa n = dcS n := by unfold Lib.itoa dcS; rw [if_neg (by omega)]
theorem dec_len : ∀ {k u : Nat}, u < 10 ^ (k + 1) → (Lib.decDigits u).length ≤ k + 1
  | 0, u, h => by rw [Lib.decDigits, dif_pos (by simpa using h)]; simp
  | k + 1, u, h => by
    by_cases hu : u < 10
    · rw [Lib.decDigits, dif_pos hu]; simp
    · rw [Lib.decDigits, dif_neg hu, List.length_append]
      have := dec_len (k := k) (u := u / 10) (by rw [Nat.pow_succ] at h; omega)
      simp; omega
theorem dcS_len {n : Int} (h1 : n ≤ 1000000) : (dcS n).length ≤ 7 := dec_len (k := 6) (by omega)
def pkTx (p : Pk) : List UInt8 := [112, 105, 99, 107, 32] ++ dcS p.1 ++ [32] ++ dcS p.2 ++ [10]
def hzTx (H : Hor) : List UInt8 := [104, 111, 114, 105, 122, 111, 110, 32] ++ H.name ++ [32] ++ dcS H.err ++ [10] ++ (H.picks.map pkTx).flatten
def txS (L : List Hor) : List UInt8 := (L.map hzTx).flatten
theorem join_e : ∀ {xs : List (List UInt8)}, Lib.join xs [] = xs.flatten
  | [] => rfl
  | x :: r => by rw [Lib.join_cons]; simp [Lib.joinTail]
theorem flat_le {α : Type} {F : α → List UInt8} {m : Nat} : ∀ {L : List α}, (∀ x ∈ L, (F x).length ≤ m) → (L.map F).flatten.length ≤ L.length * m
  | [], _ => by simp
  | x :: r, h => by
    have h1 := flat_le (L := r) fun y hy => h y (List.mem_cons_of_mem _ hy)
    have h2 := h x (by simp)
    rw [List.map_cons, List.flatten_cons, List.length_append, List.length_cons, Nat.succ_mul]; omega
structure HorT (H : Hor) : Prop where
  n0 : H.name.length ≤ 1000
  e0 : 0 ≤ H.err
  e1 : H.err ≤ 1000000
  pl : H.picks.length ≤ 1000
  pk : ∀ p ∈ H.picks, 0 ≤ p.1 ∧ p.1 ≤ 1000000 ∧ 0 ≤ p.2 ∧ p.2 ≤ 1000000
theorem pkTx_len {p : Pk} (h : p.1 ≤ 1000000 ∧ p.2 ≤ 1000000) : (pkTx p).length ≤ 21 := by
  have h1 := dcS_len h.1
  have h2 := dcS_len h.2
  unfold pkTx
  simp only [List.length_append, List.length_cons, List.length_nil]; omega
theorem hzTx_len {H : Hor} (o : HorT H) : (hzTx H).length ≤ 30000 := by
  have h1 := dcS_len o.e1
  have h2 := flat_le (F := pkTx) (m := 21) (L := H.picks) fun p hp => pkTx_len ⟨(o.pk p hp).2.1, (o.pk p hp).2.2.2⟩
  have h3 := o.n0
  have h4 := o.pl
  unfold hzTx
  simp only [List.length_append, List.length_cons, List.length_nil]; omega
attribute [local irreducible] WP WC WE WB WR WF WL WG WRg
section
variable {P : Program} (T : Tbl P) (K : Prt P) {h : AHeap}
include T K
set_option maxRecDepth 10000 in
theorem r190 {p : Pk} (hp : 0 ≤ p.1 ∧ p.1 ≤ 1000000 ∧ 0 ≤ p.2 ∧ p.2 ≤ 1000000) (w : Pw h) : RCall P 190 [.agg (pkRow p)] h (fun v _ => v = .str (pkTx p)) := by
  refine .of T.mix T.c190 ?_
  unfold fn190
  have h1 := dcS_len hp.2.1
  have h2 := dcS_len hp.2.2.2
  repeat (first | simp only [wset, hset, dset, bset, reduceAdd, reduceMul, reduceLeDiff, reduceEqDiff] | simp (disch := first | (simp only [List.length_append, List.length_cons, List.length_nil] <;> omega) | rfl | omega | fail) only [kset, wset, hset, dset, bset, reduceAdd, reduceMul, reduceLeDiff, reduceEqDiff])
  refine WF.res T.c188 (K.itoa (by omega) (by omega) (w.ext (by repeat first | with_reducible exact Ext.refl _ | refine Ext.app _ ?_))) ?_
  rintro _ g1 rfl
  rw [itoa_pos (by omega)]
  repeat (first | simp only [wset, hset, dset, bset, reduceAdd, reduceMul, reduceLeDiff, reduceEqDiff] | simp (disch := first | (simp only [List.length_append, List.length_cons, List.length_nil] <;> omega) | rfl | omega | fail) only [kset, wset, hset, dset, bset, reduceAdd, reduceMul, reduceLeDiff, reduceEqDiff, bin_cat])
  refine WF.res T.c188 (K.itoa (by omega) (by omega) (w.ext (by repeat first | with_reducible exact Ext.refl _ | refine Ext.app _ ?_))) ?_
  rintro _ g2 rfl
  rw [itoa_pos (by omega)]
  repeat (first | simp only [wset, hset, dset, bset, reduceAdd, reduceMul, reduceLeDiff, reduceEqDiff] | simp (disch := first | (simp only [List.length_append, List.length_cons, List.length_nil] <;> omega) | rfl | omega | fail) only [kset, wset, hset, dset, bset, reduceAdd, reduceMul, reduceLeDiff, reduceEqDiff, bin_cat])
  rfl
end
end Go.Abs
namespace Go.Abs
open Go.RowKit in
theorem join_ok {h : AHeap} {s : AV} {sep : List UInt8} {xs : List (List UInt8)} (hs : IsSl h s 1 (xs.map fun x => [AV.str x])) (hl : (Lib.join xs sep).length ≤ 140737488355328 ∧ xs.length ≤ 140737488355328) : SCall Go.Proofs.Tryz.prog 149 [s, .str sep] h (.str (Lib.join xs sep)) h := by
  intro m w vs hr hargs
  obtain ⟨v1, vs1, rfl, hv1, hr1⟩ := VRs_cons.1 hargs
  obtain ⟨v2, vs2, rfl, hv2, hr2⟩ := VRs_cons.1 hr1
  rw [VRs_nil] at hr2
  subst hr2
  rw [VR] at hv2
  subst hv2
  have fin : ∀ e w', (e = .returned (.string ⟨(Lib.join xs sep).toArray⟩) ∧ Below w.heap.size w w') → Rel Go.Proofs.Tryz.prog m h w (.str (Lib.join xs sep)) h e w' := by
    rintro e w' ⟨rfl, hb⟩
    exact ⟨_, m, rfl, rfl, ⟨hr.dom, fun b e k h1 h2 => (hr.blk b e k h1 h2).heap (hb.block _ (hr.lt b e h1)), hr.sep, hr.glob, fun b e h1 => Nat.lt_of_lt_of_le (hr.lt b e h1) hb.size⟩,
      ⟨fun _ _ => rfl, Nat.le_refl _, fun b e h1 h2 => absurd (hr.dom b e h2) (by omega), fun _ _ h => h, hb.size, hb.os, hb.output, hb.tape, fun i hi _ => hb.block i hi⟩⟩
  have zero : xs = [] → ∀ (a : Option Addr) (c : Nat), Calls Go.Proofs.Tryz.prog 149 #[.slice a 0 c, .string ⟨⟨sep⟩⟩] w (Rel Go.Proofs.Tryz.prog m h w (.str (Lib.join xs sep)) h) := fun hx a c => by
    refine (Go.Proofs.Tryz.strings_Join_none a c ⟨⟨sep⟩⟩ w).mono fun e w' ⟨he, hw⟩ => fin e w' ⟨?_, hw ▸ Below.refl _ _⟩
    rw [he, hx]; rfl
  have hlen := hs.lenm (fun _ => none)
  cases s with
  | nilSlice =>
    rw [VR] at hv1
    subst hv1
    simp only [Go.Abs.lenG, if_true, Option.some.injEq] at hlen
    exact zero (List.length_eq_zero_iff.1 hlen.symm) none 0
  | slice b o n es =>
    simp only [Go.Abs.lenG, if_true, Option.some.injEq] at hlen
    subst hlen
    rw [VR] at hv1
    obtain ⟨ent, ca, cap, he, rfl, hcap, hca, hsz⟩ := hv1
    by_cases hz : xs.length = 0
    · have hz' := List.length_eq_zero_iff.1 hz
      have := zero hz' (some ca) cap
      rw [hz]
      exact this
    · have hca' := hca (by omega)
      subst hca'
      generalize hcs : xs.map (fun x => [AV.str x]) = cs at hs
      have hcl : cs.length = xs.length := by rw [← hcs]; simp
      obtain ⟨_, c, mu, tl, hb, hf⟩ := hs.inv
      · obtain ⟨cc, el, fz, hheap, _, hcell, _⟩ := hr.blk b ent _ he hb
        have key := Go.Proofs.Tryz.strings_Join ent.cb (o + ent.d) cap (xs.map fun l => ⟨⟨l⟩⟩) ⟨⟨sep⟩⟩ w ?_ (hr.lt b ent he) (by rw [List.length_map]; exact hl.2) (by rw [List.length_map]; omega) ?_
        · rw [List.length_map] at key
          refine key.mono fun e w' ⟨he, hw⟩ => fin e w' ⟨?_, hw⟩
          rw [he, List.map_map]
          simp [Function.comp_def]
        · intro j x hx
          rw [List.getElem?_map, Option.map_eq_some_iff] at hx
          obtain ⟨l, hl', rfl⟩ := hx
          have hj : j < xs.length := (List.getElem?_eq_some_iff.1 hl').1
          have hflat : cs.flatten[j]? = some (.str l) := by
            rw [← hcs]
            have := strs_flat xs
            rw [this, List.getElem?_map, hl']; rfl
          rw [← hf, List.getElem?_take, if_pos (by omega), List.getElem?_drop] at hflat
          obtain ⟨_, cv, hcv, hvr⟩ := hcell _ _ hflat
          rw [VR] at hvr
          subst hvr
          simp only [World.cell?, hheap, Option.isSome_none, Bool.false_eq_true, if_false]
          rw [show o + ent.d + j = ent.d + (o + j) by omega]; exact hcv
        · rw [List.map_map]
          simpa [Function.comp_def] using hl.1
  | _ => cases hs
theorem prt : Prt Go.Proofs.Tryz.prog := by
  refine ⟨fun h0 h1 w => ?_, fun hs hl => ⟨_, [], by rw [List.append_nil]; exact join_ok hs hl, rfl⟩⟩
  obtain ⟨mu, tl, hb⟩ := w
  exact ⟨_, [], by rw [List.append_nil]; exact itoa_ok h0 h1 hb, rfl⟩
theorem xtn : Xtn Go.Proofs.Tryz.prog :=
  ⟨run_callFunc_extern Go.Proofs.Tryz.func231 (by kernel_rfl) (by kernel_rfl) (by kernel_rfl) (by kernel_rfl), run_callFunc_extern Go.Proofs.Tryz.func246 (by kernel_rfl) (by kernel_rfl) (by kernel_rfl) (by kernel_rfl)⟩
theorem pw0 {k : AHeap} (e : Ext glob0 k) : Pw k := ⟨_, _, e.some (show glob0[2]? = some (.cells (Lib.pow10Tab.map (AV.int .u64)) false false) from by kernel_rfl)⟩
end Go.Abs
namespace Go.Abs
attribute [local irreducible] WP WC WE WB WR WF WL WG WRg
section
variable {P : Program} (T : Tbl P) {h : AHeap}
include T
theorem r189 {L : List Pk} {s f : AV} (hs : IsSl h s 2 (L.map pkRow)) (hl : L.length ≤ 2 ^ 40) (F : Pk → List UInt8) (hf : ∀ x, x ∈ L → ∀ k, Ext h k → VCall P f [.agg (pkRow x)] k (fun v _ => v = .str (F x))) :
    RCall P 189 [s, f] h (fun v h' => IsSl h' v 1 ((L.map F).map strRow)) := by
  refine .of T.mix T.c189 ?_
  unfold fn189
  simp only [wset, hset, dset, bset, reduceAdd, reduceMul, reduceLeDiff, reduceEqDiff, hs.lenm]
  refine WL.inv T.mix (fun n ts h' => ∃ (k : Nat) (out : AV), k ≤ L.length ∧ n = L.length - k ∧ Ext h h' ∧ Fr h.length h' out 1 (((L.take k).map F).map strRow) ∧ ts.length = 22 ∧ slot ts 1 = f ∧ slot ts 5 = out ∧ slot ts 8 = s ∧ slot ts 9 = .int .i64 L.length ∧ slot ts 10 = .int .i64 k) L.length
    ⟨0, .nilSlice, by omega, rfl, Ext.refl h, .nil, rfl, rfl, rfl, rfl, rfl, rfl⟩ ?_
  rintro _ ts _ ⟨k, out, hk, rfl, ⟨g, rfl⟩, hfr, hlen, t1, t5, t8, t9, t10⟩
  rw [expl ts 22 hlen]
  by_cases hlt : k < L.length
  · have e3 : (k : Int) < L.length := by omega
    simp only [wset, hset, dset, bset, reduceAdd, reduceMul, reduceLeDiff, reduceEqDiff, t1, t5, t8, t9, t10, e3, decide_true, hs.ixm hlt, hs.ldm hlt]
    refine WF.val (hf L[k] (by simp) _ (by repeat first | exact Ext.refl _ | refine Ext.app _ ?_)) ?_
    rintro _ g1 rfl
    simp only [wset, hset, dset, bset, reduceAdd, reduceMul, reduceLeDiff, reduceEqDiff]
    refine WR.app1 (h0 := h) (cs := ((L.take k).map F).map strRow) (ys := [strRow (F L[k])]) ((((hfr.app _).app _).app _)) (Fr.push (N := 0) (Nat.zero_le _) [strRow (F L[k])] (by simp [strRow])).isSl (by decide) (by simp) (by simp; omega) (by simp only [eset]) ?_
    intro g' hl' hff hkp
    have hrow : ((L.take k).map F).map strRow ++ [strRow (F L[k])] = ((L.take (k + 1)).map F).map strRow := by rw [List.take_add_one, List.getElem?_eq_getElem hlt, List.map_append, List.map_append]; rfl
    rw [hrow] at hff
    rw [hrow]
    simp only [wset, hset, dset, bset, reduceAdd, reduceMul, reduceLeDiff, reduceEqDiff, t1, t5, t8, t9, t10, wrapN (show k + 1 < 2 ^ 63 by omega)]
    refine ⟨_, ?_, k + 1, _, by omega, rfl, hff, rfl, rfl⟩
    omega
  · have e3 : ¬ (k : Int) < L.length := by omega
    have e4 : k = L.length := by omega
    simp only [wset, hset, dset, bset, reduceAdd, reduceMul, reduceLeDiff, reduceEqDiff, t1, t5, t8, t9, t10, e3, decide_false, if_true]
    rw [e4, List.take_length] at hfr
    exact hfr.isSl
theorem r150 {L : List (Hor × AV)} {s f : AV} (hs : IsSl h s 3 (L.map horRow)) (ho : ∀ x ∈ L, x.2.one = true) (hl : L.length ≤ 2 ^ 40) (F : Hor × AV → List UInt8) (hf : ∀ x, x ∈ L → ∀ k, Ext h k → VCall P f [horA x.1 x.2] k (fun v _ => v = .str (F x))) :
    RCall P 150 [s, f] h (fun v h' => IsSl h' v 1 ((L.map F).map strRow)) := by
  refine .of T.mix T.c150 ?_
  unfold fn150
  simp only [wset, hset, dset, bset, reduceAdd, reduceMul, reduceLeDiff, reduceEqDiff, hs.lenm]
  refine WL.inv T.mix (fun n ts h' => ∃ (k : Nat) (out : AV), k ≤ L.length ∧ n = L.length - k ∧ Ext h h' ∧ Fr h.length h' out 1 (((L.take k).map F).map strRow) ∧ ts.length = 22 ∧ slot ts 1 = f ∧ slot ts 5 = out ∧ slot ts 8 = s ∧ slot ts 9 = .int .i64 L.length ∧ slot ts 10 = .int .i64 k) L.length
    ⟨0, .nilSlice, by omega, rfl, Ext.refl h, .nil, rfl, rfl, rfl, rfl, rfl, rfl⟩ ?_
  rintro _ ts _ ⟨k, out, hk, rfl, ⟨g, rfl⟩, hfr, hlen, t1, t5, t8, t9, t10⟩
  rw [expl ts 22 hlen]
  by_cases hlt : k < L.length
  · have e3 : (k : Int) < L.length := by omega
    have ldh : ∀ {kk : AHeap}, Ext h kk → loadF (some 3) (elp s 3 k) (fun b => kk[b]?) = some (horA L[k].1 L[k].2, .keep) := fun {kk} e => hs.ldm hlt e
    simp only [wset, hset, dset, bset, reduceAdd, reduceMul, reduceLeDiff, reduceEqDiff, t1, t5, t8, t9, t10, e3, decide_true, hs.ixm hlt, ldh, ho L[k] (by simp)]
    refine WF.val (hf L[k] (by simp) _ (by repeat first | exact Ext.refl _ | refine Ext.app _ ?_)) ?_
    rintro _ g1 rfl
    simp only [wset, hset, dset, bset, reduceAdd, reduceMul, reduceLeDiff, reduceEqDiff]
    refine WR.app1 (h0 := h) (cs := ((L.take k).map F).map strRow) (ys := [strRow (F L[k])]) ((((hfr.app _).app _).app _)) (Fr.push (N := 0) (Nat.zero_le _) [strRow (F L[k])] (by simp [strRow])).isSl (by decide) (by simp) (by simp; omega) (by simp only [eset]) ?_
    intro g' hl' hff hkp
    have hrow : ((L.take k).map F).map strRow ++ [strRow (F L[k])] = ((L.take (k + 1)).map F).map strRow := by rw [List.take_add_one, List.getElem?_eq_getElem hlt, List.map_append, List.map_append]; rfl
    rw [hrow] at hff
    rw [hrow]
    simp only [wset, hset, dset, bset, reduceAdd, reduceMul, reduceLeDiff, reduceEqDiff, t1, t5, t8, t9, t10, wrapN (show k + 1 < 2 ^ 63 by omega)]
    refine ⟨_, ?_, k + 1, _, by omega, rfl, hff, rfl, rfl⟩
    omega
  · have e3 : ¬ (k : Int) < L.length := by omega
    have e4 : k = L.length := by omega
    simp only [wset, hset, dset, bset, reduceAdd, reduceMul, reduceLeDiff, reduceEqDiff, t1, t5, t8, t9, t10, e3, decide_false, if_true]
    rw [e4, List.take_length] at hfr
    exact hfr.isSl
variable (K : Prt P)
include K
set_option maxRecDepth 10000 in
set_option maxHeartbeats 1000000 in
theorem r151 {H : Hor} {s : AV} (o : HorOk h H s) (v : HorT H) (w : Pw h) : RCall P 151 [horA H s] h (fun v _ => v = .str (hzTx H)) := by
  refine .of T.mix T.c151 ?_
  unfold fn151
  have h1 := dcS_len v.e1
  have h0 := v.n0
  have hfl := flat_le (F := pkTx) (m := 21) (L := H.picks) fun p hp => pkTx_len ⟨(v.pk p hp).2.1, (v.pk p hp).2.2.2⟩
  have hpl := v.pl
  repeat (first | simp only [wset, hset, dset, bset, reduceAdd, reduceMul, reduceLeDiff, reduceEqDiff, o.sl.one] | simp (disch := first | (simp only [List.length_append, List.length_cons, List.length_nil] <;> omega) | rfl | omega | fail) only [kset, wset, hset, dset, bset, reduceAdd, reduceMul, reduceLeDiff, reduceEqDiff, bin_cat, o.sl.one])
  refine WF.res T.c188 (K.itoa (by have := v.e0; omega) (by have := v.e1; omega) (w.ext (by repeat first | with_reducible exact Ext.refl _ | refine Ext.app _ ?_))) ?_
  rintro _ g1 rfl
  rw [itoa_pos v.e0]
  repeat (first | simp only [wset, hset, dset, bset, reduceAdd, reduceMul, reduceLeDiff, reduceEqDiff] | simp (disch := first | (simp only [List.length_append, List.length_cons, List.length_nil] <;> omega) | rfl | omega | fail) only [kset, wset, hset, dset, bset, reduceAdd, reduceMul, reduceLeDiff, reduceEqDiff, bin_cat])
  refine WF.res T.c189 (r189 T (o.sl.ext (by repeat first | with_reducible exact Ext.refl _ | refine Ext.app _ ?_)) (by omega) pkTx (fun x hx k e => VCall.of (a := []) (c := []) T.c190 (r190 T K (v.pk x hx) (w.ext (Ext.trans (by repeat first | with_reducible exact Ext.refl _ | refine Ext.app _ ?_) e))))) ?_
  rintro sv g2 hsv
  repeat (first | simp only [wset, hset, dset, bset, reduceAdd, reduceMul, reduceLeDiff, reduceEqDiff] | simp (disch := first | (simp only [List.length_append, List.length_cons, List.length_nil] <;> omega) | rfl | omega | fail) only [kset, wset, hset, dset, bset, reduceAdd, reduceMul, reduceLeDiff, reduceEqDiff, bin_cat])
  refine WF.res T.c149 (K.join hsv ?_) ?_
  · rw [join_e, List.length_map]; omega
  rintro _ g3 rfl
  rw [join_e]
  generalize hpt : (H.picks.map pkTx).flatten = pt at hfl ⊢
  repeat (first | simp only [wset, hset, dset, bset, reduceAdd, reduceMul, reduceLeDiff, reduceEqDiff] | simp (disch := first | (simp only [List.length_append, List.length_cons, List.length_nil] <;> omega) | rfl | omega | fail) only [kset, wset, hset, dset, bset, reduceAdd, reduceMul, reduceLeDiff, reduceEqDiff, bin_cat])
  rw [hzTx, hpt]
end
end Go.Abs
namespace Go.Abs
theorem horT_of {H : Hor} (v : HorV H) : HorT H := by
  refine ⟨?_, v.e0, by have := v.e1; omega, by have := v.le; omega, fun p hp => ?_⟩
  · have := v.nm
    cases hn : H.name with
    | nil => simp
    | cons c r =>
      rw [hn, nameS] at this
      simp only [Bool.and_eq_true, decide_eq_true_eq] at this
      simp; omega
  · obtain ⟨i, hi, rfl⟩ := List.getElem_of_mem hp
    have := v.ok.at hi
    omega
theorem b2s_one {h : AHeap} {c : Int} {N : Nat} : convT .b2s (.slice h.length 0 1 1) (fun b => (h ++ [ABlk.cells [.int .u8 c] true true])[b]?) N = some (.str [UInt8.ofNat c.toNat], .keep) := by
  simp only [convT, cellsG, if_true, at_new]
  rfl
theorem dig_str {n : Int} (h0 : 0 ≤ n) (h1 : n < 10) : UInt8.ofNat (IntKind.u8.wrap (IntKind.i64.wrap (48 + n))).toNat = UInt8.ofNat (48 + n.toNat) := by
  rw [wrap_in (by omega) (by omega), wrap8 (by omega) (by omega)]
  congr 1; omega
def printV (M : List Hor) : AV := if chkHorsS M = 0 then .tup [.str (txS M), .int .i64 0] else .tup [.str [], .int .i64 (chkHorsS M)]
attribute [local irreducible] WP WC WE WB WR WF WL WG WRg
section
variable {P : Program} (T : Tbl P) (K : Prt P) {h : AHeap}
include T
include K
set_option maxRecDepth 10000 in
theorem r84 {L : List (Hor × AV)} {s : AV} (o : HorsOk h L s) (w : Pw h) : RCall P 84 [s] h (fun v _ => v = printV (L.map Prod.fst)) := by
  refine .of T.mix T.c84 ?_
  unfold fn84
  simp only [wset, hset, dset, bset, reduceAdd, reduceMul, reduceLeDiff, reduceEqDiff]
  refine WF.res T.c27 (r27 T o) ?_
  rintro _ g1 rfl
  by_cases hc : chkHorsS (L.map Prod.fst) = 0
  · have d1 : decide (chkHorsS (L.map Prod.fst) ≠ 0) = false := decide_eq_false (by simp [hc])
    simp only [wset, hset, dset, bset, reduceAdd, reduceMul, reduceLeDiff, reduceEqDiff, d1]
    obtain ⟨hv, hl8⟩ := hors_zero hc
    have hT : ∀ x ∈ L, HorT x.1 := fun x hx => horT_of (hv x.1 (List.mem_map_of_mem hx))
    have hl8' : L.length ≤ 8 := by simpa using hl8
    refine WF.res T.c150 (r150 T (o.sl.ext (by repeat first | with_reducible exact Ext.refl _ | refine Ext.app _ ?_)) (fun x hx => (o.all x hx).sl.one) (by omega) (fun x => hzTx x.1) (fun x hx k e => VCall.of (a := []) (c := []) T.c151 (r151 T K ((o.all x hx).ext (Ext.trans (by repeat first | with_reducible exact Ext.refl _ | refine Ext.app _ ?_) e)) (hT x hx) (w.ext (Ext.trans (by repeat first | with_reducible exact Ext.refl _ | refine Ext.app _ ?_) e))))) ?_
    rintro sv g2 hsv
    simp only [wset, hset, dset, bset, reduceAdd, reduceMul, reduceLeDiff, reduceEqDiff]
    have hfl := flat_le (F := fun x : Hor × AV => hzTx x.1) (m := 30000) (L := L) fun x hx => hzTx_len (hT x hx)
    refine WF.res T.c149 (K.join hsv ?_) ?_
    · rw [join_e, List.length_map]; omega
    rintro _ g3 rfl
    rw [join_e]
    simp only [wset, hset, dset, bset, reduceAdd, reduceMul, reduceLeDiff, reduceEqDiff]
    rw [printV, if_pos hc, txS, List.map_map]; rfl
  · have d1 : decide (chkHorsS (L.map Prod.fst) ≠ 0) = true := decide_eq_true hc
    simp only [wset, hset, dset, bset, reduceAdd, reduceMul, reduceLeDiff, reduceEqDiff, d1]
    rw [printV, if_neg hc]
omit K
set_option maxRecDepth 10000 in
theorem r155 : ∀ {k : Nat} {n : Int} {h : AHeap}, 0 ≤ n → n < 10 ^ (k + 1) → k ≤ 15 → RCall P 155 [.int .i64 n] h (fun v _ => v = .str (dcS n)) := by
  intro k
  induction k with
  | zero =>
    intro n h h0 h1 _
    refine .of T.mix T.c155 ?_
    unfold fn155
    have h10 : n < 10 := by simpa using h1
    have d0 : decide (n < 0) = false := decide_eq_false (by omega)
    have d1 : decide (n < 10) = true := decide_eq_true h10
    simp only [wset, hset, dset, bset, reduceAdd, reduceMul, reduceLeDiff, reduceEqDiff, d0, d1, WP_conv, b2s_one]
    rw [dcS, Lib.decDigits, dif_pos (by omega), dig_str h0 h10]
  | succ k ih =>
    intro n h h0 h1 hk
    refine .of T.mix T.c155 ?_
    unfold fn155
    have d0 : decide (n < 0) = false := decide_eq_false (by omega)
    by_cases h10 : n < 10
    · have d1 : decide (n < 10) = true := decide_eq_true h10
      simp only [wset, hset, dset, bset, reduceAdd, reduceMul, reduceLeDiff, reduceEqDiff, d0, d1, WP_conv, b2s_one]
      rw [dcS, Lib.decDigits, dif_pos (by omega), dig_str h0 h10]
    · have d1 : decide (n < 10) = false := decide_eq_false h10
      have hb : n ≤ 10 ^ 17 := by
        have : (10 : Int) ^ (k + 1 + 1) ≤ 10 ^ 17 := by
          have := Nat.pow_le_pow_right (n := 10) (by decide) (show k + 1 + 1 ≤ 17 by omega)
          exact_mod_cast this
        omega
      have eq : n.tdiv 10 = n / 10 := Int.tdiv_eq_ediv_of_nonneg h0
      have em : n.tmod 10 = n % 10 := Int.tmod_eq_emod_of_nonneg h0
      have w1 : IntKind.i64.wrap (n / 10) = n / 10 := wrap_in (by omega) (by omega)
      have bq : binK .quo (.int .i64 n) (.int .i64 10) = some (.int .i64 (n / 10)) := by rw [bin_quo (by decide), eq, w1]
      have bm : binK .rem (.int .i64 n) (.int .i64 10) = some (.int .i64 (n % 10)) := by rw [bin_rem (by decide), em]
      simp only [wset, hset, dset, bset, reduceAdd, reduceMul, reduceLeDiff, reduceEqDiff, d0, d1, bq, bm]
      refine WF.res T.c155 (ih (by omega) (by rw [Int.pow_succ] at h1; omega) (by omega)) ?_
      rintro _ g1 rfl
      have hd := dec_len (k := k) (u := (n / 10).toNat) (by
        have h2 : n / 10 < 10 ^ (k + 1) := by rw [Int.pow_succ] at h1; omega
        have h3 : (((n / 10).toNat : Nat) : Int) < ((10 ^ (k + 1) : Nat) : Int) := by rw [Int.toNat_of_nonneg (by omega)]; exact_mod_cast h2
        exact_mod_cast h3)
      have bc : ∀ {c : UInt8}, binK .add (.str (dcS (n / 10))) (.str [c]) = some (.str (dcS (n / 10) ++ [c])) := bin_cat (by rw [dcS]; simp; omega)
      simp only [wset, hset, dset, bset, reduceAdd, reduceMul, reduceLeDiff, reduceEqDiff, bq, bm, WP_conv, b2s_one, bc]
      rw [dig_str (by omega) (by omega), dcS, dcS, Lib.decDigits.eq_def n.toNat, dif_neg (by omega)]
      congr 3
      · omega
      · congr 2; omega
end
end Go.Abs
namespace Go.Abs
theorem txS_succ {L : List Hor} {k : Nat} (hk : k < L.length) : txS (L.take (k + 1)) = txS (L.take k) ++ hzTx L[k] := by
  rw [txS, txS, take_succ' hk, List.map_append, List.flatten_append]; simp
attribute [local irreducible] WP WC WE WB WR WF WL WG WRg
section
variable {P : Program} (T : Tbl P) {h : AHeap}
include T
set_option maxRecDepth 10000 in
set_option maxHeartbeats 2000000 in
theorem r86 {L : List (Hor × AV)} {s : AV} (o : HorsOk h L s) (hT : ∀ x ∈ L, HorT x.1) (hl : L.length ≤ 8) : RCall P 86 [s] h (fun v _ => v = .str (txS (L.map Prod.fst))) := by
  refine .of T.mix T.c86 ?_
  have e7 : (10 : Int) ^ (6 + 1) = 10000000 := by decide
  have hs := o.sl
  obtain ⟨ts, hts⟩ : ∃ ts, ts = startTS 66 [s] := ⟨_, rfl⟩
  have hlen : ts.length = 66 := by rw [hts]; rfl
  have t0 : slot ts 0 = s := by rw [hts]; rfl
  unfold fn86
  show WC P inFn _ [] (startTS 66 [s]) h _
  rw [← hts]
  clear hts
  repeat (first | simp (maxSteps := 1000000) only [wset, hset, dset, bset, reduceAdd, reduceMul, reduceLeDiff, reduceEqDiff, pset, hlen, if_false, if_true, t0] | simp (maxSteps := 1000000) (disch := first | (simp only [List.length_append, List.length_cons, List.length_nil] <;> omega) | rfl | omega | fail) only [kset, wset, hset, dset, bset, reduceAdd, reduceMul, reduceLeDiff, reduceEqDiff, pset, hlen, if_false, if_true, t0])
  refine WL.inv T.mix (fun n ts' h' => ∃ k : Nat, k ≤ L.length ∧ n = L.length - k ∧ Ext h h' ∧ ts'.length = 66 ∧ slot ts' 0 = s ∧ slot ts' 3 = .str (txS ((L.map Prod.fst).take k)) ∧ slot ts' 4 = .int .i64 k) L.length
    ⟨0, by omega, rfl, Ext.refl h, (by simp only [wset, hset, dset, bset, reduceAdd, reduceMul, reduceLeDiff, reduceEqDiff, pset, hlen, if_false, if_true, t0]), (by simp only [wset, hset, dset, bset, reduceAdd, reduceMul, reduceLeDiff, reduceEqDiff, pset, hlen, if_false, if_true, t0]), (by simp only [wset, hset, dset, bset, reduceAdd, reduceMul, reduceLeDiff, reduceEqDiff, pset, hlen, if_false, if_true]; rfl), (by simp only [wset, hset, dset, bset, reduceAdd, reduceMul, reduceLeDiff, reduceEqDiff, pset, hlen, if_false, if_true]; rfl)⟩ ?_
  rintro _ ts' _ ⟨k, hk, rfl, ⟨g, rfl⟩, hlen', u0, u3, u4⟩
  clear hlen t0
  have hlen := hlen'
  by_cases hlt : k < L.length
  · have e3 : (k : Int) < L.length := by omega
    have hT1 := hT L[k] (List.getElem_mem hlt)
    have ok := o.all L[k] (List.getElem_mem hlt)
    have htx : txS ((L.map Prod.fst).take (k + 1)) = txS ((L.map Prod.fst).take k) ++ hzTx L[k].1 := by
      rw [txS_succ (by simpa using hlt), List.getElem_map]
    have hpre : (txS ((L.map Prod.fst).take k)).length ≤ 240000 := by
      have := flat_le (F := hzTx) (m := 30000) (L := (L.map Prod.fst).take k) fun H hH => by
        obtain ⟨x, hx, rfl⟩ := List.mem_map.1 (List.mem_of_mem_take hH)
        exact hzTx_len (hT x hx)
      have h2 : ((L.map Prod.fst).take k).length ≤ 8 := by rw [List.length_take, List.length_map]; omega
      unfold txS
      omega
    generalize txS ((L.map Prod.fst).take k) = pre at hpre htx u3
    have ixl := hs.ixm (kk := .i64) hlt
    have ld0 := fun {kk : AHeap} (e : Ext h kk) => hs.lfm (off := 0) (x := .str L[k].1.name) hlt rfl e
    have ld1 := fun {kk : AHeap} (e : Ext h kk) => hs.lfm (off := 1) (x := .int .i64 L[k].1.err) hlt rfl e
    have ld2 := fun {kk : AHeap} (e : Ext h kk) => hs.lfm (off := 2) (x := L[k].2) hlt rfl e
    generalize L[k] = x at hT1 ok htx ld0 ld1 ld2
    obtain ⟨H, p⟩ := x
    simp only at hT1 ok htx ld0 ld1 ld2
    have h1 := dcS_len hT1.e1
    have h0 := hT1.n0
    have hpl := hT1.pl
    have hsp := ok.sl
    repeat (first | simp (maxSteps := 1000000) only [wset, hset, dset, bset, reduceAdd, reduceMul, reduceLeDiff, reduceEqDiff, pset, hlen, if_false, if_true, u0, u3, u4, e3, decide_true, hs.lenm, ixl, ld0, ld1, ld2, bin_cat] | simp (maxSteps := 1000000) (disch := first | (simp only [List.length_append, List.length_cons, List.length_nil] <;> omega) | rfl | omega | fail) only [kset, wset, hset, dset, bset, reduceAdd, reduceMul, reduceLeDiff, reduceEqDiff, pset, hlen, if_false, if_true, u0, u3, u4, e3, decide_true, hs.lenm, ixl, ld0, ld1, ld2, bin_cat])
    refine WF.res T.c155 (r155 T (k := 6) hT1.e0 (by rw [e7]; have := hT1.e1; omega) (by omega)) ?_
    rintro _ g1 rfl
    repeat (first | simp (maxSteps := 1000000) only [wset, hset, dset, bset, reduceAdd, reduceMul, reduceLeDiff, reduceEqDiff, pset, hlen, if_false, if_true, u0, u3, u4, bin_cat] | simp (maxSteps := 1000000) (disch := first | (simp only [List.length_append, List.length_cons, List.length_nil] <;> omega) | rfl | omega | fail) only [kset, wset, hset, dset, bset, reduceAdd, reduceMul, reduceLeDiff, reduceEqDiff, pset, hlen, if_false, if_true, u0, u3, u4, bin_cat])
    refine WL.inv T.mix (fun n ts2 h' => ∃ j : Nat, j ≤ H.picks.length ∧ n = H.picks.length - j ∧ Ext h h' ∧ ts2.length = 66 ∧ slot ts2 0 = s ∧ slot ts2 3 = .str (pre ++ ([104, 111, 114, 105, 122, 111, 110, 32] ++ H.name ++ [32] ++ dcS H.err ++ [10] ++ ((H.picks.take j).map pkTx).flatten)) ∧ slot ts2 4 = .int .i64 k ∧ slot ts2 5 = .int .i64 j) H.picks.length
      ⟨0, by omega, rfl, (by repeat first | with_reducible exact Ext.refl _ | refine Ext.app _ ?_), (by simp only [wset, hset, dset, bset, reduceAdd, reduceMul, reduceLeDiff, reduceEqDiff, pset, hlen, if_false, if_true, u0]), (by simp only [wset, hset, dset, bset, reduceAdd, reduceMul, reduceLeDiff, reduceEqDiff, pset, hlen, if_false, if_true, u0]), (by simp only [wset, hset, dset, bset, reduceAdd, reduceMul, reduceLeDiff, reduceEqDiff, pset, hlen, if_false, if_true]; simp), (by simp only [wset, hset, dset, bset, reduceAdd, reduceMul, reduceLeDiff, reduceEqDiff, pset, hlen, if_false, if_true, u4]), (by simp only [wset, hset, dset, bset, reduceAdd, reduceMul, reduceLeDiff, reduceEqDiff, pset, hlen, if_false, if_true]; rfl)⟩ ?_
    rintro _ ts2 _ ⟨j, hj, rfl, ⟨g2, rfl⟩, hlen2, v0, v3, v4, v5⟩
    clear hlen hlen'
    have hlen := hlen2
    have hfl := flat_le (F := pkTx) (m := 21) (L := H.picks.take j) fun p hp => by
      have := hT1.pk p (List.mem_of_mem_take hp)
      exact pkTx_len ⟨this.2.1, this.2.2.2⟩
    have htl : (H.picks.take j).length ≤ 1000 := by rw [List.length_take]; omega
    by_cases hjt : j < H.picks.length
    · have e4 : (j : Int) < H.picks.length := by omega
      have hpk := hT1.pk _ (List.getElem_mem hjt)
      have hq1 := dcS_len hpk.2.1
      have hq2 := dcS_len hpk.2.2.2
      have ixp := hsp.ixm (kk := .i64) hjt
      have lp0 := fun {kk : AHeap} (e : Ext h kk) => hsp.lfm (off := 0) (x := .int .i64 H.picks[j].1) hjt rfl e
      have lp1 := fun {kk : AHeap} (e : Ext h kk) => hsp.lfm (off := 1) (x := .int .i64 H.picks[j].2) hjt rfl e
      have hnx : ((H.picks.take (j + 1)).map pkTx).flatten = ((H.picks.take j).map pkTx).flatten ++ pkTx H.picks[j] := by
        rw [take_succ' hjt, List.map_append, List.flatten_append]; simp
      generalize ((H.picks.take j).map pkTx).flatten = pt at hfl v3 hnx
      generalize H.picks[j] = q at hpk hq1 hq2 lp0 lp1 hnx
      repeat (first | simp (maxSteps := 1000000) only [wset, hset, dset, bset, reduceAdd, reduceMul, reduceLeDiff, reduceEqDiff, pset, hlen, if_false, if_true, v0, v3, v4, v5, e4, decide_true, hs.lenm, ixl, ld2, hsp.lenm, ixp, lp0, lp1, bin_cat] | simp (maxSteps := 1000000) (disch := first | (simp only [List.length_append, List.length_cons, List.length_nil] <;> omega) | rfl | omega | fail) only [kset, wset, hset, dset, bset, reduceAdd, reduceMul, reduceLeDiff, reduceEqDiff, pset, hlen, if_false, if_true, v0, v3, v4, v5, e4, decide_true, hs.lenm, ixl, ld2, hsp.lenm, ixp, lp0, lp1, bin_cat])
      refine WF.res T.c155 (r155 T (k := 6) hpk.1 (by rw [e7]; omega) (by omega)) ?_
      rintro _ g3 rfl
      repeat (first | simp (maxSteps := 1000000) only [wset, hset, dset, bset, reduceAdd, reduceMul, reduceLeDiff, reduceEqDiff, pset, hlen, if_false, if_true, v0, v3, v4, v5, ixl, ld2, ixp, lp0, lp1, bin_cat] | simp (maxSteps := 1000000) (disch := first | (simp only [List.length_append, List.length_cons, List.length_nil] <;> omega) | rfl | omega | fail) only [kset, wset, hset, dset, bset, reduceAdd, reduceMul, reduceLeDiff, reduceEqDiff, pset, hlen, if_false, if_true, v0, v3, v4, v5, ixl, ld2, ixp, lp0, lp1, bin_cat])
      refine WF.res T.c155 (r155 T (k := 6) hpk.2.2.1 (by rw [e7]; omega) (by omega)) ?_
      rintro _ g4 rfl
      repeat (first | simp (maxSteps := 1000000) only [wset, hset, dset, bset, reduceAdd, reduceMul, reduceLeDiff, reduceEqDiff, pset, hlen, if_false, if_true, v0, v3, v4, v5, bin_cat, wrapN (show j + 1 < 2 ^ 63 by omega)] | simp (maxSteps := 1000000) (disch := first | (simp only [List.length_append, List.length_cons, List.length_nil] <;> omega) | rfl | omega | fail) only [kset, wset, hset, dset, bset, reduceAdd, reduceMul, reduceLeDiff, reduceEqDiff, pset, hlen, if_false, if_true, v0, v3, v4, v5, bin_cat, wrapN (show j + 1 < 2 ^ 63 by omega)])
      refine ⟨H.picks.length - (j + 1), by omega, j + 1, by omega, rfl, ?_, rfl⟩
      rw [hnx, pkTx]
      simp only [List.append_assoc]
    · have e4 : ¬ (j : Int) < H.picks.length := by omega
      have ej : j = H.picks.length := by omega
      rw [ej, List.take_length] at v3
      repeat (first | simp (maxSteps := 1000000) only [wset, hset, dset, bset, reduceAdd, reduceMul, reduceLeDiff, reduceEqDiff, pset, hlen, if_false, if_true, v0, v3, v4, v5, e4, decide_false, hs.lenm, ixl, ld2, hsp.lenm, wrapN (show k + 1 < 2 ^ 63 by omega)] | simp (maxSteps := 1000000) (disch := first | (simp only [List.length_append, List.length_cons, List.length_nil] <;> omega) | rfl | omega | fail) only [kset, wset, hset, dset, bset, reduceAdd, reduceMul, reduceLeDiff, reduceEqDiff, pset, hlen, if_false, if_true, v0, v3, v4, v5, e4, decide_false, hs.lenm, ixl, ld2, hsp.lenm, wrapN (show k + 1 < 2 ^ 63 by omega)])
      refine ⟨L.length - (k + 1), by omega, k + 1, by omega, rfl, ?_, rfl⟩
      rw [htx, hzTx]
  · have e3 : ¬ (k : Int) < L.length := by omega
    have ek : k = L.length := by omega
    rw [ek, show L.length = (L.map Prod.fst).length by simp, List.take_length] at u3
    repeat (first | simp (maxSteps := 1000000) only [wset, hset, dset, bset, reduceAdd, reduceMul, reduceLeDiff, reduceEqDiff, pset, hlen, if_false, if_true, u0, u3, u4, e3, decide_false, hs.lenm] | simp (maxSteps := 1000000) (disch := first | (simp only [List.length_append, List.length_cons, List.length_nil] <;> omega) | rfl | omega | fail) only [kset, wset, hset, dset, bset, reduceAdd, reduceMul, reduceLeDiff, reduceEqDiff, pset, hlen, if_false, if_true, u0, u3, u4, e3, decide_false, hs.lenm])
theorem r89 {L : List (Hor × AV)} {s : AV} (o : HorsOk h L s) (hl : L.length ≤ 2 ^ 40) (hp : ∀ x ∈ L, x.1.picks.length ≤ 2 ^ 40) :
    RCall P 89 [s] h (fun v h' => ∃ L' : List (Hor × AV), L'.map (·.1) = L.map (·.1) ∧ HorsOk h' L' v) := by
  have hs := o.sl
  refine RCall.mono (R := fun v h' => ∃ L' : List (Hor × AV), L'.map (·.1) = L.map (·.1) ∧ Fr h.length h' v 3 (L'.map horRow) ∧ ∀ x ∈ L', Fr h.length h' x.2 2 (x.1.picks.map pkRow) ∧ ∀ b o n e b0 o0 n0 e0, x.2 = .slice b o n e → v = .slice b0 o0 n0 e0 → b < b0) ?_ fun v g ⟨L', hm, hf, he⟩ => ⟨L', hm, HorsOk.of_list hm hf.isSl (fun x hx => (he x hx).1.isSl) o.len fun y hy => ⟨(o.all y hy).len, (o.all y hy).nm⟩⟩
  refine .of T.mix T.c89 ?_
  unfold fn89
  simp only [wset, hset, dset, bset, reduceAdd, reduceMul, reduceLeDiff, reduceEqDiff, hs.lenm]
  refine WL.inv T.mix (fun n ts h' => ∃ (k : Nat) (out : AV) (L' : List (Hor × AV)), k ≤ L.length ∧ n = L.length - k ∧ Ext h h' ∧ L'.map (·.1) = (L.take k).map (·.1) ∧ Fr h.length h' out 3 (L'.map horRow) ∧ (∀ x ∈ L', Fr h.length h' x.2 2 (x.1.picks.map pkRow) ∧ ∀ b o n e b0 o0 n0 e0, x.2 = .slice b o n e → out = .slice b0 o0 n0 e0 → b < b0) ∧ ts.length = 19 ∧ slot ts 3 = out ∧ slot ts 6 = s ∧ slot ts 7 = .int .i64 L.length ∧ slot ts 8 = .int .i64 k) L.length
    ⟨0, .nilSlice, [], by omega, rfl, Ext.refl h, rfl, .nil, by simp, rfl, rfl, rfl, rfl, rfl⟩ ?_
  rintro _ ts _ ⟨k, out, L', hk, rfl, ⟨g, rfl⟩, hm, hfr, hel, hlen, t3, t6, t7, t8⟩
  rw [expl ts 19 hlen]
  by_cases hlt : k < L.length
  · have e3 : (k : Int) < L.length := by omega
    have hx := o.all L[k] (by simp)
    have hlk : L'.length = k := by have := congrArg List.length hm; simp at this; omega
    simp only [wset, hset, dset, bset, reduceAdd, reduceMul, reduceLeDiff, reduceEqDiff, t3, t6, t7, t8, e3, decide_true, hs.ixm hlt, hs.ldm hlt, hx.sl.one]
    refine WF.res T.c68 (r68 T (H := L[k].1) (hx.sl.ext (by simp only [eset])) (hp _ (by simp))) ?_
    rintro _ g1 ⟨s', rfl, hs'⟩
    simp only [wset, hset, dset, bset, reduceAdd, reduceMul, reduceLeDiff, reduceEqDiff, hs'.isSl.one]
    refine WR.app1 (h0 := h) (cs := L'.map horRow) (ys := [horRow (L[k].1, s')]) ((((hfr.app _).app _).app _)) (Fr.push (N := 0) (Nat.zero_le _) [horRow (L[k].1, s')] (by simp)).isSl (by decide) (by simp) (by simp; omega) (by simp only [eset]) ?_
    intro g' hl' hf hkp
    have hrow : L'.map horRow ++ [horRow (L[k].1, s')] = (L' ++ [(L[k].1, s')]).map horRow := by rw [List.map_append]; rfl
    rw [hrow] at hf
    rw [hrow]
    simp only [wset, hset, dset, bset, reduceAdd, reduceMul, reduceLeDiff, reduceEqDiff, t3, t6, t7, t8, wrapN (show k + 1 < 2 ^ 63 by omega)]
    refine ⟨_, ?_, k + 1, _, L' ++ [(L[k].1, s')], by omega, rfl, ?_, hf, ?_, rfl, rfl⟩
    · omega
    · rw [List.map_append, hm, List.take_add_one, List.getElem?_eq_getElem hlt, List.map_append]; rfl
    · intro x hx'
      rcases List.mem_append.1 hx' with hx' | hx'
      · obtain ⟨h1, h2⟩ := hel x hx'
        have h1' := ((h1.app [ABlk.cells (horRow L[k]) true false]).app g1).app [ABlk.cells [AV.str L[k].1.name, AV.int IntKind.i64 L[k].1.err, s'] true true]
        refine ⟨h1'.sBkeep fun b hb => ?_, fun b o n e b0 o0 n0 e0 hb hout => ?_⟩
        · obtain ⟨o1, n1, e1, hb⟩ := sB_s hb
          refine hkp b (h1'.lt hb).2 fun b0 o0 n0 e0 hout => ?_
          have := h2 _ _ _ _ _ _ _ _ hb hout
          omega
        · cases hout; exact (h1'.lt hb).2
      · simp only [List.mem_singleton] at hx'
        subst hx'
        have h1' := (hs'.low (show h.length ≤ _ by simp)).app [ABlk.cells [AV.str L[k].1.name, AV.int IntKind.i64 L[k].1.err, s'] true true]
        refine ⟨h1'.sBkeep fun b hb => ?_, fun b o n e b0 o0 n0 e0 hb hout => ?_⟩
        · obtain ⟨o1, n1, e1, hb⟩ := sB_s hb
          refine hkp b (h1'.lt hb).2 fun b0 o0 n0 e0 hout => ?_
          have h3 := (hs'.lt hb).1
          have h4 := (hfr.lt hout).2
          simp only [List.length_append] at h3 h4
          omega
        · cases hout; exact (h1'.lt hb).2
  · have e3 : ¬ (k : Int) < L.length := by omega
    have e4 : k = L.length := by omega
    simp only [wset, hset, dset, bset, reduceAdd, reduceMul, reduceLeDiff, reduceEqDiff, t3, t6, t7, t8, e3, decide_false, if_true]
    rw [e4, List.take_length] at hm
    exact ⟨L', hm, hfr, hel⟩
theorem r88 {L M : List (Hor × AV)} {s t : AV} (o : HorsOk h L s) (q : HorsOk h M t) (he : L.map Prod.fst = M.map Prod.fst) : RCall P 88 [s, t] h (fun v _ => v = .bool true) := by
  refine .of T.mix T.c88 ?_
  have hl : L.length = M.length := by simpa using congrArg List.length he
  have hln := o.len
  have d0 : decide ((L.length : Int) ≠ M.length) = false := decide_eq_false (by simp [hl])
  unfold fn88
  simp only [wset, hset, dset, bset, reduceAdd, reduceMul, reduceLeDiff, reduceEqDiff, o.sl.lenm, q.sl.lenm, d0]
  refine WL.inv T.mix (fun n ts h' => ∃ k : Nat, k ≤ L.length ∧ n = L.length - k ∧ Ext h h' ∧ ts.length = 27 ∧ slot ts 0 = s ∧ slot ts 1 = t ∧ slot ts 5 = .int .i64 k) L.length
    ⟨0, by omega, rfl, Ext.refl h, rfl, rfl, rfl, rfl⟩ ?_
  rintro _ ts _ ⟨k, hk, rfl, ⟨g, rfl⟩, hlen, t0, t1, t5⟩
  rw [expl ts 27 hlen]
  by_cases hlt : k < L.length
  · have hlt2 : k < M.length := by omega
    have e3 : (k : Int) < L.length := by omega
    have ok1 := o.all L[k] (by simp)
    have ok2 := q.all M[k] (by simp)
    have e : L[k].1 = M[k].1 := by
      have h1 : (L.map Prod.fst)[k]? = (M.map Prod.fst)[k]? := by rw [he]
      rw [List.getElem?_map, List.getElem?_map, List.getElem?_eq_getElem hlt, List.getElem?_eq_getElem hlt2] at h1
      exact Option.some.inj h1
    simp only [wset, hset, dset, bset, reduceAdd, reduceMul, reduceLeDiff, reduceEqDiff, t0, t1, t5, e3, decide_true, o.sl.lenm, o.sl.ixm hlt, q.sl.ixm hlt2, o.sl.ldm hlt, q.sl.ldm hlt2]
    refine WF.res T.c69 (r69 T (A := L[k].1) (B := M[k].1) (ok1.ext (by repeat first | exact Ext.refl _ | refine Ext.app _ ?_)) (ok2.ext (by repeat first | exact Ext.refl _ | refine Ext.app _ ?_))) ?_
    rintro _ g1 rfl
    rw [e, sameS_refl]
    simp only [wset, hset, dset, bset, reduceAdd, reduceMul, reduceLeDiff, reduceEqDiff, t0, t1, t5, Bool.not_true, wrapN (show k + 1 < 2 ^ 63 by omega)]
    refine ⟨_, ?_, k + 1, by omega, rfl, rfl⟩
    omega
  · have e3 : ¬ (k : Int) < L.length := by omega
    simp only [wset, hset, dset, bset, reduceAdd, reduceMul, reduceLeDiff, reduceEqDiff, t0, t1, t5, e3, decide_false, o.sl.lenm, if_true]
end
end Go.Abs
namespace Go.Abs
theorem parse_bd {s : List UInt8} {M : List Hor} {n : Nat} {e : Int} (h : parseS s = (M, n, e)) : M.length ≤ 8 ∧ ∀ H ∈ M, HorT H := by
  unfold parseS at h
  have nil : ∀ {x : Nat × Int}, ([], x) = (M, n, e) → M.length ≤ 8 ∧ ∀ H ∈ M, HorT H := fun h => by cases h; simp
  split at h
  · exact nil h
  · split at h
    · exact nil h
    · split at h
      · rename_i hc
        cases h
        obtain ⟨h1, h2⟩ := hors_zero hc
        exact ⟨h2, fun H hH => horT_of (h1 H hH)⟩
      · exact nil h
theorem HsR.hors2 {N : Nat} {h : AHeap} {L : List (Hor × AV)} {s : AV} (o : HsR N h L s) (b : (L.map Prod.fst).length ≤ 8 ∧ ∀ H ∈ L.map Prod.fst, HorT H) : HorsOk h L s := by
  refine o.ok (by have := b.1; simp at this; omega) fun x hx => ?_
  have := b.2 x.1 (List.mem_map_of_mem hx)
  have h1 := this.n0
  have h2 := this.pl
  omega
def hxt (k : Nat) : ICode := ((fn13).body.dr k).hd
def hxT (k : Nat) : ICode := (fn13).body.dr k
theorem hxt_A : (fn13).body = .seq (hxt 0) (.seq (hxt 1) (.seq (hxt 2) (.seq (hxt 3) (.seq (hxt 4) (.seq (hxt 5) (.seq (hxt 6) (hxT 7))))))) := rfl
attribute [local irreducible] WP WC WE WB WR WF WL WG WRg
section
variable {P : Program} (T : Tbl P) (X : Xtn P) (K : Prt P) {h : AHeap}
include T X K
set_option maxRecDepth 10000 in
set_option maxHeartbeats 2000000 in
theorem r13 (haw : ∀ k, Ext h k → RCall P 15 [] k (fun v _ => v = .bool true)) {L : List (Hor × AV)} {l : AV} (ol : HorsOk h L l) (w : Pw h) (s : List UInt8) :
    RCall P 13 [l, .str s] h (fun v _ => v = .bool true) := by
  refine .of T.mix T.c13 ?_
  obtain ⟨ts, hts⟩ : ∃ ts, ts = startTS 76 [l, .str s] := ⟨_, rfl⟩
  have hlen : ts.length = 76 := by rw [hts]; rfl
  have t0 : slot ts 0 = l := by rw [hts]; rfl
  have t1 : slot ts 1 = .str s := by rw [hts]; rfl
  show WC P inFn (fn13).body [] (startTS 76 [l, .str s]) h _
  obtain ⟨RR, hRR⟩ : ∃ RR, RR = hxT 7 := ⟨_, rfl⟩
  rw [← hts, hxt_A, ← hRR]
  clear hts
  unfold hxt fn13
  simp only [ICode.dr, ICode.tl, ICode.hd]
  repeat (first | simp (maxSteps := 1000000) only [wset, hset, dset, bset, reduceAdd, reduceMul, reduceLeDiff, reduceEqDiff, pset, hlen, if_false, if_true, t0, t1] | simp (maxSteps := 1000000) (disch := first | (simp only [List.length_append, List.length_cons, List.length_nil] <;> omega) | rfl | omega | fail) only [kset, wset, hset, dset, bset, reduceAdd, reduceMul, reduceLeDiff, reduceEqDiff, pset, hlen, if_false, if_true, t0, t1])
  refine WF.res T.c15 (haw _ (by repeat first | with_reducible exact Ext.refl _ | refine Ext.app _ ?_)) ?_
  rintro _ g1 rfl
  repeat (first | simp (maxSteps := 1000000) only [wset, hset, dset, bset, reduceAdd, reduceMul, reduceLeDiff, reduceEqDiff, pset, hlen, if_false, if_true, t0, t1, Bool.not_true] | simp (maxSteps := 1000000) (disch := first | (simp only [List.length_append, List.length_cons, List.length_nil] <;> omega) | rfl | omega | fail) only [kset, wset, hset, dset, bset, reduceAdd, reduceMul, reduceLeDiff, reduceEqDiff, pset, hlen, if_false, if_true, t0, t1, Bool.not_true])
  refine WF.res T.c17 (r17 T (ol.sl.ext (by repeat first | with_reducible exact Ext.refl _ | refine Ext.app _ ?_)) ol.len (fun y hy => (ol.all y hy).sl.ext (by repeat first | with_reducible exact Ext.refl _ | refine Ext.app _ ?_))) ?_
  rintro _ g2 rfl
  cases hsh : shortAllS (L.map (·.1)) with
  | false =>
    repeat (first | simp (maxSteps := 1000000) only [wset, hset, dset, bset, reduceAdd, reduceMul, reduceLeDiff, reduceEqDiff, pset, hlen, if_false, if_true, t0, t1, Bool.not_false] | simp (maxSteps := 1000000) (disch := first | (simp only [List.length_append, List.length_cons, List.length_nil] <;> omega) | rfl | omega | fail) only [kset, wset, hset, dset, bset, reduceAdd, reduceMul, reduceLeDiff, reduceEqDiff, pset, hlen, if_false, if_true, t0, t1, Bool.not_false])
    refine WF.res T.c15 (haw _ (by repeat first | with_reducible exact Ext.refl _ | refine Ext.app _ ?_)) ?_
    rintro _ g3 rfl
    repeat (first | simp (maxSteps := 1000000) only [wset, hset, dset, bset, reduceAdd, reduceMul, reduceLeDiff, reduceEqDiff, pset, hlen, if_false, if_true, t0] | simp (maxSteps := 1000000) (disch := first | (simp only [List.length_append, List.length_cons, List.length_nil] <;> omega) | rfl | omega | fail) only [kset, wset, hset, dset, bset, reduceAdd, reduceMul, reduceLeDiff, reduceEqDiff, pset, hlen, if_false, if_true, t0])
  | true =>
  by_cases h3 : 300 < s.length
  · have d3 : decide ((300 : Int) < s.length) = true := decide_eq_true (by omega)
    repeat (first | simp (maxSteps := 1000000) only [wset, hset, dset, bset, reduceAdd, reduceMul, reduceLeDiff, reduceEqDiff, pset, hlen, if_false, if_true, t0, t1, Bool.not_true, d3] | simp (maxSteps := 1000000) (disch := first | (simp only [List.length_append, List.length_cons, List.length_nil] <;> omega) | rfl | omega | fail) only [kset, wset, hset, dset, bset, reduceAdd, reduceMul, reduceLeDiff, reduceEqDiff, pset, hlen, if_false, if_true, t0, t1, Bool.not_true, d3])
    refine WF.res T.c15 (haw _ (by repeat first | with_reducible exact Ext.refl _ | refine Ext.app _ ?_)) ?_
    rintro _ g3 rfl
    repeat (first | simp (maxSteps := 1000000) only [wset, hset, dset, bset, reduceAdd, reduceMul, reduceLeDiff, reduceEqDiff, pset, hlen, if_false, if_true, t0] | simp (maxSteps := 1000000) (disch := first | (simp only [List.length_append, List.length_cons, List.length_nil] <;> omega) | rfl | omega | fail) only [kset, wset, hset, dset, bset, reduceAdd, reduceMul, reduceLeDiff, reduceEqDiff, pset, hlen, if_false, if_true, t0])
  · have d3 : decide ((300 : Int) < s.length) = false := decide_eq_false (by omega)
    have hs : s.length ≤ 2 ^ 40 := by omega
    repeat (first | simp (maxSteps := 1000000) only [wset, hset, dset, bset, reduceAdd, reduceMul, reduceLeDiff, reduceEqDiff, pset, hlen, if_false, if_true, t0, t1, Bool.not_true, d3] | simp (maxSteps := 1000000) (disch := first | (simp only [List.length_append, List.length_cons, List.length_nil] <;> omega) | rfl | omega | fail) only [kset, wset, hset, dset, bset, reduceAdd, reduceMul, reduceLeDiff, reduceEqDiff, pset, hlen, if_false, if_true, t0, t1, Bool.not_true, d3])
    refine WF.res T.c28 (r28' T (ol.ext (by repeat first | with_reducible exact Ext.refl _ | refine Ext.app _ ?_)) hsh) ?_
    rintro v g3 ⟨L', hm, ol'⟩
    repeat (first | simp (maxSteps := 1000000) only [wset, hset, dset, bset, reduceAdd, reduceMul, reduceLeDiff, reduceEqDiff, pset, hlen, if_false, if_true, t0, t1] | simp (maxSteps := 1000000) (disch := first | (simp only [List.length_append, List.length_cons, List.length_nil] <;> omega) | rfl | omega | fail) only [kset, wset, hset, dset, bset, reduceAdd, reduceMul, reduceLeDiff, reduceEqDiff, pset, hlen, if_false, if_true, t0, t1])
    refine WF.res T.c84 (r84 T K ol' (w.ext (by repeat first | with_reducible exact Ext.refl _ | refine Ext.app _ ?_))) ?_
    rintro _ g4 rfl
    have hm' : L'.map Prod.fst = L.map Prod.fst := hm
    rw [hm']
    obtain ⟨tx, ec, hpv, htx⟩ : ∃ (tx : List UInt8) (ec : Int), printV (L.map Prod.fst) = .tup [.str tx, .int .i64 ec] ∧ ec = chkHorsS (L.map Prod.fst) ∧ tx = (if chkHorsS (L.map Prod.fst) = 0 then txS (L.map Prod.fst) else []) := by
      by_cases hc : chkHorsS (L.map Prod.fst) = 0
      · exact ⟨txS (L.map Prod.fst), 0, by rw [printV, if_pos hc], hc.symm, by rw [if_pos hc]⟩
      · exact ⟨[], chkHorsS (L.map Prod.fst), by rw [printV, if_neg hc], rfl, by rw [if_neg hc]⟩
    rw [hpv]
    obtain ⟨rfl, htx⟩ := htx
    repeat (first | simp (maxSteps := 1000000) only [wset, hset, dset, bset, reduceAdd, reduceMul, reduceLeDiff, reduceEqDiff, pset, hlen, if_false, if_true, t0, t1] | simp (maxSteps := 1000000) (disch := first | (simp only [List.length_append, List.length_cons, List.length_nil] <;> omega) | rfl | omega | fail) only [kset, wset, hset, dset, bset, reduceAdd, reduceMul, reduceLeDiff, reduceEqDiff, pset, hlen, if_false, if_true, t0, t1])
    refine WF.res T.c85 (r85 T X s hs) ?_
    rintro _ g5 ⟨L1, s1, n1, e1, rfl, o1, hp1⟩
    have ok1 := o1.hors2 (parse_bd hp1)
    repeat (first | simp (maxSteps := 1000000) only [wset, hset, dset, bset, reduceAdd, reduceMul, reduceLeDiff, reduceEqDiff, pset, hlen, if_false, if_true, t0, t1] | simp (maxSteps := 1000000) (disch := first | (simp only [List.length_append, List.length_cons, List.length_nil] <;> omega) | rfl | omega | fail) only [kset, wset, hset, dset, bset, reduceAdd, reduceMul, reduceLeDiff, reduceEqDiff, pset, hlen, if_false, if_true, t0, t1])
    refine WF.res T.c29 (r29 T (ol.ext (by repeat first | with_reducible exact Ext.refl _ | refine Ext.app _ ?_))) ?_
    rintro _ g6 rfl
    have hfin : ∀ {ts2 : TS} {k : AHeap}, ts2.length = 76 → slot ts2 1 = .str s → slot ts2 5 = .str tx → slot ts2 6 = .int .i64 (chkHorsS (L.map Prod.fst)) → slot ts2 7 = s1 → slot ts2 8 = .int .i64 n1 → slot ts2 9 = .int .i64 e1 → slot ts2 10 = .int .i64 (chkHorsS (L.map Prod.fst)) → slot ts2 11 = .str tx → Ext h k → HorsOk k L1 s1 →
        WC P inFn RR [] ts2 k (FQ [(4, none)] (fun v h' => Ext h h' ∧ v = .bool true)) := by
      intro ts2 k hlen2 v1 v5 v6 v7 v8 v9 v10 v11 e ok
      clear hlen
      have hlen := hlen2
      rw [hRR]
      unfold hxT fn13
      simp only [ICode.dr, ICode.tl, ICode.hd]
      repeat (first | simp (maxSteps := 1000000) only [wset, hset, dset, bset, reduceAdd, reduceMul, reduceLeDiff, reduceEqDiff, pset, hlen, if_false, if_true, v1, v5, v6, v7, v8, v9, v10, v11] | simp (maxSteps := 1000000) (disch := first | (simp only [List.length_append, List.length_cons, List.length_nil] <;> omega) | rfl | omega | fail) only [kset, wset, hset, dset, bset, reduceAdd, reduceMul, reduceLeDiff, reduceEqDiff, pset, hlen, if_false, if_true, v1, v5, v6, v7, v8, v9, v10, v11])
      refine WF.res T.c87 (r87 T s hs) ?_
      rintro _ ga ⟨L2, s2, n2, e2, rfl, o2, hp2⟩
      have ok2 := o2.hors2 (parse_bd hp2)
      rw [hp1] at hp2
      have hL12 : L1.map Prod.fst = L2.map Prod.fst := congrArg Prod.fst hp2
      have hn12 : n1 = n2 := congrArg (fun x => x.2.1) hp2
      have he12 : e1 = e2 := congrArg (fun x => x.2.2) hp2
      subst hn12; subst he12
      have b1 := parse_bd hp1
      repeat (first | simp (maxSteps := 1000000) only [wset, hset, dset, bset, reduceAdd, reduceMul, reduceLeDiff, reduceEqDiff, pset, hlen, if_false, if_true, v1, v5, v6, v7, v8, v9, v10, v11, decide_true] | simp (maxSteps := 1000000) (disch := first | (simp only [List.length_append, List.length_cons, List.length_nil] <;> omega) | rfl | omega | fail) only [kset, wset, hset, dset, bset, reduceAdd, reduceMul, reduceLeDiff, reduceEqDiff, pset, hlen, if_false, if_true, v1, v5, v6, v7, v8, v9, v10, v11, decide_true])
      refine WF.res T.c89 (r89 T (ok.ext (by repeat first | with_reducible exact Ext.refl _ | refine Ext.app _ ?_)) (by have := b1.1; simp at this; omega) (fun x hx => by have := (b1.2 x.1 (List.mem_map_of_mem hx)).pl; omega)) ?_
      rintro sv gb ⟨L3, hm3, ok3⟩
      repeat (first | simp (maxSteps := 1000000) only [wset, hset, dset, bset, reduceAdd, reduceMul, reduceLeDiff, reduceEqDiff, pset, hlen, if_false, if_true, v1, v5, v6, v7, v8, v9, v10, v11, decide_true] | simp (maxSteps := 1000000) (disch := first | (simp only [List.length_append, List.length_cons, List.length_nil] <;> omega) | rfl | omega | fail) only [kset, wset, hset, dset, bset, reduceAdd, reduceMul, reduceLeDiff, reduceEqDiff, pset, hlen, if_false, if_true, v1, v5, v6, v7, v8, v9, v10, v11, decide_true])
      refine WF.res T.c88 (r88 T ok3 (ok2.ext (by repeat first | with_reducible exact Ext.refl _ | refine Ext.app _ ?_)) (by rw [← hL12]; exact hm3)) ?_
      rintro _ gc rfl
      repeat (first | simp (maxSteps := 1000000) only [wset, hset, dset, bset, reduceAdd, reduceMul, reduceLeDiff, reduceEqDiff, pset, hlen, if_false, if_true, v1, v5, v6, v7, v8, v9, v10, v11, decide_true] | simp (maxSteps := 1000000) (disch := first | (simp only [List.length_append, List.length_cons, List.length_nil] <;> omega) | rfl | omega | fail) only [kset, wset, hset, dset, bset, reduceAdd, reduceMul, reduceLeDiff, reduceEqDiff, pset, hlen, if_false, if_true, v1, v5, v6, v7, v8, v9, v10, v11, decide_true])
      exact ⟨e.trans (by repeat first | with_reducible exact Ext.refl _ | refine Ext.app _ ?_), trivial⟩
    by_cases hc : chkHorsS (L.map Prod.fst) = 0
    · have d4 : decide (chkHorsS (L.map Prod.fst) = 0) = true := decide_eq_true hc
      rw [if_pos hc] at htx
      have hv := hors_zero hc
      repeat (first | simp (maxSteps := 1000000) only [wset, hset, dset, bset, reduceAdd, reduceMul, reduceLeDiff, reduceEqDiff, pset, hlen, if_false, if_true, t0, t1, d4] | simp (maxSteps := 1000000) (disch := first | (simp only [List.length_append, List.length_cons, List.length_nil] <;> omega) | rfl | omega | fail) only [kset, wset, hset, dset, bset, reduceAdd, reduceMul, reduceLeDiff, reduceEqDiff, pset, hlen, if_false, if_true, t0, t1, d4])
      refine WF.res T.c86 (r86 T (ol.ext (by repeat first | with_reducible exact Ext.refl _ | refine Ext.app _ ?_)) (fun x hx => horT_of (hv.1 x.1 (List.mem_map_of_mem hx))) (by simpa using hv.2)) ?_
      rintro _ g7 rfl
      rw [← htx]
      repeat (first | simp (maxSteps := 1000000) only [wset, hset, dset, bset, reduceAdd, reduceMul, reduceLeDiff, reduceEqDiff, pset, hlen, if_false, if_true, t0, t1, d4] | simp (maxSteps := 1000000) (disch := first | (simp only [List.length_append, List.length_cons, List.length_nil] <;> omega) | rfl | omega | fail) only [kset, wset, hset, dset, bset, reduceAdd, reduceMul, reduceLeDiff, reduceEqDiff, pset, hlen, if_false, if_true, t0, t1, d4])
      exact hfin (by simp only [wset, hset, dset, bset, reduceAdd, reduceMul, reduceLeDiff, reduceEqDiff, pset, hlen, if_false, if_true, t0]) (by simp only [wset, hset, dset, bset, reduceAdd, reduceMul, reduceLeDiff, reduceEqDiff, pset, hlen, if_false, if_true, t1]) (by simp only [wset, hset, dset, bset, reduceAdd, reduceMul, reduceLeDiff, reduceEqDiff, pset, hlen, if_false, if_true, t0]) (by simp only [wset, hset, dset, bset, reduceAdd, reduceMul, reduceLeDiff, reduceEqDiff, pset, hlen, if_false, if_true, t0]) (by simp only [wset, hset, dset, bset, reduceAdd, reduceMul, reduceLeDiff, reduceEqDiff, pset, hlen, if_false, if_true, t0]) (by simp only [wset, hset, dset, bset, reduceAdd, reduceMul, reduceLeDiff, reduceEqDiff, pset, hlen, if_false, if_true, t0]) (by simp only [wset, hset, dset, bset, reduceAdd, reduceMul, reduceLeDiff, reduceEqDiff, pset, hlen, if_false, if_true, t0]) (by simp only [wset, hset, dset, bset, reduceAdd, reduceMul, reduceLeDiff, reduceEqDiff, pset, hlen, if_false, if_true, t0]) (by simp only [wset, hset, dset, bset, reduceAdd, reduceMul, reduceLeDiff, reduceEqDiff, pset, hlen, if_false, if_true, t0]) (by repeat first | with_reducible exact Ext.refl _ | refine Ext.app _ ?_) (ok1.ext (by repeat first | with_reducible exact Ext.refl _ | refine Ext.app _ ?_))
    · have d4 : decide (chkHorsS (L.map Prod.fst) = 0) = false := decide_eq_false hc
      rw [if_neg hc] at htx
      subst htx
      repeat (first | simp (maxSteps := 1000000) only [wset, hset, dset, bset, reduceAdd, reduceMul, reduceLeDiff, reduceEqDiff, pset, hlen, if_false, if_true, t0, t1, d4] | simp (maxSteps := 1000000) (disch := first | (simp only [List.length_append, List.length_cons, List.length_nil] <;> omega) | rfl | omega | fail) only [kset, wset, hset, dset, bset, reduceAdd, reduceMul, reduceLeDiff, reduceEqDiff, pset, hlen, if_false, if_true, t0, t1, d4])
      exact hfin (by simp only [wset, hset, dset, bset, reduceAdd, reduceMul, reduceLeDiff, reduceEqDiff, pset, hlen, if_false, if_true, t0]) (by simp only [wset, hset, dset, bset, reduceAdd, reduceMul, reduceLeDiff, reduceEqDiff, pset, hlen, if_false, if_true, t1]) (by simp only [wset, hset, dset, bset, reduceAdd, reduceMul, reduceLeDiff, reduceEqDiff, pset, hlen, if_false, if_true, t0]) (by simp only [wset, hset, dset, bset, reduceAdd, reduceMul, reduceLeDiff, reduceEqDiff, pset, hlen, if_false, if_true, t0]) (by simp only [wset, hset, dset, bset, reduceAdd, reduceMul, reduceLeDiff, reduceEqDiff, pset, hlen, if_false, if_true, t0]) (by simp only [wset, hset, dset, bset, reduceAdd, reduceMul, reduceLeDiff, reduceEqDiff, pset, hlen, if_false, if_true, t0]) (by simp only [wset, hset, dset, bset, reduceAdd, reduceMul, reduceLeDiff, reduceEqDiff, pset, hlen, if_false, if_true, t0]) (by simp only [wset, hset, dset, bset, reduceAdd, reduceMul, reduceLeDiff, reduceEqDiff, pset, hlen, if_false, if_true, t0]) (by simp only [wset, hset, dset, bset, reduceAdd, reduceMul, reduceLeDiff, reduceEqDiff, pset, hlen, if_false, if_true, t0]) (by repeat first | with_reducible exact Ext.refl _ | refine Ext.app _ ?_) (ok1.ext (by repeat first | with_reducible exact Ext.refl _ | refine Ext.app _ ?_))
end
end Go.Abs
