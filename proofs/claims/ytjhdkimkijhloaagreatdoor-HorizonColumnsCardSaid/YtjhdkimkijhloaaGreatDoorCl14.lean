/- The law HorizonColumns, by the contracts; 'awake' stands as a hypothesis. No condition. -/
import Derived.Test.YtjhdkimkijhloaaGreatDoorCl13
set_option linter.all false
namespace Go.Abs

def cl (k : Nat) : ICode := ((fn7).body.dr k).hd
def clT (k : Nat) : ICode := (fn7).body.dr k
theorem cl_D : clT 12 = .seq (cl 12) (.seq (cl 13) (clT 14)) := rfl

def ICode.inn : ICode → ICode
  | .block _ a => a
  | .loop a => a
  | c => c
def clX : ICode := (cl 11).tl.inn.inn
def clBody : ICode := clX.tl.tl.hd.inn
def clR : ICode := clBody.dr 8
def cb (k : Nat) : ICode := (clBody.dr k).hd
def cx0 : ICode := (cl 11).hd
def cx1 : ICode := clX.hd
def cx2 : ICode := clX.tl.hd
def cx3 : ICode := clX.tl.tl.tl
theorem cl_0 : fn7 = ⟨374, 3, [(6, none)], .seq (cl 0) (.seq (cl 1) (.seq (cl 2) (.seq (cl 3) (clT 4))))⟩ := rfl
theorem cl_A : clT 4 = .seq (cl 4) (.seq (cl 5) (.seq (cl 6) (.seq (cl 7) (clT 8)))) := rfl
def fW (y : Hor × AV) : Hor × AV := (wideH y.1, y.2)
theorem mix_at {α : Type} {f : α → α} {L : List α} {k : Nat} (hk : k < L.length) (h : k < (mix f L k).length) : (mix f L k)[k] = L[k] := by
  have := mix_get (f := f) hk
  rw [List.getElem?_eq_getElem h] at this
  exact Option.some.inj this
theorem cl_C : clT 8 = .seq (cl 8) (.seq (cl 9) (.seq (cl 10) (.seq (cl 11) (clT 12)))) := rfl
theorem cl_11 : cl 11 = .seq cx0 (.block 2 (.loop (.seq cx1 (.seq cx2 (.seq (.block 3 (.seq (cb 0) (.seq (cb 1) (.seq (cb 2) (.seq (cb 3) (.seq (cb 4) (.seq (cb 5) (.seq (cb 6) (.seq (cb 7) clR))))))))) cx3))))) := rfl
theorem iada_i {len b i : Nat} {k : IntKind} (hi : i < len) : iadaF len 1 (.ptr b 0) (.int k (i : Int)) = some (.ptr b i) := by
  simp only [iadaF]; rw [if_pos (by omega)]; simp

theorem Fr.sl {N es : Nat} {h : AHeap} {s : AV} {cs : List (List AV)} (hs : Fr N h s es cs) (h0 : 0 < cs.length) : ∃ b o n e, s = .slice b o n e := by
  cases hs with
  | nil => simp at h0
  | mk _ _ _ => exact ⟨_, _, _, _, rfl⟩

attribute [local irreducible] WP WC WE WB WR WF WL WG WRg
section
variable {P : Program} (T : Tbl P) {h : AHeap}
include T

set_option maxRecDepth 10000 in
set_option maxHeartbeats 1000000 in
theorem columns_D {L : List (Hor × AV)} {V : List (Int × Int)} {F : List Wl} {l sv sw sF : AV} {x : Int} {W0 : AHeap} {ts : TS} {b4 : Nat} (hlen : ts.length = 374) (t0 : slot ts 0 = l) (t4 : slot ts 4 = .ptr b4 0) (t17 : slot ts 17 = sF)
    (m4 : W0[b4]? = some (.cells [sv, sw, .int .i64 x] true false)) (hsh : shortAllS (L.map (·.1)) = true) (ol : HorsOk W0 L l) (hv : IsSl W0 sv 2 (V.map ratRow)) (hvl : V.length ≤ 2 ^ 40) (oF : IsSl W0 sF 4 (F.map wlRow)) (hFl : F.length ≤ 8)
    (hF : chkWellsS (L.map (·.1)) V F = 0) (hmis : misK (L.map (·.1)) V F F.length = []) (hfac : ∃ a b, factorsS (L.map (·.1)) V F = ((a, b), 0) ∧ 512 ≤ a ∧ a ≤ 1024 ∧ 1024 ≤ b ∧ b ≤ 2048) (he : Ext h W0) :
    WC P inFn (clT 12) [] ts W0 (FQ [(6, none)] fun v h' => Ext h h' ∧ v = .bool true) := by
  have q4 := (List.getElem?_eq_some_iff.1 m4).1
  have l4 : ∀ n o, loadF n (.ptr b4 o) (fun z => W0[z]?) = ldB n o (.cells [sv, sw, .int .i64 x] true false) := fun n o => loadF_at m4
  obtain ⟨fa, fb, hfe, hf1, hf2, hf3, hf4⟩ := hfac
  rw [cl_D]
  unfold cl clT fn7
  simp only [ICode.dr, ICode.tl, ICode.hd]
  repeat (first | simp (config := { maxSteps := 1000000 }) only [wset, hset, dset, bset, Nat.reduceAdd, Nat.reduceMul, Nat.reduceLeDiff, Nat.reduceEqDiff, pset, hlen, if_false, if_true, t0, t4, t17, l4] | simp (config := { maxSteps := 1000000 }) (disch := first | (simp only [List.length_append, List.length_cons, List.length_nil] <;> omega) | rfl | omega | fail) only [kset, wset, hset, dset, bset, Nat.reduceAdd, Nat.reduceMul, Nat.reduceLeDiff, Nat.reduceEqDiff, pset, hlen, if_false, if_true, t0, t4, t17, l4])
  refine WF.res T.c28 (r28' T (ol.ext (by repeat first | with_reducible exact Ext.refl _ | refine Ext.app _ ?_)) hsh) ?_
  rintro l1 g1 ⟨L1, hm1, o1⟩
  repeat (first | simp (config := { maxSteps := 1000000 }) only [wset, hset, dset, bset, Nat.reduceAdd, Nat.reduceMul, Nat.reduceLeDiff, Nat.reduceEqDiff, pset, hlen, if_false, if_true, t0, t4, t17, l4] | simp (config := { maxSteps := 1000000 }) (disch := first | (simp only [List.length_append, List.length_cons, List.length_nil] <;> omega) | rfl | omega | fail) only [kset, wset, hset, dset, bset, Nat.reduceAdd, Nat.reduceMul, Nat.reduceLeDiff, Nat.reduceEqDiff, pset, hlen, if_false, if_true, t0, t4, t17, l4])
  refine WF.res T.c42 (r42 T (hv.ext (by repeat first | with_reducible exact Ext.refl _ | refine Ext.app _ ?_)) hvl) ?_
  rintro v1 g2 hv1
  repeat (first | simp (config := { maxSteps := 1000000 }) only [wset, hset, dset, bset, Nat.reduceAdd, Nat.reduceMul, Nat.reduceLeDiff, Nat.reduceEqDiff, pset, hlen, if_false, if_true, t0, t4, t17, l4] | simp (config := { maxSteps := 1000000 }) (disch := first | (simp only [List.length_append, List.length_cons, List.length_nil] <;> omega) | rfl | omega | fail) only [kset, wset, hset, dset, bset, Nat.reduceAdd, Nat.reduceMul, Nat.reduceLeDiff, Nat.reduceEqDiff, pset, hlen, if_false, if_true, t0, t4, t17, l4])
  refine WR.appz (N := 0) at_new (Nat.zero_le _) (oF.ext (by repeat first | with_reducible exact Ext.refl _ | refine Ext.app _ ?_)) (by simp; omega) fun s1 g3 hs1 => ?_
  repeat (first | simp (config := { maxSteps := 1000000 }) only [wset, hset, dset, bset, Nat.reduceAdd, Nat.reduceMul, Nat.reduceLeDiff, Nat.reduceEqDiff, pset, hlen, if_false, if_true, t0, t4, t17, l4] | simp (config := { maxSteps := 1000000 }) (disch := first | (simp only [List.length_append, List.length_cons, List.length_nil] <;> omega) | rfl | omega | fail) only [kset, wset, hset, dset, bset, Nat.reduceAdd, Nat.reduceMul, Nat.reduceLeDiff, Nat.reduceEqDiff, pset, hlen, if_false, if_true, t0, t4, t17, l4])
  refine WF.res T.c43 (r43 T (o1.ext (by repeat first | with_reducible exact Ext.refl _ | refine Ext.app _ ?_)) (hv1.isSl.ext (by repeat first | with_reducible exact Ext.refl _ | refine Ext.app _ ?_)) hvl (hs1.isSl.ext (by repeat first | with_reducible exact Ext.refl _ | refine Ext.app _ ?_))) ?_
  rintro _ g4 ⟨s24, rfl, o24⟩
  rw [hm1] at o24 ⊢
  rw [hF] at o24 ⊢
  rw [if_pos rfl, hmis] at o24
  repeat (first | simp (config := { maxSteps := 1000000 }) only [wset, hset, dset, bset, Nat.reduceAdd, Nat.reduceMul, Nat.reduceLeDiff, Nat.reduceEqDiff, pset, hlen, if_false, if_true, t0, t4, t17, l4] | simp (config := { maxSteps := 1000000 }) (disch := first | (simp only [List.length_append, List.length_cons, List.length_nil] <;> omega) | rfl | omega | fail) only [kset, wset, hset, dset, bset, Nat.reduceAdd, Nat.reduceMul, Nat.reduceLeDiff, Nat.reduceEqDiff, pset, hlen, if_false, if_true, t0, t4, t17, l4])
  refine WF.res T.c28 (r28' T (ol.ext (by repeat first | with_reducible exact Ext.refl _ | refine Ext.app _ ?_)) hsh) ?_
  rintro l2 g5 ⟨L2, hm2, o2⟩
  repeat (first | simp (config := { maxSteps := 1000000 }) only [wset, hset, dset, bset, Nat.reduceAdd, Nat.reduceMul, Nat.reduceLeDiff, Nat.reduceEqDiff, pset, hlen, if_false, if_true, t0, t4, t17, l4] | simp (config := { maxSteps := 1000000 }) (disch := first | (simp only [List.length_append, List.length_cons, List.length_nil] <;> omega) | rfl | omega | fail) only [kset, wset, hset, dset, bset, Nat.reduceAdd, Nat.reduceMul, Nat.reduceLeDiff, Nat.reduceEqDiff, pset, hlen, if_false, if_true, t0, t4, t17, l4])
  refine WF.res T.c42 (r42 T (hv.ext (by repeat first | with_reducible exact Ext.refl _ | refine Ext.app _ ?_)) hvl) ?_
  rintro v2 g6 hv2
  repeat (first | simp (config := { maxSteps := 1000000 }) only [wset, hset, dset, bset, Nat.reduceAdd, Nat.reduceMul, Nat.reduceLeDiff, Nat.reduceEqDiff, pset, hlen, if_false, if_true, t0, t4, t17, l4] | simp (config := { maxSteps := 1000000 }) (disch := first | (simp only [List.length_append, List.length_cons, List.length_nil] <;> omega) | rfl | omega | fail) only [kset, wset, hset, dset, bset, Nat.reduceAdd, Nat.reduceMul, Nat.reduceLeDiff, Nat.reduceEqDiff, pset, hlen, if_false, if_true, t0, t4, t17, l4])
  refine WR.appz (N := 0) at_new (Nat.zero_le _) (oF.ext (by repeat first | with_reducible exact Ext.refl _ | refine Ext.app _ ?_)) (by simp; omega) fun s2 g7 hs2 => ?_
  repeat (first | simp (config := { maxSteps := 1000000 }) only [wset, hset, dset, bset, Nat.reduceAdd, Nat.reduceMul, Nat.reduceLeDiff, Nat.reduceEqDiff, pset, hlen, if_false, if_true, t0, t4, t17, l4] | simp (config := { maxSteps := 1000000 }) (disch := first | (simp only [List.length_append, List.length_cons, List.length_nil] <;> omega) | rfl | omega | fail) only [kset, wset, hset, dset, bset, Nat.reduceAdd, Nat.reduceMul, Nat.reduceLeDiff, Nat.reduceEqDiff, pset, hlen, if_false, if_true, t0, t4, t17, l4])
  refine WF.res T.c45 (r45 T (o2.ext (by repeat first | with_reducible exact Ext.refl _ | refine Ext.app _ ?_)) (hv2.isSl.ext (by repeat first | with_reducible exact Ext.refl _ | refine Ext.app _ ?_)) hvl (hs2.isSl.ext (by repeat first | with_reducible exact Ext.refl _ | refine Ext.app _ ?_))) ?_
  rintro _ g8 rfl
  rw [hm2, hfe]
  repeat (first | simp (config := { maxSteps := 1000000 }) only [wset, hset, dset, bset, Nat.reduceAdd, Nat.reduceMul, Nat.reduceLeDiff, Nat.reduceEqDiff, pset, hlen, if_false, if_true, t0, t4, t17, l4, o24.lenm, List.length_nil, Int.natCast_zero, decide_true, decide_eq_true hf1, decide_eq_true hf2, decide_eq_true hf3, decide_eq_true hf4] | simp (config := { maxSteps := 1000000 }) (disch := first | (simp only [List.length_append, List.length_cons, List.length_nil] <;> omega) | rfl | omega | fail) only [kset, wset, hset, dset, bset, Nat.reduceAdd, Nat.reduceMul, Nat.reduceLeDiff, Nat.reduceEqDiff, pset, hlen, if_false, if_true, t0, t4, t17, l4, o24.lenm, List.length_nil, Int.natCast_zero, decide_true, decide_eq_true hf1, decide_eq_true hf2, decide_eq_true hf3, decide_eq_true hf4])
  exact ⟨Ext.trans he (by repeat first | with_reducible exact Ext.refl _ | refine Ext.app _ ?_), trivial⟩

set_option maxRecDepth 10000 in
set_option maxHeartbeats 1000000 in
theorem columns_R {V D : List (Int × Int)} {F : List Wl} {nn : List Int} {sv sw s7 sF : AV} {x time depth now sp : Int} {h0 g : AHeap} {ts : TS} {b4 b5 k : Nat} {ks : List Kt} {Q : Ex → TS → AHeap → Prop} (hlen : ts.length = 374)
    (t4 : slot ts 4 = .ptr b4 0) (t5 : slot ts 5 = .ptr b5 0) (t7 : slot ts 7 = s7) (t14 : slot ts 14 = .int .i64 time) (t15 : slot ts 15 = .int .i64 depth) (t17 : slot ts 17 = sF) (t18 : slot ts 18 = .int .i64 k) (t22 : slot ts 22 = .int .i64 now)
    (m4 : h0[b4]? = some (.cells [sv, sw, .int .i64 x] true false)) (m5 : h0[b5]? = some (.cells (nn.map (AV.int .u8)) true false)) (hn8 : nn.length = 8) (hnb : ∀ y ∈ nn, 0 ≤ y ∧ y ≤ 255) (o7 : IsSl h0 s7 2 (D.map ratRow)) (hv : IsSl h0 sv 2 (V.map ratRow)) (hF : Fr h0.length (h0 ++ g) sF 4 (F.map wlRow)) (hFl : F.length ≤ 8)
    (hk8 : k < 8) (hkV : k < V.length) (hkD : k < D.length) (v1 : 1 ≤ V[k].1 ∧ V[k].1 ≤ V[k].2 ∧ V[k].2 ≤ 1000) (hsp : sp = V[k].1 + (nn[(k + 3) % 8]'(by omega)).tmod (V[k].2 - V[k].1 + 1)) (hnow : 0 ≤ now - time ∧ now - time ≤ 30000000) (hnb2 : -2000 ≤ now ∧ now ≤ 30000000) (hde : 0 ≤ depth ∧ depth ≤ 300000000000)
    (hd : D[k].1 ≤ depth + (now - time) * sp ∧ depth + (now - time) * sp ≤ D[k].2)
    (K : ∀ (ts' : TS) (g' : AHeap) (sF' : AV) (F' : List Wl), ts'.length = 374 → slot ts' 0 = slot ts 0 → slot ts' 4 = slot ts 4 → slot ts' 5 = slot ts 5 → slot ts' 7 = slot ts 7 → slot ts' 12 = slot ts 12 → slot ts' 16 = slot ts 16 → slot ts' 145 = slot ts 145 → slot ts' 146 = slot ts 146 → slot ts' 147 = slot ts 147 →
      slot ts' 14 = .int .i64 now → slot ts' 15 = .int .i64 (depth + (now - time) * sp) → slot ts' 17 = sF' → Fr h0.length (h0 ++ g') sF' 4 (F'.map wlRow) → (F' = F ∨ (F' = F ++ [⟨x, k, depth + (now - time) * sp, nn[7]'(by omega)⟩] ∧ depth + (now - time) * sp ≤ 100000000)) → WE P inFn .normal ks ts' (h0 ++ g') Q) :
    WC P inFn clR ks ts (h0 ++ g) Q := by
  have q4 := (List.getElem?_eq_some_iff.1 m4).1
  have q5 := (List.getElem?_eq_some_iff.1 m5).1
  have l4 : ∀ {n : Option Nat} {o : Nat} {kk : AHeap}, Ext h0 kk → loadF n (.ptr b4 o) (fun z => kk[z]?) = ldB n o (.cells [sv, sw, .int .i64 x] true false) := fun e => loadF_at (e.some m4)
  have l5 : ∀ {n : Option Nat} {o : Nat} {kk : AHeap}, Ext h0 kk → loadF n (.ptr b5 o) (fun z => kk[z]?) = ldB n o (.cells (nn.map (AV.int .u8)) true false) := fun e => loadF_at (e.some m5)
  have n7 : (nn.map (AV.int .u8))[7]? = some (.int .u8 (nn[7]'(by omega))) := by rw [List.getElem?_map, List.getElem?_eq_getElem (by omega)]; rfl
  obtain ⟨j, hj⟩ : ∃ j, j = (k + 3) % 8 := ⟨_, rfl⟩
  have hj8 : j < 8 := by omega
  have nj : (nn.map (AV.int .u8))[j]? = some (.int .u8 (nn[j]'(by omega))) := by rw [List.getElem?_map, List.getElem?_eq_getElem (by omega)]; rfl
  have ej : ((k : Int) + 3).tmod 8 = (j : Int) := by rw [Int.tmod_eq_emod_of_nonneg (by omega)]; omega
  have hnj := hnb (nn[j]'(by omega)) (List.getElem_mem _)
  have hn7 := hnb (nn[7]'(by omega)) (List.getElem_mem _)
  simp only [← hj] at hsp
  have r1 : 0 ≤ (nn[j]'(by omega)).tmod (V[k].2 - V[k].1 + 1) := Int.tmod_nonneg _ hnj.1
  have r2 : (nn[j]'(by omega)).tmod (V[k].2 - V[k].1 + 1) < V[k].2 - V[k].1 + 1 := Int.tmod_lt_of_pos _ (by omega)
  have hrem : (V[k].2 - V[k].1 + 1) ≠ 0 := by omega
  have wk : IntKind.i64.wrap ((k : Int) + 3) = (k : Int) + 3 := wrap_in (by omega) (by omega)
  have w1 : IntKind.i64.wrap (IntKind.i64.wrap (V[k].2 - V[k].1) + 1) = V[k].2 - V[k].1 + 1 := by rw [wrap_in (n := V[k].2 - V[k].1) (by omega) (by omega), wrap_in (by omega) (by omega)]
  have w2 : IntKind.i64.wrap (V[k].1 + (nn[j]'(by omega)).tmod (V[k].2 - V[k].1 + 1)) = sp := by rw [wrap_in (by omega) (by omega)]; exact hsp.symm
  have hspb : 0 ≤ sp ∧ sp ≤ 1000 := by omega
  have m1 := mul_bd (a := now - time) (b := sp) (A := 30000000) (B := 1000) hnow hspb
  have w3 : IntKind.i64.wrap (now - time) = now - time := wrap_in (by omega) (by omega)
  have w4 : IntKind.i64.wrap ((now - time) * sp) = (now - time) * sp := wrap_in (by omega) (by omega)
  have w5 : IntKind.i64.wrap (depth + (now - time) * sp) = depth + (now - time) * sp := wrap_in (by omega) (by omega)
  have wc : IntKind.i64.wrap (nn[j]'(by omega)) = nn[j]'(by omega) := wrap_in (by omega) (by omega)
  have wc7 : IntKind.i64.wrap (nn[7]'(by omega)) = nn[7]'(by omega) := wrap_in (by omega) (by omega)
  have lD0 : ∀ {kk : AHeap}, Ext h0 kk → loadF none (elf s7 2 k 0) (fun b => kk[b]?) = some (.int .i64 D[k].1, .keep) := fun {kk} e => o7.lfm (off := 0) hkD rfl e
  have lD0' : ∀ {kk : AHeap}, Ext h0 kk → loadF none (elp s7 2 k) (fun b => kk[b]?) = some (.int .i64 D[k].1, .keep) := fun {kk} e => o7.l1m hkD rfl e
  have lD1 : ∀ {kk : AHeap}, Ext h0 kk → loadF none (elf s7 2 k 1) (fun b => kk[b]?) = some (.int .i64 D[k].2, .keep) := fun {kk} e => o7.lfm (off := 1) hkD rfl e
  have lV : ∀ {kk : AHeap}, Ext h0 kk → loadF (some 2) (elp sv 2 k) (fun b => kk[b]?) = some (.agg (ratRow V[k]), .keep) := fun {kk} e => hv.ldm hkV e
  generalize hDD : depth + (now - time) * sp = dd at *
  unfold clR clBody clX cl fn7
  simp only [ICode.dr, ICode.tl, ICode.hd, ICode.inn]
  have e7 : iadaF 8 1 (.ptr b5 0) (.int .i64 7) = some (.ptr b5 7) := iada_i (i := 7) (by decide)
  have c1 : decide (dd < D[k].1) = false := decide_eq_false (by omega)
  have c2 : decide (D[k].2 < dd) = false := decide_eq_false (by omega)
  by_cases hle : dd ≤ 100000000
  · repeat (first | simp (config := { maxSteps := 1000000 }) only [wset, hset, dset, bset, Nat.reduceAdd, Nat.reduceMul, Nat.reduceLeDiff, Nat.reduceEqDiff, pset, hlen, if_false, if_true, t4, t5, t7, t14, t15, t17, t18, t22, l4, l5, hv.ixm hkV, lV, ej, wk, iada_i hj8, nj, wc, w1, w2, w3, w4, hDD, w5, bin_rem hrem, o7.ixm hkD, lD0, lD1, lD0', bin_rem (show (8 : Int) ≠ 0 by decide), c1, c2, decide_eq_true hle, e7, n7, wc7] | simp (config := { maxSteps := 1000000 }) (disch := first | (simp only [List.length_append, List.length_cons, List.length_nil] <;> omega) | rfl | omega | fail) only [kset, wset, hset, dset, bset, Nat.reduceAdd, Nat.reduceMul, Nat.reduceLeDiff, Nat.reduceEqDiff, pset, hlen, if_false, if_true, t4, t5, t7, t14, t15, t17, t18, t22, l4, l5, hv.ixm hkV, lV, ej, wk, iada_i hj8, nj, wc, w1, w2, w3, w4, hDD, w5, bin_rem hrem, o7.ixm hkD, lD0, lD1, lD0', bin_rem (show (8 : Int) ≠ 0 by decide), c1, c2, decide_eq_true hle, e7, n7, wc7])
    refine WR.app1 (h0 := h0) (cs := F.map wlRow) (ys := [wlRow ⟨x, k, dd, nn[7]'(by omega)⟩]) ?f1 (Fr.push (N := 0) (Nat.zero_le _) [wlRow ⟨x, k, dd, nn[7]'(by omega)⟩] (by simp)).isSl (by decide) (by simp) (by simp; omega) (by repeat first | with_reducible exact Ext.refl _ | refine Ext.app _ ?_) ?_
    case f1 => exact (hF.app _).app _
    intro g' hl' hff hkp
    have hrow : F.map wlRow ++ [wlRow ⟨x, k, dd, nn[7]'(by omega)⟩] = (F ++ [(⟨x, k, dd, nn[7]'(by omega)⟩ : Wl)]).map wlRow := by rw [List.map_append]; rfl
    rw [hrow] at hff ⊢
    repeat (first | simp (config := { maxSteps := 1000000 }) only [wset, hset, dset, bset, Nat.reduceAdd, Nat.reduceMul, Nat.reduceLeDiff, Nat.reduceEqDiff, pset, hlen, if_false, if_true, t4, t5, t7, t14, t15, t17, t18, t22] | simp (config := { maxSteps := 1000000 }) (disch := first | (simp only [List.length_append, List.length_cons, List.length_nil] <;> omega) | rfl | omega | fail) only [kset, wset, hset, dset, bset, Nat.reduceAdd, Nat.reduceMul, Nat.reduceLeDiff, Nat.reduceEqDiff, pset, hlen, if_false, if_true, t4, t5, t7, t14, t15, t17, t18, t22])
    exact K _ g' _ _ (by simp only [wset, hset, dset, bset, Nat.reduceAdd, Nat.reduceMul, Nat.reduceLeDiff, Nat.reduceEqDiff, pset, hlen, if_false, if_true, t4]) (by simp only [wset, hset, dset, bset, Nat.reduceAdd, Nat.reduceMul, Nat.reduceLeDiff, Nat.reduceEqDiff, pset, hlen, if_false, if_true, t4]) (by simp only [wset, hset, dset, bset, Nat.reduceAdd, Nat.reduceMul, Nat.reduceLeDiff, Nat.reduceEqDiff, pset, hlen, if_false, if_true, t4]) (by simp only [wset, hset, dset, bset, Nat.reduceAdd, Nat.reduceMul, Nat.reduceLeDiff, Nat.reduceEqDiff, pset, hlen, if_false, if_true, t5]) (by simp only [wset, hset, dset, bset, Nat.reduceAdd, Nat.reduceMul, Nat.reduceLeDiff, Nat.reduceEqDiff, pset, hlen, if_false, if_true, t7]) (by simp only [wset, hset, dset, bset, Nat.reduceAdd, Nat.reduceMul, Nat.reduceLeDiff, Nat.reduceEqDiff, pset, hlen, if_false, if_true, t4]) (by simp only [wset, hset, dset, bset, Nat.reduceAdd, Nat.reduceMul, Nat.reduceLeDiff, Nat.reduceEqDiff, pset, hlen, if_false, if_true, t4]) (by simp only [wset, hset, dset, bset, Nat.reduceAdd, Nat.reduceMul, Nat.reduceLeDiff, Nat.reduceEqDiff, pset, hlen, if_false, if_true, t4]) (by simp only [wset, hset, dset, bset, Nat.reduceAdd, Nat.reduceMul, Nat.reduceLeDiff, Nat.reduceEqDiff, pset, hlen, if_false, if_true, t4]) (by simp only [wset, hset, dset, bset, Nat.reduceAdd, Nat.reduceMul, Nat.reduceLeDiff, Nat.reduceEqDiff, pset, hlen, if_false, if_true, t4]) (by simp only [wset, hset, dset, bset, Nat.reduceAdd, Nat.reduceMul, Nat.reduceLeDiff, Nat.reduceEqDiff, pset, hlen, if_false, if_true, t4]) (by simp only [wset, hset, dset, bset, Nat.reduceAdd, Nat.reduceMul, Nat.reduceLeDiff, Nat.reduceEqDiff, pset, hlen, if_false, if_true, t4]) (by simp only [wset, hset, dset, bset, Nat.reduceAdd, Nat.reduceMul, Nat.reduceLeDiff, Nat.reduceEqDiff, pset, hlen, if_false, if_true, t17]) hff (.inr ⟨rfl, hle⟩)
  · repeat (first | simp (config := { maxSteps := 1000000 }) only [wset, hset, dset, bset, Nat.reduceAdd, Nat.reduceMul, Nat.reduceLeDiff, Nat.reduceEqDiff, pset, hlen, if_false, if_true, t4, t5, t7, t14, t15, t17, t18, t22, l4, l5, hv.ixm hkV, lV, ej, wk, iada_i hj8, nj, wc, w1, w2, w3, w4, hDD, w5, bin_rem hrem, o7.ixm hkD, lD0, lD1, lD0', bin_rem (show (8 : Int) ≠ 0 by decide), c1, c2, decide_eq_false hle] | simp (config := { maxSteps := 1000000 }) (disch := first | (simp only [List.length_append, List.length_cons, List.length_nil] <;> omega) | rfl | omega | fail) only [kset, wset, hset, dset, bset, Nat.reduceAdd, Nat.reduceMul, Nat.reduceLeDiff, Nat.reduceEqDiff, pset, hlen, if_false, if_true, t4, t5, t7, t14, t15, t17, t18, t22, l4, l5, hv.ixm hkV, lV, ej, wk, iada_i hj8, nj, wc, w1, w2, w3, w4, hDD, w5, bin_rem hrem, o7.ixm hkD, lD0, lD1, lD0', bin_rem (show (8 : Int) ≠ 0 by decide), c1, c2, decide_eq_false hle])
    rw [List.append_assoc]
    exact K _ _ sF F (by simp only [wset, hset, dset, bset, Nat.reduceAdd, Nat.reduceMul, Nat.reduceLeDiff, Nat.reduceEqDiff, pset, hlen, if_false, if_true, t4]) (by simp only [wset, hset, dset, bset, Nat.reduceAdd, Nat.reduceMul, Nat.reduceLeDiff, Nat.reduceEqDiff, pset, hlen, if_false, if_true, t4]) (by simp only [wset, hset, dset, bset, Nat.reduceAdd, Nat.reduceMul, Nat.reduceLeDiff, Nat.reduceEqDiff, pset, hlen, if_false, if_true, t4]) (by simp only [wset, hset, dset, bset, Nat.reduceAdd, Nat.reduceMul, Nat.reduceLeDiff, Nat.reduceEqDiff, pset, hlen, if_false, if_true, t5]) (by simp only [wset, hset, dset, bset, Nat.reduceAdd, Nat.reduceMul, Nat.reduceLeDiff, Nat.reduceEqDiff, pset, hlen, if_false, if_true, t7]) (by simp only [wset, hset, dset, bset, Nat.reduceAdd, Nat.reduceMul, Nat.reduceLeDiff, Nat.reduceEqDiff, pset, hlen, if_false, if_true, t4]) (by simp only [wset, hset, dset, bset, Nat.reduceAdd, Nat.reduceMul, Nat.reduceLeDiff, Nat.reduceEqDiff, pset, hlen, if_false, if_true, t4]) (by simp only [wset, hset, dset, bset, Nat.reduceAdd, Nat.reduceMul, Nat.reduceLeDiff, Nat.reduceEqDiff, pset, hlen, if_false, if_true, t4]) (by simp only [wset, hset, dset, bset, Nat.reduceAdd, Nat.reduceMul, Nat.reduceLeDiff, Nat.reduceEqDiff, pset, hlen, if_false, if_true, t4]) (by simp only [wset, hset, dset, bset, Nat.reduceAdd, Nat.reduceMul, Nat.reduceLeDiff, Nat.reduceEqDiff, pset, hlen, if_false, if_true, t4]) (by simp only [wset, hset, dset, bset, Nat.reduceAdd, Nat.reduceMul, Nat.reduceLeDiff, Nat.reduceEqDiff, pset, hlen, if_false, if_true, t4]) (by simp only [wset, hset, dset, bset, Nat.reduceAdd, Nat.reduceMul, Nat.reduceLeDiff, Nat.reduceEqDiff, pset, hlen, if_false, if_true, t4]) (by simp only [wset, hset, dset, bset, Nat.reduceAdd, Nat.reduceMul, Nat.reduceLeDiff, Nat.reduceEqDiff, pset, hlen, if_false, if_true, t17]) (by rw [← List.append_assoc]; exact hF.app _) (.inl rfl)

set_option maxRecDepth 10000 in
set_option maxHeartbeats 2000000 in
theorem columns_C {L : List (Hor × AV)} {V D M : List (Int × Int)} {nn : List Int} {l sv sw s7 s12 : AV} {x : Int} {W0 : AHeap} {ts : TS} {b4 b5 : Nat} (hlen : ts.length = 374) (t0 : slot ts 0 = l) (t4 : slot ts 4 = .ptr b4 0) (t5 : slot ts 5 = .ptr b5 0) (t7 : slot ts 7 = s7) (t12 : slot ts 12 = s12)
    (m4 : W0[b4]? = some (.cells [sv, sw, .int .i64 x] true false)) (m5 : W0[b5]? = some (.cells (nn.map (AV.int .u8)) true false)) (hn8 : nn.length = 8) (hnb : ∀ y ∈ nn, 0 ≤ y ∧ y ≤ 255) (o7 : IsSl W0 s7 2 (D.map ratRow)) (o12 : IsSl W0 s12 2 (M.map ratRow))
    (hD : D = depthsS (0, 0) (0, 0) ((L.map (·.1)).zip V) x) (hM : M = depthsS (0, 0) (0, 0) (((L.map (·.1)).map wideH).zip (V.map wideV)) x)
    (hsh : shortAllS (L.map (·.1)) = true) (ol : HorsOk W0 L l) (hv : IsSl W0 sv 2 (V.map ratRow)) (hvl : V.length ≤ 2 ^ 40) (hz : chkVelS (L.map (·.1)) V = 0) (ha : allHasS (L.map (·.1)) x = true) (hxr : 0 ≤ x ∧ x ≤ 255) (he : Ext h W0) :
    WC P inFn (clT 8) [] ts W0 (FQ [(6, none)] fun v h' => Ext h h' ∧ v = .bool true) := by
  have q4 := (List.getElem?_eq_some_iff.1 m4).1
  have q5 := (List.getElem?_eq_some_iff.1 m5).1
  have z := vel_zero hz
  have hVl : V.length = L.length := by have := z.2.2.1; simpa using this
  have hL8 : L.length ≤ 8 := by have := z.2.1; simpa using this
  have hn : ∀ y ∈ L, HorV y.1 := fun y hy => z.1 _ (List.mem_map_of_mem hy)
  have hall : ∀ y ∈ L, hasS y.1 x = true := fun y hy => List.all_eq_true.1 ha _ (List.mem_map_of_mem hy)
  have hsl := short_all hsh
  rw [cl_C, cl_11]
  unfold cb cx0 cx1 cx2 cx3 clBody clX cl fn7
  simp only [ICode.dr, ICode.tl, ICode.hd, ICode.inn]
  repeat (first | simp (config := { maxSteps := 1000000 }) only [wset, hset, dset, bset, Nat.reduceAdd, Nat.reduceMul, Nat.reduceLeDiff, Nat.reduceEqDiff, pset, hlen, if_false, if_true, t0, t4, t5, t7, t12, ol.sl.lenm] | simp (config := { maxSteps := 1000000 }) (disch := first | (simp only [List.length_append, List.length_cons, List.length_nil] <;> omega) | rfl | omega | fail) only [kset, wset, hset, dset, bset, Nat.reduceAdd, Nat.reduceMul, Nat.reduceLeDiff, Nat.reduceEqDiff, pset, hlen, if_false, if_true, t0, t4, t5, t7, t12, ol.sl.lenm])
  refine WL.inv T.mix (fun n ts' h' => ∃ (k : Nat) (time depth : Int) (a d a' d' : Int × Int) (F : List Wl) (sF : AV) (g' : AHeap), ClI L V x (nn[7]'(by omega)) D M k time depth a d a' d' F ∧ n = L.length - k ∧ h' = W0 ++ [ABlk.cells [AV.int IntKind.i64 d.1, AV.int IntKind.i64 d.2] true false] ++ g' ∧ Fr (W0.length + 1) h' sF 4 (F.map wlRow) ∧ ts'.length = 374 ∧ slot ts' 0 = l ∧ slot ts' 4 = .ptr b4 0 ∧ slot ts' 5 = .ptr b5 0 ∧ slot ts' 7 = s7 ∧ slot ts' 12 = s12 ∧ slot ts' 14 = .int .i64 time ∧ slot ts' 15 = .int .i64 depth ∧ slot ts' 16 = .ptr W0.length 0 ∧ slot ts' 17 = sF ∧ slot ts' 145 = l ∧ slot ts' 146 = .int .i64 L.length ∧ slot ts' 147 = .int .i64 k) L.length
    ⟨0, 0, 0, (0, 0), (0, 0), (0, 0), (0, 0), [], .nilSlice, [], by rw [hD, hM]; exact ClI.start, rfl, by rw [List.append_nil], .nil, (by simp only [wset, hset, dset, bset, Nat.reduceAdd, Nat.reduceMul, Nat.reduceLeDiff, Nat.reduceEqDiff, pset, hlen, if_false, if_true, t0]), (by simp only [wset, hset, dset, bset, Nat.reduceAdd, Nat.reduceMul, Nat.reduceLeDiff, Nat.reduceEqDiff, pset, hlen, if_false, if_true, t0]), (by simp only [wset, hset, dset, bset, Nat.reduceAdd, Nat.reduceMul, Nat.reduceLeDiff, Nat.reduceEqDiff, pset, hlen, if_false, if_true, t4]), (by simp only [wset, hset, dset, bset, Nat.reduceAdd, Nat.reduceMul, Nat.reduceLeDiff, Nat.reduceEqDiff, pset, hlen, if_false, if_true, t5]), (by simp only [wset, hset, dset, bset, Nat.reduceAdd, Nat.reduceMul, Nat.reduceLeDiff, Nat.reduceEqDiff, pset, hlen, if_false, if_true, t7]), (by simp only [wset, hset, dset, bset, Nat.reduceAdd, Nat.reduceMul, Nat.reduceLeDiff, Nat.reduceEqDiff, pset, hlen, if_false, if_true, t12]), (by simp only [wset, hset, dset, bset, Nat.reduceAdd, Nat.reduceMul, Nat.reduceLeDiff, Nat.reduceEqDiff, pset, hlen, if_false, if_true, t0]), (by simp only [wset, hset, dset, bset, Nat.reduceAdd, Nat.reduceMul, Nat.reduceLeDiff, Nat.reduceEqDiff, pset, hlen, if_false, if_true, t0]), (by simp only [wset, hset, dset, bset, Nat.reduceAdd, Nat.reduceMul, Nat.reduceLeDiff, Nat.reduceEqDiff, pset, hlen, if_false, if_true, t0]), (by simp only [wset, hset, dset, bset, Nat.reduceAdd, Nat.reduceMul, Nat.reduceLeDiff, Nat.reduceEqDiff, pset, hlen, if_false, if_true, t0]), (by simp only [wset, hset, dset, bset, Nat.reduceAdd, Nat.reduceMul, Nat.reduceLeDiff, Nat.reduceEqDiff, pset, hlen, if_false, if_true, t0]), (by simp only [wset, hset, dset, bset, Nat.reduceAdd, Nat.reduceMul, Nat.reduceLeDiff, Nat.reduceEqDiff, pset, hlen, if_false, if_true, t0]), (by simp only [wset, hset, dset, bset, Nat.reduceAdd, Nat.reduceMul, Nat.reduceLeDiff, Nat.reduceEqDiff, pset, hlen, if_false, if_true]; rfl)⟩ ?_
  rintro _ ts2 _ ⟨k, time, depth, a, d, a', d', F, sF, g', c, rfl, rfl, hF, hlen, t0, t4, t5, t7, t12, t14, t15, t16, t17, t145, t146, t147⟩
  by_cases hlt : k < L.length
  · have e3 : (k : Int) < L.length := by omega
    have hkV : k < V.length := by omega
    have ok := ol.all L[k] (List.getElem_mem hlt)
    have hH := hn L[k] (List.getElem_mem hlt)
    have hhx := hall L[k] (List.getElem_mem hlt)
    have v1 := z.2.2.2 V[k] (List.getElem_mem hkV)
    obtain ⟨kD, kM, eD, c1, c2, c3, c4, c5⟩ := c.cmp hlt hVl hH hhx ⟨v1.1, v1.2.2.2.2, v1.2.2.2.1⟩
    have hp : chkPlaceS L[k].1 x = 0 := by rw [chkPlaceS, if_pos (horV_iff.2 hH), hhx]; rfl
    have hpl := hsl.2 L[k] (List.getElem_mem hlt)
    have lM0 : ∀ {kk : AHeap}, Ext W0 kk → loadF none (elf s12 2 k 0) (fun b => kk[b]?) = some (.int .i64 M[k].1, .keep) := fun {kk} e => o12.lfm (off := 0) kM rfl e
    have lM1 : ∀ {kk : AHeap}, Ext W0 kk → loadF none (elf s12 2 k 1) (fun b => kk[b]?) = some (.int .i64 M[k].2, .keep) := fun {kk} e => o12.lfm (off := 1) kM rfl e
    have lD0 : ∀ {kk : AHeap}, Ext W0 kk → loadF none (elf s7 2 k 0) (fun b => kk[b]?) = some (.int .i64 D[k].1, .keep) := fun {kk} e => o7.lfm (off := 0) kD rfl e
    have lD1 : ∀ {kk : AHeap}, Ext W0 kk → loadF none (elf s7 2 k 1) (fun b => kk[b]?) = some (.int .i64 D[k].2, .keep) := fun {kk} e => o7.lfm (off := 1) kD rfl e
    have lD : ∀ {kk : AHeap}, Ext W0 kk → loadF (some 2) (elp s7 2 k) (fun b => kk[b]?) = some (.agg (ratRow D[k]), .keep) := fun {kk} e => o7.ldm kD e
    have l4 : ∀ {n : Option Nat} {o : Nat} {kk : AHeap}, Ext W0 kk → loadF n (.ptr b4 o) (fun z => kk[z]?) = ldB n o (.cells [sv, sw, .int .i64 x] true false) := fun e => loadF_at (e.some m4)
    have l5 : ∀ {n : Option Nat} {o : Nat} {kk : AHeap}, Ext W0 kk → loadF n (.ptr b5 o) (fun z => kk[z]?) = ldB n o (.cells (nn.map (AV.int .u8)) true false) := fun e => loadF_at (e.some m5)
    have y1 : decide (D[k].1 < M[k].1) = false := decide_eq_false (by omega)
    have y2 : decide (M[k].2 < D[k].2) = false := decide_eq_false (by omega)
    have y3 : decide (D[k].2 < D[k].1) = false := decide_eq_false (by omega)
    have y4 : decide (D[k].1 < d.1) = false := decide_eq_false (by omega)
    have y5 : decide (D[k].2 < d.2) = false := decide_eq_false (by omega)
    repeat (first | simp (config := { maxSteps := 1000000 }) only [wset, hset, dset, bset, Nat.reduceAdd, Nat.reduceMul, Nat.reduceLeDiff, Nat.reduceEqDiff, pset, hlen, if_false, if_true, t0, t4, t5, t7, t12, t14, t15, t16, t17, t145, t146, t147, e3, decide_true, ol.sl.ixm hlt, ol.sl.ldm hlt, ok.sl.one, o12.ixm kM, o7.ixm kD, lM0, lM1, lD0, lD1, y1, y2, y3, y4, y5, lD] | simp (config := { maxSteps := 1000000 }) (disch := first | (simp only [List.length_append, List.length_cons, List.length_nil] <;> omega) | rfl | omega | fail) only [kset, wset, hset, dset, bset, Nat.reduceAdd, Nat.reduceMul, Nat.reduceLeDiff, Nat.reduceEqDiff, pset, hlen, if_false, if_true, t0, t4, t5, t7, t12, t14, t15, t16, t17, t145, t146, t147, e3, decide_true, ol.sl.ixm hlt, ol.sl.ldm hlt, ok.sl.one, o12.ixm kM, o7.ixm kD, lM0, lM1, lD0, lD1, y1, y2, y3, y4, y5, lD])
    refine WF.res T.c19 (r19 T (H := L[k].1) (ok.sl.ext (by repeat first | with_reducible exact Ext.refl _ | refine Ext.app _ ?_)) hpl) ?_
    rintro _ g1 ⟨s1, rfl, hs1⟩
    repeat (first | simp (config := { maxSteps := 1000000 }) only [wset, hset, dset, bset, Nat.reduceAdd, Nat.reduceMul, Nat.reduceLeDiff, Nat.reduceEqDiff, pset, hlen, if_false, if_true, t4, l4] | simp (config := { maxSteps := 1000000 }) (disch := first | (simp only [List.length_append, List.length_cons, List.length_nil] <;> omega) | rfl | omega | fail) only [kset, wset, hset, dset, bset, Nat.reduceAdd, Nat.reduceMul, Nat.reduceLeDiff, Nat.reduceEqDiff, pset, hlen, if_false, if_true, t4, l4])
    refine WF.res T.c20 (r20 T (H := L[k].1) ⟨hs1.isSl.ext (by repeat first | with_reducible exact Ext.refl _ | refine Ext.app _ ?_), ok.len, ok.nm⟩ x) ?_
    rintro _ g2 rfl
    rw [hp, if_pos rfl]
    have bl := band_le hH hhx
    have bb := band_bd hH hhx
    obtain ⟨b, hb⟩ : ∃ b, b = bandS L[k].1 x := ⟨_, rfl⟩
    rw [← hb] at bl bb eD ⊢
    have hk8 : k < nn.length := by omega
    have nk : (nn.map (AV.int .u8))[k]? = some (.int .u8 nn[k]) := by rw [List.getElem?_map, List.getElem?_eq_getElem hk8]; rfl
    have hnk := hnb nn[k] (List.getElem_mem _)
    have hnj := hnb (nn[(k + 3) % 8]'(by omega)) (List.getElem_mem _)
    have r1 : 0 ≤ nn[k].tmod (b.2 - b.1 + 1) := Int.tmod_nonneg _ hnk.1
    have r2 : nn[k].tmod (b.2 - b.1 + 1) < b.2 - b.1 + 1 := Int.tmod_lt_of_pos _ (by omega)
    have r3 : 0 ≤ (nn[(k + 3) % 8]'(by omega)).tmod (V[k].2 - V[k].1 + 1) := Int.tmod_nonneg _ hnj.1
    have r4 : (nn[(k + 3) % 8]'(by omega)).tmod (V[k].2 - V[k].1 + 1) < V[k].2 - V[k].1 + 1 := Int.tmod_lt_of_pos _ (by omega)
    obtain ⟨sp, hsp⟩ : ∃ sp, sp = V[k].1 + (nn[(k + 3) % 8]'(by omega)).tmod (V[k].2 - V[k].1 + 1) := ⟨_, rfl⟩
    have ek : (k : Int).tmod 8 = (k : Int) := by rw [Int.tmod_eq_emod_of_nonneg (by omega)]; omega
    have wn : IntKind.i64.wrap nn[k] = nn[k] := wrap_in (by omega) (by omega)
    have w1 : IntKind.i64.wrap (b.2 - b.1) = b.2 - b.1 := wrap_in (by omega) (by omega)
    have w2 : IntKind.i64.wrap (b.2 - b.1 + 1) = b.2 - b.1 + 1 := wrap_in (by omega) (by omega)
    have w3 : IntKind.i64.wrap (b.1 + nn[k].tmod (b.2 - b.1 + 1)) = b.1 + nn[k].tmod (b.2 - b.1 + 1) := wrap_in (by omega) (by omega)
    have hrem : b.2 - b.1 + 1 ≠ 0 := by omega
    have z0 : decide ((0 : Int) ≠ 0) = false := rfl
    have y6 : decide (2001 < b.2 - b.1) = false := decide_eq_false (by omega)
    have y7 : decide (b.2 < b.1) = false := decide_eq_false (by omega)
    have i8 : iadaF 8 1 (.ptr b5 0) (.int .i64 (k : Int)) = some (.ptr b5 k) := iada_i (by omega)
    by_cases c6 : b.1 + nn[k].tmod (b.2 - b.1 + 1) < time
    · have y8 : decide (b.1 + nn[k].tmod (b.2 - b.1 + 1) < time) = true := decide_eq_true c6
      by_cases c7 : b.2 < time
      · repeat (first | simp (config := { maxSteps := 1000000 }) only [wset, hset, dset, bset, Nat.reduceAdd, Nat.reduceMul, Nat.reduceLeDiff, Nat.reduceEqDiff, pset, hlen, if_false, if_true, t4, t5, t14, l4, l5, z0, y6, y7, w1, w2, w3, wn, ek, i8, nk, bin_rem hrem, bin_rem (show (8 : Int) ≠ 0 by decide), y8, decide_eq_true c7] | simp (config := { maxSteps := 1000000 }) (disch := first | (simp only [List.length_append, List.length_cons, List.length_nil] <;> omega) | rfl | omega | fail) only [kset, wset, hset, dset, bset, Nat.reduceAdd, Nat.reduceMul, Nat.reduceLeDiff, Nat.reduceEqDiff, pset, hlen, if_false, if_true, t4, t5, t14, l4, l5, z0, y6, y7, w1, w2, w3, wn, ek, i8, nk, bin_rem hrem, bin_rem (show (8 : Int) ≠ 0 by decide), y8, decide_eq_true c7])
        exact ⟨Ext.trans he (by repeat first | with_reducible exact Ext.refl _ | refine Ext.app _ ?_), trivial⟩
      · repeat (first | simp (config := { maxSteps := 1000000 }) only [wset, hset, dset, bset, Nat.reduceAdd, Nat.reduceMul, Nat.reduceLeDiff, Nat.reduceEqDiff, pset, hlen, if_false, if_true, t4, t5, t14, l4, l5, z0, y6, y7, w1, w2, w3, wn, ek, i8, nk, bin_rem hrem, bin_rem (show (8 : Int) ≠ 0 by decide), y8, decide_eq_false c7] | simp (config := { maxSteps := 1000000 }) (disch := first | (simp only [List.length_append, List.length_cons, List.length_nil] <;> omega) | rfl | omega | fail) only [kset, wset, hset, dset, bset, Nat.reduceAdd, Nat.reduceMul, Nat.reduceLeDiff, Nat.reduceEqDiff, pset, hlen, if_false, if_true, t4, t5, t14, l4, l5, z0, y6, y7, w1, w2, w3, wn, ek, i8, nk, bin_rem hrem, bin_rem (show (8 : Int) ≠ 0 by decide), y8, decide_eq_false c7])
        have cn := c.next (now := time) (sp := sp) hlt hVl hH hhx ⟨v1.1, v1.2.2.2.2, v1.2.2.2.1⟩ (by rw [← hb]; omega) (by omega)
        rw [← hb, ← eD] at cn
        have chd := cn.hd
        have cha := c.ha
        have cab := c.ab
        have cdb := c.db
        have chd0 := c.hd
        rw [mid4]
        refine columns_R T (V := V) (D := D) (F := F) (nn := nn) (sv := sv) (sw := sw) (s7 := s7) (sF := sF) (x := x) (time := time) (depth := depth) (now := time) (sp := sp) (b4 := b4) (b5 := b5) (k := k) (by simp only [wset, hset, dset, bset, Nat.reduceAdd, Nat.reduceMul, Nat.reduceLeDiff, Nat.reduceEqDiff, pset, hlen, if_false, if_true, t0]) (by simp only [wset, hset, dset, bset, Nat.reduceAdd, Nat.reduceMul, Nat.reduceLeDiff, Nat.reduceEqDiff, pset, hlen, if_false, if_true, t4]) (by simp only [wset, hset, dset, bset, Nat.reduceAdd, Nat.reduceMul, Nat.reduceLeDiff, Nat.reduceEqDiff, pset, hlen, if_false, if_true, t5]) (by simp only [wset, hset, dset, bset, Nat.reduceAdd, Nat.reduceMul, Nat.reduceLeDiff, Nat.reduceEqDiff, pset, hlen, if_false, if_true, t7]) (by simp only [wset, hset, dset, bset, Nat.reduceAdd, Nat.reduceMul, Nat.reduceLeDiff, Nat.reduceEqDiff, pset, hlen, if_false, if_true, t14]) (by simp only [wset, hset, dset, bset, Nat.reduceAdd, Nat.reduceMul, Nat.reduceLeDiff, Nat.reduceEqDiff, pset, hlen, if_false, if_true, t15]) (by simp only [wset, hset, dset, bset, Nat.reduceAdd, Nat.reduceMul, Nat.reduceLeDiff, Nat.reduceEqDiff, pset, hlen, if_false, if_true, t17]) (by simp only [wset, hset, dset, bset, Nat.reduceAdd, Nat.reduceMul, Nat.reduceLeDiff, Nat.reduceEqDiff, pset, hlen, if_false, if_true, t0]) (by simp only [wset, hset, dset, bset, Nat.reduceAdd, Nat.reduceMul, Nat.reduceLeDiff, Nat.reduceEqDiff, pset, hlen, if_false, if_true, t14]) (Ext.some (by repeat first | with_reducible exact Ext.refl _ | refine Ext.app _ ?_) m4) (Ext.some (by repeat first | with_reducible exact Ext.refl _ | refine Ext.app _ ?_) m5) hn8 hnb (o7.ext (by repeat first | with_reducible exact Ext.refl _ | refine Ext.app _ ?_)) (hv.ext (by repeat first | with_reducible exact Ext.refl _ | refine Ext.app _ ?_)) ?hF (by have := c.hF; omega) (by omega) hkV kD ⟨v1.1, v1.2.2.2.2, v1.2.2.2.1⟩ hsp (by omega) (by omega) (by omega) ⟨chd.2.1, chd.2.2.1⟩ ?K
        case hF =>
          have e9 : (W0 ++ [ABlk.cells [AV.int IntKind.i64 d.1, AV.int IntKind.i64 d.2] true false]).length = W0.length + 1 := by simp
          have e8 : (W0 ++ [ABlk.cells (ratRow D[k]) true false]).length = W0.length + 1 := by simp
          rw [e8, ← mid4]
          exact (((((hF.swap' e9 e8).app _).app _).app _).app _)
        case K =>
          intro ts3 g3 sF' F' hlen3 k0 k4 k5 k7 k12 k16 k145 k146 k147 k14 k15 k17 hF' hor
          have u0 : slot ts3 0 = l := by rw [k0]; simp only [wset, hset, dset, bset, Nat.reduceAdd, Nat.reduceMul, Nat.reduceLeDiff, Nat.reduceEqDiff, pset, hlen, if_false, if_true, t0]
          have u4 : slot ts3 4 = .ptr b4 0 := by rw [k4]; simp only [wset, hset, dset, bset, Nat.reduceAdd, Nat.reduceMul, Nat.reduceLeDiff, Nat.reduceEqDiff, pset, hlen, if_false, if_true, t4]
          have u5 : slot ts3 5 = .ptr b5 0 := by rw [k5]; simp only [wset, hset, dset, bset, Nat.reduceAdd, Nat.reduceMul, Nat.reduceLeDiff, Nat.reduceEqDiff, pset, hlen, if_false, if_true, t5]
          have u7 : slot ts3 7 = s7 := by rw [k7]; simp only [wset, hset, dset, bset, Nat.reduceAdd, Nat.reduceMul, Nat.reduceLeDiff, Nat.reduceEqDiff, pset, hlen, if_false, if_true, t7]
          have u12 : slot ts3 12 = s12 := by rw [k12]; simp only [wset, hset, dset, bset, Nat.reduceAdd, Nat.reduceMul, Nat.reduceLeDiff, Nat.reduceEqDiff, pset, hlen, if_false, if_true, t12]
          have u16 : slot ts3 16 = .ptr W0.length 0 := by rw [k16]; simp only [wset, hset, dset, bset, Nat.reduceAdd, Nat.reduceMul, Nat.reduceLeDiff, Nat.reduceEqDiff, pset, hlen, if_false, if_true, t16]
          have u145 : slot ts3 145 = l := by rw [k145]; simp only [wset, hset, dset, bset, Nat.reduceAdd, Nat.reduceMul, Nat.reduceLeDiff, Nat.reduceEqDiff, pset, hlen, if_false, if_true, t145]
          have u146 : slot ts3 146 = .int .i64 L.length := by rw [k146]; simp only [wset, hset, dset, bset, Nat.reduceAdd, Nat.reduceMul, Nat.reduceLeDiff, Nat.reduceEqDiff, pset, hlen, if_false, if_true, t146]
          have u147 : slot ts3 147 = .int .i64 k := by rw [k147]; simp only [wset, hset, dset, bset, Nat.reduceAdd, Nat.reduceMul, Nat.reduceLeDiff, Nat.reduceEqDiff, pset, hlen, if_false, if_true, t147]
          clear k0 k4 k5 k7 k12 k16 k145 k146 k147
          have hlen := hlen3
          have e8 : (W0 ++ [ABlk.cells (ratRow D[k]) true false]).length = W0.length + 1 := by simp
          rw [e8] at hF'
          have cn' : ClI L V x (nn[7]'(by omega)) D M (k + 1) (time) (depth + ((time) - time) * sp) b D[k] (bandS (wideH L[k].1) x) (depN a' d' (bandS (wideH L[k].1) x) (wideV V[k])) F' := by
            rcases hor with rfl | ⟨rfl, hle⟩
            · exact cn
            · exact cn.add c.hF kD ⟨chd.2.1, chd.2.2.1⟩ (by omega) hle
          repeat (first | simp (config := { maxSteps := 1000000 }) only [wset, hset, dset, bset, Nat.reduceAdd, Nat.reduceMul, Nat.reduceLeDiff, Nat.reduceEqDiff, pset, hlen, if_false, if_true, u0, u4, u5, u7, u12, k14, k15, u16, k17, u145, u146, u147, wrapN (show k + 1 < 2 ^ 63 by omega)] | simp (config := { maxSteps := 1000000 }) (disch := first | (simp only [List.length_append, List.length_cons, List.length_nil] <;> omega) | rfl | omega | fail) only [kset, wset, hset, dset, bset, Nat.reduceAdd, Nat.reduceMul, Nat.reduceLeDiff, Nat.reduceEqDiff, pset, hlen, if_false, if_true, u0, u4, u5, u7, u12, k14, k15, u16, k17, u145, u146, u147, wrapN (show k + 1 < 2 ^ 63 by omega)])
          exact ⟨_, by omega, k + 1, _, _, _, _, _, _, F', sF', g3, cn', rfl, rfl, hF', rfl, rfl, rfl, rfl⟩
    · have y8 : decide (b.1 + nn[k].tmod (b.2 - b.1 + 1) < time) = false := decide_eq_false c6
      have y9 : decide (b.2 < b.1 + nn[k].tmod (b.2 - b.1 + 1)) = false := decide_eq_false (by omega)
      repeat (first | simp (config := { maxSteps := 1000000 }) only [wset, hset, dset, bset, Nat.reduceAdd, Nat.reduceMul, Nat.reduceLeDiff, Nat.reduceEqDiff, pset, hlen, if_false, if_true, t4, t5, t14, l4, l5, z0, y6, y7, w1, w2, w3, wn, ek, i8, nk, bin_rem hrem, bin_rem (show (8 : Int) ≠ 0 by decide), y8, y9] | simp (config := { maxSteps := 1000000 }) (disch := first | (simp only [List.length_append, List.length_cons, List.length_nil] <;> omega) | rfl | omega | fail) only [kset, wset, hset, dset, bset, Nat.reduceAdd, Nat.reduceMul, Nat.reduceLeDiff, Nat.reduceEqDiff, pset, hlen, if_false, if_true, t4, t5, t14, l4, l5, z0, y6, y7, w1, w2, w3, wn, ek, i8, nk, bin_rem hrem, bin_rem (show (8 : Int) ≠ 0 by decide), y8, y9])
      have cn := c.next (now := b.1 + nn[k].tmod (b.2 - b.1 + 1)) (sp := sp) hlt hVl hH hhx ⟨v1.1, v1.2.2.2.2, v1.2.2.2.1⟩ (by rw [← hb]; omega) (by omega)
      rw [← hb, ← eD] at cn
      have chd := cn.hd
      have cha := c.ha
      have cab := c.ab
      have cdb := c.db
      have chd0 := c.hd
      rw [mid4]
      refine columns_R T (V := V) (D := D) (F := F) (nn := nn) (sv := sv) (sw := sw) (s7 := s7) (sF := sF) (x := x) (time := time) (depth := depth) (now := b.1 + nn[k].tmod (b.2 - b.1 + 1)) (sp := sp) (b4 := b4) (b5 := b5) (k := k) (by simp only [wset, hset, dset, bset, Nat.reduceAdd, Nat.reduceMul, Nat.reduceLeDiff, Nat.reduceEqDiff, pset, hlen, if_false, if_true, t0]) (by simp only [wset, hset, dset, bset, Nat.reduceAdd, Nat.reduceMul, Nat.reduceLeDiff, Nat.reduceEqDiff, pset, hlen, if_false, if_true, t4]) (by simp only [wset, hset, dset, bset, Nat.reduceAdd, Nat.reduceMul, Nat.reduceLeDiff, Nat.reduceEqDiff, pset, hlen, if_false, if_true, t5]) (by simp only [wset, hset, dset, bset, Nat.reduceAdd, Nat.reduceMul, Nat.reduceLeDiff, Nat.reduceEqDiff, pset, hlen, if_false, if_true, t7]) (by simp only [wset, hset, dset, bset, Nat.reduceAdd, Nat.reduceMul, Nat.reduceLeDiff, Nat.reduceEqDiff, pset, hlen, if_false, if_true, t14]) (by simp only [wset, hset, dset, bset, Nat.reduceAdd, Nat.reduceMul, Nat.reduceLeDiff, Nat.reduceEqDiff, pset, hlen, if_false, if_true, t15]) (by simp only [wset, hset, dset, bset, Nat.reduceAdd, Nat.reduceMul, Nat.reduceLeDiff, Nat.reduceEqDiff, pset, hlen, if_false, if_true, t17]) (by simp only [wset, hset, dset, bset, Nat.reduceAdd, Nat.reduceMul, Nat.reduceLeDiff, Nat.reduceEqDiff, pset, hlen, if_false, if_true, t0]) (by simp only [wset, hset, dset, bset, Nat.reduceAdd, Nat.reduceMul, Nat.reduceLeDiff, Nat.reduceEqDiff, pset, hlen, if_false, if_true, t14]) (Ext.some (by repeat first | with_reducible exact Ext.refl _ | refine Ext.app _ ?_) m4) (Ext.some (by repeat first | with_reducible exact Ext.refl _ | refine Ext.app _ ?_) m5) hn8 hnb (o7.ext (by repeat first | with_reducible exact Ext.refl _ | refine Ext.app _ ?_)) (hv.ext (by repeat first | with_reducible exact Ext.refl _ | refine Ext.app _ ?_)) ?hF (by have := c.hF; omega) (by omega) hkV kD ⟨v1.1, v1.2.2.2.2, v1.2.2.2.1⟩ hsp (by omega) (by omega) (by omega) ⟨chd.2.1, chd.2.2.1⟩ ?K
      case hF =>
        have e9 : (W0 ++ [ABlk.cells [AV.int IntKind.i64 d.1, AV.int IntKind.i64 d.2] true false]).length = W0.length + 1 := by simp
        have e8 : (W0 ++ [ABlk.cells (ratRow D[k]) true false]).length = W0.length + 1 := by simp
        rw [e8, ← mid4]
        exact (((((hF.swap' e9 e8).app _).app _).app _).app _)
      case K =>
        intro ts3 g3 sF' F' hlen3 k0 k4 k5 k7 k12 k16 k145 k146 k147 k14 k15 k17 hF' hor
        have u0 : slot ts3 0 = l := by rw [k0]; simp only [wset, hset, dset, bset, Nat.reduceAdd, Nat.reduceMul, Nat.reduceLeDiff, Nat.reduceEqDiff, pset, hlen, if_false, if_true, t0]
        have u4 : slot ts3 4 = .ptr b4 0 := by rw [k4]; simp only [wset, hset, dset, bset, Nat.reduceAdd, Nat.reduceMul, Nat.reduceLeDiff, Nat.reduceEqDiff, pset, hlen, if_false, if_true, t4]
        have u5 : slot ts3 5 = .ptr b5 0 := by rw [k5]; simp only [wset, hset, dset, bset, Nat.reduceAdd, Nat.reduceMul, Nat.reduceLeDiff, Nat.reduceEqDiff, pset, hlen, if_false, if_true, t5]
        have u7 : slot ts3 7 = s7 := by rw [k7]; simp only [wset, hset, dset, bset, Nat.reduceAdd, Nat.reduceMul, Nat.reduceLeDiff, Nat.reduceEqDiff, pset, hlen, if_false, if_true, t7]
        have u12 : slot ts3 12 = s12 := by rw [k12]; simp only [wset, hset, dset, bset, Nat.reduceAdd, Nat.reduceMul, Nat.reduceLeDiff, Nat.reduceEqDiff, pset, hlen, if_false, if_true, t12]
        have u16 : slot ts3 16 = .ptr W0.length 0 := by rw [k16]; simp only [wset, hset, dset, bset, Nat.reduceAdd, Nat.reduceMul, Nat.reduceLeDiff, Nat.reduceEqDiff, pset, hlen, if_false, if_true, t16]
        have u145 : slot ts3 145 = l := by rw [k145]; simp only [wset, hset, dset, bset, Nat.reduceAdd, Nat.reduceMul, Nat.reduceLeDiff, Nat.reduceEqDiff, pset, hlen, if_false, if_true, t145]
        have u146 : slot ts3 146 = .int .i64 L.length := by rw [k146]; simp only [wset, hset, dset, bset, Nat.reduceAdd, Nat.reduceMul, Nat.reduceLeDiff, Nat.reduceEqDiff, pset, hlen, if_false, if_true, t146]
        have u147 : slot ts3 147 = .int .i64 k := by rw [k147]; simp only [wset, hset, dset, bset, Nat.reduceAdd, Nat.reduceMul, Nat.reduceLeDiff, Nat.reduceEqDiff, pset, hlen, if_false, if_true, t147]
        clear k0 k4 k5 k7 k12 k16 k145 k146 k147
        have hlen := hlen3
        have e8 : (W0 ++ [ABlk.cells (ratRow D[k]) true false]).length = W0.length + 1 := by simp
        rw [e8] at hF'
        have cn' : ClI L V x (nn[7]'(by omega)) D M (k + 1) (b.1 + nn[k].tmod (b.2 - b.1 + 1)) (depth + ((b.1 + nn[k].tmod (b.2 - b.1 + 1)) - time) * sp) b D[k] (bandS (wideH L[k].1) x) (depN a' d' (bandS (wideH L[k].1) x) (wideV V[k])) F' := by
          rcases hor with rfl | ⟨rfl, hle⟩
          · exact cn
          · exact cn.add c.hF kD ⟨chd.2.1, chd.2.2.1⟩ (by omega) hle
        repeat (first | simp (config := { maxSteps := 1000000 }) only [wset, hset, dset, bset, Nat.reduceAdd, Nat.reduceMul, Nat.reduceLeDiff, Nat.reduceEqDiff, pset, hlen, if_false, if_true, u0, u4, u5, u7, u12, k14, k15, u16, k17, u145, u146, u147, wrapN (show k + 1 < 2 ^ 63 by omega)] | simp (config := { maxSteps := 1000000 }) (disch := first | (simp only [List.length_append, List.length_cons, List.length_nil] <;> omega) | rfl | omega | fail) only [kset, wset, hset, dset, bset, Nat.reduceAdd, Nat.reduceMul, Nat.reduceLeDiff, Nat.reduceEqDiff, pset, hlen, if_false, if_true, u0, u4, u5, u7, u12, k14, k15, u16, k17, u145, u146, u147, wrapN (show k + 1 < 2 ^ 63 by omega)])
        exact ⟨_, by omega, k + 1, _, _, _, _, _, _, F', sF', g3, cn', rfl, rfl, hF', rfl, rfl, rfl, rfl⟩
  · have e3 : ¬ (k : Int) < L.length := by omega
    obtain ⟨f1, f2, f3, f4⟩ := ClI.fin (hD ▸ c) hz ha hxr (hnb _ (List.getElem_mem _))
    repeat (first | simp (config := { maxSteps := 1000000 }) only [wset, hset, dset, bset, Nat.reduceAdd, Nat.reduceMul, Nat.reduceLeDiff, Nat.reduceEqDiff, pset, hlen, if_false, if_true, t0, t4, t5, t7, t12, t14, t15, t16, t17, t145, t146, t147, e3, decide_false] | simp (config := { maxSteps := 1000000 }) (disch := first | (simp only [List.length_append, List.length_cons, List.length_nil] <;> omega) | rfl | omega | fail) only [kset, wset, hset, dset, bset, Nat.reduceAdd, Nat.reduceMul, Nat.reduceLeDiff, Nat.reduceEqDiff, pset, hlen, if_false, if_true, t0, t4, t5, t7, t12, t14, t15, t16, t17, t145, t146, t147, e3, decide_false])
    exact columns_D T (L := L) (V := V) (F := F) (l := l) (sv := sv) (sw := sw) (sF := sF) (x := x) (b4 := b4) (by simp only [wset, hset, dset, bset, Nat.reduceAdd, Nat.reduceMul, Nat.reduceLeDiff, Nat.reduceEqDiff, pset, hlen, if_false, if_true, t0]) (by simp only [wset, hset, dset, bset, Nat.reduceAdd, Nat.reduceMul, Nat.reduceLeDiff, Nat.reduceEqDiff, pset, hlen, if_false, if_true, t0]) (by simp only [wset, hset, dset, bset, Nat.reduceAdd, Nat.reduceMul, Nat.reduceLeDiff, Nat.reduceEqDiff, pset, hlen, if_false, if_true, t4]) (by simp only [wset, hset, dset, bset, Nat.reduceAdd, Nat.reduceMul, Nat.reduceLeDiff, Nat.reduceEqDiff, pset, hlen, if_false, if_true, t17]) (Ext.some (by repeat first | with_reducible exact Ext.refl _ | refine Ext.app _ ?_) m4) hsh (ol.ext (by repeat first | with_reducible exact Ext.refl _ | refine Ext.app _ ?_)) (hv.ext (by repeat first | with_reducible exact Ext.refl _ | refine Ext.app _ ?_)) hvl hF.isSl f1 f2 f3 f4 (Ext.trans he (by repeat first | with_reducible exact Ext.refl _ | refine Ext.app _ ?_))

set_option maxRecDepth 10000 in
set_option maxHeartbeats 2000000 in
theorem columns_A {L : List (Hor × AV)} {V D : List (Int × Int)} {nn : List Int} {l sv sw s7 : AV} {x : Int} {W0 : AHeap} {ts : TS} {b4 b5 : Nat} (hlen : ts.length = 374) (t0 : slot ts 0 = l) (t4 : slot ts 4 = .ptr b4 0) (t5 : slot ts 5 = .ptr b5 0) (t7 : slot ts 7 = s7)
    (m4 : W0[b4]? = some (.cells [sv, sw, .int .i64 x] true false)) (m5 : W0[b5]? = some (.cells (nn.map (AV.int .u8)) true false)) (hn8 : nn.length = 8) (hnb : ∀ y ∈ nn, 0 ≤ y ∧ y ≤ 255) (o7 : IsSl W0 s7 2 (D.map ratRow))
    (hD : D = depthsS (0, 0) (0, 0) ((L.map (·.1)).zip V) x)
    (hsh : shortAllS (L.map (·.1)) = true) (ol : HorsOk W0 L l) (hv : IsSl W0 sv 2 (V.map ratRow)) (hvl : V.length ≤ 2 ^ 40) (hz : chkVelS (L.map (·.1)) V = 0) (ha : allHasS (L.map (·.1)) x = true) (hxr : 0 ≤ x ∧ x ≤ 255) (he : Ext h W0) :
    WC P inFn (clT 4) [] ts W0 (FQ [(6, none)] fun v h' => Ext h h' ∧ v = .bool true) := by
  have q4 := (List.getElem?_eq_some_iff.1 m4).1
  have l4 : ∀ {n : Option Nat} {o : Nat} {kk : AHeap}, Ext W0 kk → loadF n (.ptr b4 o) (fun z => kk[z]?) = ldB n o (.cells [sv, sw, .int .i64 x] true false) := fun e => loadF_at (e.some m4)
  have z := vel_zero hz
  have hVl : V.length = L.length := by have := z.2.2.1; simpa using this
  have hL8 : L.length ≤ 8 := by have := z.2.1; simpa using this
  have hsl := short_all hsh
  rw [cl_A]
  unfold cl fn7
  simp only [ICode.dr, ICode.tl, ICode.hd]
  repeat (first | simp (config := { maxSteps := 1000000 }) only [wset, hset, dset, bset, Nat.reduceAdd, Nat.reduceMul, Nat.reduceLeDiff, Nat.reduceEqDiff, pset, hlen, if_false, if_true, t0, t4, l4] | simp (config := { maxSteps := 1000000 }) (disch := first | (simp only [List.length_append, List.length_cons, List.length_nil] <;> omega) | rfl | omega | fail) only [kset, wset, hset, dset, bset, Nat.reduceAdd, Nat.reduceMul, Nat.reduceLeDiff, Nat.reduceEqDiff, pset, hlen, if_false, if_true, t0, t4, l4])
  refine WF.res T.c28 (list_fr T (ol.sl.ext (by repeat first | with_reducible exact Ext.refl _ | refine Ext.app _ ?_)) hsl.1 (fun y hy => ⟨(ol.all y hy).sl.ext (by repeat first | with_reducible exact Ext.refl _ | refine Ext.app _ ?_), hsl.2 y hy⟩)) ?_
  rintro sW g1 ⟨L1, hm1, hWF, hel⟩
  repeat (first | simp (config := { maxSteps := 1000000 }) only [wset, hset, dset, bset, Nat.reduceAdd, Nat.reduceMul, Nat.reduceLeDiff, Nat.reduceEqDiff, pset, hlen, if_false, if_true, t0, t4, l4] | simp (config := { maxSteps := 1000000 }) (disch := first | (simp only [List.length_append, List.length_cons, List.length_nil] <;> omega) | rfl | omega | fail) only [kset, wset, hset, dset, bset, Nat.reduceAdd, Nat.reduceMul, Nat.reduceLeDiff, Nat.reduceEqDiff, pset, hlen, if_false, if_true, t0, t4, l4])
  refine WF.res T.c42 (r42 T (hv.ext (by repeat first | with_reducible exact Ext.refl _ | refine Ext.app _ ?_)) hvl) ?_
  rintro sV g2 hVF
  have hL1 : L1.length = L.length := by have := congrArg List.length hm1; simpa using this
  have hme : ∀ y ∈ L1, y.1.picks.length < 2 ^ 63 ∧ y.1.name.length < 2 ^ 63 := fun y hy => by
    have : y.1 ∈ L.map (·.1) := by rw [← hm1]; exact List.mem_map_of_mem hy
    obtain ⟨u, hu, e⟩ := List.mem_map.1 this
    rw [← e]; exact ⟨(ol.all u hu).len, (ol.all u hu).nm⟩
  have hsW : ∀ b o n e, sW = .slice b o n e → b < (W0 ++ g1).length := fun b o n e hb => (hWF.lt hb).2
  have hsV : ∀ b o n e, sV = .slice b o n e → (W0 ++ g1).length ≤ b := fun b o n e hb => (hVF.lt hb).1
  have hsE : ∀ y ∈ L1, ∀ b o n e, y.2 = .slice b o n e → b < (W0 ++ g1).length := fun y hy b o n e hb => (hel y hy).1.lt hb
  have hlow : ∀ y ∈ L1, ∀ b o n e b0 o0 n0 e0, y.2 = .slice b o n e → sW = .slice b0 o0 n0 e0 → b < b0 := fun y hy => (hel y hy).2
  repeat (first | simp (config := { maxSteps := 1000000 }) only [wset, hset, dset, bset, Nat.reduceAdd, Nat.reduceMul, Nat.reduceLeDiff, Nat.reduceEqDiff, pset, hlen, if_false, if_true, t0, t4, l4, (hWF.isSl.ext (by repeat first | with_reducible exact Ext.refl _ | refine Ext.app _ ?_)).lenm] | simp (config := { maxSteps := 1000000 }) (disch := first | (simp only [List.length_append, List.length_cons, List.length_nil] <;> omega) | rfl | omega | fail) only [kset, wset, hset, dset, bset, Nat.reduceAdd, Nat.reduceMul, Nat.reduceLeDiff, Nat.reduceEqDiff, pset, hlen, if_false, if_true, t0, t4, l4, (hWF.isSl.ext (by repeat first | with_reducible exact Ext.refl _ | refine Ext.app _ ?_)).lenm])
  refine WL.inv T.mix (fun n ts' h' => ∃ (j : Nat) (g' : AHeap), j ≤ L1.length ∧ n = L1.length - j ∧ h' = W0 ++ g' ∧ Fr W0.length h' sW 3 ((mix fW L1 j).map horRow) ∧ Fr W0.length h' sV 2 ((mix wideV V j).map ratRow) ∧ (∀ y ∈ L1, IsSl h' y.2 2 (y.1.picks.map pkRow)) ∧ ts'.length = 374 ∧ slot ts' 0 = l ∧ slot ts' 4 = .ptr b4 0 ∧ slot ts' 5 = .ptr b5 0 ∧ slot ts' 7 = s7 ∧ slot ts' 9 = sW ∧ slot ts' 10 = sV ∧ slot ts' 93 = .int .i64 L1.length ∧ slot ts' 94 = .int .i64 j) L1.length
    ⟨0, g1 ++ g2, by omega, rfl, by rw [List.append_assoc], by rw [mix_0]; exact hWF.app _, by rw [mix_0]; exact hVF.low (by simp), fun y hy => (hel y hy).1.app _, (by simp only [wset, hset, dset, bset, Nat.reduceAdd, Nat.reduceMul, Nat.reduceLeDiff, Nat.reduceEqDiff, pset, hlen, if_false, if_true, t0]), (by simp only [wset, hset, dset, bset, Nat.reduceAdd, Nat.reduceMul, Nat.reduceLeDiff, Nat.reduceEqDiff, pset, hlen, if_false, if_true, t0]), (by simp only [wset, hset, dset, bset, Nat.reduceAdd, Nat.reduceMul, Nat.reduceLeDiff, Nat.reduceEqDiff, pset, hlen, if_false, if_true, t4]), (by simp only [wset, hset, dset, bset, Nat.reduceAdd, Nat.reduceMul, Nat.reduceLeDiff, Nat.reduceEqDiff, pset, hlen, if_false, if_true, t5]), (by simp only [wset, hset, dset, bset, Nat.reduceAdd, Nat.reduceMul, Nat.reduceLeDiff, Nat.reduceEqDiff, pset, hlen, if_false, if_true, t7]), (by simp only [wset, hset, dset, bset, Nat.reduceAdd, Nat.reduceMul, Nat.reduceLeDiff, Nat.reduceEqDiff, pset, hlen, if_false, if_true, t0]), (by simp only [wset, hset, dset, bset, Nat.reduceAdd, Nat.reduceMul, Nat.reduceLeDiff, Nat.reduceEqDiff, pset, hlen, if_false, if_true, t0]), (by simp only [wset, hset, dset, bset, Nat.reduceAdd, Nat.reduceMul, Nat.reduceLeDiff, Nat.reduceEqDiff, pset, hlen, if_false, if_true, t0]), (by simp only [wset, hset, dset, bset, Nat.reduceAdd, Nat.reduceMul, Nat.reduceLeDiff, Nat.reduceEqDiff, pset, hlen, if_false, if_true]; rfl)⟩ ?_
  rintro _ ts2 _ ⟨j, g', hj, rfl, rfl, hW, hV, hE, hlen, t0, t4, t5, t7, t9, t10, t93, t94⟩
  by_cases hlt : j < L1.length
  · have e3 : (j : Int) < L1.length := by omega
    have hjV : j < V.length := by omega
    have hWl : j < (mix fW L1 j).length := by rw [mix_len hj]; exact hlt
    have hVl' : j < (mix wideV V j).length := by rw [mix_len (by omega)]; exact hjV
    have eW := mix_at (f := fW) hlt hWl
    have eV := mix_at (f := wideV) hjV hVl'
    have bE : L1[j].1.err + 1 ≤ 2 ^ 62 ∧ 0 ≤ L1[j].1.err := by
      have : L1[j].1 ∈ L.map (·.1) := by rw [← hm1]; exact List.mem_map_of_mem (List.getElem_mem hlt)
      have := z.1 _ this
      have a1 := this.e0
      have a2 := this.e1
      omega
    have v1 := z.2.2.2 V[j] (List.getElem_mem hjV)
    have xW : (horRow (mix fW L1 j)[j])[1]? = some (.int .i64 L1[j].1.err) := by rw [eW]; rfl
    have w1 : IntKind.i64.wrap (L1[j].1.err + 1) = L1[j].1.err + 1 := wrap_in (by omega) (by omega)
    repeat (first | simp (config := { maxSteps := 1000000 }) only [wset, hset, dset, bset, Nat.reduceAdd, Nat.reduceMul, Nat.reduceLeDiff, Nat.reduceEqDiff, pset, hlen, if_false, if_true, t0, t4, t5, t7, t9, t10, t93, t94, e3, decide_true, hW.isSl.ixm hWl, hW.isSl.lfm hWl xW (Ext.refl _), w1] | simp (config := { maxSteps := 1000000 }) (disch := first | (simp only [List.length_append, List.length_cons, List.length_nil] <;> omega) | rfl | omega | fail) only [kset, wset, hset, dset, bset, Nat.reduceAdd, Nat.reduceMul, Nat.reduceLeDiff, Nat.reduceEqDiff, pset, hlen, if_false, if_true, t0, t4, t5, t7, t9, t10, t93, t94, e3, decide_true, hW.isSl.ixm hWl, hW.isSl.lfm hWl xW (Ext.refl _), w1])
    refine WR.put1 (h0 := W0) (L := mix fW L1 j) (row := horRow) (x' := fW L1[j]) hW hWl (by decide) rfl (by rw [eW]; rfl) ?_
    intro g3 hg3 hW3 hk3
    rw [mix_set hlt] at hW3
    obtain ⟨bW, oW, nW, eWW, hsw⟩ := hW.sl (by simp; omega)
    obtain ⟨bV, oV, nV, eVV, hsv⟩ := hV.sl (by simp; omega)
    have k1 := hsW _ _ _ _ hsw
    have k2 := hsV _ _ _ _ hsv
    have hV3 : Fr W0.length (W0 ++ g3) sV 2 ((mix wideV V j).map ratRow) := hV.keep fun b hb hbV => hk3 b fun b0 o n e e1 e2 => by
      have q1 := hsW b0 o n e e1
      have q3 := hbV _ _ _ _ hsv
      omega
    have hE3 : ∀ y ∈ L1, IsSl (W0 ++ g3) y.2 2 (y.1.picks.map pkRow) := fun y hy => (hE y hy).keep2 fun b o n e e1 => hk3 b fun b0 o0 n0 e0 e2 e4 => by
      have := hlow y hy b o n e b0 o0 n0 e0 e1 e2
      omega
    have xV0 : (ratRow (mix wideV V j)[j])[0]? = some (.int .i64 V[j].1) := by rw [eV]; rfl
    have xV1 : (ratRow (mix wideV V j)[j])[1]? = some (.int .i64 V[j].2) := by rw [eV]; rfl
    have w2 : IntKind.i64.wrap (V[j].1 - 1) = V[j].1 - 1 := wrap_in (by omega) (by omega)
    have w3 : IntKind.i64.wrap (V[j].2 + 1) = V[j].2 + 1 := wrap_in (by omega) (by omega)
    repeat (first | simp (config := { maxSteps := 1000000 }) only [wset, hset, dset, bset, Nat.reduceAdd, Nat.reduceMul, Nat.reduceLeDiff, Nat.reduceEqDiff, pset, hlen, if_false, if_true, t0, t4, t5, t7, t9, t10, t93, t94, hV3.isSl.ixm hVl', hV3.isSl.l1m hVl' xV0 (Ext.refl _), hV3.isSl.lfm hVl' xV0 (Ext.refl _), hV3.isSl.lfm hVl' xV1 (Ext.refl _), w2, w3] | simp (config := { maxSteps := 1000000 }) (disch := first | (simp only [List.length_append, List.length_cons, List.length_nil] <;> omega) | rfl | omega | fail) only [kset, wset, hset, dset, bset, Nat.reduceAdd, Nat.reduceMul, Nat.reduceLeDiff, Nat.reduceEqDiff, pset, hlen, if_false, if_true, t0, t4, t5, t7, t9, t10, t93, t94, hV3.isSl.ixm hVl', hV3.isSl.l1m hVl' xV0 (Ext.refl _), hV3.isSl.lfm hVl' xV0 (Ext.refl _), hV3.isSl.lfm hVl' xV1 (Ext.refl _), w2, w3])
    refine WF.res T.c67 (r67 T (max 1 (V[j].1 - 1)) (min 1000 (V[j].2 + 1))) ?_
    rintro _ g4 rfl
    have hV4 := hV3.app g4
    have hW4 := hW3.app g4
    have hE4 : ∀ y ∈ L1, IsSl (W0 ++ g3 ++ g4) y.2 2 (y.1.picks.map pkRow) := fun y hy => (hE3 y hy).app g4
    repeat (first | simp (config := { maxSteps := 1000000 }) only [wset, hset, dset, bset, Nat.reduceAdd, Nat.reduceMul, Nat.reduceLeDiff, Nat.reduceEqDiff, pset, hlen, if_false, if_true, t0, t4, t5, t7, t9, t10, t93, t94, hV3.isSl.ixm hVl'] | simp (config := { maxSteps := 1000000 }) (disch := first | (simp only [List.length_append, List.length_cons, List.length_nil] <;> omega) | rfl | omega | fail) only [kset, wset, hset, dset, bset, Nat.reduceAdd, Nat.reduceMul, Nat.reduceLeDiff, Nat.reduceEqDiff, pset, hlen, if_false, if_true, t0, t4, t5, t7, t9, t10, t93, t94, hV3.isSl.ixm hVl'])
    rw [List.append_assoc] at hV4 hW4 hE4 ⊢
    refine WR.puta (h0 := W0) (L := mix wideV V j) (row := ratRow) (x' := wideV V[j]) hV4 hVl' rfl rfl rfl ?_
    intro g5 hg5 hV5 hk5
    rw [mix_set hjV] at hV5
    have hW5 : Fr W0.length (W0 ++ g5) sW 3 ((mix fW L1 (j + 1)).map horRow) := hW4.keep fun b hb hbW => hk5 b fun b0 o n e e1 e2 => by
      have q1 := hsV b0 o n e e1
      have q3 := hbW _ _ _ _ hsw
      omega
    have hE5 : ∀ y ∈ L1, IsSl (W0 ++ g5) y.2 2 (y.1.picks.map pkRow) := fun y hy => (hE4 y hy).keep2 fun b o n e e1 => hk5 b fun b0 o0 n0 e0 e2 e4 => by
      have q1 := hsE y hy b o n e e1
      have q2 := hsV b0 o0 n0 e0 e2
      omega
    repeat (first | simp (config := { maxSteps := 1000000 }) only [wset, hset, dset, bset, Nat.reduceAdd, Nat.reduceMul, Nat.reduceLeDiff, Nat.reduceEqDiff, pset, hlen, if_false, if_true, t0, t4, t5, t7, t9, t10, t93, t94, wrapN (show j + 1 < 2 ^ 63 by omega)] | simp (config := { maxSteps := 1000000 }) (disch := first | (simp only [List.length_append, List.length_cons, List.length_nil] <;> omega) | rfl | omega | fail) only [kset, wset, hset, dset, bset, Nat.reduceAdd, Nat.reduceMul, Nat.reduceLeDiff, Nat.reduceEqDiff, pset, hlen, if_false, if_true, t0, t4, t5, t7, t9, t10, t93, t94, wrapN (show j + 1 < 2 ^ 63 by omega)])
    exact ⟨_, by omega, j + 1, g5, by omega, rfl, rfl, hW5, hV5, hE5, rfl⟩
  · have e3 : ¬ (j : Int) < L1.length := by omega
    have ej : j = L1.length := by omega
    rw [mix_all ej] at hW
    rw [mix_all (show j = V.length by omega)] at hV
    have hfst : (L1.map fW).map (·.1) = (L.map (·.1)).map wideH := by rw [← hm1, List.map_map, List.map_map]; rfl
    have oW : HorsOk (W0 ++ g') (L1.map fW) sW := ⟨hW.isSl, by simp; omega, fun y hy => by
      obtain ⟨u, hu, rfl⟩ := List.mem_map.1 hy
      exact ⟨hE u hu, (hme u hu).1, (hme u hu).2⟩⟩
    have hd0 : depE ((L.map (·.1)).map wideH) (V.map wideV) x = 0 := by rw [depE, if_pos (vel_wide hz), all_wide, ha]; rfl
    repeat (first | simp (config := { maxSteps := 1000000 }) only [wset, hset, dset, bset, Nat.reduceAdd, Nat.reduceMul, Nat.reduceLeDiff, Nat.reduceEqDiff, pset, hlen, if_false, if_true, t0, t4, t5, t7, t9, t10, t93, t94, e3, decide_false, l4] | simp (config := { maxSteps := 1000000 }) (disch := first | (simp only [List.length_append, List.length_cons, List.length_nil] <;> omega) | rfl | omega | fail) only [kset, wset, hset, dset, bset, Nat.reduceAdd, Nat.reduceMul, Nat.reduceLeDiff, Nat.reduceEqDiff, pset, hlen, if_false, if_true, t0, t4, t5, t7, t9, t10, t93, t94, e3, decide_false, l4])
    refine WF.res T.c41 (r41 T oW hV.isSl (by simpa using hvl) x) ?_
    rintro _ g3 ⟨s12, rfl, o12⟩
    rw [hfst, hd0] at o12 ⊢
    rw [if_pos rfl] at o12
    have hml : (depthsS (0, 0) (0, 0) (((L.map (·.1)).map wideH).zip (V.map wideV)) x).length = L.length := by rw [depthsS_len]; simp; omega
    have z0 : decide ((0 : Int) ≠ 0) = false := rfl
    repeat (first | simp (config := { maxSteps := 1000000 }) only [wset, hset, dset, bset, Nat.reduceAdd, Nat.reduceMul, Nat.reduceLeDiff, Nat.reduceEqDiff, pset, hlen, if_false, if_true, t0, t4, t5, t7, t9, t10, z0, o12.lenm, ol.sl.lenm, hml, show decide ((L.length : Int) ≠ L.length) = false from by simp] | simp (config := { maxSteps := 1000000 }) (disch := first | (simp only [List.length_append, List.length_cons, List.length_nil] <;> omega) | rfl | omega | fail) only [kset, wset, hset, dset, bset, Nat.reduceAdd, Nat.reduceMul, Nat.reduceLeDiff, Nat.reduceEqDiff, pset, hlen, if_false, if_true, t0, t4, t5, t7, t9, t10, z0, o12.lenm, ol.sl.lenm, hml, show decide ((L.length : Int) ≠ L.length) = false from by simp])
    exact columns_C T (L := L) (V := V) (D := D) (nn := nn) (l := l) (sv := sv) (sw := sw) (s7 := s7) (s12 := s12) (x := x) (b4 := b4) (b5 := b5) (by simp only [wset, hset, dset, bset, Nat.reduceAdd, Nat.reduceMul, Nat.reduceLeDiff, Nat.reduceEqDiff, pset, hlen, if_false, if_true, t0]) (by simp only [wset, hset, dset, bset, Nat.reduceAdd, Nat.reduceMul, Nat.reduceLeDiff, Nat.reduceEqDiff, pset, hlen, if_false, if_true, t0]) (by simp only [wset, hset, dset, bset, Nat.reduceAdd, Nat.reduceMul, Nat.reduceLeDiff, Nat.reduceEqDiff, pset, hlen, if_false, if_true, t4]) (by simp only [wset, hset, dset, bset, Nat.reduceAdd, Nat.reduceMul, Nat.reduceLeDiff, Nat.reduceEqDiff, pset, hlen, if_false, if_true, t5]) (by simp only [wset, hset, dset, bset, Nat.reduceAdd, Nat.reduceMul, Nat.reduceLeDiff, Nat.reduceEqDiff, pset, hlen, if_false, if_true, t7]) (by simp only [wset, hset, dset, bset, Nat.reduceAdd, Nat.reduceMul, Nat.reduceLeDiff, Nat.reduceEqDiff, pset, hlen, if_false, if_true, t0]) (Ext.some (by repeat first | with_reducible exact Ext.refl _ | refine Ext.app _ ?_) m4) (Ext.some (by repeat first | with_reducible exact Ext.refl _ | refine Ext.app _ ?_) m5) hn8 hnb (o7.ext (by repeat first | with_reducible exact Ext.refl _ | refine Ext.app _ ?_)) o12 hD rfl hsh (ol.ext (by repeat first | with_reducible exact Ext.refl _ | refine Ext.app _ ?_)) (hv.ext (by repeat first | with_reducible exact Ext.refl _ | refine Ext.app _ ?_)) hvl hz ha hxr (Ext.trans he (by repeat first | with_reducible exact Ext.refl _ | refine Ext.app _ ?_))

set_option maxRecDepth 10000 in
set_option maxHeartbeats 2000000 in
theorem r7 (haw : ∀ k, Ext h k → RCall P 15 [] k (fun v _ => v = .bool true)) {L : List (Hor × AV)} {V : List (Int × Int)} {W : List Wl} {nn : List Int} {l sv sw : AV} {x : Int} (ol : HorsOk h L l) (hv : IsSl h sv 2 (V.map ratRow)) (hw : IsSl h sw 4 (W.map wlRow)) (hn8 : nn.length = 8) (hnb : ∀ y ∈ nn, 0 ≤ y ∧ y ≤ 255) :
    RCall P 7 [l, .agg [sv, sw, .int .i64 x], .agg (nn.map (AV.int .u8))] h (fun v _ => v = .bool true) := by
  refine .of T.mix (Eq.trans T.c7 (congrArg some cl_0)) ?_
  obtain ⟨ts, hts⟩ : ∃ ts, ts = startTS 374 [l, .agg [sv, sw, .int .i64 x], .agg (nn.map (AV.int .u8))] := ⟨_, rfl⟩
  have hlen : ts.length = 374 := by rw [hts]; rfl
  have t0 : slot ts 0 = l := by rw [hts]; rfl
  have t1 : slot ts 1 = .agg [sv, sw, .int .i64 x] := by rw [hts]; rfl
  have t2 : slot ts 2 = .agg (nn.map (AV.int .u8)) := by rw [hts]; rfl
  have c1 := hv.one
  have c2 := hw.one
  have c3 : (nn.map (AV.int .u8)).all AV.one = true := by rw [List.all_eq_true]; intro y hy; obtain ⟨u, _, rfl⟩ := List.mem_map.1 hy; rfl
  have z0 : decide ((0 : Int) ≠ 0) = false := rfl
  show WC P inFn (.seq (cl 0) (.seq (cl 1) (.seq (cl 2) (.seq (cl 3) (clT 4))))) [] (startTS 374 _) h (FQ [(6, none)] _)
  rw [← hts]
  clear hts
  unfold cl fn7
  simp only [ICode.dr, ICode.tl, ICode.hd]
  repeat (first | simp (config := { maxSteps := 1000000 }) only [wset, hset, dset, bset, Nat.reduceAdd, Nat.reduceMul, Nat.reduceLeDiff, Nat.reduceEqDiff, pset, hlen, if_false, if_true, t0, t1, t2, c1, c2, c3] | simp (config := { maxSteps := 1000000 }) (disch := first | (simp only [List.length_append, List.length_cons, List.length_nil] <;> omega) | rfl | omega | fail) only [kset, wset, hset, dset, bset, Nat.reduceAdd, Nat.reduceMul, Nat.reduceLeDiff, Nat.reduceEqDiff, pset, hlen, if_false, if_true, t0, t1, t2, c1, c2, c3])
  refine WF.res T.c15 (haw _ (by repeat first | with_reducible exact Ext.refl _ | refine Ext.app _ ?_)) ?_
  rintro _ g1 rfl
  repeat (first | simp (config := { maxSteps := 1000000 }) only [wset, hset, dset, bset, Nat.reduceAdd, Nat.reduceMul, Nat.reduceLeDiff, Nat.reduceEqDiff, pset, hlen, if_false, if_true, t0, t1, c1, c2, Bool.not_true] | simp (config := { maxSteps := 1000000 }) (disch := first | (simp only [List.length_append, List.length_cons, List.length_nil] <;> omega) | rfl | omega | fail) only [kset, wset, hset, dset, bset, Nat.reduceAdd, Nat.reduceMul, Nat.reduceLeDiff, Nat.reduceEqDiff, pset, hlen, if_false, if_true, t0, t1, c1, c2, Bool.not_true])
  refine WF.res T.c17 (r17 T (ol.sl.ext (by repeat first | with_reducible exact Ext.refl _ | refine Ext.app _ ?_)) ol.len (fun y hy => (ol.all y hy).sl.ext (by repeat first | with_reducible exact Ext.refl _ | refine Ext.app _ ?_))) ?_
  rintro _ g2 rfl
  cases hsh : shortAllS (L.map (·.1)) with
  | false =>
    repeat (first | simp (config := { maxSteps := 1000000 }) only [wset, hset, dset, bset, Nat.reduceAdd, Nat.reduceMul, Nat.reduceLeDiff, Nat.reduceEqDiff, pset, hlen, if_false, if_true, t0, t1, Bool.not_false, c1, c2] | simp (config := { maxSteps := 1000000 }) (disch := first | (simp only [List.length_append, List.length_cons, List.length_nil] <;> omega) | rfl | omega | fail) only [kset, wset, hset, dset, bset, Nat.reduceAdd, Nat.reduceMul, Nat.reduceLeDiff, Nat.reduceEqDiff, pset, hlen, if_false, if_true, t0, t1, Bool.not_false, c1, c2])
    refine WF.res T.c15 (haw _ (by repeat first | with_reducible exact Ext.refl _ | refine Ext.app _ ?_)) ?_
    rintro _ gz rfl
    repeat (first | simp (config := { maxSteps := 1000000 }) only [wset, hset, dset, bset, Nat.reduceAdd, Nat.reduceMul, Nat.reduceLeDiff, Nat.reduceEqDiff, pset, hlen, if_false, if_true, t0] | simp (config := { maxSteps := 1000000 }) (disch := first | (simp only [List.length_append, List.length_cons, List.length_nil] <;> omega) | rfl | omega | fail) only [kset, wset, hset, dset, bset, Nat.reduceAdd, Nat.reduceMul, Nat.reduceLeDiff, Nat.reduceEqDiff, pset, hlen, if_false, if_true, t0])
  | true =>
  by_cases h9 : 9 < (V.length : Int)
  · repeat (first | simp (config := { maxSteps := 1000000 }) only [wset, hset, dset, bset, Nat.reduceAdd, Nat.reduceMul, Nat.reduceLeDiff, Nat.reduceEqDiff, pset, hlen, if_false, if_true, t0, t1, c1, c2, Bool.not_true, hv.lenm, decide_eq_true h9] | simp (config := { maxSteps := 1000000 }) (disch := first | (simp only [List.length_append, List.length_cons, List.length_nil] <;> omega) | rfl | omega | fail) only [kset, wset, hset, dset, bset, Nat.reduceAdd, Nat.reduceMul, Nat.reduceLeDiff, Nat.reduceEqDiff, pset, hlen, if_false, if_true, t0, t1, c1, c2, Bool.not_true, hv.lenm, decide_eq_true h9])
    refine WF.res T.c15 (haw _ (by repeat first | with_reducible exact Ext.refl _ | refine Ext.app _ ?_)) ?_
    rintro _ gz rfl
    repeat (first | simp (config := { maxSteps := 1000000 }) only [wset, hset, dset, bset, Nat.reduceAdd, Nat.reduceMul, Nat.reduceLeDiff, Nat.reduceEqDiff, pset, hlen, if_false, if_true, t0] | simp (config := { maxSteps := 1000000 }) (disch := first | (simp only [List.length_append, List.length_cons, List.length_nil] <;> omega) | rfl | omega | fail) only [kset, wset, hset, dset, bset, Nat.reduceAdd, Nat.reduceMul, Nat.reduceLeDiff, Nat.reduceEqDiff, pset, hlen, if_false, if_true, t0])
  have hvl : V.length ≤ 2 ^ 40 := by omega
  repeat (first | simp (config := { maxSteps := 1000000 }) only [wset, hset, dset, bset, Nat.reduceAdd, Nat.reduceMul, Nat.reduceLeDiff, Nat.reduceEqDiff, pset, hlen, if_false, if_true, t0, t1, c1, c2, Bool.not_true, hv.lenm, decide_eq_false h9] | simp (config := { maxSteps := 1000000 }) (disch := first | (simp only [List.length_append, List.length_cons, List.length_nil] <;> omega) | rfl | omega | fail) only [kset, wset, hset, dset, bset, Nat.reduceAdd, Nat.reduceMul, Nat.reduceLeDiff, Nat.reduceEqDiff, pset, hlen, if_false, if_true, t0, t1, c1, c2, Bool.not_true, hv.lenm, decide_eq_false h9])
  refine WF.res T.c29 (r29 T (ol.ext (by repeat first | with_reducible exact Ext.refl _ | refine Ext.app _ ?_))) ?_
  rintro _ g3 rfl
  by_cases hb : chkHorsS (L.map (·.1)) = 0
  case neg =>
    repeat (first | simp (config := { maxSteps := 1000000 }) only [wset, hset, dset, bset, Nat.reduceAdd, Nat.reduceMul, Nat.reduceLeDiff, Nat.reduceEqDiff, pset, hlen, if_false, if_true, t0, decide_eq_true hb] | simp (config := { maxSteps := 1000000 }) (disch := first | (simp only [List.length_append, List.length_cons, List.length_nil] <;> omega) | rfl | omega | fail) only [kset, wset, hset, dset, bset, Nat.reduceAdd, Nat.reduceMul, Nat.reduceLeDiff, Nat.reduceEqDiff, pset, hlen, if_false, if_true, t0, decide_eq_true hb])
    refine WF.res T.c15 (haw _ (by repeat first | with_reducible exact Ext.refl _ | refine Ext.app _ ?_)) ?_
    rintro _ gz rfl
    repeat (first | simp (config := { maxSteps := 1000000 }) only [wset, hset, dset, bset, Nat.reduceAdd, Nat.reduceMul, Nat.reduceLeDiff, Nat.reduceEqDiff, pset, hlen, if_false, if_true, t0] | simp (config := { maxSteps := 1000000 }) (disch := first | (simp only [List.length_append, List.length_cons, List.length_nil] <;> omega) | rfl | omega | fail) only [kset, wset, hset, dset, bset, Nat.reduceAdd, Nat.reduceMul, Nat.reduceLeDiff, Nat.reduceEqDiff, pset, hlen, if_false, if_true, t0])
  have z := hors_zero hb
  have hn : ∀ y ∈ L, HorV y.1 := fun y hy => z.1 _ (List.mem_map_of_mem hy)
  rw [hb]
  repeat (first | simp (config := { maxSteps := 1000000 }) only [wset, hset, dset, bset, Nat.reduceAdd, Nat.reduceMul, Nat.reduceLeDiff, Nat.reduceEqDiff, pset, hlen, if_false, if_true, t0, t1, z0, c1, c2] | simp (config := { maxSteps := 1000000 }) (disch := first | (simp only [List.length_append, List.length_cons, List.length_nil] <;> omega) | rfl | omega | fail) only [kset, wset, hset, dset, bset, Nat.reduceAdd, Nat.reduceMul, Nat.reduceLeDiff, Nat.reduceEqDiff, pset, hlen, if_false, if_true, t0, t1, z0, c1, c2])
  refine WF.res T.c46 (r46 T (ol.ext (by repeat first | with_reducible exact Ext.refl _ | refine Ext.app _ ?_)) (hv.ext (by repeat first | with_reducible exact Ext.refl _ | refine Ext.app _ ?_)) hvl) ?_
  rintro _ g4 rfl
  by_cases hvr : velRS L.length V = 0
  case neg =>
    repeat (first | simp (config := { maxSteps := 1000000 }) only [wset, hset, dset, bset, Nat.reduceAdd, Nat.reduceMul, Nat.reduceLeDiff, Nat.reduceEqDiff, pset, hlen, if_false, if_true, t0, decide_eq_true hvr] | simp (config := { maxSteps := 1000000 }) (disch := first | (simp only [List.length_append, List.length_cons, List.length_nil] <;> omega) | rfl | omega | fail) only [kset, wset, hset, dset, bset, Nat.reduceAdd, Nat.reduceMul, Nat.reduceLeDiff, Nat.reduceEqDiff, pset, hlen, if_false, if_true, t0, decide_eq_true hvr])
    refine WF.res T.c15 (haw _ (by repeat first | with_reducible exact Ext.refl _ | refine Ext.app _ ?_)) ?_
    rintro _ gz rfl
    repeat (first | simp (config := { maxSteps := 1000000 }) only [wset, hset, dset, bset, Nat.reduceAdd, Nat.reduceMul, Nat.reduceLeDiff, Nat.reduceEqDiff, pset, hlen, if_false, if_true, t0] | simp (config := { maxSteps := 1000000 }) (disch := first | (simp only [List.length_append, List.length_cons, List.length_nil] <;> omega) | rfl | omega | fail) only [kset, wset, hset, dset, bset, Nat.reduceAdd, Nat.reduceMul, Nat.reduceLeDiff, Nat.reduceEqDiff, pset, hlen, if_false, if_true, t0])
  have hz : chkVelS (L.map (·.1)) V = 0 := by
    unfold velRS at hvr
    by_cases hll : V.length = L.length
    · rw [if_pos hll] at hvr
      have hh : velHeadS (L.map (·.1)) V = 0 := firstS_zero.2 fun y hy => by
        simp only [List.mem_cons, List.not_mem_nil, or_false] at hy
        rcases hy with rfl | rfl
        · exact hb
        · rw [whenS_zero (by decide), List.length_map]; exact decide_eq_false (by omega)
      rw [chkVelS, if_pos hh]; exact hvr
    · rw [if_neg hll] at hvr; cases hvr
  rw [hvr]
  repeat (first | simp (config := { maxSteps := 1000000 }) only [wset, hset, dset, bset, Nat.reduceAdd, Nat.reduceMul, Nat.reduceLeDiff, Nat.reduceEqDiff, pset, hlen, if_false, if_true, t0, t1, z0, c1, c2] | simp (config := { maxSteps := 1000000 }) (disch := first | (simp only [List.length_append, List.length_cons, List.length_nil] <;> omega) | rfl | omega | fail) only [kset, wset, hset, dset, bset, Nat.reduceAdd, Nat.reduceMul, Nat.reduceLeDiff, Nat.reduceEqDiff, pset, hlen, if_false, if_true, t0, t1, z0, c1, c2])
  refine WF.res T.c47 (r47 T (ol.ext (by repeat first | with_reducible exact Ext.refl _ | refine Ext.app _ ?_)) (fun y hy => (hn y hy).ne) x) ?_
  rintro _ g5 rfl
  cases ha : allHasS (L.map (·.1)) x with
  | false =>
    repeat (first | simp (config := { maxSteps := 1000000 }) only [wset, hset, dset, bset, Nat.reduceAdd, Nat.reduceMul, Nat.reduceLeDiff, Nat.reduceEqDiff, pset, hlen, if_false, if_true, t0, Bool.not_false, whenS, show decide ((14 : Int) ≠ 0) = true from rfl] | simp (config := { maxSteps := 1000000 }) (disch := first | (simp only [List.length_append, List.length_cons, List.length_nil] <;> omega) | rfl | omega | fail) only [kset, wset, hset, dset, bset, Nat.reduceAdd, Nat.reduceMul, Nat.reduceLeDiff, Nat.reduceEqDiff, pset, hlen, if_false, if_true, t0, Bool.not_false, whenS, show decide ((14 : Int) ≠ 0) = true from rfl])
    refine WF.res T.c15 (haw _ (by repeat first | with_reducible exact Ext.refl _ | refine Ext.app _ ?_)) ?_
    rintro _ gz rfl
    repeat (first | simp (config := { maxSteps := 1000000 }) only [wset, hset, dset, bset, Nat.reduceAdd, Nat.reduceMul, Nat.reduceLeDiff, Nat.reduceEqDiff, pset, hlen, if_false, if_true, t0] | simp (config := { maxSteps := 1000000 }) (disch := first | (simp only [List.length_append, List.length_cons, List.length_nil] <;> omega) | rfl | omega | fail) only [kset, wset, hset, dset, bset, Nat.reduceAdd, Nat.reduceMul, Nat.reduceLeDiff, Nat.reduceEqDiff, pset, hlen, if_false, if_true, t0])
  | true =>
  repeat (first | simp (config := { maxSteps := 1000000 }) only [wset, hset, dset, bset, Nat.reduceAdd, Nat.reduceMul, Nat.reduceLeDiff, Nat.reduceEqDiff, pset, hlen, if_false, if_true, t0, t1, Bool.not_true, whenS, Bool.false_eq_true, z0, c1, c2] | simp (config := { maxSteps := 1000000 }) (disch := first | (simp only [List.length_append, List.length_cons, List.length_nil] <;> omega) | rfl | omega | fail) only [kset, wset, hset, dset, bset, Nat.reduceAdd, Nat.reduceMul, Nat.reduceLeDiff, Nat.reduceEqDiff, pset, hlen, if_false, if_true, t0, t1, Bool.not_true, whenS, Bool.false_eq_true, z0, c1, c2])
  refine WF.res T.c66 (r66 T x) ?_
  rintro _ g6 rfl
  by_cases hr : rangeS x 0 255 = 0
  case neg =>
    repeat (first | simp (config := { maxSteps := 1000000 }) only [wset, hset, dset, bset, Nat.reduceAdd, Nat.reduceMul, Nat.reduceLeDiff, Nat.reduceEqDiff, pset, hlen, if_false, if_true, t0, decide_eq_true hr] | simp (config := { maxSteps := 1000000 }) (disch := first | (simp only [List.length_append, List.length_cons, List.length_nil] <;> omega) | rfl | omega | fail) only [kset, wset, hset, dset, bset, Nat.reduceAdd, Nat.reduceMul, Nat.reduceLeDiff, Nat.reduceEqDiff, pset, hlen, if_false, if_true, t0, decide_eq_true hr])
    refine WF.res T.c15 (haw _ (by repeat first | with_reducible exact Ext.refl _ | refine Ext.app _ ?_)) ?_
    rintro _ gz rfl
    repeat (first | simp (config := { maxSteps := 1000000 }) only [wset, hset, dset, bset, Nat.reduceAdd, Nat.reduceMul, Nat.reduceLeDiff, Nat.reduceEqDiff, pset, hlen, if_false, if_true, t0] | simp (config := { maxSteps := 1000000 }) (disch := first | (simp only [List.length_append, List.length_cons, List.length_nil] <;> omega) | rfl | omega | fail) only [kset, wset, hset, dset, bset, Nat.reduceAdd, Nat.reduceMul, Nat.reduceLeDiff, Nat.reduceEqDiff, pset, hlen, if_false, if_true, t0])
  have hxr := rangeS_zero.1 hr
  have hd0 : depE (L.map (·.1)) V x = 0 := by rw [depE, if_pos hz, ha]; rfl
  have hVl : V.length = L.length := by have := (vel_zero hz).2.2.1; simpa using this
  have hml : (depthsS (0, 0) (0, 0) ((L.map (·.1)).zip V) x).length = L.length := by rw [depthsS_len]; simp; omega
  rw [hr]
  repeat (first | simp (config := { maxSteps := 1000000 }) only [wset, hset, dset, bset, Nat.reduceAdd, Nat.reduceMul, Nat.reduceLeDiff, Nat.reduceEqDiff, pset, hlen, if_false, if_true, t0, t1, z0, c1, c2] | simp (config := { maxSteps := 1000000 }) (disch := first | (simp only [List.length_append, List.length_cons, List.length_nil] <;> omega) | rfl | omega | fail) only [kset, wset, hset, dset, bset, Nat.reduceAdd, Nat.reduceMul, Nat.reduceLeDiff, Nat.reduceEqDiff, pset, hlen, if_false, if_true, t0, t1, z0, c1, c2])
  refine WF.res T.c28 (r28' T (ol.ext (by repeat first | with_reducible exact Ext.refl _ | refine Ext.app _ ?_)) hsh) ?_
  rintro l1 g7 ⟨L1, hm1, o1⟩
  repeat (first | simp (config := { maxSteps := 1000000 }) only [wset, hset, dset, bset, Nat.reduceAdd, Nat.reduceMul, Nat.reduceLeDiff, Nat.reduceEqDiff, pset, hlen, if_false, if_true, t0, t1, z0, c1, c2] | simp (config := { maxSteps := 1000000 }) (disch := first | (simp only [List.length_append, List.length_cons, List.length_nil] <;> omega) | rfl | omega | fail) only [kset, wset, hset, dset, bset, Nat.reduceAdd, Nat.reduceMul, Nat.reduceLeDiff, Nat.reduceEqDiff, pset, hlen, if_false, if_true, t0, t1, z0, c1, c2])
  refine WF.res T.c42 (r42 T (hv.ext (by repeat first | with_reducible exact Ext.refl _ | refine Ext.app _ ?_)) hvl) ?_
  rintro v1 g8 hv1
  repeat (first | simp (config := { maxSteps := 1000000 }) only [wset, hset, dset, bset, Nat.reduceAdd, Nat.reduceMul, Nat.reduceLeDiff, Nat.reduceEqDiff, pset, hlen, if_false, if_true, t0, t1, z0, c1, c2] | simp (config := { maxSteps := 1000000 }) (disch := first | (simp only [List.length_append, List.length_cons, List.length_nil] <;> omega) | rfl | omega | fail) only [kset, wset, hset, dset, bset, Nat.reduceAdd, Nat.reduceMul, Nat.reduceLeDiff, Nat.reduceEqDiff, pset, hlen, if_false, if_true, t0, t1, z0, c1, c2])
  refine WF.res T.c41 (r41 T (o1.ext (by repeat first | with_reducible exact Ext.refl _ | refine Ext.app _ ?_)) (hv1.isSl.ext (by repeat first | with_reducible exact Ext.refl _ | refine Ext.app _ ?_)) hvl x) ?_
  rintro _ g9 ⟨s7, rfl, o7⟩
  rw [hm1, hd0] at o7 ⊢
  rw [if_pos rfl] at o7
  repeat (first | simp (config := { maxSteps := 1000000 }) only [wset, hset, dset, bset, Nat.reduceAdd, Nat.reduceMul, Nat.reduceLeDiff, Nat.reduceEqDiff, pset, hlen, if_false, if_true, t0, t1, z0, c1, c2, o7.lenm, ol.sl.lenm, hml, show decide ((L.length : Int) ≠ L.length) = false from by simp] | simp (config := { maxSteps := 1000000 }) (disch := first | (simp only [List.length_append, List.length_cons, List.length_nil] <;> omega) | rfl | omega | fail) only [kset, wset, hset, dset, bset, Nat.reduceAdd, Nat.reduceMul, Nat.reduceLeDiff, Nat.reduceEqDiff, pset, hlen, if_false, if_true, t0, t1, z0, c1, c2, o7.lenm, ol.sl.lenm, hml, show decide ((L.length : Int) ≠ L.length) = false from by simp])
  refine columns_A T (L := L) (V := V) (D := depthsS (0, 0) (0, 0) ((L.map (·.1)).zip V) x) (nn := nn) (l := l) (sv := sv) (sw := sw) (s7 := s7) (x := x) (b4 := ?b4) (b5 := ?b5) (by simp only [wset, hset, dset, bset, Nat.reduceAdd, Nat.reduceMul, Nat.reduceLeDiff, Nat.reduceEqDiff, pset, hlen, if_false, if_true, t0]) (by simp only [wset, hset, dset, bset, Nat.reduceAdd, Nat.reduceMul, Nat.reduceLeDiff, Nat.reduceEqDiff, pset, hlen, if_false, if_true, t0]) ?k4 ?k5 (by simp only [wset, hset, dset, bset, Nat.reduceAdd, Nat.reduceMul, Nat.reduceLeDiff, Nat.reduceEqDiff, pset, hlen, if_false, if_true, t0]) ?m4 ?m5 hn8 hnb ?o7 rfl hsh ?ol ?hv hvl hz ha hxr ?ee
  case k4 => simp only [wset, hset, dset, bset, Nat.reduceAdd, Nat.reduceMul, Nat.reduceLeDiff, Nat.reduceEqDiff, pset, hlen, if_false, if_true]; rfl
  case k5 => simp only [wset, hset, dset, bset, Nat.reduceAdd, Nat.reduceMul, Nat.reduceLeDiff, Nat.reduceEqDiff, pset, hlen, if_false, if_true]; rfl
  case m4 => exact Ext.some (by repeat first | with_reducible exact Ext.refl _ | refine Ext.app _ ?_) (at_new (X := h))
  case m5 => exact Ext.some (by repeat first | with_reducible exact Ext.refl _ | refine Ext.app _ ?_) (at_new (X := h ++ [ABlk.cells [sv, sw, AV.int IntKind.i64 x] true false]))
  case o7 => exact o7.ext (by repeat first | with_reducible exact Ext.refl _ | refine Ext.app _ ?_)
  case ol => exact ol.ext (by repeat first | with_reducible exact Ext.refl _ | refine Ext.app _ ?_)
  case hv => exact hv.ext (by repeat first | with_reducible exact Ext.refl _ | refine Ext.app _ ?_)
  case ee => exact by repeat first | with_reducible exact Ext.refl _ | refine Ext.app _ ?_
end
end Go.Abs
