/- The law HorizonGround, by the contracts; 'awake' stands as a hypothesis. No condition. -/
import Derived.Test.YtjhdkimkijhloaaGreatDoorGd13
set_option linter.all false
namespace Go.Abs

def ICode.br : ICode → ICode
  | .cond _ a _ => a
  | c => c
def gr (k : Nat) : ICode := ((fn11).body.dr k).hd
def grT (k : Nat) : ICode := (fn11).body.dr k
def gx28 : ICode := (gr 28).tl.inn.inn
def gx280 : ICode := (gr 28).hd
def gx281 : ICode := gx28.hd
def gx282 : ICode := gx28.tl.hd
def gx283 : ICode := gx28.tl.tl.hd.inn
def gx284 : ICode := gx28.tl.tl.tl
theorem gr_E : grT 27 = .seq (gr 27) (.seq (gr 28) (grT 29)) := rfl
theorem gr_28 : gr 28 = .seq gx280 (.block 6 (.loop (.seq gx281 (.seq gx282 (.seq (.block 7 gx283) gx284))))) := rfl
def gx23 : ICode := (gr 23).tl.inn.inn
def gx230 : ICode := (gr 23).hd
def gx231 : ICode := gx23.hd
def gx232 : ICode := gx23.tl.hd
def gx233 : ICode := gx23.tl.tl.hd.inn
def gx234 : ICode := gx23.tl.tl.tl
theorem gr_23 : gr 23 = .seq gx230 (.block 4 (.loop (.seq gx231 (.seq gx232 (.seq (.block 5 gx233) gx234))))) := rfl
theorem gr_C : grT 21 = .seq (gr 21) (.seq (gr 22) (.seq (gr 23) (grT 24))) := rfl
theorem iada_i4 {len b i : Nat} {k : IntKind} (hi : i < len) : iadaF len 1 (.ptr b 0) (.int k (i : Int)) = some (.ptr b i) := by
  simp only [iadaF]; rw [if_pos (by omega)]; simp
def gx20 : ICode := (gr 20).tl.br.tl
def gx20a : ICode := (gr 20).hd
def gx20b : ICode := (gr 20).tl.br.hd
def gx200 : ICode := gx20.hd
def gx20x : ICode := gx20.tl.inn.inn
def gx201 : ICode := gx20x.hd
def gx202 : ICode := gx20x.tl.hd
def gx203 : ICode := gx20x.tl.tl.hd.inn
def gx204 : ICode := gx20x.tl.tl.tl
theorem gr_20 : gr 20 = .seq gx20a (.cond (.t 243) (.seq gx20b (.seq gx200 (.block 2 (.loop (.seq gx201 (.seq gx202 (.seq (.block 3 gx203) gx204))))))) .skip) := rfl
theorem gr_B : grT 20 = .seq (gr 20) (grT 21) := rfl
def gx19 : ICode := (gr 19).tl.inn.inn
def gx190 : ICode := (gr 19).hd
def gx191 : ICode := gx19.hd
def gx192 : ICode := gx19.tl.hd
def gx193 : ICode := gx19.tl.tl.hd.inn
def gx194 : ICode := gx19.tl.tl.tl
theorem gr_19 : gr 19 = .seq gx190 (.block 0 (.loop (.seq gx191 (.seq gx192 (.seq (.block 1 gx193) gx194))))) := rfl
theorem gr_A2 : grT 15 = .seq (gr 15) (.seq (gr 16) (.seq (gr 17) (.seq (gr 18) (.seq (gr 19) (grT 20))))) := rfl
theorem gr_9 : grT 9 = .seq (gr 9) (grT 10) := rfl
theorem gr_10 : grT 10 = .seq (gr 10) (.seq (gr 11) (.seq (gr 12) (grT 13))) := rfl
theorem gr_13 : grT 13 = .seq (gr 13) (.seq (gr 14) (grT 15)) := rfl
theorem gr_2 : grT 2 = .seq (gr 2) (.seq (gr 3) (.seq (gr 4) (.seq (gr 5) (grT 6)))) := rfl
theorem gr_6 : grT 6 = .seq (gr 6) (.seq (gr 7) (.seq (gr 8) (grT 9))) := rfl
theorem gr_0 : fn11 = ⟨487, 3, [(6, none)], .seq (gr 0) (.seq (gr 1) (grT 2))⟩ := rfl
theorem gr_D : grT 24 = .seq (gr 24) (.seq (gr 25) (.seq (gr 26) (grT 27))) := rfl

theorem chk_0 {A B : Hor} (va : HorV A) (vb : HorV B) (hp : (placesS A B).length ≠ 0) {x lo : Int} (hx : lo ≤ x ∧ x ≤ 1000) : chkShS A B x lo = 0 := by
  have h0 : shiftE A B x lo = 0 := firstS_zero.2 fun y hy => by
    simp only [List.mem_cons, List.not_mem_nil, or_false] at hy
    rcases hy with rfl | rfl
    · refine firstS_zero.2 fun y hy => ?_
      simp only [List.mem_cons, List.not_mem_nil, or_false] at hy
      rcases hy with rfl | rfl
      · exact horV_iff.2 va
      · exact horV_iff.2 vb
    · exact rangeS_zero.2 hx
  unfold chkShS
  rw [if_pos h0, decide_eq_true (show 0 < (placesS A B).length by omega)]; rfl

attribute [local irreducible] WP WC WE WB WR WF WL WG WRg
section
variable {P : Program} (T : Tbl P) {h : AHeap}
include T

set_option maxRecDepth 10000 in
set_option maxHeartbeats 1000000 in
theorem ground_E {A : Hor} {sa s38 s40 : AV} {W : AHeap} {ts : TS} {b3 : Nat} {G : List (Int × Int)} (hlen : ts.length = 487) (t3 : slot ts 3 = .ptr b3 0) (t38 : slot ts 38 = s38) (t39 : slot ts 39 = .int .i64 0) (t40 : slot ts 40 = s40) (t41 : slot ts 41 = .int .i64 0)
    (m3 : W[b3]? = some (.cells [.str A.name, .int .i64 A.err, sa] true false)) (oa : HorOk W A sa) (va : HorV A) (o38 : IsSl W s38 1 (([] : List Int).map intRow)) (o40 : IsSl W s40 2 (G.map ratRow)) (hg : (G.length : Int) = endS A - begS A + 1)
    (hin : ∀ j (hj : j < A.picks.length), ∃ (i : Nat) (hi : i < G.length), A.picks[j].1 = begS A + i ∧ G[i].1 ≤ A.picks[j].2 ∧ A.picks[j].2 ≤ G[i].2) (he : Ext h W) :
    WC P inFn (grT 27) [] ts W (FQ [(6, none)] fun v h' => Ext h h' ∧ v = .bool true) := by
  have q3 := (List.getElem?_eq_some_iff.1 m3).1
  have l3 : ∀ {n : Option Nat} {o : Nat} {kk : AHeap}, Ext W kk → loadF n (.ptr b3 o) (fun z => kk[z]?) = ldB n o (.cells [.str A.name, .int .i64 A.err, sa] true false) := fun e => loadF_at (e.some m3)
  have hne := va.ne
  have hle := va.le
  have hbd := end_bd va
  have z0 : decide ((0 : Int) ≠ 0) = false := rfl
  have z1 : decide ((0 : Int) < 0) = false := rfl
  have wl : IntKind.i64.wrap ((A.picks.length : Int) - 1) = ((A.picks.length - 1 : Nat) : Int) := by rw [wrap_in (by omega) (by omega)]; omega
  have w1 : IntKind.i64.wrap (endS A - begS A) = endS A - begS A := wrap_in (by omega) (by omega)
  have w2 : IntKind.i64.wrap (endS A - begS A + 1) = endS A - begS A + 1 := wrap_in (by omega) (by omega)
  have ie := oa.sl.ixm (kk := .i64) (i := A.picks.length - 1) (by omega)
  have ib := oa.sl.ix0 (kk := .i64) hne
  have lb : ∀ {kk : AHeap}, Ext W kk → loadF none (elp sa 2 0) (fun b => kk[b]?) = some (.int .i64 (begS A), .keep) := fun {kk} e => oa.sl.l1m hne (by rw [begS_eq hne]; rfl) e
  have lb' : ∀ {kk : AHeap}, Ext W kk → loadF none (elf sa 2 0 0) (fun b => kk[b]?) = some (.int .i64 (begS A), .keep) := fun {kk} e => oa.sl.lfm (off := 0) hne (by rw [begS_eq hne]; rfl) e
  have le : ∀ {kk : AHeap}, Ext W kk → loadF none (elp sa 2 (A.picks.length - 1)) (fun b => kk[b]?) = some (.int .i64 (endS A), .keep) := fun {kk} e => oa.sl.l1m (by omega) (by rw [endS_eq hne]; rfl) e
  have le' : ∀ {kk : AHeap}, Ext W kk → loadF none (elf sa 2 (A.picks.length - 1) 0) (fun b => kk[b]?) = some (.int .i64 (endS A), .keep) := fun {kk} e => oa.sl.lfm (off := 0) (by omega) (by rw [endS_eq hne]; rfl) e
  have dg : decide ((G.length : Int) ≠ endS A - begS A + 1) = false := decide_eq_false (fun x => x hg)
  rw [gr_E, gr_28]
  unfold gx280 gx281 gx282 gx283 gx284 gx28 gr grT fn11
  simp only [ICode.dr, ICode.tl, ICode.hd, ICode.inn]
  repeat (first | simp (config := { maxSteps := 1000000 }) only [wset, hset, dset, bset, Nat.reduceAdd, Nat.reduceMul, Nat.reduceLeDiff, Nat.reduceEqDiff, pset, hlen, if_false, if_true, t3, t38, t39, t40, t41, l3, z0, z1, o38.lenm, o40.lenm, oa.sl.lenm, List.length_nil, Int.natCast_zero, wl, ie, ib, lb, lb', le, le', w1, w2, dg] | simp (config := { maxSteps := 1000000 }) (disch := first | (simp only [List.length_append, List.length_cons, List.length_nil] <;> omega) | rfl | omega | fail) only [kset, wset, hset, dset, bset, Nat.reduceAdd, Nat.reduceMul, Nat.reduceLeDiff, Nat.reduceEqDiff, pset, hlen, if_false, if_true, t3, t38, t39, t40, t41, l3, z0, z1, o38.lenm, o40.lenm, oa.sl.lenm, List.length_nil, Int.natCast_zero, wl, ie, ib, lb, lb', le, le', w1, w2, dg])
  refine WL.inv T.mix (fun n ts' h' => ∃ (k : Nat) (g' : AHeap), k ≤ A.picks.length ∧ n = A.picks.length - k ∧ h' = W ++ g' ∧ ts'.length = 487 ∧ slot ts' 3 = .ptr b3 0 ∧ slot ts' 40 = s40 ∧ slot ts' 457 = sa ∧ slot ts' 458 = .int .i64 A.picks.length ∧ slot ts' 459 = .int .i64 k) A.picks.length
    ⟨0, [], by omega, rfl, by rw [List.append_nil], (by simp only [wset, hset, dset, bset, Nat.reduceAdd, Nat.reduceMul, Nat.reduceLeDiff, Nat.reduceEqDiff, pset, hlen, if_false, if_true, t3]), (by simp only [wset, hset, dset, bset, Nat.reduceAdd, Nat.reduceMul, Nat.reduceLeDiff, Nat.reduceEqDiff, pset, hlen, if_false, if_true, t3]), (by simp only [wset, hset, dset, bset, Nat.reduceAdd, Nat.reduceMul, Nat.reduceLeDiff, Nat.reduceEqDiff, pset, hlen, if_false, if_true, t40]), (by simp only [wset, hset, dset, bset, Nat.reduceAdd, Nat.reduceMul, Nat.reduceLeDiff, Nat.reduceEqDiff, pset, hlen, if_false, if_true, t3]), (by simp only [wset, hset, dset, bset, Nat.reduceAdd, Nat.reduceMul, Nat.reduceLeDiff, Nat.reduceEqDiff, pset, hlen, if_false, if_true, t3]), (by simp only [wset, hset, dset, bset, Nat.reduceAdd, Nat.reduceMul, Nat.reduceLeDiff, Nat.reduceEqDiff, pset, hlen, if_false, if_true]; rfl)⟩ ?_
  rintro _ ts' _ ⟨k, g', hk, rfl, rfl, hlen', u3, u40, u457, u458, u459⟩
  clear hlen
  have hlen := hlen'
  by_cases hlt : k < A.picks.length
  · have e3 : (k : Int) < A.picks.length := by omega
    obtain ⟨i, hi, e1, e4, e5⟩ := hin k hlt
    have w3 : IntKind.i64.wrap (A.picks[k].1 - begS A) = (i : Int) := by
      have := va.ok.at hlt
      rw [wrap_in (by omega) (by omega)]; omega
    have lg : ∀ {kk : AHeap}, Ext W kk → loadF (some 2) (elp s40 2 i) (fun b => kk[b]?) = some (.agg (ratRow G[i]), .keep) := fun {kk} e => o40.ldm hi e
    have lp : ∀ {kk : AHeap}, Ext W kk → loadF (some 2) (elp sa 2 k) (fun b => kk[b]?) = some (.agg (pkRow A.picks[k]), .keep) := fun {kk} e => oa.sl.ldm hlt e
    have d1 : decide (A.picks[k].2 < G[i].1) = false := decide_eq_false (by omega)
    have d2 : decide (G[i].2 < A.picks[k].2) = false := decide_eq_false (by omega)
    repeat (first | simp (config := { maxSteps := 1000000 }) only [wset, hset, dset, bset, Nat.reduceAdd, Nat.reduceMul, Nat.reduceLeDiff, Nat.reduceEqDiff, pset, hlen, if_false, if_true, u3, u40, u457, u458, u459, l3, e3, decide_true, oa.sl.ixm hlt, lp, ib, lb, lb', w3, o40.ixm hi, lg, d1, d2, wrapN (show k + 1 < 2 ^ 63 by omega)] | simp (config := { maxSteps := 1000000 }) (disch := first | (simp only [List.length_append, List.length_cons, List.length_nil] <;> omega) | rfl | omega | fail) only [kset, wset, hset, dset, bset, Nat.reduceAdd, Nat.reduceMul, Nat.reduceLeDiff, Nat.reduceEqDiff, pset, hlen, if_false, if_true, u3, u40, u457, u458, u459, l3, e3, decide_true, oa.sl.ixm hlt, lp, ib, lb, lb', w3, o40.ixm hi, lg, d1, d2, wrapN (show k + 1 < 2 ^ 63 by omega)])
    exact ⟨A.picks.length - (k + 1), by omega, k + 1, _, by omega, rfl, by rw [List.append_assoc, List.append_assoc], rfl⟩
  · have e3 : ¬ (k : Int) < A.picks.length := by omega
    repeat (first | simp (config := { maxSteps := 1000000 }) only [wset, hset, dset, bset, Nat.reduceAdd, Nat.reduceMul, Nat.reduceLeDiff, Nat.reduceEqDiff, pset, hlen, if_false, if_true, u3, u40, u457, u458, u459, e3, decide_false] | simp (config := { maxSteps := 1000000 }) (disch := first | (simp only [List.length_append, List.length_cons, List.length_nil] <;> omega) | rfl | omega | fail) only [kset, wset, hset, dset, bset, Nat.reduceAdd, Nat.reduceMul, Nat.reduceLeDiff, Nat.reduceEqDiff, pset, hlen, if_false, if_true, u3, u40, u457, u458, u459, e3, decide_false])
    exact ⟨Ext.trans he (by repeat first | with_reducible exact Ext.refl _ | refine Ext.app _ ?_), trivial⟩

set_option maxRecDepth 10000 in
set_option maxHeartbeats 1000000 in
theorem ground_D {A O U : Hor} {sa so su : AV} {W : AHeap} {ts : TS} {x : Int} {b3 b35 b36 : Nat} (hlen : ts.length = 487) (t3 : slot ts 3 = .ptr b3 0) (t7 : slot ts 7 = .int .i64 x) (t35 : slot ts 35 = .ptr b35 0) (t36 : slot ts 36 = .ptr b36 0)
    (m3 : W[b3]? = some (.cells [.str A.name, .int .i64 A.err, sa] true false)) (m35 : W[b35]? = some (.cells [.str O.name, .int .i64 O.err, so] true false)) (m36 : W[b36]? = some (.cells [.str U.name, .int .i64 U.err, su] true false))
    (oa : HorOk W A sa) (oo : HorOk W O so) (ou : HorOk W U su) (va : HorV A) (lo : O.picks.length = A.picks.length) (lu : U.picks.length = A.picks.length) (hx : -1000 ≤ x ∧ x ≤ 1000)
    (hp : HorV O → HorV U → cmpS O U x = [] ∧ ((placesS O U).length : Int) = endS A - begS A + 1 ∧ begS O = begS A ∧ begS U = begS A ∧ ∀ j (hj : j < A.picks.length), (gndS O U x A.picks[j].1).1 ≤ A.picks[j].2 ∧ A.picks[j].2 ≤ (gndS O U x A.picks[j].1).2) (he : Ext h W) :
    WC P inFn (grT 24) [] ts W (FQ [(6, none)] fun v h' => Ext h h' ∧ v = .bool true) := by
  have q3 := (List.getElem?_eq_some_iff.1 m3).1
  have l35 : ∀ {n : Option Nat} {o : Nat} {kk : AHeap}, Ext W kk → loadF n (.ptr b35 o) (fun z => kk[z]?) = ldB n o (.cells [.str O.name, .int .i64 O.err, so] true false) := fun e => loadF_at (e.some m35)
  have l36 : ∀ {n : Option Nat} {o : Nat} {kk : AHeap}, Ext W kk → loadF n (.ptr b36 o) (fun z => kk[z]?) = ldB n o (.cells [.str U.name, .int .i64 U.err, su] true false) := fun e => loadF_at (e.some m36)
  have hle := va.le
  have hne := va.ne
  have hbd := end_bd va
  have lo2 : O.picks.length ≤ 2 ^ 40 := by omega
  have lu2 : U.picks.length ≤ 2 ^ 40 := by omega
  rw [gr_D]
  unfold gr fn11
  simp only [ICode.dr, ICode.tl, ICode.hd]
  repeat (first | simp (config := { maxSteps := 1000000 }) only [wset, hset, dset, bset, Nat.reduceAdd, Nat.reduceMul, Nat.reduceLeDiff, Nat.reduceEqDiff, pset, hlen, if_false, if_true, t3, t7, t35, t36, l35, l36] | simp (config := { maxSteps := 1000000 }) (disch := first | (simp only [List.length_append, List.length_cons, List.length_nil] <;> omega) | rfl | omega | fail) only [kset, wset, hset, dset, bset, Nat.reduceAdd, Nat.reduceMul, Nat.reduceLeDiff, Nat.reduceEqDiff, pset, hlen, if_false, if_true, t3, t7, t35, t36, l35, l36])
  refine WF.res T.c21 (r21 T (H := O) (oo.sl.ext (by repeat first | with_reducible exact Ext.refl _ | refine Ext.app _ ?_)) oo.len oo.nm) ?_
  rintro _ g1 rfl
  repeat (first | simp (config := { maxSteps := 1000000 }) only [wset, hset, dset, bset, Nat.reduceAdd, Nat.reduceMul, Nat.reduceLeDiff, Nat.reduceEqDiff, pset, hlen, if_false, if_true, t3, t7, t35, t36, l35, l36] | simp (config := { maxSteps := 1000000 }) (disch := first | (simp only [List.length_append, List.length_cons, List.length_nil] <;> omega) | rfl | omega | fail) only [kset, wset, hset, dset, bset, Nat.reduceAdd, Nat.reduceMul, Nat.reduceLeDiff, Nat.reduceEqDiff, pset, hlen, if_false, if_true, t3, t7, t35, t36, l35, l36])
  refine WF.res T.c21 (r21 T (H := U) (ou.sl.ext (by repeat first | with_reducible exact Ext.refl _ | refine Ext.app _ ?_)) ou.len ou.nm) ?_
  rintro _ g2 rfl
  repeat (first | simp (config := { maxSteps := 1000000 }) only [wset, hset, dset, bset, Nat.reduceAdd, Nat.reduceMul, Nat.reduceLeDiff, Nat.reduceEqDiff, pset, hlen, if_false, if_true, t3, t7, t35, t36, l35, l36] | simp (config := { maxSteps := 1000000 }) (disch := first | (simp only [List.length_append, List.length_cons, List.length_nil] <;> omega) | rfl | omega | fail) only [kset, wset, hset, dset, bset, Nat.reduceAdd, Nat.reduceMul, Nat.reduceLeDiff, Nat.reduceEqDiff, pset, hlen, if_false, if_true, t3, t7, t35, t36, l35, l36])
  refine WF.res T.c33 (r33 T (isSl_ints [_, _]) (by simp)) ?_
  rintro _ g3 rfl
  by_cases hf : firstS [chkHorS O, chkHorS U] = 0
  case neg =>
    have d1 := decide_eq_true (p := ¬ firstS [chkHorS O, chkHorS U] = 0) hf
    repeat (first | simp (config := { maxSteps := 1000000 }) only [wset, hset, dset, bset, Nat.reduceAdd, Nat.reduceMul, Nat.reduceLeDiff, Nat.reduceEqDiff, pset, hlen, if_false, if_true, t3, t7, t35, t36, ne_eq, d1] | simp (config := { maxSteps := 1000000 }) (disch := first | (simp only [List.length_append, List.length_cons, List.length_nil] <;> omega) | rfl | omega | fail) only [kset, wset, hset, dset, bset, Nat.reduceAdd, Nat.reduceMul, Nat.reduceLeDiff, Nat.reduceEqDiff, pset, hlen, if_false, if_true, t3, t7, t35, t36, ne_eq, d1])
    exact ⟨Ext.trans he (by repeat first | with_reducible exact Ext.refl _ | refine Ext.app _ ?_), trivial⟩
  have hz := firstS_zero.1 hf
  have vo := horV_iff.1 (hz (chkHorS O) (by simp))
  have vu := horV_iff.1 (hz (chkHorS U) (by simp))
  obtain ⟨p1, p2, p3, p4, p5⟩ := hp vo vu
  have hsh : chkShS O U x (-1000) = 0 := by
    have h0 : shiftE O U x (-1000) = 0 := firstS_zero.2 fun y hy => by
      simp only [List.mem_cons, List.not_mem_nil, or_false] at hy
      rcases hy with rfl | rfl
      · exact hf
      · exact rangeS_zero.2 hx
    unfold chkShS
    rw [if_pos h0, decide_eq_true (show 0 < (placesS O U).length by omega)]; rfl
  have d1 := decide_eq_false (p := ¬ firstS [chkHorS O, chkHorS U] = 0) (fun z => z hf)
  repeat (first | simp (config := { maxSteps := 1000000 }) only [wset, hset, dset, bset, Nat.reduceAdd, Nat.reduceMul, Nat.reduceLeDiff, Nat.reduceEqDiff, pset, hlen, if_false, if_true, t3, t7, t35, t36, l35, l36, oo.sl.one, ou.sl.one, ne_eq, d1] | simp (config := { maxSteps := 1000000 }) (disch := first | (simp only [List.length_append, List.length_cons, List.length_nil] <;> omega) | rfl | omega | fail) only [kset, wset, hset, dset, bset, Nat.reduceAdd, Nat.reduceMul, Nat.reduceLeDiff, Nat.reduceEqDiff, pset, hlen, if_false, if_true, t3, t7, t35, t36, l35, l36, oo.sl.one, ou.sl.one, ne_eq, d1])
  refine WF.res T.c19 (r19 T (H := O) (oo.sl.ext (by repeat first | with_reducible exact Ext.refl _ | refine Ext.app _ ?_)) lo2) ?_
  rintro _ g4 ⟨s1, rfl, hs1⟩
  repeat (first | simp (config := { maxSteps := 1000000 }) only [wset, hset, dset, bset, Nat.reduceAdd, Nat.reduceMul, Nat.reduceLeDiff, Nat.reduceEqDiff, pset, hlen, if_false, if_true, t3, t7, t35, t36, l35, l36, oo.sl.one, ou.sl.one] | simp (config := { maxSteps := 1000000 }) (disch := first | (simp only [List.length_append, List.length_cons, List.length_nil] <;> omega) | rfl | omega | fail) only [kset, wset, hset, dset, bset, Nat.reduceAdd, Nat.reduceMul, Nat.reduceLeDiff, Nat.reduceEqDiff, pset, hlen, if_false, if_true, t3, t7, t35, t36, l35, l36, oo.sl.one, ou.sl.one])
  refine WF.res T.c19 (r19 T (H := U) (ou.sl.ext (by repeat first | with_reducible exact Ext.refl _ | refine Ext.app _ ?_)) lu2) ?_
  rintro _ g5 ⟨s2, rfl, hs2⟩
  repeat (first | simp (config := { maxSteps := 1000000 }) only [wset, hset, dset, bset, Nat.reduceAdd, Nat.reduceMul, Nat.reduceLeDiff, Nat.reduceEqDiff, pset, hlen, if_false, if_true, t3, t7, t35, t36, l35, l36, oo.sl.one, ou.sl.one] | simp (config := { maxSteps := 1000000 }) (disch := first | (simp only [List.length_append, List.length_cons, List.length_nil] <;> omega) | rfl | omega | fail) only [kset, wset, hset, dset, bset, Nat.reduceAdd, Nat.reduceMul, Nat.reduceLeDiff, Nat.reduceEqDiff, pset, hlen, if_false, if_true, t3, t7, t35, t36, l35, l36, oo.sl.one, ou.sl.one])
  refine WF.res T.c72 (r72 T (A := O) (B := U) ⟨hs1.isSl.ext (by repeat first | with_reducible exact Ext.refl _ | refine Ext.app _ ?_), oo.len, oo.nm⟩ ⟨hs2.isSl.ext (by repeat first | with_reducible exact Ext.refl _ | refine Ext.app _ ?_), ou.len, ou.nm⟩ x) ?_
  rintro _ g6 ⟨s38, rfl, o38⟩
  rw [hsh] at o38 ⊢
  rw [if_pos rfl, p1] at o38
  repeat (first | simp (config := { maxSteps := 1000000 }) only [wset, hset, dset, bset, Nat.reduceAdd, Nat.reduceMul, Nat.reduceLeDiff, Nat.reduceEqDiff, pset, hlen, if_false, if_true, t3, t7, t35, t36, l35, l36, oo.sl.one, ou.sl.one] | simp (config := { maxSteps := 1000000 }) (disch := first | (simp only [List.length_append, List.length_cons, List.length_nil] <;> omega) | rfl | omega | fail) only [kset, wset, hset, dset, bset, Nat.reduceAdd, Nat.reduceMul, Nat.reduceLeDiff, Nat.reduceEqDiff, pset, hlen, if_false, if_true, t3, t7, t35, t36, l35, l36, oo.sl.one, ou.sl.one])
  refine WF.res T.c19 (r19 T (H := O) (oo.sl.ext (by repeat first | with_reducible exact Ext.refl _ | refine Ext.app _ ?_)) lo2) ?_
  rintro _ g7 ⟨s3, rfl, hs3⟩
  repeat (first | simp (config := { maxSteps := 1000000 }) only [wset, hset, dset, bset, Nat.reduceAdd, Nat.reduceMul, Nat.reduceLeDiff, Nat.reduceEqDiff, pset, hlen, if_false, if_true, t3, t7, t35, t36, l35, l36, oo.sl.one, ou.sl.one] | simp (config := { maxSteps := 1000000 }) (disch := first | (simp only [List.length_append, List.length_cons, List.length_nil] <;> omega) | rfl | omega | fail) only [kset, wset, hset, dset, bset, Nat.reduceAdd, Nat.reduceMul, Nat.reduceLeDiff, Nat.reduceEqDiff, pset, hlen, if_false, if_true, t3, t7, t35, t36, l35, l36, oo.sl.one, ou.sl.one])
  refine WF.res T.c19 (r19 T (H := U) (ou.sl.ext (by repeat first | with_reducible exact Ext.refl _ | refine Ext.app _ ?_)) lu2) ?_
  rintro _ g8 ⟨s4, rfl, hs4⟩
  repeat (first | simp (config := { maxSteps := 1000000 }) only [wset, hset, dset, bset, Nat.reduceAdd, Nat.reduceMul, Nat.reduceLeDiff, Nat.reduceEqDiff, pset, hlen, if_false, if_true, t3, t7, t35, t36, l35, l36, oo.sl.one, ou.sl.one] | simp (config := { maxSteps := 1000000 }) (disch := first | (simp only [List.length_append, List.length_cons, List.length_nil] <;> omega) | rfl | omega | fail) only [kset, wset, hset, dset, bset, Nat.reduceAdd, Nat.reduceMul, Nat.reduceLeDiff, Nat.reduceEqDiff, pset, hlen, if_false, if_true, t3, t7, t35, t36, l35, l36, oo.sl.one, ou.sl.one])
  refine WF.res T.c74 (r74 T (A := O) (B := U) ⟨hs3.isSl.ext (by repeat first | with_reducible exact Ext.refl _ | refine Ext.app _ ?_), oo.len, oo.nm⟩ ⟨hs4.isSl.ext (by repeat first | with_reducible exact Ext.refl _ | refine Ext.app _ ?_), ou.len, ou.nm⟩ x) ?_
  rintro _ g9 ⟨s40, rfl, o40⟩
  rw [hsh, com_gnd p1] at o40 ⊢
  simp only [if_true] at o40 ⊢
  repeat (first | simp (config := { maxSteps := 1000000 }) only [wset, hset, dset, bset, Nat.reduceAdd, Nat.reduceMul, Nat.reduceLeDiff, Nat.reduceEqDiff, pset, hlen, if_false, if_true, t3, t7, t35, t36, l35, l36, oo.sl.one, ou.sl.one] | simp (config := { maxSteps := 1000000 }) (disch := first | (simp only [List.length_append, List.length_cons, List.length_nil] <;> omega) | rfl | omega | fail) only [kset, wset, hset, dset, bset, Nat.reduceAdd, Nat.reduceMul, Nat.reduceLeDiff, Nat.reduceEqDiff, pset, hlen, if_false, if_true, t3, t7, t35, t36, l35, l36, oo.sl.one, ou.sl.one])
  refine ground_E T (A := A) (sa := sa) (s38 := s38) (s40 := s40) (b3 := b3) (G := (placesS O U).map (gndS O U x)) (by simp only [wset, hset, dset, bset, Nat.reduceAdd, Nat.reduceMul, Nat.reduceLeDiff, Nat.reduceEqDiff, pset, hlen, if_false, if_true, t3]) (by simp only [wset, hset, dset, bset, Nat.reduceAdd, Nat.reduceMul, Nat.reduceLeDiff, Nat.reduceEqDiff, pset, hlen, if_false, if_true, t3]) (by simp only [wset, hset, dset, bset, Nat.reduceAdd, Nat.reduceMul, Nat.reduceLeDiff, Nat.reduceEqDiff, pset, hlen, if_false, if_true, t3]) (by simp only [wset, hset, dset, bset, Nat.reduceAdd, Nat.reduceMul, Nat.reduceLeDiff, Nat.reduceEqDiff, pset, hlen, if_false, if_true, t3]) (by simp only [wset, hset, dset, bset, Nat.reduceAdd, Nat.reduceMul, Nat.reduceLeDiff, Nat.reduceEqDiff, pset, hlen, if_false, if_true, t3]) (by simp only [wset, hset, dset, bset, Nat.reduceAdd, Nat.reduceMul, Nat.reduceLeDiff, Nat.reduceEqDiff, pset, hlen, if_false, if_true, t3]) (Ext.some (by repeat first | with_reducible exact Ext.refl _ | refine Ext.app _ ?_) m3) (oa.ext (by repeat first | with_reducible exact Ext.refl _ | refine Ext.app _ ?_)) va (o38.ext (by repeat first | with_reducible exact Ext.refl _ | refine Ext.app _ ?_)) (o40.ext (by repeat first | with_reducible exact Ext.refl _ | refine Ext.app _ ?_)) (by rw [List.length_map]; exact p2) ?_ (Ext.trans he (by repeat first | with_reducible exact Ext.refl _ | refine Ext.app _ ?_))
  intro j hj
  have hh := has_iff.1 (pick_has va hj)
  have hi : (A.picks[j].1 - begS A).toNat < (placesS O U).length := by omega
  have hg : (placesS O U)[(A.picks[j].1 - begS A).toNat] = A.picks[j].1 := by
    rw [places_at, p3, p4]
    omega
  refine ⟨(A.picks[j].1 - begS A).toNat, by rw [List.length_map]; exact hi, by omega, ?_⟩
  rw [List.getElem_map, hg]
  exact p5 j hj

set_option maxRecDepth 10000 in
set_option maxHeartbeats 1000000 in
theorem ground_L {A : Hor} {sa so su : AV} {W g : AHeap} {ts : TS} {x e1 e2 n2 n3 : Int} {nn : List Int} {b3 b5 b35 b36 : Nat} {ks : List Kt} {Q : Ex → TS → AHeap → Prop} (hlen : ts.length = 487) (t3 : slot ts 3 = .ptr b3 0) (t5 : slot ts 5 = .ptr b5 0) (t7 : slot ts 7 = .int .i64 x) (t35 : slot ts 35 = .ptr b35 0) (t36 : slot ts 36 = .ptr b36 0)
    (m3 : W[b3]? = some (.cells [.str A.name, .int .i64 A.err, sa] true false)) (m5 : W[b5]? = some (.cells (nn.map (AV.int .i8)) true false)) (hn4 : nn.length = 4) (e2' : nn[2]'(by omega) = n2) (e3' : nn[3]'(by omega) = n3) (hb2 : -128 ≤ n2 ∧ n2 ≤ 127) (hb3 : -128 ≤ n3 ∧ n3 ≤ 127) (hx : -128 ≤ x ∧ x ≤ 127)
    (m35 : (W ++ g)[b35]? = some (.cells [.str A.name, .int .i64 e1, so] true false)) (m36 : (W ++ g)[b36]? = some (.cells [.str A.name, .int .i64 e2, su] true false))
    (oa : HorOk W A sa) (va : HorV A) (fo : Fr W.length (W ++ g) so 2 (A.picks.map pkRow)) (fu : Fr W.length (W ++ g) su 2 (A.picks.map pkRow))
    (d1 : ∀ b o n e, so = .slice b o n e → b ≠ b35 ∧ b ≠ b36 ∧ ∀ b' o' n' e', su = .slice b' o' n' e' → b ≠ b') (d2 : ∀ b o n e, su = .slice b o n e → b ≠ b35 ∧ b ≠ b36)
    (K : ∀ (ts' : TS) (g' : AHeap), ts'.length = 487 → slot ts' 3 = .ptr b3 0 → slot ts' 7 = .int .i64 x → slot ts' 35 = .ptr b35 0 → slot ts' 36 = .ptr b36 0 → (W ++ g')[b35]? = some (.cells [.str A.name, .int .i64 e1, so] true false) → (W ++ g')[b36]? = some (.cells [.str A.name, .int .i64 e2, su] true false) →
      Fr W.length (W ++ g') so 2 ((prtH A e1 (fOne n2)).picks.map pkRow) → Fr W.length (W ++ g') su 2 ((prtH A e2 (fTwo n3 x)).picks.map pkRow) → WE P inFn .normal ks ts' (W ++ g') Q) :
    WC P inFn (gr 23) ks ts (W ++ g) Q := by
  have q3 := (List.getElem?_eq_some_iff.1 m3).1
  have l3 : ∀ {n : Option Nat} {o : Nat} {kk : AHeap}, Ext W kk → loadF n (.ptr b3 o) (fun z => kk[z]?) = ldB n o (.cells [.str A.name, .int .i64 A.err, sa] true false) := fun e => loadF_at (e.some m3)
  have l5 : ∀ {n : Option Nat} {o : Nat} {kk : AHeap}, Ext W kk → loadF n (.ptr b5 o) (fun z => kk[z]?) = ldB n o (.cells (nn.map (AV.int .i8)) true false) := fun e => loadF_at (e.some m5)
  have hle := va.le
  have v2 : (nn.map (AV.int .i8))[2]? = some (.int .i8 n2) := by rw [List.getElem?_map, List.getElem?_eq_getElem (by omega), e2']; rfl
  have v3 : (nn.map (AV.int .i8))[3]? = some (.int .i8 n3) := by rw [List.getElem?_map, List.getElem?_eq_getElem (by omega), e3']; rfl
  have i2 : iadaF 4 1 (.ptr b5 0) (.int .i64 2) = some (.ptr b5 2) := iada_i4 (i := 2) (by decide)
  have i3 : iadaF 4 1 (.ptr b5 0) (.int .i64 3) = some (.ptr b5 3) := iada_i4 (i := 3) (by decide)
  have wn2 : IntKind.i64.wrap n2 = n2 := wrap_in (by omega) (by omega)
  have wn3 : IntKind.i64.wrap n3 = n3 := wrap_in (by omega) (by omega)
  rw [gr_23]
  unfold gx230 gx231 gx232 gx233 gx234 gx23 gr fn11
  simp only [ICode.dr, ICode.tl, ICode.hd, ICode.inn]
  repeat (first | simp (config := { maxSteps := 1000000 }) only [wset, hset, dset, bset, Nat.reduceAdd, Nat.reduceMul, Nat.reduceLeDiff, Nat.reduceEqDiff, pset, hlen, if_false, if_true, t3, l3, oa.sl.lenm] | simp (config := { maxSteps := 1000000 }) (disch := first | (simp only [List.length_append, List.length_cons, List.length_nil] <;> omega) | rfl | omega | fail) only [kset, wset, hset, dset, bset, Nat.reduceAdd, Nat.reduceMul, Nat.reduceLeDiff, Nat.reduceEqDiff, pset, hlen, if_false, if_true, t3, l3, oa.sl.lenm])
  refine WL.inv T.mix (fun n ts' h' => ∃ (k : Nat) (g' : AHeap), k ≤ A.picks.length ∧ n = A.picks.length - k ∧ h' = W ++ g' ∧ ts'.length = 487 ∧ slot ts' 3 = .ptr b3 0 ∧ slot ts' 5 = .ptr b5 0 ∧ slot ts' 7 = .int .i64 x ∧ slot ts' 35 = .ptr b35 0 ∧ slot ts' 36 = .ptr b36 0 ∧ slot ts' 358 = .int .i64 A.picks.length ∧ slot ts' 359 = .int .i64 k ∧
      (W ++ g')[b35]? = some (.cells [.str A.name, .int .i64 e1, so] true false) ∧ (W ++ g')[b36]? = some (.cells [.str A.name, .int .i64 e2, su] true false) ∧ Fr W.length (W ++ g') so 2 ((pkM (fOne n2) k A.picks).map pkRow) ∧ Fr W.length (W ++ g') su 2 ((pkM (fTwo n3 x) k A.picks).map pkRow)) A.picks.length
    ⟨0, g, by omega, rfl, rfl, (by simp only [wset, hset, dset, bset, Nat.reduceAdd, Nat.reduceMul, Nat.reduceLeDiff, Nat.reduceEqDiff, pset, hlen, if_false, if_true, t3]), (by simp only [wset, hset, dset, bset, Nat.reduceAdd, Nat.reduceMul, Nat.reduceLeDiff, Nat.reduceEqDiff, pset, hlen, if_false, if_true, t3]), (by simp only [wset, hset, dset, bset, Nat.reduceAdd, Nat.reduceMul, Nat.reduceLeDiff, Nat.reduceEqDiff, pset, hlen, if_false, if_true, t5]), (by simp only [wset, hset, dset, bset, Nat.reduceAdd, Nat.reduceMul, Nat.reduceLeDiff, Nat.reduceEqDiff, pset, hlen, if_false, if_true, t7]), (by simp only [wset, hset, dset, bset, Nat.reduceAdd, Nat.reduceMul, Nat.reduceLeDiff, Nat.reduceEqDiff, pset, hlen, if_false, if_true, t35]), (by simp only [wset, hset, dset, bset, Nat.reduceAdd, Nat.reduceMul, Nat.reduceLeDiff, Nat.reduceEqDiff, pset, hlen, if_false, if_true, t36]), (by simp only [wset, hset, dset, bset, Nat.reduceAdd, Nat.reduceMul, Nat.reduceLeDiff, Nat.reduceEqDiff, pset, hlen, if_false, if_true, t3]), (by simp only [wset, hset, dset, bset, Nat.reduceAdd, Nat.reduceMul, Nat.reduceLeDiff, Nat.reduceEqDiff, pset, hlen, if_false, if_true]; rfl), m35, m36, by rw [pkM_0]; exact fo, by rw [pkM_0]; exact fu⟩ ?_
  rintro _ ts' _ ⟨k, g', hk, rfl, rfl, hlen', u3, u5, u7, u35, u36, u358, u359, m35', m36', fo', fu'⟩
  clear hlen m35 m36 fo fu t3 t5 t7 t35 t36
  have hlen := hlen'
  by_cases hlt : k < A.picks.length
  · have e3 : (k : Int) < A.picks.length := by omega
    have l35 : ∀ {n : Option Nat} {o : Nat}, loadF n (.ptr b35 o) (fun z => (W ++ g')[z]?) = ldB n o (.cells [.str A.name, .int .i64 e1, so] true false) := loadF_at m35'
    have hp := va.ok.at hlt
    have hkO : k < (pkM (fOne n2) k A.picks).length := by rw [pkM_len]; exact hlt
    have hkU : k < (pkM (fTwo n3 x) k A.picks).length := by rw [pkM_len]; exact hlt
    have gO : (pkM (fOne n2) k A.picks)[k] = A.picks[k] := pkM_get hlt
    have gU : (pkM (fTwo n3 x) k A.picks)[k] = A.picks[k] := pkM_get hlt
    have lo : loadF none (elf so 2 k 1) (fun b => (W ++ g')[b]?) = some (.int .i64 A.picks[k].2, .keep) := fo'.isSl.lfm (off := 1) hkO (by rw [gO]; rfl) (Ext.refl _)
    have ixo := fo'.isSl.ixm (kk := .i64) hkO
    have ixu := fu'.isSl.ixm (kk := .i64) hkU
    have pr := par_k k
    have b1 := fOne_bd n2 k
    have b2 := fTwo_bd n3 x k
    have w1 : IntKind.i64.wrap ((k : Int).tmod 2 * 2) = (k : Int).tmod 2 * 2 := wrap_in (by omega) (by omega)
    have w2 : IntKind.i64.wrap (1 - (k : Int).tmod 2 * 2) = 1 - (k : Int).tmod 2 * 2 := wrap_in (by omega) (by omega)
    have w3 : IntKind.i64.wrap (n2 * (1 - (k : Int).tmod 2 * 2)) = fOne n2 k := by
      rw [show n2 * (1 - (k : Int).tmod 2 * 2) = fOne n2 k from rfl]; exact wrap_in (by omega) (by omega)
    have w4 : IntKind.i64.wrap (A.picks[k].2 + fOne n2 k) = A.picks[k].2 + fOne n2 k := wrap_in (by omega) (by omega)
    have w5 : IntKind.i64.wrap ((k : Int).tmod 2 * 2 - 1) = (k : Int).tmod 2 * 2 - 1 := wrap_in (by omega) (by omega)
    have w6 : IntKind.i64.wrap (n3 * ((k : Int).tmod 2 * 2 - 1)) = n3 * ((k : Int).tmod 2 * 2 - 1) := by
      have e : n3 * ((k : Int).tmod 2 * 2 - 1) = fTwo n3 x k + x := by unfold fTwo; omega
      rw [e]; exact wrap_in (by omega) (by omega)
    have w7 : IntKind.i64.wrap (n3 * ((k : Int).tmod 2 * 2 - 1) - x) = fTwo n3 x k := by
      rw [show n3 * ((k : Int).tmod 2 * 2 - 1) - x = fTwo n3 x k from rfl]; exact wrap_in (by omega) (by omega)
    have w8 : IntKind.i64.wrap (A.picks[k].2 + fTwo n3 x k) = A.picks[k].2 + fTwo n3 x k := wrap_in (by omega) (by omega)
    repeat (first | simp (config := { maxSteps := 1000000 }) only [wset, hset, dset, bset, Nat.reduceAdd, Nat.reduceMul, Nat.reduceLeDiff, Nat.reduceEqDiff, pset, hlen, if_false, if_true, u3, u5, u7, u35, u36, u358, u359, l35, l5, e3, decide_true, ixo, lo, i2, v2, wn2, bin_rem (show (2 : Int) ≠ 0 by decide), w1, w2, w3, w4] | simp (config := { maxSteps := 1000000 }) (disch := first | (simp only [List.length_append, List.length_cons, List.length_nil] <;> omega) | rfl | omega | fail) only [kset, wset, hset, dset, bset, Nat.reduceAdd, Nat.reduceMul, Nat.reduceLeDiff, Nat.reduceEqDiff, pset, hlen, if_false, if_true, u3, u5, u7, u35, u36, u358, u359, l35, l5, e3, decide_true, ixo, lo, i2, v2, wn2, bin_rem (show (2 : Int) ≠ 0 by decide), w1, w2, w3, w4])
    refine WR.put1 (h0 := W) (x' := (A.picks[k].1, A.picks[k].2 + fOne n2 k)) fo' hkO (by decide) rfl (by rw [gO]; rfl) ?_
    intro g2 hl2 fo2 hkp
    rw [pkM_set hlt] at fo2
    have hk35 : (W ++ g2)[b35]? = _ := (hkp b35 fun b o n e he => (d1 b o n e he).1.symm).trans m35'
    have hk36 : (W ++ g2)[b36]? = _ := (hkp b36 fun b o n e he => (d1 b o n e he).2.1.symm).trans m36'
    have fu2 : Fr W.length (W ++ g2) su 2 ((pkM (fTwo n3 x) k A.picks).map pkRow) := by
      generalize (pkM (fTwo n3 x) k A.picks).map pkRow = cs at fu'
      clear lo ixu
      cases fu' with
      | nil => exact .nil
      | mk hN hb he => exact .mk hN (by rw [hkp _ fun b0 o n e h0 => ((d1 b0 o n e h0).2.2 _ _ _ _ rfl).symm]; exact hb) he
    have l36 : ∀ {n : Option Nat} {o : Nat}, loadF n (.ptr b36 o) (fun z => (W ++ g2)[z]?) = ldB n o (.cells [.str A.name, .int .i64 e2, su] true false) := loadF_at hk36
    have lu : loadF none (elf su 2 k 1) (fun b => (W ++ g2)[b]?) = some (.int .i64 A.picks[k].2, .keep) := fu2.isSl.lfm (off := 1) hkU (by rw [gU]; rfl) (Ext.refl _)
    repeat (first | simp (config := { maxSteps := 1000000 }) only [wset, hset, dset, bset, Nat.reduceAdd, Nat.reduceMul, Nat.reduceLeDiff, Nat.reduceEqDiff, pset, hlen, if_false, if_true, u3, u5, u7, u35, u36, u358, u359, l36, l5, ixu, lu, i3, v3, wn3, bin_rem (show (2 : Int) ≠ 0 by decide), w1, w5, w6, w7, w8] | simp (config := { maxSteps := 1000000 }) (disch := first | (simp only [List.length_append, List.length_cons, List.length_nil] <;> omega) | rfl | omega | fail) only [kset, wset, hset, dset, bset, Nat.reduceAdd, Nat.reduceMul, Nat.reduceLeDiff, Nat.reduceEqDiff, pset, hlen, if_false, if_true, u3, u5, u7, u35, u36, u358, u359, l36, l5, ixu, lu, i3, v3, wn3, bin_rem (show (2 : Int) ≠ 0 by decide), w1, w5, w6, w7, w8])
    refine WR.put1 (h0 := W) (x' := (A.picks[k].1, A.picks[k].2 + fTwo n3 x k)) fu2 hkU (by decide) rfl (by rw [gU]; rfl) ?_
    intro g4 hl4 fu4 hkp4
    rw [pkM_set hlt] at fu4
    have hk35b : (W ++ g4)[b35]? = _ := (hkp4 b35 fun b o n e he => (d2 b o n e he).1.symm).trans hk35
    have hk36b : (W ++ g4)[b36]? = _ := (hkp4 b36 fun b o n e he => (d2 b o n e he).2.symm).trans hk36
    have fo4 : Fr W.length (W ++ g4) so 2 ((pkM (fOne n2) (k + 1) A.picks).map pkRow) := by
      generalize (pkM (fOne n2) (k + 1) A.picks).map pkRow = cs at fo2
      clear lo ixo
      cases fo2 with
      | nil => exact .nil
      | mk hN hb he => exact .mk hN (by rw [hkp4 _ fun b0 o n e h0 => ((d1 _ _ _ _ rfl).2.2 b0 o n e h0)]; exact hb) he
    repeat (first | simp (config := { maxSteps := 1000000 }) only [wset, hset, dset, bset, Nat.reduceAdd, Nat.reduceMul, Nat.reduceLeDiff, Nat.reduceEqDiff, pset, hlen, if_false, if_true, u3, u5, u7, u35, u36, u358, u359, wrapN (show k + 1 < 2 ^ 63 by omega)] | simp (config := { maxSteps := 1000000 }) (disch := first | (simp only [List.length_append, List.length_cons, List.length_nil] <;> omega) | rfl | omega | fail) only [kset, wset, hset, dset, bset, Nat.reduceAdd, Nat.reduceMul, Nat.reduceLeDiff, Nat.reduceEqDiff, pset, hlen, if_false, if_true, u3, u5, u7, u35, u36, u358, u359, wrapN (show k + 1 < 2 ^ 63 by omega)])
    exact ⟨A.picks.length - (k + 1), by omega, k + 1, g4, by omega, rfl, rfl, rfl, hk35b, hk36b, fo4, fu4⟩
  · have e3 : ¬ (k : Int) < A.picks.length := by omega
    repeat (first | simp (config := { maxSteps := 1000000 }) only [wset, hset, dset, bset, Nat.reduceAdd, Nat.reduceMul, Nat.reduceLeDiff, Nat.reduceEqDiff, pset, hlen, if_false, if_true, u3, u5, u7, u35, u36, u358, u359, e3, decide_false] | simp (config := { maxSteps := 1000000 }) (disch := first | (simp only [List.length_append, List.length_cons, List.length_nil] <;> omega) | rfl | omega | fail) only [kset, wset, hset, dset, bset, Nat.reduceAdd, Nat.reduceMul, Nat.reduceLeDiff, Nat.reduceEqDiff, pset, hlen, if_false, if_true, u3, u5, u7, u35, u36, u358, u359, e3, decide_false])
    have ek : k = A.picks.length := by omega
    rw [pkM_all (e := e1) ek] at fo'
    rw [pkM_all (e := e2) ek] at fu'
    exact K _ _ (by simp only [wset, hset, dset, bset, Nat.reduceAdd, Nat.reduceMul, Nat.reduceLeDiff, Nat.reduceEqDiff, pset, hlen, if_false, if_true, u3]) (by simp only [wset, hset, dset, bset, Nat.reduceAdd, Nat.reduceMul, Nat.reduceLeDiff, Nat.reduceEqDiff, pset, hlen, if_false, if_true, u3]) (by simp only [wset, hset, dset, bset, Nat.reduceAdd, Nat.reduceMul, Nat.reduceLeDiff, Nat.reduceEqDiff, pset, hlen, if_false, if_true, u7]) (by simp only [wset, hset, dset, bset, Nat.reduceAdd, Nat.reduceMul, Nat.reduceLeDiff, Nat.reduceEqDiff, pset, hlen, if_false, if_true, u35]) (by simp only [wset, hset, dset, bset, Nat.reduceAdd, Nat.reduceMul, Nat.reduceLeDiff, Nat.reduceEqDiff, pset, hlen, if_false, if_true, u36]) m35' m36' fo' fu'

set_option maxRecDepth 10000 in
set_option maxHeartbeats 1000000 in
theorem ground_C {A : Hor} {sa : AV} {W : AHeap} {ts : TS} {x n2 n3 : Int} {nn : List Int} {b3 b5 : Nat} (hlen : ts.length = 487) (t3 : slot ts 3 = .ptr b3 0) (t5 : slot ts 5 = .ptr b5 0) (t7 : slot ts 7 = .int .i64 x)
    (m3 : W[b3]? = some (.cells [.str A.name, .int .i64 A.err, sa] true false)) (m5 : W[b5]? = some (.cells (nn.map (AV.int .i8)) true false)) (hn4 : nn.length = 4) (e2' : nn[2]'(by omega) = n2) (e3' : nn[3]'(by omega) = n3) (hb2 : -128 ≤ n2 ∧ n2 ≤ 127) (hb3 : -128 ≤ n3 ∧ n3 ≤ 127) (hx : -128 ≤ x ∧ x ≤ 127)
    (oa : HorOk W A sa) (va : HorV A) (he : Ext h W) :
    WC P inFn (grT 21) [] ts W (FQ [(6, none)] fun v h' => Ext h h' ∧ v = .bool true) := by
  have q3 := (List.getElem?_eq_some_iff.1 m3).1
  have q5 := (List.getElem?_eq_some_iff.1 m5).1
  have l3 : ∀ {n : Option Nat} {o : Nat} {kk : AHeap}, Ext W kk → loadF n (.ptr b3 o) (fun z => kk[z]?) = ldB n o (.cells [.str A.name, .int .i64 A.err, sa] true false) := fun e => loadF_at (e.some m3)
  have l5 : ∀ {n : Option Nat} {o : Nat} {kk : AHeap}, Ext W kk → loadF n (.ptr b5 o) (fun z => kk[z]?) = ldB n o (.cells (nn.map (AV.int .i8)) true false) := fun e => loadF_at (e.some m5)
  have hle := va.le
  have hle2 : A.picks.length ≤ 2 ^ 40 := by omega
  have v2 : (nn.map (AV.int .i8))[2]? = some (.int .i8 n2) := by rw [List.getElem?_map, List.getElem?_eq_getElem (by omega), e2']; rfl
  have v3 : (nn.map (AV.int .i8))[3]? = some (.int .i8 n3) := by rw [List.getElem?_map, List.getElem?_eq_getElem (by omega), e3']; rfl
  have i2 : iadaF 4 1 (.ptr b5 0) (.int .i64 2) = some (.ptr b5 2) := iada_i4 (i := 2) (by decide)
  have i3 : iadaF 4 1 (.ptr b5 0) (.int .i64 3) = some (.ptr b5 3) := iada_i4 (i := 3) (by decide)
  have wn2 : IntKind.i64.wrap n2 = n2 := wrap_in (by omega) (by omega)
  have wn3 : IntKind.i64.wrap n3 = n3 := wrap_in (by omega) (by omega)
  have wm2 : IntKind.i64.wrap (0 - n2) = -n2 := by rw [wrap_in (by omega) (by omega)]; omega
  have wm3 : IntKind.i64.wrap (0 - n3) = -n3 := by rw [wrap_in (by omega) (by omega)]; omega
  obtain ⟨R, hR⟩ : ∃ R, R = ICode.seq (gr 23) (grT 24) := ⟨_, rfl⟩
  rw [gr_C, ← hR]
  unfold gr fn11
  simp only [ICode.dr, ICode.tl, ICode.hd]
  repeat (first | simp (config := { maxSteps := 1000000 }) only [wset, hset, dset, bset, Nat.reduceAdd, Nat.reduceMul, Nat.reduceLeDiff, Nat.reduceEqDiff, pset, hlen, if_false, if_true, t3, t5, t7, l3, oa.sl.one] | simp (config := { maxSteps := 1000000 }) (disch := first | (simp only [List.length_append, List.length_cons, List.length_nil] <;> omega) | rfl | omega | fail) only [kset, wset, hset, dset, bset, Nat.reduceAdd, Nat.reduceMul, Nat.reduceLeDiff, Nat.reduceEqDiff, pset, hlen, if_false, if_true, t3, t5, t7, l3, oa.sl.one])
  refine WF.res T.c79 (r79 T (H := A) (oa.sl.ext (by repeat first | with_reducible exact Ext.refl _ | refine Ext.app _ ?_)) hle2) ?_
  rintro _ g1 ⟨so, rfl, fo⟩
  repeat (first | simp (config := { maxSteps := 1000000 }) only [wset, hset, dset, bset, Nat.reduceAdd, Nat.reduceMul, Nat.reduceLeDiff, Nat.reduceEqDiff, pset, hlen, if_false, if_true, t3, t5, t7, l3, oa.sl.one] | simp (config := { maxSteps := 1000000 }) (disch := first | (simp only [List.length_append, List.length_cons, List.length_nil] <;> omega) | rfl | omega | fail) only [kset, wset, hset, dset, bset, Nat.reduceAdd, Nat.reduceMul, Nat.reduceLeDiff, Nat.reduceEqDiff, pset, hlen, if_false, if_true, t3, t5, t7, l3, oa.sl.one])
  refine WF.res T.c79 (r79 T (H := A) (oa.sl.ext (by repeat first | with_reducible exact Ext.refl _ | refine Ext.app _ ?_)) hle2) ?_
  rintro _ g2 ⟨su, rfl, fu⟩
  repeat (first | simp (config := { maxSteps := 1000000 }) only [wset, hset, dset, bset, Nat.reduceAdd, Nat.reduceMul, Nat.reduceLeDiff, Nat.reduceEqDiff, pset, hlen, if_false, if_true, t3, t5, t7, l3, oa.sl.one, fo.isSl.one, fu.isSl.one, WC_opsS, WQV_some, WQL_some, WQS_some, WQ_load, WQ_store, WQ_mov, WQ_bin, WQ_un, WQ_conv, WQ_fadr, WQ_iada, WQ_mx, i2i_s, l5, i2, i3, v2, v3, wn2, wn3, wm2, wm3, acc_l0, acc_lc] | simp (config := { maxSteps := 1000000 }) (disch := first | (simp only [List.length_append, List.length_cons, List.length_nil] <;> omega) | rfl | omega | fail) only [kset, wset, hset, dset, bset, Nat.reduceAdd, Nat.reduceMul, Nat.reduceLeDiff, Nat.reduceEqDiff, pset, hlen, if_false, if_true, t3, t5, t7, l3, oa.sl.one, fo.isSl.one, fu.isSl.one, WC_opsS, WQV_some, WQL_some, WQS_some, WQ_load, WQ_store, WQ_mov, WQ_bin, WQ_un, WQ_conv, WQ_fadr, WQ_iada, WQ_mx, i2i_s, l5, i2, i3, v2, v3, wn2, wn3, wm2, wm3, acc_l0, acc_lc])
  rw [WQ_nil]
  refine ⟨?_, ?_⟩
  · simp only [accOk_n, accOk_r, accOk_w, accN_n, accN_c, accNW_n, accNW_r, accNW_w, blk_r, blk_w, List.length_append, List.length_cons, List.length_nil, ne_eq, Option.some.injEq, and_true]
    omega
  · repeat (first | simp (config := { maxSteps := 1000000 }) only [wset, hset, dset, bset, Nat.reduceAdd, Nat.reduceMul, Nat.reduceLeDiff, Nat.reduceEqDiff, pset, hlen, if_false, if_true, accApp_w, accApp_r, accApp_n] | simp (config := { maxSteps := 1000000 }) (disch := first | (simp only [List.length_append, List.length_cons, List.length_nil] <;> omega) | rfl | omega | fail) only [kset, wset, hset, dset, bset, Nat.reduceAdd, Nat.reduceMul, Nat.reduceLeDiff, Nat.reduceEqDiff, pset, hlen, if_false, if_true, accApp_w, accApp_r, accApp_n])
    rw [hR, WC_seq]
    have eo : (W ++ g1 ++ g2).length ≤ (W ++ g1 ++ g2 ++ [ABlk.cells [AV.str [], AV.int IntKind.i64 0, AV.nilSlice] true false]).length := by simp
    have e3 : W ++ g1 ++ g2 ++ [ABlk.cells [AV.str A.name, AV.int IntKind.i64 (max n2 (-n2)), so] true false] ++ [ABlk.cells [AV.str A.name, AV.int IntKind.i64 (max n3 (-n3)), su] true false] = W ++ (g1 ++ g2 ++ [ABlk.cells [AV.str A.name, AV.int IntKind.i64 (max n2 (-n2)), so] true false] ++ [ABlk.cells [AV.str A.name, AV.int IntKind.i64 (max n3 (-n3)), su] true false]) := by simp only [List.append_assoc]
    have m35 : (W ++ (g1 ++ g2 ++ [ABlk.cells [AV.str A.name, AV.int IntKind.i64 (max n2 (-n2)), so] true false] ++ [ABlk.cells [AV.str A.name, AV.int IntKind.i64 (max n3 (-n3)), su] true false]))[(W ++ g1 ++ g2).length]? = some (.cells [AV.str A.name, AV.int IntKind.i64 (max n2 (-n2)), so] true false) := by
      rw [← e3]; exact Ext.some (by repeat first | with_reducible exact Ext.refl _ | refine Ext.app _ ?_) (at_new (X := W ++ g1 ++ g2))
    have m36 : (W ++ (g1 ++ g2 ++ [ABlk.cells [AV.str A.name, AV.int IntKind.i64 (max n2 (-n2)), so] true false] ++ [ABlk.cells [AV.str A.name, AV.int IntKind.i64 (max n3 (-n3)), su] true false]))[(W ++ g1 ++ g2 ++ [ABlk.cells [AV.str [], AV.int IntKind.i64 0, AV.nilSlice] true false]).length]? = some (.cells [AV.str A.name, AV.int IntKind.i64 (max n3 (-n3)), su] true false) := by
      rw [← e3]
      have : (W ++ g1 ++ g2 ++ [ABlk.cells [AV.str [], AV.int IntKind.i64 0, AV.nilSlice] true false]).length = (W ++ g1 ++ g2 ++ [ABlk.cells [AV.str A.name, AV.int IntKind.i64 (max n2 (-n2)), so] true false]).length := by simp
      rw [this]; exact at_new
    have fo' : Fr W.length (W ++ (g1 ++ g2 ++ [ABlk.cells [AV.str A.name, AV.int IntKind.i64 (max n2 (-n2)), so] true false] ++ [ABlk.cells [AV.str A.name, AV.int IntKind.i64 (max n3 (-n3)), su] true false])) so 2 (A.picks.map pkRow) := by
      rw [← e3]; exact ((fo.app _).app _).app _
    have fu' : Fr W.length (W ++ (g1 ++ g2 ++ [ABlk.cells [AV.str A.name, AV.int IntKind.i64 (max n2 (-n2)), so] true false] ++ [ABlk.cells [AV.str A.name, AV.int IntKind.i64 (max n3 (-n3)), su] true false])) su 2 (A.picks.map pkRow) := by
      rw [← e3]; exact ((fu.low (by simp)).app _).app _
    have d1 : ∀ b o n e, so = .slice b o n e → b ≠ (W ++ g1 ++ g2).length ∧ b ≠ (W ++ g1 ++ g2 ++ [ABlk.cells [AV.str [], AV.int IntKind.i64 0, AV.nilSlice] true false]).length ∧ ∀ b' o' n' e', su = .slice b' o' n' e' → b ≠ b' := fun b o n e hb => by
      have a1 := (fo.lt hb).2
      simp only [List.length_append, List.length_cons, List.length_nil] at a1 ⊢
      refine ⟨by omega, by omega, fun b' o' n' e' hb' => ?_⟩
      have a2 := (fu.lt hb').1
      simp only [List.length_append] at a2
      omega
    have d2 : ∀ b o n e, su = .slice b o n e → b ≠ (W ++ g1 ++ g2).length ∧ b ≠ (W ++ g1 ++ g2 ++ [ABlk.cells [AV.str [], AV.int IntKind.i64 0, AV.nilSlice] true false]).length := fun b o n e hb => by
      have a1 := (fu.lt hb).2
      simp only [List.length_append, List.length_cons, List.length_nil] at a1 ⊢
      omega
    rw [e3]
    refine ground_L T (A := A) (sa := sa) (so := so) (su := su) (x := x) (e1 := max n2 (-n2)) (e2 := max n3 (-n3)) (n2 := n2) (n3 := n3) (nn := nn) (b3 := b3) (b5 := b5) (b35 := (W ++ g1 ++ g2).length) (b36 := (W ++ g1 ++ g2 ++ [ABlk.cells [AV.str [], AV.int IntKind.i64 0, AV.nilSlice] true false]).length)
      (by simp only [wset, hset, dset, bset, Nat.reduceAdd, Nat.reduceMul, Nat.reduceLeDiff, Nat.reduceEqDiff, pset, hlen, if_false, if_true, t3]) (by simp only [wset, hset, dset, bset, Nat.reduceAdd, Nat.reduceMul, Nat.reduceLeDiff, Nat.reduceEqDiff, pset, hlen, if_false, if_true, t3]) (by simp only [wset, hset, dset, bset, Nat.reduceAdd, Nat.reduceMul, Nat.reduceLeDiff, Nat.reduceEqDiff, pset, hlen, if_false, if_true, t5]) (by simp only [wset, hset, dset, bset, Nat.reduceAdd, Nat.reduceMul, Nat.reduceLeDiff, Nat.reduceEqDiff, pset, hlen, if_false, if_true, t7]) (by simp only [wset, hset, dset, bset, Nat.reduceAdd, Nat.reduceMul, Nat.reduceLeDiff, Nat.reduceEqDiff, pset, hlen, if_false, if_true, t3]) (by simp only [wset, hset, dset, bset, Nat.reduceAdd, Nat.reduceMul, Nat.reduceLeDiff, Nat.reduceEqDiff, pset, hlen, if_false, if_true, t3]) m3 m5 hn4 e2' e3' hb2 hb3 hx m35 m36 oa va fo' fu' d1 d2 ?_
    intro ts' g' hl u3 u7 u35 u36 k35 k36 ko ku
    rw [WE_seqN]
    have len1 : (prtH A (max n2 (-n2)) (fOne n2)).picks.length = A.picks.length := prt_len
    have len2 : (prtH A (max n3 (-n3)) (fTwo n3 x)).picks.length = A.picks.length := prt_len
    refine ground_D T (A := A) (O := prtH A (max n2 (-n2)) (fOne n2)) (U := prtH A (max n3 (-n3)) (fTwo n3 x)) (sa := sa) (so := so) (su := su) (x := x) hl u3 u7 u35 u36 (Ext.some (by repeat first | with_reducible exact Ext.refl _ | refine Ext.app _ ?_) m3) k35 k36 (oa.ext (by repeat first | with_reducible exact Ext.refl _ | refine Ext.app _ ?_)) ⟨ko.isSl, by omega, oa.nm⟩ ⟨ku.isSl, by omega, oa.nm⟩ va len1 len2 (by omega) ?_ (Ext.trans he (by repeat first | with_reducible exact Ext.refl _ | refine Ext.app _ ?_))
    intro vo vu
    have hf1 : ∀ i < A.picks.length, -(max n2 (-n2)) ≤ fOne n2 i ∧ fOne n2 i ≤ max n2 (-n2) := fun i _ => fOne_bd n2 i
    have hf2 : ∀ i < A.picks.length, -x - max n3 (-n3) ≤ fTwo n3 x i ∧ fTwo n3 x i ≤ -x + max n3 (-n3) := fun i _ => fTwo_bd n3 x i
    exact ⟨prt_same va vo vu hf1 hf2, prt_plen va, prt_beg va.ne, prt_beg va.ne, fun j hj => prt_gnd vo vu hj (hf1 j hj) (hf2 j hj)⟩

set_option maxRecDepth 10000 in
set_option maxHeartbeats 2000000 in
theorem ground_B {A B : Hor} {sa sb sg sp : AV} {W : AHeap} {ts : TS} {x n2 n3 : Int} {nn : List Int} {b3 b4 b5 : Nat} (hlen : ts.length = 487) (t3 : slot ts 3 = .ptr b3 0) (t4 : slot ts 4 = .ptr b4 0) (t5 : slot ts 5 = .ptr b5 0) (t7 : slot ts 7 = .int .i64 x) (t11 : slot ts 11 = sp) (t12 : slot ts 12 = sg) (t13 : slot ts 13 = .int .i64 (comS A B x).2)
    (m3 : W[b3]? = some (.cells [.str A.name, .int .i64 A.err, sa] true false)) (m4 : W[b4]? = some (.cells [.str B.name, .int .i64 B.err, sb] true false)) (m5 : W[b5]? = some (.cells (nn.map (AV.int .i8)) true false)) (hn4 : nn.length = 4) (e2' : nn[2]'(by omega) = n2) (e3' : nn[3]'(by omega) = n3) (hb2 : -128 ≤ n2 ∧ n2 ≤ 127) (hb3 : -128 ≤ n3 ∧ n3 ≤ 127) (hx : -128 ≤ x ∧ x ≤ 127)
    (oa : HorOk W A sa) (va : HorV A) (ob : HorOk W B sb) (vb : HorV B) (op : IsSl W sp 1 ((placesS A B).map intRow)) (og : IsSl W sg 2 ((comS A B x).1.map ratRow)) (he : Ext h W) :
    WC P inFn (grT 20) [] ts W (FQ [(6, none)] fun v h' => Ext h h' ∧ v = .bool true) := by
  have q3 := (List.getElem?_eq_some_iff.1 m3).1
  have q4 := (List.getElem?_eq_some_iff.1 m4).1
  have q5 := (List.getElem?_eq_some_iff.1 m5).1
  have l3 : ∀ {n : Option Nat} {o : Nat} {kk : AHeap}, Ext W kk → loadF n (.ptr b3 o) (fun z => kk[z]?) = ldB n o (.cells [.str A.name, .int .i64 A.err, sa] true false) := fun e => loadF_at (e.some m3)
  have l4 : ∀ {n : Option Nat} {o : Nat} {kk : AHeap}, Ext W kk → loadF n (.ptr b4 o) (fun z => kk[z]?) = ldB n o (.cells [.str B.name, .int .i64 B.err, sb] true false) := fun e => loadF_at (e.some m4)
  have hle := va.le
  have hleb := vb.le
  have hle2 : A.picks.length ≤ 2 ^ 40 := by omega
  have hle3 : B.picks.length ≤ 2 ^ 40 := by omega
  have z0 : decide ((0 : Int) ≠ 0) = false := rfl
  have hpl := places_le (B := B) va
  obtain ⟨R, hR⟩ : ∃ R, R = grT 21 := ⟨_, rfl⟩
  have fin : ∀ (ts' : TS) (k : AHeap), Ext W k → ts'.length = 487 → slot ts' 3 = .ptr b3 0 → slot ts' 5 = .ptr b5 0 → slot ts' 7 = .int .i64 x → WC P inFn R [] ts' k (FQ [(6, none)] fun v h' => Ext h h' ∧ v = .bool true) := by
    intro ts' k e hl u3 u5 u7
    rw [hR]
    exact ground_C T (A := A) (sa := sa) (x := x) (n2 := n2) (n3 := n3) (nn := nn) (b3 := b3) (b5 := b5) hl u3 u5 u7 (Ext.some e m3) (Ext.some e m5) hn4 e2' e3' hb2 hb3 hx (oa.ext e) va (Ext.trans he e)
  rw [gr_B, gr_20, ← hR]
  unfold gx20a gx20b gx200 gx201 gx202 gx203 gx204 gx20x gx20 gr fn11
  simp only [ICode.dr, ICode.tl, ICode.hd, ICode.inn, ICode.br]
  rcases com_err (A := A) (B := B) (s := x) with hc | hc
  case inr =>
    rw [hc] at t13
    repeat (first | simp (config := { maxSteps := 1000000 }) only [wset, hset, dset, bset, Nat.reduceAdd, Nat.reduceMul, Nat.reduceLeDiff, Nat.reduceEqDiff, pset, hlen, if_false, if_true, t13, show decide ((18 : Int) = 0) = false from rfl] | simp (config := { maxSteps := 1000000 }) (disch := first | (simp only [List.length_append, List.length_cons, List.length_nil] <;> omega) | rfl | omega | fail) only [kset, wset, hset, dset, bset, Nat.reduceAdd, Nat.reduceMul, Nat.reduceLeDiff, Nat.reduceEqDiff, pset, hlen, if_false, if_true, t13, show decide ((18 : Int) = 0) = false from rfl])
    exact fin _ _ (by repeat first | with_reducible exact Ext.refl _ | refine Ext.app _ ?_) (by simp only [wset, hset, dset, bset, Nat.reduceAdd, Nat.reduceMul, Nat.reduceLeDiff, Nat.reduceEqDiff, pset, hlen, if_false, if_true, t3]) (by simp only [wset, hset, dset, bset, Nat.reduceAdd, Nat.reduceMul, Nat.reduceLeDiff, Nat.reduceEqDiff, pset, hlen, if_false, if_true, t3]) (by simp only [wset, hset, dset, bset, Nat.reduceAdd, Nat.reduceMul, Nat.reduceLeDiff, Nat.reduceEqDiff, pset, hlen, if_false, if_true, t5]) (by simp only [wset, hset, dset, bset, Nat.reduceAdd, Nat.reduceMul, Nat.reduceLeDiff, Nat.reduceEqDiff, pset, hlen, if_false, if_true, t7])
  have hcm := com_ok.1 hc
  have hgm : (comS A B x).1 = (placesS A B).map (gndS A B x) := by rw [com_gnd hcm]
  rw [hgm] at og
  rw [hc] at t13
  have hcn := cmp_nil.1 hcm
  repeat (first | simp (config := { maxSteps := 1000000 }) only [wset, hset, dset, bset, Nat.reduceAdd, Nat.reduceMul, Nat.reduceLeDiff, Nat.reduceEqDiff, pset, hlen, if_false, if_true, t3, t4, t5, t7, t11, t12, t13, show decide ((0 : Int) = 0) = true from rfl, og.lenm, op.lenm, List.length_map, ne_eq, decide_not, decide_true, Bool.not_true] | simp (config := { maxSteps := 1000000 }) (disch := first | (simp only [List.length_append, List.length_cons, List.length_nil] <;> omega) | rfl | omega | fail) only [kset, wset, hset, dset, bset, Nat.reduceAdd, Nat.reduceMul, Nat.reduceLeDiff, Nat.reduceEqDiff, pset, hlen, if_false, if_true, t3, t4, t5, t7, t11, t12, t13, show decide ((0 : Int) = 0) = true from rfl, og.lenm, op.lenm, List.length_map, ne_eq, decide_not, decide_true, Bool.not_true])
  refine WL.inv T.mix (fun n ts' h' => ∃ (k : Nat) (g' : AHeap), k ≤ (placesS A B).length ∧ n = (placesS A B).length - k ∧ h' = W ++ g' ∧ ts'.length = 487 ∧ slot ts' 3 = .ptr b3 0 ∧ slot ts' 4 = .ptr b4 0 ∧ slot ts' 5 = .ptr b5 0 ∧ slot ts' 7 = .int .i64 x ∧ slot ts' 12 = sg ∧ slot ts' 249 = sp ∧ slot ts' 250 = .int .i64 (placesS A B).length ∧ slot ts' 251 = .int .i64 k) (placesS A B).length
    ⟨0, [], by omega, rfl, by rw [List.append_nil], (by simp only [wset, hset, dset, bset, Nat.reduceAdd, Nat.reduceMul, Nat.reduceLeDiff, Nat.reduceEqDiff, pset, hlen, if_false, if_true, t3]), (by simp only [wset, hset, dset, bset, Nat.reduceAdd, Nat.reduceMul, Nat.reduceLeDiff, Nat.reduceEqDiff, pset, hlen, if_false, if_true, t3]), (by simp only [wset, hset, dset, bset, Nat.reduceAdd, Nat.reduceMul, Nat.reduceLeDiff, Nat.reduceEqDiff, pset, hlen, if_false, if_true, t4]), (by simp only [wset, hset, dset, bset, Nat.reduceAdd, Nat.reduceMul, Nat.reduceLeDiff, Nat.reduceEqDiff, pset, hlen, if_false, if_true, t5]), (by simp only [wset, hset, dset, bset, Nat.reduceAdd, Nat.reduceMul, Nat.reduceLeDiff, Nat.reduceEqDiff, pset, hlen, if_false, if_true, t7]), (by simp only [wset, hset, dset, bset, Nat.reduceAdd, Nat.reduceMul, Nat.reduceLeDiff, Nat.reduceEqDiff, pset, hlen, if_false, if_true, t12]), (by simp only [wset, hset, dset, bset, Nat.reduceAdd, Nat.reduceMul, Nat.reduceLeDiff, Nat.reduceEqDiff, pset, hlen, if_false, if_true, t11]), (by simp only [wset, hset, dset, bset, Nat.reduceAdd, Nat.reduceMul, Nat.reduceLeDiff, Nat.reduceEqDiff, pset, hlen, if_false, if_true, t3]), (by simp only [wset, hset, dset, bset, Nat.reduceAdd, Nat.reduceMul, Nat.reduceLeDiff, Nat.reduceEqDiff, pset, hlen, if_false, if_true]; rfl)⟩ ?_
  rintro _ ts' _ ⟨k, g', hk, rfl, rfl, hlen', u3, u4, u5, u7, u12, u249, u250, u251⟩
  clear hlen t3 t4 t5 t7 t11 t12 t13
  have hlen := hlen'
  by_cases hlt : k < (placesS A B).length
  · have e3 : (k : Int) < (placesS A B).length := by omega
    have hm := List.getElem_mem hlt
    obtain ⟨ha, hb⟩ := places_has hm
    have hg := gnd_in va vb hm (hcn _ hm)
    have ca : chkPlaceS A (placesS A B)[k] = 0 := by rw [chkPlaceS, if_pos (horV_iff.2 va), ha]; rfl
    have cb : chkPlaceS B (placesS A B)[k] = 0 := by rw [chkPlaceS, if_pos (horV_iff.2 vb), hb]; rfl
    have bb := band_bd vb hb
    have hkg : k < ((placesS A B).map (gndS A B x)).length := by rw [List.length_map]; exact hlt
    have lp : ∀ {kk : AHeap}, Ext W kk → loadF none (elp sp 1 k) (fun b => kk[b]?) = some (.int .i64 (placesS A B)[k], .keep) := fun {kk} e => op.l1m hlt rfl e
    have lg0 : ∀ {kk : AHeap}, Ext W kk → loadF none (elp sg 2 k) (fun b => kk[b]?) = some (.int .i64 (gndS A B x (placesS A B)[k]).1, .keep) := fun {kk} e => og.l1m hkg (by rw [List.getElem_map]; rfl) e
    have lg0' : ∀ {kk : AHeap}, Ext W kk → loadF none (elf sg 2 k 0) (fun b => kk[b]?) = some (.int .i64 (gndS A B x (placesS A B)[k]).1, .keep) := fun {kk} e => og.lfm (off := 0) hkg (by rw [List.getElem_map]; rfl) e
    have lg1 : ∀ {kk : AHeap}, Ext W kk → loadF none (elf sg 2 k 1) (fun b => kk[b]?) = some (.int .i64 (gndS A B x (placesS A B)[k]).2, .keep) := fun {kk} e => og.lfm (off := 1) hkg (by rw [List.getElem_map]; rfl) e
    have w1 : IntKind.i64.wrap ((bandS B (placesS A B)[k]).1 + x) = (bandS B (placesS A B)[k]).1 + x := wrap_in (by omega) (by omega)
    have w2 : IntKind.i64.wrap ((bandS B (placesS A B)[k]).2 + x) = (bandS B (placesS A B)[k]).2 + x := wrap_in (by omega) (by omega)
    have c1 : decide ((gndS A B x (placesS A B)[k]).2 < (gndS A B x (placesS A B)[k]).1) = false := decide_eq_false (by omega)
    have c2 : decide ((gndS A B x (placesS A B)[k]).1 < (bandS A (placesS A B)[k]).1) = false := decide_eq_false (by omega)
    have c3 : decide ((bandS A (placesS A B)[k]).2 < (gndS A B x (placesS A B)[k]).2) = false := decide_eq_false (by omega)
    have c4 : decide ((gndS A B x (placesS A B)[k]).1 < (bandS B (placesS A B)[k]).1 + x) = false := decide_eq_false (by omega)
    have c5 : decide ((bandS B (placesS A B)[k]).2 + x < (gndS A B x (placesS A B)[k]).2) = false := decide_eq_false (by omega)
    generalize (placesS A B)[k] = pp at *
    repeat (first | simp (config := { maxSteps := 1000000 }) only [wset, hset, dset, bset, Nat.reduceAdd, Nat.reduceMul, Nat.reduceLeDiff, Nat.reduceEqDiff, pset, hlen, if_false, if_true, u3, u4, u5, u7, u12, u249, u250, u251, l3, l4, e3, decide_true, op.ixm hlt, lp, oa.sl.one, ob.sl.one] | simp (config := { maxSteps := 1000000 }) (disch := first | (simp only [List.length_append, List.length_cons, List.length_nil] <;> omega) | rfl | omega | fail) only [kset, wset, hset, dset, bset, Nat.reduceAdd, Nat.reduceMul, Nat.reduceLeDiff, Nat.reduceEqDiff, pset, hlen, if_false, if_true, u3, u4, u5, u7, u12, u249, u250, u251, l3, l4, e3, decide_true, op.ixm hlt, lp, oa.sl.one, ob.sl.one])
    refine WF.res T.c19 (r19 T (H := A) (oa.sl.ext (by repeat first | with_reducible exact Ext.refl _ | refine Ext.app _ ?_)) hle2) ?_
    rintro _ g1 ⟨s1, rfl, hs1⟩
    repeat (first | simp (config := { maxSteps := 1000000 }) only [wset, hset, dset, bset, Nat.reduceAdd, Nat.reduceMul, Nat.reduceLeDiff, Nat.reduceEqDiff, pset, hlen, if_false, if_true, u3, u4, u5, u7, u12, u249, u250, u251, l3, l4, oa.sl.one, ob.sl.one] | simp (config := { maxSteps := 1000000 }) (disch := first | (simp only [List.length_append, List.length_cons, List.length_nil] <;> omega) | rfl | omega | fail) only [kset, wset, hset, dset, bset, Nat.reduceAdd, Nat.reduceMul, Nat.reduceLeDiff, Nat.reduceEqDiff, pset, hlen, if_false, if_true, u3, u4, u5, u7, u12, u249, u250, u251, l3, l4, oa.sl.one, ob.sl.one])
    refine WF.res T.c20 (r20 T (H := A) ⟨hs1.isSl.ext (by repeat first | with_reducible exact Ext.refl _ | refine Ext.app _ ?_), oa.len, oa.nm⟩ pp) ?_
    rintro _ g2 rfl
    rw [ca, if_pos rfl]
    repeat (first | simp (config := { maxSteps := 1000000 }) only [wset, hset, dset, bset, Nat.reduceAdd, Nat.reduceMul, Nat.reduceLeDiff, Nat.reduceEqDiff, pset, hlen, if_false, if_true, u3, u4, u5, u7, u12, u249, u250, u251, l3, l4, oa.sl.one, ob.sl.one] | simp (config := { maxSteps := 1000000 }) (disch := first | (simp only [List.length_append, List.length_cons, List.length_nil] <;> omega) | rfl | omega | fail) only [kset, wset, hset, dset, bset, Nat.reduceAdd, Nat.reduceMul, Nat.reduceLeDiff, Nat.reduceEqDiff, pset, hlen, if_false, if_true, u3, u4, u5, u7, u12, u249, u250, u251, l3, l4, oa.sl.one, ob.sl.one])
    refine WF.res T.c19 (r19 T (H := B) (ob.sl.ext (by repeat first | with_reducible exact Ext.refl _ | refine Ext.app _ ?_)) hle3) ?_
    rintro _ g3 ⟨s2, rfl, hs2⟩
    repeat (first | simp (config := { maxSteps := 1000000 }) only [wset, hset, dset, bset, Nat.reduceAdd, Nat.reduceMul, Nat.reduceLeDiff, Nat.reduceEqDiff, pset, hlen, if_false, if_true, u3, u4, u5, u7, u12, u249, u250, u251, l3, l4, oa.sl.one, ob.sl.one] | simp (config := { maxSteps := 1000000 }) (disch := first | (simp only [List.length_append, List.length_cons, List.length_nil] <;> omega) | rfl | omega | fail) only [kset, wset, hset, dset, bset, Nat.reduceAdd, Nat.reduceMul, Nat.reduceLeDiff, Nat.reduceEqDiff, pset, hlen, if_false, if_true, u3, u4, u5, u7, u12, u249, u250, u251, l3, l4, oa.sl.one, ob.sl.one])
    refine WF.res T.c20 (r20 T (H := B) ⟨hs2.isSl.ext (by repeat first | with_reducible exact Ext.refl _ | refine Ext.app _ ?_), ob.len, ob.nm⟩ pp) ?_
    rintro _ g4 rfl
    rw [cb, if_pos rfl]
    repeat (first | simp (config := { maxSteps := 1000000 }) only [wset, hset, dset, bset, Nat.reduceAdd, Nat.reduceMul, Nat.reduceLeDiff, Nat.reduceEqDiff, pset, hlen, if_false, if_true, u3, u4, u5, u7, u12, u249, u250, u251, z0, og.ixm hkg, lg0, lg0', lg1, w1, w2, c1, c2, c3, c4, c5, wrapN (show k + 1 < 2 ^ 63 by omega)] | simp (config := { maxSteps := 1000000 }) (disch := first | (simp only [List.length_append, List.length_cons, List.length_nil] <;> omega) | rfl | omega | fail) only [kset, wset, hset, dset, bset, Nat.reduceAdd, Nat.reduceMul, Nat.reduceLeDiff, Nat.reduceEqDiff, pset, hlen, if_false, if_true, u3, u4, u5, u7, u12, u249, u250, u251, z0, og.ixm hkg, lg0, lg0', lg1, w1, w2, c1, c2, c3, c4, c5, wrapN (show k + 1 < 2 ^ 63 by omega)])
    refine ⟨(placesS A B).length - (k + 1), by omega, k + 1, ?gg, by omega, rfl, ?_, rfl⟩
    rotate_left
    · simp only [List.append_assoc]
      rfl
  · have e3 : ¬ (k : Int) < (placesS A B).length := by omega
    repeat (first | simp (config := { maxSteps := 1000000 }) only [wset, hset, dset, bset, Nat.reduceAdd, Nat.reduceMul, Nat.reduceLeDiff, Nat.reduceEqDiff, pset, hlen, if_false, if_true, u3, u4, u5, u7, u12, u249, u250, u251, e3, decide_false] | simp (config := { maxSteps := 1000000 }) (disch := first | (simp only [List.length_append, List.length_cons, List.length_nil] <;> omega) | rfl | omega | fail) only [kset, wset, hset, dset, bset, Nat.reduceAdd, Nat.reduceMul, Nat.reduceLeDiff, Nat.reduceEqDiff, pset, hlen, if_false, if_true, u3, u4, u5, u7, u12, u249, u250, u251, e3, decide_false])
    exact fin _ _ (by repeat first | with_reducible exact Ext.refl _ | refine Ext.app _ ?_) (by simp only [wset, hset, dset, bset, Nat.reduceAdd, Nat.reduceMul, Nat.reduceLeDiff, Nat.reduceEqDiff, pset, hlen, if_false, if_true, u3]) (by simp only [wset, hset, dset, bset, Nat.reduceAdd, Nat.reduceMul, Nat.reduceLeDiff, Nat.reduceEqDiff, pset, hlen, if_false, if_true, u3]) (by simp only [wset, hset, dset, bset, Nat.reduceAdd, Nat.reduceMul, Nat.reduceLeDiff, Nat.reduceEqDiff, pset, hlen, if_false, if_true, u5]) (by simp only [wset, hset, dset, bset, Nat.reduceAdd, Nat.reduceMul, Nat.reduceLeDiff, Nat.reduceEqDiff, pset, hlen, if_false, if_true, u7])

set_option maxRecDepth 10000 in
set_option maxHeartbeats 2000000 in
theorem ground_A2 {A B : Hor} {sa sb sg sp sc : AV} {W : AHeap} {ts : TS} {x n2 n3 : Int} {nn : List Int} {b3 b4 b5 : Nat} (hlen : ts.length = 487) (t3 : slot ts 3 = .ptr b3 0) (t4 : slot ts 4 = .ptr b4 0) (t5 : slot ts 5 = .ptr b5 0) (t7 : slot ts 7 = .int .i64 x) (t9 : slot ts 9 = sc) (t11 : slot ts 11 = sp) (t12 : slot ts 12 = sg) (t13 : slot ts 13 = .int .i64 (comS A B x).2)
    (m3 : W[b3]? = some (.cells [.str A.name, .int .i64 A.err, sa] true false)) (m4 : W[b4]? = some (.cells [.str B.name, .int .i64 B.err, sb] true false)) (m5 : W[b5]? = some (.cells (nn.map (AV.int .i8)) true false)) (hn4 : nn.length = 4) (e2' : nn[2]'(by omega) = n2) (e3' : nn[3]'(by omega) = n3) (hb2 : -128 ≤ n2 ∧ n2 ≤ 127) (hb3 : -128 ≤ n3 ∧ n3 ≤ 127) (hx : -128 ≤ x ∧ x ≤ 127)
    (oa : HorOk W A sa) (va : HorV A) (ob : HorOk W B sb) (vb : HorV B) (hpp : (placesS A B).length ≠ 0) (oc : IsSl W sc 1 ((cmpS A B x).map intRow)) (op : IsSl W sp 1 ((placesS A B).map intRow)) (og : IsSl W sg 2 ((comS A B x).1.map ratRow)) (he : Ext h W) :
    WC P inFn (grT 15) [] ts W (FQ [(6, none)] fun v h' => Ext h h' ∧ v = .bool true) := by
  have q3 := (List.getElem?_eq_some_iff.1 m3).1
  have q4 := (List.getElem?_eq_some_iff.1 m4).1
  have q5 := (List.getElem?_eq_some_iff.1 m5).1
  have l3 : ∀ {n : Option Nat} {o : Nat} {kk : AHeap}, Ext W kk → loadF n (.ptr b3 o) (fun z => kk[z]?) = ldB n o (.cells [.str A.name, .int .i64 A.err, sa] true false) := fun e => loadF_at (e.some m3)
  have l4 : ∀ {n : Option Nat} {o : Nat} {kk : AHeap}, Ext W kk → loadF n (.ptr b4 o) (fun z => kk[z]?) = ldB n o (.cells [.str B.name, .int .i64 B.err, sb] true false) := fun e => loadF_at (e.some m4)
  have hle := va.le
  have hleb := vb.le
  have he0 := va.e0
  have he1 := va.e1
  have hle2 : A.picks.length ≤ 2 ^ 40 := by omega
  have hle3 : B.picks.length ≤ 2 ^ 40 := by omega
  have z0 : decide ((0 : Int) ≠ 0) = false := rfl
  have w1 : IntKind.i64.wrap (A.err + 1) = A.err + 1 := wrap_in (by omega) (by omega)
  have vw := wid_v va
  have hsh : chkShS (widH A) B x (-1000) = 0 := by
    have h0 : shiftE (widH A) B x (-1000) = 0 := firstS_zero.2 fun y hy => by
      simp only [List.mem_cons, List.not_mem_nil, or_false] at hy
      rcases hy with rfl | rfl
      · refine firstS_zero.2 fun y hy => ?_
        simp only [List.mem_cons, List.not_mem_nil, or_false] at hy
        rcases hy with rfl | rfl
        · exact horV_iff.2 vw
        · exact horV_iff.2 vb
      · exact rangeS_zero.2 (by omega)
    have hp : (placesS (widH A) B).length ≠ 0 := hpp
    unfold chkShS
    rw [if_pos h0, decide_eq_true (show 0 < (placesS (widH A) B).length by omega)]; rfl
  have hcl := cmpS_len (A := widH A) (B := B) (s := x) vw
  have hcl2 := cmpS_len (A := A) (B := B) (s := x) va
  obtain ⟨R, hR⟩ : ∃ R, R = grT 20 := ⟨_, rfl⟩
  rw [gr_A2, gr_19, ← hR]
  unfold gx190 gx191 gx192 gx193 gx194 gx19 gr fn11
  simp only [ICode.dr, ICode.tl, ICode.hd, ICode.inn]
  repeat (first | simp (config := { maxSteps := 1000000 }) only [wset, hset, dset, bset, Nat.reduceAdd, Nat.reduceMul, Nat.reduceLeDiff, Nat.reduceEqDiff, pset, hlen, if_false, if_true, t3, t4, t7, l3, l4, oa.sl.one, ob.sl.one] | simp (config := { maxSteps := 1000000 }) (disch := first | (simp only [List.length_append, List.length_cons, List.length_nil] <;> omega) | rfl | omega | fail) only [kset, wset, hset, dset, bset, Nat.reduceAdd, Nat.reduceMul, Nat.reduceLeDiff, Nat.reduceEqDiff, pset, hlen, if_false, if_true, t3, t4, t7, l3, l4, oa.sl.one, ob.sl.one])
  refine WF.res T.c19 (r19 T (H := A) (oa.sl.ext (by repeat first | with_reducible exact Ext.refl _ | refine Ext.app _ ?_)) hle2) ?_
  rintro _ g1 ⟨s1, rfl, hs1⟩
  repeat (first | simp (config := { maxSteps := 1000000 }) only [wset, hset, dset, bset, Nat.reduceAdd, Nat.reduceMul, Nat.reduceLeDiff, Nat.reduceEqDiff, pset, hlen, if_false, if_true, t3, t4, t7, l3, l4, oa.sl.one, ob.sl.one, hs1.isSl.one, w1] | simp (config := { maxSteps := 1000000 }) (disch := first | (simp only [List.length_append, List.length_cons, List.length_nil] <;> omega) | rfl | omega | fail) only [kset, wset, hset, dset, bset, Nat.reduceAdd, Nat.reduceMul, Nat.reduceLeDiff, Nat.reduceEqDiff, pset, hlen, if_false, if_true, t3, t4, t7, l3, l4, oa.sl.one, ob.sl.one, hs1.isSl.one, w1])
  refine WF.res T.c19 (r19 T (H := B) (ob.sl.ext (by repeat first | with_reducible exact Ext.refl _ | refine Ext.app _ ?_)) hle3) ?_
  rintro _ g2 ⟨s2, rfl, hs2⟩
  repeat (first | simp (config := { maxSteps := 1000000 }) only [wset, hset, dset, bset, Nat.reduceAdd, Nat.reduceMul, Nat.reduceLeDiff, Nat.reduceEqDiff, pset, hlen, if_false, if_true, t3, t4, t7, l3, l4, oa.sl.one, ob.sl.one, hs1.isSl.one, w1] | simp (config := { maxSteps := 1000000 }) (disch := first | (simp only [List.length_append, List.length_cons, List.length_nil] <;> omega) | rfl | omega | fail) only [kset, wset, hset, dset, bset, Nat.reduceAdd, Nat.reduceMul, Nat.reduceLeDiff, Nat.reduceEqDiff, pset, hlen, if_false, if_true, t3, t4, t7, l3, l4, oa.sl.one, ob.sl.one, hs1.isSl.one, w1])
  refine WF.res T.c72 (r72 T (A := widH A) (B := B) ⟨(hs1.isSl.ext (by repeat first | with_reducible exact Ext.refl _ | refine Ext.app _ ?_)), oa.len, oa.nm⟩ ⟨hs2.isSl.ext (by repeat first | with_reducible exact Ext.refl _ | refine Ext.app _ ?_), ob.len, ob.nm⟩ x) ?_
  rintro _ g3 ⟨sf, rfl, of⟩
  rw [hsh, if_pos rfl] at of
  rw [hsh]
  repeat (first | simp (config := { maxSteps := 1000000 }) only [wset, hset, dset, bset, Nat.reduceAdd, Nat.reduceMul, Nat.reduceLeDiff, Nat.reduceEqDiff, pset, hlen, if_false, if_true, t3, t4, t7, z0, of.lenm] | simp (config := { maxSteps := 1000000 }) (disch := first | (simp only [List.length_append, List.length_cons, List.length_nil] <;> omega) | rfl | omega | fail) only [kset, wset, hset, dset, bset, Nat.reduceAdd, Nat.reduceMul, Nat.reduceLeDiff, Nat.reduceEqDiff, pset, hlen, if_false, if_true, t3, t4, t7, z0, of.lenm])
  obtain ⟨F, hF⟩ : ∃ F, F = cmpS (widH A) B x := ⟨_, rfl⟩
  rw [← hF] at of hcl ⊢
  have hFs : ∀ y ∈ F, y ∈ cmpS A B x := fun y hy => wid_cmp va (by rw [← hF]; exact hy)
  obtain ⟨W1, hW1⟩ : ∃ W1, W1 = W ++ g1 ++ [ABlk.cells [AV.str A.name, AV.int IntKind.i64 (min 1000 (A.err + 1)), s1] true false] ++ g2 ++ g3 := ⟨_, rfl⟩
  have eW : Ext W W1 := by rw [hW1]; exact by repeat first | with_reducible exact Ext.refl _ | refine Ext.app _ ?_
  rw [← hW1] at of ⊢
  refine WL.inv T.mix (fun n ts' h' => ∃ (k : Nat) (g' : AHeap), k ≤ F.length ∧ n = F.length - k ∧ h' = W1 ++ g' ∧ ts'.length = 487 ∧ slot ts' 3 = .ptr b3 0 ∧ slot ts' 4 = .ptr b4 0 ∧ slot ts' 5 = .ptr b5 0 ∧ slot ts' 7 = .int .i64 x ∧ slot ts' 9 = sc ∧ slot ts' 11 = sp ∧ slot ts' 12 = sg ∧ slot ts' 13 = .int .i64 (comS A B x).2 ∧ slot ts' 231 = sf ∧ slot ts' 232 = .int .i64 F.length ∧ slot ts' 233 = .int .i64 k) F.length
    ⟨0, [], by omega, rfl, by rw [List.append_nil], (by simp only [wset, hset, dset, bset, Nat.reduceAdd, Nat.reduceMul, Nat.reduceLeDiff, Nat.reduceEqDiff, pset, hlen, if_false, if_true, t3]), (by simp only [wset, hset, dset, bset, Nat.reduceAdd, Nat.reduceMul, Nat.reduceLeDiff, Nat.reduceEqDiff, pset, hlen, if_false, if_true, t3]), (by simp only [wset, hset, dset, bset, Nat.reduceAdd, Nat.reduceMul, Nat.reduceLeDiff, Nat.reduceEqDiff, pset, hlen, if_false, if_true, t4]), (by simp only [wset, hset, dset, bset, Nat.reduceAdd, Nat.reduceMul, Nat.reduceLeDiff, Nat.reduceEqDiff, pset, hlen, if_false, if_true, t5]), (by simp only [wset, hset, dset, bset, Nat.reduceAdd, Nat.reduceMul, Nat.reduceLeDiff, Nat.reduceEqDiff, pset, hlen, if_false, if_true, t7]), (by simp only [wset, hset, dset, bset, Nat.reduceAdd, Nat.reduceMul, Nat.reduceLeDiff, Nat.reduceEqDiff, pset, hlen, if_false, if_true, t9]), (by simp only [wset, hset, dset, bset, Nat.reduceAdd, Nat.reduceMul, Nat.reduceLeDiff, Nat.reduceEqDiff, pset, hlen, if_false, if_true, t11]), (by simp only [wset, hset, dset, bset, Nat.reduceAdd, Nat.reduceMul, Nat.reduceLeDiff, Nat.reduceEqDiff, pset, hlen, if_false, if_true, t12]), (by simp only [wset, hset, dset, bset, Nat.reduceAdd, Nat.reduceMul, Nat.reduceLeDiff, Nat.reduceEqDiff, pset, hlen, if_false, if_true, t13]), (by simp only [wset, hset, dset, bset, Nat.reduceAdd, Nat.reduceMul, Nat.reduceLeDiff, Nat.reduceEqDiff, pset, hlen, if_false, if_true, t3]), (by simp only [wset, hset, dset, bset, Nat.reduceAdd, Nat.reduceMul, Nat.reduceLeDiff, Nat.reduceEqDiff, pset, hlen, if_false, if_true, t3]), (by simp only [wset, hset, dset, bset, Nat.reduceAdd, Nat.reduceMul, Nat.reduceLeDiff, Nat.reduceEqDiff, pset, hlen, if_false, if_true]; rfl)⟩ ?_
  rintro _ ts' _ ⟨k, g', hk, rfl, rfl, hlen', u3, u4, u5, u7, u9, u11, u12, u13, u231, u232, u233⟩
  clear hlen t3 t4 t5 t7 t9 t11 t12 t13
  have hlen := hlen'
  by_cases hlt : k < F.length
  · have e3 : (k : Int) < F.length := by omega
    have hm := hFs _ (List.getElem_mem hlt)
    have dm : decide (F[k] ∈ cmpS A B x) = true := decide_eq_true hm
    have lf : ∀ {kk : AHeap}, Ext W1 kk → loadF none (elp sf 1 k) (fun b => kk[b]?) = some (.int .i64 F[k], .keep) := fun {kk} e => of.l1m hlt rfl e
    repeat (first | simp (config := { maxSteps := 1000000 }) only [wset, hset, dset, bset, Nat.reduceAdd, Nat.reduceMul, Nat.reduceLeDiff, Nat.reduceEqDiff, pset, hlen, if_false, if_true, u3, u4, u5, u7, u9, u231, u232, u233, e3, decide_true, of.ixm hlt, lf] | simp (config := { maxSteps := 1000000 }) (disch := first | (simp only [List.length_append, List.length_cons, List.length_nil] <;> omega) | rfl | omega | fail) only [kset, wset, hset, dset, bset, Nat.reduceAdd, Nat.reduceMul, Nat.reduceLeDiff, Nat.reduceEqDiff, pset, hlen, if_false, if_true, u3, u4, u5, u7, u9, u231, u232, u233, e3, decide_true, of.ixm hlt, lf])
    refine WF.res T.c70 (r70 T (oc.ext (eW.trans (by repeat first | with_reducible exact Ext.refl _ | refine Ext.app _ ?_))) (by omega) F[k]) ?_
    rintro _ g5 rfl
    repeat (first | simp (config := { maxSteps := 1000000 }) only [wset, hset, dset, bset, Nat.reduceAdd, Nat.reduceMul, Nat.reduceLeDiff, Nat.reduceEqDiff, pset, hlen, if_false, if_true, u3, u4, u5, u7, u9, u11, u12, u13, u231, u232, u233, dm, Bool.not_true, wrapN (show k + 1 < 2 ^ 63 by omega)] | simp (config := { maxSteps := 1000000 }) (disch := first | (simp only [List.length_append, List.length_cons, List.length_nil] <;> omega) | rfl | omega | fail) only [kset, wset, hset, dset, bset, Nat.reduceAdd, Nat.reduceMul, Nat.reduceLeDiff, Nat.reduceEqDiff, pset, hlen, if_false, if_true, u3, u4, u5, u7, u9, u11, u12, u13, u231, u232, u233, dm, Bool.not_true, wrapN (show k + 1 < 2 ^ 63 by omega)])
    refine ⟨F.length - (k + 1), by omega, k + 1, ?gg, by omega, rfl, ?_, rfl⟩
    rotate_left
    · simp only [List.append_assoc]
      rfl
  · have e3 : ¬ (k : Int) < F.length := by omega
    repeat (first | simp (config := { maxSteps := 1000000 }) only [wset, hset, dset, bset, Nat.reduceAdd, Nat.reduceMul, Nat.reduceLeDiff, Nat.reduceEqDiff, pset, hlen, if_false, if_true, u3, u4, u5, u7, u9, u231, u232, u233, e3, decide_false] | simp (config := { maxSteps := 1000000 }) (disch := first | (simp only [List.length_append, List.length_cons, List.length_nil] <;> omega) | rfl | omega | fail) only [kset, wset, hset, dset, bset, Nat.reduceAdd, Nat.reduceMul, Nat.reduceLeDiff, Nat.reduceEqDiff, pset, hlen, if_false, if_true, u3, u4, u5, u7, u9, u231, u232, u233, e3, decide_false])
    rw [hR]
    have e : Ext W (W1 ++ g') := eW.trans (by repeat first | with_reducible exact Ext.refl _ | refine Ext.app _ ?_)
    exact ground_B T (A := A) (B := B) (sa := sa) (sb := sb) (sg := sg) (sp := sp) (x := x) (n2 := n2) (n3 := n3) (nn := nn) (b3 := b3) (b4 := b4) (b5 := b5) (by simp only [wset, hset, dset, bset, Nat.reduceAdd, Nat.reduceMul, Nat.reduceLeDiff, Nat.reduceEqDiff, pset, hlen, if_false, if_true, u3]) (by simp only [wset, hset, dset, bset, Nat.reduceAdd, Nat.reduceMul, Nat.reduceLeDiff, Nat.reduceEqDiff, pset, hlen, if_false, if_true, u3]) (by simp only [wset, hset, dset, bset, Nat.reduceAdd, Nat.reduceMul, Nat.reduceLeDiff, Nat.reduceEqDiff, pset, hlen, if_false, if_true, u4]) (by simp only [wset, hset, dset, bset, Nat.reduceAdd, Nat.reduceMul, Nat.reduceLeDiff, Nat.reduceEqDiff, pset, hlen, if_false, if_true, u5]) (by simp only [wset, hset, dset, bset, Nat.reduceAdd, Nat.reduceMul, Nat.reduceLeDiff, Nat.reduceEqDiff, pset, hlen, if_false, if_true, u7]) (by simp only [wset, hset, dset, bset, Nat.reduceAdd, Nat.reduceMul, Nat.reduceLeDiff, Nat.reduceEqDiff, pset, hlen, if_false, if_true, u11]) (by simp only [wset, hset, dset, bset, Nat.reduceAdd, Nat.reduceMul, Nat.reduceLeDiff, Nat.reduceEqDiff, pset, hlen, if_false, if_true, u12]) (by simp only [wset, hset, dset, bset, Nat.reduceAdd, Nat.reduceMul, Nat.reduceLeDiff, Nat.reduceEqDiff, pset, hlen, if_false, if_true, u13]) (Ext.some e m3) (Ext.some e m4) (Ext.some e m5) hn4 e2' e3' hb2 hb3 hx (oa.ext e) va (ob.ext e) vb (op.ext e) (og.ext e) (Ext.trans he e)

set_option maxRecDepth 10000 in
set_option maxHeartbeats 2000000 in
theorem ground_A1c {A B : Hor} {sa sb sg sp sc sm sl : AV} {W : AHeap} {ts : TS} {x y mm oth n2 n3 : Int} {nn : List Int} {b3 b4 b5 : Nat} (hlen : ts.length = 487) (t3 : slot ts 3 = .ptr b3 0) (t4 : slot ts 4 = .ptr b4 0) (t5 : slot ts 5 = .ptr b5 0) (t7 : slot ts 7 = .int .i64 x) (t8 : slot ts 8 = .int .i64 y) (t9 : slot ts 9 = sc) (t11 : slot ts 11 = sp) (t12 : slot ts 12 = sg) (t13 : slot ts 13 = .int .i64 (comS A B x).2)
    (t16 : slot ts 16 = .int .i64 mm) (t17 : slot ts 17 = sm) (t19 : slot ts 19 = sl) (t20 : slot ts 20 = .int .i64 0) (t21 : slot ts 21 = .int .i64 oth)
    (m3 : W[b3]? = some (.cells [.str A.name, .int .i64 A.err, sa] true false)) (m4 : W[b4]? = some (.cells [.str B.name, .int .i64 B.err, sb] true false)) (m5 : W[b5]? = some (.cells (nn.map (AV.int .i8)) true false)) (hn4 : nn.length = 4) (e2' : nn[2]'(by omega) = n2) (e3' : nn[3]'(by omega) = n3) (hb2 : -128 ≤ n2 ∧ n2 ≤ 127) (hb3 : -128 ≤ n3 ∧ n3 ≤ 127) (hx : -128 ≤ x ∧ x ≤ 127)
    (oa : HorOk W A sa) (va : HorV A) (ob : HorOk W B sb) (vb : HorV B) (hpp : (placesS A B).length ≠ 0) (oc : IsSl W sc 1 ((cmpS A B x).map intRow)) (ol : IsSl W sl 1 ((cmpS A B mm).map intRow)) (hmn : (cmpS A B mm).length ≤ (cmpS A B oth).length) (ho : -1000 ≤ oth ∧ oth ≤ 1000) (om : IsSl W sm 1 ((cmpS A B mm).map intRow)) (op : IsSl W sp 1 ((placesS A B).map intRow)) (og : IsSl W sg 2 ((comS A B x).1.map ratRow)) (he : Ext h W) :
    WC P inFn (grT 13) [] ts W (FQ [(6, none)] fun v h' => Ext h h' ∧ v = .bool true) := by
  have q3 := (List.getElem?_eq_some_iff.1 m3).1
  have q4 := (List.getElem?_eq_some_iff.1 m4).1
  have q5 := (List.getElem?_eq_some_iff.1 m5).1
  have l3 : ∀ {n : Option Nat} {o : Nat} {kk : AHeap}, Ext W kk → loadF n (.ptr b3 o) (fun z => kk[z]?) = ldB n o (.cells [.str A.name, .int .i64 A.err, sa] true false) := fun e => loadF_at (e.some m3)
  have l4 : ∀ {n : Option Nat} {o : Nat} {kk : AHeap}, Ext W kk → loadF n (.ptr b4 o) (fun z => kk[z]?) = ldB n o (.cells [.str B.name, .int .i64 B.err, sb] true false) := fun e => loadF_at (e.some m4)
  have hle := va.le
  have hleb := vb.le
  have hle2 : A.picks.length ≤ 2 ^ 40 := by omega
  have hle3 : B.picks.length ≤ 2 ^ 40 := by omega
  have z0 : decide ((0 : Int) ≠ 0) = false := rfl
  have hcl3 := cmpS_len (A := A) (B := B) (s := mm) va
  have hc1 := chk_0 va vb hpp (x := oth) (lo := -1000) ho
  have d1 : decide (((cmpS A B oth).length : Int) < (cmpS A B mm).length) = false := decide_eq_false (by omega)
  obtain ⟨R, hR⟩ : ∃ R, R = grT 15 := ⟨_, rfl⟩
  rw [gr_13, ← hR]
  unfold gr fn11
  simp only [ICode.dr, ICode.tl, ICode.hd]
  repeat (first | simp (config := { maxSteps := 1000000 }) only [wset, hset, dset, bset, Nat.reduceAdd, Nat.reduceMul, Nat.reduceLeDiff, Nat.reduceEqDiff, pset, hlen, if_false, if_true, t3, t4, t21, l3, l4, oa.sl.one, ob.sl.one] | simp (config := { maxSteps := 1000000 }) (disch := first | (simp only [List.length_append, List.length_cons, List.length_nil] <;> omega) | rfl | omega | fail) only [kset, wset, hset, dset, bset, Nat.reduceAdd, Nat.reduceMul, Nat.reduceLeDiff, Nat.reduceEqDiff, pset, hlen, if_false, if_true, t3, t4, t21, l3, l4, oa.sl.one, ob.sl.one])
  refine WF.res T.c19 (r19 T (H := A) (oa.sl.ext (by repeat first | with_reducible exact Ext.refl _ | refine Ext.app _ ?_)) hle2) ?_
  rintro _ g1 ⟨s1, rfl, hs1⟩
  repeat (first | simp (config := { maxSteps := 1000000 }) only [wset, hset, dset, bset, Nat.reduceAdd, Nat.reduceMul, Nat.reduceLeDiff, Nat.reduceEqDiff, pset, hlen, if_false, if_true, t3, t4, t21, l3, l4, oa.sl.one, ob.sl.one] | simp (config := { maxSteps := 1000000 }) (disch := first | (simp only [List.length_append, List.length_cons, List.length_nil] <;> omega) | rfl | omega | fail) only [kset, wset, hset, dset, bset, Nat.reduceAdd, Nat.reduceMul, Nat.reduceLeDiff, Nat.reduceEqDiff, pset, hlen, if_false, if_true, t3, t4, t21, l3, l4, oa.sl.one, ob.sl.one])
  refine WF.res T.c19 (r19 T (H := B) (ob.sl.ext (by repeat first | with_reducible exact Ext.refl _ | refine Ext.app _ ?_)) hle3) ?_
  rintro _ g2 ⟨s2, rfl, hs2⟩
  repeat (first | simp (config := { maxSteps := 1000000 }) only [wset, hset, dset, bset, Nat.reduceAdd, Nat.reduceMul, Nat.reduceLeDiff, Nat.reduceEqDiff, pset, hlen, if_false, if_true, t3, t4, t21, l3, l4, oa.sl.one, ob.sl.one] | simp (config := { maxSteps := 1000000 }) (disch := first | (simp only [List.length_append, List.length_cons, List.length_nil] <;> omega) | rfl | omega | fail) only [kset, wset, hset, dset, bset, Nat.reduceAdd, Nat.reduceMul, Nat.reduceLeDiff, Nat.reduceEqDiff, pset, hlen, if_false, if_true, t3, t4, t21, l3, l4, oa.sl.one, ob.sl.one])
  refine WF.res T.c72 (r72 T (A := A) (B := B) ⟨hs1.isSl.ext (by repeat first | with_reducible exact Ext.refl _ | refine Ext.app _ ?_), oa.len, oa.nm⟩ ⟨hs2.isSl.ext (by repeat first | with_reducible exact Ext.refl _ | refine Ext.app _ ?_), ob.len, ob.nm⟩ oth) ?_
  rintro _ g3 ⟨sf, rfl, of⟩
  rw [hc1, if_pos rfl] at of
  rw [hc1]
  repeat (first | simp (config := { maxSteps := 1000000 }) only [wset, hset, dset, bset, Nat.reduceAdd, Nat.reduceMul, Nat.reduceLeDiff, Nat.reduceEqDiff, pset, hlen, if_false, if_true, t17, t19, t20, z0] | simp (config := { maxSteps := 1000000 }) (disch := first | (simp only [List.length_append, List.length_cons, List.length_nil] <;> omega) | rfl | omega | fail) only [kset, wset, hset, dset, bset, Nat.reduceAdd, Nat.reduceMul, Nat.reduceLeDiff, Nat.reduceEqDiff, pset, hlen, if_false, if_true, t17, t19, t20, z0])
  refine WF.res T.c40 (r40 T (A := cmpS A B mm) (B := cmpS A B mm) (ol.ext (by repeat first | with_reducible exact Ext.refl _ | refine Ext.app _ ?_)) (om.ext (by repeat first | with_reducible exact Ext.refl _ | refine Ext.app _ ?_)) (by omega)) ?_
  rintro _ g4 rfl
  repeat (first | simp (config := { maxSteps := 1000000 }) only [wset, hset, dset, bset, Nat.reduceAdd, Nat.reduceMul, Nat.reduceLeDiff, Nat.reduceEqDiff, pset, hlen, if_false, if_true, t17, t19, t20, z0, decide_true, Bool.not_true, om.lenm, of.lenm, d1] | simp (config := { maxSteps := 1000000 }) (disch := first | (simp only [List.length_append, List.length_cons, List.length_nil] <;> omega) | rfl | omega | fail) only [kset, wset, hset, dset, bset, Nat.reduceAdd, Nat.reduceMul, Nat.reduceLeDiff, Nat.reduceEqDiff, pset, hlen, if_false, if_true, t17, t19, t20, z0, decide_true, Bool.not_true, om.lenm, of.lenm, d1])
  rw [hR]
  have e : ∀ {k : AHeap}, Ext W k → Ext W k := fun e => e
  refine ground_A2 T (A := A) (B := B) (sa := sa) (sb := sb) (sg := sg) (sp := sp) (sc := sc) (x := x) (n2 := n2) (n3 := n3) (nn := nn) (b3 := b3) (b4 := b4) (b5 := b5) (by simp only [wset, hset, dset, bset, Nat.reduceAdd, Nat.reduceMul, Nat.reduceLeDiff, Nat.reduceEqDiff, pset, hlen, if_false, if_true, t3]) (by simp only [wset, hset, dset, bset, Nat.reduceAdd, Nat.reduceMul, Nat.reduceLeDiff, Nat.reduceEqDiff, pset, hlen, if_false, if_true, t3]) (by simp only [wset, hset, dset, bset, Nat.reduceAdd, Nat.reduceMul, Nat.reduceLeDiff, Nat.reduceEqDiff, pset, hlen, if_false, if_true, t4]) (by simp only [wset, hset, dset, bset, Nat.reduceAdd, Nat.reduceMul, Nat.reduceLeDiff, Nat.reduceEqDiff, pset, hlen, if_false, if_true, t5]) (by simp only [wset, hset, dset, bset, Nat.reduceAdd, Nat.reduceMul, Nat.reduceLeDiff, Nat.reduceEqDiff, pset, hlen, if_false, if_true, t7]) (by simp only [wset, hset, dset, bset, Nat.reduceAdd, Nat.reduceMul, Nat.reduceLeDiff, Nat.reduceEqDiff, pset, hlen, if_false, if_true, t9]) (by simp only [wset, hset, dset, bset, Nat.reduceAdd, Nat.reduceMul, Nat.reduceLeDiff, Nat.reduceEqDiff, pset, hlen, if_false, if_true, t11]) (by simp only [wset, hset, dset, bset, Nat.reduceAdd, Nat.reduceMul, Nat.reduceLeDiff, Nat.reduceEqDiff, pset, hlen, if_false, if_true, t12]) (by simp only [wset, hset, dset, bset, Nat.reduceAdd, Nat.reduceMul, Nat.reduceLeDiff, Nat.reduceEqDiff, pset, hlen, if_false, if_true, t13]) (Ext.some (by repeat first | with_reducible exact Ext.refl _ | refine Ext.app _ ?_) m3) (Ext.some (by repeat first | with_reducible exact Ext.refl _ | refine Ext.app _ ?_) m4) (Ext.some (by repeat first | with_reducible exact Ext.refl _ | refine Ext.app _ ?_) m5) hn4 e2' e3' hb2 hb3 hx (oa.ext (by repeat first | with_reducible exact Ext.refl _ | refine Ext.app _ ?_)) va (ob.ext (by repeat first | with_reducible exact Ext.refl _ | refine Ext.app _ ?_)) vb hpp (oc.ext (by repeat first | with_reducible exact Ext.refl _ | refine Ext.app _ ?_)) (op.ext (by repeat first | with_reducible exact Ext.refl _ | refine Ext.app _ ?_)) (og.ext (by repeat first | with_reducible exact Ext.refl _ | refine Ext.app _ ?_)) (Ext.trans he (by repeat first | with_reducible exact Ext.refl _ | refine Ext.app _ ?_))

set_option maxRecDepth 10000 in
set_option maxHeartbeats 2000000 in
theorem ground_A1b {A B : Hor} {sa sb sg sp sc sm : AV} {W : AHeap} {ts : TS} {x y mm n2 n3 : Int} {nn : List Int} {b3 b4 b5 : Nat} (hlen : ts.length = 487) (t3 : slot ts 3 = .ptr b3 0) (t4 : slot ts 4 = .ptr b4 0) (t5 : slot ts 5 = .ptr b5 0) (t7 : slot ts 7 = .int .i64 x) (t8 : slot ts 8 = .int .i64 y) (t9 : slot ts 9 = sc) (t11 : slot ts 11 = sp) (t12 : slot ts 12 = sg) (t13 : slot ts 13 = .int .i64 (comS A B x).2)
    (t16 : slot ts 16 = .int .i64 mm) (t17 : slot ts 17 = sm)
    (m3 : W[b3]? = some (.cells [.str A.name, .int .i64 A.err, sa] true false)) (m4 : W[b4]? = some (.cells [.str B.name, .int .i64 B.err, sb] true false)) (m5 : W[b5]? = some (.cells (nn.map (AV.int .i8)) true false)) (hn4 : nn.length = 4) (e2' : nn[2]'(by omega) = n2) (e3' : nn[3]'(by omega) = n3) (hb2 : -128 ≤ n2 ∧ n2 ≤ 127) (hb3 : -128 ≤ n3 ∧ n3 ≤ 127) (hx : -128 ≤ x ∧ x ≤ 127) (hy : 0 ≤ y ∧ y ≤ 128)
    (oa : HorOk W A sa) (va : HorV A) (ob : HorOk W B sb) (vb : HorV B) (hpp : (placesS A B).length ≠ 0) (oc : IsSl W sc 1 ((cmpS A B x).map intRow)) (hmi : -y ≤ mm ∧ mm ≤ y) (hmn : ∀ s, -y ≤ s → s ≤ y → (cmpS A B mm).length ≤ (cmpS A B s).length) (om : IsSl W sm 1 ((cmpS A B mm).map intRow)) (op : IsSl W sp 1 ((placesS A B).map intRow)) (og : IsSl W sg 2 ((comS A B x).1.map ratRow)) (he : Ext h W) :
    WC P inFn (grT 10) [] ts W (FQ [(6, none)] fun v h' => Ext h h' ∧ v = .bool true) := by
  have q3 := (List.getElem?_eq_some_iff.1 m3).1
  have q4 := (List.getElem?_eq_some_iff.1 m4).1
  have q5 := (List.getElem?_eq_some_iff.1 m5).1
  have l3 : ∀ {n : Option Nat} {o : Nat} {kk : AHeap}, Ext W kk → loadF n (.ptr b3 o) (fun z => kk[z]?) = ldB n o (.cells [.str A.name, .int .i64 A.err, sa] true false) := fun e => loadF_at (e.some m3)
  have l4 : ∀ {n : Option Nat} {o : Nat} {kk : AHeap}, Ext W kk → loadF n (.ptr b4 o) (fun z => kk[z]?) = ldB n o (.cells [.str B.name, .int .i64 B.err, sb] true false) := fun e => loadF_at (e.some m4)
  have hle := va.le
  have hleb := vb.le
  have hle2 : A.picks.length ≤ 2 ^ 40 := by omega
  have hle3 : B.picks.length ≤ 2 ^ 40 := by omega
  have z0 : decide ((0 : Int) ≠ 0) = false := rfl
  have wy : IntKind.i64.wrap (0 - y) = -y := by rw [wrap_in (by omega) (by omega)]; omega
  have hc1 := chk_0 va vb hpp (x := mm) (lo := -1000) (by omega)
  obtain ⟨R, hR⟩ : ∃ R, R = grT 13 := ⟨_, rfl⟩
  rw [gr_10, ← hR]
  unfold gr fn11
  simp only [ICode.dr, ICode.tl, ICode.hd]
  repeat (first | simp (config := { maxSteps := 1000000 }) only [wset, hset, dset, bset, Nat.reduceAdd, Nat.reduceMul, Nat.reduceLeDiff, Nat.reduceEqDiff, pset, hlen, if_false, if_true, t3, t4, t16, l3, l4, oa.sl.one, ob.sl.one] | simp (config := { maxSteps := 1000000 }) (disch := first | (simp only [List.length_append, List.length_cons, List.length_nil] <;> omega) | rfl | omega | fail) only [kset, wset, hset, dset, bset, Nat.reduceAdd, Nat.reduceMul, Nat.reduceLeDiff, Nat.reduceEqDiff, pset, hlen, if_false, if_true, t3, t4, t16, l3, l4, oa.sl.one, ob.sl.one])
  refine WF.res T.c19 (r19 T (H := A) (oa.sl.ext (by repeat first | with_reducible exact Ext.refl _ | refine Ext.app _ ?_)) hle2) ?_
  rintro _ g1 ⟨s1, rfl, hs1⟩
  repeat (first | simp (config := { maxSteps := 1000000 }) only [wset, hset, dset, bset, Nat.reduceAdd, Nat.reduceMul, Nat.reduceLeDiff, Nat.reduceEqDiff, pset, hlen, if_false, if_true, t3, t4, t16, l3, l4, oa.sl.one, ob.sl.one] | simp (config := { maxSteps := 1000000 }) (disch := first | (simp only [List.length_append, List.length_cons, List.length_nil] <;> omega) | rfl | omega | fail) only [kset, wset, hset, dset, bset, Nat.reduceAdd, Nat.reduceMul, Nat.reduceLeDiff, Nat.reduceEqDiff, pset, hlen, if_false, if_true, t3, t4, t16, l3, l4, oa.sl.one, ob.sl.one])
  refine WF.res T.c19 (r19 T (H := B) (ob.sl.ext (by repeat first | with_reducible exact Ext.refl _ | refine Ext.app _ ?_)) hle3) ?_
  rintro _ g2 ⟨s2, rfl, hs2⟩
  repeat (first | simp (config := { maxSteps := 1000000 }) only [wset, hset, dset, bset, Nat.reduceAdd, Nat.reduceMul, Nat.reduceLeDiff, Nat.reduceEqDiff, pset, hlen, if_false, if_true, t3, t4, t16, l3, l4, oa.sl.one, ob.sl.one] | simp (config := { maxSteps := 1000000 }) (disch := first | (simp only [List.length_append, List.length_cons, List.length_nil] <;> omega) | rfl | omega | fail) only [kset, wset, hset, dset, bset, Nat.reduceAdd, Nat.reduceMul, Nat.reduceLeDiff, Nat.reduceEqDiff, pset, hlen, if_false, if_true, t3, t4, t16, l3, l4, oa.sl.one, ob.sl.one])
  refine WF.res T.c72 (r72 T (A := A) (B := B) ⟨hs1.isSl.ext (by repeat first | with_reducible exact Ext.refl _ | refine Ext.app _ ?_), oa.len, oa.nm⟩ ⟨hs2.isSl.ext (by repeat first | with_reducible exact Ext.refl _ | refine Ext.app _ ?_), ob.len, ob.nm⟩ mm) ?_
  rintro _ g3 ⟨sl, rfl, ol⟩
  rw [hc1, if_pos rfl] at ol
  rw [hc1]
  have key : ∀ {ts' : TS} {k : AHeap} (oth : Int), -y ≤ oth ∧ oth ≤ y → ts'.length = 487 → Ext (W ++ g1 ++ g2 ++ g3) k → slot ts' 3 = .ptr b3 0 → slot ts' 4 = .ptr b4 0 → slot ts' 5 = .ptr b5 0 → slot ts' 7 = .int .i64 x → slot ts' 8 = .int .i64 y → slot ts' 9 = sc → slot ts' 11 = sp → slot ts' 12 = sg → slot ts' 13 = .int .i64 (comS A B x).2 → slot ts' 16 = .int .i64 mm → slot ts' 17 = sm → slot ts' 19 = sl → slot ts' 20 = .int .i64 0 → slot ts' 21 = .int .i64 oth → WC P inFn R [] ts' k (FQ [(6, none)] fun v h' => Ext h h' ∧ v = .bool true) := by
    intro ts' k oth ho hl e' u3 u4 u5 u7 u8 u9 u11 u12 u13 u16 u17 u19 u20 u21
    have e : Ext W k := Ext.trans (by repeat first | with_reducible exact Ext.refl _ | refine Ext.app _ ?_) e'
    rw [hR]
    exact ground_A1c T (A := A) (B := B) (sa := sa) (sb := sb) (sg := sg) (sp := sp) (sc := sc) (x := x) (n2 := n2) (n3 := n3) (nn := nn) (b3 := b3) (b4 := b4) (b5 := b5) (y := y) (mm := mm) (oth := oth) (sm := sm) (sl := sl) hl u3 u4 u5 u7 u8 u9 u11 u12 u13 u16 u17 u19 u20 u21 (Ext.some e m3) (Ext.some e m4) (Ext.some e m5) hn4 e2' e3' hb2 hb3 hx (oa.ext e) va (ob.ext e) vb hpp (oc.ext e) (ol.ext e') (hmn oth ho.1 ho.2) (by omega) (om.ext e) (op.ext e) (og.ext e) (Ext.trans he e)
  by_cases c1 : x < -y
  · have c1' : decide (x < -y) = true := decide_eq_true c1
    repeat (first | simp (config := { maxSteps := 1000000 }) only [wset, hset, dset, bset, Nat.reduceAdd, Nat.reduceMul, Nat.reduceLeDiff, Nat.reduceEqDiff, pset, hlen, if_false, if_true, t7, t8, wy, c1'] | simp (config := { maxSteps := 1000000 }) (disch := first | (simp only [List.length_append, List.length_cons, List.length_nil] <;> omega) | rfl | omega | fail) only [kset, wset, hset, dset, bset, Nat.reduceAdd, Nat.reduceMul, Nat.reduceLeDiff, Nat.reduceEqDiff, pset, hlen, if_false, if_true, t7, t8, wy, c1'])
    exact key 0 (by omega) (by simp only [wset, hset, dset, bset, Nat.reduceAdd, Nat.reduceMul, Nat.reduceLeDiff, Nat.reduceEqDiff, pset, hlen, if_false, if_true, t3]) (by repeat first | with_reducible exact Ext.refl _ | refine Ext.app _ ?_) (by simp only [wset, hset, dset, bset, Nat.reduceAdd, Nat.reduceMul, Nat.reduceLeDiff, Nat.reduceEqDiff, pset, hlen, if_false, if_true, t3]) (by simp only [wset, hset, dset, bset, Nat.reduceAdd, Nat.reduceMul, Nat.reduceLeDiff, Nat.reduceEqDiff, pset, hlen, if_false, if_true, t4]) (by simp only [wset, hset, dset, bset, Nat.reduceAdd, Nat.reduceMul, Nat.reduceLeDiff, Nat.reduceEqDiff, pset, hlen, if_false, if_true, t5]) (by simp only [wset, hset, dset, bset, Nat.reduceAdd, Nat.reduceMul, Nat.reduceLeDiff, Nat.reduceEqDiff, pset, hlen, if_false, if_true, t7]) (by simp only [wset, hset, dset, bset, Nat.reduceAdd, Nat.reduceMul, Nat.reduceLeDiff, Nat.reduceEqDiff, pset, hlen, if_false, if_true, t8]) (by simp only [wset, hset, dset, bset, Nat.reduceAdd, Nat.reduceMul, Nat.reduceLeDiff, Nat.reduceEqDiff, pset, hlen, if_false, if_true, t9]) (by simp only [wset, hset, dset, bset, Nat.reduceAdd, Nat.reduceMul, Nat.reduceLeDiff, Nat.reduceEqDiff, pset, hlen, if_false, if_true, t11]) (by simp only [wset, hset, dset, bset, Nat.reduceAdd, Nat.reduceMul, Nat.reduceLeDiff, Nat.reduceEqDiff, pset, hlen, if_false, if_true, t12]) (by simp only [wset, hset, dset, bset, Nat.reduceAdd, Nat.reduceMul, Nat.reduceLeDiff, Nat.reduceEqDiff, pset, hlen, if_false, if_true, t13]) (by simp only [wset, hset, dset, bset, Nat.reduceAdd, Nat.reduceMul, Nat.reduceLeDiff, Nat.reduceEqDiff, pset, hlen, if_false, if_true, t16]) (by simp only [wset, hset, dset, bset, Nat.reduceAdd, Nat.reduceMul, Nat.reduceLeDiff, Nat.reduceEqDiff, pset, hlen, if_false, if_true, t17]) (by simp only [wset, hset, dset, bset, Nat.reduceAdd, Nat.reduceMul, Nat.reduceLeDiff, Nat.reduceEqDiff, pset, hlen, if_false, if_true, t3]) (by simp only [wset, hset, dset, bset, Nat.reduceAdd, Nat.reduceMul, Nat.reduceLeDiff, Nat.reduceEqDiff, pset, hlen, if_false, if_true, t3]) (by simp only [wset, hset, dset, bset, Nat.reduceAdd, Nat.reduceMul, Nat.reduceLeDiff, Nat.reduceEqDiff, pset, hlen, if_false, if_true, t3])
  · have c1' : decide (x < -y) = false := decide_eq_false c1
    by_cases c2 : y < x
    · have c2' : decide (y < x) = true := decide_eq_true c2
      repeat (first | simp (config := { maxSteps := 1000000 }) only [wset, hset, dset, bset, Nat.reduceAdd, Nat.reduceMul, Nat.reduceLeDiff, Nat.reduceEqDiff, pset, hlen, if_false, if_true, t7, t8, wy, c1', c2'] | simp (config := { maxSteps := 1000000 }) (disch := first | (simp only [List.length_append, List.length_cons, List.length_nil] <;> omega) | rfl | omega | fail) only [kset, wset, hset, dset, bset, Nat.reduceAdd, Nat.reduceMul, Nat.reduceLeDiff, Nat.reduceEqDiff, pset, hlen, if_false, if_true, t7, t8, wy, c1', c2'])
      exact key 0 (by omega) (by simp only [wset, hset, dset, bset, Nat.reduceAdd, Nat.reduceMul, Nat.reduceLeDiff, Nat.reduceEqDiff, pset, hlen, if_false, if_true, t3]) (by repeat first | with_reducible exact Ext.refl _ | refine Ext.app _ ?_) (by simp only [wset, hset, dset, bset, Nat.reduceAdd, Nat.reduceMul, Nat.reduceLeDiff, Nat.reduceEqDiff, pset, hlen, if_false, if_true, t3]) (by simp only [wset, hset, dset, bset, Nat.reduceAdd, Nat.reduceMul, Nat.reduceLeDiff, Nat.reduceEqDiff, pset, hlen, if_false, if_true, t4]) (by simp only [wset, hset, dset, bset, Nat.reduceAdd, Nat.reduceMul, Nat.reduceLeDiff, Nat.reduceEqDiff, pset, hlen, if_false, if_true, t5]) (by simp only [wset, hset, dset, bset, Nat.reduceAdd, Nat.reduceMul, Nat.reduceLeDiff, Nat.reduceEqDiff, pset, hlen, if_false, if_true, t7]) (by simp only [wset, hset, dset, bset, Nat.reduceAdd, Nat.reduceMul, Nat.reduceLeDiff, Nat.reduceEqDiff, pset, hlen, if_false, if_true, t8]) (by simp only [wset, hset, dset, bset, Nat.reduceAdd, Nat.reduceMul, Nat.reduceLeDiff, Nat.reduceEqDiff, pset, hlen, if_false, if_true, t9]) (by simp only [wset, hset, dset, bset, Nat.reduceAdd, Nat.reduceMul, Nat.reduceLeDiff, Nat.reduceEqDiff, pset, hlen, if_false, if_true, t11]) (by simp only [wset, hset, dset, bset, Nat.reduceAdd, Nat.reduceMul, Nat.reduceLeDiff, Nat.reduceEqDiff, pset, hlen, if_false, if_true, t12]) (by simp only [wset, hset, dset, bset, Nat.reduceAdd, Nat.reduceMul, Nat.reduceLeDiff, Nat.reduceEqDiff, pset, hlen, if_false, if_true, t13]) (by simp only [wset, hset, dset, bset, Nat.reduceAdd, Nat.reduceMul, Nat.reduceLeDiff, Nat.reduceEqDiff, pset, hlen, if_false, if_true, t16]) (by simp only [wset, hset, dset, bset, Nat.reduceAdd, Nat.reduceMul, Nat.reduceLeDiff, Nat.reduceEqDiff, pset, hlen, if_false, if_true, t17]) (by simp only [wset, hset, dset, bset, Nat.reduceAdd, Nat.reduceMul, Nat.reduceLeDiff, Nat.reduceEqDiff, pset, hlen, if_false, if_true, t3]) (by simp only [wset, hset, dset, bset, Nat.reduceAdd, Nat.reduceMul, Nat.reduceLeDiff, Nat.reduceEqDiff, pset, hlen, if_false, if_true, t3]) (by simp only [wset, hset, dset, bset, Nat.reduceAdd, Nat.reduceMul, Nat.reduceLeDiff, Nat.reduceEqDiff, pset, hlen, if_false, if_true, t3])
    · have c2' : decide (y < x) = false := decide_eq_false c2
      repeat (first | simp (config := { maxSteps := 1000000 }) only [wset, hset, dset, bset, Nat.reduceAdd, Nat.reduceMul, Nat.reduceLeDiff, Nat.reduceEqDiff, pset, hlen, if_false, if_true, t7, t8, wy, c1', c2'] | simp (config := { maxSteps := 1000000 }) (disch := first | (simp only [List.length_append, List.length_cons, List.length_nil] <;> omega) | rfl | omega | fail) only [kset, wset, hset, dset, bset, Nat.reduceAdd, Nat.reduceMul, Nat.reduceLeDiff, Nat.reduceEqDiff, pset, hlen, if_false, if_true, t7, t8, wy, c1', c2'])
      exact key x (by omega) (by simp only [wset, hset, dset, bset, Nat.reduceAdd, Nat.reduceMul, Nat.reduceLeDiff, Nat.reduceEqDiff, pset, hlen, if_false, if_true, t3]) (by repeat first | with_reducible exact Ext.refl _ | refine Ext.app _ ?_) (by simp only [wset, hset, dset, bset, Nat.reduceAdd, Nat.reduceMul, Nat.reduceLeDiff, Nat.reduceEqDiff, pset, hlen, if_false, if_true, t3]) (by simp only [wset, hset, dset, bset, Nat.reduceAdd, Nat.reduceMul, Nat.reduceLeDiff, Nat.reduceEqDiff, pset, hlen, if_false, if_true, t4]) (by simp only [wset, hset, dset, bset, Nat.reduceAdd, Nat.reduceMul, Nat.reduceLeDiff, Nat.reduceEqDiff, pset, hlen, if_false, if_true, t5]) (by simp only [wset, hset, dset, bset, Nat.reduceAdd, Nat.reduceMul, Nat.reduceLeDiff, Nat.reduceEqDiff, pset, hlen, if_false, if_true, t7]) (by simp only [wset, hset, dset, bset, Nat.reduceAdd, Nat.reduceMul, Nat.reduceLeDiff, Nat.reduceEqDiff, pset, hlen, if_false, if_true, t8]) (by simp only [wset, hset, dset, bset, Nat.reduceAdd, Nat.reduceMul, Nat.reduceLeDiff, Nat.reduceEqDiff, pset, hlen, if_false, if_true, t9]) (by simp only [wset, hset, dset, bset, Nat.reduceAdd, Nat.reduceMul, Nat.reduceLeDiff, Nat.reduceEqDiff, pset, hlen, if_false, if_true, t11]) (by simp only [wset, hset, dset, bset, Nat.reduceAdd, Nat.reduceMul, Nat.reduceLeDiff, Nat.reduceEqDiff, pset, hlen, if_false, if_true, t12]) (by simp only [wset, hset, dset, bset, Nat.reduceAdd, Nat.reduceMul, Nat.reduceLeDiff, Nat.reduceEqDiff, pset, hlen, if_false, if_true, t13]) (by simp only [wset, hset, dset, bset, Nat.reduceAdd, Nat.reduceMul, Nat.reduceLeDiff, Nat.reduceEqDiff, pset, hlen, if_false, if_true, t16]) (by simp only [wset, hset, dset, bset, Nat.reduceAdd, Nat.reduceMul, Nat.reduceLeDiff, Nat.reduceEqDiff, pset, hlen, if_false, if_true, t17]) (by simp only [wset, hset, dset, bset, Nat.reduceAdd, Nat.reduceMul, Nat.reduceLeDiff, Nat.reduceEqDiff, pset, hlen, if_false, if_true, t3]) (by simp only [wset, hset, dset, bset, Nat.reduceAdd, Nat.reduceMul, Nat.reduceLeDiff, Nat.reduceEqDiff, pset, hlen, if_false, if_true, t3]) (by simp only [wset, hset, dset, bset, Nat.reduceAdd, Nat.reduceMul, Nat.reduceLeDiff, Nat.reduceEqDiff, pset, hlen, if_false, if_true, t7])

set_option maxRecDepth 10000 in
set_option maxHeartbeats 2000000 in
theorem ground_A1 {A B : Hor} {sa sb sg sp sc sk sm : AV} {W : AHeap} {ts : TS} {x y mm n2 n3 : Int} {nn : List Int} {b3 b4 b5 : Nat} (hlen : ts.length = 487) (t3 : slot ts 3 = .ptr b3 0) (t4 : slot ts 4 = .ptr b4 0) (t5 : slot ts 5 = .ptr b5 0) (t7 : slot ts 7 = .int .i64 x) (t8 : slot ts 8 = .int .i64 y) (t9 : slot ts 9 = sc) (t11 : slot ts 11 = sp) (t12 : slot ts 12 = sg) (t13 : slot ts 13 = .int .i64 (comS A B x).2)
    (t10 : slot ts 10 = .int .i64 0) (t14 : slot ts 14 = sk) (t15 : slot ts 15 = .int .i64 0) (t16 : slot ts 16 = .int .i64 mm) (t17 : slot ts 17 = sm) (t18 : slot ts 18 = .int .i64 0)
    (m3 : W[b3]? = some (.cells [.str A.name, .int .i64 A.err, sa] true false)) (m4 : W[b4]? = some (.cells [.str B.name, .int .i64 B.err, sb] true false)) (m5 : W[b5]? = some (.cells (nn.map (AV.int .i8)) true false)) (hn4 : nn.length = 4) (e2' : nn[2]'(by omega) = n2) (e3' : nn[3]'(by omega) = n3) (hb2 : -128 ≤ n2 ∧ n2 ≤ 127) (hb3 : -128 ≤ n3 ∧ n3 ≤ 127) (hx : -128 ≤ x ∧ x ≤ 127) (hy : 0 ≤ y ∧ y ≤ 128)
    (oa : HorOk W A sa) (va : HorV A) (ob : HorOk W B sb) (vb : HorV B) (hpp : (placesS A B).length ≠ 0) (oc : IsSl W sc 1 ((cmpS A B x).map intRow)) (ok : IsSl W sk 1 ((cmpS A B x).map intRow)) (hmi : -y ≤ mm ∧ mm ≤ y) (hmn : ∀ s, -y ≤ s → s ≤ y → (cmpS A B mm).length ≤ (cmpS A B s).length) (om : IsSl W sm 1 ((cmpS A B mm).map intRow)) (op : IsSl W sp 1 ((placesS A B).map intRow)) (og : IsSl W sg 2 ((comS A B x).1.map ratRow)) (he : Ext h W) :
    WC P inFn (grT 9) [] ts W (FQ [(6, none)] fun v h' => Ext h h' ∧ v = .bool true) := by
  have q3 := (List.getElem?_eq_some_iff.1 m3).1
  have q4 := (List.getElem?_eq_some_iff.1 m4).1
  have q5 := (List.getElem?_eq_some_iff.1 m5).1
  have l3 : ∀ {n : Option Nat} {o : Nat} {kk : AHeap}, Ext W kk → loadF n (.ptr b3 o) (fun z => kk[z]?) = ldB n o (.cells [.str A.name, .int .i64 A.err, sa] true false) := fun e => loadF_at (e.some m3)
  have l4 : ∀ {n : Option Nat} {o : Nat} {kk : AHeap}, Ext W kk → loadF n (.ptr b4 o) (fun z => kk[z]?) = ldB n o (.cells [.str B.name, .int .i64 B.err, sb] true false) := fun e => loadF_at (e.some m4)
  have hle := va.le
  have hleb := vb.le
  have hle2 : A.picks.length ≤ 2 ^ 40 := by omega
  have hle3 : B.picks.length ≤ 2 ^ 40 := by omega
  have z0 : decide ((0 : Int) ≠ 0) = false := rfl
  have wy : IntKind.i64.wrap (0 - y) = -y := by rw [wrap_in (by omega) (by omega)]; omega
  have hcl2 := cmpS_len (A := A) (B := B) (s := x) va
  have c1 : decide (mm < -y) = false := decide_eq_false (by omega)
  have c2 : decide (y < mm) = false := decide_eq_false (by omega)
  obtain ⟨R, hR⟩ : ∃ R, R = grT 10 := ⟨_, rfl⟩
  rw [gr_9, ← hR]
  unfold gr fn11
  simp only [ICode.dr, ICode.tl, ICode.hd]
  have key : ∀ {ts' : TS} {k : AHeap}, ts'.length = 487 → Ext W k → slot ts' 3 = .ptr b3 0 → slot ts' 4 = .ptr b4 0 → slot ts' 5 = .ptr b5 0 → slot ts' 7 = .int .i64 x → slot ts' 8 = .int .i64 y → slot ts' 9 = sc → slot ts' 11 = sp → slot ts' 12 = sg → slot ts' 13 = .int .i64 (comS A B x).2 → slot ts' 16 = .int .i64 mm → slot ts' 17 = sm → WC P inFn R [] ts' k (FQ [(6, none)] fun v h' => Ext h h' ∧ v = .bool true) := by
    intro ts' k hl e u3 u4 u5 u7 u8 u9 u11 u12 u13 u16 u17
    rw [hR]
    exact ground_A1b T (A := A) (B := B) (sa := sa) (sb := sb) (sg := sg) (sp := sp) (sc := sc) (x := x) (n2 := n2) (n3 := n3) (nn := nn) (b3 := b3) (b4 := b4) (b5 := b5) (y := y) (mm := mm) (sm := sm) hl u3 u4 u5 u7 u8 u9 u11 u12 u13 u16 u17 (Ext.some e m3) (Ext.some e m4) (Ext.some e m5) hn4 e2' e3' hb2 hb3 hx hy (oa.ext e) va (ob.ext e) vb hpp (oc.ext e) hmi hmn (om.ext e) (op.ext e) (og.ext e) (Ext.trans he e)
  rcases com_err (A := A) (B := B) (s := x) with hc | hc
  · have t13' := t13
    rw [hc] at t13'
    have hcm := com_ok.1 hc
    repeat (first | simp (config := { maxSteps := 1000000 }) only [wset, hset, dset, bset, Nat.reduceAdd, Nat.reduceMul, Nat.reduceLeDiff, Nat.reduceEqDiff, pset, hlen, if_false, if_true, t9, t10, t14, t15, t18, z0] | simp (config := { maxSteps := 1000000 }) (disch := first | (simp only [List.length_append, List.length_cons, List.length_nil] <;> omega) | rfl | omega | fail) only [kset, wset, hset, dset, bset, Nat.reduceAdd, Nat.reduceMul, Nat.reduceLeDiff, Nat.reduceEqDiff, pset, hlen, if_false, if_true, t9, t10, t14, t15, t18, z0])
    refine WF.res T.c40 (r40 T (A := cmpS A B x) (B := cmpS A B x) (oc.ext (by repeat first | with_reducible exact Ext.refl _ | refine Ext.app _ ?_)) (ok.ext (by repeat first | with_reducible exact Ext.refl _ | refine Ext.app _ ?_)) (by omega)) ?_
    rintro _ g1 rfl
    have z2 : decide (((cmpS A B x).length : Int) = 0) = true := by rw [hcm]; rfl
    repeat (first | simp (config := { maxSteps := 1000000 }) only [wset, hset, dset, bset, Nat.reduceAdd, Nat.reduceMul, Nat.reduceLeDiff, Nat.reduceEqDiff, pset, hlen, if_false, if_true, t8, t9, t13', t16, z0, decide_true, Bool.not_true, oc.lenm, z2, wy, c1, c2, BEq.rfl, show decide ((0 : Int) = 0) = true from rfl, eqvF_t, eq_1b, show (true == true) = true from rfl] | simp (config := { maxSteps := 1000000 }) (disch := first | (simp only [List.length_append, List.length_cons, List.length_nil] <;> omega) | rfl | omega | fail) only [kset, wset, hset, dset, bset, Nat.reduceAdd, Nat.reduceMul, Nat.reduceLeDiff, Nat.reduceEqDiff, pset, hlen, if_false, if_true, t8, t9, t13', t16, z0, decide_true, Bool.not_true, oc.lenm, z2, wy, c1, c2, BEq.rfl, show decide ((0 : Int) = 0) = true from rfl, eqvF_t, eq_1b, show (true == true) = true from rfl])
    exact key (by simp only [wset, hset, dset, bset, Nat.reduceAdd, Nat.reduceMul, Nat.reduceLeDiff, Nat.reduceEqDiff, pset, hlen, if_false, if_true, t3]) (by repeat first | with_reducible exact Ext.refl _ | refine Ext.app _ ?_) (by simp only [wset, hset, dset, bset, Nat.reduceAdd, Nat.reduceMul, Nat.reduceLeDiff, Nat.reduceEqDiff, pset, hlen, if_false, if_true, t3]) (by simp only [wset, hset, dset, bset, Nat.reduceAdd, Nat.reduceMul, Nat.reduceLeDiff, Nat.reduceEqDiff, pset, hlen, if_false, if_true, t4]) (by simp only [wset, hset, dset, bset, Nat.reduceAdd, Nat.reduceMul, Nat.reduceLeDiff, Nat.reduceEqDiff, pset, hlen, if_false, if_true, t5]) (by simp only [wset, hset, dset, bset, Nat.reduceAdd, Nat.reduceMul, Nat.reduceLeDiff, Nat.reduceEqDiff, pset, hlen, if_false, if_true, t7]) (by simp only [wset, hset, dset, bset, Nat.reduceAdd, Nat.reduceMul, Nat.reduceLeDiff, Nat.reduceEqDiff, pset, hlen, if_false, if_true, t8]) (by simp only [wset, hset, dset, bset, Nat.reduceAdd, Nat.reduceMul, Nat.reduceLeDiff, Nat.reduceEqDiff, pset, hlen, if_false, if_true, t9]) (by simp only [wset, hset, dset, bset, Nat.reduceAdd, Nat.reduceMul, Nat.reduceLeDiff, Nat.reduceEqDiff, pset, hlen, if_false, if_true, t11]) (by simp only [wset, hset, dset, bset, Nat.reduceAdd, Nat.reduceMul, Nat.reduceLeDiff, Nat.reduceEqDiff, pset, hlen, if_false, if_true, t12]) (by simp only [wset, hset, dset, bset, Nat.reduceAdd, Nat.reduceMul, Nat.reduceLeDiff, Nat.reduceEqDiff, pset, hlen, if_false, if_true, t13]) (by simp only [wset, hset, dset, bset, Nat.reduceAdd, Nat.reduceMul, Nat.reduceLeDiff, Nat.reduceEqDiff, pset, hlen, if_false, if_true, t16]) (by simp only [wset, hset, dset, bset, Nat.reduceAdd, Nat.reduceMul, Nat.reduceLeDiff, Nat.reduceEqDiff, pset, hlen, if_false, if_true, t17])
  · have t13' := t13
    rw [hc] at t13'
    have hcm : cmpS A B x ≠ [] := fun h0 => by rw [com_ok.2 h0] at hc; exact absurd hc (by decide)
    repeat (first | simp (config := { maxSteps := 1000000 }) only [wset, hset, dset, bset, Nat.reduceAdd, Nat.reduceMul, Nat.reduceLeDiff, Nat.reduceEqDiff, pset, hlen, if_false, if_true, t9, t10, t14, t15, t18, z0] | simp (config := { maxSteps := 1000000 }) (disch := first | (simp only [List.length_append, List.length_cons, List.length_nil] <;> omega) | rfl | omega | fail) only [kset, wset, hset, dset, bset, Nat.reduceAdd, Nat.reduceMul, Nat.reduceLeDiff, Nat.reduceEqDiff, pset, hlen, if_false, if_true, t9, t10, t14, t15, t18, z0])
    refine WF.res T.c40 (r40 T (A := cmpS A B x) (B := cmpS A B x) (oc.ext (by repeat first | with_reducible exact Ext.refl _ | refine Ext.app _ ?_)) (ok.ext (by repeat first | with_reducible exact Ext.refl _ | refine Ext.app _ ?_)) (by omega)) ?_
    rintro _ g1 rfl
    have z2 : decide (((cmpS A B x).length : Int) = 0) = false := decide_eq_false fun h0 => hcm (List.length_eq_zero_iff.1 (by omega))
    repeat (first | simp (config := { maxSteps := 1000000 }) only [wset, hset, dset, bset, Nat.reduceAdd, Nat.reduceMul, Nat.reduceLeDiff, Nat.reduceEqDiff, pset, hlen, if_false, if_true, t8, t9, t13', t16, z0, decide_true, Bool.not_true, oc.lenm, z2, wy, c1, c2, show decide ((18 : Int) = 0) = false from rfl, show decide ((18 : Int) ≠ 0) = true from rfl, show decide ((18 : Int) ≠ 18) = false from rfl, eqvF_t, eq_1b, show (false == false) = true from rfl] | simp (config := { maxSteps := 1000000 }) (disch := first | (simp only [List.length_append, List.length_cons, List.length_nil] <;> omega) | rfl | omega | fail) only [kset, wset, hset, dset, bset, Nat.reduceAdd, Nat.reduceMul, Nat.reduceLeDiff, Nat.reduceEqDiff, pset, hlen, if_false, if_true, t8, t9, t13', t16, z0, decide_true, Bool.not_true, oc.lenm, z2, wy, c1, c2, show decide ((18 : Int) = 0) = false from rfl, show decide ((18 : Int) ≠ 0) = true from rfl, show decide ((18 : Int) ≠ 18) = false from rfl, eqvF_t, eq_1b, show (false == false) = true from rfl])
    exact key (by simp only [wset, hset, dset, bset, Nat.reduceAdd, Nat.reduceMul, Nat.reduceLeDiff, Nat.reduceEqDiff, pset, hlen, if_false, if_true, t3]) (by repeat first | with_reducible exact Ext.refl _ | refine Ext.app _ ?_) (by simp only [wset, hset, dset, bset, Nat.reduceAdd, Nat.reduceMul, Nat.reduceLeDiff, Nat.reduceEqDiff, pset, hlen, if_false, if_true, t3]) (by simp only [wset, hset, dset, bset, Nat.reduceAdd, Nat.reduceMul, Nat.reduceLeDiff, Nat.reduceEqDiff, pset, hlen, if_false, if_true, t4]) (by simp only [wset, hset, dset, bset, Nat.reduceAdd, Nat.reduceMul, Nat.reduceLeDiff, Nat.reduceEqDiff, pset, hlen, if_false, if_true, t5]) (by simp only [wset, hset, dset, bset, Nat.reduceAdd, Nat.reduceMul, Nat.reduceLeDiff, Nat.reduceEqDiff, pset, hlen, if_false, if_true, t7]) (by simp only [wset, hset, dset, bset, Nat.reduceAdd, Nat.reduceMul, Nat.reduceLeDiff, Nat.reduceEqDiff, pset, hlen, if_false, if_true, t8]) (by simp only [wset, hset, dset, bset, Nat.reduceAdd, Nat.reduceMul, Nat.reduceLeDiff, Nat.reduceEqDiff, pset, hlen, if_false, if_true, t9]) (by simp only [wset, hset, dset, bset, Nat.reduceAdd, Nat.reduceMul, Nat.reduceLeDiff, Nat.reduceEqDiff, pset, hlen, if_false, if_true, t11]) (by simp only [wset, hset, dset, bset, Nat.reduceAdd, Nat.reduceMul, Nat.reduceLeDiff, Nat.reduceEqDiff, pset, hlen, if_false, if_true, t12]) (by simp only [wset, hset, dset, bset, Nat.reduceAdd, Nat.reduceMul, Nat.reduceLeDiff, Nat.reduceEqDiff, pset, hlen, if_false, if_true, t13]) (by simp only [wset, hset, dset, bset, Nat.reduceAdd, Nat.reduceMul, Nat.reduceLeDiff, Nat.reduceEqDiff, pset, hlen, if_false, if_true, t16]) (by simp only [wset, hset, dset, bset, Nat.reduceAdd, Nat.reduceMul, Nat.reduceLeDiff, Nat.reduceEqDiff, pset, hlen, if_false, if_true, t17])
set_option maxRecDepth 10000 in
set_option maxHeartbeats 2000000 in
theorem ground_6 {A B : Hor} {sa sb sp sc : AV} {W : AHeap} {ts : TS} {x y n2 n3 : Int} {nn : List Int} {b3 b4 b5 : Nat} (hlen : ts.length = 487) (t3 : slot ts 3 = .ptr b3 0) (t4 : slot ts 4 = .ptr b4 0) (t5 : slot ts 5 = .ptr b5 0) (t7 : slot ts 7 = .int .i64 x) (t8 : slot ts 8 = .int .i64 y) (t9 : slot ts 9 = sc) (t10 : slot ts 10 = .int .i64 0) (t11 : slot ts 11 = sp)
    (m3 : W[b3]? = some (.cells [.str A.name, .int .i64 A.err, sa] true false)) (m4 : W[b4]? = some (.cells [.str B.name, .int .i64 B.err, sb] true false)) (m5 : W[b5]? = some (.cells (nn.map (AV.int .i8)) true false)) (hn4 : nn.length = 4) (e2' : nn[2]'(by omega) = n2) (e3' : nn[3]'(by omega) = n3) (hb2 : -128 ≤ n2 ∧ n2 ≤ 127) (hb3 : -128 ≤ n3 ∧ n3 ≤ 127) (hx : -128 ≤ x ∧ x ≤ 127) (hy : 0 ≤ y ∧ y ≤ 128)
    (oa : HorOk W A sa) (va : HorV A) (ob : HorOk W B sb) (vb : HorV B) (hpp : (placesS A B).length ≠ 0) (oc : IsSl W sc 1 ((cmpS A B x).map intRow)) (op : IsSl W sp 1 ((placesS A B).map intRow)) (he : Ext h W) :
    WC P inFn (grT 6) [] ts W (FQ [(6, none)] fun v h' => Ext h h' ∧ v = .bool true) := by
  have q3 := (List.getElem?_eq_some_iff.1 m3).1
  have q4 := (List.getElem?_eq_some_iff.1 m4).1
  have q5 := (List.getElem?_eq_some_iff.1 m5).1
  have l3 : ∀ {n : Option Nat} {o : Nat} {kk : AHeap}, Ext W kk → loadF n (.ptr b3 o) (fun z => kk[z]?) = ldB n o (.cells [.str A.name, .int .i64 A.err, sa] true false) := fun e => loadF_at (e.some m3)
  have l4 : ∀ {n : Option Nat} {o : Nat} {kk : AHeap}, Ext W kk → loadF n (.ptr b4 o) (fun z => kk[z]?) = ldB n o (.cells [.str B.name, .int .i64 B.err, sb] true false) := fun e => loadF_at (e.some m4)
  have hle := va.le
  have hleb := vb.le
  have hle2 : A.picks.length ≤ 2 ^ 40 := by omega
  have hle3 : B.picks.length ≤ 2 ^ 40 := by omega
  have z0 : decide ((0 : Int) ≠ 0) = false := rfl
  have wx : IntKind.i64.wrap (0 - x) = -x := by rw [wrap_in (by omega) (by omega)]; omega
  have hc1 := chk_0 va vb hpp (x := x) (lo := -1000) (by omega)
  have hc2 := chk_0 vb va (by rw [places_comm]; exact hpp) (x := -x) (lo := -1000) (by omega)
  have hc3 := chk_0 va vb hpp (x := y) (lo := 0) (by omega)
  have hmi := match_in (A := A) (B := B) hy.1
  have hmn : ∀ s, -y ≤ s → s ≤ y → (cmpS A B (matchM A B y)).length ≤ (cmpS A B s).length := fun s h1 h2 => match_min hy.1 h1 h2
  obtain ⟨R, hR⟩ : ∃ R, R = grT 9 := ⟨_, rfl⟩
  rw [gr_6, ← hR]
  unfold gr fn11
  simp only [ICode.dr, ICode.tl, ICode.hd]
  repeat (first | simp (config := { maxSteps := 1000000 }) only [wset, hset, dset, bset, Nat.reduceAdd, Nat.reduceMul, Nat.reduceLeDiff, Nat.reduceEqDiff, pset, hlen, if_false, if_true, t3, t4, t7, t8, l3, l4, oa.sl.one, ob.sl.one] | simp (config := { maxSteps := 1000000 }) (disch := first | (simp only [List.length_append, List.length_cons, List.length_nil] <;> omega) | rfl | omega | fail) only [kset, wset, hset, dset, bset, Nat.reduceAdd, Nat.reduceMul, Nat.reduceLeDiff, Nat.reduceEqDiff, pset, hlen, if_false, if_true, t3, t4, t7, t8, l3, l4, oa.sl.one, ob.sl.one])
  refine WF.res T.c19 (r19 T (H := A) (oa.sl.ext (by repeat first | with_reducible exact Ext.refl _ | refine Ext.app _ ?_)) hle2) ?_
  rintro _ g1 ⟨s1, rfl, hs1⟩
  repeat (first | simp (config := { maxSteps := 1000000 }) only [wset, hset, dset, bset, Nat.reduceAdd, Nat.reduceMul, Nat.reduceLeDiff, Nat.reduceEqDiff, pset, hlen, if_false, if_true, t3, t4, t7, t8, l3, l4, oa.sl.one, ob.sl.one] | simp (config := { maxSteps := 1000000 }) (disch := first | (simp only [List.length_append, List.length_cons, List.length_nil] <;> omega) | rfl | omega | fail) only [kset, wset, hset, dset, bset, Nat.reduceAdd, Nat.reduceMul, Nat.reduceLeDiff, Nat.reduceEqDiff, pset, hlen, if_false, if_true, t3, t4, t7, t8, l3, l4, oa.sl.one, ob.sl.one])
  refine WF.res T.c19 (r19 T (H := B) (ob.sl.ext (by repeat first | with_reducible exact Ext.refl _ | refine Ext.app _ ?_)) hle3) ?_
  rintro _ g2 ⟨s2, rfl, hs2⟩
  repeat (first | simp (config := { maxSteps := 1000000 }) only [wset, hset, dset, bset, Nat.reduceAdd, Nat.reduceMul, Nat.reduceLeDiff, Nat.reduceEqDiff, pset, hlen, if_false, if_true, t3, t4, t7, l3, l4] | simp (config := { maxSteps := 1000000 }) (disch := first | (simp only [List.length_append, List.length_cons, List.length_nil] <;> omega) | rfl | omega | fail) only [kset, wset, hset, dset, bset, Nat.reduceAdd, Nat.reduceMul, Nat.reduceLeDiff, Nat.reduceEqDiff, pset, hlen, if_false, if_true, t3, t4, t7, l3, l4])
  refine WF.res T.c74 (r74 T (A := A) (B := B) ⟨hs1.isSl.ext (by repeat first | with_reducible exact Ext.refl _ | refine Ext.app _ ?_), oa.len, oa.nm⟩ ⟨hs2.isSl.ext (by repeat first | with_reducible exact Ext.refl _ | refine Ext.app _ ?_), ob.len, ob.nm⟩ x) ?_
  rintro _ g3 ⟨sg, rfl, og⟩
  rw [hc1, if_pos rfl] at og
  rw [hc1, if_pos rfl]
  repeat (first | simp (config := { maxSteps := 1000000 }) only [wset, hset, dset, bset, Nat.reduceAdd, Nat.reduceMul, Nat.reduceLeDiff, Nat.reduceEqDiff, pset, hlen, if_false, if_true, t3, t4, t7, t8, l3, l4, oa.sl.one, ob.sl.one] | simp (config := { maxSteps := 1000000 }) (disch := first | (simp only [List.length_append, List.length_cons, List.length_nil] <;> omega) | rfl | omega | fail) only [kset, wset, hset, dset, bset, Nat.reduceAdd, Nat.reduceMul, Nat.reduceLeDiff, Nat.reduceEqDiff, pset, hlen, if_false, if_true, t3, t4, t7, t8, l3, l4, oa.sl.one, ob.sl.one])
  refine WF.res T.c19 (r19 T (H := B) (ob.sl.ext (by repeat first | with_reducible exact Ext.refl _ | refine Ext.app _ ?_)) hle3) ?_
  rintro _ g4 ⟨s3, rfl, hs3⟩
  repeat (first | simp (config := { maxSteps := 1000000 }) only [wset, hset, dset, bset, Nat.reduceAdd, Nat.reduceMul, Nat.reduceLeDiff, Nat.reduceEqDiff, pset, hlen, if_false, if_true, t3, t4, t7, t8, l3, l4, oa.sl.one, ob.sl.one] | simp (config := { maxSteps := 1000000 }) (disch := first | (simp only [List.length_append, List.length_cons, List.length_nil] <;> omega) | rfl | omega | fail) only [kset, wset, hset, dset, bset, Nat.reduceAdd, Nat.reduceMul, Nat.reduceLeDiff, Nat.reduceEqDiff, pset, hlen, if_false, if_true, t3, t4, t7, t8, l3, l4, oa.sl.one, ob.sl.one])
  refine WF.res T.c19 (r19 T (H := A) (oa.sl.ext (by repeat first | with_reducible exact Ext.refl _ | refine Ext.app _ ?_)) hle2) ?_
  rintro _ g5 ⟨s4, rfl, hs4⟩
  repeat (first | simp (config := { maxSteps := 1000000 }) only [wset, hset, dset, bset, Nat.reduceAdd, Nat.reduceMul, Nat.reduceLeDiff, Nat.reduceEqDiff, pset, hlen, if_false, if_true, t3, t4, t7, l3, l4, wx] | simp (config := { maxSteps := 1000000 }) (disch := first | (simp only [List.length_append, List.length_cons, List.length_nil] <;> omega) | rfl | omega | fail) only [kset, wset, hset, dset, bset, Nat.reduceAdd, Nat.reduceMul, Nat.reduceLeDiff, Nat.reduceEqDiff, pset, hlen, if_false, if_true, t3, t4, t7, l3, l4, wx])
  refine WF.res T.c72 (r72 T (A := B) (B := A) ⟨hs3.isSl.ext (by repeat first | with_reducible exact Ext.refl _ | refine Ext.app _ ?_), ob.len, ob.nm⟩ ⟨hs4.isSl.ext (by repeat first | with_reducible exact Ext.refl _ | refine Ext.app _ ?_), oa.len, oa.nm⟩ (-x)) ?_
  rintro _ g6 ⟨sk, rfl, ok⟩
  rw [hc2, if_pos rfl, cmp_comm] at ok
  rw [hc2]
  repeat (first | simp (config := { maxSteps := 1000000 }) only [wset, hset, dset, bset, Nat.reduceAdd, Nat.reduceMul, Nat.reduceLeDiff, Nat.reduceEqDiff, pset, hlen, if_false, if_true, t3, t4, t7, t8, l3, l4, oa.sl.one, ob.sl.one] | simp (config := { maxSteps := 1000000 }) (disch := first | (simp only [List.length_append, List.length_cons, List.length_nil] <;> omega) | rfl | omega | fail) only [kset, wset, hset, dset, bset, Nat.reduceAdd, Nat.reduceMul, Nat.reduceLeDiff, Nat.reduceEqDiff, pset, hlen, if_false, if_true, t3, t4, t7, t8, l3, l4, oa.sl.one, ob.sl.one])
  refine WF.res T.c19 (r19 T (H := A) (oa.sl.ext (by repeat first | with_reducible exact Ext.refl _ | refine Ext.app _ ?_)) hle2) ?_
  rintro _ g7 ⟨s5, rfl, hs5⟩
  repeat (first | simp (config := { maxSteps := 1000000 }) only [wset, hset, dset, bset, Nat.reduceAdd, Nat.reduceMul, Nat.reduceLeDiff, Nat.reduceEqDiff, pset, hlen, if_false, if_true, t3, t4, t7, t8, l3, l4, oa.sl.one, ob.sl.one] | simp (config := { maxSteps := 1000000 }) (disch := first | (simp only [List.length_append, List.length_cons, List.length_nil] <;> omega) | rfl | omega | fail) only [kset, wset, hset, dset, bset, Nat.reduceAdd, Nat.reduceMul, Nat.reduceLeDiff, Nat.reduceEqDiff, pset, hlen, if_false, if_true, t3, t4, t7, t8, l3, l4, oa.sl.one, ob.sl.one])
  refine WF.res T.c19 (r19 T (H := B) (ob.sl.ext (by repeat first | with_reducible exact Ext.refl _ | refine Ext.app _ ?_)) hle3) ?_
  rintro _ g8 ⟨s6, rfl, hs6⟩
  repeat (first | simp (config := { maxSteps := 1000000 }) only [wset, hset, dset, bset, Nat.reduceAdd, Nat.reduceMul, Nat.reduceLeDiff, Nat.reduceEqDiff, pset, hlen, if_false, if_true, t3, t4, t7, t8, l3, l4] | simp (config := { maxSteps := 1000000 }) (disch := first | (simp only [List.length_append, List.length_cons, List.length_nil] <;> omega) | rfl | omega | fail) only [kset, wset, hset, dset, bset, Nat.reduceAdd, Nat.reduceMul, Nat.reduceLeDiff, Nat.reduceEqDiff, pset, hlen, if_false, if_true, t3, t4, t7, t8, l3, l4])
  refine WF.res T.c73 (r73 T (A := A) (B := B) ⟨hs5.isSl.ext (by repeat first | with_reducible exact Ext.refl _ | refine Ext.app _ ?_), oa.len, oa.nm⟩ ⟨hs6.isSl.ext (by repeat first | with_reducible exact Ext.refl _ | refine Ext.app _ ?_), ob.len, ob.nm⟩ y) ?_
  rintro _ g9 ⟨sm, rfl, om⟩
  rw [hc3, if_pos rfl] at om
  rw [hc3, if_pos rfl]
  repeat (first | simp (config := { maxSteps := 1000000 }) only [wset, hset, dset, bset, Nat.reduceAdd, Nat.reduceMul, Nat.reduceLeDiff, Nat.reduceEqDiff, pset, hlen, if_false, if_true, t3, t4, t7, t8] | simp (config := { maxSteps := 1000000 }) (disch := first | (simp only [List.length_append, List.length_cons, List.length_nil] <;> omega) | rfl | omega | fail) only [kset, wset, hset, dset, bset, Nat.reduceAdd, Nat.reduceMul, Nat.reduceLeDiff, Nat.reduceEqDiff, pset, hlen, if_false, if_true, t3, t4, t7, t8])
  rw [hR]
  exact ground_A1 T (A := A) (B := B) (sa := sa) (sb := sb) (sg := sg) (sp := sp) (sc := sc) (sk := sk) (sm := sm) (x := x) (y := y) (mm := matchM A B y) (n2 := n2) (n3 := n3) (nn := nn) (b3 := b3) (b4 := b4) (b5 := b5) (by simp only [wset, hset, dset, bset, Nat.reduceAdd, Nat.reduceMul, Nat.reduceLeDiff, Nat.reduceEqDiff, pset, hlen, if_false, if_true, t3]) (by simp only [wset, hset, dset, bset, Nat.reduceAdd, Nat.reduceMul, Nat.reduceLeDiff, Nat.reduceEqDiff, pset, hlen, if_false, if_true, t3]) (by simp only [wset, hset, dset, bset, Nat.reduceAdd, Nat.reduceMul, Nat.reduceLeDiff, Nat.reduceEqDiff, pset, hlen, if_false, if_true, t4]) (by simp only [wset, hset, dset, bset, Nat.reduceAdd, Nat.reduceMul, Nat.reduceLeDiff, Nat.reduceEqDiff, pset, hlen, if_false, if_true, t5]) (by simp only [wset, hset, dset, bset, Nat.reduceAdd, Nat.reduceMul, Nat.reduceLeDiff, Nat.reduceEqDiff, pset, hlen, if_false, if_true, t7]) (by simp only [wset, hset, dset, bset, Nat.reduceAdd, Nat.reduceMul, Nat.reduceLeDiff, Nat.reduceEqDiff, pset, hlen, if_false, if_true, t8]) (by simp only [wset, hset, dset, bset, Nat.reduceAdd, Nat.reduceMul, Nat.reduceLeDiff, Nat.reduceEqDiff, pset, hlen, if_false, if_true, t9]) (by simp only [wset, hset, dset, bset, Nat.reduceAdd, Nat.reduceMul, Nat.reduceLeDiff, Nat.reduceEqDiff, pset, hlen, if_false, if_true, t11]) (by simp only [wset, hset, dset, bset, Nat.reduceAdd, Nat.reduceMul, Nat.reduceLeDiff, Nat.reduceEqDiff, pset, hlen, if_false, if_true, t3]) (by simp only [wset, hset, dset, bset, Nat.reduceAdd, Nat.reduceMul, Nat.reduceLeDiff, Nat.reduceEqDiff, pset, hlen, if_false, if_true, t3]) (by simp only [wset, hset, dset, bset, Nat.reduceAdd, Nat.reduceMul, Nat.reduceLeDiff, Nat.reduceEqDiff, pset, hlen, if_false, if_true, t10]) (by simp only [wset, hset, dset, bset, Nat.reduceAdd, Nat.reduceMul, Nat.reduceLeDiff, Nat.reduceEqDiff, pset, hlen, if_false, if_true, t3]) (by simp only [wset, hset, dset, bset, Nat.reduceAdd, Nat.reduceMul, Nat.reduceLeDiff, Nat.reduceEqDiff, pset, hlen, if_false, if_true, t3]) (by simp only [wset, hset, dset, bset, Nat.reduceAdd, Nat.reduceMul, Nat.reduceLeDiff, Nat.reduceEqDiff, pset, hlen, if_false, if_true, t3]) (by simp only [wset, hset, dset, bset, Nat.reduceAdd, Nat.reduceMul, Nat.reduceLeDiff, Nat.reduceEqDiff, pset, hlen, if_false, if_true, t3]) (by simp only [wset, hset, dset, bset, Nat.reduceAdd, Nat.reduceMul, Nat.reduceLeDiff, Nat.reduceEqDiff, pset, hlen, if_false, if_true, t3]) (Ext.some (by repeat first | with_reducible exact Ext.refl _ | refine Ext.app _ ?_) m3) (Ext.some (by repeat first | with_reducible exact Ext.refl _ | refine Ext.app _ ?_) m4) (Ext.some (by repeat first | with_reducible exact Ext.refl _ | refine Ext.app _ ?_) m5) hn4 e2' e3' hb2 hb3 hx hy (oa.ext (by repeat first | with_reducible exact Ext.refl _ | refine Ext.app _ ?_)) va (ob.ext (by repeat first | with_reducible exact Ext.refl _ | refine Ext.app _ ?_)) vb hpp (oc.ext (by repeat first | with_reducible exact Ext.refl _ | refine Ext.app _ ?_)) (ok.ext (by repeat first | with_reducible exact Ext.refl _ | refine Ext.app _ ?_)) hmi hmn (om.ext (by repeat first | with_reducible exact Ext.refl _ | refine Ext.app _ ?_)) (op.ext (by repeat first | with_reducible exact Ext.refl _ | refine Ext.app _ ?_)) (og.ext (by repeat first | with_reducible exact Ext.refl _ | refine Ext.app _ ?_)) (Ext.trans he (by repeat first | with_reducible exact Ext.refl _ | refine Ext.app _ ?_))

set_option maxRecDepth 10000 in
set_option maxHeartbeats 2000000 in
theorem ground_2 {A B : Hor} {sa sb : AV} {W : AHeap} {ts : TS} {x n1 n2 n3 : Int} {nn : List Int} {b3 b4 b5 : Nat} (hlen : ts.length = 487) (t3 : slot ts 3 = .ptr b3 0) (t4 : slot ts 4 = .ptr b4 0) (t5 : slot ts 5 = .ptr b5 0)
    (m3 : W[b3]? = some (.cells [.str A.name, .int .i64 A.err, sa] true false)) (m4 : W[b4]? = some (.cells [.str B.name, .int .i64 B.err, sb] true false)) (m5 : W[b5]? = some (.cells (nn.map (AV.int .i8)) true false)) (hn4 : nn.length = 4) (e0' : nn[0]'(by omega) = x) (e1' : nn[1]'(by omega) = n1) (e2' : nn[2]'(by omega) = n2) (e3' : nn[3]'(by omega) = n3) (hb1 : -128 ≤ n1 ∧ n1 ≤ 127) (hb2 : -128 ≤ n2 ∧ n2 ≤ 127) (hb3 : -128 ≤ n3 ∧ n3 ≤ 127) (hx : -128 ≤ x ∧ x ≤ 127)
    (oa : HorOk W A sa) (va : HorV A) (ob : HorOk W B sb) (vb : HorV B) (he : Ext h W) :
    WC P inFn (grT 2) [] ts W (FQ [(6, none)] fun v h' => Ext h h' ∧ v = .bool true) := by
  have q3 := (List.getElem?_eq_some_iff.1 m3).1
  have q4 := (List.getElem?_eq_some_iff.1 m4).1
  have q5 := (List.getElem?_eq_some_iff.1 m5).1
  have l3 : ∀ {n : Option Nat} {o : Nat} {kk : AHeap}, Ext W kk → loadF n (.ptr b3 o) (fun z => kk[z]?) = ldB n o (.cells [.str A.name, .int .i64 A.err, sa] true false) := fun e => loadF_at (e.some m3)
  have l4 : ∀ {n : Option Nat} {o : Nat} {kk : AHeap}, Ext W kk → loadF n (.ptr b4 o) (fun z => kk[z]?) = ldB n o (.cells [.str B.name, .int .i64 B.err, sb] true false) := fun e => loadF_at (e.some m4)
  have hle := va.le
  have hleb := vb.le
  have hle2 : A.picks.length ≤ 2 ^ 40 := by omega
  have hle3 : B.picks.length ≤ 2 ^ 40 := by omega
  have z0 : decide ((0 : Int) ≠ 0) = false := rfl
  have l5 : ∀ {n : Option Nat} {o : Nat} {kk : AHeap}, Ext W kk → loadF n (.ptr b5 o) (fun z => kk[z]?) = ldB n o (.cells (nn.map (AV.int .i8)) true false) := fun e => loadF_at (e.some m5)
  have v0 : (nn.map (AV.int .i8))[0]? = some (.int .i8 x) := by rw [List.getElem?_map, List.getElem?_eq_getElem (by omega), e0']; rfl
  have v1 : (nn.map (AV.int .i8))[1]? = some (.int .i8 n1) := by rw [List.getElem?_map, List.getElem?_eq_getElem (by omega), e1']; rfl
  have i0 : iadaF 4 1 (.ptr b5 0) (.int .i64 0) = some (.ptr b5 0) := iada_i4 (i := 0) (by decide)
  have i1 : iadaF 4 1 (.ptr b5 0) (.int .i64 1) = some (.ptr b5 1) := iada_i4 (i := 1) (by decide)
  have w0 : IntKind.i64.wrap x = x := wrap_in (by omega) (by omega)
  have w1 : IntKind.i64.wrap n1 = n1 := wrap_in (by omega) (by omega)
  have w2 : IntKind.i64.wrap (0 - n1) = -n1 := by rw [wrap_in (by omega) (by omega)]; omega
  obtain ⟨R, hR⟩ : ∃ R, R = grT 6 := ⟨_, rfl⟩
  rw [gr_2, ← hR]
  unfold gr fn11
  simp only [ICode.dr, ICode.tl, ICode.hd]
  repeat (first | simp (config := { maxSteps := 1000000 }) only [wset, hset, dset, bset, Nat.reduceAdd, Nat.reduceMul, Nat.reduceLeDiff, Nat.reduceEqDiff, pset, hlen, if_false, if_true, t3, t4, t5, l5, v0, v1, i0, i1, w0, w1, w2, l3, l4, oa.sl.one, ob.sl.one] | simp (config := { maxSteps := 1000000 }) (disch := first | (simp only [List.length_append, List.length_cons, List.length_nil] <;> omega) | rfl | omega | fail) only [kset, wset, hset, dset, bset, Nat.reduceAdd, Nat.reduceMul, Nat.reduceLeDiff, Nat.reduceEqDiff, pset, hlen, if_false, if_true, t3, t4, t5, l5, v0, v1, i0, i1, w0, w1, w2, l3, l4, oa.sl.one, ob.sl.one])
  refine WF.res T.c19 (r19 T (H := A) (oa.sl.ext (by repeat first | with_reducible exact Ext.refl _ | refine Ext.app _ ?_)) hle2) ?_
  rintro _ g1 ⟨s1, rfl, hs1⟩
  repeat (first | simp (config := { maxSteps := 1000000 }) only [wset, hset, dset, bset, Nat.reduceAdd, Nat.reduceMul, Nat.reduceLeDiff, Nat.reduceEqDiff, pset, hlen, if_false, if_true, t3, t4, t5, l5, v0, v1, i0, i1, w0, w1, w2, l3, l4, oa.sl.one, ob.sl.one] | simp (config := { maxSteps := 1000000 }) (disch := first | (simp only [List.length_append, List.length_cons, List.length_nil] <;> omega) | rfl | omega | fail) only [kset, wset, hset, dset, bset, Nat.reduceAdd, Nat.reduceMul, Nat.reduceLeDiff, Nat.reduceEqDiff, pset, hlen, if_false, if_true, t3, t4, t5, l5, v0, v1, i0, i1, w0, w1, w2, l3, l4, oa.sl.one, ob.sl.one])
  refine WF.res T.c19 (r19 T (H := B) (ob.sl.ext (by repeat first | with_reducible exact Ext.refl _ | refine Ext.app _ ?_)) hle3) ?_
  rintro _ g2 ⟨s2, rfl, hs2⟩
  repeat (first | simp (config := { maxSteps := 1000000 }) only [wset, hset, dset, bset, Nat.reduceAdd, Nat.reduceMul, Nat.reduceLeDiff, Nat.reduceEqDiff, pset, hlen, if_false, if_true, t3, t4, t5] | simp (config := { maxSteps := 1000000 }) (disch := first | (simp only [List.length_append, List.length_cons, List.length_nil] <;> omega) | rfl | omega | fail) only [kset, wset, hset, dset, bset, Nat.reduceAdd, Nat.reduceMul, Nat.reduceLeDiff, Nat.reduceEqDiff, pset, hlen, if_false, if_true, t3, t4, t5])
  refine WF.res T.c72 (r72 T (A := A) (B := B) ⟨hs1.isSl.ext (by repeat first | with_reducible exact Ext.refl _ | refine Ext.app _ ?_), oa.len, oa.nm⟩ ⟨hs2.isSl.ext (by repeat first | with_reducible exact Ext.refl _ | refine Ext.app _ ?_), ob.len, ob.nm⟩ x) ?_
  rintro _ g3 ⟨sc, rfl, oc⟩
  repeat (first | simp (config := { maxSteps := 1000000 }) only [wset, hset, dset, bset, Nat.reduceAdd, Nat.reduceMul, Nat.reduceLeDiff, Nat.reduceEqDiff, pset, hlen, if_false, if_true, t3, t4, t5, l3, l4, oa.sl.one, ob.sl.one] | simp (config := { maxSteps := 1000000 }) (disch := first | (simp only [List.length_append, List.length_cons, List.length_nil] <;> omega) | rfl | omega | fail) only [kset, wset, hset, dset, bset, Nat.reduceAdd, Nat.reduceMul, Nat.reduceLeDiff, Nat.reduceEqDiff, pset, hlen, if_false, if_true, t3, t4, t5, l3, l4, oa.sl.one, ob.sl.one])
  refine WF.res T.c75 (r75 T (A := A) (B := B) (oa.ext (by repeat first | with_reducible exact Ext.refl _ | refine Ext.app _ ?_)) (ob.ext (by repeat first | with_reducible exact Ext.refl _ | refine Ext.app _ ?_)) va vb) ?_
  rintro sp g4 op
  by_cases hpp : (placesS A B).length = 0
  · have h7 : chkShS A B x (-1000) = 7 := by
      have h0 : shiftE A B x (-1000) = 0 := firstS_zero.2 fun y hy => by
        simp only [List.mem_cons, List.not_mem_nil, or_false] at hy
        rcases hy with rfl | rfl
        · refine firstS_zero.2 fun y hy => ?_
          simp only [List.mem_cons, List.not_mem_nil, or_false] at hy
          rcases hy with rfl | rfl
          · exact horV_iff.2 va
          · exact horV_iff.2 vb
        · exact rangeS_zero.2 (by omega)
      unfold chkShS
      rw [if_pos h0, decide_eq_false (show ¬ 0 < (placesS A B).length by omega)]; rfl
    have dz : decide (((placesS A B).length : Int) = 0) = true := decide_eq_true (by omega)
    rw [h7]
    repeat (first | simp (config := { maxSteps := 1000000 }) only [wset, hset, dset, bset, Nat.reduceAdd, Nat.reduceMul, Nat.reduceLeDiff, Nat.reduceEqDiff, pset, hlen, if_false, if_true, t3, t4, t5, op.isSl.lenm, dz, show decide ((7 : Int) = 7) = true from rfl, decide_true] | simp (config := { maxSteps := 1000000 }) (disch := first | (simp only [List.length_append, List.length_cons, List.length_nil] <;> omega) | rfl | omega | fail) only [kset, wset, hset, dset, bset, Nat.reduceAdd, Nat.reduceMul, Nat.reduceLeDiff, Nat.reduceEqDiff, pset, hlen, if_false, if_true, t3, t4, t5, op.isSl.lenm, dz, show decide ((7 : Int) = 7) = true from rfl, decide_true])
    exact ⟨Ext.trans he (by repeat first | with_reducible exact Ext.refl _ | refine Ext.app _ ?_), trivial⟩
  · have hc1 := chk_0 va vb hpp (x := x) (lo := -1000) (by omega)
    rw [hc1, if_pos rfl] at oc
    rw [hc1]
    have dz : decide (((placesS A B).length : Int) = 0) = false := decide_eq_false (by omega)
    repeat (first | simp (config := { maxSteps := 1000000 }) only [wset, hset, dset, bset, Nat.reduceAdd, Nat.reduceMul, Nat.reduceLeDiff, Nat.reduceEqDiff, pset, hlen, if_false, if_true, t3, t4, t5, op.isSl.lenm, dz] | simp (config := { maxSteps := 1000000 }) (disch := first | (simp only [List.length_append, List.length_cons, List.length_nil] <;> omega) | rfl | omega | fail) only [kset, wset, hset, dset, bset, Nat.reduceAdd, Nat.reduceMul, Nat.reduceLeDiff, Nat.reduceEqDiff, pset, hlen, if_false, if_true, t3, t4, t5, op.isSl.lenm, dz])
    rw [hR]
    exact ground_6 T (A := A) (B := B) (sa := sa) (sb := sb) (sp := sp) (sc := sc) (x := x) (y := max n1 (-n1)) (n2 := n2) (n3 := n3) (nn := nn) (b3 := b3) (b4 := b4) (b5 := b5) (by simp only [wset, hset, dset, bset, Nat.reduceAdd, Nat.reduceMul, Nat.reduceLeDiff, Nat.reduceEqDiff, pset, hlen, if_false, if_true, t3]) (by simp only [wset, hset, dset, bset, Nat.reduceAdd, Nat.reduceMul, Nat.reduceLeDiff, Nat.reduceEqDiff, pset, hlen, if_false, if_true, t3]) (by simp only [wset, hset, dset, bset, Nat.reduceAdd, Nat.reduceMul, Nat.reduceLeDiff, Nat.reduceEqDiff, pset, hlen, if_false, if_true, t4]) (by simp only [wset, hset, dset, bset, Nat.reduceAdd, Nat.reduceMul, Nat.reduceLeDiff, Nat.reduceEqDiff, pset, hlen, if_false, if_true, t5]) (by simp only [wset, hset, dset, bset, Nat.reduceAdd, Nat.reduceMul, Nat.reduceLeDiff, Nat.reduceEqDiff, pset, hlen, if_false, if_true, t3]) (by simp only [wset, hset, dset, bset, Nat.reduceAdd, Nat.reduceMul, Nat.reduceLeDiff, Nat.reduceEqDiff, pset, hlen, if_false, if_true, t3]) (by simp only [wset, hset, dset, bset, Nat.reduceAdd, Nat.reduceMul, Nat.reduceLeDiff, Nat.reduceEqDiff, pset, hlen, if_false, if_true, t3]) (by simp only [wset, hset, dset, bset, Nat.reduceAdd, Nat.reduceMul, Nat.reduceLeDiff, Nat.reduceEqDiff, pset, hlen, if_false, if_true, t3]) (by simp only [wset, hset, dset, bset, Nat.reduceAdd, Nat.reduceMul, Nat.reduceLeDiff, Nat.reduceEqDiff, pset, hlen, if_false, if_true, t3]) (Ext.some (by repeat first | with_reducible exact Ext.refl _ | refine Ext.app _ ?_) m3) (Ext.some (by repeat first | with_reducible exact Ext.refl _ | refine Ext.app _ ?_) m4) (Ext.some (by repeat first | with_reducible exact Ext.refl _ | refine Ext.app _ ?_) m5) hn4 e2' e3' hb2 hb3 hx (by omega) (oa.ext (by repeat first | with_reducible exact Ext.refl _ | refine Ext.app _ ?_)) va (ob.ext (by repeat first | with_reducible exact Ext.refl _ | refine Ext.app _ ?_)) vb hpp (oc.ext (by repeat first | with_reducible exact Ext.refl _ | refine Ext.app _ ?_)) (op.isSl.ext (by repeat first | with_reducible exact Ext.refl _ | refine Ext.app _ ?_)) (Ext.trans he (by repeat first | with_reducible exact Ext.refl _ | refine Ext.app _ ?_))

set_option maxRecDepth 10000 in
set_option maxHeartbeats 2000000 in
theorem r11 (haw : ∀ k, Ext h k → RCall P 15 [] k (fun v _ => v = .bool true)) {A B : Hor} {sa sb : AV} (oa : HorOk h A sa) (ob : HorOk h B sb) {nn : List Int} (hn4 : nn.length = 4) (hnb : ∀ y ∈ nn, -128 ≤ y ∧ y ≤ 127) :
    RCall P 11 [horA A sa, horA B sb, .agg (nn.map (AV.int .i8))] h (fun v _ => v = .bool true) := by
  have hone : (nn.map (AV.int .i8)).all AV.one = true := by
    rw [List.all_eq_true]; intro y hy; obtain ⟨z, _, rfl⟩ := List.mem_map.1 hy; rfl
  refine .of T.mix (Eq.trans T.c11 (congrArg some gr_0)) ?_
  obtain ⟨R, hR⟩ : ∃ R, R = grT 2 := ⟨_, rfl⟩
  rw [← hR]
  obtain ⟨ts, hts⟩ : ∃ ts, ts = startTS 487 [horA A sa, horA B sb, .agg (nn.map (AV.int .i8))] := ⟨_, rfl⟩
  have hlen : ts.length = 487 := by rw [hts]; rfl
  have t0 : slot ts 0 = horA A sa := by rw [hts]; rfl
  have t1 : slot ts 1 = horA B sb := by rw [hts]; rfl
  have t2 : slot ts 2 = .agg (nn.map (AV.int .i8)) := by rw [hts]; rfl
  show WC P inFn _ [] (startTS 487 [horA A sa, horA B sb, .agg (nn.map (AV.int .i8))]) h _
  rw [← hts]
  clear hts
  unfold gr fn11
  simp only [ICode.dr, ICode.tl, ICode.hd]
  repeat (first | simp (config := { maxSteps := 1000000 }) only [wset, hset, dset, bset, Nat.reduceAdd, Nat.reduceMul, Nat.reduceLeDiff, Nat.reduceEqDiff, pset, hlen, if_false, if_true, t0, t1, t2, oa.sl.one, ob.sl.one, hone, box_agg] | simp (config := { maxSteps := 1000000 }) (disch := first | (simp only [List.length_append, List.length_cons, List.length_nil] <;> omega) | rfl | omega | fail) only [kset, wset, hset, dset, bset, Nat.reduceAdd, Nat.reduceMul, Nat.reduceLeDiff, Nat.reduceEqDiff, pset, hlen, if_false, if_true, t0, t1, t2, oa.sl.one, ob.sl.one, hone, box_agg])
  refine WF.res T.c15 (haw _ (by repeat first | with_reducible exact Ext.refl _ | refine Ext.app _ ?_)) ?_
  rintro _ g1 rfl
  have z0 : decide ((0 : Int) ≠ 0) = false := rfl
  repeat (first | simp (config := { maxSteps := 1000000 }) only [wset, hset, dset, bset, Nat.reduceAdd, Nat.reduceMul, Nat.reduceLeDiff, Nat.reduceEqDiff, pset, hlen, if_false, if_true, oa.sl.one, ob.sl.one, Bool.not_true] | simp (config := { maxSteps := 1000000 }) (disch := first | (simp only [List.length_append, List.length_cons, List.length_nil] <;> omega) | rfl | omega | fail) only [kset, wset, hset, dset, bset, Nat.reduceAdd, Nat.reduceMul, Nat.reduceLeDiff, Nat.reduceEqDiff, pset, hlen, if_false, if_true, oa.sl.one, ob.sl.one, Bool.not_true])
  refine WF.res T.c16 (r16 T (H := A) (oa.sl.ext (by repeat first | with_reducible exact Ext.refl _ | refine Ext.app _ ?_))) ?_
  rintro _ g2 rfl
  cases hsh : shortS A with
  | false =>
    repeat (first | simp (config := { maxSteps := 1000000 }) only [wset, hset, dset, bset, Nat.reduceAdd, Nat.reduceMul, Nat.reduceLeDiff, Nat.reduceEqDiff, pset, hlen, if_false, if_true, Bool.not_false] | simp (config := { maxSteps := 1000000 }) (disch := first | (simp only [List.length_append, List.length_cons, List.length_nil] <;> omega) | rfl | omega | fail) only [kset, wset, hset, dset, bset, Nat.reduceAdd, Nat.reduceMul, Nat.reduceLeDiff, Nat.reduceEqDiff, pset, hlen, if_false, if_true, Bool.not_false])
    refine WF.res T.c15 (haw _ (by repeat first | with_reducible exact Ext.refl _ | refine Ext.app _ ?_)) ?_
    rintro _ g3 rfl
    repeat (first | simp (config := { maxSteps := 1000000 }) only [wset, hset, dset, bset, Nat.reduceAdd, Nat.reduceMul, Nat.reduceLeDiff, Nat.reduceEqDiff, pset, hlen, if_false, if_true, t0] | simp (config := { maxSteps := 1000000 }) (disch := first | (simp only [List.length_append, List.length_cons, List.length_nil] <;> omega) | rfl | omega | fail) only [kset, wset, hset, dset, bset, Nat.reduceAdd, Nat.reduceMul, Nat.reduceLeDiff, Nat.reduceEqDiff, pset, hlen, if_false, if_true, t0])
  | true =>
  repeat (first | simp (config := { maxSteps := 1000000 }) only [wset, hset, dset, bset, Nat.reduceAdd, Nat.reduceMul, Nat.reduceLeDiff, Nat.reduceEqDiff, pset, hlen, if_false, if_true, oa.sl.one, ob.sl.one, Bool.not_true] | simp (config := { maxSteps := 1000000 }) (disch := first | (simp only [List.length_append, List.length_cons, List.length_nil] <;> omega) | rfl | omega | fail) only [kset, wset, hset, dset, bset, Nat.reduceAdd, Nat.reduceMul, Nat.reduceLeDiff, Nat.reduceEqDiff, pset, hlen, if_false, if_true, oa.sl.one, ob.sl.one, Bool.not_true])
  refine WF.res T.c16 (r16 T (H := B) (ob.sl.ext (by repeat first | with_reducible exact Ext.refl _ | refine Ext.app _ ?_))) ?_
  rintro _ g3 rfl
  cases hsb : shortS B with
  | false =>
    repeat (first | simp (config := { maxSteps := 1000000 }) only [wset, hset, dset, bset, Nat.reduceAdd, Nat.reduceMul, Nat.reduceLeDiff, Nat.reduceEqDiff, pset, hlen, if_false, if_true, Bool.not_false] | simp (config := { maxSteps := 1000000 }) (disch := first | (simp only [List.length_append, List.length_cons, List.length_nil] <;> omega) | rfl | omega | fail) only [kset, wset, hset, dset, bset, Nat.reduceAdd, Nat.reduceMul, Nat.reduceLeDiff, Nat.reduceEqDiff, pset, hlen, if_false, if_true, Bool.not_false])
    refine WF.res T.c15 (haw _ (by repeat first | with_reducible exact Ext.refl _ | refine Ext.app _ ?_)) ?_
    rintro _ g4 rfl
    repeat (first | simp (config := { maxSteps := 1000000 }) only [wset, hset, dset, bset, Nat.reduceAdd, Nat.reduceMul, Nat.reduceLeDiff, Nat.reduceEqDiff, pset, hlen, if_false, if_true, t0] | simp (config := { maxSteps := 1000000 }) (disch := first | (simp only [List.length_append, List.length_cons, List.length_nil] <;> omega) | rfl | omega | fail) only [kset, wset, hset, dset, bset, Nat.reduceAdd, Nat.reduceMul, Nat.reduceLeDiff, Nat.reduceEqDiff, pset, hlen, if_false, if_true, t0])
  | true =>
  repeat (first | simp (config := { maxSteps := 1000000 }) only [wset, hset, dset, bset, Nat.reduceAdd, Nat.reduceMul, Nat.reduceLeDiff, Nat.reduceEqDiff, pset, hlen, if_false, if_true, oa.sl.one, ob.sl.one, Bool.not_true] | simp (config := { maxSteps := 1000000 }) (disch := first | (simp only [List.length_append, List.length_cons, List.length_nil] <;> omega) | rfl | omega | fail) only [kset, wset, hset, dset, bset, Nat.reduceAdd, Nat.reduceMul, Nat.reduceLeDiff, Nat.reduceEqDiff, pset, hlen, if_false, if_true, oa.sl.one, ob.sl.one, Bool.not_true])
  refine WF.res T.c21 (r21 T (H := A) (oa.sl.ext (by repeat first | with_reducible exact Ext.refl _ | refine Ext.app _ ?_)) oa.len oa.nm) ?_
  rintro _ g4 rfl
  repeat (first | simp (config := { maxSteps := 1000000 }) only [wset, hset, dset, bset, Nat.reduceAdd, Nat.reduceMul, Nat.reduceLeDiff, Nat.reduceEqDiff, pset, hlen, if_false, if_true, oa.sl.one, ob.sl.one] | simp (config := { maxSteps := 1000000 }) (disch := first | (simp only [List.length_append, List.length_cons, List.length_nil] <;> omega) | rfl | omega | fail) only [kset, wset, hset, dset, bset, Nat.reduceAdd, Nat.reduceMul, Nat.reduceLeDiff, Nat.reduceEqDiff, pset, hlen, if_false, if_true, oa.sl.one, ob.sl.one])
  refine WF.res T.c21 (r21 T (H := B) (ob.sl.ext (by repeat first | with_reducible exact Ext.refl _ | refine Ext.app _ ?_)) ob.len ob.nm) ?_
  rintro _ g5 rfl
  repeat (first | simp (config := { maxSteps := 1000000 }) only [wset, hset, dset, bset, Nat.reduceAdd, Nat.reduceMul, Nat.reduceLeDiff, Nat.reduceEqDiff, pset, hlen, if_false, if_true, oa.sl.one, ob.sl.one] | simp (config := { maxSteps := 1000000 }) (disch := first | (simp only [List.length_append, List.length_cons, List.length_nil] <;> omega) | rfl | omega | fail) only [kset, wset, hset, dset, bset, Nat.reduceAdd, Nat.reduceMul, Nat.reduceLeDiff, Nat.reduceEqDiff, pset, hlen, if_false, if_true, oa.sl.one, ob.sl.one])
  refine WF.res T.c33 (r33 T (isSl_ints [_, _]) (by simp)) ?_
  rintro _ g6 rfl
  by_cases hf : firstS [chkHorS A, chkHorS B] = 0
  case neg =>
    have d1 := decide_eq_true (p := ¬ firstS [chkHorS A, chkHorS B] = 0) hf
    repeat (first | simp (config := { maxSteps := 1000000 }) only [wset, hset, dset, bset, Nat.reduceAdd, Nat.reduceMul, Nat.reduceLeDiff, Nat.reduceEqDiff, pset, hlen, if_false, if_true, ne_eq, d1] | simp (config := { maxSteps := 1000000 }) (disch := first | (simp only [List.length_append, List.length_cons, List.length_nil] <;> omega) | rfl | omega | fail) only [kset, wset, hset, dset, bset, Nat.reduceAdd, Nat.reduceMul, Nat.reduceLeDiff, Nat.reduceEqDiff, pset, hlen, if_false, if_true, ne_eq, d1])
    refine WF.res T.c15 (haw _ (by repeat first | with_reducible exact Ext.refl _ | refine Ext.app _ ?_)) ?_
    rintro _ g7 rfl
    repeat (first | simp (config := { maxSteps := 1000000 }) only [wset, hset, dset, bset, Nat.reduceAdd, Nat.reduceMul, Nat.reduceLeDiff, Nat.reduceEqDiff, pset, hlen, if_false, if_true, t0] | simp (config := { maxSteps := 1000000 }) (disch := first | (simp only [List.length_append, List.length_cons, List.length_nil] <;> omega) | rfl | omega | fail) only [kset, wset, hset, dset, bset, Nat.reduceAdd, Nat.reduceMul, Nat.reduceLeDiff, Nat.reduceEqDiff, pset, hlen, if_false, if_true, t0])
    exact ⟨by repeat first | with_reducible exact Ext.refl _ | refine Ext.app _ ?_, trivial⟩
  have hz := firstS_zero.1 hf
  have va := horV_iff.1 (hz (chkHorS A) (by simp))
  have vb := horV_iff.1 (hz (chkHorS B) (by simp))
  have d1 := decide_eq_false (p := ¬ firstS [chkHorS A, chkHorS B] = 0) (fun z => z hf)
  repeat (first | simp (config := { maxSteps := 1000000 }) only [wset, hset, dset, bset, Nat.reduceAdd, Nat.reduceMul, Nat.reduceLeDiff, Nat.reduceEqDiff, pset, hlen, if_false, if_true, ne_eq, d1] | simp (config := { maxSteps := 1000000 }) (disch := first | (simp only [List.length_append, List.length_cons, List.length_nil] <;> omega) | rfl | omega | fail) only [kset, wset, hset, dset, bset, Nat.reduceAdd, Nat.reduceMul, Nat.reduceLeDiff, Nat.reduceEqDiff, pset, hlen, if_false, if_true, ne_eq, d1])
  rw [hR]
  have b0 := hnb _ (List.getElem_mem (show 0 < nn.length by omega))
  have b1 := hnb _ (List.getElem_mem (show 1 < nn.length by omega))
  have b2 := hnb _ (List.getElem_mem (show 2 < nn.length by omega))
  have b3 := hnb _ (List.getElem_mem (show 3 < nn.length by omega))
  refine ground_2 T (A := A) (B := B) (sa := sa) (sb := sb) (x := nn[0]'(by omega)) (n1 := nn[1]'(by omega)) (n2 := nn[2]'(by omega)) (n3 := nn[3]'(by omega)) (nn := nn) (b3 := ?b3) (b4 := ?b4) (b5 := ?b5) (by simp only [wset, hset, dset, bset, Nat.reduceAdd, Nat.reduceMul, Nat.reduceLeDiff, Nat.reduceEqDiff, pset, hlen, if_false, if_true, t0]) ?k3 ?k4 ?k5 ?m3 ?m4 ?m5 hn4 rfl rfl rfl rfl b1 b2 b3 b0 (oa.ext (by repeat first | with_reducible exact Ext.refl _ | refine Ext.app _ ?_)) va (ob.ext (by repeat first | with_reducible exact Ext.refl _ | refine Ext.app _ ?_)) vb (by repeat first | with_reducible exact Ext.refl _ | refine Ext.app _ ?_)
  case k3 => simp only [wset, hset, dset, bset, Nat.reduceAdd, Nat.reduceMul, Nat.reduceLeDiff, Nat.reduceEqDiff, pset, hlen, if_false, if_true, t0]; rfl
  case k4 => simp only [wset, hset, dset, bset, Nat.reduceAdd, Nat.reduceMul, Nat.reduceLeDiff, Nat.reduceEqDiff, pset, hlen, if_false, if_true, t0]; rfl
  case k5 => simp only [wset, hset, dset, bset, Nat.reduceAdd, Nat.reduceMul, Nat.reduceLeDiff, Nat.reduceEqDiff, pset, hlen, if_false, if_true, t0]; rfl
  case m3 => exact Ext.some (by repeat first | with_reducible exact Ext.refl _ | refine Ext.app _ ?_) (at_new (X := h))
  case m4 => exact Ext.some (by repeat first | with_reducible exact Ext.refl _ | refine Ext.app _ ?_) (at_new (X := h ++ [ABlk.cells [AV.str A.name, AV.int IntKind.i64 A.err, sa] true false]))
  case m5 => exact Ext.some (by repeat first | with_reducible exact Ext.refl _ | refine Ext.app _ ?_) (at_new (X := h ++ [ABlk.cells [AV.str A.name, AV.int IntKind.i64 A.err, sa] true false] ++ [ABlk.cells [AV.str B.name, AV.int IntKind.i64 B.err, sb] true false]))
end
end Go.Abs
