/- The law HorizonCloses, by the contracts; 'awake' stands as a hypothesis. No condition. -/
import Derived.Test.YtjhdkimkijhloaaGreatDoorCs13
import Derived.Test.YtjhdkimkijhloaaGreatDoorCs11
set_option linter.all false
namespace Go.Abs

def cs (k : Nat) : ICode := ((fn9).body.dr k).hd
def csT (k : Nat) : ICode := (fn9).body.dr k
def csX : ICode := (cs 9).tl.inn.inn
def cx0 : ICode := (cs 9).hd
def cx1 : ICode := csX.hd
def cx2 : ICode := csX.tl.hd
def cx3 : ICode := csX.tl.tl.hd.inn.hd
def cx4 : ICode := csX.tl.tl.tl
def csI : ICode := csX.tl.tl.hd.inn.tl
def csY : ICode := csI.tl.inn.inn
def ci0 : ICode := csI.hd
def ci1 : ICode := csY.hd
def ci2 : ICode := csY.tl.hd
def ci3 : ICode := csY.tl.tl.tl
def cz0 : ICode := csY.tl.tl.hd.inn.hd
def cz1 : ICode := csY.tl.tl.hd.inn.tl.hd
def czR : ICode := csY.tl.tl.hd.inn.tl.tl
theorem cs_I : csI = .seq ci0 (.block 2 (.loop (.seq ci1 (.seq ci2 (.seq (.block 3 (.seq cz0 (.seq cz1 czR))) ci3))))) := rfl
theorem cs_0 : fn9 = ⟨393, 3, [(6, none)], .seq (cs 0) (.seq (cs 1) (csT 2))⟩ := rfl
theorem cs_A : csT 2 = .seq (cs 2) (.seq (cs 3) (.seq (cs 4) (.seq (cs 5) (csT 6)))) := rfl
theorem cs_C : csT 6 = .seq (cs 6) (.seq (cs 7) (.seq (cs 8) (csT 9))) := rfl
theorem cs_D : csT 9 = .seq (cs 9) (csT 10) := rfl
theorem cs_9 : cs 9 = .seq cx0 (.block 0 (.loop (.seq cx1 (.seq cx2 (.seq (.block 1 (.seq cx3 csI)) cx4))))) := rfl
theorem cs_F : csT 14 = .seq (cs 14) (.seq (cs 15) (.seq (cs 16) (.seq (cs 17) (csT 18)))) := rfl
theorem cs_H : csT 18 = .seq (cs 18) (csT 19) := rfl
theorem cs_G : csT 19 = .seq (cs 19) (csT 20) := rfl

theorem shl_row {m : Mp} {n : Nat} : (shlM m n).deps = m.deps.set n (shlP (m.deps.getD n (0, 0))) := rfl

attribute [local irreducible] WP WC WE WB WR WF WL WG WRg
section
variable {P : Program} (T : Tbl P) {h : AHeap}
include T

set_option maxRecDepth 10000 in
set_option maxHeartbeats 1000000 in
theorem closes_J0 {m : Mp} {sm y : AV} {W g : AHeap} {ts : TS} {c a : Int} {n b3 : Nat} {B : List Int} {p q : Bool} {ks : List Kt} {Q : Ex → TS → AHeap → Prop} (hlen : ts.length = 393) (v : MpV m) (hcb : 0 ≤ c ∧ c ≤ 65535) (hn : n < m.deps.length)
    (t3 : slot ts 3 = .ptr b3 0) (t8 : slot ts 8 = .int .i64 c) (t10 : slot ts 10 = y) (t16 : slot ts 16 = .int .i64 a) (t18 : slot ts 18 = .ptr W.length 0) (t19 : slot ts 19 = .int .i64 0) (t22 : slot ts 22 = .int .i64 n)
    (m3 : W[b3]? = some (.cells [.int .i64 m.cols, .int .i64 m.rows, sm] true false)) (hs : IsSl W sm 2 (m.deps.map ratRow)) (o10 : IsSl W y 1 (B.map intRow)) (lb : B.length ≤ 256) (hB : (n : Int) ∈ B) (hd : m.deps[n].2 < c) (hab : -10000000000000 ≤ a ∧ a ≤ 10000000000000)
    (K : ∀ (ts' : TS) (g' : AHeap), ts'.length = 393 → slot ts' 3 = slot ts 3 → slot ts' 4 = slot ts 4 → slot ts' 7 = slot ts 7 → slot ts' 8 = slot ts 8 → slot ts' 9 = slot ts 9 → slot ts' 10 = slot ts 10 → slot ts' 12 = slot ts 12 → slot ts' 14 = slot ts 14 → slot ts' 17 = slot ts 17 → slot ts' 18 = slot ts 18 → slot ts' 19 = slot ts 19 → slot ts' 20 = slot ts 20 → slot ts' 128 = slot ts 128 → slot ts' 129 = slot ts 129 → slot ts' 133 = slot ts 133 → slot ts' 134 = slot ts 134 → slot ts' 135 = slot ts 135 → slot ts' 16 = .int .i64 (a + (c - m.deps[n].2)) → WE P inFn .normal ks ts' (W ++ [.cells [.bool (p || brdS m n), .bool q] true false] ++ g') Q) :
    WC P inFn czR ks ts (W ++ [.cells [.bool p, .bool q] true false] ++ g) Q := by
  have q3 := (List.getElem?_eq_some_iff.1 m3).1
  have l3 : ∀ {n : Option Nat} {o : Nat} {kk : AHeap}, Ext W kk → loadF n (.ptr b3 o) (fun z => kk[z]?) = ldB n o (.cells [.int .i64 m.cols, .int .i64 m.rows, sm] true false) := fun e => loadF_at (e.some m3)
  have c0 := hs.one
  have hix := hs.ixm (kk := .i64) hn
  have ll0 := fun {kk : AHeap} (e : Ext W kk) => hs.lfm (off := 0) hn rfl e
  have ll0' := fun {kk : AHeap} (e : Ext W kk) => hs.l1m hn rfl e
  have ll1 := fun {kk : AHeap} (e : Ext W kk) => hs.lfm (off := 1) hn rfl e
  have hdn := v.d _ (List.getElem_mem hn)
  have i0 : iadaF 2 1 (.ptr W.length 0) (.int .i64 0) = some (.ptr W.length 0) := iada_0 (by decide)
  have d1 : decide (c ≤ m.deps[n].2) = false := decide_eq_false (by omega)
  have w1 : IntKind.i64.wrap (c - m.deps[n].2) = c - m.deps[n].2 := wrap_in (by omega) (by omega)
  have w2 : IntKind.i64.wrap (a + (c - m.deps[n].2)) = a + (c - m.deps[n].2) := wrap_in (by omega) (by omega)
  have hcM : InM m n := ⟨by omega, by have := v.l; omega⟩
  unfold czR csY csI csX cs fn9
  simp only [ICode.dr, ICode.tl, ICode.hd, ICode.inn]
  have d3 : decide ((n : Int) ∈ B) = true := decide_eq_true hB
  repeat (first | simp (config := { maxSteps := 1000000 }) only [wset, hset, dset, bset, Nat.reduceAdd, Nat.reduceMul, Nat.reduceLeDiff, Nat.reduceEqDiff, pset, hlen, if_false, if_true, t3, t8, t10, t16, t18, t19, t22, l3, hix, ll0, ll0', ll1, i0, d1, w1, w2, decide_true] | simp (config := { maxSteps := 1000000 }) (disch := first | (simp only [List.length_append, List.length_cons, List.length_nil] <;> omega) | rfl | omega | fail) only [kset, wset, hset, dset, bset, Nat.reduceAdd, Nat.reduceMul, Nat.reduceLeDiff, Nat.reduceEqDiff, pset, hlen, if_false, if_true, t3, t8, t10, t16, t18, t19, t22, l3, hix, ll0, ll0', ll1, i0, d1, w1, w2, decide_true])
  refine WF.res T.c70 (r70 T (o10.ext (by repeat first | with_reducible exact Ext.refl _ | refine Ext.app _ ?_)) (by omega) (n : Int)) ?_
  rintro _ g1 rfl
  cases p with
  | true =>
    repeat (first | simp (config := { maxSteps := 1000000 }) only [wset, hset, dset, bset, Nat.reduceAdd, Nat.reduceMul, Nat.reduceLeDiff, Nat.reduceEqDiff, pset, hlen, if_false, if_true, t3, t8, t10, t16, t18, t19, t22, l3, hix, ll0, ll0', ll1, i0, d1, w1, w2, d3, decide_true, Bool.not_true] | simp (config := { maxSteps := 1000000 }) (disch := first | (simp only [List.length_append, List.length_cons, List.length_nil] <;> omega) | rfl | omega | fail) only [kset, wset, hset, dset, bset, Nat.reduceAdd, Nat.reduceMul, Nat.reduceLeDiff, Nat.reduceEqDiff, pset, hlen, if_false, if_true, t3, t8, t10, t16, t18, t19, t22, l3, hix, ll0, ll0', ll1, i0, d1, w1, w2, d3, decide_true, Bool.not_true])
    simp only [Bool.true_or, List.append_assoc] at K ⊢
    exact K _ _ (by simp only [wset, hset, dset, bset, Nat.reduceAdd, Nat.reduceMul, Nat.reduceLeDiff, Nat.reduceEqDiff, pset, hlen, if_false, if_true, t3]) (by simp only [wset, hset, dset, bset, Nat.reduceAdd, Nat.reduceMul, Nat.reduceLeDiff, Nat.reduceEqDiff, pset, hlen, if_false, if_true, t3]) (by simp only [wset, hset, dset, bset, Nat.reduceAdd, Nat.reduceMul, Nat.reduceLeDiff, Nat.reduceEqDiff, pset, hlen, if_false, if_true, t3]) (by simp only [wset, hset, dset, bset, Nat.reduceAdd, Nat.reduceMul, Nat.reduceLeDiff, Nat.reduceEqDiff, pset, hlen, if_false, if_true, t3]) (by simp only [wset, hset, dset, bset, Nat.reduceAdd, Nat.reduceMul, Nat.reduceLeDiff, Nat.reduceEqDiff, pset, hlen, if_false, if_true, t3]) (by simp only [wset, hset, dset, bset, Nat.reduceAdd, Nat.reduceMul, Nat.reduceLeDiff, Nat.reduceEqDiff, pset, hlen, if_false, if_true, t3]) (by simp only [wset, hset, dset, bset, Nat.reduceAdd, Nat.reduceMul, Nat.reduceLeDiff, Nat.reduceEqDiff, pset, hlen, if_false, if_true, t3]) (by simp only [wset, hset, dset, bset, Nat.reduceAdd, Nat.reduceMul, Nat.reduceLeDiff, Nat.reduceEqDiff, pset, hlen, if_false, if_true, t3]) (by simp only [wset, hset, dset, bset, Nat.reduceAdd, Nat.reduceMul, Nat.reduceLeDiff, Nat.reduceEqDiff, pset, hlen, if_false, if_true, t3]) (by simp only [wset, hset, dset, bset, Nat.reduceAdd, Nat.reduceMul, Nat.reduceLeDiff, Nat.reduceEqDiff, pset, hlen, if_false, if_true, t3]) (by simp only [wset, hset, dset, bset, Nat.reduceAdd, Nat.reduceMul, Nat.reduceLeDiff, Nat.reduceEqDiff, pset, hlen, if_false, if_true, t3]) (by simp only [wset, hset, dset, bset, Nat.reduceAdd, Nat.reduceMul, Nat.reduceLeDiff, Nat.reduceEqDiff, pset, hlen, if_false, if_true, t3]) (by simp only [wset, hset, dset, bset, Nat.reduceAdd, Nat.reduceMul, Nat.reduceLeDiff, Nat.reduceEqDiff, pset, hlen, if_false, if_true, t3]) (by simp only [wset, hset, dset, bset, Nat.reduceAdd, Nat.reduceMul, Nat.reduceLeDiff, Nat.reduceEqDiff, pset, hlen, if_false, if_true, t3]) (by simp only [wset, hset, dset, bset, Nat.reduceAdd, Nat.reduceMul, Nat.reduceLeDiff, Nat.reduceEqDiff, pset, hlen, if_false, if_true, t3]) (by simp only [wset, hset, dset, bset, Nat.reduceAdd, Nat.reduceMul, Nat.reduceLeDiff, Nat.reduceEqDiff, pset, hlen, if_false, if_true, t3]) (by simp only [wset, hset, dset, bset, Nat.reduceAdd, Nat.reduceMul, Nat.reduceLeDiff, Nat.reduceEqDiff, pset, hlen, if_false, if_true, t3]) (by simp only [wset, hset, dset, bset, Nat.reduceAdd, Nat.reduceMul, Nat.reduceLeDiff, Nat.reduceEqDiff, pset, hlen, if_false, if_true, t3]) (by simp only [wset, hset, dset, bset, Nat.reduceAdd, Nat.reduceMul, Nat.reduceLeDiff, Nat.reduceEqDiff, pset, hlen, if_false, if_true, t3])
  | false =>
    repeat (first | simp (config := { maxSteps := 1000000 }) only [wset, hset, dset, bset, Nat.reduceAdd, Nat.reduceMul, Nat.reduceLeDiff, Nat.reduceEqDiff, pset, hlen, if_false, if_true, t3, t8, t10, t16, t18, t19, t22, l3, hix, ll0, ll0', ll1, i0, d1, w1, w2, d3, decide_true, Bool.not_true] | simp (config := { maxSteps := 1000000 }) (disch := first | (simp only [List.length_append, List.length_cons, List.length_nil] <;> omega) | rfl | omega | fail) only [kset, wset, hset, dset, bset, Nat.reduceAdd, Nat.reduceMul, Nat.reduceLeDiff, Nat.reduceEqDiff, pset, hlen, if_false, if_true, t3, t8, t10, t16, t18, t19, t22, l3, hix, ll0, ll0', ll1, i0, d1, w1, w2, d3, decide_true, Bool.not_true])
    refine WF.res T.c71 (r71 T c0 v hcM) ?_
    rintro _ g2 rfl
    repeat (first | simp (config := { maxSteps := 1000000 }) only [wset, hset, dset, bset, Nat.reduceAdd, Nat.reduceMul, Nat.reduceLeDiff, Nat.reduceEqDiff, pset, hlen, if_false, if_true, t3, t8, t10, t16, t18, t19, t22, l3, hix, ll0, ll0', ll1, i0, d1, w1, w2, d3, decide_true, Bool.not_true] | simp (config := { maxSteps := 1000000 }) (disch := first | (simp only [List.length_append, List.length_cons, List.length_nil] <;> omega) | rfl | omega | fail) only [kset, wset, hset, dset, bset, Nat.reduceAdd, Nat.reduceMul, Nat.reduceLeDiff, Nat.reduceEqDiff, pset, hlen, if_false, if_true, t3, t8, t10, t16, t18, t19, t22, l3, hix, ll0, ll0', ll1, i0, d1, w1, w2, d3, decide_true, Bool.not_true])
    simp only [Bool.false_or, List.append_assoc] at K ⊢
    exact K _ _ (by simp only [wset, hset, dset, bset, Nat.reduceAdd, Nat.reduceMul, Nat.reduceLeDiff, Nat.reduceEqDiff, pset, hlen, if_false, if_true, t3]) (by simp only [wset, hset, dset, bset, Nat.reduceAdd, Nat.reduceMul, Nat.reduceLeDiff, Nat.reduceEqDiff, pset, hlen, if_false, if_true, t3]) (by simp only [wset, hset, dset, bset, Nat.reduceAdd, Nat.reduceMul, Nat.reduceLeDiff, Nat.reduceEqDiff, pset, hlen, if_false, if_true, t3]) (by simp only [wset, hset, dset, bset, Nat.reduceAdd, Nat.reduceMul, Nat.reduceLeDiff, Nat.reduceEqDiff, pset, hlen, if_false, if_true, t3]) (by simp only [wset, hset, dset, bset, Nat.reduceAdd, Nat.reduceMul, Nat.reduceLeDiff, Nat.reduceEqDiff, pset, hlen, if_false, if_true, t3]) (by simp only [wset, hset, dset, bset, Nat.reduceAdd, Nat.reduceMul, Nat.reduceLeDiff, Nat.reduceEqDiff, pset, hlen, if_false, if_true, t3]) (by simp only [wset, hset, dset, bset, Nat.reduceAdd, Nat.reduceMul, Nat.reduceLeDiff, Nat.reduceEqDiff, pset, hlen, if_false, if_true, t3]) (by simp only [wset, hset, dset, bset, Nat.reduceAdd, Nat.reduceMul, Nat.reduceLeDiff, Nat.reduceEqDiff, pset, hlen, if_false, if_true, t3]) (by simp only [wset, hset, dset, bset, Nat.reduceAdd, Nat.reduceMul, Nat.reduceLeDiff, Nat.reduceEqDiff, pset, hlen, if_false, if_true, t3]) (by simp only [wset, hset, dset, bset, Nat.reduceAdd, Nat.reduceMul, Nat.reduceLeDiff, Nat.reduceEqDiff, pset, hlen, if_false, if_true, t3]) (by simp only [wset, hset, dset, bset, Nat.reduceAdd, Nat.reduceMul, Nat.reduceLeDiff, Nat.reduceEqDiff, pset, hlen, if_false, if_true, t3]) (by simp only [wset, hset, dset, bset, Nat.reduceAdd, Nat.reduceMul, Nat.reduceLeDiff, Nat.reduceEqDiff, pset, hlen, if_false, if_true, t3]) (by simp only [wset, hset, dset, bset, Nat.reduceAdd, Nat.reduceMul, Nat.reduceLeDiff, Nat.reduceEqDiff, pset, hlen, if_false, if_true, t3]) (by simp only [wset, hset, dset, bset, Nat.reduceAdd, Nat.reduceMul, Nat.reduceLeDiff, Nat.reduceEqDiff, pset, hlen, if_false, if_true, t3]) (by simp only [wset, hset, dset, bset, Nat.reduceAdd, Nat.reduceMul, Nat.reduceLeDiff, Nat.reduceEqDiff, pset, hlen, if_false, if_true, t3]) (by simp only [wset, hset, dset, bset, Nat.reduceAdd, Nat.reduceMul, Nat.reduceLeDiff, Nat.reduceEqDiff, pset, hlen, if_false, if_true, t3]) (by simp only [wset, hset, dset, bset, Nat.reduceAdd, Nat.reduceMul, Nat.reduceLeDiff, Nat.reduceEqDiff, pset, hlen, if_false, if_true, t3]) (by simp only [wset, hset, dset, bset, Nat.reduceAdd, Nat.reduceMul, Nat.reduceLeDiff, Nat.reduceEqDiff, pset, hlen, if_false, if_true, t3]) (by simp only [wset, hset, dset, bset, Nat.reduceAdd, Nat.reduceMul, Nat.reduceLeDiff, Nat.reduceEqDiff, pset, hlen, if_false, if_true, t3])

set_option maxRecDepth 10000 in
set_option maxHeartbeats 1000000 in
theorem closes_J1 {m : Mp} {sm y : AV} {W g : AHeap} {ts : TS} {c a : Int} {n b3 : Nat} {B : List Int} {p q : Bool} {ks : List Kt} {Q : Ex → TS → AHeap → Prop} (hlen : ts.length = 393) (v : MpV m) (hcb : 0 ≤ c ∧ c ≤ 65535) (hn : n < m.deps.length)
    (t3 : slot ts 3 = .ptr b3 0) (t8 : slot ts 8 = .int .i64 c) (t10 : slot ts 10 = y) (t17 : slot ts 17 = .int .i64 a) (t18 : slot ts 18 = .ptr W.length 0) (t19 : slot ts 19 = .int .i64 1) (t22 : slot ts 22 = .int .i64 n)
    (m3 : W[b3]? = some (.cells [.int .i64 m.cols, .int .i64 m.rows, sm] true false)) (hs : IsSl W sm 2 (m.deps.map ratRow)) (hd : m.deps[n].1 < c) (hab : -10000000000000 ≤ a ∧ a ≤ 10000000000000)
    (K : ∀ (ts' : TS) (g' : AHeap), ts'.length = 393 → slot ts' 3 = slot ts 3 → slot ts' 4 = slot ts 4 → slot ts' 7 = slot ts 7 → slot ts' 8 = slot ts 8 → slot ts' 9 = slot ts 9 → slot ts' 10 = slot ts 10 → slot ts' 12 = slot ts 12 → slot ts' 14 = slot ts 14 → slot ts' 16 = slot ts 16 → slot ts' 18 = slot ts 18 → slot ts' 19 = slot ts 19 → slot ts' 20 = slot ts 20 → slot ts' 128 = slot ts 128 → slot ts' 129 = slot ts 129 → slot ts' 133 = slot ts 133 → slot ts' 134 = slot ts 134 → slot ts' 135 = slot ts 135 → slot ts' 17 = .int .i64 (a + (c - m.deps[n].1)) → WE P inFn .normal ks ts' (W ++ [.cells [.bool p, .bool (q || brdS m n)] true false] ++ g') Q) :
    WC P inFn czR ks ts (W ++ [.cells [.bool p, .bool q] true false] ++ g) Q := by
  have q3 := (List.getElem?_eq_some_iff.1 m3).1
  have l3 : ∀ {n : Option Nat} {o : Nat} {kk : AHeap}, Ext W kk → loadF n (.ptr b3 o) (fun z => kk[z]?) = ldB n o (.cells [.int .i64 m.cols, .int .i64 m.rows, sm] true false) := fun e => loadF_at (e.some m3)
  have c0 := hs.one
  have hix := hs.ixm (kk := .i64) hn
  have ll0 := fun {kk : AHeap} (e : Ext W kk) => hs.lfm (off := 0) hn rfl e
  have ll0' := fun {kk : AHeap} (e : Ext W kk) => hs.l1m hn rfl e
  have ll1 := fun {kk : AHeap} (e : Ext W kk) => hs.lfm (off := 1) hn rfl e
  have hdn := v.d _ (List.getElem_mem hn)
  have i0 : iadaF 2 1 (.ptr W.length 0) (.int .i64 1) = some (.ptr W.length 1) := iada_1 (by decide)
  have d1 : decide (c ≤ m.deps[n].1) = false := decide_eq_false (by omega)
  have w1 : IntKind.i64.wrap (c - m.deps[n].1) = c - m.deps[n].1 := wrap_in (by omega) (by omega)
  have w2 : IntKind.i64.wrap (a + (c - m.deps[n].1)) = a + (c - m.deps[n].1) := wrap_in (by omega) (by omega)
  have hcM : InM m n := ⟨by omega, by have := v.l; omega⟩
  unfold czR csY csI csX cs fn9
  simp only [ICode.dr, ICode.tl, ICode.hd, ICode.inn]
  cases q with
  | true =>
    repeat (first | simp (config := { maxSteps := 1000000 }) only [wset, hset, dset, bset, Nat.reduceAdd, Nat.reduceMul, Nat.reduceLeDiff, Nat.reduceEqDiff, pset, hlen, if_false, if_true, t3, t8, t10, t17, t18, t19, t22, l3, hix, ll0, ll0', ll1, i0, d1, w1, w2, show decide ((1 : Int) = 0) = false from rfl] | simp (config := { maxSteps := 1000000 }) (disch := first | (simp only [List.length_append, List.length_cons, List.length_nil] <;> omega) | rfl | omega | fail) only [kset, wset, hset, dset, bset, Nat.reduceAdd, Nat.reduceMul, Nat.reduceLeDiff, Nat.reduceEqDiff, pset, hlen, if_false, if_true, t3, t8, t10, t17, t18, t19, t22, l3, hix, ll0, ll0', ll1, i0, d1, w1, w2, show decide ((1 : Int) = 0) = false from rfl])
    simp only [Bool.true_or, List.append_assoc] at K ⊢
    exact K _ _ (by simp only [wset, hset, dset, bset, Nat.reduceAdd, Nat.reduceMul, Nat.reduceLeDiff, Nat.reduceEqDiff, pset, hlen, if_false, if_true, t3]) (by simp only [wset, hset, dset, bset, Nat.reduceAdd, Nat.reduceMul, Nat.reduceLeDiff, Nat.reduceEqDiff, pset, hlen, if_false, if_true, t3]) (by simp only [wset, hset, dset, bset, Nat.reduceAdd, Nat.reduceMul, Nat.reduceLeDiff, Nat.reduceEqDiff, pset, hlen, if_false, if_true, t3]) (by simp only [wset, hset, dset, bset, Nat.reduceAdd, Nat.reduceMul, Nat.reduceLeDiff, Nat.reduceEqDiff, pset, hlen, if_false, if_true, t3]) (by simp only [wset, hset, dset, bset, Nat.reduceAdd, Nat.reduceMul, Nat.reduceLeDiff, Nat.reduceEqDiff, pset, hlen, if_false, if_true, t3]) (by simp only [wset, hset, dset, bset, Nat.reduceAdd, Nat.reduceMul, Nat.reduceLeDiff, Nat.reduceEqDiff, pset, hlen, if_false, if_true, t3]) (by simp only [wset, hset, dset, bset, Nat.reduceAdd, Nat.reduceMul, Nat.reduceLeDiff, Nat.reduceEqDiff, pset, hlen, if_false, if_true, t3]) (by simp only [wset, hset, dset, bset, Nat.reduceAdd, Nat.reduceMul, Nat.reduceLeDiff, Nat.reduceEqDiff, pset, hlen, if_false, if_true, t3]) (by simp only [wset, hset, dset, bset, Nat.reduceAdd, Nat.reduceMul, Nat.reduceLeDiff, Nat.reduceEqDiff, pset, hlen, if_false, if_true, t3]) (by simp only [wset, hset, dset, bset, Nat.reduceAdd, Nat.reduceMul, Nat.reduceLeDiff, Nat.reduceEqDiff, pset, hlen, if_false, if_true, t3]) (by simp only [wset, hset, dset, bset, Nat.reduceAdd, Nat.reduceMul, Nat.reduceLeDiff, Nat.reduceEqDiff, pset, hlen, if_false, if_true, t3]) (by simp only [wset, hset, dset, bset, Nat.reduceAdd, Nat.reduceMul, Nat.reduceLeDiff, Nat.reduceEqDiff, pset, hlen, if_false, if_true, t3]) (by simp only [wset, hset, dset, bset, Nat.reduceAdd, Nat.reduceMul, Nat.reduceLeDiff, Nat.reduceEqDiff, pset, hlen, if_false, if_true, t3]) (by simp only [wset, hset, dset, bset, Nat.reduceAdd, Nat.reduceMul, Nat.reduceLeDiff, Nat.reduceEqDiff, pset, hlen, if_false, if_true, t3]) (by simp only [wset, hset, dset, bset, Nat.reduceAdd, Nat.reduceMul, Nat.reduceLeDiff, Nat.reduceEqDiff, pset, hlen, if_false, if_true, t3]) (by simp only [wset, hset, dset, bset, Nat.reduceAdd, Nat.reduceMul, Nat.reduceLeDiff, Nat.reduceEqDiff, pset, hlen, if_false, if_true, t3]) (by simp only [wset, hset, dset, bset, Nat.reduceAdd, Nat.reduceMul, Nat.reduceLeDiff, Nat.reduceEqDiff, pset, hlen, if_false, if_true, t3]) (by simp only [wset, hset, dset, bset, Nat.reduceAdd, Nat.reduceMul, Nat.reduceLeDiff, Nat.reduceEqDiff, pset, hlen, if_false, if_true, t3]) (by simp only [wset, hset, dset, bset, Nat.reduceAdd, Nat.reduceMul, Nat.reduceLeDiff, Nat.reduceEqDiff, pset, hlen, if_false, if_true, t3])
  | false =>
    repeat (first | simp (config := { maxSteps := 1000000 }) only [wset, hset, dset, bset, Nat.reduceAdd, Nat.reduceMul, Nat.reduceLeDiff, Nat.reduceEqDiff, pset, hlen, if_false, if_true, t3, t8, t10, t17, t18, t19, t22, l3, hix, ll0, ll0', ll1, i0, d1, w1, w2, show decide ((1 : Int) = 0) = false from rfl] | simp (config := { maxSteps := 1000000 }) (disch := first | (simp only [List.length_append, List.length_cons, List.length_nil] <;> omega) | rfl | omega | fail) only [kset, wset, hset, dset, bset, Nat.reduceAdd, Nat.reduceMul, Nat.reduceLeDiff, Nat.reduceEqDiff, pset, hlen, if_false, if_true, t3, t8, t10, t17, t18, t19, t22, l3, hix, ll0, ll0', ll1, i0, d1, w1, w2, show decide ((1 : Int) = 0) = false from rfl])
    refine WF.res T.c71 (r71 T c0 v hcM) ?_
    rintro _ g2 rfl
    repeat (first | simp (config := { maxSteps := 1000000 }) only [wset, hset, dset, bset, Nat.reduceAdd, Nat.reduceMul, Nat.reduceLeDiff, Nat.reduceEqDiff, pset, hlen, if_false, if_true, t3, t8, t10, t17, t18, t19, t22, l3, hix, ll0, ll0', ll1, i0, d1, w1, w2, show decide ((1 : Int) = 0) = false from rfl] | simp (config := { maxSteps := 1000000 }) (disch := first | (simp only [List.length_append, List.length_cons, List.length_nil] <;> omega) | rfl | omega | fail) only [kset, wset, hset, dset, bset, Nat.reduceAdd, Nat.reduceMul, Nat.reduceLeDiff, Nat.reduceEqDiff, pset, hlen, if_false, if_true, t3, t8, t10, t17, t18, t19, t22, l3, hix, ll0, ll0', ll1, i0, d1, w1, w2, show decide ((1 : Int) = 0) = false from rfl])
    simp only [Bool.false_or, List.append_assoc] at K ⊢
    exact K _ _ (by simp only [wset, hset, dset, bset, Nat.reduceAdd, Nat.reduceMul, Nat.reduceLeDiff, Nat.reduceEqDiff, pset, hlen, if_false, if_true, t3]) (by simp only [wset, hset, dset, bset, Nat.reduceAdd, Nat.reduceMul, Nat.reduceLeDiff, Nat.reduceEqDiff, pset, hlen, if_false, if_true, t3]) (by simp only [wset, hset, dset, bset, Nat.reduceAdd, Nat.reduceMul, Nat.reduceLeDiff, Nat.reduceEqDiff, pset, hlen, if_false, if_true, t3]) (by simp only [wset, hset, dset, bset, Nat.reduceAdd, Nat.reduceMul, Nat.reduceLeDiff, Nat.reduceEqDiff, pset, hlen, if_false, if_true, t3]) (by simp only [wset, hset, dset, bset, Nat.reduceAdd, Nat.reduceMul, Nat.reduceLeDiff, Nat.reduceEqDiff, pset, hlen, if_false, if_true, t3]) (by simp only [wset, hset, dset, bset, Nat.reduceAdd, Nat.reduceMul, Nat.reduceLeDiff, Nat.reduceEqDiff, pset, hlen, if_false, if_true, t3]) (by simp only [wset, hset, dset, bset, Nat.reduceAdd, Nat.reduceMul, Nat.reduceLeDiff, Nat.reduceEqDiff, pset, hlen, if_false, if_true, t3]) (by simp only [wset, hset, dset, bset, Nat.reduceAdd, Nat.reduceMul, Nat.reduceLeDiff, Nat.reduceEqDiff, pset, hlen, if_false, if_true, t3]) (by simp only [wset, hset, dset, bset, Nat.reduceAdd, Nat.reduceMul, Nat.reduceLeDiff, Nat.reduceEqDiff, pset, hlen, if_false, if_true, t3]) (by simp only [wset, hset, dset, bset, Nat.reduceAdd, Nat.reduceMul, Nat.reduceLeDiff, Nat.reduceEqDiff, pset, hlen, if_false, if_true, t3]) (by simp only [wset, hset, dset, bset, Nat.reduceAdd, Nat.reduceMul, Nat.reduceLeDiff, Nat.reduceEqDiff, pset, hlen, if_false, if_true, t3]) (by simp only [wset, hset, dset, bset, Nat.reduceAdd, Nat.reduceMul, Nat.reduceLeDiff, Nat.reduceEqDiff, pset, hlen, if_false, if_true, t3]) (by simp only [wset, hset, dset, bset, Nat.reduceAdd, Nat.reduceMul, Nat.reduceLeDiff, Nat.reduceEqDiff, pset, hlen, if_false, if_true, t3]) (by simp only [wset, hset, dset, bset, Nat.reduceAdd, Nat.reduceMul, Nat.reduceLeDiff, Nat.reduceEqDiff, pset, hlen, if_false, if_true, t3]) (by simp only [wset, hset, dset, bset, Nat.reduceAdd, Nat.reduceMul, Nat.reduceLeDiff, Nat.reduceEqDiff, pset, hlen, if_false, if_true, t3]) (by simp only [wset, hset, dset, bset, Nat.reduceAdd, Nat.reduceMul, Nat.reduceLeDiff, Nat.reduceEqDiff, pset, hlen, if_false, if_true, t3]) (by simp only [wset, hset, dset, bset, Nat.reduceAdd, Nat.reduceMul, Nat.reduceLeDiff, Nat.reduceEqDiff, pset, hlen, if_false, if_true, t3]) (by simp only [wset, hset, dset, bset, Nat.reduceAdd, Nat.reduceMul, Nat.reduceLeDiff, Nat.reduceEqDiff, pset, hlen, if_false, if_true, t3]) (by simp only [wset, hset, dset, bset, Nat.reduceAdd, Nat.reduceMul, Nat.reduceLeDiff, Nat.reduceEqDiff, pset, hlen, if_false, if_true, t3])

set_option maxRecDepth 10000 in
set_option maxHeartbeats 1000000 in
theorem closes_I0 {m : Mp} {sm sX y : AV} {W g : AHeap} {ts : TS} {c : Int} {b3 : Nat} {X B : List Int} {q : Bool} {ks : List Kt} {Q : Ex → TS → AHeap → Prop} (hlen : ts.length = 393) (v : MpV m) (hcb : 0 ≤ c ∧ c ≤ 65535)
    (t3 : slot ts 3 = .ptr b3 0) (t8 : slot ts 8 = .int .i64 c) (t10 : slot ts 10 = y) (t16 : slot ts 16 = .int .i64 0) (t18 : slot ts 18 = .ptr W.length 0) (t19 : slot ts 19 = .int .i64 0) (t20 : slot ts 20 = sX)
    (m3 : W[b3]? = some (.cells [.int .i64 m.cols, .int .i64 m.rows, sm] true false)) (hs : IsSl W sm 2 (m.deps.map ratRow)) (oX : IsSl W sX 1 (X.map intRow)) (lX : X.length ≤ 256) (hX : ∀ x ∈ X, InM m x ∧ dI (highsS m) x < c) (hXs : X.Pairwise (· < ·)) (o10 : IsSl W y 1 (B.map intRow)) (lb : B.length ≤ 256) (hB : ∀ x ∈ X, x ∈ B) 
    (K : ∀ (ts' : TS) (g' : AHeap), ts'.length = 393 → slot ts' 3 = slot ts 3 → slot ts' 4 = slot ts 4 → slot ts' 7 = slot ts 7 → slot ts' 8 = slot ts 8 → slot ts' 9 = slot ts 9 → slot ts' 10 = slot ts 10 → slot ts' 12 = slot ts 12 → slot ts' 14 = slot ts 14 → slot ts' 17 = slot ts 17 → slot ts' 18 = slot ts 18 → slot ts' 19 = slot ts 19 → slot ts' 128 = slot ts 128 → slot ts' 129 = slot ts 129 → slot ts' 16 = .int .i64 (volL (highsS m) c X) → WE P inFn .normal ks ts' (W ++ [.cells [.bool (X.any (brdS m)), .bool q] true false] ++ g') Q) :
    WC P inFn csI ks ts (W ++ [.cells [.bool (false), .bool q] true false] ++ g) Q := by
  have q3 := (List.getElem?_eq_some_iff.1 m3).1
  have l3 : ∀ {n : Option Nat} {o : Nat} {kk : AHeap}, Ext W kk → loadF n (.ptr b3 o) (fun z => kk[z]?) = ldB n o (.cells [.int .i64 m.cols, .int .i64 m.rows, sm] true false) := fun e => loadF_at (e.some m3)
  have hlX := fun G => oX.lenm G
  have hlm := fun G => hs.lenm G
  have hbd : ∀ x ∈ X, -100000000 ≤ c - dI (highsS m) x ∧ c - dI (highsS m) x ≤ 100000000 := fun x hx => by
    have h1 := (hX x hx).1
    have h2 := (hX x hx).2
    have h3 := v.d _ (dp_mem v h1)
    have h4 := @high_dp m x
    omega
  rw [cs_I]
  unfold ci0 ci1 ci2 ci3 cz0 cz1 csY csI csX cs fn9
  simp only [ICode.dr, ICode.tl, ICode.hd, ICode.inn]
  repeat (first | simp (config := { maxSteps := 1000000 }) only [wset, hset, dset, bset, Nat.reduceAdd, Nat.reduceMul, Nat.reduceLeDiff, Nat.reduceEqDiff, pset, hlen, if_false, if_true, t20, hlX] | simp (config := { maxSteps := 1000000 }) (disch := first | (simp only [List.length_append, List.length_cons, List.length_nil] <;> omega) | rfl | omega | fail) only [kset, wset, hset, dset, bset, Nat.reduceAdd, Nat.reduceMul, Nat.reduceLeDiff, Nat.reduceEqDiff, pset, hlen, if_false, if_true, t20, hlX])
  refine WL.inv T.mix (fun n ts' h' => ∃ (k : Nat) (g' : AHeap), k ≤ X.length ∧ n = X.length - k ∧ h' = W ++ [.cells [.bool ((X.take k).any (brdS m)), .bool q] true false] ++ g' ∧ ts'.length = 393 ∧ slot ts' 3 = slot ts 3 ∧ slot ts' 4 = slot ts 4 ∧ slot ts' 7 = slot ts 7 ∧ slot ts' 8 = slot ts 8 ∧ slot ts' 9 = slot ts 9 ∧ slot ts' 10 = slot ts 10 ∧ slot ts' 12 = slot ts 12 ∧ slot ts' 14 = slot ts 14 ∧ slot ts' 17 = slot ts 17 ∧ slot ts' 18 = slot ts 18 ∧ slot ts' 19 = slot ts 19 ∧ slot ts' 128 = slot ts 128 ∧ slot ts' 129 = slot ts 129 ∧ slot ts' 20 = slot ts 20 ∧ slot ts' 16 = .int .i64 (volL (highsS m) c (X.take k)) ∧ slot ts' 133 = sX ∧ slot ts' 134 = .int .i64 X.length ∧ slot ts' 135 = .int .i64 k) X.length
    ⟨0, g, by omega, rfl, rfl, (by simp only [wset, hset, dset, bset, Nat.reduceAdd, Nat.reduceMul, Nat.reduceLeDiff, Nat.reduceEqDiff, pset, hlen, if_false, if_true, t20]), (by simp only [wset, hset, dset, bset, Nat.reduceAdd, Nat.reduceMul, Nat.reduceLeDiff, Nat.reduceEqDiff, pset, hlen, if_false, if_true, t20]), (by simp only [wset, hset, dset, bset, Nat.reduceAdd, Nat.reduceMul, Nat.reduceLeDiff, Nat.reduceEqDiff, pset, hlen, if_false, if_true, t20]), (by simp only [wset, hset, dset, bset, Nat.reduceAdd, Nat.reduceMul, Nat.reduceLeDiff, Nat.reduceEqDiff, pset, hlen, if_false, if_true, t20]), (by simp only [wset, hset, dset, bset, Nat.reduceAdd, Nat.reduceMul, Nat.reduceLeDiff, Nat.reduceEqDiff, pset, hlen, if_false, if_true, t20]), (by simp only [wset, hset, dset, bset, Nat.reduceAdd, Nat.reduceMul, Nat.reduceLeDiff, Nat.reduceEqDiff, pset, hlen, if_false, if_true, t20]), (by simp only [wset, hset, dset, bset, Nat.reduceAdd, Nat.reduceMul, Nat.reduceLeDiff, Nat.reduceEqDiff, pset, hlen, if_false, if_true, t20]), (by simp only [wset, hset, dset, bset, Nat.reduceAdd, Nat.reduceMul, Nat.reduceLeDiff, Nat.reduceEqDiff, pset, hlen, if_false, if_true, t20]), (by simp only [wset, hset, dset, bset, Nat.reduceAdd, Nat.reduceMul, Nat.reduceLeDiff, Nat.reduceEqDiff, pset, hlen, if_false, if_true, t20]), (by simp only [wset, hset, dset, bset, Nat.reduceAdd, Nat.reduceMul, Nat.reduceLeDiff, Nat.reduceEqDiff, pset, hlen, if_false, if_true, t20]), (by simp only [wset, hset, dset, bset, Nat.reduceAdd, Nat.reduceMul, Nat.reduceLeDiff, Nat.reduceEqDiff, pset, hlen, if_false, if_true, t20]), (by simp only [wset, hset, dset, bset, Nat.reduceAdd, Nat.reduceMul, Nat.reduceLeDiff, Nat.reduceEqDiff, pset, hlen, if_false, if_true, t20]), (by simp only [wset, hset, dset, bset, Nat.reduceAdd, Nat.reduceMul, Nat.reduceLeDiff, Nat.reduceEqDiff, pset, hlen, if_false, if_true, t20]), (by simp only [wset, hset, dset, bset, Nat.reduceAdd, Nat.reduceMul, Nat.reduceLeDiff, Nat.reduceEqDiff, pset, hlen, if_false, if_true, t20]), (by simp only [wset, hset, dset, bset, Nat.reduceAdd, Nat.reduceMul, Nat.reduceLeDiff, Nat.reduceEqDiff, pset, hlen, if_false, if_true, t20]), (by simp only [wset, hset, dset, bset, Nat.reduceAdd, Nat.reduceMul, Nat.reduceLeDiff, Nat.reduceEqDiff, pset, hlen, if_false, if_true, t16]; rfl), (by simp only [wset, hset, dset, bset, Nat.reduceAdd, Nat.reduceMul, Nat.reduceLeDiff, Nat.reduceEqDiff, pset, hlen, if_false, if_true, t20]), (by simp only [wset, hset, dset, bset, Nat.reduceAdd, Nat.reduceMul, Nat.reduceLeDiff, Nat.reduceEqDiff, pset, hlen, if_false, if_true, t20]), (by simp only [wset, hset, dset, bset, Nat.reduceAdd, Nat.reduceMul, Nat.reduceLeDiff, Nat.reduceEqDiff, pset, hlen, if_false, if_true, t20]; rfl)⟩ ?_
  rintro _ ts' _ ⟨k, g', hk, rfl, rfl, hlen', u3, u4, u7, u8, u9, u10, u12, u14, u17, u18, u19, u128, u129, u20, u16, u133, u134, u135⟩
  have hlen0 := hlen
  clear hlen
  have hlen := hlen'
  clear hlen'
  by_cases hlt : k < X.length
  · have e3 : (k : Int) < X.length := by omega
    have hxm := List.getElem_mem hlt
    have hx := hX _ hxm
    have hv := volL_s (D := highsS m) (c := c) hlt
    have hb0 := volL_bd (D := highsS m) (c := c) (L := X.take k) fun y hy => hbd y (List.mem_of_mem_take hy)
    have hkl : (X.take k).length = k := by rw [List.length_take]; omega
    rw [hkl] at hb0
    have hany : (X.take (k + 1)).any (brdS m) = ((X.take k).any (brdS m) || brdS m X[k]) := by
      rw [List.take_add_one, List.getElem?_eq_getElem hlt, List.any_append]; simp
    obtain ⟨n, hn⟩ := Int.eq_ofNat_of_zero_le hx.1.1
    have hnl : n < m.deps.length := by have := hx.1.2; have := v.l; omega
    have hdp : dI (highsS m) X[k] = m.deps[n].2 := by
      rw [high_dp, hn, dpS, Int.toNat_natCast, List.getD_eq_getElem?_getD, List.getElem?_eq_getElem hnl, Option.getD_some]
    rw [hdp] at hv hx
    have hix := oX.ixm (kk := .i64) hlt
    have l1 := fun {kk : AHeap} (e : Ext W kk) => oX.l1m hlt rfl e
    have d1 : decide ((n : Int) < 0) = false := decide_eq_false (by omega)
    have d2 : decide ((m.deps.length : Int) ≤ n) = false := decide_eq_false (by omega)
    have hgo := fun (ts1 : TS) (g1 : AHeap) (ks1 : List Kt) (p0 : ts1.length = 393) (p3 : slot ts1 3 = .ptr b3 0) (p8 : slot ts1 8 = .int .i64 c) (p10 : slot ts1 10 = y) (pa : slot ts1 16 = .int .i64 (volL (highsS m) c (X.take k))) (p18 : slot ts1 18 = .ptr W.length 0) (p19 : slot ts1 19 = .int .i64 0) (p22 : slot ts1 22 = .int .i64 n) (Q1 : Ex → TS → AHeap → Prop) =>
      closes_J0 T (m := m) (sm := sm) (y := y) (W := W) (g := g1) (ts := ts1) (c := c) (a := volL (highsS m) c (X.take k)) (n := n) (b3 := b3) (B := B) (p := (X.take k).any (brdS m)) (q := q) (ks := ks1) (Q := Q1) p0 v hcb hnl p3 p8 p10 pa p18 p19 p22 m3 hs o10 lb (hn ▸ hB _ hxm) hx.2 (by omega)
    rw [hn] at l1 hany
    have hwk := wrapN (show k + 1 < 2 ^ 63 by omega)
    have v3 : slot ts' 3 = .ptr b3 0 := by rw [u3]; exact t3
    have v8 : slot ts' 8 = .int .i64 c := by rw [u8]; exact t8
    have v10 : slot ts' 10 = y := by rw [u10]; exact t10
    have v18 : slot ts' 18 = .ptr W.length 0 := by rw [u18]; exact t18
    have v19 : slot ts' 19 = .int .i64 0 := by rw [u19]; exact t19
    have v20 : slot ts' 20 = sX := by rw [u20]; exact t20
    by_cases hk0 : k = 0
    · have e5 : decide (0 < (k : Int)) = false := decide_eq_false (by omega)
      repeat (first | simp (config := { maxSteps := 1000000 }) only [wset, hset, dset, bset, Nat.reduceAdd, Nat.reduceMul, Nat.reduceLeDiff, Nat.reduceEqDiff, pset, hlen, if_false, if_true, v3, v20, u133, u134, u135, l3, hlm, e3, decide_true, hix, l1, d1, d2, e5] | simp (config := { maxSteps := 1000000 }) (disch := first | (simp only [List.length_append, List.length_cons, List.length_nil] <;> omega) | rfl | omega | fail) only [kset, wset, hset, dset, bset, Nat.reduceAdd, Nat.reduceMul, Nat.reduceLeDiff, Nat.reduceEqDiff, pset, hlen, if_false, if_true, v3, v20, u133, u134, u135, l3, hlm, e3, decide_true, hix, l1, d1, d2, e5])
      refine hgo _ _ _ (by simp only [wset, hset, dset, bset, Nat.reduceAdd, Nat.reduceMul, Nat.reduceLeDiff, Nat.reduceEqDiff, pset, hlen, if_false, if_true, v3]) (by simp only [wset, hset, dset, bset, Nat.reduceAdd, Nat.reduceMul, Nat.reduceLeDiff, Nat.reduceEqDiff, pset, hlen, if_false, if_true, v3]) (by simp only [wset, hset, dset, bset, Nat.reduceAdd, Nat.reduceMul, Nat.reduceLeDiff, Nat.reduceEqDiff, pset, hlen, if_false, if_true, v8]) (by simp only [wset, hset, dset, bset, Nat.reduceAdd, Nat.reduceMul, Nat.reduceLeDiff, Nat.reduceEqDiff, pset, hlen, if_false, if_true, v10]) (by simp only [wset, hset, dset, bset, Nat.reduceAdd, Nat.reduceMul, Nat.reduceLeDiff, Nat.reduceEqDiff, pset, hlen, if_false, if_true, u16]) (by simp only [wset, hset, dset, bset, Nat.reduceAdd, Nat.reduceMul, Nat.reduceLeDiff, Nat.reduceEqDiff, pset, hlen, if_false, if_true, v18]) (by simp only [wset, hset, dset, bset, Nat.reduceAdd, Nat.reduceMul, Nat.reduceLeDiff, Nat.reduceEqDiff, pset, hlen, if_false, if_true, v19]) (by simp only [wset, hset, dset, bset, Nat.reduceAdd, Nat.reduceMul, Nat.reduceLeDiff, Nat.reduceEqDiff, pset, hlen, if_false, if_true, v3]) _ ?_
      intro ts2 g2 hlen2 j3 j4 j7 j8 j9 j10 j12 j14 j17 j18 j19 j20 j128 j129 j133 j134 j135 jacc
      have w3 : slot ts2 3 = slot ts 3 := by rw [j3]; simp only [wset, hset, dset, bset, Nat.reduceAdd, Nat.reduceMul, Nat.reduceLeDiff, Nat.reduceEqDiff, pset, hlen, if_false, if_true, u3]
      have w4 : slot ts2 4 = slot ts 4 := by rw [j4]; simp only [wset, hset, dset, bset, Nat.reduceAdd, Nat.reduceMul, Nat.reduceLeDiff, Nat.reduceEqDiff, pset, hlen, if_false, if_true, u4]
      have w7 : slot ts2 7 = slot ts 7 := by rw [j7]; simp only [wset, hset, dset, bset, Nat.reduceAdd, Nat.reduceMul, Nat.reduceLeDiff, Nat.reduceEqDiff, pset, hlen, if_false, if_true, u7]
      have w8 : slot ts2 8 = slot ts 8 := by rw [j8]; simp only [wset, hset, dset, bset, Nat.reduceAdd, Nat.reduceMul, Nat.reduceLeDiff, Nat.reduceEqDiff, pset, hlen, if_false, if_true, u8]
      have w9 : slot ts2 9 = slot ts 9 := by rw [j9]; simp only [wset, hset, dset, bset, Nat.reduceAdd, Nat.reduceMul, Nat.reduceLeDiff, Nat.reduceEqDiff, pset, hlen, if_false, if_true, u9]
      have w10 : slot ts2 10 = slot ts 10 := by rw [j10]; simp only [wset, hset, dset, bset, Nat.reduceAdd, Nat.reduceMul, Nat.reduceLeDiff, Nat.reduceEqDiff, pset, hlen, if_false, if_true, u10]
      have w12 : slot ts2 12 = slot ts 12 := by rw [j12]; simp only [wset, hset, dset, bset, Nat.reduceAdd, Nat.reduceMul, Nat.reduceLeDiff, Nat.reduceEqDiff, pset, hlen, if_false, if_true, u12]
      have w14 : slot ts2 14 = slot ts 14 := by rw [j14]; simp only [wset, hset, dset, bset, Nat.reduceAdd, Nat.reduceMul, Nat.reduceLeDiff, Nat.reduceEqDiff, pset, hlen, if_false, if_true, u14]
      have w17 : slot ts2 17 = slot ts 17 := by rw [j17]; simp only [wset, hset, dset, bset, Nat.reduceAdd, Nat.reduceMul, Nat.reduceLeDiff, Nat.reduceEqDiff, pset, hlen, if_false, if_true, u17]
      have w18 : slot ts2 18 = slot ts 18 := by rw [j18]; simp only [wset, hset, dset, bset, Nat.reduceAdd, Nat.reduceMul, Nat.reduceLeDiff, Nat.reduceEqDiff, pset, hlen, if_false, if_true, u18]
      have w19 : slot ts2 19 = slot ts 19 := by rw [j19]; simp only [wset, hset, dset, bset, Nat.reduceAdd, Nat.reduceMul, Nat.reduceLeDiff, Nat.reduceEqDiff, pset, hlen, if_false, if_true, u19]
      have w128 : slot ts2 128 = slot ts 128 := by rw [j128]; simp only [wset, hset, dset, bset, Nat.reduceAdd, Nat.reduceMul, Nat.reduceLeDiff, Nat.reduceEqDiff, pset, hlen, if_false, if_true, u128]
      have w129 : slot ts2 129 = slot ts 129 := by rw [j129]; simp only [wset, hset, dset, bset, Nat.reduceAdd, Nat.reduceMul, Nat.reduceLeDiff, Nat.reduceEqDiff, pset, hlen, if_false, if_true, u129]
      have w20 : slot ts2 20 = slot ts 20 := by rw [j20]; simp only [wset, hset, dset, bset, Nat.reduceAdd, Nat.reduceMul, Nat.reduceLeDiff, Nat.reduceEqDiff, pset, hlen, if_false, if_true, u20]
      have w133 : slot ts2 133 = sX := by rw [j133]; simp only [wset, hset, dset, bset, Nat.reduceAdd, Nat.reduceMul, Nat.reduceLeDiff, Nat.reduceEqDiff, pset, hlen, if_false, if_true, u133]
      have w134 : slot ts2 134 = .int .i64 X.length := by rw [j134]; simp only [wset, hset, dset, bset, Nat.reduceAdd, Nat.reduceMul, Nat.reduceLeDiff, Nat.reduceEqDiff, pset, hlen, if_false, if_true, u134]
      have w135 : slot ts2 135 = .int .i64 k := by rw [j135]; simp only [wset, hset, dset, bset, Nat.reduceAdd, Nat.reduceMul, Nat.reduceLeDiff, Nat.reduceEqDiff, pset, hlen, if_false, if_true, u135]
      have wacc : slot ts2 16 = .int .i64 (volL (highsS m) c (X.take (k + 1))) := by rw [jacc, hv]
      have hlen := hlen2
      repeat (first | simp (config := { maxSteps := 1000000 }) only [wset, hset, dset, bset, Nat.reduceAdd, Nat.reduceMul, Nat.reduceLeDiff, Nat.reduceEqDiff, pset, hlen, if_false, if_true, w133, w134, w135, hwk] | simp (config := { maxSteps := 1000000 }) (disch := first | (simp only [List.length_append, List.length_cons, List.length_nil] <;> omega) | rfl | omega | fail) only [kset, wset, hset, dset, bset, Nat.reduceAdd, Nat.reduceMul, Nat.reduceLeDiff, Nat.reduceEqDiff, pset, hlen, if_false, if_true, w133, w134, w135, hwk])
      refine ⟨_, by omega, k + 1, g2, by omega, rfl, by rw [hany], w3, w4, w7, w8, w9, w10, w12, w14, w17, w18, w19, w128, w129, w20, wacc, rfl⟩
    · have e5 : decide (0 < (k : Int)) = true := decide_eq_true (by omega)
      have hkp : k - 1 < X.length := by omega
      have hixp := oX.ixm (kk := .i64) hkp
      have lp := fun {kk : AHeap} (e : Ext W kk) => oX.l1m hkp rfl e
      have w1 : IntKind.i64.wrap ((k : Int) - 1) = ((k - 1 : Nat) : Int) := by rw [wrap_in (by omega) (by omega)]; omega
      have hpl := List.pairwise_iff_getElem.1 hXs (k - 1) k hkp hlt (by omega)
      rw [hn] at hpl
      have e6 : decide ((n : Int) ≤ X[k - 1]) = false := decide_eq_false (by omega)
      repeat (first | simp (config := { maxSteps := 1000000 }) only [wset, hset, dset, bset, Nat.reduceAdd, Nat.reduceMul, Nat.reduceLeDiff, Nat.reduceEqDiff, pset, hlen, if_false, if_true, v3, v20, u133, u134, u135, l3, hlm, e3, decide_true, hix, l1, d1, d2, e5, hixp, lp, w1, e6] | simp (config := { maxSteps := 1000000 }) (disch := first | (simp only [List.length_append, List.length_cons, List.length_nil] <;> omega) | rfl | omega | fail) only [kset, wset, hset, dset, bset, Nat.reduceAdd, Nat.reduceMul, Nat.reduceLeDiff, Nat.reduceEqDiff, pset, hlen, if_false, if_true, v3, v20, u133, u134, u135, l3, hlm, e3, decide_true, hix, l1, d1, d2, e5, hixp, lp, w1, e6])
      refine hgo _ _ _ (by simp only [wset, hset, dset, bset, Nat.reduceAdd, Nat.reduceMul, Nat.reduceLeDiff, Nat.reduceEqDiff, pset, hlen, if_false, if_true, v3]) (by simp only [wset, hset, dset, bset, Nat.reduceAdd, Nat.reduceMul, Nat.reduceLeDiff, Nat.reduceEqDiff, pset, hlen, if_false, if_true, v3]) (by simp only [wset, hset, dset, bset, Nat.reduceAdd, Nat.reduceMul, Nat.reduceLeDiff, Nat.reduceEqDiff, pset, hlen, if_false, if_true, v8]) (by simp only [wset, hset, dset, bset, Nat.reduceAdd, Nat.reduceMul, Nat.reduceLeDiff, Nat.reduceEqDiff, pset, hlen, if_false, if_true, v10]) (by simp only [wset, hset, dset, bset, Nat.reduceAdd, Nat.reduceMul, Nat.reduceLeDiff, Nat.reduceEqDiff, pset, hlen, if_false, if_true, u16]) (by simp only [wset, hset, dset, bset, Nat.reduceAdd, Nat.reduceMul, Nat.reduceLeDiff, Nat.reduceEqDiff, pset, hlen, if_false, if_true, v18]) (by simp only [wset, hset, dset, bset, Nat.reduceAdd, Nat.reduceMul, Nat.reduceLeDiff, Nat.reduceEqDiff, pset, hlen, if_false, if_true, v19]) (by simp only [wset, hset, dset, bset, Nat.reduceAdd, Nat.reduceMul, Nat.reduceLeDiff, Nat.reduceEqDiff, pset, hlen, if_false, if_true, v3]) _ ?_
      intro ts2 g2 hlen2 j3 j4 j7 j8 j9 j10 j12 j14 j17 j18 j19 j20 j128 j129 j133 j134 j135 jacc
      have w3 : slot ts2 3 = slot ts 3 := by rw [j3]; simp only [wset, hset, dset, bset, Nat.reduceAdd, Nat.reduceMul, Nat.reduceLeDiff, Nat.reduceEqDiff, pset, hlen, if_false, if_true, u3]
      have w4 : slot ts2 4 = slot ts 4 := by rw [j4]; simp only [wset, hset, dset, bset, Nat.reduceAdd, Nat.reduceMul, Nat.reduceLeDiff, Nat.reduceEqDiff, pset, hlen, if_false, if_true, u4]
      have w7 : slot ts2 7 = slot ts 7 := by rw [j7]; simp only [wset, hset, dset, bset, Nat.reduceAdd, Nat.reduceMul, Nat.reduceLeDiff, Nat.reduceEqDiff, pset, hlen, if_false, if_true, u7]
      have w8 : slot ts2 8 = slot ts 8 := by rw [j8]; simp only [wset, hset, dset, bset, Nat.reduceAdd, Nat.reduceMul, Nat.reduceLeDiff, Nat.reduceEqDiff, pset, hlen, if_false, if_true, u8]
      have w9 : slot ts2 9 = slot ts 9 := by rw [j9]; simp only [wset, hset, dset, bset, Nat.reduceAdd, Nat.reduceMul, Nat.reduceLeDiff, Nat.reduceEqDiff, pset, hlen, if_false, if_true, u9]
      have w10 : slot ts2 10 = slot ts 10 := by rw [j10]; simp only [wset, hset, dset, bset, Nat.reduceAdd, Nat.reduceMul, Nat.reduceLeDiff, Nat.reduceEqDiff, pset, hlen, if_false, if_true, u10]
      have w12 : slot ts2 12 = slot ts 12 := by rw [j12]; simp only [wset, hset, dset, bset, Nat.reduceAdd, Nat.reduceMul, Nat.reduceLeDiff, Nat.reduceEqDiff, pset, hlen, if_false, if_true, u12]
      have w14 : slot ts2 14 = slot ts 14 := by rw [j14]; simp only [wset, hset, dset, bset, Nat.reduceAdd, Nat.reduceMul, Nat.reduceLeDiff, Nat.reduceEqDiff, pset, hlen, if_false, if_true, u14]
      have w17 : slot ts2 17 = slot ts 17 := by rw [j17]; simp only [wset, hset, dset, bset, Nat.reduceAdd, Nat.reduceMul, Nat.reduceLeDiff, Nat.reduceEqDiff, pset, hlen, if_false, if_true, u17]
      have w18 : slot ts2 18 = slot ts 18 := by rw [j18]; simp only [wset, hset, dset, bset, Nat.reduceAdd, Nat.reduceMul, Nat.reduceLeDiff, Nat.reduceEqDiff, pset, hlen, if_false, if_true, u18]
      have w19 : slot ts2 19 = slot ts 19 := by rw [j19]; simp only [wset, hset, dset, bset, Nat.reduceAdd, Nat.reduceMul, Nat.reduceLeDiff, Nat.reduceEqDiff, pset, hlen, if_false, if_true, u19]
      have w128 : slot ts2 128 = slot ts 128 := by rw [j128]; simp only [wset, hset, dset, bset, Nat.reduceAdd, Nat.reduceMul, Nat.reduceLeDiff, Nat.reduceEqDiff, pset, hlen, if_false, if_true, u128]
      have w129 : slot ts2 129 = slot ts 129 := by rw [j129]; simp only [wset, hset, dset, bset, Nat.reduceAdd, Nat.reduceMul, Nat.reduceLeDiff, Nat.reduceEqDiff, pset, hlen, if_false, if_true, u129]
      have w20 : slot ts2 20 = slot ts 20 := by rw [j20]; simp only [wset, hset, dset, bset, Nat.reduceAdd, Nat.reduceMul, Nat.reduceLeDiff, Nat.reduceEqDiff, pset, hlen, if_false, if_true, u20]
      have w133 : slot ts2 133 = sX := by rw [j133]; simp only [wset, hset, dset, bset, Nat.reduceAdd, Nat.reduceMul, Nat.reduceLeDiff, Nat.reduceEqDiff, pset, hlen, if_false, if_true, u133]
      have w134 : slot ts2 134 = .int .i64 X.length := by rw [j134]; simp only [wset, hset, dset, bset, Nat.reduceAdd, Nat.reduceMul, Nat.reduceLeDiff, Nat.reduceEqDiff, pset, hlen, if_false, if_true, u134]
      have w135 : slot ts2 135 = .int .i64 k := by rw [j135]; simp only [wset, hset, dset, bset, Nat.reduceAdd, Nat.reduceMul, Nat.reduceLeDiff, Nat.reduceEqDiff, pset, hlen, if_false, if_true, u135]
      have wacc : slot ts2 16 = .int .i64 (volL (highsS m) c (X.take (k + 1))) := by rw [jacc, hv]
      have hlen := hlen2
      repeat (first | simp (config := { maxSteps := 1000000 }) only [wset, hset, dset, bset, Nat.reduceAdd, Nat.reduceMul, Nat.reduceLeDiff, Nat.reduceEqDiff, pset, hlen, if_false, if_true, w133, w134, w135, hwk] | simp (config := { maxSteps := 1000000 }) (disch := first | (simp only [List.length_append, List.length_cons, List.length_nil] <;> omega) | rfl | omega | fail) only [kset, wset, hset, dset, bset, Nat.reduceAdd, Nat.reduceMul, Nat.reduceLeDiff, Nat.reduceEqDiff, pset, hlen, if_false, if_true, w133, w134, w135, hwk])
      refine ⟨_, by omega, k + 1, g2, by omega, rfl, by rw [hany], w3, w4, w7, w8, w9, w10, w12, w14, w17, w18, w19, w128, w129, w20, wacc, rfl⟩
  · have e3 : ¬ (k : Int) < X.length := by omega
    have e4 : k = X.length := by omega
    rw [e4, List.take_length] at u16
    repeat (first | simp (config := { maxSteps := 1000000 }) only [wset, hset, dset, bset, Nat.reduceAdd, Nat.reduceMul, Nat.reduceLeDiff, Nat.reduceEqDiff, pset, hlen, if_false, if_true, u133, u134, u135, e3, decide_false] | simp (config := { maxSteps := 1000000 }) (disch := first | (simp only [List.length_append, List.length_cons, List.length_nil] <;> omega) | rfl | omega | fail) only [kset, wset, hset, dset, bset, Nat.reduceAdd, Nat.reduceMul, Nat.reduceLeDiff, Nat.reduceEqDiff, pset, hlen, if_false, if_true, u133, u134, u135, e3, decide_false])
    rw [e4, List.take_length]
    exact K _ _ (by simp only [wset, hset, dset, bset, Nat.reduceAdd, Nat.reduceMul, Nat.reduceLeDiff, Nat.reduceEqDiff, pset, hlen, if_false, if_true, t20]) (by simp only [wset, hset, dset, bset, Nat.reduceAdd, Nat.reduceMul, Nat.reduceLeDiff, Nat.reduceEqDiff, pset, hlen, if_false, if_true, u3]) (by simp only [wset, hset, dset, bset, Nat.reduceAdd, Nat.reduceMul, Nat.reduceLeDiff, Nat.reduceEqDiff, pset, hlen, if_false, if_true, u4]) (by simp only [wset, hset, dset, bset, Nat.reduceAdd, Nat.reduceMul, Nat.reduceLeDiff, Nat.reduceEqDiff, pset, hlen, if_false, if_true, u7]) (by simp only [wset, hset, dset, bset, Nat.reduceAdd, Nat.reduceMul, Nat.reduceLeDiff, Nat.reduceEqDiff, pset, hlen, if_false, if_true, u8]) (by simp only [wset, hset, dset, bset, Nat.reduceAdd, Nat.reduceMul, Nat.reduceLeDiff, Nat.reduceEqDiff, pset, hlen, if_false, if_true, u9]) (by simp only [wset, hset, dset, bset, Nat.reduceAdd, Nat.reduceMul, Nat.reduceLeDiff, Nat.reduceEqDiff, pset, hlen, if_false, if_true, u10]) (by simp only [wset, hset, dset, bset, Nat.reduceAdd, Nat.reduceMul, Nat.reduceLeDiff, Nat.reduceEqDiff, pset, hlen, if_false, if_true, u12]) (by simp only [wset, hset, dset, bset, Nat.reduceAdd, Nat.reduceMul, Nat.reduceLeDiff, Nat.reduceEqDiff, pset, hlen, if_false, if_true, u14]) (by simp only [wset, hset, dset, bset, Nat.reduceAdd, Nat.reduceMul, Nat.reduceLeDiff, Nat.reduceEqDiff, pset, hlen, if_false, if_true, u17]) (by simp only [wset, hset, dset, bset, Nat.reduceAdd, Nat.reduceMul, Nat.reduceLeDiff, Nat.reduceEqDiff, pset, hlen, if_false, if_true, u18]) (by simp only [wset, hset, dset, bset, Nat.reduceAdd, Nat.reduceMul, Nat.reduceLeDiff, Nat.reduceEqDiff, pset, hlen, if_false, if_true, u19]) (by simp only [wset, hset, dset, bset, Nat.reduceAdd, Nat.reduceMul, Nat.reduceLeDiff, Nat.reduceEqDiff, pset, hlen, if_false, if_true, u128]) (by simp only [wset, hset, dset, bset, Nat.reduceAdd, Nat.reduceMul, Nat.reduceLeDiff, Nat.reduceEqDiff, pset, hlen, if_false, if_true, u129]) (by simp only [wset, hset, dset, bset, Nat.reduceAdd, Nat.reduceMul, Nat.reduceLeDiff, Nat.reduceEqDiff, pset, hlen, if_false, if_true, u16])

set_option maxRecDepth 10000 in
set_option maxHeartbeats 1000000 in
theorem closes_I1 {m : Mp} {sm sX y : AV} {W g : AHeap} {ts : TS} {c : Int} {b3 : Nat} {X B : List Int} {p : Bool} {ks : List Kt} {Q : Ex → TS → AHeap → Prop} (hlen : ts.length = 393) (v : MpV m) (hcb : 0 ≤ c ∧ c ≤ 65535)
    (t3 : slot ts 3 = .ptr b3 0) (t8 : slot ts 8 = .int .i64 c) (t10 : slot ts 10 = y) (t17 : slot ts 17 = .int .i64 0) (t18 : slot ts 18 = .ptr W.length 0) (t19 : slot ts 19 = .int .i64 1) (t20 : slot ts 20 = sX)
    (m3 : W[b3]? = some (.cells [.int .i64 m.cols, .int .i64 m.rows, sm] true false)) (hs : IsSl W sm 2 (m.deps.map ratRow)) (oX : IsSl W sX 1 (X.map intRow)) (lX : X.length ≤ 256) (hX : ∀ x ∈ X, InM m x ∧ dI (lowsS m) x < c) (hXs : X.Pairwise (· < ·)) 
    (K : ∀ (ts' : TS) (g' : AHeap), ts'.length = 393 → slot ts' 3 = slot ts 3 → slot ts' 4 = slot ts 4 → slot ts' 7 = slot ts 7 → slot ts' 8 = slot ts 8 → slot ts' 9 = slot ts 9 → slot ts' 10 = slot ts 10 → slot ts' 12 = slot ts 12 → slot ts' 14 = slot ts 14 → slot ts' 16 = slot ts 16 → slot ts' 18 = slot ts 18 → slot ts' 19 = slot ts 19 → slot ts' 128 = slot ts 128 → slot ts' 129 = slot ts 129 → slot ts' 17 = .int .i64 (volL (lowsS m) c X) → WE P inFn .normal ks ts' (W ++ [.cells [.bool p, .bool (X.any (brdS m))] true false] ++ g') Q) :
    WC P inFn csI ks ts (W ++ [.cells [.bool p, .bool (false)] true false] ++ g) Q := by
  have q3 := (List.getElem?_eq_some_iff.1 m3).1
  have l3 : ∀ {n : Option Nat} {o : Nat} {kk : AHeap}, Ext W kk → loadF n (.ptr b3 o) (fun z => kk[z]?) = ldB n o (.cells [.int .i64 m.cols, .int .i64 m.rows, sm] true false) := fun e => loadF_at (e.some m3)
  have hlX := fun G => oX.lenm G
  have hlm := fun G => hs.lenm G
  have hbd : ∀ x ∈ X, -100000000 ≤ c - dI (lowsS m) x ∧ c - dI (lowsS m) x ≤ 100000000 := fun x hx => by
    have h1 := (hX x hx).1
    have h2 := (hX x hx).2
    have h3 := v.d _ (dp_mem v h1)
    have h4 := @low_dp m x
    omega
  rw [cs_I]
  unfold ci0 ci1 ci2 ci3 cz0 cz1 csY csI csX cs fn9
  simp only [ICode.dr, ICode.tl, ICode.hd, ICode.inn]
  repeat (first | simp (config := { maxSteps := 1000000 }) only [wset, hset, dset, bset, Nat.reduceAdd, Nat.reduceMul, Nat.reduceLeDiff, Nat.reduceEqDiff, pset, hlen, if_false, if_true, t20, hlX] | simp (config := { maxSteps := 1000000 }) (disch := first | (simp only [List.length_append, List.length_cons, List.length_nil] <;> omega) | rfl | omega | fail) only [kset, wset, hset, dset, bset, Nat.reduceAdd, Nat.reduceMul, Nat.reduceLeDiff, Nat.reduceEqDiff, pset, hlen, if_false, if_true, t20, hlX])
  refine WL.inv T.mix (fun n ts' h' => ∃ (k : Nat) (g' : AHeap), k ≤ X.length ∧ n = X.length - k ∧ h' = W ++ [.cells [.bool p, .bool ((X.take k).any (brdS m))] true false] ++ g' ∧ ts'.length = 393 ∧ slot ts' 3 = slot ts 3 ∧ slot ts' 4 = slot ts 4 ∧ slot ts' 7 = slot ts 7 ∧ slot ts' 8 = slot ts 8 ∧ slot ts' 9 = slot ts 9 ∧ slot ts' 10 = slot ts 10 ∧ slot ts' 12 = slot ts 12 ∧ slot ts' 14 = slot ts 14 ∧ slot ts' 16 = slot ts 16 ∧ slot ts' 18 = slot ts 18 ∧ slot ts' 19 = slot ts 19 ∧ slot ts' 128 = slot ts 128 ∧ slot ts' 129 = slot ts 129 ∧ slot ts' 20 = slot ts 20 ∧ slot ts' 17 = .int .i64 (volL (lowsS m) c (X.take k)) ∧ slot ts' 133 = sX ∧ slot ts' 134 = .int .i64 X.length ∧ slot ts' 135 = .int .i64 k) X.length
    ⟨0, g, by omega, rfl, rfl, (by simp only [wset, hset, dset, bset, Nat.reduceAdd, Nat.reduceMul, Nat.reduceLeDiff, Nat.reduceEqDiff, pset, hlen, if_false, if_true, t20]), (by simp only [wset, hset, dset, bset, Nat.reduceAdd, Nat.reduceMul, Nat.reduceLeDiff, Nat.reduceEqDiff, pset, hlen, if_false, if_true, t20]), (by simp only [wset, hset, dset, bset, Nat.reduceAdd, Nat.reduceMul, Nat.reduceLeDiff, Nat.reduceEqDiff, pset, hlen, if_false, if_true, t20]), (by simp only [wset, hset, dset, bset, Nat.reduceAdd, Nat.reduceMul, Nat.reduceLeDiff, Nat.reduceEqDiff, pset, hlen, if_false, if_true, t20]), (by simp only [wset, hset, dset, bset, Nat.reduceAdd, Nat.reduceMul, Nat.reduceLeDiff, Nat.reduceEqDiff, pset, hlen, if_false, if_true, t20]), (by simp only [wset, hset, dset, bset, Nat.reduceAdd, Nat.reduceMul, Nat.reduceLeDiff, Nat.reduceEqDiff, pset, hlen, if_false, if_true, t20]), (by simp only [wset, hset, dset, bset, Nat.reduceAdd, Nat.reduceMul, Nat.reduceLeDiff, Nat.reduceEqDiff, pset, hlen, if_false, if_true, t20]), (by simp only [wset, hset, dset, bset, Nat.reduceAdd, Nat.reduceMul, Nat.reduceLeDiff, Nat.reduceEqDiff, pset, hlen, if_false, if_true, t20]), (by simp only [wset, hset, dset, bset, Nat.reduceAdd, Nat.reduceMul, Nat.reduceLeDiff, Nat.reduceEqDiff, pset, hlen, if_false, if_true, t20]), (by simp only [wset, hset, dset, bset, Nat.reduceAdd, Nat.reduceMul, Nat.reduceLeDiff, Nat.reduceEqDiff, pset, hlen, if_false, if_true, t20]), (by simp only [wset, hset, dset, bset, Nat.reduceAdd, Nat.reduceMul, Nat.reduceLeDiff, Nat.reduceEqDiff, pset, hlen, if_false, if_true, t20]), (by simp only [wset, hset, dset, bset, Nat.reduceAdd, Nat.reduceMul, Nat.reduceLeDiff, Nat.reduceEqDiff, pset, hlen, if_false, if_true, t20]), (by simp only [wset, hset, dset, bset, Nat.reduceAdd, Nat.reduceMul, Nat.reduceLeDiff, Nat.reduceEqDiff, pset, hlen, if_false, if_true, t20]), (by simp only [wset, hset, dset, bset, Nat.reduceAdd, Nat.reduceMul, Nat.reduceLeDiff, Nat.reduceEqDiff, pset, hlen, if_false, if_true, t20]), (by simp only [wset, hset, dset, bset, Nat.reduceAdd, Nat.reduceMul, Nat.reduceLeDiff, Nat.reduceEqDiff, pset, hlen, if_false, if_true, t20]), (by simp only [wset, hset, dset, bset, Nat.reduceAdd, Nat.reduceMul, Nat.reduceLeDiff, Nat.reduceEqDiff, pset, hlen, if_false, if_true, t17]; rfl), (by simp only [wset, hset, dset, bset, Nat.reduceAdd, Nat.reduceMul, Nat.reduceLeDiff, Nat.reduceEqDiff, pset, hlen, if_false, if_true, t20]), (by simp only [wset, hset, dset, bset, Nat.reduceAdd, Nat.reduceMul, Nat.reduceLeDiff, Nat.reduceEqDiff, pset, hlen, if_false, if_true, t20]), (by simp only [wset, hset, dset, bset, Nat.reduceAdd, Nat.reduceMul, Nat.reduceLeDiff, Nat.reduceEqDiff, pset, hlen, if_false, if_true, t20]; rfl)⟩ ?_
  rintro _ ts' _ ⟨k, g', hk, rfl, rfl, hlen', u3, u4, u7, u8, u9, u10, u12, u14, u16, u18, u19, u128, u129, u20, u17, u133, u134, u135⟩
  have hlen0 := hlen
  clear hlen
  have hlen := hlen'
  clear hlen'
  by_cases hlt : k < X.length
  · have e3 : (k : Int) < X.length := by omega
    have hxm := List.getElem_mem hlt
    have hx := hX _ hxm
    have hv := volL_s (D := lowsS m) (c := c) hlt
    have hb0 := volL_bd (D := lowsS m) (c := c) (L := X.take k) fun y hy => hbd y (List.mem_of_mem_take hy)
    have hkl : (X.take k).length = k := by rw [List.length_take]; omega
    rw [hkl] at hb0
    have hany : (X.take (k + 1)).any (brdS m) = ((X.take k).any (brdS m) || brdS m X[k]) := by
      rw [List.take_add_one, List.getElem?_eq_getElem hlt, List.any_append]; simp
    obtain ⟨n, hn⟩ := Int.eq_ofNat_of_zero_le hx.1.1
    have hnl : n < m.deps.length := by have := hx.1.2; have := v.l; omega
    have hdp : dI (lowsS m) X[k] = m.deps[n].1 := by
      rw [low_dp, hn, dpS, Int.toNat_natCast, List.getD_eq_getElem?_getD, List.getElem?_eq_getElem hnl, Option.getD_some]
    rw [hdp] at hv hx
    have hix := oX.ixm (kk := .i64) hlt
    have l1 := fun {kk : AHeap} (e : Ext W kk) => oX.l1m hlt rfl e
    have d1 : decide ((n : Int) < 0) = false := decide_eq_false (by omega)
    have d2 : decide ((m.deps.length : Int) ≤ n) = false := decide_eq_false (by omega)
    have hgo := fun (ts1 : TS) (g1 : AHeap) (ks1 : List Kt) (p0 : ts1.length = 393) (p3 : slot ts1 3 = .ptr b3 0) (p8 : slot ts1 8 = .int .i64 c) (p10 : slot ts1 10 = y) (pa : slot ts1 17 = .int .i64 (volL (lowsS m) c (X.take k))) (p18 : slot ts1 18 = .ptr W.length 0) (p19 : slot ts1 19 = .int .i64 1) (p22 : slot ts1 22 = .int .i64 n) (Q1 : Ex → TS → AHeap → Prop) =>
      closes_J1 T (m := m) (sm := sm) (y := y) (W := W) (g := g1) (ts := ts1) (c := c) (a := volL (lowsS m) c (X.take k)) (n := n) (b3 := b3) (B := B) (p := p) (q := (X.take k).any (brdS m)) (ks := ks1) (Q := Q1) p0 v hcb hnl p3 p8 p10 pa p18 p19 p22 m3 hs hx.2 (by omega)
    rw [hn] at l1 hany
    have hwk := wrapN (show k + 1 < 2 ^ 63 by omega)
    have v3 : slot ts' 3 = .ptr b3 0 := by rw [u3]; exact t3
    have v8 : slot ts' 8 = .int .i64 c := by rw [u8]; exact t8
    have v10 : slot ts' 10 = y := by rw [u10]; exact t10
    have v18 : slot ts' 18 = .ptr W.length 0 := by rw [u18]; exact t18
    have v19 : slot ts' 19 = .int .i64 1 := by rw [u19]; exact t19
    have v20 : slot ts' 20 = sX := by rw [u20]; exact t20
    by_cases hk0 : k = 0
    · have e5 : decide (0 < (k : Int)) = false := decide_eq_false (by omega)
      repeat (first | simp (config := { maxSteps := 1000000 }) only [wset, hset, dset, bset, Nat.reduceAdd, Nat.reduceMul, Nat.reduceLeDiff, Nat.reduceEqDiff, pset, hlen, if_false, if_true, v3, v20, u133, u134, u135, l3, hlm, e3, decide_true, hix, l1, d1, d2, e5] | simp (config := { maxSteps := 1000000 }) (disch := first | (simp only [List.length_append, List.length_cons, List.length_nil] <;> omega) | rfl | omega | fail) only [kset, wset, hset, dset, bset, Nat.reduceAdd, Nat.reduceMul, Nat.reduceLeDiff, Nat.reduceEqDiff, pset, hlen, if_false, if_true, v3, v20, u133, u134, u135, l3, hlm, e3, decide_true, hix, l1, d1, d2, e5])
      refine hgo _ _ _ (by simp only [wset, hset, dset, bset, Nat.reduceAdd, Nat.reduceMul, Nat.reduceLeDiff, Nat.reduceEqDiff, pset, hlen, if_false, if_true, v3]) (by simp only [wset, hset, dset, bset, Nat.reduceAdd, Nat.reduceMul, Nat.reduceLeDiff, Nat.reduceEqDiff, pset, hlen, if_false, if_true, v3]) (by simp only [wset, hset, dset, bset, Nat.reduceAdd, Nat.reduceMul, Nat.reduceLeDiff, Nat.reduceEqDiff, pset, hlen, if_false, if_true, v8]) (by simp only [wset, hset, dset, bset, Nat.reduceAdd, Nat.reduceMul, Nat.reduceLeDiff, Nat.reduceEqDiff, pset, hlen, if_false, if_true, v10]) (by simp only [wset, hset, dset, bset, Nat.reduceAdd, Nat.reduceMul, Nat.reduceLeDiff, Nat.reduceEqDiff, pset, hlen, if_false, if_true, u17]) (by simp only [wset, hset, dset, bset, Nat.reduceAdd, Nat.reduceMul, Nat.reduceLeDiff, Nat.reduceEqDiff, pset, hlen, if_false, if_true, v18]) (by simp only [wset, hset, dset, bset, Nat.reduceAdd, Nat.reduceMul, Nat.reduceLeDiff, Nat.reduceEqDiff, pset, hlen, if_false, if_true, v19]) (by simp only [wset, hset, dset, bset, Nat.reduceAdd, Nat.reduceMul, Nat.reduceLeDiff, Nat.reduceEqDiff, pset, hlen, if_false, if_true, v3]) _ ?_
      intro ts2 g2 hlen2 j3 j4 j7 j8 j9 j10 j12 j14 j16 j18 j19 j20 j128 j129 j133 j134 j135 jacc
      have w3 : slot ts2 3 = slot ts 3 := by rw [j3]; simp only [wset, hset, dset, bset, Nat.reduceAdd, Nat.reduceMul, Nat.reduceLeDiff, Nat.reduceEqDiff, pset, hlen, if_false, if_true, u3]
      have w4 : slot ts2 4 = slot ts 4 := by rw [j4]; simp only [wset, hset, dset, bset, Nat.reduceAdd, Nat.reduceMul, Nat.reduceLeDiff, Nat.reduceEqDiff, pset, hlen, if_false, if_true, u4]
      have w7 : slot ts2 7 = slot ts 7 := by rw [j7]; simp only [wset, hset, dset, bset, Nat.reduceAdd, Nat.reduceMul, Nat.reduceLeDiff, Nat.reduceEqDiff, pset, hlen, if_false, if_true, u7]
      have w8 : slot ts2 8 = slot ts 8 := by rw [j8]; simp only [wset, hset, dset, bset, Nat.reduceAdd, Nat.reduceMul, Nat.reduceLeDiff, Nat.reduceEqDiff, pset, hlen, if_false, if_true, u8]
      have w9 : slot ts2 9 = slot ts 9 := by rw [j9]; simp only [wset, hset, dset, bset, Nat.reduceAdd, Nat.reduceMul, Nat.reduceLeDiff, Nat.reduceEqDiff, pset, hlen, if_false, if_true, u9]
      have w10 : slot ts2 10 = slot ts 10 := by rw [j10]; simp only [wset, hset, dset, bset, Nat.reduceAdd, Nat.reduceMul, Nat.reduceLeDiff, Nat.reduceEqDiff, pset, hlen, if_false, if_true, u10]
      have w12 : slot ts2 12 = slot ts 12 := by rw [j12]; simp only [wset, hset, dset, bset, Nat.reduceAdd, Nat.reduceMul, Nat.reduceLeDiff, Nat.reduceEqDiff, pset, hlen, if_false, if_true, u12]
      have w14 : slot ts2 14 = slot ts 14 := by rw [j14]; simp only [wset, hset, dset, bset, Nat.reduceAdd, Nat.reduceMul, Nat.reduceLeDiff, Nat.reduceEqDiff, pset, hlen, if_false, if_true, u14]
      have w16 : slot ts2 16 = slot ts 16 := by rw [j16]; simp only [wset, hset, dset, bset, Nat.reduceAdd, Nat.reduceMul, Nat.reduceLeDiff, Nat.reduceEqDiff, pset, hlen, if_false, if_true, u16]
      have w18 : slot ts2 18 = slot ts 18 := by rw [j18]; simp only [wset, hset, dset, bset, Nat.reduceAdd, Nat.reduceMul, Nat.reduceLeDiff, Nat.reduceEqDiff, pset, hlen, if_false, if_true, u18]
      have w19 : slot ts2 19 = slot ts 19 := by rw [j19]; simp only [wset, hset, dset, bset, Nat.reduceAdd, Nat.reduceMul, Nat.reduceLeDiff, Nat.reduceEqDiff, pset, hlen, if_false, if_true, u19]
      have w128 : slot ts2 128 = slot ts 128 := by rw [j128]; simp only [wset, hset, dset, bset, Nat.reduceAdd, Nat.reduceMul, Nat.reduceLeDiff, Nat.reduceEqDiff, pset, hlen, if_false, if_true, u128]
      have w129 : slot ts2 129 = slot ts 129 := by rw [j129]; simp only [wset, hset, dset, bset, Nat.reduceAdd, Nat.reduceMul, Nat.reduceLeDiff, Nat.reduceEqDiff, pset, hlen, if_false, if_true, u129]
      have w20 : slot ts2 20 = slot ts 20 := by rw [j20]; simp only [wset, hset, dset, bset, Nat.reduceAdd, Nat.reduceMul, Nat.reduceLeDiff, Nat.reduceEqDiff, pset, hlen, if_false, if_true, u20]
      have w133 : slot ts2 133 = sX := by rw [j133]; simp only [wset, hset, dset, bset, Nat.reduceAdd, Nat.reduceMul, Nat.reduceLeDiff, Nat.reduceEqDiff, pset, hlen, if_false, if_true, u133]
      have w134 : slot ts2 134 = .int .i64 X.length := by rw [j134]; simp only [wset, hset, dset, bset, Nat.reduceAdd, Nat.reduceMul, Nat.reduceLeDiff, Nat.reduceEqDiff, pset, hlen, if_false, if_true, u134]
      have w135 : slot ts2 135 = .int .i64 k := by rw [j135]; simp only [wset, hset, dset, bset, Nat.reduceAdd, Nat.reduceMul, Nat.reduceLeDiff, Nat.reduceEqDiff, pset, hlen, if_false, if_true, u135]
      have wacc : slot ts2 17 = .int .i64 (volL (lowsS m) c (X.take (k + 1))) := by rw [jacc, hv]
      have hlen := hlen2
      repeat (first | simp (config := { maxSteps := 1000000 }) only [wset, hset, dset, bset, Nat.reduceAdd, Nat.reduceMul, Nat.reduceLeDiff, Nat.reduceEqDiff, pset, hlen, if_false, if_true, w133, w134, w135, hwk] | simp (config := { maxSteps := 1000000 }) (disch := first | (simp only [List.length_append, List.length_cons, List.length_nil] <;> omega) | rfl | omega | fail) only [kset, wset, hset, dset, bset, Nat.reduceAdd, Nat.reduceMul, Nat.reduceLeDiff, Nat.reduceEqDiff, pset, hlen, if_false, if_true, w133, w134, w135, hwk])
      refine ⟨_, by omega, k + 1, g2, by omega, rfl, by rw [hany], w3, w4, w7, w8, w9, w10, w12, w14, w16, w18, w19, w128, w129, w20, wacc, rfl⟩
    · have e5 : decide (0 < (k : Int)) = true := decide_eq_true (by omega)
      have hkp : k - 1 < X.length := by omega
      have hixp := oX.ixm (kk := .i64) hkp
      have lp := fun {kk : AHeap} (e : Ext W kk) => oX.l1m hkp rfl e
      have w1 : IntKind.i64.wrap ((k : Int) - 1) = ((k - 1 : Nat) : Int) := by rw [wrap_in (by omega) (by omega)]; omega
      have hpl := List.pairwise_iff_getElem.1 hXs (k - 1) k hkp hlt (by omega)
      rw [hn] at hpl
      have e6 : decide ((n : Int) ≤ X[k - 1]) = false := decide_eq_false (by omega)
      repeat (first | simp (config := { maxSteps := 1000000 }) only [wset, hset, dset, bset, Nat.reduceAdd, Nat.reduceMul, Nat.reduceLeDiff, Nat.reduceEqDiff, pset, hlen, if_false, if_true, v3, v20, u133, u134, u135, l3, hlm, e3, decide_true, hix, l1, d1, d2, e5, hixp, lp, w1, e6] | simp (config := { maxSteps := 1000000 }) (disch := first | (simp only [List.length_append, List.length_cons, List.length_nil] <;> omega) | rfl | omega | fail) only [kset, wset, hset, dset, bset, Nat.reduceAdd, Nat.reduceMul, Nat.reduceLeDiff, Nat.reduceEqDiff, pset, hlen, if_false, if_true, v3, v20, u133, u134, u135, l3, hlm, e3, decide_true, hix, l1, d1, d2, e5, hixp, lp, w1, e6])
      refine hgo _ _ _ (by simp only [wset, hset, dset, bset, Nat.reduceAdd, Nat.reduceMul, Nat.reduceLeDiff, Nat.reduceEqDiff, pset, hlen, if_false, if_true, v3]) (by simp only [wset, hset, dset, bset, Nat.reduceAdd, Nat.reduceMul, Nat.reduceLeDiff, Nat.reduceEqDiff, pset, hlen, if_false, if_true, v3]) (by simp only [wset, hset, dset, bset, Nat.reduceAdd, Nat.reduceMul, Nat.reduceLeDiff, Nat.reduceEqDiff, pset, hlen, if_false, if_true, v8]) (by simp only [wset, hset, dset, bset, Nat.reduceAdd, Nat.reduceMul, Nat.reduceLeDiff, Nat.reduceEqDiff, pset, hlen, if_false, if_true, v10]) (by simp only [wset, hset, dset, bset, Nat.reduceAdd, Nat.reduceMul, Nat.reduceLeDiff, Nat.reduceEqDiff, pset, hlen, if_false, if_true, u17]) (by simp only [wset, hset, dset, bset, Nat.reduceAdd, Nat.reduceMul, Nat.reduceLeDiff, Nat.reduceEqDiff, pset, hlen, if_false, if_true, v18]) (by simp only [wset, hset, dset, bset, Nat.reduceAdd, Nat.reduceMul, Nat.reduceLeDiff, Nat.reduceEqDiff, pset, hlen, if_false, if_true, v19]) (by simp only [wset, hset, dset, bset, Nat.reduceAdd, Nat.reduceMul, Nat.reduceLeDiff, Nat.reduceEqDiff, pset, hlen, if_false, if_true, v3]) _ ?_
      intro ts2 g2 hlen2 j3 j4 j7 j8 j9 j10 j12 j14 j16 j18 j19 j20 j128 j129 j133 j134 j135 jacc
      have w3 : slot ts2 3 = slot ts 3 := by rw [j3]; simp only [wset, hset, dset, bset, Nat.reduceAdd, Nat.reduceMul, Nat.reduceLeDiff, Nat.reduceEqDiff, pset, hlen, if_false, if_true, u3]
      have w4 : slot ts2 4 = slot ts 4 := by rw [j4]; simp only [wset, hset, dset, bset, Nat.reduceAdd, Nat.reduceMul, Nat.reduceLeDiff, Nat.reduceEqDiff, pset, hlen, if_false, if_true, u4]
      have w7 : slot ts2 7 = slot ts 7 := by rw [j7]; simp only [wset, hset, dset, bset, Nat.reduceAdd, Nat.reduceMul, Nat.reduceLeDiff, Nat.reduceEqDiff, pset, hlen, if_false, if_true, u7]
      have w8 : slot ts2 8 = slot ts 8 := by rw [j8]; simp only [wset, hset, dset, bset, Nat.reduceAdd, Nat.reduceMul, Nat.reduceLeDiff, Nat.reduceEqDiff, pset, hlen, if_false, if_true, u8]
      have w9 : slot ts2 9 = slot ts 9 := by rw [j9]; simp only [wset, hset, dset, bset, Nat.reduceAdd, Nat.reduceMul, Nat.reduceLeDiff, Nat.reduceEqDiff, pset, hlen, if_false, if_true, u9]
      have w10 : slot ts2 10 = slot ts 10 := by rw [j10]; simp only [wset, hset, dset, bset, Nat.reduceAdd, Nat.reduceMul, Nat.reduceLeDiff, Nat.reduceEqDiff, pset, hlen, if_false, if_true, u10]
      have w12 : slot ts2 12 = slot ts 12 := by rw [j12]; simp only [wset, hset, dset, bset, Nat.reduceAdd, Nat.reduceMul, Nat.reduceLeDiff, Nat.reduceEqDiff, pset, hlen, if_false, if_true, u12]
      have w14 : slot ts2 14 = slot ts 14 := by rw [j14]; simp only [wset, hset, dset, bset, Nat.reduceAdd, Nat.reduceMul, Nat.reduceLeDiff, Nat.reduceEqDiff, pset, hlen, if_false, if_true, u14]
      have w16 : slot ts2 16 = slot ts 16 := by rw [j16]; simp only [wset, hset, dset, bset, Nat.reduceAdd, Nat.reduceMul, Nat.reduceLeDiff, Nat.reduceEqDiff, pset, hlen, if_false, if_true, u16]
      have w18 : slot ts2 18 = slot ts 18 := by rw [j18]; simp only [wset, hset, dset, bset, Nat.reduceAdd, Nat.reduceMul, Nat.reduceLeDiff, Nat.reduceEqDiff, pset, hlen, if_false, if_true, u18]
      have w19 : slot ts2 19 = slot ts 19 := by rw [j19]; simp only [wset, hset, dset, bset, Nat.reduceAdd, Nat.reduceMul, Nat.reduceLeDiff, Nat.reduceEqDiff, pset, hlen, if_false, if_true, u19]
      have w128 : slot ts2 128 = slot ts 128 := by rw [j128]; simp only [wset, hset, dset, bset, Nat.reduceAdd, Nat.reduceMul, Nat.reduceLeDiff, Nat.reduceEqDiff, pset, hlen, if_false, if_true, u128]
      have w129 : slot ts2 129 = slot ts 129 := by rw [j129]; simp only [wset, hset, dset, bset, Nat.reduceAdd, Nat.reduceMul, Nat.reduceLeDiff, Nat.reduceEqDiff, pset, hlen, if_false, if_true, u129]
      have w20 : slot ts2 20 = slot ts 20 := by rw [j20]; simp only [wset, hset, dset, bset, Nat.reduceAdd, Nat.reduceMul, Nat.reduceLeDiff, Nat.reduceEqDiff, pset, hlen, if_false, if_true, u20]
      have w133 : slot ts2 133 = sX := by rw [j133]; simp only [wset, hset, dset, bset, Nat.reduceAdd, Nat.reduceMul, Nat.reduceLeDiff, Nat.reduceEqDiff, pset, hlen, if_false, if_true, u133]
      have w134 : slot ts2 134 = .int .i64 X.length := by rw [j134]; simp only [wset, hset, dset, bset, Nat.reduceAdd, Nat.reduceMul, Nat.reduceLeDiff, Nat.reduceEqDiff, pset, hlen, if_false, if_true, u134]
      have w135 : slot ts2 135 = .int .i64 k := by rw [j135]; simp only [wset, hset, dset, bset, Nat.reduceAdd, Nat.reduceMul, Nat.reduceLeDiff, Nat.reduceEqDiff, pset, hlen, if_false, if_true, u135]
      have wacc : slot ts2 17 = .int .i64 (volL (lowsS m) c (X.take (k + 1))) := by rw [jacc, hv]
      have hlen := hlen2
      repeat (first | simp (config := { maxSteps := 1000000 }) only [wset, hset, dset, bset, Nat.reduceAdd, Nat.reduceMul, Nat.reduceLeDiff, Nat.reduceEqDiff, pset, hlen, if_false, if_true, w133, w134, w135, hwk] | simp (config := { maxSteps := 1000000 }) (disch := first | (simp only [List.length_append, List.length_cons, List.length_nil] <;> omega) | rfl | omega | fail) only [kset, wset, hset, dset, bset, Nat.reduceAdd, Nat.reduceMul, Nat.reduceLeDiff, Nat.reduceEqDiff, pset, hlen, if_false, if_true, w133, w134, w135, hwk])
      refine ⟨_, by omega, k + 1, g2, by omega, rfl, by rw [hany], w3, w4, w7, w8, w9, w10, w12, w14, w16, w18, w19, w128, w129, w20, wacc, rfl⟩
  · have e3 : ¬ (k : Int) < X.length := by omega
    have e4 : k = X.length := by omega
    rw [e4, List.take_length] at u17
    repeat (first | simp (config := { maxSteps := 1000000 }) only [wset, hset, dset, bset, Nat.reduceAdd, Nat.reduceMul, Nat.reduceLeDiff, Nat.reduceEqDiff, pset, hlen, if_false, if_true, u133, u134, u135, e3, decide_false] | simp (config := { maxSteps := 1000000 }) (disch := first | (simp only [List.length_append, List.length_cons, List.length_nil] <;> omega) | rfl | omega | fail) only [kset, wset, hset, dset, bset, Nat.reduceAdd, Nat.reduceMul, Nat.reduceLeDiff, Nat.reduceEqDiff, pset, hlen, if_false, if_true, u133, u134, u135, e3, decide_false])
    rw [e4, List.take_length]
    exact K _ _ (by simp only [wset, hset, dset, bset, Nat.reduceAdd, Nat.reduceMul, Nat.reduceLeDiff, Nat.reduceEqDiff, pset, hlen, if_false, if_true, t20]) (by simp only [wset, hset, dset, bset, Nat.reduceAdd, Nat.reduceMul, Nat.reduceLeDiff, Nat.reduceEqDiff, pset, hlen, if_false, if_true, u3]) (by simp only [wset, hset, dset, bset, Nat.reduceAdd, Nat.reduceMul, Nat.reduceLeDiff, Nat.reduceEqDiff, pset, hlen, if_false, if_true, u4]) (by simp only [wset, hset, dset, bset, Nat.reduceAdd, Nat.reduceMul, Nat.reduceLeDiff, Nat.reduceEqDiff, pset, hlen, if_false, if_true, u7]) (by simp only [wset, hset, dset, bset, Nat.reduceAdd, Nat.reduceMul, Nat.reduceLeDiff, Nat.reduceEqDiff, pset, hlen, if_false, if_true, u8]) (by simp only [wset, hset, dset, bset, Nat.reduceAdd, Nat.reduceMul, Nat.reduceLeDiff, Nat.reduceEqDiff, pset, hlen, if_false, if_true, u9]) (by simp only [wset, hset, dset, bset, Nat.reduceAdd, Nat.reduceMul, Nat.reduceLeDiff, Nat.reduceEqDiff, pset, hlen, if_false, if_true, u10]) (by simp only [wset, hset, dset, bset, Nat.reduceAdd, Nat.reduceMul, Nat.reduceLeDiff, Nat.reduceEqDiff, pset, hlen, if_false, if_true, u12]) (by simp only [wset, hset, dset, bset, Nat.reduceAdd, Nat.reduceMul, Nat.reduceLeDiff, Nat.reduceEqDiff, pset, hlen, if_false, if_true, u14]) (by simp only [wset, hset, dset, bset, Nat.reduceAdd, Nat.reduceMul, Nat.reduceLeDiff, Nat.reduceEqDiff, pset, hlen, if_false, if_true, u16]) (by simp only [wset, hset, dset, bset, Nat.reduceAdd, Nat.reduceMul, Nat.reduceLeDiff, Nat.reduceEqDiff, pset, hlen, if_false, if_true, u18]) (by simp only [wset, hset, dset, bset, Nat.reduceAdd, Nat.reduceMul, Nat.reduceLeDiff, Nat.reduceEqDiff, pset, hlen, if_false, if_true, u19]) (by simp only [wset, hset, dset, bset, Nat.reduceAdd, Nat.reduceMul, Nat.reduceLeDiff, Nat.reduceEqDiff, pset, hlen, if_false, if_true, u128]) (by simp only [wset, hset, dset, bset, Nat.reduceAdd, Nat.reduceMul, Nat.reduceLeDiff, Nat.reduceEqDiff, pset, hlen, if_false, if_true, u129]) (by simp only [wset, hset, dset, bset, Nat.reduceAdd, Nat.reduceMul, Nat.reduceLeDiff, Nat.reduceEqDiff, pset, hlen, if_false, if_true, u17])

set_option maxRecDepth 10000 in
set_option maxHeartbeats 1000000 in
theorem closes_G2 {W : AHeap} {ts : TS} {B L2 L4 : List Int} {y y2 y4 : AV} (hlen : ts.length = 393) (t10 : slot ts 10 = y) (t27 : slot ts 27 = y2) (t34 : slot ts 34 = y4)
    (o10 : IsSl W y 1 (B.map intRow)) (o2 : IsSl W y2 1 (L2.map intRow)) (o4 : IsSl W y4 1 (L4.map intRow)) (lb : B.length ≤ 256) (l2 : L2.length ≤ 256) (l4 : L4.length ≤ 256) (hB : ∀ k ∈ B, k ∈ L2 ∧ k ∈ L4) (he : Ext h W) :
    WC P inFn (csT 20) [] ts W (FQ [(6, none)] fun v h' => Ext h h' ∧ v = .bool true) := by
  unfold csT fn9
  simp only [ICode.dr, ICode.tl]
  have hlm := fun G => o10.lenm G
  repeat (first | simp (config := { maxSteps := 1000000 }) only [wset, hset, dset, bset, Nat.reduceAdd, Nat.reduceMul, Nat.reduceLeDiff, Nat.reduceEqDiff, pset, hlen, if_false, if_true, t10, hlm] | simp (config := { maxSteps := 1000000 }) (disch := first | (simp only [List.length_append, List.length_cons, List.length_nil] <;> omega) | rfl | omega | fail) only [kset, wset, hset, dset, bset, Nat.reduceAdd, Nat.reduceMul, Nat.reduceLeDiff, Nat.reduceEqDiff, pset, hlen, if_false, if_true, t10, hlm])
  refine WL.inv T.mix (fun n ts h' => ∃ k : Nat, k ≤ B.length ∧ n = B.length - k ∧ Ext W h' ∧ ts.length = 393 ∧ slot ts 27 = y2 ∧ slot ts 34 = y4 ∧ slot ts 376 = y ∧ slot ts 377 = .int .i64 B.length ∧ slot ts 378 = .int .i64 k) B.length
    ⟨0, by omega, rfl, by first | exact (by repeat first | with_reducible exact Ext.refl _ | refine Ext.app _ ?_) | simp, (by simp only [wset, hset, dset, bset, Nat.reduceAdd, Nat.reduceMul, Nat.reduceLeDiff, Nat.reduceEqDiff, pset, hlen, if_false, if_true, t10]), (by simp only [wset, hset, dset, bset, Nat.reduceAdd, Nat.reduceMul, Nat.reduceLeDiff, Nat.reduceEqDiff, pset, hlen, if_false, if_true, t27]), (by simp only [wset, hset, dset, bset, Nat.reduceAdd, Nat.reduceMul, Nat.reduceLeDiff, Nat.reduceEqDiff, pset, hlen, if_false, if_true, t34]), (by simp only [wset, hset, dset, bset, Nat.reduceAdd, Nat.reduceMul, Nat.reduceLeDiff, Nat.reduceEqDiff, pset, hlen, if_false, if_true, t10]), (by simp only [wset, hset, dset, bset, Nat.reduceAdd, Nat.reduceMul, Nat.reduceLeDiff, Nat.reduceEqDiff, pset, hlen, if_false, if_true, t10]), (by simp only [wset, hset, dset, bset, Nat.reduceAdd, Nat.reduceMul, Nat.reduceLeDiff, Nat.reduceEqDiff, pset, hlen, if_false, if_true, t10]; rfl)⟩ ?_
  clear t10 t27 t34 hlen ts
  rintro _ ts _ ⟨k, hk, rfl, ⟨g, rfl⟩, hlen, t27, t34, t376, t377, t378⟩
  by_cases hlt : k < B.length
  · have e3 : (k : Int) < B.length := by omega
    have hix := o10.ixm (kk := .i64) hlt
    have l1 := fun {kk : AHeap} (e : Ext W kk) => o10.l1m hlt rfl e
    have hm := hB _ (List.getElem_mem hlt)
    obtain ⟨c, hc⟩ : ∃ c, c = B[k] := ⟨_, rfl⟩
    rw [← hc] at l1 hm
    have d2 : decide (c ∈ L2) = true := decide_eq_true hm.1
    have d4 : decide (c ∈ L4) = true := decide_eq_true hm.2
    have hwk := wrapN (show k + 1 < 2 ^ 63 by omega)
    repeat (first | simp (config := { maxSteps := 1000000 }) only [wset, hset, dset, bset, Nat.reduceAdd, Nat.reduceMul, Nat.reduceLeDiff, Nat.reduceEqDiff, pset, hlen, if_false, if_true, t27, t34, t376, t377, t378, e3, decide_true, hix, l1] | simp (config := { maxSteps := 1000000 }) (disch := first | (simp only [List.length_append, List.length_cons, List.length_nil] <;> omega) | rfl | omega | fail) only [kset, wset, hset, dset, bset, Nat.reduceAdd, Nat.reduceMul, Nat.reduceLeDiff, Nat.reduceEqDiff, pset, hlen, if_false, if_true, t27, t34, t376, t377, t378, e3, decide_true, hix, l1])
    refine WF.res T.c70 (r70 T (o2.ext (by repeat first | with_reducible exact Ext.refl _ | refine Ext.app _ ?_)) (by omega) c) ?_
    rintro _ g1 rfl
    repeat (first | simp (config := { maxSteps := 1000000 }) only [wset, hset, dset, bset, Nat.reduceAdd, Nat.reduceMul, Nat.reduceLeDiff, Nat.reduceEqDiff, pset, hlen, if_false, if_true, t27, t34, t376, t377, t378, d2, Bool.not_true] | simp (config := { maxSteps := 1000000 }) (disch := first | (simp only [List.length_append, List.length_cons, List.length_nil] <;> omega) | rfl | omega | fail) only [kset, wset, hset, dset, bset, Nat.reduceAdd, Nat.reduceMul, Nat.reduceLeDiff, Nat.reduceEqDiff, pset, hlen, if_false, if_true, t27, t34, t376, t377, t378, d2, Bool.not_true])
    refine WF.res T.c70 (r70 T (o4.ext (by repeat first | with_reducible exact Ext.refl _ | refine Ext.app _ ?_)) (by omega) c) ?_
    rintro _ g2 rfl
    repeat (first | simp (config := { maxSteps := 1000000 }) only [wset, hset, dset, bset, Nat.reduceAdd, Nat.reduceMul, Nat.reduceLeDiff, Nat.reduceEqDiff, pset, hlen, if_false, if_true, t27, t34, t376, t377, t378, d4, Bool.not_true, hwk] | simp (config := { maxSteps := 1000000 }) (disch := first | (simp only [List.length_append, List.length_cons, List.length_nil] <;> omega) | rfl | omega | fail) only [kset, wset, hset, dset, bset, Nat.reduceAdd, Nat.reduceMul, Nat.reduceLeDiff, Nat.reduceEqDiff, pset, hlen, if_false, if_true, t27, t34, t376, t377, t378, d4, Bool.not_true, hwk])
    refine ⟨_, by omega, k + 1, by omega, rfl, ?_⟩
    repeat (first | rfl | refine ⟨rfl, ?_⟩)
  · have e3 : ¬ (k : Int) < B.length := by omega
    repeat (first | simp (config := { maxSteps := 1000000 }) only [wset, hset, dset, bset, Nat.reduceAdd, Nat.reduceMul, Nat.reduceLeDiff, Nat.reduceEqDiff, pset, hlen, if_false, if_true, t27, t34, t376, t377, t378, e3, decide_false] | simp (config := { maxSteps := 1000000 }) (disch := first | (simp only [List.length_append, List.length_cons, List.length_nil] <;> omega) | rfl | omega | fail) only [kset, wset, hset, dset, bset, Nat.reduceAdd, Nat.reduceMul, Nat.reduceLeDiff, Nat.reduceEqDiff, pset, hlen, if_false, if_true, t27, t34, t376, t377, t378, e3, decide_false])
    first | exact he.trans (by repeat first | with_reducible exact Ext.refl _ | refine Ext.app _ ?_) | exact ⟨he.trans (by repeat first | with_reducible exact Ext.refl _ | refine Ext.app _ ?_), trivial⟩

set_option maxRecDepth 10000 in
set_option maxHeartbeats 1000000 in
theorem closes_G {W : AHeap} {ts : TS} {A B L1 L2 L3 L4 : List Int} {x y x1 y2 x3 y4 : AV} (hlen : ts.length = 393) (t9 : slot ts 9 = x) (t10 : slot ts 10 = y) (t26 : slot ts 26 = x1) (t27 : slot ts 27 = y2) (t33 : slot ts 33 = x3) (t34 : slot ts 34 = y4)
    (o9 : IsSl W x 1 (A.map intRow)) (o10 : IsSl W y 1 (B.map intRow)) (o1 : IsSl W x1 1 (L1.map intRow)) (o2 : IsSl W y2 1 (L2.map intRow)) (o3 : IsSl W x3 1 (L3.map intRow)) (o4 : IsSl W y4 1 (L4.map intRow)) (la : A.length ≤ 256) (lb : B.length ≤ 256) (l1 : L1.length ≤ 256) (l2 : L2.length ≤ 256) (l3 : L3.length ≤ 256) (l4 : L4.length ≤ 256) (hA : ∀ k ∈ A, k ∈ L1 ∧ k ∈ L3) (hB : ∀ k ∈ B, k ∈ L2 ∧ k ∈ L4) (he : Ext h W) :
    WC P inFn (csT 19) [] ts W (FQ [(6, none)] fun v h' => Ext h h' ∧ v = .bool true) := by
  rw [cs_G]
  unfold cs fn9
  simp only [ICode.dr, ICode.tl, ICode.hd]
  have hlm := fun G => o9.lenm G
  repeat (first | simp (config := { maxSteps := 1000000 }) only [wset, hset, dset, bset, Nat.reduceAdd, Nat.reduceMul, Nat.reduceLeDiff, Nat.reduceEqDiff, pset, hlen, if_false, if_true, t9, hlm] | simp (config := { maxSteps := 1000000 }) (disch := first | (simp only [List.length_append, List.length_cons, List.length_nil] <;> omega) | rfl | omega | fail) only [kset, wset, hset, dset, bset, Nat.reduceAdd, Nat.reduceMul, Nat.reduceLeDiff, Nat.reduceEqDiff, pset, hlen, if_false, if_true, t9, hlm])
  refine WL.inv T.mix (fun n ts h' => ∃ k : Nat, k ≤ A.length ∧ n = A.length - k ∧ Ext W h' ∧ ts.length = 393 ∧ slot ts 10 = y ∧ slot ts 26 = x1 ∧ slot ts 27 = y2 ∧ slot ts 33 = x3 ∧ slot ts 34 = y4 ∧ slot ts 359 = x ∧ slot ts 360 = .int .i64 A.length ∧ slot ts 361 = .int .i64 k) A.length
    ⟨0, by omega, rfl, by first | exact (by repeat first | with_reducible exact Ext.refl _ | refine Ext.app _ ?_) | simp, (by simp only [wset, hset, dset, bset, Nat.reduceAdd, Nat.reduceMul, Nat.reduceLeDiff, Nat.reduceEqDiff, pset, hlen, if_false, if_true, t10]), (by simp only [wset, hset, dset, bset, Nat.reduceAdd, Nat.reduceMul, Nat.reduceLeDiff, Nat.reduceEqDiff, pset, hlen, if_false, if_true, t10]), (by simp only [wset, hset, dset, bset, Nat.reduceAdd, Nat.reduceMul, Nat.reduceLeDiff, Nat.reduceEqDiff, pset, hlen, if_false, if_true, t26]), (by simp only [wset, hset, dset, bset, Nat.reduceAdd, Nat.reduceMul, Nat.reduceLeDiff, Nat.reduceEqDiff, pset, hlen, if_false, if_true, t27]), (by simp only [wset, hset, dset, bset, Nat.reduceAdd, Nat.reduceMul, Nat.reduceLeDiff, Nat.reduceEqDiff, pset, hlen, if_false, if_true, t33]), (by simp only [wset, hset, dset, bset, Nat.reduceAdd, Nat.reduceMul, Nat.reduceLeDiff, Nat.reduceEqDiff, pset, hlen, if_false, if_true, t34]), (by simp only [wset, hset, dset, bset, Nat.reduceAdd, Nat.reduceMul, Nat.reduceLeDiff, Nat.reduceEqDiff, pset, hlen, if_false, if_true, t9]), (by simp only [wset, hset, dset, bset, Nat.reduceAdd, Nat.reduceMul, Nat.reduceLeDiff, Nat.reduceEqDiff, pset, hlen, if_false, if_true, t9]), (by simp only [wset, hset, dset, bset, Nat.reduceAdd, Nat.reduceMul, Nat.reduceLeDiff, Nat.reduceEqDiff, pset, hlen, if_false, if_true, t10]; rfl)⟩ ?_
  clear t9 t10 t26 t27 t33 t34 hlen ts
  rintro _ ts _ ⟨k, hk, rfl, ⟨g, rfl⟩, hlen, t10, t26, t27, t33, t34, t359, t360, t361⟩
  by_cases hlt : k < A.length
  · have e3 : (k : Int) < A.length := by omega
    have hix := o9.ixm (kk := .i64) hlt
    have ll := fun {kk : AHeap} (e : Ext W kk) => o9.l1m hlt rfl e
    have hm := hA _ (List.getElem_mem hlt)
    obtain ⟨c, hc⟩ : ∃ c, c = A[k] := ⟨_, rfl⟩
    rw [← hc] at ll hm
    have d2 : decide (c ∈ L1) = true := decide_eq_true hm.1
    have d4 : decide (c ∈ L3) = true := decide_eq_true hm.2
    have hwk := wrapN (show k + 1 < 2 ^ 63 by omega)
    repeat (first | simp (config := { maxSteps := 1000000 }) only [wset, hset, dset, bset, Nat.reduceAdd, Nat.reduceMul, Nat.reduceLeDiff, Nat.reduceEqDiff, pset, hlen, if_false, if_true, t10, t26, t27, t33, t34, t359, t360, t361, e3, decide_true, hix, ll] | simp (config := { maxSteps := 1000000 }) (disch := first | (simp only [List.length_append, List.length_cons, List.length_nil] <;> omega) | rfl | omega | fail) only [kset, wset, hset, dset, bset, Nat.reduceAdd, Nat.reduceMul, Nat.reduceLeDiff, Nat.reduceEqDiff, pset, hlen, if_false, if_true, t10, t26, t27, t33, t34, t359, t360, t361, e3, decide_true, hix, ll])
    refine WF.res T.c70 (r70 T (o1.ext (by repeat first | with_reducible exact Ext.refl _ | refine Ext.app _ ?_)) (by omega) c) ?_
    rintro _ g1 rfl
    repeat (first | simp (config := { maxSteps := 1000000 }) only [wset, hset, dset, bset, Nat.reduceAdd, Nat.reduceMul, Nat.reduceLeDiff, Nat.reduceEqDiff, pset, hlen, if_false, if_true, t10, t26, t27, t33, t34, t359, t360, t361, d2, Bool.not_true] | simp (config := { maxSteps := 1000000 }) (disch := first | (simp only [List.length_append, List.length_cons, List.length_nil] <;> omega) | rfl | omega | fail) only [kset, wset, hset, dset, bset, Nat.reduceAdd, Nat.reduceMul, Nat.reduceLeDiff, Nat.reduceEqDiff, pset, hlen, if_false, if_true, t10, t26, t27, t33, t34, t359, t360, t361, d2, Bool.not_true])
    refine WF.res T.c70 (r70 T (o3.ext (by repeat first | with_reducible exact Ext.refl _ | refine Ext.app _ ?_)) (by omega) c) ?_
    rintro _ g2 rfl
    repeat (first | simp (config := { maxSteps := 1000000 }) only [wset, hset, dset, bset, Nat.reduceAdd, Nat.reduceMul, Nat.reduceLeDiff, Nat.reduceEqDiff, pset, hlen, if_false, if_true, t10, t26, t27, t33, t34, t359, t360, t361, d4, Bool.not_true, hwk] | simp (config := { maxSteps := 1000000 }) (disch := first | (simp only [List.length_append, List.length_cons, List.length_nil] <;> omega) | rfl | omega | fail) only [kset, wset, hset, dset, bset, Nat.reduceAdd, Nat.reduceMul, Nat.reduceLeDiff, Nat.reduceEqDiff, pset, hlen, if_false, if_true, t10, t26, t27, t33, t34, t359, t360, t361, d4, Bool.not_true, hwk])
    refine ⟨_, by omega, k + 1, by omega, rfl, ?_⟩
    repeat (first | rfl | refine ⟨rfl, ?_⟩)
  · have e3 : ¬ (k : Int) < A.length := by omega
    repeat (first | simp (config := { maxSteps := 1000000 }) only [wset, hset, dset, bset, Nat.reduceAdd, Nat.reduceMul, Nat.reduceLeDiff, Nat.reduceEqDiff, pset, hlen, if_false, if_true, t10, t26, t27, t33, t34, t359, t360, t361, e3, decide_false] | simp (config := { maxSteps := 1000000 }) (disch := first | (simp only [List.length_append, List.length_cons, List.length_nil] <;> omega) | rfl | omega | fail) only [kset, wset, hset, dset, bset, Nat.reduceAdd, Nat.reduceMul, Nat.reduceLeDiff, Nat.reduceEqDiff, pset, hlen, if_false, if_true, t10, t26, t27, t33, t34, t359, t360, t361, e3, decide_false])
    exact closes_G2 T (B := B) (L2 := L2) (L4 := L4) (by simp only [wset, hset, dset, bset, Nat.reduceAdd, Nat.reduceMul, Nat.reduceLeDiff, Nat.reduceEqDiff, pset, hlen, if_false, if_true, t10]) (by simp only [wset, hset, dset, bset, Nat.reduceAdd, Nat.reduceMul, Nat.reduceLeDiff, Nat.reduceEqDiff, pset, hlen, if_false, if_true, t10]) (by simp only [wset, hset, dset, bset, Nat.reduceAdd, Nat.reduceMul, Nat.reduceLeDiff, Nat.reduceEqDiff, pset, hlen, if_false, if_true, t27]) (by simp only [wset, hset, dset, bset, Nat.reduceAdd, Nat.reduceMul, Nat.reduceLeDiff, Nat.reduceEqDiff, pset, hlen, if_false, if_true, t34]) (o10.ext (by repeat first | with_reducible exact Ext.refl _ | refine Ext.app _ ?_)) (o2.ext (by repeat first | with_reducible exact Ext.refl _ | refine Ext.app _ ?_)) (o4.ext (by repeat first | with_reducible exact Ext.refl _ | refine Ext.app _ ?_)) lb l2 l4 hB (Ext.trans he (by repeat first | with_reducible exact Ext.refl _ | refine Ext.app _ ?_))
set_option maxRecDepth 10000 in
set_option maxHeartbeats 1000000 in
theorem closes_H {W : AHeap} {ts : TS} {A B L1 L2 L3 L4 : List Int} {x y x1 y2 x3 y4 : AV} {sp vo w t : Int × Int} {b12 b14 b29 b31 : Nat} (hlen : ts.length = 393) (t9 : slot ts 9 = x) (t10 : slot ts 10 = y) (t12 : slot ts 12 = .ptr b12 0) (t14 : slot ts 14 = .ptr b14 0) (t26 : slot ts 26 = x1) (t27 : slot ts 27 = y2) (t28 : slot ts 28 = .int .i64 0) (t29 : slot ts 29 = .ptr b29 0) (t30 : slot ts 30 = .int .i64 0) (t31 : slot ts 31 = .ptr b31 0) (t32 : slot ts 32 = .int .i64 0) (t33 : slot ts 33 = x3) (t34 : slot ts 34 = y4) (t35 : slot ts 35 = .int .i64 0)
    (m12 : W[b12]? = some (.cells [.int .i64 vo.1, .int .i64 vo.2] true false)) (m14 : W[b14]? = some (.cells [.int .i64 sp.1, .int .i64 sp.2] true false)) (m29 : W[b29]? = some (.cells [.int .i64 w.1, .int .i64 w.2] true false)) (m31 : W[b31]? = some (.cells [.int .i64 t.1, .int .i64 t.2] true false))
    (hw : vo.1 ≤ w.1 ∧ vo.2 ≤ w.2) (ht : t.1 ≤ sp.1 ∧ t.2 ≤ sp.2)
    (o9 : IsSl W x 1 (A.map intRow)) (o10 : IsSl W y 1 (B.map intRow)) (o1 : IsSl W x1 1 (L1.map intRow)) (o2 : IsSl W y2 1 (L2.map intRow)) (o3 : IsSl W x3 1 (L3.map intRow)) (o4 : IsSl W y4 1 (L4.map intRow)) (la : A.length ≤ 256) (lb : B.length ≤ 256) (l1 : L1.length ≤ 256) (l2 : L2.length ≤ 256) (l3 : L3.length ≤ 256) (l4 : L4.length ≤ 256) (hA : ∀ k ∈ A, k ∈ L1 ∧ k ∈ L3) (hB : ∀ k ∈ B, k ∈ L2 ∧ k ∈ L4) (he : Ext h W) :
    WC P inFn (csT 18) [] ts W (FQ [(6, none)] fun v h' => Ext h h' ∧ v = .bool true) := by
  have l12 : ∀ n o, loadF n (.ptr b12 o) (fun z => W[z]?) = ldB n o (.cells [.int .i64 vo.1, .int .i64 vo.2] true false) := fun n o => loadF_at m12
  have l14 : ∀ n o, loadF n (.ptr b14 o) (fun z => W[z]?) = ldB n o (.cells [.int .i64 sp.1, .int .i64 sp.2] true false) := fun n o => loadF_at m14
  have l29 : ∀ n o, loadF n (.ptr b29 o) (fun z => W[z]?) = ldB n o (.cells [.int .i64 w.1, .int .i64 w.2] true false) := fun n o => loadF_at m29
  have l31 : ∀ n o, loadF n (.ptr b31 o) (fun z => W[z]?) = ldB n o (.cells [.int .i64 t.1, .int .i64 t.2] true false) := fun n o => loadF_at m31
  have w0 : IntKind.i64.wrap (0 + 0) = 0 := rfl
  have z0 : decide ((0 : Int) ≠ 0) = false := rfl
  have e1 : decide (w.1 < vo.1) = false := decide_eq_false (by omega)
  have e2 : decide (w.2 < vo.2) = false := decide_eq_false (by omega)
  have e3 : decide (sp.1 < t.1) = false := decide_eq_false (by omega)
  have e4 : decide (sp.2 < t.2) = false := decide_eq_false (by omega)
  rw [cs_H]
  unfold cs fn9
  simp only [ICode.dr, ICode.tl, ICode.hd]
  repeat (first | simp (config := { maxSteps := 1000000 }) only [wset, hset, dset, bset, Nat.reduceAdd, Nat.reduceMul, Nat.reduceLeDiff, Nat.reduceEqDiff, pset, hlen, if_false, if_true, t12, t14, t28, t29, t30, t31, t32, t35, w0, z0, l12, l14, l29, l31, e1, e2, e3, e4] | simp (config := { maxSteps := 1000000 }) (disch := first | (simp only [List.length_append, List.length_cons, List.length_nil] <;> omega) | rfl | omega | fail) only [kset, wset, hset, dset, bset, Nat.reduceAdd, Nat.reduceMul, Nat.reduceLeDiff, Nat.reduceEqDiff, pset, hlen, if_false, if_true, t12, t14, t28, t29, t30, t31, t32, t35, w0, z0, l12, l14, l29, l31, e1, e2, e3, e4])
  exact closes_G T (A := A) (B := B) (L1 := L1) (L2 := L2) (L3 := L3) (L4 := L4) (by simp only [wset, hset, dset, bset, Nat.reduceAdd, Nat.reduceMul, Nat.reduceLeDiff, Nat.reduceEqDiff, pset, hlen, if_false, if_true, t9]) (by simp only [wset, hset, dset, bset, Nat.reduceAdd, Nat.reduceMul, Nat.reduceLeDiff, Nat.reduceEqDiff, pset, hlen, if_false, if_true, t9]) (by simp only [wset, hset, dset, bset, Nat.reduceAdd, Nat.reduceMul, Nat.reduceLeDiff, Nat.reduceEqDiff, pset, hlen, if_false, if_true, t10]) (by simp only [wset, hset, dset, bset, Nat.reduceAdd, Nat.reduceMul, Nat.reduceLeDiff, Nat.reduceEqDiff, pset, hlen, if_false, if_true, t26]) (by simp only [wset, hset, dset, bset, Nat.reduceAdd, Nat.reduceMul, Nat.reduceLeDiff, Nat.reduceEqDiff, pset, hlen, if_false, if_true, t27]) (by simp only [wset, hset, dset, bset, Nat.reduceAdd, Nat.reduceMul, Nat.reduceLeDiff, Nat.reduceEqDiff, pset, hlen, if_false, if_true, t33]) (by simp only [wset, hset, dset, bset, Nat.reduceAdd, Nat.reduceMul, Nat.reduceLeDiff, Nat.reduceEqDiff, pset, hlen, if_false, if_true, t34]) o9 o10 o1 o2 o3 o4 la lb l1 l2 l3 l4 hA hB he

variable (S : SrtOk P)
include S
set_option maxRecDepth 10000 in
set_option maxHeartbeats 1000000 in
theorem closes_F {m : Mp} {sm s' : AV} {W : AHeap} {ts : TS} {x y : AV} {cell c : Int} {n b3 b12 b14 b24 : Nat} (hlen : ts.length = 393) (gl : Glb W) (v : MpV m) (hc : InM m cell) (hcb : 0 ≤ c ∧ c ≤ 65535) (hn : n < m.deps.length)
    (t3 : slot ts 3 = .ptr b3 0) (t7 : slot ts 7 = .int .i64 cell) (t8 : slot ts 8 = .int .i64 c) (t9 : slot ts 9 = x) (t10 : slot ts 10 = y) (t12 : slot ts 12 = .ptr b12 0) (t14 : slot ts 14 = .ptr b14 0) (t24 : slot ts 24 = .ptr b24 0)
    (m3 : W[b3]? = some (.cells [.int .i64 m.cols, .int .i64 m.rows, sm] true false)) (m12 : W[b12]? = some (.cells [.int .i64 (volL (highsS m) c (areaS m (highsS m) (c - 1) cell)), .int .i64 (volL (lowsS m) c (areaS m (lowsS m) (c - 1) cell))] true false)) (m14 : W[b14]? = some (.cells [.int .i64 (spillS m (lowsS m) cell), .int .i64 (spillS m (highsS m) cell)] true false)) (m24 : W[b24]? = some (.cells [.int .i64 m.cols, .int .i64 m.rows, s'] true false))
    (o9 : IsSl W x 1 ((areaS m (highsS m) (c - 1) cell).map intRow)) (o10 : IsSl W y 1 ((areaS m (lowsS m) (c - 1) cell).map intRow)) (hs' : IsSl W s' 2 ((shlM m n).deps.map ratRow))
    (hs : IsSl W sm 2 (m.deps.map ratRow)) (he : Ext h W) :
    WC P inFn (csT 14) [] ts W (FQ [(6, none)] fun v h' => Ext h h' ∧ v = .bool true) := by
  have q3 := (List.getElem?_eq_some_iff.1 m3).1
  have q24 := (List.getElem?_eq_some_iff.1 m24).1
  have l3 : ∀ {n : Option Nat} {o : Nat} {kk : AHeap}, Ext W kk → loadF n (.ptr b3 o) (fun z => kk[z]?) = ldB n o (.cells [.int .i64 m.cols, .int .i64 m.rows, sm] true false) := fun e => loadF_at (e.some m3)
  have l24 : ∀ {n : Option Nat} {o : Nat} {kk : AHeap}, Ext W kk → loadF n (.ptr b24 o) (fun z => kk[z]?) = ldB n o (.cells [.int .i64 m.cols, .int .i64 m.rows, s'] true false) := fun e => loadF_at (e.some m24)
  have v' := shl_v v hn
  have hl0 := mp_len v v.l
  have hl : m.deps.length ≤ 2 ^ 40 := by omega
  have hl' : (shlM m n).deps.length ≤ 2 ^ 40 := by rw [shl_row, List.length_set]; omega
  have hc' : InM (shlM m n) cell := hc
  have z1 : chkContS (shlM m n) cell c = 0 := chkCont_zero.2 ⟨⟨v', hc'⟩, by omega⟩
  have z2 : chkCellS (shlM m n) cell = 0 := chkCell_zero.2 ⟨v', hc'⟩
  have z3 : chkContS m cell (c + 1) = 0 := chkCont_zero.2 ⟨⟨v, hc⟩, by omega⟩
  have w1 : IntKind.i64.wrap (c + 1) = c + 1 := wrap_in (by omega) (by omega)
  have c0 := hs.one
  have c1 := hs'.one
  have lo := lowsS_ok v
  have hi := highsS_ok v
  have lo' := lowsS_ok v'
  have hi' := highsS_ok v'
  have ar : ∀ D a, areaS (shlM m n) D a cell = areaS m D a cell := fun D a => area_m (m := m) (m' := shlM m n) rfl rfl
  rw [cs_F]
  unfold cs fn9
  simp only [ICode.dr, ICode.tl, ICode.hd]
  repeat (first | simp (config := { maxSteps := 1000000 }) only [wset, hset, dset, bset, Nat.reduceAdd, Nat.reduceMul, Nat.reduceLeDiff, Nat.reduceEqDiff, pset, hlen, if_false, if_true, t7, t8, t24, l24, c1] | simp (config := { maxSteps := 1000000 }) (disch := first | (simp only [List.length_append, List.length_cons, List.length_nil] <;> omega) | rfl | omega | fail) only [kset, wset, hset, dset, bset, Nat.reduceAdd, Nat.reduceMul, Nat.reduceLeDiff, Nat.reduceEqDiff, pset, hlen, if_false, if_true, t7, t8, t24, l24, c1])
  refine WF.res T.c56 (r56 T S (m := shlM m n) (gl.ext (by repeat first | with_reducible exact Ext.refl _ | refine Ext.app _ ?_)) (hs'.ext (by repeat first | with_reducible exact Ext.refl _ | refine Ext.app _ ?_)) hl' cell c) ?_
  rintro _ g1 ⟨x1, y2, rfl, o1, o2⟩
  rw [regR, if_pos z1] at o1 o2
  rw [z1]
  simp only [ar] at o1 o2
  repeat (first | simp (config := { maxSteps := 1000000 }) only [wset, hset, dset, bset, Nat.reduceAdd, Nat.reduceMul, Nat.reduceLeDiff, Nat.reduceEqDiff, pset, hlen, if_false, if_true, t3, t7, t8, t24, l3, l24, c1] | simp (config := { maxSteps := 1000000 }) (disch := first | (simp only [List.length_append, List.length_cons, List.length_nil] <;> omega) | rfl | omega | fail) only [kset, wset, hset, dset, bset, Nat.reduceAdd, Nat.reduceMul, Nat.reduceLeDiff, Nat.reduceEqDiff, pset, hlen, if_false, if_true, t3, t7, t8, t24, l3, l24, c1])
  refine WF.res T.c55 (r55 T (m := shlM m n) (hs'.ext (by repeat first | with_reducible exact Ext.refl _ | refine Ext.app _ ?_)) hl') ?_
  rintro _ g2 ⟨s2, rfl, hf2⟩
  repeat (first | simp (config := { maxSteps := 1000000 }) only [wset, hset, dset, bset, Nat.reduceAdd, Nat.reduceMul, Nat.reduceLeDiff, Nat.reduceEqDiff, pset, hlen, if_false, if_true, t3, t7, t8, t24, l3, l24, c1, hf2.isSl.one] | simp (config := { maxSteps := 1000000 }) (disch := first | (simp only [List.length_append, List.length_cons, List.length_nil] <;> omega) | rfl | omega | fail) only [kset, wset, hset, dset, bset, Nat.reduceAdd, Nat.reduceMul, Nat.reduceLeDiff, Nat.reduceEqDiff, pset, hlen, if_false, if_true, t3, t7, t8, t24, l3, l24, c1, hf2.isSl.one])
  refine WF.res T.c57 (r57 T S (m := shlM m n) (gl.ext (by repeat first | with_reducible exact Ext.refl _ | refine Ext.app _ ?_)) hf2.isSl hl' cell c) ?_
  rintro _ g3 rfl
  rw [volR, if_pos z1, z1]
  simp only [ar]
  repeat (first | simp (config := { maxSteps := 1000000 }) only [wset, hset, dset, bset, Nat.reduceAdd, Nat.reduceMul, Nat.reduceLeDiff, Nat.reduceEqDiff, pset, hlen, if_false, if_true, t3, t7, t8, t24, l3, l24, c1] | simp (config := { maxSteps := 1000000 }) (disch := first | (simp only [List.length_append, List.length_cons, List.length_nil] <;> omega) | rfl | omega | fail) only [kset, wset, hset, dset, bset, Nat.reduceAdd, Nat.reduceMul, Nat.reduceLeDiff, Nat.reduceEqDiff, pset, hlen, if_false, if_true, t3, t7, t8, t24, l3, l24, c1])
  refine WF.res T.c55 (r55 T (m := shlM m n) (hs'.ext (by repeat first | with_reducible exact Ext.refl _ | refine Ext.app _ ?_)) hl') ?_
  rintro _ g4 ⟨s4, rfl, hf4⟩
  repeat (first | simp (config := { maxSteps := 1000000 }) only [wset, hset, dset, bset, Nat.reduceAdd, Nat.reduceMul, Nat.reduceLeDiff, Nat.reduceEqDiff, pset, hlen, if_false, if_true, t3, t7, t8, t24, l3, l24, c1, hf4.isSl.one] | simp (config := { maxSteps := 1000000 }) (disch := first | (simp only [List.length_append, List.length_cons, List.length_nil] <;> omega) | rfl | omega | fail) only [kset, wset, hset, dset, bset, Nat.reduceAdd, Nat.reduceMul, Nat.reduceLeDiff, Nat.reduceEqDiff, pset, hlen, if_false, if_true, t3, t7, t8, t24, l3, l24, c1, hf4.isSl.one])
  refine WF.res T.c54 (r54 T S (m := shlM m n) (gl.ext (by repeat first | with_reducible exact Ext.refl _ | refine Ext.app _ ?_)) hf4.isSl hl' cell) ?_
  rintro _ g5 rfl
  rw [splR, if_pos z2, z2]
  repeat (first | simp (config := { maxSteps := 1000000 }) only [wset, hset, dset, bset, Nat.reduceAdd, Nat.reduceMul, Nat.reduceLeDiff, Nat.reduceEqDiff, pset, hlen, if_false, if_true, t3, t7, t8, t24, l3, l24, c0] | simp (config := { maxSteps := 1000000 }) (disch := first | (simp only [List.length_append, List.length_cons, List.length_nil] <;> omega) | rfl | omega | fail) only [kset, wset, hset, dset, bset, Nat.reduceAdd, Nat.reduceMul, Nat.reduceLeDiff, Nat.reduceEqDiff, pset, hlen, if_false, if_true, t3, t7, t8, t24, l3, l24, c0])
  refine WF.res T.c55 (r55 T (hs.ext (by repeat first | with_reducible exact Ext.refl _ | refine Ext.app _ ?_)) hl) ?_
  rintro _ g6 ⟨s6, rfl, hf6⟩
  repeat (first | simp (config := { maxSteps := 1000000 }) only [wset, hset, dset, bset, Nat.reduceAdd, Nat.reduceMul, Nat.reduceLeDiff, Nat.reduceEqDiff, pset, hlen, if_false, if_true, t3, t7, t8, t24, l3, l24, w1, hf6.isSl.one] | simp (config := { maxSteps := 1000000 }) (disch := first | (simp only [List.length_append, List.length_cons, List.length_nil] <;> omega) | rfl | omega | fail) only [kset, wset, hset, dset, bset, Nat.reduceAdd, Nat.reduceMul, Nat.reduceLeDiff, Nat.reduceEqDiff, pset, hlen, if_false, if_true, t3, t7, t8, t24, l3, l24, w1, hf6.isSl.one])
  refine WF.res T.c56 (r56 T S (gl.ext (by repeat first | with_reducible exact Ext.refl _ | refine Ext.app _ ?_)) hf6.isSl hl cell (c + 1)) ?_
  rintro _ g7 ⟨x3, y4, rfl, o3, o4⟩
  rw [regR, if_pos z3, show c + 1 - 1 = c by omega] at o3 o4
  rw [z3]
  repeat (first | simp (config := { maxSteps := 1000000 }) only [wset, hset, dset, bset, Nat.reduceAdd, Nat.reduceMul, Nat.reduceLeDiff, Nat.reduceEqDiff, pset, hlen, if_false, if_true, t3, t7, t8] | simp (config := { maxSteps := 1000000 }) (disch := first | (simp only [List.length_append, List.length_cons, List.length_nil] <;> omega) | rfl | omega | fail) only [kset, wset, hset, dset, bset, Nat.reduceAdd, Nat.reduceMul, Nat.reduceLeDiff, Nat.reduceEqDiff, pset, hlen, if_false, if_true, t3, t7, t8])
  have hA : ∀ k ∈ areaS m (highsS m) (c - 1) cell, k ∈ areaS m (highsS (shlM m n)) (c - 1) cell ∧ k ∈ areaS m (highsS m) c cell := fun k hk =>
    ⟨area_mono v hc hi.1 hi'.1 (fun j hj h => Int.le_trans (shl_le v hn hj).2 h) hk, area_mono v hc hi.1 hi.1 (fun j hj h => by omega) hk⟩
  have hB : ∀ k ∈ areaS m (lowsS m) (c - 1) cell, k ∈ areaS m (lowsS (shlM m n)) (c - 1) cell ∧ k ∈ areaS m (lowsS m) c cell := fun k hk =>
    ⟨area_mono v hc lo.1 lo'.1 (fun j hj h => Int.le_trans (shl_le v hn hj).1 h) hk, area_mono v hc lo.1 lo.1 (fun j hj h => by omega) hk⟩
  have V1 := vol_mono v hc hi.1 hi'.1 (c := c) fun k hk => (shl_le v hn hk).2
  have V2 := vol_mono v hc lo.1 lo'.1 (c := c) fun k hk => (shl_le v hn hk).1
  have S1 := spl_mono v hc lo.1 lo'.1 fun k hk => (shl_le v hn hk).1
  have S2 := spl_mono v hc hi.1 hi'.1 fun k hk => (shl_le v hn hk).2
  have sm1 : spillS (shlM m n) (lowsS (shlM m n)) cell = spillS m (lowsS (shlM m n)) cell := spl_m (m := m) (m' := shlM m n) rfl rfl v lo'.1 hc
  have sm2 : spillS (shlM m n) (highsS (shlM m n)) cell = spillS m (highsS (shlM m n)) cell := spl_m (m := m) (m' := shlM m n) rfl rfl v hi'.1 hc
  have hlA : ∀ D a, (D.length : Int) = m.cols * m.rows → (areaS m D a cell).length ≤ 256 := fun D a hD => Nat.le_trans area_len (mp_len v hD)
  refine closes_H T (A := areaS m (highsS m) (c - 1) cell) (B := areaS m (lowsS m) (c - 1) cell) (L1 := areaS m (highsS (shlM m n)) (c - 1) cell) (L2 := areaS m (lowsS (shlM m n)) (c - 1) cell) (L3 := areaS m (highsS m) c cell) (L4 := areaS m (lowsS m) c cell) (x := x) (y := y) (x1 := x1) (y2 := y2) (x3 := x3) (y4 := y4)
    (sp := (spillS m (lowsS m) cell, spillS m (highsS m) cell)) (vo := (volL (highsS m) c (areaS m (highsS m) (c - 1) cell), volL (lowsS m) c (areaS m (lowsS m) (c - 1) cell))) (w := (volL (highsS (shlM m n)) c (areaS m (highsS (shlM m n)) (c - 1) cell), volL (lowsS (shlM m n)) c (areaS m (lowsS (shlM m n)) (c - 1) cell))) (t := (spillS (shlM m n) (lowsS (shlM m n)) cell, spillS (shlM m n) (highsS (shlM m n)) cell)) (b12 := b12) (b14 := b14) (b29 := ?b29) (b31 := ?b31)
    (by simp only [wset, hset, dset, bset, Nat.reduceAdd, Nat.reduceMul, Nat.reduceLeDiff, Nat.reduceEqDiff, pset, hlen, if_false, if_true, t3]) (by simp only [wset, hset, dset, bset, Nat.reduceAdd, Nat.reduceMul, Nat.reduceLeDiff, Nat.reduceEqDiff, pset, hlen, if_false, if_true, t9]) (by simp only [wset, hset, dset, bset, Nat.reduceAdd, Nat.reduceMul, Nat.reduceLeDiff, Nat.reduceEqDiff, pset, hlen, if_false, if_true, t10]) (by simp only [wset, hset, dset, bset, Nat.reduceAdd, Nat.reduceMul, Nat.reduceLeDiff, Nat.reduceEqDiff, pset, hlen, if_false, if_true, t12]) (by simp only [wset, hset, dset, bset, Nat.reduceAdd, Nat.reduceMul, Nat.reduceLeDiff, Nat.reduceEqDiff, pset, hlen, if_false, if_true, t14]) (by simp only [wset, hset, dset, bset, Nat.reduceAdd, Nat.reduceMul, Nat.reduceLeDiff, Nat.reduceEqDiff, pset, hlen, if_false, if_true, t3]) (by simp only [wset, hset, dset, bset, Nat.reduceAdd, Nat.reduceMul, Nat.reduceLeDiff, Nat.reduceEqDiff, pset, hlen, if_false, if_true, t3]) (by simp only [wset, hset, dset, bset, Nat.reduceAdd, Nat.reduceMul, Nat.reduceLeDiff, Nat.reduceEqDiff, pset, hlen, if_false, if_true, t3]) ?k29 (by simp only [wset, hset, dset, bset, Nat.reduceAdd, Nat.reduceMul, Nat.reduceLeDiff, Nat.reduceEqDiff, pset, hlen, if_false, if_true, t3]) ?k31 (by simp only [wset, hset, dset, bset, Nat.reduceAdd, Nat.reduceMul, Nat.reduceLeDiff, Nat.reduceEqDiff, pset, hlen, if_false, if_true, t3]) (by simp only [wset, hset, dset, bset, Nat.reduceAdd, Nat.reduceMul, Nat.reduceLeDiff, Nat.reduceEqDiff, pset, hlen, if_false, if_true, t3]) (by simp only [wset, hset, dset, bset, Nat.reduceAdd, Nat.reduceMul, Nat.reduceLeDiff, Nat.reduceEqDiff, pset, hlen, if_false, if_true, t3]) (by simp only [wset, hset, dset, bset, Nat.reduceAdd, Nat.reduceMul, Nat.reduceLeDiff, Nat.reduceEqDiff, pset, hlen, if_false, if_true, t3]) ?m12 ?m14 ?m29 ?m31 ⟨V1, V2⟩ ?ht ?o9 ?o10 ?o1 ?o2 ?o3 ?o4 (hlA _ _ hi.1) (hlA _ _ lo.1) (hlA _ _ hi'.1) (hlA _ _ lo'.1) (hlA _ _ hi.1) (hlA _ _ lo.1) hA hB ?ee
  case k29 => simp only [wset, hset, dset, bset, Nat.reduceAdd, Nat.reduceMul, Nat.reduceLeDiff, Nat.reduceEqDiff, pset, hlen, if_false, if_true]; rfl
  case k31 => simp only [wset, hset, dset, bset, Nat.reduceAdd, Nat.reduceMul, Nat.reduceLeDiff, Nat.reduceEqDiff, pset, hlen, if_false, if_true]; rfl
  case m12 => exact Ext.some (by repeat first | with_reducible exact Ext.refl _ | refine Ext.app _ ?_) m12
  case m14 => exact Ext.some (by repeat first | with_reducible exact Ext.refl _ | refine Ext.app _ ?_) m14
  case m29 => exact Ext.some (by repeat first | with_reducible exact Ext.refl _ | refine Ext.app _ ?_) at_new
  case m31 => exact Ext.some (by repeat first | with_reducible exact Ext.refl _ | refine Ext.app _ ?_) at_new
  case ht => rw [sm1, sm2]; exact ⟨S1, S2⟩
  case o9 => exact o9.ext (by repeat first | with_reducible exact Ext.refl _ | refine Ext.app _ ?_)
  case o10 => exact o10.ext (by repeat first | with_reducible exact Ext.refl _ | refine Ext.app _ ?_)
  case o1 => exact o1.ext (by repeat first | with_reducible exact Ext.refl _ | refine Ext.app _ ?_)
  case o2 => exact o2.ext (by repeat first | with_reducible exact Ext.refl _ | refine Ext.app _ ?_)
  case o3 => exact o3.ext (by repeat first | with_reducible exact Ext.refl _ | refine Ext.app _ ?_)
  case o4 => exact o4.ext (by repeat first | with_reducible exact Ext.refl _ | refine Ext.app _ ?_)
  case ee => exact Ext.trans he (by repeat first | with_reducible exact Ext.refl _ | refine Ext.app _ ?_)
set_option maxRecDepth 10000 in
set_option maxHeartbeats 1000000 in
theorem closes_E2 {m : Mp} {sm : AV} {W : AHeap} {ts : TS} {x y : AV} {cell c : Int} {nn : List Int} {b3 b4 b12 b14 : Nat} (hlen : ts.length = 393) (gl : Glb W) (v : MpV m) (hc : InM m cell) (hcb : 0 ≤ c ∧ c ≤ 65535) (hn2 : nn.length = 2) (hnb : ∀ y ∈ nn, 0 ≤ y ∧ y ≤ 255)
    (t3 : slot ts 3 = .ptr b3 0) (t4 : slot ts 4 = .ptr b4 0) (t7 : slot ts 7 = .int .i64 cell) (t8 : slot ts 8 = .int .i64 c) (t9 : slot ts 9 = x) (t10 : slot ts 10 = y) (t12 : slot ts 12 = .ptr b12 0) (t14 : slot ts 14 = .ptr b14 0)
    (m3 : W[b3]? = some (.cells [.int .i64 m.cols, .int .i64 m.rows, sm] true false)) (m4 : W[b4]? = some (.cells (nn.map (AV.int .u8)) true false)) (m12 : W[b12]? = some (.cells [.int .i64 (volL (highsS m) c (areaS m (highsS m) (c - 1) cell)), .int .i64 (volL (lowsS m) c (areaS m (lowsS m) (c - 1) cell))] true false)) (m14 : W[b14]? = some (.cells [.int .i64 (spillS m (lowsS m) cell), .int .i64 (spillS m (highsS m) cell)] true false))
    (o9 : IsSl W x 1 ((areaS m (highsS m) (c - 1) cell).map intRow)) (o10 : IsSl W y 1 ((areaS m (lowsS m) (c - 1) cell).map intRow))
    (hs : IsSl W sm 2 (m.deps.map ratRow)) (he : Ext h W) :
    WC P inFn (csT 11) [] ts W (FQ [(6, none)] fun v h' => Ext h h' ∧ v = .bool true) := by
  have q3 := (List.getElem?_eq_some_iff.1 m3).1
  have q4 := (List.getElem?_eq_some_iff.1 m4).1
  have l3 : ∀ {n : Option Nat} {o : Nat} {kk : AHeap}, Ext W kk → loadF n (.ptr b3 o) (fun z => kk[z]?) = ldB n o (.cells [.int .i64 m.cols, .int .i64 m.rows, sm] true false) := fun e => loadF_at (e.some m3)
  have l4 : ∀ {n : Option Nat} {o : Nat} {kk : AHeap}, Ext W kk → loadF n (.ptr b4 o) (fun z => kk[z]?) = ldB n o (.cells (nn.map (AV.int .u8)) true false) := fun e => loadF_at (e.some m4)
  have hl0 := mp_len v v.l
  have hl : m.deps.length ≤ 2 ^ 40 := by omega
  have hlp : 0 < m.deps.length := by have := v.l; have := hc.1; have := hc.2; omega
  have c0 := hs.one
  have n1 : (nn.map (AV.int .u8))[1]? = some (.int .u8 (nn[1]'(by omega))) := by rw [List.getElem?_map, List.getElem?_eq_getElem (by omega)]; rfl
  obtain ⟨a, ha⟩ : ∃ a, a = nn[1]'(by omega) := ⟨_, rfl⟩
  have hab := hnb _ (List.getElem_mem (l := nn) (n := 1) (by omega))
  rw [← ha] at n1 hab
  have wa : IntKind.i64.wrap a = a := wrap_in (by omega) (by omega)
  have hl1 : (m.deps.length : Int) ≠ 0 := by omega
  have r1 : 0 ≤ a.tmod m.deps.length := Int.tmod_nonneg _ hab.1
  have r2 : a.tmod m.deps.length < m.deps.length := Int.tmod_lt_of_pos _ (by omega)
  obtain ⟨j, hj⟩ := Int.eq_ofNat_of_zero_le r1
  have hjl : j < m.deps.length := by omega
  have hjl' : j < (m.deps.map ratRow).length := by rw [List.length_map]; exact hjl
  have br := fun (kk : IntKind) (a : Int) => bin_rem (k := kk) (a := a) hl1
  have i2 : iadaF 2 1 (.ptr b4 0) (.int .i64 1) = some (.ptr b4 1) := iada_1 (by decide)
  have hlm := fun G => hs.lenm G
  have hix := hs.ixm (kk := .i64) hjl
  have ll0 := fun {kk : AHeap} (e : Ext W kk) => hs.lfm (off := 0) hjl rfl e
  have ll0' := fun {kk : AHeap} (e : Ext W kk) => hs.l1m hjl rfl e
  have ll1 := fun {kk : AHeap} (e : Ext W kk) => hs.lfm (off := 1) hjl rfl e
  have hdj := v.d _ (List.getElem_mem hjl)
  have w1 : IntKind.i64.wrap (m.deps[j].1 - 1) = m.deps[j].1 - 1 := wrap_in (by omega) (by omega)
  have w2 : IntKind.i64.wrap (m.deps[j].2 - 1) = m.deps[j].2 - 1 := wrap_in (by omega) (by omega)
  rw [show csT 11 = .seq (cs 11) (.seq (cs 12) (.seq (cs 13) (csT 14))) from rfl]
  unfold cs fn9
  simp only [ICode.dr, ICode.tl, ICode.hd]
  repeat (first | simp (config := { maxSteps := 1000000 }) only [wset, hset, dset, bset, Nat.reduceAdd, Nat.reduceMul, Nat.reduceLeDiff, Nat.reduceEqDiff, pset, hlen, if_false, if_true, t3, l3, c0] | simp (config := { maxSteps := 1000000 }) (disch := first | (simp only [List.length_append, List.length_cons, List.length_nil] <;> omega) | rfl | omega | fail) only [kset, wset, hset, dset, bset, Nat.reduceAdd, Nat.reduceMul, Nat.reduceLeDiff, Nat.reduceEqDiff, pset, hlen, if_false, if_true, t3, l3, c0])
  refine WF.res T.c55 (r55 T (hs.ext (by repeat first | with_reducible exact Ext.refl _ | refine Ext.app _ ?_)) hl) ?_
  rintro _ g1 ⟨s1, rfl, hf1⟩
  have c1 := hf1.isSl.one
  have hix1 := hf1.isSl.ixm (kk := .i64) hjl
  repeat (first | simp (config := { maxSteps := 1000000 }) only [wset, hset, dset, bset, Nat.reduceAdd, Nat.reduceMul, Nat.reduceLeDiff, Nat.reduceEqDiff, pset, hlen, if_false, if_true, t3, t4, t7, l3, l4, c1, i2, n1, wa, hlm, br, hj, hix, ll0, ll0', ll1, w1, w2] | simp (config := { maxSteps := 1000000 }) (disch := first | (simp only [List.length_append, List.length_cons, List.length_nil] <;> omega) | rfl | omega | fail) only [kset, wset, hset, dset, bset, Nat.reduceAdd, Nat.reduceMul, Nat.reduceLeDiff, Nat.reduceEqDiff, pset, hlen, if_false, if_true, t3, t4, t7, l3, l4, c1, i2, n1, wa, hlm, br, hj, hix, ll0, ll0', ll1, w1, w2])
  refine WF.res T.c67 (r67 T _ _) ?_
  rintro _ g2 rfl
  repeat (first | simp (config := { maxSteps := 1000000 }) only [wset, hset, dset, bset, Nat.reduceAdd, Nat.reduceMul, Nat.reduceLeDiff, Nat.reduceEqDiff, pset, hlen, if_false, if_true, t3, t4, t7, hix1] | simp (config := { maxSteps := 1000000 }) (disch := first | (simp only [List.length_append, List.length_cons, List.length_nil] <;> omega) | rfl | omega | fail) only [kset, wset, hset, dset, bset, Nat.reduceAdd, Nat.reduceMul, Nat.reduceLeDiff, Nat.reduceEqDiff, pset, hlen, if_false, if_true, t3, t4, t7, hix1])
  obtain ⟨G, hG⟩ : ∃ G, G = g1 ++ ([ABlk.cells [AV.int IntKind.i64 m.cols, AV.int IntKind.i64 m.rows, s1] true false] ++ g2) := ⟨_, rfl⟩
  have hWG : W ++ g1 ++ [ABlk.cells [AV.int IntKind.i64 m.cols, AV.int IntKind.i64 m.rows, s1] true false] ++ g2 = W ++ G := by rw [hG]; simp only [List.append_assoc]
  have hfG : Fr W.length (W ++ G) s1 2 (m.deps.map ratRow) := by rw [← hWG]; exact (hf1.app _).app _
  have hbG : (W ++ G)[(W ++ g1).length]? = some (.cells [.int .i64 m.cols, .int .i64 m.rows, s1] true false) := by rw [← hWG]; exact Ext.some (by repeat first | with_reducible exact Ext.refl _ | refine Ext.app _ ?_) (at_new (X := W ++ g1))
  have hlt : ∀ b o n e, s1 = .slice b o n e → b < (W ++ g1).length := fun b o n e hb => (hf1.lt hb).2
  rw [hWG]
  clear hWG hG
  refine WR.puta (h0 := W) (L := m.deps) (row := ratRow) (x' := shlP m.deps[j]) hfG hjl rfl rfl rfl ?_
  intro g' hg' hf' hk
  have hrow : m.deps.set j (shlP m.deps[j]) = (shlM m j).deps := by
    rw [shl_row, List.getD_eq_getElem?_getD, List.getElem?_eq_getElem hjl]; rfl
  rw [hrow] at hf'
  have m24 : (W ++ g')[(W ++ g1).length]? = some (.cells [.int .i64 m.cols, .int .i64 m.rows, s1] true false) := by
    rw [hk _ fun b o n e hb => by have := hlt b o n e hb; omega]; exact hbG
  repeat (first | simp (config := { maxSteps := 1000000 }) only [wset, hset, dset, bset, Nat.reduceAdd, Nat.reduceMul, Nat.reduceLeDiff, Nat.reduceEqDiff, pset, hlen, if_false, if_true, t3] | simp (config := { maxSteps := 1000000 }) (disch := first | (simp only [List.length_append, List.length_cons, List.length_nil] <;> omega) | rfl | omega | fail) only [kset, wset, hset, dset, bset, Nat.reduceAdd, Nat.reduceMul, Nat.reduceLeDiff, Nat.reduceEqDiff, pset, hlen, if_false, if_true, t3])
  refine closes_F T S (m := m) (sm := sm) (s' := s1) (x := x) (y := y) (cell := cell) (c := c) (n := j) (b3 := b3) (b12 := b12) (b14 := b14) (b24 := (W ++ g1).length) (by simp only [wset, hset, dset, bset, Nat.reduceAdd, Nat.reduceMul, Nat.reduceLeDiff, Nat.reduceEqDiff, pset, hlen, if_false, if_true, t3]) (gl.ext (by repeat first | with_reducible exact Ext.refl _ | refine Ext.app _ ?_)) v hc hcb hjl (by simp only [wset, hset, dset, bset, Nat.reduceAdd, Nat.reduceMul, Nat.reduceLeDiff, Nat.reduceEqDiff, pset, hlen, if_false, if_true, t3]) (by simp only [wset, hset, dset, bset, Nat.reduceAdd, Nat.reduceMul, Nat.reduceLeDiff, Nat.reduceEqDiff, pset, hlen, if_false, if_true, t7]) (by simp only [wset, hset, dset, bset, Nat.reduceAdd, Nat.reduceMul, Nat.reduceLeDiff, Nat.reduceEqDiff, pset, hlen, if_false, if_true, t8]) (by simp only [wset, hset, dset, bset, Nat.reduceAdd, Nat.reduceMul, Nat.reduceLeDiff, Nat.reduceEqDiff, pset, hlen, if_false, if_true, t9]) (by simp only [wset, hset, dset, bset, Nat.reduceAdd, Nat.reduceMul, Nat.reduceLeDiff, Nat.reduceEqDiff, pset, hlen, if_false, if_true, t10]) (by simp only [wset, hset, dset, bset, Nat.reduceAdd, Nat.reduceMul, Nat.reduceLeDiff, Nat.reduceEqDiff, pset, hlen, if_false, if_true, t12]) (by simp only [wset, hset, dset, bset, Nat.reduceAdd, Nat.reduceMul, Nat.reduceLeDiff, Nat.reduceEqDiff, pset, hlen, if_false, if_true, t14]) (by simp only [wset, hset, dset, bset, Nat.reduceAdd, Nat.reduceMul, Nat.reduceLeDiff, Nat.reduceEqDiff, pset, hlen, if_false, if_true, t3]) ?m3 ?m12 ?m14 m24 ?o9 ?o10 hf'.isSl ?hs ?ee
  case m3 => exact Ext.some (by repeat first | with_reducible exact Ext.refl _ | refine Ext.app _ ?_) m3
  case m12 => exact Ext.some (by repeat first | with_reducible exact Ext.refl _ | refine Ext.app _ ?_) m12
  case m14 => exact Ext.some (by repeat first | with_reducible exact Ext.refl _ | refine Ext.app _ ?_) m14
  case o9 => exact o9.ext (by repeat first | with_reducible exact Ext.refl _ | refine Ext.app _ ?_)
  case o10 => exact o10.ext (by repeat first | with_reducible exact Ext.refl _ | refine Ext.app _ ?_)
  case hs => exact hs.ext (by repeat first | with_reducible exact Ext.refl _ | refine Ext.app _ ?_)
  case ee => exact Ext.trans he (by repeat first | with_reducible exact Ext.refl _ | refine Ext.app _ ?_)

set_option maxRecDepth 10000 in
set_option maxHeartbeats 1000000 in
theorem closes_E {m : Mp} {sm : AV} {W : AHeap} {ts : TS} {x y : AV} {cell c : Int} {nn : List Int} {b3 b4 b12 b14 b18 : Nat} {q1 q2 : Bool} (hlen : ts.length = 393) (gl : Glb W) (v : MpV m) (hc : InM m cell) (hcb : 0 ≤ c ∧ c ≤ 65535) (hn2 : nn.length = 2) (hnb : ∀ y ∈ nn, 0 ≤ y ∧ y ≤ 255)
    (t3 : slot ts 3 = .ptr b3 0) (t4 : slot ts 4 = .ptr b4 0) (t7 : slot ts 7 = .int .i64 cell) (t8 : slot ts 8 = .int .i64 c) (t9 : slot ts 9 = x) (t10 : slot ts 10 = y) (t12 : slot ts 12 = .ptr b12 0) (t14 : slot ts 14 = .ptr b14 0) (t16 : slot ts 16 = .int .i64 (volL (highsS m) c (areaS m (highsS m) (c - 1) cell))) (t17 : slot ts 17 = .int .i64 (volL (lowsS m) c (areaS m (lowsS m) (c - 1) cell))) (t18 : slot ts 18 = .ptr b18 0)
    (m3 : W[b3]? = some (.cells [.int .i64 m.cols, .int .i64 m.rows, sm] true false)) (m4 : W[b4]? = some (.cells (nn.map (AV.int .u8)) true false)) (m12 : W[b12]? = some (.cells [.int .i64 (volL (highsS m) c (areaS m (highsS m) (c - 1) cell)), .int .i64 (volL (lowsS m) c (areaS m (lowsS m) (c - 1) cell))] true false)) (m14 : W[b14]? = some (.cells [.int .i64 (spillS m (lowsS m) cell), .int .i64 (spillS m (highsS m) cell)] true false))
    (m18 : W[b18]? = some (.cells [.bool q1, .bool q2] true false)) (h1 : q1 = (areaS m (highsS m) (c - 1) cell).any (brdS m)) (h2 : q2 = (areaS m (lowsS m) (c - 1) cell).any (brdS m))
    (o9 : IsSl W x 1 ((areaS m (highsS m) (c - 1) cell).map intRow)) (o10 : IsSl W y 1 ((areaS m (lowsS m) (c - 1) cell).map intRow))
    (hs : IsSl W sm 2 (m.deps.map ratRow)) (he : Ext h W) :
    WC P inFn (csT 10) [] ts W (FQ [(6, none)] fun v h' => Ext h h' ∧ v = .bool true) := by
  have lo := lowsS_ok v
  have hi := highsS_ok v
  have hss : spillS m (lowsS m) cell ≤ spillS m (highsS m) cell := spl_mono v hc hi.1 lo.1 fun k hk => lo_hi v hk
  have k1 : c ≤ spillS m (lowsS m) cell → q1 = false ∧ q2 = false := fun hh => ⟨by rw [h1]; exact low_none v hc hi.1 (by omega), by rw [h2]; exact low_none v hc lo.1 hh⟩
  have k2 : spillS m (highsS m) cell < c → q1 = true ∧ q2 = true := fun hh => ⟨by rw [h1]; exact high_some v hc hi.1 hh, by rw [h2]; exact high_some v hc lo.1 (by omega)⟩
  have hgo := fun (ts' : TS) (g : AHeap) (j0 : ts'.length = 393) (j3 : slot ts' 3 = .ptr b3 0) (j4 : slot ts' 4 = .ptr b4 0) (j7 : slot ts' 7 = .int .i64 cell) (j8 : slot ts' 8 = .int .i64 c) (j9 : slot ts' 9 = x) (j10 : slot ts' 10 = y) (j12 : slot ts' 12 = .ptr b12 0) (j14 : slot ts' 14 = .ptr b14 0) =>
    closes_E2 T S (h := h) (m := m) (sm := sm) (W := W ++ g) (x := x) (y := y) (cell := cell) (c := c) (nn := nn) (b3 := b3) (b4 := b4) (b12 := b12) (b14 := b14) j0 (gl.ext (by repeat first | with_reducible exact Ext.refl _ | refine Ext.app _ ?_)) v hc hcb hn2 hnb j3 j4 j7 j8 j9 j10 j12 j14 (Ext.some (by repeat first | with_reducible exact Ext.refl _ | refine Ext.app _ ?_) m3) (Ext.some (by repeat first | with_reducible exact Ext.refl _ | refine Ext.app _ ?_) m4) (Ext.some (by repeat first | with_reducible exact Ext.refl _ | refine Ext.app _ ?_) m12) (Ext.some (by repeat first | with_reducible exact Ext.refl _ | refine Ext.app _ ?_) m14) (o9.ext (by repeat first | with_reducible exact Ext.refl _ | refine Ext.app _ ?_)) (o10.ext (by repeat first | with_reducible exact Ext.refl _ | refine Ext.app _ ?_)) (hs.ext (by repeat first | with_reducible exact Ext.refl _ | refine Ext.app _ ?_)) (Ext.trans he (by repeat first | with_reducible exact Ext.refl _ | refine Ext.app _ ?_))
  clear m3 m4 h1 h2
  obtain ⟨v1, hv1⟩ : ∃ v1, v1 = volL (highsS m) c (areaS m (highsS m) (c - 1) cell) := ⟨_, rfl⟩
  obtain ⟨v2, hv2⟩ : ∃ v2, v2 = volL (lowsS m) c (areaS m (lowsS m) (c - 1) cell) := ⟨_, rfl⟩
  obtain ⟨s1, hs1⟩ : ∃ s1, s1 = spillS m (lowsS m) cell := ⟨_, rfl⟩
  obtain ⟨s2, hs2⟩ : ∃ s2, s2 = spillS m (highsS m) cell := ⟨_, rfl⟩
  rw [← hv1] at t16 m12
  rw [← hv2] at t17 m12
  rw [← hs1] at k1 hss m14
  rw [← hs2] at k2 hss m14
  have l12 : ∀ {n : Option Nat} {o : Nat} {kk : AHeap}, Ext W kk → loadF n (.ptr b12 o) (fun z => kk[z]?) = ldB n o (.cells [.int .i64 v1, .int .i64 v2] true false) := fun e => loadF_at (e.some m12)
  have l14 : ∀ {n : Option Nat} {o : Nat} {kk : AHeap}, Ext W kk → loadF n (.ptr b14 o) (fun z => kk[z]?) = ldB n o (.cells [.int .i64 s1, .int .i64 s2] true false) := fun e => loadF_at (e.some m14)
  have l18 : ∀ {n : Option Nat} {o : Nat} {kk : AHeap}, Ext W kk → loadF n (.ptr b18 o) (fun z => kk[z]?) = ldB n o (.cells [.bool q1, .bool q2] true false) := fun e => loadF_at (e.some m18)
  have i0 : iadaF 2 1 (.ptr b18 0) (.int .i64 0) = some (.ptr b18 0) := iada_0 (by decide)
  have i1 : iadaF 2 1 (.ptr b18 0) (.int .i64 1) = some (.ptr b18 1) := iada_1 (by decide)
  rw [show csT 10 = .seq (cs 10) (csT 11) from rfl]
  unfold cs fn9
  simp only [ICode.dr, ICode.tl, ICode.hd]
  repeat (first | simp (config := { maxSteps := 1000000 }) only [wset, hset, dset, bset, Nat.reduceAdd, Nat.reduceMul, Nat.reduceLeDiff, Nat.reduceEqDiff, pset, hlen, if_false, if_true, t8, t12, t14, t16, t17, t18, l12, l14, l18, i0, i1] | simp (config := { maxSteps := 1000000 }) (disch := first | (simp only [List.length_append, List.length_cons, List.length_nil] <;> omega) | rfl | omega | fail) only [kset, wset, hset, dset, bset, Nat.reduceAdd, Nat.reduceMul, Nat.reduceLeDiff, Nat.reduceEqDiff, pset, hlen, if_false, if_true, t8, t12, t14, t16, t17, t18, l12, l14, l18, i0, i1])
  refine WF.res T.c67 (r67 T _ _) ?_
  rintro _ g rfl
  by_cases e1 : c ≤ s1
  · obtain ⟨rfl, rfl⟩ := k1 e1
    repeat (first | simp (config := { maxSteps := 1000000 }) only [wset, hset, dset, bset, Nat.reduceAdd, Nat.reduceMul, Nat.reduceLeDiff, Nat.reduceEqDiff, pset, hlen, if_false, if_true, t8, t12, t14, t16, t17, t18, l12, l14, l18, i0, i1, decide_eq_true e1, decide_eq_false (show ¬ s2 < c by omega), decide_true, Bool.not_true] | simp (config := { maxSteps := 1000000 }) (disch := first | (simp only [List.length_append, List.length_cons, List.length_nil] <;> omega) | rfl | omega | fail) only [kset, wset, hset, dset, bset, Nat.reduceAdd, Nat.reduceMul, Nat.reduceLeDiff, Nat.reduceEqDiff, pset, hlen, if_false, if_true, t8, t12, t14, t16, t17, t18, l12, l14, l18, i0, i1, decide_eq_true e1, decide_eq_false (show ¬ s2 < c by omega), decide_true, Bool.not_true])
    exact hgo _ _ (by simp only [wset, hset, dset, bset, Nat.reduceAdd, Nat.reduceMul, Nat.reduceLeDiff, Nat.reduceEqDiff, pset, hlen, if_false, if_true, t3]) (by simp only [wset, hset, dset, bset, Nat.reduceAdd, Nat.reduceMul, Nat.reduceLeDiff, Nat.reduceEqDiff, pset, hlen, if_false, if_true, t3]) (by simp only [wset, hset, dset, bset, Nat.reduceAdd, Nat.reduceMul, Nat.reduceLeDiff, Nat.reduceEqDiff, pset, hlen, if_false, if_true, t4]) (by simp only [wset, hset, dset, bset, Nat.reduceAdd, Nat.reduceMul, Nat.reduceLeDiff, Nat.reduceEqDiff, pset, hlen, if_false, if_true, t7]) (by simp only [wset, hset, dset, bset, Nat.reduceAdd, Nat.reduceMul, Nat.reduceLeDiff, Nat.reduceEqDiff, pset, hlen, if_false, if_true, t8]) (by simp only [wset, hset, dset, bset, Nat.reduceAdd, Nat.reduceMul, Nat.reduceLeDiff, Nat.reduceEqDiff, pset, hlen, if_false, if_true, t9]) (by simp only [wset, hset, dset, bset, Nat.reduceAdd, Nat.reduceMul, Nat.reduceLeDiff, Nat.reduceEqDiff, pset, hlen, if_false, if_true, t10]) (by simp only [wset, hset, dset, bset, Nat.reduceAdd, Nat.reduceMul, Nat.reduceLeDiff, Nat.reduceEqDiff, pset, hlen, if_false, if_true, t12]) (by simp only [wset, hset, dset, bset, Nat.reduceAdd, Nat.reduceMul, Nat.reduceLeDiff, Nat.reduceEqDiff, pset, hlen, if_false, if_true, t14])
  · by_cases e2 : s2 < c
    · obtain ⟨rfl, rfl⟩ := k2 e2
      repeat (first | simp (config := { maxSteps := 1000000 }) only [wset, hset, dset, bset, Nat.reduceAdd, Nat.reduceMul, Nat.reduceLeDiff, Nat.reduceEqDiff, pset, hlen, if_false, if_true, t8, t12, t14, t16, t17, t18, l12, l14, l18, i0, i1, decide_eq_false e1, decide_eq_true e2, decide_true, Bool.not_true] | simp (config := { maxSteps := 1000000 }) (disch := first | (simp only [List.length_append, List.length_cons, List.length_nil] <;> omega) | rfl | omega | fail) only [kset, wset, hset, dset, bset, Nat.reduceAdd, Nat.reduceMul, Nat.reduceLeDiff, Nat.reduceEqDiff, pset, hlen, if_false, if_true, t8, t12, t14, t16, t17, t18, l12, l14, l18, i0, i1, decide_eq_false e1, decide_eq_true e2, decide_true, Bool.not_true])
      exact hgo _ _ (by simp only [wset, hset, dset, bset, Nat.reduceAdd, Nat.reduceMul, Nat.reduceLeDiff, Nat.reduceEqDiff, pset, hlen, if_false, if_true, t3]) (by simp only [wset, hset, dset, bset, Nat.reduceAdd, Nat.reduceMul, Nat.reduceLeDiff, Nat.reduceEqDiff, pset, hlen, if_false, if_true, t3]) (by simp only [wset, hset, dset, bset, Nat.reduceAdd, Nat.reduceMul, Nat.reduceLeDiff, Nat.reduceEqDiff, pset, hlen, if_false, if_true, t4]) (by simp only [wset, hset, dset, bset, Nat.reduceAdd, Nat.reduceMul, Nat.reduceLeDiff, Nat.reduceEqDiff, pset, hlen, if_false, if_true, t7]) (by simp only [wset, hset, dset, bset, Nat.reduceAdd, Nat.reduceMul, Nat.reduceLeDiff, Nat.reduceEqDiff, pset, hlen, if_false, if_true, t8]) (by simp only [wset, hset, dset, bset, Nat.reduceAdd, Nat.reduceMul, Nat.reduceLeDiff, Nat.reduceEqDiff, pset, hlen, if_false, if_true, t9]) (by simp only [wset, hset, dset, bset, Nat.reduceAdd, Nat.reduceMul, Nat.reduceLeDiff, Nat.reduceEqDiff, pset, hlen, if_false, if_true, t10]) (by simp only [wset, hset, dset, bset, Nat.reduceAdd, Nat.reduceMul, Nat.reduceLeDiff, Nat.reduceEqDiff, pset, hlen, if_false, if_true, t12]) (by simp only [wset, hset, dset, bset, Nat.reduceAdd, Nat.reduceMul, Nat.reduceLeDiff, Nat.reduceEqDiff, pset, hlen, if_false, if_true, t14])
    · repeat (first | simp (config := { maxSteps := 1000000 }) only [wset, hset, dset, bset, Nat.reduceAdd, Nat.reduceMul, Nat.reduceLeDiff, Nat.reduceEqDiff, pset, hlen, if_false, if_true, t8, t12, t14, t16, t17, t18, l12, l14, l18, i0, i1, decide_eq_false e1, decide_eq_false e2, decide_true, Bool.not_true] | simp (config := { maxSteps := 1000000 }) (disch := first | (simp only [List.length_append, List.length_cons, List.length_nil] <;> omega) | rfl | omega | fail) only [kset, wset, hset, dset, bset, Nat.reduceAdd, Nat.reduceMul, Nat.reduceLeDiff, Nat.reduceEqDiff, pset, hlen, if_false, if_true, t8, t12, t14, t16, t17, t18, l12, l14, l18, i0, i1, decide_eq_false e1, decide_eq_false e2, decide_true, Bool.not_true])
      exact hgo _ _ (by simp only [wset, hset, dset, bset, Nat.reduceAdd, Nat.reduceMul, Nat.reduceLeDiff, Nat.reduceEqDiff, pset, hlen, if_false, if_true, t3]) (by simp only [wset, hset, dset, bset, Nat.reduceAdd, Nat.reduceMul, Nat.reduceLeDiff, Nat.reduceEqDiff, pset, hlen, if_false, if_true, t3]) (by simp only [wset, hset, dset, bset, Nat.reduceAdd, Nat.reduceMul, Nat.reduceLeDiff, Nat.reduceEqDiff, pset, hlen, if_false, if_true, t4]) (by simp only [wset, hset, dset, bset, Nat.reduceAdd, Nat.reduceMul, Nat.reduceLeDiff, Nat.reduceEqDiff, pset, hlen, if_false, if_true, t7]) (by simp only [wset, hset, dset, bset, Nat.reduceAdd, Nat.reduceMul, Nat.reduceLeDiff, Nat.reduceEqDiff, pset, hlen, if_false, if_true, t8]) (by simp only [wset, hset, dset, bset, Nat.reduceAdd, Nat.reduceMul, Nat.reduceLeDiff, Nat.reduceEqDiff, pset, hlen, if_false, if_true, t9]) (by simp only [wset, hset, dset, bset, Nat.reduceAdd, Nat.reduceMul, Nat.reduceLeDiff, Nat.reduceEqDiff, pset, hlen, if_false, if_true, t10]) (by simp only [wset, hset, dset, bset, Nat.reduceAdd, Nat.reduceMul, Nat.reduceLeDiff, Nat.reduceEqDiff, pset, hlen, if_false, if_true, t12]) (by simp only [wset, hset, dset, bset, Nat.reduceAdd, Nat.reduceMul, Nat.reduceLeDiff, Nat.reduceEqDiff, pset, hlen, if_false, if_true, t14])
set_option maxRecDepth 10000 in
set_option maxHeartbeats 1000000 in
theorem closes_D {m : Mp} {sm : AV} {W : AHeap} {ts : TS} {x y : AV} {cell c : Int} {nn : List Int} {b3 b4 b12 b14 : Nat} (hlen : ts.length = 393) (gl : Glb W) (v : MpV m) (hc : InM m cell) (hcb : 0 ≤ c ∧ c ≤ 65535) (hn2 : nn.length = 2) (hnb : ∀ y ∈ nn, 0 ≤ y ∧ y ≤ 255)
    (t3 : slot ts 3 = .ptr b3 0) (t4 : slot ts 4 = .ptr b4 0) (t7 : slot ts 7 = .int .i64 cell) (t8 : slot ts 8 = .int .i64 c) (t9 : slot ts 9 = x) (t10 : slot ts 10 = y) (t12 : slot ts 12 = .ptr b12 0) (t14 : slot ts 14 = .ptr b14 0) (t16 : slot ts 16 = .int .i64 0) (t17 : slot ts 17 = .int .i64 0) (t18 : slot ts 18 = .ptr W.length 0)
    (m3 : W[b3]? = some (.cells [.int .i64 m.cols, .int .i64 m.rows, sm] true false)) (m4 : W[b4]? = some (.cells (nn.map (AV.int .u8)) true false)) (m12 : W[b12]? = some (.cells [.int .i64 (volL (highsS m) c (areaS m (highsS m) (c - 1) cell)), .int .i64 (volL (lowsS m) c (areaS m (lowsS m) (c - 1) cell))] true false)) (m14 : W[b14]? = some (.cells [.int .i64 (spillS m (lowsS m) cell), .int .i64 (spillS m (highsS m) cell)] true false))
    (o9 : IsSl W x 1 ((areaS m (highsS m) (c - 1) cell).map intRow)) (o10 : IsSl W y 1 ((areaS m (lowsS m) (c - 1) cell).map intRow))
    (hs : IsSl W sm 2 (m.deps.map ratRow)) (he : Ext h W) :
    WC P inFn (csT 9) [] ts (W ++ [.cells [.bool false, .bool false] true false]) (FQ [(6, none)] fun v h' => Ext h h' ∧ v = .bool true) := by
  have lo := lowsS_ok v
  have hi := highsS_ok v
  have hlA : ∀ D a, (D.length : Int) = m.cols * m.rows → (areaS m D a cell).length ≤ 256 := fun D a hD => Nat.le_trans area_len (mp_len v hD)
  have hX : ∀ D : List Int, (D.length : Int) = m.cols * m.rows → ∀ z ∈ areaS m D (c - 1) cell, InM m z ∧ dI D z < c := fun D hD z hz => by
    have hr := (areaS_mem v hD hc).1 hz
    have := hr.le
    exact ⟨hr.inM v hc, by omega⟩
  have hAB : ∀ z ∈ areaS m (highsS m) (c - 1) cell, z ∈ areaS m (lowsS m) (c - 1) cell := fun z hz => area_mono v hc hi.1 lo.1 (fun k hk hh => Int.le_trans (lo_hi v hk) hh) hz
  obtain ⟨A, hAe⟩ : ∃ A, A = areaS m (highsS m) (c - 1) cell := ⟨_, rfl⟩
  obtain ⟨B, hBe⟩ : ∃ B, B = areaS m (lowsS m) (c - 1) cell := ⟨_, rfl⟩
  have lA := hlA (highsS m) (c - 1) hi.1
  have lB := hlA (lowsS m) (c - 1) lo.1
  have xA := hX (highsS m) hi.1
  have xB := hX (lowsS m) lo.1
  have sA := areaS_lt (m := m) (D := highsS m) (most := c - 1) (cell := cell)
  have sB := areaS_lt (m := m) (D := lowsS m) (most := c - 1) (cell := cell)
  have ix0 : ixaF 2 1 none (.agg [x, y]) (.int .i64 0) = some x := rfl
  have ix1 : ixaF 2 1 none (.agg [x, y]) (.int .i64 1) = some y := rfl
  have c9 := o9.one
  have c10 := o10.one
  rw [cs_D, cs_9]
  unfold cx0 cx1 cx2 cx3 cx4 csX cs fn9
  simp only [ICode.dr, ICode.tl, ICode.hd, ICode.inn]
  repeat (first | simp (config := { maxSteps := 1000000 }) only [wset, hset, dset, bset, Nat.reduceAdd, Nat.reduceMul, Nat.reduceLeDiff, Nat.reduceEqDiff, pset, hlen, if_false, if_true, t9, t10, c9, c10] | simp (config := { maxSteps := 1000000 }) (disch := first | (simp only [List.length_append, List.length_cons, List.length_nil] <;> omega) | rfl | omega | fail) only [kset, wset, hset, dset, bset, Nat.reduceAdd, Nat.reduceMul, Nat.reduceLeDiff, Nat.reduceEqDiff, pset, hlen, if_false, if_true, t9, t10, c9, c10])
  refine WL.inv T.mix (fun n ts' h' => ∃ (i : Nat) (g : AHeap) (p q : Bool) (a b : Int), i ≤ 2 ∧ n = 2 - i ∧ h' = W ++ [.cells [.bool p, .bool q] true false] ++ g ∧ (i = 0 → p = false ∧ a = 0) ∧ (1 ≤ i → p = A.any (brdS m) ∧ a = volL (highsS m) c A) ∧ (i ≤ 1 → q = false ∧ b = 0) ∧ (2 ≤ i → q = B.any (brdS m) ∧ b = volL (lowsS m) c B) ∧
      ts'.length = 393 ∧ slot ts' 3 = .ptr b3 0 ∧ slot ts' 4 = .ptr b4 0 ∧ slot ts' 7 = .int .i64 cell ∧ slot ts' 8 = .int .i64 c ∧ slot ts' 9 = x ∧ slot ts' 10 = y ∧ slot ts' 12 = .ptr b12 0 ∧ slot ts' 14 = .ptr b14 0 ∧ slot ts' 16 = .int .i64 a ∧ slot ts' 17 = .int .i64 b ∧ slot ts' 18 = .ptr W.length 0 ∧ slot ts' 128 = .agg [x, y] ∧ slot ts' 129 = .int .i64 i) 2
    ⟨0, [], false, false, 0, 0, by omega, rfl, by rw [List.append_nil], fun _ => ⟨rfl, rfl⟩, fun hh => absurd hh (by omega), fun _ => ⟨rfl, rfl⟩, fun hh => absurd hh (by omega), (by simp only [wset, hset, dset, bset, Nat.reduceAdd, Nat.reduceMul, Nat.reduceLeDiff, Nat.reduceEqDiff, pset, hlen, if_false, if_true, t3]), (by simp only [wset, hset, dset, bset, Nat.reduceAdd, Nat.reduceMul, Nat.reduceLeDiff, Nat.reduceEqDiff, pset, hlen, if_false, if_true, t3]), (by simp only [wset, hset, dset, bset, Nat.reduceAdd, Nat.reduceMul, Nat.reduceLeDiff, Nat.reduceEqDiff, pset, hlen, if_false, if_true, t4]), (by simp only [wset, hset, dset, bset, Nat.reduceAdd, Nat.reduceMul, Nat.reduceLeDiff, Nat.reduceEqDiff, pset, hlen, if_false, if_true, t7]), (by simp only [wset, hset, dset, bset, Nat.reduceAdd, Nat.reduceMul, Nat.reduceLeDiff, Nat.reduceEqDiff, pset, hlen, if_false, if_true, t8]), (by simp only [wset, hset, dset, bset, Nat.reduceAdd, Nat.reduceMul, Nat.reduceLeDiff, Nat.reduceEqDiff, pset, hlen, if_false, if_true, t9]), (by simp only [wset, hset, dset, bset, Nat.reduceAdd, Nat.reduceMul, Nat.reduceLeDiff, Nat.reduceEqDiff, pset, hlen, if_false, if_true, t10]), (by simp only [wset, hset, dset, bset, Nat.reduceAdd, Nat.reduceMul, Nat.reduceLeDiff, Nat.reduceEqDiff, pset, hlen, if_false, if_true, t12]), (by simp only [wset, hset, dset, bset, Nat.reduceAdd, Nat.reduceMul, Nat.reduceLeDiff, Nat.reduceEqDiff, pset, hlen, if_false, if_true, t14]), (by simp only [wset, hset, dset, bset, Nat.reduceAdd, Nat.reduceMul, Nat.reduceLeDiff, Nat.reduceEqDiff, pset, hlen, if_false, if_true, t16]), (by simp only [wset, hset, dset, bset, Nat.reduceAdd, Nat.reduceMul, Nat.reduceLeDiff, Nat.reduceEqDiff, pset, hlen, if_false, if_true, t17]), (by simp only [wset, hset, dset, bset, Nat.reduceAdd, Nat.reduceMul, Nat.reduceLeDiff, Nat.reduceEqDiff, pset, hlen, if_false, if_true, t18]), (by simp only [wset, hset, dset, bset, Nat.reduceAdd, Nat.reduceMul, Nat.reduceLeDiff, Nat.reduceEqDiff, pset, hlen, if_false, if_true] <;> rfl), (by simp only [wset, hset, dset, bset, Nat.reduceAdd, Nat.reduceMul, Nat.reduceLeDiff, Nat.reduceEqDiff, pset, hlen, if_false, if_true] <;> rfl)⟩ ?_
  clear t3 t4 t7 t8 t9 t10 t12 t14 t16 t17 t18 hlen ts
  rintro _ ts _ ⟨i, g, p, q, a, b, hi2, rfl, rfl, k0, k1, k2, k3, hlen, t3, t4, t7, t8, t9, t10, t12, t14, t16, t17, t18, t128, t129⟩
  obtain rfl | rfl | rfl : i = 0 ∨ i = 1 ∨ i = 2 := by omega
  · obtain ⟨rfl, rfl⟩ := k0 rfl
    obtain ⟨rfl, rfl⟩ := k2 (by omega)
    have t129 : slot ts 129 = .int .i64 0 := t129
    have d0 : decide ((0 : Int) < 2) = true := rfl
    repeat (first | simp (config := { maxSteps := 1000000 }) only [wset, hset, dset, bset, Nat.reduceAdd, Nat.reduceMul, Nat.reduceLeDiff, Nat.reduceEqDiff, pset, hlen, if_false, if_true, t9, t10, t128, t129, ix0, d0] | simp (config := { maxSteps := 1000000 }) (disch := first | (simp only [List.length_append, List.length_cons, List.length_nil] <;> omega) | rfl | omega | fail) only [kset, wset, hset, dset, bset, Nat.reduceAdd, Nat.reduceMul, Nat.reduceLeDiff, Nat.reduceEqDiff, pset, hlen, if_false, if_true, t9, t10, t128, t129, ix0, d0])
    refine closes_I0 T (m := m) (sm := sm) (sX := x) (y := y) (W := W) (c := c) (b3 := b3) (X := A) (B := B) (q := false) (by simp only [wset, hset, dset, bset, Nat.reduceAdd, Nat.reduceMul, Nat.reduceLeDiff, Nat.reduceEqDiff, pset, hlen, if_false, if_true, t3]) v hcb (by simp only [wset, hset, dset, bset, Nat.reduceAdd, Nat.reduceMul, Nat.reduceLeDiff, Nat.reduceEqDiff, pset, hlen, if_false, if_true, t3]) (by simp only [wset, hset, dset, bset, Nat.reduceAdd, Nat.reduceMul, Nat.reduceLeDiff, Nat.reduceEqDiff, pset, hlen, if_false, if_true, t8]) (by simp only [wset, hset, dset, bset, Nat.reduceAdd, Nat.reduceMul, Nat.reduceLeDiff, Nat.reduceEqDiff, pset, hlen, if_false, if_true, t10]) (by simp only [wset, hset, dset, bset, Nat.reduceAdd, Nat.reduceMul, Nat.reduceLeDiff, Nat.reduceEqDiff, pset, hlen, if_false, if_true, t16]) (by simp only [wset, hset, dset, bset, Nat.reduceAdd, Nat.reduceMul, Nat.reduceLeDiff, Nat.reduceEqDiff, pset, hlen, if_false, if_true, t18]) (by simp only [wset, hset, dset, bset, Nat.reduceAdd, Nat.reduceMul, Nat.reduceLeDiff, Nat.reduceEqDiff, pset, hlen, if_false, if_true, t3]) (by simp only [wset, hset, dset, bset, Nat.reduceAdd, Nat.reduceMul, Nat.reduceLeDiff, Nat.reduceEqDiff, pset, hlen, if_false, if_true, t3]) m3 hs (hAe ▸ o9) (hAe ▸ lA) (hAe ▸ xA) (hAe ▸ sA) (hBe ▸ o10) (hBe ▸ lB) (hAe ▸ hBe ▸ hAB) ?K
    case K =>
      intro ts2 g2 hlen2 j3 j4 j7 j8 j9 j10 j12 j14 j17 j18 j19 j128 j129 jacc
      have w3 : slot ts2 3 = .ptr b3 0 := by rw [j3]; simp only [wset, hset, dset, bset, Nat.reduceAdd, Nat.reduceMul, Nat.reduceLeDiff, Nat.reduceEqDiff, pset, hlen, if_false, if_true, t3]
      have w4 : slot ts2 4 = .ptr b4 0 := by rw [j4]; simp only [wset, hset, dset, bset, Nat.reduceAdd, Nat.reduceMul, Nat.reduceLeDiff, Nat.reduceEqDiff, pset, hlen, if_false, if_true, t4]
      have w7 : slot ts2 7 = .int .i64 cell := by rw [j7]; simp only [wset, hset, dset, bset, Nat.reduceAdd, Nat.reduceMul, Nat.reduceLeDiff, Nat.reduceEqDiff, pset, hlen, if_false, if_true, t7]
      have w8 : slot ts2 8 = .int .i64 c := by rw [j8]; simp only [wset, hset, dset, bset, Nat.reduceAdd, Nat.reduceMul, Nat.reduceLeDiff, Nat.reduceEqDiff, pset, hlen, if_false, if_true, t8]
      have w9 : slot ts2 9 = x := by rw [j9]; simp only [wset, hset, dset, bset, Nat.reduceAdd, Nat.reduceMul, Nat.reduceLeDiff, Nat.reduceEqDiff, pset, hlen, if_false, if_true, t9]
      have w10 : slot ts2 10 = y := by rw [j10]; simp only [wset, hset, dset, bset, Nat.reduceAdd, Nat.reduceMul, Nat.reduceLeDiff, Nat.reduceEqDiff, pset, hlen, if_false, if_true, t10]
      have w12 : slot ts2 12 = .ptr b12 0 := by rw [j12]; simp only [wset, hset, dset, bset, Nat.reduceAdd, Nat.reduceMul, Nat.reduceLeDiff, Nat.reduceEqDiff, pset, hlen, if_false, if_true, t12]
      have w14 : slot ts2 14 = .ptr b14 0 := by rw [j14]; simp only [wset, hset, dset, bset, Nat.reduceAdd, Nat.reduceMul, Nat.reduceLeDiff, Nat.reduceEqDiff, pset, hlen, if_false, if_true, t14]
      have w18 : slot ts2 18 = .ptr W.length 0 := by rw [j18]; simp only [wset, hset, dset, bset, Nat.reduceAdd, Nat.reduceMul, Nat.reduceLeDiff, Nat.reduceEqDiff, pset, hlen, if_false, if_true, t18]
      have w128 : slot ts2 128 = .agg [x, y] := by rw [j128]; simp only [wset, hset, dset, bset, Nat.reduceAdd, Nat.reduceMul, Nat.reduceLeDiff, Nat.reduceEqDiff, pset, hlen, if_false, if_true, t128]
      have w129 : slot ts2 129 = .int .i64 0 := by rw [j129]; simp only [wset, hset, dset, bset, Nat.reduceAdd, Nat.reduceMul, Nat.reduceLeDiff, Nat.reduceEqDiff, pset, hlen, if_false, if_true, t129]
      have woth : slot ts2 17 = .int .i64 0 := by rw [j17]; simp only [wset, hset, dset, bset, Nat.reduceAdd, Nat.reduceMul, Nat.reduceLeDiff, Nat.reduceEqDiff, pset, hlen, if_false, if_true, t17]
      have hlen := hlen2
      have wr : IntKind.i64.wrap (0 + 1) = 1 := rfl
      repeat (first | simp (config := { maxSteps := 1000000 }) only [wset, hset, dset, bset, Nat.reduceAdd, Nat.reduceMul, Nat.reduceLeDiff, Nat.reduceEqDiff, pset, hlen, if_false, if_true, w129, wr] | simp (config := { maxSteps := 1000000 }) (disch := first | (simp only [List.length_append, List.length_cons, List.length_nil] <;> omega) | rfl | omega | fail) only [kset, wset, hset, dset, bset, Nat.reduceAdd, Nat.reduceMul, Nat.reduceLeDiff, Nat.reduceEqDiff, pset, hlen, if_false, if_true, w129, wr])
      exact ⟨_, by omega, 1, g2, _, _, _, _, by omega, rfl, rfl, fun hh => absurd hh (by omega), fun _ => ⟨rfl, rfl⟩, fun _ => ⟨rfl, rfl⟩, fun hh => absurd hh (by omega), w3, w4, w7, w8, w9, w10, w12, w14, jacc, woth, w18, w128, rfl⟩
  · obtain ⟨kp, ka⟩ := k1 (by omega)
    obtain ⟨rfl, rfl⟩ := k2 (by omega)
    have t129 : slot ts 129 = .int .i64 1 := t129
    have d0 : decide ((1 : Int) < 2) = true := rfl
    repeat (first | simp (config := { maxSteps := 1000000 }) only [wset, hset, dset, bset, Nat.reduceAdd, Nat.reduceMul, Nat.reduceLeDiff, Nat.reduceEqDiff, pset, hlen, if_false, if_true, t9, t10, t128, t129, ix1, d0] | simp (config := { maxSteps := 1000000 }) (disch := first | (simp only [List.length_append, List.length_cons, List.length_nil] <;> omega) | rfl | omega | fail) only [kset, wset, hset, dset, bset, Nat.reduceAdd, Nat.reduceMul, Nat.reduceLeDiff, Nat.reduceEqDiff, pset, hlen, if_false, if_true, t9, t10, t128, t129, ix1, d0])
    refine closes_I1 T (m := m) (sm := sm) (sX := y) (y := y) (W := W) (c := c) (b3 := b3) (X := B) (B := B) (p := p) (by simp only [wset, hset, dset, bset, Nat.reduceAdd, Nat.reduceMul, Nat.reduceLeDiff, Nat.reduceEqDiff, pset, hlen, if_false, if_true, t3]) v hcb (by simp only [wset, hset, dset, bset, Nat.reduceAdd, Nat.reduceMul, Nat.reduceLeDiff, Nat.reduceEqDiff, pset, hlen, if_false, if_true, t3]) (by simp only [wset, hset, dset, bset, Nat.reduceAdd, Nat.reduceMul, Nat.reduceLeDiff, Nat.reduceEqDiff, pset, hlen, if_false, if_true, t8]) (by simp only [wset, hset, dset, bset, Nat.reduceAdd, Nat.reduceMul, Nat.reduceLeDiff, Nat.reduceEqDiff, pset, hlen, if_false, if_true, t10]) (by simp only [wset, hset, dset, bset, Nat.reduceAdd, Nat.reduceMul, Nat.reduceLeDiff, Nat.reduceEqDiff, pset, hlen, if_false, if_true, t17]) (by simp only [wset, hset, dset, bset, Nat.reduceAdd, Nat.reduceMul, Nat.reduceLeDiff, Nat.reduceEqDiff, pset, hlen, if_false, if_true, t18]) (by simp only [wset, hset, dset, bset, Nat.reduceAdd, Nat.reduceMul, Nat.reduceLeDiff, Nat.reduceEqDiff, pset, hlen, if_false, if_true, t3]) (by simp only [wset, hset, dset, bset, Nat.reduceAdd, Nat.reduceMul, Nat.reduceLeDiff, Nat.reduceEqDiff, pset, hlen, if_false, if_true, t3]) m3 hs (hBe ▸ o10) (hBe ▸ lB) (hBe ▸ xB) (hBe ▸ sB) ?K
    case K =>
      intro ts2 g2 hlen2 j3 j4 j7 j8 j9 j10 j12 j14 j16 j18 j19 j128 j129 jacc
      have w3 : slot ts2 3 = .ptr b3 0 := by rw [j3]; simp only [wset, hset, dset, bset, Nat.reduceAdd, Nat.reduceMul, Nat.reduceLeDiff, Nat.reduceEqDiff, pset, hlen, if_false, if_true, t3]
      have w4 : slot ts2 4 = .ptr b4 0 := by rw [j4]; simp only [wset, hset, dset, bset, Nat.reduceAdd, Nat.reduceMul, Nat.reduceLeDiff, Nat.reduceEqDiff, pset, hlen, if_false, if_true, t4]
      have w7 : slot ts2 7 = .int .i64 cell := by rw [j7]; simp only [wset, hset, dset, bset, Nat.reduceAdd, Nat.reduceMul, Nat.reduceLeDiff, Nat.reduceEqDiff, pset, hlen, if_false, if_true, t7]
      have w8 : slot ts2 8 = .int .i64 c := by rw [j8]; simp only [wset, hset, dset, bset, Nat.reduceAdd, Nat.reduceMul, Nat.reduceLeDiff, Nat.reduceEqDiff, pset, hlen, if_false, if_true, t8]
      have w9 : slot ts2 9 = x := by rw [j9]; simp only [wset, hset, dset, bset, Nat.reduceAdd, Nat.reduceMul, Nat.reduceLeDiff, Nat.reduceEqDiff, pset, hlen, if_false, if_true, t9]
      have w10 : slot ts2 10 = y := by rw [j10]; simp only [wset, hset, dset, bset, Nat.reduceAdd, Nat.reduceMul, Nat.reduceLeDiff, Nat.reduceEqDiff, pset, hlen, if_false, if_true, t10]
      have w12 : slot ts2 12 = .ptr b12 0 := by rw [j12]; simp only [wset, hset, dset, bset, Nat.reduceAdd, Nat.reduceMul, Nat.reduceLeDiff, Nat.reduceEqDiff, pset, hlen, if_false, if_true, t12]
      have w14 : slot ts2 14 = .ptr b14 0 := by rw [j14]; simp only [wset, hset, dset, bset, Nat.reduceAdd, Nat.reduceMul, Nat.reduceLeDiff, Nat.reduceEqDiff, pset, hlen, if_false, if_true, t14]
      have w18 : slot ts2 18 = .ptr W.length 0 := by rw [j18]; simp only [wset, hset, dset, bset, Nat.reduceAdd, Nat.reduceMul, Nat.reduceLeDiff, Nat.reduceEqDiff, pset, hlen, if_false, if_true, t18]
      have w128 : slot ts2 128 = .agg [x, y] := by rw [j128]; simp only [wset, hset, dset, bset, Nat.reduceAdd, Nat.reduceMul, Nat.reduceLeDiff, Nat.reduceEqDiff, pset, hlen, if_false, if_true, t128]
      have w129 : slot ts2 129 = .int .i64 1 := by rw [j129]; simp only [wset, hset, dset, bset, Nat.reduceAdd, Nat.reduceMul, Nat.reduceLeDiff, Nat.reduceEqDiff, pset, hlen, if_false, if_true, t129]
      have woth : slot ts2 16 = .int .i64 a := by rw [j16]; simp only [wset, hset, dset, bset, Nat.reduceAdd, Nat.reduceMul, Nat.reduceLeDiff, Nat.reduceEqDiff, pset, hlen, if_false, if_true, t16]
      have hlen := hlen2
      have wr : IntKind.i64.wrap (1 + 1) = 2 := rfl
      repeat (first | simp (config := { maxSteps := 1000000 }) only [wset, hset, dset, bset, Nat.reduceAdd, Nat.reduceMul, Nat.reduceLeDiff, Nat.reduceEqDiff, pset, hlen, if_false, if_true, w129, wr] | simp (config := { maxSteps := 1000000 }) (disch := first | (simp only [List.length_append, List.length_cons, List.length_nil] <;> omega) | rfl | omega | fail) only [kset, wset, hset, dset, bset, Nat.reduceAdd, Nat.reduceMul, Nat.reduceLeDiff, Nat.reduceEqDiff, pset, hlen, if_false, if_true, w129, wr])
      exact ⟨_, by omega, 2, g2, _, _, _, _, by omega, rfl, rfl, fun hh => absurd hh (by omega), fun _ => ⟨kp, ka⟩, fun hh => absurd hh (by omega), fun _ => ⟨rfl, rfl⟩, w3, w4, w7, w8, w9, w10, w12, w14, woth, jacc, w18, w128, rfl⟩
  · obtain ⟨kp, ka⟩ := k1 (by omega)
    obtain ⟨kq, kb⟩ := k3 (by omega)
    rw [hAe] at kp ka
    rw [hBe] at kq kb
    rw [ka] at t16
    rw [kb] at t17
    have t129 : slot ts 129 = .int .i64 2 := t129
    have d0 : decide ((2 : Int) < 2) = false := rfl
    repeat (first | simp (config := { maxSteps := 1000000 }) only [wset, hset, dset, bset, Nat.reduceAdd, Nat.reduceMul, Nat.reduceLeDiff, Nat.reduceEqDiff, pset, hlen, if_false, if_true, t128, t129, d0] | simp (config := { maxSteps := 1000000 }) (disch := first | (simp only [List.length_append, List.length_cons, List.length_nil] <;> omega) | rfl | omega | fail) only [kset, wset, hset, dset, bset, Nat.reduceAdd, Nat.reduceMul, Nat.reduceLeDiff, Nat.reduceEqDiff, pset, hlen, if_false, if_true, t128, t129, d0])
    refine closes_E T S (m := m) (sm := sm) (x := x) (y := y) (cell := cell) (c := c) (nn := nn) (b3 := b3) (b4 := b4) (b12 := b12) (b14 := b14) (b18 := W.length) (q1 := p) (q2 := q) (by simp only [wset, hset, dset, bset, Nat.reduceAdd, Nat.reduceMul, Nat.reduceLeDiff, Nat.reduceEqDiff, pset, hlen, if_false, if_true, t3]) (gl.ext (by repeat first | with_reducible exact Ext.refl _ | refine Ext.app _ ?_)) v hc hcb hn2 hnb (by simp only [wset, hset, dset, bset, Nat.reduceAdd, Nat.reduceMul, Nat.reduceLeDiff, Nat.reduceEqDiff, pset, hlen, if_false, if_true, t3]) (by simp only [wset, hset, dset, bset, Nat.reduceAdd, Nat.reduceMul, Nat.reduceLeDiff, Nat.reduceEqDiff, pset, hlen, if_false, if_true, t4]) (by simp only [wset, hset, dset, bset, Nat.reduceAdd, Nat.reduceMul, Nat.reduceLeDiff, Nat.reduceEqDiff, pset, hlen, if_false, if_true, t7]) (by simp only [wset, hset, dset, bset, Nat.reduceAdd, Nat.reduceMul, Nat.reduceLeDiff, Nat.reduceEqDiff, pset, hlen, if_false, if_true, t8]) (by simp only [wset, hset, dset, bset, Nat.reduceAdd, Nat.reduceMul, Nat.reduceLeDiff, Nat.reduceEqDiff, pset, hlen, if_false, if_true, t9]) (by simp only [wset, hset, dset, bset, Nat.reduceAdd, Nat.reduceMul, Nat.reduceLeDiff, Nat.reduceEqDiff, pset, hlen, if_false, if_true, t10]) (by simp only [wset, hset, dset, bset, Nat.reduceAdd, Nat.reduceMul, Nat.reduceLeDiff, Nat.reduceEqDiff, pset, hlen, if_false, if_true, t12]) (by simp only [wset, hset, dset, bset, Nat.reduceAdd, Nat.reduceMul, Nat.reduceLeDiff, Nat.reduceEqDiff, pset, hlen, if_false, if_true, t14]) (by simp only [wset, hset, dset, bset, Nat.reduceAdd, Nat.reduceMul, Nat.reduceLeDiff, Nat.reduceEqDiff, pset, hlen, if_false, if_true, t16]) (by simp only [wset, hset, dset, bset, Nat.reduceAdd, Nat.reduceMul, Nat.reduceLeDiff, Nat.reduceEqDiff, pset, hlen, if_false, if_true, t17]) (by simp only [wset, hset, dset, bset, Nat.reduceAdd, Nat.reduceMul, Nat.reduceLeDiff, Nat.reduceEqDiff, pset, hlen, if_false, if_true, t18]) ?m3 ?m4 ?m12 ?m14 ?m18 kp kq ?o9 ?o10 ?hs ?ee
    case m3 => exact Ext.some (by repeat first | with_reducible exact Ext.refl _ | refine Ext.app _ ?_) m3
    case m4 => exact Ext.some (by repeat first | with_reducible exact Ext.refl _ | refine Ext.app _ ?_) m4
    case m12 => exact Ext.some (by repeat first | with_reducible exact Ext.refl _ | refine Ext.app _ ?_) m12
    case m14 => exact Ext.some (by repeat first | with_reducible exact Ext.refl _ | refine Ext.app _ ?_) m14
    case m18 => exact Ext.some (by repeat first | with_reducible exact Ext.refl _ | refine Ext.app _ ?_) at_new
    case o9 => exact o9.ext (by repeat first | with_reducible exact Ext.refl _ | refine Ext.app _ ?_)
    case o10 => exact o10.ext (by repeat first | with_reducible exact Ext.refl _ | refine Ext.app _ ?_)
    case hs => exact hs.ext (by repeat first | with_reducible exact Ext.refl _ | refine Ext.app _ ?_)
    case ee => exact Ext.trans he (by repeat first | with_reducible exact Ext.refl _ | refine Ext.app _ ?_)

set_option maxRecDepth 10000 in
set_option maxHeartbeats 1000000 in
theorem closes_C {m : Mp} {sm : AV} {W : AHeap} {ts : TS} {x y : AV} {cell c : Int} {nn : List Int} {b3 b4 b12 b14 : Nat} (hlen : ts.length = 393) (gl : Glb W) (v : MpV m) (hc : InM m cell) (hcb : 0 ≤ c ∧ c ≤ 65535) (hn2 : nn.length = 2) (hnb : ∀ y ∈ nn, 0 ≤ y ∧ y ≤ 255)
    (t3 : slot ts 3 = .ptr b3 0) (t4 : slot ts 4 = .ptr b4 0) (t7 : slot ts 7 = .int .i64 cell) (t8 : slot ts 8 = .int .i64 c) (t9 : slot ts 9 = x) (t10 : slot ts 10 = y) (t11 : slot ts 11 = .int .i64 0) (t12 : slot ts 12 = .ptr b12 0) (t13 : slot ts 13 = .int .i64 0) (t14 : slot ts 14 = .ptr b14 0) (t15 : slot ts 15 = .int .i64 0)
    (m3 : W[b3]? = some (.cells [.int .i64 m.cols, .int .i64 m.rows, sm] true false)) (m4 : W[b4]? = some (.cells (nn.map (AV.int .u8)) true false)) (m12 : W[b12]? = some (.cells [.int .i64 (volL (highsS m) c (areaS m (highsS m) (c - 1) cell)), .int .i64 (volL (lowsS m) c (areaS m (lowsS m) (c - 1) cell))] true false)) (m14 : W[b14]? = some (.cells [.int .i64 (spillS m (lowsS m) cell), .int .i64 (spillS m (highsS m) cell)] true false))
    (o9 : IsSl W x 1 ((areaS m (highsS m) (c - 1) cell).map intRow)) (o10 : IsSl W y 1 ((areaS m (lowsS m) (c - 1) cell).map intRow))
    (hs : IsSl W sm 2 (m.deps.map ratRow)) (he : Ext h W) :
    WC P inFn (csT 6) [] ts W (FQ [(6, none)] fun v h' => Ext h h' ∧ v = .bool true) := by
  have q3 := (List.getElem?_eq_some_iff.1 m3).1
  have l3 : ∀ {n : Option Nat} {o : Nat} {kk : AHeap}, Ext W kk → loadF n (.ptr b3 o) (fun z => kk[z]?) = ldB n o (.cells [.int .i64 m.cols, .int .i64 m.rows, sm] true false) := fun e => loadF_at (e.some m3)
  have lo := lowsS_ok v
  have hi := highsS_ok v
  have e1 : (areaS m (highsS m) (c - 1) cell).length ≤ m.deps.length := Nat.le_trans area_len (by rw [highsS, List.length_map]; exact Nat.le_refl _)
  have e2 : (areaS m (lowsS m) (c - 1) cell).length ≤ m.deps.length := Nat.le_trans area_len (by rw [lowsS, List.length_map]; exact Nat.le_refl _)
  have hlm := fun G => hs.lenm G
  have hl9 := fun G => o9.lenm G
  have hl10 := fun G => o10.lenm G
  have hss : spillS m (lowsS m) cell ≤ spillS m (highsS m) cell := spl_mono v hc hi.1 lo.1 fun k hk => lo_hi v hk
  have b1 := (lo.2 _ (spl_is v lo.1 hc).mem).1
  have b2 := (hi.2 _ (spl_is v hi.1 hc).mem).2
  have hgo := fun (ts' : TS) (j0 : ts'.length = 393) (j3 : slot ts' 3 = .ptr b3 0) (j4 : slot ts' 4 = .ptr b4 0) (j7 : slot ts' 7 = .int .i64 cell) (j8 : slot ts' 8 = .int .i64 c) (j9 : slot ts' 9 = x) (j10 : slot ts' 10 = y) (j12 : slot ts' 12 = .ptr b12 0) (j14 : slot ts' 14 = .ptr b14 0) (j16 : slot ts' 16 = .int .i64 0) (j17 : slot ts' 17 = .int .i64 0) (j18 : slot ts' 18 = .ptr W.length 0) =>
    closes_D T S (h := h) (m := m) (sm := sm) (W := W) (x := x) (y := y) (cell := cell) (c := c) (nn := nn) (b3 := b3) (b4 := b4) (b12 := b12) (b14 := b14) j0 gl v hc hcb hn2 hnb j3 j4 j7 j8 j9 j10 j12 j14 j16 j17 j18 m3 m4 m12 m14 o9 o10 hs he
  obtain ⟨s1, hs1⟩ : ∃ s1, s1 = spillS m (lowsS m) cell := ⟨_, rfl⟩
  obtain ⟨s2, hs2⟩ : ∃ s2, s2 = spillS m (highsS m) cell := ⟨_, rfl⟩
  obtain ⟨n1, hn1⟩ : ∃ n1, n1 = (areaS m (highsS m) (c - 1) cell).length := ⟨_, rfl⟩
  obtain ⟨n2, hn2'⟩ : ∃ n2, n2 = (areaS m (lowsS m) (c - 1) cell).length := ⟨_, rfl⟩
  rw [← hs1] at hss b1 m14
  rw [← hs2] at hss b2 m14
  rw [← hn1] at e1 hl9
  rw [← hn2'] at e2 hl10
  have l14 : ∀ {n : Option Nat} {o : Nat} {kk : AHeap}, Ext W kk → loadF n (.ptr b14 o) (fun z => kk[z]?) = ldB n o (.cells [.int .i64 s1, .int .i64 s2] true false) := fun e => loadF_at (e.some m14)
  have w0 : IntKind.i64.wrap (0 + 0) = 0 := rfl
  have z0 : decide ((0 : Int) ≠ 0) = false := rfl
  have d1 : decide ((m.deps.length : Int) < n1) = false := decide_eq_false (by omega)
  have d2 : decide ((m.deps.length : Int) < n2) = false := decide_eq_false (by omega)
  have d3 : decide (s2 < s1) = false := decide_eq_false (by omega)
  have d4 : decide (s1 < 0) = false := decide_eq_false (by omega)
  have d5 : decide (100000000 < s2) = false := decide_eq_false (by omega)
  rw [cs_C]
  unfold cs fn9
  simp only [ICode.dr, ICode.tl, ICode.hd]
  repeat (first | simp (config := { maxSteps := 1000000 }) only [wset, hset, dset, bset, Nat.reduceAdd, Nat.reduceMul, Nat.reduceLeDiff, Nat.reduceEqDiff, pset, hlen, if_false, if_true, t3, t9, t10, t11, t13, t14, t15, w0, z0, hl9, hl10, hlm, l3, l14, d1, d2, d3, d4, d5] | simp (config := { maxSteps := 1000000 }) (disch := first | (simp only [List.length_append, List.length_cons, List.length_nil] <;> omega) | rfl | omega | fail) only [kset, wset, hset, dset, bset, Nat.reduceAdd, Nat.reduceMul, Nat.reduceLeDiff, Nat.reduceEqDiff, pset, hlen, if_false, if_true, t3, t9, t10, t11, t13, t14, t15, w0, z0, hl9, hl10, hlm, l3, l14, d1, d2, d3, d4, d5])
  exact hgo _ (by simp only [wset, hset, dset, bset, Nat.reduceAdd, Nat.reduceMul, Nat.reduceLeDiff, Nat.reduceEqDiff, pset, hlen, if_false, if_true, t3]) (by simp only [wset, hset, dset, bset, Nat.reduceAdd, Nat.reduceMul, Nat.reduceLeDiff, Nat.reduceEqDiff, pset, hlen, if_false, if_true, t3]) (by simp only [wset, hset, dset, bset, Nat.reduceAdd, Nat.reduceMul, Nat.reduceLeDiff, Nat.reduceEqDiff, pset, hlen, if_false, if_true, t4]) (by simp only [wset, hset, dset, bset, Nat.reduceAdd, Nat.reduceMul, Nat.reduceLeDiff, Nat.reduceEqDiff, pset, hlen, if_false, if_true, t7]) (by simp only [wset, hset, dset, bset, Nat.reduceAdd, Nat.reduceMul, Nat.reduceLeDiff, Nat.reduceEqDiff, pset, hlen, if_false, if_true, t8]) (by simp only [wset, hset, dset, bset, Nat.reduceAdd, Nat.reduceMul, Nat.reduceLeDiff, Nat.reduceEqDiff, pset, hlen, if_false, if_true, t9]) (by simp only [wset, hset, dset, bset, Nat.reduceAdd, Nat.reduceMul, Nat.reduceLeDiff, Nat.reduceEqDiff, pset, hlen, if_false, if_true, t10]) (by simp only [wset, hset, dset, bset, Nat.reduceAdd, Nat.reduceMul, Nat.reduceLeDiff, Nat.reduceEqDiff, pset, hlen, if_false, if_true, t12]) (by simp only [wset, hset, dset, bset, Nat.reduceAdd, Nat.reduceMul, Nat.reduceLeDiff, Nat.reduceEqDiff, pset, hlen, if_false, if_true, t14]) (by simp only [wset, hset, dset, bset, Nat.reduceAdd, Nat.reduceMul, Nat.reduceLeDiff, Nat.reduceEqDiff, pset, hlen, if_false, if_true, t3]) (by simp only [wset, hset, dset, bset, Nat.reduceAdd, Nat.reduceMul, Nat.reduceLeDiff, Nat.reduceEqDiff, pset, hlen, if_false, if_true, t3]) (by simp only [wset, hset, dset, bset, Nat.reduceAdd, Nat.reduceMul, Nat.reduceLeDiff, Nat.reduceEqDiff, pset, hlen, if_false, if_true, t3])

set_option maxRecDepth 10000 in
set_option maxHeartbeats 1000000 in
theorem closes_B {m : Mp} {sm : AV} {W : AHeap} {ts : TS} {c : Int} {nn : List Int} {b3 b4 : Nat} (hlen : ts.length = 393) (gl : Glb W) (v : MpV m) (hcb : 0 ≤ c ∧ c ≤ 65535) (hn2 : nn.length = 2) (hnb : ∀ y ∈ nn, 0 ≤ y ∧ y ≤ 255)
    (t2 : slot ts 2 = .int .u16 c) (t3 : slot ts 3 = .ptr b3 0) (t4 : slot ts 4 = .ptr b4 0)
    (m3 : W[b3]? = some (.cells [.int .i64 m.cols, .int .i64 m.rows, sm] true false)) (m4 : W[b4]? = some (.cells (nn.map (AV.int .u8)) true false))
    (hs : IsSl W sm 2 (m.deps.map ratRow)) (he : Ext h W) :
    WC P inFn (csT 2) [] ts W (FQ [(6, none)] fun v h' => Ext h h' ∧ v = .bool true) := by
  have q3 := (List.getElem?_eq_some_iff.1 m3).1
  have l3 : ∀ {n : Option Nat} {o : Nat} {kk : AHeap}, Ext W kk → loadF n (.ptr b3 o) (fun z => kk[z]?) = ldB n o (.cells [.int .i64 m.cols, .int .i64 m.rows, sm] true false) := fun e => loadF_at (e.some m3)
  have l4 : ∀ {n : Option Nat} {o : Nat} {kk : AHeap}, Ext W kk → loadF n (.ptr b4 o) (fun z => kk[z]?) = ldB n o (.cells (nn.map (AV.int .u8)) true false) := fun e => loadF_at (e.some m4)
  have hl0 := mp_len v v.l
  have hl : m.deps.length ≤ 2 ^ 40 := by omega
  have hlp : 0 < m.deps.length := by
    have := mul_bd (a := m.cols - 1) (b := m.rows - 1) (A := 16) (B := 16) (by have := v.c; omega) (by have := v.r; omega)
    have h1 := v.l
    have h2 : (m.cols - 1) * (m.rows - 1) = m.cols * m.rows - m.cols - m.rows + 1 := by rw [Int.sub_mul, Int.mul_sub, Int.mul_one, Int.one_mul]; omega
    have := v.c
    have := v.r
    omega
  have c0 := hs.one
  have n1 : (nn.map (AV.int .u8))[0]? = some (.int .u8 (nn[0]'(by omega))) := by rw [List.getElem?_map, List.getElem?_eq_getElem (by omega)]; rfl
  obtain ⟨a, ha⟩ : ∃ a, a = nn[0]'(by omega) := ⟨_, rfl⟩
  have hab := hnb _ (List.getElem_mem (l := nn) (n := 0) (by omega))
  rw [← ha] at n1 hab
  have wa : IntKind.i64.wrap a = a := wrap_in (by omega) (by omega)
  have wc : IntKind.i64.wrap c = c := wrap_in (by omega) (by omega)
  have hl1 : (m.deps.length : Int) ≠ 0 := by omega
  have r1 : 0 ≤ a.tmod m.deps.length := Int.tmod_nonneg _ hab.1
  have r2 : a.tmod m.deps.length < m.deps.length := Int.tmod_lt_of_pos _ (by omega)
  obtain ⟨cell, hcell⟩ : ∃ cell, cell = a.tmod m.deps.length := ⟨_, rfl⟩
  have hc : InM m cell := ⟨by omega, by have := v.l; omega⟩
  have br := fun (kk : IntKind) (a : Int) => bin_rem (k := kk) (a := a) hl1
  have i2 : iadaF 2 1 (.ptr b4 0) (.int .i64 0) = some (.ptr b4 0) := iada_0 (by decide)
  have hlm := fun G => hs.lenm G
  have z1 : chkContS m cell c = 0 := chkCont_zero.2 ⟨⟨v, hc⟩, by omega⟩
  have z2 : chkCellS m cell = 0 := chkCell_zero.2 ⟨v, hc⟩
  rw [cs_A]
  unfold cs fn9
  simp only [ICode.dr, ICode.tl, ICode.hd]
  have hcell' := hcell.symm
  repeat (first | simp (config := { maxSteps := 1000000 }) only [wset, hset, dset, bset, Nat.reduceAdd, Nat.reduceMul, Nat.reduceLeDiff, Nat.reduceEqDiff, pset, hlen, if_false, if_true, t2, t3, t4, l3, l4, c0, i2, n1, wa, wc, hlm, br, hcell'] | simp (config := { maxSteps := 1000000 }) (disch := first | (simp only [List.length_append, List.length_cons, List.length_nil] <;> omega) | rfl | omega | fail) only [kset, wset, hset, dset, bset, Nat.reduceAdd, Nat.reduceMul, Nat.reduceLeDiff, Nat.reduceEqDiff, pset, hlen, if_false, if_true, t2, t3, t4, l3, l4, c0, i2, n1, wa, wc, hlm, br, hcell'])
  refine WF.res T.c55 (r55 T (hs.ext (by repeat first | with_reducible exact Ext.refl _ | refine Ext.app _ ?_)) hl) ?_
  rintro _ g1 ⟨s1, rfl, hf1⟩
  repeat (first | simp (config := { maxSteps := 1000000 }) only [wset, hset, dset, bset, Nat.reduceAdd, Nat.reduceMul, Nat.reduceLeDiff, Nat.reduceEqDiff, pset, hlen, if_false, if_true, t2, t3, t4, l3, c0, hf1.isSl.one] | simp (config := { maxSteps := 1000000 }) (disch := first | (simp only [List.length_append, List.length_cons, List.length_nil] <;> omega) | rfl | omega | fail) only [kset, wset, hset, dset, bset, Nat.reduceAdd, Nat.reduceMul, Nat.reduceLeDiff, Nat.reduceEqDiff, pset, hlen, if_false, if_true, t2, t3, t4, l3, c0, hf1.isSl.one])
  refine WF.res T.c56 (r56 T S (gl.ext (by repeat first | with_reducible exact Ext.refl _ | refine Ext.app _ ?_)) hf1.isSl hl cell c) ?_
  rintro _ g2 ⟨x, y, rfl, hx, hy⟩
  rw [regR, if_pos z1] at hx hy
  rw [z1]
  repeat (first | simp (config := { maxSteps := 1000000 }) only [wset, hset, dset, bset, Nat.reduceAdd, Nat.reduceMul, Nat.reduceLeDiff, Nat.reduceEqDiff, pset, hlen, if_false, if_true, t2, t3, t4, l3, c0] | simp (config := { maxSteps := 1000000 }) (disch := first | (simp only [List.length_append, List.length_cons, List.length_nil] <;> omega) | rfl | omega | fail) only [kset, wset, hset, dset, bset, Nat.reduceAdd, Nat.reduceMul, Nat.reduceLeDiff, Nat.reduceEqDiff, pset, hlen, if_false, if_true, t2, t3, t4, l3, c0])
  refine WF.res T.c55 (r55 T (hs.ext (by repeat first | with_reducible exact Ext.refl _ | refine Ext.app _ ?_)) hl) ?_
  rintro _ g3 ⟨s3, rfl, hf3⟩
  repeat (first | simp (config := { maxSteps := 1000000 }) only [wset, hset, dset, bset, Nat.reduceAdd, Nat.reduceMul, Nat.reduceLeDiff, Nat.reduceEqDiff, pset, hlen, if_false, if_true, t2, t3, t4, l3, c0, hf3.isSl.one] | simp (config := { maxSteps := 1000000 }) (disch := first | (simp only [List.length_append, List.length_cons, List.length_nil] <;> omega) | rfl | omega | fail) only [kset, wset, hset, dset, bset, Nat.reduceAdd, Nat.reduceMul, Nat.reduceLeDiff, Nat.reduceEqDiff, pset, hlen, if_false, if_true, t2, t3, t4, l3, c0, hf3.isSl.one])
  refine WF.res T.c57 (r57 T S (gl.ext (by repeat first | with_reducible exact Ext.refl _ | refine Ext.app _ ?_)) hf3.isSl hl cell c) ?_
  rintro _ g4 rfl
  rw [volR, if_pos z1, z1]
  repeat (first | simp (config := { maxSteps := 1000000 }) only [wset, hset, dset, bset, Nat.reduceAdd, Nat.reduceMul, Nat.reduceLeDiff, Nat.reduceEqDiff, pset, hlen, if_false, if_true, t2, t3, t4, l3, c0] | simp (config := { maxSteps := 1000000 }) (disch := first | (simp only [List.length_append, List.length_cons, List.length_nil] <;> omega) | rfl | omega | fail) only [kset, wset, hset, dset, bset, Nat.reduceAdd, Nat.reduceMul, Nat.reduceLeDiff, Nat.reduceEqDiff, pset, hlen, if_false, if_true, t2, t3, t4, l3, c0])
  refine WF.res T.c55 (r55 T (hs.ext (by repeat first | with_reducible exact Ext.refl _ | refine Ext.app _ ?_)) hl) ?_
  rintro _ g5 ⟨s5, rfl, hf5⟩
  repeat (first | simp (config := { maxSteps := 1000000 }) only [wset, hset, dset, bset, Nat.reduceAdd, Nat.reduceMul, Nat.reduceLeDiff, Nat.reduceEqDiff, pset, hlen, if_false, if_true, t2, t3, t4, l3, c0, hf5.isSl.one] | simp (config := { maxSteps := 1000000 }) (disch := first | (simp only [List.length_append, List.length_cons, List.length_nil] <;> omega) | rfl | omega | fail) only [kset, wset, hset, dset, bset, Nat.reduceAdd, Nat.reduceMul, Nat.reduceLeDiff, Nat.reduceEqDiff, pset, hlen, if_false, if_true, t2, t3, t4, l3, c0, hf5.isSl.one])
  refine WF.res T.c54 (r54 T S (gl.ext (by repeat first | with_reducible exact Ext.refl _ | refine Ext.app _ ?_)) hf5.isSl hl cell) ?_
  rintro _ g6 rfl
  rw [splR, if_pos z2, z2]
  repeat (first | simp (config := { maxSteps := 1000000 }) only [wset, hset, dset, bset, Nat.reduceAdd, Nat.reduceMul, Nat.reduceLeDiff, Nat.reduceEqDiff, pset, hlen, if_false, if_true, t2, t3, t4, l3, c0] | simp (config := { maxSteps := 1000000 }) (disch := first | (simp only [List.length_append, List.length_cons, List.length_nil] <;> omega) | rfl | omega | fail) only [kset, wset, hset, dset, bset, Nat.reduceAdd, Nat.reduceMul, Nat.reduceLeDiff, Nat.reduceEqDiff, pset, hlen, if_false, if_true, t2, t3, t4, l3, c0])
  refine closes_C T S (m := m) (sm := sm) (x := x) (y := y) (cell := cell) (c := c) (nn := nn) (b3 := b3) (b4 := b4) (b12 := ?b12) (b14 := ?b14) (by simp only [wset, hset, dset, bset, Nat.reduceAdd, Nat.reduceMul, Nat.reduceLeDiff, Nat.reduceEqDiff, pset, hlen, if_false, if_true, t3]) (gl.ext (by repeat first | with_reducible exact Ext.refl _ | refine Ext.app _ ?_)) v hc hcb hn2 hnb (by simp only [wset, hset, dset, bset, Nat.reduceAdd, Nat.reduceMul, Nat.reduceLeDiff, Nat.reduceEqDiff, pset, hlen, if_false, if_true, t3]) (by simp only [wset, hset, dset, bset, Nat.reduceAdd, Nat.reduceMul, Nat.reduceLeDiff, Nat.reduceEqDiff, pset, hlen, if_false, if_true, t4]) (by simp only [wset, hset, dset, bset, Nat.reduceAdd, Nat.reduceMul, Nat.reduceLeDiff, Nat.reduceEqDiff, pset, hlen, if_false, if_true, t3]) (by simp only [wset, hset, dset, bset, Nat.reduceAdd, Nat.reduceMul, Nat.reduceLeDiff, Nat.reduceEqDiff, pset, hlen, if_false, if_true, t3]) (by simp only [wset, hset, dset, bset, Nat.reduceAdd, Nat.reduceMul, Nat.reduceLeDiff, Nat.reduceEqDiff, pset, hlen, if_false, if_true, t3]) (by simp only [wset, hset, dset, bset, Nat.reduceAdd, Nat.reduceMul, Nat.reduceLeDiff, Nat.reduceEqDiff, pset, hlen, if_false, if_true, t3]) (by simp only [wset, hset, dset, bset, Nat.reduceAdd, Nat.reduceMul, Nat.reduceLeDiff, Nat.reduceEqDiff, pset, hlen, if_false, if_true, t3]) ?k12 (by simp only [wset, hset, dset, bset, Nat.reduceAdd, Nat.reduceMul, Nat.reduceLeDiff, Nat.reduceEqDiff, pset, hlen, if_false, if_true, t3]) ?k14 (by simp only [wset, hset, dset, bset, Nat.reduceAdd, Nat.reduceMul, Nat.reduceLeDiff, Nat.reduceEqDiff, pset, hlen, if_false, if_true, t3]) ?m3 ?m4 ?m12 ?m14 ?o9 ?o10 ?hs ?ee
  case k12 => simp only [wset, hset, dset, bset, Nat.reduceAdd, Nat.reduceMul, Nat.reduceLeDiff, Nat.reduceEqDiff, pset, hlen, if_false, if_true]; rfl
  case k14 => simp only [wset, hset, dset, bset, Nat.reduceAdd, Nat.reduceMul, Nat.reduceLeDiff, Nat.reduceEqDiff, pset, hlen, if_false, if_true]; rfl
  case m3 => exact Ext.some (by repeat first | with_reducible exact Ext.refl _ | refine Ext.app _ ?_) m3
  case m4 => exact Ext.some (by repeat first | with_reducible exact Ext.refl _ | refine Ext.app _ ?_) m4
  case m12 => exact Ext.some (by repeat first | with_reducible exact Ext.refl _ | refine Ext.app _ ?_) at_new
  case m14 => exact at_new
  case o9 => exact hx.ext (by repeat first | with_reducible exact Ext.refl _ | refine Ext.app _ ?_)
  case o10 => exact hy.ext (by repeat first | with_reducible exact Ext.refl _ | refine Ext.app _ ?_)
  case hs => exact hs.ext (by repeat first | with_reducible exact Ext.refl _ | refine Ext.app _ ?_)
  case ee => exact Ext.trans he (by repeat first | with_reducible exact Ext.refl _ | refine Ext.app _ ?_)

set_option maxRecDepth 10000 in
set_option maxHeartbeats 1000000 in
theorem r9 (gl : Glb h) (haw : ∀ k, Ext h k → RCall P 15 [] k (fun v _ => v = .bool true)) {m : Mp} {sm : AV} {nn : List Int} {c : Int} (hs : IsSl h sm 2 (m.deps.map ratRow)) (hn2 : nn.length = 2) (hnb : ∀ y ∈ nn, 0 ≤ y ∧ y ≤ 255) (hcb : 0 ≤ c ∧ c ≤ 65535) :
    RCall P 9 [mapA m sm, .agg (nn.map (AV.int .u8)), .int .u16 c] h (fun v _ => v = .bool true) := by
  refine .of T.mix (Eq.trans T.c9 (congrArg some cs_0)) ?_
  obtain ⟨ts, hts⟩ : ∃ ts, ts = startTS 393 [mapA m sm, .agg (nn.map (AV.int .u8)), .int .u16 c] := ⟨_, rfl⟩
  have hlen : ts.length = 393 := by rw [hts]; rfl
  have t0 : slot ts 0 = mapA m sm := by rw [hts]; rfl
  have t1 : slot ts 1 = .agg (nn.map (AV.int .u8)) := by rw [hts]; rfl
  have t2 : slot ts 2 = .int .u16 c := by rw [hts]; rfl
  have c0 := hs.one
  have hone : (nn.map (AV.int .u8)).all AV.one = true := by rw [List.all_map]; exact List.all_eq_true.2 fun _ _ => rfl
  show WC P inFn (.seq (cs 0) (.seq (cs 1) (csT 2))) [] (startTS 393 _) h (FQ [(6, none)] _)
  rw [← hts]
  clear hts
  unfold cs fn9
  simp only [ICode.dr, ICode.tl, ICode.hd]
  repeat (first | simp (config := { maxSteps := 1000000 }) only [wset, hset, dset, bset, Nat.reduceAdd, Nat.reduceMul, Nat.reduceLeDiff, Nat.reduceEqDiff, pset, hlen, if_false, if_true, t0, t1, c0, hone] | simp (config := { maxSteps := 1000000 }) (disch := first | (simp only [List.length_append, List.length_cons, List.length_nil] <;> omega) | rfl | omega | fail) only [kset, wset, hset, dset, bset, Nat.reduceAdd, Nat.reduceMul, Nat.reduceLeDiff, Nat.reduceEqDiff, pset, hlen, if_false, if_true, t0, t1, c0, hone])
  refine WF.res T.c15 (haw _ (by repeat first | with_reducible exact Ext.refl _ | refine Ext.app _ ?_)) ?_
  rintro _ g1 rfl
  repeat (first | simp (config := { maxSteps := 1000000 }) only [wset, hset, dset, bset, Nat.reduceAdd, Nat.reduceMul, Nat.reduceLeDiff, Nat.reduceEqDiff, pset, hlen, if_false, if_true, t0, t1, c0, Bool.not_true] | simp (config := { maxSteps := 1000000 }) (disch := first | (simp only [List.length_append, List.length_cons, List.length_nil] <;> omega) | rfl | omega | fail) only [kset, wset, hset, dset, bset, Nat.reduceAdd, Nat.reduceMul, Nat.reduceLeDiff, Nat.reduceEqDiff, pset, hlen, if_false, if_true, t0, t1, c0, Bool.not_true])
  refine WF.res T.c53 (r53 T (hs.ext (by repeat first | with_reducible exact Ext.refl _ | refine Ext.app _ ?_))) ?_
  rintro _ g2 rfl
  by_cases hsh : m.deps.length ≤ 30
  · repeat (first | simp (config := { maxSteps := 1000000 }) only [wset, hset, dset, bset, Nat.reduceAdd, Nat.reduceMul, Nat.reduceLeDiff, Nat.reduceEqDiff, pset, hlen, if_false, if_true, t0, t1, c0, decide_eq_true hsh, Bool.not_true] | simp (config := { maxSteps := 1000000 }) (disch := first | (simp only [List.length_append, List.length_cons, List.length_nil] <;> omega) | rfl | omega | fail) only [kset, wset, hset, dset, bset, Nat.reduceAdd, Nat.reduceMul, Nat.reduceLeDiff, Nat.reduceEqDiff, pset, hlen, if_false, if_true, t0, t1, c0, decide_eq_true hsh, Bool.not_true])
    refine WF.res T.c58 (r58 T (hs.ext (by repeat first | with_reducible exact Ext.refl _ | refine Ext.app _ ?_)) (by omega)) ?_
    rintro _ g3 rfl
    by_cases h0 : chkMapS m = 0
    · have d0 : decide (chkMapS m ≠ 0) = false := decide_eq_false fun hne => hne h0
      repeat (first | simp (config := { maxSteps := 1000000 }) only [wset, hset, dset, bset, Nat.reduceAdd, Nat.reduceMul, Nat.reduceLeDiff, Nat.reduceEqDiff, pset, hlen, if_false, if_true, t0, t1, c0, d0] | simp (config := { maxSteps := 1000000 }) (disch := first | (simp only [List.length_append, List.length_cons, List.length_nil] <;> omega) | rfl | omega | fail) only [kset, wset, hset, dset, bset, Nat.reduceAdd, Nat.reduceMul, Nat.reduceLeDiff, Nat.reduceEqDiff, pset, hlen, if_false, if_true, t0, t1, c0, d0])
      refine closes_B T S (h := h) (m := m) (sm := sm) (c := c) (nn := nn) (b3 := h.length) (b4 := h.length + 1) (by simp only [wset, hset, dset, bset, Nat.reduceAdd, Nat.reduceMul, Nat.reduceLeDiff, Nat.reduceEqDiff, pset, hlen, if_false, if_true, t1]) (gl.ext (by repeat first | with_reducible exact Ext.refl _ | refine Ext.app _ ?_)) (map_zero.1 h0) hcb hn2 hnb (by simp only [wset, hset, dset, bset, Nat.reduceAdd, Nat.reduceMul, Nat.reduceLeDiff, Nat.reduceEqDiff, pset, hlen, if_false, if_true, t2]) (by simp only [wset, hset, dset, bset, Nat.reduceAdd, Nat.reduceMul, Nat.reduceLeDiff, Nat.reduceEqDiff, pset, hlen, if_false, if_true, t0]) ?k4 ?m3 ?m4 ?hs ?ee
      case k4 => simp only [wset, hset, dset, bset, Nat.reduceAdd, Nat.reduceMul, Nat.reduceLeDiff, Nat.reduceEqDiff, pset, hlen, if_false, if_true, List.length_append, List.length_cons, List.length_nil]
      case m3 => exact Ext.some (by repeat first | with_reducible exact Ext.refl _ | refine Ext.app _ ?_) (at_new (X := h))
      case m4 =>
        have := at_new (X := h ++ [.cells [.int .i64 m.cols, .int .i64 m.rows, sm] true false]) (k := .cells (nn.map (AV.int .u8)) true false)
        rw [List.length_append] at this
        exact Ext.some (by repeat first | with_reducible exact Ext.refl _ | refine Ext.app _ ?_) this
      case hs => exact hs.ext (by repeat first | with_reducible exact Ext.refl _ | refine Ext.app _ ?_)
      case ee => exact (by repeat first | with_reducible exact Ext.refl _ | refine Ext.app _ ?_)
    · have d0 : decide (chkMapS m ≠ 0) = true := decide_eq_true h0
      repeat (first | simp (config := { maxSteps := 1000000 }) only [wset, hset, dset, bset, Nat.reduceAdd, Nat.reduceMul, Nat.reduceLeDiff, Nat.reduceEqDiff, pset, hlen, if_false, if_true, t0, t1, c0, d0] | simp (config := { maxSteps := 1000000 }) (disch := first | (simp only [List.length_append, List.length_cons, List.length_nil] <;> omega) | rfl | omega | fail) only [kset, wset, hset, dset, bset, Nat.reduceAdd, Nat.reduceMul, Nat.reduceLeDiff, Nat.reduceEqDiff, pset, hlen, if_false, if_true, t0, t1, c0, d0])
      refine WF.res T.c15 (haw _ (by repeat first | with_reducible exact Ext.refl _ | refine Ext.app _ ?_)) ?_
      rintro _ g4 rfl
      repeat (first | simp (config := { maxSteps := 1000000 }) only [wset, hset, dset, bset, Nat.reduceAdd, Nat.reduceMul, Nat.reduceLeDiff, Nat.reduceEqDiff, pset, hlen, if_false, if_true, t0] | simp (config := { maxSteps := 1000000 }) (disch := first | (simp only [List.length_append, List.length_cons, List.length_nil] <;> omega) | rfl | omega | fail) only [kset, wset, hset, dset, bset, Nat.reduceAdd, Nat.reduceMul, Nat.reduceLeDiff, Nat.reduceEqDiff, pset, hlen, if_false, if_true, t0])
  · repeat (first | simp (config := { maxSteps := 1000000 }) only [wset, hset, dset, bset, Nat.reduceAdd, Nat.reduceMul, Nat.reduceLeDiff, Nat.reduceEqDiff, pset, hlen, if_false, if_true, t0, t1, c0, decide_eq_false hsh, Bool.not_false] | simp (config := { maxSteps := 1000000 }) (disch := first | (simp only [List.length_append, List.length_cons, List.length_nil] <;> omega) | rfl | omega | fail) only [kset, wset, hset, dset, bset, Nat.reduceAdd, Nat.reduceMul, Nat.reduceLeDiff, Nat.reduceEqDiff, pset, hlen, if_false, if_true, t0, t1, c0, decide_eq_false hsh, Bool.not_false])
    refine WF.res T.c15 (haw _ (by repeat first | with_reducible exact Ext.refl _ | refine Ext.app _ ?_)) ?_
    rintro _ g3 rfl
    repeat (first | simp (config := { maxSteps := 1000000 }) only [wset, hset, dset, bset, Nat.reduceAdd, Nat.reduceMul, Nat.reduceLeDiff, Nat.reduceEqDiff, pset, hlen, if_false, if_true, t0] | simp (config := { maxSteps := 1000000 }) (disch := first | (simp only [List.length_append, List.length_cons, List.length_nil] <;> omega) | rfl | omega | fail) only [kset, wset, hset, dset, bset, Nat.reduceAdd, Nat.reduceMul, Nat.reduceLeDiff, Nat.reduceEqDiff, pset, hlen, if_false, if_true, t0])
end
end Go.Abs
