/- The abstract layer, part RH: rules for the regions whose stores may come before loads of other blocks. No condition. · The abstract layer: slots of a long row, one by one. No condition. · Short words for what the walks repeat. No condition. · Errors, ranges, names; plain. No condition. · Contracts: errors, ranges. No condition. · Contracts: the greatest common divisor, quotients in lowest terms. No condition. · Tides: their errors, the level at a tick. Contracts. No condition. -/
import Derived.Test.YtbgldbmgjcgepaaGreatDoorFx4
set_option linter.all false
namespace Go.Abs

section
variable (P : Program) (ro : Option Nat → Prop)
def WQ (l : List IOp) (cs : List Acc) (ks : List Kt) (ts : TS) (h : AHeap) (Q : Ex → TS → AHeap → Prop) : Prop := WOS h l ts cs fun ts' cs => accOk cs ∧ kq P ro ks Q .normal ts' (accApp h cs)
end

section
variable {P : Program} {ro : Option Nat → Prop} {ks : List Kt} {ts : TS} {h : AHeap} {Q : Ex → TS → AHeap → Prop} {d : Option Nat} {q : Bool} {l : List IOp} {cs : List Acc}

end
end Go.Abs
namespace Go.Abs
theorem pset :
    (∀ {ts : TS} {i j : Nat} {v : AV} (_ : (i = j) = False), slot (ts.set i v) j = slot ts j) ∧
    (∀ {ts : TS} {i : Nat} {v : AV} (_ : i + 1 ≤ ts.length), slot (ts.set i v) i = v) ∧
    (∀ {ts : TS} {i : Nat} {X : Prop} (_ : i + 1 ≤ ts.length), inS ts[i]? X = X) ∧
    (∀ {ts : TS} {i : Nat} {v : AV}, (ts.set i v).length = ts.length) ∧
    (∀ {u : TypeId} {x : AV} {G : Nat → Option ABlk} {N : Nat}, convT (.ifc u) x G N = some (.ifc u x, .keep)) := by
  refine ⟨fun {ts i j v} h => ?_, fun {ts i v} h => ?_, fun {ts i X} h => by rw [List.getElem?_eq_getElem h]; rfl, fun {ts i v} => List.length_set, rfl⟩
  · have hne : i ≠ j := fun e => by rw [← h]; exact e
    unfold slot
    rw [List.getD, List.getD, List.getElem?_set_ne hne]
  · unfold slot
    rw [List.getD, List.getElem?_set_self h]; rfl
end Go.Abs
namespace Go.Abs
theorem Rs {A B F : Prop} (f : F) (b : B) (e : F → (B → A) ∧ (∃ x : Prop, x = B) := by (intro f; refine ⟨fun b => ?_, ?_⟩; (focus (repeat (first | simp (config := { maxSteps := 1000000 }) only [wset, hset, dset, bset, Nat.reduceAdd, Nat.reduceMul, Nat.reduceLeDiff, Nat.reduceEqDiff, pset, hlen, if_false, if_true, f] | simp (config := { maxSteps := 1000000 }) (disch := first | (simp only [List.length_append, List.length_cons, List.length_nil] <;> omega) | rfl | omega | fail) only [kset, wset, hset, dset, bset, Nat.reduceAdd, Nat.reduceMul, Nat.reduceLeDiff, Nat.reduceEqDiff, pset, hlen, if_false, if_true, f])); all_goals exact b); first | exact ⟨True, rfl⟩ | exact ⟨_, rfl⟩)) : A := (e f).1 b
theorem Ws {A B F : Prop} (f : F) (b : B) (e : F → (B → A) ∧ (∃ x : Prop, x = B) := by (intro f; refine ⟨fun b => ?_, ?_⟩; (focus (simp only [wset, hset, dset, bset, Nat.reduceAdd, Nat.reduceMul, Nat.reduceLeDiff, Nat.reduceEqDiff, if_true, if_false, f]); all_goals exact b); first | exact ⟨True, rfl⟩ | exact ⟨_, rfl⟩)) : A := (e f).1 b
theorem Wn {A B : Prop} (b : B) (e : (B → A) ∧ (∃ x : Prop, x = B) := by (refine ⟨fun b => ?_, ?_⟩; (focus (simp only [wset, hset, dset, bset, Nat.reduceAdd, Nat.reduceMul, Nat.reduceLeDiff, Nat.reduceEqDiff, if_true, if_false]); all_goals exact b); first | exact ⟨True, rfl⟩ | exact ⟨_, rfl⟩)) : A := e.1 b
theorem Sq {A F : Prop} (f : F) (e : F → A := by (intro f; simp only [wset, hset, dset, bset, Nat.reduceAdd, Nat.reduceMul, Nat.reduceLeDiff, Nat.reduceEqDiff, pset, hlen, if_false, if_true, f])) : A := e f
theorem Sw {A : Prop} (e : A := by simp only [wset, hset, dset, bset, Nat.reduceAdd, Nat.reduceMul, Nat.reduceLeDiff, Nat.reduceEqDiff, pset, hlen, if_false, if_true]) : A := e
theorem Swr {A : Prop} (e : A := by (simp only [wset, hset, dset, bset, Nat.reduceAdd, Nat.reduceMul, Nat.reduceLeDiff, Nat.reduceEqDiff, pset, hlen, if_false, if_true]; rfl)) : A := e
theorem Sn {A : Prop} (e : A := by simp only [pset, hlen]) : A := e
theorem Xx {A : Prop} (e : A := by repeat first | with_reducible exact Ext.refl _ | refine Ext.app _ ?_) : A := e
theorem RCall.st1 {P : Program} {h : AHeap} (nt : Nat) (hmix : P.follows .mixedOrders = true) {f : FuncId} {A : AFunc} (hA : compileFn P f = some A) {a0 : AV} {R : AV → AHeap → Prop} (H : ∀ ts : TS, ts.length = nt → slot ts 0 = a0 → WC P inFn A.body [] ts h (FQ A.rs (fun v h' => Ext h h' ∧ R v h'))) (hn : A.nt = nt := by rfl) (hl : (startTS nt [a0]).length = nt := by rfl) : RCall P f [a0] h R := by
  subst hn
  exact .of hmix hA (H (startTS A.nt [a0]) hl rfl)
theorem RCall.st2 {P : Program} {h : AHeap} (nt : Nat) (hmix : P.follows .mixedOrders = true) {f : FuncId} {A : AFunc} (hA : compileFn P f = some A) {a0 a1 : AV} {R : AV → AHeap → Prop} (H : ∀ ts : TS, ts.length = nt → slot ts 0 = a0 → slot ts 1 = a1 → WC P inFn A.body [] ts h (FQ A.rs (fun v h' => Ext h h' ∧ R v h'))) (hn : A.nt = nt := by rfl) (hl : (startTS nt [a0, a1]).length = nt := by rfl) : RCall P f [a0, a1] h R := by
  subst hn
  exact .of hmix hA (H (startTS A.nt [a0, a1]) hl rfl rfl)
theorem WF.ce {P : Program} {ro : Option Nat → Prop} {ks : List Kt} {ts : TS} {h : AHeap} {Q : Ex → TS → AHeap → Prop} {q : Bool} {f : FuncId} {A : AFunc} (hA : compileFn P f = some A) {a c args : List AV} {d : Option Nat} {l : List IOp} {V : AV} (H : RCall P f (a ++ args ++ c) h (fun v _ => v = V)) (K : ∀ g, WP P ro l ks (put ts d V) (h ++ g) Q) : WF P ro q (.func (.func f) a c) args d l ks ts h Q :=
  WF.res hA H fun _ g e => e ▸ K g
theorem ldx {W : AHeap} {b : Nat} {B : ABlk} (h : W[b]? = some B) {k : AHeap} {n : Option Nat} {a : Nat} (e : Ext W k) : loadF n (.ptr b a) (fun z => k[z]?) = ldB n a B := loadF_at (e.some h)
theorem dltT {k n : Nat} (h : k < n) : decide ((k : Int) < (n : Int)) = true := decide_eq_true (by omega)
theorem dltF {k n : Nat} (h : ¬ k < n) : decide ((k : Int) < (n : Int)) = false := decide_eq_false (by omega)
end Go.Abs
namespace Go.Abs
def whenS (c : Bool) (e : Int) : Int := if c then e else 0
def firstS : List Int → Int
  | [] => 0
  | x :: xs => if x = 0 then firstS xs else x
end Go.Abs
namespace Go.Abs

section
variable {P : Program} (T : Tbl P) {h : AHeap}
include T

theorem r117 (c : Bool) (e : Int) : RCall P 117 [.bool c, .int .i64 e] h (fun v _ => v = .int .i64 (whenS c e)) := by
  refine .of T.mix T.c117 ?_
  unfold fn117
  simp only [uset]
  cases c <;> simp only [wset] <;> rfl

theorem r39 (c : Bool) (e : Int) : RCall P 39 [.bool c, .int .i64 e] h (fun v _ => v = .int .i64 (whenS c e)) := by
  refine .of T.mix T.c39 ?_
  unfold fn39
  simp only [uset]
  cases c <;> simp only [wset] <;> rfl

theorem r116 {s} {l} (hs : IsSl h s 1 (l.map intRow)) (hl : l.length < 2 ^ 63) : RCall P 116 [s] h (fun v _ => v = .int .i64 (firstS l)) := by
  refine .of T.mix T.c116 ?_
  unfold fn116
  simp only [uset]
  have e1 : (l.map intRow).length = l.length := by simp
  simp only [wset, hs.lenG, e1]
  refine WL.inv T.mix (fun n ts h' => ∃ k : Nat, k ≤ l.length ∧ n = l.length - k ∧ h' = h ∧ firstS l = firstS (l.drop k) ∧ ts.length = 15 ∧ slot ts 5 = s ∧ slot ts 6 = .int .i64 l.length ∧ slot ts 7 = .int .i64 k) l.length
    ⟨0, by omega, rfl, rfl, rfl, rfl, rfl, rfl, rfl⟩ ?_
  rintro _ ts _ ⟨k, hk, rfl, rfl, hf, hlen, h5, h6, h7⟩
  rw [expl ts 15 hlen]
  by_cases hlt : k < l.length
  · have hd : l.drop k = l[k] :: l.drop (k + 1) := by simp
    have e2 : (l.map intRow)[k]'(by omega) = [AV.int .i64 l[k]] := by simp
    have e3 : (k : Int) < l.length := by omega
    simp +contextual (disch := omega) only [wset, wsplit, h5, h6, h7, e3, decide_true, hs.iadr, Int.toNat_natCast, hs.load1 _ e2, wrap_in]
    refine ⟨fun h1 => ?_, fun h1 => ⟨l.length - (k + 1), by omega, k + 1, by omega, rfl, ?_, rfl⟩⟩
    · rw [hf, hd, firstS, if_neg h1]
    · rw [hf, hd, firstS, if_pos (by omega)]
  · have e3 : ¬ (k : Int) < l.length := by omega
    have e4 : k = l.length := by omega
    simp +contextual (disch := omega) only [wset, h5, h6, h7, e3, decide_false, if_true]
    rw [hf, e4, List.drop_length]; rfl

theorem r27 {s} {l} (hs : IsSl h s 1 (l.map intRow)) (hl : l.length < 2 ^ 63) : RCall P 27 [s] h (fun v _ => v = .int .i64 (firstS l)) := by
  refine .of T.mix T.c27 ?_
  unfold fn27
  simp only [uset]
  have e1 : (l.map intRow).length = l.length := by simp
  simp only [wset, hs.lenG, e1]
  refine WL.inv T.mix (fun n ts h' => ∃ k : Nat, k ≤ l.length ∧ n = l.length - k ∧ h' = h ∧ firstS l = firstS (l.drop k) ∧ ts.length = 19 ∧ slot ts 0 = s ∧ slot ts 3 = .int .i64 k) l.length
    ⟨0, by omega, rfl, rfl, rfl, rfl, rfl, rfl⟩ ?_
  rintro _ ts _ ⟨k, hk, rfl, rfl, hf, hlen, h0, h3⟩
  rw [expl ts 19 hlen]
  by_cases hlt : k < l.length
  · have hd : l.drop k = l[k] :: l.drop (k + 1) := by simp
    have e2 : (l.map intRow)[k]'(by omega) = [AV.int .i64 l[k]] := by simp
    have e3 : (k : Int) < l.length := by omega
    simp +contextual (disch := omega) only [wset, wsplit, h0, h3, e3, e1, decide_true, hs.lenG, hs.iadr, Int.toNat_natCast, hs.load1 _ e2, wrap_in]
    refine ⟨fun h1 => ?_, fun h1 => ⟨l.length - (k + 1), by omega, k + 1, by omega, rfl, ?_, rfl⟩⟩
    · rw [hf, hd, firstS, if_neg h1]
    · rw [hf, hd, firstS, if_pos (by omega)]
  · have e3 : ¬ (k : Int) < l.length := by omega
    have e4 : k = l.length := by omega
    simp +contextual (disch := omega) only [wset, h0, h3, e1, e3, decide_false, hs.lenG, if_true]
    rw [hf, e4, List.drop_length]; rfl

end
end Go.Abs
namespace Go.Abs

def ratR (x : Int × Int) : List AV := [.int .i64 x.1, .int .i64 x.2]
theorem rat_st {n d : Int} {b : Nat} {a0 a1 : AV} : stB 2 0 (.agg [.int .i64 n, .int .i64 d]) b (.cells [a0, a1] true false) = some (undefA, .set b (.cells [.int .i64 n, .int .i64 d] true false)) := (stB_agg (l := [.int .i64 n, .int .i64 d]) rfl rfl (by show 0 + 2 ≤ 2; omega)).trans rfl
set_option maxRecDepth 10000
attribute [local irreducible] WP WC WE WB WR WF WL WG WRg WQ
section
variable {P : Program} (T : Tbl P) {h : AHeap}
include T
end
end Go.Abs
namespace Go.Abs

theorem first2 {a b : Int} (h : firstS [a, b] = 0) : a = 0 ∧ b = 0 := by
  simp only [firstS] at h
  by_cases ha : a = 0
  · rw [if_pos ha] at h
    by_cases hb : b = 0
    · exact ⟨ha, hb⟩
    · rw [if_neg hb] at h; exact absurd h hb
  · rw [if_neg ha] at h; exact absurd h ha
set_option maxRecDepth 10000
attribute [local irreducible] WP WC WE WB WR WF WL WG WRg WQ
section
variable {P : Program} (T : Tbl P) {h : AHeap}
include T
end
end Go.Abs
