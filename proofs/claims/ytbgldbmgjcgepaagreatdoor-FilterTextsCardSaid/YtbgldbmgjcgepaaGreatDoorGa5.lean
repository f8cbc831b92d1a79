/- The abstract layer, part RE: loads and stores where a place is known by its number alone; calls whose blocks are taken together. No condition. · The abstract layer: loops over functions, by what the function yields. No condition. · The abstract layer: append on an empty literal; stores into a slice of one's own; make and copy. No condition. · The abstract layer, part RH: rules for the regions whose stores may come before loads of other blocks. No condition. · The abstract layer: slots of a long row, one by one. No condition. · Short words for what the walks repeat. No condition. · Errors, ranges, names; plain. No condition. · Contracts: errors, ranges. No condition. · Contracts: the greatest common divisor, quotients in lowest terms. No condition. · Tides: their errors, the level at a tick. Contracts. No condition. -/
import Derived.Test.YtbgldbmgjcgepaaGreatDoorGa4
set_option linter.all false
namespace Go.Abs

/-- Where a place is known by its number. -/
theorem kset :
    (∀ {b o : Nat} {n : Option Nat} {X : AHeap} {K : ABlk} (_ : b = X.length), loadF n (.ptr b o) (fun z => (X ++ [K])[z]?) = ldB n o K) ∧
    (∀ {b o : Nat} {n : Option Nat} {X a : AHeap} (_ : b < X.length), loadF n (.ptr b o) (fun z => (X ++ a)[z]?) = loadF n (.ptr b o) (fun z => X[z]?)) ∧
    (∀ {b o y : Nat} {v : AV} {X : AHeap} {K : ABlk} (_ : b = X.length), storeF y (.ptr b o) v (fun z => (X ++ [K])[z]?) = stB y o v b K) ∧
    (∀ {b o y : Nat} {v : AV} {X a : AHeap} (_ : b < X.length), storeF y (.ptr b o) v (fun z => (X ++ a)[z]?) = storeF y (.ptr b o) v (fun z => X[z]?)) ∧
    (∀ {b : Nat} {X : AHeap} {K K' : ABlk} (_ : b = X.length), (X ++ [K]).set b K' = X ++ [K']) ∧
    (∀ {b : Nat} {X a : AHeap} {K' : ABlk} (_ : b < X.length), (X ++ a).set b K' = X.set b K' ++ a) ∧
    (∀ {b pos : Nat} {s : List UInt8} {X : AHeap} (_ : b = X.length), nextF (.ptr b 0) (fun z => (X ++ [.iter s pos])[z]?) = nextB b s pos) ∧
    (∀ {b : Nat} {X a : AHeap} (_ : b < X.length), nextF (.ptr b 0) (fun z => (X ++ a)[z]?) = nextF (.ptr b 0) (fun z => X[z]?)) := by
  refine ⟨fun h => ?_, fun h => ?_, fun h => ?_, fun h => ?_, fun h => ?_, fun h => ?_, fun h => ?_, fun h => ?_⟩
  · subst h; exact loadF_at at_new
  · simp only [loadF, at_app _ h]
  · subst h; exact storeF_at at_new
  · simp only [storeF, at_app _ h]
  · subst h; exact set_new
  · exact set_app _ _ h
  · subst h; exact nextF_at at_new
  · simp only [nextF, at_app _ h]

end Go.Abs
namespace Go.Abs

section
variable {P : Program} {ks : List Kt} {ts : TS} {h : AHeap} {Q : Ex → TS → AHeap → Prop}

end
end Go.Abs
namespace Go.Abs

theorem flatten_set {es : Nat} {v : AV} : ∀ {cs : List (List AV)}, (∀ x ∈ cs, x.length = es) → ∀ {i off : Nat} (hi : i < cs.length), off < es → cs.flatten.set (i * es + off) v = (cs.set i (cs[i].set off v)).flatten
  | [], _, i, off, hi, _ => absurd hi (Nat.not_lt_zero _)
  | c :: cs, h, 0, off, hi, ho => by
    have hc : c.length = es := h c (List.mem_cons_self ..)
    rw [List.flatten_cons, Nat.zero_mul, Nat.zero_add, List.set_append_left _ _ (by omega)]
    rfl
  | c :: cs, h, i + 1, off, hi, ho => by
    have hc : c.length = es := h c (List.mem_cons_self ..)
    have h1 := flatten_set (v := v) (cs := cs) (fun x hx => h x (List.mem_cons_of_mem _ hx)) (i := i) (off := off) (by simpa using hi) ho
    rw [List.flatten_cons, List.set_append_right _ _ (by rw [Nat.succ_mul]; omega), show (i + 1) * es + off - c.length = i * es + off by rw [Nat.succ_mul]; omega, h1]
    rfl

theorem mksl_ok {es w N0 n : Nat} {z : List AV} {k k' : IntKind} (h1 : w * n ≤ 2 ^ 48) (h2 : n < 2 ^ 63) : mkslF es w z (.int k n) (.int k' n) N0 = some (.slice N0 0 n es, .push (.cells (zrep n z) true true)) := by
  simp only [mkslF]
  rw [if_pos ⟨by omega, by omega, by exact_mod_cast h1, by exact_mod_cast h2⟩]
  rfl

theorem Fr.zeros {N n es} {h} {z} (hN : N ≤ h.length) (hz : z.length = es) : Fr N (h ++ [.cells (zrep n z) true true]) (.slice h.length 0 n es) es (List.replicate n z) := by
  have := Fr.push (h := h) (es := es) hN (List.replicate n z) (fun x hx => by rw [(List.mem_replicate.1 hx).2]; exact hz)
  rw [List.length_replicate] at this
  exact this

section
variable {P : Program} {ro : Option Nat → Prop} {ks : List Kt} {ts : TS} {Q : Ex → TS → AHeap → Prop} {d : Option Nat} {l : List IOp}

/-- append on a literal without elements: what is there is left alone. -/
theorem WR.appz {q} {N b es w} {h} {y} {ys} (hb : h[b]? = some (.cells [] true false)) (hN : N ≤ b) (hy : IsSl h y es ys) (hsz : ys.length * w ≤ 2 ^ 46)
    (K : ∀ s' g, Fr N (h ++ g) s' es ys → WP P ro l ks (put ts d s') (h ++ g) Q) : WR P ro (appT es w (.slice b 0 0 es) y (fun b => h[b]?) h.length) q d l ks ts h Q := by
  have hbl : b < h.length := (List.getElem?_eq_some_iff.1 hb).1
  simp only [appT, hy.cellsG, if_true]
  by_cases hk : ys.length = 0
  · have hys : ys = [] := List.length_eq_zero_iff.1 hk
    subst hys
    simp only [List.length_nil, if_true, List.flatten_nil, List.isEmpty_nil]
    rw [WR_keep]
    have := K (.slice b 0 0 es) [] (by rw [List.append_nil]; exact Fr.mk (cs := []) hN hb (by simp))
    rwa [List.append_nil] at this
  · simp only [if_neg hk, Nat.zero_add, if_pos hsz, hb]
    rw [if_pos (by simp), WR_push]
    exact K _ _ (Fr.push (by omega) ys hy.rows)

/-- A store of one cell into a slice of one's own. -/
theorem WR.put1 {α : Type} {row : α → List AV} {L : List α} {h0 g : AHeap} {s v : AV} {es i off : Nat} {x' : α} (hs : Fr h0.length (h0 ++ g) s es (L.map row)) (hi : i < L.length) (ho : off < es) (hv : v.one = true) (hx : row x' = (row L[i]).set off v)
    (K : ∀ g', g'.length = g.length → Fr h0.length (h0 ++ g') s es ((L.set i x').map row) → (∀ b, (∀ b0 o n e, s = .slice b0 o n e → b ≠ b0) → (h0 ++ g')[b]? = (h0 ++ g)[b]?) → WP P ro l ks (put ts d undefA) (h0 ++ g') Q) :
    WR P ro (storeF 1 (elf s es i off) v (fun b => (h0 ++ g)[b]?)) false d l ks ts (h0 ++ g) Q := by
  have hrl := hs.isSl.rows
  generalize hcs : L.map row = cs at hs
  have hcl : cs.length = L.length := by rw [← hcs, List.length_map]
  cases hs with
  | nil => simp at hcl; omega
  | @mk b _ _ tl hN hb he =>
    have hfl := flatten_len he
    have hie : i * es + off < cs.flatten.length := by
      rw [hfl, hcl]
      have : (i + 1) * es ≤ L.length * es := Nat.mul_le_mul_right _ hi
      rw [Nat.succ_mul] at this; omega
    have hset : cs.flatten.set (i * es + off) v = ((L.set i x').map row).flatten := by
      have := flatten_set (v := v) he (i := i) (off := off) (by omega) ho
      rw [this, List.map_set, hx, hcs]
      congr 2
      simp [← hcs]
    have hbl : b < (h0 ++ g).length := (List.getElem?_eq_some_iff.1 hb).1
    show WR P ro (storeF 1 (.ptr b (0 + i * es + off)) v (fun b => (h0 ++ g)[b]?)) false d l ks ts (h0 ++ g) Q
    rw [Nat.zero_add, storeF_at hb, stB_one hv (by omega), WR_set, hset, List.set_append_right _ _ hN]
    refine K _ (by simp) ?_ fun b' hb' => ?_
    · have hl2 : ((L.set i x').map row).length = cs.length := by simp [hcl]
      rw [← hl2]
      refine Fr.mk hN (tl := tl) ?_ fun y hy => ?_
      · rw [List.getElem?_append_right hN, List.getElem?_set_self (by simp at hbl; omega)]
      · rw [List.map_set] at hy
        rcases List.mem_or_eq_of_mem_set hy with hy | hy
        · exact he y (by rw [← hcs]; exact hy)
        · rw [hy, hx, List.length_set]
          exact he _ (by rw [← hcs]; exact List.mem_map_of_mem (List.getElem_mem hi))
    · have hne := hb' b 0 _ _ rfl
      rw [← List.set_append_right _ _ hN, List.getElem?_set_ne (Ne.symm hne)]

end
end Go.Abs
namespace Go.Abs

section
variable (P : Program) (ro : Option Nat → Prop)
def WQ (l : List IOp) (cs : List Acc) (ks : List Kt) (ts : TS) (h : AHeap) (Q : Ex → TS → AHeap → Prop) : Prop := WOS h l ts cs fun ts' cs => accOk cs ∧ kq P ro ks Q .normal ts' (accApp h cs)
end

section
variable {P : Program} {ro : Option Nat → Prop} {ks : List Kt} {ts : TS} {h : AHeap} {Q : Ex → TS → AHeap → Prop} {d : Option Nat} {q : Bool} {l : List IOp} {cs : List Acc}

end
end Go.Abs
namespace Go.Abs
theorem pset :
    (∀ {ts : TS} {i j : Nat} {v : AV} (_ : (i = j) = False), slot (ts.set i v) j = slot ts j) ∧
    (∀ {ts : TS} {i : Nat} {v : AV} (_ : i + 1 ≤ ts.length), slot (ts.set i v) i = v) ∧
    (∀ {ts : TS} {i : Nat} {X : Prop} (_ : i + 1 ≤ ts.length), inS ts[i]? X = X) ∧
    (∀ {ts : TS} {i : Nat} {v : AV}, (ts.set i v).length = ts.length) ∧
    (∀ {u : TypeId} {x : AV} {G : Nat → Option ABlk} {N : Nat}, convT (.ifc u) x G N = some (.ifc u x, .keep)) := by
  refine ⟨fun {ts i j v} h => ?_, fun {ts i v} h => ?_, fun {ts i X} h => by rw [List.getElem?_eq_getElem h]; rfl, fun {ts i v} => List.length_set, rfl⟩
  · have hne : i ≠ j := fun e => by rw [← h]; exact e
    unfold slot
    rw [List.getD, List.getD, List.getElem?_set_ne hne]
  · unfold slot
    rw [List.getD, List.getElem?_set_self h]; rfl
end Go.Abs
namespace Go.Abs
theorem Rs {A B F : Prop} (f : F) (b : B) (e : F → (B → A) ∧ (∃ x : Prop, x = B) := by (intro f; refine ⟨fun b => ?_, ?_⟩; (focus (repeat (first | simp (config := { maxSteps := 1000000 }) only [wset, hset, dset, bset, Nat.reduceAdd, Nat.reduceMul, Nat.reduceLeDiff, Nat.reduceEqDiff, pset, hlen, if_false, if_true, f] | simp (config := { maxSteps := 1000000 }) (disch := first | (simp only [List.length_append, List.length_cons, List.length_nil] <;> omega) | rfl | omega | fail) only [kset, wset, hset, dset, bset, Nat.reduceAdd, Nat.reduceMul, Nat.reduceLeDiff, Nat.reduceEqDiff, pset, hlen, if_false, if_true, f])); all_goals exact b); first | exact ⟨True, rfl⟩ | exact ⟨_, rfl⟩)) : A := (e f).1 b
theorem Zn {A B : Prop} (b : B) (e : (B → A) ∧ (∃ x : Prop, x = B) := by (refine ⟨fun b => ?_, ?_⟩; (focus (simp only [wset, hset, dset, bset, Nat.reduceAdd, Nat.reduceMul, Nat.reduceLeDiff, Nat.reduceEqDiff, pset, hlen, if_false, if_true]); all_goals exact b); first | exact ⟨True, rfl⟩ | exact ⟨_, rfl⟩)) : A := e.1 b
theorem Ws {A B F : Prop} (f : F) (b : B) (e : F → (B → A) ∧ (∃ x : Prop, x = B) := by (intro f; refine ⟨fun b => ?_, ?_⟩; (focus (simp only [wset, hset, dset, bset, Nat.reduceAdd, Nat.reduceMul, Nat.reduceLeDiff, Nat.reduceEqDiff, if_true, if_false, f]); all_goals exact b); first | exact ⟨True, rfl⟩ | exact ⟨_, rfl⟩)) : A := (e f).1 b
theorem Wn {A B : Prop} (b : B) (e : (B → A) ∧ (∃ x : Prop, x = B) := by (refine ⟨fun b => ?_, ?_⟩; (focus (simp only [wset, hset, dset, bset, Nat.reduceAdd, Nat.reduceMul, Nat.reduceLeDiff, Nat.reduceEqDiff, if_true, if_false]); all_goals exact b); first | exact ⟨True, rfl⟩ | exact ⟨_, rfl⟩)) : A := e.1 b
theorem Sq {A F : Prop} (f : F) (e : F → A := by (intro f; simp only [wset, hset, dset, bset, Nat.reduceAdd, Nat.reduceMul, Nat.reduceLeDiff, Nat.reduceEqDiff, pset, hlen, if_false, if_true, f])) : A := e f
theorem Sw {A : Prop} (e : A := by simp only [wset, hset, dset, bset, Nat.reduceAdd, Nat.reduceMul, Nat.reduceLeDiff, Nat.reduceEqDiff, pset, hlen, if_false, if_true]) : A := e
theorem Swr {A : Prop} (e : A := by (simp only [wset, hset, dset, bset, Nat.reduceAdd, Nat.reduceMul, Nat.reduceLeDiff, Nat.reduceEqDiff, pset, hlen, if_false, if_true]; rfl)) : A := e
theorem Sn {A : Prop} (e : A := by simp only [pset, hlen]) : A := e
theorem Xx {A : Prop} (e : A := by repeat first | with_reducible exact Ext.refl _ | refine Ext.app _ ?_) : A := e
theorem RCall.st1 {P : Program} {h : AHeap} (nt : Nat) (hmix : P.follows .mixedOrders = true) {f : FuncId} {A : AFunc} (hA : compileFn P f = some A) {a0 : AV} {R : AV → AHeap → Prop} (H : ∀ ts : TS, ts.length = nt → slot ts 0 = a0 → WC P inFn A.body [] ts h (FQ A.rs (fun v h' => Ext h h' ∧ R v h'))) (hn : A.nt = nt := by rfl) (hl : (startTS nt [a0]).length = nt := by rfl) : RCall P f [a0] h R := by
  subst hn
  exact .of hmix hA (H (startTS A.nt [a0]) hl rfl)
theorem RCall.st2 {P : Program} {h : AHeap} (nt : Nat) (hmix : P.follows .mixedOrders = true) {f : FuncId} {A : AFunc} (hA : compileFn P f = some A) {a0 a1 : AV} {R : AV → AHeap → Prop} (H : ∀ ts : TS, ts.length = nt → slot ts 0 = a0 → slot ts 1 = a1 → WC P inFn A.body [] ts h (FQ A.rs (fun v h' => Ext h h' ∧ R v h'))) (hn : A.nt = nt := by rfl) (hl : (startTS nt [a0, a1]).length = nt := by rfl) : RCall P f [a0, a1] h R := by
  subst hn
  exact .of hmix hA (H (startTS A.nt [a0, a1]) hl rfl rfl)
theorem RCall.st4 {P : Program} {h : AHeap} (nt : Nat) (hmix : P.follows .mixedOrders = true) {f : FuncId} {A : AFunc} (hA : compileFn P f = some A) {a0 a1 a2 a3 : AV} {R : AV → AHeap → Prop} (H : ∀ ts : TS, ts.length = nt → slot ts 0 = a0 → slot ts 1 = a1 → slot ts 2 = a2 → slot ts 3 = a3 → WC P inFn A.body [] ts h (FQ A.rs (fun v h' => Ext h h' ∧ R v h'))) (hn : A.nt = nt := by rfl) (hl : (startTS nt [a0, a1, a2, a3]).length = nt := by rfl) : RCall P f [a0, a1, a2, a3] h R := by
  subst hn
  exact .of hmix hA (H (startTS A.nt [a0, a1, a2, a3]) hl rfl rfl rfl rfl)
theorem WF.ce {P : Program} {ro : Option Nat → Prop} {ks : List Kt} {ts : TS} {h : AHeap} {Q : Ex → TS → AHeap → Prop} {q : Bool} {f : FuncId} {A : AFunc} (hA : compileFn P f = some A) {a c args : List AV} {d : Option Nat} {l : List IOp} {V : AV} (H : RCall P f (a ++ args ++ c) h (fun v _ => v = V)) (K : ∀ g, WP P ro l ks (put ts d V) (h ++ g) Q) : WF P ro q (.func (.func f) a c) args d l ks ts h Q :=
  WF.res hA H fun _ g e => e ▸ K g
theorem dltT {k n : Nat} (h : k < n) : decide ((k : Int) < (n : Int)) = true := decide_eq_true (by omega)
theorem dltF {k n : Nat} (h : ¬ k < n) : decide ((k : Int) < (n : Int)) = false := decide_eq_false (by omega)
end Go.Abs
namespace Go.Abs
def whenS (c : Bool) (e : Int) : Int := if c then e else 0
def rangeS (n lo hi : Int) : Int := if n < lo ∨ hi < n then 3 else 0
def firstS : List Int → Int
  | [] => 0
  | x :: xs => if x = 0 then firstS xs else x
def digitS (c : UInt8) : Bool := 48 ≤ c.toNat && c.toNat ≤ 57
end Go.Abs
namespace Go.Abs

section
variable {P : Program} (T : Tbl P) {h : AHeap}
include T

theorem r117 (c : Bool) (e : Int) : RCall P 117 [.bool c, .int .i64 e] h (fun v _ => v = .int .i64 (whenS c e)) := by
  refine .of T.mix T.c117 ?_
  unfold fn117
  simp only [uset]
  cases c <;> simp only [wset] <;> rfl

theorem r39 (c : Bool) (e : Int) : RCall P 39 [.bool c, .int .i64 e] h (fun v _ => v = .int .i64 (whenS c e)) := by
  refine .of T.mix T.c39 ?_
  unfold fn39
  simp only [uset]
  cases c <;> simp only [wset] <;> rfl

theorem r120 (n lo hi : Int) : RCall P 120 [.int .i64 n, .int .i64 lo, .int .i64 hi] h (fun v _ => v = .int .i64 (rangeS n lo hi)) := by
  refine .of T.mix T.c120 ?_
  unfold fn120
  simp only [uset]
  simp +contextual only [wset, wsplit, decide_true, decide_false]
  refine ⟨fun h1 => ?_, fun h1 => ?_⟩ <;>
  · refine WF.res T.c117 (r117 T _ _) ?_
    rintro _ g rfl
    simp only [wset]
    simp [whenS, rangeS, h1]

theorem r48 (n lo hi : Int) : RCall P 48 [.int .i64 n, .int .i64 lo, .int .i64 hi] h (fun v _ => v = .int .i64 (rangeS n lo hi)) := by
  refine .of T.mix T.c48 ?_
  unfold fn48
  simp only [uset]
  simp +contextual only [wset, wsplit, decide_true, decide_false]
  refine ⟨fun h1 => ?_, fun h1 => ?_⟩ <;>
  · refine WF.res T.c39 (r39 T _ _) ?_
    rintro _ g rfl
    simp only [wset]
    simp [whenS, rangeS, h1]

theorem r116 {s} {l} (hs : IsSl h s 1 (l.map intRow)) (hl : l.length < 2 ^ 63) : RCall P 116 [s] h (fun v _ => v = .int .i64 (firstS l)) := by
  refine .of T.mix T.c116 ?_
  unfold fn116
  simp only [uset]
  have e1 : (l.map intRow).length = l.length := by simp
  simp only [wset, hs.lenG, e1]
  refine WL.inv T.mix (fun n ts h' => ∃ k : Nat, k ≤ l.length ∧ n = l.length - k ∧ h' = h ∧ firstS l = firstS (l.drop k) ∧ ts.length = 15 ∧ slot ts 5 = s ∧ slot ts 6 = .int .i64 l.length ∧ slot ts 7 = .int .i64 k) l.length
    ⟨0, by omega, rfl, rfl, rfl, rfl, rfl, rfl, rfl⟩ ?_
  rintro _ ts _ ⟨k, hk, rfl, rfl, hf, hlen, h5, h6, h7⟩
  rw [expl ts 15 hlen]
  by_cases hlt : k < l.length
  · have hd : l.drop k = l[k] :: l.drop (k + 1) := by simp
    have e2 : (l.map intRow)[k]'(by omega) = [AV.int .i64 l[k]] := by simp
    have e3 : (k : Int) < l.length := by omega
    simp +contextual (disch := omega) only [wset, wsplit, h5, h6, h7, e3, decide_true, hs.iadr, Int.toNat_natCast, hs.load1 _ e2, wrap_in]
    refine ⟨fun h1 => ?_, fun h1 => ⟨l.length - (k + 1), by omega, k + 1, by omega, rfl, ?_, rfl⟩⟩
    · rw [hf, hd, firstS, if_neg h1]
    · rw [hf, hd, firstS, if_pos (by omega)]
  · have e3 : ¬ (k : Int) < l.length := by omega
    have e4 : k = l.length := by omega
    simp +contextual (disch := omega) only [wset, h5, h6, h7, e3, decide_false, if_true]
    rw [hf, e4, List.drop_length]; rfl

end
end Go.Abs
namespace Go.Abs

set_option maxRecDepth 10000
attribute [local irreducible] WP WC WE WB WR WF WL WG WRg WQ
section
variable {P : Program} (T : Tbl P) {h : AHeap}
include T
end
end Go.Abs
namespace Go.Abs

theorem rangeS_z {n lo hi : Int} : rangeS n lo hi = 0 ↔ lo ≤ n ∧ n ≤ hi := by
  unfold rangeS
  by_cases h : n < lo ∨ hi < n
  · rw [if_pos h]; omega
  · rw [if_neg h]; omega
theorem first2 {a b : Int} (h : firstS [a, b] = 0) : a = 0 ∧ b = 0 := by
  simp only [firstS] at h
  by_cases ha : a = 0
  · rw [if_pos ha] at h
    by_cases hb : b = 0
    · exact ⟨ha, hb⟩
    · rw [if_neg hb] at h; exact absurd h hb
  · rw [if_neg ha] at h; exact absurd h ha
set_option maxRecDepth 10000
attribute [local irreducible] WP WC WE WB WR WF WL WG WRg WQ
section
variable {P : Program} (T : Tbl P) {h : AHeap}
include T
end
end Go.Abs
