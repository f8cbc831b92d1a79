/- The abstract layer: loops over functions, by what the function yields. No condition. · The abstract layer: append on an empty literal; stores into a slice of one's own; make and copy. No condition. · The abstract layer, part RH: rules for the regions whose stores may come before loads of other blocks. No condition. · The abstract layer: slots of a long row, one by one. No condition. · Short words for what the walks repeat. No condition. · Errors, ranges, names; plain. No condition. · Contracts: errors, ranges. No condition. · Contracts: the greatest common divisor, quotients in lowest terms. No condition. · Tides: their errors, the level at a tick. Contracts. No condition. -/
import Derived.Test.YtbgldbmgjcgepaaGreatDoorFy4
set_option linter.all false
namespace Go.Abs

theorem lh_get {h' : AHeap} {X : ABlk} {g : AHeap} {n : Nat} (hn : h'.length = n) : (h' ++ [X] ++ g)[n]? = some X := by
  subst hn
  rw [List.append_assoc, List.getElem?_append_right (Nat.le_refl _), Nat.sub_self]; rfl
theorem lh_set {h' : AHeap} {X Y : ABlk} {g : AHeap} {n : Nat} (hn : h'.length = n) : (h' ++ [X] ++ g).set n Y = h' ++ [Y] ++ g := by
  subst hn
  rw [List.append_assoc, List.set_append_right _ _ (Nat.le_refl _), Nat.sub_self, List.append_assoc]; rfl

/-- A function calls yield with one list of arguments after the other, until yield says no. -/
structure Iter (P : Program) (f : FuncId) (a c : List AV) (L : List (List AV)) (pre : AHeap → Prop) : Prop where
  run : ∀ (l : Nat) (h : AHeap) (J : Nat → AHeap → Prop) (D : AHeap → Prop), (∀ i k, J i k → pre k) → (∀ i k g, J i k → J i (k ++ g)) →
    (∀ i (hi : i < L.length) k, J i k → ∃ b k', SCallV P (.func (.yield l) [] []) L[i] k (.bool b) k' ∧ (if b = true then J (i + 1) k' else D k')) →
    (∀ k, J L.length k → D k) → J 0 h → GCall P f (a ++ [.func (.yield l) [] []] ++ c) h (fun _ k => D k)

section
variable {P : Program} {ks : List Kt} {ts : TS} {h : AHeap} {Q : Ex → TS → AHeap → Prop}

/-- THE STATEMENT 'for .. := range f { .. }', by an invariant on what was there before the loop, and on what came since. -/
theorem WC.iter (hmix : P.follows .mixedOrders = true) {f} {A} {a c} {L} {pre} {g} {ps} {asg body} (hA : compileFn P f = some A)
    (hg : val ts g = .func (.func f) a c) (hi : Iter P f a c L pre) (hps : ∀ x ∈ L, x.length = ps.length) (I : Nat → AHeap → AHeap → Prop) (Fin : Ex → AHeap → AHeap → Prop)
    (h0 : I 0 h []) (hcl : ∀ i h' g g2, I i h' g → I i h' (g ++ g2)) (hpre : ∀ i h' g X, h'.length = h.length → I i h' g → pre (h' ++ [X] ++ g))
    (step : ∀ i (hi : i < L.length) h' g (R B : ABlk), h'.length = h.length → I i h' g →
      WC P inRd asg [] (setArgs ts ps L[i]) (h' ++ [R] ++ g) fun e1 ts2 h2 => e1 = .normal ∧ ∃ h1 g1, h2 = h1 ++ [R] ++ g1 ∧ h1.length = h.length ∧
        WC P inRd body [] ts2 (h1 ++ [B] ++ g1) fun e2 _ h4 => ∃ h3 g3, h4 = h3 ++ [B] ++ g3 ∧ h3.length = h.length ∧ (if e2 = .normal then I (i + 1) h3 g3 else Fin e2 h3 g3))
    (done : ∀ e h' g, h'.length = h.length → (if e = .normal then I L.length h' g else Fin e h' g) → WE P inFn e ks ts (h' ++ [ABlk.dead] ++ g) Q) : WC P inFn (.rangeF g ps asg body) ks ts h Q := by
  let J : Nat → AHeap → Prop := fun i k => ∃ h' g, k = h' ++ [.loop .ready .normal ts ps asg body] ++ g ∧ h'.length = h.length ∧ I i h' g
  let D : AHeap → Prop := fun k => ∃ e h' g st, k = h' ++ [.loop st e ts ps asg body] ++ g ∧ h'.length = h.length ∧ st ≠ .busy ∧ (if e = .normal then I L.length h' g else Fin e h' g)
  obtain ⟨v, h2, hs, e, h', g', st, rfl, hl, hst, hfin⟩ := hi.run h.length (h ++ [.loop .ready .normal ts ps asg body]) J D
    (fun i k hJ => by obtain ⟨h', g, rfl, h1, h2⟩ := hJ; exact hpre i h' g _ h1 h2)
    (fun i k g2 hJ => by obtain ⟨h', g, rfl, h1, h2⟩ := hJ; exact ⟨h', g ++ g2, by rw [List.append_assoc], h1, hcl _ _ _ _ h2⟩)
    (fun i hi k hJ => by
      obtain ⟨h', g, rfl, h1, h2⟩ := hJ
      obtain ⟨e1, ts2, k2, q1, rfl, h3, g3, rfl, h4, q2⟩ := W.sound hmix (step i hi h' g (.loop .ready .normal ts ps asg body) (.loop .busy .normal ts ps asg body) h1 h2)
      obtain ⟨e2, ts3, k3, q3, h5, g5, rfl, h6, q4⟩ := W.sound hmix q2
      have hy : SCallV P (.func (.yield h.length) [] []) L[i] (h' ++ [.loop .ready .normal ts ps asg body] ++ g) (.bool (decide (e2 = .normal))) (List.set (h5 ++ [ABlk.loop .busy .normal ts ps asg body] ++ g5) h.length (ABlk.loop (if e2 = .normal then .ready else .done) e2 ts ps asg body)) :=
        SCallV.yield (lh_get h1) (hps _ (List.getElem_mem hi)) (fun r => q1 (some r) ⟨r, rfl⟩) (lh_get h4) (fun r => by rw [lh_set h4]; exact q3 (some r) ⟨r, rfl⟩) (lh_get h6)
      rw [lh_set h6] at hy
      refine ⟨decide (e2 = .normal), _, hy, ?_⟩
      by_cases he : e2 = .normal
      · subst he
        rw [if_pos rfl] at q4
        simp only [decide_true, if_true]
        exact ⟨h5, g5, rfl, h6, q4⟩
      · rw [if_neg he] at q4
        simp only [he, decide_false, Bool.false_eq_true, if_false]
        exact ⟨e2, h5, g5, .done, rfl, h6, by simp, by rw [if_neg he]; exact q4⟩)
    (fun k hJ => by obtain ⟨h', g, rfl, h1, h2⟩ := hJ; exact ⟨.normal, h', g, .ready, rfl, h1, by simp, by rw [if_pos rfl]; exact h2⟩)
    ⟨h, [], by rw [List.append_nil], rfl, h0⟩
  refine ⟨e, ts, h' ++ [ABlk.dead] ++ g', fun r hr => ?_, done e h' g' hl hfin⟩
  have : r = none := hr
  subst this
  have := Ev.rangeF (h := h) (ps := ps) (asg := asg) (body := body) hA hg hs (lh_get hl) hst
  rw [lh_set hl] at this
  exact this
end
end Go.Abs
namespace Go.Abs

theorem flatten_set {es : Nat} {v : AV} : ∀ {cs : List (List AV)}, (∀ x ∈ cs, x.length = es) → ∀ {i off : Nat} (hi : i < cs.length), off < es → cs.flatten.set (i * es + off) v = (cs.set i (cs[i].set off v)).flatten
  | [], _, i, off, hi, _ => absurd hi (Nat.not_lt_zero _)
  | c :: cs, h, 0, off, hi, ho => by
    have hc : c.length = es := h c (List.mem_cons_self ..)
    rw [List.flatten_cons, Nat.zero_mul, Nat.zero_add, List.set_append_left _ _ (by omega)]
    rfl
  | c :: cs, h, i + 1, off, hi, ho => by
    have hc : c.length = es := h c (List.mem_cons_self ..)
    have h1 := flatten_set (v := v) (cs := cs) (fun x hx => h x (List.mem_cons_of_mem _ hx)) (i := i) (off := off) (by simpa using hi) ho
    rw [List.flatten_cons, List.set_append_right _ _ (by rw [Nat.succ_mul]; omega), show (i + 1) * es + off - c.length = i * es + off by rw [Nat.succ_mul]; omega, h1]
    rfl

theorem mksl_ok {es w N0 n : Nat} {z : List AV} {k k' : IntKind} (h1 : w * n ≤ 2 ^ 48) (h2 : n < 2 ^ 63) : mkslF es w z (.int k n) (.int k' n) N0 = some (.slice N0 0 n es, .push (.cells (zrep n z) true true)) := by
  simp only [mkslF]
  rw [if_pos ⟨by omega, by omega, by exact_mod_cast h1, by exact_mod_cast h2⟩]
  rfl

theorem Fr.zeros {N n es} {h} {z} (hN : N ≤ h.length) (hz : z.length = es) : Fr N (h ++ [.cells (zrep n z) true true]) (.slice h.length 0 n es) es (List.replicate n z) := by
  have := Fr.push (h := h) (es := es) hN (List.replicate n z) (fun x hx => by rw [(List.mem_replicate.1 hx).2]; exact hz)
  rw [List.length_replicate] at this
  exact this

section
variable {P : Program} {ro : Option Nat → Prop} {ks : List Kt} {ts : TS} {Q : Ex → TS → AHeap → Prop} {d : Option Nat} {l : List IOp}

/-- append on a literal without elements: what is there is left alone. -/
theorem WR.appz {q} {N b es w} {h} {y} {ys} (hb : h[b]? = some (.cells [] true false)) (hN : N ≤ b) (hy : IsSl h y es ys) (hsz : ys.length * w ≤ 2 ^ 46)
    (K : ∀ s' g, Fr N (h ++ g) s' es ys → WP P ro l ks (put ts d s') (h ++ g) Q) : WR P ro (appT es w (.slice b 0 0 es) y (fun b => h[b]?) h.length) q d l ks ts h Q := by
  have hbl : b < h.length := (List.getElem?_eq_some_iff.1 hb).1
  simp only [appT, hy.cellsG, if_true]
  by_cases hk : ys.length = 0
  · have hys : ys = [] := List.length_eq_zero_iff.1 hk
    subst hys
    simp only [List.length_nil, if_true, List.flatten_nil, List.isEmpty_nil]
    rw [WR_keep]
    have := K (.slice b 0 0 es) [] (by rw [List.append_nil]; exact Fr.mk (cs := []) hN hb (by simp))
    rwa [List.append_nil] at this
  · simp only [if_neg hk, Nat.zero_add, if_pos hsz, hb]
    rw [if_pos (by simp), WR_push]
    exact K _ _ (Fr.push (by omega) ys hy.rows)

/-- A store of one cell into a slice of one's own. -/
theorem WR.put1 {α : Type} {row : α → List AV} {L : List α} {h0 g : AHeap} {s v : AV} {es i off : Nat} {x' : α} (hs : Fr h0.length (h0 ++ g) s es (L.map row)) (hi : i < L.length) (ho : off < es) (hv : v.one = true) (hx : row x' = (row L[i]).set off v)
    (K : ∀ g', g'.length = g.length → Fr h0.length (h0 ++ g') s es ((L.set i x').map row) → (∀ b, (∀ b0 o n e, s = .slice b0 o n e → b ≠ b0) → (h0 ++ g')[b]? = (h0 ++ g)[b]?) → WP P ro l ks (put ts d undefA) (h0 ++ g') Q) :
    WR P ro (storeF 1 (elf s es i off) v (fun b => (h0 ++ g)[b]?)) false d l ks ts (h0 ++ g) Q := by
  have hrl := hs.isSl.rows
  generalize hcs : L.map row = cs at hs
  have hcl : cs.length = L.length := by rw [← hcs, List.length_map]
  cases hs with
  | nil => simp at hcl; omega
  | @mk b _ _ tl hN hb he =>
    have hfl := flatten_len he
    have hie : i * es + off < cs.flatten.length := by
      rw [hfl, hcl]
      have : (i + 1) * es ≤ L.length * es := Nat.mul_le_mul_right _ hi
      rw [Nat.succ_mul] at this; omega
    have hset : cs.flatten.set (i * es + off) v = ((L.set i x').map row).flatten := by
      have := flatten_set (v := v) he (i := i) (off := off) (by omega) ho
      rw [this, List.map_set, hx, hcs]
      congr 2
      simp [← hcs]
    have hbl : b < (h0 ++ g).length := (List.getElem?_eq_some_iff.1 hb).1
    show WR P ro (storeF 1 (.ptr b (0 + i * es + off)) v (fun b => (h0 ++ g)[b]?)) false d l ks ts (h0 ++ g) Q
    rw [Nat.zero_add, storeF_at hb, stB_one hv (by omega), WR_set, hset, List.set_append_right _ _ hN]
    refine K _ (by simp) ?_ fun b' hb' => ?_
    · have hl2 : ((L.set i x').map row).length = cs.length := by simp [hcl]
      rw [← hl2]
      refine Fr.mk hN (tl := tl) ?_ fun y hy => ?_
      · rw [List.getElem?_append_right hN, List.getElem?_set_self (by simp at hbl; omega)]
      · rw [List.map_set] at hy
        rcases List.mem_or_eq_of_mem_set hy with hy | hy
        · exact he y (by rw [← hcs]; exact hy)
        · rw [hy, hx, List.length_set]
          exact he _ (by rw [← hcs]; exact List.mem_map_of_mem (List.getElem_mem hi))
    · have hne := hb' b 0 _ _ rfl
      rw [← List.set_append_right _ _ hN, List.getElem?_set_ne (Ne.symm hne)]

end
end Go.Abs
namespace Go.Abs

section
variable (P : Program) (ro : Option Nat → Prop)
def WQ (l : List IOp) (cs : List Acc) (ks : List Kt) (ts : TS) (h : AHeap) (Q : Ex → TS → AHeap → Prop) : Prop := WOS h l ts cs fun ts' cs => accOk cs ∧ kq P ro ks Q .normal ts' (accApp h cs)
end

section
variable {P : Program} {ro : Option Nat → Prop} {ks : List Kt} {ts : TS} {h : AHeap} {Q : Ex → TS → AHeap → Prop} {d : Option Nat} {q : Bool} {l : List IOp} {cs : List Acc}

end
end Go.Abs
namespace Go.Abs
theorem pset :
    (∀ {ts : TS} {i j : Nat} {v : AV} (_ : (i = j) = False), slot (ts.set i v) j = slot ts j) ∧
    (∀ {ts : TS} {i : Nat} {v : AV} (_ : i + 1 ≤ ts.length), slot (ts.set i v) i = v) ∧
    (∀ {ts : TS} {i : Nat} {X : Prop} (_ : i + 1 ≤ ts.length), inS ts[i]? X = X) ∧
    (∀ {ts : TS} {i : Nat} {v : AV}, (ts.set i v).length = ts.length) ∧
    (∀ {u : TypeId} {x : AV} {G : Nat → Option ABlk} {N : Nat}, convT (.ifc u) x G N = some (.ifc u x, .keep)) := by
  refine ⟨fun {ts i j v} h => ?_, fun {ts i v} h => ?_, fun {ts i X} h => by rw [List.getElem?_eq_getElem h]; rfl, fun {ts i v} => List.length_set, rfl⟩
  · have hne : i ≠ j := fun e => by rw [← h]; exact e
    unfold slot
    rw [List.getD, List.getD, List.getElem?_set_ne hne]
  · unfold slot
    rw [List.getD, List.getElem?_set_self h]; rfl
end Go.Abs
namespace Go.Abs
theorem Rs {A B F : Prop} (f : F) (b : B) (e : F → (B → A) ∧ (∃ x : Prop, x = B) := by (intro f; refine ⟨fun b => ?_, ?_⟩; (focus (repeat (first | simp (config := { maxSteps := 1000000 }) only [wset, hset, dset, bset, Nat.reduceAdd, Nat.reduceMul, Nat.reduceLeDiff, Nat.reduceEqDiff, pset, hlen, if_false, if_true, f] | simp (config := { maxSteps := 1000000 }) (disch := first | (simp only [List.length_append, List.length_cons, List.length_nil] <;> omega) | rfl | omega | fail) only [kset, wset, hset, dset, bset, Nat.reduceAdd, Nat.reduceMul, Nat.reduceLeDiff, Nat.reduceEqDiff, pset, hlen, if_false, if_true, f])); all_goals exact b); first | exact ⟨True, rfl⟩ | exact ⟨_, rfl⟩)) : A := (e f).1 b
theorem Zs {A B F : Prop} (f : F) (b : B) (e : F → (B → A) ∧ (∃ x : Prop, x = B) := by (intro f; refine ⟨fun b => ?_, ?_⟩; (focus (simp only [wset, hset, dset, bset, Nat.reduceAdd, Nat.reduceMul, Nat.reduceLeDiff, Nat.reduceEqDiff, pset, hlen, if_false, if_true, f]); all_goals exact b); first | exact ⟨True, rfl⟩ | exact ⟨_, rfl⟩)) : A := (e f).1 b
theorem Zn {A B : Prop} (b : B) (e : (B → A) ∧ (∃ x : Prop, x = B) := by (refine ⟨fun b => ?_, ?_⟩; (focus (simp only [wset, hset, dset, bset, Nat.reduceAdd, Nat.reduceMul, Nat.reduceLeDiff, Nat.reduceEqDiff, pset, hlen, if_false, if_true]); all_goals exact b); first | exact ⟨True, rfl⟩ | exact ⟨_, rfl⟩)) : A := e.1 b
theorem Ws {A B F : Prop} (f : F) (b : B) (e : F → (B → A) ∧ (∃ x : Prop, x = B) := by (intro f; refine ⟨fun b => ?_, ?_⟩; (focus (simp only [wset, hset, dset, bset, Nat.reduceAdd, Nat.reduceMul, Nat.reduceLeDiff, Nat.reduceEqDiff, if_true, if_false, f]); all_goals exact b); first | exact ⟨True, rfl⟩ | exact ⟨_, rfl⟩)) : A := (e f).1 b
theorem Wn {A B : Prop} (b : B) (e : (B → A) ∧ (∃ x : Prop, x = B) := by (refine ⟨fun b => ?_, ?_⟩; (focus (simp only [wset, hset, dset, bset, Nat.reduceAdd, Nat.reduceMul, Nat.reduceLeDiff, Nat.reduceEqDiff, if_true, if_false]); all_goals exact b); first | exact ⟨True, rfl⟩ | exact ⟨_, rfl⟩)) : A := e.1 b
theorem Sq {A F : Prop} (f : F) (e : F → A := by (intro f; simp only [wset, hset, dset, bset, Nat.reduceAdd, Nat.reduceMul, Nat.reduceLeDiff, Nat.reduceEqDiff, pset, hlen, if_false, if_true, f])) : A := e f
theorem Sw {A : Prop} (e : A := by simp only [wset, hset, dset, bset, Nat.reduceAdd, Nat.reduceMul, Nat.reduceLeDiff, Nat.reduceEqDiff, pset, hlen, if_false, if_true]) : A := e
theorem Swr {A : Prop} (e : A := by (simp only [wset, hset, dset, bset, Nat.reduceAdd, Nat.reduceMul, Nat.reduceLeDiff, Nat.reduceEqDiff, pset, hlen, if_false, if_true]; rfl)) : A := e
theorem Sn {A : Prop} (e : A := by simp only [pset, hlen]) : A := e
theorem Xx {A : Prop} (e : A := by repeat first | with_reducible exact Ext.refl _ | refine Ext.app _ ?_) : A := e
theorem RCall.st1 {P : Program} {h : AHeap} (nt : Nat) (hmix : P.follows .mixedOrders = true) {f : FuncId} {A : AFunc} (hA : compileFn P f = some A) {a0 : AV} {R : AV → AHeap → Prop} (H : ∀ ts : TS, ts.length = nt → slot ts 0 = a0 → WC P inFn A.body [] ts h (FQ A.rs (fun v h' => Ext h h' ∧ R v h'))) (hn : A.nt = nt := by rfl) (hl : (startTS nt [a0]).length = nt := by rfl) : RCall P f [a0] h R := by
  subst hn
  exact .of hmix hA (H (startTS A.nt [a0]) hl rfl)
theorem RCall.st2 {P : Program} {h : AHeap} (nt : Nat) (hmix : P.follows .mixedOrders = true) {f : FuncId} {A : AFunc} (hA : compileFn P f = some A) {a0 a1 : AV} {R : AV → AHeap → Prop} (H : ∀ ts : TS, ts.length = nt → slot ts 0 = a0 → slot ts 1 = a1 → WC P inFn A.body [] ts h (FQ A.rs (fun v h' => Ext h h' ∧ R v h'))) (hn : A.nt = nt := by rfl) (hl : (startTS nt [a0, a1]).length = nt := by rfl) : RCall P f [a0, a1] h R := by
  subst hn
  exact .of hmix hA (H (startTS A.nt [a0, a1]) hl rfl rfl)
theorem RCall.st3 {P : Program} {h : AHeap} (nt : Nat) (hmix : P.follows .mixedOrders = true) {f : FuncId} {A : AFunc} (hA : compileFn P f = some A) {a0 a1 a2 : AV} {R : AV → AHeap → Prop} (H : ∀ ts : TS, ts.length = nt → slot ts 0 = a0 → slot ts 1 = a1 → slot ts 2 = a2 → WC P inFn A.body [] ts h (FQ A.rs (fun v h' => Ext h h' ∧ R v h'))) (hn : A.nt = nt := by rfl) (hl : (startTS nt [a0, a1, a2]).length = nt := by rfl) : RCall P f [a0, a1, a2] h R := by
  subst hn
  exact .of hmix hA (H (startTS A.nt [a0, a1, a2]) hl rfl rfl rfl)
theorem WF.ce {P : Program} {ro : Option Nat → Prop} {ks : List Kt} {ts : TS} {h : AHeap} {Q : Ex → TS → AHeap → Prop} {q : Bool} {f : FuncId} {A : AFunc} (hA : compileFn P f = some A) {a c args : List AV} {d : Option Nat} {l : List IOp} {V : AV} (H : RCall P f (a ++ args ++ c) h (fun v _ => v = V)) (K : ∀ g, WP P ro l ks (put ts d V) (h ++ g) Q) : WF P ro q (.func (.func f) a c) args d l ks ts h Q :=
  WF.res hA H fun _ g e => e ▸ K g
theorem ldx {W : AHeap} {b : Nat} {B : ABlk} (h : W[b]? = some B) {k : AHeap} {n : Option Nat} {a : Nat} (e : Ext W k) : loadF n (.ptr b a) (fun z => k[z]?) = ldB n a B := loadF_at (e.some h)
theorem dltT {k n : Nat} (h : k < n) : decide ((k : Int) < (n : Int)) = true := decide_eq_true (by omega)
theorem dltF {k n : Nat} (h : ¬ k < n) : decide ((k : Int) < (n : Int)) = false := decide_eq_false (by omega)
end Go.Abs
namespace Go.Abs
def whenS (c : Bool) (e : Int) : Int := if c then e else 0
def rangeS (n lo hi : Int) : Int := if n < lo ∨ hi < n then 3 else 0
def firstS : List Int → Int
  | [] => 0
  | x :: xs => if x = 0 then firstS xs else x
def letterS (c : UInt8) : Bool := (65 ≤ c.toNat && c.toNat ≤ 90) || (97 ≤ c.toNat && c.toNat ≤ 122)
def digitS (c : UInt8) : Bool := 48 ≤ c.toNat && c.toNat ≤ 57
def restS (c : UInt8) : Bool := letterS c || digitS c || c.toNat == 95
def nameS : List UInt8 → Bool
  | [] => false
  | c :: r => decide (r.length < 24) && letterS c && r.all restS
end Go.Abs
namespace Go.Abs

section
variable {P : Program} (T : Tbl P) {h : AHeap}
include T

theorem r117 (c : Bool) (e : Int) : RCall P 117 [.bool c, .int .i64 e] h (fun v _ => v = .int .i64 (whenS c e)) := by
  refine .of T.mix T.c117 ?_
  unfold fn117
  simp only [uset]
  cases c <;> simp only [wset] <;> rfl

theorem r39 (c : Bool) (e : Int) : RCall P 39 [.bool c, .int .i64 e] h (fun v _ => v = .int .i64 (whenS c e)) := by
  refine .of T.mix T.c39 ?_
  unfold fn39
  simp only [uset]
  cases c <;> simp only [wset] <;> rfl

theorem r120 (n lo hi : Int) : RCall P 120 [.int .i64 n, .int .i64 lo, .int .i64 hi] h (fun v _ => v = .int .i64 (rangeS n lo hi)) := by
  refine .of T.mix T.c120 ?_
  unfold fn120
  simp only [uset]
  simp +contextual only [wset, wsplit, decide_true, decide_false]
  refine ⟨fun h1 => ?_, fun h1 => ?_⟩ <;>
  · refine WF.res T.c117 (r117 T _ _) ?_
    rintro _ g rfl
    simp only [wset]
    simp [whenS, rangeS, h1]

theorem r48 (n lo hi : Int) : RCall P 48 [.int .i64 n, .int .i64 lo, .int .i64 hi] h (fun v _ => v = .int .i64 (rangeS n lo hi)) := by
  refine .of T.mix T.c48 ?_
  unfold fn48
  simp only [uset]
  simp +contextual only [wset, wsplit, decide_true, decide_false]
  refine ⟨fun h1 => ?_, fun h1 => ?_⟩ <;>
  · refine WF.res T.c39 (r39 T _ _) ?_
    rintro _ g rfl
    simp only [wset]
    simp [whenS, rangeS, h1]

theorem r116 {s} {l} (hs : IsSl h s 1 (l.map intRow)) (hl : l.length < 2 ^ 63) : RCall P 116 [s] h (fun v _ => v = .int .i64 (firstS l)) := by
  refine .of T.mix T.c116 ?_
  unfold fn116
  simp only [uset]
  have e1 : (l.map intRow).length = l.length := by simp
  simp only [wset, hs.lenG, e1]
  refine WL.inv T.mix (fun n ts h' => ∃ k : Nat, k ≤ l.length ∧ n = l.length - k ∧ h' = h ∧ firstS l = firstS (l.drop k) ∧ ts.length = 15 ∧ slot ts 5 = s ∧ slot ts 6 = .int .i64 l.length ∧ slot ts 7 = .int .i64 k) l.length
    ⟨0, by omega, rfl, rfl, rfl, rfl, rfl, rfl, rfl⟩ ?_
  rintro _ ts _ ⟨k, hk, rfl, rfl, hf, hlen, h5, h6, h7⟩
  rw [expl ts 15 hlen]
  by_cases hlt : k < l.length
  · have hd : l.drop k = l[k] :: l.drop (k + 1) := by simp
    have e2 : (l.map intRow)[k]'(by omega) = [AV.int .i64 l[k]] := by simp
    have e3 : (k : Int) < l.length := by omega
    simp +contextual (disch := omega) only [wset, wsplit, h5, h6, h7, e3, decide_true, hs.iadr, Int.toNat_natCast, hs.load1 _ e2, wrap_in]
    refine ⟨fun h1 => ?_, fun h1 => ⟨l.length - (k + 1), by omega, k + 1, by omega, rfl, ?_, rfl⟩⟩
    · rw [hf, hd, firstS, if_neg h1]
    · rw [hf, hd, firstS, if_pos (by omega)]
  · have e3 : ¬ (k : Int) < l.length := by omega
    have e4 : k = l.length := by omega
    simp +contextual (disch := omega) only [wset, h5, h6, h7, e3, decide_false, if_true]
    rw [hf, e4, List.drop_length]; rfl

theorem r27 {s} {l} (hs : IsSl h s 1 (l.map intRow)) (hl : l.length < 2 ^ 63) : RCall P 27 [s] h (fun v _ => v = .int .i64 (firstS l)) := by
  refine .of T.mix T.c27 ?_
  unfold fn27
  simp only [uset]
  have e1 : (l.map intRow).length = l.length := by simp
  simp only [wset, hs.lenG, e1]
  refine WL.inv T.mix (fun n ts h' => ∃ k : Nat, k ≤ l.length ∧ n = l.length - k ∧ h' = h ∧ firstS l = firstS (l.drop k) ∧ ts.length = 19 ∧ slot ts 0 = s ∧ slot ts 3 = .int .i64 k) l.length
    ⟨0, by omega, rfl, rfl, rfl, rfl, rfl, rfl⟩ ?_
  rintro _ ts _ ⟨k, hk, rfl, rfl, hf, hlen, h0, h3⟩
  rw [expl ts 19 hlen]
  by_cases hlt : k < l.length
  · have hd : l.drop k = l[k] :: l.drop (k + 1) := by simp
    have e2 : (l.map intRow)[k]'(by omega) = [AV.int .i64 l[k]] := by simp
    have e3 : (k : Int) < l.length := by omega
    simp +contextual (disch := omega) only [wset, wsplit, h0, h3, e3, e1, decide_true, hs.lenG, hs.iadr, Int.toNat_natCast, hs.load1 _ e2, wrap_in]
    refine ⟨fun h1 => ?_, fun h1 => ⟨l.length - (k + 1), by omega, k + 1, by omega, rfl, ?_, rfl⟩⟩
    · rw [hf, hd, firstS, if_neg h1]
    · rw [hf, hd, firstS, if_pos (by omega)]
  · have e3 : ¬ (k : Int) < l.length := by omega
    have e4 : k = l.length := by omega
    simp +contextual (disch := omega) only [wset, h0, h3, e1, e3, decide_false, hs.lenG, if_true]
    rw [hf, e4, List.drop_length]; rfl

end
end Go.Abs
namespace Go.Abs

def ratI (n d : Int) : Int × Int := (n.tdiv (Int.gcd n d), d.tdiv (Int.gcd n d))
def ratR (x : Int × Int) : List AV := [.int .i64 x.1, .int .i64 x.2]
theorem gcd_step {x y : Int} : Int.gcd y (x.tmod y) = Int.gcd x y := by
  show Nat.gcd y.natAbs (x.tmod y).natAbs = Nat.gcd x.natAbs y.natAbs
  rw [Int.natAbs_tmod, Nat.gcd_comm x.natAbs, Nat.gcd_rec y.natAbs x.natAbs, Nat.gcd_comm]
theorem gcd_zero {x : Int} : ((Int.gcd x 0 : Nat) : Int) = max x (-x) := by
  show ((Nat.gcd x.natAbs 0 : Nat) : Int) = _
  rw [Nat.gcd_zero_right]; omega
theorem tmod_lt {x y : Int} (h : y ≠ 0) : (x.tmod y).natAbs < y.natAbs := by
  rw [Int.natAbs_tmod]; exact Nat.mod_lt _ (by omega)
theorem gcd_le {n d : Int} (hd : 0 < d) : 1 ≤ ((Int.gcd n d : Nat) : Int) ∧ ((Int.gcd n d : Nat) : Int) ≤ d := by
  have h1 : 0 < Int.gcd n d := Nat.gcd_pos_of_pos_right _ (by omega)
  have h2 : Int.gcd n d ≤ d.natAbs := Nat.gcd_le_right _ (by omega)
  omega
theorem quo_bd {n g : Int} (hg : 1 ≤ g) {B : Int} (h : -B ≤ n ∧ n ≤ B) : -B ≤ n.tdiv g ∧ n.tdiv g ≤ B := by
  have h1 := Int.natAbs_tdiv n g
  have h2 : n.natAbs.div g.natAbs ≤ n.natAbs := Nat.div_le_self _ _
  have h3 : (n.tdiv g).natAbs ≤ n.natAbs := by rw [h1]; exact h2
  omega
theorem rat_st {n d : Int} {b : Nat} {a0 a1 : AV} : stB 2 0 (.agg [.int .i64 n, .int .i64 d]) b (.cells [a0, a1] true false) = some (undefA, .set b (.cells [.int .i64 n, .int .i64 d] true false)) := (stB_agg (l := [.int .i64 n, .int .i64 d]) rfl rfl (by show 0 + 2 ≤ 2; omega)).trans rfl
set_option maxRecDepth 10000
attribute [local irreducible] WP WC WE WB WR WF WL WG WRg WQ
section
variable {P : Program} (T : Tbl P) {h : AHeap}
include T
set_option maxHeartbeats 1000000 in
theorem r186 (a b : Int) (ha : a.natAbs < 2 ^ 62) (hb : b.natAbs < 2 ^ 62) : RCall P 186 [.int .i64 a, .int .i64 b] h (fun v _ => v = .int .i64 (Int.gcd a b : Nat)) := by
  refine .st2 15 T.mix T.c186 ?_;intro ts hlen t0 t1;unfold fn186
  refine Rs (A2 @t0 @t1) ?_
  refine WL.inv T.mix (fun n ts h' => ∃ x y : Int, n = y.natAbs ∧ h' = h ∧ Int.gcd x y = Int.gcd a b ∧ x.natAbs < 2 ^ 62 ∧ y.natAbs < 2 ^ 62 ∧ ts.length = 15 ∧ slot ts 0 = .int .i64 x ∧ slot ts 1 = .int .i64 y) b.natAbs
    ⟨a, b, rfl, rfl, rfl, ha, hb, Sn, (Sq @t0), (Sq @t1)⟩ ?_
  clear hlen t0 t1 ha hb
  rintro _ ts _ ⟨x, y, rfl, rfl, hg, hx, hy, hlen, t0, t1⟩
  by_cases hz : y = 0
  · have d1 : decide (y ≠ 0) = false := decide_eq_false fun z => z hz
    have w1 : IntKind.i64.wrap (0 - x) = -x := by rw [wrap_in (by omega) (by omega)]; omega
    refine Rs (A4 @t0 @t1 @d1 @w1) ?_
    rw [← hg, hz, gcd_zero]
  · have d1 : decide (y ≠ 0) = true := decide_eq_true hz
    have r1 := bin_rem (k := .i64) (a := x) (b := y) hz
    have hlt := tmod_lt (x := x) hz
    refine Rs (A4 @t0 @t1 @d1 @r1) ?_
    exact ⟨(x.tmod y).natAbs, hlt, y, x.tmod y, rfl, gcd_step.trans hg, hy, by omega, rfl, rfl⟩
set_option maxHeartbeats 1000000 in
theorem z152 (a b : Int) (ha : a.natAbs < 2 ^ 62) (hb : b.natAbs < 2 ^ 62) : RCall P 152 [.int .i64 a, .int .i64 b] h (fun v _ => v = .int .i64 (Int.gcd a b : Nat)) := by
  refine .st2 16 T.mix T.c152 ?_;intro ts hlen t0 t1;unfold fn152
  refine Rs (A2 @t0 @t1) ?_
  refine WL.inv T.mix (fun n ts h' => ∃ x y : Int, n = y.natAbs ∧ h' = h ∧ Int.gcd x y = Int.gcd a b ∧ x.natAbs < 2 ^ 62 ∧ y.natAbs < 2 ^ 62 ∧ ts.length = 16 ∧ slot ts 0 = .int .i64 x ∧ slot ts 1 = .int .i64 y) b.natAbs
    ⟨a, b, rfl, rfl, rfl, ha, hb, Sn, (Sq @t0), (Sq @t1)⟩ ?_
  clear hlen t0 t1 ha hb
  rintro _ ts _ ⟨x, y, rfl, rfl, hg, hx, hy, hlen, t0, t1⟩
  by_cases hz : y = 0
  · have d1 : decide (y ≠ 0) = false := decide_eq_false fun z => z hz
    have w1 : IntKind.i64.wrap (0 - x) = -x := by rw [wrap_in (by omega) (by omega)]; omega
    have hgz : ((Int.gcd a b : Nat) : Int) = max x (-x) := by rw [← hg, hz, gcd_zero]
    by_cases hn : x < 0
    · have d2 : decide (x < 0) = true := decide_eq_true hn
      have e : ((Int.gcd a b : Nat) : Int) = -x := by omega
      refine Rs (A5 @t0 @t1 @d1 @d2 @w1) ?_
      rw [e]
    · have d2 : decide (x < 0) = false := decide_eq_false hn
      have e : ((Int.gcd a b : Nat) : Int) = x := by omega
      refine Rs (A4 @t0 @t1 @d1 @d2) ?_
      rw [e]
  · have d1 : decide (y ≠ 0) = true := decide_eq_true hz
    have r1 := bin_rem (k := .i64) (a := x) (b := y) hz
    have hlt := tmod_lt (x := x) hz
    refine Rs (A4 @t0 @t1 @d1 @r1) ?_
    exact ⟨(x.tmod y).natAbs, hlt, y, x.tmod y, rfl, gcd_step.trans hg, hy, by omega, rfl, rfl⟩
set_option maxHeartbeats 1000000 in
theorem r129 (n d : Int) (hn : n.natAbs < 2 ^ 62) (hd : 0 < d) (hd2 : d < 2 ^ 62) : RCall P 129 [.int .i64 n, .int .i64 d] h (fun v _ => v = .agg (ratR (ratI n d))) := by
  refine .st2 16 T.mix T.c129 ?_;intro ts hlen t0 t1;unfold fn129
  have g := gcd_le (n := n) hd
  have q1 := quo_bd g.1 (n := n) (B := 2 ^ 62) (by omega)
  have q2 := quo_bd g.1 (n := d) (B := 2 ^ 62) (by omega)
  obtain ⟨G, hG⟩ : ∃ G : Int, G = ((Int.gcd n d : Nat) : Int) := ⟨_, rfl⟩
  have hr : ratI n d = (n.tdiv G, d.tdiv G) := by rw [hG]; rfl
  refine Rs (A2 @t0 @t1) ?_
  refine WF.ce T.c186 (r186 T n d hn (by omega)) fun g1 => ?_
  rw [← hG] at g q1 q2 ⊢
  have hz : G ≠ 0 := by omega
  have b1 : binK .quo (.int .i64 n) (.int .i64 G) = some (.int .i64 (n.tdiv G)) := by rw [bin_quo hz, wrap_in (by omega) (by omega)]
  have b2 : binK .quo (.int .i64 d) (.int .i64 G) = some (.int .i64 (d.tdiv G)) := by rw [bin_quo hz, wrap_in (by omega) (by omega)]
  rw [hr]
  unfold ratR
  have st := @rat_st (n.tdiv G) (d.tdiv G)
  exact Rs (A5 @t0 @t1 @b1 @b2 @st) trivial
set_option maxHeartbeats 1000000 in
theorem z132 (n d : Int) (hn : n.natAbs < 2 ^ 62) (hd : 0 < d) (hd2 : d < 2 ^ 62) : RCall P 132 [.int .i64 n, .int .i64 d] h (fun v _ => v = .agg (ratR (ratI n d))) := by
  refine .st2 22 T.mix T.c132 ?_;intro ts hlen t0 t1;unfold fn132
  have g := gcd_le (n := n) hd
  have q1 := quo_bd g.1 (n := n) (B := 2 ^ 62) (by omega)
  have q2 := quo_bd g.1 (n := d) (B := 2 ^ 62) (by omega)
  obtain ⟨G, hG⟩ : ∃ G : Int, G = ((Int.gcd n d : Nat) : Int) := ⟨_, rfl⟩
  have hr : ratI n d = (n.tdiv G, d.tdiv G) := by rw [hG]; rfl
  have d1 : decide (d < 0) = false := decide_eq_false (by omega)
  refine Rs (A3 @t0 @t1 @d1) ?_
  refine WF.ce T.c152 (z152 T n d hn (by omega)) fun g1 => ?_
  rw [← hG] at g q1 q2 ⊢
  have hz : G ≠ 0 := by omega
  have b1 : binK .quo (.int .i64 n) (.int .i64 G) = some (.int .i64 (n.tdiv G)) := by rw [bin_quo hz, wrap_in (by omega) (by omega)]
  have b2 : binK .quo (.int .i64 d) (.int .i64 G) = some (.int .i64 (d.tdiv G)) := by rw [bin_quo hz, wrap_in (by omega) (by omega)]
  rw [hr]
  unfold ratR
  have st := @rat_st (n.tdiv G) (d.tdiv G)
  exact Rs (A5 @t0 @t1 @b1 @b2 @st) trivial
end
end Go.Abs
namespace Go.Abs

def chkT1 (x : Int × Int) : Int := firstS [rangeS x.1 0 100000, rangeS x.2 (-64) 64]
def lateT (p : Option (Int × Int)) (x : Int × Int) : Bool :=
  match p with
  | none => false
  | some y => decide (x.1 ≤ y.1)
/-- The error of rows behind one. -/
def chkTF : List (Int × Int) → Option (Int × Int) → Int
  | [], _ => 0
  | x :: r, p => if chkT1 x ≠ 0 then chkT1 x else if lateT p x = true then 11 else chkTF r (some x)
def chkTs (l : List (Int × Int)) : Int := if l.length = 0 then 12 else if 16 < l.length then 5 else chkTF l none
def interT (a b : Int × Int) (t : Int) : Int × Int := ratI (a.2 * (b.1 - a.1) + (b.2 - a.2) * (t - a.1)) (b.1 - a.1)
def lvlF : List (Int × Int) → Option (Int × Int) → Int → Option (Int × Int)
  | [], _, _ => none
  | b :: r, p, t => if b.1 < t then lvlF r (some b) t else some (match p with
    | none => (b.2, 1)
    | some a => interT a b t)
def lvlS (l : List (Int × Int)) (t : Int) : Int × Int := (lvlF l none t).getD ((l.getD (l.length - 1) (0, 0)).2, 1)
/-- The row ahead of an index. -/
def preT (l : List (Int × Int)) (k : Nat) : Option (Int × Int) := if k = 0 then none else l[k - 1]?
theorem preT_succ {l : List (Int × Int)} {k : Nat} (h : k < l.length) : preT l (k + 1) = some l[k] := by
  rw [preT, if_neg (by omega), Nat.add_sub_cancel, List.getElem?_eq_getElem h]
/-- Rows that are in their ranges, each one later than the one before. -/
structure TdOk (l : List (Int × Int)) : Prop where
  r : ∀ x ∈ l, 0 ≤ x.1 ∧ x.1 ≤ 100000 ∧ -64 ≤ x.2 ∧ x.2 ≤ 64
  o : ∀ k (h : k + 1 < l.length), (l[k]'(by omega)).1 < l[k + 1].1
theorem rangeS_z {n lo hi : Int} : rangeS n lo hi = 0 ↔ lo ≤ n ∧ n ≤ hi := by
  unfold rangeS
  by_cases h : n < lo ∨ hi < n
  · rw [if_pos h]; omega
  · rw [if_neg h]; omega
theorem first2 {a b : Int} (h : firstS [a, b] = 0) : a = 0 ∧ b = 0 := by
  simp only [firstS] at h
  by_cases ha : a = 0
  · rw [if_pos ha] at h
    by_cases hb : b = 0
    · exact ⟨ha, hb⟩
    · rw [if_neg hb] at h; exact absurd h hb
  · rw [if_neg ha] at h; exact absurd h ha
theorem chkT1_z {x : Int × Int} (h : chkT1 x = 0) : 0 ≤ x.1 ∧ x.1 ≤ 100000 ∧ -64 ≤ x.2 ∧ x.2 ≤ 64 := by
  obtain ⟨a, b⟩ := first2 h
  have := rangeS_z.1 a; have := rangeS_z.1 b; omega
theorem chkTF_z : ∀ {l : List (Int × Int)} {p}, chkTF l p = 0 → (∀ x ∈ l, chkT1 x = 0) ∧ (∀ x, l.head? = some x → lateT p x = false) ∧ ∀ k (h : k + 1 < l.length), (l[k]'(by omega)).1 < l[k + 1].1
  | [], _, _ => ⟨fun x hx => (by cases hx), fun x hx => (by cases hx), fun k h => (by simp at h)⟩
  | x :: r, p, h => by
    rw [chkTF] at h
    by_cases h1 : chkT1 x = 0
    · rw [if_neg (fun z => z h1)] at h
      cases h2 : lateT p x with
      | true => rw [h2, if_pos rfl] at h; cases h
      | false =>
        rw [h2, if_neg (by simp)] at h
        obtain ⟨i1, i2, i3⟩ := chkTF_z h
        refine ⟨fun y hy => ?_, fun y hy => ?_, fun k hk => ?_⟩
        · rcases List.mem_cons.1 hy with rfl | hy
          · exact h1
          · exact i1 y hy
        · cases hy; exact h2
        · cases k with
          | zero =>
            cases r with
            | nil => simp at hk
            | cons y s =>
              have := i2 y rfl
              simp only [lateT, decide_eq_false_iff_not] at this
              show x.1 < y.1
              omega
          | succ k => exact i3 k (by simpa using hk)
    · rw [if_pos h1] at h; exact absurd h h1
theorem chkTs_z {l : List (Int × Int)} (h : chkTs l = 0) : TdOk l ∧ 1 ≤ l.length ∧ l.length ≤ 16 := by
  unfold chkTs at h
  split at h
  · cases h
  split at h
  · cases h
  obtain ⟨a, _, b⟩ := chkTF_z h
  exact ⟨⟨fun x hx => chkT1_z (a x hx), b⟩, by omega, by omega⟩
theorem inter_bd {a b : Int × Int} {t : Int} (ha : 0 ≤ a.1 ∧ a.1 ≤ 100000 ∧ -64 ≤ a.2 ∧ a.2 ≤ 64) (hb : 0 ≤ b.1 ∧ b.1 ≤ 100000 ∧ -64 ≤ b.2 ∧ b.2 ≤ 64) (ht : 0 ≤ t ∧ t ≤ 100000) :
    (-6400000 ≤ a.2 * (b.1 - a.1) ∧ a.2 * (b.1 - a.1) ≤ 6400000) ∧ (-12800000 ≤ (b.2 - a.2) * (t - a.1) ∧ (b.2 - a.2) * (t - a.1) ≤ 12800000) := by
  have key : ∀ {x y X Y : Int}, -X ≤ x → x ≤ X → -Y ≤ y → y ≤ Y → -(X * Y) ≤ x * y ∧ x * y ≤ X * Y := fun {x y X Y} h1 h2 h3 h4 => by
    have hX : 0 ≤ X := by omega
    have hY : 0 ≤ Y := by omega
    have e : (x * y).natAbs ≤ (X * Y).natAbs := by
      rw [Int.natAbs_mul, Int.natAbs_mul]
      exact Nat.mul_le_mul (by omega) (by omega)
    have p := Int.mul_nonneg hX hY
    omega
  have k1 := key (x := a.2) (y := b.1 - a.1) (X := 64) (Y := 100000) (by omega) (by omega) (by omega) (by omega)
  have k2 := key (x := b.2 - a.2) (y := t - a.1) (X := 128) (Y := 100000) (by omega) (by omega) (by omega) (by omega)
  omega
set_option maxRecDepth 10000
attribute [local irreducible] WP WC WE WB WR WF WL WG WRg WQ
section
variable {P : Program} (T : Tbl P) {h : AHeap}
include T
set_option maxHeartbeats 1000000 in
theorem r140 (x : Int × Int) : RCall P 140 [.agg (ratR x)] h (fun v _ => v = .int .i64 (chkT1 x)) := by
  unfold ratR
  refine .st1 11 T.mix T.c140 ?_;intro ts hlen t0;unfold fn140
  have bx : ∀ {N : Nat}, boxF (.agg [.int .i64 x.1, .int .i64 x.2]) N = some (.ptr N 0, .push (.cells [.int .i64 x.1, .int .i64 x.2] true false)) := fun {N} => rfl
  refine Rs (A2 @t0 @bx) ?_
  refine WF.ce T.c120 (r120 T _ _ _) fun g1 => ?_
  refine Rs @t0 ?_
  refine WF.ce T.c120 (r120 T _ _ _) fun g2 => ?_
  refine Rs @t0 ?_
  refine WF.ce T.c116 (r116 T (isSl_ints [_, _]) (by simp)) fun g3 => ?_
  refine Rs @t0 ?_
  rfl
set_option maxHeartbeats 1000000 in
theorem r191 (a b : Int) : RCall P 191 [.int .i64 a, .int .i64 b] h (fun v _ => v = .int .i64 (if a < b then -1 else if b < a then 1 else 0)) := by
  refine .st2 20 T.mix T.c191 ?_;intro ts hlen t0 t1;unfold fn191
  have nan : ∀ {x : Int} {k : AHeap}, RCall P 221 [.int .i64 x] k (fun v _ => v = .bool false) := fun {x k} => by
    refine .of T.mix T.c221 ?_
    unfold fn221
    have d : decide (x ≠ x) = false := decide_eq_false fun z => z rfl
    exact Ws @d trivial
  refine Rs (A2 @t0 @t1) ?_
  refine WF.ce T.c221 nan fun g1 => ?_
  refine Rs (A2 @t0 @t1) ?_
  refine WF.ce T.c221 nan fun g2 => ?_
  by_cases h1 : a < b
  · have d1 : decide (a < b) = true := decide_eq_true h1
    refine Rs (A3 @t0 @t1 @d1) ?_
    rw [if_pos h1]
  have d1 : decide (a < b) = false := decide_eq_false h1
  by_cases h2 : b < a
  · have d2 : decide (b < a) = true := decide_eq_true h2
    refine Rs (A4 @t0 @t1 @d1 @d2) ?_
    rw [if_neg h1, if_pos h2]
  · have d2 : decide (b < a) = false := decide_eq_false h2
    refine Rs (A4 @t0 @t1 @d1 @d2) ?_
    rw [if_neg h1, if_neg h2]
set_option maxHeartbeats 1000000 in
theorem r139 (x y : Int × Int) : RCall P 139 [.agg (ratR x), .agg (ratR y)] h (fun v _ => v = .int .i64 (if x.1 < y.1 then -1 else if y.1 < x.1 then 1 else 0)) := by
  unfold ratR
  refine .st2 10 T.mix T.c139 ?_;intro ts hlen t0 t1;unfold fn139
  have bx : ∀ {N : Nat} {z : Int × Int}, boxF (.agg [.int .i64 z.1, .int .i64 z.2]) N = some (.ptr N 0, .push (.cells [.int .i64 z.1, .int .i64 z.2] true false)) := fun {N z} => rfl
  refine Rs (A3 @t0 @t1 @bx) ?_
  refine WF.ce T.c191 (r191 T _ _) fun g1 => ?_
  exact Rs (A2 @t0 @t1) trivial
end
end Go.Abs
