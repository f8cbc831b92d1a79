import Derived.Test.YtjhdkimkijhloaaGreatDoorBk3
import Derived.Lib.Bytealg
import Derived.Test.YtjhdkimkijhloaaGreatDoorBk5
import Derived.Test.YtjhdkimkijhloaaGreatDoorBk4
set_option linter.all false
open Nat (reduceAdd reduceMul reduceLeDiff reduceEqDiff)
namespace Go.Abs
theorem lh_get {h' : AHeap} {X : ABlk} {g : AHeap} {n : Nat} (hn : h'.length = n) : (h' ++ [X] ++ g)[n]? = some X := by
  subst hn
  rw [List.append_assoc, List.getElem?_append_right (Nat.le_refl _), Nat.sub_self]; rfl
theorem lh_set {h' : AHeap} {X Y : ABlk} {g : AHeap} {n : Nat} (hn : h'.length = n) : (h' ++ [X] ++ g).set n Y = h' ++ [Y] ++ g := by
  subst hn
  rw [List.append_assoc, List.set_append_right _ _ (Nat.le_refl _), Nat.sub_self, List.append_assoc]; rfl
structure Iter (P : Program) (f : FuncId) (a c : List AV) (L : List (List AV)) (pre : AHeap → Prop) : Prop where
  run : ∀ (l : Nat) (h : AHeap) (J : Nat → AHeap → Prop) (D : AHeap → Prop), (∀ i k, J i k → pre k) → (∀ i k g, J i k → J i (k ++ g)) →
    (∀ i (hi : i < L.length) k, J i k → ∃ b k', SCallV P (.func (.yield l) [] []) L[i] k (.bool b) k' ∧ (if b = true then J (i + 1) k' else D k')) →
    (∀ k, J L.length k → D k) → J 0 h → GCall P f (a ++ [.func (.yield l) [] []] ++ c) h (fun _ k => D k)
section
variable {P : Program} {ks : List Kt} {ts : TS} {h : AHeap} {Q : Ex → TS → AHeap → Prop}
theorem WC.iter (hmix : P.follows .mixedOrders = true) {f : FuncId} {A : AFunc} {a c : List AV} {L : List (List AV)} {pre : AHeap → Prop} {g : Opd} {ps : List Nat} {asg body : ICode} (hA : compileFn P f = some A)
    (hg : val ts g = .func (.func f) a c) (hi : Iter P f a c L pre) (hps : ∀ x ∈ L, x.length = ps.length) (I : Nat → AHeap → AHeap → Prop) (Fin : Ex → AHeap → AHeap → Prop)
    (h0 : I 0 h []) (hcl : ∀ i h' g g2, I i h' g → I i h' (g ++ g2)) (hpre : ∀ i h' g X, h'.length = h.length → I i h' g → pre (h' ++ [X] ++ g))
    (step : ∀ i (hi : i < L.length) h' g (R B : ABlk), h'.length = h.length → I i h' g →
      WC P inRd asg [] (setArgs ts ps L[i]) (h' ++ [R] ++ g) fun e1 ts2 h2 => e1 = .normal ∧ ∃ h1 g1, h2 = h1 ++ [R] ++ g1 ∧ h1.length = h.length ∧
        WC P inRd body [] ts2 (h1 ++ [B] ++ g1) fun e2 _ h4 => ∃ h3 g3, h4 = h3 ++ [B] ++ g3 ∧ h3.length = h.length ∧ (if e2 = .normal then I (i + 1) h3 g3 else Fin e2 h3 g3))
    (done : ∀ e h' g, h'.length = h.length → (if e = .normal then I L.length h' g else Fin e h' g) → WE P inFn e ks ts (h' ++ [ABlk.dead] ++ g) Q) : WC P inFn (.rangeF g ps asg body) ks ts h Q := by
  let J : Nat → AHeap → Prop := fun i k => ∃ h' g, k = h' ++ [.loop .ready .normal ts ps asg body] ++ g ∧ h'.length = h.length ∧ I i h' g
  let D : AHeap → Prop := fun k => ∃ e h' g st, k = h' ++ [.loop st e ts ps asg body] ++ g ∧ h'.length = h.length ∧ st ≠ .busy ∧ (if e = .normal then I L.length h' g else Fin e h' g)
  obtain ⟨v, h2, hs, e, h', g', st, rfl, hl, hst, hfin⟩ := hi.run h.length (h ++ [.loop .ready .normal ts ps asg body]) J D
    (fun i k hJ => by obtain ⟨h', g, rfl, h1, h2⟩ := hJ; exact hpre i h' g _ h1 h2)
    (fun i k g2 hJ => by obtain ⟨h', g, rfl, h1, h2⟩ := hJ; exact ⟨h', g ++ g2, by rw [List.append_assoc], h1, hcl _ _ _ _ h2⟩)
    (fun i hi k hJ => by
      obtain ⟨h', g, rfl, h1, h2⟩ := hJ
      obtain ⟨e1, ts2, k2, q1, rfl, h3, g3, rfl, h4, q2⟩ := W.sound hmix (step i hi h' g (.loop .ready .normal ts ps asg body) (.loop .busy .normal ts ps asg body) h1 h2)
      obtain ⟨e2, ts3, k3, q3, h5, g5, rfl, h6, q4⟩ := W.sound hmix q2
      have hy : SCallV P (.func (.yield h.length) [] []) L[i] (h' ++ [.loop .ready .normal ts ps asg body] ++ g) (.bool (decide (e2 = .normal))) (List.set (h5 ++ [ABlk.loop .busy .normal ts ps asg body] ++ g5) h.length (ABlk.loop (if e2 = .normal then .ready else .done) e2 ts ps asg body)) :=
        SCallV.yield (lh_get h1) (hps _ (List.getElem_mem hi)) (fun r => q1 (some r) ⟨r, rfl⟩) (lh_get h4) (fun r => by rw [lh_set h4]; exact q3 (some r) ⟨r, rfl⟩) (lh_get h6)
      rw [lh_set h6] at hy
      refine ⟨decide (e2 = .normal), _, hy, ?_⟩
      by_cases he : e2 = .normal
      · subst he
        rw [if_pos rfl] at q4
        simp only [decide_true, if_true]
        exact ⟨h5, g5, rfl, h6, q4⟩
      · rw [if_neg he] at q4
        simp only [he, decide_false, Bool.false_eq_true, if_false]
        exact ⟨e2, h5, g5, .done, rfl, h6, by simp, by rw [if_neg he]; exact q4⟩)
    (fun k hJ => by obtain ⟨h', g, rfl, h1, h2⟩ := hJ; exact ⟨.normal, h', g, .ready, rfl, h1, by simp, by rw [if_pos rfl]; exact h2⟩)
    ⟨h, [], by rw [List.append_nil], rfl, h0⟩
  refine ⟨e, ts, h' ++ [ABlk.dead] ++ g', fun r hr => ?_, done e h' g' hl hfin⟩
  have : r = none := hr
  subst this
  have := Ev.rangeF (h := h) (ps := ps) (asg := asg) (body := body) hA hg hs (lh_get hl) hst
  rw [lh_set hl] at this
  exact this
end
end Go.Abs
namespace Go.Abs
theorem flatten_set {es : Nat} {v : AV} : ∀ {cs : List (List AV)}, (∀ x ∈ cs, x.length = es) → ∀ {i off : Nat} (hi : i < cs.length), off < es → cs.flatten.set (i * es + off) v = (cs.set i (cs[i].set off v)).flatten
  | [], _, i, off, hi, _ => absurd hi (Nat.not_lt_zero _)
  | c :: cs, h, 0, off, hi, ho => by
    have hc : c.length = es := h c (List.mem_cons_self ..)
    rw [List.flatten_cons, Nat.zero_mul, Nat.zero_add, List.set_append_left _ _ (by omega)]
    rfl
  | c :: cs, h, i + 1, off, hi, ho => by
    have hc : c.length = es := h c (List.mem_cons_self ..)
    have h1 := flatten_set (v := v) (cs := cs) (fun x hx => h x (List.mem_cons_of_mem _ hx)) (i := i) (off := off) (by simpa using hi) ho
    rw [List.flatten_cons, List.set_append_right _ _ (by rw [Nat.succ_mul]; omega), show (i + 1) * es + off - c.length = i * es + off by rw [Nat.succ_mul]; omega, h1]
    rfl
theorem mksl_ok {es w N0 n : Nat} {z : List AV} {k k' : IntKind} (h1 : w * n ≤ 2 ^ 48) (h2 : n < 2 ^ 63) : mkslF es w z (.int k n) (.int k' n) N0 = some (.slice N0 0 n es, .push (.cells (zrep n z) true true)) := by
  simp only [mkslF]
  rw [if_pos ⟨by omega, by omega, by exact_mod_cast h1, by exact_mod_cast h2⟩]
  rfl
theorem Fr.zeros {N n es : Nat} {h : AHeap} {z : List AV} (hN : N ≤ h.length) (hz : z.length = es) : Fr N (h ++ [.cells (zrep n z) true true]) (.slice h.length 0 n es) es (List.replicate n z) := by
  have := Fr.push (h := h) (es := es) hN (List.replicate n z) (fun x hx => by rw [(List.mem_replicate.1 hx).2]; exact hz)
  rw [List.length_replicate] at this
  exact this
section
variable {P : Program} {ro : Option Nat → Prop} {ks : List Kt} {ts : TS} {Q : Ex → TS → AHeap → Prop} {d : Option Nat} {l : List IOp}
theorem WR.put1 {α : Type} {row : α → List AV} {L : List α} {h0 g : AHeap} {s v : AV} {es i off : Nat} {x' : α} (hs : Fr h0.length (h0 ++ g) s es (L.map row)) (hi : i < L.length) (ho : off < es) (hv : v.one = true) (hx : row x' = (row L[i]).set off v)
    (K : ∀ g', g'.length = g.length → Fr h0.length (h0 ++ g') s es ((L.set i x').map row) → (∀ b, (∀ b0 o n e, s = .slice b0 o n e → b ≠ b0) → (h0 ++ g')[b]? = (h0 ++ g)[b]?) → WP P ro l ks (put ts d undefA) (h0 ++ g') Q) :
    WR P ro (storeF 1 (elf s es i off) v (fun b => (h0 ++ g)[b]?)) false d l ks ts (h0 ++ g) Q := by
  have hrl := hs.isSl.rows
  generalize hcs : L.map row = cs at hs
  have hcl : cs.length = L.length := by rw [← hcs, List.length_map]
  cases hs with
  | nil => simp at hcl; omega
  | @mk b _ _ tl hN hb he =>
    have hfl := flatten_len he
    have hie : i * es + off < cs.flatten.length := by
      rw [hfl, hcl]
      have : (i + 1) * es ≤ L.length * es := Nat.mul_le_mul_right _ hi
      rw [Nat.succ_mul] at this; omega
    have hset : cs.flatten.set (i * es + off) v = ((L.set i x').map row).flatten := by
      have := flatten_set (v := v) he (i := i) (off := off) (by omega) ho
      rw [this, List.map_set, hx, hcs]
      congr 2
      simp [← hcs]
    have hbl : b < (h0 ++ g).length := (List.getElem?_eq_some_iff.1 hb).1
    show WR P ro (storeF 1 (.ptr b (0 + i * es + off)) v (fun b => (h0 ++ g)[b]?)) false d l ks ts (h0 ++ g) Q
    rw [Nat.zero_add, storeF_at hb, stB_one hv (by omega), WR_set, hset, List.set_append_right _ _ hN]
    refine K _ (by simp) ?_ fun b' hb' => ?_
    · have hl2 : ((L.set i x').map row).length = cs.length := by simp [hcl]
      rw [← hl2]
      refine Fr.mk hN (tl := tl) ?_ fun y hy => ?_
      · rw [List.getElem?_append_right hN, List.getElem?_set_self (by simp at hbl; omega)]
      · rw [List.map_set] at hy
        rcases List.mem_or_eq_of_mem_set hy with hy | hy
        · exact he y (by rw [← hcs]; exact hy)
        · rw [hy, hx, List.length_set]
          exact he _ (by rw [← hcs]; exact List.mem_map_of_mem (List.getElem_mem hi))
    · have hne := hb' b 0 _ _ rfl
      rw [← List.set_append_right _ _ hN, List.getElem?_set_ne (Ne.symm hne)]
end
end Go.Abs
namespace Go.Abs
section
variable (P : Program) (ro : Option Nat → Prop)
def WQ (l : List IOp) (cs : List Acc) (ks : List Kt) (ts : TS) (h : AHeap) (Q : Ex → TS → AHeap → Prop) : Prop := WOS h l ts cs fun ts' cs => accOk cs ∧ kq P ro ks Q .normal ts' (accApp h cs)
def WQV (r : Option AV) (d : Option Nat) (l : List IOp) (cs : List Acc) (ks : List Kt) (ts : TS) (h : AHeap) (Q : Ex → TS → AHeap → Prop) : Prop :=
  match r with
  | some v => WQ P ro l cs ks (put ts d v) h Q
  | none => False
def WQL (a : AV) (r : Option (AV × Eff)) (d : Option Nat) (l : List IOp) (cs : List Acc) (ks : List Kt) (ts : TS) (h : AHeap) (Q : Ex → TS → AHeap → Prop) : Prop :=
  match a, r with
  | .ptr b _, some (v, .keep) => WQ P ro l (cs ++ [.rd b]) ks (put ts d v) h Q
  | _, _ => False
def WQS (a : AV) (r : Option (AV × Eff)) (d : Option Nat) (l : List IOp) (cs : List Acc) (ks : List Kt) (ts : TS) (h : AHeap) (Q : Ex → TS → AHeap → Prop) : Prop :=
  match a, r with
  | .ptr _ _, some (v, .set b k) => WQ P ro l (cs ++ [.wr b k]) ks (put ts d v) h Q
  | _, _ => False
end
section
variable {P : Program} {ro : Option Nat → Prop} {ks : List Kt} {ts : TS} {h : AHeap} {Q : Ex → TS → AHeap → Prop} {d : Option Nat} {q : Bool} {l : List IOp} {cs : List Acc}
theorem WC_opsS : WC P ro (.opsS l) ks ts h Q = WQ P ro l [] ks ts h Q := rfl
theorem WQ_nil : WQ P ro [] cs ks ts h Q = (accOk cs ∧ WE P ro .normal ks ts (accApp h cs) Q) := rfl
theorem WQV_some {v : AV} : WQV P ro (some v) d l cs ks ts h Q = WQ P ro l cs ks (put ts d v) h Q := rfl
theorem WQL_some {v : AV} {b o : Nat} : WQL P ro (.ptr b o) (some (v, .keep)) d l cs ks ts h Q = WQ P ro l (cs ++ [.rd b]) ks (put ts d v) h Q := rfl
theorem WQS_some {v : AV} {b b' o : Nat} {k : ABlk} : WQS P ro (.ptr b o) (some (v, .set b' k)) d l cs ks ts h Q = WQ P ro l (cs ++ [.wr b' k]) ks (put ts d v) h Q := rfl
theorem WQ_pure {k : OpK} (hp : pureK k = true) {r : Option AV} (hr : stepT k (val ts) (fun z => h[z]?) h.length = r.map fun v => (v, .keep)) :
    WQ P ro ({ dst := d, k := k, gd := none, q := q } :: l) cs ks ts h Q = WQV P ro r d l cs ks ts h Q := by
  apply propext
  constructor
  · rintro ⟨v, c, ⟨_, hs⟩, H⟩
    rcases hs with ⟨_, rfl, hs⟩ | ⟨n, a, b, off, hk, _⟩ | ⟨n, a, x, b, off, k', hk, _⟩
    · have hs : stepT k (val ts) (fun z => h[z]?) h.length = some (v, .keep) := hs
      rw [hr] at hs
      cases r with
      | none => cases hs
      | some v' => cases hs; exact H
    · have hk : k = .load n a := hk
      rw [hk] at hp; cases hp
    · have hk : k = .store n a x := hk
      rw [hk] at hp; cases hp
  · intro H
    cases r with
    | none => exact H.elim
    | some v => exact ⟨v, .no, ⟨rfl, .inl ⟨hp, rfl, hr⟩⟩, H⟩
theorem WQ_load {n : Option Nat} {a : Opd} : WQ P ro ({ dst := d, k := .load n a, gd := none, q := q } :: l) cs ks ts h Q = WQL P ro (val ts a) (loadF n (val ts a) (fun z => h[z]?)) d l cs ks ts h Q := by
  apply propext
  constructor
  · rintro ⟨v, c, ⟨_, hs⟩, H⟩
    rcases hs with ⟨hp, _⟩ | ⟨n', a', b, off, hk, ha, rfl, hs⟩ | ⟨n', a', x, b, off, k', hk, _⟩
    · cases hp
    · cases hk
      have hs : loadF n (val ts a) (fun z => h[z]?) = some (v, .keep) := hs
      rw [hs, ha]
      exact H
    · cases hk
  · intro H
    unfold WQL at H
    split at H
    · rename_i b o v ha hr
      exact ⟨v, .rd b, ⟨rfl, .inr (.inl ⟨n, a, b, o, rfl, ha, rfl, hr⟩)⟩, H⟩
    · exact H.elim
theorem WQ_store {n : Nat} {a x : Opd} : WQ P ro ({ dst := d, k := .store n a x, gd := none, q := q } :: l) cs ks ts h Q = WQS P ro (val ts a) (storeF n (val ts a) (val ts x) (fun z => h[z]?)) d l cs ks ts h Q := by
  apply propext
  constructor
  · rintro ⟨v, c, ⟨_, hs⟩, H⟩
    rcases hs with ⟨hp, _⟩ | ⟨n', a', b, off, hk, _⟩ | ⟨n', a', x', b, off, k', hk, ha, rfl, hs⟩
    · cases hp
    · cases hk
    · cases hk
      have hs : storeF n (val ts a) (val ts x) (fun z => h[z]?) = some (v, .set b k') := hs
      rw [hs, ha]
      exact H
  · intro H
    unfold WQS at H
    split at H
    · rename_i b o v b' k ha hr
      have hb : b' = b := by
        rw [ha] at hr
        simp only [storeF] at hr
        split at hr
        · split at hr
          · cases hr; rfl
          · cases hr
        · cases hr
      subst hb
      exact ⟨v, .wr b' k, ⟨rfl, .inr (.inr ⟨n, a, x, b', o, k, rfl, ha, rfl, hr⟩)⟩, H⟩
    · exact H.elim
theorem WQ_mov {x : Opd} : WQ P ro ({ dst := d, k := .mov x, gd := none, q := q } :: l) cs ks ts h Q = WQ P ro l cs ks (put ts d (val ts x)) h Q := WQ_pure (r := some (val ts x)) rfl rfl
end
theorem acc_l0 {a : List Acc} : [] ++ a = a := rfl
theorem acc_lc {c : Acc} {a b : List Acc} : (c :: a) ++ b = c :: (a ++ b) := rfl
theorem accApp_n {h : AHeap} : accApp h [] = h := rfl
theorem accApp_r {h : AHeap} {b : Nat} {cs : List Acc} : accApp h (.rd b :: cs) = accApp h cs := rfl
theorem accApp_w {h : AHeap} {b : Nat} {k : ABlk} {cs : List Acc} : accApp h (.wr b k :: cs) = accApp (h.set b k) cs := rfl
def accN (b : Nat) (cs : List Acc) : Prop := ∀ x ∈ cs, x.blk ≠ some b
def accNW (b : Nat) (cs : List Acc) : Prop := ∀ x ∈ cs, ∀ k, x ≠ Acc.wr b k
theorem accN_n {b : Nat} : accN b [] = True := eq_true fun x hx => by cases hx
theorem accN_c {b : Nat} {c : Acc} {cs : List Acc} : accN b (c :: cs) = (c.blk ≠ some b ∧ accN b cs) := by
  simp [accN]
theorem accNW_n {b : Nat} : accNW b [] = True := eq_true fun x hx => by cases hx
theorem accNW_r {b b' : Nat} {cs : List Acc} : accNW b (.rd b' :: cs) = accNW b cs := by
  simp [accNW]
theorem accNW_w {b b' : Nat} {k : ABlk} {cs : List Acc} : accNW b (.wr b' k :: cs) = (b' ≠ b ∧ accNW b cs) := by
  unfold accNW
  simp only [List.mem_cons, forall_eq_or_imp]
  refine propext ⟨fun h => ⟨fun e => h.1 k (by rw [e]), h.2⟩, fun h => ⟨fun k' e => h.1 (by cases e; rfl), h.2⟩⟩
theorem accOk_n : accOk [] = True := rfl
theorem accOk_r {b : Nat} {cs : List Acc} : accOk (.rd b :: cs) = (accNW b cs ∧ accOk cs) := by
  unfold accNW
  simp only [accOk, Acc.blk, Option.some.injEq]
  refine propext ⟨fun h => ⟨fun x hx k hk => h.1 b rfl x hx (by rw [hk]) k k (.inr hk), h.2⟩, fun h => ⟨fun b' e x hx _ k k' hk => ?_, h.2⟩⟩
  subst e
  rcases hk with hk | hk
  · cases hk
  · exact h.1 x hx k' hk
theorem accOk_w {b : Nat} {k : ABlk} {cs : List Acc} : accOk (.wr b k :: cs) = (accN b cs ∧ accOk cs) := by
  unfold accN
  simp only [accOk, Acc.blk, Option.some.injEq]
  refine propext ⟨fun h => ⟨fun x hx hk => h.1 b rfl x hx hk k k (.inl rfl), h.2⟩, fun h => ⟨fun b' e x hx hk _ _ _ => ?_, h.2⟩⟩
  subst e
  exact h.1 x hx hk
theorem blk_r {b : Nat} : (Acc.rd b).blk = some b := rfl
theorem blk_w {b : Nat} {k : ABlk} : (Acc.wr b k).blk = some b := rfl
end Go.Abs
namespace Go.Abs
def splitB (c : UInt8) : List UInt8 → List (List UInt8)
  | [] => [[]]
  | x :: r =>
    if x = c then [] :: splitB c r
    else match splitB c r with
      | p :: ps => (x :: p) :: ps
      | [] => [[x]]
theorem splitB_ne {c : UInt8} : ∀ {s : List UInt8}, splitB c s ≠ []
  | [] => by simp [splitB]
  | x :: r => by
    unfold splitB
    split
    · simp
    · split <;> simp
theorem splitB_no {c : UInt8} : ∀ {s : List UInt8}, c ∉ s → splitB c s = [s]
  | [], _ => rfl
  | x :: r, h => by
    unfold splitB
    rw [if_neg (fun e => h (by simp [e])), splitB_no (fun hr => h (List.mem_cons_of_mem _ hr))]
theorem splitB_app {c : UInt8} {q : List UInt8} : ∀ {p : List UInt8}, c ∉ p → splitB c (p ++ c :: q) = p :: splitB c q
  | [], _ => by simp [splitB]
  | x :: r, h => by
    rw [List.cons_append, splitB, if_neg (fun e => h (by simp [e])), splitB_app (fun hr => h (List.mem_cons_of_mem _ hr))]
theorem splitB_len {c : UInt8} : ∀ {s : List UInt8}, (splitB c s).length = s.count c + 1
  | [] => rfl
  | x :: r => by
    have ih := splitB_len (c := c) (s := r)
    unfold splitB
    by_cases h : x = c
    · subst h; rw [if_pos rfl, List.length_cons, ih, List.count_cons_self]
    · rw [if_neg h, List.count_cons_of_ne h]
      cases hs : splitB c r with
      | nil => exact absurd hs splitB_ne
      | cons p ps => rw [hs] at ih; simpa using ih
theorem splitB_mem {c : UInt8} : ∀ {s : List UInt8}, ∀ p ∈ splitB c s, c ∉ p
  | [] => by simp [splitB]
  | x :: r => by
    have ih := splitB_mem (c := c) (s := r)
    intro p hp
    unfold splitB at hp
    by_cases h : x = c
    · rw [if_pos h] at hp
      rcases List.mem_cons.1 hp with rfl | hp
      · simp
      · exact ih p hp
    · rw [if_neg h] at hp
      cases hs : splitB c r with
      | nil => exact absurd hs splitB_ne
      | cons q qs =>
        rw [hs] at hp ih
        rcases List.mem_cons.1 hp with rfl | hp
        · have := ih q (by simp)
          simp only [List.mem_cons, not_or]
          exact ⟨fun e => h e.symm, this⟩
        · exact ih p (by simp [hp])
theorem splitB_le {c : UInt8} : ∀ {s : List UInt8}, ∀ p ∈ splitB c s, p.length ≤ s.length
  | [] => by simp [splitB]
  | x :: r => by
    have ih := splitB_le (c := c) (s := r)
    intro p hp
    unfold splitB at hp
    rw [List.length_cons]
    by_cases h : x = c
    · rw [if_pos h] at hp
      rcases List.mem_cons.1 hp with rfl | hp
      · simp
      · have := ih p hp; omega
    · rw [if_neg h] at hp
      cases hs : splitB c r with
      | nil => exact absurd hs splitB_ne
      | cons q qs =>
        rw [hs] at hp ih
        rcases List.mem_cons.1 hp with rfl | hp
        · have := ih q (by simp)
          rw [List.length_cons]; omega
        · have := ih p (by simp [hp]); omega
def joinB (c : UInt8) : List (List UInt8) → List UInt8
  | [] => []
  | [p] => p
  | p :: ps => p ++ c :: joinB c ps
theorem joinB_cons {c : UInt8} {p : List UInt8} {r : List (List UInt8)} (h : r ≠ []) : joinB c (p :: r) = p ++ c :: joinB c r := by
  cases r with
  | nil => exact absurd rfl h
  | cons => rfl
theorem joinB_split {c : UInt8} : ∀ {s : List UInt8}, joinB c (splitB c s) = s
  | [] => rfl
  | x :: r => by
    have ih := joinB_split (c := c) (s := r)
    unfold splitB
    by_cases h : x = c
    · subst h
      rw [if_pos rfl]
      cases hs : splitB x r with
      | nil => exact absurd hs splitB_ne
      | cons p ps => rw [hs] at ih; rw [joinB, ih] <;> simp
    · rw [if_neg h]
      cases hs : splitB c r with
      | nil => exact absurd hs splitB_ne
      | cons p ps =>
        rw [hs] at ih
        cases ps with
        | nil => rw [joinB] at ih ⊢; rw [ih]
        | cons q qs =>
          rw [joinB] at ih ⊢ <;> first | (rw [← ih]; rfl) | simp
theorem ix_no {c : UInt8} : ∀ {s : List UInt8}, c ∉ s → Lib.indexByte s c = -1
  | [], _ => rfl
  | x :: r, h => by
    unfold Lib.indexByte
    have h1 : (x == c) = false := by simp; exact fun e => h (by simp [e])
    rw [h1, ix_no (fun hr => h (List.mem_cons_of_mem _ hr))]; rfl
theorem ix_app {c : UInt8} {q : List UInt8} : ∀ {p : List UInt8}, c ∉ p → Lib.indexByte (p ++ c :: q) c = p.length
  | [], _ => by simp [Lib.indexByte]
  | x :: r, h => by
    have ih := ix_app (q := q) (fun hr => h (List.mem_cons_of_mem _ hr) : c ∉ r)
    rw [List.cons_append, Lib.indexByte]
    have h1 : (x == c) = false := by simp; exact fun e => h (by simp [e])
    rw [h1, ih]
    have h2 : ((r.length : Int) == -1) = false := by simp
    rw [h2]; simp
theorem ix_cases (c : UInt8) (s : List UInt8) : (c ∉ s ∧ Lib.indexByte s c = -1) ∨ ∃ p q, c ∉ p ∧ s = p ++ c :: q ∧ Lib.indexByte s c = p.length := by
  by_cases h : c ∈ s
  · right
    obtain ⟨p, q, rfl, hp⟩ := List.eq_append_cons_of_mem h
    exact ⟨p, q, hp, rfl, ix_app hp⟩
  · exact .inl ⟨h, ix_no h⟩
def lnP : List (List UInt8) → List (List UInt8)
  | [] => []
  | [p] => if p = [] then [] else [p]
  | p :: r => (p ++ [10]) :: lnP r
def linesB (s : List UInt8) : List (List UInt8) := lnP (splitB 10 s)
theorem lnP_cons {p : List UInt8} {r : List (List UInt8)} (h : r ≠ []) : lnP (p :: r) = (p ++ [10]) :: lnP r := by
  cases r with
  | nil => exact absurd rfl h
  | cons => rfl
theorem lnP_flat : ∀ {ps : List (List UInt8)}, (lnP ps).flatten = joinB 10 ps
  | [] => rfl
  | [p] => by
    rw [lnP, joinB]
    split
    · rename_i h; rw [h]; rfl
    · simp
  | p :: q :: r => by
    have h1 := lnP_flat (ps := q :: r)
    rw [lnP_cons (p := p) (r := q :: r) (by simp), List.flatten_cons, h1, joinB_cons (p := p) (r := q :: r) (by simp)]
    simp only [List.append_assoc, List.singleton_append]
theorem lines_flat {s : List UInt8} : (linesB s).flatten = s := by unfold linesB; rw [lnP_flat, joinB_split]
inductive NextL : List UInt8 → List UInt8 → List UInt8 → Prop
  | ended {p q : List UInt8} (hp : (10 : UInt8) ∉ p) : NextL (p ++ 10 :: q) (p ++ [10]) q
  | last {p : List UInt8} (hp : (10 : UInt8) ∉ p) (hn : p ≠ []) : NextL p p []
theorem lnP_next : ∀ {ps : List (List UInt8)}, (∀ p ∈ ps, (10 : UInt8) ∉ p) → ∀ {i : Nat} (hi : i < (lnP ps).length), NextL (((lnP ps).drop i).flatten) ((lnP ps)[i]) (((lnP ps).drop (i + 1)).flatten)
  | [], _, i, hi => by simp [lnP] at hi
  | [p], h, i, hi => by
    by_cases hp : p = []
    · simp only [lnP, hp, if_true, List.length_nil] at hi; omega
    · have e : lnP [p] = [p] := by rw [lnP, if_neg hp]
      simp only [e] at hi ⊢
      have : i = 0 := by simp at hi; omega
      subst this
      have := NextL.last (h p (by simp)) hp
      simpa using this
  | p :: q :: r, h, i, hi => by
    have e : lnP (p :: q :: r) = (p ++ [10]) :: lnP (q :: r) := lnP_cons (by simp)
    simp only [e] at hi ⊢
    cases i with
    | zero =>
      have := NextL.ended (q := (lnP (q :: r)).flatten) (h p (by simp))
      simpa using this
    | succ i =>
      have := lnP_next (ps := q :: r) (fun x hx => h x (List.mem_cons_of_mem _ hx)) (i := i) (by simpa using hi)
      simpa using this
theorem lines_next {s : List UInt8} {i : Nat} (hi : i < (linesB s).length) : NextL (((linesB s).drop i).flatten) ((linesB s)[i]) (((linesB s).drop (i + 1)).flatten) := lnP_next (fun p hp => splitB_mem p hp) hi
end Go.Abs
namespace Go.Abs
def sameS (A B : Hor) : Bool := decide (A.name = B.name) && (decide (A.err = B.err) && decide (A.picks = B.picks))
def noHor : Hor := ⟨[], 0, []⟩
theorem sameS_refl (A : Hor) : sameS A A = true := by simp [sameS]
theorem drop_eq_step {α : Type} [DecidableEq α] {A B : List α} {k : Nat} (ha : k < A.length) (hb : k < B.length) : decide (A.drop k = B.drop k) = (decide (A[k] = B[k]) && decide (A.drop (k + 1) = B.drop (k + 1))) := by
  rw [List.drop_eq_getElem_cons ha, List.drop_eq_getElem_cons hb, Bool.eq_iff_iff]
  simp only [List.cons.injEq, decide_eq_true_eq, Bool.and_eq_true]
theorem pk_eq (a b : Pk) : (decide (a.1 = b.1) && (decide (a.2 = b.2) && true)) = decide (a = b) := by
  rw [Bool.eq_iff_iff]; simp [Prod.ext_iff]
section
variable {P : Program} (T : Tbl P) {h : AHeap}
include T
theorem r68 {H : Hor} {s : AV} (hs : IsSl h s 2 (H.picks.map pkRow)) (hb : H.picks.length ≤ 2 ^ 40) : RCall P 68 [horA H s] h (fun v h' => ∃ s', v = horA H s' ∧ Fr h.length h' s' 2 (H.picks.map pkRow)) := by
  refine .of T.mix T.c68 ?_
  unfold fn68
  simp only [wset, hset, dset, bset, reduceAdd, reduceMul, reduceLeDiff, reduceEqDiff, hs.one, hs.lenm]
  refine WL.inv T.mix (fun n ts h' => ∃ (k : Nat) (out : AV) (g : AHeap), k ≤ H.picks.length ∧ n = H.picks.length - k ∧ h' = h ++ [ABlk.cells [AV.str H.name, AV.int IntKind.i64 H.err, s] true false] ++ [ABlk.cells [AV.str [], AV.int IntKind.i64 0, AV.nilSlice] true false] ++ [ABlk.cells [AV.str H.name, AV.int IntKind.i64 H.err, out] true false] ++ g ∧ Fr (h.length + 3) h' out 2 ((H.picks.take k).map pkRow) ∧ ts.length = 26 ∧ slot ts 2 = .ptr (h ++ [ABlk.cells [AV.str H.name, AV.int IntKind.i64 H.err, s] true false]).length 0 ∧ slot ts 3 = .ptr (h ++ [ABlk.cells [AV.str H.name, AV.int IntKind.i64 H.err, s] true false] ++ [ABlk.cells [AV.str [], AV.int IntKind.i64 0, AV.nilSlice] true false]).length 0 ∧ slot ts 12 = s ∧ slot ts 13 = .int .i64 H.picks.length ∧ slot ts 14 = .int .i64 k) H.picks.length
    ⟨0, .nilSlice, [], by omega, rfl, by rw [List.append_nil], .nil, rfl, rfl, rfl, rfl, rfl, rfl⟩ ?_
  rintro _ ts _ ⟨k, out, g, hk, rfl, rfl, hfr, hlen, t2, t3, t12, t13, t14⟩
  rw [expl ts 26 hlen]
  by_cases hlt : k < H.picks.length
  · have e3 : (k : Int) < H.picks.length := by omega
    simp only [wset, hset, dset, bset, reduceAdd, reduceMul, reduceLeDiff, reduceEqDiff, t2, t3, t12, t13, t14, e3, decide_true, hs.ixm hlt, hs.ldm hlt]
    have e0 : (h ++ [ABlk.cells [AV.str H.name, AV.int IntKind.i64 H.err, s] true false] ++ [ABlk.cells [AV.str [], AV.int IntKind.i64 0, AV.nilSlice] true false] ++ [ABlk.cells [AV.str H.name, AV.int IntKind.i64 H.err, out] true false]).length = h.length + 3 := by simp
    refine WR.app1 (h0 := h ++ [ABlk.cells [AV.str H.name, AV.int IntKind.i64 H.err, s] true false] ++ [ABlk.cells [AV.str [], AV.int IntKind.i64 0, AV.nilSlice] true false] ++ [ABlk.cells [AV.str H.name, AV.int IntKind.i64 H.err, out] true false]) (cs := (H.picks.take k).map pkRow) (ys := [pkRow H.picks[k]]) (by rw [e0]; exact (hfr.app _).app _) (Fr.push (N := 0) (Nat.zero_le _) [pkRow H.picks[k]] (by simp)).isSl (by decide) (by simp) (by simp; omega) (by simp only [eset]) ?_
    intro g' hl hf hkp
    have hrow : (H.picks.take k).map pkRow ++ [pkRow H.picks[k]] = (H.picks.take (k + 1)).map pkRow := by rw [List.take_add_one, List.getElem?_eq_getElem hlt, List.map_append]; rfl
    rw [e0, hrow] at hf
    rw [hrow]
    simp only [wset, hset, dset, bset, reduceAdd, reduceMul, reduceLeDiff, reduceEqDiff, t2, t3, t12, t13, t14, wrapN (show k + 1 < 2 ^ 63 by omega)]
    refine ⟨_, ?_, k + 1, _, g', by omega, rfl, rfl, hf.swap' e0 (by simp), rfl⟩
    omega
  · have e3 : ¬ (k : Int) < H.picks.length := by omega
    have e4 : k = H.picks.length := by omega
    simp only [wset, hset, dset, bset, reduceAdd, reduceMul, reduceLeDiff, reduceEqDiff, t2, t3, t12, t13, t14, e3, decide_false, if_true, hfr.isSl.one]
    rw [e4, List.take_length] at hfr
    exact ⟨_, rfl, (hfr.swap' (A := h ++ [ABlk.cells [AV.str H.name, AV.int IntKind.i64 H.err, s] true false] ++ [ABlk.cells [AV.str [], AV.int IntKind.i64 0, AV.nilSlice] true false] ++ [ABlk.cells [AV.str H.name, AV.int IntKind.i64 H.err, out] true false]) (by simp) (by simp)).low (by omega)⟩
theorem r69 {A B : Hor} {sa sb : AV} (ha : HorOk h A sa) (hb : HorOk h B sb) : RCall P 69 [horA A sa, horA B sb] h (fun v _ => v = .bool (sameS A B)) := by
  refine .of T.mix T.c69 ?_
  unfold fn69
  simp only [wset, hset, dset, bset, reduceAdd, reduceMul, reduceLeDiff, reduceEqDiff, ha.sl.one, hb.sl.one, ha.sl.lenm, hb.sl.lenm]
  by_cases hn : A.name = B.name
  case neg =>
    rw [show decide (A.name ≠ B.name) = true from by simp [hn], show sameS A B = false from by simp [sameS, hn]]
    simp only [wset, hset, dset, bset, reduceAdd, reduceMul, reduceLeDiff, reduceEqDiff]
  rw [show decide (A.name ≠ B.name) = false from by simp [hn]]
  by_cases he : A.err = B.err
  case neg =>
    simp only [wset, hset, dset, bset, reduceAdd, reduceMul, reduceLeDiff, reduceEqDiff, show decide (A.err ≠ B.err) = true from by simp [he]]
    rw [show sameS A B = false from by simp [sameS, he]]
  by_cases hp : A.picks.length = B.picks.length
  case neg =>
    simp only [wset, hset, dset, bset, reduceAdd, reduceMul, reduceLeDiff, reduceEqDiff, ha.sl.lenm, hb.sl.lenm, show decide (A.err ≠ B.err) = false from by simp [he], show decide ((A.picks.length : Int) ≠ (B.picks.length : Int)) = true from by simp; omega]
    rw [show sameS A B = false from by simp [sameS]; intro _ _ e; exact hp (by rw [e])]
  simp only [wset, hset, dset, bset, reduceAdd, reduceMul, reduceLeDiff, reduceEqDiff, ha.sl.lenm, hb.sl.lenm, show decide (A.err ≠ B.err) = false from by simp [he], show decide ((A.picks.length : Int) ≠ (B.picks.length : Int)) = false from by simp; omega]
  have hs : sameS A B = decide (A.picks = B.picks) := by simp [sameS, hn, he]
  rw [hs]
  refine WL.inv T.mix (fun n ts h' => ∃ k : Nat, k ≤ A.picks.length ∧ n = A.picks.length - k ∧ h' = h ++ [ABlk.cells [AV.str A.name, AV.int IntKind.i64 A.err, sa] true false] ++ [ABlk.cells [AV.str B.name, AV.int IntKind.i64 B.err, sb] true false] ∧ decide (A.picks = B.picks) = decide (A.picks.drop k = B.picks.drop k) ∧ ts.length = 45 ∧ slot ts 2 = .ptr h.length 0 ∧ slot ts 3 = .ptr (h ++ [ABlk.cells [AV.str A.name, AV.int IntKind.i64 A.err, sa] true false]).length 0 ∧ slot ts 5 = .int .i64 k) A.picks.length
    ⟨0, by omega, rfl, rfl, rfl, rfl, rfl, rfl, rfl⟩ ?_
  rintro _ ts _ ⟨k, hk, rfl, rfl, hi, hlen, t2, t3, t5⟩
  rw [expl ts 45 hlen]
  by_cases hlt : k < A.picks.length
  · have hltb : k < B.picks.length := by omega
    have e3 : (k : Int) < A.picks.length := by omega
    rw [drop_eq_step hlt hltb] at hi
    simp only [wset, hset, dset, bset, reduceAdd, reduceMul, reduceLeDiff, reduceEqDiff, t2, t3, t5, ha.sl.lenm, e3, decide_true, ha.sl.ixm hlt, ha.sl.ldm hlt, hb.sl.ixm hltb, hb.sl.ldm hltb, pk_eq]
    cases hq : decide (A.picks[k] = B.picks[k]) with
    | false =>
      rw [hq, Bool.false_and] at hi
      simp only [wset, hset, dset, bset, reduceAdd, reduceMul, reduceLeDiff, reduceEqDiff, Bool.not_false]
      rw [hi]
    | true =>
      rw [hq, Bool.true_and] at hi
      simp only [wset, hset, dset, bset, reduceAdd, reduceMul, reduceLeDiff, reduceEqDiff, Bool.not_true, t5, wrapN (show k + 1 < 2 ^ 63 by have := ha.len; omega)]
      refine ⟨_, ?_, k + 1, by omega, rfl, hi, rfl⟩
      omega
  · have e3 : ¬ (k : Int) < A.picks.length := by omega
    have e4 : k = A.picks.length := by omega
    have e5 : k = B.picks.length := by omega
    simp only [wset, hset, dset, bset, reduceAdd, reduceMul, reduceLeDiff, reduceEqDiff, t2, t3, t5, ha.sl.lenm, e3, decide_false, if_true]
    rw [hi, e4, List.drop_length, ← e4, e5, List.drop_length]; rfl
end
end Go.Abs
namespace Go.Abs
def mix {α : Type} (f : α → α) (L : List α) (k : Nat) : List α := (L.take k).map f ++ L.drop k
section
variable {P : Program} (T : Tbl P) {h : AHeap}
include T
end
end Go.Abs
namespace Go.Abs
section
variable {P : Program} {ro : Option Nat → Prop} {ks : List Kt} {ts : TS} {Q : Ex → TS → AHeap → Prop} {d : Option Nat} {l : List IOp}
end
section
variable {P : Program} (T : Tbl P) {h : AHeap}
include T
end
end Go.Abs
namespace Go.Abs
theorem pset :
    (∀ {ts : TS} {i j : Nat} {v : AV} (_ : (i = j) = False), slot (ts.set i v) j = slot ts j) ∧
    (∀ {ts : TS} {i : Nat} {v : AV} (_ : i + 1 ≤ ts.length), slot (ts.set i v) i = v) ∧
    (∀ {ts : TS} {i : Nat} {X : Prop} (_ : i + 1 ≤ ts.length), inS ts[i]? X = X) ∧
    (∀ {ts : TS} {i : Nat} {v : AV}, (ts.set i v).length = ts.length) := by
  refine ⟨fun {ts i j v} h => ?_, fun {ts i v} h => ?_, fun {ts i X} h => by rw [List.getElem?_eq_getElem h]; rfl, fun {ts i v} => List.length_set⟩
  · have hne : i ≠ j := fun e => by rw [← h]; exact e
    unfold slot
    rw [List.getD, List.getD, List.getElem?_set_ne hne]
  · unfold slot
    rw [List.getD, List.getElem?_set_self h]; rfl
end Go.Abs
namespace Go.Abs
structure Xtn (P : Program) : Prop where
  ib : ∀ (args : Array Value) (w : World), (callFunc 231 args).run P w = ((Extern.BytealgIndexByte.indexByte args).run P w).andThen fun v w' => .ok (.value v) w'
  ct : ∀ (args : Array Value) (w : World), (callFunc 246 args).run P w = ((Extern.BytealgCount.count args).run P w).andThen fun v w' => .ok (.value v) w'
def strRow (x : List UInt8) : List AV := [.str x]
theorem u8_nat (c : UInt8) : (c.toNat : Int).toNat.toUInt8 = c := by simp
theorem sls_hi {s : List UInt8} {n : Nat} {kk : IntKind} (hn : n ≤ s.length) : slsF (.str s) none (some (.int kk (n : Int))) = some (.str (s.take n)) := by
  simp only [slsF, bnds_hi hn, List.drop_zero, Nat.sub_zero]
theorem sls_lo {s : List UInt8} {n : Nat} {kk : IntKind} (hn : n ≤ s.length) : slsF (.str s) (some (.int kk (n : Int))) none = some (.str (s.drop n)) := by
  simp only [slsF, bnds_lo hn]
  rw [List.take_of_length_le (by simp)]
theorem sls_hi' {p r : List UInt8} {kk : IntKind} : slsF (.str (p ++ r)) none (some (.int kk (p.length : Int))) = some (.str p) := by
  rw [sls_hi (by simp)]; simp
theorem sls_lo' {p r : List UInt8} {c : UInt8} {kk : IntKind} : slsF (.str (p ++ c :: r)) (some (.int kk ((p.length + 1 : Nat) : Int))) none = some (.str r) := by
  rw [sls_lo (by simp)]; simp
theorem sls_hi2 {p r : List UInt8} {c : UInt8} {kk : IntKind} : slsF (.str (p ++ c :: r)) none (some (.int kk ((p.length + 1 : Nat) : Int))) = some (.str (p ++ [c])) := by
  rw [sls_hi (by simp)]
  rw [show p ++ c :: r = (p ++ [c]) ++ r by simp, List.take_left' (by simp)]
theorem set_rep {α : Type} {don : List α} {z q : α} {m k : Nat} (hk : don.length = k) (hm : 0 < m) : (don ++ List.replicate m z).set k q = (don ++ [q]) ++ List.replicate (m - 1) z := by
  subst hk
  obtain ⟨n, rfl⟩ : ∃ n, m = n + 1 := ⟨m - 1, by omega⟩
  rw [List.replicate_succ, List.set_append_right _ _ (Nat.le_refl _), Nat.sub_self]
  simp
section
variable {P : Program} (X : Xtn P) {h : AHeap}
include X
theorem v_ib (s : List UInt8) (c : UInt8) : VCall P (.func (.func 231) [] []) [.str s, .int .u8 c.toNat] h (fun v h' => v = .int .i64 (Lib.indexByte s c) ∧ h' = h) := by
  refine ⟨_, [], ?_, rfl, by simp⟩
  rw [List.append_nil]
  intro m w cv vs hr hf hargs
  rw [VR] at hf
  obtain ⟨f', a', c', rfl, hfn, ha, hc⟩ := hf
  simp only [FnR] at hfn
  subst hfn
  rw [VRs_nil] at ha hc
  subst ha; subst hc
  obtain ⟨v1, vs1, rfl, h1, hargs⟩ := VRs_cons.1 hargs
  obtain ⟨v2, vs2, rfl, h2, hargs⟩ := VRs_cons.1 hargs
  rw [VRs_nil] at hargs
  subst hargs
  have h1 : v1 = .string ⟨⟨s⟩⟩ := h1
  have h2 : v2 = .int .u8 (c.toNat : Int) := h2
  subst h1; subst h2
  refine ⟨_, fun w => rfl, ?_⟩
  simp only [invoke]
  rw [X.ib]
  have e := Lib.run_indexByteString (P := P) ⟨⟨s⟩⟩ (c.toNat : Int) w
  rw [u8_nat] at e
  have e' : (Extern.BytealgIndexByte.indexByte (#[] ++ #[.string ⟨⟨s⟩⟩, .int .u8 (c.toNat : Int)] ++ #[])).run P w = .ok (.int .i64 (Lib.indexByte s c)) w := by simpa using e
  have e2 : (#[] ++ (⟨[.string ⟨⟨s⟩⟩, .int .u8 (c.toNat : Int)]⟩ : Array Value) ++ #[]) = #[] ++ #[.string ⟨⟨s⟩⟩, .int .u8 (c.toNat : Int)] ++ #[] := rfl
  simp only [e2, e', Result.andThen]
  exact ⟨_, m, rfl, rfl, hr, Grow.refl m h w hr.dom⟩
theorem v_ct (s : List UInt8) (c : UInt8) : VCall P (.func (.func 246) [] []) [.str s, .int .u8 c.toNat] h (fun v h' => v = .int .i64 (s.count c : Nat) ∧ h' = h) := by
  refine ⟨_, [], ?_, rfl, by simp⟩
  rw [List.append_nil]
  intro m w cv vs hr hf hargs
  rw [VR] at hf
  obtain ⟨f', a', c', rfl, hfn, ha, hc⟩ := hf
  simp only [FnR] at hfn
  subst hfn
  rw [VRs_nil] at ha hc
  subst ha; subst hc
  obtain ⟨v1, vs1, rfl, h1, hargs⟩ := VRs_cons.1 hargs
  obtain ⟨v2, vs2, rfl, h2, hargs⟩ := VRs_cons.1 hargs
  rw [VRs_nil] at hargs
  subst hargs
  have h1 : v1 = .string ⟨⟨s⟩⟩ := h1
  have h2 : v2 = .int .u8 (c.toNat : Int) := h2
  subst h1; subst h2
  refine ⟨_, fun w => rfl, ?_⟩
  simp only [invoke]
  rw [X.ct]
  have e := Lib.run_countString (P := P) ⟨⟨s⟩⟩ (c.toNat : Int) w
  rw [u8_nat] at e
  have e' : (Extern.BytealgCount.count (#[] ++ #[.string ⟨⟨s⟩⟩, .int .u8 (c.toNat : Int)] ++ #[])).run P w = .ok (.int .i64 (s.count c : Nat)) w := by simpa [Lib.countByte] using e
  have e2 : (#[] ++ (⟨[.string ⟨⟨s⟩⟩, .int .u8 (c.toNat : Int)]⟩ : Array Value) ++ #[]) = #[] ++ #[.string ⟨⟨s⟩⟩, .int .u8 (c.toNat : Int)] ++ #[] := rfl
  simp only [e2, e', Result.andThen]
  exact ⟨_, m, rfl, rfl, hr, Grow.refl m h w hr.dom⟩
end
attribute [local irreducible] WP WC WE WB WR WF WL WG WRg
section
variable {P : Program} (T : Tbl P) (X : Xtn P) {h : AHeap}
include T X
theorem r210 (s : List UInt8) (c : UInt8) : RCall P 210 [.str s, .int .u8 c.toNat] h (fun v _ => v = .int .i64 (Lib.indexByte s c)) := by
  refine .of T.mix T.c210 ?_
  unfold fn210
  simp only [wset, hset, dset, bset, reduceAdd, reduceMul, reduceLeDiff, reduceEqDiff]
  refine WF.val (v_ib X s c) ?_
  rintro _ g ⟨rfl, hg⟩
  simp only [wset, hset, dset, bset, reduceAdd, reduceMul, reduceLeDiff, reduceEqDiff]
theorem r192 (s : List UInt8) (c : UInt8) : RCall P 192 [.str s, .int .u8 c.toNat] h (fun v _ => v = .int .i64 (Lib.indexByte s c)) := by
  refine .of T.mix T.c192 ?_
  unfold fn192
  simp only [wset, hset, dset, bset, reduceAdd, reduceMul, reduceLeDiff, reduceEqDiff]
  refine WF.res T.c210 (r210 T X s c) ?_
  rintro _ g rfl
  simp only [wset, hset, dset, bset, reduceAdd, reduceMul, reduceLeDiff, reduceEqDiff]
theorem r233 (s : List UInt8) (c : UInt8) : RCall P 233 [.str s, .str [c]] h (fun v _ => v = .int .i64 (s.count c : Nat)) := by
  refine .of T.mix T.c233 ?_
  unfold fn233
  simp only [wset, hset, dset, bset, reduceAdd, reduceMul, reduceLeDiff, reduceEqDiff, List.length_singleton, show decide (((1 : Nat) : Int) = 0) = false from rfl, show decide (((1 : Nat) : Int) = 1) = true from rfl, ixs_0]
  refine WF.val (v_ct X s c) ?_
  rintro _ g ⟨rfl, hg⟩
  simp only [wset, hset, dset, bset, reduceAdd, reduceMul, reduceLeDiff, reduceEqDiff]
theorem r247 (s : List UInt8) (c : UInt8) : RCall P 247 [.str s, .str [c]] h (fun v _ => v = .int .i64 (Lib.indexByte s c)) := by
  refine .of T.mix T.c247 ?_
  unfold fn247
  by_cases hs : [c] = s
  · have d1 : decide ([c] = s) = true := decide_eq_true hs
    have e : Lib.indexByte s c = 0 := by rw [← hs]; simp [Lib.indexByte]
    simp only [wset, hset, dset, bset, reduceAdd, reduceMul, reduceLeDiff, reduceEqDiff, List.length_singleton, show decide (((1 : Nat) : Int) = 0) = false from rfl, d1, e]
  · have d1 : decide ([c] = s) = false := decide_eq_false hs
    simp only [wset, hset, dset, bset, reduceAdd, reduceMul, reduceLeDiff, reduceEqDiff, List.length_singleton, show decide (((1 : Nat) : Int) = 0) = false from rfl, show decide (((1 : Nat) : Int) = 1) = true from rfl, d1, ixs_0]
    refine WF.res T.c210 (r210 T X s c) ?_
    rintro _ g rfl
    simp only [wset, hset, dset, bset, reduceAdd, reduceMul, reduceLeDiff, reduceEqDiff]
theorem r234 (s : List UInt8) (c : UInt8) : RCall P 234 [.str s, .str [c]] h (fun v _ => v = .int .i64 (Lib.indexByte s c)) := by
  refine .of T.mix T.c234 ?_
  unfold fn234
  simp only [wset, hset, dset, bset, reduceAdd, reduceMul, reduceLeDiff, reduceEqDiff]
  refine WF.res T.c247 (r247 T X s c) ?_
  rintro _ g rfl
  simp only [wset, hset, dset, bset, reduceAdd, reduceMul, reduceLeDiff, reduceEqDiff]
set_option maxRecDepth 10000 in
set_option maxHeartbeats 1000000 in
theorem r212 (s : List UInt8) (c : UInt8) (hs : s.length ≤ 2 ^ 40) : RCall P 212 [.str s, .str [c], .int .i64 0, .int .i64 (-1)] h (fun v h' => IsSl h' v 1 ((splitB c s).map strRow)) := by
  refine .of T.mix T.c212 ?_
  obtain ⟨ts, hts⟩ : ∃ ts, ts = startTS 66 [.str s, .str [c], .int .i64 0, .int .i64 (-1)] := ⟨_, rfl⟩
  have hlen : ts.length = 66 := by rw [hts]; rfl
  have t0 : slot ts 0 = .str s := by rw [hts]; rfl
  have t1 : slot ts 1 = .str [c] := by rw [hts]; rfl
  have t2 : slot ts 2 = .int .i64 0 := by rw [hts]; rfl
  have t3 : slot ts 3 = .int .i64 (-1) := by rw [hts]; rfl
  unfold fn212
  show WC P inFn _ [] (startTS 66 [.str s, .str [c], .int .i64 0, .int .i64 (-1)]) h _
  rw [← hts]
  clear hts
  have hcnt : s.count c ≤ s.length := List.count_le_length
  have w1 : IntKind.i64.wrap ((s.count c : Int) + 1) = ((s.count c + 1 : Nat) : Int) := by rw [wrap_in (by omega) (by omega)]; omega
  have w2 : IntKind.i64.wrap ((s.length : Int) + 1) = ((s.length + 1 : Nat) : Int) := by rw [wrap_in (by omega) (by omega)]; omega
  have e1 : min ((s.count c + 1 : Nat) : Int) ((s.length + 1 : Nat) : Int) = ((s.count c + 1 : Nat) : Int) := by omega
  have w3 : IntKind.i64.wrap (((s.count c + 1 : Nat) : Int) - 1) = ((s.count c : Nat) : Int) := by rw [wrap_in (by omega) (by omega)]; omega
  have dn : decide ([c] = ([] : List UInt8)) = false := decide_eq_false (by simp)
  have d1 : decide ((-1 : Int) = 0) = false := rfl
  have d2 : decide (-1 < (0 : Int)) = true := rfl
  repeat (first | simp (maxSteps := 1000000) only [wset, hset, dset, bset, reduceAdd, reduceMul, reduceLeDiff, reduceEqDiff, pset, hlen, if_false, if_true, t0, t1, t2, t3, dn, d1, d2] | simp (maxSteps := 1000000) (disch := first | (simp only [List.length_append, List.length_cons, List.length_nil] <;> omega) | rfl | omega | fail) only [kset, wset, hset, dset, bset, reduceAdd, reduceMul, reduceLeDiff, reduceEqDiff, pset, hlen, if_false, if_true, t0, t1, t2, t3, dn, d1, d2])
  refine WF.res T.c233 (r233 T X s c) ?_
  rintro _ g1 rfl
  repeat (first | simp (maxSteps := 1000000) only [wset, hset, dset, bset, reduceAdd, reduceMul, reduceLeDiff, reduceEqDiff, pset, hlen, if_false, if_true, t0, t1, t2, t3, w1, w2, e1, w3, mksl_ok (es := 1) (w := 16) (N0 := (h ++ g1).length) (n := s.count c + 1) (z := [AV.str []]) (k := .i64) (k' := .i64) (by omega) (by omega)] | simp (maxSteps := 1000000) (disch := first | (simp only [List.length_append, List.length_cons, List.length_nil] <;> omega) | rfl | omega | fail) only [kset, wset, hset, dset, bset, reduceAdd, reduceMul, reduceLeDiff, reduceEqDiff, pset, hlen, if_false, if_true, t0, t1, t2, t3, w1, w2, e1, w3, mksl_ok (es := 1) (w := 16) (N0 := (h ++ g1).length) (n := s.count c + 1) (z := [AV.str []]) (k := .i64) (k' := .i64) (by omega) (by omega)])
  have hF := Fr.zeros (N := h.length) (n := s.count c + 1) (h := h ++ g1) (z := [AV.str []]) (es := 1) (by simp) rfl
  obtain ⟨sv, hsv⟩ : ∃ sv, sv = AV.slice (h ++ g1).length 0 (s.count c + 1) 1 := ⟨_, rfl⟩
  rw [← hsv] at hF ⊢
  have er : List.replicate (s.count c + 1) [AV.str []] = (List.replicate (s.count c + 1) ([] : List UInt8)).map strRow := by simp [strRow]
  rw [er, List.append_assoc] at hF
  rw [List.append_assoc]
  refine WL.inv T.mix (fun n ts' h' => ∃ (k : Nat) (don : List (List UInt8)) (q : List UInt8) (g' : AHeap), don.length = k ∧ splitB c s = don ++ splitB c q ∧ k + q.count c = s.count c ∧ n = s.count c - k ∧ h' = h ++ g' ∧ Fr h.length h' sv 1 ((don ++ List.replicate (s.count c + 1 - k) ([] : List UInt8)).map strRow) ∧ ts'.length = 66 ∧ slot ts' 0 = .str q ∧ slot ts' 1 = .str [c] ∧ slot ts' 2 = .int .i64 0 ∧ slot ts' 3 = .int .i64 ((s.count c : Nat) : Int) ∧ slot ts' 9 = sv ∧ slot ts' 10 = .int .i64 k) (s.count c)
    ⟨0, [], s, _, rfl, rfl, by omega, rfl, rfl, hF, (by simp only [wset, hset, dset, bset, reduceAdd, reduceMul, reduceLeDiff, reduceEqDiff, pset, hlen, if_false, if_true, t0]), (by simp only [wset, hset, dset, bset, reduceAdd, reduceMul, reduceLeDiff, reduceEqDiff, pset, hlen, if_false, if_true, t0]), (by simp only [wset, hset, dset, bset, reduceAdd, reduceMul, reduceLeDiff, reduceEqDiff, pset, hlen, if_false, if_true, t1]), (by simp only [wset, hset, dset, bset, reduceAdd, reduceMul, reduceLeDiff, reduceEqDiff, pset, hlen, if_false, if_true, t2]), (by simp only [wset, hset, dset, bset, reduceAdd, reduceMul, reduceLeDiff, reduceEqDiff, pset, hlen, if_false, if_true, t0]), (by simp only [wset, hset, dset, bset, reduceAdd, reduceMul, reduceLeDiff, reduceEqDiff, pset, hlen, if_false, if_true, t0]), (by simp only [wset, hset, dset, bset, reduceAdd, reduceMul, reduceLeDiff, reduceEqDiff, pset, hlen, if_false, if_true]; rfl)⟩ ?_
  rintro _ ts' _ ⟨k, don, q, g', hdl, hsp, hkc, rfl, rfl, hF', hlen', u0, u1, u2, u3, u9, u10⟩
  clear hlen t0 t1 t2 t3
  have hlen := hlen'
  have hkl : k < (don ++ List.replicate (s.count c + 1 - k) ([] : List UInt8)).length := by simp; omega
  have hql : q.length ≤ s.length := by
    have e1 := joinB_split (c := c) (s := s)
    have : ∀ (d : List (List UInt8)) (z : List (List UInt8)), (joinB c z).length ≤ (joinB c (d ++ z)).length := by
      intro d
      induction d with
      | nil => intro z; exact Nat.le_refl _
      | cons x d ih =>
        intro z
        by_cases hz : d ++ z = []
        · have : z = [] := by simp at hz; exact hz.2
          subst this; simp [joinB]
        · rw [List.cons_append, joinB_cons hz]
          have := ih z
          simp; omega
    have := this don (splitB c q)
    rw [← hsp, joinB_split, joinB_split] at this
    exact this
  rcases ix_cases c q with ⟨hno, hix⟩ | ⟨p, q', hp, hq, hix⟩
  · have hc0 : q.count c = 0 := List.count_eq_zero.2 hno
    have e3 : ¬ (k : Int) < ((s.count c : Nat) : Int) := by omega
    have ek : s.count c + 1 - k = 1 := by omega
    have ixk := hF'.isSl.ixm (kk := .i64) hkl
    have w4 : IntKind.i64.wrap ((k : Int) + 1) = ((k + 1 : Nat) : Int) := by rw [wrap_in (by omega) (by omega)]; omega
    repeat (first | simp (maxSteps := 1000000) only [wset, hset, dset, bset, reduceAdd, reduceMul, reduceLeDiff, reduceEqDiff, pset, hlen, if_false, if_true, u0, u1, u2, u3, u9, u10, e3, decide_false, ixk] | simp (maxSteps := 1000000) (disch := first | (simp only [List.length_append, List.length_cons, List.length_nil] <;> omega) | rfl | omega | fail) only [kset, wset, hset, dset, bset, reduceAdd, reduceMul, reduceLeDiff, reduceEqDiff, pset, hlen, if_false, if_true, u0, u1, u2, u3, u9, u10, e3, decide_false, ixk])
    refine WR.put1 (h0 := h) (off := 0) (x' := q) hF' hkl (by decide) rfl (by simp [strRow]) ?_
    intro g3 hl3 hF3 _
    rw [set_rep hdl (by omega), ek] at hF3
    simp only [Nat.sub_self, List.replicate_zero, List.append_nil] at hF3
    have esp : don ++ [q] = splitB c s := by rw [hsp, splitB_no hno]
    rw [esp] at hF3
    have hbn : bnds none (some (AV.int .i64 ((k + 1 : Nat) : Int))) (splitB c s).length = some (0, k + 1) := bnds_hi (by rw [← esp]; simp; omega)
    obtain ⟨s', es', hs'⟩ := hF3.isSl.slm hbn
    repeat (first | simp (maxSteps := 1000000) only [wset, hset, dset, bset, reduceAdd, reduceMul, reduceLeDiff, reduceEqDiff, pset, hlen, if_false, if_true, u0, u1, u2, u3, u9, u10, w4, es'] | simp (maxSteps := 1000000) (disch := first | (simp only [List.length_append, List.length_cons, List.length_nil] <;> omega) | rfl | omega | fail) only [kset, wset, hset, dset, bset, reduceAdd, reduceMul, reduceLeDiff, reduceEqDiff, pset, hlen, if_false, if_true, u0, u1, u2, u3, u9, u10, w4, es'])
    have et : List.take (k + 1 - 0) (List.drop 0 (splitB c s)) = splitB c s := by
      rw [List.drop_zero, List.take_of_length_le (by rw [← esp]; simp; omega)]
    rw [et] at hs'
    exact hs'
  · have hcq : q.count c = q'.count c + 1 := by rw [hq, List.count_append, List.count_eq_zero.2 hp, List.count_cons_self]; omega
    have e3 : (k : Int) < ((s.count c : Nat) : Int) := by omega
    repeat (first | simp (maxSteps := 1000000) only [wset, hset, dset, bset, reduceAdd, reduceMul, reduceLeDiff, reduceEqDiff, pset, hlen, if_false, if_true, u0, u1, u2, u3, u9, u10, e3, decide_true] | simp (maxSteps := 1000000) (disch := first | (simp only [List.length_append, List.length_cons, List.length_nil] <;> omega) | rfl | omega | fail) only [kset, wset, hset, dset, bset, reduceAdd, reduceMul, reduceLeDiff, reduceEqDiff, pset, hlen, if_false, if_true, u0, u1, u2, u3, u9, u10, e3, decide_true])
    refine WF.res T.c234 (r234 T X q c) ?_
    rintro _ g2 rfl
    have ixk := (hF'.app g2).isSl.ixm (kk := .i64) hkl
    have w4 : IntKind.i64.wrap ((k : Int) + 1) = ((k + 1 : Nat) : Int) := by rw [wrap_in (by omega) (by omega)]; omega
    have hpl : p.length < q.length := by rw [hq]; simp
    have w5 : IntKind.i64.wrap ((p.length : Int) + 0) = (p.length : Int) := by rw [wrap_in (by omega) (by omega)]; omega
    have w6 : IntKind.i64.wrap ((p.length : Int) + ((1 : Nat) : Int)) = ((p.length + 1 : Nat) : Int) := by rw [wrap_in (by omega) (by omega)]; omega
    have dp : decide ((p.length : Int) < 0) = false := decide_eq_false (by omega)
    have hF2 := hF'.app g2
    rw [List.append_assoc] at hF2 ⊢
    rw [hix]
    subst hq
    repeat (first | simp (maxSteps := 1000000) only [wset, hset, dset, bset, reduceAdd, reduceMul, reduceLeDiff, reduceEqDiff, pset, hlen, if_false, if_true, u0, u1, u2, u3, u9, u10, dp, w5, ixk, sls_hi', List.length_singleton, w6, sls_lo'] | simp (maxSteps := 1000000) (disch := first | (simp only [List.length_append, List.length_cons, List.length_nil] <;> omega) | rfl | omega | fail) only [kset, wset, hset, dset, bset, reduceAdd, reduceMul, reduceLeDiff, reduceEqDiff, pset, hlen, if_false, if_true, u0, u1, u2, u3, u9, u10, dp, w5, ixk, sls_hi', List.length_singleton, w6, sls_lo'])
    refine WR.put1 (h0 := h) (off := 0) (x' := p) hF2 hkl (by decide) rfl (by simp [strRow]) ?_
    intro g3 hl3 hF3 _
    rw [set_rep hdl (by omega)] at hF3
    repeat (first | simp (maxSteps := 1000000) only [wset, hset, dset, bset, reduceAdd, reduceMul, reduceLeDiff, reduceEqDiff, pset, hlen, if_false, if_true, u0, u1, u2, u3, u9, u10, List.length_singleton, w6, sls_lo', w4] | simp (maxSteps := 1000000) (disch := first | (simp only [List.length_append, List.length_cons, List.length_nil] <;> omega) | rfl | omega | fail) only [kset, wset, hset, dset, bset, reduceAdd, reduceMul, reduceLeDiff, reduceEqDiff, pset, hlen, if_false, if_true, u0, u1, u2, u3, u9, u10, List.length_singleton, w6, sls_lo', w4])
    have em : s.count c + 1 - k - 1 = s.count c + 1 - (k + 1) := by omega
    rw [em] at hF3
    exact ⟨s.count c - (k + 1), by omega, k + 1, don ++ [p], q', g3, by simp [hdl], by rw [hsp, splitB_app hp]; simp, by omega, rfl, rfl, hF3, rfl, rfl⟩
theorem r194 (s : List UInt8) (c : UInt8) (hs : s.length ≤ 2 ^ 40) : RCall P 194 [.str s, .str [c]] h (fun v h' => IsSl h' v 1 ((splitB c s).map strRow)) := by
  refine .of T.mix T.c194 ?_
  unfold fn194
  simp only [wset, hset, dset, bset, reduceAdd, reduceMul, reduceLeDiff, reduceEqDiff]
  refine WF.res T.c212 (r212 T X s c hs) ?_
  intro v g hv
  simp only [wset, hset, dset, bset, reduceAdd, reduceMul, reduceLeDiff, reduceEqDiff]
  exact hv
def cutB (c : UInt8) (s : List UInt8) : List UInt8 × Bool := if s.getLast? = some c then (s.dropLast, true) else (s, false)
theorem cut_app {c : UInt8} {p : List UInt8} : cutB c (p ++ [c]) = (p, true) := by simp [cutB]
theorem cut_no {c : UInt8} {p : List UInt8} (h : c ∉ p) : cutB c p = (p, false) := by
  unfold cutB
  rw [if_neg]
  intro e
  exact h (List.mem_of_getLast? e)
omit X in
theorem r211 (s : List UInt8) (c : UInt8) (hs : s.length ≤ 2 ^ 40) : RCall P 211 [.str s, .str [c]] h (fun v _ => v = .bool (decide (s.getLast? = some c))) := by
  refine .of T.mix T.c211 ?_
  unfold fn211
  by_cases h0 : s = []
  · subst h0
    simp only [wset, hset, dset, bset, reduceAdd, reduceMul, reduceLeDiff, reduceEqDiff, List.length_singleton, List.length_nil, show decide (((1 : Nat) : Int) ≤ ((0 : Nat) : Int)) = false from rfl]
    rfl
  · obtain ⟨p, d, rfl⟩ : ∃ p d, s = p ++ [d] := ⟨s.dropLast, s.getLast h0, (List.dropLast_concat_getLast h0).symm⟩
    have e1 : decide (((1 : Nat) : Int) ≤ ((p ++ [d]).length : Int)) = true := decide_eq_true (by simp; omega)
    have w1 : IntKind.i64.wrap (((p ++ [d]).length : Int) - ((1 : Nat) : Int)) = ((p.length : Nat) : Int) := by
      have el : (p ++ [d]).length = p.length + 1 := by simp
      rw [el] at hs ⊢
      rw [wrap_in (by omega) (by omega)]; omega
    have e2 : slsF (.str (p ++ [d])) (some (.int .i64 (p.length : Int))) none = some (.str [d]) := by rw [sls_lo (by simp)]; simp
    simp only [wset, hset, dset, bset, reduceAdd, reduceMul, reduceLeDiff, reduceEqDiff, List.length_singleton, e1, w1, e2]
    by_cases e : d = c
    · subst e; simp
    · simp [e]
omit X in
theorem r193 (s : List UInt8) (c : UInt8) (hs : s.length ≤ 2 ^ 40) : RCall P 193 [.str s, .str [c]] h (fun v _ => v = .tup [.str (cutB c s).1, .bool (cutB c s).2]) := by
  refine .of T.mix T.c193 ?_
  unfold fn193
  simp only [wset, hset, dset, bset, reduceAdd, reduceMul, reduceLeDiff, reduceEqDiff]
  refine WF.res T.c211 (r211 T s c hs) ?_
  rintro _ g rfl
  by_cases e : s.getLast? = some c
  · have hne : s ≠ [] := fun h0 => by rw [h0] at e; cases e
    have hl : 0 < s.length := List.length_pos_iff.2 hne
    have w1 : IntKind.i64.wrap ((s.length : Int) - ((1 : Nat) : Int)) = ((s.length - 1 : Nat) : Int) := by rw [wrap_in (by omega) (by omega)]; omega
    have e2 : slsF (.str s) none (some (.int .i64 ((s.length - 1 : Nat) : Int))) = some (.str s.dropLast) := by rw [sls_hi (by omega), List.dropLast_eq_take]
    simp only [wset, hset, dset, bset, reduceAdd, reduceMul, reduceLeDiff, reduceEqDiff, e, decide_true, Bool.not_true, List.length_singleton, w1, e2, cutB, if_true]
  · simp only [wset, hset, dset, bset, reduceAdd, reduceMul, reduceLeDiff, reduceEqDiff, e, decide_false, Bool.not_false, cutB, if_false]
omit X in
theorem r153 (s : List UInt8) (c : UInt8) (hs : s.length ≤ 2 ^ 40) : RCall P 153 [.str s, .str [c]] h (fun v _ => v = .tup [.str (cutB c s).1, .bool (cutB c s).2]) := by
  refine .of T.mix T.c153 ?_
  unfold fn153
  simp only [wset, hset, dset, bset, reduceAdd, reduceMul, reduceLeDiff, reduceEqDiff]
  refine WF.res T.c193 (r193 T s c hs) ?_
  rintro _ g rfl
  simp only [wset, hset, dset, bset, reduceAdd, reduceMul, reduceLeDiff, reduceEqDiff]
end
end Go.Abs
namespace Go.Abs
structure HorFr (N : Nat) (h : AHeap) (H : Hor) (s : AV) : Prop where
  fr : Fr N h s 2 (H.picks.map pkRow)
  len : H.picks.length < 2 ^ 63
  nm : H.name.length < 2 ^ 63
theorem HorFr.ok {N : Nat} {h : AHeap} {H : Hor} {s : AV} (o : HorFr N h H s) : HorOk h H s := ⟨o.fr.isSl, o.len, o.nm⟩
theorem HorFr.swap {A B g : AHeap} {H : Hor} {s : AV} (o : HorFr A.length (A ++ g) H s) (hB : B.length = A.length) : HorOk (B ++ g) H s := ⟨(o.fr.swap hB).isSl, o.len, o.nm⟩
section
variable {P : Program} (T : Tbl P) {h : AHeap}
include T
end
end Go.Abs
namespace Go.Abs
section
variable {P : Program} (T : Tbl P) {h : AHeap}
include T
end
end Go.Abs
namespace Go.Abs
theorem WF.valg {P : Program} {ro : Option Nat → Prop} {ks : List Kt} {ts : TS} {h h' : AHeap} {Q : Ex → TS → AHeap → Prop} {fv : AV} {args : List AV} {d : Option Nat} {l : List IOp} {v : AV} (H : SCallV P fv args h v h') (K : WP P ro l ks (put ts d v) h' Q) : WF P ro false fv args d l ks ts h Q :=
  ⟨v, h', H, fun hq => absurd hq (by simp), K⟩
theorem at_swap {A B : AHeap} {K K' : ABlk} {b : Nat} (h : b ≠ A.length) : (A ++ [K] ++ B)[b]? = (A ++ [K'] ++ B)[b]? := by
  by_cases h1 : b < A.length
  · rw [List.append_assoc, List.append_assoc, List.getElem?_append_left h1, List.getElem?_append_left h1]
  · rw [List.getElem?_append_right (by simp; omega), List.getElem?_append_right (by simp; omega)]
    simp
theorem at_mid {A B : AHeap} {K : ABlk} : (A ++ [K] ++ B)[A.length]? = some K := by
  rw [List.append_assoc, List.getElem?_append_right (Nat.le_refl _), Nat.sub_self]; rfl
section
variable {P : Program} (T : Tbl P) {h : AHeap}
include T
end
end Go.Abs
namespace Go.Abs
structure IterS (P : Program) (f : FuncId) (a c : List AV) (L : List (List AV)) (b : Nat) (st : Nat → ABlk) : Prop where
  run : ∀ (l : Nat) (h : AHeap) (J : Nat → AHeap → Prop) (D : AHeap → Prop), (∀ i k g, J i k → J i (k ++ g)) → (∀ i k, J i k → k[b]? = some (st i)) →
    (∀ i (hi : i < L.length) k, J i k → ∃ r k', SCallV P (.func (.yield l) [] []) L[i] (k.set b (st (i + 1))) (.bool r) k' ∧ (if r = true then J (i + 1) k' else D k')) →
    (∀ k, J L.length k → D k) → J 0 h → GCall P f (a ++ [.func (.yield l) [] []] ++ c) h (fun _ k => D k)
section
variable {P : Program} {ks : List Kt} {ts : TS} {h : AHeap} {Q : Ex → TS → AHeap → Prop}
theorem WC.iterS (hmix : P.follows .mixedOrders = true) {f : FuncId} {A : AFunc} {a c : List AV} {L : List (List AV)} {b0 : Nat} {st : Nat → ABlk} {g : Opd} {ps : List Nat} {asg body : ICode} (hA : compileFn P f = some A)
    (hg : val ts g = .func (.func f) a c) (hi : IterS P f a c L b0 st) (hps : ∀ x ∈ L, x.length = ps.length) (I : Nat → AHeap → AHeap → Prop) (Fin : Ex → AHeap → AHeap → Prop)
    (h0 : I 0 h []) (hb : h[b0]? = some (st 0)) (hcl : ∀ i h' g g2, I i h' g → I i h' (g ++ g2)) (hset : ∀ i h' g x, I i h' g → I i (h'.set b0 x) g)
    (step : ∀ i (hi : i < L.length) h' g (R B : ABlk), h'.length = h.length → I i h' g → h'[b0]? = some (st (i + 1)) →
      WC P inRd asg [] (setArgs ts ps L[i]) (h' ++ [R] ++ g) fun e1 ts2 h2 => e1 = .normal ∧ ∃ h1 g1, h2 = h1 ++ [R] ++ g1 ∧ h1.length = h.length ∧
        WC P inRd body [] ts2 (h1 ++ [B] ++ g1) fun e2 _ h4 => ∃ h3 g3, h4 = h3 ++ [B] ++ g3 ∧ h3.length = h.length ∧ (if e2 = .normal then I (i + 1) h3 g3 ∧ h3[b0]? = some (st (i + 1)) else Fin e2 h3 g3))
    (done : ∀ e h' g, h'.length = h.length → (if e = .normal then I L.length h' g else Fin e h' g) → WE P inFn e ks ts (h' ++ [ABlk.dead] ++ g) Q) : WC P inFn (.rangeF g ps asg body) ks ts h Q := by
  have hbl : b0 < h.length := (List.getElem?_eq_some_iff.1 hb).1
  let J : Nat → AHeap → Prop := fun i k => ∃ h' g, k = h' ++ [.loop .ready .normal ts ps asg body] ++ g ∧ h'.length = h.length ∧ I i h' g ∧ h'[b0]? = some (st i)
  let D : AHeap → Prop := fun k => ∃ e h' g st, k = h' ++ [.loop st e ts ps asg body] ++ g ∧ h'.length = h.length ∧ st ≠ .busy ∧ (if e = .normal then I L.length h' g else Fin e h' g)
  obtain ⟨v, h2, hs, e, h', g', sta, rfl, hl, hst, hfin⟩ := hi.run h.length (h ++ [.loop .ready .normal ts ps asg body]) J D
    (fun i k g2 hJ => by obtain ⟨h', g, rfl, h1, h2, h3⟩ := hJ; exact ⟨h', g ++ g2, by rw [List.append_assoc], h1, hcl _ _ _ _ h2, h3⟩)
    (fun i k hJ => by
      obtain ⟨h', g, rfl, h1, h2, h3⟩ := hJ
      rw [List.append_assoc, List.getElem?_append_left (by omega)]; exact h3)
    (fun i hi k hJ => by
      obtain ⟨h', g, rfl, h1, h2, h3⟩ := hJ
      have es : (h' ++ [ABlk.loop .ready .normal ts ps asg body] ++ g).set b0 (st (i + 1)) = h'.set b0 (st (i + 1)) ++ [ABlk.loop .ready .normal ts ps asg body] ++ g := by
        rw [List.append_assoc, List.set_append_left _ _ (by omega), List.append_assoc]
      rw [es]
      have h1' : (h'.set b0 (st (i + 1))).length = h.length := by rw [List.length_set]; exact h1
      obtain ⟨e1, ts2, k2, q1, rfl, h3', g3, rfl, h4, q2⟩ := W.sound hmix (step i hi (h'.set b0 (st (i + 1))) g (.loop .ready .normal ts ps asg body) (.loop .busy .normal ts ps asg body) h1' (hset _ _ _ _ h2) (List.getElem?_set_self (by omega)))
      obtain ⟨e2, ts3, k3, q3, h5, g5, rfl, h6, q4⟩ := W.sound hmix q2
      have hy : SCallV P (.func (.yield h.length) [] []) L[i] (h'.set b0 (st (i + 1)) ++ [.loop .ready .normal ts ps asg body] ++ g) (.bool (decide (e2 = .normal))) (List.set (h5 ++ [ABlk.loop .busy .normal ts ps asg body] ++ g5) h.length (ABlk.loop (if e2 = .normal then .ready else .done) e2 ts ps asg body)) :=
        SCallV.yield (lh_get h1') (hps _ (List.getElem_mem hi)) (fun r => q1 (some r) ⟨r, rfl⟩) (lh_get h4) (fun r => by rw [lh_set h4]; exact q3 (some r) ⟨r, rfl⟩) (lh_get h6)
      rw [lh_set h6] at hy
      refine ⟨decide (e2 = .normal), _, hy, ?_⟩
      by_cases he : e2 = .normal
      · subst he
        rw [if_pos rfl] at q4
        simp only [decide_true, if_true]
        exact ⟨h5, g5, rfl, h6, q4.1, q4.2⟩
      · rw [if_neg he] at q4
        simp only [he, decide_false, Bool.false_eq_true, if_false]
        exact ⟨e2, h5, g5, .done, rfl, h6, by simp, by rw [if_neg he]; exact q4⟩)
    (fun k hJ => by obtain ⟨h', g, rfl, h1, h2, _⟩ := hJ; exact ⟨.normal, h', g, .ready, rfl, h1, by simp, by rw [if_pos rfl]; exact h2⟩)
    ⟨h, [], by rw [List.append_nil], rfl, h0, hb⟩
  refine ⟨e, ts, h' ++ [ABlk.dead] ++ g', fun r hr => ?_, done e h' g' hl hfin⟩
  have : r = none := hr
  subst this
  have := Ev.rangeF (h := h) (ps := ps) (asg := asg) (body := body) hA hg hs (lh_get hl) hst
  rw [lh_set hl] at this
  exact this
end
def lnSt (s : List UInt8) (i : Nat) : ABlk := .cells [.str (((linesB s).drop i).flatten)] true false
attribute [local irreducible] WP WC WE WB WR WF WL WG WRg
section
variable {P : Program} (T : Tbl P) (X : Xtn P) {h : AHeap}
include T
theorem r152 (s : List UInt8) : RCall P 152 [.str s] h (fun v h' => ∃ b, v = .func (.func 191) [] [.ptr b 0] ∧ h.length ≤ b ∧ h'[b]? = some (lnSt s 0)) := by
  refine .of T.mix T.c152 ?_
  unfold fn152
  simp only [wset, hset, dset, bset, reduceAdd, reduceMul, reduceLeDiff, reduceEqDiff]
  exact ⟨h.length, rfl, Nat.le_refl _, by rw [lnSt, List.drop_zero, lines_flat]; exact at_new⟩
include X
set_option maxRecDepth 10000 in
set_option maxHeartbeats 1000000 in
theorem iter_lines {s : List UInt8} (hs : s.length ≤ 2 ^ 40) (b : Nat) : IterS P 191 [] [.ptr b 0] ((linesB s).map strRow) b (lnSt s) := by
  refine ⟨fun l h J D happ hblk hstep hend h0 => GCall.of T.mix T.c191 ?_⟩
  obtain ⟨ts, hts⟩ : ∃ ts, ts = startTS 25 ([] ++ [.func (.yield l) [] []] ++ [.ptr b 0]) := ⟨_, rfl⟩
  have hlen : ts.length = 25 := by rw [hts]; rfl
  have t0 : slot ts 0 = .func (.yield l) [] [] := by rw [hts]; rfl
  have t1 : slot ts 1 = .ptr b 0 := by rw [hts]; rfl
  unfold fn191
  show WC P inFn _ [] (startTS 25 ([] ++ [.func (.yield l) [] []] ++ [.ptr b 0])) h _
  rw [← hts]
  clear hts
  have hfl : ∀ i, (((linesB s).drop i).flatten).length ≤ s.length := fun i => by
    have e := lines_flat (s := s)
    have : (linesB s).flatten.length = ((linesB s).take i).flatten.length + ((linesB s).drop i).flatten.length := by
      rw [← List.length_append, ← List.flatten_append, List.take_append_drop]
    rw [e] at this; omega
  repeat (first | simp (maxSteps := 1000000) only [wset, hset, dset, bset, reduceAdd, reduceMul, reduceLeDiff, reduceEqDiff, pset, hlen, if_false, if_true, ] | simp (maxSteps := 1000000) (disch := first | (simp only [List.length_append, List.length_cons, List.length_nil] <;> omega) | rfl | omega | fail) only [kset, wset, hset, dset, bset, reduceAdd, reduceMul, reduceLeDiff, reduceEqDiff, pset, hlen, if_false, if_true, ])
  refine WL.inv T.mix (fun n ts' h' => ∃ k : Nat, k ≤ (linesB s).length ∧ n = (linesB s).length - k ∧ J k h' ∧ ts'.length = 25 ∧ slot ts' 0 = .func (.yield l) [] [] ∧ slot ts' 1 = .ptr b 0) (linesB s).length
    ⟨0, by omega, rfl, h0, hlen, t0, t1⟩ ?_
  rintro _ ts' h' ⟨k, hk, rfl, hJ, hlen', u0, u1⟩
  clear hlen t0 t1
  have hlen := hlen'
  have hb := hblk k h' hJ
  have l1 : ∀ {n : Option Nat} {o : Nat} {kk : AHeap}, Ext h' kk → loadF n (.ptr b o) (fun z => kk[z]?) = ldB n o (.cells [.str (((linesB s).drop k).flatten)] true false) := fun e => loadF_at (e.some hb)
  have l1' : ∀ {n : Option Nat} {o : Nat}, loadF n (.ptr b o) (fun z => h'[z]?) = ldB n o (.cells [.str (((linesB s).drop k).flatten)] true false) := loadF_at hb
  by_cases hlt : k < (linesB s).length
  · have hx := lines_next hlt
    have hfk := hfl k
    have hi : k < ((linesB s).map strRow).length := by rw [List.length_map]; exact hlt
    have eL : ((linesB s).map strRow)[k] = [.str ((linesB s)[k])] := by rw [List.getElem_map]; rfl
    have eS : lnSt s (k + 1) = .cells [.str (((linesB s).drop (k + 1)).flatten)] true false := rfl
    generalize (linesB s)[k] = line at hx eL
    generalize ((linesB s).drop (k + 1)).flatten = rest' at hx eS
    generalize ((linesB s).drop k).flatten = rest at hx l1 l1' hb hfk
    have st2 : ∀ {x : List UInt8} {g : AHeap}, storeF 1 (.ptr b 0) (.str x) (fun z => (h' ++ g)[z]?) = some (undefA, .set b (.cells [.str x] true false)) := fun {x g} => by
      rw [storeF_at (Ext.some (Ext.app g (Ext.refl h')) hb)]; rfl
    cases hx with
    | @ended p _ hp =>
      have d0 : decide ((0 : Int) < ((p ++ 10 :: rest').length : Int)) = true := decide_eq_true (by simp; omega)
      have hpl : p.length + 1 ≤ (p ++ 10 :: rest').length := by simp
      have w1 : IntKind.i64.wrap ((p.length : Int) + 1) = ((p.length + 1 : Nat) : Int) := by rw [wrap_in (by omega) (by omega)]; omega
      have d1 : decide ((0 : Int) ≤ (p.length : Int)) = true := decide_eq_true (by omega)
      repeat (first | simp (maxSteps := 1000000) only [wset, hset, dset, bset, reduceAdd, reduceMul, reduceLeDiff, reduceEqDiff, pset, hlen, if_false, if_true, u0, u1, l1', d0] | simp (maxSteps := 1000000) (disch := first | (simp only [List.length_append, List.length_cons, List.length_nil] <;> omega) | rfl | omega | fail) only [kset, wset, hset, dset, bset, reduceAdd, reduceMul, reduceLeDiff, reduceEqDiff, pset, hlen, if_false, if_true, u0, u1, l1', d0])
      refine WF.res T.c192 (r192 T X _ 10) ?_
      rintro _ g2 rfl
      rw [ix_app hp]
      repeat (first | simp (maxSteps := 1000000) only [wset, hset, dset, bset, reduceAdd, reduceMul, reduceLeDiff, reduceEqDiff, pset, hlen, if_false, if_true, u0, u1, l1, d1, w1, sls_hi2, sls_lo', st2] | simp (maxSteps := 1000000) (disch := first | (simp only [List.length_append, List.length_cons, List.length_nil] <;> omega) | rfl | omega | fail) only [kset, wset, hset, dset, bset, reduceAdd, reduceMul, reduceLeDiff, reduceEqDiff, pset, hlen, if_false, if_true, u0, u1, l1, d1, w1, sls_hi2, sls_lo', st2])
      obtain ⟨r, k', q1, q2⟩ := hstep k hi (h' ++ g2) (happ _ _ _ hJ)
      rw [eL, eS] at q1
      refine WF.valg q1 ?_
      cases r with
      | true =>
        rw [if_pos rfl] at q2
        repeat (first | simp (maxSteps := 1000000) only [wset, hset, dset, bset, reduceAdd, reduceMul, reduceLeDiff, reduceEqDiff, pset, hlen, if_false, if_true, u0, u1, Bool.not_true] | simp (maxSteps := 1000000) (disch := first | (simp only [List.length_append, List.length_cons, List.length_nil] <;> omega) | rfl | omega | fail) only [kset, wset, hset, dset, bset, reduceAdd, reduceMul, reduceLeDiff, reduceEqDiff, pset, hlen, if_false, if_true, u0, u1, Bool.not_true])
        exact ⟨(linesB s).length - (k + 1), by omega, k + 1, by omega, rfl, q2, trivial⟩
      | false =>
        rw [if_neg (by simp)] at q2
        repeat (first | simp (maxSteps := 1000000) only [wset, hset, dset, bset, reduceAdd, reduceMul, reduceLeDiff, reduceEqDiff, pset, hlen, if_false, if_true, u0, u1, Bool.not_false] | simp (maxSteps := 1000000) (disch := first | (simp only [List.length_append, List.length_cons, List.length_nil] <;> omega) | rfl | omega | fail) only [kset, wset, hset, dset, bset, reduceAdd, reduceMul, reduceLeDiff, reduceEqDiff, pset, hlen, if_false, if_true, u0, u1, Bool.not_false])
        exact q2
    | last hp hn =>
      have d0 : decide ((0 : Int) < (line.length : Int)) = true := decide_eq_true (by have := List.length_pos_iff.2 hn; omega)
      repeat (first | simp (maxSteps := 1000000) only [wset, hset, dset, bset, reduceAdd, reduceMul, reduceLeDiff, reduceEqDiff, pset, hlen, if_false, if_true, u0, u1, l1', d0] | simp (maxSteps := 1000000) (disch := first | (simp only [List.length_append, List.length_cons, List.length_nil] <;> omega) | rfl | omega | fail) only [kset, wset, hset, dset, bset, reduceAdd, reduceMul, reduceLeDiff, reduceEqDiff, pset, hlen, if_false, if_true, u0, u1, l1', d0])
      refine WF.res T.c192 (r192 T X _ 10) ?_
      rintro _ g2 rfl
      rw [ix_no hp]
      repeat (first | simp (maxSteps := 1000000) only [wset, hset, dset, bset, reduceAdd, reduceMul, reduceLeDiff, reduceEqDiff, pset, hlen, if_false, if_true, u0, u1, l1, show decide ((0 : Int) ≤ -1) = false from rfl, st2] | simp (maxSteps := 1000000) (disch := first | (simp only [List.length_append, List.length_cons, List.length_nil] <;> omega) | rfl | omega | fail) only [kset, wset, hset, dset, bset, reduceAdd, reduceMul, reduceLeDiff, reduceEqDiff, pset, hlen, if_false, if_true, u0, u1, l1, show decide ((0 : Int) ≤ -1) = false from rfl, st2])
      obtain ⟨r, k', q1, q2⟩ := hstep k hi (h' ++ g2) (happ _ _ _ hJ)
      rw [eL, eS] at q1
      refine WF.valg q1 ?_
      cases r with
      | true =>
        rw [if_pos rfl] at q2
        repeat (first | simp (maxSteps := 1000000) only [wset, hset, dset, bset, reduceAdd, reduceMul, reduceLeDiff, reduceEqDiff, pset, hlen, if_false, if_true, u0, u1, Bool.not_true] | simp (maxSteps := 1000000) (disch := first | (simp only [List.length_append, List.length_cons, List.length_nil] <;> omega) | rfl | omega | fail) only [kset, wset, hset, dset, bset, reduceAdd, reduceMul, reduceLeDiff, reduceEqDiff, pset, hlen, if_false, if_true, u0, u1, Bool.not_true])
        exact ⟨(linesB s).length - (k + 1), by omega, k + 1, by omega, rfl, q2, trivial⟩
      | false =>
        rw [if_neg (by simp)] at q2
        repeat (first | simp (maxSteps := 1000000) only [wset, hset, dset, bset, reduceAdd, reduceMul, reduceLeDiff, reduceEqDiff, pset, hlen, if_false, if_true, u0, u1, Bool.not_false] | simp (maxSteps := 1000000) (disch := first | (simp only [List.length_append, List.length_cons, List.length_nil] <;> omega) | rfl | omega | fail) only [kset, wset, hset, dset, bset, reduceAdd, reduceMul, reduceLeDiff, reduceEqDiff, pset, hlen, if_false, if_true, u0, u1, Bool.not_false])
        exact q2
  · have ek : k = (linesB s).length := by omega
    have e0 : (((linesB s).drop k).flatten) = [] := by rw [ek, List.drop_length]; rfl
    rw [e0] at l1'
    repeat (first | simp (maxSteps := 1000000) only [wset, hset, dset, bset, reduceAdd, reduceMul, reduceLeDiff, reduceEqDiff, pset, hlen, if_false, if_true, u0, u1, l1', List.length_nil, show decide ((0 : Int) < ((0 : Nat) : Int)) = false from rfl] | simp (maxSteps := 1000000) (disch := first | (simp only [List.length_append, List.length_cons, List.length_nil] <;> omega) | rfl | omega | fail) only [kset, wset, hset, dset, bset, reduceAdd, reduceMul, reduceLeDiff, reduceEqDiff, pset, hlen, if_false, if_true, u0, u1, l1', List.length_nil, show decide ((0 : Int) < ((0 : Nat) : Int)) = false from rfl])
    exact hend _ (by rw [List.length_map, ← ek]; exact hJ)
end
end Go.Abs
namespace Go.Abs
def ICode.tl : ICode → ICode
  | .seq _ b => b
  | c => c
def ICode.hd : ICode → ICode
  | .seq a _ => a
  | c => c
def ICode.dr : Nat → ICode → ICode
  | 0, c => c
  | n + 1, c => c.tl.dr n
def ICode.inn : ICode → ICode
  | .block _ a => a
  | .loop a => a
  | c => c
theorem HorsOk.of_list {h : AHeap} {L L' : List (Hor × AV)} {v : AV} (hm : L'.map (·.1) = L.map (·.1)) (hs : IsSl h v 3 (L'.map horRow)) (he : ∀ x ∈ L', IsSl h x.2 2 (x.1.picks.map pkRow)) (hl : L.length < 2 ^ 63)
    (ha : ∀ x ∈ L, x.1.picks.length < 2 ^ 63 ∧ x.1.name.length < 2 ^ 63) : HorsOk h L' v := by
  refine ⟨hs, ?_, fun x hx => ?_⟩
  · have := congrArg List.length hm; simp at this; omega
  · have : x.1 ∈ L.map (·.1) := by rw [← hm]; exact List.mem_map_of_mem hx
    obtain ⟨y, hy, hxy⟩ := List.mem_map.1 this
    have := ha y hy
    rw [hxy] at this
    exact ⟨he x hx, this.1, this.2⟩
theorem short_all {L : List (Hor × AV)} (h : shortAllS (L.map (·.1)) = true) : L.length ≤ 2 ^ 40 ∧ ∀ x ∈ L, x.1.picks.length ≤ 2 ^ 40 := by
  simp only [shortAllS, Bool.and_eq_true, List.all_eq_true, List.length_map, Bool.or_eq_true, decide_eq_true_eq] at h
  refine ⟨by omega, fun x hx => ?_⟩
  have := h.1 x.1 (List.mem_map_of_mem hx)
  simp [shortS] at this; omega
theorem r28' {P : Program} (T : Tbl P) {h : AHeap} {L : List (Hor × AV)} {s : AV} (o : HorsOk h L s) (hs : shortAllS (L.map (·.1)) = true) :
    RCall P 28 [s] h (fun v h' => ∃ L' : List (Hor × AV), L'.map (·.1) = L.map (·.1) ∧ HorsOk h' L' v) := by
  have hL := short_all hs
  exact (r28 T o.sl hL.1 (fun y hy => ⟨(o.all y hy).sl, hL.2 y hy⟩)).mono fun v g ⟨L', hm, hsl, hel⟩ => ⟨L', hm, HorsOk.of_list hm hsl hel o.len (fun y hy => ⟨(o.all y hy).len, (o.all y hy).nm⟩)⟩
end Go.Abs
namespace Go.Abs
def digN (s : List UInt8) : Int := s.foldl (fun n c => 10 * n + ((c.toNat : Int) - 48)) 0
def digOk (s : List UInt8) : Bool := !decide (s.length = 0) && decide (s.length ≤ 9) && !(decide (1 < s.length) && decide (s.head? = some 48)) && s.all digitS
theorem digN_app {s : List UInt8} {c : UInt8} : digN (s ++ [c]) = 10 * digN s + ((c.toNat : Int) - 48) := by simp [digN]
theorem digitS_iff {c : UInt8} : digitS c = true ↔ 48 ≤ c.toNat ∧ c.toNat ≤ 57 := by simp [digitS]
theorem digF_bd : ∀ (s : List UInt8) (a : Int), s.all digitS = true → 0 ≤ a → 0 ≤ s.foldl (fun n c => 10 * n + ((c.toNat : Int) - 48)) a ∧ s.foldl (fun n c => 10 * n + ((c.toNat : Int) - 48)) a < (a + 1) * 10 ^ s.length
  | [], a, _, h => by simp; omega
  | c :: s, a, h, h0 => by
    simp only [List.all_cons, Bool.and_eq_true] at h
    have hc := digitS_iff.1 h.1
    have ih := digF_bd s (10 * a + ((c.toNat : Int) - 48)) h.2 (by omega)
    rw [List.foldl_cons, List.length_cons, Int.pow_succ]
    refine ⟨ih.1, Int.lt_of_lt_of_le ih.2 ?_⟩
    have h1 : (10 * a + ((c.toNat : Int) - 48) + 1) * 10 ^ s.length ≤ ((a + 1) * 10) * 10 ^ s.length := Int.mul_le_mul_of_nonneg_right (by omega) (Int.pow_nonneg (by decide))
    calc _ ≤ ((a + 1) * 10) * 10 ^ s.length := h1
      _ = (a + 1) * (10 ^ s.length * 10) := by rw [Int.mul_assoc, Int.mul_comm 10]
theorem digN_bd {s : List UInt8} (h : s.all digitS = true) : 0 ≤ digN s ∧ digN s < 10 ^ s.length := by
  have := digF_bd s 0 h (by decide)
  rw [Int.zero_add, Int.one_mul] at this
  exact this
theorem take_succ' {α : Type} {s : List α} {k : Nat} (hk : k < s.length) : s.take (k + 1) = s.take k ++ [s[k]] := by
  rw [List.take_add_one, List.getElem?_eq_getElem hk]; rfl
theorem dig9 {s : List UInt8} {k : Nat} (hl : s.length ≤ 9) (hk : k ≤ s.length) (h : (s.take k).all digitS = true) : 0 ≤ digN (s.take k) ∧ digN (s.take k) < 1000000000 := by
  have := digN_bd h
  have e : (s.take k).length = k := by rw [List.length_take]; omega
  rw [e] at this
  have : (10 : Int) ^ k ≤ 10 ^ 9 := by exact_mod_cast Nat.pow_le_pow_right (n := 10) (by decide) (show k ≤ 9 by omega)
  omega
attribute [local irreducible] WP WC WE WB WR WF WL WG WRg
section
variable {P : Program} (T : Tbl P) {h : AHeap}
include T
end
end Go.Abs
namespace Go.Abs
def pushB (c x : UInt8) (ps : List (List UInt8)) : List (List UInt8) := if x = c then ps ++ [[]] else ps.dropLast ++ [ps.getLastD [] ++ [x]]
theorem splitB_push {c x : UInt8} : ∀ {s : List UInt8}, splitB c (s ++ [x]) = pushB c x (splitB c s)
  | [] => by
    by_cases h : x = c
    · simp [splitB, pushB, h]
    · simp [splitB, pushB, h]
  | y :: r => by
    have ih := splitB_push (c := c) (x := x) (s := r)
    have hne := splitB_ne (c := c) (s := r)
    rw [List.cons_append, splitB, ih, splitB]
    by_cases h : y = c
    · rw [if_pos h, if_pos h]
      unfold pushB
      by_cases hx : x = c
      · rw [if_pos hx, if_pos hx]; rfl
      · rw [if_neg hx, if_neg hx, List.dropLast_cons_of_ne_nil hne, List.getLastD_cons]
        cases hs : splitB c r with
        | nil => exact absurd hs hne
        | cons p ps => simp [List.getLastD_eq_getLast?]
    · rw [if_neg h, if_neg h]
      cases hs : splitB c r with
      | nil => exact absurd hs hne
      | cons p ps =>
        unfold pushB
        by_cases hx : x = c
        · rw [if_pos hx, if_pos hx]; rfl
        · rw [if_neg hx, if_neg hx]
          cases ps with
          | nil => simp
          | cons q qs => simp [List.getLastD_eq_getLast?]
theorem pushB_len {c x : UInt8} {ps : List (List UInt8)} (hx : x ≠ c) (hne : ps ≠ []) : pushB c x ps = ps.set (ps.length - 1) (ps.getD (ps.length - 1) [] ++ [x]) := by
  unfold pushB
  rw [if_neg hx]
  obtain ⟨q, l, rfl⟩ : ∃ q l, ps = q ++ [l] := ⟨ps.dropLast, ps.getLast hne, (List.dropLast_concat_getLast hne).symm⟩
  simp [List.getLastD_eq_getLast?, List.set_append_right]
theorem bnds_both {n k m : Nat} {kk k2 : IntKind} (h1 : k ≤ m) (h2 : m ≤ n) : bnds (some (.int kk (k : Int))) (some (.int k2 (m : Int))) n = some (k, m) := by
  simp only [bnds, loN, hiN]
  rw [if_pos ⟨by omega, by omega, by omega⟩]; simp
theorem sls_1 {s : List UInt8} {k : Nat} {kk k2 : IntKind} (hk : k < s.length) : slsF (.str s) (some (.int kk (k : Int))) (some (.int k2 ((k + 1 : Nat) : Int))) = some (.str [s[k]]) := by
  simp only [slsF, bnds_both (show k ≤ k + 1 by omega) (show k + 1 ≤ s.length by omega)]
  rw [show k + 1 - k = 1 by omega, List.drop_eq_getElem_cons hk]; rfl
attribute [local irreducible] WP WC WE WB WR WF WL WG WRg
section
variable {P : Program} (T : Tbl P) {h : AHeap}
include T
set_option maxRecDepth 10000 in
set_option maxHeartbeats 2000000 in
theorem r213 (s : List UInt8) (hs : s.length ≤ 2 ^ 40) : RCall P 213 [.str s] h (fun v _ => ∃ m : Int, v = .tup [.int .i64 m, .bool (digOk s)] ∧ (digOk s = true → m = digN s)) := by
  refine .of T.mix T.c213 ?_
  obtain ⟨ts, hts⟩ : ∃ ts, ts = startTS 42 [.str s] := ⟨_, rfl⟩
  have hlen : ts.length = 42 := by rw [hts]; rfl
  have t0 : slot ts 0 = .str s := by rw [hts]; rfl
  unfold fn213
  show WC P inFn _ [] (startTS 42 [.str s]) h _
  rw [← hts]
  clear hts
  repeat (first | simp (maxSteps := 1000000) only [wset, hset, dset, bset, reduceAdd, reduceMul, reduceLeDiff, reduceEqDiff, pset, hlen, if_false, if_true, t0] | simp (maxSteps := 1000000) (disch := first | (simp only [List.length_append, List.length_cons, List.length_nil] <;> omega) | rfl | omega | fail) only [kset, wset, hset, dset, bset, reduceAdd, reduceMul, reduceLeDiff, reduceEqDiff, pset, hlen, if_false, if_true, t0])
  refine WL.inv T.mix (fun n ts' h' => ∃ k : Nat, k ≤ s.length ∧ n = s.length - k ∧ h' = h ++ [.iter s k] ∧ (s.take k).all digitS = true ∧ (0 < k → s.length ≤ 9) ∧ ts'.length = 42 ∧ slot ts' 0 = .str s ∧ slot ts' 4 = .int .i64 (digN (s.take k)) ∧ slot ts' 8 = .ptr h.length 0) s.length
    ⟨0, by omega, rfl, rfl, rfl, by omega, (by simp only [wset, hset, dset, bset, reduceAdd, reduceMul, reduceLeDiff, reduceEqDiff, pset, hlen, if_false, if_true, t0]), (by simp only [wset, hset, dset, bset, reduceAdd, reduceMul, reduceLeDiff, reduceEqDiff, pset, hlen, if_false, if_true, t0]), (by simp only [wset, hset, dset, bset, reduceAdd, reduceMul, reduceLeDiff, reduceEqDiff, pset, hlen, if_false, if_true]; rfl), (by simp only [wset, hset, dset, bset, reduceAdd, reduceMul, reduceLeDiff, reduceEqDiff, pset, hlen, if_false, if_true, t0])⟩ ?_
  rintro _ ts' _ ⟨k, hk, rfl, rfl, hd, h9, hlen', u0, u4, u8⟩
  clear hlen t0
  have hlen := hlen'
  by_cases hlt : k < s.length
  · obtain ⟨c, w, hdec, hcw⟩ : ∃ c w, Utf8.decode ⟨⟨s⟩⟩ k = (c, w) ∧ (c = s[k].toNat ∧ w = 1 ∧ s[k].toNat < 128 ∨ 128 ≤ c ∧ 128 ≤ s[k].toNat) := by
      by_cases hc : s[k].toNat < 128
      · exact ⟨_, _, dec_lt hlt hc, .inl ⟨rfl, rfl, hc⟩⟩
      · exact ⟨_, _, rfl, .inr ⟨dec_ge hlt (by omega), by omega⟩⟩
    have bad : digOk s = false → ∃ m : Int, AV.tup [.int .i64 0, .bool false] = AV.tup [.int .i64 m, .bool (digOk s)] ∧ (digOk s = true → m = digN s) := fun hb => ⟨0, by rw [hb], fun h => by rw [hb] at h; cases h⟩
    have hall : digitS s[k] = false → digOk s = false := fun hx => by
      have : s.all digitS = false := by rw [List.all_eq_false]; exact ⟨s[k], List.getElem_mem hlt, by simp [hx]⟩
      simp only [digOk, this, Bool.and_false]
    by_cases a5 : (48 : Int) ≤ c
    · by_cases a6 : (c : Int) ≤ 57
      · have hc : c = s[k].toNat ∧ w = 1 := by omega
        obtain ⟨rfl, rfl⟩ := hc
        have hy : digitS s[k] = true := digitS_iff.2 (by omega)
        have d1 : decide ((s[k].toNat : Int) < 48) = false := decide_eq_false (by omega)
        have d2 : decide ((57 : Int) < (s[k].toNat : Int)) = false := decide_eq_false (by omega)
        by_cases h10 : 9 < s.length
        · have d3 : decide ((9 : Int) < s.length) = true := decide_eq_true (by omega)
          repeat (first | simp (maxSteps := 1000000) only [wset, hset, dset, bset, reduceAdd, reduceMul, reduceLeDiff, reduceEqDiff, pset, hlen, if_false, if_true, u0, u4, u8, nextB, hlt, if_true, hdec, d1, d2, d3] | simp (maxSteps := 1000000) (disch := first | (simp only [List.length_append, List.length_cons, List.length_nil] <;> omega) | rfl | omega | fail) only [kset, wset, hset, dset, bset, reduceAdd, reduceMul, reduceLeDiff, reduceEqDiff, pset, hlen, if_false, if_true, u0, u4, u8, nextB, hlt, if_true, hdec, d1, d2, d3])
          have e9 : decide (s.length ≤ 9) = false := decide_eq_false (by omega)
          exact bad (by simp only [digOk, e9, Bool.and_false, Bool.false_and])
        · have d3 : decide ((9 : Int) < s.length) = false := decide_eq_false (by omega)
          have hb := dig9 (by omega) hk hd
          have w1 : IntKind.i64.wrap (10 * digN (s.take k)) = 10 * digN (s.take k) := wrap_in (by omega) (by omega)
          have w2 : IntKind.i32.wrap ((s[k].toNat : Int) - 48) = (s[k].toNat : Int) - 48 := wrap32 (by omega) (by omega)
          have w3 : IntKind.i64.wrap ((s[k].toNat : Int) - 48) = (s[k].toNat : Int) - 48 := wrap_in (by omega) (by omega)
          have w4 : IntKind.i64.wrap (10 * digN (s.take k) + ((s[k].toNat : Int) - 48)) = digN (s.take (k + 1)) := by
            rw [take_succ' hlt, digN_app]; exact wrap_in (by omega) (by omega)
          repeat (first | simp (maxSteps := 1000000) only [wset, hset, dset, bset, reduceAdd, reduceMul, reduceLeDiff, reduceEqDiff, pset, hlen, if_false, if_true, u0, u4, u8, nextB, hlt, if_true, hdec, d1, d2, d3, w1, w2, w3, w4] | simp (maxSteps := 1000000) (disch := first | (simp only [List.length_append, List.length_cons, List.length_nil] <;> omega) | rfl | omega | fail) only [kset, wset, hset, dset, bset, reduceAdd, reduceMul, reduceLeDiff, reduceEqDiff, pset, hlen, if_false, if_true, u0, u4, u8, nextB, hlt, if_true, hdec, d1, d2, d3, w1, w2, w3, w4])
          refine ⟨s.length - (k + 1), by omega, k + 1, by omega, rfl, rfl, ?_, by omega, rfl, trivial⟩
          rw [take_succ' hlt, List.all_append, hd]
          simp [hy]
      · have d1 : decide ((c : Int) < 48) = false := decide_eq_false (by omega)
        have d2 : decide ((57 : Int) < (c : Int)) = true := decide_eq_true (by omega)
        repeat (first | simp (maxSteps := 1000000) only [wset, hset, dset, bset, reduceAdd, reduceMul, reduceLeDiff, reduceEqDiff, pset, hlen, if_false, if_true, u0, u4, u8, nextB, hlt, if_true, hdec, d1, d2] | simp (maxSteps := 1000000) (disch := first | (simp only [List.length_append, List.length_cons, List.length_nil] <;> omega) | rfl | omega | fail) only [kset, wset, hset, dset, bset, reduceAdd, reduceMul, reduceLeDiff, reduceEqDiff, pset, hlen, if_false, if_true, u0, u4, u8, nextB, hlt, if_true, hdec, d1, d2])
        refine bad (hall ?_)
        cases hy : digitS s[k] with
        | false => rfl
        | true => have := digitS_iff.1 hy; omega
    · have d1 : decide ((c : Int) < 48) = true := decide_eq_true (by omega)
      repeat (first | simp (maxSteps := 1000000) only [wset, hset, dset, bset, reduceAdd, reduceMul, reduceLeDiff, reduceEqDiff, pset, hlen, if_false, if_true, u0, u4, u8, nextB, hlt, if_true, hdec, d1] | simp (maxSteps := 1000000) (disch := first | (simp only [List.length_append, List.length_cons, List.length_nil] <;> omega) | rfl | omega | fail) only [kset, wset, hset, dset, bset, reduceAdd, reduceMul, reduceLeDiff, reduceEqDiff, pset, hlen, if_false, if_true, u0, u4, u8, nextB, hlt, if_true, hdec, d1])
      refine bad (hall ?_)
      cases hy : digitS s[k] with
      | false => rfl
      | true => have := digitS_iff.1 hy; omega
  · have ek : k = s.length := by omega
    rw [ek, List.take_length] at hd u4
    by_cases h0 : s = []
    · have d0 : decide (s ≠ []) = false := decide_eq_false (by simp [h0])
      repeat (first | simp (maxSteps := 1000000) only [wset, hset, dset, bset, reduceAdd, reduceMul, reduceLeDiff, reduceEqDiff, pset, hlen, if_false, if_true, u0, u4, u8, nextB, hlt, if_false, d0] | simp (maxSteps := 1000000) (disch := first | (simp only [List.length_append, List.length_cons, List.length_nil] <;> omega) | rfl | omega | fail) only [kset, wset, hset, dset, bset, reduceAdd, reduceMul, reduceLeDiff, reduceEqDiff, pset, hlen, if_false, if_true, u0, u4, u8, nextB, hlt, if_false, d0])
      exact ⟨_, by rw [h0]; rfl, fun h => by rw [h0] at h; cases h⟩
    · have d0 : decide (s ≠ []) = true := decide_eq_true h0
      obtain ⟨c, r, rfl⟩ : ∃ c r, s = c :: r := by cases s with | nil => exact absurd rfl h0 | cons c r => exact ⟨c, r, rfl⟩
      have hl9 := h9 (by rw [ek]; simp)
      have hcn := UInt8.toNat_lt c
      have e0 : decide ((c :: r).length = 0) = false := decide_eq_false (by simp)
      have e9 : decide ((c :: r).length ≤ 9) = true := decide_eq_true hl9
      by_cases h1 : (c :: r).length = 1
      · have d1 : decide ((((c :: r).length : Nat) : Int) = 1) = true := decide_eq_true (by omega)
        have q1 : decide (1 < (c :: r).length) = false := decide_eq_false (by omega)
        repeat (first | simp (maxSteps := 1000000) only [wset, hset, dset, bset, reduceAdd, reduceMul, reduceLeDiff, reduceEqDiff, pset, hlen, if_false, if_true, u0, u4, u8, nextB, hlt, if_false, d0, d1] | simp (maxSteps := 1000000) (disch := first | (simp only [List.length_append, List.length_cons, List.length_nil] <;> omega) | rfl | omega | fail) only [kset, wset, hset, dset, bset, reduceAdd, reduceMul, reduceLeDiff, reduceEqDiff, pset, hlen, if_false, if_true, u0, u4, u8, nextB, hlt, if_false, d0, d1])
        exact ⟨_, by simp only [digOk, e0, e9, q1, hd, Bool.false_and, Bool.not_false, Bool.and_true], fun _ => rfl⟩
      · have d1 : decide ((((c :: r).length : Nat) : Int) = 1) = false := decide_eq_false (by omega)
        have q1 : decide (1 < (c :: r).length) = true := decide_eq_true (by simp at h1 ⊢; exact List.length_pos_iff.2 h1)
        have q2 : decide ((c :: r).head? = some 48) = decide (c = 48) := by simp
        have d2 : decide ((c.toNat : Int) ≠ 48) = !decide (c = 48) := by
          by_cases h2 : c = 48
          · rw [h2]; rfl
          · rw [decide_eq_false h2, decide_eq_true]; rfl
            exact fun e => h2 (UInt8.toNat_inj.1 (by simpa using (by omega : c.toNat = 48)))
        repeat (first | simp (maxSteps := 1000000) only [wset, hset, dset, bset, reduceAdd, reduceMul, reduceLeDiff, reduceEqDiff, pset, hlen, if_false, if_true, u0, u4, u8, nextB, hlt, if_false, d0, d1, ixs_0, d2] | simp (maxSteps := 1000000) (disch := first | (simp only [List.length_append, List.length_cons, List.length_nil] <;> omega) | rfl | omega | fail) only [kset, wset, hset, dset, bset, reduceAdd, reduceMul, reduceLeDiff, reduceEqDiff, pset, hlen, if_false, if_true, u0, u4, u8, nextB, hlt, if_false, d0, d1, ixs_0, d2])
        exact ⟨_, by simp only [digOk, e0, e9, q1, q2, hd, Bool.true_and, Bool.not_false, Bool.and_true], fun _ => rfl⟩
set_option maxRecDepth 10000 in
set_option maxHeartbeats 2000000 in
theorem r90 (s : List UInt8) (c : UInt8) (hs : s.length ≤ 2 ^ 40) : RCall P 90 [.str s, .int .u8 c.toNat] h (fun v h' => Fr h.length h' v 1 ((splitB c s).map strRow)) := by
  refine .of T.mix T.c90 ?_
  obtain ⟨ts, hts⟩ : ∃ ts, ts = startTS 40 [.str s, .int .u8 c.toNat] := ⟨_, rfl⟩
  have hlen : ts.length = 40 := by rw [hts]; rfl
  have t0 : slot ts 0 = .str s := by rw [hts]; rfl
  have t1 : slot ts 1 = .int .u8 c.toNat := by rw [hts]; rfl
  unfold fn90
  show WC P inFn _ [] (startTS 40 [.str s, .int .u8 c.toNat]) h _
  rw [← hts]
  clear hts
  repeat (first | simp (maxSteps := 1000000) only [wset, hset, dset, bset, reduceAdd, reduceMul, reduceLeDiff, reduceEqDiff, pset, hlen, if_false, if_true, t0, t1] | simp (maxSteps := 1000000) (disch := first | (simp only [List.length_append, List.length_cons, List.length_nil] <;> omega) | rfl | omega | fail) only [kset, wset, hset, dset, bset, reduceAdd, reduceMul, reduceLeDiff, reduceEqDiff, pset, hlen, if_false, if_true, t0, t1])
  have hF0 := Fr.push (N := h.length) (h := h) (es := 1) (Nat.le_refl _) (([[]] : List (List UInt8)).map strRow) (by simp [strRow])
  have hlenB : ∀ k, (splitB c (s.take k)).length ≤ s.length + 1 := fun k => by
    rw [splitB_len]
    have := List.count_le_length (a := c) (l := s.take k)
    have h2 : (s.take k).length ≤ s.length := by rw [List.length_take]; omega
    omega
  refine WL.inv T.mix (fun n ts' h' => ∃ (k : Nat) (sv : AV) (g' : AHeap), k ≤ s.length ∧ n = s.length - k ∧ h' = h ++ g' ∧ Fr h.length h' sv 1 ((splitB c (s.take k)).map strRow) ∧ ts'.length = 40 ∧ slot ts' 0 = .str s ∧ slot ts' 1 = .int .u8 c.toNat ∧ slot ts' 5 = sv ∧ slot ts' 6 = .int .i64 k) s.length
    ⟨0, _, _, by omega, rfl, rfl, hF0, (by simp only [wset, hset, dset, bset, reduceAdd, reduceMul, reduceLeDiff, reduceEqDiff, pset, hlen, if_false, if_true, t0]), (by simp only [wset, hset, dset, bset, reduceAdd, reduceMul, reduceLeDiff, reduceEqDiff, pset, hlen, if_false, if_true, t0]), (by simp only [wset, hset, dset, bset, reduceAdd, reduceMul, reduceLeDiff, reduceEqDiff, pset, hlen, if_false, if_true, t1]), (by simp only [wset, hset, dset, bset, reduceAdd, reduceMul, reduceLeDiff, reduceEqDiff, pset, hlen, if_false, if_true]; rfl), (by simp only [wset, hset, dset, bset, reduceAdd, reduceMul, reduceLeDiff, reduceEqDiff, pset, hlen, if_false, if_true]; rfl)⟩ ?_
  rintro _ ts' _ ⟨k, sv, g', hk, rfl, rfl, hF, hlen', u0, u1, u5, u6⟩
  clear hlen t0 t1 hF0
  have hlen := hlen'
  have hlB := hlenB k
  have hne := splitB_ne (c := c) (s := s.take k)
  by_cases hlt : k < s.length
  · have e3 : (k : Int) < s.length := by omega
    have hpush : splitB c (s.take (k + 1)) = pushB c s[k] (splitB c (s.take k)) := by rw [take_succ' hlt, splitB_push]
    by_cases hc : s[k] = c
    · have dc : decide ((s[k].toNat : Int) = c.toNat) = true := decide_eq_true (by rw [hc])
      repeat (first | simp (maxSteps := 1000000) only [wset, hset, dset, bset, reduceAdd, reduceMul, reduceLeDiff, reduceEqDiff, pset, hlen, if_false, if_true, u0, u1, u5, u6, e3, decide_true, ixs_in hlt, dc] | simp (maxSteps := 1000000) (disch := first | (simp only [List.length_append, List.length_cons, List.length_nil] <;> omega) | rfl | omega | fail) only [kset, wset, hset, dset, bset, reduceAdd, reduceMul, reduceLeDiff, reduceEqDiff, pset, hlen, if_false, if_true, u0, u1, u5, u6, e3, decide_true, ixs_in hlt, dc])
      refine WR.app1 (h0 := h) (cs := (splitB c (s.take k)).map strRow) (ys := [strRow []]) (hF.app _) (Fr.push (N := 0) (Nat.zero_le _) [strRow []] (by simp [strRow])).isSl (by decide) (by simp) (by simp; omega) (by repeat first | with_reducible exact Ext.refl _ | refine Ext.app _ ?_) ?_
      intro g2 hl2 hF2 _
      have er : (splitB c (s.take k)).map strRow ++ [strRow []] = (splitB c (s.take (k + 1))).map strRow := by
        rw [hpush, pushB, if_pos hc, List.map_append]; rfl
      rw [er] at hF2 ⊢
      repeat (first | simp (maxSteps := 1000000) only [wset, hset, dset, bset, reduceAdd, reduceMul, reduceLeDiff, reduceEqDiff, pset, hlen, if_false, if_true, u0, u1, u5, u6, wrapN (show k + 1 < 2 ^ 63 by omega)] | simp (maxSteps := 1000000) (disch := first | (simp only [List.length_append, List.length_cons, List.length_nil] <;> omega) | rfl | omega | fail) only [kset, wset, hset, dset, bset, reduceAdd, reduceMul, reduceLeDiff, reduceEqDiff, pset, hlen, if_false, if_true, u0, u1, u5, u6, wrapN (show k + 1 < 2 ^ 63 by omega)])
      exact ⟨s.length - (k + 1), by omega, k + 1, _, g2, by omega, rfl, rfl, hF2, rfl, rfl⟩
    · have dc : decide ((s[k].toNat : Int) = c.toNat) = false := decide_eq_false fun e => hc (UInt8.toNat_inj.1 (by omega))
      have hpl : 0 < (splitB c (s.take k)).length := List.length_pos_iff.2 hne
      have hi : (splitB c (s.take k)).length - 1 < (splitB c (s.take k)).length := by omega
      have w1 : IntKind.i64.wrap (((splitB c (s.take k)).length : Int) - 1) = (((splitB c (s.take k)).length - 1 : Nat) : Int) := by rw [wrap_in (by omega) (by omega)]; omega
      have ix := hF.isSl.ixm (kk := .i64) hi
      have gl : (splitB c (s.take k)).getD ((splitB c (s.take k)).length - 1) [] = (splitB c (s.take k))[(splitB c (s.take k)).length - 1] := by rw [List.getD_eq_getElem?_getD, List.getElem?_eq_getElem hi]; rfl
      rw [pushB_len hc hne, gl] at hpush
      have hwl : (splitB c (s.take k))[(splitB c (s.take k)).length - 1].length ≤ s.length := by
        have h1 := splitB_le _ (List.getElem_mem hi)
        have h2 : (s.take k).length ≤ s.length := by rw [List.length_take]; omega
        omega
      have ld := fun {kk : AHeap} (e : Ext (h ++ g') kk) => hF.isSl.l1m hi (x := .str (splitB c (s.take k))[(splitB c (s.take k)).length - 1]) rfl e
      obtain ⟨j, hj⟩ : ∃ j, j = (splitB c (s.take k)).length - 1 := ⟨_, rfl⟩
      repeat (first | simp (maxSteps := 1000000) only [wset, hset, dset, bset, reduceAdd, reduceMul, reduceLeDiff, reduceEqDiff, pset, hlen, if_false, if_true, u0, u1, u5, u6, e3, decide_true, ixs_in hlt, dc, hF.isSl.lenm, w1, ix, ld, wrapN (show k + 1 < 2 ^ 63 by omega), sls_1 hlt, bin_cat (show (splitB c (s.take k))[(splitB c (s.take k)).length - 1].length + [s[k]].length < 2 ^ 62 by simp; omega)] | simp (maxSteps := 1000000) (disch := first | (simp only [List.length_append, List.length_cons, List.length_nil] <;> omega) | rfl | omega | fail) only [kset, wset, hset, dset, bset, reduceAdd, reduceMul, reduceLeDiff, reduceEqDiff, pset, hlen, if_false, if_true, u0, u1, u5, u6, e3, decide_true, ixs_in hlt, dc, hF.isSl.lenm, w1, ix, ld, wrapN (show k + 1 < 2 ^ 63 by omega), sls_1 hlt, bin_cat (show (splitB c (s.take k))[(splitB c (s.take k)).length - 1].length + [s[k]].length < 2 ^ 62 by simp; omega)])
      refine WR.put1 (h0 := h) (off := 0) (x' := (splitB c (s.take k))[(splitB c (s.take k)).length - 1] ++ [s[k]]) hF hi (by decide) rfl (by simp [strRow]) ?_
      intro g2 hl2 hF2 _
      rw [← hpush] at hF2
      repeat (first | simp (maxSteps := 1000000) only [wset, hset, dset, bset, reduceAdd, reduceMul, reduceLeDiff, reduceEqDiff, pset, hlen, if_false, if_true, u0, u1, u5, u6, wrapN (show k + 1 < 2 ^ 63 by omega)] | simp (maxSteps := 1000000) (disch := first | (simp only [List.length_append, List.length_cons, List.length_nil] <;> omega) | rfl | omega | fail) only [kset, wset, hset, dset, bset, reduceAdd, reduceMul, reduceLeDiff, reduceEqDiff, pset, hlen, if_false, if_true, u0, u1, u5, u6, wrapN (show k + 1 < 2 ^ 63 by omega)])
      exact ⟨s.length - (k + 1), by omega, k + 1, _, g2, by omega, rfl, rfl, hF2, rfl, rfl⟩
  · have e3 : ¬ (k : Int) < s.length := by omega
    have ek : k = s.length := by omega
    rw [ek, List.take_length] at hF
    repeat (first | simp (maxSteps := 1000000) only [wset, hset, dset, bset, reduceAdd, reduceMul, reduceLeDiff, reduceEqDiff, pset, hlen, if_false, if_true, u0, u1, u5, u6, e3, decide_false] | simp (maxSteps := 1000000) (disch := first | (simp only [List.length_append, List.length_cons, List.length_nil] <;> omega) | rfl | omega | fail) only [kset, wset, hset, dset, bset, reduceAdd, reduceMul, reduceLeDiff, reduceEqDiff, pset, hlen, if_false, if_true, u0, u1, u5, u6, e3, decide_false])
    exact hF
end
end Go.Abs
namespace Go.Abs
def sB : AV → Option Nat
  | .slice b _ _ _ => some b
  | _ => none
theorem sB_s {v : AV} {b : Nat} (h : sB v = some b) : ∃ o n e, v = .slice b o n e := by
  cases v with
  | slice b' o n e => cases h; exact ⟨o, n, e, rfl⟩
  | _ => cases h
theorem Fr.sBlt {N : Nat} {h : AHeap} {s : AV} {es : Nat} {cs : List (List AV)} (hs : Fr N h s es cs) {b : Nat} (hb : sB s = some b) : N ≤ b ∧ b < h.length := by
  obtain ⟨o, n, e, rfl⟩ := sB_s hb
  exact hs.lt rfl
theorem Fr.sBkeep {N : Nat} {h k : AHeap} {s : AV} {es : Nat} {cs : List (List AV)} (hs : Fr N h s es cs) (hk : ∀ b, sB s = some b → k[b]? = h[b]?) : Fr N k s es cs := by
  cases hs with
  | nil => exact .nil
  | mk hN hb he => exact .mk hN ((hk _ rfl).trans hb) he
structure HsR (N : Nat) (h : AHeap) (L : List (Hor × AV)) (s : AV) : Prop where
  fr : Fr N h s 3 (L.map horRow)
  el : ∀ x ∈ L, Fr N h x.2 2 (x.1.picks.map pkRow)
  ne : ∀ x ∈ L, ∀ b, sB x.2 = some b → sB s ≠ some b
  di : L.Pairwise fun x y => ∀ b, sB x.2 = some b → sB y.2 ≠ some b
theorem HsR.nil {N : Nat} {h : AHeap} : HsR N h [] .nilSlice := by
  refine ⟨.nil, ?_, ?_, List.Pairwise.nil⟩
  · intro x hx; cases hx
  · intro x hx; cases hx
theorem HsR.keep {N : Nat} {h k : AHeap} {L : List (Hor × AV)} {s : AV} (o : HsR N h L s) (hs : ∀ b, sB s = some b → k[b]? = h[b]?) (hx : ∀ x ∈ L, ∀ b, sB x.2 = some b → k[b]? = h[b]?) : HsR N k L s :=
  ⟨o.fr.sBkeep hs, fun x h => (o.el x h).sBkeep (hx x h), o.ne, o.di⟩
theorem HsR.app {N : Nat} {h : AHeap} {L : List (Hor × AV)} {s : AV} (o : HsR N h L s) (g : AHeap) : HsR N (h ++ g) L s :=
  ⟨o.fr.app g, fun x h => (o.el x h).app g, o.ne, o.di⟩
theorem HsR.swap {A B g : AHeap} {L : List (Hor × AV)} {s : AV} (o : HsR A.length (A ++ g) L s) (hl : B.length = A.length) : HsR A.length (B ++ g) L s :=
  ⟨o.fr.swap hl, fun x h => (o.el x h).swap hl, o.ne, o.di⟩
theorem HsR.ok {N : Nat} {h : AHeap} {L : List (Hor × AV)} {s : AV} (o : HsR N h L s) (hl : L.length < 2 ^ 63) (hx : ∀ x ∈ L, x.1.picks.length < 2 ^ 63 ∧ x.1.name.length < 2 ^ 63) : HorsOk h L s :=
  ⟨o.fr.isSl, hl, fun x h => ⟨(o.el x h).isSl, (hx x h).1, (hx x h).2⟩⟩
theorem HsR.addH {h0 h g : AHeap} {L : List (Hor × AV)} {s s' : AV} {H : Hor} (o : HsR h0.length h L s) (hH : H.picks = []) (hfr : Fr h0.length (h0 ++ g) s' 3 ((L ++ [(H, AV.nilSlice)]).map horRow)) (hs' : sB s' = some h.length) (hkp : ∀ b, b < h.length → sB s ≠ some b → (h0 ++ g)[b]? = h[b]?) :
    HsR h0.length (h0 ++ g) (L ++ [(H, AV.nilSlice)]) s' := by
  refine ⟨hfr, ?_, ?_, ?_⟩
  · intro x hx
    rcases List.mem_append.1 hx with hx | hx
    · exact (o.el x hx).sBkeep fun b hb => hkp b ((o.el x hx).sBlt hb).2 (o.ne x hx b hb)
    · rw [List.mem_singleton] at hx; subst hx
      simp only [hH]
      exact .nil
  · intro x hx b hb
    rcases List.mem_append.1 hx with hx | hx
    · rw [hs']
      have := ((o.el x hx).sBlt hb).2
      intro e; cases e; omega
    · rw [List.mem_singleton] at hx; subst hx; cases hb
  · refine List.pairwise_append.2 ⟨o.di, List.pairwise_singleton _ _, ?_⟩
    intro x _ y hy b _ hb
    rw [List.mem_singleton] at hy; subst hy; cases hb
theorem HsR.addP {h0 h g1 g2 : AHeap} {L : List (Hor × AV)} {s p p' : AV} {H H' : Hor} (o : HsR h0.length h (L ++ [(H, p)]) s) (hp' : sB p' = some h.length) (hl1 : (h0 ++ g1).length = h.length + 1)
    (hf1 : Fr h0.length (h0 ++ g1) p' 2 (H'.picks.map pkRow)) (hk1 : ∀ b, b < h.length → sB p ≠ some b → (h0 ++ g1)[b]? = h[b]?)
    (hf2 : Fr h0.length (h0 ++ g2) s 3 ((L ++ [(H', p')]).map horRow)) (hk2 : ∀ b, sB s ≠ some b → (h0 ++ g2)[b]? = (h0 ++ g1)[b]?) : HsR h0.length (h0 ++ g2) (L ++ [(H', p')]) s := by
  obtain ⟨d1, d2, d3⟩ := List.pairwise_append.1 o.di
  have hL : ∀ x ∈ L, x ∈ L ++ [(H, p)] := fun x hx => List.mem_append.2 (.inl hx)
  refine ⟨hf2, ?_, ?_, ?_⟩
  · intro x hx
    rcases List.mem_append.1 hx with hx | hx
    · refine (o.el x (hL x hx)).sBkeep fun b hb => (hk2 b (o.ne x (hL x hx) b hb)).trans (hk1 b ((o.el x (hL x hx)).sBlt hb).2 ?_)
      exact d3 x hx (H, p) (by simp) b hb
    · rw [List.mem_singleton] at hx; subst hx
      refine hf1.sBkeep fun b hb => hk2 b ?_
      rw [hp'] at hb
      cases hb
      intro e
      have := (o.fr.sBlt e).2
      omega
  · intro x hx b hb
    rcases List.mem_append.1 hx with hx | hx
    · exact o.ne x (hL x hx) b hb
    · rw [List.mem_singleton] at hx; subst hx
      simp only [hp'] at hb
      cases hb
      intro e
      have := (o.fr.sBlt e).2
      omega
  · refine List.pairwise_append.2 ⟨d1, List.pairwise_singleton _ _, ?_⟩
    intro x hx y hy b hb
    rw [List.mem_singleton] at hy; subst hy
    simp only [hp']
    have := ((o.el x (hL x hx)).sBlt hb).2
    intro e; cases e; omega
def addPk (M : List Hor) (p : Pk) : List Hor := M.dropLast ++ [⟨(M.getLastD noHor).name, (M.getLastD noHor).err, (M.getLastD noHor).picks ++ [p]⟩]
attribute [local irreducible] WP WC WE WB WR WF WL WG WRg
section
variable {P : Program} (T : Tbl P) {h0 g : AHeap}
include T
set_option maxRecDepth 10000 in
set_option maxHeartbeats 1000000 in
theorem g214 {L : List (Hor × AV)} {s ns : AV} (o : HsR h0.length (h0 ++ g) L s) (hl : L.length ≤ 2 ^ 40) (w : List UInt8) {n : Int} (hn : IsSl (h0 ++ g) ns 1 (([n] : List Int).map intRow)) :
    GCall P 214 [s, .str w, ns] (h0 ++ g) (fun v h' => ∃ (g' : AHeap) (s' : AV), h' = h0 ++ g' ∧ v = .tup [s', .bool true] ∧ HsR h0.length (h0 ++ g') (L ++ [(⟨w, n, []⟩, AV.nilSlice)]) s') := by
  refine .of T.mix T.c214 ?_
  unfold fn214
  have ix := hn.ix0 (kk := .i64) (by simp)
  have ld := fun {kk : AHeap} (e : Ext (h0 ++ g) kk) => hn.l1m (i := 0) (x := .int .i64 n) (by simp) rfl e
  simp only [wset, hset, dset, bset, reduceAdd, reduceMul, reduceLeDiff, reduceEqDiff, ix, ld]
  refine WR.app1 (w := 48) (h0 := h0) (cs := L.map horRow) (ys := [horRow (⟨w, n, []⟩, AV.nilSlice)]) (o.fr.app _) (Fr.push (N := 0) (Nat.zero_le _) [horRow (⟨w, n, []⟩, AV.nilSlice)] (by simp)).isSl (by decide) (by simp) (by simp; omega) (by repeat first | with_reducible exact Ext.refl _ | refine Ext.app _ ?_) ?_
  intro g2 hl2 hF2 hkp
  have er : L.map horRow ++ [horRow (⟨w, n, []⟩, AV.nilSlice)] = (L ++ [((⟨w, n, []⟩ : Hor), AV.nilSlice)]).map horRow := by rw [List.map_append]; rfl
  rw [er] at hF2 ⊢
  simp only [wset, hset, dset, bset, reduceAdd, reduceMul, reduceLeDiff, reduceEqDiff]
  refine ⟨g2, _, rfl, rfl, HsR.addH (h := h0 ++ g ++ _) (o.app _) rfl hF2 rfl fun b hb hs => hkp b hb fun b0 o' n' e' he => ?_⟩
  rintro rfl
  exact hs (by rw [he]; rfl)
set_option maxRecDepth 10000 in
set_option maxHeartbeats 1000000 in
theorem g215 {L : List (Hor × AV)} {H : Hor} {s p ns : AV} (o : HsR h0.length (h0 ++ g) (L ++ [(H, p)]) s) (hl : L.length ≤ 2 ^ 40) (hpl : H.picks.length ≤ 2 ^ 40) (w : List UInt8) {a b : Int} (hn : IsSl (h0 ++ g) ns 1 (([a, b] : List Int).map intRow)) :
    GCall P 215 [s, .str w, ns] (h0 ++ g) (fun v h' => ∃ (g' : AHeap) (p' : AV), h' = h0 ++ g' ∧ v = .tup [s, .bool true] ∧ HsR h0.length (h0 ++ g') (L ++ [(⟨H.name, H.err, H.picks ++ [(a, b)]⟩, p')]) s) := by
  refine .of T.mix T.c215 ?_
  obtain ⟨ts, hts⟩ : ∃ ts, ts = startTS 34 [s, .str w, ns] := ⟨_, rfl⟩
  have hlen : ts.length = 34 := by rw [hts]; rfl
  have t0 : slot ts 0 = s := by rw [hts]; rfl
  have t2 : slot ts 2 = ns := by rw [hts]; rfl
  unfold fn215
  show WC P inFn _ [] (startTS 34 [s, .str w, ns]) (h0 ++ g) _
  rw [← hts]
  clear hts
  have hLl : (L ++ [(H, p)]).length = L.length + 1 := by simp
  have d0 : decide (((L ++ [(H, p)]).length : Int) = 0) = false := decide_eq_false (by omega)
  have w1 : IntKind.i64.wrap (((L ++ [(H, p)]).length : Int) - 1) = ((L.length : Nat) : Int) := by rw [wrap_in (by omega) (by omega)]; omega
  have hi : L.length < (L ++ [(H, p)]).length := by omega
  have gi : (L ++ [(H, p)])[L.length] = (H, p) := by simp
  have ixl := o.fr.isSl.ixm (kk := .i64) hi
  have ldp := fun {kk : AHeap} (e : Ext (h0 ++ g) kk) => o.fr.isSl.lfm (off := 2) (x := p) hi (by rw [gi]; rfl) e
  have ix0 := hn.ix0 (kk := .i64) (by simp)
  have ix1 : iadrF 1 ns (.int .i64 1) = some (elp ns 1 1, .keep) := hn.ixm (kk := .i64) (i := 1) (by simp)
  have ld0 := fun {kk : AHeap} (e : Ext (h0 ++ g) kk) => hn.l1m (i := 0) (x := .int .i64 a) (by simp) rfl e
  have ld1 := fun {kk : AHeap} (e : Ext (h0 ++ g) kk) => hn.l1m (i := 1) (x := .int .i64 b) (by simp) rfl e
  have hpf : Fr h0.length (h0 ++ g) p 2 (H.picks.map pkRow) := o.el (H, p) (by simp)
  have nl : ∀ {s : AV} {es i : Nat}, nilF (elp s es i) = some (elp s es i) := rfl
  repeat (first | simp (maxSteps := 1000000) only [wset, hset, dset, bset, reduceAdd, reduceMul, reduceLeDiff, reduceEqDiff, pset, hlen, if_false, if_true, t0, t2, o.fr.isSl.lenm, d0, w1, ixl, nl, ldp, ix0, ix1, ld0, ld1] | simp (maxSteps := 1000000) (disch := first | (simp only [List.length_append, List.length_cons, List.length_nil] <;> omega) | rfl | omega | fail) only [kset, wset, hset, dset, bset, reduceAdd, reduceMul, reduceLeDiff, reduceEqDiff, pset, hlen, if_false, if_true, t0, t2, o.fr.isSl.lenm, d0, w1, ixl, nl, ldp, ix0, ix1, ld0, ld1])
  refine WR.app1 (w := 16) (h0 := h0) (cs := H.picks.map pkRow) (ys := [pkRow (a, b)]) (hpf.app _) (Fr.push (N := 0) (Nat.zero_le _) [pkRow (a, b)] (by simp)).isSl (by decide) (by simp) (by simp; omega) (by repeat first | with_reducible exact Ext.refl _ | refine Ext.app _ ?_) ?_
  intro g2 hl2 hF2 hkp
  have er : H.picks.map pkRow ++ [pkRow (a, b)] = (H.picks ++ [(a, b)]).map pkRow := by rw [List.map_append]; rfl
  rw [er] at hF2 ⊢
  generalize hp' : AV.slice (h0 ++ g ++ [ABlk.cells [AV.int IntKind.i64 a, AV.int IntKind.i64 b] true true]).length 0 ((H.picks ++ [(a, b)]).map pkRow).length 2 = p' at hF2 ⊢
  have o' := o.app [ABlk.cells [AV.int IntKind.i64 a, AV.int IntKind.i64 b] true true]
  have hsl : (h0 ++ g).length < (h0 ++ g ++ [ABlk.cells [AV.int IntKind.i64 a, AV.int IntKind.i64 b] true true]).length := by simp
  have hkp' : ∀ b', b' < (h0 ++ g ++ [ABlk.cells [AV.int IntKind.i64 a, AV.int IntKind.i64 b] true true]).length → sB p ≠ some b' → (h0 ++ g2)[b']? = (h0 ++ g ++ [ABlk.cells [AV.int IntKind.i64 a, AV.int IntKind.i64 b] true true])[b']? := fun b' hb hs => hkp b' hb fun b0 o' n' e' he => by
    rintro rfl
    exact hs (by rw [he]; rfl)
  have hfs : Fr h0.length (h0 ++ g2) s 3 ((L ++ [(H, p)]).map horRow) := o'.fr.sBkeep fun b' hb => hkp' b' (o'.fr.sBlt hb).2 fun e => o.ne (H, p) (by simp) b' e hb
  have hp1 : p'.one = true := by rw [← hp']; rfl
  repeat (first | simp (maxSteps := 1000000) only [wset, hset, dset, bset, reduceAdd, reduceMul, reduceLeDiff, reduceEqDiff, pset, hlen, if_false, if_true, t0, t2, nl] | simp (maxSteps := 1000000) (disch := first | (simp only [List.length_append, List.length_cons, List.length_nil] <;> omega) | rfl | omega | fail) only [kset, wset, hset, dset, bset, reduceAdd, reduceMul, reduceLeDiff, reduceEqDiff, pset, hlen, if_false, if_true, t0, t2, nl])
  refine WR.put1 (h0 := h0) (off := 2) (x' := (⟨H.name, H.err, H.picks ++ [(a, b)]⟩, p')) hfs hi (by decide) hp1 (by rw [gi]; rfl) ?_
  intro g3 hl3 hF3 hkp3
  have es : (L ++ [(H, p)]).set L.length ((⟨H.name, H.err, H.picks ++ [(a, b)]⟩ : Hor), p') = L ++ [((⟨H.name, H.err, H.picks ++ [(a, b)]⟩ : Hor), p')] := by
    rw [List.set_append_right _ _ (Nat.le_refl _), Nat.sub_self]; rfl
  rw [es] at hF3
  repeat (first | simp (maxSteps := 1000000) only [wset, hset, dset, bset, reduceAdd, reduceMul, reduceLeDiff, reduceEqDiff, pset, hlen, if_false, if_true, t0, t2] | simp (maxSteps := 1000000) (disch := first | (simp only [List.length_append, List.length_cons, List.length_nil] <;> omega) | rfl | omega | fail) only [kset, wset, hset, dset, bset, reduceAdd, reduceMul, reduceLeDiff, reduceEqDiff, pset, hlen, if_false, if_true, t0, t2])
  refine ⟨g3, p', rfl, HsR.addP (h := h0 ++ g ++ [ABlk.cells [AV.int IntKind.i64 a, AV.int IntKind.i64 b] true true]) (g1 := g2) o' (by rw [← hp']; rfl) hl2 hF2 hkp' hF3 fun b' hb => hkp3 b' fun b0 o' n' e' he => ?_⟩
  rintro rfl
  exact hb (by rw [he]; rfl)
end
end Go.Abs
namespace Go.Abs
def wordS : List (List UInt8) → Bool → List UInt8 × List (List UInt8) × Bool
  | [], _ => ([], [], true)
  | w :: r, wr => if w = [] then ([], [], true) else (w, r, wr)
def tkB (sw : AV) (wr : Bool) : ABlk := .cells [sw, .bool wr] true false
attribute [local irreducible] WP WC WE WB WR WF WL WG WRg
section
variable {P : Program} (T : Tbl P) {A B : AHeap}
include T
set_option maxRecDepth 10000 in
set_option maxHeartbeats 1000000 in
theorem g195 {sw : AV} {ws : List (List UInt8)} {wr : Bool} (hs : IsSl A sw 1 (ws.map strRow)) :
    GCall P 195 [.ptr A.length 0] (A ++ [tkB sw wr] ++ B) (fun v h' => ∃ sw', v = .str (wordS ws wr).1 ∧ h' = A ++ [tkB sw' (wordS ws wr).2.2] ++ B ∧ IsSl A sw' 1 ((wordS ws wr).2.1.map strRow)) := by
  refine .of T.mix T.c195 ?_
  obtain ⟨ts, hts⟩ : ∃ ts, ts = startTS 40 [.ptr A.length 0] := ⟨_, rfl⟩
  have hlen : ts.length = 40 := by rw [hts]; rfl
  have t0 : slot ts 0 = .ptr A.length 0 := by rw [hts]; rfl
  unfold fn195
  show WC P inFn _ [] (startTS 40 [.ptr A.length 0]) (A ++ [tkB sw wr] ++ B) _
  rw [← hts]
  clear hts
  unfold tkB
  have c0 := hs.one
  have hsE : ∀ {k : AHeap}, IsSl (A ++ k) sw 1 (ws.map strRow) := fun {k} => hs.ext ⟨k, rfl⟩
  cases ws with
  | nil =>
    have d0 : decide ((([] : List (List UInt8)).length : Int) = 0) = true := rfl
    repeat (first | simp (maxSteps := 1000000) only [wset, hset, dset, bset, reduceAdd, reduceMul, reduceLeDiff, reduceEqDiff, pset, hlen, if_false, if_true, t0, hs.lenm, d0, c0] | simp (maxSteps := 1000000) (disch := first | (simp only [List.length_append, List.length_cons, List.length_nil] <;> omega) | rfl | omega | fail) only [kset, wset, hset, dset, bset, reduceAdd, reduceMul, reduceLeDiff, reduceEqDiff, pset, hlen, if_false, if_true, t0, hs.lenm, d0, c0])
    exact ⟨.nilSlice, by rw [wordS]; exact ⟨rfl, rfl, IsSl.nil⟩⟩
  | cons w r =>
    have d0 : decide (((w :: r).length : Int) = 0) = false := decide_eq_false (by simp; omega)
    have ix := hs.ix0 (kk := .i64) (by simp)
    have ld : ∀ {k : AHeap}, Ext A k → loadF none (elp sw 1 0) (fun b => k[b]?) = some (.str w, .keep) := fun {k} e => hs.l1m (i := 0) (by simp) rfl e
    by_cases hw : w = []
    · have d1 : decide (w = []) = true := decide_eq_true hw
      repeat (first | simp (maxSteps := 1000000) only [wset, hset, dset, bset, reduceAdd, reduceMul, reduceLeDiff, reduceEqDiff, pset, hlen, if_false, if_true, t0, hs.lenm, d0, ix, ld, d1, c0] | simp (maxSteps := 1000000) (disch := first | (simp only [List.length_append, List.length_cons, List.length_nil] <;> omega) | rfl | omega | fail) only [kset, wset, hset, dset, bset, reduceAdd, reduceMul, reduceLeDiff, reduceEqDiff, pset, hlen, if_false, if_true, t0, hs.lenm, d0, ix, ld, d1, c0])
      exact ⟨.nilSlice, by rw [wordS, if_pos hw]; exact ⟨rfl, rfl, IsSl.nil⟩⟩
    · have d1 : decide (w = []) = false := decide_eq_false hw
      have hbn : bnds (some (AV.int .i64 1)) none (w :: r).length = some (1, (w :: r).length) := bnds_lo (k := 1) (by simp)
      obtain ⟨s', es', hs'⟩ := hs.slm hbn
      have et : List.take ((w :: r).length - 1) (List.drop 1 (w :: r)) = r := by simp
      rw [et] at hs'
      repeat (first | simp (maxSteps := 1000000) only [wset, hset, dset, bset, reduceAdd, reduceMul, reduceLeDiff, reduceEqDiff, pset, hlen, if_false, if_true, t0, hs.lenm, d0, ix, ld, d1, c0, es', hs'.one] | simp (maxSteps := 1000000) (disch := first | (simp only [List.length_append, List.length_cons, List.length_nil] <;> omega) | rfl | omega | fail) only [kset, wset, hset, dset, bset, reduceAdd, reduceMul, reduceLeDiff, reduceEqDiff, pset, hlen, if_false, if_true, t0, hs.lenm, d0, ix, ld, d1, c0, es', hs'.one])
      exact ⟨s', by rw [wordS, if_neg hw]; exact ⟨rfl, rfl, hs'⟩⟩
set_option maxRecDepth 10000 in
set_option maxHeartbeats 1000000 in
theorem g196 {sw : AV} {ws : List (List UInt8)} {wr : Bool} (hs : IsSl A sw 1 (ws.map strRow)) (hl : ∀ x ∈ ws, x.length ≤ 2 ^ 40) :
    GCall P 196 [.ptr A.length 0] (A ++ [tkB sw wr] ++ B) (fun v h' => ∃ (sw' : AV) (m : Int) (g : AHeap), v = .int .i64 m ∧ h' = A ++ [tkB sw' ((wordS ws wr).2.2 || !digOk (wordS ws wr).1)] ++ (B ++ g) ∧ IsSl A sw' 1 ((wordS ws wr).2.1.map strRow) ∧ (digOk (wordS ws wr).1 = true → m = digN (wordS ws wr).1)) := by
  refine .of T.mix T.c196 ?_
  obtain ⟨ts, hts⟩ : ∃ ts, ts = startTS 23 [.ptr A.length 0] := ⟨_, rfl⟩
  have hlen : ts.length = 23 := by rw [hts]; rfl
  have t0 : slot ts 0 = .ptr A.length 0 := by rw [hts]; rfl
  unfold fn196
  show WC P inFn _ [] (startTS 23 [.ptr A.length 0]) (A ++ [tkB sw wr] ++ B) _
  rw [← hts]
  clear hts
  repeat (first | simp (maxSteps := 1000000) only [wset, hset, dset, bset, reduceAdd, reduceMul, reduceLeDiff, reduceEqDiff, pset, hlen, if_false, if_true, t0] | simp (maxSteps := 1000000) (disch := first | (simp only [List.length_append, List.length_cons, List.length_nil] <;> omega) | rfl | omega | fail) only [kset, wset, hset, dset, bset, reduceAdd, reduceMul, reduceLeDiff, reduceEqDiff, pset, hlen, if_false, if_true, t0])
  refine WF.gen T.c195 (g195 T hs) ?_
  rintro _ _ ⟨sw', rfl, rfl, hs'⟩
  have hwl : (wordS ws wr).1.length ≤ 2 ^ 40 := by
    cases ws with
    | nil => simp [wordS]
    | cons w r =>
      by_cases hw : w = []
      · rw [wordS, if_pos hw]; simp
      · rw [wordS, if_neg hw]; exact hl w (by simp)
  generalize (wordS ws wr).1 = w at hwl ⊢
  generalize (wordS ws wr).2.2 = wr' at hs' ⊢
  generalize (wordS ws wr).2.1 = ws' at hs' ⊢
  repeat (first | simp (maxSteps := 1000000) only [wset, hset, dset, bset, reduceAdd, reduceMul, reduceLeDiff, reduceEqDiff, pset, hlen, if_false, if_true, t0] | simp (maxSteps := 1000000) (disch := first | (simp only [List.length_append, List.length_cons, List.length_nil] <;> omega) | rfl | omega | fail) only [kset, wset, hset, dset, bset, reduceAdd, reduceMul, reduceLeDiff, reduceEqDiff, pset, hlen, if_false, if_true, t0])
  refine WF.res T.c213 (r213 T w hwl) ?_
  rintro _ g ⟨m, rfl, hm⟩
  unfold tkB
  have c0 := hs'.one
  cases wr' with
  | true =>
    repeat (first | simp (maxSteps := 1000000) only [wset, hset, dset, bset, reduceAdd, reduceMul, reduceLeDiff, reduceEqDiff, pset, hlen, if_false, if_true, t0, c0, Bool.true_or] | simp (maxSteps := 1000000) (disch := first | (simp only [List.length_append, List.length_cons, List.length_nil] <;> omega) | rfl | omega | fail) only [kset, wset, hset, dset, bset, reduceAdd, reduceMul, reduceLeDiff, reduceEqDiff, pset, hlen, if_false, if_true, t0, c0, Bool.true_or])
    exact ⟨sw', m, g, rfl, by rw [List.append_assoc], hs', hm⟩
  | false =>
    repeat (first | simp (maxSteps := 1000000) only [wset, hset, dset, bset, reduceAdd, reduceMul, reduceLeDiff, reduceEqDiff, pset, hlen, if_false, if_true, t0, c0, Bool.false_or] | simp (maxSteps := 1000000) (disch := first | (simp only [List.length_append, List.length_cons, List.length_nil] <;> omega) | rfl | omega | fail) only [kset, wset, hset, dset, bset, reduceAdd, reduceMul, reduceLeDiff, reduceEqDiff, pset, hlen, if_false, if_true, t0, c0, Bool.false_or])
    exact ⟨sw', m, g, rfl, by rw [List.append_assoc], hs', hm⟩
end
end Go.Abs
namespace Go.Abs
def hzS : List UInt8 := [104, 111, 114, 105, 122, 111, 110]
def pkS : List UInt8 := [112, 105, 99, 107]
def fmH : AV := .agg [.int .i64 1, .int .i64 1, .func (.func 214) [] []]
def fmP : AV := .agg [.int .i64 0, .int .i64 2, .func (.func 215) [] []]
def fmB : ABlk := .mapb [(.str hzS, fmH), (.str pkS, fmP)]
def mupF (kk : CK) (m k x : AV) (G : Nat → Option ABlk) : Option (AV × Eff) :=
  match m with
  | .map r =>
    match G r with
    | some (.mapb es) =>
      match updA kk k x es with
      | some es' => some (undefA, .set r (.mapb es'))
      | none => none
    | _ => none
  | _ => none
theorem mupF_at {kk : CK} {r : Nat} {k x : AV} {G : Nat → Option ABlk} {es es' : List (AV × AV)} (hb : G r = some (.mapb es)) (hu : updA kk k x es = some es') : mupF kk (.map r) k x G = some (undefA, .set r (.mapb es')) := by
  simp only [mupF, hb, hu]
theorem stepT_mupd {kk : CK} {m k x : Opd} {ρ : Opd → AV} {G : Nat → Option ABlk} {N : Nat} : stepT (.mupd kk m k x) ρ G N = mupF kk (ρ m) (ρ k) (ρ x) G := rfl
def lookF (kk : CK) (z : AV) (ok : Bool) (m k : AV) (G : Nat → Option ABlk) : Option (AV × Eff) :=
  match m with
  | .nilMap => some (if ok then .tup [z, .bool false] else z, .keep)
  | .map r =>
    match G r with
    | some (.mapb es) =>
      match findA kk k es with
      | some (some v) => some (if ok then .tup [v, .bool true] else v, .keep)
      | some none => some (if ok then .tup [z, .bool false] else z, .keep)
      | none => none
    | _ => none
  | _ => none
theorem stepT_look {kk : CK} {z : AV} {ok : Bool} {m k : Opd} {ρ : Opd → AV} {G : Nat → Option ABlk} {N : Nat} : stepT (.look kk z ok m k) ρ G N = lookF kk z ok (ρ m) (ρ k) G := rfl
def lookR (z : AV) (ok : Bool) : Option AV → Option (AV × Eff)
  | some v => some (if ok then .tup [v, .bool true] else v, .keep)
  | none => some (if ok then .tup [z, .bool false] else z, .keep)
theorem lookF_at {kk : CK} {z : AV} {ok : Bool} {r : Nat} {k : AV} {G : Nat → Option ABlk} {es : List (AV × AV)} {o : Option AV} (hb : G r = some (.mapb es)) (hu : findA kk k es = some o) :
    lookF kk z ok (.map r) k G = lookR z ok o := by
  simp only [lookF, hb, hu]
  cases o <;> rfl
theorem find_fm (w : List UInt8) : findA .s (.str w) [(.str hzS, fmH), (.str pkS, fmP)] = some (if w = hzS then some fmH else if w = pkS then some fmP else none) := by
  simp only [findA, eqCell]
  by_cases h1 : w = hzS
  · simp [h1]
  · have b1 : (w == hzS) = false := by simp [h1]
    rw [b1, if_neg h1]
    by_cases h2 : w = pkS
    · simp [h2]
    · have b2 : (w == pkS) = false := by simp [h2]
      rw [b2, if_neg h2]
attribute [local irreducible] WP WC WE WB WR WF WL WG WRg
section
variable {P : Program} (T : Tbl P) {h : AHeap}
include T
set_option maxRecDepth 10000 in
theorem r197 : RCall P 197 [] h (fun v h' => v = .map h.length ∧ h' = h ++ [fmB]) := by
  refine .of T.mix T.c197 ?_
  unfold fn197
  have u1 : updA .s (.str [104, 111, 114, 105, 122, 111, 110]) fmH [] = some [(.str hzS, fmH)] := rfl
  have u2 : updA .s (.str [112, 105, 99, 107]) fmP [(.str hzS, fmH)] = some [(.str hzS, fmH), (.str pkS, fmP)] := by simp [updA, eqCell, hzS, pkS]
  have e1 : mupF .s (.map h.length) (.str [104, 111, 114, 105, 122, 111, 110]) (.agg [.int .i64 1, .int .i64 1, .func (.func 214) [] []]) (fun b => (h ++ [ABlk.mapb []])[b]?) = some (undefA, .set h.length (.mapb [(.str hzS, fmH)])) := mupF_at at_new u1
  have e2 : mupF .s (.map h.length) (.str [112, 105, 99, 107]) (.agg [.int .i64 0, .int .i64 2, .func (.func 215) [] []]) (fun b => (h ++ [ABlk.mapb [(.str hzS, fmH)]])[b]?) = some (undefA, .set h.length (.mapb [(.str hzS, fmH), (.str pkS, fmP)])) := mupF_at at_new u2
  simp only [wset, hset, dset, bset, reduceAdd, reduceMul, reduceLeDiff, reduceEqDiff, WP_mupd, stepT_mupd, e1, e2]
  rfl
end
def wIt (ws : List (List UInt8)) (wr : Bool) : Nat → List UInt8 × List (List UInt8) × Bool
  | 0 => ([], ws, wr)
  | k + 1 => wordS (wIt ws wr k).2.1 (wIt ws wr k).2.2
def iIt (ws : List (List UInt8)) (wr : Bool) : Nat → List (List UInt8) × List (List UInt8) × Bool
  | 0 => ([], ws, wr)
  | k + 1 => ((iIt ws wr k).1 ++ [(wordS (iIt ws wr k).2.1 (iIt ws wr k).2.2).1], (wordS (iIt ws wr k).2.1 (iIt ws wr k).2.2).2.1, (wordS (iIt ws wr k).2.1 (iIt ws wr k).2.2).2.2 || !digOk (wordS (iIt ws wr k).2.1 (iIt ws wr k).2.2).1)
theorem wordS_sub {ws : List (List UInt8)} {wr : Bool} : ∀ x ∈ (wordS ws wr).2.1, x ∈ ws := by
  intro x hx
  cases ws with
  | nil => simp [wordS] at hx
  | cons w r =>
    by_cases hw : w = []
    · rw [wordS, if_pos hw] at hx; cases hx
    · rw [wordS, if_neg hw] at hx; exact List.mem_cons_of_mem _ hx
theorem wIt_sub {ws : List (List UInt8)} {wr : Bool} : ∀ k, ∀ x ∈ (wIt ws wr k).2.1, x ∈ ws
  | 0, x, hx => hx
  | k + 1, x, hx => wIt_sub k x (wordS_sub x hx)
theorem iIt_sub {ws : List (List UInt8)} {wr : Bool} : ∀ k, ∀ x ∈ (iIt ws wr k).2.1, x ∈ ws
  | 0, x, hx => hx
  | k + 1, x, hx => iIt_sub k x (wordS_sub x hx)
def intsOf : List (List UInt8) → List Int → Prop
  | [], [] => True
  | w :: ws, m :: ms => (digOk w = true → m = digN w) ∧ intsOf ws ms
  | _, _ => False
theorem intsOf_app : ∀ {ws : List (List UInt8)} {ms : List Int} {w : List UInt8} {m : Int}, intsOf ws ms → (digOk w = true → m = digN w) → intsOf (ws ++ [w]) (ms ++ [m])
  | [], [], w, m, _, h => ⟨h, trivial⟩
  | _ :: _, _ :: _, w, m, h1, h => ⟨h1.1, intsOf_app h1.2 h⟩
  | [], _ :: _, w, m, h1, h => h1.elim
  | _ :: _, [], w, m, h1, h => h1.elim
theorem intsOf_len : ∀ {ws : List (List UInt8)} {ms : List Int}, intsOf ws ms → ms.length = ws.length
  | [], [], _ => rfl
  | _ :: _, _ :: _, h => by rw [List.length_cons, List.length_cons, intsOf_len h.2]
  | [], _ :: _, h => h.elim
  | _ :: _, [], h => h.elim
theorem iIt_len {ws : List (List UInt8)} {wr : Bool} : ∀ k, (iIt ws wr k).1.length = k
  | 0 => rfl
  | k + 1 => by rw [iIt]; simp [iIt_len k]
def rd (k : Nat) : ICode := ((fn154).body.dr k).hd
def rdT (k : Nat) : ICode := (fn154).body.dr k
def ra : ICode := (rd 6).tl.inn.inn
def ra0 : ICode := (rd 6).hd
def ra1 : ICode := ra.hd
def ra2 : ICode := ra.tl.hd
def ra3 : ICode := ra.tl.tl.hd.inn
def ra4 : ICode := ra.tl.tl.tl
def rb : ICode := (rd 8).tl.inn.inn
def rb0 : ICode := (rd 8).hd
def rb1 : ICode := rb.hd
def rb2 : ICode := rb.tl.hd
def rb3 : ICode := rb.tl.tl.hd.inn
def rb4 : ICode := rb.tl.tl.tl
theorem rd_6 : rd 6 = .seq ra0 (.block 0 (.loop (.seq ra1 (.seq ra2 (.seq (.block 1 ra3) ra4))))) := rfl
theorem rd_8 : rd 8 = .seq rb0 (.block 2 (.loop (.seq rb1 (.seq rb2 (.seq (.block 3 rb3) rb4))))) := rfl
theorem rd_C : rdT 9 = .seq (rd 9) (rdT 10) := rfl
theorem rd_B2 : rdT 7 = .seq (rd 7) (.seq (rd 8) (rdT 9)) := rfl
theorem rd_B1 : rdT 5 = .seq (rd 5) (.seq (rd 6) (rdT 7)) := rfl
section
variable {P : Program} (T : Tbl P) {h0 gA : AHeap}
include T
set_option maxRecDepth 10000 in
set_option maxHeartbeats 1000000 in
theorem read_C {s sw ns : AV} {W : AHeap} {b6 b9 : Nat} {ts : TS} {ws : List (List UInt8)} {wr : Bool} {x1 x2 : AV} {w : List UInt8} {fF : Nat} {AF : AFunc} {R : AV → AHeap → Prop} (hAF : compileFn P fF = some AF) (hlen : ts.length = 69)
    (t0 : slot ts 0 = s) (t6 : slot ts 6 = .ptr b6 0) (t9 : slot ts 9 = .ptr b9 0) (t11 : slot ts 11 = .str w) (t12 : slot ts 12 = ns)
    (m6 : W[b6]? = some (tkB sw wr)) (m9 : W[b9]? = some (.cells [x1, x2, .func (.func fF) [] []] true false)) (hs : IsSl W sw 1 (ws.map strRow))
    (hbad : wr = true ∨ ws ≠ [] → R (.tup [.nilSlice, .bool false]) W) (hadd : wr = false → ws = [] → GCall P fF [s, .str w, ns] W fun v h' => ∃ x y, v = .tup [x, y] ∧ R v h') :
    WC P inFn (rdT 9) [] ts W (FQ [(4, none), (5, none)] R) := by
  unfold tkB at m6
  have l6 : ∀ {n : Option Nat} {o : Nat}, loadF n (.ptr b6 o) (fun z => W[z]?) = ldB n o (.cells [sw, .bool wr] true false) := loadF_at m6
  have l9 : ∀ {n : Option Nat} {o : Nat}, loadF n (.ptr b9 o) (fun z => W[z]?) = ldB n o (.cells [x1, x2, .func (.func fF) [] []] true false) := loadF_at m9
  rw [rd_C]
  unfold rd rdT fn154
  simp only [ICode.dr, ICode.tl, ICode.hd]
  cases wr with
  | true =>
    repeat (first | simp (maxSteps := 1000000) only [wset, hset, dset, bset, reduceAdd, reduceMul, reduceLeDiff, reduceEqDiff, pset, hlen, if_false, if_true, t0, t6, t9, l6] | simp (maxSteps := 1000000) (disch := first | (simp only [List.length_append, List.length_cons, List.length_nil] <;> omega) | rfl | omega | fail) only [kset, wset, hset, dset, bset, reduceAdd, reduceMul, reduceLeDiff, reduceEqDiff, pset, hlen, if_false, if_true, t0, t6, t9, l6])
    exact hbad (.inl rfl)
  | false =>
    by_cases hw : ws = []
    · have d0 : decide ((0 : Int) < (ws.length : Int)) = false := by rw [hw]; rfl
      repeat (first | simp (maxSteps := 1000000) only [wset, hset, dset, bset, reduceAdd, reduceMul, reduceLeDiff, reduceEqDiff, pset, hlen, if_false, if_true, t0, t6, t9, t11, t12, l6, l9, hs.lenm, d0] | simp (maxSteps := 1000000) (disch := first | (simp only [List.length_append, List.length_cons, List.length_nil] <;> omega) | rfl | omega | fail) only [kset, wset, hset, dset, bset, reduceAdd, reduceMul, reduceLeDiff, reduceEqDiff, pset, hlen, if_false, if_true, t0, t6, t9, t11, t12, l6, l9, hs.lenm, d0])
      refine WF.gen hAF (hadd rfl hw) ?_
      rintro _ h' ⟨x, y, rfl, hR⟩
      repeat (first | simp (maxSteps := 1000000) only [wset, hset, dset, bset, reduceAdd, reduceMul, reduceLeDiff, reduceEqDiff, pset, hlen, if_false, if_true, t0] | simp (maxSteps := 1000000) (disch := first | (simp only [List.length_append, List.length_cons, List.length_nil] <;> omega) | rfl | omega | fail) only [kset, wset, hset, dset, bset, reduceAdd, reduceMul, reduceLeDiff, reduceEqDiff, pset, hlen, if_false, if_true, t0])
      exact hR
    · have d0 : decide ((0 : Int) < (ws.length : Int)) = true := decide_eq_true (by have := List.length_pos_iff.2 hw; omega)
      repeat (first | simp (maxSteps := 1000000) only [wset, hset, dset, bset, reduceAdd, reduceMul, reduceLeDiff, reduceEqDiff, pset, hlen, if_false, if_true, t0, t6, t9, t11, t12, l6, l9, hs.lenm, d0] | simp (maxSteps := 1000000) (disch := first | (simp only [List.length_append, List.length_cons, List.length_nil] <;> omega) | rfl | omega | fail) only [kset, wset, hset, dset, bset, reduceAdd, reduceMul, reduceLeDiff, reduceEqDiff, pset, hlen, if_false, if_true, t0, t6, t9, t11, t12, l6, l9, hs.lenm, d0])
      exact hbad (.inr hw)
end
end Go.Abs
namespace Go.Abs
attribute [local irreducible] WP WC WE WB WR WF WL WG WRg
section
variable {P : Program} (T : Tbl P)
include T
set_option maxRecDepth 10000 in
set_option maxHeartbeats 1000000 in
theorem read_B2 {A B : AHeap} {s sw : AV} {b9 : Nat} {ts : TS} {ws : List (List UInt8)} {wr : Bool} {x1 : AV} {ni : Nat} {w : List UInt8} {fF : Nat} {AF : AFunc} {R : AV → AHeap → Prop} (hAF : compileFn P fF = some AF) (hlen : ts.length = 69) (hni : ni ≤ 100)
    (t0 : slot ts 0 = s) (t6 : slot ts 6 = .ptr A.length 0) (t8 : slot ts 8 = .func (.func 196) [.ptr A.length 0] []) (t9 : slot ts 9 = .ptr b9 0) (t11 : slot ts 11 = .str w)
    (m9 : (A ++ [tkB sw wr] ++ B)[b9]? = some (.cells [x1, .int .i64 ni, .func (.func fF) [] []] true false)) (hb9 : A.length < b9) (hs : IsSl A sw 1 (ws.map strRow)) (hwl : ∀ x ∈ ws, x.length ≤ 2 ^ 40)
    (hbad : ((iIt ws wr ni).2.2 = true ∨ (iIt ws wr ni).2.1 ≠ []) → ∀ k, Ext A k → R (.tup [.nilSlice, .bool false]) k)
    (hadd : (iIt ws wr ni).2.2 = false → (iIt ws wr ni).2.1 = [] → ∀ k ns ms, Ext A k → intsOf (iIt ws wr ni).1 ms → IsSl k ns 1 (ms.map intRow) → GCall P fF [s, .str w, ns] k fun v h' => ∃ x y, v = .tup [x, y] ∧ R v h') :
    WC P inFn (rdT 7) [] ts (A ++ [tkB sw wr] ++ B) (FQ [(4, none), (5, none)] R) := by
  have l9 : ∀ {n : Option Nat} {o : Nat}, loadF n (.ptr b9 o) (fun z => (A ++ [tkB sw wr] ++ B)[z]?) = ldB n o (.cells [x1, .int .i64 ni, .func (.func fF) [] []] true false) := loadF_at m9
  obtain ⟨RR, hRR⟩ : ∃ RR, RR = rdT 9 := ⟨_, rfl⟩
  rw [rd_B2, rd_8, ← hRR]
  unfold rb0 rb1 rb2 rb3 rb4 rb rd fn154
  simp only [ICode.dr, ICode.tl, ICode.hd, ICode.inn]
  repeat (first | simp (maxSteps := 1000000) only [wset, hset, dset, bset, reduceAdd, reduceMul, reduceLeDiff, reduceEqDiff, pset, hlen, if_false, if_true, t0, t6, t8, t9, t11, l9] | simp (maxSteps := 1000000) (disch := first | (simp only [List.length_append, List.length_cons, List.length_nil] <;> omega) | rfl | omega | fail) only [kset, wset, hset, dset, bset, reduceAdd, reduceMul, reduceLeDiff, reduceEqDiff, pset, hlen, if_false, if_true, t0, t6, t8, t9, t11, l9])
  refine WL.inv T.mix (fun n ts' h' => ∃ (k : Nat) (sw' ns : AV) (ms : List Int) (B' : AHeap), k ≤ ni ∧ n = ni - k ∧ h' = A ++ [tkB sw' (iIt ws wr k).2.2] ++ B' ∧ h'[b9]? = some (.cells [x1, .int .i64 ni, .func (.func fF) [] []] true false) ∧ IsSl A sw' 1 ((iIt ws wr k).2.1.map strRow) ∧ intsOf (iIt ws wr k).1 ms ∧ Fr (A.length + 1) h' ns 1 (ms.map intRow) ∧ sB ns ≠ some b9 ∧
      ts'.length = 69 ∧ slot ts' 0 = s ∧ slot ts' 6 = .ptr A.length 0 ∧ slot ts' 8 = .func (.func 196) [.ptr A.length 0] [] ∧ slot ts' 9 = .ptr b9 0 ∧ slot ts' 11 = .str w ∧ slot ts' 12 = ns ∧ slot ts' 39 = .int .i64 ni ∧ slot ts' 40 = .int .i64 k) ni
    ⟨0, sw, .nilSlice, [], B, by omega, rfl, rfl, m9, hs, trivial, .nil, by simp [sB], (by simp only [wset, hset, dset, bset, reduceAdd, reduceMul, reduceLeDiff, reduceEqDiff, pset, hlen, if_false, if_true, t0]), (by simp only [wset, hset, dset, bset, reduceAdd, reduceMul, reduceLeDiff, reduceEqDiff, pset, hlen, if_false, if_true, t0]), (by simp only [wset, hset, dset, bset, reduceAdd, reduceMul, reduceLeDiff, reduceEqDiff, pset, hlen, if_false, if_true, t6]), (by simp only [wset, hset, dset, bset, reduceAdd, reduceMul, reduceLeDiff, reduceEqDiff, pset, hlen, if_false, if_true, t8]), (by simp only [wset, hset, dset, bset, reduceAdd, reduceMul, reduceLeDiff, reduceEqDiff, pset, hlen, if_false, if_true, t9]), (by simp only [wset, hset, dset, bset, reduceAdd, reduceMul, reduceLeDiff, reduceEqDiff, pset, hlen, if_false, if_true, t11]), (by simp only [wset, hset, dset, bset, reduceAdd, reduceMul, reduceLeDiff, reduceEqDiff, pset, hlen, if_false, if_true, t0]), (by simp only [wset, hset, dset, bset, reduceAdd, reduceMul, reduceLeDiff, reduceEqDiff, pset, hlen, if_false, if_true, t0]), (by simp only [wset, hset, dset, bset, reduceAdd, reduceMul, reduceLeDiff, reduceEqDiff, pset, hlen, if_false, if_true]; rfl)⟩ ?_
  rintro _ ts' _ ⟨k, sw', ns, ms, B', hk, rfl, rfl, m9', hs', hms, hF, hnb, hlen', u0, u6, u8, u9, u11, u12, u39, u40⟩
  clear hlen t0 t6 t8 t9 t11 l9 m9 hs
  have hlen := hlen'
  have hml := intsOf_len hms
  rw [iIt_len] at hml
  by_cases hlt : k < ni
  · have e3 : (k : Int) < ni := by omega
    repeat (first | simp (maxSteps := 1000000) only [wset, hset, dset, bset, reduceAdd, reduceMul, reduceLeDiff, reduceEqDiff, pset, hlen, if_false, if_true, u0, u6, u8, u9, u11, u12, u39, u40, e3, decide_true] | simp (maxSteps := 1000000) (disch := first | (simp only [List.length_append, List.length_cons, List.length_nil] <;> omega) | rfl | omega | fail) only [kset, wset, hset, dset, bset, reduceAdd, reduceMul, reduceLeDiff, reduceEqDiff, pset, hlen, if_false, if_true, u0, u6, u8, u9, u11, u12, u39, u40, e3, decide_true])
    refine WF.gen T.c196 (g196 T hs' (fun x hx => hwl x (iIt_sub k x hx))) ?_
    rintro _ _ ⟨sw2, m, g, rfl, rfl, hs2, hm⟩
    have e1 : (iIt ws wr (k + 1)).2.1 = (wordS (iIt ws wr k).2.1 (iIt ws wr k).2.2).2.1 := rfl
    have e2 : (iIt ws wr (k + 1)).2.2 = ((wordS (iIt ws wr k).2.1 (iIt ws wr k).2.2).2.2 || !digOk (wordS (iIt ws wr k).2.1 (iIt ws wr k).2.2).1) := rfl
    have hms' : intsOf (iIt ws wr (k + 1)).1 (ms ++ [m]) := intsOf_app hms hm
    rw [← e1] at hs2
    rw [← e2]
    have eA : ∀ (x : ABlk), (A ++ [x]).length = A.length + 1 := fun x => by simp
    have hF1 : Fr (A.length + 1) (A ++ [tkB sw2 (iIt ws wr (k + 1)).2.2] ++ (B' ++ g)) ns 1 (ms.map intRow) := by
      have := (hF.swap' (B := A ++ [tkB sw2 (iIt ws wr (k + 1)).2.2]) (eA _) (eA _)).app g
      rwa [List.append_assoc] at this
    have m91 : (A ++ [tkB sw2 (iIt ws wr (k + 1)).2.2] ++ (B' ++ g))[b9]? = some (.cells [x1, .int .i64 ni, .func (.func fF) [] []] true false) := by
      rw [← List.append_assoc]
      refine Ext.some (Ext.app g (Ext.refl _)) ?_
      rw [at_swap (K' := tkB sw' (iIt ws wr k).2.2) (by omega)]
      exact m9'
    repeat (first | simp (maxSteps := 1000000) only [wset, hset, dset, bset, reduceAdd, reduceMul, reduceLeDiff, reduceEqDiff, pset, hlen, if_false, if_true, u0, u6, u8, u9, u11, u12, u39, u40] | simp (maxSteps := 1000000) (disch := first | (simp only [List.length_append, List.length_cons, List.length_nil] <;> omega) | rfl | omega | fail) only [kset, wset, hset, dset, bset, reduceAdd, reduceMul, reduceLeDiff, reduceEqDiff, pset, hlen, if_false, if_true, u0, u6, u8, u9, u11, u12, u39, u40])
    refine WR.app1 (w := 8) (h0 := A ++ [tkB sw2 (iIt ws wr (k + 1)).2.2]) (cs := ms.map intRow) (ys := [intRow m]) ?f1 (Fr.push (N := 0) (Nat.zero_le _) [intRow m] (by simp)).isSl (by decide) (by simp) (by simp; omega) (by repeat first | with_reducible exact Ext.refl _ | refine Ext.app _ ?_) ?_
    case f1 => rw [eA]; exact hF1.app _
    intro g2 hl2 hF2 hkp
    have er : ms.map intRow ++ [intRow m] = (ms ++ [m]).map intRow := by rw [List.map_append]; rfl
    rw [er, eA] at hF2
    rw [er]
    have hb9l := (List.getElem?_eq_some_iff.1 m91).1
    have m92 : (A ++ [tkB sw2 (iIt ws wr (k + 1)).2.2] ++ g2)[b9]? = some (.cells [x1, .int .i64 ni, .func (.func fF) [] []] true false) := by
      rw [hkp b9 (by rw [List.length_append]; omega) (fun b0 o n e he => by rintro rfl; exact hnb (by rw [he]; rfl))]
      exact Ext.some (Ext.app _ (Ext.refl _)) m91
    repeat (first | simp (maxSteps := 1000000) only [wset, hset, dset, bset, reduceAdd, reduceMul, reduceLeDiff, reduceEqDiff, pset, hlen, if_false, if_true, u0, u6, u8, u9, u11, u12, u39, u40, wrapN (show k + 1 < 2 ^ 63 by omega)] | simp (maxSteps := 1000000) (disch := first | (simp only [List.length_append, List.length_cons, List.length_nil] <;> omega) | rfl | omega | fail) only [kset, wset, hset, dset, bset, reduceAdd, reduceMul, reduceLeDiff, reduceEqDiff, pset, hlen, if_false, if_true, u0, u6, u8, u9, u11, u12, u39, u40, wrapN (show k + 1 < 2 ^ 63 by omega)])
    refine ⟨ni - (k + 1), by omega, k + 1, sw2, _, ms ++ [m], g2, by omega, rfl, rfl, m92, hs2, hms', hF2, ?_, rfl, rfl⟩
    intro e
    have : (A ++ [tkB sw2 (iIt ws wr (k + 1)).2.2] ++ (B' ++ g) ++ [ABlk.cells [AV.int IntKind.i64 m] true true]).length = b9 := Option.some.inj e
    rw [List.length_append] at this
    omega
  · have e3 : ¬ (k : Int) < ni := by omega
    have ek : k = ni := by omega
    subst ek
    repeat (first | simp (maxSteps := 1000000) only [wset, hset, dset, bset, reduceAdd, reduceMul, reduceLeDiff, reduceEqDiff, pset, hlen, if_false, if_true, u0, u6, u8, u9, u11, u12, u39, u40, e3, decide_false] | simp (maxSteps := 1000000) (disch := first | (simp only [List.length_append, List.length_cons, List.length_nil] <;> omega) | rfl | omega | fail) only [kset, wset, hset, dset, bset, reduceAdd, reduceMul, reduceLeDiff, reduceEqDiff, pset, hlen, if_false, if_true, u0, u6, u8, u9, u11, u12, u39, u40, e3, decide_false])
    rw [hRR]
    exact read_C T (s := s) (sw := sw') (ns := ns) (b6 := A.length) (b9 := b9) (ws := (iIt ws wr k).2.1) (wr := (iIt ws wr k).2.2) (x1 := x1) (x2 := .int .i64 k) (w := w) (fF := fF) hAF (by simp only [wset, hset, dset, bset, reduceAdd, reduceMul, reduceLeDiff, reduceEqDiff, pset, hlen, if_false, if_true, u0]) (by simp only [wset, hset, dset, bset, reduceAdd, reduceMul, reduceLeDiff, reduceEqDiff, pset, hlen, if_false, if_true, u0]) (by simp only [wset, hset, dset, bset, reduceAdd, reduceMul, reduceLeDiff, reduceEqDiff, pset, hlen, if_false, if_true, u6]) (by simp only [wset, hset, dset, bset, reduceAdd, reduceMul, reduceLeDiff, reduceEqDiff, pset, hlen, if_false, if_true, u9]) (by simp only [wset, hset, dset, bset, reduceAdd, reduceMul, reduceLeDiff, reduceEqDiff, pset, hlen, if_false, if_true, u11]) (by simp only [wset, hset, dset, bset, reduceAdd, reduceMul, reduceLeDiff, reduceEqDiff, pset, hlen, if_false, if_true, u12]) (at_mid) m9' (hs'.ext (by repeat first | with_reducible exact Ext.refl _ | refine Ext.app _ ?_)) (fun hb => hbad hb _ (by repeat first | with_reducible exact Ext.refl _ | refine Ext.app _ ?_)) (fun h1 h2 => hadd h1 h2 _ _ ms (by repeat first | with_reducible exact Ext.refl _ | refine Ext.app _ ?_) hms hF.isSl)
set_option maxRecDepth 10000 in
set_option maxHeartbeats 1000000 in
theorem read_B1 {A B : AHeap} {s sw : AV} {b9 : Nat} {ts : TS} {ws : List (List UInt8)} {wr : Bool} {nw ni : Nat} {fF : Nat} {AF : AFunc} {R : AV → AHeap → Prop} (hAF : compileFn P fF = some AF) (hlen : ts.length = 69) (hni : ni ≤ 100) (hnw : nw ≤ 100)
    (t0 : slot ts 0 = s) (t6 : slot ts 6 = .ptr A.length 0) (t7 : slot ts 7 = .func (.func 195) [.ptr A.length 0] []) (t8 : slot ts 8 = .func (.func 196) [.ptr A.length 0] []) (t9 : slot ts 9 = .ptr b9 0)
    (m9 : (A ++ [tkB sw wr] ++ B)[b9]? = some (.cells [.int .i64 nw, .int .i64 ni, .func (.func fF) [] []] true false)) (hb9 : A.length < b9) (hs : IsSl A sw 1 (ws.map strRow)) (hwl : ∀ x ∈ ws, x.length ≤ 2 ^ 40)
    (hbad : ((iIt (wIt ws wr nw).2.1 (wIt ws wr nw).2.2 ni).2.2 = true ∨ (iIt (wIt ws wr nw).2.1 (wIt ws wr nw).2.2 ni).2.1 ≠ []) → ∀ k, Ext A k → R (.tup [.nilSlice, .bool false]) k)
    (hadd : (iIt (wIt ws wr nw).2.1 (wIt ws wr nw).2.2 ni).2.2 = false → (iIt (wIt ws wr nw).2.1 (wIt ws wr nw).2.2 ni).2.1 = [] → ∀ k ns ms, Ext A k → intsOf (iIt (wIt ws wr nw).2.1 (wIt ws wr nw).2.2 ni).1 ms → IsSl k ns 1 (ms.map intRow) → GCall P fF [s, .str (wIt ws wr nw).1, ns] k fun v h' => ∃ x y, v = .tup [x, y] ∧ R v h') :
    WC P inFn (rdT 5) [] ts (A ++ [tkB sw wr] ++ B) (FQ [(4, none), (5, none)] R) := by
  have l9 : ∀ {n : Option Nat} {o : Nat}, loadF n (.ptr b9 o) (fun z => (A ++ [tkB sw wr] ++ B)[z]?) = ldB n o (.cells [.int .i64 nw, .int .i64 ni, .func (.func fF) [] []] true false) := loadF_at m9
  obtain ⟨RR, hRR⟩ : ∃ RR, RR = rdT 7 := ⟨_, rfl⟩
  rw [rd_B1, rd_6, ← hRR]
  unfold ra0 ra1 ra2 ra3 ra4 ra rd fn154
  simp only [ICode.dr, ICode.tl, ICode.hd, ICode.inn]
  repeat (first | simp (maxSteps := 1000000) only [wset, hset, dset, bset, reduceAdd, reduceMul, reduceLeDiff, reduceEqDiff, pset, hlen, if_false, if_true, t0, t6, t7, t8, t9, l9] | simp (maxSteps := 1000000) (disch := first | (simp only [List.length_append, List.length_cons, List.length_nil] <;> omega) | rfl | omega | fail) only [kset, wset, hset, dset, bset, reduceAdd, reduceMul, reduceLeDiff, reduceEqDiff, pset, hlen, if_false, if_true, t0, t6, t7, t8, t9, l9])
  refine WL.inv T.mix (fun n ts' h' => ∃ (k : Nat) (sw' : AV), k ≤ nw ∧ n = nw - k ∧ h' = A ++ [tkB sw' (wIt ws wr k).2.2] ++ B ∧ IsSl A sw' 1 ((wIt ws wr k).2.1.map strRow) ∧
      ts'.length = 69 ∧ slot ts' 0 = s ∧ slot ts' 6 = .ptr A.length 0 ∧ slot ts' 7 = .func (.func 195) [.ptr A.length 0] [] ∧ slot ts' 8 = .func (.func 196) [.ptr A.length 0] [] ∧ slot ts' 9 = .ptr b9 0 ∧ slot ts' 11 = .str (wIt ws wr k).1 ∧ slot ts' 32 = .int .i64 nw ∧ slot ts' 33 = .int .i64 k) nw
    ⟨0, sw, by omega, rfl, rfl, hs, (by simp only [wset, hset, dset, bset, reduceAdd, reduceMul, reduceLeDiff, reduceEqDiff, pset, hlen, if_false, if_true, t0]), (by simp only [wset, hset, dset, bset, reduceAdd, reduceMul, reduceLeDiff, reduceEqDiff, pset, hlen, if_false, if_true, t0]), (by simp only [wset, hset, dset, bset, reduceAdd, reduceMul, reduceLeDiff, reduceEqDiff, pset, hlen, if_false, if_true, t6]), (by simp only [wset, hset, dset, bset, reduceAdd, reduceMul, reduceLeDiff, reduceEqDiff, pset, hlen, if_false, if_true, t7]), (by simp only [wset, hset, dset, bset, reduceAdd, reduceMul, reduceLeDiff, reduceEqDiff, pset, hlen, if_false, if_true, t8]), (by simp only [wset, hset, dset, bset, reduceAdd, reduceMul, reduceLeDiff, reduceEqDiff, pset, hlen, if_false, if_true, t9]), (by simp only [wset, hset, dset, bset, reduceAdd, reduceMul, reduceLeDiff, reduceEqDiff, pset, hlen, if_false, if_true]; rfl), (by simp only [wset, hset, dset, bset, reduceAdd, reduceMul, reduceLeDiff, reduceEqDiff, pset, hlen, if_false, if_true, t0]), (by simp only [wset, hset, dset, bset, reduceAdd, reduceMul, reduceLeDiff, reduceEqDiff, pset, hlen, if_false, if_true]; rfl)⟩ ?_
  rintro _ ts' _ ⟨k, sw', hk, rfl, rfl, hs', hlen', u0, u6, u7, u8, u9, u11, u32, u33⟩
  clear hlen t0 t6 t7 t8 t9 l9
  have hlen := hlen'
  by_cases hlt : k < nw
  · have e3 : (k : Int) < nw := by omega
    repeat (first | simp (maxSteps := 1000000) only [wset, hset, dset, bset, reduceAdd, reduceMul, reduceLeDiff, reduceEqDiff, pset, hlen, if_false, if_true, u0, u6, u7, u8, u9, u11, u32, u33, e3, decide_true] | simp (maxSteps := 1000000) (disch := first | (simp only [List.length_append, List.length_cons, List.length_nil] <;> omega) | rfl | omega | fail) only [kset, wset, hset, dset, bset, reduceAdd, reduceMul, reduceLeDiff, reduceEqDiff, pset, hlen, if_false, if_true, u0, u6, u7, u8, u9, u11, u32, u33, e3, decide_true])
    refine WF.gen T.c195 (g195 T hs') ?_
    rintro _ _ ⟨sw2, rfl, rfl, hs2⟩
    repeat (first | simp (maxSteps := 1000000) only [wset, hset, dset, bset, reduceAdd, reduceMul, reduceLeDiff, reduceEqDiff, pset, hlen, if_false, if_true, u0, u6, u7, u8, u9, u11, u32, u33, wrapN (show k + 1 < 2 ^ 63 by omega)] | simp (maxSteps := 1000000) (disch := first | (simp only [List.length_append, List.length_cons, List.length_nil] <;> omega) | rfl | omega | fail) only [kset, wset, hset, dset, bset, reduceAdd, reduceMul, reduceLeDiff, reduceEqDiff, pset, hlen, if_false, if_true, u0, u6, u7, u8, u9, u11, u32, u33, wrapN (show k + 1 < 2 ^ 63 by omega)])
    exact ⟨nw - (k + 1), by omega, k + 1, sw2, by omega, rfl, rfl, hs2, rfl, rfl⟩
  · have e3 : ¬ (k : Int) < nw := by omega
    have ek : k = nw := by omega
    subst ek
    repeat (first | simp (maxSteps := 1000000) only [wset, hset, dset, bset, reduceAdd, reduceMul, reduceLeDiff, reduceEqDiff, pset, hlen, if_false, if_true, u0, u6, u7, u8, u9, u11, u32, u33, e3, decide_false] | simp (maxSteps := 1000000) (disch := first | (simp only [List.length_append, List.length_cons, List.length_nil] <;> omega) | rfl | omega | fail) only [kset, wset, hset, dset, bset, reduceAdd, reduceMul, reduceLeDiff, reduceEqDiff, pset, hlen, if_false, if_true, u0, u6, u7, u8, u9, u11, u32, u33, e3, decide_false])
    rw [hRR]
    have m9' : (A ++ [tkB sw' (wIt ws wr k).2.2] ++ B)[b9]? = some (.cells [.int .i64 k, .int .i64 ni, .func (.func fF) [] []] true false) := by
      rw [at_swap (K' := tkB sw wr) (by omega)]; exact m9
    exact read_B2 T (s := s) (sw := sw') (b9 := b9) (ws := (wIt ws wr k).2.1) (wr := (wIt ws wr k).2.2) (x1 := .int .i64 k) (ni := ni) (w := (wIt ws wr k).1) (fF := fF) hAF (by simp only [wset, hset, dset, bset, reduceAdd, reduceMul, reduceLeDiff, reduceEqDiff, pset, hlen, if_false, if_true, u0]) hni (by simp only [wset, hset, dset, bset, reduceAdd, reduceMul, reduceLeDiff, reduceEqDiff, pset, hlen, if_false, if_true, u0]) (by simp only [wset, hset, dset, bset, reduceAdd, reduceMul, reduceLeDiff, reduceEqDiff, pset, hlen, if_false, if_true, u6]) (by simp only [wset, hset, dset, bset, reduceAdd, reduceMul, reduceLeDiff, reduceEqDiff, pset, hlen, if_false, if_true, u8]) (by simp only [wset, hset, dset, bset, reduceAdd, reduceMul, reduceLeDiff, reduceEqDiff, pset, hlen, if_false, if_true, u9]) (by simp only [wset, hset, dset, bset, reduceAdd, reduceMul, reduceLeDiff, reduceEqDiff, pset, hlen, if_false, if_true, u11]) m9' hb9 hs' (fun x hx => hwl x (wIt_sub k x hx)) hbad hadd
end
end Go.Abs
namespace Go.Abs
def stepW (M : List Hor) : List (List UInt8) → Option (List Hor)
  | [w, x, y] =>
    if w = hzS then (if x ≠ [] ∧ digOk y = true then some (M ++ [⟨x, digN y, []⟩]) else none)
    else if w = pkS then (if digOk x = true ∧ digOk y = true ∧ M ≠ [] then some (addPk M (digN x, digN y)) else none)
    else none
  | _ => none
def stepP (M : List Hor) (l : List UInt8) : Option (List Hor) := stepW M (splitB 32 l)
theorem digOk_nil : digOk [] = false := rfl
theorem hz_good {r : List (List UInt8)} (h1 : (iIt (wIt r false 1).2.1 (wIt r false 1).2.2 1).2.2 = false) (h2 : (iIt (wIt r false 1).2.1 (wIt r false 1).2.2 1).2.1 = []) :
    ∃ x y, r = [x, y] ∧ x ≠ [] ∧ digOk y = true ∧ (wIt r false 1).1 = x ∧ (iIt (wIt r false 1).2.1 (wIt r false 1).2.2 1).1 = [y] := by
  match r with
  | [] => simp [iIt, wIt, wordS] at h1
  | [x] =>
    by_cases hx : x = []
    · simp [iIt, wIt, wordS, hx] at h1
    · simp [iIt, wIt, wordS, hx] at h1
  | x :: y :: t =>
    by_cases hx : x = []
    · simp [iIt, wIt, wordS, hx] at h1
    · by_cases hy : y = []
      · simp [iIt, wIt, wordS, hx, hy] at h1
      · simp [iIt, wIt, wordS, hx, hy] at h1 h2 ⊢
        exact ⟨x, y, ⟨⟨rfl, rfl, h2⟩, hx, h1, rfl, rfl⟩⟩
theorem hz_bad {r : List (List UInt8)} {M : List Hor} (h : (iIt (wIt r false 1).2.1 (wIt r false 1).2.2 1).2.2 = true ∨ (iIt (wIt r false 1).2.1 (wIt r false 1).2.2 1).2.1 ≠ []) : stepW M (hzS :: r) = none := by
  match r with
  | [] => rfl
  | [x] => rfl
  | x :: y :: z :: t => rfl
  | [x, y] =>
    rw [stepW, if_pos rfl]
    by_cases hx : x = []
    · simp [hx]
    · by_cases hy : y = []
      · simp [hy, digOk_nil]
      · simp [iIt, wIt, wordS, hx, hy] at h
        simp [h]
theorem pk_good {r : List (List UInt8)} (h1 : (iIt (wIt r false 0).2.1 (wIt r false 0).2.2 2).2.2 = false) (h2 : (iIt (wIt r false 0).2.1 (wIt r false 0).2.2 2).2.1 = []) :
    ∃ x y, r = [x, y] ∧ digOk x = true ∧ digOk y = true ∧ (iIt (wIt r false 0).2.1 (wIt r false 0).2.2 2).1 = [x, y] := by
  match r with
  | [] => simp [iIt, wIt, wordS] at h1
  | [x] =>
    by_cases hx : x = []
    · simp [iIt, wIt, wordS, hx] at h1
    · simp [iIt, wIt, wordS, hx] at h1
  | x :: y :: t =>
    by_cases hx : x = []
    · simp [iIt, wIt, wordS, hx] at h1
    · by_cases hy : y = []
      · simp [iIt, wIt, wordS, hx, hy] at h1
      · simp [iIt, wIt, wordS, hx, hy] at h1 h2 ⊢
        exact ⟨x, y, ⟨⟨rfl, rfl, h2⟩, h1.1, h1.2, rfl, rfl⟩⟩
theorem pk_bad {r : List (List UInt8)} {M : List Hor} (h : (iIt (wIt r false 0).2.1 (wIt r false 0).2.2 2).2.2 = true ∨ (iIt (wIt r false 0).2.1 (wIt r false 0).2.2 2).2.1 ≠ []) : stepW M (pkS :: r) = none := by
  match r with
  | [] => rfl
  | [x] => rfl
  | x :: y :: z :: t => rfl
  | [x, y] =>
    rw [stepW, if_neg (by decide), if_pos rfl]
    by_cases hx : x = []
    · simp [hx, digOk_nil]
    · by_cases hy : y = []
      · simp [hy, digOk_nil]
      · simp [iIt, wIt, wordS, hx, hy] at h
        rcases h with h | h <;> simp [h]
theorem stepW_other {M : List Hor} {w : List UInt8} {r : List (List UInt8)} (h1 : w ≠ hzS) (h2 : w ≠ pkS) : stepW M (w :: r) = none := by
  match r with
  | [] => rfl
  | [x] => rfl
  | x :: y :: z :: t => rfl
  | [x, y] => rw [stepW, if_neg h1, if_neg h2]
def ReadR (h0 : AHeap) (L : List (Hor × AV)) (ws : List (List UInt8)) (v : AV) (k : AHeap) : Prop :=
  ∃ (g' : AHeap), k = h0 ++ g' ∧
    match stepW (L.map Prod.fst) ws with
    | some M => ∃ (L' : List (Hor × AV)) (s' : AV), L'.map Prod.fst = M ∧ v = .tup [s', .bool true] ∧ HsR h0.length (h0 ++ g') L' s'
    | none => ∃ s', v = .tup [s', .bool false]
theorem ReadR.bad {h0 : AHeap} {L : List (Hor × AV)} {ws : List (List UInt8)} {g : AHeap} {k : AHeap} (hs : stepW (L.map Prod.fst) ws = none) (hk : Ext (h0 ++ g) k) : ReadR h0 L ws (.tup [.nilSlice, .bool false]) k := by
  obtain ⟨z, rfl⟩ := hk
  refine ⟨g ++ z, by rw [List.append_assoc], ?_⟩
  rw [hs]
  exact ⟨_, rfl⟩
theorem addPk_app {M : List Hor} {H : Hor} {p : Pk} : addPk (M ++ [H]) p = M ++ [⟨H.name, H.err, H.picks ++ [p]⟩] := by
  simp [addPk, List.getLastD_eq_getLast?]
theorem rd_H : (fn154).body = .seq (rd 0) (.seq (rd 1) (.seq (rd 2) (.seq (rd 3) (.seq (rd 4) (rdT 5))))) := rfl
theorem GCall.mono {P : Program} {f : FuncId} {args : List AV} {h : AHeap} {R R' : AV → AHeap → Prop} (H : GCall P f args h R) (hr : ∀ v k, R v k → R' v k) : GCall P f args h R' := by
  obtain ⟨v, g, h1, h2⟩ := H; exact ⟨v, g, h1, hr v g h2⟩
attribute [local irreducible] WP WC WE WB WR WF WL WG WRg
section
variable {P : Program} (T : Tbl P)
include T
set_option maxRecDepth 10000 in
theorem lines2n {k : AHeap} {s : AV} (hs : IsSl k s 3 (([] : List (Hor × AV)).map horRow)) (w : List UInt8) (ns : AV) : GCall P 215 [s, .str w, ns] k (fun v h' => h' = k ∧ v = .tup [.nilSlice, .bool false]) := by
  refine .of T.mix T.c215 ?_
  unfold fn215
  have e := hs.lenm
  simp only [wset, hset, dset, bset, reduceAdd, reduceMul, reduceLeDiff, reduceEqDiff, e, List.length_nil, show decide (((0 : Nat) : Int) = 0) = true from rfl]
  try exact ⟨rfl, rfl⟩
theorem read_hz {h0 g k : AHeap} {L : List (Hor × AV)} {s ns : AV} (o : HsR h0.length (h0 ++ g) L s) (hl : L.length ≤ 2 ^ 40) {x y : List UInt8} (hx : x ≠ []) (hy : digOk y = true) (hk : Ext (h0 ++ g) k) {ms : List Int} (hms : intsOf [y] ms) (hns : IsSl k ns 1 (ms.map intRow)) :
    GCall P 214 [s, .str x, ns] k fun v h' => ∃ p q, v = .tup [p, q] ∧ ReadR h0 L [hzS, x, y] v h' := by
  obtain ⟨z, rfl⟩ := hk
  match ms, hms with
  | [m], hm =>
    rw [List.append_assoc] at hns ⊢
    have o2 := o.app z
    rw [List.append_assoc] at o2
    refine (g214 T o2 hl x hns).mono ?_
    rintro _ _ ⟨g', s', rfl, rfl, ho⟩
    refine ⟨_, _, rfl, g', rfl, ?_⟩
    rw [stepW, if_pos rfl, if_pos ⟨hx, hy⟩]
    exact ⟨_, s', by rw [List.map_append]; simp [hm.1 hy], rfl, ho⟩
theorem read_pk {h0 g k : AHeap} {L : List (Hor × AV)} {s ns : AV} (o : HsR h0.length (h0 ++ g) L s) (hl : L.length ≤ 2 ^ 40) (hp : ∀ x ∈ L, x.1.picks.length ≤ 2 ^ 40) {x y w : List UInt8} (hx : digOk x = true) (hy : digOk y = true) (hk : Ext (h0 ++ g) k) {ms : List Int} (hms : intsOf [x, y] ms) (hns : IsSl k ns 1 (ms.map intRow)) :
    GCall P 215 [s, .str w, ns] k fun v h' => ∃ p q, v = .tup [p, q] ∧ ReadR h0 L [pkS, x, y] v h' := by
  obtain ⟨z, rfl⟩ := hk
  match ms, hms with
  | [m, n], hm =>
    rw [List.append_assoc] at hns ⊢
    have o2 := o.app z
    rw [List.append_assoc] at o2
    rcases List.eq_nil_or_concat L with rfl | ⟨L1, ⟨H, p⟩, rfl⟩
    · refine (lines2n T (s := s) (k := h0 ++ (g ++ z)) o2.fr.isSl w ns).mono ?_
      rintro _ _ ⟨rfl, rfl⟩
      refine ⟨_, _, rfl, _, rfl, ?_⟩
      rw [stepW, if_neg (by decide), if_pos rfl, if_neg (by simp)]
      exact ⟨_, rfl⟩
    · rw [List.concat_eq_append] at *
      refine (g215 T o2 (by simp at hl; omega) (hp (H, p) (by simp)) w hns).mono ?_
      rintro _ _ ⟨g', p', rfl, rfl, ho⟩
      refine ⟨_, _, rfl, g', rfl, ?_⟩
      rw [stepW, if_neg (by decide), if_pos rfl, if_pos ⟨hx, hy, by simp⟩]
      refine ⟨_, s, ?_, rfl, ho⟩
      rw [List.map_append, List.map_append, List.map_cons, List.map_nil, List.map_cons, List.map_nil, addPk_app, hm.1 hx, hm.2.1 hy]
variable (X : Xtn P)
include X
set_option maxRecDepth 10000 in
set_option maxHeartbeats 2000000 in
theorem g154 {h0 g : AHeap} {L : List (Hor × AV)} {s : AV} (o : HsR h0.length (h0 ++ g) L s) (hl : L.length ≤ 2 ^ 40) (hp : ∀ x ∈ L, x.1.picks.length ≤ 2 ^ 40) (l : List UInt8) (hll : l.length ≤ 2 ^ 40) :
    GCall P 154 [s, .str l] (h0 ++ g) (ReadR h0 L (splitB 32 l)) := by
  refine .of T.mix T.c154 ?_
  obtain ⟨ts, hts⟩ : ∃ ts, ts = startTS 69 [s, .str l] := ⟨_, rfl⟩
  have hlen : ts.length = 69 := by rw [hts]; rfl
  have t0 : slot ts 0 = s := by rw [hts]; rfl
  have t1 : slot ts 1 = .str l := by rw [hts]; rfl
  show WC P inFn (fn154).body [] (startTS 69 [s, .str l]) (h0 ++ g) _
  rw [← hts, rd_H]
  clear hts
  obtain ⟨RR, hRR⟩ : ∃ RR, RR = rdT 5 := ⟨_, rfl⟩
  rw [← hRR]
  unfold rd fn154
  simp only [ICode.dr, ICode.tl, ICode.hd]
  repeat (first | simp (maxSteps := 1000000) only [wset, hset, dset, bset, reduceAdd, reduceMul, reduceLeDiff, reduceEqDiff, pset, hlen, if_false, if_true, t0, t1] | simp (maxSteps := 1000000) (disch := first | (simp only [List.length_append, List.length_cons, List.length_nil] <;> omega) | rfl | omega | fail) only [kset, wset, hset, dset, bset, reduceAdd, reduceMul, reduceLeDiff, reduceEqDiff, pset, hlen, if_false, if_true, t0, t1])
  refine WF.res T.c194 (r194 T X l 32 hll) ?_
  rintro sw g1 hs
  have hws := splitB_ne (c := 32) (s := l)
  have hwl : ∀ x ∈ splitB 32 l, x.length ≤ 2 ^ 40 := fun x hx => by have := splitB_le x hx; omega
  generalize splitB 32 l = ws at hs hws hwl ⊢
  obtain ⟨A, hA⟩ : ∃ A, A = h0 ++ g ++ g1 := ⟨_, rfl⟩
  have hEA : Ext (h0 ++ g) A := ⟨g1, hA⟩
  rw [← hA] at hs ⊢
  repeat (first | simp (maxSteps := 1000000) only [wset, hset, dset, bset, reduceAdd, reduceMul, reduceLeDiff, reduceEqDiff, pset, hlen, if_false, if_true, t0, t1, hs.one] | simp (maxSteps := 1000000) (disch := first | (simp only [List.length_append, List.length_cons, List.length_nil] <;> omega) | rfl | omega | fail) only [kset, wset, hset, dset, bset, reduceAdd, reduceMul, reduceLeDiff, reduceEqDiff, pset, hlen, if_false, if_true, t0, t1, hs.one])
  refine WF.res T.c197 (r197 T) ?_
  rintro _ g2 ⟨rfl, hg2⟩
  have hg2 := List.append_cancel_left hg2
  subst hg2
  repeat (first | simp (maxSteps := 1000000) only [wset, hset, dset, bset, reduceAdd, reduceMul, reduceLeDiff, reduceEqDiff, pset, hlen, if_false, if_true, t0, t1, hs.one] | simp (maxSteps := 1000000) (disch := first | (simp only [List.length_append, List.length_cons, List.length_nil] <;> omega) | rfl | omega | fail) only [kset, wset, hset, dset, bset, reduceAdd, reduceMul, reduceLeDiff, reduceEqDiff, pset, hlen, if_false, if_true, t0, t1, hs.one])
  refine WF.gen T.c195 (g195 T (A := A) (B := [fmB]) (wr := false) hs) ?_
  rintro _ _ ⟨sw2, rfl, rfl, hs2⟩
  cases ws with
  | nil => exact absurd rfl hws
  | cons w r =>
    have hwr : ∀ x ∈ r, x.length ≤ 2 ^ 40 := fun x hx => hwl x (List.mem_cons_of_mem _ hx)
    have look : ∀ {K K' : ABlk} {z : AV}, lookF .s z true (.map (A ++ [K]).length) (.str (wordS (w :: r) false).1) (fun b => (A ++ [K'] ++ [fmB])[b]?) = lookR z true (if (wordS (w :: r) false).1 = hzS then some fmH else if (wordS (w :: r) false).1 = pkS then some fmP else none) := by
      intro K K' z
      have hb : (fun b => (A ++ [K'] ++ [fmB])[b]?) (A ++ [K]).length = some (.mapb [(.str hzS, fmH), (.str pkS, fmP)]) := by
        have e : (A ++ [K]).length = (A ++ [K']).length := by simp
        show (A ++ [K'] ++ [fmB])[(A ++ [K]).length]? = _
        rw [e]; exact at_new
      exact lookF_at hb (find_fm _)
    have bx : ∀ {n : Nat}, boxF (AV.agg [AV.int IntKind.i64 0, AV.int IntKind.i64 0, AV.nilFunc]) n = some (.ptr n 0, .push (.cells [AV.int IntKind.i64 0, AV.int IntKind.i64 0, AV.nilFunc] true false)) := rfl
    have sx : ∀ {n : Nat}, stB 3 0 (AV.agg [AV.int IntKind.i64 0, AV.int IntKind.i64 0, AV.nilFunc]) n (ABlk.cells [AV.int IntKind.i64 0, AV.int IntKind.i64 0, AV.nilFunc] true false) = some (undefA, .set n (ABlk.cells [AV.int IntKind.i64 0, AV.int IntKind.i64 0, AV.nilFunc] true false)) := rfl
    by_cases hw : w = []
    · have e1 : wordS (w :: r) false = ([], [], true) := by rw [wordS, if_pos hw]
      rw [e1] at look ⊢
      simp only at look
      rw [if_neg (by decide), if_neg (by decide)] at look
      have lk : ∀ {K K' : ABlk} {z : AV}, _ = some (AV.tup [z, .bool false], Eff.keep) := @look
      repeat (first | simp (maxSteps := 1000000) only [wset, hset, dset, bset, reduceAdd, reduceMul, reduceLeDiff, reduceEqDiff, pset, hlen, if_false, if_true, t0, t1, stepT_look, lk, bx, sx, Bool.not_false] | simp (maxSteps := 1000000) (disch := first | (simp only [List.length_append, List.length_cons, List.length_nil] <;> omega) | rfl | omega | fail) only [kset, wset, hset, dset, bset, reduceAdd, reduceMul, reduceLeDiff, reduceEqDiff, pset, hlen, if_false, if_true, t0, t1, stepT_look, lk, bx, sx, Bool.not_false])
      exact .bad (stepW_other (by rw [hw]; decide) (by rw [hw]; decide)) (hEA.trans (by repeat first | with_reducible exact Ext.refl _ | refine Ext.app _ ?_))
    · have e1 : wordS (w :: r) false = (w, r, false) := by rw [wordS, if_neg hw]
      rw [e1] at hs2 look ⊢
      simp only at hs2 look ⊢
      by_cases h1 : w = hzS
      · subst h1
        rw [if_pos rfl] at look
        have lk : ∀ {K K' : ABlk} {z : AV}, _ = some (AV.tup [.agg [.int .i64 1, .int .i64 1, .func (.func 214) [] []], .bool true], Eff.keep) := @look
        repeat (first | simp (maxSteps := 1000000) only [wset, hset, dset, bset, reduceAdd, reduceMul, reduceLeDiff, reduceEqDiff, pset, hlen, if_false, if_true, t0, t1, stepT_look, lk, bx, Bool.not_true] | simp (maxSteps := 1000000) (disch := first | (simp only [List.length_append, List.length_cons, List.length_nil] <;> omega) | rfl | omega | fail) only [kset, wset, hset, dset, bset, reduceAdd, reduceMul, reduceLeDiff, reduceEqDiff, pset, hlen, if_false, if_true, t0, t1, stepT_look, lk, bx, Bool.not_true])
        rw [hRR, List.append_assoc (A ++ [tkB sw2 false]) [fmB]]
        refine read_B1 T (s := s) (sw := sw2) (b9 := (A ++ [tkB sw2 false] ++ [fmB]).length) (ws := r) (wr := false) (nw := 1) (ni := 1) (fF := 214) (R := ReadR h0 L (hzS :: r)) T.c214 (by simp only [wset, hset, dset, bset, reduceAdd, reduceMul, reduceLeDiff, reduceEqDiff, pset, hlen, if_false, if_true, t0]) (by decide) (by decide) (by simp only [wset, hset, dset, bset, reduceAdd, reduceMul, reduceLeDiff, reduceEqDiff, pset, hlen, if_false, if_true, t0]) (by simp only [wset, hset, dset, bset, reduceAdd, reduceMul, reduceLeDiff, reduceEqDiff, pset, hlen, if_false, if_true, t0]) (by simp only [wset, hset, dset, bset, reduceAdd, reduceMul, reduceLeDiff, reduceEqDiff, pset, hlen, if_false, if_true, t0]) (by simp only [wset, hset, dset, bset, reduceAdd, reduceMul, reduceLeDiff, reduceEqDiff, pset, hlen, if_false, if_true, t0]) (by simp only [wset, hset, dset, bset, reduceAdd, reduceMul, reduceLeDiff, reduceEqDiff, pset, hlen, if_false, if_true, t0]) ?_ (by simp) hs2 hwr (fun hb k hk => ReadR.bad (hz_bad hb) (hEA.trans hk)) ?_
        · rw [← List.append_assoc]; exact at_new
        · intro h1 h2 k ns ms hk hms hns
          obtain ⟨x, y, rfl, q1, q2, q3, q4⟩ := hz_good h1 h2
          rw [q4] at hms
          rw [q3]
          exact read_hz T o hl q1 q2 (hEA.trans hk) hms hns
      · rw [if_neg h1] at look
        by_cases h2 : w = pkS
        · subst h2
          rw [if_pos rfl] at look
          have lk : ∀ {K K' : ABlk} {z : AV}, _ = some (AV.tup [.agg [.int .i64 0, .int .i64 2, .func (.func 215) [] []], .bool true], Eff.keep) := @look
          repeat (first | simp (maxSteps := 1000000) only [wset, hset, dset, bset, reduceAdd, reduceMul, reduceLeDiff, reduceEqDiff, pset, hlen, if_false, if_true, t0, t1, stepT_look, lk, bx, Bool.not_true] | simp (maxSteps := 1000000) (disch := first | (simp only [List.length_append, List.length_cons, List.length_nil] <;> omega) | rfl | omega | fail) only [kset, wset, hset, dset, bset, reduceAdd, reduceMul, reduceLeDiff, reduceEqDiff, pset, hlen, if_false, if_true, t0, t1, stepT_look, lk, bx, Bool.not_true])
          rw [hRR, List.append_assoc (A ++ [tkB sw2 false]) [fmB]]
          refine read_B1 T (s := s) (sw := sw2) (b9 := (A ++ [tkB sw2 false] ++ [fmB]).length) (ws := r) (wr := false) (nw := 0) (ni := 2) (fF := 215) (R := ReadR h0 L (pkS :: r)) T.c215 (by simp only [wset, hset, dset, bset, reduceAdd, reduceMul, reduceLeDiff, reduceEqDiff, pset, hlen, if_false, if_true, t0]) (by decide) (by decide) (by simp only [wset, hset, dset, bset, reduceAdd, reduceMul, reduceLeDiff, reduceEqDiff, pset, hlen, if_false, if_true, t0]) (by simp only [wset, hset, dset, bset, reduceAdd, reduceMul, reduceLeDiff, reduceEqDiff, pset, hlen, if_false, if_true, t0]) (by simp only [wset, hset, dset, bset, reduceAdd, reduceMul, reduceLeDiff, reduceEqDiff, pset, hlen, if_false, if_true, t0]) (by simp only [wset, hset, dset, bset, reduceAdd, reduceMul, reduceLeDiff, reduceEqDiff, pset, hlen, if_false, if_true, t0]) (by simp only [wset, hset, dset, bset, reduceAdd, reduceMul, reduceLeDiff, reduceEqDiff, pset, hlen, if_false, if_true, t0]) ?_ (by simp) hs2 hwr (fun hb k hk => ReadR.bad (pk_bad hb) (hEA.trans hk)) ?_
          · rw [← List.append_assoc]; exact at_new
          · intro h1 h2 k ns ms hk hms hns
            obtain ⟨x, y, rfl, q1, q2, q4⟩ := pk_good h1 h2
            rw [q4] at hms
            exact read_pk T o hl hp q1 q2 (hEA.trans hk) hms hns
        · rw [if_neg h2] at look
          have lk : ∀ {K K' : ABlk} {z : AV}, _ = some (AV.tup [z, .bool false], Eff.keep) := @look
          repeat (first | simp (maxSteps := 1000000) only [wset, hset, dset, bset, reduceAdd, reduceMul, reduceLeDiff, reduceEqDiff, pset, hlen, if_false, if_true, t0, t1, stepT_look, lk, bx, sx, Bool.not_false] | simp (maxSteps := 1000000) (disch := first | (simp only [List.length_append, List.length_cons, List.length_nil] <;> omega) | rfl | omega | fail) only [kset, wset, hset, dset, bset, reduceAdd, reduceMul, reduceLeDiff, reduceEqDiff, pset, hlen, if_false, if_true, t0, t1, stepT_look, lk, bx, sx, Bool.not_false])
          exact .bad (stepW_other h1 h2) (hEA.trans (by repeat first | with_reducible exact Ext.refl _ | refine Ext.app _ ?_))
end
end Go.Abs
namespace Go.Abs
def foldP (M : List Hor) : List (List UInt8) → Option (List Hor)
  | [] => some M
  | p :: ps => (stepP M p).bind fun M' => foldP M' ps
def parsL (M : List Hor) : List (List UInt8) → Option (List Hor) × Nat
  | [] => (some M, 0)
  | [p] => if p = [] then (some M, 0) else (none, 0)
  | p :: q :: ps =>
    match stepP M p with
    | some M' => ((parsL M' (q :: ps)).1, (parsL M' (q :: ps)).2 + 1)
    | none => (none, 0)
def parseS (s : List UInt8) : List Hor × Nat × Int :=
  if 1000000 < s.length then ([], 0, 26) else
  match parsL [] (splitB 10 s) with
  | (none, n) => ([], n, 25)
  | (some M, n) => if chkHorsS M = 0 then (M, 0, 0) else ([], n, chkHorsS M)
theorem foldP_app {ps qs : List (List UInt8)} : ∀ {M : List Hor}, foldP M (ps ++ qs) = (foldP M ps).bind fun M' => foldP M' qs := by
  induction ps with
  | nil => intro M; rfl
  | cons p ps ih =>
    intro M
    rw [List.cons_append, foldP, foldP]
    cases stepP M p with
    | none => rfl
    | some M' => simp only [Option.bind_some]; exact ih
theorem parsL_at : ∀ {i : Nat} {ps : List (List UInt8)} {M M' : List Hor}, i < ps.length → foldP M (ps.take i) = some M' → parsL M ps = ((parsL M' (ps.drop i)).1, i + (parsL M' (ps.drop i)).2)
  | 0, ps, M, M', _, hf => by cases hf; simp
  | i + 1, [], M, M', hi, _ => by simp at hi
  | i + 1, [p], M, M', hi, _ => by simp at hi
  | i + 1, p :: q :: ps, M, M', hi, hf => by
    rw [List.take_succ_cons, foldP] at hf
    cases hs : stepP M p with
    | none => rw [hs] at hf; cases hf
    | some M1 =>
      rw [hs] at hf
      have := parsL_at (i := i) (ps := q :: ps) (M := M1) (M' := M') (by simpa using hi) hf
      rw [parsL, hs, List.drop_succ_cons]
      simp only [this]
      simp only [Prod.mk.injEq, true_and]
      omega
theorem foldP_step {i : Nat} {ps : List (List UInt8)} {M M1 M' : List Hor} (hi : i < ps.length) (hf : foldP M (ps.take i) = some M1) (hs : stepP M1 ps[i] = some M') : foldP M (ps.take (i + 1)) = some M' := by
  rw [take_succ' hi, foldP_app, hf]
  simp only [Option.bind_some, foldP, hs]
theorem lnP_len : ∀ {ps : List (List UInt8)}, ps ≠ [] → (lnP ps).length + 1 = ps.length ∧ ps.getLast? = some [] ∨ (lnP ps).length = ps.length ∧ ps.getLast? ≠ some []
  | [], h => absurd rfl h
  | [p], _ => by
    by_cases hp : p = []
    · left; simp [lnP, hp]
    · right; simp [lnP, hp]
  | p :: q :: r, _ => by
    have ih := lnP_len (ps := q :: r) (by simp)
    rw [lnP_cons (p := p) (r := q :: r) (by simp), List.getLast?_cons_cons]
    simp only [List.length_cons] at ih ⊢
    rcases ih with ih | ih
    · exact .inl ⟨by omega, ih.2⟩
    · exact .inr ⟨by omega, ih.2⟩
theorem lnP_case : ∀ {ps : List (List UInt8)} {i : Nat} (hi : i < (lnP ps).length), ∃ h2 : i < ps.length, (i + 1 < ps.length ∧ (lnP ps)[i] = ps[i] ++ [10]) ∨ (i + 1 = ps.length ∧ (lnP ps)[i] = ps[i] ∧ ps[i] ≠ [])
  | [], i, hi => by simp [lnP] at hi
  | [p], i, hi => by
    by_cases hp : p = []
    · simp only [lnP, hp, if_true, List.length_nil] at hi; omega
    · have e : lnP [p] = [p] := by rw [lnP, if_neg hp]
      simp only [e] at hi ⊢
      have : i = 0 := by simp at hi; omega
      subst this
      exact ⟨by simp, .inr (by simpa using hp)⟩
  | p :: q :: r, i, hi => by
    have e : lnP (p :: q :: r) = (p ++ [10]) :: lnP (q :: r) := lnP_cons (by simp)
    simp only [e] at hi ⊢
    cases i with
    | zero => exact ⟨by simp, .inl ⟨by simp, rfl⟩⟩
    | succ i =>
      obtain ⟨h2, h⟩ := lnP_case (ps := q :: r) (i := i) (by simpa using hi)
      refine ⟨by simpa using h2, ?_⟩
      rcases h with ⟨h3, h4⟩ | ⟨h3, h4, h5⟩
      · exact .inl ⟨by simpa using h3, by simpa using h4⟩
      · exact .inr ⟨by simpa using h3, by simpa using h4, by simpa using h5⟩
def BndM (n m : Nat) (M : List Hor) : Prop := M.length ≤ n ∧ ∀ H ∈ M, H.picks.length ≤ n ∧ H.name.length ≤ m
theorem stepP_bnd {M M' : List Hor} {l : List UInt8} {n m : Nat} (h : stepP M l = some M') (b : BndM n m M) (hl : l.length ≤ m) : BndM (n + 1) m M' := by
  have hle := fun p => splitB_le (c := 32) (s := l) p
  unfold stepP at h
  match hw : splitB 32 l with
  | [] => rw [hw] at h; cases h
  | [w] => rw [hw] at h; cases h
  | [w, x] => rw [hw] at h; cases h
  | w :: x :: y :: z :: t => rw [hw] at h; cases h
  | [w, x, y] =>
    rw [hw] at h hle
    have hx : x.length ≤ l.length := hle x (by simp)
    rw [stepW] at h
    by_cases h1 : w = hzS
    · rw [if_pos h1] at h
      by_cases h2 : x ≠ [] ∧ digOk y = true
      · rw [if_pos h2] at h
        cases h
        refine ⟨by simp; exact b.1, fun H hH => ?_⟩
        rcases List.mem_append.1 hH with hH | hH
        · have := b.2 H hH; omega
        · rw [List.mem_singleton] at hH; subst hH
          exact ⟨by simp, by show x.length ≤ m; omega⟩
      · rw [if_neg h2] at h; cases h
    · rw [if_neg h1] at h
      by_cases h2 : w = pkS
      · rw [if_pos h2] at h
        by_cases h3 : digOk x = true ∧ digOk y = true ∧ M ≠ []
        · rw [if_pos h3] at h
          cases h
          obtain ⟨q, H, rfl⟩ : ∃ q l, M = q ++ [l] := ⟨M.dropLast, M.getLast h3.2.2, (List.dropLast_concat_getLast h3.2.2).symm⟩
          rw [addPk_app]
          refine ⟨by have := b.1; simp at this ⊢; omega, fun K hK => ?_⟩
          rcases List.mem_append.1 hK with hK | hK
          · have := b.2 K (by simp [hK]); omega
          · rw [List.mem_singleton] at hK; subst hK
            have := b.2 H (by simp)
            exact ⟨by simp; omega, this.2⟩
        · rw [if_neg h3] at h; cases h
      · rw [if_neg h2] at h; cases h
theorem HsR.weak {N N' : Nat} {h : AHeap} {L : List (Hor × AV)} {s : AV} (o : HsR N h L s) (hn : N' ≤ N) : HsR N' h L s := by
  have w : ∀ {s : AV} {es : Nat} {cs : List (List AV)}, Fr N h s es cs → Fr N' h s es cs := fun f => by
    cases f with
    | nil => exact .nil
    | mk h1 h2 h3 => exact .mk (Nat.le_trans hn h1) h2 h3
  exact ⟨w o.fr, fun x hx => w (o.el x hx), o.ne, o.di⟩
theorem HsR.hors {N : Nat} {h : AHeap} {L : List (Hor × AV)} {s : AV} {n m : Nat} (o : HsR N h L s) (b : BndM n m (L.map Prod.fst)) (hn : n < 2 ^ 63) (hm : m < 2 ^ 63) : HorsOk h L s := by
  refine o.ok (by have := b.1; simp at this; omega) fun x hx => ?_
  have := b.2 x.1 (List.mem_map_of_mem hx)
  omega
end Go.Abs
namespace Go.Abs
def ParseR (N : Nat) (s : List UInt8) (v : AV) (k : AHeap) : Prop :=
  ∃ (L : List (Hor × AV)) (sv : AV) (n : Nat) (e : Int), v = .tup [sv, .int .i64 n, .int .i64 e] ∧ HsR N k L sv ∧ parseS s = (L.map Prod.fst, n, e)
theorem linesB_len {s : List UInt8} : (linesB s).length ≤ s.length + 1 := by
  have h1 := lnP_len (ps := splitB 10 s) splitB_ne
  have h2 := splitB_len (c := 10) (s := s)
  have h3 := List.count_le_length (a := (10 : UInt8)) (l := s)
  unfold linesB
  omega
theorem set_base {B g : AHeap} {b : Nat} {x : ABlk} (h : B.length ≤ b) : (B ++ g).set b x = B ++ g.set (b - B.length) x := List.set_append_right _ _ h
theorem get_base {B C g : AHeap} {b : Nat} (h : B.length ≤ b) (he : C.length = B.length) : (C ++ g)[b]? = (B ++ g)[b]? := by
  rw [List.getElem?_append_right h, List.getElem?_append_right (by omega), he]
attribute [local irreducible] WP WC WE WB WR WF WL WG WRg
section
variable {P : Program} (T : Tbl P) (X : Xtn P) {h : AHeap}
include T X
set_option maxRecDepth 10000 in
set_option maxHeartbeats 2000000 in
theorem r85 (s : List UInt8) (hs : s.length ≤ 2 ^ 40) : RCall P 85 [.str s] h (ParseR h.length s) := by
  refine .of T.mix T.c85 ?_
  unfold fn85
  by_cases h26 : 1000000 < s.length
  · have d0 : decide ((1000000 : Int) < s.length) = true := decide_eq_true (by omega)
    repeat (first | simp only [wset, hset, dset, bset, reduceAdd, reduceMul, reduceLeDiff, reduceEqDiff, d0] | simp (disch := first | (simp only [List.length_append, List.length_cons, List.length_nil] <;> omega) | rfl | omega | fail) only [kset, wset, hset, dset, bset, reduceAdd, reduceMul, reduceLeDiff, reduceEqDiff])
    exact ⟨[], _, 0, 26, rfl, .nil, by rw [parseS, if_pos h26]; rfl⟩
  · have d0 : decide ((1000000 : Int) < s.length) = false := decide_eq_false (by omega)
    repeat (first | simp only [wset, hset, dset, bset, reduceAdd, reduceMul, reduceLeDiff, reduceEqDiff, d0] | simp (disch := first | (simp only [List.length_append, List.length_cons, List.length_nil] <;> omega) | rfl | omega | fail) only [kset, wset, hset, dset, bset, reduceAdd, reduceMul, reduceLeDiff, reduceEqDiff])
    refine WF.res T.c152 (r152 T s) ?_
    rintro _ g1 ⟨b, rfl, hbl, hb⟩
    have hbl5 : h.length + 5 ≤ b := by simpa using hbl
    obtain ⟨ps, hps⟩ : ∃ ps, ps = splitB 10 s := ⟨_, rfl⟩
    have hpl : ∀ p ∈ ps, p.length ≤ s.length := fun p hp => splitB_le p (by rw [← hps]; exact hp)
    have hpn : ∀ p ∈ ps, (10 : UInt8) ∉ p := fun p hp => splitB_mem p (by rw [← hps]; exact hp)
    have hpne : ps ≠ [] := by rw [hps]; exact splitB_ne
    have hll := linesB_len (s := s)
    have hpsl : ps.length ≤ s.length + 1 := by
      have h2 := splitB_len (c := 10) (s := s)
      have h3 := List.count_le_length (a := (10 : UInt8)) (l := s)
      rw [hps]; omega
    have hlines : linesB s = lnP ps := by rw [hps]; rfl
    repeat (first | simp only [wset, hset, dset, bset, reduceAdd, reduceMul, reduceLeDiff, reduceEqDiff] | simp (disch := first | (simp only [List.length_append, List.length_cons, List.length_nil] <;> omega) | rfl | omega | fail) only [kset, wset, hset, dset, bset, reduceAdd, reduceMul, reduceLeDiff, reduceEqDiff])
    refine WC.iterS T.mix T.c191 (a := []) (c := [.ptr b 0]) (st := lnSt s) rfl (iter_lines T X hs b) (fun y hy => by obtain ⟨z, _, rfl⟩ := List.mem_map.1 hy; rfl)
      (fun i h' g => ∃ (M : List Hor) (L : List (Hor × AV)) (sv : AV) (g1' : AHeap), i + 1 ≤ ps.length ∧ foldP [] (ps.take i) = some M ∧ L.map Prod.fst = M ∧ BndM i s.length M ∧ h' = (h ++ [ABlk.cells [AV.nilSlice] true false] ++ [ABlk.cells [AV.int IntKind.i64 0] true false] ++ [ABlk.cells [AV.int IntKind.i64 0] true false] ++ [ABlk.cells [sv] true false] ++ [ABlk.cells [AV.int IntKind.i64 i] true false]) ++ g1' ∧ ∀ Y : AHeap, Y.length = h'.length + 1 → HsR Y.length (Y ++ g) L sv)
      (fun e h' g => e = .ret ∧ ∃ (n : Nat) (x5 x6 : AV) (g1' : AHeap), parsL [] ps = (none, n) ∧ h' = (h ++ [ABlk.cells [AV.nilSlice] true false] ++ [ABlk.cells [AV.int IntKind.i64 n] true false] ++ [ABlk.cells [AV.int IntKind.i64 25] true false] ++ [ABlk.cells [x5] true false] ++ [ABlk.cells [x6] true false]) ++ g1')
      ⟨[], [], .nilSlice, g1, by have := List.length_pos_iff.2 hpne; omega, rfl, rfl, ⟨by simp, by simp⟩, rfl, fun Y _ => .nil⟩ hb
      (fun i h' g g2 hI => ?_) (fun i h' g x hI => ?_) (fun i hi h' g R B hl hI hbi => ?_) (fun e h' g hl hI => ?_)
    · obtain ⟨M, L, sv, g1', q1, q2, q3, q4, q5, q6⟩ := hI
      refine ⟨M, L, sv, g1', q1, q2, q3, q4, q5, fun Y hY => ?_⟩
      have := (q6 Y hY).app g2
      rwa [List.append_assoc] at this
    · obtain ⟨M, L, sv, g1', q1, q2, q3, q4, rfl, q6⟩ := hI
      refine ⟨M, L, sv, _, q1, q2, q3, q4, set_base (by simpa using hbl5), fun Y hY => q6 Y (by rw [hY, List.length_set])⟩
    · obtain ⟨M, L, sv, g1', q1, q2, q3, q4, rfl, q6⟩ := hI
      have hil : i < (lnP ps).length := by rw [List.length_map, hlines] at hi; exact hi
      have eL : ((linesB s).map strRow)[i] = [.str ((lnP ps)[i])] := by
        rw [List.getElem_map]; simp only [hlines]; rfl
      rw [eL]
      obtain ⟨hip, hc⟩ := lnP_case hil
      have hpi := hpl _ (List.getElem_mem hip)
      have hpni := hpn _ (List.getElem_mem hip)
      have hdrop : ps.drop i = ps[i] :: ps.drop (i + 1) := List.drop_eq_getElem_cons hip
      have hpar := parsL_at hip q2
      rw [hdrop] at hpar
      simp only [wset, hset, dset, bset, reduceAdd, reduceMul, reduceLeDiff, reduceEqDiff, setArgs]
      have hl1 : g1'.length = g1.length := by simpa using hl
      refine ⟨_, g, rfl, by simp only [List.length_append, List.length_cons, List.length_nil]; omega, ?_⟩
      have hsv := (q6 ((h ++ [ABlk.cells [AV.nilSlice] true false] ++ [ABlk.cells [AV.int IntKind.i64 0] true false] ++ [ABlk.cells [AV.int IntKind.i64 0] true false] ++ [ABlk.cells [sv] true false] ++ [ABlk.cells [AV.int IntKind.i64 i] true false]) ++ g1' ++ [B]) (by simp only [List.length_append, List.length_cons, List.length_nil])).fr.isSl.one
      obtain ⟨w, hw⟩ : ∃ w, w = (lnP ps)[i] := ⟨_, rfl⟩
      rw [← hw] at hc ⊢
      have hwl : w.length ≤ 2 ^ 40 := by
        rcases hc with ⟨_, e⟩ | ⟨_, e, _⟩ <;> rw [e] <;> simp <;> omega
      obtain ⟨bo, hcut, hbo⟩ : ∃ bo, cutB 10 w = (ps[i], bo) ∧ (bo = true ∧ i + 1 < ps.length ∨ bo = false ∧ i + 1 = ps.length ∧ ps[i] ≠ []) := by
        rcases hc with ⟨h1, e⟩ | ⟨h1, e, h2⟩
        · exact ⟨true, by rw [e]; exact cut_app T X, .inl ⟨rfl, h1⟩⟩
        · exact ⟨false, by rw [e]; exact cut_no T X hpni, .inr ⟨rfl, h1, h2⟩⟩
      clear hc eL
      obtain ⟨p, hp⟩ : ∃ p, p = ps[i] := ⟨_, rfl⟩
      have hst := fun M' (h : stepP M p = some M') => foldP_step hip q2 (by rw [← hp]; exact h)
      rw [← hp] at hcut hbo hpar hpi
      refine WF.res T.c153 (r153 T w 10 hwl) ?_
      rintro _ g2 rfl
      rw [hcut]
      repeat (first | simp only [wset, hset, dset, bset, reduceAdd, reduceMul, reduceLeDiff, reduceEqDiff, hsv] | simp (disch := first | (simp only [List.length_append, List.length_cons, List.length_nil] <;> omega) | rfl | omega | fail) only [kset, wset, hset, dset, bset, reduceAdd, reduceMul, reduceLeDiff, reduceEqDiff, hsv])
      have o := (q6 ((h ++ [ABlk.cells [AV.nilSlice] true false] ++ [ABlk.cells [AV.int IntKind.i64 0] true false] ++ [ABlk.cells [AV.int IntKind.i64 0] true false] ++ [ABlk.cells [sv] true false] ++ [ABlk.cells [AV.int IntKind.i64 i] true false]) ++ g1' ++ [B]) (by simp only [List.length_append, List.length_cons, List.length_nil])).app g2
      rw [List.append_assoc _ g g2] at o
      have hbM := q4.1
      have hLM : L.length = M.length := by rw [← q3, List.length_map]
      have hrd := g154 T X o (by omega) (fun x hx => by have := q4.2 x.1 (by rw [← q3]; exact List.mem_map_of_mem hx); omega) p (by omega)
      rw [← List.append_assoc _ g g2] at hrd
      refine WF.gen T.c154 hrd ?_
      rintro v k ⟨g3, rfl, hR⟩
      rw [q3] at hR
      have eP : stepW M (splitB 32 p) = stepP M p := rfl
      rw [eP] at hR
      have hbad : (stepP M p = none ∨ bo = false) → parsL [] ps = (none, i) := by
        intro hb
        rw [hpar]
        have : parsL M (p :: ps.drop (i + 1)) = (none, 0) := by
          rcases hbo with ⟨rfl, hlt⟩ | ⟨rfl, hlt, hne⟩
          · have hsp := hb.resolve_right (by simp)
            cases hd : ps.drop (i + 1) with
            | nil => have := congrArg List.length hd; simp at this; omega
            | cons q r => rw [parsL, hsp]
          · rw [List.drop_eq_nil_of_le (by omega), parsL, if_neg hne]
        rw [this]; rfl
      cases hsp : stepP M p with
      | none =>
        rw [hsp] at hR
        obtain ⟨s', rfl⟩ := hR
        have hpe := hbad (.inl hsp)
        cases bo with
        | true =>
          repeat (first | simp only [wset, hset, dset, bset, reduceAdd, reduceMul, reduceLeDiff, reduceEqDiff, Bool.not_true, Bool.not_false, WC_opsS, WQV_some, WQL_some, WQS_some, WQ_load, WQ_store, WQ_mov, acc_l0, acc_lc] | simp (disch := first | (simp only [List.length_append, List.length_cons, List.length_nil] <;> omega) | rfl | omega | fail) only [kset, wset, hset, dset, bset, reduceAdd, reduceMul, reduceLeDiff, reduceEqDiff, Bool.not_true, Bool.not_false, WC_opsS, WQV_some, WQL_some, WQS_some, WQ_load, WQ_store, WQ_mov, acc_l0, acc_lc])
          rw [WQ_nil]
          refine ⟨?_, ?_⟩
          · simp only [accOk_n, accOk_r, accOk_w, accN_n, accN_c, accNW_n, accNW_r, accNW_w, blk_r, blk_w, List.length_append, List.length_cons, List.length_nil, ne_eq, Option.some.injEq, and_true]
            omega
          · repeat (first | simp only [wset, hset, dset, bset, reduceAdd, reduceMul, reduceLeDiff, reduceEqDiff, accApp_w, accApp_r, accApp_n] | simp (disch := first | (simp only [List.length_append, List.length_cons, List.length_nil] <;> omega) | rfl | omega | fail) only [kset, wset, hset, dset, bset, reduceAdd, reduceMul, reduceLeDiff, reduceEqDiff, accApp_w, accApp_r, accApp_n])
            refine ⟨_, g3, rfl, by simp only [List.length_append, List.length_cons, List.length_nil]; omega, ?_⟩
            rw [if_neg (by simp)]
            first | exact ⟨i, _, _, g1', hpe, rfl⟩ | exact ⟨rfl, i, _, _, g1', hpe, rfl⟩
        | false =>
          repeat (first | simp only [wset, hset, dset, bset, reduceAdd, reduceMul, reduceLeDiff, reduceEqDiff, Bool.not_true, Bool.not_false, WC_opsS, WQV_some, WQL_some, WQS_some, WQ_load, WQ_store, WQ_mov, acc_l0, acc_lc] | simp (disch := first | (simp only [List.length_append, List.length_cons, List.length_nil] <;> omega) | rfl | omega | fail) only [kset, wset, hset, dset, bset, reduceAdd, reduceMul, reduceLeDiff, reduceEqDiff, Bool.not_true, Bool.not_false, WC_opsS, WQV_some, WQL_some, WQS_some, WQ_load, WQ_store, WQ_mov, acc_l0, acc_lc])
          rw [WQ_nil]
          refine ⟨?_, ?_⟩
          · simp only [accOk_n, accOk_r, accOk_w, accN_n, accN_c, accNW_n, accNW_r, accNW_w, blk_r, blk_w, List.length_append, List.length_cons, List.length_nil, ne_eq, Option.some.injEq, and_true]
            omega
          · repeat (first | simp only [wset, hset, dset, bset, reduceAdd, reduceMul, reduceLeDiff, reduceEqDiff, accApp_w, accApp_r, accApp_n] | simp (disch := first | (simp only [List.length_append, List.length_cons, List.length_nil] <;> omega) | rfl | omega | fail) only [kset, wset, hset, dset, bset, reduceAdd, reduceMul, reduceLeDiff, reduceEqDiff, accApp_w, accApp_r, accApp_n])
            refine ⟨_, g3, rfl, by simp only [List.length_append, List.length_cons, List.length_nil]; omega, ?_⟩
            rw [if_neg (by simp)]
            first | exact ⟨i, _, _, g1', hpe, rfl⟩ | exact ⟨rfl, i, _, _, g1', hpe, rfl⟩
      | some M' =>
        rw [hsp] at hR
        obtain ⟨L', s', q7, rfl, ho⟩ := hR
        have hs1 := ho.fr.isSl.one
        cases bo with
        | true =>
          have hlt : i + 1 < ps.length := by rcases hbo with ⟨_, h⟩ | ⟨h, _⟩; exact h; cases h
          repeat (first | simp only [wset, hset, dset, bset, reduceAdd, reduceMul, reduceLeDiff, reduceEqDiff, hs1, wrapN (show i + 1 < 2 ^ 63 by omega), Bool.not_true, Bool.not_false] | simp (disch := first | (simp only [List.length_append, List.length_cons, List.length_nil] <;> omega) | rfl | omega | fail) only [kset, wset, hset, dset, bset, reduceAdd, reduceMul, reduceLeDiff, reduceEqDiff, hs1, wrapN (show i + 1 < 2 ^ 63 by omega), Bool.not_true, Bool.not_false])
          refine ⟨_, g3, rfl, by simp only [List.length_append, List.length_cons, List.length_nil]; omega, ?_⟩
          rw [if_pos trivial]
          refine ⟨⟨M', L', s', g1', by omega, hst M' hsp, q7, stepP_bnd hsp q4 hpi, rfl, fun Y hY => ?_⟩, ?_⟩
          · have e : Y.length = List.length ((h ++ [ABlk.cells [AV.nilSlice] true false] ++ [ABlk.cells [AV.int IntKind.i64 0] true false] ++ [ABlk.cells [AV.int IntKind.i64 0] true false] ++ [ABlk.cells [sv] true false] ++ [ABlk.cells [AV.int IntKind.i64 i] true false]) ++ g1' ++ [B]) := by rw [hY]; simp only [List.length_append, List.length_cons, List.length_nil]
            have := ho.swap (B := Y) e
            rwa [← e] at this
          · rw [← hbi]
            exact get_base (by simpa using hbl5) (by simp only [List.length_append, List.length_cons, List.length_nil])
        | false =>
          have hpe := hbad (.inr rfl)
          repeat (first | simp only [wset, hset, dset, bset, reduceAdd, reduceMul, reduceLeDiff, reduceEqDiff, hs1, Bool.not_true, Bool.not_false, WC_opsS, WQV_some, WQL_some, WQS_some, WQ_load, WQ_store, WQ_mov, acc_l0, acc_lc] | simp (disch := first | (simp only [List.length_append, List.length_cons, List.length_nil] <;> omega) | rfl | omega | fail) only [kset, wset, hset, dset, bset, reduceAdd, reduceMul, reduceLeDiff, reduceEqDiff, hs1, Bool.not_true, Bool.not_false, WC_opsS, WQV_some, WQL_some, WQS_some, WQ_load, WQ_store, WQ_mov, acc_l0, acc_lc])
          rw [WQ_nil]
          refine ⟨?_, ?_⟩
          · simp only [accOk_n, accOk_r, accOk_w, accN_n, accN_c, accNW_n, accNW_r, accNW_w, blk_r, blk_w, List.length_append, List.length_cons, List.length_nil, ne_eq, Option.some.injEq, and_true]
            omega
          · repeat (first | simp only [wset, hset, dset, bset, reduceAdd, reduceMul, reduceLeDiff, reduceEqDiff, accApp_w, accApp_r, accApp_n] | simp (disch := first | (simp only [List.length_append, List.length_cons, List.length_nil] <;> omega) | rfl | omega | fail) only [kset, wset, hset, dset, bset, reduceAdd, reduceMul, reduceLeDiff, reduceEqDiff, accApp_w, accApp_r, accApp_n])
            refine ⟨_, g3, rfl, by simp only [List.length_append, List.length_cons, List.length_nil]; omega, ?_⟩
            rw [if_neg (by simp)]
            first | exact ⟨i, _, _, g1', hpe, rfl⟩ | exact ⟨rfl, i, _, _, g1', hpe, rfl⟩
    · by_cases hen : e = .normal
      · subst hen
        rw [if_pos rfl] at hI
        obtain ⟨M, L, sv, g1', q1, q2, q3, q4, rfl, q6⟩ := hI
        rw [List.length_map, hlines] at q1 q2
        obtain ⟨i, hi⟩ : ∃ i, i = (lnP ps).length := ⟨_, rfl⟩
        rw [← hi] at q1 q2
        have hln := lnP_len hpne
        have hln2 : i + 1 = ps.length ∧ ps.getLast? = some [] := by
          rcases hln with ⟨h1, h2⟩ | ⟨h1, _⟩
          · exact ⟨by omega, h2⟩
          · omega
        have hpar : parsL [] ps = (some M, i) := by
          have hip : i < ps.length := by omega
          rw [parsL_at hip q2, List.drop_eq_getElem_cons hip, List.drop_eq_nil_of_le (by omega)]
          have : ps[i] = [] := by
            have := hln2.2
            rw [List.getLast?_eq_getElem?, show ps.length - 1 = i by omega, List.getElem?_eq_getElem hip] at this
            exact Option.some.inj this
          rw [parsL, if_pos this]; rfl
        have hq : parseS s = if chkHorsS M = 0 then (M, 0, 0) else ([], i, chkHorsS M) := by
          rw [parseS, if_neg h26, ← hps, hpar]
        have eI : (List.map strRow (linesB s)).length = i := by rw [List.length_map, hlines, hi]
        rw [eI] at q4 q6 ⊢
        have o := q6 ((h ++ [ABlk.cells [AV.nilSlice] true false] ++ [ABlk.cells [AV.int IntKind.i64 0] true false] ++ [ABlk.cells [AV.int IntKind.i64 0] true false] ++ [ABlk.cells [sv] true false] ++ [ABlk.cells [AV.int IntKind.i64 i] true false]) ++ g1' ++ [ABlk.dead]) (by simp only [List.length_append, List.length_cons, List.length_nil])
        have hsv := o.fr.isSl.one
        have hok : HorsOk ((h ++ [ABlk.cells [AV.nilSlice] true false] ++ [ABlk.cells [AV.int IntKind.i64 0] true false] ++ [ABlk.cells [AV.int IntKind.i64 0] true false] ++ [ABlk.cells [sv] true false] ++ [ABlk.cells [AV.int IntKind.i64 i] true false]) ++ g1' ++ [ABlk.dead] ++ g) L sv := o.hors (by rw [q3]; exact q4) (by omega) (by omega)
        repeat (first | simp only [wset, hset, dset, bset, reduceAdd, reduceMul, reduceLeDiff, reduceEqDiff, hsv] | simp (disch := first | (simp only [List.length_append, List.length_cons, List.length_nil] <;> omega) | rfl | omega | fail) only [kset, wset, hset, dset, bset, reduceAdd, reduceMul, reduceLeDiff, reduceEqDiff, hsv])
        refine WF.res T.c27 (r27 T hok) ?_
        rintro _ g4 rfl
        rw [q3]
        by_cases hch : chkHorsS M = 0
        · have d1 : decide (chkHorsS M ≠ 0) = false := decide_eq_false (by simp [hch])
          repeat (first | simp only [wset, hset, dset, bset, reduceAdd, reduceMul, reduceLeDiff, reduceEqDiff, hsv, d1] | simp (disch := first | (simp only [List.length_append, List.length_cons, List.length_nil] <;> omega) | rfl | omega | fail) only [kset, wset, hset, dset, bset, reduceAdd, reduceMul, reduceLeDiff, reduceEqDiff, hsv, d1])
          have o2 := (q6 ((h ++ [ABlk.cells [sv] true false] ++ [ABlk.cells [AV.int IntKind.i64 0] true false] ++ [ABlk.cells [AV.int IntKind.i64 0] true false] ++ [ABlk.cells [sv] true false] ++ [ABlk.cells [AV.int IntKind.i64 i] true false]) ++ g1' ++ [ABlk.dead]) (by simp only [List.length_append, List.length_cons, List.length_nil])).app g4
          exact ⟨L, sv, 0, 0, rfl, o2.weak (by simp only [List.length_append, List.length_cons, List.length_nil]; omega), by rw [hq, if_pos hch, q3]⟩
        · have d1 : decide (chkHorsS M ≠ 0) = true := decide_eq_true hch
          repeat (first | simp only [wset, hset, dset, bset, reduceAdd, reduceMul, reduceLeDiff, reduceEqDiff, hsv, d1, WC_opsS, WQV_some, WQL_some, WQS_some, WQ_load, WQ_store, WQ_mov, acc_l0, acc_lc] | simp (disch := first | (simp only [List.length_append, List.length_cons, List.length_nil] <;> omega) | rfl | omega | fail) only [kset, wset, hset, dset, bset, reduceAdd, reduceMul, reduceLeDiff, reduceEqDiff, hsv, d1, WC_opsS, WQV_some, WQL_some, WQS_some, WQ_load, WQ_store, WQ_mov, acc_l0, acc_lc])
          rw [WQ_nil]
          refine ⟨?_, ?_⟩
          · simp only [accOk_n, accOk_r, accOk_w, accN_n, accN_c, accNW_n, accNW_r, accNW_w, blk_r, blk_w, List.length_append, List.length_cons, List.length_nil, ne_eq, Option.some.injEq, and_true]
            omega
          · repeat (first | simp only [wset, hset, dset, bset, reduceAdd, reduceMul, reduceLeDiff, reduceEqDiff, accApp_w, accApp_r, accApp_n] | simp (disch := first | (simp only [List.length_append, List.length_cons, List.length_nil] <;> omega) | rfl | omega | fail) only [kset, wset, hset, dset, bset, reduceAdd, reduceMul, reduceLeDiff, reduceEqDiff, accApp_w, accApp_r, accApp_n])
            exact ⟨[], _, i, _, rfl, .nil, by rw [hq, if_neg hch]; rfl⟩
      · rw [if_neg hen] at hI
        obtain ⟨rfl, n, x5, x6, g1', q1, rfl⟩ := hI
        repeat (first | simp only [wset, hset, dset, bset, reduceAdd, reduceMul, reduceLeDiff, reduceEqDiff] | simp (disch := first | (simp only [List.length_append, List.length_cons, List.length_nil] <;> omega) | rfl | omega | fail) only [kset, wset, hset, dset, bset, reduceAdd, reduceMul, reduceLeDiff, reduceEqDiff])
        exact ⟨[], _, n, 25, rfl, .nil, by rw [parseS, if_neg h26, ← hps, q1]; rfl⟩
end
end Go.Abs
