/- The abstract layer: loops over functions, by what the function yields. No condition. · The abstract layer: append on an empty literal; stores into a slice of one's own; make and copy. No condition. · Contracts, part N: the law's copies, and comparisons. No condition. · Contracts, part O: a fault. No condition. · Contracts, part P: the reference's fault; steps. No condition. · Contracts, part Q: the reference's steps; rounding. No condition. · Contracts, part R: the common places of two horizons; a filled horizon. No condition. · Contracts, part S: the reference's filled horizon. No condition. · Contracts, part T: where a horizon crosses another one. No condition. · Contracts, part U: the reference's places and crossings; the first crossing of a list. No condition. · Contracts, part W: where two horizons differ. No condition. · Contracts, part X: the common ground of two horizons. No condition. · The best of some shifts, in two ways. No condition. · Contracts, part Y: where two horizons differ, by the reference. No condition. · Contracts, part Z: matches. No condition. · Contracts, part AA: the match of two horizons, both ways. No condition. · Plain facts on the lines between picks. No condition. · Plain facts on filled horizons, steps, and faults that are undone. No condition. · What common grounds promise, in plain Lean. No condition. · Contracts, part AB: lists of intervals are compared. No condition. · Contracts, part AC: whether a list has an integer. No condition. · Contracts, part AH: stores of whole elements. No condition. · Laws are walked in pieces. No condition. · The abstract layer: slots of a long row, one by one. No condition. · The abstract layer, part RH: rules for the regions whose stores may come before loads of other blocks. No condition. -/
import Derived.Test.YtjhdkimkijhloaaGreatDoorGd3
import Derived.Test.YtjhdkimkijhloaaGreatDoorGd5
set_option linter.all false
namespace Go.Abs

theorem lh_get {h' : AHeap} {X : ABlk} {g : AHeap} {n : Nat} (hn : h'.length = n) : (h' ++ [X] ++ g)[n]? = some X := by
  subst hn
  rw [List.append_assoc, List.getElem?_append_right (Nat.le_refl _), Nat.sub_self]; rfl
theorem lh_set {h' : AHeap} {X Y : ABlk} {g : AHeap} {n : Nat} (hn : h'.length = n) : (h' ++ [X] ++ g).set n Y = h' ++ [Y] ++ g := by
  subst hn
  rw [List.append_assoc, List.set_append_right _ _ (Nat.le_refl _), Nat.sub_self, List.append_assoc]; rfl

/-- A function calls yield with one list of arguments after the other, until yield says no. -/
structure Iter (P : Program) (f : FuncId) (a c : List AV) (L : List (List AV)) (pre : AHeap → Prop) : Prop where
  run : ∀ (l : Nat) (h : AHeap) (J : Nat → AHeap → Prop) (D : AHeap → Prop), (∀ i k, J i k → pre k) → (∀ i k g, J i k → J i (k ++ g)) →
    (∀ i (hi : i < L.length) k, J i k → ∃ b k', SCallV P (.func (.yield l) [] []) L[i] k (.bool b) k' ∧ (if b = true then J (i + 1) k' else D k')) →
    (∀ k, J L.length k → D k) → J 0 h → GCall P f (a ++ [.func (.yield l) [] []] ++ c) h (fun _ k => D k)

section
variable {P : Program} {ks : List Kt} {ts : TS} {h : AHeap} {Q : Ex → TS → AHeap → Prop}

/-- THE STATEMENT 'for .. := range f { .. }', by an invariant on what was there before the loop, and on what came since. -/
theorem WC.iter (hmix : P.follows .mixedOrders = true) {f : FuncId} {A : AFunc} {a c : List AV} {L : List (List AV)} {pre : AHeap → Prop} {g : Opd} {ps : List Nat} {asg body : ICode} (hA : compileFn P f = some A)
    (hg : val ts g = .func (.func f) a c) (hi : Iter P f a c L pre) (hps : ∀ x ∈ L, x.length = ps.length) (I : Nat → AHeap → AHeap → Prop) (Fin : Ex → AHeap → AHeap → Prop)
    (h0 : I 0 h []) (hcl : ∀ i h' g g2, I i h' g → I i h' (g ++ g2)) (hpre : ∀ i h' g X, h'.length = h.length → I i h' g → pre (h' ++ [X] ++ g))
    (step : ∀ i (hi : i < L.length) h' g (R B : ABlk), h'.length = h.length → I i h' g →
      WC P inRd asg [] (setArgs ts ps L[i]) (h' ++ [R] ++ g) fun e1 ts2 h2 => e1 = .normal ∧ ∃ h1 g1, h2 = h1 ++ [R] ++ g1 ∧ h1.length = h.length ∧
        WC P inRd body [] ts2 (h1 ++ [B] ++ g1) fun e2 _ h4 => ∃ h3 g3, h4 = h3 ++ [B] ++ g3 ∧ h3.length = h.length ∧ (if e2 = .normal then I (i + 1) h3 g3 else Fin e2 h3 g3))
    (done : ∀ e h' g, h'.length = h.length → (if e = .normal then I L.length h' g else Fin e h' g) → WE P inFn e ks ts (h' ++ [ABlk.dead] ++ g) Q) : WC P inFn (.rangeF g ps asg body) ks ts h Q := by
  let J : Nat → AHeap → Prop := fun i k => ∃ h' g, k = h' ++ [.loop .ready .normal ts ps asg body] ++ g ∧ h'.length = h.length ∧ I i h' g
  let D : AHeap → Prop := fun k => ∃ e h' g st, k = h' ++ [.loop st e ts ps asg body] ++ g ∧ h'.length = h.length ∧ st ≠ .busy ∧ (if e = .normal then I L.length h' g else Fin e h' g)
  obtain ⟨v, h2, hs, e, h', g', st, rfl, hl, hst, hfin⟩ := hi.run h.length (h ++ [.loop .ready .normal ts ps asg body]) J D
    (fun i k hJ => by obtain ⟨h', g, rfl, h1, h2⟩ := hJ; exact hpre i h' g _ h1 h2)
    (fun i k g2 hJ => by obtain ⟨h', g, rfl, h1, h2⟩ := hJ; exact ⟨h', g ++ g2, by rw [List.append_assoc], h1, hcl _ _ _ _ h2⟩)
    (fun i hi k hJ => by
      obtain ⟨h', g, rfl, h1, h2⟩ := hJ
      obtain ⟨e1, ts2, k2, q1, rfl, h3, g3, rfl, h4, q2⟩ := W.sound hmix (step i hi h' g (.loop .ready .normal ts ps asg body) (.loop .busy .normal ts ps asg body) h1 h2)
      obtain ⟨e2, ts3, k3, q3, h5, g5, rfl, h6, q4⟩ := W.sound hmix q2
      have hy : SCallV P (.func (.yield h.length) [] []) L[i] (h' ++ [.loop .ready .normal ts ps asg body] ++ g) (.bool (decide (e2 = .normal))) (List.set (h5 ++ [ABlk.loop .busy .normal ts ps asg body] ++ g5) h.length (ABlk.loop (if e2 = .normal then .ready else .done) e2 ts ps asg body)) :=
        SCallV.yield (lh_get h1) (hps _ (List.getElem_mem hi)) (fun r => q1 (some r) ⟨r, rfl⟩) (lh_get h4) (fun r => by rw [lh_set h4]; exact q3 (some r) ⟨r, rfl⟩) (lh_get h6)
      rw [lh_set h6] at hy
      refine ⟨decide (e2 = .normal), _, hy, ?_⟩
      by_cases he : e2 = .normal
      · subst he
        rw [if_pos rfl] at q4
        simp only [decide_true, if_true]
        exact ⟨h5, g5, rfl, h6, q4⟩
      · rw [if_neg he] at q4
        simp only [he, decide_false, Bool.false_eq_true, if_false]
        exact ⟨e2, h5, g5, .done, rfl, h6, by simp, by rw [if_neg he]; exact q4⟩)
    (fun k hJ => by obtain ⟨h', g, rfl, h1, h2⟩ := hJ; exact ⟨.normal, h', g, .ready, rfl, h1, by simp, by rw [if_pos rfl]; exact h2⟩)
    ⟨h, [], by rw [List.append_nil], rfl, h0⟩
  refine ⟨e, ts, h' ++ [ABlk.dead] ++ g', fun r hr => ?_, done e h' g' hl hfin⟩
  have : r = none := hr
  subst this
  have := Ev.rangeF (h := h) (ps := ps) (asg := asg) (body := body) hA hg hs (lh_get hl) hst
  rw [lh_set hl] at this
  exact this
end
end Go.Abs
namespace Go.Abs

theorem flatten_set {es : Nat} {v : AV} : ∀ {cs : List (List AV)}, (∀ x ∈ cs, x.length = es) → ∀ {i off : Nat} (hi : i < cs.length), off < es → cs.flatten.set (i * es + off) v = (cs.set i (cs[i].set off v)).flatten
  | [], _, i, off, hi, _ => absurd hi (Nat.not_lt_zero _)
  | c :: cs, h, 0, off, hi, ho => by
    have hc : c.length = es := h c (List.mem_cons_self ..)
    rw [List.flatten_cons, Nat.zero_mul, Nat.zero_add, List.set_append_left _ _ (by omega)]
    rfl
  | c :: cs, h, i + 1, off, hi, ho => by
    have hc : c.length = es := h c (List.mem_cons_self ..)
    have h1 := flatten_set (v := v) (cs := cs) (fun x hx => h x (List.mem_cons_of_mem _ hx)) (i := i) (off := off) (by simpa using hi) ho
    rw [List.flatten_cons, List.set_append_right _ _ (by rw [Nat.succ_mul]; omega), show (i + 1) * es + off - c.length = i * es + off by rw [Nat.succ_mul]; omega, h1]
    rfl

section
variable {P : Program} {ro : Option Nat → Prop} {ks : List Kt} {ts : TS} {Q : Ex → TS → AHeap → Prop} {d : Option Nat} {l : List IOp}

/-- append on a literal without elements: what is there is left alone. -/
theorem WR.appz {q : Bool} {N b es w : Nat} {h : AHeap} {y : AV} {ys : List (List AV)} (hb : h[b]? = some (.cells [] true false)) (hN : N ≤ b) (hy : IsSl h y es ys) (hsz : ys.length * w ≤ 2 ^ 46)
    (K : ∀ s' g, Fr N (h ++ g) s' es ys → WP P ro l ks (put ts d s') (h ++ g) Q) : WR P ro (appT es w (.slice b 0 0 es) y (fun b => h[b]?) h.length) q d l ks ts h Q := by
  have hbl : b < h.length := (List.getElem?_eq_some_iff.1 hb).1
  simp only [appT, hy.cellsG, if_true]
  by_cases hk : ys.length = 0
  · have hys : ys = [] := List.length_eq_zero_iff.1 hk
    subst hys
    simp only [List.length_nil, if_true, List.flatten_nil, List.isEmpty_nil]
    rw [WR_keep]
    have := K (.slice b 0 0 es) [] (by rw [List.append_nil]; exact Fr.mk (cs := []) hN hb (by simp))
    rwa [List.append_nil] at this
  · simp only [if_neg hk, Nat.zero_add, if_pos hsz, hb]
    rw [if_pos (by simp), WR_push]
    exact K _ _ (Fr.push (by omega) ys hy.rows)

/-- A store of one cell into a slice of one's own. -/
theorem WR.put1 {α : Type} {row : α → List AV} {L : List α} {h0 g : AHeap} {s v : AV} {es i off : Nat} {x' : α} (hs : Fr h0.length (h0 ++ g) s es (L.map row)) (hi : i < L.length) (ho : off < es) (hv : v.one = true) (hx : row x' = (row L[i]).set off v)
    (K : ∀ g', g'.length = g.length → Fr h0.length (h0 ++ g') s es ((L.set i x').map row) → (∀ b, (∀ b0 o n e, s = .slice b0 o n e → b ≠ b0) → (h0 ++ g')[b]? = (h0 ++ g)[b]?) → WP P ro l ks (put ts d undefA) (h0 ++ g') Q) :
    WR P ro (storeF 1 (elf s es i off) v (fun b => (h0 ++ g)[b]?)) false d l ks ts (h0 ++ g) Q := by
  have hrl := hs.isSl.rows
  generalize hcs : L.map row = cs at hs
  have hcl : cs.length = L.length := by rw [← hcs, List.length_map]
  cases hs with
  | nil => simp at hcl; omega
  | @mk b _ _ tl hN hb he =>
    have hfl := flatten_len he
    have hie : i * es + off < cs.flatten.length := by
      rw [hfl, hcl]
      have : (i + 1) * es ≤ L.length * es := Nat.mul_le_mul_right _ hi
      rw [Nat.succ_mul] at this; omega
    have hset : cs.flatten.set (i * es + off) v = ((L.set i x').map row).flatten := by
      have := flatten_set (v := v) he (i := i) (off := off) (by omega) ho
      rw [this, List.map_set, hx, hcs]
      congr 2
      simp [← hcs]
    have hbl : b < (h0 ++ g).length := (List.getElem?_eq_some_iff.1 hb).1
    show WR P ro (storeF 1 (.ptr b (0 + i * es + off)) v (fun b => (h0 ++ g)[b]?)) false d l ks ts (h0 ++ g) Q
    rw [Nat.zero_add, storeF_at hb, stB_one hv (by omega), WR_set, hset, List.set_append_right _ _ hN]
    refine K _ (by simp) ?_ fun b' hb' => ?_
    · have hl2 : ((L.set i x').map row).length = cs.length := by simp [hcl]
      rw [← hl2]
      refine Fr.mk hN (tl := tl) ?_ fun y hy => ?_
      · rw [List.getElem?_append_right hN, List.getElem?_set_self (by simp at hbl; omega)]
      · rw [List.map_set] at hy
        rcases List.mem_or_eq_of_mem_set hy with hy | hy
        · exact he y (by rw [← hcs]; exact hy)
        · rw [hy, hx, List.length_set]
          exact he _ (by rw [← hcs]; exact List.mem_map_of_mem (List.getElem_mem hi))
    · have hne := hb' b 0 _ _ rfl
      rw [← List.set_append_right _ _ hN, List.getElem?_set_ne (Ne.symm hne)]

end
end Go.Abs
namespace Go.Abs

def noHor : Hor := ⟨[], 0, []⟩
theorem HorOk.no {h : AHeap} : HorOk h noHor .nilSlice := ⟨.nil, by decide, by decide⟩

theorem drop_eq_step {α : Type} [DecidableEq α] {A B : List α} {k : Nat} (ha : k < A.length) (hb : k < B.length) : decide (A.drop k = B.drop k) = (decide (A[k] = B[k]) && decide (A.drop (k + 1) = B.drop (k + 1))) := by
  rw [List.drop_eq_getElem_cons ha, List.drop_eq_getElem_cons hb, Bool.eq_iff_iff]
  simp only [List.cons.injEq, decide_eq_true_eq, Bool.and_eq_true]
section
variable {P : Program} (T : Tbl P) {h : AHeap}
include T

theorem r79 {H : Hor} {s : AV} (hs : IsSl h s 2 (H.picks.map pkRow)) (hb : H.picks.length ≤ 2 ^ 40) : RCall P 79 [horA H s] h (fun v h' => ∃ s', v = horA H s' ∧ Fr h.length h' s' 2 (H.picks.map pkRow)) := by
  refine .of T.mix T.c79 ?_
  unfold fn79
  simp only [wset, hset, dset, bset, Nat.reduceAdd, Nat.reduceMul, Nat.reduceLeDiff, Nat.reduceEqDiff, hs.one]
  refine WR.appz (N := h.length + 2) at_new (by simp) (hs.ext (by repeat first | exact Ext.refl _ | refine Ext.app _ ?_)) (by simp; omega) fun s' g hf => ?_
  simp only [wset, hset, dset, bset, Nat.reduceAdd, Nat.reduceMul, Nat.reduceLeDiff, Nat.reduceEqDiff, hf.isSl.one]
  have e0 : ∀ K K' : ABlk, (h ++ [K] ++ [K']).length = h.length + 2 := fun _ _ => by simp
  rw [List.append_assoc] at hf ⊢
  exact ⟨s', rfl, (hf.swap' (e0 _ _) (e0 _ _)).low (by omega)⟩

theorem r40 {sa sb : AV} {A B : List Int} (ha : IsSl h sa 1 (A.map intRow)) (hb : IsSl h sb 1 (B.map intRow)) (hl : A.length < 2 ^ 63) : RCall P 40 [sa, sb] h (fun v _ => v = .bool (decide (A = B))) := by
  refine .of T.mix T.c40 ?_
  unfold fn40
  simp only [wset, hset, dset, bset, Nat.reduceAdd, Nat.reduceMul, Nat.reduceLeDiff, Nat.reduceEqDiff, ha.lenm, hb.lenm]
  by_cases hp : A.length = B.length
  case neg =>
    simp only [wset, hset, dset, bset, Nat.reduceAdd, Nat.reduceMul, Nat.reduceLeDiff, Nat.reduceEqDiff, show decide ((A.length : Int) ≠ (B.length : Int)) = true from by simp; omega]
    rw [show decide (A = B) = false from by simp; intro e; exact hp (by rw [e])]
  simp only [wset, hset, dset, bset, Nat.reduceAdd, Nat.reduceMul, Nat.reduceLeDiff, Nat.reduceEqDiff, show decide ((A.length : Int) ≠ (B.length : Int)) = false from by simp; omega]
  refine WL.inv T.mix (fun n ts h' => ∃ k : Nat, k ≤ A.length ∧ n = A.length - k ∧ h' = h ∧ decide (A = B) = decide (A.drop k = B.drop k) ∧ ts.length = 26 ∧ slot ts 0 = sa ∧ slot ts 1 = sb ∧ slot ts 5 = .int .i64 k) A.length
    ⟨0, by omega, rfl, rfl, rfl, rfl, rfl, rfl, rfl⟩ ?_
  rintro _ ts _ ⟨k, hk, rfl, rfl, hi, hlen, t0, t1, t5⟩
  rw [expl ts 26 hlen]
  by_cases hlt : k < A.length
  · have hltb : k < B.length := by omega
    have e3 : (k : Int) < A.length := by omega
    rw [drop_eq_step hlt hltb] at hi
    simp only [wset, hset, dset, bset, Nat.reduceAdd, Nat.reduceMul, Nat.reduceLeDiff, Nat.reduceEqDiff, t0, t1, t5, ha.lenm, e3, decide_true, ha.ixm hlt, ha.l1m hlt rfl (Ext.refl _), hb.ixm hltb, hb.l1m hltb rfl (Ext.refl _)]
    by_cases hq : A[k] = B[k]
    · rw [decide_eq_true hq, Bool.true_and] at hi
      simp only [wset, hset, dset, bset, Nat.reduceAdd, Nat.reduceMul, Nat.reduceLeDiff, Nat.reduceEqDiff, show decide (A[k] ≠ B[k]) = false from by simp [hq], t5, wrapN (show k + 1 < 2 ^ 63 by omega)]
      refine ⟨_, ?_, k + 1, by omega, rfl, hi, rfl⟩
      omega
    · rw [decide_eq_false hq, Bool.false_and] at hi
      simp only [wset, hset, dset, bset, Nat.reduceAdd, Nat.reduceMul, Nat.reduceLeDiff, Nat.reduceEqDiff, show decide (A[k] ≠ B[k]) = true from by simp [hq]]
      rw [hi]
  · have e3 : ¬ (k : Int) < A.length := by omega
    have e4 : k = A.length := by omega
    have e5 : k = B.length := by omega
    simp only [wset, hset, dset, bset, Nat.reduceAdd, Nat.reduceMul, Nat.reduceLeDiff, Nat.reduceEqDiff, t0, t1, t5, ha.lenm, e3, decide_false, if_true]
    rw [hi, e4, List.drop_length, ← e4, e5, List.drop_length]; rfl

theorem r33 {s : AV} {l : List Int} (hs : IsSl h s 1 (l.map intRow)) (hl : l.length < 2 ^ 63) : RCall P 33 [s] h (fun v _ => v = .int .i64 (firstS l)) := by
  refine .of T.mix T.c33 ?_
  unfold fn33
  simp only [wset, hset, dset, bset, Nat.reduceAdd, Nat.reduceMul, Nat.reduceLeDiff, Nat.reduceEqDiff]
  refine WF.res T.c98 (r98 T hs hl) ?_
  rintro _ g rfl
  simp only [wset, hset, dset, bset, Nat.reduceAdd, Nat.reduceMul, Nat.reduceLeDiff, Nat.reduceEqDiff]

end
end Go.Abs
namespace Go.Abs

/-- A list whose first elements are changed. -/
def mix {α : Type} (f : α → α) (L : List α) (k : Nat) : List α := (L.take k).map f ++ L.drop k
section
variable {P : Program} (T : Tbl P) {h : AHeap}
include T

end
end Go.Abs
namespace Go.Abs

/-- A horizon whose picks lie in a block of their own, from a number on. -/
structure HorFr (N : Nat) (h : AHeap) (H : Hor) (s : AV) : Prop where
  fr : Fr N h s 2 (H.picks.map pkRow)
  len : H.picks.length < 2 ^ 63
  nm : H.name.length < 2 ^ 63
theorem HorFr.ok {N : Nat} {h : AHeap} {H : Hor} {s : AV} (o : HorFr N h H s) : HorOk h H s := ⟨o.fr.isSl, o.len, o.nm⟩
theorem HorFr.no {N : Nat} {h : AHeap} : HorFr N h noHor .nilSlice := ⟨.nil, by decide, by decide⟩

section
variable {P : Program} (T : Tbl P) {h : AHeap}
include T

end
end Go.Abs
namespace Go.Abs

section
variable {P : Program} (T : Tbl P) {h : AHeap}
include T

end
end Go.Abs
namespace Go.Abs

def ivS (lo hi : Int) : List Int := (List.range (hi + 1 - lo).toNat).map fun (i : Nat) => lo + i
def placesS (A B : Hor) : List Int := ivS (max (begS A) (begS B)) (min (endS A) (endS B))
theorem ivS_len {lo hi : Int} : (ivS lo hi).length = (hi + 1 - lo).toNat := by simp [ivS]
theorem ivS_get {lo hi : Int} {i : Nat} (h : i < (ivS lo hi).length) : (ivS lo hi)[i] = lo + i := by simp [ivS]
theorem ivS_mem {lo hi x : Int} : x ∈ ivS lo hi ↔ lo ≤ x ∧ x ≤ hi := by
  simp only [ivS, List.mem_map, List.mem_range]
  constructor
  · rintro ⟨i, h, rfl⟩; omega
  · rintro ⟨h1, h2⟩; exact ⟨(x - lo).toNat, by omega, by omega⟩

theorem end_bd {H : Hor} (v : HorV H) : 0 ≤ begS H ∧ begS H ≤ 255 ∧ 0 ≤ endS H ∧ endS H ≤ 255 ∧ begS H ≤ endS H := by
  have h0 := v.ok.at (i := 0) v.ne
  have h1 := v.ok.at (i := H.picks.length - 1) (by have := v.ne; omega)
  rw [begS_eq v.ne, endS_eq v.ne]
  refine ⟨h0.1, h0.2.1, h1.1, h1.2.1, ?_⟩
  by_cases hl : H.picks.length = 1
  · simp only [hl]; exact Int.le_refl _
  · have := v.ok.lt (i := 0) (j := H.picks.length - 1) (by have := v.ne; omega) (by have := v.ne; omega)
    omega

theorem WF.valg {P : Program} {ro : Option Nat → Prop} {ks : List Kt} {ts : TS} {h h' : AHeap} {Q : Ex → TS → AHeap → Prop} {fv : AV} {args : List AV} {d : Option Nat} {l : List IOp} {v : AV} (H : SCallV P fv args h v h') (K : WP P ro l ks (put ts d v) h' Q) : WF P ro false fv args d l ks ts h Q :=
  ⟨v, h', H, fun hq => absurd hq (by simp), K⟩

/-- What an iterator over the common places of two horizons reads. -/
def CmPre (A B : Hor) (sa sb : AV) (ba bb : Nat) (k : AHeap) : Prop :=
  k[ba]? = some (.cells [.str A.name, .int .i64 A.err, sa] true false) ∧ k[bb]? = some (.cells [.str B.name, .int .i64 B.err, sb] true false) ∧ HorOk k A sa ∧ HorOk k B sb

theorem at_swap {A B : AHeap} {K K' : ABlk} {b : Nat} (h : b ≠ A.length) : (A ++ [K] ++ B)[b]? = (A ++ [K'] ++ B)[b]? := by
  by_cases h1 : b < A.length
  · rw [List.append_assoc, List.append_assoc, List.getElem?_append_left h1, List.getElem?_append_left h1]
  · rw [List.getElem?_append_right (by simp; omega), List.getElem?_append_right (by simp; omega)]
    simp
theorem at_mid {A B : AHeap} {K : ABlk} : (A ++ [K] ++ B)[A.length]? = some K := by
  rw [List.append_assoc, List.getElem?_append_right (Nat.le_refl _), Nat.sub_self]; rfl

section
variable {P : Program} (T : Tbl P) {h : AHeap}
include T

theorem r114 {A B : Hor} {sa sb : AV} (oa : HorOk h A sa) (ob : HorOk h B sb) : RCall P 114 [horA A sa, horA B sb] h (fun v h' => ∃ ba bb, v = .func (.func 166) [] [.ptr ba 0, .ptr bb 0] ∧ CmPre A B sa sb ba bb h') := by
  refine .of T.mix T.c114 ?_
  unfold fn114
  simp only [wset, hset, dset, bset, Nat.reduceAdd, Nat.reduceMul, Nat.reduceLeDiff, Nat.reduceEqDiff, oa.sl.one, ob.sl.one]
  refine ⟨_, _, rfl, ?_, ?_, oa.ext (by repeat first | exact Ext.refl _ | refine Ext.app _ ?_), ob.ext (by repeat first | exact Ext.refl _ | refine Ext.app _ ?_)⟩
  · exact at_1
  · exact at_new

theorem iter_common {A B : Hor} {sa sb : AV} (va : HorV A) (vb : HorV B) (ba bb : Nat) : Iter P 166 [] [.ptr ba 0, .ptr bb 0] ((placesS A B).map fun x => [.int .i64 x]) (CmPre A B sa sb ba bb) := by
  refine ⟨fun l h J D hpre happ hstep hend h0 => GCall.of T.mix T.c166 ?_⟩
  obtain ⟨p1, p2, oa, ob⟩ := hpre 0 h h0
  unfold fn166
  have ea := end_bd va
  have eb := end_bd vb
  have la : ∀ n o g, loadF n (.ptr ba o) (fun z => (h ++ g)[z]?) = ldB n o (.cells [.str A.name, .int .i64 A.err, sa] true false) := fun n o g => loadF_at ((Ext.app g (Ext.refl h)).some p1)
  have lb : ∀ n o g, loadF n (.ptr bb o) (fun z => (h ++ g)[z]?) = ldB n o (.cells [.str B.name, .int .i64 B.err, sb] true false) := fun n o g => loadF_at ((Ext.app g (Ext.refl h)).some p2)
  have la0 : ∀ n o, loadF n (.ptr ba o) (fun z => h[z]?) = ldB n o (.cells [.str A.name, .int .i64 A.err, sa] true false) := fun n o => loadF_at p1
  simp only [wset, hset, dset, bset, Nat.reduceAdd, Nat.reduceMul, Nat.reduceLeDiff, Nat.reduceEqDiff, la0]
  refine WF.res T.c167 (r167 T (H := A) oa va.ne) ?_
  rintro _ g1 rfl
  simp only [wset, hset, dset, bset, Nat.reduceAdd, Nat.reduceMul, Nat.reduceLeDiff, Nat.reduceEqDiff, lb]
  refine WF.res T.c167 (r167 T (H := B) (ob.ext (by repeat first | exact Ext.refl _ | refine Ext.app _ ?_)) vb.ne) ?_
  rintro _ g2 rfl
  simp only [wset, hset, dset, bset, Nat.reduceAdd, Nat.reduceMul, Nat.reduceLeDiff, Nat.reduceEqDiff]
  refine WL.inv T.mix (fun n ts h' => ∃ k : Nat, k ≤ (placesS A B).length ∧ n = (placesS A B).length - k ∧ J k h' ∧ ts.length = 33 ∧ slot ts 0 = .func (.yield l) [] [] ∧ slot ts 5 = .int .i64 (endS A) ∧ slot ts 7 = .int .i64 (endS B) ∧ slot ts 8 = .int .i64 (max (begS A) (begS B) + k)) (placesS A B).length
    ⟨0, by omega, rfl, happ _ _ _ (happ _ _ _ h0), rfl, rfl, rfl, rfl, by simp [slot]⟩ ?_
  rintro _ ts h' ⟨k, hk, rfl, hJ, hlen, t0, t5, t7, t8⟩
  rw [expl ts 33 hlen]
  have hpl : (placesS A B).length = (min (endS A) (endS B) + 1 - max (begS A) (begS B)).toNat := ivS_len
  by_cases hlt : k < (placesS A B).length
  · have e3 : max (begS A) (begS B) + k ≤ min (endS A) (endS B) := by omega
    simp only [wset, hset, dset, bset, Nat.reduceAdd, Nat.reduceMul, Nat.reduceLeDiff, Nat.reduceEqDiff, t0, t5, t7, t8, e3, decide_true]
    obtain ⟨b, k', q1, q2⟩ := hstep k (by rw [List.length_map]; exact hlt) h' hJ
    have hx : (placesS A B)[k]'hlt = max (begS A) (begS B) + k := ivS_get (lo := max (begS A) (begS B)) (hi := min (endS A) (endS B)) hlt
    rw [List.getElem_map, hx] at q1
    refine WF.valg q1 ?_
    cases b with
    | true =>
      simp only [wset, hset, dset, bset, Nat.reduceAdd, Nat.reduceMul, Nat.reduceLeDiff, Nat.reduceEqDiff, Bool.not_true, t8, wrap_in (n := max (begS A) (begS B) + (k : Int) + 1) (by omega) (by omega)]
      refine ⟨_, ?_, k + 1, by omega, rfl, q2, ?_⟩
      · omega
      · exact congrArg (AV.int .i64) (by omega)
    | false =>
      simp only [wset, hset, dset, bset, Nat.reduceAdd, Nat.reduceMul, Nat.reduceLeDiff, Nat.reduceEqDiff, Bool.not_false]
      exact q2
  · have e3 : ¬ max (begS A) (begS B) + k ≤ min (endS A) (endS B) := by omega
    simp only [wset, hset, dset, bset, Nat.reduceAdd, Nat.reduceMul, Nat.reduceLeDiff, Nat.reduceEqDiff, t0, t5, t7, t8, e3, decide_false, if_true]
    have : k = (placesS A B).length := by omega
    refine hend h' ?_
    rw [List.length_map, ← this]; exact hJ

end
end Go.Abs
namespace Go.Abs

section
variable {P : Program} (T : Tbl P) {h : AHeap}
include T

end
end Go.Abs
namespace Go.Abs

theorem mid4 {X Y g a b c d : AHeap} : X ++ Y ++ g ++ a ++ b ++ c ++ d = X ++ Y ++ (g ++ a ++ b ++ c ++ d) := by simp only [List.append_assoc]
theorem places_has {A B : Hor} {x : Int} (h : x ∈ placesS A B) : hasS A x = true ∧ hasS B x = true := by
  have := ivS_mem.1 h
  simp only [hasS, Bool.and_eq_true, decide_eq_true_eq]
  omega
theorem places_get {A B : Hor} {i : Nat} (hi : i < (placesS A B).length) : hasS A (placesS A B)[i] = true ∧ hasS B (placesS A B)[i] = true := places_has (List.getElem_mem hi)
theorem places_le {A B : Hor} (va : HorV A) : (placesS A B).length ≤ 256 := by
  have ea := end_bd va
  have hl : (placesS A B).length = (min (endS A) (endS B) + 1 - max (begS A) (begS B)).toNat := ivS_len
  omega
section
variable {P : Program} (T : Tbl P) {h : AHeap}
include T

theorem r145 {A B : Hor} {sa sb : AV} (oa : HorOk h A sa) (ob : HorOk h B sb) : RCall P 145 [horA A sa, horA B sb] h (fun v _ => v = .int .i64 (firstS [chkHorS A, chkHorS B])) := by
  refine .of T.mix T.c145 ?_
  unfold fn145
  simp only [wset, hset, dset, bset, Nat.reduceAdd, Nat.reduceMul, Nat.reduceLeDiff, Nat.reduceEqDiff, oa.sl.one, ob.sl.one]
  refine WF.res T.c26 (r26 T (H := A) (oa.sl.ext (by repeat first | exact Ext.refl _ | refine Ext.app _ ?_)) oa.len) ?_
  rintro _ g1 rfl
  simp only [wset, hset, dset, bset, Nat.reduceAdd, Nat.reduceMul, Nat.reduceLeDiff, Nat.reduceEqDiff]
  refine WF.res T.c26 (r26 T (H := B) (ob.sl.ext (by repeat first | exact Ext.refl _ | refine Ext.app _ ?_)) ob.len) ?_
  rintro _ g2 rfl
  simp only [wset, hset, dset, bset, Nat.reduceAdd, Nat.reduceMul, Nat.reduceLeDiff, Nat.reduceEqDiff]
  refine WF.res T.c105 (r105 T (isSl_ints [_, _]) (by simp)) ?_
  rintro _ g3 rfl
  simp only [wset, hset, dset, bset, Nat.reduceAdd, Nat.reduceMul, Nat.reduceLeDiff, Nat.reduceEqDiff]

theorem r146 {A B : Hor} {sa sb : AV} (oa : HorOk h A sa) (ob : HorOk h B sb) (va : HorV A) (vb : HorV B) : RCall P 146 [horA A sa, horA B sb] h (fun v _ => v = .bool (decide (0 < (placesS A B).length))) := by
  refine .of T.mix T.c146 ?_
  unfold fn146
  simp only [wset, hset, dset, bset, Nat.reduceAdd, Nat.reduceMul, Nat.reduceLeDiff, Nat.reduceEqDiff, oa.sl.one, ob.sl.one]
  refine WF.res T.c114 (r114 T (A := A) (B := B) (oa.ext (by repeat first | exact Ext.refl _ | refine Ext.app _ ?_)) (ob.ext (by repeat first | exact Ext.refl _ | refine Ext.app _ ?_))) ?_
  rintro _ g1 ⟨ba, bb, rfl, hpre⟩
  simp only [wset, hset, dset, bset, Nat.reduceAdd, Nat.reduceMul, Nat.reduceLeDiff, Nat.reduceEqDiff]
  refine WC.iter T.mix T.c166 (a := []) (c := [.ptr ba 0, .ptr bb 0]) rfl (iter_common T (sa := sa) (sb := sb) va vb ba bb) (fun y hy => by obtain ⟨z, _, rfl⟩ := List.mem_map.1 hy; rfl)
    (fun i h' g => i = 0 ∧ h' = h ++ [ABlk.cells [AV.str A.name, AV.int IntKind.i64 A.err, sa] true false] ++ [ABlk.cells [AV.str B.name, AV.int IntKind.i64 B.err, sb] true false] ++ [ABlk.cells [AV.bool false] true false] ++ g1)
    (fun e h' g => e = .ret ∧ 0 < (placesS A B).length ∧ h' = h ++ [ABlk.cells [AV.str A.name, AV.int IntKind.i64 A.err, sa] true false] ++ [ABlk.cells [AV.str B.name, AV.int IntKind.i64 B.err, sb] true false] ++ [ABlk.cells [AV.bool true] true false] ++ g1)
    ⟨rfl, rfl⟩ (fun i h' g g' hI => hI) (fun i h' g X hl hI => ?_) (fun i hi h' g X Y hl hI => ?_) (fun e h' g hl hI => ?_)
  · obtain ⟨rfl, rfl⟩ := hI
    exact ⟨(Ext.app g (Ext.app [X] (Ext.refl _))).some hpre.1, (Ext.app g (Ext.app [X] (Ext.refl _))).some hpre.2.1, oa.ext (by repeat first | exact Ext.refl _ | refine Ext.app _ ?_), ob.ext (by repeat first | exact Ext.refl _ | refine Ext.app _ ?_)⟩
  · obtain ⟨rfl, rfl⟩ := hI
    rw [List.getElem_map]
    simp only [wset, hset, dset, bset, Nat.reduceAdd, Nat.reduceMul, Nat.reduceLeDiff, Nat.reduceEqDiff, setArgs]
    refine ⟨_, g, rfl, by simp, ?_⟩
    repeat (first | simp only [wset, hset, dset, bset, Nat.reduceAdd, Nat.reduceMul, Nat.reduceLeDiff, Nat.reduceEqDiff] | simp (disch := first | (simp only [List.length_append, List.length_cons, List.length_nil] <;> omega) | rfl | omega | fail) only [kset, wset, hset, dset, bset, Nat.reduceAdd, Nat.reduceMul, Nat.reduceLeDiff, Nat.reduceEqDiff])
    refine ⟨_, g, rfl, by simp only [List.length_append, List.length_cons, List.length_nil], ?_⟩
    rw [if_neg (by simp)]
    first | exact ⟨rfl, by simpa using hi, rfl⟩ | exact ⟨by simpa using hi, rfl⟩
  · by_cases hen : e = .normal
    · subst hen
      rw [if_pos rfl] at hI
      obtain ⟨h0, rfl⟩ := hI
      rw [List.length_map] at h0
      rw [show decide (0 < (placesS A B).length) = false from decide_eq_false (by omega)]
      repeat (first | simp only [wset, hset, dset, bset, Nat.reduceAdd, Nat.reduceMul, Nat.reduceLeDiff, Nat.reduceEqDiff] | simp (disch := first | (simp only [List.length_append, List.length_cons, List.length_nil] <;> omega) | rfl | omega | fail) only [kset, wset, hset, dset, bset, Nat.reduceAdd, Nat.reduceMul, Nat.reduceLeDiff, Nat.reduceEqDiff])
    · rw [if_neg hen] at hI
      obtain ⟨rfl, h0, rfl⟩ := hI
      rw [show decide (0 < (placesS A B).length) = true from decide_eq_true h0]
      repeat (first | simp only [wset, hset, dset, bset, Nat.reduceAdd, Nat.reduceMul, Nat.reduceLeDiff, Nat.reduceEqDiff] | simp (disch := first | (simp only [List.length_append, List.length_cons, List.length_nil] <;> omega) | rfl | omega | fail) only [kset, wset, hset, dset, bset, Nat.reduceAdd, Nat.reduceMul, Nat.reduceLeDiff, Nat.reduceEqDiff])

end
end Go.Abs
namespace Go.Abs

theorem ivS_no {lo hi : Int} (h : hi < lo) : ivS lo hi = [] := by
  have : (hi + 1 - lo).toNat = 0 := by omega
  rw [ivS, this]; rfl
theorem ivS_snoc {lo hi : Int} (h : lo ≤ hi) : ivS lo hi = ivS lo (hi - 1) ++ [hi] := by
  have : (hi + 1 - lo).toNat = (hi - 1 + 1 - lo).toNat + 1 := by omega
  rw [ivS, this, List.range_succ, List.map_append, ivS]
  congr 1
  simp; omega
def iplS (A B : Hor) (k : Nat) : List Int := ivS (max (begS A) (begS B)) (min (min (endS A) (endS B)) ((k : Int) - 1))
theorem iplS_len {A B : Hor} {k : Nat} (va : HorV A) : (iplS A B k).length ≤ 256 := by
  have ea := end_bd va
  have : (iplS A B k).length = (min (min (endS A) (endS B)) ((k : Int) - 1) + 1 - max (begS A) (begS B)).toNat := ivS_len
  omega
theorem iplS_yes {A B : Hor} {k : Nat} (h : hasS A k = true ∧ hasS B k = true) : iplS A B (k + 1) = iplS A B k ++ [(k : Int)] := by
  simp only [hasS, Bool.and_eq_true, decide_eq_true_eq] at h
  have e1 : min (min (endS A) (endS B)) (((k + 1 : Nat) : Int) - 1) = k := by omega
  have e2 : min (min (endS A) (endS B)) ((k : Int) - 1) = (k : Int) - 1 := by omega
  rw [iplS, iplS, e1, e2]
  exact ivS_snoc (by omega)
theorem iplS_not {A B : Hor} {k : Nat} (h : ¬ (hasS A k = true ∧ hasS B k = true)) : iplS A B (k + 1) = iplS A B k := by
  simp only [hasS, Bool.and_eq_true, decide_eq_true_eq] at h
  by_cases hl : max (begS A) (begS B) ≤ k
  · have e1 : min (min (endS A) (endS B)) (((k + 1 : Nat) : Int) - 1) = min (min (endS A) (endS B)) ((k : Int) - 1) := by omega
    rw [iplS, iplS, e1]
  · rw [iplS, iplS, ivS_no (by omega), ivS_no (by omega)]
theorem iplS_all {A B : Hor} (va : HorV A) : iplS A B 256 = placesS A B := by
  have ea := end_bd va
  rw [iplS, placesS]; congr 1; omega
theorem iplS_0 {A B : Hor} (va : HorV A) : iplS A B 0 = [] := by
  have ea := end_bd va
  exact ivS_no (by omega)

section
variable {P : Program} (T : Tbl P) {h : AHeap}
include T

theorem r75 {A B : Hor} {sa sb : AV} (oa : HorOk h A sa) (ob : HorOk h B sb) (va : HorV A) (vb : HorV B) : RCall P 75 [horA A sa, horA B sb] h (fun s' h' => Fr h.length h' s' 1 ((placesS A B).map intRow)) := by
  refine .of T.mix T.c75 ?_
  unfold fn75
  simp only [wset, hset, dset, bset, Nat.reduceAdd, Nat.reduceMul, Nat.reduceLeDiff, Nat.reduceEqDiff, oa.sl.one, ob.sl.one]
  refine WL.inv T.mix (fun n ts h' => ∃ (k : Nat) (out : AV) (g : AHeap), k ≤ 256 ∧ n = 256 - k ∧ h' = h ++ [ABlk.cells [AV.str A.name, AV.int IntKind.i64 A.err, sa] true false] ++ [ABlk.cells [AV.str B.name, AV.int IntKind.i64 B.err, sb] true false] ++ g ∧ Fr (h.length + 2) h' out 1 ((iplS A B k).map intRow) ∧ ts.length = 24 ∧ slot ts 2 = .ptr h.length 0 ∧ slot ts 3 = .ptr (h ++ [ABlk.cells [AV.str A.name, AV.int IntKind.i64 A.err, sa] true false]).length 0 ∧ slot ts 5 = out ∧ slot ts 6 = .int .i64 k) 256
    ⟨0, .nilSlice, [], by omega, rfl, by rw [List.append_nil], by rw [iplS_0 va]; exact .nil, rfl, rfl, rfl, rfl, rfl⟩ ?_
  rintro _ ts _ ⟨k, out, g, hk, rfl, rfl, hfr, hlen, t2, t3, t5, t6⟩
  rw [expl ts 24 hlen]
  have e0 : (h ++ [ABlk.cells [AV.str A.name, AV.int IntKind.i64 A.err, sa] true false] ++ [ABlk.cells [AV.str B.name, AV.int IntKind.i64 B.err, sb] true false]).length = h.length + 2 := by simp
  by_cases hlt : k < 256
  · have e3 : (k : Int) < 256 := by omega
    simp only [wset, hset, dset, bset, Nat.reduceAdd, Nat.reduceMul, Nat.reduceLeDiff, Nat.reduceEqDiff, t2, t3, t5, t6, e3, decide_true]
    refine WF.res T.c23 (r23 T (H := A) (oa.ext (by repeat first | exact Ext.refl _ | refine Ext.app _ ?_)) va.ne _) ?_
    rintro _ g1 rfl
    cases ha : hasS A k with
    | false =>
      simp only [wset, hset, dset, bset, Nat.reduceAdd, Nat.reduceMul, Nat.reduceLeDiff, Nat.reduceEqDiff, t2, t3, t5, t6, wrapN (show k + 1 < 2 ^ 63 by omega)]
      refine ⟨_, ?_, k + 1, out, g ++ g1, by omega, rfl, by simp only [List.append_assoc], ?_, rfl, rfl⟩
      · omega
      · rw [iplS_not (by simp [ha])]; exact hfr.app _
    | true =>
      simp only [wset, hset, dset, bset, Nat.reduceAdd, Nat.reduceMul, Nat.reduceLeDiff, Nat.reduceEqDiff, t2, t3, t5, t6]
      refine WF.res T.c23 (r23 T (H := B) (ob.ext (by repeat first | exact Ext.refl _ | refine Ext.app _ ?_)) vb.ne _) ?_
      rintro _ g2 rfl
      cases hb : hasS B k with
      | false =>
        simp only [wset, hset, dset, bset, Nat.reduceAdd, Nat.reduceMul, Nat.reduceLeDiff, Nat.reduceEqDiff, t2, t3, t5, t6, wrapN (show k + 1 < 2 ^ 63 by omega)]
        refine ⟨_, ?_, k + 1, out, g ++ g1 ++ g2, by omega, rfl, by simp only [List.append_assoc], ?_, rfl, rfl⟩
        · omega
        · rw [iplS_not (by simp [hb])]; exact (hfr.app _).app _
      | true =>
        simp only [wset, hset, dset, bset, Nat.reduceAdd, Nat.reduceMul, Nat.reduceLeDiff, Nat.reduceEqDiff, t2, t3, t5, t6]
        have hl := iplS_len (B := B) (k := k) va
        refine WR.app1 (h0 := h ++ [ABlk.cells [AV.str A.name, AV.int IntKind.i64 A.err, sa] true false] ++ [ABlk.cells [AV.str B.name, AV.int IntKind.i64 B.err, sb] true false]) (cs := (iplS A B k).map intRow) (ys := [intRow k]) (by rw [e0]; exact ((hfr.app _).app _).app _) (Fr.push (N := 0) (Nat.zero_le _) [intRow k] (by simp)).isSl (by decide) (by simp) (by simp; omega) (by repeat first | exact Ext.refl _ | refine Ext.app _ ?_) ?_
        intro g' hl' hff hkp
        have hrow : (iplS A B k).map intRow ++ [intRow k] = (iplS A B (k + 1)).map intRow := by rw [iplS_yes ⟨ha, hb⟩, List.map_append]; rfl
        rw [hrow, e0] at hff
        rw [hrow]
        simp only [wset, hset, dset, bset, Nat.reduceAdd, Nat.reduceMul, Nat.reduceLeDiff, Nat.reduceEqDiff, t2, t3, t5, t6, wrapN (show k + 1 < 2 ^ 63 by omega)]
        refine ⟨_, ?_, k + 1, _, g', by omega, rfl, rfl, hff, rfl, rfl⟩
        omega
  · have e3 : ¬ (k : Int) < 256 := by omega
    have e4 : k = 256 := by omega
    simp only [wset, hset, dset, bset, Nat.reduceAdd, Nat.reduceMul, Nat.reduceLeDiff, Nat.reduceEqDiff, t2, t3, t5, t6, e3, decide_false, if_true]
    rw [← iplS_all (B := B) va, ← e4]
    exact hfr.low (by omega)

end
end Go.Abs
namespace Go.Abs

def apartS (x y : Int × Int) : Bool := decide (x.2 < y.1) || decide (y.2 < x.1)
def movS (x : Int × Int) (s : Int) : Int × Int := (x.1 + s, x.2 + s)
def diffS (A B : Hor) (s x : Int) : Bool := apartS (bandS A x) (movS (bandS B x) s)
def cmpK (A B : Hor) (s : Int) (k : Nat) : List Int := ((placesS A B).take k).filter (diffS A B s)
def cmpS (A B : Hor) (s : Int) : List Int := (placesS A B).filter (diffS A B s)
def shiftE (A B : Hor) (s lo : Int) : Int := firstS [firstS [chkHorS A, chkHorS B], rangeS s lo 1000]
def chkShS (A B : Hor) (s lo : Int) : Int := if shiftE A B s lo = 0 then whenS (!decide (0 < (placesS A B).length)) 7 else shiftE A B s lo

theorem cmpK_s {A B : Hor} {s : Int} {k : Nat} (hk : k < (placesS A B).length) : cmpK A B s (k + 1) = cmpK A B s k ++ (if diffS A B s (placesS A B)[k] = true then [(placesS A B)[k]] else []) := by
  rw [cmpK, List.take_add_one, List.getElem?_eq_getElem hk, List.filter_append, cmpK]
  congr 1
  cases h : diffS A B s (placesS A B)[k] <;> simp [h]
theorem cmpK_len {A B : Hor} {s : Int} {k : Nat} (va : HorV A) : (cmpK A B s k).length ≤ 256 := by
  have h1 := places_le (B := B) va
  have h2 := List.length_filter_le (diffS A B s) ((placesS A B).take k)
  have h3 : ((placesS A B).take k).length ≤ (placesS A B).length := by rw [List.length_take]; omega
  exact Nat.le_trans h2 (Nat.le_trans h3 h1)
theorem cmpK_all {A B : Hor} {s : Int} : cmpK A B s (placesS A B).length = cmpS A B s := by rw [cmpK, List.take_length]; rfl
theorem cmpS_len {A B : Hor} {s : Int} (va : HorV A) : (cmpS A B s).length ≤ 256 := by rw [← cmpK_all]; exact cmpK_len va

theorem shift_ok {A B : Hor} {s lo : Int} (h : chkShS A B s lo = 0) : HorV A ∧ HorV B ∧ lo ≤ s ∧ s ≤ 1000 := by
  unfold chkShS at h
  split at h
  · rename_i he
    have hz := firstS_zero.1 (firstS_zero.1 he (firstS [chkHorS A, chkHorS B]) (by simp))
    have := rangeS_zero.1 (firstS_zero.1 he (rangeS s lo 1000) (by simp))
    exact ⟨horV_iff.1 (hz (chkHorS A) (by simp)), horV_iff.1 (hz (chkHorS B) (by simp)), this.1, this.2⟩
  · exact absurd h (by assumption)

section
variable {P : Program} (T : Tbl P) {h : AHeap}
include T

theorem r122 (x y : Int × Int) : RCall P 122 [.agg [.int .i64 x.1, .int .i64 x.2, .int .i64 y.1, .int .i64 y.2]] h (fun v _ => v = .bool (apartS x y)) := by
  refine .of T.mix T.c122 ?_
  unfold fn122
  simp only [wset, hset, dset, bset, Nat.reduceAdd, Nat.reduceMul, Nat.reduceLeDiff, Nat.reduceEqDiff, iada_0 (show 0 < 2 by decide), iada_1 (show 1 < 2 by decide)]
  by_cases c : x.2 < y.1
  · simp only [wset, hset, dset, bset, Nat.reduceAdd, Nat.reduceMul, Nat.reduceLeDiff, Nat.reduceEqDiff, eq_true c, decide_true]
    rw [apartS, decide_eq_true c]; rfl
  · simp only [wset, hset, dset, bset, Nat.reduceAdd, Nat.reduceMul, Nat.reduceLeDiff, Nat.reduceEqDiff, eq_false c, decide_false, iada_0 (show 0 < 2 by decide), iada_1 (show 1 < 2 by decide)]
    rw [apartS, decide_eq_false c]; rfl

theorem r143 (x : Int × Int) (s : Int) (h1 : -(2 ^ 40) ≤ x.1 ∧ x.1 ≤ 2 ^ 40) (h2 : -(2 ^ 40) ≤ x.2 ∧ x.2 ≤ 2 ^ 40) (h3 : -(2 ^ 40) ≤ s ∧ s ≤ 2 ^ 40) : RCall P 143 [ratA x, .int .i64 s] h (fun v _ => v = ratA (movS x s)) := by
  refine .of T.mix T.c143 ?_
  unfold fn143
  repeat (first | simp only [wset, hset, dset, bset, Nat.reduceAdd, Nat.reduceMul, Nat.reduceLeDiff, Nat.reduceEqDiff, wrap_in (n := x.1 + s) (by omega) (by omega), wrap_in (n := x.2 + s) (by omega) (by omega)] | simp (disch := first | (simp only [List.length_append, List.length_cons, List.length_nil] <;> omega) | rfl | omega | fail) only [kset, wset, hset, dset, bset, Nat.reduceAdd, Nat.reduceMul, Nat.reduceLeDiff, Nat.reduceEqDiff])
  rfl

theorem r139 {A B : Hor} {sa sb : AV} (oa : HorOk h A sa) (ob : HorOk h B sb) (s lo : Int) : RCall P 139 [horA A sa, horA B sb, .int .i64 s, .int .i64 lo] h (fun v _ => v = .int .i64 (chkShS A B s lo)) := by
  refine .of T.mix T.c139 ?_
  unfold fn139
  simp only [wset, hset, dset, bset, Nat.reduceAdd, Nat.reduceMul, Nat.reduceLeDiff, Nat.reduceEqDiff, oa.sl.one, ob.sl.one]
  refine WF.res T.c145 (r145 T (A := A) (B := B) (oa.ext (by repeat first | exact Ext.refl _ | refine Ext.app _ ?_)) (ob.ext (by repeat first | exact Ext.refl _ | refine Ext.app _ ?_))) ?_
  rintro _ g1 rfl
  simp only [wset, hset, dset, bset, Nat.reduceAdd, Nat.reduceMul, Nat.reduceLeDiff, Nat.reduceEqDiff]
  refine WF.res T.c108 (r108 T _ _ _) ?_
  rintro _ g2 rfl
  simp only [wset, hset, dset, bset, Nat.reduceAdd, Nat.reduceMul, Nat.reduceLeDiff, Nat.reduceEqDiff]
  refine WF.res T.c105 (r105 T (isSl_ints [_, _]) (by simp)) ?_
  rintro _ g3 rfl
  by_cases he : shiftE A B s lo = 0
  case neg =>
    simp only [wset, hset, dset, bset, Nat.reduceAdd, Nat.reduceMul, Nat.reduceLeDiff, Nat.reduceEqDiff, show decide (firstS [firstS [chkHorS A, chkHorS B], rangeS s lo 1000] ≠ 0) = true from decide_eq_true he]
    rw [chkShS, if_neg he]; rfl
  have hz := firstS_zero.1 (firstS_zero.1 he (firstS [chkHorS A, chkHorS B]) (by simp))
  have va := horV_iff.1 (hz (chkHorS A) (by simp))
  have vb := horV_iff.1 (hz (chkHorS B) (by simp))
  simp only [wset, hset, dset, bset, Nat.reduceAdd, Nat.reduceMul, Nat.reduceLeDiff, Nat.reduceEqDiff, show decide (firstS [firstS [chkHorS A, chkHorS B], rangeS s lo 1000] ≠ 0) = false from decide_eq_false (fun hne => hne he), oa.sl.one, ob.sl.one]
  refine WF.res T.c146 (r146 T (A := A) (B := B) (oa.ext (by repeat first | exact Ext.refl _ | refine Ext.app _ ?_)) (ob.ext (by repeat first | exact Ext.refl _ | refine Ext.app _ ?_)) va vb) ?_
  rintro _ g4 rfl
  simp only [wset, hset, dset, bset, Nat.reduceAdd, Nat.reduceMul, Nat.reduceLeDiff, Nat.reduceEqDiff]
  refine WF.res T.c106 (r106 T _ _) ?_
  rintro _ g5 rfl
  simp only [wset, hset, dset, bset, Nat.reduceAdd, Nat.reduceMul, Nat.reduceLeDiff, Nat.reduceEqDiff]
  rw [chkShS, if_pos he]

theorem r140 {A B : Hor} {sa sb : AV} (oa : HorOk h A sa) (ob : HorOk h B sb) (va : HorV A) (vb : HorV B) {s : Int} (hs : -1000 ≤ s ∧ s ≤ 1000) : RCall P 140 [horA A sa, horA B sb, .int .i64 s] h (fun s' h' => Fr h.length h' s' 1 ((cmpS A B s).map intRow)) := by
  refine .of T.mix T.c140 ?_
  unfold fn140
  simp only [wset, hset, dset, bset, Nat.reduceAdd, Nat.reduceMul, Nat.reduceLeDiff, Nat.reduceEqDiff, oa.sl.one, ob.sl.one]
  refine WF.res T.c114 (r114 T (A := A) (B := B) (oa.ext (by repeat first | exact Ext.refl _ | refine Ext.app _ ?_)) (ob.ext (by repeat first | exact Ext.refl _ | refine Ext.app _ ?_))) ?_
  rintro _ g2 ⟨ba, bb, rfl, hpre⟩
  simp only [wset, hset, dset, bset, Nat.reduceAdd, Nat.reduceMul, Nat.reduceLeDiff, Nat.reduceEqDiff]
  have hpl := places_le (B := B) va
  have hb5 : ∀ (z : Nat) n e sl, (h ++ [ABlk.cells [AV.str A.name, AV.int IntKind.i64 A.err, sa] true false] ++ [ABlk.cells [AV.str B.name, AV.int IntKind.i64 B.err, sb] true false] ++ [ABlk.cells [AV.int IntKind.i64 s] true false] ++ [ABlk.cells [AV.nilSlice] true false] ++ g2)[z]? = some (.cells [.str n, .int .i64 e, sl] true false) → z ≠ (h ++ [ABlk.cells [AV.str A.name, AV.int IntKind.i64 A.err, sa] true false] ++ [ABlk.cells [AV.str B.name, AV.int IntKind.i64 B.err, sb] true false] ++ [ABlk.cells [AV.int IntKind.i64 s] true false]).length := fun z n e sl hz hzz => by
    subst hzz
    rw [at_mid] at hz
    cases hz
  refine WC.iter T.mix T.c166 (a := []) (c := [.ptr ba 0, .ptr bb 0]) rfl (iter_common T (sa := sa) (sb := sb) va vb ba bb) (fun y hy => by obtain ⟨z, _, rfl⟩ := List.mem_map.1 hy; rfl)
    (fun i h' g => ∃ out, h' = h ++ [ABlk.cells [AV.str A.name, AV.int IntKind.i64 A.err, sa] true false] ++ [ABlk.cells [AV.str B.name, AV.int IntKind.i64 B.err, sb] true false] ++ [ABlk.cells [AV.int IntKind.i64 s] true false] ++ [ABlk.cells [out] true false] ++ g2 ∧ Fr (h'.length + 1) (h' ++ [.dead] ++ g) out 1 ((cmpK A B s i).map intRow)) (fun _ _ _ => False)
    ⟨.nilSlice, rfl, .nil⟩ (fun i h' g g' hI => ?_) (fun i h' g X hl hI => ?_) (fun i hi h' g X Y hl hI => ?_) (fun e h' g hl hI => ?_)
  · obtain ⟨out, h1, h2⟩ := hI
    exact ⟨out, h1, by rw [← List.append_assoc]; exact h2.app _⟩
  · obtain ⟨out, rfl, _⟩ := hI
    refine ⟨(Ext.app g (Ext.app [X] (Ext.refl _))).some ?_, (Ext.app g (Ext.app [X] (Ext.refl _))).some ?_, oa.ext (by repeat first | exact Ext.refl _ | refine Ext.app _ ?_), ob.ext (by repeat first | exact Ext.refl _ | refine Ext.app _ ?_)⟩
    · rw [at_swap (hb5 _ _ _ _ hpre.1)]; exact hpre.1
    · rw [at_swap (hb5 _ _ _ _ hpre.2.1)]; exact hpre.2.1
  · obtain ⟨out, rfl, hfr⟩ := hI
    rw [List.length_map] at hi
    have hx := places_get hi
    have hba := band_bd va hx.1
    have hbb := band_bd vb hx.2
    have hK := cmpK_s (s := s) hi
    have hkl := cmpK_len (B := B) (s := s) (k := i) va
    rw [List.getElem_map]
    generalize (placesS A B)[i] = x at *
    simp only [wset, hset, dset, bset, Nat.reduceAdd, Nat.reduceMul, Nat.reduceLeDiff, Nat.reduceEqDiff, setArgs]
    refine ⟨_, g, rfl, by simp, ?_⟩
    simp only [wset, hset, dset, bset, Nat.reduceAdd, Nat.reduceMul, Nat.reduceLeDiff, Nat.reduceEqDiff]
    refine WF.res T.c97 (r97 T (H := A) (oa.ext (by repeat first | exact Ext.refl _ | refine Ext.app _ ?_)) va hx.1) ?_
    rintro _ g3 rfl
    simp only [wset, hset, dset, bset, Nat.reduceAdd, Nat.reduceMul, Nat.reduceLeDiff, Nat.reduceEqDiff]
    refine WF.res T.c97 (r97 T (H := B) (ob.ext (by repeat first | exact Ext.refl _ | refine Ext.app _ ?_)) vb hx.2) ?_
    rintro _ g4 rfl
    simp only [wset, hset, dset, bset, Nat.reduceAdd, Nat.reduceMul, Nat.reduceLeDiff, Nat.reduceEqDiff]
    refine WF.res T.c143 (r143 T (bandS B x) s (by omega) (by omega) (by omega)) ?_
    rintro _ g5 rfl
    simp only [wset, hset, dset, bset, Nat.reduceAdd, Nat.reduceMul, Nat.reduceLeDiff, Nat.reduceEqDiff]
    refine WF.res T.c122 (r122 T (bandS A x) (movS (bandS B x) s)) ?_
    rintro _ g6 rfl
    have hN : ∀ (o' : AV) (X : ABlk), (h ++ [ABlk.cells [AV.str A.name, AV.int IntKind.i64 A.err, sa] true false] ++ [ABlk.cells [AV.str B.name, AV.int IntKind.i64 B.err, sb] true false] ++ [ABlk.cells [AV.int IntKind.i64 s] true false] ++ [ABlk.cells [o'] true false] ++ g2 ++ [X]).length = (h ++ [ABlk.cells [AV.str A.name, AV.int IntKind.i64 A.err, sa] true false] ++ [ABlk.cells [AV.str B.name, AV.int IntKind.i64 B.err, sb] true false] ++ [ABlk.cells [AV.int IntKind.i64 s] true false] ++ [ABlk.cells [out] true false] ++ g2).length + 1 := fun o' X => by simp only [List.length_append, List.length_cons, List.length_nil]; try omega
    have e9 : ∀ o', (h ++ [ABlk.cells [AV.str A.name, AV.int IntKind.i64 A.err, sa] true false] ++ [ABlk.cells [AV.str B.name, AV.int IntKind.i64 B.err, sb] true false] ++ [ABlk.cells [AV.int IntKind.i64 s] true false] ++ [ABlk.cells [o'] true false] ++ g2).length = (h ++ [ABlk.cells [AV.str A.name, AV.int IntKind.i64 A.err, sa] true false] ++ [ABlk.cells [AV.str B.name, AV.int IntKind.i64 B.err, sb] true false] ++ [ABlk.cells [AV.int IntKind.i64 s] true false] ++ [ABlk.cells [out] true false] ++ g2).length := fun o' => by simp only [List.length_append, List.length_cons, List.length_nil]
    have hfrB := hfr.swap' (hN out .dead) (hN out Y)
    cases hd : apartS (bandS A x) (movS (bandS B x) s) with
    | false =>
      have hd' : diffS A B s x = false := hd
      rw [hd', if_neg Bool.false_ne_true, List.append_nil] at hK
      simp only [wset, hset, dset, bset, Nat.reduceAdd, Nat.reduceMul, Nat.reduceLeDiff, Nat.reduceEqDiff]
      refine ⟨_, _, mid4, by simp only [List.length_append, List.length_cons, List.length_nil], ?_⟩
      rw [if_pos trivial]
      refine ⟨_, rfl, ?_⟩
      rw [hK]
      exact by simpa only [List.append_assoc] using ((((hfr.app g3).app g4).app g5).app g6)
    | true =>
      have hd' : diffS A B s x = true := hd
      rw [hd', if_pos rfl] at hK
      repeat (first | simp only [wset, hset, dset, bset, Nat.reduceAdd, Nat.reduceMul, Nat.reduceLeDiff, Nat.reduceEqDiff] | simp (disch := first | (simp only [List.length_append, List.length_cons, List.length_nil] <;> omega) | rfl | omega | fail) only [kset, wset, hset, dset, bset, Nat.reduceAdd, Nat.reduceMul, Nat.reduceLeDiff, Nat.reduceEqDiff])
      refine WR.app1 (h0 := h ++ [ABlk.cells [AV.str A.name, AV.int IntKind.i64 A.err, sa] true false] ++ [ABlk.cells [AV.str B.name, AV.int IntKind.i64 B.err, sb] true false] ++ [ABlk.cells [AV.int IntKind.i64 s] true false] ++ [ABlk.cells [out] true false] ++ g2 ++ [Y]) (cs := (cmpK A B s i).map intRow) (ys := [intRow x]) (by rw [hN]; exact (((((hfrB.app _).app _).app _).app _).app _)) (Fr.push (N := 0) (Nat.zero_le _) [intRow x] (by simp)).isSl (by decide) (by simp) (by simp; omega) (by repeat first | exact Ext.refl _ | refine Ext.app _ ?_) ?_
      intro g' hl' hff hkp
      have hrow : (cmpK A B s i).map intRow ++ [intRow x] = (cmpK A B s (i + 1)).map intRow := by rw [hK, List.map_append]; rfl
      rw [hrow, hN] at hff
      rw [hrow]
      simp only [wset, hset, dset, bset, Nat.reduceAdd, Nat.reduceMul, Nat.reduceLeDiff, Nat.reduceEqDiff]
      refine ⟨_, g', rfl, by simp only [List.length_append, List.length_cons, List.length_nil]; try omega, ?_⟩
      rw [if_pos trivial]
      refine ⟨_, rfl, ?_⟩
      rw [e9]
      exact hff.swap' (hN out Y) (hN _ .dead)
  · by_cases hen : e = .normal
    · subst hen
      rw [if_pos rfl] at hI
      obtain ⟨out, rfl, hfr⟩ := hI
      rw [List.length_map, cmpK_all] at hfr
      repeat (first | simp only [wset, hset, dset, bset, Nat.reduceAdd, Nat.reduceMul, Nat.reduceLeDiff, Nat.reduceEqDiff] | simp (disch := first | (simp only [List.length_append, List.length_cons, List.length_nil] <;> omega) | rfl | omega | fail) only [kset, wset, hset, dset, bset, Nat.reduceAdd, Nat.reduceMul, Nat.reduceLeDiff, Nat.reduceEqDiff])
      exact hfr.low (by simp only [List.length_append, List.length_cons, List.length_nil]; omega)
    · rw [if_neg hen] at hI
      exact hI.elim

theorem r72 {A B : Hor} {sa sb : AV} (oa : HorOk h A sa) (ob : HorOk h B sb) (x : Int) : RCall P 72 [horA A sa, horA B sb, .int .i64 x] h (fun v h' => ∃ s', v = .tup [s', .int .i64 (chkShS A B x (-1000))] ∧ IsSl h' s' 1 ((if chkShS A B x (-1000) = 0 then cmpS A B x else []).map intRow)) := by
  refine .of T.mix T.c72 ?_
  unfold fn72
  simp only [wset, hset, dset, bset, Nat.reduceAdd, Nat.reduceMul, Nat.reduceLeDiff, Nat.reduceEqDiff, oa.sl.one, ob.sl.one]
  refine WF.res T.c139 (r139 T (A := A) (B := B) (oa.ext (by repeat first | exact Ext.refl _ | refine Ext.app _ ?_)) (ob.ext (by repeat first | exact Ext.refl _ | refine Ext.app _ ?_)) _ _) ?_
  rintro _ g1 rfl
  by_cases he : chkShS A B x (-1000) = 0
  case neg =>
    simp only [wset, hset, dset, bset, Nat.reduceAdd, Nat.reduceMul, Nat.reduceLeDiff, Nat.reduceEqDiff, show decide (chkShS A B x (-1000) ≠ 0) = true from decide_eq_true he]
    rw [if_neg he]
    exact ⟨_, rfl, .nil⟩
  obtain ⟨va, vb, hx⟩ := shift_ok he
  rw [if_pos he]
  simp only [wset, hset, dset, bset, Nat.reduceAdd, Nat.reduceMul, Nat.reduceLeDiff, Nat.reduceEqDiff, show decide (chkShS A B x (-1000) ≠ 0) = false from decide_eq_false (fun hne => hne he), oa.sl.one, ob.sl.one]
  refine WF.res T.c140 (r140 T (A := A) (B := B) (oa.ext (by repeat first | exact Ext.refl _ | refine Ext.app _ ?_)) (ob.ext (by repeat first | exact Ext.refl _ | refine Ext.app _ ?_)) va vb hx) ?_
  rintro s' g2 hfr
  simp only [wset, hset, dset, bset, Nat.reduceAdd, Nat.reduceMul, Nat.reduceLeDiff, Nat.reduceEqDiff]
  exact ⟨s', by rw [he], hfr.isSl⟩
end
end Go.Abs
namespace Go.Abs

def gndS (A B : Hor) (s x : Int) : Int × Int := (max (bandS A x).1 (movS (bandS B x) s).1, min (bandS A x).2 (movS (bandS B x) s).2)
def gndK (A B : Hor) (s : Int) (k : Nat) : List (Int × Int) := ((placesS A B).take k).map (gndS A B s)
def comS (A B : Hor) (s : Int) : List (Int × Int) × Int := if cmpS A B s = [] then ((placesS A B).map (gndS A B s), 0) else ([], 18)

theorem gndK_s {A B : Hor} {s : Int} {k : Nat} (hk : k < (placesS A B).length) : gndK A B s (k + 1) = gndK A B s k ++ [gndS A B s (placesS A B)[k]] := by
  rw [gndK, List.take_add_one, List.getElem?_eq_getElem hk, List.map_append, gndK]; rfl
theorem gndK_len {A B : Hor} {s : Int} {k : Nat} (va : HorV A) : (gndK A B s k).length ≤ 256 := by
  have h1 := places_le (B := B) va
  have h3 : ((placesS A B).take k).length ≤ (placesS A B).length := by rw [List.length_take]; omega
  rw [gndK, List.length_map]; omega
theorem gndK_all {A B : Hor} {s : Int} : gndK A B s (placesS A B).length = (placesS A B).map (gndS A B s) := by rw [gndK, List.take_length]
theorem cmp_ne {A B : Hor} {s : Int} {i : Nat} (hi : i < (placesS A B).length) (h : diffS A B s (placesS A B)[i] = true) : cmpS A B s ≠ [] := by
  intro h0
  have : (placesS A B)[i] ∈ cmpS A B s := List.mem_filter.2 ⟨List.getElem_mem hi, h⟩
  rw [h0] at this; cases this
theorem mid6 {X Y g a b c d e f : AHeap} : X ++ Y ++ g ++ a ++ b ++ c ++ d ++ e ++ f = X ++ Y ++ (g ++ a ++ b ++ c ++ d ++ e ++ f) := by simp only [List.append_assoc]

section
variable {P : Program} (T : Tbl P) {h : AHeap}
include T

set_option maxHeartbeats 2000000 in
theorem r74 {A B : Hor} {sa sb : AV} (oa : HorOk h A sa) (ob : HorOk h B sb) (s : Int) : RCall P 74 [horA A sa, horA B sb, .int .i64 s] h (fun v h' => ∃ s', v = .tup [s', .int .i64 (if chkShS A B s (-1000) = 0 then (comS A B s).2 else chkShS A B s (-1000))] ∧ IsSl h' s' 2 ((if chkShS A B s (-1000) = 0 then (comS A B s).1 else []).map ratRow)) := by
  refine .of T.mix T.c74 ?_
  unfold fn74
  simp only [wset, hset, dset, bset, Nat.reduceAdd, Nat.reduceMul, Nat.reduceLeDiff, Nat.reduceEqDiff, oa.sl.one, ob.sl.one]
  refine WF.res T.c139 (r139 T (A := A) (B := B) (oa.ext (by repeat first | exact Ext.refl _ | refine Ext.app _ ?_)) (ob.ext (by repeat first | exact Ext.refl _ | refine Ext.app _ ?_)) _ _) ?_
  rintro _ g1 rfl
  by_cases he : chkShS A B s (-1000) = 0
  case neg =>
    repeat (first | simp only [wset, hset, dset, bset, Nat.reduceAdd, Nat.reduceMul, Nat.reduceLeDiff, Nat.reduceEqDiff, show decide (chkShS A B s (-1000) ≠ 0) = true from decide_eq_true he] | simp (disch := first | (simp only [List.length_append, List.length_cons, List.length_nil] <;> omega) | rfl | omega | fail) only [kset, wset, hset, dset, bset, Nat.reduceAdd, Nat.reduceMul, Nat.reduceLeDiff, Nat.reduceEqDiff])
    rw [if_neg he, if_neg he]
    exact ⟨_, rfl, .nil⟩
  obtain ⟨va, vb, hs⟩ := shift_ok he
  rw [if_pos he, if_pos he]
  simp only [wset, hset, dset, bset, Nat.reduceAdd, Nat.reduceMul, Nat.reduceLeDiff, Nat.reduceEqDiff, show decide (chkShS A B s (-1000) ≠ 0) = false from decide_eq_false (fun hne => hne he), oa.sl.one, ob.sl.one]
  refine WF.res T.c114 (r114 T (A := A) (B := B) (oa.ext (by repeat first | exact Ext.refl _ | refine Ext.app _ ?_)) (ob.ext (by repeat first | exact Ext.refl _ | refine Ext.app _ ?_))) ?_
  rintro _ g2 ⟨ba, bb, rfl, hpre⟩
  simp only [wset, hset, dset, bset, Nat.reduceAdd, Nat.reduceMul, Nat.reduceLeDiff, Nat.reduceEqDiff]
  have hpl := places_le (B := B) va
  have hb5 : ∀ (z : Nat) n e sl, (h ++ [ABlk.cells [AV.str A.name, AV.int IntKind.i64 A.err, sa] true false] ++ [ABlk.cells [AV.str B.name, AV.int IntKind.i64 B.err, sb] true false] ++ [ABlk.cells [AV.int IntKind.i64 s] true false] ++ [ABlk.cells [AV.nilSlice] true false] ++ [ABlk.cells [AV.int IntKind.i64 0] true false] ++ g1 ++ [ABlk.cells [AV.nilSlice] true false] ++ g2)[z]? = some (.cells [.str n, .int .i64 e, sl] true false) → z ≠ (h ++ [ABlk.cells [AV.str A.name, AV.int IntKind.i64 A.err, sa] true false] ++ [ABlk.cells [AV.str B.name, AV.int IntKind.i64 B.err, sb] true false] ++ [ABlk.cells [AV.int IntKind.i64 s] true false] ++ [ABlk.cells [AV.nilSlice] true false] ++ [ABlk.cells [AV.int IntKind.i64 0] true false] ++ g1).length := fun z n e sl hz hzz => by
    subst hzz
    rw [at_mid] at hz
    cases hz
  refine WC.iter T.mix T.c166 (a := []) (c := [.ptr ba 0, .ptr bb 0]) rfl (iter_common T (sa := sa) (sb := sb) va vb ba bb) (fun y hy => by obtain ⟨z, _, rfl⟩ := List.mem_map.1 hy; rfl)
    (fun i h' g => cmpK A B s i = [] ∧ ∃ out, h' = h ++ [ABlk.cells [AV.str A.name, AV.int IntKind.i64 A.err, sa] true false] ++ [ABlk.cells [AV.str B.name, AV.int IntKind.i64 B.err, sb] true false] ++ [ABlk.cells [AV.int IntKind.i64 s] true false] ++ [ABlk.cells [AV.nilSlice] true false] ++ [ABlk.cells [AV.int IntKind.i64 0] true false] ++ g1 ++ [ABlk.cells [out] true false] ++ g2 ∧ Fr (h'.length + 1) (h' ++ [.dead] ++ g) out 2 ((gndK A B s i).map ratRow))
    (fun e h' g => e = .ret ∧ cmpS A B s ≠ [] ∧ ∃ out, h' = h ++ [ABlk.cells [AV.str A.name, AV.int IntKind.i64 A.err, sa] true false] ++ [ABlk.cells [AV.str B.name, AV.int IntKind.i64 B.err, sb] true false] ++ [ABlk.cells [AV.int IntKind.i64 s] true false] ++ [ABlk.cells [AV.nilSlice] true false] ++ [ABlk.cells [AV.int IntKind.i64 18] true false] ++ g1 ++ [ABlk.cells [out] true false] ++ g2)
    ⟨rfl, .nilSlice, rfl, .nil⟩ (fun i h' g g' hI => ?_) (fun i h' g X hl hI => ?_) (fun i hi h' g X Y hl hI => ?_) (fun e h' g hl hI => ?_)
  · obtain ⟨h0, out, h1, h2⟩ := hI
    exact ⟨h0, out, h1, by rw [← List.append_assoc]; exact h2.app _⟩
  · obtain ⟨_, out, rfl, _⟩ := hI
    refine ⟨(Ext.app g (Ext.app [X] (Ext.refl _))).some ?_, (Ext.app g (Ext.app [X] (Ext.refl _))).some ?_, oa.ext (by repeat first | exact Ext.refl _ | refine Ext.app _ ?_), ob.ext (by repeat first | exact Ext.refl _ | refine Ext.app _ ?_)⟩
    · rw [at_swap (hb5 _ _ _ _ hpre.1)]; exact hpre.1
    · rw [at_swap (hb5 _ _ _ _ hpre.2.1)]; exact hpre.2.1
  · obtain ⟨hk0, out, rfl, hfr⟩ := hI
    rw [List.length_map] at hi
    have hx := places_get hi
    have hba := band_bd va hx.1
    have hbb := band_bd vb hx.2
    have hK := cmpK_s (s := s) hi
    have hG := gndK_s (s := s) hi
    have hne := cmp_ne (s := s) hi
    have hkl := gndK_len (B := B) (s := s) (k := i) va
    rw [List.getElem_map]
    generalize (placesS A B)[i] = x at *
    simp only [wset, hset, dset, bset, Nat.reduceAdd, Nat.reduceMul, Nat.reduceLeDiff, Nat.reduceEqDiff, setArgs]
    refine ⟨_, g, rfl, by simp, ?_⟩
    simp only [wset, hset, dset, bset, Nat.reduceAdd, Nat.reduceMul, Nat.reduceLeDiff, Nat.reduceEqDiff]
    refine WF.res T.c97 (r97 T (H := A) (oa.ext (by repeat first | exact Ext.refl _ | refine Ext.app _ ?_)) va hx.1) ?_
    rintro _ g3 rfl
    simp only [wset, hset, dset, bset, Nat.reduceAdd, Nat.reduceMul, Nat.reduceLeDiff, Nat.reduceEqDiff]
    refine WF.res T.c97 (r97 T (H := B) (ob.ext (by repeat first | exact Ext.refl _ | refine Ext.app _ ?_)) vb hx.2) ?_
    rintro _ g4 rfl
    simp only [wset, hset, dset, bset, Nat.reduceAdd, Nat.reduceMul, Nat.reduceLeDiff, Nat.reduceEqDiff]
    refine WF.res T.c143 (r143 T (bandS B x) s (by omega) (by omega) (by omega)) ?_
    rintro _ g5 rfl
    repeat (first | simp only [wset, hset, dset, bset, Nat.reduceAdd, Nat.reduceMul, Nat.reduceLeDiff, Nat.reduceEqDiff] | simp (disch := first | (simp only [List.length_append, List.length_cons, List.length_nil] <;> omega) | rfl | omega | fail) only [kset, wset, hset, dset, bset, Nat.reduceAdd, Nat.reduceMul, Nat.reduceLeDiff, Nat.reduceEqDiff])
    refine WF.res T.c122 (r122 T (bandS A x) (movS (bandS B x) s)) ?_
    rintro _ g6 rfl
    have hN : ∀ (o' : AV) (X : ABlk), (h ++ [ABlk.cells [AV.str A.name, AV.int IntKind.i64 A.err, sa] true false] ++ [ABlk.cells [AV.str B.name, AV.int IntKind.i64 B.err, sb] true false] ++ [ABlk.cells [AV.int IntKind.i64 s] true false] ++ [ABlk.cells [AV.nilSlice] true false] ++ [ABlk.cells [AV.int IntKind.i64 0] true false] ++ g1 ++ [ABlk.cells [o'] true false] ++ g2 ++ [X]).length = (h ++ [ABlk.cells [AV.str A.name, AV.int IntKind.i64 A.err, sa] true false] ++ [ABlk.cells [AV.str B.name, AV.int IntKind.i64 B.err, sb] true false] ++ [ABlk.cells [AV.int IntKind.i64 s] true false] ++ [ABlk.cells [AV.nilSlice] true false] ++ [ABlk.cells [AV.int IntKind.i64 0] true false] ++ g1 ++ [ABlk.cells [out] true false] ++ g2).length + 1 := fun o' X => by simp only [List.length_append, List.length_cons, List.length_nil]; try omega
    have e9 : ∀ o', (h ++ [ABlk.cells [AV.str A.name, AV.int IntKind.i64 A.err, sa] true false] ++ [ABlk.cells [AV.str B.name, AV.int IntKind.i64 B.err, sb] true false] ++ [ABlk.cells [AV.int IntKind.i64 s] true false] ++ [ABlk.cells [AV.nilSlice] true false] ++ [ABlk.cells [AV.int IntKind.i64 0] true false] ++ g1 ++ [ABlk.cells [o'] true false] ++ g2).length = (h ++ [ABlk.cells [AV.str A.name, AV.int IntKind.i64 A.err, sa] true false] ++ [ABlk.cells [AV.str B.name, AV.int IntKind.i64 B.err, sb] true false] ++ [ABlk.cells [AV.int IntKind.i64 s] true false] ++ [ABlk.cells [AV.nilSlice] true false] ++ [ABlk.cells [AV.int IntKind.i64 0] true false] ++ g1 ++ [ABlk.cells [out] true false] ++ g2).length := fun o' => by simp only [List.length_append, List.length_cons, List.length_nil]
    have hfrB := hfr.swap' (hN out .dead) (hN out Y)
    cases hd : apartS (bandS A x) (movS (bandS B x) s) with
    | true =>
      have hd' : diffS A B s x = true := hd
      repeat (first | simp only [wset, hset, dset, bset, Nat.reduceAdd, Nat.reduceMul, Nat.reduceLeDiff, Nat.reduceEqDiff] | simp (disch := first | (simp only [List.length_append, List.length_cons, List.length_nil] <;> omega) | rfl | omega | fail) only [kset, wset, hset, dset, bset, Nat.reduceAdd, Nat.reduceMul, Nat.reduceLeDiff, Nat.reduceEqDiff])
      refine ⟨_, _, mid6, by simp only [List.length_append, List.length_cons, List.length_nil], ?_⟩
      rw [if_neg (by simp)]
      first | exact ⟨rfl, hne hd', out, rfl⟩ | exact ⟨hne hd', out, rfl⟩
    | false =>
      have hd' : diffS A B s x = false := hd
      rw [hd', if_neg Bool.false_ne_true, List.append_nil, hk0] at hK
      repeat (first | simp only [wset, hset, dset, bset, Nat.reduceAdd, Nat.reduceMul, Nat.reduceLeDiff, Nat.reduceEqDiff] | simp (disch := first | (simp only [List.length_append, List.length_cons, List.length_nil] <;> omega) | rfl | omega | fail) only [kset, wset, hset, dset, bset, Nat.reduceAdd, Nat.reduceMul, Nat.reduceLeDiff, Nat.reduceEqDiff])
      refine WR.app1 (h0 := h ++ [ABlk.cells [AV.str A.name, AV.int IntKind.i64 A.err, sa] true false] ++ [ABlk.cells [AV.str B.name, AV.int IntKind.i64 B.err, sb] true false] ++ [ABlk.cells [AV.int IntKind.i64 s] true false] ++ [ABlk.cells [AV.nilSlice] true false] ++ [ABlk.cells [AV.int IntKind.i64 0] true false] ++ g1 ++ [ABlk.cells [out] true false] ++ g2 ++ [Y]) (cs := (gndK A B s i).map ratRow) (ys := [[.int .i64 (max (bandS A x).1 (movS (bandS B x) s).1), .int .i64 (min (bandS A x).2 (movS (bandS B x) s).2)]]) ?f1 (Fr.push (N := 0) (Nat.zero_le _) [[.int .i64 (max (bandS A x).1 (movS (bandS B x) s).1), .int .i64 (min (bandS A x).2 (movS (bandS B x) s).2)]] (by simp)).isSl (by decide) ?f2 ?f3 (by repeat first | exact Ext.refl _ | refine Ext.app _ ?_) ?_
      case f1 => rw [hN]; exact (((((((hfrB.app _).app _).app _).app _).app _).app _).app _)
      case f2 => simp
      case f3 => simp only [List.length_cons, List.length_nil, List.length_map]; omega
      intro g' hl' hff hkp
      have hrow : (gndK A B s i).map ratRow ++ [[.int .i64 (max (bandS A x).1 (movS (bandS B x) s).1), .int .i64 (min (bandS A x).2 (movS (bandS B x) s).2)]] = (gndK A B s (i + 1)).map ratRow := by rw [hG, List.map_append]; rfl
      rw [hrow, hN] at hff
      rw [hrow]
      repeat (first | simp only [wset, hset, dset, bset, Nat.reduceAdd, Nat.reduceMul, Nat.reduceLeDiff, Nat.reduceEqDiff] | simp (disch := first | (simp only [List.length_append, List.length_cons, List.length_nil] <;> omega) | rfl | omega | fail) only [kset, wset, hset, dset, bset, Nat.reduceAdd, Nat.reduceMul, Nat.reduceLeDiff, Nat.reduceEqDiff])
      refine ⟨_, g', rfl, by simp only [List.length_append, List.length_cons, List.length_nil]; try omega, ?_⟩
      rw [if_pos trivial]
      refine ⟨hK, _, rfl, ?_⟩
      rw [e9]
      exact hff.swap' (hN out Y) (hN _ .dead)
  · by_cases hen : e = .normal
    · subst hen
      rw [if_pos rfl] at hI
      obtain ⟨hk, out, rfl, hfr⟩ := hI
      rw [List.length_map] at hk hfr
      rw [cmpK_all] at hk
      rw [gndK_all] at hfr
      rw [comS, if_pos hk]
      have ho := hfr.isSl.one
      repeat (first | simp only [wset, hset, dset, bset, Nat.reduceAdd, Nat.reduceMul, Nat.reduceLeDiff, Nat.reduceEqDiff, ho] | simp (disch := first | (simp only [List.length_append, List.length_cons, List.length_nil] <;> omega) | rfl | omega | fail) only [kset, wset, hset, dset, bset, Nat.reduceAdd, Nat.reduceMul, Nat.reduceLeDiff, Nat.reduceEqDiff, ho])
      refine ⟨by repeat first | exact Ext.refl _ | refine Ext.app _ ?_, out, rfl, Fr.isSl (hfr.swap' ?_ ?_)⟩
      · simp only [List.length_append, List.length_cons, List.length_nil]
      · simp only [List.length_append, List.length_cons, List.length_nil]
    · rw [if_neg hen] at hI
      obtain ⟨rfl, hne, out, rfl⟩ := hI
      rw [comS, if_neg hne]
      repeat (first | simp only [wset, hset, dset, bset, Nat.reduceAdd, Nat.reduceMul, Nat.reduceLeDiff, Nat.reduceEqDiff] | simp (disch := first | (simp only [List.length_append, List.length_cons, List.length_nil] <;> omega) | rfl | omega | fail) only [kset, wset, hset, dset, bset, Nat.reduceAdd, Nat.reduceMul, Nat.reduceLeDiff, Nat.reduceEqDiff])
      exact ⟨by repeat first | exact Ext.refl _ | refine Ext.app _ ?_, _, rfl, .nil⟩
end
end Go.Abs
namespace Go.Abs

def befM (f : Int → Nat) (a b : Int) : Prop := f a < f b ∨ (f a = f b ∧ (max a (-a) < max b (-b) ∨ (max a (-a) = max b (-b) ∧ a < b)))
def BestM (f : Int → Nat) (lo hi m : Int) : Prop := lo ≤ m ∧ m ≤ hi ∧ ∀ s, lo ≤ s → s ≤ hi → s = m ∨ befM f m s
variable {f : Int → Nat} {lo hi m m' : Int}
theorem BestM.uniq (h1 : BestM f lo hi m) (h2 : BestM f lo hi m') : m = m' := by
  have a := h1.2.2 m' h2.1 h2.2.1
  have b := h2.2.2 m h1.1 h1.2.1
  simp only [befM] at a b
  omega
theorem BestM.one {a : Int} : BestM f a a a := ⟨Int.le_refl _, Int.le_refl _, fun s h1 h2 => Or.inl (by omega)⟩
theorem BestM.one' {a b c : Int} (h1 : b = a) (h2 : c = a) : BestM f a b c := by subst h1; subst h2; exact BestM.one
theorem BestM.up (h : BestM f lo hi m) (c : befM f (hi + 1) m) : BestM f lo (hi + 1) (hi + 1) := by
  refine ⟨by have := h.1; have := h.2.1; omega, Int.le_refl _, fun s h1 h2 => ?_⟩
  by_cases hs : s = hi + 1
  · exact .inl hs
  · have := h.2.2 s h1 (by omega)
    simp only [befM] at *
    rcases this with rfl | this
    · right; exact c
    · right; omega
theorem BestM.stay (h : BestM f lo hi m) (c : ¬ befM f (hi + 1) m) : BestM f lo (hi + 1) m := by
  have h1' := h.2.1
  refine ⟨h.1, by omega, fun s h1 h2 => ?_⟩
  by_cases hs : s = hi + 1
  · subst hs
    right
    simp only [befM] at *
    omega
  · exact h.2.2 s h1 (by omega)
theorem BestM.dn (h : BestM f lo hi m) (hl : lo = -hi) : BestM f (lo - 1) hi (if f (lo - 1) < f m then lo - 1 else m) := by
  have h1' := h.1
  have h2' := h.2.1
  split
  · rename_i c
    refine ⟨Int.le_refl _, by omega, fun s h1 h2 => ?_⟩
    by_cases hs : s = lo - 1
    · exact .inl hs
    · have := h.2.2 s (by omega) h2
      right
      simp only [befM] at *
      rcases this with rfl | this
      · exact .inl c
      · left; omega
  · rename_i c
    refine ⟨by omega, h2', fun s h1 h2 => ?_⟩
    by_cases hs : s = lo - 1
    · subst hs
      right
      simp only [befM]
      omega
    · exact h.2.2 s (by omega) h2
theorem BestM.pl (h : BestM f lo hi m) (hl : lo = -(hi + 1)) (h0 : 0 ≤ hi) : BestM f lo (hi + 1) (if f (hi + 1) < f m then hi + 1 else m) := by
  have h1' := h.1
  have h2' := h.2.1
  split
  · rename_i c
    exact h.up (.inl c)
  · rename_i c
    refine h.stay ?_
    simp only [befM]
    omega

def mtK (f : Int → Nat) : Nat → Int
  | 0 => 0
  | n + 1 =>
    let c := if f (-(n : Int) - 1) < f (mtK f n) then -(n : Int) - 1 else mtK f n
    if f ((n : Int) + 1) < f c then (n : Int) + 1 else c
theorem mtK_best : ∀ n : Nat, BestM f (-(n : Int)) n (mtK f n)
  | 0 => BestM.one
  | n + 1 => by
    have h1 := (mtK_best n).dn rfl
    have h2 := h1.pl (by omega) (by omega)
    have e : -((n + 1 : Nat) : Int) = -(n : Int) - 1 := by omega
    rw [e]; exact h2
def cmpI (a b : Int) : Int := if a < b then -1 else if b < a then 1 else 0
def ordM (f : Int → Nat) (a b : Int) : Int := firstS [cmpI (f a) (f b), cmpI (max a (-a)) (max b (-b)), cmpI a b]
theorem ordM_neg {a b : Int} : ordM f a b < 0 ↔ befM f a b := by
  simp only [ordM, firstS, cmpI, befM]
  repeat' split
  all_goals (constructor <;> intro <;> omega)
end Go.Abs
namespace Go.Abs

section
variable {P : Program} (T : Tbl P) {h : AHeap}
include T

end
end Go.Abs
namespace Go.Abs

def mtRow (x : Int × AV) : List AV := [.int .i64 x.1, x.2]
def minL (c : Int × AV → Int × AV → Int) : Int × AV → List (Int × AV) → Int × AV
  | m, [] => m
  | m, x :: r => minL c (if c x m < 0 then x else m) r
def lenS (A B : Hor) (s : Int) : Nat := (cmpS A B s).length
def matchM (A B : Hor) (x : Int) : Int := mtK (lenS A B) x.toNat

theorem minL_mem {c : Int × AV → Int × AV → Int} : ∀ {R : List (Int × AV)} {m : Int × AV}, minL c m R = m ∨ minL c m R ∈ R
  | [], m => .inl rfl
  | x :: r, m => by
    rw [minL]
    split
    · rcases @minL_mem c r x with h | h
      · rw [h]; exact .inr (List.mem_cons_self ..)
      · exact .inr (List.mem_cons_of_mem _ h)
    · rcases @minL_mem c r m with h | h
      · exact .inl h
      · exact .inr (List.mem_cons_of_mem _ h)
theorem minL_best {f : Int → Nat} {L : List (Int × AV)} {lo : Int} (hL : ∀ i (hi : i < L.length), L[i].1 = lo + i) : ∀ (n j : Nat) (m : Int × AV), n = L.length - j → j ≤ L.length → BestM f lo (lo + j - 1) m.1 → BestM f lo (lo + L.length - 1) (minL (fun x y => ordM f x.1 y.1) m (L.drop j)).1
  | 0, j, m, hn, hj, hb => by
    rw [List.drop_eq_nil_of_le (by omega), minL]
    rw [show L.length = j by omega]; exact hb
  | n + 1, j, m, hn, hj, hb => by
    have hlt : j < L.length := by omega
    have h1 := hL j hlt
    rw [List.drop_eq_getElem_cons hlt, minL]
    refine minL_best hL n (j + 1) _ (by omega) (by omega) ?_
    have e1 : lo + ((j + 1 : Nat) : Int) - 1 = lo + j - 1 + 1 := by omega
    have e2 : L[j].1 = lo + j - 1 + 1 := by omega
    rw [e1]
    by_cases hc : ordM f L[j].1 m.1 < 0
    · rw [if_pos hc, e2]; rw [ordM_neg, e2] at hc; exact hb.up hc
    · rw [if_neg hc]; rw [ordM_neg, e2] at hc; exact hb.stay hc

section
variable {P : Program} (T : Tbl P) {h : AHeap}
include T

theorem r206 (a : Int) : RCall P 206 [.int .i64 a] h (fun v _ => v = .bool false) := by
  refine .of T.mix T.c206 ?_
  unfold fn206
  simp only [wset, hset, dset, bset, Nat.reduceAdd, Nat.reduceMul, Nat.reduceLeDiff, Nat.reduceEqDiff, ne_eq, not_true_eq_false, decide_false]
theorem r184 (a b : Int) : RCall P 184 [.int .i64 a, .int .i64 b] h (fun v _ => v = .int .i64 (cmpI a b)) := by
  refine .of T.mix T.c184 ?_
  unfold fn184
  simp only [wset, hset, dset, bset, Nat.reduceAdd, Nat.reduceMul, Nat.reduceLeDiff, Nat.reduceEqDiff]
  refine WF.res T.c206 (r206 T _) ?_
  rintro _ g1 rfl
  simp only [wset, hset, dset, bset, Nat.reduceAdd, Nat.reduceMul, Nat.reduceLeDiff, Nat.reduceEqDiff]
  refine WF.res T.c206 (r206 T _) ?_
  rintro _ g2 rfl
  by_cases h1 : a < b
  · simp only [wset, hset, dset, bset, Nat.reduceAdd, Nat.reduceMul, Nat.reduceLeDiff, Nat.reduceEqDiff, eq_true h1, decide_true]
    rw [cmpI, if_pos h1]
  · by_cases h2 : b < a
    · simp only [wset, hset, dset, bset, Nat.reduceAdd, Nat.reduceMul, Nat.reduceLeDiff, Nat.reduceEqDiff, eq_false h1, eq_true h2, decide_true, decide_false]
      rw [cmpI, if_neg h1, if_pos h2]
    · simp only [wset, hset, dset, bset, Nat.reduceAdd, Nat.reduceMul, Nat.reduceLeDiff, Nat.reduceEqDiff, eq_false h1, eq_false h2, decide_false]
      rw [cmpI, if_neg h1, if_neg h2]

theorem r183 {s : AV} {l : List Int} (hs : IsSl h s 1 (l.map intRow)) (hl : l.length < 2 ^ 62) : RCall P 183 [s] h (fun v _ => v = .int .i64 (firstS l)) := by
  refine .of T.mix T.c183 ?_
  unfold fn183
  simp only [wset, hset, dset, bset, Nat.reduceAdd, Nat.reduceMul, Nat.reduceLeDiff, Nat.reduceEqDiff, hs.lenm]
  refine WL.inv T.mix (fun n ts h' => ∃ k : Nat, k ≤ l.length ∧ n = l.length - k ∧ h' = h ∧ firstS l = firstS (l.drop k) ∧ ts.length = 18 ∧ slot ts 3 = .int .i64 0 ∧ slot ts 6 = s ∧ slot ts 7 = .int .i64 l.length ∧ slot ts 8 = .int .i64 k) l.length
    ⟨0, by omega, rfl, rfl, rfl, rfl, rfl, rfl, rfl, rfl⟩ ?_
  rintro _ ts _ ⟨k, hk, rfl, rfl, hf, hlen, t3, t6, t7, t8⟩
  rw [expl ts 18 hlen]
  by_cases hlt : k < l.length
  · have e3 : (k : Int) < l.length := by omega
    have hld : ∀ {kk : AHeap}, Ext _ kk → loadF none (elp s 1 k) (fun b => kk[b]?) = some (.int .i64 l[k], .keep) := fun {kk} e => hs.l1m hlt rfl e
    rw [List.drop_eq_getElem_cons hlt, firstS] at hf
    simp only [wset, hset, dset, bset, Nat.reduceAdd, Nat.reduceMul, Nat.reduceLeDiff, Nat.reduceEqDiff, t3, t6, t7, t8, e3, decide_true, hs.ixm hlt, hld (Ext.refl _)]
    by_cases h0 : l[k] = 0
    · rw [if_pos h0] at hf
      simp only [wset, hset, dset, bset, Nat.reduceAdd, Nat.reduceMul, Nat.reduceLeDiff, Nat.reduceEqDiff, show decide (l[k] ≠ 0) = false from decide_eq_false (fun hne => hne h0), t3, t6, t7, t8, wrapN (show k + 1 < 2 ^ 63 by omega)]
      refine ⟨_, ?_, k + 1, by omega, rfl, hf, rfl⟩
      omega
    · rw [if_neg h0] at hf
      simp only [wset, hset, dset, bset, Nat.reduceAdd, Nat.reduceMul, Nat.reduceLeDiff, Nat.reduceEqDiff, show decide (l[k] ≠ 0) = true from decide_eq_true h0]
      rw [hf]
  · have e3 : ¬ (k : Int) < l.length := by omega
    rw [List.drop_eq_nil_of_le (by omega), firstS] at hf
    simp only [wset, hset, dset, bset, Nat.reduceAdd, Nat.reduceMul, Nat.reduceLeDiff, Nat.reduceEqDiff, t3, t6, t7, t8, e3, decide_false, if_true]
    rw [hf]

theorem r142 {a b : Int} {sa sb : AV} {La Lb : List Int} (ha : IsSl h sa 1 (La.map intRow)) (hb : IsSl h sb 1 (Lb.map intRow)) (h1 : -(2 ^ 40) ≤ a ∧ a ≤ 2 ^ 40) (h2 : -(2 ^ 40) ≤ b ∧ b ≤ 2 ^ 40) :
    RCall P 142 [.agg [.int .i64 a, sa], .agg [.int .i64 b, sb]] h (fun v _ => v = .int .i64 (firstS [cmpI La.length Lb.length, cmpI (max a (-a)) (max b (-b)), cmpI a b])) := by
  refine .of T.mix T.c142 ?_
  unfold fn142
  simp only [wset, hset, dset, bset, Nat.reduceAdd, Nat.reduceMul, Nat.reduceLeDiff, Nat.reduceEqDiff, ha.one, hb.one, ha.lenm, hb.lenm]
  refine WF.res T.c184 (r184 T _ _) ?_
  rintro _ g1 rfl
  have w1 : IntKind.i64.wrap (0 - a) = -a := by rw [wrap_in (by omega) (by omega)]; omega
  have w2 : IntKind.i64.wrap (0 - b) = -b := by rw [wrap_in (by omega) (by omega)]; omega
  simp only [wset, hset, dset, bset, Nat.reduceAdd, Nat.reduceMul, Nat.reduceLeDiff, Nat.reduceEqDiff, w1, w2]
  refine WF.res T.c184 (r184 T _ _) ?_
  rintro _ g2 rfl
  simp only [wset, hset, dset, bset, Nat.reduceAdd, Nat.reduceMul, Nat.reduceLeDiff, Nat.reduceEqDiff]
  refine WF.res T.c184 (r184 T _ _) ?_
  rintro _ g3 rfl
  simp only [wset, hset, dset, bset, Nat.reduceAdd, Nat.reduceMul, Nat.reduceLeDiff, Nat.reduceEqDiff]
  refine WF.res T.c183 (r183 T (isSl_ints [_, _, _]) (by simp)) ?_
  rintro _ g4 rfl
  simp only [wset, hset, dset, bset, Nat.reduceAdd, Nat.reduceMul, Nat.reduceLeDiff, Nat.reduceEqDiff]

theorem r141 {L : List (Int × AV)} {s f : AV} (hs : IsSl h s 2 (L.map mtRow)) (hl : L.length < 2 ^ 62) (h0 : 0 < L.length) (ho : ∀ x ∈ L, x.2.one = true) (c : Int × AV → Int × AV → Int)
    (hf : ∀ x ∈ L, ∀ y ∈ L, ∀ k, Ext h k → VCall P f [.agg (mtRow x), .agg (mtRow y)] k (fun v _ => v = .int .i64 (c x y))) : RCall P 141 [s, f] h (fun v _ => v = .agg (mtRow (minL c L[0] (L.drop 1)))) := by
  refine .of T.mix T.c141 ?_
  unfold fn141
  have ho0 := ho L[0] (List.getElem_mem h0)
  obtain ⟨M, hM⟩ : ∃ M, M = minL c L[0] (L.drop 1) := ⟨_, rfl⟩
  rw [← hM]
  have hld : ∀ {i : Nat} (hi : i < L.length) {kk : AHeap}, Ext h kk → loadF (some 2) (elp s 2 i) (fun b => kk[b]?) = some (.agg [.int .i64 L[i].1, L[i].2], .keep) := fun {i} hi {kk} e => hs.ldm hi e
  simp only [wset, hset, dset, bset, Nat.reduceAdd, Nat.reduceMul, Nat.reduceLeDiff, Nat.reduceEqDiff, hs.lenm, show decide ((L.length : Int) < 1) = false from decide_eq_false (by omega), hs.ix0 h0, hld h0, ho0]
  refine WL.inv T.mix (fun n ts h' => ∃ (k : Nat) (m : Int × AV) (g : AHeap), k ≤ L.length ∧ n = L.length - k ∧ h' = h ++ [ABlk.cells [AV.int IntKind.i64 0, AV.nilSlice] true false] ++ [ABlk.cells [AV.int IntKind.i64 m.1, m.2] true false] ++ g ∧ m ∈ L ∧ M = minL c m (L.drop k) ∧ ts.length = 33 ∧ slot ts 0 = s ∧ slot ts 1 = f ∧ slot ts 4 = .ptr h.length 0 ∧ slot ts 5 = .ptr (h ++ [ABlk.cells [AV.int IntKind.i64 0, AV.nilSlice] true false]).length 0 ∧ slot ts 6 = .int .i64 k) (L.length - 1)
    ⟨1, L[0], [], by omega, rfl, by rw [List.append_nil], List.getElem_mem h0, hM, rfl, rfl, rfl, rfl, rfl, rfl⟩ ?_
  rintro _ ts _ ⟨k, m, g, hk, rfl, rfl, hm, hmin, hlen, t0, t1, t4, t5, t6⟩
  rw [expl ts 33 hlen]
  have hom := ho m hm
  by_cases hlt : k < L.length
  · have e3 : (k : Int) < L.length := by omega
    have hok := ho L[k] (List.getElem_mem hlt)
    rw [List.drop_eq_getElem_cons hlt, minL] at hmin
    simp only [wset, hset, dset, bset, Nat.reduceAdd, Nat.reduceMul, Nat.reduceLeDiff, Nat.reduceEqDiff, t0, t1, t4, t5, t6, hs.lenm, e3, decide_true, hs.ixm hlt, hld hlt, hom]
    refine WF.val (hf L[k] (List.getElem_mem hlt) m hm _ (by repeat first | exact Ext.refl _ | refine Ext.app _ ?_)) ?_
    rintro _ g1 rfl
    by_cases hc : c L[k] m < 0
    · rw [if_pos hc] at hmin
      repeat (first | simp only [wset, hset, dset, bset, Nat.reduceAdd, Nat.reduceMul, Nat.reduceLeDiff, Nat.reduceEqDiff, eq_true hc, decide_true, t0, t1, t4, t5, t6, hs.ixm hlt, hld hlt, hok, wrapN (show k + 1 < 2 ^ 63 by omega)] | simp (disch := first | (simp only [List.length_append, List.length_cons, List.length_nil] <;> omega) | rfl | omega | fail) only [kset, wset, hset, dset, bset, Nat.reduceAdd, Nat.reduceMul, Nat.reduceLeDiff, Nat.reduceEqDiff, t0, t1, t4, t5, t6, hok])
      refine ⟨_, ?_, k + 1, L[k], g ++ g1, by omega, rfl, by simp only [List.append_assoc], List.getElem_mem hlt, hmin, rfl⟩
      omega
    · rw [if_neg hc] at hmin
      simp only [wset, hset, dset, bset, Nat.reduceAdd, Nat.reduceMul, Nat.reduceLeDiff, Nat.reduceEqDiff, eq_false hc, decide_false, t0, t1, t4, t5, t6, wrapN (show k + 1 < 2 ^ 63 by omega)]
      refine ⟨_, ?_, k + 1, m, g ++ g1, by omega, rfl, by simp only [List.append_assoc], hm, hmin, rfl⟩
      omega
  · have e3 : ¬ (k : Int) < L.length := by omega
    rw [List.drop_eq_nil_of_le (by omega), minL] at hmin
    repeat (first | simp only [wset, hset, dset, bset, Nat.reduceAdd, Nat.reduceMul, Nat.reduceLeDiff, Nat.reduceEqDiff, t0, t1, t4, t5, t6, hs.lenm, e3, decide_false, if_true, hom] | simp (disch := first | (simp only [List.length_append, List.length_cons, List.length_nil] <;> omega) | rfl | omega | fail) only [kset, wset, hset, dset, bset, Nat.reduceAdd, Nat.reduceMul, Nat.reduceLeDiff, Nat.reduceEqDiff, t0, t1, t4, t5, t6, hom])
    rw [hmin, mtRow]
end
end Go.Abs
namespace Go.Abs

section
variable {P : Program} (T : Tbl P) {h : AHeap}
include T

theorem r73 {A B : Hor} {sa sb : AV} (oa : HorOk h A sa) (ob : HorOk h B sb) (x : Int) : RCall P 73 [horA A sa, horA B sb, .int .i64 x] h (fun v h' => ∃ s', v = .tup [.int .i64 (if chkShS A B x 0 = 0 then matchM A B x else 0), s', .int .i64 (chkShS A B x 0)] ∧ IsSl h' s' 1 ((if chkShS A B x 0 = 0 then cmpS A B (matchM A B x) else []).map intRow)) := by
  refine .of T.mix T.c73 ?_
  unfold fn73
  simp only [wset, hset, dset, bset, Nat.reduceAdd, Nat.reduceMul, Nat.reduceLeDiff, Nat.reduceEqDiff, oa.sl.one, ob.sl.one]
  refine WF.res T.c139 (r139 T (A := A) (B := B) (oa.ext (by repeat first | exact Ext.refl _ | refine Ext.app _ ?_)) (ob.ext (by repeat first | exact Ext.refl _ | refine Ext.app _ ?_)) _ _) ?_
  rintro _ g1 rfl
  by_cases he : chkShS A B x 0 = 0
  case neg =>
    simp only [wset, hset, dset, bset, Nat.reduceAdd, Nat.reduceMul, Nat.reduceLeDiff, Nat.reduceEqDiff, show decide (chkShS A B x 0 ≠ 0) = true from decide_eq_true he]
    rw [if_neg he, if_neg he]
    exact ⟨_, rfl, .nil⟩
  obtain ⟨va, vb, hx⟩ := shift_ok he
  rw [if_pos he, if_pos he]
  have w1 : IntKind.i64.wrap (2 * x) = 2 * x := wrap_in (by omega) (by omega)
  have w2 : IntKind.i64.wrap (2 * x + 1) = 2 * x + 1 := wrap_in (by omega) (by omega)
  simp only [wset, hset, dset, bset, Nat.reduceAdd, Nat.reduceMul, Nat.reduceLeDiff, Nat.reduceEqDiff, show decide (chkShS A B x 0 ≠ 0) = false from decide_eq_false (fun hne => hne he), w1, w2]
  refine WL.inv T.mix (fun n ts h' => ∃ (k : Nat) (out : AV) (L : List (Int × AV)), k ≤ (2 * x + 1).toNat ∧ n = (2 * x + 1).toNat - k ∧ Ext (h ++ [ABlk.cells [AV.str A.name, AV.int IntKind.i64 A.err, sa] true false] ++ [ABlk.cells [AV.str B.name, AV.int IntKind.i64 B.err, sb] true false] ++ g1) h' ∧ L.length = k ∧ (∀ i (hi : i < L.length), L[i].1 = -x + i) ∧ Fr (h ++ [ABlk.cells [AV.str A.name, AV.int IntKind.i64 A.err, sa] true false] ++ [ABlk.cells [AV.str B.name, AV.int IntKind.i64 B.err, sb] true false] ++ g1).length h' out 2 (L.map mtRow) ∧ (∀ y ∈ L, IsSl h' y.2 1 ((cmpS A B y.1).map intRow) ∧ ∀ b o n e b0 o0 n0 e0, y.2 = .slice b o n e → out = .slice b0 o0 n0 e0 → b < b0) ∧ ts.length = 46 ∧ slot ts 2 = .int .i64 x ∧ slot ts 3 = .ptr h.length 0 ∧ slot ts 4 = .ptr (h ++ [ABlk.cells [AV.str A.name, AV.int IntKind.i64 A.err, sa] true false]).length 0 ∧ slot ts 9 = .int .i64 (chkShS A B x 0) ∧ slot ts 10 = out ∧ slot ts 22 = .int .i64 (2 * x + 1) ∧ slot ts 23 = .int .i64 k) (2 * x + 1).toNat
    ⟨0, .nilSlice, [], by omega, rfl, Ext.refl _, rfl, fun i hi => absurd hi (Nat.not_lt_zero _), .nil, by simp, rfl, rfl, rfl, rfl, rfl, rfl, rfl, rfl⟩ ?_
  rintro _ ts _ ⟨k, out, L, hk, rfl, ⟨g, rfl⟩, hlk, hsh, hfr, hel, hlen, t2, t3, t4, t9, t10, t22, t23⟩
  rw [expl ts 46 hlen]
  by_cases hlt : k < (2 * x + 1).toNat
  · have e3 : (k : Int) < 2 * x + 1 := by omega
    have w3 : IntKind.i64.wrap ((k : Int) - x) = -x + k := by rw [wrap_in (by omega) (by omega)]; omega
    simp only [wset, hset, dset, bset, Nat.reduceAdd, Nat.reduceMul, Nat.reduceLeDiff, Nat.reduceEqDiff, t2, t3, t4, t9, t10, t22, t23, e3, decide_true, w3]
    refine WF.res T.c140 (r140 T (A := A) (B := B) (oa.ext (by repeat first | exact Ext.refl _ | refine Ext.app _ ?_)) (ob.ext (by repeat first | exact Ext.refl _ | refine Ext.app _ ?_)) va vb (s := -x + k) (by omega)) ?_
    rintro s1 g2 hs1
    have h1o := hs1.isSl.one
    simp only [wset, hset, dset, bset, Nat.reduceAdd, Nat.reduceMul, Nat.reduceLeDiff, Nat.reduceEqDiff, h1o]
    refine WR.app1 (h0 := h ++ [ABlk.cells [AV.str A.name, AV.int IntKind.i64 A.err, sa] true false] ++ [ABlk.cells [AV.str B.name, AV.int IntKind.i64 B.err, sb] true false] ++ g1) (cs := L.map mtRow) (ys := [mtRow (-x + k, s1)]) ((hfr.app _).app _) (Fr.push (N := 0) (Nat.zero_le _) [mtRow (-x + k, s1)] (by simp [mtRow])).isSl (by decide) (by simp) (by simp; omega) (by repeat first | exact Ext.refl _ | refine Ext.app _ ?_) ?_
    intro g' hl' hf hkp
    have hrow : L.map mtRow ++ [mtRow (-x + k, s1)] = (L ++ [(-x + (k : Int), s1)]).map mtRow := by rw [List.map_append]; rfl
    rw [hrow] at hf
    rw [hrow]
    simp only [wset, hset, dset, bset, Nat.reduceAdd, Nat.reduceMul, Nat.reduceLeDiff, Nat.reduceEqDiff, t2, t3, t4, t9, t10, t22, t23, wrapN (show k + 1 < 2 ^ 63 by omega)]
    refine ⟨_, ?_, k + 1, _, L ++ [(-x + (k : Int), s1)], by omega, rfl, ?_, ?_, hf, ?_, rfl, rfl⟩
    · omega
    · rw [List.length_append, hlk]; rfl
    · intro i hi
      rw [List.getElem_append]
      split
      · rename_i hi'; exact hsh i hi'
      · simp only [List.length_append, List.length_cons, List.length_nil] at hi
        have : i = k := by omega
        subst this
        simp
    · intro y hy
      rcases List.mem_append.1 hy with hy | hy
      · obtain ⟨q1, q2⟩ := hel y hy
        have q1' := (q1.app g2).app [ABlk.cells [AV.int IntKind.i64 (-x + k), s1] true true]
        refine ⟨q1'.keep2 fun b o n e hb => hkp b (q1'.lt hb) fun b0 o0 n0 e0 hout => ?_, fun b o n e b0 o0 n0 e0 hb hout => ?_⟩
        · have := q2 _ _ _ _ _ _ _ _ hb hout
          omega
        · cases hout; exact q1'.lt hb
      · simp only [List.mem_singleton] at hy
        subst hy
        have q1' := hs1.isSl.app [ABlk.cells [AV.int IntKind.i64 (-x + k), s1] true true]
        refine ⟨q1'.keep2 fun b o n e hb => hkp b (q1'.lt hb) fun b0 o0 n0 e0 hout => ?_, fun b o n e b0 o0 n0 e0 hb hout => ?_⟩
        · have h3 := (hs1.lt hb).1
          have h4 := (hfr.lt hout).2
          simp only [List.length_append] at h3 h4
          omega
        · cases hout; exact q1'.lt hb
  · have e3 : ¬ (k : Int) < 2 * x + 1 := by omega
    have hlk' : (L.length : Int) = 2 * x + 1 := by omega
    have h0 : 0 < L.length := by omega
    have hb := minL_best (f := lenS A B) hsh (L.length - 1) 1 L[0] rfl (by omega) (by
      have := hsh 0 h0
      rw [this]
      exact BestM.one' (by omega) (by omega))
    have hm1 : -x + (L.length : Int) - 1 = x := by omega
    rw [hm1] at hb
    have hb2 := mtK_best (f := lenS A B) x.toNat
    rw [show ((x.toNat : Nat) : Int) = x by omega] at hb2
    have hM := hb.uniq hb2
    have hmem : minL (fun x y => ordM (lenS A B) x.1 y.1) L[0] (L.drop 1) ∈ L := by
      rcases minL_mem (c := fun x y => ordM (lenS A B) x.1 y.1) (R := L.drop 1) (m := L[0]) with h1 | h1
      · rw [h1]; exact List.getElem_mem h0
      · exact List.mem_of_mem_drop h1
    simp only [wset, hset, dset, bset, Nat.reduceAdd, Nat.reduceMul, Nat.reduceLeDiff, Nat.reduceEqDiff, t2, t3, t4, t9, t10, t22, t23, e3, decide_false, if_true]
    refine WF.res T.c141 (r141 T (L := L) hfr.isSl (by omega) h0 (fun y hy => (hel y hy).1.one) (fun x y => ordM (lenS A B) x.1 y.1) (fun y hy z hz k' e' => ?_)) ?_
    · refine VCall.of (a := []) (c := []) T.c142 ?_
      have b1 : ∀ w ∈ L, -(2 ^ 40) ≤ w.1 ∧ w.1 ≤ 2 ^ 40 := fun w hw => by
        obtain ⟨i, hi, rfl⟩ := List.getElem_of_mem hw
        rw [hsh i hi]; omega
      exact r142 T ((hel y hy).1.ext e') ((hel z hz).1.ext e') (b1 y hy) (b1 z hz)
    rintro _ g2 rfl
    have hfin := hel _ hmem
    generalize minL (fun x y => ordM (lenS A B) x.1 y.1) L[0] (L.drop 1) = M at *
    obtain ⟨m1, m2⟩ := M
    have hM' : m1 = matchM A B x := hM
    have ho := hfin.1.one
    simp only at ho
    simp only [wset, hset, dset, bset, Nat.reduceAdd, Nat.reduceMul, Nat.reduceLeDiff, Nat.reduceEqDiff, mtRow, ho]
    subst hM'
    exact ⟨_, by rw [he], (hfin.1.app _).app _⟩
end
end Go.Abs
namespace Go.Abs

theorem lowS_cross {n d : Nat} (hd : 0 < d) : (lowS n d).1 * (d : Int) = (n : Int) * (lowS n d).2 := by
  have hg := gcd_bd (n := n) hd
  obtain ⟨a, ha⟩ := Nat.gcd_dvd_left n d
  obtain ⟨b, hb⟩ := Nat.gcd_dvd_right n d
  unfold lowS
  generalize hgg : Nat.gcd n d = g at *
  subst ha
  simp only
  rw [Nat.mul_div_cancel_left a hg.1]
  have e : d / g = b := by rw [hb]; exact Nat.mul_div_cancel_left b hg.1
  rw [e]
  have hb' : (d : Int) = g * b := by rw [hb]; exact Int.natCast_mul g b
  rw [hb', Int.natCast_mul]
  grind

theorem picks_mono {H : Hor} (v : HorV H) {a b : Nat} (ha : a < H.picks.length) (hb : b < H.picks.length) (h : H.picks[a].1 < H.picks[b].1) : a < b := by
  rcases Nat.lt_trichotomy a b with h1 | h1 | h1
  · exact h1
  · subst h1; omega
  · have := v.ok.lt h1 ha; omega
theorem picks_inj {H : Hor} (v : HorV H) {a b : Nat} (ha : a < H.picks.length) (hb : b < H.picks.length) (h : H.picks[a].1 = H.picks[b].1) : a = b := by
  rcases Nat.lt_trichotomy a b with h1 | h1 | h1
  · have := v.ok.lt h1 hb; omega
  · exact h1
  · have := v.ok.lt h1 ha; omega

theorem at_cases {H : Hor} (v : HorV H) {x : Int} (hx : hasS H x = true) : ∃ (i : Nat) (hi : i < H.picks.length), (H.picks[i].1 = x ∧ atS H x = (H.picks[i].2, 1)) ∨ (∃ h0 : 0 < i, (H.picks[i - 1]'(by omega)).1 < x ∧ x < H.picks[i].1 ∧ atS H x = lowS ((H.picks[i - 1]'(by omega)).2 * (H.picks[i].1 - (H.picks[i - 1]'(by omega)).1) + (H.picks[i].2 - (H.picks[i - 1]'(by omega)).2) * (x - (H.picks[i - 1]'(by omega)).1)).toNat (H.picks[i].1 - (H.picks[i - 1]'(by omega)).1).toNat) := by
  obtain ⟨i, hi, _, h2, h3, h4⟩ := atFrom_idx (a := (0, 0)) (has_some v hx)
  refine ⟨i, hi, ?_⟩
  unfold atS
  rw [h4]
  unfold stepS
  by_cases he : H.picks[i].1 = x
  · left; rw [if_pos he]; exact ⟨he, rfl⟩
  · right
    rw [if_neg he]
    have hi0 : i ≠ 0 := by
      rintro rfl
      simp only [hasS, Bool.and_eq_true, decide_eq_true_eq] at hx
      rw [begS_eq v.ne] at hx
      omega
    rw [dif_neg hi0]
    exact ⟨by omega, h3 (i - 1) (by omega), by omega, rfl⟩

theorem pick_has {H : Hor} (v : HorV H) {j : Nat} (hj : j < H.picks.length) : hasS H H.picks[j].1 = true := by
  simp only [hasS, Bool.and_eq_true, decide_eq_true_eq]
  rw [begS_eq v.ne, endS_eq v.ne]
  constructor
  · by_cases h0 : j = 0
    · subst h0; exact Int.le_refl _
    · have := v.ok.lt (i := 0) (j := j) (by omega) hj; omega
  · by_cases h0 : j = H.picks.length - 1
    · subst h0; exact Int.le_refl _
    · have := v.ok.lt (i := j) (j := H.picks.length - 1) (by omega) (by omega); omega

theorem at_pick {H : Hor} (v : HorV H) {j : Nat} (hj : j < H.picks.length) : atS H H.picks[j].1 = (H.picks[j].2, 1) := by
  obtain ⟨i, hi, h | ⟨h0, h1, h2, _⟩⟩ := at_cases v (pick_has v hj)
  · have := picks_inj v hi hj h.1
    subst this; exact h.2
  · have := picks_mono v (by omega) hj h1
    have := picks_mono v hj hi h2
    omega

theorem at_cross {H : Hor} (v : HorV H) {x : Int} (hx : hasS H x = true) {j : Nat} (hj : j + 1 < H.picks.length) (h1 : H.picks[j].1 ≤ x) (h2 : x ≤ H.picks[j + 1].1) :
    (atS H x).1 * (H.picks[j + 1].1 - H.picks[j].1) = (H.picks[j].2 * (H.picks[j + 1].1 - H.picks[j].1) + (H.picks[j + 1].2 - H.picks[j].2) * (x - H.picks[j].1)) * (atS H x).2 := by
  obtain ⟨i, hi, ⟨hp, ha⟩ | ⟨h0, h3, h4, ha⟩⟩ := at_cases v hx
  · rw [ha]
    by_cases hij : i = j
    · subst hij
      rw [← hp]
      simp only
      grind
    · have h5 : j < i := picks_mono v (by omega) hi (by
        rcases Int.lt_or_eq_of_le h1 with h | h
        · omega
        · exact absurd (picks_inj v hi (by omega) (by omega)) hij)
      have h6 : i = j + 1 := by
        by_cases hh : i = j + 1
        · exact hh
        · have := v.ok.lt (i := j + 1) (j := i) (by omega) hi
          omega
      subst h6
      rw [← hp]
      simp only
      grind
  · have e : i = j + 1 := by
      have q1 : j < i := picks_mono v (by omega) hi (by omega)
      have q2 : i - 1 < j + 1 := picks_mono v (by omega) hj (by omega)
      omega
    subst e
    have hlt := v.ok.lt (i := j) (j := j + 1) (by omega) hi
    have ba := v.ok.at (i := j) (by omega)
    have bb := v.ok.at hi
    rw [ha]
    simp only [Nat.add_sub_cancel]
    have hn := interp_bd (a := H.picks[j]) (b := H.picks[j + 1]) (x := x) (by omega) (by omega) (by omega) h2
    have hc := lowS_cross (n := (H.picks[j].2 * (H.picks[j + 1].1 - H.picks[j].1) + (H.picks[j + 1].2 - H.picks[j].2) * (x - H.picks[j].1)).toNat) (d := (H.picks[j + 1].1 - H.picks[j].1).toNat) (by omega)
    rw [Int.toNat_of_nonneg (by omega), Int.toNat_of_nonneg (by omega)] at hc
    exact hc

/-- What floors and ceilings are. -/
theorem fl_bd {n d : Int} (hd : 0 < d) : n / d * d ≤ n ∧ n < (n / d + 1) * d := by
  have h1 := Int.mul_ediv_add_emod n d
  have h2 := Int.emod_nonneg n (by omega : d ≠ 0)
  have h3 := Int.emod_lt_of_pos n hd
  generalize n / d = q at *
  generalize n % d = r at *
  constructor
  · grind
  · grind
theorem ce_bd {n d : Int} (hd : 0 < d) : n ≤ -(-n / d) * d ∧ (-(-n / d) - 1) * d < n := by
  have h1 := fl_bd (n := -n) hd
  generalize -n / d = q at *
  constructor
  · grind
  · grind
end Go.Abs
namespace Go.Abs

theorem has_iff {H : Hor} {x : Int} : hasS H x = true ↔ begS H ≤ x ∧ x ≤ endS H := by
  simp only [hasS, Bool.and_eq_true, decide_eq_true_eq]
end Go.Abs
namespace Go.Abs

theorem places_comm (A B : Hor) : placesS B A = placesS A B := by
  unfold placesS; rw [Int.max_comm, Int.min_comm]
theorem places_at {A B : Hor} {i : Nat} (h : i < (placesS A B).length) : (placesS A B)[i] = max (begS A) (begS B) + i := ivS_get (lo := max (begS A) (begS B)) (hi := min (endS A) (endS B)) h
theorem diff_comm {A B : Hor} {s x : Int} : diffS B A (-s) x = diffS A B s x := by
  unfold diffS apartS movS
  rw [Bool.eq_iff_iff]
  simp only [Bool.or_eq_true, decide_eq_true_eq]
  omega
theorem cmp_comm {A B : Hor} {s : Int} : cmpS B A (-s) = cmpS A B s := by
  unfold cmpS
  rw [places_comm]
  congr 1
  funext x
  exact diff_comm
theorem match_in {A B : Hor} {x : Int} (hx : 0 ≤ x) : -x ≤ matchM A B x ∧ matchM A B x ≤ x := by
  have h := mtK_best (f := lenS A B) x.toNat
  have e : ((x.toNat : Nat) : Int) = x := by omega
  rw [e] at h
  exact ⟨h.1, h.2.1⟩
theorem match_min {A B : Hor} {x s : Int} (hx : 0 ≤ x) (h1 : -x ≤ s) (h2 : s ≤ x) : (cmpS A B (matchM A B x)).length ≤ (cmpS A B s).length := by
  have h := mtK_best (f := lenS A B) x.toNat
  have e : ((x.toNat : Nat) : Int) = x := by omega
  rw [e] at h
  rcases h.2.2 s h1 h2 with h | h
  · rw [h]; exact Nat.le_refl _
  · simp only [befM] at h
    unfold matchM
    unfold lenS at h ⊢
    omega
/-- A horizon with a greater error. -/
def widH (A : Hor) : Hor := ⟨A.name, min 1000 (A.err + 1), A.picks⟩
theorem wid_v {A : Hor} (v : HorV A) : HorV (widH A) := ⟨v.nm, by have := v.e0; simp only [widH]; omega, by simp only [widH]; omega, v.ne, v.le, v.ok⟩
theorem wid_band {A : Hor} (v : HorV A) {x : Int} : (bandS (widH A) x).1 ≤ (bandS A x).1 ∧ (bandS A x).2 ≤ (bandS (widH A) x).2 := by
  have e : atS (widH A) x = atS A x := rfl
  have e1 := v.e1
  unfold bandS
  rw [e]
  simp only [widH]
  omega
theorem wid_cmp {A B : Hor} (v : HorV A) {s x : Int} (h : x ∈ cmpS (widH A) B s) : x ∈ cmpS A B s := by
  obtain ⟨h1, h2⟩ := List.mem_filter.1 h
  refine List.mem_filter.2 ⟨h1, ?_⟩
  have := wid_band v (x := x)
  unfold diffS apartS movS at h2 ⊢
  simp only [Bool.or_eq_true, decide_eq_true_eq] at h2 ⊢
  omega
theorem band_le {A : Hor} (v : HorV A) {x : Int} (hx : hasS A x = true) : (bandS A x).1 ≤ (bandS A x).2 := by
  have h := at_bd v hx
  have h1 := fl_bd (n := (atS A x).1) (d := (atS A x).2) (by omega)
  have h2 := ce_bd (n := (atS A x).1) (d := (atS A x).2) (by omega)
  have e0 := v.e0
  unfold bandS
  generalize (atS A x).1 / (atS A x).2 = q at *
  generalize -(-(atS A x).1 / (atS A x).2) = p at *
  simp only
  have : q * (atS A x).2 ≤ p * (atS A x).2 := by omega
  have := Int.le_of_mul_le_mul_right this (by omega)
  omega
theorem com_ok {A B : Hor} {s : Int} : (comS A B s).2 = 0 ↔ cmpS A B s = [] := by
  unfold comS
  split
  · rename_i h; exact ⟨fun _ => h, fun _ => rfl⟩
  · rename_i h; exact ⟨fun x => absurd x (show ¬ (18 : Int) = 0 by decide), fun x => absurd x h⟩
theorem com_err {A B : Hor} {s : Int} : (comS A B s).2 = 0 ∨ (comS A B s).2 = 18 := by
  unfold comS; split
  · exact .inl rfl
  · exact .inr rfl
theorem com_gnd {A B : Hor} {s : Int} (h : cmpS A B s = []) : comS A B s = ((placesS A B).map (gndS A B s), 0) := by
  unfold comS; rw [if_pos h]
theorem cmp_nil {A B : Hor} {s : Int} : cmpS A B s = [] ↔ ∀ x ∈ placesS A B, diffS A B s x = false := by
  unfold cmpS
  rw [List.filter_eq_nil_iff]
  exact ⟨fun h x hx => by simpa using h x hx, fun h x hx => by simp [h x hx]⟩
theorem gnd_in {A B : Hor} (va : HorV A) (vb : HorV B) {s x : Int} (hx : x ∈ placesS A B) (h : diffS A B s x = false) :
    (gndS A B s x).1 ≤ (gndS A B s x).2 ∧ (bandS A x).1 ≤ (gndS A B s x).1 ∧ (gndS A B s x).2 ≤ (bandS A x).2 ∧ (bandS B x).1 + s ≤ (gndS A B s x).1 ∧ (gndS A B s x).2 ≤ (bandS B x).2 + s := by
  obtain ⟨h1, h2⟩ := places_has hx
  have b1 := band_le va h1
  have b2 := band_le vb h2
  unfold diffS apartS movS at h
  simp only [Bool.or_eq_false_iff, decide_eq_false_iff_not] at h
  unfold gndS movS
  simp only
  omega

/-- A horizon whose times are wrong by so much, with an error. -/
def prtH (A : Hor) (e : Int) (f : Nat → Int) : Hor := ⟨A.name, e, A.picks.mapIdx fun i p => (p.1, p.2 + f i)⟩
theorem prt_len {A : Hor} {e : Int} {f : Nat → Int} : (prtH A e f).picks.length = A.picks.length := by simp [prtH]
theorem prt_get {A : Hor} {e : Int} {f : Nat → Int} {i : Nat} (hi : i < A.picks.length) : (prtH A e f).picks[i]'(by rw [prt_len]; exact hi) = (A.picks[i].1, A.picks[i].2 + f i) := by
  simp [prtH]
theorem prt_beg {A : Hor} {e : Int} {f : Nat → Int} (hn : 0 < A.picks.length) : begS (prtH A e f) = begS A := by
  rw [begS_eq hn, begS_eq (by rw [prt_len]; exact hn), prt_get hn]
theorem prt_end {A : Hor} {e : Int} {f : Nat → Int} (hn : 0 < A.picks.length) : endS (prtH A e f) = endS A := by
  have h := endS_eq (H := prtH A e f) (by rw [prt_len]; exact hn)
  simp only [prt_len] at h
  rw [endS_eq hn, h, prt_get (by omega)]
theorem prt_has {A : Hor} {e : Int} {f : Nat → Int} (hn : 0 < A.picks.length) {x : Int} : hasS (prtH A e f) x = hasS A x := by
  unfold hasS; rw [prt_beg hn, prt_end hn]
theorem prt_places {A : Hor} {e e' : Int} {f f' : Nat → Int} (hn : 0 < A.picks.length) : placesS (prtH A e f) (prtH A e' f') = placesS A A := by
  unfold placesS; rw [prt_beg hn, prt_end hn, prt_beg hn, prt_end hn]

/-- The first picks are wrong already. -/
def pkM (f : Nat → Int) (k : Nat) (L : List Pk) : List Pk := L.mapIdx fun i p => if i < k then (p.1, p.2 + f i) else p
theorem pkM_len {f : Nat → Int} {k : Nat} {L : List Pk} : (pkM f k L).length = L.length := by simp [pkM]
theorem pkM_0 {f : Nat → Int} {L : List Pk} : pkM f 0 L = L := by
  apply List.ext_getElem
  · simp [pkM]
  · intro i h1 h2; simp [pkM]
theorem pkM_get {f : Nat → Int} {k : Nat} {L : List Pk} (hk : k < L.length) : (pkM f k L)[k]'(by rw [pkM_len]; exact hk) = L[k] := by simp [pkM]
theorem pkM_set {f : Nat → Int} {k : Nat} {L : List Pk} (hk : k < L.length) : (pkM f k L).set k (L[k].1, L[k].2 + f k) = pkM f (k + 1) L := by
  apply List.ext_getElem
  · simp [pkM]
  · intro i h1 h2
    rw [List.getElem_set]
    simp only [pkM, List.getElem_mapIdx]
    by_cases e : k = i
    · subst e; rw [if_pos rfl, if_pos (by omega)]
    · rw [if_neg e]
      by_cases e2 : i < k
      · rw [if_pos e2, if_pos (by omega)]
      · rw [if_neg e2, if_neg (by omega)]
theorem pkM_all {A : Hor} {e : Int} {f : Nat → Int} {k : Nat} (hk : k = A.picks.length) : pkM f k A.picks = (prtH A e f).picks := by
  subst hk
  apply List.ext_getElem
  · simp [pkM, prtH]
  · intro i h1 h2
    rw [pkM_len] at h1
    simp only [pkM, prtH, List.getElem_mapIdx]
    rw [if_pos h1]
def fOne (n : Int) (k : Nat) : Int := n * (1 - (k : Int).tmod 2 * 2)
def fTwo (n x : Int) (k : Nat) : Int := n * ((k : Int).tmod 2 * 2 - 1) - x
theorem par_k (k : Nat) : (k : Int).tmod 2 = 0 ∨ (k : Int).tmod 2 = 1 := by
  rw [Int.tmod_eq_emod_of_nonneg (by omega)]; omega
theorem fOne_bd (n : Int) (k : Nat) : -(max n (-n)) ≤ fOne n k ∧ fOne n k ≤ max n (-n) := by
  unfold fOne
  rcases par_k k with h | h <;> rw [h] <;> simp only [Int.reduceMul, Int.reduceSub, Int.mul_one, Int.mul_neg, Int.zero_mul, Int.sub_zero] <;> omega
theorem fTwo_bd (n x : Int) (k : Nat) : -x - max n (-n) ≤ fTwo n x k ∧ fTwo n x k ≤ -x + max n (-n) := by
  unfold fTwo
  rcases par_k k with h | h <;> rw [h] <;> simp only [Int.reduceMul, Int.reduceSub, Int.mul_one, Int.mul_neg, Int.zero_mul, Int.zero_sub] <;> omega

/-- The band of such a horizon at a pick has its time. -/
theorem prt_pick {A : Hor} {e c : Int} {f : Nat → Int} (v : HorV (prtH A e f)) {j : Nat} (hj : j < A.picks.length) (hf : c - e ≤ f j ∧ f j ≤ c + e) :
    (bandS (prtH A e f) A.picks[j].1).1 ≤ A.picks[j].2 + c ∧ A.picks[j].2 + c ≤ (bandS (prtH A e f) A.picks[j].1).2 := by
  have h := at_pick v (j := j) (by rw [prt_len]; exact hj)
  rw [prt_get hj] at h
  simp only at h
  unfold bandS
  rw [h]
  simp only [Int.ediv_one, prtH]
  omega

/-- The band of such a horizon has the point of the line. -/
theorem prt_line {A : Hor} {e c : Int} {f : Nat → Int} (v : HorV (prtH A e f)) {x : Int} {j : Nat} (hj : j + 1 < A.picks.length) (h1 : A.picks[j].1 < x) (h2 : x < A.picks[j + 1].1) (hx : hasS A x = true)
    (hf : ∀ i < A.picks.length, c - e ≤ f i ∧ f i ≤ c + e) :
    (bandS (prtH A e f) x).1 * (A.picks[j + 1].1 - A.picks[j].1) ≤ A.picks[j].2 * (A.picks[j + 1].1 - x) + A.picks[j + 1].2 * (x - A.picks[j].1) + c * (A.picks[j + 1].1 - A.picks[j].1) ∧
    A.picks[j].2 * (A.picks[j + 1].1 - x) + A.picks[j + 1].2 * (x - A.picks[j].1) + c * (A.picks[j + 1].1 - A.picks[j].1) ≤ (bandS (prtH A e f) x).2 * (A.picks[j + 1].1 - A.picks[j].1) := by
  have hx' : hasS (prtH A e f) x = true := by rw [prt_has (by omega)]; exact hx
  have hc := at_cross v hx' (j := j) (by rw [prt_len]; exact hj) (by rw [prt_get (by omega)]; exact Int.le_of_lt h1) (by rw [prt_get hj]; exact Int.le_of_lt h2)
  rw [prt_get hj, prt_get (by omega)] at hc
  simp only at hc
  have hb := at_bd v hx'
  have f1 := hf j (by omega)
  have f2 := hf (j + 1) hj
  have q1 := fl_bd (n := (atS (prtH A e f) x).1) (d := (atS (prtH A e f) x).2) (by omega)
  have q2 := ce_bd (n := (atS (prtH A e f) x).1) (d := (atS (prtH A e f) x).2) (by omega)
  have he : (prtH A e f).err = e := rfl
  unfold bandS
  rw [he]
  simp only
  generalize (atS (prtH A e f) x).1 / (atS (prtH A e f) x).2 = q at *
  generalize -(-(atS (prtH A e f) x).1 / (atS (prtH A e f) x).2) = p at *
  generalize (atS (prtH A e f) x).1 = n at *
  generalize (atS (prtH A e f) x).2 = d at *
  generalize A.picks[j].1 = a1 at *
  generalize A.picks[j].2 = a2 at *
  generalize A.picks[j + 1].1 = b1 at *
  generalize A.picks[j + 1].2 = b2 at *
  generalize f j = u at *
  generalize f (j + 1) = w at *
  have hd : 0 < d := by omega
  have g1 : u * (b1 - x) ≤ (c + e) * (b1 - x) := Int.mul_le_mul_of_nonneg_right f1.2 (by omega)
  have g2 : w * (x - a1) ≤ (c + e) * (x - a1) := Int.mul_le_mul_of_nonneg_right f2.2 (by omega)
  have g3 : (c - e) * (b1 - x) ≤ u * (b1 - x) := Int.mul_le_mul_of_nonneg_right f1.1 (by omega)
  have g4 : (c - e) * (x - a1) ≤ w * (x - a1) := Int.mul_le_mul_of_nonneg_right f2.1 (by omega)
  constructor
  · have k1 : q * d * (b1 - a1) ≤ n * (b1 - a1) := Int.mul_le_mul_of_nonneg_right q1.1 (by omega)
    have k2 : (q * (b1 - a1)) * d ≤ ((a2 + u) * (b1 - a1) + (b2 + w - (a2 + u)) * (x - a1)) * d := by
      calc (q * (b1 - a1)) * d = q * d * (b1 - a1) := by grind
        _ ≤ n * (b1 - a1) := k1
        _ = _ := hc
    have k3 := Int.le_of_mul_le_mul_right k2 hd
    grind
  · have k1 : n * (b1 - a1) ≤ p * d * (b1 - a1) := Int.mul_le_mul_of_nonneg_right q2.1 (by omega)
    have k2 : ((a2 + u) * (b1 - a1) + (b2 + w - (a2 + u)) * (x - a1)) * d ≤ (p * (b1 - a1)) * d := by
      calc _ = n * (b1 - a1) := hc.symm
        _ ≤ p * d * (b1 - a1) := k1
        _ = (p * (b1 - a1)) * d := by grind
    have k3 := Int.le_of_mul_le_mul_right k2 hd
    grind

/-- Two horizons of one ground differ nowhere. -/
theorem prt_same {A : Hor} (va : HorV A) {e e' s : Int} {f f' : Nat → Int} (v : HorV (prtH A e f)) (v' : HorV (prtH A e' f')) (hf : ∀ i < A.picks.length, -e ≤ f i ∧ f i ≤ e) (hf' : ∀ i < A.picks.length, -s - e' ≤ f' i ∧ f' i ≤ -s + e') :
    cmpS (prtH A e f) (prtH A e' f') s = [] := by
  rw [cmp_nil, prt_places va.ne]
  intro x hx
  have hx := (places_has hx).1
  have key : ∀ (D T : Int), 0 < D → (bandS (prtH A e f) x).1 * D ≤ T ∧ T ≤ (bandS (prtH A e f) x).2 * D → ((bandS (prtH A e' f') x).1 + s) * D ≤ T ∧ T ≤ ((bandS (prtH A e' f') x).2 + s) * D → diffS (prtH A e f) (prtH A e' f') s x = false := by
    intro D T hD a b
    unfold diffS apartS movS
    simp only [Bool.or_eq_false_iff, decide_eq_false_iff_not, Int.not_lt]
    exact ⟨Int.le_of_mul_le_mul_right (Int.le_trans b.1 a.2) hD, Int.le_of_mul_le_mul_right (Int.le_trans a.1 b.2) hD⟩
  obtain ⟨i, hi, ⟨hp, _⟩ | ⟨h0, h3, h4, _⟩⟩ := at_cases va hx
  · subst hp
    have a := prt_pick (c := 0) v hi (by have := hf i hi; omega)
    have b := prt_pick (c := -s) v' hi (hf' i hi)
    exact key 1 A.picks[i].2 (by decide) (by omega) (by omega)
  · obtain ⟨j, rfl⟩ : ∃ j, i = j + 1 := ⟨i - 1, by omega⟩
    simp only [Nat.add_sub_cancel] at h3
    have a := prt_line (c := 0) v hi h3 h4 hx (fun i hi => by have := hf i hi; omega)
    have b := prt_line (c := -s) v' hi h3 h4 hx hf'
    refine key (A.picks[j + 1].1 - A.picks[j].1) (A.picks[j].2 * (A.picks[j + 1].1 - x) + A.picks[j + 1].2 * (x - A.picks[j].1)) (by omega) ?_ ?_
    · grind
    · grind
theorem prt_gnd {A : Hor} {e e' s : Int} {f f' : Nat → Int} (v : HorV (prtH A e f)) (v' : HorV (prtH A e' f')) {j : Nat} (hj : j < A.picks.length) (hf : -e ≤ f j ∧ f j ≤ e) (hf' : -s - e' ≤ f' j ∧ f' j ≤ -s + e') :
    (gndS (prtH A e f) (prtH A e' f') s A.picks[j].1).1 ≤ A.picks[j].2 ∧ A.picks[j].2 ≤ (gndS (prtH A e f) (prtH A e' f') s A.picks[j].1).2 := by
  have a := prt_pick (c := 0) v hj (by omega)
  have b := prt_pick (c := -s) v' hj hf'
  unfold gndS movS
  simp only
  omega
theorem prt_plen {A : Hor} (va : HorV A) {e e' : Int} {f f' : Nat → Int} : ((placesS (prtH A e f) (prtH A e' f')).length : Int) = endS A - begS A + 1 := by
  rw [prt_places va.ne, placesS, ivS_len]
  have := end_bd va
  omega
end Go.Abs
namespace Go.Abs

section
variable {P : Program} (T : Tbl P) {h : AHeap}
include T

end
end Go.Abs
namespace Go.Abs

section
variable {P : Program} (T : Tbl P) {h : AHeap}
include T

theorem r70 {s : AV} {L : List Int} (hs : IsSl h s 1 (L.map intRow)) (hl : L.length < 2 ^ 62) (x : Int) : RCall P 70 [s, .int .i64 x] h (fun v _ => v = .bool (decide (x ∈ L))) := by
  refine .of T.mix T.c70 ?_
  unfold fn70
  simp only [wset, hset, dset, bset, Nat.reduceAdd, Nat.reduceMul, Nat.reduceLeDiff, Nat.reduceEqDiff]
  refine WL.inv T.mix (fun n ts h' => ∃ k : Nat, k ≤ L.length ∧ n = L.length - k ∧ h' = h ∧ decide (x ∈ L) = decide (x ∈ L.drop k) ∧ ts.length = 18 ∧ slot ts 0 = s ∧ slot ts 1 = .int .i64 x ∧ slot ts 5 = .int .i64 k) L.length
    ⟨0, by omega, rfl, rfl, rfl, rfl, rfl, rfl, rfl⟩ ?_
  rintro _ ts _ ⟨k, hk, rfl, rfl, hi, hlen, t0, t1, t5⟩
  rw [expl ts 18 hlen]
  by_cases hlt : k < L.length
  · have e3 : (k : Int) < L.length := by omega
    rw [List.drop_eq_getElem_cons hlt] at hi
    simp only [wset, hset, dset, bset, Nat.reduceAdd, Nat.reduceMul, Nat.reduceLeDiff, Nat.reduceEqDiff, t0, t1, t5, hs.lenm, e3, decide_true, hs.ixm hlt, hs.l1m hlt rfl (Ext.refl _)]
    by_cases hq : L[k] = x
    · simp only [wset, hset, dset, bset, Nat.reduceAdd, Nat.reduceMul, Nat.reduceLeDiff, Nat.reduceEqDiff, show decide (L[k] = x) = true from decide_eq_true hq]
      rw [hi, decide_eq_true (by rw [hq]; exact List.mem_cons_self ..)]
    · have h2 : decide (x ∈ L[k] :: L.drop (k + 1)) = decide (x ∈ L.drop (k + 1)) := by
        rw [Bool.eq_iff_iff, decide_eq_true_eq, decide_eq_true_eq, List.mem_cons]
        exact ⟨fun c => c.resolve_left (Ne.symm hq), .inr⟩
      rw [h2] at hi
      simp only [wset, hset, dset, bset, Nat.reduceAdd, Nat.reduceMul, Nat.reduceLeDiff, Nat.reduceEqDiff, show decide (L[k] = x) = false from decide_eq_false hq, t0, t1, t5, wrapN (show k + 1 < 2 ^ 63 by omega)]
      refine ⟨_, ?_, k + 1, by omega, rfl, hi, rfl⟩
      omega
  · have e3 : ¬ (k : Int) < L.length := by omega
    rw [List.drop_eq_nil_of_le (by omega)] at hi
    simp only [wset, hset, dset, bset, Nat.reduceAdd, Nat.reduceMul, Nat.reduceLeDiff, Nat.reduceEqDiff, t0, t1, t5, hs.lenm, e3, decide_false, if_true]
    rw [hi]; rfl
end
end Go.Abs
namespace Go.Abs

section
variable {P : Program} {ro : Option Nat → Prop} {ks : List Kt} {ts : TS} {Q : Ex → TS → AHeap → Prop} {d : Option Nat} {l : List IOp}

end

section
variable {P : Program} (T : Tbl P) {h : AHeap}
include T
end
end Go.Abs
namespace Go.Abs
def ICode.tl : ICode → ICode
  | .seq _ b => b
  | c => c
def ICode.hd : ICode → ICode
  | .seq a _ => a
  | c => c
def ICode.dr : Nat → ICode → ICode
  | 0, c => c
  | n + 1, c => c.tl.dr n
def ICode.inn : ICode → ICode
  | .block _ a => a
  | .loop a => a
  | c => c
end Go.Abs
namespace Go.Abs
theorem pset :
    (∀ {ts : TS} {i j : Nat} {v : AV} (_ : (i = j) = False), slot (ts.set i v) j = slot ts j) ∧
    (∀ {ts : TS} {i : Nat} {v : AV} (_ : i + 1 ≤ ts.length), slot (ts.set i v) i = v) ∧
    (∀ {ts : TS} {i : Nat} {X : Prop} (_ : i + 1 ≤ ts.length), inS ts[i]? X = X) ∧
    (∀ {ts : TS} {i : Nat} {v : AV}, (ts.set i v).length = ts.length) := by
  refine ⟨fun {ts i j v} h => ?_, fun {ts i v} h => ?_, fun {ts i X} h => by rw [List.getElem?_eq_getElem h]; rfl, fun {ts i v} => List.length_set⟩
  · have hne : i ≠ j := fun e => by rw [← h]; exact e
    unfold slot
    rw [List.getD, List.getD, List.getElem?_set_ne hne]
  · unfold slot
    rw [List.getD, List.getElem?_set_self h]; rfl
end Go.Abs
namespace Go.Abs

section
variable (P : Program) (ro : Option Nat → Prop)
def WQ (l : List IOp) (cs : List Acc) (ks : List Kt) (ts : TS) (h : AHeap) (Q : Ex → TS → AHeap → Prop) : Prop := WOS h l ts cs fun ts' cs => accOk cs ∧ kq P ro ks Q .normal ts' (accApp h cs)
def WQV (r : Option AV) (d : Option Nat) (l : List IOp) (cs : List Acc) (ks : List Kt) (ts : TS) (h : AHeap) (Q : Ex → TS → AHeap → Prop) : Prop :=
  match r with
  | some v => WQ P ro l cs ks (put ts d v) h Q
  | none => False
def WQL (a : AV) (r : Option (AV × Eff)) (d : Option Nat) (l : List IOp) (cs : List Acc) (ks : List Kt) (ts : TS) (h : AHeap) (Q : Ex → TS → AHeap → Prop) : Prop :=
  match a, r with
  | .ptr b _, some (v, .keep) => WQ P ro l (cs ++ [.rd b]) ks (put ts d v) h Q
  | _, _ => False
def WQS (a : AV) (r : Option (AV × Eff)) (d : Option Nat) (l : List IOp) (cs : List Acc) (ks : List Kt) (ts : TS) (h : AHeap) (Q : Ex → TS → AHeap → Prop) : Prop :=
  match a, r with
  | .ptr _ _, some (v, .set b k) => WQ P ro l (cs ++ [.wr b k]) ks (put ts d v) h Q
  | _, _ => False
end

section
variable {P : Program} {ro : Option Nat → Prop} {ks : List Kt} {ts : TS} {h : AHeap} {Q : Ex → TS → AHeap → Prop} {d : Option Nat} {q : Bool} {l : List IOp} {cs : List Acc}

theorem WC_opsS : WC P ro (.opsS l) ks ts h Q = WQ P ro l [] ks ts h Q := rfl
theorem WQ_nil : WQ P ro [] cs ks ts h Q = (accOk cs ∧ WE P ro .normal ks ts (accApp h cs) Q) := rfl
theorem WQV_some {v : AV} : WQV P ro (some v) d l cs ks ts h Q = WQ P ro l cs ks (put ts d v) h Q := rfl
theorem WQL_some {v : AV} {b o : Nat} : WQL P ro (.ptr b o) (some (v, .keep)) d l cs ks ts h Q = WQ P ro l (cs ++ [.rd b]) ks (put ts d v) h Q := rfl
theorem WQS_some {v : AV} {b b' o : Nat} {k : ABlk} : WQS P ro (.ptr b o) (some (v, .set b' k)) d l cs ks ts h Q = WQ P ro l (cs ++ [.wr b' k]) ks (put ts d v) h Q := rfl

theorem WQ_pure {k : OpK} (hp : pureK k = true) {r : Option AV} (hr : stepT k (val ts) (fun z => h[z]?) h.length = r.map fun v => (v, .keep)) :
    WQ P ro ({ dst := d, k := k, gd := none, q := q } :: l) cs ks ts h Q = WQV P ro r d l cs ks ts h Q := by
  apply propext
  constructor
  · rintro ⟨v, c, ⟨_, hs⟩, H⟩
    rcases hs with ⟨_, rfl, hs⟩ | ⟨n, a, b, off, hk, _⟩ | ⟨n, a, x, b, off, k', hk, _⟩
    · have hs : stepT k (val ts) (fun z => h[z]?) h.length = some (v, .keep) := hs
      rw [hr] at hs
      cases r with
      | none => cases hs
      | some v' => cases hs; exact H
    · have hk : k = .load n a := hk
      rw [hk] at hp; cases hp
    · have hk : k = .store n a x := hk
      rw [hk] at hp; cases hp
  · intro H
    cases r with
    | none => exact H.elim
    | some v => exact ⟨v, .no, ⟨rfl, .inl ⟨hp, rfl, hr⟩⟩, H⟩
theorem WQ_load {n : Option Nat} {a : Opd} : WQ P ro ({ dst := d, k := .load n a, gd := none, q := q } :: l) cs ks ts h Q = WQL P ro (val ts a) (loadF n (val ts a) (fun z => h[z]?)) d l cs ks ts h Q := by
  apply propext
  constructor
  · rintro ⟨v, c, ⟨_, hs⟩, H⟩
    rcases hs with ⟨hp, _⟩ | ⟨n', a', b, off, hk, ha, rfl, hs⟩ | ⟨n', a', x, b, off, k', hk, _⟩
    · cases hp
    · cases hk
      have hs : loadF n (val ts a) (fun z => h[z]?) = some (v, .keep) := hs
      rw [hs, ha]
      exact H
    · cases hk
  · intro H
    unfold WQL at H
    split at H
    · rename_i b o v ha hr
      exact ⟨v, .rd b, ⟨rfl, .inr (.inl ⟨n, a, b, o, rfl, ha, rfl, hr⟩)⟩, H⟩
    · exact H.elim
theorem WQ_store {n : Nat} {a x : Opd} : WQ P ro ({ dst := d, k := .store n a x, gd := none, q := q } :: l) cs ks ts h Q = WQS P ro (val ts a) (storeF n (val ts a) (val ts x) (fun z => h[z]?)) d l cs ks ts h Q := by
  apply propext
  constructor
  · rintro ⟨v, c, ⟨_, hs⟩, H⟩
    rcases hs with ⟨hp, _⟩ | ⟨n', a', b, off, hk, _⟩ | ⟨n', a', x', b, off, k', hk, ha, rfl, hs⟩
    · cases hp
    · cases hk
    · cases hk
      have hs : storeF n (val ts a) (val ts x) (fun z => h[z]?) = some (v, .set b k') := hs
      rw [hs, ha]
      exact H
  · intro H
    unfold WQS at H
    split at H
    · rename_i b o v b' k ha hr
      have hb : b' = b := by
        rw [ha] at hr
        simp only [storeF] at hr
        split at hr
        · split at hr
          · cases hr; rfl
          · cases hr
        · cases hr
      subst hb
      exact ⟨v, .wr b' k, ⟨rfl, .inr (.inr ⟨n, a, x, b', o, k, rfl, ha, rfl, hr⟩)⟩, H⟩
    · exact H.elim

theorem WQ_mov {x : Opd} : WQ P ro ({ dst := d, k := .mov x, gd := none, q := q } :: l) cs ks ts h Q = WQ P ro l cs ks (put ts d (val ts x)) h Q := WQ_pure (r := some (val ts x)) rfl rfl
theorem WQ_bin {op : BinOp} {x y : Opd} : WQ P ro ({ dst := d, k := .bin op x y, gd := none, q := q } :: l) cs ks ts h Q = WQV P ro (binK op (val ts x) (val ts y)) d l cs ks ts h Q := by
  refine WQ_pure rfl ?_
  simp only [stepT, fnT]
  cases binK op (val ts x) (val ts y) <;> rfl
theorem WQ_un {op : UnOp} {x : Opd} : WQ P ro ({ dst := d, k := .un op x, gd := none, q := q } :: l) cs ks ts h Q = WQV P ro (unK op (val ts x)) d l cs ks ts h Q := by
  refine WQ_pure rfl ?_
  simp only [stepT, fnT]
  cases unK op (val ts x) <;> rfl
def i2iF (k : IntKind) : AV → Option AV
  | .int _ n => some (.int k (k.wrap n))
  | _ => none
theorem i2i_s {k k' : IntKind} {n : Int} : i2iF k (.int k' n) = some (.int k (k.wrap n)) := rfl
theorem WQ_conv {k : IntKind} {x : Opd} : WQ P ro ({ dst := d, k := .conv (.i2i k) x, gd := none, q := q } :: l) cs ks ts h Q = WQV P ro (i2iF k (val ts x)) d l cs ks ts h Q := by
  refine WQ_pure rfl ?_
  simp only [stepT, fnT, convT, i2iF]
  cases val ts x <;> rfl
theorem WQ_fadr {off : Nat} {x : Opd} : WQ P ro ({ dst := d, k := .fadr off x, gd := none, q := q } :: l) cs ks ts h Q = WQV P ro (fadrF off (val ts x)) d l cs ks ts h Q := by
  refine WQ_pure rfl ?_
  simp only [stepT, fnT, fadrF]
  cases val ts x <;> rfl
theorem WQ_iada {len es : Nat} {x i : Opd} : WQ P ro ({ dst := d, k := .iada len es x i, gd := none, q := q } :: l) cs ks ts h Q = WQV P ro (iadaF len es (val ts x) (val ts i)) d l cs ks ts h Q := by
  refine WQ_pure rfl ?_
  simp only [stepT, fnT, iadaF]
  cases val ts x with
  | ptr b o => cases val ts i <;> first | rfl | (simp only; split <;> rfl)
  | _ => rfl
theorem WQ_mx {x : Opd} {m : List Opd} : WQ P ro ({ dst := d, k := .mx x m, gd := none, q := q } :: l) cs ks ts h Q = WQV P ro (foldA max2A (val ts x) (m.map (val ts))) d l cs ks ts h Q := by
  refine WQ_pure rfl ?_
  simp only [stepT, fnT]
  cases foldA max2A (val ts x) (m.map (val ts)) <;> rfl
end
theorem acc_l0 {a : List Acc} : [] ++ a = a := rfl
theorem acc_lc {c : Acc} {a b : List Acc} : (c :: a) ++ b = c :: (a ++ b) := rfl
theorem accApp_n {h : AHeap} : accApp h [] = h := rfl
theorem accApp_r {h : AHeap} {b : Nat} {cs : List Acc} : accApp h (.rd b :: cs) = accApp h cs := rfl
theorem accApp_w {h : AHeap} {b : Nat} {k : ABlk} {cs : List Acc} : accApp h (.wr b k :: cs) = accApp (h.set b k) cs := rfl
/-- The blocks that are loaded or stored. -/
def accN (b : Nat) (cs : List Acc) : Prop := ∀ x ∈ cs, x.blk ≠ some b
def accNW (b : Nat) (cs : List Acc) : Prop := ∀ x ∈ cs, ∀ k, x ≠ Acc.wr b k
theorem accN_n {b : Nat} : accN b [] = True := eq_true fun x hx => by cases hx
theorem accN_c {b : Nat} {c : Acc} {cs : List Acc} : accN b (c :: cs) = (c.blk ≠ some b ∧ accN b cs) := by
  simp [accN]
theorem accNW_n {b : Nat} : accNW b [] = True := eq_true fun x hx => by cases hx
theorem accNW_r {b b' : Nat} {cs : List Acc} : accNW b (.rd b' :: cs) = accNW b cs := by
  simp [accNW]
theorem accNW_w {b b' : Nat} {k : ABlk} {cs : List Acc} : accNW b (.wr b' k :: cs) = (b' ≠ b ∧ accNW b cs) := by
  unfold accNW
  simp only [List.mem_cons, forall_eq_or_imp]
  refine propext ⟨fun h => ⟨fun e => h.1 k (by rw [e]), h.2⟩, fun h => ⟨fun k' e => h.1 (by cases e; rfl), h.2⟩⟩
theorem accOk_n : accOk [] = True := rfl
theorem accOk_r {b : Nat} {cs : List Acc} : accOk (.rd b :: cs) = (accNW b cs ∧ accOk cs) := by
  unfold accNW
  simp only [accOk, Acc.blk, Option.some.injEq]
  refine propext ⟨fun h => ⟨fun x hx k hk => h.1 b rfl x hx (by rw [hk]) k k (.inr hk), h.2⟩, fun h => ⟨fun b' e x hx _ k k' hk => ?_, h.2⟩⟩
  subst e
  rcases hk with hk | hk
  · cases hk
  · exact h.1 x hx k' hk
theorem accOk_w {b : Nat} {k : ABlk} {cs : List Acc} : accOk (.wr b k :: cs) = (accN b cs ∧ accOk cs) := by
  unfold accN
  simp only [accOk, Acc.blk, Option.some.injEq]
  refine propext ⟨fun h => ⟨fun x hx hk => h.1 b rfl x hx hk k k (.inl rfl), h.2⟩, fun h => ⟨fun b' e x hx hk _ _ _ => ?_, h.2⟩⟩
  subst e
  exact h.1 x hx hk
theorem blk_r {b : Nat} : (Acc.rd b).blk = some b := rfl
theorem blk_w {b : Nat} {k : ABlk} : (Acc.wr b k).blk = some b := rfl
end Go.Abs
