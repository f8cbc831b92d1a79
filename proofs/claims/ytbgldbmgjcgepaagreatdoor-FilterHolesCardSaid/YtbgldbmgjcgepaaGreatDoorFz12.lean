/- Contracts: taps undone by the reference. No condition. And what belongs to it. -/
import Derived.Test.YtbgldbmgjcgepaaGreatDoorFz11
import Derived.Test.YtbgldbmgjcgepaaGreatDoorFz5
set_option linter.all false
namespace Go.Abs
set_option maxRecDepth 10000
attribute [local irreducible] WP WC WE WB WR WF WL WG WRg WQ
section
variable {P : Program} (T : Tbl P) {h : AHeap}
include T
end
end Go.Abs
namespace Go.Abs
set_option maxRecDepth 10000
attribute [local irreducible] WP WC WE WB WR WF WL WG WRg WQ
section
variable {P : Program} (T : Tbl P) {h : AHeap}
include T
end
end Go.Abs
namespace Go.Abs
set_option maxRecDepth 10000
attribute [local irreducible] WP WC WE WB WR WF WL WG WRg WQ
section
variable {P : Program} (T : Tbl P) {h : AHeap}
include T
end
end Go.Abs
namespace Go.Abs
set_option maxRecDepth 10000
attribute [local irreducible] WP WC WE WB WR WF WL WG WRg WQ
section
variable {P : Program} (T : Tbl P) {h : AHeap}
include T
end
end Go.Abs
namespace Go.Abs
theorem ext_setG {h K : AHeap} {b : Nat} {X : ABlk} (e : Ext h K) (hb : h.length ≤ b) : Ext h (K.set b X) := by
  obtain ⟨z, rfl⟩ := e
  rw [List.set_append_right _ _ hb]; exact ⟨_, rfl⟩
set_option maxRecDepth 10000
attribute [local irreducible] WP WC WE WB WR WF WL WG WRg WQ
section
variable {P : Program} (T : Tbl P) {h : AHeap}
include T
end
end Go.Abs
namespace Go.Abs
set_option maxRecDepth 10000
attribute [local irreducible] WP WC WE WB WR WF WL WG WRg WQ
section
variable {P : Program} (T : Tbl P) {h : AHeap}
include T
end
end Go.Abs
namespace Go.Abs
set_option maxRecDepth 10000
attribute [local irreducible] WP WC WE WB WR WF WL WG WRg WQ
section
variable {P : Program} (T : Tbl P) {h : AHeap}
include T
end
end Go.Abs
namespace Go.Abs
def z4 : List AV := [.cplx .f64 0 0, .cplx .f64 0 0, .cplx .f64 0 0, .cplx .f64 0 0]
set_option maxRecDepth 10000
attribute [local irreducible] WP WC WE WB WR WF WL WG WRg WQ
section
variable {P : Program} (T : Tbl P) {h : AHeap}
include T
end
end Go.Abs
namespace Go.Abs
theorem Fr.swap' {N : Nat} {A B g : AHeap} {s : AV} {es : Nat} {cs : List (List AV)} (hs : Fr N (A ++ g) s es cs) (hA : A.length = N) (hB : B.length = N) : Fr N (B ++ g) s es cs := by
  subst hA; exact hs.swap hB
theorem WF.valg {P : Program} {ro : Option Nat → Prop} {ks : List Kt} {ts : TS} {h h' : AHeap} {Q : Ex → TS → AHeap → Prop} {fv : AV} {args : List AV} {d : Option Nat} {l : List IOp} {v : AV} (H : SCallV P fv args h v h') (K : WP P ro l ks (put ts d v) h' Q) : WF P ro false fv args d l ks ts h Q :=
  ⟨v, h', H, fun hq => absurd hq (by simp), K⟩
def insI (x : Int) : List Int → List Int
  | [] => [x]
  | y :: ys => if x ≤ y then x :: y :: ys else y :: insI x ys
def sortI : List Int → List Int
  | [] => []
  | x :: xs => insI x (sortI xs)
theorem insI_perm (x : Int) : ∀ l, (insI x l).Perm (x :: l)
  | [] => .refl _
  | y :: ys => by
    unfold insI
    split
    · exact .refl _
    · exact ((insI_perm x ys).cons y).trans (.swap x y ys)
theorem sortI_perm : ∀ l, (sortI l).Perm l
  | [] => .refl _
  | x :: xs => (insI_perm x _).trans ((sortI_perm xs).cons x)
theorem insI_sorted (x : Int) : ∀ l, l.Pairwise (· ≤ ·) → (insI x l).Pairwise (· ≤ ·)
  | [], _ => by simp [insI]
  | y :: ys, h => by
    obtain ⟨h1, h2⟩ := List.pairwise_cons.1 h
    unfold insI
    split
    · rename_i hxy
      refine List.pairwise_cons.2 ⟨fun z hz => ?_, h⟩
      rcases List.mem_cons.1 hz with rfl | hz
      · exact hxy
      · exact Int.le_trans hxy (h1 z hz)
    · rename_i hxy
      refine List.pairwise_cons.2 ⟨fun z hz => ?_, insI_sorted x ys h2⟩
      rcases List.mem_cons.1 ((insI_perm x ys).mem_iff.1 hz) with rfl | hz
      · omega
      · exact h1 z hz
theorem sortI_sorted : ∀ l, (sortI l).Pairwise (· ≤ ·)
  | [] => .nil
  | x :: xs => insI_sorted x _ (sortI_sorted xs)
theorem sortI_eq (l : List Int) : (l.mergeSort fun x y => decide (x ≤ y)) = sortI l := by
  have hm : (l.mergeSort fun x y => decide (x ≤ y)).Pairwise (· ≤ ·) := by
    have := List.pairwise_mergeSort (le := fun x y : Int => decide (x ≤ y)) (fun a b c h1 h2 => by simp only [decide_eq_true_eq] at *; omega) (fun a b => by simp only [Bool.or_eq_true, decide_eq_true_eq]; omega) l
    exact this.imp (fun h => by simpa using h)
  exact List.Perm.eq_of_pairwise (le := (· ≤ ·)) (fun a b _ _ h1 h2 => by omega) hm (sortI_sorted l) ((List.mergeSort_perm l _).trans (sortI_perm l).symm)
theorem sortI_len (l : List Int) : (sortI l).length = l.length := (sortI_perm l).length_eq
structure SrtOk (P : Program) : Prop where
  ok : ∀ {h : AHeap} {b o : Nat} {c : List AV} {tl : Bool} {zs : List Int}, h[b]? = some (.cells c true tl) → o + zs.length ≤ c.length → (c.drop o).take zs.length = zs.map (AV.int .i64) → zs.length < 4611686018427387904 →
    SCall P 189 [.slice b o zs.length 1] h (.tup []) (h.set b (.cells (setL c o ((sortI zs).map (AV.int .i64))) true tl))
  nil : ∀ {h : AHeap}, SCall P 189 [.nilSlice] h (.tup []) h
theorem intRows_flat (L : List Int) : (L.map intRow).flatten = L.map (AV.int .i64) := by
  induction L with
  | nil => rfl
  | cons x l ih => rw [List.map_cons, List.flatten_cons, ih]; rfl
theorem gsort {P : Program} (S : SrtOk P) {h0 g : AHeap} {s : AV} {L : List Int} (hs : Fr h0.length (h0 ++ g) s 1 (L.map intRow)) (hl : L.length < 4611686018427387904) :
    GCall P 189 [s] (h0 ++ g) (fun _ h' => ∃ g', g'.length = g.length ∧ h' = h0 ++ g' ∧ Fr h0.length h' s 1 ((sortI L).map intRow) ∧ (∀ b, (∀ b0 o n e, s = .slice b0 o n e → b ≠ b0) → (h0 ++ g')[b]? = (h0 ++ g)[b]?)) := by
  generalize hcs : L.map intRow = cs at hs
  cases hs with
  | nil =>
    have hL : L = [] := List.map_eq_nil_iff.1 hcs
    subst hL
    exact ⟨_, _, S.nil, g, rfl, rfl, .nil, fun _ _ => rfl⟩
  | @mk b _ _ tl hN hb he =>
    subst hcs
    have hfl := intRows_flat L
    have hlen : (L.map intRow).length = L.length := List.length_map _
    have h1 := S.ok (h := h0 ++ g) (b := b) (o := 0) (zs := L) (c := (L.map intRow).flatten) (tl := tl) hb (by rw [hfl]; simp) (by rw [hfl, List.drop_zero]; exact List.take_of_length_le (by simp)) hl
    have hset : setL (L.map intRow).flatten 0 ((sortI L).map (AV.int .i64)) = ((sortI L).map intRow).flatten := by
      have := setL_all ((sortI L).map (AV.int .i64)) (L.map intRow).flatten [] (by rw [hfl]; simp [sortI_len])
      rw [intRows_flat (sortI L)]
      simpa using this
    rw [hset, List.set_append_right _ _ hN] at h1
    have hbl : b < (h0 ++ g).length := (List.getElem?_eq_some_iff.1 hb).1
    rw [hlen]
    refine ⟨_, _, h1, _, by simp, rfl, ?_, fun b' hb' => ?_⟩
    · rw [← sortI_len L, show (sortI L).length = ((sortI L).map intRow).length from (List.length_map _).symm]
      refine Fr.mk hN (tl := tl) ?_ fun y hy => ?_
      · rw [List.getElem?_append_right hN, List.getElem?_set_self (by simp at hbl; omega)]
      · obtain ⟨z, -, rfl⟩ := List.mem_map.1 hy; rfl
    · have hne := hb' b 0 _ _ rfl
      rw [← List.set_append_right _ _ hN, List.getElem?_set_ne (Ne.symm hne)]
set_option maxRecDepth 10000
attribute [local irreducible] WP WC WE WB WR WF WL WG WRg WQ
section
variable {P : Program} (T : Tbl P) {h : AHeap}
include T
theorem iter_vals {b : Nat} {d : AV} {D : List Int} (m : h[b]? = some (.cells [d] true false)) (hd : IsSl h d 1 (D.map intRow)) (hl : D.length < 2 ^ 62) :
    Iter P 190 [] [.ptr b 0] (D.map fun x => [.int .i64 x]) (Ext h) := by
  refine ⟨fun l h1 J Dn hpre happ hstep hend h0 => GCall.of T.mix T.c190 ?_⟩
  have e1 := hpre 0 h1 h0
  unfold fn190
  have hlm := fun G => hd.lenm G
  have l0 : loadF none (.ptr b 0) (fun z => h1[z]?) = some (d, .keep) := by rw [loadF_at (e1.some m)]; rfl
  refine Ws (A2 @l0 @hlm) ?_
  refine WL.inv T.mix (fun n ts h' => ∃ k : Nat, k ≤ D.length ∧ n = D.length - k ∧ J k h' ∧ ts.length = 16 ∧ slot ts 0 = .func (.yield l) [] [] ∧ slot ts 5 = d ∧ slot ts 6 = .int .i64 D.length ∧ slot ts 7 = .int .i64 k) D.length
    ⟨0, by omega, rfl, h0, rfl, rfl, rfl, rfl, rfl⟩ ?_
  rintro _ ts h' ⟨k, hk, rfl, hJ, hlen, t0, t5, t6, t7⟩
  by_cases hlt : k < D.length
  · have e3 : (k : Int) < D.length := by omega
    have e2 := hpre _ _ hJ
    have l1 := hd.l1m hlt rfl e2
    have hix := hd.ixm (kk := .i64) hlt
    have hwk := wrapN (show k + 1 < 2 ^ 63 by omega)
    refine Rs (A8 @t0 @t5 @t6 @t7 @e3 @decide_true @hix @l1) ?_
    obtain ⟨bb, k', q1, q2⟩ := hstep k (by rw [List.length_map]; exact hlt) h' hJ
    rw [List.getElem_map] at q1
    refine WF.valg q1 ?_
    cases bb with
    | true =>
      refine Rs (A6 @t0 @t5 @t6 @t7 @Bool.not_true @hwk) ?_
      exact ⟨_, by omega, k + 1, by omega, rfl, q2, rfl⟩
    | false =>
      refine Rs (A5 @t0 @t5 @t6 @t7 @Bool.not_false) ?_
      exact q2
  · have e3 : ¬ (k : Int) < D.length := by omega
    have e4 : k = D.length := by omega
    refine Rs (A6 @t0 @t5 @t6 @t7 @e3 @decide_false) ?_
    refine hend h' ?_
    rw [List.length_map, ← e4]; exact hJ
theorem r137 {d : AV} {D : List Int} (hd : IsSl h d 1 (D.map intRow)) : RCall P 137 [d] h (fun v h' => ∃ b, v = .func (.func 190) [] [.ptr b 0] ∧ h'[b]? = some (.cells [d] true false)) := by
  refine .of T.mix T.c137 ?_
  unfold fn137
  refine Ws hd.one ?_
  exact ⟨_, rfl, at_new⟩
theorem r218 {b : Nat} {d : AV} {D : List Int} (m : h[b]? = some (.cells [d] true false)) (hd : IsSl h d 1 (D.map intRow)) (hl : D.length ≤ 2 ^ 40) :
    RCall P 218 [.nilSlice, .func (.func 190) [] [.ptr b 0]] h (fun v h' => Fr h.length h' v 1 (D.map intRow)) := by
  refine .of T.mix T.c218 ?_
  unfold fn218
  refine Wn ?_
  refine WC.iter T.mix T.c190 (a := []) (c := [.ptr b 0]) rfl (iter_vals T m hd (by omega)) (fun y hy => by obtain ⟨z, _, rfl⟩ := List.mem_map.1 hy; rfl)
    (fun i h' g => ∃ out, h' = h ++ [ABlk.cells [out] true false] ∧ Fr (h'.length + 1) (h' ++ [.dead] ++ g) out 1 ((D.take i).map intRow)) (fun _ _ _ => False)
    ⟨.nilSlice, rfl, .nil⟩ (fun i h' g g' hI => ?_) (fun i h' g X hl hI => ?_) (fun i hi h' g R B hl' hI => ?_) (fun e h' g hl hI => ?_)
  · obtain ⟨out, h1, h2⟩ := hI
    exact ⟨out, h1, by rw [← List.append_assoc]; exact h2.app _⟩
  · obtain ⟨out, rfl, _⟩ := hI
    exact Xx
  · obtain ⟨out, rfl, hfr⟩ := hI
    have hi' : i < D.length := by simpa using hi
    rw [List.getElem_map]
    simp only [wset, hset, dset, bset, Nat.reduceAdd, Nat.reduceMul, Nat.reduceLeDiff, Nat.reduceEqDiff, setArgs]
    refine ⟨_, g, rfl, by simp, ?_⟩
    refine Wn ?_
    have hN : ∀ (o' : AV) (X : ABlk), (h ++ [ABlk.cells [o'] true false] ++ [X]).length = (h ++ [ABlk.cells [out] true false]).length + 1 := fun o' X => by simp only [List.length_append, List.length_cons, List.length_nil]
    have hfrB := hfr.swap' (hN out .dead) (hN out B)
    refine WR.app1 (h0 := h ++ [ABlk.cells [out] true false] ++ [B]) (cs := (D.take i).map intRow) (ys := [intRow D[i]]) (by rw [hN]; exact hfrB.app _) (Fr.push (N := 0) (Nat.zero_le _) [intRow D[i]] (by simp)).isSl (by decide) (by simp) (by simp; omega) (by repeat first | exact Ext.refl _ | refine Ext.app _ ?_) ?_
    intro g' hl' hff hkp
    have hrow : (D.take i).map intRow ++ [intRow D[i]] = (D.take (i + 1)).map intRow := by
      rw [List.take_add_one, List.getElem?_eq_getElem hi', List.map_append]; rfl
    rw [hrow, hN] at hff
    rw [hrow]
    refine Wn ?_
    refine ⟨_, g', rfl, by simp only [List.length_append, List.length_cons, List.length_nil], ?_⟩
    refine ⟨_, rfl, ?_⟩
    have e9 : ∀ o', (h ++ [ABlk.cells [o'] true false]).length = (h ++ [ABlk.cells [out] true false]).length := fun o' => by simp only [List.length_append, List.length_cons, List.length_nil]
    rw [e9]
    exact hff.swap' (hN out B) (hN _ .dead)
  · by_cases hen : e = .normal
    · subst hen
      rw [if_pos rfl] at hI
      obtain ⟨out, rfl, hfr⟩ := hI
      rw [List.length_map, List.take_length] at hfr
      refine Wn ?_
      exact hfr.low (by simp; omega)
    · rw [if_neg hen] at hI
      exact hI.elim
theorem r188 {b : Nat} {d : AV} {D : List Int} (m : h[b]? = some (.cells [d] true false)) (hd : IsSl h d 1 (D.map intRow)) (hl : D.length ≤ 2 ^ 40) :
    RCall P 188 [.func (.func 190) [] [.ptr b 0]] h (fun v h' => Fr h.length h' v 1 (D.map intRow)) := by
  refine .of T.mix T.c188 ?_
  unfold fn188
  refine Wn ?_
  refine WF.res T.c218 (r218 T m hd hl) ?_
  intro v g1 hv
  refine Wn ?_
  exact hv
theorem r136 (S : SrtOk P) {b : Nat} {d : AV} {D : List Int} (m : h[b]? = some (.cells [d] true false)) (hd : IsSl h d 1 (D.map intRow)) (hl : D.length ≤ 2 ^ 40) :
    RCall P 136 [.func (.func 190) [] [.ptr b 0]] h (fun v h' => Fr h.length h' v 1 ((sortI D).map intRow)) := by
  refine .of T.mix T.c136 ?_
  unfold fn136
  refine Wn ?_
  refine WF.res T.c188 (r188 T m hd hl) ?_
  intro v g1 hv
  refine Wn ?_
  refine WF.gen T.c189 (gsort S hv (by omega)) ?_
  rintro _ _ ⟨g', hg', rfl, hff, -⟩
  refine Wn ?_
  exact hff
end
end Go.Abs
namespace Go.Abs
def liveL : Nat → List (Trc × AV) → List (List AV)
  | _, [] => []
  | i, x :: r => if x.1.hole = true then liveL (i + 1) r else [.int .i64 (i : Int), .agg (trRow x)] :: liveL (i + 1) r
def liveT : List (Trc × AV) → List (Trc × AV) := List.filter fun x => !x.1.hole
theorem liveL_len : ∀ (L : List (Trc × AV)) (i : Nat), (liveL i L).length = (liveT L).length
  | [], _ => rfl
  | x :: r, i => by
    unfold liveL liveT
    cases hb : x.1.hole with
    | true =>
      rw [if_pos rfl, List.filter_cons_of_neg (by rw [hb]; decide)]
      exact liveL_len r (i + 1)
    | false =>
      rw [if_neg (by decide), List.filter_cons_of_pos (by rw [hb]; rfl), List.length_cons, List.length_cons]
      exact congrArg (· + 1) (liveL_len r (i + 1))
theorem liveL_at : ∀ (L : List (Trc × AV)) (i j : Nat) (h : j < (liveL i L).length) (h2 : j < (liveT L).length), ∃ n : Nat, (liveL i L)[j] = [.int .i64 (n : Int), .agg (trRow (liveT L)[j])]
  | [], _, _, h, _ => by simp [liveL] at h
  | x :: r, i, j, h, h2 => by
    cases hb : x.1.hole with
    | true =>
      have e1 : liveL i (x :: r) = liveL (i + 1) r := by rw [liveL, if_pos hb]
      have e2 : liveT (x :: r) = liveT r := by unfold liveT; rw [List.filter_cons_of_neg (by rw [hb]; decide)]
      simp only [e1, e2] at h h2 ⊢
      exact liveL_at r (i + 1) j h h2
    | false =>
      have e1 : liveL i (x :: r) = [.int .i64 (i : Int), .agg (trRow x)] :: liveL (i + 1) r := by rw [liveL, if_neg (by rw [hb]; decide)]
      have e2 : liveT (x :: r) = x :: liveT r := by unfold liveT; rw [List.filter_cons_of_pos (by rw [hb]; rfl)]
      simp only [e1, e2] at h h2 ⊢
      cases j with
      | zero => exact ⟨i, rfl⟩
      | succ j => exact liveL_at r (i + 1) j (by simpa using h) (by simpa using h2)
theorem liveL_drop (L : List (Trc × AV)) {k : Nat} (hk : k < L.length) (i : Nat) : liveL (i + k) (L.drop k) = if L[k].1.hole = true then liveL (i + (k + 1)) (L.drop (k + 1)) else [.int .i64 ((i + k : Nat) : Int), .agg (trRow L[k])] :: liveL (i + (k + 1)) (L.drop (k + 1)) := by
  rw [List.drop_eq_getElem_cons hk, liveL]
  rfl
theorem liveL_two (L : List (Trc × AV)) (i : Nat) : ∀ y ∈ liveL i L, y.length = 2 := fun y hy => by
  obtain ⟨j, hj, rfl⟩ := List.mem_iff_getElem.1 hy
  obtain ⟨n, e⟩ := liveL_at L i j hj (by rw [← liveL_len L i]; exact hj)
  rw [e]; rfl
def shC (nm : List UInt8) (s : AV) : List AV := [.str nm, s]
theorem sh_box {nm : List UInt8} {s : AV} (os : s.one = true) {N : Nat} : boxF (.agg [.str nm, s]) N = some (.ptr N 0, .push (.cells (shC nm s) true false)) := by
  unfold boxF
  rw [if_pos (by show ([.str nm, s] : List AV).all AV.one = true; simp only [List.all_cons, List.all_nil, os]; rfl)]
  rfl
theorem sh_l2 {nm : List UInt8} {s : AV} : ldB (some 2) 0 (.cells (shC nm s) true false) = some (.agg [.str nm, s], .keep) := rfl
theorem sh_st {nm nm' : List UInt8} {s s' : AV} (os : s.one = true) {n : Nat} : stB 2 0 (.agg [.str nm, s]) n (.cells (shC nm' s') true false) = some (undefA, .set n (.cells (shC nm s) true false)) := (stB_agg rfl (by simp only [List.all_cons, List.all_nil, os]; rfl) (by show 0 + 2 ≤ 2; omega)).trans rfl
structure ShSz (L : List (Trc × AV)) : Prop where
  l : L.length < 2 ^ 40
  s : ∀ x ∈ L, x.1.sm.length < 2 ^ 40
set_option maxRecDepth 10000
attribute [local irreducible] WP WC WE WB WR WF WL WG WRg WQ
section
variable {P : Program} (T : Tbl P) {h : AHeap}
include T
set_option maxHeartbeats 4000000 in
theorem r201 (rg : Rng h) {L : List (Trc × AV)} {s : AV} (o : ShOk h L s) (z : ShSz L) : RCall P 201 [s, .func (.func 202) [] []] h (fun v h' => IsSl h' v 1 ((L.map fun x => chkTr x.1).map intRow)) := by
  refine .st2 22 T.mix T.c201 ?_;intro ts hlen t0 t1;unfold fn201
  have zl := z.l
  refine Rs (A3 @t0 @t1 o.sl.lenm) ?_
  refine WL.inv T.mix (fun n ts K => ∃ (k : Nat) (t : AV), k ≤ L.length ∧ n = L.length - k ∧ Ext h K ∧ Fr h.length K t 1 (((L.take k).map fun x => chkTr x.1).map intRow) ∧ ts.length = 22 ∧ slot ts 1 = .func (.func 202) [] [] ∧ slot ts 5 = t ∧ slot ts 8 = s ∧ slot ts 9 = .int .i64 L.length ∧ slot ts 10 = .int .i64 k) L.length
    ⟨0, .nilSlice, by omega, rfl, .refl _, .nil, Sn, (Sq @t1), Sw, Sw, Sw, Swr⟩ ?_
  clear hlen t0 t1
  rintro _ ts K ⟨k, t, hk, rfl, eK, hfr, hlen, t1, t5, t8, t9, t10⟩
  have hsK := o.sl.ext eK
  by_cases hlt : k < L.length
  case neg =>
    have e3 := dltF hlt
    have e4 : k = L.length := by omega
    rw [e4, List.take_length] at hfr
    refine Rs (A6 @t1 @t5 @t8 @t9 @t10 @e3) ?_
    exact ⟨eK, hfr.isSl⟩
  have e3 := dltT hlt
  have e5 := wrapN (n := k) (by omega)
  have ix := hsK.ixm (kk := .i64) hlt
  obtain ⟨x, hx⟩ : ∃ x, x = L[k] := ⟨_, rfl⟩
  have ld : ∀ {kk : AHeap}, Ext K kk → loadF (some 10) (elp s 10 k) (fun b => kk[b]?) = some (.agg (trRow x), .keep) := fun {kk} e => by rw [hx]; exact hsK.ldm hlt e
  have hmem : x ∈ L := by rw [hx]; exact List.getElem_mem _
  have ox := (o.all x hmem).one
  have ot := hfr.isSl.one
  have htk : L.take (k + 1) = L.take k ++ [x] := by rw [hx]; exact List.take_succ_eq_append_getElem hlt
  have bz := @z10_box
  have st := @st_tr x ox
  refine Rs (A10 @t1 @t5 @t8 @t9 @t10 @e3 @ix @ld @bz @st) ?_
  obtain ⟨K1, hK1⟩ : ∃ K1, K1 = K ++ [ABlk.cells (trRow x) true false] := ⟨_, rfl⟩
  have eK1 : Ext K K1 := by rw [hK1]; exact Xx
  have m7 : K1[K.length]? = some (.cells (trRow x) true false) := by rw [hK1]; exact at_new
  have l7 := @ldx _ _ _ m7
  have l10 := @tr_l10 x
  rw [← hK1]
  refine Rs (A8 @t1 @t5 @t8 @t9 @t10 @l7 @l10 @ot) ?_
  refine WF.ce T.c202 (r202 T (rg.ext (eK.trans eK1)) ((o.all x hmem).ext (eK.trans eK1)) (z.s x hmem)) fun g1 => ?_
  have bs : ∀ {N : Nat}, bslF 1 1 (fillA [.int .i64 0] [(0, 1, .int .i64 (chkTr x.1))]) N = some (.slice N 0 1 1, .push (.cells [.int .i64 (chkTr x.1)] true true)) := fun {N} => rfl
  refine Rs (A7 @t1 @t5 @t8 @t9 @t10 @ot @bs) ?_
  refine WR.appR (B := h) (cs := ((L.take k).map fun x => chkTr x.1).map intRow) (z := intRow (chkTr x.1)) ((hfr.ext eK1).app _) rfl (eK.trans (eK1.trans ⟨_, rfl⟩)) (by decide) (by rw [List.length_map, List.length_map, List.length_take]; omega) ?_
  intro W5 s' x5 hff q5
  have hrow : ((L.take k).map fun x => chkTr x.1).map intRow ++ [intRow (chkTr x.1)] = ((L.take (k + 1)).map fun x => chkTr x.1).map intRow := by rw [htk, List.map_append, List.map_append]; rfl
  rw [hrow] at hff
  refine Rs (A7 @t1 @t5 @t8 @t9 @t10 @q5 @e5) ?_
  exact ⟨L.length - (k + 1), by omega, k + 1, s', by omega, rfl, x5, hff, rfl, rfl⟩
set_option maxHeartbeats 4000000 in
theorem iter_live {b : Nat} {nm : List UInt8} {s : AV} {L : List (Trc × AV)} (m : h[b]? = some (.cells (shC nm s) true false)) (o : ShOk h L s) (z : ShSz L) :
    Iter P 226 [] [.ptr b 0] (liveL 0 L) (Ext h) := by
  refine ⟨fun l h1 J Dn hpre happ hstep hend h0 => GCall.of T.mix T.c226 ?_⟩
  have zl := z.l
  have e1 := hpre 0 h1 h0
  unfold fn226
  have hlm := fun G => o.sl.lenm G
  have l1 : loadF none (.ptr b 1) (fun z => h1[z]?) = some (s, .keep) := by rw [loadF_at (e1.some m)]; rfl
  refine Ws (A2 @l1 @hlm) ?_
  refine WL.inv T.mix (fun n ts h' => ∃ k j : Nat, k ≤ L.length ∧ n = L.length - k ∧ j ≤ (liveL 0 L).length ∧ (liveL 0 L).drop j = liveL (0 + k) (L.drop k) ∧ J j h' ∧ ts.length = 24 ∧ slot ts 0 = .func (.yield l) [] [] ∧ slot ts 6 = s ∧ slot ts 7 = .int .i64 L.length ∧ slot ts 8 = .int .i64 k) L.length
    ⟨0, 0, by omega, rfl, by omega, rfl, h0, rfl, rfl, rfl, rfl, rfl⟩ ?_
  rintro _ ts h' ⟨k, j, hk, rfl, hj, hd, hJ, hlen, t0, t6, t7, t8⟩
  by_cases hlt : k < L.length
  case neg =>
    have e3 := dltF hlt
    have e4 : k = L.length := by omega
    have e5 : j = (liveL 0 L).length := by
      rw [e4, List.drop_length] at hd
      have : (List.drop j (liveL 0 L)).length = 0 := by rw [hd]; rfl
      rw [List.length_drop] at this
      omega
    refine Rs (A5 @t0 @t6 @t7 @t8 @e3) ?_
    refine hend h' ?_
    rw [← e5]; exact hJ
  have e3 := dltT hlt
  have e2 := hpre _ _ hJ
  have e5 := wrapN (n := k) (by omega)
  have oK := o.ext e2
  have ix := oK.sl.ixm (kk := .i64) hlt
  obtain ⟨x, hx⟩ : ∃ x, x = L[k] := ⟨_, rfl⟩
  have ld : ∀ {kk : AHeap}, Ext h' kk → loadF (some 10) (elp s 10 k) (fun b => kk[b]?) = some (.agg (trRow x), .keep) := fun {kk} e => by rw [hx]; exact oK.sl.ldm hlt e
  have hmem : x ∈ L := by rw [hx]; exact List.getElem_mem _
  have ox := (o.all x hmem).one
  have bz := @z10_box
  have st := @st_tr x ox
  have hdk := liveL_drop L hlt 0
  rw [← hx] at hdk
  simp only [Nat.zero_add] at hdk hd
  refine Rs (A9 @t0 @t6 @t7 @t8 @e3 @ix @ld @bz @st) ?_
  obtain ⟨K1, hK1⟩ : ∃ K1, K1 = h' ++ [ABlk.cells (trRow x) true false] := ⟨_, rfl⟩
  have m7 : K1[h'.length]? = some (.cells (trRow x) true false) := by rw [hK1]; exact at_new
  have hJ1 : J j K1 := by rw [hK1]; exact happ _ _ _ hJ
  have l7 := @ldx _ _ _ m7
  have l10 := @tr_l10 x
  have lh : ldV (trRow x)[8]? = some (.bool x.1.hole, .keep) := rfl
  rw [← hK1]
  cases hb : x.1.hole with
  | true =>
    rw [if_pos hb] at hdk
    refine Rs (A9 @t0 @t6 @t7 @t8 @l7 @lh @hb @Bool.not_true @e5) ?_
    exact ⟨L.length - (k + 1), by omega, k + 1, j, by omega, rfl, hj, hd.trans hdk, hJ1, rfl⟩
  | false =>
    rw [if_neg (by rw [hb]; decide)] at hdk
    rw [hdk] at hd
    have hjl : j < (liveL 0 L).length := by
      have : (List.drop j (liveL 0 L)).length ≠ 0 := by rw [hd]; simp
      rw [List.length_drop] at this
      omega
    have hj1 : (liveL 0 L)[j] = [.int .i64 (k : Int), .agg (trRow x)] := by
      have := List.drop_eq_getElem_cons hjl
      rw [hd] at this
      have := (List.cons.inj this).1
      rw [← this]
    have hj2 : (liveL 0 L).drop (j + 1) = liveL (k + 1) (L.drop (k + 1)) := by
      have := List.drop_eq_getElem_cons hjl
      rw [hd] at this
      exact (List.cons.inj this).2.symm
    obtain ⟨bb, k', q1, q2⟩ := hstep j hjl K1 hJ1
    rw [hj1] at q1
    refine Rs (A9 @t0 @t6 @t7 @t8 @l7 @lh @l10 @hb @Bool.not_false) ?_
    refine WF.valg q1 ?_
    cases bb with
    | true =>
      refine Rs (A6 @t0 @t6 @t7 @t8 @Bool.not_true @e5) ?_
      exact ⟨L.length - (k + 1), by omega, k + 1, j + 1, by omega, rfl, by omega, hj2, q2, rfl⟩
    | false =>
      refine Rs (A5 @t0 @t6 @t7 @t8 @Bool.not_false) ?_
      exact q2
theorem r204 {nm : List UInt8} {s : AV} (os : s.one = true) : RCall P 204 [.agg [.str nm, s]] h (fun v h' => ∃ b, v = .func (.func 226) [] [.ptr b 0] ∧ h'[b]? = some (.cells (shC nm s) true false)) := by
  refine .st1 4 T.mix T.c204 ?_;intro ts hlen t0;unfold fn204
  have bx := @sh_box nm s os
  refine Rs (A2 @t0 @bx) ?_
  exact ⟨_, rfl, at_new⟩
end
end Go.Abs
namespace Go.Abs
theorem widN_live (L : List (Trc × AV)) : widN (L.map Prod.fst) = match liveT L with
    | [] => 0
    | x :: _ => x.1.sm.length := by
  unfold widN liveT
  have e : (L.map Prod.fst).find? (fun t => !t.hole) = ((L.filter fun x => !x.1.hole).head?).map Prod.fst := by
    rw [List.head?_filter, List.find?_map]; rfl
  rw [e]
  cases L.filter fun x => !x.1.hole <;> rfl
theorem any_live (L : List (Trc × AV)) (n : Nat) : ((L.map Prod.fst).any fun t => !t.hole && decide (t.sm.length ≠ n)) = (liveT L).any fun x => decide (x.1.sm.length ≠ n) := by
  unfold liveT
  rw [List.any_map, List.any_filter]
  rfl
theorem at_it {Y g : AHeap} {R B X : ABlk} : (Y ++ [B] ++ (g ++ [X]))[(Y ++ [R] ++ g).length]? = some X := by
  have e : (Y ++ [R] ++ g).length = (Y ++ [B] ++ g).length := by simp only [List.length_append, List.length_cons, List.length_nil]
  rw [e, ← List.append_assoc]; exact at_new
theorem set_it {Y G : AHeap} {B v : ABlk} {b : Nat} (hb : b < Y.length) : (Y ++ [B] ++ G).set b v = Y.set b v ++ [B] ++ G := by
  rw [List.append_assoc, List.set_append_left _ _ hb, List.append_assoc]
theorem get_it {Y G : AHeap} {B k : ABlk} {b : Nat} (hb : Y[b]? = some k) : (Y ++ [B] ++ G)[b]? = some k := (show Ext Y (Y ++ [B] ++ G) from ⟨[B] ++ G, by rw [List.append_assoc]⟩).some hb
theorem st1_at {K : AHeap} {b : Nat} {v w : AV} (m : K[b]? = some (.cells [w] true false)) (ov : v.one = true) : storeF 1 (.ptr b 0) v (fun z => K[z]?) = some (undefA, .set b (.cells [v] true false)) := by
  rw [storeF_at m, stB_one ov (by show 0 + 1 ≤ 1; omega)]; rfl
set_option maxRecDepth 10000
attribute [local irreducible] WP WC WE WB WR WF WL WG WRg WQ
section
variable {P : Program} (T : Tbl P) {h : AHeap}
include T
set_option maxHeartbeats 4000000 in
theorem r203 {nm : List UInt8} {s : AV} {L : List (Trc × AV)} (o : ShOk h L s) (z : ShSz L) : RCall P 203 [.agg [.str nm, s]] h (fun v _ => ∃ q : Bool, v = .tup [.int .i64 (widN (L.map Prod.fst) : Nat), .bool q]) := by
  refine .st1 13 T.mix T.c203 ?_;intro ts hlen t0;unfold fn203
  have bx := @sh_box nm s o.sl.one
  have l2 := @sh_l2 nm s
  refine Rs (A3 @t0 @bx @l2) ?_;(first | (exact True.intro;trace "CLOSED 0") | skip)
  refine WF.res T.c204 (r204 T o.sl.one) ?_
  rintro _ g1 ⟨b, rfl, mb⟩
  obtain ⟨Y, hY⟩ : ∃ Y, Y = h ++ [ABlk.cells (shC nm s) true false] ++ [ABlk.cells [AV.int .i64 0] true false] ++ [ABlk.cells [AV.bool false] true false] ++ g1 := ⟨_, rfl⟩
  have eY : Ext h Y := by rw [hY]; exact Xx
  have m2 : Y[(h ++ [ABlk.cells (shC nm s) true false]).length]? = some (.cells [AV.int .i64 0] true false) := by rw [hY]; exact at_2
  have m3 : Y[(h ++ [ABlk.cells (shC nm s) true false] ++ [ABlk.cells [AV.int .i64 0] true false]).length]? = some (.cells [AV.bool false] true false) := by rw [hY]; exact at_1
  obtain ⟨b2, hb2⟩ : ∃ b, b = (h ++ [ABlk.cells (shC nm s) true false]).length := ⟨_, rfl⟩
  obtain ⟨b3, hb3⟩ : ∃ b, b = (h ++ [ABlk.cells (shC nm s) true false] ++ [ABlk.cells [AV.int .i64 0] true false]).length := ⟨_, rfl⟩
  have n2 : h.length ≤ b2 := by rw [hb2]; simp only [List.length_append]; omega
  have n3 : h.length ≤ b3 := by rw [hb3]; simp only [List.length_append]; omega
  have n23 : b2 ≠ b3 := by rw [hb2, hb3]; simp only [List.length_append, List.length_cons, List.length_nil]; omega
  rw [← hb2] at m2
  rw [← hb3] at m3
  rw [← hY] at mb
  rw [← hb2, ← hb3, ← hY]
  clear hY hb2 hb3
  have oY := o.ext eY
  have q2 := (List.getElem?_eq_some_iff.1 m2).1
  have q3 := (List.getElem?_eq_some_iff.1 m3).1
  refine Rs @t0 ?_;(first | (exact True.intro;trace "CLOSED 1") | skip)
  refine WC.iter T.mix T.c226 (a := []) (c := [.ptr b 0]) Sw (iter_live T mb oY z) (liveL_two L 0)
    (fun i h' g => i = 0 ∧ h' = Y) (fun e h' g => e = .ret ∧ ∃ x r, liveT L = x :: r ∧ h' = (Y.set b2 (.cells [.int .i64 (x.1.sm.length : Nat)] true false)).set b3 (.cells [.bool true] true false))
    ⟨rfl, rfl⟩ (fun i h' g g' hI => hI) (fun i h' g X hl hI => ?_) (fun i hi h' g R B hl' hI => ?_) (fun e h' g hl hI => ?_)
  · obtain ⟨_, rfl⟩ := hI
    exact Xx
  · obtain ⟨rfl, rfl⟩ := hI
    have hi2 : 0 < (liveT L).length := by rw [← liveL_len L 0]; exact hi
    obtain ⟨n, en⟩ := liveL_at L 0 0 hi hi2
    rw [en]
    obtain ⟨x, r, hxr⟩ : ∃ x r, liveT L = x :: r := by
      cases hq : liveT L with
      | nil => rw [hq] at hi2; simp at hi2
      | cons x r => exact ⟨x, r, rfl⟩
    have ex : (liveT L)[0] = x := by simp only [hxr, List.getElem_cons_zero]
    rw [ex]
    have hmem : x ∈ L := (List.mem_filter.1 (show x ∈ liveT L by rw [hxr]; exact List.mem_cons_self ..)).1
    have hx := oY.all x hmem
    have bz := @z10_box
    have st := @st_tr x hx.one
    simp only [setArgs]
    refine Rs (A3 @t0 @bz @st) ?_;(first | (exact True.intro;trace "CLOSED 2") | skip)
    refine ⟨h', g ++ [ABlk.cells (trRow x) true false], by rw [← List.append_assoc], rfl, ?_⟩
    have l5 : ∀ {n : Option Nat} {a : Nat}, loadF n (.ptr (h' ++ [R] ++ g).length a) (fun z => (h' ++ [B] ++ (g ++ [ABlk.cells (trRow x) true false]))[z]?) = ldB n a (.cells (trRow x) true false) := fun {n a} => loadF_at at_it
    have l9 : ldV (trRow x)[9]? = some (x.2, .keep) := rfl
    have lm := fun G => hx.lenm G
    have s2 := st1_at (v := .int .i64 (x.1.sm.length : Nat)) (get_it (B := B) (G := g ++ [ABlk.cells (trRow x) true false]) m2) rfl
    have s3 := st1_at (v := .bool true) (set_ne' (X := .cells [.int .i64 (x.1.sm.length : Nat)] true false) n23 (get_it (B := B) (G := g ++ [ABlk.cells (trRow x) true false]) m3)) rfl
    refine Rs (A6 @t0 @l5 @l9 @lm @s2 @s3) ?_;(first | (exact True.intro;trace "CLOSED 3") | skip)
    refine ⟨(h'.set b2 (.cells [.int .i64 (x.1.sm.length : Nat)] true false)).set b3 (.cells [.bool true] true false), g ++ [ABlk.cells (trRow x) true false], ?_, ?_, ?_⟩
    · rw [set_it (by rw [List.length_set]; exact q3)]
    · rw [List.length_set, List.length_set]
    · rw [if_neg (fun q => by cases q)]
      exact ⟨x, r, hxr, rfl⟩
  · by_cases hen : e = .normal
    · subst hen
      rw [if_pos rfl] at hI
      obtain ⟨hl0, rfl⟩ := hI
      have hq : liveT L = [] := List.eq_nil_of_length_eq_zero (by rw [← liveL_len L 0]; exact hl0)
      have hw : widN (L.map Prod.fst) = 0 := by rw [widN_live, hq]
      have s2 := st1_at (v := .int .i64 0) (get_it (B := .dead) (G := g) m2) rfl
      have s3 := st1_at (v := .bool false) (set_ne' (X := .cells [.int .i64 0] true false) n23 (get_it (B := .dead) (G := g) m3)) rfl
      have k2 : (((h' ++ [ABlk.dead] ++ g).set b2 (.cells [.int .i64 0] true false)).set b3 (.cells [.bool false] true false))[b2]? = some (.cells [.int .i64 0] true false) := set_ne' (fun q => n23 q.symm) (set_eq' (get_it m2))
      have k3 : (((h' ++ [ABlk.dead] ++ g).set b2 (.cells [.int .i64 0] true false)).set b3 (.cells [.bool false] true false))[b3]? = some (.cells [.bool false] true false) := set_eq' (set_ne' n23 (get_it m3))
      have eK : Ext h (((h' ++ [ABlk.dead] ++ g).set b2 (.cells [.int .i64 0] true false)).set b3 (.cells [.bool false] true false)) := ext_setG (ext_setG (eY.trans Xx) n2) n3
      have f2 := @loadF_at none b2 0 _ _ k2
      have f3 := @loadF_at none b3 0 _ _ k3
      refine Rs (A5 @t0 @s2 @s3 @f2 @f3) ?_;(first | (exact True.intro;trace "CLOSED 4") | skip)
      rw [set_it q2] at eK
      exact ⟨eK, _, by rw [hw]; rfl⟩
    · rw [if_neg hen] at hI
      obtain ⟨rfl, x, r, hxr, rfl⟩ := hI
      have hw : widN (L.map Prod.fst) = x.1.sm.length := by rw [widN_live, hxr]
      have k2 : ((Y.set b2 (.cells [.int .i64 (x.1.sm.length : Nat)] true false)).set b3 (.cells [.bool true] true false) ++ [ABlk.dead] ++ g)[b2]? = some (.cells [.int .i64 (x.1.sm.length : Nat)] true false) := get_it (set_ne' (fun q => n23 q.symm) (set_eq' m2))
      have k3 : ((Y.set b2 (.cells [.int .i64 (x.1.sm.length : Nat)] true false)).set b3 (.cells [.bool true] true false) ++ [ABlk.dead] ++ g)[b3]? = some (.cells [.bool true] true false) := get_it (set_eq' (set_ne' n23 m3))
      have eK : Ext h ((Y.set b2 (.cells [.int .i64 (x.1.sm.length : Nat)] true false)).set b3 (.cells [.bool true] true false) ++ [ABlk.dead] ++ g) := (ext_setG (ext_setG eY n2) n3).trans Xx
      have f2 := @loadF_at none b2 0 _ _ k2
      have f3 := @loadF_at none b3 0 _ _ k3
      refine Rs (A3 @t0 @f2 @f3) ?_;(first | (exact True.intro;trace "CLOSED 5") | skip)
      exact ⟨eK, _, by rw [hw]⟩
set_option maxHeartbeats 8000000 in
theorem r159 (rg : Rng h) {nm : List UInt8} {s : AV} {L : List (Trc × AV)} (o : ShOk h L s) (z : ShSz L) : RCall P 159 [.agg [.str nm, s]] h (fun v _ => v = .int .i64 (chkSh nm (L.map Prod.fst))) := by
  refine .st1 50 T.mix T.c159 ?_;intro ts hlen t0;unfold fn159
  have bx := @sh_box nm s o.sl.one
  have l2 := @sh_l2 nm s
  have ln : ldV (shC nm s)[0]? = some (.str nm, .keep) := rfl
  have ls : ldV (shC nm s)[1]? = some (s, .keep) := rfl
  have hlm := fun G => o.sl.lenm G
  obtain ⟨b1, hb1⟩ : ∃ b, b = h.length := ⟨_, rfl⟩
  obtain ⟨b2, hb2⟩ : ∃ b, b = (h ++ [ABlk.cells (shC nm s) true false]).length := ⟨_, rfl⟩
  obtain ⟨Y, hY⟩ : ∃ Y, Y = h ++ [ABlk.cells (shC nm s) true false] ++ [ABlk.cells [AV.int .i64 0] true false] := ⟨_, rfl⟩
  have eY : Ext h Y := by rw [hY]; exact Xx
  have m1 : Y[b1]? = some (.cells (shC nm s) true false) := by rw [hY, hb1]; exact at_1
  have m2 : Y[b2]? = some (.cells [AV.int .i64 0] true false) := by rw [hY, hb2]; exact at_new
  have n2 : h.length ≤ b2 := by rw [hb2]; simp only [List.length_append]; omega
  have n12 : b1 ≠ b2 := by rw [hb1, hb2]; simp only [List.length_append, List.length_cons, List.length_nil]; omega
  refine Rs (A2 @t0 @bx) ?_;(first | (exact True.intro;trace "CLOSED 6") | skip)
  rw [← hb1, ← hb2, ← hY]
  clear hY hb1 hb2
  have l1 := @ldx _ _ _ m1
  have e1 : (((L.length : Nat) : Int) = 0) = (L.length = 0) := by simp
  have dz : decide ((L.length : Int) = 0) = decide (L.length = 0) := decide_eq_decide.2 (by omega)
  have dg : decide ((64 : Int) < (L.length : Int)) = decide (64 < L.length) := decide_eq_decide.2 (by omega)
  repeat (first | simp (maxSteps := 1000000) only [wset, hset, dset, bset, Nat.reduceAdd, Nat.reduceMul, Nat.reduceLeDiff, Nat.reduceEqDiff, pset, hlen, if_false, if_true, t0, l1, ln] | simp (maxSteps := 1000000) (disch := first | (simp only [List.length_append, List.length_cons, List.length_nil] <;> omega) | rfl | omega | fail) only [kset, wset, hset, dset, bset, Nat.reduceAdd, Nat.reduceMul, Nat.reduceLeDiff, Nat.reduceEqDiff, pset, hlen, if_false, if_true, t0, l1, ln])
  refine WF.ce T.c200 (r200 T nm) fun g1 => ?_
  refine Rs @t0 ?_;(first | (exact True.intro;trace "CLOSED 7") | skip)
  refine WF.ce T.c192 (r192 T _ _) fun g2 => ?_
  refine Rs (A5 @t0 @l1 @ls @hlm @dz) ?_;(first | (exact True.intro;trace "CLOSED 8") | skip)
  refine WF.ce T.c192 (r192 T _ _) fun g3 => ?_
  refine Rs (A5 @t0 @l1 @ls @hlm @dg) ?_;(first | (exact True.intro;trace "CLOSED 9") | skip)
  refine WF.ce T.c192 (r192 T _ _) fun g4 => ?_
  refine Rs @t0 ?_;(first | (exact True.intro;trace "CLOSED 10") | skip)
  refine WF.ce T.c168 (r168 T (isSl_ints [_, _, _]) (by simp)) fun g5 => ?_
  obtain ⟨K1, hK1⟩ : ∃ K, K = Y ++ g1 ++ g2 ++ g3 ++ g4 ++ [ABlk.cells [AV.int .i64 (whenS (!nameS nm) 8), AV.int .i64 (whenS (decide (L.length = 0)) 12), AV.int .i64 (whenS (decide (64 < L.length)) 5)] true true] ++ g5 := ⟨_, rfl⟩
  have f1 : Ext Y K1 := by rw [hK1]; exact Xx
  rw [← hK1]
  clear hK1
  have hc : chkSh nm (L.map Prod.fst) = firstS [whenS (!nameS nm) 8, whenS (decide (L.length = 0)) 12, whenS (decide (64 < L.length)) 5, firstS (L.map fun x => chkTr x.1), whenS ((liveT L).any fun x => decide (x.1.sm.length ≠ widN (L.map Prod.fst))) 2] := by
    unfold chkSh
    rw [List.length_map, List.map_map, any_live]
    rfl
  have f3 : ∀ {a b c d e : Int}, firstS [a, b, c, d, e] = if firstS [a, b, c] ≠ 0 then firstS [a, b, c] else firstS [d, e] := fun {a b c d e} => by
    simp only [firstS]
    by_cases ha : a = 0 <;> by_cases hb : b = 0 <;> by_cases hc : c = 0 <;> simp [ha, hb, hc]
  rw [f3] at hc
  obtain ⟨E, hE⟩ : ∃ E, E = firstS [whenS (!nameS nm) 8, whenS (decide (L.length = 0)) 12, whenS (decide (64 < L.length)) 5] := ⟨_, rfl⟩
  rw [← hE] at hc ⊢
  clear hE f3
  by_cases hz : E = 0
  case neg =>
    have d1 : decide (E ≠ 0) = true := decide_eq_true hz
    have s2 := st1_at (v := .int .i64 E) (f1.some m2) rfl
    have k2 : (K1.set b2 (.cells [.int .i64 E] true false))[b2]? = some (.cells [.int .i64 E] true false) := set_eq' (f1.some m2)
    have f2 := @loadF_at none b2 0 _ _ k2
    have eK : Ext h (K1.set b2 (.cells [.int .i64 E] true false)) := ext_setG (eY.trans f1) n2
    rw [if_pos hz] at hc
    refine Rs (A4 @t0 @d1 @s2 @f2) ?_;(first | (exact True.intro;trace "CLOSED 11") | skip)
    exact ⟨eK, by rw [hc]⟩
  have d1 : decide (E ≠ 0) = false := decide_eq_false fun z => z hz
  rw [if_neg (fun z => z hz)] at hc
  have l1 := @ldx _ _ _ (f1.some m1)
  have oK := o.ext (eY.trans f1)
  refine Rs (A4 @t0 @d1 @l1 @ls) ?_;(first | (exact True.intro;trace "CLOSED 12") | skip)
  refine WF.res T.c201 (r201 T (rg.ext (eY.trans f1)) oK z) ?_
  intro v g6 is6
  refine Rs @t0 ?_;(first | (exact True.intro;trace "CLOSED 13") | skip)
  refine WF.ce T.c168 (r168 T is6 (by rw [List.length_map]; have := z.l; omega)) fun g7 => ?_
  obtain ⟨K2, hK2⟩ : ∃ K, K = K1 ++ g6 ++ g7 := ⟨_, rfl⟩
  have f2 : Ext K1 K2 := by rw [hK2]; exact Xx
  rw [← hK2]
  clear hK2
  obtain ⟨E2, hE2⟩ : ∃ E, E = firstS (L.map fun x => chkTr x.1) := ⟨_, rfl⟩
  rw [← hE2] at hc ⊢
  by_cases hz2 : E2 = 0
  case neg =>
    have d2 : decide (E2 ≠ 0) = true := decide_eq_true hz2
    have s2 := st1_at (v := .int .i64 E2) ((f1.trans f2).some m2) rfl
    have k2 : (K2.set b2 (.cells [.int .i64 E2] true false))[b2]? = some (.cells [.int .i64 E2] true false) := set_eq' ((f1.trans f2).some m2)
    have f4 := @loadF_at none b2 0 _ _ k2
    have eK : Ext h (K2.set b2 (.cells [.int .i64 E2] true false)) := ext_setG (eY.trans (f1.trans f2)) n2
    rw [firstS, if_neg hz2] at hc
    refine Rs (A4 @t0 @d2 @s2 @f4) ?_;(first | (exact True.intro;trace "CLOSED 14") | skip)
    exact ⟨eK, by rw [hc]⟩
  have d2 : decide (E2 ≠ 0) = false := decide_eq_false fun z => z hz2
  rw [firstS, if_pos hz2] at hc
  have l1 := @ldx _ _ _ ((f1.trans f2).some m1)
  refine Rs (A4 @t0 @d2 @l1 @l2) ?_;(first | (exact True.intro;trace "CLOSED 15") | skip)
  refine WF.res T.c203 (r203 T (oK.ext f2) z) ?_
  rintro _ g8 ⟨q, rfl⟩
  obtain ⟨n, hn⟩ : ∃ n, n = widN (L.map Prod.fst) := ⟨_, rfl⟩
  rw [← hn] at hc ⊢
  have b0 : ∀ {N : Nat}, boxF (.int .i64 0) N = some (.ptr N 0, .push (.cells [.int .i64 0] true false)) := fun {N} => rfl
  have s5 : ∀ {b : Nat}, stB 1 0 (.int .i64 (n : Int)) b (.cells [.int .i64 0] true false) = some (undefA, .set b (.cells [.int .i64 (n : Int)] true false)) := fun {b} => (stB_one rfl (by show 0 + 1 ≤ 1; omega)).trans rfl
  refine Rs (A3 @t0 @b0 @s5) ?_;(first | (exact True.intro;trace "CLOSED 16") | skip)
  obtain ⟨K3, hK3⟩ : ∃ K, K = K2 ++ g8 ++ [ABlk.cells [AV.int .i64 (n : Int)] true false] := ⟨_, rfl⟩
  have f3 : Ext K2 K3 := by rw [hK3]; exact Xx
  have m5 : K3[(K2 ++ g8).length]? = some (.cells [AV.int .i64 (n : Int)] true false) := by rw [hK3]; exact at_new
  obtain ⟨b5, hb5⟩ : ∃ b, b = (K2 ++ g8).length := ⟨_, rfl⟩
  rw [← hb5] at m5
  rw [← hK3, ← hb5]
  have n5 : b2 ≠ b5 := by
    have := (List.getElem?_eq_some_iff.1 ((f1.trans f2).some m2)).1
    rw [hb5]; simp only [List.length_append]; omega
  clear hK3 hb5
  have l1 := @ldx _ _ _ ((f1.trans (f2.trans f3)).some m1)
  refine Rs (A3 @t0 @l1 @l2) ?_;(first | (exact True.intro;trace "CLOSED 17") | skip)
  refine WF.res T.c204 (r204 T o.sl.one) ?_
  rintro _ g9 ⟨b, rfl, mb⟩
  obtain ⟨W, hW⟩ : ∃ W, W = K3 ++ g9 := ⟨_, rfl⟩
  have f4 : Ext K3 W := by rw [hW]; exact Xx
  rw [← hW] at mb ⊢
  clear hW
  have eW : Ext h W := eY.trans (f1.trans (f2.trans (f3.trans f4)))
  have oW := o.ext eW
  have mW2 := (f1.trans (f2.trans (f3.trans f4))).some m2
  have mW5 := f4.some m5
  have q2 := (List.getElem?_eq_some_iff.1 mW2).1
  obtain ⟨bad, hbad⟩ : ∃ bad : Trc × AV → Bool, bad = fun x => decide (x.1.sm.length ≠ n) := ⟨_, rfl⟩
  rw [← hbad] at hc
  refine Rs @t0 ?_;(first | (exact True.intro;trace "CLOSED 18") | skip)
  refine WC.iter T.mix T.c226 (a := []) (c := [.ptr b 0]) Sw (iter_live T mb oW z) (liveL_two L 0)
    (fun i h' g => ((liveT L).take i).any bad = false ∧ h' = W) (fun e h' g => e = .ret ∧ (liveT L).any bad = true ∧ h' = W.set b2 (.cells [.int .i64 2] true false))
    ⟨rfl, rfl⟩ (fun i h' g g' hI => hI) (fun i h' g X hl hI => ?_) (fun i hi h' g R B hl' hI => ?_) (fun e h' g hl hI => ?_)
  · obtain ⟨_, rfl⟩ := hI
    exact Xx
  · obtain ⟨hany, rfl⟩ := hI
    have hi2 : i < (liveT L).length := by rw [← liveL_len L 0]; exact hi
    obtain ⟨j, en⟩ := liveL_at L 0 i hi hi2
    rw [en]
    obtain ⟨x, hx0⟩ : ∃ x, x = (liveT L)[i] := ⟨_, rfl⟩
    have htk : (liveT L).take (i + 1) = (liveT L).take i ++ [x] := by rw [hx0]; exact List.take_succ_eq_append_getElem hi2
    rw [← hx0]
    have hmem : x ∈ L := (List.mem_filter.1 (show x ∈ liveT L by rw [hx0]; exact List.getElem_mem _)).1
    have hx := oW.all x hmem
    have bz := @z10_box
    have st := @st_tr x hx.one
    simp only [setArgs]
    refine Rs (A3 @t0 @bz @st) ?_;(first | (exact True.intro;trace "CLOSED 19") | skip)
    refine ⟨h', g ++ [ABlk.cells (trRow x) true false], by rw [← List.append_assoc], rfl, ?_⟩
    have l8 : ∀ {n : Option Nat} {a : Nat}, loadF n (.ptr (h' ++ [R] ++ g).length a) (fun z => (h' ++ [B] ++ (g ++ [ABlk.cells (trRow x) true false]))[z]?) = ldB n a (.cells (trRow x) true false) := fun {n a} => loadF_at at_it
    have l9 : ldV (trRow x)[9]? = some (x.2, .keep) := rfl
    have lm := fun G => hx.lenm G
    have l5 := @loadF_at none b5 0 _ _ (get_it (B := B) (G := g ++ [ABlk.cells (trRow x) true false]) mW5)
    have s2 := st1_at (v := .int .i64 2) (get_it (B := B) (G := g ++ [ABlk.cells (trRow x) true false]) mW2) rfl
    have bx : bad x = decide (x.1.sm.length ≠ n) := by rw [hbad]
    by_cases hne : x.1.sm.length ≠ n
    · have d3 : decide ((x.1.sm.length : Int) ≠ (n : Int)) = true := decide_eq_true (by omega)
      refine Rs (A7 @t0 @l8 @l9 @lm @l5 @d3 @s2) ?_;(first | (exact True.intro;trace "CLOSED 20") | skip)
      refine ⟨h'.set b2 (.cells [.int .i64 2] true false), g ++ [ABlk.cells (trRow x) true false], rfl, by rw [List.length_set], ?_⟩
      rw [if_neg (fun q => by cases q)]
      refine ⟨?_, rfl⟩
      rw [List.any_eq_true]
      exact ⟨x, by rw [hx0]; exact List.getElem_mem _, by rw [bx]; exact decide_eq_true hne⟩
    · have d3 : decide ((x.1.sm.length : Int) ≠ (n : Int)) = false := decide_eq_false (by omega)
      refine Rs (A6 @t0 @l8 @l9 @lm @l5 @d3) ?_;(first | (exact True.intro;trace "CLOSED 21") | skip)
      refine ⟨h', g ++ [ABlk.cells (trRow x) true false], rfl, rfl, ?_⟩
      refine ⟨?_, rfl⟩
      rw [htk, List.any_append, hany]
      simp only [List.any_cons, List.any_nil, bx, Bool.or_false, Bool.false_or]
      exact decide_eq_false hne
  · by_cases hen : e = .normal
    · subst hen
      rw [if_pos rfl] at hI
      obtain ⟨hany, rfl⟩ := hI
      rw [liveL_len, List.take_length] at hany
      have s2 := st1_at (v := .int .i64 0) (get_it (B := .dead) (G := g) mW2) rfl
      have k2 : ((h' ++ [ABlk.dead] ++ g).set b2 (.cells [.int .i64 0] true false))[b2]? = some (.cells [.int .i64 0] true false) := set_eq' (get_it mW2)
      have eK : Ext h ((h' ++ [ABlk.dead] ++ g).set b2 (.cells [.int .i64 0] true false)) := ext_setG (eW.trans Xx) n2
      have f2 := @loadF_at none b2 0 _ _ k2
      refine Rs (A3 @t0 @s2 @f2) ?_;(first | (exact True.intro;trace "CLOSED 22") | skip)
      rw [set_it q2] at eK
      exact ⟨eK, by rw [hc, hany]; rfl⟩
    · rw [if_neg hen] at hI
      obtain ⟨rfl, hany, rfl⟩ := hI
      have k2 : (W.set b2 (.cells [.int .i64 2] true false) ++ [ABlk.dead] ++ g)[b2]? = some (.cells [.int .i64 2] true false) := get_it (set_eq' mW2)
      have eK : Ext h (W.set b2 (.cells [.int .i64 2] true false) ++ [ABlk.dead] ++ g) := (ext_setG eW n2).trans Xx
      have f2 := @loadF_at none b2 0 _ _ k2
      refine Rs (A2 @t0 @f2) ?_;(first | (exact True.intro;trace "CLOSED 23") | skip)
      exact ⟨eK, by rw [hc, hany]; rfl⟩
end
end Go.Abs
namespace Go.Abs
theorem widN_cons (t : Trc) (r : List Trc) : widN (t :: r) = if t.hole then widN r else t.sm.length := by
  unfold widN
  rw [List.find?_cons]
  cases t.hole <;> rfl
structure ShtP (nm : List UInt8) (L : List (Trc × AV)) : Prop where
  n : nm.length ≤ 60
  l : L.length ≤ 65
  s : ∀ x ∈ L, x.1.sm.length ≤ 1025
theorem ShtP.sz {nm : List UInt8} {L : List (Trc × AV)} (p : ShtP nm L) : ShSz L := ⟨by have := p.l; omega, fun x hx => by have := p.s x hx; omega⟩
theorem hd_same {f : Nat → Int} : eqvK (.agg [.i, .i, .i, .i, .i, .i, .i, .i]) (.agg (hdR f)) (.agg (hdR f)) = some true := by
  rw [eqA rfl rfl]
  simp [hdR, eqCells, eqQ, eqCell]
structure ShEq (A B : List (Trc × AV)) : Prop where
  l : A.length = B.length
  t : ∀ (i : Nat) (h1 : i < A.length) (h2 : i < B.length), TrEq A[i].1 B[i].1
set_option maxRecDepth 10000
attribute [local irreducible] WP WC WE WB WR WF WL WG WRg WQ
section
variable {P : Program} (T : Tbl P) {h : AHeap}
include T
set_option maxHeartbeats 4000000 in
theorem r165 {nm : List UInt8} {s : AV} {L : List (Trc × AV)} (o : ShOk h L s) (z : ShSz L) : RCall P 165 [.agg [.str nm, s]] h (fun v _ => ∃ q : Bool, v = .tup [.int .i64 (widN (L.map Prod.fst) : Nat), .bool q]) := by
  refine .st1 26 T.mix T.c165 ?_;intro ts hlen t0;unfold fn165
  have bx := @sh_box nm s o.sl.one
  have ls : ldV (shC nm s)[1]? = some (s, .keep) := rfl
  have zl := z.l
  refine Rs (A2 @t0 @bx) ?_
  obtain ⟨Y, hY⟩ : ∃ Y, Y = h ++ [ABlk.cells (shC nm s) true false] := ⟨_, rfl⟩
  have eY : Ext h Y := by rw [hY]; exact Xx
  have m1 : Y[h.length]? = some (.cells (shC nm s) true false) := by rw [hY]; exact at_new
  obtain ⟨b1, hb1⟩ : ∃ b, b = h.length := ⟨_, rfl⟩
  rw [← hb1] at m1
  rw [← hb1, ← hY]
  clear hb1 hY
  have l1 := @ldx _ _ _ m1
  have oY := o.ext eY
  refine WL.inv T.mix (fun n ts K => ∃ k : Nat, k ≤ L.length ∧ n = L.length - k ∧ K = Y ∧ widN (L.map Prod.fst) = widN ((L.drop k).map Prod.fst) ∧ ts.length = 26 ∧ slot ts 1 = .ptr b1 0 ∧ slot ts 4 = .int .i64 k) L.length
    ⟨0, by omega, rfl, rfl, rfl, Sn, Sw, Swr⟩ ?_
  clear hlen t0
  rintro _ ts K ⟨k, hk, rfl, rfl, hw, hlen, t1, t4⟩
  have hlm := fun G => oY.sl.lenm G
  by_cases hlt : k < L.length
  case neg =>
    have e3 := dltF hlt
    have e4 : k = L.length := by omega
    rw [e4, List.drop_length] at hw
    refine Rs (A6 @t1 @t4 @l1 @ls @hlm @e3) ?_
    exact ⟨eY, _, by rw [hw]; rfl⟩
  have e3 := dltT hlt
  have e5 := wrapN (n := k) (by omega)
  have ix := oY.sl.ixm (kk := .i64) hlt
  obtain ⟨x, hx⟩ : ∃ x, x = L[k] := ⟨_, rfl⟩
  have hmem : x ∈ L := by rw [hx]; exact List.getElem_mem _
  have lh : ∀ {kk : AHeap}, Ext K kk → loadF none (elf s 10 k 8) (fun b => kk[b]?) = some (.bool x.1.hole, .keep) := fun {kk} e => by rw [hx]; exact oY.sl.lfm hlt rfl e
  have l9 : ∀ {kk : AHeap}, Ext K kk → loadF none (elf s 10 k 9) (fun b => kk[b]?) = some (x.2, .keep) := fun {kk} e => by rw [hx]; exact oY.sl.lfm hlt rfl e
  have lx := fun G => (oY.all x hmem).lenm G
  have hc : widN ((L.drop k).map Prod.fst) = if x.1.hole then widN ((L.drop (k + 1)).map Prod.fst) else x.1.sm.length := by
    rw [List.drop_eq_getElem_cons hlt, List.map_cons, ← hx, widN_cons]
  cases hb : x.1.hole with
  | true =>
    rw [hb, if_pos rfl] at hc
    refine Rs (A11 @t1 @t4 @l1 @ls @hlm @e3 @ix @lh @hb @Bool.not_true @e5) ?_
    exact ⟨L.length - (k + 1), by omega, k + 1, by omega, rfl, hw.trans hc, rfl⟩
  | false =>
    rw [hb, if_neg (by decide)] at hc
    refine Rs (A12 @t1 @t4 @l1 @ls @hlm @e3 @ix @lh @l9 @lx @hb @Bool.not_false) ?_
    exact ⟨eY, _, by rw [hw, hc]⟩
set_option maxHeartbeats 8000000 in
theorem r91 (X : Xfl P) {nm : List UInt8} (hn : nm.length < 2 ^ 40) {s : AV} {L : List (Trc × AV)} (o : ShOk h L s) (z : ShSz L) : RCall P 91 [.agg [.str nm, s]] h (fun v _ => v = .int .i64 (chkSh nm (L.map Prod.fst))) := by
  refine .st1 66 T.mix T.c91 ?_;intro ts hlen t0;unfold fn91
  have bx := @sh_box nm s o.sl.one
  have l2 := @sh_l2 nm s
  have ln : ldV (shC nm s)[0]? = some (.str nm, .keep) := rfl
  have ls : ldV (shC nm s)[1]? = some (s, .keep) := rfl
  have zl := z.l
  have hlm := fun G => o.sl.lenm G
  refine Rs (A2 @t0 @bx) ?_
  obtain ⟨Y, hY⟩ : ∃ Y, Y = h ++ [ABlk.cells (shC nm s) true false] := ⟨_, rfl⟩
  have eY : Ext h Y := by rw [hY]; exact Xx
  have m1 : Y[h.length]? = some (.cells (shC nm s) true false) := by rw [hY]; exact at_new
  obtain ⟨b1, hb1⟩ : ∃ b, b = h.length := ⟨_, rfl⟩
  rw [← hb1] at m1
  rw [← hb1, ← hY]
  clear hb1 hY
  have l1 := @ldx _ _ _ m1
  have dz : decide ((L.length : Int) = 0) = decide (L.length = 0) := decide_eq_decide.2 (by omega)
  have dg : decide ((64 : Int) < (L.length : Int)) = decide (64 < L.length) := decide_eq_decide.2 (by omega)
  have hc : chkSh nm (L.map Prod.fst) = firstS [whenS (!nameS nm) 8, whenS (decide (L.length = 0)) 12, whenS (decide (64 < L.length)) 5, firstS (L.map fun x => chkTr x.1), whenS ((L.map Prod.fst).any fun t => !t.hole && decide (t.sm.length ≠ widN (L.map Prod.fst))) 2] := by
    unfold chkSh
    rw [List.length_map, List.map_map]
    rfl
  repeat (first | simp (maxSteps := 1000000) only [wset, hset, dset, bset, Nat.reduceAdd, Nat.reduceMul, Nat.reduceLeDiff, Nat.reduceEqDiff, pset, hlen, if_false, if_true, t0, l1, ln] | simp (maxSteps := 1000000) (disch := first | (simp only [List.length_append, List.length_cons, List.length_nil] <;> omega) | rfl | omega | fail) only [kset, wset, hset, dset, bset, Nat.reduceAdd, Nat.reduceMul, Nat.reduceLeDiff, Nat.reduceEqDiff, pset, hlen, if_false, if_true, t0, l1, ln])
  refine WF.ce T.c163 (r163 T nm (by omega)) fun g1 => ?_
  have f1 : Ext Y (Y ++ g1) := Xx
  cases hnm : nameS nm with
  | false =>
    refine Rs (A2 @t0 @Bool.not_false) ?_
    exact ⟨eY.trans f1, by rw [hc, hnm]; rfl⟩
  | true =>
  rw [hnm] at hc
  by_cases h0 : L.length = 0
  · have d0 : decide (L.length = 0) = true := decide_eq_true h0
    rw [d0] at hc
    refine Rs (A7 @t0 @Bool.not_true @l1 @ls @hlm @dz @d0) ?_
    exact ⟨eY.trans f1, by rw [hc]; rfl⟩
  have d0 : decide (L.length = 0) = false := decide_eq_false h0
  rw [d0] at hc
  by_cases h64 : 64 < L.length
  · have d64 : decide (64 < L.length) = true := decide_eq_true h64
    rw [d64] at hc
    refine Rs (A9 @t0 @Bool.not_true @l1 @ls @hlm @dz @d0 @dg @d64) ?_
    exact ⟨eY.trans f1, by rw [hc]; rfl⟩
  have d64 : decide (64 < L.length) = false := decide_eq_false h64
  rw [d64] at hc
  have hc : chkSh nm (L.map Prod.fst) = firstS [firstS (L.map fun x => chkTr x.1), whenS ((L.map Prod.fst).any fun t => !t.hole && decide (t.sm.length ≠ widN (L.map Prod.fst))) 2] := hc
  refine Rs (A9 @t0 @Bool.not_true @l1 @ls @hlm @dz @d0 @dg @d64) ?_
  refine WL.inv T.mix (fun n ts K => ∃ k : Nat, k ≤ L.length ∧ n = L.length - k ∧ Ext Y K ∧ firstS (L.map fun x => chkTr x.1) = firstS ((L.drop k).map fun x => chkTr x.1) ∧ ts.length = 66 ∧ slot ts 1 = .ptr b1 0 ∧ slot ts 3 = .int .i64 k) L.length
    ⟨0, by omega, rfl, f1, rfl, Sn, Sw, Swr⟩ ?_
  clear hlen t0 f1
  rintro _ ts K ⟨k, hk, rfl, eK, hw, hlen, t1, t3⟩
  have oK := o.ext (eY.trans eK)
  have l1 := @ldx _ _ _ (eK.some m1)
  by_cases hlt : k < L.length
  case neg =>
    have e3 := dltF hlt
    have e4 : k = L.length := by omega
    rw [e4, List.drop_length] at hw
    rw [hw] at hc
    have hc : chkSh nm (L.map Prod.fst) = firstS [whenS ((L.map Prod.fst).any fun t => !t.hole && decide (t.sm.length ≠ widN (L.map Prod.fst))) 2] := hc
    refine Rs (A7 @t1 @t3 @l1 @l2 @ls @hlm @e3) ?_
    refine WF.res T.c165 (r165 T oK z) ?_
    rintro _ g2 ⟨q, rfl⟩
    obtain ⟨w, hw⟩ : ∃ w, w = widN (L.map Prod.fst) := ⟨_, rfl⟩
    rw [← hw] at hc ⊢
    obtain ⟨bad, hbad⟩ : ∃ bad : Trc → Bool, bad = fun t => !t.hole && decide (t.sm.length ≠ w) := ⟨_, rfl⟩
    rw [← hbad] at hc
    obtain ⟨W, hW⟩ : ∃ W, W = K ++ g2 := ⟨_, rfl⟩
    have eW : Ext K W := by rw [hW]; exact Xx
    rw [← hW]
    clear hW
    have oW := oK.ext eW
    have l1 := @ldx _ _ _ ((eK.trans eW).some m1)
    refine Rs (A2 @t1 @t3) ?_
    refine WL.inv T.mix (fun n ts H => ∃ k : Nat, k ≤ L.length ∧ n = L.length - k ∧ H = W ∧ (L.map Prod.fst).any bad = ((L.drop k).map Prod.fst).any bad ∧ ts.length = 66 ∧ slot ts 1 = .ptr b1 0 ∧ slot ts 5 = .int .i64 w ∧ slot ts 7 = .int .i64 k) L.length
      ⟨0, by omega, rfl, rfl, rfl, Sn, (Sq @t1), Sw, Swr⟩ ?_
    clear hlen t1 t3
    rintro _ ts H ⟨k, hk, rfl, rfl, ha, hlen, t1, t5, t7⟩
    by_cases hlt : k < L.length
    case neg =>
      have e3 := dltF hlt
      have e4 : k = L.length := by omega
      rw [e4, List.drop_length] at ha
      refine Rs (A7 @t1 @t5 @t7 @l1 @ls @hlm @e3) ?_
      exact ⟨eY.trans (eK.trans eW), by rw [hc, ha]; rfl⟩
    have e3 := dltT hlt
    have e5 := wrapN (n := k) (by omega)
    have ix := oW.sl.ixm (kk := .i64) hlt
    obtain ⟨x, hx⟩ : ∃ x, x = L[k] := ⟨_, rfl⟩
    have hmem : x ∈ L := by rw [hx]; exact List.getElem_mem _
    have lh : ∀ {kk : AHeap}, Ext H kk → loadF none (elf s 10 k 8) (fun b => kk[b]?) = some (.bool x.1.hole, .keep) := fun {kk} e => by rw [hx]; exact oW.sl.lfm hlt rfl e
    have l9 : ∀ {kk : AHeap}, Ext H kk → loadF none (elf s 10 k 9) (fun b => kk[b]?) = some (x.2, .keep) := fun {kk} e => by rw [hx]; exact oW.sl.lfm hlt rfl e
    have lx := fun G => (oW.all x hmem).lenm G
    have hcc : ((L.drop k).map Prod.fst).any bad = (bad x.1 || ((L.drop (k + 1)).map Prod.fst).any bad) := by
      rw [List.drop_eq_getElem_cons hlt, List.map_cons, ← hx, List.any_cons]
    have hbx : bad x.1 = (!x.1.hole && decide (x.1.sm.length ≠ w)) := by rw [hbad]
    cases hb : x.1.hole with
    | true =>
      rw [hb, Bool.not_true, Bool.false_and] at hbx
      rw [hbx, Bool.false_or] at hcc
      refine Rs (A12 @t1 @t5 @t7 @l1 @ls @hlm @e3 @ix @lh @hb @Bool.not_true @e5) ?_
      exact ⟨L.length - (k + 1), by omega, k + 1, by omega, rfl, ha.trans hcc, rfl⟩
    | false =>
      rw [hb, Bool.not_false, Bool.true_and] at hbx
      by_cases hne : x.1.sm.length ≠ w
      · have d3 : decide ((x.1.sm.length : Int) ≠ (w : Int)) = true := decide_eq_true (by omega)
        rw [decide_eq_true hne] at hbx
        rw [hbx, Bool.true_or] at hcc
        refine Rs (A14 @t1 @t5 @t7 @l1 @ls @hlm @e3 @ix @lh @l9 @lx @hb @Bool.not_false @d3) ?_
        exact ⟨eY.trans (eK.trans eW), by rw [hc, ha, hcc]; rfl⟩
      · have d3 : decide ((x.1.sm.length : Int) ≠ (w : Int)) = false := decide_eq_false (by omega)
        rw [decide_eq_false hne] at hbx
        rw [hbx, Bool.false_or] at hcc
        refine Rs (A15 @t1 @t5 @t7 @l1 @ls @hlm @e3 @ix @lh @l9 @lx @hb @Bool.not_false @d3 @e5) ?_
        exact ⟨L.length - (k + 1), by omega, k + 1, by omega, rfl, ha.trans hcc, rfl⟩
  have e3 := dltT hlt
  have e5 := wrapN (n := k) (by omega)
  have ix := oK.sl.ixm (kk := .i64) hlt
  obtain ⟨x, hx⟩ : ∃ x, x = L[k] := ⟨_, rfl⟩
  have hmem : x ∈ L := by rw [hx]; exact List.getElem_mem _
  have ld : ∀ {kk : AHeap}, Ext K kk → loadF (some 10) (elp s 10 k) (fun b => kk[b]?) = some (.agg (trRow x), .keep) := fun {kk} e => by rw [hx]; exact oK.sl.ldm hlt e
  have hcc : firstS ((L.drop k).map fun x => chkTr x.1) = if chkTr x.1 = 0 then firstS ((L.drop (k + 1)).map fun x => chkTr x.1) else chkTr x.1 := by
    rw [List.drop_eq_getElem_cons hlt, List.map_cons, ← hx, firstS]
  refine Rs (A8 @t1 @t3 @l1 @ls @hlm @e3 @ix @ld) ?_
  refine WF.ce T.c164 (r164 T X (oK.all x hmem) (z.s x hmem)) fun g2 => ?_
  have eG : Ext K (K ++ g2) := Xx
  obtain ⟨E, hE⟩ : ∃ E, E = chkTr x.1 := ⟨_, rfl⟩
  rw [← hE] at hcc ⊢
  by_cases hz : E = 0
  case neg =>
    have d1 : decide (E ≠ 0) = true := decide_eq_true hz
    rw [if_neg hz] at hcc
    refine Rs (A3 @t1 @t3 @d1) ?_
    exact ⟨eY.trans (eK.trans eG), by rw [hc, hw, hcc, firstS, if_neg hz]⟩
  have d1 : decide (E ≠ 0) = false := decide_eq_false fun z => z hz
  rw [if_pos hz] at hcc
  refine Rs (A4 @t1 @t3 @d1 @e5) ?_
  exact ⟨L.length - (k + 1), by omega, k + 1, by omega, rfl, eK.trans eG, hw.trans hcc, rfl⟩
set_option maxHeartbeats 1000000 in
theorem r158 {x : Trc × AV} (hx : IsSl h x.2 1 (x.1.sm.map fltR)) : RCall P 158 [.agg (trRow x)] h (fun v _ => v = .bool (decide (x.1.sm.length ≤ 32) || decide (x.1.sm.length = 1025))) := by
  refine .st1 6 T.mix T.c158 ?_;intro ts hlen t0;unfold fn158
  have bx : ∀ {N : Nat}, boxF (.agg (trRow x)) N = some (.ptr N 0, .push (.cells (trRow x) true false)) := fun {N} => tr_box hx.one
  have l9 : ldV (trRow x)[9]? = some (x.2, .keep) := rfl
  refine Rs (A3 @t0 @bx @l9) ?_
  refine WF.ce T.c19 (r19 T (hx.ext Xx)) fun g2 => ?_
  exact Rs @t0 trivial
set_option maxHeartbeats 4000000 in
theorem r87 {nm : List UInt8} {s : AV} {L : List (Trc × AV)} (o : ShOk h L s) (hl : L.length < 2 ^ 63) : RCall P 87 [.agg [.str nm, s]] h (fun v _ => ∃ b : Bool, v = .bool b ∧ (b = true → ShtP nm L)) := by
  refine .st1 34 T.mix T.c87 ?_;intro ts hlen t0;unfold fn87
  have bx := @sh_box nm s o.sl.one
  have ln : ldV (shC nm s)[0]? = some (.str nm, .keep) := rfl
  have ls : ldV (shC nm s)[1]? = some (s, .keep) := rfl
  have hlm := fun G => o.sl.lenm G
  refine Rs (A2 @t0 @bx) ?_
  obtain ⟨Y, hY⟩ : ∃ Y, Y = h ++ [ABlk.cells (shC nm s) true false] := ⟨_, rfl⟩
  have eY : Ext h Y := by rw [hY]; exact Xx
  have m1 : Y[h.length]? = some (.cells (shC nm s) true false) := by rw [hY]; exact at_new
  obtain ⟨b1, hb1⟩ : ∃ b, b = h.length := ⟨_, rfl⟩
  rw [← hb1] at m1
  rw [← hb1, ← hY]
  clear hb1 hY
  have l1 := @ldx _ _ _ m1
  by_cases h60 : 60 < nm.length
  · have d1 : decide ((60 : Int) < (nm.length : Int)) = true := decide_eq_true (by omega)
    repeat (first | simp (maxSteps := 1000000) only [wset, hset, dset, bset, Nat.reduceAdd, Nat.reduceMul, Nat.reduceLeDiff, Nat.reduceEqDiff, pset, hlen, if_false, if_true, t0, l1, ln, d1] | simp (maxSteps := 1000000) (disch := first | (simp only [List.length_append, List.length_cons, List.length_nil] <;> omega) | rfl | omega | fail) only [kset, wset, hset, dset, bset, Nat.reduceAdd, Nat.reduceMul, Nat.reduceLeDiff, Nat.reduceEqDiff, pset, hlen, if_false, if_true, t0, l1, ln, d1])
    exact ⟨eY, _, rfl, fun q => by cases q⟩
  have d1 : decide ((60 : Int) < (nm.length : Int)) = false := decide_eq_false (by omega)
  have main : L.length ≤ 65 → ∀ {ts : TS}, ts.length = 34 → slot ts 1 = .ptr b1 0 → slot ts 2 = .bool false → True := fun _ _ _ _ _ => trivial
  by_cases h6 : 6 < L.length
  · have d2 : decide ((6 : Int) < (L.length : Int)) = true := decide_eq_true (by omega)
    by_cases h65 : L.length = 65
    case neg =>
      have d3 : decide ((L.length : Int) ≠ 65) = true := decide_eq_true (by omega)
      repeat (first | simp (maxSteps := 1000000) only [wset, hset, dset, bset, Nat.reduceAdd, Nat.reduceMul, Nat.reduceLeDiff, Nat.reduceEqDiff, pset, hlen, if_false, if_true, t0, l1, ln, ls, hlm, d1, d2, d3] | simp (maxSteps := 1000000) (disch := first | (simp only [List.length_append, List.length_cons, List.length_nil] <;> omega) | rfl | omega | fail) only [kset, wset, hset, dset, bset, Nat.reduceAdd, Nat.reduceMul, Nat.reduceLeDiff, Nat.reduceEqDiff, pset, hlen, if_false, if_true, t0, l1, ln, ls, hlm, d1, d2, d3])
      exact ⟨eY, _, rfl, fun q => by cases q⟩
    have d3 : decide ((L.length : Int) ≠ 65) = false := decide_eq_false (by omega)
    repeat (first | simp (maxSteps := 1000000) only [wset, hset, dset, bset, Nat.reduceAdd, Nat.reduceMul, Nat.reduceLeDiff, Nat.reduceEqDiff, pset, hlen, if_false, if_true, t0, l1, ln, ls, hlm, d1, d2, d3] | simp (maxSteps := 1000000) (disch := first | (simp only [List.length_append, List.length_cons, List.length_nil] <;> omega) | rfl | omega | fail) only [kset, wset, hset, dset, bset, Nat.reduceAdd, Nat.reduceMul, Nat.reduceLeDiff, Nat.reduceEqDiff, pset, hlen, if_false, if_true, t0, l1, ln, ls, hlm, d1, d2, d3])
    refine WL.inv T.mix (fun n ts K => ∃ k : Nat, k ≤ L.length ∧ n = L.length - k ∧ Ext Y K ∧ (∀ x ∈ L.take k, x.1.sm.length ≤ 1025) ∧ ts.length = 34 ∧ slot ts 1 = .ptr b1 0 ∧ slot ts 3 = .int .i64 k) L.length
      ⟨0, by omega, rfl, .refl _, fun x hx => by simp at hx, Sn, Sw, Swr⟩ ?_
    clear hlen t0
    rintro _ ts K ⟨k, hk, rfl, eK, hw, hlen, t1, t3⟩
    have oK := o.ext (eY.trans eK)
    have l1 := @ldx _ _ _ (eK.some m1)
    by_cases hlt : k < L.length
    case neg =>
      have e3 := dltF hlt
      have e4 : k = L.length := by omega
      rw [e4, List.take_length] at hw
      refine Rs (A6 @t1 @t3 @l1 @ls @hlm @e3) ?_
      exact ⟨eY.trans eK, _, rfl, fun _ => ⟨by omega, by omega, hw⟩⟩
    have e3 := dltT hlt
    have e5 := wrapN (n := k) (by omega)
    have ix := oK.sl.ixm (kk := .i64) hlt
    obtain ⟨x, hx⟩ : ∃ x, x = L[k] := ⟨_, rfl⟩
    have hmem : x ∈ L := by rw [hx]; exact List.getElem_mem _
    have ld : ∀ {kk : AHeap}, Ext K kk → loadF (some 10) (elp s 10 k) (fun b => kk[b]?) = some (.agg (trRow x), .keep) := fun {kk} e => by rw [hx]; exact oK.sl.ldm hlt e
    have htk : L.take (k + 1) = L.take k ++ [x] := by rw [hx]; exact List.take_succ_eq_append_getElem hlt
    refine Rs (A8 @t1 @t3 @l1 @ls @hlm @e3 @ix @ld) ?_
    refine WF.ce T.c158 (r158 T (oK.all x hmem)) fun g2 => ?_
    have eG : Ext K (K ++ g2) := Xx
    cases hb : (decide (x.1.sm.length ≤ 32) || decide (x.1.sm.length = 1025)) with
    | false =>
      refine Rs (A3 @t1 @t3 @Bool.not_false) ?_
      exact ⟨eY.trans (eK.trans eG), _, rfl, fun q => by cases q⟩
    | true =>
      refine Rs (A4 @t1 @t3 @Bool.not_true @e5) ?_
      refine ⟨L.length - (k + 1), by omega, k + 1, by omega, rfl, eK.trans eG, fun y hy => ?_, rfl⟩
      rw [htk] at hy
      rcases List.mem_append.1 hy with hy | hy
      · exact hw y hy
      · rw [List.mem_singleton.1 hy]
        simp only [Bool.or_eq_true, decide_eq_true_eq] at hb
        omega
  · have d2 : decide ((6 : Int) < (L.length : Int)) = false := decide_eq_false (by omega)
    repeat (first | simp (maxSteps := 1000000) only [wset, hset, dset, bset, Nat.reduceAdd, Nat.reduceMul, Nat.reduceLeDiff, Nat.reduceEqDiff, pset, hlen, if_false, if_true, t0, l1, ln, ls, hlm, d1, d2] | simp (maxSteps := 1000000) (disch := first | (simp only [List.length_append, List.length_cons, List.length_nil] <;> omega) | rfl | omega | fail) only [kset, wset, hset, dset, bset, Nat.reduceAdd, Nat.reduceMul, Nat.reduceLeDiff, Nat.reduceEqDiff, pset, hlen, if_false, if_true, t0, l1, ln, ls, hlm, d1, d2])
    refine WL.inv T.mix (fun n ts K => ∃ k : Nat, k ≤ L.length ∧ n = L.length - k ∧ Ext Y K ∧ (∀ x ∈ L.take k, x.1.sm.length ≤ 1025) ∧ ts.length = 34 ∧ slot ts 1 = .ptr b1 0 ∧ slot ts 3 = .int .i64 k) L.length
      ⟨0, by omega, rfl, .refl _, fun x hx => by simp at hx, Sn, Sw, Swr⟩ ?_
    clear hlen t0
    rintro _ ts K ⟨k, hk, rfl, eK, hw, hlen, t1, t3⟩
    have oK := o.ext (eY.trans eK)
    have l1 := @ldx _ _ _ (eK.some m1)
    by_cases hlt : k < L.length
    case neg =>
      have e3 := dltF hlt
      have e4 : k = L.length := by omega
      rw [e4, List.take_length] at hw
      refine Rs (A6 @t1 @t3 @l1 @ls @hlm @e3) ?_
      exact ⟨eY.trans eK, _, rfl, fun _ => ⟨by omega, by omega, hw⟩⟩
    have e3 := dltT hlt
    have e5 := wrapN (n := k) (by omega)
    have ix := oK.sl.ixm (kk := .i64) hlt
    obtain ⟨x, hx⟩ : ∃ x, x = L[k] := ⟨_, rfl⟩
    have hmem : x ∈ L := by rw [hx]; exact List.getElem_mem _
    have ld : ∀ {kk : AHeap}, Ext K kk → loadF (some 10) (elp s 10 k) (fun b => kk[b]?) = some (.agg (trRow x), .keep) := fun {kk} e => by rw [hx]; exact oK.sl.ldm hlt e
    have htk : L.take (k + 1) = L.take k ++ [x] := by rw [hx]; exact List.take_succ_eq_append_getElem hlt
    refine Rs (A8 @t1 @t3 @l1 @ls @hlm @e3 @ix @ld) ?_
    refine WF.ce T.c158 (r158 T (oK.all x hmem)) fun g2 => ?_
    have eG : Ext K (K ++ g2) := Xx
    cases hb : (decide (x.1.sm.length ≤ 32) || decide (x.1.sm.length = 1025)) with
    | false =>
      refine Rs (A3 @t1 @t3 @Bool.not_false) ?_
      exact ⟨eY.trans (eK.trans eG), _, rfl, fun q => by cases q⟩
    | true =>
      refine Rs (A4 @t1 @t3 @Bool.not_true @e5) ?_
      refine ⟨L.length - (k + 1), by omega, k + 1, by omega, rfl, eK.trans eG, fun y hy => ?_, rfl⟩
      rw [htk] at hy
      rcases List.mem_append.1 hy with hy | hy
      · exact hw y hy
      · rw [List.mem_singleton.1 hy]
        simp only [Bool.or_eq_true, decide_eq_true_eq] at hb
        omega
set_option maxHeartbeats 4000000 in
theorem r167 {x y : Trc × AV} (hx : IsSl h x.2 1 (x.1.sm.map fltR)) (hy : IsSl h y.2 1 (y.1.sm.map fltR)) (e : TrEq x.1 y.1) (hl : x.1.sm.length < 2 ^ 40) : RCall P 167 [.agg (trRow x), .agg (trRow y)] h (fun v _ => v = .bool true) := by
  refine .st2 24 T.mix T.c167 ?_;intro ts hlen t0 t1;unfold fn167
  have bx : ∀ {N : Nat}, boxF (.agg (trRow x)) N = some (.ptr N 0, .push (.cells (trRow x) true false)) := fun {N} => tr_box hx.one
  have b2 : ∀ {N : Nat}, boxF (.agg (trRow y)) N = some (.ptr N 0, .push (.cells (trRow y) true false)) := fun {N} => tr_box hy.one
  have la := @tr_l8 x
  have lb : ldB (some 8) 0 (.cells (trRow y) true false) = some (.agg (hdR x.1.hd), .keep) := by rw [e.hd]; rfl
  have la8 : ldV (trRow x)[8]? = some (.bool x.1.hole, .keep) := rfl
  have lb8 : ldV (trRow y)[8]? = some (.bool x.1.hole, .keep) := by rw [e.hole]; rfl
  have la9 : ldV (trRow x)[9]? = some (x.2, .keep) := rfl
  have lb9 : ldV (trRow y)[9]? = some (y.2, .keep) := rfl
  have q1 := @hd_same x.1.hd
  have q2 : eqvK (.one .b) (.bool x.1.hole) (.bool x.1.hole) = some true := by rw [eq_1b]; simp
  refine Rs (A12 @t0 @t1 @bx @b2 @la @lb @q1 @la8 @lb8 @q2 @la9 @lb9) ?_
  refine WF.ce T.c58 (r58 T (hx.ext Xx) (hy.ext Xx) hl e.ga e.gb) fun g2 => ?_
  have d : decide (x.1.sm.map gridN = y.1.sm.map gridN) = true := decide_eq_true e.nn
  exact Rs (A2 @t0 @d) trivial
set_option maxHeartbeats 4000000 in
theorem r94 {nm : List UInt8} {s t : AV} {A B : List (Trc × AV)} (oa : ShOk h A s) (ob : ShOk h B t) (z : ShSz A) (e : ShEq A B) : RCall P 94 [.agg [.str nm, s], .agg [.str nm, t]] h (fun v _ => v = .bool true) := by
  refine .st2 39 T.mix T.c94 ?_;intro ts hlen t0 t1;unfold fn94
  have bx := @sh_box nm s oa.sl.one
  have b2 := @sh_box nm t ob.sl.one
  have ln : ldV (shC nm s)[0]? = some (.str nm, .keep) := rfl
  have ls : ldV (shC nm s)[1]? = some (s, .keep) := rfl
  have ln2 : ldV (shC nm t)[0]? = some (.str nm, .keep) := rfl
  have ls2 : ldV (shC nm t)[1]? = some (t, .keep) := rfl
  have hlm := fun G => oa.sl.lenm G
  have hlm2 := fun G => ob.sl.lenm G
  have zl := z.l
  have el := e.l
  refine Rs (A4 @t0 @t1 @bx @b2) ?_
  obtain ⟨Y, hY⟩ : ∃ Y, Y = h ++ [ABlk.cells (shC nm s) true false] ++ [ABlk.cells (shC nm t) true false] := ⟨_, rfl⟩
  have eY : Ext h Y := by rw [hY]; exact Xx
  have m1 : Y[h.length]? = some (.cells (shC nm s) true false) := by rw [hY]; exact at_1
  have m2 : Y[(h ++ [ABlk.cells (shC nm s) true false]).length]? = some (.cells (shC nm t) true false) := by rw [hY]; exact at_new
  obtain ⟨c1, hc1⟩ : ∃ b, b = h.length := ⟨_, rfl⟩
  obtain ⟨c2, hc2⟩ : ∃ b, b = (h ++ [ABlk.cells (shC nm s) true false]).length := ⟨_, rfl⟩
  rw [← hc1] at m1
  rw [← hc2] at m2
  rw [← hc1, ← hc2, ← hY]
  clear hc1 hc2 hY
  have l1 := @ldx _ _ _ m1
  have l2 := @ldx _ _ _ m2
  have dn : decide (nm ≠ nm) = false := decide_eq_false fun z => z rfl
  have dl : decide ((A.length : Int) ≠ (B.length : Int)) = false := decide_eq_false fun z => z (by rw [el])
  repeat (first | simp (maxSteps := 1000000) only [wset, hset, dset, bset, Nat.reduceAdd, Nat.reduceMul, Nat.reduceLeDiff, Nat.reduceEqDiff, pset, hlen, if_false, if_true, t0, t1, l1, l2, ln, ln2, ls, ls2, hlm, hlm2, dn, dl] | simp (maxSteps := 1000000) (disch := first | (simp only [List.length_append, List.length_cons, List.length_nil] <;> omega) | rfl | omega | fail) only [kset, wset, hset, dset, bset, Nat.reduceAdd, Nat.reduceMul, Nat.reduceLeDiff, Nat.reduceEqDiff, pset, hlen, if_false, if_true, t0, t1, l1, l2, ln, ln2, ls, ls2, hlm, hlm2, dn, dl])
  refine WL.inv T.mix (fun n ts K => ∃ k : Nat, k ≤ A.length ∧ n = A.length - k ∧ Ext Y K ∧ ts.length = 39 ∧ slot ts 2 = .ptr c1 0 ∧ slot ts 3 = .ptr c2 0 ∧ slot ts 5 = .int .i64 k) A.length
    ⟨0, by omega, rfl, .refl _, Sn, Sw, Sw, Swr⟩ ?_
  clear hlen t0 t1
  rintro _ ts K ⟨k, hk, rfl, eK, hlen, t2, t3, t5⟩
  have l1 := @ldx _ _ _ (eK.some m1)
  have l2 := @ldx _ _ _ (eK.some m2)
  have oA := oa.ext (eY.trans eK)
  have oB := ob.ext (eY.trans eK)
  by_cases hlt : k < A.length
  case neg =>
    have e3 := dltF hlt
    refine Rs (A9 @t2 @t3 @t5 @l1 @l2 @ls @ls2 @hlm @e3) ?_
    exact ⟨eY.trans eK, trivial⟩
  have e3 := dltT hlt
  have e5 := wrapN (n := k) (by omega)
  have hlt2 : k < B.length := by omega
  have ix := oA.sl.ixm (kk := .i64) hlt
  have iy := oB.sl.ixm (kk := .i64) hlt2
  have te := e.t k hlt hlt2
  obtain ⟨x, hx⟩ : ∃ x, x = A[k] := ⟨_, rfl⟩
  obtain ⟨y, hy⟩ : ∃ y, y = B[k] := ⟨_, rfl⟩
  rw [← hx, ← hy] at te
  have hmx : x ∈ A := by rw [hx]; exact List.getElem_mem _
  have hmy : y ∈ B := by rw [hy]; exact List.getElem_mem _
  have ldx' : ∀ {kk : AHeap}, Ext K kk → loadF (some 10) (elp s 10 k) (fun b => kk[b]?) = some (.agg (trRow x), .keep) := fun {kk} e => by rw [hx]; exact oA.sl.ldm hlt e
  have ldy' : ∀ {kk : AHeap}, Ext K kk → loadF (some 10) (elp t 10 k) (fun b => kk[b]?) = some (.agg (trRow y), .keep) := fun {kk} e => by rw [hy]; exact oB.sl.ldm hlt2 e
  refine Rs (A13 @t2 @t3 @t5 @l1 @l2 @ls @ls2 @hlm @e3 @ix @iy @ldx' @ldy') ?_
  refine WF.ce T.c167 (r167 T (oA.all x hmx) (oB.all y hmy) te (z.s x hmx)) fun g2 => ?_
  refine Rs (A5 @t2 @t3 @t5 @Bool.not_true @e5) ?_
  exact ⟨A.length - (k + 1), by omega, k + 1, by omega, rfl, eK.trans ⟨g2, rfl⟩, rfl⟩
end
end Go.Abs
namespace Go.Abs
theorem atZ_gen {n : Nat} {f : Nat → Int} {k : Nat} (h : k < n) : atZ (genL n f) (k : Int) = f k := by
  rw [atZ_at (by rw [genL_len]; exact h)]
  simp [genL]
theorem list_atZ {A B : List Int} (h : A.length = B.length) (hk : ∀ k : Nat, k < A.length → atZ A k = atZ B k) : A = B := by
  refine List.ext_getElem h fun k h1 h2 => ?_
  have := hk k h1
  rwa [atZ_at h1, atZ_at h2] at this
end Go.Abs
namespace Go.Abs
end Go.Abs
namespace Go.Abs
end Go.Abs
namespace Go.Abs
set_option maxRecDepth 10000
attribute [local irreducible] WP WC WE WB WR WF WL WG WRg WQ
section
variable {P : Program} (T : Tbl P) {h : AHeap}
include T
end
end Go.Abs
namespace Go.Abs
set_option maxRecDepth 10000
attribute [local irreducible] WP WC WE WB WR WF WL WG WRg WQ
section
variable {P : Program} (T : Tbl P) {h : AHeap}
include T
end
end Go.Abs
namespace Go.Abs
set_option maxRecDepth 10000
attribute [local irreducible] WP WC WE WB WR WF WL WG WRg WQ
section
variable {P : Program} (T : Tbl P) {h : AHeap}
include T
end
end Go.Abs
namespace Go.Abs
set_option maxRecDepth 10000
attribute [local irreducible] WP WC WE WB WR WF WL WG WRg WQ
section
variable {P : Program} (T : Tbl P) {h : AHeap}
include T
end
end Go.Abs
namespace Go.Abs
set_option maxRecDepth 10000
attribute [local irreducible] WP WC WE WB WR WF WL WG WRg WQ
section
variable {P : Program} (T : Tbl P) {h : AHeap}
include T
end
end Go.Abs
namespace Go.Abs
set_option maxRecDepth 10000
attribute [local irreducible] WP WC WE WB WR WF WL WG WRg WQ
section
variable {P : Program} (T : Tbl P) {h : AHeap}
include T
end
end Go.Abs
namespace Go.Abs
end Go.Abs
namespace Go.Abs
set_option maxRecDepth 10000
attribute [local irreducible] WP WC WE WB WR WF WL WG WRg WQ
section
variable {P : Program} (T : Tbl P) {h : AHeap}
include T
end
end Go.Abs
namespace Go.Abs
open Ieee
set_option maxRecDepth 10000
attribute [local irreducible] WP WC WE WB WR WF WL WG WRg WQ
section
variable {P : Program} (T : Tbl P) {h : AHeap}
include T
set_option maxHeartbeats 1000000 in
theorem q22 {s : AV} {l : List Nat} (hs : IsSl h s 1 (l.map fltR)) (hl : l.length < 2 ^ 40) : RCall P 22 [s] h (fun v h' => Fr h.length h' v 1 (l.map fltR)) := by
  refine .st1 6 T.mix T.c22 ?_;intro ts hlen t0;unfold fn22
  refine Rs @t0 ?_
  refine WR.appz (N := h.length) (w := 4) at_new (Nat.le_refl _) (hs.ext Xx) (by rw [List.length_map]; omega) fun a1 y1 f1 => ?_
  have p1 := f1.isSl.one
  refine Rs (A2 @t0 @p1) ?_
  exact f1
end
end Go.Abs
namespace Go.Abs
def Apart (s t : AV) : Prop := ∀ b o n e b' o' n' e', s = .slice b o n e → t = .slice b' o' n' e' → b ≠ b'
theorem Apart.symm {s t : AV} (a : Apart s t) : Apart t s := fun _ _ _ _ _ _ _ _ q1 q2 z => a _ _ _ _ _ _ _ _ q2 q1 z.symm
theorem IsSl.apart_new {K : AHeap} {s : AV} {es : Nat} {cs : List (List AV)} (o : IsSl K s es cs) {b o' n e : Nat} (hb : K.length ≤ b) : Apart s (.slice b o' n e) := fun _ _ _ _ _ _ _ _ q1 q2 => by
  cases q2
  have := o.lt q1
  omega
theorem IsSl.apart_fr {h K : AHeap} {s t : AV} {es es' : Nat} {cs cs' : List (List AV)} {M : Nat} (o : IsSl h s es cs) (f : Fr M K t es' cs') (hM : h.length ≤ M) : Apart s t := fun _ _ _ _ _ _ _ _ q1 q2 z => by
  have h1 := o.lt q1
  have h2 := (f.lt q2).1
  omega
theorem Fr.apart_fr {K K2 : AHeap} {s t : AV} {es es' : Nat} {cs cs' : List (List AV)} {M M2 : Nat} (o : Fr M K s es cs) (f : Fr M2 K2 t es' cs') (hM : K.length ≤ M2) : Apart s t := fun _ _ _ _ _ _ _ _ q1 q2 z => by
  have h1 := (o.lt q1).2
  have h2 := (f.lt q2).1
  omega
def NotB (b : Nat) (s : AV) : Prop := ∀ b0 o n e, s = .slice b0 o n e → b0 ≠ b
theorem IsSl.notB {h : AHeap} {s : AV} {es : Nat} {cs : List (List AV)} (o : IsSl h s es cs) {b : Nat} (hb : h.length ≤ b) : NotB b s := fun _ _ _ _ q z => by
  have := o.lt q
  omega
theorem Fr.notB {M : Nat} {h : AHeap} {s : AV} {es : Nat} {cs : List (List AV)} (o : Fr M h s es cs) {b : Nat} (hb : b < M) : NotB b s := fun _ _ _ _ q z => by
  have := (o.lt q).1
  omega
theorem Fr.up {N M : Nat} {h : AHeap} {b n es : Nat} {cs : List (List AV)} (o : Fr N h (.slice b 0 n es) es cs) (hM : M ≤ b) : Fr M h (.slice b 0 n es) es cs := by
  cases o with
  | mk hN hb he => exact .mk hM hb he
theorem Fr.setn {N : Nat} {h : AHeap} {s : AV} {es : Nat} {cs : List (List AV)} (o : Fr N h s es cs) {b : Nat} {X : ABlk} (hb : NotB b s) : Fr N (h.set b X) s es cs := by
  cases o with
  | nil => exact .nil
  | mk hN h1 he => exact .mk hN (set_ne' (fun z => hb _ _ _ _ rfl z.symm) h1) he
theorem IsSl.setb {h : AHeap} {s : AV} {es : Nat} {cs : List (List AV)} (o : IsSl h s es cs) {b : Nat} {X : ABlk} (hb : NotB b s) : IsSl (h.set b X) s es cs := by
  cases o with
  | nil => exact .nil
  | mk h1 hf ho he => exact .mk (set_ne' (fun z => hb _ _ _ _ rfl z.symm) h1) hf ho he
structure ShGr (N M : Nat) (K : AHeap) (b : Nat) (nm : List UInt8) (L : List (Trc × AV)) (out : AV) : Prop where
  m : K[b]? = some (.cells (shC nm out) true false)
  fr : Fr M K out 10 (L.map trRow)
  all : ∀ x ∈ L, IsSl K x.2 1 (x.1.sm.map fltR)
  ns : ∀ x ∈ L, Apart x.2 out
  nx : ∀ x ∈ L, ∀ c, N ≤ c → c < M → NotB c x.2
theorem ShGr.ext {N M : Nat} {K k : AHeap} {b : Nat} {nm : List UInt8} {L : List (Trc × AV)} {out : AV} (o : ShGr N M K b nm L out) (e : Ext K k) : ShGr N M k b nm L out := ⟨e.some o.m, o.fr.ext e, fun x hx => (o.all x hx).ext e, o.ns, o.nx⟩
theorem ShGr.nil {N M : Nat} {K : AHeap} {b : Nat} {nm : List UInt8} (m : K[b]? = some (.cells (shC nm .nilSlice) true false)) : ShGr N M K b nm [] .nilSlice := ⟨m, .nil, fun x hx => by simp at hx, fun x hx => by simp at hx, fun x hx => by simp at hx⟩
theorem sh_st1 {K : AHeap} {b : Nat} {nm : List UInt8} {s s' : AV} (m : K[b]? = some (.cells (shC nm s) true false)) (os : s'.one = true) : storeF 1 (.ptr b 1) s' (fun z => K[z]?) = some (undefA, .set b (.cells (shC nm s') true false)) := by
  rw [storeF_at m, stB_one os (by show 1 + 1 ≤ 2; omega)]; rfl
theorem ShGr.grow {P : Program} {ro : Option Nat → Prop} {ks : List Kt} {ts : TS} {Q : Ex → TS → AHeap → Prop} {d : Option Nat} {l : List IOp} {h Y : AHeap} {M b : Nat} {nm : List UInt8} {L : List (Trc × AV)} {out : AV} (o : ShGr h.length M Y b nm L out) (eY : Ext h Y) (h1 : h.length ≤ M) (h2 : M ≤ Y.length) (hb : h.length ≤ b) (hbM : b < M) {x : Trc × AV} (hx : IsSl Y x.2 1 (x.1.sm.map fltR)) (hap : Apart x.2 out) (hxb : ∀ c, h.length ≤ c → c < M → NotB c x.2) (hl : L.length < 2 ^ 38)
    (C : ∀ (W : AHeap) (out' : AV), Ext h W → M ≤ W.length → out'.one = true → W[b]? = some (.cells (shC nm out) true false) → ShGr h.length M (W.set b (.cells (shC nm out') true false)) b nm (L ++ [x]) out' → Ext h (W.set b (.cells (shC nm out') true false)) → (∀ c k, c < M → c ≠ b → Y[c]? = some k → (W.set b (.cells (shC nm out') true false))[c]? = some k) → (∀ c, c < Y.length → c ≠ b → (∀ b0 o n e, out = .slice b0 o n e → c ≠ b0) → (W.set b (.cells (shC nm out') true false))[c]? = Y[c]?) → (∀ es (s : AV) (cs : List (List AV)), IsSl Y s es cs → Apart s out') → WP P ro l ks (put ts d out') W Q) :
    WR P ro (appT 10 96 out (.slice Y.length 0 1 10) (fun z => (Y ++ [ABlk.cells (trRow x) true true])[z]?) (Y ++ [ABlk.cells (trRow x) true true]).length) false d l ks ts (Y ++ [ABlk.cells (trRow x) true true]) Q := by
  have hyz : IsSl (Y ++ [ABlk.cells (trRow x) true true]) (AV.slice Y.length 0 1 10) 10 [trRow x] := by
    have := (Fr.push (N := 0) (es := 10) (h := Y) (Nat.zero_le _) [trRow x] (fun y hy => by rw [List.mem_singleton] at hy; rw [hy]; rfl)).isSl
    simpa using this
  refine WR.app1 (h0 := h) (cs := L.map trRow) (ys := [trRow x]) ((o.fr.low h1).app _) hyz (by decide) (by simp) (by rw [List.length_map, List.length_singleton]; omega) (eY.trans (Ext.app _ (Ext.refl _))) ?_
  intro g' hl' hff hkp
  have hWl : (h ++ g').length = Y.length + 2 := by rw [hl', List.length_append, List.length_singleton]
  have keep : ∀ c, c < Y.length → (∀ b0 o n e, out = .slice b0 o n e → c ≠ b0) → (h ++ g')[c]? = Y[c]? := fun c hc hn => by
    rw [hkp c (by rw [List.length_append]; omega) hn, List.getElem?_append_left hc]
  have lowb : ∀ c, c < M → ∀ b0 o' n e, out = .slice b0 o' n e → c ≠ b0 := fun c hc b0 o' n e q z => by
    have := (o.fr.lt q).1
    omega
  have hbY : b < Y.length := by omega
  have mb : (h ++ g')[b]? = some (.cells (shC nm out) true false) := by rw [keep b hbY (lowb b hbM)]; exact o.m
  have hrow : L.map trRow ++ [trRow x] = (L ++ [x]).map trRow := by rw [List.map_append]; rfl
  rw [hrow] at hff ⊢
  have hff := hff.up (M := M) (by rw [List.length_append]; omega)
  obtain ⟨out', ho⟩ : ∃ s, s = AV.slice (Y ++ [ABlk.cells (trRow x) true true]).length 0 ((L ++ [x]).map trRow).length 10 := ⟨_, rfl⟩
  have one' : out'.one = true := by rw [ho]; rfl
  have apn : ∀ {es : Nat} {s : AV} {cs : List (List AV)}, IsSl Y s es cs → Apart s out' := fun {es s cs} q => by
    rw [ho]; exact q.apart_new (by rw [List.length_append]; omega)
  rw [← ho] at hff ⊢
  obtain ⟨W, hW⟩ : ∃ W, W = h ++ g' := ⟨_, rfl⟩
  rw [← hW] at hff hWl keep mb ⊢
  have eW : Ext h W := ⟨g', hW⟩
  have nb : NotB b out' := hff.notB hbM
  have keepc : ∀ c, c < Y.length → c ≠ b → (∀ b0 o n e, out = .slice b0 o n e → c ≠ b0) → (W.set b (.cells (shC nm out') true false))[c]? = Y[c]? := fun c hc hne hn => by
    rw [List.getElem?_set_ne hne.symm, keep c hc hn]
  have hset : ∀ es (s : AV) (cs : List (List AV)), IsSl Y s es cs → Apart s out → NotB b s → IsSl (W.set b (.cells (shC nm out') true false)) s es cs := fun es s cs hs ha hsb => by
    cases hs with
    | nil => exact .nil
    | mk hb' hf ho' he =>
      have hlt := (List.getElem?_eq_some_iff.1 hb').1
      exact .mk ((keepc _ hlt (hsb _ _ _ _ rfl) fun b0 o2 n2 e2 q2 => ha _ _ _ _ _ _ _ _ rfl q2).trans hb') hf ho' he
  refine C W out' eW (by omega) one' mb ⟨set_eq' mb, hff.setn nb, fun y hy => ?_, fun y hy => ?_, fun y hy => ?_⟩ (ext_setG eW hb) (fun c k hc hne hk => (keepc c (by omega) hne (lowb c hc)).trans hk) keepc (fun es s cs q => apn q)
  · rcases List.mem_append.1 hy with hy | hy
    · exact hset _ _ _ (o.all y hy) (o.ns y hy) (o.nx y hy b hb hbM)
    · rw [List.mem_singleton.1 hy]; exact hset _ _ _ hx hap (hxb b hb hbM)
  · rcases List.mem_append.1 hy with hy | hy
    · exact apn (o.all y hy)
    · rw [List.mem_singleton.1 hy]; exact apn hx
  · rcases List.mem_append.1 hy with hy | hy
    · exact o.nx y hy
    · rw [List.mem_singleton.1 hy]; exact hxb
theorem fill_tr {x : Trc × AV} (hv : x.2.cells = [x.2]) : fillA [.int .i64 0, .int .i64 0, .int .i64 0, .int .i64 0, .int .i64 0, .int .i64 0, .int .i64 0, .int .i64 0, .bool false, .nilSlice] [(0, 8, .agg (hdR x.1.hd)), (8, 1, .bool x.1.hole), (9, 1, x.2)] = some (trRow x) := by
  unfold fillA
  rw [if_pos ⟨rfl, by decide⟩]
  unfold fillA
  rw [if_pos ⟨rfl, by show 8 + 1 ≤ 10; omega⟩]
  unfold fillA
  rw [hv, if_pos ⟨rfl, by show 9 + 1 ≤ 10; omega⟩]
  rfl
theorem bsl_tr {x : Trc × AV} (ox : x.2.one = true) {N : Nat} : bslF 10 1 (fillA [.int .i64 0, .int .i64 0, .int .i64 0, .int .i64 0, .int .i64 0, .int .i64 0, .int .i64 0, .int .i64 0, .bool false, .nilSlice] [(0, 10, .agg (trRow x))]) N = some (.slice N 0 1 10, .push (.cells (trRow x) true true)) := by
  have e : fillA [.int .i64 0, .int .i64 0, .int .i64 0, .int .i64 0, .int .i64 0, .int .i64 0, .int .i64 0, .int .i64 0, .bool false, .nilSlice] [(0, 10, .agg (trRow x))] = some (trRow x) := rfl
  rw [e]
  show (if (trRow x).all AV.one = true ∧ (trRow x).length = 1 * 10 then _ else _) = _
  rw [if_pos ⟨tr_one ox, rfl⟩]
  rfl
theorem st9 {K : AHeap} {b : Nat} {x : Trc × AV} {v : AV} {t : Trc} (m : K[b]? = some (.cells (trRow x) true false)) (ov : v.one = true) (hh : t.hd = x.1.hd) (ho : t.hole = x.1.hole) : storeF 1 (.ptr b 9) v (fun z => K[z]?) = some (undefA, .set b (.cells (trRow (t, v)) true false)) := by
  rw [storeF_at m, stB_one ov (by show 9 + 1 ≤ 10; omega)]
  obtain ⟨hd, hole, sm⟩ := t
  simp only at hh ho
  subst hh ho
  rfl
set_option maxRecDepth 10000
attribute [local irreducible] WP WC WE WB WR WF WL WG WRg WQ
section
variable {P : Program} (T : Tbl P) {h : AHeap}
include T
end
end Go.Abs
