/- Contracts: a response at one frequency, by the reference. No condition. · Contracts: the responses by the program. No condition. · Contracts: lists visited, gathered and sorted. No condition. · Sums over the places of lists; taps applied, and their adjoint: plain. No condition. · The prediction with the least error: plain. No condition. · A list less a multiple; quotients compared: plain. No condition. · Contracts: inner products by the program and by the reference. No condition. · Contracts: lists despiked, and weighted, by the program and by the reference. No condition. · Contracts: lists despiked, and weighted, by the program. No condition. · The law of despiked and weighted lists. No condition. · The shelf's structure of slices.Sort, laid plain for this program. No condition. · slices.Sort at []int by the shelf's contract, at the filter's seat. No condition. -/
import Derived.Test.YtbgldbmgjcgepaaGreatDoorFe10
import Derived.Test.YtbgldbmgjcgepaaGreatDoorFe3
import Derived.Shelf.Lays
import Derived.Tactics
import Derived.Test.YtbgldbmgjcgepaaGreatDoorProg
import Derived.Shelf.Sort.Plain
import Derived.Shelf.Slices.In.SortNone
import Derived.Test.YtbgldbmgjcgepaaGreatDoorFe7
set_option linter.all false
namespace Go.Abs

set_option maxRecDepth 10000
attribute [local irreducible] WP WC WE WB WR WF WL WG WRg WQ
section
variable {P : Program} (T : Tbl P) {h : AHeap}
include T
end
end Go.Abs
namespace Go.Abs

def z4 : List AV := [.cplx .f64 0 0, .cplx .f64 0 0, .cplx .f64 0 0, .cplx .f64 0 0]
set_option maxRecDepth 10000
attribute [local irreducible] WP WC WE WB WR WF WL WG WRg WQ
section
variable {P : Program} (T : Tbl P) {h : AHeap}
include T
end
end Go.Abs
namespace Go.Abs

theorem Fr.swap' {N : Nat} {A B g : AHeap} {s : AV} {es : Nat} {cs : List (List AV)} (hs : Fr N (A ++ g) s es cs) (hA : A.length = N) (hB : B.length = N) : Fr N (B ++ g) s es cs := by
  subst hA; exact hs.swap hB

theorem WF.valg {P : Program} {ro : Option Nat → Prop} {ks : List Kt} {ts : TS} {h h' : AHeap} {Q : Ex → TS → AHeap → Prop} {fv : AV} {args : List AV} {d : Option Nat} {l : List IOp} {v : AV} (H : SCallV P fv args h v h') (K : WP P ro l ks (put ts d v) h' Q) : WF P ro false fv args d l ks ts h Q :=
  ⟨v, h', H, fun hq => absurd hq (by simp), K⟩

def insI (x : Int) : List Int → List Int
  | [] => [x]
  | y :: ys => if x ≤ y then x :: y :: ys else y :: insI x ys
def sortI : List Int → List Int
  | [] => []
  | x :: xs => insI x (sortI xs)

theorem insI_perm (x : Int) : ∀ l, (insI x l).Perm (x :: l)
  | [] => .refl _
  | y :: ys => by
    unfold insI
    split
    · exact .refl _
    · exact ((insI_perm x ys).cons y).trans (.swap x y ys)
theorem sortI_perm : ∀ l, (sortI l).Perm l
  | [] => .refl _
  | x :: xs => (insI_perm x _).trans ((sortI_perm xs).cons x)
theorem insI_sorted (x : Int) : ∀ l, l.Pairwise (· ≤ ·) → (insI x l).Pairwise (· ≤ ·)
  | [], _ => by simp [insI]
  | y :: ys, h => by
    obtain ⟨h1, h2⟩ := List.pairwise_cons.1 h
    unfold insI
    split
    · rename_i hxy
      refine List.pairwise_cons.2 ⟨fun z hz => ?_, h⟩
      rcases List.mem_cons.1 hz with rfl | hz
      · exact hxy
      · exact Int.le_trans hxy (h1 z hz)
    · rename_i hxy
      refine List.pairwise_cons.2 ⟨fun z hz => ?_, insI_sorted x ys h2⟩
      rcases List.mem_cons.1 ((insI_perm x ys).mem_iff.1 hz) with rfl | hz
      · omega
      · exact h1 z hz
theorem sortI_sorted : ∀ l, (sortI l).Pairwise (· ≤ ·)
  | [] => .nil
  | x :: xs => insI_sorted x _ (sortI_sorted xs)
theorem sortI_eq (l : List Int) : (l.mergeSort fun x y => decide (x ≤ y)) = sortI l := by
  have hm : (l.mergeSort fun x y => decide (x ≤ y)).Pairwise (· ≤ ·) := by
    have := List.pairwise_mergeSort (le := fun x y : Int => decide (x ≤ y)) (fun a b c h1 h2 => by simp only [decide_eq_true_eq] at *; omega) (fun a b => by simp only [Bool.or_eq_true, decide_eq_true_eq]; omega) l
    exact this.imp (fun h => by simpa using h)
  exact List.Perm.eq_of_pairwise (le := (· ≤ ·)) (fun a b _ _ h1 h2 => by omega) hm (sortI_sorted l) ((List.mergeSort_perm l _).trans (sortI_perm l).symm)
theorem sortI_len (l : List Int) : (sortI l).length = l.length := (sortI_perm l).length_eq

/-- What the sort of integers does. -/
structure SrtOk (P : Program) : Prop where
  ok : ∀ {h : AHeap} {b o : Nat} {c : List AV} {tl : Bool} {zs : List Int}, h[b]? = some (.cells c true tl) → o + zs.length ≤ c.length → (c.drop o).take zs.length = zs.map (AV.int .i64) → zs.length < 4611686018427387904 →
    SCall P 189 [.slice b o zs.length 1] h (.tup []) (h.set b (.cells (setL c o ((sortI zs).map (AV.int .i64))) true tl))
  nil : ∀ {h : AHeap}, SCall P 189 [.nilSlice] h (.tup []) h

theorem intRows_flat (L : List Int) : (L.map intRow).flatten = L.map (AV.int .i64) := by
  induction L with
  | nil => rfl
  | cons x l ih => rw [List.map_cons, List.flatten_cons, ih]; rfl
theorem gsort {P : Program} (S : SrtOk P) {h0 g : AHeap} {s : AV} {L : List Int} (hs : Fr h0.length (h0 ++ g) s 1 (L.map intRow)) (hl : L.length < 4611686018427387904) :
    GCall P 189 [s] (h0 ++ g) (fun _ h' => ∃ g', g'.length = g.length ∧ h' = h0 ++ g' ∧ Fr h0.length h' s 1 ((sortI L).map intRow) ∧ (∀ b, (∀ b0 o n e, s = .slice b0 o n e → b ≠ b0) → (h0 ++ g')[b]? = (h0 ++ g)[b]?)) := by
  generalize hcs : L.map intRow = cs at hs
  cases hs with
  | nil =>
    have hL : L = [] := List.map_eq_nil_iff.1 hcs
    subst hL
    exact ⟨_, _, S.nil, g, rfl, rfl, .nil, fun _ _ => rfl⟩
  | @mk b _ _ tl hN hb he =>
    subst hcs
    have hfl := intRows_flat L
    have hlen : (L.map intRow).length = L.length := List.length_map _
    have h1 := S.ok (h := h0 ++ g) (b := b) (o := 0) (zs := L) (c := (L.map intRow).flatten) (tl := tl) hb (by rw [hfl]; simp) (by rw [hfl, List.drop_zero]; exact List.take_of_length_le (by simp)) hl
    have hset : setL (L.map intRow).flatten 0 ((sortI L).map (AV.int .i64)) = ((sortI L).map intRow).flatten := by
      have := setL_all ((sortI L).map (AV.int .i64)) (L.map intRow).flatten [] (by rw [hfl]; simp [sortI_len])
      rw [intRows_flat (sortI L)]
      simpa using this
    rw [hset, List.set_append_right _ _ hN] at h1
    have hbl : b < (h0 ++ g).length := (List.getElem?_eq_some_iff.1 hb).1
    rw [hlen]
    refine ⟨_, _, h1, _, by simp, rfl, ?_, fun b' hb' => ?_⟩
    · rw [← sortI_len L, show (sortI L).length = ((sortI L).map intRow).length from (List.length_map _).symm]
      refine Fr.mk hN (tl := tl) ?_ fun y hy => ?_
      · rw [List.getElem?_append_right hN, List.getElem?_set_self (by simp at hbl; omega)]
      · obtain ⟨z, -, rfl⟩ := List.mem_map.1 hy; rfl
    · have hne := hb' b 0 _ _ rfl
      rw [← List.set_append_right _ _ hN, List.getElem?_set_ne (Ne.symm hne)]

set_option maxRecDepth 10000
attribute [local irreducible] WP WC WE WB WR WF WL WG WRg WQ
section
variable {P : Program} (T : Tbl P) {h : AHeap}
include T
theorem iter_vals {b : Nat} {d : AV} {D : List Int} (m : h[b]? = some (.cells [d] true false)) (hd : IsSl h d 1 (D.map intRow)) (hl : D.length < 2 ^ 62) :
    Iter P 190 [] [.ptr b 0] (D.map fun x => [.int .i64 x]) (Ext h) := by
  refine ⟨fun l h1 J Dn hpre happ hstep hend h0 => GCall.of T.mix T.c190 ?_⟩
  have e1 := hpre 0 h1 h0
  unfold fn190
  have hlm := fun G => hd.lenm G
  have l0 : loadF none (.ptr b 0) (fun z => h1[z]?) = some (d, .keep) := by rw [loadF_at (e1.some m)]; rfl
  refine Ws (A2 @l0 @hlm) ?_
  refine WL.inv T.mix (fun n ts h' => ∃ k : Nat, k ≤ D.length ∧ n = D.length - k ∧ J k h' ∧ ts.length = 16 ∧ slot ts 0 = .func (.yield l) [] [] ∧ slot ts 5 = d ∧ slot ts 6 = .int .i64 D.length ∧ slot ts 7 = .int .i64 k) D.length
    ⟨0, by omega, rfl, h0, rfl, rfl, rfl, rfl, rfl⟩ ?_
  rintro _ ts h' ⟨k, hk, rfl, hJ, hlen, t0, t5, t6, t7⟩
  by_cases hlt : k < D.length
  · have e3 : (k : Int) < D.length := by omega
    have e2 := hpre _ _ hJ
    have l1 := hd.l1m hlt rfl e2
    have hix := hd.ixm (kk := .i64) hlt
    have hwk := wrapN (show k + 1 < 2 ^ 63 by omega)
    refine Rs (A8 @t0 @t5 @t6 @t7 @e3 @decide_true @hix @l1) ?_
    obtain ⟨bb, k', q1, q2⟩ := hstep k (by rw [List.length_map]; exact hlt) h' hJ
    rw [List.getElem_map] at q1
    refine WF.valg q1 ?_
    cases bb with
    | true =>
      refine Rs (A6 @t0 @t5 @t6 @t7 @Bool.not_true @hwk) ?_
      exact ⟨_, by omega, k + 1, by omega, rfl, q2, rfl⟩
    | false =>
      refine Rs (A5 @t0 @t5 @t6 @t7 @Bool.not_false) ?_
      exact q2
  · have e3 : ¬ (k : Int) < D.length := by omega
    have e4 : k = D.length := by omega
    refine Rs (A6 @t0 @t5 @t6 @t7 @e3 @decide_false) ?_
    refine hend h' ?_
    rw [List.length_map, ← e4]; exact hJ

theorem r137 {d : AV} {D : List Int} (hd : IsSl h d 1 (D.map intRow)) : RCall P 137 [d] h (fun v h' => ∃ b, v = .func (.func 190) [] [.ptr b 0] ∧ h'[b]? = some (.cells [d] true false)) := by
  refine .of T.mix T.c137 ?_
  unfold fn137
  refine Ws hd.one ?_
  exact ⟨_, rfl, at_new⟩

theorem r218 {b : Nat} {d : AV} {D : List Int} (m : h[b]? = some (.cells [d] true false)) (hd : IsSl h d 1 (D.map intRow)) (hl : D.length ≤ 2 ^ 40) :
    RCall P 218 [.nilSlice, .func (.func 190) [] [.ptr b 0]] h (fun v h' => Fr h.length h' v 1 (D.map intRow)) := by
  refine .of T.mix T.c218 ?_
  unfold fn218
  refine Wn ?_
  refine WC.iter T.mix T.c190 (a := []) (c := [.ptr b 0]) rfl (iter_vals T m hd (by omega)) (fun y hy => by obtain ⟨z, _, rfl⟩ := List.mem_map.1 hy; rfl)
    (fun i h' g => ∃ out, h' = h ++ [ABlk.cells [out] true false] ∧ Fr (h'.length + 1) (h' ++ [.dead] ++ g) out 1 ((D.take i).map intRow)) (fun _ _ _ => False)
    ⟨.nilSlice, rfl, .nil⟩ (fun i h' g g' hI => ?_) (fun i h' g X hl hI => ?_) (fun i hi h' g R B hl' hI => ?_) (fun e h' g hl hI => ?_)
  · obtain ⟨out, h1, h2⟩ := hI
    exact ⟨out, h1, by rw [← List.append_assoc]; exact h2.app _⟩
  · obtain ⟨out, rfl, _⟩ := hI
    exact Xx
  · obtain ⟨out, rfl, hfr⟩ := hI
    have hi' : i < D.length := by simpa using hi
    rw [List.getElem_map]
    simp only [wset, hset, dset, bset, Nat.reduceAdd, Nat.reduceMul, Nat.reduceLeDiff, Nat.reduceEqDiff, setArgs]
    refine ⟨_, g, rfl, by simp, ?_⟩
    refine Wn ?_
    have hN : ∀ (o' : AV) (X : ABlk), (h ++ [ABlk.cells [o'] true false] ++ [X]).length = (h ++ [ABlk.cells [out] true false]).length + 1 := fun o' X => by simp only [List.length_append, List.length_cons, List.length_nil]
    have hfrB := hfr.swap' (hN out .dead) (hN out B)
    refine WR.app1 (h0 := h ++ [ABlk.cells [out] true false] ++ [B]) (cs := (D.take i).map intRow) (ys := [intRow D[i]]) (by rw [hN]; exact hfrB.app _) (Fr.push (N := 0) (Nat.zero_le _) [intRow D[i]] (by simp)).isSl (by decide) (by simp) (by simp; omega) (by repeat first | exact Ext.refl _ | refine Ext.app _ ?_) ?_
    intro g' hl' hff hkp
    have hrow : (D.take i).map intRow ++ [intRow D[i]] = (D.take (i + 1)).map intRow := by
      rw [List.take_add_one, List.getElem?_eq_getElem hi', List.map_append]; rfl
    rw [hrow, hN] at hff
    rw [hrow]
    refine Wn ?_
    refine ⟨_, g', rfl, by simp only [List.length_append, List.length_cons, List.length_nil], ?_⟩
    refine ⟨_, rfl, ?_⟩
    have e9 : ∀ o', (h ++ [ABlk.cells [o'] true false]).length = (h ++ [ABlk.cells [out] true false]).length := fun o' => by simp only [List.length_append, List.length_cons, List.length_nil]
    rw [e9]
    exact hff.swap' (hN out B) (hN _ .dead)
  · by_cases hen : e = .normal
    · subst hen
      rw [if_pos rfl] at hI
      obtain ⟨out, rfl, hfr⟩ := hI
      rw [List.length_map, List.take_length] at hfr
      refine Wn ?_
      exact hfr.low (by simp; omega)
    · rw [if_neg hen] at hI
      exact hI.elim
theorem r188 {b : Nat} {d : AV} {D : List Int} (m : h[b]? = some (.cells [d] true false)) (hd : IsSl h d 1 (D.map intRow)) (hl : D.length ≤ 2 ^ 40) :
    RCall P 188 [.func (.func 190) [] [.ptr b 0]] h (fun v h' => Fr h.length h' v 1 (D.map intRow)) := by
  refine .of T.mix T.c188 ?_
  unfold fn188
  refine Wn ?_
  refine WF.res T.c218 (r218 T m hd hl) ?_
  intro v g1 hv
  refine Wn ?_
  exact hv
theorem r136 (S : SrtOk P) {b : Nat} {d : AV} {D : List Int} (m : h[b]? = some (.cells [d] true false)) (hd : IsSl h d 1 (D.map intRow)) (hl : D.length ≤ 2 ^ 40) :
    RCall P 136 [.func (.func 190) [] [.ptr b 0]] h (fun v h' => Fr h.length h' v 1 ((sortI D).map intRow)) := by
  refine .of T.mix T.c136 ?_
  unfold fn136
  refine Wn ?_
  refine WF.res T.c188 (r188 T m hd hl) ?_
  intro v g1 hv
  refine Wn ?_
  refine WF.gen T.c189 (gsort S hv (by omega)) ?_
  rintro _ _ ⟨g', hg', rfl, hff, -⟩
  refine Wn ?_
  exact hff
end
end Go.Abs
namespace Go.Abs

theorem atZ_gen {n : Nat} {f : Nat → Int} {k : Nat} (h : k < n) : atZ (genL n f) (k : Int) = f k := by
  rw [atZ_at (by rw [genL_len]; exact h)]
  simp [genL]
theorem list_atZ {A B : List Int} (h : A.length = B.length) (hk : ∀ k : Nat, k < A.length → atZ A k = atZ B k) : A = B := by
  refine List.ext_getElem h fun k h1 h2 => ?_
  have := hk k h1
  rwa [atZ_at h1, atZ_at h2] at this
end Go.Abs
namespace Go.Abs

end Go.Abs
namespace Go.Abs

end Go.Abs
namespace Go.Abs

theorem first3 {a b c : Int} (h : firstS [a, b, c] = 0) : a = 0 ∧ b = 0 ∧ c = 0 := by
  by_cases ha : a = 0
  · subst ha
    rw [firstS, if_pos rfl] at h
    obtain ⟨h1, h2⟩ := first2 h
    exact ⟨rfl, h1, h2⟩
  · rw [firstS, if_neg ha] at h; exact absurd h ha
set_option maxRecDepth 10000
attribute [local irreducible] WP WC WE WB WR WF WL WG WRg WQ
section
variable {P : Program} (T : Tbl P) {h : AHeap}
include T
end
end Go.Abs
namespace Go.Abs

theorem IsSl.nilq {h : AHeap} {s : AV} {es : Nat} {cs : List (List AV)} (hs : IsSl h s es cs) : (s = .nilSlice ∧ cs = []) ∨ (∀ neg : Bool, eqvF neg (eqvK .nilS s .nilSlice) = some (.bool neg)) := by
  cases hs with
  | nil => exact .inl ⟨rfl, rfl⟩
  | mk hb hf ho he => right; intro neg; cases neg <;> rfl
theorem nilq_nil : eqvF false (eqvK .nilS .nilSlice .nilSlice) = some (.bool true) := rfl

def med3 (a b c : Int) : Int := max (min a b) (min (max a b) c)
theorem sort3 (a b c : Int) : ∃ x z, sortI [a, b, c] = [x, med3 a b c, z] := by
  simp only [sortI, insI]
  unfold med3
  by_cases h1 : b ≤ c
  · rw [if_pos h1]
    simp only [insI]
    by_cases h2 : a ≤ b
    · rw [if_pos h2]; exact ⟨a, c, by congr 2; omega⟩
    · rw [if_neg h2]
      by_cases h3 : a ≤ c
      · rw [if_pos h3]; exact ⟨b, c, by congr 2; omega⟩
      · rw [if_neg h3]; exact ⟨b, a, by congr 2; omega⟩
  · rw [if_neg h1]
    simp only [insI]
    by_cases h2 : a ≤ c
    · rw [if_pos h2]; exact ⟨a, b, by congr 2; omega⟩
    · rw [if_neg h2]
      by_cases h3 : a ≤ b
      · rw [if_pos h3]; exact ⟨c, b, by congr 2; omega⟩
      · rw [if_neg h3]; exact ⟨c, a, by congr 2; omega⟩
theorem med_bd {a b c : Int} (ha : -16384 ≤ a ∧ a ≤ 16384) (hb : -16384 ≤ b ∧ b ≤ 16384) (hc : -16384 ≤ c ∧ c ≤ 16384) : -16384 ≤ med3 a b c ∧ med3 a b c ≤ 16384 := by unfold med3; omega
def medA (A : List Int) (i : Nat) : Int := med3 (atZ A ((i : Int) - 1)) (atZ A i) (atZ A ((i : Int) + 1))
def desF (A : List Int) (lim : Int) (i : Nat) : Int := if 0 < i ∧ i + 1 < A.length then min (max (atZ A i) (medA A i - lim)) (medA A i + lim) else atZ A i
def desL (A : List Int) (lim : Int) : List Int := genL A.length (desF A lim)
/-- As far as it is done. -/
def desK (A : List Int) (lim : Int) (k : Nat) : List Int := genL A.length fun i => if i < k then desF A lim i else atZ A i
theorem gen_eq {n : Nat} {f g : Nat → Int} (h : ∀ i, i < n → f i = g i) : genL n f = genL n g := List.map_congr_left fun i hi => h i (by simpa using hi)
theorem gen_self (A : List Int) : (genL A.length fun i : Nat => atZ A i) = A := list_atZ (genL_len _ _) fun k hk => by
  rw [genL_len] at hk
  rw [atZ_gen hk]
theorem gen_set {n k : Nat} {f : Nat → Int} {x : Int} : (genL n f).set k x = genL n fun i => if i = k then x else f i := by
  refine List.ext_getElem (by simp [genL_len]) fun j h1 h2 => ?_
  rw [genL_len] at h2
  rw [List.getElem_set]
  simp only [genL, List.getElem_map, List.getElem_range]
  by_cases e : k = j
  · rw [if_pos e, if_pos e.symm]
  · rw [if_neg e, if_neg (fun z => e z.symm)]
theorem desK_1 (A : List Int) (lim : Int) : desK A lim 1 = A := by
  refine Eq.trans (gen_eq fun i hi => ?_) (gen_self A)
  by_cases e : i < 1
  · rw [if_pos e, desF, if_neg (by omega)]
  · rw [if_neg e]
theorem desK_all {A : List Int} {lim : Int} {k : Nat} (h : A.length ≤ k + 1) : desK A lim k = desL A lim := gen_eq fun i hi => by
  by_cases e : i < k
  · rw [if_pos e]
  · rw [if_neg e, desF, if_neg (by omega)]
theorem desK_set (A : List Int) (lim : Int) (k : Nat) : (desK A lim k).set k (desF A lim k) = desK A lim (k + 1) := by
  unfold desK
  rw [gen_set]
  refine gen_eq fun i hi => ?_
  by_cases e : i = k
  · rw [if_pos e, e, if_pos (by omega)]
  · rw [if_neg e]
    by_cases e2 : i < k
    · rw [if_pos e2, if_pos (by omega)]
    · rw [if_neg e2, if_neg (by omega)]
theorem des_eq {m x l : Int} (h : 0 ≤ l) : max (m - l) (min (m + l) x) = min (max x (m - l)) (m + l) := by omega
theorem three_at {A : List Int} {k : Nat} (h0 : 0 < k) (h : k + 1 < A.length) : (A.drop (k - 1)).take (k + 2 - (k - 1)) = [atZ A ((k : Int) - 1), atZ A k, atZ A ((k : Int) + 1)] := by
  have e1 : atZ A ((k : Int) - 1) = A[k - 1] := by rw [show (k : Int) - 1 = ((k - 1 : Nat) : Int) by omega, atZ_at]
  have e2 : atZ A ((k : Int) + 1) = A[k + 1] := by rw [show (k : Int) + 1 = ((k + 1 : Nat) : Int) by omega, atZ_at]
  rw [e1, e2, atZ_at (show k < A.length by omega)]
  refine List.ext_getElem (by simp; omega) fun j h1 h2 => ?_
  simp only [List.length_cons, List.length_nil] at h2
  rw [List.getElem_take, List.getElem_drop]
  rcases (show j = 0 ∨ j = 1 ∨ j = 2 by omega) with rfl | rfl | rfl
  · rfl
  · simp only [List.getElem_cons_succ, List.getElem_cons_zero]
    congr 1; omega
  · simp only [List.getElem_cons_succ, List.getElem_cons_zero]
    congr 1; omega
theorem desF_in {A : List Int} {lim : Int} {k : Nat} (h0 : 0 < k) (h : k + 1 < A.length) : desF A lim k = min (max (atZ A k) (medA A k - lim)) (medA A k + lim) := if_pos ⟨h0, h⟩
noncomputable def chkDs (l : List Nat) (n : Int) : Int := firstS [chkL l, rangeS n 0 16384]
noncomputable def chkG (l : List Nat) (a b : Int) : Int := firstS [chkL l, rangeS a 0 1024, rangeS b 1 1024]
def gaiF (A : List Int) (a b : Int) (i : Nat) : Int := rndI (atZ A i * (i + a)) b
def gaiL (A : List Int) (a b : Int) : List Int := genL A.length (gaiF A a b)
theorem gai_prod {x y : Int} (hx : -16384 ≤ x ∧ x ≤ 16384) (hy : 0 ≤ y ∧ y ≤ 4096) : -67108864 ≤ x * y ∧ x * y ≤ 67108864 := by
  have e : (x * y).natAbs ≤ 16384 * 4096 := by
    rw [Int.natAbs_mul]
    exact Nat.mul_le_mul (by omega) (by omega)
  omega
set_option maxRecDepth 10000
attribute [local irreducible] WP WC WE WB WR WF WL WG WRg WQ
section
variable {P : Program} (T : Tbl P) {h : AHeap}
include T
set_option maxHeartbeats 1000000 in
theorem r135 {s : AV} {cs : List (List AV)} (hs : IsSl h s 1 cs) (hl : cs.length ≤ 2 ^ 40) : RCall P 135 [s] h (fun v h' => Fr h.length h' v 1 cs) := by
  refine .of T.mix T.c135 ?_
  unfold fn135
  rcases hs.nilq with ⟨rfl, rfl⟩ | hq
  · refine Ws @nilq_nil ?_
    exact .nil
  · refine Ws @hq ?_
    refine WR.appz (N := h.length) at_new (Nat.le_refl _) (hs.ext (by repeat first | exact Ext.refl _ | refine Ext.app _ ?_)) (by omega) fun s' g hf => ?_
    refine Wn ?_
    exact hf
set_option maxHeartbeats 1000000 in
theorem r97 (a b c : Int) : RCall P 97 [.int .i64 a, .int .i64 b, .int .i64 c] h (fun v _ => v = .int .i64 (med3 a b c)) := by
  refine .st3 16 T.mix T.c97 ?_;intro ts hlen t0 t1 t2;unfold fn97
  refine Rs (A3 @t0 @t1 @t2) ?_
  rfl
set_option maxHeartbeats 2000000 in
theorem r50 {s : AV} {A : List Int} (hs : IsSl h s 1 (A.map intRow)) (hl : A.length ≤ 1024) (hA : ∀ x ∈ A, -16384 ≤ x ∧ x ≤ 16384) {a b : Int} (ha : 0 ≤ a ∧ a ≤ 1024) (hb : 1 ≤ b ∧ b ≤ 1024) : RCall P 50 [s, .int .i64 a, .int .i64 b] h (fun v h' => IsSl h' v 1 ((gaiL A a b).map intRow)) := by
  refine .st3 29 T.mix T.c50 ?_;intro ts hlen t0 t1 t2;unfold fn50
  refine Rs (A3 @t0 @t1 @t2) ?_
  obtain ⟨f, hf⟩ : ∃ f : Nat → Int, f = gaiF A a b := ⟨_, rfl⟩
  have hG : gaiL A a b = genL A.length f := by rw [hf]; rfl
  refine WL.inv T.mix (fun n ts K => ∃ (k : Nat) (t : AV), k ≤ A.length ∧ n = A.length - k ∧ Ext h K ∧ Fr h.length K t 1 ((genL k f).map intRow) ∧ ts.length = 29 ∧ slot ts 0 = s ∧ slot ts 1 = .int .i64 a ∧ slot ts 2 = .int .i64 b ∧ slot ts 7 = t ∧ slot ts 8 = .int .i64 k) A.length
    ⟨0, .nilSlice, by omega, rfl, .refl _, .nil, Sn, (Sq @t0), (Sq @t1), (Sq @t2), Sw, Swr⟩ ?_
  clear hlen t0 t1 t2
  rintro _ ts K ⟨k, t, hk, rfl, eK, hfr, hlen, t0, t1, t2, t7, t8⟩
  have hsK := hs.ext eK
  by_cases hlt : k < A.length
  case neg =>
    have e3 := dltF hlt
    have e4 : k = A.length := by omega
    rw [e4, ← hG] at hfr
    refine Rs (A7 @t0 @t1 @t2 @t7 @t8 hsK.lenm @e3) ?_
    exact ⟨eK, hfr.isSl⟩
  have e3 := dltT hlt
  have e5 := wrapN (n := k) (by omega)
  have ix := hsK.ixm (kk := .i64) hlt
  have ax := atZ_at hlt
  have bx := hA A[k] (List.getElem_mem _)
  obtain ⟨x, hx⟩ : ∃ x, x = A[k] := ⟨_, rfl⟩
  have ld : ∀ {kk : AHeap}, Ext K kk → loadF none (elp s 1 k) (fun b => kk[b]?) = some (.int .i64 x, .keep) := fun {kk} e => by rw [hx]; exact hsK.l1m hlt rfl e
  rw [← hx] at ax bx
  have ot := hfr.isSl.one
  have pb := gai_prod bx (y := (k : Int) + a) ⟨by omega, by omega⟩
  have w1 : IntKind.i64.wrap ((k : Int) + a) = (k : Int) + a := wrap_in (by omega) (by omega)
  have w2 : IntKind.i64.wrap (x * ((k : Int) + a)) = x * ((k : Int) + a) := wrap_in (by omega) (by omega)
  refine Rs (A12 @t0 @t1 @t2 @t7 @t8 hsK.lenm @e3 @ix @ld @w1 @w2 @ot) ?_
  refine WF.ce T.c131 (r131 T (n := x * ((k : Int) + a)) (d := b) ⟨by omega, by omega⟩ ⟨by omega, by omega⟩) fun g1 => ?_
  have hfk : rndI (x * ((k : Int) + a)) b = f k := by rw [hf, gaiF, ax]
  rw [hfk]
  have bs : ∀ {N : Nat}, bslF 1 1 (fillA [.int .i64 0] [(0, 1, .int .i64 (f k))]) N = some (.slice N 0 1 1, .push (.cells [.int .i64 (f k)] true true)) := fun {N} => rfl
  refine Rs (A7 @t0 @t1 @t2 @t7 @t8 @ot @bs) ?_
  refine WR.appR (B := h) (cs := (genL k f).map intRow) (z := intRow (f k)) (hfr.app _) rfl (eK.trans ⟨_, rfl⟩) (by decide) (by rw [List.length_map, genL_len]; omega) ?_
  intro W5 s' x5 hff q5
  have hrow : (genL k f).map intRow ++ [intRow (f k)] = (genL (k + 1) f).map intRow := by rw [genL_succ, List.map_append]; rfl
  rw [hrow] at hff
  refine Rs (A7 @t0 @t1 @t2 @t7 @t8 @q5 @e5) ?_
  exact ⟨A.length - (k + 1), by omega, k + 1, s', by omega, rfl, x5, hff, rfl, rfl⟩
set_option maxHeartbeats 2000000 in
theorem r49 {s : AV} {A : List Int} (hs : IsSl h s 1 (A.map intRow)) (hl : A.length ≤ 1024) (hA : ∀ x ∈ A, -16384 ≤ x ∧ x ≤ 16384) {lim : Int} (hn : 0 ≤ lim ∧ lim ≤ 16384) : RCall P 49 [s, .int .i64 lim] h (fun v h' => IsSl h' v 1 ((desL A lim).map intRow)) := by
  refine .st2 57 T.mix T.c49 ?_;intro ts hlen t0 t1;unfold fn49
  refine Rs (A2 @t0 @t1) ?_
  obtain ⟨f, hf⟩ : ∃ f : Nat → Int, f = desF A lim := ⟨_, rfl⟩
  have hG : desL A lim = genL A.length f := by rw [hf]; rfl
  refine WL.inv T.mix (fun n ts K => ∃ (k : Nat) (t : AV), k ≤ A.length ∧ n = A.length - k ∧ Ext h K ∧ Fr h.length K t 1 ((genL k f).map intRow) ∧ ts.length = 57 ∧ slot ts 0 = s ∧ slot ts 1 = .int .i64 lim ∧ slot ts 5 = t ∧ slot ts 6 = .int .i64 k) A.length
    ⟨0, .nilSlice, by omega, rfl, .refl _, .nil, Sn, (Sq @t0), (Sq @t1), Sw, Swr⟩ ?_
  clear hlen t0 t1
  rintro _ ts K ⟨k, t, hk, rfl, eK, hfr, hlen, t0, t1, t5, t6⟩
  have hsK := hs.ext eK
  by_cases hlt : k < A.length
  case neg =>
    have e3 := dltF hlt
    have e4 : k = A.length := by omega
    rw [e4, ← hG] at hfr
    refine Rs (A6 @t0 @t1 @t5 @t6 hsK.lenm @e3) ?_
    exact ⟨eK, hfr.isSl⟩
  have e3 := dltT hlt
  have e5 := wrapN (n := k) (by omega)
  have ix := hsK.ixm (kk := .i64) hlt
  have ax := atZ_at hlt
  have bx := hA A[k] (List.getElem_mem _)
  obtain ⟨x, hx⟩ : ∃ x, x = A[k] := ⟨_, rfl⟩
  have ld : ∀ {kk : AHeap}, Ext K kk → loadF none (elp s 1 k) (fun b => kk[b]?) = some (.int .i64 x, .keep) := fun {kk} e => by rw [hx]; exact hsK.l1m hlt rfl e
  rw [← hx] at ax bx
  have ot := hfr.isSl.one
  have bs : ∀ {N : Nat}, bslF 1 1 (fillA [.int .i64 0] [(0, 1, .int .i64 (f k))]) N = some (.slice N 0 1 1, .push (.cells [.int .i64 (f k)] true true)) := fun {N} => rfl
  have hrow : (genL k f).map intRow ++ [intRow (f k)] = (genL (k + 1) f).map intRow := by rw [genL_succ, List.map_append]; rfl
  have wl : IntKind.i64.wrap ((A.length : Int) - 1) = (A.length : Int) - 1 := wrap_in (by omega) (by omega)
  by_cases hin : 0 < k ∧ k + 1 < A.length
  case neg =>
    have hfk : f k = x := by rw [hf, desF, if_neg hin, ax]
    rw [← hfk] at ld
    by_cases hk0 : 0 < k
    · have d1 : decide ((0 : Int) < (k : Int)) = true := decide_eq_true (by omega)
      have d2 : decide ((k : Int) < (A.length : Int) - 1) = false := decide_eq_false (by omega)
      refine Rs (A13 @t0 @t1 @t5 @t6 hsK.lenm @e3 @ix @ld @d1 @wl @d2 @ot @bs) ?_
      refine WR.appR (B := h) (cs := (genL k f).map intRow) (z := intRow (f k)) hfr rfl eK (by decide) (by rw [List.length_map, genL_len]; omega) ?_
      intro W5 s' x5 hff q5
      rw [hrow] at hff
      refine Rs (A6 @t0 @t1 @t5 @t6 @q5 @e5) ?_
      exact ⟨A.length - (k + 1), by omega, k + 1, s', by omega, rfl, x5, hff, rfl, rfl⟩
    · have d1 : decide ((0 : Int) < (k : Int)) = false := decide_eq_false (by omega)
      refine Rs (A11 @t0 @t1 @t5 @t6 hsK.lenm @e3 @ix @ld @d1 @ot @bs) ?_
      refine WR.appR (B := h) (cs := (genL k f).map intRow) (z := intRow (f k)) hfr rfl eK (by decide) (by rw [List.length_map, genL_len]; omega) ?_
      intro W5 s' x5 hff q5
      rw [hrow] at hff
      refine Rs (A6 @t0 @t1 @t5 @t6 @q5 @e5) ?_
      exact ⟨A.length - (k + 1), by omega, k + 1, s', by omega, rfl, x5, hff, rfl, rfl⟩
  obtain ⟨hk0, hk1⟩ := hin
  have d1 : decide ((0 : Int) < (k : Int)) = true := decide_eq_true (by omega)
  have d2 : decide ((k : Int) < (A.length : Int) - 1) = true := decide_eq_true (by omega)
  have w1 : IntKind.i64.wrap ((k : Int) - 1) = ((k - 1 : Nat) : Int) := by rw [wrap_in (by omega) (by omega)]; omega
  have hp : k - 1 < A.length := by omega
  have ip := hsK.ixm (kk := .i64) hp
  have ap := atZ_at hp
  have bp := hA A[k - 1] (List.getElem_mem _)
  obtain ⟨y, hy⟩ : ∃ y, y = A[k - 1] := ⟨_, rfl⟩
  have lp : ∀ {kk : AHeap}, Ext K kk → loadF none (elp s 1 (k - 1)) (fun b => kk[b]?) = some (.int .i64 y, .keep) := fun {kk} e => by rw [hy]; exact hsK.l1m hp rfl e
  rw [← hy] at ap bp
  have is' := hsK.ixm (kk := .i64) hk1
  have as' := atZ_at hk1
  have bs' := hA A[k + 1] (List.getElem_mem _)
  obtain ⟨z, hz⟩ : ∃ z, z = A[k + 1] := ⟨_, rfl⟩
  have ls : ∀ {kk : AHeap}, Ext K kk → loadF none (elp s 1 (k + 1)) (fun b => kk[b]?) = some (.int .i64 z, .keep) := fun {kk} e => by rw [hz]; exact hsK.l1m hk1 rfl e
  rw [← hz] at as' bs'
  have hmA : medA A k = med3 y x z := by rw [medA, ax, ← ap, ← as', show ((k - 1 : Nat) : Int) = (k : Int) - 1 by omega]; rfl
  have mb := med_bd bp bx bs'
  have hfk : max (med3 y x z - lim) (min (med3 y x z + lim) x) = f k := by rw [hf, desF_in hk0 hk1, hmA, ax, des_eq hn.1]
  have w2 : IntKind.i64.wrap (med3 y x z - lim) = med3 y x z - lim := wrap_in (by omega) (by omega)
  have w3 : IntKind.i64.wrap (med3 y x z + lim) = med3 y x z + lim := wrap_in (by omega) (by omega)
  refine Rs (A18 @t0 @t1 @t5 @t6 hsK.lenm @e3 @ix @ld @d1 @wl @d2 @w1 @ip @lp @e5 @is' @ls @ot) ?_
  refine WF.ce T.c97 (r97 T _ _ _) fun g1 => ?_
  refine Rs (A9 @t0 @t1 @t5 @t6 @w2 @w3 @hfk @ot @bs) ?_
  refine WR.appR (B := h) (cs := (genL k f).map intRow) (z := intRow (f k)) (hfr.app _) rfl (eK.trans ⟨_, rfl⟩) (by decide) (by rw [List.length_map, genL_len]; omega) ?_
  intro W5 s' x5 hff q5
  rw [hrow] at hff
  refine Rs (A6 @t0 @t1 @t5 @t6 @q5 @e5) ?_
  exact ⟨A.length - (k + 1), by omega, k + 1, s', by omega, rfl, x5, hff, rfl, rfl⟩
end
end Go.Abs
namespace Go.Abs
def gaiK (A : List Int) (a b : Int) (k : Nat) : List Int := genL A.length fun i => if i < k then gaiF A a b i else atZ A i
theorem gaiK_0 (A : List Int) (a b : Int) : gaiK A a b 0 = A := Eq.trans (gen_eq fun i _ => if_neg (by omega)) (gen_self A)
theorem gaiK_all (A : List Int) (a b : Int) : gaiK A a b A.length = gaiL A a b := gen_eq fun i hi => if_pos hi
theorem gaiK_set (A : List Int) (a b : Int) (k : Nat) : (gaiK A a b k).set k (gaiF A a b k) = gaiK A a b (k + 1) := by
  unfold gaiK
  rw [gen_set]
  refine gen_eq fun i hi => ?_
  by_cases e : i = k
  · rw [if_pos e, e, if_pos (by omega)]
  · rw [if_neg e]
    by_cases e2 : i < k
    · rw [if_pos e2, if_pos (by omega)]
    · rw [if_neg e2, if_neg (by omega)]
theorem gaiK_at {A : List Int} {a b : Int} {k : Nat} (h : k < (gaiK A a b k).length) : (gaiK A a b k)[k] = atZ A k := by
  simp only [gaiK, genL, List.getElem_map, List.getElem_range]
  rw [if_neg (by omega)]
theorem gaiK_len (A : List Int) (a b : Int) (k : Nat) : (gaiK A a b k).length = A.length := genL_len _ _
theorem desK_len (A : List Int) (lim : Int) (k : Nat) : (desK A lim k).length = A.length := genL_len _ _
set_option maxRecDepth 10000
attribute [local irreducible] WP WC WE WB WR WF WL WG WRg WQ
section
variable {P : Program} (T : Tbl P) {h : AHeap}
include T
set_option maxHeartbeats 4000000 in
theorem r47 {s : AV} {l : List Nat} (hs : IsSl h s 1 (l.map fltR)) (hl : l.length < 2 ^ 40) (a b : Int) : RCall P 47 [s, .int .i64 a, .int .i64 b] h (fun v h' => ∃ (t : AV) (e : Int), v = .tup [t, .int .i64 e] ∧ HeardS h' (chkG l a b) (gaiL (l.map gridN) a b) t e) := by
  refine .st3 47 T.mix T.c47 ?_;intro ts hlen t0 t1 t2;unfold fn47
  refine Rs (A3 @t0 @t1 @t2) ?_;(first | (exact True.intro;trace "CLOSED 0") | skip)
  refine WF.ce T.c134 (r134 T hs hl) fun g1 => ?_
  refine Rs (A3 @t0 @t1 @t2) ?_;(first | (exact True.intro;trace "CLOSED 1") | skip)
  refine WF.ce T.c120 (r120 T _ _ _) fun g2 => ?_
  refine Rs (A3 @t0 @t1 @t2) ?_;(first | (exact True.intro;trace "CLOSED 2") | skip)
  refine WF.ce T.c120 (r120 T _ _ _) fun g3 => ?_
  refine Rs (A3 @t0 @t1 @t2) ?_;(first | (exact True.intro;trace "CLOSED 3") | skip)
  refine WF.ce T.c116 (r116 T (isSl_ints [_, _, _]) (by simp)) fun g4 => ?_
  have hE : firstS [chkL l, rangeS a 0 1024, rangeS b 1 1024] = chkG l a b := rfl
  rw [hE]
  by_cases hz : chkG l a b = 0
  case neg =>
    have d1 : decide (chkG l a b ≠ 0) = true := decide_eq_true hz
    refine Rs (A4 @t0 @t1 @t2 @d1) ?_;(first | (exact True.intro;trace "CLOSED 4") | skip)
    exact ⟨.nilSlice, _, rfl, by unfold HeardS; rw [if_pos hz]; exact ⟨rfl, rfl⟩⟩
  have d1 : decide (chkG l a b ≠ 0) = false := decide_eq_false fun z => z hz
  obtain ⟨q1, q2, q3⟩ := first3 hz
  obtain ⟨hl2, hg⟩ := chkL_z q1
  have ha := rangeS_z.1 q2
  have hb := rangeS_z.1 q3
  refine Rs (A4 @t0 @t1 @t2 @d1) ?_;(first | (exact True.intro;trace "CLOSED 5") | skip)
  refine WF.res T.c107 (q107 T (hs.ext Xx) hl T.c108 (g := gridN) (fun x hx k => r108 T (hg x hx))) ?_
  intro s9 g5 is9
  obtain ⟨A, hA⟩ : ∃ A, A = l.map gridN := ⟨_, rfl⟩
  have hAl : A.length = l.length := by rw [hA]; simp
  have hAb := grid_all hg
  rw [← hA] at is9 hAb ⊢
  obtain ⟨B, hB⟩ : ∃ B, B = h ++ g1 ++ g2 ++ g3 ++ [ABlk.cells [AV.int IntKind.i64 (chkL l), AV.int IntKind.i64 (rangeS a 0 1024), AV.int IntKind.i64 (rangeS b 1 1024)] true true] ++ g4 := ⟨_, rfl⟩
  have eB : Ext h B := by rw [hB]; exact Xx
  rw [← hB] at is9 ⊢
  clear hB
  have hHS : ∀ {k : AHeap} {u : AV} {e : Int}, ToldS k (gaiL A a b) u e → HeardS k (chkG l a b) (gaiL A a b) u e := fun x => by unfold HeardS; rw [if_neg (fun z => z hz)]; exact x
  refine Rs (A4 @t0 @t1 @t2 is9.isSl.lenm) ?_;(first | (exact True.intro;trace "CLOSED 6") | skip)
  refine WL.inv T.mix (fun n ts K => ∃ (k : Nat) (G : AHeap), k ≤ A.length ∧ n = A.length - k ∧ K = B ++ G ∧ Fr B.length K s9 1 ((gaiK A a b k).map intRow) ∧ ts.length = 47 ∧ slot ts 1 = .int .i64 a ∧ slot ts 2 = .int .i64 b ∧ slot ts 9 = s9 ∧ slot ts 25 = s9 ∧ slot ts 26 = .int .i64 A.length ∧ slot ts 27 = .int .i64 k) A.length
    ⟨0, g5, by omega, rfl, rfl, by rw [gaiK_0]; exact is9, Sn, (Sq @t1), (Sq @t2), Sw, Sw, Sw, Swr⟩ ?_
  clear hlen t0 t1 t2
  rintro _ ts _ ⟨k, G, hk, rfl, rfl, hfr, hlen, t1, t2, t9, t25, t26, t27⟩
  have eK : Ext B (B ++ G) := ⟨G, rfl⟩
  by_cases hlt : k < A.length
  case neg =>
    have e3 := dltF hlt
    have e4 : k = A.length := by omega
    rw [e4, gaiK_all] at hfr
    refine Rs (A7 @t1 @t2 @t9 @t25 @t26 @t27 @e3) ?_;(first | (exact True.intro;trace "CLOSED 7") | skip)
    refine WF.res T.c105 (r105 T hfr.isSl (by rw [gaiL, genL_len]; omega)) ?_
    rintro _ g6 ⟨t, e, rfl, ht⟩
    refine Rs (A2 @t1 @t9) ?_;(first | (exact True.intro;trace "CLOSED 8") | skip)
    exact ⟨eB.trans (eK.trans ⟨g6, rfl⟩), t, e, rfl, hHS ht⟩
  have e3 := dltT hlt
  have e5 := wrapN (n := k) (by omega)
  have hkC : k < (gaiK A a b k).length := by rw [gaiK_len]; exact hlt
  have ix := hfr.isSl.ixm (kk := .i64) hkC
  have hgk := gaiK_at (b := b) (a := a) hkC
  have ld : ∀ {kk : AHeap}, Ext (B ++ G) kk → loadF none (elp s9 1 k) (fun b => kk[b]?) = some (.int .i64 (atZ A k), .keep) := fun {kk} e => by rw [← hgk]; exact hfr.isSl.l1m hkC rfl e
  have bx := atZ_bd hAb k
  have pb := gai_prod bx (y := (k : Int) + a) ⟨by omega, by omega⟩
  have w1 : IntKind.i64.wrap ((k : Int) + a) = (k : Int) + a := wrap_in (by omega) (by omega)
  have w2 : IntKind.i64.wrap (atZ A k * ((k : Int) + a)) = atZ A k * ((k : Int) + a) := wrap_in (by omega) (by omega)
  refine Rs (A11 @t1 @t2 @t9 @t25 @t26 @t27 @e3 @ix @ld @w1 @w2) ?_;(first | (exact True.intro;trace "CLOSED 9") | skip)
  refine WF.ce T.c128 (r128 T (n := atZ A k * ((k : Int) + a)) (d := b) ⟨by omega, by omega⟩ ⟨by omega, by omega⟩) fun g6 => ?_
  have hfr2 := hfr.app g6
  have ixk := hfr2.isSl.ixm (kk := .i64) hkC
  rw [List.append_assoc B] at hfr2 ⊢
  refine Rs (A7 @t1 @t2 @t9 @t25 @t26 @t27 @ixk) ?_;(first | (exact True.intro;trace "CLOSED 10") | skip)
  refine WR.put1 (h0 := B) (off := 0) (row := intRow) (x' := gaiF A a b k) hfr2 hkC (by decide) rfl rfl ?_
  intro g7 hl7 hF7 _
  rw [gaiK_set] at hF7
  refine Rs (A7 @t1 @t2 @t9 @t25 @t26 @t27 @e5) ?_;(first | (exact True.intro;trace "CLOSED 11") | skip)
  exact ⟨A.length - (k + 1), by omega, k + 1, g7, by omega, rfl, rfl, hF7, rfl⟩
set_option maxHeartbeats 4000000 in
theorem r46 (S : SrtOk P) {s : AV} {l : List Nat} (hs : IsSl h s 1 (l.map fltR)) (hl : l.length < 2 ^ 40) (lim : Int) : RCall P 46 [s, .int .i64 lim] h (fun v h' => ∃ (t : AV) (e : Int), v = .tup [t, .int .i64 e] ∧ HeardS h' (chkDs l lim) (desL (l.map gridN) lim) t e) := by
  refine .st2 62 T.mix T.c46 ?_;intro ts hlen t0 t1;unfold fn46
  refine Rs (A2 @t0 @t1) ?_;(first | (exact True.intro;trace "CLOSED 12") | skip)
  refine WF.ce T.c134 (r134 T hs hl) fun g1 => ?_
  refine Rs (A2 @t0 @t1) ?_;(first | (exact True.intro;trace "CLOSED 13") | skip)
  refine WF.ce T.c120 (r120 T _ _ _) fun g2 => ?_
  refine Rs (A2 @t0 @t1) ?_;(first | (exact True.intro;trace "CLOSED 14") | skip)
  refine WF.ce T.c116 (r116 T (isSl_ints [_, _]) (by simp)) fun g4 => ?_
  have hE : firstS [chkL l, rangeS lim 0 16384] = chkDs l lim := rfl
  rw [hE]
  by_cases hz : chkDs l lim = 0
  case neg =>
    have d1 : decide (chkDs l lim ≠ 0) = true := decide_eq_true hz
    refine Rs (A3 @t0 @t1 @d1) ?_;(first | (exact True.intro;trace "CLOSED 15") | skip)
    exact ⟨.nilSlice, _, rfl, by unfold HeardS; rw [if_pos hz]; exact ⟨rfl, rfl⟩⟩
  have d1 : decide (chkDs l lim ≠ 0) = false := decide_eq_false fun z => z hz
  obtain ⟨q1, q2⟩ := first2 hz
  obtain ⟨hl2, hg⟩ := chkL_z q1
  have hn := rangeS_z.1 q2
  refine Rs (A3 @t0 @t1 @d1) ?_;(first | (exact True.intro;trace "CLOSED 16") | skip)
  refine WF.res T.c107 (r107 T (hs.ext Xx) hl T.c108 (g := gridN) (fun x hx k => r108 T (hg x hx))) ?_
  intro s7 g5 is7
  obtain ⟨A, hA⟩ : ∃ A, A = l.map gridN := ⟨_, rfl⟩
  have hAl : A.length = l.length := by rw [hA]; simp
  have hAb := grid_all hg
  rw [← hA] at is7 hAb ⊢
  obtain ⟨B, hB⟩ : ∃ B, B = h ++ g1 ++ g2 ++ [ABlk.cells [AV.int IntKind.i64 (chkL l), AV.int IntKind.i64 (rangeS lim 0 16384)] true true] ++ g4 ++ g5 := ⟨_, rfl⟩
  have eB : Ext h B := by rw [hB]; exact Xx
  rw [← hB] at is7 ⊢
  clear hB
  have hHS : ∀ {k : AHeap} {u : AV} {e : Int}, ToldS k (desL A lim) u e → HeardS k (chkDs l lim) (desL A lim) u e := fun x => by unfold HeardS; rw [if_neg (fun z => z hz)]; exact x
  have o7 := is7.one
  refine Rs (A3 @t0 @t1 @o7) ?_;(first | (exact True.intro;trace "CLOSED 17") | skip)
  refine WF.res T.c135 (r135 T is7 (by rw [List.length_map]; omega)) ?_
  intro s8 g6 f8
  have o8 := f8.isSl.one
  refine Rs (A4 @t0 @t1 @o7 @o8) ?_;(first | (exact True.intro;trace "CLOSED 18") | skip)
  refine WL.inv T.mix (fun n ts K => ∃ (k : Nat) (G : AHeap), 1 ≤ k ∧ k ≤ max 1 (A.length - 1) ∧ n = A.length - k ∧ K = B ++ G ∧ Fr B.length K s8 1 ((desK A lim k).map intRow) ∧ ts.length = 62 ∧ slot ts 1 = .int .i64 lim ∧ slot ts 7 = s7 ∧ slot ts 8 = s8 ∧ slot ts 9 = .int .i64 k) (A.length - 1)
    ⟨1, g6, by omega, by omega, rfl, rfl, by rw [desK_1]; exact f8, Sn, (Sq @t1), Sw, Sw, Swr⟩ ?_
  clear hlen t0 t1
  rintro _ ts _ ⟨k, G, hk1, hk, rfl, rfl, hfr, hlen, t1, t7, t8, t9⟩
  have eK : Ext B (B ++ G) := ⟨G, rfl⟩
  have hsK := is7.ext eK
  have wl : IntKind.i64.wrap ((A.length : Int) - 1) = (A.length : Int) - 1 := wrap_in (by omega) (by omega)
  by_cases hlt : k + 1 < A.length
  case neg =>
    have e3 : decide ((k : Int) < (A.length : Int) - 1) = false := decide_eq_false (by omega)
    rw [desK_all (by omega)] at hfr
    refine Rs (A7 @t1 @t7 @t8 @t9 hsK.lenm @wl @e3) ?_;(first | (exact True.intro;trace "CLOSED 19") | skip)
    refine WF.res T.c105 (r105 T hfr.isSl (by rw [desL, genL_len]; omega)) ?_
    rintro _ g7 ⟨t, e, rfl, ht⟩
    refine Rs (A2 @t1 @t7) ?_;(first | (exact True.intro;trace "CLOSED 20") | skip)
    exact ⟨eB.trans (eK.trans ⟨g7, rfl⟩), t, e, rfl, hHS ht⟩
  have e3 : decide ((k : Int) < (A.length : Int) - 1) = true := decide_eq_true (by omega)
  have e5 := wrapN (n := k) (by omega)
  have w1 : IntKind.i64.wrap ((k : Int) - 1) = ((k - 1 : Nat) : Int) := by rw [wrap_in (by omega) (by omega)]; omega
  have w2 : IntKind.i64.wrap ((k : Int) + 2) = ((k + 2 : Nat) : Int) := by rw [wrap_in (by omega) (by omega)]; omega
  have hbn : bnds (some (.int .i64 ((k - 1 : Nat) : Int))) (some (.int .i64 ((k + 2 : Nat) : Int))) A.length = some (k - 1, k + 2) := by
    simp only [bnds, loN, hiN]
    rw [if_pos (by omega), Int.toNat_natCast, Int.toNat_natCast]
  obtain ⟨s36, hs36, is36⟩ := hsK.slm hbn
  rw [three_at (by omega) hlt] at is36
  refine Rs (A10 @t1 @t7 @t8 @t9 hsK.lenm @wl @e3 @w1 @w2 @hs36) ?_;(first | (exact True.intro;trace "CLOSED 21") | skip)
  refine WF.res T.c137 (r137 T is36) ?_
  rintro _ g7 ⟨b, rfl, mb⟩
  refine Rs (A4 @t1 @t7 @t8 @t9) ?_;(first | (exact True.intro;trace "CLOSED 22") | skip)
  refine WF.res T.c136 (r136 T S mb (is36.ext Xx) (by simp)) ?_
  intro v10 g8 f10
  obtain ⟨y, z, hyz⟩ := sort3 (atZ A ((k : Int) - 1)) (atZ A k) (atZ A ((k : Int) + 1))
  rw [hyz] at f10
  have o10 := f10.isSl.one
  have i1 := f10.isSl.ixm (kk := .i64) (i := 1) (by simp)
  have mA : med3 (atZ A ((k : Int) - 1)) (atZ A k) (atZ A ((k : Int) + 1)) = medA A k := rfl
  rw [mA] at f10
  have mb2 : -16384 ≤ medA A k ∧ medA A k ≤ 16384 := med_bd (atZ_bd hAb _) (atZ_bd hAb _) (atZ_bd hAb _)
  have hfr2 := (hfr.app g7).app g8
  have hsL := (hsK.ext (show Ext (B ++ G) (B ++ G ++ g7) from ⟨_, rfl⟩)).ext (show Ext (B ++ G ++ g7) (B ++ G ++ g7 ++ g8) from ⟨_, rfl⟩)
  have f10' := f10.isSl
  rw [List.append_assoc B, List.append_assoc B] at hfr2 hsL f10' ⊢
  obtain ⟨G2, hG2⟩ : ∃ G2, G2 = G ++ g7 ++ g8 := ⟨_, rfl⟩
  rw [← hG2] at hfr2 hsL f10' ⊢
  have hkA : k < A.length := by omega
  have hkC : k < (desK A lim k).length := by rw [desK_len]; exact hkA
  have ix := hsL.ixm (kk := .i64) hkA
  have ixk := hfr2.isSl.ixm (kk := .i64) hkC
  have ld : ∀ {kk : AHeap}, Ext (B ++ G2) kk → loadF none (elp s7 1 k) (fun b => kk[b]?) = some (.int .i64 (atZ A k), .keep) := fun {kk} e => by rw [atZ_at hkA]; exact hsL.l1m hkA rfl e
  have lm : ∀ {kk : AHeap}, Ext (B ++ G2) kk → loadF none (elp v10 1 1) (fun b => kk[b]?) = some (.int .i64 (medA A k), .keep) := fun {kk} e => f10'.l1m (i := 1) (by simp) rfl e
  have w3 : IntKind.i64.wrap (medA A k - lim) = medA A k - lim := wrap_in (by omega) (by omega)
  have w4 : IntKind.i64.wrap (medA A k + lim) = medA A k + lim := wrap_in (by omega) (by omega)
  have i1' : iadrF 1 v10 (.int .i64 1) = some (elp v10 1 1, .keep) := i1
  have hfk : min (max (atZ A k) (medA A k - lim)) (medA A k + lim) = desF A lim k := (desF_in (by omega) hlt).symm
  refine Rs (A13 @t1 @t7 @t8 @t9 @o10 @ix @ld @i1' @lm @w3 @w4 @ixk @hfk) ?_;(first | (exact True.intro;trace "CLOSED 23") | skip)
  refine WR.put1 (h0 := B) (off := 0) (row := intRow) (x' := desF A lim k) hfr2 hkC (by decide) rfl rfl ?_
  intro g9 hl9 hF9 _
  rw [desK_set] at hF9
  refine Rs (A5 @t1 @t7 @t8 @t9 @e5) ?_;(first | (exact True.intro;trace "CLOSED 24") | skip)
  exact ⟨A.length - (k + 1), by omega, k + 1, g9, by omega, by omega, rfl, rfl, hF9, rfl⟩
end
end Go.Abs
namespace Go.Abs
theorem heard_one {k : AHeap} {bad : Int} {want : List Int} {u : AV} {e : Int} (x : HeardS k bad want u e) : u.one = true := by
  unfold HeardS at x
  split at x
  · rw [x.1]; rfl
  · unfold ToldS at x
    split at x
    · exact x.1.one
    · rw [x.1]; rfl
def wtC : ICode := match (fn5).body with
  | .seq _ (.seq _ (.seq _ (.seq _ (.seq _ (.seq _ (.seq _ c)))))) => c
  | c => c
def wtD : ICode := match wtC with
  | .seq _ c => c
  | c => c
def wtE : ICode := match wtD with
  | .seq _ c => c
  | c => c
set_option maxRecDepth 10000
attribute [local irreducible] WP WC WE WB WR WF WL WG WRg WQ
section
variable {P : Program} (T : Tbl P) {h Y : AHeap} {ts : TS} {s v5 v7 v12 v13 : AV} {e6 e8 e10 e11 : Int} {b3 : Nat} {n0 n1 n2 : Int} {l : List Nat} {w1 w2 : List Int}
include T
set_option maxHeartbeats 2000000 in
theorem wt_fin (hlen : ts.length = 85) (t5 : slot ts 5 = v5) (t6 : slot ts 6 = .int .i64 e6) (t7 : slot ts 7 = v7) (t8 : slot ts 8 = .int .i64 e8) (t10 : slot ts 10 = .int .i64 e10) (t11 : slot ts 11 = .int .i64 e11) (t12 : slot ts 12 = v12) (t13 : slot ts 13 = v13)
    (e0 : Ext h Y) (h1 : HeardS Y e10 w1 v5 e6) (h2 : HeardS Y e11 w2 v7 e8) (x1 : e10 = 0 → IsSl Y v12 1 (w1.map intRow)) (x2 : e11 = 0 → IsSl Y v13 1 (w2.map intRow)) (l1 : w1.length < 2 ^ 40) (l2 : w2.length < 2 ^ 40) :
    WC P inFn wtE [] ts Y (FQ [(4, none)] fun v k => Ext h k ∧ v = .bool true) := by
  unfold wtE wtD wtC fn5
  dsimp only
  refine Rs (A4 @t5 @t6 @t10 @t12) ?_
  refine WF.ce T.c35 (r35 T h1 x1 l1) fun g1 => ?_
  refine Rs (A4 @t7 @t8 @t11 @t13) ?_
  refine WF.ce T.c35 (r35 T (h2.ext Xx) (fun z => (x2 z).ext Xx) l2) fun g2 => ?_
  refine Rs @t7 ?_
  exact ⟨e0.trans Xx, trivial⟩
set_option maxHeartbeats 2000000 in
theorem wt_2 (hlen : ts.length = 85) (t0 : slot ts 0 = s) (t3 : slot ts 3 = .ptr b3 0) (t5 : slot ts 5 = v5) (t6 : slot ts 6 = .int .i64 e6) (t7 : slot ts 7 = v7) (t8 : slot ts 8 = .int .i64 e8) (t10 : slot ts 10 = .int .i64 e10) (t11 : slot ts 11 = .int .i64 (chkG l n1 n2)) (t12 : slot ts 12 = v12) (t13 : slot ts 13 = .nilSlice)
    (e0 : Ext h Y) (hs : IsSl Y s 1 (l.map fltR)) (hl : l.length < 2 ^ 40) (m3 : Y[b3]? = some (.cells [.int .i64 n0, .int .i64 n1, .int .i64 n2] true false)) (h1 : HeardS Y e10 w1 v5 e6) (h2 : HeardS Y (chkG l n1 n2) (gaiL (l.map gridN) n1 n2) v7 e8) (x1 : e10 = 0 → IsSl Y v12 1 (w1.map intRow)) (l1 : w1.length < 2 ^ 40) :
    WC P inFn wtD [] ts Y (FQ [(4, none)] fun v k => Ext h k ∧ v = .bool true) := by
  show WC P inFn (.seq _ wtE) _ _ _ _
  have l2 : (gaiL (l.map gridN) n1 n2).length < 2 ^ 40 := by rw [gaiL, genL_len, List.length_map]; exact hl
  by_cases hz : chkG l n1 n2 = 0
  case neg =>
    have d1 : decide (chkG l n1 n2 = 0) = false := decide_eq_false hz
    refine Rs (A2 @t11 @d1) ?_
    exact wt_fin T (v5 := v5) (v7 := v7) (v12 := v12) (v13 := .nilSlice) Sn (Sq @t5) (Sq @t6) (Sq @t7) (Sq @t8) (Sq @t10) (Sq @t11) (Sq @t12) (Sq @t13) e0 h1 h2 x1 (fun z => absurd z hz) l1 l2
  have d1 : decide (chkG l n1 n2 = 0) = true := decide_eq_true hz
  obtain ⟨q1, q2, q3⟩ := first3 hz
  obtain ⟨hl2, hg⟩ := chkL_z q1
  refine Rs (A3 @t11 @d1 @t0) ?_
  refine WF.res T.c29 (r29 T hs hl hg) ?_
  intro s20 g1 is20
  have l3 := @ldx _ _ _ m3
  have i1 : iadaF 3 1 (.ptr b3 0) (.int .i64 1) = some (.ptr b3 1) := rfl
  have i2 : iadaF 3 1 (.ptr b3 0) (.int .i64 2) = some (.ptr b3 2) := rfl
  have r1 : ldB none 1 (.cells [.int .i64 n0, .int .i64 n1, .int .i64 n2] true false) = some (.int .i64 n1, .keep) := rfl
  have r2 : ldB none 2 (.cells [.int .i64 n0, .int .i64 n1, .int .i64 n2] true false) = some (.int .i64 n2, .keep) := rfl
  refine Rs (A6 @t3 @i1 @i2 @l3 @r1 @r2) ?_
  refine WF.res T.c50 (r50 T is20 (by rw [List.length_map]; exact hl2) (grid_all hg) (rangeS_z.1 q2) (rangeS_z.1 q3)) ?_
  intro v13' g2 is13
  have o13 := is13.one
  refine Rs @o13 ?_
  exact wt_fin T (v5 := v5) (v7 := v7) (v12 := v12) (v13 := v13') Sn (Sq @t5) (Sq @t6) (Sq @t7) (Sq @t8) (Sq @t10) (Sq @t11) (Sq @t12) Sw (e0.trans Xx) (h1.ext Xx) (h2.ext Xx) (fun z => (x1 z).ext Xx) (fun _ => is13) l1 l2
set_option maxHeartbeats 4000000 in
theorem r5 (X : Xfl P) (S : SrtOk P) (ha : ∀ k, Ext h k → RCall P 17 [] k (fun v _ => v = .bool true)) (hs : IsSl h s 1 (l.map fltR)) (n0 n1 n2 : Int) : RCall P 5 [s, .agg [.int .i64 n0, .int .i64 n1, .int .i64 n2]] h (fun v _ => v = .bool true) := by
  refine .st2 85 T.mix T.c5 ?_;intro ts hlen t0 t1;unfold fn5
  show WC P inFn (.seq _ (.seq _ (.seq _ (.seq _ (.seq _ (.seq _ (.seq _ wtC))))))) _ _ _ _
  have bx : ∀ {N : Nat}, boxF (.agg [.int .i64 n0, .int .i64 n1, .int .i64 n2]) N = some (.ptr N 0, .push (.cells [.int .i64 n0, .int .i64 n1, .int .i64 n2] true false)) := fun {N} => rfl
  refine Rs (A3 @t0 @t1 @bx) ?_
  obtain ⟨H0, hH0⟩ : ∃ H0, H0 = h ++ [ABlk.cells [AV.int IntKind.i64 n0, AV.int IntKind.i64 n1, AV.int IntKind.i64 n2] true false] := ⟨_, rfl⟩
  have e0 : Ext h H0 := by rw [hH0]; exact ⟨_, rfl⟩
  have m3 : H0[h.length]? = some (.cells [.int .i64 n0, .int .i64 n1, .int .i64 n2] true false) := by rw [hH0]; exact at_new
  obtain ⟨b3, hb3⟩ : ∃ b3, b3 = h.length := ⟨_, rfl⟩
  rw [← hb3] at m3
  rw [← hH0, ← hb3]
  clear hH0 hb3
  have hs := hs.ext e0
  refine WF.ce T.c17 (ha _ e0) fun g1 => ?_
  by_cases hsh : (decide (l.length ≤ 32) || decide (l.length = 1025)) = true
  case neg =>
    have hsf : (decide (l.length ≤ 32) || decide (l.length = 1025)) = false := by simpa using hsh
    refine Rs (A2 @t0 @Bool.not_true) ?_
    refine WF.ce T.c19 (r19 T (hs.ext Xx)) fun g2 => ?_
    refine Rs (A3 @t0 @hsf @Bool.not_false) ?_
    refine WF.ce T.c17 (ha _ (e0.trans Xx)) fun g3 => ?_
    refine Rs @t0 ?_
    exact ⟨e0.trans Xx, trivial⟩
  have hl : l.length < 2 ^ 40 := by
    have : l.length ≤ 32 ∨ l.length = 1025 := by simpa using hsh
    omega
  refine Rs (A2 @t0 @Bool.not_true) ?_
  refine WF.ce T.c19 (r19 T (hs.ext Xx)) fun g2 => ?_
  refine Rs (A3 @t0 @hsh @Bool.not_true) ?_
  have l3 := @ldx _ _ _ m3
  have i0 : iadaF 3 1 (.ptr b3 0) (.int .i64 0) = some (.ptr b3 0) := rfl
  have i1 : iadaF 3 1 (.ptr b3 0) (.int .i64 1) = some (.ptr b3 1) := rfl
  have i2 : iadaF 3 1 (.ptr b3 0) (.int .i64 2) = some (.ptr b3 2) := rfl
  have r0 : ldB none 0 (.cells [.int .i64 n0, .int .i64 n1, .int .i64 n2] true false) = some (.int .i64 n0, .keep) := rfl
  have r1 : ldB none 1 (.cells [.int .i64 n0, .int .i64 n1, .int .i64 n2] true false) = some (.int .i64 n1, .keep) := rfl
  have r2 : ldB none 2 (.cells [.int .i64 n0, .int .i64 n1, .int .i64 n2] true false) = some (.int .i64 n2, .keep) := rfl
  refine WF.res T.c22 (r22 T (hs.ext Xx) hl) ?_
  intro a1 g4 is1
  refine Rs (A4 @t0 @i0 @l3 @r0) ?_
  refine WF.res T.c46 (r46 T S is1 hl n0) ?_
  rintro _ g5 ⟨v5, e6, rfl, h1⟩
  have o5 := heard_one h1
  refine Rs (A2 @t0 @o5) ?_
  refine WF.res T.c22 (r22 T (hs.ext Xx) hl) ?_
  intro a2 g6 is2
  refine Rs (A7 @t0 @i1 @i2 @l3 @r1 @r2 @o5) ?_
  refine WF.res T.c47 (r47 T is2 hl n1 n2) ?_
  rintro _ g7 ⟨v7, e8, rfl, h2⟩
  have o7 := heard_one h2
  refine Rs (A3 @t0 @o5 @o7) ?_
  refine WF.ce T.c28 (r28 T X (hs.ext Xx) hl) fun g8 => ?_
  refine Rs (A6 @t0 @o5 @o7 @i0 @l3 @r0) ?_
  refine WF.ce T.c48 (r48 T n0 0 16384) fun g9 => ?_
  refine Rs (A3 @t0 @o5 @o7) ?_
  refine WF.ce T.c27 (r27 T (isSl_ints [_, _]) (by simp)) fun g10 => ?_
  obtain ⟨Y1, hY1⟩ : ∃ Y1, Y1 = H0 ++ g1 ++ g2 ++ g4 ++ g5 ++ g6 ++ g7 ++ g8 ++ g9 ++ [ABlk.cells [AV.int IntKind.i64 (chkL l), AV.int IntKind.i64 (rangeS n0 0 16384)] true true] ++ g10 := ⟨_, rfl⟩
  have eY1 : Ext H0 Y1 := by rw [hY1]; exact Xx
  have h1 : HeardS Y1 (chkDs l n0) (desL (l.map gridN) n0) v5 e6 := by rw [hY1]; exact h1.ext Xx
  have h2 : HeardS Y1 (chkG l n1 n2) (gaiL (l.map gridN) n1 n2) v7 e8 := by rw [hY1]; exact h2.ext Xx
  rw [← hY1]
  clear hY1 is1 is2 l3
  have l3 := @ldx _ _ _ (eY1.some m3)
  refine Rs (A6 @t0 @o5 @o7 @i1 @l3 @r1) ?_
  refine WF.ce T.c48 (r48 T _ _ _) fun g11 => ?_
  refine Rs (A6 @t0 @o5 @o7 @i2 @l3 @r2) ?_
  refine WF.ce T.c48 (r48 T _ _ _) fun g12 => ?_
  refine Rs (A3 @t0 @o5 @o7) ?_
  refine WF.ce T.c27 (r27 T (isSl_ints [_, _, _]) (by simp)) fun g13 => ?_
  have hE1 : firstS [chkL l, rangeS n0 0 16384] = chkDs l n0 := rfl
  have hE2 : firstS [chkL l, rangeS n1 0 1024, rangeS n2 1 1024] = chkG l n1 n2 := rfl
  rw [hE1, hE2]
  obtain ⟨Y, hY⟩ : ∃ Y, Y = Y1 ++ g11 ++ g12 ++ [ABlk.cells [AV.int IntKind.i64 (chkL l), AV.int IntKind.i64 (rangeS n1 0 1024), AV.int IntKind.i64 (rangeS n2 1 1024)] true true] ++ g13 := ⟨_, rfl⟩
  have eY : Ext H0 Y := eY1.trans (by rw [hY]; exact Xx)
  have h1 : HeardS Y (chkDs l n0) (desL (l.map gridN) n0) v5 e6 := by rw [hY]; exact h1.ext Xx
  have h2 : HeardS Y (chkG l n1 n2) (gaiL (l.map gridN) n1 n2) v7 e8 := by rw [hY]; exact h2.ext Xx
  rw [← hY]
  clear hY l3
  have hs := hs.ext eY
  have m3 := eY.some m3
  have l1 : (desL (l.map gridN) n0).length < 2 ^ 40 := by rw [desL, genL_len, List.length_map]; exact hl
  refine Rs (A3 @t0 @o5 @o7) ?_
  by_cases hz : chkDs l n0 = 0
  case neg =>
    have d1 : decide (chkDs l n0 = 0) = false := decide_eq_false hz
    show WC P inFn (.seq _ wtD) _ _ _ _
    refine Rs (A4 @t0 @o5 @o7 @d1) ?_
    exact wt_2 T (s := s) (v5 := v5) (v7 := v7) (v12 := .nilSlice) (n0 := n0) (n1 := n1) (n2 := n2) (l := l) Sn (Sq @t0) Sw Sw Sw Sw Sw Sw Sw Sw Sw (e0.trans eY) hs hl m3 h1 h2 (fun z => absurd z hz) l1
  have d1 : decide (chkDs l n0 = 0) = true := decide_eq_true hz
  obtain ⟨q1, q2⟩ := first2 hz
  obtain ⟨hl2, hg⟩ := chkL_z q1
  show WC P inFn (.seq _ wtD) _ _ _ _
  refine Rs (A4 @t0 @o5 @o7 @d1) ?_
  refine WF.res T.c29 (r29 T hs hl hg) ?_
  intro s20 g14 is20
  have l3 := @ldx _ _ _ m3
  refine Rs (A6 @t0 @o5 @o7 @i0 @l3 @r0) ?_
  refine WF.res T.c49 (r49 T is20 (by rw [List.length_map]; exact hl2) (grid_all hg) (rangeS_z.1 q2)) ?_
  intro v12 g15 is12
  have o12 := is12.one
  refine Rs (A4 @t0 @o5 @o7 @o12) ?_
  exact wt_2 T (s := s) (v5 := v5) (v7 := v7) (v12 := v12) (n0 := n0) (n1 := n1) (n2 := n2) (l := l) Sn (Sq @t0) Sw Sw Sw Sw Sw Sw Sw Sw Sw ((e0.trans eY).trans Xx) (hs.ext Xx) hl ((show Ext Y (Y ++ g14 ++ g15) from Xx).some m3) (h1.ext Xx) (h2.ext Xx) (fun _ => is12) l1
end
end Go.Abs
namespace Go.Proofs
open Go.Shelf
def Tryz.lays189_ren : Go.Shelf.Ren := ⟨fun | 189 => 189 | 125 => 220 | 257 => 219 | 128 => 245 | 129 => 246 | 294 => 236 | 295 => 237 | 296 => 238 | 297 => 239 | 298 => 240 | 299 => 241 | 216 => 242 | 300 => 243 | 301 => 244 | 328 => 267 | 329 => 268 | 330 => 269 | 331 => 270 | 332 => 271 | 215 => 221 | 343 => 287 | n => n, fun | 28 => 22 | 3 => 3 | 46 => 278 | 0 => 0 | 51 => 295 | 53 => 297 | 4 => 4 | 183 => 288 | 182 => 287 | 131 => 224 | 5 => 5 | 9 => 9 | 218 => 320 | 222 => 324 | 228 => 337 | 229 => 338 | n => n, fun n => n⟩
theorem Tryz.lays189 : Go.Proofs.Lays.n189 Tryz.prog Tryz.lays189_ren := {
  mixed := by kernel_rfl
  f125 := Tryz.func220.trans (congrArg some (by kernel_rfl))
  f128 := Tryz.func245.trans (congrArg some (by kernel_rfl))
  f129 := Tryz.func246.trans (congrArg some (by kernel_rfl))
  f189 := Tryz.func189.trans (congrArg some (by kernel_rfl))
  f215 := Tryz.func221.trans (congrArg some (by kernel_rfl))
  f216 := Tryz.func242.trans (congrArg some (by kernel_rfl))
  f257 := Tryz.func219.trans (congrArg some (by kernel_rfl))
  f294 := Tryz.func236.trans (congrArg some (by kernel_rfl))
  f295 := Tryz.func237.trans (congrArg some (by kernel_rfl))
  f296 := Tryz.func238.trans (congrArg some (by kernel_rfl))
  f297 := Tryz.func239.trans (congrArg some (by kernel_rfl))
  f298 := Tryz.func240.trans (congrArg some (by kernel_rfl))
  f299 := Tryz.func241.trans (congrArg some (by kernel_rfl))
  f300 := Tryz.func243.trans (congrArg some (by kernel_rfl))
  f301 := Tryz.func244.trans (congrArg some (by kernel_rfl))
  f328 := Tryz.func267.trans (congrArg some (by kernel_rfl))
  f329 := Tryz.func268.trans (congrArg some (by kernel_rfl))
  f330 := Tryz.func269.trans (congrArg some (by kernel_rfl))
  f331 := Tryz.func270.trans (congrArg some (by kernel_rfl))
  f332 := Tryz.func271.trans (congrArg some (by kernel_rfl))
  f343 := Tryz.func287.trans (congrArg some (by kernel_rfl))
  t0 := Tryz.underlying0
  a0 := Tryz.isAgg0
  z0 := Tryz.sizeOf0
  v0 := Tryz.zeroValue0
  t3 := Tryz.underlying3
  a3 := Tryz.isAgg3
  z3 := Tryz.sizeOf3
  v3 := Tryz.zeroValue3
  t4 := Tryz.underlying4
  a4 := Tryz.isAgg4
  z4 := Tryz.sizeOf4
  v4 := Tryz.zeroValue4
  t5 := Tryz.underlying5
  a5 := Tryz.isAgg5
  z5 := Tryz.sizeOf5
  v5 := Tryz.zeroValue5
  t9 := Tryz.underlying9
  a9 := Tryz.isAgg9
  z9 := Tryz.sizeOf9
  v9 := Tryz.zeroValue9
  t28 := Tryz.underlying22
  a28 := Tryz.isAgg22
  z28 := Tryz.sizeOf22
  v28 := Tryz.zeroValue22
  t46 := Tryz.underlying278
  a46 := Tryz.isAgg278
  z46 := Tryz.sizeOf278
  v46 := Tryz.zeroValue278
  t51 := Tryz.underlying295
  a51 := Tryz.isAgg295
  z51 := Tryz.sizeOf295
  v51 := Tryz.zeroValue295
  t53 := Tryz.underlying297
  a53 := Tryz.isAgg297
  z53 := Tryz.sizeOf297
  v53 := Tryz.zeroValue297
  t131 := Tryz.underlying224
  a131 := Tryz.isAgg224
  z131 := Tryz.sizeOf224
  v131 := Tryz.zeroValue224
  t182 := Tryz.underlying287
  a182 := Tryz.isAgg287
  z182 := Tryz.sizeOf287
  v182 := Tryz.zeroValue287
  t183 := Tryz.underlying288
  a183 := Tryz.isAgg288
  z183 := Tryz.sizeOf288
  v183 := Tryz.zeroValue288
  t218 := Tryz.underlying320
  a218 := Tryz.isAgg320
  z218 := Tryz.sizeOf320
  v218 := Tryz.zeroValue320
  t222 := Tryz.underlying324
  a222 := Tryz.isAgg324
  z222 := Tryz.sizeOf324
  v222 := Tryz.zeroValue324
  t228 := Tryz.underlying337
  a228 := Tryz.isAgg337
  z228 := Tryz.sizeOf337
  v228 := Tryz.zeroValue337
  t229 := Tryz.underlying338
  a229 := Tryz.isAgg338
  z229 := Tryz.sizeOf338
  v229 := Tryz.zeroValue338 }
end Go.Proofs
namespace Go.Abs

theorem ints_VRs (m : Emb) : ∀ zs : List Int, VRs m (zs.map (AV.int .i64)) (zs.map (Value.int .i64))
  | [] => by rw [List.map_nil, VRs_nil]; rfl
  | z :: zs => VRs_cons.2 ⟨_, _, rfl, rfl, ints_VRs m zs⟩

open Go.RowKit Go.Sort in
/-- SORTED IN ITS PLACE. -/
theorem sort_ok {h : AHeap} {b o : Nat} {c : List AV} {tl : Bool} {zs : List Int} (hb : h[b]? = some (.cells c true tl)) (hle : o + zs.length ≤ c.length) (hc : (c.drop o).take zs.length = zs.map (AV.int .i64)) (hz : zs.length < 4611686018427387904) :
    SCall Go.Proofs.Tryz.prog 189 [.slice b o zs.length 1] h (.tup []) (h.set b (.cells (setL c o ((sortI zs).map (AV.int .i64))) true tl)) := by
  intro m w vs hr ha
  obtain ⟨v, vs1, rfl, hv, hr1⟩ := VRs_cons.1 ha
  rw [VRs_nil] at hr1
  subst hr1
  rw [VR] at hv
  obtain ⟨ent, ca, cap, he, rfl, hcap, hca, hsz⟩ := hv
  obtain ⟨cc, el, fz, hw, ⟨hle1, hle2⟩, hget, hown, hmt⟩ := hr.blk b ent _ he hb
  obtain ⟨hs, hfz⟩ := hown (hmt (.inl rfl)).1
  have hlt := hr.lt b ent he
  by_cases h0 : zs.length = 0
  · have hz0 := List.length_eq_zero_iff.1 h0
    subst hz0
    have hset : h.set b (.cells (setL c o ((sortI []).map (AV.int .i64))) true tl) = h := by
      apply List.ext_getElem?
      intro i
      rw [getElem?_set_blk h b i _ (hr.dom _ _ he)]
      by_cases hi : i = b
      · subst hi; simp [hb, sortI, setL]
      · simp [hi]
    rw [hset]
    refine (Go.Proofs.Any.slices_Sort_int_none Go.Proofs.Tryz.lays189 (some ca) cap w).mono ?_
    rintro e w' ⟨rfl, rfl⟩
    exact ⟨_, m, rfl, ⟨[], rfl, rfl⟩, hr, Grow.refl m h _ hr.dom⟩
  · have hca' := hca (by omega)
    subst hca'
    have hci : ∀ j (hj : j < zs.length), cc[ent.d + (o + j)]? = some (.int .i64 zs[j]) := fun j hj => by
      have : ((c.drop o).take zs.length)[j]? = some (.int .i64 zs[j]) := by rw [hc, List.getElem?_map, List.getElem?_eq_getElem hj]; rfl
      rw [List.getElem?_take_of_lt hj, List.getElem?_drop] at this
      obtain ⟨_, cv, hcv, hvr⟩ := hget _ _ this
      rw [VR] at hvr
      rw [hcv, hvr]
    have key := Go.Proofs.Any.slices_Sort_int Go.Proofs.Tryz.lays189 ent.cb (o + ent.d) cap zs w (by
      intro j hj
      have hj' : j < zs.length := by simpa using hj
      refine ⟨?_, frozen_false hw (hfz _ (by omega))⟩
      have e1 : zs.toArray[j]! = zs[j] := by simp [hj']
      simp only [World.cell?, hw, Option.isSome_none, Bool.false_eq_true, if_false]
      rw [show o + ent.d + j = ent.d + (o + j) by omega, hci j hj', e1]) hlt hz
    rw [sortI_eq] at key
    refine key.mono ?_
    rintro e w' ⟨rfl, n, os, rfl⟩
    have hsl := sortI_len zs
    obtain ⟨w1, hrun1, hr1, hg1⟩ := storeN_ok ((sortI zs).map (AV.int .i64)) _ hr he hb o 0 (by simp only [List.length_map, hsl]; omega) (by simp [AV.one]) (ints_VRs m (sortI zs))
    obtain ⟨w2, cc2, hrun2, hw2, hs2, hc2, hoth, hsz2, -, -, -⟩ := store_raw (P := Go.Proofs.Tryz.prog) ((sortI zs).map (Value.int .i64)) (o + ent.d) 0 cc w hw (by simp only [List.length_map, hsl]; omega) hfz (by simp [Value.oneCell'])
    rw [hrun1] at hrun2
    cases hrun2
    have hput : putCells (Value.int .i64) (o + ent.d) (sortI zs).toArray cc = cc2 := by
      apply Array.ext_getElem?
      intro i
      rw [hc2 i]
      unfold putCells
      rw [Array.getElem?_mapIdx]
      simp only [Nat.add_zero, List.length_map, List.size_toArray]
      by_cases hi : o + ent.d ≤ i ∧ i < o + ent.d + (sortI zs).length
      · rw [if_pos hi, List.getElem?_map, List.getElem?_eq_getElem (show i - (o + ent.d) < (sortI zs).length by omega)]
        rw [Array.getElem?_eq_getElem (show i < cc.size by omega), Option.map_some, if_pos hi, Option.map_some]
        congr 2
        rw [List.getElem!_toArray, List.getElem!_eq_getElem?_getD, List.getElem?_eq_getElem (by omega), Option.getD_some]
      · rw [if_neg hi]
        cases hx : cc[i]? with
        | none => rfl
        | some x => rw [Option.map_some, if_neg hi]
    have hheap : ∀ i, i < w.heap.size → (grow (putRow (Value.int .i64) (Sort.ahead w n) ent.cb (o + ent.d) (sortI zs).toArray) os).heap[i]? = w1.heap[i]? := fun i hi => by
      have e0 : (grow (putRow (Value.int .i64) (Sort.ahead w n) ent.cb (o + ent.d) (sortI zs).toArray) os).heap = (w.heap.modify ent.cb (onCells (putCells (Value.int .i64) (o + ent.d) (sortI zs).toArray))) ++ os := rfl
      rw [e0, Array.getElem?_append_left (by simpa using hi), Array.getElem?_modify]
      by_cases hcb : ent.cb = i
      · subst hcb
        rw [if_pos rfl, hw, hw2, Option.map_some]
        simp only [onCells, hput]
      · rw [if_neg hcb, hoth i (fun x => hcb x.symm)]
    have hsize : w.heap.size ≤ (grow (putRow (Value.int .i64) (Sort.ahead w n) ent.cb (o + ent.d) (sortI zs).toArray) os).heap.size := by
      have e0 : (grow (putRow (Value.int .i64) (Sort.ahead w n) ent.cb (o + ent.d) (sortI zs).toArray) os).heap = (w.heap.modify ent.cb (onCells (putCells (Value.int .i64) (o + ent.d) (sortI zs).toArray))) ++ os := rfl
      rw [e0]; simp
    have hr1' := hr1
    have hg1' := hg1
    rw [Nat.add_zero] at hr1' hg1'
    refine ⟨_, m, rfl, ⟨[], rfl, rfl⟩, ⟨hr1'.dom, fun b' e' k' a1 a2 => (hr1'.blk b' e' k' a1 a2).heap (hheap _ (hr.lt b' e' a1)), hr1'.sep, hr1'.glob, fun b' e' a1 => Nat.lt_of_lt_of_le (hr.lt b' e' a1) hsize⟩,
      ⟨hg1'.ext, hg1'.len, fun b' e' a1 a2 => absurd (hr.dom b' e' a2) (by omega), hg1'.tl, hsize, rfl, rfl, rfl, fun i hi hno => (hheap i hi).trans (hg1'.frame i hi hno)⟩⟩

theorem sort_nil {h : AHeap} : SCall Go.Proofs.Tryz.prog 189 [.nilSlice] h (.tup []) h := by
  intro m w vs hr ha
  obtain ⟨v, vs1, rfl, hv, hr1⟩ := VRs_cons.1 ha
  rw [VRs_nil] at hr1
  subst hr1
  rw [VR] at hv
  subst hv
  refine (Go.Proofs.Any.slices_Sort_int_none Go.Proofs.Tryz.lays189 none 0 w).mono ?_
  rintro e w' ⟨rfl, rfl⟩
  exact ⟨_, m, rfl, ⟨[], rfl, rfl⟩, hr, Grow.refl m h _ hr.dom⟩

theorem len3 {nn : List Int} (h : nn.length = 3) : ∃ a b c, nn = [a, b, c] := by
  match nn, h with
  | [a, b, c], _ => exact ⟨a, b, c, rfl⟩
theorem srt : SrtOk Go.Proofs.Tryz.prog := ⟨sort_ok, sort_nil⟩
end Go.Abs
