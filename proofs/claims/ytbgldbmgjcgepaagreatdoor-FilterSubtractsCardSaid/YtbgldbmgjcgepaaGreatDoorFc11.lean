/- Contracts: a response at one frequency, by the reference. No condition. · Contracts: the responses by the program. No condition. · Contracts: lists visited, gathered and sorted. No condition. · Sums over the places of lists; taps applied, and their adjoint: plain. No condition. · The prediction with the least error: plain. No condition. · A list less a multiple; quotients compared: plain. No condition. · Contracts: inner products by the program and by the reference. No condition. · Contracts: pairs of two lists, visited and gathered, and mapped. No condition. · Contracts: a list less a multiple, and the share removed, by the program. No condition. · Contracts: a list less a multiple, and the share removed, by the reference; the law's small functions. No condition. · The law of lists less a multiple. No condition. -/
import Derived.Test.YtbgldbmgjcgepaaGreatDoorFc10
import Derived.Test.YtbgldbmgjcgepaaGreatDoorFc3
set_option linter.all false
namespace Go.Abs

set_option maxRecDepth 10000
attribute [local irreducible] WP WC WE WB WR WF WL WG WRg WQ
section
variable {P : Program} (T : Tbl P) {h : AHeap}
include T
end
end Go.Abs
namespace Go.Abs

/-- Four cells stored into their box. -/
theorem st4 {L : List AV} (hl : L.length = 4) (ho : L.all AV.one = true) {b : Nat} {a0 a1 a2 a3 : AV} : stB 4 0 (.agg L) b (.cells [a0, a1, a2, a3] true false) = some (undefA, .set b (.cells L true false)) := by
  obtain ⟨x0, x1, x2, x3, rfl⟩ : ∃ x0 x1 x2 x3, L = [x0, x1, x2, x3] := by
    match L, hl with
    | [x0, x1, x2, x3], _ => exact ⟨x0, x1, x2, x3, rfl⟩
  exact (stB_agg (l := [x0, x1, x2, x3]) rfl ho (by show 0 + 4 ≤ 4; omega)).trans rfl
theorem Fr.setb {N : Nat} {h : AHeap} {s : AV} {es : Nat} {cs : List (List AV)} {b : Nat} {X : ABlk} (hs : Fr N h s es cs) (hb : b < N) : Fr N (h.set b X) s es cs := by
  cases hs with
  | nil => exact .nil
  | mk hN h1 he => exact .mk hN (by rw [List.getElem?_set_ne (by omega)]; exact h1) he
set_option maxRecDepth 10000
attribute [local irreducible] WP WC WE WB WR WF WL WG WRg WQ
section
variable {P : Program} (T : Tbl P) {h : AHeap}
include T
end
end Go.Abs
namespace Go.Abs

theorem Fr.swap' {N : Nat} {A B g : AHeap} {s : AV} {es : Nat} {cs : List (List AV)} (hs : Fr N (A ++ g) s es cs) (hA : A.length = N) (hB : B.length = N) : Fr N (B ++ g) s es cs := by
  subst hA; exact hs.swap hB

theorem WF.valg {P : Program} {ro : Option Nat → Prop} {ks : List Kt} {ts : TS} {h h' : AHeap} {Q : Ex → TS → AHeap → Prop} {fv : AV} {args : List AV} {d : Option Nat} {l : List IOp} {v : AV} (H : SCallV P fv args h v h') (K : WP P ro l ks (put ts d v) h' Q) : WF P ro false fv args d l ks ts h Q :=
  ⟨v, h', H, fun hq => absurd hq (by simp), K⟩

set_option maxRecDepth 10000
attribute [local irreducible] WP WC WE WB WR WF WL WG WRg WQ
section
variable {P : Program} (T : Tbl P) {h : AHeap}
include T
end
end Go.Abs
namespace Go.Abs

def sumN (f : Nat → Int) : Nat → Int
  | 0 => 0
  | n + 1 => sumN f n + f n
/-- The sum of the products of two lists. -/
def dotS (A B : List Int) : Nat → Int
  | 0 => 0
  | j + 1 => dotS A B j + atZ A j * atZ B j
theorem atZ_gen {n : Nat} {f : Nat → Int} {k : Nat} (h : k < n) : atZ (genL n f) (k : Int) = f k := by
  rw [atZ_at (by rw [genL_len]; exact h)]
  simp [genL]
end Go.Abs
namespace Go.Abs

end Go.Abs
namespace Go.Abs

def dotI (A B : List Int) : Int := dotS A B A.length
def subF (A B : List Int) (i : Nat) : Int := rndI (atZ A i * dotI B B - dotI A B * atZ B i) (dotI B B)
def subL (A B : List Int) : List Int := genL A.length (subF A B)
end Go.Abs
namespace Go.Abs

theorem atZ_bd' {l : List Int} {M : Int} (hM : 0 ≤ M) (hb : ∀ x ∈ l, -M ≤ x ∧ x ≤ M) (j : Int) : -M ≤ atZ l j ∧ atZ l j ≤ M := by
  unfold atZ
  by_cases h : 0 ≤ j
  · rw [if_pos h, List.getD_eq_getElem?_getD]
    cases hx : l[j.toNat]? with
    | none => simp; omega
    | some y => exact hb y (List.mem_of_getElem? hx)
  · rw [if_neg h]; omega
theorem prod_bd' {x y : Int} (hx : -32768 ≤ x ∧ x ≤ 32768) (hy : -32768 ≤ y ∧ y ≤ 32768) : -1073741824 ≤ x * y ∧ x * y ≤ 1073741824 := by
  have e : (x * y).natAbs ≤ 32768 * 32768 := by
    rw [Int.natAbs_mul]
    exact Nat.mul_le_mul (by omega) (by omega)
  omega
theorem dotS_bd {A B : List Int} (hA : ∀ x ∈ A, -32768 ≤ x ∧ x ≤ 32768) (hB : ∀ x ∈ B, -32768 ≤ x ∧ x ≤ 32768) : ∀ j : Nat, -(j * 1073741824 : Int) ≤ dotS A B j ∧ dotS A B j ≤ j * 1073741824
  | 0 => by simp [dotS]
  | j + 1 => by
    have h1 := dotS_bd hA hB j
    have h2 := prod_bd' (atZ_bd' (by omega) hA j) (atZ_bd' (by omega) hB j)
    rw [dotS]
    have e : ((j + 1 : Nat) : Int) * 1073741824 = j * 1073741824 + 1073741824 := by rw [Int.natCast_add, Int.add_mul]; rfl
    omega
noncomputable def chkP (l m : List Nat) : Int := firstS [chkL l, chkL m, whenS (decide ((l.length : Int) ≠ (m.length : Int))) 2]
theorem first3 {a b c : Int} (h : firstS [a, b, c] = 0) : a = 0 ∧ b = 0 ∧ c = 0 := by
  by_cases ha : a = 0
  · subst ha
    rw [firstS, if_pos rfl] at h
    obtain ⟨h1, h2⟩ := first2 h
    exact ⟨rfl, h1, h2⟩
  · rw [firstS, if_neg ha] at h; exact absurd h ha
theorem chkP_z {l m : List Nat} (h : chkP l m = 0) : (l.length ≤ 1024 ∧ ∀ b ∈ l, gridE b = 0) ∧ (∀ b ∈ m, gridE b = 0) ∧ l.length = m.length := by
  obtain ⟨h1, h2, h3⟩ := first3 h
  refine ⟨chkL_z h1, (chkL_z h2).2, ?_⟩
  by_cases he : l.length = m.length
  · exact he
  · rw [decide_eq_true (by omega)] at h3; cases h3
theorem wide {l : List Int} (h : ∀ x ∈ l, -16384 ≤ x ∧ x ≤ 16384) : ∀ x ∈ l, -32768 ≤ x ∧ x ≤ 32768 := fun x hx => by have := h x hx; omega
set_option maxRecDepth 10000
attribute [local irreducible] WP WC WE WB WR WF WL WG WRg WQ
section
variable {P : Program} (T : Tbl P) {h : AHeap}
include T
set_option maxHeartbeats 2000000 in
theorem r122 {s t : AV} {A B : List Int} (hs : IsSl h s 1 (A.map intRow)) (ht : IsSl h t 1 (B.map intRow)) (he : A.length = B.length) (hl : A.length ≤ 1024) (hA : ∀ x ∈ A, -32768 ≤ x ∧ x ≤ 32768) (hB : ∀ x ∈ B, -32768 ≤ x ∧ x ≤ 32768) : RCall P 122 [s, t] h (fun v _ => v = .int .i64 (dotI A B)) := by
  refine .st2 25 T.mix T.c122 ?_;intro ts hlen t0 t1;unfold fn122
  refine Rs (A3 @t0 @t1 hs.lenm) ?_
  refine WL.inv T.mix (fun n ts K => ∃ k : Nat, k ≤ A.length ∧ n = A.length - k ∧ K = h ∧ ts.length = 25 ∧ slot ts 1 = t ∧ slot ts 5 = .int .i64 (dotS A B k) ∧ slot ts 8 = s ∧ slot ts 9 = .int .i64 A.length ∧ slot ts 10 = .int .i64 k) A.length
    ⟨0, by omega, rfl, rfl, Sn, (Sq @t1), Swr, Sw, Sw, Swr⟩ ?_
  clear hlen t0 t1
  rintro _ ts K ⟨k, hk, rfl, rfl, hlen, t1, t5, t8, t9, t10⟩
  by_cases hlt : k < A.length
  case neg =>
    have e3 := dltF hlt
    have e4 : k = A.length := by omega
    rw [e4] at t5
    refine Rs (A6 @t1 @t5 @t8 @t9 @t10 @e3) ?_
    rfl
  have e3 := dltT hlt
  have e5 := wrapN (n := k) (by omega)
  have hlb : k < B.length := by omega
  have ix := hs.ixm (kk := .i64) hlt
  have iy := ht.ixm (kk := .i64) hlb
  have ax := atZ_at hlt
  have ay := atZ_at hlb
  have bx := hA A[k] (List.getElem_mem _)
  have by' := hB B[k] (List.getElem_mem _)
  have db := dotS_bd hA hB k
  obtain ⟨x, hx⟩ : ∃ x, x = A[k] := ⟨_, rfl⟩
  obtain ⟨y, hy⟩ : ∃ y, y = B[k] := ⟨_, rfl⟩
  have ld : ∀ {kk : AHeap}, Ext K kk → loadF none (elp s 1 k) (fun b => kk[b]?) = some (.int .i64 x, .keep) := fun {kk} e => by rw [hx]; exact hs.l1m hlt rfl e
  have le : ∀ {kk : AHeap}, Ext K kk → loadF none (elp t 1 k) (fun b => kk[b]?) = some (.int .i64 y, .keep) := fun {kk} e => by rw [hy]; exact ht.l1m hlb rfl e
  rw [← hx] at ax bx
  rw [← hy] at ay by'
  have pb := prod_bd' bx by'
  have w3 : IntKind.i64.wrap (x * y) = x * y := wrap_in (by omega) (by omega)
  have w4 : IntKind.i64.wrap (dotS A B k + x * y) = dotS A B (k + 1) := by rw [dotS, ax, ay, wrap_in (by omega) (by omega)]
  refine Rs (A13 @t1 @t5 @t8 @t9 @t10 @e3 @ix @ld @iy @le @w3 @w4 @e5) ?_
  exact ⟨A.length - (k + 1), by omega, k + 1, by omega, rfl, rfl, rfl⟩
set_option maxHeartbeats 2000000 in
theorem r40 {s t : AV} {A B : List Int} (hs : IsSl h s 1 (A.map intRow)) (ht : IsSl h t 1 (B.map intRow)) (he : A.length = B.length) (hl : A.length ≤ 1024) (hA : ∀ x ∈ A, -32768 ≤ x ∧ x ≤ 32768) (hB : ∀ x ∈ B, -32768 ≤ x ∧ x ≤ 32768) : RCall P 40 [s, t] h (fun v _ => v = .int .i64 (dotI A B)) := by
  refine .st2 25 T.mix T.c40 ?_;intro ts hlen t0 t1;unfold fn40
  refine Rs (A2 @t0 @t1) ?_
  refine WL.inv T.mix (fun n ts K => ∃ k : Nat, k ≤ A.length ∧ n = A.length - k ∧ K = h ∧ ts.length = 25 ∧ slot ts 0 = s ∧ slot ts 1 = t ∧ slot ts 5 = .int .i64 (dotS A B k) ∧ slot ts 6 = .int .i64 k) A.length
    ⟨0, by omega, rfl, rfl, Sn, (Sq @t0), (Sq @t1), Swr, Swr⟩ ?_
  clear hlen t0 t1
  rintro _ ts K ⟨k, hk, rfl, rfl, hlen, t0, t1, t5, t6⟩
  by_cases hlt : k < A.length
  case neg =>
    have e3 := dltF hlt
    have e4 : k = A.length := by omega
    rw [e4] at t5
    refine Rs (A6 @t0 @t1 @t5 @t6 hs.lenm @e3) ?_
    rfl
  have e3 := dltT hlt
  have e5 := wrapN (n := k) (by omega)
  have hlb : k < B.length := by omega
  have ix := hs.ixm (kk := .i64) hlt
  have iy := ht.ixm (kk := .i64) hlb
  have ax := atZ_at hlt
  have ay := atZ_at hlb
  have bx := hA A[k] (List.getElem_mem _)
  have by' := hB B[k] (List.getElem_mem _)
  have db := dotS_bd hA hB k
  obtain ⟨x, hx⟩ : ∃ x, x = A[k] := ⟨_, rfl⟩
  obtain ⟨y, hy⟩ : ∃ y, y = B[k] := ⟨_, rfl⟩
  have ld : ∀ {kk : AHeap}, Ext K kk → loadF none (elp s 1 k) (fun b => kk[b]?) = some (.int .i64 x, .keep) := fun {kk} e => by rw [hx]; exact hs.l1m hlt rfl e
  have le : ∀ {kk : AHeap}, Ext K kk → loadF none (elp t 1 k) (fun b => kk[b]?) = some (.int .i64 y, .keep) := fun {kk} e => by rw [hy]; exact ht.l1m hlb rfl e
  rw [← hx] at ax bx
  rw [← hy] at ay by'
  have pb := prod_bd' bx by'
  have w3 : IntKind.i64.wrap (x * y) = x * y := wrap_in (by omega) (by omega)
  have w4 : IntKind.i64.wrap (dotS A B k + x * y) = dotS A B (k + 1) := by rw [dotS, ax, ay, wrap_in (by omega) (by omega)]
  refine Rs (A13 @t0 @t1 @t5 @t6 hs.lenm @e3 @ix @ld @iy @le @w3 @w4 @e5) ?_
  exact ⟨A.length - (k + 1), by omega, k + 1, by omega, rfl, rfl, rfl⟩
set_option maxHeartbeats 1000000 in
theorem r123 {s : AV} {A : List Int} (hs : IsSl h s 1 (A.map intRow)) (hl : A.length ≤ 1024) (hA : ∀ x ∈ A, -32768 ≤ x ∧ x ≤ 32768) : RCall P 123 [s] h (fun v _ => v = .int .i64 (dotI A A)) := by
  refine .st1 6 T.mix T.c123 ?_;intro ts hlen t0;unfold fn123
  refine Rs @t0 ?_
  refine WF.ce T.c122 (r122 T hs hs rfl hl hA hA) fun g1 => ?_
  exact Rs @t0 trivial
set_option maxHeartbeats 1000000 in
theorem r121 {s t : AV} {l m : List Nat} (hs : IsSl h s 1 (l.map fltR)) (ht : IsSl h t 1 (m.map fltR)) (hl : l.length < 2 ^ 40) (hm : m.length < 2 ^ 40) : RCall P 121 [s, t] h (fun v _ => v = .int .i64 (chkP l m)) := by
  refine .st2 17 T.mix T.c121 ?_;intro ts hlen t0 t1;unfold fn121
  refine Rs (A2 @t0 @t1) ?_
  refine WF.ce T.c134 (r134 T hs hl) fun g1 => ?_
  refine Rs (A2 @t0 @t1) ?_
  refine WF.ce T.c134 (r134 T (ht.ext Xx) hm) fun g2 => ?_
  refine Rs (A4 @t0 @t1 hs.lenm ht.lenm) ?_
  refine WF.ce T.c117 (r117 T _ _) fun g3 => ?_
  refine Rs (A2 @t0 @t1) ?_
  refine WF.ce T.c116 (r116 T (isSl_ints [_, _, _]) (by simp)) fun g4 => ?_
  refine Rs (A2 @t0 @t1) ?_
  rfl
set_option maxHeartbeats 1000000 in
theorem r36 {s t : AV} {l m : List Nat} (hs : IsSl h s 1 (l.map fltR)) (ht : IsSl h t 1 (m.map fltR)) (hl : l.length < 2 ^ 40) (hm : m.length < 2 ^ 40) : RCall P 36 [s, t] h (fun v _ => v = .tup [.int .i64 (if chkP l m = 0 then dotI (l.map gridN) (m.map gridN) else 0), .int .i64 (chkP l m)]) := by
  refine .st2 18 T.mix T.c36 ?_;intro ts hlen t0 t1;unfold fn36
  refine Rs (A2 @t0 @t1) ?_
  refine WF.ce T.c121 (r121 T hs ht hl hm) fun g1 => ?_
  by_cases hz : chkP l m = 0
  case neg =>
    have d1 : decide (chkP l m ≠ 0) = true := decide_eq_true hz
    rw [if_neg hz]
    exact Rs (A3 @t0 @t1 @d1) trivial
  have d1 : decide (chkP l m ≠ 0) = false := decide_eq_false fun z => z hz
  obtain ⟨⟨q1, q2⟩, q3, q4⟩ := chkP_z hz
  rw [if_pos hz]
  refine Rs (A3 @t0 @t1 @d1) ?_
  refine WF.res T.c107 (r107 T (hs.ext Xx) hl T.c108 (g := gridN) (fun x hx k => r108 T (q2 x hx))) ?_
  intro s7 g2 is7
  refine Rs (A2 @t0 @t1) ?_
  refine WF.res T.c107 (r107 T (ht.ext Xx) hm T.c108 (g := gridN) (fun x hx k => r108 T (q3 x hx))) ?_
  intro s8 g3 is8
  refine Rs (A2 @t0 @t1) ?_
  refine WF.ce T.c122 (r122 T (is7.ext Xx) is8 (by simp [q4]) (by simpa using q1) (wide (grid_all q2)) (wide (grid_all q3))) fun g4 => ?_
  refine Rs (A2 @t0 @t1) ?_
  rw [hz]
end
end Go.Abs
namespace Go.Abs

set_option maxRecDepth 10000
attribute [local irreducible] WP WC WE WB WR WF WL WG WRg WQ
section
variable {P : Program} (T : Tbl P) {h : AHeap}
include T
set_option maxHeartbeats 2000000 in
theorem iter_pairs {ba bb : Nat} {s t : AV} {A B : List Int} (ma : h[ba]? = some (.cells [s] true false)) (mb : h[bb]? = some (.cells [t] true false)) (hs : IsSl h s 1 (A.map intRow)) (ht : IsSl h t 1 (B.map intRow)) (he : A.length = B.length) (hl : A.length < 2 ^ 62) :
    Iter P 185 [] [.ptr ba 0, .ptr bb 0] ((A.zip B).map fun p => [.agg (ratR p)]) (Ext h) := by
  refine ⟨fun l h1 J Dn hpre happ hstep hend h0 => GCall.of T.mix T.c185 ?_⟩
  have e1 := hpre 0 h1 h0
  unfold fn185
  have hlm := fun G => hs.lenm G
  have hz : (A.zip B).length = A.length := by simp [he]
  have l0 : loadF none (.ptr ba 0) (fun z => h1[z]?) = some (s, .keep) := by rw [loadF_at (e1.some ma)]; rfl
  refine Ws (A2 @l0 @hlm) ?_
  refine WL.inv T.mix (fun n ts h' => ∃ k : Nat, k ≤ A.length ∧ n = A.length - k ∧ J k h' ∧ ts.length = 23 ∧ slot ts 0 = .func (.yield l) [] [] ∧ slot ts 2 = .ptr bb 0 ∧ slot ts 6 = s ∧ slot ts 7 = .int .i64 A.length ∧ slot ts 8 = .int .i64 k) A.length
    ⟨0, by omega, rfl, h0, rfl, rfl, rfl, rfl, rfl, rfl⟩ ?_
  rintro _ ts h' ⟨k, hk, rfl, hJ, hlen, t0, t2, t6, t7, t8⟩
  by_cases hlt : k < A.length
  · have e3 : (k : Int) < A.length := by omega
    have e2 := hpre _ _ hJ
    have hlb : k < B.length := by omega
    have l1 := hs.l1m hlt rfl e2
    have hix := hs.ixm (kk := .i64) hlt
    have l2 := ht.l1m hlb rfl e2
    have hiy := ht.ixm (kk := .i64) hlb
    have lb : loadF none (.ptr bb 0) (fun z => h'[z]?) = some (t, .keep) := by rw [loadF_at (e2.some mb)]; rfl
    have hwk := wrapN (show k + 1 < 2 ^ 63 by omega)
    have bd : buildF (fillA [.int .i64 0, .int .i64 0] [(0, 1, .int .i64 A[k]), (1, 1, .int .i64 B[k])]) = some (.agg (ratR (A[k], B[k]))) := rfl
    refine Rs (A13 @t0 @t2 @t6 @t7 @t8 @e3 @decide_true @hix @l1 @lb @hiy @l2 @bd) ?_
    obtain ⟨b', k', q1, q2⟩ := hstep k (by rw [List.length_map, hz]; exact hlt) h' hJ
    rw [List.getElem_map, List.getElem_zip] at q1
    refine WF.valg q1 ?_
    cases b' with
    | true =>
      refine Rs (A7 @t0 @t2 @t6 @t7 @t8 @Bool.not_true @hwk) ?_
      exact ⟨_, by omega, k + 1, by omega, rfl, q2, rfl⟩
    | false =>
      refine Rs (A6 @t0 @t2 @t6 @t7 @t8 @Bool.not_false) ?_
      exact q2
  · have e3 : ¬ (k : Int) < A.length := by omega
    have e4 : k = A.length := by omega
    refine Rs (A7 @t0 @t2 @t6 @t7 @t8 @e3 @decide_false) ?_
    refine hend h' ?_
    rw [List.length_map, hz, ← e4]; exact hJ
set_option maxHeartbeats 1000000 in
theorem r126 {s t : AV} {A B : List Int} (hs : IsSl h s 1 (A.map intRow)) (ht : IsSl h t 1 (B.map intRow)) : RCall P 126 [s, t] h (fun v h' => ∃ ba bb, v = .func (.func 185) [] [.ptr ba 0, .ptr bb 0] ∧ h'[ba]? = some (.cells [s] true false) ∧ h'[bb]? = some (.cells [t] true false)) := by
  refine .of T.mix T.c126 ?_
  unfold fn126
  refine Ws (A2 hs.one ht.one) ?_
  exact ⟨_, _, rfl, at_1, at_new⟩
set_option maxHeartbeats 4000000 in
theorem r184 {ba bb : Nat} {s t : AV} {A B : List Int} (ma : h[ba]? = some (.cells [s] true false)) (mb : h[bb]? = some (.cells [t] true false)) (hs : IsSl h s 1 (A.map intRow)) (ht : IsSl h t 1 (B.map intRow)) (he : A.length = B.length) (hl : A.length ≤ 2 ^ 40) :
    RCall P 184 [.nilSlice, .func (.func 185) [] [.ptr ba 0, .ptr bb 0]] h (fun v h' => Fr h.length h' v 2 ((A.zip B).map ratR)) := by
  refine .of T.mix T.c184 ?_
  unfold fn184
  refine Wn ?_
  obtain ⟨D, hD⟩ : ∃ D, D = A.zip B := ⟨_, rfl⟩
  have hDl : D.length ≤ 2 ^ 40 := by rw [hD, List.length_zip]; omega
  have hI := iter_pairs T ma mb hs ht he (by omega)
  rw [← hD] at hI ⊢
  refine WC.iter T.mix T.c185 (a := []) (c := [.ptr ba 0, .ptr bb 0]) rfl hI (fun y hy => by obtain ⟨z, _, rfl⟩ := List.mem_map.1 hy; rfl)
    (fun i h' g => ∃ out, h' = h ++ [ABlk.cells [out] true false] ∧ Fr (h'.length + 1) (h' ++ [.dead] ++ g) out 2 ((D.take i).map ratR)) (fun _ _ _ => False)
    ⟨.nilSlice, rfl, .nil⟩ (fun i h' g g' hI => ?_) (fun i h' g X hl hI => ?_) (fun i hi h' g R B hl' hI => ?_) (fun e h' g hl hI => ?_)
  · obtain ⟨out, h1, h2⟩ := hI
    exact ⟨out, h1, by rw [← List.append_assoc]; exact h2.app _⟩
  · obtain ⟨out, rfl, _⟩ := hI
    exact Xx
  · obtain ⟨out, rfl, hfr⟩ := hI
    have hi' : i < D.length := by simpa using hi
    rw [List.getElem_map]
    obtain ⟨p, hp⟩ : ∃ p, p = D[i] := ⟨_, rfl⟩
    rw [← hp]
    have st := @rat_st p.1 p.2
    have hrp : ratR p = [.int .i64 p.1, .int .i64 p.2] := rfl
    rw [hrp]
    simp only [wset, hset, dset, bset, Nat.reduceAdd, Nat.reduceMul, Nat.reduceLeDiff, Nat.reduceEqDiff, setArgs, st]
    have hN : ∀ (o' : AV) (X : ABlk), (h ++ [ABlk.cells [o'] true false] ++ [X]).length = (h ++ [ABlk.cells [out] true false]).length + 1 := fun o' X => by simp only [List.length_append, List.length_cons, List.length_nil]
    refine ⟨h ++ [ABlk.cells [out] true false], g ++ [ABlk.cells [AV.int IntKind.i64 p.1, AV.int IntKind.i64 p.2] true false], by simp only [List.append_assoc], by simp, ?_⟩
    have lp : loadF (some 2) (.ptr (List.length (h ++ [ABlk.cells [out] true false] ++ [R] ++ g)) 0) (fun b => (h ++ [ABlk.cells [out] true false] ++ [B] ++ (g ++ [ABlk.cells [AV.int IntKind.i64 p.1, AV.int IntKind.i64 p.2] true false]))[b]?) = some (.agg (ratR p), .keep) := by
      rw [show List.length (h ++ [ABlk.cells [out] true false] ++ [R] ++ g) = List.length (h ++ [ABlk.cells [out] true false] ++ [B] ++ g) by simp, ← List.append_assoc, loadF_at at_new]; rfl
    have hfrB := ((hfr.swap' (hN out .dead) (hN out B)).app [ABlk.cells [AV.int IntKind.i64 p.1, AV.int IntKind.i64 p.2] true false])
    rw [List.append_assoc (h ++ [ABlk.cells [out] true false] ++ [B])] at hfrB
    obtain ⟨G, hG⟩ : ∃ G, G = g ++ [ABlk.cells [AV.int IntKind.i64 p.1, AV.int IntKind.i64 p.2] true false] := ⟨_, rfl⟩
    rw [← hG] at lp hfrB ⊢
    obtain ⟨N5, hN5⟩ : ∃ N5, N5 = List.length (h ++ [ABlk.cells [out] true false] ++ [R] ++ g) := ⟨_, rfl⟩
    rw [← hN5] at lp ⊢
    have bs : ∀ {N : Nat}, bslF 2 1 (fillA [.int .i64 0, .int .i64 0] [(0, 2, .agg (ratR p))]) N = some (.slice N 0 1 2, .push (.cells (ratR p) true true)) := fun {N} => rfl
    refine Ws (A2 @lp @bs) ?_
    refine WR.app1 (h0 := h ++ [ABlk.cells [out] true false] ++ [B]) (cs := (D.take i).map ratR) (ys := [ratR p]) (by rw [hN]; exact hfrB.app _) (Fr.push (N := 0) (Nat.zero_le _) [ratR p] (by simp [ratR])).isSl (by decide) (by simp) (by simp; omega) (by repeat first | exact Ext.refl _ | refine Ext.app _ ?_) ?_
    intro g' hl' hff hkp
    have hrow : (D.take i).map ratR ++ [ratR p] = (D.take (i + 1)).map ratR := by
      rw [List.take_add_one, List.getElem?_eq_getElem hi', List.map_append, hp]; rfl
    rw [hrow, hN] at hff
    rw [hrow]
    refine Wn ?_
    refine ⟨_, g', rfl, by simp only [List.length_append, List.length_cons, List.length_nil], ?_⟩
    refine ⟨_, rfl, ?_⟩
    have e9 : ∀ o', (h ++ [ABlk.cells [o'] true false]).length = (h ++ [ABlk.cells [out] true false]).length := fun o' => by simp only [List.length_append, List.length_cons, List.length_nil]
    rw [e9]
    exact hff.swap' (hN out B) (hN _ .dead)
  · by_cases hen : e = .normal
    · subst hen
      rw [if_pos rfl] at hI
      obtain ⟨out, rfl, hfr⟩ := hI
      rw [List.length_map, List.take_length] at hfr
      refine Wn ?_
      exact hfr.low (by simp; omega)
    · rw [if_neg hen] at hI
      exact hI.elim
set_option maxHeartbeats 1000000 in
theorem r125 {ba bb : Nat} {s t : AV} {A B : List Int} (ma : h[ba]? = some (.cells [s] true false)) (mb : h[bb]? = some (.cells [t] true false)) (hs : IsSl h s 1 (A.map intRow)) (ht : IsSl h t 1 (B.map intRow)) (he : A.length = B.length) (hl : A.length ≤ 2 ^ 40) :
    RCall P 125 [.func (.func 185) [] [.ptr ba 0, .ptr bb 0]] h (fun v h' => Fr h.length h' v 2 ((A.zip B).map ratR)) := by
  refine .of T.mix T.c125 ?_
  unfold fn125
  refine Wn ?_
  refine WF.res T.c184 (r184 T ma mb hs ht he hl) ?_
  intro v g1 hv
  refine Wn ?_
  exact hv
set_option maxHeartbeats 4000000 in
theorem r124 {s : AV} {l : List (Int × Int)} (hs : IsSl h s 2 (l.map ratR)) (hl : l.length < 2 ^ 40) {f : FuncId} {c : List AV} {AF : AFunc} (hA : compileFn P f = some AF) {g : Int × Int → Int} (hf : ∀ x ∈ l, ∀ k, Ext h k → RCall P f (.agg (ratR x) :: c) k (fun v _ => v = .int .i64 (g x))) : RCall P 124 [s, .func (.func f) [] c] h (fun v h' => IsSl h' v 1 ((l.map g).map intRow)) := by
  refine .st2 22 T.mix T.c124 ?_;intro ts hlen t0 t1;unfold fn124
  refine Rs (A3 @t0 @t1 hs.lenm) ?_
  refine WL.inv T.mix (fun n ts K => ∃ (k : Nat) (t : AV), k ≤ l.length ∧ n = l.length - k ∧ Ext h K ∧ Fr h.length K t 1 (((l.take k).map g).map intRow) ∧ ts.length = 22 ∧ slot ts 1 = .func (.func f) [] c ∧ slot ts 5 = t ∧ slot ts 8 = s ∧ slot ts 9 = .int .i64 l.length ∧ slot ts 10 = .int .i64 k) l.length
    ⟨0, .nilSlice, by omega, rfl, .refl _, .nil, Sn, (Sq @t1), Sw, Sw, Sw, Swr⟩ ?_
  clear hlen t0 t1
  rintro _ ts K ⟨k, t, hk, rfl, eK, hfr, hlen, t1, t5, t8, t9, t10⟩
  have hsK := hs.ext eK
  by_cases hlt : k < l.length
  case neg =>
    have e3 := dltF hlt
    have e4 : k = l.length := by omega
    rw [e4, List.take_length] at hfr
    refine Rs (A6 @t1 @t5 @t8 @t9 @t10 @e3) ?_
    exact ⟨eK, hfr.isSl⟩
  have e3 := dltT hlt
  have e5 := wrapN (n := k) (by omega)
  have ix := hsK.ixm (kk := .i64) hlt
  obtain ⟨x, hx⟩ : ∃ x, x = l[k] := ⟨_, rfl⟩
  have ld : ∀ {kk : AHeap}, Ext K kk → loadF (some 2) (elp s 2 k) (fun b => kk[b]?) = some (.agg (ratR x), .keep) := fun {kk} e => by rw [hx]; exact hsK.ldm hlt e
  have hmem : x ∈ l := by rw [hx]; exact List.getElem_mem _
  have ot := hfr.isSl.one
  have htk : l.take (k + 1) = l.take k ++ [x] := by rw [hx]; exact List.take_succ_eq_append_getElem hlt
  have st := @rat_st x.1 x.2
  have hrp : ratR x = [.int .i64 x.1, .int .i64 x.2] := rfl
  have hfx := hf x hmem
  rw [hrp] at ld hfx
  refine Rs (A10 @t1 @t5 @t8 @t9 @t10 @e3 @ix @ld @ot @st) ?_
  refine WF.ce hA (hfx _ (eK.trans Xx)) fun g1 => ?_
  have bs : ∀ {N : Nat}, bslF 1 1 (fillA [.int .i64 0] [(0, 1, .int .i64 (g x))]) N = some (.slice N 0 1 1, .push (.cells [.int .i64 (g x)] true true)) := fun {N} => rfl
  refine Rs (A7 @t1 @t5 @t8 @t9 @t10 @ot @bs) ?_
  refine WR.appR (B := h) (cs := ((l.take k).map g).map intRow) (z := intRow (g x)) ((hfr.app _).app _) rfl (eK.trans (Ext.trans ⟨_, rfl⟩ ⟨_, rfl⟩)) (by decide) (by rw [List.length_map, List.length_map, List.length_take]; omega) ?_
  intro W5 s' x5 hff q5
  have hrow : ((l.take k).map g).map intRow ++ [intRow (g x)] = ((l.take (k + 1)).map g).map intRow := by rw [htk, List.map_append, List.map_append]; rfl
  rw [hrow] at hff
  refine Rs (A7 @t1 @t5 @t8 @t9 @t10 @q5 @e5) ?_
  exact ⟨l.length - (k + 1), by omega, k + 1, s', by omega, rfl, x5, hff, rfl, rfl⟩
end
end Go.Abs
namespace Go.Abs

def difL (A B : List Int) : List Int := genL A.length fun i => atZ A i - atZ B i
def SubH (h : AHeap) (bad : Int) (A B : List Int) (t : AV) (r : Int × Int) (e : Int) : Prop :=
  if bad ≠ 0 then t = .nilSlice ∧ r = (0, 0) ∧ e = bad else if dotI B B = 0 then t = .nilSlice ∧ r = (0, 0) ∧ e = 17 else if fitsB (subL A B) = true then IsSl h t 1 (((subL A B).map smpl).map fltR) ∧ r = ratI (dotI A B) (dotI B B) ∧ e = 0 else t = .nilSlice ∧ r = (0, 0) ∧ e = 4
theorem SubH.ext {h k : AHeap} {bad : Int} {A B : List Int} {t : AV} {r : Int × Int} {e : Int} (s : SubH h bad A B t r e) (x : Ext h k) : SubH k bad A B t r e := by
  unfold SubH at s ⊢
  by_cases h1 : bad ≠ 0
  · rw [if_pos h1] at s ⊢; exact s
  rw [if_neg h1] at s ⊢
  by_cases h2 : dotI B B = 0
  · rw [if_pos h2] at s ⊢; exact s
  rw [if_neg h2] at s ⊢
  by_cases h3 : fitsB (subL A B) = true
  · rw [if_pos h3] at s ⊢; exact ⟨s.1.ext x, s.2⟩
  · rw [if_neg h3] at s ⊢; exact s
/-- The share removed: what it is, and its error. -/
def remR (A B : List Int) : (Int × Int) × Int := if dotI A A = 0 then ((0, 0), 6) else (ratI (dotI (difL A B) (difL A B)) (dotI A A), 0)
theorem zip_gen {A B : List Int} (he : A.length = B.length) (f : Int × Int → Int) : (A.zip B).map f = genL A.length fun i => f (atZ A i, atZ B i) := by
  refine List.ext_getElem (by simp [genL_len, he]) fun k h1 h2 => ?_
  have hk : k < A.length := by rw [genL_len] at h2; exact h2
  rw [List.getElem_map, List.getElem_zip]
  simp only [genL, List.getElem_map, List.getElem_range]
  rw [atZ_at hk, atZ_at (show k < B.length by omega)]
theorem dot_sq {A : List Int} : ∀ n : Nat, 0 ≤ dotS A A n
  | 0 => Int.le_refl _
  | n + 1 => by
    have h1 := dot_sq (A := A) n
    rw [dotS]
    have : 0 ≤ atZ A n * atZ A n := by
      rcases Int.le_total 0 (atZ A n) with h | h
      · exact Int.mul_nonneg h h
      · exact Int.mul_nonneg_of_nonpos_of_nonpos h h
    omega
theorem dif_bd {A B : List Int} (hA : ∀ x ∈ A, -16384 ≤ x ∧ x ≤ 16384) (hB : ∀ x ∈ B, -16384 ≤ x ∧ x ≤ 16384) : ∀ x ∈ difL A B, -32768 ≤ x ∧ x ≤ 32768 := fun x hx => by
  obtain ⟨i, _, rfl⟩ := List.mem_map.1 hx
  have h1 := atZ_bd hA i
  have h2 := atZ_bd hB i
  omega
theorem dotI_bd {A B : List Int} (hl : A.length ≤ 1024) (hA : ∀ x ∈ A, -32768 ≤ x ∧ x ≤ 32768) (hB : ∀ x ∈ B, -32768 ≤ x ∧ x ≤ 32768) : -2 ^ 40 ≤ dotI A B ∧ dotI A B ≤ 2 ^ 40 := by
  have h := dotS_bd hA hB A.length
  unfold dotI
  omega
theorem zip_mem {A B : List Int} {p : Int × Int} (h : p ∈ A.zip B) : p.1 ∈ A ∧ p.2 ∈ B := ⟨(List.of_mem_zip h).1, (List.of_mem_zip h).2⟩
theorem big_prod {x d : Int} (hx : -16384 ≤ x ∧ x ≤ 16384) (hd : -2 ^ 40 ≤ d ∧ d ≤ 2 ^ 40) : -2 ^ 54 ≤ x * d ∧ x * d ≤ 2 ^ 54 := by
  have e : (x * d).natAbs ≤ 16384 * 2 ^ 40 := by
    rw [Int.natAbs_mul]
    exact Nat.mul_le_mul (by omega) (by omega)
  omega
theorem box_sR {K : AHeap} {b : Nat} {a0 a1 : AV} (m : K[b]? = some (.cells [a0, a1] true false)) {z : Int × Int} : storeF 2 (.ptr b 0) (.agg (ratR z)) (fun y => K[y]?) = some (undefA, .set b (.cells (ratR z) true false)) := box_s m
theorem box_lR {K : AHeap} {b : Nat} {k0 : ABlk} (m : K[b]? = some k0) {z : Int × Int} : loadF (some 2) (.ptr b 0) (fun y => (K.set b (.cells (ratR z) true false))[y]?) = some (.agg (ratR z), .keep) := box_l m
set_option maxRecDepth 10000
attribute [local irreducible] WP WC WE WB WR WF WL WG WRg WQ
section
variable {P : Program} (T : Tbl P) {h : AHeap}
include T
set_option maxHeartbeats 1000000 in
theorem q105 {s : AV} {l : List Int} (hs : IsSl h s 1 (l.map intRow)) (hl : l.length < 2 ^ 40) : RCall P 105 [s] h (fun v h' => ∃ (t : AV) (e : Int), v = .tup [t, .int .i64 e] ∧ if fitsB l = true then Fr h.length h' t 1 ((l.map smpl).map fltR) ∧ e = 0 else t = .nilSlice ∧ e = 4) := by
  refine .st1 8 T.mix T.c105 ?_;intro ts hlen t0;unfold fn105
  refine Rs @t0 ?_
  refine WF.ce T.c180 (r180 T hs hl) fun g1 => ?_
  cases hf : fitsB l with
  | false =>
    refine Rs (A2 @t0 @Bool.not_false) ?_
    exact ⟨.nilSlice, 4, rfl, rfl, rfl⟩
  | true =>
    refine Rs (A2 @t0 @Bool.not_true) ?_
    refine WF.res T.c182 (q182 T (hs.ext Xx) hl T.c144 (g := smpl) (fun x hx k => r144 T (fits_all hf x hx).1 (fits_all hf x hx).2)) ?_
    intro s2 g2 is2
    refine Rs @t0 ?_
    exact ⟨s2, 0, rfl, is2.low (by simp), rfl⟩
set_option maxHeartbeats 2000000 in
theorem r127 {p : Int × Int} {bd bn : Nat} {den num : Int} (md : h[bd]? = some (.cells [.int .i64 den] true false)) (mn : h[bn]? = some (.cells [.int .i64 num] true false)) (h1 : -16384 ≤ p.1 ∧ p.1 ≤ 16384) (h2 : -16384 ≤ p.2 ∧ p.2 ≤ 16384) (hn : -2 ^ 40 ≤ num ∧ num ≤ 2 ^ 40) (hd : 1 ≤ den ∧ den ≤ 2 ^ 40) : RCall P 127 [.agg (ratR p), .ptr bd 0, .ptr bn 0] h (fun v _ => v = .int .i64 (rndI (p.1 * den - num * p.2) den)) := by
  refine .st3 16 T.mix T.c127 ?_;intro ts hlen t0 t1 t2;unfold fn127
  have ld := @ldx _ _ _ md
  have ln := @ldx _ _ _ mn
  have b1 := big_prod h1 ⟨by omega, hd.2⟩
  have b2 := big_prod h2 hn
  have w1 : IntKind.i64.wrap (p.1 * den) = p.1 * den := wrap_in (by omega) (by omega)
  have w2 : IntKind.i64.wrap (p.2 * num) = p.2 * num := wrap_in (by omega) (by omega)
  have w3 : IntKind.i64.wrap (p.1 * den - p.2 * num) = p.1 * den - num * p.2 := by rw [wrap_in (by omega) (by omega), Int.mul_comm p.2]
  have i0 : ∀ {N : Nat}, iadaF 2 1 (.ptr N 0) (.int .i64 0) = some (.ptr N 0) := fun {N} => rfl
  have i1 : ∀ {N : Nat}, iadaF 2 1 (.ptr N 0) (.int .i64 1) = some (.ptr N 1) := fun {N} => rfl
  have r0 : ldB none 0 (.cells (ratR p) true false) = some (.int .i64 p.1, .keep) := rfl
  have r1 : ldB none 1 (.cells (ratR p) true false) = some (.int .i64 p.2, .keep) := rfl
  have r2 : ∀ {z : Int}, ldB none 0 (.cells [.int .i64 z] true false) = some (.int .i64 z, .keep) := fun {z} => rfl
  repeat (first | simp (config := { maxSteps := 1000000 }) only [wset, hset, dset, bset, Nat.reduceAdd, Nat.reduceMul, Nat.reduceLeDiff, Nat.reduceEqDiff, pset, hlen, if_false, if_true, t0, t1, t2, td_box, i0, i1, r0, r1, ld, ln, r2, w1, w2, w3] | simp (config := { maxSteps := 1000000 }) (disch := first | (simp only [List.length_append, List.length_cons, List.length_nil] <;> omega) | rfl | omega | fail) only [kset, wset, hset, dset, bset, Nat.reduceAdd, Nat.reduceMul, Nat.reduceLeDiff, Nat.reduceEqDiff, pset, hlen, if_false, if_true, t0, t1, t2, td_box, i0, i1, r0, r1, ld, ln, r2, w1, w2, w3])
  rw [Int.mul_comm] at b2
  refine WF.ce T.c128 (r128 T (n := p.1 * den - num * p.2) (d := den) ⟨by omega, by omega⟩ hd) fun g1 => ?_
  exact Rs (A3 @t0 @t1 @t2) trivial
set_option maxHeartbeats 2000000 in
theorem r130 {p : Int × Int} (h1 : -16384 ≤ p.1 ∧ p.1 ≤ 16384) (h2 : -16384 ≤ p.2 ∧ p.2 ≤ 16384) : RCall P 130 [.agg (ratR p)] h (fun v _ => v = .int .i64 (p.1 - p.2)) := by
  refine .st1 8 T.mix T.c130 ?_;intro ts hlen t0;unfold fn130
  have w3 : IntKind.i64.wrap (p.1 - p.2) = p.1 - p.2 := wrap_in (by omega) (by omega)
  have i0 : ∀ {N : Nat}, iadaF 2 1 (.ptr N 0) (.int .i64 0) = some (.ptr N 0) := fun {N} => rfl
  have i1 : ∀ {N : Nat}, iadaF 2 1 (.ptr N 0) (.int .i64 1) = some (.ptr N 1) := fun {N} => rfl
  have r0 : ldB none 0 (.cells (ratR p) true false) = some (.int .i64 p.1, .keep) := rfl
  have r1 : ldB none 1 (.cells (ratR p) true false) = some (.int .i64 p.2, .keep) := rfl
  exact Rs (A7 @t0 @td_box @i0 @i1 @r0 @r1 @w3) trivial
set_option maxHeartbeats 4000000 in
theorem r38 {s t : AV} {l m : List Nat} (hs : IsSl h s 1 (l.map fltR)) (ht : IsSl h t 1 (m.map fltR)) (hl : l.length < 2 ^ 40) (hm : m.length < 2 ^ 40) : RCall P 38 [s, t] h (fun v _ => v = .tup [.agg (ratR (if chkP l m = 0 then (remR (l.map gridN) (m.map gridN)).1 else (0, 0))), .int .i64 (if chkP l m = 0 then (remR (l.map gridN) (m.map gridN)).2 else chkP l m)]) := by
  refine .st2 36 T.mix T.c38 ?_;intro ts hlen t0 t1;unfold fn38
  have st := @rat_st 0 0
  refine Rs (A2 @t0 @t1) ?_
  refine WF.ce T.c121 (r121 T (hs.ext Xx) (ht.ext Xx) hl hm) fun g1 => ?_
  by_cases hz : chkP l m = 0
  case neg =>
    have d1 : decide (chkP l m ≠ 0) = true := decide_eq_true hz
    rw [if_neg hz, if_neg hz]
    refine Rs (A4 @t0 @t1 @d1 @st) ?_
    rfl
  have d1 : decide (chkP l m ≠ 0) = false := decide_eq_false fun z => z hz
  obtain ⟨⟨q1, q2⟩, q3, q4⟩ := chkP_z hz
  rw [if_pos hz, if_pos hz]
  refine Rs (A3 @t0 @t1 @d1) ?_
  refine WF.res T.c107 (r107 T (hs.ext Xx) hl T.c108 (g := gridN) (fun x hx k => r108 T (q2 x hx))) ?_
  intro s7 g2 is7
  refine Rs (A2 @t0 @t1) ?_
  refine WF.res T.c107 (r107 T (ht.ext Xx) hm T.c108 (g := gridN) (fun x hx k => r108 T (q3 x hx))) ?_
  intro s8 g3 is8
  obtain ⟨A, hA⟩ : ∃ A, A = l.map gridN := ⟨_, rfl⟩
  obtain ⟨B, hB⟩ : ∃ B, B = m.map gridN := ⟨_, rfl⟩
  have hAl : A.length = l.length := by rw [hA]; simp
  have hBl : B.length = m.length := by rw [hB]; simp
  have bA := grid_all q2
  have bB := grid_all q3
  rw [← hA] at is7 bA ⊢
  rw [← hB] at is8 bB ⊢
  refine Rs (A2 @t0 @t1) ?_
  refine WF.ce T.c123 (r123 T (is7.ext Xx) (by omega) (wide bA)) fun g4 => ?_
  have eb := dotI_bd (B := A) (by omega) (wide bA) (wide bA)
  have en : 0 ≤ dotI A A := dot_sq _
  by_cases hE : dotI A A = 0
  · have d2 : decide (dotI A A = 0) = true := decide_eq_true hE
    have e2 : remR A B = ((0, 0), 6) := if_pos hE
    rw [e2]
    refine Rs (A4 @t0 @t1 @d2 @st) ?_
    rfl
  have d2 : decide (dotI A A = 0) = false := decide_eq_false hE
  have e2 : remR A B = (ratI (dotI (difL A B) (difL A B)) (dotI A A), 0) := if_neg hE
  rw [e2]
  refine Rs (A3 @t0 @t1 @d2) ?_
  refine WF.res T.c126 (r126 T (is7.ext Xx) (is8.ext Xx)) ?_
  rintro _ g5 ⟨ba, bb, rfl, ma, mb⟩
  refine Rs (A2 @t0 @t1) ?_
  refine WF.res T.c125 (r125 T ma mb (is7.ext Xx) (is8.ext Xx) (by omega) (by omega)) ?_
  intro s9 g6 fr9
  refine Rs (A2 @t0 @t1) ?_
  refine WF.res T.c124 (r124 T (c := []) fr9.isSl (by rw [List.length_zip]; omega) T.c130 (g := fun p => p.1 - p.2) (fun x hx k _ => r130 T (bA _ (zip_mem hx).1) (bB _ (zip_mem hx).2))) ?_
  intro s10 g7 is10
  have hz2 : (A.zip B).map (fun p => p.1 - p.2) = difL A B := zip_gen (by omega) _
  rw [hz2] at is10
  have hdl : (difL A B).length ≤ 1024 := by rw [difL, genL_len]; omega
  have db := dif_bd bA bB
  refine Rs (A2 @t0 @t1) ?_
  refine WF.ce T.c123 (r123 T is10 hdl db) fun g8 => ?_
  have eb2 := dotI_bd hdl db db
  refine Rs (A2 @t0 @t1) ?_
  refine WF.ce T.c129 (r129 T _ _ (by omega) (by omega) (by omega)) fun g9 => ?_
  obtain ⟨Y, hY⟩ : ∃ Y, Y = h ++ [ABlk.cells [AV.int IntKind.i64 0, AV.int IntKind.i64 0] true false] ++ g1 ++ g2 ++ g3 ++ g4 ++ g5 ++ g6 ++ g7 ++ g8 ++ g9 := ⟨_, rfl⟩
  have eY : Ext (h ++ [ABlk.cells [AV.int IntKind.i64 0, AV.int IntKind.i64 0] true false]) Y := by rw [hY]; exact Xx
  rw [← hY]
  have m4 := eY.some at_new
  have s4 := @box_sR _ _ _ _ m4 (ratI (dotI (difL A B) (difL A B)) (dotI A A))
  have l4 := @box_lR _ _ _ m4 (ratI (dotI (difL A B) (difL A B)) (dotI A A))
  refine Rs (A2 @s4 @l4) ?_
  exact ⟨ext_set eY, trivial⟩
set_option maxHeartbeats 4000000 in
theorem r37 {s t : AV} {l m : List Nat} (hs : IsSl h s 1 (l.map fltR)) (ht : IsSl h t 1 (m.map fltR)) (hl : l.length < 2 ^ 40) (hm : m.length < 2 ^ 40) : RCall P 37 [s, t] h (fun v h' => ∃ (u : AV) (r : Int × Int) (e : Int), v = .tup [u, .agg (ratR r), .int .i64 e] ∧ SubH h' (chkP l m) (l.map gridN) (m.map gridN) u r e) := by
  refine .st2 51 T.mix T.c37 ?_;intro ts hlen t0 t1;unfold fn37
  have st := @rat_st 0 0
  refine Rs (A2 @t0 @t1) ?_
  refine WF.ce T.c121 (r121 T (hs.ext Xx) (ht.ext Xx) hl hm) fun g1 => ?_
  by_cases hz : chkP l m = 0
  case neg =>
    have d1 : decide (chkP l m ≠ 0) = true := decide_eq_true hz
    refine Rs (A4 @t0 @t1 @d1 @st) ?_
    exact ⟨.nilSlice, (0, 0), _, rfl, by unfold SubH; rw [if_pos hz]; exact ⟨rfl, rfl, rfl⟩⟩
  have d1 : decide (chkP l m ≠ 0) = false := decide_eq_false fun z => z hz
  obtain ⟨⟨q1, q2⟩, q3, q4⟩ := chkP_z hz
  refine Rs (A3 @t0 @t1 @d1) ?_
  refine WF.res T.c107 (r107 T (hs.ext Xx) hl T.c108 (g := gridN) (fun x hx k => r108 T (q2 x hx))) ?_
  intro s7 g2 is7
  refine Rs (A2 @t0 @t1) ?_
  refine WF.res T.c107 (r107 T (ht.ext Xx) hm T.c108 (g := gridN) (fun x hx k => r108 T (q3 x hx))) ?_
  intro s8 g3 is8
  obtain ⟨A, hA⟩ : ∃ A, A = l.map gridN := ⟨_, rfl⟩
  obtain ⟨B, hB⟩ : ∃ B, B = m.map gridN := ⟨_, rfl⟩
  have hAl : A.length = l.length := by rw [hA]; simp
  have hBl : B.length = m.length := by rw [hB]; simp
  have bA := grid_all q2
  have bB := grid_all q3
  rw [← hA] at is7 bA ⊢
  rw [← hB] at is8 bB ⊢
  refine Rs (A2 @t0 @t1) ?_
  refine WF.ce T.c123 (r123 T (is8.ext Xx) (by omega) (wide bB)) fun g4 => ?_
  have eb := dotI_bd (A := B) (by omega) (wide bB) (wide bB)
  have en : 0 ≤ dotI B B := dot_sq _
  obtain ⟨den, hden⟩ : ∃ den, den = dotI B B := ⟨_, rfl⟩
  obtain ⟨B0, hB0⟩ : ∃ B0, B0 = h ++ [ABlk.cells [AV.int IntKind.i64 0, AV.int IntKind.i64 0] true false] ++ g1 ++ g2 ++ g3 ++ g4 := ⟨_, rfl⟩
  have eB0 : Ext (h ++ [ABlk.cells [AV.int IntKind.i64 0, AV.int IntKind.i64 0] true false]) B0 := by rw [hB0]; exact Xx
  have is7 := is7.ext (show Ext _ B0 by rw [hB0]; exact Xx)
  have is8 := is8.ext (show Ext _ B0 by rw [hB0]; exact Xx)
  have hSub : ∀ {k : AHeap} {u : AV} {r : Int × Int} {e : Int}, (if den = 0 then u = .nilSlice ∧ r = (0, 0) ∧ e = 17 else if fitsB (subL A B) = true then IsSl k u 1 (((subL A B).map smpl).map fltR) ∧ r = ratI (dotI A B) den ∧ e = 0 else u = .nilSlice ∧ r = (0, 0) ∧ e = 4) → SubH k (chkP l m) A B u r e := fun x => by unfold SubH; rw [if_neg (fun z => z hz), ← hden]; exact x
  have ed : 0 ≤ den ∧ den ≤ 2 ^ 40 := by rw [hden]; omega
  rw [← hB0, ← hden]
  have bi : ∀ {n : Int} {N : Nat}, boxF (.int .i64 n) N = some (.ptr N 0, .push (.cells [.int .i64 n] true false)) := fun {n N} => rfl
  have i1 : ∀ {z y : Int} {b : Nat}, stB 1 0 (.int .i64 z) b (.cells [.int .i64 y] true false) = some (undefA, .set b (.cells [.int .i64 z] true false)) := fun {z y b} => rfl
  have r2 : ∀ {z : Int}, ldB none 0 (.cells [.int .i64 z] true false) = some (.int .i64 z, .keep) := fun {z} => rfl
  by_cases hE : den = 0
  · have d2 : decide (den = 0) = true := decide_eq_true hE
    have mz := (eB0.trans (show Ext B0 (B0 ++ [ABlk.cells [AV.int IntKind.i64 den] true false]) from ⟨_, rfl⟩)).some at_new
    have s3 := @box_s _ _ _ _ mz 0 0
    have l3 := @box_l _ _ _ mz 0 0
    refine Rs (A8 @t0 @t1 @bi @i1 @r2 @d2 @s3 @l3) ?_
    exact ⟨ext_set (eB0.trans ⟨_, rfl⟩), .nilSlice, (0, 0), 17, rfl, hSub (by rw [if_pos hE]; exact ⟨rfl, rfl, rfl⟩)⟩
  have d2 : decide (den = 0) = false := decide_eq_false hE
  refine Rs (A6 @t0 @t1 @bi @i1 @r2 @d2) ?_
  refine WF.ce T.c122 (r122 T (is7.ext Xx) (is8.ext Xx) (by omega) (by omega) (wide bA) (wide bB)) fun g5 => ?_
  have eb2 := dotI_bd (B := B) (by omega) (wide bA) (wide bB)
  obtain ⟨num, hnum⟩ : ∃ num, num = dotI A B := ⟨_, rfl⟩
  rw [← hnum] at eb2 ⊢
  refine Rs (A4 @t0 @t1 @bi @i1) ?_
  obtain ⟨B2, hB2⟩ : ∃ B2, B2 = B0 ++ [ABlk.cells [AV.int IntKind.i64 den] true false] ++ g5 ++ [ABlk.cells [AV.int IntKind.i64 num] true false] := ⟨_, rfl⟩
  obtain ⟨bd, hbd⟩ : ∃ bd, bd = B0.length := ⟨_, rfl⟩
  obtain ⟨bn, hbn⟩ : ∃ bn, bn = (B0 ++ [ABlk.cells [AV.int IntKind.i64 den] true false] ++ g5).length := ⟨_, rfl⟩
  have md : B2[bd]? = some (.cells [.int .i64 den] true false) := by rw [hB2, hbd]; exact at_2
  have mn : B2[bn]? = some (.cells [.int .i64 num] true false) := by rw [hB2, hbn]; exact at_new
  have eB2 : Ext B0 B2 := by rw [hB2]; exact Xx
  rw [← hB2, ← hbd, ← hbn]
  clear hB2
  have is7 := is7.ext eB2
  have is8 := is8.ext eB2
  refine WF.res T.c126 (r126 T is7 is8) ?_
  rintro _ g6 ⟨ba, bb, rfl, ma, mb⟩
  refine Rs (A2 @t0 @t1) ?_
  refine WF.res T.c125 (r125 T ma mb (is7.ext Xx) (is8.ext Xx) (by omega) (by omega)) ?_
  intro s9 g7 fr9
  refine Rs (A2 @t0 @t1) ?_
  refine WF.res T.c124 (r124 T (c := [.ptr bd 0, .ptr bn 0]) fr9.isSl (by rw [List.length_zip]; omega) T.c127 (g := fun p => rndI (p.1 * den - num * p.2) den) (fun x hx k ek => r127 T ((Ext.trans Xx ek).some md) ((Ext.trans Xx ek).some mn) (bA _ (zip_mem hx).1) (bB _ (zip_mem hx).2) eb2 ⟨by omega, by omega⟩)) ?_
  intro s10 g8 is10
  have hz2 : (A.zip B).map (fun p => rndI (p.1 * den - num * p.2) den) = subL A B := by rw [zip_gen (by omega), hden, hnum]; rfl
  rw [hz2] at is10
  refine Rs (A2 @t0 @t1) ?_
  refine WF.res T.c105 (q105 T is10 (by rw [subL, genL_len]; omega)) ?_
  rintro _ g9 ⟨u, e, rfl, hu⟩
  have nl : h.length < (B2 ++ g6 ++ g7 ++ g8).length := by
    have := (eB0.trans eB2).len
    simp only [List.length_append, List.length_cons, List.length_nil] at this ⊢
    omega
  obtain ⟨Y, hY⟩ : ∃ Y, Y = B2 ++ g6 ++ g7 ++ g8 ++ g9 := ⟨_, rfl⟩
  have e2Y : Ext B2 Y := by rw [hY]; exact Xx
  have eY : Ext (h ++ [ABlk.cells [AV.int IntKind.i64 0, AV.int IntKind.i64 0] true false]) Y := eB0.trans (eB2.trans e2Y)
  rw [← hY] at hu ⊢
  have mz := eY.some at_new
  have ld := @ldx _ _ _ (e2Y.some md)
  have ln := @ldx _ _ _ (e2Y.some mn)
  by_cases hf : fitsB (subL A B) = true
  case neg =>
    rw [if_neg hf] at hu
    obtain ⟨rfl, rfl⟩ := hu
    have d3 : decide ((4 : Int) ≠ 0) = true := rfl
    have s3 := @box_s _ _ _ _ mz 0 0
    have l3 := @box_l _ _ _ mz 0 0
    refine Rs (A5 @t0 @t1 @d3 @s3 @l3) ?_
    exact ⟨ext_set eY, .nilSlice, (0, 0), 4, rfl, hSub (by rw [if_neg hE, if_neg hf]; exact ⟨rfl, rfl, rfl⟩)⟩
  rw [if_pos hf] at hu
  obtain ⟨hu, rfl⟩ := hu
  have d3 : decide ((0 : Int) ≠ 0) = false := rfl
  have ou := hu.isSl.one
  repeat (first | simp (config := { maxSteps := 1000000 }) only [wset, hset, dset, bset, Nat.reduceAdd, Nat.reduceMul, Nat.reduceLeDiff, Nat.reduceEqDiff, pset, hlen, if_false, if_true, t0, t1, d3, ou, ld, ln, r2] | simp (config := { maxSteps := 1000000 }) (disch := first | (simp only [List.length_append, List.length_cons, List.length_nil] <;> omega) | rfl | omega | fail) only [kset, wset, hset, dset, bset, Nat.reduceAdd, Nat.reduceMul, Nat.reduceLeDiff, Nat.reduceEqDiff, pset, hlen, if_false, if_true, t0, t1, d3, ou, ld, ln, r2])
  refine WF.ce T.c129 (r129 T _ _ (by omega) (by omega) (by omega)) fun g10 => ?_
  have eY2 := eY.trans (show Ext Y (Y ++ g10) from ⟨_, rfl⟩)
  have hu2 := hu.app g10
  obtain ⟨Z, hZ⟩ : ∃ Z, Z = Y ++ g10 := ⟨_, rfl⟩
  rw [← hZ] at eY2 hu2 ⊢
  have mz2 := eY2.some at_new
  have s3 := @box_sR _ _ _ _ mz2 (ratI num den)
  have l3 := @box_lR _ _ _ mz2 (ratI num den)
  refine Rs (A5 @t0 @t1 @ou @s3 @l3) ?_
  refine ⟨ext_set eY2, u, ratI num den, 0, rfl, hSub ?_⟩
  rw [if_neg hE, if_pos hf, ← hnum]
  exact ⟨(hu2.setb nl).isSl, rfl, rfl⟩
end
end Go.Abs
namespace Go.Abs

def SubR (N : Nat) (h : AHeap) (A B : List Int) (t : AV) (r : Int × Int) (e : Int) : Prop :=
  if dotI B B = 0 then t = .nilSlice ∧ r = (0, 0) ∧ e = 17 else Fr N h t 1 ((subL A B).map intRow) ∧ r = ratI (dotI A B) (dotI B B) ∧ e = 0
set_option maxRecDepth 10000
attribute [local irreducible] WP WC WE WB WR WF WL WG WRg WQ
section
variable {P : Program} (T : Tbl P) {h : AHeap}
include T
set_option maxHeartbeats 4000000 in
theorem r41 {s t : AV} {A B : List Int} (hs : IsSl h s 1 (A.map intRow)) (ht : IsSl h t 1 (B.map intRow)) (he : A.length = B.length) (hl : A.length ≤ 1024) (bA : ∀ x ∈ A, -16384 ≤ x ∧ x ≤ 16384) (bB : ∀ x ∈ B, -16384 ≤ x ∧ x ≤ 16384) : RCall P 41 [s, t] h (fun v h' => ∃ (u : AV) (r : Int × Int) (e : Int), v = .tup [u, .agg (ratR r), .int .i64 e] ∧ SubR h.length h' A B u r e) := by
  refine .st2 48 T.mix T.c41 ?_;intro ts hlen t0 t1;unfold fn41
  have st := @rat_st 0 0
  refine Rs (A2 @t0 @t1) ?_
  refine WF.ce T.c40 (r40 T (ht.ext Xx) (ht.ext Xx) rfl (by omega) (wide bB) (wide bB)) fun g1 => ?_
  have eb := dotI_bd (B := B) (by omega) (wide bB) (wide bB)
  have en : 0 ≤ dotI B B := dot_sq _
  obtain ⟨den, hden⟩ : ∃ den, den = dotI B B := ⟨_, rfl⟩
  have ed : 0 ≤ den ∧ den ≤ 2 ^ 40 := by rw [hden]; omega
  have hSub : ∀ {k : AHeap} {u : AV} {r : Int × Int} {e : Int}, (if den = 0 then u = .nilSlice ∧ r = (0, 0) ∧ e = 17 else Fr h.length k u 1 ((subL A B).map intRow) ∧ r = ratI (dotI A B) den ∧ e = 0) → SubR h.length k A B u r e := fun x => by unfold SubR; rw [← hden]; exact x
  rw [← hden]
  by_cases hE : den = 0
  · have d2 : decide (den = 0) = true := decide_eq_true hE
    refine Rs (A4 @t0 @t1 @d2 @st) ?_
    exact ⟨.nilSlice, (0, 0), 17, rfl, hSub (by rw [if_pos hE]; exact ⟨rfl, rfl, rfl⟩)⟩
  have d2 : decide (den = 0) = false := decide_eq_false hE
  refine Rs (A3 @t0 @t1 @d2) ?_
  refine WF.ce T.c40 (r40 T (hs.ext Xx) (ht.ext Xx) he (by omega) (wide bA) (wide bB)) fun g2 => ?_
  have eb2 := dotI_bd (B := B) hl (wide bA) (wide bB)
  obtain ⟨num, hnum⟩ : ∃ num, num = dotI A B := ⟨_, rfl⟩
  rw [← hnum] at eb2 ⊢
  refine Rs (A2 @t0 @t1) ?_
  obtain ⟨C, hC⟩ : ∃ C, C = h ++ [ABlk.cells [AV.int IntKind.i64 0, AV.int IntKind.i64 0] true false] ++ g1 ++ g2 := ⟨_, rfl⟩
  have eC : Ext (h ++ [ABlk.cells [AV.int IntKind.i64 0, AV.int IntKind.i64 0] true false]) C := by rw [hC]; exact Xx
  have nC : h.length < C.length := by rw [hC]; simp only [List.length_append, List.length_cons, List.length_nil]; omega
  have hsC := hs.ext (Ext.trans ⟨_, rfl⟩ eC)
  have htC := ht.ext (Ext.trans ⟨_, rfl⟩ eC)
  rw [← hC]
  obtain ⟨f, hf⟩ : ∃ f : Nat → Int, f = subF A B := ⟨_, rfl⟩
  have hG : subL A B = genL A.length f := by rw [hf]; rfl
  refine WL.inv T.mix (fun n ts K => ∃ (k : Nat) (u : AV), k ≤ A.length ∧ n = A.length - k ∧ Ext C K ∧ Fr C.length K u 1 ((genL k f).map intRow) ∧ ts.length = 48 ∧ slot ts 0 = s ∧ slot ts 1 = t ∧ slot ts 5 = .ptr h.length 0 ∧ slot ts 7 = .int .i64 den ∧ slot ts 8 = .int .i64 num ∧ slot ts 9 = u ∧ slot ts 10 = .int .i64 k) A.length
    ⟨0, .nilSlice, by omega, rfl, .refl _, .nil, Sn, (Sq @t0), (Sq @t1), Sw, Sw, Sw, Sw, Swr⟩ ?_
  clear hlen t0 t1
  rintro _ ts K ⟨k, u, hk, rfl, eK, hfr, hlen, t0, t1, t5, t7, t8, t9, t10⟩
  have hsK := hsC.ext eK
  have htK := htC.ext eK
  by_cases hlt : k < A.length
  case neg =>
    have e3 := dltF hlt
    have e4 : k = A.length := by omega
    rw [e4, ← hG] at hfr
    have ou := hfr.isSl.one
    refine Rs (A10 @t0 @t1 @t5 @t7 @t8 @t9 @t10 hsK.lenm @e3 @ou) ?_
    refine WF.ce T.c132 (z132 T _ _ (by omega) (by omega) (by omega)) fun g3 => ?_
    have eY := (eC.trans eK).trans (show Ext K (K ++ g3) from ⟨_, rfl⟩)
    have hu := hfr.app g3
    obtain ⟨Y, hY⟩ : ∃ Y, Y = K ++ g3 := ⟨_, rfl⟩
    rw [← hY] at eY hu ⊢
    have mz := eY.some at_new
    have s3 := @box_sR _ _ _ _ mz (ratI num den)
    have l3 := @box_lR _ _ _ mz (ratI num den)
    refine Rs (A7 @t0 @t1 @t5 @t9 @ou @s3 @l3) ?_
    refine ⟨ext_set eY, u, ratI num den, 0, rfl, hSub ?_⟩
    rw [if_neg hE, ← hnum]
    exact ⟨(hu.setb nC).low (by omega), rfl, rfl⟩
  have e3 := dltT hlt
  have e5 := wrapN (n := k) (by omega)
  have hlb : k < B.length := by omega
  have ix := hsK.ixm (kk := .i64) hlt
  have iy := htK.ixm (kk := .i64) hlb
  have ax := atZ_at hlt
  have ay := atZ_at hlb
  have bx := bA A[k] (List.getElem_mem _)
  have by' := bB B[k] (List.getElem_mem _)
  obtain ⟨x, hx⟩ : ∃ x, x = A[k] := ⟨_, rfl⟩
  obtain ⟨y, hy⟩ : ∃ y, y = B[k] := ⟨_, rfl⟩
  have ld : ∀ {kk : AHeap}, Ext K kk → loadF none (elp s 1 k) (fun b => kk[b]?) = some (.int .i64 x, .keep) := fun {kk} e => by rw [hx]; exact hsK.l1m hlt rfl e
  have le : ∀ {kk : AHeap}, Ext K kk → loadF none (elp t 1 k) (fun b => kk[b]?) = some (.int .i64 y, .keep) := fun {kk} e => by rw [hy]; exact htK.l1m hlb rfl e
  rw [← hx] at ax bx
  rw [← hy] at ay by'
  have b1 := big_prod bx ⟨by omega, ed.2⟩
  have b2 := big_prod by' eb2
  rw [Int.mul_comm] at b2
  have w1 : IntKind.i64.wrap (x * den) = x * den := wrap_in (by omega) (by omega)
  have w2 : IntKind.i64.wrap (num * y) = num * y := wrap_in (by omega) (by omega)
  have w3 : IntKind.i64.wrap (x * den - num * y) = x * den - num * y := wrap_in (by omega) (by omega)
  have ot := hfr.isSl.one
  refine Rs (A17 @t0 @t1 @t5 @t7 @t8 @t9 @t10 hsK.lenm @e3 @ix @ld @iy @le @w1 @w2 @w3 @ot) ?_
  refine WF.ce T.c131 (r131 T ⟨by omega, by omega⟩ ⟨by omega, by omega⟩) fun g3 => ?_
  have hfk : rndI (x * den - num * y) den = f k := by rw [hf, subF, ← hden, ← hnum, ax, ay]
  rw [hfk]
  have bs : ∀ {N : Nat}, bslF 1 1 (fillA [.int .i64 0] [(0, 1, .int .i64 (f k))]) N = some (.slice N 0 1 1, .push (.cells [.int .i64 (f k)] true true)) := fun {N} => rfl
  refine Rs (A9 @t0 @t1 @t5 @t7 @t8 @t9 @t10 @ot @bs) ?_
  refine WR.appR (B := C) (cs := (genL k f).map intRow) (z := intRow (f k)) (hfr.app _) rfl (eK.trans ⟨_, rfl⟩) (by decide) (by rw [List.length_map, genL_len]; omega) ?_
  intro W5 s' x5 hff q5
  have hrow : (genL k f).map intRow ++ [intRow (f k)] = (genL (k + 1) f).map intRow := by rw [genL_succ, List.map_append]; rfl
  rw [hrow] at hff
  refine Rs (A9 @t0 @t1 @t5 @t7 @t8 @t9 @t10 @q5 @e5) ?_
  exact ⟨A.length - (k + 1), by omega, k + 1, s', by omega, rfl, x5, hff, rfl, rfl⟩
set_option maxHeartbeats 4000000 in
theorem r42 {s t : AV} {A B : List Int} (hs : IsSl h s 1 (A.map intRow)) (ht : IsSl h t 1 (B.map intRow)) (he : A.length = B.length) (hl : A.length ≤ 1024) (bA : ∀ x ∈ A, -16384 ≤ x ∧ x ≤ 16384) (bB : ∀ x ∈ B, -16384 ≤ x ∧ x ≤ 16384) : RCall P 42 [s, t] h (fun v _ => v = .tup [.agg (ratR (remR A B).1), .int .i64 (remR A B).2]) := by
  refine .st2 45 T.mix T.c42 ?_;intro ts hlen t0 t1;unfold fn42
  have st := @rat_st 0 0
  refine Rs (A2 @t0 @t1) ?_
  refine WF.ce T.c40 (r40 T (hs.ext Xx) (hs.ext Xx) rfl hl (wide bA) (wide bA)) fun g1 => ?_
  have eb := dotI_bd (B := A) hl (wide bA) (wide bA)
  have en : 0 ≤ dotI A A := dot_sq _
  by_cases hE : dotI A A = 0
  · have d2 : decide (dotI A A = 0) = true := decide_eq_true hE
    have e2 : remR A B = ((0, 0), 6) := if_pos hE
    rw [e2]
    refine Rs (A4 @t0 @t1 @d2 @st) ?_
    rfl
  have d2 : decide (dotI A A = 0) = false := decide_eq_false hE
  have e2 : remR A B = (ratI (dotI (difL A B) (difL A B)) (dotI A A), 0) := if_neg hE
  rw [e2]
  have hdl : (difL A B).length = A.length := by rw [difL, genL_len]
  have db := dif_bd bA bB
  have eb2 := dotI_bd (by omega) db db
  refine Rs (A3 @t0 @t1 @d2) ?_
  obtain ⟨C, hC⟩ : ∃ C, C = h ++ [ABlk.cells [AV.int IntKind.i64 0, AV.int IntKind.i64 0] true false] ++ g1 := ⟨_, rfl⟩
  have eC : Ext (h ++ [ABlk.cells [AV.int IntKind.i64 0, AV.int IntKind.i64 0] true false]) C := by rw [hC]; exact Xx
  have hsK := hs.ext (Ext.trans ⟨_, rfl⟩ eC)
  have htK := ht.ext (Ext.trans ⟨_, rfl⟩ eC)
  rw [← hC]
  refine WL.inv T.mix (fun n ts K => ∃ k : Nat, k ≤ A.length ∧ n = A.length - k ∧ K = C ∧ ts.length = 45 ∧ slot ts 0 = s ∧ slot ts 1 = t ∧ slot ts 4 = .ptr h.length 0 ∧ slot ts 6 = .int .i64 (dotI A A) ∧ slot ts 7 = .int .i64 (dotS (difL A B) (difL A B) k) ∧ slot ts 8 = .int .i64 k) A.length
    ⟨0, by omega, rfl, rfl, Sn, (Sq @t0), (Sq @t1), Sw, Sw, Swr, Swr⟩ ?_
  clear hlen t0 t1
  rintro _ ts K ⟨k, hk, rfl, rfl, hlen, t0, t1, t4, t6, t7, t8⟩
  by_cases hlt : k < A.length
  case neg =>
    have e3 := dltF hlt
    have e4 : k = A.length := by omega
    have e6 : dotS (difL A B) (difL A B) k = dotI (difL A B) (difL A B) := by rw [dotI, hdl, e4]
    rw [e6] at t7
    refine Rs (A8 @t0 @t1 @t4 @t6 @t7 @t8 hsK.lenm @e3) ?_
    refine WF.ce T.c132 (z132 T _ _ (by omega) (by omega) (by omega)) fun g3 => ?_
    have eY := eC.trans (show Ext K (K ++ g3) from ⟨_, rfl⟩)
    obtain ⟨Y, hY⟩ : ∃ Y, Y = K ++ g3 := ⟨_, rfl⟩
    rw [← hY] at eY ⊢
    have mz := eY.some at_new
    have s3 := @box_sR _ _ _ _ mz (ratI (dotI (difL A B) (difL A B)) (dotI A A))
    have l3 := @box_lR _ _ _ mz (ratI (dotI (difL A B) (difL A B)) (dotI A A))
    refine Rs (A5 @t0 @t1 @t4 @s3 @l3) ?_
    exact ⟨ext_set eY, trivial⟩
  have e3 := dltT hlt
  have e5 := wrapN (n := k) (by omega)
  have hlb : k < B.length := by omega
  have ix := hsK.ixm (kk := .i64) hlt
  have iy := htK.ixm (kk := .i64) hlb
  have ax := atZ_at hlt
  have ay := atZ_at hlb
  have bx := bA A[k] (List.getElem_mem _)
  have by' := bB B[k] (List.getElem_mem _)
  have cb := dotS_bd db db k
  have ad : atZ (difL A B) k = atZ A k - atZ B k := atZ_gen hlt
  obtain ⟨x, hx⟩ : ∃ x, x = A[k] := ⟨_, rfl⟩
  obtain ⟨y, hy⟩ : ∃ y, y = B[k] := ⟨_, rfl⟩
  have ld : ∀ {kk : AHeap}, Ext K kk → loadF none (elp s 1 k) (fun b => kk[b]?) = some (.int .i64 x, .keep) := fun {kk} e => by rw [hx]; exact hsK.l1m hlt rfl e
  have le : ∀ {kk : AHeap}, Ext K kk → loadF none (elp t 1 k) (fun b => kk[b]?) = some (.int .i64 y, .keep) := fun {kk} e => by rw [hy]; exact htK.l1m hlb rfl e
  rw [← hx] at ax bx
  rw [← hy] at ay by'
  rw [ax, ay] at ad
  have pb := prod_bd' (x := x - y) (y := x - y) ⟨by omega, by omega⟩ ⟨by omega, by omega⟩
  have w1 : IntKind.i64.wrap (x - y) = x - y := wrap_in (by omega) (by omega)
  have w2 : IntKind.i64.wrap ((x - y) * (x - y)) = (x - y) * (x - y) := wrap_in (by omega) (by omega)
  have w3 : IntKind.i64.wrap (dotS (difL A B) (difL A B) k + (x - y) * (x - y)) = dotS (difL A B) (difL A B) (k + 1) := by rw [dotS, ad, wrap_in (by omega) (by omega)]
  refine Rs (A16 @t0 @t1 @t4 @t6 @t7 @t8 hsK.lenm @e3 @ix @ld @iy @le @w1 @w2 @w3 @e5) ?_
  exact ⟨A.length - (k + 1), by omega, k + 1, by omega, rfl, rfl, rfl⟩
def sameN (l r le re : Int) : Bool := decide (le = re) && ((decide (re ≠ 0) && decide (l = 0)) || (decide (re = 0) && decide (l = r)))
set_option maxHeartbeats 2000000 in
theorem r44 (l r le re : Int) : RCall P 44 [.int .i64 l, .int .i64 le, .int .i64 re, .int .i64 r] h (fun v _ => v = .bool (sameN l r le re)) := by
  refine .st4 29 T.mix T.c44 ?_;intro ts hlen t0 t1 t2 t3;unfold fn44
  unfold sameN
  by_cases h1 : le = re
  case neg =>
    have d1 : decide (le = re) = false := decide_eq_false h1
    refine Rs (A5 @t0 @t1 @t2 @t3 @d1) ?_
    rfl
  have d1 : decide (le = re) = true := decide_eq_true h1
  by_cases h2 : re = 0
  · have d2 : decide (re ≠ 0) = false := decide_eq_false fun z => z h2
    have d3 : decide (re = 0) = true := decide_eq_true h2
    refine Rs (A7 @t0 @t1 @t2 @t3 @d1 @d2 @d3) ?_
    simp
  · have d2 : decide (re ≠ 0) = true := decide_eq_true h2
    have d3 : decide (re = 0) = false := decide_eq_false h2
    by_cases h4 : l = 0
    · have d4 : decide (l = 0) = true := decide_eq_true h4
      refine Rs (A8 @t0 @t1 @t2 @t3 @d1 @d2 @d3 @d4) ?_
      rfl
    · have d4 : decide (l = 0) = false := decide_eq_false h4
      refine Rs (A8 @t0 @t1 @t2 @t3 @d1 @d2 @d3 @d4) ?_
      rfl
end
end Go.Abs
namespace Go.Abs
theorem st_R {z : Int × Int} {b : Nat} {a0 a1 : AV} : stB 2 0 (.agg (ratR z)) b (.b [a0, a1]) = some (undefA, .set b (.b (ratR z))) := rat_st
theorem sameN_t {l r e : Int} (h1 : e ≠ 0 → l = 0) (h2 : e = 0 → l = r) : sameN l r e e = true := by
  unfold sameN
  by_cases h : e = 0
  · simp [h, h2 h]
  · simp [h, h1 h]
theorem sameR_t {l r : Int × Int} {e : Int} (h1 : e ≠ 0 → l = (0, 0)) (h2 : e = 0 → l = r) : sameR l r e e = true := by
  unfold sameR
  by_cases h : e = 0
  · simp [h, h2 h]
  · simp [h, h1 h]
def sbC : ICode := match (fn4).body with
  | .seq _ (.seq _ (.seq _ (.seq _ (.seq _ (.seq _ (.seq _ (.seq _ (.seq _ (.seq _ c))))))))) => c
  | c => c
def sbD : ICode := match sbC with
  | .seq _ c => c
  | c => c
def sbE : ICode := match sbD with
  | .seq _ c => c
  | c => c
set_option maxRecDepth 10000
attribute [local irreducible] WP WC WE WB WR WF WL WG WRg WQ
section
variable {P : Program} (T : Tbl P) {h Y : AHeap} {ts : TS} {i e1 e2 e3 bad two three inner : Int} {u w : AV} {b8 b10 b17 b18 : Nat} {r rr rz : Int × Int} {want : List Int}
include T
set_option maxHeartbeats 2000000 in
theorem sb_fin (hlen : ts.length = 131) (t5 : slot ts 5 = .i i) (t6 : slot ts 6 = .i e1) (t7 : slot ts 7 = u) (t8 : slot ts 8 = .ptr b8 0) (t9 : slot ts 9 = .i e2) (t10 : slot ts 10 = .ptr b10 0) (t11 : slot ts 11 = .i e3) (t12 : slot ts 12 = .i bad) (t13 : slot ts 13 = .i two) (t14 : slot ts 14 = .i three) (t15 : slot ts 15 = .i inner) (t16 : slot ts 16 = w) (t17 : slot ts 17 = .ptr b17 0) (t18 : slot ts 18 = .ptr b18 0)
    (e0 : Ext h Y) (m8 : Y[b8]? = some (.b (ratR r))) (m10 : Y[b10]? = some (.b (ratR rr))) (m17 : Y[b17]? = some (.b (ratR r))) (m18 : Y[b18]? = some (.b (ratR rz))) (hu : HeardS Y two want u e2) (hw : two = 0 → IsSl Y w 1 (want.map intRow)) (hl : want.length < 2 ^ 40) (hN : sameN i inner e1 bad = true) (hR : sameR rr rz e3 three = true) :
    WC P inFn sbE [] ts Y (FQ [(4, none)] fun v k => Ext h k ∧ v = .bool true) := by
  unfold sbE sbD sbC fn4
  dsimp only
  refine Rs (A4 @t5 @t6 @t12 @t15) ?_
  refine WF.ce T.c44 (r44 T _ _ _ _) fun g1 => ?_
  rw [hN]
  refine Rs (A4 @t7 @t9 @t13 @t16) ?_
  refine WF.ce T.c35 (r35 T (hu.ext Xx) (fun z => (hw z).ext Xx) hl) fun g2 => ?_
  have l8 := @ldx _ _ _ m8
  have l10 := @ldx _ _ _ m10
  have l17 := @ldx _ _ _ m17
  have l18 := @ldx _ _ _ m18
  have eq := @eq_rat r r
  rw [decide_eq_true rfl] at eq
  refine Rs (A12 @t8 @t17 @l8 @l17 @td_a @eq @t10 @t11 @t14 @t18 @l10 @l18) ?_
  refine WF.ce T.c45 (r45 T _ _ _ _) fun g3 => ?_
  rw [hR]
  refine Rs @t8 ?_
  exact ⟨e0.trans Xx, trivial⟩
set_option maxHeartbeats 2000000 in
theorem sb_mid {W : AHeap} {r2 : Int × Int} (hlen : ts.length = 131) (t5 : slot ts 5 = .i i) (t6 : slot ts 6 = .i e1) (t7 : slot ts 7 = u) (t8 : slot ts 8 = .ptr b8 0) (t9 : slot ts 9 = .i e2) (t10 : slot ts 10 = .ptr b10 0) (t11 : slot ts 11 = .i e3) (t12 : slot ts 12 = .i bad) (t13 : slot ts 13 = .i two) (t14 : slot ts 14 = .i three) (t15 : slot ts 15 = .i inner) (t16 : slot ts 16 = w) (t17 : slot ts 17 = .ptr b17 0) (t18 : slot ts 18 = .ptr b18 0)
    (e0 : Ext h W) (eW : Ext W Y) (n17 : W.length ≤ b17) (n18 : b17 ≠ b18) (m8 : W[b8]? = some (.b (ratR r))) (m10 : W[b10]? = some (.b (ratR rr))) (m17 : Y[b17]? = some (.b (ratR r2))) (m18 : Y[b18]? = some (.b (ratR rz))) (hu : HeardS W two want u e2) (hw : two = 0 → Fr (b17 + 1) Y w 1 (want.map intRow)) (ow : w.one = true) (hl : want.length < 2 ^ 40) (hN : sameN i inner e1 bad = true) (hR : sameR rr rz e3 three = true)
    (hr : r = if two = 0 ∧ fitsB want = false then (0, 0) else r2) :
    WC P inFn sbD [] ts Y (FQ [(4, none)] fun v k => Ext h k ∧ v = .bool true) := by
  by_cases h2 : two = 0
  case neg =>
    have d1 : decide (two = 0) = false := decide_eq_false h2
    rw [if_neg (fun z => h2 z.1)] at hr
    subst hr
    show WC P inFn (.seq _ sbE) _ _ _ _
    refine Rs (A2 @t13 @d1) ?_
    exact sb_fin T (w := w) (u := u) Sn (Sq @t5) (Sq @t6) (Sq @t7) (Sq @t8) (Sq @t9) (Sq @t10) (Sq @t11) (Sq @t12) (Sq @t13) (Sq @t14) (Sq @t15) (Sq @t16) (Sq @t17) (Sq @t18) (e0.trans eW) (eW.some m8) (eW.some m10) m17 m18 (hu.ext eW) (fun z => absurd z h2) hl hN hR
  have d1 : decide (two = 0) = true := decide_eq_true h2
  have hw := hw h2
  show WC P inFn (.seq _ sbE) _ _ _ _
  repeat (first | simp (config := { maxSteps := 1000000 }) only [wset, hset, dset, bset, Nat.reduceAdd, Nat.reduceMul, Nat.reduceLeDiff, Nat.reduceEqDiff, pset, hlen, if_false, if_true, t13, d1, t16, ow] | simp (config := { maxSteps := 1000000 }) (disch := first | (simp only [List.length_append, List.length_cons, List.length_nil] <;> omega) | rfl | omega | fail) only [kset, wset, hset, dset, bset, Nat.reduceAdd, Nat.reduceMul, Nat.reduceLeDiff, Nat.reduceEqDiff, pset, hlen, if_false, if_true, t13, d1, t16, ow])
  refine WF.res T.c43 (r43 T hw.isSl hl) ?_
  rintro _ g1 ⟨t2, e2', rfl, ht2⟩
  unfold ToldS at ht2
  have m17' := (show Ext Y (Y ++ g1) from ⟨_, rfl⟩).some m17
  have m18' := (show Ext Y (Y ++ g1) from ⟨_, rfl⟩).some m18
  have eW' := eW.trans (show Ext Y (Y ++ g1) from ⟨_, rfl⟩)
  have hw' := hw.app g1
  have ot : t2.one = true := by
    by_cases hf : fitsB want = true
    · rw [if_pos hf] at ht2; exact ht2.1.one
    · rw [if_neg hf] at ht2; rw [ht2.1]; rfl
  obtain ⟨V, hV⟩ : ∃ V, V = Y ++ g1 := ⟨_, rfl⟩
  rw [← hV] at m17' m18' eW' hw' ⊢
  by_cases hf : fitsB want = true
  · rw [if_pos hf] at ht2
    rw [if_neg (fun z => by rw [hf] at z; exact absurd z.2 (by simp))] at hr
    subst hr
    have d2 : decide (e2' ≠ 0) = false := by rw [ht2.2]; rfl
    refine Rs (A2 @ot @d2) ?_
    exact sb_fin T (w := w) (u := u) Sn (Sq @t5) (Sq @t6) (Sq @t7) (Sq @t8) (Sq @t9) (Sq @t10) (Sq @t11) (Sq @t12) (Sq @t13) (Sq @t14) (Sq @t15) (Sq @t16) (Sq @t17) (Sq @t18) (e0.trans eW') (eW'.some m8) (eW'.some m10) m17' m18' (hu.ext eW') (fun _ => hw'.isSl) hl hN hR
  · rw [if_neg hf] at ht2
    rw [if_pos ⟨h2, by simpa using hf⟩] at hr
    subst hr
    have d2 : decide (e2' ≠ 0) = true := by rw [ht2.2]; rfl
    have s17 := @box_s _ _ _ _ m17' 0 0
    have eS : Ext W (V.set b17 (.b (ratR (0, 0)))) := ext_setG eW' n17
    refine Rs (A4 @ot @d2 @t17 @s17) ?_
    exact sb_fin T (w := w) (u := u) Sn (Sq @t5) (Sq @t6) (Sq @t7) (Sq @t8) (Sq @t9) (Sq @t10) (Sq @t11) (Sq @t12) (Sq @t13) (Sq @t14) (Sq @t15) (Sq @t16) (Sq @t17) (Sq @t18) (e0.trans eS) (eS.some m8) (eS.some m10) (set_eq' m17') (set_ne' n18 m18') (hu.ext eS) (fun _ => (hw'.setb (by omega)).isSl) hl hN hR
set_option maxHeartbeats 6000000 in
theorem r4 (X : Xfl P) (ha : ∀ k, Ext h k → RCall P 17 [] k (fun v _ => v = .bool true)) {s t : AV} {l m : List Nat} (hs : IsSl h s 1 (l.map fltR)) (ht : IsSl h t 1 (m.map fltR)) : RCall P 4 [s, t] h (fun v _ => v = .bool true) := by
  refine .st2 131 T.mix T.c4 ?_;intro ts hlen t0 t1;unfold fn4
  show WC P inFn (.seq _ (.seq _ (.seq _ (.seq _ (.seq _ (.seq _ (.seq _ (.seq _ (.seq _ (.seq _ sbC)))))))))) _ _ _ _
  refine Rs (A2 @t0 @t1) ?_
  refine WF.ce T.c17 (ha _ Xx) fun g1 => ?_
  by_cases hsh : (decide (l.length ≤ 32) || decide (l.length = 1025)) = true
  case neg =>
    have hsf : (decide (l.length ≤ 32) || decide (l.length = 1025)) = false := by simpa using hsh
    refine Rs (A3 @t0 @t1 @Bool.not_true) ?_
    refine WF.ce T.c19 (r19 T (hs.ext Xx)) fun g2 => ?_
    refine Rs (A4 @t0 @t1 @hsf @Bool.not_false) ?_
    refine WF.ce T.c17 (ha _ Xx) fun g3 => ?_
    exact Rs (A2 @t0 @t1) trivial
  refine Rs (A3 @t0 @t1 @Bool.not_true) ?_
  refine WF.ce T.c19 (r19 T (hs.ext Xx)) fun g2 => ?_
  refine Rs (A4 @t0 @t1 @hsh @Bool.not_true) ?_
  refine WF.ce T.c19 (r19 T (ht.ext Xx)) fun g3 => ?_
  by_cases hsm : (decide (m.length ≤ 32) || decide (m.length = 1025)) = true
  case neg =>
    have hsf : (decide (m.length ≤ 32) || decide (m.length = 1025)) = false := by simpa using hsm
    refine Rs (A4 @t0 @t1 @hsf @Bool.not_false) ?_
    refine WF.ce T.c17 (ha _ Xx) fun g3 => ?_
    exact Rs (A2 @t0 @t1) trivial
  have hl : l.length < 2 ^ 40 := by
    have : l.length ≤ 32 ∨ l.length = 1025 := by simpa using hsh
    omega
  have hm : m.length < 2 ^ 40 := by
    have : m.length ≤ 32 ∨ m.length = 1025 := by simpa using hsm
    omega
  refine Rs (A4 @t0 @t1 @hsm @Bool.not_true) ?_
  refine WF.res T.c22 (r22 T (hs.ext Xx) hl) ?_
  intro a1 g4 is1
  refine Rs (A2 @t0 @t1) ?_
  refine WF.res T.c22 (r22 T (ht.ext Xx) hm) ?_
  intro a2 g5 is2
  refine Rs (A2 @t0 @t1) ?_
  refine WF.ce T.c36 (r36 T (is1.ext Xx) (is2.ext Xx) hl hm) fun g6 => ?_
  refine Rs (A2 @t0 @t1) ?_
  refine WF.res T.c22 (r22 T (hs.ext Xx) hl) ?_
  intro a3 g7 is3
  refine Rs (A2 @t0 @t1) ?_
  refine WF.res T.c22 (r22 T (ht.ext Xx) hm) ?_
  intro a4 g8 is4
  refine Rs (A2 @t0 @t1) ?_
  refine WF.res T.c37 (r37 T (is3.ext Xx) (is4.ext Xx) hl hm) ?_
  rintro _ g9 ⟨u, r, e, rfl, hS⟩
  obtain ⟨X0, hX0⟩ : ∃ X0, X0 = h ++ g1 ++ g2 ++ g3 ++ g4 ++ g5 ++ g6 ++ g7 ++ g8 ++ g9 := ⟨_, rfl⟩
  have eX0 : Ext h X0 := by rw [hX0]; exact Xx
  rw [← hX0] at hS ⊢
  clear is1 is2 is3 is4 hX0
  have ou : u.one = true := by
    unfold SubH at hS
    split at hS
    · rw [hS.1]; rfl
    split at hS
    · rw [hS.1]; rfl
    split at hS
    · exact hS.1.one
    · rw [hS.1]; rfl
  have stR := @st_R
  refine Rs (A4 @t0 @t1 @ou @stR) ?_
  refine WF.res T.c22 (r22 T (hs.ext (eX0.trans Xx)) hl) ?_
  intro a3 g7 is3
  refine Rs (A2 @t0 @t1) ?_
  refine WF.res T.c22 (r22 T (ht.ext (eX0.trans Xx)) hm) ?_
  intro a4 g8 is4
  refine Rs (A2 @t0 @t1) ?_
  refine WF.ce T.c38 (r38 T (is3.ext Xx) (is4.ext Xx) hl hm) fun g10 => ?_
  obtain ⟨rr, hrr⟩ : ∃ rr, rr = (if chkP l m = 0 then (remR (l.map gridN) (m.map gridN)).1 else (0, 0)) := ⟨_, rfl⟩
  obtain ⟨e3, he3⟩ : ∃ e3, e3 = (if chkP l m = 0 then (remR (l.map gridN) (m.map gridN)).2 else chkP l m) := ⟨_, rfl⟩
  obtain ⟨i, hi⟩ : ∃ i, i = (if chkP l m = 0 then dotI (l.map gridN) (m.map gridN) else 0) := ⟨_, rfl⟩
  rw [← hrr, ← he3, ← hi]
  obtain ⟨X1, hX1⟩ : ∃ X1, X1 = X0 ++ [ABlk.b (ratR r)] ++ g7 ++ g8 ++ g10 := ⟨_, rfl⟩
  have eX1 : Ext (X0 ++ [ABlk.b (ratR r)]) X1 := by rw [hX1]; exact Xx
  have m8 : X1[X0.length]? = some (.b (ratR r)) := eX1.some at_new
  have eh1 : Ext h X1 := eX0.trans (Ext.trans ⟨_, rfl⟩ eX1)
  have hS := hS.ext (Ext.trans ⟨_, rfl⟩ eX1)
  rw [← hX1]
  clear is3 is4 hX1
  refine Rs (A3 @t0 @t1 @stR) ?_
  refine WF.ce T.c28 (r28 T X (hs.ext (eh1.trans Xx)) hl) fun g11 => ?_
  refine Rs (A2 @t0 @t1) ?_
  refine WF.ce T.c28 (r28 T X (ht.ext (eh1.trans Xx)) hm) fun g12 => ?_
  refine Rs (A4 @t0 @t1 hs.lenm ht.lenm) ?_
  refine WF.ce T.c39 (r39 T _ _) fun g13 => ?_
  refine Rs (A2 @t0 @t1) ?_
  refine WF.ce T.c27 (r27 T (isSl_ints [_, _, _]) (by simp)) fun g14 => ?_
  have hE : firstS [chkL l, chkL m, whenS (decide ((l.length : Int) ≠ (m.length : Int))) 2] = chkP l m := rfl
  obtain ⟨W, hW⟩ : ∃ W, W = X1 ++ [ABlk.b (ratR rr)] ++ g11 ++ g12 ++ g13 ++ [ABlk.cells [AV.int IntKind.i64 (chkL l), AV.int IntKind.i64 (chkL m), AV.int IntKind.i64 (whenS (decide ((l.length : Int) ≠ (m.length : Int))) 2)] true true] ++ g14 := ⟨_, rfl⟩
  have eW : Ext (X1 ++ [ABlk.b (ratR rr)]) W := by rw [hW]; exact Xx
  rw [← hW, hE]
  clear hW
  have eW1 : Ext X1 W := Ext.trans ⟨_, rfl⟩ eW
  have m10 : W[X1.length]? = some (.b (ratR rr)) := eW.some at_new
  have m8 := eW1.some m8
  have hS := hS.ext eW1
  have ehW := eh1.trans eW1
  obtain ⟨b8, hb8⟩ : ∃ b8, b8 = X0.length := ⟨_, rfl⟩
  obtain ⟨b10, hb10⟩ : ∃ b10, b10 = X1.length := ⟨_, rfl⟩
  rw [← hb8] at m8 ⊢
  rw [← hb10] at m10 ⊢
  have z2 : ([.i 0, .i 0] : List AV) = ratR (0, 0) := rfl
  have hWl : (subL (l.map gridN) (m.map gridN)).length < 2 ^ 40 := by rw [subL, genL_len, List.length_map]; exact hl
  have bx2 : ∀ {N : Nat}, boxF (.agg [.i 0, .i 0]) N = some (.ptr N 0, .push (.b (ratR (0, 0)))) := fun {N} => rfl
  refine Rs (A3 @t0 @t1 @bx2) ?_
  have hY : ∀ {a b : ABlk}, (W ++ [a]).length = W.length + 1 := fun {a b} => by simp
  obtain ⟨b17, hb17⟩ : ∃ b17, b17 = W.length := ⟨_, rfl⟩
  obtain ⟨b18, hb18⟩ : ∃ b18, b18 = (W ++ [ABlk.b (ratR (0, 0))]).length := ⟨_, rfl⟩
  have n18 : b18 = b17 + 1 := by rw [hb18, hb17]; simp
  obtain ⟨Y, hYe⟩ : ∃ Y, Y = W ++ [ABlk.b (ratR (0, 0))] ++ [ABlk.b (ratR (0, 0))] := ⟨_, rfl⟩
  have eY : Ext W Y := by rw [hYe]; exact Xx
  have m17 : Y[b17]? = some (.b (ratR (0, 0))) := by rw [hYe, hb17]; exact at_1
  have m18 : Y[b18]? = some (.b (ratR (0, 0))) := by rw [hYe, hb18]; exact at_new
  have lY : Y.length = b17 + 2 := by rw [hYe, hb17]; simp
  rw [← hb17, ← hb18, ← hYe]
  clear hYe
  by_cases hz : chkP l m = 0
  case neg =>
    have d1 : decide (chkP l m = 0) = false := decide_eq_false hz
    unfold SubH at hS
    rw [if_pos hz] at hS
    obtain ⟨rfl, rfl, rfl⟩ := hS
    rw [if_neg hz] at hrr he3 hi
    subst hrr he3 hi
    show WC P inFn (.seq _ sbD) _ _ _ _
    refine Rs (A3 @t0 @t1 @d1) ?_
    exact sb_mid T (W := W) (w := .nilSlice) (u := .nilSlice) (i := 0) (e1 := chkP l m) (e2 := chkP l m) (e3 := chkP l m) (bad := chkP l m) (two := chkP l m) (three := chkP l m) (inner := 0) (want := []) (r2 := (0, 0)) (rz := (0, 0)) Sn Sw Sw Sw Sw Sw Sw Sw Sw Sw Sw Sw Sw Sw Sw ehW eY (by omega) (by omega) m8 m10 m17 m18 (by unfold HeardS; rw [if_pos hz]; exact ⟨rfl, rfl⟩) (fun z => absurd z hz) rfl (by simp) (sameN_t (fun _ => rfl) (fun z => absurd z hz)) (sameR_t (fun _ => rfl) (fun z => absurd z hz)) (by rw [if_neg (fun z => hz z.1)])
  have d1 : decide (chkP l m = 0) = true := decide_eq_true hz
  obtain ⟨⟨q1, q2⟩, q3, q4⟩ := chkP_z hz
  rw [if_pos hz] at hrr he3 hi
  show WC P inFn (.seq _ sbD) _ _ _ _
  refine Rs (A3 @t0 @t1 @d1) ?_
  refine WF.res T.c29 (q29 T (hs.ext (ehW.trans eY)) hl q2) ?_
  intro sA g15 fA
  refine Rs (A2 @t0 @t1) ?_
  refine WF.res T.c29 (q29 T (ht.ext ((ehW.trans eY).trans Xx)) hm q3) ?_
  intro sB g16 fB
  obtain ⟨A, hA⟩ : ∃ A, A = l.map gridN := ⟨_, rfl⟩
  obtain ⟨B, hB⟩ : ∃ B, B = m.map gridN := ⟨_, rfl⟩
  have hAl : A.length = l.length := by rw [hA]; simp
  have hBl : B.length = m.length := by rw [hB]; simp
  have bA := grid_all q2
  have bB := grid_all q3
  rw [← hA, ← hB] at hS hWl
  rw [← hA] at fA bA hrr he3 hi
  rw [← hB] at fB bB hrr he3 hi
  have fA := fA.app g16
  have fB := fB.low (show Y.length ≤ _ by simp)
  obtain ⟨V, hV⟩ : ∃ V, V = Y ++ g15 ++ g16 := ⟨_, rfl⟩
  have eV : Ext Y V := by rw [hV]; exact Xx
  rw [← hV] at fA fB ⊢
  clear hV
  refine Rs (A2 @t0 @t1) ?_
  refine WF.ce T.c40 (r40 T fA.isSl fB.isSl (by omega) (by omega) (wide bA) (wide bB)) fun g17 => ?_
  refine Rs (A2 @t0 @t1) ?_
  refine WF.res T.c41 (r41 T (fA.app g17).isSl (fB.app g17).isSl (by omega) (by omega) bA bB) ?_
  rintro _ g18 ⟨w, r2, two, rfl, hR2⟩
  have ow : w.one = true := by
    unfold SubR at hR2
    split at hR2
    · rw [hR2.1]; rfl
    · exact hR2.1.isSl.one
  have hFr : two = 0 → Fr Y.length (V ++ g17 ++ g18) w 1 ((subL A B).map intRow) ∧ r2 = ratI (dotI A B) (dotI B B) ∧ dotI B B ≠ 0 := fun z => by
    unfold SubR at hR2
    by_cases hE : dotI B B = 0
    · rw [if_pos hE] at hR2; rw [hR2.2.2] at z; cases z
    · rw [if_neg hE] at hR2; exact ⟨hR2.1.low (by have := eV.len; simp; omega), hR2.2.1, hE⟩
  have h17 : two ≠ 0 → two = 17 ∧ r2 = (0, 0) ∧ dotI B B = 0 := fun z => by
    unfold SubR at hR2
    by_cases hE : dotI B B = 0
    · rw [if_pos hE] at hR2; exact ⟨hR2.2.2, hR2.2.1, hE⟩
    · rw [if_neg hE] at hR2; exact absurd hR2.2.2 z
  have fA2 := (fA.app g17).app g18
  have fB2 := (fB.app g17).app g18
  have eU : Ext Y (V ++ g17 ++ g18) := eV.trans Xx
  obtain ⟨U, hU⟩ : ∃ U, U = V ++ g17 ++ g18 := ⟨_, rfl⟩
  rw [← hU] at fA2 fB2 eU hFr ⊢
  clear hU hR2
  have m17U := eU.some m17
  have m18U := eU.some m18
  have s17 := @box_sR _ _ _ _ m17U r2
  repeat (first | simp (config := { maxSteps := 1000000 }) only [wset, hset, dset, bset, Nat.reduceAdd, Nat.reduceMul, Nat.reduceLeDiff, Nat.reduceEqDiff, pset, hlen, if_false, if_true, t0, t1, ow, s17] | simp (config := { maxSteps := 1000000 }) (disch := first | (simp only [List.length_append, List.length_cons, List.length_nil] <;> omega) | rfl | omega | fail) only [kset, wset, hset, dset, bset, Nat.reduceAdd, Nat.reduceMul, Nat.reduceLeDiff, Nat.reduceEqDiff, pset, hlen, if_false, if_true, t0, t1, ow, s17])
  have eS : Ext W (U.set b17 (.b (ratR r2))) := ext_setG (eY.trans eU) (by omega)
  have fA3 := fA2.setb (X := .b (ratR r2)) (show b17 < Y.length by omega)
  have fB3 := fB2.setb (X := .b (ratR r2)) (show b17 < Y.length by omega)
  have hFr3 : two = 0 → Fr Y.length (U.set b17 (.b (ratR r2))) w 1 ((subL A B).map intRow) := fun z => (hFr z).1.setb (by omega)
  have m17S : (U.set b17 (.b (ratR r2)))[b17]? = some (.b (ratR r2)) := set_eq' m17U
  have m18S : (U.set b17 (.b (ratR r2)))[b18]? = some (.b (ratR (0, 0))) := set_ne' (by omega) m18U
  obtain ⟨S, hSe⟩ : ∃ S, S = U.set b17 (.b (ratR r2)) := ⟨_, rfl⟩
  rw [← hSe] at eS fA3 fB3 hFr3 m17S m18S ⊢
  clear hSe
  refine WF.ce T.c42 (r42 T fA3.isSl fB3.isSl (by omega) (by omega) bA bB) fun g19 => ?_
  have m18T := (show Ext S (S ++ g19) from ⟨_, rfl⟩).some m18S
  have s18 := @box_sR _ _ _ _ m18T (remR A B).1
  repeat (first | simp (config := { maxSteps := 1000000 }) only [wset, hset, dset, bset, Nat.reduceAdd, Nat.reduceMul, Nat.reduceLeDiff, Nat.reduceEqDiff, pset, hlen, if_false, if_true, t0, t1, ow, s18] | simp (config := { maxSteps := 1000000 }) (disch := first | (simp only [List.length_append, List.length_cons, List.length_nil] <;> omega) | rfl | omega | fail) only [kset, wset, hset, dset, bset, Nat.reduceAdd, Nat.reduceMul, Nat.reduceLeDiff, Nat.reduceEqDiff, pset, hlen, if_false, if_true, t0, t1, ow, s18])
  have eF : Ext W ((S ++ g19).set b18 (.b (ratR (remR A B).1))) := ext_setG (eS.trans ⟨_, rfl⟩) (by omega)
  have m17F : ((S ++ g19).set b18 (.b (ratR (remR A B).1)))[b17]? = some (.b (ratR r2)) := set_ne' (by omega) ((show Ext S (S ++ g19) from ⟨_, rfl⟩).some m17S)
  have m18F : ((S ++ g19).set b18 (.b (ratR (remR A B).1)))[b18]? = some (.b (ratR (remR A B).1)) := set_eq' m18T
  have hFrF : two = 0 → Fr (b17 + 1) ((S ++ g19).set b18 (.b (ratR (remR A B).1))) w 1 ((subL A B).map intRow) := fun z => ((((hFr3 z).app g19).setb (by omega)).low (by omega))
  have hH : HeardS W two (subL A B) u e := by
    unfold SubH at hS
    rw [if_neg (fun z => z hz)] at hS
    unfold HeardS
    by_cases h2 : two = 0
    · rw [if_neg (fun z => z h2)]
      obtain ⟨_, _, hE⟩ := hFr h2
      rw [if_neg hE] at hS
      unfold ToldS
      by_cases hf : fitsB (subL A B) = true
      · rw [if_pos hf] at hS ⊢; exact ⟨hS.1, hS.2.2⟩
      · rw [if_neg hf] at hS ⊢; exact ⟨hS.1, hS.2.2⟩
    · obtain ⟨g1, _, hE⟩ := h17 h2
      rw [if_pos h2]
      rw [if_pos hE] at hS
      exact ⟨hS.1, by rw [hS.2.2, g1]⟩
  have hr : r = if two = 0 ∧ fitsB (subL A B) = false then (0, 0) else r2 := by
    unfold SubH at hS
    rw [if_neg (fun z => z hz)] at hS
    by_cases h2 : two = 0
    · obtain ⟨_, hr2, hE⟩ := hFr h2
      rw [if_neg hE] at hS
      by_cases hf : fitsB (subL A B) = true
      · rw [if_pos hf] at hS
        rw [if_neg (fun z => by rw [hf] at z; exact absurd z.2 (by simp)), hS.2.1, hr2]
      · rw [if_neg hf] at hS
        rw [if_pos ⟨h2, by simpa using hf⟩, hS.2.1]
    · obtain ⟨_, hr2, hE⟩ := h17 h2
      rw [if_pos hE] at hS
      rw [if_neg (fun z => h2 z.1), hS.2.1, hr2]
  have hR : sameR rr (remR A B).1 e3 (remR A B).2 = true := by
    rw [hrr, he3]
    refine sameR_t (fun z => ?_) (fun _ => rfl)
    unfold remR at z ⊢
    by_cases hE : dotI A A = 0
    · rw [if_pos hE]
    · rw [if_neg hE] at z; exact absurd rfl z
  refine sb_mid T (W := W) (w := w) (u := u) (i := i) (e1 := chkP l m) (e2 := e) (e3 := e3) (bad := chkP l m) (two := two) (three := (remR A B).2) (inner := dotI A B) (want := subL A B) (r2 := r2) (rz := (remR A B).1) Sn Sw Sw Sw Sw Sw Sw Sw Sw Sw Sw Sw Sw Sw Sw ehW eF (by omega) (by omega) m8 m10 m17F m18F hH hFrF ow hWl (sameN_t (fun z => absurd hz z) (fun _ => hi)) hR hr
end
end Go.Abs
