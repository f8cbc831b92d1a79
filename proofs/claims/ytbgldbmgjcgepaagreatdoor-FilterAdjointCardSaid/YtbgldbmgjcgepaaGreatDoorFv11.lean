/- Contracts: taps undone by the program. No condition. · Contracts: taps undone by the program, with the checks. No condition. · Contracts: pairs of integers as complex numbers. No condition. · Contracts: the powers of the imaginary unit, by the program and by the reference. No condition. · Contracts: a pair turned by the program's table of powers. No condition. · Contracts: a response at one frequency, by the reference. No condition. · Contracts: inner products by the program and by the reference. No condition. · Contracts: fitting lists checked; their sums by the reference. No condition. · Contracts: the sums of a fitting list by the program. No condition. · Contracts: predictions by the program. No condition. · Contracts: predictions checked, and the least error, by the program. No condition. · Contracts: predictions by the reference. No condition. · Taps undone, and applied again; ghosts taken off, and put on again: plain. No condition. · Contracts: quiet lists, a number in a list; what is heard when all fits. No condition. · Samples added; lists made cell by cell; copies of one's own. No condition. · Contracts: the responses by the program. No condition. · Contracts: lists visited, gathered and sorted. No condition. · Contracts: pairs of two lists, visited and gathered, and mapped. No condition. · The law of the adjoint. No condition. · An argument of two lists of samples. No condition. -/
import Derived.Test.YtbgldbmgjcgepaaGreatDoorFv10
import Derived.Test.YtbgldbmgjcgepaaGreatDoorFv3
import Derived.Test.YtbgldbmgjcgepaaGreatDoorFv8
set_option linter.all false
namespace Go.Abs

set_option maxRecDepth 10000
attribute [local irreducible] WP WC WE WB WR WF WL WG WRg WQ
section
variable {P : Program} (T : Tbl P) {h : AHeap}
include T
end
end Go.Abs
namespace Go.Abs

set_option maxRecDepth 10000
attribute [local irreducible] WP WC WE WB WR WF WL WG WRg WQ
section
variable {P : Program} (T : Tbl P) {h : AHeap}
include T
end
end Go.Abs
namespace Go.Abs

set_option maxRecDepth 10000
attribute [local irreducible] WP WC WE WB WR WF WL WG WRg WQ
section
variable {P : Program} (T : Tbl P) {h : AHeap}
include T
end
end Go.Abs
namespace Go.Abs

set_option maxRecDepth 10000
attribute [local irreducible] WP WC WE WB WR WF WL WG WRg WQ
section
variable {P : Program} (T : Tbl P) {h : AHeap}
include T
end
end Go.Abs
namespace Go.Abs

set_option maxRecDepth 10000
attribute [local irreducible] WP WC WE WB WR WF WL WG WRg WQ
section
variable {P : Program} (T : Tbl P) {h : AHeap}
include T
end
end Go.Abs
namespace Go.Abs

set_option maxRecDepth 10000
attribute [local irreducible] WP WC WE WB WR WF WL WG WRg WQ
section
variable {P : Program} (T : Tbl P) {h : AHeap}
include T
end
end Go.Abs
namespace Go.Abs

theorem atZ_bd' {l : List Int} {M : Int} (hM : 0 ≤ M) (hb : ∀ x ∈ l, -M ≤ x ∧ x ≤ M) (j : Int) : -M ≤ atZ l j ∧ atZ l j ≤ M := by
  unfold atZ
  by_cases h : 0 ≤ j
  · rw [if_pos h, List.getD_eq_getElem?_getD]
    cases hx : l[j.toNat]? with
    | none => simp; omega
    | some y => exact hb y (List.mem_of_getElem? hx)
  · rw [if_neg h]; omega
theorem prod_bd' {x y : Int} (hx : -32768 ≤ x ∧ x ≤ 32768) (hy : -32768 ≤ y ∧ y ≤ 32768) : -1073741824 ≤ x * y ∧ x * y ≤ 1073741824 := by
  have e : (x * y).natAbs ≤ 32768 * 32768 := by
    rw [Int.natAbs_mul]
    exact Nat.mul_le_mul (by omega) (by omega)
  omega
theorem dotS_bd {A B : List Int} (hA : ∀ x ∈ A, -32768 ≤ x ∧ x ≤ 32768) (hB : ∀ x ∈ B, -32768 ≤ x ∧ x ≤ 32768) : ∀ j : Nat, -(j * 1073741824 : Int) ≤ dotS A B j ∧ dotS A B j ≤ j * 1073741824
  | 0 => by simp [dotS]
  | j + 1 => by
    have h1 := dotS_bd hA hB j
    have h2 := prod_bd' (atZ_bd' (by omega) hA j) (atZ_bd' (by omega) hB j)
    rw [dotS]
    have e : ((j + 1 : Nat) : Int) * 1073741824 = j * 1073741824 + 1073741824 := by rw [Int.natCast_add, Int.add_mul]; rfl
    omega
noncomputable def chkP (l m : List Nat) : Int := firstS [chkL l, chkL m, whenS (decide ((l.length : Int) ≠ (m.length : Int))) 2]
theorem first3 {a b c : Int} (h : firstS [a, b, c] = 0) : a = 0 ∧ b = 0 ∧ c = 0 := by
  by_cases ha : a = 0
  · subst ha
    rw [firstS, if_pos rfl] at h
    obtain ⟨h1, h2⟩ := first2 h
    exact ⟨rfl, h1, h2⟩
  · rw [firstS, if_neg ha] at h; exact absurd h ha
theorem chkP_z {l m : List Nat} (h : chkP l m = 0) : (l.length ≤ 1024 ∧ ∀ b ∈ l, gridE b = 0) ∧ (∀ b ∈ m, gridE b = 0) ∧ l.length = m.length := by
  obtain ⟨h1, h2, h3⟩ := first3 h
  refine ⟨chkL_z h1, (chkL_z h2).2, ?_⟩
  by_cases he : l.length = m.length
  · exact he
  · rw [decide_eq_true (by omega)] at h3; cases h3
theorem wide {l : List Int} (h : ∀ x ∈ l, -16384 ≤ x ∧ x ≤ 16384) : ∀ x ∈ l, -32768 ≤ x ∧ x ≤ 32768 := fun x hx => by have := h x hx; omega
set_option maxRecDepth 10000
attribute [local irreducible] WP WC WE WB WR WF WL WG WRg WQ
section
variable {P : Program} (T : Tbl P) {h : AHeap}
include T
set_option maxHeartbeats 2000000 in
theorem r122 {s t : AV} {A B : List Int} (hs : IsSl h s 1 (A.map intRow)) (ht : IsSl h t 1 (B.map intRow)) (he : A.length = B.length) (hl : A.length ≤ 1024) (hA : ∀ x ∈ A, -32768 ≤ x ∧ x ≤ 32768) (hB : ∀ x ∈ B, -32768 ≤ x ∧ x ≤ 32768) : RCall P 122 [s, t] h (fun v _ => v = .int .i64 (dotI A B)) := by
  refine .st2 25 T.mix T.c122 ?_;intro ts hlen t0 t1;unfold fn122
  refine Rs (A3 @t0 @t1 hs.lenm) ?_
  refine WL.inv T.mix (fun n ts K => ∃ k : Nat, k ≤ A.length ∧ n = A.length - k ∧ K = h ∧ ts.length = 25 ∧ slot ts 1 = t ∧ slot ts 5 = .int .i64 (dotS A B k) ∧ slot ts 8 = s ∧ slot ts 9 = .int .i64 A.length ∧ slot ts 10 = .int .i64 k) A.length
    ⟨0, by omega, rfl, rfl, Sn, (Sq @t1), Swr, Sw, Sw, Swr⟩ ?_
  clear hlen t0 t1
  rintro _ ts K ⟨k, hk, rfl, rfl, hlen, t1, t5, t8, t9, t10⟩
  by_cases hlt : k < A.length
  case neg =>
    have e3 := dltF hlt
    have e4 : k = A.length := by omega
    rw [e4] at t5
    refine Rs (A6 @t1 @t5 @t8 @t9 @t10 @e3) ?_
    rfl
  have e3 := dltT hlt
  have e5 := wrapN (n := k) (by omega)
  have hlb : k < B.length := by omega
  have ix := hs.ixm (kk := .i64) hlt
  have iy := ht.ixm (kk := .i64) hlb
  have ax := atZ_at hlt
  have ay := atZ_at hlb
  have bx := hA A[k] (List.getElem_mem _)
  have by' := hB B[k] (List.getElem_mem _)
  have db := dotS_bd hA hB k
  obtain ⟨x, hx⟩ : ∃ x, x = A[k] := ⟨_, rfl⟩
  obtain ⟨y, hy⟩ : ∃ y, y = B[k] := ⟨_, rfl⟩
  have ld : ∀ {kk : AHeap}, Ext K kk → loadF none (elp s 1 k) (fun b => kk[b]?) = some (.int .i64 x, .keep) := fun {kk} e => by rw [hx]; exact hs.l1m hlt rfl e
  have le : ∀ {kk : AHeap}, Ext K kk → loadF none (elp t 1 k) (fun b => kk[b]?) = some (.int .i64 y, .keep) := fun {kk} e => by rw [hy]; exact ht.l1m hlb rfl e
  rw [← hx] at ax bx
  rw [← hy] at ay by'
  have pb := prod_bd' bx by'
  have w3 : IntKind.i64.wrap (x * y) = x * y := wrap_in (by omega) (by omega)
  have w4 : IntKind.i64.wrap (dotS A B k + x * y) = dotS A B (k + 1) := by rw [dotS, ax, ay, wrap_in (by omega) (by omega)]
  refine Rs (A13 @t1 @t5 @t8 @t9 @t10 @e3 @ix @ld @iy @le @w3 @w4 @e5) ?_
  exact ⟨A.length - (k + 1), by omega, k + 1, by omega, rfl, rfl, rfl⟩
set_option maxHeartbeats 1000000 in
theorem r121 {s t : AV} {l m : List Nat} (hs : IsSl h s 1 (l.map fltR)) (ht : IsSl h t 1 (m.map fltR)) (hl : l.length < 2 ^ 40) (hm : m.length < 2 ^ 40) : RCall P 121 [s, t] h (fun v _ => v = .int .i64 (chkP l m)) := by
  refine .st2 17 T.mix T.c121 ?_;intro ts hlen t0 t1;unfold fn121
  refine Rs (A2 @t0 @t1) ?_
  refine WF.ce T.c134 (r134 T hs hl) fun g1 => ?_
  refine Rs (A2 @t0 @t1) ?_
  refine WF.ce T.c134 (r134 T (ht.ext Xx) hm) fun g2 => ?_
  refine Rs (A4 @t0 @t1 hs.lenm ht.lenm) ?_
  refine WF.ce T.c117 (r117 T _ _) fun g3 => ?_
  refine Rs (A2 @t0 @t1) ?_
  refine WF.ce T.c116 (r116 T (isSl_ints [_, _, _]) (by simp)) fun g4 => ?_
  refine Rs (A2 @t0 @t1) ?_
  rfl
set_option maxHeartbeats 1000000 in
theorem r36 {s t : AV} {l m : List Nat} (hs : IsSl h s 1 (l.map fltR)) (ht : IsSl h t 1 (m.map fltR)) (hl : l.length < 2 ^ 40) (hm : m.length < 2 ^ 40) : RCall P 36 [s, t] h (fun v _ => v = .tup [.int .i64 (if chkP l m = 0 then dotI (l.map gridN) (m.map gridN) else 0), .int .i64 (chkP l m)]) := by
  refine .st2 18 T.mix T.c36 ?_;intro ts hlen t0 t1;unfold fn36
  refine Rs (A2 @t0 @t1) ?_
  refine WF.ce T.c121 (r121 T hs ht hl hm) fun g1 => ?_
  by_cases hz : chkP l m = 0
  case neg =>
    have d1 : decide (chkP l m ≠ 0) = true := decide_eq_true hz
    rw [if_neg hz]
    exact Rs (A3 @t0 @t1 @d1) trivial
  have d1 : decide (chkP l m ≠ 0) = false := decide_eq_false fun z => z hz
  obtain ⟨⟨q1, q2⟩, q3, q4⟩ := chkP_z hz
  rw [if_pos hz]
  refine Rs (A3 @t0 @t1 @d1) ?_
  refine WF.res T.c107 (r107 T (hs.ext Xx) hl T.c108 (g := gridN) (fun x hx k => r108 T (q2 x hx))) ?_
  intro s7 g2 is7
  refine Rs (A2 @t0 @t1) ?_
  refine WF.res T.c107 (r107 T (ht.ext Xx) hm T.c108 (g := gridN) (fun x hx k => r108 T (q3 x hx))) ?_
  intro s8 g3 is8
  refine Rs (A2 @t0 @t1) ?_
  refine WF.ce T.c122 (r122 T (is7.ext Xx) is8 (by simp [q4]) (by simpa using q1) (wide (grid_all q2)) (wide (grid_all q3))) fun g4 => ?_
  refine Rs (A2 @t0 @t1) ?_
  rw [hz]
end
end Go.Abs
namespace Go.Abs

set_option maxRecDepth 10000
attribute [local irreducible] WP WC WE WB WR WF WL WG WRg WQ
section
variable {P : Program} (T : Tbl P) {h : AHeap}
include T
end
end Go.Abs
namespace Go.Abs

set_option maxRecDepth 10000
attribute [local irreducible] WP WC WE WB WR WF WL WG WRg WQ
section
variable {P : Program} (T : Tbl P) {h : AHeap}
include T
end
end Go.Abs
namespace Go.Abs

def gcd3 (p : Int × Int × Int) : Nat := Int.gcd ((Int.gcd p.1 p.2.1 : Nat) : Int) p.2.2
def agI (A : List Int) (p : Int × Int × Int) (k : Nat) : Int := p.2.2 * smI A 0 k - p.1 * smI A 1 k - p.2.1 * smI A 2 k
set_option maxRecDepth 10000
attribute [local irreducible] WP WC WE WB WR WF WL WG WRg WQ
section
variable {P : Program} (T : Tbl P) {h : AHeap}
include T
end
end Go.Abs
namespace Go.Abs

def cp2 (A : List Int) (p : Int × Int × Int) : Int := firstS [whenS (decide (gcd3 p ≠ 1)) 1, whenS (decide (agI A p 1 ≠ 0) || decide (agI A p 2 ≠ 0)) 19]
set_option maxRecDepth 10000
attribute [local irreducible] WP WC WE WB WR WF WL WG WRg WQ
section
variable {P : Program} (T : Tbl P) {h : AHeap}
include T
end
end Go.Abs
namespace Go.Abs

set_option maxRecDepth 10000
attribute [local irreducible] WP WC WE WB WR WF WL WG WRg WQ
section
variable {P : Program} (T : Tbl P) {h : AHeap}
include T
end
end Go.Abs
namespace Go.Abs

end Go.Abs
namespace Go.Abs

theorem firstS_nil0 : ∀ {l : List Int}, (∀ x ∈ l, x = 0) → firstS l = 0
  | [], _ => rfl
  | a :: l, h => by
    rw [firstS, if_pos (h a (List.mem_cons_self ..))]
    exact firstS_nil0 fun x hx => h x (List.mem_cons_of_mem _ hx)
theorem chkL_ok {l : List Nat} (h1 : l.length ≤ 1024) (h2 : ∀ b ∈ l, gridE b = 0) : chkL l = 0 := by
  unfold chkL
  have e : firstS (l.map gridE) = 0 := firstS_nil0 fun x hx => by
    obtain ⟨b, hb, rfl⟩ := List.mem_map.1 hx
    exact h2 b hb
  first
    | rw [if_neg (by omega)]; exact e
    | (split <;> first | exact e | omega)
theorem chkB_ok {t : List Int} {l : List Nat} (ht : chkTp t = 0) (hl : chkL l = 0) : chkB t l = 0 := by
  unfold chkB
  rw [ht, hl]; rfl
theorem fits_of {l : List Int} (h : ∀ x ∈ l, -16384 ≤ x ∧ x ≤ 16384) : fitsB l = true := by
  unfold fitsB
  rw [List.all_eq_true]
  intro x hx
  have := h x hx
  unfold fitB
  first
    | (rw [Bool.and_eq_true]; exact ⟨decide_eq_true this.1, decide_eq_true this.2⟩)
    | simp [this.1, this.2]
    | (simp; omega)
theorem told_ok {K : AHeap} {want : List Int} {u : AV} {e : Int} (h : ToldS K want u e) (hf : fitsB want = true) : IsSl K u 1 ((want.map smpl).map fltR) ∧ e = 0 := by
  unfold ToldS at h
  rwa [if_pos hf] at h
theorem heard_ok {K : AHeap} {bad : Int} {want : List Int} {u : AV} {e : Int} (h : HeardS K bad want u e) (hz : bad = 0) (hf : fitsB want = true) : IsSl K u 1 ((want.map smpl).map fltR) ∧ e = 0 := by
  unfold HeardS at h
  rw [if_neg (fun z => z hz)] at h
  exact told_ok h hf
noncomputable def quietB (l : List Nat) (lim : Int) : Bool := decide (l.length ≤ 24) && (decide (firstS (l.map gridE) = 0) && l.all fun b => decide (-lim ≤ gridN b) && decide (gridN b ≤ lim))
theorem quietB_t {l : List Nat} {lim : Int} (h : quietB l lim = true) : l.length ≤ 24 ∧ (∀ b ∈ l, gridE b = 0) ∧ ∀ x ∈ l.map gridN, -lim ≤ x ∧ x ≤ lim := by
  unfold quietB at h
  simp only [Bool.and_eq_true, decide_eq_true_eq, List.all_eq_true] at h
  obtain ⟨h1, h2, h3⟩ := h
  refine ⟨h1, fun b hb => firstS_z h2 _ (List.mem_map_of_mem hb), fun x hx => ?_⟩
  obtain ⟨b, hb, rfl⟩ := List.mem_map.1 hx
  exact h3 b hb
theorem atZ_lim {A : List Int} {B : Int} (hB : 0 ≤ B) (h : ∀ x ∈ A, -B ≤ x ∧ x ≤ B) (j : Int) : -B ≤ atZ A j ∧ atZ A j ≤ B := atZ_bd' hB h j
theorem apS_lim {t A : List Int} {B : Int} (hB : 0 ≤ B) (ht : ∀ x ∈ t, -16 ≤ x ∧ x ≤ 16) (hA : ∀ x ∈ A, -B ≤ x ∧ x ≤ B) (i σ : Int) : ∀ j : Nat, -(j * (16 * B)) ≤ apS t A i σ j ∧ apS t A i σ j ≤ j * (16 * B)
  | 0 => by simp [apS]
  | j + 1 => by
    have h1 := apS_lim hB ht hA i σ j
    have h2 := mul_bd' (tap_bd ht j) (atZ_lim hB hA (i + σ * j))
    rw [apS]
    have e : ((j + 1 : Nat) : Int) * (16 * B) = j * (16 * B) + 16 * B := by rw [Int.natCast_add, Int.add_mul]; omega
    omega
where
  mul_bd' {x y : Int} {X Y : Int} (h1 : -X ≤ x ∧ x ≤ X) (h2 : -Y ≤ y ∧ y ≤ Y) : -(X * Y) ≤ x * y ∧ x * y ≤ X * Y := by
    have e : (x * y).natAbs ≤ (X * Y).natAbs := by
      rw [Int.natAbs_mul, Int.natAbs_mul]
      exact Nat.mul_le_mul (by omega) (by omega)
    have p := Int.mul_nonneg (show 0 ≤ X by omega) (show 0 ≤ Y by omega)
    omega
theorem apL_lim {t A : List Int} {B : Int} (hB : 0 ≤ B) (ht : TpOk t) (hA : ∀ x ∈ A, -B ≤ x ∧ x ≤ B) (σ : Int) : ∀ x ∈ apL t A σ, -(128 * B) ≤ x ∧ x ≤ 128 * B := fun x hx => by
  obtain ⟨i, _, rfl⟩ := List.mem_map.1 hx
  have h := apS_lim hB ht.r hA i σ t.length
  have h2 := ht.l2
  have h3 := Int.mul_le_mul_of_nonneg_right (show (t.length : Int) ≤ 8 by omega) (show 0 ≤ 16 * B by omega)
  unfold apF
  omega
set_option maxRecDepth 10000
attribute [local irreducible] WP WC WE WB WR WF WL WG WRg WQ
section
variable {P : Program} (T : Tbl P) {h : AHeap}
include T
set_option maxHeartbeats 2000000 in
theorem r57 (X : Xfl P) {s : AV} {l : List Nat} (hs : IsSl h s 1 (l.map fltR)) {lim : Int} (hlim : 0 ≤ lim ∧ lim ≤ 1000) : RCall P 57 [s, .int .i64 lim] h (fun v _ => v = .bool (quietB l lim)) := by
  refine .st2 34 T.mix T.c57 ?_;intro ts hlen t0 t1;unfold fn57
  by_cases h1 : l.length ≤ 24
  case neg =>
    have d1 : decide ((24 : Int) < (l.length : Int)) = true := decide_eq_true (by omega)
    have e : quietB l lim = false := by rw [quietB, decide_eq_false h1, Bool.false_and]
    rw [e]
    exact Rs (A4 @t0 @t1 hs.lenm @d1) trivial
  have d1 : decide ((24 : Int) < (l.length : Int)) = false := decide_eq_false (by omega)
  refine Rs (A4 @t0 @t1 hs.lenm @d1) ?_
  refine WF.ce T.c75 (r75 T X hs (by omega)) fun g1 => ?_
  by_cases h2 : firstS (l.map gridE) = 0
  case neg =>
    have d2 : decide (firstS (l.map gridE) ≠ 0) = true := decide_eq_true h2
    have e : quietB l lim = false := by rw [quietB, decide_eq_false h2, Bool.false_and, Bool.and_false]
    rw [e]
    exact Rs (A3 @t0 @t1 @d2) trivial
  have d2 : decide (firstS (l.map gridE) ≠ 0) = false := decide_eq_false fun z => z h2
  have hg : ∀ b ∈ l, gridE b = 0 := fun b hb => firstS_z h2 _ (List.mem_map_of_mem hb)
  have hq : quietB l lim = l.all fun b => decide (-lim ≤ gridN b) && decide (gridN b ≤ lim) := by rw [quietB, decide_eq_true h1, decide_eq_true h2, Bool.true_and, Bool.true_and]
  rw [hq]
  have nw : IntKind.i64.wrap (0 - lim) = -lim := by rw [wrap_in (by omega) (by omega)]; omega
  obtain ⟨q, hqq⟩ : ∃ q : Nat → Bool, q = fun b => decide (-lim ≤ gridN b) && decide (gridN b ≤ lim) := ⟨_, rfl⟩
  rw [← hqq]
  refine Rs (A4 @t0 @t1 @d2 hs.lenm) ?_
  refine WL.inv T.mix (fun n ts K => ∃ k : Nat, k ≤ l.length ∧ n = l.length - k ∧ Ext h K ∧ l.all q = (l.drop k).all q ∧ ts.length = 34 ∧ slot ts 1 = .int .i64 lim ∧ slot ts 16 = s ∧ slot ts 17 = .int .i64 l.length ∧ slot ts 18 = .int .i64 k) l.length
    ⟨0, by omega, rfl, Xx, rfl, Sn, (Sq @t1), Sw, Sw, Swr⟩ ?_
  clear hlen t0 t1 d1 d2
  rintro _ ts K ⟨k, hk, rfl, eK, hf, hlen, t1, t16, t17, t18⟩
  have hsK := hs.ext eK
  by_cases hlt : k < l.length
  case neg =>
    have e3 := dltF hlt
    have e4 : k = l.length := by omega
    rw [e4, List.drop_length] at hf
    have hf : l.all q = true := hf
    rw [hf]
    refine Rs (A5 @t1 @t16 @t17 @t18 @e3) ?_
    exact ⟨eK, trivial⟩
  have e3 := dltT hlt
  have e5 := wrapN (n := k) (by omega)
  have ix := hsK.ixm (kk := .i64) hlt
  have hd : l.drop k = l[k] :: l.drop (k + 1) := by simp
  rw [hd, List.all_cons] at hf
  have hgx := hg l[k] (List.getElem_mem _)
  obtain ⟨x, hx⟩ : ∃ x, x = l[k] := ⟨_, rfl⟩
  have ld : ∀ {kk : AHeap}, Ext K kk → loadF none (elp s 1 k) (fun b => kk[b]?) = some (.flt .f32 x, .keep) := fun {kk} e => by rw [hx]; exact hsK.l1m hlt rfl e
  rw [← hx] at hf hgx
  refine Rs (A7 @t1 @t16 @t17 @t18 @e3 @ix @ld) ?_
  refine WF.ce T.c64 (r64 T hgx) fun g2 => ?_
  by_cases c1 : lim < gridN x
  · have f1 : decide (lim < gridN x) = true := decide_eq_true c1
    have qx : q x = false := by
      rw [hqq]
      show (decide (-lim ≤ gridN x) && decide (gridN x ≤ lim)) = false
      rw [decide_eq_false (show ¬ gridN x ≤ lim by omega), Bool.and_false]
    rw [qx, Bool.false_and] at hf
    rw [hf]
    refine Rs (A5 @t1 @t16 @t17 @t18 @f1) ?_
    exact ⟨eK.trans Xx, trivial⟩
  have f1 : decide (lim < gridN x) = false := decide_eq_false c1
  by_cases c2 : gridN x < -lim
  · have f2 : decide (gridN x < -lim) = true := decide_eq_true c2
    have qx : q x = false := by
      rw [hqq]
      show (decide (-lim ≤ gridN x) && decide (gridN x ≤ lim)) = false
      rw [decide_eq_false (show ¬ -lim ≤ gridN x by omega), Bool.false_and]
    rw [qx, Bool.false_and] at hf
    rw [hf]
    refine Rs (A7 @t1 @t16 @t17 @t18 @f1 @nw @f2) ?_
    exact ⟨eK.trans Xx, trivial⟩
  have f2 : decide (gridN x < -lim) = false := decide_eq_false c2
  have qx : q x = true := by
    rw [hqq]
    show (decide (-lim ≤ gridN x) && decide (gridN x ≤ lim)) = true
    rw [decide_eq_true (show -lim ≤ gridN x by omega), decide_eq_true (show gridN x ≤ lim by omega)]; rfl
  rw [qx, Bool.true_and] at hf
  refine Rs (A8 @t1 @t16 @t17 @t18 @f1 @nw @f2 @e5) ?_
  exact ⟨l.length - (k + 1), by omega, k + 1, by omega, rfl, eK.trans Xx, hf, rfl⟩
end
end Go.Abs
namespace Go.Abs
open Ieee

theorem add_vl {s u : Bool} {m n : Nat} {i j : Int} (hi : -1200 ≤ i) (hj : -1200 ≤ j) : vl (.number s m i) + vl (.number u n j) = (signed s m (i - min i j).toNat + signed u n (j - min i j).toNat) * 2 ^ (min i j + 1200).toNat := by
  rw [vl_base (s := s) (m := m) (b := min i j) (by omega) (by omega), vl_base (s := u) (m := n) (b := min i j) (by omega) (by omega), Int.add_mul]
theorem num_add {a b : Nat} {u v N M : Int} (ha : Num .f32 a u) (hb : Num .f32 b v) (hu : N * UU = 16 * u) (hv : M * UU = 16 * v) (hK : -16384 ≤ N + M ∧ N + M ≤ 16384) : ∃ q, binK .add (.flt .f32 a) (.flt .f32 b) = some (.flt .f32 q) ∧ Num .f32 q (u + v) := by
  obtain ⟨s, m, i, h1, h2, rfl⟩ := ha
  obtain ⟨s', n, j, h3, h4, rfl⟩ := hb
  have l1 := (read_fin h1).2
  have l2 := (read_fin h3).2
  have hlp : FloatKind.f32.format.leastPlace = -149 := by decide
  have hfb : FloatKind.f32.format.fractionBits = 23 := rfl
  have heb : (2 ^ FloatKind.f32.format.exponentBits : Nat) = 256 := by decide
  rw [hlp] at l1 l2
  obtain ⟨B, hB⟩ : ∃ B, B = min i j := ⟨_, rfl⟩
  have hBl : -149 ≤ B := by omega
  have hsum := add_vl (s := s) (u := s') (m := m) (n := n) h2 h4
  obtain ⟨W, hW⟩ : ∃ W, W = signed s m (i - min i j).toNat + signed s' n (j - min i j).toNat := ⟨_, rfl⟩
  rw [← hW] at hsum
  obtain ⟨z, hz⟩ : ∃ z : Bool, z = (if W = 0 then s && s' else decide (W < 0)) := ⟨_, rfl⟩
  have p1 : FloatKind.f32.format.add a b = some (FloatKind.f32.format.write (.number z W.natAbs B)) := by
    unfold Format.add
    rw [h1, h3]
    subst hz hW hB
    rfl
  have hvl : vl (.number z W.natAbs B) = vl (.number s m i) + vl (.number s' n j) := by
    rw [hsum, ← hB]
    show sgN z W.natAbs * _ = _
    congr 1
    by_cases h0 : W = 0
    · rw [h0]; cases z <;> rfl
    · rw [hz, if_neg h0]; exact sgN_int W
  refine ⟨_, by simp only [binK, if_true, fltBin, p1, fltRes]; rfl, ?_⟩
  rw [← hvl]
  refine num_write (by omega) ?_
  by_cases h0 : W.natAbs = 0
  · exact .inl h0
  refine .inr ?_
  rw [hlp, hfb, heb]
  obtain ⟨c, hc⟩ : ∃ c, bU = c + 4 := ⟨1196, rfl⟩
  have hbu := bU_eq
  have key : W.natAbs * 2 ^ (B + 1200).toNat = (N + M).natAbs * 2 ^ c := by
    have e1 : (N + M) * UU = 16 * vl (.number z W.natAbs B) := by rw [hvl, Int.add_mul, hu, hv, Int.mul_add]
    have e2 := congrArg Int.natAbs e1
    rw [Int.natAbs_mul, UU_abs, Int.natAbs_mul, vl_abs, hc, Nat.pow_add] at e2
    have e3 : (2 : Nat) ^ 4 = 16 := rfl
    rw [e3, ← Nat.mul_assoc, Nat.mul_comm] at e2
    exact (Nat.eq_of_mul_eq_mul_left (by decide : 0 < 16) e2).symm
  have hKn : (N + M).natAbs ≤ 2 ^ 14 := by have : (2 : Nat) ^ 14 = 16384 := rfl; omega
  obtain ⟨p, hp⟩ : ∃ p, p = (B + 1200).toNat := ⟨_, rfl⟩
  rw [← hp] at key
  rcases Nat.le_total c p with h | h
  · obtain ⟨d, rfl⟩ := Nat.exists_eq_add_of_le h
    rw [Nat.pow_add, Nat.mul_comm (2 ^ c), ← Nat.mul_assoc] at key
    have k2 := Nat.eq_of_mul_eq_mul_right (Nat.two_pow_pos c) key
    have k3 : 2 ^ (W.natAbs.log2 + d) ≤ 2 ^ 14 := by
      rw [Nat.pow_add]
      refine Nat.le_trans (Nat.mul_le_mul_right _ (Nat.log2_self_le h0)) ?_
      rw [k2]; exact hKn
    have k4 := pow_le' k3
    exact ⟨W.natAbs, 0, by simp, h0, by omega, by omega, by omega⟩
  · obtain ⟨d, hd⟩ := Nat.exists_eq_add_of_le h
    rw [hd, Nat.pow_add, Nat.mul_comm (2 ^ p), ← Nat.mul_assoc] at key
    have k2 := Nat.eq_of_mul_eq_mul_right (Nat.two_pow_pos p) key
    have hK0 : (N + M).natAbs ≠ 0 := fun q => by rw [q, Nat.zero_mul] at k2; exact h0 k2
    have k4 := pow_le' (Nat.le_trans (Nat.log2_self_le hK0) hKn)
    exact ⟨(N + M).natAbs, d, k2, hK0, by omega, by omega, by omega⟩
theorem num_grid {q : Nat} {w n : Int} (h : Num .f32 q w) (hw : n * UU = 16 * w) (hn : -16384 ≤ n ∧ n ≤ 16384) : gridE q = 0 ∧ gridN q = n := by
  have hU := UU_pos
  have e := num_fval h
  have hg : gridN q = n := by
    unfold gridN
    rw [← e, ← hw, Int.mul_ediv_cancel _ (by omega)]
  refine ⟨grid_z (finB_t h) ?_, hg⟩
  unfold gOkB
  rw [finB_t h, hg, ← e]
  have b1 : -16384 * UU ≤ n * UU := Int.mul_le_mul_of_nonneg_right hn.1 (by omega)
  have b2 : n * UU ≤ 16384 * UU := Int.mul_le_mul_of_nonneg_right hn.2 (by omega)
  rw [decide_eq_true (by omega), decide_eq_true (by omega), decide_eq_true hw]
  rfl
/-- Samples added, and compared. -/
theorem grid_add {a b : Nat} (ha : gridE a = 0) (hb : gridE b = 0) (hK : -16384 ≤ gridN a + gridN b ∧ gridN a + gridN b ≤ 16384) : ∃ q, binK .add (.flt .f32 a) (.flt .f32 b) = some (.flt .f32 q) ∧ gridE q = 0 ∧ gridN q = gridN a + gridN b := by
  obtain ⟨h1, h2, _⟩ := grid_num ha
  obtain ⟨h3, h4, _⟩ := grid_num hb
  obtain ⟨q, e, hq⟩ := num_add h1 h3 h2 h4 hK
  exact ⟨q, e, num_grid hq (by rw [Int.add_mul, h2, h4, Int.mul_add]) hK⟩
theorem grid_same {a b : Nat} (ha : gridE a = 0) (hb : gridE b = 0) (h : gridN a = gridN b) : ∃ w, binK .neq (.flt .f32 a) (.flt .f32 b) = some (.bool w) ∧ w = false := by
  obtain ⟨h1, h2, _⟩ := grid_num ha
  obtain ⟨h3, h4, _⟩ := grid_num hb
  refine ⟨_, num_neq h1 h3, decide_eq_false fun z => z ?_⟩
  rw [h] at h2
  omega
/-- A list whose first cells are made. -/
def GrTo (Z : List Nat) (n : Nat) (f : Nat → Int) (k : Nat) : Prop := Z.length = n ∧ ∀ (i : Nat) (h : i < Z.length), i < k → gridE Z[i] = 0 ∧ gridN Z[i] = f i
theorem GrTo.set {Z : List Nat} {n k : Nat} {f : Nat → Int} (g : GrTo Z n f k) {x : Nat} (h1 : gridE x = 0) (h2 : gridN x = f k) : GrTo (Z.set k x) n f (k + 1) := by
  refine ⟨by rw [List.length_set]; exact g.1, fun i hi hk => ?_⟩
  rw [List.length_set] at hi
  rw [List.getElem_set]
  by_cases h : k = i
  · subst h; rw [if_pos rfl]; exact ⟨h1, h2⟩
  · rw [if_neg h]; exact g.2 i hi (by omega)
theorem GrTo.all {Z : List Nat} {n : Nat} {f : Nat → Int} (g : GrTo Z n f n) : (∀ b ∈ Z, gridE b = 0) ∧ Z.map gridN = genL n f := by
  obtain ⟨h1, h2⟩ := g
  refine ⟨fun b hb => ?_, ?_⟩
  · obtain ⟨i, hi, rfl⟩ := List.mem_iff_getElem.1 hb
    exact (h2 i hi (by omega)).1
  · refine list_atZ (by rw [List.length_map, genL_len]; exact h1) fun i hi => ?_
    rw [List.length_map] at hi
    rw [atZ_at (by rw [List.length_map]; exact hi), List.getElem_map, (h2 i hi (by omega)).2]
    exact (atZ_gen (by omega)).symm
theorem Fr.apart {N M : Nat} {h k : AHeap} {s t : AV} {e1 e2 : Nat} {c1 c2 : List (List AV)} (a : Fr N h s e1 c1) (b : Fr M k t e2 c2) (hM : h.length ≤ M) : ∀ b0 o n e b1 o1 n1 e1, s = .slice b0 o n e → t = .slice b1 o1 n1 e1 → b0 ≠ b1 := by
  intro b0 o n e b1 o1 n1 e1 q1 q2
  cases a with
  | nil => cases q1
  | mk hN hb he =>
    cases b with
    | nil => cases q2
    | mk hN2 hb2 he2 =>
      cases q1
      cases q2
      have := (List.getElem?_eq_some_iff.1 hb).1
      omega
set_option maxRecDepth 10000
attribute [local irreducible] WP WC WE WB WR WF WL WG WRg WQ
section
variable {P : Program} (T : Tbl P) {h : AHeap}
include T
set_option maxHeartbeats 1000000 in
theorem q22 {s : AV} {l : List Nat} (hs : IsSl h s 1 (l.map fltR)) (hl : l.length < 2 ^ 40) : RCall P 22 [s] h (fun v h' => Fr h.length h' v 1 (l.map fltR)) := by
  refine .st1 6 T.mix T.c22 ?_;intro ts hlen t0;unfold fn22
  refine Rs @t0 ?_
  refine WR.appz (N := h.length) (w := 4) at_new (Nat.le_refl _) (hs.ext Xx) (by rw [List.length_map]; omega) fun a1 y1 f1 => ?_
  have p1 := f1.isSl.one
  refine Rs (A2 @t0 @p1) ?_
  exact f1
end
end Go.Abs
namespace Go.Abs

set_option maxRecDepth 10000
attribute [local irreducible] WP WC WE WB WR WF WL WG WRg WQ
section
variable {P : Program} (T : Tbl P) {h : AHeap}
include T
end
end Go.Abs
namespace Go.Abs

set_option maxRecDepth 10000
attribute [local irreducible] WP WC WE WB WR WF WL WG WRg WQ
section
variable {P : Program} (T : Tbl P) {h : AHeap}
include T
end
end Go.Abs
namespace Go.Abs

set_option maxRecDepth 10000
attribute [local irreducible] WP WC WE WB WR WF WL WG WRg WQ
section
variable {P : Program} (T : Tbl P) {h : AHeap}
include T
end
end Go.Abs
namespace Go.Abs
theorem heard_one {K : AHeap} {bad : Int} {want : List Int} {u : AV} {e : Int} (h : HeardS K bad want u e) : u.one = true := by
  unfold HeardS ToldS at h
  split at h
  · rw [h.1]; rfl
  split at h
  · exact h.1.one
  · rw [h.1]; rfl
theorem ap_ok {t : List Int} {l : List Nat} (tz : chkTp t = 0) (gl : ∀ b ∈ l, gridE b = 0) (hl : l.length ≤ 24) (hb : ∀ x ∈ l.map gridN, -127 ≤ x ∧ x ≤ 127) (σ : Int) : chkB t l = 0 ∧ fitsB (apL t (l.map gridN) σ) = true := by
  refine ⟨chkB_ok tz (chkL_ok (by omega) gl), fits_of fun x hx => ?_⟩
  have := apL_lim (B := 127) (by omega) (chkTp_z tz) hb σ x hx
  omega
structure AdP (t m : List Int) (L M : List Nat) : Prop where
  tz : chkTp t = 0
  mz : chkTp m = 0
  tl : t.length < 2 ^ 40
  ml : m.length < 2 ^ 40
  gx : ∀ b ∈ L, gridE b = 0
  gy : ∀ b ∈ M, gridE b = 0
  ax : ∀ x ∈ L.map gridN, -60 ≤ x ∧ x ≤ 60
  ay : ∀ x ∈ M.map gridN, -60 ≤ x ∧ x ≤ 60
  hl : L.length ≤ 24
  he : L.length = M.length
structure AdH (Y : AHeap) (s0 s1 x y : AV) (b5 : Nat) (t m : List Int) (L M : List Nat) : Prop where
  h0 : IsSl Y s0 1 (t.map intRow)
  h1 : IsSl Y s1 1 (m.map intRow)
  hx : IsSl Y x 1 (L.map fltR)
  hy : IsSl Y y 1 (M.map fltR)
  m5 : Y[b5]? = some (.cells [x, y] true false)
theorem AdH.ext {Y Z : AHeap} {s0 s1 x y : AV} {b5 : Nat} {t m : List Int} {L M : List Nat} (a : AdH Y s0 s1 x y b5 t m L M) (e : Ext Y Z) : AdH Z s0 s1 x y b5 t m L M := ⟨a.h0.ext e, a.h1.ext e, a.hx.ext e, a.hy.ext e, e.some a.m5⟩
theorem two_0 {x y : AV} : ldB none 0 (.cells [x, y] true false) = some (x, .keep) := rfl
theorem two_1 {x y : AV} : ldB none 1 (.cells [x, y] true false) = some (y, .keep) := rfl
theorem iad_0 {N : Nat} : iadaF 2 1 (.ptr N 0) (.int .i64 0) = some (.ptr N 0) := rfl
theorem iad_1 {N : Nat} : iadaF 2 1 (.ptr N 0) (.int .i64 1) = some (.ptr N 1) := rfl
theorem Fr.kept {N : Nat} {h k : AHeap} {s t : AV} {es : Nat} {cs : List (List AV)} (a : Fr N h t es cs) (hs : ∀ b0 o n e b1 o1 n1 e1, s = .slice b0 o n e → t = .slice b1 o1 n1 e1 → b0 ≠ b1) (fr : ∀ b, (∀ b0 o n e, s = .slice b0 o n e → b ≠ b0) → k[b]? = h[b]?) : Fr N k t es cs := by
  cases a with
  | nil => exact .nil
  | mk hN hb he => exact .mk hN ((fr _ fun b0 o n e q z => hs b0 o n e _ _ _ _ q rfl z.symm).trans hb) he
theorem chkP_ok {l m : List Nat} (h1 : l.length ≤ 1024) (he : l.length = m.length) (gl : ∀ b ∈ l, gridE b = 0) (gm : ∀ b ∈ m, gridE b = 0) : chkP l m = 0 := by
  have q1 : chkL l = 0 := chkL_ok h1 gl
  have q2 : chkL m = 0 := chkL_ok (by omega) gm
  unfold chkP
  rw [q1, q2, he]
  simp [whenS, firstS]
def adB : ICode := match (fn7).body with
  | .seq _ (.seq _ c) => c
  | c => c
def adC : ICode := match adB with
  | .seq _ (.seq _ (.seq _ (.seq _ (.seq _ (.seq _ c))))) => c
  | c => c
def adD : ICode := match adC with
  | .seq _ (.seq _ c) => c
  | c => c
def adE : ICode := match adD with
  | .seq _ (.seq _ (.seq _ (.seq _ c))) => c
  | c => c
def adF : ICode := match adE with
  | .seq _ c => c
  | c => c
set_option maxRecDepth 10000
attribute [local irreducible] WP WC WE WB WR WF WL WG WRg WQ
section
variable {P : Program} (T : Tbl P) {h Y : AHeap} {ts : TS} {s0 s1 x y a b : AV} {b5 : Nat} {t m : List Int} {L M : List Nat}
include T
set_option maxHeartbeats 4000000 in
theorem ad_F (hlen : ts.length = 316) (t0 : slot ts 0 = s0) (t1 : slot ts 1 = s1) (t5 : slot ts 5 = .ptr b5 0) (t7 : slot ts 7 = a) (e0 : Ext h Y) (c : AdH Y s0 s1 x y b5 t m L M) (p : AdP t m L M) (ha : IsSl Y a 1 (((apL t (L.map gridN) (-1)).map smpl).map fltR)) :
    WC P inFn adF [] ts Y (FQ [(6, none)] fun v k => Ext h k ∧ v = .bool true) := by
  unfold adF adE adD adC adB fn7
  dsimp only
  have hlim : ∀ x ∈ L.map gridN, -127 ≤ x ∧ x ≤ 127 := fun x hx => by have := p.ax x hx; omega
  have pl := p.hl
  have fA := (ap_ok p.tz p.gx p.hl hlim (-1)).2
  have lA : (apL t (L.map gridN) (-1)).length = L.length := by rw [apL_len, List.length_map]
  obtain ⟨U, hU⟩ : ∃ U, U = apL t (L.map gridN) (-1) := ⟨_, rfl⟩
  rw [← hU] at ha fA lA
  have gU := (smpl_all fA).1
  have nU := (smpl_all fA).2
  have lU : (U.map smpl).length = L.length := by rw [List.length_map]; exact lA
  have cU : chkB m (U.map smpl) = 0 := chkB_ok p.mz (chkL_ok (by omega) gU)
  have cL := ap_ok p.mz p.gx p.hl hlim (-1)
  have l5 := @ldx _ _ _ c.m5
  have ox := c.hx.one
  refine Rs (A4 @t0 @t1 @t5 @t7) ?_
  refine WF.res T.c21 (r21 T c.h1 p.ml) ?_
  intro a1 g1 is1
  refine Rs (A4 @t0 @t1 @t5 @t7) ?_
  refine WF.res T.c22 (r22 T (ha.ext Xx) (by omega)) ?_
  intro a2 g2 is2
  refine Rs (A4 @t0 @t1 @t5 @t7) ?_
  refine WF.res T.c20 (r20 T (is1.ext Xx) is2 p.ml (by omega)) ?_
  rintro _ g3 ⟨u25, e26, rfl, hH⟩
  rw [nU] at hH
  have o25 := heard_one hH
  obtain ⟨X1, hX1⟩ : ∃ X1, X1 = Y ++ g1 ++ g2 ++ g3 := ⟨_, rfl⟩
  have eX1 : Ext Y X1 := by rw [hX1]; exact Xx
  rw [← hX1] at hH ⊢
  clear is1 is2 hX1
  have c1 := c.ext eX1
  have l51 := @ldx _ _ _ c1.m5
  refine Rs (A5 @t0 @t1 @t5 @t7 @o25) ?_
  refine WF.res T.c21 (r21 T c1.h1 p.ml) ?_
  intro a1 g1 is1
  refine Rs (A8 @t0 @t1 @t5 @t7 @iad_0 @l51 @two_0 @ox) ?_
  refine WF.res T.c22 (r22 T (c1.hx.ext Xx) (by omega)) ?_
  intro a2 g2 is2
  refine Rs (A4 @t0 @t1 @t5 @t7) ?_
  refine WF.res T.c20 (r20 T (is1.ext Xx) is2 p.ml (by omega)) ?_
  rintro _ g3 ⟨u27, e28, rfl, hH2⟩
  obtain ⟨is27, rfl⟩ := heard_ok hH2 cL.1 cL.2
  have o27 := is27.one
  obtain ⟨X2, hX2⟩ : ∃ X2, X2 = X1 ++ g1 ++ g2 ++ g3 := ⟨_, rfl⟩
  have eX2 : Ext X1 X2 := by rw [hX2]; exact Xx
  rw [← hX2] at is27 ⊢
  clear is1 is2 hX2 hH2
  have hH := hH.ext eX2
  have e2 := e0.trans (eX1.trans eX2)
  have d0 : decide ((0 : Int) ≠ 0) = false := rfl
  by_cases hf : fitsB (apL m U (-1)) = true
  case neg =>
    unfold HeardS ToldS at hH
    rw [if_neg (fun z => z cU), if_neg hf] at hH
    obtain ⟨rfl, rfl⟩ := hH
    have d4 : decide ((4 : Int) ≠ 0) = true := rfl
    refine Rs (A7 @t0 @t1 @t5 @t7 @o27 @d4 @decide_true) ?_
    exact ⟨e2, trivial⟩
  obtain ⟨is25, rfl⟩ := heard_ok hH cU hf
  have f2 := cL.2
  have l2 : (apL m (L.map gridN) (-1)).length = L.length := by rw [apL_len, List.length_map]
  have hcm : apL m U (-1) = apL t (apL m (L.map gridN) (-1)) (-1) := by rw [hU]; exact ap_comm t m _
  obtain ⟨V, hV⟩ : ∃ V, V = apL m (L.map gridN) (-1) := ⟨_, rfl⟩
  rw [← hV] at is27 f2 l2 hcm
  have gV := (smpl_all f2).1
  have nV := (smpl_all f2).2
  have cV : chkB t (V.map smpl) = 0 := chkB_ok p.tz (chkL_ok (by rw [List.length_map]; omega) gV)
  have c2 := c1.ext eX2
  refine Rs (A6 @t0 @t1 @t5 @t7 @o27 @d0) ?_
  refine WF.res T.c21 (r21 T c2.h0 p.tl) ?_
  intro a1 g1 is1
  refine Rs (A4 @t0 @t1 @t5 @t7) ?_
  refine WF.res T.c22 (r22 T (is27.ext Xx) (by rw [List.length_map]; omega)) ?_
  intro a2 g2 is2
  refine Rs (A4 @t0 @t1 @t5 @t7) ?_
  refine WF.res T.c20 (r20 T (is1.ext Xx) is2 p.tl (by rw [List.length_map]; omega)) ?_
  rintro _ g3 ⟨u29, e30, rfl, hH3⟩
  rw [nV, ← hcm] at hH3
  obtain ⟨is29, rfl⟩ := heard_ok hH3 cV hf
  have o29 := is29.one
  have gW := (smpl_all hf).1
  have lW : ((apL m U (-1)).map smpl).length = L.length := by rw [List.length_map, apL_len]; exact lA
  have is25 := is25.ext (show Ext X2 (X2 ++ g1 ++ g2 ++ g3) from Xx)
  refine Rs (A6 @t0 @t1 @t5 @t7 @o29 @decide_true) ?_
  refine WF.ce T.c58 (r58 T is25 is29 (by omega) gW gW) fun g4 => ?_
  refine Rs (A2 @t0 @decide_true) ?_
  exact ⟨e2.trans Xx, trivial⟩
set_option maxHeartbeats 4000000 in
theorem ad_E {c3 s3 r3 : AV} (hlen : ts.length = 316) (t0 : slot ts 0 = s0) (t1 : slot ts 1 = s1) (t5 : slot ts 5 = .ptr b5 0) (t7 : slot ts 7 = a) (t9 : slot ts 9 = b) (t18 : slot ts 18 = c3) (t20 : slot ts 20 = s3) (t22 : slot ts 22 = r3) (e0 : Ext h Y) (c : AdH Y s0 s1 x y b5 t m L M) (p : AdP t m L M) (ha : IsSl Y a 1 (((apL t (L.map gridN) (-1)).map smpl).map fltR)) (hb : IsSl Y b 1 (((apL t (M.map gridN) 1).map smpl).map fltR)) (hc : IsSl Y c3 1 (((apL t (M.map gridN) (-1)).map smpl).map fltR)) (hs : IsSl Y s3 1 (((apL t (addL (L.map gridN) (M.map gridN)) (-1)).map smpl).map fltR)) (hr : IsSl Y r3 1 (((apL t (revL (M.map gridN)) (-1)).map smpl).map fltR)) (fs : fitsB (apL t (addL (L.map gridN) (M.map gridN)) (-1)) = true) (fr : fitsB (apL t (revL (M.map gridN)) (-1)) = true) :
    WC P inFn adE [] ts Y (FQ [(6, none)] fun v k => Ext h k ∧ v = .bool true) := by
  show WC P inFn (.seq _ adF) _ _ _ _
  have pl := p.hl
  have pe := p.he
  have xL : ∀ x ∈ L.map gridN, -127 ≤ x ∧ x ≤ 127 := fun x hx => by have := p.ax x hx; omega
  have xM : ∀ x ∈ M.map gridN, -127 ≤ x ∧ x ≤ 127 := fun x hx => by have := p.ay x hx; omega
  have fa := (ap_ok p.tz p.gx pl xL (-1)).2
  have fb := (ap_ok p.tz p.gy (by omega) xM 1).2
  have fc := (ap_ok p.tz p.gy (by omega) xM (-1)).2
  obtain ⟨A, hA⟩ : ∃ A, A = L.map gridN := ⟨_, rfl⟩
  obtain ⟨B, hB⟩ : ∃ B, B = M.map gridN := ⟨_, rfl⟩
  have lA : A.length = L.length := by rw [hA, List.length_map]
  have lB : B.length = L.length := by rw [hB, List.length_map]; omega
  have hadd : ∀ {i : Nat}, i < L.length → atZ (apL t (addL A B) (-1)) i = atZ (apL t A (-1)) i + atZ (apL t B (-1)) i := fun {i} hi => ap_add (by omega) (by omega)
  have hrev : ∀ {i : Nat}, i < L.length → atZ (apL t (revL B) (-1)) i = atZ (apL t B 1) ((L.length : Int) - 1 - i) := fun {i} hi => by rw [ap_rev (by omega), lB]
  have ha0 := ha
  rw [← hA] at ha hs fs fa
  rw [← hB] at hb hc hs hr fs fr fb fc
  have l1 : (apL t A (-1)).length = L.length := by rw [apL_len]; exact lA
  have l2 : (apL t B 1).length = L.length := by rw [apL_len]; exact lB
  have l3 : (apL t B (-1)).length = L.length := by rw [apL_len]; exact lB
  have l4 : (apL t (addL A B) (-1)).length = L.length := by rw [apL_len, addL, genL_len]; exact lA
  have l5 : (apL t (revL B) (-1)).length = L.length := by rw [apL_len, revL, genL_len]; exact lB
  obtain ⟨La, hLa⟩ : ∃ l, l = apL t A (-1) := ⟨_, rfl⟩
  obtain ⟨Lb, hLb⟩ : ∃ l, l = apL t B 1 := ⟨_, rfl⟩
  obtain ⟨Lc, hLc⟩ : ∃ l, l = apL t B (-1) := ⟨_, rfl⟩
  obtain ⟨Ls, hLs⟩ : ∃ l, l = apL t (addL A B) (-1) := ⟨_, rfl⟩
  obtain ⟨Lr, hLr⟩ : ∃ l, l = apL t (revL B) (-1) := ⟨_, rfl⟩
  rw [← hLs, ← hLa, ← hLc] at hadd
  rw [← hLr, ← hLb] at hrev
  rw [← hLa] at ha l1 fa
  rw [← hLb] at hb l2 fb
  rw [← hLc] at hc l3 fc
  rw [← hLs] at hs l4 fs
  rw [← hLr] at hr l5 fr
  have sg : ∀ {Z : List Int}, fitsB Z = true → ∀ (i : Nat) (q : i < (Z.map smpl).length) (w : i < Z.length), gridE (Z.map smpl)[i] = 0 ∧ gridN (Z.map smpl)[i] = Z[i] := fun {Z} f i q w => by
    rw [List.getElem_map]
    have bb := fits_all f Z[i] (List.getElem_mem _)
    exact (smpl_ok bb.1 bb.2).2
  refine Rs (A9 @t0 @t1 @t5 @t7 @t9 @t18 @t20 @t22 ha.lenm) ?_
  refine WL.inv T.mix (fun n ts K => ∃ j : Nat, j ≤ L.length ∧ n = L.length - j ∧ K = Y ∧ ts.length = 316 ∧ slot ts 0 = s0 ∧ slot ts 1 = s1 ∧ slot ts 5 = .ptr b5 0 ∧ slot ts 7 = a ∧ slot ts 9 = b ∧ slot ts 18 = c3 ∧ slot ts 20 = s3 ∧ slot ts 22 = r3 ∧ slot ts 238 = .int .i64 L.length ∧ slot ts 239 = .int .i64 j) L.length
    ⟨0, by omega, rfl, rfl, Sn, (Sq @t0), (Sq @t1), (Sq @t5), (Sq @t7), (Sq @t9), (Sq @t18), (Sq @t20), (Sq @t22), (by simp only [wset, hset, dset, bset, Nat.reduceAdd, Nat.reduceMul, Nat.reduceLeDiff, Nat.reduceEqDiff, pset, hlen, if_false, if_true, List.length_map, l1]), Swr⟩ ?_
  clear hlen t0 t1 t5 t7 t9 t18 t20 t22
  rintro _ ts K ⟨j, hj, rfl, rfl, hlen, t0, t1, t5, t7, t9, t18, t20, t22, t238, t239⟩
  by_cases hlt : j < L.length
  case neg =>
    have e3 := dltF hlt
    refine Rs (A11 @t0 @t1 @t5 @t7 @t9 @t18 @t20 @t22 @t238 @t239 @e3) ?_
    exact ad_F T (s0 := s0) (s1 := s1) (x := x) (y := y) (a := a) (b5 := b5) (t := t) (m := m) (L := L) (M := M) Sn (Sq @t0) (Sq @t1) (Sq @t5) (Sq @t7) e0 c p ha0
  have e3 := dltT hlt
  have e5 := wrapN (n := j) (by omega)
  have qa : j < (La.map smpl).length := by rw [List.length_map]; omega
  have qc : j < (Lc.map smpl).length := by rw [List.length_map]; omega
  have qs : j < (Ls.map smpl).length := by rw [List.length_map]; omega
  have qr : j < (Lr.map smpl).length := by rw [List.length_map]; omega
  obtain ⟨jr, hjr⟩ : ∃ jr, jr = L.length - 1 - j := ⟨_, rfl⟩
  have qb : jr < (Lb.map smpl).length := by rw [List.length_map]; omega
  have ixa := ha.ixm (kk := .i64) qa
  have ixb := hb.ixm (kk := .i64) qb
  have ixc := hc.ixm (kk := .i64) qc
  have ixs := hs.ixm (kk := .i64) qs
  have ixr := hr.ixm (kk := .i64) qr
  obtain ⟨ga, na⟩ := sg fa j qa (by omega)
  obtain ⟨gb, nb⟩ := sg fb jr qb (by omega)
  obtain ⟨gc, nc⟩ := sg fc j qc (by omega)
  obtain ⟨gs, ns⟩ := sg fs j qs (by omega)
  obtain ⟨gr, nr⟩ := sg fr j qr (by omega)
  have za := atZ_at (l := La) (k := j) (by omega)
  have zb := atZ_at (l := Lb) (k := jr) (by omega)
  have zc := atZ_at (l := Lc) (k := j) (by omega)
  have zs := atZ_at (l := Ls) (k := j) (by omega)
  have zr := atZ_at (l := Lr) (k := j) (by omega)
  have had := hadd hlt
  have hre := hrev hlt
  rw [show (L.length : Int) - 1 - j = ((jr : Nat) : Int) by omega] at hre
  rw [za, zc, zs] at had
  rw [zb, zr] at hre
  have bs := fits_all fs Ls[j] (List.getElem_mem _)
  obtain ⟨va, hva⟩ : ∃ v, v = (La.map smpl)[j] := ⟨_, rfl⟩
  obtain ⟨vb, hvb⟩ : ∃ v, v = (Lb.map smpl)[jr] := ⟨_, rfl⟩
  obtain ⟨vc, hvc⟩ : ∃ v, v = (Lc.map smpl)[j] := ⟨_, rfl⟩
  obtain ⟨vs, hvs⟩ : ∃ v, v = (Ls.map smpl)[j] := ⟨_, rfl⟩
  obtain ⟨vr, hvr⟩ : ∃ v, v = (Lr.map smpl)[j] := ⟨_, rfl⟩
  have la : ∀ {kk : AHeap}, Ext K kk → loadF none (elp a 1 j) (fun b => kk[b]?) = some (.flt .f32 va, .keep) := fun {kk} e => by rw [hva]; exact ha.l1m qa rfl e
  have lb : ∀ {kk : AHeap}, Ext K kk → loadF none (elp b 1 jr) (fun b => kk[b]?) = some (.flt .f32 vb, .keep) := fun {kk} e => by rw [hvb]; exact hb.l1m qb rfl e
  have lc : ∀ {kk : AHeap}, Ext K kk → loadF none (elp c3 1 j) (fun b => kk[b]?) = some (.flt .f32 vc, .keep) := fun {kk} e => by rw [hvc]; exact hc.l1m qc rfl e
  have ls : ∀ {kk : AHeap}, Ext K kk → loadF none (elp s3 1 j) (fun b => kk[b]?) = some (.flt .f32 vs, .keep) := fun {kk} e => by rw [hvs]; exact hs.l1m qs rfl e
  have lr : ∀ {kk : AHeap}, Ext K kk → loadF none (elp r3 1 j) (fun b => kk[b]?) = some (.flt .f32 vr, .keep) := fun {kk} e => by rw [hvr]; exact hr.l1m qr rfl e
  rw [← hva] at ga na
  rw [← hvb] at gb nb
  rw [← hvc] at gc nc
  rw [← hvs] at gs ns
  rw [← hvr] at gr nr
  rw [← na, ← nc, ← ns] at had
  rw [← ns] at bs
  rw [← nb, ← nr] at hre
  obtain ⟨q, hq, gq, nq⟩ := grid_add ga gc (by omega)
  obtain ⟨w1, hw1, rfl⟩ := grid_same gs gq (by omega)
  obtain ⟨w2, hw2, rfl⟩ := grid_same gr gb hre
  have lnb : (Lb.map smpl).length = L.length := by rw [List.length_map]; exact l2
  have u1 : IntKind.i64.wrap (((Lb.map smpl).length : Int) - 1) = (L.length : Int) - 1 := by rw [lnb, wrap_in (by omega) (by omega)]
  have u2 : IntKind.i64.wrap ((L.length : Int) - 1 - j) = ((jr : Nat) : Int) := by rw [wrap_in (by omega) (by omega)]; omega
  repeat (first | simp (config := { maxSteps := 1000000 }) only [wset, hset, dset, bset, Nat.reduceAdd, Nat.reduceMul, Nat.reduceLeDiff, Nat.reduceEqDiff, pset, hlen, if_false, if_true, t0, t1, t5, t7, t9, t18, t20, t22, t238, t239, e3, ixa, ixb, ixc, ixs, ixr, la, lb, lc, ls, lr, hq, hw1, hw2, hb.lenm, u1, u2, e5] | simp (config := { maxSteps := 1000000 }) (disch := first | (simp only [List.length_append, List.length_cons, List.length_nil] <;> omega) | rfl | omega | fail) only [kset, wset, hset, dset, bset, Nat.reduceAdd, Nat.reduceMul, Nat.reduceLeDiff, Nat.reduceEqDiff, pset, hlen, if_false, if_true, t0, t1, t5, t7, t9, t18, t20, t22, t238, t239, e3, ixa, ixb, ixc, ixs, ixr, la, lb, lc, ls, lr, hq, hw1, hw2, hb.lenm, u1, u2, e5])
  exact ⟨L.length - (j + 1), by omega, j + 1, by omega, rfl, rfl⟩
set_option maxHeartbeats 4000000 in
theorem ad_D {Z1 Z2 : List Nat} {u15 u16 : AV} (hlen : ts.length = 316) (t0 : slot ts 0 = s0) (t1 : slot ts 1 = s1) (t5 : slot ts 5 = .ptr b5 0) (t7 : slot ts 7 = a) (t9 : slot ts 9 = b) (t15 : slot ts 15 = u15) (t16 : slot ts 16 = u16) (e0 : Ext h Y) (c : AdH Y s0 s1 x y b5 t m L M) (p : AdP t m L M) (ha : IsSl Y a 1 (((apL t (L.map gridN) (-1)).map smpl).map fltR)) (hb : IsSl Y b 1 (((apL t (M.map gridN) 1).map smpl).map fltR)) (h15 : IsSl Y u15 1 (Z1.map fltR)) (h16 : IsSl Y u16 1 (Z2.map fltR)) (g1 : ∀ b ∈ Z1, gridE b = 0) (n1 : Z1.map gridN = addL (L.map gridN) (M.map gridN)) (g2 : ∀ b ∈ Z2, gridE b = 0) (n2 : Z2.map gridN = revL (M.map gridN)) :
    WC P inFn adD [] ts Y (FQ [(6, none)] fun v k => Ext h k ∧ v = .bool true) := by
  show WC P inFn (.seq _ (.seq _ (.seq _ (.seq _ adE)))) _ _ _ _
  have pl := p.hl
  have pe := p.he
  have xM : ∀ x ∈ M.map gridN, -127 ≤ x ∧ x ≤ 127 := fun x hx => by have := p.ay x hx; omega
  have k1 : Z1.length = L.length := by have := congrArg List.length n1; rw [List.length_map, addL, genL_len, List.length_map] at this; exact this
  have k2 : Z2.length = L.length := by have := congrArg List.length n2; rw [List.length_map, revL, genL_len, List.length_map] at this; omega
  have x1 : ∀ x ∈ Z1.map gridN, -127 ≤ x ∧ x ≤ 127 := fun x hx => by
    rw [n1] at hx
    obtain ⟨i, _, rfl⟩ := List.mem_map.1 hx
    have q1 := atZ_lim (show (0 : Int) ≤ 60 by omega) p.ax i
    have q2 := atZ_lim (show (0 : Int) ≤ 60 by omega) p.ay i
    omega
  have x2 : ∀ x ∈ Z2.map gridN, -127 ≤ x ∧ x ≤ 127 := fun x hx => by
    rw [n2] at hx
    obtain ⟨i, _, rfl⟩ := List.mem_map.1 hx
    have q2 := atZ_lim (show (0 : Int) ≤ 60 by omega) p.ay (((M.map gridN).length : Int) - 1 - i)
    omega
  have cM := ap_ok p.tz p.gy (by omega) xM (-1)
  have c1 := ap_ok p.tz g1 (by omega) x1 (-1)
  have c2 := ap_ok p.tz g2 (by omega) x2 (-1)
  have la : ((apL t (L.map gridN) (-1)).map smpl).length = L.length := by rw [List.length_map, apL_len, List.length_map]
  have lc : ((apL t (M.map gridN) (-1)).map smpl).length = L.length := by rw [List.length_map, apL_len, List.length_map]; omega
  have ls : ((apL t (Z1.map gridN) (-1)).map smpl).length = L.length := by rw [List.length_map, apL_len, List.length_map]; omega
  have lr : ((apL t (Z2.map gridN) (-1)).map smpl).length = L.length := by rw [List.length_map, apL_len, List.length_map]; omega
  have l5 := @ldx _ _ _ c.m5
  have oy := c.hy.one
  refine Rs (A7 @t0 @t1 @t5 @t7 @t9 @t15 @t16) ?_
  refine WF.res T.c21 (r21 T c.h0 p.tl) ?_
  intro a1 g1' is1
  refine Rs (A11 @t0 @t1 @t5 @t7 @t9 @t15 @t16 @iad_1 @l5 @two_1 @oy) ?_
  refine WF.res T.c22 (r22 T (c.hy.ext Xx) (by omega)) ?_
  intro a2 g2' is2
  refine Rs (A7 @t0 @t1 @t5 @t7 @t9 @t15 @t16) ?_
  refine WF.res T.c20 (r20 T (is1.ext Xx) is2 p.tl (by omega)) ?_
  rintro _ g3 ⟨u18, e19, rfl, hH⟩
  obtain ⟨is18, rfl⟩ := heard_ok hH cM.1 cM.2
  have o18 := is18.one
  obtain ⟨X1, hX1⟩ : ∃ X1, X1 = Y ++ g1' ++ g2' ++ g3 := ⟨_, rfl⟩
  have eX1 : Ext Y X1 := by rw [hX1]; exact Xx
  rw [← hX1] at is18 ⊢
  clear is1 is2 hX1 hH
  have c' := c.ext eX1
  have h15 := h15.ext eX1
  have h16 := h16.ext eX1
  refine Rs (A8 @t0 @t1 @t5 @t7 @t9 @t15 @t16 @o18) ?_
  refine WF.res T.c21 (r21 T c'.h0 p.tl) ?_
  intro a1 g1' is1
  refine Rs (A7 @t0 @t1 @t5 @t7 @t9 @t15 @t16) ?_
  refine WF.res T.c20 (r20 T is1 (h15.ext Xx) p.tl (by omega)) ?_
  rintro _ g3 ⟨u20, e21, rfl, hH⟩
  obtain ⟨is20, rfl⟩ := heard_ok hH c1.1 c1.2
  have o20 := is20.one
  obtain ⟨X2, hX2⟩ : ∃ X2, X2 = X1 ++ g1' ++ g3 := ⟨_, rfl⟩
  have eX2 : Ext X1 X2 := by rw [hX2]; exact Xx
  rw [← hX2] at is20 ⊢
  clear is1 hX2 hH
  have c'' := c'.ext eX2
  have h16 := h16.ext eX2
  have is18 := is18.ext eX2
  refine Rs (A8 @t0 @t1 @t5 @t7 @t9 @t15 @t16 @o20) ?_
  refine WF.res T.c21 (r21 T c''.h0 p.tl) ?_
  intro a1 g1' is1
  refine Rs (A7 @t0 @t1 @t5 @t7 @t9 @t15 @t16) ?_
  refine WF.res T.c20 (r20 T is1 (h16.ext Xx) p.tl (by omega)) ?_
  rintro _ g3 ⟨u22, e23, rfl, hH⟩
  obtain ⟨is22, rfl⟩ := heard_ok hH c2.1 c2.2
  have o22 := is22.one
  obtain ⟨X3, hX3⟩ : ∃ X3, X3 = X2 ++ g1' ++ g3 := ⟨_, rfl⟩
  have eX3 : Ext X2 X3 := by rw [hX3]; exact Xx
  rw [← hX3] at is22 ⊢
  clear is1 hX3 hH
  have eX := eX1.trans (eX2.trans eX3)
  have is18 := is18.ext eX3
  have is20 := is20.ext eX3
  have ha3 := ha.ext eX
  have hb3 := hb.ext eX
  have d0 : decide ((0 : Int) ≠ 0) = false := rfl
  have v1 : decide ((((apL t (M.map gridN) (-1)).map smpl).length : Int) ≠ (((apL t (L.map gridN) (-1)).map smpl).length : Int)) = false := decide_eq_false fun z => z (by rw [la, lc])
  have v2 : decide ((((apL t (Z1.map gridN) (-1)).map smpl).length : Int) ≠ (((apL t (L.map gridN) (-1)).map smpl).length : Int)) = false := decide_eq_false fun z => z (by rw [la, ls])
  have v3 : decide ((((apL t (Z2.map gridN) (-1)).map smpl).length : Int) ≠ (((apL t (L.map gridN) (-1)).map smpl).length : Int)) = false := decide_eq_false fun z => z (by rw [la, lr])
  refine Rs (A16 @t0 @t1 @t5 @t7 @t9 @t15 @t16 @o22 @d0 is18.lenm is20.lenm is22.lenm ha3.lenm @v1 @v2 @v3) ?_
  rw [n1] at is20
  rw [n2] at is22
  exact ad_E T (s0 := s0) (s1 := s1) (x := x) (y := y) (a := a) (b := b) (b5 := b5) (c3 := u18) (s3 := u20) (r3 := u22) (t := t) (m := m) (L := L) (M := M) Sn (Sq @t0) (Sq @t1) (Sq @t5) (Sq @t7) (Sq @t9) Sw Sw Sw (e0.trans eX) (c.ext eX) p ha3 hb3 is18 is20 is22 (by rw [← n1]; exact c1.2) (by rw [← n2]; exact c2.2)
set_option maxHeartbeats 4000000 in
theorem ad_C (hlen : ts.length = 316) (t0 : slot ts 0 = s0) (t1 : slot ts 1 = s1) (t5 : slot ts 5 = .ptr b5 0) (t7 : slot ts 7 = a) (t9 : slot ts 9 = b) (e0 : Ext h Y) (c : AdH Y s0 s1 x y b5 t m L M) (p : AdP t m L M) (ha : IsSl Y a 1 (((apL t (L.map gridN) (-1)).map smpl).map fltR)) (hb : IsSl Y b 1 (((apL t (M.map gridN) 1).map smpl).map fltR)) :
    WC P inFn adC [] ts Y (FQ [(6, none)] fun v k => Ext h k ∧ v = .bool true) := by
  show WC P inFn (.seq _ (.seq _ adD)) _ _ _ _
  have pl := p.hl
  have pe := p.he
  have l5 := @ldx _ _ _ c.m5
  have ox := c.hx.one
  have oy := c.hy.one
  refine Rs (A12 @t0 @t1 @t5 @t7 @t9 @iad_0 @iad_1 @l5 @two_0 @two_1 @ox @oy) ?_
  refine WF.res T.c22 (q22 T c.hx (by omega)) ?_
  intro u15 g1 f15
  refine Rs (A12 @t0 @t1 @t5 @t7 @t9 @iad_0 @iad_1 @l5 @two_0 @two_1 @ox @oy) ?_
  refine WF.res T.c22 (q22 T (c.hy.ext Xx) (by omega)) ?_
  intro u16 g2 f16
  have sep := Fr.apart f15 f16 (Nat.le_refl _)
  have f15 := f15.app g2
  have f16 := f16.low (show Y.length ≤ (Y ++ g1).length by simp)
  rw [List.append_assoc Y] at f15 f16 ⊢
  have o15 := f15.isSl.one
  have o16 := f16.isSl.one
  obtain ⟨fA, hfA⟩ : ∃ f : Nat → Int, f = fun i : Nat => atZ (L.map gridN) i + atZ (M.map gridN) i := ⟨_, rfl⟩
  obtain ⟨fB, hfB⟩ : ∃ f : Nat → Int, f = fun i : Nat => atZ (M.map gridN) (((M.map gridN).length : Int) - 1 - i) := ⟨_, rfl⟩
  have eA : genL L.length fA = addL (L.map gridN) (M.map gridN) := by rw [addL, List.length_map, hfA]
  have eB : genL L.length fB = revL (M.map gridN) := by rw [revL, hfB, pe, List.length_map]
  refine Rs (A8 @t0 @t1 @t5 @t7 @t9 @o15 @o16 f15.isSl.lenm) ?_
  refine WL.inv T.mix (fun n ts K => ∃ (j : Nat) (G : AHeap) (Z1 Z2 : List Nat), j ≤ L.length ∧ n = L.length - j ∧ K = Y ++ G ∧ Fr Y.length K u15 1 (Z1.map fltR) ∧ Fr Y.length K u16 1 (Z2.map fltR) ∧ GrTo Z1 L.length fA j ∧ GrTo Z2 L.length fB j ∧ ts.length = 316 ∧ slot ts 0 = s0 ∧ slot ts 1 = s1 ∧ slot ts 5 = .ptr b5 0 ∧ slot ts 7 = a ∧ slot ts 9 = b ∧ slot ts 15 = u15 ∧ slot ts 16 = u16 ∧ slot ts 150 = u15 ∧ slot ts 151 = .int .i64 L.length ∧ slot ts 152 = .int .i64 j) L.length
    ⟨0, g1 ++ g2, L, M, by omega, rfl, rfl, f15, f16, ⟨rfl, fun i _ hi => by omega⟩, ⟨pe.symm, fun i _ hi => by omega⟩, Sn, (Sq @t0), (Sq @t1), (Sq @t5), (Sq @t7), (Sq @t9), Sw, Sw, Sw, Sw, Swr⟩ ?_
  clear hlen t0 t1 t5 t7 t9 f15 f16
  rintro _ ts _ ⟨j, G, Z1, Z2, hj, rfl, rfl, f15, f16, gr1, gr2, hlen, t0, t1, t5, t7, t9, t15, t16, t150, t151, t152⟩
  have eK : Ext Y (Y ++ G) := ⟨G, rfl⟩
  by_cases hlt : j < L.length
  case neg =>
    have e3 := dltF hlt
    have e4 : j = L.length := by omega
    rw [e4] at gr1 gr2
    obtain ⟨q1, n1⟩ := gr1.all
    obtain ⟨q2, n2⟩ := gr2.all
    refine Rs (A11 @t0 @t1 @t5 @t7 @t9 @t15 @t16 @t150 @t151 @t152 @e3) ?_
    exact ad_D T (Z1 := Z1) (Z2 := Z2) (u15 := u15) (u16 := u16) (s0 := s0) (s1 := s1) (x := x) (y := y) (a := a) (b := b) (b5 := b5) (t := t) (m := m) (L := L) (M := M) Sn (Sq @t0) (Sq @t1) (Sq @t5) (Sq @t7) (Sq @t9) (Sq @t15) (Sq @t16) (e0.trans eK) (c.ext eK) p (ha.ext eK) (hb.ext eK) f15.isSl f16.isSl q1 (by rw [n1, eA]) q2 (by rw [n2, eB])
  have e3 := dltT hlt
  have e5 := wrapN (n := j) (by omega)
  have hlm : j < M.length := by omega
  obtain ⟨jr, hjr⟩ : ∃ jr, jr = L.length - 1 - j := ⟨_, rfl⟩
  have hlr : jr < M.length := by omega
  have k1 : j < Z1.length := by rw [gr1.1]; exact hlt
  have k2 : j < Z2.length := by rw [gr2.1]; exact hlt
  have cK := c.ext eK
  have l5 := @ldx _ _ _ cK.m5
  have ixx := cK.hx.ixm (kk := .i64) hlt
  have ixy := cK.hy.ixm (kk := .i64) hlm
  have ix1 := f15.isSl.ixm (kk := .i64) k1
  have lx : ∀ {kk : AHeap}, Ext (Y ++ G) kk → loadF none (elp x 1 j) (fun b => kk[b]?) = some (.flt .f32 L[j], .keep) := fun {kk} e => cK.hx.l1m hlt rfl e
  have ly : ∀ {kk : AHeap}, Ext (Y ++ G) kk → loadF none (elp y 1 j) (fun b => kk[b]?) = some (.flt .f32 M[j], .keep) := fun {kk} e => cK.hy.l1m hlm rfl e
  have gx := p.gx L[j] (List.getElem_mem _)
  have gy := p.gy M[j] (List.getElem_mem _)
  have ax := p.ax (gridN L[j]) (List.mem_map_of_mem (List.getElem_mem _))
  have ay := p.ay (gridN M[j]) (List.mem_map_of_mem (List.getElem_mem _))
  obtain ⟨q, hq, gq, nq⟩ := grid_add gx gy (by omega)
  have hfj : fA j = gridN L[j] + gridN M[j] := by
    rw [hfA]
    show atZ _ (j : Int) + atZ _ (j : Int) = _
    rw [atZ_at (by rw [List.length_map]; exact hlt), atZ_at (by rw [List.length_map]; exact hlm), List.getElem_map, List.getElem_map]
  have hfr : fB j = gridN M[jr] := by
    rw [hfB]
    show atZ _ (((M.map gridN).length : Int) - 1 - (j : Int)) = _
    rw [show ((M.map gridN).length : Int) - 1 - (j : Int) = ((jr : Nat) : Int) by rw [List.length_map]; omega, atZ_at (by rw [List.length_map]; exact hlr), List.getElem_map]
  have gr := p.gy M[jr] (List.getElem_mem _)
  have gr1' := gr1.set gq (nq.trans hfj.symm)
  have gr2' := gr2.set gr hfr.symm
  refine Rs (A24 @t0 @t1 @t5 @t7 @t9 @t15 @t16 @t150 @t151 @t152 @e3 @iad_0 @iad_1 @l5 @two_0 @two_1 @ox @oy @ixx @ixy @lx @ly @hq @ix1) ?_
  refine WR.put1 (h0 := Y) (off := 0) (row := fltR) (x' := q) f15 k1 (by decide) rfl rfl ?_
  intro G2 hl2 F15 fr15
  have f16 := f16.kept sep fr15
  have eK2 : Ext Y (Y ++ G2) := ⟨G2, rfl⟩
  have cK2 := c.ext eK2
  have l52 := @ldx _ _ _ cK2.m5
  have ixr := cK2.hy.ixm (kk := .i64) hlr
  have lr : ∀ {kk : AHeap}, Ext (Y ++ G2) kk → loadF none (elp y 1 jr) (fun b => kk[b]?) = some (.flt .f32 M[jr], .keep) := fun {kk} e => cK2.hy.l1m hlr rfl e
  have ix2 := f16.isSl.ixm (kk := .i64) k2
  have u1 : IntKind.i64.wrap ((M.length : Int) - 1) = (L.length : Int) - 1 := by rw [wrap_in (by omega) (by omega)]; omega
  have u2 : IntKind.i64.wrap ((L.length : Int) - 1 - j) = ((jr : Nat) : Int) := by rw [wrap_in (by omega) (by omega)]; omega
  refine Rs (A23 @t0 @t1 @t5 @t7 @t9 @t15 @t16 @t150 @t151 @t152 @iad_0 @iad_1 @l52 @two_0 @two_1 @ox @oy cK2.hy.lenm @u1 @u2 @ixr @lr @ix2) ?_
  refine WR.put1 (h0 := Y) (off := 0) (row := fltR) (x' := M[jr]) f16 k2 (by decide) rfl rfl ?_
  intro G3 hl3 F16 fr16
  have F15 := F15.kept (fun b0 o n e b1 o1 n1 e1 q1 q2 z => sep _ _ _ _ _ _ _ _ q2 q1 z.symm) fr16
  refine Rs (A11 @t0 @t1 @t5 @t7 @t9 @t15 @t16 @t150 @t151 @t152 @e5) ?_
  exact ⟨L.length - (j + 1), by omega, j + 1, G3, _, _, by omega, rfl, rfl, F15, F16, gr1', gr2', rfl⟩
set_option maxHeartbeats 4000000 in
theorem ad_B (hlen : ts.length = 316) (t0 : slot ts 0 = s0) (t1 : slot ts 1 = s1) (t5 : slot ts 5 = .ptr b5 0) (e0 : Ext h Y) (c : AdH Y s0 s1 x y b5 t m L M) (p : AdP t m L M) :
    WC P inFn adB [] ts Y (FQ [(6, none)] fun v k => Ext h k ∧ v = .bool true) := by
  show WC P inFn (.seq _ (.seq _ (.seq _ (.seq _ (.seq _ (.seq _ adC)))))) _ _ _ _
  have pl := p.hl
  have pe := p.he
  have xL : ∀ x ∈ L.map gridN, -127 ≤ x ∧ x ≤ 127 := fun x hx => by have := p.ax x hx; omega
  have xM : ∀ x ∈ M.map gridN, -127 ≤ x ∧ x ≤ 127 := fun x hx => by have := p.ay x hx; omega
  have ca := ap_ok p.tz p.gx pl xL (-1)
  have cb := ap_ok p.tz p.gy (by omega) xM 1
  have l5 := @ldx _ _ _ c.m5
  have ox := c.hx.one
  have oy := c.hy.one
  refine Rs (A3 @t0 @t1 @t5) ?_
  refine WF.res T.c21 (r21 T c.h0 p.tl) ?_
  intro a1 g1 is1
  refine Rs (A7 @t0 @t1 @t5 @iad_0 @l5 @two_0 @ox) ?_
  refine WF.res T.c22 (r22 T (c.hx.ext Xx) (by omega)) ?_
  intro a2 g2 is2
  refine Rs (A3 @t0 @t1 @t5) ?_
  refine WF.res T.c20 (r20 T (is1.ext Xx) is2 p.tl (by omega)) ?_
  rintro _ g3 ⟨u7, e8, rfl, hH⟩
  obtain ⟨is7, rfl⟩ := heard_ok hH ca.1 ca.2
  have o7 := is7.one
  obtain ⟨X1, hX1⟩ : ∃ X1, X1 = Y ++ g1 ++ g2 ++ g3 := ⟨_, rfl⟩
  have eX1 : Ext Y X1 := by rw [hX1]; exact Xx
  rw [← hX1] at is7 ⊢
  clear is1 is2 hX1 hH
  have c1 := c.ext eX1
  have l51 := @ldx _ _ _ c1.m5
  refine Rs (A4 @t0 @t1 @t5 @o7) ?_
  refine WF.res T.c21 (r21 T c1.h0 p.tl) ?_
  intro a1 g1 is1
  refine Rs (A7 @t0 @t1 @t5 @iad_1 @l51 @two_1 @oy) ?_
  refine WF.res T.c22 (r22 T (c1.hy.ext Xx) (by omega)) ?_
  intro a2 g2 is2
  refine Rs (A3 @t0 @t1 @t5) ?_
  refine WF.res T.c24 (r24 T (is1.ext Xx) is2 p.tl (by omega)) ?_
  rintro _ g3 ⟨u9, e10, rfl, hH⟩
  obtain ⟨is9, rfl⟩ := heard_ok hH cb.1 cb.2
  have o9 := is9.one
  obtain ⟨X2, hX2⟩ : ∃ X2, X2 = X1 ++ g1 ++ g2 ++ g3 := ⟨_, rfl⟩
  have eX2 : Ext X1 X2 := by rw [hX2]; exact Xx
  rw [← hX2] at is9 ⊢
  clear is1 is2 hX2 hH
  have c2 := c1.ext eX2
  have l52 := @ldx _ _ _ c2.m5
  have is7 := is7.ext eX2
  have lU : ((apL t (L.map gridN) (-1)).map smpl).length = L.length := by rw [List.length_map, apL_len, List.length_map]
  have lV : ((apL t (M.map gridN) 1).map smpl).length = L.length := by rw [List.length_map, apL_len, List.length_map]; omega
  have d0 : decide ((0 : Int) ≠ 0) = false := rfl
  have v1 : decide ((((apL t (L.map gridN) (-1)).map smpl).length : Int) ≠ (L.length : Int)) = false := decide_eq_false fun z => z (by rw [lU])
  have v2 : decide ((((apL t (M.map gridN) 1).map smpl).length : Int) ≠ (L.length : Int)) = false := decide_eq_false fun z => z (by rw [lV])
  have gU := smpl_all ca.2
  have gV := smpl_all cb.2
  have cp1 : chkP ((apL t (L.map gridN) (-1)).map smpl) M = 0 := chkP_ok (by omega) (by omega) gU.1 p.gy
  have cp2 : chkP L ((apL t (M.map gridN) 1).map smpl) = 0 := chkP_ok (by omega) (by omega) p.gx gV.1
  have hdot : dotI (apL t (L.map gridN) (-1)) (M.map gridN) = dotI (L.map gridN) (apL t (M.map gridN) 1) := by
    unfold dotI
    rw [apL_len]
    exact ap_adjoint (by rw [List.length_map, List.length_map]; exact pe)
  refine Rs (A14 @t0 @t1 @t5 @o9 @d0 is7.lenm is9.lenm @iad_0 @l52 @two_0 @ox c2.hx.lenm @v1 @v2) ?_
  refine WF.res T.c22 (r22 T is7 (by omega)) ?_
  intro a1 g1 is1
  refine Rs (A7 @t0 @t1 @t5 @iad_1 @l52 @two_1 @oy) ?_
  refine WF.res T.c22 (r22 T (c2.hy.ext Xx) (by omega)) ?_
  intro a2 g2 is2
  refine Rs (A3 @t0 @t1 @t5) ?_
  refine WF.ce T.c36 (r36 T (is1.ext Xx) is2 (by omega) (by omega)) fun g3 => ?_
  rw [cp1, if_pos rfl, gU.2]
  obtain ⟨X3, hX3⟩ : ∃ X3, X3 = X2 ++ g1 ++ g2 ++ g3 := ⟨_, rfl⟩
  have eX3 : Ext X2 X3 := by rw [hX3]; exact Xx
  rw [← hX3]
  clear is1 is2 hX3
  have c3 := c2.ext eX3
  have l53 := @ldx _ _ _ c3.m5
  have is7 := is7.ext eX3
  have is9 := is9.ext eX3
  refine Rs (A7 @t0 @t1 @t5 @iad_0 @l53 @two_0 @ox) ?_
  refine WF.res T.c22 (r22 T c3.hx (by omega)) ?_
  intro a1 g1 is1
  refine Rs (A3 @t0 @t1 @t5) ?_
  refine WF.res T.c22 (r22 T (is9.ext Xx) (by omega)) ?_
  intro a2 g2 is2
  refine Rs (A3 @t0 @t1 @t5) ?_
  refine WF.ce T.c36 (r36 T (is1.ext Xx) is2 (by omega) (by omega)) fun g3 => ?_
  rw [cp2, if_pos rfl, gV.2, ← hdot]
  have dd : decide (dotI (apL t (L.map gridN) (-1)) (M.map gridN) ≠ dotI (apL t (L.map gridN) (-1)) (M.map gridN)) = false := decide_eq_false fun z => z rfl
  have eX4 : Ext X3 (X3 ++ g1 ++ g2 ++ g3) := Xx
  refine Rs (A5 @t0 @t1 @t5 @d0 @dd) ?_
  have eX := eX1.trans (eX2.trans (eX3.trans eX4))
  exact ad_C T (s0 := s0) (s1 := s1) (x := x) (y := y) (a := u7) (b := u9) (b5 := b5) (t := t) (m := m) (L := L) (M := M) Sn (Sq @t0) (Sq @t1) (Sq @t5) Sw Sw (e0.trans eX) (c.ext eX) p (is7.ext eX4) (is9.ext eX4)
set_option maxHeartbeats 4000000 in
theorem r7 (X : Xfl P) (hw : ∀ k, Ext h k → RCall P 17 [] k (fun v _ => v = .bool true)) {t m : List Int} (hT : IsSl h s0 1 (t.map intRow)) (hM : IsSl h s1 1 (m.map intRow)) (hx : IsSl h x 1 (L.map fltR)) (hy : IsSl h y 1 (M.map fltR)) : RCall P 7 [s0, s1, .agg [x, y]] h (fun v _ => v = .bool true) := by
  refine .st3 316 T.mix T.c7 ?_;intro ts hlen t0 t1 t2;unfold fn7
  show WC P inFn (.seq _ (.seq _ adB)) _ _ _ _
  have bx : ∀ {N : Nat}, boxF (.agg [x, y]) N = some (.ptr N 0, .push (.cells [x, y] true false)) := fun {N} => by
    have q1 := hx.one
    have q2 := hy.one
    unfold boxF
    rw [if_pos (by show ([x, y] : List AV).all AV.one = true; simp [q1, q2])]
    rfl
  refine Rs (A4 @t0 @t1 @t2 @bx) ?_
  obtain ⟨H0, hH0⟩ : ∃ H0, H0 = h ++ [ABlk.cells [x, y] true false] := ⟨_, rfl⟩
  have e0 : Ext h H0 := by rw [hH0]; exact ⟨_, rfl⟩
  have m5 : H0[h.length]? = some (.cells [x, y] true false) := by rw [hH0]; exact at_new
  obtain ⟨b5, hb5⟩ : ∃ b5, b5 = h.length := ⟨_, rfl⟩
  rw [← hb5] at m5
  rw [← hH0, ← hb5]
  clear hH0 hb5
  refine WF.ce T.c17 (hw _ e0) fun g1 => ?_
  have e1 := e0.trans (show Ext H0 (H0 ++ g1) from ⟨_, rfl⟩)
  have c : AdH (H0 ++ g1) s0 s1 x y b5 t m L M := ⟨hT.ext e1, hM.ext e1, hx.ext e1, hy.ext e1, (show Ext H0 (H0 ++ g1) from ⟨_, rfl⟩).some m5⟩
  obtain ⟨K, hK⟩ : ∃ K, K = H0 ++ g1 := ⟨_, rfl⟩
  rw [← hK] at e1 c ⊢
  clear hK
  have ox := hx.one
  have oy := hy.one
  by_cases hst : (t.length : Int) ≤ 9
  case neg =>
    have d1 : decide ((t.length : Int) ≤ 9) = false := decide_eq_false hst
    refine Rs (A3 @t0 @t1 @Bool.not_true) ?_
    refine WF.ce T.c18 (r18 T c.h0) fun g2 => ?_
    refine Rs (A4 @t0 @t1 @d1 @Bool.not_false) ?_
    refine WF.ce T.c17 (hw _ (e1.trans Xx)) fun g3 => ?_
    refine Rs (A2 @t0 @t1) ?_
    exact ⟨e1.trans Xx, trivial⟩
  have d1 : decide ((t.length : Int) ≤ 9) = true := decide_eq_true hst
  refine Rs (A3 @t0 @t1 @Bool.not_true) ?_
  refine WF.ce T.c18 (r18 T c.h0) fun g2 => ?_
  refine Rs (A4 @t0 @t1 @d1 @Bool.not_true) ?_
  refine WF.ce T.c18 (r18 T (c.h1.ext Xx)) fun g3 => ?_
  by_cases hsm : (m.length : Int) ≤ 9
  case neg =>
    have d2 : decide ((m.length : Int) ≤ 9) = false := decide_eq_false hsm
    refine Rs (A4 @t0 @t1 @d2 @Bool.not_false) ?_
    refine WF.ce T.c17 (hw _ (e1.trans Xx)) fun g3 => ?_
    refine Rs (A2 @t0 @t1) ?_
    exact ⟨e1.trans Xx, trivial⟩
  have d2 : decide ((m.length : Int) ≤ 9) = true := decide_eq_true hsm
  refine Rs (A4 @t0 @t1 @d2 @Bool.not_true) ?_
  refine WF.ce T.c26 (r26 T (c.h0.ext Xx) (by omega)) fun g4 => ?_
  by_cases tz : chkTp t = 0
  case neg =>
    have d3 : decide (chkTp t ≠ 0) = true := decide_eq_true tz
    refine Rs (A3 @t0 @t1 @d3) ?_
    refine WF.ce T.c17 (hw _ (e1.trans Xx)) fun g3 => ?_
    refine Rs (A2 @t0 @t1) ?_
    exact ⟨e1.trans Xx, trivial⟩
  have d3 : decide (chkTp t ≠ 0) = false := decide_eq_false fun z => z tz
  refine Rs (A3 @t0 @t1 @d3) ?_
  refine WF.ce T.c26 (r26 T (c.h1.ext Xx) (by omega)) fun g5 => ?_
  by_cases mz : chkTp m = 0
  case neg =>
    have d4 : decide (chkTp m ≠ 0) = true := decide_eq_true mz
    refine Rs (A3 @t0 @t1 @d4) ?_
    refine WF.ce T.c17 (hw _ (e1.trans Xx)) fun g3 => ?_
    refine Rs (A2 @t0 @t1) ?_
    exact ⟨e1.trans Xx, trivial⟩
  have d4 : decide (chkTp m ≠ 0) = false := decide_eq_false fun z => z mz
  obtain ⟨U, hU⟩ : ∃ U, U = K ++ g2 ++ g3 ++ g4 ++ g5 := ⟨_, rfl⟩
  have eU : Ext K U := by rw [hU]; exact Xx
  rw [← hU]
  clear hU
  have c := c.ext eU
  have e1 := e1.trans eU
  have l5 := @ldx _ _ _ c.m5
  refine Rs (A7 @t0 @t1 @d4 @iad_0 @l5 @two_0 @ox) ?_
  refine WF.ce T.c57 (r57 T X c.hx (lim := 60) ⟨by omega, by omega⟩) fun g6 => ?_
  cases hq : quietB L 60 with
  | false =>
    refine Rs (A3 @t0 @t1 @Bool.not_false) ?_
    refine WF.ce T.c17 (hw _ (e1.trans Xx)) fun g3 => ?_
    refine Rs (A2 @t0 @t1) ?_
    exact ⟨e1.trans Xx, trivial⟩
  | true =>
    refine Rs (A7 @t0 @t1 @Bool.not_true @iad_1 @l5 @two_1 @oy) ?_
    refine WF.ce T.c57 (r57 T X (c.hy.ext Xx) (lim := 60) ⟨by omega, by omega⟩) fun g7 => ?_
    cases hq2 : quietB M 60 with
    | false =>
      refine Rs (A3 @t0 @t1 @Bool.not_false) ?_
      refine WF.ce T.c17 (hw _ (e1.trans Xx)) fun g3 => ?_
      refine Rs (A2 @t0 @t1) ?_
      exact ⟨e1.trans Xx, trivial⟩
    | true =>
      have e3 : Ext U (U ++ g6 ++ g7) := Xx
      have c3 := c.ext e3
      have l53 := @ldx _ _ _ c3.m5
      obtain ⟨q1, q2, q3⟩ := quietB_t hq
      obtain ⟨q4, q5, q6⟩ := quietB_t hq2
      by_cases he : (L.length : Int) ≠ (M.length : Int)
      · have d5 := decide_eq_true he
        refine Rs (A13 @t0 @t1 @Bool.not_true @iad_0 @iad_1 @l53 @two_0 @two_1 @ox @oy c3.hx.lenm c3.hy.lenm @d5) ?_
        refine WF.ce T.c17 (hw _ (e1.trans Xx)) fun g3 => ?_
        refine Rs (A2 @t0 @t1) ?_
        exact ⟨e1.trans Xx, trivial⟩
      have d5 := decide_eq_false he
      refine Rs (A13 @t0 @t1 @Bool.not_true @iad_0 @iad_1 @l53 @two_0 @two_1 @ox @oy c3.hx.lenm c3.hy.lenm @d5) ?_
      exact ad_B T (s0 := s0) (s1 := s1) (x := x) (y := y) (b5 := b5) (t := t) (m := m) (L := L) (M := M) Sn (Sq @t0) (Sq @t1) Sw (e1.trans e3) c3 ⟨tz, mz, by omega, by omega, q2, q5, q3, q6, q1, by omega⟩
end
end Go.Abs
namespace Go.Abs
theorem tya_flt2 {h : AHeap} {a : AV} (x : TYa h (.agg [.sl [.flt .f32], .sl [.flt .f32]]) a) : ∃ (s t : AV) (L M : List Nat), a = .agg [s, t] ∧ IsSl h s 1 (L.map fun b => [AV.flt .f32 b]) ∧ IsSl h t 1 (M.map fun b => [AV.flt .f32 b]) := by
  obtain ⟨l, rfl, x⟩ := x
  obtain ⟨s, _, rfl, h1, x⟩ := tys_cons x
  obtain ⟨t, _, rfl, h2, x⟩ := tys_cons x
  obtain rfl := tys_nil x
  obtain ⟨L, hL, _⟩ := ty_flts h1
  obtain ⟨M, hM, _⟩ := ty_flts h2
  exact ⟨s, t, L, M, rfl, hL, hM⟩
end Go.Abs
