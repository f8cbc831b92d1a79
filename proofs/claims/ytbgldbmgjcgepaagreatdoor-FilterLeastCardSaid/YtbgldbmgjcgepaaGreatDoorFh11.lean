/- Contracts: taps undone by the program. No condition. · Contracts: taps undone by the program, with the checks. No condition. · Contracts: pairs of integers as complex numbers. No condition. · Contracts: the powers of the imaginary unit, by the program and by the reference. No condition. · Contracts: a pair turned by the program's table of powers. No condition. · Contracts: a response at one frequency, by the reference. No condition. · Contracts: inner products by the program and by the reference. No condition. · Contracts: fitting lists checked; their sums by the reference. No condition. · Contracts: the sums of a fitting list by the program. No condition. · Contracts: predictions by the program. No condition. · Contracts: predictions checked, and the least error, by the program. No condition. · Contracts: predictions by the reference. No condition. · Taps undone, and applied again; ghosts taken off, and put on again: plain. No condition. · Contracts: quiet lists, a number in a list; what is heard when all fits. No condition. · Contracts: quotients compared; numbers as samples. Plain: the prediction with the least error is accepted. No condition. · Contracts: the responses by the program. No condition. · Contracts: lists visited, gathered and sorted. No condition. · Contracts: pairs of two lists, visited and gathered, and mapped. No condition. · Contracts: a list less a multiple, and the share removed, by the program. No condition. · The law of the least error, and of what is left. No condition. -/
import Derived.Test.YtbgldbmgjcgepaaGreatDoorFh10
import Derived.Test.YtbgldbmgjcgepaaGreatDoorFh3
set_option linter.all false
namespace Go.Abs

set_option maxRecDepth 10000
attribute [local irreducible] WP WC WE WB WR WF WL WG WRg WQ
section
variable {P : Program} (T : Tbl P) {h : AHeap}
include T
end
end Go.Abs
namespace Go.Abs

set_option maxRecDepth 10000
attribute [local irreducible] WP WC WE WB WR WF WL WG WRg WQ
section
variable {P : Program} (T : Tbl P) {h : AHeap}
include T
end
end Go.Abs
namespace Go.Abs

theorem mul_bd {x y X Y : Int} (h1 : -X ≤ x ∧ x ≤ X) (h2 : -Y ≤ y ∧ y ≤ Y) : -(X * Y) ≤ x * y ∧ x * y ≤ X * Y := by
  have e : (x * y).natAbs ≤ (X * Y).natAbs := by
    rw [Int.natAbs_mul, Int.natAbs_mul]
    exact Nat.mul_le_mul (by omega) (by omega)
  have p := Int.mul_nonneg (show 0 ≤ X by omega) (show 0 ≤ Y by omega)
  omega
set_option maxRecDepth 10000
attribute [local irreducible] WP WC WE WB WR WF WL WG WRg WQ
section
variable {P : Program} (T : Tbl P) {h : AHeap}
include T
end
end Go.Abs
namespace Go.Abs

theorem ext_setG {h K : AHeap} {b : Nat} {X : ABlk} (e : Ext h K) (hb : h.length ≤ b) : Ext h (K.set b X) := by
  obtain ⟨z, rfl⟩ := e
  rw [List.set_append_right _ _ hb]; exact ⟨_, rfl⟩
set_option maxRecDepth 10000
attribute [local irreducible] WP WC WE WB WR WF WL WG WRg WQ
section
variable {P : Program} (T : Tbl P) {h : AHeap}
include T
end
end Go.Abs
namespace Go.Abs

set_option maxRecDepth 10000
attribute [local irreducible] WP WC WE WB WR WF WL WG WRg WQ
section
variable {P : Program} (T : Tbl P) {h : AHeap}
include T
end
end Go.Abs
namespace Go.Abs

set_option maxRecDepth 10000
attribute [local irreducible] WP WC WE WB WR WF WL WG WRg WQ
section
variable {P : Program} (T : Tbl P) {h : AHeap}
include T
end
end Go.Abs
namespace Go.Abs

theorem atZ_bd' {l : List Int} {M : Int} (hM : 0 ≤ M) (hb : ∀ x ∈ l, -M ≤ x ∧ x ≤ M) (j : Int) : -M ≤ atZ l j ∧ atZ l j ≤ M := by
  unfold atZ
  by_cases h : 0 ≤ j
  · rw [if_pos h, List.getD_eq_getElem?_getD]
    cases hx : l[j.toNat]? with
    | none => simp; omega
    | some y => exact hb y (List.mem_of_getElem? hx)
  · rw [if_neg h]; omega
theorem prod_bd' {x y : Int} (hx : -32768 ≤ x ∧ x ≤ 32768) (hy : -32768 ≤ y ∧ y ≤ 32768) : -1073741824 ≤ x * y ∧ x * y ≤ 1073741824 := by
  have e : (x * y).natAbs ≤ 32768 * 32768 := by
    rw [Int.natAbs_mul]
    exact Nat.mul_le_mul (by omega) (by omega)
  omega
theorem dotS_bd {A B : List Int} (hA : ∀ x ∈ A, -32768 ≤ x ∧ x ≤ 32768) (hB : ∀ x ∈ B, -32768 ≤ x ∧ x ≤ 32768) : ∀ j : Nat, -(j * 1073741824 : Int) ≤ dotS A B j ∧ dotS A B j ≤ j * 1073741824
  | 0 => by simp [dotS]
  | j + 1 => by
    have h1 := dotS_bd hA hB j
    have h2 := prod_bd' (atZ_bd' (by omega) hA j) (atZ_bd' (by omega) hB j)
    rw [dotS]
    have e : ((j + 1 : Nat) : Int) * 1073741824 = j * 1073741824 + 1073741824 := by rw [Int.natCast_add, Int.add_mul]; rfl
    omega
noncomputable def chkP (l m : List Nat) : Int := firstS [chkL l, chkL m, whenS (decide ((l.length : Int) ≠ (m.length : Int))) 2]
theorem first3 {a b c : Int} (h : firstS [a, b, c] = 0) : a = 0 ∧ b = 0 ∧ c = 0 := by
  by_cases ha : a = 0
  · subst ha
    rw [firstS, if_pos rfl] at h
    obtain ⟨h1, h2⟩ := first2 h
    exact ⟨rfl, h1, h2⟩
  · rw [firstS, if_neg ha] at h; exact absurd h ha
theorem chkP_z {l m : List Nat} (h : chkP l m = 0) : (l.length ≤ 1024 ∧ ∀ b ∈ l, gridE b = 0) ∧ (∀ b ∈ m, gridE b = 0) ∧ l.length = m.length := by
  obtain ⟨h1, h2, h3⟩ := first3 h
  refine ⟨chkL_z h1, (chkL_z h2).2, ?_⟩
  by_cases he : l.length = m.length
  · exact he
  · rw [decide_eq_true (by omega)] at h3; cases h3
theorem wide {l : List Int} (h : ∀ x ∈ l, -16384 ≤ x ∧ x ≤ 16384) : ∀ x ∈ l, -32768 ≤ x ∧ x ≤ 32768 := fun x hx => by have := h x hx; omega
set_option maxRecDepth 10000
attribute [local irreducible] WP WC WE WB WR WF WL WG WRg WQ
section
variable {P : Program} (T : Tbl P) {h : AHeap}
include T
set_option maxHeartbeats 2000000 in
theorem r122 {s t : AV} {A B : List Int} (hs : IsSl h s 1 (A.map intRow)) (ht : IsSl h t 1 (B.map intRow)) (he : A.length = B.length) (hl : A.length ≤ 1024) (hA : ∀ x ∈ A, -32768 ≤ x ∧ x ≤ 32768) (hB : ∀ x ∈ B, -32768 ≤ x ∧ x ≤ 32768) : RCall P 122 [s, t] h (fun v _ => v = .int .i64 (dotI A B)) := by
  refine .st2 25 T.mix T.c122 ?_;intro ts hlen t0 t1;unfold fn122
  refine Rs (A3 @t0 @t1 hs.lenm) ?_
  refine WL.inv T.mix (fun n ts K => ∃ k : Nat, k ≤ A.length ∧ n = A.length - k ∧ K = h ∧ ts.length = 25 ∧ slot ts 1 = t ∧ slot ts 5 = .int .i64 (dotS A B k) ∧ slot ts 8 = s ∧ slot ts 9 = .int .i64 A.length ∧ slot ts 10 = .int .i64 k) A.length
    ⟨0, by omega, rfl, rfl, Sn, (Sq @t1), Swr, Sw, Sw, Swr⟩ ?_
  clear hlen t0 t1
  rintro _ ts K ⟨k, hk, rfl, rfl, hlen, t1, t5, t8, t9, t10⟩
  by_cases hlt : k < A.length
  case neg =>
    have e3 := dltF hlt
    have e4 : k = A.length := by omega
    rw [e4] at t5
    refine Rs (A6 @t1 @t5 @t8 @t9 @t10 @e3) ?_
    rfl
  have e3 := dltT hlt
  have e5 := wrapN (n := k) (by omega)
  have hlb : k < B.length := by omega
  have ix := hs.ixm (kk := .i64) hlt
  have iy := ht.ixm (kk := .i64) hlb
  have ax := atZ_at hlt
  have ay := atZ_at hlb
  have bx := hA A[k] (List.getElem_mem _)
  have by' := hB B[k] (List.getElem_mem _)
  have db := dotS_bd hA hB k
  obtain ⟨x, hx⟩ : ∃ x, x = A[k] := ⟨_, rfl⟩
  obtain ⟨y, hy⟩ : ∃ y, y = B[k] := ⟨_, rfl⟩
  have ld : ∀ {kk : AHeap}, Ext K kk → loadF none (elp s 1 k) (fun b => kk[b]?) = some (.int .i64 x, .keep) := fun {kk} e => by rw [hx]; exact hs.l1m hlt rfl e
  have le : ∀ {kk : AHeap}, Ext K kk → loadF none (elp t 1 k) (fun b => kk[b]?) = some (.int .i64 y, .keep) := fun {kk} e => by rw [hy]; exact ht.l1m hlb rfl e
  rw [← hx] at ax bx
  rw [← hy] at ay by'
  have pb := prod_bd' bx by'
  have w3 : IntKind.i64.wrap (x * y) = x * y := wrap_in (by omega) (by omega)
  have w4 : IntKind.i64.wrap (dotS A B k + x * y) = dotS A B (k + 1) := by rw [dotS, ax, ay, wrap_in (by omega) (by omega)]
  refine Rs (A13 @t1 @t5 @t8 @t9 @t10 @e3 @ix @ld @iy @le @w3 @w4 @e5) ?_
  exact ⟨A.length - (k + 1), by omega, k + 1, by omega, rfl, rfl, rfl⟩
set_option maxHeartbeats 1000000 in
theorem r123 {s : AV} {A : List Int} (hs : IsSl h s 1 (A.map intRow)) (hl : A.length ≤ 1024) (hA : ∀ x ∈ A, -32768 ≤ x ∧ x ≤ 32768) : RCall P 123 [s] h (fun v _ => v = .int .i64 (dotI A A)) := by
  refine .st1 6 T.mix T.c123 ?_;intro ts hlen t0;unfold fn123
  refine Rs @t0 ?_
  refine WF.ce T.c122 (r122 T hs hs rfl hl hA hA) fun g1 => ?_
  exact Rs @t0 trivial
set_option maxHeartbeats 1000000 in
theorem r121 {s t : AV} {l m : List Nat} (hs : IsSl h s 1 (l.map fltR)) (ht : IsSl h t 1 (m.map fltR)) (hl : l.length < 2 ^ 40) (hm : m.length < 2 ^ 40) : RCall P 121 [s, t] h (fun v _ => v = .int .i64 (chkP l m)) := by
  refine .st2 17 T.mix T.c121 ?_;intro ts hlen t0 t1;unfold fn121
  refine Rs (A2 @t0 @t1) ?_
  refine WF.ce T.c134 (r134 T hs hl) fun g1 => ?_
  refine Rs (A2 @t0 @t1) ?_
  refine WF.ce T.c134 (r134 T (ht.ext Xx) hm) fun g2 => ?_
  refine Rs (A4 @t0 @t1 hs.lenm ht.lenm) ?_
  refine WF.ce T.c117 (r117 T _ _) fun g3 => ?_
  refine Rs (A2 @t0 @t1) ?_
  refine WF.ce T.c116 (r116 T (isSl_ints [_, _, _]) (by simp)) fun g4 => ?_
  refine Rs (A2 @t0 @t1) ?_
  rfl
end
end Go.Abs
namespace Go.Abs

noncomputable def rng7 (b : Nat) : Int := rangeS (gridN b) (-127) 127
noncomputable def fitE (l : List Nat) : Int := firstS [firstS [chkL l, whenS (decide ((l.length : Int) < 3)) 16, whenS (decide ((32 : Int) < (l.length : Int))) 4], firstS (l.map rng7)]
structure FitOk (l : List Nat) : Prop where
  l1 : 3 ≤ l.length
  l2 : l.length ≤ 32
  g : ∀ b ∈ l, gridE b = 0
  r : ∀ x ∈ l.map gridN, -127 ≤ x ∧ x ≤ 127
theorem whenS_z {c : Bool} {e : Int} (he : e ≠ 0) (h : whenS c e = 0) : c = false := by
  cases c with
  | false => rfl
  | true => exact absurd h he
theorem fitE_z {l : List Nat} (h : fitE l = 0) : FitOk l := by
  obtain ⟨h1, h2⟩ := first2 h
  obtain ⟨a, b, c⟩ := first3 h1
  have b := whenS_z (by decide) b
  have c := whenS_z (by decide) c
  simp only [decide_eq_false_iff_not] at b c
  refine ⟨by omega, by omega, (chkL_z a).2, fun x hx => ?_⟩
  obtain ⟨y, hy, rfl⟩ := List.mem_map.1 hx
  exact rangeS_z.1 (firstS_z h2 _ (List.mem_map_of_mem hy))
theorem first_cons0 {a : Int} {l : List Int} (h : a = 0) : firstS (a :: l) = firstS l := by rw [firstS, if_pos h]
theorem first_consN {a : Int} {l : List Int} (h : a ≠ 0) : firstS (a :: l) = a := by rw [firstS, if_neg h]
theorem fitE_first {l : List Nat} (h : firstS [chkL l, whenS (decide ((l.length : Int) < 3)) 16, whenS (decide ((32 : Int) < (l.length : Int))) 4] ≠ 0) : fitE l = firstS [chkL l, whenS (decide ((l.length : Int) < 3)) 16, whenS (decide ((32 : Int) < (l.length : Int))) 4] := first_consN h
theorem first_one (a : Int) : firstS [a] = a := by
  by_cases h : a = 0
  · rw [first_cons0 h, h]; rfl
  · exact first_consN h
theorem fitE_all {l : List Nat} (h : firstS [chkL l, whenS (decide ((l.length : Int) < 3)) 16, whenS (decide ((32 : Int) < (l.length : Int))) 4] = 0) : fitE l = firstS (l.map rng7) := by
  rw [fitE, first_cons0 h, first_one]
/-- How great the sums are. -/
theorem atZ_bd7 {A : List Int} (h : ∀ x ∈ A, -127 ≤ x ∧ x ≤ 127) (j : Int) : -127 ≤ atZ A j ∧ atZ A j ≤ 127 := atZ_bd' (by decide) h j
theorem sm_prod {x y : Int} (hx : -127 ≤ x ∧ x ≤ 127) (hy : -127 ≤ y ∧ y ≤ 127) : -16129 ≤ x * y ∧ x * y ≤ 16129 := by
  have e : (x * y).natAbs ≤ 127 * 127 := by
    rw [Int.natAbs_mul]
    exact Nat.mul_le_mul (by omega) (by omega)
  omega
theorem smN_bd {A : List Int} (h : ∀ x ∈ A, -127 ≤ x ∧ x ≤ 127) (j k n : Nat) : -(n * 16129 : Int) ≤ sumN (smF A j k) n ∧ sumN (smF A j k) n ≤ n * 16129 := sumN_bd (fun i => sm_prod (atZ_bd7 h _) (atZ_bd7 h _)) n
theorem smI_bd {A : List Int} (h : ∀ x ∈ A, -127 ≤ x ∧ x ≤ 127) (hl : A.length ≤ 32) (j k : Nat) : -524288 ≤ smI A j k ∧ smI A j k ≤ 524288 := by
  have := smN_bd h j k (A.length - 2)
  unfold smI
  omega
set_option maxRecDepth 10000
attribute [local irreducible] WP WC WE WB WR WF WL WG WRg WQ
section
variable {P : Program} (T : Tbl P) {h : AHeap}
include T
set_option maxHeartbeats 1000000 in
theorem r199 {b : Nat} (hb : gridE b = 0) : RCall P 199 [.flt .f32 b] h (fun v _ => v = .int .i64 (rng7 b)) := by
  refine .st1 6 T.mix T.c199 ?_;intro ts hlen t0;unfold fn199
  refine Rs @t0 ?_
  refine WF.ce T.c108 (r108 T hb) fun g1 => ?_
  refine Rs @t0 ?_
  refine WF.ce T.c120 (r120 T _ _ _) fun g2 => ?_
  refine Rs @t0 ?_
  rfl
set_option maxHeartbeats 1000000 in
theorem r148 {s : AV} {l : List Nat} (hs : IsSl h s 1 (l.map fltR)) (hl : l.length < 2 ^ 40) : RCall P 148 [s] h (fun v _ => v = .int .i64 (fitE l)) := by
  refine .st1 22 T.mix T.c148 ?_;intro ts hlen t0;unfold fn148
  refine Rs @t0 ?_
  refine WF.ce T.c134 (r134 T hs hl) fun g1 => ?_
  refine Rs (A2 @t0 hs.lenm) ?_
  refine WF.ce T.c117 (r117 T _ _) fun g2 => ?_
  refine Rs (A2 @t0 hs.lenm) ?_
  refine WF.ce T.c117 (r117 T _ _) fun g3 => ?_
  refine Rs @t0 ?_
  refine WF.ce T.c116 (r116 T (isSl_ints [_, _, _]) (by simp)) fun g4 => ?_
  obtain ⟨q, hq⟩ : ∃ q, q = firstS [chkL l, whenS (decide ((l.length : Int) < 3)) 16, whenS (decide ((32 : Int) < (l.length : Int))) 4] := ⟨_, rfl⟩
  rw [← hq]
  by_cases hz : q = 0
  case neg =>
    have d1 : decide (q ≠ 0) = true := decide_eq_true hz
    have e : fitE l = q := by rw [hq]; exact fitE_first (by rw [← hq]; exact hz)
    rw [e]
    exact Rs (A2 @t0 @d1) trivial
  have d1 : decide (q ≠ 0) = false := decide_eq_false fun z => z hz
  have e : fitE l = firstS (l.map rng7) := fitE_all (by rw [← hq]; exact hz)
  rw [e]
  have hg : ∀ b ∈ l, gridE b = 0 := by
    rw [hq] at hz
    exact (chkL_z (first3 hz).1).2
  refine Rs (A2 @t0 @d1) ?_
  refine WF.res T.c141 (r141 T (hs.ext Xx) hl T.c199 (g := rng7) (fun x hx k => r199 T (hg x hx))) ?_
  intro s2 g5 is2
  refine Rs @t0 ?_
  refine WF.ce T.c116 (r116 T is2 (by rw [List.length_map]; omega)) fun g6 => ?_
  exact Rs @t0 trivial
end
end Go.Abs
namespace Go.Abs

theorem ldN {K : AHeap} {b n : Nat} {L : List AV} (m : K[b]? = some (.cells L true false)) (hl : L.length = n) {k : AHeap} (e : Ext K k) : loadF (some n) (.ptr b 0) (fun z => k[z]?) = some (.agg L, .keep) := by
  rw [loadF_at (e.some m)]
  show (if 0 + n ≤ L.length then some (AV.agg ((L.drop 0).take n), Eff.keep) else none) = _
  rw [if_pos (by omega), List.drop_zero, List.take_of_length_le (by omega)]
theorem setL_0 {c L : List AV} (h : c.length = L.length) : setL c 0 L = L := by
  have := setL_all L c [] h
  simpa using this
theorem stN {K : AHeap} {b n : Nat} {c L : List AV} (m : K[b]? = some (.cells c true false)) (hc : c.length = n) (hl : L.length = n) (ho : L.all AV.one = true) : storeF n (.ptr b 0) (.agg L) (fun z => K[z]?) = some (undefA, .set b (.cells L true false)) := by
  rw [storeF_at m, stB_agg hl ho (by omega), setL_0 (by omega)]
theorem ldNs {K : AHeap} {b n : Nat} {k0 : ABlk} {L : List AV} (m : K[b]? = some k0) (hl : L.length = n) : loadF (some n) (.ptr b 0) (fun z => (K.set b (.cells L true false))[z]?) = some (.agg L, .keep) := ldN (set_eq' m) hl (Ext.refl _)
def subJ (A : List Int) (j : Nat) : List Int := (A.drop (2 - j)).take (A.length - 2)
theorem subJ_len {A : List Int} {j : Nat} (hj : j ≤ 2) : (subJ A j).length = A.length - 2 := by simp [subJ]; omega
theorem subJ_at {A : List Int} {j i : Nat} (hj : j ≤ 2) (hi : i < A.length - 2) : atZ (subJ A j) i = atZ A ((i : Int) + 2 - j) := by
  rw [atZ_at (by rw [subJ_len hj]; exact hi), show (i : Int) + 2 - j = ((2 - j + i : Nat) : Int) by omega, atZ_at (by omega)]
  simp [subJ]
theorem dot_sub {A : List Int} {j k : Nat} (hj : j ≤ 2) (hk : k ≤ 2) : dotI (subJ A j) (subJ A k) = smI A j k := by
  rw [dotI, dotS_sum, subJ_len hj, smI]
  exact sumN_congr fun i hi => by rw [subJ_at hj hi, subJ_at hk hi]; rfl
theorem subJ_bd {A : List Int} (h : ∀ x ∈ A, -127 ≤ x ∧ x ≤ 127) (j : Nat) : ∀ x ∈ subJ A j, -32768 ≤ x ∧ x ≤ 32768 := fun x hx => by
  have := h x (List.mem_of_mem_drop (List.mem_of_mem_take hx))
  omega
def smV (A : List Int) (m : Nat) : AV := .int .i64 (smI A (m / 3) (m % 3))
def smK (A : List Int) (m : Nat) : List AV := (List.range m).map (smV A) ++ List.replicate (9 - m) (.int .i64 0)
theorem smK_len (A : List Int) {m : Nat} (h : m ≤ 9) : (smK A m).length = 9 := by simp [smK]; omega
theorem smK_set (A : List Int) {m : Nat} (hm : m < 9) : (smK A m).set m (smV A m) = smK A (m + 1) := by
  unfold smK
  rw [set_zs (by simp) hm, List.range_succ, List.map_append]; rfl
def sm9 (A : List Int) : List AV := [.int .i64 (smI A 0 0), .int .i64 (smI A 0 1), .int .i64 (smI A 0 2), .int .i64 (smI A 1 0), .int .i64 (smI A 1 1), .int .i64 (smI A 1 2), .int .i64 (smI A 2 0), .int .i64 (smI A 2 1), .int .i64 (smI A 2 2)]
theorem three {j : Nat} (h : j < 3) : j = 0 ∨ j = 1 ∨ j = 2 := by omega
set_option maxRecDepth 10000
attribute [local irreducible] WP WC WE WB WR WF WL WG WRg WQ
section
variable {P : Program} (T : Tbl P) {h : AHeap}
include T
set_option maxHeartbeats 6000000 in
theorem r149 {s : AV} {l : List Nat} (hs : IsSl h s 1 (l.map fltR)) (ok : FitOk l) : RCall P 149 [s] h (fun v _ => v = .agg (sm9 (l.map gridN))) := by
  refine .st1 46 T.mix T.c149 ?_;intro ts hlen t0;unfold fn149
  have hl1 := ok.l1
  have hl2 := ok.l2
  have bz : ∀ {N : Nat}, boxF (.agg [.int .i64 0, .int .i64 0, .int .i64 0, .int .i64 0, .int .i64 0, .int .i64 0, .int .i64 0, .int .i64 0, .int .i64 0]) N = some (.ptr N 0, .push (.cells [AV.int IntKind.i64 0, AV.int IntKind.i64 0, AV.int IntKind.i64 0, AV.int IntKind.i64 0, AV.int IntKind.i64 0, AV.int IntKind.i64 0, AV.int IntKind.i64 0, AV.int IntKind.i64 0, AV.int IntKind.i64 0] true false)) := fun {N} => rfl
  have b3 : ∀ {N : Nat}, boxF (.agg [.nilSlice, .nilSlice, .nilSlice]) N = some (.ptr N 0, .push (.cells [.nilSlice, .nilSlice, .nilSlice] true false)) := fun {N} => rfl
  refine Rs (A2 @t0 @bz) ?_
  refine WF.res T.c107 (r107 T (hs.ext Xx) (by omega) T.c108 (g := gridN) (fun x hx k => r108 T (ok.g x hx))) ?_
  intro s3 g1 is3
  obtain ⟨A, hA⟩ : ∃ A, A = l.map gridN := ⟨_, rfl⟩
  have hAl : A.length = l.length := by rw [hA]; simp
  have hb := ok.r
  rw [← hA] at is3 hb ⊢
  rw [← hAl] at hl1 hl2
  obtain ⟨B, hB⟩ : ∃ B, B = h ++ [ABlk.cells [AV.int IntKind.i64 0, AV.int IntKind.i64 0, AV.int IntKind.i64 0, AV.int IntKind.i64 0, AV.int IntKind.i64 0, AV.int IntKind.i64 0, AV.int IntKind.i64 0, AV.int IntKind.i64 0, AV.int IntKind.i64 0] true false] ++ g1 := ⟨_, rfl⟩
  have eB : Ext (h ++ [ABlk.cells [AV.int IntKind.i64 0, AV.int IntKind.i64 0, AV.int IntKind.i64 0, AV.int IntKind.i64 0, AV.int IntKind.i64 0, AV.int IntKind.i64 0, AV.int IntKind.i64 0, AV.int IntKind.i64 0, AV.int IntKind.i64 0] true false]) B := by rw [hB]; exact ⟨_, rfl⟩
  have lB : h.length < B.length := by rw [hB]; simp only [List.length_append, List.length_cons, List.length_nil]; omega
  rw [← hB] at is3 ⊢
  clear hB
  have m2 := eB.some at_new
  have w1 : IntKind.i64.wrap ((A.length : Int) - 1) = ((A.length - 1 : Nat) : Int) := by rw [wrap_in (by omega) (by omega)]; omega
  have w2 : IntKind.i64.wrap ((A.length : Int) - 2) = ((A.length - 2 : Nat) : Int) := by rw [wrap_in (by omega) (by omega)]; omega
  have n0 : bnds (some (.int .i64 2)) none A.length = some (2, A.length) := by
    simp only [bnds, loN, hiN]; rw [if_pos (by omega)]; simp
  have n1 : bnds (some (.int .i64 1)) (some (.int .i64 ((A.length - 1 : Nat) : Int))) A.length = some (1, A.length - 1) := by
    simp only [bnds, loN, hiN]; rw [if_pos (by omega), Int.toNat_natCast]; rfl
  have n2 : bnds none (some (.int .i64 ((A.length - 2 : Nat) : Int))) A.length = some (0, A.length - 2) := by
    simp only [bnds, loN, hiN]; rw [if_pos (by omega), Int.toNat_natCast]; rfl
  obtain ⟨x0, q0, y0⟩ := is3.slm n0
  obtain ⟨x1, q1, y1⟩ := is3.slm n1
  obtain ⟨x2, q2, y2⟩ := is3.slm n2
  have y0 : IsSl B x0 1 ((subJ A 0).map intRow) := y0
  have y1 : IsSl B x1 1 ((subJ A 1).map intRow) := by rw [subJ, show A.length - 2 = A.length - 1 - 1 by omega]; exact y1
  have y2 : IsSl B x2 1 ((subJ A 2).map intRow) := by rw [subJ, show A.length - 2 = A.length - 2 - 0 by omega]; exact y2
  have bd : buildF (fillA [.nilSlice, .nilSlice, .nilSlice] [(0, 1, x0), (1, 1, x1), (2, 1, x2)]) = some (.agg [x0, x1, x2]) := by
    simp only [fillA, AV.cells_one y0.one, AV.cells_one y1.one, AV.cells_one y2.one]; rfl
  have hone : [x0, x1, x2].all AV.one = true := by simp [y0.one, y1.one, y2.one]
  have s5 : ∀ {b : Nat}, stB 3 0 (.agg [x0, x1, x2]) b (.cells [.nilSlice, .nilSlice, .nilSlice] true false) = some (undefA, .set b (.cells [x0, x1, x2] true false)) := fun {b} => (stB_agg rfl hone (by show 0 + 3 ≤ 3; omega)).trans rfl
  have o3 := is3.one
  refine Rs (A11 @o3 is3.lenm @q0 @w1 @q1 @w2 @q2 @bd @b3 @s5 @bz) ?_
  have l5 : loadF (some 3) (.ptr B.length 0) (fun z => (B ++ [ABlk.cells [x0, x1, x2] true false] ++ [ABlk.cells [AV.int IntKind.i64 0, AV.int IntKind.i64 0, AV.int IntKind.i64 0, AV.int IntKind.i64 0, AV.int IntKind.i64 0, AV.int IntKind.i64 0, AV.int IntKind.i64 0, AV.int IntKind.i64 0, AV.int IntKind.i64 0] true false])[z]?) = some (.agg [x0, x1, x2], .keep) := ldN (K := B ++ [ABlk.cells [x0, x1, x2] true false]) at_new rfl ⟨_, rfl⟩
  obtain ⟨C, hC⟩ : ∃ C, C = B ++ [ABlk.cells [x0, x1, x2] true false] := ⟨_, rfl⟩
  have eC : Ext B C := by rw [hC]; exact ⟨_, rfl⟩
  have m5 : C[B.length]? = some (.cells [x0, x1, x2] true false) := by rw [hC]; exact at_new
  obtain ⟨V, hV⟩ : ∃ V, V = AV.agg [x0, x1, x2] := ⟨_, rfl⟩
  obtain ⟨X, hX⟩ : ∃ X : Nat → AV, X = fun j => [x0, x1, x2].getD j .nilSlice := ⟨_, rfl⟩
  have ixX : ∀ {j : Nat}, j < 3 → ixaF 3 1 none V (.int .i64 (j : Int)) = some (X j) := fun {j} hj => by
    rw [hV, hX]; rcases three hj with rfl | rfl | rfl <;> rfl
  have isX : ∀ {j : Nat}, j < 3 → IsSl C (X j) 1 ((subJ A j).map intRow) := fun {j} hj => by
    rw [hX]; rcases three hj with rfl | rfl | rfl
    · exact y0.ext eC
    · exact y1.ext eC
    · exact y2.ext eC
  have ld5 : ∀ {k : AHeap}, Ext C k → loadF (some 3) (.ptr B.length 0) (fun z => k[z]?) = some (V, .keep) := fun {k} e => by rw [hV]; exact ldN m5 rfl e
  have z9 : [AV.int IntKind.i64 0, AV.int IntKind.i64 0, AV.int IntKind.i64 0, AV.int IntKind.i64 0, AV.int IntKind.i64 0, AV.int IntKind.i64 0, AV.int IntKind.i64 0, AV.int IntKind.i64 0, AV.int IntKind.i64 0] = smK A 0 := rfl
  obtain ⟨b5, hb5⟩ : ∃ b5, b5 = B.length := ⟨_, rfl⟩
  obtain ⟨b6, hb6⟩ : ∃ b6, b6 = C.length := ⟨_, rfl⟩
  have lBC : B.length < b6 := by rw [hb6, hC]; simp
  have m2C := eC.some m2
  rw [← hC, ← hV, ← hb5, ← hb6, z9]
  rw [← hb5] at ld5
  have m6 : (C ++ [ABlk.cells (smK A 0) true false])[b6]? = some (.cells (smK A 0) true false) := by rw [hb6]; exact at_new
  clear l5 bd s5 y0 y1 y2 q0 q1 q2 hX hC hV m5
  refine WL.inv T.mix (fun n ts K => ∃ j : Nat, j ≤ 3 ∧ n = 3 - j ∧ Ext C K ∧ K[b6]? = some (.cells (smK A (3 * j)) true false) ∧ ts.length = 46 ∧ slot ts 2 = .ptr h.length 0 ∧ slot ts 5 = .ptr b5 0 ∧ slot ts 6 = .ptr b6 0 ∧ slot ts 26 = V ∧ slot ts 27 = .int .i64 j) 3
    ⟨0, by omega, rfl, ⟨_, rfl⟩, m6, Sn, Sw, Sw, Sw, Sw, Swr⟩ ?_
  clear hlen t0 m6
  rintro _ ts K ⟨j, hj, rfl, eK, m6, hlen, t2, t5, t6, t26, t27⟩
  by_cases hjt : j < 3
  case neg =>
    have e3 : decide ((j : Int) < 3) = false := decide_eq_false (by omega)
    have e4 : j = 3 := by omega
    rw [e4] at m6
    have m6 : K[b6]? = some (.cells (sm9 A) true false) := m6
    have l6 := ldN (n := 9) m6 rfl (Ext.refl K)
    have s2 := stN (n := 9) (L := sm9 A) (eK.some m2C) rfl rfl rfl
    have l2 := ldNs (n := 9) (L := sm9 A) (eK.some m2C) rfl
    refine Rs (A9 @t2 @t5 @t6 @t26 @t27 @e3 @l6 @s2 @l2) ?_
    exact ⟨ext_set ((eB.trans eC).trans eK), trivial⟩
  have e3 : decide ((j : Int) < 3) = true := decide_eq_true (by omega)
  have e5 := wrapN (n := j) (by omega)
  have ij := ixX hjt
  have l5 := ld5 eK
  refine Rs (A8 @t2 @t5 @t6 @t26 @t27 @e3 @ij @l5) ?_
  refine WL.inv T.mix (fun n ts' K' => ∃ k : Nat, k ≤ 3 ∧ n = 3 - k ∧ Ext C K' ∧ K'[b6]? = some (.cells (smK A (3 * j + k)) true false) ∧ ts'.length = 46 ∧ slot ts' 2 = .ptr h.length 0 ∧ slot ts' 5 = .ptr b5 0 ∧ slot ts' 6 = .ptr b6 0 ∧ slot ts' 7 = .int .i64 j ∧ slot ts' 8 = X j ∧ slot ts' 26 = V ∧ slot ts' 27 = .int .i64 j ∧ slot ts' 31 = V ∧ slot ts' 32 = .int .i64 k) 3
    ⟨0, by omega, rfl, eK, m6, Sn, (Sq @t2), (Sq @t5), (Sq @t6), Sw, Sw, (Sq @t26), (Sq @t27), Sw, Swr⟩ ?_
  clear hlen t2 t5 t6 t26 t27 m6 l5 eK
  rintro _ ts' K' ⟨k, hk, rfl, eK, m6, hlen, t2, t5, t6, t7, t8, t26, t27, t31, t32⟩
  by_cases hkt : k < 3
  case neg =>
    have e6 : decide ((k : Int) < 3) = false := decide_eq_false (by omega)
    have e4 : k = 3 := by omega
    rw [e4] at m6
    refine Rs (A11 @t2 @t5 @t6 @t7 @t8 @t26 @t27 @t31 @t32 @e6 @e5) ?_
    exact ⟨3 - (j + 1), by omega, j + 1, by omega, rfl, eK, m6, rfl⟩
  have e6 : decide ((k : Int) < 3) = true := decide_eq_true (by omega)
  have e7 := wrapN (n := k) (by omega)
  have ik := ixX hkt
  refine Rs (A11 @t2 @t5 @t6 @t7 @t8 @t26 @t27 @t31 @t32 @e6 @ik) ?_
  refine WF.ce T.c122 (r122 T ((isX hjt).ext eK) ((isX hkt).ext eK) (by rw [subJ_len (by omega), subJ_len (by omega)]) (by rw [subJ_len (by omega)]; omega) (subJ_bd hb j) (subJ_bd hb k)) fun g2 => ?_
  rw [dot_sub (by omega) (by omega)]
  have eG : Ext K' (K' ++ g2) := ⟨g2, rfl⟩
  obtain ⟨Y, hY⟩ : ∃ Y, Y = K' ++ g2 := ⟨_, rfl⟩
  rw [← hY] at eG ⊢
  have m6' := eG.some m6
  have i1 : iadaF 3 3 (.ptr b6 0) (.int .i64 (j : Int)) = some (.ptr b6 (3 * j)) := by
    unfold iadaF
    simp
    omega
  have i2 : iadaF 3 1 (.ptr b6 (3 * j)) (.int .i64 (k : Int)) = some (.ptr b6 (3 * j + k)) := by
    unfold iadaF
    simp
    omega
  have hv : AV.int .i64 (smI A j k) = smV A (3 * j + k) := by
    rw [smV, show (3 * j + k) / 3 = j by omega, show (3 * j + k) % 3 = k by omega]
  have s6 : storeF 1 (.ptr b6 (3 * j + k)) (.int .i64 (smI A j k)) (fun z => Y[z]?) = some (undefA, .set b6 (.cells (smK A (3 * j + (k + 1))) true false)) := by
    rw [storeF_at m6', stB_one rfl (by rw [smK_len A (by omega)]; omega), hv, smK_set A (by omega)]; rfl
  refine Rs (A13 @t2 @t5 @t6 @t7 @t8 @t26 @t27 @t31 @t32 @i1 @i2 @s6 @e7) ?_
  exact ⟨3 - (k + 1), by omega, k + 1, by omega, rfl, ext_setG (eK.trans eG) (by omega), set_eq' m6', rfl⟩
end
end Go.Abs
namespace Go.Abs

def tri (p : Int × Int × Int) : List AV := [.int .i64 p.1, .int .i64 p.2.1, .int .i64 p.2.2]
def gcd3 (p : Int × Int × Int) : Nat := Int.gcd ((Int.gcd p.1 p.2.1 : Nat) : Int) p.2.2
def lowI (p : Int × Int × Int) : Int × Int × Int := (p.1.tdiv (gcd3 p), p.2.1.tdiv (gcd3 p), p.2.2.tdiv (gcd3 p))
theorem gcd_lt {a b : Int} {M : Nat} (ha : a.natAbs < M) (hb : b.natAbs < M) : Int.gcd a b < M := by
  show Nat.gcd a.natAbs b.natAbs < M
  by_cases h : a.natAbs = 0
  · rw [h, Nat.gcd_zero_left]; exact hb
  · exact Nat.lt_of_le_of_lt (Nat.gcd_le_left _ (by omega)) ha
theorem gcd3_bd {p : Int × Int × Int} (hd : 0 < p.2.2) : 1 ≤ ((gcd3 p : Nat) : Int) ∧ ((gcd3 p : Nat) : Int) ≤ p.2.2 := gcd_le hd
theorem tri_box {x : Int × Int × Int} {N : Nat} : boxF (.agg (tri x)) N = some (.ptr N 0, .push (.cells (tri x) true false)) := rfl
theorem tri_a {x : Int × Int × Int} : ldB (some 3) 0 (.cells (tri x) true false) = some (.agg (tri x), .keep) := rfl
theorem tri_0 {x : Int × Int × Int} : ldB none 0 (.cells (tri x) true false) = some (.int .i64 x.1, .keep) := rfl
theorem tri_1 {x : Int × Int × Int} : ldB none 1 (.cells (tri x) true false) = some (.int .i64 x.2.1, .keep) := rfl
theorem tri_2 {x : Int × Int × Int} : ldB none 2 (.cells (tri x) true false) = some (.int .i64 x.2.2, .keep) := rfl
theorem tri_st {a b c : Int} {n : Nat} {a0 a1 a2 : AV} : stB 3 0 (.agg [.int .i64 a, .int .i64 b, .int .i64 c]) n (.cells [a0, a1, a2] true false) = some (undefA, .set n (.cells [.int .i64 a, .int .i64 b, .int .i64 c] true false)) := (stB_agg (l := [.int .i64 a, .int .i64 b, .int .i64 c]) rfl rfl (by show 0 + 3 ≤ 3; omega)).trans rfl
theorem tri_sT {p : Int × Int × Int} {n : Nat} {a0 a1 a2 : AV} : stB 3 0 (.agg (tri p)) n (.cells [a0, a1, a2] true false) = some (undefA, .set n (.cells (tri p) true false)) := tri_st
theorem eq_tri {neg : Bool} {p q : Int × Int × Int} : eqvF neg (eqvK (.agg [.i, .i, .i]) (.agg (tri p)) (.agg (tri q))) = some (.bool (neg.xor (decide (p = q)))) := by
  obtain ⟨a, b, c⟩ := p
  obtain ⟨a', b', c'⟩ := q
  rw [eqA rfl rfl]
  unfold tri
  simp only [eqc_i, eqc_n, andO_s, Bool.and_true, Prod.mk.injEq]
  cases neg
  · rw [eqvF_f]
    congr 2
    by_cases h1 : a = a' <;> by_cases h2 : b = b' <;> by_cases h3 : c = c' <;> simp [h1, h2, h3]
  · rw [eqvF_t]
    congr 2
    by_cases h1 : a = a' <;> by_cases h2 : b = b' <;> by_cases h3 : c = c' <;> simp [h1, h2, h3]
theorem sm9_a {A : List Int} : ldB (some 9) 0 (.cells (sm9 A) true false) = some (.agg (sm9 A), .keep) := rfl
theorem sm9_box {A : List Int} {N : Nat} : boxF (.agg (sm9 A)) N = some (.ptr N 0, .push (.cells (sm9 A) true false)) := rfl
theorem sm9_st {A : List Int} {n : Nat} : stB 9 0 (.agg (sm9 A)) n (.cells (smK A 0) true false) = some (undefA, .set n (.cells (sm9 A) true false)) := (stB_agg rfl rfl (by show 0 + 9 ≤ 9; omega)).trans rfl
def agI (A : List Int) (p : Int × Int × Int) (k : Nat) : Int := p.2.2 * smI A 0 k - p.1 * smI A 1 k - p.2.1 * smI A 2 k
def predR (A : List Int) : (Int × Int × Int) × Int := if detI A = 0 then ((0, 0, 0), 17) else (lowI (nuA A, nuB A, detI A), 0)
theorem sm_sq {x y : Int} (hx : -524288 ≤ x ∧ x ≤ 524288) (hy : -524288 ≤ y ∧ y ≤ 524288) : -2 ^ 38 ≤ x * y ∧ x * y ≤ 2 ^ 38 := by
  have e : (x * y).natAbs ≤ 524288 * 524288 := by
    rw [Int.natAbs_mul]
    exact Nat.mul_le_mul (by omega) (by omega)
  omega
theorem sm_big {x y : Int} (hx : -2 ^ 39 ≤ x ∧ x ≤ 2 ^ 39) (hy : -524288 ≤ y ∧ y ≤ 524288) : -2 ^ 58 ≤ x * y ∧ x * y ≤ 2 ^ 58 := by
  have e : (x * y).natAbs ≤ 2 ^ 39 * 524288 := by
    rw [Int.natAbs_mul]
    exact Nat.mul_le_mul (by omega) (by omega)
  omega
theorem det_bd {A : List Int} (h : ∀ x ∈ A, -127 ≤ x ∧ x ≤ 127) (hl : A.length ≤ 32) : (-2 ^ 39 ≤ detI A ∧ detI A ≤ 2 ^ 39) ∧ (-2 ^ 39 ≤ nuA A ∧ nuA A ≤ 2 ^ 39) ∧ -2 ^ 39 ≤ nuB A ∧ nuB A ≤ 2 ^ 39 := by
  have b := fun j k => smI_bd h hl j k
  have p1 := sm_sq (b 1 1) (b 2 2)
  have p2 := sm_sq (b 1 2) (b 1 2)
  have p3 := sm_sq (b 0 1) (b 2 2)
  have p4 := sm_sq (b 0 2) (b 1 2)
  have p5 := sm_sq (b 0 2) (b 1 1)
  have p6 := sm_sq (b 0 1) (b 1 2)
  unfold detI nuA nuB
  omega
def triB (p : Int × Int × Int) : Prop := (-2 ^ 39 ≤ p.1 ∧ p.1 ≤ 2 ^ 39) ∧ (-2 ^ 39 ≤ p.2.1 ∧ p.2.1 ≤ 2 ^ 39) ∧ 0 < p.2.2 ∧ p.2.2 ≤ 2 ^ 39
theorem lowI_bd {p : Int × Int × Int} (h : triB p) : triB (lowI p) := by
  obtain ⟨h1, h2, h3, h4⟩ := h
  have g := gcd3_bd h3
  have q1 := quo_bd g.1 (n := p.1) (B := 2 ^ 39) (by omega)
  have q2 := quo_bd g.1 (n := p.2.1) (B := 2 ^ 39) (by omega)
  have q3 := quo_bd g.1 (n := p.2.2) (B := 2 ^ 39) (by omega)
  refine ⟨q1, q2, ?_, q3.2⟩
  show 0 < p.2.2.tdiv (gcd3 p)
  rw [Int.tdiv_eq_ediv_of_nonneg (by omega)]
  exact Int.ediv_pos_of_pos_of_dvd h3 (by omega) (Int.gcd_dvd_right ..)
theorem agI_bd {A : List Int} (h : ∀ x ∈ A, -127 ≤ x ∧ x ≤ 127) (hl : A.length ≤ 32) {p : Int × Int × Int} (hp : triB p) (k : Nat) : -2 ^ 60 ≤ agI A p k ∧ agI A p k ≤ 2 ^ 60 := by
  obtain ⟨h1, h2, h3, h4⟩ := hp
  have p1 := sm_big (x := p.2.2) ⟨by omega, h4⟩ (smI_bd h hl 0 k)
  have p2 := sm_big h1 (smI_bd h hl 1 k)
  have p3 := sm_big h2 (smI_bd h hl 2 k)
  unfold agI
  omega
theorem pred_tri {A : List Int} (h : ∀ x ∈ A, -127 ≤ x ∧ x ≤ 127) (hl : A.length ≤ 32) (hd : detI A ≠ 0) : triB (nuA A, nuB A, detI A) := by
  obtain ⟨b1, b2, b3⟩ := det_bd h hl
  have := det_nonneg A
  exact ⟨b2, b3, by show 0 < detI A; omega, b1.2⟩
set_option maxRecDepth 10000
attribute [local irreducible] WP WC WE WB WR WF WL WG WRg WQ
section
variable {P : Program} (T : Tbl P) {h : AHeap}
include T
set_option maxHeartbeats 2000000 in
theorem r150 {p : Int × Int × Int} (hp : triB p) : RCall P 150 [.agg (tri p)] h (fun v _ => v = .agg (tri (lowI p))) := by
  obtain ⟨h1, h2, h3, h4⟩ := hp
  refine .st1 25 T.mix T.c150 ?_;intro ts hlen t0;unfold fn150
  have g := gcd3_bd h3
  have q1 := quo_bd g.1 (n := p.1) (B := 2 ^ 39) (by omega)
  have q2 := quo_bd g.1 (n := p.2.1) (B := 2 ^ 39) (by omega)
  have q3 := quo_bd g.1 (n := p.2.2) (B := 2 ^ 39) (by omega)
  have hlt := gcd_lt (a := p.1) (b := p.2.1) (M := 2 ^ 62) (by omega) (by omega)
  have bz : ∀ {N : Nat}, boxF (.agg [.int .i64 0, .int .i64 0, .int .i64 0]) N = some (.ptr N 0, .push (.cells [.int .i64 0, .int .i64 0, .int .i64 0] true false)) := fun {N} => rfl
  refine Rs (A5 @t0 @tri_box @bz @tri_0 @tri_1) ?_
  refine WF.ce T.c186 (r186 T p.1 p.2.1 (by omega) (by omega)) fun g1 => ?_
  refine Rs (A2 @t0 @tri_2) ?_
  refine WF.ce T.c186 (r186 T _ p.2.2 (by omega) (by omega)) fun g2 => ?_
  obtain ⟨G, hG⟩ : ∃ G : Int, G = ((gcd3 p : Nat) : Int) := ⟨_, rfl⟩
  have hG' : ((Int.gcd ((Int.gcd p.1 p.2.1 : Nat) : Int) p.2.2 : Nat) : Int) = G := hG.symm
  have hlow : lowI p = (p.1.tdiv G, p.2.1.tdiv G, p.2.2.tdiv G) := by rw [hG]; rfl
  rw [← hG] at g q1 q2 q3
  rw [hG', hlow]
  have hz : G ≠ 0 := by omega
  have b1 : binK .quo (.int .i64 p.1) (.int .i64 G) = some (.int .i64 (p.1.tdiv G)) := by rw [bin_quo hz, wrap_in (by omega) (by omega)]
  have b2 : binK .quo (.int .i64 p.2.1) (.int .i64 G) = some (.int .i64 (p.2.1.tdiv G)) := by rw [bin_quo hz, wrap_in (by omega) (by omega)]
  have b3 : binK .quo (.int .i64 p.2.2) (.int .i64 G) = some (.int .i64 (p.2.2.tdiv G)) := by rw [bin_quo hz, wrap_in (by omega) (by omega)]
  have bd : buildF (fillA [.int .i64 0, .int .i64 0, .int .i64 0] [(0, 1, .int .i64 (p.1.tdiv G)), (1, 1, .int .i64 (p.2.1.tdiv G)), (2, 1, .int .i64 (p.2.2.tdiv G))]) = some (.agg (tri (p.1.tdiv G, p.2.1.tdiv G, p.2.2.tdiv G))) := rfl
  have sT := fun {n : Nat} {a0 a1 a2 : AV} => @tri_sT (p.1.tdiv G, p.2.1.tdiv G, p.2.2.tdiv G) n a0 a1 a2
  refine Rs (A10 @t0 @tri_0 @tri_1 @tri_2 @b1 @b2 @b3 @bd @sT @tri_a) ?_
  rfl
set_option maxHeartbeats 2000000 in
theorem r151 {A : List Int} (hA : ∀ x ∈ A, -127 ≤ x ∧ x ≤ 127) (hl : A.length ≤ 32) {p : Int × Int × Int} (hp : triB p) {k : Nat} (hk : k < 3) : RCall P 151 [.agg (tri p), .agg (sm9 A), .int .i64 (k : Int)] h (fun v _ => v = .int .i64 (agI A p k)) := by
  obtain ⟨h1, h2, h3, h4⟩ := id hp
  refine .st3 30 T.mix T.c151 ?_;intro ts hlen t0 t1 t2;unfold fn151
  have p1 := sm_big (x := p.2.2) ⟨by omega, h4⟩ (smI_bd hA hl 0 k)
  have p2 := sm_big h1 (smI_bd hA hl 1 k)
  have p3 := sm_big h2 (smI_bd hA hl 2 k)
  have i0 : ∀ {N : Nat}, iadaF 3 3 (.ptr N 0) (.int .i64 0) = some (.ptr N (3 * 0)) := fun {N} => rfl
  have i1 : ∀ {N : Nat}, iadaF 3 3 (.ptr N 0) (.int .i64 1) = some (.ptr N (3 * 1)) := fun {N} => rfl
  have i2 : ∀ {N : Nat}, iadaF 3 3 (.ptr N 0) (.int .i64 2) = some (.ptr N (3 * 2)) := fun {N} => rfl
  have j0 : ∀ {N : Nat}, iadaF 3 1 (.ptr N 0) (.int .i64 (k : Int)) = some (.ptr N (0 + k)) := fun {N} => by unfold iadaF; simp; omega
  have j1 : ∀ {N : Nat}, iadaF 3 1 (.ptr N 3) (.int .i64 (k : Int)) = some (.ptr N (3 + k)) := fun {N} => by unfold iadaF; simp; omega
  have j2 : ∀ {N : Nat}, iadaF 3 1 (.ptr N 6) (.int .i64 (k : Int)) = some (.ptr N (6 + k)) := fun {N} => by unfold iadaF; simp; omega
  have l0 : ldV (sm9 A)[k]? = some (.int .i64 (smI A 0 k), .keep) := by rcases three hk with rfl | rfl | rfl <;> rfl
  have l1 : ldV (sm9 A)[3 + k]? = some (.int .i64 (smI A 1 k), .keep) := by rcases three hk with rfl | rfl | rfl <;> rfl
  have l2 : ldV (sm9 A)[6 + k]? = some (.int .i64 (smI A 2 k), .keep) := by rcases three hk with rfl | rfl | rfl <;> rfl
  have w1 : IntKind.i64.wrap (p.2.2 * smI A 0 k) = p.2.2 * smI A 0 k := wrap_in (by omega) (by omega)
  have w2 : IntKind.i64.wrap (p.1 * smI A 1 k) = p.1 * smI A 1 k := wrap_in (by omega) (by omega)
  have w3 : IntKind.i64.wrap (p.2.1 * smI A 2 k) = p.2.1 * smI A 2 k := wrap_in (by omega) (by omega)
  have w4 : IntKind.i64.wrap (p.2.2 * smI A 0 k - p.1 * smI A 1 k) = p.2.2 * smI A 0 k - p.1 * smI A 1 k := wrap_in (by omega) (by omega)
  have w5 : IntKind.i64.wrap (p.2.2 * smI A 0 k - p.1 * smI A 1 k - p.2.1 * smI A 2 k) = agI A p k := wrap_in (by omega) (by omega)
  exact Rs (A22 @t0 @t1 @t2 @tri_box @sm9_box @tri_0 @tri_1 @tri_2 @i0 @i1 @i2 @j0 @j1 @j2 @l0 @l1 @l2 @w1 @w2 @w3 @w4 @w5) trivial
set_option maxHeartbeats 4000000 in
theorem r66 {s : AV} {l : List Nat} (hs : IsSl h s 1 (l.map fltR)) (hl : l.length < 2 ^ 40) : RCall P 66 [s] h (fun v _ => v = .tup [.agg (tri (if fitE l = 0 then (predR (l.map gridN)).1 else (0, 0, 0))), .int .i64 (if fitE l = 0 then (predR (l.map gridN)).2 else fitE l)]) := by
  refine .st1 66 T.mix T.c66 ?_;intro ts hlen t0;unfold fn66
  have bz : ∀ {N : Nat}, boxF (.agg [.int .i64 0, .int .i64 0, .int .i64 0]) N = some (.ptr N 0, .push (.cells (tri (0, 0, 0)) true false)) := fun {N} => rfl
  have b9 : ∀ {N : Nat}, boxF (.agg [.int .i64 0, .int .i64 0, .int .i64 0, .int .i64 0, .int .i64 0, .int .i64 0, .int .i64 0, .int .i64 0, .int .i64 0]) N = some (.ptr N 0, .push (.cells (smK (l.map gridN) 0) true false)) := fun {N} => rfl
  refine Rs (A2 @t0 @bz) ?_
  refine WF.ce T.c148 (r148 T (hs.ext Xx) hl) fun g1 => ?_
  obtain ⟨K, hK⟩ : ∃ K, K = h ++ [ABlk.cells (tri (0, 0, 0)) true false] ++ g1 := ⟨_, rfl⟩
  have eK : Ext (h ++ [ABlk.cells (tri (0, 0, 0)) true false]) K := by rw [hK]; exact Xx
  rw [← hK]
  clear hK
  by_cases hz : fitE l = 0
  case neg =>
    have d1 : decide (fitE l ≠ 0) = true := decide_eq_true hz
    rw [if_neg hz, if_neg hz]
    have m2 := eK.some at_new
    have s2 := stN (n := 3) (L := [.int .i64 0, .int .i64 0, .int .i64 0]) m2 rfl rfl rfl
    have l2 := ldNs (n := 3) (L := [.int .i64 0, .int .i64 0, .int .i64 0]) m2 rfl
    refine Rs (A4 @t0 @d1 @s2 @l2) ?_
    exact ⟨ext_set eK, rfl⟩
  have d1 : decide (fitE l ≠ 0) = false := decide_eq_false fun z => z hz
  have ok := fitE_z hz
  rw [if_pos hz, if_pos hz]
  have hsK := hs.ext (Ext.trans ⟨_, rfl⟩ eK)
  refine Rs (A2 @t0 @d1) ?_
  refine WF.ce T.c149 (r149 T hsK ok) fun g2 => ?_
  obtain ⟨A, hA⟩ : ∃ A, A = l.map gridN := ⟨_, rfl⟩
  have hAl : A.length = l.length := by rw [hA]; simp
  have hb := ok.r
  have hl2 := ok.l2
  rw [← hA] at b9 hb ⊢
  rw [← hAl] at hl2
  have st9 := fun {n : Nat} => @sm9_st A n
  have c := smI_bd hb hl2
  have p1 := sm_sq (c 1 1) (c 2 2)
  have p2 := sm_sq (c 1 2) (c 1 2)
  have p3 := sm_sq (c 0 1) (c 2 2)
  have p4 := sm_sq (c 0 2) (c 1 2)
  have p5 := sm_sq (c 0 2) (c 1 1)
  have p6 := sm_sq (c 0 1) (c 1 2)
  have w1 : IntKind.i64.wrap (smI A 1 1 * smI A 2 2) = smI A 1 1 * smI A 2 2 := wrap_in (by omega) (by omega)
  have w2 : IntKind.i64.wrap (smI A 1 2 * smI A 1 2) = smI A 1 2 * smI A 1 2 := wrap_in (by omega) (by omega)
  have w3 : IntKind.i64.wrap (smI A 0 1 * smI A 2 2) = smI A 0 1 * smI A 2 2 := wrap_in (by omega) (by omega)
  have w4 : IntKind.i64.wrap (smI A 0 2 * smI A 1 2) = smI A 0 2 * smI A 1 2 := wrap_in (by omega) (by omega)
  have w5 : IntKind.i64.wrap (smI A 0 2 * smI A 1 1) = smI A 0 2 * smI A 1 1 := wrap_in (by omega) (by omega)
  have w6 : IntKind.i64.wrap (smI A 0 1 * smI A 1 2) = smI A 0 1 * smI A 1 2 := wrap_in (by omega) (by omega)
  have w7 : IntKind.i64.wrap (smI A 1 1 * smI A 2 2 - smI A 1 2 * smI A 1 2) = detI A := wrap_in (by omega) (by omega)
  have w8 : IntKind.i64.wrap (smI A 0 1 * smI A 2 2 - smI A 0 2 * smI A 1 2) = nuA A := wrap_in (by omega) (by omega)
  have w9 : IntKind.i64.wrap (smI A 0 2 * smI A 1 1 - smI A 0 1 * smI A 1 2) = nuB A := wrap_in (by omega) (by omega)
  have v1 : ldB none 1 (.cells (sm9 A) true false) = some (.int .i64 (smI A 0 1), .keep) := rfl
  have v2 : ldB none 2 (.cells (sm9 A) true false) = some (.int .i64 (smI A 0 2), .keep) := rfl
  have v4 : ldB none 4 (.cells (sm9 A) true false) = some (.int .i64 (smI A 1 1), .keep) := rfl
  have v5 : ldB none 5 (.cells (sm9 A) true false) = some (.int .i64 (smI A 1 2), .keep) := rfl
  have v8 : ldB none 8 (.cells (sm9 A) true false) = some (.int .i64 (smI A 2 2), .keep) := rfl
  have i0 : ∀ {N : Nat}, iadaF 3 3 (.ptr N 0) (.int .i64 0) = some (.ptr N 0) := fun {N} => rfl
  have i1 : ∀ {N : Nat}, iadaF 3 3 (.ptr N 0) (.int .i64 1) = some (.ptr N 3) := fun {N} => rfl
  have i2 : ∀ {N : Nat}, iadaF 3 3 (.ptr N 0) (.int .i64 2) = some (.ptr N 6) := fun {N} => rfl
  have j1 : ∀ {N o : Nat}, iadaF 3 1 (.ptr N o) (.int .i64 1) = some (.ptr N (o + 1)) := fun {N o} => rfl
  have j2 : ∀ {N o : Nat}, iadaF 3 1 (.ptr N o) (.int .i64 2) = some (.ptr N (o + 2)) := fun {N o} => rfl
  refine Rs (A3 @t0 @b9 @st9) ?_
  obtain ⟨K2, hK2⟩ : ∃ K2, K2 = K ++ g2 ++ [ABlk.cells (sm9 A) true false] := ⟨_, rfl⟩
  have eK2 : Ext K K2 := by rw [hK2]; exact Xx
  have m5 : K2[(K ++ g2).length]? = some (.cells (sm9 A) true false) := by rw [hK2]; exact at_new
  have l5 := @ldx _ _ _ m5
  obtain ⟨b5, hb5⟩ : ∃ b5, b5 = (K ++ g2).length := ⟨_, rfl⟩
  rw [← hb5] at l5
  rw [← hK2, ← hb5]
  clear hK2 m5
  have eY := eK.trans eK2
  by_cases hd : detI A = 0
  · have d2 : decide (detI A = 0) = true := decide_eq_true hd
    have e2 : predR A = ((0, 0, 0), 17) := if_pos hd
    rw [e2]
    have m2 := eY.some at_new
    have s2 := stN (n := 3) (L := [.int .i64 0, .int .i64 0, .int .i64 0]) m2 rfl rfl rfl
    have l2 := ldNs (n := 3) (L := [.int .i64 0, .int .i64 0, .int .i64 0]) m2 rfl
    refine Rs (A15 @t0 @i1 @i2 @j1 @j2 @l5 @v4 @v5 @v8 @w1 @w2 @w7 @d2 @s2 @l2) ?_
    exact ⟨ext_set eY, rfl⟩
  have d2 : decide (detI A = 0) = false := decide_eq_false hd
  have e2 : predR A = (lowI (nuA A, nuB A, detI A), 0) := if_neg hd
  rw [e2]
  have bd : buildF (fillA [.int .i64 0, .int .i64 0, .int .i64 0] [(0, 1, .int .i64 (nuA A)), (1, 1, .int .i64 (nuB A)), (2, 1, .int .i64 (detI A))]) = some (.agg (tri (nuA A, nuB A, detI A))) := rfl
  refine Rs (A23 @t0 @i0 @i1 @i2 @j1 @j2 @l5 @v1 @v2 @v4 @v5 @v8 @w1 @w2 @w3 @w4 @w5 @w6 @w7 @w8 @w9 @d2 @bd) ?_
  refine WF.ce T.c150 (r150 T (pred_tri hb hl2 hd)) fun g3 => ?_
  have eY := eY.trans (show Ext K2 (K2 ++ g3) from ⟨_, rfl⟩)
  obtain ⟨Y, hY⟩ : ∃ Y, Y = K2 ++ g3 := ⟨_, rfl⟩
  rw [← hY] at eY ⊢
  have m2 := eY.some at_new
  have s2 := stN (n := 3) (L := tri (lowI (nuA A, nuB A, detI A))) m2 rfl rfl rfl
  have l2 := ldNs (n := 3) (L := tri (lowI (nuA A, nuB A, detI A))) m2 rfl
  refine Rs (A3 @t0 @s2 @l2) ?_
  exact ⟨ext_set eY, trivial⟩
end
end Go.Abs
namespace Go.Abs

def rngN (n : Int) : Int := rangeS n (-549755813888) 549755813888
noncomputable def cp4 (l : List Nat) (p : Int × Int × Int) : Int := firstS [fitE l, rngN p.1, rngN p.2.1, rangeS p.2.2 1 274877906944]
def cp2 (A : List Int) (p : Int × Int × Int) : Int := firstS [whenS (decide (gcd3 p ≠ 1)) 1, whenS (decide (agI A p 1 ≠ 0) || decide (agI A p 2 ≠ 0)) 19]
noncomputable def cpE (l : List Nat) (p : Int × Int × Int) : Int := if cp4 l p = 0 then cp2 (l.map gridN) p else cp4 l p
theorem first4 {a b c d : Int} (h : firstS [a, b, c, d] = 0) : a = 0 ∧ b = 0 ∧ c = 0 ∧ d = 0 := by
  by_cases ha : a = 0
  · rw [first_cons0 ha] at h
    exact ⟨ha, first3 h⟩
  · rw [first_consN ha] at h; exact absurd h ha
theorem cp4_z {l : List Nat} {p : Int × Int × Int} (h : cp4 l p = 0) : FitOk l ∧ triB p := by
  obtain ⟨h1, h2, h3, h4⟩ := first4 h
  have a := rangeS_z.1 h2
  have b := rangeS_z.1 h3
  have c := rangeS_z.1 h4
  exact ⟨fitE_z h1, ⟨by omega, by omega⟩, ⟨by omega, by omega⟩, by omega, by omega⟩
theorem low_eq {p : Int × Int × Int} (h : 0 < p.2.2) : decide (lowI p = p) = decide (gcd3 p = 1) := by
  refine decide_eq_decide.2 ⟨fun e => ?_, fun e => ?_⟩
  · have h2 : p.2.2.tdiv (gcd3 p) = p.2.2 := congrArg (fun x => x.2.2) e
    have g := gcd3_bd h
    rw [Int.tdiv_eq_ediv_of_nonneg (by omega)] at h2
    have hd : ((gcd3 p : Nat) : Int) ∣ p.2.2 := Int.gcd_dvd_right ..
    have h3 := Int.ediv_mul_cancel hd
    rw [h2] at h3
    have : p.2.2 * ((gcd3 p : Nat) : Int) = p.2.2 * 1 := by rw [Int.mul_one]; exact h3
    have := Int.eq_of_mul_eq_mul_left (by omega) this
    omega
  · unfold lowI
    rw [e]
    simp
def errR (A : List Int) : (Int × Int) × Int := if detI A = 0 then ((0, 0), 17) else (ratI (agI A (lowI (nuA A, nuB A, detI A)) 0) (lowI (nuA A, nuB A, detI A)).2.2, 0)
set_option maxRecDepth 10000
attribute [local irreducible] WP WC WE WB WR WF WL WG WRg WQ
section
variable {P : Program} (T : Tbl P) {h : AHeap}
include T
set_option maxHeartbeats 4000000 in
theorem r73 {s : AV} {l : List Nat} (hs : IsSl h s 1 (l.map fltR)) (hl : l.length < 2 ^ 40) (p : Int × Int × Int) : RCall P 73 [s, .agg (tri p)] h (fun v _ => v = .int .i64 (cpE l p)) := by
  refine .st2 43 T.mix T.c73 ?_;intro ts hlen t0 t1;unfold fn73
  refine Rs (A3 @t0 @t1 @tri_box) ?_
  refine WF.ce T.c148 (r148 T (hs.ext Xx) hl) fun g1 => ?_
  refine Rs (A2 @t0 @tri_0) ?_
  refine WF.ce T.c120 (r120 T _ _ _) fun g2 => ?_
  refine Rs (A2 @t0 @tri_1) ?_
  refine WF.ce T.c120 (r120 T _ _ _) fun g3 => ?_
  refine Rs (A2 @t0 @tri_2) ?_
  refine WF.ce T.c120 (r120 T _ _ _) fun g4 => ?_
  refine Rs @t0 ?_
  refine WF.ce T.c116 (r116 T (isSl_ints [_, _, _, _]) (by simp)) fun g5 => ?_
  have hE : firstS [fitE l, rangeS p.1 (-549755813888) 549755813888, rangeS p.2.1 (-549755813888) 549755813888, rangeS p.2.2 1 274877906944] = cp4 l p := rfl
  rw [hE]
  obtain ⟨K, hK⟩ : ∃ K, K = h ++ [ABlk.cells (tri p) true false] ++ g1 ++ g2 ++ g3 ++ g4 ++ [ABlk.cells [AV.int IntKind.i64 (fitE l), AV.int IntKind.i64 (rangeS p.1 (-549755813888) 549755813888), AV.int IntKind.i64 (rangeS p.2.1 (-549755813888) 549755813888), AV.int IntKind.i64 (rangeS p.2.2 1 274877906944)] true true] ++ g5 := ⟨_, rfl⟩
  have eK : Ext (h ++ [ABlk.cells (tri p) true false]) K := by rw [hK]; exact Xx
  rw [← hK]
  clear hK
  by_cases hz : cp4 l p = 0
  case neg =>
    have d1 : decide (cp4 l p ≠ 0) = true := decide_eq_true hz
    rw [show cpE l p = cp4 l p from if_neg hz]
    refine Rs (A2 @t0 @d1) ?_
    exact ⟨Ext.trans ⟨_, rfl⟩ eK, trivial⟩
  have d1 : decide (cp4 l p ≠ 0) = false := decide_eq_false fun z => z hz
  rw [show cpE l p = cp2 (l.map gridN) p from if_pos hz]
  obtain ⟨ok, hp⟩ := cp4_z hz
  have hsK := hs.ext (Ext.trans ⟨_, rfl⟩ eK)
  have b9 : ∀ {N : Nat}, boxF (.agg [.int .i64 0, .int .i64 0, .int .i64 0, .int .i64 0, .int .i64 0, .int .i64 0, .int .i64 0, .int .i64 0, .int .i64 0]) N = some (.ptr N 0, .push (.cells (smK (l.map gridN) 0) true false)) := fun {N} => rfl
  refine Rs (A2 @t0 @d1) ?_
  refine WF.ce T.c149 (r149 T hsK ok) fun g6 => ?_
  obtain ⟨A, hA⟩ : ∃ A, A = l.map gridN := ⟨_, rfl⟩
  have hAl : A.length = l.length := by rw [hA]; simp
  have hb := ok.r
  have hl2 := ok.l2
  rw [← hA] at b9 hb ⊢
  rw [← hAl] at hl2
  have st9 := fun {n : Nat} => @sm9_st A n
  refine Rs (A3 @t0 @b9 @st9) ?_
  obtain ⟨K2, hK2⟩ : ∃ K2, K2 = K ++ g6 ++ [ABlk.cells (sm9 A) true false] := ⟨_, rfl⟩
  have eK2 : Ext K K2 := by rw [hK2]; exact Xx
  have m6 : K2[(K ++ g6).length]? = some (.cells (sm9 A) true false) := by rw [hK2]; exact at_new
  have l6 := @ldx _ _ _ m6
  have l3 := @ldx _ _ _ ((eK.trans eK2).some at_new)
  obtain ⟨b6, hb6⟩ : ∃ b6, b6 = (K ++ g6).length := ⟨_, rfl⟩
  rw [← hb6] at l6
  rw [← hK2, ← hb6]
  clear hK2 m6
  have ehK : Ext h K2 := Ext.trans ⟨_, rfl⟩ (eK.trans eK2)
  refine Rs (A2 @l3 @tri_a) ?_
  refine WF.ce T.c150 (r150 T hp) fun g7 => ?_
  have eq := @eq_tri true (lowI p) p
  have hx : (true ^^ decide (lowI p = p)) = decide (gcd3 p ≠ 1) := by
    rw [low_eq hp.2.2.1]
    by_cases h1 : gcd3 p = 1 <;> simp [h1]
  rw [hx] at eq
  refine Rs (A3 @l3 @tri_a @eq) ?_
  refine WF.ce T.c117 (r117 T _ _) fun g8 => ?_
  refine Rs (A4 @l3 @tri_a @l6 @sm9_a) ?_
  refine WF.ce T.c151 (r151 T hb hl2 hp (k := 1) (by omega)) fun g9 => ?_
  obtain ⟨Y, hY⟩ : ∃ Y, Y = K2 ++ g7 ++ g8 ++ g9 := ⟨_, rfl⟩
  have eY : Ext K2 Y := by rw [hY]; exact Xx
  rw [← hY]
  clear hY
  have l6 := fun {k : AHeap} {n : Option Nat} {a : Nat} (e : Ext Y k) => @l6 k n a (eY.trans e)
  have l3 := fun {k : AHeap} {n : Option Nat} {a : Nat} (e : Ext Y k) => @l3 k n a (eY.trans e)
  by_cases h1 : agI A p 1 = 0
  · have d2 : decide (agI A p 1 ≠ 0) = false := decide_eq_false fun z => z h1
    refine Rs (A5 @d2 @l3 @tri_a @l6 @sm9_a) ?_
    refine WF.ce T.c151 (r151 T hb hl2 hp (k := 2) (by omega)) fun g10 => ?_
    refine Rs @d2 ?_
    refine WF.ce T.c117 (r117 T _ _) fun g11 => ?_
    refine Rs @d2 ?_
    refine WF.ce T.c116 (r116 T (isSl_ints [_, _]) (by simp)) fun g12 => ?_
    refine Rs @d2 ?_
    exact ⟨ehK.trans (eY.trans Xx), by rw [cp2, d2, Bool.false_or]⟩
  · have d2 : decide (agI A p 1 ≠ 0) = true := decide_eq_true h1
    refine Rs @d2 ?_
    refine WF.ce T.c117 (r117 T _ _) fun g11 => ?_
    refine Rs @d2 ?_
    refine WF.ce T.c116 (r116 T (isSl_ints [_, _]) (by simp)) fun g12 => ?_
    refine Rs @d2 ?_
    exact ⟨ehK.trans (eY.trans Xx), by rw [cp2, d2, Bool.true_or]⟩
set_option maxHeartbeats 4000000 in
theorem r67 {s : AV} {l : List Nat} (hs : IsSl h s 1 (l.map fltR)) (hl : l.length < 2 ^ 40) : RCall P 67 [s] h (fun v _ => v = .tup [.agg (ratR (if fitE l = 0 then (errR (l.map gridN)).1 else (0, 0))), .int .i64 (if fitE l = 0 then (errR (l.map gridN)).2 else fitE l)]) := by
  refine .st1 22 T.mix T.c67 ?_;intro ts hlen t0;unfold fn67
  have bz2 : ∀ {N : Nat}, boxF (.agg [.int .i64 0, .int .i64 0]) N = some (.ptr N 0, .push (.cells (ratR (0, 0)) true false)) := fun {N} => rfl
  have bz : ∀ {N : Nat}, boxF (.agg [.int .i64 0, .int .i64 0, .int .i64 0]) N = some (.ptr N 0, .push (.cells (tri (0, 0, 0)) true false)) := fun {N} => rfl
  refine Rs (A2 @t0 @bz2) ?_
  refine WF.ce T.c66 (r66 T (hs.ext Xx) hl) fun g1 => ?_
  obtain ⟨K, hK⟩ : ∃ K, K = h ++ [ABlk.cells (ratR (0, 0)) true false] ++ g1 := ⟨_, rfl⟩
  have eK : Ext (h ++ [ABlk.cells (ratR (0, 0)) true false]) K := by rw [hK]; exact Xx
  rw [← hK]
  clear hK
  have hsK := hs.ext (Ext.trans ⟨_, rfl⟩ eK)
  obtain ⟨p, hp⟩ : ∃ p, p = (if fitE l = 0 then (predR (l.map gridN)).1 else (0, 0, 0)) := ⟨_, rfl⟩
  obtain ⟨e, he⟩ : ∃ e, e = (if fitE l = 0 then (predR (l.map gridN)).2 else fitE l) := ⟨_, rfl⟩
  have sT := fun {n : Nat} {a0 a1 a2 : AV} => @tri_sT p n a0 a1 a2
  have sT' : ∀ {n : Nat}, stB 3 0 (.agg (tri p)) n (.cells (tri (0, 0, 0)) true false) = some (undefA, .set n (.cells (tri p) true false)) := fun {n} => tri_sT
  rw [← hp, ← he]
  refine Rs (A3 @t0 @bz @sT') ?_
  obtain ⟨K2, hK2⟩ : ∃ K2, K2 = K ++ [ABlk.cells (tri p) true false] := ⟨_, rfl⟩
  have eK2 : Ext K K2 := by rw [hK2]; exact Xx
  have m4 : K2[K.length]? = some (.cells (tri p) true false) := by rw [hK2]; exact at_new
  have l4 := @ldx _ _ _ m4
  obtain ⟨b4, hb4⟩ : ∃ b4, b4 = K.length := ⟨_, rfl⟩
  rw [← hb4] at l4
  rw [← hK2, ← hb4]
  clear hK2 m4
  have eY := eK.trans eK2
  have er : (if e = 0 then (errR (l.map gridN)).1 else (0, 0)) = (if fitE l = 0 then (errR (l.map gridN)).1 else (0, 0)) ∧ (if fitE l = 0 then (errR (l.map gridN)).2 else fitE l) = e := by
    rw [he]
    by_cases hz : fitE l = 0
    · simp only [if_pos hz]
      unfold predR errR
      by_cases hd : detI (l.map gridN) = 0
      · simp [hd]
      · simp [hd]
    · simp only [if_neg hz]; exact ⟨trivial, trivial⟩
  rw [← er.1, er.2]
  by_cases hz : e = 0
  case neg =>
    have d1 : decide (e ≠ 0) = true := decide_eq_true hz
    rw [if_neg hz]
    have m2 := eY.some at_new
    have s2 := stN (n := 2) (L := [.int .i64 0, .int .i64 0]) m2 rfl rfl rfl
    have l2 := ldNs (n := 2) (L := [.int .i64 0, .int .i64 0]) m2 rfl
    refine Rs (A4 @t0 @d1 @s2 @l2) ?_
    exact ⟨ext_set eY, rfl⟩
  have d1 : decide (e ≠ 0) = false := decide_eq_false fun z => z hz
  rw [if_pos hz]
  have hf : fitE l = 0 := by
    by_cases hf : fitE l = 0
    · exact hf
    · rw [if_neg hf] at he; rw [he] at hz; exact hz
  rw [if_pos hf] at hp he
  have hd : detI (l.map gridN) ≠ 0 := fun z => by
    rw [predR, if_pos z] at he
    rw [he] at hz; cases hz
  have ok := fitE_z hf
  obtain ⟨A, hA⟩ : ∃ A, A = l.map gridN := ⟨_, rfl⟩
  have hAl : A.length = l.length := by rw [hA]; simp
  have hb := ok.r
  have hl2 := ok.l2
  rw [← hA] at hb hp hd ⊢
  rw [← hAl] at hl2
  have hp : p = lowI (nuA A, nuB A, detI A) := by rw [hp, predR, if_neg hd]
  have tb : triB p := by rw [hp]; exact lowI_bd (pred_tri hb hl2 hd)
  have hE : (errR A).1 = ratI (agI A p 0) p.2.2 := by rw [errR, if_neg hd, ← hp]
  rw [hE]
  have ab := agI_bd hb hl2 tb 0
  obtain ⟨_, _, p3, p4⟩ := id tb
  refine Rs (A4 @t0 @d1 @l4 @tri_a) ?_
  refine WF.ce T.c149 (r149 T (hsK.ext eK2) ok) fun g2 => ?_
  rw [← hA]
  refine Rs @t0 ?_
  refine WF.ce T.c151 (r151 T hb hl2 tb (k := 0) (by omega)) fun g3 => ?_
  refine Rs (A3 @t0 @l4 @tri_2) ?_
  refine WF.ce T.c129 (r129 T _ _ (by omega) (by omega) (by omega)) fun g4 => ?_
  have eY := eY.trans (show Ext K2 (K2 ++ g2 ++ g3 ++ g4) from Xx)
  obtain ⟨Y, hY⟩ : ∃ Y, Y = K2 ++ g2 ++ g3 ++ g4 := ⟨_, rfl⟩
  rw [← hY] at eY ⊢
  have m2 := eY.some at_new
  have s2 := stN (n := 2) (L := ratR (ratI (agI A p 0) p.2.2)) m2 rfl rfl rfl
  have l2 := ldNs (n := 2) (L := ratR (ratI (agI A p 0) p.2.2)) m2 rfl
  refine Rs (A3 @t0 @s2 @l2) ?_
  exact ⟨ext_set eY, by rw [hz]⟩
end
end Go.Abs
namespace Go.Abs

theorem gcd3_ref (p : Int × Int × Int) : Int.gcd ((Int.gcd p.2.2 p.1 : Nat) : Int) p.2.1 = gcd3 p := by
  show Nat.gcd (Nat.gcd p.2.2.natAbs p.1.natAbs) p.2.1.natAbs = Nat.gcd (Nat.gcd p.1.natAbs p.2.1.natAbs) p.2.2.natAbs
  rw [Nat.gcd_assoc, Nat.gcd_comm]
def rg3 (p : Int × Int × Int) : Int := firstS [rngN p.1, rngN p.2.1, rangeS p.2.2 1 274877906944]
def cfE (p : Int × Int × Int) : Int := if rg3 p = 0 then whenS (decide (gcd3 p ≠ 1)) 1 else rg3 p
set_option maxRecDepth 10000
attribute [local irreducible] WP WC WE WB WR WF WL WG WRg WQ
section
variable {P : Program} (T : Tbl P) {h : AHeap}
include T
set_option maxHeartbeats 2000000 in
theorem r69 (p : Int × Int × Int) : RCall P 69 [.agg (tri p)] h (fun v _ => v = .int .i64 (cfE p)) := by
  refine .st1 27 T.mix T.c69 ?_;intro ts hlen t0;unfold fn69
  refine Rs (A3 @t0 @tri_box @tri_0) ?_
  refine WF.ce T.c48 (r48 T _ _ _) fun g1 => ?_
  refine Rs (A2 @t0 @tri_1) ?_
  refine WF.ce T.c48 (r48 T _ _ _) fun g2 => ?_
  refine Rs (A2 @t0 @tri_2) ?_
  refine WF.ce T.c48 (r48 T _ _ _) fun g3 => ?_
  refine Rs @t0 ?_
  refine WF.ce T.c27 (r27 T (isSl_ints [_, _, _]) (by simp)) fun g4 => ?_
  have hE : firstS [rangeS p.1 (-549755813888) 549755813888, rangeS p.2.1 (-549755813888) 549755813888, rangeS p.2.2 1 274877906944] = rg3 p := rfl
  rw [hE]
  obtain ⟨K, hK⟩ : ∃ K, K = h ++ [ABlk.cells (tri p) true false] ++ g1 ++ g2 ++ g3 ++ [ABlk.cells [AV.int IntKind.i64 (rangeS p.1 (-549755813888) 549755813888), AV.int IntKind.i64 (rangeS p.2.1 (-549755813888) 549755813888), AV.int IntKind.i64 (rangeS p.2.2 1 274877906944)] true true] ++ g4 := ⟨_, rfl⟩
  have eK : Ext (h ++ [ABlk.cells (tri p) true false]) K := by rw [hK]; exact Xx
  rw [← hK]
  clear hK
  have ehK : Ext h K := Ext.trans ⟨_, rfl⟩ eK
  by_cases hr : rg3 p = 0
  case neg =>
    have d1 : decide (rg3 p ≠ 0) = true := decide_eq_true hr
    rw [show cfE p = rg3 p from if_neg hr]
    refine Rs (A2 @t0 @d1) ?_
    exact ⟨ehK, trivial⟩
  have d1 : decide (rg3 p ≠ 0) = false := decide_eq_false fun z => z hr
  rw [show cfE p = whenS (decide (gcd3 p ≠ 1)) 1 from if_pos hr]
  obtain ⟨a, b, c⟩ := first3 hr
  have a := rangeS_z.1 a
  have b := rangeS_z.1 b
  have c := rangeS_z.1 c
  have l1 := @ldx _ _ _ (eK.some at_new)
  have hlt := gcd_lt (a := p.2.2) (b := p.1) (M := 2 ^ 62) (by omega) (by omega)
  refine Rs (A5 @t0 @d1 @l1 @tri_0 @tri_2) ?_
  refine WF.ce T.c152 (z152 T p.2.2 p.1 (by omega) (by omega)) fun g5 => ?_
  refine Rs (A3 @t0 @l1 @tri_1) ?_
  refine WF.ce T.c152 (z152 T _ p.2.1 (by omega) (by omega)) fun g6 => ?_
  rw [gcd3_ref]
  by_cases hg : gcd3 p = 1
  · have d2 : decide (((gcd3 p : Nat) : Int) ≠ 1) = false := decide_eq_false fun z => z (by rw [hg]; rfl)
    have d3 : decide (gcd3 p ≠ 1) = false := decide_eq_false fun z => z hg
    rw [d3]
    refine Rs (A2 @t0 @d2) ?_
    exact ⟨ehK.trans Xx, rfl⟩
  · have d2 : decide (((gcd3 p : Nat) : Int) ≠ 1) = true := decide_eq_true (by omega)
    have d3 : decide (gcd3 p ≠ 1) = true := decide_eq_true hg
    rw [d3]
    refine Rs (A2 @t0 @d2) ?_
    exact ⟨ehK.trans Xx, rfl⟩
end
end Go.Abs
namespace Go.Abs

end Go.Abs
namespace Go.Abs

theorem firstS_nil0 : ∀ {l : List Int}, (∀ x ∈ l, x = 0) → firstS l = 0
  | [], _ => rfl
  | a :: l, h => by
    rw [firstS, if_pos (h a (List.mem_cons_self ..))]
    exact firstS_nil0 fun x hx => h x (List.mem_cons_of_mem _ hx)
theorem chkL_ok {l : List Nat} (h1 : l.length ≤ 1024) (h2 : ∀ b ∈ l, gridE b = 0) : chkL l = 0 := by
  unfold chkL
  have e : firstS (l.map gridE) = 0 := firstS_nil0 fun x hx => by
    obtain ⟨b, hb, rfl⟩ := List.mem_map.1 hx
    exact h2 b hb
  first
    | rw [if_neg (by omega)]; exact e
    | (split <;> first | exact e | omega)
theorem fits_of {l : List Int} (h : ∀ x ∈ l, -16384 ≤ x ∧ x ≤ 16384) : fitsB l = true := by
  unfold fitsB
  rw [List.all_eq_true]
  intro x hx
  have := h x hx
  unfold fitB
  first
    | (rw [Bool.and_eq_true]; exact ⟨decide_eq_true this.1, decide_eq_true this.2⟩)
    | simp [this.1, this.2]
    | (simp; omega)
noncomputable def quietB (l : List Nat) (lim : Int) : Bool := decide (l.length ≤ 24) && (decide (firstS (l.map gridE) = 0) && l.all fun b => decide (-lim ≤ gridN b) && decide (gridN b ≤ lim))
theorem quietB_t {l : List Nat} {lim : Int} (h : quietB l lim = true) : l.length ≤ 24 ∧ (∀ b ∈ l, gridE b = 0) ∧ ∀ x ∈ l.map gridN, -lim ≤ x ∧ x ≤ lim := by
  unfold quietB at h
  simp only [Bool.and_eq_true, decide_eq_true_eq, List.all_eq_true] at h
  obtain ⟨h1, h2, h3⟩ := h
  refine ⟨h1, fun b hb => firstS_z h2 _ (List.mem_map_of_mem hb), fun x hx => ?_⟩
  obtain ⟨b, hb, rfl⟩ := List.mem_map.1 hx
  exact h3 b hb
theorem atZ_lim {A : List Int} {B : Int} (hB : 0 ≤ B) (h : ∀ x ∈ A, -B ≤ x ∧ x ≤ B) (j : Int) : -B ≤ atZ A j ∧ atZ A j ≤ B := atZ_bd' hB h j
where
  mul_bd' {x y : Int} {X Y : Int} (h1 : -X ≤ x ∧ x ≤ X) (h2 : -Y ≤ y ∧ y ≤ Y) : -(X * Y) ≤ x * y ∧ x * y ≤ X * Y := by
    have e : (x * y).natAbs ≤ (X * Y).natAbs := by
      rw [Int.natAbs_mul, Int.natAbs_mul]
      exact Nat.mul_le_mul (by omega) (by omega)
    have p := Int.mul_nonneg (show 0 ≤ X by omega) (show 0 ≤ Y by omega)
    omega
set_option maxRecDepth 10000
attribute [local irreducible] WP WC WE WB WR WF WL WG WRg WQ
section
variable {P : Program} (T : Tbl P) {h : AHeap}
include T
set_option maxHeartbeats 2000000 in
theorem r57 (X : Xfl P) {s : AV} {l : List Nat} (hs : IsSl h s 1 (l.map fltR)) {lim : Int} (hlim : 0 ≤ lim ∧ lim ≤ 1000) : RCall P 57 [s, .int .i64 lim] h (fun v _ => v = .bool (quietB l lim)) := by
  refine .st2 34 T.mix T.c57 ?_;intro ts hlen t0 t1;unfold fn57
  by_cases h1 : l.length ≤ 24
  case neg =>
    have d1 : decide ((24 : Int) < (l.length : Int)) = true := decide_eq_true (by omega)
    have e : quietB l lim = false := by rw [quietB, decide_eq_false h1, Bool.false_and]
    rw [e]
    exact Rs (A4 @t0 @t1 hs.lenm @d1) trivial
  have d1 : decide ((24 : Int) < (l.length : Int)) = false := decide_eq_false (by omega)
  refine Rs (A4 @t0 @t1 hs.lenm @d1) ?_
  refine WF.ce T.c75 (r75 T X hs (by omega)) fun g1 => ?_
  by_cases h2 : firstS (l.map gridE) = 0
  case neg =>
    have d2 : decide (firstS (l.map gridE) ≠ 0) = true := decide_eq_true h2
    have e : quietB l lim = false := by rw [quietB, decide_eq_false h2, Bool.false_and, Bool.and_false]
    rw [e]
    exact Rs (A3 @t0 @t1 @d2) trivial
  have d2 : decide (firstS (l.map gridE) ≠ 0) = false := decide_eq_false fun z => z h2
  have hg : ∀ b ∈ l, gridE b = 0 := fun b hb => firstS_z h2 _ (List.mem_map_of_mem hb)
  have hq : quietB l lim = l.all fun b => decide (-lim ≤ gridN b) && decide (gridN b ≤ lim) := by rw [quietB, decide_eq_true h1, decide_eq_true h2, Bool.true_and, Bool.true_and]
  rw [hq]
  have nw : IntKind.i64.wrap (0 - lim) = -lim := by rw [wrap_in (by omega) (by omega)]; omega
  obtain ⟨q, hqq⟩ : ∃ q : Nat → Bool, q = fun b => decide (-lim ≤ gridN b) && decide (gridN b ≤ lim) := ⟨_, rfl⟩
  rw [← hqq]
  refine Rs (A4 @t0 @t1 @d2 hs.lenm) ?_
  refine WL.inv T.mix (fun n ts K => ∃ k : Nat, k ≤ l.length ∧ n = l.length - k ∧ Ext h K ∧ l.all q = (l.drop k).all q ∧ ts.length = 34 ∧ slot ts 1 = .int .i64 lim ∧ slot ts 16 = s ∧ slot ts 17 = .int .i64 l.length ∧ slot ts 18 = .int .i64 k) l.length
    ⟨0, by omega, rfl, Xx, rfl, Sn, (Sq @t1), Sw, Sw, Swr⟩ ?_
  clear hlen t0 t1 d1 d2
  rintro _ ts K ⟨k, hk, rfl, eK, hf, hlen, t1, t16, t17, t18⟩
  have hsK := hs.ext eK
  by_cases hlt : k < l.length
  case neg =>
    have e3 := dltF hlt
    have e4 : k = l.length := by omega
    rw [e4, List.drop_length] at hf
    have hf : l.all q = true := hf
    rw [hf]
    refine Rs (A5 @t1 @t16 @t17 @t18 @e3) ?_
    exact ⟨eK, trivial⟩
  have e3 := dltT hlt
  have e5 := wrapN (n := k) (by omega)
  have ix := hsK.ixm (kk := .i64) hlt
  have hd : l.drop k = l[k] :: l.drop (k + 1) := by simp
  rw [hd, List.all_cons] at hf
  have hgx := hg l[k] (List.getElem_mem _)
  obtain ⟨x, hx⟩ : ∃ x, x = l[k] := ⟨_, rfl⟩
  have ld : ∀ {kk : AHeap}, Ext K kk → loadF none (elp s 1 k) (fun b => kk[b]?) = some (.flt .f32 x, .keep) := fun {kk} e => by rw [hx]; exact hsK.l1m hlt rfl e
  rw [← hx] at hf hgx
  refine Rs (A7 @t1 @t16 @t17 @t18 @e3 @ix @ld) ?_
  refine WF.ce T.c64 (r64 T hgx) fun g2 => ?_
  by_cases c1 : lim < gridN x
  · have f1 : decide (lim < gridN x) = true := decide_eq_true c1
    have qx : q x = false := by
      rw [hqq]
      show (decide (-lim ≤ gridN x) && decide (gridN x ≤ lim)) = false
      rw [decide_eq_false (show ¬ gridN x ≤ lim by omega), Bool.and_false]
    rw [qx, Bool.false_and] at hf
    rw [hf]
    refine Rs (A5 @t1 @t16 @t17 @t18 @f1) ?_
    exact ⟨eK.trans Xx, trivial⟩
  have f1 : decide (lim < gridN x) = false := decide_eq_false c1
  by_cases c2 : gridN x < -lim
  · have f2 : decide (gridN x < -lim) = true := decide_eq_true c2
    have qx : q x = false := by
      rw [hqq]
      show (decide (-lim ≤ gridN x) && decide (gridN x ≤ lim)) = false
      rw [decide_eq_false (show ¬ -lim ≤ gridN x by omega), Bool.false_and]
    rw [qx, Bool.false_and] at hf
    rw [hf]
    refine Rs (A7 @t1 @t16 @t17 @t18 @f1 @nw @f2) ?_
    exact ⟨eK.trans Xx, trivial⟩
  have f2 : decide (gridN x < -lim) = false := decide_eq_false c2
  have qx : q x = true := by
    rw [hqq]
    show (decide (-lim ≤ gridN x) && decide (gridN x ≤ lim)) = true
    rw [decide_eq_true (show -lim ≤ gridN x by omega), decide_eq_true (show gridN x ≤ lim by omega)]; rfl
  rw [qx, Bool.true_and] at hf
  refine Rs (A8 @t1 @t16 @t17 @t18 @f1 @nw @f2 @e5) ?_
  exact ⟨l.length - (k + 1), by omega, k + 1, by omega, rfl, eK.trans Xx, hf, rfl⟩
end
end Go.Abs
namespace Go.Abs

theorem lessS_eq {a b c d : Int} (ha : 0 ≤ a) (hc : 0 ≤ c) (hb : 0 < b) (hd : 0 < d) : a.tdiv b = a / b ∧ c.tdiv d = c / d ∧ a.tmod b = a % b ∧ c.tmod d = c % d := ⟨Int.tdiv_eq_ediv_of_nonneg ha, Int.tdiv_eq_ediv_of_nonneg hc, Int.tmod_eq_emod_of_nonneg ha, Int.tmod_eq_emod_of_nonneg hc⟩
theorem fitE_ok {l : List Nat} (o : FitOk l) : fitE l = 0 := by
  obtain ⟨h1, h2, h3, h4⟩ := o
  have e1 : chkL l = 0 := chkL_ok (by omega) h3
  have e2 : decide ((l.length : Int) < 3) = false := decide_eq_false (by omega)
  have e3 : decide ((32 : Int) < (l.length : Int)) = false := decide_eq_false (by omega)
  rw [fitE_all (by rw [e1, e2, e3]; rfl)]
  refine firstS_nil0 fun x hx => ?_
  obtain ⟨b, hb, rfl⟩ := List.mem_map.1 hx
  exact rangeS_z.2 (h4 _ (List.mem_map_of_mem hb))
theorem smI_bd2 {A : List Int} (h : ∀ x ∈ A, -127 ≤ x ∧ x ≤ 127) (hl : A.length ≤ 32) (j k : Nat) : -483870 ≤ smI A j k ∧ smI A j k ≤ 483870 := by
  have := smN_bd h j k (A.length - 2)
  unfold smI
  omega
theorem det_le {A : List Int} (h : ∀ x ∈ A, -127 ≤ x ∧ x ≤ 127) (hl : A.length ≤ 32) : detI A ≤ 274877906944 := by
  obtain ⟨_, h1, h2⟩ := s_pos A
  have b1 := (smI_bd2 h hl 1 1).2
  have b2 := (smI_bd2 h hl 2 2).2
  have p := Int.mul_le_mul b1 b2 h2 (by omega)
  have q : 0 ≤ smI A 1 2 * smI A 1 2 := by
    rcases Int.le_total 0 (smI A 1 2) with z | z
    · exact Int.mul_nonneg z z
    · exact Int.mul_nonneg_of_nonpos_of_nonpos z z
  unfold detI
  omega
/-- In lowest terms. -/
theorem low_parts {q : Int × Int × Int} (hd : 0 < q.2.2) : q.1 = (gcd3 q : Nat) * (lowI q).1 ∧ q.2.1 = (gcd3 q : Nat) * (lowI q).2.1 ∧ q.2.2 = (gcd3 q : Nat) * (lowI q).2.2 := by
  have d3 : ((gcd3 q : Nat) : Int) ∣ q.2.2 := Int.gcd_dvd_right ..
  have d12 : ((gcd3 q : Nat) : Int) ∣ ((Int.gcd q.1 q.2.1 : Nat) : Int) := Int.gcd_dvd_left ..
  have d1 : ((gcd3 q : Nat) : Int) ∣ q.1 := Int.dvd_trans d12 (Int.gcd_dvd_left ..)
  have d2 : ((gcd3 q : Nat) : Int) ∣ q.2.1 := Int.dvd_trans d12 (Int.gcd_dvd_right ..)
  exact ⟨(Int.mul_tdiv_cancel' d1).symm, (Int.mul_tdiv_cancel' d2).symm, (Int.mul_tdiv_cancel' d3).symm⟩
theorem gcd3_mul {p : Int × Int × Int} {g : Nat} : gcd3 ((g : Int) * p.1, (g : Int) * p.2.1, (g : Int) * p.2.2) = g * gcd3 p := by
  unfold gcd3
  rw [Int.gcd_mul_left]
  simp only [Int.natAbs_natCast]
  rw [Int.natCast_mul, Int.gcd_mul_left, Int.natAbs_natCast]
theorem gcd3_low {q : Int × Int × Int} (hd : 0 < q.2.2) : gcd3 (lowI q) = 1 := by
  obtain ⟨h1, h2, h3⟩ := low_parts hd
  have e : gcd3 q = gcd3 q * gcd3 (lowI q) := by
    conv => lhs; rw [show q = ((gcd3 q : Nat) * (lowI q).1, (gcd3 q : Nat) * (lowI q).2.1, (gcd3 q : Nat) * (lowI q).2.2) from Prod.ext h1 (Prod.ext h2 h3)]
    exact gcd3_mul
  have g := (gcd3_bd hd).1
  have : gcd3 q * 1 = gcd3 q * gcd3 (lowI q) := by rw [Nat.mul_one]; exact e
  exact (Nat.eq_of_mul_eq_mul_left (by omega) this).symm
/-- The least prediction of a list. -/
def bestI (A : List Int) : Int × Int × Int := lowI (nuA A, nuB A, detI A)
theorem best_nrm {A : List Int} (hd : detI A ≠ 0) : Nrm A (bestI A).1 (bestI A).2.1 (bestI A).2.2 := by
  have h0 : 0 < detI A := by have := det_nonneg A; omega
  obtain ⟨h1, h2, h3⟩ := low_parts (q := (nuA A, nuB A, detI A)) h0
  have g := (gcd3_bd (p := (nuA A, nuB A, detI A)) h0).1
  refine nrm_part (g := ((gcd3 (nuA A, nuB A, detI A) : Nat) : Int)) (by omega) ?_
  have n0 := nrm_0 hd
  have h1 : nuA A = _ := h1
  have h2 : nuB A = _ := h2
  have h3 : detI A = _ := h3
  unfold bestI
  rw [← h1, ← h2, ← h3]
  exact n0
theorem ag_zero {A : List Int} {p : Int × Int × Int} (n : Nrm A p.1 p.2.1 p.2.2) : agI A p 1 = 0 ∧ agI A p 2 = 0 := by
  unfold agI
  have h1 := n.a
  have h2 := n.b
  rw [smI_comm A 2 1]
  omega
theorem ag_err (A : List Int) (p : Int × Int × Int) : agI A p 0 = errI A p.1 p.2.1 p.2.2 := by
  unfold agI errI
  rw [smI_comm A 1 0, smI_comm A 2 0]
theorem best_ok {l : List Nat} (o : FitOk l) (hd : detI (l.map gridN) ≠ 0) : triB (bestI (l.map gridN)) ∧ cpE l (bestI (l.map gridN)) = 0 ∧ cfE (bestI (l.map gridN)) = 0 := by
  have hl : (l.map gridN).length ≤ 32 := by rw [List.length_map]; exact o.l2
  have hp := pred_tri o.r hl hd
  have hb : triB (bestI (l.map gridN)) := lowI_bd hp
  have h0 : 0 < detI (l.map gridN) := hp.2.2.1
  have hg : gcd3 (bestI (l.map gridN)) = 1 := gcd3_low h0
  obtain ⟨z1, z2⟩ := ag_zero (best_nrm hd)
  have hdl := det_le o.r hl
  have h3 : (bestI (l.map gridN)).2.2 ≤ detI (l.map gridN) := by
    have e : detI (l.map gridN) = ((gcd3 (nuA (l.map gridN), nuB (l.map gridN), detI (l.map gridN)) : Nat) : Int) * (bestI (l.map gridN)).2.2 := (low_parts (q := (nuA (l.map gridN), nuB (l.map gridN), detI (l.map gridN))) h0).2.2
    have g := (gcd3_bd (p := (nuA (l.map gridN), nuB (l.map gridN), detI (l.map gridN))) h0).1
    have := Int.mul_le_mul_of_nonneg_right g (show 0 ≤ (bestI (l.map gridN)).2.2 by have := hb.2.2.1; omega)
    omega
  obtain ⟨p, hpe⟩ : ∃ p, p = bestI (l.map gridN) := ⟨_, rfl⟩
  rw [← hpe] at hb hg z1 z2 h3 ⊢
  obtain ⟨b1, b2, b3, b4⟩ := id hb
  have r1 : rngN p.1 = 0 := rangeS_z.2 ⟨by omega, by omega⟩
  have r2 : rngN p.2.1 = 0 := rangeS_z.2 ⟨by omega, by omega⟩
  have r3 : rangeS p.2.2 1 274877906944 = 0 := rangeS_z.2 ⟨by omega, by omega⟩
  have dg : decide (gcd3 p ≠ 1) = false := decide_eq_false fun z => z hg
  refine ⟨hb, ?_, ?_⟩
  · have c4 : cp4 l p = 0 := by unfold cp4; rw [fitE_ok o, r1, r2, r3]; rfl
    rw [cpE, if_pos c4, cp2, dg, z1, z2]; rfl
  · have c3 : rg3 p = 0 := by unfold rg3; rw [r1, r2, r3]; rfl
    rw [cfE, if_pos c3, dg]; rfl
/-- NO OTHER PREDICTION HAS A LESSER ERROR. -/
theorem not_less {A : List Int} (hd : detI A ≠ 0) (a b : Int) {dn : Int} : decide (othI A a b dn * (ratI (agI A (bestI A) 0) (bestI A).2.2).2 < (ratI (agI A (bestI A) 0) (bestI A).2.2).1 * (dn * dn)) = false := by
  refine decide_eq_false ?_
  have n := best_nrm hd
  have h := err_least n a b dn
  rw [ag_err]
  obtain ⟨E, hE⟩ : ∃ E, E = errI A (bestI A).1 (bestI A).2.1 (bestI A).2.2 := ⟨_, rfl⟩
  obtain ⟨D, hD⟩ : ∃ D, D = (bestI A).2.2 := ⟨_, rfl⟩
  have hD0 : 0 < D := by rw [hD]; exact n.d
  rw [← hE, ← hD] at h ⊢
  have g := (gcd_le (n := E) hD0).1
  have e1 : E = ((Int.gcd E D : Nat) : Int) * (ratI E D).1 := (Int.mul_tdiv_cancel' (Int.gcd_dvd_left ..)).symm
  have e2 : D = ((Int.gcd E D : Nat) : Int) * (ratI E D).2 := (Int.mul_tdiv_cancel' (Int.gcd_dvd_right ..)).symm
  obtain ⟨G, hG⟩ : ∃ G : Int, G = ((Int.gcd E D : Nat) : Int) := ⟨_, rfl⟩
  rw [← hG] at e1 e2 g
  generalize (ratI E D).1 = u at *
  generalize (ratI E D).2 = v at *
  intro hlt
  rw [e1, e2] at h
  have h2 : G * (dn * dn * u) ≤ G * (v * othI A a b dn) := by
    have q1 : dn * dn * (G * u) = G * (dn * dn * u) := by grind
    have q2 : G * v * othI A a b dn = G * (v * othI A a b dn) := by grind
    rw [← q1, ← q2]; exact h
  have h3 := Int.le_of_mul_le_mul_left h2 (by omega)
  have q3 : u * (dn * dn) = dn * dn * u := by grind
  have q4 : othI A a b dn * v = v * othI A a b dn := by grind
  omega
set_option maxRecDepth 10000
attribute [local irreducible] WP WC WE WB WR WF WL WG WRg WQ
section
variable {P : Program} (T : Tbl P) {h : AHeap}
include T
set_option maxHeartbeats 4000000 in
theorem r74 {a b c d : Int} (ha : 0 ≤ a ∧ a < 2 ^ 62) (hb : 0 < b ∧ b < 2 ^ 62) (hc : 0 ≤ c ∧ c < 2 ^ 62) (hd : 0 < d ∧ d < 2 ^ 62) : RCall P 74 [.int .i64 a, .int .i64 b, .int .i64 c, .int .i64 d] h (fun v _ => v = .bool (decide (a * d < c * b))) := by
  refine .st4 45 T.mix T.c74 ?_;intro ts hlen t0 t1 t2 t3;unfold fn74
  obtain ⟨R, hR⟩ : ∃ R, R = decide (a * d < c * b) := ⟨_, rfl⟩
  rw [← hR]
  refine Rs (A4 @t0 @t1 @t2 @t3) ?_
  refine WL.inv T.mix (fun n ts K => ∃ a b c d : Int, (0 ≤ a ∧ a < 2 ^ 62) ∧ (0 < b ∧ b < 2 ^ 62) ∧ (0 ≤ c ∧ c < 2 ^ 62) ∧ (0 < d ∧ d < 2 ^ 62) ∧ n = (b + d).toNat ∧ K = h ∧ R = decide (a * d < c * b) ∧ ts.length = 45 ∧ slot ts 0 = .int .i64 a ∧ slot ts 1 = .int .i64 b ∧ slot ts 2 = .int .i64 c ∧ slot ts 3 = .int .i64 d) (b + d).toNat
    ⟨a, b, c, d, ha, hb, hc, hd, rfl, rfl, hR, Sn, (Sq @t0), (Sq @t1), (Sq @t2), (Sq @t3)⟩ ?_
  clear hlen t0 t1 t2 t3 hR ha hb hc hd
  clear a b c d
  rintro _ ts K ⟨a, b, c, d, ha, hb, hc, hd, rfl, rfl, hR, hlen, t0, t1, t2, t3⟩
  obtain ⟨e1, e2, e3, e4⟩ := lessS_eq ha.1 hc.1 hb.1 hd.1
  have q1 := Int.ediv_nonneg ha.1 (show 0 ≤ b by omega)
  have q2 := Int.ediv_nonneg hc.1 (show 0 ≤ d by omega)
  have q3 := Int.ediv_le_self b ha.1
  have q4 := Int.ediv_le_self d hc.1
  have m1 := Int.emod_nonneg a (show b ≠ 0 by omega)
  have m2 := Int.emod_lt_of_pos a hb.1
  have m3 := Int.emod_nonneg c (show d ≠ 0 by omega)
  have m4 := Int.emod_lt_of_pos c hd.1
  have b1 : binK .quo (.int .i64 a) (.int .i64 b) = some (.int .i64 (a / b)) := by rw [bin_quo (by omega), e1, wrap_in (by omega) (by omega)]
  have b2 : binK .quo (.int .i64 c) (.int .i64 d) = some (.int .i64 (c / d)) := by rw [bin_quo (by omega), e2, wrap_in (by omega) (by omega)]
  have b3 : binK .rem (.int .i64 a) (.int .i64 b) = some (.int .i64 (a % b)) := by rw [bin_rem (by omega), e3]
  have b4 : binK .rem (.int .i64 c) (.int .i64 d) = some (.int .i64 (c % d)) := by rw [bin_rem (by omega), e4]
  by_cases hne : a / b = c / d
  case neg =>
    have d1 : decide (a / b ≠ c / d) = true := decide_eq_true hne
    rw [less_ne hb.1 hd.1 hne] at hR
    refine Rs (A7 @t0 @t1 @t2 @t3 @b1 @b2 @d1) ?_
    rw [hR]
  have d1 : decide (a / b ≠ c / d) = false := decide_eq_false fun z => z hne
  rw [less_eq hne] at hR
  by_cases hx : a % b = 0
  · have d2 : decide (a % b = 0) = true := decide_eq_true hx
    rw [less_z m1 m3 hb.1 hd.1 (.inl hx), d2, Bool.true_and] at hR
    refine Rs (A10 @t0 @t1 @t2 @t3 @b1 @b2 @d1 @b3 @b4 @d2) ?_
    rw [hR]
  have d2 : decide (a % b = 0) = false := decide_eq_false hx
  by_cases hy : c % d = 0
  · have d3 : decide (c % d = 0) = true := decide_eq_true hy
    rw [less_z m1 m3 hb.1 hd.1 (.inr hy), d2, Bool.false_and] at hR
    refine Rs (A11 @t0 @t1 @t2 @t3 @b1 @b2 @d1 @b3 @b4 @d2 @d3) ?_
    rw [hR]
  have d3 : decide (c % d = 0) = false := decide_eq_false hy
  refine Rs (A11 @t0 @t1 @t2 @t3 @b1 @b2 @d1 @b3 @b4 @d2 @d3) ?_
  exact ⟨(c % d + a % b).toNat, by omega, d, c % d, b, a % b, ⟨by omega, hd.2⟩, ⟨by omega, by omega⟩, ⟨by omega, hb.2⟩, ⟨by omega, by omega⟩, rfl, by rw [hR, Int.mul_comm d, Int.mul_comm b], rfl, rfl, rfl, rfl⟩
set_option maxHeartbeats 2000000 in
theorem r76 {s : AV} {A : List Int} (hs : IsSl h s 1 (A.map intRow)) (hl : A.length < 2 ^ 40) (hA : ∀ x ∈ A, -16384 ≤ x ∧ x ≤ 16384) : RCall P 76 [s] h (fun v h' => IsSl h' v 1 ((A.map smpl).map fltR)) := by
  refine .st1 19 T.mix T.c76 ?_;intro ts hlen t0;unfold fn76
  refine Rs (A2 @t0 hs.lenm) ?_
  refine WL.inv T.mix (fun n ts K => ∃ (k : Nat) (t : AV), k ≤ A.length ∧ n = A.length - k ∧ Ext h K ∧ Fr h.length K t 1 (((A.take k).map smpl).map fltR) ∧ ts.length = 19 ∧ slot ts 3 = t ∧ slot ts 6 = s ∧ slot ts 7 = .int .i64 A.length ∧ slot ts 8 = .int .i64 k) A.length
    ⟨0, .nilSlice, by omega, rfl, .refl _, .nil, Sn, Sw, Sw, Sw, Swr⟩ ?_
  clear hlen t0
  rintro _ ts K ⟨k, t, hk, rfl, eK, hfr, hlen, t3, t6, t7, t8⟩
  have hsK := hs.ext eK
  by_cases hlt : k < A.length
  case neg =>
    have e3 := dltF hlt
    have e4 : k = A.length := by omega
    rw [e4, List.take_length] at hfr
    refine Rs (A5 @t3 @t6 @t7 @t8 @e3) ?_
    exact ⟨eK, hfr.isSl⟩
  have e3 := dltT hlt
  have e5 := wrapN (n := k) (by omega)
  have ix := hsK.ixm (kk := .i64) hlt
  have bx := hA A[k] (List.getElem_mem _)
  obtain ⟨x, hx⟩ : ∃ x, x = A[k] := ⟨_, rfl⟩
  have ld : ∀ {kk : AHeap}, Ext K kk → loadF none (elp s 1 k) (fun b => kk[b]?) = some (.int .i64 x, .keep) := fun {kk} e => by rw [hx]; exact hsK.l1m hlt rfl e
  have ot := hfr.isSl.one
  have htk : A.take (k + 1) = A.take k ++ [x] := by rw [hx]; exact List.take_succ_eq_append_getElem hlt
  rw [← hx] at bx
  refine Rs (A8 @t3 @t6 @t7 @t8 @e3 @ix @ld @ot) ?_
  refine WF.ce T.c133 (r133 T bx.1 bx.2) fun g2 => ?_
  have bs : ∀ {N : Nat}, bslF 1 1 (fillA [.flt .f32 0] [(0, 1, .flt .f32 (smpl x))]) N = some (.slice N 0 1 1, .push (.cells [.flt .f32 (smpl x)] true true)) := fun {N} => rfl
  refine Rs (A6 @t3 @t6 @t7 @t8 @ot @bs) ?_
  refine WR.appR (B := h) (cs := ((A.take k).map smpl).map fltR) (z := fltR (smpl x)) (hfr.app _) rfl (eK.trans ⟨g2, rfl⟩) (by decide) (by rw [List.length_map, List.length_map, List.length_take]; omega) ?_
  intro W5 s' x5 hff q5
  have hrow : ((A.take k).map smpl).map fltR ++ [fltR (smpl x)] = ((A.take (k + 1)).map smpl).map fltR := by rw [htk, List.map_append, List.map_append]; rfl
  rw [hrow] at hff
  refine Rs (A6 @t3 @t6 @t7 @t8 @q5 @e5) ?_
  exact ⟨A.length - (k + 1), by omega, k + 1, s', by omega, rfl, x5, hff, rfl, rfl⟩
end
end Go.Abs
namespace Go.Abs

theorem Fr.setb {N : Nat} {h : AHeap} {s : AV} {es : Nat} {cs : List (List AV)} {b : Nat} {X : ABlk} (hs : Fr N h s es cs) (hb : b < N) : Fr N (h.set b X) s es cs := by
  cases hs with
  | nil => exact .nil
  | mk hN h1 he => exact .mk hN (by rw [List.getElem?_set_ne (by omega)]; exact h1) he
set_option maxRecDepth 10000
attribute [local irreducible] WP WC WE WB WR WF WL WG WRg WQ
section
variable {P : Program} (T : Tbl P) {h : AHeap}
include T
end
end Go.Abs
namespace Go.Abs

theorem Fr.swap' {N : Nat} {A B g : AHeap} {s : AV} {es : Nat} {cs : List (List AV)} (hs : Fr N (A ++ g) s es cs) (hA : A.length = N) (hB : B.length = N) : Fr N (B ++ g) s es cs := by
  subst hA; exact hs.swap hB

theorem WF.valg {P : Program} {ro : Option Nat → Prop} {ks : List Kt} {ts : TS} {h h' : AHeap} {Q : Ex → TS → AHeap → Prop} {fv : AV} {args : List AV} {d : Option Nat} {l : List IOp} {v : AV} (H : SCallV P fv args h v h') (K : WP P ro l ks (put ts d v) h' Q) : WF P ro false fv args d l ks ts h Q :=
  ⟨v, h', H, fun hq => absurd hq (by simp), K⟩

set_option maxRecDepth 10000
attribute [local irreducible] WP WC WE WB WR WF WL WG WRg WQ
section
variable {P : Program} (T : Tbl P) {h : AHeap}
include T
end
end Go.Abs
namespace Go.Abs

set_option maxRecDepth 10000
attribute [local irreducible] WP WC WE WB WR WF WL WG WRg WQ
section
variable {P : Program} (T : Tbl P) {h : AHeap}
include T
set_option maxHeartbeats 2000000 in
theorem iter_pairs {ba bb : Nat} {s t : AV} {A B : List Int} (ma : h[ba]? = some (.cells [s] true false)) (mb : h[bb]? = some (.cells [t] true false)) (hs : IsSl h s 1 (A.map intRow)) (ht : IsSl h t 1 (B.map intRow)) (he : A.length = B.length) (hl : A.length < 2 ^ 62) :
    Iter P 185 [] [.ptr ba 0, .ptr bb 0] ((A.zip B).map fun p => [.agg (ratR p)]) (Ext h) := by
  refine ⟨fun l h1 J Dn hpre happ hstep hend h0 => GCall.of T.mix T.c185 ?_⟩
  have e1 := hpre 0 h1 h0
  unfold fn185
  have hlm := fun G => hs.lenm G
  have hz : (A.zip B).length = A.length := by simp [he]
  have l0 : loadF none (.ptr ba 0) (fun z => h1[z]?) = some (s, .keep) := by rw [loadF_at (e1.some ma)]; rfl
  refine Ws (A2 @l0 @hlm) ?_
  refine WL.inv T.mix (fun n ts h' => ∃ k : Nat, k ≤ A.length ∧ n = A.length - k ∧ J k h' ∧ ts.length = 23 ∧ slot ts 0 = .func (.yield l) [] [] ∧ slot ts 2 = .ptr bb 0 ∧ slot ts 6 = s ∧ slot ts 7 = .int .i64 A.length ∧ slot ts 8 = .int .i64 k) A.length
    ⟨0, by omega, rfl, h0, rfl, rfl, rfl, rfl, rfl, rfl⟩ ?_
  rintro _ ts h' ⟨k, hk, rfl, hJ, hlen, t0, t2, t6, t7, t8⟩
  by_cases hlt : k < A.length
  · have e3 : (k : Int) < A.length := by omega
    have e2 := hpre _ _ hJ
    have hlb : k < B.length := by omega
    have l1 := hs.l1m hlt rfl e2
    have hix := hs.ixm (kk := .i64) hlt
    have l2 := ht.l1m hlb rfl e2
    have hiy := ht.ixm (kk := .i64) hlb
    have lb : loadF none (.ptr bb 0) (fun z => h'[z]?) = some (t, .keep) := by rw [loadF_at (e2.some mb)]; rfl
    have hwk := wrapN (show k + 1 < 2 ^ 63 by omega)
    have bd : buildF (fillA [.int .i64 0, .int .i64 0] [(0, 1, .int .i64 A[k]), (1, 1, .int .i64 B[k])]) = some (.agg (ratR (A[k], B[k]))) := rfl
    refine Rs (A13 @t0 @t2 @t6 @t7 @t8 @e3 @decide_true @hix @l1 @lb @hiy @l2 @bd) ?_
    obtain ⟨b', k', q1, q2⟩ := hstep k (by rw [List.length_map, hz]; exact hlt) h' hJ
    rw [List.getElem_map, List.getElem_zip] at q1
    refine WF.valg q1 ?_
    cases b' with
    | true =>
      refine Rs (A7 @t0 @t2 @t6 @t7 @t8 @Bool.not_true @hwk) ?_
      exact ⟨_, by omega, k + 1, by omega, rfl, q2, rfl⟩
    | false =>
      refine Rs (A6 @t0 @t2 @t6 @t7 @t8 @Bool.not_false) ?_
      exact q2
  · have e3 : ¬ (k : Int) < A.length := by omega
    have e4 : k = A.length := by omega
    refine Rs (A7 @t0 @t2 @t6 @t7 @t8 @e3 @decide_false) ?_
    refine hend h' ?_
    rw [List.length_map, hz, ← e4]; exact hJ
set_option maxHeartbeats 1000000 in
theorem r126 {s t : AV} {A B : List Int} (hs : IsSl h s 1 (A.map intRow)) (ht : IsSl h t 1 (B.map intRow)) : RCall P 126 [s, t] h (fun v h' => ∃ ba bb, v = .func (.func 185) [] [.ptr ba 0, .ptr bb 0] ∧ h'[ba]? = some (.cells [s] true false) ∧ h'[bb]? = some (.cells [t] true false)) := by
  refine .of T.mix T.c126 ?_
  unfold fn126
  refine Ws (A2 hs.one ht.one) ?_
  exact ⟨_, _, rfl, at_1, at_new⟩
set_option maxHeartbeats 4000000 in
theorem r184 {ba bb : Nat} {s t : AV} {A B : List Int} (ma : h[ba]? = some (.cells [s] true false)) (mb : h[bb]? = some (.cells [t] true false)) (hs : IsSl h s 1 (A.map intRow)) (ht : IsSl h t 1 (B.map intRow)) (he : A.length = B.length) (hl : A.length ≤ 2 ^ 40) :
    RCall P 184 [.nilSlice, .func (.func 185) [] [.ptr ba 0, .ptr bb 0]] h (fun v h' => Fr h.length h' v 2 ((A.zip B).map ratR)) := by
  refine .of T.mix T.c184 ?_
  unfold fn184
  refine Wn ?_
  obtain ⟨D, hD⟩ : ∃ D, D = A.zip B := ⟨_, rfl⟩
  have hDl : D.length ≤ 2 ^ 40 := by rw [hD, List.length_zip]; omega
  have hI := iter_pairs T ma mb hs ht he (by omega)
  rw [← hD] at hI ⊢
  refine WC.iter T.mix T.c185 (a := []) (c := [.ptr ba 0, .ptr bb 0]) rfl hI (fun y hy => by obtain ⟨z, _, rfl⟩ := List.mem_map.1 hy; rfl)
    (fun i h' g => ∃ out, h' = h ++ [ABlk.cells [out] true false] ∧ Fr (h'.length + 1) (h' ++ [.dead] ++ g) out 2 ((D.take i).map ratR)) (fun _ _ _ => False)
    ⟨.nilSlice, rfl, .nil⟩ (fun i h' g g' hI => ?_) (fun i h' g X hl hI => ?_) (fun i hi h' g R B hl' hI => ?_) (fun e h' g hl hI => ?_)
  · obtain ⟨out, h1, h2⟩ := hI
    exact ⟨out, h1, by rw [← List.append_assoc]; exact h2.app _⟩
  · obtain ⟨out, rfl, _⟩ := hI
    exact Xx
  · obtain ⟨out, rfl, hfr⟩ := hI
    have hi' : i < D.length := by simpa using hi
    rw [List.getElem_map]
    obtain ⟨p, hp⟩ : ∃ p, p = D[i] := ⟨_, rfl⟩
    rw [← hp]
    have st := @rat_st p.1 p.2
    have hrp : ratR p = [.int .i64 p.1, .int .i64 p.2] := rfl
    rw [hrp]
    simp only [wset, hset, dset, bset, Nat.reduceAdd, Nat.reduceMul, Nat.reduceLeDiff, Nat.reduceEqDiff, setArgs, st]
    have hN : ∀ (o' : AV) (X : ABlk), (h ++ [ABlk.cells [o'] true false] ++ [X]).length = (h ++ [ABlk.cells [out] true false]).length + 1 := fun o' X => by simp only [List.length_append, List.length_cons, List.length_nil]
    refine ⟨h ++ [ABlk.cells [out] true false], g ++ [ABlk.cells [AV.int IntKind.i64 p.1, AV.int IntKind.i64 p.2] true false], by simp only [List.append_assoc], by simp, ?_⟩
    have lp : loadF (some 2) (.ptr (List.length (h ++ [ABlk.cells [out] true false] ++ [R] ++ g)) 0) (fun b => (h ++ [ABlk.cells [out] true false] ++ [B] ++ (g ++ [ABlk.cells [AV.int IntKind.i64 p.1, AV.int IntKind.i64 p.2] true false]))[b]?) = some (.agg (ratR p), .keep) := by
      rw [show List.length (h ++ [ABlk.cells [out] true false] ++ [R] ++ g) = List.length (h ++ [ABlk.cells [out] true false] ++ [B] ++ g) by simp, ← List.append_assoc, loadF_at at_new]; rfl
    have hfrB := ((hfr.swap' (hN out .dead) (hN out B)).app [ABlk.cells [AV.int IntKind.i64 p.1, AV.int IntKind.i64 p.2] true false])
    rw [List.append_assoc (h ++ [ABlk.cells [out] true false] ++ [B])] at hfrB
    obtain ⟨G, hG⟩ : ∃ G, G = g ++ [ABlk.cells [AV.int IntKind.i64 p.1, AV.int IntKind.i64 p.2] true false] := ⟨_, rfl⟩
    rw [← hG] at lp hfrB ⊢
    obtain ⟨N5, hN5⟩ : ∃ N5, N5 = List.length (h ++ [ABlk.cells [out] true false] ++ [R] ++ g) := ⟨_, rfl⟩
    rw [← hN5] at lp ⊢
    have bs : ∀ {N : Nat}, bslF 2 1 (fillA [.int .i64 0, .int .i64 0] [(0, 2, .agg (ratR p))]) N = some (.slice N 0 1 2, .push (.cells (ratR p) true true)) := fun {N} => rfl
    refine Ws (A2 @lp @bs) ?_
    refine WR.app1 (h0 := h ++ [ABlk.cells [out] true false] ++ [B]) (cs := (D.take i).map ratR) (ys := [ratR p]) (by rw [hN]; exact hfrB.app _) (Fr.push (N := 0) (Nat.zero_le _) [ratR p] (by simp [ratR])).isSl (by decide) (by simp) (by simp; omega) (by repeat first | exact Ext.refl _ | refine Ext.app _ ?_) ?_
    intro g' hl' hff hkp
    have hrow : (D.take i).map ratR ++ [ratR p] = (D.take (i + 1)).map ratR := by
      rw [List.take_add_one, List.getElem?_eq_getElem hi', List.map_append, hp]; rfl
    rw [hrow, hN] at hff
    rw [hrow]
    refine Wn ?_
    refine ⟨_, g', rfl, by simp only [List.length_append, List.length_cons, List.length_nil], ?_⟩
    refine ⟨_, rfl, ?_⟩
    have e9 : ∀ o', (h ++ [ABlk.cells [o'] true false]).length = (h ++ [ABlk.cells [out] true false]).length := fun o' => by simp only [List.length_append, List.length_cons, List.length_nil]
    rw [e9]
    exact hff.swap' (hN out B) (hN _ .dead)
  · by_cases hen : e = .normal
    · subst hen
      rw [if_pos rfl] at hI
      obtain ⟨out, rfl, hfr⟩ := hI
      rw [List.length_map, List.take_length] at hfr
      refine Wn ?_
      exact hfr.low (by simp; omega)
    · rw [if_neg hen] at hI
      exact hI.elim
set_option maxHeartbeats 1000000 in
theorem r125 {ba bb : Nat} {s t : AV} {A B : List Int} (ma : h[ba]? = some (.cells [s] true false)) (mb : h[bb]? = some (.cells [t] true false)) (hs : IsSl h s 1 (A.map intRow)) (ht : IsSl h t 1 (B.map intRow)) (he : A.length = B.length) (hl : A.length ≤ 2 ^ 40) :
    RCall P 125 [.func (.func 185) [] [.ptr ba 0, .ptr bb 0]] h (fun v h' => Fr h.length h' v 2 ((A.zip B).map ratR)) := by
  refine .of T.mix T.c125 ?_
  unfold fn125
  refine Wn ?_
  refine WF.res T.c184 (r184 T ma mb hs ht he hl) ?_
  intro v g1 hv
  refine Wn ?_
  exact hv
set_option maxHeartbeats 4000000 in
theorem r124 {s : AV} {l : List (Int × Int)} (hs : IsSl h s 2 (l.map ratR)) (hl : l.length < 2 ^ 40) {f : FuncId} {c : List AV} {AF : AFunc} (hA : compileFn P f = some AF) {g : Int × Int → Int} (hf : ∀ x ∈ l, ∀ k, Ext h k → RCall P f (.agg (ratR x) :: c) k (fun v _ => v = .int .i64 (g x))) : RCall P 124 [s, .func (.func f) [] c] h (fun v h' => IsSl h' v 1 ((l.map g).map intRow)) := by
  refine .st2 22 T.mix T.c124 ?_;intro ts hlen t0 t1;unfold fn124
  refine Rs (A3 @t0 @t1 hs.lenm) ?_
  refine WL.inv T.mix (fun n ts K => ∃ (k : Nat) (t : AV), k ≤ l.length ∧ n = l.length - k ∧ Ext h K ∧ Fr h.length K t 1 (((l.take k).map g).map intRow) ∧ ts.length = 22 ∧ slot ts 1 = .func (.func f) [] c ∧ slot ts 5 = t ∧ slot ts 8 = s ∧ slot ts 9 = .int .i64 l.length ∧ slot ts 10 = .int .i64 k) l.length
    ⟨0, .nilSlice, by omega, rfl, .refl _, .nil, Sn, (Sq @t1), Sw, Sw, Sw, Swr⟩ ?_
  clear hlen t0 t1
  rintro _ ts K ⟨k, t, hk, rfl, eK, hfr, hlen, t1, t5, t8, t9, t10⟩
  have hsK := hs.ext eK
  by_cases hlt : k < l.length
  case neg =>
    have e3 := dltF hlt
    have e4 : k = l.length := by omega
    rw [e4, List.take_length] at hfr
    refine Rs (A6 @t1 @t5 @t8 @t9 @t10 @e3) ?_
    exact ⟨eK, hfr.isSl⟩
  have e3 := dltT hlt
  have e5 := wrapN (n := k) (by omega)
  have ix := hsK.ixm (kk := .i64) hlt
  obtain ⟨x, hx⟩ : ∃ x, x = l[k] := ⟨_, rfl⟩
  have ld : ∀ {kk : AHeap}, Ext K kk → loadF (some 2) (elp s 2 k) (fun b => kk[b]?) = some (.agg (ratR x), .keep) := fun {kk} e => by rw [hx]; exact hsK.ldm hlt e
  have hmem : x ∈ l := by rw [hx]; exact List.getElem_mem _
  have ot := hfr.isSl.one
  have htk : l.take (k + 1) = l.take k ++ [x] := by rw [hx]; exact List.take_succ_eq_append_getElem hlt
  have st := @rat_st x.1 x.2
  have hrp : ratR x = [.int .i64 x.1, .int .i64 x.2] := rfl
  have hfx := hf x hmem
  rw [hrp] at ld hfx
  refine Rs (A10 @t1 @t5 @t8 @t9 @t10 @e3 @ix @ld @ot @st) ?_
  refine WF.ce hA (hfx _ (eK.trans Xx)) fun g1 => ?_
  have bs : ∀ {N : Nat}, bslF 1 1 (fillA [.int .i64 0] [(0, 1, .int .i64 (g x))]) N = some (.slice N 0 1 1, .push (.cells [.int .i64 (g x)] true true)) := fun {N} => rfl
  refine Rs (A7 @t1 @t5 @t8 @t9 @t10 @ot @bs) ?_
  refine WR.appR (B := h) (cs := ((l.take k).map g).map intRow) (z := intRow (g x)) ((hfr.app _).app _) rfl (eK.trans (Ext.trans ⟨_, rfl⟩ ⟨_, rfl⟩)) (by decide) (by rw [List.length_map, List.length_map, List.length_take]; omega) ?_
  intro W5 s' x5 hff q5
  have hrow : ((l.take k).map g).map intRow ++ [intRow (g x)] = ((l.take (k + 1)).map g).map intRow := by rw [htk, List.map_append, List.map_append]; rfl
  rw [hrow] at hff
  refine Rs (A7 @t1 @t5 @t8 @t9 @t10 @q5 @e5) ?_
  exact ⟨l.length - (k + 1), by omega, k + 1, s', by omega, rfl, x5, hff, rfl, rfl⟩
end
end Go.Abs
namespace Go.Abs

def SubH (h : AHeap) (bad : Int) (A B : List Int) (t : AV) (r : Int × Int) (e : Int) : Prop :=
  if bad ≠ 0 then t = .nilSlice ∧ r = (0, 0) ∧ e = bad else if dotI B B = 0 then t = .nilSlice ∧ r = (0, 0) ∧ e = 17 else if fitsB (subL A B) = true then IsSl h t 1 (((subL A B).map smpl).map fltR) ∧ r = ratI (dotI A B) (dotI B B) ∧ e = 0 else t = .nilSlice ∧ r = (0, 0) ∧ e = 4
theorem zip_gen {A B : List Int} (he : A.length = B.length) (f : Int × Int → Int) : (A.zip B).map f = genL A.length fun i => f (atZ A i, atZ B i) := by
  refine List.ext_getElem (by simp [genL_len, he]) fun k h1 h2 => ?_
  have hk : k < A.length := by rw [genL_len] at h2; exact h2
  rw [List.getElem_map, List.getElem_zip]
  simp only [genL, List.getElem_map, List.getElem_range]
  rw [atZ_at hk, atZ_at (show k < B.length by omega)]
theorem dot_sq {A : List Int} : ∀ n : Nat, 0 ≤ dotS A A n
  | 0 => Int.le_refl _
  | n + 1 => by
    have h1 := dot_sq (A := A) n
    rw [dotS]
    have : 0 ≤ atZ A n * atZ A n := by
      rcases Int.le_total 0 (atZ A n) with h | h
      · exact Int.mul_nonneg h h
      · exact Int.mul_nonneg_of_nonpos_of_nonpos h h
    omega
theorem dotI_bd {A B : List Int} (hl : A.length ≤ 1024) (hA : ∀ x ∈ A, -32768 ≤ x ∧ x ≤ 32768) (hB : ∀ x ∈ B, -32768 ≤ x ∧ x ≤ 32768) : -2 ^ 40 ≤ dotI A B ∧ dotI A B ≤ 2 ^ 40 := by
  have h := dotS_bd hA hB A.length
  unfold dotI
  omega
theorem zip_mem {A B : List Int} {p : Int × Int} (h : p ∈ A.zip B) : p.1 ∈ A ∧ p.2 ∈ B := ⟨(List.of_mem_zip h).1, (List.of_mem_zip h).2⟩
theorem big_prod {x d : Int} (hx : -16384 ≤ x ∧ x ≤ 16384) (hd : -2 ^ 40 ≤ d ∧ d ≤ 2 ^ 40) : -2 ^ 54 ≤ x * d ∧ x * d ≤ 2 ^ 54 := by
  have e : (x * d).natAbs ≤ 16384 * 2 ^ 40 := by
    rw [Int.natAbs_mul]
    exact Nat.mul_le_mul (by omega) (by omega)
  omega
theorem box_sR {K : AHeap} {b : Nat} {a0 a1 : AV} (m : K[b]? = some (.cells [a0, a1] true false)) {z : Int × Int} : storeF 2 (.ptr b 0) (.agg (ratR z)) (fun y => K[y]?) = some (undefA, .set b (.cells (ratR z) true false)) := box_s m
theorem box_lR {K : AHeap} {b : Nat} {k0 : ABlk} (m : K[b]? = some k0) {z : Int × Int} : loadF (some 2) (.ptr b 0) (fun y => (K.set b (.cells (ratR z) true false))[y]?) = some (.agg (ratR z), .keep) := box_l m
set_option maxRecDepth 10000
attribute [local irreducible] WP WC WE WB WR WF WL WG WRg WQ
section
variable {P : Program} (T : Tbl P) {h : AHeap}
include T
set_option maxHeartbeats 1000000 in
theorem q105 {s : AV} {l : List Int} (hs : IsSl h s 1 (l.map intRow)) (hl : l.length < 2 ^ 40) : RCall P 105 [s] h (fun v h' => ∃ (t : AV) (e : Int), v = .tup [t, .int .i64 e] ∧ if fitsB l = true then Fr h.length h' t 1 ((l.map smpl).map fltR) ∧ e = 0 else t = .nilSlice ∧ e = 4) := by
  refine .st1 8 T.mix T.c105 ?_;intro ts hlen t0;unfold fn105
  refine Rs @t0 ?_
  refine WF.ce T.c180 (r180 T hs hl) fun g1 => ?_
  cases hf : fitsB l with
  | false =>
    refine Rs (A2 @t0 @Bool.not_false) ?_
    exact ⟨.nilSlice, 4, rfl, rfl, rfl⟩
  | true =>
    refine Rs (A2 @t0 @Bool.not_true) ?_
    refine WF.res T.c182 (q182 T (hs.ext Xx) hl T.c144 (g := smpl) (fun x hx k => r144 T (fits_all hf x hx).1 (fits_all hf x hx).2)) ?_
    intro s2 g2 is2
    refine Rs @t0 ?_
    exact ⟨s2, 0, rfl, is2.low (by simp), rfl⟩
set_option maxHeartbeats 2000000 in
theorem r127 {p : Int × Int} {bd bn : Nat} {den num : Int} (md : h[bd]? = some (.cells [.int .i64 den] true false)) (mn : h[bn]? = some (.cells [.int .i64 num] true false)) (h1 : -16384 ≤ p.1 ∧ p.1 ≤ 16384) (h2 : -16384 ≤ p.2 ∧ p.2 ≤ 16384) (hn : -2 ^ 40 ≤ num ∧ num ≤ 2 ^ 40) (hd : 1 ≤ den ∧ den ≤ 2 ^ 40) : RCall P 127 [.agg (ratR p), .ptr bd 0, .ptr bn 0] h (fun v _ => v = .int .i64 (rndI (p.1 * den - num * p.2) den)) := by
  refine .st3 16 T.mix T.c127 ?_;intro ts hlen t0 t1 t2;unfold fn127
  have ld := @ldx _ _ _ md
  have ln := @ldx _ _ _ mn
  have b1 := big_prod h1 ⟨by omega, hd.2⟩
  have b2 := big_prod h2 hn
  have w1 : IntKind.i64.wrap (p.1 * den) = p.1 * den := wrap_in (by omega) (by omega)
  have w2 : IntKind.i64.wrap (p.2 * num) = p.2 * num := wrap_in (by omega) (by omega)
  have w3 : IntKind.i64.wrap (p.1 * den - p.2 * num) = p.1 * den - num * p.2 := by rw [wrap_in (by omega) (by omega), Int.mul_comm p.2]
  have i0 : ∀ {N : Nat}, iadaF 2 1 (.ptr N 0) (.int .i64 0) = some (.ptr N 0) := fun {N} => rfl
  have i1 : ∀ {N : Nat}, iadaF 2 1 (.ptr N 0) (.int .i64 1) = some (.ptr N 1) := fun {N} => rfl
  have r0 : ldB none 0 (.cells (ratR p) true false) = some (.int .i64 p.1, .keep) := rfl
  have r1 : ldB none 1 (.cells (ratR p) true false) = some (.int .i64 p.2, .keep) := rfl
  have r2 : ∀ {z : Int}, ldB none 0 (.cells [.int .i64 z] true false) = some (.int .i64 z, .keep) := fun {z} => rfl
  repeat (first | simp (config := { maxSteps := 1000000 }) only [wset, hset, dset, bset, Nat.reduceAdd, Nat.reduceMul, Nat.reduceLeDiff, Nat.reduceEqDiff, pset, hlen, if_false, if_true, t0, t1, t2, td_box, i0, i1, r0, r1, ld, ln, r2, w1, w2, w3] | simp (config := { maxSteps := 1000000 }) (disch := first | (simp only [List.length_append, List.length_cons, List.length_nil] <;> omega) | rfl | omega | fail) only [kset, wset, hset, dset, bset, Nat.reduceAdd, Nat.reduceMul, Nat.reduceLeDiff, Nat.reduceEqDiff, pset, hlen, if_false, if_true, t0, t1, t2, td_box, i0, i1, r0, r1, ld, ln, r2, w1, w2, w3])
  rw [Int.mul_comm] at b2
  refine WF.ce T.c128 (r128 T (n := p.1 * den - num * p.2) (d := den) ⟨by omega, by omega⟩ hd) fun g1 => ?_
  exact Rs (A3 @t0 @t1 @t2) trivial
set_option maxHeartbeats 4000000 in
theorem r37 {s t : AV} {l m : List Nat} (hs : IsSl h s 1 (l.map fltR)) (ht : IsSl h t 1 (m.map fltR)) (hl : l.length < 2 ^ 40) (hm : m.length < 2 ^ 40) : RCall P 37 [s, t] h (fun v h' => ∃ (u : AV) (r : Int × Int) (e : Int), v = .tup [u, .agg (ratR r), .int .i64 e] ∧ SubH h' (chkP l m) (l.map gridN) (m.map gridN) u r e) := by
  refine .st2 51 T.mix T.c37 ?_;intro ts hlen t0 t1;unfold fn37
  have st := @rat_st 0 0
  refine Rs (A2 @t0 @t1) ?_
  refine WF.ce T.c121 (r121 T (hs.ext Xx) (ht.ext Xx) hl hm) fun g1 => ?_
  by_cases hz : chkP l m = 0
  case neg =>
    have d1 : decide (chkP l m ≠ 0) = true := decide_eq_true hz
    refine Rs (A4 @t0 @t1 @d1 @st) ?_
    exact ⟨.nilSlice, (0, 0), _, rfl, by unfold SubH; rw [if_pos hz]; exact ⟨rfl, rfl, rfl⟩⟩
  have d1 : decide (chkP l m ≠ 0) = false := decide_eq_false fun z => z hz
  obtain ⟨⟨q1, q2⟩, q3, q4⟩ := chkP_z hz
  refine Rs (A3 @t0 @t1 @d1) ?_
  refine WF.res T.c107 (r107 T (hs.ext Xx) hl T.c108 (g := gridN) (fun x hx k => r108 T (q2 x hx))) ?_
  intro s7 g2 is7
  refine Rs (A2 @t0 @t1) ?_
  refine WF.res T.c107 (r107 T (ht.ext Xx) hm T.c108 (g := gridN) (fun x hx k => r108 T (q3 x hx))) ?_
  intro s8 g3 is8
  obtain ⟨A, hA⟩ : ∃ A, A = l.map gridN := ⟨_, rfl⟩
  obtain ⟨B, hB⟩ : ∃ B, B = m.map gridN := ⟨_, rfl⟩
  have hAl : A.length = l.length := by rw [hA]; simp
  have hBl : B.length = m.length := by rw [hB]; simp
  have bA := grid_all q2
  have bB := grid_all q3
  rw [← hA] at is7 bA ⊢
  rw [← hB] at is8 bB ⊢
  refine Rs (A2 @t0 @t1) ?_
  refine WF.ce T.c123 (r123 T (is8.ext Xx) (by omega) (wide bB)) fun g4 => ?_
  have eb := dotI_bd (A := B) (by omega) (wide bB) (wide bB)
  have en : 0 ≤ dotI B B := dot_sq _
  obtain ⟨den, hden⟩ : ∃ den, den = dotI B B := ⟨_, rfl⟩
  obtain ⟨B0, hB0⟩ : ∃ B0, B0 = h ++ [ABlk.cells [AV.int IntKind.i64 0, AV.int IntKind.i64 0] true false] ++ g1 ++ g2 ++ g3 ++ g4 := ⟨_, rfl⟩
  have eB0 : Ext (h ++ [ABlk.cells [AV.int IntKind.i64 0, AV.int IntKind.i64 0] true false]) B0 := by rw [hB0]; exact Xx
  have is7 := is7.ext (show Ext _ B0 by rw [hB0]; exact Xx)
  have is8 := is8.ext (show Ext _ B0 by rw [hB0]; exact Xx)
  have hSub : ∀ {k : AHeap} {u : AV} {r : Int × Int} {e : Int}, (if den = 0 then u = .nilSlice ∧ r = (0, 0) ∧ e = 17 else if fitsB (subL A B) = true then IsSl k u 1 (((subL A B).map smpl).map fltR) ∧ r = ratI (dotI A B) den ∧ e = 0 else u = .nilSlice ∧ r = (0, 0) ∧ e = 4) → SubH k (chkP l m) A B u r e := fun x => by unfold SubH; rw [if_neg (fun z => z hz), ← hden]; exact x
  have ed : 0 ≤ den ∧ den ≤ 2 ^ 40 := by rw [hden]; omega
  rw [← hB0, ← hden]
  have bi : ∀ {n : Int} {N : Nat}, boxF (.int .i64 n) N = some (.ptr N 0, .push (.cells [.int .i64 n] true false)) := fun {n N} => rfl
  have i1 : ∀ {z y : Int} {b : Nat}, stB 1 0 (.int .i64 z) b (.cells [.int .i64 y] true false) = some (undefA, .set b (.cells [.int .i64 z] true false)) := fun {z y b} => rfl
  have r2 : ∀ {z : Int}, ldB none 0 (.cells [.int .i64 z] true false) = some (.int .i64 z, .keep) := fun {z} => rfl
  by_cases hE : den = 0
  · have d2 : decide (den = 0) = true := decide_eq_true hE
    have mz := (eB0.trans (show Ext B0 (B0 ++ [ABlk.cells [AV.int IntKind.i64 den] true false]) from ⟨_, rfl⟩)).some at_new
    have s3 := @box_s _ _ _ _ mz 0 0
    have l3 := @box_l _ _ _ mz 0 0
    refine Rs (A8 @t0 @t1 @bi @i1 @r2 @d2 @s3 @l3) ?_
    exact ⟨ext_set (eB0.trans ⟨_, rfl⟩), .nilSlice, (0, 0), 17, rfl, hSub (by rw [if_pos hE]; exact ⟨rfl, rfl, rfl⟩)⟩
  have d2 : decide (den = 0) = false := decide_eq_false hE
  refine Rs (A6 @t0 @t1 @bi @i1 @r2 @d2) ?_
  refine WF.ce T.c122 (r122 T (is7.ext Xx) (is8.ext Xx) (by omega) (by omega) (wide bA) (wide bB)) fun g5 => ?_
  have eb2 := dotI_bd (B := B) (by omega) (wide bA) (wide bB)
  obtain ⟨num, hnum⟩ : ∃ num, num = dotI A B := ⟨_, rfl⟩
  rw [← hnum] at eb2 ⊢
  refine Rs (A4 @t0 @t1 @bi @i1) ?_
  obtain ⟨B2, hB2⟩ : ∃ B2, B2 = B0 ++ [ABlk.cells [AV.int IntKind.i64 den] true false] ++ g5 ++ [ABlk.cells [AV.int IntKind.i64 num] true false] := ⟨_, rfl⟩
  obtain ⟨bd, hbd⟩ : ∃ bd, bd = B0.length := ⟨_, rfl⟩
  obtain ⟨bn, hbn⟩ : ∃ bn, bn = (B0 ++ [ABlk.cells [AV.int IntKind.i64 den] true false] ++ g5).length := ⟨_, rfl⟩
  have md : B2[bd]? = some (.cells [.int .i64 den] true false) := by rw [hB2, hbd]; exact at_2
  have mn : B2[bn]? = some (.cells [.int .i64 num] true false) := by rw [hB2, hbn]; exact at_new
  have eB2 : Ext B0 B2 := by rw [hB2]; exact Xx
  rw [← hB2, ← hbd, ← hbn]
  clear hB2
  have is7 := is7.ext eB2
  have is8 := is8.ext eB2
  refine WF.res T.c126 (r126 T is7 is8) ?_
  rintro _ g6 ⟨ba, bb, rfl, ma, mb⟩
  refine Rs (A2 @t0 @t1) ?_
  refine WF.res T.c125 (r125 T ma mb (is7.ext Xx) (is8.ext Xx) (by omega) (by omega)) ?_
  intro s9 g7 fr9
  refine Rs (A2 @t0 @t1) ?_
  refine WF.res T.c124 (r124 T (c := [.ptr bd 0, .ptr bn 0]) fr9.isSl (by rw [List.length_zip]; omega) T.c127 (g := fun p => rndI (p.1 * den - num * p.2) den) (fun x hx k ek => r127 T ((Ext.trans Xx ek).some md) ((Ext.trans Xx ek).some mn) (bA _ (zip_mem hx).1) (bB _ (zip_mem hx).2) eb2 ⟨by omega, by omega⟩)) ?_
  intro s10 g8 is10
  have hz2 : (A.zip B).map (fun p => rndI (p.1 * den - num * p.2) den) = subL A B := by rw [zip_gen (by omega), hden, hnum]; rfl
  rw [hz2] at is10
  refine Rs (A2 @t0 @t1) ?_
  refine WF.res T.c105 (q105 T is10 (by rw [subL, genL_len]; omega)) ?_
  rintro _ g9 ⟨u, e, rfl, hu⟩
  have nl : h.length < (B2 ++ g6 ++ g7 ++ g8).length := by
    have := (eB0.trans eB2).len
    simp only [List.length_append, List.length_cons, List.length_nil] at this ⊢
    omega
  obtain ⟨Y, hY⟩ : ∃ Y, Y = B2 ++ g6 ++ g7 ++ g8 ++ g9 := ⟨_, rfl⟩
  have e2Y : Ext B2 Y := by rw [hY]; exact Xx
  have eY : Ext (h ++ [ABlk.cells [AV.int IntKind.i64 0, AV.int IntKind.i64 0] true false]) Y := eB0.trans (eB2.trans e2Y)
  rw [← hY] at hu ⊢
  have mz := eY.some at_new
  have ld := @ldx _ _ _ (e2Y.some md)
  have ln := @ldx _ _ _ (e2Y.some mn)
  by_cases hf : fitsB (subL A B) = true
  case neg =>
    rw [if_neg hf] at hu
    obtain ⟨rfl, rfl⟩ := hu
    have d3 : decide ((4 : Int) ≠ 0) = true := rfl
    have s3 := @box_s _ _ _ _ mz 0 0
    have l3 := @box_l _ _ _ mz 0 0
    refine Rs (A5 @t0 @t1 @d3 @s3 @l3) ?_
    exact ⟨ext_set eY, .nilSlice, (0, 0), 4, rfl, hSub (by rw [if_neg hE, if_neg hf]; exact ⟨rfl, rfl, rfl⟩)⟩
  rw [if_pos hf] at hu
  obtain ⟨hu, rfl⟩ := hu
  have d3 : decide ((0 : Int) ≠ 0) = false := rfl
  have ou := hu.isSl.one
  repeat (first | simp (config := { maxSteps := 1000000 }) only [wset, hset, dset, bset, Nat.reduceAdd, Nat.reduceMul, Nat.reduceLeDiff, Nat.reduceEqDiff, pset, hlen, if_false, if_true, t0, t1, d3, ou, ld, ln, r2] | simp (config := { maxSteps := 1000000 }) (disch := first | (simp only [List.length_append, List.length_cons, List.length_nil] <;> omega) | rfl | omega | fail) only [kset, wset, hset, dset, bset, Nat.reduceAdd, Nat.reduceMul, Nat.reduceLeDiff, Nat.reduceEqDiff, pset, hlen, if_false, if_true, t0, t1, d3, ou, ld, ln, r2])
  refine WF.ce T.c129 (r129 T _ _ (by omega) (by omega) (by omega)) fun g10 => ?_
  have eY2 := eY.trans (show Ext Y (Y ++ g10) from ⟨_, rfl⟩)
  have hu2 := hu.app g10
  obtain ⟨Z, hZ⟩ : ∃ Z, Z = Y ++ g10 := ⟨_, rfl⟩
  rw [← hZ] at eY2 hu2 ⊢
  have mz2 := eY2.some at_new
  have s3 := @box_sR _ _ _ _ mz2 (ratI num den)
  have l3 := @box_lR _ _ _ mz2 (ratI num den)
  refine Rs (A5 @t0 @t1 @ou @s3 @l3) ?_
  refine ⟨ext_set eY2, u, ratI num den, 0, rfl, hSub ?_⟩
  rw [if_neg hE, if_pos hf, ← hnum]
  exact ⟨(hu2.setb nl).isSl, rfl, rfl⟩
end
end Go.Abs
namespace Go.Abs
theorem st_R {z : Int × Int} {b : Nat} {a0 a1 : AV} : stB 2 0 (.agg (ratR z)) b (.cells [a0, a1] true false) = some (undefA, .set b (.cells (ratR z) true false)) := rat_st
theorem sq_ge (b : Int) : b ≤ b * b ∧ -b ≤ b * b := by
  rcases Int.le_total 0 b with h | h
  · by_cases h0 : b = 0
    · subst h0; simp
    · have := Int.mul_le_mul_of_nonneg_left (show 1 ≤ b by omega) h
      rw [Int.mul_one] at this
      omega
  · by_cases h0 : b = 0
    · subst h0; simp
    · have e : b * b = -b * -b := by rw [Int.neg_mul_neg]
      have := Int.mul_le_mul_of_nonneg_left (show 1 ≤ -b by omega) (show 0 ≤ -b by omega)
      rw [Int.mul_one, ← e] at this
      omega
theorem abs_prod {a b C : Int} (ha : -C ≤ a ∧ a ≤ C) : -(C * (b * b)) ≤ a * b ∧ a * b ≤ C * (b * b) := by
  have hC : 0 ≤ C := by omega
  have s := sq_ge b
  rcases Int.le_total 0 b with h | h
  · have p1 := Int.mul_le_mul_of_nonneg_right ha.1 h
    have p2 := Int.mul_le_mul_of_nonneg_right ha.2 h
    have p3 := Int.mul_le_mul_of_nonneg_left s.1 hC
    rw [Int.neg_mul] at p1
    omega
  · have p1 := Int.mul_le_mul_of_nonpos_right ha.1 h
    have p2 := Int.mul_le_mul_of_nonpos_right ha.2 h
    have p3 := Int.mul_le_mul_of_nonneg_left s.2 hC
    rw [Int.neg_mul] at p1
    rw [Int.mul_neg] at p3
    omega
theorem dot_abs {A B : List Int} {C : Int} (hC : 0 ≤ C) (hA : ∀ x ∈ A, -C ≤ x ∧ x ≤ C) : ∀ n : Nat, -(C * dotS B B n) ≤ dotS A B n ∧ dotS A B n ≤ C * dotS B B n
  | 0 => by simp [dotS]
  | n + 1 => by
    have h1 := dot_abs (B := B) hC hA n
    have h2 := abs_prod (b := atZ B n) (atZ_lim hC hA n)
    rw [dotS, dotS, Int.mul_add]
    omega
theorem left_fits {A B : List Int} (he : A.length = B.length) (hA : ∀ x ∈ A, -100 ≤ x ∧ x ≤ 100) (hB : ∀ x ∈ B, -100 ≤ x ∧ x ≤ 100) (hE : 0 < dotI B B) : fitsB (subL A B) = true := fits_of fun x hx => by
  obtain ⟨i, _, rfl⟩ := List.mem_map.1 hx
  have a := atZ_lim (by omega) hA i
  have b := atZ_lim (by omega) hB i
  have N := dot_abs (B := B) (C := 100) (by omega) hA A.length
  have hN : dotS A B A.length = dotI A B := rfl
  have hD : dotS B B A.length = dotI B B := by rw [dotI, he]
  rw [hN, hD] at N
  have r := rnd_err (n := atZ A i * dotI B B - dotI A B * atZ B i) hE
  have p1 := Int.mul_le_mul_of_nonneg_right a.1 (Int.le_of_lt hE)
  have p2 := Int.mul_le_mul_of_nonneg_right a.2 (Int.le_of_lt hE)
  have q : -(100 * (100 * dotI B B)) ≤ dotI A B * atZ B i ∧ dotI A B * atZ B i ≤ 100 * (100 * dotI B B) := by
    have h := mul_bd N b
    rw [Int.mul_comm (100 * dotI B B) 100] at h
    exact h
  show -16384 ≤ subF A B i ∧ subF A B i ≤ 16384
  unfold subF
  generalize rndI (atZ A i * dotI B B - dotI A B * atZ B i) (dotI B B) = u at *
  have lo : -10102 * dotI B B ≤ u * dotI B B := by omega
  have hi : u * dotI B B ≤ 10102 * dotI B B := by omega
  have lo := Int.le_of_mul_le_mul_right lo hE
  have hi := Int.le_of_mul_le_mul_right hi hE
  omega
theorem sab_bd {B : List Int} (hB : ∀ x ∈ B, -100 ≤ x ∧ x ≤ 100) : ∀ n : Nat, 0 ≤ sabI B n ∧ sabI B n ≤ n * 100
  | 0 => by simp [sabI]
  | n + 1 => by
    have h := sab_bd hB n
    have b := atZ_lim (by omega) hB n
    rw [sabI, absI]
    omega
theorem ratI_one {k E : Int} (hE : 0 < E) : ratI (k * E) E = (k, 1) := by
  have g : ((Int.gcd (k * E) E : Nat) : Int) = E := by
    have : Int.gcd (k * E) E = E.natAbs := by
      show Nat.gcd (k * E).natAbs E.natAbs = E.natAbs
      rw [Int.natAbs_mul]
      exact Nat.gcd_eq_right (Nat.dvd_mul_left _ _)
    omega
  unfold ratI
  rw [g, Int.mul_tdiv_cancel _ (by omega), Int.tdiv_self (by omega)]
theorem ratI_den {n E : Int} (hE : 0 < E) : 1 ≤ (ratI n E).2 ∧ (ratI n E).2 ≤ E := by
  have g := gcd_le (n := n) hE
  have e : E = ((Int.gcd n E : Nat) : Int) * (ratI n E).2 := (Int.mul_tdiv_cancel' (Int.gcd_dvd_right ..)).symm
  have h0 : 0 < (ratI n E).2 := by
    rcases Int.lt_or_le 0 (ratI n E).2 with h | h
    · exact h
    · have := Int.mul_nonpos_of_nonneg_of_nonpos (show 0 ≤ ((Int.gcd n E : Nat) : Int) by omega) h
      omega
  have := Int.mul_le_mul_of_nonneg_right g.1 (Int.le_of_lt h0)
  omega
/-- A sample of the number 0. -/
theorem smpl_zero : ∃ w, binK .neq (.flt .f32 (smpl 0)) (.flt .f32 0) = some (.bool w) ∧ w = false := by
  have h := smpl_ok (n := 0) (by omega) (by omega)
  obtain ⟨h1, h2, _⟩ := grid_num h.2.1
  refine ⟨_, num_neq h1 num_zero, ?_⟩
  rw [h.2.2, Int.zero_mul] at h2
  exact decide_eq_false fun z => z (by omega)
/-- The sum of the squared differences. -/
theorem oth_sum (A : List Int) (a b dn : Int) : othI A a b dn = sumN (fun i : Nat => (dn * atZ A ((i : Int) + 2) - a * atZ A ((i : Int) + 1) - b * atZ A i) * (dn * atZ A ((i : Int) + 2) - a * atZ A ((i : Int) + 1) - b * atZ A i)) (A.length - 2) := by
  have h := sq_mix A dn (-a) (-b)
  have e : othI A a b dn = dn * dn * smI A 0 0 + -a * -a * smI A 1 1 + -b * -b * smI A 2 2 + 2 * (dn * -a) * smI A 0 1 + 2 * (dn * -b) * smI A 0 2 + 2 * (-a * -b) * smI A 1 2 := by
    unfold othI
    rw [Int.neg_mul_neg, Int.neg_mul_neg, Int.neg_mul_neg]
  rw [e, ← h]
  refine sumN_congr fun i _ => ?_
  rw [show (i : Int) + 2 - ((0 : Nat) : Int) = (i : Int) + 2 by omega, show (i : Int) + 2 - ((1 : Nat) : Int) = (i : Int) + 1 by omega, show (i : Int) + 2 - ((2 : Nat) : Int) = i by omega]
  grind
theorem eq_ratN {p q : Int × Int} : eqvF true (eqvK (.agg [.i, .i]) (.agg (ratR p)) (.agg (ratR q))) = some (.bool (!decide (p = q))) := by
  obtain ⟨a, b⟩ := p
  obtain ⟨a', b'⟩ := q
  rw [eqA rfl rfl]
  unfold ratR
  simp only [eqc_i, eqc_n, andO_s, Bool.and_true, Prod.mk.injEq]
  rw [eqvF_t]
  congr 2
  by_cases h1 : a = a' <;> by_cases h2 : b = b' <;> simp [h1, h2]
def arr4 (a b c d : Int) : List AV := [.int .i8 a, .int .i8 b, .int .i8 c, .int .i8 d]
theorem arr_0 {a b c d : Int} : ldB none 0 (.cells (arr4 a b c d) true false) = some (.int .i8 a, .keep) := rfl
theorem arr_1 {a b c d : Int} : ldB none 1 (.cells (arr4 a b c d) true false) = some (.int .i8 b, .keep) := rfl
theorem arr_2 {a b c d : Int} : ldB none 2 (.cells (arr4 a b c d) true false) = some (.int .i8 c, .keep) := rfl
theorem arr_3 {a b c d : Int} : ldB none 3 (.cells (arr4 a b c d) true false) = some (.int .i8 d, .keep) := rfl
theorem tmod_bd (a : Int) {m : Int} (hm : 0 < m) : -m < a.tmod m ∧ a.tmod m < m := by
  have := tmod_lt (x := a) (y := m) (by omega)
  omega
theorem len4 {nn : List Int} (h : nn.length = 4) : ∃ a b c d, nn = [a, b, c, d] := by
  match nn, h with
  | [a, b, c, d], _ => exact ⟨a, b, c, d, rfl⟩
def leB : ICode := match (fn10).body with
  | .seq _ (.seq _ c) => c
  | c => c
def leC : ICode := match leB with
  | .seq _ (.seq _ (.seq _ (.seq _ (.seq _ c)))) => c
  | c => c
def leD : ICode := match leC with
  | .seq _ (.seq _ (.seq _ (.seq _ (.seq _ (.seq _ c))))) => c
  | c => c
def leE : ICode := match leD with
  | .seq _ (.seq _ (.seq _ c)) => c
  | c => c
set_option maxRecDepth 10000
attribute [local irreducible] WP WC WE WB WR WF WL WG WRg WQ
section
variable {P : Program} (T : Tbl P) {h Y : AHeap} {ts : TS} {s t u18 : AV} {b5 : Nat} {l m : List Nat} {n0 n1 n2 n3 : Int} {B : List Int}
include T
set_option maxHeartbeats 4000000 in
theorem le_E (hlen : ts.length = 314) (t1 : slot ts 1 = t) (t5 : slot ts 5 = .ptr b5 0) (t18 : slot ts 18 = u18) (e0 : Ext h Y) (ht : IsSl Y t 1 (m.map fltR)) (hB : IsSl Y u18 1 (B.map intRow)) (m5 : Y[b5]? = some (.cells (arr4 n0 n1 n2 n3) true false))
    (hBe : B = m.map gridN) (hl : B.length ≤ 24) (hg : ∀ b ∈ m, gridE b = 0) (bB : ∀ x ∈ B, -100 ≤ x ∧ x ≤ 100) (hE : 0 < dotI B B) (h3 : -128 ≤ n3 ∧ n3 ≤ 127) :
    WC P inFn leE [] ts Y (FQ [(6, none)] fun v k => Ext h k ∧ v = .bool true) := by
  unfold leE leD leC leB fn10
  dsimp only
  have hml : m.length = B.length := by rw [hBe]; simp
  have l5 := @ldx _ _ _ m5
  have i3 : ∀ {N : Nat}, iadaF 4 1 (.ptr N 0) (.int .i64 3) = some (.ptr N 3) := fun {N} => rfl
  have w3 : IntKind.i64.wrap n3 = n3 := wrap_in (by omega) (by omega)
  have br := bin_rem (k := .i64) (a := n3) (show (9 : Int) ≠ 0 by omega)
  obtain ⟨k, hk⟩ : ∃ k, k = n3.tmod 9 := ⟨_, rfl⟩
  have kb := tmod_bd n3 (show (0 : Int) < 9 by omega)
  rw [← hk] at br kb
  have hkB : ∀ x ∈ B, -800 ≤ k * x ∧ k * x ≤ 800 := fun x hx => by
    have := mul_bd (x := k) (X := 8) ⟨by omega, by omega⟩ (bB x hx)
    omega
  refine Rs (A9 @t1 @t5 @t18 @l5 @i3 @arr_3 @w3 @br hB.lenm) ?_
  refine WL.inv T.mix (fun n ts K => ∃ (j : Nat) (c : AV), j ≤ B.length ∧ n = B.length - j ∧ Ext Y K ∧ Fr Y.length K c 1 (((B.map (k * ·)).take j).map intRow) ∧ ts.length = 314 ∧ slot ts 1 = t ∧ slot ts 29 = .int .i64 k ∧ slot ts 30 = c ∧ slot ts 268 = u18 ∧ slot ts 269 = .int .i64 B.length ∧ slot ts 270 = .int .i64 j) B.length
    ⟨0, .nilSlice, by omega, rfl, .refl _, .nil, Sn, (Sq @t1), Sw, Sw, Sw, Sw, Swr⟩ ?_
  clear hlen t1 t5 t18 br
  rintro _ ts K ⟨j, c, hj, rfl, eK, hfr, hlen, t1, t29, t30, t268, t269, t270⟩
  have hBK := hB.ext eK
  by_cases hlt : j < B.length
  case pos =>
    have e3 := dltT hlt
    have e5 := wrapN (n := j) (by omega)
    have ix := hBK.ixm (kk := .i64) hlt
    have bx := hkB B[j] (List.getElem_mem _)
    have htk : (B.map (k * ·)).take (j + 1) = (B.map (k * ·)).take j ++ [k * B[j]] := by rw [List.take_succ_eq_append_getElem (by rw [List.length_map]; exact hlt), List.getElem_map]
    obtain ⟨x, hx⟩ : ∃ x, x = B[j] := ⟨_, rfl⟩
    have ld : ∀ {kk : AHeap}, Ext K kk → loadF none (elp u18 1 j) (fun b => kk[b]?) = some (.int .i64 x, .keep) := fun {kk} e => by rw [hx]; exact hBK.l1m hlt rfl e
    rw [← hx] at bx htk
    have ot := hfr.isSl.one
    have w1 : IntKind.i64.wrap (k * x) = k * x := wrap_in (by omega) (by omega)
    have bs : ∀ {N : Nat}, bslF 1 1 (fillA [.int .i64 0] [(0, 1, .int .i64 (k * x))]) N = some (.slice N 0 1 1, .push (.cells [.int .i64 (k * x)] true true)) := fun {N} => rfl
    refine Rs (A12 @t1 @t29 @t30 @t268 @t269 @t270 @e3 @ix @ld @ot @w1 @bs) ?_
    refine WR.appR (B := Y) (cs := ((B.map (k * ·)).take j).map intRow) (z := intRow (k * x)) hfr rfl eK (by decide) (by rw [List.length_map, List.length_take, List.length_map]; omega) ?_
    intro W5 s' x5 hff q5
    have hrow : ((B.map (k * ·)).take j).map intRow ++ [intRow (k * x)] = ((B.map (k * ·)).take (j + 1)).map intRow := by rw [htk, List.map_append]; rfl
    rw [hrow] at hff
    refine Rs (A8 @t1 @t29 @t30 @t268 @t269 @t270 @q5 @e5) ?_
    exact ⟨B.length - (j + 1), by omega, j + 1, s', by omega, rfl, x5, hff, rfl, rfl⟩
  have e3 := dltF hlt
  have e4 : j = B.length := by omega
  have hall : (B.map (k * ·)).take j = B.map (k * ·) := by rw [e4, ← List.length_map (f := (k * ·)), List.take_length]
  rw [hall] at hfr
  obtain ⟨C, hC⟩ : ∃ C, C = B.map (k * ·) := ⟨_, rfl⟩
  have hCl : C.length = B.length := by rw [hC]; simp
  have bC : ∀ x ∈ C, -16384 ≤ x ∧ x ≤ 16384 := fun x hx => by
    rw [hC] at hx
    obtain ⟨y, hy, rfl⟩ := List.mem_map.1 hx
    have := hkB y hy
    omega
  have fC := fits_of bC
  have hnone : subL C B = List.replicate B.length 0 := by rw [hC]; exact left_none k hE
  have hd : dotI C B = k * dotI B B := by rw [hC, dotI, List.length_map, dot_mul k _ (Nat.le_refl _)]; rfl
  rw [← hC] at hfr
  clear hall hC
  have ot := hfr.isSl.one
  refine Rs (A8 @t1 @t29 @t30 @t268 @t269 @t270 @e3 @ot) ?_
  refine WF.res T.c76 (r76 T hfr.isSl (by omega) bC) ?_
  intro a1 g1 is1
  have htK := ht.ext eK
  refine Rs @t1 ?_
  refine WF.res T.c22 (r22 T (htK.ext Xx) (by omega)) ?_
  intro a2 g2 is2
  refine Rs @t1 ?_
  refine WF.res T.c37 (r37 T (is1.ext Xx) is2 (by rw [List.length_map]; omega) (by omega)) ?_
  rintro _ g3 ⟨u, r, e, rfl, hS⟩
  have hck : chkP (C.map smpl) m = 0 := by
    have q1 : chkL (C.map smpl) = 0 := chkL_ok (by rw [List.length_map]; omega) (smpl_all fC).1
    have q2 : chkL m = 0 := chkL_ok (by omega) hg
    unfold chkP
    rw [q1, q2, List.length_map, hCl, hml]
    simp [whenS, firstS]
  rw [(smpl_all fC).2, ← hBe] at hS
  unfold SubH at hS
  have hf0 : fitsB (subL C B) = true := by rw [hnone]; exact fits_of fun x hx => by rw [(List.mem_replicate.1 hx).2]; omega
  rw [if_neg (fun z => z hck), if_neg (by omega), if_pos hf0, hnone, hd, ratI_one hE] at hS
  obtain ⟨hu, rfl, rfl⟩ := hS
  have ou := hu.one
  have bx2 : ∀ {N : Nat}, boxF (.agg [.int .i64 0, .int .i64 0]) N = some (.ptr N 0, .push (.cells (ratR (0, 0)) true false)) := fun {N} => rfl
  have stR : ∀ {b : Nat}, stB 2 0 (.agg (ratR (k, 1))) b (.cells (ratR (0, 0)) true false) = some (undefA, .set b (.cells (ratR (k, 1)) true false)) := fun {b} => st_R
  obtain ⟨X0, hX0⟩ : ∃ X0, X0 = K ++ g1 ++ g2 ++ g3 := ⟨_, rfl⟩
  have eX0 : Ext K X0 := by rw [hX0]; exact Xx
  rw [← hX0] at hu ⊢
  clear is1 is2 hX0
  obtain ⟨U, hU⟩ : ∃ U, U = (List.replicate B.length (0 : Int)).map smpl := ⟨_, rfl⟩
  have hUl : U.length = B.length := by rw [hU]; simp
  have hUz : ∀ x ∈ U, x = smpl 0 := fun x hx => by
    rw [hU] at hx
    obtain ⟨y, hy, rfl⟩ := List.mem_map.1 hx
    rw [(List.mem_replicate.1 hy).2]
  rw [← hU] at hu
  clear hU
  have d0 : decide ((0 : Int) ≠ 0) = false := rfl
  have eq : eqvF true (eqvK (.agg [.i, .i]) (.agg (ratR (k, 1))) (.agg [.int .i64 k, .int .i64 1])) = some (.bool false) := by
    have q := @eq_ratN (k, 1) (k, 1)
    rw [decide_eq_true rfl] at q
    exact q
  have d1 : decide ((U.length : Int) ≠ (m.length : Int)) = false := decide_eq_false fun z => z (by omega)
  have htX := htK.ext eX0
  refine Rs (A11 @t1 @ou @bx2 @stR @d0 @t29 @td_a @eq hu.lenm htX.lenm @d1) ?_
  have eB : Ext Y (X0 ++ [ABlk.cells (ratR (k, 1)) true false]) := (eK.trans eX0).trans ⟨_, rfl⟩
  refine WL.inv T.mix (fun n ts K => ∃ j : Nat, j ≤ U.length ∧ n = U.length - j ∧ K = X0 ++ [ABlk.cells (ratR (k, 1)) true false] ∧ ts.length = 314 ∧ slot ts 305 = u ∧ slot ts 306 = .int .i64 U.length ∧ slot ts 307 = .int .i64 j) U.length
    ⟨0, by omega, rfl, rfl, Sn, Sw, Sw, Swr⟩ ?_
  clear hlen t1 t29 t30 t268 t269 t270
  rintro _ ts K' ⟨j, hj, rfl, rfl, hlen, t305, t306, t307⟩
  have huK := hu.ext (Ext.trans (Ext.refl X0) ⟨[ABlk.cells (ratR (k, 1)) true false], rfl⟩)
  by_cases hlt : j < U.length
  case neg =>
    have e3 := dltF hlt
    refine Rs (A4 @t305 @t306 @t307 @e3) ?_
    exact ⟨e0.trans eB, trivial⟩
  have e3 := dltT hlt
  have e5 := wrapN (n := j) (by omega)
  have ix := huK.ixm (kk := .i64) hlt
  have ld : ∀ {kk : AHeap}, Ext (X0 ++ [ABlk.cells (ratR (k, 1)) true false]) kk → loadF none (elp u 1 j) (fun b => kk[b]?) = some (.flt .f32 (smpl 0), .keep) := fun {kk} e => by
    rw [← hUz U[j] (List.getElem_mem _)]; exact huK.l1m hlt rfl e
  obtain ⟨w, hw, hwf⟩ := smpl_zero
  rw [hwf] at hw
  refine Rs (A8 @t305 @t306 @t307 @e3 @ix @ld @hw @e5) ?_
  exact ⟨U.length - (j + 1), by omega, j + 1, by omega, rfl, rfl⟩
set_option maxHeartbeats 4000000 in
theorem le_D {S : List Int} {u : AV} (hlen : ts.length = 314) (t1 : slot ts 1 = t) (t5 : slot ts 5 = .ptr b5 0) (t18 : slot ts 18 = u18) (t19 : slot ts 19 = .int .i64 (sabI B B.length)) (t23 : slot ts 23 = u) (e0 : Ext h Y) (ht : IsSl Y t 1 (m.map fltR)) (hB : IsSl Y u18 1 (B.map intRow)) (m5 : Y[b5]? = some (.cells (arr4 n0 n1 n2 n3) true false))
    (hu : IsSl Y u 1 ((S.map smpl).map fltR)) (hSl : S.length = B.length) (fS : fitsB S = true) (hsm : -(sabI B B.length) ≤ 2 * dotS S B B.length ∧ 2 * dotS S B B.length ≤ sabI B B.length)
    (hBe : B = m.map gridN) (hl : B.length ≤ 24) (hg : ∀ b ∈ m, gridE b = 0) (bB : ∀ x ∈ B, -100 ≤ x ∧ x ≤ 100) (hE : 0 < dotI B B) (h3 : -128 ≤ n3 ∧ n3 ≤ 127) :
    WC P inFn leD [] ts Y (FQ [(6, none)] fun v k => Ext h k ∧ v = .bool true) := by
  show WC P inFn (.seq _ (.seq _ (.seq _ leE))) _ _ _ _
  have bS := fits_all fS
  obtain ⟨V, hV⟩ : ∃ V, V = S.map smpl := ⟨_, rfl⟩
  have hVl : V.length = B.length := by rw [hV, List.length_map]; exact hSl
  have hVx : ∀ (j : Nat) (q : j < V.length) (q2 : j < S.length), gridE V[j] = 0 ∧ gridN V[j] = S[j] := fun j q q2 => by
    subst hV
    rw [List.getElem_map]
    have b := bS S[j] (List.getElem_mem _)
    exact (smpl_ok b.1 b.2).2
  rw [← hV] at hu
  clear hV
  refine Rs (A6 @t1 @t5 @t18 @t19 @t23 hu.lenm) ?_
  refine WL.inv T.mix (fun n ts K => ∃ j : Nat, j ≤ V.length ∧ n = V.length - j ∧ Ext Y K ∧ ts.length = 314 ∧ slot ts 1 = t ∧ slot ts 5 = .ptr b5 0 ∧ slot ts 18 = u18 ∧ slot ts 19 = .int .i64 (sabI B B.length) ∧ slot ts 26 = .int .i64 (dotS S B j) ∧ slot ts 240 = u ∧ slot ts 241 = .int .i64 V.length ∧ slot ts 242 = .int .i64 j) V.length
    ⟨0, by omega, rfl, .refl _, Sn, (Sq @t1), (Sq @t5), (Sq @t18), (Sq @t19), Swr, Sw, Sw, Swr⟩ ?_
  clear hlen t1 t5 t18 t19 t23
  rintro _ ts K ⟨j, hj, rfl, eK, hlen, t1, t5, t18, t19, t26, t240, t241, t242⟩
  have hBK := hB.ext eK
  have huK := hu.ext eK
  have db := dotS_bd (A := S) (B := B) (wide bS) (fun x hx => by have := bB x hx; omega) j
  by_cases hlt : j < V.length
  case neg =>
    have e3 := dltF hlt
    have e4 : j = B.length := by omega
    rw [e4] at t26 db
    obtain ⟨I, hI⟩ : ∃ I, I = dotS S B B.length := ⟨_, rfl⟩
    rw [← hI] at t26 hsm db
    have w1 : IntKind.i64.wrap (0 - I) = -I := by rw [wrap_in (by omega) (by omega)]; omega
    have mx : foldA max2A (.int .i64 I) [.int .i64 (-I)] = some (.int .i64 (max I (-I))) := mx_2
    have w2 : IntKind.i64.wrap (2 * max I (-I)) = 2 * max I (-I) := wrap_in (by omega) (by omega)
    have d1 : decide (sabI B B.length < 2 * max I (-I)) = false := decide_eq_false (by omega)
    refine Rs (A13 @t1 @t5 @t18 @t19 @t26 @t240 @t241 @t242 @e3 @w1 @mx @w2 @d1) ?_
    exact le_E T (t := t) (u18 := u18) (b5 := b5) (m := m) (B := B) (n0 := n0) (n1 := n1) (n2 := n2) (n3 := n3) Sn (Sq @t1) (Sq @t5) (Sq @t18) (e0.trans eK) (ht.ext eK) hBK (eK.some m5) hBe hl hg bB hE h3
  have e3 := dltT hlt
  have e5 := wrapN (n := j) (by omega)
  have hltB : j < B.length := by omega
  have hltS : j < S.length := by omega
  have ix := huK.ixm (kk := .i64) hlt
  have iy := hBK.ixm (kk := .i64) hltB
  have bx := bS S[j] (List.getElem_mem _)
  have by' := bB B[j] (List.getElem_mem _)
  have ax := atZ_at hltS
  have ay := atZ_at hltB
  obtain ⟨gx, nx⟩ := hVx j hlt hltS
  obtain ⟨x, hx⟩ : ∃ x, x = V[j] := ⟨_, rfl⟩
  obtain ⟨y, hy⟩ : ∃ y, y = B[j] := ⟨_, rfl⟩
  have ld : ∀ {kk : AHeap}, Ext K kk → loadF none (elp u 1 j) (fun b => kk[b]?) = some (.flt .f32 x, .keep) := fun {kk} e => by rw [hx]; exact huK.l1m hlt rfl e
  have le : ∀ {kk : AHeap}, Ext K kk → loadF none (elp u18 1 j) (fun b => kk[b]?) = some (.int .i64 y, .keep) := fun {kk} e => by rw [hy]; exact hBK.l1m hltB rfl e
  rw [← hx] at gx nx
  rw [← hy] at ay by'
  rw [← nx] at ax bx
  have pb := mul_bd (x := gridN x) (y := y) (X := 16384) (Y := 100) bx by'
  have w1 : IntKind.i64.wrap (gridN x * y) = gridN x * y := wrap_in (by omega) (by omega)
  have w2 : IntKind.i64.wrap (dotS S B j + gridN x * y) = dotS S B (j + 1) := by rw [dotS, ax, ay, wrap_in (by omega) (by omega)]
  refine Rs (A11 @t1 @t5 @t18 @t19 @t26 @t240 @t241 @t242 @e3 @ix @ld) ?_
  refine WF.ce T.c64 (r64 T gx) fun g1 => ?_
  refine Rs (A13 @t1 @t5 @t18 @t19 @t26 @t240 @t241 @t242 @iy @le @w1 @w2 @e5) ?_
  exact ⟨V.length - (j + 1), by omega, j + 1, by omega, rfl, eK.trans Xx, rfl, rfl⟩
set_option maxHeartbeats 6000000 in
theorem le_C {A : List Int} (X : Xfl P) (hlen : ts.length = 314) (t0 : slot ts 0 = s) (t1 : slot ts 1 = t) (t5 : slot ts 5 = .ptr b5 0) (e0 : Ext h Y) (hs : IsSl Y s 1 (l.map fltR)) (ht : IsSl Y t 1 (m.map fltR)) (m5 : Y[b5]? = some (.cells (arr4 n0 n1 n2 n3) true false))
    (hAe : A = l.map gridN) (hBe : B = m.map gridN) (he : A.length = B.length) (hl : B.length ≤ 24) (hgA : ∀ b ∈ l, gridE b = 0) (hg : ∀ b ∈ m, gridE b = 0) (bA : ∀ x ∈ A, -100 ≤ x ∧ x ≤ 100) (bB : ∀ x ∈ B, -100 ≤ x ∧ x ≤ 100) (h3 : -128 ≤ n3 ∧ n3 ≤ 127) :
    WC P inFn leC [] ts Y (FQ [(6, none)] fun v k => Ext h k ∧ v = .bool true) := by
  show WC P inFn (.seq _ (.seq _ (.seq _ (.seq _ (.seq _ (.seq _ leD)))))) _ _ _ _
  have hml : m.length = B.length := by rw [hBe]; simp
  have hll : l.length = B.length := by rw [← he, hAe]; simp
  refine Rs (A3 @t0 @t1 @t5) ?_
  refine WF.res T.c29 (r29 T ht (by omega) hg) ?_
  intro u18 g1 hB
  rw [← hBe] at hB
  obtain ⟨W, hW⟩ : ∃ W, W = Y ++ g1 := ⟨_, rfl⟩
  have eW : Ext Y W := by rw [hW]; exact Xx
  rw [← hW] at hB ⊢
  clear hW
  refine Rs (A4 @t0 @t1 @t5 hB.lenm) ?_
  refine WL.inv T.mix (fun n ts K => ∃ j : Nat, j ≤ B.length ∧ n = B.length - j ∧ K = W ∧ ts.length = 314 ∧ slot ts 0 = s ∧ slot ts 1 = t ∧ slot ts 5 = .ptr b5 0 ∧ slot ts 18 = u18 ∧ slot ts 19 = .int .i64 (sabI B j) ∧ slot ts 20 = .int .i64 (dotS B B j) ∧ slot ts 184 = u18 ∧ slot ts 185 = .int .i64 B.length ∧ slot ts 186 = .int .i64 j) B.length
    ⟨0, by omega, rfl, rfl, Sn, (Sq @t0), (Sq @t1), (Sq @t5), Sw, Swr, Swr, Sw, Sw, Swr⟩ ?_
  clear hlen t0 t1 t5
  rintro _ ts K ⟨j, hj, rfl, rfl, hlen, t0, t1, t5, t18, t19, t20, t184, t185, t186⟩
  have wB : ∀ x ∈ B, -32768 ≤ x ∧ x ≤ 32768 := fun x hx => by have := bB x hx; omega
  by_cases hlt : j < B.length
  case pos =>
    have e3 := dltT hlt
    have e5 := wrapN (n := j) (by omega)
    have ix := hB.ixm (kk := .i64) hlt
    have bx := bB B[j] (List.getElem_mem _)
    have ax := atZ_at hlt
    have sb := sab_bd bB j
    have db := dotS_bd wB wB j
    obtain ⟨x, hx⟩ : ∃ x, x = B[j] := ⟨_, rfl⟩
    have ld : ∀ {kk : AHeap}, Ext K kk → loadF none (elp u18 1 j) (fun b => kk[b]?) = some (.int .i64 x, .keep) := fun {kk} e => by rw [hx]; exact hB.l1m hlt rfl e
    rw [← hx] at bx ax
    have pb := mul_bd (x := x) (y := x) (X := 100) (Y := 100) bx bx
    have w1 : IntKind.i64.wrap (0 - x) = -x := by rw [wrap_in (by omega) (by omega)]; omega
    have mx : foldA max2A (.int .i64 x) [.int .i64 (-x)] = some (.int .i64 (max x (-x))) := mx_2
    have w2 : IntKind.i64.wrap (sabI B j + max x (-x)) = sabI B (j + 1) := by rw [sabI, absI, ax, wrap_in (by omega) (by omega)]
    have w3 : IntKind.i64.wrap (x * x) = x * x := wrap_in (by omega) (by omega)
    have w4 : IntKind.i64.wrap (dotS B B j + x * x) = dotS B B (j + 1) := by rw [dotS, ax, wrap_in (by omega) (by omega)]
    refine Rs (A18 @t0 @t1 @t5 @t18 @t19 @t20 @t184 @t185 @t186 @e3 @ix @ld @w1 @mx @w2 @w3 @w4 @e5) ?_
    exact ⟨B.length - (j + 1), by omega, j + 1, by omega, rfl, rfl, rfl, rfl⟩
  have e3 := dltF hlt
  have e4 : j = B.length := by omega
  rw [e4] at t19
  have e6 : dotS B B j = dotI B B := by rw [e4]; rfl
  rw [e6] at t20
  have hs := hs.ext eW
  have ht := ht.ext eW
  refine Rs (A10 @t0 @t1 @t5 @t18 @t19 @t20 @t184 @t185 @t186 @e3) ?_
  refine WF.res T.c22 (r22 T hs (by omega)) ?_
  intro a1 g1 is1
  refine Rs (A2 @t0 @t1) ?_
  refine WF.res T.c22 (r22 T (ht.ext Xx) (by omega)) ?_
  intro a2 g2 is2
  refine Rs (A2 @t0 @t1) ?_
  refine WF.res T.c37 (r37 T (is1.ext Xx) is2 (by omega) (by omega)) ?_
  rintro _ g3 ⟨u, r, e, rfl, hS⟩
  have hck : chkP l m = 0 := by
    have q1 : chkL l = 0 := chkL_ok (by omega) hgA
    have q2 : chkL m = 0 := chkL_ok (by omega) hg
    unfold chkP
    rw [q1, q2, hll, hml]
    simp [whenS, firstS]
  rw [← hAe, ← hBe] at hS
  unfold SubH at hS
  rw [if_neg (fun z => z hck)] at hS
  have bx2 : ∀ {N : Nat}, boxF (.agg [.int .i64 0, .int .i64 0]) N = some (.ptr N 0, .push (.cells (ratR (0, 0)) true false)) := fun {N} => rfl
  have stR : ∀ {b : Nat}, stB 2 0 (.agg (ratR r)) b (.cells (ratR (0, 0)) true false) = some (undefA, .set b (.cells (ratR r) true false)) := fun {b} => st_R
  obtain ⟨X0, hX0⟩ : ∃ X0, X0 = K ++ g1 ++ g2 ++ g3 := ⟨_, rfl⟩
  have eX0 : Ext K X0 := by rw [hX0]; exact Xx
  rw [← hX0] at hS ⊢
  clear is1 is2 hX0
  have en : 0 ≤ dotI B B := dot_sq _
  by_cases hE : dotI B B = 0
  · rw [if_pos hE] at hS
    obtain ⟨rfl, rfl, rfl⟩ := hS
    have d1 : decide (dotI B B = 0) = true := decide_eq_true hE
    refine Rs (A6 @t0 @t1 @bx2 @stR @t20 @d1) ?_
    exact ⟨e0.trans (eW.trans (eX0.trans ⟨_, rfl⟩)), by rw [decide_true]⟩
  have hE0 : 0 < dotI B B := by omega
  have d1 : decide (dotI B B = 0) = false := decide_eq_false hE
  have fS := left_fits he bA bB hE0
  have hsm := left_small he hE0
  have hSl : (subL A B).length = B.length := by rw [subL, genL_len]; exact he
  rw [if_neg hE, if_pos fS] at hS
  obtain ⟨hu, rfl, rfl⟩ := hS
  obtain ⟨S, hS⟩ : ∃ S, S = subL A B := ⟨_, rfl⟩
  rw [← hS] at fS hsm hSl hu
  have hden := ratI_den (n := dotI A B) hE0
  obtain ⟨r, hr⟩ : ∃ r, r = ratI (dotI A B) (dotI B B) := ⟨_, rfl⟩
  rw [← hr] at hden stR ⊢
  clear hr hS
  have ou := hu.one
  have d0 : decide ((0 : Int) ≠ 0) = false := rfl
  have hUl : (S.map smpl).length = l.length := by rw [List.length_map]; omega
  have d2 : decide (((S.map smpl).length : Int) ≠ (l.length : Int)) = false := decide_eq_false fun z => z (by omega)
  have d3 : decide (r.2 < 1) = false := decide_eq_false (by omega)
  have d4 : decide (dotI B B < r.2) = false := decide_eq_false (by omega)
  have hfz : firstS ((S.map smpl).map gridE) = 0 := firstS_nil0 fun x hx => by
    obtain ⟨b, hb, rfl⟩ := List.mem_map.1 hx
    exact (smpl_all fS).1 b hb
  have hsX := hs.ext eX0
  obtain ⟨b24, hb24⟩ : ∃ b24, b24 = X0.length := ⟨_, rfl⟩
  have m24 : (X0 ++ [ABlk.cells (ratR r) true false])[b24]? = some (.cells (ratR r) true false) := by rw [hb24]; exact at_new
  have l24 := @ldx _ _ _ m24
  have eX1 : Ext X0 (X0 ++ [ABlk.cells (ratR r) true false]) := ⟨_, rfl⟩
  have hu1 := hu.ext eX1
  have hs1 := hsX.ext eX1
  refine Rs (A8 @t0 @t1 @ou @bx2 @stR @t20 @d1 @d0) ?_
  rw [← hb24]
  obtain ⟨X1, hX1⟩ : ∃ X1, X1 = X0 ++ [ABlk.cells (ratR r) true false] := ⟨_, rfl⟩
  rw [← hX1] at l24 hu1 hs1 eX1 ⊢
  clear hX1 m24
  refine Rs (A6 @t0 @t1 hu1.lenm hs1.lenm @d2 @d0) ?_
  refine WF.ce T.c75 (r75 T X hu1 (by rw [List.length_map]; omega)) fun g4 => ?_
  rw [hfz]
  refine Rs (A8 @t0 @t1 @d0 @l24 @td_1 @d3 @t20 @d4) ?_
  have eF : Ext K (X1 ++ g4) := (eX0.trans eX1).trans ⟨g4, rfl⟩
  exact le_D T (S := S) (u := u) (t := t) (u18 := u18) (b5 := b5) (m := m) (B := B) (n0 := n0) (n1 := n1) (n2 := n2) (n3 := n3) Sn (Sq @t1) (Sq @t5) (Sq @t18) (Sq @t19) Sw (e0.trans (eW.trans eF)) (ht.ext eF) (hB.ext eF) ((eW.trans eF).some m5) (hu1.ext ⟨g4, rfl⟩) hSl fS hsm hBe hl hg bB hE0 h3
set_option maxHeartbeats 8000000 in
theorem le_B {A : List Int} (X : Xfl P) (hlen : ts.length = 314) (t0 : slot ts 0 = s) (t1 : slot ts 1 = t) (t5 : slot ts 5 = .ptr b5 0) (e0 : Ext h Y) (hs : IsSl Y s 1 (l.map fltR)) (ht : IsSl Y t 1 (m.map fltR)) (m5 : Y[b5]? = some (.cells (arr4 n0 n1 n2 n3) true false))
    (hAe : A = l.map gridN) (hBe : B = m.map gridN) (he : A.length = B.length) (h3A : 3 ≤ A.length) (hl : B.length ≤ 12) (hgA : ∀ b ∈ l, gridE b = 0) (hg : ∀ b ∈ m, gridE b = 0) (bA : ∀ x ∈ A, -100 ≤ x ∧ x ≤ 100) (bB : ∀ x ∈ B, -100 ≤ x ∧ x ≤ 100) (h0 : -128 ≤ n0 ∧ n0 ≤ 127) (h1 : -128 ≤ n1 ∧ n1 ≤ 127) (h2 : -128 ≤ n2 ∧ n2 ≤ 127) (h3 : -128 ≤ n3 ∧ n3 ≤ 127) :
    WC P inFn leB [] ts Y (FQ [(6, none)] fun v k => Ext h k ∧ v = .bool true) := by
  show WC P inFn (.seq _ (.seq _ (.seq _ (.seq _ (.seq _ leC))))) _ _ _ _
  have hll : l.length = A.length := by rw [hAe]; simp
  have ok : FitOk l := ⟨by omega, by omega, hgA, by rw [← hAe]; exact fun x hx => by have := bA x hx; omega⟩
  have bA7 : ∀ x ∈ A, -127 ≤ x ∧ x ≤ 127 := fun x hx => by have := bA x hx; omega
  have bz2 : ∀ {N : Nat}, boxF (.agg [.int .i64 0, .int .i64 0]) N = some (.ptr N 0, .push (.cells (ratR (0, 0)) true false)) := fun {N} => rfl
  have bz : ∀ {N : Nat}, boxF (.agg [.int .i64 0, .int .i64 0, .int .i64 0]) N = some (.ptr N 0, .push (.cells (tri (0, 0, 0)) true false)) := fun {N} => rfl
  have sT : ∀ {n : Nat} {p : Int × Int × Int}, stB 3 0 (.agg (tri p)) n (.cells (tri (0, 0, 0)) true false) = some (undefA, .set n (.cells (tri p) true false)) := fun {n p} => tri_sT
  have sR : ∀ {n : Nat} {z : Int × Int}, stB 2 0 (.agg (ratR z)) n (.cells (ratR (0, 0)) true false) = some (undefA, .set n (.cells (ratR z) true false)) := fun {n z} => st_R
  refine Rs (A3 @t0 @t1 @t5) ?_
  refine WF.res T.c29 (r29 T hs (by omega) hgA) ?_
  intro u7 g1 hA
  rw [← hAe] at hA
  refine Rs (A3 @t0 @t1 @t5) ?_
  refine WF.res T.c22 (r22 T (hs.ext Xx) (by omega)) ?_
  intro a1 g2 is1
  refine Rs (A3 @t0 @t1 @t5) ?_
  refine WF.ce T.c66 (r66 T is1 (by omega)) fun g3 => ?_
  rw [fitE_ok ok, if_pos rfl, if_pos rfl, ← hAe]
  obtain ⟨X0, hX0⟩ : ∃ X0, X0 = Y ++ g1 ++ g2 ++ g3 := ⟨_, rfl⟩
  have eX0 : Ext Y X0 := by rw [hX0]; exact Xx
  have hA := hA.ext (show Ext (Y ++ g1) X0 by rw [hX0]; exact Xx)
  rw [← hX0]
  clear hX0 is1
  obtain ⟨pp, hpp⟩ : ∃ pp, pp = (predR A).1 := ⟨_, rfl⟩
  obtain ⟨e9, h9⟩ : ∃ e9, e9 = (predR A).2 := ⟨_, rfl⟩
  rw [← hpp, ← h9]
  refine Rs (A5 @t0 @t1 @t5 @bz @sT) ?_
  refine WF.res T.c22 (r22 T (hs.ext (eX0.trans Xx)) (by omega)) ?_
  intro a2 g4 is2
  refine Rs (A3 @t0 @t1 @t5) ?_
  refine WF.ce T.c67 (r67 T is2 (by omega)) fun g5 => ?_
  rw [fitE_ok ok, if_pos rfl, if_pos rfl, ← hAe]
  obtain ⟨X1, hX1⟩ : ∃ X1, X1 = X0 ++ [ABlk.cells (tri pp) true false] ++ g4 ++ g5 := ⟨_, rfl⟩
  have eX1 : Ext (X0 ++ [ABlk.cells (tri pp) true false]) X1 := by rw [hX1]; exact Xx
  have e01 : Ext X0 X1 := Ext.trans ⟨_, rfl⟩ eX1
  have m8 := eX1.some at_new
  rw [← hX1]
  clear hX1 is2
  obtain ⟨b8, hb8⟩ : ∃ b8, b8 = X0.length := ⟨_, rfl⟩
  rw [← hb8] at m8 ⊢
  obtain ⟨rr, hrr⟩ : ∃ rr, rr = (errR A).1 := ⟨_, rfl⟩
  obtain ⟨e11, h11⟩ : ∃ e11, e11 = (errR A).2 := ⟨_, rfl⟩
  rw [← hrr, ← h11]
  obtain ⟨b10, hb10⟩ : ∃ b10, b10 = X1.length := ⟨_, rfl⟩
  obtain ⟨Z, hZ⟩ : ∃ Z, Z = X1 ++ [ABlk.cells (ratR rr) true false] := ⟨_, rfl⟩
  have e1Z : Ext X1 Z := by rw [hZ]; exact ⟨_, rfl⟩
  have m10 : Z[b10]? = some (.cells (ratR rr) true false) := by rw [hZ, hb10]; exact at_new
  have m8 := e1Z.some m8
  have eYZ : Ext Y Z := eX0.trans (e01.trans e1Z)
  have hA := hA.ext (e01.trans e1Z)
  have hsZ := hs.ext eYZ
  have htZ := ht.ext eYZ
  by_cases hd : detI A = 0
  · have e1 : e9 = 17 := by rw [h9, predR, if_pos hd]
    have e2 : e11 = 17 := by rw [h11, errR, if_pos hd]
    subst e1 e2
    have d1 : decide ((17 : Int) ≠ 17) = false := rfl
    have d2 : decide ((17 : Int) ≠ 0) = true := rfl
    have d3 : decide ((17 : Int) = 0) = false := rfl
    refine Rs (A8 @t0 @t1 @t5 @bz2 @sR @d1 @d2 @d3) ?_
    rw [← hZ]
    exact le_C T (s := s) (t := t) (b5 := b5) (l := l) (m := m) (A := A) (B := B) (n0 := n0) (n1 := n1) (n2 := n2) (n3 := n3) X Sn (Sq @t0) (Sq @t1) (Sq @t5) (e0.trans eYZ) hsZ htZ (eYZ.some m5) hAe hBe he (by omega) hgA hg bA bB h3
  have e1 : e9 = 0 := by rw [h9, predR, if_neg hd]
  have e2 : e11 = 0 := by rw [h11, errR, if_neg hd]
  have hp : pp = bestI A := by rw [hpp, predR, if_neg hd]; rfl
  have hr : rr = ratI (agI A (bestI A) 0) (bestI A).2.2 := by rw [hrr, errR, if_neg hd]; rfl
  subst e1 e2
  have d1 : decide ((0 : Int) ≠ 0) = false := rfl
  have d3 : decide ((0 : Int) = 0) = true := rfl
  obtain ⟨tb, hcp, hcf⟩ := best_ok ok (by rw [← hAe]; exact hd)
  rw [← hAe, ← hp] at hcp hcf tb
  have nrm := best_nrm hd
  have hD := nrm.d
  rw [← hp] at hr hD
  have rd := ratI_den (n := agI A pp 0) hD
  have ab := agI_bd bA7 (by omega) tb 0
  have gE := gcd_le (n := agI A pp 0) hD
  have q1 := quo_bd gE.1 (n := agI A pp 0) (B := 2 ^ 60) ab
  have en : 0 ≤ agI A pp 0 := by rw [ag_err, hp]; exact err_nonneg nrm
  have rn : 0 ≤ (ratI (agI A pp 0) pp.2.2).1 := by
    show 0 ≤ (agI A pp 0).tdiv _
    exact Int.tdiv_nonneg en (by omega)
  have q1 : (ratI (agI A pp 0) pp.2.2).1 ≤ 2 ^ 60 := q1.2
  have tb4 := tb.2.2.2
  rw [← hr] at rd rn q1
  obtain ⟨a, ha⟩ : ∃ a, a = n0.tmod 21 := ⟨_, rfl⟩
  obtain ⟨b, hb⟩ : ∃ b, b = n1.tmod 21 := ⟨_, rfl⟩
  obtain ⟨c, hc⟩ : ∃ c, c = n2.tmod 20 := ⟨_, rfl⟩
  obtain ⟨c2, hc2⟩ : ∃ c2, c2 = (c + 20).tmod 20 := ⟨_, rfl⟩
  have ba := tmod_bd n0 (show (0 : Int) < 21 by omega)
  have bb := tmod_bd n1 (show (0 : Int) < 21 by omega)
  have bc := tmod_bd n2 (show (0 : Int) < 20 by omega)
  have r0 := bin_rem (k := .i64) (a := n0) (show (21 : Int) ≠ 0 by omega)
  have r1 := bin_rem (k := .i64) (a := n1) (show (21 : Int) ≠ 0 by omega)
  have r2 := bin_rem (k := .i64) (a := n2) (show (20 : Int) ≠ 0 by omega)
  have r3 := bin_rem (k := .i64) (a := c + 20) (show (20 : Int) ≠ 0 by omega)
  rw [← ha] at ba r0
  rw [← hb] at bb r1
  rw [← hc] at bc r2
  rw [← hc2] at r3
  have bc2 : 0 ≤ c2 ∧ c2 < 20 := by
    have := tmod_bd (c + 20) (show (0 : Int) < 20 by omega)
    have := Int.tmod_nonneg 20 (show 0 ≤ c + 20 by omega)
    omega
  clear ha hb hc hc2
  have w0 : IntKind.i64.wrap n0 = n0 := wrap_in (by omega) (by omega)
  have w1 : IntKind.i64.wrap n1 = n1 := wrap_in (by omega) (by omega)
  have w2 : IntKind.i64.wrap n2 = n2 := wrap_in (by omega) (by omega)
  have w3 : IntKind.i64.wrap (c + 20) = c + 20 := wrap_in (by omega) (by omega)
  have w4 : IntKind.i64.wrap (1 + c2) = 1 + c2 := wrap_in (by omega) (by omega)
  have i0 : ∀ {N : Nat}, iadaF 4 1 (.ptr N 0) (.int .i64 0) = some (.ptr N 0) := fun {N} => rfl
  have i1 : ∀ {N : Nat}, iadaF 4 1 (.ptr N 0) (.int .i64 1) = some (.ptr N 1) := fun {N} => rfl
  have i2 : ∀ {N : Nat}, iadaF 4 1 (.ptr N 0) (.int .i64 2) = some (.ptr N 2) := fun {N} => rfl
  have m5Z := eYZ.some m5
  have l5 := @ldx _ _ _ m5Z
  have l8 := @ldx _ _ _ m8
  have l10 := @ldx _ _ _ m10
  rw [hZ] at l5 l8 l10
  refine Rs (A23 @t0 @t1 @t5 @bz2 @sR @d1 @decide_true @l5 @i0 @i1 @i2 @arr_0 @arr_1 @arr_2 @w0 @w1 @w2 @w3 @w4 @r0 @r1 @r2 @r3) ?_
  rw [← hb10]
  rw [← hZ] at l5 l8 l10 ⊢
  obtain ⟨dn, hdn⟩ : ∃ dn, dn = 1 + c2 := ⟨_, rfl⟩
  have bdn : 1 ≤ dn ∧ dn ≤ 20 := by omega
  rw [← hdn]
  refine WF.res T.c22 (r22 T hsZ (by omega)) ?_
  intro a3 g6 is3
  refine Rs (A5 @t0 @t1 @t5 @l8 @tri_a) ?_
  refine WF.ce T.c73 (r73 T (is3.ext Xx) (by omega) pp) fun g7 => ?_
  rw [hcp]
  refine Rs (A6 @t0 @t1 @t5 @d1 @l8 @tri_a) ?_
  refine WF.ce T.c69 (r69 T pp) fun g8 => ?_
  rw [hcf]
  have c1 : decide (rr.1 < 0) = false := decide_eq_false (by omega)
  have c2' : decide (rr.2 < 1) = false := decide_eq_false (by omega)
  have c3 : decide ((2305843009213693952 : Int) ≤ rr.1) = false := decide_eq_false (by omega)
  have c4 : decide ((2305843009213693952 : Int) ≤ rr.2) = false := decide_eq_false (by omega)
  refine Rs (A11 @t0 @t1 @t5 @d1 @l10 @td_0 @td_1 @c1 @c2' @c3 @c4) ?_
  obtain ⟨U, hU⟩ : ∃ U, U = Z ++ g6 ++ g7 ++ g8 := ⟨_, rfl⟩
  have eU : Ext Z U := by rw [hU]; exact Xx
  rw [← hU]
  clear hU is3
  have hA := hA.ext eU
  have l10 := @ldx _ _ _ (eU.some m10)
  obtain ⟨f, hf⟩ : ∃ f : Nat → Int, f = fun i : Nat => (dn * atZ A ((i : Int) + 2) - a * atZ A ((i : Int) + 1) - b * atZ A i) * (dn * atZ A ((i : Int) + 2) - a * atZ A ((i : Int) + 1) - b * atZ A i) := ⟨_, rfl⟩
  have hfe : ∀ i : Nat, f i = (dn * atZ A ((i : Int) + 2) - a * atZ A ((i : Int) + 1) - b * atZ A i) * (dn * atZ A ((i : Int) + 2) - a * atZ A ((i : Int) + 1) - b * atZ A i) := fun i => by rw [hf]
  have hoth : sumN f (A.length - 2) = othI A a b dn := by rw [oth_sum, hf]
  have zb : ∀ i : Nat, -6000 ≤ dn * atZ A ((i : Int) + 2) - a * atZ A ((i : Int) + 1) - b * atZ A i ∧ dn * atZ A ((i : Int) + 2) - a * atZ A ((i : Int) + 1) - b * atZ A i ≤ 6000 := fun i => by
    have p1 := mul_bd (x := dn) (X := 20) ⟨by omega, by omega⟩ (atZ_lim (show (0 : Int) ≤ 100 by omega) bA ((i : Int) + 2))
    have p2 := mul_bd (x := a) (X := 20) ⟨by omega, by omega⟩ (atZ_lim (show (0 : Int) ≤ 100 by omega) bA ((i : Int) + 1))
    have p3 := mul_bd (x := b) (X := 20) ⟨by omega, by omega⟩ (atZ_lim (show (0 : Int) ≤ 100 by omega) bA (i : Int))
    omega
  have fb : ∀ i, -36000000 ≤ f i ∧ f i ≤ 36000000 := fun i => by
    have := mul_bd (zb i) (zb i)
    rw [hfe]
    omega
  have fp : ∀ i, 0 ≤ f i := fun i => by
    rw [hfe]
    generalize (dn * _ - _ - _ : Int) = z
    have := sq_ge z
    omega
  refine WL.inv T.mix (fun n ts K => ∃ i : Nat, 2 ≤ i ∧ i ≤ A.length ∧ n = A.length - i ∧ K = U ∧ ts.length = 314 ∧ slot ts 0 = s ∧ slot ts 1 = t ∧ slot ts 5 = .ptr b5 0 ∧ slot ts 7 = u7 ∧ slot ts 10 = .ptr b10 0 ∧ slot ts 12 = .int .i64 a ∧ slot ts 13 = .int .i64 b ∧ slot ts 14 = .int .i64 dn ∧ slot ts 15 = .int .i64 (sumN f (i - 2)) ∧ slot ts 16 = .int .i64 i) (A.length - 2)
    ⟨2, by omega, by omega, rfl, rfl, Sn, (Sq @t0), (Sq @t1), (Sq @t5), Sw, Sw, Sw, Sw, Sw, Swr, Swr⟩ ?_
  clear hlen t0 t1 t5
  rintro _ ts K ⟨i, hi2, hi, rfl, rfl, hlen, t0, t1, t5, t7, t10, t12, t13, t14, t15, t16⟩
  obtain ⟨q, hq⟩ : ∃ q, i = q + 2 := ⟨i - 2, by omega⟩
  have hq2 : i - 2 = q := by omega
  have sb1 := sumN_bd fb q
  have sb2 := sumN_nonneg fp q
  rw [hq2] at t15
  by_cases hlt : i < A.length
  case neg =>
    have e3 := dltF hlt
    have e4 : sumN f q = othI A a b dn := by rw [← hoth, show A.length - 2 = q by omega]
    rw [e4] at t15 sb1 sb2
    have wd : IntKind.i64.wrap (dn * dn) = dn * dn := by
      have := mul_bd (x := dn) (y := dn) (X := 20) (Y := 20) ⟨by omega, by omega⟩ ⟨by omega, by omega⟩
      exact wrap_in (by omega) (by omega)
    have bdd : 1 ≤ dn * dn ∧ dn * dn ≤ 400 := by
      have := mul_bd (x := dn) (y := dn) (X := 20) (Y := 20) ⟨by omega, by omega⟩ ⟨by omega, by omega⟩
      have := sq_ge dn
      omega
    have hnl := not_less hd a b (dn := dn)
    rw [← hp, ← hr] at hnl
    refine Rs (A16 @t0 @t1 @t5 @t7 @t10 @t12 @t13 @t14 @t15 @t16 hA.lenm @e3 @wd @l10 @td_0 @td_1) ?_
    refine WF.ce T.c74 (r74 T ⟨by omega, by omega⟩ ⟨by omega, by omega⟩ ⟨by omega, by omega⟩ ⟨by omega, by omega⟩) fun g9 => ?_
    rw [hnl]
    refine Rs (A3 @t0 @t1 @t5) ?_
    have eF := eYZ.trans (eU.trans ⟨g9, rfl⟩)
    exact le_C T (s := s) (t := t) (b5 := b5) (l := l) (m := m) (A := A) (B := B) (n0 := n0) (n1 := n1) (n2 := n2) (n3 := n3) X Sn (Sq @t0) (Sq @t1) (Sq @t5) (e0.trans eF) (hs.ext eF) (ht.ext eF) (eF.some m5) hAe hBe he (by omega) hgA hg bA bB h3
  have e3 := dltT hlt
  have e5 : IntKind.i64.wrap ((i : Int) + 1) = ((i + 1 : Nat) : Int) := wrapN (n := i) (by omega)
  have w5 : IntKind.i64.wrap ((i : Int) - 1) = ((i - 1 : Nat) : Int) := by rw [wrap_in (by omega) (by omega)]; omega
  have w6 : IntKind.i64.wrap ((i : Int) - 2) = ((i - 2 : Nat) : Int) := by rw [wrap_in (by omega) (by omega)]; omega
  have hl1 : i - 1 < A.length := by omega
  have hl0 : i - 2 < A.length := by omega
  have ix2 := hA.ixm (kk := .i64) hlt
  have ix1 := hA.ixm (kk := .i64) hl1
  have ix0 := hA.ixm (kk := .i64) hl0
  have ld2 : ∀ {kk : AHeap}, Ext K kk → loadF none (elp u7 1 i) (fun b => kk[b]?) = some (.int .i64 A[i], .keep) := fun {kk} e => hA.l1m hlt rfl e
  have ld1 : ∀ {kk : AHeap}, Ext K kk → loadF none (elp u7 1 (i - 1)) (fun b => kk[b]?) = some (.int .i64 A[i - 1], .keep) := fun {kk} e => hA.l1m hl1 rfl e
  have ld0 : ∀ {kk : AHeap}, Ext K kk → loadF none (elp u7 1 (i - 2)) (fun b => kk[b]?) = some (.int .i64 A[i - 2], .keep) := fun {kk} e => hA.l1m hl0 rfl e
  have a2 : atZ A ((q : Int) + 2) = A[i] := by rw [show (q : Int) + 2 = ((i : Nat) : Int) by omega, atZ_at hlt]
  have a1 : atZ A ((q : Int) + 1) = A[i - 1] := by rw [show (q : Int) + 1 = ((i - 1 : Nat) : Int) by omega, atZ_at hl1]
  have a0 : atZ A (q : Int) = A[i - 2] := by rw [show (q : Int) = ((i - 2 : Nat) : Int) by omega, atZ_at hl0]
  have b2 := bA A[i] (List.getElem_mem _)
  have b1 := bA A[i - 1] (List.getElem_mem _)
  have b0 := bA A[i - 2] (List.getElem_mem _)
  have hfq : f q = (dn * A[i] - a * A[i - 1] - b * A[i - 2]) * (dn * A[i] - a * A[i - 1] - b * A[i - 2]) := by rw [hfe, a2, a1, a0]
  have fq := fb q
  have zq := zb q
  rw [a2, a1, a0] at zq
  obtain ⟨x2, hx2⟩ : ∃ x, x = A[i] := ⟨_, rfl⟩
  obtain ⟨x1, hx1⟩ : ∃ x, x = A[i - 1] := ⟨_, rfl⟩
  obtain ⟨x0, hx0⟩ : ∃ x, x = A[i - 2] := ⟨_, rfl⟩
  rw [← hx2] at ld2 b2 hfq zq
  rw [← hx1] at ld1 b1 hfq zq
  rw [← hx0] at ld0 b0 hfq zq
  have p1 := mul_bd (x := dn) (X := 20) ⟨by omega, by omega⟩ b2
  have p2 := mul_bd (x := a) (X := 20) ⟨by omega, by omega⟩ b1
  have p3 := mul_bd (x := b) (X := 20) ⟨by omega, by omega⟩ b0
  have v1 : IntKind.i64.wrap (dn * x2) = dn * x2 := wrap_in (by omega) (by omega)
  have v2 : IntKind.i64.wrap (a * x1) = a * x1 := wrap_in (by omega) (by omega)
  have v3 : IntKind.i64.wrap (dn * x2 - a * x1) = dn * x2 - a * x1 := wrap_in (by omega) (by omega)
  have v4 : IntKind.i64.wrap (b * x0) = b * x0 := wrap_in (by omega) (by omega)
  have v5 : IntKind.i64.wrap (dn * x2 - a * x1 - b * x0) = dn * x2 - a * x1 - b * x0 := wrap_in (by omega) (by omega)
  obtain ⟨z, hz⟩ : ∃ z, z = dn * x2 - a * x1 - b * x0 := ⟨_, rfl⟩
  have v5 := v5.trans hz.symm
  rw [← hz] at hfq zq
  have v6 : IntKind.i64.wrap (z * z) = z * z := by rw [hfq] at fq; exact wrap_in (by omega) (by omega)
  have v7 : IntKind.i64.wrap (sumN f q + z * z) = sumN f (q + 1) := by rw [sumN, hfq]; rw [hfq] at fq; exact wrap_in (by omega) (by omega)
  repeat (first | simp (config := { maxSteps := 1000000 }) only [wset, hset, dset, bset, Nat.reduceAdd, Nat.reduceMul, Nat.reduceLeDiff, Nat.reduceEqDiff, pset, hlen, if_false, if_true, t0, t1, t5, t7, t10, t12, t13, t14, t15, t16, hA.lenm, e3, ix2, ld2, v1, w5, ix1, ld1, v2, v3, w6, ix0, ld0, v4, v5, v6, v7, e5] | simp (config := { maxSteps := 1000000 }) (disch := first | (simp only [List.length_append, List.length_cons, List.length_nil] <;> omega) | rfl | omega | fail) only [kset, wset, hset, dset, bset, Nat.reduceAdd, Nat.reduceMul, Nat.reduceLeDiff, Nat.reduceEqDiff, pset, hlen, if_false, if_true, t0, t1, t5, t7, t10, t12, t13, t14, t15, t16, hA.lenm, e3, ix2, ld2, v1, w5, ix1, ld1, v2, v3, w6, ix0, ld0, v4, v5, v6, v7, e5])
  exact ⟨A.length - (i + 1), by omega, i + 1, by omega, by omega, rfl, by rw [show i + 1 - 2 = q + 1 by omega], rfl⟩
set_option maxHeartbeats 4000000 in
theorem r10 (X : Xfl P) (ha : ∀ k, Ext h k → RCall P 17 [] k (fun v _ => v = .bool true)) (hs : IsSl h s 1 (l.map fltR)) (ht : IsSl h t 1 (m.map fltR)) {nn : List Int} (hn : nn.length = 4) (hb : ∀ y ∈ nn, -128 ≤ y ∧ y ≤ 127) : RCall P 10 [s, t, .agg (nn.map (AV.int .i8))] h (fun v _ => v = .bool true) := by
  obtain ⟨n0, n1, n2, n3, rfl⟩ := len4 hn
  have h0 := hb n0 (by simp)
  have h1 := hb n1 (by simp)
  have h2 := hb n2 (by simp)
  have h3 := hb n3 (by simp)
  show RCall P 10 [s, t, .agg (arr4 n0 n1 n2 n3)] h _
  refine .st3 314 T.mix T.c10 ?_;intro ts hlen t0 t1 t2;unfold fn10
  show WC P inFn (.seq _ (.seq _ leB)) _ _ _ _
  have bx : ∀ {N : Nat}, boxF (.agg (arr4 n0 n1 n2 n3)) N = some (.ptr N 0, .push (.cells (arr4 n0 n1 n2 n3) true false)) := fun {N} => rfl
  refine Rs (A4 @t0 @t1 @t2 @bx) ?_
  obtain ⟨H0, hH0⟩ : ∃ H0, H0 = h ++ [ABlk.cells (arr4 n0 n1 n2 n3) true false] := ⟨_, rfl⟩
  have e0 : Ext h H0 := by rw [hH0]; exact ⟨_, rfl⟩
  have m5 : H0[h.length]? = some (.cells (arr4 n0 n1 n2 n3) true false) := by rw [hH0]; exact at_new
  obtain ⟨b5, hb5⟩ : ∃ b5, b5 = h.length := ⟨_, rfl⟩
  rw [← hb5] at m5
  rw [← hH0, ← hb5]
  clear hH0 hb5
  refine WF.ce T.c17 (ha _ e0) fun g1 => ?_
  have e1 := e0.trans (show Ext H0 (H0 ++ g1) from ⟨_, rfl⟩)
  have hs1 := hs.ext e1
  have ht1 := ht.ext e1
  have m5 := (show Ext H0 (H0 ++ g1) from ⟨_, rfl⟩).some m5
  obtain ⟨K, hK⟩ : ∃ K, K = H0 ++ g1 := ⟨_, rfl⟩
  rw [← hK] at e1 hs1 ht1 m5 ⊢
  clear hK
  have bad : ∀ g, RCall P 17 [] (K ++ g) (fun v _ => v = .bool true) := fun g => ha _ (e1.trans ⟨g, rfl⟩)
  have bad0 : RCall P 17 [] K (fun v _ => v = .bool true) := ha _ e1
  by_cases c1 : (l.length : Int) < 3
  · have d1 := decide_eq_true c1
    refine Rs (A5 @t0 @t1 @Bool.not_true hs1.lenm @d1) ?_
    refine WF.ce T.c17 bad0 fun g2 => ?_
    refine Rs (A2 @t0 @t1) ?_
    exact ⟨e1.trans Xx, trivial⟩
  have d1 := decide_eq_false c1
  by_cases c2 : (12 : Int) < (l.length : Int)
  · have d2 := decide_eq_true c2
    refine Rs (A6 @t0 @t1 @Bool.not_true hs1.lenm @d1 @d2) ?_
    refine WF.ce T.c17 bad0 fun g2 => ?_
    refine Rs (A2 @t0 @t1) ?_
    exact ⟨e1.trans Xx, trivial⟩
  have d2 := decide_eq_false c2
  refine Rs (A6 @t0 @t1 @Bool.not_true hs1.lenm @d1 @d2) ?_
  refine WF.ce T.c57 (r57 T X hs1 (lim := 100) ⟨by omega, by omega⟩) fun g2 => ?_
  cases hq : quietB l 100 with
  | false =>
    refine Rs (A3 @t0 @t1 @Bool.not_false) ?_
    refine WF.ce T.c17 (bad _) fun g3 => ?_
    refine Rs (A2 @t0 @t1) ?_
    exact ⟨e1.trans Xx, trivial⟩
  | true =>
    refine Rs (A3 @t0 @t1 @Bool.not_true) ?_
    refine WF.ce T.c57 (r57 T X (ht1.ext Xx) (lim := 100) ⟨by omega, by omega⟩) fun g3 => ?_
    have e3 : Ext K (K ++ g2 ++ g3) := Xx
    cases hq2 : quietB m 100 with
    | false =>
      refine Rs (A3 @t0 @t1 @Bool.not_false) ?_
      refine WF.ce T.c17 (ha _ (e1.trans e3)) fun g4 => ?_
      refine Rs (A2 @t0 @t1) ?_
      exact ⟨e1.trans Xx, trivial⟩
    | true =>
      obtain ⟨U, hU⟩ : ∃ U, U = K ++ g2 ++ g3 := ⟨_, rfl⟩
      rw [← hU] at e3 ⊢
      clear hU
      have hs2 := hs1.ext e3
      have ht2 := ht1.ext e3
      by_cases c3 : (m.length : Int) ≠ (l.length : Int)
      · have d3 := decide_eq_true c3
        refine Rs (A6 @t0 @t1 @Bool.not_true hs2.lenm ht2.lenm @d3) ?_
        refine WF.ce T.c17 (ha _ (e1.trans e3)) fun g4 => ?_
        refine Rs (A2 @t0 @t1) ?_
        exact ⟨(e1.trans e3).trans Xx, trivial⟩
      have d3 := decide_eq_false c3
      refine Rs (A6 @t0 @t1 @Bool.not_true hs2.lenm ht2.lenm @d3) ?_
      obtain ⟨_, g1, b1⟩ := quietB_t hq
      obtain ⟨_, g2, b2⟩ := quietB_t hq2
      exact le_B T (s := s) (t := t) (b5 := b5) (l := l) (m := m) (A := l.map gridN) (B := m.map gridN) (n0 := n0) (n1 := n1) (n2 := n2) (n3 := n3) X Sn (Sq @t0) (Sq @t1) Sw (e1.trans e3) hs2 ht2 (e3.some m5) rfl rfl (by rw [List.length_map, List.length_map]; omega) (by rw [List.length_map]; omega) (by rw [List.length_map]; omega) g1 g2 b1 b2 h0 h1 h2 h3
end
end Go.Abs
