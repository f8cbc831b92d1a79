/- Contracts: taps undone by the program. No condition. · Contracts: taps undone by the program, with the checks. No condition. · Contracts: pairs of integers as complex numbers. No condition. · Contracts: the powers of the imaginary unit, by the program and by the reference. No condition. · Contracts: a pair turned by the program's table of powers. No condition. · Contracts: a response at one frequency, by the reference. No condition. · Contracts: inner products by the program and by the reference. No condition. · Contracts: fitting lists checked; their sums by the reference. No condition. · Contracts: the sums of a fitting list by the program. No condition. · Contracts: predictions by the program. No condition. · Contracts: predictions checked, and the least error, by the program. No condition. · Contracts: predictions by the reference. No condition. · The law of predictions. No condition. -/
import Derived.Test.YtbgldbmgjcgepaaGreatDoorFf10
set_option linter.all false
namespace Go.Abs

set_option maxRecDepth 10000
attribute [local irreducible] WP WC WE WB WR WF WL WG WRg WQ
section
variable {P : Program} (T : Tbl P) {h : AHeap}
include T
end
end Go.Abs
namespace Go.Abs

set_option maxRecDepth 10000
attribute [local irreducible] WP WC WE WB WR WF WL WG WRg WQ
section
variable {P : Program} (T : Tbl P) {h : AHeap}
include T
end
end Go.Abs
namespace Go.Abs

set_option maxRecDepth 10000
attribute [local irreducible] WP WC WE WB WR WF WL WG WRg WQ
section
variable {P : Program} (T : Tbl P) {h : AHeap}
include T
end
end Go.Abs
namespace Go.Abs

theorem ext_setG {h K : AHeap} {b : Nat} {X : ABlk} (e : Ext h K) (hb : h.length ≤ b) : Ext h (K.set b X) := by
  obtain ⟨z, rfl⟩ := e
  rw [List.set_append_right _ _ hb]; exact ⟨_, rfl⟩
set_option maxRecDepth 10000
attribute [local irreducible] WP WC WE WB WR WF WL WG WRg WQ
section
variable {P : Program} (T : Tbl P) {h : AHeap}
include T
end
end Go.Abs
namespace Go.Abs

set_option maxRecDepth 10000
attribute [local irreducible] WP WC WE WB WR WF WL WG WRg WQ
section
variable {P : Program} (T : Tbl P) {h : AHeap}
include T
end
end Go.Abs
namespace Go.Abs

set_option maxRecDepth 10000
attribute [local irreducible] WP WC WE WB WR WF WL WG WRg WQ
section
variable {P : Program} (T : Tbl P) {h : AHeap}
include T
end
end Go.Abs
namespace Go.Abs

theorem atZ_bd' {l : List Int} {M : Int} (hM : 0 ≤ M) (hb : ∀ x ∈ l, -M ≤ x ∧ x ≤ M) (j : Int) : -M ≤ atZ l j ∧ atZ l j ≤ M := by
  unfold atZ
  by_cases h : 0 ≤ j
  · rw [if_pos h, List.getD_eq_getElem?_getD]
    cases hx : l[j.toNat]? with
    | none => simp; omega
    | some y => exact hb y (List.mem_of_getElem? hx)
  · rw [if_neg h]; omega
theorem prod_bd' {x y : Int} (hx : -32768 ≤ x ∧ x ≤ 32768) (hy : -32768 ≤ y ∧ y ≤ 32768) : -1073741824 ≤ x * y ∧ x * y ≤ 1073741824 := by
  have e : (x * y).natAbs ≤ 32768 * 32768 := by
    rw [Int.natAbs_mul]
    exact Nat.mul_le_mul (by omega) (by omega)
  omega
theorem dotS_bd {A B : List Int} (hA : ∀ x ∈ A, -32768 ≤ x ∧ x ≤ 32768) (hB : ∀ x ∈ B, -32768 ≤ x ∧ x ≤ 32768) : ∀ j : Nat, -(j * 1073741824 : Int) ≤ dotS A B j ∧ dotS A B j ≤ j * 1073741824
  | 0 => by simp [dotS]
  | j + 1 => by
    have h1 := dotS_bd hA hB j
    have h2 := prod_bd' (atZ_bd' (by omega) hA j) (atZ_bd' (by omega) hB j)
    rw [dotS]
    have e : ((j + 1 : Nat) : Int) * 1073741824 = j * 1073741824 + 1073741824 := by rw [Int.natCast_add, Int.add_mul]; rfl
    omega
theorem first3 {a b c : Int} (h : firstS [a, b, c] = 0) : a = 0 ∧ b = 0 ∧ c = 0 := by
  by_cases ha : a = 0
  · subst ha
    rw [firstS, if_pos rfl] at h
    obtain ⟨h1, h2⟩ := first2 h
    exact ⟨rfl, h1, h2⟩
  · rw [firstS, if_neg ha] at h; exact absurd h ha
set_option maxRecDepth 10000
attribute [local irreducible] WP WC WE WB WR WF WL WG WRg WQ
section
variable {P : Program} (T : Tbl P) {h : AHeap}
include T
set_option maxHeartbeats 2000000 in
theorem r122 {s t : AV} {A B : List Int} (hs : IsSl h s 1 (A.map intRow)) (ht : IsSl h t 1 (B.map intRow)) (he : A.length = B.length) (hl : A.length ≤ 1024) (hA : ∀ x ∈ A, -32768 ≤ x ∧ x ≤ 32768) (hB : ∀ x ∈ B, -32768 ≤ x ∧ x ≤ 32768) : RCall P 122 [s, t] h (fun v _ => v = .int .i64 (dotI A B)) := by
  refine .st2 25 T.mix T.c122 ?_;intro ts hlen t0 t1;unfold fn122
  refine Rs (A3 @t0 @t1 hs.lenm) ?_
  refine WL.inv T.mix (fun n ts K => ∃ k : Nat, k ≤ A.length ∧ n = A.length - k ∧ K = h ∧ ts.length = 25 ∧ slot ts 1 = t ∧ slot ts 5 = .int .i64 (dotS A B k) ∧ slot ts 8 = s ∧ slot ts 9 = .int .i64 A.length ∧ slot ts 10 = .int .i64 k) A.length
    ⟨0, by omega, rfl, rfl, Sn, (Sq @t1), Swr, Sw, Sw, Swr⟩ ?_
  clear hlen t0 t1
  rintro _ ts K ⟨k, hk, rfl, rfl, hlen, t1, t5, t8, t9, t10⟩
  by_cases hlt : k < A.length
  case neg =>
    have e3 := dltF hlt
    have e4 : k = A.length := by omega
    rw [e4] at t5
    refine Rs (A6 @t1 @t5 @t8 @t9 @t10 @e3) ?_
    rfl
  have e3 := dltT hlt
  have e5 := wrapN (n := k) (by omega)
  have hlb : k < B.length := by omega
  have ix := hs.ixm (kk := .i64) hlt
  have iy := ht.ixm (kk := .i64) hlb
  have ax := atZ_at hlt
  have ay := atZ_at hlb
  have bx := hA A[k] (List.getElem_mem _)
  have by' := hB B[k] (List.getElem_mem _)
  have db := dotS_bd hA hB k
  obtain ⟨x, hx⟩ : ∃ x, x = A[k] := ⟨_, rfl⟩
  obtain ⟨y, hy⟩ : ∃ y, y = B[k] := ⟨_, rfl⟩
  have ld : ∀ {kk : AHeap}, Ext K kk → loadF none (elp s 1 k) (fun b => kk[b]?) = some (.int .i64 x, .keep) := fun {kk} e => by rw [hx]; exact hs.l1m hlt rfl e
  have le : ∀ {kk : AHeap}, Ext K kk → loadF none (elp t 1 k) (fun b => kk[b]?) = some (.int .i64 y, .keep) := fun {kk} e => by rw [hy]; exact ht.l1m hlb rfl e
  rw [← hx] at ax bx
  rw [← hy] at ay by'
  have pb := prod_bd' bx by'
  have w3 : IntKind.i64.wrap (x * y) = x * y := wrap_in (by omega) (by omega)
  have w4 : IntKind.i64.wrap (dotS A B k + x * y) = dotS A B (k + 1) := by rw [dotS, ax, ay, wrap_in (by omega) (by omega)]
  refine Rs (A13 @t1 @t5 @t8 @t9 @t10 @e3 @ix @ld @iy @le @w3 @w4 @e5) ?_
  exact ⟨A.length - (k + 1), by omega, k + 1, by omega, rfl, rfl, rfl⟩
end
end Go.Abs
namespace Go.Abs

noncomputable def rng7 (b : Nat) : Int := rangeS (gridN b) (-127) 127
noncomputable def fitE (l : List Nat) : Int := firstS [firstS [chkL l, whenS (decide ((l.length : Int) < 3)) 16, whenS (decide ((32 : Int) < (l.length : Int))) 4], firstS (l.map rng7)]
structure FitOk (l : List Nat) : Prop where
  l1 : 3 ≤ l.length
  l2 : l.length ≤ 32
  g : ∀ b ∈ l, gridE b = 0
  r : ∀ x ∈ l.map gridN, -127 ≤ x ∧ x ≤ 127
theorem whenS_z {c : Bool} {e : Int} (he : e ≠ 0) (h : whenS c e = 0) : c = false := by
  cases c with
  | false => rfl
  | true => exact absurd h he
theorem fitE_z {l : List Nat} (h : fitE l = 0) : FitOk l := by
  obtain ⟨h1, h2⟩ := first2 h
  obtain ⟨a, b, c⟩ := first3 h1
  have b := whenS_z (by decide) b
  have c := whenS_z (by decide) c
  simp only [decide_eq_false_iff_not] at b c
  refine ⟨by omega, by omega, (chkL_z a).2, fun x hx => ?_⟩
  obtain ⟨y, hy, rfl⟩ := List.mem_map.1 hx
  exact rangeS_z.1 (firstS_z h2 _ (List.mem_map_of_mem hy))
theorem first_cons0 {a : Int} {l : List Int} (h : a = 0) : firstS (a :: l) = firstS l := by rw [firstS, if_pos h]
theorem first_consN {a : Int} {l : List Int} (h : a ≠ 0) : firstS (a :: l) = a := by rw [firstS, if_neg h]
theorem fitE_first {l : List Nat} (h : firstS [chkL l, whenS (decide ((l.length : Int) < 3)) 16, whenS (decide ((32 : Int) < (l.length : Int))) 4] ≠ 0) : fitE l = firstS [chkL l, whenS (decide ((l.length : Int) < 3)) 16, whenS (decide ((32 : Int) < (l.length : Int))) 4] := first_consN h
theorem first_one (a : Int) : firstS [a] = a := by
  by_cases h : a = 0
  · rw [first_cons0 h, h]; rfl
  · exact first_consN h
theorem fitE_all {l : List Nat} (h : firstS [chkL l, whenS (decide ((l.length : Int) < 3)) 16, whenS (decide ((32 : Int) < (l.length : Int))) 4] = 0) : fitE l = firstS (l.map rng7) := by
  rw [fitE, first_cons0 h, first_one]
/-- How great the sums are. -/
theorem atZ_bd7 {A : List Int} (h : ∀ x ∈ A, -127 ≤ x ∧ x ≤ 127) (j : Int) : -127 ≤ atZ A j ∧ atZ A j ≤ 127 := atZ_bd' (by decide) h j
theorem sm_prod {x y : Int} (hx : -127 ≤ x ∧ x ≤ 127) (hy : -127 ≤ y ∧ y ≤ 127) : -16129 ≤ x * y ∧ x * y ≤ 16129 := by
  have e : (x * y).natAbs ≤ 127 * 127 := by
    rw [Int.natAbs_mul]
    exact Nat.mul_le_mul (by omega) (by omega)
  omega
theorem smN_bd {A : List Int} (h : ∀ x ∈ A, -127 ≤ x ∧ x ≤ 127) (j k n : Nat) : -(n * 16129 : Int) ≤ sumN (smF A j k) n ∧ sumN (smF A j k) n ≤ n * 16129 := sumN_bd (fun i => sm_prod (atZ_bd7 h _) (atZ_bd7 h _)) n
theorem smI_bd {A : List Int} (h : ∀ x ∈ A, -127 ≤ x ∧ x ≤ 127) (hl : A.length ≤ 32) (j k : Nat) : -524288 ≤ smI A j k ∧ smI A j k ≤ 524288 := by
  have := smN_bd h j k (A.length - 2)
  unfold smI
  omega
set_option maxRecDepth 10000
attribute [local irreducible] WP WC WE WB WR WF WL WG WRg WQ
section
variable {P : Program} (T : Tbl P) {h : AHeap}
include T
set_option maxHeartbeats 1000000 in
theorem r199 {b : Nat} (hb : gridE b = 0) : RCall P 199 [.flt .f32 b] h (fun v _ => v = .int .i64 (rng7 b)) := by
  refine .st1 6 T.mix T.c199 ?_;intro ts hlen t0;unfold fn199
  refine Rs @t0 ?_
  refine WF.ce T.c108 (r108 T hb) fun g1 => ?_
  refine Rs @t0 ?_
  refine WF.ce T.c120 (r120 T _ _ _) fun g2 => ?_
  refine Rs @t0 ?_
  rfl
set_option maxHeartbeats 1000000 in
theorem r148 {s : AV} {l : List Nat} (hs : IsSl h s 1 (l.map fltR)) (hl : l.length < 2 ^ 40) : RCall P 148 [s] h (fun v _ => v = .int .i64 (fitE l)) := by
  refine .st1 22 T.mix T.c148 ?_;intro ts hlen t0;unfold fn148
  refine Rs @t0 ?_
  refine WF.ce T.c134 (r134 T hs hl) fun g1 => ?_
  refine Rs (A2 @t0 hs.lenm) ?_
  refine WF.ce T.c117 (r117 T _ _) fun g2 => ?_
  refine Rs (A2 @t0 hs.lenm) ?_
  refine WF.ce T.c117 (r117 T _ _) fun g3 => ?_
  refine Rs @t0 ?_
  refine WF.ce T.c116 (r116 T (isSl_ints [_, _, _]) (by simp)) fun g4 => ?_
  obtain ⟨q, hq⟩ : ∃ q, q = firstS [chkL l, whenS (decide ((l.length : Int) < 3)) 16, whenS (decide ((32 : Int) < (l.length : Int))) 4] := ⟨_, rfl⟩
  rw [← hq]
  by_cases hz : q = 0
  case neg =>
    have d1 : decide (q ≠ 0) = true := decide_eq_true hz
    have e : fitE l = q := by rw [hq]; exact fitE_first (by rw [← hq]; exact hz)
    rw [e]
    exact Rs (A2 @t0 @d1) trivial
  have d1 : decide (q ≠ 0) = false := decide_eq_false fun z => z hz
  have e : fitE l = firstS (l.map rng7) := fitE_all (by rw [← hq]; exact hz)
  rw [e]
  have hg : ∀ b ∈ l, gridE b = 0 := by
    rw [hq] at hz
    exact (chkL_z (first3 hz).1).2
  refine Rs (A2 @t0 @d1) ?_
  refine WF.res T.c141 (r141 T (hs.ext Xx) hl T.c199 (g := rng7) (fun x hx k => r199 T (hg x hx))) ?_
  intro s2 g5 is2
  refine Rs @t0 ?_
  refine WF.ce T.c116 (r116 T is2 (by rw [List.length_map]; omega)) fun g6 => ?_
  exact Rs @t0 trivial
set_option maxHeartbeats 2000000 in
theorem r68 (X : Xfl P) {s : AV} {l : List Nat} (hs : IsSl h s 1 (l.map fltR)) (hl : l.length < 2 ^ 40) : RCall P 68 [s] h (fun v _ => v = .int .i64 (fitE l)) := by
  refine .st1 32 T.mix T.c68 ?_;intro ts hlen t0;unfold fn68
  refine Rs @t0 ?_
  refine WF.ce T.c28 (r28 T X hs hl) fun g1 => ?_
  by_cases hc : chkL l = 0
  case neg =>
    have d1 : decide (chkL l ≠ 0) = true := decide_eq_true hc
    have e : fitE l = chkL l := by
      have q := first_consN (l := [whenS (decide ((l.length : Int) < 3)) 16, whenS (decide ((32 : Int) < (l.length : Int))) 4]) hc
      rw [fitE_first (by rw [q]; exact hc), q]
    rw [e]
    exact Rs (A2 @t0 @d1) trivial
  have d1 : decide (chkL l ≠ 0) = false := decide_eq_false fun z => z hc
  by_cases h3 : (l.length : Int) < 3
  · have d2 : decide ((l.length : Int) < 3) = true := decide_eq_true h3
    have e : fitE l = 16 := by
      have q : firstS [chkL l, whenS (decide ((l.length : Int) < 3)) 16, whenS (decide ((32 : Int) < (l.length : Int))) 4] = 16 := by rw [first_cons0 hc, d2]; rfl
      rw [fitE_first (by rw [q]; decide), q]
    rw [e]
    exact Rs (A4 @t0 hs.lenm @d1 @d2) trivial
  have d2 : decide ((l.length : Int) < 3) = false := decide_eq_false h3
  by_cases h4 : (32 : Int) < (l.length : Int)
  · have d3 : decide ((32 : Int) < (l.length : Int)) = true := decide_eq_true h4
    have e : fitE l = 4 := by
      have q : firstS [chkL l, whenS (decide ((l.length : Int) < 3)) 16, whenS (decide ((32 : Int) < (l.length : Int))) 4] = 4 := by rw [first_cons0 hc, d2, d3]; rfl
      rw [fitE_first (by rw [q]; decide), q]
    rw [e]
    exact Rs (A5 @t0 hs.lenm @d1 @d2 @d3) trivial
  have d3 : decide ((32 : Int) < (l.length : Int)) = false := decide_eq_false h4
  have e : fitE l = firstS (l.map rng7) := fitE_all (by rw [first_cons0 hc, d2, d3]; rfl)
  rw [e]
  have hg := (chkL_z hc).2
  refine Rs (A5 @t0 hs.lenm @d1 @d2 @d3) ?_
  refine WL.inv T.mix (fun n ts K => ∃ k : Nat, k ≤ l.length ∧ n = l.length - k ∧ Ext h K ∧ firstS (l.map rng7) = firstS ((l.drop k).map rng7) ∧ ts.length = 32 ∧ slot ts 0 = s ∧ slot ts 4 = .int .i64 k) l.length
    ⟨0, by omega, rfl, Xx, rfl, Sn, (Sq @t0), Swr⟩ ?_
  clear hlen t0 d1 d2 d3
  rintro _ ts K ⟨k, hk, rfl, eK, hf, hlen, t0, t4⟩
  have hsK := hs.ext eK
  by_cases hlt : k < l.length
  case neg =>
    have e3 := dltF hlt
    have e4 : k = l.length := by omega
    rw [e4, List.drop_length] at hf
    have hf0 : firstS (l.map rng7) = 0 := hf
    rw [hf0]
    refine Rs (A4 @t0 @t4 hsK.lenm @e3) ?_
    exact ⟨eK, trivial⟩
  have e3 := dltT hlt
  have e5 := wrapN (n := k) (by omega)
  have ix := hsK.ixm (kk := .i64) hlt
  have hd : l.drop k = l[k] :: l.drop (k + 1) := by simp
  rw [hd, List.map_cons] at hf
  obtain ⟨x, hx⟩ : ∃ x, x = l[k] := ⟨_, rfl⟩
  have ld : ∀ {kk : AHeap}, Ext K kk → loadF none (elp s 1 k) (fun b => kk[b]?) = some (.flt .f32 x, .keep) := fun {kk} e => by rw [hx]; exact hsK.l1m hlt rfl e
  have hmem : x ∈ l := by rw [hx]; exact List.getElem_mem _
  rw [← hx] at hf
  refine Rs (A6 @t0 @t4 hsK.lenm @e3 @ix @ld) ?_
  refine WF.ce T.c64 (r64 T (hg x hmem)) fun g2 => ?_
  refine Rs (A2 @t0 @t4) ?_
  refine WF.ce T.c48 (r48 T _ _ _) fun g3 => ?_
  by_cases hz : rng7 x = 0
  · have d6 : decide (rangeS (gridN x) (-127) 127 ≠ 0) = false := decide_eq_false fun z => z hz
    rw [first_cons0 hz] at hf
    refine Rs (A4 @t0 @t4 @d6 @e5) ?_
    exact ⟨l.length - (k + 1), by omega, k + 1, by omega, rfl, eK.trans Xx, hf, rfl⟩
  · have d6 : decide (rangeS (gridN x) (-127) 127 ≠ 0) = true := decide_eq_true hz
    rw [first_consN hz] at hf
    refine Rs (A3 @t0 @t4 @d6) ?_
    exact ⟨eK.trans Xx, by rw [hf]; rfl⟩
set_option maxHeartbeats 2000000 in
theorem r153 {s : AV} {A : List Int} (hs : IsSl h s 1 (A.map intRow)) (hl1 : 3 ≤ A.length) (hl : A.length ≤ 32) (hA : ∀ x ∈ A, -127 ≤ x ∧ x ≤ 127) {j k : Nat} (hj : j ≤ 2) (hk : k ≤ 2) : RCall P 153 [s, .int .i64 (j : Int), .int .i64 (k : Int)] h (fun v _ => v = .int .i64 (smI A j k)) := by
  refine .st3 31 T.mix T.c153 ?_;intro ts hlen t0 t1 t2;unfold fn153
  refine Rs (A3 @t0 @t1 @t2) ?_
  refine WL.inv T.mix (fun n ts K => ∃ m : Nat, m ≤ A.length - 2 ∧ n = A.length - 2 - m ∧ K = h ∧ ts.length = 31 ∧ slot ts 0 = s ∧ slot ts 1 = .int .i64 (j : Int) ∧ slot ts 2 = .int .i64 (k : Int) ∧ slot ts 7 = .int .i64 (sumN (smF A j k) m) ∧ slot ts 8 = .int .i64 ((m + 2 : Nat) : Int)) (A.length - 2)
    ⟨0, by omega, rfl, rfl, Sn, (Sq @t0), (Sq @t1), (Sq @t2), Swr, Swr⟩ ?_
  clear hlen t0 t1 t2
  rintro _ ts K ⟨m, hm, rfl, rfl, hlen, t0, t1, t2, t7, t8⟩
  by_cases hlt : m + 2 < A.length
  case neg =>
    have e3 : decide (((m + 2 : Nat) : Int) < (A.length : Int)) = false := decide_eq_false (by omega)
    have e4 : m = A.length - 2 := by omega
    rw [e4] at t7
    refine Rs (A7 @t0 @t1 @t2 @t7 @t8 hs.lenm @e3) ?_
    rfl
  have e3 : decide (((m + 2 : Nat) : Int) < (A.length : Int)) = true := decide_eq_true (by omega)
  have e5 : IntKind.i64.wrap (((m + 2 : Nat) : Int) + 1) = ((m + 1 + 2 : Nat) : Int) := by rw [wrap_in (by omega) (by omega)]; omega
  have w1 : IntKind.i64.wrap (((m + 2 : Nat) : Int) - (j : Int)) = ((m + 2 - j : Nat) : Int) := by rw [wrap_in (by omega) (by omega)]; omega
  have w2 : IntKind.i64.wrap (((m + 2 : Nat) : Int) - (k : Int)) = ((m + 2 - k : Nat) : Int) := by rw [wrap_in (by omega) (by omega)]; omega
  have h1 : m + 2 - j < A.length := by omega
  have h2 : m + 2 - k < A.length := by omega
  have i1 := hs.ixm (kk := .i64) h1
  have i2 := hs.ixm (kk := .i64) h2
  have l1 : ∀ {kk : AHeap}, Ext K kk → loadF none (elp s 1 (m + 2 - j)) (fun b => kk[b]?) = some (.int .i64 (atZ A ((m : Int) + 2 - j)), .keep) := fun {kk} e => by
    rw [show (m : Int) + 2 - j = ((m + 2 - j : Nat) : Int) by omega, atZ_at h1]; exact hs.l1m h1 rfl e
  have l2 : ∀ {kk : AHeap}, Ext K kk → loadF none (elp s 1 (m + 2 - k)) (fun b => kk[b]?) = some (.int .i64 (atZ A ((m : Int) + 2 - k)), .keep) := fun {kk} e => by
    rw [show (m : Int) + 2 - k = ((m + 2 - k : Nat) : Int) by omega, atZ_at h2]; exact hs.l1m h2 rfl e
  have pb := sm_prod (atZ_bd7 hA ((m : Int) + 2 - j)) (atZ_bd7 hA ((m : Int) + 2 - k))
  have sb := smN_bd hA j k m
  have w3 : IntKind.i64.wrap (atZ A ((m : Int) + 2 - j) * atZ A ((m : Int) + 2 - k)) = atZ A ((m : Int) + 2 - j) * atZ A ((m : Int) + 2 - k) := wrap_in (by omega) (by omega)
  have w4 : IntKind.i64.wrap (sumN (smF A j k) m + atZ A ((m : Int) + 2 - j) * atZ A ((m : Int) + 2 - k)) = sumN (smF A j k) (m + 1) := by
    rw [wrap_in (by omega) (by omega), sumN]; rfl
  refine Rs (A16 @t0 @t1 @t2 @t7 @t8 hs.lenm @e3 @w1 @w2 @i1 @i2 @l1 @l2 @w3 @w4 @e5) ?_
  exact ⟨A.length - 2 - (m + 1), by omega, m + 1, by omega, rfl, rfl, rfl⟩
end
end Go.Abs
namespace Go.Abs

theorem ldN {K : AHeap} {b n : Nat} {L : List AV} (m : K[b]? = some (.cells L true false)) (hl : L.length = n) {k : AHeap} (e : Ext K k) : loadF (some n) (.ptr b 0) (fun z => k[z]?) = some (.agg L, .keep) := by
  rw [loadF_at (e.some m)]
  show (if 0 + n ≤ L.length then some (AV.agg ((L.drop 0).take n), Eff.keep) else none) = _
  rw [if_pos (by omega), List.drop_zero, List.take_of_length_le (by omega)]
theorem setL_0 {c L : List AV} (h : c.length = L.length) : setL c 0 L = L := by
  have := setL_all L c [] h
  simpa using this
theorem stN {K : AHeap} {b n : Nat} {c L : List AV} (m : K[b]? = some (.cells c true false)) (hc : c.length = n) (hl : L.length = n) (ho : L.all AV.one = true) : storeF n (.ptr b 0) (.agg L) (fun z => K[z]?) = some (undefA, .set b (.cells L true false)) := by
  rw [storeF_at m, stB_agg hl ho (by omega), setL_0 (by omega)]
theorem ldNs {K : AHeap} {b n : Nat} {k0 : ABlk} {L : List AV} (m : K[b]? = some k0) (hl : L.length = n) : loadF (some n) (.ptr b 0) (fun z => (K.set b (.cells L true false))[z]?) = some (.agg L, .keep) := ldN (set_eq' m) hl (Ext.refl _)
def subJ (A : List Int) (j : Nat) : List Int := (A.drop (2 - j)).take (A.length - 2)
theorem subJ_len {A : List Int} {j : Nat} (hj : j ≤ 2) : (subJ A j).length = A.length - 2 := by simp [subJ]; omega
theorem subJ_at {A : List Int} {j i : Nat} (hj : j ≤ 2) (hi : i < A.length - 2) : atZ (subJ A j) i = atZ A ((i : Int) + 2 - j) := by
  rw [atZ_at (by rw [subJ_len hj]; exact hi), show (i : Int) + 2 - j = ((2 - j + i : Nat) : Int) by omega, atZ_at (by omega)]
  simp [subJ]
theorem dot_sub {A : List Int} {j k : Nat} (hj : j ≤ 2) (hk : k ≤ 2) : dotI (subJ A j) (subJ A k) = smI A j k := by
  rw [dotI, dotS_sum, subJ_len hj, smI]
  exact sumN_congr fun i hi => by rw [subJ_at hj hi, subJ_at hk hi]; rfl
theorem subJ_bd {A : List Int} (h : ∀ x ∈ A, -127 ≤ x ∧ x ≤ 127) (j : Nat) : ∀ x ∈ subJ A j, -32768 ≤ x ∧ x ≤ 32768 := fun x hx => by
  have := h x (List.mem_of_mem_drop (List.mem_of_mem_take hx))
  omega
def smV (A : List Int) (m : Nat) : AV := .int .i64 (smI A (m / 3) (m % 3))
def smK (A : List Int) (m : Nat) : List AV := (List.range m).map (smV A) ++ List.replicate (9 - m) (.int .i64 0)
theorem smK_len (A : List Int) {m : Nat} (h : m ≤ 9) : (smK A m).length = 9 := by simp [smK]; omega
theorem smK_set (A : List Int) {m : Nat} (hm : m < 9) : (smK A m).set m (smV A m) = smK A (m + 1) := by
  unfold smK
  rw [set_zs (by simp) hm, List.range_succ, List.map_append]; rfl
def sm9 (A : List Int) : List AV := [.int .i64 (smI A 0 0), .int .i64 (smI A 0 1), .int .i64 (smI A 0 2), .int .i64 (smI A 1 0), .int .i64 (smI A 1 1), .int .i64 (smI A 1 2), .int .i64 (smI A 2 0), .int .i64 (smI A 2 1), .int .i64 (smI A 2 2)]
theorem three {j : Nat} (h : j < 3) : j = 0 ∨ j = 1 ∨ j = 2 := by omega
set_option maxRecDepth 10000
attribute [local irreducible] WP WC WE WB WR WF WL WG WRg WQ
section
variable {P : Program} (T : Tbl P) {h : AHeap}
include T
set_option maxHeartbeats 6000000 in
theorem r149 {s : AV} {l : List Nat} (hs : IsSl h s 1 (l.map fltR)) (ok : FitOk l) : RCall P 149 [s] h (fun v _ => v = .agg (sm9 (l.map gridN))) := by
  refine .st1 46 T.mix T.c149 ?_;intro ts hlen t0;unfold fn149
  have hl1 := ok.l1
  have hl2 := ok.l2
  have bz : ∀ {N : Nat}, boxF (.agg [.int .i64 0, .int .i64 0, .int .i64 0, .int .i64 0, .int .i64 0, .int .i64 0, .int .i64 0, .int .i64 0, .int .i64 0]) N = some (.ptr N 0, .push (.cells [AV.int IntKind.i64 0, AV.int IntKind.i64 0, AV.int IntKind.i64 0, AV.int IntKind.i64 0, AV.int IntKind.i64 0, AV.int IntKind.i64 0, AV.int IntKind.i64 0, AV.int IntKind.i64 0, AV.int IntKind.i64 0] true false)) := fun {N} => rfl
  have b3 : ∀ {N : Nat}, boxF (.agg [.nilSlice, .nilSlice, .nilSlice]) N = some (.ptr N 0, .push (.cells [.nilSlice, .nilSlice, .nilSlice] true false)) := fun {N} => rfl
  refine Rs (A2 @t0 @bz) ?_
  refine WF.res T.c107 (r107 T (hs.ext Xx) (by omega) T.c108 (g := gridN) (fun x hx k => r108 T (ok.g x hx))) ?_
  intro s3 g1 is3
  obtain ⟨A, hA⟩ : ∃ A, A = l.map gridN := ⟨_, rfl⟩
  have hAl : A.length = l.length := by rw [hA]; simp
  have hb := ok.r
  rw [← hA] at is3 hb ⊢
  rw [← hAl] at hl1 hl2
  obtain ⟨B, hB⟩ : ∃ B, B = h ++ [ABlk.cells [AV.int IntKind.i64 0, AV.int IntKind.i64 0, AV.int IntKind.i64 0, AV.int IntKind.i64 0, AV.int IntKind.i64 0, AV.int IntKind.i64 0, AV.int IntKind.i64 0, AV.int IntKind.i64 0, AV.int IntKind.i64 0] true false] ++ g1 := ⟨_, rfl⟩
  have eB : Ext (h ++ [ABlk.cells [AV.int IntKind.i64 0, AV.int IntKind.i64 0, AV.int IntKind.i64 0, AV.int IntKind.i64 0, AV.int IntKind.i64 0, AV.int IntKind.i64 0, AV.int IntKind.i64 0, AV.int IntKind.i64 0, AV.int IntKind.i64 0] true false]) B := by rw [hB]; exact ⟨_, rfl⟩
  have lB : h.length < B.length := by rw [hB]; simp only [List.length_append, List.length_cons, List.length_nil]; omega
  rw [← hB] at is3 ⊢
  clear hB
  have m2 := eB.some at_new
  have w1 : IntKind.i64.wrap ((A.length : Int) - 1) = ((A.length - 1 : Nat) : Int) := by rw [wrap_in (by omega) (by omega)]; omega
  have w2 : IntKind.i64.wrap ((A.length : Int) - 2) = ((A.length - 2 : Nat) : Int) := by rw [wrap_in (by omega) (by omega)]; omega
  have n0 : bnds (some (.int .i64 2)) none A.length = some (2, A.length) := by
    simp only [bnds, loN, hiN]; rw [if_pos (by omega)]; simp
  have n1 : bnds (some (.int .i64 1)) (some (.int .i64 ((A.length - 1 : Nat) : Int))) A.length = some (1, A.length - 1) := by
    simp only [bnds, loN, hiN]; rw [if_pos (by omega), Int.toNat_natCast]; rfl
  have n2 : bnds none (some (.int .i64 ((A.length - 2 : Nat) : Int))) A.length = some (0, A.length - 2) := by
    simp only [bnds, loN, hiN]; rw [if_pos (by omega), Int.toNat_natCast]; rfl
  obtain ⟨x0, q0, y0⟩ := is3.slm n0
  obtain ⟨x1, q1, y1⟩ := is3.slm n1
  obtain ⟨x2, q2, y2⟩ := is3.slm n2
  have y0 : IsSl B x0 1 ((subJ A 0).map intRow) := y0
  have y1 : IsSl B x1 1 ((subJ A 1).map intRow) := by rw [subJ, show A.length - 2 = A.length - 1 - 1 by omega]; exact y1
  have y2 : IsSl B x2 1 ((subJ A 2).map intRow) := by rw [subJ, show A.length - 2 = A.length - 2 - 0 by omega]; exact y2
  have bd : buildF (fillA [.nilSlice, .nilSlice, .nilSlice] [(0, 1, x0), (1, 1, x1), (2, 1, x2)]) = some (.agg [x0, x1, x2]) := by
    simp only [fillA, AV.cells_one y0.one, AV.cells_one y1.one, AV.cells_one y2.one]; rfl
  have hone : [x0, x1, x2].all AV.one = true := by simp [y0.one, y1.one, y2.one]
  have s5 : ∀ {b : Nat}, stB 3 0 (.agg [x0, x1, x2]) b (.cells [.nilSlice, .nilSlice, .nilSlice] true false) = some (undefA, .set b (.cells [x0, x1, x2] true false)) := fun {b} => (stB_agg rfl hone (by show 0 + 3 ≤ 3; omega)).trans rfl
  have o3 := is3.one
  refine Rs (A11 @o3 is3.lenm @q0 @w1 @q1 @w2 @q2 @bd @b3 @s5 @bz) ?_
  have l5 : loadF (some 3) (.ptr B.length 0) (fun z => (B ++ [ABlk.cells [x0, x1, x2] true false] ++ [ABlk.cells [AV.int IntKind.i64 0, AV.int IntKind.i64 0, AV.int IntKind.i64 0, AV.int IntKind.i64 0, AV.int IntKind.i64 0, AV.int IntKind.i64 0, AV.int IntKind.i64 0, AV.int IntKind.i64 0, AV.int IntKind.i64 0] true false])[z]?) = some (.agg [x0, x1, x2], .keep) := ldN (K := B ++ [ABlk.cells [x0, x1, x2] true false]) at_new rfl ⟨_, rfl⟩
  obtain ⟨C, hC⟩ : ∃ C, C = B ++ [ABlk.cells [x0, x1, x2] true false] := ⟨_, rfl⟩
  have eC : Ext B C := by rw [hC]; exact ⟨_, rfl⟩
  have m5 : C[B.length]? = some (.cells [x0, x1, x2] true false) := by rw [hC]; exact at_new
  obtain ⟨V, hV⟩ : ∃ V, V = AV.agg [x0, x1, x2] := ⟨_, rfl⟩
  obtain ⟨X, hX⟩ : ∃ X : Nat → AV, X = fun j => [x0, x1, x2].getD j .nilSlice := ⟨_, rfl⟩
  have ixX : ∀ {j : Nat}, j < 3 → ixaF 3 1 none V (.int .i64 (j : Int)) = some (X j) := fun {j} hj => by
    rw [hV, hX]; rcases three hj with rfl | rfl | rfl <;> rfl
  have isX : ∀ {j : Nat}, j < 3 → IsSl C (X j) 1 ((subJ A j).map intRow) := fun {j} hj => by
    rw [hX]; rcases three hj with rfl | rfl | rfl
    · exact y0.ext eC
    · exact y1.ext eC
    · exact y2.ext eC
  have ld5 : ∀ {k : AHeap}, Ext C k → loadF (some 3) (.ptr B.length 0) (fun z => k[z]?) = some (V, .keep) := fun {k} e => by rw [hV]; exact ldN m5 rfl e
  have z9 : [AV.int IntKind.i64 0, AV.int IntKind.i64 0, AV.int IntKind.i64 0, AV.int IntKind.i64 0, AV.int IntKind.i64 0, AV.int IntKind.i64 0, AV.int IntKind.i64 0, AV.int IntKind.i64 0, AV.int IntKind.i64 0] = smK A 0 := rfl
  obtain ⟨b5, hb5⟩ : ∃ b5, b5 = B.length := ⟨_, rfl⟩
  obtain ⟨b6, hb6⟩ : ∃ b6, b6 = C.length := ⟨_, rfl⟩
  have lBC : B.length < b6 := by rw [hb6, hC]; simp
  have m2C := eC.some m2
  rw [← hC, ← hV, ← hb5, ← hb6, z9]
  rw [← hb5] at ld5
  have m6 : (C ++ [ABlk.cells (smK A 0) true false])[b6]? = some (.cells (smK A 0) true false) := by rw [hb6]; exact at_new
  clear l5 bd s5 y0 y1 y2 q0 q1 q2 hX hC hV m5
  refine WL.inv T.mix (fun n ts K => ∃ j : Nat, j ≤ 3 ∧ n = 3 - j ∧ Ext C K ∧ K[b6]? = some (.cells (smK A (3 * j)) true false) ∧ ts.length = 46 ∧ slot ts 2 = .ptr h.length 0 ∧ slot ts 5 = .ptr b5 0 ∧ slot ts 6 = .ptr b6 0 ∧ slot ts 26 = V ∧ slot ts 27 = .int .i64 j) 3
    ⟨0, by omega, rfl, ⟨_, rfl⟩, m6, Sn, Sw, Sw, Sw, Sw, Swr⟩ ?_
  clear hlen t0 m6
  rintro _ ts K ⟨j, hj, rfl, eK, m6, hlen, t2, t5, t6, t26, t27⟩
  by_cases hjt : j < 3
  case neg =>
    have e3 : decide ((j : Int) < 3) = false := decide_eq_false (by omega)
    have e4 : j = 3 := by omega
    rw [e4] at m6
    have m6 : K[b6]? = some (.cells (sm9 A) true false) := m6
    have l6 := ldN (n := 9) m6 rfl (Ext.refl K)
    have s2 := stN (n := 9) (L := sm9 A) (eK.some m2C) rfl rfl rfl
    have l2 := ldNs (n := 9) (L := sm9 A) (eK.some m2C) rfl
    refine Rs (A9 @t2 @t5 @t6 @t26 @t27 @e3 @l6 @s2 @l2) ?_
    exact ⟨ext_set ((eB.trans eC).trans eK), trivial⟩
  have e3 : decide ((j : Int) < 3) = true := decide_eq_true (by omega)
  have e5 := wrapN (n := j) (by omega)
  have ij := ixX hjt
  have l5 := ld5 eK
  refine Rs (A8 @t2 @t5 @t6 @t26 @t27 @e3 @ij @l5) ?_
  refine WL.inv T.mix (fun n ts' K' => ∃ k : Nat, k ≤ 3 ∧ n = 3 - k ∧ Ext C K' ∧ K'[b6]? = some (.cells (smK A (3 * j + k)) true false) ∧ ts'.length = 46 ∧ slot ts' 2 = .ptr h.length 0 ∧ slot ts' 5 = .ptr b5 0 ∧ slot ts' 6 = .ptr b6 0 ∧ slot ts' 7 = .int .i64 j ∧ slot ts' 8 = X j ∧ slot ts' 26 = V ∧ slot ts' 27 = .int .i64 j ∧ slot ts' 31 = V ∧ slot ts' 32 = .int .i64 k) 3
    ⟨0, by omega, rfl, eK, m6, Sn, (Sq @t2), (Sq @t5), (Sq @t6), Sw, Sw, (Sq @t26), (Sq @t27), Sw, Swr⟩ ?_
  clear hlen t2 t5 t6 t26 t27 m6 l5 eK
  rintro _ ts' K' ⟨k, hk, rfl, eK, m6, hlen, t2, t5, t6, t7, t8, t26, t27, t31, t32⟩
  by_cases hkt : k < 3
  case neg =>
    have e6 : decide ((k : Int) < 3) = false := decide_eq_false (by omega)
    have e4 : k = 3 := by omega
    rw [e4] at m6
    refine Rs (A11 @t2 @t5 @t6 @t7 @t8 @t26 @t27 @t31 @t32 @e6 @e5) ?_
    exact ⟨3 - (j + 1), by omega, j + 1, by omega, rfl, eK, m6, rfl⟩
  have e6 : decide ((k : Int) < 3) = true := decide_eq_true (by omega)
  have e7 := wrapN (n := k) (by omega)
  have ik := ixX hkt
  refine Rs (A11 @t2 @t5 @t6 @t7 @t8 @t26 @t27 @t31 @t32 @e6 @ik) ?_
  refine WF.ce T.c122 (r122 T ((isX hjt).ext eK) ((isX hkt).ext eK) (by rw [subJ_len (by omega), subJ_len (by omega)]) (by rw [subJ_len (by omega)]; omega) (subJ_bd hb j) (subJ_bd hb k)) fun g2 => ?_
  rw [dot_sub (by omega) (by omega)]
  have eG : Ext K' (K' ++ g2) := ⟨g2, rfl⟩
  obtain ⟨Y, hY⟩ : ∃ Y, Y = K' ++ g2 := ⟨_, rfl⟩
  rw [← hY] at eG ⊢
  have m6' := eG.some m6
  have i1 : iadaF 3 3 (.ptr b6 0) (.int .i64 (j : Int)) = some (.ptr b6 (3 * j)) := by
    unfold iadaF
    simp
    omega
  have i2 : iadaF 3 1 (.ptr b6 (3 * j)) (.int .i64 (k : Int)) = some (.ptr b6 (3 * j + k)) := by
    unfold iadaF
    simp
    omega
  have hv : AV.int .i64 (smI A j k) = smV A (3 * j + k) := by
    rw [smV, show (3 * j + k) / 3 = j by omega, show (3 * j + k) % 3 = k by omega]
  have s6 : storeF 1 (.ptr b6 (3 * j + k)) (.int .i64 (smI A j k)) (fun z => Y[z]?) = some (undefA, .set b6 (.cells (smK A (3 * j + (k + 1))) true false)) := by
    rw [storeF_at m6', stB_one rfl (by rw [smK_len A (by omega)]; omega), hv, smK_set A (by omega)]; rfl
  refine Rs (A13 @t2 @t5 @t6 @t7 @t8 @t26 @t27 @t31 @t32 @i1 @i2 @s6 @e7) ?_
  exact ⟨3 - (k + 1), by omega, k + 1, by omega, rfl, ext_setG (eK.trans eG) (by omega), set_eq' m6', rfl⟩
end
end Go.Abs
namespace Go.Abs

def tri (p : Int × Int × Int) : List AV := [.int .i64 p.1, .int .i64 p.2.1, .int .i64 p.2.2]
def gcd3 (p : Int × Int × Int) : Nat := Int.gcd ((Int.gcd p.1 p.2.1 : Nat) : Int) p.2.2
def lowI (p : Int × Int × Int) : Int × Int × Int := (p.1.tdiv (gcd3 p), p.2.1.tdiv (gcd3 p), p.2.2.tdiv (gcd3 p))
theorem gcd_lt {a b : Int} {M : Nat} (ha : a.natAbs < M) (hb : b.natAbs < M) : Int.gcd a b < M := by
  show Nat.gcd a.natAbs b.natAbs < M
  by_cases h : a.natAbs = 0
  · rw [h, Nat.gcd_zero_left]; exact hb
  · exact Nat.lt_of_le_of_lt (Nat.gcd_le_left _ (by omega)) ha
theorem gcd3_bd {p : Int × Int × Int} (hd : 0 < p.2.2) : 1 ≤ ((gcd3 p : Nat) : Int) ∧ ((gcd3 p : Nat) : Int) ≤ p.2.2 := gcd_le hd
theorem tri_box {x : Int × Int × Int} {N : Nat} : boxF (.agg (tri x)) N = some (.ptr N 0, .push (.cells (tri x) true false)) := rfl
theorem tri_a {x : Int × Int × Int} : ldB (some 3) 0 (.cells (tri x) true false) = some (.agg (tri x), .keep) := rfl
theorem tri_0 {x : Int × Int × Int} : ldB none 0 (.cells (tri x) true false) = some (.int .i64 x.1, .keep) := rfl
theorem tri_1 {x : Int × Int × Int} : ldB none 1 (.cells (tri x) true false) = some (.int .i64 x.2.1, .keep) := rfl
theorem tri_2 {x : Int × Int × Int} : ldB none 2 (.cells (tri x) true false) = some (.int .i64 x.2.2, .keep) := rfl
theorem tri_st {a b c : Int} {n : Nat} {a0 a1 a2 : AV} : stB 3 0 (.agg [.int .i64 a, .int .i64 b, .int .i64 c]) n (.cells [a0, a1, a2] true false) = some (undefA, .set n (.cells [.int .i64 a, .int .i64 b, .int .i64 c] true false)) := (stB_agg (l := [.int .i64 a, .int .i64 b, .int .i64 c]) rfl rfl (by show 0 + 3 ≤ 3; omega)).trans rfl
theorem tri_sT {p : Int × Int × Int} {n : Nat} {a0 a1 a2 : AV} : stB 3 0 (.agg (tri p)) n (.cells [a0, a1, a2] true false) = some (undefA, .set n (.cells (tri p) true false)) := tri_st
theorem eq_tri {neg : Bool} {p q : Int × Int × Int} : eqvF neg (eqvK (.agg [.i, .i, .i]) (.agg (tri p)) (.agg (tri q))) = some (.bool (neg.xor (decide (p = q)))) := by
  obtain ⟨a, b, c⟩ := p
  obtain ⟨a', b', c'⟩ := q
  rw [eqA rfl rfl]
  unfold tri
  simp only [eqc_i, eqc_n, andO_s, Bool.and_true, Prod.mk.injEq]
  cases neg
  · rw [eqvF_f]
    congr 2
    by_cases h1 : a = a' <;> by_cases h2 : b = b' <;> by_cases h3 : c = c' <;> simp [h1, h2, h3]
  · rw [eqvF_t]
    congr 2
    by_cases h1 : a = a' <;> by_cases h2 : b = b' <;> by_cases h3 : c = c' <;> simp [h1, h2, h3]
theorem sm9_a {A : List Int} : ldB (some 9) 0 (.cells (sm9 A) true false) = some (.agg (sm9 A), .keep) := rfl
theorem sm9_box {A : List Int} {N : Nat} : boxF (.agg (sm9 A)) N = some (.ptr N 0, .push (.cells (sm9 A) true false)) := rfl
theorem sm9_st {A : List Int} {n : Nat} : stB 9 0 (.agg (sm9 A)) n (.cells (smK A 0) true false) = some (undefA, .set n (.cells (sm9 A) true false)) := (stB_agg rfl rfl (by show 0 + 9 ≤ 9; omega)).trans rfl
def agI (A : List Int) (p : Int × Int × Int) (k : Nat) : Int := p.2.2 * smI A 0 k - p.1 * smI A 1 k - p.2.1 * smI A 2 k
def predR (A : List Int) : (Int × Int × Int) × Int := if detI A = 0 then ((0, 0, 0), 17) else (lowI (nuA A, nuB A, detI A), 0)
theorem sm_sq {x y : Int} (hx : -524288 ≤ x ∧ x ≤ 524288) (hy : -524288 ≤ y ∧ y ≤ 524288) : -2 ^ 38 ≤ x * y ∧ x * y ≤ 2 ^ 38 := by
  have e : (x * y).natAbs ≤ 524288 * 524288 := by
    rw [Int.natAbs_mul]
    exact Nat.mul_le_mul (by omega) (by omega)
  omega
theorem sm_big {x y : Int} (hx : -2 ^ 39 ≤ x ∧ x ≤ 2 ^ 39) (hy : -524288 ≤ y ∧ y ≤ 524288) : -2 ^ 58 ≤ x * y ∧ x * y ≤ 2 ^ 58 := by
  have e : (x * y).natAbs ≤ 2 ^ 39 * 524288 := by
    rw [Int.natAbs_mul]
    exact Nat.mul_le_mul (by omega) (by omega)
  omega
theorem det_bd {A : List Int} (h : ∀ x ∈ A, -127 ≤ x ∧ x ≤ 127) (hl : A.length ≤ 32) : (-2 ^ 39 ≤ detI A ∧ detI A ≤ 2 ^ 39) ∧ (-2 ^ 39 ≤ nuA A ∧ nuA A ≤ 2 ^ 39) ∧ -2 ^ 39 ≤ nuB A ∧ nuB A ≤ 2 ^ 39 := by
  have b := fun j k => smI_bd h hl j k
  have p1 := sm_sq (b 1 1) (b 2 2)
  have p2 := sm_sq (b 1 2) (b 1 2)
  have p3 := sm_sq (b 0 1) (b 2 2)
  have p4 := sm_sq (b 0 2) (b 1 2)
  have p5 := sm_sq (b 0 2) (b 1 1)
  have p6 := sm_sq (b 0 1) (b 1 2)
  unfold detI nuA nuB
  omega
def triB (p : Int × Int × Int) : Prop := (-2 ^ 39 ≤ p.1 ∧ p.1 ≤ 2 ^ 39) ∧ (-2 ^ 39 ≤ p.2.1 ∧ p.2.1 ≤ 2 ^ 39) ∧ 0 < p.2.2 ∧ p.2.2 ≤ 2 ^ 39
theorem lowI_bd {p : Int × Int × Int} (h : triB p) : triB (lowI p) := by
  obtain ⟨h1, h2, h3, h4⟩ := h
  have g := gcd3_bd h3
  have q1 := quo_bd g.1 (n := p.1) (B := 2 ^ 39) (by omega)
  have q2 := quo_bd g.1 (n := p.2.1) (B := 2 ^ 39) (by omega)
  have q3 := quo_bd g.1 (n := p.2.2) (B := 2 ^ 39) (by omega)
  refine ⟨q1, q2, ?_, q3.2⟩
  show 0 < p.2.2.tdiv (gcd3 p)
  rw [Int.tdiv_eq_ediv_of_nonneg (by omega)]
  exact Int.ediv_pos_of_pos_of_dvd h3 (by omega) (Int.gcd_dvd_right ..)
theorem agI_bd {A : List Int} (h : ∀ x ∈ A, -127 ≤ x ∧ x ≤ 127) (hl : A.length ≤ 32) {p : Int × Int × Int} (hp : triB p) (k : Nat) : -2 ^ 60 ≤ agI A p k ∧ agI A p k ≤ 2 ^ 60 := by
  obtain ⟨h1, h2, h3, h4⟩ := hp
  have p1 := sm_big (x := p.2.2) ⟨by omega, h4⟩ (smI_bd h hl 0 k)
  have p2 := sm_big h1 (smI_bd h hl 1 k)
  have p3 := sm_big h2 (smI_bd h hl 2 k)
  unfold agI
  omega
theorem pred_tri {A : List Int} (h : ∀ x ∈ A, -127 ≤ x ∧ x ≤ 127) (hl : A.length ≤ 32) (hd : detI A ≠ 0) : triB (nuA A, nuB A, detI A) := by
  obtain ⟨b1, b2, b3⟩ := det_bd h hl
  have := det_nonneg A
  exact ⟨b2, b3, by show 0 < detI A; omega, b1.2⟩
set_option maxRecDepth 10000
attribute [local irreducible] WP WC WE WB WR WF WL WG WRg WQ
section
variable {P : Program} (T : Tbl P) {h : AHeap}
include T
set_option maxHeartbeats 2000000 in
theorem r150 {p : Int × Int × Int} (hp : triB p) : RCall P 150 [.agg (tri p)] h (fun v _ => v = .agg (tri (lowI p))) := by
  obtain ⟨h1, h2, h3, h4⟩ := hp
  refine .st1 25 T.mix T.c150 ?_;intro ts hlen t0;unfold fn150
  have g := gcd3_bd h3
  have q1 := quo_bd g.1 (n := p.1) (B := 2 ^ 39) (by omega)
  have q2 := quo_bd g.1 (n := p.2.1) (B := 2 ^ 39) (by omega)
  have q3 := quo_bd g.1 (n := p.2.2) (B := 2 ^ 39) (by omega)
  have hlt := gcd_lt (a := p.1) (b := p.2.1) (M := 2 ^ 62) (by omega) (by omega)
  have bz : ∀ {N : Nat}, boxF (.agg [.int .i64 0, .int .i64 0, .int .i64 0]) N = some (.ptr N 0, .push (.cells [.int .i64 0, .int .i64 0, .int .i64 0] true false)) := fun {N} => rfl
  refine Rs (A5 @t0 @tri_box @bz @tri_0 @tri_1) ?_
  refine WF.ce T.c186 (r186 T p.1 p.2.1 (by omega) (by omega)) fun g1 => ?_
  refine Rs (A2 @t0 @tri_2) ?_
  refine WF.ce T.c186 (r186 T _ p.2.2 (by omega) (by omega)) fun g2 => ?_
  obtain ⟨G, hG⟩ : ∃ G : Int, G = ((gcd3 p : Nat) : Int) := ⟨_, rfl⟩
  have hG' : ((Int.gcd ((Int.gcd p.1 p.2.1 : Nat) : Int) p.2.2 : Nat) : Int) = G := hG.symm
  have hlow : lowI p = (p.1.tdiv G, p.2.1.tdiv G, p.2.2.tdiv G) := by rw [hG]; rfl
  rw [← hG] at g q1 q2 q3
  rw [hG', hlow]
  have hz : G ≠ 0 := by omega
  have b1 : binK .quo (.int .i64 p.1) (.int .i64 G) = some (.int .i64 (p.1.tdiv G)) := by rw [bin_quo hz, wrap_in (by omega) (by omega)]
  have b2 : binK .quo (.int .i64 p.2.1) (.int .i64 G) = some (.int .i64 (p.2.1.tdiv G)) := by rw [bin_quo hz, wrap_in (by omega) (by omega)]
  have b3 : binK .quo (.int .i64 p.2.2) (.int .i64 G) = some (.int .i64 (p.2.2.tdiv G)) := by rw [bin_quo hz, wrap_in (by omega) (by omega)]
  have bd : buildF (fillA [.int .i64 0, .int .i64 0, .int .i64 0] [(0, 1, .int .i64 (p.1.tdiv G)), (1, 1, .int .i64 (p.2.1.tdiv G)), (2, 1, .int .i64 (p.2.2.tdiv G))]) = some (.agg (tri (p.1.tdiv G, p.2.1.tdiv G, p.2.2.tdiv G))) := rfl
  have sT := fun {n : Nat} {a0 a1 a2 : AV} => @tri_sT (p.1.tdiv G, p.2.1.tdiv G, p.2.2.tdiv G) n a0 a1 a2
  refine Rs (A10 @t0 @tri_0 @tri_1 @tri_2 @b1 @b2 @b3 @bd @sT @tri_a) ?_
  rfl
set_option maxHeartbeats 2000000 in
theorem r151 {A : List Int} (hA : ∀ x ∈ A, -127 ≤ x ∧ x ≤ 127) (hl : A.length ≤ 32) {p : Int × Int × Int} (hp : triB p) {k : Nat} (hk : k < 3) : RCall P 151 [.agg (tri p), .agg (sm9 A), .int .i64 (k : Int)] h (fun v _ => v = .int .i64 (agI A p k)) := by
  obtain ⟨h1, h2, h3, h4⟩ := id hp
  refine .st3 30 T.mix T.c151 ?_;intro ts hlen t0 t1 t2;unfold fn151
  have p1 := sm_big (x := p.2.2) ⟨by omega, h4⟩ (smI_bd hA hl 0 k)
  have p2 := sm_big h1 (smI_bd hA hl 1 k)
  have p3 := sm_big h2 (smI_bd hA hl 2 k)
  have i0 : ∀ {N : Nat}, iadaF 3 3 (.ptr N 0) (.int .i64 0) = some (.ptr N (3 * 0)) := fun {N} => rfl
  have i1 : ∀ {N : Nat}, iadaF 3 3 (.ptr N 0) (.int .i64 1) = some (.ptr N (3 * 1)) := fun {N} => rfl
  have i2 : ∀ {N : Nat}, iadaF 3 3 (.ptr N 0) (.int .i64 2) = some (.ptr N (3 * 2)) := fun {N} => rfl
  have j0 : ∀ {N : Nat}, iadaF 3 1 (.ptr N 0) (.int .i64 (k : Int)) = some (.ptr N (0 + k)) := fun {N} => by unfold iadaF; simp; omega
  have j1 : ∀ {N : Nat}, iadaF 3 1 (.ptr N 3) (.int .i64 (k : Int)) = some (.ptr N (3 + k)) := fun {N} => by unfold iadaF; simp; omega
  have j2 : ∀ {N : Nat}, iadaF 3 1 (.ptr N 6) (.int .i64 (k : Int)) = some (.ptr N (6 + k)) := fun {N} => by unfold iadaF; simp; omega
  have l0 : ldV (sm9 A)[k]? = some (.int .i64 (smI A 0 k), .keep) := by rcases three hk with rfl | rfl | rfl <;> rfl
  have l1 : ldV (sm9 A)[3 + k]? = some (.int .i64 (smI A 1 k), .keep) := by rcases three hk with rfl | rfl | rfl <;> rfl
  have l2 : ldV (sm9 A)[6 + k]? = some (.int .i64 (smI A 2 k), .keep) := by rcases three hk with rfl | rfl | rfl <;> rfl
  have w1 : IntKind.i64.wrap (p.2.2 * smI A 0 k) = p.2.2 * smI A 0 k := wrap_in (by omega) (by omega)
  have w2 : IntKind.i64.wrap (p.1 * smI A 1 k) = p.1 * smI A 1 k := wrap_in (by omega) (by omega)
  have w3 : IntKind.i64.wrap (p.2.1 * smI A 2 k) = p.2.1 * smI A 2 k := wrap_in (by omega) (by omega)
  have w4 : IntKind.i64.wrap (p.2.2 * smI A 0 k - p.1 * smI A 1 k) = p.2.2 * smI A 0 k - p.1 * smI A 1 k := wrap_in (by omega) (by omega)
  have w5 : IntKind.i64.wrap (p.2.2 * smI A 0 k - p.1 * smI A 1 k - p.2.1 * smI A 2 k) = agI A p k := wrap_in (by omega) (by omega)
  exact Rs (A22 @t0 @t1 @t2 @tri_box @sm9_box @tri_0 @tri_1 @tri_2 @i0 @i1 @i2 @j0 @j1 @j2 @l0 @l1 @l2 @w1 @w2 @w3 @w4 @w5) trivial
set_option maxHeartbeats 4000000 in
theorem r66 {s : AV} {l : List Nat} (hs : IsSl h s 1 (l.map fltR)) (hl : l.length < 2 ^ 40) : RCall P 66 [s] h (fun v _ => v = .tup [.agg (tri (if fitE l = 0 then (predR (l.map gridN)).1 else (0, 0, 0))), .int .i64 (if fitE l = 0 then (predR (l.map gridN)).2 else fitE l)]) := by
  refine .st1 66 T.mix T.c66 ?_;intro ts hlen t0;unfold fn66
  have bz : ∀ {N : Nat}, boxF (.agg [.int .i64 0, .int .i64 0, .int .i64 0]) N = some (.ptr N 0, .push (.cells (tri (0, 0, 0)) true false)) := fun {N} => rfl
  have b9 : ∀ {N : Nat}, boxF (.agg [.int .i64 0, .int .i64 0, .int .i64 0, .int .i64 0, .int .i64 0, .int .i64 0, .int .i64 0, .int .i64 0, .int .i64 0]) N = some (.ptr N 0, .push (.cells (smK (l.map gridN) 0) true false)) := fun {N} => rfl
  refine Rs (A2 @t0 @bz) ?_
  refine WF.ce T.c148 (r148 T (hs.ext Xx) hl) fun g1 => ?_
  obtain ⟨K, hK⟩ : ∃ K, K = h ++ [ABlk.cells (tri (0, 0, 0)) true false] ++ g1 := ⟨_, rfl⟩
  have eK : Ext (h ++ [ABlk.cells (tri (0, 0, 0)) true false]) K := by rw [hK]; exact Xx
  rw [← hK]
  clear hK
  by_cases hz : fitE l = 0
  case neg =>
    have d1 : decide (fitE l ≠ 0) = true := decide_eq_true hz
    rw [if_neg hz, if_neg hz]
    have m2 := eK.some at_new
    have s2 := stN (n := 3) (L := [.int .i64 0, .int .i64 0, .int .i64 0]) m2 rfl rfl rfl
    have l2 := ldNs (n := 3) (L := [.int .i64 0, .int .i64 0, .int .i64 0]) m2 rfl
    refine Rs (A4 @t0 @d1 @s2 @l2) ?_
    exact ⟨ext_set eK, rfl⟩
  have d1 : decide (fitE l ≠ 0) = false := decide_eq_false fun z => z hz
  have ok := fitE_z hz
  rw [if_pos hz, if_pos hz]
  have hsK := hs.ext (Ext.trans ⟨_, rfl⟩ eK)
  refine Rs (A2 @t0 @d1) ?_
  refine WF.ce T.c149 (r149 T hsK ok) fun g2 => ?_
  obtain ⟨A, hA⟩ : ∃ A, A = l.map gridN := ⟨_, rfl⟩
  have hAl : A.length = l.length := by rw [hA]; simp
  have hb := ok.r
  have hl2 := ok.l2
  rw [← hA] at b9 hb ⊢
  rw [← hAl] at hl2
  have st9 := fun {n : Nat} => @sm9_st A n
  have c := smI_bd hb hl2
  have p1 := sm_sq (c 1 1) (c 2 2)
  have p2 := sm_sq (c 1 2) (c 1 2)
  have p3 := sm_sq (c 0 1) (c 2 2)
  have p4 := sm_sq (c 0 2) (c 1 2)
  have p5 := sm_sq (c 0 2) (c 1 1)
  have p6 := sm_sq (c 0 1) (c 1 2)
  have w1 : IntKind.i64.wrap (smI A 1 1 * smI A 2 2) = smI A 1 1 * smI A 2 2 := wrap_in (by omega) (by omega)
  have w2 : IntKind.i64.wrap (smI A 1 2 * smI A 1 2) = smI A 1 2 * smI A 1 2 := wrap_in (by omega) (by omega)
  have w3 : IntKind.i64.wrap (smI A 0 1 * smI A 2 2) = smI A 0 1 * smI A 2 2 := wrap_in (by omega) (by omega)
  have w4 : IntKind.i64.wrap (smI A 0 2 * smI A 1 2) = smI A 0 2 * smI A 1 2 := wrap_in (by omega) (by omega)
  have w5 : IntKind.i64.wrap (smI A 0 2 * smI A 1 1) = smI A 0 2 * smI A 1 1 := wrap_in (by omega) (by omega)
  have w6 : IntKind.i64.wrap (smI A 0 1 * smI A 1 2) = smI A 0 1 * smI A 1 2 := wrap_in (by omega) (by omega)
  have w7 : IntKind.i64.wrap (smI A 1 1 * smI A 2 2 - smI A 1 2 * smI A 1 2) = detI A := wrap_in (by omega) (by omega)
  have w8 : IntKind.i64.wrap (smI A 0 1 * smI A 2 2 - smI A 0 2 * smI A 1 2) = nuA A := wrap_in (by omega) (by omega)
  have w9 : IntKind.i64.wrap (smI A 0 2 * smI A 1 1 - smI A 0 1 * smI A 1 2) = nuB A := wrap_in (by omega) (by omega)
  have v1 : ldB none 1 (.cells (sm9 A) true false) = some (.int .i64 (smI A 0 1), .keep) := rfl
  have v2 : ldB none 2 (.cells (sm9 A) true false) = some (.int .i64 (smI A 0 2), .keep) := rfl
  have v4 : ldB none 4 (.cells (sm9 A) true false) = some (.int .i64 (smI A 1 1), .keep) := rfl
  have v5 : ldB none 5 (.cells (sm9 A) true false) = some (.int .i64 (smI A 1 2), .keep) := rfl
  have v8 : ldB none 8 (.cells (sm9 A) true false) = some (.int .i64 (smI A 2 2), .keep) := rfl
  have i0 : ∀ {N : Nat}, iadaF 3 3 (.ptr N 0) (.int .i64 0) = some (.ptr N 0) := fun {N} => rfl
  have i1 : ∀ {N : Nat}, iadaF 3 3 (.ptr N 0) (.int .i64 1) = some (.ptr N 3) := fun {N} => rfl
  have i2 : ∀ {N : Nat}, iadaF 3 3 (.ptr N 0) (.int .i64 2) = some (.ptr N 6) := fun {N} => rfl
  have j1 : ∀ {N o : Nat}, iadaF 3 1 (.ptr N o) (.int .i64 1) = some (.ptr N (o + 1)) := fun {N o} => rfl
  have j2 : ∀ {N o : Nat}, iadaF 3 1 (.ptr N o) (.int .i64 2) = some (.ptr N (o + 2)) := fun {N o} => rfl
  refine Rs (A3 @t0 @b9 @st9) ?_
  obtain ⟨K2, hK2⟩ : ∃ K2, K2 = K ++ g2 ++ [ABlk.cells (sm9 A) true false] := ⟨_, rfl⟩
  have eK2 : Ext K K2 := by rw [hK2]; exact Xx
  have m5 : K2[(K ++ g2).length]? = some (.cells (sm9 A) true false) := by rw [hK2]; exact at_new
  have l5 := @ldx _ _ _ m5
  obtain ⟨b5, hb5⟩ : ∃ b5, b5 = (K ++ g2).length := ⟨_, rfl⟩
  rw [← hb5] at l5
  rw [← hK2, ← hb5]
  clear hK2 m5
  have eY := eK.trans eK2
  by_cases hd : detI A = 0
  · have d2 : decide (detI A = 0) = true := decide_eq_true hd
    have e2 : predR A = ((0, 0, 0), 17) := if_pos hd
    rw [e2]
    have m2 := eY.some at_new
    have s2 := stN (n := 3) (L := [.int .i64 0, .int .i64 0, .int .i64 0]) m2 rfl rfl rfl
    have l2 := ldNs (n := 3) (L := [.int .i64 0, .int .i64 0, .int .i64 0]) m2 rfl
    refine Rs (A15 @t0 @i1 @i2 @j1 @j2 @l5 @v4 @v5 @v8 @w1 @w2 @w7 @d2 @s2 @l2) ?_
    exact ⟨ext_set eY, rfl⟩
  have d2 : decide (detI A = 0) = false := decide_eq_false hd
  have e2 : predR A = (lowI (nuA A, nuB A, detI A), 0) := if_neg hd
  rw [e2]
  have bd : buildF (fillA [.int .i64 0, .int .i64 0, .int .i64 0] [(0, 1, .int .i64 (nuA A)), (1, 1, .int .i64 (nuB A)), (2, 1, .int .i64 (detI A))]) = some (.agg (tri (nuA A, nuB A, detI A))) := rfl
  refine Rs (A23 @t0 @i0 @i1 @i2 @j1 @j2 @l5 @v1 @v2 @v4 @v5 @v8 @w1 @w2 @w3 @w4 @w5 @w6 @w7 @w8 @w9 @d2 @bd) ?_
  refine WF.ce T.c150 (r150 T (pred_tri hb hl2 hd)) fun g3 => ?_
  have eY := eY.trans (show Ext K2 (K2 ++ g3) from ⟨_, rfl⟩)
  obtain ⟨Y, hY⟩ : ∃ Y, Y = K2 ++ g3 := ⟨_, rfl⟩
  rw [← hY] at eY ⊢
  have m2 := eY.some at_new
  have s2 := stN (n := 3) (L := tri (lowI (nuA A, nuB A, detI A))) m2 rfl rfl rfl
  have l2 := ldNs (n := 3) (L := tri (lowI (nuA A, nuB A, detI A))) m2 rfl
  refine Rs (A3 @t0 @s2 @l2) ?_
  exact ⟨ext_set eY, trivial⟩
end
end Go.Abs
namespace Go.Abs

def rngN (n : Int) : Int := rangeS n (-549755813888) 549755813888
noncomputable def cp4 (l : List Nat) (p : Int × Int × Int) : Int := firstS [fitE l, rngN p.1, rngN p.2.1, rangeS p.2.2 1 274877906944]
def cp2 (A : List Int) (p : Int × Int × Int) : Int := firstS [whenS (decide (gcd3 p ≠ 1)) 1, whenS (decide (agI A p 1 ≠ 0) || decide (agI A p 2 ≠ 0)) 19]
noncomputable def cpE (l : List Nat) (p : Int × Int × Int) : Int := if cp4 l p = 0 then cp2 (l.map gridN) p else cp4 l p
theorem first4 {a b c d : Int} (h : firstS [a, b, c, d] = 0) : a = 0 ∧ b = 0 ∧ c = 0 ∧ d = 0 := by
  by_cases ha : a = 0
  · rw [first_cons0 ha] at h
    exact ⟨ha, first3 h⟩
  · rw [first_consN ha] at h; exact absurd h ha
theorem cp4_z {l : List Nat} {p : Int × Int × Int} (h : cp4 l p = 0) : FitOk l ∧ triB p := by
  obtain ⟨h1, h2, h3, h4⟩ := first4 h
  have a := rangeS_z.1 h2
  have b := rangeS_z.1 h3
  have c := rangeS_z.1 h4
  exact ⟨fitE_z h1, ⟨by omega, by omega⟩, ⟨by omega, by omega⟩, by omega, by omega⟩
theorem low_eq {p : Int × Int × Int} (h : 0 < p.2.2) : decide (lowI p = p) = decide (gcd3 p = 1) := by
  refine decide_eq_decide.2 ⟨fun e => ?_, fun e => ?_⟩
  · have h2 : p.2.2.tdiv (gcd3 p) = p.2.2 := congrArg (fun x => x.2.2) e
    have g := gcd3_bd h
    rw [Int.tdiv_eq_ediv_of_nonneg (by omega)] at h2
    have hd : ((gcd3 p : Nat) : Int) ∣ p.2.2 := Int.gcd_dvd_right ..
    have h3 := Int.ediv_mul_cancel hd
    rw [h2] at h3
    have : p.2.2 * ((gcd3 p : Nat) : Int) = p.2.2 * 1 := by rw [Int.mul_one]; exact h3
    have := Int.eq_of_mul_eq_mul_left (by omega) this
    omega
  · unfold lowI
    rw [e]
    simp
def errR (A : List Int) : (Int × Int) × Int := if detI A = 0 then ((0, 0), 17) else (ratI (agI A (lowI (nuA A, nuB A, detI A)) 0) (lowI (nuA A, nuB A, detI A)).2.2, 0)
set_option maxRecDepth 10000
attribute [local irreducible] WP WC WE WB WR WF WL WG WRg WQ
section
variable {P : Program} (T : Tbl P) {h : AHeap}
include T
set_option maxHeartbeats 4000000 in
theorem r73 {s : AV} {l : List Nat} (hs : IsSl h s 1 (l.map fltR)) (hl : l.length < 2 ^ 40) (p : Int × Int × Int) : RCall P 73 [s, .agg (tri p)] h (fun v _ => v = .int .i64 (cpE l p)) := by
  refine .st2 43 T.mix T.c73 ?_;intro ts hlen t0 t1;unfold fn73
  refine Rs (A3 @t0 @t1 @tri_box) ?_
  refine WF.ce T.c148 (r148 T (hs.ext Xx) hl) fun g1 => ?_
  refine Rs (A2 @t0 @tri_0) ?_
  refine WF.ce T.c120 (r120 T _ _ _) fun g2 => ?_
  refine Rs (A2 @t0 @tri_1) ?_
  refine WF.ce T.c120 (r120 T _ _ _) fun g3 => ?_
  refine Rs (A2 @t0 @tri_2) ?_
  refine WF.ce T.c120 (r120 T _ _ _) fun g4 => ?_
  refine Rs @t0 ?_
  refine WF.ce T.c116 (r116 T (isSl_ints [_, _, _, _]) (by simp)) fun g5 => ?_
  have hE : firstS [fitE l, rangeS p.1 (-549755813888) 549755813888, rangeS p.2.1 (-549755813888) 549755813888, rangeS p.2.2 1 274877906944] = cp4 l p := rfl
  rw [hE]
  obtain ⟨K, hK⟩ : ∃ K, K = h ++ [ABlk.cells (tri p) true false] ++ g1 ++ g2 ++ g3 ++ g4 ++ [ABlk.cells [AV.int IntKind.i64 (fitE l), AV.int IntKind.i64 (rangeS p.1 (-549755813888) 549755813888), AV.int IntKind.i64 (rangeS p.2.1 (-549755813888) 549755813888), AV.int IntKind.i64 (rangeS p.2.2 1 274877906944)] true true] ++ g5 := ⟨_, rfl⟩
  have eK : Ext (h ++ [ABlk.cells (tri p) true false]) K := by rw [hK]; exact Xx
  rw [← hK]
  clear hK
  by_cases hz : cp4 l p = 0
  case neg =>
    have d1 : decide (cp4 l p ≠ 0) = true := decide_eq_true hz
    rw [show cpE l p = cp4 l p from if_neg hz]
    refine Rs (A2 @t0 @d1) ?_
    exact ⟨Ext.trans ⟨_, rfl⟩ eK, trivial⟩
  have d1 : decide (cp4 l p ≠ 0) = false := decide_eq_false fun z => z hz
  rw [show cpE l p = cp2 (l.map gridN) p from if_pos hz]
  obtain ⟨ok, hp⟩ := cp4_z hz
  have hsK := hs.ext (Ext.trans ⟨_, rfl⟩ eK)
  have b9 : ∀ {N : Nat}, boxF (.agg [.int .i64 0, .int .i64 0, .int .i64 0, .int .i64 0, .int .i64 0, .int .i64 0, .int .i64 0, .int .i64 0, .int .i64 0]) N = some (.ptr N 0, .push (.cells (smK (l.map gridN) 0) true false)) := fun {N} => rfl
  refine Rs (A2 @t0 @d1) ?_
  refine WF.ce T.c149 (r149 T hsK ok) fun g6 => ?_
  obtain ⟨A, hA⟩ : ∃ A, A = l.map gridN := ⟨_, rfl⟩
  have hAl : A.length = l.length := by rw [hA]; simp
  have hb := ok.r
  have hl2 := ok.l2
  rw [← hA] at b9 hb ⊢
  rw [← hAl] at hl2
  have st9 := fun {n : Nat} => @sm9_st A n
  refine Rs (A3 @t0 @b9 @st9) ?_
  obtain ⟨K2, hK2⟩ : ∃ K2, K2 = K ++ g6 ++ [ABlk.cells (sm9 A) true false] := ⟨_, rfl⟩
  have eK2 : Ext K K2 := by rw [hK2]; exact Xx
  have m6 : K2[(K ++ g6).length]? = some (.cells (sm9 A) true false) := by rw [hK2]; exact at_new
  have l6 := @ldx _ _ _ m6
  have l3 := @ldx _ _ _ ((eK.trans eK2).some at_new)
  obtain ⟨b6, hb6⟩ : ∃ b6, b6 = (K ++ g6).length := ⟨_, rfl⟩
  rw [← hb6] at l6
  rw [← hK2, ← hb6]
  clear hK2 m6
  have ehK : Ext h K2 := Ext.trans ⟨_, rfl⟩ (eK.trans eK2)
  refine Rs (A2 @l3 @tri_a) ?_
  refine WF.ce T.c150 (r150 T hp) fun g7 => ?_
  have eq := @eq_tri true (lowI p) p
  have hx : (true ^^ decide (lowI p = p)) = decide (gcd3 p ≠ 1) := by
    rw [low_eq hp.2.2.1]
    by_cases h1 : gcd3 p = 1 <;> simp [h1]
  rw [hx] at eq
  refine Rs (A3 @l3 @tri_a @eq) ?_
  refine WF.ce T.c117 (r117 T _ _) fun g8 => ?_
  refine Rs (A4 @l3 @tri_a @l6 @sm9_a) ?_
  refine WF.ce T.c151 (r151 T hb hl2 hp (k := 1) (by omega)) fun g9 => ?_
  obtain ⟨Y, hY⟩ : ∃ Y, Y = K2 ++ g7 ++ g8 ++ g9 := ⟨_, rfl⟩
  have eY : Ext K2 Y := by rw [hY]; exact Xx
  rw [← hY]
  clear hY
  have l6 := fun {k : AHeap} {n : Option Nat} {a : Nat} (e : Ext Y k) => @l6 k n a (eY.trans e)
  have l3 := fun {k : AHeap} {n : Option Nat} {a : Nat} (e : Ext Y k) => @l3 k n a (eY.trans e)
  by_cases h1 : agI A p 1 = 0
  · have d2 : decide (agI A p 1 ≠ 0) = false := decide_eq_false fun z => z h1
    refine Rs (A5 @d2 @l3 @tri_a @l6 @sm9_a) ?_
    refine WF.ce T.c151 (r151 T hb hl2 hp (k := 2) (by omega)) fun g10 => ?_
    refine Rs @d2 ?_
    refine WF.ce T.c117 (r117 T _ _) fun g11 => ?_
    refine Rs @d2 ?_
    refine WF.ce T.c116 (r116 T (isSl_ints [_, _]) (by simp)) fun g12 => ?_
    refine Rs @d2 ?_
    exact ⟨ehK.trans (eY.trans Xx), by rw [cp2, d2, Bool.false_or]⟩
  · have d2 : decide (agI A p 1 ≠ 0) = true := decide_eq_true h1
    refine Rs @d2 ?_
    refine WF.ce T.c117 (r117 T _ _) fun g11 => ?_
    refine Rs @d2 ?_
    refine WF.ce T.c116 (r116 T (isSl_ints [_, _]) (by simp)) fun g12 => ?_
    refine Rs @d2 ?_
    exact ⟨ehK.trans (eY.trans Xx), by rw [cp2, d2, Bool.true_or]⟩
set_option maxHeartbeats 4000000 in
theorem r67 {s : AV} {l : List Nat} (hs : IsSl h s 1 (l.map fltR)) (hl : l.length < 2 ^ 40) : RCall P 67 [s] h (fun v _ => v = .tup [.agg (ratR (if fitE l = 0 then (errR (l.map gridN)).1 else (0, 0))), .int .i64 (if fitE l = 0 then (errR (l.map gridN)).2 else fitE l)]) := by
  refine .st1 22 T.mix T.c67 ?_;intro ts hlen t0;unfold fn67
  have bz2 : ∀ {N : Nat}, boxF (.agg [.int .i64 0, .int .i64 0]) N = some (.ptr N 0, .push (.cells (ratR (0, 0)) true false)) := fun {N} => rfl
  have bz : ∀ {N : Nat}, boxF (.agg [.int .i64 0, .int .i64 0, .int .i64 0]) N = some (.ptr N 0, .push (.cells (tri (0, 0, 0)) true false)) := fun {N} => rfl
  refine Rs (A2 @t0 @bz2) ?_
  refine WF.ce T.c66 (r66 T (hs.ext Xx) hl) fun g1 => ?_
  obtain ⟨K, hK⟩ : ∃ K, K = h ++ [ABlk.cells (ratR (0, 0)) true false] ++ g1 := ⟨_, rfl⟩
  have eK : Ext (h ++ [ABlk.cells (ratR (0, 0)) true false]) K := by rw [hK]; exact Xx
  rw [← hK]
  clear hK
  have hsK := hs.ext (Ext.trans ⟨_, rfl⟩ eK)
  obtain ⟨p, hp⟩ : ∃ p, p = (if fitE l = 0 then (predR (l.map gridN)).1 else (0, 0, 0)) := ⟨_, rfl⟩
  obtain ⟨e, he⟩ : ∃ e, e = (if fitE l = 0 then (predR (l.map gridN)).2 else fitE l) := ⟨_, rfl⟩
  have sT := fun {n : Nat} {a0 a1 a2 : AV} => @tri_sT p n a0 a1 a2
  have sT' : ∀ {n : Nat}, stB 3 0 (.agg (tri p)) n (.cells (tri (0, 0, 0)) true false) = some (undefA, .set n (.cells (tri p) true false)) := fun {n} => tri_sT
  rw [← hp, ← he]
  refine Rs (A3 @t0 @bz @sT') ?_
  obtain ⟨K2, hK2⟩ : ∃ K2, K2 = K ++ [ABlk.cells (tri p) true false] := ⟨_, rfl⟩
  have eK2 : Ext K K2 := by rw [hK2]; exact Xx
  have m4 : K2[K.length]? = some (.cells (tri p) true false) := by rw [hK2]; exact at_new
  have l4 := @ldx _ _ _ m4
  obtain ⟨b4, hb4⟩ : ∃ b4, b4 = K.length := ⟨_, rfl⟩
  rw [← hb4] at l4
  rw [← hK2, ← hb4]
  clear hK2 m4
  have eY := eK.trans eK2
  have er : (if e = 0 then (errR (l.map gridN)).1 else (0, 0)) = (if fitE l = 0 then (errR (l.map gridN)).1 else (0, 0)) ∧ (if fitE l = 0 then (errR (l.map gridN)).2 else fitE l) = e := by
    rw [he]
    by_cases hz : fitE l = 0
    · simp only [if_pos hz]
      unfold predR errR
      by_cases hd : detI (l.map gridN) = 0
      · simp [hd]
      · simp [hd]
    · simp only [if_neg hz]; exact ⟨trivial, trivial⟩
  rw [← er.1, er.2]
  by_cases hz : e = 0
  case neg =>
    have d1 : decide (e ≠ 0) = true := decide_eq_true hz
    rw [if_neg hz]
    have m2 := eY.some at_new
    have s2 := stN (n := 2) (L := [.int .i64 0, .int .i64 0]) m2 rfl rfl rfl
    have l2 := ldNs (n := 2) (L := [.int .i64 0, .int .i64 0]) m2 rfl
    refine Rs (A4 @t0 @d1 @s2 @l2) ?_
    exact ⟨ext_set eY, rfl⟩
  have d1 : decide (e ≠ 0) = false := decide_eq_false fun z => z hz
  rw [if_pos hz]
  have hf : fitE l = 0 := by
    by_cases hf : fitE l = 0
    · exact hf
    · rw [if_neg hf] at he; rw [he] at hz; exact hz
  rw [if_pos hf] at hp he
  have hd : detI (l.map gridN) ≠ 0 := fun z => by
    rw [predR, if_pos z] at he
    rw [he] at hz; cases hz
  have ok := fitE_z hf
  obtain ⟨A, hA⟩ : ∃ A, A = l.map gridN := ⟨_, rfl⟩
  have hAl : A.length = l.length := by rw [hA]; simp
  have hb := ok.r
  have hl2 := ok.l2
  rw [← hA] at hb hp hd ⊢
  rw [← hAl] at hl2
  have hp : p = lowI (nuA A, nuB A, detI A) := by rw [hp, predR, if_neg hd]
  have tb : triB p := by rw [hp]; exact lowI_bd (pred_tri hb hl2 hd)
  have hE : (errR A).1 = ratI (agI A p 0) p.2.2 := by rw [errR, if_neg hd, ← hp]
  rw [hE]
  have ab := agI_bd hb hl2 tb 0
  obtain ⟨_, _, p3, p4⟩ := id tb
  refine Rs (A4 @t0 @d1 @l4 @tri_a) ?_
  refine WF.ce T.c149 (r149 T (hsK.ext eK2) ok) fun g2 => ?_
  rw [← hA]
  refine Rs @t0 ?_
  refine WF.ce T.c151 (r151 T hb hl2 tb (k := 0) (by omega)) fun g3 => ?_
  refine Rs (A3 @t0 @l4 @tri_2) ?_
  refine WF.ce T.c129 (r129 T _ _ (by omega) (by omega) (by omega)) fun g4 => ?_
  have eY := eY.trans (show Ext K2 (K2 ++ g2 ++ g3 ++ g4) from Xx)
  obtain ⟨Y, hY⟩ : ∃ Y, Y = K2 ++ g2 ++ g3 ++ g4 := ⟨_, rfl⟩
  rw [← hY] at eY ⊢
  have m2 := eY.some at_new
  have s2 := stN (n := 2) (L := ratR (ratI (agI A p 0) p.2.2)) m2 rfl rfl rfl
  have l2 := ldNs (n := 2) (L := ratR (ratI (agI A p 0) p.2.2)) m2 rfl
  refine Rs (A3 @t0 @s2 @l2) ?_
  exact ⟨ext_set eY, by rw [hz]⟩
end
end Go.Abs
namespace Go.Abs

theorem gcd3_ref (p : Int × Int × Int) : Int.gcd ((Int.gcd p.2.2 p.1 : Nat) : Int) p.2.1 = gcd3 p := by
  show Nat.gcd (Nat.gcd p.2.2.natAbs p.1.natAbs) p.2.1.natAbs = Nat.gcd (Nat.gcd p.1.natAbs p.2.1.natAbs) p.2.2.natAbs
  rw [Nat.gcd_assoc, Nat.gcd_comm]
def rg3 (p : Int × Int × Int) : Int := firstS [rngN p.1, rngN p.2.1, rangeS p.2.2 1 274877906944]
def cfE (p : Int × Int × Int) : Int := if rg3 p = 0 then whenS (decide (gcd3 p ≠ 1)) 1 else rg3 p
def cqE (A : List Int) (p : Int × Int × Int) : Int := whenS (decide (agI A p 1 ≠ 0) || decide (agI A p 2 ≠ 0)) 19
noncomputable def ck0 (l : List Nat) (p : Int × Int × Int) : Int := firstS [fitE l, cfE p]
theorem cp_all (l : List Nat) (p : Int × Int × Int) : (if ck0 l p = 0 then cqE (l.map gridN) p else ck0 l p) = cpE l p := by
  unfold cpE cp4 ck0
  by_cases hf : fitE l = 0
  case neg =>
    rw [first_consN hf, first_consN hf, if_neg hf, if_neg hf]
  rw [first_cons0 hf, first_cons0 hf, first_one]
  show (if cfE p = 0 then cqE (l.map gridN) p else cfE p) = (if rg3 p = 0 then cp2 (l.map gridN) p else rg3 p)
  unfold cfE
  by_cases hr : rg3 p = 0
  case neg => rw [if_neg hr, if_neg hr, if_neg hr]
  rw [if_pos hr, if_pos hr]
  by_cases hg : gcd3 p = 1
  · have d : decide (gcd3 p ≠ 1) = false := decide_eq_false fun z => z hg
    rw [cp2, d, if_pos (show whenS false 1 = 0 from rfl), first_cons0 (show whenS false 1 = 0 from rfl), first_one]; rfl
  · have d : decide (gcd3 p ≠ 1) = true := decide_eq_true hg
    rw [cp2, d, if_neg (show ¬ whenS true 1 = 0 by decide), first_consN (show whenS true 1 ≠ 0 by decide)]
theorem ck0_z {l : List Nat} {p : Int × Int × Int} (h : ck0 l p = 0) : FitOk l ∧ triB p := by
  obtain ⟨h1, h2⟩ := first2 h
  unfold cfE at h2
  by_cases hr : rg3 p = 0
  · obtain ⟨a, b, c⟩ := first3 hr
    have a := rangeS_z.1 a
    have b := rangeS_z.1 b
    have c := rangeS_z.1 c
    exact ⟨fitE_z h1, ⟨by omega, by omega⟩, ⟨by omega, by omega⟩, by omega, by omega⟩
  · rw [if_neg hr] at h2; exact absurd h2 hr
set_option maxRecDepth 10000
attribute [local irreducible] WP WC WE WB WR WF WL WG WRg WQ
section
variable {P : Program} (T : Tbl P) {h : AHeap}
include T
set_option maxHeartbeats 2000000 in
theorem r154 {s : AV} {A : List Int} (hs : IsSl h s 1 (A.map intRow)) (hl1 : 3 ≤ A.length) (hl : A.length ≤ 32) (hA : ∀ x ∈ A, -127 ≤ x ∧ x ≤ 127) : RCall P 154 [s] h (fun v _ => v = .int .i64 (detI A)) := by
  refine .st1 14 T.mix T.c154 ?_;intro ts hlen t0;unfold fn154
  have c := smI_bd hA hl
  have p1 := sm_sq (c 1 1) (c 2 2)
  have p2 := sm_sq (c 1 2) (c 1 2)
  have w1 : IntKind.i64.wrap (smI A 1 1 * smI A 2 2) = smI A 1 1 * smI A 2 2 := wrap_in (by omega) (by omega)
  have w2 : IntKind.i64.wrap (smI A 1 2 * smI A 1 2) = smI A 1 2 * smI A 1 2 := wrap_in (by omega) (by omega)
  have w7 : IntKind.i64.wrap (smI A 1 1 * smI A 2 2 - smI A 1 2 * smI A 1 2) = detI A := wrap_in (by omega) (by omega)
  refine Rs @t0 ?_
  refine WF.ce T.c153 (r153 T hs hl1 hl hA (j := 1) (k := 1) (by omega) (by omega)) fun g1 => ?_
  refine Rs @t0 ?_
  refine WF.ce T.c153 (r153 T (hs.ext Xx) hl1 hl hA (j := 2) (k := 2) (by omega) (by omega)) fun g2 => ?_
  refine Rs (A2 @t0 @w1) ?_
  refine WF.ce T.c153 (r153 T (hs.ext Xx) hl1 hl hA (j := 1) (k := 2) (by omega) (by omega)) fun g3 => ?_
  refine Rs @t0 ?_
  refine WF.ce T.c153 (r153 T (hs.ext Xx) hl1 hl hA (j := 1) (k := 2) (by omega) (by omega)) fun g4 => ?_
  exact Rs (A3 @t0 @w2 @w7) trivial
set_option maxHeartbeats 4000000 in
theorem r71 {s : AV} {A : List Int} (hs : IsSl h s 1 (A.map intRow)) (hl1 : 3 ≤ A.length) (hl : A.length ≤ 32) (hA : ∀ x ∈ A, -127 ≤ x ∧ x ≤ 127) : RCall P 71 [s] h (fun v _ => v = .tup [.agg (tri (predR A).1), .int .i64 (predR A).2]) := by
  refine .st1 50 T.mix T.c71 ?_;intro ts hlen t0;unfold fn71
  have bz : ∀ {N : Nat}, boxF (.agg [.int .i64 0, .int .i64 0, .int .i64 0]) N = some (.ptr N 0, .push (.cells (tri (0, 0, 0)) true false)) := fun {N} => rfl
  refine Rs (A2 @t0 @bz) ?_
  obtain ⟨K, hK⟩ : ∃ K, K = h ++ [ABlk.cells (tri (0, 0, 0)) true false] := ⟨_, rfl⟩
  have eK : Ext (h ++ [ABlk.cells (tri (0, 0, 0)) true false]) K := by rw [hK]; exact Xx
  have hs := hs.ext (show Ext h K from Ext.trans ⟨_, rfl⟩ eK)
  rw [← hK]
  clear hK
  refine WF.ce T.c154 (r154 T hs hl1 hl hA) fun g1 => ?_
  by_cases hd : detI A = 0
  · have d2 : decide (detI A = 0) = true := decide_eq_true hd
    have e2 : predR A = ((0, 0, 0), 17) := if_pos hd
    rw [e2]
    have eY := eK.trans (show Ext K (K ++ g1) from ⟨_, rfl⟩)
    obtain ⟨Y, hY⟩ : ∃ Y, Y = K ++ g1 := ⟨_, rfl⟩
    rw [← hY] at eY ⊢
    have m2 := eY.some at_new
    have s2 := stN (n := 3) (L := [.int .i64 0, .int .i64 0, .int .i64 0]) m2 rfl rfl rfl
    have l2 := ldNs (n := 3) (L := [.int .i64 0, .int .i64 0, .int .i64 0]) m2 rfl
    refine Rs (A4 @t0 @d2 @s2 @l2) ?_
    exact ⟨ext_set eY, rfl⟩
  have d2 : decide (detI A = 0) = false := decide_eq_false hd
  have e2 : predR A = (lowI (nuA A, nuB A, detI A), 0) := if_neg hd
  rw [e2]
  have c := smI_bd hA hl
  have p3 := sm_sq (c 0 1) (c 2 2)
  have p4 := sm_sq (c 0 2) (c 1 2)
  have p5 := sm_sq (c 0 2) (c 1 1)
  have p6 := sm_sq (c 0 1) (c 1 2)
  have w3 : IntKind.i64.wrap (smI A 0 1 * smI A 2 2) = smI A 0 1 * smI A 2 2 := wrap_in (by omega) (by omega)
  have w4 : IntKind.i64.wrap (smI A 0 2 * smI A 1 2) = smI A 0 2 * smI A 1 2 := wrap_in (by omega) (by omega)
  have w5 : IntKind.i64.wrap (smI A 0 2 * smI A 1 1) = smI A 0 2 * smI A 1 1 := wrap_in (by omega) (by omega)
  have w6 : IntKind.i64.wrap (smI A 0 1 * smI A 1 2) = smI A 0 1 * smI A 1 2 := wrap_in (by omega) (by omega)
  have w8 : IntKind.i64.wrap (smI A 0 1 * smI A 2 2 - smI A 0 2 * smI A 1 2) = nuA A := wrap_in (by omega) (by omega)
  have w9 : IntKind.i64.wrap (smI A 0 2 * smI A 1 1 - smI A 0 1 * smI A 1 2) = nuB A := wrap_in (by omega) (by omega)
  refine Rs (A2 @t0 @d2) ?_
  refine WF.ce T.c153 (r153 T (hs.ext Xx) hl1 hl hA (j := 0) (k := 1) (by omega) (by omega)) fun g2 => ?_
  refine Rs @t0 ?_
  refine WF.ce T.c153 (r153 T (hs.ext Xx) hl1 hl hA (j := 2) (k := 2) (by omega) (by omega)) fun g3 => ?_
  refine Rs (A2 @t0 @w3) ?_
  refine WF.ce T.c153 (r153 T (hs.ext Xx) hl1 hl hA (j := 0) (k := 2) (by omega) (by omega)) fun g4 => ?_
  refine Rs @t0 ?_
  refine WF.ce T.c153 (r153 T (hs.ext Xx) hl1 hl hA (j := 1) (k := 2) (by omega) (by omega)) fun g5 => ?_
  refine Rs (A3 @t0 @w4 @w8) ?_
  refine WF.ce T.c153 (r153 T (hs.ext Xx) hl1 hl hA (j := 0) (k := 2) (by omega) (by omega)) fun g6 => ?_
  refine Rs @t0 ?_
  refine WF.ce T.c153 (r153 T (hs.ext Xx) hl1 hl hA (j := 1) (k := 1) (by omega) (by omega)) fun g7 => ?_
  refine Rs (A2 @t0 @w5) ?_
  refine WF.ce T.c153 (r153 T (hs.ext Xx) hl1 hl hA (j := 0) (k := 1) (by omega) (by omega)) fun g8 => ?_
  refine Rs @t0 ?_
  refine WF.ce T.c153 (r153 T (hs.ext Xx) hl1 hl hA (j := 1) (k := 2) (by omega) (by omega)) fun g9 => ?_
  refine Rs (A3 @t0 @w6 @w9) ?_
  obtain ⟨b1, b2, b3⟩ := det_bd hA hl
  have hp := pred_tri hA hl hd
  obtain ⟨p, hpe⟩ : ∃ p, p = (nuA A, nuB A, detI A) := ⟨_, rfl⟩
  have q1 : nuA A = p.1 := by rw [hpe]
  have q2 : nuB A = p.2.1 := by rw [hpe]
  have q3 : detI A = p.2.2 := by rw [hpe]
  rw [← hpe] at hp ⊢
  rw [q1, q2, q3]
  obtain ⟨h1, h2, h3, h4⟩ := id hp
  have hlt := gcd_lt (a := p.2.2) (b := p.1) (M := 2 ^ 62) (by omega) (by omega)
  refine WF.ce T.c152 (z152 T p.2.2 p.1 (by omega) (by omega)) fun g10 => ?_
  refine Rs @t0 ?_
  refine WF.ce T.c152 (z152 T _ p.2.1 (by omega) (by omega)) fun g11 => ?_
  rw [gcd3_ref]
  have g := gcd3_bd h3
  have y1 := quo_bd g.1 (n := p.1) (B := 2 ^ 39) (by omega)
  have y2 := quo_bd g.1 (n := p.2.1) (B := 2 ^ 39) (by omega)
  have y3 := quo_bd g.1 (n := p.2.2) (B := 2 ^ 39) (by omega)
  obtain ⟨G, hG⟩ : ∃ G : Int, G = ((gcd3 p : Nat) : Int) := ⟨_, rfl⟩
  have hlow : lowI p = (p.1.tdiv G, p.2.1.tdiv G, p.2.2.tdiv G) := by rw [hG]; rfl
  rw [← hG] at g y1 y2 y3 ⊢
  rw [hlow]
  have hz : G ≠ 0 := by omega
  have b1 : binK .quo (.int .i64 p.1) (.int .i64 G) = some (.int .i64 (p.1.tdiv G)) := by rw [bin_quo hz, wrap_in (by omega) (by omega)]
  have b2 : binK .quo (.int .i64 p.2.1) (.int .i64 G) = some (.int .i64 (p.2.1.tdiv G)) := by rw [bin_quo hz, wrap_in (by omega) (by omega)]
  have b3 : binK .quo (.int .i64 p.2.2) (.int .i64 G) = some (.int .i64 (p.2.2.tdiv G)) := by rw [bin_quo hz, wrap_in (by omega) (by omega)]
  have eY := eK.trans (show Ext K (K ++ g1 ++ g2 ++ g3 ++ g4 ++ g5 ++ g6 ++ g7 ++ g8 ++ g9 ++ g10 ++ g11) from Xx)
  obtain ⟨Y, hY⟩ : ∃ Y, Y = K ++ g1 ++ g2 ++ g3 ++ g4 ++ g5 ++ g6 ++ g7 ++ g8 ++ g9 ++ g10 ++ g11 := ⟨_, rfl⟩
  rw [← hY] at eY ⊢
  have m2 := eY.some at_new
  have s2 := stN (n := 3) (L := [.int .i64 (p.1.tdiv G), .int .i64 (p.2.1.tdiv G), .int .i64 (p.2.2.tdiv G)]) m2 rfl rfl rfl
  have l2 := ldNs (n := 3) (L := [.int .i64 (p.1.tdiv G), .int .i64 (p.2.1.tdiv G), .int .i64 (p.2.2.tdiv G)]) m2 rfl
  refine Rs (A6 @t0 @b1 @b2 @b3 @s2 @l2) ?_
  exact ⟨ext_set eY, rfl⟩
set_option maxHeartbeats 2000000 in
theorem r69 (p : Int × Int × Int) : RCall P 69 [.agg (tri p)] h (fun v _ => v = .int .i64 (cfE p)) := by
  refine .st1 27 T.mix T.c69 ?_;intro ts hlen t0;unfold fn69
  refine Rs (A3 @t0 @tri_box @tri_0) ?_
  refine WF.ce T.c48 (r48 T _ _ _) fun g1 => ?_
  refine Rs (A2 @t0 @tri_1) ?_
  refine WF.ce T.c48 (r48 T _ _ _) fun g2 => ?_
  refine Rs (A2 @t0 @tri_2) ?_
  refine WF.ce T.c48 (r48 T _ _ _) fun g3 => ?_
  refine Rs @t0 ?_
  refine WF.ce T.c27 (r27 T (isSl_ints [_, _, _]) (by simp)) fun g4 => ?_
  have hE : firstS [rangeS p.1 (-549755813888) 549755813888, rangeS p.2.1 (-549755813888) 549755813888, rangeS p.2.2 1 274877906944] = rg3 p := rfl
  rw [hE]
  obtain ⟨K, hK⟩ : ∃ K, K = h ++ [ABlk.cells (tri p) true false] ++ g1 ++ g2 ++ g3 ++ [ABlk.cells [AV.int IntKind.i64 (rangeS p.1 (-549755813888) 549755813888), AV.int IntKind.i64 (rangeS p.2.1 (-549755813888) 549755813888), AV.int IntKind.i64 (rangeS p.2.2 1 274877906944)] true true] ++ g4 := ⟨_, rfl⟩
  have eK : Ext (h ++ [ABlk.cells (tri p) true false]) K := by rw [hK]; exact Xx
  rw [← hK]
  clear hK
  have ehK : Ext h K := Ext.trans ⟨_, rfl⟩ eK
  by_cases hr : rg3 p = 0
  case neg =>
    have d1 : decide (rg3 p ≠ 0) = true := decide_eq_true hr
    rw [show cfE p = rg3 p from if_neg hr]
    refine Rs (A2 @t0 @d1) ?_
    exact ⟨ehK, trivial⟩
  have d1 : decide (rg3 p ≠ 0) = false := decide_eq_false fun z => z hr
  rw [show cfE p = whenS (decide (gcd3 p ≠ 1)) 1 from if_pos hr]
  obtain ⟨a, b, c⟩ := first3 hr
  have a := rangeS_z.1 a
  have b := rangeS_z.1 b
  have c := rangeS_z.1 c
  have l1 := @ldx _ _ _ (eK.some at_new)
  have hlt := gcd_lt (a := p.2.2) (b := p.1) (M := 2 ^ 62) (by omega) (by omega)
  refine Rs (A5 @t0 @d1 @l1 @tri_0 @tri_2) ?_
  refine WF.ce T.c152 (z152 T p.2.2 p.1 (by omega) (by omega)) fun g5 => ?_
  refine Rs (A3 @t0 @l1 @tri_1) ?_
  refine WF.ce T.c152 (z152 T _ p.2.1 (by omega) (by omega)) fun g6 => ?_
  rw [gcd3_ref]
  by_cases hg : gcd3 p = 1
  · have d2 : decide (((gcd3 p : Nat) : Int) ≠ 1) = false := decide_eq_false fun z => z (by rw [hg]; rfl)
    have d3 : decide (gcd3 p ≠ 1) = false := decide_eq_false fun z => z hg
    rw [d3]
    refine Rs (A2 @t0 @d2) ?_
    exact ⟨ehK.trans Xx, rfl⟩
  · have d2 : decide (((gcd3 p : Nat) : Int) ≠ 1) = true := decide_eq_true (by omega)
    have d3 : decide (gcd3 p ≠ 1) = true := decide_eq_true hg
    rw [d3]
    refine Rs (A2 @t0 @d2) ?_
    exact ⟨ehK.trans Xx, rfl⟩
theorem agI_w {A : List Int} (hA : ∀ x ∈ A, -127 ≤ x ∧ x ≤ 127) (hl : A.length ≤ 32) {p : Int × Int × Int} (hp : triB p) (k : Nat) : (IntKind.i64.wrap (p.2.2 * smI A 0 k) = p.2.2 * smI A 0 k ∧ IntKind.i64.wrap (p.1 * smI A 1 k) = p.1 * smI A 1 k ∧ IntKind.i64.wrap (p.2.1 * smI A 2 k) = p.2.1 * smI A 2 k) ∧ IntKind.i64.wrap (p.2.2 * smI A 0 k - p.1 * smI A 1 k) = p.2.2 * smI A 0 k - p.1 * smI A 1 k ∧ IntKind.i64.wrap (p.2.2 * smI A 0 k - p.1 * smI A 1 k - p.2.1 * smI A 2 k) = agI A p k := by
  obtain ⟨h1, h2, h3, h4⟩ := id hp
  have p1 := sm_big (x := p.2.2) ⟨by omega, h4⟩ (smI_bd hA hl 0 k)
  have p2 := sm_big h1 (smI_bd hA hl 1 k)
  have p3 := sm_big h2 (smI_bd hA hl 2 k)
  exact ⟨⟨wrap_in (by omega) (by omega), wrap_in (by omega) (by omega), wrap_in (by omega) (by omega)⟩, wrap_in (by omega) (by omega), wrap_in (by omega) (by omega)⟩
set_option maxHeartbeats 4000000 in
theorem r70 {s : AV} {A : List Int} (hs : IsSl h s 1 (A.map intRow)) (hl1 : 3 ≤ A.length) (hl : A.length ≤ 32) (hA : ∀ x ∈ A, -127 ≤ x ∧ x ≤ 127) {p : Int × Int × Int} (hp : triB p) : RCall P 70 [s, .agg (tri p)] h (fun v _ => v = .int .i64 (cqE A p)) := by
  refine .st2 31 T.mix T.c70 ?_;intro ts hlen t0 t1;unfold fn70
  refine Rs (A3 @t0 @t1 @tri_box) ?_
  obtain ⟨K0, hK0⟩ : ∃ K0, K0 = h ++ [ABlk.cells (tri p) true false] := ⟨_, rfl⟩
  have e0 : Ext h K0 := by rw [hK0]; exact Xx
  have m3 : K0[h.length]? = some (.cells (tri p) true false) := by rw [hK0]; exact at_new
  obtain ⟨b3, hb3⟩ : ∃ b3, b3 = h.length := ⟨_, rfl⟩
  rw [← hb3] at m3
  rw [← hK0, ← hb3]
  clear hK0
  have hs := hs.ext e0
  refine WL.inv T.mix (fun n ts K => ∃ k : Nat, 1 ≤ k ∧ k ≤ 3 ∧ n = 3 - k ∧ Ext K0 K ∧ (2 ≤ k → agI A p 1 = 0) ∧ (3 ≤ k → agI A p 2 = 0) ∧ ts.length = 31 ∧ slot ts 0 = s ∧ slot ts 3 = .ptr b3 0 ∧ slot ts 5 = .int .i64 k) 2
    ⟨1, by omega, by omega, rfl, .refl _, fun z => by omega, fun z => by omega, Sn, (Sq @t0), Sw, Swr⟩ ?_
  clear hlen t0 t1
  rintro _ ts K ⟨k, hk1, hk, rfl, eK, z1, z2, hlen, t0, t3, t5⟩
  have hsK := hs.ext eK
  by_cases hlt : k < 3
  case neg =>
    have e3 : decide ((k : Int) ≤ 2) = false := decide_eq_false (by omega)
    have a1 := z1 (by omega)
    have a2 := z2 (by omega)
    have e4 : cqE A p = 0 := by rw [cqE, a1, a2]; rfl
    rw [e4]
    refine Rs (A4 @t0 @t3 @t5 @e3) ?_
    exact ⟨e0.trans eK, trivial⟩
  have e3 : decide ((k : Int) ≤ 2) = true := decide_eq_true (by omega)
  have e5 := wrapN (n := k) (by omega)
  have l3 := @ldx _ _ _ (eK.some m3)
  obtain ⟨⟨w1, w2, w3⟩, w4, w5⟩ := agI_w T hA hl hp k
  refine Rs (A6 @t0 @t3 @t5 @e3 @l3 @tri_2) ?_
  refine WF.ce T.c153 (r153 T hsK hl1 hl hA (j := 0) (k := k) (by omega) (by omega)) fun g1 => ?_
  refine Rs (A6 @t0 @t3 @t5 @l3 @tri_0 @w1) ?_
  refine WF.ce T.c153 (r153 T (hsK.ext Xx) hl1 hl hA (j := 1) (k := k) (by omega) (by omega)) fun g2 => ?_
  refine Rs (A7 @t0 @t3 @t5 @l3 @tri_1 @w2 @w4) ?_
  refine WF.ce T.c153 (r153 T (hsK.ext Xx) hl1 hl hA (j := 2) (k := k) (by omega) (by omega)) fun g3 => ?_
  by_cases ha : agI A p k = 0
  · have d1 : decide (agI A p k ≠ 0) = false := decide_eq_false fun z => z ha
    refine Rs (A7 @t0 @t3 @t5 @w3 @w5 @d1 @e5) ?_
    refine ⟨3 - (k + 1), by omega, k + 1, by omega, by omega, rfl, eK.trans Xx, fun z => ?_, fun z => ?_, rfl⟩
    · by_cases h1 : k = 1
      · rw [h1] at ha; exact ha
      · exact z1 (by omega)
    · rw [show k = 2 by omega] at ha; exact ha
  · have d1 : decide (agI A p k ≠ 0) = true := decide_eq_true ha
    have e4 : cqE A p = 19 := by
      rw [cqE]
      rcases (show k = 1 ∨ k = 2 by omega) with h1 | h1 <;> rw [h1] at ha
      · rw [decide_eq_true ha]; rfl
      · rw [decide_eq_true ha, Bool.or_true]; rfl
    rw [e4]
    refine Rs (A6 @t0 @t3 @t5 @w3 @w5 @d1) ?_
    exact ⟨e0.trans (eK.trans Xx), trivial⟩
set_option maxHeartbeats 4000000 in
theorem r72 {s : AV} {A : List Int} (hs : IsSl h s 1 (A.map intRow)) (hl1 : 3 ≤ A.length) (hl : A.length ≤ 32) (hA : ∀ x ∈ A, -127 ≤ x ∧ x ≤ 127) : RCall P 72 [s] h (fun v _ => v = .tup [.agg (ratR (errR A).1), .int .i64 (errR A).2]) := by
  refine .st1 35 T.mix T.c72 ?_;intro ts hlen t0;unfold fn72
  have bz2 : ∀ {N : Nat}, boxF (.agg [.int .i64 0, .int .i64 0]) N = some (.ptr N 0, .push (.cells (ratR (0, 0)) true false)) := fun {N} => rfl
  have bz : ∀ {N : Nat}, boxF (.agg [.int .i64 0, .int .i64 0, .int .i64 0]) N = some (.ptr N 0, .push (.cells (tri (0, 0, 0)) true false)) := fun {N} => rfl
  refine Rs (A2 @t0 @bz2) ?_
  refine WF.ce T.c71 (r71 T (hs.ext Xx) hl1 hl hA) fun g1 => ?_
  obtain ⟨K, hK⟩ : ∃ K, K = h ++ [ABlk.cells (ratR (0, 0)) true false] ++ g1 := ⟨_, rfl⟩
  have eK : Ext (h ++ [ABlk.cells (ratR (0, 0)) true false]) K := by rw [hK]; exact Xx
  rw [← hK]
  clear hK
  have hsK := hs.ext (Ext.trans ⟨_, rfl⟩ eK)
  have sT' : ∀ {n : Nat} {p : Int × Int × Int}, stB 3 0 (.agg (tri p)) n (.cells (tri (0, 0, 0)) true false) = some (undefA, .set n (.cells (tri p) true false)) := fun {n p} => tri_sT
  by_cases hd : detI A = 0
  · have e1 : predR A = ((0, 0, 0), 17) := if_pos hd
    have e2 : errR A = ((0, 0), 17) := if_pos hd
    rw [e1, e2]
    have d1 : decide ((17 : Int) ≠ 0) = true := rfl
    have eY := eK.trans (show Ext K (K ++ [ABlk.cells (tri (0, 0, 0)) true false]) from ⟨_, rfl⟩)
    have m2 := eY.some at_new
    have s2 := stN (n := 2) (L := [.int .i64 0, .int .i64 0]) m2 rfl rfl rfl
    have l2 := ldNs (n := 2) (L := [.int .i64 0, .int .i64 0]) m2 rfl
    refine Rs (A6 @t0 @bz @sT' @d1 @s2 @l2) ?_
    exact ⟨ext_set eY, rfl⟩
  have e1 : predR A = (lowI (nuA A, nuB A, detI A), 0) := if_neg hd
  have e2 : errR A = (ratI (agI A (lowI (nuA A, nuB A, detI A)) 0) (lowI (nuA A, nuB A, detI A)).2.2, 0) := if_neg hd
  rw [e1, e2]
  have tb := lowI_bd (pred_tri hA hl hd)
  obtain ⟨p, hp⟩ : ∃ p, p = lowI (nuA A, nuB A, detI A) := ⟨_, rfl⟩
  rw [← hp] at tb ⊢
  have d1 : decide ((0 : Int) ≠ 0) = false := rfl
  obtain ⟨K2, hK2⟩ : ∃ K2, K2 = K ++ [ABlk.cells (tri p) true false] := ⟨_, rfl⟩
  have eK2 : Ext K K2 := by rw [hK2]; exact Xx
  have m4 : K2[K.length]? = some (.cells (tri p) true false) := by rw [hK2]; exact at_new
  have l4 := @ldx _ _ _ m4
  have c01 := smI_comm A 0 1
  have c02 := smI_comm A 0 2
  obtain ⟨⟨w1, w2, w3⟩, w4, w5⟩ := agI_w T hA hl tb 0
  rw [← c01] at w2 w4 w5
  rw [← c02] at w3 w5
  have ab := agI_bd hA hl tb 0
  obtain ⟨_, _, p3, p4⟩ := id tb
  refine Rs (A5 @t0 @bz @sT' @d1 @tri_2) ?_
  rw [← hK2]
  refine Rs (A3 @t0 @l4 @tri_2) ?_
  refine WF.ce T.c153 (r153 T (hsK.ext eK2) hl1 hl hA (j := 0) (k := 0) (by omega) (by omega)) fun g2 => ?_
  refine Rs (A4 @t0 @l4 @tri_0 @w1) ?_
  refine WF.ce T.c153 (r153 T ((hsK.ext eK2).ext Xx) hl1 hl hA (j := 0) (k := 1) (by omega) (by omega)) fun g3 => ?_
  refine Rs (A5 @t0 @l4 @tri_1 @w2 @w4) ?_
  refine WF.ce T.c153 (r153 T ((hsK.ext eK2).ext Xx) hl1 hl hA (j := 0) (k := 2) (by omega) (by omega)) fun g4 => ?_
  refine Rs (A5 @t0 @l4 @tri_2 @w3 @w5) ?_
  refine WF.ce T.c132 (z132 T _ _ (by omega) (by omega) (by omega)) fun g5 => ?_
  have eY := (eK.trans eK2).trans (show Ext K2 (K2 ++ g2 ++ g3 ++ g4 ++ g5) from Xx)
  obtain ⟨Y, hY⟩ : ∃ Y, Y = K2 ++ g2 ++ g3 ++ g4 ++ g5 := ⟨_, rfl⟩
  rw [← hY] at eY ⊢
  have m2 := eY.some at_new
  have s2 := stN (n := 2) (L := ratR (ratI (agI A p 0) p.2.2)) m2 rfl rfl rfl
  have l2 := ldNs (n := 2) (L := ratR (ratI (agI A p 0) p.2.2)) m2 rfl
  refine Rs (A3 @t0 @s2 @l2) ?_
  exact ⟨ext_set eY, trivial⟩
end
end Go.Abs
namespace Go.Abs
theorem st_R {z : Int × Int} {b : Nat} {a0 a1 : AV} : stB 2 0 (.agg (ratR z)) b (.cells [a0, a1] true false) = some (undefA, .set b (.cells (ratR z) true false)) := rat_st
theorem sameR_t {l r : Int × Int} {e : Int} (h1 : e ≠ 0 → l = (0, 0)) (h2 : e = 0 → l = r) : sameR l r e e = true := by
  unfold sameR
  by_cases h : e = 0
  · simp [h, h2 h]
  · simp [h, h1 h]
theorem len3p {nn : List Int} (h : nn.length = 3) : ∃ a b c, nn = [a, b, c] := by
  match nn, h with
  | [a, b, c], _ => exact ⟨a, b, c, rfl⟩
def lpC : ICode := match (fn9).body with
  | .seq _ (.seq _ (.seq _ (.seq _ (.seq _ (.seq _ (.seq _ (.seq _ c))))))) => c
  | c => c
def lpD : ICode := match lpC with
  | .seq _ c => c
  | c => c
def lpE : ICode := match lpD with
  | .seq _ c => c
  | c => c
def lpF : ICode := match lpE with
  | .seq _ c => c
  | c => c
def lpB : ICode := match (fn9).body with
  | .seq _ (.seq _ c) => c
  | c => c
structure Lp (ts : TS) (s : AV) (b3 b5 b7 b11 b12 : Nat) (e6 e8 e9 e10 : Int) : Prop where
  t0 : slot ts 0 = s
  t3 : slot ts 3 = .ptr b3 0
  t5 : slot ts 5 = .ptr b5 0
  t6 : slot ts 6 = .int .i64 e6
  t7 : slot ts 7 = .ptr b7 0
  t8 : slot ts 8 = .int .i64 e8
  t9 : slot ts 9 = .int .i64 e9
  t10 : slot ts 10 = .int .i64 e10
  t11 : slot ts 11 = .ptr b11 0
  t12 : slot ts 12 = .ptr b12 0
set_option maxRecDepth 10000
attribute [local irreducible] WP WC WE WB WR WF WL WG WRg WQ
section
variable {P : Program} (T : Tbl P) {h W Y : AHeap} {ts : TS} {s : AV} {b3 b5 b7 b11 b12 : Nat} {e6 e8 e9 e10 : Int} {l : List Nat} {p xp x0 : Int × Int × Int} {yr rz : Int × Int}
include T
set_option maxHeartbeats 2000000 in
theorem lp_fin (hlen : ts.length = 90) (a : Lp ts s b3 b5 b7 b11 b12 e6 e8 e9 e10) (e0 : Ext h Y) (hs : IsSl Y s 1 (l.map fltR)) (hl : l.length < 2 ^ 40)
    (m3 : Y[b3]? = some (.cells (tri p) true false)) (m5 : Y[b5]? = some (.cells (tri xp) true false)) (m7 : Y[b7]? = some (.cells (ratR yr) true false)) (m11 : Y[b11]? = some (.cells (tri xp) true false)) (m12 : Y[b12]? = some (.cells (ratR rz) true false))
    (q6 : e6 = e9) (hR : sameR yr rz e8 e9 = true) (q10 : e10 = cpE l p) :
    WC P inFn lpF [] ts Y (FQ [(4, none)] fun v k => Ext h k ∧ v = .bool true) := by
  obtain ⟨t0, t3, t5, t6, t7, t8, t9, t10, t11, t12⟩ := a
  subst q6 q10
  unfold lpF lpE lpD lpC fn9
  dsimp only
  have l3 := @ldx _ _ _ m3
  have l5 := @ldx _ _ _ m5
  have l7 := @ldx _ _ _ m7
  have l11 := @ldx _ _ _ m11
  have l12 := @ldx _ _ _ m12
  have eq := @eq_tri false xp xp
  rw [decide_eq_true rfl, Bool.false_xor] at eq
  refine Rs (A15 @t5 @t11 @l5 @l11 @tri_a @eq @t6 @t9 @decide_true @t7 @t8 @t12 @l7 @l12 @td_a) ?_
  refine WF.ce T.c45 (r45 T _ _ _ _) fun g1 => ?_
  rw [hR]
  refine Rs @t0 ?_
  refine WF.res T.c22 (r22 T (hs.ext Xx) hl) ?_
  intro a1 g2 is1
  refine Rs (A3 @t3 @l3 @tri_a) ?_
  refine WF.ce T.c73 (r73 T is1 hl p) fun g3 => ?_
  refine Rs (A2 @t10 @decide_true) ?_
  exact ⟨e0.trans Xx, trivial⟩
set_option maxHeartbeats 2000000 in
theorem lp_10 (hlen : ts.length = 90) (a : Lp ts s b3 b5 b7 b11 b12 e6 e8 e9 e10) (e0 : Ext h W) (eW : Ext W Y) (n11 : W.length ≤ b11) (n12 : b12 = b11 + 1) (hs : IsSl W s 1 (l.map fltR)) (hl : l.length < 2 ^ 40)
    (m3 : W[b3]? = some (.cells (tri p) true false)) (m5 : W[b5]? = some (.cells (tri xp) true false)) (m7 : W[b7]? = some (.cells (ratR yr) true false)) (m11 : Y[b11]? = some (.cells (tri xp) true false)) (m12 : Y[b12]? = some (.cells (ratR (0, 0)) true false))
    (q6 : e6 = e9) (hf : e9 = 0 → fitE l = 0) (hR : if e9 = 0 then yr = (errR (l.map gridN)).1 ∧ e8 = 0 else yr = (0, 0) ∧ e8 = e9) (q10 : e10 = cpE l p) :
    WC P inFn lpE [] ts Y (FQ [(4, none)] fun v k => Ext h k ∧ v = .bool true) := by
  show WC P inFn (.seq _ lpF) _ _ _ _
  have t9 := a.t9
  by_cases hz : e9 = 0
  case neg =>
    have d1 : decide (e9 = 0) = false := decide_eq_false hz
    rw [if_neg hz] at hR
    refine Rs (A2 @t9 @d1) ?_
    exact lp_fin T (s := s) (b12 := b12) (yr := yr) (rz := (0, 0)) (e8 := e8) (e9 := e9) Sn ⟨(Sq a.t0), (Sq a.t3), (Sq a.t5), (Sq a.t6), (Sq a.t7), (Sq a.t8), (Sq a.t9), (Sq a.t10), (Sq a.t11), (Sq a.t12)⟩ (e0.trans eW) (hs.ext eW) hl (eW.some m3) (eW.some m5) (eW.some m7) m11 m12 q6 (by rw [hR.2]; exact sameR_t (fun _ => hR.1) (fun z => absurd z hz)) q10
  have d1 : decide (e9 = 0) = true := decide_eq_true hz
  rw [if_pos hz] at hR
  have ok := fitE_z (hf hz)
  have hAl : (l.map gridN).length = l.length := by simp
  have l1 := ok.l1
  have l2 := ok.l2
  have t0 := a.t0
  have t12 := a.t12
  refine Rs (A3 @t9 @d1 @t0) ?_
  refine WF.res T.c29 (r29 T (hs.ext eW) hl ok.g) ?_
  intro sA g1 isA
  refine Rs @t0 ?_
  refine WF.ce T.c72 (r72 T isA (by omega) (by omega) ok.r) fun g2 => ?_
  have eY : Ext Y (Y ++ g1 ++ g2) := Xx
  obtain ⟨Z, hZ⟩ : ∃ Z, Z = Y ++ g1 ++ g2 := ⟨_, rfl⟩
  rw [← hZ] at eY ⊢
  have s12 := stN (n := 2) (L := ratR (errR (l.map gridN)).1) (eY.some m12) rfl rfl rfl
  have eF : Ext W (Z.set b12 (.cells (ratR (errR (l.map gridN)).1) true false)) := ext_setG (eW.trans eY) (by omega)
  refine Rs (A2 @t12 @s12) ?_
  exact lp_fin T (s := s) (b12 := b12) (yr := yr) (rz := (errR (l.map gridN)).1) (e8 := e8) (e9 := e9) Sn ⟨(Sq a.t0), (Sq a.t3), (Sq a.t5), (Sq a.t6), (Sq a.t7), (Sq a.t8), (Sq a.t9), (Sq a.t10), (Sq a.t11), (Sq a.t12)⟩ (e0.trans eF) (hs.ext eF) hl (eF.some m3) (eF.some m5) (eF.some m7) (set_ne' (by omega) (eY.some m11)) (set_eq' (eY.some m12)) q6 (by rw [hR.2, hz]; exact sameR_t (fun z => absurd rfl z) (fun _ => hR.1)) q10
set_option maxHeartbeats 2000000 in
theorem lp_9 (hlen : ts.length = 90) (a : Lp ts s b3 b5 b7 b11 b12 e6 e8 (fitE l) e10) (e0 : Ext h W) (eW : Ext W Y) (n11 : W.length ≤ b11) (n12 : b12 = b11 + 1) (hs : IsSl W s 1 (l.map fltR)) (hl : l.length < 2 ^ 40)
    (m3 : W[b3]? = some (.cells (tri p) true false)) (m5 : W[b5]? = some (.cells (tri (if fitE l = 0 then (predR (l.map gridN)).1 else (0, 0, 0))) true false)) (m7 : W[b7]? = some (.cells (ratR (if fitE l = 0 then (errR (l.map gridN)).1 else (0, 0))) true false)) (m11 : Y[b11]? = some (.cells (tri (0, 0, 0)) true false)) (m12 : Y[b12]? = some (.cells (ratR (0, 0)) true false))
    (q6 : e6 = (if fitE l = 0 then (predR (l.map gridN)).2 else fitE l)) (q8 : e8 = (if fitE l = 0 then (errR (l.map gridN)).2 else fitE l)) (q10 : e10 = cpE l p) :
    WC P inFn lpD [] ts Y (FQ [(4, none)] fun v k => Ext h k ∧ v = .bool true) := by
  show WC P inFn (.seq _ lpE) _ _ _ _
  have t9 := a.t9
  by_cases hz : fitE l = 0
  case neg =>
    have d1 : decide (fitE l = 0) = false := decide_eq_false hz
    rw [if_neg hz] at m5 m7 q6 q8
    refine Rs (A2 @t9 @d1) ?_
    exact lp_10 T (s := s) (b12 := b12) (xp := (0, 0, 0)) (yr := (0, 0)) (e8 := e8) (e9 := fitE l) Sn ⟨(Sq a.t0), (Sq a.t3), (Sq a.t5), (Sq a.t6), (Sq a.t7), (Sq a.t8), (Sq a.t9), (Sq a.t10), (Sq a.t11), (Sq a.t12)⟩ e0 eW n11 n12 hs hl m3 m5 m7 m11 m12 q6 (fun z => z) (by rw [if_neg hz]; exact ⟨rfl, q8⟩) q10
  have d1 : decide (fitE l = 0) = true := decide_eq_true hz
  rw [if_pos hz] at m5 m7 q6 q8
  have ok := fitE_z hz
  have hAl : (l.map gridN).length = l.length := by simp
  have l1 := ok.l1
  have l2 := ok.l2
  have t0 := a.t0
  have t11 := a.t11
  refine Rs (A3 @t9 @d1 @t0) ?_
  refine WF.res T.c29 (r29 T (hs.ext eW) hl ok.g) ?_
  intro sA g1 isA
  refine Rs @t0 ?_
  refine WF.ce T.c71 (r71 T isA (by omega) (by omega) ok.r) fun g2 => ?_
  have eY : Ext Y (Y ++ g1 ++ g2) := Xx
  obtain ⟨Z, hZ⟩ : ∃ Z, Z = Y ++ g1 ++ g2 := ⟨_, rfl⟩
  rw [← hZ] at eY ⊢
  have s11 := stN (n := 3) (L := tri (predR (l.map gridN)).1) (eY.some m11) rfl rfl rfl
  have eF : Ext W (Z.set b11 (.cells (tri (predR (l.map gridN)).1) true false)) := ext_setG (eW.trans eY) n11
  refine Rs (A2 @t11 @s11) ?_
  refine lp_10 T (s := s) (b12 := b12) (xp := (predR (l.map gridN)).1) (yr := (errR (l.map gridN)).1) (e8 := e8) (e9 := (predR (l.map gridN)).2) Sn ⟨(Sq a.t0), (Sq a.t3), (Sq a.t5), (Sq a.t6), (Sq a.t7), (Sq a.t8), Sw, (Sq a.t10), (Sq a.t11), (Sq a.t12)⟩ e0 eF n11 n12 hs hl m3 m5 m7 (set_eq' (eY.some m11)) (set_ne' (by omega) (eY.some m12)) q6 (fun _ => hz) ?_ q10
  rw [q8]
  unfold predR errR
  by_cases hd : detI (l.map gridN) = 0
  · simp [hd]
  · simp [hd]
set_option maxHeartbeats 4000000 in
theorem lp_main (X : Xfl P) {H0 : AHeap} (e0 : Ext h H0) (hs : IsSl H0 s 1 (l.map fltR)) (hl : l.length < 2 ^ 40) (m3 : H0[b3]? = some (.cells (tri p) true false)) (hlen : ts.length = 90) (t0 : slot ts 0 = s) (t3 : slot ts 3 = .ptr b3 0) :
    WC P inFn lpB [] ts H0 (FQ [(4, none)] fun v k => Ext h k ∧ v = .bool true) := by
  show WC P inFn (.seq _ (.seq _ (.seq _ (.seq _ (.seq _ (.seq _ lpC)))))) _ _ _ _
  have bz2 : ∀ {N : Nat}, boxF (.agg [.int .i64 0, .int .i64 0]) N = some (.ptr N 0, .push (.cells (ratR (0, 0)) true false)) := fun {N} => rfl
  have bz : ∀ {N : Nat}, boxF (.agg [.int .i64 0, .int .i64 0, .int .i64 0]) N = some (.ptr N 0, .push (.cells (tri (0, 0, 0)) true false)) := fun {N} => rfl
  have sT : ∀ {n : Nat} {p : Int × Int × Int}, stB 3 0 (.agg (tri p)) n (.cells (tri (0, 0, 0)) true false) = some (undefA, .set n (.cells (tri p) true false)) := fun {n p} => tri_sT
  have sR : ∀ {n : Nat} {z : Int × Int}, stB 2 0 (.agg (ratR z)) n (.cells (ratR (0, 0)) true false) = some (undefA, .set n (.cells (ratR z) true false)) := fun {n z} => st_R
  refine Rs @t0 ?_
  refine WF.res T.c22 (r22 T hs hl) ?_
  intro a1 g1 is1
  refine Rs @t0 ?_
  refine WF.ce T.c66 (r66 T is1 hl) fun g2 => ?_
  obtain ⟨xp, hxp⟩ : ∃ xp, xp = (if fitE l = 0 then (predR (l.map gridN)).1 else (0, 0, 0)) := ⟨_, rfl⟩
  obtain ⟨e6, h6⟩ : ∃ e6, e6 = (if fitE l = 0 then (predR (l.map gridN)).2 else fitE l) := ⟨_, rfl⟩
  rw [← hxp, ← h6]
  obtain ⟨X0, hX0⟩ : ∃ X0, X0 = H0 ++ g1 ++ g2 := ⟨_, rfl⟩
  have eX0 : Ext H0 X0 := by rw [hX0]; exact Xx
  rw [← hX0]
  clear hX0 is1
  refine Rs (A3 @t0 @bz @sT) ?_
  refine WF.res T.c22 (r22 T (hs.ext (eX0.trans Xx)) hl) ?_
  intro a2 g3 is2
  refine Rs @t0 ?_
  refine WF.ce T.c67 (r67 T is2 hl) fun g4 => ?_
  obtain ⟨yr, hyr⟩ : ∃ yr, yr = (if fitE l = 0 then (errR (l.map gridN)).1 else (0, 0)) := ⟨_, rfl⟩
  obtain ⟨e8, h8⟩ : ∃ e8, e8 = (if fitE l = 0 then (errR (l.map gridN)).2 else fitE l) := ⟨_, rfl⟩
  rw [← hyr, ← h8]
  obtain ⟨X1, hX1⟩ : ∃ X1, X1 = X0 ++ [ABlk.cells (tri xp) true false] ++ g3 ++ g4 := ⟨_, rfl⟩
  have eX1 : Ext (X0 ++ [ABlk.cells (tri xp) true false]) X1 := by rw [hX1]; exact Xx
  have m5 := eX1.some at_new
  rw [← hX1]
  clear hX1 is2
  have e1 : Ext H0 X1 := eX0.trans (Ext.trans ⟨_, rfl⟩ eX1)
  refine Rs (A3 @t0 @bz2 @sR) ?_
  refine WF.ce T.c68 (r68 T X (hs.ext (e1.trans Xx)) hl) fun g5 => ?_
  obtain ⟨X2, hX2⟩ : ∃ X2, X2 = X1 ++ [ABlk.cells (ratR yr) true false] ++ g5 := ⟨_, rfl⟩
  have eX2 : Ext (X1 ++ [ABlk.cells (ratR yr) true false]) X2 := by rw [hX2]; exact Xx
  have m7 := eX2.some at_new
  rw [← hX2]
  clear hX2
  have e12 : Ext X1 X2 := Ext.trans ⟨_, rfl⟩ eX2
  have m5 := e12.some m5
  have e2 : Ext H0 X2 := e1.trans e12
  have m3 := e2.some m3
  have l3 := @ldx _ _ _ m3
  have hs := hs.ext e2
  refine Rs (A4 @t0 @t3 @l3 @tri_a) ?_
  refine WF.ce T.c69 (r69 T p) fun g6 => ?_
  refine Rs (A2 @t0 @t3) ?_
  refine WF.ce T.c27 (r27 T (isSl_ints [_, _]) (by simp)) fun g7 => ?_
  have hE : firstS [fitE l, cfE p] = ck0 l p := rfl
  rw [hE]
  obtain ⟨W, hW⟩ : ∃ W, W = X2 ++ g6 ++ [ABlk.cells [AV.int IntKind.i64 (fitE l), AV.int IntKind.i64 (cfE p)] true true] ++ g7 := ⟨_, rfl⟩
  have eW : Ext X2 W := by rw [hW]; exact Xx
  rw [← hW]
  clear hW
  have m3 := eW.some m3
  have m5 := eW.some m5
  have m7 := eW.some m7
  have hs := hs.ext eW
  have ehW : Ext h W := e0.trans (e2.trans eW)
  obtain ⟨b5, hb5⟩ : ∃ b5, b5 = X0.length := ⟨_, rfl⟩
  obtain ⟨b7, hb7⟩ : ∃ b7, b7 = X1.length := ⟨_, rfl⟩
  rw [← hb5] at m5 ⊢
  rw [← hb7] at m7 ⊢
  refine Rs (A4 @t0 @t3 @bz @bz2) ?_
  obtain ⟨b11, hb11⟩ : ∃ b11, b11 = W.length := ⟨_, rfl⟩
  obtain ⟨b12, hb12⟩ : ∃ b12, b12 = (W ++ [ABlk.cells (tri (0, 0, 0)) true false]).length := ⟨_, rfl⟩
  have n12 : b12 = b11 + 1 := by rw [hb12, hb11]; simp
  obtain ⟨Y, hYe⟩ : ∃ Y, Y = W ++ [ABlk.cells (tri (0, 0, 0)) true false] ++ [ABlk.cells (ratR (0, 0)) true false] := ⟨_, rfl⟩
  have eY : Ext W Y := by rw [hYe]; exact Xx
  have m11 : Y[b11]? = some (.cells (tri (0, 0, 0)) true false) := by rw [hYe, hb11]; exact at_1
  have m12 : Y[b12]? = some (.cells (ratR (0, 0)) true false) := by rw [hYe, hb12]; exact at_new
  rw [← hb11, ← hb12, ← hYe]
  clear hYe
  rw [hxp] at m5
  rw [hyr] at m7
  show WC P inFn (.seq _ lpD) _ _ _ _
  by_cases hz : ck0 l p = 0
  case neg =>
    have d1 : decide (ck0 l p = 0) = false := decide_eq_false hz
    have hc : ck0 l p = cpE l p := by rw [← cp_all, if_neg hz]
    refine Rs (A3 @t0 @t3 @d1) ?_
    exact lp_9 T (s := s) (b3 := b3) (b5 := b5) (b7 := b7) (b11 := b11) (b12 := b12) (e6 := e6) (e8 := e8) (e10 := ck0 l p) Sn ⟨(Sq @t0), (Sq @t3), Sw, Sw, Sw, Sw, Sw, Sw, Sw, Sw⟩ ehW eY (by omega) n12 hs hl m3 m5 m7 m11 m12 h6 h8 hc
  have d1 : decide (ck0 l p = 0) = true := decide_eq_true hz
  obtain ⟨ok, tb⟩ := ck0_z hz
  have hAl : (l.map gridN).length = l.length := by simp
  have l1 := ok.l1
  have l2 := ok.l2
  have hc : cqE (l.map gridN) p = cpE l p := by rw [← cp_all, if_pos hz]
  refine Rs (A3 @t0 @t3 @d1) ?_
  refine WF.res T.c29 (r29 T (hs.ext eY) hl ok.g) ?_
  intro sA g8 isA
  have l3 := @ldx _ _ _ (eY.some m3)
  refine Rs (A4 @t0 @t3 @l3 @tri_a) ?_
  refine WF.ce T.c70 (r70 T isA (by omega) (by omega) ok.r tb) fun g9 => ?_
  have eZ : Ext Y (Y ++ g8 ++ g9) := Xx
  obtain ⟨Z, hZ⟩ : ∃ Z, Z = Y ++ g8 ++ g9 := ⟨_, rfl⟩
  rw [← hZ] at eZ ⊢
  refine Rs (A2 @t0 @t3) ?_
  exact lp_9 T (s := s) (b3 := b3) (b5 := b5) (b7 := b7) (b11 := b11) (b12 := b12) (e6 := e6) (e8 := e8) (e10 := cqE (l.map gridN) p) Sn ⟨(Sq @t0), (Sq @t3), Sw, Sw, Sw, Sw, Sw, Sw, Sw, Sw⟩ ehW (eY.trans eZ) (by omega) n12 hs hl m3 m5 m7 (eZ.some m11) (eZ.some m12) h6 h8 hc
set_option maxHeartbeats 4000000 in
theorem r9 (X : Xfl P) (ha : ∀ k, Ext h k → RCall P 17 [] k (fun v _ => v = .bool true)) (hs : IsSl h s 1 (l.map fltR)) (p : Int × Int × Int) : RCall P 9 [s, .agg (tri p)] h (fun v _ => v = .bool true) := by
  refine .st2 90 T.mix T.c9 ?_;intro ts hlen t0 t1;unfold fn9
  show WC P inFn (.seq _ (.seq _ lpB)) _ _ _ _
  refine Rs (A3 @t0 @t1 @tri_box) ?_
  obtain ⟨H0, hH0⟩ : ∃ H0, H0 = h ++ [ABlk.cells (tri p) true false] := ⟨_, rfl⟩
  have e0 : Ext h H0 := by rw [hH0]; exact ⟨_, rfl⟩
  have m3 : H0[h.length]? = some (.cells (tri p) true false) := by rw [hH0]; exact at_new
  obtain ⟨b3, hb3⟩ : ∃ b3, b3 = h.length := ⟨_, rfl⟩
  rw [← hb3] at m3
  rw [← hH0, ← hb3]
  clear hH0 hb3
  have hs := hs.ext e0
  refine WF.ce T.c17 (ha _ e0) fun g1 => ?_
  have e1 : Ext H0 (H0 ++ g1) := Xx
  by_cases hsh : l.length ≤ 33
  · have d1 : decide ((33 : Int) < (l.length : Int)) = false := decide_eq_false (by omega)
    refine Rs (A4 @t0 @Bool.not_true hs.lenm @d1) ?_
    exact lp_main T X (e0.trans e1) (hs.ext e1) (by omega) (e1.some m3) Sn (Sq @t0) Sw
  have d1 : decide ((33 : Int) < (l.length : Int)) = true := decide_eq_true (by omega)
  by_cases hsm : l.length = 1025
  · have d2 : decide ((l.length : Int) ≠ 1025) = false := decide_eq_false (by omega)
    refine Rs (A5 @t0 @Bool.not_true hs.lenm @d1 @d2) ?_
    exact lp_main T X (e0.trans e1) (hs.ext e1) (by omega) (e1.some m3) Sn (Sq @t0) Sw
  · have d2 : decide ((l.length : Int) ≠ 1025) = true := decide_eq_true (by omega)
    refine Rs (A5 @t0 @Bool.not_true hs.lenm @d1 @d2) ?_
    refine WF.ce T.c17 (ha _ (e0.trans Xx)) fun g3 => ?_
    refine Rs @t0 ?_
    exact ⟨e0.trans Xx, trivial⟩
end
end Go.Abs
