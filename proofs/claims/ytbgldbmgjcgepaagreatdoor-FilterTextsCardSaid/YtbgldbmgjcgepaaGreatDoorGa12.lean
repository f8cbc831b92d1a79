/- Contracts: the reference: integers with a sign, read and written. No condition. · Traces and shots, and their errors: plain. No condition. · Contracts: a trace checked. No condition. · Contracts: taps applied by the program and by the reference. No condition. · Contracts: taps applied by the program. No condition. · Contracts: taps applied, with their checks. No condition. · Contracts: taps undone by the reference. No condition. · Contracts: taps undone by the program. No condition. · Contracts: taps undone by the program, with the checks. No condition. · Contracts: pairs of integers as complex numbers. No condition. · Contracts: the powers of the imaginary unit, by the program and by the reference. No condition. · Contracts: a pair turned by the program's table of powers. No condition. · Contracts: a response at one frequency, by the reference. No condition. · Contracts: the responses by the program. No condition. · Contracts: lists visited, gathered and sorted. No condition. · Contracts: traces that are no holes, the width, a shot checked: the program. No condition. · Contracts: the width of a shot, a shot checked: the program. No condition. · Contracts: a shot checked, short shots, shots that are alike: the reference. No condition. · Sums over the places of lists; taps applied, and their adjoint: plain. No condition. · The prediction with the least error: plain. No condition. · A list less a multiple; quotients compared: plain. No condition. · Contracts: inner products by the program and by the reference. No condition. · Contracts: fitting lists checked; their sums by the reference. No condition. · Contracts: the sums of a fitting list by the program. No condition. · Contracts: predictions by the program. No condition. · Contracts: predictions checked, and the least error, by the program. No condition. -/
import Derived.Test.YtbgldbmgjcgepaaGreatDoorGa11
import Derived.Test.YtbgldbmgjcgepaaGreatDoorGa5
set_option linter.all false
namespace Go.Abs

theorem b2s_one {h : AHeap} {c : Int} {N : Nat} : convT .b2s (.slice h.length 0 1 1) (fun b => (h ++ [ABlk.cells [.int .u8 c] true true])[b]?) N = some (.str [UInt8.ofNat c.toNat], .keep) := by
  simp only [convT, cellsG, if_true, at_new]
  rfl
theorem dig_str {n : Int} (h0 : 0 ≤ n) (h1 : n < 10) : UInt8.ofNat (IntKind.u8.wrap (IntKind.i64.wrap (48 + n))).toNat = UInt8.ofNat (48 + n.toNat) := by
  rw [wrap_in (by omega) (by omega), wrapU8 (by omega) (by omega)]
  congr 1; omega
theorem itoa_d {n : Int} (h0 : 0 ≤ n) (h1 : n < 10) : Lib.itoa n = [UInt8.ofNat (48 + n.toNat)] := by
  unfold Lib.itoa
  rw [if_neg (by omega), Lib.decDigits, dif_pos (by omega)]
theorem itoa_m {n : Int} (h0 : n < 0) : Lib.itoa n = 45 :: Lib.itoa (-n) := by
  unfold Lib.itoa
  rw [if_pos h0, if_neg (by omega), show n.natAbs = (-n).toNat by omega]
theorem itoa_2 {n : Int} (h0 : 10 ≤ n) : Lib.itoa n = Lib.itoa (n / 10) ++ [UInt8.ofNat (48 + (n % 10).toNat)] := by
  unfold Lib.itoa
  rw [if_neg (by omega), if_neg (by omega), Lib.decDigits.eq_def n.toNat, dif_neg (by omega), show n.toNat / 10 = (n / 10).toNat by omega, show n.toNat % 10 = (n % 10).toNat by omega]
set_option maxRecDepth 10000
attribute [local irreducible] WP WC WE WB WR WF WL WG WRg WQ
section
variable {P : Program} (T : Tbl P) {h : AHeap}
include T
set_option maxHeartbeats 2000000 in
theorem r179 (s : List UInt8) : RCall P 179 [.str s] h (fun v _ => ∃ n : Int, v = .tup [.int .i64 n, .bool (sigOk s)] ∧ (sigOk s = true → n = sigN s)) := by
  refine .st1 31 T.mix T.c179 ?_;intro ts hlen t0;unfold fn179
  cases s with
  | nil =>
    have d1 : decide ((0 : Int) < ((([] : List UInt8).length : Nat) : Int)) = false := rfl
    refine Rs (A2 @t0 @d1) ?_
    refine WF.ce T.c216 (r216 T _) fun g1 => ?_
    refine Rs @t0 ?_
    exact ⟨_, rfl, fun q => by cases q⟩
  | cons c r =>
    have hl1 : (c :: r).length = r.length + 1 := rfl
    have d1 : decide ((0 : Int) < (((c :: r).length : Nat) : Int)) = true := decide_eq_true (by omega)
    have hcn := UInt8.toNat_lt c
    by_cases hc : c = 45
    case neg =>
      have d2 : decide ((c.toNat : Int) = 45) = false := decide_eq_false fun e => hc (UInt8.toNat_inj.1 (by simpa using (by omega : c.toNat = 45)))
      have e1 : sigOk (c :: r) = digOk (c :: r) := if_neg hc
      have e2 : sigN (c :: r) = digN (c :: r) := if_neg hc
      refine Rs (A4 @t0 @d1 @ixs_0 @d2) ?_
      refine WF.ce T.c216 (r216 T _) fun g1 => ?_
      refine Rs @t0 ?_
      rw [e1, e2]
      exact ⟨_, rfl, fun q => by rw [if_pos q]⟩
    subst hc
    have d2 : decide ((((45 : UInt8).toNat : Nat) : Int) = 45) = true := rfl
    have sl : slsF (.str (45 :: r)) (some (.int .i64 1)) none = some (.str r) := @sls_lo' [] r 45 .i64
    refine Rs (A5 @t0 @d1 @ixs_0 @d2 @sl) ?_
    refine WF.ce T.c216 (r216 T _) fun g1 => ?_
    cases ho : digOk r with
    | false =>
      have e1 : sigOk (45 :: r) = false := by rw [sigOk_m, ho]; rfl
      refine Rs @t0 ?_
      rw [e1]
      exact ⟨_, rfl, fun q => by cases q⟩
    | true =>
      obtain ⟨ha, hne, hl⟩ := digOk_all ho
      have hb := dig9 (k := r.length) hl (Nat.le_refl _) (by rw [List.take_length]; exact ha)
      rw [List.take_length] at hb
      have w1 : IntKind.i64.wrap (0 - digN r) = -(digN r) := by rw [wrap_in (by omega) (by omega)]; omega
      have e1 : sigOk (45 :: r) = decide (0 < digN r) := by rw [sigOk_m, ho]; rfl
      repeat (first | simp (config := { maxSteps := 1000000 }) only [wset, hset, dset, bset, Nat.reduceAdd, Nat.reduceMul, Nat.reduceLeDiff, Nat.reduceEqDiff, pset, hlen, if_false, if_true, t0, if_pos rfl, w1] | simp (config := { maxSteps := 1000000 }) (disch := first | (simp only [List.length_append, List.length_cons, List.length_nil] <;> omega) | rfl | omega | fail) only [kset, wset, hset, dset, bset, Nat.reduceAdd, Nat.reduceMul, Nat.reduceLeDiff, Nat.reduceEqDiff, pset, hlen, if_false, if_true, t0, if_pos rfl, w1])
      rw [e1, sigN_m]
      exact ⟨_, rfl, fun _ => rfl⟩
set_option maxHeartbeats 2000000 in
theorem tx_d {n : Int} (h0 : 0 ≤ n) (h1 : n < 10) : RCall P 178 [.int .i64 n] h (fun v _ => v = .str (Lib.itoa n)) := by
  refine .of T.mix T.c178 ?_
  unfold fn178
  have d0 : decide (n < 0) = false := decide_eq_false (by omega)
  have d1 : decide (n < 10) = true := decide_eq_true h1
  refine Ws (A4 @d0 @d1 @WP_conv @b2s_one) ?_
  rw [itoa_d h0 h1, dig_str h0 h1]
set_option maxHeartbeats 2000000 in
theorem tx_m {n : Int} (h0 : n < 0) (h1 : -10 < n) : RCall P 178 [.int .i64 n] h (fun v _ => v = .str (Lib.itoa n)) := by
  refine .of T.mix T.c178 ?_
  unfold fn178
  have d0 : decide (n < 0) = true := decide_eq_true h0
  have d1 : decide (-10 < n) = true := decide_eq_true h1
  have w1 : IntKind.i64.wrap (0 - n) = -n := by rw [wrap_in (by omega) (by omega)]; omega
  refine Ws (A3 @d0 @d1 @w1) ?_
  refine WF.ce T.c178 (tx_d T (by omega) (by omega)) fun g1 => ?_
  have bc : binK .add (.str [45]) (.str (Lib.itoa (-n))) = some (.str ([45] ++ Lib.itoa (-n))) := bin_cat (by rw [itoa_d (by omega) (by omega)]; simp)
  refine Ws @bc ?_
  rw [itoa_m h0]; rfl
set_option maxHeartbeats 4000000 in
theorem r178 {n : Int} (h : -17 < n ∧ n < 17) {h : AHeap} : RCall P 178 [.int .i64 n] h (fun v _ => v = .str (Lib.itoa n)) := by
  rename_i hn
  by_cases a : 0 ≤ n
  · by_cases b : n < 10
    · exact tx_d T a b
    · refine .of T.mix T.c178 ?_
      unfold fn178
      have d0 : decide (n < 0) = false := decide_eq_false (by omega)
      have d1 : decide (n < 10) = false := decide_eq_false b
      have eq : n.tdiv 10 = n / 10 := Int.tdiv_eq_ediv_of_nonneg a
      have em : n.tmod 10 = n % 10 := Int.tmod_eq_emod_of_nonneg a
      have w1 : IntKind.i64.wrap (n / 10) = n / 10 := wrap_in (by omega) (by omega)
      have bq : binK .quo (.int .i64 n) (.int .i64 10) = some (.int .i64 (n / 10)) := by rw [bin_quo (by decide), eq, w1]
      have bm : binK .rem (.int .i64 n) (.int .i64 10) = some (.int .i64 (n % 10)) := by rw [bin_rem (by decide), em]
      refine Ws (A4 @d0 @d1 @bq @bm) ?_
      refine WF.ce T.c178 (tx_d T (n := n / 10) (by omega) (by omega)) fun g1 => ?_
      have bc : ∀ {c : UInt8}, binK .add (.str (Lib.itoa (n / 10))) (.str [c]) = some (.str (Lib.itoa (n / 10) ++ [c])) := bin_cat (by rw [itoa_d (by omega) (by omega)]; simp)
      refine Ws (A5 @bq @bm @WP_conv @b2s_one @bc) ?_
      rw [dig_str (by omega) (by omega), itoa_2 (n := n) (by omega)]
  · by_cases b : -10 < n
    · exact tx_m T (by omega) b
    · refine .of T.mix T.c178 ?_
      unfold fn178
      have d0 : decide (n < 0) = true := decide_eq_true (by omega)
      have d1 : decide (-10 < n) = false := decide_eq_false b
      obtain ⟨m, hm⟩ : ∃ m, m = -n := ⟨_, rfl⟩
      have hnm : n = -m := by omega
      have q1 : m / 10 = 1 := by omega
      have eq : n.tdiv 10 = -1 := by rw [hnm, Int.neg_tdiv, Int.tdiv_eq_ediv_of_nonneg (by omega), q1]
      have em : n.tmod 10 = -(m % 10) := by rw [hnm, Int.neg_tmod, Int.tmod_eq_emod_of_nonneg (by omega)]
      have w1 : IntKind.i64.wrap (-1) = -1 := rfl
      have bq : binK .quo (.int .i64 n) (.int .i64 10) = some (.int .i64 (-1)) := by rw [bin_quo (by decide), eq, w1]
      have bm : binK .rem (.int .i64 n) (.int .i64 10) = some (.int .i64 (-(m % 10))) := by rw [bin_rem (by decide), em]
      have w2 : IntKind.i64.wrap (0 - -(m % 10)) = m % 10 := by rw [wrap_in (by omega) (by omega)]; omega
      refine Ws (A3 @d0 @d1 @bq) ?_
      refine WF.ce T.c178 (tx_m T (by omega) (by omega)) fun g1 => ?_
      refine Ws (A2 @bm @w2) ?_
      refine WF.ce T.c178 (tx_d T (by omega) (by omega)) fun g2 => ?_
      have bc : binK .add (.str (Lib.itoa (-1))) (.str (Lib.itoa (m % 10))) = some (.str (Lib.itoa (-1) ++ Lib.itoa (m % 10))) := bin_cat (by rw [itoa_d (n := m % 10) (by omega) (by omega), itoa_m (n := -1) (by omega), itoa_d (by omega) (by omega)]; simp)
      refine Ws @bc ?_
      rw [itoa_m (n := n) (by omega), ← hm, itoa_2 (n := m) (by omega), q1, itoa_d (n := m % 10) (by omega) (by omega), itoa_m (n := -1) (by omega)]
      rfl
end
end Go.Abs
namespace Go.Abs

end Go.Abs
namespace Go.Abs

set_option maxRecDepth 10000
attribute [local irreducible] WP WC WE WB WR WF WL WG WRg WQ
section
variable {P : Program} (T : Tbl P) {h : AHeap}
include T
end
end Go.Abs
namespace Go.Abs

set_option maxRecDepth 10000
attribute [local irreducible] WP WC WE WB WR WF WL WG WRg WQ
section
variable {P : Program} (T : Tbl P) {h : AHeap}
include T
end
end Go.Abs
namespace Go.Abs

set_option maxRecDepth 10000
attribute [local irreducible] WP WC WE WB WR WF WL WG WRg WQ
section
variable {P : Program} (T : Tbl P) {h : AHeap}
include T
end
end Go.Abs
namespace Go.Abs

set_option maxRecDepth 10000
attribute [local irreducible] WP WC WE WB WR WF WL WG WRg WQ
section
variable {P : Program} (T : Tbl P) {h : AHeap}
include T
end
end Go.Abs
namespace Go.Abs

set_option maxRecDepth 10000
attribute [local irreducible] WP WC WE WB WR WF WL WG WRg WQ
section
variable {P : Program} (T : Tbl P) {h : AHeap}
include T
end
end Go.Abs
namespace Go.Abs

set_option maxRecDepth 10000
attribute [local irreducible] WP WC WE WB WR WF WL WG WRg WQ
section
variable {P : Program} (T : Tbl P) {h : AHeap}
include T
end
end Go.Abs
namespace Go.Abs

set_option maxRecDepth 10000
attribute [local irreducible] WP WC WE WB WR WF WL WG WRg WQ
section
variable {P : Program} (T : Tbl P) {h : AHeap}
include T
end
end Go.Abs
namespace Go.Abs

set_option maxRecDepth 10000
attribute [local irreducible] WP WC WE WB WR WF WL WG WRg WQ
section
variable {P : Program} (T : Tbl P) {h : AHeap}
include T
end
end Go.Abs
namespace Go.Abs

set_option maxRecDepth 10000
attribute [local irreducible] WP WC WE WB WR WF WL WG WRg WQ
section
variable {P : Program} (T : Tbl P) {h : AHeap}
include T
end
end Go.Abs
namespace Go.Abs

set_option maxRecDepth 10000
attribute [local irreducible] WP WC WE WB WR WF WL WG WRg WQ
section
variable {P : Program} (T : Tbl P) {h : AHeap}
include T
end
end Go.Abs
namespace Go.Abs

set_option maxRecDepth 10000
attribute [local irreducible] WP WC WE WB WR WF WL WG WRg WQ
section
variable {P : Program} (T : Tbl P) {h : AHeap}
include T
end
end Go.Abs
namespace Go.Abs

def z4 : List AV := [.cplx .f64 0 0, .cplx .f64 0 0, .cplx .f64 0 0, .cplx .f64 0 0]
set_option maxRecDepth 10000
attribute [local irreducible] WP WC WE WB WR WF WL WG WRg WQ
section
variable {P : Program} (T : Tbl P) {h : AHeap}
include T
end
end Go.Abs
namespace Go.Abs

set_option maxRecDepth 10000
attribute [local irreducible] WP WC WE WB WR WF WL WG WRg WQ
section
variable {P : Program} (T : Tbl P) {h : AHeap}
include T
end
end Go.Abs
namespace Go.Abs

set_option maxRecDepth 10000
attribute [local irreducible] WP WC WE WB WR WF WL WG WRg WQ
section
variable {P : Program} (T : Tbl P) {h : AHeap}
include T
end
end Go.Abs
namespace Go.Abs

set_option maxRecDepth 10000
attribute [local irreducible] WP WC WE WB WR WF WL WG WRg WQ
section
variable {P : Program} (T : Tbl P) {h : AHeap}
include T
end
end Go.Abs
namespace Go.Abs

set_option maxRecDepth 10000
attribute [local irreducible] WP WC WE WB WR WF WL WG WRg WQ
section
variable {P : Program} (T : Tbl P) {h : AHeap}
include T
end
end Go.Abs
namespace Go.Abs

end Go.Abs
namespace Go.Abs

end Go.Abs
namespace Go.Abs

end Go.Abs
namespace Go.Abs

set_option maxRecDepth 10000
attribute [local irreducible] WP WC WE WB WR WF WL WG WRg WQ
section
variable {P : Program} (T : Tbl P) {h : AHeap}
include T
end
end Go.Abs
namespace Go.Abs

set_option maxRecDepth 10000
attribute [local irreducible] WP WC WE WB WR WF WL WG WRg WQ
section
variable {P : Program} (T : Tbl P) {h : AHeap}
include T
end
end Go.Abs
namespace Go.Abs

set_option maxRecDepth 10000
attribute [local irreducible] WP WC WE WB WR WF WL WG WRg WQ
section
variable {P : Program} (T : Tbl P) {h : AHeap}
include T
end
end Go.Abs
namespace Go.Abs

set_option maxRecDepth 10000
attribute [local irreducible] WP WC WE WB WR WF WL WG WRg WQ
section
variable {P : Program} (T : Tbl P) {h : AHeap}
include T
end
end Go.Abs
namespace Go.Abs

set_option maxRecDepth 10000
attribute [local irreducible] WP WC WE WB WR WF WL WG WRg WQ
section
variable {P : Program} (T : Tbl P) {h : AHeap}
include T
end
end Go.Abs
