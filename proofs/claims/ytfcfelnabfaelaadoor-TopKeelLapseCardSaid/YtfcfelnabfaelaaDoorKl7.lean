/- Calls by their contracts in the interpreter: strings.Join, strconv.Itoa, math.Floor. No condition. · The greater format; numbers that are none; made whole downwards; without the sign. No condition. · Contracts: samples checked, as numbers, out of numbers. No condition. · Contracts: samples checked by the program and by the reference; samples as numbers, and back. No condition. · Contracts: names. No condition. · Contracts: maps over lists. No condition. · Contracts: lists of samples checked, copied, as numbers, and back. No condition. · Traces and shots, and their errors: plain. No condition. · Contracts: a trace checked. No condition. · Contracts: lists of numbers made samples by the program and by the reference; samples and numbers compared. No condition. · Contracts: lists of numbers, of samples compared; what is heard. No condition. · Contracts: ghosts: the program's and the reference's. No condition. · Contracts: a ghost by the program; notches. No condition. · Contracts: a ghost taken off, by the program and by the reference. No condition. · Contracts: quotients to the nearest; multiples by the program and by the reference. No condition. · Contracts: multiples by the program and by the reference. No condition. · Contracts: taps checked by the program and by the reference. No condition. · Contracts: taps applied by the program and by the reference. No condition. · Contracts: taps applied by the program. No condition. · Contracts: taps applied, with their checks. No condition. · Contracts: taps undone by the reference. No condition. · Contracts: taps undone by the program. No condition. · Contracts: taps undone by the program, with the checks. No condition. · Contracts: pairs of integers as complex numbers. No condition. · Contracts: the powers of the imaginary unit, by the program and by the reference. No condition. · Contracts: a pair turned by the program's table of powers. No condition. · Contracts: a response at one frequency, by the reference. No condition. · Contracts: the responses by the program. No condition. · Contracts: lists visited, gathered and sorted. No condition. · Contracts: traces that are no holes, the width, a shot checked: the program. No condition. · Contracts: the width of a shot, a shot checked: the program. No condition. · Contracts: a shot checked, short shots, shots that are alike: the reference. No condition. · Sums over the places of lists; taps applied, and their adjoint: plain. No condition. · The prediction with the least error: plain. No condition. · A list less a multiple; quotients compared: plain. No condition. · Contracts: inner products by the program and by the reference. No condition. · Contracts: fitting lists checked; their sums by the reference. No condition. · Contracts: the sums of a fitting list by the program. No condition. · Contracts: predictions by the program. No condition. · Contracts: predictions checked, and the least error, by the program. No condition. · Contracts: predictions by the reference. No condition. · Taps undone, and applied again; ghosts taken off, and put on again: plain. No condition. · Contracts: quiet lists, a number in a list; what is heard when all fits. No condition. · Samples added; lists made cell by cell; copies of one's own. No condition. · Contracts: shots copied from one form into the other: lists of traces that grow in a box. No condition. · Contracts: shots copied from one form into the other, and owned. No condition. · Contracts: pairs of two lists, visited and gathered, and mapped. No condition. · Contracts: a list less a multiple, and the share removed, by the program. No condition. · Contracts: each trace of a shot changed: taps, tides. No condition. · Contracts: a shot changed trace by trace, the program and the reference. No condition. · Contracts: a list less a multiple, and the share removed, by the reference; the law's small functions. No condition. · Contracts: a shot changed trace by trace: the reference. No condition. · Contracts: a shot delayed. No condition. · Contracts: a shot delayed, whole. No condition. -/
import Derived.Laws.Externs
import Derived.Test.YtfcfelnabfaelaaDoorKl5
import Derived.Test.YtfcfelnabfaelaaDoorKl6
set_option linter.all false
namespace Go.Abs

theorem clos_int (k : IntKind) (n : Int) : clos 0 (.int k n) := ⟨fun _ => none, .int k n, by simp, by rw [VR]⟩
theorem clos_bool (b : Bool) : clos 0 (.bool b) := ⟨fun _ => none, .bool b, by simp, by rw [VR]⟩
open Go.RowKit in
open Go.RowKit in
section
variable {P : Program}
end
end Go.Abs
namespace Go.Abs
open Ieee

/-- What a float is. -/
theorem flt_cases (k : FloatKind) (b : Nat) : (∃ v, Num k b v) ∨ (∃ t, k.format.read b = .infinity t) ∨ ∃ s t, k.format.read b = .nan s t := by
  cases h : k.format.read b with
  | number s m e => exact .inl ⟨_, s, m, e, h, by have := (read_fin h).2; have := least_ge k; omega, rfl⟩
  | infinity t => exact .inr (.inl ⟨t, rfl⟩)
  | nan s t => exact .inr (.inr ⟨s, t, rfl⟩)
end Go.Abs
namespace Go.Abs
open Ieee

theorem num_f2i {k b v} (h : Num k b v) (h1 : -2 ^ 63 ≤ v.tdiv UU) (h2 : v.tdiv UU < 2 ^ 63) {G : Nat → Option ABlk} {N : Nat} : convT (.f2i .i64) (.flt k b) G N = some (.int .i64 (v.tdiv UU), .keep) := by
  unfold convT
  simp only [num_toInt h]
  rw [if_pos ⟨num_nan h, by show (-2 ^ 63 : Int) ≤ _; omega, by show _ ≤ (2 ^ 63 - 1 : Int); omega⟩]
/-- What a sample's check says. -/
noncomputable def fval (b : Nat) : Int := vl (FloatKind.f32.format.read b)
noncomputable def gridN (b : Nat) : Int := 16 * fval b / UU
noncomputable def finB (b : Nat) : Bool := @decide (∃ v, Num .f32 b v) (Classical.propDecidable _)
theorem finB_t {b v} (h : Num .f32 b v) : finB b = true := @decide_eq_true _ (Classical.propDecidable _) ⟨v, h⟩
theorem finB_i {b t} (h : FloatKind.f32.format.read b = .infinity t) : finB b = false := @decide_eq_false _ (Classical.propDecidable _) fun ⟨v, s, m, e, h1, _⟩ => by rw [h] at h1; cases h1
theorem finB_n {b s t} (h : FloatKind.f32.format.read b = .nan s t) : finB b = false := @decide_eq_false _ (Classical.propDecidable _) fun ⟨v, s, m, e, h1, _⟩ => by rw [h] at h1; cases h1
theorem finB_x {b} (h : finB b = true) : ∃ v, Num .f32 b v := @of_decide_eq_true _ (Classical.propDecidable _) h
noncomputable def gOkB (b : Nat) : Bool := finB b && (decide (-1024 * UU ≤ fval b) && (decide (fval b ≤ 1024 * UU) && decide (gridN b * UU = 16 * fval b)))
noncomputable def gridE (b : Nat) : Int := firstS [whenS (!finB b) 1, whenS (!gOkB b) 3]
theorem num_fval {b v} (h : Num .f32 b v) : v = fval b := by
  obtain ⟨s, m, e, h1, _, rfl⟩ := h
  unfold fval; rw [h1]
theorem grid_num {b} (h : gridE b = 0) : Num .f32 b (fval b) ∧ gridN b * UU = 16 * fval b ∧ -16384 ≤ gridN b ∧ gridN b ≤ 16384 := by
  obtain ⟨_, h⟩ := first2 h
  have h : gOkB b = true := by
    cases hb : gOkB b with
    | true => rfl
    | false => rw [hb] at h; cases h
  unfold gOkB at h
  simp only [Bool.and_eq_true, decide_eq_true_eq] at h
  obtain ⟨hn, g1, g2, g3⟩ := h
  obtain ⟨v, hv⟩ := finB_x hn
  have e := num_fval hv
  subst e
  have hU := UU_pos
  refine ⟨hv, g3, ?_, ?_⟩
  · have : -16384 * UU ≤ gridN b * UU := by rw [g3]; omega
    exact Int.le_of_mul_le_mul_right this hU
  · have : gridN b * UU ≤ 16384 * UU := by rw [g3]; omega
    exact Int.le_of_mul_le_mul_right this hU
theorem grid_z {b} (h1 : finB b = true) (h2 : gOkB b = true) : gridE b = 0 := by rw [gridE, h1, h2]; rfl
theorem bd_abs {v : Int} (h1 : -1024 * UU ≤ v) (h2 : v ≤ 1024 * UU) : v.natAbs ≤ 2 ^ 10 * UU.natAbs := by
  have hU := UU_pos
  omega
theorem neg1024 : unK .neg (.flt .f32 (FloatKind.f32.nearest 1024)) = some (.flt .f32 (FloatKind.f32.nearest (-1024))) := by
  show some (AV.flt .f32 (Op.negFloat .f32 (FloatKind.f32.nearest 1024))) = _
  rw [show Op.negFloat .f32 (FloatKind.f32.nearest 1024) = FloatKind.f32.nearest (-1024) by decide]
theorem ord_bin {op : BinOp} {k : FloatKind} {a b : Nat} {c : Bool} (h : fltBin op k a b = some (.bool c)) : binK op (.flt k a) (.flt k b) = some (.bool c) := by simp only [binK, if_true, h]
theorem eql_00 : binK .eql (.flt .f32 0) (.flt .f32 0) = some (.bool true) := ord_bin (by
  show some (AV.bool (FloatKind.f32.format.order 0 0 == some .eq)) = _
  rw [show FloatKind.f32.format.order 0 0 = some .eq by decide]; rfl)
theorem eql_n0 : binK .eql (.flt .f32 (qnan .f32)) (.flt .f32 0) = some (.bool false) := ord_bin (by
  show some (AV.bool (FloatKind.f32.format.order (qnan .f32) 0 == some .eq)) = _
  rw [show FloatKind.f32.format.order (qnan .f32) 0 = none by decide]; rfl)
theorem num_n1024 {k : FloatKind} : Num k (k.nearest (-1024)) (-1024 * UU) := num_int (by cases k <;> decide)
theorem num_1024 {k : FloatKind} : Num k (k.nearest 1024) (1024 * UU) := num_int (by cases k <;> decide)
theorem tdiv_grid {v : Int} : decide (v.tdiv UU * UU = v) = decide (v / UU * UU = v) := by
  have hU := UU_pos
  refine decide_eq_decide.2 ⟨fun h => ?_, fun h => ?_⟩
  · rw [← h, Int.mul_ediv_cancel _ (by omega)]
  · rw [← h, Int.mul_tdiv_cancel _ (by omega)]
theorem nan_bin {k a b} (h : nanB k a = true ∨ nanB k b = true) : k.format.order a b = none := nan_ord (nan_or h)
theorem read_nan {k : FloatKind} {b : Nat} {s : Bool} {t : Nat} (h : k.format.read b = .nan s t) : nanB k b = true := by rw [nanB_isNaN, h]; rfl
set_option maxRecDepth 10000
attribute [local irreducible] WP WC WE WB WR WF WL WG WRg WQ
section
variable {P : Program} (T : Tbl P) {h : AHeap}
include T
set_option maxHeartbeats 1000000 in
theorem r37 (c : Bool) (e : Int) : RCall P 37 [.bool c, .int .i64 e] h (fun v _ => v = .int .i64 (whenS c e)) := by
  refine .of T.mix T.c37 ?_
  unfold fn37
  simp only [uset]
  cases c <;> simp only [wset] <;> rfl
set_option maxHeartbeats 1000000 in
theorem r80 (b : Nat) : RCall P 80 [.flt .f32 b] h (fun v _ => v = .bool (finB b)) := by
  refine .st1 7 T.mix T.c80 ?_;intro ts hlen t0;unfold fn80
  rcases flt_cases .f32 b with ⟨v, hv⟩ | ⟨t, ht⟩ | ⟨s, t, ht⟩
  · have f1 := sub_self hv
    have f2 := eql_00
    refine Rs (A3 @t0 @f1 @f2) ?_
    rw [finB_t hv]
  · have f1 : binK .sub (.flt .f32 b) (.flt .f32 b) = some (.flt .f32 (qnan .f32)) := by
      have : FloatKind.f32.format.sub b b = none := by
        unfold Format.sub; rw [ht]; cases t <;> rfl
      simp only [binK, if_true, fltBin, this, fltRes]
    have f2 := eql_n0
    refine Rs (A3 @t0 @f1 @f2) ?_
    rw [finB_i ht]
  · have f1 : binK .sub (.flt .f32 b) (.flt .f32 b) = some (.flt .f32 (qnan .f32)) := by
      have : FloatKind.f32.format.sub b b = none := by
        unfold Format.sub; rw [ht]; rfl
      simp only [binK, if_true, fltBin, this, fltRes]
    have f2 := eql_n0
    refine Rs (A3 @t0 @f1 @f2) ?_
    rw [finB_n ht]
set_option maxHeartbeats 2000000 in
theorem r81 (b : Nat) : RCall P 81 [.flt .f32 b, .int .i64 1024] h (fun v _ => v = .bool (gOkB b)) := by
  refine .st2 25 T.mix T.c81 ?_;intro ts hlen t0 t1;unfold fn81
  have c1 : ∀ {n : Int} {G : Nat → Option ABlk} {N : Nat}, convT (.i2f .f32) (.int .i64 n) G N = some (.flt .f32 (FloatKind.f32.nearest n), .keep) := fun {_ _ _} => rfl
  have c2 := neg1024
  rcases flt_cases .f32 b with ⟨v, hv⟩ | ⟨t, ht⟩ | ⟨s, t, ht⟩
  · have hfv := num_fval hv
    have hf := finB_t hv
    have l1 := num_leq num_n1024 hv
    have l2 := num_leq hv num_1024
    by_cases q1 : -1024 * UU ≤ v
    case neg =>
      have d1 : decide (-1024 * UU ≤ v) = false := decide_eq_false q1
      have e : gOkB b = false := by rw [gOkB, ← hfv, d1]; simp
      refine Rs (A6 @t0 @t1 @c1 @c2 @l1 @d1) ?_
      rw [e]
    have d1 : decide (-1024 * UU ≤ v) = true := decide_eq_true q1
    by_cases q2 : v ≤ 1024 * UU
    case neg =>
      have d2 : decide (v ≤ 1024 * UU) = false := decide_eq_false q2
      have e : gOkB b = false := by rw [gOkB, ← hfv, d2]; simp
      refine Rs (A8 @t0 @t1 @c1 @c2 @l1 @d1 @l2 @d2) ?_
      rw [e]
    have d2 : decide (v ≤ 1024 * UU) = true := decide_eq_true q2
    obtain ⟨p, m1, m2, hp⟩ := mul16 hv (bd_abs q1 q2)
    have hU := UU_pos
    have b1 : (16 * v).tdiv UU ≤ 16384 := by
      have := Int.tdiv_le_tdiv hU (show 16 * v ≤ 16384 * UU by omega)
      rwa [Int.mul_tdiv_cancel _ (by omega)] at this
    have b2 : -16384 ≤ (16 * v).tdiv UU := by
      have := Int.tdiv_le_tdiv hU (show -16384 * UU ≤ 16 * v by omega)
      rwa [Int.mul_tdiv_cancel _ (by omega)] at this
    have c3 := @num_f2i _ _ _ hp (by omega) (by omega)
    have hi : Num .f32 (FloatKind.f32.nearest ((16 * v).tdiv UU)) ((16 * v).tdiv UU * UU) := num_int (by show _ < 2 ^ 24; omega)
    have l3 := num_eql hi hp
    have e : gOkB b = decide ((16 * v).tdiv UU * UU = 16 * v) := by
      rw [tdiv_grid, gOkB, gridN, ← hfv, hf, d1, d2]; simp
    have m1 : binK .mul (.flt .f32 b) (.flt .f32 1098907648) = some (.flt .f32 p) := m1
    refine Rs (A11 @t0 @t1 @c1 @c2 @l1 @d1 @l2 @d2 @m1 @c3 @l3) ?_
    rw [e]
  · have e : gOkB b = false := by rw [gOkB, finB_i ht]; rfl
    rw [e]
    cases t with
    | false =>
      have o1 : FloatKind.f32.format.order (FloatKind.f32.nearest (-1024)) b = some .lt := by
        unfold Format.order; rw [ht, show FloatKind.f32.format.read (FloatKind.f32.nearest (-1024)) = .number true 8388608 (-13) by decide]; rfl
      have o2 : FloatKind.f32.format.order b (FloatKind.f32.nearest 1024) = some .gt := by
        unfold Format.order; rw [ht, show FloatKind.f32.format.read (FloatKind.f32.nearest 1024) = .number false 8388608 (-13) by decide]; rfl
      have l1 : binK .leq (.flt .f32 (FloatKind.f32.nearest (-1024))) (.flt .f32 b) = some (.bool true) := ord_bin (by simp only [fltBin, o1]; rfl)
      have l2 : binK .leq (.flt .f32 b) (.flt .f32 (FloatKind.f32.nearest 1024)) = some (.bool false) := ord_bin (by simp only [fltBin, o2]; rfl)
      exact Rs (A6 @t0 @t1 @c1 @c2 @l1 @l2) trivial
    | true =>
      have o1 : FloatKind.f32.format.order (FloatKind.f32.nearest (-1024)) b = some .gt := by
        unfold Format.order; rw [ht, show FloatKind.f32.format.read (FloatKind.f32.nearest (-1024)) = .number true 8388608 (-13) by decide]; rfl
      have l1 : binK .leq (.flt .f32 (FloatKind.f32.nearest (-1024))) (.flt .f32 b) = some (.bool false) := ord_bin (by simp only [fltBin, o1]; rfl)
      exact Rs (A5 @t0 @t1 @c1 @c2 @l1) trivial
  · have e : gOkB b = false := by rw [gOkB, finB_n ht]; rfl
    rw [e]
    have o1 := nan_bin (k := .f32) (a := FloatKind.f32.nearest (-1024)) (.inr (read_nan ht))
    have l1 : binK .leq (.flt .f32 (FloatKind.f32.nearest (-1024))) (.flt .f32 b) = some (.bool false) := ord_bin (by simp only [fltBin, o1]; rfl)
    exact Rs (A5 @t0 @t1 @c1 @c2 @l1) trivial
end
end Go.Abs
namespace Go.Abs
open Ieee

/-- Out of a number. -/
noncomputable def smpl (n : Int) : Nat := (FloatKind.f32.format.div (FloatKind.f32.nearest n) 1098907648).getD 0
theorem smpl_ok {n : Int} (h1 : -16384 ≤ n) (h2 : n ≤ 16384) : binK .quo (.flt .f32 (FloatKind.f32.nearest n)) (.flt .f32 1098907648) = some (.flt .f32 (smpl n)) ∧ gridE (smpl n) = 0 ∧ gridN (smpl n) = n := by
  have hi : Num .f32 (FloatKind.f32.nearest n) (n * UU) := num_int (by show _ < 2 ^ 24; omega)
  have hU := UU_pos
  obtain ⟨q, w, e1, e2, e3⟩ := quo16 hi (by
    by_cases hn : n = 0
    · exact .inl (by rw [hn, Int.zero_mul])
    · refine .inr ?_
      rw [Int.natAbs_mul]
      exact Nat.le_mul_of_pos_left _ (by omega))
  have e1 : binK .quo (.flt .f32 (FloatKind.f32.nearest n)) (.flt .f32 1098907648) = some (.flt .f32 q) := e1
  have e4 : binK .quo (.flt .f32 (FloatKind.f32.nearest n)) (.flt .f32 1098907648) = some (fltRes .f32 (FloatKind.f32.format.div (FloatKind.f32.nearest n) 1098907648)) := by simp only [binK, if_true, fltBin]
  have hq : smpl n = q := by
    unfold smpl
    rw [e4] at e1
    cases hd : FloatKind.f32.format.div (FloatKind.f32.nearest n) 1098907648 with
    | some r => rw [hd] at e1; cases e1; rfl
    | none =>
      rw [hd] at e1
      cases e1
      have := num_nan e2
      rw [qnan_nan] at this; cases this
  rw [hq]
  have hw := num_fval e2
  have hg : gridN q = n := by
    unfold gridN
    rw [← hw, e3, Int.mul_ediv_cancel _ (by omega)]
  have b1 : -16384 * UU ≤ n * UU := Int.mul_le_mul_of_nonneg_right h1 (by omega)
  have b2 : n * UU ≤ 16384 * UU := Int.mul_le_mul_of_nonneg_right h2 (by omega)
  refine ⟨e1, grid_z (finB_t e2) ?_, hg⟩
  unfold gOkB
  rw [hg, ← hw, e3, finB_t e2, decide_eq_true (show -1024 * UU ≤ w by omega), decide_eq_true (show w ≤ 1024 * UU by omega)]
  simp
theorem grid_bd {b} (h : gridE b = 0) : -1024 * UU ≤ fval b ∧ fval b ≤ 1024 * UU := by
  obtain ⟨_, h2, h3, h4⟩ := grid_num h
  have hU := UU_pos
  have b1 : -16384 * UU ≤ gridN b * UU := Int.mul_le_mul_of_nonneg_right h3 (by omega)
  have b2 : gridN b * UU ≤ 16384 * UU := Int.mul_le_mul_of_nonneg_right h4 (by omega)
  omega
set_option maxRecDepth 10000
attribute [local irreducible] WP WC WE WB WR WF WL WG WRg WQ
section
variable {P : Program} (T : Tbl P) {h : AHeap}
include T
set_option maxHeartbeats 1000000 in
theorem r35 {s : AV} {l : List Int} (hs : IsSl h s 1 (l.map intRow)) (hl : l.length < 2 ^ 63) : RCall P 35 [s] h (fun v _ => v = .int .i64 (firstS l)) := by
  refine .of T.mix T.c35 ?_
  unfold fn35
  simp only [uset]
  have e1 : (l.map intRow).length = l.length := by simp
  simp only [wset, hs.lenG, e1]
  refine WL.inv T.mix (fun n ts h' => ∃ k : Nat, k ≤ l.length ∧ n = l.length - k ∧ h' = h ∧ firstS l = firstS (l.drop k) ∧ ts.length = 15 ∧ slot ts 5 = s ∧ slot ts 6 = .int .i64 l.length ∧ slot ts 7 = .int .i64 k) l.length
    ⟨0, by omega, rfl, rfl, rfl, rfl, rfl, rfl, rfl⟩ ?_
  rintro _ ts _ ⟨k, hk, rfl, rfl, hf, hlen, h5, h6, h7⟩
  rw [expl ts 15 hlen]
  by_cases hlt : k < l.length
  · have hd : l.drop k = l[k] :: l.drop (k + 1) := by simp
    have e2 : (l.map intRow)[k]'(by omega) = [AV.int .i64 l[k]] := by simp
    have e3 : (k : Int) < l.length := by omega
    simp +contextual (disch := omega) only [wset, wsplit, h5, h6, h7, e3, decide_true, hs.iadr, Int.toNat_natCast, hs.load1 _ e2, wrap_in]
    refine ⟨fun h1 => ?_, fun h1 => ⟨l.length - (k + 1), by omega, k + 1, by omega, rfl, ?_, rfl⟩⟩
    · rw [hf, hd, firstS, if_neg h1]
    · rw [hf, hd, firstS, if_pos (by omega)]
  · have e3 : ¬ (k : Int) < l.length := by omega
    have e4 : k = l.length := by omega
    simp +contextual (disch := omega) only [wset, h5, h6, h7, e3, decide_false, if_true]
    rw [hf, e4, List.drop_length]; rfl
set_option maxHeartbeats 1000000 in
theorem r79 (b : Nat) : RCall P 79 [.flt .f32 b] h (fun v _ => v = .int .i64 (gridE b)) := by
  refine .st1 13 T.mix T.c79 ?_;intro ts hlen t0;unfold fn79
  refine Rs @t0 ?_
  refine WF.ce T.c80 (r80 T _) fun g1 => ?_
  refine Rs @t0 ?_
  refine WF.ce T.c37 (r37 T _ _) fun g2 => ?_
  refine Rs @t0 ?_
  refine WF.ce T.c81 (r81 T _) fun g3 => ?_
  refine Rs @t0 ?_
  refine WF.ce T.c37 (r37 T _ _) fun g4 => ?_
  refine Rs @t0 ?_
  refine WF.ce T.c35 (r35 T (isSl_ints [_, _]) (by simp)) fun g5 => ?_
  refine Rs @t0 ?_
  rfl
set_option maxHeartbeats 1000000 in
theorem r32 {b : Nat} (hb : gridE b = 0) : RCall P 32 [.flt .f32 b] h (fun v _ => v = .int .i64 (gridN b)) := by
  refine .st1 6 T.mix T.c32 ?_;intro ts hlen t0;unfold fn32
  obtain ⟨hv, hg, g1, g2⟩ := grid_num hb
  obtain ⟨hg3, hg4⟩ := grid_bd hb
  obtain ⟨p, m1, m2, hp⟩ := mul16 hv (bd_abs hg3 hg4)
  have m2 : binK .mul (.flt .f32 1098907648) (.flt .f32 b) = some (.flt .f32 p) := m2
  have hU := UU_pos
  have ht : (16 * fval b).tdiv UU = gridN b := by rw [← hg, Int.mul_tdiv_cancel _ (by omega)]
  have c3 := @num_f2i _ _ _ hp (by omega) (by omega)
  rw [ht] at c3
  exact Rs (A3 @t0 @m2 @c3) trivial
set_option maxHeartbeats 1000000 in
theorem r67 {n : Int} (h1 : -16384 ≤ n) (h2 : n ≤ 16384) : RCall P 67 [.int .i64 n] h (fun v _ => v = .flt .f32 (smpl n)) := by
  refine .st1 6 T.mix T.c67 ?_;intro ts hlen t0;unfold fn67
  have c1 : ∀ {G : Nat → Option ABlk} {N : Nat}, convT (.i2f .f32) (.int .i64 n) G N = some (.flt .f32 (FloatKind.f32.nearest n), .keep) := fun {_ _} => rfl
  have q1 := (smpl_ok h1 h2).1
  exact Rs (A3 @t0 @c1 @q1) trivial
end
end Go.Abs
namespace Go.Abs
def goodS : List UInt8 → Bool
  | [] => true
  | c :: r => letterS c && r.all restS

theorem name_good (s : List UInt8) : nameS s = (decide (s ≠ []) && decide (s.length ≤ 24) && goodS s) := by
  cases s with
  | nil => rfl
  | cons c r =>
    have : (r.length < 24) = ((c :: r).length ≤ 24) := by simp; omega
    simp only [nameS, goodS, this]
    simp [Bool.and_assoc]

theorem good_step {s : List UInt8} {k : Nat} (hk : k < s.length) : goodS (s.take (k + 1)) = (goodS (s.take k) && (if k = 0 then letterS s[k] else restS s[k])) := by
  cases s with
  | nil => simp at hk
  | cons c r =>
    cases k with
    | zero => simp [goodS]
    | succ k =>
      have hk' : k < r.length := by simpa using hk
      simp only [List.take_succ_cons, goodS, List.getElem_cons_succ]
      rw [List.take_add_one, List.getElem?_eq_getElem hk', Option.toList_some]
      rw [List.all_append, List.all_cons, List.all_nil, Bool.and_true, Bool.and_assoc, if_neg (by omega)]

theorem good_take {s} {k} (h : goodS (s.take k) = false) : goodS s = false := by
  cases s with
  | nil => simp [goodS] at h
  | cons c r =>
    cases k with
    | zero => simp [goodS] at h
    | succ k =>
      simp only [List.take_succ_cons, goodS, Bool.and_eq_false_iff] at h ⊢
      rcases h with h | h
      · exact .inl h
      · right
        rw [List.all_eq_false] at h ⊢
        obtain ⟨x, hx, hr⟩ := h
        exact ⟨x, List.mem_of_mem_take hx, hr⟩

theorem dec_lt {s} {i} (hi : i < s.length) (h : s[i].toNat < 128) : Utf8.decode ⟨⟨s⟩⟩ i = (s[i].toNat, 1) := by
  have hg : (ByteArray.get! ⟨⟨s⟩⟩ i).toNat = s[i].toNat := by
    simp [ByteArray.get!, hi]
  simp only [Utf8.decode, Nat.add_zero, hg, if_pos h]

theorem dec_ge {s} {i} (hi : i < s.length) (h : 128 ≤ s[i].toNat) : 128 ≤ (Utf8.decode ⟨⟨s⟩⟩ i).1 := by
  have hg : (ByteArray.get! ⟨⟨s⟩⟩ i).toNat = s[i].toNat := by
    simp [ByteArray.get!, hi]
  simp only [Utf8.decode, Nat.add_zero, hg]
  rw [if_neg (by omega)]
  simp only [Utf8.runeError]
  repeat' split
  all_goals first
    | (simp only; omega)
    | (simp only [Bool.and_eq_true, decide_eq_true_eq] at *; omega)

section
variable {P : Program} (T : Tbl P) {h : AHeap}
include T
theorem r74 (n lo hi : Int) : RCall P 74 [.int .i64 n, .int .i64 lo, .int .i64 hi] h (fun v _ => v = .int .i64 (rangeS n lo hi)) := by
  refine .of T.mix T.c74 ?_
  unfold fn74
  simp only [uset]
  simp +contextual only [wset, wsplit, decide_true, decide_false]
  refine ⟨fun h1 => ?_, fun h1 => ?_⟩ <;>
  · refine WF.res T.c37 (r37 T _ _) ?_
    rintro _ g rfl
    simp only [wset]
    simp [whenS, rangeS, h1]

theorem r54 (s : List UInt8) : RCall P 54 [.str s] h (fun v _ => v = .bool (nameS s)) := by
  refine .of T.mix T.c54 ?_
  unfold fn54
  simp only [uset]
  simp only [wset, hset]
  refine WL.inv T.mix (fun n ts h' => ∃ k : Nat, k ≤ s.length ∧ n = s.length - k ∧ h' = h ++ [.iter s k] ∧ goodS (s.take k) = true ∧ ts.length = 54 ∧ slot ts 0 = .str s ∧ slot ts 8 = .ptr h.length 0) s.length
    ⟨0, by omega, rfl, rfl, rfl, rfl, rfl, rfl⟩ ?_
  rintro _ ts _ ⟨k, hk, rfl, rfl, hf, hlen, h0, h8⟩
  rw [expl ts 54 hlen]
  by_cases hlt : k < s.length
  · have hstep := good_step hlt
    rw [hf, Bool.true_and] at hstep
    obtain ⟨c, w, hdec, hcw⟩ : ∃ c w, Utf8.decode ⟨⟨s⟩⟩ k = (c, w) ∧ (c = s[k].toNat ∧ w = 1 ∨ 128 ≤ c ∧ 128 ≤ s[k].toNat) := by
      by_cases hc : s[k].toNat < 128
      · exact ⟨_, _, dec_lt hlt hc, .inl ⟨rfl, rfl⟩⟩
      · exact ⟨_, _, rfl, .inr ⟨dec_ge hlt (by omega), by omega⟩⟩
    have hbad : (if k = 0 then letterS s[k] else restS s[k]) = false → AV.bool false = AV.bool (nameS s) := fun hb => by
      rw [hb] at hstep
      rw [name_good, good_take hstep, Bool.and_false]
    have hgood : ∀ w', c = s[k].toNat ∧ w' = 1 → (if k = 0 then letterS s[k] else restS s[k]) = true → ∃ m, m < s.length - k ∧ ∃ k_1, k_1 ≤ s.length ∧ m = s.length - k_1 ∧ h ++ [ABlk.iter s (k + w')] = h ++ [ABlk.iter s k_1] ∧ goodS (List.take k_1 s) = true ∧ True := fun w' hw hb => by
      rw [hb] at hstep
      exact ⟨_, by omega, k + 1, by omega, rfl, by rw [hw.2], hstep, trivial⟩
    have hl : letterS s[k] = (decide (65 ≤ s[k].toNat) && decide (s[k].toNat ≤ 90) || decide (97 ≤ s[k].toNat) && decide (s[k].toNat ≤ 122)) := rfl
    have hr : restS s[k] = (letterS s[k] || (decide (48 ≤ s[k].toNat) && decide (s[k].toNat ≤ 57)) || s[k].toNat == 95) := rfl
    have h0' : ((k : Int) = 0) = (k = 0) := by simp
    by_cases a1 : (65 : Int) ≤ c <;> by_cases a2 : (c : Int) ≤ 90 <;> by_cases a3 : (97 : Int) ≤ c <;> by_cases a4 : (c : Int) ≤ 122 <;> first | (exfalso; omega) | skip
    all_goals by_cases a5 : (48 : Int) ≤ c <;> by_cases a6 : (c : Int) ≤ 57 <;> by_cases a7 : (c : Int) = 95 <;> first | (exfalso; omega) | skip
    all_goals first | have b7 := eq_false a7 | have b7 := eq_true a7
    all_goals simp only [wset, hset, h0, h8, nextB, hlt, if_true, hdec, a1, a2, a3, a4, a5, a6, b7, decide_true, decide_false, Bool.not_true, Bool.not_false]
    all_goals first
      | exact hgood _ (by omega) (by grind)
      | (by_cases hk0 : (k : Int) = 0 <;> simp only [wset, hset, hk0, decide_true, decide_false, Bool.not_true, Bool.not_false] <;> first
          | exact hbad (by grind)
          | exact hgood _ (by omega) (by grind))
      | exact hbad (by grind)
  · simp only [wset, hset, h0, h8, nextB, hlt, if_false, if_true]
    have e4 : k = s.length := by omega
    rw [e4, List.take_length] at hf
    by_cases he : s = [] <;> simp only [wset, he, decide_true, decide_false, ne_eq, not_true_eq_false, not_false_eq_true]
    · rfl
    · rw [name_good, hf]; simp [he]; omega

end
end Go.Abs
namespace Go.Abs

def fltR (b : Nat) : List AV := [.flt .f32 b]
set_option maxRecDepth 10000
attribute [local irreducible] WP WC WE WB WR WF WL WG WRg WQ
section
variable {P : Program} (T : Tbl P) {h : AHeap}
include T
set_option maxHeartbeats 2000000 in
theorem q31 {s : AV} {l : List (Nat)} (hs : IsSl h s 1 (l.map fltR)) (hl : l.length < 2 ^ 40) {f : FuncId} {AF : AFunc} (hA : compileFn P f = some AF) {g : Nat → Int} (hf : ∀ x ∈ l, ∀ k, RCall P f [.flt .f32 x] k (fun v _ => v = .int .i64 (g x))) : RCall P 31 [s, .func (.func f) [] []] h (fun v h' => Fr h.length h' v 1 ((l.map g).map intRow)) := by
  refine .st2 22 T.mix T.c31 ?_;intro ts hlen t0 t1;unfold fn31
  refine Rs (A3 @t0 @t1 hs.lenm) ?_
  refine WL.inv T.mix (fun n ts K => ∃ (k : Nat) (t : AV), k ≤ l.length ∧ n = l.length - k ∧ Ext h K ∧ Fr h.length K t 1 (((l.take k).map g).map intRow) ∧ ts.length = 22 ∧ slot ts 1 = .func (.func f) [] [] ∧ slot ts 5 = t ∧ slot ts 8 = s ∧ slot ts 9 = .int .i64 l.length ∧ slot ts 10 = .int .i64 k) l.length
    ⟨0, .nilSlice, by omega, rfl, .refl _, .nil, Sn, (Sq @t1), Sw, Sw, Sw, Swr⟩ ?_
  clear hlen t0 t1
  rintro _ ts K ⟨k, t, hk, rfl, eK, hfr, hlen, t1, t5, t8, t9, t10⟩
  have hsK := hs.ext eK
  by_cases hlt : k < l.length
  case neg =>
    have e3 := dltF hlt
    have e4 : k = l.length := by omega
    rw [e4, List.take_length] at hfr
    refine Rs (A6 @t1 @t5 @t8 @t9 @t10 @e3) ?_
    exact ⟨eK, hfr⟩
  have e3 := dltT hlt
  have e5 := wrapN (n := k) (by omega)
  have ix := hsK.ixm (kk := .i64) hlt
  obtain ⟨x, hx⟩ : ∃ x, x = l[k] := ⟨_, rfl⟩
  have ld : ∀ {kk : AHeap}, Ext K kk → loadF none (elp s 1 k) (fun b => kk[b]?) = some (.flt .f32 x, .keep) := fun {kk} e => by rw [hx]; exact hsK.l1m hlt rfl e
  have hmem : x ∈ l := by rw [hx]; exact List.getElem_mem _
  have ot := hfr.isSl.one
  have htk : l.take (k + 1) = l.take k ++ [x] := by rw [hx]; exact List.take_succ_eq_append_getElem hlt
  refine Rs (A9 @t1 @t5 @t8 @t9 @t10 @e3 @ix @ld @ot) ?_
  refine WF.ce hA (hf x hmem _) fun g1 => ?_
  have bs : ∀ {N : Nat}, bslF 1 1 (fillA [.int .i64 0] [(0, 1, .int .i64 (g x))]) N = some (.slice N 0 1 1, .push (.cells [.int .i64 (g x)] true true)) := fun {N} => rfl
  refine Rs (A7 @t1 @t5 @t8 @t9 @t10 @ot @bs) ?_
  refine WR.appR (B := h) (cs := ((l.take k).map g).map intRow) (z := intRow (g x)) (hfr.app _) rfl (eK.trans ⟨_, rfl⟩) (by decide) (by rw [List.length_map, List.length_map, List.length_take]; omega) ?_
  intro W5 s' x5 hff q5
  have hrow : ((l.take k).map g).map intRow ++ [intRow (g x)] = ((l.take (k + 1)).map g).map intRow := by rw [htk, List.map_append, List.map_append]; rfl
  rw [hrow] at hff
  refine Rs (A7 @t1 @t5 @t8 @t9 @t10 @q5 @e5) ?_
  exact ⟨l.length - (k + 1), by omega, k + 1, s', by omega, rfl, x5, hff, rfl, rfl⟩
set_option maxHeartbeats 2000000 in
theorem q66 {s : AV} {l : List (Int)} (hs : IsSl h s 1 (l.map intRow)) (hl : l.length < 2 ^ 40) {f : FuncId} {AF : AFunc} (hA : compileFn P f = some AF) {g : Int → Nat} (hf : ∀ x ∈ l, ∀ k, RCall P f [.int .i64 x] k (fun v _ => v = .flt .f32 (g x))) : RCall P 66 [s, .func (.func f) [] []] h (fun v h' => Fr h.length h' v 1 ((l.map g).map fltR)) := by
  refine .st2 22 T.mix T.c66 ?_;intro ts hlen t0 t1;unfold fn66
  refine Rs (A3 @t0 @t1 hs.lenm) ?_
  refine WL.inv T.mix (fun n ts K => ∃ (k : Nat) (t : AV), k ≤ l.length ∧ n = l.length - k ∧ Ext h K ∧ Fr h.length K t 1 (((l.take k).map g).map fltR) ∧ ts.length = 22 ∧ slot ts 1 = .func (.func f) [] [] ∧ slot ts 5 = t ∧ slot ts 8 = s ∧ slot ts 9 = .int .i64 l.length ∧ slot ts 10 = .int .i64 k) l.length
    ⟨0, .nilSlice, by omega, rfl, .refl _, .nil, Sn, (Sq @t1), Sw, Sw, Sw, Swr⟩ ?_
  clear hlen t0 t1
  rintro _ ts K ⟨k, t, hk, rfl, eK, hfr, hlen, t1, t5, t8, t9, t10⟩
  have hsK := hs.ext eK
  by_cases hlt : k < l.length
  case neg =>
    have e3 := dltF hlt
    have e4 : k = l.length := by omega
    rw [e4, List.take_length] at hfr
    refine Rs (A6 @t1 @t5 @t8 @t9 @t10 @e3) ?_
    exact ⟨eK, hfr⟩
  have e3 := dltT hlt
  have e5 := wrapN (n := k) (by omega)
  have ix := hsK.ixm (kk := .i64) hlt
  obtain ⟨x, hx⟩ : ∃ x, x = l[k] := ⟨_, rfl⟩
  have ld : ∀ {kk : AHeap}, Ext K kk → loadF none (elp s 1 k) (fun b => kk[b]?) = some (.int .i64 x, .keep) := fun {kk} e => by rw [hx]; exact hsK.l1m hlt rfl e
  have hmem : x ∈ l := by rw [hx]; exact List.getElem_mem _
  have ot := hfr.isSl.one
  have htk : l.take (k + 1) = l.take k ++ [x] := by rw [hx]; exact List.take_succ_eq_append_getElem hlt
  refine Rs (A9 @t1 @t5 @t8 @t9 @t10 @e3 @ix @ld @ot) ?_
  refine WF.ce hA (hf x hmem _) fun g1 => ?_
  have bs : ∀ {N : Nat}, bslF 1 1 (fillA [.flt .f32 0] [(0, 1, .flt .f32 (g x))]) N = some (.slice N 0 1 1, .push (.cells [.flt .f32 (g x)] true true)) := fun {N} => rfl
  refine Rs (A7 @t1 @t5 @t8 @t9 @t10 @ot @bs) ?_
  refine WR.appR (B := h) (cs := ((l.take k).map g).map fltR) (z := fltR (g x)) (hfr.app _) rfl (eK.trans ⟨_, rfl⟩) (by decide) (by rw [List.length_map, List.length_map, List.length_take]; omega) ?_
  intro W5 s' x5 hff q5
  have hrow : ((l.take k).map g).map fltR ++ [fltR (g x)] = ((l.take (k + 1)).map g).map fltR := by rw [htk, List.map_append, List.map_append]; rfl
  rw [hrow] at hff
  refine Rs (A7 @t1 @t5 @t8 @t9 @t10 @q5 @e5) ?_
  exact ⟨l.length - (k + 1), by omega, k + 1, s', by omega, rfl, x5, hff, rfl, rfl⟩
end
end Go.Abs
namespace Go.Abs

/-- The error of a list of samples. -/
noncomputable def chkL (l : List Nat) : Int := if 1024 < l.length then 5 else firstS (l.map gridE)
theorem firstS_z : ∀ {l : List Int}, firstS l = 0 → ∀ x ∈ l, x = 0
  | [], _, x, h => by cases h
  | y :: l, h, x, hx => by
    rw [firstS] at h
    by_cases hy : y = 0
    · rw [if_pos hy] at h
      rcases List.mem_cons.1 hx with rfl | hx
      · exact hy
      · exact firstS_z h x hx
    · rw [if_neg hy] at h; exact absurd h hy
theorem chkL_z {l : List Nat} (h : chkL l = 0) : l.length ≤ 1024 ∧ ∀ b ∈ l, gridE b = 0 := by
  unfold chkL at h
  split at h
  · cases h
  · exact ⟨by omega, fun b hb => firstS_z h _ (List.mem_map_of_mem hb)⟩
def fitB (n : Int) : Bool := decide (-16384 ≤ n) && decide (n ≤ 16384)
theorem fitB_t {n : Int} (h : fitB n = true) : -16384 ≤ n ∧ n ≤ 16384 := by simpa [fitB] using h
def fitsB (l : List Int) : Bool := l.all fitB
set_option maxRecDepth 10000
attribute [local irreducible] WP WC WE WB WR WF WL WG WRg WQ
section
variable {P : Program} (T : Tbl P) {h : AHeap}
include T
end
end Go.Abs
namespace Go.Abs

structure Trc where
  hd : Nat → Int
  hole : Bool
  sm : List Nat
def hdR (f : Nat → Int) : List AV := [.int .i64 (f 0), .int .i64 (f 1), .int .i64 (f 2), .int .i64 (f 3), .int .i64 (f 4), .int .i64 (f 5), .int .i64 (f 6), .int .i64 (f 7)]
def trRow (x : Trc × AV) : List AV := [.int .i64 (x.1.hd 0), .int .i64 (x.1.hd 1), .int .i64 (x.1.hd 2), .int .i64 (x.1.hd 3), .int .i64 (x.1.hd 4), .int .i64 (x.1.hd 5), .int .i64 (x.1.hd 6), .int .i64 (x.1.hd 7), .bool x.1.hole, x.2]
/-- The least and the greatest integers of a header. -/
def hdLo (i : Nat) : Int := if i < 4 then -100000 else if i = 4 then 0 else -999999999
def hdHi (i : Nat) : Int := if i < 4 then 100000 else if i = 4 then 100000 else 999999999
def hdE (f : Nat → Int) : Int := firstS [rangeS (f 0) (-100000) 100000, rangeS (f 1) (-100000) 100000, rangeS (f 2) (-100000) 100000, rangeS (f 3) (-100000) 100000, rangeS (f 4) 0 100000, rangeS (f 5) (-999999999) 999999999, rangeS (f 6) (-999999999) 999999999, rangeS (f 7) (-999999999) 999999999]
/-- The first error of a header's integers from a place on. -/
def hdF (f : Nat → Int) : Nat → Int
  | 0 => 0
  | n + 1 => if rangeS (f (7 - n)) (hdLo (7 - n)) (hdHi (7 - n)) = 0 then hdF f n else rangeS (f (7 - n)) (hdLo (7 - n)) (hdHi (7 - n))
theorem hdF_eq (f : Nat → Int) : hdF f 8 = hdE f := by
  simp only [hdE, firstS, hdF, hdLo, hdHi]
  simp
theorem hdF_at {f : Nat → Int} {k : Nat} (hk : k < 8) : hdF f (8 - k) = if rangeS (f k) (hdLo k) (hdHi k) = 0 then hdF f (8 - (k + 1)) else rangeS (f k) (hdLo k) (hdHi k) := by
  obtain ⟨n, hn⟩ : ∃ n, n = 7 - k := ⟨_, rfl⟩
  rw [show 8 - k = n + 1 by omega, hdF, show 7 - n = k by omega, show 8 - (k + 1) = n by omega]
noncomputable def chkTr (t : Trc) : Int := firstS [hdE t.hd, whenS (t.hole && decide (0 < t.sm.length)) 24, chkL t.sm]
/-- The width: of the first trace that is no hole. -/
def widN (L : List Trc) : Nat := match L.find? fun t => !t.hole with
  | some t => t.sm.length
  | none => 0
noncomputable def chkSh (nm : List UInt8) (L : List Trc) : Int := firstS [whenS (!nameS nm) 8, whenS (decide (L.length = 0)) 12, whenS (decide (64 < L.length)) 5, firstS (L.map chkTr), whenS (L.any fun t => !t.hole && decide (t.sm.length ≠ widN L)) 2]
/-- A list of traces in the heap. -/
structure ShOk (h : AHeap) (L : List (Trc × AV)) (s : AV) : Prop where
  sl : IsSl h s 10 (L.map trRow)
  all : ∀ x ∈ L, IsSl h x.2 1 (x.1.sm.map fltR)
theorem ShOk.ext {h k : AHeap} {L : List (Trc × AV)} {s : AV} (o : ShOk h L s) (e : Ext h k) : ShOk k L s := ⟨o.sl.ext e, fun x hx => (o.all x hx).ext e⟩
end Go.Abs
namespace Go.Abs

/-- The table of the headers' ranges. -/
def rngCells : List AV := [.int .i64 (-100000), .int .i64 100000, .int .i64 (-100000), .int .i64 100000, .int .i64 (-100000), .int .i64 100000, .int .i64 (-100000), .int .i64 100000, .int .i64 0, .int .i64 100000, .int .i64 (-999999999), .int .i64 999999999, .int .i64 (-999999999), .int .i64 999999999, .int .i64 (-999999999), .int .i64 999999999]
def Rng (h : AHeap) : Prop := h[0]? = some (.cells rngCells false false)
theorem Rng.ext {h k : AHeap} (p : Rng h) (e : Ext h k) : Rng k := e.some p
theorem eight {n : Nat} (h : n < 8) : n = 0 ∨ n = 1 ∨ n = 2 ∨ n = 3 ∨ n = 4 ∨ n = 5 ∨ n = 6 ∨ n = 7 := by omega
theorem rng_lo {h k : AHeap} (p : Rng h) {i : Nat} (hi : i < 8) (e : Ext h k) : loadF none (.ptr 0 (i * 2)) (fun z => k[z]?) = some (.int .i64 (hdLo i), .keep) := by
  rw [loadF_at (e.some p)]
  rcases eight hi with rfl | rfl | rfl | rfl | rfl | rfl | rfl | rfl <;> rfl
theorem rng_hi {h k : AHeap} (p : Rng h) {i : Nat} (hi : i < 8) (e : Ext h k) : loadF none (.ptr 0 (i * 2 + 1)) (fun z => k[z]?) = some (.int .i64 (hdHi i), .keep) := by
  rw [loadF_at (e.some p)]
  rcases eight hi with rfl | rfl | rfl | rfl | rfl | rfl | rfl | rfl <;> rfl
theorem ia_82 {b i : Nat} (hi : i < 8) : iadaF 8 2 (.ptr b 0) (.int .i64 (i : Int)) = some (.ptr b (i * 2)) := by unfold iadaF; simp; omega
theorem ia_20 {b o : Nat} : iadaF 2 1 (.ptr b o) (.int .i64 0) = some (.ptr b o) := rfl
theorem ia_21 {b o : Nat} : iadaF 2 1 (.ptr b o) (.int .i64 1) = some (.ptr b (o + 1)) := rfl
theorem ix_81 {f : Nat → Int} {i : Nat} (hi : i < 8) : ixaF 8 1 none (.agg (hdR f)) (.int .i64 (i : Int)) = some (.int .i64 (f i)) := by
  rcases eight hi with rfl | rfl | rfl | rfl | rfl | rfl | rfl | rfl <;> rfl
theorem lt8T {k : Nat} (h : k < 8) : decide ((k : Int) < 8) = true := decide_eq_true (by omega)
theorem lt8F {k : Nat} (h : ¬ k < 8) : decide ((k : Int) < 8) = false := decide_eq_false (by omega)
theorem tr_one {x : Trc × AV} (ox : x.2.one = true) : (trRow x).all AV.one = true := by
  show ([.int .i64 (x.1.hd 0), .int .i64 (x.1.hd 1), .int .i64 (x.1.hd 2), .int .i64 (x.1.hd 3), .int .i64 (x.1.hd 4), .int .i64 (x.1.hd 5), .int .i64 (x.1.hd 6), .int .i64 (x.1.hd 7), .bool x.1.hole, x.2] : List AV).all AV.one = true
  simp only [List.all_cons, List.all_nil, ox]
  rfl
theorem tr_box {x : Trc × AV} (ox : x.2.one = true) {N : Nat} : boxF (.agg (trRow x)) N = some (.ptr N 0, .push (.cells (trRow x) true false)) := by
  unfold boxF
  show (if (trRow x).all AV.one = true then _ else _) = _
  rw [if_pos (tr_one ox)]
  rfl
def z10 : List AV := [.int .i64 0, .int .i64 0, .int .i64 0, .int .i64 0, .int .i64 0, .int .i64 0, .int .i64 0, .int .i64 0, .bool false, .nilSlice]
theorem z10_box {N : Nat} : boxF (.agg [.int .i64 0, .int .i64 0, .int .i64 0, .int .i64 0, .int .i64 0, .int .i64 0, .int .i64 0, .int .i64 0, .bool false, .nilSlice]) N = some (.ptr N 0, .push (.cells z10 true false)) := rfl
theorem st_tr {x : Trc × AV} (ox : x.2.one = true) {n : Nat} : stB 10 0 (.agg (trRow x)) n (.cells z10 true false) = some (undefA, .set n (.cells (trRow x) true false)) := (stB_agg rfl (tr_one ox) (by show 0 + 10 ≤ 10; omega)).trans rfl
theorem tr_l8 {x : Trc × AV} : ldB (some 8) 0 (.cells (trRow x) true false) = some (.agg (hdR x.1.hd), .keep) := rfl
theorem tr_l10 {x : Trc × AV} : ldB (some 10) 0 (.cells (trRow x) true false) = some (.agg (trRow x), .keep) := rfl
theorem tr_h {x : Trc × AV} : ldB none 8 (.cells (trRow x) true false) = some (.bool x.1.hole, .keep) := rfl
theorem tr_s {x : Trc × AV} : ldB none 9 (.cells (trRow x) true false) = some (x.2, .keep) := rfl
theorem nz_dec {n : Nat} : decide ((0 : Int) < (n : Int)) = decide (0 < n) := decide_eq_decide.2 (by omega)
set_option maxRecDepth 10000
attribute [local irreducible] WP WC WE WB WR WF WL WG WRg WQ
section
variable {P : Program} (T : Tbl P) {h : AHeap}
include T
set_option maxHeartbeats 2000000 in
theorem q78 {s : AV} {l : List (Nat)} (hs : IsSl h s 1 (l.map fltR)) (hl : l.length < 2 ^ 40) {f : FuncId} {AF : AFunc} (hA : compileFn P f = some AF) {g : Nat → Int} (hf : ∀ x ∈ l, ∀ k, RCall P f [.flt .f32 x] k (fun v _ => v = .int .i64 (g x))) : RCall P 78 [s, .func (.func f) [] []] h (fun v h' => Fr h.length h' v 1 ((l.map g).map intRow)) := by
  refine .st2 22 T.mix T.c78 ?_;intro ts hlen t0 t1;unfold fn78
  refine Rs (A3 @t0 @t1 hs.lenm) ?_
  refine WL.inv T.mix (fun n ts K => ∃ (k : Nat) (t : AV), k ≤ l.length ∧ n = l.length - k ∧ Ext h K ∧ Fr h.length K t 1 (((l.take k).map g).map intRow) ∧ ts.length = 22 ∧ slot ts 1 = .func (.func f) [] [] ∧ slot ts 5 = t ∧ slot ts 8 = s ∧ slot ts 9 = .int .i64 l.length ∧ slot ts 10 = .int .i64 k) l.length
    ⟨0, .nilSlice, by omega, rfl, .refl _, .nil, Sn, (Sq @t1), Sw, Sw, Sw, Swr⟩ ?_
  clear hlen t0 t1
  rintro _ ts K ⟨k, t, hk, rfl, eK, hfr, hlen, t1, t5, t8, t9, t10⟩
  have hsK := hs.ext eK
  by_cases hlt : k < l.length
  case neg =>
    have e3 := dltF hlt
    have e4 : k = l.length := by omega
    rw [e4, List.take_length] at hfr
    refine Rs (A6 @t1 @t5 @t8 @t9 @t10 @e3) ?_
    exact ⟨eK, hfr⟩
  have e3 := dltT hlt
  have e5 := wrapN (n := k) (by omega)
  have ix := hsK.ixm (kk := .i64) hlt
  obtain ⟨x, hx⟩ : ∃ x, x = l[k] := ⟨_, rfl⟩
  have ld : ∀ {kk : AHeap}, Ext K kk → loadF none (elp s 1 k) (fun b => kk[b]?) = some (.flt .f32 x, .keep) := fun {kk} e => by rw [hx]; exact hsK.l1m hlt rfl e
  have hmem : x ∈ l := by rw [hx]; exact List.getElem_mem _
  have ot := hfr.isSl.one
  have htk : l.take (k + 1) = l.take k ++ [x] := by rw [hx]; exact List.take_succ_eq_append_getElem hlt
  refine Rs (A9 @t1 @t5 @t8 @t9 @t10 @e3 @ix @ld @ot) ?_
  refine WF.ce hA (hf x hmem _) fun g1 => ?_
  have bs : ∀ {N : Nat}, bslF 1 1 (fillA [.int .i64 0] [(0, 1, .int .i64 (g x))]) N = some (.slice N 0 1 1, .push (.cells [.int .i64 (g x)] true true)) := fun {N} => rfl
  refine Rs (A7 @t1 @t5 @t8 @t9 @t10 @ot @bs) ?_
  refine WR.appR (B := h) (cs := ((l.take k).map g).map intRow) (z := intRow (g x)) (hfr.app _) rfl (eK.trans ⟨_, rfl⟩) (by decide) (by rw [List.length_map, List.length_map, List.length_take]; omega) ?_
  intro W5 s' x5 hff q5
  have hrow : ((l.take k).map g).map intRow ++ [intRow (g x)] = ((l.take (k + 1)).map g).map intRow := by rw [htk, List.map_append, List.map_append]; rfl
  rw [hrow] at hff
  refine Rs (A7 @t1 @t5 @t8 @t9 @t10 @q5 @e5) ?_
  exact ⟨l.length - (k + 1), by omega, k + 1, s', by omega, rfl, x5, hff, rfl, rfl⟩
theorem r78 {s : AV} {l : List (Nat)} (hs : IsSl h s 1 (l.map fltR)) (hl : l.length < 2 ^ 40) {f : FuncId} {AF : AFunc} (hA : compileFn P f = some AF) {g : Nat → Int} (hf : ∀ x ∈ l, ∀ k, RCall P f [.flt .f32 x] k (fun v _ => v = .int .i64 (g x))) : RCall P 78 [s, .func (.func f) [] []] h (fun v h' => IsSl h' v 1 ((l.map g).map intRow)) := by
  obtain ⟨v, k, h1, h2⟩ := q78 T hs hl hA hf
  exact ⟨v, k, h1, h2.isSl⟩
set_option maxHeartbeats 1000000 in
theorem r68 {s : AV} {l : List Nat} (hs : IsSl h s 1 (l.map fltR)) (hl : l.length < 2 ^ 40) : RCall P 68 [s] h (fun v _ => v = .int .i64 (firstS (l.map gridE))) := by
  refine .st1 6 T.mix T.c68 ?_;intro ts hlen t0;unfold fn68
  refine Rs @t0 ?_
  refine WF.res T.c78 (r78 T hs hl T.c79 (fun x _ k => r79 T x)) ?_
  intro s2 g1 is1
  refine Rs @t0 ?_
  refine WF.ce T.c35 (r35 T is1 (by rw [List.length_map]; omega)) fun g2 => ?_
  exact Rs @t0 trivial
set_option maxHeartbeats 1000000 in
theorem r36 {s : AV} {l : List Nat} (hs : IsSl h s 1 (l.map fltR)) (hl : l.length < 2 ^ 40) : RCall P 36 [s] h (fun v _ => v = .int .i64 (chkL l)) := by
  refine .st1 8 T.mix T.c36 ?_;intro ts hlen t0;unfold fn36
  by_cases h1 : 1024 < l.length
  · have d1 : decide ((1024 : Int) < (l.length : Int)) = true := decide_eq_true (by omega)
    have e : chkL l = 5 := if_pos h1
    refine Rs (A3 @t0 hs.lenm @d1) ?_
    rw [e]
  have d1 : decide ((1024 : Int) < (l.length : Int)) = false := decide_eq_false (by omega)
  have e : chkL l = firstS (l.map gridE) := if_neg h1
  refine Rs (A3 @t0 hs.lenm @d1) ?_
  refine WF.ce T.c68 (r68 T hs hl) fun g2 => ?_
  refine Rs @t0 ?_
  rw [e]
set_option maxHeartbeats 4000000 in
theorem r56 (rg : Rng h) {x : Trc × AV} (hx : IsSl h x.2 1 (x.1.sm.map fltR)) (hl : x.1.sm.length < 2 ^ 40) : RCall P 56 [.agg (trRow x)] h (fun v _ => v = .int .i64 (chkTr x.1)) := by
  refine .st1 40 T.mix T.c56 ?_;intro ts hlen t0;unfold fn56
  have bx : ∀ {N : Nat}, boxF (.agg (trRow x)) N = some (.ptr N 0, .push (.cells (trRow x) true false)) := fun {N} => tr_box hx.one
  have ld8 := @tr_l8 x
  have ldh := @tr_h x
  have lds := @tr_s x
  refine Rs (A2 @t0 @bx) ?_
  obtain ⟨H0, hH0⟩ : ∃ H0, H0 = h ++ [ABlk.cells (trRow x) true false] := ⟨_, rfl⟩
  have e0 : Ext h H0 := by rw [hH0]; exact ⟨_, rfl⟩
  have m1 : H0[h.length]? = some (.cells (trRow x) true false) := by rw [hH0]; exact at_new
  obtain ⟨b1, hb1⟩ : ∃ b1, b1 = h.length := ⟨_, rfl⟩
  rw [← hb1] at m1 ⊢
  rw [← hH0]
  clear hH0 hb1
  have l1 := @ldx _ _ _ m1
  have hE := hdF_eq x.1.hd
  refine Rs (A3 @t0 @l1 @ld8) ?_
  refine WL.inv T.mix (fun n ts K => ∃ i : Nat, i ≤ 8 ∧ n = 8 - i ∧ Ext H0 K ∧ hdF x.1.hd 8 = hdF x.1.hd (8 - i) ∧ ts.length = 40 ∧ slot ts 1 = .ptr b1 0 ∧ slot ts 7 = .agg (hdR x.1.hd) ∧ slot ts 8 = .int .i64 i) 8
    ⟨0, by omega, rfl, .refl _, rfl, Sn, Sw, Sw, Swr⟩ ?_
  clear hlen t0
  rintro _ ts K ⟨i, hi, rfl, eK, hf, hlen, t1, t7, t8⟩
  have l1 := @ldx _ _ _ (eK.some m1)
  have hsK := hx.ext (e0.trans eK)
  by_cases hi8 : i < 8
  case neg =>
    have e3 := lt8F hi8
    have hz : hdE x.1.hd = 0 := by rw [← hE, hf, show i = 8 by omega]; rfl
    cases hb : x.1.hole with
    | true =>
      have dz := @nz_dec x.1.sm.length
      refine Rs (A10 @t1 @t7 @t8 @e3 @l1 @ldh @lds @hb hsK.lenm @dz) ?_
      refine WF.ce T.c37 (r37 T _ _) fun g1 => ?_
      refine Rs (A3 @t1 @l1 @lds) ?_
      refine WF.ce T.c36 (r36 T (hsK.ext Xx) hl) fun g2 => ?_
      refine Rs @t1 ?_
      refine WF.ce T.c35 (r35 T (isSl_ints [_, _]) (by simp)) fun g3 => ?_
      refine Rs @t1 ?_
      refine ⟨e0.trans (eK.trans Xx), ?_⟩
      unfold chkTr
      rw [hz, hb, Bool.true_and]
      rfl
    | false =>
      refine Rs (A8 @t1 @t7 @t8 @e3 @l1 @ldh @lds @hb) ?_
      refine WF.ce T.c37 (r37 T _ _) fun g1 => ?_
      refine Rs (A3 @t1 @l1 @lds) ?_
      refine WF.ce T.c36 (r36 T (hsK.ext Xx) hl) fun g2 => ?_
      refine Rs @t1 ?_
      refine WF.ce T.c35 (r35 T (isSl_ints [_, _]) (by simp)) fun g3 => ?_
      refine Rs @t1 ?_
      refine ⟨e0.trans (eK.trans Xx), ?_⟩
      unfold chkTr
      rw [hz, hb, Bool.false_and]
      rfl
  have e3 := lt8T hi8
  have e5 := wrapN (n := i) (by omega)
  have ix := @ix_81 x.1.hd i hi8
  have ia := @ia_82 0 i hi8
  have i0 := @ia_20 0 (i * 2)
  have i1 := @ia_21 0 (i * 2)
  have rgK := rg.ext (e0.trans eK)
  have lo : ∀ {k : AHeap}, Ext K k → loadF none (.ptr 0 (i * 2)) (fun z => k[z]?) = some (.int .i64 (hdLo i), .keep) := fun {k} e => rng_lo rgK hi8 e
  have hh : ∀ {k : AHeap}, Ext K k → loadF none (.ptr 0 (i * 2 + 1)) (fun z => k[z]?) = some (.int .i64 (hdHi i), .keep) := fun {k} e => rng_hi rgK hi8 e
  have hs := @hdF_at x.1.hd i hi8
  refine Rs (A10 @t1 @t7 @t8 @e3 @ix @ia @i0 @i1 @lo @hh) ?_
  refine WF.ce T.c74 (r74 T _ _ _) fun g1 => ?_
  obtain ⟨E, hEE⟩ : ∃ E, E = rangeS (x.1.hd i) (hdLo i) (hdHi i) := ⟨_, rfl⟩
  rw [← hEE] at hs ⊢
  by_cases hz : E = 0
  case neg =>
    have d1 : decide (E ≠ 0) = true := decide_eq_true hz
    refine Rs (A4 @t1 @t7 @t8 @d1) ?_
    rw [if_neg hz] at hs
    refine ⟨e0.trans (eK.trans ⟨g1, rfl⟩), ?_⟩
    unfold chkTr
    rw [← hE, hf, hs, firstS, if_neg hz]
  have d1 : decide (E ≠ 0) = false := decide_eq_false fun z => z hz
  refine Rs (A5 @t1 @t7 @t8 @d1 @e5) ?_
  rw [if_pos hz] at hs
  exact ⟨8 - (i + 1), by omega, i + 1, by omega, rfl, eK.trans ⟨g1, rfl⟩, hf.trans hs, rfl⟩
end
end Go.Abs
namespace Go.Abs

theorem fitsB_drop {l : List Int} {k : Nat} (h : k < l.length) : fitsB (l.drop k) = (fitB l[k] && fitsB (l.drop (k + 1))) := by
  have hd : l.drop k = l[k] :: l.drop (k + 1) := by simp
  rw [hd]; rfl
theorem fits_all {l : List Int} (h : fitsB l = true) : ∀ x ∈ l, -16384 ≤ x ∧ x ≤ 16384 := fun x hx => fitB_t (List.all_eq_true.1 h x hx)
set_option maxRecDepth 10000
attribute [local irreducible] WP WC WE WB WR WF WL WG WRg WQ
section
variable {P : Program} (T : Tbl P) {h : AHeap}
include T
set_option maxHeartbeats 1000000 in
theorem r65 (n : Int) : RCall P 65 [.int .i64 n] h (fun v _ => v = .bool (fitB n)) := by
  refine .st1 9 T.mix T.c65 ?_;intro ts hlen t0;unfold fn65
  by_cases h1 : -16384 ≤ n
  · have d1 : decide (-16384 ≤ n) = true := decide_eq_true h1
    have e : fitB n = decide (n ≤ 16384) := by rw [fitB, d1]; rfl
    refine Rs (A2 @t0 @d1) ?_
    rw [e]
  · have d1 : decide (-16384 ≤ n) = false := decide_eq_false h1
    have e : fitB n = false := by rw [fitB, d1]; rfl
    refine Rs (A2 @t0 @d1) ?_
    rw [e]
set_option maxHeartbeats 1000000 in
theorem r64 (n : Int) : RCall P 64 [.int .i64 n] h (fun v _ => v = .bool (!fitB n)) := by
  refine .st1 6 T.mix T.c64 ?_;intro ts hlen t0;unfold fn64
  refine Rs @t0 ?_
  refine WF.ce T.c65 (r65 T n) fun g1 => ?_
  exact Rs @t0 trivial
set_option maxHeartbeats 1000000 in
theorem r77 {s : AV} {l : List Int} (hs : IsSl h s 1 (l.map intRow)) (hl : l.length < 2 ^ 40) : RCall P 77 [s, .func (.func 64) [] []] h (fun v _ => ∃ n : Int, v = .int .i64 n ∧ -1 ≤ n ∧ (0 ≤ n ↔ fitsB l = false)) := by
  refine .st2 19 T.mix T.c77 ?_;intro ts hlen t0 t1;unfold fn77
  refine Rs (A3 @t0 @t1 hs.lenm) ?_
  refine WL.inv T.mix (fun n ts K => ∃ k : Nat, k ≤ l.length ∧ n = l.length - k ∧ Ext h K ∧ fitsB l = fitsB (l.drop k) ∧ ts.length = 19 ∧ slot ts 0 = s ∧ slot ts 1 = .func (.func 64) [] [] ∧ slot ts 7 = .int .i64 l.length ∧ slot ts 8 = .int .i64 k) l.length
    ⟨0, by omega, rfl, .refl _, rfl, Sn, (Sq @t0), (Sq @t1), Sw, Swr⟩ ?_
  clear hlen t0 t1
  rintro _ ts K ⟨k, hk, rfl, eK, hf, hlen, t0, t1, t7, t8⟩
  have hsK := hs.ext eK
  by_cases hlt : k < l.length
  case neg =>
    have e3 := dltF hlt
    have e4 : k = l.length := by omega
    rw [e4, List.drop_length] at hf
    refine Rs (A5 @t0 @t1 @t7 @t8 @e3) ?_
    exact ⟨eK, -1, rfl, by omega, by rw [hf]; simp [fitsB]⟩
  have e3 := dltT hlt
  have e5 := wrapN (n := k) (by omega)
  have ix := hsK.ixm (kk := .i64) hlt
  rw [fitsB_drop hlt] at hf
  obtain ⟨x, hx⟩ : ∃ x, x = l[k] := ⟨_, rfl⟩
  have ld : ∀ {kk : AHeap}, Ext K kk → loadF none (elp s 1 k) (fun b => kk[b]?) = some (.int .i64 x, .keep) := fun {kk} e => by rw [hx]; exact hsK.l1m hlt rfl e
  rw [← hx] at hf
  refine Rs (A7 @t0 @t1 @t7 @t8 @e3 @ix @ld) ?_
  refine WF.ce T.c64 (r64 T x) fun g1 => ?_
  cases hfx : fitB x with
  | true =>
    rw [hfx, Bool.true_and] at hf
    refine Rs (A6 @t0 @t1 @t7 @t8 @e5 @Bool.not_true) ?_
    exact ⟨l.length - (k + 1), by omega, k + 1, by omega, rfl, eK.trans ⟨g1, rfl⟩, hf, rfl⟩
  | false =>
    rw [hfx, Bool.false_and] at hf
    refine Rs (A6 @t0 @t1 @t7 @t8 @e5 @Bool.not_false) ?_
    exact ⟨eK.trans ⟨g1, rfl⟩, k, rfl, by omega, by rw [hf]; simp⟩
set_option maxHeartbeats 1000000 in
theorem r63 {s : AV} {l : List Int} (hs : IsSl h s 1 (l.map intRow)) (hl : l.length < 2 ^ 40) : RCall P 63 [s, .func (.func 64) [] []] h (fun v _ => v = .bool (!fitsB l)) := by
  refine .st2 9 T.mix T.c63 ?_;intro ts hlen t0 t1;unfold fn63
  refine Rs (A2 @t0 @t1) ?_
  refine WF.res T.c77 (r77 T hs hl) ?_
  rintro _ g1 ⟨n, rfl, h1, h2⟩
  have e : decide (0 ≤ n) = !fitsB l := by
    cases hf : fitsB l with
    | true => rw [hf] at h2; exact decide_eq_false fun z => by simpa using h2.1 z
    | false => exact decide_eq_true (h2.2 hf)
  exact Rs (A3 @t0 @t1 @e) trivial
end
end Go.Abs
namespace Go.Abs

theorem smpl_all {l : List Int} (h : fitsB l = true) : (∀ b ∈ l.map smpl, gridE b = 0) ∧ (l.map smpl).map gridN = l := by
  refine ⟨fun b hb => ?_, ?_⟩
  · obtain ⟨x, hx, rfl⟩ := List.mem_map.1 hb
    exact (smpl_ok (fits_all h x hx).1 (fits_all h x hx).2).2.1
  · rw [List.map_map]
    conv => rhs; rw [← List.map_id l]
    exact List.map_congr_left fun x hx => (smpl_ok (fits_all h x hx).1 (fits_all h x hx).2).2.2
set_option maxRecDepth 10000
attribute [local irreducible] WP WC WE WB WR WF WL WG WRg WQ
section
variable {P : Program} (T : Tbl P) {h : AHeap}
include T
end
end Go.Abs
namespace Go.Abs

def atZ (l : List Int) (j : Int) : Int := if 0 ≤ j then l.getD j.toNat 0 else 0
def genL (n : Nat) (f : Nat → Int) : List Int := (List.range n).map f
theorem genL_succ (n : Nat) (f : Nat → Int) : genL (n + 1) f = genL n f ++ [f n] := by unfold genL; rw [List.range_succ, List.map_append]; rfl
theorem genL_len (n : Nat) (f : Nat → Int) : (genL n f).length = n := by simp [genL]
theorem set_zs {α : Type} {d : List α} {k n : Nat} {z x : α} (h1 : d.length = k) (h2 : k < n) : (d ++ List.replicate (n - k) z).set k x = (d ++ [x]) ++ List.replicate (n - (k + 1)) z := by
  have e : n - k = (n - (k + 1)) + 1 := by omega
  rw [e, List.replicate_succ, List.set_append_right _ _ (by omega), h1, Nat.sub_self, List.append_assoc]; rfl
theorem atZ_bd {l : List Int} (hb : ∀ x ∈ l, -16384 ≤ x ∧ x ≤ 16384) (j : Int) : -16384 ≤ atZ l j ∧ atZ l j ≤ 16384 := by
  unfold atZ
  by_cases h : 0 ≤ j
  · rw [if_pos h, List.getD_eq_getElem?_getD]
    cases hx : l[j.toNat]? with
    | none => simp
    | some y => exact hb y (List.mem_of_getElem? hx)
  · rw [if_neg h]; omega
theorem atZ_at {l : List Int} {k : Nat} (h : k < l.length) : atZ l (k : Int) = l[k] := by
  unfold atZ
  rw [if_pos (by omega), Int.toNat_natCast, List.getD_eq_getElem?_getD, List.getElem?_eq_getElem h]; rfl
theorem grid_all {l : List Nat} (hg : ∀ b ∈ l, gridE b = 0) : ∀ x ∈ l.map gridN, -16384 ≤ x ∧ x ≤ 16384 := fun x hx => by
  obtain ⟨b, hb, rfl⟩ := List.mem_map.1 hx
  exact (grid_num (hg b hb)).2.2
set_option maxRecDepth 10000
attribute [local irreducible] WP WC WE WB WR WF WL WG WRg WQ
section
variable {P : Program} (T : Tbl P) {h : AHeap}
include T
set_option maxHeartbeats 1000000 in
theorem r33 {s : AV} {l : List Int} (hs : IsSl h s 1 (l.map intRow)) (hl : l.length < 2 ^ 40) (j : Int) : RCall P 33 [s, .int .i64 j] h (fun v _ => v = .int .i64 (atZ l j)) := by
  refine .st2 17 T.mix T.c33 ?_;intro ts hlen t0 t1;unfold fn33
  by_cases h1 : j < 0
  · have d1 : decide (j < 0) = true := decide_eq_true h1
    have e : atZ l j = 0 := if_neg (by omega)
    refine Rs (A3 @t0 @t1 @d1) ?_
    rw [e]
  have d1 : decide (j < 0) = false := decide_eq_false h1
  by_cases h2 : (l.length : Int) ≤ j
  · have d2 : decide ((l.length : Int) ≤ j) = true := decide_eq_true h2
    have e : atZ l j = 0 := by
      unfold atZ
      rw [if_pos (by omega), List.getD_eq_getElem?_getD, List.getElem?_eq_none (by omega)]; rfl
    refine Rs (A5 @t0 @t1 @d1 hs.lenm @d2) ?_
    rw [e]
  have d2 : decide ((l.length : Int) ≤ j) = false := decide_eq_false h2
  obtain ⟨k, rfl⟩ : ∃ k : Nat, j = k := ⟨j.toNat, by omega⟩
  have hk : k < l.length := by omega
  have ix := hs.ixm (kk := .i64) hk
  have ld : loadF none (elp s 1 k) (fun b => h[b]?) = some (.int .i64 l[k], .keep) := hs.l1m hk rfl (Ext.refl _)
  have e := atZ_at hk
  refine Rs (A7 @t0 @t1 @d1 hs.lenm @d2 @ix @ld) ?_
  rw [e]
end
end Go.Abs
namespace Go.Abs

set_option maxRecDepth 10000
attribute [local irreducible] WP WC WE WB WR WF WL WG WRg WQ
section
variable {P : Program} (T : Tbl P) {h : AHeap}
include T
end
end Go.Abs
namespace Go.Abs

set_option maxRecDepth 10000
attribute [local irreducible] WP WC WE WB WR WF WL WG WRg WQ
section
variable {P : Program} (T : Tbl P) {h : AHeap}
include T
end
end Go.Abs
namespace Go.Abs

def rndI (n d : Int) : Int := (2 * n + d) / (2 * d)
theorem flo_eq {a b : Int} (hb : 0 < b) : a / b = if a < 0 ∧ a.tdiv b * b ≠ a then a.tdiv b - 1 else a.tdiv b := by
  have h1 := Int.mul_tdiv_add_tmod a b
  by_cases ha : 0 ≤ a
  · rw [if_neg (by omega)]; exact (Int.tdiv_eq_ediv_of_nonneg ha).symm
  · have hm1 : -b < a.tmod b := Int.lt_tmod_of_pos a hb
    have hm2 : a.tmod b ≤ 0 := by
      have := Int.tmod_nonneg (a := -a) b (by omega)
      rw [Int.neg_tmod] at this
      omega
    rw [Int.mul_comm] at h1
    by_cases he : a.tdiv b * b = a
    · rw [if_neg (by omega)]
      conv => lhs; rw [← he]
      exact Int.mul_ediv_cancel _ (by omega)
    · rw [if_pos ⟨by omega, he⟩]
      have e : a = (b + a.tmod b) + (a.tdiv b - 1) * b := by rw [Int.sub_mul]; omega
      have hne : a.tmod b ≠ 0 := fun z => he (by omega)
      conv => lhs; rw [e]
      rw [Int.add_mul_ediv_right _ _ (by omega), Int.ediv_eq_zero_of_lt (by omega) (by omega)]
      omega
theorem flo_eq2 {a b : Int} (hb : 0 < b) : a / b = if a < a.tdiv b * b then a.tdiv b - 1 else a.tdiv b := by
  rw [flo_eq hb]
  have h1 := Int.mul_tdiv_add_tmod a b
  rw [Int.mul_comm] at h1
  by_cases ha : 0 ≤ a
  · have hm := Int.tmod_nonneg (a := a) b ha
    rw [if_neg (by omega), if_neg (by omega)]
  · have hm2 : a.tmod b ≤ 0 := by
      have := Int.tmod_nonneg (a := -a) b (by omega)
      rw [Int.neg_tmod] at this
      omega
    by_cases he : a.tdiv b * b = a
    · rw [if_neg (by omega), if_neg (by omega)]
    · rw [if_pos ⟨by omega, he⟩, if_pos (by omega)]
theorem tdiv_le_self {a b : Int} (hb : 0 < b) {M : Int} (h1 : -M ≤ a) (h2 : a ≤ M) : -M ≤ a.tdiv b ∧ a.tdiv b ≤ M ∧ -M ≤ a.tdiv b * b ∧ a.tdiv b * b ≤ M := by
  have e := Int.mul_tdiv_add_tmod a b
  rw [Int.mul_comm] at e
  have q := quo_bd (n := a) (g := b) (by omega) (B := M) ⟨h1, h2⟩
  refine ⟨q.1, q.2, ?_, ?_⟩
  · by_cases ha : 0 ≤ a
    · have := Int.mul_nonneg (Int.tdiv_nonneg ha (by omega : 0 ≤ b)) (by omega : 0 ≤ b)
      omega
    · have hm2 : a.tmod b ≤ 0 := by
        have := Int.tmod_nonneg (a := -a) b (by omega)
        rw [Int.neg_tmod] at this
        omega
      omega
  · by_cases ha : 0 ≤ a
    · have hm := Int.tmod_nonneg (a := a) b ha
      omega
    · have h3 : a.tdiv b ≤ 0 := by
        have := Int.tdiv_nonneg (a := -a) (b := b) (by omega) (by omega)
        rw [Int.neg_tdiv] at this
        omega
      have := Int.mul_nonneg (show 0 ≤ -(a.tdiv b) by omega) (show 0 ≤ b by omega)
      rw [Int.neg_mul] at this
      omega
set_option maxRecDepth 10000
attribute [local irreducible] WP WC WE WB WR WF WL WG WRg WQ
section
variable {P : Program} (T : Tbl P) {h : AHeap}
include T
set_option maxHeartbeats 2000000 in
theorem r30 {n d : Int} (hn : -2 ^ 60 ≤ n ∧ n ≤ 2 ^ 60) (hd : 1 ≤ d ∧ d ≤ 2 ^ 40) : RCall P 30 [.int .i64 n, .int .i64 d] h (fun v _ => v = .int .i64 (rndI n d)) := by
  refine .st2 28 T.mix T.c30 ?_;intro ts hlen t0 t1;unfold fn30
  have w1 : IntKind.i64.wrap (2 * n) = 2 * n := wrap_in (by omega) (by omega)
  have w2 : IntKind.i64.wrap (2 * n + d) = 2 * n + d := wrap_in (by omega) (by omega)
  have w3 : IntKind.i64.wrap (2 * d) = 2 * d := wrap_in (by omega) (by omega)
  obtain ⟨a, ha⟩ : ∃ a, a = 2 * n + d := ⟨_, rfl⟩
  obtain ⟨b, hb⟩ : ∃ b, b = 2 * d := ⟨_, rfl⟩
  have hbp : 0 < b := by omega
  obtain ⟨k1, k2, k3, k4⟩ := tdiv_le_self (a := a) hbp (M := 2 ^ 62) (by omega) (by omega)
  have q1 : binK .quo (.int .i64 a) (.int .i64 b) = some (.int .i64 (a.tdiv b)) := by rw [bin_quo (by omega), wrap_in (by omega) (by omega)]
  have hr : rndI n d = if a < 0 ∧ a.tdiv b * b ≠ a then a.tdiv b - 1 else a.tdiv b := by unfold rndI; rw [← ha, ← hb, flo_eq hbp]
  have k5 := tdiv_le_self (a := a) (b := d) (by omega) (M := 2 ^ 62) (by omega) (by omega)
  have w5 : IntKind.i64.wrap (a.tdiv b * 2) = a.tdiv b * 2 := by
    by_cases hq : 0 ≤ a.tdiv b
    · have := Int.mul_le_mul_of_nonneg_left (show 2 ≤ b by omega) hq
      exact wrap_in (by omega) (by omega)
    · have := Int.mul_le_mul_of_nonneg_left (show 2 ≤ b by omega) (show 0 ≤ -(a.tdiv b) by omega)
      rw [Int.neg_mul, Int.neg_mul] at this
      exact wrap_in (by omega) (by omega)
  have e6 : a.tdiv b * 2 * d = a.tdiv b * b := by rw [hb, Int.mul_assoc]
  have w6 : IntKind.i64.wrap (a.tdiv b * b) = a.tdiv b * b := wrap_in (by omega) (by omega)
  have w7 : IntKind.i64.wrap (a.tdiv b - 1) = a.tdiv b - 1 := wrap_in (by omega) (by omega)
  rw [← ha] at w2
  rw [← hb] at w3
  rw [hr]
  by_cases h1 : a < 0
  case neg =>
    have d1 : decide (a < 0) = false := decide_eq_false h1
    rw [if_neg (by omega)]
    repeat (first | simp (config := { maxSteps := 1000000 }) only [wset, hset, dset, bset, Nat.reduceAdd, Nat.reduceMul, Nat.reduceLeDiff, Nat.reduceEqDiff, pset, hlen, if_false, if_true, t0, t1, w1, ← ha, w2, ← hb, w3, q1, d1] | simp (config := { maxSteps := 1000000 }) (disch := first | (simp only [List.length_append, List.length_cons, List.length_nil] <;> omega) | rfl | omega | fail) only [kset, wset, hset, dset, bset, Nat.reduceAdd, Nat.reduceMul, Nat.reduceLeDiff, Nat.reduceEqDiff, pset, hlen, if_false, if_true, t0, t1, w1, ← ha, w2, ← hb, w3, q1, d1])
  have d1 : decide (a < 0) = true := decide_eq_true h1
  by_cases h2 : a.tdiv b * b = a
  · have d2 : decide (a.tdiv b * b ≠ a) = false := decide_eq_false fun z => z h2
    rw [if_neg (by omega)]
    repeat (first | simp (config := { maxSteps := 1000000 }) only [wset, hset, dset, bset, Nat.reduceAdd, Nat.reduceMul, Nat.reduceLeDiff, Nat.reduceEqDiff, pset, hlen, if_false, if_true, t0, t1, w1, ← ha, w2, ← hb, w3, q1, d1, w5, e6, w6, d2] | simp (config := { maxSteps := 1000000 }) (disch := first | (simp only [List.length_append, List.length_cons, List.length_nil] <;> omega) | rfl | omega | fail) only [kset, wset, hset, dset, bset, Nat.reduceAdd, Nat.reduceMul, Nat.reduceLeDiff, Nat.reduceEqDiff, pset, hlen, if_false, if_true, t0, t1, w1, ← ha, w2, ← hb, w3, q1, d1, w5, e6, w6, d2])
  · have d2 : decide (a.tdiv b * b ≠ a) = true := decide_eq_true h2
    rw [if_pos ⟨h1, h2⟩]
    repeat (first | simp (config := { maxSteps := 1000000 }) only [wset, hset, dset, bset, Nat.reduceAdd, Nat.reduceMul, Nat.reduceLeDiff, Nat.reduceEqDiff, pset, hlen, if_false, if_true, t0, t1, w1, ← ha, w2, ← hb, w3, q1, d1, w5, e6, w6, d2, w7] | simp (config := { maxSteps := 1000000 }) (disch := first | (simp only [List.length_append, List.length_cons, List.length_nil] <;> omega) | rfl | omega | fail) only [kset, wset, hset, dset, bset, Nat.reduceAdd, Nat.reduceMul, Nat.reduceLeDiff, Nat.reduceEqDiff, pset, hlen, if_false, if_true, t0, t1, w1, ← ha, w2, ← hb, w3, q1, d1, w5, e6, w6, d2, w7])
set_option maxHeartbeats 2000000 in
theorem r41 {a b : Int} (ha : -2 ^ 62 ≤ a ∧ a ≤ 2 ^ 62) (hb : 1 ≤ b ∧ b ≤ 2 ^ 62) : RCall P 41 [.int .i64 a, .int .i64 b] h (fun v _ => v = .int .i64 (a / b)) := by
  refine .st2 17 T.mix T.c41 ?_;intro ts hlen t0 t1;unfold fn41
  obtain ⟨k1, k2, k3, k4⟩ := tdiv_le_self (a := a) (b := b) (by omega) (M := 2 ^ 62) (by omega) (by omega)
  have q1 : binK .quo (.int .i64 a) (.int .i64 b) = some (.int .i64 (a.tdiv b)) := by rw [bin_quo (by omega), wrap_in (by omega) (by omega)]
  have w6 : IntKind.i64.wrap (a.tdiv b * b) = a.tdiv b * b := wrap_in (by omega) (by omega)
  have w7 : IntKind.i64.wrap (a.tdiv b - 1) = a.tdiv b - 1 := wrap_in (by omega) (by omega)
  rw [flo_eq2 (show 0 < b by omega)]
  by_cases h2 : a < a.tdiv b * b
  · have d2 : decide (a < a.tdiv b * b) = true := decide_eq_true h2
    rw [if_pos h2]
    exact Rs (A6 @t0 @t1 @q1 @w6 @d2 @w7) trivial
  · have d2 : decide (a < a.tdiv b * b) = false := decide_eq_false h2
    rw [if_neg h2]
    exact Rs (A5 @t0 @t1 @q1 @w6 @d2) trivial
set_option maxHeartbeats 2000000 in
theorem r15 {n d : Int} (hn : -2 ^ 60 ≤ n ∧ n ≤ 2 ^ 60) (hd : 1 ≤ d ∧ d ≤ 2 ^ 40) : RCall P 15 [.int .i64 n, .int .i64 d] h (fun v _ => v = .int .i64 (rndI n d)) := by
  refine .st2 12 T.mix T.c15 ?_;intro ts hlen t0 t1;unfold fn15
  have w1 : IntKind.i64.wrap (2 * n) = 2 * n := wrap_in (by omega) (by omega)
  have w2 : IntKind.i64.wrap (2 * n + d) = 2 * n + d := wrap_in (by omega) (by omega)
  have w3 : IntKind.i64.wrap (2 * d) = 2 * d := wrap_in (by omega) (by omega)
  refine Rs (A5 @t0 @t1 @w1 @w2 @w3) ?_
  refine WF.ce T.c41 (r41 T ⟨by omega, by omega⟩ ⟨by omega, by omega⟩) fun g1 => ?_
  refine Rs (A2 @t0 @t1) ?_
  rfl
end
end Go.Abs
namespace Go.Abs

set_option maxRecDepth 10000
attribute [local irreducible] WP WC WE WB WR WF WL WG WRg WQ
section
variable {P : Program} (T : Tbl P) {h : AHeap}
include T
end
end Go.Abs
namespace Go.Abs

set_option maxRecDepth 10000
attribute [local irreducible] WP WC WE WB WR WF WL WG WRg WQ
section
variable {P : Program} (T : Tbl P) {h : AHeap}
include T
end
end Go.Abs
namespace Go.Abs

set_option maxRecDepth 10000
attribute [local irreducible] WP WC WE WB WR WF WL WG WRg WQ
section
variable {P : Program} (T : Tbl P) {h : AHeap}
include T
end
end Go.Abs
namespace Go.Abs

set_option maxRecDepth 10000
attribute [local irreducible] WP WC WE WB WR WF WL WG WRg WQ
section
variable {P : Program} (T : Tbl P) {h : AHeap}
include T
end
end Go.Abs
namespace Go.Abs

set_option maxRecDepth 10000
attribute [local irreducible] WP WC WE WB WR WF WL WG WRg WQ
section
variable {P : Program} (T : Tbl P) {h : AHeap}
include T
end
end Go.Abs
namespace Go.Abs

set_option maxRecDepth 10000
attribute [local irreducible] WP WC WE WB WR WF WL WG WRg WQ
section
variable {P : Program} (T : Tbl P) {h : AHeap}
include T
end
end Go.Abs
namespace Go.Abs

set_option maxRecDepth 10000
attribute [local irreducible] WP WC WE WB WR WF WL WG WRg WQ
section
variable {P : Program} (T : Tbl P) {h : AHeap}
include T
end
end Go.Abs
namespace Go.Abs

set_option maxRecDepth 10000
attribute [local irreducible] WP WC WE WB WR WF WL WG WRg WQ
section
variable {P : Program} (T : Tbl P) {h : AHeap}
include T
end
end Go.Abs
namespace Go.Abs

set_option maxRecDepth 10000
attribute [local irreducible] WP WC WE WB WR WF WL WG WRg WQ
section
variable {P : Program} (T : Tbl P) {h : AHeap}
include T
end
end Go.Abs
namespace Go.Abs

theorem ext_setG {h K : AHeap} {b : Nat} {X : ABlk} (e : Ext h K) (hb : h.length ≤ b) : Ext h (K.set b X) := by
  obtain ⟨z, rfl⟩ := e
  rw [List.set_append_right _ _ hb]; exact ⟨_, rfl⟩
set_option maxRecDepth 10000
attribute [local irreducible] WP WC WE WB WR WF WL WG WRg WQ
section
variable {P : Program} (T : Tbl P) {h : AHeap}
include T
end
end Go.Abs
namespace Go.Abs

set_option maxRecDepth 10000
attribute [local irreducible] WP WC WE WB WR WF WL WG WRg WQ
section
variable {P : Program} (T : Tbl P) {h : AHeap}
include T
end
end Go.Abs
namespace Go.Abs

set_option maxRecDepth 10000
attribute [local irreducible] WP WC WE WB WR WF WL WG WRg WQ
section
variable {P : Program} (T : Tbl P) {h : AHeap}
include T
end
end Go.Abs
namespace Go.Abs

def z4 : List AV := [.cplx .f64 0 0, .cplx .f64 0 0, .cplx .f64 0 0, .cplx .f64 0 0]
set_option maxRecDepth 10000
attribute [local irreducible] WP WC WE WB WR WF WL WG WRg WQ
section
variable {P : Program} (T : Tbl P) {h : AHeap}
include T
end
end Go.Abs
namespace Go.Abs

theorem Fr.swap' {N : Nat} {A B g : AHeap} {s : AV} {es : Nat} {cs : List (List AV)} (hs : Fr N (A ++ g) s es cs) (hA : A.length = N) (hB : B.length = N) : Fr N (B ++ g) s es cs := by
  subst hA; exact hs.swap hB

theorem WF.valg {P : Program} {ro : Option Nat → Prop} {ks : List Kt} {ts : TS} {h h' : AHeap} {Q : Ex → TS → AHeap → Prop} {fv : AV} {args : List AV} {d : Option Nat} {l : List IOp} {v : AV} (H : SCallV P fv args h v h') (K : WP P ro l ks (put ts d v) h' Q) : WF P ro false fv args d l ks ts h Q :=
  ⟨v, h', H, fun hq => absurd hq (by simp), K⟩

set_option maxRecDepth 10000
attribute [local irreducible] WP WC WE WB WR WF WL WG WRg WQ
section
variable {P : Program} (T : Tbl P) {h : AHeap}
include T
end
end Go.Abs
namespace Go.Abs

/-- What a loop over the traces that are no holes is given: their indices and they. -/
def liveL : Nat → List (Trc × AV) → List (List AV)
  | _, [] => []
  | i, x :: r => if x.1.hole = true then liveL (i + 1) r else [.int .i64 (i : Int), .agg (trRow x)] :: liveL (i + 1) r
def liveT : List (Trc × AV) → List (Trc × AV) := List.filter fun x => !x.1.hole
theorem liveL_len : ∀ (L : List (Trc × AV)) (i : Nat), (liveL i L).length = (liveT L).length
  | [], _ => rfl
  | x :: r, i => by
    unfold liveL liveT
    cases hb : x.1.hole with
    | true =>
      rw [if_pos rfl, List.filter_cons_of_neg (by rw [hb]; decide)]
      exact liveL_len r (i + 1)
    | false =>
      rw [if_neg (by decide), List.filter_cons_of_pos (by rw [hb]; rfl), List.length_cons, List.length_cons]
      exact congrArg (· + 1) (liveL_len r (i + 1))
theorem liveL_at : ∀ (L : List (Trc × AV)) (i j : Nat) (h : j < (liveL i L).length) (h2 : j < (liveT L).length), ∃ n : Nat, (liveL i L)[j] = [.int .i64 (n : Int), .agg (trRow (liveT L)[j])]
  | [], _, _, h, _ => by simp [liveL] at h
  | x :: r, i, j, h, h2 => by
    cases hb : x.1.hole with
    | true =>
      have e1 : liveL i (x :: r) = liveL (i + 1) r := by rw [liveL, if_pos hb]
      have e2 : liveT (x :: r) = liveT r := by unfold liveT; rw [List.filter_cons_of_neg (by rw [hb]; decide)]
      simp only [e1, e2] at h h2 ⊢
      exact liveL_at r (i + 1) j h h2
    | false =>
      have e1 : liveL i (x :: r) = [.int .i64 (i : Int), .agg (trRow x)] :: liveL (i + 1) r := by rw [liveL, if_neg (by rw [hb]; decide)]
      have e2 : liveT (x :: r) = x :: liveT r := by unfold liveT; rw [List.filter_cons_of_pos (by rw [hb]; rfl)]
      simp only [e1, e2] at h h2 ⊢
      cases j with
      | zero => exact ⟨i, rfl⟩
      | succ j => exact liveL_at r (i + 1) j (by simpa using h) (by simpa using h2)
theorem liveL_drop (L : List (Trc × AV)) {k : Nat} (hk : k < L.length) (i : Nat) : liveL (i + k) (L.drop k) = if L[k].1.hole = true then liveL (i + (k + 1)) (L.drop (k + 1)) else [.int .i64 ((i + k : Nat) : Int), .agg (trRow L[k])] :: liveL (i + (k + 1)) (L.drop (k + 1)) := by
  rw [List.drop_eq_getElem_cons hk, liveL]
  rfl
theorem liveL_two (L : List (Trc × AV)) (i : Nat) : ∀ y ∈ liveL i L, y.length = 2 := fun y hy => by
  obtain ⟨j, hj, rfl⟩ := List.mem_iff_getElem.1 hy
  obtain ⟨n, e⟩ := liveL_at L i j hj (by rw [← liveL_len L i]; exact hj)
  rw [e]; rfl
/-- The box of a shot. -/
def shC (nm : List UInt8) (s : AV) : List AV := [.str nm, s]
theorem sh_box {nm : List UInt8} {s : AV} (os : s.one = true) {N : Nat} : boxF (.agg [.str nm, s]) N = some (.ptr N 0, .push (.cells (shC nm s) true false)) := by
  unfold boxF
  rw [if_pos (by show ([.str nm, s] : List AV).all AV.one = true; simp only [List.all_cons, List.all_nil, os]; rfl)]
  rfl
theorem sh_l2 {nm : List UInt8} {s : AV} : ldB (some 2) 0 (.cells (shC nm s) true false) = some (.agg [.str nm, s], .keep) := rfl
theorem sh_st {nm nm' : List UInt8} {s s' : AV} (os : s.one = true) {n : Nat} : stB 2 0 (.agg [.str nm, s]) n (.cells (shC nm' s') true false) = some (undefA, .set n (.cells (shC nm s) true false)) := (stB_agg rfl (by simp only [List.all_cons, List.all_nil, os]; rfl) (by show 0 + 2 ≤ 2; omega)).trans rfl
/-- A shot's parts are short enough for any count. -/
structure ShSz (L : List (Trc × AV)) : Prop where
  l : L.length < 2 ^ 40
  s : ∀ x ∈ L, x.1.sm.length < 2 ^ 40
set_option maxRecDepth 10000
attribute [local irreducible] WP WC WE WB WR WF WL WG WRg WQ
section
variable {P : Program} (T : Tbl P) {h : AHeap}
include T
set_option maxHeartbeats 4000000 in
theorem r55 (rg : Rng h) {L : List (Trc × AV)} {s : AV} (o : ShOk h L s) (z : ShSz L) : RCall P 55 [s, .func (.func 56) [] []] h (fun v h' => IsSl h' v 1 ((L.map fun x => chkTr x.1).map intRow)) := by
  refine .st2 22 T.mix T.c55 ?_;intro ts hlen t0 t1;unfold fn55
  have zl := z.l
  refine Rs (A3 @t0 @t1 o.sl.lenm) ?_
  refine WL.inv T.mix (fun n ts K => ∃ (k : Nat) (t : AV), k ≤ L.length ∧ n = L.length - k ∧ Ext h K ∧ Fr h.length K t 1 (((L.take k).map fun x => chkTr x.1).map intRow) ∧ ts.length = 22 ∧ slot ts 1 = .func (.func 56) [] [] ∧ slot ts 5 = t ∧ slot ts 8 = s ∧ slot ts 9 = .int .i64 L.length ∧ slot ts 10 = .int .i64 k) L.length
    ⟨0, .nilSlice, by omega, rfl, .refl _, .nil, Sn, (Sq @t1), Sw, Sw, Sw, Swr⟩ ?_
  clear hlen t0 t1
  rintro _ ts K ⟨k, t, hk, rfl, eK, hfr, hlen, t1, t5, t8, t9, t10⟩
  have hsK := o.sl.ext eK
  by_cases hlt : k < L.length
  case neg =>
    have e3 := dltF hlt
    have e4 : k = L.length := by omega
    rw [e4, List.take_length] at hfr
    refine Rs (A6 @t1 @t5 @t8 @t9 @t10 @e3) ?_
    exact ⟨eK, hfr.isSl⟩
  have e3 := dltT hlt
  have e5 := wrapN (n := k) (by omega)
  have ix := hsK.ixm (kk := .i64) hlt
  obtain ⟨x, hx⟩ : ∃ x, x = L[k] := ⟨_, rfl⟩
  have ld : ∀ {kk : AHeap}, Ext K kk → loadF (some 10) (elp s 10 k) (fun b => kk[b]?) = some (.agg (trRow x), .keep) := fun {kk} e => by rw [hx]; exact hsK.ldm hlt e
  have hmem : x ∈ L := by rw [hx]; exact List.getElem_mem _
  have ox := (o.all x hmem).one
  have ot := hfr.isSl.one
  have htk : L.take (k + 1) = L.take k ++ [x] := by rw [hx]; exact List.take_succ_eq_append_getElem hlt
  have bz := @z10_box
  have st := @st_tr x ox
  refine Rs (A10 @t1 @t5 @t8 @t9 @t10 @e3 @ix @ld @bz @st) ?_
  obtain ⟨K1, hK1⟩ : ∃ K1, K1 = K ++ [ABlk.cells (trRow x) true false] := ⟨_, rfl⟩
  have eK1 : Ext K K1 := by rw [hK1]; exact Xx
  have m7 : K1[K.length]? = some (.cells (trRow x) true false) := by rw [hK1]; exact at_new
  have l7 := @ldx _ _ _ m7
  have l10 := @tr_l10 x
  rw [← hK1]
  refine Rs (A8 @t1 @t5 @t8 @t9 @t10 @l7 @l10 @ot) ?_
  refine WF.ce T.c56 (r56 T (rg.ext (eK.trans eK1)) ((o.all x hmem).ext (eK.trans eK1)) (z.s x hmem)) fun g1 => ?_
  have bs : ∀ {N : Nat}, bslF 1 1 (fillA [.int .i64 0] [(0, 1, .int .i64 (chkTr x.1))]) N = some (.slice N 0 1 1, .push (.cells [.int .i64 (chkTr x.1)] true true)) := fun {N} => rfl
  refine Rs (A7 @t1 @t5 @t8 @t9 @t10 @ot @bs) ?_
  refine WR.appR (B := h) (cs := ((L.take k).map fun x => chkTr x.1).map intRow) (z := intRow (chkTr x.1)) ((hfr.ext eK1).app _) rfl (eK.trans (eK1.trans ⟨_, rfl⟩)) (by decide) (by rw [List.length_map, List.length_map, List.length_take]; omega) ?_
  intro W5 s' x5 hff q5
  have hrow : ((L.take k).map fun x => chkTr x.1).map intRow ++ [intRow (chkTr x.1)] = ((L.take (k + 1)).map fun x => chkTr x.1).map intRow := by rw [htk, List.map_append, List.map_append]; rfl
  rw [hrow] at hff
  refine Rs (A7 @t1 @t5 @t8 @t9 @t10 @q5 @e5) ?_
  exact ⟨L.length - (k + 1), by omega, k + 1, s', by omega, rfl, x5, hff, rfl, rfl⟩
set_option maxHeartbeats 4000000 in
theorem iter_live {b : Nat} {nm : List UInt8} {s : AV} {L : List (Trc × AV)} (m : h[b]? = some (.cells (shC nm s) true false)) (o : ShOk h L s) (z : ShSz L) :
    Iter P 75 [] [.ptr b 0] (liveL 0 L) (Ext h) := by
  refine ⟨fun l h1 J Dn hpre happ hstep hend h0 => GCall.of T.mix T.c75 ?_⟩
  have zl := z.l
  have e1 := hpre 0 h1 h0
  unfold fn75
  have hlm := fun G => o.sl.lenm G
  have l1 : loadF none (.ptr b 1) (fun z => h1[z]?) = some (s, .keep) := by rw [loadF_at (e1.some m)]; rfl
  refine Ws (A2 @l1 @hlm) ?_
  refine WL.inv T.mix (fun n ts h' => ∃ k j : Nat, k ≤ L.length ∧ n = L.length - k ∧ j ≤ (liveL 0 L).length ∧ (liveL 0 L).drop j = liveL (0 + k) (L.drop k) ∧ J j h' ∧ ts.length = 24 ∧ slot ts 0 = .func (.yield l) [] [] ∧ slot ts 6 = s ∧ slot ts 7 = .int .i64 L.length ∧ slot ts 8 = .int .i64 k) L.length
    ⟨0, 0, by omega, rfl, by omega, rfl, h0, rfl, rfl, rfl, rfl, rfl⟩ ?_
  rintro _ ts h' ⟨k, j, hk, rfl, hj, hd, hJ, hlen, t0, t6, t7, t8⟩
  by_cases hlt : k < L.length
  case neg =>
    have e3 := dltF hlt
    have e4 : k = L.length := by omega
    have e5 : j = (liveL 0 L).length := by
      rw [e4, List.drop_length] at hd
      have : (List.drop j (liveL 0 L)).length = 0 := by rw [hd]; rfl
      rw [List.length_drop] at this
      omega
    refine Rs (A5 @t0 @t6 @t7 @t8 @e3) ?_
    refine hend h' ?_
    rw [← e5]; exact hJ
  have e3 := dltT hlt
  have e2 := hpre _ _ hJ
  have e5 := wrapN (n := k) (by omega)
  have oK := o.ext e2
  have ix := oK.sl.ixm (kk := .i64) hlt
  obtain ⟨x, hx⟩ : ∃ x, x = L[k] := ⟨_, rfl⟩
  have ld : ∀ {kk : AHeap}, Ext h' kk → loadF (some 10) (elp s 10 k) (fun b => kk[b]?) = some (.agg (trRow x), .keep) := fun {kk} e => by rw [hx]; exact oK.sl.ldm hlt e
  have hmem : x ∈ L := by rw [hx]; exact List.getElem_mem _
  have ox := (o.all x hmem).one
  have bz := @z10_box
  have st := @st_tr x ox
  have hdk := liveL_drop L hlt 0
  rw [← hx] at hdk
  simp only [Nat.zero_add] at hdk hd
  refine Rs (A9 @t0 @t6 @t7 @t8 @e3 @ix @ld @bz @st) ?_
  obtain ⟨K1, hK1⟩ : ∃ K1, K1 = h' ++ [ABlk.cells (trRow x) true false] := ⟨_, rfl⟩
  have m7 : K1[h'.length]? = some (.cells (trRow x) true false) := by rw [hK1]; exact at_new
  have hJ1 : J j K1 := by rw [hK1]; exact happ _ _ _ hJ
  have l7 := @ldx _ _ _ m7
  have l10 := @tr_l10 x
  have lh : ldV (trRow x)[8]? = some (.bool x.1.hole, .keep) := rfl
  rw [← hK1]
  cases hb : x.1.hole with
  | true =>
    rw [if_pos hb] at hdk
    refine Rs (A9 @t0 @t6 @t7 @t8 @l7 @lh @hb @Bool.not_true @e5) ?_
    exact ⟨L.length - (k + 1), by omega, k + 1, j, by omega, rfl, hj, hd.trans hdk, hJ1, rfl⟩
  | false =>
    rw [if_neg (by rw [hb]; decide)] at hdk
    rw [hdk] at hd
    have hjl : j < (liveL 0 L).length := by
      have : (List.drop j (liveL 0 L)).length ≠ 0 := by rw [hd]; simp
      rw [List.length_drop] at this
      omega
    have hj1 : (liveL 0 L)[j] = [.int .i64 (k : Int), .agg (trRow x)] := by
      have := List.drop_eq_getElem_cons hjl
      rw [hd] at this
      have := (List.cons.inj this).1
      rw [← this]
    have hj2 : (liveL 0 L).drop (j + 1) = liveL (k + 1) (L.drop (k + 1)) := by
      have := List.drop_eq_getElem_cons hjl
      rw [hd] at this
      exact (List.cons.inj this).2.symm
    obtain ⟨bb, k', q1, q2⟩ := hstep j hjl K1 hJ1
    rw [hj1] at q1
    refine Rs (A9 @t0 @t6 @t7 @t8 @l7 @lh @l10 @hb @Bool.not_false) ?_
    refine WF.valg q1 ?_
    cases bb with
    | true =>
      refine Rs (A6 @t0 @t6 @t7 @t8 @Bool.not_true @e5) ?_
      exact ⟨L.length - (k + 1), by omega, k + 1, j + 1, by omega, rfl, by omega, hj2, q2, rfl⟩
    | false =>
      refine Rs (A5 @t0 @t6 @t7 @t8 @Bool.not_false) ?_
      exact q2
theorem r58 {nm : List UInt8} {s : AV} (os : s.one = true) : RCall P 58 [.agg [.str nm, s]] h (fun v h' => ∃ b, v = .func (.func 75) [] [.ptr b 0] ∧ h'[b]? = some (.cells (shC nm s) true false)) := by
  refine .st1 4 T.mix T.c58 ?_;intro ts hlen t0;unfold fn58
  have bx := @sh_box nm s os
  refine Rs (A2 @t0 @bx) ?_
  exact ⟨_, rfl, at_new⟩
end
end Go.Abs
namespace Go.Abs

theorem widN_live (L : List (Trc × AV)) : widN (L.map Prod.fst) = match liveT L with
    | [] => 0
    | x :: _ => x.1.sm.length := by
  unfold widN liveT
  have e : (L.map Prod.fst).find? (fun t => !t.hole) = ((L.filter fun x => !x.1.hole).head?).map Prod.fst := by
    rw [List.head?_filter, List.find?_map]; rfl
  rw [e]
  cases L.filter fun x => !x.1.hole <;> rfl
theorem any_live (L : List (Trc × AV)) (n : Nat) : ((L.map Prod.fst).any fun t => !t.hole && decide (t.sm.length ≠ n)) = (liveT L).any fun x => decide (x.1.sm.length ≠ n) := by
  unfold liveT
  rw [List.any_map, List.any_filter]
  rfl
/-- What a body leaves behind the loop's block. -/
theorem at_it {Y g : AHeap} {R B X : ABlk} : (Y ++ [B] ++ (g ++ [X]))[(Y ++ [R] ++ g).length]? = some X := by
  have e : (Y ++ [R] ++ g).length = (Y ++ [B] ++ g).length := by simp only [List.length_append, List.length_cons, List.length_nil]
  rw [e, ← List.append_assoc]; exact at_new
theorem set_it {Y G : AHeap} {B v : ABlk} {b : Nat} (hb : b < Y.length) : (Y ++ [B] ++ G).set b v = Y.set b v ++ [B] ++ G := by
  rw [List.append_assoc, List.set_append_left _ _ hb, List.append_assoc]
theorem get_it {Y G : AHeap} {B k : ABlk} {b : Nat} (hb : Y[b]? = some k) : (Y ++ [B] ++ G)[b]? = some k := (show Ext Y (Y ++ [B] ++ G) from ⟨[B] ++ G, by rw [List.append_assoc]⟩).some hb
theorem st1_at {K : AHeap} {b : Nat} {v w : AV} (m : K[b]? = some (.cells [w] true false)) (ov : v.one = true) : storeF 1 (.ptr b 0) v (fun z => K[z]?) = some (undefA, .set b (.cells [v] true false)) := by
  rw [storeF_at m, stB_one ov (by show 0 + 1 ≤ 1; omega)]; rfl
set_option maxRecDepth 10000
attribute [local irreducible] WP WC WE WB WR WF WL WG WRg WQ
section
variable {P : Program} (T : Tbl P) {h : AHeap}
include T
set_option maxHeartbeats 4000000 in
theorem r57 {nm : List UInt8} {s : AV} {L : List (Trc × AV)} (o : ShOk h L s) (z : ShSz L) : RCall P 57 [.agg [.str nm, s]] h (fun v _ => ∃ q : Bool, v = .tup [.int .i64 (widN (L.map Prod.fst) : Nat), .bool q]) := by
  refine .st1 13 T.mix T.c57 ?_;intro ts hlen t0;unfold fn57
  have bx := @sh_box nm s o.sl.one
  have l2 := @sh_l2 nm s
  refine Rs (A3 @t0 @bx @l2) ?_
  refine WF.res T.c58 (r58 T o.sl.one) ?_
  rintro _ g1 ⟨b, rfl, mb⟩
  obtain ⟨Y, hY⟩ : ∃ Y, Y = h ++ [ABlk.cells (shC nm s) true false] ++ [ABlk.cells [AV.int .i64 0] true false] ++ [ABlk.cells [AV.bool false] true false] ++ g1 := ⟨_, rfl⟩
  have eY : Ext h Y := by rw [hY]; exact Xx
  have m2 : Y[(h ++ [ABlk.cells (shC nm s) true false]).length]? = some (.cells [AV.int .i64 0] true false) := by rw [hY]; exact at_2
  have m3 : Y[(h ++ [ABlk.cells (shC nm s) true false] ++ [ABlk.cells [AV.int .i64 0] true false]).length]? = some (.cells [AV.bool false] true false) := by rw [hY]; exact at_1
  obtain ⟨b2, hb2⟩ : ∃ b, b = (h ++ [ABlk.cells (shC nm s) true false]).length := ⟨_, rfl⟩
  obtain ⟨b3, hb3⟩ : ∃ b, b = (h ++ [ABlk.cells (shC nm s) true false] ++ [ABlk.cells [AV.int .i64 0] true false]).length := ⟨_, rfl⟩
  have n2 : h.length ≤ b2 := by rw [hb2]; simp only [List.length_append]; omega
  have n3 : h.length ≤ b3 := by rw [hb3]; simp only [List.length_append]; omega
  have n23 : b2 ≠ b3 := by rw [hb2, hb3]; simp only [List.length_append, List.length_cons, List.length_nil]; omega
  rw [← hb2] at m2
  rw [← hb3] at m3
  rw [← hY] at mb
  rw [← hb2, ← hb3, ← hY]
  clear hY hb2 hb3
  have oY := o.ext eY
  have q2 := (List.getElem?_eq_some_iff.1 m2).1
  have q3 := (List.getElem?_eq_some_iff.1 m3).1
  refine Rs @t0 ?_
  refine WC.iter T.mix T.c75 (a := []) (c := [.ptr b 0]) Sw (iter_live T mb oY z) (liveL_two L 0)
    (fun i h' g => i = 0 ∧ h' = Y) (fun e h' g => e = .ret ∧ ∃ x r, liveT L = x :: r ∧ h' = (Y.set b2 (.cells [.int .i64 (x.1.sm.length : Nat)] true false)).set b3 (.cells [.bool true] true false))
    ⟨rfl, rfl⟩ (fun i h' g g' hI => hI) (fun i h' g X hl hI => ?_) (fun i hi h' g R B hl' hI => ?_) (fun e h' g hl hI => ?_)
  · obtain ⟨_, rfl⟩ := hI
    exact Xx
  · obtain ⟨rfl, rfl⟩ := hI
    have hi2 : 0 < (liveT L).length := by rw [← liveL_len L 0]; exact hi
    obtain ⟨n, en⟩ := liveL_at L 0 0 hi hi2
    rw [en]
    obtain ⟨x, r, hxr⟩ : ∃ x r, liveT L = x :: r := by
      cases hq : liveT L with
      | nil => rw [hq] at hi2; simp at hi2
      | cons x r => exact ⟨x, r, rfl⟩
    have ex : (liveT L)[0] = x := by simp only [hxr, List.getElem_cons_zero]
    rw [ex]
    have hmem : x ∈ L := (List.mem_filter.1 (show x ∈ liveT L by rw [hxr]; exact List.mem_cons_self ..)).1
    have hx := oY.all x hmem
    have bz := @z10_box
    have st := @st_tr x hx.one
    simp only [setArgs]
    refine Rs (A3 @t0 @bz @st) ?_
    refine ⟨h', g ++ [ABlk.cells (trRow x) true false], by rw [← List.append_assoc], rfl, ?_⟩
    have l5 : ∀ {n : Option Nat} {a : Nat}, loadF n (.ptr (h' ++ [R] ++ g).length a) (fun z => (h' ++ [B] ++ (g ++ [ABlk.cells (trRow x) true false]))[z]?) = ldB n a (.cells (trRow x) true false) := fun {n a} => loadF_at at_it
    have l9 : ldV (trRow x)[9]? = some (x.2, .keep) := rfl
    have lm := fun G => hx.lenm G
    have s2 := st1_at (v := .int .i64 (x.1.sm.length : Nat)) (get_it (B := B) (G := g ++ [ABlk.cells (trRow x) true false]) m2) rfl
    have s3 := st1_at (v := .bool true) (set_ne' (X := .cells [.int .i64 (x.1.sm.length : Nat)] true false) n23 (get_it (B := B) (G := g ++ [ABlk.cells (trRow x) true false]) m3)) rfl
    refine Rs (A6 @t0 @l5 @l9 @lm @s2 @s3) ?_
    refine ⟨(h'.set b2 (.cells [.int .i64 (x.1.sm.length : Nat)] true false)).set b3 (.cells [.bool true] true false), g ++ [ABlk.cells (trRow x) true false], ?_, ?_, ?_⟩
    · rw [set_it (by rw [List.length_set]; exact q3)]
    · rw [List.length_set, List.length_set]
    · rw [if_neg (fun q => by cases q)]
      exact ⟨x, r, hxr, rfl⟩
  · by_cases hen : e = .normal
    · subst hen
      rw [if_pos rfl] at hI
      obtain ⟨hl0, rfl⟩ := hI
      have hq : liveT L = [] := List.eq_nil_of_length_eq_zero (by rw [← liveL_len L 0]; exact hl0)
      have hw : widN (L.map Prod.fst) = 0 := by rw [widN_live, hq]
      have s2 := st1_at (v := .int .i64 0) (get_it (B := .dead) (G := g) m2) rfl
      have s3 := st1_at (v := .bool false) (set_ne' (X := .cells [.int .i64 0] true false) n23 (get_it (B := .dead) (G := g) m3)) rfl
      have k2 : (((h' ++ [ABlk.dead] ++ g).set b2 (.cells [.int .i64 0] true false)).set b3 (.cells [.bool false] true false))[b2]? = some (.cells [.int .i64 0] true false) := set_ne' (fun q => n23 q.symm) (set_eq' (get_it m2))
      have k3 : (((h' ++ [ABlk.dead] ++ g).set b2 (.cells [.int .i64 0] true false)).set b3 (.cells [.bool false] true false))[b3]? = some (.cells [.bool false] true false) := set_eq' (set_ne' n23 (get_it m3))
      have eK : Ext h (((h' ++ [ABlk.dead] ++ g).set b2 (.cells [.int .i64 0] true false)).set b3 (.cells [.bool false] true false)) := ext_setG (ext_setG (eY.trans Xx) n2) n3
      have f2 := @loadF_at none b2 0 _ _ k2
      have f3 := @loadF_at none b3 0 _ _ k3
      refine Rs (A5 @t0 @s2 @s3 @f2 @f3) ?_
      rw [set_it q2] at eK
      exact ⟨eK, _, by rw [hw]; rfl⟩
    · rw [if_neg hen] at hI
      obtain ⟨rfl, x, r, hxr, rfl⟩ := hI
      have hw : widN (L.map Prod.fst) = x.1.sm.length := by rw [widN_live, hxr]
      have k2 : ((Y.set b2 (.cells [.int .i64 (x.1.sm.length : Nat)] true false)).set b3 (.cells [.bool true] true false) ++ [ABlk.dead] ++ g)[b2]? = some (.cells [.int .i64 (x.1.sm.length : Nat)] true false) := get_it (set_ne' (fun q => n23 q.symm) (set_eq' m2))
      have k3 : ((Y.set b2 (.cells [.int .i64 (x.1.sm.length : Nat)] true false)).set b3 (.cells [.bool true] true false) ++ [ABlk.dead] ++ g)[b3]? = some (.cells [.bool true] true false) := get_it (set_eq' (set_ne' n23 m3))
      have eK : Ext h ((Y.set b2 (.cells [.int .i64 (x.1.sm.length : Nat)] true false)).set b3 (.cells [.bool true] true false) ++ [ABlk.dead] ++ g) := (ext_setG (ext_setG eY n2) n3).trans Xx
      have f2 := @loadF_at none b2 0 _ _ k2
      have f3 := @loadF_at none b3 0 _ _ k3
      refine Rs (A3 @t0 @f2 @f3) ?_
      exact ⟨eK, _, by rw [hw]⟩
set_option maxHeartbeats 8000000 in
theorem r25 (rg : Rng h) {nm : List UInt8} {s : AV} {L : List (Trc × AV)} (o : ShOk h L s) (z : ShSz L) : RCall P 25 [.agg [.str nm, s]] h (fun v _ => v = .int .i64 (chkSh nm (L.map Prod.fst))) := by
  refine .st1 50 T.mix T.c25 ?_;intro ts hlen t0;unfold fn25
  have bx := @sh_box nm s o.sl.one
  have l2 := @sh_l2 nm s
  have ln : ldV (shC nm s)[0]? = some (.str nm, .keep) := rfl
  have ls : ldV (shC nm s)[1]? = some (s, .keep) := rfl
  have hlm := fun G => o.sl.lenm G
  obtain ⟨b1, hb1⟩ : ∃ b, b = h.length := ⟨_, rfl⟩
  obtain ⟨b2, hb2⟩ : ∃ b, b = (h ++ [ABlk.cells (shC nm s) true false]).length := ⟨_, rfl⟩
  obtain ⟨Y, hY⟩ : ∃ Y, Y = h ++ [ABlk.cells (shC nm s) true false] ++ [ABlk.cells [AV.int .i64 0] true false] := ⟨_, rfl⟩
  have eY : Ext h Y := by rw [hY]; exact Xx
  have m1 : Y[b1]? = some (.cells (shC nm s) true false) := by rw [hY, hb1]; exact at_1
  have m2 : Y[b2]? = some (.cells [AV.int .i64 0] true false) := by rw [hY, hb2]; exact at_new
  have n2 : h.length ≤ b2 := by rw [hb2]; simp only [List.length_append]; omega
  have n12 : b1 ≠ b2 := by rw [hb1, hb2]; simp only [List.length_append, List.length_cons, List.length_nil]; omega
  refine Rs (A2 @t0 @bx) ?_
  rw [← hb1, ← hb2, ← hY]
  clear hY hb1 hb2
  have l1 := @ldx _ _ _ m1
  have e1 : (((L.length : Nat) : Int) = 0) = (L.length = 0) := by simp
  have dz : decide ((L.length : Int) = 0) = decide (L.length = 0) := decide_eq_decide.2 (by omega)
  have dg : decide ((64 : Int) < (L.length : Int)) = decide (64 < L.length) := decide_eq_decide.2 (by omega)
  repeat (first | simp (config := { maxSteps := 1000000 }) only [wset, hset, dset, bset, Nat.reduceAdd, Nat.reduceMul, Nat.reduceLeDiff, Nat.reduceEqDiff, pset, hlen, if_false, if_true, t0, l1, ln] | simp (config := { maxSteps := 1000000 }) (disch := first | (simp only [List.length_append, List.length_cons, List.length_nil] <;> omega) | rfl | omega | fail) only [kset, wset, hset, dset, bset, Nat.reduceAdd, Nat.reduceMul, Nat.reduceLeDiff, Nat.reduceEqDiff, pset, hlen, if_false, if_true, t0, l1, ln])
  refine WF.ce T.c54 (r54 T nm) fun g1 => ?_
  refine Rs @t0 ?_
  refine WF.ce T.c37 (r37 T _ _) fun g2 => ?_
  refine Rs (A5 @t0 @l1 @ls @hlm @dz) ?_
  refine WF.ce T.c37 (r37 T _ _) fun g3 => ?_
  refine Rs (A5 @t0 @l1 @ls @hlm @dg) ?_
  refine WF.ce T.c37 (r37 T _ _) fun g4 => ?_
  refine Rs @t0 ?_
  refine WF.ce T.c35 (r35 T (isSl_ints [_, _, _]) (by simp)) fun g5 => ?_
  obtain ⟨K1, hK1⟩ : ∃ K, K = Y ++ g1 ++ g2 ++ g3 ++ g4 ++ [ABlk.cells [AV.int .i64 (whenS (!nameS nm) 8), AV.int .i64 (whenS (decide (L.length = 0)) 12), AV.int .i64 (whenS (decide (64 < L.length)) 5)] true true] ++ g5 := ⟨_, rfl⟩
  have f1 : Ext Y K1 := by rw [hK1]; exact Xx
  rw [← hK1]
  clear hK1
  have hc : chkSh nm (L.map Prod.fst) = firstS [whenS (!nameS nm) 8, whenS (decide (L.length = 0)) 12, whenS (decide (64 < L.length)) 5, firstS (L.map fun x => chkTr x.1), whenS ((liveT L).any fun x => decide (x.1.sm.length ≠ widN (L.map Prod.fst))) 2] := by
    unfold chkSh
    rw [List.length_map, List.map_map, any_live]
    rfl
  have f3 : ∀ {a b c d e : Int}, firstS [a, b, c, d, e] = if firstS [a, b, c] ≠ 0 then firstS [a, b, c] else firstS [d, e] := fun {a b c d e} => by
    simp only [firstS]
    by_cases ha : a = 0 <;> by_cases hb : b = 0 <;> by_cases hc : c = 0 <;> simp [ha, hb, hc]
  rw [f3] at hc
  obtain ⟨E, hE⟩ : ∃ E, E = firstS [whenS (!nameS nm) 8, whenS (decide (L.length = 0)) 12, whenS (decide (64 < L.length)) 5] := ⟨_, rfl⟩
  rw [← hE] at hc ⊢
  clear hE f3
  by_cases hz : E = 0
  case neg =>
    have d1 : decide (E ≠ 0) = true := decide_eq_true hz
    have s2 := st1_at (v := .int .i64 E) (f1.some m2) rfl
    have k2 : (K1.set b2 (.cells [.int .i64 E] true false))[b2]? = some (.cells [.int .i64 E] true false) := set_eq' (f1.some m2)
    have f2 := @loadF_at none b2 0 _ _ k2
    have eK : Ext h (K1.set b2 (.cells [.int .i64 E] true false)) := ext_setG (eY.trans f1) n2
    rw [if_pos hz] at hc
    refine Rs (A4 @t0 @d1 @s2 @f2) ?_
    exact ⟨eK, by rw [hc]⟩
  have d1 : decide (E ≠ 0) = false := decide_eq_false fun z => z hz
  rw [if_neg (fun z => z hz)] at hc
  have l1 := @ldx _ _ _ (f1.some m1)
  have oK := o.ext (eY.trans f1)
  refine Rs (A4 @t0 @d1 @l1 @ls) ?_
  refine WF.res T.c55 (r55 T (rg.ext (eY.trans f1)) oK z) ?_
  intro v g6 is6
  refine Rs @t0 ?_
  refine WF.ce T.c35 (r35 T is6 (by rw [List.length_map]; have := z.l; omega)) fun g7 => ?_
  obtain ⟨K2, hK2⟩ : ∃ K, K = K1 ++ g6 ++ g7 := ⟨_, rfl⟩
  have f2 : Ext K1 K2 := by rw [hK2]; exact Xx
  rw [← hK2]
  clear hK2
  obtain ⟨E2, hE2⟩ : ∃ E, E = firstS (L.map fun x => chkTr x.1) := ⟨_, rfl⟩
  rw [← hE2] at hc ⊢
  by_cases hz2 : E2 = 0
  case neg =>
    have d2 : decide (E2 ≠ 0) = true := decide_eq_true hz2
    have s2 := st1_at (v := .int .i64 E2) ((f1.trans f2).some m2) rfl
    have k2 : (K2.set b2 (.cells [.int .i64 E2] true false))[b2]? = some (.cells [.int .i64 E2] true false) := set_eq' ((f1.trans f2).some m2)
    have f4 := @loadF_at none b2 0 _ _ k2
    have eK : Ext h (K2.set b2 (.cells [.int .i64 E2] true false)) := ext_setG (eY.trans (f1.trans f2)) n2
    rw [firstS, if_neg hz2] at hc
    refine Rs (A4 @t0 @d2 @s2 @f4) ?_
    exact ⟨eK, by rw [hc]⟩
  have d2 : decide (E2 ≠ 0) = false := decide_eq_false fun z => z hz2
  rw [firstS, if_pos hz2] at hc
  have l1 := @ldx _ _ _ ((f1.trans f2).some m1)
  refine Rs (A4 @t0 @d2 @l1 @l2) ?_
  refine WF.res T.c57 (r57 T (oK.ext f2) z) ?_
  rintro _ g8 ⟨q, rfl⟩
  obtain ⟨n, hn⟩ : ∃ n, n = widN (L.map Prod.fst) := ⟨_, rfl⟩
  rw [← hn] at hc ⊢
  have b0 : ∀ {N : Nat}, boxF (.int .i64 0) N = some (.ptr N 0, .push (.cells [.int .i64 0] true false)) := fun {N} => rfl
  have s5 : ∀ {b : Nat}, stB 1 0 (.int .i64 (n : Int)) b (.cells [.int .i64 0] true false) = some (undefA, .set b (.cells [.int .i64 (n : Int)] true false)) := fun {b} => (stB_one rfl (by show 0 + 1 ≤ 1; omega)).trans rfl
  refine Rs (A3 @t0 @b0 @s5) ?_
  obtain ⟨K3, hK3⟩ : ∃ K, K = K2 ++ g8 ++ [ABlk.cells [AV.int .i64 (n : Int)] true false] := ⟨_, rfl⟩
  have f3 : Ext K2 K3 := by rw [hK3]; exact Xx
  have m5 : K3[(K2 ++ g8).length]? = some (.cells [AV.int .i64 (n : Int)] true false) := by rw [hK3]; exact at_new
  obtain ⟨b5, hb5⟩ : ∃ b, b = (K2 ++ g8).length := ⟨_, rfl⟩
  rw [← hb5] at m5
  rw [← hK3, ← hb5]
  have n5 : b2 ≠ b5 := by
    have := (List.getElem?_eq_some_iff.1 ((f1.trans f2).some m2)).1
    rw [hb5]; simp only [List.length_append]; omega
  clear hK3 hb5
  have l1 := @ldx _ _ _ ((f1.trans (f2.trans f3)).some m1)
  refine Rs (A3 @t0 @l1 @l2) ?_
  refine WF.res T.c58 (r58 T o.sl.one) ?_
  rintro _ g9 ⟨b, rfl, mb⟩
  obtain ⟨W, hW⟩ : ∃ W, W = K3 ++ g9 := ⟨_, rfl⟩
  have f4 : Ext K3 W := by rw [hW]; exact Xx
  rw [← hW] at mb ⊢
  clear hW
  have eW : Ext h W := eY.trans (f1.trans (f2.trans (f3.trans f4)))
  have oW := o.ext eW
  have mW2 := (f1.trans (f2.trans (f3.trans f4))).some m2
  have mW5 := f4.some m5
  have q2 := (List.getElem?_eq_some_iff.1 mW2).1
  obtain ⟨bad, hbad⟩ : ∃ bad : Trc × AV → Bool, bad = fun x => decide (x.1.sm.length ≠ n) := ⟨_, rfl⟩
  rw [← hbad] at hc
  refine Rs @t0 ?_
  refine WC.iter T.mix T.c75 (a := []) (c := [.ptr b 0]) Sw (iter_live T mb oW z) (liveL_two L 0)
    (fun i h' g => ((liveT L).take i).any bad = false ∧ h' = W) (fun e h' g => e = .ret ∧ (liveT L).any bad = true ∧ h' = W.set b2 (.cells [.int .i64 2] true false))
    ⟨rfl, rfl⟩ (fun i h' g g' hI => hI) (fun i h' g X hl hI => ?_) (fun i hi h' g R B hl' hI => ?_) (fun e h' g hl hI => ?_)
  · obtain ⟨_, rfl⟩ := hI
    exact Xx
  · obtain ⟨hany, rfl⟩ := hI
    have hi2 : i < (liveT L).length := by rw [← liveL_len L 0]; exact hi
    obtain ⟨j, en⟩ := liveL_at L 0 i hi hi2
    rw [en]
    obtain ⟨x, hx0⟩ : ∃ x, x = (liveT L)[i] := ⟨_, rfl⟩
    have htk : (liveT L).take (i + 1) = (liveT L).take i ++ [x] := by rw [hx0]; exact List.take_succ_eq_append_getElem hi2
    rw [← hx0]
    have hmem : x ∈ L := (List.mem_filter.1 (show x ∈ liveT L by rw [hx0]; exact List.getElem_mem _)).1
    have hx := oW.all x hmem
    have bz := @z10_box
    have st := @st_tr x hx.one
    simp only [setArgs]
    refine Rs (A3 @t0 @bz @st) ?_
    refine ⟨h', g ++ [ABlk.cells (trRow x) true false], by rw [← List.append_assoc], rfl, ?_⟩
    have l8 : ∀ {n : Option Nat} {a : Nat}, loadF n (.ptr (h' ++ [R] ++ g).length a) (fun z => (h' ++ [B] ++ (g ++ [ABlk.cells (trRow x) true false]))[z]?) = ldB n a (.cells (trRow x) true false) := fun {n a} => loadF_at at_it
    have l9 : ldV (trRow x)[9]? = some (x.2, .keep) := rfl
    have lm := fun G => hx.lenm G
    have l5 := @loadF_at none b5 0 _ _ (get_it (B := B) (G := g ++ [ABlk.cells (trRow x) true false]) mW5)
    have s2 := st1_at (v := .int .i64 2) (get_it (B := B) (G := g ++ [ABlk.cells (trRow x) true false]) mW2) rfl
    have bx : bad x = decide (x.1.sm.length ≠ n) := by rw [hbad]
    by_cases hne : x.1.sm.length ≠ n
    · have d3 : decide ((x.1.sm.length : Int) ≠ (n : Int)) = true := decide_eq_true (by omega)
      refine Rs (A7 @t0 @l8 @l9 @lm @l5 @d3 @s2) ?_
      refine ⟨h'.set b2 (.cells [.int .i64 2] true false), g ++ [ABlk.cells (trRow x) true false], rfl, by rw [List.length_set], ?_⟩
      rw [if_neg (fun q => by cases q)]
      refine ⟨?_, rfl⟩
      rw [List.any_eq_true]
      exact ⟨x, by rw [hx0]; exact List.getElem_mem _, by rw [bx]; exact decide_eq_true hne⟩
    · have d3 : decide ((x.1.sm.length : Int) ≠ (n : Int)) = false := decide_eq_false (by omega)
      refine Rs (A6 @t0 @l8 @l9 @lm @l5 @d3) ?_
      refine ⟨h', g ++ [ABlk.cells (trRow x) true false], rfl, rfl, ?_⟩
      refine ⟨?_, rfl⟩
      rw [htk, List.any_append, hany]
      simp only [List.any_cons, List.any_nil, bx, Bool.or_false, Bool.false_or]
      exact decide_eq_false hne
  · by_cases hen : e = .normal
    · subst hen
      rw [if_pos rfl] at hI
      obtain ⟨hany, rfl⟩ := hI
      rw [liveL_len, List.take_length] at hany
      have s2 := st1_at (v := .int .i64 0) (get_it (B := .dead) (G := g) mW2) rfl
      have k2 : ((h' ++ [ABlk.dead] ++ g).set b2 (.cells [.int .i64 0] true false))[b2]? = some (.cells [.int .i64 0] true false) := set_eq' (get_it mW2)
      have eK : Ext h ((h' ++ [ABlk.dead] ++ g).set b2 (.cells [.int .i64 0] true false)) := ext_setG (eW.trans Xx) n2
      have f2 := @loadF_at none b2 0 _ _ k2
      refine Rs (A3 @t0 @s2 @f2) ?_
      rw [set_it q2] at eK
      exact ⟨eK, by rw [hc, hany]; rfl⟩
    · rw [if_neg hen] at hI
      obtain ⟨rfl, hany, rfl⟩ := hI
      have k2 : (W.set b2 (.cells [.int .i64 2] true false) ++ [ABlk.dead] ++ g)[b2]? = some (.cells [.int .i64 2] true false) := get_it (set_eq' mW2)
      have eK : Ext h (W.set b2 (.cells [.int .i64 2] true false) ++ [ABlk.dead] ++ g) := (ext_setG eW n2).trans Xx
      have f2 := @loadF_at none b2 0 _ _ k2
      refine Rs (A2 @t0 @f2) ?_
      exact ⟨eK, by rw [hc, hany]; rfl⟩
end
end Go.Abs
namespace Go.Abs

theorem widN_cons (t : Trc) (r : List Trc) : widN (t :: r) = if t.hole then widN r else t.sm.length := by
  unfold widN
  rw [List.find?_cons]
  cases t.hole <;> rfl
set_option maxRecDepth 10000
attribute [local irreducible] WP WC WE WB WR WF WL WG WRg WQ
section
variable {P : Program} (T : Tbl P) {h : AHeap}
include T
end
end Go.Abs
namespace Go.Abs

theorem atZ_gen {n : Nat} {f : Nat → Int} {k : Nat} (h : k < n) : atZ (genL n f) (k : Int) = f k := by
  rw [atZ_at (by rw [genL_len]; exact h)]
  simp [genL]
theorem list_atZ {A B : List Int} (h : A.length = B.length) (hk : ∀ k : Nat, k < A.length → atZ A k = atZ B k) : A = B := by
  refine List.ext_getElem h fun k h1 h2 => ?_
  have := hk k h1
  rwa [atZ_at h1, atZ_at h2] at this
end Go.Abs
namespace Go.Abs

end Go.Abs
namespace Go.Abs

end Go.Abs
namespace Go.Abs

set_option maxRecDepth 10000
attribute [local irreducible] WP WC WE WB WR WF WL WG WRg WQ
section
variable {P : Program} (T : Tbl P) {h : AHeap}
include T
end
end Go.Abs
namespace Go.Abs

set_option maxRecDepth 10000
attribute [local irreducible] WP WC WE WB WR WF WL WG WRg WQ
section
variable {P : Program} (T : Tbl P) {h : AHeap}
include T
end
end Go.Abs
namespace Go.Abs

set_option maxRecDepth 10000
attribute [local irreducible] WP WC WE WB WR WF WL WG WRg WQ
section
variable {P : Program} (T : Tbl P) {h : AHeap}
include T
end
end Go.Abs
namespace Go.Abs

set_option maxRecDepth 10000
attribute [local irreducible] WP WC WE WB WR WF WL WG WRg WQ
section
variable {P : Program} (T : Tbl P) {h : AHeap}
include T
end
end Go.Abs
namespace Go.Abs

set_option maxRecDepth 10000
attribute [local irreducible] WP WC WE WB WR WF WL WG WRg WQ
section
variable {P : Program} (T : Tbl P) {h : AHeap}
include T
end
end Go.Abs
namespace Go.Abs

set_option maxRecDepth 10000
attribute [local irreducible] WP WC WE WB WR WF WL WG WRg WQ
section
variable {P : Program} (T : Tbl P) {h : AHeap}
include T
end
end Go.Abs
namespace Go.Abs

end Go.Abs
namespace Go.Abs

theorem firstS_nil0 : ∀ {l : List Int}, (∀ x ∈ l, x = 0) → firstS l = 0
  | [], _ => rfl
  | a :: l, h => by
    rw [firstS, if_pos (h a (List.mem_cons_self ..))]
    exact firstS_nil0 fun x hx => h x (List.mem_cons_of_mem _ hx)
theorem chkL_ok {l : List Nat} (h1 : l.length ≤ 1024) (h2 : ∀ b ∈ l, gridE b = 0) : chkL l = 0 := by
  unfold chkL
  have e : firstS (l.map gridE) = 0 := firstS_nil0 fun x hx => by
    obtain ⟨b, hb, rfl⟩ := List.mem_map.1 hx
    exact h2 b hb
  first
    | rw [if_neg (by omega)]; exact e
    | (split <;> first | exact e | omega)
theorem fits_of {l : List Int} (h : ∀ x ∈ l, -16384 ≤ x ∧ x ≤ 16384) : fitsB l = true := by
  unfold fitsB
  rw [List.all_eq_true]
  intro x hx
  have := h x hx
  unfold fitB
  first
    | (rw [Bool.and_eq_true]; exact ⟨decide_eq_true this.1, decide_eq_true this.2⟩)
    | simp [this.1, this.2]
    | (simp; omega)
set_option maxRecDepth 10000
attribute [local irreducible] WP WC WE WB WR WF WL WG WRg WQ
section
variable {P : Program} (T : Tbl P) {h : AHeap}
include T
end
end Go.Abs
namespace Go.Abs
open Ieee

set_option maxRecDepth 10000
attribute [local irreducible] WP WC WE WB WR WF WL WG WRg WQ
section
variable {P : Program} (T : Tbl P) {h : AHeap}
include T
end
end Go.Abs
namespace Go.Abs

/-- Slices of different blocks. -/
def Apart (s t : AV) : Prop := ∀ b o n e b' o' n' e', s = .slice b o n e → t = .slice b' o' n' e' → b ≠ b'
theorem Apart.symm {s t : AV} (a : Apart s t) : Apart t s := fun _ _ _ _ _ _ _ _ q1 q2 z => a _ _ _ _ _ _ _ _ q2 q1 z.symm
theorem IsSl.apart_new {K : AHeap} {s : AV} {es : Nat} {cs : List (List AV)} (o : IsSl K s es cs) {b o' n e : Nat} (hb : K.length ≤ b) : Apart s (.slice b o' n e) := fun _ _ _ _ _ _ _ _ q1 q2 => by
  cases q2
  have := o.lt q1
  omega
theorem IsSl.apart_fr {h K : AHeap} {s t : AV} {es es' : Nat} {cs cs' : List (List AV)} {M : Nat} (o : IsSl h s es cs) (f : Fr M K t es' cs') (hM : h.length ≤ M) : Apart s t := fun _ _ _ _ _ _ _ _ q1 q2 z => by
  have h1 := o.lt q1
  have h2 := (f.lt q2).1
  omega
theorem Fr.apart_fr {K K2 : AHeap} {s t : AV} {es es' : Nat} {cs cs' : List (List AV)} {M M2 : Nat} (o : Fr M K s es cs) (f : Fr M2 K2 t es' cs') (hM : K.length ≤ M2) : Apart s t := fun _ _ _ _ _ _ _ _ q1 q2 z => by
  have h1 := (o.lt q1).2
  have h2 := (f.lt q2).1
  omega
/-- A slice is not of this block. -/
def NotB (b : Nat) (s : AV) : Prop := ∀ b0 o n e, s = .slice b0 o n e → b0 ≠ b
theorem IsSl.notB {h : AHeap} {s : AV} {es : Nat} {cs : List (List AV)} (o : IsSl h s es cs) {b : Nat} (hb : h.length ≤ b) : NotB b s := fun _ _ _ _ q z => by
  have := o.lt q
  omega
theorem Fr.notB {M : Nat} {h : AHeap} {s : AV} {es : Nat} {cs : List (List AV)} (o : Fr M h s es cs) {b : Nat} (hb : b < M) : NotB b s := fun _ _ _ _ q z => by
  have := (o.lt q).1
  omega
theorem Fr.up {N M : Nat} {h : AHeap} {b n es : Nat} {cs : List (List AV)} (o : Fr N h (.slice b 0 n es) es cs) (hM : M ≤ b) : Fr M h (.slice b 0 n es) es cs := by
  cases o with
  | mk hN hb he => exact .mk hM hb he
theorem Fr.setn {N : Nat} {h : AHeap} {s : AV} {es : Nat} {cs : List (List AV)} (o : Fr N h s es cs) {b : Nat} {X : ABlk} (hb : NotB b s) : Fr N (h.set b X) s es cs := by
  cases o with
  | nil => exact .nil
  | mk hN h1 he => exact .mk hN (set_ne' (fun z => hb _ _ _ _ rfl z.symm) h1) he
theorem IsSl.setb {h : AHeap} {s : AV} {es : Nat} {cs : List (List AV)} (o : IsSl h s es cs) {b : Nat} {X : ABlk} (hb : NotB b s) : IsSl (h.set b X) s es cs := by
  cases o with
  | nil => exact .nil
  | mk h1 hf ho he => exact .mk (set_ne' (fun z => hb _ _ _ _ rfl z.symm) h1) hf ho he
/-- A shot in a box, whose list of traces is its own and grows. -/
structure ShGr (N M : Nat) (K : AHeap) (b : Nat) (nm : List UInt8) (L : List (Trc × AV)) (out : AV) : Prop where
  m : K[b]? = some (.cells (shC nm out) true false)
  fr : Fr M K out 10 (L.map trRow)
  all : ∀ x ∈ L, IsSl K x.2 1 (x.1.sm.map fltR)
  ns : ∀ x ∈ L, Apart x.2 out
  nx : ∀ x ∈ L, ∀ c, N ≤ c → c < M → NotB c x.2
theorem ShGr.ext {N M : Nat} {K k : AHeap} {b : Nat} {nm : List UInt8} {L : List (Trc × AV)} {out : AV} (o : ShGr N M K b nm L out) (e : Ext K k) : ShGr N M k b nm L out := ⟨e.some o.m, o.fr.ext e, fun x hx => (o.all x hx).ext e, o.ns, o.nx⟩
theorem ShGr.nil {N M : Nat} {K : AHeap} {b : Nat} {nm : List UInt8} (m : K[b]? = some (.cells (shC nm .nilSlice) true false)) : ShGr N M K b nm [] .nilSlice := ⟨m, .nil, fun x hx => by simp at hx, fun x hx => by simp at hx, fun x hx => by simp at hx⟩
theorem ShGr.ok {N M : Nat} {K : AHeap} {b : Nat} {nm : List UInt8} {L : List (Trc × AV)} {out : AV} (o : ShGr N M K b nm L out) : ShOk K L out := ⟨o.fr.isSl, o.all⟩
theorem sh_st1 {K : AHeap} {b : Nat} {nm : List UInt8} {s s' : AV} (m : K[b]? = some (.cells (shC nm s) true false)) (os : s'.one = true) : storeF 1 (.ptr b 1) s' (fun z => K[z]?) = some (undefA, .set b (.cells (shC nm s') true false)) := by
  rw [storeF_at m, stB_one os (by show 1 + 1 ≤ 2; omega)]; rfl
/-- A TRACE IS APPENDED TO THE LIST IN THE BOX. -/
theorem ShGr.grow {P : Program} {ro : Option Nat → Prop} {ks : List Kt} {ts : TS} {Q : Ex → TS → AHeap → Prop} {d : Option Nat} {l : List IOp} {h Y : AHeap} {M b : Nat} {nm : List UInt8} {L : List (Trc × AV)} {out : AV} (o : ShGr h.length M Y b nm L out) (eY : Ext h Y) (h1 : h.length ≤ M) (h2 : M ≤ Y.length) (hb : h.length ≤ b) (hbM : b < M) {x : Trc × AV} (hx : IsSl Y x.2 1 (x.1.sm.map fltR)) (hap : Apart x.2 out) (hxb : ∀ c, h.length ≤ c → c < M → NotB c x.2) (hl : L.length < 2 ^ 38)
    (C : ∀ (W : AHeap) (out' : AV), Ext h W → M ≤ W.length → out'.one = true → W[b]? = some (.cells (shC nm out) true false) → ShGr h.length M (W.set b (.cells (shC nm out') true false)) b nm (L ++ [x]) out' → Ext h (W.set b (.cells (shC nm out') true false)) → (∀ c k, c < M → c ≠ b → Y[c]? = some k → (W.set b (.cells (shC nm out') true false))[c]? = some k) → (∀ c, c < Y.length → c ≠ b → (∀ b0 o n e, out = .slice b0 o n e → c ≠ b0) → (W.set b (.cells (shC nm out') true false))[c]? = Y[c]?) → (∀ es (s : AV) (cs : List (List AV)), IsSl Y s es cs → Apart s out') → WP P ro l ks (put ts d out') W Q) :
    WR P ro (appT 10 96 out (.slice Y.length 0 1 10) (fun z => (Y ++ [ABlk.cells (trRow x) true true])[z]?) (Y ++ [ABlk.cells (trRow x) true true]).length) false d l ks ts (Y ++ [ABlk.cells (trRow x) true true]) Q := by
  have hyz : IsSl (Y ++ [ABlk.cells (trRow x) true true]) (AV.slice Y.length 0 1 10) 10 [trRow x] := by
    have := (Fr.push (N := 0) (es := 10) (h := Y) (Nat.zero_le _) [trRow x] (fun y hy => by rw [List.mem_singleton] at hy; rw [hy]; rfl)).isSl
    simpa using this
  refine WR.app1 (h0 := h) (cs := L.map trRow) (ys := [trRow x]) ((o.fr.low h1).app _) hyz (by decide) (by simp) (by rw [List.length_map, List.length_singleton]; omega) (eY.trans (Ext.app _ (Ext.refl _))) ?_
  intro g' hl' hff hkp
  have hWl : (h ++ g').length = Y.length + 2 := by rw [hl', List.length_append, List.length_singleton]
  have keep : ∀ c, c < Y.length → (∀ b0 o n e, out = .slice b0 o n e → c ≠ b0) → (h ++ g')[c]? = Y[c]? := fun c hc hn => by
    rw [hkp c (by rw [List.length_append]; omega) hn, List.getElem?_append_left hc]
  have lowb : ∀ c, c < M → ∀ b0 o' n e, out = .slice b0 o' n e → c ≠ b0 := fun c hc b0 o' n e q z => by
    have := (o.fr.lt q).1
    omega
  have hbY : b < Y.length := by omega
  have mb : (h ++ g')[b]? = some (.cells (shC nm out) true false) := by rw [keep b hbY (lowb b hbM)]; exact o.m
  have hrow : L.map trRow ++ [trRow x] = (L ++ [x]).map trRow := by rw [List.map_append]; rfl
  rw [hrow] at hff ⊢
  have hff := hff.up (M := M) (by rw [List.length_append]; omega)
  obtain ⟨out', ho⟩ : ∃ s, s = AV.slice (Y ++ [ABlk.cells (trRow x) true true]).length 0 ((L ++ [x]).map trRow).length 10 := ⟨_, rfl⟩
  have one' : out'.one = true := by rw [ho]; rfl
  have apn : ∀ {es : Nat} {s : AV} {cs : List (List AV)}, IsSl Y s es cs → Apart s out' := fun {es s cs} q => by
    rw [ho]; exact q.apart_new (by rw [List.length_append]; omega)
  rw [← ho] at hff ⊢
  obtain ⟨W, hW⟩ : ∃ W, W = h ++ g' := ⟨_, rfl⟩
  rw [← hW] at hff hWl keep mb ⊢
  have eW : Ext h W := ⟨g', hW⟩
  have nb : NotB b out' := hff.notB hbM
  have keepc : ∀ c, c < Y.length → c ≠ b → (∀ b0 o n e, out = .slice b0 o n e → c ≠ b0) → (W.set b (.cells (shC nm out') true false))[c]? = Y[c]? := fun c hc hne hn => by
    rw [List.getElem?_set_ne hne.symm, keep c hc hn]
  have hset : ∀ es (s : AV) (cs : List (List AV)), IsSl Y s es cs → Apart s out → NotB b s → IsSl (W.set b (.cells (shC nm out') true false)) s es cs := fun es s cs hs ha hsb => by
    cases hs with
    | nil => exact .nil
    | mk hb' hf ho' he =>
      have hlt := (List.getElem?_eq_some_iff.1 hb').1
      exact .mk ((keepc _ hlt (hsb _ _ _ _ rfl) fun b0 o2 n2 e2 q2 => ha _ _ _ _ _ _ _ _ rfl q2).trans hb') hf ho' he
  refine C W out' eW (by omega) one' mb ⟨set_eq' mb, hff.setn nb, fun y hy => ?_, fun y hy => ?_, fun y hy => ?_⟩ (ext_setG eW hb) (fun c k hc hne hk => (keepc c (by omega) hne (lowb c hc)).trans hk) keepc (fun es s cs q => apn q)
  · rcases List.mem_append.1 hy with hy | hy
    · exact hset _ _ _ (o.all y hy) (o.ns y hy) (o.nx y hy b hb hbM)
    · rw [List.mem_singleton.1 hy]; exact hset _ _ _ hx hap (hxb b hb hbM)
  · rcases List.mem_append.1 hy with hy | hy
    · exact apn (o.all y hy)
    · rw [List.mem_singleton.1 hy]; exact apn hx
  · rcases List.mem_append.1 hy with hy | hy
    · exact o.nx y hy
    · rw [List.mem_singleton.1 hy]; exact hxb
theorem bsl_tr {x : Trc × AV} (ox : x.2.one = true) {N : Nat} : bslF 10 1 (fillA [.int .i64 0, .int .i64 0, .int .i64 0, .int .i64 0, .int .i64 0, .int .i64 0, .int .i64 0, .int .i64 0, .bool false, .nilSlice] [(0, 10, .agg (trRow x))]) N = some (.slice N 0 1 10, .push (.cells (trRow x) true true)) := by
  have e : fillA [.int .i64 0, .int .i64 0, .int .i64 0, .int .i64 0, .int .i64 0, .int .i64 0, .int .i64 0, .int .i64 0, .bool false, .nilSlice] [(0, 10, .agg (trRow x))] = some (trRow x) := rfl
  rw [e]
  show (if (trRow x).all AV.one = true ∧ (trRow x).length = 1 * 10 then _ else _) = _
  rw [if_pos ⟨tr_one ox, rfl⟩]
  rfl
theorem st9 {K : AHeap} {b : Nat} {x : Trc × AV} {v : AV} {t : Trc} (m : K[b]? = some (.cells (trRow x) true false)) (ov : v.one = true) (hh : t.hd = x.1.hd) (ho : t.hole = x.1.hole) : storeF 1 (.ptr b 9) v (fun z => K[z]?) = some (undefA, .set b (.cells (trRow (t, v)) true false)) := by
  rw [storeF_at m, stB_one ov (by show 9 + 1 ≤ 10; omega)]
  obtain ⟨hd, hole, sm⟩ := t
  simp only at hh ho
  subst hh ho
  rfl
set_option maxRecDepth 10000
attribute [local irreducible] WP WC WE WB WR WF WL WG WRg WQ
section
variable {P : Program} (T : Tbl P) {h : AHeap}
include T
end
end Go.Abs
namespace Go.Abs

set_option maxRecDepth 10000
attribute [local irreducible] WP WC WE WB WR WF WL WG WRg WQ
section
variable {P : Program} (T : Tbl P) {h : AHeap}
include T
end
end Go.Abs
namespace Go.Abs

set_option maxRecDepth 10000
attribute [local irreducible] WP WC WE WB WR WF WL WG WRg WQ
section
variable {P : Program} (T : Tbl P) {h : AHeap}
include T
end
end Go.Abs
namespace Go.Abs

set_option maxRecDepth 10000
attribute [local irreducible] WP WC WE WB WR WF WL WG WRg WQ
section
variable {P : Program} (T : Tbl P) {h : AHeap}
include T
set_option maxHeartbeats 1000000 in
theorem q34 {s : AV} {l : List Int} (hs : IsSl h s 1 (l.map intRow)) (hl : l.length < 2 ^ 40) : RCall P 34 [s] h (fun v h' => ∃ (t : AV) (e : Int), v = .tup [t, .int .i64 e] ∧ if fitsB l = true then Fr h.length h' t 1 ((l.map smpl).map fltR) ∧ e = 0 else t = .nilSlice ∧ e = 4) := by
  refine .st1 8 T.mix T.c34 ?_;intro ts hlen t0;unfold fn34
  refine Rs @t0 ?_
  refine WF.ce T.c63 (r63 T hs hl) fun g1 => ?_
  cases hf : fitsB l with
  | false =>
    refine Rs (A2 @t0 @Bool.not_false) ?_
    exact ⟨.nilSlice, 4, rfl, rfl, rfl⟩
  | true =>
    refine Rs (A2 @t0 @Bool.not_true) ?_
    refine WF.res T.c66 (q66 T (hs.ext Xx) hl T.c67 (g := smpl) (fun x hx k => r67 T (fits_all hf x hx).1 (fits_all hf x hx).2)) ?_
    intro s2 g2 is2
    refine Rs @t0 ?_
    exact ⟨s2, 0, rfl, is2.low (by simp), rfl⟩
end
end Go.Abs
namespace Go.Abs

/-- A list moved by a number of places. -/
def shfL (A : List Int) (n : Int) : List Int := genL A.length fun i : Nat => atZ A ((i : Int) + n)
theorem shfL_len (A : List Int) (n : Int) : (shfL A n).length = A.length := genL_len _ _
theorem ratI_bd {n d B : Int} (hd : 1 ≤ d) (hB : d ≤ B) (hn : -B ≤ n ∧ n ≤ B) : (-B ≤ (ratI n d).1 ∧ (ratI n d).1 ≤ B) ∧ 1 ≤ (ratI n d).2 ∧ (ratI n d).2 ≤ B := by
  obtain ⟨g, hg⟩ : ∃ g : Nat, g = Int.gcd n d := ⟨_, rfl⟩
  have gd : g ∣ d.natAbs := by rw [hg]; exact Int.gcd_dvd_natAbs_right n d
  have gp : 0 < g := Nat.pos_of_dvd_of_pos gd (by omega)
  unfold ratI
  rw [← hg]
  have a1 : (n.tdiv (g : Int)).natAbs = n.natAbs / g := by rw [Int.natAbs_tdiv]; rfl
  have a2 : (d.tdiv (g : Int)).natAbs = d.natAbs / g := by rw [Int.natAbs_tdiv]; rfl
  have b1 := Nat.div_le_self n.natAbs g
  have b2 := Nat.div_le_self d.natAbs g
  have b3 : 1 ≤ d.natAbs / g := Nat.div_pos (Nat.le_of_dvd (by omega) gd) gp
  have b4 : 0 ≤ d.tdiv (g : Int) := Int.tdiv_nonneg (by omega) (by omega)
  simp only
  omega
theorem lvlF_c (b : Int × Int) (r : List (Int × Int)) (p : Option (Int × Int)) (t : Int) : lvlF (b :: r) p t = if b.1 < t then lvlF r (some b) t else some (match p with | none => (b.2, 1) | some a => interT a b t) := rfl
theorem lvlF_bd {t : Int} (ht : 0 ≤ t ∧ t ≤ 100000) : ∀ (l : List (Int × Int)) (p : Option (Int × Int)) {z : Int × Int}, (∀ x ∈ l, 0 ≤ x.1 ∧ x.1 ≤ 100000 ∧ -64 ≤ x.2 ∧ x.2 ≤ 64) → (∀ y, p = some y → (0 ≤ y.1 ∧ y.1 ≤ 100000 ∧ -64 ≤ y.2 ∧ y.2 ≤ 64) ∧ ∀ x, l.head? = some x → y.1 < x.1) → (∀ k (h : k + 1 < l.length), (l[k]'(by omega)).1 < l[k + 1].1) → lvlF l p t = some z → (-20000000 ≤ z.1 ∧ z.1 ≤ 20000000) ∧ 1 ≤ z.2 ∧ z.2 ≤ 20000000
  | [], _, _, _, _, _, h => by cases h
  | b :: r, p, z, hr, hp, ho, h => by
    have hb := hr b (List.mem_cons_self ..)
    rw [lvlF_c] at h
    by_cases hlt : b.1 < t
    · rw [if_pos hlt] at h
      refine lvlF_bd ht r (some b) (fun x hx => hr x (List.mem_cons_of_mem _ hx)) (fun y hy => ?_) (fun k hk => ho (k + 1) (by simpa using hk)) h
      cases hy
      refine ⟨hb, fun x hx => ?_⟩
      cases r with
      | nil => cases hx
      | cons c r =>
        cases hx
        exact ho 0 (by simp)
    · rw [if_neg hlt] at h
      cases p with
      | none => cases h; simp only; omega
      | some a =>
        cases h
        obtain ⟨ha, hab⟩ := hp a rfl
        have hab := hab b rfl
        obtain ⟨⟨k1, k2⟩, k3, k4⟩ := inter_bd ha hb ht
        exact ratI_bd (B := 20000000) (by omega) (by omega) ⟨by omega, by omega⟩
theorem lvlS_bd {l : List (Int × Int)} (ok : TdOk l) (h1 : 1 ≤ l.length) {t : Int} (ht : 0 ≤ t ∧ t ≤ 100000) : (-20000000 ≤ (lvlS l t).1 ∧ (lvlS l t).1 ≤ 20000000) ∧ 1 ≤ (lvlS l t).2 ∧ (lvlS l t).2 ≤ 20000000 := by
  unfold lvlS
  cases hz : lvlF l none t with
  | none =>
    have hl : l.length - 1 < l.length := by omega
    have := ok.r l[l.length - 1] (List.getElem_mem _)
    rw [Option.getD_none, List.getD_eq_getElem?_getD, List.getElem?_eq_getElem hl, Option.getD_some]
    simp only
    omega
  | some z =>
    rw [Option.getD_some]
    exact lvlF_bd ht l none ok.r (fun y hy => by cases hy) ok.o hz
theorem rndT_bd {n d : Int} (hd : 1 ≤ d ∧ d ≤ 20000000) (hn : -20000000 ≤ n ∧ n ≤ 20000000) : -50000000 ≤ rndI n d ∧ rndI n d ≤ 50000000 := by
  unfold rndI
  have h1 := Int.ediv_le_self (a := 2 * n + d) (2 * d)
  have h2 := Int.mul_ediv_add_emod (2 * n + d) (2 * d)
  have h3 := Int.emod_nonneg (2 * n + d) (show 2 * d ≠ 0 by omega)
  have h4 := Int.emod_lt_of_pos (2 * n + d) (show 0 < 2 * d by omega)
  obtain ⟨q, hq⟩ : ∃ q, q = (2 * n + d) / (2 * d) := ⟨_, rfl⟩
  rw [← hq] at h2 ⊢
  clear h1
  constructor
  · refine Int.not_lt.1 fun z => ?_
    have : 2 * d * q ≤ 2 * d * (-50000001) := Int.mul_le_mul_of_nonneg_left (by omega) (by omega)
    omega
  · refine Int.not_lt.1 fun z => ?_
    have : 2 * d * 50000001 ≤ 2 * d * q := Int.mul_le_mul_of_nonneg_left (by omega) (by omega)
    omega
/-- How far a trace is moved by tides. -/
def corN (l : List (Int × Int)) (f : Nat → Int) : Int := rndI (lvlS l (f 4)).1 (lvlS l (f 4)).2
theorem atZ_zero {A : List Int} (hA : ∀ x ∈ A, -16384 ≤ x ∧ x ≤ 16384) (n : Int) : fitsB (shfL A n) = true := by
  unfold fitsB
  rw [List.all_eq_true]
  intro x hx
  unfold shfL genL at hx
  obtain ⟨i, _, rfl⟩ := List.mem_map.1 hx
  have := atZ_bd hA ((i : Int) + n)
  unfold fitB
  simp only [Bool.and_eq_true, decide_eq_true_eq]
  exact this
/-- A trace that is changed, if it is no hole. -/
def chgT (G : Trc × AV → List Nat) (x : Trc × AV) : Trc := if x.1.hole = true then x.1 else ⟨x.1.hd, x.1.hole, G x⟩
def errL (E : Trc × AV → Int) (L : List (Trc × AV)) : Int := firstS (L.map fun x => if x.1.hole = true then 0 else E x)
theorem errL_cons (E : Trc × AV → Int) (x : Trc × AV) (r : List (Trc × AV)) : errL E (x :: r) = if (if x.1.hole = true then 0 else E x) = 0 then errL E r else if x.1.hole = true then 0 else E x := by
  unfold errL
  rw [List.map_cons, firstS]
set_option maxRecDepth 10000
attribute [local irreducible] WP WC WE WB WR WF WL WG WRg WQ
section
variable {P : Program} (T : Tbl P) {h : AHeap}
include T
set_option maxHeartbeats 8000000 in
theorem r28 {b : Nat} {s0 : AV} {l : List (Int × Int)} (mb : h[b]? = some (.cells [s0] true false)) (h0 : IsSl h s0 2 (l.map ratR)) (ok : TdOk l) (h1 : 1 ≤ l.length) (hl16 : l.length ≤ 16) {x : Trc × AV} (hx : IsSl h x.2 1 (x.1.sm.map fltR)) (hc : chkL x.1.sm = 0) (h4 : 0 ≤ x.1.hd 4 ∧ x.1.hd 4 ≤ 100000) : RCall P 28 [.agg (trRow x), .ptr b 0] h (fun v h' => ∃ s : AV, v = .tup [s, .int .i64 0] ∧ Fr h.length h' s 1 (((shfL (x.1.sm.map gridN) (corN l x.1.hd)).map smpl).map fltR)) := by
  refine .st2 44 T.mix T.c28 ?_;intro ts hlen t0 t1;unfold fn28
  have ox := hx.one
  have bx : ∀ {N : Nat}, boxF (.agg (trRow x)) N = some (.ptr N 0, .push (.cells (trRow x) true false)) := fun {N} => tr_box ox
  have lbk : ∀ {k : AHeap}, Ext h k → loadF none (.ptr b 0) (fun z => k[z]?) = some (s0, .keep) := fun {k} e => by rw [loadF_at (e.some mb)]; rfl
  have l9v : ldV (trRow x)[9]? = some (x.2, .keep) := rfl
  have l4v : ldV (trRow x)[4]? = some (.int .i64 (x.1.hd 4), .keep) := rfl
  have ia : ∀ {n o : Nat}, iadaF 8 1 (.ptr n o) (.int .i64 4) = some (.ptr n (o + 4)) := fun {n o} => by unfold iadaF; simp
  obtain ⟨hl, hg⟩ := chkL_z hc
  have o0 := h0.one
  obtain ⟨⟨b1, b2⟩, b3, b4⟩ := lvlS_bd ok h1 h4
  obtain ⟨zn, hzn⟩ : ∃ z, z = lvlS l (x.1.hd 4) := ⟨_, rfl⟩
  refine Rs (A8 @t0 @t1 @bx @lbk @l4v @ia @o0 @ox) ?_
  refine WF.ce T.c29 (r29 T (h0.ext Xx) ok h1 hl16 h4) fun g1 => ?_
  have hcn : corN l x.1.hd = rndI zn.1 zn.2 := by rw [hzn]; rfl
  rw [hcn]
  rw [← hzn] at b1 b2 b3 b4 ⊢
  have bz : ∀ {N : Nat}, boxF (.agg [.int .i64 0, .int .i64 0]) N = some (.ptr N 0, .push (.cells (ratR (0, 0)) true false)) := fun {N} => rfl
  have sz : ∀ {n : Nat}, stB 2 0 (.agg (ratR zn)) n (.cells (ratR (0, 0)) true false) = some (undefA, .set n (.cells (ratR zn) true false)) := fun {n} => (stB_agg rfl rfl (by show 0 + 2 ≤ 2; omega)).trans rfl
  have z0 : ldV (ratR zn)[0]? = some (.int .i64 zn.1, .keep) := rfl
  have z1 : ldV (ratR zn)[1]? = some (.int .i64 zn.2, .keep) := rfl
  refine Rs (A6 @t0 @t1 @bz @sz @z0 @z1) ?_
  refine WF.ce T.c30 (r30 T ⟨by omega, by omega⟩ ⟨by omega, by omega⟩) fun g2 => ?_
  have hn := rndT_bd ⟨b3, b4⟩ ⟨b1, b2⟩
  obtain ⟨n, hnn⟩ : ∃ n, n = rndI zn.1 zn.2 := ⟨_, rfl⟩
  rw [← hnn] at hn ⊢
  refine Rs (A4 @t0 @t1 @l9v @ox) ?_
  refine WF.res T.c31 (q31 T (hx.ext Xx) (by omega) T.c32 (g := gridN) (fun y hy k => r32 T (hg y hy))) ?_
  intro s7 g3 fr7
  have is7 := fr7.isSl
  obtain ⟨A, hA⟩ : ∃ A, A = x.1.sm.map gridN := ⟨_, rfl⟩
  have hAl : A.length = x.1.sm.length := by rw [hA]; simp
  have hAb := grid_all hg
  rw [← hA] at is7 hAb ⊢
  obtain ⟨B, hB⟩ : ∃ B, B = h ++ [ABlk.cells (trRow x) true false] ++ g1 ++ [ABlk.cells (ratR zn) true false] ++ g2 ++ g3 := ⟨_, rfl⟩
  have eB : Ext h B := by rw [hB]; exact Xx
  rw [← hB] at is7 ⊢
  clear hB fr7
  repeat (first | simp (config := { maxSteps := 1000000 }) only [wset, hset, dset, bset, Nat.reduceAdd, Nat.reduceMul, Nat.reduceLeDiff, Nat.reduceEqDiff, pset, hlen, if_false, if_true, t0, t1, is7.lenm, mksl_ok (es := 1) (w := 8) (N0 := B.length) (n := A.length) (z := [AV.int .i64 0]) (k := .i64) (k' := .i64) (by omega) (by omega)] | simp (config := { maxSteps := 1000000 }) (disch := first | (simp only [List.length_append, List.length_cons, List.length_nil] <;> omega) | rfl | omega | fail) only [kset, wset, hset, dset, bset, Nat.reduceAdd, Nat.reduceMul, Nat.reduceLeDiff, Nat.reduceEqDiff, pset, hlen, if_false, if_true, t0, t1, is7.lenm, mksl_ok (es := 1) (w := 8) (N0 := B.length) (n := A.length) (z := [AV.int .i64 0]) (k := .i64) (k' := .i64) (by omega) (by omega)])
  have hF := Fr.zeros (N := B.length) (n := A.length) (h := B) (z := [AV.int .i64 0]) (es := 1) (Nat.le_refl _) rfl
  obtain ⟨sv, hsv⟩ : ∃ sv, sv = AV.slice B.length 0 A.length 1 := ⟨_, rfl⟩
  have lsv : ∀ {G : Nat → Option ABlk}, lenG .sl G sv = some A.length := fun {G} => by rw [hsv]; rfl
  rw [← hsv] at hF ⊢
  have er : List.replicate A.length [AV.int .i64 0] = (List.replicate A.length (0 : Int)).map intRow := by simp [intRow]
  rw [er] at hF
  obtain ⟨f, hf⟩ : ∃ f : Nat → Int, f = fun i : Nat => atZ A ((i : Int) + n) := ⟨_, rfl⟩
  have hG : shfL A n = genL A.length f := by rw [hf]; rfl
  refine Rs (A3 @t0 @t1 @lsv) ?_
  refine WL.inv T.mix (fun m ts K => ∃ (k : Nat) (G : AHeap), k ≤ A.length ∧ m = A.length - k ∧ K = B ++ G ∧ Fr B.length K sv 1 ((genL k f ++ List.replicate (A.length - k) 0).map intRow) ∧ ts.length = 44 ∧ slot ts 6 = .int .i64 n ∧ slot ts 7 = s7 ∧ slot ts 8 = sv ∧ slot ts 27 = .int .i64 A.length ∧ slot ts 28 = .int .i64 k) A.length
    ⟨0, _, by omega, rfl, rfl, hF, Sn, Sw, Sw, Sw, Sw, Swr⟩ ?_
  clear hlen t0 t1
  rintro _ ts _ ⟨k, G, hk, rfl, rfl, hfr, hlen, t6, t7, t8, t27, t28⟩
  have eK : Ext B (B ++ G) := ⟨G, rfl⟩
  have is7K := is7.ext eK
  by_cases hlt : k < A.length
  case neg =>
    have e3 := dltF hlt
    have e4 : k = A.length := by omega
    rw [e4, Nat.sub_self, List.replicate_zero, List.append_nil, ← hG] at hfr
    have hfit := atZ_zero hAb n
    refine Rs (A6 @t6 @t7 @t8 @t27 @t28 @e3) ?_
    refine WF.res T.c34 (q34 T hfr.isSl (by rw [hG, genL_len]; omega)) ?_
    rintro _ g5 ⟨t, e, rfl, ht⟩
    rw [if_pos hfit] at ht
    obtain ⟨ht, rfl⟩ := ht
    refine Rs (A3 @t6 @t7 @t8) ?_
    exact ⟨eB.trans (eK.trans ⟨g5, rfl⟩), t, rfl, ht.low (Nat.le_trans eB.len eK.len)⟩
  have e3 := dltT hlt
  have e5 := wrapN (n := k) (by omega)
  have w1 : IntKind.i64.wrap ((k : Int) + n) = (k : Int) + n := wrap_in (by omega) (by omega)
  refine Rs (A7 @t6 @t7 @t8 @t27 @t28 @e3 @w1) ?_
  refine WF.ce T.c33 (r33 T is7K (by omega) _) fun g4 => ?_
  have hfk : f k = atZ A ((k : Int) + n) := by rw [hf]
  have hfr2 := hfr.app g4
  have hll : (genL k f ++ List.replicate (A.length - k) (0 : Int)).length = A.length := by rw [List.length_append, genL_len, List.length_replicate]; omega
  have ixk := hfr2.isSl.ixm (kk := .i64) (show k < _ by rw [hll]; exact hlt)
  rw [List.append_assoc] at hfr2 ⊢
  refine Rs (A6 @t6 @t7 @t8 @t27 @t28 @ixk) ?_
  refine WR.put1 (h0 := B) (off := 0) (row := intRow) (x' := f k) hfr2 (by rw [hll]; exact hlt) (by decide) rfl (by rw [hfk]; rfl) ?_
  intro g5 hl5 hF5 _
  rw [set_zs (genL_len k f) hlt, ← genL_succ] at hF5
  refine Rs (A6 @t6 @t7 @t8 @t27 @t28 @e5) ?_
  exact ⟨A.length - (k + 1), by omega, k + 1, g5, by omega, rfl, rfl, hF5, rfl⟩
set_option maxHeartbeats 8000000 in
theorem r27 {nm : List UInt8} {s : AV} {L : List (Trc × AV)} (o : ShOk h L s) (zl : L.length < 2 ^ 38) {f : FuncId} {AF : AFunc} (hA : compileFn P f = some AF) {c : Nat} {E : Trc × AV → Int} {G : Trc × AV → List Nat} (hf : ∀ x ∈ L, x.1.hole = false → ∀ k, Ext h k → RCall P f [.agg (trRow x), .ptr c 0] k (fun v k' => ∃ t : AV, v = .tup [t, .int .i64 (E x)] ∧ (E x = 0 → Fr k.length k' t 1 ((G x).map fltR)))) : RCall P 27 [.agg [.str nm, s], .func (.func f) [] [.ptr c 0]] h (fun v h' => ∃ (r : AV), v = .tup [r, .int .i64 (errL E L)] ∧ if errL E L = 0 then ∃ (s' : AV) (L' : List (Trc × AV)), r = .agg [.str nm, s'] ∧ ShOk h' L' s' ∧ L'.map Prod.fst = L.map (chgT G) ∧ (∀ c, c < h.length → NotB c s') ∧ ∀ y ∈ L', (∃ x ∈ L, y.2 = x.2) ∨ ∀ c, c < h.length → NotB c y.2 else r = .agg [.str [], .nilSlice]) := by
  refine .st2 44 T.mix T.c27 ?_;intro ts hlen t0 t1;unfold fn27
  have bx := @sh_box nm s o.sl.one
  have bz : ∀ {N : Nat}, boxF (.agg [.str [], .nilSlice]) N = some (.ptr N 0, .push (.cells (shC [] .nilSlice) true false)) := fun {N} => rfl
  have ln : ldV (shC nm s)[0]? = some (.str nm, .keep) := rfl
  have ls : ldV (shC nm s)[1]? = some (s, .keep) := rfl
  have hlm := fun G => o.sl.lenm G
  have bd : fillA [.str [], .nilSlice] [(0, 1, .str nm)] = some [.str nm, .nilSlice] := rfl
  have bd0 : fillA [.str [], .nilSlice] [] = some [.str [], .nilSlice] := rfl
  have st3 : ∀ {n : Nat}, stB 2 0 (.agg [.str nm, .nilSlice]) n (.cells (shC [] .nilSlice) true false) = some (undefA, .set n (.cells (shC nm .nilSlice) true false)) := fun {n} => sh_st rfl
  repeat (first | simp (config := { maxSteps := 1000000 }) only [wset, hset, dset, bset, Nat.reduceAdd, Nat.reduceMul, Nat.reduceLeDiff, Nat.reduceEqDiff, pset, hlen, if_false, if_true, t0, t1, bx, bz, ln, bd, st3, ls, hlm] | simp (config := { maxSteps := 1000000 }) (disch := first | (simp only [List.length_append, List.length_cons, List.length_nil] <;> omega) | rfl | omega | fail) only [kset, wset, hset, dset, bset, Nat.reduceAdd, Nat.reduceMul, Nat.reduceLeDiff, Nat.reduceEqDiff, pset, hlen, if_false, if_true, t0, t1, bx, bz, ln, bd, st3, ls, hlm])
  obtain ⟨Y, hY⟩ : ∃ Y, Y = h ++ [ABlk.cells (shC nm s) true false] ++ [ABlk.cells (shC [] .nilSlice) true false] ++ [ABlk.cells (shC nm .nilSlice) true false] := ⟨_, rfl⟩
  have eY : Ext h Y := by rw [hY]; exact Xx
  have m4 : Y[(h ++ [ABlk.cells (shC nm s) true false]).length]? = some (.cells (shC [] .nilSlice) true false) := by rw [hY]; exact at_1
  have m6 : Y[(h ++ [ABlk.cells (shC nm s) true false] ++ [ABlk.cells (shC [] .nilSlice) true false]).length]? = some (.cells (shC nm .nilSlice) true false) := by rw [hY]; exact at_new
  obtain ⟨b4, hb4⟩ : ∃ b, b = (h ++ [ABlk.cells (shC nm s) true false]).length := ⟨_, rfl⟩
  obtain ⟨b6, hb6⟩ : ∃ b, b = (h ++ [ABlk.cells (shC nm s) true false] ++ [ABlk.cells (shC [] .nilSlice) true false]).length := ⟨_, rfl⟩
  have n4 : h.length ≤ b4 := by rw [hb4]; simp only [List.length_append]; omega
  have n6 : h.length ≤ b6 := by rw [hb6]; simp only [List.length_append]; omega
  have n46 : b4 ≠ b6 := by rw [hb4, hb6]; simp only [List.length_append, List.length_cons, List.length_nil]; omega
  rw [← hb4] at m4
  rw [← hb6] at m6
  rw [← hY, ← hb4, ← hb6]
  clear hY hb4 hb6
  have q4 := (List.getElem?_eq_some_iff.1 m4).1
  have q6 := (List.getElem?_eq_some_iff.1 m6).1
  obtain ⟨M, hM⟩ : ∃ M, M = Y.length := ⟨_, rfl⟩
  rw [← hM] at q4 q6
  have hm := eY.len
  rw [← hM] at hm
  refine WL.inv T.mix (fun n ts K => ∃ (k : Nat) (out : AV) (L' : List (Trc × AV)), k ≤ L.length ∧ n = L.length - k ∧ Ext h K ∧ M ≤ K.length ∧ K[b4]? = some (.cells (shC [] .nilSlice) true false) ∧ ShGr h.length M K b6 nm L' out ∧ (∀ y ∈ L', (∃ x ∈ L, y.2 = x.2) ∨ ∀ c, c < h.length → NotB c y.2) ∧ L'.map Prod.fst = (L.take k).map (chgT G) ∧ errL E L = errL E (L.drop k) ∧ ts.length = 44 ∧ slot ts 1 = .func (.func f) [] [.ptr c 0] ∧ slot ts 4 = .ptr b4 0 ∧ slot ts 6 = .ptr b6 0 ∧ slot ts 15 = s ∧ slot ts 16 = .int .i64 L.length ∧ slot ts 17 = .int .i64 k) L.length
    ⟨0, .nilSlice, [], by omega, rfl, eY, by omega, m4, .nil m6, fun y hy => by simp at hy, rfl, rfl, Sn, (Sq @t1), Sw, Sw, Sw, Sw, Swr⟩ ?_
  clear hlen t0 t1 eY m4 m6 hM
  rintro _ ts K ⟨k, out, L', hk, rfl, eK, hMK, m4, gr, hN, hL', herr, hlen, t1, t4, t6, t15, t16, t17⟩
  have oK := o.ext eK
  by_cases hlt : k < L.length
  case neg =>
    have e3 := dltF hlt
    have e4 : k = L.length := by omega
    rw [e4, List.take_length] at hL'
    rw [e4, List.drop_length] at herr
    have herr : errL E L = 0 := herr
    have l3 := @ldx _ _ _ gr.m
    have l2 : ldB (some 2) 0 (.cells (shC nm out) true false) = some (.agg [.str nm, out], .keep) := rfl
    have s2 : storeF 2 (.ptr b4 0) (.agg [.str nm, out]) (fun z => K[z]?) = some (undefA, .set b4 (.cells (shC nm out) true false)) := by
      rw [storeF_at m4]; exact sh_st gr.fr.isSl.one
    have k2 : (K.set b4 (.cells (shC nm out) true false))[b4]? = some (.cells (shC nm out) true false) := set_eq' m4
    have f2 := @loadF_at (some 2) b4 0 _ _ k2
    refine Rs (A11 @t1 @t4 @t6 @t15 @t16 @t17 @e3 @l3 @l2 @s2 @f2) ?_
    refine ⟨ext_setG eK n4, _, by rw [herr], ?_⟩
    rw [if_pos herr]
    exact ⟨out, L', rfl, ⟨(gr.fr.setn (gr.fr.notB q4)).isSl, fun x hx => (gr.all x hx).setb (gr.nx x hx b4 n4 q4)⟩, hL', fun c hc => gr.fr.notB (by omega), hN⟩
  have e3 := dltT hlt
  have e5 := wrapN (n := k) (by omega)
  have ix := oK.sl.ixm (kk := .i64) hlt
  obtain ⟨x, hx⟩ : ∃ x, x = L[k] := ⟨_, rfl⟩
  have ld : ∀ {kk : AHeap}, Ext K kk → loadF (some 10) (elp s 10 k) (fun b => kk[b]?) = some (.agg (trRow x), .keep) := fun {kk} e => by rw [hx]; exact oK.sl.ldm hlt e
  have hmem : x ∈ L := by rw [hx]; exact List.getElem_mem _
  have hsx := oK.all x hmem
  have ox := hsx.one
  have htk : L.take (k + 1) = L.take k ++ [x] := by rw [hx]; exact List.take_succ_eq_append_getElem hlt
  have hdk : L.drop k = x :: L.drop (k + 1) := by rw [hx]; exact List.drop_eq_getElem_cons hlt
  rw [hdk, errL_cons] at herr
  have hLk : L'.length = k := by
    have := congrArg List.length hL'
    rw [List.length_map, List.length_map, List.length_take] at this
    omega
  have b10 := @z10_box
  have st := @st_tr x ox
  have gr0 := gr
  have l8v : ldV (trRow x)[8]? = some (.bool x.1.hole, .keep) := rfl
  have l10 := @tr_l10 x
  have oo := gr.fr.isSl.one
  have l3 := @ldx _ _ _ gr.m
  have l3v : ldV (shC nm out)[1]? = some (out, .keep) := rfl
  cases hb : x.1.hole with
  | true =>
    rw [hb, if_pos rfl, if_pos rfl] at herr
    have herr2 := herr
    have bs := @bsl_tr x ox
    have hch : chgT G x = x.1 := by unfold chgT; rw [if_pos hb]
    refine Rs (A20 @t1 @t4 @t6 @t15 @t16 @t17 @e3 @ix @ld @b10 @st @l8v @hb @Bool.not_true @l3 @l3v @l10 @oo @ox @bs) ?_
    obtain ⟨K1, hK1⟩ : ∃ K1, K1 = K ++ [ABlk.cells (trRow x) true false] := ⟨_, rfl⟩
    have eK1 : Ext K K1 := by rw [hK1]; exact Xx
    have hK1l : K1.length = K.length + 1 := by rw [hK1, List.length_append, List.length_singleton]
    rw [← hK1]
    clear hK1
    have gr := gr.ext eK1
    refine ShGr.grow (x := x) gr (eK.trans eK1) hm (by omega) n6 q6 (hsx.ext eK1) ((o.all x hmem).apart_fr gr.fr hm) (fun c h1 h2 => (o.all x hmem).notB h1) (by omega) ?_
    intro W out' eW hMW one' mW grW eS keepM keepc apn
    have s3 := sh_st1 mW one'
    have hlist : (L' ++ [x]).map Prod.fst = (L.take (k + 1)).map (chgT G) := by rw [htk, List.map_append, List.map_append, hL']; rw [show ([x] : List (Trc × AV)).map (chgT G) = [x.1] by rw [List.map_singleton, hch]]; rfl
    refine Rs (A9 @t1 @t4 @t6 @t15 @t16 @t17 @one' @s3 @e5) ?_
    exact ⟨L.length - (k + 1), by omega, k + 1, out', L' ++ [x], by omega, rfl, eS, by rw [List.length_set]; exact hMW, keepM b4 _ q4 n46 (eK1.some m4), grW, fun y' hy' => (List.mem_append.1 hy').elim (hN y') (fun q => by rw [List.mem_singleton.1 q]; exact .inl ⟨x, hmem, rfl⟩), hlist, herr2, rfl⟩
  | false =>
    have hn : ¬ x.1.hole = true := by rw [hb]; decide
    simp only [if_neg hn] at herr
    refine Rs (A15 @t1 @t4 @t6 @t15 @t16 @t17 @e3 @ix @ld @b10 @st @l8v @hb @Bool.not_false @l10) ?_
    obtain ⟨K1, hK1⟩ : ∃ K1, K1 = K ++ [ABlk.cells (trRow x) true false] := ⟨_, rfl⟩
    have eK1 : Ext K K1 := by rw [hK1]; exact Xx
    have m8 : K1[K.length]? = some (.cells (trRow x) true false) := by rw [hK1]; exact at_new
    have hK1l : K1.length = K.length + 1 := by rw [hK1, List.length_append, List.length_singleton]
    rw [← hK1]
    clear hK1
    refine WF.res (a := []) (c := [.ptr c 0]) hA (hf x hmem hb K1 (eK.trans eK1)) ?_
    rintro _ g1 ⟨t, rfl, hfr⟩
    have eG : Ext K1 (K1 ++ g1) := Xx
    by_cases hz : E x = 0
    case neg =>
      have d1 : decide (E x ≠ 0) = true := decide_eq_true hz
      rw [if_neg hz] at herr
      have s4 : storeF 2 (.ptr b4 0) (.agg [.str [], .nilSlice]) (fun z => (K1 ++ g1)[z]?) = some (undefA, .set b4 (.cells (shC [] .nilSlice) true false)) := by
        rw [storeF_at ((eK1.trans eG).some m4)]; exact sh_st rfl
      have k4 : ((K1 ++ g1).set b4 (.cells (shC [] .nilSlice) true false))[b4]? = some (.cells (shC [] .nilSlice) true false) := set_eq' ((eK1.trans eG).some m4)
      have f4 := @loadF_at (some 2) b4 0 _ _ k4
      have l2 : ldB (some 2) 0 (.cells (shC [] .nilSlice) true false) = some (.agg [.str [], .nilSlice], .keep) := rfl
      refine Rs (A11 @t1 @t4 @t6 @t15 @t16 @t17 @d1 @bd0 @s4 @f4 @l2) ?_
      refine ⟨?_, _, by rw [herr], ?_⟩
      · have := ext_setG (X := .cells (shC [] .nilSlice) true false) (eK.trans (eK1.trans eG)) n4
        first | exact this | (rw [List.set_append_left _ _ (List.getElem?_eq_some_iff.1 (eK1.some m4)).1] at this; exact this)
      · rw [herr, if_neg hz]
    have d1 : decide (E x ≠ 0) = false := decide_eq_false fun z => z hz
    rw [if_pos hz] at herr
    have herr2 := herr
    have hfr := hfr hz
    have ot := hfr.isSl.one
    obtain ⟨y, hy⟩ : ∃ y : Trc, y = chgT G x := ⟨_, rfl⟩
    have hy1 : y = ⟨x.1.hd, x.1.hole, G x⟩ := by rw [hy]; unfold chgT; rw [if_neg hn]
    have s9 := st9 (v := t) (t := y) (eG.some m8) ot (by rw [hy1]) (by rw [hy1])
    have hfr : Fr K1.length (K1 ++ g1) t 1 (y.sm.map fltR) := by rw [hy1]; exact hfr
    obtain ⟨K2, hK2⟩ : ∃ K2, K2 = (K1 ++ g1).set K.length (.cells (trRow (y, t)) true false) := ⟨_, rfl⟩
    have hK2' : (K1.set K.length (.cells (trRow (y, t)) true false)) ++ g1 = K2 := by rw [hK2, List.set_append_left _ _ (by omega)]
    refine Rs (A9 @t1 @t4 @t6 @t15 @t16 @t17 @d1 @s9 @ot) ?_
    have eK2 : Ext K K2 := by rw [hK2]; exact ext_setG (eK1.trans eG) (Nat.le_refl _)
    have m8 : K2[K.length]? = some (.cells (trRow (y, t)) true false) := by rw [hK2]; exact set_eq' (eG.some m8)
    have f2 : Fr K1.length K2 t 1 (y.sm.map fltR) := by rw [hK2]; exact hfr.setn (hfr.notB (by omega))
    first | rw [hK2'] | rw [← hK2]
    clear hK2 hK2'
    have hK2l := eK2.len
    have gr := gr.ext eK2
    have l3 := @ldx _ _ _ gr.m
    have l8 := @ldx _ _ _ m8
    have l10 := @tr_l10 (y, t)
    have bs := @bsl_tr (y, t) ot
    refine Rs (A13 @t1 @t4 @t6 @t15 @t16 @t17 @l3 @l3v @l8 @l10 @oo @ot @bs) ?_
    refine ShGr.grow (x := (y, t)) gr (eK.trans eK2) hm (by omega) n6 q6 f2.isSl (gr0.fr.apart_fr f2 (by omega)).symm (fun c h1 h2 => f2.notB (by omega)) (by omega) ?_
    intro W out' eW hMW one' mW grW eS keepM keepc apn
    have s3 := sh_st1 mW one'
    have hlist : (L' ++ [(y, t)]).map Prod.fst = (L.take (k + 1)).map (chgT G) := by rw [htk, List.map_append, List.map_append, hL']; rw [show ([x] : List (Trc × AV)).map (chgT G) = [y] by rw [List.map_singleton, hy]]; rfl
    refine Rs (A9 @t1 @t4 @t6 @t15 @t16 @t17 @one' @s3 @e5) ?_
    exact ⟨L.length - (k + 1), by omega, k + 1, out', L' ++ [(y, t)], by omega, rfl, eS, by rw [List.length_set]; exact hMW, keepM b4 _ q4 n46 (eK2.some m4), grW, fun y' hy' => (List.mem_append.1 hy').elim (hN y') (fun q => by rw [List.mem_singleton.1 q]; exact .inr fun c hc => f2.notB (by omega)), hlist, herr2, rfl⟩
end
end Go.Abs
namespace Go.Abs

theorem grid_z0 : gridE 0 = 0 ∧ gridN 0 = 0 := by
  have := smpl_ok (n := 0) (by omega) (by omega)
  rw [show smpl 0 = 0 by unfold smpl; decide] at this
  exact this.2
theorem hdE_z {f : Nat → Int} (h : hdE f = 0) : 0 ≤ f 4 ∧ f 4 ≤ 100000 := by
  have := firstS_z h (rangeS (f 4) 0 100000) (by simp)
  exact rangeS_z.1 this
theorem chkTr_z {t : Trc} (h : chkTr t = 0) : hdE t.hd = 0 ∧ (t.hole = true → t.sm = []) ∧ chkL t.sm = 0 := by
  have q := firstS_z h
  refine ⟨q _ (by simp), fun hb => ?_, q _ (by simp)⟩
  have := q (whenS (t.hole && decide (0 < t.sm.length)) 24) (by simp)
  rw [hb, Bool.true_and] at this
  by_cases hl : 0 < t.sm.length
  · rw [decide_eq_true hl] at this; cases this
  · exact List.eq_nil_of_length_eq_zero (by omega)
theorem chkSh_z {nm : List UInt8} {L : List Trc} (h : chkSh nm L = 0) : nameS nm = true ∧ 0 < L.length ∧ L.length ≤ 64 ∧ ∀ t ∈ L, chkTr t = 0 := by
  have q := firstS_z h
  have q1 := q (whenS (!nameS nm) 8) (by simp)
  have q2 := q (whenS (decide (L.length = 0)) 12) (by simp)
  have q3 := q (whenS (decide (64 < L.length)) 5) (by simp)
  have q4 := q (firstS (L.map chkTr)) (by simp)
  refine ⟨?_, ?_, ?_, fun t ht => firstS_z q4 _ (List.mem_map_of_mem ht)⟩
  · cases hn : nameS nm with
    | true => rfl
    | false => rw [hn] at q1; cases q1
  · refine Nat.pos_of_ne_zero fun z => ?_
    rw [decide_eq_true z] at q2; cases q2
  · refine Nat.not_lt.1 fun z => ?_
    rw [decide_eq_true z] at q3; cases q3
noncomputable def corG (l : List (Int × Int)) (x : Trc × AV) : List Nat := (shfL (x.1.sm.map gridN) (corN l x.1.hd)).map smpl
theorem errL_zero {L : List (Trc × AV)} : errL (fun _ => 0) L = 0 := by
  unfold errL
  induction L with
  | nil => rfl
  | cons x r ih => rw [List.map_cons, firstS, if_pos (by split <;> rfl)]; exact ih
/-- What a changed shot is. -/
def ChgR (h : AHeap) (nm : List UInt8) (L : List (Trc × AV)) (G : Trc × AV → List Nat) (bad : Int) (r : AV) (e : Int) (ex : Int) : Prop := e = firstS [bad, ex] ∧ if e = 0 then ∃ (s' : AV) (L' : List (Trc × AV)), r = .agg [.str nm, s'] ∧ ShOk h L' s' ∧ L'.map Prod.fst = L.map (chgT G) else r = .agg [.str [], .nilSlice]
set_option maxRecDepth 10000
attribute [local irreducible] WP WC WE WB WR WF WL WG WRg WQ
section
variable {P : Program} (T : Tbl P) {h : AHeap}
include T
set_option maxHeartbeats 8000000 in
theorem r11 (rg : Rng h) {nm : List UInt8} {s s0 : AV} {L : List (Trc × AV)} {l : List (Int × Int)} (o : ShOk h L s) (z : ShSz L) (zl : L.length < 2 ^ 38) (h0 : IsSl h s0 2 (l.map ratR)) (hl0 : l.length < 2 ^ 40) : RCall P 11 [.agg [.str nm, s], s0] h (fun v h' => ∃ (r : AV) (e : Int), v = .tup [r, .int .i64 e] ∧ ChgR h' nm L (corG l) (firstS [chkSh nm (L.map Prod.fst), chkTs l]) r e (errL (fun _ => 0) L)) := by
  refine .st2 22 T.mix T.c11 ?_;intro ts hlen t0 t1;unfold fn11
  have bx := @sh_box nm s o.sl.one
  have o0 := h0.one
  have b0 : ∀ {N : Nat}, boxF s0 N = some (.ptr N 0, .push (.cells [s0] true false)) := fun {N} => by
    unfold boxF
    rw [h0.cells, if_pos (by simp only [List.all_cons, List.all_nil, o0]; rfl)]
  have bz : ∀ {N : Nat}, boxF (.agg [.str [], .nilSlice]) N = some (.ptr N 0, .push (.cells (shC [] .nilSlice) true false)) := fun {N} => rfl
  have l2 := @sh_l2 nm s
  have bd0 : fillA [.str [], .nilSlice] [] = some [.str [], .nilSlice] := rfl
  refine Rs (A5 @t0 @t1 @bx @b0 @bz) ?_
  obtain ⟨Y, hY⟩ : ∃ Y, Y = h ++ [ABlk.cells (shC nm s) true false] ++ [ABlk.cells [s0] true false] ++ [ABlk.cells (shC [] .nilSlice) true false] := ⟨_, rfl⟩
  have eY : Ext h Y := by rw [hY]; exact Xx
  have m2 : Y[h.length]? = some (.cells (shC nm s) true false) := by rw [hY]; exact at_2
  have m3 : Y[(h ++ [ABlk.cells (shC nm s) true false]).length]? = some (.cells [s0] true false) := by rw [hY]; exact at_1
  have m4 : Y[(h ++ [ABlk.cells (shC nm s) true false] ++ [ABlk.cells [s0] true false]).length]? = some (.cells (shC [] .nilSlice) true false) := by rw [hY]; exact at_new
  obtain ⟨b2, hb2⟩ : ∃ b, b = h.length := ⟨_, rfl⟩
  obtain ⟨b3, hb3⟩ : ∃ b, b = (h ++ [ABlk.cells (shC nm s) true false]).length := ⟨_, rfl⟩
  obtain ⟨b4, hb4⟩ : ∃ b, b = (h ++ [ABlk.cells (shC nm s) true false] ++ [ABlk.cells [s0] true false]).length := ⟨_, rfl⟩
  have n4 : h.length ≤ b4 := by rw [hb4]; simp only [List.length_append]; omega
  rw [← hb2] at m2
  rw [← hb3] at m3
  rw [← hb4] at m4
  rw [← hY, ← hb2, ← hb3, ← hb4]
  clear hY hb2 hb3 hb4
  have i2 := @ldx _ _ _ m2
  have i3 : ∀ {k : AHeap}, Ext Y k → loadF none (.ptr b3 0) (fun z => k[z]?) = some (s0, .keep) := fun {k} e => by rw [loadF_at (e.some m3)]; rfl
  refine Rs (A4 @t0 @t1 @i2 @l2) ?_
  refine WF.ce T.c25 (r25 T (rg.ext eY) (o.ext eY) z) fun g1 => ?_
  refine Rs (A4 @t0 @t1 @i3 @o0) ?_
  refine WF.ce T.c26 (r26 T ((h0.ext eY).ext Xx) hl0) fun g2 => ?_
  refine Rs (A2 @t0 @t1) ?_
  refine WF.ce T.c24 (r24 T (isSl_ints [_, _]) (by simp)) fun g3 => ?_
  obtain ⟨bad, hbad⟩ : ∃ bad, bad = firstS [chkSh nm (L.map Prod.fst), chkTs l] := ⟨_, rfl⟩
  obtain ⟨K1, hK1⟩ : ∃ K, K = Y ++ g1 ++ g2 ++ [ABlk.cells [AV.int .i64 (chkSh nm (L.map Prod.fst)), AV.int .i64 (chkTs l)] true true] ++ g3 := ⟨_, rfl⟩
  have f1 : Ext Y K1 := by rw [hK1]; exact Xx
  rw [← hbad, ← hK1]
  clear hK1
  by_cases hz : bad = 0
  case neg =>
    have d1 : decide (bad ≠ 0) = true := decide_eq_true hz
    have s4 : storeF 2 (.ptr b4 0) (.agg [.str [], .nilSlice]) (fun z => K1[z]?) = some (undefA, .set b4 (.cells (shC [] .nilSlice) true false)) := by
      rw [storeF_at (f1.some m4)]; exact sh_st rfl
    have k4 : (K1.set b4 (.cells (shC [] .nilSlice) true false))[b4]? = some (.cells (shC [] .nilSlice) true false) := set_eq' (f1.some m4)
    have f4 := @loadF_at (some 2) b4 0 _ _ k4
    have l4 : ldB (some 2) 0 (.cells (shC [] .nilSlice) true false) = some (.agg [.str [], .nilSlice], .keep) := rfl
    refine Rs (A7 @t0 @t1 @d1 @bd0 @s4 @f4 @l4) ?_
    refine ⟨ext_setG (eY.trans f1) n4, _, _, rfl, ?_⟩
    unfold ChgR
    rw [firstS, if_neg hz, if_neg hz]
    exact ⟨rfl, rfl⟩
  have d1 : decide (bad ≠ 0) = false := decide_eq_false fun z => z hz
  obtain ⟨c1, c2⟩ := first2 (hbad.symm.trans hz)
  obtain ⟨_, _, _, hct⟩ := chkSh_z c1
  obtain ⟨ht, ht1, ht2⟩ := chkTs_z c2
  have i2 := @ldx _ _ _ (f1.some m2)
  refine Rs (A5 @t0 @t1 @d1 @i2 @l2) ?_
  refine WF.res T.c27 (r27 T (o.ext (eY.trans f1)) zl T.c28 (c := b3) (E := fun _ => 0) (G := corG l) (fun x hx hb k ek => ?_)) ?_
  · have hcx := chkTr_z (hct x.1 (List.mem_map_of_mem hx))
    have ekh := eY.trans (f1.trans ek)
    refine (r28 T (b := b3) (s0 := s0) (l := l) ((f1.trans ek).some m3) (h0.ext ekh) ht ht1 ht2 ((o.all x hx).ext ekh) hcx.2.2 (hdE_z hcx.1)).mono ?_
    rintro _ _ ⟨w, rfl, hw⟩
    exact ⟨w, rfl, fun _ => hw⟩
  rintro _ g4 ⟨r, rfl, hr⟩
  obtain ⟨ex, hex⟩ : ∃ ex, ex = errL (fun _ => 0) L := ⟨_, rfl⟩
  rw [← hex] at hr ⊢
  have eg : Ext K1 (K1 ++ g4) := ⟨g4, rfl⟩
  have fin : firstS [bad, ex] = ex := by
    rw [hz]
    show (if (0 : Int) = 0 then (if ex = 0 then 0 else ex) else 0) = ex
    rw [if_pos rfl]
    by_cases q : ex = 0
    · rw [if_pos q, q]
    · rw [if_neg q]
  by_cases hq : ex = 0
  · rw [if_pos hq] at hr
    obtain ⟨s', L', rfl, ok', hl', hn1, hn2⟩ := hr
    have b4K : b4 < K1.length := (List.getElem?_eq_some_iff.1 (f1.some m4)).1
    have okS : ShOk ((K1 ++ g4).set b4 (.cells (shC nm s') true false)) L' s' := ⟨ok'.sl.setb (hn1 b4 b4K), fun y hy => (ok'.all y hy).setb ((hn2 y hy).elim (fun ⟨x, hx, q⟩ => by rw [q]; exact (o.all x hx).notB n4) fun q => q b4 b4K)⟩
    have eS : Ext h ((K1 ++ g4).set b4 (.cells (shC nm s') true false)) := ext_setG (eY.trans (f1.trans eg)) n4
    have s4 : storeF 2 (.ptr b4 0) (.agg [.str nm, s']) (fun z => (K1 ++ g4)[z]?) = some (undefA, .set b4 (.cells (shC nm s') true false)) := by
      rw [storeF_at ((f1.trans eg).some m4)]; exact sh_st ok'.sl.one
    have k4 : ((K1 ++ g4).set b4 (.cells (shC nm s') true false))[b4]? = some (.cells (shC nm s') true false) := set_eq' ((f1.trans eg).some m4)
    have f4 := @loadF_at (some 2) b4 0 _ _ k4
    have l4 := @sh_l2 nm s'
    have hsw : K1.set b4 (.cells (shC nm s') true false) ++ g4 = (K1 ++ g4).set b4 (.cells (shC nm s') true false) := by rw [List.set_append_left _ _ (List.getElem?_eq_some_iff.1 (f1.some m4)).1]
    refine Rs (A5 @t0 @t1 @s4 @f4 @l4) ?_
    rw [hsw]
    refine ⟨eS, _, _, rfl, ?_⟩
    unfold ChgR
    rw [fin, if_pos hq]
    exact ⟨rfl, s', L', rfl, okS, hl'⟩
  · rw [if_neg hq] at hr
    subst hr
    have s4 : storeF 2 (.ptr b4 0) (.agg [.str [], .nilSlice]) (fun z => (K1 ++ g4)[z]?) = some (undefA, .set b4 (.cells (shC [] .nilSlice) true false)) := by
      rw [storeF_at ((f1.trans eg).some m4)]; exact sh_st rfl
    have k4 : ((K1 ++ g4).set b4 (.cells (shC [] .nilSlice) true false))[b4]? = some (.cells (shC [] .nilSlice) true false) := set_eq' ((f1.trans eg).some m4)
    have f4 := @loadF_at (some 2) b4 0 _ _ k4
    have l4 := @sh_l2 [] .nilSlice
    refine Rs (A5 @t0 @t1 @s4 @f4 @l4) ?_
    refine ⟨?_, _, _, rfl, ?_⟩
    · have := ext_setG (X := .cells (shC [] .nilSlice) true false) (eY.trans (f1.trans eg)) n4
      first | exact this | (rw [List.set_append_left _ _ (List.getElem?_eq_some_iff.1 (f1.some m4)).1] at this; exact this)
    · unfold ChgR
      rw [fin, if_neg hq]
      exact ⟨rfl, rfl⟩
end
end Go.Abs
namespace Go.Abs

set_option maxRecDepth 10000
attribute [local irreducible] WP WC WE WB WR WF WL WG WRg WQ
section
variable {P : Program} (T : Tbl P) {h : AHeap}
include T
end
end Go.Abs
namespace Go.Abs

set_option maxRecDepth 10000
attribute [local irreducible] WP WC WE WB WR WF WL WG WRg WQ
section
variable {P : Program} (T : Tbl P) {h : AHeap}
include T
end
end Go.Abs
namespace Go.Abs

set_option maxRecDepth 10000
attribute [local irreducible] WP WC WE WB WR WF WL WG WRg WQ
section
variable {P : Program} (T : Tbl P) {h : AHeap}
include T
end
end Go.Abs
namespace Go.Abs

set_option maxRecDepth 10000
attribute [local irreducible] WP WC WE WB WR WF WL WG WRg WQ
section
variable {P : Program} (T : Tbl P) {h : AHeap}
include T
end
end Go.Abs
