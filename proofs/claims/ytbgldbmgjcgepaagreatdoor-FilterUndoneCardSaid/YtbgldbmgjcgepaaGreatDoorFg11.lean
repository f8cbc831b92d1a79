/- Contracts: taps undone by the program. No condition. · Contracts: taps undone by the program, with the checks. No condition. · Contracts: pairs of integers as complex numbers. No condition. · Contracts: the powers of the imaginary unit, by the program and by the reference. No condition. · Contracts: a pair turned by the program's table of powers. No condition. · Contracts: a response at one frequency, by the reference. No condition. · Contracts: inner products by the program and by the reference. No condition. · Taps undone, and applied again; ghosts taken off, and put on again: plain. No condition. · Contracts: quiet lists, a number in a list; what is heard when all fits. No condition. · Contracts: the responses by the program. No condition. · Contracts: fitting lists checked; their sums by the reference. No condition. · Contracts: the sums of a fitting list by the program. No condition. · The law of what is undone. No condition. -/
import Derived.Test.YtbgldbmgjcgepaaGreatDoorFg10
set_option linter.all false
namespace Go.Abs

set_option maxRecDepth 10000
attribute [local irreducible] WP WC WE WB WR WF WL WG WRg WQ
section
variable {P : Program} (T : Tbl P) {h : AHeap}
include T
set_option maxHeartbeats 6000000 in
theorem r109 {s0 s : AV} {t A : List Int} (h0 : IsSl h s0 1 (t.map intRow)) (hs : IsSl h s 1 (A.map intRow)) (ht : TpOk t) (hl : A.length ≤ 1024) (hb : ∀ x ∈ A, -16384 ≤ x ∧ x ≤ 16384) (hz : atZ t 0 = 1 ∨ atZ t 0 = -1) : RCall P 109 [s0, s] h (fun v h' => ∃ (u : AV) (e : Int), v = .tup [u, .int .i64 e] ∧ ToldS h' (undP t A A.length) u e) := by
  refine .st2 64 T.mix T.c109 ?_;intro ts hlen t0 t1;unfold fn109
  have htl := ht.l2
  have ht1 : 0 < t.length := by have := ht.l1; omega
  repeat (first | simp (config := { maxSteps := 1000000 }) only [wset, hset, dset, bset, Nat.reduceAdd, Nat.reduceMul, Nat.reduceLeDiff, Nat.reduceEqDiff, pset, hlen, if_false, if_true, t0, t1, hs.lenm, mksl_ok (es := 1) (w := 8) (N0 := h.length) (n := A.length) (z := [AV.int .i64 0]) (k := .i64) (k' := .i64) (by omega) (by omega)] | simp (config := { maxSteps := 1000000 }) (disch := first | (simp only [List.length_append, List.length_cons, List.length_nil] <;> omega) | rfl | omega | fail) only [kset, wset, hset, dset, bset, Nat.reduceAdd, Nat.reduceMul, Nat.reduceLeDiff, Nat.reduceEqDiff, pset, hlen, if_false, if_true, t0, t1, hs.lenm, mksl_ok (es := 1) (w := 8) (N0 := h.length) (n := A.length) (z := [AV.int .i64 0]) (k := .i64) (k' := .i64) (by omega) (by omega)])
  have hF := Fr.zeros (N := h.length) (n := A.length) (h := h) (z := [AV.int .i64 0]) (es := 1) (Nat.le_refl _) rfl
  refine WR.cpy1 (s := AV.slice h.length 0 A.length 1) (sy := s) (cs := List.replicate A.length [AV.int .i64 0]) (ys := A.map intRow) Sw (Sq @t1) hF (hs.ext Xx) (by simp) ?_
  intro g v hgl hfr0 _
  obtain ⟨sv, hsv⟩ : ∃ sv, sv = AV.slice h.length 0 A.length 1 := ⟨_, rfl⟩
  rw [← hsv] at hfr0 ⊢
  have hln : ∀ G', lenG .sl G' sv = some A.length := fun G' => by rw [hsv]; rfl
  refine Rs (A3 @t0 @t1 @hln) ?_
  refine WL.inv T.mix (fun n ts K => ∃ (k : Nat) (G : AHeap), k ≤ A.length ∧ n = A.length - k ∧ K = h ++ G ∧ Fr h.length K sv 1 ((undP t A k ++ A.drop k).map intRow) ∧ fitsB (undP t A k) = true ∧ ts.length = 64 ∧ slot ts 0 = s0 ∧ slot ts 6 = sv ∧ slot ts 17 = .int .i64 A.length ∧ slot ts 18 = .int .i64 k) A.length
    ⟨0, g, by omega, rfl, rfl, hfr0, rfl, Sn, (Sq @t0), Sw, Sw, Swr⟩ ?_
  clear hlen t0 t1 hfr0
  rintro _ ts _ ⟨k, G, hk, rfl, rfl, hfr, hft, hlen, t0, t6, t17, t18⟩
  by_cases hlt : k < A.length
  case neg =>
    have e3 := dltF hlt
    have e4 : k = A.length := by omega
    rw [e4, List.drop_length, List.append_nil] at hfr
    refine Rs (A5 @t0 @t6 @t17 @t18 @e3) ?_
    refine WF.res T.c105 (r105 T hfr.isSl (by rw [undP_len]; omega)) ?_
    rintro _ g5 ⟨u, e, rfl, hu⟩
    refine Rs (A2 @t0 @t6) ?_
    exact ⟨u, e, rfl, hu⟩
  have e3 := dltT hlt
  have e5 := wrapN (n := k) (by omega)
  have bx := hb A[k] (List.getElem_mem _)
  have ax := atZ_at hlt
  have hO := fits_all hft
  have hdr : A.drop k = A[k] :: A.drop (k + 1) := by simp
  obtain ⟨x, hx⟩ : ∃ x, x = A[k] := ⟨_, rfl⟩
  rw [← hx] at bx ax hdr
  have eK : Ext h (h ++ G) := ⟨G, rfl⟩
  repeat (first | simp (config := { maxSteps := 1000000 }) only [wset, hset, dset, bset, Nat.reduceAdd, Nat.reduceMul, Nat.reduceLeDiff, Nat.reduceEqDiff, pset, hlen, if_false, if_true, t0, t6, t17, t18, e3, (h0.ext eK).lenm] | simp (config := { maxSteps := 1000000 }) (disch := first | (simp only [List.length_append, List.length_cons, List.length_nil] <;> omega) | rfl | omega | fail) only [kset, wset, hset, dset, bset, Nat.reduceAdd, Nat.reduceMul, Nat.reduceLeDiff, Nat.reduceEqDiff, pset, hlen, if_false, if_true, t0, t6, t17, t18, e3, (h0.ext eK).lenm])
  have hst : undP t A k ++ A.drop k = undP t A k ++ [unS t (undP t A k) x k 0] ++ A.drop (k + 1) := by rw [hdr, List.append_assoc]; rfl
  rw [hst] at hfr
  refine WL.inv T.mix (fun n ts' K' => ∃ (j : Nat) (G' : AHeap), j ≤ t.length ∧ n = t.length - j ∧ K' = h ++ G' ∧ Fr h.length K' sv 1 ((undP t A k ++ [unS t (undP t A k) x k j] ++ A.drop (k + 1)).map intRow) ∧ ts'.length = 64 ∧ slot ts' 0 = s0 ∧ slot ts' 6 = sv ∧ slot ts' 7 = .int .i64 k ∧ slot ts' 17 = .int .i64 A.length ∧ slot ts' 18 = .int .i64 k ∧ slot ts' 21 = s0 ∧ slot ts' 22 = .int .i64 t.length ∧ slot ts' 23 = .int .i64 j) t.length
    ⟨0, G, by omega, rfl, rfl, hfr, Sn, (Sq @t0), (Sq @t6), Sw, (Sq @t17), (Sq @t18), Sw, Sw, Swr⟩ ?_
  clear hlen t0 t6 t17 t18 hfr eK
  rintro _ ts' _ ⟨j, G', hj, rfl, rfl, hfr, hlen, t0, t6, t7, t17, t18, t21, t22, t23⟩
  have eK : Ext h (h ++ G') := ⟨G', rfl⟩
  have hTK := h0.ext eK
  have cb := unS_bd ht.r hO bx k j
  have hCl : (undP t A k ++ [unS t (undP t A k) x k j] ++ A.drop (k + 1)).length = A.length := by simp [undP_len]; omega
  have hkC : k < (undP t A k ++ [unS t (undP t A k) x k j] ++ A.drop (k + 1)).length := by rw [hCl]; exact hlt
  have hgk := get_mid (b := A.drop (k + 1)) (x := unS t (undP t A k) x k j) (undP_len t A k) hkC
  have ixk := hfr.isSl.ixm (kk := .i64) hkC
  have ld : ∀ {kk : AHeap}, Ext (h ++ G') kk → loadF none (elp sv 1 k) (fun b => kk[b]?) = some (.int .i64 (unS t (undP t A k) x k j), .keep) := fun {kk} e => by rw [← hgk]; exact hfr.isSl.l1m hkC rfl e
  by_cases hjt : j < t.length
  case neg =>
    have e6 : decide ((j : Int) < (t.length : Int)) = false := decide_eq_false (by omega)
    have i0 := hTK.ix0 (kk := .i64) ht1
    have lz : ∀ {kk : AHeap}, Ext (h ++ G') kk → loadF none (elp s0 1 0) (fun b => kk[b]?) = some (.int .i64 (atZ t 0), .keep) := fun {kk} e => by rw [show atZ t 0 = t[0] from atZ_at ht1]; exact hTK.l1m ht1 rfl e
    have wv : IntKind.i64.wrap (unS t (undP t A k) x k j * atZ t 0) = undV t A (undP t A k) k := by
      rw [undV, ax, show t.length = j by omega]
      rcases hz with e | e <;> rw [e] <;> exact wrap_in (by omega) (by omega)
    refine Rs (A14 @t0 @t6 @t7 @t17 @t18 @t21 @t22 @t23 @e6 @ixk @ld @i0 @lz @wv) ?_
    refine WR.put1 (h0 := h) (off := 0) (row := intRow) (x' := undV t A (undP t A k) k) hfr hkC (by decide) rfl rfl ?_
    intro g4 hl4 hF4 _
    have hun : undP t A (k + 1) = undP t A k ++ [undV t A (undP t A k) k] := rfl
    rw [set_mid (undP_len t A k), ← hun] at hF4
    have hCl4 : (undP t A (k + 1) ++ A.drop (k + 1)).length = A.length := by simp [undP_len]; omega
    have hk4 : k < (undP t A (k + 1) ++ A.drop (k + 1)).length := by rw [hCl4]; exact hlt
    have hg4 : (undP t A (k + 1) ++ A.drop (k + 1))[k] = undV t A (undP t A k) k := by
      rw [List.getElem_append_left (by rw [undP_len]; omega)]
      simp only [undP]
      rw [List.getElem_append_right (by rw [undP_len]; omega)]
      simp [undP_len]
    have ix4 := hF4.isSl.ixm (kk := .i64) hk4
    have ld4 : ∀ {kk : AHeap}, Ext (h ++ g4) kk → loadF none (elp sv 1 k) (fun b => kk[b]?) = some (.int .i64 (undV t A (undP t A k) k), .keep) := fun {kk} e => by rw [← hg4]; exact hF4.isSl.l1m hk4 rfl e
    refine Rs (A7 @t0 @t6 @t7 @t17 @t18 @ix4 @ld4) ?_
    refine WF.ce T.c146 (r146 T _) fun g5 => ?_
    cases hfx : fitB (undV t A (undP t A k) k) with
    | false =>
      refine Rs (A6 @t0 @t6 @t7 @t17 @t18 @Bool.not_false) ?_
      exact ⟨.nilSlice, 4, rfl, by unfold ToldS; rw [if_neg (by rw [undP_no (by omega) hfx]; simp)]; exact ⟨rfl, rfl⟩⟩
    | true =>
      have hF5 := hF4.app g5
      rw [List.append_assoc] at hF5 ⊢
      refine Rs (A7 @t0 @t6 @t7 @t17 @t18 @Bool.not_true @e5) ?_
      exact ⟨A.length - (k + 1), by omega, k + 1, g4 ++ g5, by omega, rfl, rfl, hF5, by rw [undP, fits_app, hft]; simp [fitsB, hfx], rfl⟩
  have e6 : decide ((j : Int) < (t.length : Int)) = true := decide_eq_true (by omega)
  have ij := hTK.ixm (kk := .i64) hjt
  have aj := atZ_at hjt
  have bj := ht.r t[j] (List.getElem_mem _)
  obtain ⟨y, hy⟩ : ∃ y, y = t[j] := ⟨_, rfl⟩
  have lj : ∀ {kk : AHeap}, Ext (h ++ G') kk → loadF none (elp s0 1 j) (fun b => kk[b]?) = some (.int .i64 y, .keep) := fun {kk} e => by rw [hy]; exact hTK.l1m hjt rfl e
  rw [← hy] at aj bj
  have w5 := wrapN (n := j) (by omega)
  by_cases hj0 : j = 0
  · have d0 : decide ((0 : Int) < (j : Int)) = false := decide_eq_false (by omega)
    have hs1 : unS t (undP t A k) x k (j + 1) = unS t (undP t A k) x k j := by rw [unS, if_pos hj0, hj0]; rfl
    rw [← hs1] at hfr
    refine Rs (A13 @t0 @t6 @t7 @t17 @t18 @t21 @t22 @t23 @e6 @ij @lj @d0 @w5) ?_
    exact ⟨t.length - (j + 1), by omega, j + 1, G', by omega, rfl, rfl, hfr, rfl⟩
  have d0 : decide ((0 : Int) < (j : Int)) = true := decide_eq_true (by omega)
  have w2 : IntKind.i64.wrap ((k : Int) - (j : Int)) = (k : Int) - (j : Int) := wrap_in (by omega) (by omega)
  refine Rs (A15 @t0 @t6 @t7 @t17 @t18 @t21 @t22 @t23 @e6 @ij @lj @d0 @ixk @ld @w2) ?_
  refine WF.ce T.c157 (r157 T hfr.isSl (by rw [hCl]; omega) _) fun g3 => ?_
  rw [List.append_assoc (undP t A k), atZ_app (by rw [undP_len]; omega)]
  have pb := tap_prod bj (atZ_bd hO ((k : Int) - (j : Int)))
  have w3 : IntKind.i64.wrap (y * atZ (undP t A k) ((k : Int) - (j : Int))) = y * atZ (undP t A k) ((k : Int) - (j : Int)) := wrap_in (by omega) (by omega)
  have w4 : IntKind.i64.wrap (unS t (undP t A k) x k j - y * atZ (undP t A k) ((k : Int) - (j : Int))) = unS t (undP t A k) x k (j + 1) := by
    rw [unS, if_neg hj0, aj, wrap_in (by omega) (by omega)]
  have hfr2 := hfr.app g3
  have ixk2 := hfr2.isSl.ixm (kk := .i64) hkC
  rw [List.append_assoc h] at hfr2 ⊢
  refine Rs (A11 @t0 @t6 @t7 @t17 @t18 @t21 @t22 @t23 @w3 @w4 @ixk2) ?_
  refine WR.put1 (h0 := h) (off := 0) (row := intRow) (x' := unS t (undP t A k) x k (j + 1)) hfr2 hkC (by decide) rfl rfl ?_
  intro g4 hl4 hF4 _
  rw [set_mid (undP_len t A k)] at hF4
  refine Rs (A9 @t0 @t6 @t7 @t17 @t18 @t21 @t22 @t23 @w5) ?_
  exact ⟨t.length - (j + 1), by omega, j + 1, g4, by omega, rfl, rfl, hF4, rfl⟩
end
end Go.Abs
namespace Go.Abs

def UndoH (h : AHeap) (bad : Int) (t A : List Int) (u : AV) (e : Int) : Prop := if bad ≠ 0 then u = .nilSlice ∧ e = bad else if atZ t 0 = 1 ∨ atZ t 0 = -1 then ToldS h (undP t A A.length) u e else u = .nilSlice ∧ e = 21
set_option maxRecDepth 10000
attribute [local irreducible] WP WC WE WB WR WF WL WG WRg WQ
section
variable {P : Program} (T : Tbl P) {h : AHeap}
include T
set_option maxHeartbeats 4000000 in
theorem r23 {s0 s : AV} {t : List Int} {l : List Nat} (h0 : IsSl h s0 1 (t.map intRow)) (hs : IsSl h s 1 (l.map fltR)) (htl : t.length < 2 ^ 40) (hl : l.length < 2 ^ 40) : RCall P 23 [s0, s] h (fun v h' => ∃ (u : AV) (e : Int), v = .tup [u, .int .i64 e] ∧ UndoH h' (chkB t l) t (l.map gridN) u e) := by
  refine .st2 29 T.mix T.c23 ?_;intro ts hlen t0 t1;unfold fn23
  refine Rs (A2 @t0 @t1) ?_;(first | (exact True.intro;trace "CLOSED 0") | skip)
  refine WF.ce T.c104 (r104 T h0 hs htl hl) fun g1 => ?_
  by_cases hz : chkB t l = 0
  case neg =>
    have d1 : decide (chkB t l ≠ 0) = true := decide_eq_true hz
    refine Rs (A3 @t0 @t1 @d1) ?_;(first | (exact True.intro;trace "CLOSED 1") | skip)
    exact ⟨.nilSlice, _, rfl, by unfold UndoH; rw [if_pos hz]; exact ⟨rfl, rfl⟩⟩
  have d1 : decide (chkB t l ≠ 0) = false := decide_eq_false fun z => z hz
  obtain ⟨q1, q2⟩ := first2 hz
  obtain ⟨hl2, hg⟩ := chkL_z q2
  have ht := chkTp_z q1
  have ht1 : 0 < t.length := by have := ht.l1; omega
  have hU : ∀ {k : AHeap} {u : AV} {e : Int}, (if atZ t 0 = 1 ∨ atZ t 0 = -1 then ToldS k (undP t (l.map gridN) (l.map gridN).length) u e else u = .nilSlice ∧ e = 21) → UndoH k (chkB t l) t (l.map gridN) u e := fun x => by unfold UndoH; rw [if_neg (fun z => z hz)]; exact x
  have hTK := h0.ext (⟨g1, rfl⟩ : Ext h (h ++ g1))
  have i0 := hTK.ix0 (kk := .i64) ht1
  have a0 : atZ t 0 = t[0] := atZ_at ht1
  obtain ⟨y0, hy0⟩ : ∃ y, y = t[0] := ⟨_, rfl⟩
  have l0 : ∀ {kk : AHeap}, Ext (h ++ g1) kk → loadF none (elp s0 1 0) (fun b => kk[b]?) = some (.int .i64 y0, .keep) := fun {kk} e => by rw [hy0]; exact hTK.l1m ht1 rfl e
  rw [← hy0] at a0
  have hAl : (l.map gridN).length = l.length := by simp
  have hsK := hs.ext (⟨g1, rfl⟩ : Ext h (h ++ g1))
  by_cases hy : y0 = 1 ∨ y0 = -1
  case neg =>
    have d2 : decide (y0 ≠ 1) = true := decide_eq_true (by omega)
    have d3 : decide (y0 ≠ -1) = true := decide_eq_true (by omega)
    refine Rs (A7 @t0 @t1 @d1 @i0 @l0 @d2 @d3) ?_;(first | (exact True.intro;trace "CLOSED 2") | skip)
    exact ⟨.nilSlice, 21, rfl, hU (by rw [a0, if_neg hy]; exact ⟨rfl, rfl⟩)⟩
  have hzz : atZ t 0 = 1 ∨ atZ t 0 = -1 := by rw [a0]; exact hy
  by_cases h1 : y0 = 1
  · have d2 : decide (y0 ≠ 1) = false := decide_eq_false fun z => z h1
    refine Rs (A6 @t0 @t1 @d1 @i0 @l0 @d2) ?_;(first | (exact True.intro;trace "CLOSED 3") | skip)
    refine WF.res T.c107 (r107 T hsK hl T.c108 (g := gridN) (fun x hx k => r108 T (hg x hx))) ?_
    intro s7 g2 is7
    refine Rs (A2 @t0 @t1) ?_;(first | (exact True.intro;trace "CLOSED 4") | skip)
    refine WF.res T.c109 (r109 T (hTK.ext Xx) is7 ht (by omega) (grid_all hg) hzz) ?_
    rintro _ g3 ⟨u, e, rfl, hu⟩
    refine Rs (A2 @t0 @t1) ?_;(first | (exact True.intro;trace "CLOSED 5") | skip)
    exact ⟨u, e, rfl, hU (by rw [if_pos hzz]; exact hu)⟩
  · have d2 : decide (y0 ≠ 1) = true := decide_eq_true h1
    have d3 : decide (y0 ≠ -1) = false := decide_eq_false (by omega)
    refine Rs (A7 @t0 @t1 @d1 @i0 @l0 @d2 @d3) ?_;(first | (exact True.intro;trace "CLOSED 6") | skip)
    refine WF.res T.c107 (r107 T hsK hl T.c108 (g := gridN) (fun x hx k => r108 T (hg x hx))) ?_
    intro s7 g2 is7
    refine Rs (A2 @t0 @t1) ?_;(first | (exact True.intro;trace "CLOSED 7") | skip)
    refine WF.res T.c109 (r109 T (hTK.ext Xx) is7 ht (by omega) (grid_all hg) hzz) ?_
    rintro _ g3 ⟨u, e, rfl, hu⟩
    refine Rs (A2 @t0 @t1) ?_;(first | (exact True.intro;trace "CLOSED 8") | skip)
    exact ⟨u, e, rfl, hU (by rw [if_pos hzz]; exact hu)⟩
end
end Go.Abs
namespace Go.Abs

def tmI (a b : Int × Int) : Int × Int := (a.1 * b.1 - a.2 * b.2, a.1 * b.2 + a.2 * b.1)
def plI (a b : Int × Int) : Int × Int := (a.1 + b.1, a.2 + b.2)
def bdI (M : Int) (a : Int × Int) : Prop := (-M ≤ a.1 ∧ a.1 ≤ M) ∧ -M ≤ a.2 ∧ a.2 ≤ M
theorem mul_bd {x y X Y : Int} (h1 : -X ≤ x ∧ x ≤ X) (h2 : -Y ≤ y ∧ y ≤ Y) : -(X * Y) ≤ x * y ∧ x * y ≤ X * Y := by
  have e : (x * y).natAbs ≤ (X * Y).natAbs := by
    rw [Int.natAbs_mul, Int.natAbs_mul]
    exact Nat.mul_le_mul (by omega) (by omega)
  have p := Int.mul_nonneg (show 0 ≤ X by omega) (show 0 ≤ Y by omega)
  omega
set_option maxRecDepth 10000
attribute [local irreducible] WP WC WE WB WR WF WL WG WRg WQ
section
variable {P : Program} (T : Tbl P) {h : AHeap}
include T
set_option maxHeartbeats 2000000 in
theorem r110 {a b : Int × Int} (ha : bdI (2 ^ 40) a) (hb : bdI (2 ^ 40) b) : RCall P 110 [.agg (ratR a), .agg (ratR b)] h (fun v _ => v = .agg (ratR (plI a b))) := by
  obtain ⟨⟨a1, a2⟩, a3, a4⟩ := ha
  obtain ⟨⟨b1, b2⟩, b3, b4⟩ := hb
  unfold ratR plI
  refine .st2 16 T.mix T.c110 ?_;intro ts hlen t0 t1;unfold fn110
  have bx : ∀ {N : Nat} {z : Int × Int}, boxF (.agg [.int .i64 z.1, .int .i64 z.2]) N = some (.ptr N 0, .push (.cells [.int .i64 z.1, .int .i64 z.2] true false)) := fun {N z} => rfl
  have w1 : IntKind.i64.wrap (a.1 + b.1) = a.1 + b.1 := wrap_in (by omega) (by omega)
  have w2 : IntKind.i64.wrap (a.2 + b.2) = a.2 + b.2 := wrap_in (by omega) (by omega)
  have st := @rat_st (a.1 + b.1) (a.2 + b.2)
  exact Rs (A6 @t0 @t1 @bx @w1 @w2 @st) trivial
set_option maxHeartbeats 2000000 in
theorem r183 {a b : Int × Int} (ha : bdI (2 ^ 40) a) (hb : bdI 1 b) : RCall P 183 [.agg (ratR a), .agg (ratR b)] h (fun v _ => v = .agg (ratR (tmI a b))) := by
  obtain ⟨a1, a2⟩ := ha
  obtain ⟨b1, b2⟩ := hb
  have p1 := mul_bd a1 b1
  have p2 := mul_bd a2 b2
  have p3 := mul_bd a1 b2
  have p4 := mul_bd a2 b1
  unfold ratR tmI
  refine .st2 28 T.mix T.c183 ?_;intro ts hlen t0 t1;unfold fn183
  have bx : ∀ {N : Nat} {z : Int × Int}, boxF (.agg [.int .i64 z.1, .int .i64 z.2]) N = some (.ptr N 0, .push (.cells [.int .i64 z.1, .int .i64 z.2] true false)) := fun {N z} => rfl
  have w1 : IntKind.i64.wrap (a.1 * b.1) = a.1 * b.1 := wrap_in (by omega) (by omega)
  have w2 : IntKind.i64.wrap (a.2 * b.2) = a.2 * b.2 := wrap_in (by omega) (by omega)
  have w3 : IntKind.i64.wrap (a.1 * b.2) = a.1 * b.2 := wrap_in (by omega) (by omega)
  have w4 : IntKind.i64.wrap (a.2 * b.1) = a.2 * b.1 := wrap_in (by omega) (by omega)
  have w5 : IntKind.i64.wrap (a.1 * b.1 - a.2 * b.2) = a.1 * b.1 - a.2 * b.2 := wrap_in (by omega) (by omega)
  have w6 : IntKind.i64.wrap (a.1 * b.2 + a.2 * b.1) = a.1 * b.2 + a.2 * b.1 := wrap_in (by omega) (by omega)
  have st := @rat_st (a.1 * b.1 - a.2 * b.2) (a.1 * b.2 + a.2 * b.1)
  exact Rs (A10 @t0 @t1 @bx @w1 @w2 @w3 @w4 @w5 @w6 @st) trivial
end
end Go.Abs
namespace Go.Abs

theorem ext_setG {h K : AHeap} {b : Nat} {X : ABlk} (e : Ext h K) (hb : h.length ≤ b) : Ext h (K.set b X) := by
  obtain ⟨z, rfl⟩ := e
  rw [List.set_append_right _ _ hb]; exact ⟨_, rfl⟩
def powN : Nat → Int × Int
  | 0 => (1, 0)
  | k + 1 => tmI (powN k) (0, 1)
theorem powN_bd : ∀ k, bdI 1 (powN k)
  | 0 => by unfold bdI powN; decide
  | k + 1 => by
    obtain ⟨⟨h1, h2⟩, h3, h4⟩ := powN_bd k
    unfold bdI powN tmI
    simp only [Int.mul_zero, Int.mul_one]
    omega
theorem powN_4 : ∀ k, powN (k + 4) = powN k
  | 0 => by decide
  | k + 1 => by
    show tmI (powN (k + 4)) (0, 1) = tmI (powN k) (0, 1)
    rw [powN_4 k]
theorem powN_mod (n : Nat) : powN (n % 4) = powN n := by
  have key : ∀ q r, powN (4 * q + r) = powN r := fun q r => by
    induction q with
    | zero => simp
    | succ q ih => rw [show 4 * (q + 1) + r = (4 * q + r) + 4 by omega, powN_4, ih]
  conv => rhs; rw [show n = 4 * (n / 4) + n % 4 by omega]
  rw [key]
set_option maxRecDepth 10000
attribute [local irreducible] WP WC WE WB WR WF WL WG WRg WQ
section
variable {P : Program} (T : Tbl P) {h : AHeap}
include T
end
end Go.Abs
namespace Go.Abs

def powCells : List AV := [.int .i64 1, .int .i64 0, .int .i64 0, .int .i64 1, .int .i64 (-1), .int .i64 0, .int .i64 0, .int .i64 (-1)]
/-- The program's table of powers, in its variable. -/
def Pwr (h : AHeap) : Prop := h[0]? = some (.cells powCells false false)
theorem Pwr.ext {h k : AHeap} (p : Pwr h) (e : Ext h k) : Pwr k := e.some p
theorem pow_ld {h : AHeap} (p : Pwr h) {n : Nat} (hn : n < 4) {k : AHeap} (e : Ext h k) : loadF (some 2) (.ptr 0 (n * 2)) (fun b => k[b]?) = some (.agg (ratR (powN n)), .keep) := by
  rw [loadF_at (e.some p)]
  rcases (show n = 0 ∨ n = 1 ∨ n = 2 ∨ n = 3 by omega) with rfl | rfl | rfl | rfl <;> rfl
set_option maxRecDepth 10000
attribute [local irreducible] WP WC WE WB WR WF WL WG WRg WQ
section
variable {P : Program} (T : Tbl P) {h : AHeap}
include T
set_option maxHeartbeats 2000000 in
theorem r111 (p : Pwr h) {a : Int × Int} (ha : bdI (2 ^ 40) a) {n : Nat} (hn : n < 2 ^ 40) : RCall P 111 [.agg (ratR a), .int .i64 (n : Int)] h (fun v _ => v = .agg (ratR (tmI a (powN n)))) := by
  refine .st2 11 T.mix T.c111 ?_;intro ts hlen t0 t1;unfold fn111
  have r1 : binK .rem (.int .i64 (n : Int)) (.int .i64 4) = some (.int .i64 ((n % 4 : Nat) : Int)) := by rw [bin_rem (by decide), Int.tmod_eq_emod_of_nonneg (by omega)]; rfl
  have ld := fun {k : AHeap} (e : Ext h k) => @pow_ld h p (n % 4) (by omega) k e
  rw [powN_mod] at ld
  have ia : iadaF 4 2 (.ptr 0 0) (.int .i64 ((n % 4 : Nat) : Int)) = some (.ptr 0 (n % 4 * 2)) := by
    unfold iadaF
    have h1 : n % 4 < 4 := Nat.mod_lt _ (by decide)
    simp
    omega
  refine Rs (A7 @t0 @t1 @td_box @td_a @r1 @ia @ld) ?_
  refine WF.ce T.c183 (r183 T ha (powN_bd n)) fun g1 => ?_
  obtain ⟨B, hB⟩ : ∃ B, B = h ++ [ABlk.cells (ratR a) true false] := ⟨_, rfl⟩
  rw [← hB]
  have eY : Ext (B ++ [ABlk.cells [AV.int IntKind.i64 0, AV.int IntKind.i64 0] true false]) (B ++ [ABlk.cells [AV.int IntKind.i64 0, AV.int IntKind.i64 0] true false] ++ g1) := ⟨g1, rfl⟩
  obtain ⟨Y, hY⟩ : ∃ Y, Y = B ++ [ABlk.cells [AV.int IntKind.i64 0, AV.int IntKind.i64 0] true false] ++ g1 := ⟨_, rfl⟩
  rw [← hY] at eY ⊢
  have m4 : Y[B.length]? = some (.cells [.int .i64 0, .int .i64 0] true false) := eY.some at_new
  have s4 := @box_s Y B.length _ _ m4 (tmI a (powN n)).1 (tmI a (powN n)).2
  have l4 := @box_l Y B.length _ m4 (tmI a (powN n)).1 (tmI a (powN n)).2
  have eB : Ext h B := by rw [hB]; exact ⟨_, rfl⟩
  unfold ratR
  refine Rs (A2 @s4 @l4) ?_
  exact ⟨eB.trans (ext_set eY), trivial⟩
end
end Go.Abs
namespace Go.Abs

/-- The sum of the first taps, each turned. -/
def rsS (t : List Int) (f : Nat) : Nat → Int × Int
  | 0 => (0, 0)
  | k + 1 => plI (rsS t f k) (tmI (atZ t k, 0) (powN (3 * k * f)))
theorem rsS_bd {t : List Int} (ht : ∀ x ∈ t, -16 ≤ x ∧ x ≤ 16) (f : Nat) : ∀ k : Nat, bdI (k * 16) (rsS t f k)
  | 0 => by unfold bdI rsS; simp
  | k + 1 => by
    obtain ⟨⟨h1, h2⟩, h3, h4⟩ := rsS_bd ht f k
    obtain ⟨⟨p1, p2⟩, p3, p4⟩ := powN_bd (3 * k * f)
    have tb := tap_bd ht k
    have q1 := mul_bd (Y := 1) tb ⟨p1, p2⟩
    have q2 := mul_bd (Y := 1) tb ⟨p3, p4⟩
    have e : ((k + 1 : Nat) : Int) * 16 = k * 16 + 16 := by omega
    unfold bdI rsS plI tmI
    simp only [Int.zero_mul, Int.sub_zero, Int.add_zero]
    rw [e]
    omega
set_option maxRecDepth 10000
attribute [local irreducible] WP WC WE WB WR WF WL WG WRg WQ
section
variable {P : Program} (T : Tbl P) {h : AHeap}
include T
end
end Go.Abs
namespace Go.Abs

theorem atZ_bd' {l : List Int} {M : Int} (hM : 0 ≤ M) (hb : ∀ x ∈ l, -M ≤ x ∧ x ≤ M) (j : Int) : -M ≤ atZ l j ∧ atZ l j ≤ M := by
  unfold atZ
  by_cases h : 0 ≤ j
  · rw [if_pos h, List.getD_eq_getElem?_getD]
    cases hx : l[j.toNat]? with
    | none => simp; omega
    | some y => exact hb y (List.mem_of_getElem? hx)
  · rw [if_neg h]; omega
set_option maxRecDepth 10000
attribute [local irreducible] WP WC WE WB WR WF WL WG WRg WQ
section
variable {P : Program} (T : Tbl P) {h : AHeap}
include T
end
end Go.Abs
namespace Go.Abs

theorem sumN_first (f : Nat → Int) : ∀ n : Nat, sumN f (n + 1) = f 0 + sumN (fun q => f (q + 1)) n
  | 0 => by simp [sumN]
  | n + 1 => by rw [sumN, sumN_first f n, sumN]; omega
def tailS (t O : List Int) (i : Int) : Int := sumN (fun q : Nat => atZ t ((q + 1 : Nat) : Int) * atZ O (i - ((q + 1 : Nat) : Int))) (t.length - 1)
theorem unS_sum (t O : List Int) (a i : Int) : ∀ j : Nat, unS t O a i (j + 1) = a - sumN (fun q : Nat => atZ t ((q + 1 : Nat) : Int) * atZ O (i - ((q + 1 : Nat) : Int))) j
  | 0 => by simp [unS, sumN]
  | j + 1 => by rw [unS, if_neg (by omega), unS_sum t O a i j, sumN]; omega
theorem undV_tail {t : List Int} (ht : 1 ≤ t.length) (A O : List Int) (i : Int) : undV t A O i = (atZ A i - tailS t O i) * atZ t 0 := by
  obtain ⟨n, hn⟩ : ∃ n, t.length = n + 1 := ⟨t.length - 1, by omega⟩
  rw [undV, tailS, hn, unS_sum]; rfl
theorem tailS_congr {t O O' : List Int} {i : Int} (h : ∀ j : Int, j < i → atZ O j = atZ O' j) : tailS t O i = tailS t O' i :=
  sumN_congr fun q _ => by rw [h _ (by omega)]
theorem ap_tail {t O : List Int} (ht : 1 ≤ t.length) {i : Int} (h : i < O.length) : atZ (apL t O (-1)) i = atZ t 0 * atZ O i + tailS t O i := by
  obtain ⟨n, hn⟩ : ∃ n, t.length = n + 1 := ⟨t.length - 1, by omega⟩
  rw [apL_at t O h, tailS, hn, sumN_first]
  simp
theorem undP_pre {t A : List Int} {k : Nat} {j : Int} (hj : j < k) : ∀ {n : Nat}, k ≤ n → atZ (undP t A n) j = atZ (undP t A k) j
  | 0, h => by rw [show k = 0 by omega]
  | n + 1, h => by
    by_cases e : k = n + 1
    · rw [e]
    · rw [undP, atZ_app (by rw [undP_len]; omega), undP_pre hj (show k ≤ n by omega)]
theorem undP_at {t A : List Int} {k n : Nat} (h : k < n) : atZ (undP t A n) k = undV t A (undP t A k) k := by
  rw [undP_pre (k := k + 1) (by omega) (show k + 1 ≤ n by omega), atZ_at (by rw [undP_len]; omega)]
  simp only [undP]
  rw [List.getElem_append_right (by rw [undP_len]; omega)]
  simp [undP_len]
theorem one_sq {z : Int} (hz : z = 1 ∨ z = -1) (x : Int) : z * (x * z) = x ∧ (z * x) * z = x := by
  rcases hz with rfl | rfl <;> omega
/-- WHAT WAS UNDONE, APPLIED AGAIN. -/
theorem ap_und {t A : List Int} (ht : 1 ≤ t.length) (hz : atZ t 0 = 1 ∨ atZ t 0 = -1) : apL t (undP t A A.length) (-1) = A := by
  refine list_atZ (by rw [apL_len, undP_len]) fun k hk => ?_
  rw [apL_len, undP_len] at hk
  rw [ap_tail ht (by rw [undP_len]; omega), undP_at hk, undV_tail ht, (one_sq hz _).1, tailS_congr (O' := undP t A A.length) (fun j hj => (undP_pre hj (by omega)).symm)]
  omega
/-- WHAT WAS APPLIED, UNDONE. -/
theorem und_ap {t A : List Int} (ht : 1 ≤ t.length) (hz : atZ t 0 = 1 ∨ atZ t 0 = -1) : undP t (apL t A (-1)) A.length = A := by
  have key : ∀ n : Nat, n ≤ A.length → ∀ k : Nat, k < n → atZ (undP t (apL t A (-1)) n) k = atZ A k := fun n => by
    induction n with
    | zero => intro _ k hk; omega
    | succ n ih =>
      intro hn k hk
      have ih := ih (by omega)
      by_cases h : k < n
      · rw [undP_pre (k := n) (by omega) (by omega)]; exact ih k h
      · have e : k = n := by omega
        rw [e, undP_at (by omega), undV_tail ht, ap_tail ht (by omega), show tailS t (undP t (apL t A (-1)) n) n = tailS t A n from tailS_congr (fun j hj => ?_), show atZ t 0 * atZ A n + tailS t A n - tailS t A n = atZ t 0 * atZ A n by omega]
        · exact (one_sq hz _).2
        · by_cases h0 : j < 0
          · rw [atZ_neg h0, atZ_neg h0]
          · obtain ⟨q, rfl⟩ : ∃ q : Nat, j = q := ⟨j.toNat, by omega⟩
            exact ih q (by omega)
  exact list_atZ (undP_len _ _ _) fun k hk => key A.length (Nat.le_refl _) k (by rwa [undP_len] at hk)
theorem degP_pre {l : List Int} {d : Int} {k : Nat} {j : Int} (hj : j < k) : ∀ {n : Nat}, k ≤ n → atZ (degP l d n) j = atZ (degP l d k) j
  | 0, h => by rw [show k = 0 by omega]
  | n + 1, h => by
    by_cases e : k = n + 1
    · rw [e]
    · rw [degP, atZ_app (by rw [degP_len]; omega), degP_pre hj (show k ≤ n by omega)]
theorem degP_at {l : List Int} {d : Int} (hd : 1 ≤ d) {k n : Nat} (h : k < n) : atZ (degP l d n) k = atZ l k + atZ (degP l d n) (k - d) := by
  rw [degP_pre (k := k + 1) (by omega) (show k + 1 ≤ n by omega), atZ_at (by rw [degP_len]; omega), degP_pre (n := n) (k := k) (j := k - d) (by omega) (by omega)]
  simp only [degP]
  rw [List.getElem_append_right (by rw [degP_len]; omega)]
  simp [degP_len]
theorem ghostL_len (l : List Int) (d : Int) : (ghostL l d).length = l.length := genL_len _ _
theorem ghostL_at {l : List Int} {d : Int} {k : Nat} (h : k < l.length) : atZ (ghostL l d) k = atZ l k - atZ l (k - d) := atZ_gen h
/-- THE GHOST OF WHAT WAS DEGHOSTED. -/
theorem ghost_deg {l : List Int} {d : Int} (hd : 1 ≤ d) : ghostL (degP l d l.length) d = l := by
  refine list_atZ (by rw [ghostL_len, degP_len]) fun k hk => ?_
  rw [ghostL_len, degP_len] at hk
  rw [ghostL_at (by rw [degP_len]; exact hk), degP_at hd hk]; omega
/-- A GHOST, DEGHOSTED. -/
theorem deg_ghost {l : List Int} {d : Int} (hd : 1 ≤ d) : degP (ghostL l d) d l.length = l := by
  have key : ∀ k : Nat, k < l.length → ∀ q : Nat, q ≤ k → atZ (degP (ghostL l d) d l.length) q = atZ l q := fun k => by
    induction k with
    | zero =>
      intro hk q hq
      rw [show q = 0 by omega, degP_at hd hk, ghostL_at hk, atZ_neg (l := l) (j := ((0 : Nat) : Int) - d) (by omega), atZ_neg (j := ((0 : Nat) : Int) - d) (by omega)]; omega
    | succ k ih =>
      intro hk q hq
      by_cases h : q ≤ k
      · exact ih (by omega) q h
      · have e : q = k + 1 := by omega
        rw [e, degP_at hd hk, ghostL_at hk]
        by_cases h0 : ((k + 1 : Nat) : Int) - d < 0
        · rw [atZ_neg h0, atZ_neg h0]; omega
        · obtain ⟨p, hp⟩ : ∃ p : Nat, (p : Int) = ((k + 1 : Nat) : Int) - d := ⟨(((k + 1 : Nat) : Int) - d).toNat, by omega⟩
          rw [← hp, ih (by omega) p (by omega)]; omega
  exact list_atZ (degP_len _ _ _) fun k hk => key k (by rwa [degP_len] at hk) k (Nat.le_refl _)
/-- How great a deghosted list's numbers are. -/
theorem degP_bd {l : List Int} {d B : Int} (hB : 0 ≤ B) (hd : 1 ≤ d) (hb : ∀ j : Int, -B ≤ atZ l j ∧ atZ l j ≤ B) : ∀ n : Nat, ∀ k : Nat, k < n → -((k + 1 : Nat) * B) ≤ atZ (degP l d n) k ∧ atZ (degP l d n) k ≤ (k + 1 : Nat) * B := fun n k => by
  induction k using Nat.strongRecOn with
  | _ k ih =>
    intro hk
    rw [degP_at hd hk]
    have b := hb k
    have e : ((k + 1 : Nat) : Int) * B = k * B + B := by rw [Int.natCast_add, Int.add_mul]; omega
    have p := Int.mul_nonneg (show (0 : Int) ≤ k by omega) hB
    by_cases h0 : (k : Int) - d < 0
    · rw [atZ_neg h0, e]; omega
    · obtain ⟨q, hq⟩ : ∃ q : Nat, (q : Int) = (k : Int) - d := ⟨((k : Int) - d).toNat, by omega⟩
      have i := ih q (by omega) (by omega)
      have m := Int.mul_le_mul_of_nonneg_right (show ((q + 1 : Nat) : Int) ≤ k by omega) hB
      rw [← hq, e]; omega
end Go.Abs
namespace Go.Abs

theorem firstS_nil0 : ∀ {l : List Int}, (∀ x ∈ l, x = 0) → firstS l = 0
  | [], _ => rfl
  | a :: l, h => by
    rw [firstS, if_pos (h a (List.mem_cons_self ..))]
    exact firstS_nil0 fun x hx => h x (List.mem_cons_of_mem _ hx)
theorem chkL_ok {l : List Nat} (h1 : l.length ≤ 1024) (h2 : ∀ b ∈ l, gridE b = 0) : chkL l = 0 := by
  unfold chkL
  have e : firstS (l.map gridE) = 0 := firstS_nil0 fun x hx => by
    obtain ⟨b, hb, rfl⟩ := List.mem_map.1 hx
    exact h2 b hb
  first
    | rw [if_neg (by omega)]; exact e
    | (split <;> first | exact e | omega)
theorem chkB_ok {t : List Int} {l : List Nat} (ht : chkTp t = 0) (hl : chkL l = 0) : chkB t l = 0 := by
  unfold chkB
  rw [ht, hl]; rfl
theorem chkD_ok {l : List Nat} {d : Int} (hl : chkL l = 0) (hd : 1 ≤ d ∧ d ≤ 64) : chkD l d = 0 := by
  unfold chkD
  rw [hl, rangeS_z.2 hd]; rfl
theorem fits_of {l : List Int} (h : ∀ x ∈ l, -16384 ≤ x ∧ x ≤ 16384) : fitsB l = true := by
  unfold fitsB
  rw [List.all_eq_true]
  intro x hx
  have := h x hx
  unfold fitB
  first
    | (rw [Bool.and_eq_true]; exact ⟨decide_eq_true this.1, decide_eq_true this.2⟩)
    | simp [this.1, this.2]
    | (simp; omega)
theorem told_ok {K : AHeap} {want : List Int} {u : AV} {e : Int} (h : ToldS K want u e) (hf : fitsB want = true) : IsSl K u 1 ((want.map smpl).map fltR) ∧ e = 0 := by
  unfold ToldS at h
  rwa [if_pos hf] at h
theorem heard_ok {K : AHeap} {bad : Int} {want : List Int} {u : AV} {e : Int} (h : HeardS K bad want u e) (hz : bad = 0) (hf : fitsB want = true) : IsSl K u 1 ((want.map smpl).map fltR) ∧ e = 0 := by
  unfold HeardS at h
  rw [if_neg (fun z => z hz)] at h
  exact told_ok h hf
noncomputable def quietB (l : List Nat) (lim : Int) : Bool := decide (l.length ≤ 24) && (decide (firstS (l.map gridE) = 0) && l.all fun b => decide (-lim ≤ gridN b) && decide (gridN b ≤ lim))
theorem quietB_t {l : List Nat} {lim : Int} (h : quietB l lim = true) : l.length ≤ 24 ∧ (∀ b ∈ l, gridE b = 0) ∧ ∀ x ∈ l.map gridN, -lim ≤ x ∧ x ≤ lim := by
  unfold quietB at h
  simp only [Bool.and_eq_true, decide_eq_true_eq, List.all_eq_true] at h
  obtain ⟨h1, h2, h3⟩ := h
  refine ⟨h1, fun b hb => firstS_z h2 _ (List.mem_map_of_mem hb), fun x hx => ?_⟩
  obtain ⟨b, hb, rfl⟩ := List.mem_map.1 hx
  exact h3 b hb
theorem atZ_lim {A : List Int} {B : Int} (hB : 0 ≤ B) (h : ∀ x ∈ A, -B ≤ x ∧ x ≤ B) (j : Int) : -B ≤ atZ A j ∧ atZ A j ≤ B := atZ_bd' hB h j
theorem apS_lim {t A : List Int} {B : Int} (hB : 0 ≤ B) (ht : ∀ x ∈ t, -16 ≤ x ∧ x ≤ 16) (hA : ∀ x ∈ A, -B ≤ x ∧ x ≤ B) (i σ : Int) : ∀ j : Nat, -(j * (16 * B)) ≤ apS t A i σ j ∧ apS t A i σ j ≤ j * (16 * B)
  | 0 => by simp [apS]
  | j + 1 => by
    have h1 := apS_lim hB ht hA i σ j
    have h2 := mul_bd' (tap_bd ht j) (atZ_lim hB hA (i + σ * j))
    rw [apS]
    have e : ((j + 1 : Nat) : Int) * (16 * B) = j * (16 * B) + 16 * B := by rw [Int.natCast_add, Int.add_mul]; omega
    omega
where
  mul_bd' {x y : Int} {X Y : Int} (h1 : -X ≤ x ∧ x ≤ X) (h2 : -Y ≤ y ∧ y ≤ Y) : -(X * Y) ≤ x * y ∧ x * y ≤ X * Y := by
    have e : (x * y).natAbs ≤ (X * Y).natAbs := by
      rw [Int.natAbs_mul, Int.natAbs_mul]
      exact Nat.mul_le_mul (by omega) (by omega)
    have p := Int.mul_nonneg (show 0 ≤ X by omega) (show 0 ≤ Y by omega)
    omega
theorem apL_lim {t A : List Int} {B : Int} (hB : 0 ≤ B) (ht : TpOk t) (hA : ∀ x ∈ A, -B ≤ x ∧ x ≤ B) (σ : Int) : ∀ x ∈ apL t A σ, -(128 * B) ≤ x ∧ x ≤ 128 * B := fun x hx => by
  obtain ⟨i, _, rfl⟩ := List.mem_map.1 hx
  have h := apS_lim hB ht.r hA i σ t.length
  have h2 := ht.l2
  have h3 := Int.mul_le_mul_of_nonneg_right (show (t.length : Int) ≤ 8 by omega) (show 0 ≤ 16 * B by omega)
  unfold apF
  omega
theorem ghost_lim {A : List Int} {B : Int} (hB : 0 ≤ B) (hA : ∀ x ∈ A, -B ≤ x ∧ x ≤ B) (d : Int) : ∀ x ∈ ghostL A d, -(2 * B) ≤ x ∧ x ≤ 2 * B := fun x hx => by
  obtain ⟨i, _, rfl⟩ := List.mem_map.1 hx
  have h1 := atZ_lim hB hA i
  have h2 := atZ_lim hB hA (i - d)
  omega
theorem deg_lim {A : List Int} {B d : Int} (hB : 0 ≤ B) (hd : 1 ≤ d) (hl : A.length ≤ 24) (hA : ∀ x ∈ A, -B ≤ x ∧ x ≤ B) : ∀ x ∈ degP A d A.length, -(24 * B) ≤ x ∧ x ≤ 24 * B := fun x hx => by
  obtain ⟨k, hk, rfl⟩ := List.getElem_of_mem hx
  have hk' : k < A.length := by rwa [degP_len] at hk
  have h := degP_bd hB hd (fun j => atZ_lim hB hA j) A.length k hk'
  rw [atZ_at hk] at h
  have h3 := Int.mul_le_mul_of_nonneg_right (show ((k + 1 : Nat) : Int) ≤ 24 by omega) hB
  omega
set_option maxRecDepth 10000
attribute [local irreducible] WP WC WE WB WR WF WL WG WRg WQ
section
variable {P : Program} (T : Tbl P) {h : AHeap}
include T
set_option maxHeartbeats 2000000 in
theorem r57 (X : Xfl P) {s : AV} {l : List Nat} (hs : IsSl h s 1 (l.map fltR)) {lim : Int} (hlim : 0 ≤ lim ∧ lim ≤ 1000) : RCall P 57 [s, .int .i64 lim] h (fun v _ => v = .bool (quietB l lim)) := by
  refine .st2 34 T.mix T.c57 ?_;intro ts hlen t0 t1;unfold fn57
  by_cases h1 : l.length ≤ 24
  case neg =>
    have d1 : decide ((24 : Int) < (l.length : Int)) = true := decide_eq_true (by omega)
    have e : quietB l lim = false := by rw [quietB, decide_eq_false h1, Bool.false_and]
    rw [e]
    exact Rs (A4 @t0 @t1 hs.lenm @d1) trivial
  have d1 : decide ((24 : Int) < (l.length : Int)) = false := decide_eq_false (by omega)
  refine Rs (A4 @t0 @t1 hs.lenm @d1) ?_
  refine WF.ce T.c75 (r75 T X hs (by omega)) fun g1 => ?_
  by_cases h2 : firstS (l.map gridE) = 0
  case neg =>
    have d2 : decide (firstS (l.map gridE) ≠ 0) = true := decide_eq_true h2
    have e : quietB l lim = false := by rw [quietB, decide_eq_false h2, Bool.false_and, Bool.and_false]
    rw [e]
    exact Rs (A3 @t0 @t1 @d2) trivial
  have d2 : decide (firstS (l.map gridE) ≠ 0) = false := decide_eq_false fun z => z h2
  have hg : ∀ b ∈ l, gridE b = 0 := fun b hb => firstS_z h2 _ (List.mem_map_of_mem hb)
  have hq : quietB l lim = l.all fun b => decide (-lim ≤ gridN b) && decide (gridN b ≤ lim) := by rw [quietB, decide_eq_true h1, decide_eq_true h2, Bool.true_and, Bool.true_and]
  rw [hq]
  have nw : IntKind.i64.wrap (0 - lim) = -lim := by rw [wrap_in (by omega) (by omega)]; omega
  obtain ⟨q, hqq⟩ : ∃ q : Nat → Bool, q = fun b => decide (-lim ≤ gridN b) && decide (gridN b ≤ lim) := ⟨_, rfl⟩
  rw [← hqq]
  refine Rs (A4 @t0 @t1 @d2 hs.lenm) ?_
  refine WL.inv T.mix (fun n ts K => ∃ k : Nat, k ≤ l.length ∧ n = l.length - k ∧ Ext h K ∧ l.all q = (l.drop k).all q ∧ ts.length = 34 ∧ slot ts 1 = .int .i64 lim ∧ slot ts 16 = s ∧ slot ts 17 = .int .i64 l.length ∧ slot ts 18 = .int .i64 k) l.length
    ⟨0, by omega, rfl, Xx, rfl, Sn, (Sq @t1), Sw, Sw, Swr⟩ ?_
  clear hlen t0 t1 d1 d2
  rintro _ ts K ⟨k, hk, rfl, eK, hf, hlen, t1, t16, t17, t18⟩
  have hsK := hs.ext eK
  by_cases hlt : k < l.length
  case neg =>
    have e3 := dltF hlt
    have e4 : k = l.length := by omega
    rw [e4, List.drop_length] at hf
    have hf : l.all q = true := hf
    rw [hf]
    refine Rs (A5 @t1 @t16 @t17 @t18 @e3) ?_
    exact ⟨eK, trivial⟩
  have e3 := dltT hlt
  have e5 := wrapN (n := k) (by omega)
  have ix := hsK.ixm (kk := .i64) hlt
  have hd : l.drop k = l[k] :: l.drop (k + 1) := by simp
  rw [hd, List.all_cons] at hf
  have hgx := hg l[k] (List.getElem_mem _)
  obtain ⟨x, hx⟩ : ∃ x, x = l[k] := ⟨_, rfl⟩
  have ld : ∀ {kk : AHeap}, Ext K kk → loadF none (elp s 1 k) (fun b => kk[b]?) = some (.flt .f32 x, .keep) := fun {kk} e => by rw [hx]; exact hsK.l1m hlt rfl e
  rw [← hx] at hf hgx
  refine Rs (A7 @t1 @t16 @t17 @t18 @e3 @ix @ld) ?_
  refine WF.ce T.c64 (r64 T hgx) fun g2 => ?_
  by_cases c1 : lim < gridN x
  · have f1 : decide (lim < gridN x) = true := decide_eq_true c1
    have qx : q x = false := by
      rw [hqq]
      show (decide (-lim ≤ gridN x) && decide (gridN x ≤ lim)) = false
      rw [decide_eq_false (show ¬ gridN x ≤ lim by omega), Bool.and_false]
    rw [qx, Bool.false_and] at hf
    rw [hf]
    refine Rs (A5 @t1 @t16 @t17 @t18 @f1) ?_
    exact ⟨eK.trans Xx, trivial⟩
  have f1 : decide (lim < gridN x) = false := decide_eq_false c1
  by_cases c2 : gridN x < -lim
  · have f2 : decide (gridN x < -lim) = true := decide_eq_true c2
    have qx : q x = false := by
      rw [hqq]
      show (decide (-lim ≤ gridN x) && decide (gridN x ≤ lim)) = false
      rw [decide_eq_false (show ¬ -lim ≤ gridN x by omega), Bool.false_and]
    rw [qx, Bool.false_and] at hf
    rw [hf]
    refine Rs (A7 @t1 @t16 @t17 @t18 @f1 @nw @f2) ?_
    exact ⟨eK.trans Xx, trivial⟩
  have f2 : decide (gridN x < -lim) = false := decide_eq_false c2
  have qx : q x = true := by
    rw [hqq]
    show (decide (-lim ≤ gridN x) && decide (gridN x ≤ lim)) = true
    rw [decide_eq_true (show -lim ≤ gridN x by omega), decide_eq_true (show gridN x ≤ lim by omega)]; rfl
  rw [qx, Bool.true_and] at hf
  refine Rs (A8 @t1 @t16 @t17 @t18 @f1 @nw @f2 @e5) ?_
  exact ⟨l.length - (k + 1), by omega, k + 1, by omega, rfl, eK.trans Xx, hf, rfl⟩
set_option maxHeartbeats 2000000 in
theorem r86 {s : AV} {L : List Int} (hs : IsSl h s 1 (L.map intRow)) (hl : L.length < 2 ^ 40) (x : Int) : RCall P 86 [s, .int .i64 x] h (fun v _ => v = .bool (decide (x ∈ L))) := by
  refine .st2 18 T.mix T.c86 ?_;intro ts hlen t0 t1;unfold fn86
  refine Rs (A2 @t0 @t1) ?_
  refine WL.inv T.mix (fun n ts K => ∃ k : Nat, k ≤ L.length ∧ n = L.length - k ∧ K = h ∧ (x ∈ L ↔ x ∈ L.drop k) ∧ ts.length = 18 ∧ slot ts 0 = s ∧ slot ts 1 = .int .i64 x ∧ slot ts 5 = .int .i64 k) L.length
    ⟨0, by omega, rfl, rfl, by rw [List.drop_zero], Sn, (Sq @t0), (Sq @t1), Swr⟩ ?_
  clear hlen t0 t1
  rintro _ ts K ⟨k, hk, rfl, rfl, hf, hlen, t0, t1, t5⟩
  by_cases hlt : k < L.length
  case neg =>
    have e3 := dltF hlt
    have e4 : k = L.length := by omega
    rw [e4, List.drop_length] at hf
    rw [decide_eq_false (show ¬ x ∈ L from fun z => by have := hf.1 z; cases this)]
    exact Rs (A5 @t0 @t1 @t5 hs.lenm @e3) trivial
  have e3 := dltT hlt
  have e5 := wrapN (n := k) (by omega)
  have ix := hs.ixm (kk := .i64) hlt
  have hd : L.drop k = L[k] :: L.drop (k + 1) := by simp
  rw [hd, List.mem_cons] at hf
  obtain ⟨y, hy⟩ : ∃ y, y = L[k] := ⟨_, rfl⟩
  have ld : ∀ {kk : AHeap}, Ext K kk → loadF none (elp s 1 k) (fun b => kk[b]?) = some (.int .i64 y, .keep) := fun {kk} e => by rw [hy]; exact hs.l1m hlt rfl e
  rw [← hy] at hf
  by_cases hxy : y = x
  · have d6 : decide (y = x) = true := decide_eq_true hxy
    rw [decide_eq_true (hf.2 (.inl hxy.symm))]
    exact Rs (A8 @t0 @t1 @t5 hs.lenm @e3 @ix @ld @d6) trivial
  · have d6 : decide (y = x) = false := decide_eq_false hxy
    have hf : x ∈ L ↔ x ∈ L.drop (k + 1) := hf.trans ⟨fun z => z.resolve_left (fun w => hxy w.symm), .inr⟩
    refine Rs (A9 @t0 @t1 @t5 hs.lenm @e3 @ix @ld @d6 @e5) ?_
    exact ⟨L.length - (k + 1), by omega, k + 1, by omega, rfl, hf, rfl⟩
end
end Go.Abs
namespace Go.Abs

theorem WP_cpx {P : Program} {ro : Option Nat → Prop} {ks : List Kt} {ts : TS} {h : AHeap} {Q : Ex → TS → AHeap → Prop} {d : Option Nat} {l : List IOp} {x y : Opd} {k : FloatKind} {a b : Nat} (hx : val ts x = .flt k a) (hy : val ts y = .flt k b) :
    WP P ro ({ dst := d, k := .cpx x y, gd := none, q := false } :: l) ks ts h Q = WP P ro l ks (put ts d (.cplx k a b)) h Q := by
  rw [WP_op (by simp) (by simp)]
  simp only [stepT, fnT, hx, hy, if_true]
  exact WR_keep
def rsC (t : List Int) (f : Nat) : AV := .cplx .f64 (FloatKind.f64.nearest (rsS t f t.length).1) (FloatKind.f64.nearest (rsS t f t.length).2)
def rsL (t : List Int) (k : Nat) : List AV := (List.range k).map (rsC t) ++ List.replicate (4 - k) (.cplx .f64 0 0)
/-- Four cells stored into their box. -/
theorem st4 {L : List AV} (hl : L.length = 4) (ho : L.all AV.one = true) {b : Nat} {a0 a1 a2 a3 : AV} : stB 4 0 (.agg L) b (.cells [a0, a1, a2, a3] true false) = some (undefA, .set b (.cells L true false)) := by
  obtain ⟨x0, x1, x2, x3, rfl⟩ : ∃ x0 x1 x2 x3, L = [x0, x1, x2, x3] := by
    match L, hl with
    | [x0, x1, x2, x3], _ => exact ⟨x0, x1, x2, x3, rfl⟩
  exact (stB_agg (l := [x0, x1, x2, x3]) rfl ho (by show 0 + 4 ≤ 4; omega)).trans rfl
theorem rsL_len (t : List Int) {k : Nat} (hk : k ≤ 4) : (rsL t k).length = 4 := by simp [rsL]; omega
theorem rsL_one (t : List Int) (k : Nat) : (rsL t k).all AV.one = true := by
  rw [List.all_eq_true]
  intro x hx
  rcases List.mem_append.1 hx with h | h
  · obtain ⟨f, _, rfl⟩ := List.mem_map.1 h; rfl
  · rw [(List.mem_replicate.1 h).2]; rfl
theorem rsL_set (t : List Int) {k : Nat} (hk : k < 4) : (rsL t k).set k (rsC t k) = rsL t (k + 1) := by
  unfold rsL
  rw [set_zs (by simp) hk, List.range_succ, List.map_append]; rfl
set_option maxRecDepth 10000
attribute [local irreducible] WP WC WE WB WR WF WL WG WRg WQ
section
variable {P : Program} (T : Tbl P) {h : AHeap}
include T
set_option maxHeartbeats 4000000 in
theorem r25 (p : Pwr h) {s : AV} {t : List Int} (hs : IsSl h s 1 (t.map intRow)) (htl : t.length < 2 ^ 40) : RCall P 25 [s] h (fun v _ => v = .tup [.agg (if chkTp t = 0 then rsL t 4 else rsL t 0), .int .i64 (chkTp t)]) := by
  refine .st1 47 T.mix T.c25 ?_;intro ts hlen t0;unfold fn25
  have bz : ∀ {N : Nat}, boxF (.agg [.cplx .f64 0 0, .cplx .f64 0 0, .cplx .f64 0 0, .cplx .f64 0 0]) N = some (.ptr N 0, .push (.cells [.cplx .f64 0 0, .cplx .f64 0 0, .cplx .f64 0 0, .cplx .f64 0 0] true false)) := fun {N} => rfl
  refine Rs (A2 @t0 @bz) ?_;(first | (exact True.intro;trace "CLOSED 0") | skip)
  refine WF.ce T.c34 (r34 T (hs.ext Xx) htl) fun g1 => ?_
  by_cases hz : chkTp t = 0
  case neg =>
    have d1 : decide (chkTp t ≠ 0) = true := decide_eq_true hz
    rw [if_neg hz]
    have s4 := fun {b : Nat} => @st4 [.cplx .f64 0 0, .cplx .f64 0 0, .cplx .f64 0 0, .cplx .f64 0 0] rfl rfl b (.cplx .f64 0 0) (.cplx .f64 0 0) (.cplx .f64 0 0) (.cplx .f64 0 0)
    refine Rs (A4 @t0 @d1 @bz @s4) ?_;(first | (exact True.intro;trace "CLOSED 1") | skip)
    rfl
  have d1 : decide (chkTp t ≠ 0) = false := decide_eq_false fun z => z hz
  have ht := chkTp_z hz
  rw [if_pos hz]
  refine Rs (A3 @t0 @d1 @bz) ?_;(first | (exact True.intro;trace "CLOSED 2") | skip)
  have htl2 := ht.l2
  obtain ⟨B0, hB0⟩ : ∃ B, B = h ++ [ABlk.cells [AV.cplx .f64 0 0, .cplx .f64 0 0, .cplx .f64 0 0, .cplx .f64 0 0] true false] ++ g1 := ⟨_, rfl⟩
  have eB0 : Ext (h ++ [ABlk.cells [AV.cplx .f64 0 0, .cplx .f64 0 0, .cplx .f64 0 0, .cplx .f64 0 0] true false]) B0 := by rw [hB0]; exact ⟨g1, rfl⟩
  have ehB : Ext h B0 := Ext.trans ⟨_, rfl⟩ eB0
  have n5 : h.length < B0.length := by rw [hB0]; simp
  have m2 : B0[h.length]? = some (.cells [AV.cplx .f64 0 0, .cplx .f64 0 0, .cplx .f64 0 0, .cplx .f64 0 0] true false) := eB0.some at_new
  rw [← hB0]
  refine WL.inv T.mix (fun m ts K => ∃ k : Nat, k ≤ 4 ∧ m = 4 - k ∧ Ext h K ∧ K[h.length]? = some (.cells [AV.cplx .f64 0 0, .cplx .f64 0 0, .cplx .f64 0 0, .cplx .f64 0 0] true false) ∧ K[B0.length]? = some (.cells (rsL t k) true false) ∧ ts.length = 47 ∧ slot ts 0 = s ∧ slot ts 2 = .ptr h.length 0 ∧ slot ts 5 = .ptr B0.length 0 ∧ slot ts 16 = .int .i64 k) 4
    ⟨0, by omega, rfl, ehB.trans ⟨_, rfl⟩, (show Ext B0 (B0 ++ [_]) from ⟨_, rfl⟩).some m2, at_new, Sn, (Sq @t0), Sw, Sw, Swr⟩ ?_
  clear hlen t0 m2
  rintro _ ts K ⟨k, hk, rfl, eK, m2, m5, hlen, t0, t2, t5, t16⟩
  have hsK := hs.ext eK
  by_cases hlt : k < 4
  case neg =>
    have e3 : decide ((k : Int) < 4) = false := decide_eq_false (by omega)
    have e4 : k = 4 := by omega
    rw [e4] at m5
    have hL := rsL_len t (Nat.le_refl 4)
    have hO := rsL_one t 4
    have l5 : loadF (some 4) (.ptr B0.length 0) (fun z => K[z]?) = some (.agg (rsL t 4), .keep) := by
      rw [loadF_at m5]
      show (if 0 + 4 ≤ (rsL t 4).length then some (AV.agg (((rsL t 4).drop 0).take 4), Eff.keep) else none) = _
      rw [if_pos (by omega), List.drop_zero, List.take_of_length_le (by omega)]
    have s2 : storeF 4 (.ptr h.length 0) (.agg (rsL t 4)) (fun z => K[z]?) = some (undefA, .set h.length (.cells (rsL t 4) true false)) := by
      rw [storeF_at m2]; exact st4 hL hO
    have l2 : loadF (some 4) (.ptr h.length 0) (fun z => (K.set h.length (.cells (rsL t 4) true false))[z]?) = some (.agg (rsL t 4), .keep) := by
      rw [loadF_at (set_eq' m2)]
      show (if 0 + 4 ≤ (rsL t 4).length then some (AV.agg (((rsL t 4).drop 0).take 4), Eff.keep) else none) = _
      rw [if_pos (by omega), List.drop_zero, List.take_of_length_le (by omega)]
    refine Rs (A8 @t0 @t2 @t5 @t16 @e3 @l5 @s2 @l2) ?_;(first | (exact True.intro;trace "CLOSED 3") | skip)
    exact ⟨ext_setG eK (Nat.le_refl _), by rw [hz]⟩
  have e3 : decide ((k : Int) < 4) = true := decide_eq_true (by omega)
  have e5 := wrapN (n := k) (by omega)
  refine Rs (A6 @t0 @t2 @t5 @t16 @e3 hsK.lenm) ?_;(first | (exact True.intro;trace "CLOSED 4") | skip)
  have hkb : k ≤ 3 := by omega
  have n7 : B0.length < K.length := (List.getElem?_eq_some_iff.1 m5).1
  refine WL.inv T.mix (fun m ts' K' => ∃ j : Nat, j ≤ t.length ∧ m = t.length - j ∧ Ext K K' ∧ K'[K.length]? = some (.cells (ratR (rsS t k j)) true false) ∧ ts'.length = 47 ∧ slot ts' 0 = s ∧ slot ts' 2 = .ptr h.length 0 ∧ slot ts' 5 = .ptr B0.length 0 ∧ slot ts' 6 = .int .i64 k ∧ slot ts' 7 = .ptr K.length 0 ∧ slot ts' 16 = .int .i64 k ∧ slot ts' 19 = s ∧ slot ts' 20 = .int .i64 t.length ∧ slot ts' 21 = .int .i64 j) t.length
    ⟨0, by omega, rfl, ⟨_, rfl⟩, by simp [rsS, ratR], Sn, (Sq @t0), (Sq @t2), (Sq @t5), Sw, Sw, (Sq @t16), Sw, Sw, Swr⟩ ?_
  clear hlen t0 t2 t5 t16
  rintro _ ts' K' ⟨j, hj, rfl, eKK, m7, hlen, t0, t2, t5, t6, t7, t16, t19, t20, t21⟩
  have hsK' := hsK.ext eKK
  have l7 := @ldx _ _ _ m7
  by_cases hjt : j < t.length
  case neg =>
    have ej : j = t.length := by omega
    subst ej
    have e6 : decide ((t.length : Int) < (t.length : Int)) = false := decide_eq_false (by omega)
    have c0 : ∀ {n : Int} {G : Nat → Option ABlk} {N : Nat}, convT (.i2f .f64) (.int .i64 n) G N = some (.flt .f64 (FloatKind.f64.nearest n), .keep) := fun {_ _ _} => rfl
    have r0 : ∀ {z : Int × Int}, ldB none 0 (.cells (ratR z) true false) = some (.int .i64 z.1, .keep) := fun {z} => rfl
    have r1 : ∀ {z : Int × Int}, ldB none 1 (.cells (ratR z) true false) = some (.int .i64 z.2, .keep) := fun {z} => rfl
    have m5' := eKK.some m5
    have ia : iadaF 4 1 (.ptr B0.length 0) (.int .i64 (k : Int)) = some (.ptr B0.length k) := by
      unfold iadaF
      simp
      omega
    have s5 : storeF 1 (.ptr B0.length k) (rsC t k) (fun z => K'[z]?) = some (undefA, .set B0.length (.cells (rsL t (k + 1)) true false)) := by
      rw [storeF_at m5', stB_one rfl (by rw [rsL_len t hk]; omega), rsL_set t hlt]
    unfold rsC at s5
    refine Rs (A14 @t0 @t2 @t5 @t6 @t7 @t16 @t19 @t20 @t21 @e6 @l7 @r0 @r1 @c0) ?_;(first | (exact True.intro;trace "CLOSED 5") | skip)
    rw [WP_cpx (k := .f64) (a := FloatKind.f64.nearest (rsS t k t.length).1) (b := FloatKind.f64.nearest (rsS t k t.length).2) Sw Sw]
    refine Rs (A9 @t0 @t2 @t5 @t6 @t7 @t16 @ia @s5 @e5) ?_;(first | (exact True.intro;trace "CLOSED 6") | skip)
    exact ⟨4 - (k + 1), by omega, k + 1, by omega, rfl, ext_setG (eK.trans eKK) (by omega), set_ne' (by omega) (eKK.some m2), set_eq' m5', rfl⟩
  have e6 : decide ((j : Int) < (t.length : Int)) = true := decide_eq_true (by omega)
  have f5 := wrapN (n := j) (by omega)
  have ij := hsK'.ixm (kk := .i64) hjt
  have ax := atZ_at hjt
  have bx := ht.r t[j] (List.getElem_mem _)
  obtain ⟨x, hx⟩ : ∃ x, x = t[j] := ⟨_, rfl⟩
  have ld : ∀ {kk : AHeap}, Ext K' kk → loadF none (elp s 1 j) (fun b => kk[b]?) = some (.int .i64 x, .keep) := fun {kk} e => by rw [hx]; exact hsK'.l1m hjt rfl e
  rw [← hx] at ax bx
  have hjk : 3 * j * k ≤ 3 * 8 * 3 := Nat.mul_le_mul (Nat.mul_le_mul (Nat.le_refl _) (by omega)) hkb
  have w1 : IntKind.i64.wrap (3 * (j : Int)) = ((3 * j : Nat) : Int) := by rw [wrap_in (by omega) (by omega)]; omega
  have w2 : IntKind.i64.wrap (((3 * j : Nat) : Int) * (k : Int)) = ((3 * j * k : Nat) : Int) := by
    rw [show ((3 * j : Nat) : Int) * (k : Int) = ((3 * j * k : Nat) : Int) by rw [Int.natCast_mul (3 * j) k], wrap_in (by omega) (by omega)]
  refine Rs (A16 @t0 @t2 @t5 @t6 @t7 @t16 @t19 @t20 @t21 @e6 @ij @ld @l7 @td_a @w1 @w2) ?_;(first | (exact True.intro;trace "CLOSED 7") | skip)
  refine WF.ce T.c111 (r111 T (p.ext (eK.trans eKK)) (a := (x, 0)) (n := 3 * j * k) ⟨⟨by show _ ≤ x; omega, by show x ≤ _; omega⟩, by show (-2 ^ 40 : Int) ≤ 0; decide, by show (0 : Int) ≤ 2 ^ 40; decide⟩ (by omega)) fun g2 => ?_
  refine Rs (A9 @t0 @t2 @t5 @t6 @t7 @t16 @t19 @t20 @t21) ?_;(first | (exact True.intro;trace "CLOSED 8") | skip)
  obtain ⟨⟨c1, c2⟩, c3, c4⟩ := rsS_bd ht.r k j
  obtain ⟨⟨d1, d2⟩, d3, d4⟩ := powN_bd (3 * j * k)
  have q1 := mul_bd (Y := 1) bx ⟨d1, d2⟩
  have q2 := mul_bd (Y := 1) bx ⟨d3, d4⟩
  refine WF.ce T.c110 (r110 T (a := rsS t k j) (b := tmI (x, 0) (powN (3 * j * k))) ⟨⟨by omega, by omega⟩, by omega, by omega⟩ (by unfold bdI tmI; simp only [Int.zero_mul, Int.sub_zero, Int.add_zero]; omega)) fun g3 => ?_
  have eG : Ext K' (K' ++ g2 ++ g3) := Ext.trans ⟨g2, rfl⟩ ⟨g3, rfl⟩
  obtain ⟨Y, hY⟩ : ∃ Y, Y = K' ++ g2 ++ g3 := ⟨_, rfl⟩
  rw [← hY] at eG ⊢
  have m7' := eG.some m7
  have s3 := @box_s Y K.length _ _ m7' (rsS t k (j + 1)).1 (rsS t k (j + 1)).2
  have hp : plI (rsS t k j) (tmI (x, 0) (powN (3 * j * k))) = rsS t k (j + 1) := by rw [rsS, ax]
  rw [hp, show ratR (rsS t k (j + 1)) = [.int .i64 (rsS t k (j + 1)).1, .int .i64 (rsS t k (j + 1)).2] from rfl]
  refine Rs (A11 @t0 @t2 @t5 @t6 @t7 @t16 @t19 @t20 @t21 @s3 @f5) ?_;(first | (exact True.intro;trace "CLOSED 9") | skip)
  exact ⟨t.length - (j + 1), by omega, j + 1, by omega, rfl, ext_setG (eKK.trans eG) (Nat.le_refl _), set_eq' m7', rfl⟩
end
end Go.Abs
namespace Go.Abs

set_option maxRecDepth 10000
attribute [local irreducible] WP WC WE WB WR WF WL WG WRg WQ
section
variable {P : Program} (T : Tbl P) {h : AHeap}
include T
end
end Go.Abs
namespace Go.Abs

theorem ldN {K : AHeap} {b n : Nat} {L : List AV} (m : K[b]? = some (.cells L true false)) (hl : L.length = n) {k : AHeap} (e : Ext K k) : loadF (some n) (.ptr b 0) (fun z => k[z]?) = some (.agg L, .keep) := by
  rw [loadF_at (e.some m)]
  show (if 0 + n ≤ L.length then some (AV.agg ((L.drop 0).take n), Eff.keep) else none) = _
  rw [if_pos (by omega), List.drop_zero, List.take_of_length_le (by omega)]
set_option maxRecDepth 10000
attribute [local irreducible] WP WC WE WB WR WF WL WG WRg WQ
section
variable {P : Program} (T : Tbl P) {h : AHeap}
include T
end
end Go.Abs
namespace Go.Abs
theorem cp_zero {a b : Nat} {u v : Int} (ha : Num .f64 a u) (hb : Num .f64 b v) : eqQ .c (.cplx .f64 a b) (.cplx .f64 0 0) = some (decide (u = 0) && decide (v = 0)) := by
  simp only [eqQ, if_true, num_ord ha num_zero, num_ord hb num_zero, cmp_eq]
def twoL (d : Nat) : List Int := ((List.replicate (d + 1) (0 : Int)).set 0 1).set d (-1)
theorem twoL_len (d : Nat) : (twoL d).length = d + 1 := by simp [twoL]
theorem twoL_at {d k : Nat} (hd : 1 ≤ d) (hk : k ≤ d) : atZ (twoL d) k = if k = 0 then 1 else if k = d then -1 else 0 := by
  rw [atZ_at (by rw [twoL_len]; omega)]
  unfold twoL
  rw [List.getElem_set, List.getElem_set, List.getElem_replicate]
  by_cases h0 : k = 0
  · rw [if_neg (by omega), if_pos h0.symm, if_pos h0]
  · rw [if_neg h0]
    by_cases h1 : k = d
    · rw [if_pos h1.symm, if_pos h1]
    · rw [if_neg (fun z => h1 z.symm), if_neg (fun z => h0 z.symm), if_neg h1]
theorem twoL_ok {d : Nat} (h1 : 1 ≤ d) (h7 : d ≤ 7) : chkTp (twoL d) = 0 := by
  rcases (show d = 1 ∨ d = 2 ∨ d = 3 ∨ d = 4 ∨ d = 5 ∨ d = 6 ∨ d = 7 by omega) with rfl | rfl | rfl | rfl | rfl | rfl | rfl <;> decide
/-- TWO TAPS ARE A GHOST. -/
theorem two_ghost {A : List Int} {d : Nat} (hd : 1 ≤ d) : apL (twoL d) A (-1) = ghostL A d := by
  refine list_atZ (by rw [apL_len, ghostL_len]) fun i hi => ?_
  rw [apL_len] at hi
  rw [apL_at _ _ (by omega), ghostL_at hi, twoL_len, sumN_first]
  obtain ⟨e, rfl⟩ : ∃ e, d = e + 1 := ⟨d - 1, by omega⟩
  rw [sumN, sumN_zero fun q hq => by rw [twoL_at hd (by omega), if_neg (by omega), if_neg (by omega), Int.zero_mul]]
  have h0 := twoL_at (k := 0) hd (by omega)
  have h1 := twoL_at (k := e + 1) hd (Nat.le_refl _)
  rw [if_pos rfl] at h0
  rw [if_neg (by omega), if_pos rfl] at h1
  rw [h0, h1]
  have : (i : Int) - ((0 : Nat) : Int) = i := by omega
  rw [this]
  omega
theorem two_notch {d k : Nat} (h1 : 1 ≤ d) (h7 : d ≤ 7) (hk : k < 4) : (decide ((rsS (twoL d) k (twoL d).length).1 = 0) && decide ((rsS (twoL d) k (twoL d).length).2 = 0)) = decide ((k : Int) ∈ notchL (d : Int)) := by
  rcases (show d = 1 ∨ d = 2 ∨ d = 3 ∨ d = 4 ∨ d = 5 ∨ d = 6 ∨ d = 7 by omega) with rfl | rfl | rfl | rfl | rfl | rfl | rfl <;> rcases (show k = 0 ∨ k = 1 ∨ k = 2 ∨ k = 3 by omega) with rfl | rfl | rfl | rfl <;> decide
theorem smpl_grid {A : List Int} (hf : fitsB A = true) : (A.map smpl).map gridN = A := (smpl_all hf).2
theorem smpl_chk {A : List Int} (hf : fitsB A = true) (hl : A.length ≤ 1024) : chkL (A.map smpl) = 0 := chkL_ok (by rw [List.length_map]; exact hl) (smpl_all hf).1
def uqB : ICode := match (fn12).body with
  | .seq _ (.seq _ c) => c
  | c => c
def uqC : ICode := match uqB with
  | .seq _ (.seq _ (.seq _ (.seq _ (.seq _ (.seq _ (.seq _ (.seq _ c))))))) => c
  | c => c
def uqD : ICode := match uqC with
  | .seq _ (.seq _ (.seq _ (.seq _ c))) => c
  | c => c
set_option maxRecDepth 10000
attribute [local irreducible] WP WC WE WB WR WF WL WG WRg WQ
section
variable {P : Program} (T : Tbl P) {h Y : AHeap} {ts : TS} {s0 s v10 : AV} {t A : List Int} {l : List Nat} {d : Nat}
include T
set_option maxHeartbeats 6000000 in
theorem uq_D (hlen : ts.length = 230) (t1 : slot ts 1 = s) (t7 : slot ts 7 = .int .i64 (d : Int)) (t10 : slot ts 10 = v10)
    (e0 : Ext h Y) (pw : Pwr Y) (hs : IsSl Y s 1 (l.map fltR)) (hA : A = l.map gridN) (hl : l.length ≤ 24) (hg : ∀ b ∈ l, gridE b = 0) (hb : ∀ x ∈ A, -100 ≤ x ∧ x ≤ 100) (hd : 1 ≤ d ∧ d ≤ 24) (h10 : IsSl Y v10 1 (((ghostL A d).map smpl).map fltR)) :
    WC P inFn uqD [] ts Y (FQ [(6, none)] fun v k => Ext h k ∧ v = .bool true) := by
  have hAl : A.length = l.length := by rw [hA]; simp
  have fg : fitsB (ghostL A d) = true := fits_of fun x hx => by have := ghost_lim (by omega) hb d x hx; omega
  unfold uqD uqC uqB fn12
  dsimp only
  by_cases h8 : d ≤ 7
  case neg =>
    have d1 : decide ((8 : Int) ≤ (d : Int)) = true := decide_eq_true (by omega)
    refine Rs (A2 @t7 @d1) ?_
    exact ⟨e0, trivial⟩
  have d1 : decide ((8 : Int) ≤ (d : Int)) = false := decide_eq_false (by omega)
  have w1 : IntKind.i64.wrap ((d : Int) + 1) = ((d + 1 : Nat) : Int) := wrapN (by omega)
  repeat (first | simp (config := { maxSteps := 1000000 }) only [wset, hset, dset, bset, Nat.reduceAdd, Nat.reduceMul, Nat.reduceLeDiff, Nat.reduceEqDiff, pset, hlen, if_false, if_true, t7, d1, w1, mksl_ok (es := 1) (w := 8) (N0 := Y.length) (n := d + 1) (z := [AV.int .i64 0]) (k := .i64) (k' := .i64) (by omega) (by omega)] | simp (config := { maxSteps := 1000000 }) (disch := first | (simp only [List.length_append, List.length_cons, List.length_nil] <;> omega) | rfl | omega | fail) only [kset, wset, hset, dset, bset, Nat.reduceAdd, Nat.reduceMul, Nat.reduceLeDiff, Nat.reduceEqDiff, pset, hlen, if_false, if_true, t7, d1, w1, mksl_ok (es := 1) (w := 8) (N0 := Y.length) (n := d + 1) (z := [AV.int .i64 0]) (k := .i64) (k' := .i64) (by omega) (by omega)])
  have hF := Fr.zeros (N := Y.length) (n := d + 1) (h := Y) (z := [AV.int .i64 0]) (es := 1) (Nat.le_refl _) rfl
  obtain ⟨sv, hsv⟩ : ∃ sv, sv = AV.slice Y.length 0 (d + 1) 1 := ⟨_, rfl⟩
  rw [← hsv] at hF ⊢
  have er : List.replicate (d + 1) [AV.int .i64 0] = (List.replicate (d + 1) (0 : Int)).map intRow := by simp [intRow]
  rw [er] at hF
  have i0 := hF.isSl.ix0 (kk := .i64) (by simp)
  refine Rs (A2 @t7 @i0) ?_
  refine WR.put1 (h0 := Y) (off := 0) (row := intRow) (x' := 1) hF (show 0 < (List.replicate (d + 1) (0 : Int)).length by simp) (by decide) rfl rfl ?_
  intro g1 hl1 hF1 _
  have id' := hF1.isSl.ixm (kk := .i64) (show d < ((List.replicate (d + 1) (0 : Int)).set 0 1).length by simp)
  refine Rs (A2 @t7 @id') ?_
  refine WR.put1 (h0 := Y) (off := 0) (row := intRow) (x' := -1) hF1 (show d < ((List.replicate (d + 1) (0 : Int)).set 0 1).length by simp) (by decide) rfl rfl ?_
  intro g2 hl2 hF2 _
  have is2 : IsSl (Y ++ g2) sv 1 ((twoL d).map intRow) := hF2.isSl
  have eY : Ext Y (Y ++ g2) := ⟨_, rfl⟩
  obtain ⟨Z, hZ⟩ : ∃ Z, Z = Y ++ g2 := ⟨_, rfl⟩
  rw [← hZ] at is2 eY ⊢
  clear hF hF1 hF2 hZ
  have hs := hs.ext eY
  have h10 := h10.ext eY
  have osv := is2.one
  have tl : (twoL d).length < 2 ^ 40 := by rw [twoL_len]; omega
  have tz := twoL_ok hd.1 h8
  have hz : chkB (twoL d) l = 0 := chkB_ok tz (chkL_ok (by omega) hg)
  refine Rs (A4 @t1 @t7 @t10 @osv) ?_
  refine WF.res T.c21 (r21 T is2 tl) ?_
  intro a1 g3 is3
  refine Rs (A4 @t1 @t7 @t10 @osv) ?_
  refine WF.res T.c22 (r22 T (hs.ext Xx) (by omega)) ?_
  intro a2 g4 is4
  refine Rs (A4 @t1 @t7 @t10 @osv) ?_
  refine WF.res T.c20 (r20 T (is3.ext Xx) is4 tl (by omega)) ?_
  rintro _ g5 ⟨v25, e26, rfl, h25⟩
  rw [← hA, two_ghost hd.1] at h25
  obtain ⟨j25, rfl⟩ := heard_ok h25 hz fg
  clear h25
  have o25 := j25.one
  refine Rs (A5 @t1 @t7 @t10 @osv @o25) ?_
  refine WF.res T.c21 (r21 T (is2.ext Xx) tl) ?_
  intro a3 g6 is6
  refine Rs (A5 @t1 @t7 @t10 @osv @o25) ?_
  refine WF.ce T.c25 (r25 T ((pw.ext eY).ext Xx) is6 tl) fun g7 => ?_
  rw [if_pos tz, tz]
  have ht := chkTp_z tz
  obtain ⟨X1, hX1⟩ : ∃ X1, X1 = Z ++ g3 ++ g4 ++ g5 ++ g6 ++ g7 := ⟨_, rfl⟩
  have eX : Ext Z X1 := by rw [hX1]; exact Xx
  have h25 : IsSl X1 v25 1 (((ghostL A d).map smpl).map fltR) := by rw [hX1]; exact j25.ext Xx
  rw [← hX1]
  clear hX1 is3 is4 is6
  obtain ⟨R, hR⟩ : ∃ R, R = rsL (twoL d) 4 := ⟨_, rfl⟩
  have hR4 : R.length = 4 := by rw [hR]; exact rsL_len _ (by omega)
  have hRo : R.all AV.one = true := by rw [hR]; exact rsL_one _ _
  rw [← hR]
  have s11 := fun {b : Nat} => @st4 R hR4 hRo b (.cplx .f64 0 0) (.cplx .f64 0 0) (.cplx .f64 0 0) (.cplx .f64 0 0)
  have bz : ∀ {N : Nat}, boxF (.agg [.cplx .f64 0 0, .cplx .f64 0 0, .cplx .f64 0 0, .cplx .f64 0 0]) N = some (.ptr N 0, .push (.cells [.cplx .f64 0 0, .cplx .f64 0 0, .cplx .f64 0 0, .cplx .f64 0 0] true false)) := fun {N} => rfl
  refine Rs (A7 @t1 @t7 @t10 @osv @o25 @bz @s11) ?_
  refine WF.res T.c79 (r79 T (d : Int)) ?_
  rintro _ g8 ⟨v29, e30, rfl, h29⟩
  unfold ListS at h29
  rw [if_neg (fun z => z (rangeS_z.2 ⟨by omega, by omega⟩))] at h29
  obtain ⟨j29, rfl⟩ := h29
  have o29 := j29.one
  have fgs := smpl_all fg
  have d0 : decide ((0 : Int) ≠ 0) = false := rfl
  refine Rs (A7 @t1 @t7 @t10 @osv @o25 @o29 @d0) ?_
  refine WF.ce T.c58 (r58 T (h25.ext Xx) ((h10.ext eX).ext Xx) (by rw [List.length_map, ghostL_len]; omega) fgs.1 fgs.1) fun g9 => ?_
  obtain ⟨K0, hK0⟩ : ∃ K0, K0 = X1 ++ [ABlk.cells R true false] ++ g8 ++ g9 := ⟨_, rfl⟩
  have eK0 : Ext (X1 ++ [ABlk.cells R true false]) K0 := by rw [hK0]; exact Xx
  have h29 := j29.ext (show Ext _ K0 by rw [hK0]; exact Xx)
  rw [← hK0]
  clear hK0
  have l27 := ldN (n := 4) (eK0.some at_new) hR4 (Ext.refl K0)
  have ehK : Ext h K0 := e0.trans (eY.trans (eX.trans (Ext.trans ⟨_, rfl⟩ eK0)))
  have lN : (notchL (d : Int)).length < 2 ^ 40 := by have := notchN_len 4 (d : Int); unfold notchL; omega
  refine Rs (A6 @t1 @decide_true @Bool.not_true @o25 @o29 @l27) ?_
  refine WL.inv T.mix (fun n ts K => ∃ k : Nat, k ≤ 4 ∧ n = 4 - k ∧ Ext K0 K ∧ ts.length = 230 ∧ slot ts 29 = v29 ∧ slot ts 218 = .agg R ∧ slot ts 219 = .int .i64 k) 4
    ⟨0, by omega, rfl, .refl _, Sn, Sw, Sw, Swr⟩ ?_
  clear hlen t1 t7 t10
  rintro _ ts K ⟨k, hk, rfl, eK, hlen, t29, t218, t219⟩
  by_cases hlt : k < 4
  case neg =>
    have e3 : decide ((k : Int) < 4) = false := decide_eq_false (by omega)
    refine Rs (A4 @t29 @t218 @t219 @e3) ?_
    exact ⟨ehK.trans eK, trivial⟩
  have e3 : decide ((k : Int) < 4) = true := decide_eq_true (by omega)
  have e5 := wrapN (n := k) (by omega)
  have ik : ixaF 4 1 none (.agg R) (.int .i64 (k : Int)) = some (rsC (twoL d) k) := by
    rw [hR]
    rcases (show k = 0 ∨ k = 1 ∨ k = 2 ∨ k = 3 by omega) with rfl | rfl | rfl | rfl <;> rfl
  obtain ⟨⟨c1, c2⟩, c3, c4⟩ := rsS_bd ht.r k (twoL d).length
  have tl2 := ht.l2
  have n1 := num_int (k := .f64) (n := (rsS (twoL d) k (twoL d).length).1) (by show _ < 2 ^ 53; omega)
  have n2 := num_int (k := .f64) (n := (rsS (twoL d) k (twoL d).length).2) (by show _ < 2 ^ 53; omega)
  obtain ⟨q, hq⟩ : ∃ q, q = decide ((k : Int) ∈ notchL (d : Int)) := ⟨_, rfl⟩
  have hU := UU_pos
  have zz : ∀ x : Int, decide (x * UU = 0) = decide (x = 0) := fun x => decide_eq_decide.2 ⟨fun z => by
    rcases Int.mul_eq_zero.1 z with h | h
    · exact h
    · omega, fun z => by rw [z, Int.zero_mul]⟩
  have ec : eqvF false (eqvK (.one .c) (rsC (twoL d) k) (.cplx .f64 0 0)) = some (.bool q) := by
    show eqvF false (eqQ .c (rsC (twoL d) k) (.cplx .f64 0 0)) = _
    rw [rsC, cp_zero n1 n2, eqvF_f, zz, zz, two_notch hd.1 h8 hlt, hq]
  have eb : (!(q == q)) = false := by simp
  refine Rs (A6 @t29 @t218 @t219 @e3 @ik @ec) ?_
  refine WF.ce T.c86 (r86 T (h29.ext eK) lN _) fun g10 => ?_
  rw [← hq]
  refine Rs (A5 @t29 @t218 @t219 @eb @e5) ?_
  exact ⟨4 - (k + 1), by omega, k + 1, by omega, rfl, eK.trans Xx, rfl⟩
set_option maxHeartbeats 6000000 in
theorem uq_C (hlen : ts.length = 230) (t1 : slot ts 1 = s) (t7 : slot ts 7 = .int .i64 (d : Int)) (t10 : slot ts 10 = v10)
    (e0 : Ext h Y) (pw : Pwr Y) (hs : IsSl Y s 1 (l.map fltR)) (hA : A = l.map gridN) (hl : l.length ≤ 24) (hg : ∀ b ∈ l, gridE b = 0) (hb : ∀ x ∈ A, -100 ≤ x ∧ x ≤ 100) (hd : 1 ≤ d ∧ d ≤ 24) (h10 : IsSl Y v10 1 (((ghostL A d).map smpl).map fltR)) :
    WC P inFn uqC [] ts Y (FQ [(6, none)] fun v k => Ext h k ∧ v = .bool true) := by
  have hAl : A.length = l.length := by rw [hA]; simp
  have hz : chkD l d = 0 := chkD_ok (chkL_ok (by omega) hg) ⟨by omega, by omega⟩
  have fd : fitsB (degP A d A.length) = true := fits_of fun x hx => by have := deg_lim (by omega) (by omega) (by omega) hb x hx; omega
  have fA : fitsB A = true := fits_of fun x hx => by have := hb x hx; omega
  have d0 : decide ((0 : Int) ≠ 0) = false := rfl
  show WC P inFn (.seq _ (.seq _ (.seq _ (.seq _ uqD)))) _ _ _ _
  refine Rs (A3 @t1 @t7 @t10) ?_
  refine WF.res T.c22 (r22 T hs (by omega)) ?_
  intro a1 g1 is1
  refine Rs (A3 @t1 @t7 @t10) ?_
  refine WF.res T.c78 (r78 T is1 (by omega) (d : Int)) ?_
  rintro _ g2 ⟨v20, e21, rfl, h20⟩
  rw [← hA, ← hAl] at h20
  obtain ⟨j20, rfl⟩ := heard_ok h20 hz fd
  clear h20
  have o20 := j20.one
  refine Rs (A5 @t1 @t7 @t10 @o20 @d0) ?_
  have ld : (((degP A d A.length).map smpl)).length = l.length := by rw [List.length_map, degP_len, hAl]
  refine WF.res T.c22 (r22 T j20 (by omega)) ?_
  intro a2 g3 is3
  refine Rs (A4 @t1 @t7 @t10 @o20) ?_
  refine WF.res T.c77 (r77 T is3 (by omega) (d : Int)) ?_
  rintro _ g4 ⟨v22, e23, rfl, h22⟩
  rw [smpl_grid fd, ghost_deg (by omega)] at h22
  obtain ⟨j22, rfl⟩ := heard_ok h22 (chkD_ok (smpl_chk fd (by rw [degP_len]; omega)) ⟨by omega, by omega⟩) fA
  clear h22
  have o22 := j22.one
  refine Rs (A6 @t1 @t7 @t10 @o20 @o22 @d0) ?_
  refine WF.ce T.c58 (r58 T j22 (hs.ext Xx) (by rw [List.length_map]; omega) (smpl_all fA).1 hg) fun g5 => ?_
  have eq : decide ((A.map smpl).map gridN = l.map gridN) = true := decide_eq_true (by rw [smpl_grid fA, hA])
  have eY : Ext Y (Y ++ g1 ++ g2 ++ g3 ++ g4 ++ g5) := Xx
  refine Rs (A7 @t1 @t7 @t10 @o20 @o22 @eq @Bool.not_true) ?_
  exact uq_D T (s := s) (v10 := v10) (l := l) (d := d) (A := A) Sn (Sq @t1) (Sq @t7) (Sq @t10) (e0.trans eY) (pw.ext eY) (hs.ext eY) hA hl hg hb hd (h10.ext eY)
set_option maxHeartbeats 8000000 in
theorem uq_B (hlen : ts.length = 230) (t0 : slot ts 0 = s0) (t1 : slot ts 1 = s) {z : Int} (hz0 : 0 ≤ z ∧ z ≤ 255) (t2 : slot ts 2 = .int .u8 z)
    (e0 : Ext h Y) (pw : Pwr Y) (hT : IsSl Y s0 1 (t.map intRow)) (hs : IsSl Y s 1 (l.map fltR)) (hA : A = l.map gridN) (hl : l.length ≤ 24) (hg : ∀ b ∈ l, gridE b = 0) (hb : ∀ x ∈ A, -100 ≤ x ∧ x ≤ 100) (tz : chkTp t = 0) (h1 : atZ t 0 = 1 ∨ atZ t 0 = -1) :
    WC P inFn uqB [] ts Y (FQ [(6, none)] fun v k => Ext h k ∧ v = .bool true) := by
  have hAl : A.length = l.length := by rw [hA]; simp
  have ht := chkTp_z tz
  have tl : t.length < 2 ^ 40 := by have := ht.l2; omega
  have tl1 : 1 ≤ t.length := ht.l1
  have hcl : chkL l = 0 := chkL_ok (by omega) hg
  have hcb : chkB t l = 0 := chkB_ok tz hcl
  have fA : fitsB A = true := fits_of fun x hx => by have := hb x hx; omega
  have fa : fitsB (apL t A (-1)) = true := fits_of fun x hx => by have := apL_lim (by omega) ht hb (-1) x hx; omega
  obtain ⟨d, hd⟩ : ∃ d : Nat, (d : Int) = 1 + z.tmod 24 := ⟨(1 + z.tmod 24).toNat, by
    have := Int.tmod_nonneg 24 hz0.1
    omega⟩
  have hd1 : 1 ≤ d ∧ d ≤ 24 := by
    have h1 := Int.tmod_nonneg 24 hz0.1
    have h2 := Int.tmod_lt_of_pos z (show (0 : Int) < 24 by omega)
    omega
  have fg : fitsB (ghostL A d) = true := fits_of fun x hx => by have := ghost_lim (by omega) hb d x hx; omega
  have d0 : decide ((0 : Int) ≠ 0) = false := rfl
  have d0' : decide ((0 : Int) = 0) = true := rfl
  have rm : binK .rem (.int .i64 z) (.int .i64 24) = some (.int .i64 (z.tmod 24)) := by rw [bin_rem (by decide)]
  have cz : IntKind.i64.wrap z = z := wrap_in (by omega) (by omega)
  have ad : IntKind.i64.wrap (1 + z.tmod 24) = (d : Int) := by rw [wrap_in (by omega) (by omega), hd]
  show WC P inFn (.seq _ (.seq _ (.seq _ (.seq _ (.seq _ (.seq _ (.seq _ (.seq _ uqC)))))))) _ _ _ _
  refine Rs (A6 @t0 @t1 @t2 @cz @rm @ad) ?_
  refine WF.res T.c21 (r21 T hT tl) ?_
  intro a1 g1 is1
  refine Rs (A2 @t0 @t1) ?_
  refine WF.res T.c22 (r22 T (hs.ext Xx) (by omega)) ?_
  intro a2 g2 is2
  refine Rs (A2 @t0 @t1) ?_
  refine WF.res T.c20 (r20 T (is1.ext Xx) is2 tl (by omega)) ?_
  rintro _ g3 ⟨v8, e9, rfl, h8⟩
  rw [← hA] at h8
  obtain ⟨j8, rfl⟩ := heard_ok h8 hcb fa
  clear h8
  have o8 := j8.one
  refine Rs (A3 @t0 @t1 @o8) ?_
  refine WF.res T.c22 (r22 T (hs.ext Xx) (by omega)) ?_
  intro a3 g4 is4
  refine Rs (A3 @t0 @t1 @o8) ?_
  refine WF.res T.c77 (r77 T is4 (by omega) (d : Int)) ?_
  rintro _ g5 ⟨v10, e11, rfl, h10⟩
  rw [← hA] at h10
  obtain ⟨j10, rfl⟩ := heard_ok h10 (chkD_ok hcl ⟨by omega, by omega⟩) fg
  clear h10
  have o10 := j10.one
  obtain ⟨X0, hX0⟩ : ∃ X0, X0 = Y ++ g1 ++ g2 ++ g3 ++ g4 ++ g5 := ⟨_, rfl⟩
  have eX0 : Ext Y X0 := by rw [hX0]; exact Xx
  have j8 : IsSl X0 v8 1 (((apL t A (-1)).map smpl).map fltR) := by rw [hX0]; exact j8.ext Xx
  have j10 : IsSl X0 v10 1 (((ghostL A d).map smpl).map fltR) := by rw [hX0]; exact j10
  rw [← hX0]
  clear hX0 is1 is2 is4
  have hT := hT.ext eX0
  have hs := hs.ext eX0
  refine Rs (A5 @t0 @t1 @o8 @o10 @d0) ?_
  refine WF.res T.c21 (r21 T hT tl) ?_
  intro a1 g1 is1
  refine Rs (A4 @t0 @t1 @o8 @o10) ?_
  have la : ((apL t A (-1)).map smpl).length = l.length := by rw [List.length_map, apL_len, hAl]
  refine WF.res T.c22 (r22 T (j8.ext Xx) (by omega)) ?_
  intro a2 g2 is2
  refine Rs (A4 @t0 @t1 @o8 @o10) ?_
  refine WF.res T.c23 (r23 T (is1.ext Xx) is2 tl (by omega)) ?_
  rintro _ g3 ⟨v12, e13, rfl, h12⟩
  have hc2 : chkB t ((apL t A (-1)).map smpl) = 0 := chkB_ok tz (smpl_chk fa (by rw [apL_len]; omega))
  unfold UndoH at h12
  rw [if_neg (fun z => z hc2), if_pos h1, smpl_grid fa, apL_len, und_ap tl1 h1] at h12
  obtain ⟨j12, rfl⟩ := told_ok h12 fA
  clear h12
  have o12 := j12.one
  refine Rs (A5 @t0 @t1 @o8 @o10 @o12) ?_
  have lg : ((ghostL A d).map smpl).length = l.length := by rw [List.length_map, ghostL_len, hAl]
  refine WF.res T.c22 (r22 T (j10.ext Xx) (by omega)) ?_
  intro a3 g4 is4
  refine Rs (A5 @t0 @t1 @o8 @o10 @o12) ?_
  refine WF.res T.c78 (r78 T is4 (by omega) (d : Int)) ?_
  rintro _ g5 ⟨v14, e15, rfl, h14⟩
  rw [smpl_grid fg, lg, ← hAl, deg_ghost (by omega)] at h14
  obtain ⟨j14, rfl⟩ := heard_ok h14 (chkD_ok (smpl_chk fg (by rw [ghostL_len]; omega)) ⟨by omega, by omega⟩) fA
  clear h14
  have o14 := j14.one
  have fAs := smpl_all fA
  have eq : decide ((A.map smpl).map gridN = l.map gridN) = true := decide_eq_true (by rw [smpl_grid fA, hA])
  refine Rs (A7 @t0 @t1 @o8 @o10 @o12 @o14 @d0) ?_
  refine WF.ce T.c58 (r58 T (j12.ext Xx) (hs.ext Xx) (by rw [List.length_map]; omega) fAs.1 hg) fun g6 => ?_
  refine Rs (A8 @t0 @t1 @o8 @o10 @o12 @o14 @eq @Bool.not_true) ?_
  refine WF.ce T.c58 (r58 T (j14.ext Xx) (hs.ext Xx) (by rw [List.length_map]; omega) fAs.1 hg) fun g7 => ?_
  obtain ⟨X1, hX1⟩ : ∃ X1, X1 = X0 ++ g1 ++ g2 ++ g3 ++ g4 ++ g5 ++ g6 ++ g7 := ⟨_, rfl⟩
  have eX1 : Ext X0 X1 := by rw [hX1]; exact Xx
  have j10 := j10.ext eX1
  rw [← hX1]
  clear hX1 is1 is2 is4 j12 j14
  have hT := hT.ext eX1
  have hs := hs.ext eX1
  have eh := e0.trans (eX0.trans eX1)
  have pw := pw.ext (eX0.trans eX1)
  refine Rs (A8 @t0 @t1 @o8 @o10 @o12 @o14 @eq @Bool.not_true) ?_
  refine WF.res T.c21 (r21 T hT tl) ?_
  intro a1 g1 is1
  refine Rs (A4 @t0 @t1 @o8 @o10) ?_
  refine WF.res T.c22 (r22 T (hs.ext Xx) (by omega)) ?_
  intro a2 g2 is2
  refine Rs (A4 @t0 @t1 @o8 @o10) ?_
  refine WF.res T.c23 (r23 T (is1.ext Xx) is2 tl (by omega)) ?_
  rintro _ g3 ⟨v16, e17, rfl, h16⟩
  unfold UndoH at h16
  rw [if_neg (fun z => z hcb), if_pos h1, ← hA] at h16
  unfold ToldS at h16
  by_cases hf : fitsB (undP t A A.length) = true
  case neg =>
    rw [if_neg hf] at h16
    obtain ⟨rfl, rfl⟩ := h16
    have d4 : decide ((4 : Int) = 0) = false := rfl
    have d5 : decide ((4 : Int) ≠ 4) = false := rfl
    have eY : Ext X1 (X1 ++ g1 ++ g2 ++ g3) := Xx
    refine Rs (A6 @t0 @t1 @o8 @o10 @d4 @d5) ?_
    exact uq_C T (s := s) (v10 := v10) (l := l) (d := d) (A := A) Sn (Sq @t1) Sw Sw (eh.trans eY) (pw.ext eY) (hs.ext eY) hA hl hg hb hd1 (j10.ext eY)
  rw [if_pos hf] at h16
  obtain ⟨j16, rfl⟩ := h16
  have o16 := j16.one
  refine Rs (A6 @t0 @t1 @o8 @o10 @o16 @decide_true) ?_
  refine WF.res T.c21 (r21 T (hT.ext Xx) tl) ?_
  intro a3 g4 is4
  refine Rs (A5 @t0 @t1 @o8 @o10 @o16) ?_
  have lu : ((undP t A A.length).map smpl).length = l.length := by rw [List.length_map, undP_len, hAl]
  refine WF.res T.c22 (r22 T (j16.ext Xx) (by omega)) ?_
  intro a4 g5 is5
  refine Rs (A5 @t0 @t1 @o8 @o10 @o16) ?_
  refine WF.res T.c20 (r20 T (is4.ext Xx) is5 tl (by omega)) ?_
  rintro _ g6 ⟨v18, e19, rfl, h18⟩
  rw [smpl_grid hf, ap_und tl1 h1] at h18
  obtain ⟨j18, rfl⟩ := heard_ok h18 (chkB_ok tz (smpl_chk hf (by rw [undP_len]; omega))) fA
  clear h18
  have o18 := j18.one
  refine Rs (A7 @t0 @t1 @o8 @o10 @o16 @o18 @d0) ?_
  refine WF.ce T.c58 (r58 T j18 (hs.ext Xx) (by rw [List.length_map]; omega) fAs.1 hg) fun g7 => ?_
  have eY : Ext X1 (X1 ++ g1 ++ g2 ++ g3 ++ g4 ++ g5 ++ g6 ++ g7) := Xx
  refine Rs (A8 @t0 @t1 @o8 @o10 @o16 @o18 @eq @Bool.not_true) ?_
  exact uq_C T (s := s) (v10 := v10) (l := l) (d := d) (A := A) Sn (Sq @t1) Sw Sw (eh.trans eY) (pw.ext eY) (hs.ext eY) hA hl hg hb hd1 (j10.ext eY)
set_option maxHeartbeats 4000000 in
theorem r12 (X : Xfl P) (ha : ∀ k, Ext h k → RCall P 17 [] k (fun v _ => v = .bool true)) (pw : Pwr h) (hT : IsSl h s0 1 (t.map intRow)) (hs : IsSl h s 1 (l.map fltR)) {z : Int} (hz0 : 0 ≤ z ∧ z ≤ 255) : RCall P 12 [s0, s, .int .u8 z] h (fun v _ => v = .bool true) := by
  refine .st3 230 T.mix T.c12 ?_;intro ts hlen t0 t1 t2;unfold fn12
  show WC P inFn (.seq _ (.seq _ uqB)) _ _ _ _
  refine Rs (A3 @t0 @t1 @t2) ?_
  refine WF.ce T.c17 (ha _ Xx) fun g1 => ?_
  by_cases hst : (t.length : Int) ≤ 9
  case neg =>
    have d1 : decide ((t.length : Int) ≤ 9) = false := decide_eq_false hst
    refine Rs (A3 @t0 @t1 @Bool.not_true) ?_
    refine WF.ce T.c18 (r18 T (hT.ext Xx)) fun g2 => ?_
    refine Rs (A4 @t0 @t1 @d1 @Bool.not_false) ?_
    refine WF.ce T.c17 (ha _ Xx) fun g3 => ?_
    exact Rs (A2 @t0 @t1) trivial
  have d1 : decide ((t.length : Int) ≤ 9) = true := decide_eq_true hst
  have htl : t.length < 2 ^ 40 := by omega
  refine Rs (A3 @t0 @t1 @Bool.not_true) ?_
  refine WF.ce T.c18 (r18 T (hT.ext Xx)) fun g2 => ?_
  refine Rs (A4 @t0 @t1 @d1 @Bool.not_true) ?_
  refine WF.ce T.c26 (r26 T (hT.ext Xx) htl) fun g3 => ?_
  by_cases tz : chkTp t = 0
  case neg =>
    have d2 : decide (chkTp t ≠ 0) = true := decide_eq_true tz
    refine Rs (A3 @t0 @t1 @d2) ?_
    refine WF.ce T.c17 (ha _ Xx) fun g3 => ?_
    exact Rs (A2 @t0 @t1) trivial
  have d2 : decide (chkTp t ≠ 0) = false := decide_eq_false fun z => z tz
  have ht1 : 0 < t.length := by have := (chkTp_z tz).l1; omega
  obtain ⟨K, hK⟩ : ∃ K, K = h ++ g1 ++ g2 ++ g3 := ⟨_, rfl⟩
  have eK : Ext h K := by rw [hK]; exact Xx
  rw [← hK]
  clear hK
  have hTK := hT.ext eK
  have hsK := hs.ext eK
  have i0 := hTK.ix0 (kk := .i64) ht1
  have a0 : atZ t 0 = t[0] := atZ_at ht1
  obtain ⟨y0, hy0⟩ : ∃ y, y = t[0] := ⟨_, rfl⟩
  have l0 : ∀ {kk : AHeap}, Ext K kk → loadF none (elp s0 1 0) (fun b => kk[b]?) = some (.int .i64 y0, .keep) := fun {kk} e => by rw [hy0]; exact hTK.l1m ht1 rfl e
  rw [← hy0] at a0
  have fin : ∀ (ts1 : TS), ts1.length = 230 → slot ts1 0 = s0 → slot ts1 1 = s → slot ts1 2 = .int .u8 z → quietB l 100 = true → (y0 = 1 ∨ y0 = -1) → ∀ g4, WC P inFn uqB [] ts1 (K ++ g4) (FQ [(6, none)] fun v k => Ext h k ∧ v = .bool true) := fun ts1 b1 b2 b3 b4 hq hy g4 => by
    obtain ⟨q1, q2, q3⟩ := quietB_t hq
    have e4 : Ext K (K ++ g4) := ⟨_, rfl⟩
    exact uq_B T (s0 := s0) (s := s) (t := t) (l := l) (A := l.map gridN) b1 b2 b3 hz0 b4 (eK.trans e4) (pw.ext (eK.trans e4)) (hTK.ext e4) (hsK.ext e4) rfl q1 q2 q3 tz (by rw [a0]; exact hy)
  by_cases hy1 : y0 = 1
  · have d3 : decide (y0 ≠ 1) = false := decide_eq_false fun z => z hy1
    refine Rs (A6 @t0 @t1 @d2 @i0 @l0 @d3) ?_
    refine WF.ce T.c57 (r57 T X hsK (lim := 100) ⟨by omega, by omega⟩) fun g4 => ?_
    cases hq : quietB l 100 with
    | false =>
      refine Rs (A3 @t0 @t1 @Bool.not_false) ?_
      refine WF.ce T.c17 (ha _ (eK.trans Xx)) fun g5 => ?_
      refine Rs (A2 @t0 @t1) ?_
      exact ⟨eK.trans Xx, trivial⟩
    | true =>
      refine Rs (A3 @t0 @t1 @Bool.not_true) ?_
      exact fin _ Sn (Sq @t0) (Sq @t1) (Sq @t2) hq (.inl hy1) g4
  have d3 : decide (y0 ≠ 1) = true := decide_eq_true hy1
  by_cases hy2 : y0 = -1
  · have d4 : decide (y0 ≠ -1) = false := decide_eq_false fun z => z hy2
    refine Rs (A7 @t0 @t1 @d2 @i0 @l0 @d3 @d4) ?_
    refine WF.ce T.c57 (r57 T X hsK (lim := 100) ⟨by omega, by omega⟩) fun g4 => ?_
    cases hq : quietB l 100 with
    | false =>
      refine Rs (A3 @t0 @t1 @Bool.not_false) ?_
      refine WF.ce T.c17 (ha _ (eK.trans Xx)) fun g5 => ?_
      refine Rs (A2 @t0 @t1) ?_
      exact ⟨eK.trans Xx, trivial⟩
    | true =>
      refine Rs (A3 @t0 @t1 @Bool.not_true) ?_
      exact fin _ Sn (Sq @t0) (Sq @t1) (Sq @t2) hq (.inr hy2) g4
  · have d4 : decide (y0 ≠ -1) = true := decide_eq_true hy2
    refine Rs (A7 @t0 @t1 @d2 @i0 @l0 @d3 @d4) ?_
    refine WF.ce T.c17 (ha _ (eK.trans Xx)) fun g5 => ?_
    refine Rs (A2 @t0 @t1) ?_
    exact ⟨eK.trans Xx, trivial⟩
end
end Go.Abs
