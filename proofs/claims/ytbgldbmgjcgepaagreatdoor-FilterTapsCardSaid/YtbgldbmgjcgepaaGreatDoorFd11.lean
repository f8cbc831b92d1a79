/- Contracts: a response at one frequency, by the reference. No condition. · Contracts: the responses by the program. No condition. · Sums over the places of lists; taps applied, and their adjoint: plain. No condition. · The law of taps. No condition. -/
import Derived.Test.YtbgldbmgjcgepaaGreatDoorFd10
set_option linter.all false
namespace Go.Abs

/-- The sum of the first taps, each turned. -/
def rsS (t : List Int) (f : Nat) : Nat → Int × Int
  | 0 => (0, 0)
  | k + 1 => plI (rsS t f k) (tmI (atZ t k, 0) (powN (3 * k * f)))
theorem rsS_bd {t : List Int} (ht : ∀ x ∈ t, -16 ≤ x ∧ x ≤ 16) (f : Nat) : ∀ k : Nat, bdI (k * 16) (rsS t f k)
  | 0 => by unfold bdI rsS; simp
  | k + 1 => by
    obtain ⟨⟨h1, h2⟩, h3, h4⟩ := rsS_bd ht f k
    obtain ⟨⟨p1, p2⟩, p3, p4⟩ := powN_bd (3 * k * f)
    have tb := tap_bd ht k
    have q1 := mul_bd (Y := 1) tb ⟨p1, p2⟩
    have q2 := mul_bd (Y := 1) tb ⟨p3, p4⟩
    have e : ((k + 1 : Nat) : Int) * 16 = k * 16 + 16 := by omega
    unfold bdI rsS plI tmI
    simp only [Int.zero_mul, Int.sub_zero, Int.add_zero]
    rw [e]
    omega
set_option maxRecDepth 10000
attribute [local irreducible] WP WC WE WB WR WF WL WG WRg WQ
section
variable {P : Program} (T : Tbl P) {h : AHeap}
include T
set_option maxHeartbeats 4000000 in
theorem r33 {s : AV} {t : List Int} (hs : IsSl h s 1 (t.map intRow)) (ht : TpOk t) {f : Nat} (hf : f ≤ 3) : RCall P 33 [s, .int .i64 (f : Int)] h (fun v _ => v = .agg (ratR (rsS t f t.length))) := by
  refine .st2 28 T.mix T.c33 ?_;intro ts hlen t0 t1;unfold fn33
  have htl := ht.l2
  refine Rs (A2 @t0 @t1) ?_
  have hB : (h ++ [ABlk.cells [AV.int IntKind.i64 0, AV.int IntKind.i64 0] true false]).length = h.length + 1 := by simp
  refine WL.inv T.mix (fun m ts K => ∃ k : Nat, k ≤ t.length ∧ m = t.length - k ∧ Ext h K ∧ K[h.length]? = some (.cells [.int .i64 0, .int .i64 0] true false) ∧ K[h.length + 1]? = some (.cells (ratR (rsS t f k)) true false) ∧ ts.length = 28 ∧ slot ts 0 = s ∧ slot ts 1 = .int .i64 (f : Int) ∧ slot ts 4 = .ptr h.length 0 ∧ slot ts 5 = .ptr (h.length + 1) 0 ∧ slot ts 6 = .int .i64 k) t.length
    ⟨0, by omega, rfl, Xx, by simp, by simp [rsS, ratR], Sn, (Sq @t0), (Sq @t1), Sw, (by rw [hB]; exact Zn trivial), Swr⟩ ?_
  clear hlen t0 t1
  rintro _ ts K ⟨k, hk, rfl, eK, m2, m3, hlen, t0, t1, t4, t5, t6⟩
  have l3 := @ldx _ _ _ m3
  have hsK := hs.ext eK
  by_cases hlt : k < t.length
  case neg =>
    have e3 := dltF hlt
    have e4 : k = t.length := by omega
    rw [e4] at l3
    have s4 := @box_s K h.length _ _ m2 (rsS t f t.length).1 (rsS t f t.length).2
    have l4 := @box_l K h.length _ m2 (rsS t f t.length).1 (rsS t f t.length).2
    have ta : ldB (some 2) 0 (.cells (ratR (rsS t f t.length)) true false) = some (.agg [.int .i64 (rsS t f t.length).1, .int .i64 (rsS t f t.length).2], .keep) := rfl
    unfold ratR at *
    refine Rs (A11 @t0 @t1 @t4 @t5 @t6 hsK.lenm @e3 @l3 @ta @s4 @l4) ?_
    exact ⟨ext_setG eK (Nat.le_refl _), trivial⟩
  have e3 := dltT hlt
  have e5 := wrapN (n := k) (by omega)
  have ix := hsK.ixm (kk := .i64) hlt
  have ax := atZ_at hlt
  have bx := ht.r t[k] (List.getElem_mem _)
  obtain ⟨x, hx⟩ : ∃ x, x = t[k] := ⟨_, rfl⟩
  have ld : ∀ {kk : AHeap}, Ext K kk → loadF none (elp s 1 k) (fun b => kk[b]?) = some (.int .i64 x, .keep) := fun {kk} e => by rw [hx]; exact hsK.l1m hlt rfl e
  rw [← hx] at ax bx
  have hkf : 3 * k * f ≤ 3 * 8 * 3 := Nat.mul_le_mul (Nat.mul_le_mul (Nat.le_refl _) (by omega)) hf
  have w1 : IntKind.i64.wrap (3 * (k : Int)) = ((3 * k : Nat) : Int) := by rw [wrap_in (by omega) (by omega)]; omega
  have w2 : IntKind.i64.wrap (((3 * k : Nat) : Int) * (f : Int)) = ((3 * k * f : Nat) : Int) := by
    rw [show ((3 * k : Nat) : Int) * (f : Int) = ((3 * k * f : Nat) : Int) by rw [Int.natCast_mul (3 * k) f], wrap_in (by omega) (by omega)]
  have r1 : binK .rem (.int .i64 ((3 * k * f : Nat) : Int)) (.int .i64 4) = some (.int .i64 ((3 * k * f % 4 : Nat) : Int)) := by rw [bin_rem (by decide), Int.tmod_eq_emod_of_nonneg (by omega)]; rfl
  refine Rs (A14 @t0 @t1 @t4 @t5 @t6 hsK.lenm @e3 @l3 @td_a @ix @ld @w1 @w2 @r1) ?_
  refine WF.ce T.c115 (r115 T (n := 3 * k * f % 4) (by omega)) fun g1 => ?_
  rw [powN_mod]
  refine Rs (A5 @t0 @t1 @t4 @t5 @t6) ?_
  refine WF.ce T.c114 (r114 T (a := (x, 0)) (b := powN (3 * k * f)) ⟨⟨by show _ ≤ x; omega, by show x ≤ _; omega⟩, by show (-2 ^ 40 : Int) ≤ 0; decide, by show (0 : Int) ≤ 2 ^ 40; decide⟩ (powN_bd _)) fun g2 => ?_
  refine Rs (A5 @t0 @t1 @t4 @t5 @t6) ?_
  obtain ⟨⟨c1, c2⟩, c3, c4⟩ := rsS_bd ht.r f k
  obtain ⟨⟨d1, d2⟩, d3, d4⟩ := powN_bd (3 * k * f)
  have q1 := mul_bd (Y := 1) bx ⟨d1, d2⟩
  have q2 := mul_bd (Y := 1) bx ⟨d3, d4⟩
  refine WF.ce T.c113 (r113 T (a := rsS t f k) (b := tmI (x, 0) (powN (3 * k * f))) ⟨⟨by omega, by omega⟩, by omega, by omega⟩ (by unfold bdI tmI; simp only [Int.zero_mul, Int.sub_zero, Int.add_zero]; omega)) fun g3 => ?_
  have eG : Ext K (K ++ g1 ++ g2 ++ g3) := Ext.trans ⟨g1, rfl⟩ (Ext.trans ⟨g2, rfl⟩ ⟨g3, rfl⟩)
  obtain ⟨Y, hY⟩ : ∃ Y, Y = K ++ g1 ++ g2 ++ g3 := ⟨_, rfl⟩
  rw [← hY] at eG ⊢
  have m3' := eG.some m3
  have m2' := eG.some m2
  have s3 := @box_s Y (h.length + 1) _ _ m3' (rsS t f (k + 1)).1 (rsS t f (k + 1)).2
  have hp : plI (rsS t f k) (tmI (x, 0) (powN (3 * k * f))) = rsS t f (k + 1) := by rw [rsS, ax]
  rw [hp, show ratR (rsS t f (k + 1)) = [.int .i64 (rsS t f (k + 1)).1, .int .i64 (rsS t f (k + 1)).2] from rfl]
  refine Rs (A7 @t0 @t1 @t4 @t5 @t6 @s3 @e5) ?_
  exact ⟨t.length - (k + 1), by omega, k + 1, by omega, rfl, ext_setG (eK.trans eG) (by omega), set_ne' (by omega) m2', set_eq' m3', rfl⟩
end
end Go.Abs
namespace Go.Abs

theorem WP_cpx {P : Program} {ro : Option Nat → Prop} {ks : List Kt} {ts : TS} {h : AHeap} {Q : Ex → TS → AHeap → Prop} {d : Option Nat} {l : List IOp} {x y : Opd} {k : FloatKind} {a b : Nat} (hx : val ts x = .flt k a) (hy : val ts y = .flt k b) :
    WP P ro ({ dst := d, k := .cpx x y, gd := none, q := false } :: l) ks ts h Q = WP P ro l ks (put ts d (.cplx k a b)) h Q := by
  rw [WP_op (by simp) (by simp)]
  simp only [stepT, fnT, hx, hy, if_true]
  exact WR_keep
def rsC (t : List Int) (f : Nat) : AV := .cplx .f64 (FloatKind.f64.nearest (rsS t f t.length).1) (FloatKind.f64.nearest (rsS t f t.length).2)
def rsL (t : List Int) (k : Nat) : List AV := (List.range k).map (rsC t) ++ List.replicate (4 - k) (.cplx .f64 0 0)
def z4 : List AV := [.cplx .f64 0 0, .cplx .f64 0 0, .cplx .f64 0 0, .cplx .f64 0 0]
/-- Four cells stored into their box. -/
theorem st4 {L : List AV} (hl : L.length = 4) (ho : L.all AV.one = true) {b : Nat} {a0 a1 a2 a3 : AV} : stB 4 0 (.agg L) b (.cells [a0, a1, a2, a3] true false) = some (undefA, .set b (.cells L true false)) := by
  obtain ⟨x0, x1, x2, x3, rfl⟩ : ∃ x0 x1 x2 x3, L = [x0, x1, x2, x3] := by
    match L, hl with
    | [x0, x1, x2, x3], _ => exact ⟨x0, x1, x2, x3, rfl⟩
  exact (stB_agg (l := [x0, x1, x2, x3]) rfl ho (by show 0 + 4 ≤ 4; omega)).trans rfl
theorem Fr.setb {N : Nat} {h : AHeap} {s : AV} {es : Nat} {cs : List (List AV)} {b : Nat} {X : ABlk} (hs : Fr N h s es cs) (hb : b < N) : Fr N (h.set b X) s es cs := by
  cases hs with
  | nil => exact .nil
  | mk hN h1 he => exact .mk hN (by rw [List.getElem?_set_ne (by omega)]; exact h1) he
theorem rsL_len (t : List Int) {k : Nat} (hk : k ≤ 4) : (rsL t k).length = 4 := by simp [rsL]; omega
theorem rsL_one (t : List Int) (k : Nat) : (rsL t k).all AV.one = true := by
  rw [List.all_eq_true]
  intro x hx
  rcases List.mem_append.1 hx with h | h
  · obtain ⟨f, _, rfl⟩ := List.mem_map.1 h; rfl
  · rw [(List.mem_replicate.1 h).2]; rfl
theorem rsL_set (t : List Int) {k : Nat} (hk : k < 4) : (rsL t k).set k (rsC t k) = rsL t (k + 1) := by
  unfold rsL
  rw [set_zs (by simp) hk, List.range_succ, List.map_append]; rfl
set_option maxRecDepth 10000
attribute [local irreducible] WP WC WE WB WR WF WL WG WRg WQ
section
variable {P : Program} (T : Tbl P) {h : AHeap}
include T
set_option maxHeartbeats 4000000 in
theorem r25 (p : Pwr h) {s : AV} {t : List Int} (hs : IsSl h s 1 (t.map intRow)) (htl : t.length < 2 ^ 40) : RCall P 25 [s] h (fun v _ => v = .tup [.agg (if chkTp t = 0 then rsL t 4 else rsL t 0), .int .i64 (chkTp t)]) := by
  refine .st1 47 T.mix T.c25 ?_;intro ts hlen t0;unfold fn25
  have bz : ∀ {N : Nat}, boxF (.agg [.cplx .f64 0 0, .cplx .f64 0 0, .cplx .f64 0 0, .cplx .f64 0 0]) N = some (.ptr N 0, .push (.cells [.cplx .f64 0 0, .cplx .f64 0 0, .cplx .f64 0 0, .cplx .f64 0 0] true false)) := fun {N} => rfl
  refine Rs (A2 @t0 @bz) ?_;(first | (exact True.intro;trace "CLOSED 0") | skip)
  refine WF.ce T.c34 (r34 T (hs.ext Xx) htl) fun g1 => ?_
  by_cases hz : chkTp t = 0
  case neg =>
    have d1 : decide (chkTp t ≠ 0) = true := decide_eq_true hz
    rw [if_neg hz]
    have s4 := fun {b : Nat} => @st4 [.cplx .f64 0 0, .cplx .f64 0 0, .cplx .f64 0 0, .cplx .f64 0 0] rfl rfl b (.cplx .f64 0 0) (.cplx .f64 0 0) (.cplx .f64 0 0) (.cplx .f64 0 0)
    refine Rs (A4 @t0 @d1 @bz @s4) ?_;(first | (exact True.intro;trace "CLOSED 1") | skip)
    rfl
  have d1 : decide (chkTp t ≠ 0) = false := decide_eq_false fun z => z hz
  have ht := chkTp_z hz
  rw [if_pos hz]
  refine Rs (A3 @t0 @d1 @bz) ?_;(first | (exact True.intro;trace "CLOSED 2") | skip)
  have htl2 := ht.l2
  obtain ⟨B0, hB0⟩ : ∃ B, B = h ++ [ABlk.cells [AV.cplx .f64 0 0, .cplx .f64 0 0, .cplx .f64 0 0, .cplx .f64 0 0] true false] ++ g1 := ⟨_, rfl⟩
  have eB0 : Ext (h ++ [ABlk.cells [AV.cplx .f64 0 0, .cplx .f64 0 0, .cplx .f64 0 0, .cplx .f64 0 0] true false]) B0 := by rw [hB0]; exact ⟨g1, rfl⟩
  have ehB : Ext h B0 := Ext.trans ⟨_, rfl⟩ eB0
  have n5 : h.length < B0.length := by rw [hB0]; simp
  have m2 : B0[h.length]? = some (.cells [AV.cplx .f64 0 0, .cplx .f64 0 0, .cplx .f64 0 0, .cplx .f64 0 0] true false) := eB0.some at_new
  rw [← hB0]
  refine WL.inv T.mix (fun m ts K => ∃ k : Nat, k ≤ 4 ∧ m = 4 - k ∧ Ext h K ∧ K[h.length]? = some (.cells [AV.cplx .f64 0 0, .cplx .f64 0 0, .cplx .f64 0 0, .cplx .f64 0 0] true false) ∧ K[B0.length]? = some (.cells (rsL t k) true false) ∧ ts.length = 47 ∧ slot ts 0 = s ∧ slot ts 2 = .ptr h.length 0 ∧ slot ts 5 = .ptr B0.length 0 ∧ slot ts 16 = .int .i64 k) 4
    ⟨0, by omega, rfl, ehB.trans ⟨_, rfl⟩, (show Ext B0 (B0 ++ [_]) from ⟨_, rfl⟩).some m2, at_new, Sn, (Sq @t0), Sw, Sw, Swr⟩ ?_
  clear hlen t0 m2
  rintro _ ts K ⟨k, hk, rfl, eK, m2, m5, hlen, t0, t2, t5, t16⟩
  have hsK := hs.ext eK
  by_cases hlt : k < 4
  case neg =>
    have e3 : decide ((k : Int) < 4) = false := decide_eq_false (by omega)
    have e4 : k = 4 := by omega
    rw [e4] at m5
    have hL := rsL_len t (Nat.le_refl 4)
    have hO := rsL_one t 4
    have l5 : loadF (some 4) (.ptr B0.length 0) (fun z => K[z]?) = some (.agg (rsL t 4), .keep) := by
      rw [loadF_at m5]
      show (if 0 + 4 ≤ (rsL t 4).length then some (AV.agg (((rsL t 4).drop 0).take 4), Eff.keep) else none) = _
      rw [if_pos (by omega), List.drop_zero, List.take_of_length_le (by omega)]
    have s2 : storeF 4 (.ptr h.length 0) (.agg (rsL t 4)) (fun z => K[z]?) = some (undefA, .set h.length (.cells (rsL t 4) true false)) := by
      rw [storeF_at m2]; exact st4 hL hO
    have l2 : loadF (some 4) (.ptr h.length 0) (fun z => (K.set h.length (.cells (rsL t 4) true false))[z]?) = some (.agg (rsL t 4), .keep) := by
      rw [loadF_at (set_eq' m2)]
      show (if 0 + 4 ≤ (rsL t 4).length then some (AV.agg (((rsL t 4).drop 0).take 4), Eff.keep) else none) = _
      rw [if_pos (by omega), List.drop_zero, List.take_of_length_le (by omega)]
    refine Rs (A8 @t0 @t2 @t5 @t16 @e3 @l5 @s2 @l2) ?_;(first | (exact True.intro;trace "CLOSED 3") | skip)
    exact ⟨ext_setG eK (Nat.le_refl _), by rw [hz]⟩
  have e3 : decide ((k : Int) < 4) = true := decide_eq_true (by omega)
  have e5 := wrapN (n := k) (by omega)
  refine Rs (A6 @t0 @t2 @t5 @t16 @e3 hsK.lenm) ?_;(first | (exact True.intro;trace "CLOSED 4") | skip)
  have hkb : k ≤ 3 := by omega
  have n7 : B0.length < K.length := (List.getElem?_eq_some_iff.1 m5).1
  refine WL.inv T.mix (fun m ts' K' => ∃ j : Nat, j ≤ t.length ∧ m = t.length - j ∧ Ext K K' ∧ K'[K.length]? = some (.cells (ratR (rsS t k j)) true false) ∧ ts'.length = 47 ∧ slot ts' 0 = s ∧ slot ts' 2 = .ptr h.length 0 ∧ slot ts' 5 = .ptr B0.length 0 ∧ slot ts' 6 = .int .i64 k ∧ slot ts' 7 = .ptr K.length 0 ∧ slot ts' 16 = .int .i64 k ∧ slot ts' 19 = s ∧ slot ts' 20 = .int .i64 t.length ∧ slot ts' 21 = .int .i64 j) t.length
    ⟨0, by omega, rfl, ⟨_, rfl⟩, by simp [rsS, ratR], Sn, (Sq @t0), (Sq @t2), (Sq @t5), Sw, Sw, (Sq @t16), Sw, Sw, Swr⟩ ?_
  clear hlen t0 t2 t5 t16
  rintro _ ts' K' ⟨j, hj, rfl, eKK, m7, hlen, t0, t2, t5, t6, t7, t16, t19, t20, t21⟩
  have hsK' := hsK.ext eKK
  have l7 := @ldx _ _ _ m7
  by_cases hjt : j < t.length
  case neg =>
    have ej : j = t.length := by omega
    subst ej
    have e6 : decide ((t.length : Int) < (t.length : Int)) = false := decide_eq_false (by omega)
    have c0 : ∀ {n : Int} {G : Nat → Option ABlk} {N : Nat}, convT (.i2f .f64) (.int .i64 n) G N = some (.flt .f64 (FloatKind.f64.nearest n), .keep) := fun {_ _ _} => rfl
    have r0 : ∀ {z : Int × Int}, ldB none 0 (.cells (ratR z) true false) = some (.int .i64 z.1, .keep) := fun {z} => rfl
    have r1 : ∀ {z : Int × Int}, ldB none 1 (.cells (ratR z) true false) = some (.int .i64 z.2, .keep) := fun {z} => rfl
    have m5' := eKK.some m5
    have ia : iadaF 4 1 (.ptr B0.length 0) (.int .i64 (k : Int)) = some (.ptr B0.length k) := by
      unfold iadaF
      simp
      omega
    have s5 : storeF 1 (.ptr B0.length k) (rsC t k) (fun z => K'[z]?) = some (undefA, .set B0.length (.cells (rsL t (k + 1)) true false)) := by
      rw [storeF_at m5', stB_one rfl (by rw [rsL_len t hk]; omega), rsL_set t hlt]
    unfold rsC at s5
    refine Rs (A14 @t0 @t2 @t5 @t6 @t7 @t16 @t19 @t20 @t21 @e6 @l7 @r0 @r1 @c0) ?_;(first | (exact True.intro;trace "CLOSED 5") | skip)
    rw [WP_cpx (k := .f64) (a := FloatKind.f64.nearest (rsS t k t.length).1) (b := FloatKind.f64.nearest (rsS t k t.length).2) Sw Sw]
    refine Rs (A9 @t0 @t2 @t5 @t6 @t7 @t16 @ia @s5 @e5) ?_;(first | (exact True.intro;trace "CLOSED 6") | skip)
    exact ⟨4 - (k + 1), by omega, k + 1, by omega, rfl, ext_setG (eK.trans eKK) (by omega), set_ne' (by omega) (eKK.some m2), set_eq' m5', rfl⟩
  have e6 : decide ((j : Int) < (t.length : Int)) = true := decide_eq_true (by omega)
  have f5 := wrapN (n := j) (by omega)
  have ij := hsK'.ixm (kk := .i64) hjt
  have ax := atZ_at hjt
  have bx := ht.r t[j] (List.getElem_mem _)
  obtain ⟨x, hx⟩ : ∃ x, x = t[j] := ⟨_, rfl⟩
  have ld : ∀ {kk : AHeap}, Ext K' kk → loadF none (elp s 1 j) (fun b => kk[b]?) = some (.int .i64 x, .keep) := fun {kk} e => by rw [hx]; exact hsK'.l1m hjt rfl e
  rw [← hx] at ax bx
  have hjk : 3 * j * k ≤ 3 * 8 * 3 := Nat.mul_le_mul (Nat.mul_le_mul (Nat.le_refl _) (by omega)) hkb
  have w1 : IntKind.i64.wrap (3 * (j : Int)) = ((3 * j : Nat) : Int) := by rw [wrap_in (by omega) (by omega)]; omega
  have w2 : IntKind.i64.wrap (((3 * j : Nat) : Int) * (k : Int)) = ((3 * j * k : Nat) : Int) := by
    rw [show ((3 * j : Nat) : Int) * (k : Int) = ((3 * j * k : Nat) : Int) by rw [Int.natCast_mul (3 * j) k], wrap_in (by omega) (by omega)]
  refine Rs (A16 @t0 @t2 @t5 @t6 @t7 @t16 @t19 @t20 @t21 @e6 @ij @ld @l7 @td_a @w1 @w2) ?_;(first | (exact True.intro;trace "CLOSED 7") | skip)
  refine WF.ce T.c111 (r111 T (p.ext (eK.trans eKK)) (a := (x, 0)) (n := 3 * j * k) ⟨⟨by show _ ≤ x; omega, by show x ≤ _; omega⟩, by show (-2 ^ 40 : Int) ≤ 0; decide, by show (0 : Int) ≤ 2 ^ 40; decide⟩ (by omega)) fun g2 => ?_
  refine Rs (A9 @t0 @t2 @t5 @t6 @t7 @t16 @t19 @t20 @t21) ?_;(first | (exact True.intro;trace "CLOSED 8") | skip)
  obtain ⟨⟨c1, c2⟩, c3, c4⟩ := rsS_bd ht.r k j
  obtain ⟨⟨d1, d2⟩, d3, d4⟩ := powN_bd (3 * j * k)
  have q1 := mul_bd (Y := 1) bx ⟨d1, d2⟩
  have q2 := mul_bd (Y := 1) bx ⟨d3, d4⟩
  refine WF.ce T.c110 (r110 T (a := rsS t k j) (b := tmI (x, 0) (powN (3 * j * k))) ⟨⟨by omega, by omega⟩, by omega, by omega⟩ (by unfold bdI tmI; simp only [Int.zero_mul, Int.sub_zero, Int.add_zero]; omega)) fun g3 => ?_
  have eG : Ext K' (K' ++ g2 ++ g3) := Ext.trans ⟨g2, rfl⟩ ⟨g3, rfl⟩
  obtain ⟨Y, hY⟩ : ∃ Y, Y = K' ++ g2 ++ g3 := ⟨_, rfl⟩
  rw [← hY] at eG ⊢
  have m7' := eG.some m7
  have s3 := @box_s Y K.length _ _ m7' (rsS t k (j + 1)).1 (rsS t k (j + 1)).2
  have hp : plI (rsS t k j) (tmI (x, 0) (powN (3 * j * k))) = rsS t k (j + 1) := by rw [rsS, ax]
  rw [hp, show ratR (rsS t k (j + 1)) = [.int .i64 (rsS t k (j + 1)).1, .int .i64 (rsS t k (j + 1)).2] from rfl]
  refine Rs (A11 @t0 @t2 @t5 @t6 @t7 @t16 @t19 @t20 @t21 @s3 @f5) ?_;(first | (exact True.intro;trace "CLOSED 9") | skip)
  exact ⟨t.length - (j + 1), by omega, j + 1, by omega, rfl, ext_setG (eKK.trans eG) (Nat.le_refl _), set_eq' m7', rfl⟩
end
end Go.Abs
namespace Go.Abs

end Go.Abs
namespace Go.Abs
theorem st_R {z : Int × Int} {b : Nat} {a0 a1 : AV} : stB 2 0 (.agg (ratR z)) b (.cells [a0, a1] true false) = some (undefA, .set b (.cells (ratR z) true false)) := rat_st
theorem cp_eq {a b : Nat} {u v : Int} (ha : Num .f64 a u) (hb : Num .f64 b v) : eqQ .c (.cplx .f64 a b) (.cplx .f64 a b) = some true := by
  simp only [eqQ, if_true, num_ord ha ha, num_ord hb hb, cmp_eq, decide_true, Bool.and_true]
theorem cells_eq4 {L : List AV} (hl : L.length = 4) (h : ∀ x ∈ L, eqQ .c x x = some true) : eqvF false (eqvK (.agg [.c, .c, .c, .c]) (.agg L) (.agg L)) = some (.bool true) := by
  obtain ⟨x0, x1, x2, x3, rfl⟩ : ∃ x0 x1 x2 x3, L = [x0, x1, x2, x3] := by
    match L, hl with
    | [x0, x1, x2, x3], _ => exact ⟨x0, x1, x2, x3, rfl⟩
  rw [eqA rfl rfl]
  simp only [eqCells, h x0 (by simp), h x1 (by simp), h x2 (by simp), h x3 (by simp)]
  rfl
theorem rsL_eq {t : List Int} (ht : TpOk t) (k : Nat) (hk : k ≤ 4) : eqvF false (eqvK (.agg [.c, .c, .c, .c]) (.agg (rsL t k)) (.agg (rsL t k))) = some (.bool true) := by
  refine cells_eq4 (rsL_len t hk) fun x hx => ?_
  rcases List.mem_append.1 hx with h | h
  · obtain ⟨f, _, rfl⟩ := List.mem_map.1 h
    obtain ⟨⟨c1, c2⟩, c3, c4⟩ := rsS_bd ht.r f t.length
    have := ht.l2
    exact cp_eq (num_int (n := (rsS t f t.length).1) (by show _ < 2 ^ 53; omega)) (num_int (n := (rsS t f t.length).2) (by show _ < 2 ^ 53; omega))
  · rw [(List.mem_replicate.1 h).2]; exact cp_eq num_zero num_zero
theorem z4_eq : eqvF false (eqvK (.agg [.c, .c, .c, .c]) (.agg z4) (.agg z4)) = some (.bool true) := cells_eq4 rfl fun x hx => by
  have : x = .cplx .f64 0 0 := by simpa [z4] using hx
  rw [this]; exact cp_eq num_zero num_zero
def taC : ICode := match (fn3).body with
  | .seq _ (.seq _ (.seq _ (.seq _ (.seq _ (.seq _ (.seq _ (.seq _ (.seq _ (.seq _ (.seq _ c)))))))))) => c
  | c => c
def taD : ICode := match taC with
  | .seq _ c => c
  | c => c
def taE : ICode := match taD with
  | .seq _ c => c
  | c => c
structure Ta (ts : TS) (s0 s1 v5 v7 v9 v16 v17 v18 : AV) (e6 e8 e10 e12 e13 e14 e15 : Int) (b11 b19 : Nat) : Prop where
  t0 : slot ts 0 = s0
  t1 : slot ts 1 = s1
  t5 : slot ts 5 = v5
  t6 : slot ts 6 = .int .i64 e6
  t7 : slot ts 7 = v7
  t8 : slot ts 8 = .int .i64 e8
  t9 : slot ts 9 = v9
  t10 : slot ts 10 = .int .i64 e10
  t11 : slot ts 11 = .ptr b11 0
  t12 : slot ts 12 = .int .i64 e12
  t13 : slot ts 13 = .int .i64 e13
  t14 : slot ts 14 = .int .i64 e14
  t15 : slot ts 15 = .int .i64 e15
  t16 : slot ts 16 = v16
  t17 : slot ts 17 = v17
  t18 : slot ts 18 = v18
  t19 : slot ts 19 = .ptr b19 0
set_option maxRecDepth 10000
attribute [local irreducible] WP WC WE WB WR WF WL WG WRg WQ
section
variable {P : Program} (T : Tbl P) {h Y : AHeap} {ts : TS} {s0 s1 v5 v7 v9 v16 v17 v18 : AV} {e6 e8 e10 e12 e13 e14 e15 : Int} {b11 b19 : Nat} {t wa wu wd : List Int} {R : List AV}
include T
set_option maxHeartbeats 2000000 in
theorem ta_fin (hlen : ts.length = 144) (a : Ta ts s0 s1 v5 v7 v9 v16 v17 v18 e6 e8 e10 e12 e13 e14 e15 b11 b19) (h0 : IsSl Y s0 1 (t.map intRow)) (htl : t.length < 2 ^ 40)
    (e0 : Ext h Y) (m11 : Y[b11]? = some (.cells R true false)) (m19 : Y[b19]? = some (.cells R true false)) (hR4 : R.length = 4) (hR : eqvF false (eqvK (.agg [.c, .c, .c, .c]) (.agg R) (.agg R)) = some (.bool true))
    (q12 : e12 = chkTp t) (q13 : e13 = chkTp t) (ha : HeardS Y e14 wa v5 e6) (hu : HeardS Y e15 wu v7 e8) (hd : HeardS Y e14 wd v9 e10)
    (xa : e14 = 0 → IsSl Y v16 1 (wa.map intRow)) (xu : e15 = 0 → IsSl Y v17 1 (wu.map intRow)) (xd : e14 = 0 → IsSl Y v18 1 (wd.map intRow)) (la : wa.length < 2 ^ 40) (lu : wu.length < 2 ^ 40) (ld : wd.length < 2 ^ 40) :
    WC P inFn taE [] ts Y (FQ [(4, none)] fun v k => Ext h k ∧ v = .bool true) := by
  obtain ⟨t0, t1, t5, t6, t7, t8, t9, t10, t11, t12, t13, t14, t15, t16, t17, t18, t19⟩ := a
  subst q12 q13
  unfold taE taD taC fn3
  dsimp only
  refine Rs @t0 ?_;(first | (exact True.intro;trace "CLOSED 0") | skip)
  refine WF.res T.c21 (r21 T h0 htl) ?_
  intro a1 g1 is1
  refine Rs @t0 ?_;(first | (exact True.intro;trace "CLOSED 1") | skip)
  refine WF.ce T.c34 (r34 T is1 htl) fun g2 => ?_
  refine Rs (A6 @t13 @decide_true @t5 @t6 @t14 @t16) ?_;(first | (exact True.intro;trace "CLOSED 2") | skip)
  refine WF.ce T.c35 (r35 T (ha.ext Xx) (fun z => (xa z).ext Xx) la) fun g3 => ?_
  refine Rs (A4 @t7 @t8 @t15 @t17) ?_;(first | (exact True.intro;trace "CLOSED 3") | skip)
  refine WF.ce T.c35 (r35 T (hu.ext Xx) (fun z => (xu z).ext Xx) lu) fun g4 => ?_
  refine Rs (A4 @t9 @t10 @t14 @t18) ?_;(first | (exact True.intro;trace "CLOSED 4") | skip)
  refine WF.ce T.c35 (r35 T (hd.ext Xx) (fun z => (xd z).ext Xx) ld) fun g5 => ?_
  have l4 : ∀ {b : Nat} {k : AHeap}, Y[b]? = some (.cells R true false) → Ext Y k → loadF (some 4) (.ptr b 0) (fun z => k[z]?) = some (.agg R, .keep) := fun {b k} m e => by
    rw [loadF_at (e.some m)]
    show (if 0 + 4 ≤ R.length then some (AV.agg ((R.drop 0).take 4), Eff.keep) else none) = _
    rw [if_pos (by omega), List.drop_zero, List.take_of_length_le (by omega)]
  have l11 := fun {k} => @l4 b11 k m11
  have l19 := fun {k} => @l4 b19 k m19
  refine Rs (A8 @t11 @t19 @l11 @l19 @hR @t12 @t13 @decide_true) ?_;(first | (exact True.intro;trace "CLOSED 5") | skip)
  exact ⟨e0.trans Xx, trivial⟩
set_option maxHeartbeats 4000000 in
theorem ta_mid {W : AHeap} (hlen : ts.length = 144) (a : Ta ts s0 s1 v5 v7 v9 v16 v17 v18 e6 e8 e10 e12 e13 e14 e15 b11 b19) (h0 : IsSl W s0 1 (t.map intRow)) (htl : t.length < 2 ^ 40)
    (e0 : Ext h W) (eW : Ext W Y) (n19 : W.length ≤ b19) (m11 : W[b11]? = some (.cells (if chkTp t = 0 then rsL t 4 else rsL t 0) true false)) (m19 : Y[b19]? = some (.cells (rsL t 0) true false))
    (q12 : e12 = chkTp t) (q13 : e13 = chkTp t) (ha : HeardS W e14 wa v5 e6) (hu : HeardS W e15 wu v7 e8) (hd : HeardS W e14 wd v9 e10)
    (xa : e14 = 0 → Fr (b19 + 1) Y v16 1 (wa.map intRow)) (xu : e15 = 0 → Fr (b19 + 1) Y v17 1 (wu.map intRow)) (xd : e14 = 0 → Fr (b19 + 1) Y v18 1 (wd.map intRow)) (la : wa.length < 2 ^ 40) (lu : wu.length < 2 ^ 40) (ld : wd.length < 2 ^ 40) :
    WC P inFn taD [] ts Y (FQ [(4, none)] fun v k => Ext h k ∧ v = .bool true) := by
  show WC P inFn (.seq _ taE) _ _ _ _
  by_cases hz : chkTp t = 0
  case neg =>
    have d1 : decide (e13 = 0) = false := by rw [q13]; exact decide_eq_false hz
    rw [if_neg hz] at m11
    have t13 := a.t13
    refine Rs (A2 @t13 @d1) ?_;(first | (exact True.intro;trace "CLOSED 6") | skip)
    refine ta_fin T (s1 := s1) Sn ⟨(Sq a.t0), (Sq a.t1), (Sq a.t5), (Sq a.t6), (Sq a.t7), (Sq a.t8), (Sq a.t9), (Sq a.t10), (Sq a.t11), (Sq a.t12), (Sq a.t13), (Sq a.t14), (Sq a.t15), (Sq a.t16), (Sq a.t17), (Sq a.t18), (Sq a.t19)⟩ (h0.ext eW) htl (e0.trans eW) (eW.some m11) m19 rfl z4_eq q12 q13 (ha.ext eW) (hu.ext eW) (hd.ext eW) (fun z => (xa z).isSl) (fun z => (xu z).isSl) (fun z => (xd z).isSl) la lu ld
  have ht := chkTp_z hz
  have d1 : decide (e13 = 0) = true := by rw [q13]; exact decide_eq_true hz
  rw [if_pos hz] at m11
  have t13 := a.t13
  refine Rs (A2 @t13 @d1) ?_;(first | (exact True.intro;trace "CLOSED 7") | skip)
  refine WL.inv T.mix (fun m ts K => ∃ k : Nat, k ≤ 4 ∧ m = 4 - k ∧ Ext W K ∧ (e14 = 0 → Fr (b19 + 1) K v16 1 (wa.map intRow)) ∧ (e15 = 0 → Fr (b19 + 1) K v17 1 (wu.map intRow)) ∧ (e14 = 0 → Fr (b19 + 1) K v18 1 (wd.map intRow)) ∧ K[b19]? = some (.cells (rsL t k) true false) ∧ ts.length = 144 ∧ Ta ts s0 s1 v5 v7 v9 v16 v17 v18 e6 e8 e10 e12 e13 e14 e15 b11 b19 ∧ slot ts 92 = .int .i64 k) 4
    ⟨0, by omega, rfl, eW, xa, xu, xd, m19, Sn, ⟨(Sq a.t0), (Sq a.t1), (Sq a.t5), (Sq a.t6), (Sq a.t7), (Sq a.t8), (Sq a.t9), (Sq a.t10), (Sq a.t11), (Sq a.t12), (Sq a.t13), (Sq a.t14), (Sq a.t15), (Sq a.t16), (Sq a.t17), (Sq a.t18), (Sq a.t19)⟩, Swr⟩ ?_
  clear hlen a xa xu xd m19 t13
  rintro _ ts K ⟨k, hk, rfl, eK, xa, xu, xd, m19, hlen, a, t92⟩
  by_cases hlt : k < 4
  case neg =>
    have e3 : decide ((k : Int) < 4) = false := decide_eq_false (by omega)
    have e4 : k = 4 := by omega
    rw [e4] at m19
    refine Rs (A2 @t92 @e3) ?_;(first | (exact True.intro;trace "CLOSED 8") | skip)
    refine ta_fin T (s1 := s1) Sn ⟨(Sq a.t0), (Sq a.t1), (Sq a.t5), (Sq a.t6), (Sq a.t7), (Sq a.t8), (Sq a.t9), (Sq a.t10), (Sq a.t11), (Sq a.t12), (Sq a.t13), (Sq a.t14), (Sq a.t15), (Sq a.t16), (Sq a.t17), (Sq a.t18), (Sq a.t19)⟩ (h0.ext eK) htl (e0.trans eK) (eK.some m11) m19 (rsL_len t (by omega)) (rsL_eq ht 4 (by omega)) q12 q13 (ha.ext eK) (hu.ext eK) (hd.ext eK) (fun z => (xa z).isSl) (fun z => (xu z).isSl) (fun z => (xd z).isSl) la lu ld
  have e3 : decide ((k : Int) < 4) = true := decide_eq_true (by omega)
  have e5 := wrapN (n := k) (by omega)
  have t0 := a.t0
  have t19 := a.t19
  refine Rs (A3 @t92 @e3 @t0) ?_;(first | (exact True.intro;trace "CLOSED 9") | skip)
  refine WF.ce T.c33 (r33 T (h0.ext eK) ht (f := k) (by omega)) fun g1 => ?_
  have stR := @st_R
  have c0 : ∀ {n : Int} {G : Nat → Option ABlk} {N : Nat}, convT (.i2f .f64) (.int .i64 n) G N = some (.flt .f64 (FloatKind.f64.nearest n), .keep) := fun {_ _ _} => rfl
  have r0 : ∀ {z : Int × Int}, ldB none 0 (.cells (ratR z) true false) = some (.int .i64 z.1, .keep) := fun {z} => rfl
  have r1 : ∀ {z : Int × Int}, ldB none 1 (.cells (ratR z) true false) = some (.int .i64 z.2, .keep) := fun {z} => rfl
  have ia : iadaF 4 1 (.ptr b19 0) (.int .i64 (k : Int)) = some (.ptr b19 k) := by
    unfold iadaF
    simp
    omega
  refine Rs (A6 @t0 @t92 @stR @r0 @r1 @c0) ?_;(first | (exact True.intro;trace "CLOSED 10") | skip)
  obtain ⟨Z, hZ⟩ : ∃ Z, Z = K ++ g1 ++ [ABlk.cells (ratR (rsS t k t.length)) true false] := ⟨_, rfl⟩
  have eZ : Ext K Z := by rw [hZ]; exact Xx
  have fZ : ∀ {N : Nat} {v : AV} {c : List (List AV)}, Fr N K v 1 c → Fr N Z v 1 c := fun x => by rw [hZ]; exact (x.app _).app _
  rw [← hZ]
  clear hZ
  have m19' := eZ.some m19
  have s5 : storeF 1 (.ptr b19 k) (rsC t k) (fun z => Z[z]?) = some (undefA, .set b19 (.cells (rsL t (k + 1)) true false)) := by
    rw [storeF_at m19', stB_one rfl (by rw [rsL_len t hk]; omega), rsL_set t hlt]
  unfold rsC at s5
  rw [WP_cpx (k := .f64) (a := FloatKind.f64.nearest (rsS t k t.length).1) (b := FloatKind.f64.nearest (rsS t k t.length).2) Sw Sw]
  refine Rs (A5 @t19 @ia @s5 @t92 @e5) ?_;(first | (exact True.intro;trace "CLOSED 11") | skip)
  exact ⟨4 - (k + 1), by omega, k + 1, by omega, rfl, ext_setG (eK.trans eZ) n19, fun z => (fZ (xa z)).setb (by omega), fun z => (fZ (xu z)).setb (by omega), fun z => (fZ (xd z)).setb (by omega), set_eq' m19', ⟨(Sq a.t0), (Sq a.t1), (Sq a.t5), (Sq a.t6), (Sq a.t7), (Sq a.t8), (Sq a.t9), (Sq a.t10), (Sq a.t11), (Sq a.t12), (Sq a.t13), (Sq a.t14), (Sq a.t15), (Sq a.t16), (Sq a.t17), (Sq a.t18), (Sq a.t19)⟩, rfl⟩
omit T in
theorem heard_one {k : AHeap} {bad : Int} {want : List Int} {u : AV} {e : Int} (x : HeardS k bad want u e) : u.one = true := by
  unfold HeardS at x
  split at x
  · rw [x.1]; rfl
  · unfold ToldS at x
    split at x
    · exact x.1.one
    · rw [x.1]; rfl
omit T in
theorem undh_one {k : AHeap} {bad : Int} {t A : List Int} {u : AV} {e : Int} (x : UndoH k bad t A u e) : u.one = true := by
  unfold UndoH at x
  split at x
  · rw [x.1]; rfl
  split at x
  · unfold ToldS at x
    split at x
    · exact x.1.one
    · rw [x.1]; rfl
  · rw [x.1]; rfl
omit T in
theorem undr_one {N : Nat} {k : AHeap} {t A : List Int} {u : AV} {e : Int} (x : UndoR N k t A u e) : u.one = true := by
  unfold UndoR at x
  split at x
  · split at x
    · exact x.1.isSl.one
    · rw [x.1]; rfl
  · rw [x.1]; rfl
set_option maxHeartbeats 8000000 in
theorem r3 (X : Xfl P) (ha : ∀ k, Ext h k → RCall P 17 [] k (fun v _ => v = .bool true)) (pw : Pwr h) {s0 s : AV} {t : List Int} {l : List Nat} (h0 : IsSl h s0 1 (t.map intRow)) (hs : IsSl h s 1 (l.map fltR)) : RCall P 3 [s0, s] h (fun v _ => v = .bool true) := by
  refine .st2 144 T.mix T.c3 ?_;intro ts hlen t0 t1;unfold fn3
  show WC P inFn (.seq _ (.seq _ (.seq _ (.seq _ (.seq _ (.seq _ (.seq _ (.seq _ (.seq _ (.seq _ (.seq _ taC))))))))))) _ _ _ _
  refine Rs (A2 @t0 @t1) ?_;(first | (exact True.intro;trace "CLOSED 12") | skip)
  refine WF.ce T.c17 (ha _ Xx) fun g1 => ?_
  by_cases hst : (t.length : Int) ≤ 9
  case neg =>
    have d1 : decide ((t.length : Int) ≤ 9) = false := decide_eq_false hst
    refine Rs (A3 @t0 @t1 @Bool.not_true) ?_;(first | (exact True.intro;trace "CLOSED 13") | skip)
    refine WF.ce T.c18 (r18 T (h0.ext Xx)) fun g2 => ?_
    refine Rs (A4 @t0 @t1 @d1 @Bool.not_false) ?_;(first | (exact True.intro;trace "CLOSED 14") | skip)
    refine WF.ce T.c17 (ha _ Xx) fun g3 => ?_
    refine Rs (A2 @t0 @t1) ?_;(first | (exact True.intro;trace "CLOSED 15") | skip)
  have d1 : decide ((t.length : Int) ≤ 9) = true := decide_eq_true hst
  have htl : t.length < 2 ^ 40 := by omega
  refine Rs (A3 @t0 @t1 @Bool.not_true) ?_;(first | (exact True.intro;trace "CLOSED 16") | skip)
  refine WF.ce T.c18 (r18 T (h0.ext Xx)) fun g2 => ?_
  refine Rs (A4 @t0 @t1 @d1 @Bool.not_true) ?_;(first | (exact True.intro;trace "CLOSED 17") | skip)
  refine WF.ce T.c19 (r19 T (hs.ext Xx)) fun g3 => ?_
  by_cases hsh : (decide (l.length ≤ 32) || decide (l.length = 1025)) = true
  case neg =>
    have hsf : (decide (l.length ≤ 32) || decide (l.length = 1025)) = false := by simpa using hsh
    refine Rs (A4 @t0 @t1 @hsf @Bool.not_false) ?_;(first | (exact True.intro;trace "CLOSED 18") | skip)
    refine WF.ce T.c17 (ha _ Xx) fun g3 => ?_
    refine Rs (A2 @t0 @t1) ?_;(first | (exact True.intro;trace "CLOSED 19") | skip)
  have hl : l.length < 2 ^ 40 := by
    have : l.length ≤ 32 ∨ l.length = 1025 := by simpa using hsh
    omega
  refine Rs (A4 @t0 @t1 @hsh @Bool.not_true) ?_;(first | (exact True.intro;trace "CLOSED 20") | skip)
  obtain ⟨X0, hX0⟩ : ∃ X0, X0 = h ++ g1 ++ g2 ++ g3 := ⟨_, rfl⟩
  have e0 : Ext h X0 := by rw [hX0]; exact Xx
  rw [← hX0]
  clear hX0
  have hT := h0.ext e0
  have hS := hs.ext e0
  refine WF.res T.c21 (r21 T (hT.ext Xx) htl) ?_
  intro a1 g4 is1
  refine Rs (A2 @t0 @t1) ?_;(first | (exact True.intro;trace "CLOSED 21") | skip)
  refine WF.res T.c22 (r22 T (hS.ext Xx) hl) ?_
  intro a2 g5 is2
  refine Rs (A2 @t0 @t1) ?_;(first | (exact True.intro;trace "CLOSED 22") | skip)
  refine WF.res T.c20 (r20 T (is1.ext Xx) is2 htl hl) ?_
  rintro _ g6 ⟨v5, e6, rfl, hA⟩
  have o5 := heard_one hA
  refine Rs (A3 @t0 @t1 @o5) ?_;(first | (exact True.intro;trace "CLOSED 23") | skip)
  refine WF.res T.c21 (r21 T (hT.ext Xx) htl) ?_
  intro a3 g7 is3
  refine Rs (A3 @t0 @t1 @o5) ?_;(first | (exact True.intro;trace "CLOSED 24") | skip)
  refine WF.res T.c22 (r22 T (hS.ext Xx) hl) ?_
  intro a4 g8 is4
  refine Rs (A3 @t0 @t1 @o5) ?_;(first | (exact True.intro;trace "CLOSED 25") | skip)
  refine WF.res T.c23 (r23 T (is3.ext Xx) is4 htl hl) ?_
  rintro _ g9 ⟨v7, e8, rfl, hU⟩
  have o7 := undh_one hU
  refine Rs (A4 @t0 @t1 @o5 @o7) ?_;(first | (exact True.intro;trace "CLOSED 26") | skip)
  refine WF.res T.c21 (r21 T (hT.ext Xx) htl) ?_
  intro a5 g10 is5
  refine Rs (A4 @t0 @t1 @o5 @o7) ?_;(first | (exact True.intro;trace "CLOSED 27") | skip)
  refine WF.res T.c22 (r22 T (hS.ext Xx) hl) ?_
  intro a6 g11 is6
  refine Rs (A4 @t0 @t1 @o5 @o7) ?_;(first | (exact True.intro;trace "CLOSED 28") | skip)
  refine WF.res T.c24 (r24 T (is5.ext Xx) is6 htl hl) ?_
  rintro _ g12 ⟨v9, e10, rfl, hD⟩
  have o9 := heard_one hD
  refine Rs (A5 @t0 @t1 @o5 @o7 @o9) ?_;(first | (exact True.intro;trace "CLOSED 29") | skip)
  refine WF.res T.c21 (r21 T (hT.ext Xx) htl) ?_
  intro a7 g13 is7
  refine Rs (A5 @t0 @t1 @o5 @o7 @o9) ?_;(first | (exact True.intro;trace "CLOSED 30") | skip)
  refine WF.ce T.c25 (r25 T (pw.ext (e0.trans Xx)) is7 htl) fun g14 => ?_
  obtain ⟨X1, hX1⟩ : ∃ X1, X1 = X0 ++ g4 ++ g5 ++ g6 ++ g7 ++ g8 ++ g9 ++ g10 ++ g11 ++ g12 ++ g13 ++ g14 := ⟨_, rfl⟩
  have e1 : Ext X0 X1 := by rw [hX1]; exact Xx
  have hA : HeardS X1 (chkB t l) (apL t (l.map gridN) (-1)) v5 e6 := by rw [hX1]; exact hA.ext Xx
  have hU : UndoH X1 (chkB t l) t (l.map gridN) v7 e8 := by rw [hX1]; exact hU.ext Xx
  have hD : HeardS X1 (chkB t l) (apL t (l.map gridN) 1) v9 e10 := by rw [hX1]; exact hD.ext Xx
  rw [← hX1]
  clear hX1 is1 is2 is3 is4 is5 is6 is7
  have hT := hT.ext e1
  have hS := hS.ext e1
  obtain ⟨R, hR⟩ : ∃ R, R = (if chkTp t = 0 then rsL t 4 else rsL t 0) := ⟨_, rfl⟩
  have hR4 : R.length = 4 := by rw [hR]; split <;> exact rsL_len t (by omega)
  have hRo : R.all AV.one = true := by rw [hR]; split <;> exact rsL_one t _
  rw [← hR]
  have s11 := fun {b : Nat} => @st4 R hR4 hRo b (.cplx .f64 0 0) (.cplx .f64 0 0) (.cplx .f64 0 0) (.cplx .f64 0 0)
  have bz : ∀ {N : Nat}, boxF (.agg [.cplx .f64 0 0, .cplx .f64 0 0, .cplx .f64 0 0, .cplx .f64 0 0]) N = some (.ptr N 0, .push (.cells [.cplx .f64 0 0, .cplx .f64 0 0, .cplx .f64 0 0, .cplx .f64 0 0] true false)) := fun {N} => rfl
  refine Rs (A7 @t0 @t1 @o5 @o7 @o9 @bz @s11) ?_;(first | (exact True.intro;trace "CLOSED 31") | skip)
  refine WF.ce T.c26 (r26 T (hT.ext Xx) htl) fun g15 => ?_
  refine Rs (A5 @t0 @t1 @o5 @o7 @o9) ?_;(first | (exact True.intro;trace "CLOSED 32") | skip)
  refine WF.ce T.c28 (r28 T X (hS.ext Xx) hl) fun g16 => ?_
  refine Rs (A5 @t0 @t1 @o5 @o7 @o9) ?_;(first | (exact True.intro;trace "CLOSED 33") | skip)
  refine WF.ce T.c27 (r27 T (isSl_ints [_, _]) (by simp)) fun g17 => ?_
  have hE : firstS [chkTp t, chkL l] = chkB t l := rfl
  rw [hE]
  obtain ⟨W, hW⟩ : ∃ W, W = X1 ++ [ABlk.cells R true false] ++ g15 ++ g16 ++ [ABlk.cells [AV.int IntKind.i64 (chkTp t), AV.int IntKind.i64 (chkL l)] true true] ++ g17 := ⟨_, rfl⟩
  have eW : Ext (X1 ++ [ABlk.cells R true false]) W := by rw [hW]; exact Xx
  rw [← hW]
  clear hW
  have m11 : W[X1.length]? = some (.cells R true false) := eW.some at_new
  have eW1 : Ext X1 W := Ext.trans ⟨_, rfl⟩ eW
  have hA := hA.ext eW1
  have hU := hU.ext eW1
  have hD := hD.ext eW1
  have hT := hT.ext eW1
  have hS := hS.ext eW1
  have ehW : Ext h W := e0.trans (e1.trans eW1)
  refine Rs (A6 @t0 @t1 @o5 @o7 @o9 @bz) ?_;(first | (exact True.intro;trace "CLOSED 34") | skip)
  obtain ⟨Y, hY⟩ : ∃ Y, Y = W ++ [ABlk.cells [AV.cplx FloatKind.f64 0 0, AV.cplx FloatKind.f64 0 0, AV.cplx FloatKind.f64 0 0, AV.cplx FloatKind.f64 0 0] true false] := ⟨_, rfl⟩
  have eY : Ext W Y := by rw [hY]; exact Xx
  have lY : Y.length = W.length + 1 := by rw [hY]; simp
  have m19 : Y[W.length]? = some (.cells (rsL t 0) true false) := by rw [hY]; exact at_new
  rw [← hY]
  clear hY
  have la1 : (apL t (l.map gridN) (-1)).length < 2 ^ 40 := by rw [apL_len, List.length_map]; exact hl
  have la2 : (apL t (l.map gridN) 1).length < 2 ^ 40 := by rw [apL_len, List.length_map]; exact hl
  by_cases hz : chkB t l = 0
  case neg =>
    have d2 : decide (chkB t l = 0) = false := decide_eq_false hz
    have hU2 : HeardS W (chkB t l) ([] : List Int) v7 e8 := by
      unfold UndoH at hU
      rw [if_pos hz] at hU
      unfold HeardS
      rw [if_pos hz]; exact hU
    show WC P inFn (.seq _ taD) _ _ _ _
    refine Rs (A6 @t0 @t1 @o5 @o7 @o9 @d2) ?_;(first | (exact True.intro;trace "CLOSED 35") | skip)
    exact ta_mid T (W := W) (s0 := s0) (s1 := s) (v5 := v5) (v7 := v7) (v9 := v9) (v16 := .nilSlice) (v17 := .nilSlice) (v18 := .nilSlice) (e6 := e6) (e8 := e8) (e10 := e10) (e12 := chkTp t) (e13 := chkTp t) (e14 := chkB t l) (e15 := chkB t l) (b11 := X1.length) (b19 := W.length) (t := t) (wa := apL t (l.map gridN) (-1)) (wu := []) (wd := apL t (l.map gridN) 1) Sn ⟨(Sq @t0), (Sq @t1), Sw, Sw, Sw, Sw, Sw, Sw, Sw, Sw, Sw, Sw, Sw, Sw, Sw, Sw, Sw⟩ hT htl ehW eY (Nat.le_refl _) (by rw [← hR]; exact m11) m19 rfl rfl hA hU2 hD (fun z => absurd z hz) (fun z => absurd z hz) (fun z => absurd z hz) la1 (by simp) la2
  have d2 : decide (chkB t l = 0) = true := decide_eq_true hz
  obtain ⟨q1, q2⟩ := first2 hz
  obtain ⟨hl2, hg⟩ := chkL_z q2
  have ht := chkTp_z q1
  have hAl : (l.map gridN).length = l.length := by simp
  show WC P inFn (.seq _ taD) _ _ _ _
  refine Rs (A6 @t0 @t1 @o5 @o7 @o9 @d2) ?_;(first | (exact True.intro;trace "CLOSED 36") | skip)
  refine WF.res T.c29 (r29 T (hS.ext (eY.trans Xx)) hl hg) ?_
  intro s20 g20 is20
  have hb := grid_all hg
  refine Rs (A5 @t0 @t1 @o5 @o7 @o9) ?_;(first | (exact True.intro;trace "CLOSED 37") | skip)
  refine WF.res T.c30 (q30 T (hT.ext (eY.trans Xx)) is20 ht (by omega) hb) ?_
  intro v16 g21 f16
  have o16 := f16.isSl.one
  refine Rs (A6 @t0 @t1 @o5 @o7 @o9 @o16) ?_;(first | (exact True.intro;trace "CLOSED 38") | skip)
  refine WF.res T.c31 (q31 T (hT.ext (eY.trans Xx)) (is20.ext Xx) ht (by omega) hb) ?_
  intro v18 g22 f18
  have o18 := f18.isSl.one
  refine Rs (A7 @t0 @t1 @o5 @o7 @o9 @o16 @o18) ?_;(first | (exact True.intro;trace "CLOSED 39") | skip)
  refine WF.res T.c32 (r32 T (hT.ext (eY.trans Xx)) (is20.ext Xx) ht (by omega) hb) ?_
  rintro _ g23 ⟨v17, e15, rfl, hR5⟩
  have o17 := undr_one hR5
  rw [hz] at hU
  obtain ⟨wu, hu, xu, lu⟩ := undo_heard hU hR5
  have f16 := ((f16.app g22).app g23).low (M := W.length + 1) (by simp; omega)
  have f18 := (f18.app g23).low (M := W.length + 1) (by simp; omega)
  have xu : e15 = 0 → Fr (W.length + 1) _ v17 1 (wu.map intRow) := fun z => (xu z).low (by simp; omega)
  obtain ⟨Z, hZ⟩ : ∃ Z, Z = Y ++ g20 ++ g21 ++ g22 ++ g23 := ⟨_, rfl⟩
  have eZ : Ext Y Z := by rw [hZ]; exact Xx
  rw [← hZ] at f16 f18 xu ⊢
  clear hZ
  refine Rs (A8 @t0 @t1 @o5 @o7 @o9 @o16 @o17 @o18) ?_;(first | (exact True.intro;trace "CLOSED 40") | skip)
  refine ta_mid T (W := W) (s0 := s0) (s1 := s) (v5 := v5) (v7 := v7) (v9 := v9) (v16 := v16) (v17 := v17) (v18 := v18) (e6 := e6) (e8 := e8) (e10 := e10) (e12 := chkTp t) (e13 := chkTp t) (e14 := chkB t l) (e15 := e15) (b11 := X1.length) (b19 := W.length) (t := t) (wa := apL t (l.map gridN) (-1)) (wu := wu) (wd := apL t (l.map gridN) 1) Sn ⟨(Sq @t0), (Sq @t1), Sw, Sw, Sw, Sw, Sw, Sw, Sw, Sw, Sw, Sw, Sw, Sw, Sw, Sw, Sw⟩ hT htl ehW (eY.trans eZ) (Nat.le_refl _) (by rw [← hR]; exact m11) (eZ.some m19) rfl rfl hA hu hD (fun _ => f16) xu (fun _ => f18) la1 (by omega) la2
end
end Go.Abs
