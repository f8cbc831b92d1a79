/- The law of what is kept of a panel. No condition. · An argument that is four times four floats. No condition. -/
import Derived.Test.YtbgldbmgjcgepaaGreatDoorFx12
import Derived.Test.YtbgldbmgjcgepaaGreatDoorFx9
set_option linter.all false
namespace Go.Abs
open Ieee
theorem turn_bd {B : Int} {z : Int × Int} (h : bdI B z) : ∀ k : Nat, bdI B (turn3 z k)
  | 0 => h
  | k + 1 => by
    obtain ⟨⟨a1, a2⟩, a3, a4⟩ := turn_bd h k
    unfold bdI turn3
    simp only
    omega
theorem flC_at {Z : Nat → Nat → Nat} {k m : Nat} (hk : k < 4) (hm : m < 4) : (flC Z)[k * 4 + m]? = some (.flt .f32 (Z k m)) := by
  rcases four hk with rfl | rfl | rfl | rfl <;> rcases four hm with rfl | rfl | rfl | rfl <;> rfl
theorem fl_ld {K : AHeap} {b k m : Nat} {Z : Nat → Nat → Nat} (m1 : K[b]? = some (.cells (flC Z) true false)) (hk : k < 4) (hm : m < 4) {kk : AHeap} (e : Ext K kk) : loadF none (.ptr b (k * 4 + m)) (fun z => kk[z]?) = some (.flt .f32 (Z k m), .keep) := by
  rw [loadF_at (e.some m1)]
  simp only [ldB, flC_at hk hm]
theorem fl_eqC {Z W : Nat → Nat → Nat} (hZ : ∀ i j, i < 4 → j < 4 → gridE (Z i j) = 0) (hW : ∀ i j, i < 4 → j < 4 → gridE (W i j) = 0) (e : ∀ i j, i < 4 → j < 4 → gridN (Z i j) = gridN (W i j)) : eqvK (.agg [.f, .f, .f, .f, .f, .f, .f, .f, .f, .f, .f, .f, .f, .f, .f, .f]) (.agg (flC Z)) (.agg (flC W)) = some true := by
  rw [eqA rfl rfl]
  have q := eqC_all (k := .f) ([(0, 0), (0, 1), (0, 2), (0, 3), (1, 0), (1, 1), (1, 2), (1, 3), (2, 0), (2, 1), (2, 2), (2, 3), (3, 0), (3, 1), (3, 2), (3, 3)].map fun p : Nat × Nat => (AV.flt .f32 (Z p.1 p.2), AV.flt .f32 (W p.1 p.2), true)) (fun t ht => by
    obtain ⟨p, hp, rfl⟩ := List.mem_map.1 ht
    have hpp : p.1 < 4 ∧ p.2 < 4 := by
      simp only [List.mem_cons, List.not_mem_nil, or_false] at hp
      rcases hp with rfl | rfl | rfl | rfl | rfl | rfl | rfl | rfl | rfl | rfl | rfl | rfl | rfl | rfl | rfl | rfl <;> exact ⟨by decide, by decide⟩
    have := fl_eq (hZ _ _ hpp.1 hpp.2) (hW _ _ hpp.1 hpp.2)
    rw [decide_eq_true (e _ _ hpp.1 hpp.2)] at this
    exact this)
  exact q
theorem eq_1c {a b : AV} : eqvK (.one .c) a b = eqQ .c a b := rfl
theorem st_pn16 {n : Nat} {W : Nat → Nat → Int × Int} : stB 16 0 (.agg (pnC W)) n (.cells (pnC fun _ _ => (0, 0)) true false) = some (undefA, .set n (.cells (pnC W) true false)) := (stB_agg rfl (pnC_one W) (by show 0 + 16 ≤ 16; omega)).trans rfl
/-- Four traces, one place later, cell by cell. -/
def plL (l : Nat → Nat → Nat) (t n : Nat) : Nat → Nat → Nat := fun a b => if a < t ∨ (a = t ∧ (b + 3) % 4 < n) then l a ((b + 3) % 4) else 0
theorem plL_upd {l : Nat → Nat → Nat} {t n : Nat} (hn : n < 4) : flC (updF (plL l t n) t ((n + 1) % 4) (l t n)) = flC (plL l t (n + 1)) := flC_congr fun a b ha hb => by
  unfold updF plL
  by_cases h : a = t ∧ b = (n + 1) % 4
  · obtain ⟨rfl, rfl⟩ := h
    have e : ((n + 1) % 4 + 3) % 4 = n := by omega
    rw [if_pos ⟨rfl, rfl⟩, e, if_pos (by omega)]
  · rw [if_neg h]
    by_cases h2 : a < t ∨ (a = t ∧ (b + 3) % 4 < n)
    · rw [if_pos h2, if_pos (by omega)]
    · rw [if_neg h2, if_neg (by omega)]
theorem plL_row {l : Nat → Nat → Nat} {t : Nat} : flC (plL l t 4) = flC (plL l (t + 1) 0) := flC_congr fun a b ha hb => by
  unfold plL
  by_cases h1 : a < t + 1
  · rw [if_pos (by omega), if_pos (by omega)]
  · rw [if_neg (by omega), if_neg (by omega)]
theorem plL_all {l : Nat → Nat → Nat} : flC (plL l 4 0) = flC (latL l) := flC_congr fun a b ha hb => by
  unfold plL
  rw [if_pos (by omega)]; rfl
theorem plL_zero {l : Nat → Nat → Nat} : flC (plL l 0 0) = flC fun _ _ => 0 := flC_congr fun a b ha hb => by
  unfold plL
  rw [if_neg (by omega)]
theorem rem4 {n : Nat} (hn : n < 4) : binK .rem (.int .i64 ((n + 1 : Nat) : Int)) (.int .i64 4) = some (.int .i64 (((n + 1) % 4 : Nat) : Int)) := by
  rcases four hn with rfl | rfl | rfl | rfl <;> rfl
/-- Sums cell by cell, the row's part apart. -/
def s4p (F : Nat → Nat → Int) (i m : Nat) : Int := s4g F i + s4r (F i) m
theorem s4p_row (F : Nat → Nat → Int) (i : Nat) : s4p F i 4 = s4p F (i + 1) 0 := by unfold s4p; rw [s4g, s4r, Int.add_zero]
theorem s4p_all (F : Nat → Nat → Int) : s4p F 4 0 = s4g F 4 := by unfold s4p; rw [s4r, Int.add_zero]
theorem s4p_step {F : Nat → Nat → Int} (h : ∀ i j, i < 4 → j < 4 → 0 ≤ F i j ∧ F i j ≤ 137438953472) {i m : Nat} (hi : i < 4) (hm : m < 4) : IntKind.i64.wrap (s4p F i m + F i m) = s4p F i (m + 1) := by
  have a := s4g_bd h i (by omega)
  have b := s4r_bd (f := F i) (fun j hj => h i j hi hj) m (by omega)
  have c := h i m hi hm
  have e : s4p F i (m + 1) = s4p F i m + F i m := by unfold s4p; rw [s4r]; omega
  rw [e]
  unfold s4p
  exact wrap_in (by omega) (by omega)
theorem s4g_lim {F : Nat → Nat → Int} (h : ∀ i j, i < 4 → j < 4 → 0 ≤ F i j ∧ F i j ≤ 137438953472) : 0 ≤ s4g F 4 ∧ s4g F 4 ≤ 2199023255552 := by
  have := s4g_bd h 4 (by omega)
  omega
def kpB : ICode := match (fn8).body with
  | .seq _ (.seq _ c) => c
  | c => c
def kpC : ICode := match kpB with
  | .seq _ (.seq _ (.seq _ (.seq _ (.seq _ c)))) => c
  | c => c
def kpD : ICode := match kpC with
  | .seq _ c => c
  | c => c
def kpE : ICode := match kpD with
  | .seq _ (.seq _ c) => c
  | c => c
def kpF : ICode := match kpE with
  | .seq _ (.seq _ c) => c
  | c => c
def kpG : ICode := match kpF with
  | .seq _ c => c
  | c => c
def kpH : ICode := match kpG with
  | .seq _ (.seq _ c) => c
  | c => c
attribute [local irreducible] cxA
set_option maxRecDepth 10000
attribute [local irreducible] WP WC WE WB WR WF WL WG WRg WQ
section
variable {P : Program} (T : Tbl P) {h Y : AHeap} {ts : TS} {b2 b5 b9 b11 b21 b24 : Nat}
include T
set_option maxHeartbeats 4000000 in
theorem kp_H {Z : Nat → Nat → Int × Int} (hZ : pnB Z) (hlen : ts.length = 261) (t5 : slot ts 5 = .ptr b5 0) (t24 : slot ts 24 = .ptr b24 0) (e0 : Ext h Y) (m5 : Y[b5]? = some (.cells (pnC Z) true false)) (m24 : Y[b24]? = some (.cells (pnC fun k m => turn3 (Z k m) k) true false)) :
    WC P inFn kpH [] ts Y (FQ [(4, none)] fun v k => Ext h k ∧ v = .bool true) := by
  unfold kpH kpG kpF kpE kpD kpC kpB fn8
  dsimp only
  refine Rs (A2 @t5 @t24) ?_
  refine WL.inv T.mix (fun n ts K => ∃ i : Nat, i ≤ 4 ∧ n = 4 - i ∧ K = Y ∧ ts.length = 261 ∧ slot ts 5 = .ptr b5 0 ∧ slot ts 24 = .ptr b24 0 ∧ slot ts 231 = .int .i64 i) 4
    ⟨0, by omega, rfl, rfl, Sn, (Sq @t5), (Sq @t24), Swr⟩ ?_
  clear hlen t5 t24
  rintro _ ts K ⟨i, hi, rfl, rfl, hlen, t5, t24, t231⟩
  by_cases hi4 : i < 4
  case neg =>
    have e3 := lt4F hi4
    refine Rs (A4 @t5 @t24 @t231 @e3) ?_
    exact ⟨e0, trivial⟩
  have e3 := lt4T hi4
  have e5 := wrapN (n := i) (by omega)
  refine Rs (A4 @t5 @t24 @t231 @e3) ?_
  refine WL.inv T.mix (fun n ts H => ∃ m : Nat, m ≤ 4 ∧ n = 4 - m ∧ H = K ∧ ts.length = 261 ∧ slot ts 5 = .ptr b5 0 ∧ slot ts 24 = .ptr b24 0 ∧ slot ts 26 = .int .i64 i ∧ slot ts 231 = .int .i64 i ∧ slot ts 234 = .int .i64 m) 4
    ⟨0, by omega, rfl, rfl, Sn, (Sq @t5), (Sq @t24), Sw, (Sq @t231), Swr⟩ ?_
  clear hlen t5 t24 t231
  rintro _ ts K ⟨m, hm, rfl, rfl, hlen, t5, t24, t26, t231, t234⟩
  by_cases hm4 : m < 4
  case neg =>
    have e4 := lt4F hm4
    refine Rs (A7 @t5 @t24 @t26 @t231 @t234 @e4 @e5) ?_
    exact ⟨4 - (i + 1), by omega, i + 1, by omega, rfl, rfl⟩
  have e4 := lt4T hm4
  have e6 := wrapN (n := m) (by omega)
  have ia := @ia_44 b5 i hi4
  have ib := @ia_41 b5 (i * 4) m hm4
  have ja := @ia_44 b24 i hi4
  have jb := @ia_41 b24 (i * 4) m hm4
  obtain ⟨z, hz⟩ : ∃ z, z = Z i m := ⟨_, rfl⟩
  have hzb : bdI 262144 z := by rw [hz]; exact hZ i m hi4 hm4
  have lz : loadF none (.ptr b5 (i * 4 + m)) (fun z => K[z]?) = some (.cplx .f32 (smpl z.1) (smpl z.2), .keep) := by rw [cx_mk, hz]; exact pn_ld m5 hi4 hm4 (.refl _)
  have ld : loadF none (.ptr b24 (i * 4 + m)) (fun z => K[z]?) = some (.cplx .f32 (smpl (turn3 z i).1) (smpl (turn3 z i).2), .keep) := by rw [cx_mk, hz]; exact pn_ld (Z := fun k m => turn3 (Z k m) k) m24 hi4 hm4 (.refl _)
  refine Rs (A9 @t5 @t24 @t26 @t231 @t234 @e4 @ia @ib @lz) ?_
  refine WL.inv T.mix (fun n ts H => ∃ (r a b : Nat), r ≤ i ∧ n = i - r ∧ H = K ∧ CxV a b (turn3 z r) ∧ ts.length = 261 ∧ slot ts 5 = .ptr b5 0 ∧ slot ts 24 = .ptr b24 0 ∧ slot ts 26 = .int .i64 i ∧ slot ts 27 = .int .i64 m ∧ slot ts 28 = .cplx .f32 a b ∧ slot ts 231 = .int .i64 i ∧ slot ts 234 = .int .i64 m ∧ slot ts 242 = .int .i64 i ∧ slot ts 243 = .int .i64 r) i
    ⟨0, _, _, by omega, rfl, rfl, cxv_mk hzb, Sn, (Sq @t5), (Sq @t24), (Sq @t26), Sw, Swr, (Sq @t231), (Sq @t234), Sw, Swr⟩ ?_
  clear hlen t5 t24 t26 t231 t234
  rintro _ ts K ⟨r, a, b, hr, rfl, rfl, cv, hlen, t5, t24, t26, t27, t28, t231, t234, t242, t243⟩
  by_cases hri : r < i
  case neg =>
    have e7 := dltF hri
    rw [show r = i by omega] at cv
    have eq : eqvK (.one .c) (.cplx .f32 (smpl (turn3 z i).1) (smpl (turn3 z i).2)) (.cplx .f32 a b) = some true := by
      rw [eq_1c, cxv_eq (cxv_mk (turn_bd hzb i)) cv, decide_eq_true rfl]
    refine Rs (A16 @t5 @t24 @t26 @t27 @t28 @t231 @t234 @t242 @t243 @e7 @ja @jb @ld @eq @Bool.not_true @e6) ?_
    exact ⟨4 - (m + 1), by omega, m + 1, by omega, rfl, rfl⟩
  have e7 := dltT hri
  have e8 := wrapN (n := r) (by omega)
  have c1 : ∀ {G : Nat → Option ABlk} {N : Nat}, convT .cim (.cplx .f32 a b) G N = some (.flt .f32 b, .keep) := fun {G N} => rfl
  have c2 : ∀ {G : Nat → Option ABlk} {N : Nat}, convT .cre (.cplx .f32 a b) G N = some (.flt .f32 a, .keep) := fun {G N} => rfl
  have un : unK .neg (.flt .f32 a) = some (.flt .f32 (Op.negFloat .f32 a)) := rfl
  have cv' := cxv_turn cv
  refine Rs (A13 @t5 @t24 @t26 @t27 @t28 @t231 @t234 @t242 @t243 @e7 @c1 @c2 @un) ?_
  rw [WP_cpxq (k := .f32) (a := b) (b := Op.negFloat .f32 a) Sw Sw]
  refine Rs (A10 @t5 @t24 @t26 @t27 @t28 @t231 @t234 @t242 @t243 @e8) ?_
  exact ⟨i - (r + 1), by omega, r + 1, _, _, by omega, rfl, cv', rfl, rfl⟩
set_option maxHeartbeats 4000000 in
theorem kp_G (X : Xfl P) (pw : Pwr h) {l : Nat → Nat → Nat} (hl : trcOk l) (hlen : ts.length = 261) (t5 : slot ts 5 = .ptr b5 0) (t21 : slot ts 21 = .ptr b21 0) (e0 : Ext h Y) (m5 : Y[b5]? = some (.cells (pnC (trG (trcG l) 3)) true false)) (m21 : Y[b21]? = some (.cells (flC (latL l)) true false)) :
    WC P inFn kpG [] ts Y (FQ [(4, none)] fun v k => Ext h k ∧ v = .bool true) := by
  show WC P inFn (.seq _ (.seq _ kpH)) _ _ _ _
  have bz : ∀ {N : Nat}, boxF (.agg [.cplx .f32 0 0, .cplx .f32 0 0, .cplx .f32 0 0, .cplx .f32 0 0, .cplx .f32 0 0, .cplx .f32 0 0, .cplx .f32 0 0, .cplx .f32 0 0, .cplx .f32 0 0, .cplx .f32 0 0, .cplx .f32 0 0, .cplx .f32 0 0, .cplx .f32 0 0, .cplx .f32 0 0, .cplx .f32 0 0, .cplx .f32 0 0]) N = some (.ptr N 0, .push (.cells (pnC fun _ _ => (0, 0)) true false)) := fun {N} => by rw [z_pn]; exact pn_box
  have st16 : ∀ {n : Nat} {W : Nat → Nat → Int × Int}, stB 16 0 (.agg (pnC W)) n (.cells (pnC fun _ _ => (0, 0)) true false) = some (undefA, .set n (.cells (pnC W) true false)) := fun {n W} => st_pn16
  have ldp : ∀ {W : Nat → Nat → Int × Int}, ldB (some 16) 0 (.cells (pnC W) true false) = some (.agg (pnC W), .keep) := fun {W} => rfl
  have ldf : ∀ {W : Nat → Nat → Nat}, ldB (some 16) 0 (.cells (flC W) true false) = some (.agg (flC W), .keep) := fun {W} => rfl
  have d0 : decide ((0 : Int) ≠ 0) = false := rfl
  have lf := @ldx _ _ _ m21
  refine Rs (A4 @t5 @t21 @lf @ldf) ?_
  refine WF.ce T.c60 (r60 T (pw.ext e0) (lat_ok hl)) fun g1 => ?_
  obtain ⟨Z, hZ⟩ : ∃ Z, Z = trG (trcG l) 3 := ⟨_, rfl⟩
  obtain ⟨D, hD⟩ : ∃ D, D = trG (trcG (latL l)) 3 := ⟨_, rfl⟩
  have hZb : pnB Z := by rw [hZ]; exact pan_bd hl
  have hDb : pnB D := by rw [hD]; exact pan_bd (lat_ok hl)
  have hDZ : pnC D = pnC fun k m => turn3 (Z k m) k := pnC_congr fun a b ha hb => by rw [hD, hZ]; exact lat_pan l ha
  rw [← hZ] at m5
  rw [← hD]
  refine Rs (A4 @t5 @t21 @bz @st16) ?_
  obtain ⟨K, hK⟩ : ∃ K, K = Y ++ g1 ++ [ABlk.cells (pnC D) true false] := ⟨_, rfl⟩
  have eK : Ext Y K := by rw [hK]; exact Xx
  have mD : K[(Y ++ g1).length]? = some (.cells (pnC D) true false) := by rw [hK]; exact at_new
  obtain ⟨b24, hb⟩ : ∃ b, b = (Y ++ g1).length := ⟨_, rfl⟩
  rw [← hb] at mD
  rw [← hb, ← hK]
  have lD := @ldx _ _ _ mD
  refine Rs (A5 @t5 @t21 @d0 @lD @ldp) ?_
  refine WF.ce T.c63 (r63 T X hDb) fun g2 => ?_
  refine Rs (A3 @t5 @t21 @d0) ?_
  rw [hDZ] at mD
  exact kp_H T (b5 := b5) (b24 := b24) hZb Sn (Sq @t5) Sw (e0.trans (eK.trans Xx)) ((eK.trans Xx).some m5) ((show Ext K (K ++ g2) from Xx).some mD)
set_option maxHeartbeats 4000000 in
theorem kp_F (X : Xfl P) (pw : Pwr h) {l : Nat → Nat → Nat} (hl : trcOk l) (hlen : ts.length = 261) (t2 : slot ts 2 = .ptr b2 0) (t5 : slot ts 5 = .ptr b5 0) (t21 : slot ts 21 = .ptr b21 0) (e0 : Ext h Y) (m2 : Y[b2]? = some (.cells (flC l) true false)) (m5 : Y[b5]? = some (.cells (pnC (trG (trcG l) 3)) true false)) (m21 : Y[b21]? = some (.cells (flC fun _ _ => 0) true false)) (n21 : h.length ≤ b21) (n2 : b2 < b21) (n5 : b5 < b21) :
    WC P inFn kpF [] ts Y (FQ [(4, none)] fun v k => Ext h k ∧ v = .bool true) := by
  show WC P inFn (.seq _ kpG) _ _ _ _
  rw [← plL_zero (l := l)] at m21
  obtain ⟨Z, hZ⟩ : ∃ Z, Z = trG (trcG l) 3 := ⟨_, rfl⟩
  rw [← hZ] at m5
  refine Rs (A3 @t2 @t5 @t21) ?_
  refine WL.inv T.mix (fun n ts K => ∃ t : Nat, t ≤ 4 ∧ n = 4 - t ∧ Ext h K ∧ K[b2]? = some (.cells (flC l) true false) ∧ K[b5]? = some (.cells (pnC Z) true false) ∧ K[b21]? = some (.cells (flC (plL l t 0)) true false) ∧ ts.length = 261 ∧ slot ts 2 = .ptr b2 0 ∧ slot ts 5 = .ptr b5 0 ∧ slot ts 21 = .ptr b21 0 ∧ slot ts 200 = .int .i64 t) 4
    ⟨0, by omega, rfl, e0, m2, m5, m21, Sn, (Sq @t2), (Sq @t5), (Sq @t21), Swr⟩ ?_
  clear hlen t2 t5 t21 m2 m5 m21 e0
  rintro _ ts K ⟨t, ht, rfl, e0, m2, m5, m21, hlen, t2, t5, t21, t200⟩
  by_cases ht4 : t < 4
  case neg =>
    have e3 := lt4F ht4
    rw [show t = 4 by omega, plL_all] at m21
    rw [hZ] at m5
    refine Rs (A5 @t2 @t5 @t21 @t200 @e3) ?_
    exact kp_G T (b5 := b5) (b21 := b21) X pw hl Sn (Sq @t5) (Sq @t21) e0 m5 m21
  have e3 := lt4T ht4
  have e5 := wrapN (n := t) (by omega)
  refine Rs (A5 @t2 @t5 @t21 @t200 @e3) ?_
  refine WL.inv T.mix (fun n ts K => ∃ m : Nat, m ≤ 4 ∧ n = 4 - m ∧ Ext h K ∧ K[b2]? = some (.cells (flC l) true false) ∧ K[b5]? = some (.cells (pnC Z) true false) ∧ K[b21]? = some (.cells (flC (plL l t m)) true false) ∧ ts.length = 261 ∧ slot ts 2 = .ptr b2 0 ∧ slot ts 5 = .ptr b5 0 ∧ slot ts 21 = .ptr b21 0 ∧ slot ts 22 = .int .i64 t ∧ slot ts 200 = .int .i64 t ∧ slot ts 203 = .int .i64 m) 4
    ⟨0, by omega, rfl, e0, m2, m5, m21, Sn, (Sq @t2), (Sq @t5), (Sq @t21), Sw, (Sq @t200), Swr⟩ ?_
  clear hlen t2 t5 t21 t200 m2 m5 m21 e0
  rintro _ ts K ⟨m, hm, rfl, e0, m2, m5, m21, hlen, t2, t5, t21, t22, t200, t203⟩
  by_cases hm4 : m < 4
  case neg =>
    have e4 := lt4F hm4
    rw [show m = 4 by omega, plL_row] at m21
    refine Rs (A8 @t2 @t5 @t21 @t22 @t200 @t203 @e4 @e5) ?_
    exact ⟨4 - (t + 1), by omega, t + 1, by omega, rfl, e0, m2, m5, m21, rfl⟩
  have e4 := lt4T hm4
  have e6 := wrapN (n := m) (by omega)
  have hr := rem4 hm4
  have hm1 : (m + 1) % 4 < 4 := Nat.mod_lt _ (by decide)
  have ia := @ia_44 b2 t ht4
  have ib := @ia_41 b2 (t * 4) m hm4
  have ja := @ia_44 b21 t ht4
  have jb := @ia_41 b21 (t * 4) ((m + 1) % 4) hm1
  have lz : loadF none (.ptr b2 (t * 4 + m)) (fun z => K[z]?) = some (.flt .f32 (l t m), .keep) := fl_ld m2 ht4 hm4 (.refl _)
  have s4 := fl_st m21 ht4 hm1 (l t m)
  rw [plL_upd hm4] at s4
  refine Rs (A15 @t2 @t5 @t21 @t22 @t200 @t203 @e4 @e6 @hr @ia @ib @ja @jb @lz @s4) ?_
  exact ⟨4 - (m + 1), by omega, m + 1, by omega, rfl, ext_setG e0 n21, set_ne' (by omega) m2, set_ne' (by omega) m5, set_eq' m21, rfl⟩
set_option maxHeartbeats 4000000 in
theorem kp_E (X : Xfl P) (pw : Pwr h) {l : Nat → Nat → Nat} (hl : trcOk l) {a b c d : Int} (hab : b = 16 * a) (hcd : c + d = b) (ha : 0 ≤ a ∧ a ≤ 2199023255552) (hlen : ts.length = 261) (t2 : slot ts 2 = .ptr b2 0) (t5 : slot ts 5 = .ptr b5 0) (t15 : slot ts 15 = .int .i64 a) (t16 : slot ts 16 = .int .i64 b) (t17 : slot ts 17 = .int .i64 c) (t18 : slot ts 18 = .int .i64 d) (e0 : Ext h Y) (m2 : Y[b2]? = some (.cells (flC l) true false)) (m5 : Y[b5]? = some (.cells (pnC (trG (trcG l) 3)) true false)) :
    WC P inFn kpE [] ts Y (FQ [(4, none)] fun v k => Ext h k ∧ v = .bool true) := by
  show WC P inFn (.seq _ (.seq _ kpF)) _ _ _ _
  have bf : ∀ {N : Nat}, boxF (.agg [.flt .f32 0, .flt .f32 0, .flt .f32 0, .flt .f32 0, .flt .f32 0, .flt .f32 0, .flt .f32 0, .flt .f32 0, .flt .f32 0, .flt .f32 0, .flt .f32 0, .flt .f32 0, .flt .f32 0, .flt .f32 0, .flt .f32 0, .flt .f32 0]) N = some (.ptr N 0, .push (.cells (flC fun _ _ => 0) true false)) := fun {N} => rfl
  have w1 : IntKind.i64.wrap (16 * a) = b := by rw [hab]; exact wrap_in (by omega) (by omega)
  have w2 : IntKind.i64.wrap (c + d) = b := by rw [hcd]; exact wrap_in (by omega) (by omega)
  have d1 : decide (b ≠ b) = false := decide_eq_false fun z => z rfl
  refine Rs (A10 @t2 @t5 @t15 @t16 @t17 @t18 @w1 @w2 @d1 @bf) ?_
  obtain ⟨K, hK⟩ : ∃ K, K = Y ++ [ABlk.cells (flC fun _ _ => 0) true false] := ⟨_, rfl⟩
  have eK : Ext Y K := by rw [hK]; exact Xx
  have mK : K[Y.length]? = some (.cells (flC fun _ _ => 0) true false) := by rw [hK]; exact at_new
  have n2 := (List.getElem?_eq_some_iff.1 m2).1
  have n5 := (List.getElem?_eq_some_iff.1 m5).1
  have nh := e0.len
  rw [← hK]
  exact kp_F T (b2 := b2) (b5 := b5) (b21 := Y.length) X pw hl Sn (Sq @t2) (Sq @t5) Sw (e0.trans eK) (eK.some m2) (eK.some m5) mK nh n2 n5
set_option maxHeartbeats 8000000 in
theorem kp_D (X : Xfl P) (pw : Pwr h) {l : Nat → Nat → Nat} (hl : trcOk l) {x : Nat} (hx : x < 65536) {Z : Nat → Nat → Int × Int} (hZ : Z = trG (trcG l) 3) (hlen : ts.length = 261) (t2 : slot ts 2 = .ptr b2 0) (t5 : slot ts 5 = .ptr b5 0) (t9 : slot ts 9 = .ptr b9 0) (t11 : slot ts 11 = .ptr b11 0) (e0 : Ext h Y) (m2 : Y[b2]? = some (.cells (flC l) true false)) (m5 : Y[b5]? = some (.cells (pnC Z) true false)) (m9 : Y[b9]? = some (.cells (pnC (keepG x Z)) true false)) (m11 : Y[b11]? = some (.cells (pnC (keepG (65535 - x) Z)) true false)) :
    WC P inFn kpD [] ts Y (FQ [(4, none)] fun v k => Ext h k ∧ v = .bool true) := by
  have hZb : pnB Z := by rw [hZ]; exact pan_bd hl
  obtain ⟨E, hE⟩ : ∃ E, E = sqG l := ⟨_, rfl⟩
  obtain ⟨V, hV⟩ : ∃ V : Nat → Nat → Int, V = fun i m => nsq (Z i m) := ⟨_, rfl⟩
  obtain ⟨A, hA⟩ : ∃ A, A = keepG x Z := ⟨_, rfl⟩
  obtain ⟨B, hB⟩ : ∃ B, B = keepG (65535 - x) Z := ⟨_, rfl⟩
  have hAb : pnB A := by rw [hA]; exact keep_bd hZb
  have hBb : pnB B := by rw [hB]; exact keep_bd hZb
  obtain ⟨U, hU⟩ : ∃ U : Nat → Nat → Int, U = fun i m => nsq (A i m) := ⟨_, rfl⟩
  obtain ⟨O, hO⟩ : ∃ O : Nat → Nat → Int, O = fun i m => nsq (B i m) := ⟨_, rfl⟩
  have key : ∀ {i m : Nat}, i < 4 → m < 4 → plI (A i m) (B i m) = Z i m ∧ (A i m = (0, 0) ∨ B i m = (0, 0)) ∧ nsq (A i m) + nsq (B i m) = nsq (Z i m) := fun {i m} hi hm => by
    rw [hA, hB]; exact keep_sum hx Z hi hm
  have gb : ∀ i j, i < 4 → j < 4 → -16384 ≤ gridN (l i j) ∧ gridN (l i j) ≤ 16384 := fun i j hi hj => by
    have := trc_bd hl j i hj hi
    obtain ⟨⟨a1, a2⟩, _⟩ := this
    exact ⟨a1, a2⟩
  have bE : ∀ i j, i < 4 → j < 4 → 0 ≤ E i j ∧ E i j ≤ 137438953472 := fun i j hi hj => by
    have := sqB_bd (B := 16384) (gb i j hi hj).1 (gb i j hi hj).2
    rw [hE]
    show 0 ≤ gridN (l i j) * gridN (l i j) ∧ gridN (l i j) * gridN (l i j) ≤ _
    omega
  have bV : ∀ i j, i < 4 → j < 4 → 0 ≤ V i j ∧ V i j ≤ 137438953472 := fun i j hi hj => by rw [hV]; exact nsq_bd (hZb i j hi hj)
  have bU : ∀ i j, i < 4 → j < 4 → 0 ≤ U i j ∧ U i j ≤ 137438953472 := fun i j hi hj => by rw [hU]; exact nsq_bd (hAb i j hi hj)
  have bO : ∀ i j, i < 4 → j < 4 → 0 ≤ O i j ∧ O i j ≤ 137438953472 := fun i j hi hj => by rw [hO]; exact nsq_bd (hBb i j hi hj)
  have f1 : s4g V 4 = 16 * s4g E 4 := by rw [hV, hE, hZ]; exact pan_energy l
  have f2 : s4g U 4 + s4g O 4 = s4g V 4 := s4g_add fun i j hi hj => by rw [hU, hO, hV]; exact (key hi hj).2.2
  rw [← hA] at m9
  rw [← hB] at m11
  show WC P inFn (.seq _ (.seq _ kpE)) _ _ _ _
  refine Rs (A4 @t2 @t5 @t9 @t11) ?_
  refine WL.inv T.mix (fun n ts K => ∃ i : Nat, i ≤ 4 ∧ n = 4 - i ∧ Ext Y K ∧ ts.length = 261 ∧ slot ts 2 = .ptr b2 0 ∧ slot ts 5 = .ptr b5 0 ∧ slot ts 9 = .ptr b9 0 ∧ slot ts 11 = .ptr b11 0 ∧ slot ts 15 = .int .i64 (s4p E i 0) ∧ slot ts 16 = .int .i64 (s4p V i 0) ∧ slot ts 17 = .int .i64 (s4p U i 0) ∧ slot ts 18 = .int .i64 (s4p O i 0) ∧ slot ts 109 = .int .i64 i) 4
    ⟨0, by omega, rfl, .refl _, Sn, (Sq @t2), (Sq @t5), (Sq @t9), (Sq @t11), Swr, Swr, Swr, Swr, Swr⟩ ?_
  clear hlen t2 t5 t9 t11
  rintro _ ts K ⟨i, hi, rfl, eK, hlen, t2, t5, t9, t11, t15, t16, t17, t18, t109⟩
  by_cases hi4 : i < 4
  case neg =>
    have e3 := lt4F hi4
    rw [show i = 4 by omega, s4p_all] at t15 t16 t17 t18
    rw [hZ] at m5
    refine Rs (A10 @t2 @t5 @t9 @t11 @t15 @t16 @t17 @t18 @t109 @e3) ?_
    exact kp_E T (b2 := b2) (b5 := b5) X pw hl f1 f2 (s4g_lim bE) Sn (Sq @t2) (Sq @t5) (Sq @t15) (Sq @t16) (Sq @t17) (Sq @t18) (e0.trans eK) (eK.some m2) (eK.some m5)
  have e3 := lt4T hi4
  have e5 := wrapN (n := i) (by omega)
  refine Rs (A10 @t2 @t5 @t9 @t11 @t15 @t16 @t17 @t18 @t109 @e3) ?_
  refine WL.inv T.mix (fun n ts K => ∃ m : Nat, m ≤ 4 ∧ n = 4 - m ∧ Ext Y K ∧ ts.length = 261 ∧ slot ts 2 = .ptr b2 0 ∧ slot ts 5 = .ptr b5 0 ∧ slot ts 9 = .ptr b9 0 ∧ slot ts 11 = .ptr b11 0 ∧ slot ts 15 = .int .i64 (s4p E i m) ∧ slot ts 16 = .int .i64 (s4p V i m) ∧ slot ts 17 = .int .i64 (s4p U i m) ∧ slot ts 18 = .int .i64 (s4p O i m) ∧ slot ts 19 = .int .i64 i ∧ slot ts 109 = .int .i64 i ∧ slot ts 112 = .int .i64 m) 4
    ⟨0, by omega, rfl, eK, Sn, (Sq @t2), (Sq @t5), (Sq @t9), (Sq @t11), (Sq @t15), (Sq @t16), (Sq @t17), (Sq @t18), Sw, (Sq @t109), Swr⟩ ?_
  clear hlen t2 t5 t9 t11 t15 t16 t17 t18 t109 eK
  rintro _ ts K ⟨m, hm, rfl, eK, hlen, t2, t5, t9, t11, t15, t16, t17, t18, t19, t109, t112⟩
  by_cases hm4 : m < 4
  case neg =>
    have e4 := lt4F hm4
    rw [show m = 4 by omega, s4p_row] at t15 t16 t17 t18
    refine Rs (A13 @t2 @t5 @t9 @t11 @t15 @t16 @t17 @t18 @t19 @t109 @t112 @e4 @e5) ?_
    exact ⟨4 - (i + 1), by omega, i + 1, by omega, rfl, eK, rfl, rfl, rfl, rfl, rfl⟩
  have e4 := lt4T hm4
  have e6 := wrapN (n := m) (by omega)
  have ia := @ia_44 b2 i hi4
  have ib := @ia_41 b2 (i * 4) m hm4
  have ja := @ia_44 b5 i hi4
  have jb := @ia_41 b5 (i * 4) m hm4
  have ka := @ia_44 b9 i hi4
  have kb := @ia_41 b9 (i * 4) m hm4
  have oa := @ia_44 b11 i hi4
  have ob := @ia_41 b11 (i * 4) m hm4
  have l2 := @fl_ld _ _ _ _ _ (eK.some m2) hi4 hm4
  have l5 := @pn_ld _ _ _ _ _ (eK.some m5) hi4 hm4
  have l9 := @pn_ld _ _ _ _ _ (eK.some m9) hi4 hm4
  have l11 := @pn_ld _ _ _ _ _ (eK.some m11) hi4 hm4
  obtain ⟨k1, k2, k3⟩ := key hi4 hm4
  have sE := s4p_step bE hi4 hm4
  have sV := s4p_step bV hi4 hm4
  have sU := s4p_step bU hi4 hm4
  have sO := s4p_step bO hi4 hm4
  have eV : V i m = nsq (Z i m) := by rw [hV]
  have eU : U i m = nsq (A i m) := by rw [hU]
  have eO : O i m = nsq (B i m) := by rw [hO]
  have wm : IntKind.i64.wrap (gridN (l i m) * gridN (l i m)) = E i m := by
    have := bE i m hi4 hm4
    have e : E i m = gridN (l i m) * gridN (l i m) := by rw [hE]; rfl
    rw [← e]
    exact wrap_in (by omega) (by omega)
  obtain ⟨z, hz⟩ : ∃ z, z = Z i m := ⟨_, rfl⟩
  obtain ⟨a, ha⟩ : ∃ a, a = A i m := ⟨_, rfl⟩
  obtain ⟨b, hb⟩ : ∃ b, b = B i m := ⟨_, rfl⟩
  have zb := hZb i m hi4 hm4
  have ab := hAb i m hi4 hm4
  have bb := hBb i m hi4 hm4
  rw [← hz] at eV zb l5 k1
  rw [← ha] at eU ab l9 k1 k2
  rw [← hb] at eO bb l11 k1 k2
  rw [eV] at sV
  rw [eU] at sU
  rw [eO] at sO
  obtain ⟨r, q, had, hrq⟩ := cxv_add (cxv_mk ab) (cxv_mk bb) (by rw [k1]; exact zb)
  rw [k1] at hrq
  rw [cx_mk, cx_mk] at had
  have q1 : eqvK (.one .c) (.cplx .f32 r q) (cxA z) = some true := by
    rw [← cx_mk]
    rw [eq_1c, cxv_eq hrq (cxv_mk zb), decide_eq_true rfl]
  have q2 : eqvK (.one .c) (cxA a) (.cplx .f32 0 0) = some (decide (a = (0, 0))) := by
    rw [eq_1c, ← cxA_0]; exact cx_eq ab (z_bd 0 0 (by omega) (by omega))
  have q3 : eqvK (.one .c) (cxA b) (.cplx .f32 0 0) = some (decide (b = (0, 0))) := by
    rw [eq_1c, ← cxA_0]; exact cx_eq bb (z_bd 0 0 (by omega) (by omega))
  refine Rs (A15 @t2 @t5 @t9 @t11 @t15 @t16 @t17 @t18 @t19 @t109 @t112 @e4 @ia @ib @l2) ?_
  refine WF.ce T.c64 (r64 T (hl i m hi4 hm4)) fun g1 => ?_
  refine Rs (A14 @t2 @t5 @t9 @t11 @t15 @t16 @t17 @t18 @t19 @t109 @t112 @ia @ib @l2) ?_
  refine WF.ce T.c64 (r64 T (hl i m hi4 hm4)) fun g2 => ?_
  refine Rs (A16 @t2 @t5 @t9 @t11 @t15 @t16 @t17 @t18 @t19 @t109 @t112 @wm @sE @ja @jb @l5) ?_
  refine WF.ce T.c65 (r65 T zb) fun g3 => ?_
  refine Rs (A15 @t2 @t5 @t9 @t11 @t15 @t16 @t17 @t18 @t19 @t109 @t112 @sV @ka @kb @l9) ?_
  refine WF.ce T.c65 (r65 T ab) fun g4 => ?_
  refine Rs (A15 @t2 @t5 @t9 @t11 @t15 @t16 @t17 @t18 @t19 @t109 @t112 @sU @oa @ob @l11) ?_
  refine WF.ce T.c65 (r65 T bb) fun g5 => ?_
  have eX : Ext Y (K ++ g1 ++ g2 ++ g3 ++ g4 ++ g5) := eK.trans Xx
  by_cases ha0 : a = (0, 0)
  · have d1 : decide (a = (0, 0)) = true := decide_eq_true ha0
    repeat (first | simp (config := { maxSteps := 1000000 }) only [wset, hset, dset, bset, Nat.reduceAdd, Nat.reduceMul, Nat.reduceLeDiff, Nat.reduceEqDiff, pset, hlen, if_false, if_true, t2, t5, t9, t11, t15, t16, t17, t18, t19, t109, t112, sO, ja, jb, ka, kb, oa, ob, l5, l9, l11, had, q1, q2, d1, Bool.not_true, e6] | simp (config := { maxSteps := 1000000 }) (disch := first | (simp only [List.length_append, List.length_cons, List.length_nil] <;> omega) | rfl | omega | fail) only [kset, wset, hset, dset, bset, Nat.reduceAdd, Nat.reduceMul, Nat.reduceLeDiff, Nat.reduceEqDiff, pset, hlen, if_false, if_true, t2, t5, t9, t11, t15, t16, t17, t18, t19, t109, t112, sO, ja, jb, ka, kb, oa, ob, l5, l9, l11, had, q1, q2, d1, Bool.not_true, e6])
    exact ⟨4 - (m + 1), by omega, m + 1, by omega, rfl, eX, rfl, rfl, rfl, rfl, rfl⟩
  · have d1 : decide (a = (0, 0)) = false := decide_eq_false ha0
    have d2 : decide (b = (0, 0)) = true := decide_eq_true (k2.resolve_left ha0)
    repeat (first | simp (config := { maxSteps := 1000000 }) only [wset, hset, dset, bset, Nat.reduceAdd, Nat.reduceMul, Nat.reduceLeDiff, Nat.reduceEqDiff, pset, hlen, if_false, if_true, t2, t5, t9, t11, t15, t16, t17, t18, t19, t109, t112, sO, ja, jb, ka, kb, oa, ob, l5, l9, l11, had, q1, q2, q3, d1, d2, Bool.not_true, Bool.not_false, e6] | simp (config := { maxSteps := 1000000 }) (disch := first | (simp only [List.length_append, List.length_cons, List.length_nil] <;> omega) | rfl | omega | fail) only [kset, wset, hset, dset, bset, Nat.reduceAdd, Nat.reduceMul, Nat.reduceLeDiff, Nat.reduceEqDiff, pset, hlen, if_false, if_true, t2, t5, t9, t11, t15, t16, t17, t18, t19, t109, t112, sO, ja, jb, ka, kb, oa, ob, l5, l9, l11, had, q1, q2, q3, d1, d2, Bool.not_true, Bool.not_false, e6])
    exact ⟨4 - (m + 1), by omega, m + 1, by omega, rfl, eX, rfl, rfl, rfl, rfl, rfl⟩
set_option maxHeartbeats 8000000 in
theorem kp_C {b7 b13 : Nat} (X : Xfl P) (pw : Pwr h) {l o : Nat → Nat → Nat} (hl : trcOk l) (ho : ∀ t n, t < 4 → n < 4 → gridE (o t n) = 0 ∧ gridN (o t n) = gridN (l t n)) {x : Nat} (hx : x < 65536) {Z : Nat → Nat → Int × Int} (hZ : Z = trG (trcG l) 3) (hlen : ts.length = 261) (t2 : slot ts 2 = .ptr b2 0) (t5 : slot ts 5 = .ptr b5 0) (t6 : slot ts 6 = .int .i64 0) (t7 : slot ts 7 = .ptr b7 0) (t8 : slot ts 8 = .int .i64 0) (t9 : slot ts 9 = .ptr b9 0) (t10 : slot ts 10 = .int .i64 0) (t11 : slot ts 11 = .ptr b11 0) (t12 : slot ts 12 = .int .i64 0) (t13 : slot ts 13 = .ptr b13 0) (t14 : slot ts 14 = .int .i64 0) (e0 : Ext h Y) (m2 : Y[b2]? = some (.cells (flC l) true false)) (m5 : Y[b5]? = some (.cells (pnC Z) true false)) (m7 : Y[b7]? = some (.cells (flC o) true false)) (m9 : Y[b9]? = some (.cells (pnC (keepG x Z)) true false)) (m11 : Y[b11]? = some (.cells (pnC (keepG (65535 - x) Z)) true false)) (m13 : Y[b13]? = some (.cells (pnC (keepG x Z)) true false)) :
    WC P inFn kpC [] ts Y (FQ [(4, none)] fun v k => Ext h k ∧ v = .bool true) := by
  show WC P inFn (.seq _ kpD) _ _ _ _
  have ldp : ∀ {W : Nat → Nat → Int × Int}, ldB (some 16) 0 (.cells (pnC W) true false) = some (.agg (pnC W), .keep) := fun {W} => rfl
  have ldf : ∀ {W : Nat → Nat → Nat}, ldB (some 16) 0 (.cells (flC W) true false) = some (.agg (flC W), .keep) := fun {W} => rfl
  have d0 : decide ((0 : Int) ≠ 0) = false := rfl
  have hZb : pnB Z := by rw [hZ]; exact pan_bd hl
  have hAb : pnB (keepG x Z) := keep_bd hZb
  have hBb : pnB (keepG (65535 - x) Z) := keep_bd hZb
  have q1 := fl_eqC (fun i j hi hj => (ho i j hi hj).1) (fun i j hi hj => hl i j hi hj) (fun i j hi hj => (ho i j hi hj).2)
  have q2 := pn_eqC hAb hAb
  rw [pnQ_of fun _ _ _ _ => rfl] at q2
  have l2 := @ldx _ _ _ m2
  have l5 := @ldx _ _ _ m5
  have l7 := @ldx _ _ _ m7
  have l9 := @ldx _ _ _ m9
  have l11 := @ldx _ _ _ m11
  have l13 := @ldx _ _ _ m13
  refine Rs (A22 @t2 @t5 @t6 @t7 @t8 @t9 @t10 @t11 @t12 @t13 @t14 @d0 @l2 @l5 @l7 @l9 @l13 @ldf @ldp @q1 @q2 @Bool.not_true) ?_
  refine WF.ce T.c63 (r63 T X hZb) fun g1 => ?_
  refine Rs (A7 @t2 @t5 @t9 @t11 @d0 @l9 @ldp) ?_
  refine WF.ce T.c63 (r63 T X hAb) fun g2 => ?_
  refine Rs (A7 @t2 @t5 @t9 @t11 @d0 @l11 @ldp) ?_
  refine WF.ce T.c63 (r63 T X hBb) fun g3 => ?_
  have eX : Ext Y (Y ++ g1 ++ g2 ++ g3) := Xx
  refine Rs (A5 @t2 @t5 @t9 @t11 @d0) ?_
  exact kp_D T (b2 := b2) (b5 := b5) (b9 := b9) (b11 := b11) X pw hl hx hZ Sn (Sq @t2) (Sq @t5) (Sq @t9) (Sq @t11) (e0.trans eX) (eX.some m2) (eX.some m5) (eX.some m9) (eX.some m11)
set_option maxHeartbeats 8000000 in
theorem kp_B (X : Xfl P) (pw : Pwr h) {l : Nat → Nat → Nat} (hl : trcOk l) {x : Nat} (hx : x < 65536) (hlen : ts.length = 261) (t1 : slot ts 1 = .int .u16 (x : Int)) (t2 : slot ts 2 = .ptr b2 0) (e0 : Ext h Y) (m2 : Y[b2]? = some (.cells (flC l) true false)) :
    WC P inFn kpB [] ts Y (FQ [(4, none)] fun v k => Ext h k ∧ v = .bool true) := by
  show WC P inFn (.seq _ (.seq _ (.seq _ (.seq _ (.seq _ kpC))))) _ _ _ _
  have bz : ∀ {N : Nat}, boxF (.agg [.cplx .f32 0 0, .cplx .f32 0 0, .cplx .f32 0 0, .cplx .f32 0 0, .cplx .f32 0 0, .cplx .f32 0 0, .cplx .f32 0 0, .cplx .f32 0 0, .cplx .f32 0 0, .cplx .f32 0 0, .cplx .f32 0 0, .cplx .f32 0 0, .cplx .f32 0 0, .cplx .f32 0 0, .cplx .f32 0 0, .cplx .f32 0 0]) N = some (.ptr N 0, .push (.cells (pnC fun _ _ => (0, 0)) true false)) := fun {N} => by rw [z_pn]; exact pn_box
  have bf : ∀ {N : Nat}, boxF (.agg [.flt .f32 0, .flt .f32 0, .flt .f32 0, .flt .f32 0, .flt .f32 0, .flt .f32 0, .flt .f32 0, .flt .f32 0, .flt .f32 0, .flt .f32 0, .flt .f32 0, .flt .f32 0, .flt .f32 0, .flt .f32 0, .flt .f32 0, .flt .f32 0]) N = some (.ptr N 0, .push (.cells (flC fun _ _ => 0) true false)) := fun {N} => rfl
  have st16 : ∀ {n : Nat} {W : Nat → Nat → Int × Int}, stB 16 0 (.agg (pnC W)) n (.cells (pnC fun _ _ => (0, 0)) true false) = some (undefA, .set n (.cells (pnC W) true false)) := fun {n W} => st_pn16
  have sf16 : ∀ {n : Nat} {W : Nat → Nat → Nat}, stB 16 0 (.agg (flC W)) n (.cells (flC fun _ _ => 0) true false) = some (undefA, .set n (.cells (flC W) true false)) := fun {n W} => (stB_agg rfl (flC_one W) (by show 0 + 16 ≤ 16; omega)).trans rfl
  have ldp : ∀ {W : Nat → Nat → Int × Int}, ldB (some 16) 0 (.cells (pnC W) true false) = some (.agg (pnC W), .keep) := fun {W} => rfl
  have ldf : ∀ {W : Nat → Nat → Nat}, ldB (some 16) 0 (.cells (flC W) true false) = some (.agg (flC W), .keep) := fun {W} => rfl
  obtain ⟨Z, hZ⟩ : ∃ Z, Z = trG (trcG l) 3 := ⟨_, rfl⟩
  have hZb : pnB Z := by rw [hZ]; exact pan_bd hl
  have rP : ∀ {H : AHeap}, Ext h H → RCall P 60 [.agg (flC l)] H (fun v _ => v = .tup [.agg (pnC Z), .int .i64 0]) := fun {H} e => by rw [hZ]; exact r60 T (pw.ext e) hl
  have rU : ∀ {H : AHeap}, Ext h H → RCall P 61 [.agg (pnC Z)] H (fun v _ => ∃ o : Nat → Nat → Nat, v = .tup [.agg (flC o), .int .i64 0] ∧ ∀ t n, t < 4 → n < 4 → gridE (o t n) = 0 ∧ gridN (o t n) = gridN (l t n)) := fun {H} e => by rw [hZ]; exact r61 T X (pw.ext e) hl
  have l2 := @ldx _ _ _ m2
  refine Rs (A4 @t1 @t2 @l2 @ldf) ?_
  refine WF.ce T.c60 (rP e0) fun g1 => ?_
  refine Rs (A4 @t1 @t2 @bz @st16) ?_
  obtain ⟨K1, hK1⟩ : ∃ K, K = Y ++ g1 ++ [ABlk.cells (pnC Z) true false] := ⟨_, rfl⟩
  have eK1 : Ext Y K1 := by rw [hK1]; exact Xx
  have m5 : K1[(Y ++ g1).length]? = some (.cells (pnC Z) true false) := by rw [hK1]; exact at_new
  obtain ⟨b5, hb5⟩ : ∃ b, b = (Y ++ g1).length := ⟨_, rfl⟩
  rw [← hb5] at m5
  rw [← hb5, ← hK1]
  clear hK1 hb5
  have l5 := @ldx _ _ _ m5
  refine Rs (A4 @t1 @t2 @l5 @ldp) ?_
  refine WF.res T.c61 (rU (e0.trans eK1)) ?_
  rintro _ g2 ⟨o, rfl, ho⟩
  refine Rs (A4 @t1 @t2 @bf @sf16) ?_
  obtain ⟨K2, hK2⟩ : ∃ K, K = K1 ++ g2 ++ [ABlk.cells (flC o) true false] := ⟨_, rfl⟩
  have eK2 : Ext K1 K2 := by rw [hK2]; exact Xx
  have m7 : K2[(K1 ++ g2).length]? = some (.cells (flC o) true false) := by rw [hK2]; exact at_new
  obtain ⟨b7, hb7⟩ : ∃ b, b = (K1 ++ g2).length := ⟨_, rfl⟩
  rw [← hb7] at m7
  rw [← hb7, ← hK2]
  clear hK2 hb7
  have l5 := @ldx _ _ _ (eK2.some m5)
  refine Rs (A4 @t1 @t2 @l5 @ldp) ?_
  refine WF.ce T.c62 (r62 T X hZb hx) fun g3 => ?_
  refine Rs (A4 @t1 @t2 @bz @st16) ?_
  obtain ⟨K3, hK3⟩ : ∃ K, K = K2 ++ g3 ++ [ABlk.cells (pnC (keepG x Z)) true false] := ⟨_, rfl⟩
  have eK3 : Ext K2 K3 := by rw [hK3]; exact Xx
  have m9 : K3[(K2 ++ g3).length]? = some (.cells (pnC (keepG x Z)) true false) := by rw [hK3]; exact at_new
  obtain ⟨b9, hb9⟩ : ∃ b, b = (K2 ++ g3).length := ⟨_, rfl⟩
  rw [← hb9] at m9
  rw [← hb9, ← hK3]
  clear hK3 hb9
  have xx := xor_u16 hx
  have l5 := @ldx _ _ _ ((eK2.trans eK3).some m5)
  refine Rs (A5 @t1 @t2 @l5 @ldp @xx) ?_
  refine WF.ce T.c62 (r62 T X hZb (show 65535 - x < 65536 by omega)) fun g4 => ?_
  refine Rs (A4 @t1 @t2 @bz @st16) ?_
  obtain ⟨K4, hK4⟩ : ∃ K, K = K3 ++ g4 ++ [ABlk.cells (pnC (keepG (65535 - x) Z)) true false] := ⟨_, rfl⟩
  have eK4 : Ext K3 K4 := by rw [hK4]; exact Xx
  have m11 : K4[(K3 ++ g4).length]? = some (.cells (pnC (keepG (65535 - x) Z)) true false) := by rw [hK4]; exact at_new
  obtain ⟨b11, hb11⟩ : ∃ b, b = (K3 ++ g4).length := ⟨_, rfl⟩
  rw [← hb11] at m11
  rw [← hb11, ← hK4]
  clear hK4 hb11
  have l9 := @ldx _ _ _ (eK4.some m9)
  refine Rs (A4 @t1 @t2 @l9 @ldp) ?_
  refine WF.ce T.c62 (r62 T X (keep_bd (x := x) hZb) hx) fun g5 => ?_
  rw [keep_keep]
  refine Rs (A4 @t1 @t2 @bz @st16) ?_
  obtain ⟨K5, hK5⟩ : ∃ K, K = K4 ++ g5 ++ [ABlk.cells (pnC (keepG x Z)) true false] := ⟨_, rfl⟩
  have eK5 : Ext K4 K5 := by rw [hK5]; exact Xx
  have m13 : K5[(K4 ++ g5).length]? = some (.cells (pnC (keepG x Z)) true false) := by rw [hK5]; exact at_new
  obtain ⟨b13, hb13⟩ : ∃ b, b = (K4 ++ g5).length := ⟨_, rfl⟩
  rw [← hb13] at m13
  rw [← hb13, ← hK5]
  clear hK5 hb13
  have f4 := eK4.trans eK5
  have f3 := eK3.trans f4
  have f2 := eK2.trans f3
  have f1 := eK1.trans f2
  exact kp_C T (b2 := b2) (b5 := b5) (b7 := b7) (b9 := b9) (b11 := b11) (b13 := b13) X pw hl ho hx hZ Sn (Sq @t2) Sw Sw Sw Sw Sw Sw Sw Sw Sw Sw (e0.trans f1) (f1.some m2) (f2.some m5) (f3.some m7) (f4.some m9) (eK5.some m11) m13
set_option maxHeartbeats 4000000 in
theorem r8 (X : Xfl P) (pw : Pwr h) (hw : ∀ k, Ext h k → RCall P 17 [] k (fun v _ => v = .bool true)) {l : Nat → Nat → Nat} {x : Nat} (hx : x < 65536) : RCall P 8 [.agg (flC l), .int .u16 (x : Int)] h (fun v _ => v = .bool true) := by
  refine .st2 261 T.mix T.c8 ?_;intro ts hlen t0 t1;unfold fn8
  show WC P inFn (.seq _ (.seq _ kpB)) _ _ _ _
  have bl : ∀ {N : Nat}, boxF (.agg (flC l)) N = some (.ptr N 0, .push (.cells (flC l) true false)) := fun {N} => fl_box
  have ldf : ∀ {W : Nat → Nat → Nat}, ldB (some 16) 0 (.cells (flC W) true false) = some (.agg (flC W), .keep) := fun {W} => rfl
  have d0 : decide ((0 : Int) ≠ 0) = false := rfl
  refine Rs (A3 @t0 @t1 @bl) ?_
  obtain ⟨H0, hH0⟩ : ∃ H0, H0 = h ++ [ABlk.cells (flC l) true false] := ⟨_, rfl⟩
  have e0 : Ext h H0 := by rw [hH0]; exact ⟨_, rfl⟩
  have m2 : H0[h.length]? = some (.cells (flC l) true false) := by rw [hH0]; exact at_new
  obtain ⟨b2, hb2⟩ : ∃ b2, b2 = h.length := ⟨_, rfl⟩
  rw [← hb2] at m2
  rw [← hH0, ← hb2]
  clear hH0 hb2
  refine WF.ce T.c17 (hw _ e0) fun g1 => ?_
  have l2 := @ldx _ _ _ m2
  refine Rs (A5 @t0 @t1 @Bool.not_true @l2 @ldf) ?_
  refine WF.res T.c59 (r59 T X l) ?_
  rintro _ g2 ⟨e, rfl, he⟩
  have e1 : Ext H0 (H0 ++ g1 ++ g2) := Xx
  by_cases hz : e = 0
  case neg =>
    have d1 : decide (e ≠ 0) = true := decide_eq_true hz
    refine Rs (A3 @t0 @t1 @d1) ?_
    refine WF.ce T.c17 (hw _ (e0.trans e1)) fun g3 => ?_
    refine Rs (A2 @t0 @t1) ?_
    exact ⟨e0.trans Xx, trivial⟩
  have d1 : decide (e ≠ 0) = false := decide_eq_false fun z => z hz
  refine Rs (A3 @t0 @t1 @d1) ?_
  exact kp_B T (b2 := b2) X pw (he hz) hx Sn (Sq @t1) Sw (e0.trans e1) (e1.some m2)
end
end Go.Abs
namespace Go.Abs

/-- Sixteen floats. -/
theorem tys_flts {h : AHeap} {k : FloatKind} : ∀ {n} {c}, TYs h (List.replicate n (.flt k)) c → ∃ nn : List Nat, c = nn.map (AV.flt k) ∧ nn.length = n
  | 0, c, x => by
    rw [List.replicate_zero, TYs] at x
    exact ⟨[], x, rfl⟩
  | n + 1, c, x => by
    rw [List.replicate_succ, TYs] at x
    obtain ⟨a, l', rfl, h1, x2⟩ := x
    rw [TY] at h1
    obtain ⟨b, rfl⟩ := h1
    obtain ⟨nn, rfl, hl⟩ := tys_flts x2
    exact ⟨b :: nn, rfl, by rw [List.length_cons, hl]⟩
theorem len_s {α : Type} {n : Nat} {bs : List α} (h : bs.length = n + 1) : ∃ a t, bs = a :: t ∧ t.length = n := by
  cases bs with
  | nil => cases h
  | cons a t => exact ⟨a, t, rfl, by simpa using h⟩
theorem fl_of {bs : List Nat} (h : bs.length = 16) : bs.map (AV.flt .f32) = flC fun t n => bs.getD (4 * t + n) 0 := by
  obtain ⟨a0, bs, e0, h1⟩ := len_s h
  subst e0
  obtain ⟨a1, bs, e1, h2⟩ := len_s h1
  subst e1
  obtain ⟨a2, bs, e2, h3⟩ := len_s h2
  subst e2
  obtain ⟨a3, bs, e3, h4⟩ := len_s h3
  subst e3
  obtain ⟨a4, bs, e4, h5⟩ := len_s h4
  subst e4
  obtain ⟨a5, bs, e5, h6⟩ := len_s h5
  subst e5
  obtain ⟨a6, bs, e6, h7⟩ := len_s h6
  subst e6
  obtain ⟨a7, bs, e7, h8⟩ := len_s h7
  subst e7
  obtain ⟨a8, bs, e8, h9⟩ := len_s h8
  subst e8
  obtain ⟨a9, bs, e9, h10⟩ := len_s h9
  subst e9
  obtain ⟨a10, bs, e10, h11⟩ := len_s h10
  subst e10
  obtain ⟨a11, bs, e11, h12⟩ := len_s h11
  subst e11
  obtain ⟨a12, bs, e12, h13⟩ := len_s h12
  subst e12
  obtain ⟨a13, bs, e13, h14⟩ := len_s h13
  subst e13
  obtain ⟨a14, bs, e14, h15⟩ := len_s h14
  subst e14
  obtain ⟨a15, bs, e15, h16⟩ := len_s h15
  subst e15
  obtain rfl := List.length_eq_zero_iff.1 h16
  rfl
theorem tya_fl44 {h : AHeap} {a : AV} (x : TYa h (.agg (List.replicate 16 (.flt .f32))) a) : ∃ l : Nat → Nat → Nat, a = .agg (flC l) := by
  obtain ⟨l, rfl, x⟩ := x
  obtain ⟨nn, rfl, hn⟩ := tys_flts x
  exact ⟨_, by rw [fl_of hn]⟩
end Go.Abs
