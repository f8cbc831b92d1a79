/- Contracts: the errors of tides. No condition. And what belongs to it. -/
import Derived.Test.YtbgldbmgjcgepaaGreatDoorFz5
import Derived.Laws.FloatBits
import Derived.Test.YtbgldbmgjcgepaaGreatDoorFz1
import Derived.Test.YtbgldbmgjcgepaaGreatDoorFz8
set_option linter.all false
namespace Go.Abs
theorem td_st {x : Int × Int} {b : Nat} {a0 a1 : AV} : stB 2 0 (.agg (ratR x)) b (.cells [a0, a1] true false) = some (undefA, .set b (.cells (ratR x) true false)) := rat_st
theorem td_a {x : Int × Int} : ldB (some 2) 0 (.cells (ratR x) true false) = some (.agg (ratR x), .keep) := rfl
theorem first_w2 (a b : Bool) (x y : Int) : firstS [whenS a x, whenS b y] = if whenS a x = 0 then whenS b y else whenS a x := by
  simp only [firstS]
  by_cases h : whenS a x = 0
  · rw [if_pos h, if_pos h]
    by_cases h2 : whenS b y = 0
    · rw [if_pos h2, h2]
    · rw [if_neg h2]
  · rw [if_neg h, if_neg h]
set_option maxRecDepth 10000
attribute [local irreducible] WP WC WE WB WR WF WL WG WRg WQ
section
variable {P : Program} (T : Tbl P) {h : AHeap}
include T
set_option maxHeartbeats 4000000 in
theorem r56 {s : AV} {l : List (Int × Int)} (hs : IsSl h s 2 (l.map ratR)) (hl : l.length < 2 ^ 40) : RCall P 56 [s] h (fun v _ => v = .int .i64 (chkTs l)) := by
  refine .st1 51 T.mix T.c56 ?_;intro ts hlen t0;unfold fn56
  refine Rs (A2 @t0 hs.lenm) ?_
  refine WF.ce T.c117 (r117 T _ _) fun g1 => ?_
  refine Rs (A2 @t0 hs.lenm) ?_
  refine WF.ce T.c117 (r117 T _ _) fun g2 => ?_
  refine Rs @t0 ?_
  refine WF.ce T.c116 (r116 T (isSl_ints [_, _]) (by simp)) fun g3 => ?_
  rw [first_w2]
  by_cases h1 : l.length = 0
  · have d1 : decide ((l.length : Int) = 0) = true := decide_eq_true (by omega)
    have e : chkTs l = 12 := if_pos h1
    have d2 : ∀ x : Bool, (if whenS true 12 = 0 then whenS x 5 else whenS true 12) = 12 := fun _ => rfl
    have d3 : decide ((12 : Int) ≠ 0) = true := rfl
    refine Rs (A4 @t0 @d1 @d2 @d3) ?_
    rw [e]
  have d1 : decide ((l.length : Int) = 0) = false := decide_eq_false (by omega)
  by_cases h2 : 16 < l.length
  · have d2 : decide ((16 : Int) < (l.length : Int)) = true := decide_eq_true (by omega)
    have e : chkTs l = 5 := (if_neg h1).trans (if_pos h2)
    have d4 : (if whenS false 12 = 0 then whenS true 5 else whenS false 12) = 5 := rfl
    have d3 : decide ((5 : Int) ≠ 0) = true := rfl
    refine Rs (A5 @t0 @d1 @d2 @d4 @d3) ?_
    rw [e]
  have d2 : decide ((16 : Int) < (l.length : Int)) = false := decide_eq_false (by omega)
  have e : chkTs l = chkTF l none := (if_neg h1).trans (if_neg h2)
  have d4 : (if whenS false 12 = 0 then whenS false 5 else whenS false 12) = 0 := rfl
  have d3 : decide ((0 : Int) ≠ 0) = false := rfl
  rw [e]
  refine Rs (A6 @t0 @d1 @d2 @d4 @d3 hs.lenm) ?_
  refine WL.inv T.mix (fun n ts K => ∃ k : Nat, k ≤ l.length ∧ n = l.length - k ∧ Ext h K ∧ chkTF l none = chkTF (l.drop k) (preT l k) ∧ ts.length = 51 ∧ slot ts 0 = s ∧ slot ts 4 = .func (.func 139) [] [] ∧ slot ts 21 = s ∧ slot ts 22 = .int .i64 l.length ∧ slot ts 23 = .int .i64 k) l.length
    ⟨0, by omega, rfl, Xx, rfl, Sn, (Sq @t0), Sw, (Sq @t0), Sw, Swr⟩ ?_
  clear hlen t0 d1 d2 d3 d4
  rintro _ ts K ⟨k, hk, rfl, eK, hf, hlen, t0, t4, t21, t22, t23⟩
  by_cases hlt : k < l.length
  case neg =>
    have e3 := dltF hlt
    have e4 : k = l.length := by omega
    rw [hf, e4, List.drop_length]
    refine Rs (A6 @t0 @t4 @t21 @t22 @t23 @e3) ?_
    exact ⟨eK, rfl⟩
  have e3 := dltT hlt
  have e5 := wrapN (n := k) (by omega)
  have hsK := hs.ext eK
  have ix := hsK.ixm (kk := .i64) hlt
  have ld : ∀ {kk : AHeap}, Ext K kk → loadF (some 2) (elp s 2 k) (fun b => kk[b]?) = some (.agg (ratR l[k]), .keep) := fun {kk} e => hsK.ldm hlt e
  have hd : l.drop k = l[k] :: l.drop (k + 1) := by simp
  have hpre := preT_succ hlt
  rw [hd, chkTF] at hf
  obtain ⟨x, hx⟩ : ∃ x, x = l[k] := ⟨_, rfl⟩
  rw [← hx] at ld hf hpre
  have st := @td_st x
  refine Rs (A9 @t0 @t4 @t21 @t22 @t23 @e3 @ix @ld @st) ?_
  obtain ⟨Y, hY⟩ : ∃ Z, Z = K ++ [ABlk.cells (ratR x) true false] := ⟨_, rfl⟩
  have mb : Y[K.length]? = some (.cells (ratR x) true false) := by rw [hY]; exact at_new
  have eY : Ext K Y := by rw [hY]; exact ⟨_, rfl⟩
  rw [← hY]
  have lb := @ldx _ _ _ mb
  by_cases hk0 : k = 0
  · have hlate : lateT (preT l k) x = false := by rw [hk0]; rfl
    have d0 : decide ((0 : Int) < (k : Int)) = false := decide_eq_false (by omega)
    rw [hlate] at hf
    have z3 : decide ((0 : Int) ≠ 0) = false := rfl
    refine Rs (A8 @t0 @t4 @t21 @t22 @t23 @lb @td_a @d0) ?_
    refine WF.ce T.c140 (r140 T x) fun g4 => ?_
    refine Rs (A6 @t0 @t4 @t21 @t22 @t23 @d0) ?_
    refine WF.ce T.c117 (r117 T _ _) fun g5 => ?_
    refine Rs (A5 @t0 @t4 @t21 @t22 @t23) ?_
    refine WF.ce T.c116 (r116 T (isSl_ints [_, _]) (by simp)) fun g6 => ?_
    have hfs : firstS [chkT1 x, whenS false 11] = chkT1 x := by
      simp only [firstS, whenS]
      by_cases hz : chkT1 x = 0
      · rw [if_pos hz, hz]; rfl
      · rw [if_neg hz]
    rw [hfs]
    by_cases hz : chkT1 x = 0
    · rw [if_neg (fun z => z hz), if_neg (by simp)] at hf
      refine Rs (A8 @t0 @t4 @t21 @t22 @t23 @hz @z3 @e5) ?_
      exact ⟨l.length - (k + 1), by omega, k + 1, by omega, rfl, eK.trans (eY.trans Xx), by rw [hf, hpre], rfl⟩
    · have d6 : decide (chkT1 x ≠ 0) = true := decide_eq_true hz
      rw [if_pos hz] at hf
      refine Rs (A6 @t0 @t4 @t21 @t22 @t23 @d6) ?_
      exact ⟨eK.trans (eY.trans Xx), by rw [hf]⟩
  · have hk1 : k - 1 < l.length := by omega
    have d0 : decide ((0 : Int) < (k : Int)) = true := decide_eq_true (by omega)
    have w1 : IntKind.i64.wrap ((k : Int) - 1) = ((k - 1 : Nat) : Int) := by rw [wrap_in (by omega) (by omega)]; omega
    have m1 : foldA max2A (.int .i64 0) [.int .i64 ((k - 1 : Nat) : Int)] = some (.int .i64 ((k - 1 : Nat) : Int)) := by rw [mx_2, Int.max_eq_right (by omega)]
    have ix1 := hsK.ixm (kk := .i64) hk1
    obtain ⟨y, hy⟩ : ∃ y, y = l[k - 1] := ⟨_, rfl⟩
    have ld1 : ∀ {kk : AHeap}, Ext K kk → loadF (some 2) (elp s 2 (k - 1)) (fun b => kk[b]?) = some (.agg (ratR y), .keep) := fun {kk} e => by rw [hy]; exact hsK.ldm hk1 e
    have ld1 : ∀ {kk : AHeap}, Ext Y kk → loadF (some 2) (elp s 2 (k - 1)) (fun b => kk[b]?) = some (.agg (ratR y), .keep) := fun {kk} e => ld1 (eY.trans e)
    have hp : preT l k = some y := by rw [preT, if_neg hk0, List.getElem?_eq_getElem hk1, hy]
    have hlate : lateT (preT l k) x = decide (x.1 ≤ y.1) := by rw [hp]; rfl
    rw [hlate] at hf
    have z3 : decide ((0 : Int) ≠ 0) = false := rfl
    have hcmp : decide ((if x.1 < y.1 then (-1 : Int) else if y.1 < x.1 then 1 else 0) ≤ 0) = decide (x.1 ≤ y.1) := by
      by_cases q1 : x.1 < y.1
      · rw [if_pos q1, decide_eq_true (by omega), decide_eq_true (by omega)]
      · rw [if_neg q1]
        by_cases q2 : y.1 < x.1
        · rw [if_pos q2, decide_eq_false (by omega), decide_eq_false (by omega)]
        · rw [if_neg q2, decide_eq_true (by omega), decide_eq_true (by omega)]
    refine Rs (A12 @t0 @t4 @t21 @t22 @t23 @lb @td_a @d0 @w1 @m1 @ix1 @ld1) ?_
    refine WF.ce T.c140 (r140 T x) fun g4 => ?_
    have lb := fun {kk n a} (e : Ext (Y ++ g4) kk) => lb (k := kk) (n := n) (a := a) ((show Ext Y (Y ++ g4) from ⟨_, rfl⟩).trans e)
    refine Rs (A12 @t0 @t4 @t21 @t22 @t23 @lb @td_a @d0 @w1 @m1 @ix1 @ld1) ?_
    refine WF.ce T.c139 (r139 T x y) fun g5 => ?_
    refine Rs (A6 @t0 @t4 @t21 @t22 @t23 @hcmp) ?_
    refine WF.ce T.c117 (r117 T _ _) fun g6 => ?_
    refine Rs (A5 @t0 @t4 @t21 @t22 @t23) ?_
    refine WF.ce T.c116 (r116 T (isSl_ints [_, _]) (by simp)) fun g7 => ?_
    by_cases hz : chkT1 x = 0
    · have d6 : decide (chkT1 x ≠ 0) = false := decide_eq_false fun z => z hz
      rw [if_neg (fun z => z hz)] at hf
      by_cases hq : x.1 ≤ y.1
      · have hfs : firstS [chkT1 x, whenS (decide (x.1 ≤ y.1)) 11] = 11 := by rw [hz, decide_eq_true hq]; rfl
        have d7 : decide ((11 : Int) ≠ 0) = true := rfl
        rw [hfs]
        rw [if_pos (decide_eq_true hq)] at hf
        refine Rs (A6 @t0 @t4 @t21 @t22 @t23 @d7) ?_
        exact ⟨eK.trans (eY.trans Xx), by rw [hf]⟩
      · have hfs : firstS [chkT1 x, whenS (decide (x.1 ≤ y.1)) 11] = 0 := by rw [hz, decide_eq_false hq]; rfl
        rw [hfs]
        rw [if_neg (by simpa using hq)] at hf
        refine Rs (A7 @t0 @t4 @t21 @t22 @t23 @z3 @e5) ?_
        exact ⟨l.length - (k + 1), by omega, k + 1, by omega, rfl, eK.trans (eY.trans Xx), by rw [hf, hpre], rfl⟩
    · have hfs : firstS [chkT1 x, whenS (decide (x.1 ≤ y.1)) 11] = chkT1 x := by simp only [firstS]; rw [if_neg hz]
      have d6 : decide (chkT1 x ≠ 0) = true := decide_eq_true hz
      rw [hfs]
      rw [if_pos hz] at hf
      refine Rs (A6 @t0 @t4 @t21 @t22 @t23 @d6) ?_
      exact ⟨eK.trans (eY.trans Xx), by rw [hf]⟩
end
end Go.Abs
namespace Go.Abs
def lvlD (l : List (Int × Int)) (k : Nat) (t : Int) : Int × Int := (lvlF (l.drop k) (preT l k) t).getD ((l.getD (l.length - 1) (0, 0)).2, 1)
theorem lvlD_end {l : List (Int × Int)} {t : Int} : lvlD l l.length t = ((l.getD (l.length - 1) (0, 0)).2, 1) := by rw [lvlD, List.drop_length]; rfl
theorem lvlD_step {l : List (Int × Int)} {k : Nat} (h : k < l.length) {t : Int} : lvlD l k t = if l[k].1 < t then lvlD l (k + 1) t else (match preT l k with
    | none => (l[k].2, 1)
    | some a => interT a l[k] t) := by
  have hd : l.drop k = l[k] :: l.drop (k + 1) := by simp
  have e : ∀ (b : Int × Int) r p, lvlF (b :: r) p t = if b.1 < t then lvlF r (some b) t else some (match p with
    | none => (b.2, 1)
    | some a => interT a b t) := fun b r p => rfl
  rw [lvlD, hd, e]
  by_cases hc : l[k].1 < t
  · rw [if_pos hc, if_pos hc, ← preT_succ h]; rfl
  · rw [if_neg hc, if_neg hc]; rfl
theorem ext_set {h K : AHeap} {B X : ABlk} (e : Ext (h ++ [B]) K) : Ext h (K.set h.length X) := by
  obtain ⟨z, rfl⟩ := e
  rw [List.append_assoc, List.set_append_right _ _ (Nat.le_refl _)]; exact ⟨_, rfl⟩
theorem box_s {K : AHeap} {b : Nat} {a0 a1 : AV} (m : K[b]? = some (.cells [a0, a1] true false)) {n d : Int} : storeF 2 (.ptr b 0) (.agg [.int .i64 n, .int .i64 d]) (fun z => K[z]?) = some (undefA, .set b (.cells [.int .i64 n, .int .i64 d] true false)) := by rw [storeF_at m]; exact rat_st
theorem box_l {K : AHeap} {b : Nat} {k0 : ABlk} (m : K[b]? = some k0) {n d : Int} : loadF (some 2) (.ptr b 0) (fun z => (K.set b (.cells [.int .i64 n, .int .i64 d] true false))[z]?) = some (.agg [.int .i64 n, .int .i64 d], .keep) := by
  rw [loadF_at (List.getElem?_set_self (List.getElem?_eq_some_iff.1 m).1)]; rfl
set_option maxRecDepth 10000
attribute [local irreducible] WP WC WE WB WR WF WL WG WRg WQ
section
variable {P : Program} (T : Tbl P) {h : AHeap}
include T
end
end Go.Abs
namespace Go.Abs
theorem ext_set2 {h K : AHeap} {B C X Y : ABlk} (e : Ext (h ++ [B] ++ [C]) K) : Ext h ((K.set (h.length + 1) X).set h.length Y) := by
  obtain ⟨z, rfl⟩ := e
  rw [List.append_assoc, List.append_assoc, List.set_append_right _ _ (by omega), List.set_append_right _ _ (Nat.le_refl _)]; exact ⟨_, rfl⟩
theorem set_ne' {K : AHeap} {a b : Nat} {X k : ABlk} (n : a ≠ b) (m : K[b]? = some k) : (K.set a X)[b]? = some k := by rw [List.getElem?_set_ne n]; exact m
theorem set_eq' {K : AHeap} {b : Nat} {X k : ABlk} (m : K[b]? = some k) : (K.set b X)[b]? = some X := List.getElem?_set_self (List.getElem?_eq_some_iff.1 m).1
set_option maxRecDepth 10000
attribute [local irreducible] WP WC WE WB WR WF WL WG WRg WQ
section
variable {P : Program} (T : Tbl P) {h : AHeap}
include T
set_option maxHeartbeats 4000000 in
theorem r138 {s : AV} {l : List (Int × Int)} (hs : IsSl h s 2 (l.map ratR)) (ok : TdOk l) (h1 : 1 ≤ l.length) (hl : l.length ≤ 16) {t : Int} (ht : 0 ≤ t ∧ t ≤ 100000) : RCall P 138 [s, .int .i64 t] h (fun v _ => v = .agg (ratR (lvlS l t))) := by
  refine .st2 65 T.mix T.c138 ?_;intro ts hlen t0 t1;unfold fn138
  have hlast : l.length - 1 < l.length := by omega
  have wl : IntKind.i64.wrap ((l.length : Int) - 1) = ((l.length - 1 : Nat) : Int) := by rw [wrap_in (by omega) (by omega)]; omega
  have hg : l.getD (l.length - 1) (0, 0) = l[l.length - 1] := by rw [List.getD_eq_getElem?_getD, List.getElem?_eq_getElem hlast]; rfl
  have hend : lvlD l l.length t = (l[l.length - 1].2, 1) := by rw [lvlD_end, hg]
  have hS : lvlS l t = lvlD l 0 t := rfl
  have ixl := hs.ixm (kk := .i64) hlast
  obtain ⟨w, hw⟩ : ∃ w, w = l[l.length - 1].2 := ⟨_, rfl⟩
  have ldl : ∀ {kk : AHeap}, Ext h kk → loadF none (elf s 2 (l.length - 1) 1) (fun b => kk[b]?) = some (.int .i64 w, .keep) := fun {kk} e => by rw [hw]; exact hs.lfm hlast rfl e
  rw [← hw] at hend
  rw [hS]
  have stw : ∀ {kk : AHeap}, storeF 2 (.ptr (h ++ [ABlk.cells [.int .i64 0, .int .i64 0] true false]).length 0) (.agg [.int .i64 w, .int .i64 1]) (fun z => (h ++ [ABlk.cells [.int .i64 0, .int .i64 0] true false] ++ [ABlk.cells [.int .i64 0, .int .i64 0] true false])[z]?) = some (undefA, .set (h ++ [ABlk.cells [.int .i64 0, .int .i64 0] true false]).length (.cells [.int .i64 w, .int .i64 1] true false)) := fun {_} => box_s at_new
  refine Rs (A8 @t0 @t1 hs.lenm @wl @ixl @fadr_el @ldl @stw) ?_
  have hB : (h ++ [ABlk.cells [.int .i64 0, .int .i64 0] true false]).length = h.length + 1 := by simp
  refine WL.inv T.mix (fun n ts K => ∃ k : Nat, k ≤ l.length ∧ n = l.length - k ∧ Ext (h ++ [ABlk.cells [.int .i64 0, .int .i64 0] true false] ++ [ABlk.cells [.int .i64 w, .int .i64 1] true false]) K ∧ lvlD l 0 t = lvlD l k t ∧ ts.length = 65 ∧ slot ts 0 = s ∧ slot ts 1 = .int .i64 t ∧ slot ts 4 = .ptr h.length 0 ∧ slot ts 5 = .ptr (h.length + 1) 0 ∧ slot ts 17 = s ∧ slot ts 18 = .int .i64 l.length ∧ slot ts 19 = .int .i64 k) l.length
    ⟨0, by omega, rfl, .refl _, rfl, Sn, (Sq @t0), (Sq @t1), Sw, (by rw [hB]; exact Zn trivial), Sw, Sw, Swr⟩ ?_
  clear hlen t0 t1 stw
  rintro _ ts K ⟨k, hk, rfl, eK, hf, hlen, t0, t1, t4, t5, t17, t18, t19⟩
  have ehK : Ext h K := Ext.trans (by rw [List.append_assoc]; exact ⟨_, rfl⟩) eK
  have hsK := hs.ext ehK
  have m4 : K[h.length]? = some (.cells [.int .i64 0, .int .i64 0] true false) := eK.some (by simp)
  have m5 : K[h.length + 1]? = some (.cells [.int .i64 w, .int .i64 1] true false) := eK.some (by simp)
  rw [hf]
  -- the way out: the level's box read, the result's box written and read
  have out : ∀ {Y : AHeap} {n d n0 d0 : Int}, Y[h.length]? = some (.cells [.int .i64 0, .int .i64 0] true false) → Y[h.length + 1]? = some (.cells [.int .i64 n0, .int .i64 d0] true false) →
      (loadF (some 2) (.ptr (h.length + 1) 0) (fun z => (Y.set (h.length + 1) (.cells [.int .i64 n, .int .i64 d] true false))[z]?) = some (.agg [.int .i64 n, .int .i64 d], .keep)) ∧
      (storeF 2 (.ptr h.length 0) (.agg [.int .i64 n, .int .i64 d]) (fun z => (Y.set (h.length + 1) (.cells [.int .i64 n, .int .i64 d] true false))[z]?) = some (undefA, .set h.length (.cells [.int .i64 n, .int .i64 d] true false))) ∧
      (loadF (some 2) (.ptr h.length 0) (fun z => ((Y.set (h.length + 1) (.cells [.int .i64 n, .int .i64 d] true false)).set h.length (.cells [.int .i64 n, .int .i64 d] true false))[z]?) = some (.agg [.int .i64 n, .int .i64 d], .keep)) := by
    intro Y n d n0 d0 ma mb
    have mc := set_ne' (X := .cells [.int .i64 n, .int .i64 d] true false) (show h.length + 1 ≠ h.length by omega) ma
    exact ⟨box_l mb, box_s mc, box_l mc⟩
  by_cases hlt : k < l.length
  case neg =>
    have e3 := dltF hlt
    have e4 : k = l.length := by omega
    rw [e4, hend]
    have l5 : loadF (some 2) (.ptr (h.length + 1) 0) (fun z => K[z]?) = some (.agg [.int .i64 w, .int .i64 1], .keep) := by rw [loadF_at m5]; rfl
    have s4 := @box_s K h.length _ _ m4 w 1
    have l4 := @box_l K h.length _ m4 w 1
    refine Rs (A11 @t0 @t1 @t4 @t5 @t17 @t18 @t19 @e3 @l5 @s4 @l4) ?_
    exact ⟨ext_set (h := h) (Ext.trans ⟨_, rfl⟩ eK), rfl⟩
  have e3 := dltT hlt
  have e5 := wrapN (n := k) (by omega)
  have ix := hsK.ixm (kk := .i64) hlt
  obtain ⟨x, hx⟩ : ∃ x, x = l[k] := ⟨_, rfl⟩
  have ld : ∀ {kk : AHeap}, Ext K kk → loadF (some 2) (elp s 2 k) (fun b => kk[b]?) = some (.agg (ratR x), .keep) := fun {kk} e => by rw [hx]; exact hsK.ldm hlt e
  have stp := lvlD_step hlt (t := t)
  rw [← hx] at stp
  have bx := @ok.r x (by rw [hx]; exact List.getElem_mem _)
  have st := @td_st x
  have r0 : ∀ {z : Int × Int}, (ratR z)[0]? = some (.int .i64 z.1) := fun {z} => rfl
  have r1 : ∀ {z : Int × Int}, (ratR z)[1]? = some (.int .i64 z.2) := fun {z} => rfl
  by_cases hc : x.1 < t
  · have d0 : decide (x.1 < t) = true := decide_eq_true hc
    rw [if_pos hc] at stp
    refine Rs (A15 @t0 @t1 @t4 @t5 @t17 @t18 @t19 @e3 @ix @ld @st @r0 @r1 @d0 @e5) ?_
    exact ⟨l.length - (k + 1), by omega, k + 1, by omega, rfl, eK.trans Xx, by rw [stp], rfl⟩
  have d0 : decide (x.1 < t) = false := decide_eq_false hc
  rw [if_neg hc] at stp
  refine Rs (A14 @t0 @t1 @t4 @t5 @t17 @t18 @t19 @e3 @ix @ld @st @r0 @r1 @d0) ?_
  have eY : Ext K (K ++ [ABlk.cells (ratR x) true false]) := ⟨_, rfl⟩
  have m7 : (K ++ [ABlk.cells (ratR x) true false])[K.length]? = some (.cells (ratR x) true false) := at_new
  have n5 : h.length + 1 ≠ K.length := fun z => by rw [z, List.getElem?_eq_none (Nat.le_refl _)] at m5; cases m5
  have m4Y := eY.some m4
  have m5Y := eY.some m5
  obtain ⟨Y, hY⟩ : ∃ Y, Y = K ++ [ABlk.cells (ratR x) true false] := ⟨_, rfl⟩
  rw [← hY] at eY m4Y m5Y m7 ⊢
  have s5 := @box_s Y (h.length + 1) _ _ m5Y x.2 1
  by_cases hk0 : k = 0
  · have d1 : decide ((0 : Int) < (k : Int)) = false := decide_eq_false (by omega)
    obtain ⟨l5, s4, l4⟩ := @out Y x.2 1 _ _ m4Y m5Y
    have hv : lvlD l k t = (x.2, 1) := by rw [stp, hk0]; rfl
    rw [hv]
    refine Rs (A12 @t0 @t1 @t4 @t5 @t17 @t18 @t19 @s5 @d1 @l5 @s4 @l4) ?_
    exact ⟨ext_set2 (eK.trans eY), rfl⟩
  have d1 : decide ((0 : Int) < (k : Int)) = true := decide_eq_true (by omega)
  have hkp : k - 1 < l.length := by omega
  have w1 : IntKind.i64.wrap ((k : Int) - 1) = ((k - 1 : Nat) : Int) := by rw [wrap_in (by omega) (by omega)]; omega
  have ix1 := hsK.ixm (kk := .i64) hkp
  obtain ⟨y, hy⟩ : ∃ y, y = l[k - 1] := ⟨_, rfl⟩
  have hp : preT l k = some y := by rw [preT, if_neg hk0, List.getElem?_eq_getElem hkp, hy]
  rw [hp] at stp
  have by' := @ok.r y (by rw [hy]; exact List.getElem_mem _)
  have hlt2 : y.1 < x.1 := by
    have := ok.o (k - 1) (by omega)
    rw [hx, hy]
    have e : k - 1 + 1 = k := by omega
    simp only [e] at this
    exact this
  obtain ⟨Z, hZ⟩ : ∃ Z, Z = Y.set (h.length + 1) (.cells [.int .i64 x.2, .int .i64 1] true false) := ⟨_, rfl⟩
  have m4Z : Z[h.length]? = some (.cells [.int .i64 0, .int .i64 0] true false) := by rw [hZ]; exact set_ne' (by omega) m4Y
  have m5Z : Z[h.length + 1]? = some (.cells [.int .i64 x.2, .int .i64 1] true false) := by rw [hZ]; exact set_eq' m5Y
  have m7Z : Z[K.length]? = some (.cells (ratR x) true false) := by rw [hZ]; exact set_ne' n5 m7
  have f7 := @ldx _ _ _ m7Z
  have ey : Ext (h ++ [ABlk.cells [.int .i64 0, .int .i64 0] true false] ++ [ABlk.cells [.int .i64 x.2, .int .i64 1] true false]) Z := by
    obtain ⟨z, hz⟩ := eK.trans eY
    rw [hZ, hz, List.append_assoc, List.append_assoc, List.set_append_right _ _ (by omega)]
    exact ⟨z, by simp⟩
  have hsZ := hs.ext (Ext.trans (by rw [List.append_assoc]; exact ⟨_, rfl⟩) ey)
  have ly : ∀ {kk : AHeap}, Ext Z kk → loadF (some 2) (elp s 2 (k - 1)) (fun b => kk[b]?) = some (.agg (ratR y), .keep) := fun {kk} e => by rw [hy]; exact hsZ.ldm hkp e
  have sty := @td_st y
  obtain ⟨q1, q2⟩ := inter_bd by' bx ht
  have w2 : IntKind.i64.wrap (x.1 - y.1) = x.1 - y.1 := wrap_in (by omega) (by omega)
  have w3 : IntKind.i64.wrap (x.2 - y.2) = x.2 - y.2 := wrap_in (by omega) (by omega)
  have w4 : IntKind.i64.wrap (t - y.1) = t - y.1 := wrap_in (by omega) (by omega)
  have w5 : IntKind.i64.wrap (y.2 * (x.1 - y.1)) = y.2 * (x.1 - y.1) := wrap_in (by omega) (by omega)
  have w6 : IntKind.i64.wrap ((x.2 - y.2) * (t - y.1)) = (x.2 - y.2) * (t - y.1) := wrap_in (by omega) (by omega)
  have w7 : IntKind.i64.wrap (y.2 * (x.1 - y.1) + (x.2 - y.2) * (t - y.1)) = y.2 * (x.1 - y.1) + (x.2 - y.2) * (t - y.1) := wrap_in (by omega) (by omega)
  refine Zs (A9 @t0 @t1 @t4 @t5 @t17 @t18 @t19 @s5 @d1) ?_
  rw [← hZ]
  refine Rs (A20 @t0 @t1 @t4 @t5 @t17 @t18 @t19 @w1 @ix1 @ly @sty @f7 @r0 @r1 @w2 @w3 @w4 @w5 @w6 @w7) ?_
  obtain ⟨n, hn⟩ : ∃ n, n = y.2 * (x.1 - y.1) + (x.2 - y.2) * (t - y.1) := ⟨_, rfl⟩
  have hi : lvlD l k t = ratI n (x.1 - y.1) := by rw [stp, hn]; rfl
  have hnb : -19200000 ≤ n ∧ n ≤ 19200000 := by rw [hn]; omega
  rw [← hn]
  refine WF.ce T.c129 (r129 T n (x.1 - y.1) (by omega) (by omega) (by omega)) fun g1 => ?_
  have eV : Ext Z ((Z ++ [ABlk.cells (ratR y) true false]) ++ g1) := by rw [List.append_assoc]; exact ⟨_, rfl⟩
  have m4V := eV.some m4Z
  have m5V := eV.some m5Z
  have eyV := ey.trans eV
  obtain ⟨V, hV⟩ : ∃ V, V = (Z ++ [ABlk.cells (ratR y) true false]) ++ g1 := ⟨_, rfl⟩
  rw [← hV] at m4V m5V eyV ⊢
  have s6 := @box_s V (h.length + 1) _ _ m5V (ratI n (x.1 - y.1)).1 (ratI n (x.1 - y.1)).2
  obtain ⟨l5, s4, l4⟩ := @out V (ratI n (x.1 - y.1)).1 (ratI n (x.1 - y.1)).2 _ _ m4V m5V
  rw [hi]
  unfold ratR
  refine Rs (A11 @t0 @t1 @t4 @t5 @t17 @t18 @t19 @s6 @l5 @s4 @l4) ?_
  exact ⟨ext_set2 eyV, trivial⟩
end
end Go.Abs
namespace Go.Abs
theorem WR.appR {P} {ro} {ks} {ts} {Q} {B Y} {s} {es w} {cs} {z} {d} {l}
    (hs : Fr B.length Y s es cs) (hz : z.length = es) (he : Ext B Y) (hes : 0 < es) (hsz : (cs.length + 1) * w ≤ 2 ^ 46)
    (K : ∀ (W5 : AHeap) (s' : AV), Ext B W5 → Fr B.length W5 s' es (cs ++ [z]) → s'.one = true → WP P ro l ks (put ts d s') W5 Q) :
    WR P ro (appT es w s (.slice Y.length 0 1 es) (fun b => (Y ++ [ABlk.cells z true true])[b]?) (Y ++ [ABlk.cells z true true]).length) false d l ks ts (Y ++ [ABlk.cells z true true]) Q := by
  have hyz : IsSl (Y ++ [ABlk.cells z true true]) (AV.slice Y.length 0 1 es) es [z] := by
    have := (Fr.push (N := 0) (es := es) (h := Y) (Nat.zero_le _) [z] (fun x hx => by rw [List.mem_singleton] at hx; rw [hx, hz])).isSl
    simpa using this
  refine WR.app1 (h0 := B) (cs := cs) (ys := [z]) (hs.app _) hyz hes (by simp) (by simpa using hsz) (he.trans (Ext.app _ (Ext.refl _))) ?_
  intro g' hl' hff hkp
  exact K _ _ ⟨_, rfl⟩ hff rfl
set_option maxRecDepth 10000
attribute [local irreducible] WP WC WE WB WR WF WL WG WRg WQ
section
variable {P : Program} (T : Tbl P) {h : AHeap}
include T
set_option maxHeartbeats 1000000 in
theorem r52 {s : AV} {l : List (Int × Int)} (hs : IsSl h s 2 (l.map ratR)) (hl : l.length < 2 ^ 40) (t : Int) : RCall P 52 [s, .int .i64 t] h (fun v _ => v = .tup [.agg (ratR (if firstS [chkTs l, rangeS t 0 100000] ≠ 0 then (0, 0) else lvlS l t)), .int .i64 (firstS [chkTs l, rangeS t 0 100000])]) := by
  refine .st2 20 T.mix T.c52 ?_;intro ts hlen t0 t1;unfold fn52
  refine Rs (A2 @t0 @t1) ?_
  refine WF.ce T.c56 (r56 T (hs.ext Xx) hl) fun g1 => ?_
  refine Rs (A2 @t0 @t1) ?_
  refine WF.ce T.c120 (r120 T _ _ _) fun g2 => ?_
  refine Rs (A2 @t0 @t1) ?_
  refine WF.ce T.c116 (r116 T (isSl_ints [_, _]) (by simp)) fun g3 => ?_
  by_cases hz : firstS [chkTs l, rangeS t 0 100000] = 0
  · have d1 : decide (firstS [chkTs l, rangeS t 0 100000] ≠ 0) = false := decide_eq_false fun z => z hz
    rw [if_neg (fun z => z hz)]
    obtain ⟨q1, q2⟩ := first2 hz
    obtain ⟨ok, hl1, hl2⟩ := chkTs_z q1
    refine Rs (A3 @t0 @t1 @d1) ?_
    refine WF.ce T.c138 (r138 T (hs.ext Xx) ok hl1 hl2 (rangeS_z.1 q2)) fun g4 => ?_
    obtain ⟨K, hK⟩ : ∃ K, K = h ++ [ABlk.cells [AV.int IntKind.i64 0, AV.int IntKind.i64 0] true false] ++ g1 ++ g2 ++
          [ABlk.cells [AV.int IntKind.i64 (chkTs l), AV.int IntKind.i64 (rangeS t 0 100000)] true true] ++ g3 ++ g4 := ⟨_, rfl⟩
    have eK : Ext (h ++ [ABlk.cells [AV.int IntKind.i64 0, AV.int IntKind.i64 0] true false]) K := by rw [hK]; exact Ext.trans ⟨g1, rfl⟩ (Ext.trans ⟨g2, rfl⟩ (Ext.trans ⟨_, rfl⟩ (Ext.trans ⟨g3, rfl⟩ ⟨g4, rfl⟩)))
    have m4 : K[h.length]? = some (.cells [.int .i64 0, .int .i64 0] true false) := eK.some at_new
    rw [← hK]
    have s4 := @box_s K h.length _ _ m4 (lvlS l t).1 (lvlS l t).2
    have l4 := @box_l K h.length _ m4 (lvlS l t).1 (lvlS l t).2
    unfold ratR
    refine Rs (A2 @s4 @l4) ?_
    exact ⟨ext_set eK, by rw [hz]⟩
  · have d1 : decide (firstS [chkTs l, rangeS t 0 100000] ≠ 0) = true := decide_eq_true hz
    rw [if_pos hz]
    refine Rs (A3 @t0 @t1 @d1) ?_
    rfl
end
end Go.Abs
namespace Go.Abs
open Ieee
theorem cut_zero (w : Toward) (neg : Bool) (n : Nat) : w.cut neg n 0 = n := by
  cases w <;> simp [Toward.cut, Nat.mod_one]
theorem word_read (f : Format) (neg : Bool) {r : Nat} (h : r < f.signWeight) : (f.word neg r / f.signWeight % 2 == 1) = neg ∧ f.word neg r % f.signWeight = r := by
  unfold Format.word
  cases neg with
  | false => exact ⟨by simp [Nat.div_eq_of_lt h], by simp [Nat.mod_eq_of_lt h]⟩
  | true =>
    have hp : 0 < f.signWeight := Nat.two_pow_pos _
    refine ⟨?_, ?_⟩
    · simp only [if_true]
      rw [Nat.add_div_left _ hp, Nat.div_eq_of_lt h]; rfl
    · simp only [if_true]
      rw [Nat.add_mod_left, Nat.mod_eq_of_lt h]
theorem read_nearest (f : Format) (neg : Bool) {mag : Nat} {place : Int} (hm : mag ≠ 0) (h1 : mag.log2 ≤ f.fractionBits) (h2 : f.leastPlace ≤ place) (h3 : place + mag.log2 - f.fractionBits - f.leastPlace + 3 ≤ (2 ^ f.exponentBits : Nat)) (h4 : 2 ≤ f.exponentBits) :
    ∃ k : Nat, f.leastPlace ≤ place - k ∧ f.read (f.nearest neg mag place) = .number neg (mag * 2 ^ k) (place - k) := by
  obtain ⟨l, hl⟩ : ∃ l, l = mag.log2 := ⟨_, rfl⟩
  have g1 : 2 ^ l ≤ mag := by rw [hl]; exact Nat.log2_self_le hm
  have g2 : mag < 2 ^ (l + 1) := by rw [hl]; exact Nat.lt_log2_self
  unfold Format.nearest
  rw [if_neg hm]
  dsimp only
  rw [← hl] at h1 h3 ⊢
  obtain ⟨last, hlast⟩ : ∃ x, x = max (place + l - f.fractionBits) f.leastPlace := ⟨_, rfl⟩
  rw [← hlast]
  have q1 : last ≤ place := by omega
  have q2 : f.leastPlace ≤ last := by omega
  have hd : (last - place).toNat = 0 := by omega
  rw [hd, cut_zero]
  obtain ⟨k, hk⟩ : ∃ k, k = (place - last).toNat := ⟨_, rfl⟩
  obtain ⟨d, hdd⟩ : ∃ d, d = (last - f.leastPlace).toNat := ⟨_, rfl⟩
  rw [← hk, ← hdd]
  have hkl : (place - k : Int) = last := by omega
  have hB : f.binade = 2 ^ f.fractionBits := rfl
  have hBp : 0 < f.binade := Nat.two_pow_pos _
  rw [Nat.shiftLeft_eq]
  obtain ⟨kept, hkept⟩ : ∃ x, x = mag * 2 ^ k := ⟨_, rfl⟩
  have hkL : k + l ≤ f.fractionBits := by omega
  have hp4 : 4 ≤ 2 ^ f.exponentBits := Nat.pow_le_pow_right (n := 2) (by decide) h4
  have u1 : kept < 2 * f.binade := by
    rw [hkept, hB]
    have a1 : mag * 2 ^ k < 2 ^ (l + 1) * 2 ^ k := Nat.mul_lt_mul_of_pos_right g2 (Nat.two_pow_pos _)
    rw [← Nat.pow_add] at a1
    have a2 : 2 ^ (l + 1 + k) ≤ 2 ^ (f.fractionBits + 1) := Nat.pow_le_pow_right (by decide) (by omega)
    rw [Nat.pow_succ 2 f.fractionBits] at a2
    omega
  have u2 : 0 < d → f.binade ≤ kept := fun hd0 => by
    rw [hkept, hB]
    have a1 : 2 ^ l * 2 ^ k ≤ mag * 2 ^ k := Nat.mul_le_mul_right _ g1
    rw [← Nat.pow_add] at a1
    have : l + k = f.fractionBits := by omega
    rw [this] at a1; exact a1
  rw [← hkept]
  have hinf : d * f.binade + kept < f.infRung := by
    have e : f.infRung = (2 ^ f.exponentBits - 1) * f.binade := rfl
    have : (d + 2) * f.binade ≤ f.infRung := by rw [e]; exact Nat.mul_le_mul_right _ (by omega)
    rw [Nat.add_mul] at this; omega
  rw [Nat.min_eq_left (by omega)]
  have hw := word_read f neg (r := d * f.binade + kept) (Nat.lt_trans hinf f.infRung_lt)
  refine ⟨k, by omega, ?_⟩
  rw [hkl]
  unfold Format.read
  dsimp only
  rw [hw.1, hw.2]
  by_cases hlow : d * f.binade + kept < f.binade
  · rw [if_pos hlow]
    have hd0 : d = 0 := by
      rcases Nat.eq_zero_or_pos d with h | h
      · exact h
      · have := u2 h; omega
    rw [hd0, Nat.zero_mul, Nat.zero_add]
    have : last = f.leastPlace := by omega
    rw [this, hkept]
  · rw [if_neg hlow, if_pos hinf]
    have hge : f.binade ≤ kept := by
      rcases Nat.eq_zero_or_pos d with h | h
      · rw [h, Nat.zero_mul] at hlow; omega
      · exact u2 h
    have e1 : d * f.binade + kept = (kept - f.binade) + f.binade * (d + 1) := by rw [Nat.mul_add, Nat.mul_comm f.binade d]; omega
    have e2 : (d * f.binade + kept) % f.binade = kept - f.binade := by rw [e1, Nat.add_mul_mod_self_left, Nat.mod_eq_of_lt (by omega)]
    have e3 : (d * f.binade + kept) / f.binade = d + 1 := by rw [e1, Nat.add_mul_div_left _ _ hBp, Nat.div_eq_of_lt (by omega)]; omega
    rw [e2, e3]
    have e4 : f.binade + (kept - f.binade) = kept := by omega
    have e5 : f.leastPlace + ((d + 1 - 1 : Nat) : Int) = last := by omega
    rw [e4, e5, hkept]
theorem log2_shift {m : Nat} (hm : m ≠ 0) (j : Nat) : (m * 2 ^ j).log2 = m.log2 + j := by
  have hp : 0 < 2 ^ j := Nat.two_pow_pos _
  refine (Nat.log2_eq_iff (Nat.mul_ne_zero hm (by omega))).2 ⟨?_, ?_⟩
  · rw [Nat.pow_add]; exact Nat.mul_le_mul_right _ (Nat.log2_self_le hm)
  · rw [show m.log2 + j + 1 = m.log2 + 1 + j by omega, Nat.pow_add]; exact Nat.mul_lt_mul_of_pos_right Nat.lt_log2_self hp
theorem cut_exact (neg : Bool) {n D : Nat} (hn : n ≠ 0) : Toward.even.cut neg (n * 2 ^ D) D = n := by
  have hp : 0 < 2 ^ D := Nat.two_pow_pos _
  have hl := log2_shift hn D
  unfold Toward.cut
  dsimp only
  rw [Nat.min_eq_left (by omega), Nat.shiftLeft_eq, Nat.one_mul, Nat.mul_div_cancel _ hp, Nat.mul_mod_left]
  have h1 : decide (2 ^ D < 2 * 0) = false := decide_eq_false (by omega)
  have h2 : (2 ^ D == 2 * 0) = false := by simp
  rw [h1, h2]; rfl
theorem nearest_shift (f : Format) (neg : Bool) {m j : Nat} {place : Int} (hm : m ≠ 0) (h1 : m.log2 ≤ f.fractionBits) (h2 : f.leastPlace ≤ place + j) : f.nearest neg (m * 2 ^ j) place = f.nearest neg m (place + j) := by
  have hp : 0 < 2 ^ j := Nat.two_pow_pos _
  unfold Format.nearest
  rw [if_neg hm, if_neg (Nat.mul_ne_zero hm (by omega))]
  dsimp only
  rw [log2_shift hm]
  have e1 : max (place + ((m.log2 + j : Nat) : Int) - f.fractionBits) f.leastPlace = max (place + (j : Int) + m.log2 - f.fractionBits) f.leastPlace := by congr 1; omega
  rw [e1]
  obtain ⟨last, hlast⟩ : ∃ x, x = max (place + (j : Int) + m.log2 - f.fractionBits) f.leastPlace := ⟨_, rfl⟩
  rw [← hlast]
  have hle : last ≤ place + j := by omega
  have hz : (last - (place + (j : Int))).toNat = 0 := by omega
  rw [hz, cut_zero, Nat.shiftLeft_eq, Nat.shiftLeft_eq]
  congr 2
  by_cases hc : last ≤ place
  · have hz2 : (last - place).toNat = 0 := by omega
    have e3 : j + (place - last).toNat = (place + (j : Int) - last).toNat := by omega
    rw [hz2, cut_zero, Nat.mul_assoc, ← Nat.pow_add, e3]
  · obtain ⟨D, hD⟩ : ∃ D, D = (last - place).toNat := ⟨_, rfl⟩
    have hz2 : (place - last).toNat = 0 := by omega
    rw [hz2, ← hD, Nat.pow_zero, Nat.mul_one]
    have e2 : m * 2 ^ j = m * 2 ^ (place + (j : Int) - last).toNat * 2 ^ D := by
      have e3 : (place + (j : Int) - last).toNat + D = j := by omega
      rw [Nat.mul_assoc, ← Nat.pow_add, e3]
    rw [e2, cut_exact]
    exact Nat.mul_ne_zero hm (Nat.pos_iff_ne_zero.1 (Nat.two_pow_pos _))
theorem read_zero (f : Format) (neg : Bool) (place : Int) : f.read (f.nearest neg 0 place) = .number neg 0 f.leastPlace := by
  unfold Format.nearest
  rw [if_pos rfl]
  have hw := word_read f neg (r := 0) (Nat.two_pow_pos _)
  unfold Format.read
  dsimp only
  rw [hw.1, hw.2, if_pos (show 0 < f.binade from Nat.two_pow_pos _)]
end Go.Abs
namespace Go.Abs
open Ieee
def sgN (s : Bool) (m : Nat) : Int := if s then -(m : Int) else m
def vl : Datum → Int
  | .number s m e => sgN s m * 2 ^ (e + 1200).toNat
  | _ => 0
theorem sgN_mul (s : Bool) (m n : Nat) : sgN s (m * n) = sgN s m * n := by
  cases s <;> simp [sgN, Int.neg_mul]
theorem signed_eq (s : Bool) (m u : Nat) : signed s m u = sgN s m * 2 ^ u := by
  unfold signed
  rw [Nat.shiftLeft_eq]
  cases s <;> simp [sgN, Int.neg_mul]
theorem cmp_int (a b : Int) : compare a b = if a < b then .lt else if a = b then .eq else .gt := rfl
theorem cmp_mul {a b c : Int} (hc : 0 < c) : compare (a * c) (b * c) = compare a b := by
  rw [cmp_int, cmp_int]
  by_cases h1 : a < b
  · rw [if_pos h1, if_pos (Int.mul_lt_mul_of_pos_right h1 hc)]
  · rw [if_neg h1, if_neg (fun z => h1 (Int.lt_of_mul_lt_mul_right z (Int.le_of_lt hc)))]
    by_cases h2 : a = b
    · rw [if_pos h2, if_pos (by rw [h2])]
    · rw [if_neg h2, if_neg (fun z => h2 (Int.eq_of_mul_eq_mul_right (by omega) z))]
theorem two_pos (n : Nat) : (0 : Int) < 2 ^ n := Int.pow_pos (by decide)
theorem vl_base {s : Bool} {m : Nat} {i b : Int} (hb : b ≤ i) (h0 : -1200 ≤ b) : vl (.number s m i) = signed s m (i - b).toNat * 2 ^ (b + 1200).toNat := by
  rw [signed_eq, Int.mul_assoc, ← Int.pow_add]
  show sgN s m * 2 ^ (i + 1200).toNat = _
  congr 2
  omega
theorem ord_vl {s t : Bool} {m n : Nat} {i j : Int} (hi : -1200 ≤ i) (hj : -1200 ≤ j) : (Datum.number s m i).order (.number t n j) = some (compare (vl (.number s m i)) (vl (.number t n j))) := by
  rw [vl_base (b := min i j) (by omega) (by omega), vl_base (s := t) (b := min i j) (by omega) (by omega), cmp_mul (two_pos _)]
  rfl
def Num (k : FloatKind) (b : Nat) (v : Int) : Prop := ∃ s m e, k.format.read b = .number s m e ∧ -1200 ≤ e ∧ v = vl (.number s m e)
theorem num_ord {k a b u v} (ha : Num k a u) (hb : Num k b v) : k.format.order a b = some (compare u v) := by
  obtain ⟨s, m, e, h1, h2, rfl⟩ := ha
  obtain ⟨t, n, d, h3, h4, rfl⟩ := hb
  unfold Format.order
  rw [h1, h3]; exact ord_vl h2 h4
theorem cmp_lt (u v : Int) : (some (compare u v) == some Ordering.lt) = decide (u < v) := by
  rw [cmp_int]
  by_cases h1 : u < v
  · rw [if_pos h1, decide_eq_true h1]; rfl
  · rw [if_neg h1, decide_eq_false h1]
    split <;> rfl
theorem cmp_eq (u v : Int) : (some (compare u v) == some Ordering.eq) = decide (u = v) := by
  rw [cmp_int]
  by_cases h1 : u < v
  · rw [if_pos h1, decide_eq_false (by omega)]; rfl
  · rw [if_neg h1]
    by_cases h2 : u = v
    · rw [if_pos h2, decide_eq_true h2]; rfl
    · rw [if_neg h2, decide_eq_false h2]; rfl
theorem cmp_gt (u v : Int) : (some (compare u v) == some Ordering.gt) = decide (v < u) := by
  rw [cmp_int]
  by_cases h1 : u < v
  · rw [if_pos h1, decide_eq_false (by omega)]; rfl
  · rw [if_neg h1]
    by_cases h2 : u = v
    · rw [if_pos h2, decide_eq_false (by omega)]; rfl
    · rw [if_neg h2, decide_eq_true (by omega)]; rfl
section
variable {k : FloatKind} {a b : Nat} {u v : Int} (ha : Num k a u) (hb : Num k b v)
include ha hb
theorem num_lss : binK .lss (.flt k a) (.flt k b) = some (.bool (decide (u < v))) := by
  simp only [binK, if_true, fltBin, num_ord ha hb, cmp_lt]
theorem num_gtr : binK .gtr (.flt k a) (.flt k b) = some (.bool (decide (v < u))) := by
  simp only [binK, if_true, fltBin, num_ord ha hb, cmp_gt]
theorem num_eql : binK .eql (.flt k a) (.flt k b) = some (.bool (decide (u = v))) := by
  simp only [binK, if_true, fltBin, num_ord ha hb, cmp_eq]
theorem num_neq : binK .neq (.flt k a) (.flt k b) = some (.bool (decide (u ≠ v))) := by
  simp only [binK, if_true, fltBin, num_ord ha hb, bne, cmp_eq]
  by_cases h : u = v <;> simp [h]
theorem num_leq : binK .leq (.flt k a) (.flt k b) = some (.bool (decide (u ≤ v))) := by
  simp only [binK, if_true, fltBin, num_ord ha hb, cmp_lt, cmp_eq]
  congr 2
  by_cases h : u < v
  · simp [h, Int.le_of_lt h]
  · by_cases h2 : u = v
    · simp [h2]
    · rw [decide_eq_false h, decide_eq_false h2, decide_eq_false (by omega)]; rfl
end
def ExF (f : Format) (m : Nat) (i : Int) : Prop := m = 0 ∨ ∃ m' j : Nat, m = m' * 2 ^ j ∧ m' ≠ 0 ∧ m'.log2 ≤ f.fractionBits ∧ f.leastPlace ≤ i + j ∧ i + j + m'.log2 - f.fractionBits - f.leastPlace + 3 ≤ (2 ^ f.exponentBits : Nat)
theorem least_ge (k : FloatKind) : -1200 ≤ k.format.leastPlace := by cases k <;> decide
theorem exp_ge (k : FloatKind) : 2 ≤ k.format.exponentBits := by cases k <;> decide
theorem num_write {k : FloatKind} {s : Bool} {m : Nat} {i : Int} (hi : -1200 ≤ i) (h : ExF k.format m i) : Num k (k.format.write (.number s m i)) (vl (.number s m i)) := by
  have hl := least_ge k
  show Num k (k.format.nearest s m i) _
  rcases h with rfl | ⟨m', j, rfl, h1, h2, h3, h4⟩
  · exact ⟨s, 0, _, read_zero _ _ _, hl, by cases s <;> simp [vl, sgN]⟩
  · rw [nearest_shift _ _ h1 h2 h3]
    obtain ⟨q, h5, h6⟩ := read_nearest k.format s h1 h2 h3 h4 (exp_ge k)
    refine ⟨s, _, _, h6, by omega, ?_⟩
    show sgN s (m' * 2 ^ j) * 2 ^ (i + 1200).toNat = sgN s (m' * 2 ^ q) * 2 ^ (i + j - q + 1200).toNat
    rw [sgN_mul, sgN_mul, Int.mul_assoc, Int.mul_assoc]
    congr 1
    have e : ∀ a b : Nat, ((2 ^ a : Nat) : Int) * 2 ^ b = 2 ^ (a + b) := fun a b => by rw [Int.natCast_pow, Int.pow_add]; rfl
    rw [e, e]
    congr 1
    omega
end Go.Abs
namespace Go.Abs
open Ieee
theorem read_fin {f : Format} {w : Nat} {s m e} (h : f.read w = .number s m e) : m < 2 * f.binade ∧ f.leastPlace ≤ e := by
  have hp : 0 < f.binade := Nat.two_pow_pos _
  unfold Format.read at h
  dsimp only at h
  split at h
  · cases h; exact ⟨by omega, Int.le_refl _⟩
  · split at h
    · cases h
      have := Nat.mod_lt (w % f.signWeight) hp
      exact ⟨by omega, by omega⟩
    · split at h <;> cases h
theorem log_fin {f : Format} {w : Nat} {s m e} (h : f.read w = .number s m e) (hm : m ≠ 0) : m.log2 ≤ f.fractionBits := by
  have h1 := (read_fin h).1
  have h2 := Nat.log2_self_le hm
  have e : 2 * f.binade = 2 ^ (f.fractionBits + 1) := by rw [Nat.pow_succ]; show 2 * 2 ^ f.fractionBits = _; omega
  rw [e] at h1
  have := (Nat.pow_lt_pow_iff_right (a := 2) (by decide)).1 (Nat.lt_of_le_of_lt h2 h1)
  omega
def bU : Nat := 1200
theorem bU_eq : (bU : Int) = 1200 := rfl
def UU : Int := 2 ^ bU
theorem UU_pos : 0 < UU := two_pos _
theorem vl_at {s : Bool} {m : Nat} {e : Int} (he : 0 ≤ e) : vl (.number s m e) = sgN s m * 2 ^ e.toNat * UU := by
  show sgN s m * 2 ^ (e + 1200).toNat = _
  have h1 := bU_eq
  have h2 : (e + 1200).toNat = e.toNat + bU := by omega
  rw [Int.mul_assoc, UU, ← Int.pow_add, h2]
theorem sgN_int (n : Int) : sgN (decide (n < 0)) n.natAbs = n := by
  by_cases h : n < 0
  · rw [decide_eq_true h]; unfold sgN; simp only [if_true]; omega
  · rw [decide_eq_false h]; unfold sgN; simp only [Bool.false_eq_true, if_false]; omega
theorem num_int {k : FloatKind} {n : Int} (h : n.natAbs < 2 ^ (k.format.fractionBits + 1)) : Num k (k.nearest n) (n * UU) := by
  have hx : ExF k.format n.natAbs 0 := by
    by_cases hz : n.natAbs = 0
    · exact .inl hz
    · have h2 := Nat.log2_self_le hz
      have := (Nat.pow_lt_pow_iff_right (a := 2) (by decide)).1 (Nat.lt_of_le_of_lt h2 h)
      refine .inr ⟨n.natAbs, 0, by simp, hz, by omega, ?_, ?_⟩
      · cases k <;> decide
      · cases k
        · have e1 : FloatKind.f32.format.fractionBits = 23 := rfl
          have e2 : FloatKind.f32.format.leastPlace = -149 := by decide
          have e3 : (2 ^ FloatKind.f32.format.exponentBits : Nat) = 256 := by decide
          rw [e1, e2, e3]; rw [e1] at this; omega
        · have e1 : FloatKind.f64.format.fractionBits = 52 := rfl
          have e2 : FloatKind.f64.format.leastPlace = -1074 := by decide
          have e3 : (2 ^ FloatKind.f64.format.exponentBits : Nat) = 2048 := by decide
          rw [e1, e2, e3]; rw [e1] at this; omega
  have := num_write (s := decide (n < 0)) (by omega) hx
  rw [vl_at (Int.le_refl 0), sgN_int] at this
  simp only [Int.toNat_zero, Int.pow_zero, Int.mul_one] at this
  exact this
theorem toInt_vl {s : Bool} {m : Nat} {e : Int} (h0 : -1200 ≤ e) : (Datum.number s m e).toInt .zero = some ((vl (.number s m e)).tdiv UU) := by
  have hz : ∀ n d : Nat, Toward.zero.cut s n d = n / 2 ^ d := fun n d => by
    unfold Toward.cut
    dsimp only
    rw [Nat.shiftLeft_eq, Nat.one_mul]
    show _ + 0 = _
    rw [Nat.add_zero]
    by_cases hd : d ≤ n.log2 + 2
    · rw [Nat.min_eq_left hd]
    · rw [Nat.min_eq_right (by omega)]
      have a1 : n < 2 ^ (n.log2 + 2) := Nat.lt_of_lt_of_le Nat.lt_log2_self (Nat.pow_le_pow_right (by decide) (by omega))
      have a2 : n < 2 ^ d := Nat.lt_of_lt_of_le a1 (Nat.pow_le_pow_right (by decide) (by omega))
      rw [Nat.div_eq_of_lt a1, Nat.div_eq_of_lt a2]
  have key : ∀ q : Nat, signed s q 0 = sgN s q := fun q => by rw [signed_eq, Int.pow_zero, Int.mul_one]
  unfold Datum.toInt Datum.integral
  dsimp only
  rw [hz, key, Nat.shiftLeft_eq]
  congr 1
  have hU : UU ≠ 0 := by have := UU_pos; omega
  by_cases he : 0 ≤ e
  · rw [vl_at he, Int.mul_tdiv_cancel _ hU, show (-e).toNat = 0 by omega, Nat.pow_zero, Nat.div_one, sgN_mul, Int.natCast_pow]; rfl
  · have e1 : UU = 2 ^ (e + 1200).toNat * 2 ^ (-e).toNat := by
      have h1 := bU_eq
      have h2 : (e + 1200).toNat + (-e).toNat = bU := by omega
      rw [UU, ← Int.pow_add, h2]
    have e2 : vl (.number s m e) = sgN s m * 2 ^ (e + 1200).toNat := rfl
    rw [e2, e1, Int.mul_comm (sgN s m), Int.mul_tdiv_mul_of_pos _ _ (two_pos _), show e.toNat = 0 by omega, Nat.pow_zero, Nat.mul_one]
    have hc : ((2 ^ (-e).toNat : Nat) : Int) = 2 ^ (-e).toNat := by rw [Int.natCast_pow]; rfl
    cases s
    · show ((m / 2 ^ (-e).toNat : Nat) : Int) = (m : Int).tdiv _
      rw [← hc, ← Int.ofNat_tdiv]
    · show -((m / 2 ^ (-e).toNat : Nat) : Int) = (-(m : Int)).tdiv _
      rw [← hc, Int.neg_tdiv, ← Int.ofNat_tdiv]
theorem num_toInt {k b v} (h : Num k b v) : (k.decode b).toInt .zero = some (v.tdiv UU) := by
  obtain ⟨s, m, e, h1, h2, rfl⟩ := h
  show (k.format.read b).toInt .zero = _
  rw [h1]; exact toInt_vl h2
theorem num_nan {k b v} (h : Num k b v) : nanB k b = false := by
  obtain ⟨s, m, e, h1, _, _⟩ := h
  rw [nanB_isNaN, h1]; rfl
theorem sub_self {k b v} (h : Num k b v) : binK .sub (.flt k b) (.flt k b) = some (.flt k 0) := by
  obtain ⟨s, m, e, h1, _, _⟩ := h
  have : k.format.sub b b = some 0 := by
    unfold Format.sub
    rw [h1]
    have hs : (Datum.number s m e).sum (Datum.number s m e).opposite = some (.number false 0 e) := by
      unfold Datum.opposite Datum.sum
      dsimp only
      have ht : signed s m (e - min e e).toNat + signed (!s) m (e - min e e).toNat = 0 := by
        rw [signed_eq, signed_eq]
        cases s <;> simp [sgN] <;> omega
      rw [ht]
      cases s <;> simp
    rw [hs]
    show some (k.format.nearest false 0 e) = some 0
    unfold Format.nearest
    rw [if_pos rfl]; rfl
  simp only [binK, if_true, fltBin, this, fltRes]
end Go.Abs
namespace Go.Abs
open Ieee
theorem read_fin2 {f : Format} {w : Nat} {s m e} (h : f.read w = .number s m e) (h2 : 2 ≤ f.exponentBits) : e - f.leastPlace + 3 ≤ (2 ^ f.exponentBits : Nat) := by
  have hp : 0 < f.binade := Nat.two_pow_pos _
  have hp4 : 4 ≤ 2 ^ f.exponentBits := Nat.pow_le_pow_right (n := 2) (by decide) h2
  unfold Format.read at h
  dsimp only at h
  split at h
  · cases h; omega
  · split at h
    · rename_i h3
      cases h
      have e1 : f.infRung = (2 ^ f.exponentBits - 1) * f.binade := rfl
      rw [e1] at h3
      have := (Nat.div_lt_iff_lt_mul hp).2 h3
      omega
    · split at h <;> cases h
def c16 : FloatKind → Nat
  | .f32 => 1098907648
  | .f64 => 4625196817309499392
theorem read_c16 (k : FloatKind) : k.format.read (c16 k) = .number false (2 ^ k.format.fractionBits) (4 - (k.format.fractionBits : Int)) := by cases k <;> decide
theorem sgN_abs (s : Bool) (m : Nat) : (sgN s m).natAbs = m := by cases s <;> simp [sgN]
theorem abs_pow (n : Nat) : ((2 : Int) ^ n).natAbs = 2 ^ n := by rw [Int.natAbs_pow]; rfl
theorem vl_abs (s : Bool) (m : Nat) (e : Int) : (vl (.number s m e)).natAbs = m * 2 ^ (e + 1200).toNat := by
  show (sgN s m * 2 ^ (e + 1200).toNat).natAbs = _
  rw [Int.natAbs_mul, sgN_abs, abs_pow]
theorem UU_abs : UU.natAbs = 2 ^ bU := abs_pow _
theorem pow_le' {a b : Nat} (h : 2 ^ a ≤ 2 ^ b) : a ≤ b := (Nat.pow_le_pow_iff_right (a := 2) (by decide)).1 h
theorem pow_lt' {a b : Nat} (h : 2 ^ a < 2 ^ b) : a < b := (Nat.pow_lt_pow_iff_right (a := 2) (by decide)).1 h
theorem vl_le {s m e} (hm : m ≠ 0) (he : -1200 ≤ e) {c : Nat} (h : (vl (.number s m e)).natAbs ≤ 2 ^ c * UU.natAbs) : e + m.log2 ≤ c := by
  rw [vl_abs, UU_abs, ← Nat.pow_add] at h
  have h2 : 2 ^ m.log2 * 2 ^ (e + 1200).toNat ≤ m * 2 ^ (e + 1200).toNat := Nat.mul_le_mul_right _ (Nat.log2_self_le hm)
  rw [← Nat.pow_add] at h2
  have := pow_le' (Nat.le_trans h2 h)
  have h1 := bU_eq
  omega
theorem vl_ge {s m e} (he : -1200 ≤ e) (h : UU.natAbs ≤ (vl (.number s m e)).natAbs) : 0 ≤ e + m.log2 := by
  rw [vl_abs, UU_abs] at h
  have h2 : m * 2 ^ (e + 1200).toNat < 2 ^ (m.log2 + 1) * 2 ^ (e + 1200).toNat := Nat.mul_lt_mul_of_pos_right Nat.lt_log2_self (Nat.two_pow_pos _)
  rw [← Nat.pow_add] at h2
  have := pow_lt' (Nat.lt_of_le_of_lt h h2)
  have h1 := bU_eq
  omega
theorem fmt_facts (k : FloatKind) : (k.format.fractionBits = 23 ∧ k.format.leastPlace = -149 ∧ (2 ^ k.format.exponentBits : Nat) = 256) ∨ (k.format.fractionBits = 52 ∧ k.format.leastPlace = -1074 ∧ (2 ^ k.format.exponentBits : Nat) = 2048) := by
  cases k
  · exact .inl ⟨rfl, by decide, by decide⟩
  · exact .inr ⟨rfl, by decide, by decide⟩
theorem vl_scale {s : Bool} {m j : Nat} {i i' : Int} (h0 : -1200 ≤ i) (hi : i + j = i') : vl (.number s (m * 2 ^ j) i) = vl (.number s m i') := by
  show sgN s (m * 2 ^ j) * 2 ^ (i + 1200).toNat = sgN s m * 2 ^ (i' + 1200).toNat
  rw [sgN_mul, Int.natCast_pow, Int.mul_assoc]
  have e : (i' + 1200).toNat = j + (i + 1200).toNat := by omega
  rw [e, Int.pow_add]; rfl
theorem vl_up {s : Bool} {m : Nat} {i : Int} (h0 : -1200 ≤ i) : vl (.number s m (i + 4)) = 16 * vl (.number s m i) := by
  show sgN s m * 2 ^ (i + 4 + 1200).toNat = 16 * (sgN s m * 2 ^ (i + 1200).toNat)
  have e : (i + 4 + 1200).toNat = (i + 1200).toNat + 4 := by omega
  rw [e, Int.pow_add, ← Int.mul_assoc, Int.mul_comm]; rfl
theorem mul16 {k b v} (h : Num k b v) (hv : v.natAbs ≤ 2 ^ 10 * UU.natAbs) : ∃ q, binK .mul (.flt k b) (.flt k (c16 k)) = some (.flt k q) ∧ binK .mul (.flt k (c16 k)) (.flt k b) = some (.flt k q) ∧ Num k q (16 * v) := by
  obtain ⟨s, m, e, h1, h2, rfl⟩ := h
  have hc := read_c16 k
  have hf := fmt_facts k
  have hl := (read_fin h1).2
  obtain ⟨F, hF⟩ : ∃ F, F = k.format.fractionBits := ⟨_, rfl⟩
  have p1 : k.format.mul b (c16 k) = some (k.format.write (.number s (m * 2 ^ F) (e + (4 - (F : Int))))) := by
    unfold Format.mul; rw [h1, hc, ← hF]; simp [Datum.product]
  have p2 : k.format.mul (c16 k) b = some (k.format.write (.number s (m * 2 ^ F) (e + (4 - (F : Int))))) := by
    unfold Format.mul; rw [h1, hc, ← hF]; simp [Datum.product, Nat.mul_comm, Int.add_comm]
  refine ⟨k.format.write (.number s (m * 2 ^ F) (e + (4 - (F : Int)))), ?_, ?_, ?_⟩
  · simp only [binK, if_true, fltBin, p1, fltRes]
  · simp only [binK, if_true, fltBin, p2, fltRes]
  · have hx : ExF k.format (m * 2 ^ F) (e + (4 - (F : Int))) := by
      by_cases hm : m = 0
      · exact .inl (by rw [hm, Nat.zero_mul])
      · have hb := vl_le hm h2 hv
        exact .inr ⟨m, F, rfl, hm, log_fin h1 hm, by omega, by omega⟩
    have := num_write (k := k) (s := s) (by omega) hx
    rw [vl_scale (i' := e + 4) (by omega) (by omega), vl_up h2] at this
    exact this
theorem quo16 {k b v} (h : Num k b v) (hv : v = 0 ∨ UU.natAbs ≤ v.natAbs) : ∃ q w, binK .quo (.flt k b) (.flt k (c16 k)) = some (.flt k q) ∧ Num k q w ∧ 16 * w = v := by
  obtain ⟨s, m, e, h1, h2, rfl⟩ := h
  have hc := read_c16 k
  have hf := fmt_facts k
  have hl := (read_fin h1).2
  have hu := read_fin2 h1 (exp_ge k)
  obtain ⟨F, hF⟩ : ∃ F, F = k.format.fractionBits := ⟨_, rfl⟩
  have hp : 0 < 2 ^ F := Nat.two_pow_pos _
  by_cases hm : m = 0
  · subst hm
    have p1 : k.format.div b (c16 k) = some (k.format.write (.number s 0 (e - (4 - (F : Int)) - ((F + 2 + (2 ^ F).log2 : Nat) : Int) - 1))) := by
      unfold Format.div; rw [h1, hc, ← hF]
      show Option.map k.format.write (if 2 ^ F = 0 then _ else _) = _
      rw [if_neg (by omega)]
      simp [Nat.shiftLeft_eq]
    refine ⟨_, _, by simp only [binK, if_true, fltBin, p1, fltRes]; rfl, num_write ?_ (.inl rfl), by simp [vl, sgN]⟩
    have : (2 ^ F).log2 = F := Nat.log2_two_pow
    omega
  · have hlm := log_fin h1 hm
    have hlF : (2 ^ F).log2 = F := Nat.log2_two_pow
    obtain ⟨t, ht⟩ : ∃ t, t = F + 2 - m.log2 := ⟨_, rfl⟩
    have hmore : F + 2 + (2 ^ F).log2 - m.log2 = t + F := by omega
    have p1 : k.format.div b (c16 k) = some (k.format.write (.number s (m * 2 ^ (t + 1)) (e - (4 - (F : Int)) - ((t + F : Nat) : Int) - 1))) := by
      unfold Format.div; rw [h1, hc, ← hF]
      show Option.map k.format.write (if 2 ^ F = 0 then _ else _) = _
      rw [if_neg (by omega)]
      rw [hmore, Nat.shiftLeft_eq, Nat.pow_add, ← Nat.mul_assoc, Nat.mul_div_cancel _ hp, Nat.mul_mod_left]
      have e2 : 2 * (m * 2 ^ t) + ((0 : Nat) != 0).toNat = m * 2 ^ (t + 1) := by
        rw [Nat.pow_succ]
        show 2 * (m * 2 ^ t) + 0 = _
        rw [Nat.add_zero, Nat.mul_comm 2, Nat.mul_assoc]
      rw [e2]
      simp
    have hx : ExF k.format (m * 2 ^ (t + 1)) (e - (4 - (F : Int)) - ((t + F : Nat) : Int) - 1) := by
      have hg : UU.natAbs ≤ (vl (.number s m e)).natAbs := by
        rcases hv with hv | hv
        · have h3 := vl_abs s m e
          rw [hv] at h3
          have : 0 < m * 2 ^ (e + 1200).toNat := Nat.mul_pos (by omega) (Nat.two_pow_pos _)
          simp at h3
          omega
        · exact hv
      have hb := vl_ge h2 hg
      exact .inr ⟨m, t + 1, rfl, hm, hlm, by omega, by omega⟩
    refine ⟨_, _, by simp only [binK, if_true, fltBin, p1, fltRes]; rfl, num_write (by omega) hx, ?_⟩
    rw [vl_scale (i' := e - 4) (by omega) (by omega), ← vl_up (by omega), show e - 4 + 4 = e by omega]
end Go.Abs
namespace Go.Abs
open Ieee
theorem flt_cases (k : FloatKind) (b : Nat) : (∃ v, Num k b v) ∨ (∃ t, k.format.read b = .infinity t) ∨ ∃ s t, k.format.read b = .nan s t := by
  cases h : k.format.read b with
  | number s m e => exact .inl ⟨_, s, m, e, h, by have := (read_fin h).2; have := least_ge k; omega, rfl⟩
  | infinity t => exact .inr (.inl ⟨t, rfl⟩)
  | nan s t => exact .inr (.inr ⟨s, t, rfl⟩)
theorem num32_bd {b v} (h : Num .f32 b v) : v.natAbs ≤ 2 ^ 128 * UU.natAbs := by
  obtain ⟨s, m, e, h1, h2, rfl⟩ := h
  have hu := read_fin2 h1 (exp_ge .f32)
  have hm := (read_fin h1).1
  rw [vl_abs, UU_abs, ← Nat.pow_add]
  rcases fmt_facts .f32 with ⟨f1, f2, f3⟩ | ⟨f1, _, _⟩
  · have e1 : 2 * FloatKind.f32.format.binade = 2 ^ 24 := by decide
    rw [e1] at hm
    have h3 : m * 2 ^ (e + 1200).toNat ≤ 2 ^ 24 * 2 ^ (e + 1200).toNat := Nat.mul_le_mul_right _ (by omega)
    rw [← Nat.pow_add] at h3
    refine Nat.le_trans h3 (Nat.pow_le_pow_right (by decide) ?_)
    have h1 := bU_eq
    omega
  · cases f1
theorem num_f2f {b v} (h : Num .f32 b v) : ∃ q, (∀ {G : Nat → Option ABlk} {N : Nat}, convT (.f2f .f64) (.flt .f32 b) G N = some (.flt .f64 q, .keep)) ∧ Num .f64 q v := by
  obtain ⟨s, m, e, h1, h2, rfl⟩ := h
  have hu := read_fin2 h1 (exp_ge .f32)
  have hl := (read_fin h1).2
  have hx : ExF FloatKind.f64.format m e := by
    by_cases hm : m = 0
    · exact .inl hm
    · have hlm := log_fin h1 hm
      rcases fmt_facts .f32 with ⟨f1, f2, f3⟩ | ⟨f1, _, _⟩
      · rcases fmt_facts .f64 with ⟨g1, _, _⟩ | ⟨g1, g2, g3⟩
        · cases g1
        · exact .inr ⟨m, 0, by simp, hm, by omega, by omega, by omega⟩
      · cases f1
  have hn := num_write (k := .f64) (s := s) h2 hx
  refine ⟨FloatKind.f64.encode (.number s m e), fun {G N} => ?_, hn⟩
  have hd : FloatKind.f32.decode b = .number s m e := h1
  obtain ⟨s', m', e', h3, _, _⟩ := hn
  have h3 : FloatKind.f64.decode (FloatKind.f64.encode (.number s m e)) = .number s' m' e' := h3
  unfold convT
  simp only [hd]
  rw [if_neg (by decide), h3]
  rfl
theorem inf_f2f {b t} (h : FloatKind.f32.format.read b = .infinity t) : ∃ q, (∀ {G : Nat → Option ABlk} {N : Nat}, convT (.f2f .f64) (.flt .f32 b) G N = some (.flt .f64 q, .keep)) ∧ FloatKind.f64.format.read q = .infinity t := by
  have hd : FloatKind.f32.decode b = .infinity t := h
  refine ⟨FloatKind.f64.encode (.infinity t), fun {G N} => ?_, by cases t <;> decide⟩
  unfold convT
  simp only [hd]
  rw [if_neg (by decide)]
theorem nan_f2f {b s t} (h : FloatKind.f32.format.read b = .nan s t) {G : Nat → Option ABlk} {N : Nat} : convT (.f2f .f64) (.flt .f32 b) G N = some (.flt .f64 (qnan .f64), .keep) := by
  have hd : FloatKind.f32.decode b = .nan s t := h
  unfold convT
  simp only [hd]
  rw [if_neg (by decide)]
theorem absB_eq (b : Nat) : absB b = b % 2 ^ 63 := by
  have h1 : (BitVec.ofInt 64 (b : Int) &&& ~~~ BitVec.ofInt 64 9223372036854775808).toNat = b % 2 ^ 63 := by
    have h2 : (~~~ BitVec.ofInt 64 9223372036854775808) = BitVec.ofNat 64 (2 ^ 63 - 1) := by decide
    rw [h2, BitVec.toNat_and, BitVec.toNat_ofNat, Nat.mod_eq_of_lt (show 2 ^ 63 - 1 < 2 ^ 64 by decide), Nat.and_two_pow_sub_one_eq_mod]
    rw [show (BitVec.ofInt 64 (b : Int)).toNat = b % 2 ^ 64 by simp]
    exact Nat.mod_mod_of_dvd b ⟨2, by decide⟩
  unfold absB
  rw [h1]
  have := Nat.mod_lt b (show 0 < 2 ^ 63 by decide)
  have hw : IntKind.u64.wrap ((b % 2 ^ 63 : Nat) : Int) = ((b % 2 ^ 63 : Nat) : Int) := by
    unfold IntKind.wrap
    simp only [IntKind.signed, IntKind.bits, Bool.false_and, Bool.false_eq_true, if_false]
    exact Int.emod_eq_of_lt (by omega) (by omega)
  rw [hw]; omega
theorem absB_read (b : Nat) : FloatKind.f64.format.read (absB b) = match FloatKind.f64.format.read b with
    | .number _ m e => .number false m e
    | .infinity _ => .infinity false
    | .nan _ t => .nan false t := by
  have hw : FloatKind.f64.format.signWeight = 2 ^ 63 := by decide
  have hn : (b % 2 ^ 63) / 2 ^ 63 % 2 = 0 := by rw [Nat.div_eq_of_lt (Nat.mod_lt b (by decide))]
  have hm : (b % 2 ^ 63) % 2 ^ 63 = b % 2 ^ 63 := Nat.mod_mod _ _
  rw [absB_eq]
  unfold Format.read
  dsimp only
  rw [hw, hn, hm]
  split
  · rfl
  · split
    · rfl
    · split <;> rfl
theorem num_abs {b v} (h : Num .f64 b v) : Num .f64 (absB b) v.natAbs := by
  obtain ⟨s, m, e, h1, h2, rfl⟩ := h
  refine ⟨false, m, e, by rw [absB_read, h1], h2, ?_⟩
  rw [vl_abs]
  show ((m * 2 ^ (e + 1200).toNat : Nat) : Int) = (m : Int) * 2 ^ (e + 1200).toNat
  rw [Int.natCast_mul, Int.natCast_pow]; rfl
theorem max64 : ∃ w : Int, Num .f64 9218868437227405311 w ∧ ∀ v : Int, v.natAbs ≤ 2 ^ 128 * UU.natAbs → ¬ w < v.natAbs := by
  refine ⟨_, ⟨false, 9007199254740991, 971, by decide, by decide, rfl⟩, fun v hv => ?_⟩
  obtain ⟨E, hE⟩ : ∃ E : Nat, E = (971 + 1200 : Int).toNat := ⟨_, rfl⟩
  have h1 : vl (.number false 9007199254740991 971) = ((9007199254740991 * 2 ^ E : Nat) : Int) := by
    have := vl_abs false 9007199254740991 971
    rw [← hE] at this
    rw [← this]
    show vl _ = _
    have h3 : 0 ≤ vl (.number false 9007199254740991 971) := by
      show 0 ≤ ((9007199254740991 : Nat) : Int) * 2 ^ (971 + 1200 : Int).toNat
      exact Int.mul_nonneg (by omega) (Int.le_of_lt (two_pos _))
    omega
  rw [h1]
  rw [UU_abs, ← Nat.pow_add] at hv
  have hle : 128 + bU ≤ E := by rw [hE]; decide
  have h4 : (2 : Nat) ^ (128 + bU) ≤ 2 ^ E := Nat.pow_le_pow_right (by decide) hle
  have h5 : 2 ^ E ≤ 9007199254740991 * 2 ^ E := Nat.le_mul_of_pos_left _ (by decide)
  generalize (9007199254740991 * 2 ^ E : Nat) = A at h5
  generalize (2 : Nat) ^ E = B at h4 h5
  generalize (2 : Nat) ^ (128 + bU) = C at hv h4
  omega
theorem down_cut (s : Bool) (n d : Nat) : sgN s (Toward.down.cut s n d) = sgN s n / ((2 ^ d : Nat) : Int) := by
  have hp : 0 < 2 ^ d := Nat.two_pow_pos _
  have key : ∀ g : Nat, 0 < g → sgN s (n / g + (s && n % g != 0).toNat) = sgN s n / (g : Int) := fun g hg => by
    cases s
    · simp [sgN]
    · by_cases hr : n % g = 0
      · rw [hr]
        have e : n = g * (n / g) := by have := Nat.div_add_mod n g; omega
        show -((n / g + 0 : Nat) : Int) = -(n : Int) / g
        rw [Nat.add_zero]
        obtain ⟨q, hq⟩ : ∃ q, q = n / g := ⟨_, rfl⟩
        rw [← hq] at e ⊢
        rw [e, Int.natCast_mul, Int.mul_comm, ← Int.neg_mul, Int.mul_ediv_cancel _ (by omega)]
      · have hb : (n % g != 0) = true := by simp [hr]
        rw [hb]
        show -((n / g + 1 : Nat) : Int) = -(n : Int) / g
        have e := Nat.div_add_mod n g
        have hl := Nat.mod_lt n hg
        obtain ⟨q, hq⟩ : ∃ q, q = n / g := ⟨_, rfl⟩
        obtain ⟨r, hr2⟩ : ∃ r, r = n % g := ⟨_, rfl⟩
        rw [← hq, ← hr2] at e
        rw [← hr2] at hr hl
        rw [← hq]
        have e2 : -(n : Int) = (g - r : Nat) + (-((q + 1 : Nat) : Int)) * g := by
          have : (n : Int) = g * q + r := by rw [← e]; simp
          have h3 : ((g - r : Nat) : Int) = g - r := by omega
          rw [this, h3, Int.natCast_add, Int.neg_mul, Int.add_mul]
          rw [Int.mul_comm (g : Int) q]
          simp
          omega
        rw [e2, Int.add_mul_ediv_right _ _ (by omega), Int.ediv_eq_zero_of_lt (by omega) (by omega)]
        omega
  unfold Toward.cut
  dsimp only
  rw [Nat.shiftLeft_eq, Nat.one_mul]
  by_cases hd : d ≤ n.log2 + 2
  · rw [Nat.min_eq_left hd]; exact key _ hp
  · rw [Nat.min_eq_right (by omega), key _ (Nat.two_pow_pos _)]
    have a1 : n < 2 ^ (n.log2 + 2) := Nat.lt_of_lt_of_le Nat.lt_log2_self (Nat.pow_le_pow_right (by decide) (by omega))
    have a2 : n < 2 ^ d := Nat.lt_of_lt_of_le a1 (Nat.pow_le_pow_right (by decide) (by omega))
    generalize 2 ^ (n.log2 + 2) = A at a1
    generalize 2 ^ d = B at a2
    cases s
    · show (n : Int) / A = (n : Int) / B
      rw [Int.ediv_eq_zero_of_lt (by omega) (by omega), Int.ediv_eq_zero_of_lt (by omega) (by omega)]
    · show -(n : Int) / A = -(n : Int) / B
      by_cases hn : n = 0
      · rw [hn]; simp
      · have f : ∀ C : Nat, n < C → -(n : Int) / C = -1 := fun C hC => by
          have e : -(n : Int) = (C - n : Nat) + (-1) * C := by omega
          rw [e, Int.add_mul_ediv_right _ _ (by omega), Int.ediv_eq_zero_of_lt (by omega) (by omega)]; rfl
        rw [f _ a1, f _ a2]
theorem exf_int {k : FloatKind} {n : Nat} (h : n < 2 ^ (k.format.fractionBits + 1)) : ExF k.format n 0 := by
  by_cases hz : n = 0
  · exact .inl hz
  · have h2 := Nat.log2_self_le hz
    have := pow_lt' (Nat.lt_of_le_of_lt h2 h)
    have hf := fmt_facts k
    exact .inr ⟨n, 0, by simp, hz, by omega, by omega, by omega⟩
theorem num_floor {b v} (h : Num .f64 b v) (hv : v.natAbs ≤ 2 ^ 20 * UU.natAbs) : Num .f64 (floorV b) (v / UU * UU) := by
  obtain ⟨s, m, e, h1, h2, rfl⟩ := h
  have hd : FloatKind.f64.decode b = .number s m e := h1
  obtain ⟨N, hN⟩ : ∃ N, N = Toward.down.cut s (m <<< e.toNat) (-e).toNat := ⟨_, rfl⟩
  have e1 : floorV b = FloatKind.f64.format.write (.number s N 0) := by
    unfold floorV
    rw [hd, hN]; rfl
  have hU := UU_pos
  have e2 : sgN s N = vl (.number s m e) / UU := by
    rw [hN, down_cut, Nat.shiftLeft_eq]
    by_cases he : 0 ≤ e
    · rw [vl_at he, Int.mul_ediv_cancel _ (by omega), show (-e).toNat = 0 by omega, Nat.pow_zero, sgN_mul, Int.natCast_pow]
      show _ / (1 : Int) = _
      rw [Int.ediv_one]; rfl
    · have e3 : UU = 2 ^ (e + 1200).toNat * 2 ^ (-e).toNat := by
        have h1 := bU_eq
        have h2 : (e + 1200).toNat + (-e).toNat = bU := by omega
        rw [UU, ← Int.pow_add, h2]
      have e4 : vl (.number s m e) = 2 ^ (e + 1200).toNat * sgN s m := by rw [Int.mul_comm]; rfl
      rw [e4, e3, Int.mul_ediv_mul_of_pos _ _ (two_pos _), show e.toNat = 0 by omega, Nat.pow_zero, Nat.mul_one, Int.natCast_pow]; rfl
  have e5 : N = (vl (.number s m e) / UU).natAbs := by rw [← e2, sgN_abs]
  have hb : N < 2 ^ 53 := by
    rw [e5]
    obtain ⟨v, hv'⟩ : ∃ v, v = vl (.number s m e) := ⟨_, rfl⟩
    rw [← hv'] at hv ⊢
    have hA : (UU.natAbs : Int) = UU := by omega
    have h3 : v ≤ 2 ^ 20 * UU := by
      have : ((2 ^ 20 * UU.natAbs : Nat) : Int) = 2 ^ 20 * UU := by rw [Int.natCast_mul, hA]; rfl
      omega
    have h4 : -(2 ^ 20) * UU ≤ v := by
      have : ((2 ^ 20 * UU.natAbs : Nat) : Int) = 2 ^ 20 * UU := by rw [Int.natCast_mul, hA]; rfl
      rw [Int.neg_mul]
      omega
    have h5 := Int.ediv_le_ediv hU h3
    have h6 := Int.ediv_le_ediv hU h4
    rw [Int.mul_ediv_cancel _ (by omega)] at h5 h6
    omega
  rw [e1, ← e2]
  have := num_write (k := .f64) (s := s) (m := N) (i := 0) (by omega) (exf_int hb)
  rw [vl_at (Int.le_refl 0)] at this
  simp only [Int.toNat_zero, Int.pow_zero, Int.mul_one] at this
  exact this
end Go.Abs
namespace Go.Abs
open Ieee
theorem num_f2i {k b v} (h : Num k b v) (h1 : -2 ^ 63 ≤ v.tdiv UU) (h2 : v.tdiv UU < 2 ^ 63) {G : Nat → Option ABlk} {N : Nat} : convT (.f2i .i64) (.flt k b) G N = some (.int .i64 (v.tdiv UU), .keep) := by
  unfold convT
  simp only [num_toInt h]
  rw [if_pos ⟨num_nan h, by show (-2 ^ 63 : Int) ≤ _; omega, by show _ ≤ (2 ^ 63 - 1 : Int); omega⟩]
noncomputable def fval (b : Nat) : Int := vl (FloatKind.f32.format.read b)
noncomputable def gridN (b : Nat) : Int := 16 * fval b / UU
noncomputable def finB (b : Nat) : Bool := @decide (∃ v, Num .f32 b v) (Classical.propDecidable _)
theorem finB_t {b v} (h : Num .f32 b v) : finB b = true := @decide_eq_true _ (Classical.propDecidable _) ⟨v, h⟩
theorem finB_i {b t} (h : FloatKind.f32.format.read b = .infinity t) : finB b = false := @decide_eq_false _ (Classical.propDecidable _) fun ⟨v, s, m, e, h1, _⟩ => by rw [h] at h1; cases h1
theorem finB_n {b s t} (h : FloatKind.f32.format.read b = .nan s t) : finB b = false := @decide_eq_false _ (Classical.propDecidable _) fun ⟨v, s, m, e, h1, _⟩ => by rw [h] at h1; cases h1
theorem finB_x {b} (h : finB b = true) : ∃ v, Num .f32 b v := @of_decide_eq_true _ (Classical.propDecidable _) h
noncomputable def gOkB (b : Nat) : Bool := finB b && (decide (-1024 * UU ≤ fval b) && (decide (fval b ≤ 1024 * UU) && decide (gridN b * UU = 16 * fval b)))
noncomputable def gridE (b : Nat) : Int := firstS [whenS (!finB b) 1, whenS (!gOkB b) 3]
theorem num_fval {b v} (h : Num .f32 b v) : v = fval b := by
  obtain ⟨s, m, e, h1, _, rfl⟩ := h
  unfold fval; rw [h1]
theorem grid_num {b} (h : gridE b = 0) : Num .f32 b (fval b) ∧ gridN b * UU = 16 * fval b ∧ -16384 ≤ gridN b ∧ gridN b ≤ 16384 := by
  obtain ⟨_, h⟩ := first2 h
  have h : gOkB b = true := by
    cases hb : gOkB b with
    | true => rfl
    | false => rw [hb] at h; cases h
  unfold gOkB at h
  simp only [Bool.and_eq_true, decide_eq_true_eq] at h
  obtain ⟨hn, g1, g2, g3⟩ := h
  obtain ⟨v, hv⟩ := finB_x hn
  have e := num_fval hv
  subst e
  have hU := UU_pos
  refine ⟨hv, g3, ?_, ?_⟩
  · have : -16384 * UU ≤ gridN b * UU := by rw [g3]; omega
    exact Int.le_of_mul_le_mul_right this hU
  · have : gridN b * UU ≤ 16384 * UU := by rw [g3]; omega
    exact Int.le_of_mul_le_mul_right this hU
theorem grid_z {b} (h1 : finB b = true) (h2 : gOkB b = true) : gridE b = 0 := by rw [gridE, h1, h2]; rfl
theorem bd_abs {v : Int} (h1 : -1024 * UU ≤ v) (h2 : v ≤ 1024 * UU) : v.natAbs ≤ 2 ^ 10 * UU.natAbs := by
  have hU := UU_pos
  omega
theorem neg1024 : unK .neg (.flt .f32 (FloatKind.f32.nearest 1024)) = some (.flt .f32 (FloatKind.f32.nearest (-1024))) := by
  show some (AV.flt .f32 (Op.negFloat .f32 (FloatKind.f32.nearest 1024))) = _
  rw [show Op.negFloat .f32 (FloatKind.f32.nearest 1024) = FloatKind.f32.nearest (-1024) by decide]
theorem ord_bin {op : BinOp} {k : FloatKind} {a b : Nat} {c : Bool} (h : fltBin op k a b = some (.bool c)) : binK op (.flt k a) (.flt k b) = some (.bool c) := by simp only [binK, if_true, h]
theorem eql_00 : binK .eql (.flt .f32 0) (.flt .f32 0) = some (.bool true) := ord_bin (by
  show some (AV.bool (FloatKind.f32.format.order 0 0 == some .eq)) = _
  rw [show FloatKind.f32.format.order 0 0 = some .eq by decide]; rfl)
theorem eql_n0 : binK .eql (.flt .f32 (qnan .f32)) (.flt .f32 0) = some (.bool false) := ord_bin (by
  show some (AV.bool (FloatKind.f32.format.order (qnan .f32) 0 == some .eq)) = _
  rw [show FloatKind.f32.format.order (qnan .f32) 0 = none by decide]; rfl)
theorem num_n1024 {k : FloatKind} : Num k (k.nearest (-1024)) (-1024 * UU) := num_int (by cases k <;> decide)
theorem num_1024 {k : FloatKind} : Num k (k.nearest 1024) (1024 * UU) := num_int (by cases k <;> decide)
theorem tdiv_grid {v : Int} : decide (v.tdiv UU * UU = v) = decide (v / UU * UU = v) := by
  have hU := UU_pos
  refine decide_eq_decide.2 ⟨fun h => ?_, fun h => ?_⟩
  · rw [← h, Int.mul_ediv_cancel _ (by omega)]
  · rw [← h, Int.mul_tdiv_cancel _ (by omega)]
theorem nan_bin {k a b} (h : nanB k a = true ∨ nanB k b = true) : k.format.order a b = none := nan_ord (nan_or h)
theorem read_nan {k : FloatKind} {b : Nat} {s : Bool} {t : Nat} (h : k.format.read b = .nan s t) : nanB k b = true := by rw [nanB_isNaN, h]; rfl
set_option maxRecDepth 10000
attribute [local irreducible] WP WC WE WB WR WF WL WG WRg WQ
section
variable {P : Program} (T : Tbl P) {h : AHeap}
include T
set_option maxHeartbeats 1000000 in
theorem r192 (c : Bool) (e : Int) : RCall P 192 [.bool c, .int .i64 e] h (fun v _ => v = .int .i64 (whenS c e)) := by
  refine .of T.mix T.c192 ?_
  unfold fn192
  simp only [uset]
  cases c <;> simp only [wset] <;> rfl
set_option maxHeartbeats 1000000 in
theorem r193 (b : Nat) : RCall P 193 [.flt .f32 b] h (fun v _ => v = .bool (finB b)) := by
  refine .st1 7 T.mix T.c193 ?_;intro ts hlen t0;unfold fn193
  rcases flt_cases .f32 b with ⟨v, hv⟩ | ⟨t, ht⟩ | ⟨s, t, ht⟩
  · have f1 := sub_self hv
    have f2 := eql_00
    refine Rs (A3 @t0 @f1 @f2) ?_
    rw [finB_t hv]
  · have f1 : binK .sub (.flt .f32 b) (.flt .f32 b) = some (.flt .f32 (qnan .f32)) := by
      have : FloatKind.f32.format.sub b b = none := by
        unfold Format.sub; rw [ht]; cases t <;> rfl
      simp only [binK, if_true, fltBin, this, fltRes]
    have f2 := eql_n0
    refine Rs (A3 @t0 @f1 @f2) ?_
    rw [finB_i ht]
  · have f1 : binK .sub (.flt .f32 b) (.flt .f32 b) = some (.flt .f32 (qnan .f32)) := by
      have : FloatKind.f32.format.sub b b = none := by
        unfold Format.sub; rw [ht]; rfl
      simp only [binK, if_true, fltBin, this, fltRes]
    have f2 := eql_n0
    refine Rs (A3 @t0 @f1 @f2) ?_
    rw [finB_n ht]
set_option maxHeartbeats 2000000 in
theorem r194 (b : Nat) : RCall P 194 [.flt .f32 b, .int .i64 1024] h (fun v _ => v = .bool (gOkB b)) := by
  refine .st2 25 T.mix T.c194 ?_;intro ts hlen t0 t1;unfold fn194
  have c1 : ∀ {n : Int} {G : Nat → Option ABlk} {N : Nat}, convT (.i2f .f32) (.int .i64 n) G N = some (.flt .f32 (FloatKind.f32.nearest n), .keep) := fun {_ _ _} => rfl
  have c2 := neg1024
  rcases flt_cases .f32 b with ⟨v, hv⟩ | ⟨t, ht⟩ | ⟨s, t, ht⟩
  · have hfv := num_fval hv
    have hf := finB_t hv
    have l1 := num_leq num_n1024 hv
    have l2 := num_leq hv num_1024
    by_cases q1 : -1024 * UU ≤ v
    case neg =>
      have d1 : decide (-1024 * UU ≤ v) = false := decide_eq_false q1
      have e : gOkB b = false := by rw [gOkB, ← hfv, d1]; simp
      refine Rs (A6 @t0 @t1 @c1 @c2 @l1 @d1) ?_
      rw [e]
    have d1 : decide (-1024 * UU ≤ v) = true := decide_eq_true q1
    by_cases q2 : v ≤ 1024 * UU
    case neg =>
      have d2 : decide (v ≤ 1024 * UU) = false := decide_eq_false q2
      have e : gOkB b = false := by rw [gOkB, ← hfv, d2]; simp
      refine Rs (A8 @t0 @t1 @c1 @c2 @l1 @d1 @l2 @d2) ?_
      rw [e]
    have d2 : decide (v ≤ 1024 * UU) = true := decide_eq_true q2
    obtain ⟨p, m1, m2, hp⟩ := mul16 hv (bd_abs q1 q2)
    have hU := UU_pos
    have b1 : (16 * v).tdiv UU ≤ 16384 := by
      have := Int.tdiv_le_tdiv hU (show 16 * v ≤ 16384 * UU by omega)
      rwa [Int.mul_tdiv_cancel _ (by omega)] at this
    have b2 : -16384 ≤ (16 * v).tdiv UU := by
      have := Int.tdiv_le_tdiv hU (show -16384 * UU ≤ 16 * v by omega)
      rwa [Int.mul_tdiv_cancel _ (by omega)] at this
    have c3 := @num_f2i _ _ _ hp (by omega) (by omega)
    have hi : Num .f32 (FloatKind.f32.nearest ((16 * v).tdiv UU)) ((16 * v).tdiv UU * UU) := num_int (by show _ < 2 ^ 24; omega)
    have l3 := num_eql hi hp
    have e : gOkB b = decide ((16 * v).tdiv UU * UU = 16 * v) := by
      rw [tdiv_grid, gOkB, gridN, ← hfv, hf, d1, d2]; simp
    have m1 : binK .mul (.flt .f32 b) (.flt .f32 1098907648) = some (.flt .f32 p) := m1
    refine Rs (A11 @t0 @t1 @c1 @c2 @l1 @d1 @l2 @d2 @m1 @c3 @l3) ?_
    rw [e]
  · have e : gOkB b = false := by rw [gOkB, finB_i ht]; rfl
    rw [e]
    cases t with
    | false =>
      have o1 : FloatKind.f32.format.order (FloatKind.f32.nearest (-1024)) b = some .lt := by
        unfold Format.order; rw [ht, show FloatKind.f32.format.read (FloatKind.f32.nearest (-1024)) = .number true 8388608 (-13) by decide]; rfl
      have o2 : FloatKind.f32.format.order b (FloatKind.f32.nearest 1024) = some .gt := by
        unfold Format.order; rw [ht, show FloatKind.f32.format.read (FloatKind.f32.nearest 1024) = .number false 8388608 (-13) by decide]; rfl
      have l1 : binK .leq (.flt .f32 (FloatKind.f32.nearest (-1024))) (.flt .f32 b) = some (.bool true) := ord_bin (by simp only [fltBin, o1]; rfl)
      have l2 : binK .leq (.flt .f32 b) (.flt .f32 (FloatKind.f32.nearest 1024)) = some (.bool false) := ord_bin (by simp only [fltBin, o2]; rfl)
      exact Rs (A6 @t0 @t1 @c1 @c2 @l1 @l2) trivial
    | true =>
      have o1 : FloatKind.f32.format.order (FloatKind.f32.nearest (-1024)) b = some .gt := by
        unfold Format.order; rw [ht, show FloatKind.f32.format.read (FloatKind.f32.nearest (-1024)) = .number true 8388608 (-13) by decide]; rfl
      have l1 : binK .leq (.flt .f32 (FloatKind.f32.nearest (-1024))) (.flt .f32 b) = some (.bool false) := ord_bin (by simp only [fltBin, o1]; rfl)
      exact Rs (A5 @t0 @t1 @c1 @c2 @l1) trivial
  · have e : gOkB b = false := by rw [gOkB, finB_n ht]; rfl
    rw [e]
    have o1 := nan_bin (k := .f32) (a := FloatKind.f32.nearest (-1024)) (.inr (read_nan ht))
    have l1 : binK .leq (.flt .f32 (FloatKind.f32.nearest (-1024))) (.flt .f32 b) = some (.bool false) := ord_bin (by simp only [fltBin, o1]; rfl)
    exact Rs (A5 @t0 @t1 @c1 @c2 @l1) trivial
end
end Go.Abs
namespace Go.Abs
open Ieee
theorem nan_neq {k b} (h : nanB k b = true) : binK .neq (.flt k b) (.flt k b) = some (.bool true) := ord_bin (by simp only [fltBin, nan_bin (.inl h)]; rfl)
theorem inf_neq {k b t} (h : k.format.read b = .infinity t) : binK .neq (.flt k b) (.flt k b) = some (.bool false) := ord_bin (by
  have : k.format.order b b = some .eq := by unfold Format.order; rw [h]; cases t <;> rfl
  simp only [fltBin, this]; rfl)
theorem inf_nan {k b t} (h : k.format.read b = .infinity t) : nanB k b = false := by rw [nanB_isNaN, h]; rfl
noncomputable def smpl (n : Int) : Nat := (FloatKind.f32.format.div (FloatKind.f32.nearest n) 1098907648).getD 0
theorem smpl_ok {n : Int} (h1 : -16384 ≤ n) (h2 : n ≤ 16384) : binK .quo (.flt .f32 (FloatKind.f32.nearest n)) (.flt .f32 1098907648) = some (.flt .f32 (smpl n)) ∧ gridE (smpl n) = 0 ∧ gridN (smpl n) = n := by
  have hi : Num .f32 (FloatKind.f32.nearest n) (n * UU) := num_int (by show _ < 2 ^ 24; omega)
  have hU := UU_pos
  obtain ⟨q, w, e1, e2, e3⟩ := quo16 hi (by
    by_cases hn : n = 0
    · exact .inl (by rw [hn, Int.zero_mul])
    · refine .inr ?_
      rw [Int.natAbs_mul]
      exact Nat.le_mul_of_pos_left _ (by omega))
  have e1 : binK .quo (.flt .f32 (FloatKind.f32.nearest n)) (.flt .f32 1098907648) = some (.flt .f32 q) := e1
  have e4 : binK .quo (.flt .f32 (FloatKind.f32.nearest n)) (.flt .f32 1098907648) = some (fltRes .f32 (FloatKind.f32.format.div (FloatKind.f32.nearest n) 1098907648)) := by simp only [binK, if_true, fltBin]
  have hq : smpl n = q := by
    unfold smpl
    rw [e4] at e1
    cases hd : FloatKind.f32.format.div (FloatKind.f32.nearest n) 1098907648 with
    | some r => rw [hd] at e1; cases e1; rfl
    | none =>
      rw [hd] at e1
      cases e1
      have := num_nan e2
      rw [qnan_nan] at this; cases this
  rw [hq]
  have hw := num_fval e2
  have hg : gridN q = n := by
    unfold gridN
    rw [← hw, e3, Int.mul_ediv_cancel _ (by omega)]
  have b1 : -16384 * UU ≤ n * UU := Int.mul_le_mul_of_nonneg_right h1 (by omega)
  have b2 : n * UU ≤ 16384 * UU := Int.mul_le_mul_of_nonneg_right h2 (by omega)
  refine ⟨e1, grid_z (finB_t e2) ?_, hg⟩
  unfold gOkB
  rw [hg, ← hw, e3, finB_t e2, decide_eq_true (show -1024 * UU ≤ w by omega), decide_eq_true (show w ≤ 1024 * UU by omega)]
  simp
theorem grid_bd {b} (h : gridE b = 0) : -1024 * UU ≤ fval b ∧ fval b ≤ 1024 * UU := by
  obtain ⟨_, h2, h3, h4⟩ := grid_num h
  have hU := UU_pos
  have b1 : -16384 * UU ≤ gridN b * UU := Int.mul_le_mul_of_nonneg_right h3 (by omega)
  have b2 : gridN b * UU ≤ 16384 * UU := Int.mul_le_mul_of_nonneg_right h4 (by omega)
  omega
theorem grid_neq {a b : Nat} (ha : gridE a = 0) (hb : gridE b = 0) : binK .neq (.flt .f32 a) (.flt .f32 b) = some (.bool (decide (gridN a ≠ gridN b))) := by
  obtain ⟨h1, h2, _⟩ := grid_num ha
  obtain ⟨h3, h4, _⟩ := grid_num hb
  rw [num_neq h1 h3]
  congr 2
  have hU := UU_pos
  refine decide_eq_decide.2 (not_congr ⟨fun h => ?_, fun h => ?_⟩)
  · unfold gridN; rw [h]
  · rw [h, h4] at h2; omega
set_option maxRecDepth 10000
attribute [local irreducible] WP WC WE WB WR WF WL WG WRg WQ
section
variable {P : Program} (T : Tbl P) {h : AHeap}
include T
set_option maxHeartbeats 1000000 in
theorem r168 {s : AV} {l : List Int} (hs : IsSl h s 1 (l.map intRow)) (hl : l.length < 2 ^ 63) : RCall P 168 [s] h (fun v _ => v = .int .i64 (firstS l)) := by
  refine .of T.mix T.c168 ?_
  unfold fn168
  simp only [uset]
  have e1 : (l.map intRow).length = l.length := by simp
  simp only [wset, hs.lenG, e1]
  refine WL.inv T.mix (fun n ts h' => ∃ k : Nat, k ≤ l.length ∧ n = l.length - k ∧ h' = h ∧ firstS l = firstS (l.drop k) ∧ ts.length = 15 ∧ slot ts 5 = s ∧ slot ts 6 = .int .i64 l.length ∧ slot ts 7 = .int .i64 k) l.length
    ⟨0, by omega, rfl, rfl, rfl, rfl, rfl, rfl, rfl⟩ ?_
  rintro _ ts _ ⟨k, hk, rfl, rfl, hf, hlen, h5, h6, h7⟩
  rw [expl ts 15 hlen]
  by_cases hlt : k < l.length
  · have hd : l.drop k = l[k] :: l.drop (k + 1) := by simp
    have e2 : (l.map intRow)[k]'(by omega) = [AV.int .i64 l[k]] := by simp
    have e3 : (k : Int) < l.length := by omega
    simp +contextual (disch := omega) only [wset, wsplit, h5, h6, h7, e3, decide_true, hs.iadr, Int.toNat_natCast, hs.load1 _ e2, wrap_in]
    refine ⟨fun h1 => ?_, fun h1 => ⟨l.length - (k + 1), by omega, k + 1, by omega, rfl, ?_, rfl⟩⟩
    · rw [hf, hd, firstS, if_neg h1]
    · rw [hf, hd, firstS, if_pos (by omega)]
  · have e3 : ¬ (k : Int) < l.length := by omega
    have e4 : k = l.length := by omega
    simp +contextual (disch := omega) only [wset, h5, h6, h7, e3, decide_false, if_true]
    rw [hf, e4, List.drop_length]; rfl
set_option maxHeartbeats 1000000 in
theorem r142 (b : Nat) : RCall P 142 [.flt .f32 b] h (fun v _ => v = .int .i64 (gridE b)) := by
  refine .st1 13 T.mix T.c142 ?_;intro ts hlen t0;unfold fn142
  refine Rs @t0 ?_
  refine WF.ce T.c193 (r193 T _) fun g1 => ?_
  refine Rs @t0 ?_
  refine WF.ce T.c192 (r192 T _ _) fun g2 => ?_
  refine Rs @t0 ?_
  refine WF.ce T.c194 (r194 T _) fun g3 => ?_
  refine Rs @t0 ?_
  refine WF.ce T.c192 (r192 T _ _) fun g4 => ?_
  refine Rs @t0 ?_
  refine WF.ce T.c168 (r168 T (isSl_ints [_, _]) (by simp)) fun g5 => ?_
  refine Rs @t0 ?_
  rfl
set_option maxHeartbeats 1000000 in
theorem r196 {k : Nat} (c : Bool) (hc : binK .neq (.flt .f64 k) (.flt .f64 k) = some (.bool c)) : RCall P 196 [.flt .f64 k] h (fun v _ => v = .bool c) := by
  refine .st1 6 T.mix T.c196 ?_;intro ts hlen t0;unfold fn196
  exact Rs (A2 @t0 @hc) trivial
set_option maxHeartbeats 1000000 in
theorem r197 (X : Xfl P) {k : Nat} (hn : nanB .f64 k = false) (c : Bool) (hc : binK .gtr (.flt .f64 (absB k)) (.flt .f64 9218868437227405311) = some (.bool c)) : RCall P 197 [.flt .f64 k, .int .i64 0] h (fun v _ => v = .bool c) := by
  refine .st2 15 T.mix T.c197 ?_;intro ts hlen t0 t1;unfold fn197
  refine Rs (A3 @t0 @t1 @decide_true) ?_
  refine WF.ce T.c222 (r222 T X hn) fun g1 => ?_
  exact Rs (A3 @t0 @t1 @hc) trivial
set_option maxHeartbeats 2000000 in
theorem r147 (X : Xfl P) (b : Nat) : RCall P 147 [.flt .f32 b, .int .i64 1024] h (fun v _ => v = .int .i64 (gridE b)) := by
  refine .st2 34 T.mix T.c147 ?_;intro ts hlen t0 t1;unfold fn147
  have c1 : ∀ {n : Int} {G : Nat → Option ABlk} {N : Nat}, convT (.i2f .f64) (.int .i64 n) G N = some (.flt .f64 (FloatKind.f64.nearest n), .keep) := fun {_ _ _} => rfl
  have w1 : IntKind.i64.wrap (0 - 1024) = -1024 := by decide
  rcases flt_cases .f32 b with ⟨v, hv⟩ | ⟨t, ht⟩ | ⟨s, t, ht⟩
  · have hfv := num_fval hv
    have hf := finB_t hv
    obtain ⟨q, c2, hq⟩ := num_f2f hv
    have hna := num_neq hq hq
    rw [show decide (v ≠ v) = false by simp] at hna
    obtain ⟨M, hM, hM2⟩ := max64
    have hinf := num_gtr (num_abs hq) hM
    rw [decide_eq_false (hM2 v (num32_bd hv))] at hinf
    repeat (first | simp (maxSteps := 1000000) only [wset, hset, dset, bset, Nat.reduceAdd, Nat.reduceMul, Nat.reduceLeDiff, Nat.reduceEqDiff, pset, hlen, if_false, if_true, t0, t1, @c2] | simp (maxSteps := 1000000) (disch := first | (simp only [List.length_append, List.length_cons, List.length_nil] <;> omega) | rfl | omega | fail) only [kset, wset, hset, dset, bset, Nat.reduceAdd, Nat.reduceMul, Nat.reduceLeDiff, Nat.reduceEqDiff, pset, hlen, if_false, if_true, t0, t1, @c2])
    refine WF.ce T.c196 (r196 T false hna) fun g1 => ?_
    refine Rs (A2 @t0 @t1) ?_
    refine WF.ce T.c197 (r197 T X (num_nan hq) false hinf) fun g2 => ?_
    have g1024 := num_gtr hq (num_1024 (k := .f64))
    have ln1024 := num_lss hq (num_n1024 (k := .f64))
    by_cases q1 : 1024 * UU < v
    · have d1 : decide (1024 * UU < v) = true := decide_eq_true q1
      have e : gOkB b = false := by rw [gOkB, ← hfv, decide_eq_false (show ¬ v ≤ 1024 * UU by omega)]; simp
      refine Rs (A6 @t0 @t1 @c1 @w1 @g1024 @d1) ?_
      refine WF.ce T.c39 (r39 T _ _) fun g3 => ?_
      refine Rs (A2 @t0 @t1) ?_
      rw [gridE, hf, e]; rfl
    have d1 : decide (1024 * UU < v) = false := decide_eq_false q1
    by_cases q2 : v < -1024 * UU
    · have d2 : decide (v < -1024 * UU) = true := decide_eq_true q2
      have e : gOkB b = false := by rw [gOkB, ← hfv, decide_eq_false (show ¬ -1024 * UU ≤ v by omega)]; simp
      refine Rs (A8 @t0 @t1 @c1 @w1 @g1024 @d1 @ln1024 @d2) ?_
      refine WF.ce T.c39 (r39 T _ _) fun g3 => ?_
      refine Rs (A2 @t0 @t1) ?_
      rw [gridE, hf, e]; rfl
    have d2 : decide (v < -1024 * UU) = false := decide_eq_false q2
    have hab := bd_abs (v := v) (by omega) (by omega)
    obtain ⟨p, m1, m2, hp⟩ := mul16 hq hab
    have m2 : binK .mul (.flt .f64 4625196817309499392) (.flt .f64 q) = some (.flt .f64 p) := m2
    have hpf := num_floor hp (by
      rw [Int.natAbs_mul]
      have : 16 * v.natAbs ≤ 16 * (2 ^ 10 * UU.natAbs) := Nat.mul_le_mul_left _ hab
      show 16 * v.natAbs ≤ _
      omega)
    have l3 := num_neq hp hpf
    have e : gOkB b = !decide (16 * v ≠ 16 * v / UU * UU) := by
      rw [gOkB, gridN, ← hfv, hf, decide_eq_true (show -1024 * UU ≤ v by omega), decide_eq_true (show v ≤ 1024 * UU by omega)]
      by_cases hh : 16 * v / UU * UU = 16 * v
      · rw [decide_eq_true hh, decide_eq_false (p := 16 * v ≠ 16 * v / UU * UU) (fun z => z hh.symm)]; rfl
      · rw [decide_eq_false hh, decide_eq_true (p := 16 * v ≠ 16 * v / UU * UU) (fun z => hh z.symm)]; rfl
    refine Rs (A9 @t0 @t1 @c1 @w1 @g1024 @d1 @ln1024 @d2 @m2) ?_
    refine WF.ce T.c198 (r198 T X (num_nan hp)) fun g3 => ?_
    refine Rs (A3 @t0 @t1 @l3) ?_
    refine WF.ce T.c39 (r39 T _ _) fun g4 => ?_
    refine Rs (A2 @t0 @t1) ?_
    rw [gridE, hf, e, Bool.not_not]
    show _ = AV.int .i64 (firstS [whenS false 1, _])
    rw [first_w2]; rfl
  · obtain ⟨q, c2, hq⟩ := inf_f2f ht
    have e : gridE b = 1 := by rw [gridE, finB_i ht]; rfl
    have o1 : FloatKind.f64.format.order (absB q) 9218868437227405311 = some .gt := by
      unfold Format.order
      rw [absB_read, hq, show FloatKind.f64.format.read 9218868437227405311 = .number false 9007199254740991 971 by decide]; rfl
    have hinf : binK .gtr (.flt .f64 (absB q)) (.flt .f64 9218868437227405311) = some (.bool true) := ord_bin (by simp only [fltBin, o1]; rfl)
    repeat (first | simp (maxSteps := 1000000) only [wset, hset, dset, bset, Nat.reduceAdd, Nat.reduceMul, Nat.reduceLeDiff, Nat.reduceEqDiff, pset, hlen, if_false, if_true, t0, t1, @c2] | simp (maxSteps := 1000000) (disch := first | (simp only [List.length_append, List.length_cons, List.length_nil] <;> omega) | rfl | omega | fail) only [kset, wset, hset, dset, bset, Nat.reduceAdd, Nat.reduceMul, Nat.reduceLeDiff, Nat.reduceEqDiff, pset, hlen, if_false, if_true, t0, t1, @c2])
    refine WF.ce T.c196 (r196 T false (inf_neq hq)) fun g1 => ?_
    refine Rs (A2 @t0 @t1) ?_
    refine WF.ce T.c197 (r197 T X (inf_nan hq) true hinf) fun g2 => ?_
    refine Rs (A2 @t0 @t1) ?_
    rw [e]
  · have c2 := @nan_f2f _ _ _ ht
    have e : gridE b = 1 := by rw [gridE, finB_n ht]; rfl
    repeat (first | simp (maxSteps := 1000000) only [wset, hset, dset, bset, Nat.reduceAdd, Nat.reduceMul, Nat.reduceLeDiff, Nat.reduceEqDiff, pset, hlen, if_false, if_true, t0, t1, @c2] | simp (maxSteps := 1000000) (disch := first | (simp only [List.length_append, List.length_cons, List.length_nil] <;> omega) | rfl | omega | fail) only [kset, wset, hset, dset, bset, Nat.reduceAdd, Nat.reduceMul, Nat.reduceLeDiff, Nat.reduceEqDiff, pset, hlen, if_false, if_true, t0, t1, @c2])
    refine WF.ce T.c196 (r196 T true (nan_neq (qnan_nan _))) fun g1 => ?_
    refine Rs (A2 @t0 @t1) ?_
    rw [e]
set_option maxHeartbeats 1000000 in
theorem r155 (X : Xfl P) (b : Nat) : RCall P 155 [.flt .f32 b] h (fun v _ => v = .int .i64 (gridE b)) := by
  refine .st1 5 T.mix T.c155 ?_;intro ts hlen t0;unfold fn155
  refine Rs @t0 ?_
  refine WF.ce T.c147 (r147 T X _) fun g1 => ?_
  exact Rs @t0 trivial
set_option maxHeartbeats 1000000 in
theorem r64 {b : Nat} (hb : gridE b = 0) : RCall P 64 [.flt .f32 b] h (fun v _ => v = .int .i64 (gridN b)) := by
  refine .st1 6 T.mix T.c64 ?_;intro ts hlen t0;unfold fn64
  obtain ⟨hv, hg, g1, g2⟩ := grid_num hb
  obtain ⟨hg3, hg4⟩ := grid_bd hb
  obtain ⟨p, m1, m2, hp⟩ := mul16 hv (bd_abs hg3 hg4)
  have m2 : binK .mul (.flt .f32 1098907648) (.flt .f32 b) = some (.flt .f32 p) := m2
  have hU := UU_pos
  have ht : (16 * fval b).tdiv UU = gridN b := by rw [← hg, Int.mul_tdiv_cancel _ (by omega)]
  have c3 := @num_f2i _ _ _ hp (by omega) (by omega)
  rw [ht] at c3
  exact Rs (A3 @t0 @m2 @c3) trivial
set_option maxHeartbeats 1000000 in
theorem r108 {b : Nat} (hb : gridE b = 0) : RCall P 108 [.flt .f32 b] h (fun v _ => v = .int .i64 (gridN b)) := by
  refine .st1 6 T.mix T.c108 ?_;intro ts hlen t0;unfold fn108
  obtain ⟨hv, hg, g1, g2⟩ := grid_num hb
  obtain ⟨hg3, hg4⟩ := grid_bd hb
  obtain ⟨p, m1, m2, hp⟩ := mul16 hv (bd_abs hg3 hg4)
  have m2 : binK .mul (.flt .f32 1098907648) (.flt .f32 b) = some (.flt .f32 p) := m2
  have hU := UU_pos
  have ht : (16 * fval b).tdiv UU = gridN b := by rw [← hg, Int.mul_tdiv_cancel _ (by omega)]
  have c3 := @num_f2i _ _ _ hp (by omega) (by omega)
  rw [ht] at c3
  exact Rs (A3 @t0 @m2 @c3) trivial
set_option maxHeartbeats 1000000 in
theorem r144 {n : Int} (h1 : -16384 ≤ n) (h2 : n ≤ 16384) : RCall P 144 [.int .i64 n] h (fun v _ => v = .flt .f32 (smpl n)) := by
  refine .st1 6 T.mix T.c144 ?_;intro ts hlen t0;unfold fn144
  have c1 : ∀ {G : Nat → Option ABlk} {N : Nat}, convT (.i2f .f32) (.int .i64 n) G N = some (.flt .f32 (FloatKind.f32.nearest n), .keep) := fun {_ _} => rfl
  have q1 := (smpl_ok h1 h2).1
  exact Rs (A3 @t0 @c1 @q1) trivial
end
end Go.Abs
namespace Go.Abs
def goodS : List UInt8 → Bool
  | [] => true
  | c :: r => letterS c && r.all restS
theorem name_good (s : List UInt8) : nameS s = (decide (s ≠ []) && decide (s.length ≤ 24) && goodS s) := by
  cases s with
  | nil => rfl
  | cons c r =>
    have : (r.length < 24) = ((c :: r).length ≤ 24) := by simp; omega
    simp only [nameS, goodS, this]
    simp [Bool.and_assoc]
theorem good_step {s : List UInt8} {k : Nat} (hk : k < s.length) : goodS (s.take (k + 1)) = (goodS (s.take k) && (if k = 0 then letterS s[k] else restS s[k])) := by
  cases s with
  | nil => simp at hk
  | cons c r =>
    cases k with
    | zero => simp [goodS]
    | succ k =>
      have hk' : k < r.length := by simpa using hk
      simp only [List.take_succ_cons, goodS, List.getElem_cons_succ]
      rw [List.take_add_one, List.getElem?_eq_getElem hk', Option.toList_some]
      rw [List.all_append, List.all_cons, List.all_nil, Bool.and_true, Bool.and_assoc, if_neg (by omega)]
theorem good_take {s} {k} (h : goodS (s.take k) = false) : goodS s = false := by
  cases s with
  | nil => simp [goodS] at h
  | cons c r =>
    cases k with
    | zero => simp [goodS] at h
    | succ k =>
      simp only [List.take_succ_cons, goodS, Bool.and_eq_false_iff] at h ⊢
      rcases h with h | h
      · exact .inl h
      · right
        rw [List.all_eq_false] at h ⊢
        obtain ⟨x, hx, hr⟩ := h
        exact ⟨x, List.mem_of_mem_take hx, hr⟩
theorem dec_lt {s} {i} (hi : i < s.length) (h : s[i].toNat < 128) : Utf8.decode ⟨⟨s⟩⟩ i = (s[i].toNat, 1) := by
  have hg : (ByteArray.get! ⟨⟨s⟩⟩ i).toNat = s[i].toNat := by
    simp [ByteArray.get!, hi]
  simp only [Utf8.decode, Nat.add_zero, hg, if_pos h]
theorem dec_ge {s} {i} (hi : i < s.length) (h : 128 ≤ s[i].toNat) : 128 ≤ (Utf8.decode ⟨⟨s⟩⟩ i).1 := by
  have hg : (ByteArray.get! ⟨⟨s⟩⟩ i).toNat = s[i].toNat := by
    simp [ByteArray.get!, hi]
  simp only [Utf8.decode, Nat.add_zero, hg]
  rw [if_neg (by omega)]
  simp only [Utf8.runeError]
  repeat' split
  all_goals first
    | (simp only; omega)
    | (simp only [Bool.and_eq_true, decide_eq_true_eq] at *; omega)
section
variable {P : Program} (T : Tbl P) {h : AHeap}
include T
theorem r169 (n lo hi : Int) : RCall P 169 [.int .i64 n, .int .i64 lo, .int .i64 hi] h (fun v _ => v = .int .i64 (rangeS n lo hi)) := by
  refine .of T.mix T.c169 ?_
  unfold fn169
  simp only [uset]
  simp +contextual only [wset, wsplit, decide_true, decide_false]
  refine ⟨fun h1 => ?_, fun h1 => ?_⟩ <;>
  · refine WF.res T.c192 (r192 T _ _) ?_
    rintro _ g rfl
    simp only [wset]
    simp [whenS, rangeS, h1]
theorem r205 (c : UInt8) : RCall P 205 [.int .u8 c.toNat] h (fun v _ => v = .bool (letterS c)) := by
  refine .of T.mix T.c205 ?_
  unfold fn205
  simp only [uset]
  simp +contextual only [wset, wsplit, decide_true, decide_false]
  grind [letterS]
theorem r206 (c : UInt8) : RCall P 206 [.int .u8 c.toNat] h (fun v _ => v = .bool (digitS c)) := by
  refine .of T.mix T.c206 ?_
  unfold fn206
  simp only [uset]
  simp +contextual only [wset, wsplit, decide_true, decide_false]
  grind [digitS]
theorem r163 (s : List UInt8) (hl : s.length < 2 ^ 63) : RCall P 163 [.str s] h (fun v _ => v = .bool (nameS s)) := by
  refine .of T.mix T.c163 ?_
  unfold fn163
  simp only [uset]
  cases s with
  | nil =>
    simp only [wset, List.length_nil]
    simp only [show ((0 : Nat) : Int) = 0 from rfl, decide_true, wset]
    rfl
  | cons c r =>
    have e1 : ¬ (((c :: r).length : Nat) : Int) = 0 := by simp; omega
    simp +contextual only [wset, wsplit, e1, decide_true, decide_false]
    refine ⟨fun h1 => ?_, fun h1 => ?_⟩
    · have : ¬ r.length < 24 := by simp at h1; omega
      simp [nameS, this]
    · rw [ixs_0]
      simp only [wset]
      refine WF.ce T.c205 (r205 T _) fun g => ?_
      have hlt : r.length < 24 := by simp at h1; omega
      cases hc : letterS c with
      | false =>
        simp only [wset, Bool.not_false]
        simp [nameS, hc]
      | true =>
        simp only [wset, Bool.not_true]
        have key : nameS (c :: r) = r.all restS := by simp [nameS, hc, hlt]
        refine WL.inv T.mix (fun n ts h' => ∃ k : Nat, k ≤ r.length ∧ n = r.length - k ∧ Ext h h' ∧ r.all restS = (r.drop k).all restS ∧ ts.length = 42 ∧ slot ts 0 = .str (c :: r) ∧ slot ts 3 = .int .i64 (k + 1)) r.length
          ⟨0, by omega, rfl, ⟨_, rfl⟩, rfl, rfl, rfl, rfl⟩ ?_
        rintro _ ts _ ⟨k, hk, rfl, ⟨g', rfl⟩, hf, hlen, h0, h3⟩
        rw [expl ts 42 hlen]
        have hlc : (c :: r).length = r.length + 1 := rfl
        by_cases hlt : k < r.length
        · have hd : r.drop k = r[k] :: r.drop (k + 1) := by simp
          have e3 : (k : Int) + 1 < ((c :: r).length : Nat) := by omega
          have e4 : ixsF (.str (c :: r)) (.int .i64 (k + 1)) = some (.int .u8 r[k].toNat) := ixs_in (s := c :: r) (i := k + 1) (by omega)
          simp only [wset, h0, h3, e3, decide_true, e4]
          refine WF.ce T.c205 (r205 T _) fun g1 => ?_
          cases hx : letterS r[k] with
          | true =>
            simp (disch := omega) only [wset, Bool.not_true, wrap_in]
            exact ⟨_, by omega, k + 1, by omega, rfl, by rw [hf, hd, List.all_cons, restS, hx, Bool.true_or, Bool.true_or, Bool.true_and], rfl⟩
          | false =>
            simp only [wset, Bool.not_false, h0, h3, e4]
            refine WF.ce T.c206 (r206 T _) fun g2 => ?_
            cases hy : digitS r[k] with
            | true =>
              simp (disch := omega) only [wset, Bool.not_true, wrap_in]
              exact ⟨_, by omega, k + 1, by omega, rfl, by rw [hf, hd, List.all_cons, restS, hx, hy, Bool.or_true, Bool.true_or, Bool.true_and], rfl⟩
            | false =>
              simp +contextual (disch := omega) only [wset, wsplit, Bool.not_false, h0, h3, e4, wrap_in]
              refine ⟨fun h9 => ?_, fun h9 => ⟨_, by omega, k + 1, by omega, rfl, ?_, rfl⟩⟩
              · rw [key, hf, hd, List.all_cons, restS, hx, hy]; simp; omega
              · rw [hf, hd, List.all_cons, restS, hx, hy]; simp; omega
        · have e3 : ¬ (k : Int) + 1 < ((c :: r).length : Nat) := by omega
          have e4 : k = r.length := by omega
          simp only [wset, h0, h3, e3, decide_false, if_true]
          rw [key, hf, e4, List.drop_length]; rfl
theorem r200 (s : List UInt8) : RCall P 200 [.str s] h (fun v _ => v = .bool (nameS s)) := by
  refine .of T.mix T.c200 ?_
  unfold fn200
  simp only [uset]
  simp only [wset, hset]
  refine WL.inv T.mix (fun n ts h' => ∃ k : Nat, k ≤ s.length ∧ n = s.length - k ∧ h' = h ++ [.iter s k] ∧ goodS (s.take k) = true ∧ ts.length = 54 ∧ slot ts 0 = .str s ∧ slot ts 8 = .ptr h.length 0) s.length
    ⟨0, by omega, rfl, rfl, rfl, rfl, rfl, rfl⟩ ?_
  rintro _ ts _ ⟨k, hk, rfl, rfl, hf, hlen, h0, h8⟩
  rw [expl ts 54 hlen]
  by_cases hlt : k < s.length
  · have hstep := good_step hlt
    rw [hf, Bool.true_and] at hstep
    obtain ⟨c, w, hdec, hcw⟩ : ∃ c w, Utf8.decode ⟨⟨s⟩⟩ k = (c, w) ∧ (c = s[k].toNat ∧ w = 1 ∨ 128 ≤ c ∧ 128 ≤ s[k].toNat) := by
      by_cases hc : s[k].toNat < 128
      · exact ⟨_, _, dec_lt hlt hc, .inl ⟨rfl, rfl⟩⟩
      · exact ⟨_, _, rfl, .inr ⟨dec_ge hlt (by omega), by omega⟩⟩
    have hbad : (if k = 0 then letterS s[k] else restS s[k]) = false → AV.bool false = AV.bool (nameS s) := fun hb => by
      rw [hb] at hstep
      rw [name_good, good_take hstep, Bool.and_false]
    have hgood : ∀ w', c = s[k].toNat ∧ w' = 1 → (if k = 0 then letterS s[k] else restS s[k]) = true → ∃ m, m < s.length - k ∧ ∃ k_1, k_1 ≤ s.length ∧ m = s.length - k_1 ∧ h ++ [ABlk.iter s (k + w')] = h ++ [ABlk.iter s k_1] ∧ goodS (List.take k_1 s) = true ∧ True := fun w' hw hb => by
      rw [hb] at hstep
      exact ⟨_, by omega, k + 1, by omega, rfl, by rw [hw.2], hstep, trivial⟩
    have hl : letterS s[k] = (decide (65 ≤ s[k].toNat) && decide (s[k].toNat ≤ 90) || decide (97 ≤ s[k].toNat) && decide (s[k].toNat ≤ 122)) := rfl
    have hr : restS s[k] = (letterS s[k] || (decide (48 ≤ s[k].toNat) && decide (s[k].toNat ≤ 57)) || s[k].toNat == 95) := rfl
    have h0' : ((k : Int) = 0) = (k = 0) := by simp
    by_cases a1 : (65 : Int) ≤ c <;> by_cases a2 : (c : Int) ≤ 90 <;> by_cases a3 : (97 : Int) ≤ c <;> by_cases a4 : (c : Int) ≤ 122 <;> first | (exfalso; omega) | skip
    all_goals by_cases a5 : (48 : Int) ≤ c <;> by_cases a6 : (c : Int) ≤ 57 <;> by_cases a7 : (c : Int) = 95 <;> first | (exfalso; omega) | skip
    all_goals first | have b7 := eq_false a7 | have b7 := eq_true a7
    all_goals simp only [wset, hset, h0, h8, nextB, hlt, if_true, hdec, a1, a2, a3, a4, a5, a6, b7, decide_true, decide_false, Bool.not_true, Bool.not_false]
    all_goals first
      | exact hgood _ (by omega) (by grind)
      | (by_cases hk0 : (k : Int) = 0 <;> simp only [wset, hset, hk0, decide_true, decide_false, Bool.not_true, Bool.not_false] <;> first
          | exact hbad (by grind)
          | exact hgood _ (by omega) (by grind))
      | exact hbad (by grind)
  · simp only [wset, hset, h0, h8, nextB, hlt, if_false, if_true]
    have e4 : k = s.length := by omega
    rw [e4, List.take_length] at hf
    by_cases he : s = [] <;> simp only [wset, he, decide_true, decide_false, ne_eq, not_true_eq_false, not_false_eq_true]
    · rfl
    · rw [name_good, hf]; simp [he]; omega
end
end Go.Abs
namespace Go.Abs
def fltR (b : Nat) : List AV := [.flt .f32 b]
set_option maxRecDepth 10000
attribute [local irreducible] WP WC WE WB WR WF WL WG WRg WQ
section
variable {P : Program} (T : Tbl P) {h : AHeap}
include T
set_option maxHeartbeats 2000000 in
theorem q141 {s : AV} {l : List (Nat)} (hs : IsSl h s 1 (l.map fltR)) (hl : l.length < 2 ^ 40) {f : FuncId} {AF : AFunc} (hA : compileFn P f = some AF) {g : Nat → Int} (hf : ∀ x ∈ l, ∀ k, RCall P f [.flt .f32 x] k (fun v _ => v = .int .i64 (g x))) : RCall P 141 [s, .func (.func f) [] []] h (fun v h' => Fr h.length h' v 1 ((l.map g).map intRow)) := by
  refine .st2 22 T.mix T.c141 ?_;intro ts hlen t0 t1;unfold fn141
  refine Rs (A3 @t0 @t1 hs.lenm) ?_
  refine WL.inv T.mix (fun n ts K => ∃ (k : Nat) (t : AV), k ≤ l.length ∧ n = l.length - k ∧ Ext h K ∧ Fr h.length K t 1 (((l.take k).map g).map intRow) ∧ ts.length = 22 ∧ slot ts 1 = .func (.func f) [] [] ∧ slot ts 5 = t ∧ slot ts 8 = s ∧ slot ts 9 = .int .i64 l.length ∧ slot ts 10 = .int .i64 k) l.length
    ⟨0, .nilSlice, by omega, rfl, .refl _, .nil, Sn, (Sq @t1), Sw, Sw, Sw, Swr⟩ ?_
  clear hlen t0 t1
  rintro _ ts K ⟨k, t, hk, rfl, eK, hfr, hlen, t1, t5, t8, t9, t10⟩
  have hsK := hs.ext eK
  by_cases hlt : k < l.length
  case neg =>
    have e3 := dltF hlt
    have e4 : k = l.length := by omega
    rw [e4, List.take_length] at hfr
    refine Rs (A6 @t1 @t5 @t8 @t9 @t10 @e3) ?_
    exact ⟨eK, hfr⟩
  have e3 := dltT hlt
  have e5 := wrapN (n := k) (by omega)
  have ix := hsK.ixm (kk := .i64) hlt
  obtain ⟨x, hx⟩ : ∃ x, x = l[k] := ⟨_, rfl⟩
  have ld : ∀ {kk : AHeap}, Ext K kk → loadF none (elp s 1 k) (fun b => kk[b]?) = some (.flt .f32 x, .keep) := fun {kk} e => by rw [hx]; exact hsK.l1m hlt rfl e
  have hmem : x ∈ l := by rw [hx]; exact List.getElem_mem _
  have ot := hfr.isSl.one
  have htk : l.take (k + 1) = l.take k ++ [x] := by rw [hx]; exact List.take_succ_eq_append_getElem hlt
  refine Rs (A9 @t1 @t5 @t8 @t9 @t10 @e3 @ix @ld @ot) ?_
  refine WF.ce hA (hf x hmem _) fun g1 => ?_
  have bs : ∀ {N : Nat}, bslF 1 1 (fillA [.int .i64 0] [(0, 1, .int .i64 (g x))]) N = some (.slice N 0 1 1, .push (.cells [.int .i64 (g x)] true true)) := fun {N} => rfl
  refine Rs (A7 @t1 @t5 @t8 @t9 @t10 @ot @bs) ?_
  refine WR.appR (B := h) (cs := ((l.take k).map g).map intRow) (z := intRow (g x)) (hfr.app _) rfl (eK.trans ⟨_, rfl⟩) (by decide) (by rw [List.length_map, List.length_map, List.length_take]; omega) ?_
  intro W5 s' x5 hff q5
  have hrow : ((l.take k).map g).map intRow ++ [intRow (g x)] = ((l.take (k + 1)).map g).map intRow := by rw [htk, List.map_append, List.map_append]; rfl
  rw [hrow] at hff
  refine Rs (A7 @t1 @t5 @t8 @t9 @t10 @q5 @e5) ?_
  exact ⟨l.length - (k + 1), by omega, k + 1, s', by omega, rfl, x5, hff, rfl, rfl⟩
theorem r141 {s : AV} {l : List (Nat)} (hs : IsSl h s 1 (l.map fltR)) (hl : l.length < 2 ^ 40) {f : FuncId} {AF : AFunc} (hA : compileFn P f = some AF) {g : Nat → Int} (hf : ∀ x ∈ l, ∀ k, RCall P f [.flt .f32 x] k (fun v _ => v = .int .i64 (g x))) : RCall P 141 [s, .func (.func f) [] []] h (fun v h' => IsSl h' v 1 ((l.map g).map intRow)) := by
  obtain ⟨v, k, h1, h2⟩ := q141 T hs hl hA hf
  exact ⟨v, k, h1, h2.isSl⟩
set_option maxHeartbeats 2000000 in
theorem q107 {s : AV} {l : List (Nat)} (hs : IsSl h s 1 (l.map fltR)) (hl : l.length < 2 ^ 40) {f : FuncId} {AF : AFunc} (hA : compileFn P f = some AF) {g : Nat → Int} (hf : ∀ x ∈ l, ∀ k, RCall P f [.flt .f32 x] k (fun v _ => v = .int .i64 (g x))) : RCall P 107 [s, .func (.func f) [] []] h (fun v h' => Fr h.length h' v 1 ((l.map g).map intRow)) := by
  refine .st2 22 T.mix T.c107 ?_;intro ts hlen t0 t1;unfold fn107
  refine Rs (A3 @t0 @t1 hs.lenm) ?_
  refine WL.inv T.mix (fun n ts K => ∃ (k : Nat) (t : AV), k ≤ l.length ∧ n = l.length - k ∧ Ext h K ∧ Fr h.length K t 1 (((l.take k).map g).map intRow) ∧ ts.length = 22 ∧ slot ts 1 = .func (.func f) [] [] ∧ slot ts 5 = t ∧ slot ts 8 = s ∧ slot ts 9 = .int .i64 l.length ∧ slot ts 10 = .int .i64 k) l.length
    ⟨0, .nilSlice, by omega, rfl, .refl _, .nil, Sn, (Sq @t1), Sw, Sw, Sw, Swr⟩ ?_
  clear hlen t0 t1
  rintro _ ts K ⟨k, t, hk, rfl, eK, hfr, hlen, t1, t5, t8, t9, t10⟩
  have hsK := hs.ext eK
  by_cases hlt : k < l.length
  case neg =>
    have e3 := dltF hlt
    have e4 : k = l.length := by omega
    rw [e4, List.take_length] at hfr
    refine Rs (A6 @t1 @t5 @t8 @t9 @t10 @e3) ?_
    exact ⟨eK, hfr⟩
  have e3 := dltT hlt
  have e5 := wrapN (n := k) (by omega)
  have ix := hsK.ixm (kk := .i64) hlt
  obtain ⟨x, hx⟩ : ∃ x, x = l[k] := ⟨_, rfl⟩
  have ld : ∀ {kk : AHeap}, Ext K kk → loadF none (elp s 1 k) (fun b => kk[b]?) = some (.flt .f32 x, .keep) := fun {kk} e => by rw [hx]; exact hsK.l1m hlt rfl e
  have hmem : x ∈ l := by rw [hx]; exact List.getElem_mem _
  have ot := hfr.isSl.one
  have htk : l.take (k + 1) = l.take k ++ [x] := by rw [hx]; exact List.take_succ_eq_append_getElem hlt
  refine Rs (A9 @t1 @t5 @t8 @t9 @t10 @e3 @ix @ld @ot) ?_
  refine WF.ce hA (hf x hmem _) fun g1 => ?_
  have bs : ∀ {N : Nat}, bslF 1 1 (fillA [.int .i64 0] [(0, 1, .int .i64 (g x))]) N = some (.slice N 0 1 1, .push (.cells [.int .i64 (g x)] true true)) := fun {N} => rfl
  refine Rs (A7 @t1 @t5 @t8 @t9 @t10 @ot @bs) ?_
  refine WR.appR (B := h) (cs := ((l.take k).map g).map intRow) (z := intRow (g x)) (hfr.app _) rfl (eK.trans ⟨_, rfl⟩) (by decide) (by rw [List.length_map, List.length_map, List.length_take]; omega) ?_
  intro W5 s' x5 hff q5
  have hrow : ((l.take k).map g).map intRow ++ [intRow (g x)] = ((l.take (k + 1)).map g).map intRow := by rw [htk, List.map_append, List.map_append]; rfl
  rw [hrow] at hff
  refine Rs (A7 @t1 @t5 @t8 @t9 @t10 @q5 @e5) ?_
  exact ⟨l.length - (k + 1), by omega, k + 1, s', by omega, rfl, x5, hff, rfl, rfl⟩
theorem r107 {s : AV} {l : List (Nat)} (hs : IsSl h s 1 (l.map fltR)) (hl : l.length < 2 ^ 40) {f : FuncId} {AF : AFunc} (hA : compileFn P f = some AF) {g : Nat → Int} (hf : ∀ x ∈ l, ∀ k, RCall P f [.flt .f32 x] k (fun v _ => v = .int .i64 (g x))) : RCall P 107 [s, .func (.func f) [] []] h (fun v h' => IsSl h' v 1 ((l.map g).map intRow)) := by
  obtain ⟨v, k, h1, h2⟩ := q107 T hs hl hA hf
  exact ⟨v, k, h1, h2.isSl⟩
set_option maxHeartbeats 2000000 in
theorem q182 {s : AV} {l : List (Int)} (hs : IsSl h s 1 (l.map intRow)) (hl : l.length < 2 ^ 40) {f : FuncId} {AF : AFunc} (hA : compileFn P f = some AF) {g : Int → Nat} (hf : ∀ x ∈ l, ∀ k, RCall P f [.int .i64 x] k (fun v _ => v = .flt .f32 (g x))) : RCall P 182 [s, .func (.func f) [] []] h (fun v h' => Fr h.length h' v 1 ((l.map g).map fltR)) := by
  refine .st2 22 T.mix T.c182 ?_;intro ts hlen t0 t1;unfold fn182
  refine Rs (A3 @t0 @t1 hs.lenm) ?_
  refine WL.inv T.mix (fun n ts K => ∃ (k : Nat) (t : AV), k ≤ l.length ∧ n = l.length - k ∧ Ext h K ∧ Fr h.length K t 1 (((l.take k).map g).map fltR) ∧ ts.length = 22 ∧ slot ts 1 = .func (.func f) [] [] ∧ slot ts 5 = t ∧ slot ts 8 = s ∧ slot ts 9 = .int .i64 l.length ∧ slot ts 10 = .int .i64 k) l.length
    ⟨0, .nilSlice, by omega, rfl, .refl _, .nil, Sn, (Sq @t1), Sw, Sw, Sw, Swr⟩ ?_
  clear hlen t0 t1
  rintro _ ts K ⟨k, t, hk, rfl, eK, hfr, hlen, t1, t5, t8, t9, t10⟩
  have hsK := hs.ext eK
  by_cases hlt : k < l.length
  case neg =>
    have e3 := dltF hlt
    have e4 : k = l.length := by omega
    rw [e4, List.take_length] at hfr
    refine Rs (A6 @t1 @t5 @t8 @t9 @t10 @e3) ?_
    exact ⟨eK, hfr⟩
  have e3 := dltT hlt
  have e5 := wrapN (n := k) (by omega)
  have ix := hsK.ixm (kk := .i64) hlt
  obtain ⟨x, hx⟩ : ∃ x, x = l[k] := ⟨_, rfl⟩
  have ld : ∀ {kk : AHeap}, Ext K kk → loadF none (elp s 1 k) (fun b => kk[b]?) = some (.int .i64 x, .keep) := fun {kk} e => by rw [hx]; exact hsK.l1m hlt rfl e
  have hmem : x ∈ l := by rw [hx]; exact List.getElem_mem _
  have ot := hfr.isSl.one
  have htk : l.take (k + 1) = l.take k ++ [x] := by rw [hx]; exact List.take_succ_eq_append_getElem hlt
  refine Rs (A9 @t1 @t5 @t8 @t9 @t10 @e3 @ix @ld @ot) ?_
  refine WF.ce hA (hf x hmem _) fun g1 => ?_
  have bs : ∀ {N : Nat}, bslF 1 1 (fillA [.flt .f32 0] [(0, 1, .flt .f32 (g x))]) N = some (.slice N 0 1 1, .push (.cells [.flt .f32 (g x)] true true)) := fun {N} => rfl
  refine Rs (A7 @t1 @t5 @t8 @t9 @t10 @ot @bs) ?_
  refine WR.appR (B := h) (cs := ((l.take k).map g).map fltR) (z := fltR (g x)) (hfr.app _) rfl (eK.trans ⟨_, rfl⟩) (by decide) (by rw [List.length_map, List.length_map, List.length_take]; omega) ?_
  intro W5 s' x5 hff q5
  have hrow : ((l.take k).map g).map fltR ++ [fltR (g x)] = ((l.take (k + 1)).map g).map fltR := by rw [htk, List.map_append, List.map_append]; rfl
  rw [hrow] at hff
  refine Rs (A7 @t1 @t5 @t8 @t9 @t10 @q5 @e5) ?_
  exact ⟨l.length - (k + 1), by omega, k + 1, s', by omega, rfl, x5, hff, rfl, rfl⟩
theorem r182 {s : AV} {l : List (Int)} (hs : IsSl h s 1 (l.map intRow)) (hl : l.length < 2 ^ 40) {f : FuncId} {AF : AFunc} (hA : compileFn P f = some AF) {g : Int → Nat} (hf : ∀ x ∈ l, ∀ k, RCall P f [.int .i64 x] k (fun v _ => v = .flt .f32 (g x))) : RCall P 182 [s, .func (.func f) [] []] h (fun v h' => IsSl h' v 1 ((l.map g).map fltR)) := by
  obtain ⟨v, k, h1, h2⟩ := q182 T hs hl hA hf
  exact ⟨v, k, h1, h2.isSl⟩
set_option maxHeartbeats 2000000 in
theorem q118 {s : AV} {l : List (Int)} (hs : IsSl h s 1 (l.map intRow)) (hl : l.length < 2 ^ 40) {f : FuncId} {AF : AFunc} (hA : compileFn P f = some AF) {g : Int → Int} (hf : ∀ x ∈ l, ∀ k, RCall P f [.int .i64 x] k (fun v _ => v = .int .i64 (g x))) : RCall P 118 [s, .func (.func f) [] []] h (fun v h' => Fr h.length h' v 1 ((l.map g).map intRow)) := by
  refine .st2 22 T.mix T.c118 ?_;intro ts hlen t0 t1;unfold fn118
  refine Rs (A3 @t0 @t1 hs.lenm) ?_
  refine WL.inv T.mix (fun n ts K => ∃ (k : Nat) (t : AV), k ≤ l.length ∧ n = l.length - k ∧ Ext h K ∧ Fr h.length K t 1 (((l.take k).map g).map intRow) ∧ ts.length = 22 ∧ slot ts 1 = .func (.func f) [] [] ∧ slot ts 5 = t ∧ slot ts 8 = s ∧ slot ts 9 = .int .i64 l.length ∧ slot ts 10 = .int .i64 k) l.length
    ⟨0, .nilSlice, by omega, rfl, .refl _, .nil, Sn, (Sq @t1), Sw, Sw, Sw, Swr⟩ ?_
  clear hlen t0 t1
  rintro _ ts K ⟨k, t, hk, rfl, eK, hfr, hlen, t1, t5, t8, t9, t10⟩
  have hsK := hs.ext eK
  by_cases hlt : k < l.length
  case neg =>
    have e3 := dltF hlt
    have e4 : k = l.length := by omega
    rw [e4, List.take_length] at hfr
    refine Rs (A6 @t1 @t5 @t8 @t9 @t10 @e3) ?_
    exact ⟨eK, hfr⟩
  have e3 := dltT hlt
  have e5 := wrapN (n := k) (by omega)
  have ix := hsK.ixm (kk := .i64) hlt
  obtain ⟨x, hx⟩ : ∃ x, x = l[k] := ⟨_, rfl⟩
  have ld : ∀ {kk : AHeap}, Ext K kk → loadF none (elp s 1 k) (fun b => kk[b]?) = some (.int .i64 x, .keep) := fun {kk} e => by rw [hx]; exact hsK.l1m hlt rfl e
  have hmem : x ∈ l := by rw [hx]; exact List.getElem_mem _
  have ot := hfr.isSl.one
  have htk : l.take (k + 1) = l.take k ++ [x] := by rw [hx]; exact List.take_succ_eq_append_getElem hlt
  refine Rs (A9 @t1 @t5 @t8 @t9 @t10 @e3 @ix @ld @ot) ?_
  refine WF.ce hA (hf x hmem _) fun g1 => ?_
  have bs : ∀ {N : Nat}, bslF 1 1 (fillA [.int .i64 0] [(0, 1, .int .i64 (g x))]) N = some (.slice N 0 1 1, .push (.cells [.int .i64 (g x)] true true)) := fun {N} => rfl
  refine Rs (A7 @t1 @t5 @t8 @t9 @t10 @ot @bs) ?_
  refine WR.appR (B := h) (cs := ((l.take k).map g).map intRow) (z := intRow (g x)) (hfr.app _) rfl (eK.trans ⟨_, rfl⟩) (by decide) (by rw [List.length_map, List.length_map, List.length_take]; omega) ?_
  intro W5 s' x5 hff q5
  have hrow : ((l.take k).map g).map intRow ++ [intRow (g x)] = ((l.take (k + 1)).map g).map intRow := by rw [htk, List.map_append, List.map_append]; rfl
  rw [hrow] at hff
  refine Rs (A7 @t1 @t5 @t8 @t9 @t10 @q5 @e5) ?_
  exact ⟨l.length - (k + 1), by omega, k + 1, s', by omega, rfl, x5, hff, rfl, rfl⟩
theorem r118 {s : AV} {l : List (Int)} (hs : IsSl h s 1 (l.map intRow)) (hl : l.length < 2 ^ 40) {f : FuncId} {AF : AFunc} (hA : compileFn P f = some AF) {g : Int → Int} (hf : ∀ x ∈ l, ∀ k, RCall P f [.int .i64 x] k (fun v _ => v = .int .i64 (g x))) : RCall P 118 [s, .func (.func f) [] []] h (fun v h' => IsSl h' v 1 ((l.map g).map intRow)) := by
  obtain ⟨v, k, h1, h2⟩ := q118 T hs hl hA hf
  exact ⟨v, k, h1, h2.isSl⟩
end
end Go.Abs
namespace Go.Abs
noncomputable def chkL (l : List Nat) : Int := if 1024 < l.length then 5 else firstS (l.map gridE)
theorem firstS_z : ∀ {l : List Int}, firstS l = 0 → ∀ x ∈ l, x = 0
  | [], _, x, h => by cases h
  | y :: l, h, x, hx => by
    rw [firstS] at h
    by_cases hy : y = 0
    · rw [if_pos hy] at h
      rcases List.mem_cons.1 hx with rfl | hx
      · exact hy
      · exact firstS_z h x hx
    · rw [if_neg hy] at h; exact absurd h hy
theorem chkL_z {l : List Nat} (h : chkL l = 0) : l.length ≤ 1024 ∧ ∀ b ∈ l, gridE b = 0 := by
  unfold chkL at h
  split at h
  · cases h
  · exact ⟨by omega, fun b hb => firstS_z h _ (List.mem_map_of_mem hb)⟩
def fitB (n : Int) : Bool := decide (-16384 ≤ n) && decide (n ≤ 16384)
theorem fitB_t {n : Int} (h : fitB n = true) : -16384 ≤ n ∧ n ≤ 16384 := by simpa [fitB] using h
def fitsB (l : List Int) : Bool := l.all fitB
set_option maxRecDepth 10000
attribute [local irreducible] WP WC WE WB WR WF WL WG WRg WQ
section
variable {P : Program} (T : Tbl P) {h : AHeap}
include T
set_option maxHeartbeats 1000000 in
theorem r134 {s : AV} {l : List Nat} (hs : IsSl h s 1 (l.map fltR)) (hl : l.length < 2 ^ 40) : RCall P 134 [s] h (fun v _ => v = .int .i64 (chkL l)) := by
  refine .st1 9 T.mix T.c134 ?_;intro ts hlen t0;unfold fn134
  by_cases h1 : 1024 < l.length
  · have d1 : decide ((1024 : Int) < (l.length : Int)) = true := decide_eq_true (by omega)
    have e : chkL l = 5 := if_pos h1
    refine Rs (A3 @t0 hs.lenm @d1) ?_
    rw [e]
  have d1 : decide ((1024 : Int) < (l.length : Int)) = false := decide_eq_false (by omega)
  have e : chkL l = firstS (l.map gridE) := if_neg h1
  refine Rs (A3 @t0 hs.lenm @d1) ?_
  refine WF.res T.c141 (r141 T (hs.ext Xx) hl T.c142 (fun x _ k => r142 T x)) ?_
  intro s2 g1 is1
  refine Rs @t0 ?_
  refine WF.ce T.c116 (r116 T is1 (by rw [List.length_map]; omega)) fun g2 => ?_
  refine Rs @t0 ?_
  rw [e]
set_option maxHeartbeats 1000000 in
theorem r75 (X : Xfl P) {s : AV} {l : List Nat} (hs : IsSl h s 1 (l.map fltR)) (hl : l.length < 2 ^ 40) : RCall P 75 [s] h (fun v _ => v = .int .i64 (firstS (l.map gridE))) := by
  refine .st1 19 T.mix T.c75 ?_;intro ts hlen t0;unfold fn75
  refine Rs @t0 ?_
  refine WL.inv T.mix (fun n ts K => ∃ k : Nat, k ≤ l.length ∧ n = l.length - k ∧ Ext h K ∧ firstS (l.map gridE) = firstS ((l.drop k).map gridE) ∧ ts.length = 19 ∧ slot ts 0 = s ∧ slot ts 3 = .int .i64 k) l.length
    ⟨0, by omega, rfl, .refl _, rfl, Sn, (Sq @t0), Swr⟩ ?_
  clear hlen t0
  rintro _ ts K ⟨k, hk, rfl, eK, hf, hlen, t0, t3⟩
  have hsK := hs.ext eK
  by_cases hlt : k < l.length
  case neg =>
    have e3 := dltF hlt
    have e4 : k = l.length := by omega
    rw [hf, e4, List.drop_length]
    refine Rs (A4 @t0 @t3 hsK.lenm @e3) ?_
    exact ⟨eK, rfl⟩
  have e3 := dltT hlt
  have e5 := wrapN (n := k) (by omega)
  have ix := hsK.ixm (kk := .i64) hlt
  have hd : l.drop k = l[k] :: l.drop (k + 1) := by simp
  rw [hd, List.map_cons, firstS] at hf
  obtain ⟨x, hx⟩ : ∃ x, x = l[k] := ⟨_, rfl⟩
  have ld : ∀ {kk : AHeap}, Ext K kk → loadF none (elp s 1 k) (fun b => kk[b]?) = some (.flt .f32 x, .keep) := fun {kk} e => by rw [hx]; exact hsK.l1m hlt rfl e
  rw [← hx] at hf
  refine Rs (A6 @t0 @t3 hsK.lenm @e3 @ix @ld) ?_
  refine WF.ce T.c155 (r155 T X x) fun g1 => ?_
  by_cases hz : gridE x = 0
  · have d6 : decide (gridE x ≠ 0) = false := decide_eq_false fun z => z hz
    rw [if_pos hz] at hf
    refine Rs (A4 @t0 @t3 @d6 @e5) ?_
    exact ⟨l.length - (k + 1), by omega, k + 1, by omega, rfl, eK.trans ⟨g1, rfl⟩, hf, rfl⟩
  · have d6 : decide (gridE x ≠ 0) = true := decide_eq_true hz
    rw [if_neg hz] at hf
    refine Rs (A3 @t0 @t3 @d6) ?_
    exact ⟨eK.trans ⟨g1, rfl⟩, by rw [hf]⟩
set_option maxHeartbeats 1000000 in
theorem r28 (X : Xfl P) {s : AV} {l : List Nat} (hs : IsSl h s 1 (l.map fltR)) (hl : l.length < 2 ^ 40) : RCall P 28 [s] h (fun v _ => v = .int .i64 (chkL l)) := by
  refine .st1 8 T.mix T.c28 ?_;intro ts hlen t0;unfold fn28
  by_cases h1 : 1024 < l.length
  · have d1 : decide ((1024 : Int) < (l.length : Int)) = true := decide_eq_true (by omega)
    have e : chkL l = 5 := if_pos h1
    refine Rs (A3 @t0 hs.lenm @d1) ?_
    rw [e]
  have d1 : decide ((1024 : Int) < (l.length : Int)) = false := decide_eq_false (by omega)
  have e : chkL l = firstS (l.map gridE) := if_neg h1
  refine Rs (A3 @t0 hs.lenm @d1) ?_
  refine WF.ce T.c75 (r75 T X (hs.ext Xx) hl) fun g1 => ?_
  refine Rs @t0 ?_
  rw [e]
set_option maxHeartbeats 1000000 in
theorem r19 {s : AV} {l : List Nat} (hs : IsSl h s 1 (l.map fltR)) : RCall P 19 [s] h (fun v _ => v = .bool (decide (l.length ≤ 32) || decide (l.length = 1025))) := by
  refine .st1 11 T.mix T.c19 ?_;intro ts hlen t0;unfold fn19
  by_cases h1 : l.length ≤ 32
  · have d1 : decide ((l.length : Int) ≤ 32) = true := decide_eq_true (by omega)
    have d2 : (decide (l.length ≤ 32) || decide (l.length = 1025)) = true := by rw [decide_eq_true h1]; rfl
    refine Rs (A3 @t0 hs.lenm @d1) ?_
    rw [d2]
  · have d1 : decide ((l.length : Int) ≤ 32) = false := decide_eq_false (by omega)
    have d2 : (decide (l.length ≤ 32) || decide (l.length = 1025)) = decide ((l.length : Int) = 1025) := by rw [decide_eq_false h1, Bool.false_or]; exact decide_eq_decide.2 (by omega)
    refine Rs (A3 @t0 hs.lenm @d1) ?_
    rw [d2]
set_option maxHeartbeats 1000000 in
theorem r22 {s : AV} {l : List Nat} (hs : IsSl h s 1 (l.map fltR)) (hl : l.length < 2 ^ 40) : RCall P 22 [s] h (fun v h' => IsSl h' v 1 (l.map fltR)) := by
  refine .st1 6 T.mix T.c22 ?_;intro ts hlen t0;unfold fn22
  refine Rs @t0 ?_
  refine WR.appz (N := h.length) (w := 4) at_new (Nat.le_refl _) (hs.ext Xx) (by rw [List.length_map]; omega) fun a1 y1 f1 => ?_
  have p1 := f1.isSl.one
  refine Rs (A2 @t0 @p1) ?_
  exact f1.isSl
set_option maxHeartbeats 1000000 in
theorem r21 {s : AV} {l : List Int} (hs : IsSl h s 1 (l.map intRow)) (hl : l.length < 2 ^ 40) : RCall P 21 [s] h (fun v h' => IsSl h' v 1 (l.map intRow)) := by
  refine .st1 6 T.mix T.c21 ?_;intro ts hlen t0;unfold fn21
  refine Rs @t0 ?_
  refine WR.appz (N := h.length) (w := 8) at_new (Nat.le_refl _) (hs.ext Xx) (by rw [List.length_map]; omega) fun a1 y1 f1 => ?_
  have p1 := f1.isSl.one
  refine Rs (A2 @t0 @p1) ?_
  exact f1.isSl
end
end Go.Abs
namespace Go.Abs
structure Trc where
  hd : Nat → Int
  hole : Bool
  sm : List Nat
def hdR (f : Nat → Int) : List AV := [.int .i64 (f 0), .int .i64 (f 1), .int .i64 (f 2), .int .i64 (f 3), .int .i64 (f 4), .int .i64 (f 5), .int .i64 (f 6), .int .i64 (f 7)]
def trRow (x : Trc × AV) : List AV := [.int .i64 (x.1.hd 0), .int .i64 (x.1.hd 1), .int .i64 (x.1.hd 2), .int .i64 (x.1.hd 3), .int .i64 (x.1.hd 4), .int .i64 (x.1.hd 5), .int .i64 (x.1.hd 6), .int .i64 (x.1.hd 7), .bool x.1.hole, x.2]
def hdLo (i : Nat) : Int := if i < 4 then -100000 else if i = 4 then 0 else -999999999
def hdHi (i : Nat) : Int := if i < 4 then 100000 else if i = 4 then 100000 else 999999999
def hdE (f : Nat → Int) : Int := firstS [rangeS (f 0) (-100000) 100000, rangeS (f 1) (-100000) 100000, rangeS (f 2) (-100000) 100000, rangeS (f 3) (-100000) 100000, rangeS (f 4) 0 100000, rangeS (f 5) (-999999999) 999999999, rangeS (f 6) (-999999999) 999999999, rangeS (f 7) (-999999999) 999999999]
def hdF (f : Nat → Int) : Nat → Int
  | 0 => 0
  | n + 1 => if rangeS (f (7 - n)) (hdLo (7 - n)) (hdHi (7 - n)) = 0 then hdF f n else rangeS (f (7 - n)) (hdLo (7 - n)) (hdHi (7 - n))
theorem hdF_eq (f : Nat → Int) : hdF f 8 = hdE f := by
  simp only [hdE, firstS, hdF, hdLo, hdHi]
  simp
theorem hdF_at {f : Nat → Int} {k : Nat} (hk : k < 8) : hdF f (8 - k) = if rangeS (f k) (hdLo k) (hdHi k) = 0 then hdF f (8 - (k + 1)) else rangeS (f k) (hdLo k) (hdHi k) := by
  obtain ⟨n, hn⟩ : ∃ n, n = 7 - k := ⟨_, rfl⟩
  rw [show 8 - k = n + 1 by omega, hdF, show 7 - n = k by omega, show 8 - (k + 1) = n by omega]
noncomputable def chkTr (t : Trc) : Int := firstS [hdE t.hd, whenS (t.hole && decide (0 < t.sm.length)) 24, chkL t.sm]
def widN (L : List Trc) : Nat := match L.find? fun t => !t.hole with
  | some t => t.sm.length
  | none => 0
noncomputable def chkSh (nm : List UInt8) (L : List Trc) : Int := firstS [whenS (!nameS nm) 8, whenS (decide (L.length = 0)) 12, whenS (decide (64 < L.length)) 5, firstS (L.map chkTr), whenS (L.any fun t => !t.hole && decide (t.sm.length ≠ widN L)) 2]
structure ShOk (h : AHeap) (L : List (Trc × AV)) (s : AV) : Prop where
  sl : IsSl h s 10 (L.map trRow)
  all : ∀ x ∈ L, IsSl h x.2 1 (x.1.sm.map fltR)
theorem ShOk.ext {h k : AHeap} {L : List (Trc × AV)} {s : AV} (o : ShOk h L s) (e : Ext h k) : ShOk k L s := ⟨o.sl.ext e, fun x hx => (o.all x hx).ext e⟩
structure TrEq (a b : Trc) : Prop where
  hd : a.hd = b.hd
  hole : a.hole = b.hole
  ga : ∀ x ∈ a.sm, gridE x = 0
  gb : ∀ x ∈ b.sm, gridE x = 0
  nn : a.sm.map gridN = b.sm.map gridN
end Go.Abs
namespace Go.Abs
def rngCells : List AV := [.int .i64 (-100000), .int .i64 100000, .int .i64 (-100000), .int .i64 100000, .int .i64 (-100000), .int .i64 100000, .int .i64 (-100000), .int .i64 100000, .int .i64 0, .int .i64 100000, .int .i64 (-999999999), .int .i64 999999999, .int .i64 (-999999999), .int .i64 999999999, .int .i64 (-999999999), .int .i64 999999999]
def Rng (h : AHeap) : Prop := h[2]? = some (.cells rngCells false false)
theorem Rng.ext {h k : AHeap} (p : Rng h) (e : Ext h k) : Rng k := e.some p
theorem eight {n : Nat} (h : n < 8) : n = 0 ∨ n = 1 ∨ n = 2 ∨ n = 3 ∨ n = 4 ∨ n = 5 ∨ n = 6 ∨ n = 7 := by omega
theorem rng_lo {h k : AHeap} (p : Rng h) {i : Nat} (hi : i < 8) (e : Ext h k) : loadF none (.ptr 2 (i * 2)) (fun z => k[z]?) = some (.int .i64 (hdLo i), .keep) := by
  rw [loadF_at (e.some p)]
  rcases eight hi with rfl | rfl | rfl | rfl | rfl | rfl | rfl | rfl <;> rfl
theorem rng_hi {h k : AHeap} (p : Rng h) {i : Nat} (hi : i < 8) (e : Ext h k) : loadF none (.ptr 2 (i * 2 + 1)) (fun z => k[z]?) = some (.int .i64 (hdHi i), .keep) := by
  rw [loadF_at (e.some p)]
  rcases eight hi with rfl | rfl | rfl | rfl | rfl | rfl | rfl | rfl <;> rfl
theorem ia_82 {b i : Nat} (hi : i < 8) : iadaF 8 2 (.ptr b 0) (.int .i64 (i : Int)) = some (.ptr b (i * 2)) := by unfold iadaF; simp; omega
theorem ia_20 {b o : Nat} : iadaF 2 1 (.ptr b o) (.int .i64 0) = some (.ptr b o) := rfl
theorem ia_21 {b o : Nat} : iadaF 2 1 (.ptr b o) (.int .i64 1) = some (.ptr b (o + 1)) := rfl
theorem ia_81 {b i : Nat} (hi : i < 8) : iadaF 8 1 (.ptr b 0) (.int .i64 (i : Int)) = some (.ptr b i) := by unfold iadaF; simp; omega
theorem ix_81 {f : Nat → Int} {i : Nat} (hi : i < 8) : ixaF 8 1 none (.agg (hdR f)) (.int .i64 (i : Int)) = some (.int .i64 (f i)) := by
  rcases eight hi with rfl | rfl | rfl | rfl | rfl | rfl | rfl | rfl <;> rfl
theorem hd_ld {K k : AHeap} {b i : Nat} {f : Nat → Int} (m : K[b]? = some (.cells (hdR f) true false)) (hi : i < 8) (e : Ext K k) : loadF none (.ptr b i) (fun z => k[z]?) = some (.int .i64 (f i), .keep) := by
  rw [loadF_at (e.some m)]
  rcases eight hi with rfl | rfl | rfl | rfl | rfl | rfl | rfl | rfl <;> rfl
theorem lt8T {k : Nat} (h : k < 8) : decide ((k : Int) < 8) = true := decide_eq_true (by omega)
theorem lt8F {k : Nat} (h : ¬ k < 8) : decide ((k : Int) < 8) = false := decide_eq_false (by omega)
theorem tr_one {x : Trc × AV} (ox : x.2.one = true) : (trRow x).all AV.one = true := by
  show ([.int .i64 (x.1.hd 0), .int .i64 (x.1.hd 1), .int .i64 (x.1.hd 2), .int .i64 (x.1.hd 3), .int .i64 (x.1.hd 4), .int .i64 (x.1.hd 5), .int .i64 (x.1.hd 6), .int .i64 (x.1.hd 7), .bool x.1.hole, x.2] : List AV).all AV.one = true
  simp only [List.all_cons, List.all_nil, ox]
  rfl
theorem tr_box {x : Trc × AV} (ox : x.2.one = true) {N : Nat} : boxF (.agg (trRow x)) N = some (.ptr N 0, .push (.cells (trRow x) true false)) := by
  unfold boxF
  show (if (trRow x).all AV.one = true then _ else _) = _
  rw [if_pos (tr_one ox)]
  rfl
theorem hd_box {f : Nat → Int} {N : Nat} : boxF (.agg (hdR f)) N = some (.ptr N 0, .push (.cells (hdR f) true false)) := rfl
def z10 : List AV := [.int .i64 0, .int .i64 0, .int .i64 0, .int .i64 0, .int .i64 0, .int .i64 0, .int .i64 0, .int .i64 0, .bool false, .nilSlice]
theorem z10_box {N : Nat} : boxF (.agg [.int .i64 0, .int .i64 0, .int .i64 0, .int .i64 0, .int .i64 0, .int .i64 0, .int .i64 0, .int .i64 0, .bool false, .nilSlice]) N = some (.ptr N 0, .push (.cells z10 true false)) := rfl
theorem st_tr {x : Trc × AV} (ox : x.2.one = true) {n : Nat} : stB 10 0 (.agg (trRow x)) n (.cells z10 true false) = some (undefA, .set n (.cells (trRow x) true false)) := (stB_agg rfl (tr_one ox) (by show 0 + 10 ≤ 10; omega)).trans rfl
theorem tr_l8 {x : Trc × AV} : ldB (some 8) 0 (.cells (trRow x) true false) = some (.agg (hdR x.1.hd), .keep) := rfl
theorem tr_l10 {x : Trc × AV} : ldB (some 10) 0 (.cells (trRow x) true false) = some (.agg (trRow x), .keep) := rfl
theorem tr_h {x : Trc × AV} : ldB none 8 (.cells (trRow x) true false) = some (.bool x.1.hole, .keep) := rfl
theorem tr_s {x : Trc × AV} : ldB none 9 (.cells (trRow x) true false) = some (x.2, .keep) := rfl
theorem first_f {e z : Int} : firstS [whenS false e, z] = z := by
  show (if (0 : Int) = 0 then (if z = 0 then 0 else z) else 0) = z
  rw [if_pos rfl]
  split
  · rename_i h; exact h.symm
  · rfl
theorem nz_dec {n : Nat} : decide ((0 : Int) < (n : Int)) = decide (0 < n) := decide_eq_decide.2 (by omega)
set_option maxRecDepth 10000
attribute [local irreducible] WP WC WE WB WR WF WL WG WRg WQ
section
variable {P : Program} (T : Tbl P) {h : AHeap}
include T
set_option maxHeartbeats 2000000 in
theorem q274 {s : AV} {l : List (Nat)} (hs : IsSl h s 1 (l.map fltR)) (hl : l.length < 2 ^ 40) {f : FuncId} {AF : AFunc} (hA : compileFn P f = some AF) {g : Nat → Int} (hf : ∀ x ∈ l, ∀ k, RCall P f [.flt .f32 x] k (fun v _ => v = .int .i64 (g x))) : RCall P 274 [s, .func (.func f) [] []] h (fun v h' => Fr h.length h' v 1 ((l.map g).map intRow)) := by
  refine .st2 22 T.mix T.c274 ?_;intro ts hlen t0 t1;unfold fn274
  refine Rs (A3 @t0 @t1 hs.lenm) ?_
  refine WL.inv T.mix (fun n ts K => ∃ (k : Nat) (t : AV), k ≤ l.length ∧ n = l.length - k ∧ Ext h K ∧ Fr h.length K t 1 (((l.take k).map g).map intRow) ∧ ts.length = 22 ∧ slot ts 1 = .func (.func f) [] [] ∧ slot ts 5 = t ∧ slot ts 8 = s ∧ slot ts 9 = .int .i64 l.length ∧ slot ts 10 = .int .i64 k) l.length
    ⟨0, .nilSlice, by omega, rfl, .refl _, .nil, Sn, (Sq @t1), Sw, Sw, Sw, Swr⟩ ?_
  clear hlen t0 t1
  rintro _ ts K ⟨k, t, hk, rfl, eK, hfr, hlen, t1, t5, t8, t9, t10⟩
  have hsK := hs.ext eK
  by_cases hlt : k < l.length
  case neg =>
    have e3 := dltF hlt
    have e4 : k = l.length := by omega
    rw [e4, List.take_length] at hfr
    refine Rs (A6 @t1 @t5 @t8 @t9 @t10 @e3) ?_
    exact ⟨eK, hfr⟩
  have e3 := dltT hlt
  have e5 := wrapN (n := k) (by omega)
  have ix := hsK.ixm (kk := .i64) hlt
  obtain ⟨x, hx⟩ : ∃ x, x = l[k] := ⟨_, rfl⟩
  have ld : ∀ {kk : AHeap}, Ext K kk → loadF none (elp s 1 k) (fun b => kk[b]?) = some (.flt .f32 x, .keep) := fun {kk} e => by rw [hx]; exact hsK.l1m hlt rfl e
  have hmem : x ∈ l := by rw [hx]; exact List.getElem_mem _
  have ot := hfr.isSl.one
  have htk : l.take (k + 1) = l.take k ++ [x] := by rw [hx]; exact List.take_succ_eq_append_getElem hlt
  refine Rs (A9 @t1 @t5 @t8 @t9 @t10 @e3 @ix @ld @ot) ?_
  refine WF.ce hA (hf x hmem _) fun g1 => ?_
  have bs : ∀ {N : Nat}, bslF 1 1 (fillA [.int .i64 0] [(0, 1, .int .i64 (g x))]) N = some (.slice N 0 1 1, .push (.cells [.int .i64 (g x)] true true)) := fun {N} => rfl
  refine Rs (A7 @t1 @t5 @t8 @t9 @t10 @ot @bs) ?_
  refine WR.appR (B := h) (cs := ((l.take k).map g).map intRow) (z := intRow (g x)) (hfr.app _) rfl (eK.trans ⟨_, rfl⟩) (by decide) (by rw [List.length_map, List.length_map, List.length_take]; omega) ?_
  intro W5 s' x5 hff q5
  have hrow : ((l.take k).map g).map intRow ++ [intRow (g x)] = ((l.take (k + 1)).map g).map intRow := by rw [htk, List.map_append, List.map_append]; rfl
  rw [hrow] at hff
  refine Rs (A7 @t1 @t5 @t8 @t9 @t10 @q5 @e5) ?_
  exact ⟨l.length - (k + 1), by omega, k + 1, s', by omega, rfl, x5, hff, rfl, rfl⟩
theorem r274 {s : AV} {l : List (Nat)} (hs : IsSl h s 1 (l.map fltR)) (hl : l.length < 2 ^ 40) {f : FuncId} {AF : AFunc} (hA : compileFn P f = some AF) {g : Nat → Int} (hf : ∀ x ∈ l, ∀ k, RCall P f [.flt .f32 x] k (fun v _ => v = .int .i64 (g x))) : RCall P 274 [s, .func (.func f) [] []] h (fun v h' => IsSl h' v 1 ((l.map g).map intRow)) := by
  obtain ⟨v, k, h1, h2⟩ := q274 T hs hl hA hf
  exact ⟨v, k, h1, h2.isSl⟩
set_option maxHeartbeats 1000000 in
theorem r250 {s : AV} {l : List Nat} (hs : IsSl h s 1 (l.map fltR)) (hl : l.length < 2 ^ 40) : RCall P 250 [s] h (fun v _ => v = .int .i64 (firstS (l.map gridE))) := by
  refine .st1 6 T.mix T.c250 ?_;intro ts hlen t0;unfold fn250
  refine Rs @t0 ?_
  refine WF.res T.c274 (r274 T hs hl T.c142 (fun x _ k => r142 T x)) ?_
  intro s2 g1 is1
  refine Rs @t0 ?_
  refine WF.ce T.c168 (r168 T is1 (by rw [List.length_map]; omega)) fun g2 => ?_
  exact Rs @t0 trivial
set_option maxHeartbeats 1000000 in
theorem r225 {s : AV} {l : List Nat} (hs : IsSl h s 1 (l.map fltR)) (hl : l.length < 2 ^ 40) : RCall P 225 [s] h (fun v _ => v = .int .i64 (chkL l)) := by
  refine .st1 8 T.mix T.c225 ?_;intro ts hlen t0;unfold fn225
  by_cases h1 : 1024 < l.length
  · have d1 : decide ((1024 : Int) < (l.length : Int)) = true := decide_eq_true (by omega)
    have e : chkL l = 5 := if_pos h1
    refine Rs (A3 @t0 hs.lenm @d1) ?_
    rw [e]
  have d1 : decide ((1024 : Int) < (l.length : Int)) = false := decide_eq_false (by omega)
  have e : chkL l = firstS (l.map gridE) := if_neg h1
  refine Rs (A3 @t0 hs.lenm @d1) ?_
  refine WF.ce T.c250 (r250 T hs hl) fun g2 => ?_
  refine Rs @t0 ?_
  rw [e]
set_option maxHeartbeats 4000000 in
theorem r202 (rg : Rng h) {x : Trc × AV} (hx : IsSl h x.2 1 (x.1.sm.map fltR)) (hl : x.1.sm.length < 2 ^ 40) : RCall P 202 [.agg (trRow x)] h (fun v _ => v = .int .i64 (chkTr x.1)) := by
  refine .st1 40 T.mix T.c202 ?_;intro ts hlen t0;unfold fn202
  have bx : ∀ {N : Nat}, boxF (.agg (trRow x)) N = some (.ptr N 0, .push (.cells (trRow x) true false)) := fun {N} => tr_box hx.one
  have ld8 := @tr_l8 x
  have ldh := @tr_h x
  have lds := @tr_s x
  refine Rs (A2 @t0 @bx) ?_
  obtain ⟨H0, hH0⟩ : ∃ H0, H0 = h ++ [ABlk.cells (trRow x) true false] := ⟨_, rfl⟩
  have e0 : Ext h H0 := by rw [hH0]; exact ⟨_, rfl⟩
  have m1 : H0[h.length]? = some (.cells (trRow x) true false) := by rw [hH0]; exact at_new
  obtain ⟨b1, hb1⟩ : ∃ b1, b1 = h.length := ⟨_, rfl⟩
  rw [← hb1] at m1 ⊢
  rw [← hH0]
  clear hH0 hb1
  have l1 := @ldx _ _ _ m1
  have hE := hdF_eq x.1.hd
  refine Rs (A3 @t0 @l1 @ld8) ?_
  refine WL.inv T.mix (fun n ts K => ∃ i : Nat, i ≤ 8 ∧ n = 8 - i ∧ Ext H0 K ∧ hdF x.1.hd 8 = hdF x.1.hd (8 - i) ∧ ts.length = 40 ∧ slot ts 1 = .ptr b1 0 ∧ slot ts 7 = .agg (hdR x.1.hd) ∧ slot ts 8 = .int .i64 i) 8
    ⟨0, by omega, rfl, .refl _, rfl, Sn, Sw, Sw, Swr⟩ ?_
  clear hlen t0
  rintro _ ts K ⟨i, hi, rfl, eK, hf, hlen, t1, t7, t8⟩
  have l1 := @ldx _ _ _ (eK.some m1)
  have hsK := hx.ext (e0.trans eK)
  by_cases hi8 : i < 8
  case neg =>
    have e3 := lt8F hi8
    have hz : hdE x.1.hd = 0 := by rw [← hE, hf, show i = 8 by omega]; rfl
    cases hb : x.1.hole with
    | true =>
      have dz := @nz_dec x.1.sm.length
      refine Rs (A10 @t1 @t7 @t8 @e3 @l1 @ldh @lds @hb hsK.lenm @dz) ?_
      refine WF.ce T.c192 (r192 T _ _) fun g1 => ?_
      refine Rs (A3 @t1 @l1 @lds) ?_
      refine WF.ce T.c225 (r225 T (hsK.ext Xx) hl) fun g2 => ?_
      refine Rs @t1 ?_
      refine WF.ce T.c168 (r168 T (isSl_ints [_, _]) (by simp)) fun g3 => ?_
      refine Rs @t1 ?_
      refine ⟨e0.trans (eK.trans Xx), ?_⟩
      unfold chkTr
      rw [hz, hb, Bool.true_and]
      rfl
    | false =>
      refine Rs (A8 @t1 @t7 @t8 @e3 @l1 @ldh @lds @hb) ?_
      refine WF.ce T.c192 (r192 T _ _) fun g1 => ?_
      refine Rs (A3 @t1 @l1 @lds) ?_
      refine WF.ce T.c225 (r225 T (hsK.ext Xx) hl) fun g2 => ?_
      refine Rs @t1 ?_
      refine WF.ce T.c168 (r168 T (isSl_ints [_, _]) (by simp)) fun g3 => ?_
      refine Rs @t1 ?_
      refine ⟨e0.trans (eK.trans Xx), ?_⟩
      unfold chkTr
      rw [hz, hb, Bool.false_and]
      rfl
  have e3 := lt8T hi8
  have e5 := wrapN (n := i) (by omega)
  have ix := @ix_81 x.1.hd i hi8
  have ia := @ia_82 2 i hi8
  have i0 := @ia_20 2 (i * 2)
  have i1 := @ia_21 2 (i * 2)
  have rgK := rg.ext (e0.trans eK)
  have lo : ∀ {k : AHeap}, Ext K k → loadF none (.ptr 2 (i * 2)) (fun z => k[z]?) = some (.int .i64 (hdLo i), .keep) := fun {k} e => rng_lo rgK hi8 e
  have hh : ∀ {k : AHeap}, Ext K k → loadF none (.ptr 2 (i * 2 + 1)) (fun z => k[z]?) = some (.int .i64 (hdHi i), .keep) := fun {k} e => rng_hi rgK hi8 e
  have hs := @hdF_at x.1.hd i hi8
  refine Rs (A10 @t1 @t7 @t8 @e3 @ix @ia @i0 @i1 @lo @hh) ?_
  refine WF.ce T.c169 (r169 T _ _ _) fun g1 => ?_
  obtain ⟨E, hEE⟩ : ∃ E, E = rangeS (x.1.hd i) (hdLo i) (hdHi i) := ⟨_, rfl⟩
  rw [← hEE] at hs ⊢
  by_cases hz : E = 0
  case neg =>
    have d1 : decide (E ≠ 0) = true := decide_eq_true hz
    refine Rs (A4 @t1 @t7 @t8 @d1) ?_
    rw [if_neg hz] at hs
    refine ⟨e0.trans (eK.trans ⟨g1, rfl⟩), ?_⟩
    unfold chkTr
    rw [← hE, hf, hs, firstS, if_neg hz]
  have d1 : decide (E ≠ 0) = false := decide_eq_false fun z => z hz
  refine Rs (A5 @t1 @t7 @t8 @d1 @e5) ?_
  rw [if_pos hz] at hs
  exact ⟨8 - (i + 1), by omega, i + 1, by omega, rfl, eK.trans ⟨g1, rfl⟩, hf.trans hs, rfl⟩
set_option maxHeartbeats 4000000 in
theorem r207 (f : Nat → Int) : RCall P 207 [.agg (hdR f)] h (fun v _ => v = .int .i64 (hdE f)) := by
  refine .st1 24 T.mix T.c207 ?_;intro ts hlen t0;unfold fn207
  have bx : ∀ {N : Nat}, boxF (.agg (hdR f)) N = some (.ptr N 0, .push (.cells (hdR f) true false)) := fun {N} => hd_box
  refine Rs (A2 @t0 @bx) ?_
  obtain ⟨H0, hH0⟩ : ∃ H0, H0 = h ++ [ABlk.cells (hdR f) true false] := ⟨_, rfl⟩
  have e0 : Ext h H0 := by rw [hH0]; exact ⟨_, rfl⟩
  have m1 : H0[h.length]? = some (.cells (hdR f) true false) := by rw [hH0]; exact at_new
  obtain ⟨b1, hb1⟩ : ∃ b1, b1 = h.length := ⟨_, rfl⟩
  rw [← hb1] at m1 ⊢
  rw [← hH0]
  clear hH0 hb1
  have hE := hdF_eq f
  refine WL.inv T.mix (fun n ts K => ∃ i : Nat, i ≤ 8 ∧ n = 8 - i ∧ Ext H0 K ∧ hdF f 8 = hdF f (8 - i) ∧ ts.length = 24 ∧ slot ts 1 = .ptr b1 0 ∧ slot ts 3 = .int .i64 i) 8
    ⟨0, by omega, rfl, .refl _, rfl, Sn, Sw, Swr⟩ ?_
  clear hlen t0
  rintro _ ts K ⟨i, hi, rfl, eK, hf, hlen, t1, t3⟩
  by_cases hi8 : i < 8
  case neg =>
    have e3 := lt8F hi8
    have hz : hdE f = 0 := by rw [← hE, hf, show i = 8 by omega]; rfl
    refine Rs (A3 @t1 @t3 @e3) ?_
    exact ⟨e0.trans eK, by rw [hz]⟩
  have e3 := lt8T hi8
  have e5 := wrapN (n := i) (by omega)
  have ia := @ia_81 b1 i hi8
  have ld := @hd_ld _ K _ _ _ (eK.some m1) hi8 (.refl _)
  have hs := @hdF_at f i hi8
  obtain ⟨E, hEE⟩ : ∃ E, E = rangeS (f i) (hdLo i) (hdHi i) := ⟨_, rfl⟩
  rw [← hEE] at hs
  obtain ⟨lo, hlo⟩ : ∃ z, z = hdLo i := ⟨_, rfl⟩
  obtain ⟨hh, hhh⟩ : ∃ z, z = hdHi i := ⟨_, rfl⟩
  rw [← hlo, ← hhh] at hEE
  unfold hdLo at hlo
  unfold hdHi at hhh
  by_cases h4 : i < 4
  · have f4 : decide ((i : Int) < 4) = true := decide_eq_true (by omega)
    have n4 : decide ((i : Int) = 4) = false := decide_eq_false (by omega)
    rw [if_pos h4] at hlo hhh
    subst hlo hhh
    refine Rs (A7 @t1 @t3 @e3 @f4 @n4 @ia @ld) ?_
    refine WF.ce T.c48 (r48 T _ _ _) fun g1 => ?_
    rw [← hEE]
    by_cases hz : E = 0
    case neg =>
      have d1 : decide (E ≠ 0) = true := decide_eq_true hz
      refine Rs (A3 @t1 @t3 @d1) ?_
      rw [if_neg hz] at hs
      exact ⟨e0.trans (eK.trans ⟨g1, rfl⟩), by rw [← hE, hf, hs]⟩
    have d1 : decide (E ≠ 0) = false := decide_eq_false fun z => z hz
    refine Rs (A4 @t1 @t3 @d1 @e5) ?_
    rw [if_pos hz] at hs
    exact ⟨8 - (i + 1), by omega, i + 1, by omega, rfl, eK.trans ⟨g1, rfl⟩, hf.trans hs, rfl⟩
  have f4 : decide ((i : Int) < 4) = false := decide_eq_false (by omega)
  rw [if_neg h4] at hlo hhh
  by_cases h5 : i = 4
  · have n4 : decide ((i : Int) = 4) = true := decide_eq_true (by omega)
    rw [if_pos h5] at hlo hhh
    subst hlo hhh
    refine Rs (A7 @t1 @t3 @e3 @f4 @n4 @ia @ld) ?_
    refine WF.ce T.c48 (r48 T _ _ _) fun g1 => ?_
    rw [← hEE]
    by_cases hz : E = 0
    case neg =>
      have d1 : decide (E ≠ 0) = true := decide_eq_true hz
      refine Rs (A3 @t1 @t3 @d1) ?_
      rw [if_neg hz] at hs
      exact ⟨e0.trans (eK.trans ⟨g1, rfl⟩), by rw [← hE, hf, hs]⟩
    have d1 : decide (E ≠ 0) = false := decide_eq_false fun z => z hz
    refine Rs (A4 @t1 @t3 @d1 @e5) ?_
    rw [if_pos hz] at hs
    exact ⟨8 - (i + 1), by omega, i + 1, by omega, rfl, eK.trans ⟨g1, rfl⟩, hf.trans hs, rfl⟩
  have n4 : decide ((i : Int) = 4) = false := decide_eq_false (by omega)
  rw [if_neg h5] at hlo hhh
  subst hlo hhh
  refine Rs (A7 @t1 @t3 @e3 @f4 @n4 @ia @ld) ?_
  refine WF.ce T.c48 (r48 T _ _ _) fun g1 => ?_
  rw [← hEE]
  by_cases hz : E = 0
  case neg =>
    have d1 : decide (E ≠ 0) = true := decide_eq_true hz
    refine Rs (A3 @t1 @t3 @d1) ?_
    rw [if_neg hz] at hs
    exact ⟨e0.trans (eK.trans ⟨g1, rfl⟩), by rw [← hE, hf, hs]⟩
  have d1 : decide (E ≠ 0) = false := decide_eq_false fun z => z hz
  refine Rs (A4 @t1 @t3 @d1 @e5) ?_
  rw [if_pos hz] at hs
  exact ⟨8 - (i + 1), by omega, i + 1, by omega, rfl, eK.trans ⟨g1, rfl⟩, hf.trans hs, rfl⟩
set_option maxHeartbeats 4000000 in
theorem r164 (X : Xfl P) {x : Trc × AV} (hx : IsSl h x.2 1 (x.1.sm.map fltR)) (hl : x.1.sm.length < 2 ^ 40) : RCall P 164 [.agg (trRow x)] h (fun v _ => v = .int .i64 (chkTr x.1)) := by
  refine .st1 21 T.mix T.c164 ?_;intro ts hlen t0;unfold fn164
  have bx : ∀ {N : Nat}, boxF (.agg (trRow x)) N = some (.ptr N 0, .push (.cells (trRow x) true false)) := fun {N} => tr_box hx.one
  have ld8 := @tr_l8 x
  have ldh := @tr_h x
  have lds := @tr_s x
  refine Rs (A2 @t0 @bx) ?_
  obtain ⟨H0, hH0⟩ : ∃ H0, H0 = h ++ [ABlk.cells (trRow x) true false] := ⟨_, rfl⟩
  have e0 : Ext h H0 := by rw [hH0]; exact ⟨_, rfl⟩
  have m1 : H0[h.length]? = some (.cells (trRow x) true false) := by rw [hH0]; exact at_new
  obtain ⟨b1, hb1⟩ : ∃ b1, b1 = h.length := ⟨_, rfl⟩
  rw [← hb1] at m1 ⊢
  rw [← hH0]
  clear hH0 hb1
  have l1 := @ldx _ _ _ m1
  refine Rs (A3 @t0 @l1 @ld8) ?_
  refine WF.ce T.c207 (r207 T _) fun g1 => ?_
  have hs := hx.ext (e0.trans (show Ext H0 (H0 ++ g1) from ⟨_, rfl⟩))
  obtain ⟨E, hE⟩ : ∃ E, E = hdE x.1.hd := ⟨_, rfl⟩
  have hc : chkTr x.1 = firstS [E, whenS (x.1.hole && decide (0 < x.1.sm.length)) 24, chkL x.1.sm] := by rw [hE]; rfl
  rw [← hE]
  by_cases hz : E = 0
  case neg =>
    have d1 : decide (E ≠ 0) = true := decide_eq_true hz
    refine Rs (A2 @t0 @d1) ?_
    exact ⟨e0.trans ⟨g1, rfl⟩, by rw [hc, firstS, if_neg hz]⟩
  have d1 : decide (E ≠ 0) = false := decide_eq_false fun z => z hz
  rw [hz, firstS, if_pos rfl] at hc
  have dz := @nz_dec x.1.sm.length
  cases hb : x.1.hole with
  | true =>
    rw [hb, Bool.true_and] at hc
    by_cases hn : 0 < x.1.sm.length
    · have d2 : decide (0 < x.1.sm.length) = true := decide_eq_true hn
      refine Rs (A9 @t0 @d1 @l1 @ldh @lds @hb hs.lenm @dz @d2) ?_
      exact ⟨e0.trans ⟨g1, rfl⟩, by rw [hc, d2]; rfl⟩
    · have d2 : decide (0 < x.1.sm.length) = false := decide_eq_false hn
      refine Rs (A9 @t0 @d1 @l1 @ldh @lds @hb hs.lenm @dz @d2) ?_
      refine WF.ce T.c28 (r28 T X hs hl) fun g2 => ?_
      refine Rs @t0 ?_
      exact ⟨e0.trans Xx, by rw [hc, d2, first_f]⟩
  | false =>
    rw [hb, Bool.false_and] at hc
    refine Rs (A6 @t0 @d1 @l1 @ldh @lds @hb) ?_
    refine WF.ce T.c28 (r28 T X hs hl) fun g2 => ?_
    refine Rs @t0 ?_
    exact ⟨e0.trans Xx, by rw [hc, first_f]⟩
end
end Go.Abs
namespace Go.Abs
theorem fitsB_drop {l : List Int} {k : Nat} (h : k < l.length) : fitsB (l.drop k) = (fitB l[k] && fitsB (l.drop (k + 1))) := by
  have hd : l.drop k = l[k] :: l.drop (k + 1) := by simp
  rw [hd]; rfl
def ToldS (h : AHeap) (l : List Int) (s : AV) (e : Int) : Prop := if fitsB l = true then IsSl h s 1 ((l.map smpl).map fltR) ∧ e = 0 else s = .nilSlice ∧ e = 4
theorem fits_all {l : List Int} (h : fitsB l = true) : ∀ x ∈ l, -16384 ≤ x ∧ x ≤ 16384 := fun x hx => fitB_t (List.all_eq_true.1 h x hx)
set_option maxRecDepth 10000
attribute [local irreducible] WP WC WE WB WR WF WL WG WRg WQ
section
variable {P : Program} (T : Tbl P) {h : AHeap}
include T
set_option maxHeartbeats 1000000 in
theorem r146 (n : Int) : RCall P 146 [.int .i64 n] h (fun v _ => v = .bool (fitB n)) := by
  refine .st1 9 T.mix T.c146 ?_;intro ts hlen t0;unfold fn146
  by_cases h1 : -16384 ≤ n
  · have d1 : decide (-16384 ≤ n) = true := decide_eq_true h1
    have e : fitB n = decide (n ≤ 16384) := by rw [fitB, d1]; rfl
    refine Rs (A2 @t0 @d1) ?_
    rw [e]
  · have d1 : decide (-16384 ≤ n) = false := decide_eq_false h1
    have e : fitB n = false := by rw [fitB, d1]; rfl
    refine Rs (A2 @t0 @d1) ?_
    rw [e]
set_option maxHeartbeats 1000000 in
theorem r181 (n : Int) : RCall P 181 [.int .i64 n] h (fun v _ => v = .bool (!fitB n)) := by
  refine .st1 6 T.mix T.c181 ?_;intro ts hlen t0;unfold fn181
  refine Rs @t0 ?_
  refine WF.ce T.c146 (r146 T n) fun g1 => ?_
  exact Rs @t0 trivial
set_option maxHeartbeats 1000000 in
theorem r217 {s : AV} {l : List Int} (hs : IsSl h s 1 (l.map intRow)) (hl : l.length < 2 ^ 40) : RCall P 217 [s, .func (.func 181) [] []] h (fun v _ => ∃ n : Int, v = .int .i64 n ∧ -1 ≤ n ∧ (0 ≤ n ↔ fitsB l = false)) := by
  refine .st2 19 T.mix T.c217 ?_;intro ts hlen t0 t1;unfold fn217
  refine Rs (A3 @t0 @t1 hs.lenm) ?_
  refine WL.inv T.mix (fun n ts K => ∃ k : Nat, k ≤ l.length ∧ n = l.length - k ∧ Ext h K ∧ fitsB l = fitsB (l.drop k) ∧ ts.length = 19 ∧ slot ts 0 = s ∧ slot ts 1 = .func (.func 181) [] [] ∧ slot ts 7 = .int .i64 l.length ∧ slot ts 8 = .int .i64 k) l.length
    ⟨0, by omega, rfl, .refl _, rfl, Sn, (Sq @t0), (Sq @t1), Sw, Swr⟩ ?_
  clear hlen t0 t1
  rintro _ ts K ⟨k, hk, rfl, eK, hf, hlen, t0, t1, t7, t8⟩
  have hsK := hs.ext eK
  by_cases hlt : k < l.length
  case neg =>
    have e3 := dltF hlt
    have e4 : k = l.length := by omega
    rw [e4, List.drop_length] at hf
    refine Rs (A5 @t0 @t1 @t7 @t8 @e3) ?_
    exact ⟨eK, -1, rfl, by omega, by rw [hf]; simp [fitsB]⟩
  have e3 := dltT hlt
  have e5 := wrapN (n := k) (by omega)
  have ix := hsK.ixm (kk := .i64) hlt
  rw [fitsB_drop hlt] at hf
  obtain ⟨x, hx⟩ : ∃ x, x = l[k] := ⟨_, rfl⟩
  have ld : ∀ {kk : AHeap}, Ext K kk → loadF none (elp s 1 k) (fun b => kk[b]?) = some (.int .i64 x, .keep) := fun {kk} e => by rw [hx]; exact hsK.l1m hlt rfl e
  rw [← hx] at hf
  refine Rs (A7 @t0 @t1 @t7 @t8 @e3 @ix @ld) ?_
  refine WF.ce T.c181 (r181 T x) fun g1 => ?_
  cases hfx : fitB x with
  | true =>
    rw [hfx, Bool.true_and] at hf
    refine Rs (A6 @t0 @t1 @t7 @t8 @e5 @Bool.not_true) ?_
    exact ⟨l.length - (k + 1), by omega, k + 1, by omega, rfl, eK.trans ⟨g1, rfl⟩, hf, rfl⟩
  | false =>
    rw [hfx, Bool.false_and] at hf
    refine Rs (A6 @t0 @t1 @t7 @t8 @e5 @Bool.not_false) ?_
    exact ⟨eK.trans ⟨g1, rfl⟩, k, rfl, by omega, by rw [hf]; simp⟩
set_option maxHeartbeats 1000000 in
theorem r180 {s : AV} {l : List Int} (hs : IsSl h s 1 (l.map intRow)) (hl : l.length < 2 ^ 40) : RCall P 180 [s, .func (.func 181) [] []] h (fun v _ => v = .bool (!fitsB l)) := by
  refine .st2 9 T.mix T.c180 ?_;intro ts hlen t0 t1;unfold fn180
  refine Rs (A2 @t0 @t1) ?_
  refine WF.res T.c217 (r217 T hs hl) ?_
  rintro _ g1 ⟨n, rfl, h1, h2⟩
  have e : decide (0 ≤ n) = !fitsB l := by
    cases hf : fitsB l with
    | true => rw [hf] at h2; exact decide_eq_false fun z => by simpa using h2.1 z
    | false => exact decide_eq_true (h2.2 hf)
  exact Rs (A3 @t0 @t1 @e) trivial
set_option maxHeartbeats 1000000 in
theorem r105 {s : AV} {l : List Int} (hs : IsSl h s 1 (l.map intRow)) (hl : l.length < 2 ^ 40) : RCall P 105 [s] h (fun v h' => ∃ (t : AV) (e : Int), v = .tup [t, .int .i64 e] ∧ ToldS h' l t e) := by
  refine .st1 8 T.mix T.c105 ?_;intro ts hlen t0;unfold fn105
  refine Rs @t0 ?_
  refine WF.ce T.c180 (r180 T hs hl) fun g1 => ?_
  cases hf : fitsB l with
  | false =>
    refine Rs (A2 @t0 @Bool.not_false) ?_
    exact ⟨.nilSlice, 4, rfl, by unfold ToldS; rw [if_neg (by rw [hf]; simp)]; exact ⟨rfl, rfl⟩⟩
  | true =>
    refine Rs (A2 @t0 @Bool.not_true) ?_
    refine WF.res T.c182 (r182 T (hs.ext Xx) hl T.c144 (g := smpl) (fun x hx k => r144 T (fits_all hf x hx).1 (fits_all hf x hx).2)) ?_
    intro s2 g2 is2
    refine Rs @t0 ?_
    exact ⟨s2, 0, rfl, by unfold ToldS; rw [if_pos hf]; exact ⟨is2, rfl⟩⟩
end
end Go.Abs
namespace Go.Abs
theorem drop_eq {α : Type} [DecidableEq α] {a b : List α} {k : Nat} (ha : k < a.length) (hb : k < b.length) : decide (a.drop k = b.drop k) = (decide (a[k] = b[k]) && decide (a.drop (k + 1) = b.drop (k + 1))) := by
  have h1 : a.drop k = a[k] :: a.drop (k + 1) := by simp
  have h2 : b.drop k = b[k] :: b.drop (k + 1) := by simp
  rw [h1, h2]
  by_cases h : a[k] = b[k]
  · by_cases h' : a.drop (k + 1) = b.drop (k + 1)
    · rw [decide_eq_true h, decide_eq_true h', decide_eq_true (by rw [h, h'])]; rfl
    · rw [decide_eq_true h, decide_eq_false h', decide_eq_false (by intro z; exact h' (List.cons.inj z).2)]; rfl
  · rw [decide_eq_false h, decide_eq_false (by intro z; exact h (List.cons.inj z).1)]; rfl
def HeardS (h : AHeap) (bad : Int) (want : List Int) (t : AV) (e : Int) : Prop := if bad ≠ 0 then t = .nilSlice ∧ e = bad else ToldS h want t e
theorem smpl_all {l : List Int} (h : fitsB l = true) : (∀ b ∈ l.map smpl, gridE b = 0) ∧ (l.map smpl).map gridN = l := by
  refine ⟨fun b hb => ?_, ?_⟩
  · obtain ⟨x, hx, rfl⟩ := List.mem_map.1 hb
    exact (smpl_ok (fits_all h x hx).1 (fits_all h x hx).2).2.1
  · rw [List.map_map]
    conv => rhs; rw [← List.map_id l]
    exact List.map_congr_left fun x hx => (smpl_ok (fits_all h x hx).1 (fits_all h x hx).2).2.2
set_option maxRecDepth 10000
attribute [local irreducible] WP WC WE WB WR WF WL WG WRg WQ
section
variable {P : Program} (T : Tbl P) {h : AHeap}
include T
set_option maxHeartbeats 2000000 in
theorem r58 {s t : AV} {a b : List Nat} (hs : IsSl h s 1 (a.map fltR)) (ht : IsSl h t 1 (b.map fltR)) (hl : a.length < 2 ^ 40) (ga : ∀ x ∈ a, gridE x = 0) (gb : ∀ x ∈ b, gridE x = 0) : RCall P 58 [s, t] h (fun v _ => v = .bool (decide (a.map gridN = b.map gridN))) := by
  refine .st2 26 T.mix T.c58 ?_;intro ts hlen t0 t1;unfold fn58
  by_cases h1 : a.length = b.length
  case neg =>
    have d1 : decide ((a.length : Int) ≠ (b.length : Int)) = true := decide_eq_true (by omega)
    have e : decide (a.map gridN = b.map gridN) = false := decide_eq_false fun z => h1 (by simpa using congrArg List.length z)
    refine Rs (A5 @t0 @t1 hs.lenm ht.lenm @d1) ?_
    rw [e]
  have d1 : decide ((a.length : Int) ≠ (b.length : Int)) = false := decide_eq_false (by omega)
  refine Rs (A5 @t0 @t1 hs.lenm ht.lenm @d1) ?_
  refine WL.inv T.mix (fun n ts K => ∃ k : Nat, k ≤ a.length ∧ n = a.length - k ∧ K = h ∧ decide (a.map gridN = b.map gridN) = decide ((a.map gridN).drop k = (b.map gridN).drop k) ∧ ts.length = 26 ∧ slot ts 0 = s ∧ slot ts 1 = t ∧ slot ts 5 = .int .i64 k) a.length
    ⟨0, by omega, rfl, rfl, rfl, Sn, (Sq @t0), (Sq @t1), Swr⟩ ?_
  clear hlen t0 t1 d1
  rintro _ ts K ⟨k, hk, rfl, rfl, hf, hlen, t0, t1, t5⟩
  by_cases hlt : k < a.length
  case neg =>
    have e3 := dltF hlt
    have e4 : k = a.length := by omega
    rw [List.drop_eq_nil_of_le (by rw [List.length_map]; omega), List.drop_eq_nil_of_le (by rw [List.length_map]; omega), decide_eq_true rfl] at hf
    refine Rs (A5 @t0 @t1 @t5 hs.lenm @e3) ?_
    rw [hf]
  have e3 := dltT hlt
  have hlb : k < b.length := by omega
  have e5 := wrapN (n := k) (by omega)
  have ix := hs.ixm (kk := .i64) hlt
  have iy := ht.ixm (kk := .i64) hlb
  rw [drop_eq (by rw [List.length_map]; omega) (by rw [List.length_map]; omega), List.getElem_map, List.getElem_map] at hf
  have gx := ga a[k] (List.getElem_mem _)
  have gy := gb b[k] (List.getElem_mem _)
  obtain ⟨x, hx⟩ : ∃ x, x = a[k] := ⟨_, rfl⟩
  obtain ⟨y, hy⟩ : ∃ y, y = b[k] := ⟨_, rfl⟩
  have ld : ∀ {kk : AHeap}, Ext K kk → loadF none (elp s 1 k) (fun b => kk[b]?) = some (.flt .f32 x, .keep) := fun {kk} e => by rw [hx]; exact hs.l1m hlt rfl e
  have le : ∀ {kk : AHeap}, Ext K kk → loadF none (elp t 1 k) (fun b => kk[b]?) = some (.flt .f32 y, .keep) := fun {kk} e => by rw [hy]; exact ht.l1m hlb rfl e
  rw [← hx] at gx
  rw [← hy] at gy
  rw [← hx, ← hy] at hf
  have nq := grid_neq gx gy
  by_cases hxy : gridN x = gridN y
  · have d6 : decide (gridN x ≠ gridN y) = false := decide_eq_false fun z => z hxy
    rw [decide_eq_true hxy, Bool.true_and] at hf
    rw [d6] at nq
    refine Rs (A11 @t0 @t1 @t5 hs.lenm @e3 @ix @iy @ld @le @nq @e5) ?_
    exact ⟨a.length - (k + 1), by omega, k + 1, by omega, rfl, hf, rfl⟩
  · have d6 : decide (gridN x ≠ gridN y) = true := decide_eq_true hxy
    rw [decide_eq_false hxy, Bool.false_and] at hf
    rw [d6] at nq
    refine Rs (A10 @t0 @t1 @t5 hs.lenm @e3 @ix @iy @ld @le @nq) ?_
    rw [hf]
end
end Go.Abs
namespace Go.Abs
def atZ (l : List Int) (j : Int) : Int := if 0 ≤ j then l.getD j.toNat 0 else 0
def genL (n : Nat) (f : Nat → Int) : List Int := (List.range n).map f
theorem genL_succ (n : Nat) (f : Nat → Int) : genL (n + 1) f = genL n f ++ [f n] := by unfold genL; rw [List.range_succ, List.map_append]; rfl
theorem genL_len (n : Nat) (f : Nat → Int) : (genL n f).length = n := by simp [genL]
theorem set_zs {α : Type} {d : List α} {k n : Nat} {z x : α} (h1 : d.length = k) (h2 : k < n) : (d ++ List.replicate (n - k) z).set k x = (d ++ [x]) ++ List.replicate (n - (k + 1)) z := by
  have e : n - k = (n - (k + 1)) + 1 := by omega
  rw [e, List.replicate_succ, List.set_append_right _ _ (by omega), h1, Nat.sub_self, List.append_assoc]; rfl
theorem atZ_bd {l : List Int} (hb : ∀ x ∈ l, -16384 ≤ x ∧ x ≤ 16384) (j : Int) : -16384 ≤ atZ l j ∧ atZ l j ≤ 16384 := by
  unfold atZ
  by_cases h : 0 ≤ j
  · rw [if_pos h, List.getD_eq_getElem?_getD]
    cases hx : l[j.toNat]? with
    | none => simp
    | some y => exact hb y (List.mem_of_getElem? hx)
  · rw [if_neg h]; omega
theorem atZ_at {l : List Int} {k : Nat} (h : k < l.length) : atZ l (k : Int) = l[k] := by
  unfold atZ
  rw [if_pos (by omega), Int.toNat_natCast, List.getD_eq_getElem?_getD, List.getElem?_eq_getElem h]; rfl
theorem grid_all {l : List Nat} (hg : ∀ b ∈ l, gridE b = 0) : ∀ x ∈ l.map gridN, -16384 ≤ x ∧ x ≤ 16384 := fun x hx => by
  obtain ⟨b, hb, rfl⟩ := List.mem_map.1 hx
  exact (grid_num (hg b hb)).2.2
set_option maxRecDepth 10000
attribute [local irreducible] WP WC WE WB WR WF WL WG WRg WQ
section
variable {P : Program} (T : Tbl P) {h : AHeap}
include T
set_option maxHeartbeats 1000000 in
theorem r157 {s : AV} {l : List Int} (hs : IsSl h s 1 (l.map intRow)) (hl : l.length < 2 ^ 40) (j : Int) : RCall P 157 [s, .int .i64 j] h (fun v _ => v = .int .i64 (atZ l j)) := by
  refine .st2 17 T.mix T.c157 ?_;intro ts hlen t0 t1;unfold fn157
  by_cases h1 : j < 0
  · have d1 : decide (j < 0) = true := decide_eq_true h1
    have e : atZ l j = 0 := if_neg (by omega)
    refine Rs (A3 @t0 @t1 @d1) ?_
    rw [e]
  have d1 : decide (j < 0) = false := decide_eq_false h1
  by_cases h2 : (l.length : Int) ≤ j
  · have d2 : decide ((l.length : Int) ≤ j) = true := decide_eq_true h2
    have e : atZ l j = 0 := by
      unfold atZ
      rw [if_pos (by omega), List.getD_eq_getElem?_getD, List.getElem?_eq_none (by omega)]; rfl
    refine Rs (A5 @t0 @t1 @d1 hs.lenm @d2) ?_
    rw [e]
  have d2 : decide ((l.length : Int) ≤ j) = false := decide_eq_false h2
  obtain ⟨k, rfl⟩ : ∃ k : Nat, j = k := ⟨j.toNat, by omega⟩
  have hk : k < l.length := by omega
  have ix := hs.ixm (kk := .i64) hk
  have ld : loadF none (elp s 1 k) (fun b => h[b]?) = some (.int .i64 l[k], .keep) := hs.l1m hk rfl (Ext.refl _)
  have e := atZ_at hk
  refine Rs (A7 @t0 @t1 @d1 hs.lenm @d2 @ix @ld) ?_
  rw [e]
end
end Go.Abs
namespace Go.Abs
set_option maxRecDepth 10000
attribute [local irreducible] WP WC WE WB WR WF WL WG WRg WQ
section
variable {P : Program} (T : Tbl P) {h : AHeap}
include T
end
end Go.Abs
namespace Go.Abs
set_option maxRecDepth 10000
attribute [local irreducible] WP WC WE WB WR WF WL WG WRg WQ
section
variable {P : Program} (T : Tbl P) {h : AHeap}
include T
end
end Go.Abs
namespace Go.Abs
def rndI (n d : Int) : Int := (2 * n + d) / (2 * d)
theorem flo_eq {a b : Int} (hb : 0 < b) : a / b = if a < 0 ∧ a.tdiv b * b ≠ a then a.tdiv b - 1 else a.tdiv b := by
  have h1 := Int.mul_tdiv_add_tmod a b
  by_cases ha : 0 ≤ a
  · rw [if_neg (by omega)]; exact (Int.tdiv_eq_ediv_of_nonneg ha).symm
  · have hm1 : -b < a.tmod b := Int.lt_tmod_of_pos a hb
    have hm2 : a.tmod b ≤ 0 := by
      have := Int.tmod_nonneg (a := -a) b (by omega)
      rw [Int.neg_tmod] at this
      omega
    rw [Int.mul_comm] at h1
    by_cases he : a.tdiv b * b = a
    · rw [if_neg (by omega)]
      conv => lhs; rw [← he]
      exact Int.mul_ediv_cancel _ (by omega)
    · rw [if_pos ⟨by omega, he⟩]
      have e : a = (b + a.tmod b) + (a.tdiv b - 1) * b := by rw [Int.sub_mul]; omega
      have hne : a.tmod b ≠ 0 := fun z => he (by omega)
      conv => lhs; rw [e]
      rw [Int.add_mul_ediv_right _ _ (by omega), Int.ediv_eq_zero_of_lt (by omega) (by omega)]
      omega
theorem tdiv_le_self {a b : Int} (hb : 0 < b) {M : Int} (h1 : -M ≤ a) (h2 : a ≤ M) : -M ≤ a.tdiv b ∧ a.tdiv b ≤ M ∧ -M ≤ a.tdiv b * b ∧ a.tdiv b * b ≤ M := by
  have e := Int.mul_tdiv_add_tmod a b
  rw [Int.mul_comm] at e
  have q := quo_bd (n := a) (g := b) (by omega) (B := M) ⟨h1, h2⟩
  refine ⟨q.1, q.2, ?_, ?_⟩
  · by_cases ha : 0 ≤ a
    · have := Int.mul_nonneg (Int.tdiv_nonneg ha (by omega : 0 ≤ b)) (by omega : 0 ≤ b)
      omega
    · have hm2 : a.tmod b ≤ 0 := by
        have := Int.tmod_nonneg (a := -a) b (by omega)
        rw [Int.neg_tmod] at this
        omega
      omega
  · by_cases ha : 0 ≤ a
    · have hm := Int.tmod_nonneg (a := a) b ha
      omega
    · have h3 : a.tdiv b ≤ 0 := by
        have := Int.tdiv_nonneg (a := -a) (b := b) (by omega) (by omega)
        rw [Int.neg_tdiv] at this
        omega
      have := Int.mul_nonneg (show 0 ≤ -(a.tdiv b) by omega) (show 0 ≤ b by omega)
      rw [Int.neg_mul] at this
      omega
set_option maxRecDepth 10000
attribute [local irreducible] WP WC WE WB WR WF WL WG WRg WQ
section
variable {P : Program} (T : Tbl P) {h : AHeap}
include T
set_option maxHeartbeats 2000000 in
theorem r128 {n d : Int} (hn : -2 ^ 60 ≤ n ∧ n ≤ 2 ^ 60) (hd : 1 ≤ d ∧ d ≤ 2 ^ 40) : RCall P 128 [.int .i64 n, .int .i64 d] h (fun v _ => v = .int .i64 (rndI n d)) := by
  refine .st2 28 T.mix T.c128 ?_;intro ts hlen t0 t1;unfold fn128
  have w1 : IntKind.i64.wrap (2 * n) = 2 * n := wrap_in (by omega) (by omega)
  have w2 : IntKind.i64.wrap (2 * n + d) = 2 * n + d := wrap_in (by omega) (by omega)
  have w3 : IntKind.i64.wrap (2 * d) = 2 * d := wrap_in (by omega) (by omega)
  obtain ⟨a, ha⟩ : ∃ a, a = 2 * n + d := ⟨_, rfl⟩
  obtain ⟨b, hb⟩ : ∃ b, b = 2 * d := ⟨_, rfl⟩
  have hbp : 0 < b := by omega
  obtain ⟨k1, k2, k3, k4⟩ := tdiv_le_self (a := a) hbp (M := 2 ^ 62) (by omega) (by omega)
  have q1 : binK .quo (.int .i64 a) (.int .i64 b) = some (.int .i64 (a.tdiv b)) := by rw [bin_quo (by omega), wrap_in (by omega) (by omega)]
  have hr : rndI n d = if a < 0 ∧ a.tdiv b * b ≠ a then a.tdiv b - 1 else a.tdiv b := by unfold rndI; rw [← ha, ← hb, flo_eq hbp]
  have k5 := tdiv_le_self (a := a) (b := d) (by omega) (M := 2 ^ 62) (by omega) (by omega)
  have w5 : IntKind.i64.wrap (a.tdiv b * 2) = a.tdiv b * 2 := by
    by_cases hq : 0 ≤ a.tdiv b
    · have := Int.mul_le_mul_of_nonneg_left (show 2 ≤ b by omega) hq
      exact wrap_in (by omega) (by omega)
    · have := Int.mul_le_mul_of_nonneg_left (show 2 ≤ b by omega) (show 0 ≤ -(a.tdiv b) by omega)
      rw [Int.neg_mul, Int.neg_mul] at this
      exact wrap_in (by omega) (by omega)
  have e6 : a.tdiv b * 2 * d = a.tdiv b * b := by rw [hb, Int.mul_assoc]
  have w6 : IntKind.i64.wrap (a.tdiv b * b) = a.tdiv b * b := wrap_in (by omega) (by omega)
  have w7 : IntKind.i64.wrap (a.tdiv b - 1) = a.tdiv b - 1 := wrap_in (by omega) (by omega)
  rw [← ha] at w2
  rw [← hb] at w3
  rw [hr]
  by_cases h1 : a < 0
  case neg =>
    have d1 : decide (a < 0) = false := decide_eq_false h1
    rw [if_neg (by omega)]
    repeat (first | simp (maxSteps := 1000000) only [wset, hset, dset, bset, Nat.reduceAdd, Nat.reduceMul, Nat.reduceLeDiff, Nat.reduceEqDiff, pset, hlen, if_false, if_true, t0, t1, w1, ← ha, w2, ← hb, w3, q1, d1] | simp (maxSteps := 1000000) (disch := first | (simp only [List.length_append, List.length_cons, List.length_nil] <;> omega) | rfl | omega | fail) only [kset, wset, hset, dset, bset, Nat.reduceAdd, Nat.reduceMul, Nat.reduceLeDiff, Nat.reduceEqDiff, pset, hlen, if_false, if_true, t0, t1, w1, ← ha, w2, ← hb, w3, q1, d1])
  have d1 : decide (a < 0) = true := decide_eq_true h1
  by_cases h2 : a.tdiv b * b = a
  · have d2 : decide (a.tdiv b * b ≠ a) = false := decide_eq_false fun z => z h2
    rw [if_neg (by omega)]
    repeat (first | simp (maxSteps := 1000000) only [wset, hset, dset, bset, Nat.reduceAdd, Nat.reduceMul, Nat.reduceLeDiff, Nat.reduceEqDiff, pset, hlen, if_false, if_true, t0, t1, w1, ← ha, w2, ← hb, w3, q1, d1, w5, e6, w6, d2] | simp (maxSteps := 1000000) (disch := first | (simp only [List.length_append, List.length_cons, List.length_nil] <;> omega) | rfl | omega | fail) only [kset, wset, hset, dset, bset, Nat.reduceAdd, Nat.reduceMul, Nat.reduceLeDiff, Nat.reduceEqDiff, pset, hlen, if_false, if_true, t0, t1, w1, ← ha, w2, ← hb, w3, q1, d1, w5, e6, w6, d2])
  · have d2 : decide (a.tdiv b * b ≠ a) = true := decide_eq_true h2
    rw [if_pos ⟨h1, h2⟩]
    repeat (first | simp (maxSteps := 1000000) only [wset, hset, dset, bset, Nat.reduceAdd, Nat.reduceMul, Nat.reduceLeDiff, Nat.reduceEqDiff, pset, hlen, if_false, if_true, t0, t1, w1, ← ha, w2, ← hb, w3, q1, d1, w5, e6, w6, d2, w7] | simp (maxSteps := 1000000) (disch := first | (simp only [List.length_append, List.length_cons, List.length_nil] <;> omega) | rfl | omega | fail) only [kset, wset, hset, dset, bset, Nat.reduceAdd, Nat.reduceMul, Nat.reduceLeDiff, Nat.reduceEqDiff, pset, hlen, if_false, if_true, t0, t1, w1, ← ha, w2, ← hb, w3, q1, d1, w5, e6, w6, d2, w7])
end
end Go.Abs
namespace Go.Abs
def cv (A : List Int) (m : Int) : Nat → Int
  | 0 => 0
  | j + 1 => cv A m j + atZ A j * atZ A (m - j)
set_option maxRecDepth 10000
attribute [local irreducible] WP WC WE WB WR WF WL WG WRg WQ
section
variable {P : Program} (T : Tbl P) {h : AHeap}
include T
end
end Go.Abs
namespace Go.Abs
def rngT (n : Int) : Int := rangeS n (-16) 16
def chkTp (l : List Int) : Int := if l.length = 0 then 12 else if 8 < l.length then 5 else firstS [firstS (l.map rngT), whenS (decide (l.getD 0 0 = 0)) 6]
theorem getD_0 {l : List Int} (h : 0 < l.length) : l.getD 0 0 = l[0] := by rw [List.getD_eq_getElem?_getD, List.getElem?_eq_getElem h]; rfl
structure TpOk (l : List Int) : Prop where
  l1 : 1 ≤ l.length
  l2 : l.length ≤ 8
  r : ∀ x ∈ l, -16 ≤ x ∧ x ≤ 16
  z : l.getD 0 0 ≠ 0
theorem chkTp_z {l : List Int} (h : chkTp l = 0) : TpOk l := by
  unfold chkTp at h
  split at h
  · cases h
  split at h
  · cases h
  obtain ⟨h1, h2⟩ := first2 h
  refine ⟨by omega, by omega, fun x hx => rangeS_z.1 (firstS_z h1 _ (List.mem_map_of_mem hx)), fun z => ?_⟩
  rw [decide_eq_true z] at h2; cases h2
set_option maxRecDepth 10000
attribute [local irreducible] WP WC WE WB WR WF WL WG WRg WQ
section
variable {P : Program} (T : Tbl P) {h : AHeap}
include T
set_option maxHeartbeats 1000000 in
theorem r119 (n : Int) : RCall P 119 [.int .i64 n] h (fun v _ => v = .int .i64 (rngT n)) := by
  refine .st1 5 T.mix T.c119 ?_;intro ts hlen t0;unfold fn119
  refine Rs @t0 ?_
  refine WF.ce T.c120 (r120 T _ _ _) fun g1 => ?_
  refine Rs @t0 ?_
  rfl
set_option maxHeartbeats 2000000 in
theorem r34 {s : AV} {l : List Int} (hs : IsSl h s 1 (l.map intRow)) (hl : l.length < 2 ^ 40) : RCall P 34 [s] h (fun v _ => v = .int .i64 (chkTp l)) := by
  refine .st1 27 T.mix T.c34 ?_;intro ts hlen t0;unfold fn34
  refine Rs (A2 @t0 hs.lenm) ?_
  refine WF.ce T.c117 (r117 T _ _) fun g1 => ?_
  refine Rs (A2 @t0 hs.lenm) ?_
  refine WF.ce T.c117 (r117 T _ _) fun g2 => ?_
  refine Rs @t0 ?_
  refine WF.ce T.c116 (r116 T (isSl_ints [_, _]) (by simp)) fun g3 => ?_
  rw [first_w2]
  by_cases h1 : l.length = 0
  · have d1 : decide ((l.length : Int) = 0) = true := decide_eq_true (by omega)
    have e : chkTp l = 12 := if_pos h1
    have d2 : ∀ x : Bool, (if whenS true 12 = 0 then whenS x 5 else whenS true 12) = 12 := fun _ => rfl
    have d3 : decide ((12 : Int) ≠ 0) = true := rfl
    refine Rs (A4 @t0 @d1 @d2 @d3) ?_
    rw [e]
  have d1 : decide ((l.length : Int) = 0) = false := decide_eq_false (by omega)
  by_cases h2 : 8 < l.length
  · have d2 : decide ((8 : Int) < (l.length : Int)) = true := decide_eq_true (by omega)
    have e : chkTp l = 5 := (if_neg h1).trans (if_pos h2)
    have d4 : (if whenS false 12 = 0 then whenS true 5 else whenS false 12) = 5 := rfl
    have d3 : decide ((5 : Int) ≠ 0) = true := rfl
    refine Rs (A5 @t0 @d1 @d2 @d4 @d3) ?_
    rw [e]
  have d2 : decide ((8 : Int) < (l.length : Int)) = false := decide_eq_false (by omega)
  have e : chkTp l = firstS [firstS (l.map rngT), whenS (decide (l.getD 0 0 = 0)) 6] := (if_neg h1).trans (if_neg h2)
  have d4 : (if whenS false 12 = 0 then whenS false 5 else whenS false 12) = 0 := rfl
  have d3 : decide ((0 : Int) ≠ 0) = false := rfl
  have h0 : 0 < l.length := by omega
  rw [e, getD_0 h0]
  obtain ⟨B, hB⟩ : ∃ B, B = h ++ g1 ++ g2 ++ [ABlk.cells [AV.int IntKind.i64 (whenS (decide ((l.length : Int) = 0)) 12), AV.int IntKind.i64 (whenS (decide ((8 : Int) < (l.length : Int))) 5)] true true] ++ g3 := ⟨_, rfl⟩
  have eB : Ext h B := by rw [hB]; exact Xx
  rw [← hB, d1, d2, d4]
  have hsB := hs.ext eB
  refine Rs (A2 @t0 @d3) ?_
  refine WF.res T.c118 (r118 T hsB hl T.c119 (g := rngT) (fun x _ k => r119 T x)) ?_
  intro s2 g4 is2
  refine Rs @t0 ?_
  refine WF.ce T.c116 (r116 T is2 (by rw [List.length_map]; omega)) fun g5 => ?_
  have ix := hsB.ix0 (kk := .i64) h0
  obtain ⟨x, hx⟩ : ∃ x, x = l[0] := ⟨_, rfl⟩
  have ld : ∀ {kk : AHeap}, Ext B kk → loadF none (elp s 1 0) (fun b => kk[b]?) = some (.int .i64 x, .keep) := fun {kk} e => by rw [hx]; exact hsB.l1m h0 rfl e
  rw [← hx]
  refine Rs (A3 @t0 @ix @ld) ?_
  refine WF.ce T.c117 (r117 T _ _) fun g6 => ?_
  refine Rs @t0 ?_
  refine WF.ce T.c116 (r116 T (isSl_ints [_, _]) (by simp)) fun g7 => ?_
  refine Rs @t0 ?_
  exact ⟨eB.trans Xx, trivial⟩
set_option maxHeartbeats 2000000 in
theorem r26 {s : AV} {l : List Int} (hs : IsSl h s 1 (l.map intRow)) (hl : l.length < 2 ^ 40) : RCall P 26 [s] h (fun v _ => v = .int .i64 (chkTp l)) := by
  refine .st1 29 T.mix T.c26 ?_;intro ts hlen t0;unfold fn26
  by_cases h1 : l.length = 0
  · have d1 : decide ((l.length : Int) = 0) = true := decide_eq_true (by omega)
    have e : chkTp l = 12 := if_pos h1
    refine Rs (A3 @t0 hs.lenm @d1) ?_
    rw [e]
  have d1 : decide ((l.length : Int) = 0) = false := decide_eq_false (by omega)
  by_cases h2 : 8 < l.length
  · have d2 : decide ((8 : Int) < (l.length : Int)) = true := decide_eq_true (by omega)
    have e : chkTp l = 5 := (if_neg h1).trans (if_pos h2)
    refine Rs (A4 @t0 hs.lenm @d1 @d2) ?_
    rw [e]
  have d2 : decide ((8 : Int) < (l.length : Int)) = false := decide_eq_false (by omega)
  have h0 : 0 < l.length := by omega
  have e : chkTp l = firstS [firstS (l.map rngT), whenS (decide (l.getD 0 0 = 0)) 6] := (if_neg h1).trans (if_neg h2)
  rw [e, getD_0 h0]
  refine Rs (A4 @t0 hs.lenm @d1 @d2) ?_
  refine WL.inv T.mix (fun n ts K => ∃ k : Nat, k ≤ l.length ∧ n = l.length - k ∧ Ext h K ∧ firstS (l.map rngT) = firstS ((l.drop k).map rngT) ∧ ts.length = 29 ∧ slot ts 0 = s ∧ slot ts 3 = .int .i64 k) l.length
    ⟨0, by omega, rfl, Xx, rfl, Sn, (Sq @t0), Swr⟩ ?_
  clear hlen t0 d1 d2
  rintro _ ts K ⟨k, hk, rfl, eK, hf, hlen, t0, t3⟩
  have hsK := hs.ext eK
  by_cases hlt : k < l.length
  case neg =>
    have e3 := dltF hlt
    have e4 : k = l.length := by omega
    rw [e4, List.drop_length] at hf
    have hf0 : firstS (l.map rngT) = 0 := hf
    have ix := hsK.ix0 (kk := .i64) h0
    obtain ⟨x, hx⟩ : ∃ x, x = l[0] := ⟨_, rfl⟩
    have ld : ∀ {kk : AHeap}, Ext K kk → loadF none (elp s 1 0) (fun b => kk[b]?) = some (.int .i64 x, .keep) := fun {kk} e => by rw [hx]; exact hsK.l1m h0 rfl e
    rw [hf0, ← hx]
    by_cases hx0 : x = 0
    · have d5 : decide (x = 0) = true := decide_eq_true hx0
      refine Rs (A7 @t0 @t3 hsK.lenm @e3 @ix @ld @d5) ?_
      exact ⟨eK, rfl⟩
    · have d5 : decide (x = 0) = false := decide_eq_false hx0
      refine Rs (A7 @t0 @t3 hsK.lenm @e3 @ix @ld @d5) ?_
      exact ⟨eK, rfl⟩
  have e3 := dltT hlt
  have e5 := wrapN (n := k) (by omega)
  have ix := hsK.ixm (kk := .i64) hlt
  have hd : l.drop k = l[k] :: l.drop (k + 1) := by simp
  rw [hd, List.map_cons, firstS] at hf
  obtain ⟨x, hx⟩ : ∃ x, x = l[k] := ⟨_, rfl⟩
  have ld : ∀ {kk : AHeap}, Ext K kk → loadF none (elp s 1 k) (fun b => kk[b]?) = some (.int .i64 x, .keep) := fun {kk} e => by rw [hx]; exact hsK.l1m hlt rfl e
  rw [← hx] at hf
  refine Rs (A6 @t0 @t3 hsK.lenm @e3 @ix @ld) ?_
  refine WF.ce T.c48 (r48 T _ _ _) fun g1 => ?_
  by_cases hz : rngT x = 0
  · have d6 : decide (rangeS x (-16) 16 ≠ 0) = false := decide_eq_false fun z => z hz
    rw [if_pos hz] at hf
    refine Rs (A4 @t0 @t3 @d6 @e5) ?_
    exact ⟨l.length - (k + 1), by omega, k + 1, by omega, rfl, eK.trans ⟨g1, rfl⟩, hf, rfl⟩
  · have d6 : decide (rangeS x (-16) 16 ≠ 0) = true := decide_eq_true hz
    rw [if_neg hz] at hf
    refine Rs (A3 @t0 @t3 @d6) ?_
    refine ⟨eK.trans ⟨g1, rfl⟩, ?_⟩
    rw [hf]
    show _ = AV.int .i64 (if rngT x = 0 then _ else rngT x)
    rw [if_neg hz]; rfl
set_option maxHeartbeats 1000000 in
theorem r18 {s : AV} {l : List Int} (hs : IsSl h s 1 (l.map intRow)) : RCall P 18 [s] h (fun v _ => v = .bool (decide ((l.length : Int) ≤ 9))) := by
  refine .st1 6 T.mix T.c18 ?_;intro ts hlen t0;unfold fn18
  exact Rs (A2 @t0 hs.lenm) trivial
end
end Go.Abs
namespace Go.Abs
def apS (t A : List Int) (i σ : Int) : Nat → Int
  | 0 => 0
  | j + 1 => apS t A i σ j + atZ t j * atZ A (i + σ * j)
def apF (t A : List Int) (σ : Int) (i : Nat) : Int := apS t A i σ t.length
def apL (t A : List Int) (σ : Int) : List Int := genL A.length (apF t A σ)
theorem tap_bd {t : List Int} (h : ∀ x ∈ t, -16 ≤ x ∧ x ≤ 16) (j : Int) : -16 ≤ atZ t j ∧ atZ t j ≤ 16 := by
  unfold atZ
  by_cases h0 : 0 ≤ j
  · rw [if_pos h0, List.getD_eq_getElem?_getD]
    cases hx : t[j.toNat]? with
    | none => simp
    | some y => exact h y (List.mem_of_getElem? hx)
  · rw [if_neg h0]; omega
theorem tap_prod {x y : Int} (hx : -16 ≤ x ∧ x ≤ 16) (hy : -16384 ≤ y ∧ y ≤ 16384) : -262144 ≤ x * y ∧ x * y ≤ 262144 := by
  have e : (x * y).natAbs ≤ 16 * 16384 := by
    rw [Int.natAbs_mul]
    exact Nat.mul_le_mul (by omega) (by omega)
  omega
theorem apS_bd {t A : List Int} (ht : ∀ x ∈ t, -16 ≤ x ∧ x ≤ 16) (hA : ∀ x ∈ A, -16384 ≤ x ∧ x ≤ 16384) (i σ : Int) : ∀ j : Nat, -(j * 262144 : Int) ≤ apS t A i σ j ∧ apS t A i σ j ≤ j * 262144
  | 0 => by simp [apS]
  | j + 1 => by
    have h1 := apS_bd ht hA i σ j
    have h2 := tap_prod (tap_bd ht j) (atZ_bd hA (i + σ * j))
    rw [apS]
    have e : ((j + 1 : Nat) : Int) * 262144 = j * 262144 + 262144 := by rw [Int.natCast_add, Int.add_mul]; rfl
    omega
set_option maxRecDepth 10000
attribute [local irreducible] WP WC WE WB WR WF WL WG WRg WQ
section
variable {P : Program} (T : Tbl P) {h : AHeap}
include T
end
end Go.Abs
namespace Go.Abs
noncomputable def chkB (t : List Int) (l : List Nat) : Int := firstS [chkTp t, chkL l]
theorem set_mid {a b : List Int} {k : Nat} {x y : Int} (h : a.length = k) : (a ++ [x] ++ b).set k y = a ++ [y] ++ b := by
  rw [List.append_assoc, List.append_assoc, List.set_append_right _ _ (by omega), h, Nat.sub_self]; rfl
theorem get_mid {a b : List Int} {k : Nat} {x : Int} (h : a.length = k) (hk : k < (a ++ [x] ++ b).length) : (a ++ [x] ++ b)[k] = x := by
  subst h; simp
set_option maxRecDepth 10000
attribute [local irreducible] WP WC WE WB WR WF WL WG WRg WQ
section
variable {P : Program} (T : Tbl P) {h : AHeap}
include T
set_option maxHeartbeats 1000000 in
theorem r104 {s0 s : AV} {t : List Int} {l : List Nat} (h0 : IsSl h s0 1 (t.map intRow)) (hs : IsSl h s 1 (l.map fltR)) (ht : t.length < 2 ^ 40) (hl : l.length < 2 ^ 40) : RCall P 104 [s0, s] h (fun v _ => v = .int .i64 (chkB t l)) := by
  refine .st2 11 T.mix T.c104 ?_;intro ts hlen t0 t1;unfold fn104
  refine Rs (A2 @t0 @t1) ?_
  refine WF.ce T.c34 (r34 T h0 ht) fun g1 => ?_
  refine Rs (A2 @t0 @t1) ?_
  refine WF.ce T.c134 (r134 T (hs.ext Xx) hl) fun g2 => ?_
  refine Rs (A2 @t0 @t1) ?_
  refine WF.ce T.c116 (r116 T (isSl_ints [_, _]) (by simp)) fun g3 => ?_
  refine Rs (A2 @t0 @t1) ?_
  rfl
set_option maxHeartbeats 4000000 in
theorem r106 {s0 s : AV} {t A : List Int} (h0 : IsSl h s0 1 (t.map intRow)) (hs : IsSl h s 1 (A.map intRow)) (ht : TpOk t) (hl : A.length ≤ 1024) (hb : ∀ x ∈ A, -16384 ≤ x ∧ x ≤ 16384) {σ : Int} (hσ : -1 ≤ σ ∧ σ ≤ 1) : RCall P 106 [s0, s, .int .i64 σ] h (fun v h' => IsSl h' v 1 ((apL t A σ).map intRow)) := by
  refine .st3 44 T.mix T.c106 ?_;intro ts hlen t0 t1 t2;unfold fn106
  have htl := ht.l2
  have hl0 : ∀ G', lenG .sl G' (AV.slice h.length 0 A.length 1) = some A.length := fun _ => rfl
  repeat (first | simp (maxSteps := 1000000) only [wset, hset, dset, bset, Nat.reduceAdd, Nat.reduceMul, Nat.reduceLeDiff, Nat.reduceEqDiff, pset, hlen, if_false, if_true, t0, t1, t2, hs.lenm, hl0, mksl_ok (es := 1) (w := 8) (N0 := h.length) (n := A.length) (z := [AV.int .i64 0]) (k := .i64) (k' := .i64) (by omega) (by omega)] | simp (maxSteps := 1000000) (disch := first | (simp only [List.length_append, List.length_cons, List.length_nil] <;> omega) | rfl | omega | fail) only [kset, wset, hset, dset, bset, Nat.reduceAdd, Nat.reduceMul, Nat.reduceLeDiff, Nat.reduceEqDiff, pset, hlen, if_false, if_true, t0, t1, t2, hs.lenm, hl0, mksl_ok (es := 1) (w := 8) (N0 := h.length) (n := A.length) (z := [AV.int .i64 0]) (k := .i64) (k' := .i64) (by omega) (by omega)])
  have hF := Fr.zeros (N := h.length) (n := A.length) (h := h) (z := [AV.int .i64 0]) (es := 1) (Nat.le_refl _) rfl
  obtain ⟨sv, hsv⟩ : ∃ sv, sv = AV.slice h.length 0 A.length 1 := ⟨_, rfl⟩
  rw [← hsv] at hF ⊢
  have er : List.replicate A.length [AV.int .i64 0] = (List.replicate A.length (0 : Int)).map intRow := by simp [intRow]
  rw [er] at hF
  obtain ⟨f, hf⟩ : ∃ f : Nat → Int, f = apF t A σ := ⟨_, rfl⟩
  have hG : apL t A σ = genL A.length f := by rw [hf]; rfl
  refine WL.inv T.mix (fun n ts K => ∃ (k : Nat) (G : AHeap), k ≤ A.length ∧ n = A.length - k ∧ K = h ++ G ∧ Fr h.length K sv 1 ((genL k f ++ List.replicate (A.length - k) 0).map intRow) ∧ ts.length = 44 ∧ slot ts 0 = s0 ∧ slot ts 1 = s ∧ slot ts 2 = .int .i64 σ ∧ slot ts 7 = sv ∧ slot ts 15 = .int .i64 A.length ∧ slot ts 16 = .int .i64 k) A.length
    ⟨0, _, by omega, rfl, rfl, hF, Sn, (Sq @t0), (Sq @t1), (Sq @t2), Sw, Sw, Swr⟩ ?_
  clear hlen t0 t1 t2
  rintro _ ts _ ⟨k, G, hk, rfl, rfl, hfr, hlen, t0, t1, t2, t7, t15, t16⟩
  have eK : Ext h (h ++ G) := ⟨G, rfl⟩
  by_cases hlt : k < A.length
  case neg =>
    have e3 := dltF hlt
    have e4 : k = A.length := by omega
    rw [e4, Nat.sub_self, List.replicate_zero, List.append_nil, ← hG] at hfr
    refine Rs (A7 @t0 @t1 @t2 @t7 @t15 @t16 @e3) ?_
    exact hfr.isSl
  have e3 := dltT hlt
  have e5 := wrapN (n := k) (by omega)
  repeat (first | simp (maxSteps := 1000000) only [wset, hset, dset, bset, Nat.reduceAdd, Nat.reduceMul, Nat.reduceLeDiff, Nat.reduceEqDiff, pset, hlen, if_false, if_true, t0, t1, t2, t7, t15, t16, e3, (h0.ext eK).lenm] | simp (maxSteps := 1000000) (disch := first | (simp only [List.length_append, List.length_cons, List.length_nil] <;> omega) | rfl | omega | fail) only [kset, wset, hset, dset, bset, Nat.reduceAdd, Nat.reduceMul, Nat.reduceLeDiff, Nat.reduceEqDiff, pset, hlen, if_false, if_true, t0, t1, t2, t7, t15, t16, e3, (h0.ext eK).lenm])
  have hst : (genL k f ++ List.replicate (A.length - k) (0 : Int)) = genL k f ++ [apS t A k σ 0] ++ List.replicate (A.length - (k + 1)) 0 := by
    rw [show A.length - k = (A.length - (k + 1)) + 1 by omega, List.replicate_succ, List.append_assoc]; rfl
  rw [hst] at hfr
  refine WL.inv T.mix (fun n ts' K' => ∃ (j : Nat) (G' : AHeap), j ≤ t.length ∧ n = t.length - j ∧ K' = h ++ G' ∧ Fr h.length K' sv 1 ((genL k f ++ [apS t A k σ j] ++ List.replicate (A.length - (k + 1)) 0).map intRow) ∧ ts'.length = 44 ∧ slot ts' 0 = s0 ∧ slot ts' 1 = s ∧ slot ts' 2 = .int .i64 σ ∧ slot ts' 7 = sv ∧ slot ts' 8 = .int .i64 k ∧ slot ts' 15 = .int .i64 A.length ∧ slot ts' 16 = .int .i64 k ∧ slot ts' 19 = s0 ∧ slot ts' 20 = .int .i64 t.length ∧ slot ts' 21 = .int .i64 j) t.length
    ⟨0, G, by omega, rfl, rfl, hfr, Sn, (Sq @t0), (Sq @t1), (Sq @t2), (Sq @t7), Sw, (Sq @t15), (Sq @t16), Sw, Sw, Swr⟩ ?_
  clear hlen t0 t1 t2 t7 t15 t16 hfr eK
  rintro _ ts' _ ⟨j, G', hj, rfl, rfl, hfr, hlen, t0, t1, t2, t7, t8, t15, t16, t19, t20, t21⟩
  have eK : Ext h (h ++ G') := ⟨G', rfl⟩
  by_cases hjt : j < t.length
  case neg =>
    have e6 : decide ((j : Int) < (t.length : Int)) = false := decide_eq_false (by omega)
    have hfk : apS t A k σ j = f k := by rw [hf, apF, show t.length = j by omega]
    rw [hfk, ← genL_succ] at hfr
    refine Rs (A12 @t0 @t1 @t2 @t7 @t8 @t15 @t16 @t19 @t20 @t21 @e6 @e5) ?_
    exact ⟨A.length - (k + 1), by omega, k + 1, G', by omega, rfl, rfl, hfr, rfl⟩
  have e6 : decide ((j : Int) < (t.length : Int)) = true := decide_eq_true (by omega)
  have hAK := hs.ext eK
  have hTK := h0.ext eK
  have cb := apS_bd ht.r hb k σ j
  have ij := hTK.ixm (kk := .i64) hjt
  have aj := atZ_at hjt
  have bj := ht.r t[j] (List.getElem_mem _)
  obtain ⟨x, hx⟩ : ∃ x, x = t[j] := ⟨_, rfl⟩
  have lj : ∀ {kk : AHeap}, Ext (h ++ G') kk → loadF none (elp s0 1 j) (fun b => kk[b]?) = some (.int .i64 x, .keep) := fun {kk} e => by rw [hx]; exact hTK.l1m hjt rfl e
  rw [← hx] at aj bj
  have hCl : (genL k f ++ [apS t A k σ j] ++ List.replicate (A.length - (k + 1)) (0 : Int)).length = A.length := by simp [genL_len]; omega
  have hkC : k < (genL k f ++ [apS t A k σ j] ++ List.replicate (A.length - (k + 1)) (0 : Int)).length := by rw [hCl]; exact hlt
  have hgk := get_mid (b := List.replicate (A.length - (k + 1)) (0 : Int)) (x := apS t A k σ j) (genL_len k f) hkC
  have ixk := hfr.isSl.ixm (kk := .i64) hkC
  have ld : ∀ {kk : AHeap}, Ext (h ++ G') kk → loadF none (elp sv 1 k) (fun b => kk[b]?) = some (.int .i64 (apS t A k σ j), .keep) := fun {kk} e => by rw [← hgk]; exact hfr.isSl.l1m hkC rfl e
  have hσj : -8 ≤ σ * (j : Int) ∧ σ * (j : Int) ≤ 8 := by
    rcases (show σ = -1 ∨ σ = 0 ∨ σ = 1 by omega) with rfl | rfl | rfl <;> omega
  have w1 : IntKind.i64.wrap (σ * (j : Int)) = σ * (j : Int) := wrap_in (by omega) (by omega)
  have w2 : IntKind.i64.wrap ((k : Int) + σ * (j : Int)) = (k : Int) + σ * (j : Int) := wrap_in (by omega) (by omega)
  have w5 := wrapN (n := j) (by omega)
  refine Rs (A17 @t0 @t1 @t2 @t7 @t8 @t15 @t16 @t19 @t20 @t21 @e6 @ij @lj @ixk @ld @w1 @w2) ?_
  refine WF.ce T.c157 (r157 T hAK (by omega) _) fun g3 => ?_
  have pb := tap_prod bj (atZ_bd hb ((k : Int) + σ * (j : Int)))
  have w3 : IntKind.i64.wrap (x * atZ A ((k : Int) + σ * (j : Int))) = x * atZ A ((k : Int) + σ * (j : Int)) := wrap_in (by omega) (by omega)
  have w4 : IntKind.i64.wrap (apS t A k σ j + x * atZ A ((k : Int) + σ * (j : Int))) = apS t A k σ (j + 1) := by
    rw [apS, aj, wrap_in (by omega) (by omega)]
  have hfr2 := hfr.app g3
  have ixk2 := hfr2.isSl.ixm (kk := .i64) hkC
  rw [List.append_assoc] at hfr2 ⊢
  refine Rs (A13 @t0 @t1 @t2 @t7 @t8 @t15 @t16 @t19 @t20 @t21 @w3 @w4 @ixk2) ?_
  refine WR.put1 (h0 := h) (off := 0) (row := intRow) (x' := apS t A k σ (j + 1)) hfr2 hkC (by decide) rfl rfl ?_
  intro g4 hl4 hF4 _
  rw [set_mid (genL_len k f)] at hF4
  refine Rs (A11 @t0 @t1 @t2 @t7 @t8 @t15 @t16 @t19 @t20 @t21 @w5) ?_
  exact ⟨t.length - (j + 1), by omega, j + 1, g4, by omega, rfl, rfl, hF4, rfl⟩
end
end Go.Abs
namespace Go.Abs
theorem apL_len (t A : List Int) (σ : Int) : (apL t A σ).length = A.length := genL_len _ _
set_option maxRecDepth 10000
attribute [local irreducible] WP WC WE WB WR WF WL WG WRg WQ
section
variable {P : Program} (T : Tbl P) {h : AHeap}
include T
set_option maxHeartbeats 4000000 in
theorem r20 {s0 s : AV} {t : List Int} {l : List Nat} (h0 : IsSl h s0 1 (t.map intRow)) (hs : IsSl h s 1 (l.map fltR)) (htl : t.length < 2 ^ 40) (hl : l.length < 2 ^ 40) : RCall P 20 [s0, s] h (fun v h' => ∃ (u : AV) (e : Int), v = .tup [u, .int .i64 e] ∧ HeardS h' (chkB t l) (apL t (l.map gridN) (-1)) u e) := by
  refine .st2 20 T.mix T.c20 ?_;intro ts hlen t0 t1;unfold fn20
  refine Rs (A2 @t0 @t1) ?_
  refine WF.ce T.c104 (r104 T h0 hs htl hl) fun g1 => ?_
  by_cases hz : chkB t l = 0
  case neg =>
    have d1 : decide (chkB t l ≠ 0) = true := decide_eq_true hz
    refine Rs (A3 @t0 @t1 @d1) ?_
    exact ⟨.nilSlice, _, rfl, by unfold HeardS; rw [if_pos hz]; exact ⟨rfl, rfl⟩⟩
  have d1 : decide (chkB t l ≠ 0) = false := decide_eq_false fun z => z hz
  obtain ⟨q1, q2⟩ := first2 hz
  obtain ⟨hl2, hg⟩ := chkL_z q2
  have ht := chkTp_z q1
  refine Rs (A3 @t0 @t1 @d1) ?_
  refine WF.res T.c107 (r107 T (hs.ext Xx) hl T.c108 (g := gridN) (fun x hx k => r108 T (hg x hx))) ?_
  intro s7 g2 is7
  have hAl : (l.map gridN).length = l.length := by simp
  refine Rs (A2 @t0 @t1) ?_
  refine WF.res T.c106 (r106 T (h0.ext Xx) is7 ht (by omega) (grid_all hg) (by omega)) ?_
  intro s8 g3 is8
  refine Rs (A2 @t0 @t1) ?_
  refine WF.res T.c105 (r105 T is8 (by rw [apL_len]; omega)) ?_
  rintro _ g5 ⟨u, e, rfl, hu⟩
  refine Rs (A2 @t0 @t1) ?_
  exact ⟨u, e, rfl, by unfold HeardS; rw [if_neg (fun z => z hz)]; exact hu⟩
end
end Go.Abs
