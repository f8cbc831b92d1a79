/- Contracts: the errors of tides. No condition. · Contracts: the reference's errors of tides; the level at a tick. No condition. · Contracts: the level at a tick. No condition. · Contracts: the level with its checks; the seat's own helpers: short rows, rows turned, levels compared. No condition. · The law of the tides. No condition. -/
import Derived.Test.YtbgldbmgjcgepaaGreatDoorFa4
set_option linter.all false
namespace Go.Abs

theorem td_box {x : Int × Int} {N : Nat} : boxF (.agg (ratR x)) N = some (.ptr N 0, .push (.cells (ratR x) true false)) := rfl
theorem td_st {x : Int × Int} {b : Nat} {a0 a1 : AV} : stB 2 0 (.agg (ratR x)) b (.cells [a0, a1] true false) = some (undefA, .set b (.cells (ratR x) true false)) := rat_st
theorem td_a {x : Int × Int} : ldB (some 2) 0 (.cells (ratR x) true false) = some (.agg (ratR x), .keep) := rfl
theorem first_w2 (a b : Bool) (x y : Int) : firstS [whenS a x, whenS b y] = if whenS a x = 0 then whenS b y else whenS a x := by
  simp only [firstS]
  by_cases h : whenS a x = 0
  · rw [if_pos h, if_pos h]
    by_cases h2 : whenS b y = 0
    · rw [if_pos h2, h2]
    · rw [if_neg h2]
  · rw [if_neg h, if_neg h]
set_option maxRecDepth 10000
attribute [local irreducible] WP WC WE WB WR WF WL WG WRg WQ
section
variable {P : Program} (T : Tbl P) {h : AHeap}
include T
set_option maxHeartbeats 4000000 in
theorem r56 {s : AV} {l : List (Int × Int)} (hs : IsSl h s 2 (l.map ratR)) (hl : l.length < 2 ^ 40) : RCall P 56 [s] h (fun v _ => v = .int .i64 (chkTs l)) := by
  refine .st1 51 T.mix T.c56 ?_;intro ts hlen t0;unfold fn56
  refine Rs (A2 @t0 hs.lenm) ?_
  refine WF.ce T.c117 (r117 T _ _) fun g1 => ?_
  refine Rs (A2 @t0 hs.lenm) ?_
  refine WF.ce T.c117 (r117 T _ _) fun g2 => ?_
  refine Rs @t0 ?_
  refine WF.ce T.c116 (r116 T (isSl_ints [_, _]) (by simp)) fun g3 => ?_
  rw [first_w2]
  by_cases h1 : l.length = 0
  · have d1 : decide ((l.length : Int) = 0) = true := decide_eq_true (by omega)
    have e : chkTs l = 12 := if_pos h1
    have d2 : ∀ x : Bool, (if whenS true 12 = 0 then whenS x 5 else whenS true 12) = 12 := fun _ => rfl
    have d3 : decide ((12 : Int) ≠ 0) = true := rfl
    refine Rs (A4 @t0 @d1 @d2 @d3) ?_
    rw [e]
  have d1 : decide ((l.length : Int) = 0) = false := decide_eq_false (by omega)
  by_cases h2 : 16 < l.length
  · have d2 : decide ((16 : Int) < (l.length : Int)) = true := decide_eq_true (by omega)
    have e : chkTs l = 5 := (if_neg h1).trans (if_pos h2)
    have d4 : (if whenS false 12 = 0 then whenS true 5 else whenS false 12) = 5 := rfl
    have d3 : decide ((5 : Int) ≠ 0) = true := rfl
    refine Rs (A5 @t0 @d1 @d2 @d4 @d3) ?_
    rw [e]
  have d2 : decide ((16 : Int) < (l.length : Int)) = false := decide_eq_false (by omega)
  have e : chkTs l = chkTF l none := (if_neg h1).trans (if_neg h2)
  have d4 : (if whenS false 12 = 0 then whenS false 5 else whenS false 12) = 0 := rfl
  have d3 : decide ((0 : Int) ≠ 0) = false := rfl
  rw [e]
  refine Rs (A6 @t0 @d1 @d2 @d4 @d3 hs.lenm) ?_
  refine WL.inv T.mix (fun n ts K => ∃ k : Nat, k ≤ l.length ∧ n = l.length - k ∧ Ext h K ∧ chkTF l none = chkTF (l.drop k) (preT l k) ∧ ts.length = 51 ∧ slot ts 0 = s ∧ slot ts 4 = .func (.func 139) [] [] ∧ slot ts 21 = s ∧ slot ts 22 = .int .i64 l.length ∧ slot ts 23 = .int .i64 k) l.length
    ⟨0, by omega, rfl, Xx, rfl, Sn, (Sq @t0), Sw, (Sq @t0), Sw, Swr⟩ ?_
  clear hlen t0 d1 d2 d3 d4
  rintro _ ts K ⟨k, hk, rfl, eK, hf, hlen, t0, t4, t21, t22, t23⟩
  by_cases hlt : k < l.length
  case neg =>
    have e3 := dltF hlt
    have e4 : k = l.length := by omega
    rw [hf, e4, List.drop_length]
    refine Rs (A6 @t0 @t4 @t21 @t22 @t23 @e3) ?_
    exact ⟨eK, rfl⟩
  have e3 := dltT hlt
  have e5 := wrapN (n := k) (by omega)
  have hsK := hs.ext eK
  have ix := hsK.ixm (kk := .i64) hlt
  have ld : ∀ {kk : AHeap}, Ext K kk → loadF (some 2) (elp s 2 k) (fun b => kk[b]?) = some (.agg (ratR l[k]), .keep) := fun {kk} e => hsK.ldm hlt e
  have hd : l.drop k = l[k] :: l.drop (k + 1) := by simp
  have hpre := preT_succ hlt
  rw [hd, chkTF] at hf
  obtain ⟨x, hx⟩ : ∃ x, x = l[k] := ⟨_, rfl⟩
  rw [← hx] at ld hf hpre
  have st := @td_st x
  refine Rs (A9 @t0 @t4 @t21 @t22 @t23 @e3 @ix @ld @st) ?_
  obtain ⟨Y, hY⟩ : ∃ Z, Z = K ++ [ABlk.cells (ratR x) true false] := ⟨_, rfl⟩
  have mb : Y[K.length]? = some (.cells (ratR x) true false) := by rw [hY]; exact at_new
  have eY : Ext K Y := by rw [hY]; exact ⟨_, rfl⟩
  rw [← hY]
  have lb := @ldx _ _ _ mb
  by_cases hk0 : k = 0
  · have hlate : lateT (preT l k) x = false := by rw [hk0]; rfl
    have d0 : decide ((0 : Int) < (k : Int)) = false := decide_eq_false (by omega)
    rw [hlate] at hf
    have z3 : decide ((0 : Int) ≠ 0) = false := rfl
    refine Rs (A8 @t0 @t4 @t21 @t22 @t23 @lb @td_a @d0) ?_
    refine WF.ce T.c140 (r140 T x) fun g4 => ?_
    refine Rs (A6 @t0 @t4 @t21 @t22 @t23 @d0) ?_
    refine WF.ce T.c117 (r117 T _ _) fun g5 => ?_
    refine Rs (A5 @t0 @t4 @t21 @t22 @t23) ?_
    refine WF.ce T.c116 (r116 T (isSl_ints [_, _]) (by simp)) fun g6 => ?_
    have hfs : firstS [chkT1 x, whenS false 11] = chkT1 x := by
      simp only [firstS, whenS]
      by_cases hz : chkT1 x = 0
      · rw [if_pos hz, hz]; rfl
      · rw [if_neg hz]
    rw [hfs]
    by_cases hz : chkT1 x = 0
    · rw [if_neg (fun z => z hz), if_neg (by simp)] at hf
      refine Rs (A8 @t0 @t4 @t21 @t22 @t23 @hz @z3 @e5) ?_
      exact ⟨l.length - (k + 1), by omega, k + 1, by omega, rfl, eK.trans (eY.trans Xx), by rw [hf, hpre], rfl⟩
    · have d6 : decide (chkT1 x ≠ 0) = true := decide_eq_true hz
      rw [if_pos hz] at hf
      refine Rs (A6 @t0 @t4 @t21 @t22 @t23 @d6) ?_
      exact ⟨eK.trans (eY.trans Xx), by rw [hf]⟩
  · have hk1 : k - 1 < l.length := by omega
    have d0 : decide ((0 : Int) < (k : Int)) = true := decide_eq_true (by omega)
    have w1 : IntKind.i64.wrap ((k : Int) - 1) = ((k - 1 : Nat) : Int) := by rw [wrap_in (by omega) (by omega)]; omega
    have m1 : foldA max2A (.int .i64 0) [.int .i64 ((k - 1 : Nat) : Int)] = some (.int .i64 ((k - 1 : Nat) : Int)) := by rw [mx_2, Int.max_eq_right (by omega)]
    have ix1 := hsK.ixm (kk := .i64) hk1
    obtain ⟨y, hy⟩ : ∃ y, y = l[k - 1] := ⟨_, rfl⟩
    have ld1 : ∀ {kk : AHeap}, Ext K kk → loadF (some 2) (elp s 2 (k - 1)) (fun b => kk[b]?) = some (.agg (ratR y), .keep) := fun {kk} e => by rw [hy]; exact hsK.ldm hk1 e
    have ld1 : ∀ {kk : AHeap}, Ext Y kk → loadF (some 2) (elp s 2 (k - 1)) (fun b => kk[b]?) = some (.agg (ratR y), .keep) := fun {kk} e => ld1 (eY.trans e)
    have hp : preT l k = some y := by rw [preT, if_neg hk0, List.getElem?_eq_getElem hk1, hy]
    have hlate : lateT (preT l k) x = decide (x.1 ≤ y.1) := by rw [hp]; rfl
    rw [hlate] at hf
    have z3 : decide ((0 : Int) ≠ 0) = false := rfl
    have hcmp : decide ((if x.1 < y.1 then (-1 : Int) else if y.1 < x.1 then 1 else 0) ≤ 0) = decide (x.1 ≤ y.1) := by
      by_cases q1 : x.1 < y.1
      · rw [if_pos q1, decide_eq_true (by omega), decide_eq_true (by omega)]
      · rw [if_neg q1]
        by_cases q2 : y.1 < x.1
        · rw [if_pos q2, decide_eq_false (by omega), decide_eq_false (by omega)]
        · rw [if_neg q2, decide_eq_true (by omega), decide_eq_true (by omega)]
    refine Rs (A12 @t0 @t4 @t21 @t22 @t23 @lb @td_a @d0 @w1 @m1 @ix1 @ld1) ?_
    refine WF.ce T.c140 (r140 T x) fun g4 => ?_
    have lb := fun {kk n a} (e : Ext (Y ++ g4) kk) => lb (k := kk) (n := n) (a := a) ((show Ext Y (Y ++ g4) from ⟨_, rfl⟩).trans e)
    refine Rs (A12 @t0 @t4 @t21 @t22 @t23 @lb @td_a @d0 @w1 @m1 @ix1 @ld1) ?_
    refine WF.ce T.c139 (r139 T x y) fun g5 => ?_
    refine Rs (A6 @t0 @t4 @t21 @t22 @t23 @hcmp) ?_
    refine WF.ce T.c117 (r117 T _ _) fun g6 => ?_
    refine Rs (A5 @t0 @t4 @t21 @t22 @t23) ?_
    refine WF.ce T.c116 (r116 T (isSl_ints [_, _]) (by simp)) fun g7 => ?_
    by_cases hz : chkT1 x = 0
    · have d6 : decide (chkT1 x ≠ 0) = false := decide_eq_false fun z => z hz
      rw [if_neg (fun z => z hz)] at hf
      by_cases hq : x.1 ≤ y.1
      · have hfs : firstS [chkT1 x, whenS (decide (x.1 ≤ y.1)) 11] = 11 := by rw [hz, decide_eq_true hq]; rfl
        have d7 : decide ((11 : Int) ≠ 0) = true := rfl
        rw [hfs]
        rw [if_pos (decide_eq_true hq)] at hf
        refine Rs (A6 @t0 @t4 @t21 @t22 @t23 @d7) ?_
        exact ⟨eK.trans (eY.trans Xx), by rw [hf]⟩
      · have hfs : firstS [chkT1 x, whenS (decide (x.1 ≤ y.1)) 11] = 0 := by rw [hz, decide_eq_false hq]; rfl
        rw [hfs]
        rw [if_neg (by simpa using hq)] at hf
        refine Rs (A7 @t0 @t4 @t21 @t22 @t23 @z3 @e5) ?_
        exact ⟨l.length - (k + 1), by omega, k + 1, by omega, rfl, eK.trans (eY.trans Xx), by rw [hf, hpre], rfl⟩
    · have hfs : firstS [chkT1 x, whenS (decide (x.1 ≤ y.1)) 11] = chkT1 x := by simp only [firstS]; rw [if_neg hz]
      have d6 : decide (chkT1 x ≠ 0) = true := decide_eq_true hz
      rw [hfs]
      rw [if_pos hz] at hf
      refine Rs (A6 @t0 @t4 @t21 @t22 @t23 @d6) ?_
      exact ⟨eK.trans (eY.trans Xx), by rw [hf]⟩
end
end Go.Abs
namespace Go.Abs

/-- The level, looked for from a row on. -/
def lvlD (l : List (Int × Int)) (k : Nat) (t : Int) : Int × Int := (lvlF (l.drop k) (preT l k) t).getD ((l.getD (l.length - 1) (0, 0)).2, 1)
theorem lvlD_end {l : List (Int × Int)} {t : Int} : lvlD l l.length t = ((l.getD (l.length - 1) (0, 0)).2, 1) := by rw [lvlD, List.drop_length]; rfl
theorem lvlD_step {l : List (Int × Int)} {k : Nat} (h : k < l.length) {t : Int} : lvlD l k t = if l[k].1 < t then lvlD l (k + 1) t else (match preT l k with
    | none => (l[k].2, 1)
    | some a => interT a l[k] t) := by
  have hd : l.drop k = l[k] :: l.drop (k + 1) := by simp
  have e : ∀ (b : Int × Int) r p, lvlF (b :: r) p t = if b.1 < t then lvlF r (some b) t else some (match p with
    | none => (b.2, 1)
    | some a => interT a b t) := fun b r p => rfl
  rw [lvlD, hd, e]
  by_cases hc : l[k].1 < t
  · rw [if_pos hc, if_pos hc, ← preT_succ h]; rfl
  · rw [if_neg hc, if_neg hc]; rfl
theorem ext_set {h K : AHeap} {B X : ABlk} (e : Ext (h ++ [B]) K) : Ext h (K.set h.length X) := by
  obtain ⟨z, rfl⟩ := e
  rw [List.append_assoc, List.set_append_right _ _ (Nat.le_refl _)]; exact ⟨_, rfl⟩
/-- A pair stored into its box, and read out of it. -/
theorem box_s {K : AHeap} {b : Nat} {a0 a1 : AV} (m : K[b]? = some (.cells [a0, a1] true false)) {n d : Int} : storeF 2 (.ptr b 0) (.agg [.int .i64 n, .int .i64 d]) (fun z => K[z]?) = some (undefA, .set b (.cells [.int .i64 n, .int .i64 d] true false)) := by rw [storeF_at m]; exact rat_st
theorem box_l {K : AHeap} {b : Nat} {k0 : ABlk} (m : K[b]? = some k0) {n d : Int} : loadF (some 2) (.ptr b 0) (fun z => (K.set b (.cells [.int .i64 n, .int .i64 d] true false))[z]?) = some (.agg [.int .i64 n, .int .i64 d], .keep) := by
  rw [loadF_at (List.getElem?_set_self (List.getElem?_eq_some_iff.1 m).1)]; rfl
set_option maxRecDepth 10000
attribute [local irreducible] WP WC WE WB WR WF WL WG WRg WQ
section
variable {P : Program} (T : Tbl P) {h : AHeap}
include T
set_option maxHeartbeats 4000000 in
theorem r54 {s : AV} {l : List (Int × Int)} (hs : IsSl h s 2 (l.map ratR)) (hl : l.length < 2 ^ 40) : RCall P 54 [s] h (fun v _ => v = .int .i64 (chkTs l)) := by
  refine .st1 50 T.mix T.c54 ?_;intro ts hlen t0;unfold fn54
  by_cases h1 : l.length = 0
  · have d1 : decide ((l.length : Int) = 0) = true := decide_eq_true (by omega)
    have e : chkTs l = 12 := if_pos h1
    refine Rs (A3 @t0 hs.lenm @d1) ?_
    rw [e]
  have d1 : decide ((l.length : Int) = 0) = false := decide_eq_false (by omega)
  by_cases h2 : 16 < l.length
  · have d2 : decide ((16 : Int) < (l.length : Int)) = true := decide_eq_true (by omega)
    have e : chkTs l = 5 := (if_neg h1).trans (if_pos h2)
    refine Rs (A4 @t0 hs.lenm @d1 @d2) ?_
    rw [e]
  have d2 : decide ((16 : Int) < (l.length : Int)) = false := decide_eq_false (by omega)
  have e : chkTs l = chkTF l none := (if_neg h1).trans (if_neg h2)
  rw [e]
  refine Rs (A4 @t0 hs.lenm @d1 @d2) ?_
  refine WL.inv T.mix (fun n ts K => ∃ k : Nat, k ≤ l.length ∧ n = l.length - k ∧ Ext h K ∧ chkTF l none = chkTF (l.drop k) (preT l k) ∧ ts.length = 50 ∧ slot ts 0 = s ∧ slot ts 3 = .int .i64 k) l.length
    ⟨0, by omega, rfl, Xx, rfl, Sn, (Sq @t0), Swr⟩ ?_
  clear hlen t0 d1 d2
  rintro _ ts K ⟨k, hk, rfl, eK, hf, hlen, t0, t3⟩
  have hsK := hs.ext eK
  by_cases hlt : k < l.length
  case neg =>
    have e3 := dltF hlt
    have e4 : k = l.length := by omega
    rw [hf, e4, List.drop_length]
    refine Rs (A4 @t0 @t3 hsK.lenm @e3) ?_
    exact ⟨eK, rfl⟩
  have e3 := dltT hlt
  have e5 := wrapN (n := k) (by omega)
  have ix := hsK.ixm (kk := .i64) hlt
  have l0 : ∀ {kk : AHeap}, Ext K kk → loadF none (elf s 2 k 0) (fun b => kk[b]?) = some (.int .i64 l[k].1, .keep) := fun {kk} e => hsK.lfm hlt rfl e
  have l1 : ∀ {kk : AHeap}, Ext K kk → loadF none (elf s 2 k 1) (fun b => kk[b]?) = some (.int .i64 l[k].2, .keep) := fun {kk} e => hsK.lfm hlt rfl e
  have hd : l.drop k = l[k] :: l.drop (k + 1) := by simp
  have hpre := preT_succ hlt
  rw [hd, chkTF] at hf
  obtain ⟨x, hx⟩ : ∃ x, x = l[k] := ⟨_, rfl⟩
  rw [← hx] at l0 l1 hf hpre
  refine Rs (A7 @t0 @t3 hsK.lenm @e3 @ix @fadr_el @l0) ?_
  refine WF.ce T.c48 (r48 T _ _ _) fun g1 => ?_
  have l0 : ∀ {kk : AHeap}, Ext (K ++ g1) kk → loadF none (elf s 2 k 0) (fun b => kk[b]?) = some (.int .i64 x.1, .keep) := fun {kk} e => l0 ((show Ext K (K ++ g1) from ⟨_, rfl⟩).trans e)
  have l1 : ∀ {kk : AHeap}, Ext (K ++ g1) kk → loadF none (elf s 2 k 1) (fun b => kk[b]?) = some (.int .i64 x.2, .keep) := fun {kk} e => l1 ((show Ext K (K ++ g1) from ⟨_, rfl⟩).trans e)
  refine Rs (A5 @t0 @t3 @ix @fadr_el @l1) ?_
  refine WF.ce T.c48 (r48 T _ _ _) fun g2 => ?_
  refine Rs (A2 @t0 @t3) ?_
  refine WF.ce T.c27 (r27 T (isSl_ints [_, _]) (by simp)) fun g3 => ?_
  have hch : firstS [rangeS x.1 0 100000, rangeS x.2 (-64) 64] = chkT1 x := rfl
  rw [hch]
  by_cases hz : chkT1 x = 0
  case neg =>
    have d6 : decide (chkT1 x ≠ 0) = true := decide_eq_true hz
    rw [if_pos hz] at hf
    refine Rs (A3 @t0 @t3 @d6) ?_
    exact ⟨eK.trans Xx, by rw [hf]⟩
  have d6 : decide (chkT1 x ≠ 0) = false := decide_eq_false fun z => z hz
  rw [if_neg (fun z => z hz)] at hf
  by_cases hk0 : k = 0
  · have hlate : lateT (preT l k) x = false := by rw [hk0]; rfl
    have d0 : decide ((0 : Int) < (k : Int)) = false := decide_eq_false (by omega)
    rw [hlate, if_neg (by simp)] at hf
    refine Rs (A5 @t0 @t3 @d6 @d0 @e5) ?_
    exact ⟨l.length - (k + 1), by omega, k + 1, by omega, rfl, eK.trans Xx, by rw [hf, hpre], rfl⟩
  have hk1 : k - 1 < l.length := by omega
  have d0 : decide ((0 : Int) < (k : Int)) = true := decide_eq_true (by omega)
  have w1 : IntKind.i64.wrap ((k : Int) - 1) = ((k - 1 : Nat) : Int) := by rw [wrap_in (by omega) (by omega)]; omega
  have ix1 := hsK.ixm (kk := .i64) hk1
  obtain ⟨y, hy⟩ : ∃ y, y = l[k - 1] := ⟨_, rfl⟩
  have ly : ∀ {kk : AHeap}, Ext (K ++ g1) kk → loadF none (elf s 2 (k - 1) 0) (fun b => kk[b]?) = some (.int .i64 y.1, .keep) := fun {kk} e => by rw [hy]; exact hsK.lfm hk1 rfl ((show Ext K (K ++ g1) from ⟨_, rfl⟩).trans e)
  have hp : preT l k = some y := by rw [preT, if_neg hk0, List.getElem?_eq_getElem hk1, hy]
  have hlate : lateT (preT l k) x = decide (x.1 ≤ y.1) := by rw [hp]; rfl
  rw [hlate] at hf
  by_cases hq : x.1 ≤ y.1
  · have d7 : decide (x.1 ≤ y.1) = true := decide_eq_true hq
    rw [if_pos d7] at hf
    refine Rs (A11 @t0 @t3 @d6 @d0 @ix @ix1 @w1 @fadr_el @l0 @ly @d7) ?_
    exact ⟨eK.trans Xx, by rw [hf]⟩
  · have d7 : decide (x.1 ≤ y.1) = false := decide_eq_false hq
    rw [if_neg (by rw [d7]; simp)] at hf
    refine Rs (A12 @t0 @t3 @d6 @d0 @ix @ix1 @w1 @fadr_el @l0 @ly @d7 @e5) ?_
    exact ⟨l.length - (k + 1), by omega, k + 1, by omega, rfl, eK.trans Xx, by rw [hf, hpre], rfl⟩
set_option maxHeartbeats 4000000 in
theorem r55 {s : AV} {l : List (Int × Int)} (hs : IsSl h s 2 (l.map ratR)) (ok : TdOk l) (h1 : 1 ≤ l.length) (hl : l.length ≤ 16) {t : Int} (ht : 0 ≤ t ∧ t ≤ 100000) : RCall P 55 [s, .int .i64 t] h (fun v _ => v = .agg (ratR (lvlS l t))) := by
  refine .st2 71 T.mix T.c55 ?_;intro ts hlen t0 t1;unfold fn55
  have hS : lvlS l t = lvlD l 0 t := rfl
  have hlt0 : 0 < l.length := by omega
  have ix0 := hs.ix0 (kk := .i64) hlt0
  have l00 : ∀ {kk : AHeap}, Ext h kk → loadF none (elf s 2 0 0) (fun b => kk[b]?) = some (.int .i64 l[0].1, .keep) := fun {kk} e => hs.lfm hlt0 rfl e
  have l01 : ∀ {kk : AHeap}, Ext h kk → loadF none (elf s 2 0 1) (fun b => kk[b]?) = some (.int .i64 l[0].2, .keep) := fun {kk} e => hs.lfm hlt0 rfl e
  have stp := lvlD_step (l := l) (k := 0) hlt0 (t := t)
  by_cases hc : l[0].1 < t
  case neg =>
    have d0 : decide (t ≤ l[0].1) = true := decide_eq_true (by omega)
    have st := @rat_st l[0].2 1
    rw [if_neg hc] at stp
    refine Rs (A8 @t0 @t1 @ix0 @fadr_el @l00 @l01 @d0 @st) ?_
    rw [hS, stp]
    rfl
  have d0 : decide (t ≤ l[0].1) = false := decide_eq_false (by omega)
  rw [if_pos hc] at stp
  rw [hS, stp]
  refine Rs (A6 @t0 @t1 @ix0 @fadr_el @l00 @d0) ?_
  refine WL.inv T.mix (fun n ts K => ∃ k : Nat, 1 ≤ k ∧ k ≤ l.length ∧ n = l.length - k ∧ Ext (h ++ [ABlk.cells [.int .i64 0, .int .i64 0] true false]) K ∧ lvlD l 1 t = lvlD l k t ∧ ts.length = 71 ∧ slot ts 0 = s ∧ slot ts 1 = .int .i64 t ∧ slot ts 4 = .ptr h.length 0 ∧ slot ts 5 = .int .i64 k) (l.length - 1)
    ⟨1, by omega, by omega, rfl, .refl _, rfl, Sn, (Sq @t0), (Sq @t1), Sw, Swr⟩ ?_
  clear hlen t0 t1 d0 stp
  rintro _ ts K ⟨k, hk1, hk, rfl, eK, hf, hlen, t0, t1, t4, t5⟩
  have ehK : Ext h K := Ext.trans ⟨_, rfl⟩ eK
  have hsK := hs.ext ehK
  have m4 : K[h.length]? = some (.cells [.int .i64 0, .int .i64 0] true false) := eK.some at_new
  by_cases hlt : k < l.length
  case neg =>
    have e3 := dltF hlt
    have e4 : k = l.length := by omega
    have hlast : l.length - 1 < l.length := by omega
    have w1 : IntKind.i64.wrap ((l.length : Int) - 1) = ((l.length - 1 : Nat) : Int) := by rw [wrap_in (by omega) (by omega)]; omega
    have ix := hsK.ixm (kk := .i64) hlast
    have ld : ∀ {kk : AHeap}, Ext K kk → loadF none (elf s 2 (l.length - 1) 1) (fun b => kk[b]?) = some (.int .i64 l[l.length - 1].2, .keep) := fun {kk} e => hsK.lfm hlast rfl e
    have hg : l.getD (l.length - 1) (0, 0) = l[l.length - 1] := by rw [List.getD_eq_getElem?_getD, List.getElem?_eq_getElem hlast]; rfl
    have s4 := @box_s K h.length _ _ m4 l[l.length - 1].2 1
    have l4 := @box_l K h.length _ m4 l[l.length - 1].2 1
    have hr : lvlD l k t = (l[l.length - 1].2, 1) := by rw [e4, lvlD_end, hg]
    refine Rs (A12 @t0 @t1 @t4 @t5 hsK.lenm @e3 @w1 @ix @fadr_el @ld @s4 @l4) ?_
    rw [hf, hr]
    exact ⟨ext_set eK, rfl⟩
  have e3 := dltT hlt
  have e5 := wrapN (n := k) (by omega)
  have hk0 : k ≠ 0 := by omega
  have hkp : k - 1 < l.length := by omega
  have w1 : IntKind.i64.wrap ((k : Int) - 1) = ((k - 1 : Nat) : Int) := by rw [wrap_in (by omega) (by omega)]; omega
  have ix := hsK.ixm (kk := .i64) hlt
  have ix1 := hsK.ixm (kk := .i64) hkp
  obtain ⟨x, hx⟩ : ∃ x, x = l[k] := ⟨_, rfl⟩
  obtain ⟨y, hy⟩ : ∃ y, y = l[k - 1] := ⟨_, rfl⟩
  have ld : ∀ {kk : AHeap}, Ext K kk → loadF (some 2) (elp s 2 k) (fun b => kk[b]?) = some (.agg (ratR x), .keep) := fun {kk} e => by rw [hx]; exact hsK.ldm hlt e
  have ly : ∀ {kk : AHeap}, Ext K kk → loadF (some 2) (elp s 2 (k - 1)) (fun b => kk[b]?) = some (.agg (ratR y), .keep) := fun {kk} e => by rw [hy]; exact hsK.ldm hkp e
  have hp : preT l k = some y := by rw [preT, if_neg hk0, List.getElem?_eq_getElem hkp, hy]
  have stp := lvlD_step hlt (t := t)
  rw [hp, ← hx] at stp
  have bx := @ok.r x (by rw [hx]; exact List.getElem_mem _)
  have by' := @ok.r y (by rw [hy]; exact List.getElem_mem _)
  have hlt2 : y.1 < x.1 := by
    have := ok.o (k - 1) (by omega)
    rw [hx, hy]
    have e : k - 1 + 1 = k := by omega
    simp only [e] at this
    exact this
  have hb2 : ∀ {N : Nat}, boxnF 2 (.agg (ratR y)) N = some (.ptr N 0, .push (.cells (ratR y) true false)) := fun {N} => rfl
  have st : storeF 2 (.ptr K.length 0) (.agg (ratR x)) (fun z => (K ++ [ABlk.cells [.int .i64 0, .int .i64 0] true false] ++ [ABlk.cells (ratR y) true false])[z]?) = some (undefA, .set K.length (.cells (ratR x) true false)) := by
    rw [storeF_at (show (K ++ [ABlk.cells [.int .i64 0, .int .i64 0] true false] ++ [ABlk.cells (ratR y) true false])[K.length]? = some (.cells [.int .i64 0, .int .i64 0] true false) by simp)]; exact td_st
  have eZ : Ext K (K ++ [ABlk.cells (ratR x) true false] ++ [ABlk.cells (ratR y) true false]) := by rw [List.append_assoc]; exact ⟨_, rfl⟩
  have r0 : ∀ {z : Int × Int}, (ratR z)[0]? = some (.int .i64 z.1) := fun {z} => rfl
  have r1 : ∀ {z : Int × Int}, (ratR z)[1]? = some (.int .i64 z.2) := fun {z} => rfl
  by_cases hc : x.1 < t
  · have d0 : decide (t ≤ x.1) = false := decide_eq_false (by omega)
    rw [if_pos hc] at stp
    refine Rs (A17 @t0 @t1 @t4 @t5 hsK.lenm @e3 @w1 @ix @ix1 @ld @ly @hb2 @st @r0 @r1 @d0 @e5) ?_
    exact ⟨l.length - (k + 1), by omega, k + 1, by omega, by omega, rfl, eK.trans eZ, by rw [hf, stp], rfl⟩
  have d0 : decide (t ≤ x.1) = true := decide_eq_true (by omega)
  rw [if_neg hc] at stp
  obtain ⟨q1, q2⟩ := inter_bd by' bx ht
  have w2 : IntKind.i64.wrap (x.1 - y.1) = x.1 - y.1 := wrap_in (by omega) (by omega)
  have w3 : IntKind.i64.wrap (x.2 - y.2) = x.2 - y.2 := wrap_in (by omega) (by omega)
  have w4 : IntKind.i64.wrap (t - y.1) = t - y.1 := wrap_in (by omega) (by omega)
  have w5 : IntKind.i64.wrap (y.2 * (x.1 - y.1)) = y.2 * (x.1 - y.1) := wrap_in (by omega) (by omega)
  have w6 : IntKind.i64.wrap ((x.2 - y.2) * (t - y.1)) = (x.2 - y.2) * (t - y.1) := wrap_in (by omega) (by omega)
  have w7 : IntKind.i64.wrap (y.2 * (x.1 - y.1) + (x.2 - y.2) * (t - y.1)) = y.2 * (x.1 - y.1) + (x.2 - y.2) * (t - y.1) := wrap_in (by omega) (by omega)
  refine Rs (A22 @t0 @t1 @t4 @t5 hsK.lenm @e3 @w1 @ix @ix1 @ld @ly @hb2 @st @r0 @r1 @d0 @w2 @w3 @w4 @w5 @w6 @w7) ?_
  obtain ⟨n, hn⟩ : ∃ n, n = y.2 * (x.1 - y.1) + (x.2 - y.2) * (t - y.1) := ⟨_, rfl⟩
  have hi : lvlD l k t = ratI n (x.1 - y.1) := by rw [stp, hn]; rfl
  have hnb : -19200000 ≤ n ∧ n ≤ 19200000 := by rw [hn]; omega
  rw [← hn]
  refine WF.ce T.c132 (z132 T n (x.1 - y.1) (by omega) (by omega) (by omega)) fun g1 => ?_
  have eY := eK.trans (eZ.trans (⟨g1, rfl⟩ : Ext _ ((K ++ [ABlk.cells (ratR x) true false] ++ [ABlk.cells (ratR y) true false]) ++ g1)))
  have m4 := eY.some (at_new (X := h) (k := ABlk.cells [.int .i64 0, .int .i64 0] true false))
  obtain ⟨Y, hY⟩ : ∃ Y, Y = (K ++ [ABlk.cells (ratR x) true false] ++ [ABlk.cells (ratR y) true false]) ++ g1 := ⟨_, rfl⟩
  rw [← hY] at m4 eY ⊢
  have s4 := @box_s Y h.length _ _ m4 (ratI n (x.1 - y.1)).1 (ratI n (x.1 - y.1)).2
  have l4 := @box_l Y h.length _ m4 (ratI n (x.1 - y.1)).1 (ratI n (x.1 - y.1)).2
  unfold ratR
  refine Rs (A6 @t0 @t1 @t4 @t5 @s4 @l4) ?_
  rw [hf, hi]
  exact ⟨ext_set eY, rfl⟩
end
end Go.Abs
namespace Go.Abs

theorem ext_set2 {h K : AHeap} {B C X Y : ABlk} (e : Ext (h ++ [B] ++ [C]) K) : Ext h ((K.set (h.length + 1) X).set h.length Y) := by
  obtain ⟨z, rfl⟩ := e
  rw [List.append_assoc, List.append_assoc, List.set_append_right _ _ (by omega), List.set_append_right _ _ (Nat.le_refl _)]; exact ⟨_, rfl⟩
theorem set_ne' {K : AHeap} {a b : Nat} {X k : ABlk} (n : a ≠ b) (m : K[b]? = some k) : (K.set a X)[b]? = some k := by rw [List.getElem?_set_ne n]; exact m
theorem set_eq' {K : AHeap} {b : Nat} {X k : ABlk} (m : K[b]? = some k) : (K.set b X)[b]? = some X := List.getElem?_set_self (List.getElem?_eq_some_iff.1 m).1
set_option maxRecDepth 10000
attribute [local irreducible] WP WC WE WB WR WF WL WG WRg WQ
section
variable {P : Program} (T : Tbl P) {h : AHeap}
include T
set_option maxHeartbeats 4000000 in
theorem r138 {s : AV} {l : List (Int × Int)} (hs : IsSl h s 2 (l.map ratR)) (ok : TdOk l) (h1 : 1 ≤ l.length) (hl : l.length ≤ 16) {t : Int} (ht : 0 ≤ t ∧ t ≤ 100000) : RCall P 138 [s, .int .i64 t] h (fun v _ => v = .agg (ratR (lvlS l t))) := by
  refine .st2 65 T.mix T.c138 ?_;intro ts hlen t0 t1;unfold fn138
  have hlast : l.length - 1 < l.length := by omega
  have wl : IntKind.i64.wrap ((l.length : Int) - 1) = ((l.length - 1 : Nat) : Int) := by rw [wrap_in (by omega) (by omega)]; omega
  have hg : l.getD (l.length - 1) (0, 0) = l[l.length - 1] := by rw [List.getD_eq_getElem?_getD, List.getElem?_eq_getElem hlast]; rfl
  have hend : lvlD l l.length t = (l[l.length - 1].2, 1) := by rw [lvlD_end, hg]
  have hS : lvlS l t = lvlD l 0 t := rfl
  have ixl := hs.ixm (kk := .i64) hlast
  obtain ⟨w, hw⟩ : ∃ w, w = l[l.length - 1].2 := ⟨_, rfl⟩
  have ldl : ∀ {kk : AHeap}, Ext h kk → loadF none (elf s 2 (l.length - 1) 1) (fun b => kk[b]?) = some (.int .i64 w, .keep) := fun {kk} e => by rw [hw]; exact hs.lfm hlast rfl e
  rw [← hw] at hend
  rw [hS]
  have stw : ∀ {kk : AHeap}, storeF 2 (.ptr (h ++ [ABlk.cells [.int .i64 0, .int .i64 0] true false]).length 0) (.agg [.int .i64 w, .int .i64 1]) (fun z => (h ++ [ABlk.cells [.int .i64 0, .int .i64 0] true false] ++ [ABlk.cells [.int .i64 0, .int .i64 0] true false])[z]?) = some (undefA, .set (h ++ [ABlk.cells [.int .i64 0, .int .i64 0] true false]).length (.cells [.int .i64 w, .int .i64 1] true false)) := fun {_} => box_s at_new
  refine Rs (A8 @t0 @t1 hs.lenm @wl @ixl @fadr_el @ldl @stw) ?_
  have hB : (h ++ [ABlk.cells [.int .i64 0, .int .i64 0] true false]).length = h.length + 1 := by simp
  refine WL.inv T.mix (fun n ts K => ∃ k : Nat, k ≤ l.length ∧ n = l.length - k ∧ Ext (h ++ [ABlk.cells [.int .i64 0, .int .i64 0] true false] ++ [ABlk.cells [.int .i64 w, .int .i64 1] true false]) K ∧ lvlD l 0 t = lvlD l k t ∧ ts.length = 65 ∧ slot ts 0 = s ∧ slot ts 1 = .int .i64 t ∧ slot ts 4 = .ptr h.length 0 ∧ slot ts 5 = .ptr (h.length + 1) 0 ∧ slot ts 17 = s ∧ slot ts 18 = .int .i64 l.length ∧ slot ts 19 = .int .i64 k) l.length
    ⟨0, by omega, rfl, .refl _, rfl, Sn, (Sq @t0), (Sq @t1), Sw, (by rw [hB]; exact Zn trivial), Sw, Sw, Swr⟩ ?_
  clear hlen t0 t1 stw
  rintro _ ts K ⟨k, hk, rfl, eK, hf, hlen, t0, t1, t4, t5, t17, t18, t19⟩
  have ehK : Ext h K := Ext.trans (by rw [List.append_assoc]; exact ⟨_, rfl⟩) eK
  have hsK := hs.ext ehK
  have m4 : K[h.length]? = some (.cells [.int .i64 0, .int .i64 0] true false) := eK.some (by simp)
  have m5 : K[h.length + 1]? = some (.cells [.int .i64 w, .int .i64 1] true false) := eK.some (by simp)
  rw [hf]
  -- the way out: the level's box read, the result's box written and read
  have out : ∀ {Y : AHeap} {n d n0 d0 : Int}, Y[h.length]? = some (.cells [.int .i64 0, .int .i64 0] true false) → Y[h.length + 1]? = some (.cells [.int .i64 n0, .int .i64 d0] true false) →
      (loadF (some 2) (.ptr (h.length + 1) 0) (fun z => (Y.set (h.length + 1) (.cells [.int .i64 n, .int .i64 d] true false))[z]?) = some (.agg [.int .i64 n, .int .i64 d], .keep)) ∧
      (storeF 2 (.ptr h.length 0) (.agg [.int .i64 n, .int .i64 d]) (fun z => (Y.set (h.length + 1) (.cells [.int .i64 n, .int .i64 d] true false))[z]?) = some (undefA, .set h.length (.cells [.int .i64 n, .int .i64 d] true false))) ∧
      (loadF (some 2) (.ptr h.length 0) (fun z => ((Y.set (h.length + 1) (.cells [.int .i64 n, .int .i64 d] true false)).set h.length (.cells [.int .i64 n, .int .i64 d] true false))[z]?) = some (.agg [.int .i64 n, .int .i64 d], .keep)) := by
    intro Y n d n0 d0 ma mb
    have mc := set_ne' (X := .cells [.int .i64 n, .int .i64 d] true false) (show h.length + 1 ≠ h.length by omega) ma
    exact ⟨box_l mb, box_s mc, box_l mc⟩
  by_cases hlt : k < l.length
  case neg =>
    have e3 := dltF hlt
    have e4 : k = l.length := by omega
    rw [e4, hend]
    have l5 : loadF (some 2) (.ptr (h.length + 1) 0) (fun z => K[z]?) = some (.agg [.int .i64 w, .int .i64 1], .keep) := by rw [loadF_at m5]; rfl
    have s4 := @box_s K h.length _ _ m4 w 1
    have l4 := @box_l K h.length _ m4 w 1
    refine Rs (A11 @t0 @t1 @t4 @t5 @t17 @t18 @t19 @e3 @l5 @s4 @l4) ?_
    exact ⟨ext_set (h := h) (Ext.trans ⟨_, rfl⟩ eK), rfl⟩
  have e3 := dltT hlt
  have e5 := wrapN (n := k) (by omega)
  have ix := hsK.ixm (kk := .i64) hlt
  obtain ⟨x, hx⟩ : ∃ x, x = l[k] := ⟨_, rfl⟩
  have ld : ∀ {kk : AHeap}, Ext K kk → loadF (some 2) (elp s 2 k) (fun b => kk[b]?) = some (.agg (ratR x), .keep) := fun {kk} e => by rw [hx]; exact hsK.ldm hlt e
  have stp := lvlD_step hlt (t := t)
  rw [← hx] at stp
  have bx := @ok.r x (by rw [hx]; exact List.getElem_mem _)
  have st := @td_st x
  have r0 : ∀ {z : Int × Int}, (ratR z)[0]? = some (.int .i64 z.1) := fun {z} => rfl
  have r1 : ∀ {z : Int × Int}, (ratR z)[1]? = some (.int .i64 z.2) := fun {z} => rfl
  by_cases hc : x.1 < t
  · have d0 : decide (x.1 < t) = true := decide_eq_true hc
    rw [if_pos hc] at stp
    refine Rs (A15 @t0 @t1 @t4 @t5 @t17 @t18 @t19 @e3 @ix @ld @st @r0 @r1 @d0 @e5) ?_
    exact ⟨l.length - (k + 1), by omega, k + 1, by omega, rfl, eK.trans Xx, by rw [stp], rfl⟩
  have d0 : decide (x.1 < t) = false := decide_eq_false hc
  rw [if_neg hc] at stp
  refine Rs (A14 @t0 @t1 @t4 @t5 @t17 @t18 @t19 @e3 @ix @ld @st @r0 @r1 @d0) ?_
  have eY : Ext K (K ++ [ABlk.cells (ratR x) true false]) := ⟨_, rfl⟩
  have m7 : (K ++ [ABlk.cells (ratR x) true false])[K.length]? = some (.cells (ratR x) true false) := at_new
  have n5 : h.length + 1 ≠ K.length := fun z => by rw [z, List.getElem?_eq_none (Nat.le_refl _)] at m5; cases m5
  have m4Y := eY.some m4
  have m5Y := eY.some m5
  obtain ⟨Y, hY⟩ : ∃ Y, Y = K ++ [ABlk.cells (ratR x) true false] := ⟨_, rfl⟩
  rw [← hY] at eY m4Y m5Y m7 ⊢
  have s5 := @box_s Y (h.length + 1) _ _ m5Y x.2 1
  by_cases hk0 : k = 0
  · have d1 : decide ((0 : Int) < (k : Int)) = false := decide_eq_false (by omega)
    obtain ⟨l5, s4, l4⟩ := @out Y x.2 1 _ _ m4Y m5Y
    have hv : lvlD l k t = (x.2, 1) := by rw [stp, hk0]; rfl
    rw [hv]
    refine Rs (A12 @t0 @t1 @t4 @t5 @t17 @t18 @t19 @s5 @d1 @l5 @s4 @l4) ?_
    exact ⟨ext_set2 (eK.trans eY), rfl⟩
  have d1 : decide ((0 : Int) < (k : Int)) = true := decide_eq_true (by omega)
  have hkp : k - 1 < l.length := by omega
  have w1 : IntKind.i64.wrap ((k : Int) - 1) = ((k - 1 : Nat) : Int) := by rw [wrap_in (by omega) (by omega)]; omega
  have ix1 := hsK.ixm (kk := .i64) hkp
  obtain ⟨y, hy⟩ : ∃ y, y = l[k - 1] := ⟨_, rfl⟩
  have hp : preT l k = some y := by rw [preT, if_neg hk0, List.getElem?_eq_getElem hkp, hy]
  rw [hp] at stp
  have by' := @ok.r y (by rw [hy]; exact List.getElem_mem _)
  have hlt2 : y.1 < x.1 := by
    have := ok.o (k - 1) (by omega)
    rw [hx, hy]
    have e : k - 1 + 1 = k := by omega
    simp only [e] at this
    exact this
  obtain ⟨Z, hZ⟩ : ∃ Z, Z = Y.set (h.length + 1) (.cells [.int .i64 x.2, .int .i64 1] true false) := ⟨_, rfl⟩
  have m4Z : Z[h.length]? = some (.cells [.int .i64 0, .int .i64 0] true false) := by rw [hZ]; exact set_ne' (by omega) m4Y
  have m5Z : Z[h.length + 1]? = some (.cells [.int .i64 x.2, .int .i64 1] true false) := by rw [hZ]; exact set_eq' m5Y
  have m7Z : Z[K.length]? = some (.cells (ratR x) true false) := by rw [hZ]; exact set_ne' n5 m7
  have f7 := @ldx _ _ _ m7Z
  have ey : Ext (h ++ [ABlk.cells [.int .i64 0, .int .i64 0] true false] ++ [ABlk.cells [.int .i64 x.2, .int .i64 1] true false]) Z := by
    obtain ⟨z, hz⟩ := eK.trans eY
    rw [hZ, hz, List.append_assoc, List.append_assoc, List.set_append_right _ _ (by omega)]
    exact ⟨z, by simp⟩
  have hsZ := hs.ext (Ext.trans (by rw [List.append_assoc]; exact ⟨_, rfl⟩) ey)
  have ly : ∀ {kk : AHeap}, Ext Z kk → loadF (some 2) (elp s 2 (k - 1)) (fun b => kk[b]?) = some (.agg (ratR y), .keep) := fun {kk} e => by rw [hy]; exact hsZ.ldm hkp e
  have sty := @td_st y
  obtain ⟨q1, q2⟩ := inter_bd by' bx ht
  have w2 : IntKind.i64.wrap (x.1 - y.1) = x.1 - y.1 := wrap_in (by omega) (by omega)
  have w3 : IntKind.i64.wrap (x.2 - y.2) = x.2 - y.2 := wrap_in (by omega) (by omega)
  have w4 : IntKind.i64.wrap (t - y.1) = t - y.1 := wrap_in (by omega) (by omega)
  have w5 : IntKind.i64.wrap (y.2 * (x.1 - y.1)) = y.2 * (x.1 - y.1) := wrap_in (by omega) (by omega)
  have w6 : IntKind.i64.wrap ((x.2 - y.2) * (t - y.1)) = (x.2 - y.2) * (t - y.1) := wrap_in (by omega) (by omega)
  have w7 : IntKind.i64.wrap (y.2 * (x.1 - y.1) + (x.2 - y.2) * (t - y.1)) = y.2 * (x.1 - y.1) + (x.2 - y.2) * (t - y.1) := wrap_in (by omega) (by omega)
  refine Zs (A9 @t0 @t1 @t4 @t5 @t17 @t18 @t19 @s5 @d1) ?_
  rw [← hZ]
  refine Rs (A20 @t0 @t1 @t4 @t5 @t17 @t18 @t19 @w1 @ix1 @ly @sty @f7 @r0 @r1 @w2 @w3 @w4 @w5 @w6 @w7) ?_
  obtain ⟨n, hn⟩ : ∃ n, n = y.2 * (x.1 - y.1) + (x.2 - y.2) * (t - y.1) := ⟨_, rfl⟩
  have hi : lvlD l k t = ratI n (x.1 - y.1) := by rw [stp, hn]; rfl
  have hnb : -19200000 ≤ n ∧ n ≤ 19200000 := by rw [hn]; omega
  rw [← hn]
  refine WF.ce T.c129 (r129 T n (x.1 - y.1) (by omega) (by omega) (by omega)) fun g1 => ?_
  have eV : Ext Z ((Z ++ [ABlk.cells (ratR y) true false]) ++ g1) := by rw [List.append_assoc]; exact ⟨_, rfl⟩
  have m4V := eV.some m4Z
  have m5V := eV.some m5Z
  have eyV := ey.trans eV
  obtain ⟨V, hV⟩ : ∃ V, V = (Z ++ [ABlk.cells (ratR y) true false]) ++ g1 := ⟨_, rfl⟩
  rw [← hV] at m4V m5V eyV ⊢
  have s6 := @box_s V (h.length + 1) _ _ m5V (ratI n (x.1 - y.1)).1 (ratI n (x.1 - y.1)).2
  obtain ⟨l5, s4, l4⟩ := @out V (ratI n (x.1 - y.1)).1 (ratI n (x.1 - y.1)).2 _ _ m4V m5V
  rw [hi]
  unfold ratR
  refine Rs (A11 @t0 @t1 @t4 @t5 @t17 @t18 @t19 @s6 @l5 @s4 @l4) ?_
  exact ⟨ext_set2 eyV, trivial⟩
end
end Go.Abs
namespace Go.Abs

/-- append of one row to a slice of one's own. -/
theorem WR.appR {P} {ro} {ks} {ts} {Q} {B Y} {s} {es w} {cs} {z} {d} {l}
    (hs : Fr B.length Y s es cs) (hz : z.length = es) (he : Ext B Y) (hes : 0 < es) (hsz : (cs.length + 1) * w ≤ 2 ^ 46)
    (K : ∀ (W5 : AHeap) (s' : AV), Ext B W5 → Fr B.length W5 s' es (cs ++ [z]) → s'.one = true → WP P ro l ks (put ts d s') W5 Q) :
    WR P ro (appT es w s (.slice Y.length 0 1 es) (fun b => (Y ++ [ABlk.cells z true true])[b]?) (Y ++ [ABlk.cells z true true]).length) false d l ks ts (Y ++ [ABlk.cells z true true]) Q := by
  have hyz : IsSl (Y ++ [ABlk.cells z true true]) (AV.slice Y.length 0 1 es) es [z] := by
    have := (Fr.push (N := 0) (es := es) (h := Y) (Nat.zero_le _) [z] (fun x hx => by rw [List.mem_singleton] at hx; rw [hx, hz])).isSl
    simpa using this
  refine WR.app1 (h0 := B) (cs := cs) (ys := [z]) (hs.app _) hyz hes (by simp) (by simpa using hsz) (he.trans (Ext.app _ (Ext.refl _))) ?_
  intro g' hl' hff hkp
  exact K _ _ ⟨_, rfl⟩ hff rfl

theorem eq_rat {p q : Int × Int} : eqvF false (eqvK (.agg [.i, .i]) (.agg (ratR p)) (.agg (ratR q))) = some (.bool (decide (p = q))) := by
  rw [eqA rfl rfl]; obtain ⟨a, b⟩ := p; obtain ⟨c, d⟩ := q; simp only [ratR, eqCells, eqQ, eqCell, eqvF, Prod.mk.injEq]
  show (match (match some (a == c) with
      | some true => (match some (b == d) with
        | some true => some true
        | some false => some false
        | none => none)
      | some false => some false
      | none => none) with
    | some b => some (AV.bool b)
    | none => none) = some (AV.bool (decide (a = c ∧ b = d)))
  cases hx : (a == c) <;> cases hy : (b == d) <;> simp_all
theorem eq_rat0 {p : Int × Int} : eqvF false (eqvK (.agg [.i, .i]) (.agg (ratR p)) (.agg [.int .i64 0, .int .i64 0])) = some (.bool (decide (p = (0, 0)))) := @eq_rat p (0, 0)
def sameR (l r : Int × Int) (le re : Int) : Bool := decide (le = re) && ((decide (re ≠ 0) && decide (l = (0, 0))) || (decide (re = 0) && decide (l = r)))
set_option maxRecDepth 10000
attribute [local irreducible] WP WC WE WB WR WF WL WG WRg WQ
section
variable {P : Program} (T : Tbl P) {h : AHeap}
include T
set_option maxHeartbeats 1000000 in
theorem r51 {s : AV} {l : List (Int × Int)} (hs : IsSl h s 2 (l.map ratR)) : RCall P 51 [s] h (fun v _ => v = .bool (decide (l.length ≤ 4) || decide (l.length = 17))) := by
  refine .st1 11 T.mix T.c51 ?_;intro ts hlen t0;unfold fn51
  by_cases h1 : l.length ≤ 4
  · have d1 : decide ((l.length : Int) ≤ 4) = true := decide_eq_true (by omega)
    have d2 : (decide (l.length ≤ 4) || decide (l.length = 17)) = true := by rw [decide_eq_true h1]; rfl
    refine Rs (A3 @t0 hs.lenm @d1) ?_
    rw [d2]
  · have d1 : decide ((l.length : Int) ≤ 4) = false := decide_eq_false (by omega)
    have d2 : (decide (l.length ≤ 4) || decide (l.length = 17)) = decide ((l.length : Int) = 17) := by rw [decide_eq_false h1, Bool.false_or]; exact decide_eq_decide.2 (by omega)
    refine Rs (A3 @t0 hs.lenm @d1) ?_
    rw [d2]
set_option maxHeartbeats 2000000 in
theorem r53 {s : AV} {l : List (Int × Int)} (hs : IsSl h s 2 (l.map ratR)) (hl : l.length < 2 ^ 40) : RCall P 53 [s] h (fun v h' => IsSl h' v 2 (l.map ratR)) := by
  refine .st1 18 T.mix T.c53 ?_;intro ts hlen t0;unfold fn53
  refine Rs (A2 @t0 hs.lenm) ?_
  refine WL.inv T.mix (fun n ts K => ∃ (k : Nat) (t : AV), k ≤ l.length ∧ n = l.length - k ∧ Ext h K ∧ Fr h.length K t 2 ((l.take k).map ratR) ∧ ts.length = 18 ∧ slot ts 3 = t ∧ slot ts 6 = s ∧ slot ts 7 = .int .i64 l.length ∧ slot ts 8 = .int .i64 k) l.length
    ⟨0, .nilSlice, by omega, rfl, .refl _, .nil, Sn, Sw, Sw, Sw, Swr⟩ ?_
  clear hlen t0
  rintro _ ts K ⟨k, t, hk, rfl, eK, hf, hlen, t3, t6, t7, t8⟩
  have hsK := hs.ext eK
  by_cases hlt : k < l.length
  case neg =>
    have e3 := dltF hlt
    have e4 : k = l.length := by omega
    rw [e4, List.take_length] at hf
    refine Rs (A5 @t3 @t6 @t7 @t8 @e3) ?_
    exact ⟨eK, hf.isSl⟩
  have e3 := dltT hlt
  have e5 := wrapN (n := k) (by omega)
  have ix := hsK.ixm (kk := .i64) hlt
  obtain ⟨x, hx⟩ : ∃ x, x = l[k] := ⟨_, rfl⟩
  have ld : ∀ {kk : AHeap}, Ext K kk → loadF (some 2) (elp s 2 k) (fun b => kk[b]?) = some (.agg (ratR x), .keep) := fun {kk} e => by rw [hx]; exact hsK.ldm hlt e
  have st := @td_st x
  have r0 : ∀ {z : Int × Int}, (ratR z)[0]? = some (.int .i64 z.1) := fun {z} => rfl
  have ot := hf.isSl.one
  have htk : l.take (k + 1) = l.take k ++ [x] := by rw [hx]; exact List.take_succ_eq_append_getElem hlt
  have bs : ∀ {N : Nat}, bslF 2 1 (fillA [.int .i64 0, .int .i64 0] [(0, 2, .agg (ratR x))]) N = some (.slice N 0 1 2, .push (.cells (ratR x) true true)) := fun {N} => rfl
  refine Rs (A11 @t3 @t6 @t7 @t8 @e3 @ix @ld @st @td_a @ot @bs) ?_
  refine WR.appR (B := h) (cs := (l.take k).map ratR) (z := ratR x) (hf.app _) rfl (eK.trans ⟨_, rfl⟩) (by decide) (by rw [List.length_map, List.length_take]; omega) ?_
  intro W5 s' x5 hff q5
  have hrow : (l.take k).map ratR ++ [ratR x] = (l.take (k + 1)).map ratR := by rw [htk, List.map_append]; rfl
  rw [hrow] at hff
  refine Rs (A6 @t3 @t6 @t7 @t8 @q5 @e5) ?_
  exact ⟨l.length - (k + 1), by omega, k + 1, s', by omega, rfl, x5, hff, rfl, rfl⟩
set_option maxHeartbeats 1000000 in
theorem r45 (l r : Int × Int) (le re : Int) : RCall P 45 [.agg (ratR l), .int .i64 le, .int .i64 re, .agg (ratR r)] h (fun v _ => v = .bool (sameR l r le re)) := by
  refine .st4 30 T.mix T.c45 ?_;intro ts hlen t0 t1 t2 t3;unfold fn45
  by_cases h1 : le = re
  case neg =>
    have d1 : decide (le = re) = false := decide_eq_false h1
    have e : sameR l r le re = false := by rw [sameR, d1]; rfl
    refine Rs (A7 @t0 @t1 @t2 @t3 @td_box @td_a @d1) ?_
    rw [e]
  have d1 : decide (le = re) = true := decide_eq_true h1
  by_cases h2 : re = 0
  · have d2 : decide (re = 0) = true := decide_eq_true h2
    have d3 : decide (re ≠ 0) = false := decide_eq_false fun z => z h2
    have e : sameR l r le re = decide (l = r) := by rw [sameR, d1, d2, d3]; simp
    refine Rs (A11 @t0 @t1 @t2 @t3 @td_box @td_a @d1 @d2 @d3 @eq_rat @eq_rat0) ?_
    rw [e]
  · have d2 : decide (re = 0) = false := decide_eq_false h2
    have d3 : decide (re ≠ 0) = true := decide_eq_true h2
    have e : sameR l r le re = decide (l = (0, 0)) := by rw [sameR, d1, d2, d3]; simp
    by_cases h3 : l = (0, 0)
    · have d4 : decide (l = (0, 0)) = true := decide_eq_true h3
      rw [e]
      exact Rs (A12 @t0 @t1 @t2 @t3 @td_box @td_a @d1 @d2 @d3 @eq_rat @eq_rat0 @d4) trivial
    · have d4 : decide (l = (0, 0)) = false := decide_eq_false h3
      rw [e]
      exact Rs (A12 @t0 @t1 @t2 @t3 @td_box @td_a @d1 @d2 @d3 @eq_rat @eq_rat0 @d4) trivial
set_option maxHeartbeats 1000000 in
theorem r52 {s : AV} {l : List (Int × Int)} (hs : IsSl h s 2 (l.map ratR)) (hl : l.length < 2 ^ 40) (t : Int) : RCall P 52 [s, .int .i64 t] h (fun v _ => v = .tup [.agg (ratR (if firstS [chkTs l, rangeS t 0 100000] ≠ 0 then (0, 0) else lvlS l t)), .int .i64 (firstS [chkTs l, rangeS t 0 100000])]) := by
  refine .st2 20 T.mix T.c52 ?_;intro ts hlen t0 t1;unfold fn52
  refine Rs (A2 @t0 @t1) ?_
  refine WF.ce T.c56 (r56 T (hs.ext Xx) hl) fun g1 => ?_
  refine Rs (A2 @t0 @t1) ?_
  refine WF.ce T.c120 (r120 T _ _ _) fun g2 => ?_
  refine Rs (A2 @t0 @t1) ?_
  refine WF.ce T.c116 (r116 T (isSl_ints [_, _]) (by simp)) fun g3 => ?_
  by_cases hz : firstS [chkTs l, rangeS t 0 100000] = 0
  · have d1 : decide (firstS [chkTs l, rangeS t 0 100000] ≠ 0) = false := decide_eq_false fun z => z hz
    rw [if_neg (fun z => z hz)]
    obtain ⟨q1, q2⟩ := first2 hz
    obtain ⟨ok, hl1, hl2⟩ := chkTs_z q1
    refine Rs (A3 @t0 @t1 @d1) ?_
    refine WF.ce T.c138 (r138 T (hs.ext Xx) ok hl1 hl2 (rangeS_z.1 q2)) fun g4 => ?_
    obtain ⟨K, hK⟩ : ∃ K, K = h ++ [ABlk.cells [AV.int IntKind.i64 0, AV.int IntKind.i64 0] true false] ++ g1 ++ g2 ++
          [ABlk.cells [AV.int IntKind.i64 (chkTs l), AV.int IntKind.i64 (rangeS t 0 100000)] true true] ++ g3 ++ g4 := ⟨_, rfl⟩
    have eK : Ext (h ++ [ABlk.cells [AV.int IntKind.i64 0, AV.int IntKind.i64 0] true false]) K := by rw [hK]; exact Ext.trans ⟨g1, rfl⟩ (Ext.trans ⟨g2, rfl⟩ (Ext.trans ⟨_, rfl⟩ (Ext.trans ⟨g3, rfl⟩ ⟨g4, rfl⟩)))
    have m4 : K[h.length]? = some (.cells [.int .i64 0, .int .i64 0] true false) := eK.some at_new
    rw [← hK]
    have s4 := @box_s K h.length _ _ m4 (lvlS l t).1 (lvlS l t).2
    have l4 := @box_l K h.length _ m4 (lvlS l t).1 (lvlS l t).2
    unfold ratR
    refine Rs (A2 @s4 @l4) ?_
    exact ⟨ext_set eK, by rw [hz]⟩
  · have d1 : decide (firstS [chkTs l, rangeS t 0 100000] ≠ 0) = true := decide_eq_true hz
    rw [if_pos hz]
    refine Rs (A3 @t0 @t1 @d1) ?_
    rfl
end
end Go.Abs
namespace Go.Abs
theorem sameR_t {p q : Int × Int} {e : Int} (h0 : e ≠ 0 → p = (0, 0)) (h1 : e = 0 → p = q) : sameR p q e e = true := by
  by_cases h : e = 0
  · simp [sameR, h, h1 h]
  · simp [sameR, h, h0 h]
set_option maxRecDepth 10000
attribute [local irreducible] WP WC WE WB WR WF WL WG WRg WQ
section
variable {P : Program} (T : Tbl P) {h : AHeap}
include T
set_option maxHeartbeats 4000000 in
theorem r6 (ha : ∀ k, Ext h k → RCall P 17 [] k (fun v _ => v = .bool true)) {s : AV} {l : List (Int × Int)} (hs : IsSl h s 2 (l.map ratR)) (t : Int) : RCall P 6 [s, .int .i64 t] h (fun v _ => v = .bool true) := by
  refine .st2 49 T.mix T.c6 ?_;intro ts hlen t0 t1;unfold fn6
  refine Rs (A2 @t0 @t1) ?_
  refine WF.ce T.c17 (ha _ Xx) fun g1 => ?_
  by_cases hsh : (decide (l.length ≤ 4) || decide (l.length = 17)) = true
  case neg =>
    have hsf : (decide (l.length ≤ 4) || decide (l.length = 17)) = false := by simpa using hsh
    refine Rs (A3 @t0 @t1 @Bool.not_true) ?_
    refine WF.ce T.c51 (r51 T (hs.ext Xx)) fun g2 => ?_
    refine Rs (A4 @t0 @t1 @hsf @Bool.not_false) ?_
    refine WF.ce T.c17 (ha _ Xx) fun g3 => ?_
    exact Rs (A2 @t0 @t1) trivial
  have hl : l.length < 2 ^ 40 := by
    have : l.length ≤ 4 ∨ l.length = 17 := by simpa using hsh
    omega
  refine Rs (A3 @t0 @t1 @Bool.not_true) ?_
  refine WF.ce T.c51 (r51 T (hs.ext Xx)) fun g2 => ?_
  refine Rs (A4 @t0 @t1 @hsh @Bool.not_true) ?_
  refine WF.res T.c53 (r53 T (hs.ext Xx) hl) ?_
  intro s2 g3 is2
  refine Rs (A2 @t0 @t1) ?_
  refine WF.ce T.c52 (r52 T is2 hl t) fun g4 => ?_
  obtain ⟨K, hK⟩ : ∃ K, K = h ++ g1 ++ g2 ++ g3 ++ g4 := ⟨_, rfl⟩
  have eK : Ext h K := by rw [hK]; exact Ext.trans ⟨g1, rfl⟩ (Ext.trans ⟨g2, rfl⟩ (Ext.trans ⟨g3, rfl⟩ ⟨g4, rfl⟩))
  rw [← hK]
  obtain ⟨E, hE⟩ : ∃ E, E = firstS [chkTs l, rangeS t 0 100000] := ⟨_, rfl⟩
  obtain ⟨p, hp⟩ : ∃ p, p = if E ≠ 0 then (0, 0) else lvlS l t := ⟨_, rfl⟩
  rw [← hE, ← hp]
  have st := @td_st p
  refine Rs (A3 @t0 @t1 @st) ?_
  have hsK := hs.ext (eK.trans (⟨_, rfl⟩ : Ext K (K ++ [ABlk.cells (ratR p) true false])))
  obtain ⟨W, hW⟩ : ∃ W, W = K ++ [ABlk.cells (ratR p) true false] := ⟨_, rfl⟩
  have m5 : W[K.length]? = some (.cells (ratR p) true false) := by rw [hW]; exact at_new
  have eW : Ext h W := by rw [hW]; exact eK.trans ⟨_, rfl⟩
  rw [← hW] at hsK ⊢
  refine WF.ce T.c54 (r54 T hsK hl) fun g5 => ?_
  refine Rs (A2 @t0 @t1) ?_
  refine WF.ce T.c48 (r48 T _ _ _) fun g6 => ?_
  refine Rs (A2 @t0 @t1) ?_
  refine WF.ce T.c27 (r27 T (isSl_ints [_, _]) (by simp)) fun g7 => ?_
  rw [← hE]
  obtain ⟨V, hV⟩ : ∃ V, V = W ++ g5 ++ g6 ++ [ABlk.cells [AV.int IntKind.i64 (chkTs l), AV.int IntKind.i64 (rangeS t 0 100000)] true true] ++ g7 := ⟨_, rfl⟩
  have eWV : Ext W V := by rw [hV]; exact Ext.trans ⟨g5, rfl⟩ (Ext.trans ⟨g6, rfl⟩ (Ext.trans ⟨_, rfl⟩ ⟨g7, rfl⟩))
  rw [← hV]
  have m5V := eWV.some m5
  have n5 : K.length < V.length := (List.getElem?_eq_some_iff.1 m5V).1
  by_cases hz : E = 0
  · have d1 : decide (E = 0) = true := decide_eq_true hz
    obtain ⟨q1, q2⟩ := first2 (hE.symm.trans hz)
    obtain ⟨ok, hl1, hl2⟩ := chkTs_z q1
    rw [if_neg (fun z => z hz)] at hp
    refine Rs (A3 @t0 @t1 @d1) ?_
    refine WF.ce T.c55 (r55 T (hs.ext (eW.trans (eWV.trans Xx))) ok hl1 hl2 (rangeS_z.1 q2)) fun g8 => ?_
    have e9 : Ext (V ++ [ABlk.cells [AV.int IntKind.i64 0, AV.int IntKind.i64 0] true false]) (V ++ [ABlk.cells [AV.int IntKind.i64 0, AV.int IntKind.i64 0] true false] ++ g8) := ⟨_, rfl⟩
    obtain ⟨Y, hY⟩ : ∃ Y, Y = V ++ [ABlk.cells [AV.int IntKind.i64 0, AV.int IntKind.i64 0] true false] ++ g8 := ⟨_, rfl⟩
    rw [← hY] at e9 ⊢
    have m9 : Y[V.length]? = some (.cells [.int .i64 0, .int .i64 0] true false) := e9.some at_new
    have eVY : Ext V Y := Ext.trans ⟨_, rfl⟩ e9
    have s9 := @box_s Y V.length _ _ m9 (lvlS l t).1 (lvlS l t).2
    have eZ : Ext V (Y.set V.length (.cells [.int .i64 (lvlS l t).1, .int .i64 (lvlS l t).2] true false)) := ext_set e9
    have m9Z : (Y.set V.length (.cells [.int .i64 (lvlS l t).1, .int .i64 (lvlS l t).2] true false))[V.length]? = some (.cells (ratR p) true false) := by rw [set_eq' m9, hp]; rfl
    rw [show ratR (lvlS l t) = [.int .i64 (lvlS l t).1, .int .i64 (lvlS l t).2] from rfl]
    refine Zs (A3 @t0 @t1 @s9) ?_
    obtain ⟨Z, hZ⟩ : ∃ Z, Z = Y.set V.length (.cells [.int .i64 (lvlS l t).1, .int .i64 (lvlS l t).2] true false) := ⟨_, rfl⟩
    rw [← hZ] at eZ m9Z ⊢
    have m5Z := eZ.some m5V
    refine WF.res T.c53 (r53 T (hs.ext (eW.trans (eWV.trans eZ))) hl) ?_
    intro s3 g9 is3
    refine Rs (A2 @t0 @t1) ?_
    refine WF.ce T.c56 (r56 T is3 hl) fun g10 => ?_
    have f5 := @ldx _ _ _ m5Z
    have f9 := @ldx _ _ _ m9Z
    refine Rs (A6 @t0 @t1 @decide_true @f5 @f9 @td_a) ?_
    refine WF.ce T.c45 (r45 T _ _ _ _) fun g11 => ?_
    rw [sameR_t (fun z => absurd hz z) (fun _ => rfl)]
    refine Rs (A2 @t0 @t1) ?_
    exact ⟨eW.trans (eWV.trans (eZ.trans Xx)), trivial⟩
  · have d1 : decide (E = 0) = false := decide_eq_false hz
    rw [if_pos hz] at hp
    refine Rs (A3 @t0 @t1 @d1) ?_
    have eZ : Ext V (V ++ [ABlk.cells [AV.int IntKind.i64 0, AV.int IntKind.i64 0] true false]) := ⟨_, rfl⟩
    have m9Z : (V ++ [ABlk.cells [AV.int IntKind.i64 0, AV.int IntKind.i64 0] true false])[V.length]? = some (.cells (ratR p) true false) := by rw [hp]; exact at_new
    obtain ⟨Z, hZ⟩ : ∃ Z, Z = V ++ [ABlk.cells [AV.int IntKind.i64 0, AV.int IntKind.i64 0] true false] := ⟨_, rfl⟩
    rw [← hZ] at eZ m9Z ⊢
    have m5Z := eZ.some m5V
    refine WF.res T.c53 (r53 T (hs.ext (eW.trans (eWV.trans eZ))) hl) ?_
    intro s3 g9 is3
    refine Rs (A2 @t0 @t1) ?_
    refine WF.ce T.c56 (r56 T is3 hl) fun g10 => ?_
    have f5 := @ldx _ _ _ m5Z
    have f9 := @ldx _ _ _ m9Z
    refine Rs (A6 @t0 @t1 @decide_true @f5 @f9 @td_a) ?_
    refine WF.ce T.c45 (r45 T _ _ _ _) fun g11 => ?_
    rw [sameR_t (fun _ => hp) (fun _ => rfl)]
    refine Rs (A2 @t0 @t1) ?_
    exact ⟨eW.trans (eWV.trans (eZ.trans Xx)), trivial⟩
end
end Go.Abs
