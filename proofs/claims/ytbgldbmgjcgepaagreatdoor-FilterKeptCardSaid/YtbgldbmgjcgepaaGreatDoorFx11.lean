/- Contracts: the errors of tides. No condition. · Contracts: the reference's errors of tides; the level at a tick. No condition. · Contracts: the level at a tick. No condition. · Contracts: the level with its checks; the seat's own helpers: short rows, rows turned, levels compared. No condition. · Numbers that a floating point format has exactly. No condition. · The value of a number; comparisons, sums and products of numbers that a format has. No condition. · Constants, integers as floats and back, products by 16, differences. No condition. · Products and quotients by 16, the greater format. No condition. · The greater format; numbers that are none; made whole downwards; without the sign. No condition. · Contracts: samples checked, as numbers, out of numbers. No condition. · Contracts: samples checked by the program and by the reference; samples as numbers, and back. No condition. · Contracts: maps over lists. No condition. · Contracts: lists of samples checked, copied, as numbers, and back. No condition. · Contracts: lists of numbers made samples by the program and by the reference; samples and numbers compared. No condition. · Contracts: lists of numbers, of samples compared; what is heard. No condition. · Contracts: ghosts: the program's and the reference's. No condition. · Contracts: a ghost by the program; notches. No condition. · Contracts: a ghost taken off, by the program and by the reference. No condition. · Contracts: quotients to the nearest; multiples by the program and by the reference. No condition. · Contracts: multiples by the program and by the reference. No condition. · Contracts: taps checked by the program and by the reference. No condition. · Contracts: taps applied by the program and by the reference. No condition. · Sums over the places of lists; taps applied, and their adjoint: plain. No condition. · Contracts: taps applied by the program. No condition. · Contracts: taps applied, with their checks. No condition. · Contracts: taps undone by the reference. No condition. · Contracts: taps undone by the program. No condition. · Contracts: taps undone by the program, with the checks. No condition. · Contracts: pairs of integers as complex numbers. No condition. -/
import Derived.Test.YtbgldbmgjcgepaaGreatDoorFx5
import Derived.Laws.FloatBits
import Derived.Test.YtbgldbmgjcgepaaGreatDoorFx1
import Derived.Test.YtbgldbmgjcgepaaGreatDoorFx8
set_option linter.all false
namespace Go.Abs

theorem td_box {x : Int × Int} {N : Nat} : boxF (.agg (ratR x)) N = some (.ptr N 0, .push (.cells (ratR x) true false)) := rfl
theorem td_a {x : Int × Int} : ldB (some 2) 0 (.cells (ratR x) true false) = some (.agg (ratR x), .keep) := rfl
theorem first_w2 (a b : Bool) (x y : Int) : firstS [whenS a x, whenS b y] = if whenS a x = 0 then whenS b y else whenS a x := by
  simp only [firstS]
  by_cases h : whenS a x = 0
  · rw [if_pos h, if_pos h]
    by_cases h2 : whenS b y = 0
    · rw [if_pos h2, h2]
    · rw [if_neg h2]
  · rw [if_neg h, if_neg h]
set_option maxRecDepth 10000
attribute [local irreducible] WP WC WE WB WR WF WL WG WRg WQ
section
variable {P : Program} (T : Tbl P) {h : AHeap}
include T
end
end Go.Abs
namespace Go.Abs

theorem ext_set {h K : AHeap} {B X : ABlk} (e : Ext (h ++ [B]) K) : Ext h (K.set h.length X) := by
  obtain ⟨z, rfl⟩ := e
  rw [List.append_assoc, List.set_append_right _ _ (Nat.le_refl _)]; exact ⟨_, rfl⟩
/-- A pair stored into its box, and read out of it. -/
theorem box_s {K : AHeap} {b : Nat} {a0 a1 : AV} (m : K[b]? = some (.cells [a0, a1] true false)) {n d : Int} : storeF 2 (.ptr b 0) (.agg [.int .i64 n, .int .i64 d]) (fun z => K[z]?) = some (undefA, .set b (.cells [.int .i64 n, .int .i64 d] true false)) := by rw [storeF_at m]; exact rat_st
theorem box_l {K : AHeap} {b : Nat} {k0 : ABlk} (m : K[b]? = some k0) {n d : Int} : loadF (some 2) (.ptr b 0) (fun z => (K.set b (.cells [.int .i64 n, .int .i64 d] true false))[z]?) = some (.agg [.int .i64 n, .int .i64 d], .keep) := by
  rw [loadF_at (List.getElem?_set_self (List.getElem?_eq_some_iff.1 m).1)]; rfl
set_option maxRecDepth 10000
attribute [local irreducible] WP WC WE WB WR WF WL WG WRg WQ
section
variable {P : Program} (T : Tbl P) {h : AHeap}
include T
end
end Go.Abs
namespace Go.Abs

theorem set_ne' {K : AHeap} {a b : Nat} {X k : ABlk} (n : a ≠ b) (m : K[b]? = some k) : (K.set a X)[b]? = some k := by rw [List.getElem?_set_ne n]; exact m
theorem set_eq' {K : AHeap} {b : Nat} {X k : ABlk} (m : K[b]? = some k) : (K.set b X)[b]? = some X := List.getElem?_set_self (List.getElem?_eq_some_iff.1 m).1
set_option maxRecDepth 10000
attribute [local irreducible] WP WC WE WB WR WF WL WG WRg WQ
section
variable {P : Program} (T : Tbl P) {h : AHeap}
include T
end
end Go.Abs
namespace Go.Abs

/-- append of one row to a slice of one's own. -/
theorem WR.appR {P} {ro} {ks} {ts} {Q} {B Y} {s} {es w} {cs} {z} {d} {l}
    (hs : Fr B.length Y s es cs) (hz : z.length = es) (he : Ext B Y) (hes : 0 < es) (hsz : (cs.length + 1) * w ≤ 2 ^ 46)
    (K : ∀ (W5 : AHeap) (s' : AV), Ext B W5 → Fr B.length W5 s' es (cs ++ [z]) → s'.one = true → WP P ro l ks (put ts d s') W5 Q) :
    WR P ro (appT es w s (.slice Y.length 0 1 es) (fun b => (Y ++ [ABlk.cells z true true])[b]?) (Y ++ [ABlk.cells z true true]).length) false d l ks ts (Y ++ [ABlk.cells z true true]) Q := by
  have hyz : IsSl (Y ++ [ABlk.cells z true true]) (AV.slice Y.length 0 1 es) es [z] := by
    have := (Fr.push (N := 0) (es := es) (h := Y) (Nat.zero_le _) [z] (fun x hx => by rw [List.mem_singleton] at hx; rw [hx, hz])).isSl
    simpa using this
  refine WR.app1 (h0 := B) (cs := cs) (ys := [z]) (hs.app _) hyz hes (by simp) (by simpa using hsz) (he.trans (Ext.app _ (Ext.refl _))) ?_
  intro g' hl' hff hkp
  exact K _ _ ⟨_, rfl⟩ hff rfl

set_option maxRecDepth 10000
attribute [local irreducible] WP WC WE WB WR WF WL WG WRg WQ
section
variable {P : Program} (T : Tbl P) {h : AHeap}
include T
end
end Go.Abs
namespace Go.Abs
open Ieee

theorem cut_zero (w : Toward) (neg : Bool) (n : Nat) : w.cut neg n 0 = n := by
  cases w <;> simp [Toward.cut, Nat.mod_one]
theorem word_read (f : Format) (neg : Bool) {r : Nat} (h : r < f.signWeight) : (f.word neg r / f.signWeight % 2 == 1) = neg ∧ f.word neg r % f.signWeight = r := by
  unfold Format.word
  cases neg with
  | false => exact ⟨by simp [Nat.div_eq_of_lt h], by simp [Nat.mod_eq_of_lt h]⟩
  | true =>
    have hp : 0 < f.signWeight := Nat.two_pow_pos _
    refine ⟨?_, ?_⟩
    · simp only [if_true]
      rw [Nat.add_div_left _ hp, Nat.div_eq_of_lt h]; rfl
    · simp only [if_true]
      rw [Nat.add_mod_left, Nat.mod_eq_of_lt h]
/-- What a number that the format has exactly is read as. -/
theorem read_nearest (f : Format) (neg : Bool) {mag : Nat} {place : Int} (hm : mag ≠ 0) (h1 : mag.log2 ≤ f.fractionBits) (h2 : f.leastPlace ≤ place) (h3 : place + mag.log2 - f.fractionBits - f.leastPlace + 3 ≤ (2 ^ f.exponentBits : Nat)) (h4 : 2 ≤ f.exponentBits) :
    ∃ k : Nat, f.leastPlace ≤ place - k ∧ f.read (f.nearest neg mag place) = .number neg (mag * 2 ^ k) (place - k) := by
  obtain ⟨l, hl⟩ : ∃ l, l = mag.log2 := ⟨_, rfl⟩
  have g1 : 2 ^ l ≤ mag := by rw [hl]; exact Nat.log2_self_le hm
  have g2 : mag < 2 ^ (l + 1) := by rw [hl]; exact Nat.lt_log2_self
  unfold Format.nearest
  rw [if_neg hm]
  dsimp only
  rw [← hl] at h1 h3 ⊢
  obtain ⟨last, hlast⟩ : ∃ x, x = max (place + l - f.fractionBits) f.leastPlace := ⟨_, rfl⟩
  rw [← hlast]
  have q1 : last ≤ place := by omega
  have q2 : f.leastPlace ≤ last := by omega
  have hd : (last - place).toNat = 0 := by omega
  rw [hd, cut_zero]
  obtain ⟨k, hk⟩ : ∃ k, k = (place - last).toNat := ⟨_, rfl⟩
  obtain ⟨d, hdd⟩ : ∃ d, d = (last - f.leastPlace).toNat := ⟨_, rfl⟩
  rw [← hk, ← hdd]
  have hkl : (place - k : Int) = last := by omega
  have hB : f.binade = 2 ^ f.fractionBits := rfl
  have hBp : 0 < f.binade := Nat.two_pow_pos _
  rw [Nat.shiftLeft_eq]
  obtain ⟨kept, hkept⟩ : ∃ x, x = mag * 2 ^ k := ⟨_, rfl⟩
  have hkL : k + l ≤ f.fractionBits := by omega
  have hp4 : 4 ≤ 2 ^ f.exponentBits := Nat.pow_le_pow_right (n := 2) (by decide) h4
  have u1 : kept < 2 * f.binade := by
    rw [hkept, hB]
    have a1 : mag * 2 ^ k < 2 ^ (l + 1) * 2 ^ k := Nat.mul_lt_mul_of_pos_right g2 (Nat.two_pow_pos _)
    rw [← Nat.pow_add] at a1
    have a2 : 2 ^ (l + 1 + k) ≤ 2 ^ (f.fractionBits + 1) := Nat.pow_le_pow_right (by decide) (by omega)
    rw [Nat.pow_succ 2 f.fractionBits] at a2
    omega
  have u2 : 0 < d → f.binade ≤ kept := fun hd0 => by
    rw [hkept, hB]
    have a1 : 2 ^ l * 2 ^ k ≤ mag * 2 ^ k := Nat.mul_le_mul_right _ g1
    rw [← Nat.pow_add] at a1
    have : l + k = f.fractionBits := by omega
    rw [this] at a1; exact a1
  rw [← hkept]
  have hinf : d * f.binade + kept < f.infRung := by
    have e : f.infRung = (2 ^ f.exponentBits - 1) * f.binade := rfl
    have : (d + 2) * f.binade ≤ f.infRung := by rw [e]; exact Nat.mul_le_mul_right _ (by omega)
    rw [Nat.add_mul] at this; omega
  rw [Nat.min_eq_left (by omega)]
  have hw := word_read f neg (r := d * f.binade + kept) (Nat.lt_trans hinf f.infRung_lt)
  refine ⟨k, by omega, ?_⟩
  rw [hkl]
  unfold Format.read
  dsimp only
  rw [hw.1, hw.2]
  by_cases hlow : d * f.binade + kept < f.binade
  · rw [if_pos hlow]
    have hd0 : d = 0 := by
      rcases Nat.eq_zero_or_pos d with h | h
      · exact h
      · have := u2 h; omega
    rw [hd0, Nat.zero_mul, Nat.zero_add]
    have : last = f.leastPlace := by omega
    rw [this, hkept]
  · rw [if_neg hlow, if_pos hinf]
    have hge : f.binade ≤ kept := by
      rcases Nat.eq_zero_or_pos d with h | h
      · rw [h, Nat.zero_mul] at hlow; omega
      · exact u2 h
    have e1 : d * f.binade + kept = (kept - f.binade) + f.binade * (d + 1) := by rw [Nat.mul_add, Nat.mul_comm f.binade d]; omega
    have e2 : (d * f.binade + kept) % f.binade = kept - f.binade := by rw [e1, Nat.add_mul_mod_self_left, Nat.mod_eq_of_lt (by omega)]
    have e3 : (d * f.binade + kept) / f.binade = d + 1 := by rw [e1, Nat.add_mul_div_left _ _ hBp, Nat.div_eq_of_lt (by omega)]; omega
    rw [e2, e3]
    have e4 : f.binade + (kept - f.binade) = kept := by omega
    have e5 : f.leastPlace + ((d + 1 - 1 : Nat) : Int) = last := by omega
    rw [e4, e5, hkept]
theorem log2_shift {m : Nat} (hm : m ≠ 0) (j : Nat) : (m * 2 ^ j).log2 = m.log2 + j := by
  have hp : 0 < 2 ^ j := Nat.two_pow_pos _
  refine (Nat.log2_eq_iff (Nat.mul_ne_zero hm (by omega))).2 ⟨?_, ?_⟩
  · rw [Nat.pow_add]; exact Nat.mul_le_mul_right _ (Nat.log2_self_le hm)
  · rw [show m.log2 + j + 1 = m.log2 + 1 + j by omega, Nat.pow_add]; exact Nat.mul_lt_mul_of_pos_right Nat.lt_log2_self hp
theorem cut_exact (neg : Bool) {n D : Nat} (hn : n ≠ 0) : Toward.even.cut neg (n * 2 ^ D) D = n := by
  have hp : 0 < 2 ^ D := Nat.two_pow_pos _
  have hl := log2_shift hn D
  unfold Toward.cut
  dsimp only
  rw [Nat.min_eq_left (by omega), Nat.shiftLeft_eq, Nat.one_mul, Nat.mul_div_cancel _ hp, Nat.mul_mod_left]
  have h1 : decide (2 ^ D < 2 * 0) = false := decide_eq_false (by omega)
  have h2 : (2 ^ D == 2 * 0) = false := by simp
  rw [h1, h2]; rfl
theorem nearest_shift (f : Format) (neg : Bool) {m j : Nat} {place : Int} (hm : m ≠ 0) (h1 : m.log2 ≤ f.fractionBits) (h2 : f.leastPlace ≤ place + j) : f.nearest neg (m * 2 ^ j) place = f.nearest neg m (place + j) := by
  have hp : 0 < 2 ^ j := Nat.two_pow_pos _
  unfold Format.nearest
  rw [if_neg hm, if_neg (Nat.mul_ne_zero hm (by omega))]
  dsimp only
  rw [log2_shift hm]
  have e1 : max (place + ((m.log2 + j : Nat) : Int) - f.fractionBits) f.leastPlace = max (place + (j : Int) + m.log2 - f.fractionBits) f.leastPlace := by congr 1; omega
  rw [e1]
  obtain ⟨last, hlast⟩ : ∃ x, x = max (place + (j : Int) + m.log2 - f.fractionBits) f.leastPlace := ⟨_, rfl⟩
  rw [← hlast]
  have hle : last ≤ place + j := by omega
  have hz : (last - (place + (j : Int))).toNat = 0 := by omega
  rw [hz, cut_zero, Nat.shiftLeft_eq, Nat.shiftLeft_eq]
  congr 2
  by_cases hc : last ≤ place
  · have hz2 : (last - place).toNat = 0 := by omega
    have e3 : j + (place - last).toNat = (place + (j : Int) - last).toNat := by omega
    rw [hz2, cut_zero, Nat.mul_assoc, ← Nat.pow_add, e3]
  · obtain ⟨D, hD⟩ : ∃ D, D = (last - place).toNat := ⟨_, rfl⟩
    have hz2 : (place - last).toNat = 0 := by omega
    rw [hz2, ← hD, Nat.pow_zero, Nat.mul_one]
    have e2 : m * 2 ^ j = m * 2 ^ (place + (j : Int) - last).toNat * 2 ^ D := by
      have e3 : (place + (j : Int) - last).toNat + D = j := by omega
      rw [Nat.mul_assoc, ← Nat.pow_add, e3]
    rw [e2, cut_exact]
    exact Nat.mul_ne_zero hm (Nat.pos_iff_ne_zero.1 (Nat.two_pow_pos _))
theorem read_zero (f : Format) (neg : Bool) (place : Int) : f.read (f.nearest neg 0 place) = .number neg 0 f.leastPlace := by
  unfold Format.nearest
  rw [if_pos rfl]
  have hw := word_read f neg (r := 0) (Nat.two_pow_pos _)
  unfold Format.read
  dsimp only
  rw [hw.1, hw.2, if_pos (show 0 < f.binade from Nat.two_pow_pos _)]
end Go.Abs
namespace Go.Abs
open Ieee

def sgN (s : Bool) (m : Nat) : Int := if s then -(m : Int) else m
/-- The value of a number, in parts of 2 ^ -1200. -/
def vl : Datum → Int
  | .number s m e => sgN s m * 2 ^ (e + 1200).toNat
  | _ => 0
theorem sgN_mul (s : Bool) (m n : Nat) : sgN s (m * n) = sgN s m * n := by
  cases s <;> simp [sgN, Int.neg_mul]
theorem signed_eq (s : Bool) (m u : Nat) : signed s m u = sgN s m * 2 ^ u := by
  unfold signed
  rw [Nat.shiftLeft_eq]
  cases s <;> simp [sgN, Int.neg_mul]
theorem cmp_int (a b : Int) : compare a b = if a < b then .lt else if a = b then .eq else .gt := rfl
theorem cmp_mul {a b c : Int} (hc : 0 < c) : compare (a * c) (b * c) = compare a b := by
  rw [cmp_int, cmp_int]
  by_cases h1 : a < b
  · rw [if_pos h1, if_pos (Int.mul_lt_mul_of_pos_right h1 hc)]
  · rw [if_neg h1, if_neg (fun z => h1 (Int.lt_of_mul_lt_mul_right z (Int.le_of_lt hc)))]
    by_cases h2 : a = b
    · rw [if_pos h2, if_pos (by rw [h2])]
    · rw [if_neg h2, if_neg (fun z => h2 (Int.eq_of_mul_eq_mul_right (by omega) z))]
theorem two_pos (n : Nat) : (0 : Int) < 2 ^ n := Int.pow_pos (by decide)
theorem vl_base {s : Bool} {m : Nat} {i b : Int} (hb : b ≤ i) (h0 : -1200 ≤ b) : vl (.number s m i) = signed s m (i - b).toNat * 2 ^ (b + 1200).toNat := by
  rw [signed_eq, Int.mul_assoc, ← Int.pow_add]
  show sgN s m * 2 ^ (i + 1200).toNat = _
  congr 2
  omega
theorem ord_vl {s t : Bool} {m n : Nat} {i j : Int} (hi : -1200 ≤ i) (hj : -1200 ≤ j) : (Datum.number s m i).order (.number t n j) = some (compare (vl (.number s m i)) (vl (.number t n j))) := by
  rw [vl_base (b := min i j) (by omega) (by omega), vl_base (s := t) (b := min i j) (by omega) (by omega), cmp_mul (two_pos _)]
  rfl
/-- A float that is a number of this value. -/
def Num (k : FloatKind) (b : Nat) (v : Int) : Prop := ∃ s m e, k.format.read b = .number s m e ∧ -1200 ≤ e ∧ v = vl (.number s m e)
theorem num_ord {k a b u v} (ha : Num k a u) (hb : Num k b v) : k.format.order a b = some (compare u v) := by
  obtain ⟨s, m, e, h1, h2, rfl⟩ := ha
  obtain ⟨t, n, d, h3, h4, rfl⟩ := hb
  unfold Format.order
  rw [h1, h3]; exact ord_vl h2 h4
theorem cmp_lt (u v : Int) : (some (compare u v) == some Ordering.lt) = decide (u < v) := by
  rw [cmp_int]
  by_cases h1 : u < v
  · rw [if_pos h1, decide_eq_true h1]; rfl
  · rw [if_neg h1, decide_eq_false h1]
    split <;> rfl
theorem cmp_eq (u v : Int) : (some (compare u v) == some Ordering.eq) = decide (u = v) := by
  rw [cmp_int]
  by_cases h1 : u < v
  · rw [if_pos h1, decide_eq_false (by omega)]; rfl
  · rw [if_neg h1]
    by_cases h2 : u = v
    · rw [if_pos h2, decide_eq_true h2]; rfl
    · rw [if_neg h2, decide_eq_false h2]; rfl
theorem cmp_gt (u v : Int) : (some (compare u v) == some Ordering.gt) = decide (v < u) := by
  rw [cmp_int]
  by_cases h1 : u < v
  · rw [if_pos h1, decide_eq_false (by omega)]; rfl
  · rw [if_neg h1]
    by_cases h2 : u = v
    · rw [if_pos h2, decide_eq_false (by omega)]; rfl
    · rw [if_neg h2, decide_eq_true (by omega)]; rfl
section
variable {k : FloatKind} {a b : Nat} {u v : Int} (ha : Num k a u) (hb : Num k b v)
include ha hb
theorem num_lss : binK .lss (.flt k a) (.flt k b) = some (.bool (decide (u < v))) := by
  simp only [binK, if_true, fltBin, num_ord ha hb, cmp_lt]
theorem num_gtr : binK .gtr (.flt k a) (.flt k b) = some (.bool (decide (v < u))) := by
  simp only [binK, if_true, fltBin, num_ord ha hb, cmp_gt]
theorem num_eql : binK .eql (.flt k a) (.flt k b) = some (.bool (decide (u = v))) := by
  simp only [binK, if_true, fltBin, num_ord ha hb, cmp_eq]
theorem num_neq : binK .neq (.flt k a) (.flt k b) = some (.bool (decide (u ≠ v))) := by
  simp only [binK, if_true, fltBin, num_ord ha hb, bne, cmp_eq]
  by_cases h : u = v <;> simp [h]
theorem num_leq : binK .leq (.flt k a) (.flt k b) = some (.bool (decide (u ≤ v))) := by
  simp only [binK, if_true, fltBin, num_ord ha hb, cmp_lt, cmp_eq]
  congr 2
  by_cases h : u < v
  · simp [h, Int.le_of_lt h]
  · by_cases h2 : u = v
    · simp [h2]
    · rw [decide_eq_false h, decide_eq_false h2, decide_eq_false (by omega)]; rfl
end
/-- A number that the format has. -/
def ExF (f : Format) (m : Nat) (i : Int) : Prop := m = 0 ∨ ∃ m' j : Nat, m = m' * 2 ^ j ∧ m' ≠ 0 ∧ m'.log2 ≤ f.fractionBits ∧ f.leastPlace ≤ i + j ∧ i + j + m'.log2 - f.fractionBits - f.leastPlace + 3 ≤ (2 ^ f.exponentBits : Nat)
theorem least_ge (k : FloatKind) : -1200 ≤ k.format.leastPlace := by cases k <;> decide
theorem exp_ge (k : FloatKind) : 2 ≤ k.format.exponentBits := by cases k <;> decide
theorem num_write {k : FloatKind} {s : Bool} {m : Nat} {i : Int} (hi : -1200 ≤ i) (h : ExF k.format m i) : Num k (k.format.write (.number s m i)) (vl (.number s m i)) := by
  have hl := least_ge k
  show Num k (k.format.nearest s m i) _
  rcases h with rfl | ⟨m', j, rfl, h1, h2, h3, h4⟩
  · exact ⟨s, 0, _, read_zero _ _ _, hl, by cases s <;> simp [vl, sgN]⟩
  · rw [nearest_shift _ _ h1 h2 h3]
    obtain ⟨q, h5, h6⟩ := read_nearest k.format s h1 h2 h3 h4 (exp_ge k)
    refine ⟨s, _, _, h6, by omega, ?_⟩
    show sgN s (m' * 2 ^ j) * 2 ^ (i + 1200).toNat = sgN s (m' * 2 ^ q) * 2 ^ (i + j - q + 1200).toNat
    rw [sgN_mul, sgN_mul, Int.mul_assoc, Int.mul_assoc]
    congr 1
    have e : ∀ a b : Nat, ((2 ^ a : Nat) : Int) * 2 ^ b = 2 ^ (a + b) := fun a b => by rw [Int.natCast_pow, Int.pow_add]; rfl
    rw [e, e]
    congr 1
    omega
end Go.Abs
namespace Go.Abs
open Ieee

theorem read_fin {f : Format} {w : Nat} {s m e} (h : f.read w = .number s m e) : m < 2 * f.binade ∧ f.leastPlace ≤ e := by
  have hp : 0 < f.binade := Nat.two_pow_pos _
  unfold Format.read at h
  dsimp only at h
  split at h
  · cases h; exact ⟨by omega, Int.le_refl _⟩
  · split at h
    · cases h
      have := Nat.mod_lt (w % f.signWeight) hp
      exact ⟨by omega, by omega⟩
    · split at h <;> cases h
theorem log_fin {f : Format} {w : Nat} {s m e} (h : f.read w = .number s m e) (hm : m ≠ 0) : m.log2 ≤ f.fractionBits := by
  have h1 := (read_fin h).1
  have h2 := Nat.log2_self_le hm
  have e : 2 * f.binade = 2 ^ (f.fractionBits + 1) := by rw [Nat.pow_succ]; show 2 * 2 ^ f.fractionBits = _; omega
  rw [e] at h1
  have := (Nat.pow_lt_pow_iff_right (a := 2) (by decide)).1 (Nat.lt_of_le_of_lt h2 h1)
  omega
def bU : Nat := 1200
theorem bU_eq : (bU : Int) = 1200 := rfl
def UU : Int := 2 ^ bU
theorem UU_pos : 0 < UU := two_pos _
theorem vl_at {s : Bool} {m : Nat} {e : Int} (he : 0 ≤ e) : vl (.number s m e) = sgN s m * 2 ^ e.toNat * UU := by
  show sgN s m * 2 ^ (e + 1200).toNat = _
  have h1 := bU_eq
  have h2 : (e + 1200).toNat = e.toNat + bU := by omega
  rw [Int.mul_assoc, UU, ← Int.pow_add, h2]
theorem sgN_int (n : Int) : sgN (decide (n < 0)) n.natAbs = n := by
  by_cases h : n < 0
  · rw [decide_eq_true h]; unfold sgN; simp only [if_true]; omega
  · rw [decide_eq_false h]; unfold sgN; simp only [Bool.false_eq_true, if_false]; omega
/-- An integer as a float. -/
theorem num_int {k : FloatKind} {n : Int} (h : n.natAbs < 2 ^ (k.format.fractionBits + 1)) : Num k (k.nearest n) (n * UU) := by
  have hx : ExF k.format n.natAbs 0 := by
    by_cases hz : n.natAbs = 0
    · exact .inl hz
    · have h2 := Nat.log2_self_le hz
      have := (Nat.pow_lt_pow_iff_right (a := 2) (by decide)).1 (Nat.lt_of_le_of_lt h2 h)
      refine .inr ⟨n.natAbs, 0, by simp, hz, by omega, ?_, ?_⟩
      · cases k <;> decide
      · cases k
        · have e1 : FloatKind.f32.format.fractionBits = 23 := rfl
          have e2 : FloatKind.f32.format.leastPlace = -149 := by decide
          have e3 : (2 ^ FloatKind.f32.format.exponentBits : Nat) = 256 := by decide
          rw [e1, e2, e3]; rw [e1] at this; omega
        · have e1 : FloatKind.f64.format.fractionBits = 52 := rfl
          have e2 : FloatKind.f64.format.leastPlace = -1074 := by decide
          have e3 : (2 ^ FloatKind.f64.format.exponentBits : Nat) = 2048 := by decide
          rw [e1, e2, e3]; rw [e1] at this; omega
  have := num_write (s := decide (n < 0)) (by omega) hx
  rw [vl_at (Int.le_refl 0), sgN_int] at this
  simp only [Int.toNat_zero, Int.pow_zero, Int.mul_one] at this
  exact this
/-- A float cut to an integer. -/
theorem toInt_vl {s : Bool} {m : Nat} {e : Int} (h0 : -1200 ≤ e) : (Datum.number s m e).toInt .zero = some ((vl (.number s m e)).tdiv UU) := by
  have hz : ∀ n d : Nat, Toward.zero.cut s n d = n / 2 ^ d := fun n d => by
    unfold Toward.cut
    dsimp only
    rw [Nat.shiftLeft_eq, Nat.one_mul]
    show _ + 0 = _
    rw [Nat.add_zero]
    by_cases hd : d ≤ n.log2 + 2
    · rw [Nat.min_eq_left hd]
    · rw [Nat.min_eq_right (by omega)]
      have a1 : n < 2 ^ (n.log2 + 2) := Nat.lt_of_lt_of_le Nat.lt_log2_self (Nat.pow_le_pow_right (by decide) (by omega))
      have a2 : n < 2 ^ d := Nat.lt_of_lt_of_le a1 (Nat.pow_le_pow_right (by decide) (by omega))
      rw [Nat.div_eq_of_lt a1, Nat.div_eq_of_lt a2]
  have key : ∀ q : Nat, signed s q 0 = sgN s q := fun q => by rw [signed_eq, Int.pow_zero, Int.mul_one]
  unfold Datum.toInt Datum.integral
  dsimp only
  rw [hz, key, Nat.shiftLeft_eq]
  congr 1
  have hU : UU ≠ 0 := by have := UU_pos; omega
  by_cases he : 0 ≤ e
  · rw [vl_at he, Int.mul_tdiv_cancel _ hU, show (-e).toNat = 0 by omega, Nat.pow_zero, Nat.div_one, sgN_mul, Int.natCast_pow]; rfl
  · have e1 : UU = 2 ^ (e + 1200).toNat * 2 ^ (-e).toNat := by
      have h1 := bU_eq
      have h2 : (e + 1200).toNat + (-e).toNat = bU := by omega
      rw [UU, ← Int.pow_add, h2]
    have e2 : vl (.number s m e) = sgN s m * 2 ^ (e + 1200).toNat := rfl
    rw [e2, e1, Int.mul_comm (sgN s m), Int.mul_tdiv_mul_of_pos _ _ (two_pos _), show e.toNat = 0 by omega, Nat.pow_zero, Nat.mul_one]
    have hc : ((2 ^ (-e).toNat : Nat) : Int) = 2 ^ (-e).toNat := by rw [Int.natCast_pow]; rfl
    cases s
    · show ((m / 2 ^ (-e).toNat : Nat) : Int) = (m : Int).tdiv _
      rw [← hc, ← Int.ofNat_tdiv]
    · show -((m / 2 ^ (-e).toNat : Nat) : Int) = (-(m : Int)).tdiv _
      rw [← hc, Int.neg_tdiv, ← Int.ofNat_tdiv]
theorem num_toInt {k b v} (h : Num k b v) : (k.decode b).toInt .zero = some (v.tdiv UU) := by
  obtain ⟨s, m, e, h1, h2, rfl⟩ := h
  show (k.format.read b).toInt .zero = _
  rw [h1]; exact toInt_vl h2
theorem num_nan {k b v} (h : Num k b v) : nanB k b = false := by
  obtain ⟨s, m, e, h1, _, _⟩ := h
  rw [nanB_isNaN, h1]; rfl
/-- A float less itself. -/
theorem sub_self {k b v} (h : Num k b v) : binK .sub (.flt k b) (.flt k b) = some (.flt k 0) := by
  obtain ⟨s, m, e, h1, _, _⟩ := h
  have : k.format.sub b b = some 0 := by
    unfold Format.sub
    rw [h1]
    have hs : (Datum.number s m e).sum (Datum.number s m e).opposite = some (.number false 0 e) := by
      unfold Datum.opposite Datum.sum
      dsimp only
      have ht : signed s m (e - min e e).toNat + signed (!s) m (e - min e e).toNat = 0 := by
        rw [signed_eq, signed_eq]
        cases s <;> simp [sgN] <;> omega
      rw [ht]
      cases s <;> simp
    rw [hs]
    show some (k.format.nearest false 0 e) = some 0
    unfold Format.nearest
    rw [if_pos rfl]; rfl
  simp only [binK, if_true, fltBin, this, fltRes]
end Go.Abs
namespace Go.Abs
open Ieee

theorem read_fin2 {f : Format} {w : Nat} {s m e} (h : f.read w = .number s m e) (h2 : 2 ≤ f.exponentBits) : e - f.leastPlace + 3 ≤ (2 ^ f.exponentBits : Nat) := by
  have hp : 0 < f.binade := Nat.two_pow_pos _
  have hp4 : 4 ≤ 2 ^ f.exponentBits := Nat.pow_le_pow_right (n := 2) (by decide) h2
  unfold Format.read at h
  dsimp only at h
  split at h
  · cases h; omega
  · split at h
    · rename_i h3
      cases h
      have e1 : f.infRung = (2 ^ f.exponentBits - 1) * f.binade := rfl
      rw [e1] at h3
      have := (Nat.div_lt_iff_lt_mul hp).2 h3
      omega
    · split at h <;> cases h
def c16 : FloatKind → Nat
  | .f32 => 1098907648
  | .f64 => 4625196817309499392
theorem read_c16 (k : FloatKind) : k.format.read (c16 k) = .number false (2 ^ k.format.fractionBits) (4 - (k.format.fractionBits : Int)) := by cases k <;> decide
theorem sgN_abs (s : Bool) (m : Nat) : (sgN s m).natAbs = m := by cases s <;> simp [sgN]
theorem abs_pow (n : Nat) : ((2 : Int) ^ n).natAbs = 2 ^ n := by rw [Int.natAbs_pow]; rfl
theorem vl_abs (s : Bool) (m : Nat) (e : Int) : (vl (.number s m e)).natAbs = m * 2 ^ (e + 1200).toNat := by
  show (sgN s m * 2 ^ (e + 1200).toNat).natAbs = _
  rw [Int.natAbs_mul, sgN_abs, abs_pow]
theorem UU_abs : UU.natAbs = 2 ^ bU := abs_pow _
theorem pow_le' {a b : Nat} (h : 2 ^ a ≤ 2 ^ b) : a ≤ b := (Nat.pow_le_pow_iff_right (a := 2) (by decide)).1 h
theorem pow_lt' {a b : Nat} (h : 2 ^ a < 2 ^ b) : a < b := (Nat.pow_lt_pow_iff_right (a := 2) (by decide)).1 h
/-- How great a number is, by its parts. -/
theorem vl_le {s m e} (hm : m ≠ 0) (he : -1200 ≤ e) {c : Nat} (h : (vl (.number s m e)).natAbs ≤ 2 ^ c * UU.natAbs) : e + m.log2 ≤ c := by
  rw [vl_abs, UU_abs, ← Nat.pow_add] at h
  have h2 : 2 ^ m.log2 * 2 ^ (e + 1200).toNat ≤ m * 2 ^ (e + 1200).toNat := Nat.mul_le_mul_right _ (Nat.log2_self_le hm)
  rw [← Nat.pow_add] at h2
  have := pow_le' (Nat.le_trans h2 h)
  have h1 := bU_eq
  omega
theorem vl_ge {s m e} (he : -1200 ≤ e) (h : UU.natAbs ≤ (vl (.number s m e)).natAbs) : 0 ≤ e + m.log2 := by
  rw [vl_abs, UU_abs] at h
  have h2 : m * 2 ^ (e + 1200).toNat < 2 ^ (m.log2 + 1) * 2 ^ (e + 1200).toNat := Nat.mul_lt_mul_of_pos_right Nat.lt_log2_self (Nat.two_pow_pos _)
  rw [← Nat.pow_add] at h2
  have := pow_lt' (Nat.lt_of_le_of_lt h h2)
  have h1 := bU_eq
  omega
theorem fmt_facts (k : FloatKind) : (k.format.fractionBits = 23 ∧ k.format.leastPlace = -149 ∧ (2 ^ k.format.exponentBits : Nat) = 256) ∨ (k.format.fractionBits = 52 ∧ k.format.leastPlace = -1074 ∧ (2 ^ k.format.exponentBits : Nat) = 2048) := by
  cases k
  · exact .inl ⟨rfl, by decide, by decide⟩
  · exact .inr ⟨rfl, by decide, by decide⟩
theorem vl_scale {s : Bool} {m j : Nat} {i i' : Int} (h0 : -1200 ≤ i) (hi : i + j = i') : vl (.number s (m * 2 ^ j) i) = vl (.number s m i') := by
  show sgN s (m * 2 ^ j) * 2 ^ (i + 1200).toNat = sgN s m * 2 ^ (i' + 1200).toNat
  rw [sgN_mul, Int.natCast_pow, Int.mul_assoc]
  have e : (i' + 1200).toNat = j + (i + 1200).toNat := by omega
  rw [e, Int.pow_add]; rfl
theorem vl_up {s : Bool} {m : Nat} {i : Int} (h0 : -1200 ≤ i) : vl (.number s m (i + 4)) = 16 * vl (.number s m i) := by
  show sgN s m * 2 ^ (i + 4 + 1200).toNat = 16 * (sgN s m * 2 ^ (i + 1200).toNat)
  have e : (i + 4 + 1200).toNat = (i + 1200).toNat + 4 := by omega
  rw [e, Int.pow_add, ← Int.mul_assoc, Int.mul_comm]; rfl
/-- A product by 16. -/
theorem mul16 {k b v} (h : Num k b v) (hv : v.natAbs ≤ 2 ^ 10 * UU.natAbs) : ∃ q, binK .mul (.flt k b) (.flt k (c16 k)) = some (.flt k q) ∧ binK .mul (.flt k (c16 k)) (.flt k b) = some (.flt k q) ∧ Num k q (16 * v) := by
  obtain ⟨s, m, e, h1, h2, rfl⟩ := h
  have hc := read_c16 k
  have hf := fmt_facts k
  have hl := (read_fin h1).2
  obtain ⟨F, hF⟩ : ∃ F, F = k.format.fractionBits := ⟨_, rfl⟩
  have p1 : k.format.mul b (c16 k) = some (k.format.write (.number s (m * 2 ^ F) (e + (4 - (F : Int))))) := by
    unfold Format.mul; rw [h1, hc, ← hF]; simp [Datum.product]
  have p2 : k.format.mul (c16 k) b = some (k.format.write (.number s (m * 2 ^ F) (e + (4 - (F : Int))))) := by
    unfold Format.mul; rw [h1, hc, ← hF]; simp [Datum.product, Nat.mul_comm, Int.add_comm]
  refine ⟨k.format.write (.number s (m * 2 ^ F) (e + (4 - (F : Int)))), ?_, ?_, ?_⟩
  · simp only [binK, if_true, fltBin, p1, fltRes]
  · simp only [binK, if_true, fltBin, p2, fltRes]
  · have hx : ExF k.format (m * 2 ^ F) (e + (4 - (F : Int))) := by
      by_cases hm : m = 0
      · exact .inl (by rw [hm, Nat.zero_mul])
      · have hb := vl_le hm h2 hv
        exact .inr ⟨m, F, rfl, hm, log_fin h1 hm, by omega, by omega⟩
    have := num_write (k := k) (s := s) (by omega) hx
    rw [vl_scale (i' := e + 4) (by omega) (by omega), vl_up h2] at this
    exact this
/-- A quotient by 16. -/
theorem quo16 {k b v} (h : Num k b v) (hv : v = 0 ∨ UU.natAbs ≤ v.natAbs) : ∃ q w, binK .quo (.flt k b) (.flt k (c16 k)) = some (.flt k q) ∧ Num k q w ∧ 16 * w = v := by
  obtain ⟨s, m, e, h1, h2, rfl⟩ := h
  have hc := read_c16 k
  have hf := fmt_facts k
  have hl := (read_fin h1).2
  have hu := read_fin2 h1 (exp_ge k)
  obtain ⟨F, hF⟩ : ∃ F, F = k.format.fractionBits := ⟨_, rfl⟩
  have hp : 0 < 2 ^ F := Nat.two_pow_pos _
  by_cases hm : m = 0
  · subst hm
    have p1 : k.format.div b (c16 k) = some (k.format.write (.number s 0 (e - (4 - (F : Int)) - ((F + 2 + (2 ^ F).log2 : Nat) : Int) - 1))) := by
      unfold Format.div; rw [h1, hc, ← hF]
      show Option.map k.format.write (if 2 ^ F = 0 then _ else _) = _
      rw [if_neg (by omega)]
      simp [Nat.shiftLeft_eq]
    refine ⟨_, _, by simp only [binK, if_true, fltBin, p1, fltRes]; rfl, num_write ?_ (.inl rfl), by simp [vl, sgN]⟩
    have : (2 ^ F).log2 = F := Nat.log2_two_pow
    omega
  · have hlm := log_fin h1 hm
    have hlF : (2 ^ F).log2 = F := Nat.log2_two_pow
    obtain ⟨t, ht⟩ : ∃ t, t = F + 2 - m.log2 := ⟨_, rfl⟩
    have hmore : F + 2 + (2 ^ F).log2 - m.log2 = t + F := by omega
    have p1 : k.format.div b (c16 k) = some (k.format.write (.number s (m * 2 ^ (t + 1)) (e - (4 - (F : Int)) - ((t + F : Nat) : Int) - 1))) := by
      unfold Format.div; rw [h1, hc, ← hF]
      show Option.map k.format.write (if 2 ^ F = 0 then _ else _) = _
      rw [if_neg (by omega)]
      rw [hmore, Nat.shiftLeft_eq, Nat.pow_add, ← Nat.mul_assoc, Nat.mul_div_cancel _ hp, Nat.mul_mod_left]
      have e2 : 2 * (m * 2 ^ t) + ((0 : Nat) != 0).toNat = m * 2 ^ (t + 1) := by
        rw [Nat.pow_succ]
        show 2 * (m * 2 ^ t) + 0 = _
        rw [Nat.add_zero, Nat.mul_comm 2, Nat.mul_assoc]
      rw [e2]
      simp
    have hx : ExF k.format (m * 2 ^ (t + 1)) (e - (4 - (F : Int)) - ((t + F : Nat) : Int) - 1) := by
      have hg : UU.natAbs ≤ (vl (.number s m e)).natAbs := by
        rcases hv with hv | hv
        · have h3 := vl_abs s m e
          rw [hv] at h3
          have : 0 < m * 2 ^ (e + 1200).toNat := Nat.mul_pos (by omega) (Nat.two_pow_pos _)
          simp at h3
          omega
        · exact hv
      have hb := vl_ge h2 hg
      exact .inr ⟨m, t + 1, rfl, hm, hlm, by omega, by omega⟩
    refine ⟨_, _, by simp only [binK, if_true, fltBin, p1, fltRes]; rfl, num_write (by omega) hx, ?_⟩
    rw [vl_scale (i' := e - 4) (by omega) (by omega), ← vl_up (by omega), show e - 4 + 4 = e by omega]
end Go.Abs
namespace Go.Abs
open Ieee

/-- What a float is. -/
theorem flt_cases (k : FloatKind) (b : Nat) : (∃ v, Num k b v) ∨ (∃ t, k.format.read b = .infinity t) ∨ ∃ s t, k.format.read b = .nan s t := by
  cases h : k.format.read b with
  | number s m e => exact .inl ⟨_, s, m, e, h, by have := (read_fin h).2; have := least_ge k; omega, rfl⟩
  | infinity t => exact .inr (.inl ⟨t, rfl⟩)
  | nan s t => exact .inr (.inr ⟨s, t, rfl⟩)
/-- The greatest a number of the lesser format is. -/
theorem num32_bd {b v} (h : Num .f32 b v) : v.natAbs ≤ 2 ^ 128 * UU.natAbs := by
  obtain ⟨s, m, e, h1, h2, rfl⟩ := h
  have hu := read_fin2 h1 (exp_ge .f32)
  have hm := (read_fin h1).1
  rw [vl_abs, UU_abs, ← Nat.pow_add]
  rcases fmt_facts .f32 with ⟨f1, f2, f3⟩ | ⟨f1, _, _⟩
  · have e1 : 2 * FloatKind.f32.format.binade = 2 ^ 24 := by decide
    rw [e1] at hm
    have h3 : m * 2 ^ (e + 1200).toNat ≤ 2 ^ 24 * 2 ^ (e + 1200).toNat := Nat.mul_le_mul_right _ (by omega)
    rw [← Nat.pow_add] at h3
    refine Nat.le_trans h3 (Nat.pow_le_pow_right (by decide) ?_)
    have h1 := bU_eq
    omega
  · cases f1
/-- The lesser format's number in the greater one. -/
theorem num_f2f {b v} (h : Num .f32 b v) : ∃ q, (∀ {G : Nat → Option ABlk} {N : Nat}, convT (.f2f .f64) (.flt .f32 b) G N = some (.flt .f64 q, .keep)) ∧ Num .f64 q v := by
  obtain ⟨s, m, e, h1, h2, rfl⟩ := h
  have hu := read_fin2 h1 (exp_ge .f32)
  have hl := (read_fin h1).2
  have hx : ExF FloatKind.f64.format m e := by
    by_cases hm : m = 0
    · exact .inl hm
    · have hlm := log_fin h1 hm
      rcases fmt_facts .f32 with ⟨f1, f2, f3⟩ | ⟨f1, _, _⟩
      · rcases fmt_facts .f64 with ⟨g1, _, _⟩ | ⟨g1, g2, g3⟩
        · cases g1
        · exact .inr ⟨m, 0, by simp, hm, by omega, by omega, by omega⟩
      · cases f1
  have hn := num_write (k := .f64) (s := s) h2 hx
  refine ⟨FloatKind.f64.encode (.number s m e), fun {G N} => ?_, hn⟩
  have hd : FloatKind.f32.decode b = .number s m e := h1
  obtain ⟨s', m', e', h3, _, _⟩ := hn
  have h3 : FloatKind.f64.decode (FloatKind.f64.encode (.number s m e)) = .number s' m' e' := h3
  unfold convT
  simp only [hd]
  rw [if_neg (by decide), h3]
  rfl
theorem inf_f2f {b t} (h : FloatKind.f32.format.read b = .infinity t) : ∃ q, (∀ {G : Nat → Option ABlk} {N : Nat}, convT (.f2f .f64) (.flt .f32 b) G N = some (.flt .f64 q, .keep)) ∧ FloatKind.f64.format.read q = .infinity t := by
  have hd : FloatKind.f32.decode b = .infinity t := h
  refine ⟨FloatKind.f64.encode (.infinity t), fun {G N} => ?_, by cases t <;> decide⟩
  unfold convT
  simp only [hd]
  rw [if_neg (by decide)]
theorem nan_f2f {b s t} (h : FloatKind.f32.format.read b = .nan s t) {G : Nat → Option ABlk} {N : Nat} : convT (.f2f .f64) (.flt .f32 b) G N = some (.flt .f64 (qnan .f64), .keep) := by
  have hd : FloatKind.f32.decode b = .nan s t := h
  unfold convT
  simp only [hd]
  rw [if_neg (by decide)]
/-- Without its sign. -/
theorem absB_eq (b : Nat) : absB b = b % 2 ^ 63 := by
  have h1 : (BitVec.ofInt 64 (b : Int) &&& ~~~ BitVec.ofInt 64 9223372036854775808).toNat = b % 2 ^ 63 := by
    have h2 : (~~~ BitVec.ofInt 64 9223372036854775808) = BitVec.ofNat 64 (2 ^ 63 - 1) := by decide
    rw [h2, BitVec.toNat_and, BitVec.toNat_ofNat, Nat.mod_eq_of_lt (show 2 ^ 63 - 1 < 2 ^ 64 by decide), Nat.and_two_pow_sub_one_eq_mod]
    rw [show (BitVec.ofInt 64 (b : Int)).toNat = b % 2 ^ 64 by simp]
    exact Nat.mod_mod_of_dvd b ⟨2, by decide⟩
  unfold absB
  rw [h1]
  have := Nat.mod_lt b (show 0 < 2 ^ 63 by decide)
  have hw : IntKind.u64.wrap ((b % 2 ^ 63 : Nat) : Int) = ((b % 2 ^ 63 : Nat) : Int) := by
    unfold IntKind.wrap
    simp only [IntKind.signed, IntKind.bits, Bool.false_and, Bool.false_eq_true, if_false]
    exact Int.emod_eq_of_lt (by omega) (by omega)
  rw [hw]; omega
theorem absB_read (b : Nat) : FloatKind.f64.format.read (absB b) = match FloatKind.f64.format.read b with
    | .number _ m e => .number false m e
    | .infinity _ => .infinity false
    | .nan _ t => .nan false t := by
  have hw : FloatKind.f64.format.signWeight = 2 ^ 63 := by decide
  have hn : (b % 2 ^ 63) / 2 ^ 63 % 2 = 0 := by rw [Nat.div_eq_of_lt (Nat.mod_lt b (by decide))]
  have hm : (b % 2 ^ 63) % 2 ^ 63 = b % 2 ^ 63 := Nat.mod_mod _ _
  rw [absB_eq]
  unfold Format.read
  dsimp only
  rw [hw, hn, hm]
  split
  · rfl
  · split
    · rfl
    · split <;> rfl
theorem num_abs {b v} (h : Num .f64 b v) : Num .f64 (absB b) v.natAbs := by
  obtain ⟨s, m, e, h1, h2, rfl⟩ := h
  refine ⟨false, m, e, by rw [absB_read, h1], h2, ?_⟩
  rw [vl_abs]
  show ((m * 2 ^ (e + 1200).toNat : Nat) : Int) = (m : Int) * 2 ^ (e + 1200).toNat
  rw [Int.natCast_mul, Int.natCast_pow]; rfl
/-- The greatest number of the greater format. -/
theorem max64 : ∃ w : Int, Num .f64 9218868437227405311 w ∧ ∀ v : Int, v.natAbs ≤ 2 ^ 128 * UU.natAbs → ¬ w < v.natAbs := by
  refine ⟨_, ⟨false, 9007199254740991, 971, by decide, by decide, rfl⟩, fun v hv => ?_⟩
  obtain ⟨E, hE⟩ : ∃ E : Nat, E = (971 + 1200 : Int).toNat := ⟨_, rfl⟩
  have h1 : vl (.number false 9007199254740991 971) = ((9007199254740991 * 2 ^ E : Nat) : Int) := by
    have := vl_abs false 9007199254740991 971
    rw [← hE] at this
    rw [← this]
    show vl _ = _
    have h3 : 0 ≤ vl (.number false 9007199254740991 971) := by
      show 0 ≤ ((9007199254740991 : Nat) : Int) * 2 ^ (971 + 1200 : Int).toNat
      exact Int.mul_nonneg (by omega) (Int.le_of_lt (two_pos _))
    omega
  rw [h1]
  rw [UU_abs, ← Nat.pow_add] at hv
  have hle : 128 + bU ≤ E := by rw [hE]; decide
  have h4 : (2 : Nat) ^ (128 + bU) ≤ 2 ^ E := Nat.pow_le_pow_right (by decide) hle
  have h5 : 2 ^ E ≤ 9007199254740991 * 2 ^ E := Nat.le_mul_of_pos_left _ (by decide)
  generalize (9007199254740991 * 2 ^ E : Nat) = A at h5
  generalize (2 : Nat) ^ E = B at h4 h5
  generalize (2 : Nat) ^ (128 + bU) = C at hv h4
  omega
/-- A sum's parts downwards. -/
theorem down_cut (s : Bool) (n d : Nat) : sgN s (Toward.down.cut s n d) = sgN s n / ((2 ^ d : Nat) : Int) := by
  have hp : 0 < 2 ^ d := Nat.two_pow_pos _
  have key : ∀ g : Nat, 0 < g → sgN s (n / g + (s && n % g != 0).toNat) = sgN s n / (g : Int) := fun g hg => by
    cases s
    · simp [sgN]
    · by_cases hr : n % g = 0
      · rw [hr]
        have e : n = g * (n / g) := by have := Nat.div_add_mod n g; omega
        show -((n / g + 0 : Nat) : Int) = -(n : Int) / g
        rw [Nat.add_zero]
        obtain ⟨q, hq⟩ : ∃ q, q = n / g := ⟨_, rfl⟩
        rw [← hq] at e ⊢
        rw [e, Int.natCast_mul, Int.mul_comm, ← Int.neg_mul, Int.mul_ediv_cancel _ (by omega)]
      · have hb : (n % g != 0) = true := by simp [hr]
        rw [hb]
        show -((n / g + 1 : Nat) : Int) = -(n : Int) / g
        have e := Nat.div_add_mod n g
        have hl := Nat.mod_lt n hg
        obtain ⟨q, hq⟩ : ∃ q, q = n / g := ⟨_, rfl⟩
        obtain ⟨r, hr2⟩ : ∃ r, r = n % g := ⟨_, rfl⟩
        rw [← hq, ← hr2] at e
        rw [← hr2] at hr hl
        rw [← hq]
        have e2 : -(n : Int) = (g - r : Nat) + (-((q + 1 : Nat) : Int)) * g := by
          have : (n : Int) = g * q + r := by rw [← e]; simp
          have h3 : ((g - r : Nat) : Int) = g - r := by omega
          rw [this, h3, Int.natCast_add, Int.neg_mul, Int.add_mul]
          rw [Int.mul_comm (g : Int) q]
          simp
          omega
        rw [e2, Int.add_mul_ediv_right _ _ (by omega), Int.ediv_eq_zero_of_lt (by omega) (by omega)]
        omega
  unfold Toward.cut
  dsimp only
  rw [Nat.shiftLeft_eq, Nat.one_mul]
  by_cases hd : d ≤ n.log2 + 2
  · rw [Nat.min_eq_left hd]; exact key _ hp
  · rw [Nat.min_eq_right (by omega), key _ (Nat.two_pow_pos _)]
    have a1 : n < 2 ^ (n.log2 + 2) := Nat.lt_of_lt_of_le Nat.lt_log2_self (Nat.pow_le_pow_right (by decide) (by omega))
    have a2 : n < 2 ^ d := Nat.lt_of_lt_of_le a1 (Nat.pow_le_pow_right (by decide) (by omega))
    generalize 2 ^ (n.log2 + 2) = A at a1
    generalize 2 ^ d = B at a2
    cases s
    · show (n : Int) / A = (n : Int) / B
      rw [Int.ediv_eq_zero_of_lt (by omega) (by omega), Int.ediv_eq_zero_of_lt (by omega) (by omega)]
    · show -(n : Int) / A = -(n : Int) / B
      by_cases hn : n = 0
      · rw [hn]; simp
      · have f : ∀ C : Nat, n < C → -(n : Int) / C = -1 := fun C hC => by
          have e : -(n : Int) = (C - n : Nat) + (-1) * C := by omega
          rw [e, Int.add_mul_ediv_right _ _ (by omega), Int.ediv_eq_zero_of_lt (by omega) (by omega)]; rfl
        rw [f _ a1, f _ a2]
theorem exf_int {k : FloatKind} {n : Nat} (h : n < 2 ^ (k.format.fractionBits + 1)) : ExF k.format n 0 := by
  by_cases hz : n = 0
  · exact .inl hz
  · have h2 := Nat.log2_self_le hz
    have := pow_lt' (Nat.lt_of_le_of_lt h2 h)
    have hf := fmt_facts k
    exact .inr ⟨n, 0, by simp, hz, by omega, by omega, by omega⟩
/-- A number made whole downwards. -/
theorem num_floor {b v} (h : Num .f64 b v) (hv : v.natAbs ≤ 2 ^ 20 * UU.natAbs) : Num .f64 (floorV b) (v / UU * UU) := by
  obtain ⟨s, m, e, h1, h2, rfl⟩ := h
  have hd : FloatKind.f64.decode b = .number s m e := h1
  obtain ⟨N, hN⟩ : ∃ N, N = Toward.down.cut s (m <<< e.toNat) (-e).toNat := ⟨_, rfl⟩
  have e1 : floorV b = FloatKind.f64.format.write (.number s N 0) := by
    unfold floorV
    rw [hd, hN]; rfl
  have hU := UU_pos
  have e2 : sgN s N = vl (.number s m e) / UU := by
    rw [hN, down_cut, Nat.shiftLeft_eq]
    by_cases he : 0 ≤ e
    · rw [vl_at he, Int.mul_ediv_cancel _ (by omega), show (-e).toNat = 0 by omega, Nat.pow_zero, sgN_mul, Int.natCast_pow]
      show _ / (1 : Int) = _
      rw [Int.ediv_one]; rfl
    · have e3 : UU = 2 ^ (e + 1200).toNat * 2 ^ (-e).toNat := by
        have h1 := bU_eq
        have h2 : (e + 1200).toNat + (-e).toNat = bU := by omega
        rw [UU, ← Int.pow_add, h2]
      have e4 : vl (.number s m e) = 2 ^ (e + 1200).toNat * sgN s m := by rw [Int.mul_comm]; rfl
      rw [e4, e3, Int.mul_ediv_mul_of_pos _ _ (two_pos _), show e.toNat = 0 by omega, Nat.pow_zero, Nat.mul_one, Int.natCast_pow]; rfl
  have e5 : N = (vl (.number s m e) / UU).natAbs := by rw [← e2, sgN_abs]
  have hb : N < 2 ^ 53 := by
    rw [e5]
    obtain ⟨v, hv'⟩ : ∃ v, v = vl (.number s m e) := ⟨_, rfl⟩
    rw [← hv'] at hv ⊢
    have hA : (UU.natAbs : Int) = UU := by omega
    have h3 : v ≤ 2 ^ 20 * UU := by
      have : ((2 ^ 20 * UU.natAbs : Nat) : Int) = 2 ^ 20 * UU := by rw [Int.natCast_mul, hA]; rfl
      omega
    have h4 : -(2 ^ 20) * UU ≤ v := by
      have : ((2 ^ 20 * UU.natAbs : Nat) : Int) = 2 ^ 20 * UU := by rw [Int.natCast_mul, hA]; rfl
      rw [Int.neg_mul]
      omega
    have h5 := Int.ediv_le_ediv hU h3
    have h6 := Int.ediv_le_ediv hU h4
    rw [Int.mul_ediv_cancel _ (by omega)] at h5 h6
    omega
  rw [e1, ← e2]
  have := num_write (k := .f64) (s := s) (m := N) (i := 0) (by omega) (exf_int hb)
  rw [vl_at (Int.le_refl 0)] at this
  simp only [Int.toNat_zero, Int.pow_zero, Int.mul_one] at this
  exact this
end Go.Abs
namespace Go.Abs
open Ieee

theorem num_f2i {k b v} (h : Num k b v) (h1 : -2 ^ 63 ≤ v.tdiv UU) (h2 : v.tdiv UU < 2 ^ 63) {G : Nat → Option ABlk} {N : Nat} : convT (.f2i .i64) (.flt k b) G N = some (.int .i64 (v.tdiv UU), .keep) := by
  unfold convT
  simp only [num_toInt h]
  rw [if_pos ⟨num_nan h, by show (-2 ^ 63 : Int) ≤ _; omega, by show _ ≤ (2 ^ 63 - 1 : Int); omega⟩]
/-- What a sample's check says. -/
noncomputable def fval (b : Nat) : Int := vl (FloatKind.f32.format.read b)
noncomputable def gridN (b : Nat) : Int := 16 * fval b / UU
noncomputable def finB (b : Nat) : Bool := @decide (∃ v, Num .f32 b v) (Classical.propDecidable _)
theorem finB_t {b v} (h : Num .f32 b v) : finB b = true := @decide_eq_true _ (Classical.propDecidable _) ⟨v, h⟩
theorem finB_i {b t} (h : FloatKind.f32.format.read b = .infinity t) : finB b = false := @decide_eq_false _ (Classical.propDecidable _) fun ⟨v, s, m, e, h1, _⟩ => by rw [h] at h1; cases h1
theorem finB_n {b s t} (h : FloatKind.f32.format.read b = .nan s t) : finB b = false := @decide_eq_false _ (Classical.propDecidable _) fun ⟨v, s, m, e, h1, _⟩ => by rw [h] at h1; cases h1
theorem finB_x {b} (h : finB b = true) : ∃ v, Num .f32 b v := @of_decide_eq_true _ (Classical.propDecidable _) h
noncomputable def gOkB (b : Nat) : Bool := finB b && (decide (-1024 * UU ≤ fval b) && (decide (fval b ≤ 1024 * UU) && decide (gridN b * UU = 16 * fval b)))
noncomputable def gridE (b : Nat) : Int := firstS [whenS (!finB b) 1, whenS (!gOkB b) 3]
theorem num_fval {b v} (h : Num .f32 b v) : v = fval b := by
  obtain ⟨s, m, e, h1, _, rfl⟩ := h
  unfold fval; rw [h1]
theorem grid_num {b} (h : gridE b = 0) : Num .f32 b (fval b) ∧ gridN b * UU = 16 * fval b ∧ -16384 ≤ gridN b ∧ gridN b ≤ 16384 := by
  obtain ⟨_, h⟩ := first2 h
  have h : gOkB b = true := by
    cases hb : gOkB b with
    | true => rfl
    | false => rw [hb] at h; cases h
  unfold gOkB at h
  simp only [Bool.and_eq_true, decide_eq_true_eq] at h
  obtain ⟨hn, g1, g2, g3⟩ := h
  obtain ⟨v, hv⟩ := finB_x hn
  have e := num_fval hv
  subst e
  have hU := UU_pos
  refine ⟨hv, g3, ?_, ?_⟩
  · have : -16384 * UU ≤ gridN b * UU := by rw [g3]; omega
    exact Int.le_of_mul_le_mul_right this hU
  · have : gridN b * UU ≤ 16384 * UU := by rw [g3]; omega
    exact Int.le_of_mul_le_mul_right this hU
theorem grid_z {b} (h1 : finB b = true) (h2 : gOkB b = true) : gridE b = 0 := by rw [gridE, h1, h2]; rfl
theorem bd_abs {v : Int} (h1 : -1024 * UU ≤ v) (h2 : v ≤ 1024 * UU) : v.natAbs ≤ 2 ^ 10 * UU.natAbs := by
  have hU := UU_pos
  omega
theorem neg1024 : unK .neg (.flt .f32 (FloatKind.f32.nearest 1024)) = some (.flt .f32 (FloatKind.f32.nearest (-1024))) := by
  show some (AV.flt .f32 (Op.negFloat .f32 (FloatKind.f32.nearest 1024))) = _
  rw [show Op.negFloat .f32 (FloatKind.f32.nearest 1024) = FloatKind.f32.nearest (-1024) by decide]
theorem ord_bin {op : BinOp} {k : FloatKind} {a b : Nat} {c : Bool} (h : fltBin op k a b = some (.bool c)) : binK op (.flt k a) (.flt k b) = some (.bool c) := by simp only [binK, if_true, h]
theorem eql_00 : binK .eql (.flt .f32 0) (.flt .f32 0) = some (.bool true) := ord_bin (by
  show some (AV.bool (FloatKind.f32.format.order 0 0 == some .eq)) = _
  rw [show FloatKind.f32.format.order 0 0 = some .eq by decide]; rfl)
theorem eql_n0 : binK .eql (.flt .f32 (qnan .f32)) (.flt .f32 0) = some (.bool false) := ord_bin (by
  show some (AV.bool (FloatKind.f32.format.order (qnan .f32) 0 == some .eq)) = _
  rw [show FloatKind.f32.format.order (qnan .f32) 0 = none by decide]; rfl)
theorem num_n1024 {k : FloatKind} : Num k (k.nearest (-1024)) (-1024 * UU) := num_int (by cases k <;> decide)
theorem num_1024 {k : FloatKind} : Num k (k.nearest 1024) (1024 * UU) := num_int (by cases k <;> decide)
theorem tdiv_grid {v : Int} : decide (v.tdiv UU * UU = v) = decide (v / UU * UU = v) := by
  have hU := UU_pos
  refine decide_eq_decide.2 ⟨fun h => ?_, fun h => ?_⟩
  · rw [← h, Int.mul_ediv_cancel _ (by omega)]
  · rw [← h, Int.mul_tdiv_cancel _ (by omega)]
theorem nan_bin {k a b} (h : nanB k a = true ∨ nanB k b = true) : k.format.order a b = none := nan_ord (nan_or h)
theorem read_nan {k : FloatKind} {b : Nat} {s : Bool} {t : Nat} (h : k.format.read b = .nan s t) : nanB k b = true := by rw [nanB_isNaN, h]; rfl
set_option maxRecDepth 10000
attribute [local irreducible] WP WC WE WB WR WF WL WG WRg WQ
section
variable {P : Program} (T : Tbl P) {h : AHeap}
include T
set_option maxHeartbeats 1000000 in
theorem r192 (c : Bool) (e : Int) : RCall P 192 [.bool c, .int .i64 e] h (fun v _ => v = .int .i64 (whenS c e)) := by
  refine .of T.mix T.c192 ?_
  unfold fn192
  simp only [uset]
  cases c <;> simp only [wset] <;> rfl
set_option maxHeartbeats 1000000 in
theorem r193 (b : Nat) : RCall P 193 [.flt .f32 b] h (fun v _ => v = .bool (finB b)) := by
  refine .st1 7 T.mix T.c193 ?_;intro ts hlen t0;unfold fn193
  rcases flt_cases .f32 b with ⟨v, hv⟩ | ⟨t, ht⟩ | ⟨s, t, ht⟩
  · have f1 := sub_self hv
    have f2 := eql_00
    refine Rs (A3 @t0 @f1 @f2) ?_
    rw [finB_t hv]
  · have f1 : binK .sub (.flt .f32 b) (.flt .f32 b) = some (.flt .f32 (qnan .f32)) := by
      have : FloatKind.f32.format.sub b b = none := by
        unfold Format.sub; rw [ht]; cases t <;> rfl
      simp only [binK, if_true, fltBin, this, fltRes]
    have f2 := eql_n0
    refine Rs (A3 @t0 @f1 @f2) ?_
    rw [finB_i ht]
  · have f1 : binK .sub (.flt .f32 b) (.flt .f32 b) = some (.flt .f32 (qnan .f32)) := by
      have : FloatKind.f32.format.sub b b = none := by
        unfold Format.sub; rw [ht]; rfl
      simp only [binK, if_true, fltBin, this, fltRes]
    have f2 := eql_n0
    refine Rs (A3 @t0 @f1 @f2) ?_
    rw [finB_n ht]
set_option maxHeartbeats 2000000 in
theorem r194 (b : Nat) : RCall P 194 [.flt .f32 b, .int .i64 1024] h (fun v _ => v = .bool (gOkB b)) := by
  refine .st2 25 T.mix T.c194 ?_;intro ts hlen t0 t1;unfold fn194
  have c1 : ∀ {n : Int} {G : Nat → Option ABlk} {N : Nat}, convT (.i2f .f32) (.int .i64 n) G N = some (.flt .f32 (FloatKind.f32.nearest n), .keep) := fun {_ _ _} => rfl
  have c2 := neg1024
  rcases flt_cases .f32 b with ⟨v, hv⟩ | ⟨t, ht⟩ | ⟨s, t, ht⟩
  · have hfv := num_fval hv
    have hf := finB_t hv
    have l1 := num_leq num_n1024 hv
    have l2 := num_leq hv num_1024
    by_cases q1 : -1024 * UU ≤ v
    case neg =>
      have d1 : decide (-1024 * UU ≤ v) = false := decide_eq_false q1
      have e : gOkB b = false := by rw [gOkB, ← hfv, d1]; simp
      refine Rs (A6 @t0 @t1 @c1 @c2 @l1 @d1) ?_
      rw [e]
    have d1 : decide (-1024 * UU ≤ v) = true := decide_eq_true q1
    by_cases q2 : v ≤ 1024 * UU
    case neg =>
      have d2 : decide (v ≤ 1024 * UU) = false := decide_eq_false q2
      have e : gOkB b = false := by rw [gOkB, ← hfv, d2]; simp
      refine Rs (A8 @t0 @t1 @c1 @c2 @l1 @d1 @l2 @d2) ?_
      rw [e]
    have d2 : decide (v ≤ 1024 * UU) = true := decide_eq_true q2
    obtain ⟨p, m1, m2, hp⟩ := mul16 hv (bd_abs q1 q2)
    have hU := UU_pos
    have b1 : (16 * v).tdiv UU ≤ 16384 := by
      have := Int.tdiv_le_tdiv hU (show 16 * v ≤ 16384 * UU by omega)
      rwa [Int.mul_tdiv_cancel _ (by omega)] at this
    have b2 : -16384 ≤ (16 * v).tdiv UU := by
      have := Int.tdiv_le_tdiv hU (show -16384 * UU ≤ 16 * v by omega)
      rwa [Int.mul_tdiv_cancel _ (by omega)] at this
    have c3 := @num_f2i _ _ _ hp (by omega) (by omega)
    have hi : Num .f32 (FloatKind.f32.nearest ((16 * v).tdiv UU)) ((16 * v).tdiv UU * UU) := num_int (by show _ < 2 ^ 24; omega)
    have l3 := num_eql hi hp
    have e : gOkB b = decide ((16 * v).tdiv UU * UU = 16 * v) := by
      rw [tdiv_grid, gOkB, gridN, ← hfv, hf, d1, d2]; simp
    have m1 : binK .mul (.flt .f32 b) (.flt .f32 1098907648) = some (.flt .f32 p) := m1
    refine Rs (A11 @t0 @t1 @c1 @c2 @l1 @d1 @l2 @d2 @m1 @c3 @l3) ?_
    rw [e]
  · have e : gOkB b = false := by rw [gOkB, finB_i ht]; rfl
    rw [e]
    cases t with
    | false =>
      have o1 : FloatKind.f32.format.order (FloatKind.f32.nearest (-1024)) b = some .lt := by
        unfold Format.order; rw [ht, show FloatKind.f32.format.read (FloatKind.f32.nearest (-1024)) = .number true 8388608 (-13) by decide]; rfl
      have o2 : FloatKind.f32.format.order b (FloatKind.f32.nearest 1024) = some .gt := by
        unfold Format.order; rw [ht, show FloatKind.f32.format.read (FloatKind.f32.nearest 1024) = .number false 8388608 (-13) by decide]; rfl
      have l1 : binK .leq (.flt .f32 (FloatKind.f32.nearest (-1024))) (.flt .f32 b) = some (.bool true) := ord_bin (by simp only [fltBin, o1]; rfl)
      have l2 : binK .leq (.flt .f32 b) (.flt .f32 (FloatKind.f32.nearest 1024)) = some (.bool false) := ord_bin (by simp only [fltBin, o2]; rfl)
      exact Rs (A6 @t0 @t1 @c1 @c2 @l1 @l2) trivial
    | true =>
      have o1 : FloatKind.f32.format.order (FloatKind.f32.nearest (-1024)) b = some .gt := by
        unfold Format.order; rw [ht, show FloatKind.f32.format.read (FloatKind.f32.nearest (-1024)) = .number true 8388608 (-13) by decide]; rfl
      have l1 : binK .leq (.flt .f32 (FloatKind.f32.nearest (-1024))) (.flt .f32 b) = some (.bool false) := ord_bin (by simp only [fltBin, o1]; rfl)
      exact Rs (A5 @t0 @t1 @c1 @c2 @l1) trivial
  · have e : gOkB b = false := by rw [gOkB, finB_n ht]; rfl
    rw [e]
    have o1 := nan_bin (k := .f32) (a := FloatKind.f32.nearest (-1024)) (.inr (read_nan ht))
    have l1 : binK .leq (.flt .f32 (FloatKind.f32.nearest (-1024))) (.flt .f32 b) = some (.bool false) := ord_bin (by simp only [fltBin, o1]; rfl)
    exact Rs (A5 @t0 @t1 @c1 @c2 @l1) trivial
end
end Go.Abs
namespace Go.Abs
open Ieee

theorem nan_neq {k b} (h : nanB k b = true) : binK .neq (.flt k b) (.flt k b) = some (.bool true) := ord_bin (by simp only [fltBin, nan_bin (.inl h)]; rfl)
theorem inf_neq {k b t} (h : k.format.read b = .infinity t) : binK .neq (.flt k b) (.flt k b) = some (.bool false) := ord_bin (by
  have : k.format.order b b = some .eq := by unfold Format.order; rw [h]; cases t <;> rfl
  simp only [fltBin, this]; rfl)
theorem inf_nan {k b t} (h : k.format.read b = .infinity t) : nanB k b = false := by rw [nanB_isNaN, h]; rfl
/-- Out of a number. -/
noncomputable def smpl (n : Int) : Nat := (FloatKind.f32.format.div (FloatKind.f32.nearest n) 1098907648).getD 0
theorem smpl_ok {n : Int} (h1 : -16384 ≤ n) (h2 : n ≤ 16384) : binK .quo (.flt .f32 (FloatKind.f32.nearest n)) (.flt .f32 1098907648) = some (.flt .f32 (smpl n)) ∧ gridE (smpl n) = 0 ∧ gridN (smpl n) = n := by
  have hi : Num .f32 (FloatKind.f32.nearest n) (n * UU) := num_int (by show _ < 2 ^ 24; omega)
  have hU := UU_pos
  obtain ⟨q, w, e1, e2, e3⟩ := quo16 hi (by
    by_cases hn : n = 0
    · exact .inl (by rw [hn, Int.zero_mul])
    · refine .inr ?_
      rw [Int.natAbs_mul]
      exact Nat.le_mul_of_pos_left _ (by omega))
  have e1 : binK .quo (.flt .f32 (FloatKind.f32.nearest n)) (.flt .f32 1098907648) = some (.flt .f32 q) := e1
  have e4 : binK .quo (.flt .f32 (FloatKind.f32.nearest n)) (.flt .f32 1098907648) = some (fltRes .f32 (FloatKind.f32.format.div (FloatKind.f32.nearest n) 1098907648)) := by simp only [binK, if_true, fltBin]
  have hq : smpl n = q := by
    unfold smpl
    rw [e4] at e1
    cases hd : FloatKind.f32.format.div (FloatKind.f32.nearest n) 1098907648 with
    | some r => rw [hd] at e1; cases e1; rfl
    | none =>
      rw [hd] at e1
      cases e1
      have := num_nan e2
      rw [qnan_nan] at this; cases this
  rw [hq]
  have hw := num_fval e2
  have hg : gridN q = n := by
    unfold gridN
    rw [← hw, e3, Int.mul_ediv_cancel _ (by omega)]
  have b1 : -16384 * UU ≤ n * UU := Int.mul_le_mul_of_nonneg_right h1 (by omega)
  have b2 : n * UU ≤ 16384 * UU := Int.mul_le_mul_of_nonneg_right h2 (by omega)
  refine ⟨e1, grid_z (finB_t e2) ?_, hg⟩
  unfold gOkB
  rw [hg, ← hw, e3, finB_t e2, decide_eq_true (show -1024 * UU ≤ w by omega), decide_eq_true (show w ≤ 1024 * UU by omega)]
  simp
theorem grid_bd {b} (h : gridE b = 0) : -1024 * UU ≤ fval b ∧ fval b ≤ 1024 * UU := by
  obtain ⟨_, h2, h3, h4⟩ := grid_num h
  have hU := UU_pos
  have b1 : -16384 * UU ≤ gridN b * UU := Int.mul_le_mul_of_nonneg_right h3 (by omega)
  have b2 : gridN b * UU ≤ 16384 * UU := Int.mul_le_mul_of_nonneg_right h4 (by omega)
  omega
set_option maxRecDepth 10000
attribute [local irreducible] WP WC WE WB WR WF WL WG WRg WQ
section
variable {P : Program} (T : Tbl P) {h : AHeap}
include T
set_option maxHeartbeats 1000000 in
theorem r168 {s : AV} {l : List Int} (hs : IsSl h s 1 (l.map intRow)) (hl : l.length < 2 ^ 63) : RCall P 168 [s] h (fun v _ => v = .int .i64 (firstS l)) := by
  refine .of T.mix T.c168 ?_
  unfold fn168
  simp only [uset]
  have e1 : (l.map intRow).length = l.length := by simp
  simp only [wset, hs.lenG, e1]
  refine WL.inv T.mix (fun n ts h' => ∃ k : Nat, k ≤ l.length ∧ n = l.length - k ∧ h' = h ∧ firstS l = firstS (l.drop k) ∧ ts.length = 15 ∧ slot ts 5 = s ∧ slot ts 6 = .int .i64 l.length ∧ slot ts 7 = .int .i64 k) l.length
    ⟨0, by omega, rfl, rfl, rfl, rfl, rfl, rfl, rfl⟩ ?_
  rintro _ ts _ ⟨k, hk, rfl, rfl, hf, hlen, h5, h6, h7⟩
  rw [expl ts 15 hlen]
  by_cases hlt : k < l.length
  · have hd : l.drop k = l[k] :: l.drop (k + 1) := by simp
    have e2 : (l.map intRow)[k]'(by omega) = [AV.int .i64 l[k]] := by simp
    have e3 : (k : Int) < l.length := by omega
    simp +contextual (disch := omega) only [wset, wsplit, h5, h6, h7, e3, decide_true, hs.iadr, Int.toNat_natCast, hs.load1 _ e2, wrap_in]
    refine ⟨fun h1 => ?_, fun h1 => ⟨l.length - (k + 1), by omega, k + 1, by omega, rfl, ?_, rfl⟩⟩
    · rw [hf, hd, firstS, if_neg h1]
    · rw [hf, hd, firstS, if_pos (by omega)]
  · have e3 : ¬ (k : Int) < l.length := by omega
    have e4 : k = l.length := by omega
    simp +contextual (disch := omega) only [wset, h5, h6, h7, e3, decide_false, if_true]
    rw [hf, e4, List.drop_length]; rfl
set_option maxHeartbeats 1000000 in
theorem r142 (b : Nat) : RCall P 142 [.flt .f32 b] h (fun v _ => v = .int .i64 (gridE b)) := by
  refine .st1 13 T.mix T.c142 ?_;intro ts hlen t0;unfold fn142
  refine Rs @t0 ?_
  refine WF.ce T.c193 (r193 T _) fun g1 => ?_
  refine Rs @t0 ?_
  refine WF.ce T.c192 (r192 T _ _) fun g2 => ?_
  refine Rs @t0 ?_
  refine WF.ce T.c194 (r194 T _) fun g3 => ?_
  refine Rs @t0 ?_
  refine WF.ce T.c192 (r192 T _ _) fun g4 => ?_
  refine Rs @t0 ?_
  refine WF.ce T.c168 (r168 T (isSl_ints [_, _]) (by simp)) fun g5 => ?_
  refine Rs @t0 ?_
  rfl
set_option maxHeartbeats 1000000 in
theorem r196 {k : Nat} (c : Bool) (hc : binK .neq (.flt .f64 k) (.flt .f64 k) = some (.bool c)) : RCall P 196 [.flt .f64 k] h (fun v _ => v = .bool c) := by
  refine .st1 6 T.mix T.c196 ?_;intro ts hlen t0;unfold fn196
  exact Rs (A2 @t0 @hc) trivial
set_option maxHeartbeats 1000000 in
theorem r197 (X : Xfl P) {k : Nat} (hn : nanB .f64 k = false) (c : Bool) (hc : binK .gtr (.flt .f64 (absB k)) (.flt .f64 9218868437227405311) = some (.bool c)) : RCall P 197 [.flt .f64 k, .int .i64 0] h (fun v _ => v = .bool c) := by
  refine .st2 15 T.mix T.c197 ?_;intro ts hlen t0 t1;unfold fn197
  refine Rs (A3 @t0 @t1 @decide_true) ?_
  refine WF.ce T.c222 (r222 T X hn) fun g1 => ?_
  exact Rs (A3 @t0 @t1 @hc) trivial
set_option maxHeartbeats 2000000 in
theorem r147 (X : Xfl P) (b : Nat) : RCall P 147 [.flt .f32 b, .int .i64 1024] h (fun v _ => v = .int .i64 (gridE b)) := by
  refine .st2 34 T.mix T.c147 ?_;intro ts hlen t0 t1;unfold fn147
  have c1 : ∀ {n : Int} {G : Nat → Option ABlk} {N : Nat}, convT (.i2f .f64) (.int .i64 n) G N = some (.flt .f64 (FloatKind.f64.nearest n), .keep) := fun {_ _ _} => rfl
  have w1 : IntKind.i64.wrap (0 - 1024) = -1024 := by decide
  rcases flt_cases .f32 b with ⟨v, hv⟩ | ⟨t, ht⟩ | ⟨s, t, ht⟩
  · have hfv := num_fval hv
    have hf := finB_t hv
    obtain ⟨q, c2, hq⟩ := num_f2f hv
    have hna := num_neq hq hq
    rw [show decide (v ≠ v) = false by simp] at hna
    obtain ⟨M, hM, hM2⟩ := max64
    have hinf := num_gtr (num_abs hq) hM
    rw [decide_eq_false (hM2 v (num32_bd hv))] at hinf
    repeat (first | simp (config := { maxSteps := 1000000 }) only [wset, hset, dset, bset, Nat.reduceAdd, Nat.reduceMul, Nat.reduceLeDiff, Nat.reduceEqDiff, pset, hlen, if_false, if_true, t0, t1, @c2] | simp (config := { maxSteps := 1000000 }) (disch := first | (simp only [List.length_append, List.length_cons, List.length_nil] <;> omega) | rfl | omega | fail) only [kset, wset, hset, dset, bset, Nat.reduceAdd, Nat.reduceMul, Nat.reduceLeDiff, Nat.reduceEqDiff, pset, hlen, if_false, if_true, t0, t1, @c2])
    refine WF.ce T.c196 (r196 T false hna) fun g1 => ?_
    refine Rs (A2 @t0 @t1) ?_
    refine WF.ce T.c197 (r197 T X (num_nan hq) false hinf) fun g2 => ?_
    have g1024 := num_gtr hq (num_1024 (k := .f64))
    have ln1024 := num_lss hq (num_n1024 (k := .f64))
    by_cases q1 : 1024 * UU < v
    · have d1 : decide (1024 * UU < v) = true := decide_eq_true q1
      have e : gOkB b = false := by rw [gOkB, ← hfv, decide_eq_false (show ¬ v ≤ 1024 * UU by omega)]; simp
      refine Rs (A6 @t0 @t1 @c1 @w1 @g1024 @d1) ?_
      refine WF.ce T.c39 (r39 T _ _) fun g3 => ?_
      refine Rs (A2 @t0 @t1) ?_
      rw [gridE, hf, e]; rfl
    have d1 : decide (1024 * UU < v) = false := decide_eq_false q1
    by_cases q2 : v < -1024 * UU
    · have d2 : decide (v < -1024 * UU) = true := decide_eq_true q2
      have e : gOkB b = false := by rw [gOkB, ← hfv, decide_eq_false (show ¬ -1024 * UU ≤ v by omega)]; simp
      refine Rs (A8 @t0 @t1 @c1 @w1 @g1024 @d1 @ln1024 @d2) ?_
      refine WF.ce T.c39 (r39 T _ _) fun g3 => ?_
      refine Rs (A2 @t0 @t1) ?_
      rw [gridE, hf, e]; rfl
    have d2 : decide (v < -1024 * UU) = false := decide_eq_false q2
    have hab := bd_abs (v := v) (by omega) (by omega)
    obtain ⟨p, m1, m2, hp⟩ := mul16 hq hab
    have m2 : binK .mul (.flt .f64 4625196817309499392) (.flt .f64 q) = some (.flt .f64 p) := m2
    have hpf := num_floor hp (by
      rw [Int.natAbs_mul]
      have : 16 * v.natAbs ≤ 16 * (2 ^ 10 * UU.natAbs) := Nat.mul_le_mul_left _ hab
      show 16 * v.natAbs ≤ _
      omega)
    have l3 := num_neq hp hpf
    have e : gOkB b = !decide (16 * v ≠ 16 * v / UU * UU) := by
      rw [gOkB, gridN, ← hfv, hf, decide_eq_true (show -1024 * UU ≤ v by omega), decide_eq_true (show v ≤ 1024 * UU by omega)]
      by_cases hh : 16 * v / UU * UU = 16 * v
      · rw [decide_eq_true hh, decide_eq_false (p := 16 * v ≠ 16 * v / UU * UU) (fun z => z hh.symm)]; rfl
      · rw [decide_eq_false hh, decide_eq_true (p := 16 * v ≠ 16 * v / UU * UU) (fun z => hh z.symm)]; rfl
    refine Rs (A9 @t0 @t1 @c1 @w1 @g1024 @d1 @ln1024 @d2 @m2) ?_
    refine WF.ce T.c198 (r198 T X (num_nan hp)) fun g3 => ?_
    refine Rs (A3 @t0 @t1 @l3) ?_
    refine WF.ce T.c39 (r39 T _ _) fun g4 => ?_
    refine Rs (A2 @t0 @t1) ?_
    rw [gridE, hf, e, Bool.not_not]
    show _ = AV.int .i64 (firstS [whenS false 1, _])
    rw [first_w2]; rfl
  · obtain ⟨q, c2, hq⟩ := inf_f2f ht
    have e : gridE b = 1 := by rw [gridE, finB_i ht]; rfl
    have o1 : FloatKind.f64.format.order (absB q) 9218868437227405311 = some .gt := by
      unfold Format.order
      rw [absB_read, hq, show FloatKind.f64.format.read 9218868437227405311 = .number false 9007199254740991 971 by decide]; rfl
    have hinf : binK .gtr (.flt .f64 (absB q)) (.flt .f64 9218868437227405311) = some (.bool true) := ord_bin (by simp only [fltBin, o1]; rfl)
    repeat (first | simp (config := { maxSteps := 1000000 }) only [wset, hset, dset, bset, Nat.reduceAdd, Nat.reduceMul, Nat.reduceLeDiff, Nat.reduceEqDiff, pset, hlen, if_false, if_true, t0, t1, @c2] | simp (config := { maxSteps := 1000000 }) (disch := first | (simp only [List.length_append, List.length_cons, List.length_nil] <;> omega) | rfl | omega | fail) only [kset, wset, hset, dset, bset, Nat.reduceAdd, Nat.reduceMul, Nat.reduceLeDiff, Nat.reduceEqDiff, pset, hlen, if_false, if_true, t0, t1, @c2])
    refine WF.ce T.c196 (r196 T false (inf_neq hq)) fun g1 => ?_
    refine Rs (A2 @t0 @t1) ?_
    refine WF.ce T.c197 (r197 T X (inf_nan hq) true hinf) fun g2 => ?_
    refine Rs (A2 @t0 @t1) ?_
    rw [e]
  · have c2 := @nan_f2f _ _ _ ht
    have e : gridE b = 1 := by rw [gridE, finB_n ht]; rfl
    repeat (first | simp (config := { maxSteps := 1000000 }) only [wset, hset, dset, bset, Nat.reduceAdd, Nat.reduceMul, Nat.reduceLeDiff, Nat.reduceEqDiff, pset, hlen, if_false, if_true, t0, t1, @c2] | simp (config := { maxSteps := 1000000 }) (disch := first | (simp only [List.length_append, List.length_cons, List.length_nil] <;> omega) | rfl | omega | fail) only [kset, wset, hset, dset, bset, Nat.reduceAdd, Nat.reduceMul, Nat.reduceLeDiff, Nat.reduceEqDiff, pset, hlen, if_false, if_true, t0, t1, @c2])
    refine WF.ce T.c196 (r196 T true (nan_neq (qnan_nan _))) fun g1 => ?_
    refine Rs (A2 @t0 @t1) ?_
    rw [e]
set_option maxHeartbeats 1000000 in
theorem r155 (X : Xfl P) (b : Nat) : RCall P 155 [.flt .f32 b] h (fun v _ => v = .int .i64 (gridE b)) := by
  refine .st1 5 T.mix T.c155 ?_;intro ts hlen t0;unfold fn155
  refine Rs @t0 ?_
  refine WF.ce T.c147 (r147 T X _) fun g1 => ?_
  exact Rs @t0 trivial
set_option maxHeartbeats 1000000 in
theorem r64 {b : Nat} (hb : gridE b = 0) : RCall P 64 [.flt .f32 b] h (fun v _ => v = .int .i64 (gridN b)) := by
  refine .st1 6 T.mix T.c64 ?_;intro ts hlen t0;unfold fn64
  obtain ⟨hv, hg, g1, g2⟩ := grid_num hb
  obtain ⟨hg3, hg4⟩ := grid_bd hb
  obtain ⟨p, m1, m2, hp⟩ := mul16 hv (bd_abs hg3 hg4)
  have m2 : binK .mul (.flt .f32 1098907648) (.flt .f32 b) = some (.flt .f32 p) := m2
  have hU := UU_pos
  have ht : (16 * fval b).tdiv UU = gridN b := by rw [← hg, Int.mul_tdiv_cancel _ (by omega)]
  have c3 := @num_f2i _ _ _ hp (by omega) (by omega)
  rw [ht] at c3
  exact Rs (A3 @t0 @m2 @c3) trivial
set_option maxHeartbeats 1000000 in
theorem r108 {b : Nat} (hb : gridE b = 0) : RCall P 108 [.flt .f32 b] h (fun v _ => v = .int .i64 (gridN b)) := by
  refine .st1 6 T.mix T.c108 ?_;intro ts hlen t0;unfold fn108
  obtain ⟨hv, hg, g1, g2⟩ := grid_num hb
  obtain ⟨hg3, hg4⟩ := grid_bd hb
  obtain ⟨p, m1, m2, hp⟩ := mul16 hv (bd_abs hg3 hg4)
  have m2 : binK .mul (.flt .f32 1098907648) (.flt .f32 b) = some (.flt .f32 p) := m2
  have hU := UU_pos
  have ht : (16 * fval b).tdiv UU = gridN b := by rw [← hg, Int.mul_tdiv_cancel _ (by omega)]
  have c3 := @num_f2i _ _ _ hp (by omega) (by omega)
  rw [ht] at c3
  exact Rs (A3 @t0 @m2 @c3) trivial
end
end Go.Abs
namespace Go.Abs

def fltR (b : Nat) : List AV := [.flt .f32 b]
set_option maxRecDepth 10000
attribute [local irreducible] WP WC WE WB WR WF WL WG WRg WQ
section
variable {P : Program} (T : Tbl P) {h : AHeap}
include T
set_option maxHeartbeats 2000000 in
theorem q141 {s : AV} {l : List (Nat)} (hs : IsSl h s 1 (l.map fltR)) (hl : l.length < 2 ^ 40) {f : FuncId} {AF : AFunc} (hA : compileFn P f = some AF) {g : Nat → Int} (hf : ∀ x ∈ l, ∀ k, RCall P f [.flt .f32 x] k (fun v _ => v = .int .i64 (g x))) : RCall P 141 [s, .func (.func f) [] []] h (fun v h' => Fr h.length h' v 1 ((l.map g).map intRow)) := by
  refine .st2 22 T.mix T.c141 ?_;intro ts hlen t0 t1;unfold fn141
  refine Rs (A3 @t0 @t1 hs.lenm) ?_
  refine WL.inv T.mix (fun n ts K => ∃ (k : Nat) (t : AV), k ≤ l.length ∧ n = l.length - k ∧ Ext h K ∧ Fr h.length K t 1 (((l.take k).map g).map intRow) ∧ ts.length = 22 ∧ slot ts 1 = .func (.func f) [] [] ∧ slot ts 5 = t ∧ slot ts 8 = s ∧ slot ts 9 = .int .i64 l.length ∧ slot ts 10 = .int .i64 k) l.length
    ⟨0, .nilSlice, by omega, rfl, .refl _, .nil, Sn, (Sq @t1), Sw, Sw, Sw, Swr⟩ ?_
  clear hlen t0 t1
  rintro _ ts K ⟨k, t, hk, rfl, eK, hfr, hlen, t1, t5, t8, t9, t10⟩
  have hsK := hs.ext eK
  by_cases hlt : k < l.length
  case neg =>
    have e3 := dltF hlt
    have e4 : k = l.length := by omega
    rw [e4, List.take_length] at hfr
    refine Rs (A6 @t1 @t5 @t8 @t9 @t10 @e3) ?_
    exact ⟨eK, hfr⟩
  have e3 := dltT hlt
  have e5 := wrapN (n := k) (by omega)
  have ix := hsK.ixm (kk := .i64) hlt
  obtain ⟨x, hx⟩ : ∃ x, x = l[k] := ⟨_, rfl⟩
  have ld : ∀ {kk : AHeap}, Ext K kk → loadF none (elp s 1 k) (fun b => kk[b]?) = some (.flt .f32 x, .keep) := fun {kk} e => by rw [hx]; exact hsK.l1m hlt rfl e
  have hmem : x ∈ l := by rw [hx]; exact List.getElem_mem _
  have ot := hfr.isSl.one
  have htk : l.take (k + 1) = l.take k ++ [x] := by rw [hx]; exact List.take_succ_eq_append_getElem hlt
  refine Rs (A9 @t1 @t5 @t8 @t9 @t10 @e3 @ix @ld @ot) ?_
  refine WF.ce hA (hf x hmem _) fun g1 => ?_
  have bs : ∀ {N : Nat}, bslF 1 1 (fillA [.int .i64 0] [(0, 1, .int .i64 (g x))]) N = some (.slice N 0 1 1, .push (.cells [.int .i64 (g x)] true true)) := fun {N} => rfl
  refine Rs (A7 @t1 @t5 @t8 @t9 @t10 @ot @bs) ?_
  refine WR.appR (B := h) (cs := ((l.take k).map g).map intRow) (z := intRow (g x)) (hfr.app _) rfl (eK.trans ⟨_, rfl⟩) (by decide) (by rw [List.length_map, List.length_map, List.length_take]; omega) ?_
  intro W5 s' x5 hff q5
  have hrow : ((l.take k).map g).map intRow ++ [intRow (g x)] = ((l.take (k + 1)).map g).map intRow := by rw [htk, List.map_append, List.map_append]; rfl
  rw [hrow] at hff
  refine Rs (A7 @t1 @t5 @t8 @t9 @t10 @q5 @e5) ?_
  exact ⟨l.length - (k + 1), by omega, k + 1, s', by omega, rfl, x5, hff, rfl, rfl⟩
theorem r141 {s : AV} {l : List (Nat)} (hs : IsSl h s 1 (l.map fltR)) (hl : l.length < 2 ^ 40) {f : FuncId} {AF : AFunc} (hA : compileFn P f = some AF) {g : Nat → Int} (hf : ∀ x ∈ l, ∀ k, RCall P f [.flt .f32 x] k (fun v _ => v = .int .i64 (g x))) : RCall P 141 [s, .func (.func f) [] []] h (fun v h' => IsSl h' v 1 ((l.map g).map intRow)) := by
  obtain ⟨v, k, h1, h2⟩ := q141 T hs hl hA hf
  exact ⟨v, k, h1, h2.isSl⟩
end
end Go.Abs
namespace Go.Abs

theorem firstS_z : ∀ {l : List Int}, firstS l = 0 → ∀ x ∈ l, x = 0
  | [], _, x, h => by cases h
  | y :: l, h, x, hx => by
    rw [firstS] at h
    by_cases hy : y = 0
    · rw [if_pos hy] at h
      rcases List.mem_cons.1 hx with rfl | hx
      · exact hy
      · exact firstS_z h x hx
    · rw [if_neg hy] at h; exact absurd h hy
def fitB (n : Int) : Bool := decide (-16384 ≤ n) && decide (n ≤ 16384)
set_option maxRecDepth 10000
attribute [local irreducible] WP WC WE WB WR WF WL WG WRg WQ
section
variable {P : Program} (T : Tbl P) {h : AHeap}
include T
set_option maxHeartbeats 1000000 in
theorem r75 (X : Xfl P) {s : AV} {l : List Nat} (hs : IsSl h s 1 (l.map fltR)) (hl : l.length < 2 ^ 40) : RCall P 75 [s] h (fun v _ => v = .int .i64 (firstS (l.map gridE))) := by
  refine .st1 19 T.mix T.c75 ?_;intro ts hlen t0;unfold fn75
  refine Rs @t0 ?_
  refine WL.inv T.mix (fun n ts K => ∃ k : Nat, k ≤ l.length ∧ n = l.length - k ∧ Ext h K ∧ firstS (l.map gridE) = firstS ((l.drop k).map gridE) ∧ ts.length = 19 ∧ slot ts 0 = s ∧ slot ts 3 = .int .i64 k) l.length
    ⟨0, by omega, rfl, .refl _, rfl, Sn, (Sq @t0), Swr⟩ ?_
  clear hlen t0
  rintro _ ts K ⟨k, hk, rfl, eK, hf, hlen, t0, t3⟩
  have hsK := hs.ext eK
  by_cases hlt : k < l.length
  case neg =>
    have e3 := dltF hlt
    have e4 : k = l.length := by omega
    rw [hf, e4, List.drop_length]
    refine Rs (A4 @t0 @t3 hsK.lenm @e3) ?_
    exact ⟨eK, rfl⟩
  have e3 := dltT hlt
  have e5 := wrapN (n := k) (by omega)
  have ix := hsK.ixm (kk := .i64) hlt
  have hd : l.drop k = l[k] :: l.drop (k + 1) := by simp
  rw [hd, List.map_cons, firstS] at hf
  obtain ⟨x, hx⟩ : ∃ x, x = l[k] := ⟨_, rfl⟩
  have ld : ∀ {kk : AHeap}, Ext K kk → loadF none (elp s 1 k) (fun b => kk[b]?) = some (.flt .f32 x, .keep) := fun {kk} e => by rw [hx]; exact hsK.l1m hlt rfl e
  rw [← hx] at hf
  refine Rs (A6 @t0 @t3 hsK.lenm @e3 @ix @ld) ?_
  refine WF.ce T.c155 (r155 T X x) fun g1 => ?_
  by_cases hz : gridE x = 0
  · have d6 : decide (gridE x ≠ 0) = false := decide_eq_false fun z => z hz
    rw [if_pos hz] at hf
    refine Rs (A4 @t0 @t3 @d6 @e5) ?_
    exact ⟨l.length - (k + 1), by omega, k + 1, by omega, rfl, eK.trans ⟨g1, rfl⟩, hf, rfl⟩
  · have d6 : decide (gridE x ≠ 0) = true := decide_eq_true hz
    rw [if_neg hz] at hf
    refine Rs (A3 @t0 @t3 @d6) ?_
    exact ⟨eK.trans ⟨g1, rfl⟩, by rw [hf]⟩
end
end Go.Abs
namespace Go.Abs

set_option maxRecDepth 10000
attribute [local irreducible] WP WC WE WB WR WF WL WG WRg WQ
section
variable {P : Program} (T : Tbl P) {h : AHeap}
include T
set_option maxHeartbeats 1000000 in
theorem r146 (n : Int) : RCall P 146 [.int .i64 n] h (fun v _ => v = .bool (fitB n)) := by
  refine .st1 9 T.mix T.c146 ?_;intro ts hlen t0;unfold fn146
  by_cases h1 : -16384 ≤ n
  · have d1 : decide (-16384 ≤ n) = true := decide_eq_true h1
    have e : fitB n = decide (n ≤ 16384) := by rw [fitB, d1]; rfl
    refine Rs (A2 @t0 @d1) ?_
    rw [e]
  · have d1 : decide (-16384 ≤ n) = false := decide_eq_false h1
    have e : fitB n = false := by rw [fitB, d1]; rfl
    refine Rs (A2 @t0 @d1) ?_
    rw [e]
end
end Go.Abs
namespace Go.Abs

set_option maxRecDepth 10000
attribute [local irreducible] WP WC WE WB WR WF WL WG WRg WQ
section
variable {P : Program} (T : Tbl P) {h : AHeap}
include T
end
end Go.Abs
namespace Go.Abs

def atZ (l : List Int) (j : Int) : Int := if 0 ≤ j then l.getD j.toNat 0 else 0
set_option maxRecDepth 10000
attribute [local irreducible] WP WC WE WB WR WF WL WG WRg WQ
section
variable {P : Program} (T : Tbl P) {h : AHeap}
include T
end
end Go.Abs
namespace Go.Abs

set_option maxRecDepth 10000
attribute [local irreducible] WP WC WE WB WR WF WL WG WRg WQ
section
variable {P : Program} (T : Tbl P) {h : AHeap}
include T
end
end Go.Abs
namespace Go.Abs

set_option maxRecDepth 10000
attribute [local irreducible] WP WC WE WB WR WF WL WG WRg WQ
section
variable {P : Program} (T : Tbl P) {h : AHeap}
include T
end
end Go.Abs
namespace Go.Abs

set_option maxRecDepth 10000
attribute [local irreducible] WP WC WE WB WR WF WL WG WRg WQ
section
variable {P : Program} (T : Tbl P) {h : AHeap}
include T
end
end Go.Abs
namespace Go.Abs

def cv (A : List Int) (m : Int) : Nat → Int
  | 0 => 0
  | j + 1 => cv A m j + atZ A j * atZ A (m - j)
set_option maxRecDepth 10000
attribute [local irreducible] WP WC WE WB WR WF WL WG WRg WQ
section
variable {P : Program} (T : Tbl P) {h : AHeap}
include T
end
end Go.Abs
namespace Go.Abs

set_option maxRecDepth 10000
attribute [local irreducible] WP WC WE WB WR WF WL WG WRg WQ
section
variable {P : Program} (T : Tbl P) {h : AHeap}
include T
end
end Go.Abs
namespace Go.Abs

set_option maxRecDepth 10000
attribute [local irreducible] WP WC WE WB WR WF WL WG WRg WQ
section
variable {P : Program} (T : Tbl P) {h : AHeap}
include T
end
end Go.Abs
namespace Go.Abs

end Go.Abs
namespace Go.Abs

set_option maxRecDepth 10000
attribute [local irreducible] WP WC WE WB WR WF WL WG WRg WQ
section
variable {P : Program} (T : Tbl P) {h : AHeap}
include T
end
end Go.Abs
namespace Go.Abs

set_option maxRecDepth 10000
attribute [local irreducible] WP WC WE WB WR WF WL WG WRg WQ
section
variable {P : Program} (T : Tbl P) {h : AHeap}
include T
end
end Go.Abs
namespace Go.Abs

set_option maxRecDepth 10000
attribute [local irreducible] WP WC WE WB WR WF WL WG WRg WQ
section
variable {P : Program} (T : Tbl P) {h : AHeap}
include T
end
end Go.Abs
namespace Go.Abs

set_option maxRecDepth 10000
attribute [local irreducible] WP WC WE WB WR WF WL WG WRg WQ
section
variable {P : Program} (T : Tbl P) {h : AHeap}
include T
end
end Go.Abs
namespace Go.Abs

set_option maxRecDepth 10000
attribute [local irreducible] WP WC WE WB WR WF WL WG WRg WQ
section
variable {P : Program} (T : Tbl P) {h : AHeap}
include T
end
end Go.Abs
namespace Go.Abs

def tmI (a b : Int × Int) : Int × Int := (a.1 * b.1 - a.2 * b.2, a.1 * b.2 + a.2 * b.1)
def plI (a b : Int × Int) : Int × Int := (a.1 + b.1, a.2 + b.2)
def bdI (M : Int) (a : Int × Int) : Prop := (-M ≤ a.1 ∧ a.1 ≤ M) ∧ -M ≤ a.2 ∧ a.2 ≤ M
theorem mul_bd {x y X Y : Int} (h1 : -X ≤ x ∧ x ≤ X) (h2 : -Y ≤ y ∧ y ≤ Y) : -(X * Y) ≤ x * y ∧ x * y ≤ X * Y := by
  have e : (x * y).natAbs ≤ (X * Y).natAbs := by
    rw [Int.natAbs_mul, Int.natAbs_mul]
    exact Nat.mul_le_mul (by omega) (by omega)
  have p := Int.mul_nonneg (show 0 ≤ X by omega) (show 0 ≤ Y by omega)
  omega
set_option maxRecDepth 10000
attribute [local irreducible] WP WC WE WB WR WF WL WG WRg WQ
section
variable {P : Program} (T : Tbl P) {h : AHeap}
include T
set_option maxHeartbeats 2000000 in
theorem r110 {a b : Int × Int} (ha : bdI (2 ^ 40) a) (hb : bdI (2 ^ 40) b) : RCall P 110 [.agg (ratR a), .agg (ratR b)] h (fun v _ => v = .agg (ratR (plI a b))) := by
  obtain ⟨⟨a1, a2⟩, a3, a4⟩ := ha
  obtain ⟨⟨b1, b2⟩, b3, b4⟩ := hb
  unfold ratR plI
  refine .st2 16 T.mix T.c110 ?_;intro ts hlen t0 t1;unfold fn110
  have bx : ∀ {N : Nat} {z : Int × Int}, boxF (.agg [.int .i64 z.1, .int .i64 z.2]) N = some (.ptr N 0, .push (.cells [.int .i64 z.1, .int .i64 z.2] true false)) := fun {N z} => rfl
  have w1 : IntKind.i64.wrap (a.1 + b.1) = a.1 + b.1 := wrap_in (by omega) (by omega)
  have w2 : IntKind.i64.wrap (a.2 + b.2) = a.2 + b.2 := wrap_in (by omega) (by omega)
  have st := @rat_st (a.1 + b.1) (a.2 + b.2)
  exact Rs (A6 @t0 @t1 @bx @w1 @w2 @st) trivial
set_option maxHeartbeats 2000000 in
theorem r183 {a b : Int × Int} (ha : bdI (2 ^ 40) a) (hb : bdI 1 b) : RCall P 183 [.agg (ratR a), .agg (ratR b)] h (fun v _ => v = .agg (ratR (tmI a b))) := by
  obtain ⟨a1, a2⟩ := ha
  obtain ⟨b1, b2⟩ := hb
  have p1 := mul_bd a1 b1
  have p2 := mul_bd a2 b2
  have p3 := mul_bd a1 b2
  have p4 := mul_bd a2 b1
  unfold ratR tmI
  refine .st2 28 T.mix T.c183 ?_;intro ts hlen t0 t1;unfold fn183
  have bx : ∀ {N : Nat} {z : Int × Int}, boxF (.agg [.int .i64 z.1, .int .i64 z.2]) N = some (.ptr N 0, .push (.cells [.int .i64 z.1, .int .i64 z.2] true false)) := fun {N z} => rfl
  have w1 : IntKind.i64.wrap (a.1 * b.1) = a.1 * b.1 := wrap_in (by omega) (by omega)
  have w2 : IntKind.i64.wrap (a.2 * b.2) = a.2 * b.2 := wrap_in (by omega) (by omega)
  have w3 : IntKind.i64.wrap (a.1 * b.2) = a.1 * b.2 := wrap_in (by omega) (by omega)
  have w4 : IntKind.i64.wrap (a.2 * b.1) = a.2 * b.1 := wrap_in (by omega) (by omega)
  have w5 : IntKind.i64.wrap (a.1 * b.1 - a.2 * b.2) = a.1 * b.1 - a.2 * b.2 := wrap_in (by omega) (by omega)
  have w6 : IntKind.i64.wrap (a.1 * b.2 + a.2 * b.1) = a.1 * b.2 + a.2 * b.1 := wrap_in (by omega) (by omega)
  have st := @rat_st (a.1 * b.1 - a.2 * b.2) (a.1 * b.2 + a.2 * b.1)
  exact Rs (A10 @t0 @t1 @bx @w1 @w2 @w3 @w4 @w5 @w6 @st) trivial
end
end Go.Abs
