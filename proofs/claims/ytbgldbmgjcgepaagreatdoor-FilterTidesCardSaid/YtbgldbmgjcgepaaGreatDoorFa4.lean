/- Contracts: the greatest common divisor, quotients in lowest terms. No condition. · Tides: their errors, the level at a tick. Contracts. No condition. -/
import Derived.Test.YtbgldbmgjcgepaaGreatDoorFa3
set_option linter.all false
namespace Go.Abs

def ratI (n d : Int) : Int × Int := (n.tdiv (Int.gcd n d), d.tdiv (Int.gcd n d))
def ratR (x : Int × Int) : List AV := [.int .i64 x.1, .int .i64 x.2]
theorem gcd_step {x y : Int} : Int.gcd y (x.tmod y) = Int.gcd x y := by
  show Nat.gcd y.natAbs (x.tmod y).natAbs = Nat.gcd x.natAbs y.natAbs
  rw [Int.natAbs_tmod, Nat.gcd_comm x.natAbs, Nat.gcd_rec y.natAbs x.natAbs, Nat.gcd_comm]
theorem gcd_zero {x : Int} : ((Int.gcd x 0 : Nat) : Int) = max x (-x) := by
  show ((Nat.gcd x.natAbs 0 : Nat) : Int) = _
  rw [Nat.gcd_zero_right]; omega
theorem tmod_lt {x y : Int} (h : y ≠ 0) : (x.tmod y).natAbs < y.natAbs := by
  rw [Int.natAbs_tmod]; exact Nat.mod_lt _ (by omega)
theorem gcd_le {n d : Int} (hd : 0 < d) : 1 ≤ ((Int.gcd n d : Nat) : Int) ∧ ((Int.gcd n d : Nat) : Int) ≤ d := by
  have h1 : 0 < Int.gcd n d := Nat.gcd_pos_of_pos_right _ (by omega)
  have h2 : Int.gcd n d ≤ d.natAbs := Nat.gcd_le_right _ (by omega)
  omega
theorem quo_bd {n g : Int} (hg : 1 ≤ g) {B : Int} (h : -B ≤ n ∧ n ≤ B) : -B ≤ n.tdiv g ∧ n.tdiv g ≤ B := by
  have h1 := Int.natAbs_tdiv n g
  have h2 : n.natAbs.div g.natAbs ≤ n.natAbs := Nat.div_le_self _ _
  have h3 : (n.tdiv g).natAbs ≤ n.natAbs := by rw [h1]; exact h2
  omega
theorem rat_st {n d : Int} {b : Nat} {a0 a1 : AV} : stB 2 0 (.agg [.int .i64 n, .int .i64 d]) b (.cells [a0, a1] true false) = some (undefA, .set b (.cells [.int .i64 n, .int .i64 d] true false)) := (stB_agg (l := [.int .i64 n, .int .i64 d]) rfl rfl (by show 0 + 2 ≤ 2; omega)).trans rfl
set_option maxRecDepth 10000
attribute [local irreducible] WP WC WE WB WR WF WL WG WRg WQ
section
variable {P : Program} (T : Tbl P) {h : AHeap}
include T
set_option maxHeartbeats 1000000 in
theorem r186 (a b : Int) (ha : a.natAbs < 2 ^ 62) (hb : b.natAbs < 2 ^ 62) : RCall P 186 [.int .i64 a, .int .i64 b] h (fun v _ => v = .int .i64 (Int.gcd a b : Nat)) := by
  refine .st2 15 T.mix T.c186 ?_;intro ts hlen t0 t1;unfold fn186
  refine Rs (A2 @t0 @t1) ?_
  refine WL.inv T.mix (fun n ts h' => ∃ x y : Int, n = y.natAbs ∧ h' = h ∧ Int.gcd x y = Int.gcd a b ∧ x.natAbs < 2 ^ 62 ∧ y.natAbs < 2 ^ 62 ∧ ts.length = 15 ∧ slot ts 0 = .int .i64 x ∧ slot ts 1 = .int .i64 y) b.natAbs
    ⟨a, b, rfl, rfl, rfl, ha, hb, Sn, (Sq @t0), (Sq @t1)⟩ ?_
  clear hlen t0 t1 ha hb
  rintro _ ts _ ⟨x, y, rfl, rfl, hg, hx, hy, hlen, t0, t1⟩
  by_cases hz : y = 0
  · have d1 : decide (y ≠ 0) = false := decide_eq_false fun z => z hz
    have w1 : IntKind.i64.wrap (0 - x) = -x := by rw [wrap_in (by omega) (by omega)]; omega
    refine Rs (A4 @t0 @t1 @d1 @w1) ?_
    rw [← hg, hz, gcd_zero]
  · have d1 : decide (y ≠ 0) = true := decide_eq_true hz
    have r1 := bin_rem (k := .i64) (a := x) (b := y) hz
    have hlt := tmod_lt (x := x) hz
    refine Rs (A4 @t0 @t1 @d1 @r1) ?_
    exact ⟨(x.tmod y).natAbs, hlt, y, x.tmod y, rfl, gcd_step.trans hg, hy, by omega, rfl, rfl⟩
set_option maxHeartbeats 1000000 in
theorem z152 (a b : Int) (ha : a.natAbs < 2 ^ 62) (hb : b.natAbs < 2 ^ 62) : RCall P 152 [.int .i64 a, .int .i64 b] h (fun v _ => v = .int .i64 (Int.gcd a b : Nat)) := by
  refine .st2 16 T.mix T.c152 ?_;intro ts hlen t0 t1;unfold fn152
  refine Rs (A2 @t0 @t1) ?_
  refine WL.inv T.mix (fun n ts h' => ∃ x y : Int, n = y.natAbs ∧ h' = h ∧ Int.gcd x y = Int.gcd a b ∧ x.natAbs < 2 ^ 62 ∧ y.natAbs < 2 ^ 62 ∧ ts.length = 16 ∧ slot ts 0 = .int .i64 x ∧ slot ts 1 = .int .i64 y) b.natAbs
    ⟨a, b, rfl, rfl, rfl, ha, hb, Sn, (Sq @t0), (Sq @t1)⟩ ?_
  clear hlen t0 t1 ha hb
  rintro _ ts _ ⟨x, y, rfl, rfl, hg, hx, hy, hlen, t0, t1⟩
  by_cases hz : y = 0
  · have d1 : decide (y ≠ 0) = false := decide_eq_false fun z => z hz
    have w1 : IntKind.i64.wrap (0 - x) = -x := by rw [wrap_in (by omega) (by omega)]; omega
    have hgz : ((Int.gcd a b : Nat) : Int) = max x (-x) := by rw [← hg, hz, gcd_zero]
    by_cases hn : x < 0
    · have d2 : decide (x < 0) = true := decide_eq_true hn
      have e : ((Int.gcd a b : Nat) : Int) = -x := by omega
      refine Rs (A5 @t0 @t1 @d1 @d2 @w1) ?_
      rw [e]
    · have d2 : decide (x < 0) = false := decide_eq_false hn
      have e : ((Int.gcd a b : Nat) : Int) = x := by omega
      refine Rs (A4 @t0 @t1 @d1 @d2) ?_
      rw [e]
  · have d1 : decide (y ≠ 0) = true := decide_eq_true hz
    have r1 := bin_rem (k := .i64) (a := x) (b := y) hz
    have hlt := tmod_lt (x := x) hz
    refine Rs (A4 @t0 @t1 @d1 @r1) ?_
    exact ⟨(x.tmod y).natAbs, hlt, y, x.tmod y, rfl, gcd_step.trans hg, hy, by omega, rfl, rfl⟩
set_option maxHeartbeats 1000000 in
theorem r129 (n d : Int) (hn : n.natAbs < 2 ^ 62) (hd : 0 < d) (hd2 : d < 2 ^ 62) : RCall P 129 [.int .i64 n, .int .i64 d] h (fun v _ => v = .agg (ratR (ratI n d))) := by
  refine .st2 16 T.mix T.c129 ?_;intro ts hlen t0 t1;unfold fn129
  have g := gcd_le (n := n) hd
  have q1 := quo_bd g.1 (n := n) (B := 2 ^ 62) (by omega)
  have q2 := quo_bd g.1 (n := d) (B := 2 ^ 62) (by omega)
  obtain ⟨G, hG⟩ : ∃ G : Int, G = ((Int.gcd n d : Nat) : Int) := ⟨_, rfl⟩
  have hr : ratI n d = (n.tdiv G, d.tdiv G) := by rw [hG]; rfl
  refine Rs (A2 @t0 @t1) ?_
  refine WF.ce T.c186 (r186 T n d hn (by omega)) fun g1 => ?_
  rw [← hG] at g q1 q2 ⊢
  have hz : G ≠ 0 := by omega
  have b1 : binK .quo (.int .i64 n) (.int .i64 G) = some (.int .i64 (n.tdiv G)) := by rw [bin_quo hz, wrap_in (by omega) (by omega)]
  have b2 : binK .quo (.int .i64 d) (.int .i64 G) = some (.int .i64 (d.tdiv G)) := by rw [bin_quo hz, wrap_in (by omega) (by omega)]
  rw [hr]
  unfold ratR
  have st := @rat_st (n.tdiv G) (d.tdiv G)
  exact Rs (A5 @t0 @t1 @b1 @b2 @st) trivial
set_option maxHeartbeats 1000000 in
theorem z132 (n d : Int) (hn : n.natAbs < 2 ^ 62) (hd : 0 < d) (hd2 : d < 2 ^ 62) : RCall P 132 [.int .i64 n, .int .i64 d] h (fun v _ => v = .agg (ratR (ratI n d))) := by
  refine .st2 22 T.mix T.c132 ?_;intro ts hlen t0 t1;unfold fn132
  have g := gcd_le (n := n) hd
  have q1 := quo_bd g.1 (n := n) (B := 2 ^ 62) (by omega)
  have q2 := quo_bd g.1 (n := d) (B := 2 ^ 62) (by omega)
  obtain ⟨G, hG⟩ : ∃ G : Int, G = ((Int.gcd n d : Nat) : Int) := ⟨_, rfl⟩
  have hr : ratI n d = (n.tdiv G, d.tdiv G) := by rw [hG]; rfl
  have d1 : decide (d < 0) = false := decide_eq_false (by omega)
  refine Rs (A3 @t0 @t1 @d1) ?_
  refine WF.ce T.c152 (z152 T n d hn (by omega)) fun g1 => ?_
  rw [← hG] at g q1 q2 ⊢
  have hz : G ≠ 0 := by omega
  have b1 : binK .quo (.int .i64 n) (.int .i64 G) = some (.int .i64 (n.tdiv G)) := by rw [bin_quo hz, wrap_in (by omega) (by omega)]
  have b2 : binK .quo (.int .i64 d) (.int .i64 G) = some (.int .i64 (d.tdiv G)) := by rw [bin_quo hz, wrap_in (by omega) (by omega)]
  rw [hr]
  unfold ratR
  have st := @rat_st (n.tdiv G) (d.tdiv G)
  exact Rs (A5 @t0 @t1 @b1 @b2 @st) trivial
end
end Go.Abs
namespace Go.Abs

def chkT1 (x : Int × Int) : Int := firstS [rangeS x.1 0 100000, rangeS x.2 (-64) 64]
def lateT (p : Option (Int × Int)) (x : Int × Int) : Bool :=
  match p with
  | none => false
  | some y => decide (x.1 ≤ y.1)
/-- The error of rows behind one. -/
def chkTF : List (Int × Int) → Option (Int × Int) → Int
  | [], _ => 0
  | x :: r, p => if chkT1 x ≠ 0 then chkT1 x else if lateT p x = true then 11 else chkTF r (some x)
def chkTs (l : List (Int × Int)) : Int := if l.length = 0 then 12 else if 16 < l.length then 5 else chkTF l none
def interT (a b : Int × Int) (t : Int) : Int × Int := ratI (a.2 * (b.1 - a.1) + (b.2 - a.2) * (t - a.1)) (b.1 - a.1)
def lvlF : List (Int × Int) → Option (Int × Int) → Int → Option (Int × Int)
  | [], _, _ => none
  | b :: r, p, t => if b.1 < t then lvlF r (some b) t else some (match p with
    | none => (b.2, 1)
    | some a => interT a b t)
def lvlS (l : List (Int × Int)) (t : Int) : Int × Int := (lvlF l none t).getD ((l.getD (l.length - 1) (0, 0)).2, 1)
/-- The row ahead of an index. -/
def preT (l : List (Int × Int)) (k : Nat) : Option (Int × Int) := if k = 0 then none else l[k - 1]?
theorem preT_succ {l : List (Int × Int)} {k : Nat} (h : k < l.length) : preT l (k + 1) = some l[k] := by
  rw [preT, if_neg (by omega), Nat.add_sub_cancel, List.getElem?_eq_getElem h]
/-- Rows that are in their ranges, each one later than the one before. -/
structure TdOk (l : List (Int × Int)) : Prop where
  r : ∀ x ∈ l, 0 ≤ x.1 ∧ x.1 ≤ 100000 ∧ -64 ≤ x.2 ∧ x.2 ≤ 64
  o : ∀ k (h : k + 1 < l.length), (l[k]'(by omega)).1 < l[k + 1].1
theorem rangeS_z {n lo hi : Int} : rangeS n lo hi = 0 ↔ lo ≤ n ∧ n ≤ hi := by
  unfold rangeS
  by_cases h : n < lo ∨ hi < n
  · rw [if_pos h]; omega
  · rw [if_neg h]; omega
theorem first2 {a b : Int} (h : firstS [a, b] = 0) : a = 0 ∧ b = 0 := by
  simp only [firstS] at h
  by_cases ha : a = 0
  · rw [if_pos ha] at h
    by_cases hb : b = 0
    · exact ⟨ha, hb⟩
    · rw [if_neg hb] at h; exact absurd h hb
  · rw [if_neg ha] at h; exact absurd h ha
theorem chkT1_z {x : Int × Int} (h : chkT1 x = 0) : 0 ≤ x.1 ∧ x.1 ≤ 100000 ∧ -64 ≤ x.2 ∧ x.2 ≤ 64 := by
  obtain ⟨a, b⟩ := first2 h
  have := rangeS_z.1 a; have := rangeS_z.1 b; omega
theorem chkTF_z : ∀ {l : List (Int × Int)} {p}, chkTF l p = 0 → (∀ x ∈ l, chkT1 x = 0) ∧ (∀ x, l.head? = some x → lateT p x = false) ∧ ∀ k (h : k + 1 < l.length), (l[k]'(by omega)).1 < l[k + 1].1
  | [], _, _ => ⟨fun x hx => (by cases hx), fun x hx => (by cases hx), fun k h => (by simp at h)⟩
  | x :: r, p, h => by
    rw [chkTF] at h
    by_cases h1 : chkT1 x = 0
    · rw [if_neg (fun z => z h1)] at h
      cases h2 : lateT p x with
      | true => rw [h2, if_pos rfl] at h; cases h
      | false =>
        rw [h2, if_neg (by simp)] at h
        obtain ⟨i1, i2, i3⟩ := chkTF_z h
        refine ⟨fun y hy => ?_, fun y hy => ?_, fun k hk => ?_⟩
        · rcases List.mem_cons.1 hy with rfl | hy
          · exact h1
          · exact i1 y hy
        · cases hy; exact h2
        · cases k with
          | zero =>
            cases r with
            | nil => simp at hk
            | cons y s =>
              have := i2 y rfl
              simp only [lateT, decide_eq_false_iff_not] at this
              show x.1 < y.1
              omega
          | succ k => exact i3 k (by simpa using hk)
    · rw [if_pos h1] at h; exact absurd h h1
theorem chkTs_z {l : List (Int × Int)} (h : chkTs l = 0) : TdOk l ∧ 1 ≤ l.length ∧ l.length ≤ 16 := by
  unfold chkTs at h
  split at h
  · cases h
  split at h
  · cases h
  obtain ⟨a, _, b⟩ := chkTF_z h
  exact ⟨⟨fun x hx => chkT1_z (a x hx), b⟩, by omega, by omega⟩
theorem inter_bd {a b : Int × Int} {t : Int} (ha : 0 ≤ a.1 ∧ a.1 ≤ 100000 ∧ -64 ≤ a.2 ∧ a.2 ≤ 64) (hb : 0 ≤ b.1 ∧ b.1 ≤ 100000 ∧ -64 ≤ b.2 ∧ b.2 ≤ 64) (ht : 0 ≤ t ∧ t ≤ 100000) :
    (-6400000 ≤ a.2 * (b.1 - a.1) ∧ a.2 * (b.1 - a.1) ≤ 6400000) ∧ (-12800000 ≤ (b.2 - a.2) * (t - a.1) ∧ (b.2 - a.2) * (t - a.1) ≤ 12800000) := by
  have key : ∀ {x y X Y : Int}, -X ≤ x → x ≤ X → -Y ≤ y → y ≤ Y → -(X * Y) ≤ x * y ∧ x * y ≤ X * Y := fun {x y X Y} h1 h2 h3 h4 => by
    have hX : 0 ≤ X := by omega
    have hY : 0 ≤ Y := by omega
    have e : (x * y).natAbs ≤ (X * Y).natAbs := by
      rw [Int.natAbs_mul, Int.natAbs_mul]
      exact Nat.mul_le_mul (by omega) (by omega)
    have p := Int.mul_nonneg hX hY
    omega
  have k1 := key (x := a.2) (y := b.1 - a.1) (X := 64) (Y := 100000) (by omega) (by omega) (by omega) (by omega)
  have k2 := key (x := b.2 - a.2) (y := t - a.1) (X := 128) (Y := 100000) (by omega) (by omega) (by omega) (by omega)
  omega
set_option maxRecDepth 10000
attribute [local irreducible] WP WC WE WB WR WF WL WG WRg WQ
section
variable {P : Program} (T : Tbl P) {h : AHeap}
include T
set_option maxHeartbeats 1000000 in
theorem r140 (x : Int × Int) : RCall P 140 [.agg (ratR x)] h (fun v _ => v = .int .i64 (chkT1 x)) := by
  unfold ratR
  refine .st1 11 T.mix T.c140 ?_;intro ts hlen t0;unfold fn140
  have bx : ∀ {N : Nat}, boxF (.agg [.int .i64 x.1, .int .i64 x.2]) N = some (.ptr N 0, .push (.cells [.int .i64 x.1, .int .i64 x.2] true false)) := fun {N} => rfl
  refine Rs (A2 @t0 @bx) ?_
  refine WF.ce T.c120 (r120 T _ _ _) fun g1 => ?_
  refine Rs @t0 ?_
  refine WF.ce T.c120 (r120 T _ _ _) fun g2 => ?_
  refine Rs @t0 ?_
  refine WF.ce T.c116 (r116 T (isSl_ints [_, _]) (by simp)) fun g3 => ?_
  refine Rs @t0 ?_
  rfl
set_option maxHeartbeats 1000000 in
theorem r191 (a b : Int) : RCall P 191 [.int .i64 a, .int .i64 b] h (fun v _ => v = .int .i64 (if a < b then -1 else if b < a then 1 else 0)) := by
  refine .st2 20 T.mix T.c191 ?_;intro ts hlen t0 t1;unfold fn191
  have nan : ∀ {x : Int} {k : AHeap}, RCall P 221 [.int .i64 x] k (fun v _ => v = .bool false) := fun {x k} => by
    refine .of T.mix T.c221 ?_
    unfold fn221
    have d : decide (x ≠ x) = false := decide_eq_false fun z => z rfl
    exact Ws @d trivial
  refine Rs (A2 @t0 @t1) ?_
  refine WF.ce T.c221 nan fun g1 => ?_
  refine Rs (A2 @t0 @t1) ?_
  refine WF.ce T.c221 nan fun g2 => ?_
  by_cases h1 : a < b
  · have d1 : decide (a < b) = true := decide_eq_true h1
    refine Rs (A3 @t0 @t1 @d1) ?_
    rw [if_pos h1]
  have d1 : decide (a < b) = false := decide_eq_false h1
  by_cases h2 : b < a
  · have d2 : decide (b < a) = true := decide_eq_true h2
    refine Rs (A4 @t0 @t1 @d1 @d2) ?_
    rw [if_neg h1, if_pos h2]
  · have d2 : decide (b < a) = false := decide_eq_false h2
    refine Rs (A4 @t0 @t1 @d1 @d2) ?_
    rw [if_neg h1, if_neg h2]
set_option maxHeartbeats 1000000 in
theorem r139 (x y : Int × Int) : RCall P 139 [.agg (ratR x), .agg (ratR y)] h (fun v _ => v = .int .i64 (if x.1 < y.1 then -1 else if y.1 < x.1 then 1 else 0)) := by
  unfold ratR
  refine .st2 10 T.mix T.c139 ?_;intro ts hlen t0 t1;unfold fn139
  have bx : ∀ {N : Nat} {z : Int × Int}, boxF (.agg [.int .i64 z.1, .int .i64 z.2]) N = some (.ptr N 0, .push (.cells [.int .i64 z.1, .int .i64 z.2] true false)) := fun {N z} => rfl
  refine Rs (A3 @t0 @t1 @bx) ?_
  refine WF.ce T.c191 (r191 T _ _) fun g1 => ?_
  exact Rs (A2 @t0 @t1) trivial
end
end Go.Abs
