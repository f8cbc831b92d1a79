/- Contracts: the powers of the imaginary unit, by the program and by the reference. No condition. · Panels: sums turned by powers of the imaginary unit, there and back; their energy: plain. No condition. · Contracts: a pair turned by the program's table of powers. No condition. · Contracts: a response at one frequency, by the reference. No condition. · Contracts: the responses by the program. No condition. · Contracts: grids of four by four Gaussian integers, transformed. No condition. · The prediction with the least error: plain. No condition. · A list less a multiple; quotients compared: plain. No condition. · Contracts: inner products by the program and by the reference. No condition. · Contracts: fitting lists checked; their sums by the reference. No condition. · Contracts: the sums of a fitting list by the program. No condition. · Contract: a grid transformed. No condition. · Contracts: predictions by the program. No condition. · Contracts: predictions checked, and the least error, by the program. No condition. · Contracts: predictions by the reference. No condition. · Taps undone, and applied again; ghosts taken off, and put on again: plain. No condition. · Contracts: quiet lists, a number in a list; what is heard when all fits. No condition. · Samples added; lists made cell by cell; copies of one's own. No condition. · Contracts: parts of panels: numbers of sixteenths up to 2 ^ 18. No condition. · Contracts: panels checked. No condition. · Contract: a panel kept by a mask. No condition. · Contract: the panel of four traces. No condition. · Contract: the panel of four traces, whole; traces checked. No condition. · Contract: four traces out of a panel. No condition. · Contract: four traces out of a panel, whole; panels compared. No condition. · Contract: Unpanel; traces checked by the reference. No condition. · Contract: traces checked by the reference. No condition. · Sums of cells of panels, and panels turned: by value. No condition. · Kept panels, energies added cell by cell, complex numbers turned by -i: plain. No condition. -/
import Derived.Test.YtbgldbmgjcgepaaGreatDoorFx11
set_option linter.all false
namespace Go.Abs

theorem ext_setG {h K : AHeap} {b : Nat} {X : ABlk} (e : Ext h K) (hb : h.length ≤ b) : Ext h (K.set b X) := by
  obtain ⟨z, rfl⟩ := e
  rw [List.set_append_right _ _ hb]; exact ⟨_, rfl⟩
def powN : Nat → Int × Int
  | 0 => (1, 0)
  | k + 1 => tmI (powN k) (0, 1)
theorem powN_bd : ∀ k, bdI 1 (powN k)
  | 0 => by unfold bdI powN; decide
  | k + 1 => by
    obtain ⟨⟨h1, h2⟩, h3, h4⟩ := powN_bd k
    unfold bdI powN tmI
    simp only [Int.mul_zero, Int.mul_one]
    omega
theorem powN_4 : ∀ k, powN (k + 4) = powN k
  | 0 => by decide
  | k + 1 => by
    show tmI (powN (k + 4)) (0, 1) = tmI (powN k) (0, 1)
    rw [powN_4 k]
theorem powN_mod (n : Nat) : powN (n % 4) = powN n := by
  have key : ∀ q r, powN (4 * q + r) = powN r := fun q r => by
    induction q with
    | zero => simp
    | succ q ih => rw [show 4 * (q + 1) + r = (4 * q + r) + 4 by omega, powN_4, ih]
  conv => rhs; rw [show n = 4 * (n / 4) + n % 4 by omega]
  rw [key]
set_option maxRecDepth 10000
attribute [local irreducible] WP WC WE WB WR WF WL WG WRg WQ
section
variable {P : Program} (T : Tbl P) {h : AHeap}
include T
end
end Go.Abs
namespace Go.Abs

theorem pw_ext {a b : Int × Int} (h1 : a.1 = b.1) (h2 : a.2 = b.2) : a = b := Prod.ext h1 h2
theorem powN_add (a : Nat) : ∀ b : Nat, powN (a + b) = tmI (powN a) (powN b)
  | 0 => by refine pw_ext ?_ ?_ <;> simp [powN, tmI]
  | b + 1 => by
    show tmI (powN (a + b)) (0, 1) = tmI (powN a) (tmI (powN b) (0, 1))
    rw [powN_add a b]
    refine pw_ext ?_ ?_ <;> simp only [tmI] <;> grind
/-- The sum of four numbers, turned; and of four times four. -/
def dftF (w : Nat) (f : Nat → Int × Int) (k : Nat) : Int × Int := plI (plI (plI (f 0) (tmI (f 1) (powN (w * k)))) (tmI (f 2) (powN (w * (k * 2))))) (tmI (f 3) (powN (w * (k * 3))))
def trJ (G : Nat → Nat → Int × Int) (w k m i : Nat) (z : Int × Int) : Nat → Int × Int
  | 0 => z
  | j + 1 => plI (trJ G w k m i z j) (tmI (G i j) (powN (w * (k * i + m * j))))
def trI (G : Nat → Nat → Int × Int) (w k m : Nat) : Nat → Int × Int
  | 0 => (0, 0)
  | i + 1 => trJ G w k m i (trI G w k m i) 4
def trG (G : Nat → Nat → Int × Int) (w k m : Nat) : Int × Int := trI G w k m 4
theorem pl_assoc (a b c : Int × Int) : plI (plI a b) c = plI a (plI b c) := by refine pw_ext ?_ ?_ <;> simp only [plI] <;> omega
theorem tm_pl (a b c : Int × Int) : tmI (plI a b) c = plI (tmI a c) (tmI b c) := by refine pw_ext ?_ ?_ <;> simp only [plI, tmI] <;> grind
theorem tm_assoc (a b c : Int × Int) : tmI (tmI a b) c = tmI a (tmI b c) := by refine pw_ext ?_ ?_ <;> simp only [tmI] <;> grind
theorem tm_one (a : Int × Int) : tmI a (powN 0) = a := by refine pw_ext ?_ ?_ <;> simp [tmI, powN]
theorem trJ_d4 (G : Nat → Nat → Int × Int) (w k m i : Nat) (z : Int × Int) : trJ G w k m i z 4 = plI z (tmI (dftF w (G i) m) (powN (w * (k * i)))) := by
  simp only [trJ]
  have e : ∀ j, tmI (G i j) (powN (w * (k * i + m * j))) = tmI (tmI (G i j) (powN (w * (m * j)))) (powN (w * (k * i))) := fun j => by
    rw [tm_assoc, ← powN_add, show w * (k * i + m * j) = w * (m * j) + w * (k * i) by rw [Nat.mul_add, Nat.add_comm]]
  rw [e, e, e, e, dftF, Nat.mul_zero, Nat.mul_zero, tm_one, Nat.mul_one, tm_pl, tm_pl, tm_pl]
  simp only [pl_assoc]
theorem trG_d4 (G : Nat → Nat → Int × Int) (w k m : Nat) : trG G w k m = dftF w (fun i => dftF w (G i) m) k := by
  simp only [trG, trI, trJ_d4, dftF, Nat.mul_zero, tm_one, Nat.mul_one]
  have z : ∀ a : Int × Int, plI (0, 0) a = a := fun a => by refine pw_ext ?_ ?_ <;> simp [plI]
  rw [z]
/-- The other order. -/
theorem d4_swap (w : Nat) (G : Nat → Nat → Int × Int) (k m : Nat) : dftF w (fun i => dftF w (fun j => G i j) m) k = dftF w (fun j => dftF w (fun i => G i j) k) m := by
  simp only [dftF]
  generalize powN (w * k) = p1, powN (w * (k * 2)) = p2, powN (w * (k * 3)) = p3, powN (w * m) = q1, powN (w * (m * 2)) = q2, powN (w * (m * 3)) = q3
  refine pw_ext ?_ ?_ <;> simp only [plI, tmI] <;> grind
def scalF4 (z : Int × Int) : Int × Int := (4 * z.1, 4 * z.2)
theorem four {n : Nat} (h : n < 4) : n = 0 ∨ n = 1 ∨ n = 2 ∨ n = 3 := by omega
theorem d4_back (f : Nat → Int × Int) {n : Nat} (h : n < 4) : dftF 1 (fun k => dftF 3 f k) n = scalF4 (f n) := by
  have p0 : powN 0 = (1, 0) := rfl
  have p1 : powN 1 = (0, 1) := by decide
  have p2 : powN 2 = (-1, 0) := by decide
  have p3 : powN 3 = (0, -1) := by decide
  have p4 : powN 4 = (1, 0) := by decide
  have p6 : powN 6 = (-1, 0) := by decide
  have p9 : powN 9 = (0, 1) := by decide
  have p12 : powN 12 = (1, 0) := by decide
  have p18 : powN 18 = (-1, 0) := by decide
  have p27 : powN 27 = (0, -1) := by decide
  rcases four h with rfl | rfl | rfl | rfl <;>
  · refine pw_ext ?_ ?_ <;> simp only [dftF, plI, tmI, scalF4, Nat.reduceMul, p0, p1, p2, p3, p4, p6, p9, p12, p18, p27] <;> omega
theorem d4_lin (w : Nat) (f : Nat → Int × Int) (k : Nat) : dftF w (fun i => scalF4 (f i)) k = scalF4 (dftF w f k) := by
  simp only [dftF]
  generalize powN (w * k) = p1, powN (w * (k * 2)) = p2, powN (w * (k * 3)) = p3
  refine pw_ext ?_ ?_ <;> simp only [plI, tmI, scalF4] <;> grind
/-- THERE AND BACK. -/
theorem tr_back (G : Nat → Nat → Int × Int) {n t : Nat} (hn : n < 4) (ht : t < 4) : trG (fun k m => trG G 3 k m) 1 n t = scalF4 (scalF4 (G n t)) := by
  rw [trG_d4]
  simp only [trG_d4]
  rw [d4_swap]
  have e : ∀ m, dftF 1 (fun k => dftF 3 (fun i => dftF 3 (G i) m) k) n = scalF4 (dftF 3 (G n) m) := fun m => d4_back (fun i => dftF 3 (G i) m) hn
  simp only [e]
  rw [d4_lin, d4_back _ ht]
def nsq (z : Int × Int) : Int := z.1 * z.1 + z.2 * z.2
def sumF4 (f : Nat → Int) : Int := f 0 + f 1 + f 2 + f 3
theorem d4_energy (f : Nat → Int × Int) : sumF4 (fun k => nsq (dftF 3 f k)) = 4 * sumF4 (fun j => nsq (f j)) := by
  have p0 : powN 0 = (1, 0) := rfl
  have p3 : powN 3 = (0, -1) := by decide
  have p6 : powN 6 = (-1, 0) := by decide
  have p9 : powN 9 = (0, 1) := by decide
  have p12 : powN 12 = (1, 0) := by decide
  have p18 : powN 18 = (-1, 0) := by decide
  have p27 : powN 27 = (0, -1) := by decide
  simp only [sumF4, nsq, dftF, plI, tmI, Nat.reduceMul, p0, p3, p6, p9, p12, p18, p27]
  generalize f 0 = a, f 1 = b, f 2 = c, f 3 = d
  grind
theorem s4_swap (f : Nat → Nat → Int) : sumF4 (fun i => sumF4 (fun j => f i j)) = sumF4 (fun j => sumF4 (fun i => f i j)) := by simp only [sumF4]; omega
theorem s4_mul (c : Int) (f : Nat → Int) : sumF4 (fun i => c * f i) = c * sumF4 f := by simp only [sumF4]; grind
/-- THE ENERGY OF A PANEL. -/
theorem tr_energy (G : Nat → Nat → Int × Int) : sumF4 (fun k => sumF4 (fun m => nsq (trG G 3 k m))) = 16 * sumF4 (fun i => sumF4 (fun j => nsq (G i j))) := by
  simp only [trG_d4]
  rw [s4_swap]
  have e : ∀ m, sumF4 (fun k => nsq (dftF 3 (fun i => dftF 3 (G i) m) k)) = 4 * sumF4 (fun i => nsq (dftF 3 (G i) m)) := fun m => d4_energy (fun i => dftF 3 (G i) m)
  simp only [e]
  rw [s4_mul, s4_swap]
  simp only [d4_energy]
  rw [s4_mul]; omega
/-- A trace that comes one place later, around its end. -/
def rotF (f : Nat → Int × Int) (n : Nat) : Int × Int := f ((n + 3) % 4)
def turn3 (z : Int × Int) : Nat → Int × Int
  | 0 => z
  | i + 1 => ((turn3 z i).2, -(turn3 z i).1)
theorem d4_rot (f : Nat → Int × Int) {k : Nat} (h : k < 4) : dftF 3 (rotF f) k = turn3 (dftF 3 f k) k := by
  have p0 : powN 0 = (1, 0) := rfl
  have p3 : powN 3 = (0, -1) := by decide
  have p6 : powN 6 = (-1, 0) := by decide
  have p9 : powN 9 = (0, 1) := by decide
  have p12 : powN 12 = (1, 0) := by decide
  have p18 : powN 18 = (-1, 0) := by decide
  have p27 : powN 27 = (0, -1) := by decide
  rcases four h with rfl | rfl | rfl | rfl <;>
  · refine pw_ext ?_ ?_ <;> simp only [dftF, rotF, turn3, plI, tmI, Nat.reduceMul, Nat.reduceAdd, Nat.reduceMod, p0, p3, p6, p9, p12, p18, p27] <;> omega
/-- A PANEL OF TRACES THAT COME ONE PLACE LATER. -/
theorem tr_rot (G : Nat → Nat → Int × Int) {k m : Nat} (h : k < 4) : trG (fun i j => G ((i + 3) % 4) j) 3 k m = turn3 (trG G 3 k m) k := by
  rw [trG_d4, trG_d4]
  exact d4_rot (fun i => dftF 3 (G i) m) h
/-- How great the parts are. -/
theorem powN_cases (n : Nat) : powN n = (1, 0) ∨ powN n = (0, 1) ∨ powN n = (-1, 0) ∨ powN n = (0, -1) := by
  rw [← powN_mod]
  rcases four (Nat.mod_lt n (by decide)) with h | h | h | h <;> rw [h] <;> decide
theorem tm_bd {B : Int} {z : Int × Int} (h : bdI B z) (n : Nat) : bdI B (tmI z (powN n)) := by
  obtain ⟨⟨a1, a2⟩, a3, a4⟩ := h
  rcases powN_cases n with e | e | e | e <;> rw [e] <;> unfold bdI tmI <;> simp only <;> omega
theorem d4_bd {w : Nat} {f : Nat → Int × Int} {B : Int} (h : ∀ i, i < 4 → bdI B (f i)) (k : Nat) : bdI (4 * B) (dftF w f k) := by
  obtain ⟨⟨a1, a2⟩, a3, a4⟩ := h 0 (by omega)
  obtain ⟨⟨b1, b2⟩, b3, b4⟩ := tm_bd (h 1 (by omega)) (w * k)
  obtain ⟨⟨c1, c2⟩, c3, c4⟩ := tm_bd (h 2 (by omega)) (w * (k * 2))
  obtain ⟨⟨e1, e2⟩, e3, e4⟩ := tm_bd (h 3 (by omega)) (w * (k * 3))
  unfold bdI dftF plI
  simp only
  omega
theorem tr_bd {w : Nat} {G : Nat → Nat → Int × Int} {B : Int} (h : ∀ i j, i < 4 → j < 4 → bdI B (G i j)) (k m : Nat) : bdI (4 * (4 * B)) (trG G w k m) := by
  rw [trG_d4]
  exact d4_bd (fun i hi => d4_bd (fun j hj => h i j hi hj) m) k
end Go.Abs
namespace Go.Abs

def powCells : List AV := [.int .i64 1, .int .i64 0, .int .i64 0, .int .i64 1, .int .i64 (-1), .int .i64 0, .int .i64 0, .int .i64 (-1)]
/-- The program's table of powers, in its variable. -/
def Pwr (h : AHeap) : Prop := h[0]? = some (.cells powCells false false)
theorem Pwr.ext {h k : AHeap} (p : Pwr h) (e : Ext h k) : Pwr k := e.some p
theorem pow_ld {h : AHeap} (p : Pwr h) {n : Nat} (hn : n < 4) {k : AHeap} (e : Ext h k) : loadF (some 2) (.ptr 0 (n * 2)) (fun b => k[b]?) = some (.agg (ratR (powN n)), .keep) := by
  rw [loadF_at (e.some p)]
  rcases (show n = 0 ∨ n = 1 ∨ n = 2 ∨ n = 3 by omega) with rfl | rfl | rfl | rfl <;> rfl
set_option maxRecDepth 10000
attribute [local irreducible] WP WC WE WB WR WF WL WG WRg WQ
section
variable {P : Program} (T : Tbl P) {h : AHeap}
include T
set_option maxHeartbeats 2000000 in
theorem r111 (p : Pwr h) {a : Int × Int} (ha : bdI (2 ^ 40) a) {n : Nat} (hn : n < 2 ^ 40) : RCall P 111 [.agg (ratR a), .int .i64 (n : Int)] h (fun v _ => v = .agg (ratR (tmI a (powN n)))) := by
  refine .st2 11 T.mix T.c111 ?_;intro ts hlen t0 t1;unfold fn111
  have r1 : binK .rem (.int .i64 (n : Int)) (.int .i64 4) = some (.int .i64 ((n % 4 : Nat) : Int)) := by rw [bin_rem (by decide), Int.tmod_eq_emod_of_nonneg (by omega)]; rfl
  have ld := fun {k : AHeap} (e : Ext h k) => @pow_ld h p (n % 4) (by omega) k e
  rw [powN_mod] at ld
  have ia : iadaF 4 2 (.ptr 0 0) (.int .i64 ((n % 4 : Nat) : Int)) = some (.ptr 0 (n % 4 * 2)) := by
    unfold iadaF
    have h1 : n % 4 < 4 := Nat.mod_lt _ (by decide)
    simp
    omega
  refine Rs (A7 @t0 @t1 @td_box @td_a @r1 @ia @ld) ?_
  refine WF.ce T.c183 (r183 T ha (powN_bd n)) fun g1 => ?_
  obtain ⟨B, hB⟩ : ∃ B, B = h ++ [ABlk.cells (ratR a) true false] := ⟨_, rfl⟩
  rw [← hB]
  have eY : Ext (B ++ [ABlk.cells [AV.int IntKind.i64 0, AV.int IntKind.i64 0] true false]) (B ++ [ABlk.cells [AV.int IntKind.i64 0, AV.int IntKind.i64 0] true false] ++ g1) := ⟨g1, rfl⟩
  obtain ⟨Y, hY⟩ : ∃ Y, Y = B ++ [ABlk.cells [AV.int IntKind.i64 0, AV.int IntKind.i64 0] true false] ++ g1 := ⟨_, rfl⟩
  rw [← hY] at eY ⊢
  have m4 : Y[B.length]? = some (.cells [.int .i64 0, .int .i64 0] true false) := eY.some at_new
  have s4 := @box_s Y B.length _ _ m4 (tmI a (powN n)).1 (tmI a (powN n)).2
  have l4 := @box_l Y B.length _ m4 (tmI a (powN n)).1 (tmI a (powN n)).2
  have eB : Ext h B := by rw [hB]; exact ⟨_, rfl⟩
  unfold ratR
  refine Rs (A2 @s4 @l4) ?_
  exact ⟨eB.trans (ext_set eY), trivial⟩
end
end Go.Abs
namespace Go.Abs

set_option maxRecDepth 10000
attribute [local irreducible] WP WC WE WB WR WF WL WG WRg WQ
section
variable {P : Program} (T : Tbl P) {h : AHeap}
include T
end
end Go.Abs
namespace Go.Abs

def z4 : List AV := [.cplx .f64 0 0, .cplx .f64 0 0, .cplx .f64 0 0, .cplx .f64 0 0]
/-- Four cells stored into their box. -/
theorem st4 {L : List AV} (hl : L.length = 4) (ho : L.all AV.one = true) {b : Nat} {a0 a1 a2 a3 : AV} : stB 4 0 (.agg L) b (.cells [a0, a1, a2, a3] true false) = some (undefA, .set b (.cells L true false)) := by
  obtain ⟨x0, x1, x2, x3, rfl⟩ : ∃ x0 x1 x2 x3, L = [x0, x1, x2, x3] := by
    match L, hl with
    | [x0, x1, x2, x3], _ => exact ⟨x0, x1, x2, x3, rfl⟩
  exact (stB_agg (l := [x0, x1, x2, x3]) rfl ho (by show 0 + 4 ≤ 4; omega)).trans rfl
set_option maxRecDepth 10000
attribute [local irreducible] WP WC WE WB WR WF WL WG WRg WQ
section
variable {P : Program} (T : Tbl P) {h : AHeap}
include T
end
end Go.Abs
namespace Go.Abs

/-- The cells of a row, and of a grid. -/
def roC (f : Nat → Int × Int) : List AV := [.int .i64 (f 0).1, .int .i64 (f 0).2, .int .i64 (f 1).1, .int .i64 (f 1).2, .int .i64 (f 2).1, .int .i64 (f 2).2, .int .i64 (f 3).1, .int .i64 (f 3).2]
def grC (G : Nat → Nat → Int × Int) : List AV := roC (G 0) ++ (roC (G 1) ++ (roC (G 2) ++ roC (G 3)))
def updG (G : Nat → Nat → Int × Int) (k m : Nat) (z : Int × Int) : Nat → Nat → Int × Int := fun a b => if a = k ∧ b = m then z else G a b
theorem grC_len (G : Nat → Nat → Int × Int) : (grC G).length = 32 := rfl
theorem grC_row {G : Nat → Nat → Int × Int} {k : Nat} (hk : k < 4) : ((grC G).drop (k * 8)).take 8 = roC (G k) := by rcases four hk with rfl | rfl | rfl | rfl <;> rfl
theorem roC_at {f : Nat → Int × Int} {m : Nat} (hm : m < 4) : ((roC f).drop (m * 2)).take 2 = ratR (f m) := by rcases four hm with rfl | rfl | rfl | rfl <;> rfl
theorem grC_at {G : Nat → Nat → Int × Int} {k m : Nat} (hk : k < 4) (hm : m < 4) : ((grC G).drop (k * 8 + m * 2)).take 2 = ratR (G k m) := by
  rcases four hk with rfl | rfl | rfl | rfl <;> rcases four hm with rfl | rfl | rfl | rfl <;> rfl
theorem grC_set {G : Nat → Nat → Int × Int} {k m : Nat} (hk : k < 4) (hm : m < 4) (z : Int × Int) : setL (grC G) (k * 8 + m * 2) (ratR z) = grC (updG G k m z) := by
  rcases four hk with rfl | rfl | rfl | rfl <;> rcases four hm with rfl | rfl | rfl | rfl <;> rfl
theorem grC_congr {G H : Nat → Nat → Int × Int} (h : ∀ a b, a < 4 → b < 4 → G a b = H a b) : grC G = grC H := by
  unfold grC roC
  simp only [h 0 0 (by omega) (by omega), h 0 1 (by omega) (by omega), h 0 2 (by omega) (by omega), h 0 3 (by omega) (by omega), h 1 0 (by omega) (by omega), h 1 1 (by omega) (by omega), h 1 2 (by omega) (by omega), h 1 3 (by omega) (by omega), h 2 0 (by omega) (by omega), h 2 1 (by omega) (by omega), h 2 2 (by omega) (by omega), h 2 3 (by omega) (by omega), h 3 0 (by omega) (by omega), h 3 1 (by omega) (by omega), h 3 2 (by omega) (by omega), h 3 3 (by omega) (by omega)]
/-- A grid that is made cell by cell. -/
def outP (F : Nat → Nat → Int × Int) (k m : Nat) (z : Int × Int) : Nat → Nat → Int × Int := fun a b => if a < k ∨ (a = k ∧ b < m) then F a b else if a = k ∧ b = m then z else (0, 0)
theorem outP_upd {F : Nat → Nat → Int × Int} {k m : Nat} {z z' : Int × Int} : updG (outP F k m z) k m z' = outP F k m z' := by
  funext a b
  unfold updG outP
  by_cases h : a = k ∧ b = m
  · obtain ⟨rfl, rfl⟩ := h
    simp
  · rw [if_neg h, if_neg h, if_neg h]
theorem outP_at {F : Nat → Nat → Int × Int} {k m : Nat} {z : Int × Int} : outP F k m z k m = z := by
  unfold outP
  rw [if_neg (by omega), if_pos ⟨rfl, rfl⟩]
theorem outP_next {F : Nat → Nat → Int × Int} {k m : Nat} : outP F k m (F k m) = outP F k (m + 1) (0, 0) := by
  funext a b
  unfold outP
  by_cases h1 : a < k ∨ (a = k ∧ b < m)
  · rw [if_pos h1, if_pos (by omega)]
  · rw [if_neg h1]
    by_cases h2 : a = k ∧ b = m
    · rw [if_pos h2, if_pos (by omega), h2.1, h2.2]
    · rw [if_neg h2, if_neg (by omega)]
      by_cases h3 : a = k ∧ b = m + 1
      · rw [if_pos h3]
      · rw [if_neg h3]
theorem outP_row {F : Nat → Nat → Int × Int} {k : Nat} : grC (outP F k 4 (0, 0)) = grC (outP F (k + 1) 0 (0, 0)) := grC_congr fun a b ha hb => by
  unfold outP
  by_cases h1 : a < k + 1
  · rw [if_pos (by omega), if_pos (by omega)]
  · rw [if_neg (by omega), if_neg (by omega)]
    by_cases h3 : a = k + 1 ∧ b = 0
    · rw [if_pos h3, if_neg (by omega)]
    · rw [if_neg h3, if_neg (by omega)]
theorem outP_all {F : Nat → Nat → Int × Int} : grC (outP F 4 0 (0, 0)) = grC F := grC_congr fun a b ha hb => by
  unfold outP
  rw [if_pos (by omega)]
theorem outP_zero {F : Nat → Nat → Int × Int} : grC (outP F 0 0 (0, 0)) = grC fun _ _ => (0, 0) := grC_congr fun a b ha hb => by
  unfold outP
  rw [if_neg (by omega)]
  by_cases h : a = 0 ∧ b = 0
  · rw [if_pos h]
  · rw [if_neg h]
theorem trJ_bd {G : Nat → Nat → Int × Int} {B : Int} (h : ∀ i j, i < 4 → j < 4 → bdI B (G i j)) (w k m : Nat) {i : Nat} (hi : i < 4) {z : Int × Int} {C : Int} (hz : bdI C z) : ∀ j : Nat, j ≤ 4 → bdI (C + j * B) (trJ G w k m i z j)
  | 0, _ => by simpa [trJ] using hz
  | j + 1, hj => by
    have h1 := trJ_bd h w k m hi hz j (by omega)
    obtain ⟨⟨b1, b2⟩, b3, b4⟩ := tm_bd (h i j hi (by omega)) (w * (k * i + m * j))
    obtain ⟨⟨a1, a2⟩, a3, a4⟩ := h1
    have e : C + ((j + 1 : Nat) : Int) * B = C + j * B + B := by rw [Int.natCast_add, Int.add_mul]; omega
    rw [e, trJ]
    unfold bdI plI
    simp only
    omega
theorem trI_bd {G : Nat → Nat → Int × Int} {B : Int} (h : ∀ i j, i < 4 → j < 4 → bdI B (G i j)) (w k m : Nat) : ∀ i : Nat, i ≤ 4 → bdI (i * (4 * B)) (trI G w k m i)
  | 0, _ => by simp [trI, bdI]
  | i + 1, hi => by
    have h1 := trI_bd h w k m i (by omega)
    have h2 := trJ_bd h w k m (by omega : i < 4) h1 4 (by omega)
    have e : ((i + 1 : Nat) : Int) * (4 * B) = i * (4 * B) + ((4 : Nat) : Int) * B := by rw [Int.natCast_add, Int.add_mul]; omega
    rw [e, trI]
    exact h2
end Go.Abs
namespace Go.Abs

end Go.Abs
namespace Go.Abs

end Go.Abs
namespace Go.Abs

set_option maxRecDepth 10000
attribute [local irreducible] WP WC WE WB WR WF WL WG WRg WQ
section
variable {P : Program} (T : Tbl P) {h : AHeap}
include T
end
end Go.Abs
namespace Go.Abs

set_option maxRecDepth 10000
attribute [local irreducible] WP WC WE WB WR WF WL WG WRg WQ
section
variable {P : Program} (T : Tbl P) {h : AHeap}
include T
end
end Go.Abs
namespace Go.Abs

theorem ldN {K : AHeap} {b n : Nat} {L : List AV} (m : K[b]? = some (.cells L true false)) (hl : L.length = n) {k : AHeap} (e : Ext K k) : loadF (some n) (.ptr b 0) (fun z => k[z]?) = some (.agg L, .keep) := by
  rw [loadF_at (e.some m)]
  show (if 0 + n ≤ L.length then some (AV.agg ((L.drop 0).take n), Eff.keep) else none) = _
  rw [if_pos (by omega), List.drop_zero, List.take_of_length_le (by omega)]
theorem setL_0 {c L : List AV} (h : c.length = L.length) : setL c 0 L = L := by
  have := setL_all L c [] h
  simpa using this
theorem stN {K : AHeap} {b n : Nat} {c L : List AV} (m : K[b]? = some (.cells c true false)) (hc : c.length = n) (hl : L.length = n) (ho : L.all AV.one = true) : storeF n (.ptr b 0) (.agg L) (fun z => K[z]?) = some (undefA, .set b (.cells L true false)) := by
  rw [storeF_at m, stB_agg hl ho (by omega), setL_0 (by omega)]
theorem ldNs {K : AHeap} {b n : Nat} {k0 : ABlk} {L : List AV} (m : K[b]? = some k0) (hl : L.length = n) : loadF (some n) (.ptr b 0) (fun z => (K.set b (.cells L true false))[z]?) = some (.agg L, .keep) := ldN (set_eq' m) hl (Ext.refl _)
set_option maxRecDepth 10000
attribute [local irreducible] WP WC WE WB WR WF WL WG WRg WQ
section
variable {P : Program} (T : Tbl P) {h : AHeap}
include T
end
end Go.Abs
namespace Go.Abs
theorem gr_ld {K : AHeap} {b k m : Nat} {O : Nat → Nat → Int × Int} (m5 : K[b]? = some (.cells (grC O) true false)) (hk : k < 4) (hm : m < 4) {kk : AHeap} (e : Ext K kk) : loadF (some 2) (.ptr b (k * 8 + m * 2)) (fun z => kk[z]?) = some (.agg (ratR (O k m)), .keep) := by
  rw [loadF_at (e.some m5)]
  show (if k * 8 + m * 2 + 2 ≤ (grC O).length then some (AV.agg (((grC O).drop (k * 8 + m * 2)).take 2), Eff.keep) else none) = _
  rw [if_pos (by rw [grC_len]; omega), grC_at hk hm]
theorem gr_st {K : AHeap} {b k m : Nat} {O : Nat → Nat → Int × Int} (m5 : K[b]? = some (.cells (grC O) true false)) (hk : k < 4) (hm : m < 4) (z : Int × Int) : storeF 2 (.ptr b (k * 8 + m * 2)) (.agg (ratR z)) (fun q => K[q]?) = some (undefA, .set b (.cells (grC (updG O k m z)) true false)) := by
  rw [storeF_at m5]
  show (if (ratR z).length = 2 ∧ (ratR z).all AV.one = true ∧ k * 8 + m * 2 + 2 ≤ (grC O).length then some (undefA, Eff.set b (.cells (setL (grC O) (k * 8 + m * 2) (ratR z)) true false)) else none) = _
  rw [if_pos ⟨rfl, rfl, by rw [grC_len]; omega⟩, grC_set hk hm]
theorem ia_48 {b k : Nat} (hk : k < 4) : iadaF 4 8 (.ptr b 0) (.int .i64 (k : Int)) = some (.ptr b (k * 8)) := by unfold iadaF; simp; omega
theorem ia_42 {b o m : Nat} (hm : m < 4) : iadaF 4 2 (.ptr b o) (.int .i64 (m : Int)) = some (.ptr b (o + m * 2)) := by unfold iadaF; simp; omega
theorem ix_48 {G : Nat → Nat → Int × Int} {i : Nat} (hi : i < 4) : ixaF 4 8 (some 8) (.agg (grC G)) (.int .i64 (i : Int)) = some (.agg (roC (G i))) := by
  unfold ixaF
  simp only [Int.toNat_natCast]
  rw [if_pos ⟨by omega, by omega⟩, grC_row hi]
theorem ix_42 {f : Nat → Int × Int} {j : Nat} (hj : j < 4) : ixaF 4 2 (some 2) (.agg (roC f)) (.int .i64 (j : Int)) = some (.agg (ratR (f j))) := by
  unfold ixaF
  simp only [Int.toNat_natCast]
  rw [if_pos ⟨by omega, by omega⟩, roC_at hj]
theorem lt4T {k : Nat} (h : k < 4) : decide ((k : Int) < 4) = true := decide_eq_true (by omega)
theorem lt4F {k : Nat} (h : ¬ k < 4) : decide ((k : Int) < 4) = false := decide_eq_false (by omega)
theorem wrapM {a b : Nat} (h : a * b < 2 ^ 40) : IntKind.i64.wrap ((a : Int) * (b : Int)) = ((a * b : Nat) : Int) := by
  rw [show (a : Int) * (b : Int) = ((a * b : Nat) : Int) from (Int.natCast_mul a b).symm, wrap_in (by omega) (by omega)]
set_option maxRecDepth 10000
attribute [local irreducible] WP WC WE WB WR WF WL WG WRg WQ
section
variable {P : Program} (T : Tbl P) {h : AHeap}
include T
set_option maxHeartbeats 8000000 in
theorem r143 (pw : Pwr h) {G : Nat → Nat → Int × Int} (hG : ∀ i j, i < 4 → j < 4 → bdI (2 ^ 20) (G i j)) {w : Nat} (hw : w ≤ 3) : RCall P 143 [.agg (grC G), .int .i64 (w : Int)] h (fun v _ => v = .agg (grC (trG G w))) := by
  refine .st2 54 T.mix T.c143 ?_;intro ts hlen t0 t1;unfold fn143
  have bg : ∀ {N : Nat}, boxF (.agg (grC G)) N = some (.ptr N 0, .push (.cells (grC G) true false)) := fun {N} => rfl
  have bz : ∀ {N : Nat}, boxF (.agg [.int .i64 0, .int .i64 0, .int .i64 0, .int .i64 0, .int .i64 0, .int .i64 0, .int .i64 0, .int .i64 0, .int .i64 0, .int .i64 0, .int .i64 0, .int .i64 0, .int .i64 0, .int .i64 0, .int .i64 0, .int .i64 0, .int .i64 0, .int .i64 0, .int .i64 0, .int .i64 0, .int .i64 0, .int .i64 0, .int .i64 0, .int .i64 0, .int .i64 0, .int .i64 0, .int .i64 0, .int .i64 0, .int .i64 0, .int .i64 0, .int .i64 0, .int .i64 0]) N = some (.ptr N 0, .push (.cells (grC fun _ _ => (0, 0)) true false)) := fun {N} => rfl
  have bz8 : ∀ {N : Nat}, boxF (.agg [.int .i64 0, .int .i64 0, .int .i64 0, .int .i64 0, .int .i64 0, .int .i64 0, .int .i64 0, .int .i64 0]) N = some (.ptr N 0, .push (.cells (roC fun _ => (0, 0)) true false)) := fun {N} => rfl
  have bz2 : ∀ {N : Nat}, boxF (.agg [.int .i64 0, .int .i64 0]) N = some (.ptr N 0, .push (.cells (ratR (0, 0)) true false)) := fun {N} => rfl
  have st8 : ∀ {n : Nat} {f : Nat → Int × Int}, stB 8 0 (.agg (roC f)) n (.cells (roC fun _ => (0, 0)) true false) = some (undefA, .set n (.cells (roC f) true false)) := fun {n f} => (stB_agg rfl rfl (by show 0 + 8 ≤ 8; omega)).trans rfl
  have st2 : ∀ {n : Nat} {z : Int × Int}, stB 2 0 (.agg (ratR z)) n (.cells (ratR (0, 0)) true false) = some (undefA, .set n (.cells (ratR z) true false)) := fun {n z} => (stB_agg rfl rfl (by show 0 + 2 ≤ 2; omega)).trans rfl
  have ld8 : ∀ {f : Nat → Int × Int}, ldB (some 8) 0 (.cells (roC f) true false) = some (.agg (roC f), .keep) := fun {f} => rfl
  have ld32 : ∀ {O : Nat → Nat → Int × Int}, ldB (some 32) 0 (.cells (grC O) true false) = some (.agg (grC O), .keep) := fun {O} => rfl
  obtain ⟨F, hF⟩ : ∃ F, F = trG G w := ⟨_, rfl⟩
  rw [← hF]
  refine Rs (A4 @t0 @t1 @bg @bz) ?_
  obtain ⟨E0, hE0⟩ : ∃ E0, E0 = h ++ [ABlk.cells (grC G) true false] ++ [ABlk.cells (grC fun _ _ => (0, 0)) true false] := ⟨_, rfl⟩
  have m2 : E0[h.length]? = some (.cells (grC G) true false) := by rw [hE0]; exact at_1
  have m4 : E0[(h ++ [ABlk.cells (grC G) true false]).length]? = some (.cells (grC fun _ _ => (0, 0)) true false) := by rw [hE0]; exact at_new
  have eh : Ext h E0 := by rw [hE0]; exact Xx
  obtain ⟨b2, hb2⟩ : ∃ b2, b2 = h.length := ⟨_, rfl⟩
  obtain ⟨b4, hb4⟩ : ∃ b4, b4 = (h ++ [ABlk.cells (grC G) true false]).length := ⟨_, rfl⟩
  rw [← hb2] at m2 ⊢
  rw [← hb4] at m4 ⊢
  rw [← hE0]
  obtain ⟨b5, hb5⟩ : ∃ b5, b5 = E0.length := ⟨_, rfl⟩
  obtain ⟨H1, hH1⟩ : ∃ H1, H1 = E0 ++ [ABlk.cells (grC fun _ _ => (0, 0)) true false] := ⟨_, rfl⟩
  have e1 : Ext E0 H1 := by rw [hH1]; exact Xx
  have m5 : H1[b5]? = some (.cells (grC (outP F 0 0 (0, 0))) true false) := by rw [hH1, hb5, outP_zero]; exact at_new
  rw [← hb5, ← hH1]
  have pE := pw.ext eh
  refine WL.inv T.mix (fun n ts K => ∃ k : Nat, k ≤ 4 ∧ n = 4 - k ∧ Ext E0 K ∧ K[b5]? = some (.cells (grC (outP F k 0 (0, 0))) true false) ∧ ts.length = 54 ∧ slot ts 1 = .int .i64 (w : Int) ∧ slot ts 2 = .ptr b2 0 ∧ slot ts 4 = .ptr b4 0 ∧ slot ts 5 = .ptr b5 0 ∧ slot ts 12 = .int .i64 k) 4
    ⟨0, by omega, rfl, e1, m5, Sn, (Sq @t1), Sw, Sw, Sw, Swr⟩ ?_
  clear hlen t0 t1 m5
  rintro _ ts K ⟨k, hk, rfl, eK, m5, hlen, t1, t2, t4, t5, t12⟩
  by_cases hk4 : k < 4
  case neg =>
    have e3 := lt4F hk4
    rw [show k = 4 by omega, outP_all] at m5
    have l5 := @ldx _ _ _ m5
    have s4 := stN (n := 32) (L := grC F) (eK.some m4) rfl rfl rfl
    have l4 := ldNs (n := 32) (L := grC F) (eK.some m4) rfl
    refine Rs (A10 @t1 @t2 @t4 @t5 @t12 @e3 @l5 @ld32 @s4 @l4) ?_
    exact ⟨ext_setG (eh.trans eK) (by rw [hb4]; simp), trivial⟩
  have e3 := lt4T hk4
  have e5 := wrapN (n := k) (by omega)
  refine Rs (A6 @t1 @t2 @t4 @t5 @t12 @e3) ?_
  refine WL.inv T.mix (fun n ts K => ∃ m : Nat, m ≤ 4 ∧ n = 4 - m ∧ Ext E0 K ∧ K[b5]? = some (.cells (grC (outP F k m (0, 0))) true false) ∧ ts.length = 54 ∧ slot ts 1 = .int .i64 (w : Int) ∧ slot ts 2 = .ptr b2 0 ∧ slot ts 4 = .ptr b4 0 ∧ slot ts 5 = .ptr b5 0 ∧ slot ts 6 = .int .i64 k ∧ slot ts 12 = .int .i64 k ∧ slot ts 15 = .int .i64 m) 4
    ⟨0, by omega, rfl, eK, m5, Sn, (Sq @t1), (Sq @t2), (Sq @t4), (Sq @t5), Sw, (Sq @t12), Swr⟩ ?_
  clear hlen t1 t2 t4 t5 t12 m5 eK
  rintro _ ts K ⟨m, hm, rfl, eK, m5, hlen, t1, t2, t4, t5, t6, t12, t15⟩
  by_cases hm4 : m < 4
  case neg =>
    have e4 := lt4F hm4
    rw [show m = 4 by omega, outP_row] at m5
    refine Rs (A9 @t1 @t2 @t4 @t5 @t6 @t12 @t15 @e4 @e5) ?_
    exact ⟨4 - (k + 1), by omega, k + 1, by omega, rfl, eK, m5, rfl⟩
  have e4 := lt4T hm4
  have e6 := wrapN (n := m) (by omega)
  have l2 := @ldx _ _ _ (eK.some m2)
  refine Rs (A10 @t1 @t2 @t4 @t5 @t6 @t12 @t15 @e4 @l2 @ld32) ?_
  refine WL.inv T.mix (fun n ts K => ∃ i : Nat, i ≤ 4 ∧ n = 4 - i ∧ Ext E0 K ∧ K[b5]? = some (.cells (grC (outP F k m (trI G w k m i))) true false) ∧ ts.length = 54 ∧ slot ts 1 = .int .i64 (w : Int) ∧ slot ts 2 = .ptr b2 0 ∧ slot ts 4 = .ptr b4 0 ∧ slot ts 5 = .ptr b5 0 ∧ slot ts 6 = .int .i64 k ∧ slot ts 7 = .int .i64 m ∧ slot ts 12 = .int .i64 k ∧ slot ts 15 = .int .i64 m ∧ slot ts 18 = .agg (grC G) ∧ slot ts 19 = .int .i64 i) 4
    ⟨0, by omega, rfl, eK, m5, Sn, (Sq @t1), (Sq @t2), (Sq @t4), (Sq @t5), (Sq @t6), Sw, (Sq @t12), (Sq @t15), Sw, Swr⟩ ?_
  clear hlen t1 t2 t4 t5 t6 t12 t15 m5 eK l2
  rintro _ ts K ⟨i, hi, rfl, eK, m5, hlen, t1, t2, t4, t5, t6, t7, t12, t15, t18, t19⟩
  by_cases hi4 : i < 4
  case neg =>
    have e7 := lt4F hi4
    have hz : trI G w k m i = F k m := by rw [hF, trG, show i = 4 by omega]
    rw [hz, outP_next] at m5
    refine Rs (A12 @t1 @t2 @t4 @t5 @t6 @t7 @t12 @t15 @t18 @t19 @e7 @e6) ?_
    exact ⟨4 - (m + 1), by omega, m + 1, by omega, rfl, eK, m5, rfl⟩
  have e7 := lt4T hi4
  have e8 := wrapN (n := i) (by omega)
  have xi := @ix_48 G i hi4
  refine Rs (A14 @t1 @t2 @t4 @t5 @t6 @t7 @t12 @t15 @t18 @t19 @e7 @xi @bz8 @st8) ?_
  obtain ⟨K1, hK1⟩ : ∃ K1, K1 = K ++ [ABlk.cells (roC (G i)) true false] := ⟨_, rfl⟩
  have eK1 : Ext K K1 := by rw [hK1]; exact Xx
  have m9 : K1[K.length]? = some (.cells (roC (G i)) true false) := by rw [hK1]; exact at_new
  have l9 := @ldx _ _ _ m9
  rw [← hK1]
  have m5 := eK1.some m5
  have eK := eK.trans eK1
  refine Rs (A12 @t1 @t2 @t4 @t5 @t6 @t7 @t12 @t15 @t18 @t19 @l9 @ld8) ?_
  clear l9 m9 hK1 eK1
  refine WL.inv T.mix (fun n ts K => ∃ j : Nat, j ≤ 4 ∧ n = 4 - j ∧ Ext E0 K ∧ K[b5]? = some (.cells (grC (outP F k m (trJ G w k m i (trI G w k m i) j))) true false) ∧ ts.length = 54 ∧ slot ts 1 = .int .i64 (w : Int) ∧ slot ts 2 = .ptr b2 0 ∧ slot ts 4 = .ptr b4 0 ∧ slot ts 5 = .ptr b5 0 ∧ slot ts 6 = .int .i64 k ∧ slot ts 7 = .int .i64 m ∧ slot ts 8 = .int .i64 i ∧ slot ts 12 = .int .i64 k ∧ slot ts 15 = .int .i64 m ∧ slot ts 18 = .agg (grC G) ∧ slot ts 19 = .int .i64 i ∧ slot ts 23 = .agg (roC (G i)) ∧ slot ts 24 = .int .i64 j) 4
    ⟨0, by omega, rfl, eK, m5, Sn, (Sq @t1), (Sq @t2), (Sq @t4), (Sq @t5), (Sq @t6), (Sq @t7), Sw, (Sq @t12), (Sq @t15), (Sq @t18), (Sq @t19), Sw, Swr⟩ ?_
  clear hlen t1 t2 t4 t5 t6 t7 t12 t15 t18 t19 m5 eK xi

  rintro _ ts K ⟨j, hj, rfl, eK, m5, hlen, t1, t2, t4, t5, t6, t7, t8, t12, t15, t18, t19, t23, t24⟩
  by_cases hj4 : j < 4
  case neg =>
    have e9 := lt4F hj4
    rw [show j = 4 by omega] at m5
    refine Rs (A15 @t1 @t2 @t4 @t5 @t6 @t7 @t8 @t12 @t15 @t18 @t19 @t23 @t24 @e9 @e8) ?_
    exact ⟨4 - (i + 1), by omega, i + 1, by omega, rfl, eK, m5, rfl⟩
  have e9 := lt4T hj4
  have e10 := wrapN (n := j) (by omega)
  have xj := @ix_42 (G i) j hj4
  refine Rs (A17 @t1 @t2 @t4 @t5 @t6 @t7 @t8 @t12 @t15 @t18 @t19 @t23 @t24 @e9 @xj @bz2 @st2) ?_
  obtain ⟨K1, hK1⟩ : ∃ K1, K1 = K ++ [ABlk.cells (ratR (G i j)) true false] := ⟨_, rfl⟩
  have eK1 : Ext K K1 := by rw [hK1]; exact Xx
  have m11 : K1[K.length]? = some (.cells (ratR (G i j)) true false) := by rw [hK1]; exact at_new
  have l11 := @ldx _ _ _ m11
  rw [← hK1]
  have m5 := eK1.some m5
  have eK := eK.trans eK1
  have ia := @ia_48 b5 k hk4
  have ib := @ia_42 b5 (k * 8) m hm4
  have l5 := fun {kk : AHeap} (e : Ext K1 kk) => gr_ld m5 hk4 hm4 e
  rw [outP_at] at l5
  have q1 : k * i ≤ 3 * 3 := Nat.mul_le_mul (by omega) (by omega)
  have q2 : m * j ≤ 3 * 3 := Nat.mul_le_mul (by omega) (by omega)
  have q3 : w * (k * i + m * j) ≤ 3 * 18 := Nat.mul_le_mul hw (by omega)
  have w1 := wrapM (a := k) (b := i) (by omega)
  have w2 := wrapM (a := m) (b := j) (by omega)
  have w3 : IntKind.i64.wrap (((k * i : Nat) : Int) + ((m * j : Nat) : Int)) = ((k * i + m * j : Nat) : Int) := by rw [wrap_in (by omega) (by omega)]; omega
  have w4 := wrapM (a := w) (b := k * i + m * j) (by omega)
  have bt := trJ_bd hG w k m hi4 (trI_bd hG w k m i (by omega)) j (by omega)
  have bt : bdI (2 ^ 40) (trJ G w k m i (trI G w k m i) j) := by
    obtain ⟨⟨a1, a2⟩, a3, a4⟩ := bt
    exact ⟨⟨by omega, by omega⟩, by omega, by omega⟩
  have bg' : bdI (2 ^ 40) (G i j) := by
    obtain ⟨⟨a1, a2⟩, a3, a4⟩ := hG i j hi4 hj4
    exact ⟨⟨by omega, by omega⟩, by omega, by omega⟩
  have bq : bdI (2 ^ 40) (tmI (G i j) (powN (w * (k * i + m * j)))) := tm_bd bg' _
  refine Rs (A22 @t1 @t2 @t4 @t5 @t6 @t7 @t8 @t12 @t15 @t18 @t19 @t23 @t24 @ia @ib @l5 @l11 @td_a @w1 @w2 @w3 @w4) ?_
  refine WF.ce T.c111 (r111 T (pE.ext eK) (a := G i j) (n := w * (k * i + m * j)) bg' (by omega)) fun g2 => ?_
  refine Rs (A13 @t1 @t2 @t4 @t5 @t6 @t7 @t8 @t12 @t15 @t18 @t19 @t23 @t24) ?_
  refine WF.ce T.c110 (r110 T bt bq) fun g3 => ?_
  have eG : Ext K1 (K1 ++ g2 ++ g3) := Xx
  obtain ⟨K2, hK2⟩ : ∃ K2, K2 = K1 ++ g2 ++ g3 := ⟨_, rfl⟩
  rw [← hK2] at eG ⊢
  have m5' := eG.some m5
  have s5 := gr_st m5' hk4 hm4 (plI (trJ G w k m i (trI G w k m i) j) (tmI (G i j) (powN (w * (k * i + m * j)))))
  rw [outP_upd] at s5
  refine Rs (A17 @t1 @t2 @t4 @t5 @t6 @t7 @t8 @t12 @t15 @t18 @t19 @t23 @t24 @ia @ib @s5 @e10) ?_
  exact ⟨4 - (j + 1), by omega, j + 1, by omega, rfl, ext_setG (eK.trans eG) (by omega), set_eq' m5', rfl⟩
end
end Go.Abs
namespace Go.Abs

set_option maxRecDepth 10000
attribute [local irreducible] WP WC WE WB WR WF WL WG WRg WQ
section
variable {P : Program} (T : Tbl P) {h : AHeap}
include T
end
end Go.Abs
namespace Go.Abs

set_option maxRecDepth 10000
attribute [local irreducible] WP WC WE WB WR WF WL WG WRg WQ
section
variable {P : Program} (T : Tbl P) {h : AHeap}
include T
end
end Go.Abs
namespace Go.Abs

set_option maxRecDepth 10000
attribute [local irreducible] WP WC WE WB WR WF WL WG WRg WQ
section
variable {P : Program} (T : Tbl P) {h : AHeap}
include T
end
end Go.Abs
namespace Go.Abs

end Go.Abs
namespace Go.Abs

theorem firstS_nil0 : ∀ {l : List Int}, (∀ x ∈ l, x = 0) → firstS l = 0
  | [], _ => rfl
  | a :: l, h => by
    rw [firstS, if_pos (h a (List.mem_cons_self ..))]
    exact firstS_nil0 fun x hx => h x (List.mem_cons_of_mem _ hx)
where
  mul_bd' {x y : Int} {X Y : Int} (h1 : -X ≤ x ∧ x ≤ X) (h2 : -Y ≤ y ∧ y ≤ Y) : -(X * Y) ≤ x * y ∧ x * y ≤ X * Y := by
    have e : (x * y).natAbs ≤ (X * Y).natAbs := by
      rw [Int.natAbs_mul, Int.natAbs_mul]
      exact Nat.mul_le_mul (by omega) (by omega)
    have p := Int.mul_nonneg (show 0 ≤ X by omega) (show 0 ≤ Y by omega)
    omega
set_option maxRecDepth 10000
attribute [local irreducible] WP WC WE WB WR WF WL WG WRg WQ
section
variable {P : Program} (T : Tbl P) {h : AHeap}
include T
end
end Go.Abs
namespace Go.Abs
open Ieee

theorem add_vl {s u : Bool} {m n : Nat} {i j : Int} (hi : -1200 ≤ i) (hj : -1200 ≤ j) : vl (.number s m i) + vl (.number u n j) = (signed s m (i - min i j).toNat + signed u n (j - min i j).toNat) * 2 ^ (min i j + 1200).toNat := by
  rw [vl_base (s := s) (m := m) (b := min i j) (by omega) (by omega), vl_base (s := u) (m := n) (b := min i j) (by omega) (by omega), Int.add_mul]
set_option maxRecDepth 10000
attribute [local irreducible] WP WC WE WB WR WF WL WG WRg WQ
section
variable {P : Program} (T : Tbl P) {h : AHeap}
include T
end
end Go.Abs
namespace Go.Abs
open Ieee

theorem mul16b {k b v} (h : Num k b v) (hv : v.natAbs ≤ 2 ^ 14 * UU.natAbs) : ∃ q, binK .mul (.flt k b) (.flt k (c16 k)) = some (.flt k q) ∧ binK .mul (.flt k (c16 k)) (.flt k b) = some (.flt k q) ∧ Num k q (16 * v) := by
  obtain ⟨s, m, e, h1, h2, rfl⟩ := h
  have hc := read_c16 k
  have hf := fmt_facts k
  have hl := (read_fin h1).2
  obtain ⟨F, hF⟩ : ∃ F, F = k.format.fractionBits := ⟨_, rfl⟩
  have p1 : k.format.mul b (c16 k) = some (k.format.write (.number s (m * 2 ^ F) (e + (4 - (F : Int))))) := by
    unfold Format.mul; rw [h1, hc, ← hF]; simp [Datum.product]
  have p2 : k.format.mul (c16 k) b = some (k.format.write (.number s (m * 2 ^ F) (e + (4 - (F : Int))))) := by
    unfold Format.mul; rw [h1, hc, ← hF]; simp [Datum.product, Nat.mul_comm, Int.add_comm]
  refine ⟨k.format.write (.number s (m * 2 ^ F) (e + (4 - (F : Int)))), ?_, ?_, ?_⟩
  · simp only [binK, if_true, fltBin, p1, fltRes]
  · simp only [binK, if_true, fltBin, p2, fltRes]
  · have hx : ExF k.format (m * 2 ^ F) (e + (4 - (F : Int))) := by
      by_cases hm : m = 0
      · exact .inl (by rw [hm, Nat.zero_mul])
      · have hb := vl_le hm h2 hv
        exact .inr ⟨m, F, rfl, hm, log_fin h1 hm, by omega, by omega⟩
    have := num_write (k := k) (s := s) (by omega) hx
    rw [vl_scale (i' := e + 4) (by omega) (by omega), vl_up h2] at this
    exact this
/-- A number of sixteenths, as a float. -/
theorem smpl_big {n : Int} (h1 : -262144 ≤ n) (h2 : n ≤ 262144) : binK .quo (.flt .f32 (FloatKind.f32.nearest n)) (.flt .f32 1098907648) = some (.flt .f32 (smpl n)) ∧ ∃ w, Num .f32 (smpl n) w ∧ 16 * w = n * UU := by
  have hi : Num .f32 (FloatKind.f32.nearest n) (n * UU) := num_int (by show _ < 2 ^ 24; omega)
  have hU := UU_pos
  obtain ⟨q, w, e1, e2, e3⟩ := quo16 hi (by
    by_cases hn : n = 0
    · exact .inl (by rw [hn, Int.zero_mul])
    · refine .inr ?_
      rw [Int.natAbs_mul]
      exact Nat.le_mul_of_pos_left _ (by omega))
  have e1 : binK .quo (.flt .f32 (FloatKind.f32.nearest n)) (.flt .f32 1098907648) = some (.flt .f32 q) := e1
  have e4 : binK .quo (.flt .f32 (FloatKind.f32.nearest n)) (.flt .f32 1098907648) = some (fltRes .f32 (FloatKind.f32.format.div (FloatKind.f32.nearest n) 1098907648)) := by simp only [binK, if_true, fltBin]
  have hq : smpl n = q := by
    unfold smpl
    rw [e4] at e1
    cases hd : FloatKind.f32.format.div (FloatKind.f32.nearest n) 1098907648 with
    | some r => rw [hd] at e1; cases e1; rfl
    | none =>
      rw [hd] at e1
      cases e1
      have := num_nan e2
      rw [qnan_nan] at this
      cases this
  rw [hq]
  exact ⟨e1, w, e2, e3⟩
theorem big_abs {w n : Int} (e : 16 * w = n * UU) (h1 : -262144 ≤ n) (h2 : n ≤ 262144) : -16384 * UU ≤ w ∧ w ≤ 16384 * UU := by
  have hU := UU_pos
  have b1 : -262144 * UU ≤ n * UU := Int.mul_le_mul_of_nonneg_right h1 (by omega)
  have b2 : n * UU ≤ 262144 * UU := Int.mul_le_mul_of_nonneg_right h2 (by omega)
  omega
theorem abs_14 {v : Int} (h1 : -16384 * UU ≤ v) (h2 : v ≤ 16384 * UU) : v.natAbs ≤ 2 ^ 14 * UU.natAbs := by
  have hU := UU_pos
  omega
set_option maxRecDepth 10000
attribute [local irreducible] WP WC WE WB WR WF WL WG WRg WQ
section
variable {P : Program} (T : Tbl P) {h : AHeap}
include T
set_option maxHeartbeats 1000000 in
theorem b144 {n : Int} (h1 : -262144 ≤ n) (h2 : n ≤ 262144) : RCall P 144 [.int .i64 n] h (fun v _ => v = .flt .f32 (smpl n)) := by
  refine .st1 6 T.mix T.c144 ?_;intro ts hlen t0;unfold fn144
  have c1 : ∀ {G : Nat → Option ABlk} {N : Nat}, convT (.i2f .f32) (.int .i64 n) G N = some (.flt .f32 (FloatKind.f32.nearest n), .keep) := fun {_ _} => rfl
  have q1 := (smpl_big h1 h2).1
  exact Rs (A3 @t0 @c1 @q1) trivial
set_option maxHeartbeats 1000000 in
theorem b108 {n : Int} (h1 : -262144 ≤ n) (h2 : n ≤ 262144) : RCall P 108 [.flt .f32 (smpl n)] h (fun v _ => v = .int .i64 n) := by
  refine .st1 6 T.mix T.c108 ?_;intro ts hlen t0;unfold fn108
  obtain ⟨_, w, hw, e⟩ := smpl_big h1 h2
  obtain ⟨q1, q2⟩ := big_abs e h1 h2
  obtain ⟨p, m1, m2, hp⟩ := mul16b hw (abs_14 q1 q2)
  have m2 : binK .mul (.flt .f32 1098907648) (.flt .f32 (smpl n)) = some (.flt .f32 p) := m2
  have hU := UU_pos
  have ht : (16 * w).tdiv UU = n := by rw [e, Int.mul_tdiv_cancel _ (by omega)]
  have c3 := @num_f2i _ _ _ hp (by omega) (by omega)
  rw [ht] at c3
  exact Rs (A3 @t0 @m2 @c3) trivial
set_option maxHeartbeats 1000000 in
theorem b64 {n : Int} (h1 : -262144 ≤ n) (h2 : n ≤ 262144) : RCall P 64 [.flt .f32 (smpl n)] h (fun v _ => v = .int .i64 n) := by
  refine .st1 6 T.mix T.c64 ?_;intro ts hlen t0;unfold fn64
  obtain ⟨_, w, hw, e⟩ := smpl_big h1 h2
  obtain ⟨q1, q2⟩ := big_abs e h1 h2
  obtain ⟨p, m1, m2, hp⟩ := mul16b hw (abs_14 q1 q2)
  have m2 : binK .mul (.flt .f32 1098907648) (.flt .f32 (smpl n)) = some (.flt .f32 p) := m2
  have hU := UU_pos
  have ht : (16 * w).tdiv UU = n := by rw [e, Int.mul_tdiv_cancel _ (by omega)]
  have c3 := @num_f2i _ _ _ hp (by omega) (by omega)
  rw [ht] at c3
  exact Rs (A3 @t0 @m2 @c3) trivial
set_option maxHeartbeats 2000000 in
theorem b147 (X : Xfl P) {n : Int} (h1 : -262144 ≤ n) (h2 : n ≤ 262144) : RCall P 147 [.flt .f32 (smpl n), .int .i64 16384] h (fun v _ => v = .int .i64 0) := by
  refine .st2 34 T.mix T.c147 ?_;intro ts hlen t0 t1;unfold fn147
  have c1 : ∀ {n : Int} {G : Nat → Option ABlk} {N : Nat}, convT (.i2f .f64) (.int .i64 n) G N = some (.flt .f64 (FloatKind.f64.nearest n), .keep) := fun {_ _ _} => rfl
  have w1 : IntKind.i64.wrap (0 - 16384) = -16384 := by decide
  obtain ⟨_, v, hv, e⟩ := smpl_big h1 h2
  obtain ⟨q1, q2⟩ := big_abs e h1 h2
  obtain ⟨q, c2, hq⟩ := num_f2f hv
  have hna := num_neq hq hq
  rw [show decide (v ≠ v) = false by simp] at hna
  obtain ⟨M, hM, hM2⟩ := max64
  have hinf := num_gtr (num_abs hq) hM
  rw [decide_eq_false (hM2 v (num32_bd hv))] at hinf
  repeat (first | simp (config := { maxSteps := 1000000 }) only [wset, hset, dset, bset, Nat.reduceAdd, Nat.reduceMul, Nat.reduceLeDiff, Nat.reduceEqDiff, pset, hlen, if_false, if_true, t0, t1, @c2] | simp (config := { maxSteps := 1000000 }) (disch := first | (simp only [List.length_append, List.length_cons, List.length_nil] <;> omega) | rfl | omega | fail) only [kset, wset, hset, dset, bset, Nat.reduceAdd, Nat.reduceMul, Nat.reduceLeDiff, Nat.reduceEqDiff, pset, hlen, if_false, if_true, t0, t1, @c2])
  refine WF.ce T.c196 (r196 T false hna) fun g1 => ?_
  refine Rs (A2 @t0 @t1) ?_
  refine WF.ce T.c197 (r197 T X (num_nan hq) false hinf) fun g2 => ?_
  have g1024 := num_gtr hq (num_int (k := .f64) (n := 16384) (by decide))
  have ln1024 := num_lss hq (num_int (k := .f64) (n := -16384) (by decide))
  rw [decide_eq_false (show ¬ 16384 * UU < v by omega)] at g1024
  rw [decide_eq_false (show ¬ v < -16384 * UU by omega)] at ln1024
  obtain ⟨p, m1, m2, hp⟩ := mul16b hq (abs_14 q1 q2)
  have m2 : binK .mul (.flt .f64 4625196817309499392) (.flt .f64 q) = some (.flt .f64 p) := m2
  have hU := UU_pos
  have hpf := num_floor hp (by
    have := abs_14 q1 q2
    rw [Int.natAbs_mul]
    have : 16 * v.natAbs ≤ 16 * (2 ^ 14 * UU.natAbs) := Nat.mul_le_mul_left _ this
    show 16 * v.natAbs ≤ _
    omega)
  have l3 := num_neq hp hpf
  rw [decide_eq_false (p := 16 * v ≠ 16 * v / UU * UU) (fun z => z (by rw [e, Int.mul_ediv_cancel _ (by omega)]))] at l3
  refine Rs (A7 @t0 @t1 @c1 @w1 @g1024 @ln1024 @m2) ?_
  refine WF.ce T.c198 (r198 T X (num_nan hp)) fun g3 => ?_
  refine Rs (A3 @t0 @t1 @l3) ?_
  refine WF.ce T.c39 (r39 T _ _) fun g4 => ?_
  refine Rs (A2 @t0 @t1) ?_
  rfl
set_option maxHeartbeats 2000000 in
theorem b195 (X : Xfl P) {n : Int} (h1 : -262144 ≤ n) (h2 : n ≤ 262144) : RCall P 195 [.flt .f32 (smpl n)] h (fun v _ => v = .tup [.int .i64 0, .int .i64 0]) := by
  refine .st1 34 T.mix T.c195 ?_;intro ts hlen t0;unfold fn195
  obtain ⟨_, v, hv, e⟩ := smpl_big h1 h2
  obtain ⟨q1, q2⟩ := big_abs e h1 h2
  obtain ⟨q, c2, hq⟩ := num_f2f hv
  have hna := num_neq hq hq
  rw [show decide (v ≠ v) = false by simp] at hna
  obtain ⟨M, hM, hM2⟩ := max64
  have hinf := num_gtr (num_abs hq) hM
  rw [decide_eq_false (hM2 v (num32_bd hv))] at hinf
  repeat (first | simp (config := { maxSteps := 1000000 }) only [wset, hset, dset, bset, Nat.reduceAdd, Nat.reduceMul, Nat.reduceLeDiff, Nat.reduceEqDiff, pset, hlen, if_false, if_true, t0, @c2] | simp (config := { maxSteps := 1000000 }) (disch := first | (simp only [List.length_append, List.length_cons, List.length_nil] <;> omega) | rfl | omega | fail) only [kset, wset, hset, dset, bset, Nat.reduceAdd, Nat.reduceMul, Nat.reduceLeDiff, Nat.reduceEqDiff, pset, hlen, if_false, if_true, t0, @c2])
  refine WF.ce T.c196 (r196 T false hna) fun g1 => ?_
  refine Rs @t0 ?_
  refine WF.ce T.c197 (r197 T X (num_nan hq) false hinf) fun g2 => ?_
  have k1 : Num .f64 4670232813583204352 (16384 * UU) := by
    have := num_int (k := .f64) (n := 16384) (by decide)
    rwa [show FloatKind.f64.nearest 16384 = 4670232813583204352 by decide] at this
  have k2 : Num .f64 13893604850437980160 (-16384 * UU) := by
    have := num_int (k := .f64) (n := -16384) (by decide)
    rwa [show FloatKind.f64.nearest (-16384) = 13893604850437980160 by decide] at this
  have g1024 := num_gtr hq k1
  have ln1024 := num_lss hq k2
  rw [decide_eq_false (show ¬ 16384 * UU < v by omega)] at g1024
  rw [decide_eq_false (show ¬ v < -16384 * UU by omega)] at ln1024
  obtain ⟨p, m1, m2, hp⟩ := mul16b hq (abs_14 q1 q2)
  have m2 : binK .mul (.flt .f64 4625196817309499392) (.flt .f64 q) = some (.flt .f64 p) := m2
  have hU := UU_pos
  have hpf := num_floor hp (by
    have := abs_14 q1 q2
    rw [Int.natAbs_mul]
    have : 16 * v.natAbs ≤ 16 * (2 ^ 14 * UU.natAbs) := Nat.mul_le_mul_left _ this
    show 16 * v.natAbs ≤ _
    omega)
  have l3 := num_neq hpf hp
  rw [decide_eq_false (p := 16 * v / UU * UU ≠ 16 * v) (fun z => z (by rw [e, Int.mul_ediv_cancel _ (by omega)]))] at l3
  refine Rs @t0 ?_
  refine WF.ce T.c117 (r117 T _ _) fun g4 => ?_
  refine Rs (A4 @t0 @g1024 @ln1024 @m2) ?_
  refine WF.ce T.c198 (r198 T X (num_nan hp)) fun g3 => ?_
  refine Rs (A3 @t0 @m2 @l3) ?_
  refine WF.ce T.c117 (r117 T _ _) fun g5 => ?_
  refine Rs @t0 ?_
  rfl
end
end Go.Abs
namespace Go.Abs
open Ieee

noncomputable def cxA (z : Int × Int) : AV := .cplx .f32 (smpl z.1) (smpl z.2)
noncomputable def pnR (f : Nat → Int × Int) : List AV := [cxA (f 0), cxA (f 1), cxA (f 2), cxA (f 3)]
noncomputable def pnC (Z : Nat → Nat → Int × Int) : List AV := pnR (Z 0) ++ (pnR (Z 1) ++ (pnR (Z 2) ++ pnR (Z 3)))
theorem smpl_0 : smpl 0 = 0 := by unfold smpl; decide
theorem cxA_0 : cxA (0, 0) = .cplx .f32 0 0 := by unfold cxA; rw [smpl_0]
theorem pnC_len (Z : Nat → Nat → Int × Int) : (pnC Z).length = 16 := rfl
theorem pnC_one (Z : Nat → Nat → Int × Int) : (pnC Z).all AV.one = true := rfl
theorem pnR_one (f : Nat → Int × Int) : (pnR f).all AV.one = true := rfl
theorem pnC_row {Z : Nat → Nat → Int × Int} {k : Nat} (hk : k < 4) : ((pnC Z).drop (k * 4)).take 4 = pnR (Z k) := by rcases four hk with rfl | rfl | rfl | rfl <;> rfl
theorem pnR_at {f : Nat → Int × Int} {m : Nat} (hm : m < 4) : (pnR f)[m]? = some (cxA (f m)) := by rcases four hm with rfl | rfl | rfl | rfl <;> rfl
theorem pnC_at {Z : Nat → Nat → Int × Int} {k m : Nat} (hk : k < 4) (hm : m < 4) : (pnC Z)[k * 4 + m]? = some (cxA (Z k m)) := by
  rcases four hk with rfl | rfl | rfl | rfl <;> rcases four hm with rfl | rfl | rfl | rfl <;> rfl
theorem pnC_set {Z : Nat → Nat → Int × Int} {k m : Nat} (hk : k < 4) (hm : m < 4) (z : Int × Int) : (pnC Z).set (k * 4 + m) (cxA z) = pnC (updG Z k m z) := by
  rcases four hk with rfl | rfl | rfl | rfl <;> rcases four hm with rfl | rfl | rfl | rfl <;> rfl
theorem pnC_congr {G H : Nat → Nat → Int × Int} (h : ∀ a b, a < 4 → b < 4 → G a b = H a b) : pnC G = pnC H := by
  unfold pnC pnR
  simp only [h 0 0 (by omega) (by omega), h 0 1 (by omega) (by omega), h 0 2 (by omega) (by omega), h 0 3 (by omega) (by omega), h 1 0 (by omega) (by omega), h 1 1 (by omega) (by omega), h 1 2 (by omega) (by omega), h 1 3 (by omega) (by omega), h 2 0 (by omega) (by omega), h 2 1 (by omega) (by omega), h 2 2 (by omega) (by omega), h 2 3 (by omega) (by omega), h 3 0 (by omega) (by omega), h 3 1 (by omega) (by omega), h 3 2 (by omega) (by omega), h 3 3 (by omega) (by omega)]
theorem ix_44 {Z : Nat → Nat → Int × Int} {i : Nat} (hi : i < 4) : ixaF 4 4 (some 4) (.agg (pnC Z)) (.int .i64 (i : Int)) = some (.agg (pnR (Z i))) := by
  unfold ixaF
  simp only [Int.toNat_natCast]
  rw [if_pos ⟨by omega, by omega⟩, pnC_row hi]
theorem ix_41 {f : Nat → Int × Int} {j : Nat} (hj : j < 4) : ixaF 4 1 none (.agg (pnR f)) (.int .i64 (j : Int)) = some (cxA (f j)) := by
  unfold ixaF
  simp only [Int.toNat_natCast]
  rw [if_pos ⟨by omega, by omega⟩, Nat.mul_one, pnR_at hj]
theorem ia_44 {b k : Nat} (hk : k < 4) : iadaF 4 4 (.ptr b 0) (.int .i64 (k : Int)) = some (.ptr b (k * 4)) := by unfold iadaF; simp; omega
theorem ia_41 {b o m : Nat} (hm : m < 4) : iadaF 4 1 (.ptr b o) (.int .i64 (m : Int)) = some (.ptr b (o + m)) := by unfold iadaF; simp; omega
theorem pn_ld {K : AHeap} {b k m : Nat} {Z : Nat → Nat → Int × Int} (m1 : K[b]? = some (.cells (pnC Z) true false)) (hk : k < 4) (hm : m < 4) {kk : AHeap} (e : Ext K kk) : loadF none (.ptr b (k * 4 + m)) (fun z => kk[z]?) = some (cxA (Z k m), .keep) := by
  rw [loadF_at (e.some m1)]
  simp only [ldB, pnC_at hk hm]
theorem cx_re {z : Int × Int} {G : Nat → Option ABlk} {N : Nat} : convT .cre (cxA z) G N = some (.flt .f32 (smpl z.1), .keep) := rfl
theorem cx_im {z : Int × Int} {G : Nat → Option ABlk} {N : Nat} : convT .cim (cxA z) G N = some (.flt .f32 (smpl z.2), .keep) := rfl
theorem cx_one {z : Int × Int} : (cxA z).one = true := rfl
theorem pn_box {Z : Nat → Nat → Int × Int} {N : Nat} : boxF (.agg (pnC Z)) N = some (.ptr N 0, .push (.cells (pnC Z) true false)) := rfl
def pnB (Z : Nat → Nat → Int × Int) : Prop := ∀ i j, i < 4 → j < 4 → bdI 262144 (Z i j)
attribute [local irreducible] cxA
set_option maxRecDepth 10000
attribute [local irreducible] WP WC WE WB WR WF WL WG WRg WQ
section
variable {P : Program} (T : Tbl P) {h : AHeap}
include T
set_option maxHeartbeats 4000000 in
theorem r145 (X : Xfl P) {Z : Nat → Nat → Int × Int} (hZ : pnB Z) : RCall P 145 [.agg (pnC Z)] h (fun v _ => v = .int .i64 0) := by
  refine .st1 43 T.mix T.c145 ?_;intro ts hlen t0;unfold fn145
  have bp : ∀ {N : Nat}, boxF (.agg (pnC Z)) N = some (.ptr N 0, .push (.cells (pnC Z) true false)) := fun {N} => pn_box
  have b4 : ∀ {N : Nat}, boxF (.agg [.cplx .f32 0 0, .cplx .f32 0 0, .cplx .f32 0 0, .cplx .f32 0 0]) N = some (.ptr N 0, .push (.cells [.cplx .f32 0 0, .cplx .f32 0 0, .cplx .f32 0 0, .cplx .f32 0 0] true false)) := fun {N} => rfl
  have st4 : ∀ {n : Nat} {f : Nat → Int × Int}, stB 4 0 (.agg (pnR f)) n (.cells [.cplx .f32 0 0, .cplx .f32 0 0, .cplx .f32 0 0, .cplx .f32 0 0] true false) = some (undefA, .set n (.cells (pnR f) true false)) := fun {n f} => (stB_agg rfl (pnR_one f) (by show 0 + 4 ≤ 4; omega)).trans rfl
  have ld4 : ∀ {f : Nat → Int × Int}, ldB (some 4) 0 (.cells (pnR f) true false) = some (.agg (pnR f), .keep) := fun {f} => rfl
  have ld16 : ldB (some 16) 0 (.cells (pnC Z) true false) = some (.agg (pnC Z), .keep) := rfl
  refine Rs (A2 @t0 @bp) ?_
  obtain ⟨H0, hH0⟩ : ∃ H0, H0 = h ++ [ABlk.cells (pnC Z) true false] := ⟨_, rfl⟩
  have e0 : Ext h H0 := by rw [hH0]; exact ⟨_, rfl⟩
  have m1 : H0[h.length]? = some (.cells (pnC Z) true false) := by rw [hH0]; exact at_new
  have l1 := @ldx _ _ _ m1
  rw [← hH0]
  refine Rs (A3 @t0 @l1 @ld16) ?_
  refine WL.inv T.mix (fun n ts K => ∃ k : Nat, k ≤ 4 ∧ n = 4 - k ∧ Ext H0 K ∧ ts.length = 43 ∧ slot ts 12 = .agg (pnC Z) ∧ slot ts 13 = .int .i64 k) 4
    ⟨0, by omega, rfl, .refl _, Sn, Sw, Swr⟩ ?_
  clear hlen t0
  rintro _ ts K ⟨k, hk, rfl, eK, hlen, t12, t13⟩
  by_cases hk4 : k < 4
  case neg =>
    have e3 := lt4F hk4
    refine Rs (A3 @t12 @t13 @e3) ?_
    exact ⟨e0.trans eK, trivial⟩
  have e3 := lt4T hk4
  have e5 := wrapN (n := k) (by omega)
  have xi := @ix_44 Z k hk4
  refine Rs (A6 @t12 @t13 @e3 @xi @b4 @st4) ?_
  obtain ⟨K1, hK1⟩ : ∃ K1, K1 = K ++ [ABlk.cells (pnR (Z k)) true false] := ⟨_, rfl⟩
  have eK1 : Ext K K1 := by rw [hK1]; exact Xx
  have m4 : K1[K.length]? = some (.cells (pnR (Z k)) true false) := by rw [hK1]; exact at_new
  have l4 := @ldx _ _ _ m4
  rw [← hK1]
  refine Rs (A4 @t12 @t13 @l4 @ld4) ?_
  refine WL.inv T.mix (fun n ts K => ∃ m : Nat, m ≤ 4 ∧ n = 4 - m ∧ Ext H0 K ∧ ts.length = 43 ∧ slot ts 12 = .agg (pnC Z) ∧ slot ts 13 = .int .i64 k ∧ slot ts 16 = .agg (pnR (Z k)) ∧ slot ts 17 = .int .i64 m) 4
    ⟨0, by omega, rfl, eK.trans eK1, Sn, (Sq @t12), (Sq @t13), Sw, Swr⟩ ?_
  clear hlen t12 t13
  rintro _ ts K2 ⟨m, hm, rfl, eK2, hlen, t12, t13, t16, t17⟩
  by_cases hm4 : m < 4
  case neg =>
    have e4 := lt4F hm4
    refine Rs (A6 @t12 @t13 @t16 @t17 @e4 @e5) ?_
    exact ⟨4 - (k + 1), by omega, k + 1, by omega, rfl, eK2, rfl⟩
  have e4 := lt4T hm4
  have e6 := wrapN (n := m) (by omega)
  have xj := @ix_41 (Z k) m hm4
  obtain ⟨⟨z1, z2⟩, z3, z4⟩ := hZ k m hk4 hm4
  have cr := fun {G : Nat → Option ABlk} {N : Nat} => @cx_re (Z k m) G N
  have ci := fun {G : Nat → Option ABlk} {N : Nat} => @cx_im (Z k m) G N
  have co := @cx_one (Z k m)
  refine Rs (A9 @t12 @t13 @t16 @t17 @e4 @xj @co @cr @ci) ?_
  refine WF.ce T.c195 (b195 T X z1 z2) fun g1 => ?_
  refine Rs (A7 @t12 @t13 @t16 @t17 @co @cr @ci) ?_
  refine WF.ce T.c195 (b195 T X z3 z4) fun g2 => ?_
  refine Rs (A7 @t12 @t13 @t16 @t17 @co @cr @ci) ?_
  refine WF.ce T.c116 (r116 T (isSl_ints [_, _, _, _]) (by simp)) fun g3 => ?_
  have hf : firstS [0, 0, 0, 0] = 0 := rfl
  have d0 : decide ((0 : Int) ≠ 0) = false := rfl
  rw [hf]
  refine Rs (A6 @t12 @t13 @t16 @t17 @d0 @e6) ?_
  exact ⟨4 - (m + 1), by omega, m + 1, by omega, rfl, eK2.trans Xx, rfl⟩
set_option maxHeartbeats 4000000 in
theorem r63 (X : Xfl P) {Z : Nat → Nat → Int × Int} (hZ : pnB Z) : RCall P 63 [.agg (pnC Z)] h (fun v _ => v = .int .i64 0) := by
  refine .st1 43 T.mix T.c63 ?_;intro ts hlen t0;unfold fn63
  have bp : ∀ {N : Nat}, boxF (.agg (pnC Z)) N = some (.ptr N 0, .push (.cells (pnC Z) true false)) := fun {N} => pn_box
  refine Rs (A2 @t0 @bp) ?_
  obtain ⟨H0, hH0⟩ : ∃ H0, H0 = h ++ [ABlk.cells (pnC Z) true false] := ⟨_, rfl⟩
  have e0 : Ext h H0 := by rw [hH0]; exact ⟨_, rfl⟩
  have m1 : H0[h.length]? = some (.cells (pnC Z) true false) := by rw [hH0]; exact at_new
  obtain ⟨b1, hb1⟩ : ∃ b1, b1 = h.length := ⟨_, rfl⟩
  rw [← hb1] at m1 ⊢
  rw [← hH0]
  refine WL.inv T.mix (fun n ts K => ∃ k : Nat, k ≤ 4 ∧ n = 4 - k ∧ Ext H0 K ∧ ts.length = 43 ∧ slot ts 1 = .ptr b1 0 ∧ slot ts 3 = .int .i64 k) 4
    ⟨0, by omega, rfl, .refl _, Sn, Sw, Swr⟩ ?_
  clear hlen t0
  rintro _ ts K ⟨k, hk, rfl, eK, hlen, t1, t3⟩
  by_cases hk4 : k < 4
  case neg =>
    have e3 := lt4F hk4
    refine Rs (A3 @t1 @t3 @e3) ?_
    exact ⟨e0.trans eK, trivial⟩
  have e3 := lt4T hk4
  have e5 := wrapN (n := k) (by omega)
  refine Rs (A3 @t1 @t3 @e3) ?_
  refine WL.inv T.mix (fun n ts K => ∃ m : Nat, m ≤ 4 ∧ n = 4 - m ∧ Ext H0 K ∧ ts.length = 43 ∧ slot ts 1 = .ptr b1 0 ∧ slot ts 3 = .int .i64 k ∧ slot ts 4 = .int .i64 m) 4
    ⟨0, by omega, rfl, eK, Sn, (Sq @t1), (Sq @t3), Swr⟩ ?_
  clear hlen t1 t3
  rintro _ ts K2 ⟨m, hm, rfl, eK2, hlen, t1, t3, t4⟩
  by_cases hm4 : m < 4
  case neg =>
    have e4 := lt4F hm4
    refine Rs (A5 @t1 @t3 @t4 @e4 @e5) ?_
    exact ⟨4 - (k + 1), by omega, k + 1, by omega, rfl, eK2, rfl⟩
  have e4 := lt4T hm4
  have e6 := wrapN (n := m) (by omega)
  have ia := @ia_44 b1 k hk4
  have ib := @ia_41 b1 (k * 4) m hm4
  have lz := fun {kk : AHeap} (e : Ext K2 kk) => pn_ld (eK2.some m1) hk4 hm4 e
  obtain ⟨⟨z1, z2⟩, z3, z4⟩ := hZ k m hk4 hm4
  have cr := fun {G : Nat → Option ABlk} {N : Nat} => @cx_re (Z k m) G N
  have ci := fun {G : Nat → Option ABlk} {N : Nat} => @cx_im (Z k m) G N
  have co := @cx_one (Z k m)
  refine Rs (A10 @t1 @t3 @t4 @e4 @ia @ib @lz @co @cr @ci) ?_
  refine WF.ce T.c147 (b147 T X z1 z2) fun g1 => ?_
  refine Rs (A9 @t1 @t3 @t4 @ia @ib @lz @co @cr @ci) ?_
  refine WF.ce T.c147 (b147 T X z3 z4) fun g2 => ?_
  have d0 : decide ((0 : Int) ≠ 0) = false := rfl
  have d1 : decide ((0 : Int) = 1) = false := rfl
  refine Rs (A4 @t1 @t3 @t4 @d1) ?_
  refine WF.ce T.c27 (r27 T (isSl_ints [_, _]) (by simp)) fun g3 => ?_
  have hf : firstS [0, 0] = 0 := rfl
  rw [hf]
  refine Rs (A5 @t1 @t3 @t4 @d0 @e6) ?_
  exact ⟨4 - (m + 1), by omega, m + 1, by omega, rfl, eK2.trans Xx, rfl⟩
set_option maxHeartbeats 2000000 in
theorem r65 {z : Int × Int} (hz : bdI 262144 z) : RCall P 65 [cxA z] h (fun v _ => v = .int .i64 (nsq z)) := by
  refine .st1 18 T.mix T.c65 ?_;intro ts hlen t0;unfold fn65
  obtain ⟨⟨z1, z2⟩, z3, z4⟩ := hz
  have cr := fun {G : Nat → Option ABlk} {N : Nat} => @cx_re z G N
  have ci := fun {G : Nat → Option ABlk} {N : Nat} => @cx_im z G N
  have co := @cx_one z
  have p1 := mul_bd (x := z.1) (y := z.1) (X := 262144) (Y := 262144) ⟨z1, z2⟩ ⟨z1, z2⟩
  have p2 := mul_bd (x := z.2) (y := z.2) (X := 262144) (Y := 262144) ⟨z3, z4⟩ ⟨z3, z4⟩
  have w1 : IntKind.i64.wrap (z.1 * z.1) = z.1 * z.1 := wrap_in (by omega) (by omega)
  have w2 : IntKind.i64.wrap (z.2 * z.2) = z.2 * z.2 := wrap_in (by omega) (by omega)
  have w3 : IntKind.i64.wrap (z.1 * z.1 + z.2 * z.2) = nsq z := wrap_in (by omega) (by omega)
  refine Rs (A4 @t0 @co @cr @ci) ?_
  refine WF.ce T.c64 (b64 T z1 z2) fun g1 => ?_
  refine Rs (A4 @t0 @co @cr @ci) ?_
  refine WF.ce T.c64 (b64 T z3 z4) fun g2 => ?_
  exact Rs (A4 @t0 @w1 @w2 @w3) trivial
end
end Go.Abs
namespace Go.Abs
open Ieee

theorem sh_u16 {x i : Nat} (hi : i < 16) : binK .shr (.int .u16 (x : Int)) (.int .i64 (i : Int)) = some (.int .u16 ((x / 2 ^ i : Nat) : Int)) := by
  have h1 : binK .shr (.int .u16 (x : Int)) (.int .i64 (i : Int)) = shiftK .shr .u16 (x : Int) (i : Int) := rfl
  rw [h1]
  unfold shiftK
  rw [if_neg (by omega)]
  show some (AV.int .u16 ((x : Int).fdiv (2 ^ (min (i : Int).toNat 16)))) = _
  rw [Int.toNat_natCast, Nat.min_eq_left (by omega), Int.fdiv_eq_ediv_of_nonneg _ (by exact Int.le_of_lt (two_pos i)), Int.natCast_ediv, Int.natCast_pow]
  rfl
theorem and_u16 {y : Nat} (hy : y < 65536) : binK .and (.int .u16 (y : Int)) (.int .u16 1) = some (.int .u16 ((y % 2 : Nat) : Int)) := by
  have h1 : binK .and (.int .u16 (y : Int)) (.int .u16 1) = some (.int .u16 (IntKind.u16.wrap (BitVec.ofInt 16 (y : Int) &&& BitVec.ofInt 16 1).toNat)) := rfl
  rw [h1, BitVec.toNat_and]
  have e1 : (BitVec.ofInt 16 (y : Int)).toNat = y := by
    rw [BitVec.toNat_ofInt]
    omega
  have e2 : (BitVec.ofInt 16 1).toNat = 1 := by decide
  rw [e1, e2, Nat.and_one_is_mod]
  have : IntKind.u16.wrap ((y % 2 : Nat) : Int) = ((y % 2 : Nat) : Int) := by
    show ((y % 2 : Nat) : Int) % 65536 = _
    omega
  rw [this]
theorem xor_u16 {x : Nat} (hx : x < 65536) : unK .xor (.int .u16 (x : Int)) = some (.int .u16 ((65535 - x : Nat) : Int)) := by
  have h1 : unK .xor (.int .u16 (x : Int)) = some (.int .u16 (IntKind.u16.wrap (BitVec.ofInt 16 65535 ^^^ BitVec.ofInt 16 (x : Int)).toNat)) := rfl
  rw [h1]
  have e1 : (BitVec.ofInt 16 (x : Int)) = BitVec.ofNat 16 x := by
    apply BitVec.eq_of_toNat_eq
    rw [BitVec.toNat_ofInt, BitVec.toNat_ofNat]
    omega
  have e2 : BitVec.ofInt 16 65535 = BitVec.allOnes 16 := by decide
  rw [e1, e2, BitVec.allOnes_xor, BitVec.toNat_not, BitVec.toNat_ofNat, Nat.mod_eq_of_lt (by omega)]
  have : IntKind.u16.wrap ((2 ^ 16 - 1 - x : Nat) : Int) = ((65535 - x : Nat) : Int) := by
    show ((2 ^ 16 - 1 - x : Nat) : Int) % 65536 = _
    omega
  rw [this]
theorem bit_flip {x i : Nat} (hx : x < 65536) (hi : i < 16) : (65535 - x) / 2 ^ i % 2 = 1 - x / 2 ^ i % 2 := by
  have e : 65535 - x = (~~~ (BitVec.ofNat 16 x)).toNat := by rw [BitVec.toNat_not, BitVec.toNat_ofNat, Nat.mod_eq_of_lt (by omega)]
  have h1 : ∀ y : Nat, y / 2 ^ i % 2 = (y.testBit i).toNat := fun y => by rw [Nat.testBit_eq_decide_div_mod_eq]; rcases Nat.mod_two_eq_zero_or_one (y / 2 ^ i) with h | h <;> simp [h]
  rw [h1, h1, e, ← BitVec.getLsbD, BitVec.getLsbD_not, BitVec.getLsbD, BitVec.toNat_ofNat, Nat.mod_eq_of_lt (by omega)]
  simp [hi]
  cases x.testBit i <;> rfl
/-- What a mask keeps. -/
def keepG (x : Nat) (Z : Nat → Nat → Int × Int) : Nat → Nat → Int × Int := fun a b => if x / 2 ^ (4 * a + b) % 2 = 0 then (0, 0) else Z a b
/-- The panel while it is made. -/
def keepP (x : Nat) (Z : Nat → Nat → Int × Int) (k m : Nat) : Nat → Nat → Int × Int := fun a b => if a < k ∨ (a = k ∧ b < m) then keepG x Z a b else Z a b
theorem keepP_row {x : Nat} {Z : Nat → Nat → Int × Int} {k : Nat} : pnC (keepP x Z k 4) = pnC (keepP x Z (k + 1) 0) := pnC_congr fun a b ha hb => by
  unfold keepP
  by_cases h1 : a < k + 1
  · rw [if_pos (by omega), if_pos (by omega)]
  · rw [if_neg (by omega), if_neg (by omega)]
theorem keepP_all {x : Nat} {Z : Nat → Nat → Int × Int} : pnC (keepP x Z 4 0) = pnC (keepG x Z) := pnC_congr fun a b ha hb => by
  unfold keepP
  rw [if_pos (by omega)]
theorem keepP_zero {x : Nat} {Z : Nat → Nat → Int × Int} : pnC (keepP x Z 0 0) = pnC Z := pnC_congr fun a b ha hb => by
  unfold keepP
  rw [if_neg (by omega)]
theorem keepP_off {x : Nat} {Z : Nat → Nat → Int × Int} {k m : Nat} (h : x / 2 ^ (4 * k + m) % 2 = 0) : updG (keepP x Z k m) k m (0, 0) = keepP x Z k (m + 1) := by
  funext a b
  unfold updG keepP
  by_cases h1 : a = k ∧ b = m
  · obtain ⟨rfl, rfl⟩ := h1
    rw [if_pos ⟨rfl, rfl⟩, if_pos (by omega)]
    unfold keepG
    rw [if_pos h]
  · rw [if_neg h1]
    by_cases h2 : a < k ∨ (a = k ∧ b < m)
    · rw [if_pos h2, if_pos (by omega)]
    · rw [if_neg h2, if_neg (by omega)]
theorem keepP_on {x : Nat} {Z : Nat → Nat → Int × Int} {k m : Nat} (h : x / 2 ^ (4 * k + m) % 2 ≠ 0) : keepP x Z k m = keepP x Z k (m + 1) := by
  funext a b
  unfold keepP
  by_cases h1 : a = k ∧ b = m
  · obtain ⟨rfl, rfl⟩ := h1
    rw [if_neg (by omega), if_pos (by omega)]
    unfold keepG
    rw [if_neg h]
  · by_cases h2 : a < k ∨ (a = k ∧ b < m)
    · rw [if_pos h2, if_pos (by omega)]
    · rw [if_neg h2, if_neg (by omega)]
theorem keep_bd {x : Nat} {Z : Nat → Nat → Int × Int} (h : pnB Z) : pnB (keepG x Z) := fun i j hi hj => by
  unfold keepG
  split
  · exact ⟨⟨by decide, by decide⟩, by decide, by decide⟩
  · exact h i j hi hj
theorem pn_st {K : AHeap} {b k m : Nat} {Z : Nat → Nat → Int × Int} (m1 : K[b]? = some (.cells (pnC Z) true false)) (hk : k < 4) (hm : m < 4) (z : Int × Int) : storeF 1 (.ptr b (k * 4 + m)) (cxA z) (fun q => K[q]?) = some (undefA, .set b (.cells (pnC (updG Z k m z)) true false)) := by
  rw [storeF_at m1, stB_one cx_one (by rw [pnC_len]; omega), pnC_set hk hm]
attribute [local irreducible] cxA
set_option maxRecDepth 10000
attribute [local irreducible] WP WC WE WB WR WF WL WG WRg WQ
section
variable {P : Program} (T : Tbl P) {h : AHeap}
include T
set_option maxHeartbeats 4000000 in
theorem r62 (X : Xfl P) {Z : Nat → Nat → Int × Int} (hZ : pnB Z) {x : Nat} (hx : x < 65536) : RCall P 62 [.agg (pnC Z), .int .u16 (x : Int)] h (fun v _ => v = .tup [.agg (pnC (keepG x Z)), .int .i64 0]) := by
  refine .st2 36 T.mix T.c62 ?_;intro ts hlen t0 t1;unfold fn62
  have bp : ∀ {N : Nat}, boxF (.agg (pnC Z)) N = some (.ptr N 0, .push (.cells (pnC Z) true false)) := fun {N} => pn_box
  have bz : ∀ {N : Nat}, boxF (.agg [.cplx .f32 0 0, .cplx .f32 0 0, .cplx .f32 0 0, .cplx .f32 0 0, .cplx .f32 0 0, .cplx .f32 0 0, .cplx .f32 0 0, .cplx .f32 0 0, .cplx .f32 0 0, .cplx .f32 0 0, .cplx .f32 0 0, .cplx .f32 0 0, .cplx .f32 0 0, .cplx .f32 0 0, .cplx .f32 0 0, .cplx .f32 0 0]) N = some (.ptr N 0, .push (.cells (pnC fun _ _ => (0, 0)) true false)) := fun {N} => by
    have e : (pnC fun _ _ => (0, 0)) = [.cplx .f32 0 0, .cplx .f32 0 0, .cplx .f32 0 0, .cplx .f32 0 0, .cplx .f32 0 0, .cplx .f32 0 0, .cplx .f32 0 0, .cplx .f32 0 0, .cplx .f32 0 0, .cplx .f32 0 0, .cplx .f32 0 0, .cplx .f32 0 0, .cplx .f32 0 0, .cplx .f32 0 0, .cplx .f32 0 0, .cplx .f32 0 0] := by unfold pnC pnR; rw [cxA_0]; rfl
    rw [e]; rfl
  have ld16 : ∀ {O : Nat → Nat → Int × Int}, ldB (some 16) 0 (.cells (pnC O) true false) = some (.agg (pnC O), .keep) := fun {O} => rfl
  refine Rs (A4 @t0 @t1 @bp @bz) ?_
  obtain ⟨H0, hH0⟩ : ∃ H0, H0 = h ++ [ABlk.cells (pnC Z) true false] ++ [ABlk.cells (pnC fun _ _ => (0, 0)) true false] := ⟨_, rfl⟩
  have e0 : Ext h H0 := by rw [hH0]; exact Xx
  have m2 : H0[h.length]? = some (.cells (pnC Z) true false) := by rw [hH0]; exact at_1
  have m4 : H0[(h ++ [ABlk.cells (pnC Z) true false]).length]? = some (.cells (pnC fun _ _ => (0, 0)) true false) := by rw [hH0]; exact at_new
  obtain ⟨b2, hb2⟩ : ∃ b2, b2 = h.length := ⟨_, rfl⟩
  obtain ⟨b4, hb4⟩ : ∃ b4, b4 = (h ++ [ABlk.cells (pnC Z) true false]).length := ⟨_, rfl⟩
  have n4 : b4 = b2 + 1 := by rw [hb4, hb2]; simp
  rw [← hb2] at m2 ⊢
  rw [← hb4] at m4 ⊢
  have l2 := @ldx _ _ _ m2
  rw [← hH0]
  refine Rs (A4 @t0 @t1 @l2 @ld16) ?_
  refine WF.ce T.c145 (r145 T X hZ) fun g1 => ?_
  have d0 : decide ((0 : Int) ≠ 0) = false := rfl
  refine Rs (A3 @t0 @t1 @d0) ?_
  obtain ⟨H1, hH1⟩ : ∃ H1, H1 = H0 ++ g1 := ⟨_, rfl⟩
  have e1 : Ext H0 H1 := by rw [hH1]; exact Xx
  have m2 := e1.some m2
  have m4 := e1.some m4
  have eh := e0.trans e1
  rw [← keepP_zero (x := x)] at m2
  rw [← hH1]
  refine WL.inv T.mix (fun n ts K => ∃ k : Nat, k ≤ 4 ∧ n = 4 - k ∧ Ext h K ∧ K[b2]? = some (.cells (pnC (keepP x Z k 0)) true false) ∧ K[b4]? = some (.cells (pnC fun _ _ => (0, 0)) true false) ∧ ts.length = 36 ∧ slot ts 1 = .int .u16 (x : Int) ∧ slot ts 2 = .ptr b2 0 ∧ slot ts 4 = .ptr b4 0 ∧ slot ts 15 = .int .i64 k) 4
    ⟨0, by omega, rfl, eh, m2, m4, Sn, (Sq @t1), Sw, Sw, Swr⟩ ?_
  clear hlen t0 t1 m2 m4 l2
  rintro _ ts K ⟨k, hk, rfl, eK, m2, m4, hlen, t1, t2, t4, t15⟩
  by_cases hk4 : k < 4
  case neg =>
    have e3 := lt4F hk4
    rw [show k = 4 by omega, keepP_all] at m2
    have l2 := @ldx _ _ _ m2
    have s4 := stN (n := 16) (L := pnC (keepG x Z)) m4 rfl rfl (pnC_one _)
    have l4 := ldNs (n := 16) (L := pnC (keepG x Z)) m4 rfl
    refine Rs (A9 @t1 @t2 @t4 @t15 @e3 @l2 @ld16 @s4 @l4) ?_
    exact ⟨ext_setG eK (by omega), trivial⟩
  have e3 := lt4T hk4
  have e5 := wrapN (n := k) (by omega)
  refine Rs (A5 @t1 @t2 @t4 @t15 @e3) ?_
  refine WL.inv T.mix (fun n ts K => ∃ m : Nat, m ≤ 4 ∧ n = 4 - m ∧ Ext h K ∧ K[b2]? = some (.cells (pnC (keepP x Z k m)) true false) ∧ K[b4]? = some (.cells (pnC fun _ _ => (0, 0)) true false) ∧ ts.length = 36 ∧ slot ts 1 = .int .u16 (x : Int) ∧ slot ts 2 = .ptr b2 0 ∧ slot ts 4 = .ptr b4 0 ∧ slot ts 7 = .int .i64 k ∧ slot ts 15 = .int .i64 k ∧ slot ts 18 = .int .i64 m) 4
    ⟨0, by omega, rfl, eK, m2, m4, Sn, (Sq @t1), (Sq @t2), (Sq @t4), Sw, (Sq @t15), Swr⟩ ?_
  clear hlen t1 t2 t4 t15 m2 m4 eK
  rintro _ ts K2 ⟨m, hm, rfl, eK2, m2, m4, hlen, t1, t2, t4, t7, t15, t18⟩
  by_cases hm4 : m < 4
  case neg =>
    have e4 := lt4F hm4
    rw [show m = 4 by omega, keepP_row] at m2
    refine Rs (A8 @t1 @t2 @t4 @t7 @t15 @t18 @e4 @e5) ?_
    exact ⟨4 - (k + 1), by omega, k + 1, by omega, rfl, eK2, m2, m4, rfl⟩
  have e4 := lt4T hm4
  have e6 := wrapN (n := m) (by omega)
  have ia := @ia_44 b2 k hk4
  have ib := @ia_41 b2 (k * 4) m hm4
  have w1 : IntKind.i64.wrap (4 * (k : Int)) = ((4 * k : Nat) : Int) := by rw [wrap_in (by omega) (by omega)]; omega
  have w2 : IntKind.i64.wrap (((4 * k : Nat) : Int) + (m : Int)) = ((4 * k + m : Nat) : Int) := by rw [wrap_in (by omega) (by omega)]; omega
  have sh := @sh_u16 x (4 * k + m) (by omega)
  have an := @and_u16 (x / 2 ^ (4 * k + m)) (by have := Nat.div_le_self x (2 ^ (4 * k + m)); omega)
  have st := pn_st m2 hk4 hm4 (0, 0)
  rw [cxA_0] at st
  by_cases hb : x / 2 ^ (4 * k + m) % 2 = 0
  · have d1 : decide (((x / 2 ^ (4 * k + m) % 2 : Nat) : Int) = 0) = true := decide_eq_true (by omega)
    rw [keepP_off hb] at st
    refine Rs (A16 @t1 @t2 @t4 @t7 @t15 @t18 @e4 @w1 @w2 @sh @an @d1 @ia @ib @st @e6) ?_
    exact ⟨4 - (m + 1), by omega, m + 1, by omega, rfl, ext_setG eK2 (by omega), set_eq' m2, set_ne' (by omega) m4, rfl⟩
  · have d1 : decide (((x / 2 ^ (4 * k + m) % 2 : Nat) : Int) = 0) = false := decide_eq_false (by omega)
    rw [keepP_on hb] at m2
    refine Rs (A13 @t1 @t2 @t4 @t7 @t15 @t18 @e4 @w1 @w2 @sh @an @d1 @e6) ?_
    exact ⟨4 - (m + 1), by omega, m + 1, by omega, rfl, eK2, m2, m4, rfl⟩
end
end Go.Abs
namespace Go.Abs
open Ieee

theorem WP_sla {P : Program} {ro : Option Nat → Prop} {ks : List Kt} {ts : TS} {h : AHeap} {Q : Ex → TS → AHeap → Prop} {d : Option Nat} {l : List IOp} {x : Opd} {k es b o : Nat} {c : List AV} {mu tl : Bool} (hx : val ts x = .ptr b o) (hb : h[b]? = some (.cells c mu tl)) (hl : o + k * es ≤ c.length) :
    WP P ro ({ dst := d, k := .sla k es x none none, gd := none, q := false } :: l) ks ts h Q = WP P ro l ks (put ts d (.slice b o k es)) h Q := by
  have h0 : bnds none none k = some (0, k) := by simp [bnds, loN, hiN]
  rw [WP_op (by simp) (by simp)]
  simp only [stepT, fnT, hx, hb, hl, if_true, Option.map_none, h0, Nat.zero_mul, Nat.add_zero, Nat.sub_zero]
  exact WR_keep
theorem WP_cpxq {P : Program} {ro : Option Nat → Prop} {ks : List Kt} {ts : TS} {h : AHeap} {Q : Ex → TS → AHeap → Prop} {d : Option Nat} {q : Bool} {l : List IOp} {x y : Opd} {k : FloatKind} {a b : Nat} (hx : val ts x = .flt k a) (hy : val ts y = .flt k b) :
    WP P ro ({ dst := d, k := .cpx x y, gd := none, q := q } :: l) ks ts h Q = WP P ro l ks (put ts d (.cplx k a b)) h Q := by
  rw [WP_op (by simp) (by simp)]
  simp only [stepT, fnT, hx, hy, if_true]
  exact WR_keep
def fl4 (f : Nat → Nat) : List AV := [.flt .f32 (f 0), .flt .f32 (f 1), .flt .f32 (f 2), .flt .f32 (f 3)]
def flC (l : Nat → Nat → Nat) : List AV := fl4 (l 0) ++ (fl4 (l 1) ++ (fl4 (l 2) ++ fl4 (l 3)))
theorem flC_row {l : Nat → Nat → Nat} {k : Nat} (hk : k < 4) : ((flC l).drop (k * 4)).take 4 = fl4 (l k) := by rcases four hk with rfl | rfl | rfl | rfl <;> rfl
theorem fl4_at {f : Nat → Nat} {m : Nat} (hm : m < 4) : (fl4 f)[m]? = some (.flt .f32 (f m)) := by rcases four hm with rfl | rfl | rfl | rfl <;> rfl
theorem ix_f44 {l : Nat → Nat → Nat} {i : Nat} (hi : i < 4) : ixaF 4 4 (some 4) (.agg (flC l)) (.int .i64 (i : Int)) = some (.agg (fl4 (l i))) := by
  unfold ixaF
  simp only [Int.toNat_natCast]
  rw [if_pos ⟨by omega, by omega⟩, flC_row hi]
theorem ix_f41 {f : Nat → Nat} {j : Nat} (hj : j < 4) : ixaF 4 1 none (.agg (fl4 f)) (.int .i64 (j : Int)) = some (.flt .f32 (f j)) := by
  unfold ixaF
  simp only [Int.toNat_natCast]
  rw [if_pos ⟨by omega, by omega⟩, Nat.mul_one, fl4_at hj]
theorem fl4_sl {K : AHeap} {b : Nat} {f : Nat → Nat} (m : K[b]? = some (.cells (fl4 f) true false)) : IsSl K (.slice b 0 4 1) 1 ([f 0, f 1, f 2, f 3].map fltR) := IsSl.mk (cs := [f 0, f 1, f 2, f 3].map fltR) m rfl (by show 0 + 4 * 1 ≤ 4; omega) (fun x hx => by obtain ⟨y, _, rfl⟩ := List.mem_map.1 hx; rfl)
/-- The grid while it is filled, column by column. -/
def inP (F : Nat → Nat → Int × Int) (t n : Nat) : Nat → Nat → Int × Int := fun a b => if b < t ∨ (b = t ∧ a < n) then F a b else (0, 0)
theorem inP_upd {F : Nat → Nat → Int × Int} {t n : Nat} : updG (inP F t n) n t (F n t) = inP F t (n + 1) := by
  funext a b
  unfold updG inP
  by_cases h : a = n ∧ b = t
  · obtain ⟨rfl, rfl⟩ := h
    rw [if_pos ⟨rfl, rfl⟩, if_pos (by omega)]
  · rw [if_neg h]
    by_cases h2 : b < t ∨ (b = t ∧ a < n)
    · rw [if_pos h2, if_pos (by omega)]
    · rw [if_neg h2, if_neg (by omega)]
theorem inP_row {F : Nat → Nat → Int × Int} {t : Nat} : grC (inP F t 4) = grC (inP F (t + 1) 0) := grC_congr fun a b ha hb => by
  unfold inP
  by_cases h1 : b < t + 1
  · rw [if_pos (by omega), if_pos (by omega)]
  · rw [if_neg (by omega), if_neg (by omega)]
theorem inP_all {F : Nat → Nat → Int × Int} : grC (inP F 4 0) = grC F := grC_congr fun a b ha hb => by
  unfold inP
  rw [if_pos (by omega)]
theorem inP_zero {F : Nat → Nat → Int × Int} : grC (inP F 0 0) = grC fun _ _ => (0, 0) := grC_congr fun a b ha hb => by
  unfold inP
  rw [if_neg (by omega)]
theorem pnP_row {F : Nat → Nat → Int × Int} {k : Nat} : pnC (outP F k 4 (0, 0)) = pnC (outP F (k + 1) 0 (0, 0)) := pnC_congr fun a b ha hb => by
  unfold outP
  by_cases h1 : a < k + 1
  · rw [if_pos (by omega), if_pos (by omega)]
  · rw [if_neg (by omega), if_neg (by omega)]
    by_cases h3 : a = k + 1 ∧ b = 0
    · rw [if_pos h3, if_neg (by omega)]
    · rw [if_neg h3, if_neg (by omega)]
theorem pnP_all {F : Nat → Nat → Int × Int} : pnC (outP F 4 0 (0, 0)) = pnC F := pnC_congr fun a b ha hb => by
  unfold outP
  rw [if_pos (by omega)]
theorem pnP_zero {F : Nat → Nat → Int × Int} : pnC (outP F 0 0 (0, 0)) = pnC fun _ _ => (0, 0) := pnC_congr fun a b ha hb => by
  unfold outP
  rw [if_neg (by omega)]
  by_cases h : a = 0 ∧ b = 0
  · rw [if_pos h]
  · rw [if_neg h]
/-- The grid of four traces. -/
noncomputable def trcG (l : Nat → Nat → Nat) : Nat → Nat → Int × Int := fun n t => (gridN (l t n), 0)
def trcOk (l : Nat → Nat → Nat) : Prop := ∀ t n, t < 4 → n < 4 → gridE (l t n) = 0
theorem trc_bd {l : Nat → Nat → Nat} (h : trcOk l) : ∀ i j, i < 4 → j < 4 → bdI 16384 (trcG l i j) := fun i j hi hj => by
  obtain ⟨_, _, g1, g2⟩ := grid_num (h j i hj hi)
  exact ⟨⟨g1, g2⟩, by show (-16384 : Int) ≤ 0; omega, by show (0 : Int) ≤ 16384; omega⟩
theorem pan_bd {l : Nat → Nat → Nat} (h : trcOk l) : pnB (trG (trcG l) 3) := fun i j _ _ => by
  have := tr_bd (w := 3) (trc_bd h) i j
  obtain ⟨⟨a1, a2⟩, a3, a4⟩ := this
  exact ⟨⟨by omega, by omega⟩, by omega, by omega⟩
theorem z_pn : ([.cplx .f32 0 0, .cplx .f32 0 0, .cplx .f32 0 0, .cplx .f32 0 0, .cplx .f32 0 0, .cplx .f32 0 0, .cplx .f32 0 0, .cplx .f32 0 0, .cplx .f32 0 0, .cplx .f32 0 0, .cplx .f32 0 0, .cplx .f32 0 0, .cplx .f32 0 0, .cplx .f32 0 0, .cplx .f32 0 0, .cplx .f32 0 0] : List AV) = pnC fun _ _ => (0, 0) := by unfold pnC pnR; rw [cxA_0]; rfl
theorem cx_mk {z : Int × Int} : AV.cplx .f32 (smpl z.1) (smpl z.2) = cxA z := rfl
def paB : ICode := match (fn60).body with
  | .seq _ (.seq _ (.seq _ c)) => c
  | c => c
attribute [local irreducible] cxA
set_option maxRecDepth 10000
attribute [local irreducible] WP WC WE WB WR WF WL WG WRg WQ
section
variable {P : Program} (T : Tbl P) {h Y : AHeap} {ts : TS} {b2 b4 : Nat}
include T
set_option maxHeartbeats 8000000 in
theorem pa_B (pw : Pwr h) {G : Nat → Nat → Int × Int} (hG : ∀ i j, i < 4 → j < 4 → bdI 16384 (G i j)) (hlen : ts.length = 66) (t2 : slot ts 2 = .ptr b2 0) (t4 : slot ts 4 = .ptr b4 0) (e0 : Ext h Y) (n2 : h.length ≤ b2) (m2 : Y[b2]? = some (.cells (pnC fun _ _ => (0, 0)) true false)) (m4 : Y[b4]? = some (.cells (grC G) true false)) :
    WC P inFn paB [] ts Y (FQ [(2, some (some 16)), (3, none)] fun v k => Ext h k ∧ v = .tup [.agg (pnC (trG G 3)), .int .i64 0]) := by
  unfold paB fn60
  dsimp only
  have bz : ∀ {N : Nat}, boxF (.agg [.cplx .f32 0 0, .cplx .f32 0 0, .cplx .f32 0 0, .cplx .f32 0 0, .cplx .f32 0 0, .cplx .f32 0 0, .cplx .f32 0 0, .cplx .f32 0 0, .cplx .f32 0 0, .cplx .f32 0 0, .cplx .f32 0 0, .cplx .f32 0 0, .cplx .f32 0 0, .cplx .f32 0 0, .cplx .f32 0 0, .cplx .f32 0 0]) N = some (.ptr N 0, .push (.cells (pnC fun _ _ => (0, 0)) true false)) := fun {N} => by rw [z_pn]; exact pn_box
  have bz8 : ∀ {N : Nat}, boxF (.agg [.int .i64 0, .int .i64 0, .int .i64 0, .int .i64 0, .int .i64 0, .int .i64 0, .int .i64 0, .int .i64 0]) N = some (.ptr N 0, .push (.cells (roC fun _ => (0, 0)) true false)) := fun {N} => rfl
  have bz2 : ∀ {N : Nat}, boxF (.agg [.int .i64 0, .int .i64 0]) N = some (.ptr N 0, .push (.cells (ratR (0, 0)) true false)) := fun {N} => rfl
  have st8 : ∀ {n : Nat} {f : Nat → Int × Int}, stB 8 0 (.agg (roC f)) n (.cells (roC fun _ => (0, 0)) true false) = some (undefA, .set n (.cells (roC f) true false)) := fun {n f} => (stB_agg rfl rfl (by show 0 + 8 ≤ 8; omega)).trans rfl
  have st2 : ∀ {n : Nat} {z : Int × Int}, stB 2 0 (.agg (ratR z)) n (.cells (ratR (0, 0)) true false) = some (undefA, .set n (.cells (ratR z) true false)) := fun {n z} => (stB_agg rfl rfl (by show 0 + 2 ≤ 2; omega)).trans rfl
  have ld8 : ∀ {f : Nat → Int × Int}, ldB (some 8) 0 (.cells (roC f) true false) = some (.agg (roC f), .keep) := fun {f} => rfl
  have ld32 : ∀ {O : Nat → Nat → Int × Int}, ldB (some 32) 0 (.cells (grC O) true false) = some (.agg (grC O), .keep) := fun {O} => rfl
  have ld16 : ∀ {O : Nat → Nat → Int × Int}, ldB (some 16) 0 (.cells (pnC O) true false) = some (.agg (pnC O), .keep) := fun {O} => rfl
  have r0 : ∀ {z : Int × Int}, ldV (ratR z)[0]? = some (.int .i64 z.1, .keep) := fun {z} => rfl
  have r1 : ∀ {z : Int × Int}, ldV (ratR z)[1]? = some (.int .i64 z.2, .keep) := fun {z} => rfl
  refine Rs (A3 @t2 @t4 @bz) ?_
  obtain ⟨b10, hb10⟩ : ∃ b10, b10 = Y.length := ⟨_, rfl⟩
  obtain ⟨H1, hH1⟩ : ∃ H1, H1 = Y ++ [ABlk.cells (pnC fun _ _ => (0, 0)) true false] := ⟨_, rfl⟩
  have e1 : Ext Y H1 := by rw [hH1]; exact Xx
  have m10 : H1[b10]? = some (.cells (pnC fun _ _ => (0, 0)) true false) := by rw [hH1, hb10]; exact at_new
  have n10 : b2 < b10 := by rw [hb10]; exact (List.getElem?_eq_some_iff.1 m2).1
  have m2 := e1.some m2
  have l4 := @ldx _ _ _ (e1.some m4)
  rw [← hb10, ← hH1]
  refine Rs (A4 @t2 @t4 @l4 @ld32) ?_
  refine WF.ce T.c143 (r143 T (pw.ext (e0.trans e1)) (G := G) (w := 3) (fun i j hi hj => by obtain ⟨⟨a1, a2⟩, a3, a4⟩ := hG i j hi hj; exact ⟨⟨by omega, by omega⟩, by omega, by omega⟩) (by omega)) fun g1 => ?_
  obtain ⟨F, hF⟩ : ∃ F, F = trG G 3 := ⟨_, rfl⟩
  have hB : pnB F := fun i j _ _ => by
    have := tr_bd (w := 3) hG i j
    rw [← hF] at this
    obtain ⟨⟨a1, a2⟩, a3, a4⟩ := this
    exact ⟨⟨by omega, by omega⟩, by omega, by omega⟩
  rw [← hF]
  obtain ⟨H2, hH2⟩ : ∃ H2, H2 = H1 ++ g1 := ⟨_, rfl⟩
  have e2 : Ext H1 H2 := by rw [hH2]; exact Xx
  have m2 := e2.some m2
  have m10 := e2.some m10
  rw [← pnP_zero (F := F)] at m10
  have eh := e0.trans (e1.trans e2)
  rw [← hH2]
  refine Rs (A2 @t2 @t4) ?_
  refine WL.inv T.mix (fun n ts K => ∃ k : Nat, k ≤ 4 ∧ n = 4 - k ∧ Ext h K ∧ K[b10]? = some (.cells (pnC (outP F k 0 (0, 0))) true false) ∧ K[b2]? = some (.cells (pnC fun _ _ => (0, 0)) true false) ∧ ts.length = 66 ∧ slot ts 2 = .ptr b2 0 ∧ slot ts 10 = .ptr b10 0 ∧ slot ts 42 = .agg (grC F) ∧ slot ts 43 = .int .i64 k) 4
    ⟨0, by omega, rfl, eh, m10, m2, Sn, (Sq @t2), Sw, Sw, Swr⟩ ?_
  clear hlen t2 t4 m2 m10 l4 eh m4
  rintro _ ts K ⟨k, hk, rfl, eK, m10, m2, hlen, t2, t10, t42, t43⟩
  by_cases hk4 : k < 4
  case neg =>
    have e3 := lt4F hk4
    rw [show k = 4 by omega, pnP_all] at m10
    have l10 := @ldx _ _ _ m10
    have s2 := stN (n := 16) (L := pnC F) m2 rfl rfl (pnC_one _)
    have l2 := ldNs (n := 16) (L := pnC F) m2 rfl
    refine Rs (A9 @t2 @t10 @t42 @t43 @e3 @l10 @ld16 @s2 @l2) ?_
    exact ⟨ext_setG eK n2, trivial⟩
  have e3 := lt4T hk4
  have e5 := wrapN (n := k) (by omega)
  have xi := @ix_48 F k hk4
  refine Rs (A8 @t2 @t10 @t42 @t43 @e3 @xi @bz8 @st8) ?_
  obtain ⟨K1, hK1⟩ : ∃ K1, K1 = K ++ [ABlk.cells (roC (F k)) true false] := ⟨_, rfl⟩
  have eK1 : Ext K K1 := by rw [hK1]; exact Xx
  have m12 : K1[K.length]? = some (.cells (roC (F k)) true false) := by rw [hK1]; exact at_new
  have l12 := @ldx _ _ _ m12
  rw [← hK1]
  have m10 := eK1.some m10
  have m2 := eK1.some m2
  have eK := eK.trans eK1
  refine Rs (A6 @t2 @t10 @t42 @t43 @l12 @ld8) ?_
  refine WL.inv T.mix (fun n ts K => ∃ m : Nat, m ≤ 4 ∧ n = 4 - m ∧ Ext h K ∧ K[b10]? = some (.cells (pnC (outP F k m (0, 0))) true false) ∧ K[b2]? = some (.cells (pnC fun _ _ => (0, 0)) true false) ∧ ts.length = 66 ∧ slot ts 2 = .ptr b2 0 ∧ slot ts 10 = .ptr b10 0 ∧ slot ts 11 = .int .i64 k ∧ slot ts 42 = .agg (grC F) ∧ slot ts 43 = .int .i64 k ∧ slot ts 47 = .agg (roC (F k)) ∧ slot ts 48 = .int .i64 m) 4
    ⟨0, by omega, rfl, eK, m10, m2, Sn, (Sq @t2), (Sq @t10), Sw, (Sq @t42), (Sq @t43), Sw, Swr⟩ ?_
  clear hlen t2 t10 t42 t43 m10 m2 eK l12
  rintro _ ts K ⟨m, hm, rfl, eK, m10, m2, hlen, t2, t10, t11, t42, t43, t47, t48⟩
  by_cases hm4 : m < 4
  case neg =>
    have e4 := lt4F hm4
    rw [show m = 4 by omega, pnP_row] at m10
    refine Rs (A9 @t2 @t10 @t11 @t42 @t43 @t47 @t48 @e4 @e5) ?_
    exact ⟨4 - (k + 1), by omega, k + 1, by omega, rfl, eK, m10, m2, rfl⟩
  have e4 := lt4T hm4
  have e6 := wrapN (n := m) (by omega)
  have xj := @ix_42 (F k) m hm4
  refine Rs (A11 @t2 @t10 @t11 @t42 @t43 @t47 @t48 @e4 @xj @bz2 @st2) ?_
  obtain ⟨K2, hK2⟩ : ∃ K2, K2 = K ++ [ABlk.cells (ratR (F k m)) true false] := ⟨_, rfl⟩
  have eK2 : Ext K K2 := by rw [hK2]; exact Xx
  have m14 : K2[K.length]? = some (.cells (ratR (F k m)) true false) := by rw [hK2]; exact at_new
  have l14 := @ldx _ _ _ m14
  rw [← hK2]
  have m10 := eK2.some m10
  have m2 := eK2.some m2
  have eK := eK.trans eK2
  obtain ⟨⟨z1, z2⟩, z3, z4⟩ := hB k m hk4 hm4
  have ia := @ia_44 b10 k hk4
  have ib := @ia_41 b10 (k * 4) m hm4
  refine Rs (A10 @t2 @t10 @t11 @t42 @t43 @t47 @t48 @l14 @r0 @r1) ?_
  refine WF.ce T.c144 (b144 T z1 z2) fun g2 => ?_
  refine Rs (A10 @t2 @t10 @t11 @t42 @t43 @t47 @t48 @l14 @r0 @r1) ?_
  refine WF.ce T.c144 (b144 T z3 z4) fun g3 => ?_
  have eG : Ext K2 (K2 ++ g2 ++ g3) := Xx
  obtain ⟨K3, hK3⟩ : ∃ K3, K3 = K2 ++ g2 ++ g3 := ⟨_, rfl⟩
  rw [← hK3] at eG ⊢
  have m10' := eG.some m10
  have s10 := pn_st m10' hk4 hm4 (F k m)
  rw [outP_upd, outP_next] at s10
  refine Rs (A7 @t2 @t10 @t11 @t42 @t43 @t47 @t48) ?_
  rw [WP_cpxq (k := .f32) (a := smpl (F k m).1) (b := smpl (F k m).2) Sw Sw, cx_mk]
  refine Rs (A11 @t2 @t10 @t11 @t42 @t43 @t47 @t48 @ia @ib @s10 @e6) ?_
  exact ⟨4 - (m + 1), by omega, m + 1, by omega, rfl, ext_setG (eK.trans eG) (by omega), set_eq' m10', set_ne' (by omega) (eG.some m2), rfl⟩
end
end Go.Abs
namespace Go.Abs
open Ieee

theorem four_ok {l : Nat → Nat → Nat} (h : trcOk l) {t : Nat} (ht : t < 4) : firstS ([l t 0, l t 1, l t 2, l t 3].map gridE) = 0 := firstS_nil0 fun x hx => by
  simp only [List.map_cons, List.map_nil, List.mem_cons, List.not_mem_nil, or_false] at hx
  rcases hx with rfl | rfl | rfl | rfl <;> exact h t _ ht (by omega)
theorem fl_box {l : Nat → Nat → Nat} {N : Nat} : boxF (.agg (flC l)) N = some (.ptr N 0, .push (.cells (flC l) true false)) := rfl
attribute [local irreducible] cxA
set_option maxRecDepth 10000
attribute [local irreducible] WP WC WE WB WR WF WL WG WRg WQ
section
variable {P : Program} (T : Tbl P) {h : AHeap}
include T
set_option maxHeartbeats 8000000 in
theorem r60 (pw : Pwr h) {l : Nat → Nat → Nat} (hl : trcOk l) : RCall P 60 [.agg (flC l)] h (fun v _ => v = .tup [.agg (pnC (trG (trcG l) 3)), .int .i64 0]) := by
  refine .st1 66 T.mix T.c60 ?_;intro ts hlen t0;unfold fn60
  show WC P inFn (.seq _ (.seq _ (.seq _ paB))) _ _ _ _
  have bz : ∀ {N : Nat}, boxF (.agg [.cplx .f32 0 0, .cplx .f32 0 0, .cplx .f32 0 0, .cplx .f32 0 0, .cplx .f32 0 0, .cplx .f32 0 0, .cplx .f32 0 0, .cplx .f32 0 0, .cplx .f32 0 0, .cplx .f32 0 0, .cplx .f32 0 0, .cplx .f32 0 0, .cplx .f32 0 0, .cplx .f32 0 0, .cplx .f32 0 0, .cplx .f32 0 0]) N = some (.ptr N 0, .push (.cells (pnC fun _ _ => (0, 0)) true false)) := fun {N} => by rw [z_pn]; exact pn_box
  have bz32 : ∀ {N : Nat}, boxF (.agg [.int .i64 0, .int .i64 0, .int .i64 0, .int .i64 0, .int .i64 0, .int .i64 0, .int .i64 0, .int .i64 0, .int .i64 0, .int .i64 0, .int .i64 0, .int .i64 0, .int .i64 0, .int .i64 0, .int .i64 0, .int .i64 0, .int .i64 0, .int .i64 0, .int .i64 0, .int .i64 0, .int .i64 0, .int .i64 0, .int .i64 0, .int .i64 0, .int .i64 0, .int .i64 0, .int .i64 0, .int .i64 0, .int .i64 0, .int .i64 0, .int .i64 0, .int .i64 0]) N = some (.ptr N 0, .push (.cells (grC fun _ _ => (0, 0)) true false)) := fun {N} => rfl
  have bl : ∀ {N : Nat}, boxF (.agg (flC l)) N = some (.ptr N 0, .push (.cells (flC l) true false)) := fun {N} => fl_box
  have bz4 : ∀ {N : Nat}, boxF (.agg [.flt .f32 0, .flt .f32 0, .flt .f32 0, .flt .f32 0]) N = some (.ptr N 0, .push (.cells (fl4 fun _ => 0) true false)) := fun {N} => rfl
  have st4 : ∀ {n : Nat} {f : Nat → Nat}, stB 4 0 (.agg (fl4 f)) n (.cells (fl4 fun _ => 0) true false) = some (undefA, .set n (.cells (fl4 f) true false)) := fun {n f} => (stB_agg rfl rfl (by show 0 + 4 ≤ 4; omega)).trans rfl
  have ld4 : ∀ {f : Nat → Nat}, ldB (some 4) 0 (.cells (fl4 f) true false) = some (.agg (fl4 f), .keep) := fun {f} => rfl
  have ld16 : ldB (some 16) 0 (.cells (flC l) true false) = some (.agg (flC l), .keep) := rfl
  have d0 : decide ((0 : Int) ≠ 0) = false := rfl
  refine Rs (A3 @t0 @bl @bz) ?_
  obtain ⟨H0, hH0⟩ : ∃ H0, H0 = h ++ [ABlk.cells (flC l) true false] ++ [ABlk.cells (pnC fun _ _ => (0, 0)) true false] := ⟨_, rfl⟩
  have e0 : Ext h H0 := by rw [hH0]; exact Xx
  have m1 : H0[h.length]? = some (.cells (flC l) true false) := by rw [hH0]; exact at_1
  have m2 : H0[(h ++ [ABlk.cells (flC l) true false]).length]? = some (.cells (pnC fun _ _ => (0, 0)) true false) := by rw [hH0]; exact at_new
  obtain ⟨b1, hb1⟩ : ∃ b1, b1 = h.length := ⟨_, rfl⟩
  obtain ⟨b2, hb2⟩ : ∃ b2, b2 = (h ++ [ABlk.cells (flC l) true false]).length := ⟨_, rfl⟩
  have n2 : h.length ≤ b2 := by rw [hb2]; simp
  rw [← hb1] at m1 ⊢
  rw [← hb2] at m2 ⊢
  rw [← hH0]
  refine Rs (A2 @t0 @ld16) ?_
  obtain ⟨b4, hb4⟩ : ∃ b4, b4 = H0.length := ⟨_, rfl⟩
  obtain ⟨H1, hH1⟩ : ∃ H1, H1 = H0 ++ [ABlk.cells [AV.int .i64 0, AV.int .i64 0, AV.int .i64 0, AV.int .i64 0, AV.int .i64 0, AV.int .i64 0, AV.int .i64 0, AV.int .i64 0, AV.int .i64 0, AV.int .i64 0, AV.int .i64 0, AV.int .i64 0, AV.int .i64 0, AV.int .i64 0, AV.int .i64 0, AV.int .i64 0, AV.int .i64 0, AV.int .i64 0, AV.int .i64 0, AV.int .i64 0, AV.int .i64 0, AV.int .i64 0, AV.int .i64 0, AV.int .i64 0, AV.int .i64 0, AV.int .i64 0, AV.int .i64 0, AV.int .i64 0, AV.int .i64 0, AV.int .i64 0, AV.int .i64 0, AV.int .i64 0] true false] := ⟨_, rfl⟩
  have e1 : Ext H0 H1 := by rw [hH1]; exact Xx
  have m4 : H1[b4]? = some (.cells (grC (inP (trcG l) 0 0)) true false) := by rw [hH1, hb4, inP_zero]; exact at_new
  have n4 : b2 < b4 := by rw [hb4]; exact (List.getElem?_eq_some_iff.1 m2).1
  have l1 := @ldx _ _ _ (e1.some m1)
  have m2 := e1.some m2
  have eh := e0.trans e1
  rw [← hb4, ← hH1]
  refine WL.inv T.mix (fun n ts K => ∃ k : Nat, k ≤ 4 ∧ n = 4 - k ∧ Ext h K ∧ K[b4]? = some (.cells (grC (inP (trcG l) k 0)) true false) ∧ K[b2]? = some (.cells (pnC fun _ _ => (0, 0)) true false) ∧ ts.length = 66 ∧ slot ts 2 = .ptr b2 0 ∧ slot ts 4 = .ptr b4 0 ∧ slot ts 15 = .agg (flC l) ∧ slot ts 16 = .int .i64 k) 4
    ⟨0, by omega, rfl, eh, m4, m2, Sn, Sw, Sw, Sw, Swr⟩ ?_
  clear hlen t0 m2 m4 eh l1
  rintro _ ts K ⟨k, hk, rfl, eK, m4, m2, hlen, t2, t4, t15, t16⟩
  by_cases hk4 : k < 4
  case neg =>
    have e3 := lt4F hk4
    rw [show k = 4 by omega, inP_all] at m4
    refine Rs (A5 @t2 @t4 @t15 @t16 @e3) ?_
    exact pa_B T pw (G := trcG l) (b2 := b2) (b4 := b4) (trc_bd hl) Sn (Sq @t2) (Sq @t4) eK n2 m2 m4
  have e3 := lt4T hk4
  have e5 := wrapN (n := k) (by omega)
  have xi := @ix_f44 l k hk4
  refine Rs (A8 @t2 @t4 @t15 @t16 @e3 @xi @bz4 @st4) ?_
  obtain ⟨K1, hK1⟩ : ∃ K1, K1 = K ++ [ABlk.cells (fl4 (l k)) true false] := ⟨_, rfl⟩
  have eK1 : Ext K K1 := by rw [hK1]; exact Xx
  have m6 : K1[K.length]? = some (.cells (fl4 (l k)) true false) := by rw [hK1]; exact at_new
  obtain ⟨b6, hb6⟩ : ∃ b6, b6 = K.length := ⟨_, rfl⟩
  rw [← hb6] at m6 ⊢
  rw [← hK1]
  have m4 := eK1.some m4
  have m2 := eK1.some m2
  have eK := eK.trans eK1
  rw [WP_sla (b := b6) (o := 0) (c := fl4 (l k)) (mu := true) (tl := false) Sw m6 (by show 0 + 4 * 1 ≤ 4; omega)]
  refine Rs (A4 @t2 @t4 @t15 @t16) ?_
  refine WF.res T.c141 (r141 T (fl4_sl m6) (by simp) T.c142 (g := gridE) (fun x hx k => r142 T x)) ?_
  intro s21 g1 is21
  refine Rs (A4 @t2 @t4 @t15 @t16) ?_
  refine WF.ce T.c116 (r116 T is21 (by simp)) fun g2 => ?_
  rw [four_ok hl hk4]
  obtain ⟨K2, hK2⟩ : ∃ K2, K2 = K1 ++ g1 ++ g2 := ⟨_, rfl⟩
  have eK2 : Ext K1 K2 := by rw [hK2]; exact Xx
  rw [← hK2]
  have m4 := eK2.some m4
  have m2 := eK2.some m2
  have l6 := @ldx _ _ _ (eK2.some m6)
  have eK := eK.trans eK2
  refine Rs (A7 @t2 @t4 @t15 @t16 @d0 @l6 @ld4) ?_
  refine WL.inv T.mix (fun n ts K => ∃ m : Nat, m ≤ 4 ∧ n = 4 - m ∧ Ext h K ∧ K[b4]? = some (.cells (grC (inP (trcG l) k m)) true false) ∧ K[b2]? = some (.cells (pnC fun _ _ => (0, 0)) true false) ∧ ts.length = 66 ∧ slot ts 2 = .ptr b2 0 ∧ slot ts 4 = .ptr b4 0 ∧ slot ts 5 = .int .i64 k ∧ slot ts 15 = .agg (flC l) ∧ slot ts 16 = .int .i64 k ∧ slot ts 27 = .agg (fl4 (l k)) ∧ slot ts 28 = .int .i64 m) 4
    ⟨0, by omega, rfl, eK, m4, m2, Sn, (Sq @t2), (Sq @t4), Sw, (Sq @t15), (Sq @t16), Sw, Swr⟩ ?_
  clear hlen t2 t4 t15 t16 m4 m2 eK l6
  rintro _ ts K ⟨m, hm, rfl, eK, m4, m2, hlen, t2, t4, t5, t15, t16, t27, t28⟩
  by_cases hm4 : m < 4
  case neg =>
    have e4 := lt4F hm4
    rw [show m = 4 by omega, inP_row] at m4
    refine Rs (A9 @t2 @t4 @t5 @t15 @t16 @t27 @t28 @e4 @e5) ?_
    exact ⟨4 - (k + 1), by omega, k + 1, by omega, rfl, eK, m4, m2, rfl⟩
  have e4 := lt4T hm4
  have e6 := wrapN (n := m) (by omega)
  have xj := @ix_f41 (l k) m hm4
  have ia := @ia_48 b4 m hm4
  have ib := @ia_42 b4 (m * 8) k hk4
  refine Rs (A9 @t2 @t4 @t5 @t15 @t16 @t27 @t28 @e4 @xj) ?_
  refine WF.ce T.c108 (r108 T (hl k m hk4 hm4)) fun g1 => ?_
  have eG : Ext K (K ++ g1) := Xx
  obtain ⟨K3, hK3⟩ : ∃ K3, K3 = K ++ g1 := ⟨_, rfl⟩
  rw [← hK3] at eG ⊢
  have m4' := eG.some m4
  have s4 := gr_st m4' hm4 hk4 (trcG l m k)
  rw [inP_upd] at s4
  have s4 : storeF 2 (.ptr b4 (m * 8 + k * 2)) (.agg [.int .i64 (gridN (l k m)), .int .i64 0]) (fun q => K3[q]?) = some (undefA, .set b4 (.cells (grC (inP (trcG l) k (m + 1))) true false)) := s4
  refine Rs (A11 @t2 @t4 @t5 @t15 @t16 @t27 @t28 @ia @ib @s4 @e6) ?_
  exact ⟨4 - (m + 1), by omega, m + 1, by omega, rfl, ext_setG (eK.trans eG) (by omega), set_eq' m4', set_ne' (by omega) (eG.some m2), rfl⟩
end
end Go.Abs
namespace Go.Abs
open Ieee

def updF (G : Nat → Nat → Nat) (k m : Nat) (z : Nat) : Nat → Nat → Nat := fun a b => if a = k ∧ b = m then z else G a b
theorem flC_set {G : Nat → Nat → Nat} {k m : Nat} (hk : k < 4) (hm : m < 4) (z : Nat) : (flC G).set (k * 4 + m) (.flt .f32 z) = flC (updF G k m z) := by
  rcases four hk with rfl | rfl | rfl | rfl <;> rcases four hm with rfl | rfl | rfl | rfl <;> rfl
theorem flC_congr {G H : Nat → Nat → Nat} (h : ∀ a b, a < 4 → b < 4 → G a b = H a b) : flC G = flC H := by
  unfold flC fl4
  simp only [h 0 0 (by omega) (by omega), h 0 1 (by omega) (by omega), h 0 2 (by omega) (by omega), h 0 3 (by omega) (by omega), h 1 0 (by omega) (by omega), h 1 1 (by omega) (by omega), h 1 2 (by omega) (by omega), h 1 3 (by omega) (by omega), h 2 0 (by omega) (by omega), h 2 1 (by omega) (by omega), h 2 2 (by omega) (by omega), h 2 3 (by omega) (by omega), h 3 0 (by omega) (by omega), h 3 1 (by omega) (by omega), h 3 2 (by omega) (by omega), h 3 3 (by omega) (by omega)]
theorem flC_one (G : Nat → Nat → Nat) : (flC G).all AV.one = true := rfl
def inN (F : Nat → Nat → Nat) (n t : Nat) : Nat → Nat → Nat := fun a b => if b < n ∨ (b = n ∧ a < t) then F a b else 0
theorem inN_upd {F : Nat → Nat → Nat} {n t : Nat} : updF (inN F n t) t n (F t n) = inN F n (t + 1) := by
  funext a b
  unfold updF inN
  by_cases h : a = t ∧ b = n
  · obtain ⟨rfl, rfl⟩ := h
    rw [if_pos ⟨rfl, rfl⟩, if_pos (by omega)]
  · rw [if_neg h]
    by_cases h2 : b < n ∨ (b = n ∧ a < t)
    · rw [if_pos h2, if_pos (by omega)]
    · rw [if_neg h2, if_neg (by omega)]
theorem inN_row {F : Nat → Nat → Nat} {n : Nat} : flC (inN F n 4) = flC (inN F (n + 1) 0) := flC_congr fun a b ha hb => by
  unfold inN
  by_cases h1 : b < n + 1
  · rw [if_pos (by omega), if_pos (by omega)]
  · rw [if_neg (by omega), if_neg (by omega)]
theorem inN_all {F : Nat → Nat → Nat} : flC (inN F 4 0) = flC F := flC_congr fun a b ha hb => by
  unfold inN
  rw [if_pos (by omega)]
theorem inN_zero {F : Nat → Nat → Nat} : flC (inN F 0 0) = flC fun _ _ => 0 := flC_congr fun a b ha hb => by
  unfold inN
  rw [if_neg (by omega)]
theorem fl_st {K : AHeap} {b k m : Nat} {Z : Nat → Nat → Nat} (m1 : K[b]? = some (.cells (flC Z) true false)) (hk : k < 4) (hm : m < 4) (z : Nat) : storeF 1 (.ptr b (k * 4 + m)) (.flt .f32 z) (fun q => K[q]?) = some (undefA, .set b (.cells (flC (updF Z k m z)) true false)) := by
  rw [storeF_at m1, stB_one rfl (by show k * 4 + m + 1 ≤ 16; omega), flC_set hk hm]
def ubB : ICode := match (fn61).body with
  | .seq _ (.seq _ (.seq _ (.seq _ (.seq _ c)))) => c
  | c => c
def ubA : ICode := match (fn61).body with
  | .seq _ (.seq _ (.seq _ c)) => c
  | c => c
attribute [local irreducible] cxA
set_option maxRecDepth 10000
attribute [local irreducible] WP WC WE WB WR WF WL WG WRg WQ
section
variable {P : Program} (T : Tbl P) {h Y : AHeap} {ts : TS} {b1 b2 b5 : Nat}
include T
set_option maxHeartbeats 8000000 in
theorem ub_B (pw : Pwr h) {l : Nat → Nat → Nat} (hl : trcOk l) (hlen : ts.length = 87) (t2 : slot ts 2 = .ptr b2 0) (t5 : slot ts 5 = .ptr b5 0) (e0 : Ext h Y) (n2 : h.length ≤ b2) (m2 : Y[b2]? = some (.cells (flC fun _ _ => 0) true false)) (m5 : Y[b5]? = some (.cells (grC (trG (trcG l) 3)) true false)) :
    WC P inFn ubB [] ts Y (FQ [(2, some (some 16)), (3, none)] fun v k => Ext h k ∧ ∃ o : Nat → Nat → Nat, v = .tup [.agg (flC o), .int .i64 0] ∧ ∀ t n, t < 4 → n < 4 → gridE (o t n) = 0 ∧ gridN (o t n) = gridN (l t n)) := by
  unfold ubB fn61
  dsimp only
  have bz : ∀ {N : Nat}, boxF (.agg [.flt .f32 0, .flt .f32 0, .flt .f32 0, .flt .f32 0, .flt .f32 0, .flt .f32 0, .flt .f32 0, .flt .f32 0, .flt .f32 0, .flt .f32 0, .flt .f32 0, .flt .f32 0, .flt .f32 0, .flt .f32 0, .flt .f32 0, .flt .f32 0]) N = some (.ptr N 0, .push (.cells (flC fun _ _ => 0) true false)) := fun {N} => rfl
  have bz8 : ∀ {N : Nat}, boxF (.agg [.int .i64 0, .int .i64 0, .int .i64 0, .int .i64 0, .int .i64 0, .int .i64 0, .int .i64 0, .int .i64 0]) N = some (.ptr N 0, .push (.cells (roC fun _ => (0, 0)) true false)) := fun {N} => rfl
  have bz2 : ∀ {N : Nat}, boxF (.agg [.int .i64 0, .int .i64 0]) N = some (.ptr N 0, .push (.cells (ratR (0, 0)) true false)) := fun {N} => rfl
  have st8 : ∀ {n : Nat} {f : Nat → Int × Int}, stB 8 0 (.agg (roC f)) n (.cells (roC fun _ => (0, 0)) true false) = some (undefA, .set n (.cells (roC f) true false)) := fun {n f} => (stB_agg rfl rfl (by show 0 + 8 ≤ 8; omega)).trans rfl
  have st2 : ∀ {n : Nat} {z : Int × Int}, stB 2 0 (.agg (ratR z)) n (.cells (ratR (0, 0)) true false) = some (undefA, .set n (.cells (ratR z) true false)) := fun {n z} => (stB_agg rfl rfl (by show 0 + 2 ≤ 2; omega)).trans rfl
  have ld8 : ∀ {f : Nat → Int × Int}, ldB (some 8) 0 (.cells (roC f) true false) = some (.agg (roC f), .keep) := fun {f} => rfl
  have ld32 : ∀ {O : Nat → Nat → Int × Int}, ldB (some 32) 0 (.cells (grC O) true false) = some (.agg (grC O), .keep) := fun {O} => rfl
  have ld16 : ∀ {O : Nat → Nat → Nat}, ldB (some 16) 0 (.cells (flC O) true false) = some (.agg (flC O), .keep) := fun {O} => rfl
  have r0 : ∀ {z : Int × Int}, ldV (ratR z)[0]? = some (.int .i64 z.1, .keep) := fun {z} => rfl
  have r1 : ∀ {z : Int × Int}, ldV (ratR z)[1]? = some (.int .i64 z.2, .keep) := fun {z} => rfl
  have q0 : ∀ {z : Int × Int}, ldB none 0 (.cells (ratR z) true false) = some (.int .i64 z.1, .keep) := fun {z} => rfl
  have q1 : ∀ {z : Int × Int}, ldB none 1 (.cells (ratR z) true false) = some (.int .i64 z.2, .keep) := fun {z} => rfl
  have d0 : decide ((0 : Int) ≠ 0) = false := rfl
  refine Rs (A3 @t2 @t5 @bz) ?_
  obtain ⟨b10, hb10⟩ : ∃ b10, b10 = Y.length := ⟨_, rfl⟩
  obtain ⟨H1, hH1⟩ : ∃ H1, H1 = Y ++ [ABlk.cells (flC fun _ _ => 0) true false] := ⟨_, rfl⟩
  have e1 : Ext Y H1 := by rw [hH1]; exact Xx
  obtain ⟨F, hF⟩ : ∃ F : Nat → Nat → Nat, F = fun t n => smpl (gridN (l t n)) := ⟨_, rfl⟩
  have m10 : H1[b10]? = some (.cells (flC (inN F 0 0)) true false) := by rw [hH1, hb10, inN_zero]; exact at_new
  have n10 : b2 < b10 := by rw [hb10]; exact (List.getElem?_eq_some_iff.1 m2).1
  have m2 := e1.some m2
  have l5 := @ldx _ _ _ (e1.some m5)
  rw [← hb10, ← hH1]
  refine Rs (A4 @t2 @t5 @l5 @ld32) ?_
  have hpb := pan_bd hl
  refine WF.ce T.c143 (r143 T (pw.ext (e0.trans e1)) (G := trG (trcG l) 3) (w := 1) (fun i j hi hj => by obtain ⟨⟨a1, a2⟩, a3, a4⟩ := hpb i j hi hj; exact ⟨⟨by omega, by omega⟩, by omega, by omega⟩) (by omega)) fun g1 => ?_
  obtain ⟨B, hB⟩ : ∃ B, B = trG (trG (trcG l) 3) 1 := ⟨_, rfl⟩
  have hBv : ∀ n t, n < 4 → t < 4 → B n t = (16 * gridN (l t n), 0) := fun n t hn ht => by
    rw [hB]
    have := tr_back (trcG l) hn ht
    rw [show trG (trG (trcG l) 3) 1 n t = trG (fun k m => trG (trcG l) 3 k m) 1 n t from rfl, this]
    unfold scalF4 trcG
    refine pw_ext ?_ ?_ <;> simp only <;> omega
  rw [← hB]
  obtain ⟨H2, hH2⟩ : ∃ H2, H2 = H1 ++ g1 := ⟨_, rfl⟩
  have e2 : Ext H1 H2 := by rw [hH2]; exact Xx
  have m2 := e2.some m2
  have m10 := e2.some m10
  have eh := e0.trans (e1.trans e2)
  rw [← hH2]
  refine Rs (A2 @t2 @t5) ?_
  refine WL.inv T.mix (fun n ts K => ∃ k : Nat, k ≤ 4 ∧ n = 4 - k ∧ Ext h K ∧ K[b10]? = some (.cells (flC (inN F k 0)) true false) ∧ K[b2]? = some (.cells (flC fun _ _ => 0) true false) ∧ ts.length = 87 ∧ slot ts 2 = .ptr b2 0 ∧ slot ts 10 = .ptr b10 0 ∧ slot ts 49 = .agg (grC B) ∧ slot ts 50 = .int .i64 k) 4
    ⟨0, by omega, rfl, eh, m10, m2, Sn, (Sq @t2), Sw, Sw, Swr⟩ ?_
  clear hlen t2 t5 m2 m10 l5 eh m5
  rintro _ ts K ⟨k, hk, rfl, eK, m10, m2, hlen, t2, t10, t49, t50⟩
  by_cases hk4 : k < 4
  case neg =>
    have e3 := lt4F hk4
    rw [show k = 4 by omega, inN_all] at m10
    have l10 := @ldx _ _ _ m10
    have s2 := stN (n := 16) (L := flC F) m2 rfl rfl (flC_one _)
    have l2 := ldNs (n := 16) (L := flC F) m2 rfl
    refine Rs (A9 @t2 @t10 @t49 @t50 @e3 @l10 @ld16 @s2 @l2) ?_
    refine ⟨ext_setG eK n2, F, rfl, fun t n ht hn => ?_⟩
    obtain ⟨_, _, z1, z2⟩ := grid_num (hl t n ht hn)
    rw [hF]
    exact (smpl_ok z1 z2).2
  have e3 := lt4T hk4
  have e5 := wrapN (n := k) (by omega)
  have xi := @ix_48 B k hk4
  refine Rs (A8 @t2 @t10 @t49 @t50 @e3 @xi @bz8 @st8) ?_
  obtain ⟨K1, hK1⟩ : ∃ K1, K1 = K ++ [ABlk.cells (roC (B k)) true false] := ⟨_, rfl⟩
  have eK1 : Ext K K1 := by rw [hK1]; exact Xx
  have m12 : K1[K.length]? = some (.cells (roC (B k)) true false) := by rw [hK1]; exact at_new
  have l12 := @ldx _ _ _ m12
  rw [← hK1]
  have m10 := eK1.some m10
  have m2 := eK1.some m2
  have eK := eK.trans eK1
  refine Rs (A6 @t2 @t10 @t49 @t50 @l12 @ld8) ?_
  refine WL.inv T.mix (fun n ts K => ∃ m : Nat, m ≤ 4 ∧ n = 4 - m ∧ Ext h K ∧ K[b10]? = some (.cells (flC (inN F k m)) true false) ∧ K[b2]? = some (.cells (flC fun _ _ => 0) true false) ∧ ts.length = 87 ∧ slot ts 2 = .ptr b2 0 ∧ slot ts 10 = .ptr b10 0 ∧ slot ts 11 = .int .i64 k ∧ slot ts 49 = .agg (grC B) ∧ slot ts 50 = .int .i64 k ∧ slot ts 54 = .agg (roC (B k)) ∧ slot ts 55 = .int .i64 m) 4
    ⟨0, by omega, rfl, eK, m10, m2, Sn, (Sq @t2), (Sq @t10), Sw, (Sq @t49), (Sq @t50), Sw, Swr⟩ ?_
  clear hlen t2 t10 t49 t50 m10 m2 eK l12
  rintro _ ts K ⟨m, hm, rfl, eK, m10, m2, hlen, t2, t10, t11, t49, t50, t54, t55⟩
  by_cases hm4 : m < 4
  case neg =>
    have e4 := lt4F hm4
    rw [show m = 4 by omega, inN_row] at m10
    refine Rs (A9 @t2 @t10 @t11 @t49 @t50 @t54 @t55 @e4 @e5) ?_
    exact ⟨4 - (k + 1), by omega, k + 1, by omega, rfl, eK, m10, m2, rfl⟩
  have e4 := lt4T hm4
  have e6 := wrapN (n := m) (by omega)
  have xj := @ix_42 (B k) m hm4
  refine Rs (A11 @t2 @t10 @t11 @t49 @t50 @t54 @t55 @e4 @xj @bz2 @st2) ?_
  obtain ⟨K2, hK2⟩ : ∃ K2, K2 = K ++ [ABlk.cells (ratR (B k m)) true false] := ⟨_, rfl⟩
  have eK2 : Ext K K2 := by rw [hK2]; exact Xx
  have m14 : K2[K.length]? = some (.cells (ratR (B k m)) true false) := by rw [hK2]; exact at_new
  have l14 := @ldx _ _ _ m14
  rw [← hK2]
  have m10 := eK2.some m10
  have m2 := eK2.some m2
  have eK := eK.trans eK2
  obtain ⟨g, hg⟩ : ∃ g, g = gridN (l m k) := ⟨_, rfl⟩
  obtain ⟨_, _, z1, z2⟩ := grid_num (hl m k hm4 hk4)
  rw [← hg] at z1 z2
  have hv := hBv k m hk4 hm4
  rw [← hg] at hv
  have v1 : (B k m).1 = 16 * g := by rw [hv]
  have v2 : (B k m).2 = 0 := by rw [hv]
  have bq : binK .quo (.int .i64 (16 * g)) (.int .i64 16) = some (.int .i64 g) := by rw [bin_quo (by omega), Int.mul_tdiv_cancel_left _ (by omega), wrap_in (by omega) (by omega)]
  have br : binK .rem (.int .i64 (16 * g)) (.int .i64 16) = some (.int .i64 0) := by rw [bin_rem (by omega), Int.mul_tmod_right]
  have ia := @ia_44 b10 m hm4
  have ib := @ia_41 b10 (m * 4) k hk4
  refine Rs (A16 @t2 @t10 @t11 @t49 @t50 @t54 @t55 @l14 @r0 @r1 @q0 @q1 @v1 @v2 @bq @br) ?_
  refine WF.ce T.c144 (b144 T (n := g) (by omega) (by omega)) fun g2 => ?_
  have eG : Ext K2 (K2 ++ g2) := Xx
  obtain ⟨K3, hK3⟩ : ∃ K3, K3 = K2 ++ g2 := ⟨_, rfl⟩
  rw [← hK3] at eG ⊢
  have m10' := eG.some m10
  have s10 := fl_st m10' hm4 hk4 (F m k)
  rw [inN_upd] at s10
  have hFm : F m k = smpl g := by rw [hF, hg]
  rw [hFm] at s10
  have l14' := @ldx _ _ _ (set_ne' (X := .cells (flC (inN F k (m + 1))) true false) (show b10 ≠ K.length by have := (List.getElem?_eq_some_iff.1 m10).1; intro z; rw [z, hK2] at m10; rw [at_new] at m10; cases m10) (eG.some m14))
  refine Rs (A20 @t2 @t10 @t11 @t49 @t50 @t54 @t55 @ia @ib @s10 @l14' @r0 @r1 @q0 @q1 @v1 @v2 @bq @br @d0) ?_
  refine WF.ce T.c146 (r146 T g) fun g3 => ?_
  have hfit : fitB g = true := by unfold fitB; rw [decide_eq_true z1, decide_eq_true z2]; rfl
  rw [hfit]
  refine Rs (A9 @t2 @t10 @t11 @t49 @t50 @t54 @t55 @Bool.not_true @e6) ?_
  have eS : Ext h (K3.set b10 (.cells (flC (inN F k (m + 1))) true false)) := ext_setG (eK.trans eG) (by omega)
  exact ⟨4 - (m + 1), by omega, m + 1, by omega, rfl, eS.trans ⟨g3, rfl⟩, (show Ext _ (_ ++ g3) from ⟨g3, rfl⟩).some (set_eq' m10'), (show Ext _ (_ ++ g3) from ⟨g3, rfl⟩).some (set_ne' (by omega) (eG.some m2)), rfl⟩
end
end Go.Abs
namespace Go.Abs
open Ieee

/-- Cells compared one by one. -/
theorem eqC_all {k : CK} : ∀ (L : List (AV × AV × Bool)), (∀ t ∈ L, eqQ k t.1 t.2.1 = some t.2.2) → eqCells (L.map fun _ => k) (L.map (·.1)) (L.map (·.2.1)) = some (L.all (·.2.2))
  | [], _ => rfl
  | (x, y, b) :: L, h => by
    have h1 : eqQ k x y = some b := h (x, y, b) (List.mem_cons_self ..)
    have h2 := eqC_all L fun t ht => h t (List.mem_cons_of_mem _ ht)
    simp only [List.map_cons, eqCells, h1, List.all_cons]
    cases b with
    | false => simp
    | true => simp only [Bool.true_and]; exact h2
theorem uu_inj {u v n m : Int} (h1 : 16 * u = n * UU) (h2 : 16 * v = m * UU) : (u = v) ↔ (n = m) := by
  have hU := UU_pos
  constructor
  · intro h
    subst h
    exact Int.eq_of_mul_eq_mul_right (show UU ≠ 0 by omega) (by omega)
  · intro h
    subst h
    omega
theorem cx_eq {z w : Int × Int} (hz : bdI 262144 z) (hw : bdI 262144 w) : eqQ .c (cxA z) (cxA w) = some (decide (z = w)) := by
  obtain ⟨⟨a1, a2⟩, a3, a4⟩ := hz
  obtain ⟨⟨b1, b2⟩, b3, b4⟩ := hw
  obtain ⟨_, u1, h1, e1⟩ := smpl_big a1 a2
  obtain ⟨_, u2, h2, e2⟩ := smpl_big a3 a4
  obtain ⟨_, v1, h3, e3⟩ := smpl_big b1 b2
  obtain ⟨_, v2, h4, e4⟩ := smpl_big b3 b4
  unfold cxA
  simp only [eqQ, if_true, num_ord h1 h3, num_ord h2 h4, cmp_eq]
  rw [decide_eq_decide.2 (uu_inj e1 e3), decide_eq_decide.2 (uu_inj e2 e4)]
  congr 1
  by_cases q1 : z.1 = w.1
  · by_cases q2 : z.2 = w.2
    · rw [decide_eq_true q1, decide_eq_true q2, decide_eq_true (Prod.ext q1 q2)]; rfl
    · rw [decide_eq_false q2, decide_eq_false (p := z = w) (fun q => q2 (by rw [q])), Bool.and_false]
  · rw [decide_eq_false q1, decide_eq_false (p := z = w) (fun q => q1 (by rw [q])), Bool.false_and]
theorem fl_eq {a b : Nat} (ha : gridE a = 0) (hb : gridE b = 0) : eqQ .f (.flt .f32 a) (.flt .f32 b) = some (decide (gridN a = gridN b)) := by
  obtain ⟨h1, h2, _⟩ := grid_num ha
  obtain ⟨h3, h4, _⟩ := grid_num hb
  simp only [eqQ, if_true, num_ord h1 h3, cmp_eq]
  rw [decide_eq_decide.2 (uu_inj h2.symm h4.symm)]
/-- Panels compared. -/
def pnL (Z W : Nat → Nat → Int × Int) : List (Bool) := [(0, 0), (0, 1), (0, 2), (0, 3), (1, 0), (1, 1), (1, 2), (1, 3), (2, 0), (2, 1), (2, 2), (2, 3), (3, 0), (3, 1), (3, 2), (3, 3)].map fun p : Nat × Nat => decide (Z p.1 p.2 = W p.1 p.2)
def pnQ (Z W : Nat → Nat → Int × Int) : Bool := (pnL Z W).all id
theorem pnQ_t {Z W : Nat → Nat → Int × Int} (h : pnQ Z W = true) {a b : Nat} (ha : a < 4) (hb : b < 4) : Z a b = W a b := by
  unfold pnQ pnL at h
  simp only [List.map_cons, List.map_nil, List.all_cons, List.all_nil, id_eq, Bool.and_true, Bool.and_eq_true, decide_eq_true_eq] at h
  rcases four ha with rfl | rfl | rfl | rfl <;> rcases four hb with rfl | rfl | rfl | rfl <;> simp only [h]
theorem pnQ_of {Z W : Nat → Nat → Int × Int} (h : ∀ a b, a < 4 → b < 4 → Z a b = W a b) : pnQ Z W = true := by
  unfold pnQ pnL
  simp only [List.map_cons, List.map_nil, List.all_cons, List.all_nil, id_eq, Bool.and_true, Bool.and_eq_true, decide_eq_true_eq]
  simp [h]
theorem pn_eqC {Z W : Nat → Nat → Int × Int} (hZ : pnB Z) (hW : pnB W) : eqvK (.agg [.c, .c, .c, .c, .c, .c, .c, .c, .c, .c, .c, .c, .c, .c, .c, .c]) (.agg (pnC Z)) (.agg (pnC W)) = some (pnQ Z W) := by
  rw [eqA rfl rfl]
  have q := eqC_all (k := .c) ([(0, 0), (0, 1), (0, 2), (0, 3), (1, 0), (1, 1), (1, 2), (1, 3), (2, 0), (2, 1), (2, 2), (2, 3), (3, 0), (3, 1), (3, 2), (3, 3)].map fun p : Nat × Nat => (cxA (Z p.1 p.2), cxA (W p.1 p.2), decide (Z p.1 p.2 = W p.1 p.2))) (fun t ht => by
    obtain ⟨p, hp, rfl⟩ := List.mem_map.1 ht
    have hpp : p.1 < 4 ∧ p.2 < 4 := by
      simp only [List.mem_cons, List.not_mem_nil, or_false] at hp
      rcases hp with rfl | rfl | rfl | rfl | rfl | rfl | rfl | rfl | rfl | rfl | rfl | rfl | rfl | rfl | rfl | rfl <;> exact ⟨by decide, by decide⟩
    exact cx_eq (hZ _ _ hpp.1 hpp.2) (hW _ _ hpp.1 hpp.2))
  exact q
theorem z_bd : pnB fun _ _ => (0, 0) := fun _ _ _ _ => ⟨⟨by show (-262144 : Int) ≤ 0; omega, by show (0 : Int) ≤ 262144; omega⟩, by show (-262144 : Int) ≤ 0; omega, by show (0 : Int) ≤ 262144; omega⟩
theorem grid_0 : gridE 0 = 0 ∧ gridN 0 = 0 := by
  have := smpl_ok (n := 0) (by omega) (by omega)
  rw [smpl_0] at this
  exact this.2
attribute [local irreducible] cxA
set_option maxRecDepth 10000
attribute [local irreducible] WP WC WE WB WR WF WL WG WRg WQ
section
variable {P : Program} (T : Tbl P) {h Y : AHeap} {ts : TS} {b1 b2 : Nat}
include T
set_option maxHeartbeats 8000000 in
theorem ub_A (pw : Pwr h) {l : Nat → Nat → Nat} (hl : trcOk l) (hlen : ts.length = 87) (t1 : slot ts 1 = .ptr b1 0) (t2 : slot ts 2 = .ptr b2 0) (e0 : Ext h Y) (n2 : h.length ≤ b2) (m1 : Y[b1]? = some (.cells (pnC (trG (trcG l) 3)) true false)) (m2 : Y[b2]? = some (.cells (flC fun _ _ => 0) true false)) :
    WC P inFn ubA [] ts Y (FQ [(2, some (some 16)), (3, none)] fun v k => Ext h k ∧ ∃ o : Nat → Nat → Nat, v = .tup [.agg (flC o), .int .i64 0] ∧ ∀ t n, t < 4 → n < 4 → gridE (o t n) = 0 ∧ gridN (o t n) = gridN (l t n)) := by
  show WC P inFn (.seq _ (.seq _ ubB)) _ _ _ _
  obtain ⟨Z, hZe⟩ : ∃ Z, Z = trG (trcG l) 3 := ⟨_, rfl⟩
  have hZ : pnB Z := by rw [hZe]; exact pan_bd hl
  rw [← hZe] at m1
  have b4 : ∀ {N : Nat}, boxF (.agg [.cplx .f32 0 0, .cplx .f32 0 0, .cplx .f32 0 0, .cplx .f32 0 0]) N = some (.ptr N 0, .push (.cells [.cplx .f32 0 0, .cplx .f32 0 0, .cplx .f32 0 0, .cplx .f32 0 0] true false)) := fun {N} => rfl
  have st4 : ∀ {n : Nat} {f : Nat → Int × Int}, stB 4 0 (.agg (pnR f)) n (.cells [.cplx .f32 0 0, .cplx .f32 0 0, .cplx .f32 0 0, .cplx .f32 0 0] true false) = some (undefA, .set n (.cells (pnR f) true false)) := fun {n f} => (stB_agg rfl (pnR_one f) (by show 0 + 4 ≤ 4; omega)).trans rfl
  have ld4 : ∀ {f : Nat → Int × Int}, ldB (some 4) 0 (.cells (pnR f) true false) = some (.agg (pnR f), .keep) := fun {f} => rfl
  have ld16 : ldB (some 16) 0 (.cells (pnC Z) true false) = some (.agg (pnC Z), .keep) := rfl
  have l1 := fun {kk : AHeap} (e : Ext Y kk) => (loadF_at (n := some 16) (o := 0) (e.some m1)).trans ld16
  refine Rs (A3 @t1 @t2 @l1) ?_
  obtain ⟨b5, hb5⟩ : ∃ b5, b5 = Y.length := ⟨_, rfl⟩
  obtain ⟨H1, hH1⟩ : ∃ H1, H1 = Y ++ [ABlk.cells [AV.int .i64 0, AV.int .i64 0, AV.int .i64 0, AV.int .i64 0, AV.int .i64 0, AV.int .i64 0, AV.int .i64 0, AV.int .i64 0, AV.int .i64 0, AV.int .i64 0, AV.int .i64 0, AV.int .i64 0, AV.int .i64 0, AV.int .i64 0, AV.int .i64 0, AV.int .i64 0, AV.int .i64 0, AV.int .i64 0, AV.int .i64 0, AV.int .i64 0, AV.int .i64 0, AV.int .i64 0, AV.int .i64 0, AV.int .i64 0, AV.int .i64 0, AV.int .i64 0, AV.int .i64 0, AV.int .i64 0, AV.int .i64 0, AV.int .i64 0, AV.int .i64 0, AV.int .i64 0] true false] := ⟨_, rfl⟩
  have e1 : Ext Y H1 := by rw [hH1]; exact Xx
  have m5 : H1[b5]? = some (.cells (grC (outP Z 0 0 (0, 0))) true false) := by rw [hH1, hb5, outP_zero]; exact at_new
  have n5 : b2 < b5 := by rw [hb5]; exact (List.getElem?_eq_some_iff.1 m2).1
  have m2 := e1.some m2
  have eh := e0.trans e1
  rw [← hb5, ← hH1]
  refine WL.inv T.mix (fun n ts K => ∃ k : Nat, k ≤ 4 ∧ n = 4 - k ∧ Ext h K ∧ K[b5]? = some (.cells (grC (outP Z k 0 (0, 0))) true false) ∧ K[b2]? = some (.cells (flC fun _ _ => 0) true false) ∧ ts.length = 87 ∧ slot ts 2 = .ptr b2 0 ∧ slot ts 5 = .ptr b5 0 ∧ slot ts 25 = .agg (pnC Z) ∧ slot ts 26 = .int .i64 k) 4
    ⟨0, by omega, rfl, eh, m5, m2, Sn, (Sq @t2), Sw, Sw, Swr⟩ ?_
  clear hlen t1 t2 m2 m5 eh l1
  rintro _ ts K ⟨k, hk, rfl, eK, m5, m2, hlen, t2, t5, t25, t26⟩
  by_cases hk4 : k < 4
  case neg =>
    have e3 := lt4F hk4
    rw [show k = 4 by omega, outP_all, hZe] at m5
    refine Rs (A5 @t2 @t5 @t25 @t26 @e3) ?_
    exact ub_B T pw (l := l) (b2 := b2) (b5 := b5) hl Sn (Sq @t2) (Sq @t5) eK n2 m2 m5
  have e3 := lt4T hk4
  have e5 := wrapN (n := k) (by omega)
  have xi := @ix_44 Z k hk4
  refine Rs (A8 @t2 @t5 @t25 @t26 @e3 @xi @b4 @st4) ?_
  obtain ⟨K1, hK1⟩ : ∃ K1, K1 = K ++ [ABlk.cells (pnR (Z k)) true false] := ⟨_, rfl⟩
  have eK1 : Ext K K1 := by rw [hK1]; exact Xx
  have m7 : K1[K.length]? = some (.cells (pnR (Z k)) true false) := by rw [hK1]; exact at_new
  have l7 := @ldx _ _ _ m7
  rw [← hK1]
  have m5 := eK1.some m5
  have m2 := eK1.some m2
  have eK := eK.trans eK1
  refine Rs (A6 @t2 @t5 @t25 @t26 @l7 @ld4) ?_
  refine WL.inv T.mix (fun n ts K => ∃ m : Nat, m ≤ 4 ∧ n = 4 - m ∧ Ext h K ∧ K[b5]? = some (.cells (grC (outP Z k m (0, 0))) true false) ∧ K[b2]? = some (.cells (flC fun _ _ => 0) true false) ∧ ts.length = 87 ∧ slot ts 2 = .ptr b2 0 ∧ slot ts 5 = .ptr b5 0 ∧ slot ts 6 = .int .i64 k ∧ slot ts 25 = .agg (pnC Z) ∧ slot ts 26 = .int .i64 k ∧ slot ts 30 = .agg (pnR (Z k)) ∧ slot ts 31 = .int .i64 m) 4
    ⟨0, by omega, rfl, eK, m5, m2, Sn, (Sq @t2), (Sq @t5), Sw, (Sq @t25), (Sq @t26), Sw, Swr⟩ ?_
  clear hlen t2 t5 t25 t26 m5 m2 eK l7
  rintro _ ts K ⟨m, hm, rfl, eK, m5, m2, hlen, t2, t5, t6, t25, t26, t30, t31⟩
  by_cases hm4 : m < 4
  case neg =>
    have e4 := lt4F hm4
    rw [show m = 4 by omega, outP_row] at m5
    refine Rs (A9 @t2 @t5 @t6 @t25 @t26 @t30 @t31 @e4 @e5) ?_
    exact ⟨4 - (k + 1), by omega, k + 1, by omega, rfl, eK, m5, m2, rfl⟩
  have e4 := lt4T hm4
  have e6 := wrapN (n := m) (by omega)
  have xj := @ix_41 (Z k) m hm4
  have ia := @ia_48 b5 k hk4
  have ib := @ia_42 b5 (k * 8) m hm4
  obtain ⟨⟨z1, z2⟩, z3, z4⟩ := hZ k m hk4 hm4
  have cr := fun {G : Nat → Option ABlk} {N : Nat} => @cx_re (Z k m) G N
  have ci := fun {G : Nat → Option ABlk} {N : Nat} => @cx_im (Z k m) G N
  have co := @cx_one (Z k m)
  refine Rs (A12 @t2 @t5 @t6 @t25 @t26 @t30 @t31 @e4 @xj @co @cr @ci) ?_
  refine WF.ce T.c108 (b108 T z1 z2) fun g1 => ?_
  refine Rs (A10 @t2 @t5 @t6 @t25 @t26 @t30 @t31 @co @cr @ci) ?_
  refine WF.ce T.c108 (b108 T z3 z4) fun g2 => ?_
  have eG : Ext K (K ++ g1 ++ g2) := Xx
  obtain ⟨K3, hK3⟩ : ∃ K3, K3 = K ++ g1 ++ g2 := ⟨_, rfl⟩
  rw [← hK3] at eG ⊢
  have m5' := eG.some m5
  have s5 := gr_st m5' hk4 hm4 (Z k m)
  rw [outP_upd, outP_next] at s5
  have s5 : storeF 2 (.ptr b5 (k * 8 + m * 2)) (.agg [.int .i64 (Z k m).1, .int .i64 (Z k m).2]) (fun q => K3[q]?) = some (undefA, .set b5 (.cells (grC (outP Z k (m + 1) (0, 0))) true false)) := s5
  refine Rs (A11 @t2 @t5 @t6 @t25 @t26 @t30 @t31 @ia @ib @s5 @e6) ?_
  exact ⟨4 - (m + 1), by omega, m + 1, by omega, rfl, ext_setG (eK.trans eG) (by omega), set_eq' m5', set_ne' (by omega) (eG.some m2), rfl⟩
end
end Go.Abs
namespace Go.Abs
open Ieee

theorem nsq_0 {x : Int} (h : nsq (x, 0) ≤ 0) : x = 0 := by
  unfold nsq at h
  simp only [Int.mul_zero, Int.add_zero] at h
  by_cases hx : x = 0
  · exact hx
  · exfalso
    rcases Int.lt_or_gt_of_ne hx with q | q
    · have := Int.mul_pos_of_neg_of_neg q q; omega
    · have := Int.mul_pos q q; omega
theorem nsq_nn (z : Int × Int) : 0 ≤ nsq z := by
  unfold nsq
  have a : 0 ≤ z.1 * z.1 := by
    rcases Int.le_total 0 z.1 with q | q
    · exact Int.mul_nonneg q q
    · exact Int.mul_nonneg_of_nonpos_of_nonpos q q
  have b : 0 ≤ z.2 * z.2 := by
    rcases Int.le_total 0 z.2 with q | q
    · exact Int.mul_nonneg q q
    · exact Int.mul_nonneg_of_nonpos_of_nonpos q q
  omega
/-- A panel of zeros is of traces of zeros. -/
theorem pan_zero {l : Nat → Nat → Nat} (h : ∀ a b, a < 4 → b < 4 → trG (trcG l) 3 a b = (0, 0)) {t n : Nat} (ht : t < 4) (hn : n < 4) : gridN (l t n) = 0 := by
  have e := tr_energy (trcG l)
  have z0 : nsq (0, 0) = 0 := rfl
  simp only [sumF4, h 0 0 (by omega) (by omega), h 0 1 (by omega) (by omega), h 0 2 (by omega) (by omega), h 0 3 (by omega) (by omega), h 1 0 (by omega) (by omega), h 1 1 (by omega) (by omega), h 1 2 (by omega) (by omega), h 1 3 (by omega) (by omega), h 2 0 (by omega) (by omega), h 2 1 (by omega) (by omega), h 2 2 (by omega) (by omega), h 2 3 (by omega) (by omega), h 3 0 (by omega) (by omega), h 3 1 (by omega) (by omega), h 3 2 (by omega) (by omega), h 3 3 (by omega) (by omega), z0] at e
  have p := fun i j => nsq_nn (trcG l i j)
  have q : nsq (trcG l n t) ≤ 0 := by
    have p00 := p 0 0; have p01 := p 0 1; have p02 := p 0 2; have p03 := p 0 3
    have p10 := p 1 0; have p11 := p 1 1; have p12 := p 1 2; have p13 := p 1 3
    have p20 := p 2 0; have p21 := p 2 1; have p22 := p 2 2; have p23 := p 2 3
    have p30 := p 3 0; have p31 := p 3 1; have p32 := p 3 2; have p33 := p 3 3
    rcases four hn with rfl | rfl | rfl | rfl <;> rcases four ht with rfl | rfl | rfl | rfl <;> omega
  exact nsq_0 q
attribute [local irreducible] cxA
set_option maxRecDepth 10000
attribute [local irreducible] WP WC WE WB WR WF WL WG WRg WQ
section
variable {P : Program} (T : Tbl P) {h : AHeap}
include T
set_option maxHeartbeats 8000000 in
theorem r61 (X : Xfl P) (pw : Pwr h) {l : Nat → Nat → Nat} (hl : trcOk l) : RCall P 61 [.agg (pnC (trG (trcG l) 3))] h (fun v _ => ∃ o : Nat → Nat → Nat, v = .tup [.agg (flC o), .int .i64 0] ∧ ∀ t n, t < 4 → n < 4 → gridE (o t n) = 0 ∧ gridN (o t n) = gridN (l t n)) := by
  obtain ⟨Z, hZe⟩ : ∃ Z, Z = trG (trcG l) 3 := ⟨_, rfl⟩
  have hZ : pnB Z := by rw [hZe]; exact pan_bd hl
  rw [← hZe]
  refine .st1 87 T.mix T.c61 ?_;intro ts hlen t0;unfold fn61
  show WC P inFn (.seq _ (.seq _ (.seq _ ubA))) _ _ _ _
  have bp : ∀ {N : Nat}, boxF (.agg (pnC Z)) N = some (.ptr N 0, .push (.cells (pnC Z) true false)) := fun {N} => pn_box
  have bz : ∀ {N : Nat}, boxF (.agg [.flt .f32 0, .flt .f32 0, .flt .f32 0, .flt .f32 0, .flt .f32 0, .flt .f32 0, .flt .f32 0, .flt .f32 0, .flt .f32 0, .flt .f32 0, .flt .f32 0, .flt .f32 0, .flt .f32 0, .flt .f32 0, .flt .f32 0, .flt .f32 0]) N = some (.ptr N 0, .push (.cells (flC fun _ _ => 0) true false)) := fun {N} => rfl
  have ld16 : ldB (some 16) 0 (.cells (pnC Z) true false) = some (.agg (pnC Z), .keep) := rfl
  have bd1 : buildF (fillA [.cplx .f32 0 0, .cplx .f32 0 0, .cplx .f32 0 0, .cplx .f32 0 0, .cplx .f32 0 0, .cplx .f32 0 0, .cplx .f32 0 0, .cplx .f32 0 0, .cplx .f32 0 0, .cplx .f32 0 0, .cplx .f32 0 0, .cplx .f32 0 0, .cplx .f32 0 0, .cplx .f32 0 0, .cplx .f32 0 0, .cplx .f32 0 0] []) = some (.agg [.cplx .f32 0 0, .cplx .f32 0 0, .cplx .f32 0 0, .cplx .f32 0 0, .cplx .f32 0 0, .cplx .f32 0 0, .cplx .f32 0 0, .cplx .f32 0 0, .cplx .f32 0 0, .cplx .f32 0 0, .cplx .f32 0 0, .cplx .f32 0 0, .cplx .f32 0 0, .cplx .f32 0 0, .cplx .f32 0 0, .cplx .f32 0 0]) := rfl
  have bd2 : buildF (fillA [.flt .f32 0, .flt .f32 0, .flt .f32 0, .flt .f32 0, .flt .f32 0, .flt .f32 0, .flt .f32 0, .flt .f32 0, .flt .f32 0, .flt .f32 0, .flt .f32 0, .flt .f32 0, .flt .f32 0, .flt .f32 0, .flt .f32 0, .flt .f32 0] []) = some (.agg (flC fun _ _ => 0)) := rfl
  have d0 : decide ((0 : Int) ≠ 0) = false := rfl
  refine Rs (A3 @t0 @bp @bz) ?_
  obtain ⟨H0, hH0⟩ : ∃ H0, H0 = h ++ [ABlk.cells (pnC Z) true false] ++ [ABlk.cells (flC fun _ _ => 0) true false] := ⟨_, rfl⟩
  have e0 : Ext h H0 := by rw [hH0]; exact Xx
  have m1 : H0[h.length]? = some (.cells (pnC Z) true false) := by rw [hH0]; exact at_1
  have m2 : H0[(h ++ [ABlk.cells (pnC Z) true false]).length]? = some (.cells (flC fun _ _ => 0) true false) := by rw [hH0]; exact at_new
  obtain ⟨b1, hb1⟩ : ∃ b1, b1 = h.length := ⟨_, rfl⟩
  obtain ⟨b2, hb2⟩ : ∃ b2, b2 = (h ++ [ABlk.cells (pnC Z) true false]).length := ⟨_, rfl⟩
  have n2 : h.length ≤ b2 := by rw [hb2]; simp
  rw [← hb1] at m1 ⊢
  rw [← hb2] at m2 ⊢
  rw [← hH0]
  have l1 := @ldx _ _ _ m1
  refine Rs (A3 @t0 @l1 @ld16) ?_
  refine WF.ce T.c145 (r145 T X hZ) fun g1 => ?_
  obtain ⟨H1, hH1⟩ : ∃ H1, H1 = H0 ++ g1 := ⟨_, rfl⟩
  have e1 : Ext H0 H1 := by rw [hH1]; exact Xx
  have m1 := e1.some m1
  have m2 := e1.some m2
  have eh := e0.trans e1
  rw [← hH1]
  have l1 := @ldx _ _ _ m1
  have eq : eqvF false (eqvK (.agg [.c, .c, .c, .c, .c, .c, .c, .c, .c, .c, .c, .c, .c, .c, .c, .c]) (.agg (pnC Z)) (.agg [.cplx .f32 0 0, .cplx .f32 0 0, .cplx .f32 0 0, .cplx .f32 0 0, .cplx .f32 0 0, .cplx .f32 0 0, .cplx .f32 0 0, .cplx .f32 0 0, .cplx .f32 0 0, .cplx .f32 0 0, .cplx .f32 0 0, .cplx .f32 0 0, .cplx .f32 0 0, .cplx .f32 0 0, .cplx .f32 0 0, .cplx .f32 0 0])) = some (.bool (pnQ Z fun _ _ => (0, 0))) := by
    rw [show ([.cplx .f32 0 0, .cplx .f32 0 0, .cplx .f32 0 0, .cplx .f32 0 0, .cplx .f32 0 0, .cplx .f32 0 0, .cplx .f32 0 0, .cplx .f32 0 0, .cplx .f32 0 0, .cplx .f32 0 0, .cplx .f32 0 0, .cplx .f32 0 0, .cplx .f32 0 0, .cplx .f32 0 0, .cplx .f32 0 0, .cplx .f32 0 0] : List AV) = pnC fun _ _ => (0, 0) from z_pn, pn_eqC hZ z_bd, eqvF_f]
  cases hc : pnQ Z (fun _ _ => (0, 0)) with
  | true =>
    rw [hc] at eq
    have s2 : storeF 16 (.ptr b2 0) (.agg [.flt .f32 0, .flt .f32 0, .flt .f32 0, .flt .f32 0, .flt .f32 0, .flt .f32 0, .flt .f32 0, .flt .f32 0, .flt .f32 0, .flt .f32 0, .flt .f32 0, .flt .f32 0, .flt .f32 0, .flt .f32 0, .flt .f32 0, .flt .f32 0]) (fun z => H1[z]?) = some (undefA, .set b2 (.cells (flC fun _ _ => 0) true false)) := stN (n := 16) (L := flC fun _ _ => 0) m2 rfl rfl (flC_one _)
    have l2 := ldNs (n := 16) (L := flC fun _ _ => 0) m2 rfl
    refine Rs (A8 @t0 @d0 @l1 @ld16 @bd1 @eq @s2 @l2) ?_
    refine ⟨ext_setG eh n2, fun _ _ => 0, rfl, fun t n ht hn => ⟨grid_0.1, ?_⟩⟩
    rw [grid_0.2]
    exact (pan_zero (l := l) (fun a b ha hb => by rw [← hZe]; exact pnQ_t hc ha hb) ht hn).symm
  | false =>
    rw [hc] at eq
    refine Rs (A6 @t0 @d0 @l1 @ld16 @bd1 @eq) ?_
    rw [hZe] at m1
    exact (ub_A T pw (l := l) (b1 := b1) (b2 := b2) hl Sn Sw Sw eh n2 m1 m2)
end
end Go.Abs
namespace Go.Abs
open Ieee

theorem flC_sl {K : AHeap} {b t : Nat} {l : Nat → Nat → Nat} (m : K[b]? = some (.cells (flC l) true false)) (ht : t < 4) : IsSl K (.slice b (t * 4) 4 1) 1 ([l t 0, l t 1, l t 2, l t 3].map fltR) := IsSl.mk (cs := [l t 0, l t 1, l t 2, l t 3].map fltR) m (by rcases four ht with rfl | rfl | rfl | rfl <;> rfl) (by show t * 4 + 4 * 1 ≤ 16; omega) (fun x hx => by obtain ⟨y, _, rfl⟩ := List.mem_map.1 hx; rfl)
theorem four_in {l : Nat → Nat → Nat} {t : Nat} (h : firstS ([l t 0, l t 1, l t 2, l t 3].map gridE) = 0) {n : Nat} (hn : n < 4) : gridE (l t n) = 0 := by
  have q := firstS_z h
  simp only [List.map_cons, List.map_nil, List.mem_cons, List.not_mem_nil, or_false, forall_eq_or_imp, forall_eq] at q
  rcases four hn with rfl | rfl | rfl | rfl <;> simp only [q]
set_option maxRecDepth 10000
attribute [local irreducible] WP WC WE WB WR WF WL WG WRg WQ
section
variable {P : Program} (T : Tbl P) {h : AHeap}
include T
set_option maxHeartbeats 4000000 in
theorem r59 (X : Xfl P) (l : Nat → Nat → Nat) : RCall P 59 [.agg (flC l)] h (fun v _ => ∃ e : Int, v = .int .i64 e ∧ (e = 0 → trcOk l)) := by
  refine .st1 16 T.mix T.c59 ?_;intro ts hlen t0;unfold fn59
  have bl : ∀ {N : Nat}, boxF (.agg (flC l)) N = some (.ptr N 0, .push (.cells (flC l) true false)) := fun {N} => fl_box
  refine Rs (A2 @t0 @bl) ?_
  obtain ⟨H0, hH0⟩ : ∃ H0, H0 = h ++ [ABlk.cells (flC l) true false] := ⟨_, rfl⟩
  have e0 : Ext h H0 := by rw [hH0]; exact ⟨_, rfl⟩
  have m1 : H0[h.length]? = some (.cells (flC l) true false) := by rw [hH0]; exact at_new
  obtain ⟨b1, hb1⟩ : ∃ b1, b1 = h.length := ⟨_, rfl⟩
  rw [← hb1] at m1 ⊢
  rw [← hH0]
  refine WL.inv T.mix (fun n ts K => ∃ k : Nat, k ≤ 4 ∧ n = 4 - k ∧ Ext H0 K ∧ (∀ t, t < k → firstS ([l t 0, l t 1, l t 2, l t 3].map gridE) = 0) ∧ ts.length = 16 ∧ slot ts 1 = .ptr b1 0 ∧ slot ts 3 = .int .i64 k) 4
    ⟨0, by omega, rfl, .refl _, fun t ht => by omega, Sn, Sw, Swr⟩ ?_
  clear hlen t0
  rintro _ ts K ⟨k, hk, rfl, eK, hrow, hlen, t1, t3⟩
  by_cases hk4 : k < 4
  case neg =>
    have e3 := lt4F hk4
    refine Rs (A3 @t1 @t3 @e3) ?_
    exact ⟨e0.trans eK, 0, rfl, fun _ t n ht hn => four_in (hrow t (by omega)) hn⟩
  have e3 := lt4T hk4
  have e5 := wrapN (n := k) (by omega)
  have ia := @ia_44 b1 k hk4
  have m1K := eK.some m1
  refine Rs (A4 @t1 @t3 @e3 @ia) ?_
  rw [WP_sla (b := b1) (o := k * 4) (c := flC l) (mu := true) (tl := false) Sw m1K (by show k * 4 + 4 * 1 ≤ 16; omega)]
  refine Rs (A2 @t1 @t3) ?_
  refine WF.ce T.c75 (r75 T X (flC_sl m1K hk4) (by simp)) fun g1 => ?_
  obtain ⟨E, hE⟩ : ∃ E, E = firstS ([l k 0, l k 1, l k 2, l k 3].map gridE) := ⟨_, rfl⟩
  rw [← hE]
  by_cases hz : E = 0
  case neg =>
    have d1 : decide (E ≠ 0) = true := decide_eq_true hz
    refine Rs (A3 @t1 @t3 @d1) ?_
    exact ⟨(e0.trans eK).trans ⟨g1, rfl⟩, E, rfl, fun z => absurd z hz⟩
  have d1 : decide (E ≠ 0) = false := decide_eq_false fun z => z hz
  refine Rs (A4 @t1 @t3 @d1 @e5) ?_
  exact ⟨4 - (k + 1), by omega, k + 1, by omega, rfl, eK.trans ⟨g1, rfl⟩, fun t ht => by
    by_cases q : t = k
    · subst q; rw [← hE]; exact hz
    · exact hrow t (by omega), rfl⟩
end
end Go.Abs
namespace Go.Abs
open Ieee

/-- A sum of numbers of sixteenths up to 2 ^ 18. -/
theorem num_addb {a b : Nat} {u v N M : Int} (ha : Num .f32 a u) (hb : Num .f32 b v) (hu : 16 * u = N * UU) (hv : 16 * v = M * UU) (hK : -262144 ≤ N + M ∧ N + M ≤ 262144) : ∃ q, FloatKind.f32.format.add a b = some q ∧ Num .f32 q (u + v) := by
  obtain ⟨s, m, i, h1, h2, rfl⟩ := ha
  obtain ⟨s', n, j, h3, h4, rfl⟩ := hb
  have l1 := (read_fin h1).2
  have l2 := (read_fin h3).2
  have hlp : FloatKind.f32.format.leastPlace = -149 := by decide
  have hfb : FloatKind.f32.format.fractionBits = 23 := rfl
  have heb : (2 ^ FloatKind.f32.format.exponentBits : Nat) = 256 := by decide
  rw [hlp] at l1 l2
  obtain ⟨B, hB⟩ : ∃ B, B = min i j := ⟨_, rfl⟩
  have hBl : -149 ≤ B := by omega
  have hsum := add_vl (s := s) (u := s') (m := m) (n := n) h2 h4
  obtain ⟨W, hW⟩ : ∃ W, W = signed s m (i - min i j).toNat + signed s' n (j - min i j).toNat := ⟨_, rfl⟩
  rw [← hW] at hsum
  obtain ⟨z, hz⟩ : ∃ z : Bool, z = (if W = 0 then s && s' else decide (W < 0)) := ⟨_, rfl⟩
  have p1 : FloatKind.f32.format.add a b = some (FloatKind.f32.format.write (.number z W.natAbs B)) := by
    unfold Format.add
    rw [h1, h3]
    subst hz hW hB
    rfl
  have hvl : vl (.number z W.natAbs B) = vl (.number s m i) + vl (.number s' n j) := by
    rw [hsum, ← hB]
    show sgN z W.natAbs * _ = _
    congr 1
    by_cases h0 : W = 0
    · rw [h0]; cases z <;> rfl
    · rw [hz, if_neg h0]; exact sgN_int W
  refine ⟨_, p1, ?_⟩
  rw [← hvl]
  refine num_write (by omega) ?_
  by_cases h0 : W.natAbs = 0
  · exact .inl h0
  refine .inr ?_
  rw [hlp, hfb, heb]
  obtain ⟨c, hc⟩ : ∃ c, bU = c + 4 := ⟨1196, rfl⟩
  have hbu := bU_eq
  have key : W.natAbs * 2 ^ (B + 1200).toNat = (N + M).natAbs * 2 ^ c := by
    have e1 : (N + M) * UU = 16 * vl (.number z W.natAbs B) := by rw [hvl, Int.add_mul, ← hu, ← hv, Int.mul_add]
    have e2 := congrArg Int.natAbs e1
    rw [Int.natAbs_mul, UU_abs, Int.natAbs_mul, vl_abs, hc, Nat.pow_add] at e2
    have e3 : (2 : Nat) ^ 4 = 16 := rfl
    rw [e3, ← Nat.mul_assoc, Nat.mul_comm] at e2
    exact (Nat.eq_of_mul_eq_mul_left (by decide : 0 < 16) e2).symm
  have hKn : (N + M).natAbs ≤ 2 ^ 18 := by have : (2 : Nat) ^ 18 = 262144 := rfl; omega
  obtain ⟨p, hp⟩ : ∃ p, p = (B + 1200).toNat := ⟨_, rfl⟩
  rw [← hp] at key
  rcases Nat.le_total c p with h | h
  · obtain ⟨d, rfl⟩ := Nat.exists_eq_add_of_le h
    rw [Nat.pow_add, Nat.mul_comm (2 ^ c), ← Nat.mul_assoc] at key
    have k2 := Nat.eq_of_mul_eq_mul_right (Nat.two_pow_pos c) key
    have k3 : 2 ^ (W.natAbs.log2 + d) ≤ 2 ^ 18 := by
      rw [Nat.pow_add]
      refine Nat.le_trans (Nat.mul_le_mul_right _ (Nat.log2_self_le h0)) ?_
      rw [k2]; exact hKn
    have k4 := pow_le' k3
    exact ⟨W.natAbs, 0, by simp, h0, by omega, by omega, by omega⟩
  · obtain ⟨d, hd⟩ := Nat.exists_eq_add_of_le h
    rw [hd, Nat.pow_add, Nat.mul_comm (2 ^ p), ← Nat.mul_assoc] at key
    have k2 := Nat.eq_of_mul_eq_mul_right (Nat.two_pow_pos p) key
    have hK0 : (N + M).natAbs ≠ 0 := fun q => by rw [q, Nat.zero_mul] at k2; exact h0 k2
    have k4 := pow_le' (Nat.le_trans (Nat.log2_self_le hK0) hKn)
    exact ⟨(N + M).natAbs, d, k2, hK0, by omega, by omega, by omega⟩
/-- A cell that is a complex number of these numbers of sixteenths. -/
def CxV (a b : Nat) (z : Int × Int) : Prop := (∃ u, Num .f32 a u ∧ 16 * u = z.1 * UU) ∧ ∃ v, Num .f32 b v ∧ 16 * v = z.2 * UU
theorem cxv_mk {z : Int × Int} (hz : bdI 262144 z) : CxV (smpl z.1) (smpl z.2) z := by
  obtain ⟨⟨a1, a2⟩, a3, a4⟩ := hz
  exact ⟨(smpl_big a1 a2).2, (smpl_big a3 a4).2⟩
theorem cxv_eq {a b a' b' : Nat} {z w : Int × Int} (h1 : CxV a b z) (h2 : CxV a' b' w) : eqQ .c (.cplx .f32 a b) (.cplx .f32 a' b') = some (decide (z = w)) := by
  obtain ⟨⟨u1, n1, e1⟩, u2, n2, e2⟩ := h1
  obtain ⟨⟨v1, n3, e3⟩, v2, n4, e4⟩ := h2
  simp only [eqQ, if_true, num_ord n1 n3, num_ord n2 n4, cmp_eq]
  rw [decide_eq_decide.2 (uu_inj e1 e3), decide_eq_decide.2 (uu_inj e2 e4)]
  congr 1
  by_cases q1 : z.1 = w.1
  · by_cases q2 : z.2 = w.2
    · rw [decide_eq_true q1, decide_eq_true q2, decide_eq_true (Prod.ext q1 q2)]; rfl
    · rw [decide_eq_false q2, decide_eq_false (p := z = w) (fun q => q2 (by rw [q])), Bool.and_false]
  · rw [decide_eq_false q1, decide_eq_false (p := z = w) (fun q => q1 (by rw [q])), Bool.false_and]
/-- Complex numbers added. -/
theorem cxv_add {a b a' b' : Nat} {z w : Int × Int} (h1 : CxV a b z) (h2 : CxV a' b' w) (hb : bdI 262144 (plI z w)) : ∃ r s, binK .add (.cplx .f32 a b) (.cplx .f32 a' b') = some (.cplx .f32 r s) ∧ CxV r s (plI z w) := by
  obtain ⟨⟨u1, n1, e1⟩, u2, n2, e2⟩ := h1
  obtain ⟨⟨v1, n3, e3⟩, v2, n4, e4⟩ := h2
  obtain ⟨⟨b1, b2⟩, b3, b4⟩ := hb
  obtain ⟨r, p1, q1⟩ := num_addb n1 n3 e1 e3 ⟨b1, b2⟩
  obtain ⟨s, p2, q2⟩ := num_addb n2 n4 e2 e4 ⟨b3, b4⟩
  refine ⟨r, s, ?_, ⟨_, q1, ?_⟩, _, q2, ?_⟩
  · show (if FloatKind.f32 = FloatKind.f32 then cxBin .add .f32 a b a' b' else none) = _
    rw [if_pos rfl]
    unfold cxBin
    rw [p1, p2]
  · show 16 * (u1 + v1) = (z.1 + w.1) * UU
    rw [Int.mul_add, Int.add_mul, e1, e3]
  · show 16 * (u2 + v2) = (z.2 + w.2) * UU
    rw [Int.mul_add, Int.add_mul, e2, e4]
end Go.Abs
namespace Go.Abs
open Ieee

theorem keep_keep (x : Nat) (Z : Nat → Nat → Int × Int) : keepG x (keepG x Z) = keepG x Z := by
  funext a b
  unfold keepG
  by_cases h : x / 2 ^ (4 * a + b) % 2 = 0
  · rw [if_pos h, if_pos h]
  · rw [if_neg h, if_neg h]
theorem keep_sum {x : Nat} (hx : x < 65536) (Z : Nat → Nat → Int × Int) {a b : Nat} (ha : a < 4) (hb : b < 4) : plI (keepG x Z a b) (keepG (65535 - x) Z a b) = Z a b ∧ (keepG x Z a b = (0, 0) ∨ keepG (65535 - x) Z a b = (0, 0)) ∧ nsq (keepG x Z a b) + nsq (keepG (65535 - x) Z a b) = nsq (Z a b) := by
  have q := bit_flip hx (i := 4 * a + b) (by omega)
  have e0 : nsq (0, 0) = 0 := rfl
  unfold keepG
  rw [q]
  rcases Nat.mod_two_eq_zero_or_one (x / 2 ^ (4 * a + b)) with h | h
  · rw [h, if_pos rfl, if_neg (by omega)]
    exact ⟨by refine pw_ext ?_ ?_ <;> simp [plI], .inl rfl, by rw [e0, Int.zero_add]⟩
  · rw [h, if_neg (by omega), if_pos rfl]
    exact ⟨by refine pw_ext ?_ ?_ <;> simp [plI], .inr rfl, by rw [e0, Int.add_zero]⟩
/-- Sums of four, and of four times four, cell by cell. -/
def s4r (f : Nat → Int) : Nat → Int
  | 0 => 0
  | m + 1 => s4r f m + f m
def s4g (F : Nat → Nat → Int) : Nat → Int
  | 0 => 0
  | i + 1 => s4g F i + s4r (F i) 4
theorem s4r_bd {f : Nat → Int} {B : Int} (h : ∀ j, j < 4 → 0 ≤ f j ∧ f j ≤ B) : ∀ m : Nat, m ≤ 4 → 0 ≤ s4r f m ∧ s4r f m ≤ m * B
  | 0, _ => by simp [s4r]
  | m + 1, hm => by
    have ih := s4r_bd h m (by omega)
    have q := h m (by omega)
    have e : ((m + 1 : Nat) : Int) * B = m * B + B := by rw [Int.natCast_succ, Int.add_mul, Int.one_mul]
    rw [s4r, e]
    omega
theorem s4g_bd {F : Nat → Nat → Int} {B : Int} (h : ∀ i j, i < 4 → j < 4 → 0 ≤ F i j ∧ F i j ≤ B) : ∀ i : Nat, i ≤ 4 → 0 ≤ s4g F i ∧ s4g F i ≤ i * (4 * B)
  | 0, _ => by simp [s4g]
  | i + 1, hi => by
    have ih := s4g_bd h i (by omega)
    have q := s4r_bd (f := F i) (fun j hj => h i j (by omega) hj) 4 (by omega)
    have e : ((i + 1 : Nat) : Int) * (4 * B) = i * (4 * B) + 4 * B := by rw [Int.natCast_succ, Int.add_mul, Int.one_mul]
    have e4 : ((4 : Nat) : Int) * B = 4 * B := rfl
    rw [e4] at q
    rw [s4g, e]
    omega
theorem s4g_eq (F : Nat → Nat → Int) : s4g F 4 = sumF4 fun i => sumF4 (F i) := by
  simp only [s4g, s4r, sumF4]
  omega
theorem s4g_add {F G H : Nat → Nat → Int} (h : ∀ i j, i < 4 → j < 4 → F i j + G i j = H i j) : s4g F 4 + s4g G 4 = s4g H 4 := by
  rw [s4g_eq, s4g_eq, s4g_eq]
  simp only [sumF4, ← h 0 0 (by omega) (by omega), ← h 0 1 (by omega) (by omega), ← h 0 2 (by omega) (by omega), ← h 0 3 (by omega) (by omega), ← h 1 0 (by omega) (by omega), ← h 1 1 (by omega) (by omega), ← h 1 2 (by omega) (by omega), ← h 1 3 (by omega) (by omega), ← h 2 0 (by omega) (by omega), ← h 2 1 (by omega) (by omega), ← h 2 2 (by omega) (by omega), ← h 2 3 (by omega) (by omega), ← h 3 0 (by omega) (by omega), ← h 3 1 (by omega) (by omega), ← h 3 2 (by omega) (by omega), ← h 3 3 (by omega) (by omega)]
  omega
/-- The energy of four traces, and of their panel. -/
noncomputable def sqG (l : Nat → Nat → Nat) : Nat → Nat → Int := fun i m => gridN (l i m) * gridN (l i m)
theorem pan_energy (l : Nat → Nat → Nat) : s4g (fun i m => nsq (trG (trcG l) 3 i m)) 4 = 16 * s4g (sqG l) 4 := by
  rw [s4g_eq, s4g_eq, tr_energy, s4_swap]
  have e : (fun j => sumF4 fun i => nsq (trcG l i j)) = fun i => sumF4 (sqG l i) := by
    funext j
    simp only [sumF4, sqG, trcG, nsq]
    omega
  rw [e]
theorem sqB_bd {n : Int} {B : Nat} (h1 : -(B : Int) ≤ n) (h2 : n ≤ (B : Int)) : 0 ≤ n * n ∧ n * n ≤ ((B * B : Nat) : Int) := by
  have e := Int.natAbs_mul_self (a := n)
  have q : n.natAbs * n.natAbs ≤ B * B := Nat.mul_le_mul (by omega) (by omega)
  rw [← e]
  exact ⟨Int.natCast_nonneg _, Int.ofNat_le.2 q⟩
theorem nsq_bd {z : Int × Int} (h : bdI 262144 z) : 0 ≤ nsq z ∧ nsq z ≤ 137438953472 := by
  obtain ⟨⟨a1, a2⟩, a3, a4⟩ := h
  refine ⟨nsq_nn z, ?_⟩
  have h1 := (sqB_bd (B := 262144) a1 a2).2
  have h2 := (sqB_bd (B := 262144) a3 a4).2
  unfold nsq
  omega
/-- A trace that comes one place later. -/
def latL (l : Nat → Nat → Nat) : Nat → Nat → Nat := fun t n => l t ((n + 3) % 4)
theorem lat_ok {l : Nat → Nat → Nat} (h : trcOk l) : trcOk (latL l) := fun t n ht _ => h t _ ht (Nat.mod_lt _ (by decide))
theorem lat_pan (l : Nat → Nat → Nat) {k m : Nat} (hk : k < 4) : trG (trcG (latL l)) 3 k m = turn3 (trG (trcG l) 3 k m) k := by
  have e : trcG (latL l) = fun i j => trcG l ((i + 3) % 4) j := rfl
  rw [e]
  exact tr_rot (trcG l) hk
/-- The opposite number. -/
theorem neg_bit (b i : Nat) : ((b ^^^ 2 ^ i) / 2 ^ i % 2 == 1) = !(b / 2 ^ i % 2 == 1) := by
  have q := Nat.testBit_xor b (2 ^ i) i
  rw [Nat.testBit_two_pow_self, Nat.testBit_eq_decide_div_mod_eq, Nat.testBit_eq_decide_div_mod_eq, Bool.xor_true] at q
  by_cases h1 : (b ^^^ 2 ^ i) / 2 ^ i % 2 = 1 <;> by_cases h2 : b / 2 ^ i % 2 = 1 <;> simp [h1, h2] at q ⊢
theorem neg_read (b : Nat) : FloatKind.f32.format.read (Op.negFloat .f32 b) = match FloatKind.f32.format.read b with
    | .number s m e => .number (!s) m e
    | .infinity s => .infinity (!s)
    | .nan s t => .nan (!s) t := by
  have hw : FloatKind.f32.format.signWeight = 2 ^ 31 := by decide
  have hx : Op.negFloat .f32 b = b ^^^ 2 ^ 31 := rfl
  have hm : (b ^^^ 2 ^ 31) % 2 ^ 31 = b % 2 ^ 31 := by rw [Nat.xor_mod_two_pow, Nat.mod_self, Nat.xor_zero]
  rw [hx]
  unfold Format.read
  dsimp only
  rw [hw, neg_bit, hm]
  split
  · rfl
  · split
    · rfl
    · split <;> rfl
theorem num_neg {b : Nat} {v : Int} (h : Num .f32 b v) : Num .f32 (Op.negFloat .f32 b) (-v) := by
  obtain ⟨s, m, e, h1, h2, rfl⟩ := h
  refine ⟨!s, m, e, by rw [neg_read, h1], h2, ?_⟩
  show -(sgN s m * _) = sgN (!s) m * _
  cases s <;> simp [sgN, Int.neg_mul]
theorem cxv_turn {a b : Nat} {z : Int × Int} (h : CxV a b z) : CxV b (Op.negFloat .f32 a) (z.2, -z.1) := by
  obtain ⟨⟨u, h1, e1⟩, h2⟩ := h
  exact ⟨h2, -u, num_neg h1, by show 16 * -u = -z.1 * UU; rw [Int.mul_neg, e1, Int.neg_mul]⟩
end Go.Abs
