/- Calls by their contracts in the interpreter: strings.Join, strconv.Itoa, math.Floor. No condition. · The greater format; numbers that are none; made whole downwards; without the sign. No condition. · Contracts: samples checked, as numbers, out of numbers. No condition. · Contracts: samples checked by the program and by the reference; samples as numbers, and back. No condition. · Contracts: names. No condition. · Contracts: maps over lists. No condition. · Contracts: lists of samples checked, copied, as numbers, and back. No condition. · Traces and shots, and their errors: plain. No condition. · An argument that is a shot. No condition. · A fixed example, run by the interpreter, in the kernel. No condition. · A row whose last package-level variable is not laid: the world's form tells that it is there. No condition. · Closed facts on the seat's program, one declaration each. No condition. · Contracts: lists of numbers made samples by the program and by the reference; samples and numbers compared. No condition. · Contracts: lists of numbers, of samples compared; what is heard. No condition. · Contracts: ghosts: the program's and the reference's. No condition. · Contracts: a ghost by the program; notches. No condition. · Contracts: a ghost taken off, by the program and by the reference. No condition. · Contracts: quotients to the nearest; multiples by the program and by the reference. No condition. · Contracts: multiples by the program and by the reference. No condition. · Contracts: taps checked by the program and by the reference. No condition. · Contracts: taps applied by the program and by the reference. No condition. · Sums over the places of lists; taps applied, and their adjoint: plain. No condition. · The prediction with the least error: plain. No condition. · A list less a multiple; quotients compared: plain. No condition. · Contracts: taps applied by the program. No condition. · Contracts: taps applied, with their checks. No condition. · Contracts: taps undone by the reference. No condition. · Contracts: taps undone by the program. No condition. · Contracts: taps undone by the program, with the checks. No condition. · Contracts: pairs of integers as complex numbers. No condition. · Contracts: the powers of the imaginary unit, by the program and by the reference. No condition. · Contracts: a pair turned by the program's table of powers. No condition. · Contracts: a response at one frequency, by the reference. No condition. · Contracts: inner products by the program and by the reference. No condition. · Taps undone, and applied again; ghosts taken off, and put on again: plain. No condition. · Contracts: quiet lists, a number in a list; what is heard when all fits. No condition. · Contracts: the responses by the program. No condition. · Contracts: lists visited, gathered and sorted. No condition. · Contracts: pairs of two lists, visited and gathered, and mapped. No condition. · Contracts: a list less a multiple, and the share removed, by the program. No condition. · Contracts: a list less a multiple, and the share removed, by the reference; the law's small functions. No condition. · Contracts: a trace checked. No condition. · Contracts: traces that are no holes, the width, a shot checked: the program. No condition. · Contracts: the width of a shot, a shot checked: the program. No condition. -/
import Derived.Laws.Externs
import Derived.Test.YtfcfelnabfaelaaGreatDoorKg5
import Derived.Test.YtfcfelnabfaelaaGreatDoorKg6
import Derived.Test.YtfcfelnabfaelaaGreatDoorRows
import Derived.Test.YtfcfelnabfaelaaGreatDoorTie
import Derived.Test.YtfcfelnabfaelaaGreatDoorCards
set_option linter.all false
namespace Go.Abs

theorem clos_int (k : IntKind) (n : Int) : clos 0 (.int k n) := ⟨fun _ => none, .int k n, by simp, by rw [VR]⟩
theorem clos_bool (b : Bool) : clos 0 (.bool b) := ⟨fun _ => none, .bool b, by simp, by rw [VR]⟩
open Go.RowKit in
open Go.RowKit in
/-- A number made whole, downwards. -/
def floorV (b : Nat) : Nat := FloatKind.f64.encode ((FloatKind.f64.decode b).integral .down)
structure Xfl (P : Program) : Prop where
  fl : ∀ (args : Array Value) (w : World), (callFunc 111 args).run P w = ((Extern.MathFloor.toIntegral "math.archFloor" .down args).run P w).andThen fun v w' => .ok (.value v) w'
  bt : ∀ (args : Array Value) (w : World), (callFunc 114 args).run P w = ((Extern.MathFloatBits.float64bits args).run P w).andThen fun v w' => .ok (.value v) w'
  fb : ∀ (args : Array Value) (w : World), (callFunc 113 args).run P w = ((Extern.MathFloatBits.float64frombits args).run P w).andThen fun v w' => .ok (.value v) w'
/-- A function that the model gives by itself, of one value that is what it is in each world. -/
theorem v_extn {P : Program} {f : FuncId} {g : Array Value → Sem Value} (hf0 : ∀ (args : Array Value) (w : World), (callFunc f args).run P w = ((g args).run P w).andThen fun v w' => .ok (.value v) w') {h : AHeap} {x v : AV} {cx cv : Value} (hx : ∀ m y, VR m x y → y = cx)
    (hg : ∀ w : World, (g #[cx]).run P w = .ok cv w) (hv : ∀ m, VR m v cv) : VCall P (.func (.func f) [] []) [x] h (fun v' h' => v' = v ∧ h' = h) := by
  refine ⟨_, [], ?_, rfl, by simp⟩
  rw [List.append_nil]
  intro m w cf vs hr hf hargs
  rw [VR] at hf
  obtain ⟨f', a', c', rfl, hfn, ha, hc⟩ := hf
  simp only [FnR] at hfn
  subst hfn
  rw [VRs_nil] at ha hc
  subst ha; subst hc
  obtain ⟨v1, vs1, rfl, h1, hargs⟩ := VRs_cons.1 hargs
  rw [VRs_nil] at hargs
  subst hargs
  have h1 := hx m v1 h1
  subst h1
  refine ⟨_, fun w => rfl, ?_⟩
  simp only [invoke]
  rw [hf0]
  have e2 : (#[] ++ (⟨[v1]⟩ : Array Value) ++ #[]) = #[v1] := rfl
  simp only [e2, hg, Result.andThen]
  exact ⟨_, m, rfl, hv m, hr, Grow.refl m h w hr.dom⟩
theorem flt_exact {k : FloatKind} {b : Nat} (hb : nanB k b = false) (m : Emb) (y : Value) (h : VR m (.flt k b) y) : y = .float k b := by
  obtain ⟨b', rfl, hfr⟩ := h
  rcases hfr with h1 | ⟨h1, _⟩
  · rw [h1]
  · rw [hb] at h1; cases h1
theorem flr_eq {x : Nat} (h : ∀ s t, FloatKind.f64.decode x ≠ .nan s t) : Extern.MathFloor.toIntegral "math.archFloor" .down #[.float .f64 x] = pure (.float .f64 (FloatKind.f64.encode ((FloatKind.f64.decode x).integral .down))) := by
  show (match FloatKind.f64.decode x with
    | .nan s t =>
      if FloatKind.f64.format.quiet t = t then pure (.float .f64 x) else do
      let kept ← choose (.extern "math.Floor,Ceil,Trunc,RoundToEven.signallingNaN kept" 2)
      pure (.float .f64 (if kept == 1 then x else FloatKind.f64.encode (.nan s (FloatKind.f64.format.quiet t))))
    | d => pure (.float .f64 (FloatKind.f64.encode (d.integral .down))) : Sem Value) = _
  cases hd : FloatKind.f64.decode x with
  | nan s t => exact absurd hd (h s t)
  | number s m e => rfl
  | infinity s => rfl
theorem v_fl {P : Program} (X : Xfl P) {h : AHeap} {b : Nat} (hb : nanB .f64 b = false) : VCall P (.func (.func 111) [] []) [.flt .f64 b] h (fun v h' => v = .flt .f64 (floorV b) ∧ h' = h) :=
  v_extn X.fl (flt_exact hb) (fun w => by
    rw [nanB_isNaN] at hb
    have hb : (FloatKind.f64.decode b).isNaN = false := hb
    rw [flr_eq fun s t h => by rw [h] at hb; cases hb]; rfl) (fun m => ⟨_, rfl, .inl rfl⟩)
theorem v_bt {P : Program} (X : Xfl P) {h : AHeap} {b : Nat} (hb : nanB .f64 b = false) : VCall P (.func (.func 114) [] []) [.flt .f64 b] h (fun v h' => v = .int .u64 b ∧ h' = h) :=
  v_extn X.bt (flt_exact hb) (fun w => rfl) (fun m => rfl)
theorem v_fb {P : Program} (X : Xfl P) {h : AHeap} {n : Int} : VCall P (.func (.func 113) [] []) [.int .u64 n] h (fun v h' => v = .flt .f64 n.toNat ∧ h' = h) :=
  v_extn X.fb (fun m y h => h) (fun w => rfl) (fun m => ⟨_, rfl, .inl rfl⟩)
theorem xfl : Xfl Go.Proofs.Tryz.prog := ⟨run_callFunc_extern Go.Proofs.Tryz.func111 (by kernel_rfl) (by kernel_rfl) (by kernel_rfl) (by kernel_rfl), run_callFunc_extern Go.Proofs.Tryz.func114 (by kernel_rfl) (by kernel_rfl) (by kernel_rfl) (by kernel_rfl), run_callFunc_extern Go.Proofs.Tryz.func113 (by kernel_rfl) (by kernel_rfl) (by kernel_rfl) (by kernel_rfl)⟩
set_option maxRecDepth 10000 in
theorem r109 {P : Program} (T : Tbl P) (X : Xfl P) {h : AHeap} {b : Nat} (hb : nanB .f64 b = false) : RCall P 109 [.flt .f64 b] h (fun v _ => v = .flt .f64 (floorV b)) := by
  refine .of T.mix T.c109 ?_
  unfold fn109
  refine Wn ?_
  refine WF.val (v_fl X hb) ?_
  rintro v g ⟨rfl, hg⟩
  exact Wn trivial
/-- The absolute value's bits. -/
def absB (b : Nat) : Nat := (IntKind.u64.wrap (BitVec.ofInt 64 (b : Int) &&& ~~~ BitVec.ofInt 64 9223372036854775808).toNat).toNat
set_option maxRecDepth 10000 in
theorem r110 {P : Program} (T : Tbl P) (X : Xfl P) {h : AHeap} {b : Nat} (hb : nanB .f64 b = false) : RCall P 110 [.flt .f64 b] h (fun v _ => v = .flt .f64 (absB b)) := by
  refine .of T.mix T.c110 ?_
  unfold fn110
  have an : binK .andNot (.int .u64 (b : Int)) (.int .u64 9223372036854775808) = some (.int .u64 (IntKind.u64.wrap (BitVec.ofInt 64 (b : Int) &&& ~~~ BitVec.ofInt 64 9223372036854775808).toNat)) := rfl
  refine Wn ?_
  refine WF.val (v_bt X hb) ?_
  rintro v g ⟨rfl, hg⟩
  refine Ws @an ?_
  refine WF.val (v_fb X) ?_
  rintro v g ⟨rfl, hg⟩
  refine Wn ?_
  rfl
section
variable {P : Program}
end
end Go.Abs
namespace Go.Abs
open Ieee

/-- What a float is. -/
theorem flt_cases (k : FloatKind) (b : Nat) : (∃ v, Num k b v) ∨ (∃ t, k.format.read b = .infinity t) ∨ ∃ s t, k.format.read b = .nan s t := by
  cases h : k.format.read b with
  | number s m e => exact .inl ⟨_, s, m, e, h, by have := (read_fin h).2; have := least_ge k; omega, rfl⟩
  | infinity t => exact .inr (.inl ⟨t, rfl⟩)
  | nan s t => exact .inr (.inr ⟨s, t, rfl⟩)
/-- The greatest a number of the lesser format is. -/
theorem num32_bd {b v} (h : Num .f32 b v) : v.natAbs ≤ 2 ^ 128 * UU.natAbs := by
  obtain ⟨s, m, e, h1, h2, rfl⟩ := h
  have hu := read_fin2 h1 (exp_ge .f32)
  have hm := (read_fin h1).1
  rw [vl_abs, UU_abs, ← Nat.pow_add]
  rcases fmt_facts .f32 with ⟨f1, f2, f3⟩ | ⟨f1, _, _⟩
  · have e1 : 2 * FloatKind.f32.format.binade = 2 ^ 24 := by decide
    rw [e1] at hm
    have h3 : m * 2 ^ (e + 1200).toNat ≤ 2 ^ 24 * 2 ^ (e + 1200).toNat := Nat.mul_le_mul_right _ (by omega)
    rw [← Nat.pow_add] at h3
    refine Nat.le_trans h3 (Nat.pow_le_pow_right (by decide) ?_)
    have h1 := bU_eq
    omega
  · cases f1
/-- The lesser format's number in the greater one. -/
theorem num_f2f {b v} (h : Num .f32 b v) : ∃ q, (∀ {G : Nat → Option ABlk} {N : Nat}, convT (.f2f .f64) (.flt .f32 b) G N = some (.flt .f64 q, .keep)) ∧ Num .f64 q v := by
  obtain ⟨s, m, e, h1, h2, rfl⟩ := h
  have hu := read_fin2 h1 (exp_ge .f32)
  have hl := (read_fin h1).2
  have hx : ExF FloatKind.f64.format m e := by
    by_cases hm : m = 0
    · exact .inl hm
    · have hlm := log_fin h1 hm
      rcases fmt_facts .f32 with ⟨f1, f2, f3⟩ | ⟨f1, _, _⟩
      · rcases fmt_facts .f64 with ⟨g1, _, _⟩ | ⟨g1, g2, g3⟩
        · cases g1
        · exact .inr ⟨m, 0, by simp, hm, by omega, by omega, by omega⟩
      · cases f1
  have hn := num_write (k := .f64) (s := s) h2 hx
  refine ⟨FloatKind.f64.encode (.number s m e), fun {G N} => ?_, hn⟩
  have hd : FloatKind.f32.decode b = .number s m e := h1
  obtain ⟨s', m', e', h3, _, _⟩ := hn
  have h3 : FloatKind.f64.decode (FloatKind.f64.encode (.number s m e)) = .number s' m' e' := h3
  unfold convT
  simp only [hd]
  rw [if_neg (by decide), h3]
  rfl
theorem inf_f2f {b t} (h : FloatKind.f32.format.read b = .infinity t) : ∃ q, (∀ {G : Nat → Option ABlk} {N : Nat}, convT (.f2f .f64) (.flt .f32 b) G N = some (.flt .f64 q, .keep)) ∧ FloatKind.f64.format.read q = .infinity t := by
  have hd : FloatKind.f32.decode b = .infinity t := h
  refine ⟨FloatKind.f64.encode (.infinity t), fun {G N} => ?_, by cases t <;> decide⟩
  unfold convT
  simp only [hd]
  rw [if_neg (by decide)]
theorem nan_f2f {b s t} (h : FloatKind.f32.format.read b = .nan s t) {G : Nat → Option ABlk} {N : Nat} : convT (.f2f .f64) (.flt .f32 b) G N = some (.flt .f64 (qnan .f64), .keep) := by
  have hd : FloatKind.f32.decode b = .nan s t := h
  unfold convT
  simp only [hd]
  rw [if_neg (by decide)]
/-- Without its sign. -/
theorem absB_eq (b : Nat) : absB b = b % 2 ^ 63 := by
  have h1 : (BitVec.ofInt 64 (b : Int) &&& ~~~ BitVec.ofInt 64 9223372036854775808).toNat = b % 2 ^ 63 := by
    have h2 : (~~~ BitVec.ofInt 64 9223372036854775808) = BitVec.ofNat 64 (2 ^ 63 - 1) := by decide
    rw [h2, BitVec.toNat_and, BitVec.toNat_ofNat, Nat.mod_eq_of_lt (show 2 ^ 63 - 1 < 2 ^ 64 by decide), Nat.and_two_pow_sub_one_eq_mod]
    rw [show (BitVec.ofInt 64 (b : Int)).toNat = b % 2 ^ 64 by simp]
    exact Nat.mod_mod_of_dvd b ⟨2, by decide⟩
  unfold absB
  rw [h1]
  have := Nat.mod_lt b (show 0 < 2 ^ 63 by decide)
  have hw : IntKind.u64.wrap ((b % 2 ^ 63 : Nat) : Int) = ((b % 2 ^ 63 : Nat) : Int) := by
    unfold IntKind.wrap
    simp only [IntKind.signed, IntKind.bits, Bool.false_and, Bool.false_eq_true, if_false]
    exact Int.emod_eq_of_lt (by omega) (by omega)
  rw [hw]; omega
theorem absB_read (b : Nat) : FloatKind.f64.format.read (absB b) = match FloatKind.f64.format.read b with
    | .number _ m e => .number false m e
    | .infinity _ => .infinity false
    | .nan _ t => .nan false t := by
  have hw : FloatKind.f64.format.signWeight = 2 ^ 63 := by decide
  have hn : (b % 2 ^ 63) / 2 ^ 63 % 2 = 0 := by rw [Nat.div_eq_of_lt (Nat.mod_lt b (by decide))]
  have hm : (b % 2 ^ 63) % 2 ^ 63 = b % 2 ^ 63 := Nat.mod_mod _ _
  rw [absB_eq]
  unfold Format.read
  dsimp only
  rw [hw, hn, hm]
  split
  · rfl
  · split
    · rfl
    · split <;> rfl
theorem num_abs {b v} (h : Num .f64 b v) : Num .f64 (absB b) v.natAbs := by
  obtain ⟨s, m, e, h1, h2, rfl⟩ := h
  refine ⟨false, m, e, by rw [absB_read, h1], h2, ?_⟩
  rw [vl_abs]
  show ((m * 2 ^ (e + 1200).toNat : Nat) : Int) = (m : Int) * 2 ^ (e + 1200).toNat
  rw [Int.natCast_mul, Int.natCast_pow]; rfl
/-- The greatest number of the greater format. -/
theorem max64 : ∃ w : Int, Num .f64 9218868437227405311 w ∧ ∀ v : Int, v.natAbs ≤ 2 ^ 128 * UU.natAbs → ¬ w < v.natAbs := by
  refine ⟨_, ⟨false, 9007199254740991, 971, by decide, by decide, rfl⟩, fun v hv => ?_⟩
  obtain ⟨E, hE⟩ : ∃ E : Nat, E = (971 + 1200 : Int).toNat := ⟨_, rfl⟩
  have h1 : vl (.number false 9007199254740991 971) = ((9007199254740991 * 2 ^ E : Nat) : Int) := by
    have := vl_abs false 9007199254740991 971
    rw [← hE] at this
    rw [← this]
    show vl _ = _
    have h3 : 0 ≤ vl (.number false 9007199254740991 971) := by
      show 0 ≤ ((9007199254740991 : Nat) : Int) * 2 ^ (971 + 1200 : Int).toNat
      exact Int.mul_nonneg (by omega) (Int.le_of_lt (two_pos _))
    omega
  rw [h1]
  rw [UU_abs, ← Nat.pow_add] at hv
  have hle : 128 + bU ≤ E := by rw [hE]; decide
  have h4 : (2 : Nat) ^ (128 + bU) ≤ 2 ^ E := Nat.pow_le_pow_right (by decide) hle
  have h5 : 2 ^ E ≤ 9007199254740991 * 2 ^ E := Nat.le_mul_of_pos_left _ (by decide)
  generalize (9007199254740991 * 2 ^ E : Nat) = A at h5
  generalize (2 : Nat) ^ E = B at h4 h5
  generalize (2 : Nat) ^ (128 + bU) = C at hv h4
  omega
/-- A sum's parts downwards. -/
theorem down_cut (s : Bool) (n d : Nat) : sgN s (Toward.down.cut s n d) = sgN s n / ((2 ^ d : Nat) : Int) := by
  have hp : 0 < 2 ^ d := Nat.two_pow_pos _
  have key : ∀ g : Nat, 0 < g → sgN s (n / g + (s && n % g != 0).toNat) = sgN s n / (g : Int) := fun g hg => by
    cases s
    · simp [sgN]
    · by_cases hr : n % g = 0
      · rw [hr]
        have e : n = g * (n / g) := by have := Nat.div_add_mod n g; omega
        show -((n / g + 0 : Nat) : Int) = -(n : Int) / g
        rw [Nat.add_zero]
        obtain ⟨q, hq⟩ : ∃ q, q = n / g := ⟨_, rfl⟩
        rw [← hq] at e ⊢
        rw [e, Int.natCast_mul, Int.mul_comm, ← Int.neg_mul, Int.mul_ediv_cancel _ (by omega)]
      · have hb : (n % g != 0) = true := by simp [hr]
        rw [hb]
        show -((n / g + 1 : Nat) : Int) = -(n : Int) / g
        have e := Nat.div_add_mod n g
        have hl := Nat.mod_lt n hg
        obtain ⟨q, hq⟩ : ∃ q, q = n / g := ⟨_, rfl⟩
        obtain ⟨r, hr2⟩ : ∃ r, r = n % g := ⟨_, rfl⟩
        rw [← hq, ← hr2] at e
        rw [← hr2] at hr hl
        rw [← hq]
        have e2 : -(n : Int) = (g - r : Nat) + (-((q + 1 : Nat) : Int)) * g := by
          have : (n : Int) = g * q + r := by rw [← e]; simp
          have h3 : ((g - r : Nat) : Int) = g - r := by omega
          rw [this, h3, Int.natCast_add, Int.neg_mul, Int.add_mul]
          rw [Int.mul_comm (g : Int) q]
          simp
          omega
        rw [e2, Int.add_mul_ediv_right _ _ (by omega), Int.ediv_eq_zero_of_lt (by omega) (by omega)]
        omega
  unfold Toward.cut
  dsimp only
  rw [Nat.shiftLeft_eq, Nat.one_mul]
  by_cases hd : d ≤ n.log2 + 2
  · rw [Nat.min_eq_left hd]; exact key _ hp
  · rw [Nat.min_eq_right (by omega), key _ (Nat.two_pow_pos _)]
    have a1 : n < 2 ^ (n.log2 + 2) := Nat.lt_of_lt_of_le Nat.lt_log2_self (Nat.pow_le_pow_right (by decide) (by omega))
    have a2 : n < 2 ^ d := Nat.lt_of_lt_of_le a1 (Nat.pow_le_pow_right (by decide) (by omega))
    generalize 2 ^ (n.log2 + 2) = A at a1
    generalize 2 ^ d = B at a2
    cases s
    · show (n : Int) / A = (n : Int) / B
      rw [Int.ediv_eq_zero_of_lt (by omega) (by omega), Int.ediv_eq_zero_of_lt (by omega) (by omega)]
    · show -(n : Int) / A = -(n : Int) / B
      by_cases hn : n = 0
      · rw [hn]; simp
      · have f : ∀ C : Nat, n < C → -(n : Int) / C = -1 := fun C hC => by
          have e : -(n : Int) = (C - n : Nat) + (-1) * C := by omega
          rw [e, Int.add_mul_ediv_right _ _ (by omega), Int.ediv_eq_zero_of_lt (by omega) (by omega)]; rfl
        rw [f _ a1, f _ a2]
theorem exf_int {k : FloatKind} {n : Nat} (h : n < 2 ^ (k.format.fractionBits + 1)) : ExF k.format n 0 := by
  by_cases hz : n = 0
  · exact .inl hz
  · have h2 := Nat.log2_self_le hz
    have := pow_lt' (Nat.lt_of_le_of_lt h2 h)
    have hf := fmt_facts k
    exact .inr ⟨n, 0, by simp, hz, by omega, by omega, by omega⟩
/-- A number made whole downwards. -/
theorem num_floor {b v} (h : Num .f64 b v) (hv : v.natAbs ≤ 2 ^ 20 * UU.natAbs) : Num .f64 (floorV b) (v / UU * UU) := by
  obtain ⟨s, m, e, h1, h2, rfl⟩ := h
  have hd : FloatKind.f64.decode b = .number s m e := h1
  obtain ⟨N, hN⟩ : ∃ N, N = Toward.down.cut s (m <<< e.toNat) (-e).toNat := ⟨_, rfl⟩
  have e1 : floorV b = FloatKind.f64.format.write (.number s N 0) := by
    unfold floorV
    rw [hd, hN]; rfl
  have hU := UU_pos
  have e2 : sgN s N = vl (.number s m e) / UU := by
    rw [hN, down_cut, Nat.shiftLeft_eq]
    by_cases he : 0 ≤ e
    · rw [vl_at he, Int.mul_ediv_cancel _ (by omega), show (-e).toNat = 0 by omega, Nat.pow_zero, sgN_mul, Int.natCast_pow]
      show _ / (1 : Int) = _
      rw [Int.ediv_one]; rfl
    · have e3 : UU = 2 ^ (e + 1200).toNat * 2 ^ (-e).toNat := by
        have h1 := bU_eq
        have h2 : (e + 1200).toNat + (-e).toNat = bU := by omega
        rw [UU, ← Int.pow_add, h2]
      have e4 : vl (.number s m e) = 2 ^ (e + 1200).toNat * sgN s m := by rw [Int.mul_comm]; rfl
      rw [e4, e3, Int.mul_ediv_mul_of_pos _ _ (two_pos _), show e.toNat = 0 by omega, Nat.pow_zero, Nat.mul_one, Int.natCast_pow]; rfl
  have e5 : N = (vl (.number s m e) / UU).natAbs := by rw [← e2, sgN_abs]
  have hb : N < 2 ^ 53 := by
    rw [e5]
    obtain ⟨v, hv'⟩ : ∃ v, v = vl (.number s m e) := ⟨_, rfl⟩
    rw [← hv'] at hv ⊢
    have hA : (UU.natAbs : Int) = UU := by omega
    have h3 : v ≤ 2 ^ 20 * UU := by
      have : ((2 ^ 20 * UU.natAbs : Nat) : Int) = 2 ^ 20 * UU := by rw [Int.natCast_mul, hA]; rfl
      omega
    have h4 : -(2 ^ 20) * UU ≤ v := by
      have : ((2 ^ 20 * UU.natAbs : Nat) : Int) = 2 ^ 20 * UU := by rw [Int.natCast_mul, hA]; rfl
      rw [Int.neg_mul]
      omega
    have h5 := Int.ediv_le_ediv hU h3
    have h6 := Int.ediv_le_ediv hU h4
    rw [Int.mul_ediv_cancel _ (by omega)] at h5 h6
    omega
  rw [e1, ← e2]
  have := num_write (k := .f64) (s := s) (m := N) (i := 0) (by omega) (exf_int hb)
  rw [vl_at (Int.le_refl 0)] at this
  simp only [Int.toNat_zero, Int.pow_zero, Int.mul_one] at this
  exact this
end Go.Abs
namespace Go.Abs
open Ieee

theorem num_f2i {k b v} (h : Num k b v) (h1 : -2 ^ 63 ≤ v.tdiv UU) (h2 : v.tdiv UU < 2 ^ 63) {G : Nat → Option ABlk} {N : Nat} : convT (.f2i .i64) (.flt k b) G N = some (.int .i64 (v.tdiv UU), .keep) := by
  unfold convT
  simp only [num_toInt h]
  rw [if_pos ⟨num_nan h, by show (-2 ^ 63 : Int) ≤ _; omega, by show _ ≤ (2 ^ 63 - 1 : Int); omega⟩]
/-- What a sample's check says. -/
noncomputable def fval (b : Nat) : Int := vl (FloatKind.f32.format.read b)
noncomputable def gridN (b : Nat) : Int := 16 * fval b / UU
noncomputable def finB (b : Nat) : Bool := @decide (∃ v, Num .f32 b v) (Classical.propDecidable _)
theorem finB_t {b v} (h : Num .f32 b v) : finB b = true := @decide_eq_true _ (Classical.propDecidable _) ⟨v, h⟩
theorem finB_i {b t} (h : FloatKind.f32.format.read b = .infinity t) : finB b = false := @decide_eq_false _ (Classical.propDecidable _) fun ⟨v, s, m, e, h1, _⟩ => by rw [h] at h1; cases h1
theorem finB_n {b s t} (h : FloatKind.f32.format.read b = .nan s t) : finB b = false := @decide_eq_false _ (Classical.propDecidable _) fun ⟨v, s, m, e, h1, _⟩ => by rw [h] at h1; cases h1
theorem finB_x {b} (h : finB b = true) : ∃ v, Num .f32 b v := @of_decide_eq_true _ (Classical.propDecidable _) h
noncomputable def gOkB (b : Nat) : Bool := finB b && (decide (-1024 * UU ≤ fval b) && (decide (fval b ≤ 1024 * UU) && decide (gridN b * UU = 16 * fval b)))
noncomputable def gridE (b : Nat) : Int := firstS [whenS (!finB b) 1, whenS (!gOkB b) 3]
theorem num_fval {b v} (h : Num .f32 b v) : v = fval b := by
  obtain ⟨s, m, e, h1, _, rfl⟩ := h
  unfold fval; rw [h1]
theorem grid_num {b} (h : gridE b = 0) : Num .f32 b (fval b) ∧ gridN b * UU = 16 * fval b ∧ -16384 ≤ gridN b ∧ gridN b ≤ 16384 := by
  obtain ⟨_, h⟩ := first2 h
  have h : gOkB b = true := by
    cases hb : gOkB b with
    | true => rfl
    | false => rw [hb] at h; cases h
  unfold gOkB at h
  simp only [Bool.and_eq_true, decide_eq_true_eq] at h
  obtain ⟨hn, g1, g2, g3⟩ := h
  obtain ⟨v, hv⟩ := finB_x hn
  have e := num_fval hv
  subst e
  have hU := UU_pos
  refine ⟨hv, g3, ?_, ?_⟩
  · have : -16384 * UU ≤ gridN b * UU := by rw [g3]; omega
    exact Int.le_of_mul_le_mul_right this hU
  · have : gridN b * UU ≤ 16384 * UU := by rw [g3]; omega
    exact Int.le_of_mul_le_mul_right this hU
theorem grid_z {b} (h1 : finB b = true) (h2 : gOkB b = true) : gridE b = 0 := by rw [gridE, h1, h2]; rfl
theorem bd_abs {v : Int} (h1 : -1024 * UU ≤ v) (h2 : v ≤ 1024 * UU) : v.natAbs ≤ 2 ^ 10 * UU.natAbs := by
  have hU := UU_pos
  omega
theorem neg1024 : unK .neg (.flt .f32 (FloatKind.f32.nearest 1024)) = some (.flt .f32 (FloatKind.f32.nearest (-1024))) := by
  show some (AV.flt .f32 (Op.negFloat .f32 (FloatKind.f32.nearest 1024))) = _
  rw [show Op.negFloat .f32 (FloatKind.f32.nearest 1024) = FloatKind.f32.nearest (-1024) by decide]
theorem ord_bin {op : BinOp} {k : FloatKind} {a b : Nat} {c : Bool} (h : fltBin op k a b = some (.bool c)) : binK op (.flt k a) (.flt k b) = some (.bool c) := by simp only [binK, if_true, h]
theorem eql_00 : binK .eql (.flt .f32 0) (.flt .f32 0) = some (.bool true) := ord_bin (by
  show some (AV.bool (FloatKind.f32.format.order 0 0 == some .eq)) = _
  rw [show FloatKind.f32.format.order 0 0 = some .eq by decide]; rfl)
theorem eql_n0 : binK .eql (.flt .f32 (qnan .f32)) (.flt .f32 0) = some (.bool false) := ord_bin (by
  show some (AV.bool (FloatKind.f32.format.order (qnan .f32) 0 == some .eq)) = _
  rw [show FloatKind.f32.format.order (qnan .f32) 0 = none by decide]; rfl)
theorem num_n1024 {k : FloatKind} : Num k (k.nearest (-1024)) (-1024 * UU) := num_int (by cases k <;> decide)
theorem num_1024 {k : FloatKind} : Num k (k.nearest 1024) (1024 * UU) := num_int (by cases k <;> decide)
theorem tdiv_grid {v : Int} : decide (v.tdiv UU * UU = v) = decide (v / UU * UU = v) := by
  have hU := UU_pos
  refine decide_eq_decide.2 ⟨fun h => ?_, fun h => ?_⟩
  · rw [← h, Int.mul_ediv_cancel _ (by omega)]
  · rw [← h, Int.mul_tdiv_cancel _ (by omega)]
theorem nan_bin {k a b} (h : nanB k a = true ∨ nanB k b = true) : k.format.order a b = none := nan_ord (nan_or h)
theorem read_nan {k : FloatKind} {b : Nat} {s : Bool} {t : Nat} (h : k.format.read b = .nan s t) : nanB k b = true := by rw [nanB_isNaN, h]; rfl
set_option maxRecDepth 10000
attribute [local irreducible] WP WC WE WB WR WF WL WG WRg WQ
section
variable {P : Program} (T : Tbl P) {h : AHeap}
include T
set_option maxHeartbeats 1000000 in
theorem r71 (c : Bool) (e : Int) : RCall P 71 [.bool c, .int .i64 e] h (fun v _ => v = .int .i64 (whenS c e)) := by
  refine .of T.mix T.c71 ?_
  unfold fn71
  simp only [uset]
  cases c <;> simp only [wset] <;> rfl
set_option maxHeartbeats 1000000 in
theorem r99 (b : Nat) : RCall P 99 [.flt .f32 b] h (fun v _ => v = .bool (finB b)) := by
  refine .st1 7 T.mix T.c99 ?_;intro ts hlen t0;unfold fn99
  rcases flt_cases .f32 b with ⟨v, hv⟩ | ⟨t, ht⟩ | ⟨s, t, ht⟩
  · have f1 := sub_self hv
    have f2 := eql_00
    refine Rs (A3 @t0 @f1 @f2) ?_
    rw [finB_t hv]
  · have f1 : binK .sub (.flt .f32 b) (.flt .f32 b) = some (.flt .f32 (qnan .f32)) := by
      have : FloatKind.f32.format.sub b b = none := by
        unfold Format.sub; rw [ht]; cases t <;> rfl
      simp only [binK, if_true, fltBin, this, fltRes]
    have f2 := eql_n0
    refine Rs (A3 @t0 @f1 @f2) ?_
    rw [finB_i ht]
  · have f1 : binK .sub (.flt .f32 b) (.flt .f32 b) = some (.flt .f32 (qnan .f32)) := by
      have : FloatKind.f32.format.sub b b = none := by
        unfold Format.sub; rw [ht]; rfl
      simp only [binK, if_true, fltBin, this, fltRes]
    have f2 := eql_n0
    refine Rs (A3 @t0 @f1 @f2) ?_
    rw [finB_n ht]
set_option maxHeartbeats 2000000 in
theorem r100 (b : Nat) : RCall P 100 [.flt .f32 b, .int .i64 1024] h (fun v _ => v = .bool (gOkB b)) := by
  refine .st2 25 T.mix T.c100 ?_;intro ts hlen t0 t1;unfold fn100
  have c1 : ∀ {n : Int} {G : Nat → Option ABlk} {N : Nat}, convT (.i2f .f32) (.int .i64 n) G N = some (.flt .f32 (FloatKind.f32.nearest n), .keep) := fun {_ _ _} => rfl
  have c2 := neg1024
  rcases flt_cases .f32 b with ⟨v, hv⟩ | ⟨t, ht⟩ | ⟨s, t, ht⟩
  · have hfv := num_fval hv
    have hf := finB_t hv
    have l1 := num_leq num_n1024 hv
    have l2 := num_leq hv num_1024
    by_cases q1 : -1024 * UU ≤ v
    case neg =>
      have d1 : decide (-1024 * UU ≤ v) = false := decide_eq_false q1
      have e : gOkB b = false := by rw [gOkB, ← hfv, d1]; simp
      refine Rs (A6 @t0 @t1 @c1 @c2 @l1 @d1) ?_
      rw [e]
    have d1 : decide (-1024 * UU ≤ v) = true := decide_eq_true q1
    by_cases q2 : v ≤ 1024 * UU
    case neg =>
      have d2 : decide (v ≤ 1024 * UU) = false := decide_eq_false q2
      have e : gOkB b = false := by rw [gOkB, ← hfv, d2]; simp
      refine Rs (A8 @t0 @t1 @c1 @c2 @l1 @d1 @l2 @d2) ?_
      rw [e]
    have d2 : decide (v ≤ 1024 * UU) = true := decide_eq_true q2
    obtain ⟨p, m1, m2, hp⟩ := mul16 hv (bd_abs q1 q2)
    have hU := UU_pos
    have b1 : (16 * v).tdiv UU ≤ 16384 := by
      have := Int.tdiv_le_tdiv hU (show 16 * v ≤ 16384 * UU by omega)
      rwa [Int.mul_tdiv_cancel _ (by omega)] at this
    have b2 : -16384 ≤ (16 * v).tdiv UU := by
      have := Int.tdiv_le_tdiv hU (show -16384 * UU ≤ 16 * v by omega)
      rwa [Int.mul_tdiv_cancel _ (by omega)] at this
    have c3 := @num_f2i _ _ _ hp (by omega) (by omega)
    have hi : Num .f32 (FloatKind.f32.nearest ((16 * v).tdiv UU)) ((16 * v).tdiv UU * UU) := num_int (by show _ < 2 ^ 24; omega)
    have l3 := num_eql hi hp
    have e : gOkB b = decide ((16 * v).tdiv UU * UU = 16 * v) := by
      rw [tdiv_grid, gOkB, gridN, ← hfv, hf, d1, d2]; simp
    have m1 : binK .mul (.flt .f32 b) (.flt .f32 1098907648) = some (.flt .f32 p) := m1
    refine Rs (A11 @t0 @t1 @c1 @c2 @l1 @d1 @l2 @d2 @m1 @c3 @l3) ?_
    rw [e]
  · have e : gOkB b = false := by rw [gOkB, finB_i ht]; rfl
    rw [e]
    cases t with
    | false =>
      have o1 : FloatKind.f32.format.order (FloatKind.f32.nearest (-1024)) b = some .lt := by
        unfold Format.order; rw [ht, show FloatKind.f32.format.read (FloatKind.f32.nearest (-1024)) = .number true 8388608 (-13) by decide]; rfl
      have o2 : FloatKind.f32.format.order b (FloatKind.f32.nearest 1024) = some .gt := by
        unfold Format.order; rw [ht, show FloatKind.f32.format.read (FloatKind.f32.nearest 1024) = .number false 8388608 (-13) by decide]; rfl
      have l1 : binK .leq (.flt .f32 (FloatKind.f32.nearest (-1024))) (.flt .f32 b) = some (.bool true) := ord_bin (by simp only [fltBin, o1]; rfl)
      have l2 : binK .leq (.flt .f32 b) (.flt .f32 (FloatKind.f32.nearest 1024)) = some (.bool false) := ord_bin (by simp only [fltBin, o2]; rfl)
      exact Rs (A6 @t0 @t1 @c1 @c2 @l1 @l2) trivial
    | true =>
      have o1 : FloatKind.f32.format.order (FloatKind.f32.nearest (-1024)) b = some .gt := by
        unfold Format.order; rw [ht, show FloatKind.f32.format.read (FloatKind.f32.nearest (-1024)) = .number true 8388608 (-13) by decide]; rfl
      have l1 : binK .leq (.flt .f32 (FloatKind.f32.nearest (-1024))) (.flt .f32 b) = some (.bool false) := ord_bin (by simp only [fltBin, o1]; rfl)
      exact Rs (A5 @t0 @t1 @c1 @c2 @l1) trivial
  · have e : gOkB b = false := by rw [gOkB, finB_n ht]; rfl
    rw [e]
    have o1 := nan_bin (k := .f32) (a := FloatKind.f32.nearest (-1024)) (.inr (read_nan ht))
    have l1 : binK .leq (.flt .f32 (FloatKind.f32.nearest (-1024))) (.flt .f32 b) = some (.bool false) := ord_bin (by simp only [fltBin, o1]; rfl)
    exact Rs (A5 @t0 @t1 @c1 @c2 @l1) trivial
end
end Go.Abs
namespace Go.Abs
open Ieee

theorem nan_neq {k b} (h : nanB k b = true) : binK .neq (.flt k b) (.flt k b) = some (.bool true) := ord_bin (by simp only [fltBin, nan_bin (.inl h)]; rfl)
theorem inf_neq {k b t} (h : k.format.read b = .infinity t) : binK .neq (.flt k b) (.flt k b) = some (.bool false) := ord_bin (by
  have : k.format.order b b = some .eq := by unfold Format.order; rw [h]; cases t <;> rfl
  simp only [fltBin, this]; rfl)
theorem inf_nan {k b t} (h : k.format.read b = .infinity t) : nanB k b = false := by rw [nanB_isNaN, h]; rfl
/-- Out of a number. -/
noncomputable def smpl (n : Int) : Nat := (FloatKind.f32.format.div (FloatKind.f32.nearest n) 1098907648).getD 0
theorem smpl_ok {n : Int} (h1 : -16384 ≤ n) (h2 : n ≤ 16384) : binK .quo (.flt .f32 (FloatKind.f32.nearest n)) (.flt .f32 1098907648) = some (.flt .f32 (smpl n)) ∧ gridE (smpl n) = 0 ∧ gridN (smpl n) = n := by
  have hi : Num .f32 (FloatKind.f32.nearest n) (n * UU) := num_int (by show _ < 2 ^ 24; omega)
  have hU := UU_pos
  obtain ⟨q, w, e1, e2, e3⟩ := quo16 hi (by
    by_cases hn : n = 0
    · exact .inl (by rw [hn, Int.zero_mul])
    · refine .inr ?_
      rw [Int.natAbs_mul]
      exact Nat.le_mul_of_pos_left _ (by omega))
  have e1 : binK .quo (.flt .f32 (FloatKind.f32.nearest n)) (.flt .f32 1098907648) = some (.flt .f32 q) := e1
  have e4 : binK .quo (.flt .f32 (FloatKind.f32.nearest n)) (.flt .f32 1098907648) = some (fltRes .f32 (FloatKind.f32.format.div (FloatKind.f32.nearest n) 1098907648)) := by simp only [binK, if_true, fltBin]
  have hq : smpl n = q := by
    unfold smpl
    rw [e4] at e1
    cases hd : FloatKind.f32.format.div (FloatKind.f32.nearest n) 1098907648 with
    | some r => rw [hd] at e1; cases e1; rfl
    | none =>
      rw [hd] at e1
      cases e1
      have := num_nan e2
      rw [qnan_nan] at this; cases this
  rw [hq]
  have hw := num_fval e2
  have hg : gridN q = n := by
    unfold gridN
    rw [← hw, e3, Int.mul_ediv_cancel _ (by omega)]
  have b1 : -16384 * UU ≤ n * UU := Int.mul_le_mul_of_nonneg_right h1 (by omega)
  have b2 : n * UU ≤ 16384 * UU := Int.mul_le_mul_of_nonneg_right h2 (by omega)
  refine ⟨e1, grid_z (finB_t e2) ?_, hg⟩
  unfold gOkB
  rw [hg, ← hw, e3, finB_t e2, decide_eq_true (show -1024 * UU ≤ w by omega), decide_eq_true (show w ≤ 1024 * UU by omega)]
  simp
theorem grid_bd {b} (h : gridE b = 0) : -1024 * UU ≤ fval b ∧ fval b ≤ 1024 * UU := by
  obtain ⟨_, h2, h3, h4⟩ := grid_num h
  have hU := UU_pos
  have b1 : -16384 * UU ≤ gridN b * UU := Int.mul_le_mul_of_nonneg_right h3 (by omega)
  have b2 : gridN b * UU ≤ 16384 * UU := Int.mul_le_mul_of_nonneg_right h4 (by omega)
  omega
/-- Two samples that are not alike. -/
theorem grid_neq {a b : Nat} (ha : gridE a = 0) (hb : gridE b = 0) : binK .neq (.flt .f32 a) (.flt .f32 b) = some (.bool (decide (gridN a ≠ gridN b))) := by
  obtain ⟨h1, h2, _⟩ := grid_num ha
  obtain ⟨h3, h4, _⟩ := grid_num hb
  rw [num_neq h1 h3]
  congr 2
  have hU := UU_pos
  refine decide_eq_decide.2 (not_congr ⟨fun h => ?_, fun h => ?_⟩)
  · unfold gridN; rw [h]
  · rw [h, h4] at h2; omega
set_option maxRecDepth 10000
attribute [local irreducible] WP WC WE WB WR WF WL WG WRg WQ
section
variable {P : Program} (T : Tbl P) {h : AHeap}
include T
set_option maxHeartbeats 1000000 in
theorem r23 {s : AV} {l : List Int} (hs : IsSl h s 1 (l.map intRow)) (hl : l.length < 2 ^ 63) : RCall P 23 [s] h (fun v _ => v = .int .i64 (firstS l)) := by
  refine .of T.mix T.c23 ?_
  unfold fn23
  simp only [uset]
  have e1 : (l.map intRow).length = l.length := by simp
  simp only [wset, hs.lenG, e1]
  refine WL.inv T.mix (fun n ts h' => ∃ k : Nat, k ≤ l.length ∧ n = l.length - k ∧ h' = h ∧ firstS l = firstS (l.drop k) ∧ ts.length = 15 ∧ slot ts 5 = s ∧ slot ts 6 = .int .i64 l.length ∧ slot ts 7 = .int .i64 k) l.length
    ⟨0, by omega, rfl, rfl, rfl, rfl, rfl, rfl, rfl⟩ ?_
  rintro _ ts _ ⟨k, hk, rfl, rfl, hf, hlen, h5, h6, h7⟩
  rw [expl ts 15 hlen]
  by_cases hlt : k < l.length
  · have hd : l.drop k = l[k] :: l.drop (k + 1) := by simp
    have e2 : (l.map intRow)[k]'(by omega) = [AV.int .i64 l[k]] := by simp
    have e3 : (k : Int) < l.length := by omega
    simp +contextual (disch := omega) only [wset, wsplit, h5, h6, h7, e3, decide_true, hs.iadr, Int.toNat_natCast, hs.load1 _ e2, wrap_in]
    refine ⟨fun h1 => ?_, fun h1 => ⟨l.length - (k + 1), by omega, k + 1, by omega, rfl, ?_, rfl⟩⟩
    · rw [hf, hd, firstS, if_neg h1]
    · rw [hf, hd, firstS, if_pos (by omega)]
  · have e3 : ¬ (k : Int) < l.length := by omega
    have e4 : k = l.length := by omega
    simp +contextual (disch := omega) only [wset, h5, h6, h7, e3, decide_false, if_true]
    rw [hf, e4, List.drop_length]; rfl
set_option maxHeartbeats 1000000 in
theorem r78 (b : Nat) : RCall P 78 [.flt .f32 b] h (fun v _ => v = .int .i64 (gridE b)) := by
  refine .st1 13 T.mix T.c78 ?_;intro ts hlen t0;unfold fn78
  refine Rs @t0 ?_
  refine WF.ce T.c99 (r99 T _) fun g1 => ?_
  refine Rs @t0 ?_
  refine WF.ce T.c71 (r71 T _ _) fun g2 => ?_
  refine Rs @t0 ?_
  refine WF.ce T.c100 (r100 T _) fun g3 => ?_
  refine Rs @t0 ?_
  refine WF.ce T.c71 (r71 T _ _) fun g4 => ?_
  refine Rs @t0 ?_
  refine WF.ce T.c23 (r23 T (isSl_ints [_, _]) (by simp)) fun g5 => ?_
  refine Rs @t0 ?_
  rfl
set_option maxHeartbeats 1000000 in
theorem r107 {k : Nat} (c : Bool) (hc : binK .neq (.flt .f64 k) (.flt .f64 k) = some (.bool c)) : RCall P 107 [.flt .f64 k] h (fun v _ => v = .bool c) := by
  refine .st1 6 T.mix T.c107 ?_;intro ts hlen t0;unfold fn107
  exact Rs (A2 @t0 @hc) trivial
set_option maxHeartbeats 1000000 in
theorem r108 (X : Xfl P) {k : Nat} (hn : nanB .f64 k = false) (c : Bool) (hc : binK .gtr (.flt .f64 (absB k)) (.flt .f64 9218868437227405311) = some (.bool c)) : RCall P 108 [.flt .f64 k, .int .i64 0] h (fun v _ => v = .bool c) := by
  refine .st2 15 T.mix T.c108 ?_;intro ts hlen t0 t1;unfold fn108
  refine Rs (A3 @t0 @t1 @decide_true) ?_
  refine WF.ce T.c110 (r110 T X hn) fun g1 => ?_
  exact Rs (A3 @t0 @t1 @hc) trivial
set_option maxHeartbeats 2000000 in
theorem r106 (X : Xfl P) (b : Nat) : RCall P 106 [.flt .f32 b, .int .i64 1024] h (fun v _ => v = .int .i64 (gridE b)) := by
  refine .st2 34 T.mix T.c106 ?_;intro ts hlen t0 t1;unfold fn106
  have c1 : ∀ {n : Int} {G : Nat → Option ABlk} {N : Nat}, convT (.i2f .f64) (.int .i64 n) G N = some (.flt .f64 (FloatKind.f64.nearest n), .keep) := fun {_ _ _} => rfl
  have w1 : IntKind.i64.wrap (0 - 1024) = -1024 := by decide
  rcases flt_cases .f32 b with ⟨v, hv⟩ | ⟨t, ht⟩ | ⟨s, t, ht⟩
  · have hfv := num_fval hv
    have hf := finB_t hv
    obtain ⟨q, c2, hq⟩ := num_f2f hv
    have hna := num_neq hq hq
    rw [show decide (v ≠ v) = false by simp] at hna
    obtain ⟨M, hM, hM2⟩ := max64
    have hinf := num_gtr (num_abs hq) hM
    rw [decide_eq_false (hM2 v (num32_bd hv))] at hinf
    repeat (first | simp (config := { maxSteps := 1000000 }) only [wset, hset, dset, bset, Nat.reduceAdd, Nat.reduceMul, Nat.reduceLeDiff, Nat.reduceEqDiff, pset, hlen, if_false, if_true, t0, t1, @c2] | simp (config := { maxSteps := 1000000 }) (disch := first | (simp only [List.length_append, List.length_cons, List.length_nil] <;> omega) | rfl | omega | fail) only [kset, wset, hset, dset, bset, Nat.reduceAdd, Nat.reduceMul, Nat.reduceLeDiff, Nat.reduceEqDiff, pset, hlen, if_false, if_true, t0, t1, @c2])
    refine WF.ce T.c107 (r107 T false hna) fun g1 => ?_
    refine Rs (A2 @t0 @t1) ?_
    refine WF.ce T.c108 (r108 T X (num_nan hq) false hinf) fun g2 => ?_
    have g1024 := num_gtr hq (num_1024 (k := .f64))
    have ln1024 := num_lss hq (num_n1024 (k := .f64))
    by_cases q1 : 1024 * UU < v
    · have d1 : decide (1024 * UU < v) = true := decide_eq_true q1
      have e : gOkB b = false := by rw [gOkB, ← hfv, decide_eq_false (show ¬ v ≤ 1024 * UU by omega)]; simp
      refine Rs (A6 @t0 @t1 @c1 @w1 @g1024 @d1) ?_
      refine WF.ce T.c104 (r104 T _ _) fun g3 => ?_
      refine Rs (A2 @t0 @t1) ?_
      rw [gridE, hf, e]; rfl
    have d1 : decide (1024 * UU < v) = false := decide_eq_false q1
    by_cases q2 : v < -1024 * UU
    · have d2 : decide (v < -1024 * UU) = true := decide_eq_true q2
      have e : gOkB b = false := by rw [gOkB, ← hfv, decide_eq_false (show ¬ -1024 * UU ≤ v by omega)]; simp
      refine Rs (A8 @t0 @t1 @c1 @w1 @g1024 @d1 @ln1024 @d2) ?_
      refine WF.ce T.c104 (r104 T _ _) fun g3 => ?_
      refine Rs (A2 @t0 @t1) ?_
      rw [gridE, hf, e]; rfl
    have d2 : decide (v < -1024 * UU) = false := decide_eq_false q2
    have hab := bd_abs (v := v) (by omega) (by omega)
    obtain ⟨p, m1, m2, hp⟩ := mul16 hq hab
    have m2 : binK .mul (.flt .f64 4625196817309499392) (.flt .f64 q) = some (.flt .f64 p) := m2
    have hpf := num_floor hp (by
      rw [Int.natAbs_mul]
      have : 16 * v.natAbs ≤ 16 * (2 ^ 10 * UU.natAbs) := Nat.mul_le_mul_left _ hab
      show 16 * v.natAbs ≤ _
      omega)
    have l3 := num_neq hp hpf
    have e : gOkB b = !decide (16 * v ≠ 16 * v / UU * UU) := by
      rw [gOkB, gridN, ← hfv, hf, decide_eq_true (show -1024 * UU ≤ v by omega), decide_eq_true (show v ≤ 1024 * UU by omega)]
      by_cases hh : 16 * v / UU * UU = 16 * v
      · rw [decide_eq_true hh, decide_eq_false (p := 16 * v ≠ 16 * v / UU * UU) (fun z => z hh.symm)]; rfl
      · rw [decide_eq_false hh, decide_eq_true (p := 16 * v ≠ 16 * v / UU * UU) (fun z => hh z.symm)]; rfl
    refine Rs (A9 @t0 @t1 @c1 @w1 @g1024 @d1 @ln1024 @d2 @m2) ?_
    refine WF.ce T.c109 (r109 T X (num_nan hp)) fun g3 => ?_
    refine Rs (A3 @t0 @t1 @l3) ?_
    refine WF.ce T.c104 (r104 T _ _) fun g4 => ?_
    refine Rs (A2 @t0 @t1) ?_
    rw [gridE, hf, e, Bool.not_not]
    show _ = AV.int .i64 (firstS [whenS false 1, _])
    rw [first_w2]; rfl
  · obtain ⟨q, c2, hq⟩ := inf_f2f ht
    have e : gridE b = 1 := by rw [gridE, finB_i ht]; rfl
    have o1 : FloatKind.f64.format.order (absB q) 9218868437227405311 = some .gt := by
      unfold Format.order
      rw [absB_read, hq, show FloatKind.f64.format.read 9218868437227405311 = .number false 9007199254740991 971 by decide]; rfl
    have hinf : binK .gtr (.flt .f64 (absB q)) (.flt .f64 9218868437227405311) = some (.bool true) := ord_bin (by simp only [fltBin, o1]; rfl)
    repeat (first | simp (config := { maxSteps := 1000000 }) only [wset, hset, dset, bset, Nat.reduceAdd, Nat.reduceMul, Nat.reduceLeDiff, Nat.reduceEqDiff, pset, hlen, if_false, if_true, t0, t1, @c2] | simp (config := { maxSteps := 1000000 }) (disch := first | (simp only [List.length_append, List.length_cons, List.length_nil] <;> omega) | rfl | omega | fail) only [kset, wset, hset, dset, bset, Nat.reduceAdd, Nat.reduceMul, Nat.reduceLeDiff, Nat.reduceEqDiff, pset, hlen, if_false, if_true, t0, t1, @c2])
    refine WF.ce T.c107 (r107 T false (inf_neq hq)) fun g1 => ?_
    refine Rs (A2 @t0 @t1) ?_
    refine WF.ce T.c108 (r108 T X (inf_nan hq) true hinf) fun g2 => ?_
    refine Rs (A2 @t0 @t1) ?_
    rw [e]
  · have c2 := @nan_f2f _ _ _ ht
    have e : gridE b = 1 := by rw [gridE, finB_n ht]; rfl
    repeat (first | simp (config := { maxSteps := 1000000 }) only [wset, hset, dset, bset, Nat.reduceAdd, Nat.reduceMul, Nat.reduceLeDiff, Nat.reduceEqDiff, pset, hlen, if_false, if_true, t0, t1, @c2] | simp (config := { maxSteps := 1000000 }) (disch := first | (simp only [List.length_append, List.length_cons, List.length_nil] <;> omega) | rfl | omega | fail) only [kset, wset, hset, dset, bset, Nat.reduceAdd, Nat.reduceMul, Nat.reduceLeDiff, Nat.reduceEqDiff, pset, hlen, if_false, if_true, t0, t1, @c2])
    refine WF.ce T.c107 (r107 T true (nan_neq (qnan_nan _))) fun g1 => ?_
    refine Rs (A2 @t0 @t1) ?_
    rw [e]
set_option maxHeartbeats 1000000 in
theorem r105 (X : Xfl P) (b : Nat) : RCall P 105 [.flt .f32 b] h (fun v _ => v = .int .i64 (gridE b)) := by
  refine .st1 5 T.mix T.c105 ?_;intro ts hlen t0;unfold fn105
  refine Rs @t0 ?_
  refine WF.ce T.c106 (r106 T X _) fun g1 => ?_
  exact Rs @t0 trivial
set_option maxHeartbeats 1000000 in
theorem r22 {b : Nat} (hb : gridE b = 0) : RCall P 22 [.flt .f32 b] h (fun v _ => v = .int .i64 (gridN b)) := by
  refine .st1 6 T.mix T.c22 ?_;intro ts hlen t0;unfold fn22
  obtain ⟨hv, hg, g1, g2⟩ := grid_num hb
  obtain ⟨hg3, hg4⟩ := grid_bd hb
  obtain ⟨p, m1, m2, hp⟩ := mul16 hv (bd_abs hg3 hg4)
  have m2 : binK .mul (.flt .f32 1098907648) (.flt .f32 b) = some (.flt .f32 p) := m2
  have hU := UU_pos
  have ht : (16 * fval b).tdiv UU = gridN b := by rw [← hg, Int.mul_tdiv_cancel _ (by omega)]
  have c3 := @num_f2i _ _ _ hp (by omega) (by omega)
  rw [ht] at c3
  exact Rs (A3 @t0 @m2 @c3) trivial
set_option maxHeartbeats 1000000 in
theorem r43 {b : Nat} (hb : gridE b = 0) : RCall P 43 [.flt .f32 b] h (fun v _ => v = .int .i64 (gridN b)) := by
  refine .st1 6 T.mix T.c43 ?_;intro ts hlen t0;unfold fn43
  obtain ⟨hv, hg, g1, g2⟩ := grid_num hb
  obtain ⟨hg3, hg4⟩ := grid_bd hb
  obtain ⟨p, m1, m2, hp⟩ := mul16 hv (bd_abs hg3 hg4)
  have m2 : binK .mul (.flt .f32 1098907648) (.flt .f32 b) = some (.flt .f32 p) := m2
  have hU := UU_pos
  have ht : (16 * fval b).tdiv UU = gridN b := by rw [← hg, Int.mul_tdiv_cancel _ (by omega)]
  have c3 := @num_f2i _ _ _ hp (by omega) (by omega)
  rw [ht] at c3
  exact Rs (A3 @t0 @m2 @c3) trivial
set_option maxHeartbeats 1000000 in
theorem r83 {n : Int} (h1 : -16384 ≤ n) (h2 : n ≤ 16384) : RCall P 83 [.int .i64 n] h (fun v _ => v = .flt .f32 (smpl n)) := by
  refine .st1 6 T.mix T.c83 ?_;intro ts hlen t0;unfold fn83
  have c1 : ∀ {G : Nat → Option ABlk} {N : Nat}, convT (.i2f .f32) (.int .i64 n) G N = some (.flt .f32 (FloatKind.f32.nearest n), .keep) := fun {_ _} => rfl
  have q1 := (smpl_ok h1 h2).1
  exact Rs (A3 @t0 @c1 @q1) trivial
end
end Go.Abs
namespace Go.Abs
def goodS : List UInt8 → Bool
  | [] => true
  | c :: r => letterS c && r.all restS

theorem name_good (s : List UInt8) : nameS s = (decide (s ≠ []) && decide (s.length ≤ 24) && goodS s) := by
  cases s with
  | nil => rfl
  | cons c r =>
    have : (r.length < 24) = ((c :: r).length ≤ 24) := by simp; omega
    simp only [nameS, goodS, this]
    simp [Bool.and_assoc]

theorem good_step {s : List UInt8} {k : Nat} (hk : k < s.length) : goodS (s.take (k + 1)) = (goodS (s.take k) && (if k = 0 then letterS s[k] else restS s[k])) := by
  cases s with
  | nil => simp at hk
  | cons c r =>
    cases k with
    | zero => simp [goodS]
    | succ k =>
      have hk' : k < r.length := by simpa using hk
      simp only [List.take_succ_cons, goodS, List.getElem_cons_succ]
      rw [List.take_add_one, List.getElem?_eq_getElem hk', Option.toList_some]
      rw [List.all_append, List.all_cons, List.all_nil, Bool.and_true, Bool.and_assoc, if_neg (by omega)]

theorem good_take {s} {k} (h : goodS (s.take k) = false) : goodS s = false := by
  cases s with
  | nil => simp [goodS] at h
  | cons c r =>
    cases k with
    | zero => simp [goodS] at h
    | succ k =>
      simp only [List.take_succ_cons, goodS, Bool.and_eq_false_iff] at h ⊢
      rcases h with h | h
      · exact .inl h
      · right
        rw [List.all_eq_false] at h ⊢
        obtain ⟨x, hx, hr⟩ := h
        exact ⟨x, List.mem_of_mem_take hx, hr⟩

theorem dec_lt {s} {i} (hi : i < s.length) (h : s[i].toNat < 128) : Utf8.decode ⟨⟨s⟩⟩ i = (s[i].toNat, 1) := by
  have hg : (ByteArray.get! ⟨⟨s⟩⟩ i).toNat = s[i].toNat := by
    simp [ByteArray.get!, hi]
  simp only [Utf8.decode, Nat.add_zero, hg, if_pos h]

theorem dec_ge {s} {i} (hi : i < s.length) (h : 128 ≤ s[i].toNat) : 128 ≤ (Utf8.decode ⟨⟨s⟩⟩ i).1 := by
  have hg : (ByteArray.get! ⟨⟨s⟩⟩ i).toNat = s[i].toNat := by
    simp [ByteArray.get!, hi]
  simp only [Utf8.decode, Nat.add_zero, hg]
  rw [if_neg (by omega)]
  simp only [Utf8.runeError]
  repeat' split
  all_goals first
    | (simp only; omega)
    | (simp only [Bool.and_eq_true, decide_eq_true_eq] at *; omega)

section
variable {P : Program} (T : Tbl P) {h : AHeap}
include T
theorem r25 (n lo hi : Int) : RCall P 25 [.int .i64 n, .int .i64 lo, .int .i64 hi] h (fun v _ => v = .int .i64 (rangeS n lo hi)) := by
  refine .of T.mix T.c25 ?_
  unfold fn25
  simp only [uset]
  simp +contextual only [wset, wsplit, decide_true, decide_false]
  refine ⟨fun h1 => ?_, fun h1 => ?_⟩ <;>
  · refine WF.res T.c71 (r71 T _ _) ?_
    rintro _ g rfl
    simp only [wset]
    simp [whenS, rangeS, h1]

theorem r95 (c : UInt8) : RCall P 95 [.int .u8 c.toNat] h (fun v _ => v = .bool (letterS c)) := by
  refine .of T.mix T.c95 ?_
  unfold fn95
  simp only [uset]
  simp +contextual only [wset, wsplit, decide_true, decide_false]
  grind [letterS]

theorem r96 (c : UInt8) : RCall P 96 [.int .u8 c.toNat] h (fun v _ => v = .bool (digitS c)) := by
  refine .of T.mix T.c96 ?_
  unfold fn96
  simp only [uset]
  simp +contextual only [wset, wsplit, decide_true, decide_false]
  grind [digitS]

theorem r68 (s : List UInt8) (hl : s.length < 2 ^ 63) : RCall P 68 [.str s] h (fun v _ => v = .bool (nameS s)) := by
  refine .of T.mix T.c68 ?_
  unfold fn68
  simp only [uset]
  cases s with
  | nil =>
    simp only [wset, List.length_nil]
    simp only [show ((0 : Nat) : Int) = 0 from rfl, decide_true, wset]
    rfl
  | cons c r =>
    have e1 : ¬ (((c :: r).length : Nat) : Int) = 0 := by simp; omega
    simp +contextual only [wset, wsplit, e1, decide_true, decide_false]
    refine ⟨fun h1 => ?_, fun h1 => ?_⟩
    · have : ¬ r.length < 24 := by simp at h1; omega
      simp [nameS, this]
    · rw [ixs_0]
      simp only [wset]
      refine WF.ce T.c95 (r95 T _) fun g => ?_
      have hlt : r.length < 24 := by simp at h1; omega
      cases hc : letterS c with
      | false =>
        simp only [wset, Bool.not_false]
        simp [nameS, hc]
      | true =>
        simp only [wset, Bool.not_true]
        have key : nameS (c :: r) = r.all restS := by simp [nameS, hc, hlt]
        refine WL.inv T.mix (fun n ts h' => ∃ k : Nat, k ≤ r.length ∧ n = r.length - k ∧ Ext h h' ∧ r.all restS = (r.drop k).all restS ∧ ts.length = 42 ∧ slot ts 0 = .str (c :: r) ∧ slot ts 3 = .int .i64 (k + 1)) r.length
          ⟨0, by omega, rfl, ⟨_, rfl⟩, rfl, rfl, rfl, rfl⟩ ?_
        rintro _ ts _ ⟨k, hk, rfl, ⟨g', rfl⟩, hf, hlen, h0, h3⟩
        rw [expl ts 42 hlen]
        have hlc : (c :: r).length = r.length + 1 := rfl
        by_cases hlt : k < r.length
        · have hd : r.drop k = r[k] :: r.drop (k + 1) := by simp
          have e3 : (k : Int) + 1 < ((c :: r).length : Nat) := by omega
          have e4 : ixsF (.str (c :: r)) (.int .i64 (k + 1)) = some (.int .u8 r[k].toNat) := ixs_in (s := c :: r) (i := k + 1) (by omega)
          simp only [wset, h0, h3, e3, decide_true, e4]
          refine WF.ce T.c95 (r95 T _) fun g1 => ?_
          cases hx : letterS r[k] with
          | true =>
            simp (disch := omega) only [wset, Bool.not_true, wrap_in]
            exact ⟨_, by omega, k + 1, by omega, rfl, by rw [hf, hd, List.all_cons, restS, hx, Bool.true_or, Bool.true_or, Bool.true_and], rfl⟩
          | false =>
            simp only [wset, Bool.not_false, h0, h3, e4]
            refine WF.ce T.c96 (r96 T _) fun g2 => ?_
            cases hy : digitS r[k] with
            | true =>
              simp (disch := omega) only [wset, Bool.not_true, wrap_in]
              exact ⟨_, by omega, k + 1, by omega, rfl, by rw [hf, hd, List.all_cons, restS, hx, hy, Bool.or_true, Bool.true_or, Bool.true_and], rfl⟩
            | false =>
              simp +contextual (disch := omega) only [wset, wsplit, Bool.not_false, h0, h3, e4, wrap_in]
              refine ⟨fun h9 => ?_, fun h9 => ⟨_, by omega, k + 1, by omega, rfl, ?_, rfl⟩⟩
              · rw [key, hf, hd, List.all_cons, restS, hx, hy]; simp; omega
              · rw [hf, hd, List.all_cons, restS, hx, hy]; simp; omega
        · have e3 : ¬ (k : Int) + 1 < ((c :: r).length : Nat) := by omega
          have e4 : k = r.length := by omega
          simp only [wset, h0, h3, e3, decide_false, if_true]
          rw [key, hf, e4, List.drop_length]; rfl

theorem r72 (s : List UInt8) : RCall P 72 [.str s] h (fun v _ => v = .bool (nameS s)) := by
  refine .of T.mix T.c72 ?_
  unfold fn72
  simp only [uset]
  simp only [wset, hset]
  refine WL.inv T.mix (fun n ts h' => ∃ k : Nat, k ≤ s.length ∧ n = s.length - k ∧ h' = h ++ [.iter s k] ∧ goodS (s.take k) = true ∧ ts.length = 54 ∧ slot ts 0 = .str s ∧ slot ts 8 = .ptr h.length 0) s.length
    ⟨0, by omega, rfl, rfl, rfl, rfl, rfl, rfl⟩ ?_
  rintro _ ts _ ⟨k, hk, rfl, rfl, hf, hlen, h0, h8⟩
  rw [expl ts 54 hlen]
  by_cases hlt : k < s.length
  · have hstep := good_step hlt
    rw [hf, Bool.true_and] at hstep
    obtain ⟨c, w, hdec, hcw⟩ : ∃ c w, Utf8.decode ⟨⟨s⟩⟩ k = (c, w) ∧ (c = s[k].toNat ∧ w = 1 ∨ 128 ≤ c ∧ 128 ≤ s[k].toNat) := by
      by_cases hc : s[k].toNat < 128
      · exact ⟨_, _, dec_lt hlt hc, .inl ⟨rfl, rfl⟩⟩
      · exact ⟨_, _, rfl, .inr ⟨dec_ge hlt (by omega), by omega⟩⟩
    have hbad : (if k = 0 then letterS s[k] else restS s[k]) = false → AV.bool false = AV.bool (nameS s) := fun hb => by
      rw [hb] at hstep
      rw [name_good, good_take hstep, Bool.and_false]
    have hgood : ∀ w', c = s[k].toNat ∧ w' = 1 → (if k = 0 then letterS s[k] else restS s[k]) = true → ∃ m, m < s.length - k ∧ ∃ k_1, k_1 ≤ s.length ∧ m = s.length - k_1 ∧ h ++ [ABlk.iter s (k + w')] = h ++ [ABlk.iter s k_1] ∧ goodS (List.take k_1 s) = true ∧ True := fun w' hw hb => by
      rw [hb] at hstep
      exact ⟨_, by omega, k + 1, by omega, rfl, by rw [hw.2], hstep, trivial⟩
    have hl : letterS s[k] = (decide (65 ≤ s[k].toNat) && decide (s[k].toNat ≤ 90) || decide (97 ≤ s[k].toNat) && decide (s[k].toNat ≤ 122)) := rfl
    have hr : restS s[k] = (letterS s[k] || (decide (48 ≤ s[k].toNat) && decide (s[k].toNat ≤ 57)) || s[k].toNat == 95) := rfl
    have h0' : ((k : Int) = 0) = (k = 0) := by simp
    by_cases a1 : (65 : Int) ≤ c <;> by_cases a2 : (c : Int) ≤ 90 <;> by_cases a3 : (97 : Int) ≤ c <;> by_cases a4 : (c : Int) ≤ 122 <;> first | (exfalso; omega) | skip
    all_goals by_cases a5 : (48 : Int) ≤ c <;> by_cases a6 : (c : Int) ≤ 57 <;> by_cases a7 : (c : Int) = 95 <;> first | (exfalso; omega) | skip
    all_goals first | have b7 := eq_false a7 | have b7 := eq_true a7
    all_goals simp only [wset, hset, h0, h8, nextB, hlt, if_true, hdec, a1, a2, a3, a4, a5, a6, b7, decide_true, decide_false, Bool.not_true, Bool.not_false]
    all_goals first
      | exact hgood _ (by omega) (by grind)
      | (by_cases hk0 : (k : Int) = 0 <;> simp only [wset, hset, hk0, decide_true, decide_false, Bool.not_true, Bool.not_false] <;> first
          | exact hbad (by grind)
          | exact hgood _ (by omega) (by grind))
      | exact hbad (by grind)
  · simp only [wset, hset, h0, h8, nextB, hlt, if_false, if_true]
    have e4 : k = s.length := by omega
    rw [e4, List.take_length] at hf
    by_cases he : s = [] <;> simp only [wset, he, decide_true, decide_false, ne_eq, not_true_eq_false, not_false_eq_true]
    · rfl
    · rw [name_good, hf]; simp [he]; omega

end
end Go.Abs
namespace Go.Abs

def fltR (b : Nat) : List AV := [.flt .f32 b]
set_option maxRecDepth 10000
attribute [local irreducible] WP WC WE WB WR WF WL WG WRg WQ
section
variable {P : Program} (T : Tbl P) {h : AHeap}
include T
set_option maxHeartbeats 2000000 in
theorem q101 {s : AV} {l : List (Nat)} (hs : IsSl h s 1 (l.map fltR)) (hl : l.length < 2 ^ 40) {f : FuncId} {AF : AFunc} (hA : compileFn P f = some AF) {g : Nat → Int} (hf : ∀ x ∈ l, ∀ k, RCall P f [.flt .f32 x] k (fun v _ => v = .int .i64 (g x))) : RCall P 101 [s, .func (.func f) [] []] h (fun v h' => Fr h.length h' v 1 ((l.map g).map intRow)) := by
  refine .st2 22 T.mix T.c101 ?_;intro ts hlen t0 t1;unfold fn101
  refine Rs (A3 @t0 @t1 hs.lenm) ?_
  refine WL.inv T.mix (fun n ts K => ∃ (k : Nat) (t : AV), k ≤ l.length ∧ n = l.length - k ∧ Ext h K ∧ Fr h.length K t 1 (((l.take k).map g).map intRow) ∧ ts.length = 22 ∧ slot ts 1 = .func (.func f) [] [] ∧ slot ts 5 = t ∧ slot ts 8 = s ∧ slot ts 9 = .int .i64 l.length ∧ slot ts 10 = .int .i64 k) l.length
    ⟨0, .nilSlice, by omega, rfl, .refl _, .nil, Sn, (Sq @t1), Sw, Sw, Sw, Swr⟩ ?_
  clear hlen t0 t1
  rintro _ ts K ⟨k, t, hk, rfl, eK, hfr, hlen, t1, t5, t8, t9, t10⟩
  have hsK := hs.ext eK
  by_cases hlt : k < l.length
  case neg =>
    have e3 := dltF hlt
    have e4 : k = l.length := by omega
    rw [e4, List.take_length] at hfr
    refine Rs (A6 @t1 @t5 @t8 @t9 @t10 @e3) ?_
    exact ⟨eK, hfr⟩
  have e3 := dltT hlt
  have e5 := wrapN (n := k) (by omega)
  have ix := hsK.ixm (kk := .i64) hlt
  obtain ⟨x, hx⟩ : ∃ x, x = l[k] := ⟨_, rfl⟩
  have ld : ∀ {kk : AHeap}, Ext K kk → loadF none (elp s 1 k) (fun b => kk[b]?) = some (.flt .f32 x, .keep) := fun {kk} e => by rw [hx]; exact hsK.l1m hlt rfl e
  have hmem : x ∈ l := by rw [hx]; exact List.getElem_mem _
  have ot := hfr.isSl.one
  have htk : l.take (k + 1) = l.take k ++ [x] := by rw [hx]; exact List.take_succ_eq_append_getElem hlt
  refine Rs (A9 @t1 @t5 @t8 @t9 @t10 @e3 @ix @ld @ot) ?_
  refine WF.ce hA (hf x hmem _) fun g1 => ?_
  have bs : ∀ {N : Nat}, bslF 1 1 (fillA [.int .i64 0] [(0, 1, .int .i64 (g x))]) N = some (.slice N 0 1 1, .push (.cells [.int .i64 (g x)] true true)) := fun {N} => rfl
  refine Rs (A7 @t1 @t5 @t8 @t9 @t10 @ot @bs) ?_
  refine WR.appR (B := h) (cs := ((l.take k).map g).map intRow) (z := intRow (g x)) (hfr.app _) rfl (eK.trans ⟨_, rfl⟩) (by decide) (by rw [List.length_map, List.length_map, List.length_take]; omega) ?_
  intro W5 s' x5 hff q5
  have hrow : ((l.take k).map g).map intRow ++ [intRow (g x)] = ((l.take (k + 1)).map g).map intRow := by rw [htk, List.map_append, List.map_append]; rfl
  rw [hrow] at hff
  refine Rs (A7 @t1 @t5 @t8 @t9 @t10 @q5 @e5) ?_
  exact ⟨l.length - (k + 1), by omega, k + 1, s', by omega, rfl, x5, hff, rfl, rfl⟩
theorem r101 {s : AV} {l : List (Nat)} (hs : IsSl h s 1 (l.map fltR)) (hl : l.length < 2 ^ 40) {f : FuncId} {AF : AFunc} (hA : compileFn P f = some AF) {g : Nat → Int} (hf : ∀ x ∈ l, ∀ k, RCall P f [.flt .f32 x] k (fun v _ => v = .int .i64 (g x))) : RCall P 101 [s, .func (.func f) [] []] h (fun v h' => IsSl h' v 1 ((l.map g).map intRow)) := by
  obtain ⟨v, k, h1, h2⟩ := q101 T hs hl hA hf
  exact ⟨v, k, h1, h2.isSl⟩
set_option maxHeartbeats 2000000 in
theorem q42 {s : AV} {l : List (Nat)} (hs : IsSl h s 1 (l.map fltR)) (hl : l.length < 2 ^ 40) {f : FuncId} {AF : AFunc} (hA : compileFn P f = some AF) {g : Nat → Int} (hf : ∀ x ∈ l, ∀ k, RCall P f [.flt .f32 x] k (fun v _ => v = .int .i64 (g x))) : RCall P 42 [s, .func (.func f) [] []] h (fun v h' => Fr h.length h' v 1 ((l.map g).map intRow)) := by
  refine .st2 22 T.mix T.c42 ?_;intro ts hlen t0 t1;unfold fn42
  refine Rs (A3 @t0 @t1 hs.lenm) ?_
  refine WL.inv T.mix (fun n ts K => ∃ (k : Nat) (t : AV), k ≤ l.length ∧ n = l.length - k ∧ Ext h K ∧ Fr h.length K t 1 (((l.take k).map g).map intRow) ∧ ts.length = 22 ∧ slot ts 1 = .func (.func f) [] [] ∧ slot ts 5 = t ∧ slot ts 8 = s ∧ slot ts 9 = .int .i64 l.length ∧ slot ts 10 = .int .i64 k) l.length
    ⟨0, .nilSlice, by omega, rfl, .refl _, .nil, Sn, (Sq @t1), Sw, Sw, Sw, Swr⟩ ?_
  clear hlen t0 t1
  rintro _ ts K ⟨k, t, hk, rfl, eK, hfr, hlen, t1, t5, t8, t9, t10⟩
  have hsK := hs.ext eK
  by_cases hlt : k < l.length
  case neg =>
    have e3 := dltF hlt
    have e4 : k = l.length := by omega
    rw [e4, List.take_length] at hfr
    refine Rs (A6 @t1 @t5 @t8 @t9 @t10 @e3) ?_
    exact ⟨eK, hfr⟩
  have e3 := dltT hlt
  have e5 := wrapN (n := k) (by omega)
  have ix := hsK.ixm (kk := .i64) hlt
  obtain ⟨x, hx⟩ : ∃ x, x = l[k] := ⟨_, rfl⟩
  have ld : ∀ {kk : AHeap}, Ext K kk → loadF none (elp s 1 k) (fun b => kk[b]?) = some (.flt .f32 x, .keep) := fun {kk} e => by rw [hx]; exact hsK.l1m hlt rfl e
  have hmem : x ∈ l := by rw [hx]; exact List.getElem_mem _
  have ot := hfr.isSl.one
  have htk : l.take (k + 1) = l.take k ++ [x] := by rw [hx]; exact List.take_succ_eq_append_getElem hlt
  refine Rs (A9 @t1 @t5 @t8 @t9 @t10 @e3 @ix @ld @ot) ?_
  refine WF.ce hA (hf x hmem _) fun g1 => ?_
  have bs : ∀ {N : Nat}, bslF 1 1 (fillA [.int .i64 0] [(0, 1, .int .i64 (g x))]) N = some (.slice N 0 1 1, .push (.cells [.int .i64 (g x)] true true)) := fun {N} => rfl
  refine Rs (A7 @t1 @t5 @t8 @t9 @t10 @ot @bs) ?_
  refine WR.appR (B := h) (cs := ((l.take k).map g).map intRow) (z := intRow (g x)) (hfr.app _) rfl (eK.trans ⟨_, rfl⟩) (by decide) (by rw [List.length_map, List.length_map, List.length_take]; omega) ?_
  intro W5 s' x5 hff q5
  have hrow : ((l.take k).map g).map intRow ++ [intRow (g x)] = ((l.take (k + 1)).map g).map intRow := by rw [htk, List.map_append, List.map_append]; rfl
  rw [hrow] at hff
  refine Rs (A7 @t1 @t5 @t8 @t9 @t10 @q5 @e5) ?_
  exact ⟨l.length - (k + 1), by omega, k + 1, s', by omega, rfl, x5, hff, rfl, rfl⟩
theorem r42 {s : AV} {l : List (Nat)} (hs : IsSl h s 1 (l.map fltR)) (hl : l.length < 2 ^ 40) {f : FuncId} {AF : AFunc} (hA : compileFn P f = some AF) {g : Nat → Int} (hf : ∀ x ∈ l, ∀ k, RCall P f [.flt .f32 x] k (fun v _ => v = .int .i64 (g x))) : RCall P 42 [s, .func (.func f) [] []] h (fun v h' => IsSl h' v 1 ((l.map g).map intRow)) := by
  obtain ⟨v, k, h1, h2⟩ := q42 T hs hl hA hf
  exact ⟨v, k, h1, h2.isSl⟩
set_option maxHeartbeats 2000000 in
theorem q82 {s : AV} {l : List (Int)} (hs : IsSl h s 1 (l.map intRow)) (hl : l.length < 2 ^ 40) {f : FuncId} {AF : AFunc} (hA : compileFn P f = some AF) {g : Int → Nat} (hf : ∀ x ∈ l, ∀ k, RCall P f [.int .i64 x] k (fun v _ => v = .flt .f32 (g x))) : RCall P 82 [s, .func (.func f) [] []] h (fun v h' => Fr h.length h' v 1 ((l.map g).map fltR)) := by
  refine .st2 22 T.mix T.c82 ?_;intro ts hlen t0 t1;unfold fn82
  refine Rs (A3 @t0 @t1 hs.lenm) ?_
  refine WL.inv T.mix (fun n ts K => ∃ (k : Nat) (t : AV), k ≤ l.length ∧ n = l.length - k ∧ Ext h K ∧ Fr h.length K t 1 (((l.take k).map g).map fltR) ∧ ts.length = 22 ∧ slot ts 1 = .func (.func f) [] [] ∧ slot ts 5 = t ∧ slot ts 8 = s ∧ slot ts 9 = .int .i64 l.length ∧ slot ts 10 = .int .i64 k) l.length
    ⟨0, .nilSlice, by omega, rfl, .refl _, .nil, Sn, (Sq @t1), Sw, Sw, Sw, Swr⟩ ?_
  clear hlen t0 t1
  rintro _ ts K ⟨k, t, hk, rfl, eK, hfr, hlen, t1, t5, t8, t9, t10⟩
  have hsK := hs.ext eK
  by_cases hlt : k < l.length
  case neg =>
    have e3 := dltF hlt
    have e4 : k = l.length := by omega
    rw [e4, List.take_length] at hfr
    refine Rs (A6 @t1 @t5 @t8 @t9 @t10 @e3) ?_
    exact ⟨eK, hfr⟩
  have e3 := dltT hlt
  have e5 := wrapN (n := k) (by omega)
  have ix := hsK.ixm (kk := .i64) hlt
  obtain ⟨x, hx⟩ : ∃ x, x = l[k] := ⟨_, rfl⟩
  have ld : ∀ {kk : AHeap}, Ext K kk → loadF none (elp s 1 k) (fun b => kk[b]?) = some (.int .i64 x, .keep) := fun {kk} e => by rw [hx]; exact hsK.l1m hlt rfl e
  have hmem : x ∈ l := by rw [hx]; exact List.getElem_mem _
  have ot := hfr.isSl.one
  have htk : l.take (k + 1) = l.take k ++ [x] := by rw [hx]; exact List.take_succ_eq_append_getElem hlt
  refine Rs (A9 @t1 @t5 @t8 @t9 @t10 @e3 @ix @ld @ot) ?_
  refine WF.ce hA (hf x hmem _) fun g1 => ?_
  have bs : ∀ {N : Nat}, bslF 1 1 (fillA [.flt .f32 0] [(0, 1, .flt .f32 (g x))]) N = some (.slice N 0 1 1, .push (.cells [.flt .f32 (g x)] true true)) := fun {N} => rfl
  refine Rs (A7 @t1 @t5 @t8 @t9 @t10 @ot @bs) ?_
  refine WR.appR (B := h) (cs := ((l.take k).map g).map fltR) (z := fltR (g x)) (hfr.app _) rfl (eK.trans ⟨_, rfl⟩) (by decide) (by rw [List.length_map, List.length_map, List.length_take]; omega) ?_
  intro W5 s' x5 hff q5
  have hrow : ((l.take k).map g).map fltR ++ [fltR (g x)] = ((l.take (k + 1)).map g).map fltR := by rw [htk, List.map_append, List.map_append]; rfl
  rw [hrow] at hff
  refine Rs (A7 @t1 @t5 @t8 @t9 @t10 @q5 @e5) ?_
  exact ⟨l.length - (k + 1), by omega, k + 1, s', by omega, rfl, x5, hff, rfl, rfl⟩
theorem r82 {s : AV} {l : List (Int)} (hs : IsSl h s 1 (l.map intRow)) (hl : l.length < 2 ^ 40) {f : FuncId} {AF : AFunc} (hA : compileFn P f = some AF) {g : Int → Nat} (hf : ∀ x ∈ l, ∀ k, RCall P f [.int .i64 x] k (fun v _ => v = .flt .f32 (g x))) : RCall P 82 [s, .func (.func f) [] []] h (fun v h' => IsSl h' v 1 ((l.map g).map fltR)) := by
  obtain ⟨v, k, h1, h2⟩ := q82 T hs hl hA hf
  exact ⟨v, k, h1, h2.isSl⟩
set_option maxHeartbeats 2000000 in
theorem q89 {s : AV} {l : List (Int)} (hs : IsSl h s 1 (l.map intRow)) (hl : l.length < 2 ^ 40) {f : FuncId} {AF : AFunc} (hA : compileFn P f = some AF) {g : Int → Int} (hf : ∀ x ∈ l, ∀ k, RCall P f [.int .i64 x] k (fun v _ => v = .int .i64 (g x))) : RCall P 89 [s, .func (.func f) [] []] h (fun v h' => Fr h.length h' v 1 ((l.map g).map intRow)) := by
  refine .st2 22 T.mix T.c89 ?_;intro ts hlen t0 t1;unfold fn89
  refine Rs (A3 @t0 @t1 hs.lenm) ?_
  refine WL.inv T.mix (fun n ts K => ∃ (k : Nat) (t : AV), k ≤ l.length ∧ n = l.length - k ∧ Ext h K ∧ Fr h.length K t 1 (((l.take k).map g).map intRow) ∧ ts.length = 22 ∧ slot ts 1 = .func (.func f) [] [] ∧ slot ts 5 = t ∧ slot ts 8 = s ∧ slot ts 9 = .int .i64 l.length ∧ slot ts 10 = .int .i64 k) l.length
    ⟨0, .nilSlice, by omega, rfl, .refl _, .nil, Sn, (Sq @t1), Sw, Sw, Sw, Swr⟩ ?_
  clear hlen t0 t1
  rintro _ ts K ⟨k, t, hk, rfl, eK, hfr, hlen, t1, t5, t8, t9, t10⟩
  have hsK := hs.ext eK
  by_cases hlt : k < l.length
  case neg =>
    have e3 := dltF hlt
    have e4 : k = l.length := by omega
    rw [e4, List.take_length] at hfr
    refine Rs (A6 @t1 @t5 @t8 @t9 @t10 @e3) ?_
    exact ⟨eK, hfr⟩
  have e3 := dltT hlt
  have e5 := wrapN (n := k) (by omega)
  have ix := hsK.ixm (kk := .i64) hlt
  obtain ⟨x, hx⟩ : ∃ x, x = l[k] := ⟨_, rfl⟩
  have ld : ∀ {kk : AHeap}, Ext K kk → loadF none (elp s 1 k) (fun b => kk[b]?) = some (.int .i64 x, .keep) := fun {kk} e => by rw [hx]; exact hsK.l1m hlt rfl e
  have hmem : x ∈ l := by rw [hx]; exact List.getElem_mem _
  have ot := hfr.isSl.one
  have htk : l.take (k + 1) = l.take k ++ [x] := by rw [hx]; exact List.take_succ_eq_append_getElem hlt
  refine Rs (A9 @t1 @t5 @t8 @t9 @t10 @e3 @ix @ld @ot) ?_
  refine WF.ce hA (hf x hmem _) fun g1 => ?_
  have bs : ∀ {N : Nat}, bslF 1 1 (fillA [.int .i64 0] [(0, 1, .int .i64 (g x))]) N = some (.slice N 0 1 1, .push (.cells [.int .i64 (g x)] true true)) := fun {N} => rfl
  refine Rs (A7 @t1 @t5 @t8 @t9 @t10 @ot @bs) ?_
  refine WR.appR (B := h) (cs := ((l.take k).map g).map intRow) (z := intRow (g x)) (hfr.app _) rfl (eK.trans ⟨_, rfl⟩) (by decide) (by rw [List.length_map, List.length_map, List.length_take]; omega) ?_
  intro W5 s' x5 hff q5
  have hrow : ((l.take k).map g).map intRow ++ [intRow (g x)] = ((l.take (k + 1)).map g).map intRow := by rw [htk, List.map_append, List.map_append]; rfl
  rw [hrow] at hff
  refine Rs (A7 @t1 @t5 @t8 @t9 @t10 @q5 @e5) ?_
  exact ⟨l.length - (k + 1), by omega, k + 1, s', by omega, rfl, x5, hff, rfl, rfl⟩
theorem r89 {s : AV} {l : List (Int)} (hs : IsSl h s 1 (l.map intRow)) (hl : l.length < 2 ^ 40) {f : FuncId} {AF : AFunc} (hA : compileFn P f = some AF) {g : Int → Int} (hf : ∀ x ∈ l, ∀ k, RCall P f [.int .i64 x] k (fun v _ => v = .int .i64 (g x))) : RCall P 89 [s, .func (.func f) [] []] h (fun v h' => IsSl h' v 1 ((l.map g).map intRow)) := by
  obtain ⟨v, k, h1, h2⟩ := q89 T hs hl hA hf
  exact ⟨v, k, h1, h2.isSl⟩
end
end Go.Abs
namespace Go.Abs

/-- The error of a list of samples. -/
noncomputable def chkL (l : List Nat) : Int := if 1024 < l.length then 5 else firstS (l.map gridE)
theorem firstS_z : ∀ {l : List Int}, firstS l = 0 → ∀ x ∈ l, x = 0
  | [], _, x, h => by cases h
  | y :: l, h, x, hx => by
    rw [firstS] at h
    by_cases hy : y = 0
    · rw [if_pos hy] at h
      rcases List.mem_cons.1 hx with rfl | hx
      · exact hy
      · exact firstS_z h x hx
    · rw [if_neg hy] at h; exact absurd h hy
theorem chkL_z {l : List Nat} (h : chkL l = 0) : l.length ≤ 1024 ∧ ∀ b ∈ l, gridE b = 0 := by
  unfold chkL at h
  split at h
  · cases h
  · exact ⟨by omega, fun b hb => firstS_z h _ (List.mem_map_of_mem hb)⟩
def fitB (n : Int) : Bool := decide (-16384 ≤ n) && decide (n ≤ 16384)
theorem fitB_t {n : Int} (h : fitB n = true) : -16384 ≤ n ∧ n ≤ 16384 := by simpa [fitB] using h
def fitsB (l : List Int) : Bool := l.all fitB
set_option maxRecDepth 10000
attribute [local irreducible] WP WC WE WB WR WF WL WG WRg WQ
section
variable {P : Program} (T : Tbl P) {h : AHeap}
include T
set_option maxHeartbeats 1000000 in
theorem r79 {s : AV} {l : List Nat} (hs : IsSl h s 1 (l.map fltR)) (hl : l.length < 2 ^ 40) : RCall P 79 [s] h (fun v _ => v = .int .i64 (chkL l)) := by
  refine .st1 9 T.mix T.c79 ?_;intro ts hlen t0;unfold fn79
  by_cases h1 : 1024 < l.length
  · have d1 : decide ((1024 : Int) < (l.length : Int)) = true := decide_eq_true (by omega)
    have e : chkL l = 5 := if_pos h1
    refine Rs (A3 @t0 hs.lenm @d1) ?_
    rw [e]
  have d1 : decide ((1024 : Int) < (l.length : Int)) = false := decide_eq_false (by omega)
  have e : chkL l = firstS (l.map gridE) := if_neg h1
  refine Rs (A3 @t0 hs.lenm @d1) ?_
  refine WF.res T.c101 (r101 T (hs.ext Xx) hl T.c78 (fun x _ k => r78 T x)) ?_
  intro s2 g1 is1
  refine Rs @t0 ?_
  refine WF.ce T.c56 (r56 T is1 (by rw [List.length_map]; omega)) fun g2 => ?_
  refine Rs @t0 ?_
  rw [e]
set_option maxHeartbeats 1000000 in
theorem r103 (X : Xfl P) {s : AV} {l : List Nat} (hs : IsSl h s 1 (l.map fltR)) (hl : l.length < 2 ^ 40) : RCall P 103 [s] h (fun v _ => v = .int .i64 (firstS (l.map gridE))) := by
  refine .st1 19 T.mix T.c103 ?_;intro ts hlen t0;unfold fn103
  refine Rs @t0 ?_
  refine WL.inv T.mix (fun n ts K => ∃ k : Nat, k ≤ l.length ∧ n = l.length - k ∧ Ext h K ∧ firstS (l.map gridE) = firstS ((l.drop k).map gridE) ∧ ts.length = 19 ∧ slot ts 0 = s ∧ slot ts 3 = .int .i64 k) l.length
    ⟨0, by omega, rfl, .refl _, rfl, Sn, (Sq @t0), Swr⟩ ?_
  clear hlen t0
  rintro _ ts K ⟨k, hk, rfl, eK, hf, hlen, t0, t3⟩
  have hsK := hs.ext eK
  by_cases hlt : k < l.length
  case neg =>
    have e3 := dltF hlt
    have e4 : k = l.length := by omega
    rw [hf, e4, List.drop_length]
    refine Rs (A4 @t0 @t3 hsK.lenm @e3) ?_
    exact ⟨eK, rfl⟩
  have e3 := dltT hlt
  have e5 := wrapN (n := k) (by omega)
  have ix := hsK.ixm (kk := .i64) hlt
  have hd : l.drop k = l[k] :: l.drop (k + 1) := by simp
  rw [hd, List.map_cons, firstS] at hf
  obtain ⟨x, hx⟩ : ∃ x, x = l[k] := ⟨_, rfl⟩
  have ld : ∀ {kk : AHeap}, Ext K kk → loadF none (elp s 1 k) (fun b => kk[b]?) = some (.flt .f32 x, .keep) := fun {kk} e => by rw [hx]; exact hsK.l1m hlt rfl e
  rw [← hx] at hf
  refine Rs (A6 @t0 @t3 hsK.lenm @e3 @ix @ld) ?_
  refine WF.ce T.c105 (r105 T X x) fun g1 => ?_
  by_cases hz : gridE x = 0
  · have d6 : decide (gridE x ≠ 0) = false := decide_eq_false fun z => z hz
    rw [if_pos hz] at hf
    refine Rs (A4 @t0 @t3 @d6 @e5) ?_
    exact ⟨l.length - (k + 1), by omega, k + 1, by omega, rfl, eK.trans ⟨g1, rfl⟩, hf, rfl⟩
  · have d6 : decide (gridE x ≠ 0) = true := decide_eq_true hz
    rw [if_neg hz] at hf
    refine Rs (A3 @t0 @t3 @d6) ?_
    exact ⟨eK.trans ⟨g1, rfl⟩, by rw [hf]⟩
set_option maxHeartbeats 1000000 in
theorem r98 (X : Xfl P) {s : AV} {l : List Nat} (hs : IsSl h s 1 (l.map fltR)) (hl : l.length < 2 ^ 40) : RCall P 98 [s] h (fun v _ => v = .int .i64 (chkL l)) := by
  refine .st1 8 T.mix T.c98 ?_;intro ts hlen t0;unfold fn98
  by_cases h1 : 1024 < l.length
  · have d1 : decide ((1024 : Int) < (l.length : Int)) = true := decide_eq_true (by omega)
    have e : chkL l = 5 := if_pos h1
    refine Rs (A3 @t0 hs.lenm @d1) ?_
    rw [e]
  have d1 : decide ((1024 : Int) < (l.length : Int)) = false := decide_eq_false (by omega)
  have e : chkL l = firstS (l.map gridE) := if_neg h1
  refine Rs (A3 @t0 hs.lenm @d1) ?_
  refine WF.ce T.c103 (r103 T X (hs.ext Xx) hl) fun g1 => ?_
  refine Rs @t0 ?_
  rw [e]
set_option maxHeartbeats 1000000 in
theorem r94 {s : AV} {l : List Nat} (hs : IsSl h s 1 (l.map fltR)) : RCall P 94 [s] h (fun v _ => v = .bool (decide (l.length ≤ 32) || decide (l.length = 1025))) := by
  refine .st1 11 T.mix T.c94 ?_;intro ts hlen t0;unfold fn94
  by_cases h1 : l.length ≤ 32
  · have d1 : decide ((l.length : Int) ≤ 32) = true := decide_eq_true (by omega)
    have d2 : (decide (l.length ≤ 32) || decide (l.length = 1025)) = true := by rw [decide_eq_true h1]; rfl
    refine Rs (A3 @t0 hs.lenm @d1) ?_
    rw [d2]
  · have d1 : decide ((l.length : Int) ≤ 32) = false := decide_eq_false (by omega)
    have d2 : (decide (l.length ≤ 32) || decide (l.length = 1025)) = decide ((l.length : Int) = 1025) := by rw [decide_eq_false h1, Bool.false_or]; exact decide_eq_decide.2 (by omega)
    refine Rs (A3 @t0 hs.lenm @d1) ?_
    rw [d2]
end
end Go.Abs
namespace Go.Abs

structure Trc where
  hd : Nat → Int
  hole : Bool
  sm : List Nat
def hdR (f : Nat → Int) : List AV := [.int .i64 (f 0), .int .i64 (f 1), .int .i64 (f 2), .int .i64 (f 3), .int .i64 (f 4), .int .i64 (f 5), .int .i64 (f 6), .int .i64 (f 7)]
def trRow (x : Trc × AV) : List AV := [.int .i64 (x.1.hd 0), .int .i64 (x.1.hd 1), .int .i64 (x.1.hd 2), .int .i64 (x.1.hd 3), .int .i64 (x.1.hd 4), .int .i64 (x.1.hd 5), .int .i64 (x.1.hd 6), .int .i64 (x.1.hd 7), .bool x.1.hole, x.2]
/-- The least and the greatest integers of a header. -/
def hdLo (i : Nat) : Int := if i < 4 then -100000 else if i = 4 then 0 else -999999999
def hdHi (i : Nat) : Int := if i < 4 then 100000 else if i = 4 then 100000 else 999999999
def hdE (f : Nat → Int) : Int := firstS [rangeS (f 0) (-100000) 100000, rangeS (f 1) (-100000) 100000, rangeS (f 2) (-100000) 100000, rangeS (f 3) (-100000) 100000, rangeS (f 4) 0 100000, rangeS (f 5) (-999999999) 999999999, rangeS (f 6) (-999999999) 999999999, rangeS (f 7) (-999999999) 999999999]
/-- The first error of a header's integers from a place on. -/
def hdF (f : Nat → Int) : Nat → Int
  | 0 => 0
  | n + 1 => if rangeS (f (7 - n)) (hdLo (7 - n)) (hdHi (7 - n)) = 0 then hdF f n else rangeS (f (7 - n)) (hdLo (7 - n)) (hdHi (7 - n))
theorem hdF_eq (f : Nat → Int) : hdF f 8 = hdE f := by
  simp only [hdE, firstS, hdF, hdLo, hdHi]
  simp
theorem hdF_at {f : Nat → Int} {k : Nat} (hk : k < 8) : hdF f (8 - k) = if rangeS (f k) (hdLo k) (hdHi k) = 0 then hdF f (8 - (k + 1)) else rangeS (f k) (hdLo k) (hdHi k) := by
  obtain ⟨n, hn⟩ : ∃ n, n = 7 - k := ⟨_, rfl⟩
  rw [show 8 - k = n + 1 by omega, hdF, show 7 - n = k by omega, show 8 - (k + 1) = n by omega]
noncomputable def chkTr (t : Trc) : Int := firstS [hdE t.hd, whenS (t.hole && decide (0 < t.sm.length)) 24, chkL t.sm]
/-- The width: of the first trace that is no hole. -/
def widN (L : List Trc) : Nat := match L.find? fun t => !t.hole with
  | some t => t.sm.length
  | none => 0
noncomputable def chkSh (nm : List UInt8) (L : List Trc) : Int := firstS [whenS (!nameS nm) 8, whenS (decide (L.length = 0)) 12, whenS (decide (64 < L.length)) 5, firstS (L.map chkTr), whenS (L.any fun t => !t.hole && decide (t.sm.length ≠ widN L)) 2]
/-- A list of traces in the heap. -/
structure ShOk (h : AHeap) (L : List (Trc × AV)) (s : AV) : Prop where
  sl : IsSl h s 10 (L.map trRow)
  all : ∀ x ∈ L, IsSl h x.2 1 (x.1.sm.map fltR)
theorem ShOk.ext {h k : AHeap} {L : List (Trc × AV)} {s : AV} (o : ShOk h L s) (e : Ext h k) : ShOk k L s := ⟨o.sl.ext e, fun x hx => (o.all x hx).ext e⟩
/-- Traces that are alike: headers, holes, samples by value. -/
structure TrEq (a b : Trc) : Prop where
  hd : a.hd = b.hd
  hole : a.hole = b.hole
  ga : ∀ x ∈ a.sm, gridE x = 0
  gb : ∀ x ∈ b.sm, gridE x = 0
  nn : a.sm.map gridN = b.sm.map gridN
end Go.Abs
namespace Go.Abs

def ctTr : List CT := [.int .i64, .int .i64, .int .i64, .int .i64, .int .i64, .int .i64, .int .i64, .int .i64, .bool, .sl [.flt .f32]]
theorem ty_boolX {h : AHeap} {a : AV} (x : TY h .bool a) : ∃ b : Bool, a = .bool b := by rw [TY] at x; exact x
theorem tys_tr {h : AHeap} {c : List AV} (x : TYs h ctTr c) : ∃ y : Trc × AV, c = trRow y ∧ IsSl h y.2 1 (y.1.sm.map fltR) := by
  unfold ctTr at x
  obtain ⟨a0, _, rfl, h0, x⟩ := tys_cons x
  obtain ⟨a1, _, rfl, h1, x⟩ := tys_cons x
  obtain ⟨a2, _, rfl, h2, x⟩ := tys_cons x
  obtain ⟨a3, _, rfl, h3, x⟩ := tys_cons x
  obtain ⟨a4, _, rfl, h4, x⟩ := tys_cons x
  obtain ⟨a5, _, rfl, h5, x⟩ := tys_cons x
  obtain ⟨a6, _, rfl, h6, x⟩ := tys_cons x
  obtain ⟨a7, _, rfl, h7, x⟩ := tys_cons x
  obtain ⟨a8, _, rfl, h8, x⟩ := tys_cons x
  obtain ⟨a9, _, rfl, h9, x⟩ := tys_cons x
  obtain rfl := tys_nil x
  obtain ⟨z0, rfl, _⟩ := ty_int h0
  obtain ⟨z1, rfl, _⟩ := ty_int h1
  obtain ⟨z2, rfl, _⟩ := ty_int h2
  obtain ⟨z3, rfl, _⟩ := ty_int h3
  obtain ⟨z4, rfl, _⟩ := ty_int h4
  obtain ⟨z5, rfl, _⟩ := ty_int h5
  obtain ⟨z6, rfl, _⟩ := ty_int h6
  obtain ⟨z7, rfl, _⟩ := ty_int h7
  obtain ⟨b, rfl⟩ := ty_boolX h8
  obtain ⟨S, hS, _⟩ := ty_flts h9
  exact ⟨(⟨fun n => [z0, z1, z2, z3, z4, z5, z6, z7].getD n 0, b, S⟩, a9), rfl, hS⟩
theorem tya_shot {h : AHeap} {a : AV} (x : TYa h (.agg [.str, .sl ctTr]) a) : ∃ (nm : List UInt8) (s : AV) (L : List (Trc × AV)), a = .agg [.str nm, s] ∧ ShOk h L s ∧ L.length < 2 ^ 63 := by
  obtain ⟨l, rfl, x⟩ := x
  obtain ⟨_, _, rfl, h1, x⟩ := tys_cons x
  obtain ⟨s, _, rfl, h2, x⟩ := tys_cons x
  obtain rfl := tys_nil x
  obtain ⟨nm, rfl, _⟩ := ty_str h1
  obtain ⟨cs, hs, hl, hc⟩ := ty_sl h2
  obtain ⟨L, rfl, hL⟩ := rows_of (row := trRow) (Q := fun y => IsSl h y.2 1 (y.1.sm.map fltR)) fun c hcm => tys_tr (hc c hcm)
  exact ⟨nm, s, L, rfl, ⟨hs, hL⟩, by rw [List.length_map] at hl; exact maxLen_lt hl⟩
end Go.Abs
namespace Go.Abs
def pairsL : List (Nat × AFunc) := [(4, fn4), (6, fn6), (11, fn11), (13, fn13), (18, fn18), (19, fn19), (23, fn23), (24, fn24), (25, fn25), (26, fn26), (27, fn27), (28, fn28), (32, fn32), (34, fn34), (35, fn35), (36, fn36), (38, fn38), (41, fn41), (42, fn42), (43, fn43), (44, fn44), (45, fn45), (46, fn46), (54, fn54), (56, fn56), (62, fn62), (63, fn63), (64, fn64), (65, fn65), (66, fn66), (71, fn71), (72, fn72), (73, fn73), (74, fn74), (75, fn75), (76, fn76), (77, fn77), (78, fn78), (79, fn79), (80, fn80), (81, fn81), (82, fn82), (83, fn83), (84, fn84), (91, fn91), (92, fn92), (93, fn93), (99, fn99), (100, fn100), (101, fn101)]
def allOk (P : Program) : List (Nat × AFunc) → Prop
  | [] => True
  | p :: r => compileFn P p.1 = some p.2 ∧ allOk P r
theorem allOk.mem {P : Program} : ∀ {l : List (Nat × AFunc)}, allOk P l → ∀ p ∈ l, compileFn P p.1 = some p.2
  | [], _, p, hp => by simp at hp
  | q :: r, h, p, hp => by
    rcases List.mem_cons.1 hp with rfl | hp
    · exact h.1
    · exact h.2.mem p hp
noncomputable def ofPairs : List (Nat × AFunc) → Tr AFunc
  | [] => .nil
  | p :: r => (ofPairs r).set p.1 p.2
theorem ofPairs_get : ∀ {l : List (Nat × AFunc)} {f : Nat} {A : AFunc}, (ofPairs l).get f = some A → (f, A) ∈ l
  | [], f, A, h => by simp [ofPairs, Tr.get_nil] at h
  | p :: r, f, A, h => by
    rw [ofPairs, Tr.get_set] at h
    split at h
    · rename_i hf; cases h; subst hf; exact List.mem_cons_self
    · exact List.mem_cons_of_mem _ (ofPairs_get h)
theorem pairsL_ok : allOk Go.Proofs.Tryz.prog pairsL := ⟨k4, k6, k11, k13, k18, k19, k23, k24, k25, k26, k27, k28, k32, k34, k35, k36, k38, k41, k42, k43, k44, k45, k46, k54, k56, k62, k63, k64, k65, k66, k71, k72, k73, k74, k75, k76, k77, k78, k79, k80, k81, k82, k83, k84, k91, k92, k93, k99, k100, k101, trivial⟩
set_option maxRecDepth 1000000 in
def tabL : Tr AFunc := (.node none (.node none (.node none (.node none (.node none (.node none (.node (some fn63) .nil .nil) .nil) (.node none (.node (some fn79) .nil .nil) .nil)) (.node (some fn23) (.node none (.node (some fn71) .nil .nil) .nil) .nil)) (.node (some fn11) (.node (some fn19) (.node (some fn35) .nil (.node (some fn99) .nil .nil)) (.node none (.node (some fn83) .nil .nil) .nil)) (.node (some fn27) (.node (some fn43) (.node (some fn75) .nil .nil) .nil) (.node none (.node (some fn91) .nil .nil) .nil)))) (.node none (.node none (.node none (.node none (.node (some fn65) .nil .nil) .nil) (.node none (.node (some fn81) .nil .nil) .nil)) (.node (some fn25) (.node (some fn41) (.node (some fn73) .nil .nil) .nil) .nil)) (.node (some fn13) (.node none (.node none .nil (.node (some fn101) .nil .nil)) .nil) (.node none (.node (some fn45) (.node (some fn77) .nil .nil) .nil) (.node none (.node (some fn93) .nil .nil) .nil))))) (.node none (.node (some fn4) (.node none (.node none (.node (some fn32) (.node (some fn64) .nil .nil) .nil) (.node none (.node (some fn80) .nil .nil) .nil)) (.node (some fn24) (.node none (.node (some fn72) .nil .nil) .nil) (.node (some fn56) .nil .nil))) (.node none (.node none (.node (some fn36) .nil (.node (some fn100) .nil .nil)) (.node none (.node (some fn84) .nil .nil) .nil)) (.node (some fn28) (.node (some fn44) (.node (some fn76) .nil .nil) .nil) (.node none (.node (some fn92) .nil .nil) .nil)))) (.node (some fn6) (.node none (.node (some fn18) (.node (some fn34) (.node (some fn66) .nil .nil) .nil) (.node none (.node (some fn82) .nil .nil) .nil)) (.node (some fn26) (.node (some fn42) (.node (some fn74) .nil .nil) .nil) .nil)) (.node none (.node none (.node (some fn38) .nil .nil) (.node (some fn54) .nil .nil)) (.node none (.node (some fn46) (.node (some fn78) .nil .nil) .nil) (.node (some fn62) .nil .nil))))))
set_option maxRecDepth 1000000 in
theorem tabL_eq : ofPairs pairsL = tabL := by kernel_rfl
def extE (_f : Nat) (_args : List AV) (_G : Nat → Option ABlk) (_N : Nat) : Option (AV × Eff) := none
def tabE : Tab := { fns := tabL, ext := extE }
theorem tabE_ok : TabOk Go.Proofs.Tryz.prog tabE where
  fns := fun f A h => by
    have h' : (ofPairs pairsL).get f = some A := by rw [tabL_eq]; exact h
    have h2 := pairsL_ok.mem _ (ofPairs_get h')
    exact h2
  ext := fun f args h v e he => by cases he
/-- The package-level variables that are laid. -/
def glob0 : AHeap := [.cells [.int .i64 (-100000), .int .i64 100000, .int .i64 (-100000), .int .i64 100000, .int .i64 (-100000), .int .i64 100000, .int .i64 (-100000), .int .i64 100000, .int .i64 0, .int .i64 100000, .int .i64 (-999999999), .int .i64 999999999, .int .i64 (-999999999), .int .i64 999999999, .int .i64 (-999999999), .int .i64 999999999] false false, .dead]
def isIntA : AV → Bool
  | .int _ _ => true
  | _ => false
theorem closB_ints {n : Nat} {c : List AV} {mu tl : Bool} (h : c.all isIntA = true) : closB n (.cells c mu tl) := fun i x hx => by
  have := List.all_eq_true.1 h x (List.mem_of_getElem? hx)
  cases x with
  | int k z => exact (clos_int k z).mono (Nat.zero_le _)
  | _ => cases this
set_option maxRecDepth 1000000 in
theorem awake_runs : runsTo tabE 100000000 4 [] glob0 true = true := by decide +kernel
theorem glob0_clos (b : Nat) (x : ABlk) (hb : glob0[b]? = some x) : closB glob0.length x := by
  have hx := List.mem_of_getElem? hb
  simp only [glob0, List.mem_cons, List.not_mem_nil, or_false] at hx
  rcases hx with rfl | rfl <;> first | exact closB_ints (by decide) | trivial
theorem glob0_len : glob0.length = Go.Proofs.Tryz.prog.globals.size := by kernel_rfl
/-- AWAKE, wherever it is called behind the laid variables. -/
theorem awake_ok (k : AHeap) (e : Ext glob0 k) : RCall Go.Proofs.Tryz.prog 4 [] k (fun v _ => v = .bool true) := by
  obtain ⟨g, rfl⟩ := e
  obtain ⟨g0, hs⟩ := SCall.of_run tmix tabE_ok awake_runs
  have := hs.frame (k := g) glob0_len glob0_clos ⟨fun _ => none, [], by simp, rfl⟩ (clos_bool true)
  exact ⟨_, [], by simpa using this, rfl⟩
end Go.Abs
namespace Go.Abs
open Go.ChangeShapes Go.WideShapes Go.RowKit

section
variable {H : Type} {enc : TypeId × Value → H}
theorem of_change_sh {a : Assume} {C : Checked} {os : Os} {f : FuncId} {fn : Func} {s : ChangeSpec} {conds : List PathCond} {apart fresh handsOn again : Bool} {X : World → Array Value → Prop}
    (hX : ∀ (w w' : World) (args : Array Value), w.heap = w'.heap → X w args → X w' args)
    (own : ownKnob C.prog.godebug = none) (started : os.Started) (noInit : C.prog.inits.idxOf? f = none) (hfn : C.prog.funcs[f]? = some fn)
    (witness : ∃ (w : World) (tape : Tape) (i : Input), w.os = os ∧ (w.forCall tape i).Shaped C.prog ∧ i.vars = [] ∧ Input.okWide C.prog (w.forCall tape i) .any w.heap.size f i ∧
      ((s.pre enc C.prog fn conds apart (w.forCall tape i).memory i.args ∧ X (w.forCall tape i).memory i.args) ∧ sizedMet enc C.prog fn (OpenSpec.ofChange s) apart (w.forCall tape i).memory i.args) ∧ a.holds C.prog (lone (Frame.enter C.prog f i.args .normal) [] (w.forCall tape i)))
    (contract : ∀ (W : World) (base : Nat) (args : Array Value) (ds gs : List (DataW H)) (before : List MemPlace), W.ShapedOpen C.prog →
      (∀ (j : Nat) t v, fn.params[j]? = some t → args[j]? = some v → Value.okWide C.prog W .any base t v) →
      DataW.Whole enc C.prog fn.params.toList s.vars apart W args.toList ds gs before →
      conds.all (PathCond.test C.prog ⟨fn.params.toList, ds, s.plain.varTypes C.prog, gs⟩) = true →
      (DataW.weightsEach C.prog (fn.params.toList ++ s.plain.varTypes C.prog) (ds ++ gs)).all (· ≤ reachBytes) = true → X W args →
      a.holds C.prog (lone (Frame.enter C.prog f args .normal) [] W) →
      Calls C.prog f args W fun e W' => ∃ v, e = .returned v ∧ s.post enc C.prog fn apart fresh handsOn again W args v W') :
    ReturnsInHanded a C os f .any (fun w args => (s.pre enc C.prog fn conds apart w args ∧ X w args) ∧ sizedMet enc C.prog fn (OpenSpec.ofChange s) apart w args) (s.post enc C.prog fn apart fresh handsOn again) := by
  refine returnsInHanded_of_calls own started noInit witness ?_
  intro w tape i _ hsh _ hok hpre hholds
  obtain ⟨_, _, _, fn', hfn', _, _, _, _, hval⟩ := hok
  have e : fn' = fn := Option.some.inj (hfn'.symm.trans hfn)
  subst e
  obtain ⟨⟨⟨ds, gs, before, hw, hc⟩, hx⟩, hz⟩ := hpre
  have hw' := DataW.Whole.of_heap (w' := w.forCall tape i) (by rfl) hw
  refine (contract (w.forCall tape i) w.heap.size i.args ds gs before hsh hval hw' hc (hz.weights hw) (hX _ _ _ (by rfl) hx) hholds).mono fun e W' ⟨v, he, hp⟩ => ?_
  subst he
  exact ChangeSpec.post_blind hp
end
theorem shaped_last {P : Program} {w : World} (sh : w.ShapedOpen P) (h0 : 0 < P.globals.size) (h : (((begin P (fun _ _ => 0) default).world.heap[P.globals.size - 1]?).bind Obj.row?).isSome = true) : P.globals.size ≤ w.heap.size ∧ ∃ (z : Nat) (cc : Array Value) (el : TypeId) (fz : Nat × Nat), w.heap[z]? = some (Obj.cells cc el fz) := by
  obtain ⟨x, hx⟩ := Option.isSome_iff_exists.1 h
  obtain ⟨cs, h1, _⟩ := sh.1 (P.globals.size - 1) x.1 x.2 (by omega) hx
  have := (Array.getElem?_eq_some_iff.1 h1).1
  exact ⟨by omega, _, _, _, _, h1⟩
theorem AW.globals2 {P : Program} {w : World} {laid0 laid : List (String × DataW Unit)} (hl : laidMet P laid0 w) (hsub : ∀ x ∈ laid, x ∈ laid0) (n : Nat) (hsz : P.globals.size ≤ w.heap.size) : AW P w (globE P) (globL P laid n) := by
  obtain ⟨ps, hv, _, _⟩ := hl
  have hE : ∀ (b : Nat) e, (globE P)[b]? = some e → b < P.globals.size ∧ e = ⟨b, 0, gsz P b, false⟩ := fun b e h => by
    unfold globE at h
    rw [List.getElem?_map] at h
    have hb : b < P.globals.size := by
      cases hr : (List.range P.globals.size)[b]? with
      | none => rw [hr] at h; cases h
      | some y => have := (List.getElem?_eq_some_iff.1 hr).1; simpa using this
    rw [List.getElem?_range hb] at h
    exact ⟨hb, (Option.some.inj h).symm⟩
  refine ⟨by simp [globE, globL], fun b e h => ?_, fun b e k h h' => ?_, fun g hg => ⟨⟨g, 0, gsz P g, false⟩, ?_, rfl, rfl, rfl, rfl⟩⟩
  · obtain ⟨hb, rfl⟩ := hE b e h
    exact ⟨rfl, by show b < _; omega⟩
  · obtain ⟨hb, rfl⟩ := hE b e h
    unfold globL at h'
    rw [List.getElem?_map, List.getElem?_range hb] at h'
    have h' := (Option.some.inj h').symm
    subst h'
    unfold globB
    split
    case h_2 => exact ⟨trivial, .inl rfl⟩
    rename_i x hx
    split
    case h_2 => exact ⟨trivial, .inl rfl⟩
    rename_i t ht
    split
    case h_2 => exact ⟨trivial, .inl rfl⟩
    rename_i ax has
    split
    case isFalse => exact ⟨trivial, .inl rfl⟩
    rename_i hlen
    refine ⟨?_, .inr ⟨ax, rfl⟩⟩
    obtain ⟨g, t', cs, fuel, p, b1, b2, b3, b4⟩ := laidVars_mem hv x (hsub _ (List.mem_of_find?_eq_some hx))
    have hgb : P.globalNamed x.1 = some b := by have := List.find?_some hx; simpa using this
    have e1 : g = b := Option.some.inj (b1.symm.trans hgb)
    subst e1
    have e2 : t' = t := Option.some.inj (b2.symm.trans ht)
    subst e2
    obtain ⟨el, fz, hblk⟩ := var_blk b1 b3
    obtain ⟨c1, c2⟩ := avsOf_ok (m := embOf (globE P)) n t' fuel _ _ _ _ b4 has
    have hcl : cs.size = ax.length := by have := c1.length; simpa using this
    refine ⟨cs, el, fz, hblk, ⟨by show 0 + _ ≤ _; omega, by show 0 + _ ≤ gsz P g; omega, by show cs.size = gsz P g; omega⟩, fun i x hx => ?_, ⟨fun x => absurd x Bool.false_ne_true, fun x => by rcases x with x | x <;> exact absurd x Bool.false_ne_true⟩⟩
    refine ⟨List.all_eq_true.1 c2 x (List.mem_of_getElem? hx), ?_⟩
    obtain ⟨v, hv1, hv2⟩ := c1.get hx
    refine ⟨v, ?_, hv2⟩
    show cs[0 + i]? = some v
    rw [Nat.zero_add, ← Array.getElem?_toList]; exact hv1
  · unfold globE
    rw [List.getElem?_map, List.getElem?_range hg]; rfl
end Go.Abs
namespace Go.Proofs.YtfcfelnabfaelaaGreatDoor
open Go.ChangeShapes Go.WideShapes Go.RowKit Go.Abs

theorem tc_last : (((begin Tryz.prog (fun _ _ => 0) default).world.heap[Tryz.prog.globals.size - 1]?).bind Obj.row?).isSome = true := by kernel_rfl
theorem and2 {a b : Bool} (h : a = true) (h' : b = true) : (a && b) = true := by rw [h, h']; rfl
theorem own : ownKnob Tryz.prog.godebug = none := by kernel_rfl
theorem laidOut : laidOutB Tryz.prog = true := by kernel_rfl
theorem sc_maps : mapsRowed Tryz.prog = true := by kernel_rfl
theorem sc_stops : (Tryz.prog.stops == []) = true := by kernel_rfl
theorem sc_knobs : (Tryz.prog.stopKnobs == []) = true := by kernel_rfl
theorem sc_heard : Tryz.prog.stopsHeard = true := by kernel_rfl
theorem sc_enter : Tryz.prog.mayEnter = true := by kernel_rfl
theorem sc_lifts : (Rows.topKeelGhostedRow.lifted == Tryz.prog.liftsFinal) = true := by kernel_rfl
theorem sc_make : (Tryz.prog.make == some Rows.topKeelGhostedRow.make) = true := by kernel_rfl
theorem sc_keys : (Rows.topKeelGhostedRow.plainKeys == Tryz.prog.plainKeys) = true := by kernel_rfl
theorem sc_main : Tryz.prog.mainIs = some (true, "20811e888ac8014771364c1ae681d1dfcd67913949ffd353f62130b92039258e".toList) := by kernel_rfl
theorem sc_looks : false = Tryz.prog.looks [] := by kernel_rfl
theorem sc_shaped (os : Os) (args : Array Value) : ((World.laidAll Tryz.prog os Rows.topKeelGhostedRow.laid).forCall (fun _ _ => 0) ⟨#[], args, []⟩).Shaped Tryz.prog := World.shaped_of_ZipB (by kernel_rfl) (by kernel_rfl)
theorem sc_laid (os : Os) (args : Array Value) : laidMetH Tryz.prog Rows.topKeelGhostedRow.laid ((World.laidAll Tryz.prog os Rows.topKeelGhostedRow.laid).forCall (fun _ _ => 0) ⟨#[], args, []⟩).memory := by
  rw [MakeChecks.laidMetH_plain _ _ _ (by kernel_rfl)]
  exact laidMet_laidAll _ (by kernel_rfl) (by kernel_rfl)
end Go.Proofs.YtfcfelnabfaelaaGreatDoor
namespace Go.Abs

theorem fitsB_drop {l : List Int} {k : Nat} (h : k < l.length) : fitsB (l.drop k) = (fitB l[k] && fitsB (l.drop (k + 1))) := by
  have hd : l.drop k = l[k] :: l.drop (k + 1) := by simp
  rw [hd]; rfl
/-- What a list of numbers is as samples: a slice and an error. -/
def ToldS (h : AHeap) (l : List Int) (s : AV) (e : Int) : Prop := if fitsB l = true then IsSl h s 1 ((l.map smpl).map fltR) ∧ e = 0 else s = .nilSlice ∧ e = 4
theorem fits_all {l : List Int} (h : fitsB l = true) : ∀ x ∈ l, -16384 ≤ x ∧ x ≤ 16384 := fun x hx => fitB_t (List.all_eq_true.1 h x hx)
set_option maxRecDepth 10000
attribute [local irreducible] WP WC WE WB WR WF WL WG WRg WQ
section
variable {P : Program} (T : Tbl P) {h : AHeap}
include T
set_option maxHeartbeats 1000000 in
theorem r46 (n : Int) : RCall P 46 [.int .i64 n] h (fun v _ => v = .bool (fitB n)) := by
  refine .st1 9 T.mix T.c46 ?_;intro ts hlen t0;unfold fn46
  by_cases h1 : -16384 ≤ n
  · have d1 : decide (-16384 ≤ n) = true := decide_eq_true h1
    have e : fitB n = decide (n ≤ 16384) := by rw [fitB, d1]; rfl
    refine Rs (A2 @t0 @d1) ?_
    rw [e]
  · have d1 : decide (-16384 ≤ n) = false := decide_eq_false h1
    have e : fitB n = false := by rw [fitB, d1]; rfl
    refine Rs (A2 @t0 @d1) ?_
    rw [e]
set_option maxHeartbeats 1000000 in
theorem r81 (n : Int) : RCall P 81 [.int .i64 n] h (fun v _ => v = .bool (!fitB n)) := by
  refine .st1 6 T.mix T.c81 ?_;intro ts hlen t0;unfold fn81
  refine Rs @t0 ?_
  refine WF.ce T.c46 (r46 T n) fun g1 => ?_
  exact Rs @t0 trivial
set_option maxHeartbeats 1000000 in
theorem r93 {s : AV} {l : List Int} (hs : IsSl h s 1 (l.map intRow)) (hl : l.length < 2 ^ 40) : RCall P 93 [s, .func (.func 81) [] []] h (fun v _ => ∃ n : Int, v = .int .i64 n ∧ -1 ≤ n ∧ (0 ≤ n ↔ fitsB l = false)) := by
  refine .st2 19 T.mix T.c93 ?_;intro ts hlen t0 t1;unfold fn93
  refine Rs (A3 @t0 @t1 hs.lenm) ?_
  refine WL.inv T.mix (fun n ts K => ∃ k : Nat, k ≤ l.length ∧ n = l.length - k ∧ Ext h K ∧ fitsB l = fitsB (l.drop k) ∧ ts.length = 19 ∧ slot ts 0 = s ∧ slot ts 1 = .func (.func 81) [] [] ∧ slot ts 7 = .int .i64 l.length ∧ slot ts 8 = .int .i64 k) l.length
    ⟨0, by omega, rfl, .refl _, rfl, Sn, (Sq @t0), (Sq @t1), Sw, Swr⟩ ?_
  clear hlen t0 t1
  rintro _ ts K ⟨k, hk, rfl, eK, hf, hlen, t0, t1, t7, t8⟩
  have hsK := hs.ext eK
  by_cases hlt : k < l.length
  case neg =>
    have e3 := dltF hlt
    have e4 : k = l.length := by omega
    rw [e4, List.drop_length] at hf
    refine Rs (A5 @t0 @t1 @t7 @t8 @e3) ?_
    exact ⟨eK, -1, rfl, by omega, by rw [hf]; simp [fitsB]⟩
  have e3 := dltT hlt
  have e5 := wrapN (n := k) (by omega)
  have ix := hsK.ixm (kk := .i64) hlt
  rw [fitsB_drop hlt] at hf
  obtain ⟨x, hx⟩ : ∃ x, x = l[k] := ⟨_, rfl⟩
  have ld : ∀ {kk : AHeap}, Ext K kk → loadF none (elp s 1 k) (fun b => kk[b]?) = some (.int .i64 x, .keep) := fun {kk} e => by rw [hx]; exact hsK.l1m hlt rfl e
  rw [← hx] at hf
  refine Rs (A7 @t0 @t1 @t7 @t8 @e3 @ix @ld) ?_
  refine WF.ce T.c81 (r81 T x) fun g1 => ?_
  cases hfx : fitB x with
  | true =>
    rw [hfx, Bool.true_and] at hf
    refine Rs (A6 @t0 @t1 @t7 @t8 @e5 @Bool.not_true) ?_
    exact ⟨l.length - (k + 1), by omega, k + 1, by omega, rfl, eK.trans ⟨g1, rfl⟩, hf, rfl⟩
  | false =>
    rw [hfx, Bool.false_and] at hf
    refine Rs (A6 @t0 @t1 @t7 @t8 @e5 @Bool.not_false) ?_
    exact ⟨eK.trans ⟨g1, rfl⟩, k, rfl, by omega, by rw [hf]; simp⟩
set_option maxHeartbeats 1000000 in
theorem r63 {s : AV} {l : List Int} (hs : IsSl h s 1 (l.map intRow)) (hl : l.length < 2 ^ 40) : RCall P 63 [s, .func (.func 81) [] []] h (fun v _ => v = .bool (!fitsB l)) := by
  refine .st2 9 T.mix T.c63 ?_;intro ts hlen t0 t1;unfold fn63
  refine Rs (A2 @t0 @t1) ?_
  refine WF.res T.c93 (r93 T hs hl) ?_
  rintro _ g1 ⟨n, rfl, h1, h2⟩
  have e : decide (0 ≤ n) = !fitsB l := by
    cases hf : fitsB l with
    | true => rw [hf] at h2; exact decide_eq_false fun z => by simpa using h2.1 z
    | false => exact decide_eq_true (h2.2 hf)
  exact Rs (A3 @t0 @t1 @e) trivial
set_option maxHeartbeats 1000000 in
theorem r45 {s : AV} {l : List Int} (hs : IsSl h s 1 (l.map intRow)) (hl : l.length < 2 ^ 40) : RCall P 45 [s] h (fun v h' => ∃ (t : AV) (e : Int), v = .tup [t, .int .i64 e] ∧ ToldS h' l t e) := by
  refine .st1 8 T.mix T.c45 ?_;intro ts hlen t0;unfold fn45
  refine Rs @t0 ?_
  refine WF.ce T.c63 (r63 T hs hl) fun g1 => ?_
  cases hf : fitsB l with
  | false =>
    refine Rs (A2 @t0 @Bool.not_false) ?_
    exact ⟨.nilSlice, 4, rfl, by unfold ToldS; rw [if_neg (by rw [hf]; simp)]; exact ⟨rfl, rfl⟩⟩
  | true =>
    refine Rs (A2 @t0 @Bool.not_true) ?_
    refine WF.res T.c82 (r82 T (hs.ext Xx) hl T.c83 (g := smpl) (fun x hx k => r83 T (fits_all hf x hx).1 (fits_all hf x hx).2)) ?_
    intro s2 g2 is2
    refine Rs @t0 ?_
    exact ⟨s2, 0, rfl, by unfold ToldS; rw [if_pos hf]; exact ⟨is2, rfl⟩⟩
end
end Go.Abs
namespace Go.Abs

theorem drop_eq {α : Type} [DecidableEq α] {a b : List α} {k : Nat} (ha : k < a.length) (hb : k < b.length) : decide (a.drop k = b.drop k) = (decide (a[k] = b[k]) && decide (a.drop (k + 1) = b.drop (k + 1))) := by
  have h1 : a.drop k = a[k] :: a.drop (k + 1) := by simp
  have h2 : b.drop k = b[k] :: b.drop (k + 1) := by simp
  rw [h1, h2]
  by_cases h : a[k] = b[k]
  · by_cases h' : a.drop (k + 1) = b.drop (k + 1)
    · rw [decide_eq_true h, decide_eq_true h', decide_eq_true (by rw [h, h'])]; rfl
    · rw [decide_eq_true h, decide_eq_false h', decide_eq_false (by intro z; exact h' (List.cons.inj z).2)]; rfl
  · rw [decide_eq_false h, decide_eq_false (by intro z; exact h (List.cons.inj z).1)]; rfl
/-- What a program's answer is: an error, or a list of samples. -/
def HeardS (h : AHeap) (bad : Int) (want : List Int) (t : AV) (e : Int) : Prop := if bad ≠ 0 then t = .nilSlice ∧ e = bad else ToldS h want t e
theorem smpl_all {l : List Int} (h : fitsB l = true) : (∀ b ∈ l.map smpl, gridE b = 0) ∧ (l.map smpl).map gridN = l := by
  refine ⟨fun b hb => ?_, ?_⟩
  · obtain ⟨x, hx, rfl⟩ := List.mem_map.1 hb
    exact (smpl_ok (fits_all h x hx).1 (fits_all h x hx).2).2.1
  · rw [List.map_map]
    conv => rhs; rw [← List.map_id l]
    exact List.map_congr_left fun x hx => (smpl_ok (fits_all h x hx).1 (fits_all h x hx).2).2.2
set_option maxRecDepth 10000
attribute [local irreducible] WP WC WE WB WR WF WL WG WRg WQ
section
variable {P : Program} (T : Tbl P) {h : AHeap}
include T
set_option maxHeartbeats 2000000 in
theorem r13 {s t : AV} {a b : List Nat} (hs : IsSl h s 1 (a.map fltR)) (ht : IsSl h t 1 (b.map fltR)) (hl : a.length < 2 ^ 40) (ga : ∀ x ∈ a, gridE x = 0) (gb : ∀ x ∈ b, gridE x = 0) : RCall P 13 [s, t] h (fun v _ => v = .bool (decide (a.map gridN = b.map gridN))) := by
  refine .st2 26 T.mix T.c13 ?_;intro ts hlen t0 t1;unfold fn13
  by_cases h1 : a.length = b.length
  case neg =>
    have d1 : decide ((a.length : Int) ≠ (b.length : Int)) = true := decide_eq_true (by omega)
    have e : decide (a.map gridN = b.map gridN) = false := decide_eq_false fun z => h1 (by simpa using congrArg List.length z)
    refine Rs (A5 @t0 @t1 hs.lenm ht.lenm @d1) ?_
    rw [e]
  have d1 : decide ((a.length : Int) ≠ (b.length : Int)) = false := decide_eq_false (by omega)
  refine Rs (A5 @t0 @t1 hs.lenm ht.lenm @d1) ?_
  refine WL.inv T.mix (fun n ts K => ∃ k : Nat, k ≤ a.length ∧ n = a.length - k ∧ K = h ∧ decide (a.map gridN = b.map gridN) = decide ((a.map gridN).drop k = (b.map gridN).drop k) ∧ ts.length = 26 ∧ slot ts 0 = s ∧ slot ts 1 = t ∧ slot ts 5 = .int .i64 k) a.length
    ⟨0, by omega, rfl, rfl, rfl, Sn, (Sq @t0), (Sq @t1), Swr⟩ ?_
  clear hlen t0 t1 d1
  rintro _ ts K ⟨k, hk, rfl, rfl, hf, hlen, t0, t1, t5⟩
  by_cases hlt : k < a.length
  case neg =>
    have e3 := dltF hlt
    have e4 : k = a.length := by omega
    rw [List.drop_eq_nil_of_le (by rw [List.length_map]; omega), List.drop_eq_nil_of_le (by rw [List.length_map]; omega), decide_eq_true rfl] at hf
    refine Rs (A5 @t0 @t1 @t5 hs.lenm @e3) ?_
    rw [hf]
  have e3 := dltT hlt
  have hlb : k < b.length := by omega
  have e5 := wrapN (n := k) (by omega)
  have ix := hs.ixm (kk := .i64) hlt
  have iy := ht.ixm (kk := .i64) hlb
  rw [drop_eq (by rw [List.length_map]; omega) (by rw [List.length_map]; omega), List.getElem_map, List.getElem_map] at hf
  have gx := ga a[k] (List.getElem_mem _)
  have gy := gb b[k] (List.getElem_mem _)
  obtain ⟨x, hx⟩ : ∃ x, x = a[k] := ⟨_, rfl⟩
  obtain ⟨y, hy⟩ : ∃ y, y = b[k] := ⟨_, rfl⟩
  have ld : ∀ {kk : AHeap}, Ext K kk → loadF none (elp s 1 k) (fun b => kk[b]?) = some (.flt .f32 x, .keep) := fun {kk} e => by rw [hx]; exact hs.l1m hlt rfl e
  have le : ∀ {kk : AHeap}, Ext K kk → loadF none (elp t 1 k) (fun b => kk[b]?) = some (.flt .f32 y, .keep) := fun {kk} e => by rw [hy]; exact ht.l1m hlb rfl e
  rw [← hx] at gx
  rw [← hy] at gy
  rw [← hx, ← hy] at hf
  have nq := grid_neq gx gy
  by_cases hxy : gridN x = gridN y
  · have d6 : decide (gridN x ≠ gridN y) = false := decide_eq_false fun z => z hxy
    rw [decide_eq_true hxy, Bool.true_and] at hf
    rw [d6] at nq
    refine Rs (A11 @t0 @t1 @t5 hs.lenm @e3 @ix @iy @ld @le @nq @e5) ?_
    exact ⟨a.length - (k + 1), by omega, k + 1, by omega, rfl, hf, rfl⟩
  · have d6 : decide (gridN x ≠ gridN y) = true := decide_eq_true hxy
    rw [decide_eq_false hxy, Bool.false_and] at hf
    rw [d6] at nq
    refine Rs (A10 @t0 @t1 @t5 hs.lenm @e3 @ix @iy @ld @le @nq) ?_
    rw [hf]
end
end Go.Abs
namespace Go.Abs

def atZ (l : List Int) (j : Int) : Int := if 0 ≤ j then l.getD j.toNat 0 else 0
def genL (n : Nat) (f : Nat → Int) : List Int := (List.range n).map f
theorem genL_succ (n : Nat) (f : Nat → Int) : genL (n + 1) f = genL n f ++ [f n] := by unfold genL; rw [List.range_succ, List.map_append]; rfl
theorem genL_len (n : Nat) (f : Nat → Int) : (genL n f).length = n := by simp [genL]
theorem set_zs {α : Type} {d : List α} {k n : Nat} {z x : α} (h1 : d.length = k) (h2 : k < n) : (d ++ List.replicate (n - k) z).set k x = (d ++ [x]) ++ List.replicate (n - (k + 1)) z := by
  have e : n - k = (n - (k + 1)) + 1 := by omega
  rw [e, List.replicate_succ, List.set_append_right _ _ (by omega), h1, Nat.sub_self, List.append_assoc]; rfl
theorem atZ_bd {l : List Int} (hb : ∀ x ∈ l, -16384 ≤ x ∧ x ≤ 16384) (j : Int) : -16384 ≤ atZ l j ∧ atZ l j ≤ 16384 := by
  unfold atZ
  by_cases h : 0 ≤ j
  · rw [if_pos h, List.getD_eq_getElem?_getD]
    cases hx : l[j.toNat]? with
    | none => simp
    | some y => exact hb y (List.mem_of_getElem? hx)
  · rw [if_neg h]; omega
noncomputable def chkD (l : List Nat) (d : Int) : Int := firstS [chkL l, rangeS d 1 64]
def ghostL (l : List Int) (d : Int) : List Int := genL l.length fun i => atZ l i - atZ l (i - d)
theorem atZ_at {l : List Int} {k : Nat} (h : k < l.length) : atZ l (k : Int) = l[k] := by
  unfold atZ
  rw [if_pos (by omega), Int.toNat_natCast, List.getD_eq_getElem?_getD, List.getElem?_eq_getElem h]; rfl
theorem grid_all {l : List Nat} (hg : ∀ b ∈ l, gridE b = 0) : ∀ x ∈ l.map gridN, -16384 ≤ x ∧ x ≤ 16384 := fun x hx => by
  obtain ⟨b, hb, rfl⟩ := List.mem_map.1 hx
  exact (grid_num (hg b hb)).2.2
set_option maxRecDepth 10000
attribute [local irreducible] WP WC WE WB WR WF WL WG WRg WQ
section
variable {P : Program} (T : Tbl P) {h : AHeap}
include T
set_option maxHeartbeats 1000000 in
theorem r44 {s : AV} {l : List Int} (hs : IsSl h s 1 (l.map intRow)) (hl : l.length < 2 ^ 40) (j : Int) : RCall P 44 [s, .int .i64 j] h (fun v _ => v = .int .i64 (atZ l j)) := by
  refine .st2 17 T.mix T.c44 ?_;intro ts hlen t0 t1;unfold fn44
  by_cases h1 : j < 0
  · have d1 : decide (j < 0) = true := decide_eq_true h1
    have e : atZ l j = 0 := if_neg (by omega)
    refine Rs (A3 @t0 @t1 @d1) ?_
    rw [e]
  have d1 : decide (j < 0) = false := decide_eq_false h1
  by_cases h2 : (l.length : Int) ≤ j
  · have d2 : decide ((l.length : Int) ≤ j) = true := decide_eq_true h2
    have e : atZ l j = 0 := by
      unfold atZ
      rw [if_pos (by omega), List.getD_eq_getElem?_getD, List.getElem?_eq_none (by omega)]; rfl
    refine Rs (A5 @t0 @t1 @d1 hs.lenm @d2) ?_
    rw [e]
  have d2 : decide ((l.length : Int) ≤ j) = false := decide_eq_false h2
  obtain ⟨k, rfl⟩ : ∃ k : Nat, j = k := ⟨j.toNat, by omega⟩
  have hk : k < l.length := by omega
  have ix := hs.ixm (kk := .i64) hk
  have ld : loadF none (elp s 1 k) (fun b => h[b]?) = some (.int .i64 l[k], .keep) := hs.l1m hk rfl (Ext.refl _)
  have e := atZ_at hk
  refine Rs (A7 @t0 @t1 @d1 hs.lenm @d2 @ix @ld) ?_
  rw [e]
set_option maxHeartbeats 1000000 in
theorem r41 {s : AV} {l : List Nat} (hs : IsSl h s 1 (l.map fltR)) (hl : l.length < 2 ^ 40) (d : Int) : RCall P 41 [s, .int .i64 d] h (fun v _ => v = .int .i64 (chkD l d)) := by
  refine .st2 11 T.mix T.c41 ?_;intro ts hlen t0 t1;unfold fn41
  refine Rs (A2 @t0 @t1) ?_
  refine WF.ce T.c79 (r79 T hs hl) fun g1 => ?_
  refine Rs (A2 @t0 @t1) ?_
  refine WF.ce T.c80 (r80 T _ _ _) fun g2 => ?_
  refine Rs (A2 @t0 @t1) ?_
  refine WF.ce T.c56 (r56 T (isSl_ints [_, _]) (by simp)) fun g3 => ?_
  refine Rs (A2 @t0 @t1) ?_
  rfl
end
end Go.Abs
namespace Go.Abs

set_option maxRecDepth 10000
attribute [local irreducible] WP WC WE WB WR WF WL WG WRg WQ
section
variable {P : Program} (T : Tbl P) {h : AHeap}
include T
set_option maxHeartbeats 4000000 in
theorem r11 {s : AV} {l : List Nat} (hs : IsSl h s 1 (l.map fltR)) (hl : l.length < 2 ^ 40) (d : Int) : RCall P 11 [s, .int .i64 d] h (fun v h' => ∃ (t : AV) (e : Int), v = .tup [t, .int .i64 e] ∧ HeardS h' (chkD l d) (ghostL (l.map gridN) d) t e) := by
  refine .st2 44 T.mix T.c11 ?_;intro ts hlen t0 t1;unfold fn11
  refine Rs (A2 @t0 @t1) ?_
  refine WF.ce T.c41 (r41 T hs hl d) fun g1 => ?_
  by_cases hz : chkD l d = 0
  case neg =>
    have d1 : decide (chkD l d ≠ 0) = true := decide_eq_true hz
    refine Rs (A3 @t0 @t1 @d1) ?_
    exact ⟨.nilSlice, _, rfl, by unfold HeardS; rw [if_pos hz]; exact ⟨rfl, rfl⟩⟩
  have d1 : decide (chkD l d ≠ 0) = false := decide_eq_false fun z => z hz
  obtain ⟨q1, q2⟩ := first2 hz
  obtain ⟨hl2, hg⟩ := chkL_z q1
  have hd := rangeS_z.1 q2
  refine Rs (A3 @t0 @t1 @d1) ?_
  refine WF.res T.c42 (r42 T (hs.ext Xx) hl T.c43 (g := gridN) (fun x hx k => r43 T (hg x hx))) ?_
  intro s7 g2 is7
  obtain ⟨A, hA⟩ : ∃ A, A = l.map gridN := ⟨_, rfl⟩
  have hAl : A.length = l.length := by rw [hA]; simp
  have hAb := grid_all hg
  rw [← hA] at is7 hAb ⊢
  obtain ⟨B, hB⟩ : ∃ B, B = h ++ g1 ++ g2 := ⟨_, rfl⟩
  have eB : Ext h B := by rw [hB]; exact Ext.trans ⟨g1, rfl⟩ ⟨g2, rfl⟩
  rw [← hB] at is7 ⊢
  repeat (first | simp (config := { maxSteps := 1000000 }) only [wset, hset, dset, bset, Nat.reduceAdd, Nat.reduceMul, Nat.reduceLeDiff, Nat.reduceEqDiff, pset, hlen, if_false, if_true, t0, t1, is7.lenm, mksl_ok (es := 1) (w := 8) (N0 := B.length) (n := A.length) (z := [AV.int .i64 0]) (k := .i64) (k' := .i64) (by omega) (by omega)] | simp (config := { maxSteps := 1000000 }) (disch := first | (simp only [List.length_append, List.length_cons, List.length_nil] <;> omega) | rfl | omega | fail) only [kset, wset, hset, dset, bset, Nat.reduceAdd, Nat.reduceMul, Nat.reduceLeDiff, Nat.reduceEqDiff, pset, hlen, if_false, if_true, t0, t1, is7.lenm, mksl_ok (es := 1) (w := 8) (N0 := B.length) (n := A.length) (z := [AV.int .i64 0]) (k := .i64) (k' := .i64) (by omega) (by omega)])
  have hF := Fr.zeros (N := B.length) (n := A.length) (h := B) (z := [AV.int .i64 0]) (es := 1) (Nat.le_refl _) rfl
  obtain ⟨sv, hsv⟩ : ∃ sv, sv = AV.slice B.length 0 A.length 1 := ⟨_, rfl⟩
  rw [← hsv] at hF ⊢
  have er : List.replicate A.length [AV.int .i64 0] = (List.replicate A.length (0 : Int)).map intRow := by simp [intRow]
  rw [er] at hF
  obtain ⟨f, hf⟩ : ∃ f : Nat → Int, f = fun i : Nat => atZ A i - atZ A (i - d) := ⟨_, rfl⟩
  have hG : ghostL A d = genL A.length f := by rw [hf]; rfl
  refine WL.inv T.mix (fun n ts K => ∃ (k : Nat) (G : AHeap), k ≤ A.length ∧ n = A.length - k ∧ K = B ++ G ∧ Fr B.length K sv 1 ((genL k f ++ List.replicate (A.length - k) 0).map intRow) ∧ ts.length = 44 ∧ slot ts 1 = .int .i64 d ∧ slot ts 7 = s7 ∧ slot ts 8 = sv ∧ slot ts 22 = s7 ∧ slot ts 23 = .int .i64 A.length ∧ slot ts 24 = .int .i64 k) A.length
    ⟨0, _, by omega, rfl, rfl, hF, Sn, (Sq @t1), Sw, Sw, Sw, Sw, Swr⟩ ?_
  clear hlen t0 t1
  rintro _ ts _ ⟨k, G, hk, rfl, rfl, hfr, hlen, t1, t7, t8, t22, t23, t24⟩
  have eK : Ext B (B ++ G) := ⟨G, rfl⟩
  have is7K := is7.ext eK
  by_cases hlt : k < A.length
  case neg =>
    have e3 := dltF hlt
    have e4 : k = A.length := by omega
    rw [e4, Nat.sub_self, List.replicate_zero, List.append_nil, ← hG] at hfr
    refine Rs (A7 @t1 @t7 @t8 @t22 @t23 @t24 @e3) ?_
    refine WF.res T.c45 (r45 T hfr.isSl (by rw [hG, genL_len]; omega)) ?_
    rintro _ g5 ⟨t, e, rfl, ht⟩
    refine Rs (A3 @t1 @t7 @t8) ?_
    exact ⟨eB.trans (eK.trans ⟨g5, rfl⟩), t, e, rfl, by unfold HeardS; rw [if_neg (fun z => z hz)]; exact ht⟩
  have e3 := dltT hlt
  have e5 := wrapN (n := k) (by omega)
  have ix := is7K.ixm (kk := .i64) hlt
  have bx := hAb A[k] (List.getElem_mem _)
  have ax := atZ_at hlt
  obtain ⟨x, hx⟩ : ∃ x, x = A[k] := ⟨_, rfl⟩
  have ld : ∀ {kk : AHeap}, Ext (B ++ G) kk → loadF none (elp s7 1 k) (fun b => kk[b]?) = some (.int .i64 x, .keep) := fun {kk} e => by rw [hx]; exact is7K.l1m hlt rfl e
  rw [← hx] at ax bx
  have w1 : IntKind.i64.wrap ((k : Int) - d) = (k : Int) - d := wrap_in (by omega) (by omega)
  refine Rs (A10 @t1 @t7 @t8 @t22 @t23 @t24 @e3 @ix @ld @w1) ?_
  refine WF.ce T.c44 (r44 T is7K (by omega) _) fun g3 => ?_
  have ba := atZ_bd hAb ((k : Int) - d)
  have w2 : IntKind.i64.wrap (x - atZ A ((k : Int) - d)) = x - atZ A ((k : Int) - d) := wrap_in (by omega) (by omega)
  have hfk : f k = x - atZ A ((k : Int) - d) := by rw [hf, ← ax]
  have hfr2 := hfr.app g3
  have hll : (genL k f ++ List.replicate (A.length - k) (0 : Int)).length = A.length := by rw [List.length_append, genL_len, List.length_replicate]; omega
  have ixk := hfr2.isSl.ixm (kk := .i64) (show k < _ by rw [hll]; exact hlt)
  rw [List.append_assoc] at hfr2 ⊢
  refine Rs (A8 @t1 @t7 @t8 @t22 @t23 @t24 @w2 @ixk) ?_
  refine WR.put1 (h0 := B) (off := 0) (row := intRow) (x' := f k) hfr2 (by rw [hll]; exact hlt) (by decide) rfl (by rw [hfk]; rfl) ?_
  intro g4 hl4 hF4 _
  rw [set_zs (genL_len k f) hlt, ← genL_succ] at hF4
  refine Rs (A7 @t1 @t7 @t8 @t22 @t23 @t24 @e5) ?_
  exact ⟨A.length - (k + 1), by omega, k + 1, g4, by omega, rfl, rfl, hF4, rfl⟩
end
end Go.Abs
namespace Go.Abs

def degP (l : List Int) (d : Int) : Nat → List Int
  | 0 => []
  | k + 1 => degP l d k ++ [atZ l k + atZ (degP l d k) (k - d)]
theorem degP_len (l : List Int) (d : Int) : ∀ k, (degP l d k).length = k
  | 0 => rfl
  | k + 1 => by rw [degP, List.length_append, degP_len l d k]; rfl
theorem fits_app (a b : List Int) : fitsB (a ++ b) = (fitsB a && fitsB b) := List.all_append
theorem degP_mono {l : List Int} {d : Int} {k : Nat} : ∀ {n : Nat}, k ≤ n → fitsB (degP l d n) = true → fitsB (degP l d k) = true
  | 0, h, hf => by rw [show k = 0 by omega]; exact hf
  | n + 1, h, hf => by
    by_cases hk : k = n + 1
    · rw [hk]; exact hf
    · rw [degP, fits_app, Bool.and_eq_true] at hf
      exact degP_mono (by omega) hf.1
theorem atZ_app {a b : List Int} {j : Int} (h : j < a.length) : atZ (a ++ b) j = atZ a j := by
  unfold atZ
  by_cases h0 : 0 ≤ j
  · rw [if_pos h0, if_pos h0, List.getD_eq_getElem?_getD, List.getD_eq_getElem?_getD, List.getElem?_append_left (by omega)]
  · rw [if_neg h0, if_neg h0]
theorem set_dr {a l : List Int} {k : Nat} {x : Int} (h1 : a.length = k) (h2 : k < l.length) : (a ++ l.drop k).set k x = (a ++ [x]) ++ l.drop (k + 1) := by
  have hd : l.drop k = l[k] :: l.drop (k + 1) := by simp
  rw [hd, List.set_append_right _ _ (by omega), h1, Nat.sub_self, List.append_assoc]; rfl
set_option maxRecDepth 10000
attribute [local irreducible] WP WC WE WB WR WF WL WG WRg WQ
section
variable {P : Program} (T : Tbl P) {h : AHeap}
include T
set_option maxHeartbeats 4000000 in
theorem r12 {s : AV} {l : List Nat} (hs : IsSl h s 1 (l.map fltR)) (hl : l.length < 2 ^ 40) (d : Int) : RCall P 12 [s, .int .i64 d] h (fun v h' => ∃ (t : AV) (e : Int), v = .tup [t, .int .i64 e] ∧ HeardS h' (chkD l d) (degP (l.map gridN) d l.length) t e) := by
  refine .st2 46 T.mix T.c12 ?_;intro ts hlen t0 t1;unfold fn12
  refine Rs (A2 @t0 @t1) ?_
  refine WF.ce T.c41 (r41 T hs hl d) fun g1 => ?_
  by_cases hz : chkD l d = 0
  case neg =>
    have d1 : decide (chkD l d ≠ 0) = true := decide_eq_true hz
    refine Rs (A3 @t0 @t1 @d1) ?_
    exact ⟨.nilSlice, _, rfl, by unfold HeardS; rw [if_pos hz]; exact ⟨rfl, rfl⟩⟩
  have d1 : decide (chkD l d ≠ 0) = false := decide_eq_false fun z => z hz
  obtain ⟨q1, q2⟩ := first2 hz
  obtain ⟨hl2, hg⟩ := chkL_z q1
  have hd := rangeS_z.1 q2
  refine Rs (A3 @t0 @t1 @d1) ?_
  refine WF.res T.c42 (q42 T (hs.ext Xx) hl T.c43 (g := gridN) (fun x hx k => r43 T (hg x hx))) ?_
  intro s7 g2 is7
  obtain ⟨A, hA⟩ : ∃ A, A = l.map gridN := ⟨_, rfl⟩
  have hAl : A.length = l.length := by rw [hA]; simp
  have hAb := grid_all hg
  rw [← hA] at is7 hAb ⊢
  obtain ⟨B, hB⟩ : ∃ B, B = h ++ g1 := ⟨_, rfl⟩
  have eB : Ext h B := by rw [hB]; exact ⟨g1, rfl⟩
  rw [← hB] at is7 ⊢
  rw [← hAl]
  refine Rs (A3 @t0 @t1 is7.isSl.lenm) ?_
  refine WL.inv T.mix (fun n ts K => ∃ (k : Nat) (G : AHeap), k ≤ A.length ∧ n = A.length - k ∧ K = B ++ G ∧ Fr B.length K s7 1 ((degP A d k ++ A.drop k).map intRow) ∧ fitsB (degP A d k) = true ∧ ts.length = 46 ∧ slot ts 1 = .int .i64 d ∧ slot ts 7 = s7 ∧ slot ts 19 = .int .i64 A.length ∧ slot ts 20 = .int .i64 k) A.length
    ⟨0, g2, by omega, rfl, rfl, by rw [List.drop_zero]; exact is7, rfl, Sn, (Sq @t1), Sw, Sw, Swr⟩ ?_
  clear hlen t0 t1
  rintro _ ts _ ⟨k, G, hk, rfl, rfl, hfr, hft, hlen, t1, t7, t19, t20⟩
  have eK : Ext B (B ++ G) := ⟨G, rfl⟩
  by_cases hlt : k < A.length
  case neg =>
    have e3 := dltF hlt
    have e4 : k = A.length := by omega
    rw [e4, List.drop_length, List.append_nil] at hfr
    refine Rs (A5 @t1 @t7 @t19 @t20 @e3) ?_
    refine WF.res T.c45 (r45 T hfr.isSl (by rw [degP_len]; omega)) ?_
    rintro _ g5 ⟨t, e, rfl, ht⟩
    refine Rs (A2 @t1 @t7) ?_
    exact ⟨eB.trans (eK.trans ⟨g5, rfl⟩), t, e, rfl, by unfold HeardS; rw [if_neg (fun z => z hz)]; exact ht⟩
  have e3 := dltT hlt
  have e5 := wrapN (n := k) (by omega)
  have bx := hAb A[k] (List.getElem_mem _)
  have ax := atZ_at hlt
  have hCl : (degP A d k ++ A.drop k).length = A.length := by rw [List.length_append, degP_len, List.length_drop]; omega
  have w1 : IntKind.i64.wrap ((k : Int) - d) = (k : Int) - d := wrap_in (by omega) (by omega)
  refine Rs (A6 @t1 @t7 @t19 @t20 @e3 @w1) ?_
  refine WF.ce T.c44 (r44 T hfr.isSl (by rw [hCl]; omega) _) fun g3 => ?_
  rw [atZ_app (by rw [degP_len]; omega)]
  have ba := atZ_bd (fits_all hft) ((k : Int) - d)
  obtain ⟨y, hy⟩ : ∃ y, y = atZ (degP A d k) ((k : Int) - d) := ⟨_, rfl⟩
  rw [← hy] at ba ⊢
  obtain ⟨x, hx⟩ : ∃ x, x = A[k] := ⟨_, rfl⟩
  rw [← hx] at ax bx
  have hdeg : degP A d (k + 1) = degP A d k ++ [x + y] := by rw [degP, ax, ← hy]
  have hfr2 := hfr.app g3
  have hkC : k < (degP A d k ++ A.drop k).length := by rw [hCl]; exact hlt
  have hgk : (degP A d k ++ A.drop k)[k] = x := by
    rw [List.getElem_append_right (by rw [degP_len]; omega), hx]
    simp [degP_len]
  have ixk := hfr2.isSl.ixm (kk := .i64) hkC
  have ld : ∀ {kk : AHeap}, Ext (B ++ G ++ g3) kk → loadF none (elp s7 1 k) (fun b => kk[b]?) = some (.int .i64 x, .keep) := fun {kk} e => by rw [← hgk]; exact hfr2.isSl.l1m hkC rfl e
  have w2 : IntKind.i64.wrap (x + y) = x + y := wrap_in (by omega) (by omega)
  rw [List.append_assoc] at hfr2 ld ⊢
  refine Rs (A7 @t1 @t7 @t19 @t20 @w2 @ixk @ld) ?_
  refine WR.put1 (h0 := B) (off := 0) (row := intRow) (x' := x + y) hfr2 hkC (by decide) rfl rfl ?_
  intro g4 hl4 hF4 _
  rw [set_dr (degP_len A d k) hlt, ← hdeg] at hF4
  have hCl4 : (degP A d (k + 1) ++ A.drop (k + 1)).length = A.length := by rw [List.length_append, degP_len, List.length_drop]; omega
  have hk4 : k < (degP A d (k + 1) ++ A.drop (k + 1)).length := by rw [hCl4]; exact hlt
  have hg4 : (degP A d (k + 1) ++ A.drop (k + 1))[k] = x + y := by
    rw [List.getElem_append_left (by rw [degP_len]; omega)]
    simp only [hdeg]
    rw [List.getElem_append_right (by rw [degP_len]; omega)]
    simp [degP_len]
  have ix4 := hF4.isSl.ixm (kk := .i64) hk4
  have ld4 : ∀ {kk : AHeap}, Ext (B ++ g4) kk → loadF none (elp s7 1 k) (fun b => kk[b]?) = some (.int .i64 (x + y), .keep) := fun {kk} e => by rw [← hg4]; exact hF4.isSl.l1m hk4 rfl e
  refine Rs (A6 @t1 @t7 @t19 @t20 @ix4 @ld4) ?_
  refine WF.ce T.c46 (r46 T (x + y)) fun g5 => ?_
  cases hfx : fitB (x + y) with
  | false =>
    have hfa : fitsB (degP A d A.length) = false := by
      cases hq : fitsB (degP A d A.length) with
      | false => rfl
      | true =>
        have := degP_mono (k := k + 1) (by omega) hq
        rw [hdeg, fits_app, Bool.and_eq_true] at this
        have h2 := this.2
        simp [fitsB, hfx] at h2
    refine Rs (A5 @t1 @t7 @t19 @t20 @Bool.not_false) ?_
    exact ⟨eB.trans (Ext.trans ⟨g4, rfl⟩ ⟨g5, rfl⟩), .nilSlice, 4, rfl, by unfold HeardS ToldS; rw [if_neg (fun z => z hz), if_neg (by rw [hfa]; simp)]; exact ⟨rfl, rfl⟩⟩
  | true =>
    have hF5 := hF4.app g5
    rw [List.append_assoc] at hF5 ⊢
    refine Rs (A6 @t1 @t7 @t19 @t20 @Bool.not_true @e5) ?_
    exact ⟨A.length - (k + 1), by omega, k + 1, g4 ++ g5, by omega, rfl, rfl, hF5, by rw [hdeg, fits_app, hft]; simp [fitsB, hfx], rfl⟩
end
end Go.Abs
namespace Go.Abs

def rndI (n d : Int) : Int := (2 * n + d) / (2 * d)
theorem flo_eq {a b : Int} (hb : 0 < b) : a / b = if a < 0 ∧ a.tdiv b * b ≠ a then a.tdiv b - 1 else a.tdiv b := by
  have h1 := Int.mul_tdiv_add_tmod a b
  by_cases ha : 0 ≤ a
  · rw [if_neg (by omega)]; exact (Int.tdiv_eq_ediv_of_nonneg ha).symm
  · have hm1 : -b < a.tmod b := Int.lt_tmod_of_pos a hb
    have hm2 : a.tmod b ≤ 0 := by
      have := Int.tmod_nonneg (a := -a) b (by omega)
      rw [Int.neg_tmod] at this
      omega
    rw [Int.mul_comm] at h1
    by_cases he : a.tdiv b * b = a
    · rw [if_neg (by omega)]
      conv => lhs; rw [← he]
      exact Int.mul_ediv_cancel _ (by omega)
    · rw [if_pos ⟨by omega, he⟩]
      have e : a = (b + a.tmod b) + (a.tdiv b - 1) * b := by rw [Int.sub_mul]; omega
      have hne : a.tmod b ≠ 0 := fun z => he (by omega)
      conv => lhs; rw [e]
      rw [Int.add_mul_ediv_right _ _ (by omega), Int.ediv_eq_zero_of_lt (by omega) (by omega)]
      omega
theorem flo_eq2 {a b : Int} (hb : 0 < b) : a / b = if a < a.tdiv b * b then a.tdiv b - 1 else a.tdiv b := by
  rw [flo_eq hb]
  have h1 := Int.mul_tdiv_add_tmod a b
  rw [Int.mul_comm] at h1
  by_cases ha : 0 ≤ a
  · have hm := Int.tmod_nonneg (a := a) b ha
    rw [if_neg (by omega), if_neg (by omega)]
  · have hm2 : a.tmod b ≤ 0 := by
      have := Int.tmod_nonneg (a := -a) b (by omega)
      rw [Int.neg_tmod] at this
      omega
    by_cases he : a.tdiv b * b = a
    · rw [if_neg (by omega), if_neg (by omega)]
    · rw [if_pos ⟨by omega, he⟩, if_pos (by omega)]
theorem tdiv_le_self {a b : Int} (hb : 0 < b) {M : Int} (h1 : -M ≤ a) (h2 : a ≤ M) : -M ≤ a.tdiv b ∧ a.tdiv b ≤ M ∧ -M ≤ a.tdiv b * b ∧ a.tdiv b * b ≤ M := by
  have e := Int.mul_tdiv_add_tmod a b
  rw [Int.mul_comm] at e
  have q := quo_bd (n := a) (g := b) (by omega) (B := M) ⟨h1, h2⟩
  refine ⟨q.1, q.2, ?_, ?_⟩
  · by_cases ha : 0 ≤ a
    · have := Int.mul_nonneg (Int.tdiv_nonneg ha (by omega : 0 ≤ b)) (by omega : 0 ≤ b)
      omega
    · have hm2 : a.tmod b ≤ 0 := by
        have := Int.tmod_nonneg (a := -a) b (by omega)
        rw [Int.neg_tmod] at this
        omega
      omega
  · by_cases ha : 0 ≤ a
    · have hm := Int.tmod_nonneg (a := a) b ha
      omega
    · have h3 : a.tdiv b ≤ 0 := by
        have := Int.tdiv_nonneg (a := -a) (b := b) (by omega) (by omega)
        rw [Int.neg_tdiv] at this
        omega
      have := Int.mul_nonneg (show 0 ≤ -(a.tdiv b) by omega) (show 0 ≤ b by omega)
      rw [Int.neg_mul] at this
      omega
set_option maxRecDepth 10000
attribute [local irreducible] WP WC WE WB WR WF WL WG WRg WQ
section
variable {P : Program} (T : Tbl P) {h : AHeap}
include T
end
end Go.Abs
namespace Go.Abs

set_option maxRecDepth 10000
attribute [local irreducible] WP WC WE WB WR WF WL WG WRg WQ
section
variable {P : Program} (T : Tbl P) {h : AHeap}
include T
end
end Go.Abs
namespace Go.Abs

def rngT (n : Int) : Int := rangeS n (-16) 16
def chkTp (l : List Int) : Int := if l.length = 0 then 12 else if 8 < l.length then 5 else firstS [firstS (l.map rngT), whenS (decide (l.getD 0 0 = 0)) 6]
theorem getD_0 {l : List Int} (h : 0 < l.length) : l.getD 0 0 = l[0] := by rw [List.getD_eq_getElem?_getD, List.getElem?_eq_getElem h]; rfl
structure TpOk (l : List Int) : Prop where
  l1 : 1 ≤ l.length
  l2 : l.length ≤ 8
  r : ∀ x ∈ l, -16 ≤ x ∧ x ≤ 16
  z : l.getD 0 0 ≠ 0
theorem chkTp_z {l : List Int} (h : chkTp l = 0) : TpOk l := by
  unfold chkTp at h
  split at h
  · cases h
  split at h
  · cases h
  obtain ⟨h1, h2⟩ := first2 h
  refine ⟨by omega, by omega, fun x hx => rangeS_z.1 (firstS_z h1 _ (List.mem_map_of_mem hx)), fun z => ?_⟩
  rw [decide_eq_true z] at h2; cases h2
set_option maxRecDepth 10000
attribute [local irreducible] WP WC WE WB WR WF WL WG WRg WQ
section
variable {P : Program} (T : Tbl P) {h : AHeap}
include T
set_option maxHeartbeats 1000000 in
theorem r90 (n : Int) : RCall P 90 [.int .i64 n] h (fun v _ => v = .int .i64 (rngT n)) := by
  refine .st1 5 T.mix T.c90 ?_;intro ts hlen t0;unfold fn90
  refine Rs @t0 ?_
  refine WF.ce T.c80 (r80 T _ _ _) fun g1 => ?_
  refine Rs @t0 ?_
  rfl
set_option maxHeartbeats 2000000 in
theorem r57 {s : AV} {l : List Int} (hs : IsSl h s 1 (l.map intRow)) (hl : l.length < 2 ^ 40) : RCall P 57 [s] h (fun v _ => v = .int .i64 (chkTp l)) := by
  refine .st1 27 T.mix T.c57 ?_;intro ts hlen t0;unfold fn57
  refine Rs (A2 @t0 hs.lenm) ?_
  refine WF.ce T.c84 (r84 T _ _) fun g1 => ?_
  refine Rs (A2 @t0 hs.lenm) ?_
  refine WF.ce T.c84 (r84 T _ _) fun g2 => ?_
  refine Rs @t0 ?_
  refine WF.ce T.c56 (r56 T (isSl_ints [_, _]) (by simp)) fun g3 => ?_
  rw [first_w2]
  by_cases h1 : l.length = 0
  · have d1 : decide ((l.length : Int) = 0) = true := decide_eq_true (by omega)
    have e : chkTp l = 12 := if_pos h1
    have d2 : ∀ x : Bool, (if whenS true 12 = 0 then whenS x 5 else whenS true 12) = 12 := fun _ => rfl
    have d3 : decide ((12 : Int) ≠ 0) = true := rfl
    refine Rs (A4 @t0 @d1 @d2 @d3) ?_
    rw [e]
  have d1 : decide ((l.length : Int) = 0) = false := decide_eq_false (by omega)
  by_cases h2 : 8 < l.length
  · have d2 : decide ((8 : Int) < (l.length : Int)) = true := decide_eq_true (by omega)
    have e : chkTp l = 5 := (if_neg h1).trans (if_pos h2)
    have d4 : (if whenS false 12 = 0 then whenS true 5 else whenS false 12) = 5 := rfl
    have d3 : decide ((5 : Int) ≠ 0) = true := rfl
    refine Rs (A5 @t0 @d1 @d2 @d4 @d3) ?_
    rw [e]
  have d2 : decide ((8 : Int) < (l.length : Int)) = false := decide_eq_false (by omega)
  have e : chkTp l = firstS [firstS (l.map rngT), whenS (decide (l.getD 0 0 = 0)) 6] := (if_neg h1).trans (if_neg h2)
  have d4 : (if whenS false 12 = 0 then whenS false 5 else whenS false 12) = 0 := rfl
  have d3 : decide ((0 : Int) ≠ 0) = false := rfl
  have h0 : 0 < l.length := by omega
  rw [e, getD_0 h0]
  obtain ⟨B, hB⟩ : ∃ B, B = h ++ g1 ++ g2 ++ [ABlk.cells [AV.int IntKind.i64 (whenS (decide ((l.length : Int) = 0)) 12), AV.int IntKind.i64 (whenS (decide ((8 : Int) < (l.length : Int))) 5)] true true] ++ g3 := ⟨_, rfl⟩
  have eB : Ext h B := by rw [hB]; exact Xx
  rw [← hB, d1, d2, d4]
  have hsB := hs.ext eB
  refine Rs (A2 @t0 @d3) ?_
  refine WF.res T.c89 (r89 T hsB hl T.c90 (g := rngT) (fun x _ k => r90 T x)) ?_
  intro s2 g4 is2
  refine Rs @t0 ?_
  refine WF.ce T.c56 (r56 T is2 (by rw [List.length_map]; omega)) fun g5 => ?_
  have ix := hsB.ix0 (kk := .i64) h0
  obtain ⟨x, hx⟩ : ∃ x, x = l[0] := ⟨_, rfl⟩
  have ld : ∀ {kk : AHeap}, Ext B kk → loadF none (elp s 1 0) (fun b => kk[b]?) = some (.int .i64 x, .keep) := fun {kk} e => by rw [hx]; exact hsB.l1m h0 rfl e
  rw [← hx]
  refine Rs (A3 @t0 @ix @ld) ?_
  refine WF.ce T.c84 (r84 T _ _) fun g6 => ?_
  refine Rs @t0 ?_
  refine WF.ce T.c56 (r56 T (isSl_ints [_, _]) (by simp)) fun g7 => ?_
  refine Rs @t0 ?_
  exact ⟨eB.trans Xx, trivial⟩
end
end Go.Abs
namespace Go.Abs

def apS (t A : List Int) (i σ : Int) : Nat → Int
  | 0 => 0
  | j + 1 => apS t A i σ j + atZ t j * atZ A (i + σ * j)
def apF (t A : List Int) (σ : Int) (i : Nat) : Int := apS t A i σ t.length
def apL (t A : List Int) (σ : Int) : List Int := genL A.length (apF t A σ)
theorem atZ_neg {l : List Int} {j : Int} (h : j < 0) : atZ l j = 0 := if_neg (by omega)
theorem tap_bd {t : List Int} (h : ∀ x ∈ t, -16 ≤ x ∧ x ≤ 16) (j : Int) : -16 ≤ atZ t j ∧ atZ t j ≤ 16 := by
  unfold atZ
  by_cases h0 : 0 ≤ j
  · rw [if_pos h0, List.getD_eq_getElem?_getD]
    cases hx : t[j.toNat]? with
    | none => simp
    | some y => exact h y (List.mem_of_getElem? hx)
  · rw [if_neg h0]; omega
theorem tap_prod {x y : Int} (hx : -16 ≤ x ∧ x ≤ 16) (hy : -16384 ≤ y ∧ y ≤ 16384) : -262144 ≤ x * y ∧ x * y ≤ 262144 := by
  have e : (x * y).natAbs ≤ 16 * 16384 := by
    rw [Int.natAbs_mul]
    exact Nat.mul_le_mul (by omega) (by omega)
  omega
theorem apS_bd {t A : List Int} (ht : ∀ x ∈ t, -16 ≤ x ∧ x ≤ 16) (hA : ∀ x ∈ A, -16384 ≤ x ∧ x ≤ 16384) (i σ : Int) : ∀ j : Nat, -(j * 262144 : Int) ≤ apS t A i σ j ∧ apS t A i σ j ≤ j * 262144
  | 0 => by simp [apS]
  | j + 1 => by
    have h1 := apS_bd ht hA i σ j
    have h2 := tap_prod (tap_bd ht j) (atZ_bd hA (i + σ * j))
    rw [apS]
    have e : ((j + 1 : Nat) : Int) * 262144 = j * 262144 + 262144 := by rw [Int.natCast_add, Int.add_mul]; rfl
    omega
set_option maxRecDepth 10000
attribute [local irreducible] WP WC WE WB WR WF WL WG WRg WQ
section
variable {P : Program} (T : Tbl P) {h : AHeap}
include T
end
end Go.Abs
namespace Go.Abs

def sumN (f : Nat → Int) : Nat → Int
  | 0 => 0
  | n + 1 => sumN f n + f n
theorem sumN_congr {f g : Nat → Int} : ∀ {n : Nat}, (∀ i, i < n → f i = g i) → sumN f n = sumN g n
  | 0, _ => rfl
  | n + 1, h => by rw [sumN, sumN, sumN_congr (fun i hi => h i (by omega)), h n (by omega)]
theorem sumN_zero {f : Nat → Int} {n : Nat} (h : ∀ i, i < n → f i = 0) : sumN f n = 0 := by
  rw [sumN_congr (g := fun _ => 0) h]
  induction n with
  | zero => rfl
  | succ n ih => rw [sumN, ih (fun i hi => h i (by omega))]; rfl
theorem apS_sum (t A : List Int) (i σ : Int) : ∀ j : Nat, apS t A i σ j = sumN (fun k => atZ t k * atZ A (i + σ * k)) j
  | 0 => rfl
  | j + 1 => by rw [apS, sumN, apS_sum t A i σ j]
/-- The sum of the products of two lists. -/
def dotS (A B : List Int) : Nat → Int
  | 0 => 0
  | j + 1 => dotS A B j + atZ A j * atZ B j
theorem atZ_gen {n : Nat} {f : Nat → Int} {k : Nat} (h : k < n) : atZ (genL n f) (k : Int) = f k := by
  rw [atZ_at (by rw [genL_len]; exact h)]
  simp [genL]
theorem apL_len (t A : List Int) (σ : Int) : (apL t A σ).length = A.length := genL_len _ _
/-- What was applied at any place. -/
theorem apL_at (t A : List Int) {j : Int} (h : j < A.length) : atZ (apL t A (-1)) j = sumN (fun k => atZ t k * atZ A (j - k)) t.length := by
  by_cases h0 : 0 ≤ j
  · obtain ⟨q, rfl⟩ : ∃ q : Nat, j = q := ⟨j.toNat, by omega⟩
    rw [show atZ (apL t A (-1)) q = apF t A (-1) q from atZ_gen (by omega), apF, apS_sum]
    exact sumN_congr fun k _ => by rw [show (q : Int) + -1 * k = q - k by omega]
  · rw [atZ_neg (by omega), sumN_zero fun k _ => by rw [atZ_neg (l := A) (by omega), Int.mul_zero]]
theorem list_atZ {A B : List Int} (h : A.length = B.length) (hk : ∀ k : Nat, k < A.length → atZ A k = atZ B k) : A = B := by
  refine List.ext_getElem h fun k h1 h2 => ?_
  have := hk k h1
  rwa [atZ_at h1, atZ_at h2] at this
/-- Lists added, and taken backwards. -/
def addL (A B : List Int) : List Int := genL A.length fun i => atZ A i + atZ B i
end Go.Abs
namespace Go.Abs

end Go.Abs
namespace Go.Abs

def dotI (A B : List Int) : Int := dotS A B A.length
end Go.Abs
namespace Go.Abs

theorem set_mid {a b : List Int} {k : Nat} {x y : Int} (h : a.length = k) : (a ++ [x] ++ b).set k y = a ++ [y] ++ b := by
  rw [List.append_assoc, List.append_assoc, List.set_append_right _ _ (by omega), h, Nat.sub_self]; rfl
theorem get_mid {a b : List Int} {k : Nat} {x : Int} (h : a.length = k) (hk : k < (a ++ [x] ++ b).length) : (a ++ [x] ++ b)[k] = x := by
  subst h; simp
set_option maxRecDepth 10000
attribute [local irreducible] WP WC WE WB WR WF WL WG WRg WQ
section
variable {P : Program} (T : Tbl P) {h : AHeap}
include T
set_option maxHeartbeats 4000000 in
theorem r60 {s0 s : AV} {t A : List Int} (h0 : IsSl h s0 1 (t.map intRow)) (hs : IsSl h s 1 (A.map intRow)) (ht : TpOk t) (hl : A.length ≤ 1024) (hb : ∀ x ∈ A, -16384 ≤ x ∧ x ≤ 16384) {σ : Int} (hσ : -1 ≤ σ ∧ σ ≤ 1) : RCall P 60 [s0, s, .int .i64 σ] h (fun v h' => IsSl h' v 1 ((apL t A σ).map intRow)) := by
  refine .st3 44 T.mix T.c60 ?_;intro ts hlen t0 t1 t2;unfold fn60
  have htl := ht.l2
  have hl0 : ∀ G', lenG .sl G' (AV.slice h.length 0 A.length 1) = some A.length := fun _ => rfl
  repeat (first | simp (config := { maxSteps := 1000000 }) only [wset, hset, dset, bset, Nat.reduceAdd, Nat.reduceMul, Nat.reduceLeDiff, Nat.reduceEqDiff, pset, hlen, if_false, if_true, t0, t1, t2, hs.lenm, hl0, mksl_ok (es := 1) (w := 8) (N0 := h.length) (n := A.length) (z := [AV.int .i64 0]) (k := .i64) (k' := .i64) (by omega) (by omega)] | simp (config := { maxSteps := 1000000 }) (disch := first | (simp only [List.length_append, List.length_cons, List.length_nil] <;> omega) | rfl | omega | fail) only [kset, wset, hset, dset, bset, Nat.reduceAdd, Nat.reduceMul, Nat.reduceLeDiff, Nat.reduceEqDiff, pset, hlen, if_false, if_true, t0, t1, t2, hs.lenm, hl0, mksl_ok (es := 1) (w := 8) (N0 := h.length) (n := A.length) (z := [AV.int .i64 0]) (k := .i64) (k' := .i64) (by omega) (by omega)])
  have hF := Fr.zeros (N := h.length) (n := A.length) (h := h) (z := [AV.int .i64 0]) (es := 1) (Nat.le_refl _) rfl
  obtain ⟨sv, hsv⟩ : ∃ sv, sv = AV.slice h.length 0 A.length 1 := ⟨_, rfl⟩
  rw [← hsv] at hF ⊢
  have er : List.replicate A.length [AV.int .i64 0] = (List.replicate A.length (0 : Int)).map intRow := by simp [intRow]
  rw [er] at hF
  obtain ⟨f, hf⟩ : ∃ f : Nat → Int, f = apF t A σ := ⟨_, rfl⟩
  have hG : apL t A σ = genL A.length f := by rw [hf]; rfl
  refine WL.inv T.mix (fun n ts K => ∃ (k : Nat) (G : AHeap), k ≤ A.length ∧ n = A.length - k ∧ K = h ++ G ∧ Fr h.length K sv 1 ((genL k f ++ List.replicate (A.length - k) 0).map intRow) ∧ ts.length = 44 ∧ slot ts 0 = s0 ∧ slot ts 1 = s ∧ slot ts 2 = .int .i64 σ ∧ slot ts 7 = sv ∧ slot ts 15 = .int .i64 A.length ∧ slot ts 16 = .int .i64 k) A.length
    ⟨0, _, by omega, rfl, rfl, hF, Sn, (Sq @t0), (Sq @t1), (Sq @t2), Sw, Sw, Swr⟩ ?_
  clear hlen t0 t1 t2
  rintro _ ts _ ⟨k, G, hk, rfl, rfl, hfr, hlen, t0, t1, t2, t7, t15, t16⟩
  have eK : Ext h (h ++ G) := ⟨G, rfl⟩
  by_cases hlt : k < A.length
  case neg =>
    have e3 := dltF hlt
    have e4 : k = A.length := by omega
    rw [e4, Nat.sub_self, List.replicate_zero, List.append_nil, ← hG] at hfr
    refine Rs (A7 @t0 @t1 @t2 @t7 @t15 @t16 @e3) ?_
    exact hfr.isSl
  have e3 := dltT hlt
  have e5 := wrapN (n := k) (by omega)
  repeat (first | simp (config := { maxSteps := 1000000 }) only [wset, hset, dset, bset, Nat.reduceAdd, Nat.reduceMul, Nat.reduceLeDiff, Nat.reduceEqDiff, pset, hlen, if_false, if_true, t0, t1, t2, t7, t15, t16, e3, (h0.ext eK).lenm] | simp (config := { maxSteps := 1000000 }) (disch := first | (simp only [List.length_append, List.length_cons, List.length_nil] <;> omega) | rfl | omega | fail) only [kset, wset, hset, dset, bset, Nat.reduceAdd, Nat.reduceMul, Nat.reduceLeDiff, Nat.reduceEqDiff, pset, hlen, if_false, if_true, t0, t1, t2, t7, t15, t16, e3, (h0.ext eK).lenm])
  have hst : (genL k f ++ List.replicate (A.length - k) (0 : Int)) = genL k f ++ [apS t A k σ 0] ++ List.replicate (A.length - (k + 1)) 0 := by
    rw [show A.length - k = (A.length - (k + 1)) + 1 by omega, List.replicate_succ, List.append_assoc]; rfl
  rw [hst] at hfr
  refine WL.inv T.mix (fun n ts' K' => ∃ (j : Nat) (G' : AHeap), j ≤ t.length ∧ n = t.length - j ∧ K' = h ++ G' ∧ Fr h.length K' sv 1 ((genL k f ++ [apS t A k σ j] ++ List.replicate (A.length - (k + 1)) 0).map intRow) ∧ ts'.length = 44 ∧ slot ts' 0 = s0 ∧ slot ts' 1 = s ∧ slot ts' 2 = .int .i64 σ ∧ slot ts' 7 = sv ∧ slot ts' 8 = .int .i64 k ∧ slot ts' 15 = .int .i64 A.length ∧ slot ts' 16 = .int .i64 k ∧ slot ts' 19 = s0 ∧ slot ts' 20 = .int .i64 t.length ∧ slot ts' 21 = .int .i64 j) t.length
    ⟨0, G, by omega, rfl, rfl, hfr, Sn, (Sq @t0), (Sq @t1), (Sq @t2), (Sq @t7), Sw, (Sq @t15), (Sq @t16), Sw, Sw, Swr⟩ ?_
  clear hlen t0 t1 t2 t7 t15 t16 hfr eK
  rintro _ ts' _ ⟨j, G', hj, rfl, rfl, hfr, hlen, t0, t1, t2, t7, t8, t15, t16, t19, t20, t21⟩
  have eK : Ext h (h ++ G') := ⟨G', rfl⟩
  by_cases hjt : j < t.length
  case neg =>
    have e6 : decide ((j : Int) < (t.length : Int)) = false := decide_eq_false (by omega)
    have hfk : apS t A k σ j = f k := by rw [hf, apF, show t.length = j by omega]
    rw [hfk, ← genL_succ] at hfr
    refine Rs (A12 @t0 @t1 @t2 @t7 @t8 @t15 @t16 @t19 @t20 @t21 @e6 @e5) ?_
    exact ⟨A.length - (k + 1), by omega, k + 1, G', by omega, rfl, rfl, hfr, rfl⟩
  have e6 : decide ((j : Int) < (t.length : Int)) = true := decide_eq_true (by omega)
  have hAK := hs.ext eK
  have hTK := h0.ext eK
  have cb := apS_bd ht.r hb k σ j
  have ij := hTK.ixm (kk := .i64) hjt
  have aj := atZ_at hjt
  have bj := ht.r t[j] (List.getElem_mem _)
  obtain ⟨x, hx⟩ : ∃ x, x = t[j] := ⟨_, rfl⟩
  have lj : ∀ {kk : AHeap}, Ext (h ++ G') kk → loadF none (elp s0 1 j) (fun b => kk[b]?) = some (.int .i64 x, .keep) := fun {kk} e => by rw [hx]; exact hTK.l1m hjt rfl e
  rw [← hx] at aj bj
  have hCl : (genL k f ++ [apS t A k σ j] ++ List.replicate (A.length - (k + 1)) (0 : Int)).length = A.length := by simp [genL_len]; omega
  have hkC : k < (genL k f ++ [apS t A k σ j] ++ List.replicate (A.length - (k + 1)) (0 : Int)).length := by rw [hCl]; exact hlt
  have hgk := get_mid (b := List.replicate (A.length - (k + 1)) (0 : Int)) (x := apS t A k σ j) (genL_len k f) hkC
  have ixk := hfr.isSl.ixm (kk := .i64) hkC
  have ld : ∀ {kk : AHeap}, Ext (h ++ G') kk → loadF none (elp sv 1 k) (fun b => kk[b]?) = some (.int .i64 (apS t A k σ j), .keep) := fun {kk} e => by rw [← hgk]; exact hfr.isSl.l1m hkC rfl e
  have hσj : -8 ≤ σ * (j : Int) ∧ σ * (j : Int) ≤ 8 := by
    rcases (show σ = -1 ∨ σ = 0 ∨ σ = 1 by omega) with rfl | rfl | rfl <;> omega
  have w1 : IntKind.i64.wrap (σ * (j : Int)) = σ * (j : Int) := wrap_in (by omega) (by omega)
  have w2 : IntKind.i64.wrap ((k : Int) + σ * (j : Int)) = (k : Int) + σ * (j : Int) := wrap_in (by omega) (by omega)
  have w5 := wrapN (n := j) (by omega)
  refine Rs (A17 @t0 @t1 @t2 @t7 @t8 @t15 @t16 @t19 @t20 @t21 @e6 @ij @lj @ixk @ld @w1 @w2) ?_
  refine WF.ce T.c44 (r44 T hAK (by omega) _) fun g3 => ?_
  have pb := tap_prod bj (atZ_bd hb ((k : Int) + σ * (j : Int)))
  have w3 : IntKind.i64.wrap (x * atZ A ((k : Int) + σ * (j : Int))) = x * atZ A ((k : Int) + σ * (j : Int)) := wrap_in (by omega) (by omega)
  have w4 : IntKind.i64.wrap (apS t A k σ j + x * atZ A ((k : Int) + σ * (j : Int))) = apS t A k σ (j + 1) := by
    rw [apS, aj, wrap_in (by omega) (by omega)]
  have hfr2 := hfr.app g3
  have ixk2 := hfr2.isSl.ixm (kk := .i64) hkC
  rw [List.append_assoc] at hfr2 ⊢
  refine Rs (A13 @t0 @t1 @t2 @t7 @t8 @t15 @t16 @t19 @t20 @t21 @w3 @w4 @ixk2) ?_
  refine WR.put1 (h0 := h) (off := 0) (row := intRow) (x' := apS t A k σ (j + 1)) hfr2 hkC (by decide) rfl rfl ?_
  intro g4 hl4 hF4 _
  rw [set_mid (genL_len k f)] at hF4
  refine Rs (A11 @t0 @t1 @t2 @t7 @t8 @t15 @t16 @t19 @t20 @t21 @w5) ?_
  exact ⟨t.length - (j + 1), by omega, j + 1, g4, by omega, rfl, rfl, hF4, rfl⟩
end
end Go.Abs
namespace Go.Abs

set_option maxRecDepth 10000
attribute [local irreducible] WP WC WE WB WR WF WL WG WRg WQ
section
variable {P : Program} (T : Tbl P) {h : AHeap}
include T
end
end Go.Abs
namespace Go.Abs

set_option maxRecDepth 10000
attribute [local irreducible] WP WC WE WB WR WF WL WG WRg WQ
section
variable {P : Program} (T : Tbl P) {h : AHeap}
include T
end
end Go.Abs
namespace Go.Abs

set_option maxRecDepth 10000
attribute [local irreducible] WP WC WE WB WR WF WL WG WRg WQ
section
variable {P : Program} (T : Tbl P) {h : AHeap}
include T
end
end Go.Abs
namespace Go.Abs

set_option maxRecDepth 10000
attribute [local irreducible] WP WC WE WB WR WF WL WG WRg WQ
section
variable {P : Program} (T : Tbl P) {h : AHeap}
include T
end
end Go.Abs
namespace Go.Abs

set_option maxRecDepth 10000
attribute [local irreducible] WP WC WE WB WR WF WL WG WRg WQ
section
variable {P : Program} (T : Tbl P) {h : AHeap}
include T
end
end Go.Abs
namespace Go.Abs

theorem ext_setG {h K : AHeap} {b : Nat} {X : ABlk} (e : Ext h K) (hb : h.length ≤ b) : Ext h (K.set b X) := by
  obtain ⟨z, rfl⟩ := e
  rw [List.set_append_right _ _ hb]; exact ⟨_, rfl⟩
set_option maxRecDepth 10000
attribute [local irreducible] WP WC WE WB WR WF WL WG WRg WQ
section
variable {P : Program} (T : Tbl P) {h : AHeap}
include T
end
end Go.Abs
namespace Go.Abs

set_option maxRecDepth 10000
attribute [local irreducible] WP WC WE WB WR WF WL WG WRg WQ
section
variable {P : Program} (T : Tbl P) {h : AHeap}
include T
end
end Go.Abs
namespace Go.Abs

set_option maxRecDepth 10000
attribute [local irreducible] WP WC WE WB WR WF WL WG WRg WQ
section
variable {P : Program} (T : Tbl P) {h : AHeap}
include T
end
end Go.Abs
namespace Go.Abs

theorem atZ_bd' {l : List Int} {M : Int} (hM : 0 ≤ M) (hb : ∀ x ∈ l, -M ≤ x ∧ x ≤ M) (j : Int) : -M ≤ atZ l j ∧ atZ l j ≤ M := by
  unfold atZ
  by_cases h : 0 ≤ j
  · rw [if_pos h, List.getD_eq_getElem?_getD]
    cases hx : l[j.toNat]? with
    | none => simp; omega
    | some y => exact hb y (List.mem_of_getElem? hx)
  · rw [if_neg h]; omega
theorem prod_bd' {x y : Int} (hx : -32768 ≤ x ∧ x ≤ 32768) (hy : -32768 ≤ y ∧ y ≤ 32768) : -1073741824 ≤ x * y ∧ x * y ≤ 1073741824 := by
  have e : (x * y).natAbs ≤ 32768 * 32768 := by
    rw [Int.natAbs_mul]
    exact Nat.mul_le_mul (by omega) (by omega)
  omega
theorem dotS_bd {A B : List Int} (hA : ∀ x ∈ A, -32768 ≤ x ∧ x ≤ 32768) (hB : ∀ x ∈ B, -32768 ≤ x ∧ x ≤ 32768) : ∀ j : Nat, -(j * 1073741824 : Int) ≤ dotS A B j ∧ dotS A B j ≤ j * 1073741824
  | 0 => by simp [dotS]
  | j + 1 => by
    have h1 := dotS_bd hA hB j
    have h2 := prod_bd' (atZ_bd' (by omega) hA j) (atZ_bd' (by omega) hB j)
    rw [dotS]
    have e : ((j + 1 : Nat) : Int) * 1073741824 = j * 1073741824 + 1073741824 := by rw [Int.natCast_add, Int.add_mul]; rfl
    omega
noncomputable def chkP (l m : List Nat) : Int := firstS [chkL l, chkL m, whenS (decide ((l.length : Int) ≠ (m.length : Int))) 2]
theorem first3 {a b c : Int} (h : firstS [a, b, c] = 0) : a = 0 ∧ b = 0 ∧ c = 0 := by
  by_cases ha : a = 0
  · subst ha
    rw [firstS, if_pos rfl] at h
    obtain ⟨h1, h2⟩ := first2 h
    exact ⟨rfl, h1, h2⟩
  · rw [firstS, if_neg ha] at h; exact absurd h ha
theorem chkP_z {l m : List Nat} (h : chkP l m = 0) : (l.length ≤ 1024 ∧ ∀ b ∈ l, gridE b = 0) ∧ (∀ b ∈ m, gridE b = 0) ∧ l.length = m.length := by
  obtain ⟨h1, h2, h3⟩ := first3 h
  refine ⟨chkL_z h1, (chkL_z h2).2, ?_⟩
  by_cases he : l.length = m.length
  · exact he
  · rw [decide_eq_true (by omega)] at h3; cases h3
theorem wide {l : List Int} (h : ∀ x ∈ l, -16384 ≤ x ∧ x ≤ 16384) : ∀ x ∈ l, -32768 ≤ x ∧ x ≤ 32768 := fun x hx => by have := h x hx; omega
set_option maxRecDepth 10000
attribute [local irreducible] WP WC WE WB WR WF WL WG WRg WQ
section
variable {P : Program} (T : Tbl P) {h : AHeap}
include T
set_option maxHeartbeats 2000000 in
theorem r85 {s t : AV} {A B : List Int} (hs : IsSl h s 1 (A.map intRow)) (ht : IsSl h t 1 (B.map intRow)) (he : A.length = B.length) (hl : A.length ≤ 1024) (hA : ∀ x ∈ A, -32768 ≤ x ∧ x ≤ 32768) (hB : ∀ x ∈ B, -32768 ≤ x ∧ x ≤ 32768) : RCall P 85 [s, t] h (fun v _ => v = .int .i64 (dotI A B)) := by
  refine .st2 25 T.mix T.c85 ?_;intro ts hlen t0 t1;unfold fn85
  refine Rs (A3 @t0 @t1 hs.lenm) ?_
  refine WL.inv T.mix (fun n ts K => ∃ k : Nat, k ≤ A.length ∧ n = A.length - k ∧ K = h ∧ ts.length = 25 ∧ slot ts 1 = t ∧ slot ts 5 = .int .i64 (dotS A B k) ∧ slot ts 8 = s ∧ slot ts 9 = .int .i64 A.length ∧ slot ts 10 = .int .i64 k) A.length
    ⟨0, by omega, rfl, rfl, Sn, (Sq @t1), Swr, Sw, Sw, Swr⟩ ?_
  clear hlen t0 t1
  rintro _ ts K ⟨k, hk, rfl, rfl, hlen, t1, t5, t8, t9, t10⟩
  by_cases hlt : k < A.length
  case neg =>
    have e3 := dltF hlt
    have e4 : k = A.length := by omega
    rw [e4] at t5
    refine Rs (A6 @t1 @t5 @t8 @t9 @t10 @e3) ?_
    rfl
  have e3 := dltT hlt
  have e5 := wrapN (n := k) (by omega)
  have hlb : k < B.length := by omega
  have ix := hs.ixm (kk := .i64) hlt
  have iy := ht.ixm (kk := .i64) hlb
  have ax := atZ_at hlt
  have ay := atZ_at hlb
  have bx := hA A[k] (List.getElem_mem _)
  have by' := hB B[k] (List.getElem_mem _)
  have db := dotS_bd hA hB k
  obtain ⟨x, hx⟩ : ∃ x, x = A[k] := ⟨_, rfl⟩
  obtain ⟨y, hy⟩ : ∃ y, y = B[k] := ⟨_, rfl⟩
  have ld : ∀ {kk : AHeap}, Ext K kk → loadF none (elp s 1 k) (fun b => kk[b]?) = some (.int .i64 x, .keep) := fun {kk} e => by rw [hx]; exact hs.l1m hlt rfl e
  have le : ∀ {kk : AHeap}, Ext K kk → loadF none (elp t 1 k) (fun b => kk[b]?) = some (.int .i64 y, .keep) := fun {kk} e => by rw [hy]; exact ht.l1m hlb rfl e
  rw [← hx] at ax bx
  rw [← hy] at ay by'
  have pb := prod_bd' bx by'
  have w3 : IntKind.i64.wrap (x * y) = x * y := wrap_in (by omega) (by omega)
  have w4 : IntKind.i64.wrap (dotS A B k + x * y) = dotS A B (k + 1) := by rw [dotS, ax, ay, wrap_in (by omega) (by omega)]
  refine Rs (A13 @t1 @t5 @t8 @t9 @t10 @e3 @ix @ld @iy @le @w3 @w4 @e5) ?_
  exact ⟨A.length - (k + 1), by omega, k + 1, by omega, rfl, rfl, rfl⟩
set_option maxHeartbeats 1000000 in
theorem r48 {s : AV} {A : List Int} (hs : IsSl h s 1 (A.map intRow)) (hl : A.length ≤ 1024) (hA : ∀ x ∈ A, -32768 ≤ x ∧ x ≤ 32768) : RCall P 48 [s] h (fun v _ => v = .int .i64 (dotI A A)) := by
  refine .st1 6 T.mix T.c48 ?_;intro ts hlen t0;unfold fn48
  refine Rs @t0 ?_
  refine WF.ce T.c85 (r85 T hs hs rfl hl hA hA) fun g1 => ?_
  exact Rs @t0 trivial
set_option maxHeartbeats 1000000 in
theorem r47 {s t : AV} {l m : List Nat} (hs : IsSl h s 1 (l.map fltR)) (ht : IsSl h t 1 (m.map fltR)) (hl : l.length < 2 ^ 40) (hm : m.length < 2 ^ 40) : RCall P 47 [s, t] h (fun v _ => v = .int .i64 (chkP l m)) := by
  refine .st2 17 T.mix T.c47 ?_;intro ts hlen t0 t1;unfold fn47
  refine Rs (A2 @t0 @t1) ?_
  refine WF.ce T.c79 (r79 T hs hl) fun g1 => ?_
  refine Rs (A2 @t0 @t1) ?_
  refine WF.ce T.c79 (r79 T (ht.ext Xx) hm) fun g2 => ?_
  refine Rs (A4 @t0 @t1 hs.lenm ht.lenm) ?_
  refine WF.ce T.c84 (r84 T _ _) fun g3 => ?_
  refine Rs (A2 @t0 @t1) ?_
  refine WF.ce T.c56 (r56 T (isSl_ints [_, _, _]) (by simp)) fun g4 => ?_
  refine Rs (A2 @t0 @t1) ?_
  rfl
end
end Go.Abs
namespace Go.Abs

theorem sumN_first (f : Nat → Int) : ∀ n : Nat, sumN f (n + 1) = f 0 + sumN (fun q => f (q + 1)) n
  | 0 => by simp [sumN]
  | n + 1 => by rw [sumN, sumN_first f n, sumN]; omega
theorem degP_pre {l : List Int} {d : Int} {k : Nat} {j : Int} (hj : j < k) : ∀ {n : Nat}, k ≤ n → atZ (degP l d n) j = atZ (degP l d k) j
  | 0, h => by rw [show k = 0 by omega]
  | n + 1, h => by
    by_cases e : k = n + 1
    · rw [e]
    · rw [degP, atZ_app (by rw [degP_len]; omega), degP_pre hj (show k ≤ n by omega)]
theorem degP_at {l : List Int} {d : Int} (hd : 1 ≤ d) {k n : Nat} (h : k < n) : atZ (degP l d n) k = atZ l k + atZ (degP l d n) (k - d) := by
  rw [degP_pre (k := k + 1) (by omega) (show k + 1 ≤ n by omega), atZ_at (by rw [degP_len]; omega), degP_pre (n := n) (k := k) (j := k - d) (by omega) (by omega)]
  simp only [degP]
  rw [List.getElem_append_right (by rw [degP_len]; omega)]
  simp [degP_len]
theorem ghostL_len (l : List Int) (d : Int) : (ghostL l d).length = l.length := genL_len _ _
theorem ghostL_at {l : List Int} {d : Int} {k : Nat} (h : k < l.length) : atZ (ghostL l d) k = atZ l k - atZ l (k - d) := atZ_gen h
/-- A GHOST, DEGHOSTED. -/
theorem deg_ghost {l : List Int} {d : Int} (hd : 1 ≤ d) : degP (ghostL l d) d l.length = l := by
  have key : ∀ k : Nat, k < l.length → ∀ q : Nat, q ≤ k → atZ (degP (ghostL l d) d l.length) q = atZ l q := fun k => by
    induction k with
    | zero =>
      intro hk q hq
      rw [show q = 0 by omega, degP_at hd hk, ghostL_at hk, atZ_neg (l := l) (j := ((0 : Nat) : Int) - d) (by omega), atZ_neg (j := ((0 : Nat) : Int) - d) (by omega)]; omega
    | succ k ih =>
      intro hk q hq
      by_cases h : q ≤ k
      · exact ih (by omega) q h
      · have e : q = k + 1 := by omega
        rw [e, degP_at hd hk, ghostL_at hk]
        by_cases h0 : ((k + 1 : Nat) : Int) - d < 0
        · rw [atZ_neg h0, atZ_neg h0]; omega
        · obtain ⟨p, hp⟩ : ∃ p : Nat, (p : Int) = ((k + 1 : Nat) : Int) - d := ⟨(((k + 1 : Nat) : Int) - d).toNat, by omega⟩
          rw [← hp, ih (by omega) p (by omega)]; omega
  exact list_atZ (degP_len _ _ _) fun k hk => key k (by rwa [degP_len] at hk) k (Nat.le_refl _)
end Go.Abs
namespace Go.Abs

theorem firstS_nil0 : ∀ {l : List Int}, (∀ x ∈ l, x = 0) → firstS l = 0
  | [], _ => rfl
  | a :: l, h => by
    rw [firstS, if_pos (h a (List.mem_cons_self ..))]
    exact firstS_nil0 fun x hx => h x (List.mem_cons_of_mem _ hx)
theorem chkL_ok {l : List Nat} (h1 : l.length ≤ 1024) (h2 : ∀ b ∈ l, gridE b = 0) : chkL l = 0 := by
  unfold chkL
  have e : firstS (l.map gridE) = 0 := firstS_nil0 fun x hx => by
    obtain ⟨b, hb, rfl⟩ := List.mem_map.1 hx
    exact h2 b hb
  first
    | rw [if_neg (by omega)]; exact e
    | (split <;> first | exact e | omega)
theorem chkD_ok {l : List Nat} {d : Int} (hl : chkL l = 0) (hd : 1 ≤ d ∧ d ≤ 64) : chkD l d = 0 := by
  unfold chkD
  rw [hl, rangeS_z.2 hd]; rfl
theorem fits_of {l : List Int} (h : ∀ x ∈ l, -16384 ≤ x ∧ x ≤ 16384) : fitsB l = true := by
  unfold fitsB
  rw [List.all_eq_true]
  intro x hx
  have := h x hx
  unfold fitB
  first
    | (rw [Bool.and_eq_true]; exact ⟨decide_eq_true this.1, decide_eq_true this.2⟩)
    | simp [this.1, this.2]
    | (simp; omega)
theorem told_ok {K : AHeap} {want : List Int} {u : AV} {e : Int} (h : ToldS K want u e) (hf : fitsB want = true) : IsSl K u 1 ((want.map smpl).map fltR) ∧ e = 0 := by
  unfold ToldS at h
  rwa [if_pos hf] at h
theorem heard_ok {K : AHeap} {bad : Int} {want : List Int} {u : AV} {e : Int} (h : HeardS K bad want u e) (hz : bad = 0) (hf : fitsB want = true) : IsSl K u 1 ((want.map smpl).map fltR) ∧ e = 0 := by
  unfold HeardS at h
  rw [if_neg (fun z => z hz)] at h
  exact told_ok h hf
theorem atZ_lim {A : List Int} {B : Int} (hB : 0 ≤ B) (h : ∀ x ∈ A, -B ≤ x ∧ x ≤ B) (j : Int) : -B ≤ atZ A j ∧ atZ A j ≤ B := atZ_bd' hB h j
theorem mul_bd' {x y : Int} {X Y : Int} (h1 : -X ≤ x ∧ x ≤ X) (h2 : -Y ≤ y ∧ y ≤ Y) : -(X * Y) ≤ x * y ∧ x * y ≤ X * Y := by
  have e : (x * y).natAbs ≤ (X * Y).natAbs := by
    rw [Int.natAbs_mul, Int.natAbs_mul]
    exact Nat.mul_le_mul (by omega) (by omega)
  have p := Int.mul_nonneg (show 0 ≤ X by omega) (show 0 ≤ Y by omega)
  omega
theorem ghost_lim {A : List Int} {B : Int} (hB : 0 ≤ B) (hA : ∀ x ∈ A, -B ≤ x ∧ x ≤ B) (d : Int) : ∀ x ∈ ghostL A d, -(2 * B) ≤ x ∧ x ≤ 2 * B := fun x hx => by
  obtain ⟨i, _, rfl⟩ := List.mem_map.1 hx
  have h1 := atZ_lim hB hA i
  have h2 := atZ_lim hB hA (i - d)
  omega
set_option maxRecDepth 10000
attribute [local irreducible] WP WC WE WB WR WF WL WG WRg WQ
section
variable {P : Program} (T : Tbl P) {h : AHeap}
include T
end
end Go.Abs
namespace Go.Abs

def z4 : List AV := [.cplx .f64 0 0, .cplx .f64 0 0, .cplx .f64 0 0, .cplx .f64 0 0]
/-- Four cells stored into their box. -/
theorem st4 {L : List AV} (hl : L.length = 4) (ho : L.all AV.one = true) {b : Nat} {a0 a1 a2 a3 : AV} : stB 4 0 (.agg L) b (.cells [a0, a1, a2, a3] true false) = some (undefA, .set b (.cells L true false)) := by
  obtain ⟨x0, x1, x2, x3, rfl⟩ : ∃ x0 x1 x2 x3, L = [x0, x1, x2, x3] := by
    match L, hl with
    | [x0, x1, x2, x3], _ => exact ⟨x0, x1, x2, x3, rfl⟩
  exact (stB_agg (l := [x0, x1, x2, x3]) rfl ho (by show 0 + 4 ≤ 4; omega)).trans rfl
set_option maxRecDepth 10000
attribute [local irreducible] WP WC WE WB WR WF WL WG WRg WQ
section
variable {P : Program} (T : Tbl P) {h : AHeap}
include T
end
end Go.Abs
namespace Go.Abs

theorem Fr.swap' {N : Nat} {A B g : AHeap} {s : AV} {es : Nat} {cs : List (List AV)} (hs : Fr N (A ++ g) s es cs) (hA : A.length = N) (hB : B.length = N) : Fr N (B ++ g) s es cs := by
  subst hA; exact hs.swap hB

theorem WF.valg {P : Program} {ro : Option Nat → Prop} {ks : List Kt} {ts : TS} {h h' : AHeap} {Q : Ex → TS → AHeap → Prop} {fv : AV} {args : List AV} {d : Option Nat} {l : List IOp} {v : AV} (H : SCallV P fv args h v h') (K : WP P ro l ks (put ts d v) h' Q) : WF P ro false fv args d l ks ts h Q :=
  ⟨v, h', H, fun hq => absurd hq (by simp), K⟩

set_option maxRecDepth 10000
attribute [local irreducible] WP WC WE WB WR WF WL WG WRg WQ
section
variable {P : Program} (T : Tbl P) {h : AHeap}
include T
end
end Go.Abs
namespace Go.Abs

set_option maxRecDepth 10000
attribute [local irreducible] WP WC WE WB WR WF WL WG WRg WQ
section
variable {P : Program} (T : Tbl P) {h : AHeap}
include T
set_option maxHeartbeats 2000000 in
theorem iter_pairs {ba bb : Nat} {s t : AV} {A B : List Int} (ma : h[ba]? = some (.cells [s] true false)) (mb : h[bb]? = some (.cells [t] true false)) (hs : IsSl h s 1 (A.map intRow)) (ht : IsSl h t 1 (B.map intRow)) (he : A.length = B.length) (hl : A.length < 2 ^ 62) :
    Iter P 87 [] [.ptr ba 0, .ptr bb 0] ((A.zip B).map fun p => [.agg (ratR p)]) (Ext h) := by
  refine ⟨fun l h1 J Dn hpre happ hstep hend h0 => GCall.of T.mix T.c87 ?_⟩
  have e1 := hpre 0 h1 h0
  unfold fn87
  have hlm := fun G => hs.lenm G
  have hz : (A.zip B).length = A.length := by simp [he]
  have l0 : loadF none (.ptr ba 0) (fun z => h1[z]?) = some (s, .keep) := by rw [loadF_at (e1.some ma)]; rfl
  refine Ws (A2 @l0 @hlm) ?_
  refine WL.inv T.mix (fun n ts h' => ∃ k : Nat, k ≤ A.length ∧ n = A.length - k ∧ J k h' ∧ ts.length = 23 ∧ slot ts 0 = .func (.yield l) [] [] ∧ slot ts 2 = .ptr bb 0 ∧ slot ts 6 = s ∧ slot ts 7 = .int .i64 A.length ∧ slot ts 8 = .int .i64 k) A.length
    ⟨0, by omega, rfl, h0, rfl, rfl, rfl, rfl, rfl, rfl⟩ ?_
  rintro _ ts h' ⟨k, hk, rfl, hJ, hlen, t0, t2, t6, t7, t8⟩
  by_cases hlt : k < A.length
  · have e3 : (k : Int) < A.length := by omega
    have e2 := hpre _ _ hJ
    have hlb : k < B.length := by omega
    have l1 := hs.l1m hlt rfl e2
    have hix := hs.ixm (kk := .i64) hlt
    have l2 := ht.l1m hlb rfl e2
    have hiy := ht.ixm (kk := .i64) hlb
    have lb : loadF none (.ptr bb 0) (fun z => h'[z]?) = some (t, .keep) := by rw [loadF_at (e2.some mb)]; rfl
    have hwk := wrapN (show k + 1 < 2 ^ 63 by omega)
    have bd : buildF (fillA [.int .i64 0, .int .i64 0] [(0, 1, .int .i64 A[k]), (1, 1, .int .i64 B[k])]) = some (.agg (ratR (A[k], B[k]))) := rfl
    refine Rs (A13 @t0 @t2 @t6 @t7 @t8 @e3 @decide_true @hix @l1 @lb @hiy @l2 @bd) ?_
    obtain ⟨b', k', q1, q2⟩ := hstep k (by rw [List.length_map, hz]; exact hlt) h' hJ
    rw [List.getElem_map, List.getElem_zip] at q1
    refine WF.valg q1 ?_
    cases b' with
    | true =>
      refine Rs (A7 @t0 @t2 @t6 @t7 @t8 @Bool.not_true @hwk) ?_
      exact ⟨_, by omega, k + 1, by omega, rfl, q2, rfl⟩
    | false =>
      refine Rs (A6 @t0 @t2 @t6 @t7 @t8 @Bool.not_false) ?_
      exact q2
  · have e3 : ¬ (k : Int) < A.length := by omega
    have e4 : k = A.length := by omega
    refine Rs (A7 @t0 @t2 @t6 @t7 @t8 @e3 @decide_false) ?_
    refine hend h' ?_
    rw [List.length_map, hz, ← e4]; exact hJ
set_option maxHeartbeats 1000000 in
theorem r51 {s t : AV} {A B : List Int} (hs : IsSl h s 1 (A.map intRow)) (ht : IsSl h t 1 (B.map intRow)) : RCall P 51 [s, t] h (fun v h' => ∃ ba bb, v = .func (.func 87) [] [.ptr ba 0, .ptr bb 0] ∧ h'[ba]? = some (.cells [s] true false) ∧ h'[bb]? = some (.cells [t] true false)) := by
  refine .of T.mix T.c51 ?_
  unfold fn51
  refine Ws (A2 hs.one ht.one) ?_
  exact ⟨_, _, rfl, at_1, at_new⟩
set_option maxHeartbeats 4000000 in
theorem r86 {ba bb : Nat} {s t : AV} {A B : List Int} (ma : h[ba]? = some (.cells [s] true false)) (mb : h[bb]? = some (.cells [t] true false)) (hs : IsSl h s 1 (A.map intRow)) (ht : IsSl h t 1 (B.map intRow)) (he : A.length = B.length) (hl : A.length ≤ 2 ^ 40) :
    RCall P 86 [.nilSlice, .func (.func 87) [] [.ptr ba 0, .ptr bb 0]] h (fun v h' => Fr h.length h' v 2 ((A.zip B).map ratR)) := by
  refine .of T.mix T.c86 ?_
  unfold fn86
  refine Wn ?_
  obtain ⟨D, hD⟩ : ∃ D, D = A.zip B := ⟨_, rfl⟩
  have hDl : D.length ≤ 2 ^ 40 := by rw [hD, List.length_zip]; omega
  have hI := iter_pairs T ma mb hs ht he (by omega)
  rw [← hD] at hI ⊢
  refine WC.iter T.mix T.c87 (a := []) (c := [.ptr ba 0, .ptr bb 0]) rfl hI (fun y hy => by obtain ⟨z, _, rfl⟩ := List.mem_map.1 hy; rfl)
    (fun i h' g => ∃ out, h' = h ++ [ABlk.cells [out] true false] ∧ Fr (h'.length + 1) (h' ++ [.dead] ++ g) out 2 ((D.take i).map ratR)) (fun _ _ _ => False)
    ⟨.nilSlice, rfl, .nil⟩ (fun i h' g g' hI => ?_) (fun i h' g X hl hI => ?_) (fun i hi h' g R B hl' hI => ?_) (fun e h' g hl hI => ?_)
  · obtain ⟨out, h1, h2⟩ := hI
    exact ⟨out, h1, by rw [← List.append_assoc]; exact h2.app _⟩
  · obtain ⟨out, rfl, _⟩ := hI
    exact Xx
  · obtain ⟨out, rfl, hfr⟩ := hI
    have hi' : i < D.length := by simpa using hi
    rw [List.getElem_map]
    obtain ⟨p, hp⟩ : ∃ p, p = D[i] := ⟨_, rfl⟩
    rw [← hp]
    have st := @rat_st p.1 p.2
    have hrp : ratR p = [.int .i64 p.1, .int .i64 p.2] := rfl
    rw [hrp]
    simp only [wset, hset, dset, bset, Nat.reduceAdd, Nat.reduceMul, Nat.reduceLeDiff, Nat.reduceEqDiff, setArgs, st]
    have hN : ∀ (o' : AV) (X : ABlk), (h ++ [ABlk.cells [o'] true false] ++ [X]).length = (h ++ [ABlk.cells [out] true false]).length + 1 := fun o' X => by simp only [List.length_append, List.length_cons, List.length_nil]
    refine ⟨h ++ [ABlk.cells [out] true false], g ++ [ABlk.cells [AV.int IntKind.i64 p.1, AV.int IntKind.i64 p.2] true false], by simp only [List.append_assoc], by simp, ?_⟩
    have lp : loadF (some 2) (.ptr (List.length (h ++ [ABlk.cells [out] true false] ++ [R] ++ g)) 0) (fun b => (h ++ [ABlk.cells [out] true false] ++ [B] ++ (g ++ [ABlk.cells [AV.int IntKind.i64 p.1, AV.int IntKind.i64 p.2] true false]))[b]?) = some (.agg (ratR p), .keep) := by
      rw [show List.length (h ++ [ABlk.cells [out] true false] ++ [R] ++ g) = List.length (h ++ [ABlk.cells [out] true false] ++ [B] ++ g) by simp, ← List.append_assoc, loadF_at at_new]; rfl
    have hfrB := ((hfr.swap' (hN out .dead) (hN out B)).app [ABlk.cells [AV.int IntKind.i64 p.1, AV.int IntKind.i64 p.2] true false])
    rw [List.append_assoc (h ++ [ABlk.cells [out] true false] ++ [B])] at hfrB
    obtain ⟨G, hG⟩ : ∃ G, G = g ++ [ABlk.cells [AV.int IntKind.i64 p.1, AV.int IntKind.i64 p.2] true false] := ⟨_, rfl⟩
    rw [← hG] at lp hfrB ⊢
    obtain ⟨N5, hN5⟩ : ∃ N5, N5 = List.length (h ++ [ABlk.cells [out] true false] ++ [R] ++ g) := ⟨_, rfl⟩
    rw [← hN5] at lp ⊢
    have bs : ∀ {N : Nat}, bslF 2 1 (fillA [.int .i64 0, .int .i64 0] [(0, 2, .agg (ratR p))]) N = some (.slice N 0 1 2, .push (.cells (ratR p) true true)) := fun {N} => rfl
    refine Ws (A2 @lp @bs) ?_
    refine WR.app1 (h0 := h ++ [ABlk.cells [out] true false] ++ [B]) (cs := (D.take i).map ratR) (ys := [ratR p]) (by rw [hN]; exact hfrB.app _) (Fr.push (N := 0) (Nat.zero_le _) [ratR p] (by simp [ratR])).isSl (by decide) (by simp) (by simp; omega) (by repeat first | exact Ext.refl _ | refine Ext.app _ ?_) ?_
    intro g' hl' hff hkp
    have hrow : (D.take i).map ratR ++ [ratR p] = (D.take (i + 1)).map ratR := by
      rw [List.take_add_one, List.getElem?_eq_getElem hi', List.map_append, hp]; rfl
    rw [hrow, hN] at hff
    rw [hrow]
    refine Wn ?_
    refine ⟨_, g', rfl, by simp only [List.length_append, List.length_cons, List.length_nil], ?_⟩
    refine ⟨_, rfl, ?_⟩
    have e9 : ∀ o', (h ++ [ABlk.cells [o'] true false]).length = (h ++ [ABlk.cells [out] true false]).length := fun o' => by simp only [List.length_append, List.length_cons, List.length_nil]
    rw [e9]
    exact hff.swap' (hN out B) (hN _ .dead)
  · by_cases hen : e = .normal
    · subst hen
      rw [if_pos rfl] at hI
      obtain ⟨out, rfl, hfr⟩ := hI
      rw [List.length_map, List.take_length] at hfr
      refine Wn ?_
      exact hfr.low (by simp; omega)
    · rw [if_neg hen] at hI
      exact hI.elim
set_option maxHeartbeats 1000000 in
theorem r50 {ba bb : Nat} {s t : AV} {A B : List Int} (ma : h[ba]? = some (.cells [s] true false)) (mb : h[bb]? = some (.cells [t] true false)) (hs : IsSl h s 1 (A.map intRow)) (ht : IsSl h t 1 (B.map intRow)) (he : A.length = B.length) (hl : A.length ≤ 2 ^ 40) :
    RCall P 50 [.func (.func 87) [] [.ptr ba 0, .ptr bb 0]] h (fun v h' => Fr h.length h' v 2 ((A.zip B).map ratR)) := by
  refine .of T.mix T.c50 ?_
  unfold fn50
  refine Wn ?_
  refine WF.res T.c86 (r86 T ma mb hs ht he hl) ?_
  intro v g1 hv
  refine Wn ?_
  exact hv
set_option maxHeartbeats 4000000 in
theorem r49 {s : AV} {l : List (Int × Int)} (hs : IsSl h s 2 (l.map ratR)) (hl : l.length < 2 ^ 40) {f : FuncId} {c : List AV} {AF : AFunc} (hA : compileFn P f = some AF) {g : Int × Int → Int} (hf : ∀ x ∈ l, ∀ k, Ext h k → RCall P f (.agg (ratR x) :: c) k (fun v _ => v = .int .i64 (g x))) : RCall P 49 [s, .func (.func f) [] c] h (fun v h' => IsSl h' v 1 ((l.map g).map intRow)) := by
  refine .st2 22 T.mix T.c49 ?_;intro ts hlen t0 t1;unfold fn49
  refine Rs (A3 @t0 @t1 hs.lenm) ?_
  refine WL.inv T.mix (fun n ts K => ∃ (k : Nat) (t : AV), k ≤ l.length ∧ n = l.length - k ∧ Ext h K ∧ Fr h.length K t 1 (((l.take k).map g).map intRow) ∧ ts.length = 22 ∧ slot ts 1 = .func (.func f) [] c ∧ slot ts 5 = t ∧ slot ts 8 = s ∧ slot ts 9 = .int .i64 l.length ∧ slot ts 10 = .int .i64 k) l.length
    ⟨0, .nilSlice, by omega, rfl, .refl _, .nil, Sn, (Sq @t1), Sw, Sw, Sw, Swr⟩ ?_
  clear hlen t0 t1
  rintro _ ts K ⟨k, t, hk, rfl, eK, hfr, hlen, t1, t5, t8, t9, t10⟩
  have hsK := hs.ext eK
  by_cases hlt : k < l.length
  case neg =>
    have e3 := dltF hlt
    have e4 : k = l.length := by omega
    rw [e4, List.take_length] at hfr
    refine Rs (A6 @t1 @t5 @t8 @t9 @t10 @e3) ?_
    exact ⟨eK, hfr.isSl⟩
  have e3 := dltT hlt
  have e5 := wrapN (n := k) (by omega)
  have ix := hsK.ixm (kk := .i64) hlt
  obtain ⟨x, hx⟩ : ∃ x, x = l[k] := ⟨_, rfl⟩
  have ld : ∀ {kk : AHeap}, Ext K kk → loadF (some 2) (elp s 2 k) (fun b => kk[b]?) = some (.agg (ratR x), .keep) := fun {kk} e => by rw [hx]; exact hsK.ldm hlt e
  have hmem : x ∈ l := by rw [hx]; exact List.getElem_mem _
  have ot := hfr.isSl.one
  have htk : l.take (k + 1) = l.take k ++ [x] := by rw [hx]; exact List.take_succ_eq_append_getElem hlt
  have st := @rat_st x.1 x.2
  have hrp : ratR x = [.int .i64 x.1, .int .i64 x.2] := rfl
  have hfx := hf x hmem
  rw [hrp] at ld hfx
  refine Rs (A10 @t1 @t5 @t8 @t9 @t10 @e3 @ix @ld @ot @st) ?_
  refine WF.ce hA (hfx _ (eK.trans Xx)) fun g1 => ?_
  have bs : ∀ {N : Nat}, bslF 1 1 (fillA [.int .i64 0] [(0, 1, .int .i64 (g x))]) N = some (.slice N 0 1 1, .push (.cells [.int .i64 (g x)] true true)) := fun {N} => rfl
  refine Rs (A7 @t1 @t5 @t8 @t9 @t10 @ot @bs) ?_
  refine WR.appR (B := h) (cs := ((l.take k).map g).map intRow) (z := intRow (g x)) ((hfr.app _).app _) rfl (eK.trans (Ext.trans ⟨_, rfl⟩ ⟨_, rfl⟩)) (by decide) (by rw [List.length_map, List.length_map, List.length_take]; omega) ?_
  intro W5 s' x5 hff q5
  have hrow : ((l.take k).map g).map intRow ++ [intRow (g x)] = ((l.take (k + 1)).map g).map intRow := by rw [htk, List.map_append, List.map_append]; rfl
  rw [hrow] at hff
  refine Rs (A7 @t1 @t5 @t8 @t9 @t10 @q5 @e5) ?_
  exact ⟨l.length - (k + 1), by omega, k + 1, s', by omega, rfl, x5, hff, rfl, rfl⟩
end
end Go.Abs
namespace Go.Abs

def difL (A B : List Int) : List Int := genL A.length fun i => atZ A i - atZ B i
/-- The share removed: what it is, and its error. -/
def remR (A B : List Int) : (Int × Int) × Int := if dotI A A = 0 then ((0, 0), 6) else (ratI (dotI (difL A B) (difL A B)) (dotI A A), 0)
theorem zip_gen {A B : List Int} (he : A.length = B.length) (f : Int × Int → Int) : (A.zip B).map f = genL A.length fun i => f (atZ A i, atZ B i) := by
  refine List.ext_getElem (by simp [genL_len, he]) fun k h1 h2 => ?_
  have hk : k < A.length := by rw [genL_len] at h2; exact h2
  rw [List.getElem_map, List.getElem_zip]
  simp only [genL, List.getElem_map, List.getElem_range]
  rw [atZ_at hk, atZ_at (show k < B.length by omega)]
theorem dot_sq {A : List Int} : ∀ n : Nat, 0 ≤ dotS A A n
  | 0 => Int.le_refl _
  | n + 1 => by
    have h1 := dot_sq (A := A) n
    rw [dotS]
    have : 0 ≤ atZ A n * atZ A n := by
      rcases Int.le_total 0 (atZ A n) with h | h
      · exact Int.mul_nonneg h h
      · exact Int.mul_nonneg_of_nonpos_of_nonpos h h
    omega
theorem dif_bd {A B : List Int} (hA : ∀ x ∈ A, -16384 ≤ x ∧ x ≤ 16384) (hB : ∀ x ∈ B, -16384 ≤ x ∧ x ≤ 16384) : ∀ x ∈ difL A B, -32768 ≤ x ∧ x ≤ 32768 := fun x hx => by
  obtain ⟨i, _, rfl⟩ := List.mem_map.1 hx
  have h1 := atZ_bd hA i
  have h2 := atZ_bd hB i
  omega
theorem dotI_bd {A B : List Int} (hl : A.length ≤ 1024) (hA : ∀ x ∈ A, -32768 ≤ x ∧ x ≤ 32768) (hB : ∀ x ∈ B, -32768 ≤ x ∧ x ≤ 32768) : -2 ^ 40 ≤ dotI A B ∧ dotI A B ≤ 2 ^ 40 := by
  have h := dotS_bd hA hB A.length
  unfold dotI
  omega
theorem zip_mem {A B : List Int} {p : Int × Int} (h : p ∈ A.zip B) : p.1 ∈ A ∧ p.2 ∈ B := ⟨(List.of_mem_zip h).1, (List.of_mem_zip h).2⟩
theorem box_sR {K : AHeap} {b : Nat} {a0 a1 : AV} (m : K[b]? = some (.cells [a0, a1] true false)) {z : Int × Int} : storeF 2 (.ptr b 0) (.agg (ratR z)) (fun y => K[y]?) = some (undefA, .set b (.cells (ratR z) true false)) := box_s m
theorem box_lR {K : AHeap} {b : Nat} {k0 : ABlk} (m : K[b]? = some k0) {z : Int × Int} : loadF (some 2) (.ptr b 0) (fun y => (K.set b (.cells (ratR z) true false))[y]?) = some (.agg (ratR z), .keep) := box_l m
set_option maxRecDepth 10000
attribute [local irreducible] WP WC WE WB WR WF WL WG WRg WQ
section
variable {P : Program} (T : Tbl P) {h : AHeap}
include T
set_option maxHeartbeats 1000000 in
theorem q45 {s : AV} {l : List Int} (hs : IsSl h s 1 (l.map intRow)) (hl : l.length < 2 ^ 40) : RCall P 45 [s] h (fun v h' => ∃ (t : AV) (e : Int), v = .tup [t, .int .i64 e] ∧ if fitsB l = true then Fr h.length h' t 1 ((l.map smpl).map fltR) ∧ e = 0 else t = .nilSlice ∧ e = 4) := by
  refine .st1 8 T.mix T.c45 ?_;intro ts hlen t0;unfold fn45
  refine Rs @t0 ?_
  refine WF.ce T.c63 (r63 T hs hl) fun g1 => ?_
  cases hf : fitsB l with
  | false =>
    refine Rs (A2 @t0 @Bool.not_false) ?_
    exact ⟨.nilSlice, 4, rfl, rfl, rfl⟩
  | true =>
    refine Rs (A2 @t0 @Bool.not_true) ?_
    refine WF.res T.c82 (q82 T (hs.ext Xx) hl T.c83 (g := smpl) (fun x hx k => r83 T (fits_all hf x hx).1 (fits_all hf x hx).2)) ?_
    intro s2 g2 is2
    refine Rs @t0 ?_
    exact ⟨s2, 0, rfl, is2.low (by simp), rfl⟩
set_option maxHeartbeats 2000000 in
theorem r52 {p : Int × Int} (h1 : -16384 ≤ p.1 ∧ p.1 ≤ 16384) (h2 : -16384 ≤ p.2 ∧ p.2 ≤ 16384) : RCall P 52 [.agg (ratR p)] h (fun v _ => v = .int .i64 (p.1 - p.2)) := by
  refine .st1 8 T.mix T.c52 ?_;intro ts hlen t0;unfold fn52
  have w3 : IntKind.i64.wrap (p.1 - p.2) = p.1 - p.2 := wrap_in (by omega) (by omega)
  have i0 : ∀ {N : Nat}, iadaF 2 1 (.ptr N 0) (.int .i64 0) = some (.ptr N 0) := fun {N} => rfl
  have i1 : ∀ {N : Nat}, iadaF 2 1 (.ptr N 0) (.int .i64 1) = some (.ptr N 1) := fun {N} => rfl
  have r0 : ldB none 0 (.cells (ratR p) true false) = some (.int .i64 p.1, .keep) := rfl
  have r1 : ldB none 1 (.cells (ratR p) true false) = some (.int .i64 p.2, .keep) := rfl
  exact Rs (A7 @t0 @td_box @i0 @i1 @r0 @r1 @w3) trivial
set_option maxHeartbeats 4000000 in
theorem r14 {s t : AV} {l m : List Nat} (hs : IsSl h s 1 (l.map fltR)) (ht : IsSl h t 1 (m.map fltR)) (hl : l.length < 2 ^ 40) (hm : m.length < 2 ^ 40) : RCall P 14 [s, t] h (fun v _ => v = .tup [.agg (ratR (if chkP l m = 0 then (remR (l.map gridN) (m.map gridN)).1 else (0, 0))), .int .i64 (if chkP l m = 0 then (remR (l.map gridN) (m.map gridN)).2 else chkP l m)]) := by
  refine .st2 36 T.mix T.c14 ?_;intro ts hlen t0 t1;unfold fn14
  have st := @rat_st 0 0
  refine Rs (A2 @t0 @t1) ?_
  refine WF.ce T.c47 (r47 T (hs.ext Xx) (ht.ext Xx) hl hm) fun g1 => ?_
  by_cases hz : chkP l m = 0
  case neg =>
    have d1 : decide (chkP l m ≠ 0) = true := decide_eq_true hz
    rw [if_neg hz, if_neg hz]
    refine Rs (A4 @t0 @t1 @d1 @st) ?_
    rfl
  have d1 : decide (chkP l m ≠ 0) = false := decide_eq_false fun z => z hz
  obtain ⟨⟨q1, q2⟩, q3, q4⟩ := chkP_z hz
  rw [if_pos hz, if_pos hz]
  refine Rs (A3 @t0 @t1 @d1) ?_
  refine WF.res T.c42 (r42 T (hs.ext Xx) hl T.c43 (g := gridN) (fun x hx k => r43 T (q2 x hx))) ?_
  intro s7 g2 is7
  refine Rs (A2 @t0 @t1) ?_
  refine WF.res T.c42 (r42 T (ht.ext Xx) hm T.c43 (g := gridN) (fun x hx k => r43 T (q3 x hx))) ?_
  intro s8 g3 is8
  obtain ⟨A, hA⟩ : ∃ A, A = l.map gridN := ⟨_, rfl⟩
  obtain ⟨B, hB⟩ : ∃ B, B = m.map gridN := ⟨_, rfl⟩
  have hAl : A.length = l.length := by rw [hA]; simp
  have hBl : B.length = m.length := by rw [hB]; simp
  have bA := grid_all q2
  have bB := grid_all q3
  rw [← hA] at is7 bA ⊢
  rw [← hB] at is8 bB ⊢
  refine Rs (A2 @t0 @t1) ?_
  refine WF.ce T.c48 (r48 T (is7.ext Xx) (by omega) (wide bA)) fun g4 => ?_
  have eb := dotI_bd (B := A) (by omega) (wide bA) (wide bA)
  have en : 0 ≤ dotI A A := dot_sq _
  by_cases hE : dotI A A = 0
  · have d2 : decide (dotI A A = 0) = true := decide_eq_true hE
    have e2 : remR A B = ((0, 0), 6) := if_pos hE
    rw [e2]
    refine Rs (A4 @t0 @t1 @d2 @st) ?_
    rfl
  have d2 : decide (dotI A A = 0) = false := decide_eq_false hE
  have e2 : remR A B = (ratI (dotI (difL A B) (difL A B)) (dotI A A), 0) := if_neg hE
  rw [e2]
  refine Rs (A3 @t0 @t1 @d2) ?_
  refine WF.res T.c51 (r51 T (is7.ext Xx) (is8.ext Xx)) ?_
  rintro _ g5 ⟨ba, bb, rfl, ma, mb⟩
  refine Rs (A2 @t0 @t1) ?_
  refine WF.res T.c50 (r50 T ma mb (is7.ext Xx) (is8.ext Xx) (by omega) (by omega)) ?_
  intro s9 g6 fr9
  refine Rs (A2 @t0 @t1) ?_
  refine WF.res T.c49 (r49 T (c := []) fr9.isSl (by rw [List.length_zip]; omega) T.c52 (g := fun p => p.1 - p.2) (fun x hx k _ => r52 T (bA _ (zip_mem hx).1) (bB _ (zip_mem hx).2))) ?_
  intro s10 g7 is10
  have hz2 : (A.zip B).map (fun p => p.1 - p.2) = difL A B := zip_gen (by omega) _
  rw [hz2] at is10
  have hdl : (difL A B).length ≤ 1024 := by rw [difL, genL_len]; omega
  have db := dif_bd bA bB
  refine Rs (A2 @t0 @t1) ?_
  refine WF.ce T.c48 (r48 T is10 hdl db) fun g8 => ?_
  have eb2 := dotI_bd hdl db db
  refine Rs (A2 @t0 @t1) ?_
  refine WF.ce T.c53 (r53 T _ _ (by omega) (by omega) (by omega)) fun g9 => ?_
  obtain ⟨Y, hY⟩ : ∃ Y, Y = h ++ [ABlk.cells [AV.int IntKind.i64 0, AV.int IntKind.i64 0] true false] ++ g1 ++ g2 ++ g3 ++ g4 ++ g5 ++ g6 ++ g7 ++ g8 ++ g9 := ⟨_, rfl⟩
  have eY : Ext (h ++ [ABlk.cells [AV.int IntKind.i64 0, AV.int IntKind.i64 0] true false]) Y := by rw [hY]; exact Xx
  rw [← hY]
  have m4 := eY.some at_new
  have s4 := @box_sR _ _ _ _ m4 (ratI (dotI (difL A B) (difL A B)) (dotI A A))
  have l4 := @box_lR _ _ _ m4 (ratI (dotI (difL A B) (difL A B)) (dotI A A))
  refine Rs (A2 @s4 @l4) ?_
  exact ⟨ext_set eY, trivial⟩
end
end Go.Abs
namespace Go.Abs

set_option maxRecDepth 10000
attribute [local irreducible] WP WC WE WB WR WF WL WG WRg WQ
section
variable {P : Program} (T : Tbl P) {h : AHeap}
include T
end
end Go.Abs
namespace Go.Abs

/-- The table of the headers' ranges. -/
def rngCells : List AV := [.int .i64 (-100000), .int .i64 100000, .int .i64 (-100000), .int .i64 100000, .int .i64 (-100000), .int .i64 100000, .int .i64 (-100000), .int .i64 100000, .int .i64 0, .int .i64 100000, .int .i64 (-999999999), .int .i64 999999999, .int .i64 (-999999999), .int .i64 999999999, .int .i64 (-999999999), .int .i64 999999999]
def Rng (h : AHeap) : Prop := h[0]? = some (.cells rngCells false false)
theorem Rng.ext {h k : AHeap} (p : Rng h) (e : Ext h k) : Rng k := e.some p
theorem eight {n : Nat} (h : n < 8) : n = 0 ∨ n = 1 ∨ n = 2 ∨ n = 3 ∨ n = 4 ∨ n = 5 ∨ n = 6 ∨ n = 7 := by omega
theorem rng_lo {h k : AHeap} (p : Rng h) {i : Nat} (hi : i < 8) (e : Ext h k) : loadF none (.ptr 0 (i * 2)) (fun z => k[z]?) = some (.int .i64 (hdLo i), .keep) := by
  rw [loadF_at (e.some p)]
  rcases eight hi with rfl | rfl | rfl | rfl | rfl | rfl | rfl | rfl <;> rfl
theorem rng_hi {h k : AHeap} (p : Rng h) {i : Nat} (hi : i < 8) (e : Ext h k) : loadF none (.ptr 0 (i * 2 + 1)) (fun z => k[z]?) = some (.int .i64 (hdHi i), .keep) := by
  rw [loadF_at (e.some p)]
  rcases eight hi with rfl | rfl | rfl | rfl | rfl | rfl | rfl | rfl <;> rfl
theorem ia_82 {b i : Nat} (hi : i < 8) : iadaF 8 2 (.ptr b 0) (.int .i64 (i : Int)) = some (.ptr b (i * 2)) := by unfold iadaF; simp; omega
theorem ia_20 {b o : Nat} : iadaF 2 1 (.ptr b o) (.int .i64 0) = some (.ptr b o) := rfl
theorem ia_21 {b o : Nat} : iadaF 2 1 (.ptr b o) (.int .i64 1) = some (.ptr b (o + 1)) := rfl
theorem ia_81 {b i : Nat} (hi : i < 8) : iadaF 8 1 (.ptr b 0) (.int .i64 (i : Int)) = some (.ptr b i) := by unfold iadaF; simp; omega
theorem ix_81 {f : Nat → Int} {i : Nat} (hi : i < 8) : ixaF 8 1 none (.agg (hdR f)) (.int .i64 (i : Int)) = some (.int .i64 (f i)) := by
  rcases eight hi with rfl | rfl | rfl | rfl | rfl | rfl | rfl | rfl <;> rfl
theorem hd_ld {K k : AHeap} {b i : Nat} {f : Nat → Int} (m : K[b]? = some (.cells (hdR f) true false)) (hi : i < 8) (e : Ext K k) : loadF none (.ptr b i) (fun z => k[z]?) = some (.int .i64 (f i), .keep) := by
  rw [loadF_at (e.some m)]
  rcases eight hi with rfl | rfl | rfl | rfl | rfl | rfl | rfl | rfl <;> rfl
theorem lt8T {k : Nat} (h : k < 8) : decide ((k : Int) < 8) = true := decide_eq_true (by omega)
theorem lt8F {k : Nat} (h : ¬ k < 8) : decide ((k : Int) < 8) = false := decide_eq_false (by omega)
theorem tr_one {x : Trc × AV} (ox : x.2.one = true) : (trRow x).all AV.one = true := by
  show ([.int .i64 (x.1.hd 0), .int .i64 (x.1.hd 1), .int .i64 (x.1.hd 2), .int .i64 (x.1.hd 3), .int .i64 (x.1.hd 4), .int .i64 (x.1.hd 5), .int .i64 (x.1.hd 6), .int .i64 (x.1.hd 7), .bool x.1.hole, x.2] : List AV).all AV.one = true
  simp only [List.all_cons, List.all_nil, ox]
  rfl
theorem tr_box {x : Trc × AV} (ox : x.2.one = true) {N : Nat} : boxF (.agg (trRow x)) N = some (.ptr N 0, .push (.cells (trRow x) true false)) := by
  unfold boxF
  show (if (trRow x).all AV.one = true then _ else _) = _
  rw [if_pos (tr_one ox)]
  rfl
theorem hd_box {f : Nat → Int} {N : Nat} : boxF (.agg (hdR f)) N = some (.ptr N 0, .push (.cells (hdR f) true false)) := rfl
def z10 : List AV := [.int .i64 0, .int .i64 0, .int .i64 0, .int .i64 0, .int .i64 0, .int .i64 0, .int .i64 0, .int .i64 0, .bool false, .nilSlice]
theorem z10_box {N : Nat} : boxF (.agg [.int .i64 0, .int .i64 0, .int .i64 0, .int .i64 0, .int .i64 0, .int .i64 0, .int .i64 0, .int .i64 0, .bool false, .nilSlice]) N = some (.ptr N 0, .push (.cells z10 true false)) := rfl
theorem st_tr {x : Trc × AV} (ox : x.2.one = true) {n : Nat} : stB 10 0 (.agg (trRow x)) n (.cells z10 true false) = some (undefA, .set n (.cells (trRow x) true false)) := (stB_agg rfl (tr_one ox) (by show 0 + 10 ≤ 10; omega)).trans rfl
theorem tr_l8 {x : Trc × AV} : ldB (some 8) 0 (.cells (trRow x) true false) = some (.agg (hdR x.1.hd), .keep) := rfl
theorem tr_l10 {x : Trc × AV} : ldB (some 10) 0 (.cells (trRow x) true false) = some (.agg (trRow x), .keep) := rfl
theorem tr_h {x : Trc × AV} : ldB none 8 (.cells (trRow x) true false) = some (.bool x.1.hole, .keep) := rfl
theorem tr_s {x : Trc × AV} : ldB none 9 (.cells (trRow x) true false) = some (x.2, .keep) := rfl
theorem first_f {e z : Int} : firstS [whenS false e, z] = z := by
  show (if (0 : Int) = 0 then (if z = 0 then 0 else z) else 0) = z
  rw [if_pos rfl]
  split
  · rename_i h; exact h.symm
  · rfl
theorem nz_dec {n : Nat} : decide ((0 : Int) < (n : Int)) = decide (0 < n) := decide_eq_decide.2 (by omega)
set_option maxRecDepth 10000
attribute [local irreducible] WP WC WE WB WR WF WL WG WRg WQ
section
variable {P : Program} (T : Tbl P) {h : AHeap}
include T
set_option maxHeartbeats 2000000 in
theorem q77 {s : AV} {l : List (Nat)} (hs : IsSl h s 1 (l.map fltR)) (hl : l.length < 2 ^ 40) {f : FuncId} {AF : AFunc} (hA : compileFn P f = some AF) {g : Nat → Int} (hf : ∀ x ∈ l, ∀ k, RCall P f [.flt .f32 x] k (fun v _ => v = .int .i64 (g x))) : RCall P 77 [s, .func (.func f) [] []] h (fun v h' => Fr h.length h' v 1 ((l.map g).map intRow)) := by
  refine .st2 22 T.mix T.c77 ?_;intro ts hlen t0 t1;unfold fn77
  refine Rs (A3 @t0 @t1 hs.lenm) ?_
  refine WL.inv T.mix (fun n ts K => ∃ (k : Nat) (t : AV), k ≤ l.length ∧ n = l.length - k ∧ Ext h K ∧ Fr h.length K t 1 (((l.take k).map g).map intRow) ∧ ts.length = 22 ∧ slot ts 1 = .func (.func f) [] [] ∧ slot ts 5 = t ∧ slot ts 8 = s ∧ slot ts 9 = .int .i64 l.length ∧ slot ts 10 = .int .i64 k) l.length
    ⟨0, .nilSlice, by omega, rfl, .refl _, .nil, Sn, (Sq @t1), Sw, Sw, Sw, Swr⟩ ?_
  clear hlen t0 t1
  rintro _ ts K ⟨k, t, hk, rfl, eK, hfr, hlen, t1, t5, t8, t9, t10⟩
  have hsK := hs.ext eK
  by_cases hlt : k < l.length
  case neg =>
    have e3 := dltF hlt
    have e4 : k = l.length := by omega
    rw [e4, List.take_length] at hfr
    refine Rs (A6 @t1 @t5 @t8 @t9 @t10 @e3) ?_
    exact ⟨eK, hfr⟩
  have e3 := dltT hlt
  have e5 := wrapN (n := k) (by omega)
  have ix := hsK.ixm (kk := .i64) hlt
  obtain ⟨x, hx⟩ : ∃ x, x = l[k] := ⟨_, rfl⟩
  have ld : ∀ {kk : AHeap}, Ext K kk → loadF none (elp s 1 k) (fun b => kk[b]?) = some (.flt .f32 x, .keep) := fun {kk} e => by rw [hx]; exact hsK.l1m hlt rfl e
  have hmem : x ∈ l := by rw [hx]; exact List.getElem_mem _
  have ot := hfr.isSl.one
  have htk : l.take (k + 1) = l.take k ++ [x] := by rw [hx]; exact List.take_succ_eq_append_getElem hlt
  refine Rs (A9 @t1 @t5 @t8 @t9 @t10 @e3 @ix @ld @ot) ?_
  refine WF.ce hA (hf x hmem _) fun g1 => ?_
  have bs : ∀ {N : Nat}, bslF 1 1 (fillA [.int .i64 0] [(0, 1, .int .i64 (g x))]) N = some (.slice N 0 1 1, .push (.cells [.int .i64 (g x)] true true)) := fun {N} => rfl
  refine Rs (A7 @t1 @t5 @t8 @t9 @t10 @ot @bs) ?_
  refine WR.appR (B := h) (cs := ((l.take k).map g).map intRow) (z := intRow (g x)) (hfr.app _) rfl (eK.trans ⟨_, rfl⟩) (by decide) (by rw [List.length_map, List.length_map, List.length_take]; omega) ?_
  intro W5 s' x5 hff q5
  have hrow : ((l.take k).map g).map intRow ++ [intRow (g x)] = ((l.take (k + 1)).map g).map intRow := by rw [htk, List.map_append, List.map_append]; rfl
  rw [hrow] at hff
  refine Rs (A7 @t1 @t5 @t8 @t9 @t10 @q5 @e5) ?_
  exact ⟨l.length - (k + 1), by omega, k + 1, s', by omega, rfl, x5, hff, rfl, rfl⟩
theorem r77 {s : AV} {l : List (Nat)} (hs : IsSl h s 1 (l.map fltR)) (hl : l.length < 2 ^ 40) {f : FuncId} {AF : AFunc} (hA : compileFn P f = some AF) {g : Nat → Int} (hf : ∀ x ∈ l, ∀ k, RCall P f [.flt .f32 x] k (fun v _ => v = .int .i64 (g x))) : RCall P 77 [s, .func (.func f) [] []] h (fun v h' => IsSl h' v 1 ((l.map g).map intRow)) := by
  obtain ⟨v, k, h1, h2⟩ := q77 T hs hl hA hf
  exact ⟨v, k, h1, h2.isSl⟩
set_option maxHeartbeats 1000000 in
theorem r36 {s : AV} {l : List Nat} (hs : IsSl h s 1 (l.map fltR)) (hl : l.length < 2 ^ 40) : RCall P 36 [s] h (fun v _ => v = .int .i64 (firstS (l.map gridE))) := by
  refine .st1 6 T.mix T.c36 ?_;intro ts hlen t0;unfold fn36
  refine Rs @t0 ?_
  refine WF.res T.c77 (r77 T hs hl T.c78 (fun x _ k => r78 T x)) ?_
  intro s2 g1 is1
  refine Rs @t0 ?_
  refine WF.ce T.c23 (r23 T is1 (by rw [List.length_map]; omega)) fun g2 => ?_
  exact Rs @t0 trivial
set_option maxHeartbeats 1000000 in
theorem r54 {s : AV} {l : List Nat} (hs : IsSl h s 1 (l.map fltR)) (hl : l.length < 2 ^ 40) : RCall P 54 [s] h (fun v _ => v = .int .i64 (chkL l)) := by
  refine .st1 8 T.mix T.c54 ?_;intro ts hlen t0;unfold fn54
  by_cases h1 : 1024 < l.length
  · have d1 : decide ((1024 : Int) < (l.length : Int)) = true := decide_eq_true (by omega)
    have e : chkL l = 5 := if_pos h1
    refine Rs (A3 @t0 hs.lenm @d1) ?_
    rw [e]
  have d1 : decide ((1024 : Int) < (l.length : Int)) = false := decide_eq_false (by omega)
  have e : chkL l = firstS (l.map gridE) := if_neg h1
  refine Rs (A3 @t0 hs.lenm @d1) ?_
  refine WF.ce T.c36 (r36 T hs hl) fun g2 => ?_
  refine Rs @t0 ?_
  rw [e]
set_option maxHeartbeats 4000000 in
theorem r74 (rg : Rng h) {x : Trc × AV} (hx : IsSl h x.2 1 (x.1.sm.map fltR)) (hl : x.1.sm.length < 2 ^ 40) : RCall P 74 [.agg (trRow x)] h (fun v _ => v = .int .i64 (chkTr x.1)) := by
  refine .st1 40 T.mix T.c74 ?_;intro ts hlen t0;unfold fn74
  have bx : ∀ {N : Nat}, boxF (.agg (trRow x)) N = some (.ptr N 0, .push (.cells (trRow x) true false)) := fun {N} => tr_box hx.one
  have ld8 := @tr_l8 x
  have ldh := @tr_h x
  have lds := @tr_s x
  refine Rs (A2 @t0 @bx) ?_
  obtain ⟨H0, hH0⟩ : ∃ H0, H0 = h ++ [ABlk.cells (trRow x) true false] := ⟨_, rfl⟩
  have e0 : Ext h H0 := by rw [hH0]; exact ⟨_, rfl⟩
  have m1 : H0[h.length]? = some (.cells (trRow x) true false) := by rw [hH0]; exact at_new
  obtain ⟨b1, hb1⟩ : ∃ b1, b1 = h.length := ⟨_, rfl⟩
  rw [← hb1] at m1 ⊢
  rw [← hH0]
  clear hH0 hb1
  have l1 := @ldx _ _ _ m1
  have hE := hdF_eq x.1.hd
  refine Rs (A3 @t0 @l1 @ld8) ?_
  refine WL.inv T.mix (fun n ts K => ∃ i : Nat, i ≤ 8 ∧ n = 8 - i ∧ Ext H0 K ∧ hdF x.1.hd 8 = hdF x.1.hd (8 - i) ∧ ts.length = 40 ∧ slot ts 1 = .ptr b1 0 ∧ slot ts 7 = .agg (hdR x.1.hd) ∧ slot ts 8 = .int .i64 i) 8
    ⟨0, by omega, rfl, .refl _, rfl, Sn, Sw, Sw, Swr⟩ ?_
  clear hlen t0
  rintro _ ts K ⟨i, hi, rfl, eK, hf, hlen, t1, t7, t8⟩
  have l1 := @ldx _ _ _ (eK.some m1)
  have hsK := hx.ext (e0.trans eK)
  by_cases hi8 : i < 8
  case neg =>
    have e3 := lt8F hi8
    have hz : hdE x.1.hd = 0 := by rw [← hE, hf, show i = 8 by omega]; rfl
    cases hb : x.1.hole with
    | true =>
      have dz := @nz_dec x.1.sm.length
      refine Rs (A10 @t1 @t7 @t8 @e3 @l1 @ldh @lds @hb hsK.lenm @dz) ?_
      refine WF.ce T.c71 (r71 T _ _) fun g1 => ?_
      refine Rs (A3 @t1 @l1 @lds) ?_
      refine WF.ce T.c54 (r54 T (hsK.ext Xx) hl) fun g2 => ?_
      refine Rs @t1 ?_
      refine WF.ce T.c23 (r23 T (isSl_ints [_, _]) (by simp)) fun g3 => ?_
      refine Rs @t1 ?_
      refine ⟨e0.trans (eK.trans Xx), ?_⟩
      unfold chkTr
      rw [hz, hb, Bool.true_and]
      rfl
    | false =>
      refine Rs (A8 @t1 @t7 @t8 @e3 @l1 @ldh @lds @hb) ?_
      refine WF.ce T.c71 (r71 T _ _) fun g1 => ?_
      refine Rs (A3 @t1 @l1 @lds) ?_
      refine WF.ce T.c54 (r54 T (hsK.ext Xx) hl) fun g2 => ?_
      refine Rs @t1 ?_
      refine WF.ce T.c23 (r23 T (isSl_ints [_, _]) (by simp)) fun g3 => ?_
      refine Rs @t1 ?_
      refine ⟨e0.trans (eK.trans Xx), ?_⟩
      unfold chkTr
      rw [hz, hb, Bool.false_and]
      rfl
  have e3 := lt8T hi8
  have e5 := wrapN (n := i) (by omega)
  have ix := @ix_81 x.1.hd i hi8
  have ia := @ia_82 0 i hi8
  have i0 := @ia_20 0 (i * 2)
  have i1 := @ia_21 0 (i * 2)
  have rgK := rg.ext (e0.trans eK)
  have lo : ∀ {k : AHeap}, Ext K k → loadF none (.ptr 0 (i * 2)) (fun z => k[z]?) = some (.int .i64 (hdLo i), .keep) := fun {k} e => rng_lo rgK hi8 e
  have hh : ∀ {k : AHeap}, Ext K k → loadF none (.ptr 0 (i * 2 + 1)) (fun z => k[z]?) = some (.int .i64 (hdHi i), .keep) := fun {k} e => rng_hi rgK hi8 e
  have hs := @hdF_at x.1.hd i hi8
  refine Rs (A10 @t1 @t7 @t8 @e3 @ix @ia @i0 @i1 @lo @hh) ?_
  refine WF.ce T.c25 (r25 T _ _ _) fun g1 => ?_
  obtain ⟨E, hEE⟩ : ∃ E, E = rangeS (x.1.hd i) (hdLo i) (hdHi i) := ⟨_, rfl⟩
  rw [← hEE] at hs ⊢
  by_cases hz : E = 0
  case neg =>
    have d1 : decide (E ≠ 0) = true := decide_eq_true hz
    refine Rs (A4 @t1 @t7 @t8 @d1) ?_
    rw [if_neg hz] at hs
    refine ⟨e0.trans (eK.trans ⟨g1, rfl⟩), ?_⟩
    unfold chkTr
    rw [← hE, hf, hs, firstS, if_neg hz]
  have d1 : decide (E ≠ 0) = false := decide_eq_false fun z => z hz
  refine Rs (A5 @t1 @t7 @t8 @d1 @e5) ?_
  rw [if_pos hz] at hs
  exact ⟨8 - (i + 1), by omega, i + 1, by omega, rfl, eK.trans ⟨g1, rfl⟩, hf.trans hs, rfl⟩
set_option maxHeartbeats 4000000 in
theorem r97 (f : Nat → Int) : RCall P 97 [.agg (hdR f)] h (fun v _ => v = .int .i64 (hdE f)) := by
  refine .st1 24 T.mix T.c97 ?_;intro ts hlen t0;unfold fn97
  have bx : ∀ {N : Nat}, boxF (.agg (hdR f)) N = some (.ptr N 0, .push (.cells (hdR f) true false)) := fun {N} => hd_box
  refine Rs (A2 @t0 @bx) ?_
  obtain ⟨H0, hH0⟩ : ∃ H0, H0 = h ++ [ABlk.cells (hdR f) true false] := ⟨_, rfl⟩
  have e0 : Ext h H0 := by rw [hH0]; exact ⟨_, rfl⟩
  have m1 : H0[h.length]? = some (.cells (hdR f) true false) := by rw [hH0]; exact at_new
  obtain ⟨b1, hb1⟩ : ∃ b1, b1 = h.length := ⟨_, rfl⟩
  rw [← hb1] at m1 ⊢
  rw [← hH0]
  clear hH0 hb1
  have hE := hdF_eq f
  refine WL.inv T.mix (fun n ts K => ∃ i : Nat, i ≤ 8 ∧ n = 8 - i ∧ Ext H0 K ∧ hdF f 8 = hdF f (8 - i) ∧ ts.length = 24 ∧ slot ts 1 = .ptr b1 0 ∧ slot ts 3 = .int .i64 i) 8
    ⟨0, by omega, rfl, .refl _, rfl, Sn, Sw, Swr⟩ ?_
  clear hlen t0
  rintro _ ts K ⟨i, hi, rfl, eK, hf, hlen, t1, t3⟩
  by_cases hi8 : i < 8
  case neg =>
    have e3 := lt8F hi8
    have hz : hdE f = 0 := by rw [← hE, hf, show i = 8 by omega]; rfl
    refine Rs (A3 @t1 @t3 @e3) ?_
    exact ⟨e0.trans eK, by rw [hz]⟩
  have e3 := lt8T hi8
  have e5 := wrapN (n := i) (by omega)
  have ia := @ia_81 b1 i hi8
  have ld := @hd_ld _ K _ _ _ (eK.some m1) hi8 (.refl _)
  have hs := @hdF_at f i hi8
  obtain ⟨E, hEE⟩ : ∃ E, E = rangeS (f i) (hdLo i) (hdHi i) := ⟨_, rfl⟩
  rw [← hEE] at hs
  obtain ⟨lo, hlo⟩ : ∃ z, z = hdLo i := ⟨_, rfl⟩
  obtain ⟨hh, hhh⟩ : ∃ z, z = hdHi i := ⟨_, rfl⟩
  rw [← hlo, ← hhh] at hEE
  unfold hdLo at hlo
  unfold hdHi at hhh
  by_cases h4 : i < 4
  · have f4 : decide ((i : Int) < 4) = true := decide_eq_true (by omega)
    have n4 : decide ((i : Int) = 4) = false := decide_eq_false (by omega)
    rw [if_pos h4] at hlo hhh
    subst hlo hhh
    refine Rs (A7 @t1 @t3 @e3 @f4 @n4 @ia @ld) ?_
    refine WF.ce T.c102 (r102 T _ _ _) fun g1 => ?_
    rw [← hEE]
    by_cases hz : E = 0
    case neg =>
      have d1 : decide (E ≠ 0) = true := decide_eq_true hz
      refine Rs (A3 @t1 @t3 @d1) ?_
      rw [if_neg hz] at hs
      exact ⟨e0.trans (eK.trans ⟨g1, rfl⟩), by rw [← hE, hf, hs]⟩
    have d1 : decide (E ≠ 0) = false := decide_eq_false fun z => z hz
    refine Rs (A4 @t1 @t3 @d1 @e5) ?_
    rw [if_pos hz] at hs
    exact ⟨8 - (i + 1), by omega, i + 1, by omega, rfl, eK.trans ⟨g1, rfl⟩, hf.trans hs, rfl⟩
  have f4 : decide ((i : Int) < 4) = false := decide_eq_false (by omega)
  rw [if_neg h4] at hlo hhh
  by_cases h5 : i = 4
  · have n4 : decide ((i : Int) = 4) = true := decide_eq_true (by omega)
    rw [if_pos h5] at hlo hhh
    subst hlo hhh
    refine Rs (A7 @t1 @t3 @e3 @f4 @n4 @ia @ld) ?_
    refine WF.ce T.c102 (r102 T _ _ _) fun g1 => ?_
    rw [← hEE]
    by_cases hz : E = 0
    case neg =>
      have d1 : decide (E ≠ 0) = true := decide_eq_true hz
      refine Rs (A3 @t1 @t3 @d1) ?_
      rw [if_neg hz] at hs
      exact ⟨e0.trans (eK.trans ⟨g1, rfl⟩), by rw [← hE, hf, hs]⟩
    have d1 : decide (E ≠ 0) = false := decide_eq_false fun z => z hz
    refine Rs (A4 @t1 @t3 @d1 @e5) ?_
    rw [if_pos hz] at hs
    exact ⟨8 - (i + 1), by omega, i + 1, by omega, rfl, eK.trans ⟨g1, rfl⟩, hf.trans hs, rfl⟩
  have n4 : decide ((i : Int) = 4) = false := decide_eq_false (by omega)
  rw [if_neg h5] at hlo hhh
  subst hlo hhh
  refine Rs (A7 @t1 @t3 @e3 @f4 @n4 @ia @ld) ?_
  refine WF.ce T.c102 (r102 T _ _ _) fun g1 => ?_
  rw [← hEE]
  by_cases hz : E = 0
  case neg =>
    have d1 : decide (E ≠ 0) = true := decide_eq_true hz
    refine Rs (A3 @t1 @t3 @d1) ?_
    rw [if_neg hz] at hs
    exact ⟨e0.trans (eK.trans ⟨g1, rfl⟩), by rw [← hE, hf, hs]⟩
  have d1 : decide (E ≠ 0) = false := decide_eq_false fun z => z hz
  refine Rs (A4 @t1 @t3 @d1 @e5) ?_
  rw [if_pos hz] at hs
  exact ⟨8 - (i + 1), by omega, i + 1, by omega, rfl, eK.trans ⟨g1, rfl⟩, hf.trans hs, rfl⟩
set_option maxHeartbeats 4000000 in
theorem r69 (X : Xfl P) {x : Trc × AV} (hx : IsSl h x.2 1 (x.1.sm.map fltR)) (hl : x.1.sm.length < 2 ^ 40) : RCall P 69 [.agg (trRow x)] h (fun v _ => v = .int .i64 (chkTr x.1)) := by
  refine .st1 21 T.mix T.c69 ?_;intro ts hlen t0;unfold fn69
  have bx : ∀ {N : Nat}, boxF (.agg (trRow x)) N = some (.ptr N 0, .push (.cells (trRow x) true false)) := fun {N} => tr_box hx.one
  have ld8 := @tr_l8 x
  have ldh := @tr_h x
  have lds := @tr_s x
  refine Rs (A2 @t0 @bx) ?_
  obtain ⟨H0, hH0⟩ : ∃ H0, H0 = h ++ [ABlk.cells (trRow x) true false] := ⟨_, rfl⟩
  have e0 : Ext h H0 := by rw [hH0]; exact ⟨_, rfl⟩
  have m1 : H0[h.length]? = some (.cells (trRow x) true false) := by rw [hH0]; exact at_new
  obtain ⟨b1, hb1⟩ : ∃ b1, b1 = h.length := ⟨_, rfl⟩
  rw [← hb1] at m1 ⊢
  rw [← hH0]
  clear hH0 hb1
  have l1 := @ldx _ _ _ m1
  refine Rs (A3 @t0 @l1 @ld8) ?_
  refine WF.ce T.c97 (r97 T _) fun g1 => ?_
  have hs := hx.ext (e0.trans (show Ext H0 (H0 ++ g1) from ⟨_, rfl⟩))
  obtain ⟨E, hE⟩ : ∃ E, E = hdE x.1.hd := ⟨_, rfl⟩
  have hc : chkTr x.1 = firstS [E, whenS (x.1.hole && decide (0 < x.1.sm.length)) 24, chkL x.1.sm] := by rw [hE]; rfl
  rw [← hE]
  by_cases hz : E = 0
  case neg =>
    have d1 : decide (E ≠ 0) = true := decide_eq_true hz
    refine Rs (A2 @t0 @d1) ?_
    exact ⟨e0.trans ⟨g1, rfl⟩, by rw [hc, firstS, if_neg hz]⟩
  have d1 : decide (E ≠ 0) = false := decide_eq_false fun z => z hz
  rw [hz, firstS, if_pos rfl] at hc
  have dz := @nz_dec x.1.sm.length
  cases hb : x.1.hole with
  | true =>
    rw [hb, Bool.true_and] at hc
    by_cases hn : 0 < x.1.sm.length
    · have d2 : decide (0 < x.1.sm.length) = true := decide_eq_true hn
      refine Rs (A9 @t0 @d1 @l1 @ldh @lds @hb hs.lenm @dz @d2) ?_
      exact ⟨e0.trans ⟨g1, rfl⟩, by rw [hc, d2]; rfl⟩
    · have d2 : decide (0 < x.1.sm.length) = false := decide_eq_false hn
      refine Rs (A9 @t0 @d1 @l1 @ldh @lds @hb hs.lenm @dz @d2) ?_
      refine WF.ce T.c98 (r98 T X hs hl) fun g2 => ?_
      refine Rs @t0 ?_
      exact ⟨e0.trans Xx, by rw [hc, d2, first_f]⟩
  | false =>
    rw [hb, Bool.false_and] at hc
    refine Rs (A6 @t0 @d1 @l1 @ldh @lds @hb) ?_
    refine WF.ce T.c98 (r98 T X hs hl) fun g2 => ?_
    refine Rs @t0 ?_
    exact ⟨e0.trans Xx, by rw [hc, first_f]⟩
end
end Go.Abs
namespace Go.Abs

/-- What a loop over the traces that are no holes is given: their indices and they. -/
def liveL : Nat → List (Trc × AV) → List (List AV)
  | _, [] => []
  | i, x :: r => if x.1.hole = true then liveL (i + 1) r else [.int .i64 (i : Int), .agg (trRow x)] :: liveL (i + 1) r
def liveT : List (Trc × AV) → List (Trc × AV) := List.filter fun x => !x.1.hole
theorem liveL_len : ∀ (L : List (Trc × AV)) (i : Nat), (liveL i L).length = (liveT L).length
  | [], _ => rfl
  | x :: r, i => by
    unfold liveL liveT
    cases hb : x.1.hole with
    | true =>
      rw [if_pos rfl, List.filter_cons_of_neg (by rw [hb]; decide)]
      exact liveL_len r (i + 1)
    | false =>
      rw [if_neg (by decide), List.filter_cons_of_pos (by rw [hb]; rfl), List.length_cons, List.length_cons]
      exact congrArg (· + 1) (liveL_len r (i + 1))
theorem liveL_at : ∀ (L : List (Trc × AV)) (i j : Nat) (h : j < (liveL i L).length) (h2 : j < (liveT L).length), ∃ n : Nat, (liveL i L)[j] = [.int .i64 (n : Int), .agg (trRow (liveT L)[j])]
  | [], _, _, h, _ => by simp [liveL] at h
  | x :: r, i, j, h, h2 => by
    cases hb : x.1.hole with
    | true =>
      have e1 : liveL i (x :: r) = liveL (i + 1) r := by rw [liveL, if_pos hb]
      have e2 : liveT (x :: r) = liveT r := by unfold liveT; rw [List.filter_cons_of_neg (by rw [hb]; decide)]
      simp only [e1, e2] at h h2 ⊢
      exact liveL_at r (i + 1) j h h2
    | false =>
      have e1 : liveL i (x :: r) = [.int .i64 (i : Int), .agg (trRow x)] :: liveL (i + 1) r := by rw [liveL, if_neg (by rw [hb]; decide)]
      have e2 : liveT (x :: r) = x :: liveT r := by unfold liveT; rw [List.filter_cons_of_pos (by rw [hb]; rfl)]
      simp only [e1, e2] at h h2 ⊢
      cases j with
      | zero => exact ⟨i, rfl⟩
      | succ j => exact liveL_at r (i + 1) j (by simpa using h) (by simpa using h2)
theorem liveL_drop (L : List (Trc × AV)) {k : Nat} (hk : k < L.length) (i : Nat) : liveL (i + k) (L.drop k) = if L[k].1.hole = true then liveL (i + (k + 1)) (L.drop (k + 1)) else [.int .i64 ((i + k : Nat) : Int), .agg (trRow L[k])] :: liveL (i + (k + 1)) (L.drop (k + 1)) := by
  rw [List.drop_eq_getElem_cons hk, liveL]
  rfl
theorem liveL_two (L : List (Trc × AV)) (i : Nat) : ∀ y ∈ liveL i L, y.length = 2 := fun y hy => by
  obtain ⟨j, hj, rfl⟩ := List.mem_iff_getElem.1 hy
  obtain ⟨n, e⟩ := liveL_at L i j hj (by rw [← liveL_len L i]; exact hj)
  rw [e]; rfl
/-- The box of a shot. -/
def shC (nm : List UInt8) (s : AV) : List AV := [.str nm, s]
theorem sh_box {nm : List UInt8} {s : AV} (os : s.one = true) {N : Nat} : boxF (.agg [.str nm, s]) N = some (.ptr N 0, .push (.cells (shC nm s) true false)) := by
  unfold boxF
  rw [if_pos (by show ([.str nm, s] : List AV).all AV.one = true; simp only [List.all_cons, List.all_nil, os]; rfl)]
  rfl
theorem sh_l2 {nm : List UInt8} {s : AV} : ldB (some 2) 0 (.cells (shC nm s) true false) = some (.agg [.str nm, s], .keep) := rfl
theorem sh_st {nm nm' : List UInt8} {s s' : AV} (os : s.one = true) {n : Nat} : stB 2 0 (.agg [.str nm, s]) n (.cells (shC nm' s') true false) = some (undefA, .set n (.cells (shC nm s) true false)) := (stB_agg rfl (by simp only [List.all_cons, List.all_nil, os]; rfl) (by show 0 + 2 ≤ 2; omega)).trans rfl
/-- A shot's parts are short enough for any count. -/
structure ShSz (L : List (Trc × AV)) : Prop where
  l : L.length < 2 ^ 40
  s : ∀ x ∈ L, x.1.sm.length < 2 ^ 40
set_option maxRecDepth 10000
attribute [local irreducible] WP WC WE WB WR WF WL WG WRg WQ
section
variable {P : Program} (T : Tbl P) {h : AHeap}
include T
set_option maxHeartbeats 4000000 in
theorem r73 (rg : Rng h) {L : List (Trc × AV)} {s : AV} (o : ShOk h L s) (z : ShSz L) : RCall P 73 [s, .func (.func 74) [] []] h (fun v h' => IsSl h' v 1 ((L.map fun x => chkTr x.1).map intRow)) := by
  refine .st2 22 T.mix T.c73 ?_;intro ts hlen t0 t1;unfold fn73
  have zl := z.l
  refine Rs (A3 @t0 @t1 o.sl.lenm) ?_
  refine WL.inv T.mix (fun n ts K => ∃ (k : Nat) (t : AV), k ≤ L.length ∧ n = L.length - k ∧ Ext h K ∧ Fr h.length K t 1 (((L.take k).map fun x => chkTr x.1).map intRow) ∧ ts.length = 22 ∧ slot ts 1 = .func (.func 74) [] [] ∧ slot ts 5 = t ∧ slot ts 8 = s ∧ slot ts 9 = .int .i64 L.length ∧ slot ts 10 = .int .i64 k) L.length
    ⟨0, .nilSlice, by omega, rfl, .refl _, .nil, Sn, (Sq @t1), Sw, Sw, Sw, Swr⟩ ?_
  clear hlen t0 t1
  rintro _ ts K ⟨k, t, hk, rfl, eK, hfr, hlen, t1, t5, t8, t9, t10⟩
  have hsK := o.sl.ext eK
  by_cases hlt : k < L.length
  case neg =>
    have e3 := dltF hlt
    have e4 : k = L.length := by omega
    rw [e4, List.take_length] at hfr
    refine Rs (A6 @t1 @t5 @t8 @t9 @t10 @e3) ?_
    exact ⟨eK, hfr.isSl⟩
  have e3 := dltT hlt
  have e5 := wrapN (n := k) (by omega)
  have ix := hsK.ixm (kk := .i64) hlt
  obtain ⟨x, hx⟩ : ∃ x, x = L[k] := ⟨_, rfl⟩
  have ld : ∀ {kk : AHeap}, Ext K kk → loadF (some 10) (elp s 10 k) (fun b => kk[b]?) = some (.agg (trRow x), .keep) := fun {kk} e => by rw [hx]; exact hsK.ldm hlt e
  have hmem : x ∈ L := by rw [hx]; exact List.getElem_mem _
  have ox := (o.all x hmem).one
  have ot := hfr.isSl.one
  have htk : L.take (k + 1) = L.take k ++ [x] := by rw [hx]; exact List.take_succ_eq_append_getElem hlt
  have bz := @z10_box
  have st := @st_tr x ox
  refine Rs (A10 @t1 @t5 @t8 @t9 @t10 @e3 @ix @ld @bz @st) ?_
  obtain ⟨K1, hK1⟩ : ∃ K1, K1 = K ++ [ABlk.cells (trRow x) true false] := ⟨_, rfl⟩
  have eK1 : Ext K K1 := by rw [hK1]; exact Xx
  have m7 : K1[K.length]? = some (.cells (trRow x) true false) := by rw [hK1]; exact at_new
  have l7 := @ldx _ _ _ m7
  have l10 := @tr_l10 x
  rw [← hK1]
  refine Rs (A8 @t1 @t5 @t8 @t9 @t10 @l7 @l10 @ot) ?_
  refine WF.ce T.c74 (r74 T (rg.ext (eK.trans eK1)) ((o.all x hmem).ext (eK.trans eK1)) (z.s x hmem)) fun g1 => ?_
  have bs : ∀ {N : Nat}, bslF 1 1 (fillA [.int .i64 0] [(0, 1, .int .i64 (chkTr x.1))]) N = some (.slice N 0 1 1, .push (.cells [.int .i64 (chkTr x.1)] true true)) := fun {N} => rfl
  refine Rs (A7 @t1 @t5 @t8 @t9 @t10 @ot @bs) ?_
  refine WR.appR (B := h) (cs := ((L.take k).map fun x => chkTr x.1).map intRow) (z := intRow (chkTr x.1)) ((hfr.ext eK1).app _) rfl (eK.trans (eK1.trans ⟨_, rfl⟩)) (by decide) (by rw [List.length_map, List.length_map, List.length_take]; omega) ?_
  intro W5 s' x5 hff q5
  have hrow : ((L.take k).map fun x => chkTr x.1).map intRow ++ [intRow (chkTr x.1)] = ((L.take (k + 1)).map fun x => chkTr x.1).map intRow := by rw [htk, List.map_append, List.map_append]; rfl
  rw [hrow] at hff
  refine Rs (A7 @t1 @t5 @t8 @t9 @t10 @q5 @e5) ?_
  exact ⟨L.length - (k + 1), by omega, k + 1, s', by omega, rfl, x5, hff, rfl, rfl⟩
set_option maxHeartbeats 4000000 in
theorem iter_live {b : Nat} {nm : List UInt8} {s : AV} {L : List (Trc × AV)} (m : h[b]? = some (.cells (shC nm s) true false)) (o : ShOk h L s) (z : ShSz L) :
    Iter P 76 [] [.ptr b 0] (liveL 0 L) (Ext h) := by
  refine ⟨fun l h1 J Dn hpre happ hstep hend h0 => GCall.of T.mix T.c76 ?_⟩
  have zl := z.l
  have e1 := hpre 0 h1 h0
  unfold fn76
  have hlm := fun G => o.sl.lenm G
  have l1 : loadF none (.ptr b 1) (fun z => h1[z]?) = some (s, .keep) := by rw [loadF_at (e1.some m)]; rfl
  refine Ws (A2 @l1 @hlm) ?_
  refine WL.inv T.mix (fun n ts h' => ∃ k j : Nat, k ≤ L.length ∧ n = L.length - k ∧ j ≤ (liveL 0 L).length ∧ (liveL 0 L).drop j = liveL (0 + k) (L.drop k) ∧ J j h' ∧ ts.length = 24 ∧ slot ts 0 = .func (.yield l) [] [] ∧ slot ts 6 = s ∧ slot ts 7 = .int .i64 L.length ∧ slot ts 8 = .int .i64 k) L.length
    ⟨0, 0, by omega, rfl, by omega, rfl, h0, rfl, rfl, rfl, rfl, rfl⟩ ?_
  rintro _ ts h' ⟨k, j, hk, rfl, hj, hd, hJ, hlen, t0, t6, t7, t8⟩
  by_cases hlt : k < L.length
  case neg =>
    have e3 := dltF hlt
    have e4 : k = L.length := by omega
    have e5 : j = (liveL 0 L).length := by
      rw [e4, List.drop_length] at hd
      have : (List.drop j (liveL 0 L)).length = 0 := by rw [hd]; rfl
      rw [List.length_drop] at this
      omega
    refine Rs (A5 @t0 @t6 @t7 @t8 @e3) ?_
    refine hend h' ?_
    rw [← e5]; exact hJ
  have e3 := dltT hlt
  have e2 := hpre _ _ hJ
  have e5 := wrapN (n := k) (by omega)
  have oK := o.ext e2
  have ix := oK.sl.ixm (kk := .i64) hlt
  obtain ⟨x, hx⟩ : ∃ x, x = L[k] := ⟨_, rfl⟩
  have ld : ∀ {kk : AHeap}, Ext h' kk → loadF (some 10) (elp s 10 k) (fun b => kk[b]?) = some (.agg (trRow x), .keep) := fun {kk} e => by rw [hx]; exact oK.sl.ldm hlt e
  have hmem : x ∈ L := by rw [hx]; exact List.getElem_mem _
  have ox := (o.all x hmem).one
  have bz := @z10_box
  have st := @st_tr x ox
  have hdk := liveL_drop L hlt 0
  rw [← hx] at hdk
  simp only [Nat.zero_add] at hdk hd
  refine Rs (A9 @t0 @t6 @t7 @t8 @e3 @ix @ld @bz @st) ?_
  obtain ⟨K1, hK1⟩ : ∃ K1, K1 = h' ++ [ABlk.cells (trRow x) true false] := ⟨_, rfl⟩
  have m7 : K1[h'.length]? = some (.cells (trRow x) true false) := by rw [hK1]; exact at_new
  have hJ1 : J j K1 := by rw [hK1]; exact happ _ _ _ hJ
  have l7 := @ldx _ _ _ m7
  have l10 := @tr_l10 x
  have lh : ldV (trRow x)[8]? = some (.bool x.1.hole, .keep) := rfl
  rw [← hK1]
  cases hb : x.1.hole with
  | true =>
    rw [if_pos hb] at hdk
    refine Rs (A9 @t0 @t6 @t7 @t8 @l7 @lh @hb @Bool.not_true @e5) ?_
    exact ⟨L.length - (k + 1), by omega, k + 1, j, by omega, rfl, hj, hd.trans hdk, hJ1, rfl⟩
  | false =>
    rw [if_neg (by rw [hb]; decide)] at hdk
    rw [hdk] at hd
    have hjl : j < (liveL 0 L).length := by
      have : (List.drop j (liveL 0 L)).length ≠ 0 := by rw [hd]; simp
      rw [List.length_drop] at this
      omega
    have hj1 : (liveL 0 L)[j] = [.int .i64 (k : Int), .agg (trRow x)] := by
      have := List.drop_eq_getElem_cons hjl
      rw [hd] at this
      have := (List.cons.inj this).1
      rw [← this]
    have hj2 : (liveL 0 L).drop (j + 1) = liveL (k + 1) (L.drop (k + 1)) := by
      have := List.drop_eq_getElem_cons hjl
      rw [hd] at this
      exact (List.cons.inj this).2.symm
    obtain ⟨bb, k', q1, q2⟩ := hstep j hjl K1 hJ1
    rw [hj1] at q1
    refine Rs (A9 @t0 @t6 @t7 @t8 @l7 @lh @l10 @hb @Bool.not_false) ?_
    refine WF.valg q1 ?_
    cases bb with
    | true =>
      refine Rs (A6 @t0 @t6 @t7 @t8 @Bool.not_true @e5) ?_
      exact ⟨L.length - (k + 1), by omega, k + 1, j + 1, by omega, rfl, by omega, hj2, q2, rfl⟩
    | false =>
      refine Rs (A5 @t0 @t6 @t7 @t8 @Bool.not_false) ?_
      exact q2
theorem r35 {nm : List UInt8} {s : AV} (os : s.one = true) : RCall P 35 [.agg [.str nm, s]] h (fun v h' => ∃ b, v = .func (.func 76) [] [.ptr b 0] ∧ h'[b]? = some (.cells (shC nm s) true false)) := by
  refine .st1 4 T.mix T.c35 ?_;intro ts hlen t0;unfold fn35
  have bx := @sh_box nm s os
  refine Rs (A2 @t0 @bx) ?_
  exact ⟨_, rfl, at_new⟩
end
end Go.Abs
namespace Go.Abs

theorem widN_live (L : List (Trc × AV)) : widN (L.map Prod.fst) = match liveT L with
    | [] => 0
    | x :: _ => x.1.sm.length := by
  unfold widN liveT
  have e : (L.map Prod.fst).find? (fun t => !t.hole) = ((L.filter fun x => !x.1.hole).head?).map Prod.fst := by
    rw [List.head?_filter, List.find?_map]; rfl
  rw [e]
  cases L.filter fun x => !x.1.hole <;> rfl
theorem any_live (L : List (Trc × AV)) (n : Nat) : ((L.map Prod.fst).any fun t => !t.hole && decide (t.sm.length ≠ n)) = (liveT L).any fun x => decide (x.1.sm.length ≠ n) := by
  unfold liveT
  rw [List.any_map, List.any_filter]
  rfl
/-- What a body leaves behind the loop's block. -/
theorem at_it {Y g : AHeap} {R B X : ABlk} : (Y ++ [B] ++ (g ++ [X]))[(Y ++ [R] ++ g).length]? = some X := by
  have e : (Y ++ [R] ++ g).length = (Y ++ [B] ++ g).length := by simp only [List.length_append, List.length_cons, List.length_nil]
  rw [e, ← List.append_assoc]; exact at_new
theorem set_it {Y G : AHeap} {B v : ABlk} {b : Nat} (hb : b < Y.length) : (Y ++ [B] ++ G).set b v = Y.set b v ++ [B] ++ G := by
  rw [List.append_assoc, List.set_append_left _ _ hb, List.append_assoc]
theorem get_it {Y G : AHeap} {B k : ABlk} {b : Nat} (hb : Y[b]? = some k) : (Y ++ [B] ++ G)[b]? = some k := (show Ext Y (Y ++ [B] ++ G) from ⟨[B] ++ G, by rw [List.append_assoc]⟩).some hb
theorem st1_at {K : AHeap} {b : Nat} {v w : AV} (m : K[b]? = some (.cells [w] true false)) (ov : v.one = true) : storeF 1 (.ptr b 0) v (fun z => K[z]?) = some (undefA, .set b (.cells [v] true false)) := by
  rw [storeF_at m, stB_one ov (by show 0 + 1 ≤ 1; omega)]; rfl
set_option maxRecDepth 10000
attribute [local irreducible] WP WC WE WB WR WF WL WG WRg WQ
section
variable {P : Program} (T : Tbl P) {h : AHeap}
include T
set_option maxHeartbeats 4000000 in
theorem r38 {nm : List UInt8} {s : AV} {L : List (Trc × AV)} (o : ShOk h L s) (z : ShSz L) : RCall P 38 [.agg [.str nm, s]] h (fun v _ => ∃ q : Bool, v = .tup [.int .i64 (widN (L.map Prod.fst) : Nat), .bool q]) := by
  refine .st1 13 T.mix T.c38 ?_;intro ts hlen t0;unfold fn38
  have bx := @sh_box nm s o.sl.one
  have l2 := @sh_l2 nm s
  refine Rs (A3 @t0 @bx @l2) ?_
  refine WF.res T.c35 (r35 T o.sl.one) ?_
  rintro _ g1 ⟨b, rfl, mb⟩
  obtain ⟨Y, hY⟩ : ∃ Y, Y = h ++ [ABlk.cells (shC nm s) true false] ++ [ABlk.cells [AV.int .i64 0] true false] ++ [ABlk.cells [AV.bool false] true false] ++ g1 := ⟨_, rfl⟩
  have eY : Ext h Y := by rw [hY]; exact Xx
  have m2 : Y[(h ++ [ABlk.cells (shC nm s) true false]).length]? = some (.cells [AV.int .i64 0] true false) := by rw [hY]; exact at_2
  have m3 : Y[(h ++ [ABlk.cells (shC nm s) true false] ++ [ABlk.cells [AV.int .i64 0] true false]).length]? = some (.cells [AV.bool false] true false) := by rw [hY]; exact at_1
  obtain ⟨b2, hb2⟩ : ∃ b, b = (h ++ [ABlk.cells (shC nm s) true false]).length := ⟨_, rfl⟩
  obtain ⟨b3, hb3⟩ : ∃ b, b = (h ++ [ABlk.cells (shC nm s) true false] ++ [ABlk.cells [AV.int .i64 0] true false]).length := ⟨_, rfl⟩
  have n2 : h.length ≤ b2 := by rw [hb2]; simp only [List.length_append]; omega
  have n3 : h.length ≤ b3 := by rw [hb3]; simp only [List.length_append]; omega
  have n23 : b2 ≠ b3 := by rw [hb2, hb3]; simp only [List.length_append, List.length_cons, List.length_nil]; omega
  rw [← hb2] at m2
  rw [← hb3] at m3
  rw [← hY] at mb
  rw [← hb2, ← hb3, ← hY]
  clear hY hb2 hb3
  have oY := o.ext eY
  have q2 := (List.getElem?_eq_some_iff.1 m2).1
  have q3 := (List.getElem?_eq_some_iff.1 m3).1
  refine Rs @t0 ?_
  refine WC.iter T.mix T.c76 (a := []) (c := [.ptr b 0]) Sw (iter_live T mb oY z) (liveL_two L 0)
    (fun i h' g => i = 0 ∧ h' = Y) (fun e h' g => e = .ret ∧ ∃ x r, liveT L = x :: r ∧ h' = (Y.set b2 (.cells [.int .i64 (x.1.sm.length : Nat)] true false)).set b3 (.cells [.bool true] true false))
    ⟨rfl, rfl⟩ (fun i h' g g' hI => hI) (fun i h' g X hl hI => ?_) (fun i hi h' g R B hl' hI => ?_) (fun e h' g hl hI => ?_)
  · obtain ⟨_, rfl⟩ := hI
    exact Xx
  · obtain ⟨rfl, rfl⟩ := hI
    have hi2 : 0 < (liveT L).length := by rw [← liveL_len L 0]; exact hi
    obtain ⟨n, en⟩ := liveL_at L 0 0 hi hi2
    rw [en]
    obtain ⟨x, r, hxr⟩ : ∃ x r, liveT L = x :: r := by
      cases hq : liveT L with
      | nil => rw [hq] at hi2; simp at hi2
      | cons x r => exact ⟨x, r, rfl⟩
    have ex : (liveT L)[0] = x := by simp only [hxr, List.getElem_cons_zero]
    rw [ex]
    have hmem : x ∈ L := (List.mem_filter.1 (show x ∈ liveT L by rw [hxr]; exact List.mem_cons_self ..)).1
    have hx := oY.all x hmem
    have bz := @z10_box
    have st := @st_tr x hx.one
    simp only [setArgs]
    refine Rs (A3 @t0 @bz @st) ?_
    refine ⟨h', g ++ [ABlk.cells (trRow x) true false], by rw [← List.append_assoc], rfl, ?_⟩
    have l5 : ∀ {n : Option Nat} {a : Nat}, loadF n (.ptr (h' ++ [R] ++ g).length a) (fun z => (h' ++ [B] ++ (g ++ [ABlk.cells (trRow x) true false]))[z]?) = ldB n a (.cells (trRow x) true false) := fun {n a} => loadF_at at_it
    have l9 : ldV (trRow x)[9]? = some (x.2, .keep) := rfl
    have lm := fun G => hx.lenm G
    have s2 := st1_at (v := .int .i64 (x.1.sm.length : Nat)) (get_it (B := B) (G := g ++ [ABlk.cells (trRow x) true false]) m2) rfl
    have s3 := st1_at (v := .bool true) (set_ne' (X := .cells [.int .i64 (x.1.sm.length : Nat)] true false) n23 (get_it (B := B) (G := g ++ [ABlk.cells (trRow x) true false]) m3)) rfl
    refine Rs (A6 @t0 @l5 @l9 @lm @s2 @s3) ?_
    refine ⟨(h'.set b2 (.cells [.int .i64 (x.1.sm.length : Nat)] true false)).set b3 (.cells [.bool true] true false), g ++ [ABlk.cells (trRow x) true false], ?_, ?_, ?_⟩
    · rw [set_it (by rw [List.length_set]; exact q3)]
    · rw [List.length_set, List.length_set]
    · rw [if_neg (fun q => by cases q)]
      exact ⟨x, r, hxr, rfl⟩
  · by_cases hen : e = .normal
    · subst hen
      rw [if_pos rfl] at hI
      obtain ⟨hl0, rfl⟩ := hI
      have hq : liveT L = [] := List.eq_nil_of_length_eq_zero (by rw [← liveL_len L 0]; exact hl0)
      have hw : widN (L.map Prod.fst) = 0 := by rw [widN_live, hq]
      have s2 := st1_at (v := .int .i64 0) (get_it (B := .dead) (G := g) m2) rfl
      have s3 := st1_at (v := .bool false) (set_ne' (X := .cells [.int .i64 0] true false) n23 (get_it (B := .dead) (G := g) m3)) rfl
      have k2 : (((h' ++ [ABlk.dead] ++ g).set b2 (.cells [.int .i64 0] true false)).set b3 (.cells [.bool false] true false))[b2]? = some (.cells [.int .i64 0] true false) := set_ne' (fun q => n23 q.symm) (set_eq' (get_it m2))
      have k3 : (((h' ++ [ABlk.dead] ++ g).set b2 (.cells [.int .i64 0] true false)).set b3 (.cells [.bool false] true false))[b3]? = some (.cells [.bool false] true false) := set_eq' (set_ne' n23 (get_it m3))
      have eK : Ext h (((h' ++ [ABlk.dead] ++ g).set b2 (.cells [.int .i64 0] true false)).set b3 (.cells [.bool false] true false)) := ext_setG (ext_setG (eY.trans Xx) n2) n3
      have f2 := @loadF_at none b2 0 _ _ k2
      have f3 := @loadF_at none b3 0 _ _ k3
      refine Rs (A5 @t0 @s2 @s3 @f2 @f3) ?_
      rw [set_it q2] at eK
      exact ⟨eK, _, by rw [hw]; rfl⟩
    · rw [if_neg hen] at hI
      obtain ⟨rfl, x, r, hxr, rfl⟩ := hI
      have hw : widN (L.map Prod.fst) = x.1.sm.length := by rw [widN_live, hxr]
      have k2 : ((Y.set b2 (.cells [.int .i64 (x.1.sm.length : Nat)] true false)).set b3 (.cells [.bool true] true false) ++ [ABlk.dead] ++ g)[b2]? = some (.cells [.int .i64 (x.1.sm.length : Nat)] true false) := get_it (set_ne' (fun q => n23 q.symm) (set_eq' m2))
      have k3 : ((Y.set b2 (.cells [.int .i64 (x.1.sm.length : Nat)] true false)).set b3 (.cells [.bool true] true false) ++ [ABlk.dead] ++ g)[b3]? = some (.cells [.bool true] true false) := get_it (set_eq' (set_ne' n23 m3))
      have eK : Ext h ((Y.set b2 (.cells [.int .i64 (x.1.sm.length : Nat)] true false)).set b3 (.cells [.bool true] true false) ++ [ABlk.dead] ++ g) := (ext_setG (ext_setG eY n2) n3).trans Xx
      have f2 := @loadF_at none b2 0 _ _ k2
      have f3 := @loadF_at none b3 0 _ _ k3
      refine Rs (A3 @t0 @f2 @f3) ?_
      exact ⟨eK, _, by rw [hw]⟩
set_option maxHeartbeats 8000000 in
theorem r24 (rg : Rng h) {nm : List UInt8} {s : AV} {L : List (Trc × AV)} (o : ShOk h L s) (z : ShSz L) : RCall P 24 [.agg [.str nm, s]] h (fun v _ => v = .int .i64 (chkSh nm (L.map Prod.fst))) := by
  refine .st1 50 T.mix T.c24 ?_;intro ts hlen t0;unfold fn24
  have bx := @sh_box nm s o.sl.one
  have l2 := @sh_l2 nm s
  have ln : ldV (shC nm s)[0]? = some (.str nm, .keep) := rfl
  have ls : ldV (shC nm s)[1]? = some (s, .keep) := rfl
  have hlm := fun G => o.sl.lenm G
  obtain ⟨b1, hb1⟩ : ∃ b, b = h.length := ⟨_, rfl⟩
  obtain ⟨b2, hb2⟩ : ∃ b, b = (h ++ [ABlk.cells (shC nm s) true false]).length := ⟨_, rfl⟩
  obtain ⟨Y, hY⟩ : ∃ Y, Y = h ++ [ABlk.cells (shC nm s) true false] ++ [ABlk.cells [AV.int .i64 0] true false] := ⟨_, rfl⟩
  have eY : Ext h Y := by rw [hY]; exact Xx
  have m1 : Y[b1]? = some (.cells (shC nm s) true false) := by rw [hY, hb1]; exact at_1
  have m2 : Y[b2]? = some (.cells [AV.int .i64 0] true false) := by rw [hY, hb2]; exact at_new
  have n2 : h.length ≤ b2 := by rw [hb2]; simp only [List.length_append]; omega
  have n12 : b1 ≠ b2 := by rw [hb1, hb2]; simp only [List.length_append, List.length_cons, List.length_nil]; omega
  refine Rs (A2 @t0 @bx) ?_
  rw [← hb1, ← hb2, ← hY]
  clear hY hb1 hb2
  have l1 := @ldx _ _ _ m1
  have e1 : (((L.length : Nat) : Int) = 0) = (L.length = 0) := by simp
  have dz : decide ((L.length : Int) = 0) = decide (L.length = 0) := decide_eq_decide.2 (by omega)
  have dg : decide ((64 : Int) < (L.length : Int)) = decide (64 < L.length) := decide_eq_decide.2 (by omega)
  repeat (first | simp (config := { maxSteps := 1000000 }) only [wset, hset, dset, bset, Nat.reduceAdd, Nat.reduceMul, Nat.reduceLeDiff, Nat.reduceEqDiff, pset, hlen, if_false, if_true, t0, l1, ln] | simp (config := { maxSteps := 1000000 }) (disch := first | (simp only [List.length_append, List.length_cons, List.length_nil] <;> omega) | rfl | omega | fail) only [kset, wset, hset, dset, bset, Nat.reduceAdd, Nat.reduceMul, Nat.reduceLeDiff, Nat.reduceEqDiff, pset, hlen, if_false, if_true, t0, l1, ln])
  refine WF.ce T.c72 (r72 T nm) fun g1 => ?_
  refine Rs @t0 ?_
  refine WF.ce T.c71 (r71 T _ _) fun g2 => ?_
  refine Rs (A5 @t0 @l1 @ls @hlm @dz) ?_
  refine WF.ce T.c71 (r71 T _ _) fun g3 => ?_
  refine Rs (A5 @t0 @l1 @ls @hlm @dg) ?_
  refine WF.ce T.c71 (r71 T _ _) fun g4 => ?_
  refine Rs @t0 ?_
  refine WF.ce T.c23 (r23 T (isSl_ints [_, _, _]) (by simp)) fun g5 => ?_
  obtain ⟨K1, hK1⟩ : ∃ K, K = Y ++ g1 ++ g2 ++ g3 ++ g4 ++ [ABlk.cells [AV.int .i64 (whenS (!nameS nm) 8), AV.int .i64 (whenS (decide (L.length = 0)) 12), AV.int .i64 (whenS (decide (64 < L.length)) 5)] true true] ++ g5 := ⟨_, rfl⟩
  have f1 : Ext Y K1 := by rw [hK1]; exact Xx
  rw [← hK1]
  clear hK1
  have hc : chkSh nm (L.map Prod.fst) = firstS [whenS (!nameS nm) 8, whenS (decide (L.length = 0)) 12, whenS (decide (64 < L.length)) 5, firstS (L.map fun x => chkTr x.1), whenS ((liveT L).any fun x => decide (x.1.sm.length ≠ widN (L.map Prod.fst))) 2] := by
    unfold chkSh
    rw [List.length_map, List.map_map, any_live]
    rfl
  have f3 : ∀ {a b c d e : Int}, firstS [a, b, c, d, e] = if firstS [a, b, c] ≠ 0 then firstS [a, b, c] else firstS [d, e] := fun {a b c d e} => by
    simp only [firstS]
    by_cases ha : a = 0 <;> by_cases hb : b = 0 <;> by_cases hc : c = 0 <;> simp [ha, hb, hc]
  rw [f3] at hc
  obtain ⟨E, hE⟩ : ∃ E, E = firstS [whenS (!nameS nm) 8, whenS (decide (L.length = 0)) 12, whenS (decide (64 < L.length)) 5] := ⟨_, rfl⟩
  rw [← hE] at hc ⊢
  clear hE f3
  by_cases hz : E = 0
  case neg =>
    have d1 : decide (E ≠ 0) = true := decide_eq_true hz
    have s2 := st1_at (v := .int .i64 E) (f1.some m2) rfl
    have k2 : (K1.set b2 (.cells [.int .i64 E] true false))[b2]? = some (.cells [.int .i64 E] true false) := set_eq' (f1.some m2)
    have f2 := @loadF_at none b2 0 _ _ k2
    have eK : Ext h (K1.set b2 (.cells [.int .i64 E] true false)) := ext_setG (eY.trans f1) n2
    rw [if_pos hz] at hc
    refine Rs (A4 @t0 @d1 @s2 @f2) ?_
    exact ⟨eK, by rw [hc]⟩
  have d1 : decide (E ≠ 0) = false := decide_eq_false fun z => z hz
  rw [if_neg (fun z => z hz)] at hc
  have l1 := @ldx _ _ _ (f1.some m1)
  have oK := o.ext (eY.trans f1)
  refine Rs (A4 @t0 @d1 @l1 @ls) ?_
  refine WF.res T.c73 (r73 T (rg.ext (eY.trans f1)) oK z) ?_
  intro v g6 is6
  refine Rs @t0 ?_
  refine WF.ce T.c23 (r23 T is6 (by rw [List.length_map]; have := z.l; omega)) fun g7 => ?_
  obtain ⟨K2, hK2⟩ : ∃ K, K = K1 ++ g6 ++ g7 := ⟨_, rfl⟩
  have f2 : Ext K1 K2 := by rw [hK2]; exact Xx
  rw [← hK2]
  clear hK2
  obtain ⟨E2, hE2⟩ : ∃ E, E = firstS (L.map fun x => chkTr x.1) := ⟨_, rfl⟩
  rw [← hE2] at hc ⊢
  by_cases hz2 : E2 = 0
  case neg =>
    have d2 : decide (E2 ≠ 0) = true := decide_eq_true hz2
    have s2 := st1_at (v := .int .i64 E2) ((f1.trans f2).some m2) rfl
    have k2 : (K2.set b2 (.cells [.int .i64 E2] true false))[b2]? = some (.cells [.int .i64 E2] true false) := set_eq' ((f1.trans f2).some m2)
    have f4 := @loadF_at none b2 0 _ _ k2
    have eK : Ext h (K2.set b2 (.cells [.int .i64 E2] true false)) := ext_setG (eY.trans (f1.trans f2)) n2
    rw [firstS, if_neg hz2] at hc
    refine Rs (A4 @t0 @d2 @s2 @f4) ?_
    exact ⟨eK, by rw [hc]⟩
  have d2 : decide (E2 ≠ 0) = false := decide_eq_false fun z => z hz2
  rw [firstS, if_pos hz2] at hc
  have l1 := @ldx _ _ _ ((f1.trans f2).some m1)
  refine Rs (A4 @t0 @d2 @l1 @l2) ?_
  refine WF.res T.c38 (r38 T (oK.ext f2) z) ?_
  rintro _ g8 ⟨q, rfl⟩
  obtain ⟨n, hn⟩ : ∃ n, n = widN (L.map Prod.fst) := ⟨_, rfl⟩
  rw [← hn] at hc ⊢
  have b0 : ∀ {N : Nat}, boxF (.int .i64 0) N = some (.ptr N 0, .push (.cells [.int .i64 0] true false)) := fun {N} => rfl
  have s5 : ∀ {b : Nat}, stB 1 0 (.int .i64 (n : Int)) b (.cells [.int .i64 0] true false) = some (undefA, .set b (.cells [.int .i64 (n : Int)] true false)) := fun {b} => (stB_one rfl (by show 0 + 1 ≤ 1; omega)).trans rfl
  refine Rs (A3 @t0 @b0 @s5) ?_
  obtain ⟨K3, hK3⟩ : ∃ K, K = K2 ++ g8 ++ [ABlk.cells [AV.int .i64 (n : Int)] true false] := ⟨_, rfl⟩
  have f3 : Ext K2 K3 := by rw [hK3]; exact Xx
  have m5 : K3[(K2 ++ g8).length]? = some (.cells [AV.int .i64 (n : Int)] true false) := by rw [hK3]; exact at_new
  obtain ⟨b5, hb5⟩ : ∃ b, b = (K2 ++ g8).length := ⟨_, rfl⟩
  rw [← hb5] at m5
  rw [← hK3, ← hb5]
  have n5 : b2 ≠ b5 := by
    have := (List.getElem?_eq_some_iff.1 ((f1.trans f2).some m2)).1
    rw [hb5]; simp only [List.length_append]; omega
  clear hK3 hb5
  have l1 := @ldx _ _ _ ((f1.trans (f2.trans f3)).some m1)
  refine Rs (A3 @t0 @l1 @l2) ?_
  refine WF.res T.c35 (r35 T o.sl.one) ?_
  rintro _ g9 ⟨b, rfl, mb⟩
  obtain ⟨W, hW⟩ : ∃ W, W = K3 ++ g9 := ⟨_, rfl⟩
  have f4 : Ext K3 W := by rw [hW]; exact Xx
  rw [← hW] at mb ⊢
  clear hW
  have eW : Ext h W := eY.trans (f1.trans (f2.trans (f3.trans f4)))
  have oW := o.ext eW
  have mW2 := (f1.trans (f2.trans (f3.trans f4))).some m2
  have mW5 := f4.some m5
  have q2 := (List.getElem?_eq_some_iff.1 mW2).1
  obtain ⟨bad, hbad⟩ : ∃ bad : Trc × AV → Bool, bad = fun x => decide (x.1.sm.length ≠ n) := ⟨_, rfl⟩
  rw [← hbad] at hc
  refine Rs @t0 ?_
  refine WC.iter T.mix T.c76 (a := []) (c := [.ptr b 0]) Sw (iter_live T mb oW z) (liveL_two L 0)
    (fun i h' g => ((liveT L).take i).any bad = false ∧ h' = W) (fun e h' g => e = .ret ∧ (liveT L).any bad = true ∧ h' = W.set b2 (.cells [.int .i64 2] true false))
    ⟨rfl, rfl⟩ (fun i h' g g' hI => hI) (fun i h' g X hl hI => ?_) (fun i hi h' g R B hl' hI => ?_) (fun e h' g hl hI => ?_)
  · obtain ⟨_, rfl⟩ := hI
    exact Xx
  · obtain ⟨hany, rfl⟩ := hI
    have hi2 : i < (liveT L).length := by rw [← liveL_len L 0]; exact hi
    obtain ⟨j, en⟩ := liveL_at L 0 i hi hi2
    rw [en]
    obtain ⟨x, hx0⟩ : ∃ x, x = (liveT L)[i] := ⟨_, rfl⟩
    have htk : (liveT L).take (i + 1) = (liveT L).take i ++ [x] := by rw [hx0]; exact List.take_succ_eq_append_getElem hi2
    rw [← hx0]
    have hmem : x ∈ L := (List.mem_filter.1 (show x ∈ liveT L by rw [hx0]; exact List.getElem_mem _)).1
    have hx := oW.all x hmem
    have bz := @z10_box
    have st := @st_tr x hx.one
    simp only [setArgs]
    refine Rs (A3 @t0 @bz @st) ?_
    refine ⟨h', g ++ [ABlk.cells (trRow x) true false], by rw [← List.append_assoc], rfl, ?_⟩
    have l8 : ∀ {n : Option Nat} {a : Nat}, loadF n (.ptr (h' ++ [R] ++ g).length a) (fun z => (h' ++ [B] ++ (g ++ [ABlk.cells (trRow x) true false]))[z]?) = ldB n a (.cells (trRow x) true false) := fun {n a} => loadF_at at_it
    have l9 : ldV (trRow x)[9]? = some (x.2, .keep) := rfl
    have lm := fun G => hx.lenm G
    have l5 := @loadF_at none b5 0 _ _ (get_it (B := B) (G := g ++ [ABlk.cells (trRow x) true false]) mW5)
    have s2 := st1_at (v := .int .i64 2) (get_it (B := B) (G := g ++ [ABlk.cells (trRow x) true false]) mW2) rfl
    have bx : bad x = decide (x.1.sm.length ≠ n) := by rw [hbad]
    by_cases hne : x.1.sm.length ≠ n
    · have d3 : decide ((x.1.sm.length : Int) ≠ (n : Int)) = true := decide_eq_true (by omega)
      refine Rs (A7 @t0 @l8 @l9 @lm @l5 @d3 @s2) ?_
      refine ⟨h'.set b2 (.cells [.int .i64 2] true false), g ++ [ABlk.cells (trRow x) true false], rfl, by rw [List.length_set], ?_⟩
      rw [if_neg (fun q => by cases q)]
      refine ⟨?_, rfl⟩
      rw [List.any_eq_true]
      exact ⟨x, by rw [hx0]; exact List.getElem_mem _, by rw [bx]; exact decide_eq_true hne⟩
    · have d3 : decide ((x.1.sm.length : Int) ≠ (n : Int)) = false := decide_eq_false (by omega)
      refine Rs (A6 @t0 @l8 @l9 @lm @l5 @d3) ?_
      refine ⟨h', g ++ [ABlk.cells (trRow x) true false], rfl, rfl, ?_⟩
      refine ⟨?_, rfl⟩
      rw [htk, List.any_append, hany]
      simp only [List.any_cons, List.any_nil, bx, Bool.or_false, Bool.false_or]
      exact decide_eq_false hne
  · by_cases hen : e = .normal
    · subst hen
      rw [if_pos rfl] at hI
      obtain ⟨hany, rfl⟩ := hI
      rw [liveL_len, List.take_length] at hany
      have s2 := st1_at (v := .int .i64 0) (get_it (B := .dead) (G := g) mW2) rfl
      have k2 : ((h' ++ [ABlk.dead] ++ g).set b2 (.cells [.int .i64 0] true false))[b2]? = some (.cells [.int .i64 0] true false) := set_eq' (get_it mW2)
      have eK : Ext h ((h' ++ [ABlk.dead] ++ g).set b2 (.cells [.int .i64 0] true false)) := ext_setG (eW.trans Xx) n2
      have f2 := @loadF_at none b2 0 _ _ k2
      refine Rs (A3 @t0 @s2 @f2) ?_
      rw [set_it q2] at eK
      exact ⟨eK, by rw [hc, hany]; rfl⟩
    · rw [if_neg hen] at hI
      obtain ⟨rfl, hany, rfl⟩ := hI
      have k2 : (W.set b2 (.cells [.int .i64 2] true false) ++ [ABlk.dead] ++ g)[b2]? = some (.cells [.int .i64 2] true false) := get_it (set_eq' mW2)
      have eK : Ext h (W.set b2 (.cells [.int .i64 2] true false) ++ [ABlk.dead] ++ g) := (ext_setG eW n2).trans Xx
      have f2 := @loadF_at none b2 0 _ _ k2
      refine Rs (A2 @t0 @f2) ?_
      exact ⟨eK, by rw [hc, hany]; rfl⟩
end
end Go.Abs
