/- Strings, split at a byte; lines. Plain. No condition. · Contracts: the errors of tides. No condition. · Contracts: the reference's errors of tides; the level at a tick. No condition. · Contracts: the level at a tick. No condition. · Contracts: the level with its checks; the seat's own helpers: short rows, rows turned, levels compared. No condition. · Numbers that a floating point format has exactly. No condition. · The value of a number; comparisons, sums and products of numbers that a format has. No condition. · Constants, integers as floats and back, products by 16, differences. No condition. · Products and quotients by 16, the greater format. No condition. · The greater format; numbers that are none; made whole downwards; without the sign. No condition. · Contracts: samples checked, as numbers, out of numbers. No condition. · Contracts: samples checked by the program and by the reference; samples as numbers, and back. No condition. · Contracts: maps over lists. No condition. · Contracts: names. No condition. · Contracts: lists of samples checked, copied, as numbers, and back. No condition. · Contracts: lists of numbers made samples by the program and by the reference; samples and numbers compared. No condition. · Contracts: lists of numbers, of samples compared; what is heard. No condition. · Contracts: ghosts: the program's and the reference's. No condition. · Contracts: a ghost by the program; notches. No condition. · Contracts: a ghost taken off, by the program and by the reference. No condition. · Contracts: quotients to the nearest; multiples by the program and by the reference. No condition. · Contracts: multiples by the program and by the reference. No condition. · Contracts: taps checked by the program and by the reference. No condition. · Texts of lists of integers, and back. Plain. No condition. · Contracts: strings are searched, counted, split at a byte. No condition. · Contracts: the reference: a string split, its digits. No condition. -/
import Derived.Lib.Bytealg
import Derived.Test.YtbgldbmgjcgepaaGreatDoorGa5
import Derived.Laws.FloatBits
import Derived.Test.YtbgldbmgjcgepaaGreatDoorGa1
import Derived.Test.YtbgldbmgjcgepaaGreatDoorGa8
import Derived.Lib.ItoaNum
import Derived.Lib.ItoaLen
import Derived.Lib.ItoaMem
import Derived.Lib.Join
import Derived.Lib.AtoiTie
set_option linter.all false
namespace Go.Abs

/-- The parts of a string between the places of a byte. -/
def splitB (c : UInt8) : List UInt8 → List (List UInt8)
  | [] => [[]]
  | x :: r =>
    if x = c then [] :: splitB c r
    else match splitB c r with
      | p :: ps => (x :: p) :: ps
      | [] => [[x]]
theorem splitB_ne {c : UInt8} : ∀ {s : List UInt8}, splitB c s ≠ []
  | [] => by simp [splitB]
  | x :: r => by
    unfold splitB
    split
    · simp
    · split <;> simp
theorem splitB_no {c : UInt8} : ∀ {s : List UInt8}, c ∉ s → splitB c s = [s]
  | [], _ => rfl
  | x :: r, h => by
    unfold splitB
    rw [if_neg (fun e => h (by simp [e])), splitB_no (fun hr => h (List.mem_cons_of_mem _ hr))]
theorem splitB_app {c : UInt8} {q : List UInt8} : ∀ {p : List UInt8}, c ∉ p → splitB c (p ++ c :: q) = p :: splitB c q
  | [], _ => by simp [splitB]
  | x :: r, h => by
    rw [List.cons_append, splitB, if_neg (fun e => h (by simp [e])), splitB_app (fun hr => h (List.mem_cons_of_mem _ hr))]
theorem splitB_len {c : UInt8} : ∀ {s : List UInt8}, (splitB c s).length = s.count c + 1
  | [] => rfl
  | x :: r => by
    have ih := splitB_len (c := c) (s := r)
    unfold splitB
    by_cases h : x = c
    · subst h; rw [if_pos rfl, List.length_cons, ih, List.count_cons_self]
    · rw [if_neg h, List.count_cons_of_ne h]
      cases hs : splitB c r with
      | nil => exact absurd hs splitB_ne
      | cons p ps => rw [hs] at ih; simpa using ih
theorem splitB_le {c : UInt8} : ∀ {s : List UInt8}, ∀ p ∈ splitB c s, p.length ≤ s.length
  | [] => by simp [splitB]
  | x :: r => by
    have ih := splitB_le (c := c) (s := r)
    intro p hp
    unfold splitB at hp
    rw [List.length_cons]
    by_cases h : x = c
    · rw [if_pos h] at hp
      rcases List.mem_cons.1 hp with rfl | hp
      · simp
      · have := ih p hp; omega
    · rw [if_neg h] at hp
      cases hs : splitB c r with
      | nil => exact absurd hs splitB_ne
      | cons q qs =>
        rw [hs] at hp ih
        rcases List.mem_cons.1 hp with rfl | hp
        · have := ih q (by simp)
          rw [List.length_cons]; omega
        · have := ih p (by simp [hp]); omega
/-- The parts, with the byte between them. -/
def joinB (c : UInt8) : List (List UInt8) → List UInt8
  | [] => []
  | [p] => p
  | p :: ps => p ++ c :: joinB c ps
theorem joinB_cons {c : UInt8} {p : List UInt8} {r : List (List UInt8)} (h : r ≠ []) : joinB c (p :: r) = p ++ c :: joinB c r := by
  cases r with
  | nil => exact absurd rfl h
  | cons => rfl
theorem joinB_split {c : UInt8} : ∀ {s : List UInt8}, joinB c (splitB c s) = s
  | [] => rfl
  | x :: r => by
    have ih := joinB_split (c := c) (s := r)
    unfold splitB
    by_cases h : x = c
    · subst h
      rw [if_pos rfl]
      cases hs : splitB x r with
      | nil => exact absurd hs splitB_ne
      | cons p ps => rw [hs] at ih; rw [joinB, ih] <;> simp
    · rw [if_neg h]
      cases hs : splitB c r with
      | nil => exact absurd hs splitB_ne
      | cons p ps =>
        rw [hs] at ih
        cases ps with
        | nil => rw [joinB] at ih ⊢; rw [ih]
        | cons q qs =>
          rw [joinB] at ih ⊢ <;> first | (rw [← ih]; rfl) | simp
theorem ix_no {c : UInt8} : ∀ {s : List UInt8}, c ∉ s → Lib.indexByte s c = -1
  | [], _ => rfl
  | x :: r, h => by
    unfold Lib.indexByte
    have h1 : (x == c) = false := by simp; exact fun e => h (by simp [e])
    rw [h1, ix_no (fun hr => h (List.mem_cons_of_mem _ hr))]; rfl
theorem ix_app {c : UInt8} {q : List UInt8} : ∀ {p : List UInt8}, c ∉ p → Lib.indexByte (p ++ c :: q) c = p.length
  | [], _ => by simp [Lib.indexByte]
  | x :: r, h => by
    have ih := ix_app (q := q) (fun hr => h (List.mem_cons_of_mem _ hr) : c ∉ r)
    rw [List.cons_append, Lib.indexByte]
    have h1 : (x == c) = false := by simp; exact fun e => h (by simp [e])
    rw [h1, ih]
    have h2 : ((r.length : Int) == -1) = false := by simp
    rw [h2]; simp
/-- Where the byte is. -/
theorem ix_cases (c : UInt8) (s : List UInt8) : (c ∉ s ∧ Lib.indexByte s c = -1) ∨ ∃ p q, c ∉ p ∧ s = p ++ c :: q ∧ Lib.indexByte s c = p.length := by
  by_cases h : c ∈ s
  · right
    obtain ⟨p, q, rfl, hp⟩ := List.eq_append_cons_of_mem h
    exact ⟨p, q, hp, rfl, ix_app hp⟩
  · exact .inl ⟨h, ix_no h⟩

end Go.Abs
namespace Go.Abs

theorem first_w2 (a b : Bool) (x y : Int) : firstS [whenS a x, whenS b y] = if whenS a x = 0 then whenS b y else whenS a x := by
  simp only [firstS]
  by_cases h : whenS a x = 0
  · rw [if_pos h, if_pos h]
    by_cases h2 : whenS b y = 0
    · rw [if_pos h2, h2]
    · rw [if_neg h2]
  · rw [if_neg h, if_neg h]
set_option maxRecDepth 10000
attribute [local irreducible] WP WC WE WB WR WF WL WG WRg WQ
section
variable {P : Program} (T : Tbl P) {h : AHeap}
include T
end
end Go.Abs
namespace Go.Abs

set_option maxRecDepth 10000
attribute [local irreducible] WP WC WE WB WR WF WL WG WRg WQ
section
variable {P : Program} (T : Tbl P) {h : AHeap}
include T
end
end Go.Abs
namespace Go.Abs

theorem set_ne' {K : AHeap} {a b : Nat} {X k : ABlk} (n : a ≠ b) (m : K[b]? = some k) : (K.set a X)[b]? = some k := by rw [List.getElem?_set_ne n]; exact m
set_option maxRecDepth 10000
attribute [local irreducible] WP WC WE WB WR WF WL WG WRg WQ
section
variable {P : Program} (T : Tbl P) {h : AHeap}
include T
end
end Go.Abs
namespace Go.Abs

/-- append of one row to a slice of one's own. -/
theorem WR.appR {P} {ro} {ks} {ts} {Q} {B Y} {s} {es w} {cs} {z} {d} {l}
    (hs : Fr B.length Y s es cs) (hz : z.length = es) (he : Ext B Y) (hes : 0 < es) (hsz : (cs.length + 1) * w ≤ 2 ^ 46)
    (K : ∀ (W5 : AHeap) (s' : AV), Ext B W5 → Fr B.length W5 s' es (cs ++ [z]) → s'.one = true → WP P ro l ks (put ts d s') W5 Q) :
    WR P ro (appT es w s (.slice Y.length 0 1 es) (fun b => (Y ++ [ABlk.cells z true true])[b]?) (Y ++ [ABlk.cells z true true]).length) false d l ks ts (Y ++ [ABlk.cells z true true]) Q := by
  have hyz : IsSl (Y ++ [ABlk.cells z true true]) (AV.slice Y.length 0 1 es) es [z] := by
    have := (Fr.push (N := 0) (es := es) (h := Y) (Nat.zero_le _) [z] (fun x hx => by rw [List.mem_singleton] at hx; rw [hx, hz])).isSl
    simpa using this
  refine WR.app1 (h0 := B) (cs := cs) (ys := [z]) (hs.app _) hyz hes (by simp) (by simpa using hsz) (he.trans (Ext.app _ (Ext.refl _))) ?_
  intro g' hl' hff hkp
  exact K _ _ ⟨_, rfl⟩ hff rfl

set_option maxRecDepth 10000
attribute [local irreducible] WP WC WE WB WR WF WL WG WRg WQ
section
variable {P : Program} (T : Tbl P) {h : AHeap}
include T
end
end Go.Abs
namespace Go.Abs
open Ieee

end Go.Abs
namespace Go.Abs
open Ieee

def sgN (s : Bool) (m : Nat) : Int := if s then -(m : Int) else m
/-- The value of a number, in parts of 2 ^ -1200. -/
def vl : Datum → Int
  | .number s m e => sgN s m * 2 ^ (e + 1200).toNat
  | _ => 0
/-- A float that is a number of this value. -/
def Num (k : FloatKind) (b : Nat) (v : Int) : Prop := ∃ s m e, k.format.read b = .number s m e ∧ -1200 ≤ e ∧ v = vl (.number s m e)
section
variable {k : FloatKind} {a b : Nat} {u v : Int} (ha : Num k a u) (hb : Num k b v)
include ha hb
end
end Go.Abs
namespace Go.Abs
open Ieee

end Go.Abs
namespace Go.Abs
open Ieee

def c16 : FloatKind → Nat
  | .f32 => 1098907648
  | .f64 => 4625196817309499392
end Go.Abs
namespace Go.Abs
open Ieee

end Go.Abs
namespace Go.Abs
open Ieee

set_option maxRecDepth 10000
attribute [local irreducible] WP WC WE WB WR WF WL WG WRg WQ
section
variable {P : Program} (T : Tbl P) {h : AHeap}
include T
end
end Go.Abs
namespace Go.Abs
open Ieee

set_option maxRecDepth 10000
attribute [local irreducible] WP WC WE WB WR WF WL WG WRg WQ
section
variable {P : Program} (T : Tbl P) {h : AHeap}
include T
end
end Go.Abs
namespace Go.Abs

def strRow (x : List UInt8) : List AV := [.str x]
set_option maxRecDepth 10000
attribute [local irreducible] WP WC WE WB WR WF WL WG WRg WQ
section
variable {P : Program} (T : Tbl P) {h : AHeap}
include T
set_option maxHeartbeats 2000000 in
theorem q118 {s : AV} {l : List (Int)} (hs : IsSl h s 1 (l.map intRow)) (hl : l.length < 2 ^ 40) {f : FuncId} {AF : AFunc} (hA : compileFn P f = some AF) {g : Int → Int} (hf : ∀ x ∈ l, ∀ k, RCall P f [.int .i64 x] k (fun v _ => v = .int .i64 (g x))) : RCall P 118 [s, .func (.func f) [] []] h (fun v h' => Fr h.length h' v 1 ((l.map g).map intRow)) := by
  refine .st2 22 T.mix T.c118 ?_;intro ts hlen t0 t1;unfold fn118
  refine Rs (A3 @t0 @t1 hs.lenm) ?_
  refine WL.inv T.mix (fun n ts K => ∃ (k : Nat) (t : AV), k ≤ l.length ∧ n = l.length - k ∧ Ext h K ∧ Fr h.length K t 1 (((l.take k).map g).map intRow) ∧ ts.length = 22 ∧ slot ts 1 = .func (.func f) [] [] ∧ slot ts 5 = t ∧ slot ts 8 = s ∧ slot ts 9 = .int .i64 l.length ∧ slot ts 10 = .int .i64 k) l.length
    ⟨0, .nilSlice, by omega, rfl, .refl _, .nil, Sn, (Sq @t1), Sw, Sw, Sw, Swr⟩ ?_
  clear hlen t0 t1
  rintro _ ts K ⟨k, t, hk, rfl, eK, hfr, hlen, t1, t5, t8, t9, t10⟩
  have hsK := hs.ext eK
  by_cases hlt : k < l.length
  case neg =>
    have e3 := dltF hlt
    have e4 : k = l.length := by omega
    rw [e4, List.take_length] at hfr
    refine Rs (A6 @t1 @t5 @t8 @t9 @t10 @e3) ?_
    exact ⟨eK, hfr⟩
  have e3 := dltT hlt
  have e5 := wrapN (n := k) (by omega)
  have ix := hsK.ixm (kk := .i64) hlt
  obtain ⟨x, hx⟩ : ∃ x, x = l[k] := ⟨_, rfl⟩
  have ld : ∀ {kk : AHeap}, Ext K kk → loadF none (elp s 1 k) (fun b => kk[b]?) = some (.int .i64 x, .keep) := fun {kk} e => by rw [hx]; exact hsK.l1m hlt rfl e
  have hmem : x ∈ l := by rw [hx]; exact List.getElem_mem _
  have ot := hfr.isSl.one
  have htk : l.take (k + 1) = l.take k ++ [x] := by rw [hx]; exact List.take_succ_eq_append_getElem hlt
  refine Rs (A9 @t1 @t5 @t8 @t9 @t10 @e3 @ix @ld @ot) ?_
  refine WF.ce hA (hf x hmem _) fun g1 => ?_
  have bs : ∀ {N : Nat}, bslF 1 1 (fillA [.int .i64 0] [(0, 1, .int .i64 (g x))]) N = some (.slice N 0 1 1, .push (.cells [.int .i64 (g x)] true true)) := fun {N} => rfl
  refine Rs (A7 @t1 @t5 @t8 @t9 @t10 @ot @bs) ?_
  refine WR.appR (B := h) (cs := ((l.take k).map g).map intRow) (z := intRow (g x)) (hfr.app _) rfl (eK.trans ⟨_, rfl⟩) (by decide) (by rw [List.length_map, List.length_map, List.length_take]; omega) ?_
  intro W5 s' x5 hff q5
  have hrow : ((l.take k).map g).map intRow ++ [intRow (g x)] = ((l.take (k + 1)).map g).map intRow := by rw [htk, List.map_append, List.map_append]; rfl
  rw [hrow] at hff
  refine Rs (A7 @t1 @t5 @t8 @t9 @t10 @q5 @e5) ?_
  exact ⟨l.length - (k + 1), by omega, k + 1, s', by omega, rfl, x5, hff, rfl, rfl⟩
theorem r118 {s : AV} {l : List (Int)} (hs : IsSl h s 1 (l.map intRow)) (hl : l.length < 2 ^ 40) {f : FuncId} {AF : AFunc} (hA : compileFn P f = some AF) {g : Int → Int} (hf : ∀ x ∈ l, ∀ k, RCall P f [.int .i64 x] k (fun v _ => v = .int .i64 (g x))) : RCall P 118 [s, .func (.func f) [] []] h (fun v h' => IsSl h' v 1 ((l.map g).map intRow)) := by
  obtain ⟨v, k, h1, h2⟩ := q118 T hs hl hA hf
  exact ⟨v, k, h1, h2.isSl⟩
end
end Go.Abs
namespace Go.Abs
section
variable {P : Program} (T : Tbl P) {h : AHeap}
include T
theorem r206 (c : UInt8) : RCall P 206 [.int .u8 c.toNat] h (fun v _ => v = .bool (digitS c)) := by
  refine .of T.mix T.c206 ?_
  unfold fn206
  simp only [uset]
  simp +contextual only [wset, wsplit, decide_true, decide_false]
  grind [digitS]

end
end Go.Abs
namespace Go.Abs

theorem firstS_z : ∀ {l : List Int}, firstS l = 0 → ∀ x ∈ l, x = 0
  | [], _, x, h => by cases h
  | y :: l, h, x, hx => by
    rw [firstS] at h
    by_cases hy : y = 0
    · rw [if_pos hy] at h
      rcases List.mem_cons.1 hx with rfl | hx
      · exact hy
      · exact firstS_z h x hx
    · rw [if_neg hy] at h; exact absurd h hy
set_option maxRecDepth 10000
attribute [local irreducible] WP WC WE WB WR WF WL WG WRg WQ
section
variable {P : Program} (T : Tbl P) {h : AHeap}
include T
set_option maxHeartbeats 1000000 in
theorem r21 {s : AV} {l : List Int} (hs : IsSl h s 1 (l.map intRow)) (hl : l.length < 2 ^ 40) : RCall P 21 [s] h (fun v h' => IsSl h' v 1 (l.map intRow)) := by
  refine .st1 6 T.mix T.c21 ?_;intro ts hlen t0;unfold fn21
  refine Rs @t0 ?_
  refine WR.appz (N := h.length) (w := 8) at_new (Nat.le_refl _) (hs.ext Xx) (by rw [List.length_map]; omega) fun a1 y1 f1 => ?_
  have p1 := f1.isSl.one
  refine Rs (A2 @t0 @p1) ?_
  exact f1.isSl
end
end Go.Abs
namespace Go.Abs

set_option maxRecDepth 10000
attribute [local irreducible] WP WC WE WB WR WF WL WG WRg WQ
section
variable {P : Program} (T : Tbl P) {h : AHeap}
include T
end
end Go.Abs
namespace Go.Abs

theorem drop_eq {α : Type} [DecidableEq α] {a b : List α} {k : Nat} (ha : k < a.length) (hb : k < b.length) : decide (a.drop k = b.drop k) = (decide (a[k] = b[k]) && decide (a.drop (k + 1) = b.drop (k + 1))) := by
  have h1 : a.drop k = a[k] :: a.drop (k + 1) := by simp
  have h2 : b.drop k = b[k] :: b.drop (k + 1) := by simp
  rw [h1, h2]
  by_cases h : a[k] = b[k]
  · by_cases h' : a.drop (k + 1) = b.drop (k + 1)
    · rw [decide_eq_true h, decide_eq_true h', decide_eq_true (by rw [h, h'])]; rfl
    · rw [decide_eq_true h, decide_eq_false h', decide_eq_false (by intro z; exact h' (List.cons.inj z).2)]; rfl
  · rw [decide_eq_false h, decide_eq_false (by intro z; exact h (List.cons.inj z).1)]; rfl
/-- The same, a list of numbers. -/
def ListS (h : AHeap) (bad : Int) (want : List Int) (t : AV) (e : Int) : Prop := if bad ≠ 0 then t = .nilSlice ∧ e = bad else IsSl h t 1 (want.map intRow) ∧ e = 0
theorem ListS.ext {h k : AHeap} {bad : Int} {want : List Int} {t : AV} {e : Int} (s : ListS h bad want t e) (x : Ext h k) : ListS k bad want t e := by
  unfold ListS at s ⊢
  by_cases hb : bad ≠ 0
  · rw [if_pos hb] at s ⊢; exact s
  · rw [if_neg hb] at s ⊢; exact ⟨s.1.ext x, s.2⟩
set_option maxRecDepth 10000
attribute [local irreducible] WP WC WE WB WR WF WL WG WRg WQ
section
variable {P : Program} (T : Tbl P) {h : AHeap}
include T
set_option maxHeartbeats 2000000 in
theorem r102 {s t : AV} {a b : List Int} (hs : IsSl h s 1 (a.map intRow)) (ht : IsSl h t 1 (b.map intRow)) (hl : a.length < 2 ^ 40) : RCall P 102 [s, t] h (fun v _ => v = .bool (decide (a = b))) := by
  refine .st2 26 T.mix T.c102 ?_;intro ts hlen t0 t1;unfold fn102
  by_cases h1 : a.length = b.length
  case neg =>
    have d1 : decide ((a.length : Int) ≠ (b.length : Int)) = true := decide_eq_true (by omega)
    have e : decide (a = b) = false := decide_eq_false fun z => h1 (by rw [z])
    refine Rs (A5 @t0 @t1 hs.lenm ht.lenm @d1) ?_
    rw [e]
  have d1 : decide ((a.length : Int) ≠ (b.length : Int)) = false := decide_eq_false (by omega)
  refine Rs (A5 @t0 @t1 hs.lenm ht.lenm @d1) ?_
  refine WL.inv T.mix (fun n ts K => ∃ k : Nat, k ≤ a.length ∧ n = a.length - k ∧ K = h ∧ decide (a = b) = decide (a.drop k = b.drop k) ∧ ts.length = 26 ∧ slot ts 0 = s ∧ slot ts 1 = t ∧ slot ts 5 = .int .i64 k) a.length
    ⟨0, by omega, rfl, rfl, rfl, Sn, (Sq @t0), (Sq @t1), Swr⟩ ?_
  clear hlen t0 t1 d1
  rintro _ ts K ⟨k, hk, rfl, rfl, hf, hlen, t0, t1, t5⟩
  by_cases hlt : k < a.length
  case neg =>
    have e3 := dltF hlt
    have e4 : k = a.length := by omega
    rw [e4, List.drop_length, h1, List.drop_length, decide_eq_true rfl] at hf
    refine Rs (A5 @t0 @t1 @t5 hs.lenm @e3) ?_
    rw [hf]
  have e3 := dltT hlt
  have hlb : k < b.length := by omega
  have e5 := wrapN (n := k) (by omega)
  have ix := hs.ixm (kk := .i64) hlt
  have iy := ht.ixm (kk := .i64) hlb
  rw [drop_eq hlt hlb] at hf
  obtain ⟨x, hx⟩ : ∃ x, x = a[k] := ⟨_, rfl⟩
  obtain ⟨y, hy⟩ : ∃ y, y = b[k] := ⟨_, rfl⟩
  have ld : ∀ {kk : AHeap}, Ext K kk → loadF none (elp s 1 k) (fun b => kk[b]?) = some (.int .i64 x, .keep) := fun {kk} e => by rw [hx]; exact hs.l1m hlt rfl e
  have le : ∀ {kk : AHeap}, Ext K kk → loadF none (elp t 1 k) (fun b => kk[b]?) = some (.int .i64 y, .keep) := fun {kk} e => by rw [hy]; exact ht.l1m hlb rfl e
  rw [← hx, ← hy] at hf
  by_cases hxy : x = y
  · have d6 : decide (x ≠ y) = false := decide_eq_false fun z => z hxy
    rw [decide_eq_true hxy, Bool.true_and] at hf
    refine Rs (A11 @t0 @t1 @t5 hs.lenm @e3 @ix @iy @ld @le @d6 @e5) ?_
    exact ⟨a.length - (k + 1), by omega, k + 1, by omega, rfl, hf, rfl⟩
  · have d6 : decide (x ≠ y) = true := decide_eq_true hxy
    rw [decide_eq_false hxy, Bool.false_and] at hf
    refine Rs (A10 @t0 @t1 @t5 hs.lenm @e3 @ix @iy @ld @le @d6) ?_
    rw [hf]
set_option maxHeartbeats 2000000 in
theorem r85 {t w : AV} {e bad : Int} {want : List Int} (hh : ListS h bad want t e) (hw : bad = 0 → IsSl h w 1 (want.map intRow)) (hl : want.length < 2 ^ 40) : RCall P 85 [t, .int .i64 e, .int .i64 bad, w] h (fun v _ => v = .bool true) := by
  refine .st4 30 T.mix T.c85 ?_;intro ts hlen t0 t1 t2 t3;unfold fn85
  unfold ListS at hh
  have hnil : ∀ G, lenG .sl G .nilSlice = some 0 := fun G => rfl
  have z0 : decide (((0 : Nat) : Int) = 0) = true := rfl
  by_cases hb : bad = 0
  case neg =>
    rw [if_pos hb] at hh
    obtain ⟨rfl, rfl⟩ := hh
    have d1 : decide (e ≠ 0) = true := decide_eq_true hb
    exact Rs (A8 @t0 @t1 @t2 @t3 @d1 @decide_true @hnil @z0) trivial
  rw [if_neg (fun z => z hb)] at hh
  subst hb
  obtain ⟨hs1, rfl⟩ := hh
  have d1 : decide ((0 : Int) ≠ 0) = false := rfl
  refine Rs (A6 @t0 @t1 @t2 @t3 @d1 @decide_true) ?_
  refine WF.ce T.c102 (r102 T hs1 (hw rfl) hl) fun g2 => ?_
  exact Rs (A4 @t0 @t1 @t3 @decide_true) trivial
end
end Go.Abs
namespace Go.Abs

def atZ (l : List Int) (j : Int) : Int := if 0 ≤ j then l.getD j.toNat 0 else 0
set_option maxRecDepth 10000
attribute [local irreducible] WP WC WE WB WR WF WL WG WRg WQ
section
variable {P : Program} (T : Tbl P) {h : AHeap}
include T
end
end Go.Abs
namespace Go.Abs

set_option maxRecDepth 10000
attribute [local irreducible] WP WC WE WB WR WF WL WG WRg WQ
section
variable {P : Program} (T : Tbl P) {h : AHeap}
include T
end
end Go.Abs
namespace Go.Abs

set_option maxRecDepth 10000
attribute [local irreducible] WP WC WE WB WR WF WL WG WRg WQ
section
variable {P : Program} (T : Tbl P) {h : AHeap}
include T
end
end Go.Abs
namespace Go.Abs

set_option maxRecDepth 10000
attribute [local irreducible] WP WC WE WB WR WF WL WG WRg WQ
section
variable {P : Program} (T : Tbl P) {h : AHeap}
include T
end
end Go.Abs
namespace Go.Abs

def cv (A : List Int) (m : Int) : Nat → Int
  | 0 => 0
  | j + 1 => cv A m j + atZ A j * atZ A (m - j)
set_option maxRecDepth 10000
attribute [local irreducible] WP WC WE WB WR WF WL WG WRg WQ
section
variable {P : Program} (T : Tbl P) {h : AHeap}
include T
end
end Go.Abs
namespace Go.Abs

def rngT (n : Int) : Int := rangeS n (-16) 16
def chkTp (l : List Int) : Int := if l.length = 0 then 12 else if 8 < l.length then 5 else firstS [firstS (l.map rngT), whenS (decide (l.getD 0 0 = 0)) 6]
theorem getD_0 {l : List Int} (h : 0 < l.length) : l.getD 0 0 = l[0] := by rw [List.getD_eq_getElem?_getD, List.getElem?_eq_getElem h]; rfl
structure TpOk (l : List Int) : Prop where
  l1 : 1 ≤ l.length
  l2 : l.length ≤ 8
  r : ∀ x ∈ l, -16 ≤ x ∧ x ≤ 16
  z : l.getD 0 0 ≠ 0
theorem chkTp_z {l : List Int} (h : chkTp l = 0) : TpOk l := by
  unfold chkTp at h
  split at h
  · cases h
  split at h
  · cases h
  obtain ⟨h1, h2⟩ := first2 h
  refine ⟨by omega, by omega, fun x hx => rangeS_z.1 (firstS_z h1 _ (List.mem_map_of_mem hx)), fun z => ?_⟩
  rw [decide_eq_true z] at h2; cases h2
set_option maxRecDepth 10000
attribute [local irreducible] WP WC WE WB WR WF WL WG WRg WQ
section
variable {P : Program} (T : Tbl P) {h : AHeap}
include T
set_option maxHeartbeats 1000000 in
theorem r119 (n : Int) : RCall P 119 [.int .i64 n] h (fun v _ => v = .int .i64 (rngT n)) := by
  refine .st1 5 T.mix T.c119 ?_;intro ts hlen t0;unfold fn119
  refine Rs @t0 ?_
  refine WF.ce T.c120 (r120 T _ _ _) fun g1 => ?_
  refine Rs @t0 ?_
  rfl
set_option maxHeartbeats 2000000 in
theorem r34 {s : AV} {l : List Int} (hs : IsSl h s 1 (l.map intRow)) (hl : l.length < 2 ^ 40) : RCall P 34 [s] h (fun v _ => v = .int .i64 (chkTp l)) := by
  refine .st1 27 T.mix T.c34 ?_;intro ts hlen t0;unfold fn34
  refine Rs (A2 @t0 hs.lenm) ?_
  refine WF.ce T.c117 (r117 T _ _) fun g1 => ?_
  refine Rs (A2 @t0 hs.lenm) ?_
  refine WF.ce T.c117 (r117 T _ _) fun g2 => ?_
  refine Rs @t0 ?_
  refine WF.ce T.c116 (r116 T (isSl_ints [_, _]) (by simp)) fun g3 => ?_
  rw [first_w2]
  by_cases h1 : l.length = 0
  · have d1 : decide ((l.length : Int) = 0) = true := decide_eq_true (by omega)
    have e : chkTp l = 12 := if_pos h1
    have d2 : ∀ x : Bool, (if whenS true 12 = 0 then whenS x 5 else whenS true 12) = 12 := fun _ => rfl
    have d3 : decide ((12 : Int) ≠ 0) = true := rfl
    refine Rs (A4 @t0 @d1 @d2 @d3) ?_
    rw [e]
  have d1 : decide ((l.length : Int) = 0) = false := decide_eq_false (by omega)
  by_cases h2 : 8 < l.length
  · have d2 : decide ((8 : Int) < (l.length : Int)) = true := decide_eq_true (by omega)
    have e : chkTp l = 5 := (if_neg h1).trans (if_pos h2)
    have d4 : (if whenS false 12 = 0 then whenS true 5 else whenS false 12) = 5 := rfl
    have d3 : decide ((5 : Int) ≠ 0) = true := rfl
    refine Rs (A5 @t0 @d1 @d2 @d4 @d3) ?_
    rw [e]
  have d2 : decide ((8 : Int) < (l.length : Int)) = false := decide_eq_false (by omega)
  have e : chkTp l = firstS [firstS (l.map rngT), whenS (decide (l.getD 0 0 = 0)) 6] := (if_neg h1).trans (if_neg h2)
  have d4 : (if whenS false 12 = 0 then whenS false 5 else whenS false 12) = 0 := rfl
  have d3 : decide ((0 : Int) ≠ 0) = false := rfl
  have h0 : 0 < l.length := by omega
  rw [e, getD_0 h0]
  obtain ⟨B, hB⟩ : ∃ B, B = h ++ g1 ++ g2 ++ [ABlk.cells [AV.int IntKind.i64 (whenS (decide ((l.length : Int) = 0)) 12), AV.int IntKind.i64 (whenS (decide ((8 : Int) < (l.length : Int))) 5)] true true] ++ g3 := ⟨_, rfl⟩
  have eB : Ext h B := by rw [hB]; exact Xx
  rw [← hB, d1, d2, d4]
  have hsB := hs.ext eB
  refine Rs (A2 @t0 @d3) ?_
  refine WF.res T.c118 (r118 T hsB hl T.c119 (g := rngT) (fun x _ k => r119 T x)) ?_
  intro s2 g4 is2
  refine Rs @t0 ?_
  refine WF.ce T.c116 (r116 T is2 (by rw [List.length_map]; omega)) fun g5 => ?_
  have ix := hsB.ix0 (kk := .i64) h0
  obtain ⟨x, hx⟩ : ∃ x, x = l[0] := ⟨_, rfl⟩
  have ld : ∀ {kk : AHeap}, Ext B kk → loadF none (elp s 1 0) (fun b => kk[b]?) = some (.int .i64 x, .keep) := fun {kk} e => by rw [hx]; exact hsB.l1m h0 rfl e
  rw [← hx]
  refine Rs (A3 @t0 @ix @ld) ?_
  refine WF.ce T.c117 (r117 T _ _) fun g6 => ?_
  refine Rs @t0 ?_
  refine WF.ce T.c116 (r116 T (isSl_ints [_, _]) (by simp)) fun g7 => ?_
  refine Rs @t0 ?_
  exact ⟨eB.trans Xx, trivial⟩
set_option maxHeartbeats 2000000 in
theorem r26 {s : AV} {l : List Int} (hs : IsSl h s 1 (l.map intRow)) (hl : l.length < 2 ^ 40) : RCall P 26 [s] h (fun v _ => v = .int .i64 (chkTp l)) := by
  refine .st1 29 T.mix T.c26 ?_;intro ts hlen t0;unfold fn26
  by_cases h1 : l.length = 0
  · have d1 : decide ((l.length : Int) = 0) = true := decide_eq_true (by omega)
    have e : chkTp l = 12 := if_pos h1
    refine Rs (A3 @t0 hs.lenm @d1) ?_
    rw [e]
  have d1 : decide ((l.length : Int) = 0) = false := decide_eq_false (by omega)
  by_cases h2 : 8 < l.length
  · have d2 : decide ((8 : Int) < (l.length : Int)) = true := decide_eq_true (by omega)
    have e : chkTp l = 5 := (if_neg h1).trans (if_pos h2)
    refine Rs (A4 @t0 hs.lenm @d1 @d2) ?_
    rw [e]
  have d2 : decide ((8 : Int) < (l.length : Int)) = false := decide_eq_false (by omega)
  have h0 : 0 < l.length := by omega
  have e : chkTp l = firstS [firstS (l.map rngT), whenS (decide (l.getD 0 0 = 0)) 6] := (if_neg h1).trans (if_neg h2)
  rw [e, getD_0 h0]
  refine Rs (A4 @t0 hs.lenm @d1 @d2) ?_
  refine WL.inv T.mix (fun n ts K => ∃ k : Nat, k ≤ l.length ∧ n = l.length - k ∧ Ext h K ∧ firstS (l.map rngT) = firstS ((l.drop k).map rngT) ∧ ts.length = 29 ∧ slot ts 0 = s ∧ slot ts 3 = .int .i64 k) l.length
    ⟨0, by omega, rfl, Xx, rfl, Sn, (Sq @t0), Swr⟩ ?_
  clear hlen t0 d1 d2
  rintro _ ts K ⟨k, hk, rfl, eK, hf, hlen, t0, t3⟩
  have hsK := hs.ext eK
  by_cases hlt : k < l.length
  case neg =>
    have e3 := dltF hlt
    have e4 : k = l.length := by omega
    rw [e4, List.drop_length] at hf
    have hf0 : firstS (l.map rngT) = 0 := hf
    have ix := hsK.ix0 (kk := .i64) h0
    obtain ⟨x, hx⟩ : ∃ x, x = l[0] := ⟨_, rfl⟩
    have ld : ∀ {kk : AHeap}, Ext K kk → loadF none (elp s 1 0) (fun b => kk[b]?) = some (.int .i64 x, .keep) := fun {kk} e => by rw [hx]; exact hsK.l1m h0 rfl e
    rw [hf0, ← hx]
    by_cases hx0 : x = 0
    · have d5 : decide (x = 0) = true := decide_eq_true hx0
      refine Rs (A7 @t0 @t3 hsK.lenm @e3 @ix @ld @d5) ?_
      exact ⟨eK, rfl⟩
    · have d5 : decide (x = 0) = false := decide_eq_false hx0
      refine Rs (A7 @t0 @t3 hsK.lenm @e3 @ix @ld @d5) ?_
      exact ⟨eK, rfl⟩
  have e3 := dltT hlt
  have e5 := wrapN (n := k) (by omega)
  have ix := hsK.ixm (kk := .i64) hlt
  have hd : l.drop k = l[k] :: l.drop (k + 1) := by simp
  rw [hd, List.map_cons, firstS] at hf
  obtain ⟨x, hx⟩ : ∃ x, x = l[k] := ⟨_, rfl⟩
  have ld : ∀ {kk : AHeap}, Ext K kk → loadF none (elp s 1 k) (fun b => kk[b]?) = some (.int .i64 x, .keep) := fun {kk} e => by rw [hx]; exact hsK.l1m hlt rfl e
  rw [← hx] at hf
  refine Rs (A6 @t0 @t3 hsK.lenm @e3 @ix @ld) ?_
  refine WF.ce T.c48 (r48 T _ _ _) fun g1 => ?_
  by_cases hz : rngT x = 0
  · have d6 : decide (rangeS x (-16) 16 ≠ 0) = false := decide_eq_false fun z => z hz
    rw [if_pos hz] at hf
    refine Rs (A4 @t0 @t3 @d6 @e5) ?_
    exact ⟨l.length - (k + 1), by omega, k + 1, by omega, rfl, eK.trans ⟨g1, rfl⟩, hf, rfl⟩
  · have d6 : decide (rangeS x (-16) 16 ≠ 0) = true := decide_eq_true hz
    rw [if_neg hz] at hf
    refine Rs (A3 @t0 @t3 @d6) ?_
    refine ⟨eK.trans ⟨g1, rfl⟩, ?_⟩
    rw [hf]
    show _ = AV.int .i64 (if rngT x = 0 then _ else rngT x)
    rw [if_neg hz]; rfl
set_option maxHeartbeats 1000000 in
theorem r18 {s : AV} {l : List Int} (hs : IsSl h s 1 (l.map intRow)) : RCall P 18 [s] h (fun v _ => v = .bool (decide ((l.length : Int) ≤ 9))) := by
  refine .st1 6 T.mix T.c18 ?_;intro ts hlen t0;unfold fn18
  exact Rs (A2 @t0 hs.lenm) trivial
end
end Go.Abs
namespace Go.Abs

def digN (s : List UInt8) : Int := s.foldl (fun n c => 10 * n + ((c.toNat : Int) - 48)) 0
def digOk (s : List UInt8) : Bool := !decide (s.length = 0) && decide (s.length ≤ 9) && !(decide (1 < s.length) && decide (s.head? = some 48)) && s.all digitS
/-- The decimal digits of a number. -/
def dcS (n : Int) : List UInt8 := Lib.decDigits n.toNat
theorem dec_len : ∀ {k u : Nat}, u < 10 ^ (k + 1) → (Lib.decDigits u).length ≤ k + 1
  | 0, u, h => by rw [Lib.decDigits, dif_pos (by simpa using h)]; simp
  | k + 1, u, h => by
    by_cases hu : u < 10
    · rw [Lib.decDigits, dif_pos hu]; simp
    · rw [Lib.decDigits, dif_neg hu, List.length_append]
      have := dec_len (k := k) (u := u / 10) (by rw [Nat.pow_succ] at h; omega)
      simp; omega
theorem digN_app {s : List UInt8} {c : UInt8} : digN (s ++ [c]) = 10 * digN s + ((c.toNat : Int) - 48) := by simp [digN]
theorem digitS_iff {c : UInt8} : digitS c = true ↔ 48 ≤ c.toNat ∧ c.toNat ≤ 57 := by simp [digitS]
theorem digF_bd : ∀ (s : List UInt8) (a : Int), s.all digitS = true → 0 ≤ a → 0 ≤ s.foldl (fun n c => 10 * n + ((c.toNat : Int) - 48)) a ∧ s.foldl (fun n c => 10 * n + ((c.toNat : Int) - 48)) a < (a + 1) * 10 ^ s.length
  | [], a, _, h => by simp; omega
  | c :: s, a, h, h0 => by
    simp only [List.all_cons, Bool.and_eq_true] at h
    have hc := digitS_iff.1 h.1
    have ih := digF_bd s (10 * a + ((c.toNat : Int) - 48)) h.2 (by omega)
    rw [List.foldl_cons, List.length_cons, Int.pow_succ]
    refine ⟨ih.1, Int.lt_of_lt_of_le ih.2 ?_⟩
    have h1 : (10 * a + ((c.toNat : Int) - 48) + 1) * 10 ^ s.length ≤ ((a + 1) * 10) * 10 ^ s.length := Int.mul_le_mul_of_nonneg_right (by omega) (Int.pow_nonneg (by decide))
    calc _ ≤ ((a + 1) * 10) * 10 ^ s.length := h1
      _ = (a + 1) * (10 ^ s.length * 10) := by rw [Int.mul_assoc, Int.mul_comm 10]
theorem digN_bd {s : List UInt8} (h : s.all digitS = true) : 0 ≤ digN s ∧ digN s < 10 ^ s.length := by
  have := digF_bd s 0 h (by decide)
  rw [Int.zero_add, Int.one_mul] at this
  exact this
theorem take_succ' {α : Type} {s : List α} {k : Nat} (hk : k < s.length) : s.take (k + 1) = s.take k ++ [s[k]] := by
  rw [List.take_add_one, List.getElem?_eq_getElem hk]; rfl
theorem dig9 {s : List UInt8} {k : Nat} (hl : s.length ≤ 9) (hk : k ≤ s.length) (h : (s.take k).all digitS = true) : 0 ≤ digN (s.take k) ∧ digN (s.take k) < 1000000000 := by
  have := digN_bd h
  have e : (s.take k).length = k := by rw [List.length_take]; omega
  rw [e] at this
  have : (10 : Int) ^ k ≤ 10 ^ 9 := by exact_mod_cast Nat.pow_le_pow_right (n := 10) (by decide) (show k ≤ 9 by omega)
  omega
theorem ofNat_dig {c : UInt8} (h : digitS c = true) : UInt8.ofNat (48 + (c.toNat - 48)) = c := by
  have := digitS_iff.1 h
  rw [show 48 + (c.toNat - 48) = c.toNat by omega]; simp
theorem digitS_of {d : Nat} (h : d < 10) : digitS (UInt8.ofNat (48 + d)) = true ∧ (UInt8.ofNat (48 + d)).toNat = 48 + d := by
  have : (UInt8.ofNat (48 + d)).toNat = 48 + d := by rw [UInt8.toNat_ofNat']; omega
  exact ⟨digitS_iff.2 (by omega), this⟩
theorem dec_dig : ∀ u : Nat, (Lib.decDigits u).all digitS = true := by
  intro u
  induction u using Nat.strongRecOn with
  | _ u ih =>
    rw [Lib.decDigits]
    by_cases h : u < 10
    · rw [dif_pos h]; simp only [List.all_cons, List.all_nil, Bool.and_true]; exact (digitS_of h).1
    · rw [dif_neg h, List.all_append, ih (u / 10) (by omega)]
      simp only [List.all_cons, List.all_nil, Bool.and_true, Bool.true_and]; exact (digitS_of (Nat.mod_lt u (by decide : 0 < 10))).1
theorem dec_ne (u : Nat) : Lib.decDigits u ≠ [] := by
  rw [Lib.decDigits]
  split <;> simp
theorem dec_head : ∀ u : Nat, 1 ≤ u → (Lib.decDigits u).head? ≠ some 48 := by
  intro u
  induction u using Nat.strongRecOn with
  | _ u ih =>
    intro h1
    rw [Lib.decDigits]
    by_cases h : u < 10
    · rw [dif_pos h]
      intro e
      have h2 := (digitS_of h).2
      have : UInt8.ofNat (48 + u) = 48 := by simpa using e
      rw [this] at h2
      have : (48 : UInt8).toNat = 48 := rfl
      omega
    · rw [dif_neg h]
      have := ih (u / 10) (by omega) (by omega)
      have hn := dec_ne (u / 10)
      cases hd : Lib.decDigits (u / 10) with
      | nil => exact absurd hd hn
      | cons a b => rw [hd] at this; simpa using this
theorem dec_val : ∀ u : Nat, digN (Lib.decDigits u) = u := by
  intro u
  induction u using Nat.strongRecOn with
  | _ u ih =>
    rw [Lib.decDigits]
    by_cases h : u < 10
    · rw [dif_pos h]
      have := (digitS_of h).2
      simp only [digN, List.foldl_cons, List.foldl_nil]; omega
    · rw [dif_neg h, digN_app, ih (u / 10) (by omega), (digitS_of (Nat.mod_lt u (by decide : 0 < 10))).2]
      omega
theorem dec_back : ∀ k (s : List UInt8), s.length = k → s.all digitS = true → s ≠ [] → s.head? ≠ some 48 → 1 ≤ digN s ∧ Lib.decDigits (digN s).toNat = s
  | 0, s, hl, _, hne, _ => absurd (List.length_eq_zero_iff.1 hl) hne
  | k + 1, s, hl, hd, hne, hh => by
    obtain ⟨z, c, rfl⟩ : ∃ z c, s = z ++ [c] := ⟨s.dropLast, s.getLast hne, (List.dropLast_concat_getLast hne).symm⟩
    rw [List.all_append, Bool.and_eq_true] at hd
    have hc : digitS c = true := by simpa using hd.2
    have hc2 := digitS_iff.1 hc
    rw [digN_app]
    by_cases hz : z = []
    · subst hz
      have : c ≠ 48 := by simpa using hh
      have hc3 : c.toNat ≠ 48 := fun e => this (UInt8.toNat_inj.1 (by simpa using e))
      have e0 : digN [] = 0 := rfl
      rw [e0]
      refine ⟨by omega, ?_⟩
      rw [Lib.decDigits, dif_pos (by omega)]
      rw [show (10 * (0 : Int) + ((c.toNat : Int) - 48)).toNat = c.toNat - 48 by omega, ofNat_dig hc]; rfl
    · have hh' : z.head? ≠ some 48 := by
        cases z with
        | nil => exact absurd rfl hz
        | cons a b => simpa using hh
      obtain ⟨i1, i2⟩ := dec_back k z (by simpa using hl) hd.1 hz hh'
      refine ⟨by omega, ?_⟩
      rw [Lib.decDigits, dif_neg (by omega)]
      rw [show (10 * digN z + ((c.toNat : Int) - 48)).toNat / 10 = (digN z).toNat by omega, show (10 * digN z + ((c.toNat : Int) - 48)).toNat % 10 = c.toNat - 48 by omega, i2, ofNat_dig hc]
theorem dcS_back {s : List UInt8} (h : digOk s = true) : dcS (digN s) = s := by
  simp only [digOk, Bool.and_eq_true, Bool.not_eq_true', decide_eq_false_iff_not, Bool.and_eq_false_iff, decide_eq_true_eq] at h
  obtain ⟨⟨⟨h1, h2⟩, h3⟩, h4⟩ := h
  have hne : s ≠ [] := fun e => h1 (by rw [e]; rfl)
  by_cases hh : s.head? = some 48
  · have hl : s.length = 1 := by
      rcases h3 with h3 | h3
      · have := List.length_pos_iff.2 hne; omega
      · exact absurd hh h3
    match s, hl with
    | [c], _ =>
      have : c = 48 := by simpa using hh
      subst this
      rw [dcS]
      have : digN [48] = 0 := rfl
      rw [this, Lib.decDigits, dif_pos (by decide)]; rfl
  · exact (dec_back _ s rfl h4 hne hh).2
theorem dig_no {s : List UInt8} (h : s.all digitS = true) : (32 : UInt8) ∉ s ∧ (10 : UInt8) ∉ s := by
  rw [List.all_eq_true] at h
  constructor
  · intro hm; have := h _ hm; simp [digitS] at this
  · intro hm; have := h _ hm; simp [digitS] at this
theorem decFrom_dig : ∀ {s : List UInt8} {a : Nat}, s.all digitS = true → ∃ n, Lib.decFrom a s = some n ∧ (n : Int) = s.foldl (fun n c => 10 * n + ((c.toNat : Int) - 48)) (a : Int)
  | [], a, _ => ⟨a, rfl, rfl⟩
  | c :: s, a, h => by
    simp only [List.all_cons, Bool.and_eq_true] at h
    have hc := digitS_iff.1 h.1
    have hd : Lib.digitVal c = some (c.toNat - 48) := by unfold Lib.digitVal; rw [if_pos hc]
    obtain ⟨n, h1, h2⟩ := decFrom_dig (s := s) (a := a * 10 + (c.toNat - 48)) h.2
    refine ⟨n, by rw [Lib.decFrom, hd]; exact h1, ?_⟩
    rw [h2, List.foldl_cons]
    congr 1
    omega
theorem atoi_dig {s : List UInt8} (h : s.all digitS = true) (hn : s ≠ []) : Lib.atoi s = some (digN s) := by
  obtain ⟨n, h1, h2⟩ := decFrom_dig (a := 0) h
  cases s with
  | nil => exact absurd rfl hn
  | cons c r =>
    have hc := digitS_iff.1 (by simp only [List.all_cons, Bool.and_eq_true] at h; exact h.1)
    have n1 : (c == 45) = false := by
      rw [beq_eq_false_iff_ne]; rintro rfl; exact absurd hc.1 (by decide)
    have n2 : (c == 43) = false := by
      rw [beq_eq_false_iff_ne]; rintro rfl; exact absurd hc.1 (by decide)
    rw [Lib.atoi, n1, n2, if_neg (by decide), if_neg (by decide), Lib.decNat, if_neg (by simp), h1, Option.map_some, h2]
    rfl
theorem join_b {c : UInt8} : ∀ {xs : List (List UInt8)}, Lib.join xs [c] = joinB c xs
  | [] => rfl
  | [x] => Lib.join_one x [c]
  | x :: y :: r => by
    rw [joinB_cons (by simp), ← join_b (xs := y :: r), Lib.join_cons, Lib.join_cons]
    simp [Lib.joinTail]

/-! ### Integers with a sign -/
def trimM : List UInt8 → List UInt8
  | [] => []
  | c :: r => if c = 45 then r else c :: r
def sigOk : List UInt8 → Bool
  | [] => false
  | c :: r => if c = 45 then digOk r && decide (0 < digN r) else digOk (c :: r)
def sigN : List UInt8 → Int
  | [] => 0
  | c :: r => if c = 45 then -(digN r) else digN (c :: r)
theorem trimM_m (r : List UInt8) : trimM (45 :: r) = r := by unfold trimM; dsimp only; rw [if_pos rfl]
theorem sigOk_m (r : List UInt8) : sigOk (45 :: r) = (digOk r && decide (0 < digN r)) := by unfold sigOk; dsimp only; rw [if_pos rfl]
theorem sigN_m (r : List UInt8) : sigN (45 :: r) = -(digN r) := by unfold sigN; dsimp only; rw [if_pos rfl]
theorem digOk_all {s : List UInt8} (h : digOk s = true) : s.all digitS = true ∧ s ≠ [] ∧ s.length ≤ 9 := by
  simp only [digOk, Bool.and_eq_true, Bool.not_eq_true', decide_eq_false_iff_not, Bool.and_eq_false_iff, decide_eq_true_eq] at h
  obtain ⟨⟨⟨h1, h2⟩, h3⟩, h4⟩ := h
  exact ⟨h4, fun e => h1 (by rw [e]; rfl), h2⟩
theorem dec_ok {u : Nat} (hl : (Lib.decDigits u).length ≤ 9) : digOk (Lib.decDigits u) = true := by
  have hn : (Lib.decDigits u).length ≠ 0 := by have := dec_ne u; simpa using this
  simp only [digOk, decide_eq_false hn, decide_eq_true hl, Bool.not_false, Bool.true_and, Bool.and_eq_true, Bool.not_eq_true', Bool.and_eq_false_iff, decide_eq_false_iff_not]
  refine ⟨?_, dec_dig _⟩
  by_cases h10 : u < 10
  · left; rw [Lib.decDigits, dif_pos h10]; simp
  · right; exact dec_head _ (by omega)
theorem dig_45 {c : UInt8} {r : List UInt8} (h : (c :: r).all digitS = true) : c ≠ 45 := by
  rw [List.all_cons, Bool.and_eq_true] at h
  have := digitS_iff.1 h.1
  rintro rfl
  exact absurd this.1 (by decide)
theorem dec_45 (u : Nat) : ∃ c r, Lib.decDigits u = c :: r ∧ c ≠ 45 := by
  have h := dec_dig u
  cases hd : Lib.decDigits u with
  | nil => exact absurd hd (dec_ne u)
  | cons c r => rw [hd] at h; exact ⟨c, r, rfl, dig_45 h⟩
/-- A number whose text it is. -/
theorem sig_of {w : List UInt8} {n : Int} (h : Lib.itoa n = w) (hl : (trimM w).length ≤ 9) : sigOk w = true ∧ sigN w = n := by
  unfold Lib.itoa at h
  by_cases h0 : n < 0
  · rw [if_pos h0] at h
    subst h
    have hl : (Lib.decDigits n.natAbs).length ≤ 9 := by
      have e := trimM_m (Lib.decDigits n.natAbs)
      rwa [e] at hl
    have hv := dec_val n.natAbs
    refine ⟨?_, ?_⟩
    · rw [sigOk_m, dec_ok hl, hv]
      exact decide_eq_true (by omega)
    · rw [sigN_m, hv]
      omega
  · rw [if_neg h0] at h
    subst h
    obtain ⟨c, r, hd, hc⟩ := dec_45 n.toNat
    have hv := dec_val n.toNat
    have ho := @dec_ok n.toNat
    rw [hd] at hv ho hl ⊢
    have e : trimM (c :: r) = c :: r := if_neg hc
    rw [e] at hl
    refine ⟨?_, ?_⟩
    · show (if c = 45 then _ else _) = _
      rw [if_neg hc]; exact ho hl
    · show (if c = 45 then _ else _) = _
      rw [if_neg hc, hv]; omega
theorem sig_back {w : List UInt8} (h : sigOk w = true) : Lib.itoa (sigN w) = w ∧ (trimM w).length ≤ 9 ∧ Lib.atoiAll w = .ok (sigN w) ∧ -1000000000 < sigN w ∧ sigN w < 1000000000 := by
  cases w with
  | nil => cases h
  | cons c r =>
    by_cases hc : c = 45
    · subst hc
      have e1 := sigOk_m r
      have e2 := sigN_m r
      have e3 := trimM_m r
      rw [e1, Bool.and_eq_true, decide_eq_true_eq] at h
      obtain ⟨ho, hp⟩ := h
      obtain ⟨ha, hne, hl⟩ := digOk_all ho
      have hb := dig9 (k := r.length) hl (Nat.le_refl _) (by rw [List.take_length]; exact ha)
      rw [List.take_length] at hb
      have hd := dcS_back ho
      unfold dcS at hd
      rw [e2, e3]
      refine ⟨?_, hl, ?_, by omega, by omega⟩
      · unfold Lib.itoa
        rw [if_pos (by omega), show (-digN r).natAbs = (digN r).toNat by omega, hd]
      · rw [Lib.atoiAll_short _ (by simp; omega)]
        obtain ⟨m, h1, h2⟩ := decFrom_dig (a := 0) ha
        have hm : (m : Int) = digN r := h2
        rw [Lib.atoi, if_pos (by decide), Lib.decNat, if_neg (by simpa using hne), h1, Option.map_some, hm]
        rfl
    · have e1 : sigOk (c :: r) = digOk (c :: r) := if_neg hc
      have e2 : sigN (c :: r) = digN (c :: r) := if_neg hc
      have e3 : trimM (c :: r) = c :: r := if_neg hc
      rw [e1] at h
      obtain ⟨ha, hne, hl⟩ := digOk_all h
      have hb := dig9 (k := (c :: r).length) hl (Nat.le_refl _) (by rw [List.take_length]; exact ha)
      rw [List.take_length] at hb
      have hd := dcS_back h
      unfold dcS at hd
      rw [e2, e3]
      refine ⟨?_, hl, ?_, by omega, by omega⟩
      · unfold Lib.itoa
        rw [if_neg (by omega), hd]
      · rw [Lib.atoiAll_short _ (by omega), atoi_dig ha hne]
        rfl
/-- The text of a list. -/
def txS (l : List Int) : List UInt8 := joinB 32 (l.map Lib.itoa)
theorem itoa_no (n : Int) : (32 : UInt8) ∉ Lib.itoa n := by
  have h := fun u => (dig_no (dec_dig u)).1
  unfold Lib.itoa
  split
  · intro hm
    rcases List.mem_cons.1 hm with e | hm
    · exact absurd e (by decide)
    · exact h _ hm
  · exact h _
theorem split_join {c : UInt8} : ∀ {ws : List (List UInt8)}, ws ≠ [] → (∀ w ∈ ws, c ∉ w) → splitB c (joinB c ws) = ws
  | [], h, _ => absurd rfl h
  | [w], _, hn => by
    show splitB c w = [w]
    exact splitB_no (hn w (by simp))
  | w :: x :: r, _, hn => by
    rw [joinB_cons (by simp), splitB_app (hn w (by simp)), split_join (by simp) (fun y hy => hn y (List.mem_cons_of_mem _ hy))]
theorem split_tx {l : List Int} (h : l ≠ []) : splitB 32 (txS l) = l.map Lib.itoa := split_join (by simpa using h) fun w hw => by
  obtain ⟨n, _, rfl⟩ := List.mem_map.1 hw
  exact itoa_no n
theorem itoa_len {n : Int} (h : -1000000000 < n ∧ n < 1000000000) : (Lib.itoa n).length ≤ 10 ∧ (trimM (Lib.itoa n)).length ≤ 9 := by
  unfold Lib.itoa
  by_cases h0 : n < 0
  · rw [if_pos h0]
    have := dec_len (k := 8) (u := n.natAbs) (by omega)
    have e := trimM_m (Lib.decDigits n.natAbs)
    rw [e]
    simp only [List.length_cons]; omega
  · rw [if_neg h0]
    have := dec_len (k := 8) (u := n.toNat) (by omega)
    obtain ⟨c, r, hd, hc⟩ := dec_45 n.toNat
    have e : trimM (Lib.decDigits n.toNat) = Lib.decDigits n.toNat := by rw [hd]; exact if_neg hc
    rw [e]; omega
theorem sig_itoa {n : Int} (h : -1000000000 < n ∧ n < 1000000000) : sigOk (Lib.itoa n) = true ∧ sigN (Lib.itoa n) = n := sig_of rfl (itoa_len h).2
theorem sig_list {l : List Int} (h : ∀ n ∈ l, -1000000000 < n ∧ n < 1000000000) : (l.map Lib.itoa).all sigOk = true ∧ (l.map Lib.itoa).map sigN = l := by
  induction l with
  | nil => exact ⟨rfl, rfl⟩
  | cons n r ih =>
    obtain ⟨h1, h2⟩ := ih fun x hx => h x (List.mem_cons_of_mem _ hx)
    obtain ⟨q1, q2⟩ := sig_itoa (h n (List.mem_cons_self ..))
    exact ⟨by rw [List.map_cons, List.all_cons, q1, h1]; rfl, by rw [List.map_cons, List.map_cons, q2, h2]⟩
theorem back_list : ∀ {ws : List (List UInt8)}, ws.all sigOk = true → (ws.map sigN).map Lib.itoa = ws
  | [], _ => rfl
  | w :: r, h => by
    rw [List.all_cons, Bool.and_eq_true] at h
    rw [List.map_cons, List.map_cons, (sig_back h.1).1, back_list h.2]
theorem back_tx {s : List UInt8} (h : (splitB 32 s).all sigOk = true) : txS ((splitB 32 s).map sigN) = s := by
  unfold txS
  rw [back_list h, joinB_split]
theorem joinB_bd {c : UInt8} {B : Nat} : ∀ {ws : List (List UInt8)}, (∀ w ∈ ws, w.length ≤ B) → (joinB c ws).length ≤ ws.length * (B + 1)
  | [], _ => by simp [joinB]
  | [w], h => by
    have := h w (by simp)
    show w.length ≤ 1 * (B + 1)
    omega
  | w :: x :: r, h => by
    have h1 := h w (by simp)
    have ih := joinB_bd (c := c) (ws := x :: r) fun y hy => h y (List.mem_cons_of_mem _ hy)
    rw [joinB_cons (by simp), List.length_append, List.length_cons]
    have e : (w :: x :: r).length * (B + 1) = (x :: r).length * (B + 1) + (B + 1) := by rw [List.length_cons, Nat.succ_mul]
    omega
theorem tx_len {l : List Int} (h : ∀ n ∈ l, -1000000000 < n ∧ n < 1000000000) : (txS l).length ≤ l.length * 11 := by
  have := joinB_bd (c := 32) (B := 10) (ws := l.map Lib.itoa) fun w hw => by
    obtain ⟨n, hn, rfl⟩ := List.mem_map.1 hw
    exact (itoa_len (h n hn)).1
  rwa [List.length_map] at this
/-- What parsing gives: the error, and the list. -/
def parE (s : List UInt8) : Int := if 4096 < s.length then 26 else if (splitB 32 s).all sigOk = true then chkTp ((splitB 32 s).map sigN) else 25
def parL (s : List UInt8) : List Int := (splitB 32 s).map sigN
end Go.Abs
namespace Go.Abs

/-- What the model stands in for. -/
structure Xtn (P : Program) : Prop where
  ib : ∀ (args : Array Value) (w : World), (callFunc 292 args).run P w = ((Extern.BytealgIndexByte.indexByte args).run P w).andThen fun v w' => .ok (.value v) w'
  ct : ∀ (args : Array Value) (w : World), (callFunc 259 args).run P w = ((Extern.BytealgCount.count args).run P w).andThen fun v w' => .ok (.value v) w'

theorem u8_nat (c : UInt8) : (c.toNat : Int).toNat.toUInt8 = c := by simp

theorem sls_hi {s} {n : Nat} {kk} (hn : n ≤ s.length) : slsF (.str s) none (some (.int kk (n : Int))) = some (.str (s.take n)) := by
  simp only [slsF, bnds_hi hn, List.drop_zero, Nat.sub_zero]
theorem sls_lo {s} {n : Nat} {kk} (hn : n ≤ s.length) : slsF (.str s) (some (.int kk (n : Int))) none = some (.str (s.drop n)) := by
  simp only [slsF, bnds_lo hn]
  rw [List.take_of_length_le (by simp)]
theorem sls_hi' {p r} {kk} : slsF (.str (p ++ r)) none (some (.int kk (p.length : Int))) = some (.str p) := by
  rw [sls_hi (by simp)]; simp
theorem sls_lo' {p r} {c} {kk} : slsF (.str (p ++ c :: r)) (some (.int kk ((p.length + 1 : Nat) : Int))) none = some (.str r) := by
  rw [sls_lo (by simp)]; simp
theorem set_rep {α : Type} {don : List α} {z q : α} {m k : Nat} (hk : don.length = k) (hm : 0 < m) : (don ++ List.replicate m z).set k q = (don ++ [q]) ++ List.replicate (m - 1) z := by
  subst hk
  obtain ⟨n, rfl⟩ : ∃ n, m = n + 1 := ⟨m - 1, by omega⟩
  rw [List.replicate_succ, List.set_append_right _ _ (Nat.le_refl _), Nat.sub_self]
  simp

section
variable {P : Program} (X : Xtn P) {h : AHeap}
include X
theorem v_ib (s : List UInt8) (c : UInt8) : VCall P (.func (.func 292) [] []) [.str s, .int .u8 c.toNat] h (fun v h' => v = .int .i64 (Lib.indexByte s c) ∧ h' = h) := by
  refine ⟨_, [], ?_, rfl, by simp⟩
  rw [List.append_nil]
  intro m w cv vs hr hf hargs
  rw [VR] at hf
  obtain ⟨f', a', c', rfl, hfn, ha, hc⟩ := hf
  simp only [FnR] at hfn
  subst hfn
  rw [VRs_nil] at ha hc
  subst ha; subst hc
  obtain ⟨v1, vs1, rfl, h1, hargs⟩ := VRs_cons.1 hargs
  obtain ⟨v2, vs2, rfl, h2, hargs⟩ := VRs_cons.1 hargs
  rw [VRs_nil] at hargs
  subst hargs
  have h1 : v1 = .string ⟨⟨s⟩⟩ := h1
  have h2 : v2 = .int .u8 (c.toNat : Int) := h2
  subst h1; subst h2
  refine ⟨_, fun w => rfl, ?_⟩
  simp only [invoke]
  rw [X.ib]
  have e := Lib.run_indexByteString (P := P) ⟨⟨s⟩⟩ (c.toNat : Int) w
  rw [u8_nat] at e
  have e' : (Extern.BytealgIndexByte.indexByte (#[] ++ #[.string ⟨⟨s⟩⟩, .int .u8 (c.toNat : Int)] ++ #[])).run P w = .ok (.int .i64 (Lib.indexByte s c)) w := by simpa using e
  have e2 : (#[] ++ (⟨[.string ⟨⟨s⟩⟩, .int .u8 (c.toNat : Int)]⟩ : Array Value) ++ #[]) = #[] ++ #[.string ⟨⟨s⟩⟩, .int .u8 (c.toNat : Int)] ++ #[] := rfl
  simp only [e2, e', Result.andThen]
  exact ⟨_, m, rfl, rfl, hr, Grow.refl m h w hr.dom⟩
theorem v_ct (s : List UInt8) (c : UInt8) : VCall P (.func (.func 259) [] []) [.str s, .int .u8 c.toNat] h (fun v h' => v = .int .i64 (s.count c : Nat) ∧ h' = h) := by
  refine ⟨_, [], ?_, rfl, by simp⟩
  rw [List.append_nil]
  intro m w cv vs hr hf hargs
  rw [VR] at hf
  obtain ⟨f', a', c', rfl, hfn, ha, hc⟩ := hf
  simp only [FnR] at hfn
  subst hfn
  rw [VRs_nil] at ha hc
  subst ha; subst hc
  obtain ⟨v1, vs1, rfl, h1, hargs⟩ := VRs_cons.1 hargs
  obtain ⟨v2, vs2, rfl, h2, hargs⟩ := VRs_cons.1 hargs
  rw [VRs_nil] at hargs
  subst hargs
  have h1 : v1 = .string ⟨⟨s⟩⟩ := h1
  have h2 : v2 = .int .u8 (c.toNat : Int) := h2
  subst h1; subst h2
  refine ⟨_, fun w => rfl, ?_⟩
  simp only [invoke]
  rw [X.ct]
  have e := Lib.run_countString (P := P) ⟨⟨s⟩⟩ (c.toNat : Int) w
  rw [u8_nat] at e
  have e' : (Extern.BytealgCount.count (#[] ++ #[.string ⟨⟨s⟩⟩, .int .u8 (c.toNat : Int)] ++ #[])).run P w = .ok (.int .i64 (s.count c : Nat)) w := by simpa [Lib.countByte] using e
  have e2 : (#[] ++ (⟨[.string ⟨⟨s⟩⟩, .int .u8 (c.toNat : Int)]⟩ : Array Value) ++ #[]) = #[] ++ #[.string ⟨⟨s⟩⟩, .int .u8 (c.toNat : Int)] ++ #[] := rfl
  simp only [e2, e', Result.andThen]
  exact ⟨_, m, rfl, rfl, hr, Grow.refl m h w hr.dom⟩
end

attribute [local irreducible] WP WC WE WB WR WF WL WG WRg
section
variable {P : Program} (T : Tbl P) (X : Xtn P) {h : AHeap}
include T X

theorem r280 (s : List UInt8) (c : UInt8) : RCall P 280 [.str s, .int .u8 c.toNat] h (fun v _ => v = .int .i64 (Lib.indexByte s c)) := by
  refine .of T.mix T.c280 ?_
  unfold fn280
  refine Wn ?_
  refine WF.val (v_ib X s c) ?_
  rintro _ g ⟨rfl, hg⟩
  exact Wn trivial
theorem r231 (s : List UInt8) (c : UInt8) : RCall P 231 [.str s, .str [c]] h (fun v _ => v = .int .i64 (s.count c : Nat)) := by
  refine .of T.mix T.c231 ?_
  unfold fn231
  simp only [wset, hset, dset, bset, Nat.reduceAdd, Nat.reduceMul, Nat.reduceLeDiff, Nat.reduceEqDiff, List.length_singleton, show decide (((1 : Nat) : Int) = 0) = false from rfl, show decide (((1 : Nat) : Int) = 1) = true from rfl, ixs_0]
  refine WF.val (v_ct X s c) ?_
  rintro _ g ⟨rfl, hg⟩
  exact Wn trivial
theorem r260 (s : List UInt8) (c : UInt8) : RCall P 260 [.str s, .str [c]] h (fun v _ => v = .int .i64 (Lib.indexByte s c)) := by
  refine .of T.mix T.c260 ?_
  unfold fn260
  by_cases hs : [c] = s
  · have d1 : decide ([c] = s) = true := decide_eq_true hs
    have e : Lib.indexByte s c = 0 := by rw [← hs]; simp [Lib.indexByte]
    simp only [wset, hset, dset, bset, Nat.reduceAdd, Nat.reduceMul, Nat.reduceLeDiff, Nat.reduceEqDiff, List.length_singleton, show decide (((1 : Nat) : Int) = 0) = false from rfl, d1, e]
  · have d1 : decide ([c] = s) = false := decide_eq_false hs
    simp only [wset, hset, dset, bset, Nat.reduceAdd, Nat.reduceMul, Nat.reduceLeDiff, Nat.reduceEqDiff, List.length_singleton, show decide (((1 : Nat) : Int) = 0) = false from rfl, show decide (((1 : Nat) : Int) = 1) = true from rfl, d1, ixs_0]
    refine WF.ce T.c280 (r280 T X s c) fun g => ?_
    exact Wn trivial
theorem r232 (s : List UInt8) (c : UInt8) : RCall P 232 [.str s, .str [c]] h (fun v _ => v = .int .i64 (Lib.indexByte s c)) := by
  refine .of T.mix T.c232 ?_
  unfold fn232
  refine Wn ?_
  refine WF.ce T.c260 (r260 T X s c) fun g => ?_
  exact Wn trivial

set_option maxRecDepth 10000 in
set_option maxHeartbeats 1000000 in
theorem r213 (s : List UInt8) (c : UInt8) (hs : s.length ≤ 2 ^ 40) : RCall P 213 [.str s, .str [c], .int .i64 0, .int .i64 (-1)] h (fun v h' => IsSl h' v 1 ((splitB c s).map strRow)) := by
  refine .of T.mix T.c213 ?_
  obtain ⟨ts, hts⟩ : ∃ ts, ts = startTS 66 [.str s, .str [c], .int .i64 0, .int .i64 (-1)] := ⟨_, rfl⟩
  have hlen : ts.length = 66 := by rw [hts]; rfl
  have t0 : slot ts 0 = .str s := by rw [hts]; rfl
  have t1 : slot ts 1 = .str [c] := by rw [hts]; rfl
  have t2 : slot ts 2 = .int .i64 0 := by rw [hts]; rfl
  have t3 : slot ts 3 = .int .i64 (-1) := by rw [hts]; rfl
  unfold fn213
  show WC P inFn _ [] (startTS 66 [.str s, .str [c], .int .i64 0, .int .i64 (-1)]) h _
  rw [← hts]
  clear hts
  have hcnt : s.count c ≤ s.length := List.count_le_length
  have w1 : IntKind.i64.wrap ((s.count c : Int) + 1) = ((s.count c + 1 : Nat) : Int) := by rw [wrap_in (by omega) (by omega)]; omega
  have w2 : IntKind.i64.wrap ((s.length : Int) + 1) = ((s.length + 1 : Nat) : Int) := by rw [wrap_in (by omega) (by omega)]; omega
  have e1 : min ((s.count c + 1 : Nat) : Int) ((s.length + 1 : Nat) : Int) = ((s.count c + 1 : Nat) : Int) := by omega
  have w3 : IntKind.i64.wrap (((s.count c + 1 : Nat) : Int) - 1) = ((s.count c : Nat) : Int) := by rw [wrap_in (by omega) (by omega)]; omega
  have dn : decide ([c] = ([] : List UInt8)) = false := decide_eq_false (by simp)
  have d1 : decide ((-1 : Int) = 0) = false := rfl
  have d2 : decide (-1 < (0 : Int)) = true := rfl
  refine Rs (A7 @t0 @t1 @t2 @t3 @dn @d1 @d2) ?_
  refine WF.ce T.c231 (r231 T X s c) fun g1 => ?_
  repeat (first | simp (config := { maxSteps := 1000000 }) only [wset, hset, dset, bset, Nat.reduceAdd, Nat.reduceMul, Nat.reduceLeDiff, Nat.reduceEqDiff, pset, hlen, if_false, if_true, t0, t1, t2, t3, w1, w2, e1, w3, mksl_ok (es := 1) (w := 16) (N0 := (h ++ g1).length) (n := s.count c + 1) (z := [AV.str []]) (k := .i64) (k' := .i64) (by omega) (by omega)] | simp (config := { maxSteps := 1000000 }) (disch := first | (simp only [List.length_append, List.length_cons, List.length_nil] <;> omega) | rfl | omega | fail) only [kset, wset, hset, dset, bset, Nat.reduceAdd, Nat.reduceMul, Nat.reduceLeDiff, Nat.reduceEqDiff, pset, hlen, if_false, if_true, t0, t1, t2, t3, w1, w2, e1, w3, mksl_ok (es := 1) (w := 16) (N0 := (h ++ g1).length) (n := s.count c + 1) (z := [AV.str []]) (k := .i64) (k' := .i64) (by omega) (by omega)])
  have hF := Fr.zeros (N := h.length) (n := s.count c + 1) (h := h ++ g1) (z := [AV.str []]) (es := 1) (by simp) rfl
  obtain ⟨sv, hsv⟩ : ∃ sv, sv = AV.slice (h ++ g1).length 0 (s.count c + 1) 1 := ⟨_, rfl⟩
  rw [← hsv] at hF ⊢
  have er : List.replicate (s.count c + 1) [AV.str []] = (List.replicate (s.count c + 1) ([] : List UInt8)).map strRow := by simp [strRow]
  rw [er, List.append_assoc] at hF
  rw [List.append_assoc]
  refine WL.inv T.mix (fun n ts' h' => ∃ (k : Nat) (don : List (List UInt8)) (q : List UInt8) (g' : AHeap), don.length = k ∧ splitB c s = don ++ splitB c q ∧ k + q.count c = s.count c ∧ n = s.count c - k ∧ h' = h ++ g' ∧ Fr h.length h' sv 1 ((don ++ List.replicate (s.count c + 1 - k) ([] : List UInt8)).map strRow) ∧ ts'.length = 66 ∧ slot ts' 0 = .str q ∧ slot ts' 1 = .str [c] ∧ slot ts' 2 = .int .i64 0 ∧ slot ts' 3 = .int .i64 ((s.count c : Nat) : Int) ∧ slot ts' 9 = sv ∧ slot ts' 10 = .int .i64 k) (s.count c)
    ⟨0, [], s, _, rfl, rfl, by omega, rfl, rfl, hF, (Sq @t0), (Sq @t0), (Sq @t1), (Sq @t2), (Sq @t0), (Sq @t0), Swr⟩ ?_
  rintro _ ts' _ ⟨k, don, q, g', hdl, hsp, hkc, rfl, rfl, hF', hlen', u0, u1, u2, u3, u9, u10⟩
  clear hlen t0 t1 t2 t3
  have hlen := hlen'
  have hkl : k < (don ++ List.replicate (s.count c + 1 - k) ([] : List UInt8)).length := by simp; omega
  have hql : q.length ≤ s.length := by
    have e1 := joinB_split (c := c) (s := s)
    have : ∀ (d : List (List UInt8)) (z : List (List UInt8)), (joinB c z).length ≤ (joinB c (d ++ z)).length := by
      intro d
      induction d with
      | nil => intro z; exact Nat.le_refl _
      | cons x d ih =>
        intro z
        by_cases hz : d ++ z = []
        · have : z = [] := by simp at hz; exact hz.2
          subst this; simp [joinB]
        · rw [List.cons_append, joinB_cons hz]
          have := ih z
          simp; omega
    have := this don (splitB c q)
    rw [← hsp, joinB_split, joinB_split] at this
    exact this
  rcases ix_cases c q with ⟨hno, hix⟩ | ⟨p, q', hp, hq, hix⟩
  · have hc0 : q.count c = 0 := List.count_eq_zero.2 hno
    have e3 : ¬ (k : Int) < ((s.count c : Nat) : Int) := by omega
    have ek : s.count c + 1 - k = 1 := by omega
    have ixk := hF'.isSl.ixm (kk := .i64) hkl
    have w4 : IntKind.i64.wrap ((k : Int) + 1) = ((k + 1 : Nat) : Int) := by rw [wrap_in (by omega) (by omega)]; omega
    refine Rs (A9 @u0 @u1 @u2 @u3 @u9 @u10 @e3 @decide_false @ixk) ?_
    refine WR.put1 (h0 := h) (off := 0) (x' := q) hF' hkl (by decide) rfl (by simp [strRow]) ?_
    intro g3 hl3 hF3 _
    rw [set_rep hdl (by omega), ek] at hF3
    simp only [Nat.sub_self, List.replicate_zero, List.append_nil] at hF3
    have esp : don ++ [q] = splitB c s := by rw [hsp, splitB_no hno]
    rw [esp] at hF3
    have hbn : bnds none (some (AV.int .i64 ((k + 1 : Nat) : Int))) (splitB c s).length = some (0, k + 1) := bnds_hi (by rw [← esp]; simp; omega)
    obtain ⟨s', es', hs'⟩ := hF3.isSl.slm hbn
    refine Rs (A8 @u0 @u1 @u2 @u3 @u9 @u10 @w4 @es') ?_
    have et : List.take (k + 1 - 0) (List.drop 0 (splitB c s)) = splitB c s := by
      rw [List.drop_zero, List.take_of_length_le (by rw [← esp]; simp; omega)]
    rw [et] at hs'
    exact hs'
  · have hcq : q.count c = q'.count c + 1 := by rw [hq, List.count_append, List.count_eq_zero.2 hp, List.count_cons_self]; omega
    have e3 : (k : Int) < ((s.count c : Nat) : Int) := by omega
    refine Rs (A8 @u0 @u1 @u2 @u3 @u9 @u10 @e3 @decide_true) ?_
    refine WF.ce T.c232 (r232 T X q c) fun g2 => ?_
    have ixk := (hF'.app g2).isSl.ixm (kk := .i64) hkl
    have w4 : IntKind.i64.wrap ((k : Int) + 1) = ((k + 1 : Nat) : Int) := by rw [wrap_in (by omega) (by omega)]; omega
    have hpl : p.length < q.length := by rw [hq]; simp
    have w5 : IntKind.i64.wrap ((p.length : Int) + 0) = (p.length : Int) := by rw [wrap_in (by omega) (by omega)]; omega
    have w6 : IntKind.i64.wrap ((p.length : Int) + ((1 : Nat) : Int)) = ((p.length + 1 : Nat) : Int) := by rw [wrap_in (by omega) (by omega)]; omega
    have dp : decide ((p.length : Int) < 0) = false := decide_eq_false (by omega)
    have hF2 := hF'.app g2
    rw [List.append_assoc] at hF2 ⊢
    rw [hix]
    subst hq
    repeat (first | simp (config := { maxSteps := 1000000 }) only [wset, hset, dset, bset, Nat.reduceAdd, Nat.reduceMul, Nat.reduceLeDiff, Nat.reduceEqDiff, pset, hlen, if_false, if_true, u0, u1, u2, u3, u9, u10, dp, w5, ixk, sls_hi', List.length_singleton, w6, sls_lo'] | simp (config := { maxSteps := 1000000 }) (disch := first | (simp only [List.length_append, List.length_cons, List.length_nil] <;> omega) | rfl | omega | fail) only [kset, wset, hset, dset, bset, Nat.reduceAdd, Nat.reduceMul, Nat.reduceLeDiff, Nat.reduceEqDiff, pset, hlen, if_false, if_true, u0, u1, u2, u3, u9, u10, dp, w5, ixk, sls_hi', List.length_singleton, w6, sls_lo'])
    refine WR.put1 (h0 := h) (off := 0) (x' := p) hF2 hkl (by decide) rfl (by simp [strRow]) ?_
    intro g3 hl3 hF3 _
    rw [set_rep hdl (by omega)] at hF3
    repeat (first | simp (config := { maxSteps := 1000000 }) only [wset, hset, dset, bset, Nat.reduceAdd, Nat.reduceMul, Nat.reduceLeDiff, Nat.reduceEqDiff, pset, hlen, if_false, if_true, u0, u1, u2, u3, u9, u10, List.length_singleton, w6, sls_lo', w4] | simp (config := { maxSteps := 1000000 }) (disch := first | (simp only [List.length_append, List.length_cons, List.length_nil] <;> omega) | rfl | omega | fail) only [kset, wset, hset, dset, bset, Nat.reduceAdd, Nat.reduceMul, Nat.reduceLeDiff, Nat.reduceEqDiff, pset, hlen, if_false, if_true, u0, u1, u2, u3, u9, u10, List.length_singleton, w6, sls_lo', w4])
    have em : s.count c + 1 - k - 1 = s.count c + 1 - (k + 1) := by omega
    rw [em] at hF3
    exact ⟨s.count c - (k + 1), by omega, k + 1, don ++ [p], q', g3, by simp [hdl], by rw [hsp, splitB_app hp]; simp, by omega, rfl, rfl, hF3, rfl, rfl⟩

theorem r176 (s : List UInt8) (c : UInt8) (hs : s.length ≤ 2 ^ 40) : RCall P 176 [.str s, .str [c]] h (fun v h' => IsSl h' v 1 ((splitB c s).map strRow)) := by
  refine .of T.mix T.c176 ?_
  unfold fn176
  refine Wn ?_
  refine WF.res T.c213 (r213 T X s c hs) ?_
  intro v g hv
  refine Wn ?_
  exact hv

end
end Go.Abs
namespace Go.Abs

/-- The last part, and the ones ahead. -/
def pushB (c x : UInt8) (ps : List (List UInt8)) : List (List UInt8) := if x = c then ps ++ [[]] else ps.dropLast ++ [ps.getLastD [] ++ [x]]
theorem splitB_push {c x : UInt8} : ∀ {s : List UInt8}, splitB c (s ++ [x]) = pushB c x (splitB c s)
  | [] => by
    by_cases h : x = c
    · simp [splitB, pushB, h]
    · simp [splitB, pushB, h]
  | y :: r => by
    have ih := splitB_push (c := c) (x := x) (s := r)
    have hne := splitB_ne (c := c) (s := r)
    rw [List.cons_append, splitB, ih, splitB]
    by_cases h : y = c
    · rw [if_pos h, if_pos h]
      unfold pushB
      by_cases hx : x = c
      · rw [if_pos hx, if_pos hx]; rfl
      · rw [if_neg hx, if_neg hx, List.dropLast_cons_of_ne_nil hne, List.getLastD_cons]
        cases hs : splitB c r with
        | nil => exact absurd hs hne
        | cons p ps => simp [List.getLastD_eq_getLast?]
    · rw [if_neg h, if_neg h]
      cases hs : splitB c r with
      | nil => exact absurd hs hne
      | cons p ps =>
        unfold pushB
        by_cases hx : x = c
        · rw [if_pos hx, if_pos hx]; rfl
        · rw [if_neg hx, if_neg hx]
          cases ps with
          | nil => simp
          | cons q qs => simp [List.getLastD_eq_getLast?]
theorem pushB_len {c x : UInt8} {ps : List (List UInt8)} (hx : x ≠ c) (hne : ps ≠ []) : pushB c x ps = ps.set (ps.length - 1) (ps.getD (ps.length - 1) [] ++ [x]) := by
  unfold pushB
  rw [if_neg hx]
  obtain ⟨q, l, rfl⟩ : ∃ q l, ps = q ++ [l] := ⟨ps.dropLast, ps.getLast hne, (List.dropLast_concat_getLast hne).symm⟩
  simp [List.getLastD_eq_getLast?, List.set_append_right]
theorem bnds_both {n k m : Nat} {kk k2 : IntKind} (h1 : k ≤ m) (h2 : m ≤ n) : bnds (some (.int kk (k : Int))) (some (.int k2 (m : Int))) n = some (k, m) := by
  simp only [bnds, loN, hiN]
  rw [if_pos ⟨by omega, by omega, by omega⟩]; simp
theorem sls_1 {s : List UInt8} {k : Nat} {kk k2 : IntKind} (hk : k < s.length) : slsF (.str s) (some (.int kk (k : Int))) (some (.int k2 ((k + 1 : Nat) : Int))) = some (.str [s[k]]) := by
  simp only [slsF, bnds_both (show k ≤ k + 1 by omega) (show k + 1 ≤ s.length by omega)]
  rw [show k + 1 - k = 1 by omega, List.drop_eq_getElem_cons hk]; rfl

def dgC : ICode := match (fn216).body with
  | .seq _ (.seq _ c) => c
  | c => c
theorem dg_no {s : List UInt8} (hb : digOk s = false) : AV.tup [.int .i64 0, .bool false] = AV.tup [.int .i64 (if digOk s then digN s else 0), .bool (digOk s)] := by rw [hb]; rfl
attribute [local irreducible] WP WC WE WB WR WF WL WG WRg
section
variable {P : Program} (T : Tbl P) {h : AHeap}
include T

set_option maxRecDepth 10000 in
set_option maxHeartbeats 2000000 in
theorem r103 (s : List UInt8) (c : UInt8) (hs : s.length ≤ 2 ^ 40) : RCall P 103 [.str s, .int .u8 c.toNat] h (fun v h' => Fr h.length h' v 1 ((splitB c s).map strRow)) := by
  refine .st2 40 T.mix T.c103 ?_;intro ts hlen t0 t1;unfold fn103
  refine Rs (A2 @t0 @t1) ?_
  have hF0 := Fr.push (N := h.length) (h := h) (es := 1) (Nat.le_refl _) (([[]] : List (List UInt8)).map strRow) (by simp [strRow])
  have hlenB : ∀ k, (splitB c (s.take k)).length ≤ s.length + 1 := fun k => by
    rw [splitB_len]
    have := List.count_le_length (a := c) (l := s.take k)
    have h2 : (s.take k).length ≤ s.length := by rw [List.length_take]; omega
    omega
  refine WL.inv T.mix (fun n ts' h' => ∃ (k : Nat) (sv : AV) (g' : AHeap), k ≤ s.length ∧ n = s.length - k ∧ h' = h ++ g' ∧ Fr h.length h' sv 1 ((splitB c (s.take k)).map strRow) ∧ ts'.length = 40 ∧ slot ts' 0 = .str s ∧ slot ts' 1 = .int .u8 c.toNat ∧ slot ts' 5 = sv ∧ slot ts' 6 = .int .i64 k) s.length
    ⟨0, _, _, by omega, rfl, rfl, hF0, (Sq @t0), (Sq @t0), (Sq @t1), Swr, Swr⟩ ?_
  rintro _ ts' _ ⟨k, sv, g', hk, rfl, rfl, hF, hlen', u0, u1, u5, u6⟩
  clear hlen t0 t1 hF0
  have hlen := hlen'
  have hlB := hlenB k
  have hne := splitB_ne (c := c) (s := s.take k)
  by_cases hlt : k < s.length
  · have e3 : (k : Int) < s.length := by omega
    have hpush : splitB c (s.take (k + 1)) = pushB c s[k] (splitB c (s.take k)) := by rw [take_succ' hlt, splitB_push]
    by_cases hc : s[k] = c
    · have dc : decide ((s[k].toNat : Int) = c.toNat) = true := decide_eq_true (by rw [hc])
      repeat (first | simp (config := { maxSteps := 1000000 }) only [wset, hset, dset, bset, Nat.reduceAdd, Nat.reduceMul, Nat.reduceLeDiff, Nat.reduceEqDiff, pset, hlen, if_false, if_true, u0, u1, u5, u6, e3, decide_true, ixs_in hlt, dc] | simp (config := { maxSteps := 1000000 }) (disch := first | (simp only [List.length_append, List.length_cons, List.length_nil] <;> omega) | rfl | omega | fail) only [kset, wset, hset, dset, bset, Nat.reduceAdd, Nat.reduceMul, Nat.reduceLeDiff, Nat.reduceEqDiff, pset, hlen, if_false, if_true, u0, u1, u5, u6, e3, decide_true, ixs_in hlt, dc])
      refine WR.app1 (h0 := h) (cs := (splitB c (s.take k)).map strRow) (ys := [strRow []]) (hF.app _) (Fr.push (N := 0) (Nat.zero_le _) [strRow []] (by simp [strRow])).isSl (by decide) (by simp) (by simp; omega) Xx ?_
      intro g2 hl2 hF2 _
      have er : (splitB c (s.take k)).map strRow ++ [strRow []] = (splitB c (s.take (k + 1))).map strRow := by
        rw [hpush, pushB, if_pos hc, List.map_append]; rfl
      rw [er] at hF2 ⊢
      refine Rs (A5 @u0 @u1 @u5 @u6 (wrapN (show k + 1 < 2 ^ 63 by omega))) ?_
      exact ⟨s.length - (k + 1), by omega, k + 1, _, g2, by omega, rfl, rfl, hF2, rfl, rfl⟩
    · have dc : decide ((s[k].toNat : Int) = c.toNat) = false := decide_eq_false fun e => hc (UInt8.toNat_inj.1 (by omega))
      have hpl : 0 < (splitB c (s.take k)).length := List.length_pos_iff.2 hne
      have hi : (splitB c (s.take k)).length - 1 < (splitB c (s.take k)).length := by omega
      have w1 : IntKind.i64.wrap (((splitB c (s.take k)).length : Int) - 1) = (((splitB c (s.take k)).length - 1 : Nat) : Int) := by rw [wrap_in (by omega) (by omega)]; omega
      have ix := hF.isSl.ixm (kk := .i64) hi
      have gl : (splitB c (s.take k)).getD ((splitB c (s.take k)).length - 1) [] = (splitB c (s.take k))[(splitB c (s.take k)).length - 1] := by rw [List.getD_eq_getElem?_getD, List.getElem?_eq_getElem hi]; rfl
      rw [pushB_len hc hne, gl] at hpush
      have hwl : (splitB c (s.take k))[(splitB c (s.take k)).length - 1].length ≤ s.length := by
        have h1 := splitB_le _ (List.getElem_mem hi)
        have h2 : (s.take k).length ≤ s.length := by rw [List.length_take]; omega
        omega
      have ld := fun {kk : AHeap} (e : Ext (h ++ g') kk) => hF.isSl.l1m hi (x := .str (splitB c (s.take k))[(splitB c (s.take k)).length - 1]) rfl e
      obtain ⟨j, hj⟩ : ∃ j, j = (splitB c (s.take k)).length - 1 := ⟨_, rfl⟩
      repeat (first | simp (config := { maxSteps := 1000000 }) only [wset, hset, dset, bset, Nat.reduceAdd, Nat.reduceMul, Nat.reduceLeDiff, Nat.reduceEqDiff, pset, hlen, if_false, if_true, u0, u1, u5, u6, e3, decide_true, ixs_in hlt, dc, hF.isSl.lenm, w1, ix, ld, wrapN (show k + 1 < 2 ^ 63 by omega), sls_1 hlt, bin_cat (show (splitB c (s.take k))[(splitB c (s.take k)).length - 1].length + [s[k]].length < 2 ^ 62 by simp; omega)] | simp (config := { maxSteps := 1000000 }) (disch := first | (simp only [List.length_append, List.length_cons, List.length_nil] <;> omega) | rfl | omega | fail) only [kset, wset, hset, dset, bset, Nat.reduceAdd, Nat.reduceMul, Nat.reduceLeDiff, Nat.reduceEqDiff, pset, hlen, if_false, if_true, u0, u1, u5, u6, e3, decide_true, ixs_in hlt, dc, hF.isSl.lenm, w1, ix, ld, wrapN (show k + 1 < 2 ^ 63 by omega), sls_1 hlt, bin_cat (show (splitB c (s.take k))[(splitB c (s.take k)).length - 1].length + [s[k]].length < 2 ^ 62 by simp; omega)])
      refine WR.put1 (h0 := h) (off := 0) (x' := (splitB c (s.take k))[(splitB c (s.take k)).length - 1] ++ [s[k]]) hF hi (by decide) rfl (by simp [strRow]) ?_
      intro g2 hl2 hF2 _
      rw [← hpush] at hF2
      refine Rs (A5 @u0 @u1 @u5 @u6 (wrapN (show k + 1 < 2 ^ 63 by omega))) ?_
      exact ⟨s.length - (k + 1), by omega, k + 1, _, g2, by omega, rfl, rfl, hF2, rfl, rfl⟩
  · have e3 : ¬ (k : Int) < s.length := by omega
    have ek : k = s.length := by omega
    rw [ek, List.take_length] at hF
    refine Rs (A6 @u0 @u1 @u5 @u6 @e3 @decide_false) ?_
    exact hF

set_option maxRecDepth 10000 in
set_option maxHeartbeats 1000000 in
theorem digits_L {s : List UInt8} {ts : TS} {W : AHeap} (hlen : ts.length = 44) (t0 : slot ts 0 = .str s) (h9 : s.length ≤ 9) (he : Ext h W) (hh : digOk s = s.all digitS) :
    WC P inFn dgC [] ts W (FQ [(2, none), (3, none)] fun v h' => Ext h h' ∧ v = .tup [.int .i64 (if digOk s then digN s else 0), .bool (digOk s)]) := by
  unfold dgC fn216
  dsimp only
  refine Rs @t0 ?_
  refine WL.inv T.mix (fun n ts' h' => ∃ (k : Nat) (g' : AHeap), k ≤ s.length ∧ n = s.length - k ∧ h' = W ++ g' ∧ (s.take k).all digitS = true ∧ ts'.length = 44 ∧ slot ts' 0 = .str s ∧ slot ts' 4 = .int .i64 (digN (s.take k)) ∧ slot ts' 5 = .int .i64 k) s.length
    ⟨0, [], by omega, rfl, by rw [List.append_nil], rfl, (Sq @t0), (Sq @t0), Swr, Swr⟩ ?_
  rintro _ ts' _ ⟨k, g', hk, rfl, rfl, hd, hlen', u0, u4, u5⟩
  clear hlen t0
  have hlen := hlen'
  by_cases hlt : k < s.length
  · have e3 : (k : Int) < s.length := by omega
    have hb := dig9 h9 hk hd
    have hcn := UInt8.toNat_lt s[k]
    repeat (first | simp (config := { maxSteps := 1000000 }) only [wset, hset, dset, bset, Nat.reduceAdd, Nat.reduceMul, Nat.reduceLeDiff, Nat.reduceEqDiff, pset, hlen, if_false, if_true, u0, u4, u5, e3, decide_true, ixs_in hlt] | simp (config := { maxSteps := 1000000 }) (disch := first | (simp only [List.length_append, List.length_cons, List.length_nil] <;> omega) | rfl | omega | fail) only [kset, wset, hset, dset, bset, Nat.reduceAdd, Nat.reduceMul, Nat.reduceLeDiff, Nat.reduceEqDiff, pset, hlen, if_false, if_true, u0, u4, u5, e3, decide_true, ixs_in hlt])
    refine WF.res T.c206 (r206 T _) ?_
    rintro _ g2 rfl
    cases hy : digitS s[k] with
    | false =>
      refine Rs (A5 @u0 @u4 @u5 @hy @Bool.not_false) ?_
      have hf : digOk s = false := by
        rw [hh, List.all_eq_false]
        exact ⟨s[k], List.getElem_mem hlt, by simp [hy]⟩
      rw [hf]
      exact ⟨Ext.trans he Xx, rfl⟩
    | true =>
      have hc := digitS_iff.1 hy
      have w1 : IntKind.i64.wrap (10 * digN (s.take k)) = 10 * digN (s.take k) := wrap_in (by omega) (by omega)
      have w2 : IntKind.u8.wrap ((s[k].toNat : Int) - 48) = (s[k].toNat : Int) - 48 := wrapU8 (by omega) (by omega)
      have w3 : IntKind.i64.wrap ((s[k].toNat : Int) - 48) = (s[k].toNat : Int) - 48 := wrap_in (by omega) (by omega)
      have w4 : IntKind.i64.wrap (10 * digN (s.take k) + ((s[k].toNat : Int) - 48)) = digN (s.take (k + 1)) := by
        rw [take_succ' hlt, digN_app]; exact wrap_in (by omega) (by omega)
      repeat (first | simp (config := { maxSteps := 1000000 }) only [wset, hset, dset, bset, Nat.reduceAdd, Nat.reduceMul, Nat.reduceLeDiff, Nat.reduceEqDiff, pset, hlen, if_false, if_true, u0, u4, u5, hy, Bool.not_true, ixs_in hlt, w1, w2, w3, w4, wrapN (show k + 1 < 2 ^ 63 by omega)] | simp (config := { maxSteps := 1000000 }) (disch := first | (simp only [List.length_append, List.length_cons, List.length_nil] <;> omega) | rfl | omega | fail) only [kset, wset, hset, dset, bset, Nat.reduceAdd, Nat.reduceMul, Nat.reduceLeDiff, Nat.reduceEqDiff, pset, hlen, if_false, if_true, u0, u4, u5, hy, Bool.not_true, ixs_in hlt, w1, w2, w3, w4, wrapN (show k + 1 < 2 ^ 63 by omega)])
      refine ⟨s.length - (k + 1), by omega, k + 1, g' ++ g2, by omega, rfl, by rw [List.append_assoc], ?_, rfl, rfl⟩
      rw [take_succ' hlt, List.all_append, hd]
      simp [hy]
  · have e3 : ¬ (k : Int) < s.length := by omega
    have ek : k = s.length := by omega
    rw [ek, List.take_length] at hd u4
    refine Rs (A5 @u0 @u4 @u5 @e3 @decide_false) ?_
    rw [hh, hd]
    exact ⟨Ext.trans he Xx, rfl⟩

set_option maxRecDepth 10000 in
set_option maxHeartbeats 1000000 in
theorem r216 (s : List UInt8) : RCall P 216 [.str s] h (fun v _ => v = .tup [.int .i64 (if digOk s then digN s else 0), .bool (digOk s)]) := by
  refine .st1 44 T.mix T.c216 ?_;intro ts hlen t0;unfold fn216
  show WC P inFn (.seq _ (.seq _ dgC)) _ _ _ _
  by_cases h0 : s.length = 0
  · have d0 : decide ((s.length : Int) = 0) = true := decide_eq_true (by omega)
    refine Rs (A2 @t0 @d0) ?_
    exact dg_no (by simp [digOk, h0])
  have d0 : decide ((s.length : Int) = 0) = false := decide_eq_false (by omega)
  by_cases h9 : 9 < s.length
  · have d9 : decide ((9 : Int) < s.length) = true := decide_eq_true (by omega)
    refine Rs (A3 @t0 @d0 @d9) ?_
    exact dg_no (by simp [digOk]; intro _ _; omega)
  have d9 : decide ((9 : Int) < s.length) = false := decide_eq_false (by omega)
  obtain ⟨c, r, rfl⟩ : ∃ c r, s = c :: r := by cases s with | nil => simp at h0 | cons c r => exact ⟨c, r, rfl⟩
  have hcn := UInt8.toNat_lt c
  have hl1 : (c :: r).length = r.length + 1 := rfl
  by_cases h1 : 0 < r.length
  · have d1 : decide ((1 : Int) < ((c :: r).length : Int)) = true := decide_eq_true (by omega)
    by_cases h2 : c = 48
    · have d2 : decide ((c.toNat : Int) = 48) = true := by rw [h2]; rfl
      refine Rs (A6 @t0 @d0 @d9 @d1 @ixs_0 @d2) ?_
      have q1 : decide (1 < (c :: r).length) = true := decide_eq_true (by omega)
      have q2 : decide ((c :: r).head? = some 48) = true := by rw [h2]; rfl
      exact dg_no (by simp only [digOk, q1, q2, Bool.and_true, Bool.not_true, Bool.and_false, Bool.false_and])
    · have d2 : decide ((c.toNat : Int) = 48) = false := decide_eq_false fun e => h2 (UInt8.toNat_inj.1 (by simpa using (by omega : c.toNat = 48)))
      refine Rs (A6 @t0 @d0 @d9 @d1 @ixs_0 @d2) ?_
      exact digits_L T Sn (Sq @t0) (by omega) Xx (by simp [digOk, h2]; intro _; omega)
  · have d1 : decide ((1 : Int) < ((c :: r).length : Int)) = false := decide_eq_false (by omega)
    refine Rs (A4 @t0 @d0 @d9 @d1) ?_
    exact digits_L T Sn (Sq @t0) (by omega) Xx (by simp [digOk, h1]; intro _; omega)
end
end Go.Abs
