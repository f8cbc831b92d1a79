/- The abstract layer: an input that is read, laid as a heap of ours. No condition. · The abstract layer: package-level variables that are laid; a row of the kind 'the result is true', closed. No condition. · The functions in the small code. No condition. · The abstract layer: loops over functions, by what the function yields. No condition. · The abstract layer: append on an empty literal; stores into a slice of one's own; make and copy. No condition. · The abstract layer, part RH: rules for the regions whose stores may come before loads of other blocks. No condition. · The abstract layer: slots of a long row, one by one. No condition. · Short words for what the walks repeat. No condition. · Errors, ranges, names; plain. No condition. · Contracts: errors, ranges. No condition. · Contracts: the greatest common divisor, quotients in lowest terms. No condition. · What the rows of the filter have in common: the arguments' types. No condition. · Tides: their errors, the level at a tick. Contracts. No condition. · Contracts: the errors of tides. No condition. · Contracts: the reference's errors of tides; the level at a tick. No condition. · Contracts: the level at a tick. No condition. · Contracts: the level with its checks; the seat's own helpers: short rows, rows turned, levels compared. No condition. · Numbers that a floating point format has exactly. No condition. · The value of a number; comparisons, sums and products of numbers that a format has. No condition. · Constants, integers as floats and back, products by 16, differences. No condition. · Products and quotients by 16, the greater format. No condition. -/
import Derived.Test.YtfcfelnabfaelaaGreatDoorKg4
import Derived.ChangeArms
import Derived.Deep.Slices
import Derived.WideShapes
import Derived.ChangeShapes
import Derived.ChangeMaps5
import Derived.OpenShut
import Derived.Carry
import Derived.ChangeSame
import Derived.RowKit
import Derived.ProofKit
import Derived.LaidMore
import Derived.Lay
import Derived.SevenTiedAt
import Derived.Stop.Joined
import Derived.Laws.FloatBits
import Derived.Test.YtfcfelnabfaelaaGreatDoorKg1
set_option linter.all false
namespace Go.Abs
open Go.ChangeShapes Go.WideShapes Go.Deep

/-- The type of a cell. -/
inductive CT where
  | int (k : IntKind)
  | bool
  | str
  | flt (k : FloatKind)
  | sl (row : List CT)

def ctFields (P : Program) (f : TypeId → Option (List CT)) : List Field → Nat → Option (List CT)
  | [], _ => some []
  | x :: r, o =>
    match f x.type with
    | some a =>
      if x.offset = o ∧ a.length = P.cellsOf x.type then
        match ctFields P f r (o + a.length) with
        | some b => some (a ++ b)
        | none => none
      else none
    | none => none

/-- The cells of a type of the program. -/
def ctOf (P : Program) : Nat → TypeId → Option (List CT)
  | 0, _ => none
  | n + 1, t =>
    match P.underlying t with
    | some (.int k) => some [.int k]
    | some .bool => some [.bool]
    | some .string => some [.str]
    | some (.float k) => some [.flt k]
    | some (.slice e) =>
      match ctOf P n e with
      | some r => if r.length = P.cellsOf e ∧ 0 < r.length then some [.sl r] else none
      | none => none
    | some (.struct fs) =>
      match ctFields P (ctOf P n) fs.toList 0 with
      | some r => if r.length = P.cellsOf t then some r else none
      | none => none
    | some (.array m e) =>
      match ctOf P n e with
      | some r => if r.length = P.cellsOf e ∧ P.cellsOf t = m * P.cellsOf e then some (List.replicate m r).flatten else none
      | none => none
    | _ => none

mutual
/-- What a cell of a type holds. -/
def TY (h : AHeap) : CT → AV → Prop
  | .int k, a => ∃ z, a = .int k z ∧ (Lit.int k z).wf = true
  | .bool, a => ∃ b, a = .bool b
  | .str, a => ∃ s : List UInt8, a = .str s ∧ s.length ≤ maxLen
  | .flt k, a => ∃ b : Nat, a = .flt k b
  | .sl r, a => ∃ cs : List (List AV), IsSl h a r.length cs ∧ cs.length ≤ maxLen ∧ ∀ c ∈ cs, TYs h r c
def TYs (h : AHeap) : List CT → List AV → Prop
  | [], l => l = []
  | t :: ts, l => ∃ a l', l = a :: l' ∧ TY h t a ∧ TYs h ts l'
end

mutual
theorem TY.ext {h k} (e : Ext h k) : ∀ {t} {a}, TY h t a → TY k t a
  | .int _, a, x => x
  | .bool, a, x => x
  | .str, a, x => x
  | .flt _, a, x => x
  | .sl r, a, x => by
    rw [TY] at x ⊢
    obtain ⟨cs, h1, h2, h3⟩ := x
    exact ⟨cs, h1.ext e, h2, fun c hc => TYs.ext e (h3 c hc)⟩
theorem TYs.ext {h k} (e : Ext h k) : ∀ {ts} {l}, TYs h ts l → TYs k ts l
  | [], l, x => x
  | t :: ts, l, x => by
    rw [TYs] at x ⊢
    obtain ⟨a, l', h1, h2, h3⟩ := x
    exact ⟨a, l', h1, TY.ext e h2, TYs.ext e h3⟩
end

theorem TY.one {h} : ∀ {t} {a}, TY h t a → a.one = true
  | .int _, a, x => by rw [TY] at x; obtain ⟨z, rfl, _⟩ := x; rfl
  | .bool, a, x => by rw [TY] at x; obtain ⟨z, rfl⟩ := x; rfl
  | .str, a, x => by rw [TY] at x; obtain ⟨z, rfl, _⟩ := x; rfl
  | .flt _, a, x => by rw [TY] at x; obtain ⟨z, rfl⟩ := x; rfl
  | .sl r, a, x => by rw [TY] at x; obtain ⟨z, h1, _⟩ := x; exact h1.one
theorem TYs.one {h} : ∀ {ts} {l}, TYs h ts l → l.all AV.one = true
  | [], l, x => by rw [TYs] at x; subst x; rfl
  | t :: ts, l, x => by
    rw [TYs] at x
    obtain ⟨a, l', rfl, h1, h2⟩ := x
    rw [List.all_cons, h1.one, TYs.one h2]; rfl
theorem TYs.length {h} : ∀ {ts} {l}, TYs h ts l → l.length = ts.length
  | [], l, x => by rw [TYs] at x; subst x; rfl
  | t :: ts, l, x => by
    rw [TYs] at x
    obtain ⟨a, l', rfl, h1, h2⟩ := x
    rw [List.length_cons, List.length_cons, TYs.length h2]
theorem TYs.append {h} : ∀ {ts us} {l m}, TYs h ts l → TYs h us m → TYs h (ts ++ us) (l ++ m)
  | [], us, l, m, x, y => by rw [TYs] at x; subst x; exact y
  | t :: ts, us, l, m, x, y => by
    rw [TYs] at x
    obtain ⟨a, l', rfl, h1, h2⟩ := x
    show TYs h (t :: (ts ++ us)) (a :: (l' ++ m))
    rw [TYs]
    exact ⟨a, _, rfl, h1, TYs.append h2 y⟩

def embOf (E : List Ent) : Emb := fun b => E[b]?
theorem embOf_le (E F : List Ent) : (embOf E).le (embOf (E ++ F)) := fun b e hb => by
  unfold embOf at hb ⊢
  rw [List.getElem?_append_left (List.getElem?_eq_some_iff.1 hb).1]; exact hb

/-- A world, and a heap of ours that is read alone. -/
structure AW (P : Program) (w : World) (E : List Ent) (B : AHeap) : Prop where
  len : E.length = B.length
  own : ∀ (b : Nat) e, E[b]? = some e → e.own = false ∧ e.cb < w.heap.size
  blk : ∀ (b : Nat) e k, E[b]? = some e → B[b]? = some k → BR P (embOf E) w e k ∧ (k = .dead ∨ ∃ c, k = .cells c false false)
  glob : ∀ g, g < P.globals.size → ∃ e, E[g]? = some e ∧ e.cb = g ∧ e.d = 0 ∧ e.own = false ∧ e.sz = gsz P g

variable {P : Program} {w : World} {E : List Ent} {B : AHeap}

theorem AW.hr (a : AW P w E B) : HR P (embOf E) B w where
  dom := fun b e hb => by rw [← a.len]; exact (List.getElem?_eq_some_iff.1 hb).1
  blk := fun b e k hb hk => (a.blk b e k hb hk).1
  sep := fun b1 b2 e1 e2 k1 k2 _ h1 h2 hk1 hk2 _ => by
    rcases (a.blk b1 e1 k1 h1 hk1).2 with rfl | ⟨c1, rfl⟩
    · cases k2 <;> trivial
    · rcases (a.blk b2 e2 k2 h2 hk2).2 with rfl | ⟨c2, rfl⟩
      · trivial
      · exact ⟨rfl, rfl, fun x => by cases x⟩
  glob := a.glob
  lt := fun b e hb => (a.own b e hb).2

theorem AW.push (a : AW P w E B) {e} {k} (ho : e.own = false) (hlt : e.cb < w.heap.size) (hb : BR P (embOf E) w e k) (hk : k = .dead ∨ ∃ c, k = .cells c false false) : AW P w (E ++ [e]) (B ++ [k]) where
  len := by simp [a.len]
  own := fun b e' h => by
    by_cases hlb : b < E.length
    · rw [List.getElem?_append_left hlb] at h; exact a.own b e' h
    · have := (List.getElem?_eq_some_iff.1 h).1
      simp at this
      have : b = E.length := by omega
      subst this
      simp at h
      subst h
      exact ⟨ho, hlt⟩
  blk := fun b e' k' h h' => by
    by_cases hlb : b < E.length
    · rw [List.getElem?_append_left hlb] at h
      rw [List.getElem?_append_left (by rw [← a.len]; exact hlb)] at h'
      exact ⟨(a.blk b e' k' h h').1.mono (embOf_le E [e]), (a.blk b e' k' h h').2⟩
    · have := (List.getElem?_eq_some_iff.1 h).1
      simp at this
      have hbe : b = E.length := by omega
      have hbb : b = B.length := by rw [hbe, a.len]
      rw [hbe] at h
      rw [hbb] at h'
      simp at h h'
      subst h; subst h'
      exact ⟨hb.mono (embOf_le E [e]), hk⟩
  glob := fun g hg => by
    obtain ⟨e', h1, h2⟩ := a.glob g hg
    exact ⟨e', embOf_le E [e] g e' h1, h2⟩

/-- Some cells are laid: the room behind what is there grows. -/
def Laid (P : Program) (w : World) (E : List Ent) (B : AHeap) (row : List CT) (cs : List Value) : Prop :=
  ∃ F C ax, AW P w (E ++ F) (B ++ C) ∧ VRs (embOf (E ++ F)) ax cs ∧ TYs (B ++ C) row ax

theorem Laid.app {row row2} {cs cs2} (h1 : Laid P w E B row cs) (h2 : ∀ F C, AW P w (E ++ F) (B ++ C) → Laid P w (E ++ F) (B ++ C) row2 cs2) : Laid P w E B (row ++ row2) (cs ++ cs2) := by
  obtain ⟨F, C, ax, a1, a2, a3⟩ := h1
  obtain ⟨F', C', ax', b1, b2, b3⟩ := h2 F C a1
  refine ⟨F ++ F', C ++ C', ax ++ ax', by rw [← List.append_assoc, ← List.append_assoc]; exact b1, ?_, ?_⟩
  · rw [← List.append_assoc]
    exact (VRs.mono (embOf_le _ _) _ _ a2).append b2
  · rw [← List.append_assoc]
    exact TYs.append (a3.ext ⟨C', rfl⟩) b3

theorem laid_nil (a : AW P w E B) : Laid P w E B [] [] := ⟨[], [], [], by simpa using a, by rw [VRs_nil], rfl⟩
theorem laid_one (a : AW P w E B) {t} {x} {v} (hv : VR (embOf E) x v) (ht : TY B t x) : Laid P w E B [t] [v] :=
  ⟨[], [], [x], by simpa using a, by simpa using VRs_cons.2 ⟨v, [], rfl, hv, by rw [VRs_nil]⟩, by
    rw [List.append_nil, TYs]; exact ⟨x, [], rfl, ht, rfl⟩⟩

section
variable {H : Type} {enc : TypeId × Value → H} {base : Nat} {held : Bool}

/-- THE ROWS OF A SLICE ARE LAID, one behind the other. -/
theorem laid_rows {es : Nat} {r : List CT} {a : Addr} {m : Nat} (row : ∀ i, i < m → ∃ cs, w.cells? base (a.add (i * es)) es = some cs ∧ ∀ E B, AW P w E B → Laid P w E B r cs) : ∀ (k : Nat) {E : List Ent} {B : AHeap}, k ≤ m → AW P w E B →
    ∃ (F : List Ent) (C : AHeap) (rows : List (List AV)) (VL : List Value), AW P w (E ++ F) (B ++ C) ∧ rows.length = k ∧ VRs (embOf (E ++ F)) rows.flatten VL ∧ (∀ c ∈ rows, TYs (B ++ C) r c) ∧ VL.length = k * es ∧ ∀ i, i < k * es → w.cell? (a.add i) = VL[i]?
  | 0, E, B, _, aw => ⟨[], [], [], [], by rw [List.append_nil, List.append_nil]; exact aw, rfl, rfl, fun c hc => by (cases hc), by rw [Nat.zero_mul]; rfl, fun i hi => by rw [Nat.zero_mul] at hi; exact absurd hi (Nat.not_lt_zero _)⟩
  | k + 1, E, B, hkm, aw => by
    obtain ⟨F, C, rows, VL, h1, h2, h3, h4, h5, h6⟩ := laid_rows row k (by omega) aw
    obtain ⟨cs, hcs, hl⟩ := row k (by omega)
    obtain ⟨F', C', ax, a1, a2, a3⟩ := hl _ _ h1
    obtain ⟨_, hlen, hcell⟩ := World.cells?_some hcs
    refine ⟨F ++ F', C ++ C', rows ++ [ax], VL ++ cs, by rw [← List.append_assoc, ← List.append_assoc]; exact a1, by rw [List.length_append, h2]; rfl, ?_, ?_, by rw [List.length_append, h5, hlen, Nat.succ_mul], ?_⟩
    · rw [← List.append_assoc, List.flatten_append]
      refine (VRs.mono (embOf_le _ _) _ _ h3).append ?_
      have : [ax].flatten = ax := by simp
      rw [this]
      exact a2
    · intro c hcm
      rw [← List.append_assoc]
      rcases List.mem_append.1 hcm with hm | hm
      · exact (h4 c hm).ext ⟨C', rfl⟩
      · rw [List.mem_singleton] at hm; subst hm; exact a3
    · intro i hi
      rw [Nat.succ_mul] at hi
      by_cases hlt : i < k * es
      · rw [h6 i hlt, List.getElem?_append_left (by omega)]
      · rw [List.getElem?_append_right (by omega), h5, ← hcell (i - k * es) (by omega), add_add, show k * es + (i - k * es) = i by omega]

/-- The fields of a struct are laid, one behind the other. -/
theorem laid_chunks {r : List CT} {cs : List Value} {s m : Nat} (hr : r.length = s) (h : ∀ i, i < m → ∀ E B, AW P w E B → Laid P w E B r ((cs.drop (i * s)).take s)) : ∀ (j i : Nat), i + j ≤ m → ∀ E B, AW P w E B → Laid P w E B (List.replicate j r).flatten ((cs.drop (i * s)).take (j * s))
  | 0, i, _, E, B, aw => by
    rw [Nat.zero_mul, List.take_zero]
    exact laid_nil aw
  | j + 1, i, hij, E, B, aw => by
    have h1 := h i (by omega) E B aw
    rw [List.replicate_succ, List.flatten_cons, show (j + 1) * s = s + j * s by rw [Nat.succ_mul, Nat.add_comm], List.take_add, List.drop_drop]
    refine h1.app fun F C aw' => ?_
    have := laid_chunks hr h j (i + 1) (by omega) _ _ aw'
    rw [Nat.succ_mul] at this
    exact this
theorem laid_fields {f : TypeId → Option (List CT)} {cs : List Value} : ∀ (l : List Field) (o : Nat) {row : List CT}, ctFields P f l o = some row →
    (∀ x ∈ l, ∀ a, f x.type = some a → ∀ E B, AW P w E B → Laid P w E B a ((cs.drop x.offset).take (P.cellsOf x.type))) → ∀ E B, AW P w E B → Laid P w E B row ((cs.drop o).take row.length)
  | [], o, row, h, _, E, B, aw => by
    unfold ctFields at h
    cases h
    rw [List.length_nil, List.take_zero]
    exact laid_nil aw
  | x :: l, o, row, h, hf, E, B, aw => by
    unfold ctFields at h
    split at h
    case h_2 => cases h
    rename_i a ha
    split at h
    case isFalse => cases h
    rename_i hc
    split at h
    case h_2 => cases h
    rename_i b hb
    cases h
    have h1 := hf x (List.mem_cons_self ..) a ha E B aw
    rw [hc.1, ← hc.2] at h1
    rw [List.length_append, List.take_add, List.drop_drop]
    exact h1.app fun F C aw' => laid_fields l _ hb (fun y hy => hf y (List.mem_cons_of_mem _ hy)) _ _ aw'

theorem trod_float {k : FloatKind} {t : TypeId} {fuel : Nat} {cs : List Value} {x : DataW H × List MemPlace} {sp : Nat → Bool} (ht : P.underlying t = some (.float k)) (h : DataW.trod enc P w base sp held fuel t cs = some x) : ∃ b, cs = [.float k b] := by
  cases fuel with
  | zero => simp [DataW.trod] at h
  | succ n =>
    unfold DataW.trod at h
    rw [ht] at h
    split at h <;> simp_all
/-- EVERYTHING THAT IS READ IS LAID. -/
theorem laid_of_trod (hz : ∃ (z : Nat) (cc : Array Value) (el : TypeId) (fz : Nat × Nat), w.heap[z]? = some (Obj.cells cc el fz)) : ∀ (n : Nat) (t : TypeId) (row : List CT), ctOf P n t = some row → ∀ (fuel : Nat) (cs : List Value) (x : DataW H × List MemPlace),
    DataW.trod enc P w base (fun _ => true) held fuel t cs = some x → ∀ E B, AW P w E B → Laid P w E B row cs
  | 0, t, row, h, _, _, _, _, _, _, _ => by cases h
  | n + 1, t, row, h, fuel, cs, x, ht, E, B, aw => by
    unfold ctOf at h
    split at h
    · rename_i k hu
      cases h
      obtain ⟨z, rfl, _, hwf⟩ := DataW.trod_int hu ht
      exact laid_one aw (x := .int k z) (by rw [VR]) (by rw [TY]; exact ⟨z, rfl, hwf⟩)
    · rename_i hu
      cases h
      obtain ⟨b, rfl, _⟩ := DataW.trod_bool hu ht
      exact laid_one aw (x := .bool b) (by rw [VR]) (by rw [TY]; exact ⟨b, rfl⟩)
    · rename_i hu
      cases h
      obtain ⟨s, rfl, _, hs⟩ := DataW.trod_string hu ht
      refine laid_one aw (x := .str s.data.toList) (by rw [VR]) (by rw [TY]; exact ⟨_, rfl, by simpa using hs⟩)
    · rename_i k hu
      cases h
      obtain ⟨b, rfl⟩ := trod_float hu ht
      exact laid_one aw (x := .flt k b) (by rw [VR]; exact ⟨b, rfl, .inl rfl⟩) (by rw [TY]; exact ⟨b, rfl⟩)
    · rename_i e hu
      split at h
      case h_2 => cases h
      rename_i r hr
      split at h
      case isFalse => cases h
      rename_i hc
      cases h
      obtain ⟨hrl, hpos⟩ := hc
      rcases open_slice hu ht with ⟨rfl, _⟩ | ⟨a, len, cap, m, n', D, Pl, rfl, hb, hl, hm, hmm, _, hx⟩
      · exact laid_one aw (x := .nilSlice) (by rw [VR]) (by rw [TY]; exact ⟨[], .nil, Nat.zero_le _, fun c hc => by cases hc⟩)
      simp only [if_true] at hmm
      subst hmm
      rw [← hrl] at hx
      by_cases hcap : m = 0
      · have hlen0 : len = 0 := by omega
        subst hlen0
        subst hcap
        obtain ⟨z, cc, el, fz, hz0⟩ := hz
        have h0lt : z < w.heap.size := (Array.getElem?_eq_some_iff.1 hz0).1
        have hbr : BR P (embOf E) w ⟨z, 0, cc.size, false⟩ (.cells [] false false) :=
          ⟨cc, el, fz, hz0, ⟨Nat.zero_le _, Nat.zero_le _, rfl⟩, fun i x hx => by (rw [List.getElem?_nil] at hx; cases hx), ⟨fun x => absurd x Bool.false_ne_true, fun x => by rcases x with x | x <;> exact absurd x Bool.false_ne_true⟩⟩
        have aw2 := aw.push (e := ⟨z, 0, cc.size, false⟩) (k := .cells [] false false) rfl h0lt hbr (.inr ⟨[], rfl⟩)
        refine ⟨[⟨z, 0, cc.size, false⟩], [.cells [] false false], [.slice B.length 0 0 r.length], aw2, ?_, ?_⟩
        · refine VRs_cons.2 ⟨_, [], rfl, ?_, by rw [VRs_nil]⟩
          rw [VR]
          exact ⟨⟨z, 0, cc.size, false⟩, a, 0, by unfold embOf; rw [← aw.len]; simp, rfl, Nat.le_refl _, fun x => absurd x (by omega), by rw [Nat.zero_mul]; exact Nat.zero_le _⟩
        · rw [TYs]
          refine ⟨_, [], rfl, ?_, by rw [TYs]⟩
          rw [TY]
          refine ⟨[], ?_, Nat.zero_le _, fun c hc => by cases hc⟩
          exact IsSl.mk (cs := []) (b := B.length) (o := 0) (c := []) (mu := false) (tl := false) (by simp) (by simp) (by simp) (fun x hx => by cases hx)
      · obtain ⟨cs0, h00, _⟩ := hx 0 (by omega)
        obtain ⟨csl, hll, _⟩ := hx (m - 1) (by omega)
        obtain ⟨_, hlen0, hc0⟩ := World.cells?_some h00
        obtain ⟨_, hlenl, hcl⟩ := World.cells?_some hll
        have hcell0 := hc0 0 hpos
        have hlast := hcl (r.length - 1) (by omega)
        rw [add_add] at hlast
        rw [add_add, Nat.zero_mul, Nat.add_zero] at hcell0
        have ha0 : a.add 0 = a := by unfold Addr.add; simp
        rw [ha0, List.getElem?_eq_getElem (by omega)] at hcell0
        unfold World.cell? at hcell0
        split at hcell0
        case h_2 => cases hcell0
        rename_i cc el fz hblk
        split at hcell0
        · cases hcell0
        rename_i hspot
        have haspot : a = ⟨a.block, a.off, none⟩ := by
          cases a with
          | mk b o s => cases s with
            | none => rfl
            | some s => exact absurd rfl hspot
        have hadd : ∀ i, a.add i = ⟨a.block, a.off + i, none⟩ := fun i => by
          unfold Addr.add
          by_cases hi : i = 0
          · subst hi; rw [if_pos rfl]; exact haspot
          · rw [if_neg hi]
        have hcellcc : ∀ i, w.cell? (a.add i) = cc[a.off + i]? := fun i => by
          rw [hadd]
          unfold World.cell?
          simp only [hblk, Option.isSome_none, Bool.false_eq_true, if_false]
        have hmr : (m - 1) * r.length + (r.length - 1) + 1 = m * r.length := by
          obtain ⟨m', rfl⟩ : ∃ m', m = m' + 1 := ⟨m - 1, by omega⟩
          rw [Nat.succ_mul]; simp only [Nat.add_sub_cancel]; omega
        have hsz : a.off + m * r.length ≤ cc.size := by
          rw [hcellcc, List.getElem?_eq_getElem (by omega)] at hlast
          have := (Array.getElem?_eq_some_iff.1 hlast).1
          omega
        obtain ⟨F, C, rows, VL, h1, h2, h3, h4, h5, h6⟩ := laid_rows (P := P) (w := w) (base := base) (es := r.length) (r := r) (a := a) (m := m)
          (fun i hi => by
            obtain ⟨cs', q1, q2⟩ := hx i hi
            exact ⟨cs', q1, fun E B aw => laid_of_trod hz n e r hr _ _ _ q2 E B aw⟩) len hl aw
        have hfl : rows.flatten.length = len * r.length := by rw [← h5, h3.length]
        have hmul : len * r.length ≤ m * r.length := Nat.mul_le_mul_right _ hl
        have hrows : ∀ c ∈ rows, c.length = r.length := fun c hc => (h4 c hc).length
        have hone : ∀ x ∈ rows.flatten, x.one = true := fun x hx => by
          obtain ⟨c, hc, hxc⟩ := List.mem_flatten.1 hx
          exact List.all_eq_true.1 (h4 c hc).one x hxc
        have hlt : a.block < w.heap.size := (Array.getElem?_eq_some_iff.1 hblk).1
        have hbr : BR P (embOf (E ++ F)) w ⟨a.block, a.off, cc.size, false⟩ (.cells rows.flatten false false) :=
          ⟨cc, el, fz, hblk, ⟨by rw [hfl]; show a.off + _ ≤ _; omega, by rw [hfl]; show a.off + _ ≤ cc.size; omega, rfl⟩, fun i x hx => by
              refine ⟨hone x (List.mem_of_getElem? hx), ?_⟩
              obtain ⟨v, hv, hvr⟩ := h3.get hx
              have hi : i < len * r.length := by rw [← hfl]; exact (List.getElem?_eq_some_iff.1 hx).1
              refine ⟨v, ?_, hvr⟩
              show cc[a.off + i]? = some v
              rw [← hcellcc, h6 i hi, hv], ⟨fun x => absurd x Bool.false_ne_true, fun x => by rcases x with x | x <;> exact absurd x Bool.false_ne_true⟩⟩
        have aw2 := h1.push (e := ⟨a.block, a.off, cc.size, false⟩) (k := .cells rows.flatten false false) rfl hlt hbr (.inr ⟨_, rfl⟩)
        rw [List.append_assoc, List.append_assoc] at aw2
        refine ⟨F ++ [⟨a.block, a.off, cc.size, false⟩], C ++ [.cells rows.flatten false false], [.slice (B ++ C).length 0 len r.length], aw2, ?_, ?_⟩
        · refine VRs_cons.2 ⟨_, [], rfl, ?_, by rw [VRs_nil]⟩
          rw [VR]
          refine ⟨⟨a.block, a.off, cc.size, false⟩, a, m, ?_, rfl, hl, fun _ => ?_, ?_⟩
          · unfold embOf
            rw [← h1.len, ← List.append_assoc, List.getElem?_append_right (Nat.le_refl _), Nat.sub_self]; rfl
          · show a = ⟨a.block, 0 + a.off, none⟩
            rw [Nat.zero_add]; exact haspot
          · show 0 + a.off + m * r.length ≤ cc.size
            omega
        · rw [TYs]
          refine ⟨_, [], rfl, ?_, by rw [TYs]⟩
          rw [TY]
          refine ⟨rows, ?_, by omega, fun c hc => ?_⟩
          · rw [← h2]
            refine IsSl.mk (c := rows.flatten) (mu := false) (tl := false) ?_ ?_ ?_ hrows
            · rw [← List.append_assoc, List.getElem?_append_right (Nat.le_refl _), Nat.sub_self]; rfl
            · rw [List.drop_zero, h2, ← hfl, List.take_length]
            · rw [h2, hfl]; omega
          · rw [← List.append_assoc]
            exact (h4 c hc).ext ⟨_, rfl⟩
    · rename_i fs hu
      split at h
      case h_2 => cases h
      rename_i r hr
      split at h
      case isFalse => cases h
      rename_i hc
      cases h
      obtain ⟨xs, n', rfl, rfl, hlen, hxl, hf⟩ := DataW.trod_struct hu ht
      have := laid_fields (P := P) (w := w) (cs := cs) fs.toList 0 hr (fun x hx a ha E B aw => by
        obtain ⟨i, hi⟩ := List.getElem?_of_mem hx
        have hi' : fs[i]? = some x := by rw [← Array.getElem?_toList]; exact hi
        have hlt : i < xs.length := by rw [hxl]; exact (Array.getElem?_eq_some_iff.1 hi').1
        have h1 := hf i x hi'
        rw [List.getElem?_eq_getElem hlt] at h1
        exact laid_of_trod hz n x.type a ha _ _ _ h1 E B aw) E B aw
      rw [List.drop_zero, hc, ← hlen, List.take_length] at this
      exact this
    · rename_i m e hu
      split at h
      case h_2 => cases h
      rename_i r hr
      split at h
      case isFalse => cases h
      rename_i hc
      cases h
      obtain ⟨xs, n', rfl, rfl, hlen, hxl, hf⟩ := DataW.trod_array hu ht
      have := laid_chunks (P := P) (w := w) (r := r) (cs := cs) (s := P.cellsOf e) (m := m) hc.1 (fun i hi E B aw => by
        have hlt : i < xs.length := by omega
        have h1 := hf i hi
        rw [List.getElem?_eq_getElem hlt] at h1
        exact laid_of_trod hz n e r hr _ _ _ h1 E B aw) m 0 (by omega) E B aw
      rw [Nat.zero_mul, List.drop_zero, ← hc.2, ← hlen, List.take_length] at this
      exact this
    · cases h

/-- What an argument is: one cell, or a struct. -/
inductive AT where
  | one (t : CT)
  | agg (r : List CT)

def ctOne (P : Program) (e : TypeId) : Option CT :=
  match P.underlying e with
  | some (.int k) => some (.int k)
  | some .string => some .str
  | _ => none

def atOf (P : Program) (n : Nat) (t : TypeId) : Option AT :=
  match P.underlying t with
  | some (.struct _) =>
    match ctOf P n t with
    | some r => some (.agg r)
    | none => none
  | some (.int k) => some (.one (.int k))
  | some .bool => some (.one .bool)
  | some .string => some (.one .str)
  | some (.slice _) =>
    match ctOf P n t with
    | some [c] => some (.one c)
    | _ => none
  | some (.array m e) =>
    match ctOne P e with
    | some c => if P.cellsOf e = 1 ∧ P.cellsOf t = m then some (.agg (List.replicate m c)) else none
    | none =>
      match ctOf P n e with
      | some [c] => if P.cellsOf e = 1 ∧ P.cellsOf t = m then some (.agg (List.replicate m c)) else none
      | _ =>
        match ctOf P n t with
        | some r => some (.agg r)
        | none => none
  | _ => none

theorem okWide_array {w} {r} {b0} {t e : TypeId} {m} {v} (ht : P.underlying t = some (.array m e)) (h : Value.okWide P w r b0 t v) : ∃ cs, v = .agg cs ∧ cs.size = P.cellsOf t := by
  simp only [Value.okWide, ht] at h
  obtain ⟨cs, h1, h2, _⟩ := h
  exact ⟨cs, h1, h2⟩
theorem ones_laid {M} {B} {c} : ∀ (L : List Value), (∀ i (hi : i < L.length), ∃ a, VR M a L[i] ∧ TY B c a) → ∃ l : List AV, VRs M l L ∧ TYs B (List.replicate L.length c) l
  | [], _ => ⟨[], by rw [VRs_nil], by rw [List.length_nil, List.replicate_zero, TYs]⟩
  | v :: L, h => by
    obtain ⟨a, e, hz⟩ := h 0 (by simp)
    obtain ⟨l, h1, h2⟩ := ones_laid L fun i hi => h (i + 1) (by simpa using hi)
    simp only [List.getElem_cons_zero] at e
    refine ⟨a :: l, VRs_cons.2 ⟨_, _, rfl, e, h1⟩, ?_⟩
    rw [List.length_cons, List.replicate_succ, TYs]
    exact ⟨_, _, rfl, hz, h2⟩

def atsOf (P : Program) (n : Nat) : List TypeId → Option (List AT)
  | [] => some []
  | t :: ts =>
    match atOf P n t, atsOf P n ts with
    | some a, some l => some (a :: l)
    | _, _ => none

def TYa (h : AHeap) : AT → AV → Prop
  | .one t, a => TY h t a
  | .agg r, a => ∃ l, a = .agg l ∧ TYs h r l

theorem TYa.ext {h k} (e : Ext h k) : ∀ {t} {a}, TYa h t a → TYa k t a
  | .one _, _, x => TY.ext e x
  | .agg _, _, ⟨l, e1, x⟩ => ⟨l, e1, TYs.ext e x⟩

def TYas (h : AHeap) : List AT → List AV → Prop
  | [], l => l = []
  | t :: ts, l => ∃ a l', l = a :: l' ∧ TYa h t a ∧ TYas h ts l'

theorem laid_reps {c : CT} : ∀ (L : List Value), (∀ v ∈ L, ∀ E B, AW P w E B → Laid P w E B [c] [v]) → ∀ E B, AW P w E B → Laid P w E B (List.replicate L.length c) L
  | [], _, E, B, aw => laid_nil aw
  | v :: L, h, E, B, aw => by
    have h1 := h v (List.mem_cons_self ..) E B aw
    have := h1.app fun F C aw' => laid_reps L (fun x hx => h x (List.mem_cons_of_mem _ hx)) _ _ aw'
    rw [List.length_cons, List.replicate_succ]; exact this
theorem laid_arg (hz : ∃ (z : Nat) (cc : Array Value) (el : TypeId) (fz : Nat × Nat), w.heap[z]? = some (Obj.cells cc el fz)) {n} {t : TypeId} {at'} (h : atOf P n t = some at') {v} {d} {ps} (ht : DataW.Trod enc P w base (fun _ => true) held t v d ps)
    {r} {b0} (ho : Value.okWide P w r b0 t v) (aw : AW P w E B) : ∃ (F : List Ent) (C : AHeap) (a : AV), AW P w (E ++ F) (B ++ C) ∧ VR (embOf (E ++ F)) a v ∧ TYa (B ++ C) at' a := by
  obtain ⟨fuel, ht⟩ := ht
  unfold atOf at h
  split at h
  · rename_i fs hu
    split at h
    case h_2 => cases h
    rename_i r hr
    cases h
    obtain ⟨cs, rfl, _⟩ := okWide_struct hu ho
    obtain ⟨F, C, ax, h1, h2, h3⟩ := laid_of_trod hz n t r hr fuel _ _ ht E B aw
    refine ⟨F, C, .agg ax, h1, ?_, ax, rfl, h3⟩
    rw [VR]
    exact ⟨_, rfl, h2⟩
  · rename_i k hu
    cases h
    obtain ⟨z, rfl⟩ := okWide_int hu ho
    obtain ⟨z', e, _, hwf⟩ := DataW.trod_int hu ht
    cases e
    exact ⟨[], [], .int k z, by rw [List.append_nil, List.append_nil]; exact aw, by rw [VR], by show TY _ _ _; rw [TY]; exact ⟨z, rfl, hwf⟩⟩
  · rename_i hu
    cases h
    obtain ⟨z, rfl⟩ := okWide_bool hu ho
    exact ⟨[], [], .bool z, by rw [List.append_nil, List.append_nil]; exact aw, by rw [VR], by show TY _ _ _; rw [TY]; exact ⟨z, rfl⟩⟩
  · rename_i hu
    cases h
    obtain ⟨s, rfl⟩ := okWide_string hu ho
    obtain ⟨s', e, _, hs⟩ := DataW.trod_string hu ht
    cases e
    exact ⟨[], [], .str s.data.toList, by rw [List.append_nil, List.append_nil]; exact aw, by rw [VR], by show TY _ _ _; rw [TY]; exact ⟨_, rfl, by simpa using hs⟩⟩
  · rename_i e hu
    split at h
    case h_2 => cases h
    rename_i c hc
    cases h
    obtain ⟨a, len, cap, rfl⟩ := okWide_slice hu ho
    obtain ⟨F, C, ax, h1, h2, h3⟩ := laid_of_trod hz n t _ hc fuel _ _ ht E B aw
    rw [TYs] at h3
    obtain ⟨x, l', rfl, h4, h5⟩ := h3
    rw [TYs] at h5
    subst h5
    obtain ⟨y, ys, e, h6, _⟩ := VRs_cons.1 h2
    cases e
    exact ⟨F, C, x, h1, h6, h4⟩
  · rename_i m e hu
    split at h
    case h_2 =>
      split at h
      case h_2 =>
        split at h
        case h_2 => cases h
        rename_i r hr
        cases h
        obtain ⟨cs, rfl, _⟩ := okWide_array hu ho
        obtain ⟨F, C, ax, h1, h2, h3⟩ := laid_of_trod hz n t r hr fuel _ _ ht E B aw
        refine ⟨F, C, .agg ax, h1, ?_, ax, rfl, h3⟩
        rw [VR]
        exact ⟨_, rfl, h2⟩
      rename_i c hk
      split at h
      case isFalse => cases h
      rename_i hc
      cases h
      obtain ⟨cs, rfl, hcs⟩ := okWide_array hu ho
      obtain ⟨xs, n', rfl, _, hlen, hxl, hf⟩ := DataW.trod_array hu ht
      have hcl : (Value.agg cs).cells.toList = cs.toList := rfl
      rw [hcl] at hlen hf
      rw [hc.2] at hlen
      obtain ⟨F, C, ax, h1, h2, h3⟩ := laid_reps (P := P) (w := w) (c := c) cs.toList (fun v hv E B aw => by
        obtain ⟨i, hi, rfl⟩ := List.mem_iff_getElem.1 hv
        have hi' : i < xs.length := by omega
        have h3 := hf i (by omega)
        rw [hc.1, Nat.mul_one, List.getElem?_eq_getElem hi', List.drop_eq_getElem_cons hi, List.take_succ_cons, List.take_zero] at h3
        exact laid_of_trod hz n e [c] hk _ _ _ h3 E B aw) E B aw
      rw [hlen] at h3
      exact ⟨F, C, .agg ax, h1, by rw [VR]; exact ⟨_, rfl, h2⟩, ax, rfl, h3⟩
    rename_i c hk
    split at h
    case isFalse => cases h
    rename_i hc
    cases h
    obtain ⟨cs, rfl, hcs⟩ := okWide_array hu ho
    obtain ⟨xs, n', rfl, _, hlen, hxl, hf⟩ := DataW.trod_array hu ht
    have hcl : (Value.agg cs).cells.toList = cs.toList := rfl
    rw [hcl] at hlen hf
    rw [hc.2] at hlen
    obtain ⟨l, h1, h2⟩ := ones_laid (M := embOf E) (B := B) (c := c) cs.toList fun i hi => by
      have hi' : i < xs.length := by omega
      have h3 := hf i (by omega)
      rw [hc.1, Nat.mul_one, List.getElem?_eq_getElem hi', List.drop_eq_getElem_cons hi, List.take_succ_cons, List.take_zero] at h3
      unfold ctOne at hk
      split at hk
      · rename_i k hk'
        cases hk
        obtain ⟨z, e1, _, hwf⟩ := DataW.trod_int hk' h3
        exact ⟨.int k z, by rw [(List.cons.inj e1).1, VR], by rw [TY]; exact ⟨z, rfl, hwf⟩⟩
      · rename_i hk'
        cases hk
        obtain ⟨s', e1, _, hs⟩ := DataW.trod_string hk' h3
        exact ⟨.str s'.data.toList, by rw [(List.cons.inj e1).1, VR], by rw [TY]; exact ⟨_, rfl, by simpa using hs⟩⟩
      · cases hk
    rw [hlen] at h2
    exact ⟨[], [], .agg l, by rw [List.append_nil, List.append_nil]; exact aw, by rw [VR, List.append_nil]; exact ⟨_, rfl, h1⟩, l, rfl, by rw [List.append_nil]; exact h2⟩
  · cases h

/-- THE ARGUMENTS ARE LAID. -/
theorem laid_args (hz : ∃ (z : Nat) (cc : Array Value) (el : TypeId) (fz : Nat × Nat), w.heap[z]? = some (Obj.cells cc el fz)) {n} {r} {b0} : ∀ (tys : List TypeId) {ats}, atsOf P n tys = some ats → ∀ (vs : List Value) (ds : List (DataW H)) (ps : List MemPlace),
    DataW.TrodAll enc P w base (fun _ => true) held tys vs ds ps → (∀ (j : Nat) t v, tys[j]? = some t → vs[j]? = some v → Value.okWide P w r b0 t v) → ∀ {E} {B}, AW P w E B →
    ∃ (F : List Ent) (C : AHeap) (ax : List AV), AW P w (E ++ F) (B ++ C) ∧ VRs (embOf (E ++ F)) ax vs ∧ TYas (B ++ C) ats ax
  | [], ats, h, vs, ds, ps, ht, _, E, B, aw => by
    unfold atsOf at h
    cases h
    cases vs with
    | cons v vs => cases ds <;> exact ht.elim
    | nil => exact ⟨[], [], [], by rw [List.append_nil, List.append_nil]; exact aw, by rw [VRs_nil], by rw [TYas]⟩
  | t :: tys, ats, h, vs, ds, ps, ht, ho, E, B, aw => by
    unfold atsOf at h
    split at h
    case h_2 => cases h
    rename_i a l ha hl
    cases h
    cases vs with
    | nil => cases ds <;> exact ht.elim
    | cons v vs =>
      cases ds with
      | nil => exact ht.elim
      | cons d ds =>
        obtain ⟨p, q, h1, h2, _⟩ := ht
        obtain ⟨F, C, x, a1, a2, a3⟩ := laid_arg hz ha h1 (ho 0 t v rfl rfl) aw
        obtain ⟨F', C', xs, b1, b2, b3⟩ := laid_args hz tys hl vs ds q h2 (fun j t v h h' => ho (j + 1) t v h h') a1
        refine ⟨F ++ F', C ++ C', x :: xs, by rw [← List.append_assoc, ← List.append_assoc]; exact b1, ?_, ?_⟩
        · rw [← List.append_assoc]
          exact VRs_cons.2 ⟨v, vs, rfl, VR.mono (embOf_le _ _) _ _ a2, b2⟩
        · rw [← List.append_assoc, TYas]
          exact ⟨x, xs, rfl, a3.ext ⟨C', rfl⟩, b3⟩
end
end Go.Abs
namespace Go.Abs
open Go.ChangeShapes Go.WideShapes Go.RowKit

/-- The pieces of one type, one behind the other. -/
def avsL (f : DataW Unit → Option (List AV)) : List (DataW Unit) → Option (List AV)
  | [] => some []
  | d :: r =>
    match f d, avsL f r with
    | some a, some b => some (a ++ b)
    | _, _ => none

/-- The pieces of a struct's fields, one behind the other. -/
def avsF (P : Program) (f : TypeId → DataW Unit → Option (List AV)) : List Field → List (DataW Unit) → Nat → Option (List AV)
  | [], [], _ => some []
  | a :: fs, d :: r, o =>
    match f a.type d, avsF P f fs r (o + P.cellsOf a.type) with
    | some x, some y => if a.offset = o ∧ x.length = P.cellsOf a.type then some (x ++ y) else none
    | _, _ => none
  | _, _, _ => none

/-- What data says of the cells that it was read from. -/
def avsOf (P : Program) : Nat → TypeId → DataW Unit → Option (List AV)
  | 0, _, _ => none
  | n + 1, t, d =>
    match P.underlying t with
    | some (.int k) =>
      match d with
      | .lit (.int _ z) => some [.int k z]
      | _ => none
    | some .string =>
      match d with
      | .lit (.string s) => some [.str s]
      | _ => none
    | some (.array m e) =>
      match d with
      | .agg l =>
        match avsL (avsOf P n e) l with
        | some r => if P.cellsOf t = m * P.cellsOf e then some r else none
        | none => none
      | _ => none
    | some (.struct fs) =>
      match d with
      | .agg l =>
        match avsF P (avsOf P n) fs.toList l 0 with
        | some r => if r.length = P.cellsOf t then some r else none
        | none => none
      | _ => none
    | some (.interface _) =>
      match d with
      | .iface _ _ => some [.someIfc]
      | _ => none
    | _ => none

section
variable {P : Program} {w : World} {base : Nat} {sp : Nat → Bool} {held : Bool}

/-- A variable of an interface type that is not nil. -/
theorem trod_ifc {t : TypeId} {ms} (hu : P.underlying t = some (.interface ms)) {fuel : Nat} {cs : List Value} {n d p} (h : DataW.trod (fun _ => ()) P w base sp held fuel t cs = some (.iface n d, p)) : ∃ u v, cs = [.iface u v] := by
  cases fuel with
  | zero => simp [DataW.trod] at h
  | succ f =>
    unfold DataW.trod at h
    rw [hu] at h
    split at h <;> simp_all

theorem avsL_ok {f : DataW Unit → Option (List AV)} {m : Emb} {ce : Nat} {cs : List Value} {g : List Value → Option (DataW Unit × List MemPlace)} (hf : ∀ c d p ax, g c = some (d, p) → f d = some ax → VRs m ax c ∧ ax.all AV.one = true) :
    ∀ (l : List (DataW Unit × List MemPlace)) (o : Nat) {ax : List AV}, avsL f (l.map (·.1)) = some ax → (∀ i (hi : i < l.length), g ((cs.drop ((o + i) * ce)).take ce) = some l[i]) → VRs m ax ((cs.drop (o * ce)).take (l.length * ce)) ∧ ax.all AV.one = true
  | [], o, ax, h, _ => by
    unfold avsL at h
    cases h
    rw [List.length_nil, Nat.zero_mul, List.take_zero]
    exact ⟨by rw [VRs_nil], rfl⟩
  | x :: l, o, ax, h, hx => by
    rw [List.map_cons] at h
    unfold avsL at h
    split at h
    case h_2 => cases h
    rename_i a b ha hb
    cases h
    have h0 := hx 0 (by rw [List.length_cons]; omega)
    rw [Nat.add_zero, List.getElem_cons_zero] at h0
    obtain ⟨p1, p2⟩ := hf _ x.1 x.2 a h0 ha
    obtain ⟨q1, q2⟩ := avsL_ok hf l (o + 1) hb (fun i hi => by
      have := hx (i + 1) (by rw [List.length_cons]; omega)
      rw [List.getElem_cons_succ] at this
      rw [show o + 1 + i = o + (i + 1) by omega]; exact this)
    refine ⟨?_, by rw [List.all_append, p2, q2]; rfl⟩
    rw [List.length_cons, Nat.succ_mul, Nat.add_comm (l.length * ce) ce, List.take_add, List.drop_drop]
    refine p1.append ?_
    rw [← Nat.succ_mul]
    exact q1

theorem avsF_ok {f : TypeId → DataW Unit → Option (List AV)} {m : Emb} {cs : List Value} {g : TypeId → List Value → Option (DataW Unit × List MemPlace)} (hf : ∀ t c d p ax, g t c = some (d, p) → f t d = some ax → VRs m ax c ∧ ax.all AV.one = true) :
    ∀ (fs : List Field) (l : List (DataW Unit × List MemPlace)) (o : Nat) {ax : List AV}, avsF P f fs (l.map (·.1)) o = some ax → (∀ (i : Nat) (a : Field), fs[i]? = some a → g a.type ((cs.drop a.offset).take (P.cellsOf a.type)) = l[i]?) → VRs m ax ((cs.drop o).take ax.length) ∧ ax.all AV.one = true
  | [], [], o, ax, h, _ => by
    unfold avsF at h
    cases h
    exact ⟨by rw [List.length_nil, List.take_zero, VRs_nil], rfl⟩
  | [], _ :: _, o, ax, h, _ => by unfold avsF at h; cases h
  | _ :: _, [], o, ax, h, _ => by unfold avsF at h; cases h
  | a :: fs, x :: l, o, ax, h, hx => by
    rw [List.map_cons] at h
    unfold avsF at h
    split at h
    case h_2 => cases h
    rename_i x' y' ha hb
    split at h
    case isFalse => cases h
    rename_i hc
    cases h
    have h0 := hx 0 a rfl
    rw [List.getElem?_cons_zero, hc.1, ← hc.2] at h0
    obtain ⟨p1, p2⟩ := hf _ _ x.1 x.2 x' h0 ha
    obtain ⟨q1, q2⟩ := avsF_ok hf fs l _ hb (fun i b hi => by
      have := hx (i + 1) b (by rw [List.getElem?_cons_succ]; exact hi)
      rw [List.getElem?_cons_succ] at this
      exact this)
    refine ⟨?_, by rw [List.all_append, p2, q2]; rfl⟩
    rw [List.length_append, List.take_add, List.drop_drop]
    refine p1.append ?_
    rw [hc.2]
    exact q1

theorem avsOf_ok {m : Emb} : ∀ (n : Nat) (t : TypeId) (fuel : Nat) (cs : List Value) (d : DataW Unit) (p : List MemPlace) (ax : List AV),
    DataW.trod (fun _ => ()) P w base sp held fuel t cs = some (d, p) → avsOf P n t d = some ax → VRs m ax cs ∧ ax.all AV.one = true
  | 0, _, _, _, _, _, _, _, h => by cases h
  | n + 1, t, fuel, cs, d, p, ax, ht, h => by
    unfold avsOf at h
    split at h
    · rename_i k hu
      obtain ⟨z, rfl, e, _⟩ := DataW.trod_int hu ht
      cases e
      cases h
      exact ⟨VRs_cons.2 ⟨_, [], rfl, by rw [VR], by rw [VRs_nil]⟩, rfl⟩
    · rename_i hu
      obtain ⟨s, rfl, e, _⟩ := DataW.trod_string hu ht
      cases e
      cases h
      exact ⟨VRs_cons.2 ⟨_, [], rfl, rfl, by rw [VRs_nil]⟩, rfl⟩
    · rename_i mm e hu
      obtain ⟨xs, m', _, ex, hlen, hxl, hf⟩ := DataW.trod_array hu ht
      cases ex
      simp only at h
      split at h
      case h_2 => cases h
      rename_i r hr
      split at h
      case isFalse => cases h
      rename_i hc
      cases h
      have := avsL_ok (m := m) (ce := P.cellsOf e) (cs := cs) (g := DataW.trod (fun _ => ()) P w base sp held m' e) (fun c d p ax h1 h2 => avsOf_ok n e m' c d p ax h1 h2) xs 0 hr (fun i hi => by
        have := hf i (by omega)
        rw [List.getElem?_eq_getElem hi] at this
        rw [Nat.zero_add]; exact this)
      rw [Nat.zero_mul, List.drop_zero, hxl, ← hc, ← hlen, List.take_length] at this
      exact this
    · rename_i fs hu
      obtain ⟨xs, m', _, ex, hlen, hxl, hf⟩ := DataW.trod_struct hu ht
      cases ex
      simp only at h
      split at h
      case h_2 => cases h
      rename_i r hr
      split at h
      case isFalse => cases h
      rename_i hc
      cases h
      have := avsF_ok (m := m) (cs := cs) (g := fun t' c => DataW.trod (fun _ => ()) P w base sp held m' t' c) (fun t' c d p ax h1 h2 => avsOf_ok n t' m' c d p ax h1 h2) fs.toList xs 0 hr (fun i a hi => hf i a (by rw [← Array.getElem?_toList]; exact hi))
      rw [List.drop_zero, hc, ← hlen, List.take_length] at this
      exact this
    · rename_i ms hu
      split at h
      case h_2 => cases h
      cases h
      obtain ⟨u, v, rfl⟩ := trod_ifc hu ht
      exact ⟨VRs_cons.2 ⟨_, [], rfl, ⟨u, v, rfl⟩, by rw [VRs_nil]⟩, rfl⟩
    · cases h

/-- A package-level variable's block, ax the laid ones tell it. -/
def globB (P : Program) (laid : List (String × DataW Unit)) (n : Nat) (g : Nat) : ABlk :=
  match laid.find? (fun x => P.globalNamed x.1 == some g) with
  | some x =>
    match (P.globals[g]?).map (·.type) with
    | some t =>
      match avsOf P n t x.2 with
      | some ax => if ax.length = gsz P g then .cells ax false false else .dead
      | none => .dead
    | none => .dead
  | none => .dead

def globE (P : Program) : List Ent := (List.range P.globals.size).map fun g => ⟨g, 0, gsz P g, false⟩
def globL (P : Program) (laid : List (String × DataW Unit)) (n : Nat) : AHeap := (List.range P.globals.size).map (globB P laid n)

theorem laidVars_mem : ∀ {laid} {ps}, DataW.LaidVars P w laid ps → ∀ x ∈ laid, ∃ g t cs fuel p, P.globalNamed x.1 = some g ∧ (P.globals[g]?).map (·.type) = some t ∧ w.var? P x.1 = some cs ∧
    DataW.trod (fun _ => ()) P w 0 (fun _ => true) false fuel t cs.toList = some (x.2, p)
  | [], _, _, x, hx => by cases hx
  | (n, d) :: r, ps, h, x, hx => by
    obtain ⟨g, t, cs, fuel, p, q, h1, h2, h3, h4, h5, _⟩ := h
    rcases List.mem_cons.1 hx with rfl | hx
    · exact ⟨g, t, cs, fuel, p, h1, h2, h3, h4⟩
    · exact laidVars_mem h5 x hx

theorem var_blk {n} {g} {cs} (hg : P.globalNamed n = some g) (h : w.var? P n = some cs) : ∃ el fz, w.heap[g]? = some (.cells cs el fz) := by
  unfold World.var? at h
  rw [hg] at h
  simp only [Option.bind_some] at h
  split at h
  · rename_i c el fz hb
    cases h
    exact ⟨el, fz, hb⟩
  · cases h

end

section
variable {P : Program} {W W' : World} {E : List Ent} {B h' : AHeap} {m' : Emb}

theorem AW.below (aw : AW P W E B) (g : Grow (embOf E) B W m' h' W') : Below W.heap.size W W' :=
  ⟨g.os, g.tape, g.out, g.size, fun k hk => g.frame k hk fun b e hb ho => by rw [(aw.own b e hb).1] at ho; cases ho⟩

theorem below_kept (b : Below W.heap.size W W') (may : MemPlace → Prop) : W.keptBut W' may := by
  refine ⟨b.os, b.output, fun i hi => ?_⟩
  rw [b.block i hi]
  split
  · rename_i h1 h2
    rw [h1] at h2
    simp only [Option.some.injEq, Obj.cells.injEq] at h2
    obtain ⟨rfl, rfl, rfl⟩ := h2
    exact ⟨rfl, rfl, rfl, fun _ _ => rfl⟩
  · rename_i h1 h2
    rw [h1] at h2
    simp only [Option.some.injEq, Obj.map.injEq] at h2
    obtain ⟨rfl, rfl⟩ := h2
    exact .inr ⟨rfl, rfl⟩
  · rfl

variable {H : Type} {enc : TypeId × Value → H}

theorem trodAll_below (hlo : laidOutB P = true) (hb : Below W.heap.size W W') {sp} : ∀ {tys} {vs} {ds} {ps}, (∀ t ∈ tys, P.readableRec t = true ∧ t < P.types.size) →
    DataW.TrodAll enc P W 0 (fun _ => true) true tys vs ds ps → (∀ p ∈ ps, p.block < W.heap.size) → (∀ p ∈ ps, sp p.block = true) → DataW.TrodAll enc P W' 0 sp true tys vs ds ps
  | [], [], [], ps, _, h, _, _ => h
  | [], [], _ :: _, _, _, h, _, _ => h.elim
  | [], _ :: _, _, _, _, h, _, _ => h.elim
  | _ :: _, [], _, _, _, h, _, _ => h.elim
  | _ :: _, _ :: _, [], _, _, h, _, _ => h.elim
  | t :: tys, v :: vs, d :: ds, ps, hr, h, hl, hs => by
    obtain ⟨p, q, h1, h2, rfl⟩ := h
    exact ⟨p, q, WideElems.Trod_stays hlo (hr t (List.mem_cons_self ..)).1 (hr t (List.mem_cons_self ..)).2 h1 (fun x hx => hb.same (hl x (List.mem_append_left _ hx))) (fun x hx => hs x (List.mem_append_left _ hx)),
      trodAll_below hlo hb (fun t ht => hr t (List.mem_cons_of_mem _ ht)) h2 (fun x hx => hl x (List.mem_append_right _ hx)) (fun x hx => hs x (List.mem_append_right _ hx)), rfl⟩

/-- THE RESULT IS TRUE, AND THE ARGUMENTS ARE AS THEY WERE. -/
theorem post_true {f : Func} {s : ChangeSpec} {apart fresh handsOn again : Bool} {args : Array Value} {ds gs : List (DataW H)} {before : List MemPlace} {tb : TypeId}
    (hlo : laidOutB P = true) (hpar : ∀ t ∈ f.params.toList, P.readableRec t = true ∧ t < P.types.size) (hrt : f.resultTypes = #[tb]) (htb : P.underlying tb = some .bool) (hvars : s.vars = [])
    (hfn : (s.fn H (ds ++ gs)) = { results := [.lit (.bool true)], args := ds }) (hW : DataW.Whole enc P f.params.toList s.vars apart W args.toList ds gs before) (hb : Below W.heap.size W W') :
    s.post enc P f apart fresh handsOn again W args (.bool true) W' := by
  have hlt := hW.lt
  have hW' := hW
  obtain ⟨p, q, hA, hV, rfl, hz, hn⟩ := hW'
  rw [hvars] at hV
  obtain ⟨rfl, rfl⟩ := trodVars_none hV
  rw [List.append_nil] at hlt
  have hres : ∀ (b : Nat) (sp : Nat → Bool) (hd : Bool), DataW.TrodAll enc P W' b sp hd f.resultTypes.toList ((Value.bool true).resultList f.resultTypes.size) (s.fn H (ds ++ [])).results [] := fun b sp hd => by
    rw [hfn, hrt]
    exact trodAll_mk1 (shut_bool htb _)
  have hargs : ∀ sp : Nat → Bool, (∀ x ∈ p, sp x.block = true) → DataW.TrodAll enc P W' 0 sp true f.params.toList args.toList (s.fn H (ds ++ [])).args p := fun sp hs => by
    rw [hfn]
    exact trodAll_below hlo hb hpar hA hlt hs
  have hvs : ∀ sp : Nat → Bool, DataW.TrodVars enc P W' sp s.vars (s.fn H (ds ++ [])).vars [] := fun sp => by
    rw [hfn, hvars]; rfl
  refine ⟨ds, [], p ++ [], [], p, [], hW, hres _ _ _, hargs _ (fun x hx => by simpa using hlt x hx), hvs _, below_kept hb _, fun _ => ?_⟩
  refine ⟨?_, _, _, ([] ++ p) ++ [], ⟨[] ++ p, [], trodAll_append (hargs _ (fun _ _ => rfl)) (hres _ _ _), hvs _, rfl, ?_, ?_⟩, ?_⟩
  · exact ok_one hrt rfl (okWide_bool_mk htb _)
  · intro b off hp
    have hp : MemPlace.cell b off ∈ p := by simpa using hp
    have := hz b off (by simpa using hp)
    unfold World.frozen? at this ⊢
    rw [hb.block b (hlt _ hp)]
    exact this
  · intro ha
    have := hn ha
    simpa using this
  · intro x hx _
    simpa using hx

/-- A ROW OF THE KIND 'THE RESULT IS TRUE': the arguments are laid, the call is run. -/
theorem row_true {f : Func} {fid : FuncId} {s : ChangeSpec} {apart fresh handsOn again : Bool} {args : Array Value} {ds gs : List (DataW H)} {before : List MemPlace} {tb : TypeId} {n : Nat} {ats : List AT} {r : Reach} {b0 : Nat}
    (hlo : laidOutB P = true) (hpar : ∀ t ∈ f.params.toList, P.readableRec t = true ∧ t < P.types.size) (hrt : f.resultTypes = #[tb]) (htb : P.underlying tb = some .bool) (hvars : s.vars = [])
    (hfn : (s.fn H (ds ++ gs)) = { results := [.lit (.bool true)], args := ds }) (hats : atsOf P n f.params.toList = some ats)
    (hval : ∀ (j : Nat) t v, f.params[j]? = some t → args[j]? = some v → Value.okWide P W r b0 t v)
    (hW : DataW.Whole enc P f.params.toList s.vars apart W args.toList ds gs before) (aw : AW P W E B) (hz : ∃ (z : Nat) (cc : Array Value) (el : TypeId) (fz : Nat × Nat), W.heap[z]? = some (Obj.cells cc el fz))
    (call : ∀ k ax, Ext B k → TYas k ats ax → RCall P fid ax k fun v _ => v = .bool true) :
    Calls P fid args W fun e W' => ∃ v, e = .returned v ∧ s.post enc P f apart fresh handsOn again W args v W' := by
  obtain ⟨p, q, hA, _⟩ := id hW
  obtain ⟨F, C, ax, h1, h2, h3⟩ := laid_args hz f.params.toList hats args.toList ds p hA (fun j t v h h' => hval j t v (by rw [← Array.getElem?_toList]; exact h) (by rw [← Array.getElem?_toList]; exact h')) aw
  obtain ⟨v, g, hs, rfl⟩ := call (B ++ C) ax ⟨C, rfl⟩ h3
  refine (hs (embOf (E ++ F)) W args.toList h1.hr h2).mono fun e W' ⟨cv, m', he, hv, _, hg⟩ => ?_
  rw [VR] at hv
  subst hv
  exact ⟨_, he, post_true hlo hpar hrt htb hvars hfn hW (h1.below hg)⟩
end
end Go.Abs
namespace Go.Abs
def fn2 : AFunc := ⟨1, 0, [],(.ops [.c 0 1 []])⟩
def fn3 : AFunc := ⟨304, 2, [(4, none)],(.s [.p 2 0,.o 4 (.mov .F)] (.seq (.s [.c 27 4 [],.o 28 (.un .not (.t 27)),.m 29 28,.g 30 29 false (.load (some 2) (.t 2)),.g 31 29 false (.call (.f 5) [.t 30,.n 4000]),.g 32 29 false (.un .not (.t 31)),.f 33 29 32] (.j 33 [.c 34 4 [],.m 4 34])) (.s [.m 35 1,.o 36 (.conv (.i2i .i64) (.t 35)),.v 37 .rem 36 (.n 24),.b 38 .add .w (.t 37),.m 5 38] (.s [.r 40 2 2,.c 41 7 [.t 40],.m 42 5,.c 43 6 [.t 41,.t 42],.m 39 43,.e 44 39 0,.e 45 39 1,.o 6 (.box (.c (.agg [.str [], .nilSlice]))),.s 2 6 44,.m 7 45] (.seq (.s [.m 46 7,.v 47 .neq 46 .z,.m 48 47,.g 49 48 false (.fadr 1 (.t 6)),.g 50 48 false (.load none (.t 49)),.g 51 48 false (.len .sl (.t 50)),.g 52 48 false (.fadr 1 (.t 2)),.g 53 48 false (.load none (.t 52)),.g 54 48 false (.len .sl (.t 53)),.g 55 48 false (.bin .neq (.t 51) (.t 54)),.f 56 48 55,.m 57 56,.g 58 57 false (.load (some 2) (.t 6)),.g 59 57 false (.call (.f 8) [.t 58]),.g 60 57 false (.call (.f 5) [.t 59,.n 4000]),.g 61 57 false (.un .not (.t 60)),.f 62 57 61] (.j 62 [.o 4 (.mov .F)])) (.s [.r 64 2 6,.c 65 8 [.t 64],.c 66 7 [.t 65],.c 67 9 [.t 66,.n (-1), .w],.m 63 67,.e 68 63 0,.e 69 63 1,.o 8 (.box (.c (.agg [.str [], .nilSlice]))),.s 2 8 68,.m 9 69] (.seq (.s [.m 70 9,.v 71 .neq 70 .z,.m 72 71,.g 73 72 false (.load (some 2) (.t 8)),.g 74 72 false (.call (.f 8) [.t 73]),.g 75 72 false (.call (.f 5) [.t 74,.n 4000]),.g 76 72 false (.un .not (.t 75)),.f 77 72 76] (.j 77 [.o 4 (.mov .F)])) (.s [.y 79 (.load (some 2) (.t 2)),.y 80 (.call (.f 7) [.t 79]),.y 81 (.load (some 2) (.t 8)),.y 82 (.call (.f 8) [.t 81]),.y 83 (.call (.f 7) [.t 82]),.y 84 (.call (.f 10) [.t 80,.t 83]),.w 78 84,.y 85 (.ext (.t 78) 0),.y 86 (.ext (.t 78) 1),⟨none, .mov .F, none, true⟩,.y 10 (.boxn 2 (.t 85)),.m 11 86] (.seq (.s [.m 87 11,.v 88 .neq 87 .z,.m 89 88,.g 90 89 false (.fadr 1 (.t 10)),.g 91 89 false (.load none (.t 90)),.g 92 89 false (.len .sl (.t 91)),.g 93 89 false (.fadr 1 (.t 2)),.g 94 89 false (.load none (.t 93)),.g 95 89 false (.len .sl (.t 94)),.g 96 89 false (.bin .neq (.t 92) (.t 95)),.f 97 89 96,.m 98 97,.g 99 98 false (.fadr 0 (.t 10)),.g 100 98 false (.load none (.t 99)),.g 101 98 false (.fadr 0 (.t 2)),.g 102 98 false (.load none (.t 101)),.g 103 98 false (.bin .neq (.t 100) (.t 102)),.f 104 98 103,.m 105 104,.g 106 105 false (.load (some 2) (.t 10)),.g 107 105 false (.call (.f 8) [.t 106]),.g 108 105 false (.call (.f 5) [.t 107,.n 8000]),.g 109 105 false (.un .not (.t 108)),.f 110 105 109] (.j 110 [.o 4 (.mov .F)])) (.seq (.s [.a 111 1 2,.l 112 111,.n 113 112,.o 114 (.mov .z)] (.block 0 (.loop (.s [.u 115 .lss 114 113] (.seq (.i 115 .skip (.exit 0)) (.seq (.block 1 (.s [.m 116 114,.h 117 10 112 114,.r 118 10 117,.o 13 (.box (.c (.agg [.int .i64 0, .int .i64 0, .int .i64 0, .int .i64 0, .int .i64 0, .int .i64 0, .int .i64 0, .int .i64 0, .bool false, .nilSlice]))),.m 12 116,.s 10 13 118] (.seq (.s [.y 119 (.fadr 1 (.t 10)),.j 120 119,.w 121 12,.y 122 (.iadr 10 (.t 120) (.t 121)),.y 123 (.fadr 8 (.t 122)),.j 124 123,.y 125 (.fadr 8 (.t 13)),.j 126 125,.o 127 (.eqv true (.one .b) (.t 124) (.t 126)),.m 128 127,⟨(some 129), .fadr 1 (.t 10), (some (128, false)), true⟩,⟨(some 130), .load none (.t 129), (some (128, false)), true⟩,⟨(some 131), .mov (.t 12), (some (128, false)), true⟩,⟨(some 132), .iadr 10 (.t 130) (.t 131), (some (128, false)), true⟩,⟨(some 133), .fadr 0 (.t 132), (some (128, false)), true⟩,⟨(some 134), .load (some 8) (.t 133), (some (128, false)), true⟩,⟨(some 135), .fadr 0 (.t 13), (some (128, false)), true⟩,⟨(some 136), .load (some 8) (.t 135), (some (128, false)), true⟩,.g 137 128 false (.eqv true (.agg [.i, .i, .i, .i, .i, .i, .i, .i]) (.t 134) (.t 136)),.f 138 128 137] (.j 138 [.o 4 (.mov .F)])) (.s [.o 140 (.bslice 1 0 [.flt .f32 0] []),.a 141 9 13,.l 142 141,.o 143 (.app 1 4 (.t 140) (.t 142)),.m 144 5,.c 145 11 [.t 143,.t 144],.m 139 145,.e 146 139 0,.e 147 139 1,.m 14 146,.m 15 147] (.s [.o 149 (.bslice 1 0 [.flt .f32 0] []),.a 150 1 10,.l 151 150,.m 152 12,.h 153 10 151 152,.a 154 9 153,.l 155 154,.o 156 (.app 1 4 (.t 149) (.t 155)),.m 157 5,.c 158 12 [.t 156,.t 157],.m 148 158,.e 159 148 0,.e 160 148 1,.m 16 159,.m 17 160] (.seq (.s [.m 161 15,.v 162 .neq 161 .z,.m 163 162,.t 164 163 false 17,.g 165 163 false (.bin .neq (.t 164) .z),.f 166 163 165,.m 167 166,.g 168 167 false (.fadr 1 (.t 10)),.g 169 167 false (.load none (.t 168)),.t 170 167 false 12,.g 171 167 false (.iadr 10 (.t 169) (.t 170)),.g 172 167 false (.fadr 9 (.t 171)),.g 173 167 false (.load none (.t 172)),.t 174 167 false 14,.g 175 167 false (.call (.f 13) [.t 173,.t 174]),.g 176 167 false (.un .not (.t 175)),.f 177 167 176,.m 178 177,.t 179 178 false 16,.g 180 178 false (.fadr 9 (.t 13)),.g 181 178 false (.load none (.t 180)),.g 182 178 false (.call (.f 13) [.t 179,.t 181]),.g 183 178 false (.un .not (.t 182)),.f 184 178 183] (.j 184 [.o 4 (.mov .F)])) (.s [.o 186 (.bslice 1 0 [.flt .f32 0] []),.a 187 9 13,.l 188 187,.o 189 (.app 1 4 (.t 186) (.t 188)),.o 190 (.bslice 1 0 [.flt .f32 0] []),.m 191 14,.o 192 (.app 1 4 (.t 190) (.t 191)),.c 193 14 [.t 189,.t 192],.m 185 193,.e 194 185 0,.e 195 185 1,.o 18 (.box (.c (.agg [.int .i64 0, .int .i64 0]))),.s 2 18 194,.m 19 195] (.s [.o 197 (.bslice 1 0 [.flt .f32 0] []),.a 198 9 13,.l 199 198,.o 200 (.app 1 4 (.t 197) (.t 199)),.c 201 15 [.t 200],.m 196 201,.e 202 196 0,.e 203 196 1,.m 20 202,.m 21 203] (.s [.o 205 (.bslice 1 0 [.flt .f32 0] []),.a 206 1 6,.l 207 206,.m 208 12,.h 209 10 207 208,.a 210 9 209,.l 211 210,.o 212 (.app 1 4 (.t 205) (.t 211)),.c 213 15 [.t 212],.m 204 213,.e 214 204 0,.e 215 204 1,.m 22 214,.m 23 215] (.seq (.s [.m 216 21,.v 217 .neq 216 .z,.m 218 217,.t 219 218 false 23,.g 220 218 false (.bin .neq (.t 219) .z),.f 221 218 220,.m 222 221,.t 223 222 false 20,.g 224 222 false (.bin .lss (.t 223) .z),.f 225 222 224,.m 226 225,.t 227 226 false 22,.g 228 226 false (.bin .lss (.t 227) .z),.f 229 226 228,.m 230 229,.t 231 230 false 20,.g 232 230 false (.bin .gtr (.t 231) (.n 1073741824)),.f 233 230 232,.m 234 233,.t 235 234 false 22,.g 236 234 false (.bin .gtr (.t 235) (.n 1073741824)),.f 237 234 236] (.j 237 [.o 4 (.mov .F)])) (.seq (.s [.m 238 20,.v 239 .eql 238 .z] (.i 239 (.seq (.s [.m 240 19,.v 241 .neq 240 (.n 6)] (.j 241 [.o 4 (.mov .F)])) (.exit 1)) .skip)) (.s [.m 242 19,.v 243 .neq 242 .z,.m 244 243,.g 245 244 false (.fadr 1 (.t 18)),.g 246 244 false (.load none (.t 245)),.g 247 244 false (.bin .lss (.t 246) .w),.f 248 244 247,.m 249 248,.g 250 249 false (.fadr 1 (.t 18)),.g 251 249 false (.load none (.t 250)),.t 252 249 false 20,.g 253 249 false (.bin .gtr (.t 251) (.t 252)),.f 254 249 253,.m 255 254,.g 256 255 false (.fadr 0 (.t 18)),.g 257 255 false (.load none (.t 256)),.g 258 255 false (.bin .lss (.t 257) .z),.f 259 255 258,.m 260 259,.g 261 260 false (.fadr 0 (.t 18)),.g 262 260 false (.load none (.t 261)),.t 263 260 false 20,.g 264 260 false (.bin .gtr (.t 262) (.t 263)),.f 265 260 264,.m 266 265,.g 267 266 false (.fadr 0 (.t 18)),.g 268 266 false (.load none (.t 267)),.t 269 266 false 20,.g 270 266 false (.bin .mul (.t 268) (.t 269)),.t 271 266 false 22,.g 272 266 false (.fadr 1 (.t 18)),.g 273 266 false (.load none (.t 272)),.g 274 266 false (.bin .mul (.t 271) (.t 273)),.g 275 266 false (.bin .neq (.t 270) (.t 274)),.f 276 266 275] (.j 276 [.o 4 (.mov .F)]))))))))))))) (.ops [.v 277 .add 114 .w,.m 114 277]))))))) (.seq (.s [.m 278 5,.v 279 .geq 278 (.n 8)] (.j 279 [.o 4 (.mov .T)])) (.s [.m 280 5,.v 281 .add 280 .w,.o 282 (.mksl 1 8 [.int .i64 0] (.t 281) (.t 281)),.m 24 282] (.s [.m 283 24,.m 284 24,.m 285 5,.o 286 (.iadr 1 (.t 283) .z),.x (.store 1 (.t 286) .w),.h 287 1 284 285,.x (.store 1 (.t 287) (.n (-1)))] (.s [.r 289 2 2,.c 290 7 [.t 289],.m 291 24,.c 292 16 [.t 290,.t 291],.m 288 292,.e 293 288 0,.e 294 288 1,.o 25 (.box (.c (.agg [.str [], .nilSlice]))),.s 2 25 293,.m 26 294] (.r [.m 295 26,.v 296 .eql 295 .z,.m 297 296,⟨(some 298), .load (some 2) (.t 25), (some (297, true)), true⟩,⟨(some 299), .call (.f 8) [.t 298], (some (297, true)), true⟩,⟨(some 300), .load (some 2) (.t 10), (some (297, true)), true⟩,.g 301 297 true (.call (.f 8) [.t 300]),.g 302 297 true (.call (.f 17) [.t 299,.t 301]),.d 303 297 302,.m 4 303])))))))))))))))⟩
def fn4 : AFunc := ⟨59, 0, [(0, none)],(.s [.o 0 (.mov .F)] (.s [.o 8 (.bslice 1 3 [.flt .f32 0] [(0, (.c (.flt .f32 1065353216))), (1, (.c (.flt .f32 1073741824))), (2, (.c (.flt .f32 1077936128)))]),.c 9 11 [.t 8, .w],.m 7 9,.e 10 7 0,.e 11 7 1,.m 1 10,.m 2 11] (.s [.o 13 (.bslice 1 3 [.flt .f32 0] [(0, (.c (.flt .f32 1065353216))), (1, (.c (.flt .f32 1073741824))), (2, (.c (.flt .f32 1077936128)))]),.o 14 (.bslice 1 2 [.int .i64 0] [(0, .w), (1, (.n (-1)))]),.c 15 18 [.t 13,.t 14],.m 12 15,.e 16 12 0,.e 17 12 1,.m 3 16,.m 4 17] (.s [.o 19 (.bslice 1 3 [.flt .f32 0] [(0, (.c (.flt .f32 1065353216))), (1, (.c (.flt .f32 1073741824))), (2, (.c (.flt .f32 1077936128)))]),.c 20 19 [.t 19],.c 21 6 [.t 20, .w],.m 18 21,.e 22 18 0,.e 23 18 1,.o 5 (.box (.c (.agg [.str [], .nilSlice]))),.s 2 5 22,.m 6 23] (.r [.m 24 2,.v 25 .eql 24 .z,.m 26 25,.t 27 26 true 4,.g 28 26 true (.bin .eql (.t 27) .z),.d 29 26 28,.m 30 29,.t 31 30 true 6,.g 32 30 true (.bin .eql (.t 31) .z),.d 33 30 32,.m 34 33,.t 35 34 true 1,.g 36 34 true (.bslice 1 3 [.flt .f32 0] [(0, (.c (.flt .f32 1065353216))), (1, (.c (.flt .f32 1065353216))), (2, (.c (.flt .f32 1065353216)))]),.g 37 34 true (.call (.f 13) [.t 35,.t 36]),.d 38 34 37,.m 39 38,.t 40 39 true 3,.g 41 39 true (.bslice 1 4 [.flt .f32 0] [(0, (.c (.flt .f32 1065353216))), (1, (.c (.flt .f32 1065353216))), (2, (.c (.flt .f32 1065353216))), (3, (.c (.flt .f32 3225419776)))]),.g 42 39 true (.call (.f 13) [.t 40,.t 41]),.d 43 39 42,.m 44 43,.g 45 44 true (.fadr 1 (.t 5)),.g 46 44 true (.load none (.t 45)),.g 47 44 true (.len .sl (.t 46)),.g 48 44 true (.bin .eql (.t 47) .w),.d 49 44 48,.m 50 49,.g 51 50 true (.fadr 1 (.t 5)),.g 52 50 true (.load none (.t 51)),.g 53 50 true (.iadr 10 (.t 52) .z),.g 54 50 true (.fadr 9 (.t 53)),.g 55 50 true (.load none (.t 54)),.g 56 50 true (.bslice 1 3 [.flt .f32 0] [(0, (.c (.flt .f32 0))), (1, (.c (.flt .f32 1065353216))), (2, (.c (.flt .f32 1073741824)))]),.g 57 50 true (.call (.f 13) [.t 55,.t 56]),.d 58 50 57,.m 0 58])))))⟩
def fn5 : AFunc := ⟨45, 2, [(4, none)],(.s [.p 2 0,.o 4 (.mov .F)] (.seq (.s [.r 10 2 2,.c 11 20 [.t 10],.o 12 (.un .not (.t 11)),.m 13 12,.g 14 13 false (.load (some 2) (.t 2)),.g 15 13 false (.call (.f 21) [.t 14]),.g 16 13 false (.bin .neq (.t 15) .z),.f 17 13 16] (.j 17 [.o 4 (.mov .F)])) (.seq (.s [.a 18 1 2,.l 19 18,.n 20 19,.o 21 (.mov .z)] (.block 0 (.loop (.s [.u 22 .lss 21 20] (.seq (.i 22 .skip (.exit 0)) (.seq (.block 1 (.s [.h 23 10 19 21,.r 24 10 23,.o 6 (.box (.c (.agg [.int .i64 0, .int .i64 0, .int .i64 0, .int .i64 0, .int .i64 0, .int .i64 0, .int .i64 0, .int .i64 0, .bool false, .nilSlice]))),.s 10 6 24] (.s [.a 25 9 6,.l 26 25,.n 27 26,.o 28 (.mov .z)] (.block 2 (.loop (.s [.u 29 .lss 28 27] (.seq (.i 29 .skip (.exit 2)) (.seq (.block 3 (.s [.h 30 1 26 28,.l 31 30,.m 8 31] (.s [.m 32 8,.c 33 22 [.t 32],.m 9 33] (.s [.m 34 9,.m 35 1,.u 36 .gtr 34 35,.m 37 36,.t 38 37 false 9,.t 39 37 false 1,.g 40 37 false (.un .neg (.t 39)),.g 41 37 false (.bin .lss (.t 38) (.t 40)),.f 42 37 41] (.j 42 [.o 4 (.mov .F)]))))) (.ops [.v 43 .add 28 .w,.m 28 43]))))))))) (.ops [.v 44 .add 21 .w,.m 21 44]))))))) (.r [.o 4 (.mov .T)]))))⟩
def fn6 : AFunc := ⟨20, 2, [(4, some (some 2)), (5, none)],(.s [.p 2 0,.p 3 1,.o 4 (.box (.c (.agg [.str [], .nilSlice]))),.o 5 (.mov .z)] (.seq (.s [.y 7 (.load (some 2) (.t 2)),.y 8 (.call (.f 24) [.t 7]),.j 9 3,.c 10 25 [.t 9,.n (-1024),.n 1024],.o 11 (.bslice 1 2 [.int .i64 0] [(0, .t 8), (1, .t 10)]),.c 12 23 [.t 11],.m 6 12] (.s [.m 13 6,.v 14 .neq 13 .z] (.j 14 [.o 15 (.build [.str [], .nilSlice] []),.m 16 6,.s 2 4 15,.m 5 16]))) (.r [.r 17 2 2,.o 18 (.mkfn (.func 27) [] [.t 3]),.c 19 26 [.t 17,.t 18],.s 2 4 19,.o 5 (.mov .z)])))⟩
def fn7 : AFunc := ⟨32, 1, [(2, some (some 2))],(.s [.p 1 0,.o 2 (.box (.c (.agg [.str [], .nilSlice])))] (.s [.a 6 0 1,.l 7 6,.o 8 (.build [.str [], .nilSlice] [(0, 1, .t 7)]),.o 3 (.box (.c (.agg [.str [], .nilSlice]))),.s 2 3 8] (.seq (.s [.a 9 1 1,.l 10 9,.n 11 10,.o 12 (.mov .z)] (.block 0 (.loop (.s [.u 13 .lss 12 11] (.seq (.i 13 .skip (.exit 0)) (.seq (.block 1 (.s [.h 14 10 10 12,.r 15 10 14,.o 5 (.box (.c (.agg [.int .i64 0, .int .i64 0, .int .i64 0, .int .i64 0, .int .i64 0, .int .i64 0, .int .i64 0, .int .i64 0, .bool false, .nilSlice]))),.s 10 5 15] (.opsM [.a 16 1 3,.j 17 16,.a 18 0 5,.y 19 (.load (some 8) (.t 18)),.a 20 8 5,.j 21 20,.o 22 (.bslice 1 0 [.flt .f32 0] []),.a 23 9 5,.j 24 23,.o 25 (.app 1 4 (.t 22) (.t 24)),.o 26 (.build [.int .i64 0, .int .i64 0, .int .i64 0, .int .i64 0, .int .i64 0, .int .i64 0, .int .i64 0, .int .i64 0, .bool false, .nilSlice] [(0, 8, .t 19), (8, 1, .t 21), (9, 1, .t 25)]),.o 27 (.bslice 10 1 [.int .i64 0, .int .i64 0, .int .i64 0, .int .i64 0, .int .i64 0, .int .i64 0, .int .i64 0, .int .i64 0, .bool false, .nilSlice] [(0, .t 26)]),.o 28 (.app 10 96 (.t 17) (.t 27)),.a 29 1 3,.s 1 29 28]))) (.ops [.v 30 .add 12 .w,.m 12 30]))))))) (.r [.r 31 2 3,.s 2 2 31]))))⟩
def fn8 : AFunc := ⟨32, 1, [(2, some (some 2))],(.s [.p 1 0,.o 2 (.box (.c (.agg [.str [], .nilSlice])))] (.s [.a 6 0 1,.l 7 6,.o 8 (.build [.str [], .nilSlice] [(0, 1, .t 7)]),.o 3 (.box (.c (.agg [.str [], .nilSlice]))),.s 2 3 8] (.seq (.s [.a 9 1 1,.l 10 9,.n 11 10,.o 12 (.mov .z)] (.block 0 (.loop (.s [.u 13 .lss 12 11] (.seq (.i 13 .skip (.exit 0)) (.seq (.block 1 (.s [.h 14 10 10 12,.r 15 10 14,.o 5 (.box (.c (.agg [.int .i64 0, .int .i64 0, .int .i64 0, .int .i64 0, .int .i64 0, .int .i64 0, .int .i64 0, .int .i64 0, .bool false, .nilSlice]))),.s 10 5 15] (.opsM [.a 16 1 3,.j 17 16,.a 18 0 5,.y 19 (.load (some 8) (.t 18)),.a 20 8 5,.j 21 20,.o 22 (.bslice 1 0 [.flt .f32 0] []),.a 23 9 5,.j 24 23,.o 25 (.app 1 4 (.t 22) (.t 24)),.o 26 (.build [.int .i64 0, .int .i64 0, .int .i64 0, .int .i64 0, .int .i64 0, .int .i64 0, .int .i64 0, .int .i64 0, .bool false, .nilSlice] [(0, 8, .t 19), (8, 1, .t 21), (9, 1, .t 25)]),.o 27 (.bslice 10 1 [.int .i64 0, .int .i64 0, .int .i64 0, .int .i64 0, .int .i64 0, .int .i64 0, .int .i64 0, .int .i64 0, .bool false, .nilSlice] [(0, .t 26)]),.o 28 (.app 10 96 (.t 17) (.t 27)),.a 29 1 3,.s 1 29 28]))) (.ops [.v 30 .add 12 .w,.m 12 30]))))))) (.r [.r 31 2 3,.s 2 2 31]))))⟩
def fn9 : AFunc := ⟨37, 3, [(6, some (some 2)), (7, some none)],(.s [.p 3 0,.p 4 1,.p 5 2,.o 6 (.box (.c (.agg [.str [], .nilSlice]))),.o 7 (.box .z)] (.seq (.s [.y 12 (.load (some 2) (.t 3)),.y 13 (.call (.f 24) [.t 12]),.j 14 4,.y 15 (.call (.f 25) [.t 14,.n (-1024),.n 1024]),.j 16 5,.c 17 25 [.t 16, .w,.n 1024],.o 18 (.bslice 1 3 [.int .i64 0] [(0, .t 13), (1, .t 15), (2, .t 17)]),.c 19 23 [.t 18],.m 8 19] (.s [.m 20 8,.v 21 .neq 20 .z] (.j 21 [.o 22 (.build [.str [], .nilSlice] []),.m 23 8,.s 2 6 22,.s 1 7 23]))) (.s [.r 24 2 3,.o 25 (.mkfn (.func 29) [] [.t 4,.t 5]),.c 26 26 [.t 24,.t 25],.o 9 (.box (.c (.agg [.str [], .nilSlice]))),.s 2 9 26] (.seq (.s [.r 27 2 9,.c 28 35 [.t 27]] (.block 0 (.rangeF (.t 28) [29, 30] (.ops [.o 11 (.box (.c (.agg [.int .i64 0, .int .i64 0, .int .i64 0, .int .i64 0, .int .i64 0, .int .i64 0, .int .i64 0, .int .i64 0, .bool false, .nilSlice]))),.s 10 11 30]) (.block 1 (.s [.a 31 9 11,.l 32 31,.c 33 36 [.t 32],.v 34 .neq 33 .z] (.j 34 [.o 35 (.build [.str [], .nilSlice] []),.s 2 6 35,.x (.store 1 (.t 7) (.n 4))])))))) (.r [.r 36 2 9,.s 2 6 36,.x (.store 1 (.t 7) .z)])))))⟩
def fn10 : AFunc := ⟨97, 2, [(4, some (some 2)), (5, none)],(.s [.p 2 0,.p 3 1,.o 4 (.box (.c (.agg [.str [], .nilSlice]))),.o 5 (.mov .z)] (.seq (.s [.r 18 2 2,.r 19 2 3,.c 20 37 [.t 18,.t 19],.m 6 20] (.s [.m 21 6,.v 22 .neq 21 .z] (.j 22 [.o 23 (.build [.str [], .nilSlice] []),.m 24 6,.s 2 4 23,.m 5 24]))) (.s [.r 26 2 2,.c 27 38 [.t 26],.m 25 27,.e 28 25 0,.e 29 25 1,.m 7 28,.m 8 29] (.s [.r 31 2 3,.c 32 38 [.t 31],.m 30 32,.e 33 30 0,.e 34 30 1,.m 9 33,.m 10 34] (.seq (.s [.m 35 8,.m 36 35,.t 37 36 true 10,.d 38 36 37,.m 39 38,.t 40 39 true 7,.t 41 39 true 9,.g 42 39 true (.bin .neq (.t 40) (.t 41)),.d 43 39 42] (.j 43 [.o 44 (.build [.str [], .nilSlice] []),.s 2 4 44,.o 5 (.mov (.n 2))])) (.seq (.s [.a 45 1 2,.l 46 45,.n 47 46,.o 48 (.mov .z)] (.block 0 (.loop (.s [.u 49 .lss 48 47] (.seq (.i 49 .skip (.exit 0)) (.seq (.block 1 (.s [.m 50 48,.h 51 10 46 48,.r 52 10 51,.o 12 (.box (.c (.agg [.int .i64 0, .int .i64 0, .int .i64 0, .int .i64 0, .int .i64 0, .int .i64 0, .int .i64 0, .int .i64 0, .bool false, .nilSlice]))),.m 11 50,.s 10 12 52] (.s [.y 53 (.fadr 0 (.t 12)),.y 54 (.load (some 8) (.t 53)),.y 55 (.fadr 1 (.t 3)),.j 56 55,.w 57 11,.y 58 (.iadr 10 (.t 56) (.t 57)),.y 59 (.fadr 0 (.t 58)),.y 60 (.load (some 8) (.t 59)),.o 61 (.eqv true (.agg [.i, .i, .i, .i, .i, .i, .i, .i]) (.t 54) (.t 60))] (.j 61 [.o 62 (.build [.str [], .nilSlice] []),.s 2 4 62,.o 5 (.mov (.n 24))])))) (.ops [.v 63 .add 48 .w,.m 48 63]))))))) (.s [.a 64 0 2,.l 65 64,.o 66 (.build [.str [], .nilSlice] [(0, 1, .t 65)]),.o 13 (.box (.c (.agg [.str [], .nilSlice]))),.s 2 13 66] (.seq (.s [.a 67 1 2,.l 68 67,.n 69 68,.o 70 (.mov .z)] (.block 2 (.loop (.s [.u 71 .lss 70 69] (.seq (.i 71 .skip (.exit 2)) (.seq (.block 3 (.s [.m 72 70,.h 73 10 68 70,.r 74 10 73,.o 15 (.box (.c (.agg [.int .i64 0, .int .i64 0, .int .i64 0, .int .i64 0, .int .i64 0, .int .i64 0, .int .i64 0, .int .i64 0, .bool false, .nilSlice]))),.m 14 72,.s 10 15 74] (.s [.a 75 1 3,.l 76 75,.m 77 14,.h 78 10 76 77,.r 79 10 78,.o 16 (.box (.c (.agg [.int .i64 0, .int .i64 0, .int .i64 0, .int .i64 0, .int .i64 0, .int .i64 0, .int .i64 0, .int .i64 0, .bool false, .nilSlice]))),.s 10 16 79] (.s [.r 80 10 15,.r 81 10 16,.o 82 (.mkfn (.func 40) [] [.t 15,.t 16]),.c 83 39 [.t 80,.t 81,.t 82],.o 17 (.box (.c (.agg [.int .i64 0, .int .i64 0, .int .i64 0, .int .i64 0, .int .i64 0, .int .i64 0, .int .i64 0, .int .i64 0, .bool false, .nilSlice]))),.s 10 17 83] (.seq (.s [.a 84 9 17,.l 85 84,.c 86 36 [.t 85],.v 87 .neq 86 .z] (.j 87 [.o 88 (.build [.str [], .nilSlice] []),.s 2 4 88,.o 5 (.mov (.n 4))])) (.ops [.a 89 1 13,.l 90 89,.r 91 10 17,.o 92 (.bslice 10 1 [.int .i64 0, .int .i64 0, .int .i64 0, .int .i64 0, .int .i64 0, .int .i64 0, .int .i64 0, .int .i64 0, .bool false, .nilSlice] [(0, .t 91)]),.o 93 (.app 10 96 (.t 90) (.t 92)),.a 94 1 13,.s 1 94 93])))))) (.ops [.v 95 .add 70 .w,.m 70 95]))))))) (.r [.r 96 2 13,.s 2 4 96,.o 5 (.mov .z)])))))))))⟩
def fn11 : AFunc := ⟨44, 2, [(4, none), (5, none)],(.s [.o 4 (.mov (.c .nilSlice)),.o 5 (.mov .z)] (.seq (.s [.m 11 0,.m 12 1,.c 13 41 [.t 11,.t 12],.m 6 13] (.s [.m 14 6,.v 15 .neq 14 .z] (.j 15 [.m 16 6,.o 4 (.mov (.c .nilSlice)),.m 5 16]))) (.s [.m 17 0,.c 18 42 [.t 17, (.f 43)],.m 7 18] (.s [.m 19 7,.n 20 19,.o 21 (.mksl 1 8 [.int .i64 0] (.t 20) (.t 20)),.m 8 21] (.seq (.s [.m 22 7,.n 23 22,.o 24 (.mov .z)] (.block 0 (.loop (.s [.u 25 .lss 24 23] (.seq (.i 25 .skip (.exit 0)) (.seq (.block 1 (.s [.m 26 24,.h 27 1 22 24,.l 28 27,.m 9 26,.m 10 28] (.ops [.m 29 8,.m 30 9,.m 31 10,.m 32 7,.m 33 9,.m 34 1,.u 35 .sub 33 34,.c 36 44 [.t 32,.t 35],.u 37 .sub 31 36,.h 38 1 29 30,.s 1 38 37]))) (.ops [.v 39 .add 24 .w,.m 24 39]))))))) (.r [.m 40 8,.c 41 45 [.t 40],.e 42 41 0,.e 43 41 1,.m 4 42,.m 5 43]))))))⟩
def fn12 : AFunc := ⟨46, 2, [(4, none), (5, none)],(.s [.o 4 (.mov (.c .nilSlice)),.o 5 (.mov .z)] (.seq (.s [.m 10 0,.m 11 1,.c 12 41 [.t 10,.t 11],.m 6 12] (.s [.m 13 6,.v 14 .neq 13 .z] (.j 14 [.m 15 6,.o 4 (.mov (.c .nilSlice)),.m 5 15]))) (.s [.m 16 0,.c 17 42 [.t 16, (.f 43)],.m 7 17] (.seq (.s [.m 18 7,.n 19 18,.o 20 (.mov .z)] (.block 0 (.loop (.s [.u 21 .lss 20 19] (.seq (.i 21 .skip (.exit 0)) (.seq (.block 1 (.s [.m 22 20,.m 8 22] (.s [.m 23 7,.m 24 8,.m 25 1,.u 26 .sub 24 25,.c 27 44 [.t 23,.t 26],.m 9 27] (.s [.m 28 7,.m 29 8,.h 30 1 28 29,.l 31 30,.m 32 9,.u 33 .add 31 32,.h 34 1 28 29,.s 1 34 33] (.s [.m 35 7,.m 36 8,.h 37 1 35 36,.l 38 37,.c 39 46 [.t 38],.o 40 (.un .not (.t 39))] (.j 40 [.o 4 (.mov (.c .nilSlice)),.o 5 (.mov (.n 4))])))))) (.ops [.v 41 .add 20 .w,.m 20 41]))))))) (.r [.m 42 7,.c 43 45 [.t 42],.e 44 43 0,.e 45 43 1,.m 4 44,.m 5 45])))))⟩
def fn13 : AFunc := ⟨26, 2, [(4, none)],(.s [.o 4 (.mov .F)] (.seq (.s [.m 6 0,.n 7 6,.m 8 1,.n 9 8,.u 10 .neq 7 9] (.j 10 [.o 4 (.mov .F)])) (.seq (.s [.o 5 (.mov .z)] (.block 0 (.loop (.seq (.s [.m 11 5,.m 12 0,.n 13 12,.u 14 .lss 11 13] (.i 14 .skip (.exit 0))) (.seq (.block 1 (.s [.w 17 0,.w 18 5,.y 19 (.iadr 1 (.t 17) (.t 18)),.j 20 19,.w 21 1,.w 22 5,.y 23 (.iadr 1 (.t 21) (.t 22)),.j 24 23,.u 25 .neq 20 24] (.j 25 [.o 4 (.mov .F)]))) (.ops [.m 15 5,.v 16 .add 15 .w,.m 5 16])))))) (.r [.o 4 (.mov .T)]))))⟩
def fn14 : AFunc := ⟨36, 2, [(4, some (some 2)), (5, none)],(.s [.o 4 (.box (.c (.agg [.int .i64 0, .int .i64 0]))),.o 5 (.mov .z)] (.seq (.s [.m 11 0,.m 12 1,.c 13 47 [.t 11,.t 12],.m 6 13] (.s [.m 14 6,.v 15 .neq 14 .z] (.j 15 [.o 16 (.build [.int .i64 0, .int .i64 0] []),.m 17 6,.s 2 4 16,.m 5 17]))) (.s [.m 18 0,.c 19 42 [.t 18, (.f 43)],.m 20 1,.c 21 42 [.t 20, (.f 43)],.m 7 19,.m 8 21] (.s [.m 22 7,.c 23 48 [.t 22],.m 9 23] (.seq (.s [.m 24 9,.v 25 .eql 24 .z] (.j 25 [.o 26 (.build [.int .i64 0, .int .i64 0] []),.s 2 4 26,.o 5 (.mov (.n 6))])) (.s [.m 27 7,.m 28 8,.c 29 51 [.t 27,.t 28],.c 30 50 [.t 29],.c 31 49 [.t 30, (.f 52)],.m 10 31] (.r [.m 32 10,.c 33 48 [.t 32],.m 34 9,.c 35 53 [.t 33,.t 34],.s 2 4 35,.o 5 (.mov .z)])))))))⟩
def fn15 : AFunc := ⟨27, 1, [(2, none), (3, none)],(.s [.o 2 (.mov .z),.o 3 (.mov .z)] (.seq (.s [.m 8 0,.c 9 54 [.t 8],.m 4 9] (.s [.m 10 4,.v 11 .neq 10 .z] (.j 11 [.m 12 4,.o 2 (.mov .z),.m 3 12]))) (.s [.o 5 (.mov .z)] (.seq (.s [.m 13 0,.c 14 55 [.t 13, (.f 34)],.n 15 14,.o 16 (.mov .z)] (.block 0 (.loop (.s [.u 17 .lss 16 15] (.seq (.i 17 .skip (.exit 0)) (.seq (.block 1 (.s [.h 18 1 14 16,.l 19 18,.m 7 19] (.ops [.m 20 5,.m 21 7,.m 22 7,.u 23 .mul 21 22,.u 24 .add 20 23,.m 5 24]))) (.ops [.v 25 .add 16 .w,.m 16 25]))))))) (.r [.m 26 5,.m 2 26,.o 3 (.mov .z)])))))⟩
def fn16 : AFunc := ⟨22, 2, [(4, some (some 2)), (5, none)],(.s [.p 2 0,.p 3 1,.o 4 (.box (.c (.agg [.str [], .nilSlice]))),.o 5 (.mov .z)] (.seq (.s [.y 7 (.load (some 2) (.t 2)),.y 8 (.call (.f 24) [.t 7]),.j 9 3,.c 10 57 [.t 9],.o 11 (.bslice 1 2 [.int .i64 0] [(0, .t 8), (1, .t 10)]),.c 12 56 [.t 11],.m 6 12] (.s [.m 13 6,.v 14 .neq 13 .z] (.j 14 [.o 15 (.build [.str [], .nilSlice] []),.m 16 6,.s 2 4 15,.m 5 16]))) (.r [.r 17 2 2,.o 18 (.mkfn (.func 59) [] [.t 3]),.c 19 58 [.t 17,.t 18],.e 20 19 0,.e 21 19 1,.s 2 4 20,.m 5 21])))⟩
def fn17 : AFunc := ⟨39, 2, [(4, none)],(.s [.p 2 0,.p 3 1,.o 4 (.mov .F)] (.seq (.s [.a 6 0 2,.l 7 6,.a 8 0 3,.l 9 8,.u 10 .neq 7 9,.m 11 10,.g 12 11 false (.fadr 1 (.t 2)),.g 13 11 false (.load none (.t 12)),.g 14 11 false (.len .sl (.t 13)),.g 15 11 false (.fadr 1 (.t 3)),.g 16 11 false (.load none (.t 15)),.g 17 11 false (.len .sl (.t 16)),.g 18 11 false (.bin .neq (.t 14) (.t 17)),.f 19 11 18] (.j 19 [.o 4 (.mov .F)])) (.seq (.s [.o 5 (.mov .z)] (.block 0 (.loop (.seq (.s [.m 20 5,.a 21 1 2,.l 22 21,.n 23 22,.u 24 .lss 20 23] (.i 24 .skip (.exit 0))) (.seq (.block 1 (.s [.y 27 (.fadr 1 (.t 2)),.j 28 27,.w 29 5,.y 30 (.iadr 10 (.t 28) (.t 29)),.y 31 (.load (some 10) (.t 30)),.y 32 (.fadr 1 (.t 3)),.j 33 32,.w 34 5,.y 35 (.iadr 10 (.t 33) (.t 34)),.y 36 (.load (some 10) (.t 35)),.c 37 61 [.t 31,.t 36],.o 38 (.un .not (.t 37))] (.j 38 [.o 4 (.mov .F)]))) (.ops [.m 25 5,.v 26 .add 25 .w,.m 5 26])))))) (.r [.o 4 (.mov .T)]))))⟩
def fn18 : AFunc := ⟨68, 2, [(4, none), (5, none)],(.s [.o 4 (.mov (.c .nilSlice)),.o 5 (.mov .z)] (.seq (.s [.m 12 0,.c 13 54 [.t 12],.m 14 1,.c 15 62 [.t 14],.o 16 (.bslice 1 2 [.int .i64 0] [(0, .t 13), (1, .t 15)]),.c 17 23 [.t 16],.m 6 17] (.s [.m 18 6,.v 19 .neq 18 .z,.m 20 19,.t 21 20 false 0,.g 22 20 false (.len .sl (.t 21)),.g 23 20 false (.bin .eql (.t 22) .z),.f 24 20 23] (.j 24 [.m 25 6,.o 4 (.mov (.c .nilSlice)),.m 5 25]))) (.s [.m 26 0,.n 27 26,.m 28 1,.n 29 28,.u 30 .add 27 29,.v 31 .sub 30 .w,.o 32 (.mksl 1 8 [.int .i64 0] (.t 31) (.t 31)),.m 7 32] (.seq (.s [.m 33 7,.n 34 33,.v 35 .gtr 34 (.n 1024)] (.j 35 [.o 4 (.mov (.c .nilSlice)),.o 5 (.mov (.n 5))])) (.seq (.s [.m 36 0,.n 37 36,.o 38 (.mov .z)] (.block 0 (.loop (.s [.u 39 .lss 38 37] (.seq (.i 39 .skip (.exit 0)) (.seq (.block 1 (.s [.m 40 38,.h 41 1 36 38,.l 42 41,.m 8 40,.m 9 42] (.s [.m 43 1,.n 44 43,.o 45 (.mov .z)] (.block 2 (.loop (.s [.u 46 .lss 45 44] (.seq (.i 46 .skip (.exit 2)) (.seq (.block 3 (.s [.m 47 45,.h 48 1 43 45,.l 49 48,.m 10 47,.m 11 49] (.ops [.w 50 7,.w 51 8,.w 52 10,.y 53 (.bin .add (.t 51) (.t 52)),.y 54 (.iadr 1 (.t 50) (.t 53)),.j 55 54,.w 56 11,.w 57 9,.y 58 (.call (.f 34) [.t 57]),.y 59 (.bin .mul (.t 56) (.t 58)),.u 60 .add 55 59,.h 61 1 50 53,.s 1 61 60]))) (.ops [.v 62 .add 45 .w,.m 45 62]))))))))) (.ops [.v 63 .add 38 .w,.m 38 63]))))))) (.seq (.s [.m 64 7,.c 65 63 [.t 64, (.f 64)]] (.j 65 [.o 4 (.mov (.c .nilSlice)),.o 5 (.mov (.n 4))])) (.r [.m 66 7,.c 67 66 [.t 66, (.f 32)],.m 4 67,.o 5 (.mov .z)])))))))⟩
def fn19 : AFunc := ⟨9, 1, [(2, some (some 2))],(.s [.o 2 (.box (.c (.agg [.str [], .nilSlice])))] (.r [.o 3 (.bslice 1 0 [.flt .f32 0] []),.m 4 0,.o 5 (.app 1 4 (.t 3) (.t 4)),.o 6 (.build [.int .i64 0, .int .i64 0, .int .i64 0, .int .i64 0, .int .i64 0, .int .i64 0, .int .i64 0, .int .i64 0, .bool false, .nilSlice] [(9, 1, .t 5)]),.o 7 (.bslice 10 1 [.int .i64 0, .int .i64 0, .int .i64 0, .int .i64 0, .int .i64 0, .int .i64 0, .int .i64 0, .int .i64 0, .bool false, .nilSlice] [(0, .t 6)]),.o 8 (.build [.str [], .nilSlice] [(0, 1, (.c (.str [115]))), (1, 1, .t 7)]),.s 2 2 8]))⟩
def fn20 : AFunc := ⟨34, 1, [(2, none)],(.s [.p 1 0,.o 2 (.mov .F)] (.seq (.s [.a 4 0 1,.l 5 4,.o 6 (.len .st (.t 5)),.v 7 .gtr 6 (.n 60),.m 8 7,.g 9 8 false (.fadr 1 (.t 1)),.g 10 8 false (.load none (.t 9)),.g 11 8 false (.len .sl (.t 10)),.g 12 8 false (.bin .gtr (.t 11) (.n 6)),.t 13 8 false 12,.g 14 13 true (.fadr 1 (.t 1)),.g 15 13 true (.load none (.t 14)),.g 16 13 true (.len .sl (.t 15)),.g 17 13 true (.bin .neq (.t 16) (.n 65)),.g 18 8 false (.pick (.t 13) (.t 17) .F),.f 19 8 18] (.j 19 [.o 2 (.mov .F)])) (.seq (.s [.o 3 (.mov .z)] (.block 0 (.loop (.seq (.s [.m 20 3,.a 21 1 1,.l 22 21,.n 23 22,.u 24 .lss 20 23] (.i 24 .skip (.exit 0))) (.seq (.block 1 (.s [.a 27 1 1,.l 28 27,.m 29 3,.h 30 10 28 29,.r 31 10 30,.c 32 67 [.t 31],.o 33 (.un .not (.t 32))] (.j 33 [.o 2 (.mov .F)]))) (.ops [.m 25 3,.v 26 .add 25 .w,.m 3 26])))))) (.r [.o 2 (.mov .T)]))))⟩
def fn21 : AFunc := ⟨66, 1, [(2, none)],(.s [.p 1 0,.o 2 (.mov .z)] (.seq (.s [.a 8 0 1,.l 9 8,.c 10 68 [.t 9],.o 11 (.un .not (.t 10))] (.j 11 [.o 2 (.mov (.n 8))])) (.seq (.s [.a 12 1 1,.l 13 12,.n 14 13,.v 15 .eql 14 .z] (.j 15 [.o 2 (.mov (.n 12))])) (.seq (.s [.a 16 1 1,.l 17 16,.n 18 17,.v 19 .gtr 18 (.n 64)] (.j 19 [.o 2 (.mov (.n 5))])) (.seq (.s [.o 3 (.mov .z)] (.block 0 (.loop (.seq (.s [.m 20 3,.a 21 1 1,.l 22 21,.n 23 22,.u 24 .lss 20 23] (.i 24 .skip (.exit 0))) (.seq (.block 1 (.s [.a 27 1 1,.l 28 27,.m 29 3,.h 30 10 28 29,.r 31 10 30,.c 32 69 [.t 31],.m 4 32] (.s [.m 33 4,.v 34 .neq 33 .z] (.j 34 [.m 35 4,.m 2 35])))) (.ops [.m 25 3,.v 26 .add 25 .w,.m 3 26])))))) (.s [.r 37 2 1,.c 38 70 [.t 37],.m 36 38,.e 39 36 0,.e 40 36 1,.m 5 39,.m 6 40] (.seq (.s [.o 7 (.mov .z)] (.block 2 (.loop (.seq (.s [.m 41 7,.a 42 1 1,.l 43 42,.n 44 43,.u 45 .lss 41 44] (.i 45 .skip (.exit 2))) (.seq (.block 3 (.s [.a 48 1 1,.l 49 48,.m 50 7,.h 51 10 49 50,.a 52 8 51,.l 53 52,.o 54 (.un .not (.t 53)),.m 55 54,.g 56 55 true (.fadr 1 (.t 1)),.g 57 55 true (.load none (.t 56)),.t 58 55 true 7,.g 59 55 true (.iadr 10 (.t 57) (.t 58)),.g 60 55 true (.fadr 9 (.t 59)),.g 61 55 true (.load none (.t 60)),.g 62 55 true (.len .sl (.t 61)),.t 63 55 true 5,.g 64 55 true (.bin .neq (.t 62) (.t 63)),.d 65 55 64] (.j 65 [.o 2 (.mov (.n 2))]))) (.ops [.m 46 7,.v 47 .add 46 .w,.m 7 47])))))) (.r [.o 2 (.mov .z)]))))))))⟩
def fn22 : AFunc := ⟨6, 1, [(2, none)],(.s [.o 2 (.mov .z)] (.r [.m 3 0,.b 4 .mul (.c (.flt .f32 1098907648)) (.t 3),.o 5 (.conv (.f2i .i64) (.t 4)),.m 2 5]))⟩
def fn23 : AFunc := ⟨15, 1, [(2, none)],(.s [.o 2 (.mov .z)] (.seq (.s [.m 5 0,.n 6 5,.o 7 (.mov .z)] (.block 0 (.loop (.s [.u 8 .lss 7 6] (.seq (.i 8 .skip (.exit 0)) (.seq (.block 1 (.s [.h 9 1 5 7,.l 10 9,.m 4 10] (.s [.m 11 4,.v 12 .neq 11 .z] (.j 12 [.m 13 4,.m 2 13])))) (.ops [.v 14 .add 7 .w,.m 7 14]))))))) (.r [.o 2 (.mov .z)])))⟩
def fn24 : AFunc := ⟨50, 1, [(2, some none)],(.s [.p 1 0,.o 2 (.box .z)] (.seq (.s [.y 9 (.fadr 0 (.t 1)),.j 10 9,.y 11 (.call (.f 72) [.t 10]),.y 12 (.un .not (.t 11)),.y 13 (.call (.f 71) [.t 12,.n 8]),.y 14 (.fadr 1 (.t 1)),.j 15 14,.y 16 (.len .sl (.t 15)),.y 17 (.bin .eql (.t 16) .z),.y 18 (.call (.f 71) [.t 17,.n 12]),.y 19 (.fadr 1 (.t 1)),.j 20 19,.y 21 (.len .sl (.t 20)),.y 22 (.bin .gtr (.t 21) (.n 64)),.c 23 71 [.t 22,.n 5],.o 24 (.bslice 1 3 [.int .i64 0] [(0, .t 13), (1, .t 18), (2, .t 23)]),.c 25 23 [.t 24],.m 3 25] (.s [.m 26 3,.v 27 .neq 26 .z] (.j 27 [.m 28 3,.s 1 2 28]))) (.seq (.s [.a 29 1 1,.l 30 29,.c 31 73 [.t 30, (.f 74)],.c 32 23 [.t 31],.m 4 32] (.s [.m 33 4,.v 34 .neq 33 .z] (.j 34 [.m 35 4,.s 1 2 35]))) (.s [.r 37 2 1,.c 38 38 [.t 37],.m 36 38,.e 39 36 0,.e 40 36 1,.o 5 (.box .z),.s 1 5 39,.m 6 40] (.seq (.s [.r 41 2 1,.c 42 35 [.t 41]] (.block 0 (.rangeF (.t 42) [43, 44] (.ops [.o 8 (.box (.c (.agg [.int .i64 0, .int .i64 0, .int .i64 0, .int .i64 0, .int .i64 0, .int .i64 0, .int .i64 0, .int .i64 0, .bool false, .nilSlice]))),.s 10 8 44]) (.block 1 (.s [.a 45 9 8,.l 46 45,.n 47 46,.l 48 5,.u 49 .neq 47 48] (.j 49 [.x (.store 1 (.t 2) (.n 2))])))))) (.r [.x (.store 1 (.t 2) .z)]))))))⟩
def fn25 : AFunc := ⟨16, 3, [(6, none)],(.s [.o 6 (.mov .z)] (.r [.m 7 0,.m 8 1,.u 9 .lss 7 8,.m 10 9,.t 11 10 false 0,.t 12 10 false 2,.g 13 10 false (.bin .gtr (.t 11) (.t 12)),.f 14 10 13,.c 15 71 [.t 14,.n 3],.m 6 15]))⟩
def fn26 : AFunc := ⟨12, 2, [(4, some (some 2))],(.s [.p 2 0,.o 4 (.box (.c (.agg [.str [], .nilSlice])))] (.r [.y 5 (.fadr 0 (.t 2)),.j 6 5,.y 7 (.fadr 1 (.t 2)),.j 8 7,.w 9 1,.y 10 (.call (.f 75) [.t 8,.t 9]),.o 11 (.build [.str [], .nilSlice] [(0, 1, .t 6), (1, 1, .t 10)]),.s 2 4 11]))⟩
def fn27 : AFunc := ⟨39, 1, [(3, some (some 10))],(.s [.p 2 0,.o 3 (.box (.c (.agg [.int .i64 0, .int .i64 0, .int .i64 0, .int .i64 0, .int .i64 0, .int .i64 0, .int .i64 0, .int .i64 0, .bool false, .nilSlice])))] (.s [.a 7 9 2,.l 8 7,.n 9 8,.o 10 (.mksl 1 4 [.flt .f32 0] (.t 9) (.t 9)),.m 4 10] (.seq (.s [.m 11 4,.n 12 11,.o 13 (.mov .z)] (.block 0 (.loop (.s [.u 14 .lss 13 12] (.seq (.i 14 .skip (.exit 0)) (.seq (.block 1 (.s [.m 15 13,.m 5 15] (.s [.m 16 5,.l 17 1,.u 18 .sub 16 17,.m 6 18] (.s [.m 19 6,.v 20 .geq 19 .z,.m 21 20,.t 22 21 true 6,.t 23 21 true 4,.g 24 21 true (.len .sl (.t 23)),.g 25 21 true (.bin .lss (.t 22) (.t 24)),.d 26 21 25] (.i 26 (.ops [.m 27 4,.m 28 5,.a 29 9 2,.l 30 29,.m 31 6,.h 32 1 30 31,.l 33 32,.h 34 1 27 28,.s 1 34 33]) .skip))))) (.ops [.v 35 .add 13 .w,.m 13 35]))))))) (.r [.r 36 10 2,.m 37 4,.c 38 28 [.t 36,.t 37],.s 10 3 38]))))⟩
def fn28 : AFunc := ⟨13, 2, [(4, some (some 10))],(.s [.p 2 0,.o 4 (.box (.c (.agg [.int .i64 0, .int .i64 0, .int .i64 0, .int .i64 0, .int .i64 0, .int .i64 0, .int .i64 0, .int .i64 0, .bool false, .nilSlice])))] (.seq (.s [.a 5 8 2,.l 6 5] (.i 6 (.ops [.o 1 (.mov (.c .nilSlice))]) .skip)) (.r [.a 7 0 2,.r 8 8 7,.a 9 8 2,.l 10 9,.m 11 1,.o 12 (.build [.int .i64 0, .int .i64 0, .int .i64 0, .int .i64 0, .int .i64 0, .int .i64 0, .int .i64 0, .int .i64 0, .bool false, .nilSlice] [(0, 8, .t 8), (8, 1, .t 10), (9, 1, .t 11)]),.s 10 4 12])))⟩
def fn29 : AFunc := ⟨11, 1, [(4, some (some 10))],(.s [.p 3 0,.o 4 (.box (.c (.agg [.int .i64 0, .int .i64 0, .int .i64 0, .int .i64 0, .int .i64 0, .int .i64 0, .int .i64 0, .int .i64 0, .bool false, .nilSlice])))] (.r [.y 5 (.load (some 10) (.t 3)),.y 6 (.fadr 9 (.t 3)),.j 7 6,.y 8 (.mkfn (.func 31) [] [.t 1,.t 2]),.y 9 (.call (.f 30) [.t 7,.t 8]),.c 10 28 [.t 5,.t 9],.s 10 4 10]))⟩
def fn30 : AFunc := ⟨22, 2, [(4, none)],(.s [.o 4 (.mov (.c .nilSlice))] (.s [.o 5 (.mov (.c .nilSlice))] (.seq (.s [.m 8 0,.n 9 8,.o 10 (.mov .z)] (.block 0 (.loop (.s [.u 11 .lss 10 9] (.seq (.i 11 .skip (.exit 0)) (.seq (.block 1 (.s [.h 12 1 8 10,.l 13 12,.m 7 13] (.ops [.m 14 5,.m 15 1,.m 16 7,.o 17 (.call (.t 15) [.t 16]),.o 18 (.bslice 1 1 [.flt .f32 0] [(0, .t 17)]),.o 19 (.app 1 4 (.t 14) (.t 18)),.m 5 19]))) (.ops [.v 20 .add 10 .w,.m 10 20]))))))) (.r [.m 21 5,.m 4 21]))))⟩
def fn31 : AFunc := ⟨12, 1, [(4, none)],(.s [.o 4 (.mov (.c (.flt .f32 0)))] (.r [.w 5 0,.y 6 (.call (.f 34) [.t 5]),.j 7 1,.y 8 (.bin .mul (.t 6) (.t 7)),.j 9 2,.c 10 33 [.t 8,.t 9],.c 11 32 [.t 10],.m 4 11]))⟩
def fn32 : AFunc := ⟨6, 1, [(2, none)],(.s [.o 2 (.mov (.c (.flt .f32 0)))] (.r [.m 3 0,.o 4 (.conv (.i2f .f32) (.t 3)),.v 5 .quo 4 (.c (.flt .f32 1098907648)),.m 2 5]))⟩
def fn33 : AFunc := ⟨23, 2, [(4, none)],(.s [.o 4 (.mov .z)] (.s [.m 6 0,.b 7 .mul (.n 2) (.t 6),.m 8 1,.u 9 .add 7 8,.m 10 1,.b 11 .mul (.n 2) (.t 10),.m 0 9,.m 1 11] (.s [.m 12 0,.m 13 1,.u 14 .quo 12 13,.m 5 14] (.seq (.s [.m 15 5,.m 16 1,.u 17 .mul 15 16,.m 18 0,.u 19 .gtr 17 18] (.i 19 (.ops [.m 20 5,.v 21 .sub 20 .w,.m 5 21]) .skip)) (.r [.m 22 5,.m 4 22])))))⟩
def fn34 : AFunc := ⟨6, 1, [(2, none)],(.s [.o 2 (.mov .z)] (.r [.m 3 0,.v 4 .mul 3 (.c (.flt .f32 1098907648)),.o 5 (.conv (.f2i .i64) (.t 4)),.m 2 5]))⟩
def fn35 : AFunc := ⟨4, 1, [(2, none)],(.s [.p 1 0,.o 2 (.mov (.c .nilFunc))] (.r [.o 3 (.mkfn (.func 76) [] [.t 1]),.m 2 3]))⟩
def fn36 : AFunc := ⟨6, 1, [(2, none)],(.s [.o 2 (.mov .z)] (.r [.m 3 0,.c 4 77 [.t 3, (.f 78)],.c 5 23 [.t 4],.m 2 5]))⟩
def fn37 : AFunc := ⟨19, 2, [(4, none)],(.s [.p 2 0,.p 3 1,.o 4 (.mov .z)] (.r [.y 5 (.load (some 2) (.t 2)),.y 6 (.call (.f 24) [.t 5]),.y 7 (.load (some 2) (.t 3)),.y 8 (.call (.f 24) [.t 7]),.y 9 (.fadr 1 (.t 2)),.j 10 9,.y 11 (.len .sl (.t 10)),.y 12 (.fadr 1 (.t 3)),.j 13 12,.y 14 (.len .sl (.t 13)),.y 15 (.bin .neq (.t 11) (.t 14)),.c 16 71 [.t 15,.n 2],.o 17 (.bslice 1 3 [.int .i64 0] [(0, .t 6), (1, .t 8), (2, .t 16)]),.c 18 23 [.t 17],.m 4 18]))⟩
def fn38 : AFunc := ⟨13, 1, [(2, some none), (3, some none)],(.s [.p 1 0,.o 2 (.box .z),.o 3 (.box .F)] (.seq (.s [.r 6 2 1,.c 7 35 [.t 6]] (.block 0 (.rangeF (.t 7) [8, 9] (.ops [.o 5 (.box (.c (.agg [.int .i64 0, .int .i64 0, .int .i64 0, .int .i64 0, .int .i64 0, .int .i64 0, .int .i64 0, .int .i64 0, .bool false, .nilSlice]))),.s 10 5 9]) (.block 1 (.r [.a 10 9 5,.l 11 10,.n 12 11,.s 1 2 12,.x (.store 1 (.t 3) .T)]))))) (.r [.x (.store 1 (.t 2) .z),.x (.store 1 (.t 3) .F)])))⟩
def fn39 : AFunc := ⟨24, 3, [(6, some (some 10))],(.s [.p 3 0,.p 4 1,.o 6 (.box (.c (.agg [.int .i64 0, .int .i64 0, .int .i64 0, .int .i64 0, .int .i64 0, .int .i64 0, .int .i64 0, .int .i64 0, .bool false, .nilSlice])))] (.s [.a 8 0 3,.r 9 8 8,.a 10 8 3,.l 11 10,.m 12 11,.g 13 12 false (.fadr 8 (.t 4)),.g 14 12 false (.load none (.t 13)),.f 15 12 14,.o 16 (.build [.int .i64 0, .int .i64 0, .int .i64 0, .int .i64 0, .int .i64 0, .int .i64 0, .int .i64 0, .int .i64 0, .bool false, .nilSlice] [(0, 8, .t 9), (8, 1, .t 15)]),.o 7 (.box (.c (.agg [.int .i64 0, .int .i64 0, .int .i64 0, .int .i64 0, .int .i64 0, .int .i64 0, .int .i64 0, .int .i64 0, .bool false, .nilSlice]))),.s 10 7 16] (.seq (.s [.a 17 8 7,.l 18 17,.o 19 (.un .not (.t 18))] (.i 19 (.ops [.m 20 2,.o 21 (.call (.t 20) []),.a 22 9 7,.s 1 22 21]) .skip)) (.r [.r 23 10 7,.s 10 6 23]))))⟩
def fn40 : AFunc := ⟨30, 0, [(2, none)],(.s [.o 2 (.mov (.c .nilSlice))] (.s [.a 6 9 0,.l 7 6,.n 8 7,.o 9 (.mksl 1 4 [.flt .f32 0] (.t 8) (.t 8)),.m 3 9] (.seq (.s [.a 10 9 0,.l 11 10,.n 12 11,.o 13 (.mov .z)] (.block 0 (.loop (.s [.u 14 .lss 13 12] (.seq (.i 14 .skip (.exit 0)) (.seq (.block 1 (.s [.m 15 13,.h 16 1 11 13,.l 17 16,.m 4 15,.m 5 17] (.ops [.m 18 3,.m 19 4,.m 20 5,.a 21 9 1,.l 22 21,.m 23 4,.h 24 1 22 23,.l 25 24,.u 26 .add 20 25,.h 27 1 18 19,.s 1 27 26]))) (.ops [.v 28 .add 13 .w,.m 13 28]))))))) (.r [.m 29 3,.m 2 29]))))⟩
def fn41 : AFunc := ⟨11, 2, [(4, none)],(.s [.o 4 (.mov .z)] (.r [.m 5 0,.c 6 79 [.t 5],.m 7 1,.c 8 80 [.t 7, .w,.n 64],.o 9 (.bslice 1 2 [.int .i64 0] [(0, .t 6), (1, .t 8)]),.c 10 56 [.t 9],.m 4 10]))⟩
def fn42 : AFunc := ⟨22, 2, [(4, none)],(.s [.o 4 (.mov (.c .nilSlice))] (.s [.o 5 (.mov (.c .nilSlice))] (.seq (.s [.m 8 0,.n 9 8,.o 10 (.mov .z)] (.block 0 (.loop (.s [.u 11 .lss 10 9] (.seq (.i 11 .skip (.exit 0)) (.seq (.block 1 (.s [.h 12 1 8 10,.l 13 12,.m 7 13] (.ops [.m 14 5,.m 15 1,.m 16 7,.o 17 (.call (.t 15) [.t 16]),.o 18 (.bslice 1 1 [.int .i64 0] [(0, .t 17)]),.o 19 (.app 1 8 (.t 14) (.t 18)),.m 5 19]))) (.ops [.v 20 .add 10 .w,.m 10 20]))))))) (.r [.m 21 5,.m 4 21]))))⟩
def fn43 : AFunc := ⟨6, 1, [(2, none)],(.s [.o 2 (.mov .z)] (.r [.m 3 0,.b 4 .mul (.c (.flt .f32 1098907648)) (.t 3),.o 5 (.conv (.f2i .i64) (.t 4)),.m 2 5]))⟩
def fn44 : AFunc := ⟨17, 2, [(4, none)],(.s [.o 4 (.mov .z)] (.seq (.s [.m 5 1,.v 6 .lss 5 .z,.m 7 6,.t 8 7 false 1,.t 9 7 false 0,.g 10 7 false (.len .sl (.t 9)),.g 11 7 false (.bin .geq (.t 8) (.t 10)),.f 12 7 11] (.j 12 [.o 4 (.mov .z)])) (.r [.m 13 0,.m 14 1,.h 15 1 13 14,.l 16 15,.m 4 16])))⟩
def fn45 : AFunc := ⟨8, 1, [(2, none), (3, none)],(.s [.o 2 (.mov (.c .nilSlice)),.o 3 (.mov .z)] (.seq (.s [.m 4 0,.c 5 63 [.t 4, (.f 81)]] (.j 5 [.o 2 (.mov (.c .nilSlice)),.o 3 (.mov (.n 4))])) (.r [.m 6 0,.c 7 82 [.t 6, (.f 83)],.m 2 7,.o 3 (.mov .z)])))⟩
def fn46 : AFunc := ⟨9, 1, [(2, none)],(.s [.o 2 (.mov .F)] (.r [.m 3 0,.v 4 .geq 3 (.n (-16384)),.m 5 4,.t 6 5 true 0,.g 7 5 true (.bin .leq (.t 6) (.n 16384)),.d 8 5 7,.m 2 8]))⟩
def fn47 : AFunc := ⟨17, 2, [(4, none)],(.s [.o 4 (.mov .z)] (.r [.m 5 0,.c 6 79 [.t 5],.m 7 1,.c 8 79 [.t 7],.m 9 0,.n 10 9,.m 11 1,.n 12 11,.u 13 .neq 10 12,.c 14 84 [.t 13,.n 2],.o 15 (.bslice 1 3 [.int .i64 0] [(0, .t 6), (1, .t 8), (2, .t 14)]),.c 16 56 [.t 15],.m 4 16]))⟩
def fn48 : AFunc := ⟨6, 1, [(2, none)],(.s [.o 2 (.mov .z)] (.r [.m 3 0,.m 4 0,.c 5 85 [.t 3,.t 4],.m 2 5]))⟩
def fn49 : AFunc := ⟨22, 2, [(4, none)],(.s [.o 4 (.mov (.c .nilSlice))] (.s [.o 5 (.mov (.c .nilSlice))] (.seq (.s [.m 8 0,.n 9 8,.o 10 (.mov .z)] (.block 0 (.loop (.s [.u 11 .lss 10 9] (.seq (.i 11 .skip (.exit 0)) (.seq (.block 1 (.s [.h 12 2 8 10,.r 13 2 12,.o 7 (.box (.c (.agg [.int .i64 0, .int .i64 0]))),.s 2 7 13] (.ops [.m 14 5,.m 15 1,.r 16 2 7,.o 17 (.call (.t 15) [.t 16]),.o 18 (.bslice 1 1 [.int .i64 0] [(0, .t 17)]),.o 19 (.app 1 8 (.t 14) (.t 18)),.m 5 19]))) (.ops [.v 20 .add 10 .w,.m 10 20]))))))) (.r [.m 21 5,.m 4 21]))))⟩
def fn50 : AFunc := ⟨5, 1, [(2, none)],(.s [.o 2 (.mov (.c .nilSlice))] (.r [.m 3 0,.c 4 86 [(.c .nilSlice),.t 3],.m 2 4]))⟩
def fn51 : AFunc := ⟨6, 2, [(4, none)],(.s [.p 2 0,.p 3 1,.o 4 (.mov (.c .nilFunc))] (.r [.o 5 (.mkfn (.func 87) [] [.t 2,.t 3]),.m 4 5]))⟩
def fn52 : AFunc := ⟨8, 1, [(2, none)],(.s [.p 1 0,.o 2 (.mov .z)] (.r [.o 3 (.iada 2 1 (.t 1) .z),.l 4 3,.o 5 (.iada 2 1 (.t 1) .w),.l 6 5,.u 7 .sub 4 6,.m 2 7]))⟩
def fn53 : AFunc := ⟨16, 2, [(4, some (some 2))],(.s [.o 4 (.box (.c (.agg [.int .i64 0, .int .i64 0])))] (.s [.m 6 0,.m 7 1,.c 8 88 [.t 6,.t 7],.m 5 8] (.r [.w 9 0,.w 10 5,.y 11 (.bin .quo (.t 9) (.t 10)),.w 12 1,.w 13 5,.y 14 (.bin .quo (.t 12) (.t 13)),.o 15 (.build [.int .i64 0, .int .i64 0] [(0, 1, .t 11), (1, 1, .t 14)]),.s 2 4 15])))⟩
def fn54 : AFunc := ⟨8, 1, [(2, none)],(.s [.o 2 (.mov .z)] (.seq (.s [.m 3 0,.n 4 3,.v 5 .gtr 4 (.n 1024)] (.j 5 [.o 2 (.mov (.n 5))])) (.r [.m 6 0,.c 7 36 [.t 6],.m 2 7])))⟩
def fn55 : AFunc := ⟨22, 2, [(4, none)],(.s [.o 4 (.mov (.c .nilSlice))] (.s [.o 5 (.mov (.c .nilSlice))] (.seq (.s [.m 8 0,.n 9 8,.o 10 (.mov .z)] (.block 0 (.loop (.s [.u 11 .lss 10 9] (.seq (.i 11 .skip (.exit 0)) (.seq (.block 1 (.s [.h 12 1 8 10,.l 13 12,.m 7 13] (.ops [.m 14 5,.m 15 1,.m 16 7,.o 17 (.call (.t 15) [.t 16]),.o 18 (.bslice 1 1 [.int .i64 0] [(0, .t 17)]),.o 19 (.app 1 8 (.t 14) (.t 18)),.m 5 19]))) (.ops [.v 20 .add 10 .w,.m 10 20]))))))) (.r [.m 21 5,.m 4 21]))))⟩
def fn56 : AFunc := ⟨15, 1, [(2, none)],(.s [.o 2 (.mov .z)] (.seq (.s [.m 5 0,.n 6 5,.o 7 (.mov .z)] (.block 0 (.loop (.s [.u 8 .lss 7 6] (.seq (.i 8 .skip (.exit 0)) (.seq (.block 1 (.s [.h 9 1 5 7,.l 10 9,.m 4 10] (.s [.m 11 4,.v 12 .neq 11 .z] (.j 12 [.m 13 4,.m 2 13])))) (.ops [.v 14 .add 7 .w,.m 7 14]))))))) (.r [.o 2 (.mov .z)])))⟩
def fn57 : AFunc := ⟨27, 1, [(2, none)],(.s [.o 2 (.mov .z)] (.seq (.s [.m 4 0,.n 5 4,.v 6 .eql 5 .z,.c 7 84 [.t 6,.n 12],.m 8 0,.n 9 8,.v 10 .gtr 9 (.n 8),.c 11 84 [.t 10,.n 5],.o 12 (.bslice 1 2 [.int .i64 0] [(0, .t 7), (1, .t 11)]),.c 13 56 [.t 12],.m 3 13] (.s [.m 14 3,.v 15 .neq 14 .z] (.j 15 [.m 16 3,.m 2 16]))) (.r [.w 17 0,.y 18 (.call (.f 89) [.t 17, (.f 90)]),.y 19 (.call (.f 56) [.t 18]),.w 20 0,.y 21 (.iadr 1 (.t 20) .z),.j 22 21,.y 23 (.bin .eql (.t 22) .z),.c 24 84 [.t 23,.n 6],.o 25 (.bslice 1 2 [.int .i64 0] [(0, .t 19), (1, .t 24)]),.c 26 56 [.t 25],.m 2 26])))⟩
def fn58 : AFunc := ⟨44, 2, [(4, some (some 2)), (5, none)],(.s [.p 2 0,.o 4 (.box (.c (.agg [.str [], .nilSlice]))),.o 5 (.mov .z)] (.s [.a 11 0 2,.l 12 11,.o 13 (.build [.str [], .nilSlice] [(0, 1, .t 12)]),.o 6 (.box (.c (.agg [.str [], .nilSlice]))),.s 2 6 13] (.seq (.s [.a 14 1 2,.l 15 14,.n 16 15,.o 17 (.mov .z)] (.block 0 (.loop (.s [.u 18 .lss 17 16] (.seq (.i 18 .skip (.exit 0)) (.seq (.block 1 (.s [.h 19 10 15 17,.r 20 10 19,.o 8 (.box (.c (.agg [.int .i64 0, .int .i64 0, .int .i64 0, .int .i64 0, .int .i64 0, .int .i64 0, .int .i64 0, .int .i64 0, .bool false, .nilSlice]))),.s 10 8 20] (.seq (.s [.a 21 8 8,.l 22 21,.o 23 (.un .not (.t 22))] (.i 23 (.s [.m 25 1,.r 26 10 8,.o 27 (.call (.t 25) [.t 26]),.m 24 27,.e 28 24 0,.e 29 24 1,.m 9 28,.m 10 29] (.seq (.s [.m 30 10,.v 31 .neq 30 .z] (.j 31 [.o 32 (.build [.str [], .nilSlice] []),.m 33 10,.s 2 4 32,.m 5 33])) (.ops [.m 34 9,.a 35 9 8,.s 1 35 34]))) .skip)) (.ops [.a 36 1 6,.l 37 36,.r 38 10 8,.o 39 (.bslice 10 1 [.int .i64 0, .int .i64 0, .int .i64 0, .int .i64 0, .int .i64 0, .int .i64 0, .int .i64 0, .int .i64 0, .bool false, .nilSlice] [(0, .t 38)]),.o 40 (.app 10 96 (.t 37) (.t 39)),.a 41 1 6,.s 1 41 40])))) (.ops [.v 42 .add 17 .w,.m 17 42]))))))) (.r [.r 43 2 6,.s 2 4 43,.o 5 (.mov .z)]))))⟩
def fn59 : AFunc := ⟨13, 1, [(3, none), (4, none)],(.s [.p 2 0,.o 3 (.mov (.c .nilSlice)),.o 4 (.mov .z)] (.r [.j 5 1,.y 6 (.fadr 9 (.t 2)),.j 7 6,.y 8 (.call (.f 42) [.t 7, (.f 43)]),.c 9 60 [.t 5,.t 8,.n (-1)],.c 10 45 [.t 9],.y 11 (.ext (.t 10) 0),.y 12 (.ext (.t 10) 1),.m 3 11,.m 4 12]))⟩
def fn60 : AFunc := ⟨44, 3, [(6, none)],(.s [.o 6 (.mov (.c .nilSlice))] (.s [.m 11 1,.n 12 11,.o 13 (.mksl 1 8 [.int .i64 0] (.t 12) (.t 12)),.m 7 13] (.seq (.s [.m 14 7,.n 15 14,.o 16 (.mov .z)] (.block 0 (.loop (.s [.u 17 .lss 16 15] (.seq (.i 17 .skip (.exit 0)) (.seq (.block 1 (.s [.m 18 16,.m 8 18] (.s [.m 19 0,.n 20 19,.o 21 (.mov .z)] (.block 2 (.loop (.s [.u 22 .lss 21 20] (.seq (.i 22 .skip (.exit 2)) (.seq (.block 3 (.s [.m 23 21,.h 24 1 19 21,.l 25 24,.m 9 23,.m 10 25] (.ops [.w 26 7,.w 27 8,.y 28 (.iadr 1 (.t 26) (.t 27)),.j 29 28,.w 30 10,.w 31 1,.w 32 8,.w 33 2,.w 34 9,.y 35 (.bin .mul (.t 33) (.t 34)),.y 36 (.bin .add (.t 32) (.t 35)),.y 37 (.call (.f 44) [.t 31,.t 36]),.y 38 (.bin .mul (.t 30) (.t 37)),.u 39 .add 29 38,.h 40 1 26 27,.s 1 40 39]))) (.ops [.v 41 .add 21 .w,.m 21 41]))))))))) (.ops [.v 42 .add 16 .w,.m 16 42]))))))) (.r [.m 43 7,.m 6 43]))))⟩
def fn61 : AFunc := ⟨24, 2, [(4, none)],(.s [.p 2 0,.p 3 1,.o 4 (.mov .F)] (.r [.a 5 0 2,.r 6 8 5,.a 7 0 3,.r 8 8 7,.o 9 (.eqv false (.agg [.i, .i, .i, .i, .i, .i, .i, .i]) (.t 6) (.t 8)),.m 10 9,.g 11 10 true (.fadr 8 (.t 2)),.g 12 10 true (.load none (.t 11)),.g 13 10 true (.fadr 8 (.t 3)),.g 14 10 true (.load none (.t 13)),.g 15 10 true (.eqv false (.one .b) (.t 12) (.t 14)),.d 16 10 15,.m 17 16,.g 18 17 true (.fadr 9 (.t 2)),.g 19 17 true (.load none (.t 18)),.g 20 17 true (.fadr 9 (.t 3)),.g 21 17 true (.load none (.t 20)),.g 22 17 true (.call (.f 13) [.t 19,.t 21]),.d 23 17 22,.m 4 23]))⟩
def fn62 : AFunc := ⟨20, 1, [(2, none)],(.s [.o 2 (.mov .z)] (.seq (.s [.m 4 0,.n 5 4,.v 6 .eql 5 .z,.c 7 71 [.t 6,.n 12],.m 8 0,.n 9 8,.v 10 .gtr 9 (.n 16),.c 11 71 [.t 10,.n 5],.o 12 (.bslice 1 2 [.int .i64 0] [(0, .t 7), (1, .t 11)]),.c 13 23 [.t 12],.m 3 13] (.s [.m 14 3,.v 15 .neq 14 .z] (.j 15 [.m 16 3,.m 2 16]))) (.r [.m 17 0,.c 18 91 [.t 17, (.f 92)],.c 19 23 [.t 18],.m 2 19])))⟩
def fn63 : AFunc := ⟨9, 2, [(4, none)],(.s [.o 4 (.mov .F)] (.r [.m 5 0,.m 6 1,.c 7 93 [.t 5,.t 6],.v 8 .geq 7 .z,.m 4 8]))⟩
def fn64 : AFunc := ⟨6, 1, [(2, none)],(.s [.o 2 (.mov .F)] (.r [.m 3 0,.c 4 65 [.t 3],.o 5 (.un .not (.t 4)),.m 2 5]))⟩
def fn65 : AFunc := ⟨9, 1, [(2, none)],(.s [.o 2 (.mov .F)] (.r [.m 3 0,.b 4 .leq (.n (-16384)) (.t 3),.m 5 4,.t 6 5 true 0,.g 7 5 true (.bin .leq (.t 6) (.n 16384)),.d 8 5 7,.m 2 8]))⟩
def fn66 : AFunc := ⟨22, 2, [(4, none)],(.s [.o 4 (.mov (.c .nilSlice))] (.s [.o 5 (.mov (.c .nilSlice))] (.seq (.s [.m 8 0,.n 9 8,.o 10 (.mov .z)] (.block 0 (.loop (.s [.u 11 .lss 10 9] (.seq (.i 11 .skip (.exit 0)) (.seq (.block 1 (.s [.h 12 1 8 10,.l 13 12,.m 7 13] (.ops [.m 14 5,.m 15 1,.m 16 7,.o 17 (.call (.t 15) [.t 16]),.o 18 (.bslice 1 1 [.flt .f32 0] [(0, .t 17)]),.o 19 (.app 1 4 (.t 14) (.t 18)),.m 5 19]))) (.ops [.v 20 .add 10 .w,.m 10 20]))))))) (.r [.m 21 5,.m 4 21]))))⟩
def fn67 : AFunc := ⟨6, 1, [(2, none)],(.s [.p 1 0,.o 2 (.mov .F)] (.r [.a 3 9 1,.l 4 3,.c 5 94 [.t 4],.m 2 5]))⟩
def fn68 : AFunc := ⟨42, 1, [(2, none)],(.s [.o 2 (.mov .F)] (.seq (.s [.m 4 0,.o 5 (.len .st (.t 4)),.v 6 .eql 5 .z,.m 7 6,.t 8 7 false 0,.g 9 7 false (.len .st (.t 8)),.g 10 7 false (.bin .gtr (.t 9) (.n 24)),.f 11 7 10,.m 12 11,.t 13 12 false 0,.g 14 12 false (.ixs (.t 13) .z),.g 15 12 false (.call (.f 95) [.t 14]),.g 16 12 false (.un .not (.t 15)),.f 17 12 16] (.j 17 [.o 2 (.mov .F)])) (.seq (.s [.o 3 (.mov .w)] (.block 0 (.loop (.seq (.s [.m 18 3,.m 19 0,.o 20 (.len .st (.t 19)),.u 21 .lss 18 20] (.i 21 .skip (.exit 0))) (.seq (.block 1 (.s [.m 24 0,.m 25 3,.o 26 (.ixs (.t 24) (.t 25)),.c 27 95 [.t 26],.o 28 (.un .not (.t 27)),.m 29 28,.t 30 29 true 0,.t 31 29 true 3,.g 32 29 true (.ixs (.t 30) (.t 31)),.g 33 29 true (.call (.f 96) [.t 32]),.g 34 29 true (.un .not (.t 33)),.d 35 29 34,.m 36 35,.t 37 36 true 0,.t 38 36 true 3,.g 39 36 true (.ixs (.t 37) (.t 38)),.g 40 36 true (.bin .neq (.t 39) (.c (.int .u8 95))),.d 41 36 40] (.j 41 [.o 2 (.mov .F)]))) (.ops [.m 22 3,.v 23 .add 22 .w,.m 3 23])))))) (.r [.o 2 (.mov .T)]))))⟩
def fn69 : AFunc := ⟨21, 1, [(2, none)],(.s [.p 1 0,.o 2 (.mov .z)] (.seq (.s [.a 4 0 1,.r 5 8 4,.c 6 97 [.t 5],.m 3 6] (.s [.m 7 3,.v 8 .neq 7 .z] (.j 8 [.m 9 3,.m 2 9]))) (.seq (.s [.a 10 8 1,.l 11 10,.m 12 11,.g 13 12 true (.fadr 9 (.t 1)),.g 14 12 true (.load none (.t 13)),.g 15 12 true (.len .sl (.t 14)),.g 16 12 true (.bin .gtr (.t 15) .z),.d 17 12 16] (.j 17 [.o 2 (.mov (.n 24))])) (.r [.a 18 9 1,.l 19 18,.c 20 98 [.t 19],.m 2 20]))))⟩
def fn70 : AFunc := ⟨26, 1, [(2, none), (3, none)],(.s [.p 1 0,.o 2 (.mov .z),.o 3 (.mov .F)] (.seq (.s [.o 4 (.mov .z)] (.block 0 (.loop (.seq (.s [.m 5 4,.a 6 1 1,.l 7 6,.n 8 7,.u 9 .lss 5 8] (.i 9 .skip (.exit 0))) (.seq (.block 1 (.s [.a 12 1 1,.l 13 12,.m 14 4,.h 15 10 13 14,.a 16 8 15,.l 17 16,.o 18 (.un .not (.t 17))] (.j 18 [.a 19 1 1,.l 20 19,.m 21 4,.h 22 10 20 21,.a 23 9 22,.l 24 23,.n 25 24,.m 2 25,.o 3 (.mov .T)]))) (.ops [.m 10 4,.v 11 .add 10 .w,.m 4 11])))))) (.r [.o 2 (.mov .z),.o 3 (.mov .F)])))⟩
def fn71 : AFunc := ⟨7, 2, [(4, none)],(.s [.o 4 (.mov .z)] (.seq (.s [.m 5 0] (.j 5 [.m 6 1,.m 4 6])) (.r [.o 4 (.mov .z)])))⟩
def fn72 : AFunc := ⟨54, 1, [(2, none)],(.s [.o 2 (.mov .F)] (.seq (.s [.m 7 0,.o 8 (.rstr (.t 7))] (.block 0 (.loop (.s [.o 9 (.nexts (.t 8)),.e 10 9 0] (.seq (.i 10 .skip (.exit 0)) (.block 1 (.s [.e 11 9 1,.e 12 9 2,.m 3 11,.m 4 12] (.s [.m 13 4,.b 14 .leq (.c (.int .i32 65)) (.t 13),.m 15 14,.t 16 15 true 4,.g 17 15 true (.bin .leq (.t 16) (.c (.int .i32 90))),.d 18 15 17,.m 19 18,.t 20 19 false 4,.g 21 19 false (.bin .leq (.c (.int .i32 97)) (.t 20)),.t 22 19 false 21,.t 23 22 true 4,.g 24 22 true (.bin .leq (.t 23) (.c (.int .i32 122))),.g 25 19 false (.pick (.t 22) (.t 24) .F),.f 26 19 25,.m 5 26] (.s [.m 27 4,.b 28 .leq (.c (.int .i32 48)) (.t 27),.m 29 28,.t 30 29 true 4,.g 31 29 true (.bin .leq (.t 30) (.c (.int .i32 57))),.d 32 29 31,.m 33 32,.t 34 33 false 4,.g 35 33 false (.bin .eql (.t 34) (.c (.int .i32 95))),.f 36 33 35,.m 6 36] (.s [.m 37 5,.o 38 (.un .not (.t 37)),.m 39 38,.t 40 39 true 3,.g 41 39 true (.bin .eql (.t 40) .z),.t 42 39 true 41,.t 43 42 false 6,.g 44 42 false (.un .not (.t 43)),.g 45 39 true (.pick (.t 42) .T (.t 44)),.d 46 39 45] (.j 46 [.o 2 (.mov .F)]))))))))))) (.r [.m 47 0,.v 48 .neq 47 (.c (.str [])),.m 49 48,.t 50 49 true 0,.g 51 49 true (.len .st (.t 50)),.g 52 49 true (.bin .leq (.t 51) (.n 24)),.d 53 49 52,.m 2 53])))⟩
def fn73 : AFunc := ⟨22, 2, [(4, none)],(.s [.o 4 (.mov (.c .nilSlice))] (.s [.o 5 (.mov (.c .nilSlice))] (.seq (.s [.m 8 0,.n 9 8,.o 10 (.mov .z)] (.block 0 (.loop (.s [.u 11 .lss 10 9] (.seq (.i 11 .skip (.exit 0)) (.seq (.block 1 (.s [.h 12 10 8 10,.r 13 10 12,.o 7 (.box (.c (.agg [.int .i64 0, .int .i64 0, .int .i64 0, .int .i64 0, .int .i64 0, .int .i64 0, .int .i64 0, .int .i64 0, .bool false, .nilSlice]))),.s 10 7 13] (.ops [.m 14 5,.m 15 1,.r 16 10 7,.o 17 (.call (.t 15) [.t 16]),.o 18 (.bslice 1 1 [.int .i64 0] [(0, .t 17)]),.o 19 (.app 1 8 (.t 14) (.t 18)),.m 5 19]))) (.ops [.v 20 .add 10 .w,.m 10 20]))))))) (.r [.m 21 5,.m 4 21]))))⟩
def fn74 : AFunc := ⟨40, 1, [(2, none)],(.s [.p 1 0,.o 2 (.mov .z)] (.seq (.s [.a 6 0 1,.r 7 8 6,.o 8 (.mov .z)] (.block 0 (.loop (.s [.v 9 .lss 8 (.n 8)] (.seq (.i 9 .skip (.exit 0)) (.seq (.block 1 (.s [.m 10 8,.o 11 (.ixa 8 1 none (.t 7) (.t 8)),.m 3 10,.m 4 11] (.s [.w 12 4,.w 13 3,.y 14 (.iada 8 2 (.g 0) (.t 13)),.y 15 (.iada 2 1 (.t 14) .z),.j 16 15,.w 17 3,.y 18 (.iada 8 2 (.g 0) (.t 17)),.y 19 (.iada 2 1 (.t 18) .w),.j 20 19,.c 21 25 [.t 12,.t 16,.t 20],.m 5 21] (.s [.m 22 5,.v 23 .neq 22 .z] (.j 23 [.m 24 5,.m 2 24]))))) (.ops [.v 25 .add 8 .w,.m 8 25]))))))) (.r [.y 26 (.fadr 8 (.t 1)),.j 27 26,.w 28 27,⟨(some 29), .fadr 9 (.t 1), (some (28, true)), true⟩,⟨(some 30), .load none (.t 29), (some (28, true)), true⟩,⟨(some 31), .len .sl (.t 30), (some (28, true)), true⟩,⟨(some 32), .bin .gtr (.t 31) .z, (some (28, true)), true⟩,.y 33 (.pick (.t 28) (.t 32) .F),.y 34 (.call (.f 71) [.t 33,.n 24]),.y 35 (.fadr 9 (.t 1)),.j 36 35,.c 37 54 [.t 36],.o 38 (.bslice 1 2 [.int .i64 0] [(0, .t 34), (1, .t 37)]),.c 39 23 [.t 38],.m 2 39])))⟩
def fn75 : AFunc := ⟨22, 2, [(4, none)],(.s [.o 4 (.mov (.c .nilSlice))] (.s [.o 5 (.mov (.c .nilSlice))] (.seq (.s [.m 8 0,.n 9 8,.o 10 (.mov .z)] (.block 0 (.loop (.s [.u 11 .lss 10 9] (.seq (.i 11 .skip (.exit 0)) (.seq (.block 1 (.s [.h 12 10 8 10,.r 13 10 12,.o 7 (.box (.c (.agg [.int .i64 0, .int .i64 0, .int .i64 0, .int .i64 0, .int .i64 0, .int .i64 0, .int .i64 0, .int .i64 0, .bool false, .nilSlice]))),.s 10 7 13] (.ops [.m 14 5,.m 15 1,.r 16 10 7,.o 17 (.call (.t 15) [.t 16]),.o 18 (.bslice 10 1 [.int .i64 0, .int .i64 0, .int .i64 0, .int .i64 0, .int .i64 0, .int .i64 0, .int .i64 0, .int .i64 0, .bool false, .nilSlice] [(0, .t 17)]),.o 19 (.app 10 96 (.t 14) (.t 18)),.m 5 19]))) (.ops [.v 20 .add 10 .w,.m 10 20]))))))) (.r [.m 21 5,.m 4 21]))))⟩
def fn76 : AFunc := ⟨24, 1, [],(.s [.a 5 1 1,.l 6 5,.n 7 6,.o 8 (.mov .z)] (.block 0 (.loop (.s [.u 9 .lss 8 7] (.seq (.i 9 .skip (.exit 0)) (.seq (.block 1 (.s [.m 10 8,.h 11 10 6 8,.r 12 10 11,.o 4 (.box (.c (.agg [.int .i64 0, .int .i64 0, .int .i64 0, .int .i64 0, .int .i64 0, .int .i64 0, .int .i64 0, .int .i64 0, .bool false, .nilSlice]))),.m 3 10,.s 10 4 12] (.s [.a 13 8 4,.l 14 13,.o 15 (.un .not (.t 14)),.m 16 15,.t 17 16 true 0,.t 18 16 true 3,.g 19 16 true (.load (some 10) (.t 4)),.g 20 16 true (.call (.t 17) [.t 18,.t 19]),.g 21 16 true (.un .not (.t 20)),.d 22 16 21] (.i 22 .ret .skip)))) (.ops [.v 23 .add 8 .w,.m 8 23])))))))⟩
def fn77 : AFunc := ⟨22, 2, [(4, none)],(.s [.o 4 (.mov (.c .nilSlice))] (.s [.o 5 (.mov (.c .nilSlice))] (.seq (.s [.m 8 0,.n 9 8,.o 10 (.mov .z)] (.block 0 (.loop (.s [.u 11 .lss 10 9] (.seq (.i 11 .skip (.exit 0)) (.seq (.block 1 (.s [.h 12 1 8 10,.l 13 12,.m 7 13] (.ops [.m 14 5,.m 15 1,.m 16 7,.o 17 (.call (.t 15) [.t 16]),.o 18 (.bslice 1 1 [.int .i64 0] [(0, .t 17)]),.o 19 (.app 1 8 (.t 14) (.t 18)),.m 5 19]))) (.ops [.v 20 .add 10 .w,.m 10 20]))))))) (.r [.m 21 5,.m 4 21]))))⟩
def fn78 : AFunc := ⟨13, 1, [(2, none)],(.s [.o 2 (.mov .z)] (.r [.m 3 0,.c 4 99 [.t 3],.o 5 (.un .not (.t 4)),.c 6 71 [.t 5, .w],.m 7 0,.c 8 100 [.t 7,.n 1024],.o 9 (.un .not (.t 8)),.c 10 71 [.t 9,.n 3],.o 11 (.bslice 1 2 [.int .i64 0] [(0, .t 6), (1, .t 10)]),.c 12 23 [.t 11],.m 2 12]))⟩
def fn79 : AFunc := ⟨9, 1, [(2, none)],(.s [.o 2 (.mov .z)] (.seq (.s [.m 3 0,.n 4 3,.v 5 .gtr 4 (.n 1024)] (.j 5 [.o 2 (.mov (.n 5))])) (.r [.m 6 0,.c 7 101 [.t 6, (.f 78)],.c 8 56 [.t 7],.m 2 8])))⟩
def fn80 : AFunc := ⟨16, 3, [(6, none)],(.s [.o 6 (.mov .z)] (.r [.m 7 0,.m 8 1,.u 9 .lss 7 8,.m 10 9,.t 11 10 false 0,.t 12 10 false 2,.g 13 10 false (.bin .gtr (.t 11) (.t 12)),.f 14 10 13,.c 15 84 [.t 14,.n 3],.m 6 15]))⟩
def fn81 : AFunc := ⟨6, 1, [(2, none)],(.s [.o 2 (.mov .F)] (.r [.m 3 0,.c 4 46 [.t 3],.o 5 (.un .not (.t 4)),.m 2 5]))⟩
def fn82 : AFunc := ⟨22, 2, [(4, none)],(.s [.o 4 (.mov (.c .nilSlice))] (.s [.o 5 (.mov (.c .nilSlice))] (.seq (.s [.m 8 0,.n 9 8,.o 10 (.mov .z)] (.block 0 (.loop (.s [.u 11 .lss 10 9] (.seq (.i 11 .skip (.exit 0)) (.seq (.block 1 (.s [.h 12 1 8 10,.l 13 12,.m 7 13] (.ops [.m 14 5,.m 15 1,.m 16 7,.o 17 (.call (.t 15) [.t 16]),.o 18 (.bslice 1 1 [.flt .f32 0] [(0, .t 17)]),.o 19 (.app 1 4 (.t 14) (.t 18)),.m 5 19]))) (.ops [.v 20 .add 10 .w,.m 10 20]))))))) (.r [.m 21 5,.m 4 21]))))⟩
def fn83 : AFunc := ⟨6, 1, [(2, none)],(.s [.o 2 (.mov (.c (.flt .f32 0)))] (.r [.m 3 0,.o 4 (.conv (.i2f .f32) (.t 3)),.v 5 .quo 4 (.c (.flt .f32 1098907648)),.m 2 5]))⟩
def fn84 : AFunc := ⟨7, 2, [(4, none)],(.s [.o 4 (.mov .z)] (.seq (.s [.m 5 0] (.j 5 [.m 6 1,.m 4 6])) (.r [.o 4 (.mov .z)])))⟩
def fn85 : AFunc := ⟨25, 2, [(4, none)],(.s [.o 4 (.mov .z)] (.s [.o 5 (.mov .z)] (.seq (.s [.m 8 0,.n 9 8,.o 10 (.mov .z)] (.block 0 (.loop (.s [.u 11 .lss 10 9] (.seq (.i 11 .skip (.exit 0)) (.seq (.block 1 (.s [.m 12 10,.h 13 1 8 10,.l 14 13,.m 6 12,.m 7 14] (.ops [.m 15 5,.m 16 7,.m 17 1,.m 18 6,.h 19 1 17 18,.l 20 19,.u 21 .mul 16 20,.u 22 .add 15 21,.m 5 22]))) (.ops [.v 23 .add 10 .w,.m 10 23]))))))) (.r [.m 24 5,.m 4 24]))))⟩
def fn86 : AFunc := ⟨13, 2, [(4, none)],(.s [.p 2 0,.o 4 (.mov (.c .nilSlice))] (.seq (.s [.m 6 1] (.block 0 (.rangeF (.t 6) [7] (.ops [.o 5 (.box (.c (.agg [.int .i64 0, .int .i64 0]))),.s 2 5 7]) (.block 1 (.ops [.l 8 2,.r 9 2 5,.o 10 (.bslice 2 1 [.int .i64 0, .int .i64 0] [(0, .t 9)]),.o 11 (.app 2 16 (.t 8) (.t 10)),.s 1 2 11]))))) (.r [.l 12 2,.m 4 12])))⟩
def fn87 : AFunc := ⟨23, 1, [],(.s [.l 6 1,.n 7 6,.o 8 (.mov .z)] (.block 0 (.loop (.s [.u 9 .lss 8 7] (.seq (.i 9 .skip (.exit 0)) (.seq (.block 1 (.s [.m 10 8,.h 11 1 6 8,.l 12 11,.m 4 10,.m 5 12] (.s [.m 13 0,.m 14 5,.l 15 2,.m 16 4,.h 17 1 15 16,.l 18 17,.o 19 (.build [.int .i64 0, .int .i64 0] [(0, 1, .t 14), (1, 1, .t 18)]),.o 20 (.call (.t 13) [.t 19]),.o 21 (.un .not (.t 20))] (.i 21 .ret .skip)))) (.ops [.v 22 .add 8 .w,.m 8 22])))))))⟩
def fn88 : AFunc := ⟨15, 2, [(4, none)],(.s [.o 4 (.mov .z)] (.seq (.block 0 (.loop (.seq (.s [.m 5 1,.v 6 .neq 5 .z] (.i 6 .skip (.exit 0))) (.block 1 (.ops [.w 7 1,.w 8 0,.w 9 1,.y 10 (.bin .rem (.t 8) (.t 9)),.w 0 7,.m 1 10]))))) (.r [.m 11 0,.m 12 0,.o 13 (.un .neg (.t 12)),.o 14 (.mx (.t 11) [.t 13]),.m 4 14])))⟩
def fn89 : AFunc := ⟨22, 2, [(4, none)],(.s [.o 4 (.mov (.c .nilSlice))] (.s [.o 5 (.mov (.c .nilSlice))] (.seq (.s [.m 8 0,.n 9 8,.o 10 (.mov .z)] (.block 0 (.loop (.s [.u 11 .lss 10 9] (.seq (.i 11 .skip (.exit 0)) (.seq (.block 1 (.s [.h 12 1 8 10,.l 13 12,.m 7 13] (.ops [.m 14 5,.m 15 1,.m 16 7,.o 17 (.call (.t 15) [.t 16]),.o 18 (.bslice 1 1 [.int .i64 0] [(0, .t 17)]),.o 19 (.app 1 8 (.t 14) (.t 18)),.m 5 19]))) (.ops [.v 20 .add 10 .w,.m 10 20]))))))) (.r [.m 21 5,.m 4 21]))))⟩
def fn90 : AFunc := ⟨5, 1, [(2, none)],(.s [.o 2 (.mov .z)] (.r [.m 3 0,.c 4 80 [.t 3,.n (-16),.n 16],.m 2 4]))⟩
def fn91 : AFunc := ⟨22, 2, [(4, none)],(.s [.o 4 (.mov (.c .nilSlice))] (.s [.o 5 (.mov (.c .nilSlice))] (.seq (.s [.m 8 0,.n 9 8,.o 10 (.mov .z)] (.block 0 (.loop (.s [.u 11 .lss 10 9] (.seq (.i 11 .skip (.exit 0)) (.seq (.block 1 (.s [.h 12 1 8 10,.l 13 12,.m 7 13] (.ops [.m 14 5,.m 15 1,.m 16 7,.o 17 (.call (.t 15) [.t 16]),.o 18 (.bslice 1 1 [.int .i64 0] [(0, .t 17)]),.o 19 (.app 1 8 (.t 14) (.t 18)),.m 5 19]))) (.ops [.v 20 .add 10 .w,.m 10 20]))))))) (.r [.m 21 5,.m 4 21]))))⟩
def fn92 : AFunc := ⟨5, 1, [(2, none)],(.s [.o 2 (.mov .z)] (.r [.m 3 0,.c 4 25 [.t 3,.n (-64),.n 64],.m 2 4]))⟩
def fn93 : AFunc := ⟨19, 2, [(4, none)],(.s [.o 4 (.mov .z)] (.seq (.s [.m 6 0,.n 7 6,.o 8 (.mov .z)] (.block 0 (.loop (.s [.u 9 .lss 8 7] (.seq (.i 9 .skip (.exit 0)) (.seq (.block 1 (.s [.m 10 8,.m 5 10] (.s [.m 11 1,.m 12 0,.m 13 5,.h 14 1 12 13,.l 15 14,.o 16 (.call (.t 11) [.t 15])] (.j 16 [.m 17 5,.m 4 17])))) (.ops [.v 18 .add 8 .w,.m 8 18]))))))) (.r [.o 4 (.mov (.n (-1)))])))⟩
def fn94 : AFunc := ⟨11, 1, [(2, none)],(.s [.o 2 (.mov .F)] (.r [.m 3 0,.n 4 3,.v 5 .leq 4 (.n 32),.m 6 5,.t 7 6 false 0,.g 8 6 false (.len .sl (.t 7)),.g 9 6 false (.bin .eql (.t 8) (.n 1025)),.f 10 6 9,.m 2 10]))⟩
def fn95 : AFunc := ⟨17, 1, [(2, none)],(.s [.o 2 (.mov .F)] (.r [.m 3 0,.b 4 .leq (.c (.int .u8 65)) (.t 3),.m 5 4,.t 6 5 true 0,.g 7 5 true (.bin .leq (.t 6) (.c (.int .u8 90))),.d 8 5 7,.m 9 8,.t 10 9 false 0,.g 11 9 false (.bin .leq (.c (.int .u8 97)) (.t 10)),.t 12 9 false 11,.t 13 12 true 0,.g 14 12 true (.bin .leq (.t 13) (.c (.int .u8 122))),.g 15 9 false (.pick (.t 12) (.t 14) .F),.f 16 9 15,.m 2 16]))⟩
def fn96 : AFunc := ⟨9, 1, [(2, none)],(.s [.o 2 (.mov .F)] (.r [.m 3 0,.b 4 .leq (.c (.int .u8 48)) (.t 3),.m 5 4,.t 6 5 true 0,.g 7 5 true (.bin .leq (.t 6) (.c (.int .u8 57))),.d 8 5 7,.m 2 8]))⟩
def fn97 : AFunc := ⟨24, 1, [(2, none)],(.s [.p 1 0,.o 2 (.mov .z)] (.seq (.s [.o 3 (.mov .z)] (.block 0 (.loop (.seq (.s [.m 7 3,.v 8 .lss 7 (.n 8)] (.i 8 .skip (.exit 0))) (.seq (.block 1 (.s [.o 4 (.mov (.n (-999999999))),.o 5 (.mov (.n 999999999))] (.seq (.s [.m 11 3,.v 12 .lss 11 (.n 4)] (.i 12 (.ops [.o 4 (.mov (.n (-100000))),.o 5 (.mov (.n 100000))]) .skip)) (.seq (.s [.m 13 3,.v 14 .eql 13 (.n 4)] (.i 14 (.ops [.o 4 (.mov .z),.o 5 (.mov (.n 100000))]) .skip)) (.s [.m 15 3,.o 16 (.iada 8 1 (.t 1) (.t 15)),.l 17 16,.m 18 4,.m 19 5,.c 20 102 [.t 17,.t 18,.t 19],.m 6 20] (.s [.m 21 6,.v 22 .neq 21 .z] (.j 22 [.m 23 6,.m 2 23]))))))) (.ops [.m 9 3,.v 10 .add 9 .w,.m 3 10])))))) (.r [.o 2 (.mov .z)])))⟩
def fn98 : AFunc := ⟨8, 1, [(2, none)],(.s [.o 2 (.mov .z)] (.seq (.s [.m 3 0,.n 4 3,.v 5 .gtr 4 (.n 1024)] (.j 5 [.o 2 (.mov (.n 5))])) (.r [.m 6 0,.c 7 103 [.t 6],.m 2 7])))⟩
def fn99 : AFunc := ⟨7, 1, [(2, none)],(.s [.o 2 (.mov .F)] (.r [.m 3 0,.m 4 0,.u 5 .sub 3 4,.v 6 .eql 5 (.c (.flt .f32 0)),.m 2 6]))⟩
def fn100 : AFunc := ⟨25, 2, [(4, none)],(.s [.o 4 (.mov .F)] (.r [.m 5 1,.o 6 (.conv (.i2f .f32) (.t 5)),.o 7 (.un .neg (.t 6)),.m 8 0,.u 9 .leq 7 8,.m 10 9,.t 11 10 true 0,.t 12 10 true 1,.g 13 10 true (.conv (.i2f .f32) (.t 12)),.g 14 10 true (.bin .leq (.t 11) (.t 13)),.d 15 10 14,.m 16 15,.t 17 16 true 0,.g 18 16 true (.bin .mul (.t 17) (.c (.flt .f32 1098907648))),.g 19 16 true (.conv (.f2i .i64) (.t 18)),.g 20 16 true (.conv (.i2f .f32) (.t 19)),.t 21 16 true 0,.g 22 16 true (.bin .mul (.t 21) (.c (.flt .f32 1098907648))),.g 23 16 true (.bin .eql (.t 20) (.t 22)),.d 24 16 23,.m 4 24]))⟩
def fn101 : AFunc := ⟨22, 2, [(4, none)],(.s [.o 4 (.mov (.c .nilSlice))] (.s [.o 5 (.mov (.c .nilSlice))] (.seq (.s [.m 8 0,.n 9 8,.o 10 (.mov .z)] (.block 0 (.loop (.s [.u 11 .lss 10 9] (.seq (.i 11 .skip (.exit 0)) (.seq (.block 1 (.s [.h 12 1 8 10,.l 13 12,.m 7 13] (.ops [.m 14 5,.m 15 1,.m 16 7,.o 17 (.call (.t 15) [.t 16]),.o 18 (.bslice 1 1 [.int .i64 0] [(0, .t 17)]),.o 19 (.app 1 8 (.t 14) (.t 18)),.m 5 19]))) (.ops [.v 20 .add 10 .w,.m 10 20]))))))) (.r [.m 21 5,.m 4 21]))))⟩
def fn102 : AFunc := ⟨16, 3, [(6, none)],(.s [.o 6 (.mov .z)] (.r [.m 7 0,.m 8 1,.u 9 .lss 7 8,.m 10 9,.t 11 10 false 0,.t 12 10 false 2,.g 13 10 false (.bin .gtr (.t 11) (.t 12)),.f 14 10 13,.c 15 104 [.t 14,.n 3],.m 6 15]))⟩
def fn103 : AFunc := ⟨19, 1, [(2, none)],(.s [.o 2 (.mov .z)] (.seq (.s [.o 3 (.mov .z)] (.block 0 (.loop (.seq (.s [.m 5 3,.m 6 0,.n 7 6,.u 8 .lss 5 7] (.i 8 .skip (.exit 0))) (.seq (.block 1 (.s [.m 11 0,.m 12 3,.h 13 1 11 12,.l 14 13,.c 15 105 [.t 14],.m 4 15] (.s [.m 16 4,.v 17 .neq 16 .z] (.j 17 [.m 18 4,.m 2 18])))) (.ops [.m 9 3,.v 10 .add 9 .w,.m 3 10])))))) (.r [.o 2 (.mov .z)])))⟩
def fn104 : AFunc := ⟨7, 2, [(4, none)],(.s [.o 4 (.mov .z)] (.seq (.s [.m 5 0] (.j 5 [.m 6 1,.m 4 6])) (.r [.o 4 (.mov .z)])))⟩
def fn105 : AFunc := ⟨5, 1, [(2, none)],(.s [.o 2 (.mov .z)] (.r [.m 3 0,.c 4 106 [.t 3,.n 1024],.m 2 4]))⟩
def fn106 : AFunc := ⟨34, 2, [(4, none)],(.s [.o 4 (.mov .z)] (.s [.m 6 0,.o 7 (.conv (.f2f .f64) (.t 6)),.m 5 7] (.seq (.s [.m 8 5,.c 9 107 [.t 8],.m 10 9,.t 11 10 false 5,.g 12 10 false (.call (.f 108) [.t 11, .z]),.f 13 10 12] (.j 13 [.o 4 (.mov .w)])) (.r [.m 14 5,.m 15 1,.o 16 (.conv (.i2f .f64) (.t 15)),.u 17 .gtr 14 16,.m 18 17,.t 19 18 false 5,.t 20 18 false 1,.g 21 18 false (.bin .sub .z (.t 20)),.g 22 18 false (.conv (.i2f .f64) (.t 21)),.g 23 18 false (.bin .lss (.t 19) (.t 22)),.f 24 18 23,.m 25 24,.t 26 25 false 5,.g 27 25 false (.bin .mul (.c (.flt .f64 4625196817309499392)) (.t 26)),.t 28 25 false 5,.g 29 25 false (.bin .mul (.c (.flt .f64 4625196817309499392)) (.t 28)),.g 30 25 false (.call (.f 109) [.t 29]),.g 31 25 false (.bin .neq (.t 27) (.t 30)),.f 32 25 31,.c 33 104 [.t 32,.n 3],.m 4 33]))))⟩
def fn107 : AFunc := ⟨6, 1, [(2, none)],(.s [.o 2 (.mov .F)] (.r [.m 3 0,.m 4 0,.u 5 .neq 3 4,.m 2 5]))⟩
def fn108 : AFunc := ⟨15, 2, [(4, none)],(.s [.o 4 (.mov .F)] (.seq (.s [.m 5 1,.v 6 .eql 5 .z] (.i 6 (.ops [.m 7 0,.c 8 110 [.t 7],.m 0 8]) (.s [.m 9 1,.v 10 .lss 9 .z] (.i 10 (.ops [.m 11 0,.o 12 (.un .neg (.t 11)),.m 0 12]) .skip)))) (.r [.m 13 0,.v 14 .gtr 13 (.c (.flt .f64 9218868437227405311)),.m 4 14])))⟩
def fn109 : AFunc := ⟨7, 1, [(2, none)],(.s [.o 2 (.mov (.c (.flt .f64 0)))] (.seq (.cond .T (.r [.m 3 0,.c 4 111 [.t 3],.m 2 4]) .skip) (.r [.m 5 0,.c 6 112 [.t 5],.m 2 6])))⟩
def fn110 : AFunc := ⟨7, 1, [(2, none)],(.s [.o 2 (.mov (.c (.flt .f64 0)))] (.r [.m 3 0,.c 4 114 [.t 3],.v 5 .andNot 4 (.c (.int .u64 9223372036854775808)),.c 6 113 [.t 5],.m 2 6]))⟩
abbrev Cf (P : Program) (n : Nat) (A : AFunc) : Prop := compileFn P n = some A
/-- A program that has these functions at these numbers. -/
structure Tbl (P : Program) : Prop where
  mix : P.follows .mixedOrders = true
  c2 : Cf P 2 fn2
  c3 : Cf P 3 fn3
  c4 : Cf P 4 fn4
  c5 : Cf P 5 fn5
  c6 : Cf P 6 fn6
  c7 : Cf P 7 fn7
  c8 : Cf P 8 fn8
  c9 : Cf P 9 fn9
  c10 : Cf P 10 fn10
  c11 : Cf P 11 fn11
  c12 : Cf P 12 fn12
  c13 : Cf P 13 fn13
  c14 : Cf P 14 fn14
  c15 : Cf P 15 fn15
  c16 : Cf P 16 fn16
  c17 : Cf P 17 fn17
  c18 : Cf P 18 fn18
  c19 : Cf P 19 fn19
  c20 : Cf P 20 fn20
  c21 : Cf P 21 fn21
  c22 : Cf P 22 fn22
  c23 : Cf P 23 fn23
  c24 : Cf P 24 fn24
  c25 : Cf P 25 fn25
  c26 : Cf P 26 fn26
  c27 : Cf P 27 fn27
  c28 : Cf P 28 fn28
  c29 : Cf P 29 fn29
  c30 : Cf P 30 fn30
  c31 : Cf P 31 fn31
  c32 : Cf P 32 fn32
  c33 : Cf P 33 fn33
  c34 : Cf P 34 fn34
  c35 : Cf P 35 fn35
  c36 : Cf P 36 fn36
  c37 : Cf P 37 fn37
  c38 : Cf P 38 fn38
  c39 : Cf P 39 fn39
  c40 : Cf P 40 fn40
  c41 : Cf P 41 fn41
  c42 : Cf P 42 fn42
  c43 : Cf P 43 fn43
  c44 : Cf P 44 fn44
  c45 : Cf P 45 fn45
  c46 : Cf P 46 fn46
  c47 : Cf P 47 fn47
  c48 : Cf P 48 fn48
  c49 : Cf P 49 fn49
  c50 : Cf P 50 fn50
  c51 : Cf P 51 fn51
  c52 : Cf P 52 fn52
  c53 : Cf P 53 fn53
  c54 : Cf P 54 fn54
  c55 : Cf P 55 fn55
  c56 : Cf P 56 fn56
  c57 : Cf P 57 fn57
  c58 : Cf P 58 fn58
  c59 : Cf P 59 fn59
  c60 : Cf P 60 fn60
  c61 : Cf P 61 fn61
  c62 : Cf P 62 fn62
  c63 : Cf P 63 fn63
  c64 : Cf P 64 fn64
  c65 : Cf P 65 fn65
  c66 : Cf P 66 fn66
  c67 : Cf P 67 fn67
  c68 : Cf P 68 fn68
  c69 : Cf P 69 fn69
  c70 : Cf P 70 fn70
  c71 : Cf P 71 fn71
  c72 : Cf P 72 fn72
  c73 : Cf P 73 fn73
  c74 : Cf P 74 fn74
  c75 : Cf P 75 fn75
  c76 : Cf P 76 fn76
  c77 : Cf P 77 fn77
  c78 : Cf P 78 fn78
  c79 : Cf P 79 fn79
  c80 : Cf P 80 fn80
  c81 : Cf P 81 fn81
  c82 : Cf P 82 fn82
  c83 : Cf P 83 fn83
  c84 : Cf P 84 fn84
  c85 : Cf P 85 fn85
  c86 : Cf P 86 fn86
  c87 : Cf P 87 fn87
  c88 : Cf P 88 fn88
  c89 : Cf P 89 fn89
  c90 : Cf P 90 fn90
  c91 : Cf P 91 fn91
  c92 : Cf P 92 fn92
  c93 : Cf P 93 fn93
  c94 : Cf P 94 fn94
  c95 : Cf P 95 fn95
  c96 : Cf P 96 fn96
  c97 : Cf P 97 fn97
  c98 : Cf P 98 fn98
  c99 : Cf P 99 fn99
  c100 : Cf P 100 fn100
  c101 : Cf P 101 fn101
  c102 : Cf P 102 fn102
  c103 : Cf P 103 fn103
  c104 : Cf P 104 fn104
  c105 : Cf P 105 fn105
  c106 : Cf P 106 fn106
  c107 : Cf P 107 fn107
  c108 : Cf P 108 fn108
  c109 : Cf P 109 fn109
  c110 : Cf P 110 fn110
end Go.Abs
namespace Go.Abs

theorem lh_get {h' : AHeap} {X : ABlk} {g : AHeap} {n : Nat} (hn : h'.length = n) : (h' ++ [X] ++ g)[n]? = some X := by
  subst hn
  rw [List.append_assoc, List.getElem?_append_right (Nat.le_refl _), Nat.sub_self]; rfl
theorem lh_set {h' : AHeap} {X Y : ABlk} {g : AHeap} {n : Nat} (hn : h'.length = n) : (h' ++ [X] ++ g).set n Y = h' ++ [Y] ++ g := by
  subst hn
  rw [List.append_assoc, List.set_append_right _ _ (Nat.le_refl _), Nat.sub_self, List.append_assoc]; rfl

/-- A function calls yield with one list of arguments after the other, until yield says no. -/
structure Iter (P : Program) (f : FuncId) (a c : List AV) (L : List (List AV)) (pre : AHeap → Prop) : Prop where
  run : ∀ (l : Nat) (h : AHeap) (J : Nat → AHeap → Prop) (D : AHeap → Prop), (∀ i k, J i k → pre k) → (∀ i k g, J i k → J i (k ++ g)) →
    (∀ i (hi : i < L.length) k, J i k → ∃ b k', SCallV P (.func (.yield l) [] []) L[i] k (.bool b) k' ∧ (if b = true then J (i + 1) k' else D k')) →
    (∀ k, J L.length k → D k) → J 0 h → GCall P f (a ++ [.func (.yield l) [] []] ++ c) h (fun _ k => D k)

section
variable {P : Program} {ks : List Kt} {ts : TS} {h : AHeap} {Q : Ex → TS → AHeap → Prop}

/-- THE STATEMENT 'for .. := range f { .. }', by an invariant on what was there before the loop, and on what came since. -/
theorem WC.iter (hmix : P.follows .mixedOrders = true) {f} {A} {a c} {L} {pre} {g} {ps} {asg body} (hA : compileFn P f = some A)
    (hg : val ts g = .func (.func f) a c) (hi : Iter P f a c L pre) (hps : ∀ x ∈ L, x.length = ps.length) (I : Nat → AHeap → AHeap → Prop) (Fin : Ex → AHeap → AHeap → Prop)
    (h0 : I 0 h []) (hcl : ∀ i h' g g2, I i h' g → I i h' (g ++ g2)) (hpre : ∀ i h' g X, h'.length = h.length → I i h' g → pre (h' ++ [X] ++ g))
    (step : ∀ i (hi : i < L.length) h' g (R B : ABlk), h'.length = h.length → I i h' g →
      WC P inRd asg [] (setArgs ts ps L[i]) (h' ++ [R] ++ g) fun e1 ts2 h2 => e1 = .normal ∧ ∃ h1 g1, h2 = h1 ++ [R] ++ g1 ∧ h1.length = h.length ∧
        WC P inRd body [] ts2 (h1 ++ [B] ++ g1) fun e2 _ h4 => ∃ h3 g3, h4 = h3 ++ [B] ++ g3 ∧ h3.length = h.length ∧ (if e2 = .normal then I (i + 1) h3 g3 else Fin e2 h3 g3))
    (done : ∀ e h' g, h'.length = h.length → (if e = .normal then I L.length h' g else Fin e h' g) → WE P inFn e ks ts (h' ++ [ABlk.dead] ++ g) Q) : WC P inFn (.rangeF g ps asg body) ks ts h Q := by
  let J : Nat → AHeap → Prop := fun i k => ∃ h' g, k = h' ++ [.loop .ready .normal ts ps asg body] ++ g ∧ h'.length = h.length ∧ I i h' g
  let D : AHeap → Prop := fun k => ∃ e h' g st, k = h' ++ [.loop st e ts ps asg body] ++ g ∧ h'.length = h.length ∧ st ≠ .busy ∧ (if e = .normal then I L.length h' g else Fin e h' g)
  obtain ⟨v, h2, hs, e, h', g', st, rfl, hl, hst, hfin⟩ := hi.run h.length (h ++ [.loop .ready .normal ts ps asg body]) J D
    (fun i k hJ => by obtain ⟨h', g, rfl, h1, h2⟩ := hJ; exact hpre i h' g _ h1 h2)
    (fun i k g2 hJ => by obtain ⟨h', g, rfl, h1, h2⟩ := hJ; exact ⟨h', g ++ g2, by rw [List.append_assoc], h1, hcl _ _ _ _ h2⟩)
    (fun i hi k hJ => by
      obtain ⟨h', g, rfl, h1, h2⟩ := hJ
      obtain ⟨e1, ts2, k2, q1, rfl, h3, g3, rfl, h4, q2⟩ := W.sound hmix (step i hi h' g (.loop .ready .normal ts ps asg body) (.loop .busy .normal ts ps asg body) h1 h2)
      obtain ⟨e2, ts3, k3, q3, h5, g5, rfl, h6, q4⟩ := W.sound hmix q2
      have hy : SCallV P (.func (.yield h.length) [] []) L[i] (h' ++ [.loop .ready .normal ts ps asg body] ++ g) (.bool (decide (e2 = .normal))) (List.set (h5 ++ [ABlk.loop .busy .normal ts ps asg body] ++ g5) h.length (ABlk.loop (if e2 = .normal then .ready else .done) e2 ts ps asg body)) :=
        SCallV.yield (lh_get h1) (hps _ (List.getElem_mem hi)) (fun r => q1 (some r) ⟨r, rfl⟩) (lh_get h4) (fun r => by rw [lh_set h4]; exact q3 (some r) ⟨r, rfl⟩) (lh_get h6)
      rw [lh_set h6] at hy
      refine ⟨decide (e2 = .normal), _, hy, ?_⟩
      by_cases he : e2 = .normal
      · subst he
        rw [if_pos rfl] at q4
        simp only [decide_true, if_true]
        exact ⟨h5, g5, rfl, h6, q4⟩
      · rw [if_neg he] at q4
        simp only [he, decide_false, Bool.false_eq_true, if_false]
        exact ⟨e2, h5, g5, .done, rfl, h6, by simp, by rw [if_neg he]; exact q4⟩)
    (fun k hJ => by obtain ⟨h', g, rfl, h1, h2⟩ := hJ; exact ⟨.normal, h', g, .ready, rfl, h1, by simp, by rw [if_pos rfl]; exact h2⟩)
    ⟨h, [], by rw [List.append_nil], rfl, h0⟩
  refine ⟨e, ts, h' ++ [ABlk.dead] ++ g', fun r hr => ?_, done e h' g' hl hfin⟩
  have : r = none := hr
  subst this
  have := Ev.rangeF (h := h) (ps := ps) (asg := asg) (body := body) hA hg hs (lh_get hl) hst
  rw [lh_set hl] at this
  exact this
end
end Go.Abs
namespace Go.Abs

theorem flatten_set {es : Nat} {v : AV} : ∀ {cs : List (List AV)}, (∀ x ∈ cs, x.length = es) → ∀ {i off : Nat} (hi : i < cs.length), off < es → cs.flatten.set (i * es + off) v = (cs.set i (cs[i].set off v)).flatten
  | [], _, i, off, hi, _ => absurd hi (Nat.not_lt_zero _)
  | c :: cs, h, 0, off, hi, ho => by
    have hc : c.length = es := h c (List.mem_cons_self ..)
    rw [List.flatten_cons, Nat.zero_mul, Nat.zero_add, List.set_append_left _ _ (by omega)]
    rfl
  | c :: cs, h, i + 1, off, hi, ho => by
    have hc : c.length = es := h c (List.mem_cons_self ..)
    have h1 := flatten_set (v := v) (cs := cs) (fun x hx => h x (List.mem_cons_of_mem _ hx)) (i := i) (off := off) (by simpa using hi) ho
    rw [List.flatten_cons, List.set_append_right _ _ (by rw [Nat.succ_mul]; omega), show (i + 1) * es + off - c.length = i * es + off by rw [Nat.succ_mul]; omega, h1]
    rfl

theorem mksl_ok {es w N0 n : Nat} {z : List AV} {k k' : IntKind} (h1 : w * n ≤ 2 ^ 48) (h2 : n < 2 ^ 63) : mkslF es w z (.int k n) (.int k' n) N0 = some (.slice N0 0 n es, .push (.cells (zrep n z) true true)) := by
  simp only [mkslF]
  rw [if_pos ⟨by omega, by omega, by exact_mod_cast h1, by exact_mod_cast h2⟩]
  rfl

theorem Fr.zeros {N n es} {h} {z} (hN : N ≤ h.length) (hz : z.length = es) : Fr N (h ++ [.cells (zrep n z) true true]) (.slice h.length 0 n es) es (List.replicate n z) := by
  have := Fr.push (h := h) (es := es) hN (List.replicate n z) (fun x hx => by rw [(List.mem_replicate.1 hx).2]; exact hz)
  rw [List.length_replicate] at this
  exact this

section
variable {P : Program} {ro : Option Nat → Prop} {ks : List Kt} {ts : TS} {Q : Ex → TS → AHeap → Prop} {d : Option Nat} {l : List IOp}

/-- append on a literal without elements: what is there is left alone. -/
theorem WR.appz {q} {N b es w} {h} {y} {ys} (hb : h[b]? = some (.cells [] true false)) (hN : N ≤ b) (hy : IsSl h y es ys) (hsz : ys.length * w ≤ 2 ^ 46)
    (K : ∀ s' g, Fr N (h ++ g) s' es ys → WP P ro l ks (put ts d s') (h ++ g) Q) : WR P ro (appT es w (.slice b 0 0 es) y (fun b => h[b]?) h.length) q d l ks ts h Q := by
  have hbl : b < h.length := (List.getElem?_eq_some_iff.1 hb).1
  simp only [appT, hy.cellsG, if_true]
  by_cases hk : ys.length = 0
  · have hys : ys = [] := List.length_eq_zero_iff.1 hk
    subst hys
    simp only [List.length_nil, if_true, List.flatten_nil, List.isEmpty_nil]
    rw [WR_keep]
    have := K (.slice b 0 0 es) [] (by rw [List.append_nil]; exact Fr.mk (cs := []) hN hb (by simp))
    rwa [List.append_nil] at this
  · simp only [if_neg hk, Nat.zero_add, if_pos hsz, hb]
    rw [if_pos (by simp), WR_push]
    exact K _ _ (Fr.push (by omega) ys hy.rows)

/-- A store of one cell into a slice of one's own. -/
theorem WR.put1 {α : Type} {row : α → List AV} {L : List α} {h0 g : AHeap} {s v : AV} {es i off : Nat} {x' : α} (hs : Fr h0.length (h0 ++ g) s es (L.map row)) (hi : i < L.length) (ho : off < es) (hv : v.one = true) (hx : row x' = (row L[i]).set off v)
    (K : ∀ g', g'.length = g.length → Fr h0.length (h0 ++ g') s es ((L.set i x').map row) → (∀ b, (∀ b0 o n e, s = .slice b0 o n e → b ≠ b0) → (h0 ++ g')[b]? = (h0 ++ g)[b]?) → WP P ro l ks (put ts d undefA) (h0 ++ g') Q) :
    WR P ro (storeF 1 (elf s es i off) v (fun b => (h0 ++ g)[b]?)) false d l ks ts (h0 ++ g) Q := by
  have hrl := hs.isSl.rows
  generalize hcs : L.map row = cs at hs
  have hcl : cs.length = L.length := by rw [← hcs, List.length_map]
  cases hs with
  | nil => simp at hcl; omega
  | @mk b _ _ tl hN hb he =>
    have hfl := flatten_len he
    have hie : i * es + off < cs.flatten.length := by
      rw [hfl, hcl]
      have : (i + 1) * es ≤ L.length * es := Nat.mul_le_mul_right _ hi
      rw [Nat.succ_mul] at this; omega
    have hset : cs.flatten.set (i * es + off) v = ((L.set i x').map row).flatten := by
      have := flatten_set (v := v) he (i := i) (off := off) (by omega) ho
      rw [this, List.map_set, hx, hcs]
      congr 2
      simp [← hcs]
    have hbl : b < (h0 ++ g).length := (List.getElem?_eq_some_iff.1 hb).1
    show WR P ro (storeF 1 (.ptr b (0 + i * es + off)) v (fun b => (h0 ++ g)[b]?)) false d l ks ts (h0 ++ g) Q
    rw [Nat.zero_add, storeF_at hb, stB_one hv (by omega), WR_set, hset, List.set_append_right _ _ hN]
    refine K _ (by simp) ?_ fun b' hb' => ?_
    · have hl2 : ((L.set i x').map row).length = cs.length := by simp [hcl]
      rw [← hl2]
      refine Fr.mk hN (tl := tl) ?_ fun y hy => ?_
      · rw [List.getElem?_append_right hN, List.getElem?_set_self (by simp at hbl; omega)]
      · rw [List.map_set] at hy
        rcases List.mem_or_eq_of_mem_set hy with hy | hy
        · exact he y (by rw [← hcs]; exact hy)
        · rw [hy, hx, List.length_set]
          exact he _ (by rw [← hcs]; exact List.mem_map_of_mem (List.getElem_mem hi))
    · have hne := hb' b 0 _ _ rfl
      rw [← List.set_append_right _ _ hN, List.getElem?_set_ne (Ne.symm hne)]

end
end Go.Abs
namespace Go.Abs

section
variable (P : Program) (ro : Option Nat → Prop)
def WQ (l : List IOp) (cs : List Acc) (ks : List Kt) (ts : TS) (h : AHeap) (Q : Ex → TS → AHeap → Prop) : Prop := WOS h l ts cs fun ts' cs => accOk cs ∧ kq P ro ks Q .normal ts' (accApp h cs)
end

section
variable {P : Program} {ro : Option Nat → Prop} {ks : List Kt} {ts : TS} {h : AHeap} {Q : Ex → TS → AHeap → Prop} {d : Option Nat} {q : Bool} {l : List IOp} {cs : List Acc}

end
end Go.Abs
namespace Go.Abs
theorem pset :
    (∀ {ts : TS} {i j : Nat} {v : AV} (_ : (i = j) = False), slot (ts.set i v) j = slot ts j) ∧
    (∀ {ts : TS} {i : Nat} {v : AV} (_ : i + 1 ≤ ts.length), slot (ts.set i v) i = v) ∧
    (∀ {ts : TS} {i : Nat} {X : Prop} (_ : i + 1 ≤ ts.length), inS ts[i]? X = X) ∧
    (∀ {ts : TS} {i : Nat} {v : AV}, (ts.set i v).length = ts.length) ∧
    (∀ {u : TypeId} {x : AV} {G : Nat → Option ABlk} {N : Nat}, convT (.ifc u) x G N = some (.ifc u x, .keep)) := by
  refine ⟨fun {ts i j v} h => ?_, fun {ts i v} h => ?_, fun {ts i X} h => by rw [List.getElem?_eq_getElem h]; rfl, fun {ts i v} => List.length_set, rfl⟩
  · have hne : i ≠ j := fun e => by rw [← h]; exact e
    unfold slot
    rw [List.getD, List.getD, List.getElem?_set_ne hne]
  · unfold slot
    rw [List.getD, List.getElem?_set_self h]; rfl
end Go.Abs
namespace Go.Abs
theorem Rs {A B F : Prop} (f : F) (b : B) (e : F → (B → A) ∧ (∃ x : Prop, x = B) := by (intro f; refine ⟨fun b => ?_, ?_⟩; (focus (repeat (first | simp (config := { maxSteps := 1000000 }) only [wset, hset, dset, bset, Nat.reduceAdd, Nat.reduceMul, Nat.reduceLeDiff, Nat.reduceEqDiff, pset, hlen, if_false, if_true, f] | simp (config := { maxSteps := 1000000 }) (disch := first | (simp only [List.length_append, List.length_cons, List.length_nil] <;> omega) | rfl | omega | fail) only [kset, wset, hset, dset, bset, Nat.reduceAdd, Nat.reduceMul, Nat.reduceLeDiff, Nat.reduceEqDiff, pset, hlen, if_false, if_true, f])); all_goals exact b); first | exact ⟨True, rfl⟩ | exact ⟨_, rfl⟩)) : A := (e f).1 b
theorem Ws {A B F : Prop} (f : F) (b : B) (e : F → (B → A) ∧ (∃ x : Prop, x = B) := by (intro f; refine ⟨fun b => ?_, ?_⟩; (focus (simp only [wset, hset, dset, bset, Nat.reduceAdd, Nat.reduceMul, Nat.reduceLeDiff, Nat.reduceEqDiff, if_true, if_false, f]); all_goals exact b); first | exact ⟨True, rfl⟩ | exact ⟨_, rfl⟩)) : A := (e f).1 b
theorem Wn {A B : Prop} (b : B) (e : (B → A) ∧ (∃ x : Prop, x = B) := by (refine ⟨fun b => ?_, ?_⟩; (focus (simp only [wset, hset, dset, bset, Nat.reduceAdd, Nat.reduceMul, Nat.reduceLeDiff, Nat.reduceEqDiff, if_true, if_false]); all_goals exact b); first | exact ⟨True, rfl⟩ | exact ⟨_, rfl⟩)) : A := e.1 b
theorem Sq {A F : Prop} (f : F) (e : F → A := by (intro f; simp only [wset, hset, dset, bset, Nat.reduceAdd, Nat.reduceMul, Nat.reduceLeDiff, Nat.reduceEqDiff, pset, hlen, if_false, if_true, f])) : A := e f
theorem Sw {A : Prop} (e : A := by simp only [wset, hset, dset, bset, Nat.reduceAdd, Nat.reduceMul, Nat.reduceLeDiff, Nat.reduceEqDiff, pset, hlen, if_false, if_true]) : A := e
theorem Swr {A : Prop} (e : A := by (simp only [wset, hset, dset, bset, Nat.reduceAdd, Nat.reduceMul, Nat.reduceLeDiff, Nat.reduceEqDiff, pset, hlen, if_false, if_true]; rfl)) : A := e
theorem Sn {A : Prop} (e : A := by simp only [pset, hlen]) : A := e
theorem Xx {A : Prop} (e : A := by repeat first | with_reducible exact Ext.refl _ | refine Ext.app _ ?_) : A := e
theorem RCall.st1 {P : Program} {h : AHeap} (nt : Nat) (hmix : P.follows .mixedOrders = true) {f : FuncId} {A : AFunc} (hA : compileFn P f = some A) {a0 : AV} {R : AV → AHeap → Prop} (H : ∀ ts : TS, ts.length = nt → slot ts 0 = a0 → WC P inFn A.body [] ts h (FQ A.rs (fun v h' => Ext h h' ∧ R v h'))) (hn : A.nt = nt := by rfl) (hl : (startTS nt [a0]).length = nt := by rfl) : RCall P f [a0] h R := by
  subst hn
  exact .of hmix hA (H (startTS A.nt [a0]) hl rfl)
theorem RCall.st2 {P : Program} {h : AHeap} (nt : Nat) (hmix : P.follows .mixedOrders = true) {f : FuncId} {A : AFunc} (hA : compileFn P f = some A) {a0 a1 : AV} {R : AV → AHeap → Prop} (H : ∀ ts : TS, ts.length = nt → slot ts 0 = a0 → slot ts 1 = a1 → WC P inFn A.body [] ts h (FQ A.rs (fun v h' => Ext h h' ∧ R v h'))) (hn : A.nt = nt := by rfl) (hl : (startTS nt [a0, a1]).length = nt := by rfl) : RCall P f [a0, a1] h R := by
  subst hn
  exact .of hmix hA (H (startTS A.nt [a0, a1]) hl rfl rfl)
theorem RCall.st3 {P : Program} {h : AHeap} (nt : Nat) (hmix : P.follows .mixedOrders = true) {f : FuncId} {A : AFunc} (hA : compileFn P f = some A) {a0 a1 a2 : AV} {R : AV → AHeap → Prop} (H : ∀ ts : TS, ts.length = nt → slot ts 0 = a0 → slot ts 1 = a1 → slot ts 2 = a2 → WC P inFn A.body [] ts h (FQ A.rs (fun v h' => Ext h h' ∧ R v h'))) (hn : A.nt = nt := by rfl) (hl : (startTS nt [a0, a1, a2]).length = nt := by rfl) : RCall P f [a0, a1, a2] h R := by
  subst hn
  exact .of hmix hA (H (startTS A.nt [a0, a1, a2]) hl rfl rfl rfl)
theorem WF.ce {P : Program} {ro : Option Nat → Prop} {ks : List Kt} {ts : TS} {h : AHeap} {Q : Ex → TS → AHeap → Prop} {q : Bool} {f : FuncId} {A : AFunc} (hA : compileFn P f = some A) {a c args : List AV} {d : Option Nat} {l : List IOp} {V : AV} (H : RCall P f (a ++ args ++ c) h (fun v _ => v = V)) (K : ∀ g, WP P ro l ks (put ts d V) (h ++ g) Q) : WF P ro q (.func (.func f) a c) args d l ks ts h Q :=
  WF.res hA H fun _ g e => e ▸ K g
theorem ldx {W : AHeap} {b : Nat} {B : ABlk} (h : W[b]? = some B) {k : AHeap} {n : Option Nat} {a : Nat} (e : Ext W k) : loadF n (.ptr b a) (fun z => k[z]?) = ldB n a B := loadF_at (e.some h)
theorem dltT {k n : Nat} (h : k < n) : decide ((k : Int) < (n : Int)) = true := decide_eq_true (by omega)
theorem dltF {k n : Nat} (h : ¬ k < n) : decide ((k : Int) < (n : Int)) = false := decide_eq_false (by omega)
end Go.Abs
namespace Go.Abs
def whenS (c : Bool) (e : Int) : Int := if c then e else 0
def rangeS (n lo hi : Int) : Int := if n < lo ∨ hi < n then 3 else 0
def firstS : List Int → Int
  | [] => 0
  | x :: xs => if x = 0 then firstS xs else x
def letterS (c : UInt8) : Bool := (65 ≤ c.toNat && c.toNat ≤ 90) || (97 ≤ c.toNat && c.toNat ≤ 122)
def digitS (c : UInt8) : Bool := 48 ≤ c.toNat && c.toNat ≤ 57
def restS (c : UInt8) : Bool := letterS c || digitS c || c.toNat == 95
def nameS : List UInt8 → Bool
  | [] => false
  | c :: r => decide (r.length < 24) && letterS c && r.all restS
end Go.Abs
namespace Go.Abs

section
variable {P : Program} (T : Tbl P) {h : AHeap}
include T

theorem r84 (c : Bool) (e : Int) : RCall P 84 [.bool c, .int .i64 e] h (fun v _ => v = .int .i64 (whenS c e)) := by
  refine .of T.mix T.c84 ?_
  unfold fn84
  simp only [uset]
  cases c <;> simp only [wset] <;> rfl

theorem r104 (c : Bool) (e : Int) : RCall P 104 [.bool c, .int .i64 e] h (fun v _ => v = .int .i64 (whenS c e)) := by
  refine .of T.mix T.c104 ?_
  unfold fn104
  simp only [uset]
  cases c <;> simp only [wset] <;> rfl

theorem r80 (n lo hi : Int) : RCall P 80 [.int .i64 n, .int .i64 lo, .int .i64 hi] h (fun v _ => v = .int .i64 (rangeS n lo hi)) := by
  refine .of T.mix T.c80 ?_
  unfold fn80
  simp only [uset]
  simp +contextual only [wset, wsplit, decide_true, decide_false]
  refine ⟨fun h1 => ?_, fun h1 => ?_⟩ <;>
  · refine WF.res T.c84 (r84 T _ _) ?_
    rintro _ g rfl
    simp only [wset]
    simp [whenS, rangeS, h1]

theorem r102 (n lo hi : Int) : RCall P 102 [.int .i64 n, .int .i64 lo, .int .i64 hi] h (fun v _ => v = .int .i64 (rangeS n lo hi)) := by
  refine .of T.mix T.c102 ?_
  unfold fn102
  simp only [uset]
  simp +contextual only [wset, wsplit, decide_true, decide_false]
  refine ⟨fun h1 => ?_, fun h1 => ?_⟩ <;>
  · refine WF.res T.c104 (r104 T _ _) ?_
    rintro _ g rfl
    simp only [wset]
    simp [whenS, rangeS, h1]

theorem r56 {s} {l} (hs : IsSl h s 1 (l.map intRow)) (hl : l.length < 2 ^ 63) : RCall P 56 [s] h (fun v _ => v = .int .i64 (firstS l)) := by
  refine .of T.mix T.c56 ?_
  unfold fn56
  simp only [uset]
  have e1 : (l.map intRow).length = l.length := by simp
  simp only [wset, hs.lenG, e1]
  refine WL.inv T.mix (fun n ts h' => ∃ k : Nat, k ≤ l.length ∧ n = l.length - k ∧ h' = h ∧ firstS l = firstS (l.drop k) ∧ ts.length = 15 ∧ slot ts 5 = s ∧ slot ts 6 = .int .i64 l.length ∧ slot ts 7 = .int .i64 k) l.length
    ⟨0, by omega, rfl, rfl, rfl, rfl, rfl, rfl, rfl⟩ ?_
  rintro _ ts _ ⟨k, hk, rfl, rfl, hf, hlen, h5, h6, h7⟩
  rw [expl ts 15 hlen]
  by_cases hlt : k < l.length
  · have hd : l.drop k = l[k] :: l.drop (k + 1) := by simp
    have e2 : (l.map intRow)[k]'(by omega) = [AV.int .i64 l[k]] := by simp
    have e3 : (k : Int) < l.length := by omega
    simp +contextual (disch := omega) only [wset, wsplit, h5, h6, h7, e3, decide_true, hs.iadr, Int.toNat_natCast, hs.load1 _ e2, wrap_in]
    refine ⟨fun h1 => ?_, fun h1 => ⟨l.length - (k + 1), by omega, k + 1, by omega, rfl, ?_, rfl⟩⟩
    · rw [hf, hd, firstS, if_neg h1]
    · rw [hf, hd, firstS, if_pos (by omega)]
  · have e3 : ¬ (k : Int) < l.length := by omega
    have e4 : k = l.length := by omega
    simp +contextual (disch := omega) only [wset, h5, h6, h7, e3, decide_false, if_true]
    rw [hf, e4, List.drop_length]; rfl

end
end Go.Abs
namespace Go.Abs

def ratI (n d : Int) : Int × Int := (n.tdiv (Int.gcd n d), d.tdiv (Int.gcd n d))
def ratR (x : Int × Int) : List AV := [.int .i64 x.1, .int .i64 x.2]
theorem gcd_step {x y : Int} : Int.gcd y (x.tmod y) = Int.gcd x y := by
  show Nat.gcd y.natAbs (x.tmod y).natAbs = Nat.gcd x.natAbs y.natAbs
  rw [Int.natAbs_tmod, Nat.gcd_comm x.natAbs, Nat.gcd_rec y.natAbs x.natAbs, Nat.gcd_comm]
theorem gcd_zero {x : Int} : ((Int.gcd x 0 : Nat) : Int) = max x (-x) := by
  show ((Nat.gcd x.natAbs 0 : Nat) : Int) = _
  rw [Nat.gcd_zero_right]; omega
theorem tmod_lt {x y : Int} (h : y ≠ 0) : (x.tmod y).natAbs < y.natAbs := by
  rw [Int.natAbs_tmod]; exact Nat.mod_lt _ (by omega)
theorem gcd_le {n d : Int} (hd : 0 < d) : 1 ≤ ((Int.gcd n d : Nat) : Int) ∧ ((Int.gcd n d : Nat) : Int) ≤ d := by
  have h1 : 0 < Int.gcd n d := Nat.gcd_pos_of_pos_right _ (by omega)
  have h2 : Int.gcd n d ≤ d.natAbs := Nat.gcd_le_right _ (by omega)
  omega
theorem quo_bd {n g : Int} (hg : 1 ≤ g) {B : Int} (h : -B ≤ n ∧ n ≤ B) : -B ≤ n.tdiv g ∧ n.tdiv g ≤ B := by
  have h1 := Int.natAbs_tdiv n g
  have h2 : n.natAbs.div g.natAbs ≤ n.natAbs := Nat.div_le_self _ _
  have h3 : (n.tdiv g).natAbs ≤ n.natAbs := by rw [h1]; exact h2
  omega
theorem rat_st {n d : Int} {b : Nat} {a0 a1 : AV} : stB 2 0 (.agg [.int .i64 n, .int .i64 d]) b (.cells [a0, a1] true false) = some (undefA, .set b (.cells [.int .i64 n, .int .i64 d] true false)) := (stB_agg (l := [.int .i64 n, .int .i64 d]) rfl rfl (by show 0 + 2 ≤ 2; omega)).trans rfl
set_option maxRecDepth 10000
attribute [local irreducible] WP WC WE WB WR WF WL WG WRg WQ
section
variable {P : Program} (T : Tbl P) {h : AHeap}
include T
set_option maxHeartbeats 1000000 in
theorem r88 (a b : Int) (ha : a.natAbs < 2 ^ 62) (hb : b.natAbs < 2 ^ 62) : RCall P 88 [.int .i64 a, .int .i64 b] h (fun v _ => v = .int .i64 (Int.gcd a b : Nat)) := by
  refine .st2 15 T.mix T.c88 ?_;intro ts hlen t0 t1;unfold fn88
  refine Rs (A2 @t0 @t1) ?_
  refine WL.inv T.mix (fun n ts h' => ∃ x y : Int, n = y.natAbs ∧ h' = h ∧ Int.gcd x y = Int.gcd a b ∧ x.natAbs < 2 ^ 62 ∧ y.natAbs < 2 ^ 62 ∧ ts.length = 15 ∧ slot ts 0 = .int .i64 x ∧ slot ts 1 = .int .i64 y) b.natAbs
    ⟨a, b, rfl, rfl, rfl, ha, hb, Sn, (Sq @t0), (Sq @t1)⟩ ?_
  clear hlen t0 t1 ha hb
  rintro _ ts _ ⟨x, y, rfl, rfl, hg, hx, hy, hlen, t0, t1⟩
  by_cases hz : y = 0
  · have d1 : decide (y ≠ 0) = false := decide_eq_false fun z => z hz
    have w1 : IntKind.i64.wrap (0 - x) = -x := by rw [wrap_in (by omega) (by omega)]; omega
    refine Rs (A4 @t0 @t1 @d1 @w1) ?_
    rw [← hg, hz, gcd_zero]
  · have d1 : decide (y ≠ 0) = true := decide_eq_true hz
    have r1 := bin_rem (k := .i64) (a := x) (b := y) hz
    have hlt := tmod_lt (x := x) hz
    refine Rs (A4 @t0 @t1 @d1 @r1) ?_
    exact ⟨(x.tmod y).natAbs, hlt, y, x.tmod y, rfl, gcd_step.trans hg, hy, by omega, rfl, rfl⟩
set_option maxHeartbeats 1000000 in
theorem r53 (n d : Int) (hn : n.natAbs < 2 ^ 62) (hd : 0 < d) (hd2 : d < 2 ^ 62) : RCall P 53 [.int .i64 n, .int .i64 d] h (fun v _ => v = .agg (ratR (ratI n d))) := by
  refine .st2 16 T.mix T.c53 ?_;intro ts hlen t0 t1;unfold fn53
  have g := gcd_le (n := n) hd
  have q1 := quo_bd g.1 (n := n) (B := 2 ^ 62) (by omega)
  have q2 := quo_bd g.1 (n := d) (B := 2 ^ 62) (by omega)
  obtain ⟨G, hG⟩ : ∃ G : Int, G = ((Int.gcd n d : Nat) : Int) := ⟨_, rfl⟩
  have hr : ratI n d = (n.tdiv G, d.tdiv G) := by rw [hG]; rfl
  refine Rs (A2 @t0 @t1) ?_
  refine WF.ce T.c88 (r88 T n d hn (by omega)) fun g1 => ?_
  rw [← hG] at g q1 q2 ⊢
  have hz : G ≠ 0 := by omega
  have b1 : binK .quo (.int .i64 n) (.int .i64 G) = some (.int .i64 (n.tdiv G)) := by rw [bin_quo hz, wrap_in (by omega) (by omega)]
  have b2 : binK .quo (.int .i64 d) (.int .i64 G) = some (.int .i64 (d.tdiv G)) := by rw [bin_quo hz, wrap_in (by omega) (by omega)]
  rw [hr]
  unfold ratR
  have st := @rat_st (n.tdiv G) (d.tdiv G)
  exact Rs (A5 @t0 @t1 @b1 @b2 @st) trivial
end
end Go.Abs
namespace Go.Abs

theorem rows_of {α : Type} {row : α → List AV} {Q : α → Prop} : ∀ {cs : List (List AV)}, (∀ c ∈ cs, ∃ x, c = row x ∧ Q x) → ∃ L : List α, cs = L.map row ∧ ∀ x ∈ L, Q x
  | [], _ => ⟨[], rfl, fun _ h => by cases h⟩
  | c :: cs, h => by
    obtain ⟨x, rfl, hx⟩ := h c (List.mem_cons_self ..)
    obtain ⟨L, rfl, hL⟩ := rows_of (cs := cs) fun c hc => h c (List.mem_cons_of_mem _ hc)
    exact ⟨x :: L, rfl, fun y hy => (List.mem_cons.1 hy).elim (fun e => e ▸ hx) (hL y)⟩

theorem maxLen_lt {n} (h : n ≤ maxLen) : n < 2 ^ 63 := by unfold maxLen at h; omega

theorem ty_int {h} {k} {a} (x : TY h (.int k) a) : ∃ z, a = .int k z ∧ (Lit.int k z).wf = true := by rw [TY] at x; exact x
theorem ty_str {h} {a} (x : TY h .str a) : ∃ s : List UInt8, a = .str s ∧ s.length ≤ maxLen := by rw [TY] at x; exact x
theorem ty_sl {h} {r} {a} (x : TY h (.sl r) a) : ∃ cs : List (List AV), IsSl h a r.length cs ∧ cs.length ≤ maxLen ∧ ∀ c ∈ cs, TYs h r c := by rw [TY] at x; exact x
theorem tys_nil {h} {l} (x : TYs h [] l) : l = [] := by rw [TYs] at x; exact x
theorem tys_cons {h} {t} {ts} {l} (x : TYs h (t :: ts) l) : ∃ a l', l = a :: l' ∧ TY h t a ∧ TYs h ts l' := by rw [TYs] at x; exact x
theorem tyas_nil {h} {l} (x : TYas h [] l) : l = [] := by rw [TYas] at x; exact x
theorem tyas_cons {h} {t} {ts} {l} (x : TYas h (t :: ts) l) : ∃ a l', l = a :: l' ∧ TYa h t a ∧ TYas h ts l' := by rw [TYas] at x; exact x

theorem tya_int {h} {k} {a} (x : TYa h (.one (.int k)) a) : ∃ z, a = .int k z ∧ (Lit.int k z).wf = true := ty_int (h := h) x
theorem u8_bd {z} (h : (Lit.int .u8 z).wf = true) : 0 ≤ z ∧ z ≤ 255 := by
  simp only [Lit.wf, Bool.and_eq_true, decide_eq_true_eq] at h
  exact ⟨h.1, h.2⟩
theorem ty_flt {h} {k} {a} (x : TY h (.flt k) a) : ∃ b : Nat, a = .flt k b := by rw [TY] at x; exact x
theorem ty_flts {h : AHeap} {a : AV} (x : TY h (.sl [.flt .f32]) a) : ∃ L : List Nat, IsSl h a 1 (L.map fun b => [AV.flt .f32 b]) ∧ L.length ≤ maxLen := by
  obtain ⟨cs, hs, hl, hc⟩ := ty_sl x
  obtain ⟨L, rfl, hL⟩ := rows_of (row := fun b => [AV.flt .f32 b]) (Q := fun _ => True) fun c hcm => by
    obtain ⟨_, _, rfl, h1, x⟩ := tys_cons (hc c hcm)
    obtain rfl := tys_nil x
    obtain ⟨b, rfl⟩ := ty_flt h1
    exact ⟨b, rfl, trivial⟩
  exact ⟨L, hs, by simpa using hl⟩
end Go.Abs
namespace Go.Abs

theorem rangeS_z {n lo hi : Int} : rangeS n lo hi = 0 ↔ lo ≤ n ∧ n ≤ hi := by
  unfold rangeS
  by_cases h : n < lo ∨ hi < n
  · rw [if_pos h]; omega
  · rw [if_neg h]; omega
theorem first2 {a b : Int} (h : firstS [a, b] = 0) : a = 0 ∧ b = 0 := by
  simp only [firstS] at h
  by_cases ha : a = 0
  · rw [if_pos ha] at h
    by_cases hb : b = 0
    · exact ⟨ha, hb⟩
    · rw [if_neg hb] at h; exact absurd h hb
  · rw [if_neg ha] at h; exact absurd h ha
set_option maxRecDepth 10000
attribute [local irreducible] WP WC WE WB WR WF WL WG WRg WQ
section
variable {P : Program} (T : Tbl P) {h : AHeap}
include T
end
end Go.Abs
namespace Go.Abs

theorem td_box {x : Int × Int} {N : Nat} : boxF (.agg (ratR x)) N = some (.ptr N 0, .push (.cells (ratR x) true false)) := rfl
theorem first_w2 (a b : Bool) (x y : Int) : firstS [whenS a x, whenS b y] = if whenS a x = 0 then whenS b y else whenS a x := by
  simp only [firstS]
  by_cases h : whenS a x = 0
  · rw [if_pos h, if_pos h]
    by_cases h2 : whenS b y = 0
    · rw [if_pos h2, h2]
    · rw [if_neg h2]
  · rw [if_neg h, if_neg h]
set_option maxRecDepth 10000
attribute [local irreducible] WP WC WE WB WR WF WL WG WRg WQ
section
variable {P : Program} (T : Tbl P) {h : AHeap}
include T
end
end Go.Abs
namespace Go.Abs

theorem ext_set {h K : AHeap} {B X : ABlk} (e : Ext (h ++ [B]) K) : Ext h (K.set h.length X) := by
  obtain ⟨z, rfl⟩ := e
  rw [List.append_assoc, List.set_append_right _ _ (Nat.le_refl _)]; exact ⟨_, rfl⟩
/-- A pair stored into its box, and read out of it. -/
theorem box_s {K : AHeap} {b : Nat} {a0 a1 : AV} (m : K[b]? = some (.cells [a0, a1] true false)) {n d : Int} : storeF 2 (.ptr b 0) (.agg [.int .i64 n, .int .i64 d]) (fun z => K[z]?) = some (undefA, .set b (.cells [.int .i64 n, .int .i64 d] true false)) := by rw [storeF_at m]; exact rat_st
theorem box_l {K : AHeap} {b : Nat} {k0 : ABlk} (m : K[b]? = some k0) {n d : Int} : loadF (some 2) (.ptr b 0) (fun z => (K.set b (.cells [.int .i64 n, .int .i64 d] true false))[z]?) = some (.agg [.int .i64 n, .int .i64 d], .keep) := by
  rw [loadF_at (List.getElem?_set_self (List.getElem?_eq_some_iff.1 m).1)]; rfl
set_option maxRecDepth 10000
attribute [local irreducible] WP WC WE WB WR WF WL WG WRg WQ
section
variable {P : Program} (T : Tbl P) {h : AHeap}
include T
end
end Go.Abs
namespace Go.Abs

theorem set_ne' {K : AHeap} {a b : Nat} {X k : ABlk} (n : a ≠ b) (m : K[b]? = some k) : (K.set a X)[b]? = some k := by rw [List.getElem?_set_ne n]; exact m
theorem set_eq' {K : AHeap} {b : Nat} {X k : ABlk} (m : K[b]? = some k) : (K.set b X)[b]? = some X := List.getElem?_set_self (List.getElem?_eq_some_iff.1 m).1
set_option maxRecDepth 10000
attribute [local irreducible] WP WC WE WB WR WF WL WG WRg WQ
section
variable {P : Program} (T : Tbl P) {h : AHeap}
include T
end
end Go.Abs
namespace Go.Abs

/-- append of one row to a slice of one's own. -/
theorem WR.appR {P} {ro} {ks} {ts} {Q} {B Y} {s} {es w} {cs} {z} {d} {l}
    (hs : Fr B.length Y s es cs) (hz : z.length = es) (he : Ext B Y) (hes : 0 < es) (hsz : (cs.length + 1) * w ≤ 2 ^ 46)
    (K : ∀ (W5 : AHeap) (s' : AV), Ext B W5 → Fr B.length W5 s' es (cs ++ [z]) → s'.one = true → WP P ro l ks (put ts d s') W5 Q) :
    WR P ro (appT es w s (.slice Y.length 0 1 es) (fun b => (Y ++ [ABlk.cells z true true])[b]?) (Y ++ [ABlk.cells z true true]).length) false d l ks ts (Y ++ [ABlk.cells z true true]) Q := by
  have hyz : IsSl (Y ++ [ABlk.cells z true true]) (AV.slice Y.length 0 1 es) es [z] := by
    have := (Fr.push (N := 0) (es := es) (h := Y) (Nat.zero_le _) [z] (fun x hx => by rw [List.mem_singleton] at hx; rw [hx, hz])).isSl
    simpa using this
  refine WR.app1 (h0 := B) (cs := cs) (ys := [z]) (hs.app _) hyz hes (by simp) (by simpa using hsz) (he.trans (Ext.app _ (Ext.refl _))) ?_
  intro g' hl' hff hkp
  exact K _ _ ⟨_, rfl⟩ hff rfl

set_option maxRecDepth 10000
attribute [local irreducible] WP WC WE WB WR WF WL WG WRg WQ
section
variable {P : Program} (T : Tbl P) {h : AHeap}
include T
end
end Go.Abs
namespace Go.Abs
open Ieee

theorem cut_zero (w : Toward) (neg : Bool) (n : Nat) : w.cut neg n 0 = n := by
  cases w <;> simp [Toward.cut, Nat.mod_one]
theorem word_read (f : Format) (neg : Bool) {r : Nat} (h : r < f.signWeight) : (f.word neg r / f.signWeight % 2 == 1) = neg ∧ f.word neg r % f.signWeight = r := by
  unfold Format.word
  cases neg with
  | false => exact ⟨by simp [Nat.div_eq_of_lt h], by simp [Nat.mod_eq_of_lt h]⟩
  | true =>
    have hp : 0 < f.signWeight := Nat.two_pow_pos _
    refine ⟨?_, ?_⟩
    · simp only [if_true]
      rw [Nat.add_div_left _ hp, Nat.div_eq_of_lt h]; rfl
    · simp only [if_true]
      rw [Nat.add_mod_left, Nat.mod_eq_of_lt h]
/-- What a number that the format has exactly is read as. -/
theorem read_nearest (f : Format) (neg : Bool) {mag : Nat} {place : Int} (hm : mag ≠ 0) (h1 : mag.log2 ≤ f.fractionBits) (h2 : f.leastPlace ≤ place) (h3 : place + mag.log2 - f.fractionBits - f.leastPlace + 3 ≤ (2 ^ f.exponentBits : Nat)) (h4 : 2 ≤ f.exponentBits) :
    ∃ k : Nat, f.leastPlace ≤ place - k ∧ f.read (f.nearest neg mag place) = .number neg (mag * 2 ^ k) (place - k) := by
  obtain ⟨l, hl⟩ : ∃ l, l = mag.log2 := ⟨_, rfl⟩
  have g1 : 2 ^ l ≤ mag := by rw [hl]; exact Nat.log2_self_le hm
  have g2 : mag < 2 ^ (l + 1) := by rw [hl]; exact Nat.lt_log2_self
  unfold Format.nearest
  rw [if_neg hm]
  dsimp only
  rw [← hl] at h1 h3 ⊢
  obtain ⟨last, hlast⟩ : ∃ x, x = max (place + l - f.fractionBits) f.leastPlace := ⟨_, rfl⟩
  rw [← hlast]
  have q1 : last ≤ place := by omega
  have q2 : f.leastPlace ≤ last := by omega
  have hd : (last - place).toNat = 0 := by omega
  rw [hd, cut_zero]
  obtain ⟨k, hk⟩ : ∃ k, k = (place - last).toNat := ⟨_, rfl⟩
  obtain ⟨d, hdd⟩ : ∃ d, d = (last - f.leastPlace).toNat := ⟨_, rfl⟩
  rw [← hk, ← hdd]
  have hkl : (place - k : Int) = last := by omega
  have hB : f.binade = 2 ^ f.fractionBits := rfl
  have hBp : 0 < f.binade := Nat.two_pow_pos _
  rw [Nat.shiftLeft_eq]
  obtain ⟨kept, hkept⟩ : ∃ x, x = mag * 2 ^ k := ⟨_, rfl⟩
  have hkL : k + l ≤ f.fractionBits := by omega
  have hp4 : 4 ≤ 2 ^ f.exponentBits := Nat.pow_le_pow_right (n := 2) (by decide) h4
  have u1 : kept < 2 * f.binade := by
    rw [hkept, hB]
    have a1 : mag * 2 ^ k < 2 ^ (l + 1) * 2 ^ k := Nat.mul_lt_mul_of_pos_right g2 (Nat.two_pow_pos _)
    rw [← Nat.pow_add] at a1
    have a2 : 2 ^ (l + 1 + k) ≤ 2 ^ (f.fractionBits + 1) := Nat.pow_le_pow_right (by decide) (by omega)
    rw [Nat.pow_succ 2 f.fractionBits] at a2
    omega
  have u2 : 0 < d → f.binade ≤ kept := fun hd0 => by
    rw [hkept, hB]
    have a1 : 2 ^ l * 2 ^ k ≤ mag * 2 ^ k := Nat.mul_le_mul_right _ g1
    rw [← Nat.pow_add] at a1
    have : l + k = f.fractionBits := by omega
    rw [this] at a1; exact a1
  rw [← hkept]
  have hinf : d * f.binade + kept < f.infRung := by
    have e : f.infRung = (2 ^ f.exponentBits - 1) * f.binade := rfl
    have : (d + 2) * f.binade ≤ f.infRung := by rw [e]; exact Nat.mul_le_mul_right _ (by omega)
    rw [Nat.add_mul] at this; omega
  rw [Nat.min_eq_left (by omega)]
  have hw := word_read f neg (r := d * f.binade + kept) (Nat.lt_trans hinf f.infRung_lt)
  refine ⟨k, by omega, ?_⟩
  rw [hkl]
  unfold Format.read
  dsimp only
  rw [hw.1, hw.2]
  by_cases hlow : d * f.binade + kept < f.binade
  · rw [if_pos hlow]
    have hd0 : d = 0 := by
      rcases Nat.eq_zero_or_pos d with h | h
      · exact h
      · have := u2 h; omega
    rw [hd0, Nat.zero_mul, Nat.zero_add]
    have : last = f.leastPlace := by omega
    rw [this, hkept]
  · rw [if_neg hlow, if_pos hinf]
    have hge : f.binade ≤ kept := by
      rcases Nat.eq_zero_or_pos d with h | h
      · rw [h, Nat.zero_mul] at hlow; omega
      · exact u2 h
    have e1 : d * f.binade + kept = (kept - f.binade) + f.binade * (d + 1) := by rw [Nat.mul_add, Nat.mul_comm f.binade d]; omega
    have e2 : (d * f.binade + kept) % f.binade = kept - f.binade := by rw [e1, Nat.add_mul_mod_self_left, Nat.mod_eq_of_lt (by omega)]
    have e3 : (d * f.binade + kept) / f.binade = d + 1 := by rw [e1, Nat.add_mul_div_left _ _ hBp, Nat.div_eq_of_lt (by omega)]; omega
    rw [e2, e3]
    have e4 : f.binade + (kept - f.binade) = kept := by omega
    have e5 : f.leastPlace + ((d + 1 - 1 : Nat) : Int) = last := by omega
    rw [e4, e5, hkept]
theorem log2_shift {m : Nat} (hm : m ≠ 0) (j : Nat) : (m * 2 ^ j).log2 = m.log2 + j := by
  have hp : 0 < 2 ^ j := Nat.two_pow_pos _
  refine (Nat.log2_eq_iff (Nat.mul_ne_zero hm (by omega))).2 ⟨?_, ?_⟩
  · rw [Nat.pow_add]; exact Nat.mul_le_mul_right _ (Nat.log2_self_le hm)
  · rw [show m.log2 + j + 1 = m.log2 + 1 + j by omega, Nat.pow_add]; exact Nat.mul_lt_mul_of_pos_right Nat.lt_log2_self hp
theorem cut_exact (neg : Bool) {n D : Nat} (hn : n ≠ 0) : Toward.even.cut neg (n * 2 ^ D) D = n := by
  have hp : 0 < 2 ^ D := Nat.two_pow_pos _
  have hl := log2_shift hn D
  unfold Toward.cut
  dsimp only
  rw [Nat.min_eq_left (by omega), Nat.shiftLeft_eq, Nat.one_mul, Nat.mul_div_cancel _ hp, Nat.mul_mod_left]
  have h1 : decide (2 ^ D < 2 * 0) = false := decide_eq_false (by omega)
  have h2 : (2 ^ D == 2 * 0) = false := by simp
  rw [h1, h2]; rfl
theorem nearest_shift (f : Format) (neg : Bool) {m j : Nat} {place : Int} (hm : m ≠ 0) (h1 : m.log2 ≤ f.fractionBits) (h2 : f.leastPlace ≤ place + j) : f.nearest neg (m * 2 ^ j) place = f.nearest neg m (place + j) := by
  have hp : 0 < 2 ^ j := Nat.two_pow_pos _
  unfold Format.nearest
  rw [if_neg hm, if_neg (Nat.mul_ne_zero hm (by omega))]
  dsimp only
  rw [log2_shift hm]
  have e1 : max (place + ((m.log2 + j : Nat) : Int) - f.fractionBits) f.leastPlace = max (place + (j : Int) + m.log2 - f.fractionBits) f.leastPlace := by congr 1; omega
  rw [e1]
  obtain ⟨last, hlast⟩ : ∃ x, x = max (place + (j : Int) + m.log2 - f.fractionBits) f.leastPlace := ⟨_, rfl⟩
  rw [← hlast]
  have hle : last ≤ place + j := by omega
  have hz : (last - (place + (j : Int))).toNat = 0 := by omega
  rw [hz, cut_zero, Nat.shiftLeft_eq, Nat.shiftLeft_eq]
  congr 2
  by_cases hc : last ≤ place
  · have hz2 : (last - place).toNat = 0 := by omega
    have e3 : j + (place - last).toNat = (place + (j : Int) - last).toNat := by omega
    rw [hz2, cut_zero, Nat.mul_assoc, ← Nat.pow_add, e3]
  · obtain ⟨D, hD⟩ : ∃ D, D = (last - place).toNat := ⟨_, rfl⟩
    have hz2 : (place - last).toNat = 0 := by omega
    rw [hz2, ← hD, Nat.pow_zero, Nat.mul_one]
    have e2 : m * 2 ^ j = m * 2 ^ (place + (j : Int) - last).toNat * 2 ^ D := by
      have e3 : (place + (j : Int) - last).toNat + D = j := by omega
      rw [Nat.mul_assoc, ← Nat.pow_add, e3]
    rw [e2, cut_exact]
    exact Nat.mul_ne_zero hm (Nat.pos_iff_ne_zero.1 (Nat.two_pow_pos _))
theorem read_zero (f : Format) (neg : Bool) (place : Int) : f.read (f.nearest neg 0 place) = .number neg 0 f.leastPlace := by
  unfold Format.nearest
  rw [if_pos rfl]
  have hw := word_read f neg (r := 0) (Nat.two_pow_pos _)
  unfold Format.read
  dsimp only
  rw [hw.1, hw.2, if_pos (show 0 < f.binade from Nat.two_pow_pos _)]
end Go.Abs
namespace Go.Abs
open Ieee

def sgN (s : Bool) (m : Nat) : Int := if s then -(m : Int) else m
/-- The value of a number, in parts of 2 ^ -1200. -/
def vl : Datum → Int
  | .number s m e => sgN s m * 2 ^ (e + 1200).toNat
  | _ => 0
theorem sgN_mul (s : Bool) (m n : Nat) : sgN s (m * n) = sgN s m * n := by
  cases s <;> simp [sgN, Int.neg_mul]
theorem signed_eq (s : Bool) (m u : Nat) : signed s m u = sgN s m * 2 ^ u := by
  unfold signed
  rw [Nat.shiftLeft_eq]
  cases s <;> simp [sgN, Int.neg_mul]
theorem cmp_int (a b : Int) : compare a b = if a < b then .lt else if a = b then .eq else .gt := rfl
theorem cmp_mul {a b c : Int} (hc : 0 < c) : compare (a * c) (b * c) = compare a b := by
  rw [cmp_int, cmp_int]
  by_cases h1 : a < b
  · rw [if_pos h1, if_pos (Int.mul_lt_mul_of_pos_right h1 hc)]
  · rw [if_neg h1, if_neg (fun z => h1 (Int.lt_of_mul_lt_mul_right z (Int.le_of_lt hc)))]
    by_cases h2 : a = b
    · rw [if_pos h2, if_pos (by rw [h2])]
    · rw [if_neg h2, if_neg (fun z => h2 (Int.eq_of_mul_eq_mul_right (by omega) z))]
theorem two_pos (n : Nat) : (0 : Int) < 2 ^ n := Int.pow_pos (by decide)
theorem vl_base {s : Bool} {m : Nat} {i b : Int} (hb : b ≤ i) (h0 : -1200 ≤ b) : vl (.number s m i) = signed s m (i - b).toNat * 2 ^ (b + 1200).toNat := by
  rw [signed_eq, Int.mul_assoc, ← Int.pow_add]
  show sgN s m * 2 ^ (i + 1200).toNat = _
  congr 2
  omega
theorem ord_vl {s t : Bool} {m n : Nat} {i j : Int} (hi : -1200 ≤ i) (hj : -1200 ≤ j) : (Datum.number s m i).order (.number t n j) = some (compare (vl (.number s m i)) (vl (.number t n j))) := by
  rw [vl_base (b := min i j) (by omega) (by omega), vl_base (s := t) (b := min i j) (by omega) (by omega), cmp_mul (two_pos _)]
  rfl
/-- A float that is a number of this value. -/
def Num (k : FloatKind) (b : Nat) (v : Int) : Prop := ∃ s m e, k.format.read b = .number s m e ∧ -1200 ≤ e ∧ v = vl (.number s m e)
theorem num_ord {k a b u v} (ha : Num k a u) (hb : Num k b v) : k.format.order a b = some (compare u v) := by
  obtain ⟨s, m, e, h1, h2, rfl⟩ := ha
  obtain ⟨t, n, d, h3, h4, rfl⟩ := hb
  unfold Format.order
  rw [h1, h3]; exact ord_vl h2 h4
theorem cmp_lt (u v : Int) : (some (compare u v) == some Ordering.lt) = decide (u < v) := by
  rw [cmp_int]
  by_cases h1 : u < v
  · rw [if_pos h1, decide_eq_true h1]; rfl
  · rw [if_neg h1, decide_eq_false h1]
    split <;> rfl
theorem cmp_eq (u v : Int) : (some (compare u v) == some Ordering.eq) = decide (u = v) := by
  rw [cmp_int]
  by_cases h1 : u < v
  · rw [if_pos h1, decide_eq_false (by omega)]; rfl
  · rw [if_neg h1]
    by_cases h2 : u = v
    · rw [if_pos h2, decide_eq_true h2]; rfl
    · rw [if_neg h2, decide_eq_false h2]; rfl
theorem cmp_gt (u v : Int) : (some (compare u v) == some Ordering.gt) = decide (v < u) := by
  rw [cmp_int]
  by_cases h1 : u < v
  · rw [if_pos h1, decide_eq_false (by omega)]; rfl
  · rw [if_neg h1]
    by_cases h2 : u = v
    · rw [if_pos h2, decide_eq_false (by omega)]; rfl
    · rw [if_neg h2, decide_eq_true (by omega)]; rfl
section
variable {k : FloatKind} {a b : Nat} {u v : Int} (ha : Num k a u) (hb : Num k b v)
include ha hb
theorem num_lss : binK .lss (.flt k a) (.flt k b) = some (.bool (decide (u < v))) := by
  simp only [binK, if_true, fltBin, num_ord ha hb, cmp_lt]
theorem num_gtr : binK .gtr (.flt k a) (.flt k b) = some (.bool (decide (v < u))) := by
  simp only [binK, if_true, fltBin, num_ord ha hb, cmp_gt]
theorem num_eql : binK .eql (.flt k a) (.flt k b) = some (.bool (decide (u = v))) := by
  simp only [binK, if_true, fltBin, num_ord ha hb, cmp_eq]
theorem num_neq : binK .neq (.flt k a) (.flt k b) = some (.bool (decide (u ≠ v))) := by
  simp only [binK, if_true, fltBin, num_ord ha hb, bne, cmp_eq]
  by_cases h : u = v <;> simp [h]
theorem num_leq : binK .leq (.flt k a) (.flt k b) = some (.bool (decide (u ≤ v))) := by
  simp only [binK, if_true, fltBin, num_ord ha hb, cmp_lt, cmp_eq]
  congr 2
  by_cases h : u < v
  · simp [h, Int.le_of_lt h]
  · by_cases h2 : u = v
    · simp [h2]
    · rw [decide_eq_false h, decide_eq_false h2, decide_eq_false (by omega)]; rfl
end
/-- A number that the format has. -/
def ExF (f : Format) (m : Nat) (i : Int) : Prop := m = 0 ∨ ∃ m' j : Nat, m = m' * 2 ^ j ∧ m' ≠ 0 ∧ m'.log2 ≤ f.fractionBits ∧ f.leastPlace ≤ i + j ∧ i + j + m'.log2 - f.fractionBits - f.leastPlace + 3 ≤ (2 ^ f.exponentBits : Nat)
theorem least_ge (k : FloatKind) : -1200 ≤ k.format.leastPlace := by cases k <;> decide
theorem exp_ge (k : FloatKind) : 2 ≤ k.format.exponentBits := by cases k <;> decide
theorem num_write {k : FloatKind} {s : Bool} {m : Nat} {i : Int} (hi : -1200 ≤ i) (h : ExF k.format m i) : Num k (k.format.write (.number s m i)) (vl (.number s m i)) := by
  have hl := least_ge k
  show Num k (k.format.nearest s m i) _
  rcases h with rfl | ⟨m', j, rfl, h1, h2, h3, h4⟩
  · exact ⟨s, 0, _, read_zero _ _ _, hl, by cases s <;> simp [vl, sgN]⟩
  · rw [nearest_shift _ _ h1 h2 h3]
    obtain ⟨q, h5, h6⟩ := read_nearest k.format s h1 h2 h3 h4 (exp_ge k)
    refine ⟨s, _, _, h6, by omega, ?_⟩
    show sgN s (m' * 2 ^ j) * 2 ^ (i + 1200).toNat = sgN s (m' * 2 ^ q) * 2 ^ (i + j - q + 1200).toNat
    rw [sgN_mul, sgN_mul, Int.mul_assoc, Int.mul_assoc]
    congr 1
    have e : ∀ a b : Nat, ((2 ^ a : Nat) : Int) * 2 ^ b = 2 ^ (a + b) := fun a b => by rw [Int.natCast_pow, Int.pow_add]; rfl
    rw [e, e]
    congr 1
    omega
end Go.Abs
namespace Go.Abs
open Ieee

theorem read_fin {f : Format} {w : Nat} {s m e} (h : f.read w = .number s m e) : m < 2 * f.binade ∧ f.leastPlace ≤ e := by
  have hp : 0 < f.binade := Nat.two_pow_pos _
  unfold Format.read at h
  dsimp only at h
  split at h
  · cases h; exact ⟨by omega, Int.le_refl _⟩
  · split at h
    · cases h
      have := Nat.mod_lt (w % f.signWeight) hp
      exact ⟨by omega, by omega⟩
    · split at h <;> cases h
theorem log_fin {f : Format} {w : Nat} {s m e} (h : f.read w = .number s m e) (hm : m ≠ 0) : m.log2 ≤ f.fractionBits := by
  have h1 := (read_fin h).1
  have h2 := Nat.log2_self_le hm
  have e : 2 * f.binade = 2 ^ (f.fractionBits + 1) := by rw [Nat.pow_succ]; show 2 * 2 ^ f.fractionBits = _; omega
  rw [e] at h1
  have := (Nat.pow_lt_pow_iff_right (a := 2) (by decide)).1 (Nat.lt_of_le_of_lt h2 h1)
  omega
def bU : Nat := 1200
theorem bU_eq : (bU : Int) = 1200 := rfl
def UU : Int := 2 ^ bU
theorem UU_pos : 0 < UU := two_pos _
theorem vl_at {s : Bool} {m : Nat} {e : Int} (he : 0 ≤ e) : vl (.number s m e) = sgN s m * 2 ^ e.toNat * UU := by
  show sgN s m * 2 ^ (e + 1200).toNat = _
  have h1 := bU_eq
  have h2 : (e + 1200).toNat = e.toNat + bU := by omega
  rw [Int.mul_assoc, UU, ← Int.pow_add, h2]
theorem sgN_int (n : Int) : sgN (decide (n < 0)) n.natAbs = n := by
  by_cases h : n < 0
  · rw [decide_eq_true h]; unfold sgN; simp only [if_true]; omega
  · rw [decide_eq_false h]; unfold sgN; simp only [Bool.false_eq_true, if_false]; omega
/-- An integer as a float. -/
theorem num_int {k : FloatKind} {n : Int} (h : n.natAbs < 2 ^ (k.format.fractionBits + 1)) : Num k (k.nearest n) (n * UU) := by
  have hx : ExF k.format n.natAbs 0 := by
    by_cases hz : n.natAbs = 0
    · exact .inl hz
    · have h2 := Nat.log2_self_le hz
      have := (Nat.pow_lt_pow_iff_right (a := 2) (by decide)).1 (Nat.lt_of_le_of_lt h2 h)
      refine .inr ⟨n.natAbs, 0, by simp, hz, by omega, ?_, ?_⟩
      · cases k <;> decide
      · cases k
        · have e1 : FloatKind.f32.format.fractionBits = 23 := rfl
          have e2 : FloatKind.f32.format.leastPlace = -149 := by decide
          have e3 : (2 ^ FloatKind.f32.format.exponentBits : Nat) = 256 := by decide
          rw [e1, e2, e3]; rw [e1] at this; omega
        · have e1 : FloatKind.f64.format.fractionBits = 52 := rfl
          have e2 : FloatKind.f64.format.leastPlace = -1074 := by decide
          have e3 : (2 ^ FloatKind.f64.format.exponentBits : Nat) = 2048 := by decide
          rw [e1, e2, e3]; rw [e1] at this; omega
  have := num_write (s := decide (n < 0)) (by omega) hx
  rw [vl_at (Int.le_refl 0), sgN_int] at this
  simp only [Int.toNat_zero, Int.pow_zero, Int.mul_one] at this
  exact this
/-- A float cut to an integer. -/
theorem toInt_vl {s : Bool} {m : Nat} {e : Int} (h0 : -1200 ≤ e) : (Datum.number s m e).toInt .zero = some ((vl (.number s m e)).tdiv UU) := by
  have hz : ∀ n d : Nat, Toward.zero.cut s n d = n / 2 ^ d := fun n d => by
    unfold Toward.cut
    dsimp only
    rw [Nat.shiftLeft_eq, Nat.one_mul]
    show _ + 0 = _
    rw [Nat.add_zero]
    by_cases hd : d ≤ n.log2 + 2
    · rw [Nat.min_eq_left hd]
    · rw [Nat.min_eq_right (by omega)]
      have a1 : n < 2 ^ (n.log2 + 2) := Nat.lt_of_lt_of_le Nat.lt_log2_self (Nat.pow_le_pow_right (by decide) (by omega))
      have a2 : n < 2 ^ d := Nat.lt_of_lt_of_le a1 (Nat.pow_le_pow_right (by decide) (by omega))
      rw [Nat.div_eq_of_lt a1, Nat.div_eq_of_lt a2]
  have key : ∀ q : Nat, signed s q 0 = sgN s q := fun q => by rw [signed_eq, Int.pow_zero, Int.mul_one]
  unfold Datum.toInt Datum.integral
  dsimp only
  rw [hz, key, Nat.shiftLeft_eq]
  congr 1
  have hU : UU ≠ 0 := by have := UU_pos; omega
  by_cases he : 0 ≤ e
  · rw [vl_at he, Int.mul_tdiv_cancel _ hU, show (-e).toNat = 0 by omega, Nat.pow_zero, Nat.div_one, sgN_mul, Int.natCast_pow]; rfl
  · have e1 : UU = 2 ^ (e + 1200).toNat * 2 ^ (-e).toNat := by
      have h1 := bU_eq
      have h2 : (e + 1200).toNat + (-e).toNat = bU := by omega
      rw [UU, ← Int.pow_add, h2]
    have e2 : vl (.number s m e) = sgN s m * 2 ^ (e + 1200).toNat := rfl
    rw [e2, e1, Int.mul_comm (sgN s m), Int.mul_tdiv_mul_of_pos _ _ (two_pos _), show e.toNat = 0 by omega, Nat.pow_zero, Nat.mul_one]
    have hc : ((2 ^ (-e).toNat : Nat) : Int) = 2 ^ (-e).toNat := by rw [Int.natCast_pow]; rfl
    cases s
    · show ((m / 2 ^ (-e).toNat : Nat) : Int) = (m : Int).tdiv _
      rw [← hc, ← Int.ofNat_tdiv]
    · show -((m / 2 ^ (-e).toNat : Nat) : Int) = (-(m : Int)).tdiv _
      rw [← hc, Int.neg_tdiv, ← Int.ofNat_tdiv]
theorem num_toInt {k b v} (h : Num k b v) : (k.decode b).toInt .zero = some (v.tdiv UU) := by
  obtain ⟨s, m, e, h1, h2, rfl⟩ := h
  show (k.format.read b).toInt .zero = _
  rw [h1]; exact toInt_vl h2
theorem num_nan {k b v} (h : Num k b v) : nanB k b = false := by
  obtain ⟨s, m, e, h1, _, _⟩ := h
  rw [nanB_isNaN, h1]; rfl
/-- A float less itself. -/
theorem sub_self {k b v} (h : Num k b v) : binK .sub (.flt k b) (.flt k b) = some (.flt k 0) := by
  obtain ⟨s, m, e, h1, _, _⟩ := h
  have : k.format.sub b b = some 0 := by
    unfold Format.sub
    rw [h1]
    have hs : (Datum.number s m e).sum (Datum.number s m e).opposite = some (.number false 0 e) := by
      unfold Datum.opposite Datum.sum
      dsimp only
      have ht : signed s m (e - min e e).toNat + signed (!s) m (e - min e e).toNat = 0 := by
        rw [signed_eq, signed_eq]
        cases s <;> simp [sgN] <;> omega
      rw [ht]
      cases s <;> simp
    rw [hs]
    show some (k.format.nearest false 0 e) = some 0
    unfold Format.nearest
    rw [if_pos rfl]; rfl
  simp only [binK, if_true, fltBin, this, fltRes]
end Go.Abs
namespace Go.Abs
open Ieee

theorem read_fin2 {f : Format} {w : Nat} {s m e} (h : f.read w = .number s m e) (h2 : 2 ≤ f.exponentBits) : e - f.leastPlace + 3 ≤ (2 ^ f.exponentBits : Nat) := by
  have hp : 0 < f.binade := Nat.two_pow_pos _
  have hp4 : 4 ≤ 2 ^ f.exponentBits := Nat.pow_le_pow_right (n := 2) (by decide) h2
  unfold Format.read at h
  dsimp only at h
  split at h
  · cases h; omega
  · split at h
    · rename_i h3
      cases h
      have e1 : f.infRung = (2 ^ f.exponentBits - 1) * f.binade := rfl
      rw [e1] at h3
      have := (Nat.div_lt_iff_lt_mul hp).2 h3
      omega
    · split at h <;> cases h
def c16 : FloatKind → Nat
  | .f32 => 1098907648
  | .f64 => 4625196817309499392
theorem read_c16 (k : FloatKind) : k.format.read (c16 k) = .number false (2 ^ k.format.fractionBits) (4 - (k.format.fractionBits : Int)) := by cases k <;> decide
theorem sgN_abs (s : Bool) (m : Nat) : (sgN s m).natAbs = m := by cases s <;> simp [sgN]
theorem abs_pow (n : Nat) : ((2 : Int) ^ n).natAbs = 2 ^ n := by rw [Int.natAbs_pow]; rfl
theorem vl_abs (s : Bool) (m : Nat) (e : Int) : (vl (.number s m e)).natAbs = m * 2 ^ (e + 1200).toNat := by
  show (sgN s m * 2 ^ (e + 1200).toNat).natAbs = _
  rw [Int.natAbs_mul, sgN_abs, abs_pow]
theorem UU_abs : UU.natAbs = 2 ^ bU := abs_pow _
theorem pow_le' {a b : Nat} (h : 2 ^ a ≤ 2 ^ b) : a ≤ b := (Nat.pow_le_pow_iff_right (a := 2) (by decide)).1 h
theorem pow_lt' {a b : Nat} (h : 2 ^ a < 2 ^ b) : a < b := (Nat.pow_lt_pow_iff_right (a := 2) (by decide)).1 h
/-- How great a number is, by its parts. -/
theorem vl_le {s m e} (hm : m ≠ 0) (he : -1200 ≤ e) {c : Nat} (h : (vl (.number s m e)).natAbs ≤ 2 ^ c * UU.natAbs) : e + m.log2 ≤ c := by
  rw [vl_abs, UU_abs, ← Nat.pow_add] at h
  have h2 : 2 ^ m.log2 * 2 ^ (e + 1200).toNat ≤ m * 2 ^ (e + 1200).toNat := Nat.mul_le_mul_right _ (Nat.log2_self_le hm)
  rw [← Nat.pow_add] at h2
  have := pow_le' (Nat.le_trans h2 h)
  have h1 := bU_eq
  omega
theorem vl_ge {s m e} (he : -1200 ≤ e) (h : UU.natAbs ≤ (vl (.number s m e)).natAbs) : 0 ≤ e + m.log2 := by
  rw [vl_abs, UU_abs] at h
  have h2 : m * 2 ^ (e + 1200).toNat < 2 ^ (m.log2 + 1) * 2 ^ (e + 1200).toNat := Nat.mul_lt_mul_of_pos_right Nat.lt_log2_self (Nat.two_pow_pos _)
  rw [← Nat.pow_add] at h2
  have := pow_lt' (Nat.lt_of_le_of_lt h h2)
  have h1 := bU_eq
  omega
theorem fmt_facts (k : FloatKind) : (k.format.fractionBits = 23 ∧ k.format.leastPlace = -149 ∧ (2 ^ k.format.exponentBits : Nat) = 256) ∨ (k.format.fractionBits = 52 ∧ k.format.leastPlace = -1074 ∧ (2 ^ k.format.exponentBits : Nat) = 2048) := by
  cases k
  · exact .inl ⟨rfl, by decide, by decide⟩
  · exact .inr ⟨rfl, by decide, by decide⟩
theorem vl_scale {s : Bool} {m j : Nat} {i i' : Int} (h0 : -1200 ≤ i) (hi : i + j = i') : vl (.number s (m * 2 ^ j) i) = vl (.number s m i') := by
  show sgN s (m * 2 ^ j) * 2 ^ (i + 1200).toNat = sgN s m * 2 ^ (i' + 1200).toNat
  rw [sgN_mul, Int.natCast_pow, Int.mul_assoc]
  have e : (i' + 1200).toNat = j + (i + 1200).toNat := by omega
  rw [e, Int.pow_add]; rfl
theorem vl_up {s : Bool} {m : Nat} {i : Int} (h0 : -1200 ≤ i) : vl (.number s m (i + 4)) = 16 * vl (.number s m i) := by
  show sgN s m * 2 ^ (i + 4 + 1200).toNat = 16 * (sgN s m * 2 ^ (i + 1200).toNat)
  have e : (i + 4 + 1200).toNat = (i + 1200).toNat + 4 := by omega
  rw [e, Int.pow_add, ← Int.mul_assoc, Int.mul_comm]; rfl
/-- A product by 16. -/
theorem mul16 {k b v} (h : Num k b v) (hv : v.natAbs ≤ 2 ^ 10 * UU.natAbs) : ∃ q, binK .mul (.flt k b) (.flt k (c16 k)) = some (.flt k q) ∧ binK .mul (.flt k (c16 k)) (.flt k b) = some (.flt k q) ∧ Num k q (16 * v) := by
  obtain ⟨s, m, e, h1, h2, rfl⟩ := h
  have hc := read_c16 k
  have hf := fmt_facts k
  have hl := (read_fin h1).2
  obtain ⟨F, hF⟩ : ∃ F, F = k.format.fractionBits := ⟨_, rfl⟩
  have p1 : k.format.mul b (c16 k) = some (k.format.write (.number s (m * 2 ^ F) (e + (4 - (F : Int))))) := by
    unfold Format.mul; rw [h1, hc, ← hF]; simp [Datum.product]
  have p2 : k.format.mul (c16 k) b = some (k.format.write (.number s (m * 2 ^ F) (e + (4 - (F : Int))))) := by
    unfold Format.mul; rw [h1, hc, ← hF]; simp [Datum.product, Nat.mul_comm, Int.add_comm]
  refine ⟨k.format.write (.number s (m * 2 ^ F) (e + (4 - (F : Int)))), ?_, ?_, ?_⟩
  · simp only [binK, if_true, fltBin, p1, fltRes]
  · simp only [binK, if_true, fltBin, p2, fltRes]
  · have hx : ExF k.format (m * 2 ^ F) (e + (4 - (F : Int))) := by
      by_cases hm : m = 0
      · exact .inl (by rw [hm, Nat.zero_mul])
      · have hb := vl_le hm h2 hv
        exact .inr ⟨m, F, rfl, hm, log_fin h1 hm, by omega, by omega⟩
    have := num_write (k := k) (s := s) (by omega) hx
    rw [vl_scale (i' := e + 4) (by omega) (by omega), vl_up h2] at this
    exact this
/-- A quotient by 16. -/
theorem quo16 {k b v} (h : Num k b v) (hv : v = 0 ∨ UU.natAbs ≤ v.natAbs) : ∃ q w, binK .quo (.flt k b) (.flt k (c16 k)) = some (.flt k q) ∧ Num k q w ∧ 16 * w = v := by
  obtain ⟨s, m, e, h1, h2, rfl⟩ := h
  have hc := read_c16 k
  have hf := fmt_facts k
  have hl := (read_fin h1).2
  have hu := read_fin2 h1 (exp_ge k)
  obtain ⟨F, hF⟩ : ∃ F, F = k.format.fractionBits := ⟨_, rfl⟩
  have hp : 0 < 2 ^ F := Nat.two_pow_pos _
  by_cases hm : m = 0
  · subst hm
    have p1 : k.format.div b (c16 k) = some (k.format.write (.number s 0 (e - (4 - (F : Int)) - ((F + 2 + (2 ^ F).log2 : Nat) : Int) - 1))) := by
      unfold Format.div; rw [h1, hc, ← hF]
      show Option.map k.format.write (if 2 ^ F = 0 then _ else _) = _
      rw [if_neg (by omega)]
      simp [Nat.shiftLeft_eq]
    refine ⟨_, _, by simp only [binK, if_true, fltBin, p1, fltRes]; rfl, num_write ?_ (.inl rfl), by simp [vl, sgN]⟩
    have : (2 ^ F).log2 = F := Nat.log2_two_pow
    omega
  · have hlm := log_fin h1 hm
    have hlF : (2 ^ F).log2 = F := Nat.log2_two_pow
    obtain ⟨t, ht⟩ : ∃ t, t = F + 2 - m.log2 := ⟨_, rfl⟩
    have hmore : F + 2 + (2 ^ F).log2 - m.log2 = t + F := by omega
    have p1 : k.format.div b (c16 k) = some (k.format.write (.number s (m * 2 ^ (t + 1)) (e - (4 - (F : Int)) - ((t + F : Nat) : Int) - 1))) := by
      unfold Format.div; rw [h1, hc, ← hF]
      show Option.map k.format.write (if 2 ^ F = 0 then _ else _) = _
      rw [if_neg (by omega)]
      rw [hmore, Nat.shiftLeft_eq, Nat.pow_add, ← Nat.mul_assoc, Nat.mul_div_cancel _ hp, Nat.mul_mod_left]
      have e2 : 2 * (m * 2 ^ t) + ((0 : Nat) != 0).toNat = m * 2 ^ (t + 1) := by
        rw [Nat.pow_succ]
        show 2 * (m * 2 ^ t) + 0 = _
        rw [Nat.add_zero, Nat.mul_comm 2, Nat.mul_assoc]
      rw [e2]
      simp
    have hx : ExF k.format (m * 2 ^ (t + 1)) (e - (4 - (F : Int)) - ((t + F : Nat) : Int) - 1) := by
      have hg : UU.natAbs ≤ (vl (.number s m e)).natAbs := by
        rcases hv with hv | hv
        · have h3 := vl_abs s m e
          rw [hv] at h3
          have : 0 < m * 2 ^ (e + 1200).toNat := Nat.mul_pos (by omega) (Nat.two_pow_pos _)
          simp at h3
          omega
        · exact hv
      have hb := vl_ge h2 hg
      exact .inr ⟨m, t + 1, rfl, hm, hlm, by omega, by omega⟩
    refine ⟨_, _, by simp only [binK, if_true, fltBin, p1, fltRes]; rfl, num_write (by omega) hx, ?_⟩
    rw [vl_scale (i' := e - 4) (by omega) (by omega), ← vl_up (by omega), show e - 4 + 4 = e by omega]
end Go.Abs
