/- The abstract layer: an input that is read, laid as a heap of ours. No condition. · The abstract layer: package-level variables that are laid; a row of the kind 'the result is true', closed. No condition. · The functions in the small code. No condition. · The abstract layer: loops over functions, by what the function yields. No condition. · The abstract layer: append on an empty literal; stores into a slice of one's own; make and copy. No condition. · The abstract layer, part RH: rules for the regions whose stores may come before loads of other blocks. No condition. · The abstract layer: slots of a long row, one by one. No condition. · Short words for what the walks repeat. No condition. · Errors, ranges, names; plain. No condition. · Contracts: errors, ranges. No condition. · Contracts: the greatest common divisor, quotients in lowest terms. No condition. · What the rows of the filter have in common: the arguments' types. No condition. · Tides: their errors, the level at a tick. Contracts. No condition. · Contracts: the errors of tides. No condition. · Contracts: the reference's errors of tides; the level at a tick. No condition. · Contracts: the level at a tick. No condition. · Contracts: the level with its checks; the seat's own helpers: short rows, rows turned, levels compared. No condition. · Numbers that a floating point format has exactly. No condition. · The value of a number; comparisons, sums and products of numbers that a format has. No condition. · Constants, integers as floats and back, products by 16, differences. No condition. · Products and quotients by 16, the greater format. No condition. -/
import Derived.Test.YtfcfelnabfaelaaDoorKl4
import Derived.ChangeArms
import Derived.Deep.Slices
import Derived.WideShapes
import Derived.ChangeShapes
import Derived.ChangeMaps5
import Derived.OpenShut
import Derived.Carry
import Derived.ChangeSame
import Derived.RowKit
import Derived.ProofKit
import Derived.LaidMore
import Derived.Lay
import Derived.SevenTiedAt
import Derived.Stop.Joined
import Derived.Laws.FloatBits
import Derived.Test.YtfcfelnabfaelaaDoorKl1
set_option linter.all false
namespace Go.Abs
open Go.ChangeShapes Go.WideShapes Go.Deep

/-- The type of a cell. -/
inductive CT where
  | int (k : IntKind)
  | bool
  | str
  | flt (k : FloatKind)
  | sl (row : List CT)

def ctFields (P : Program) (f : TypeId → Option (List CT)) : List Field → Nat → Option (List CT)
  | [], _ => some []
  | x :: r, o =>
    match f x.type with
    | some a =>
      if x.offset = o ∧ a.length = P.cellsOf x.type then
        match ctFields P f r (o + a.length) with
        | some b => some (a ++ b)
        | none => none
      else none
    | none => none

/-- The cells of a type of the program. -/
def ctOf (P : Program) : Nat → TypeId → Option (List CT)
  | 0, _ => none
  | n + 1, t =>
    match P.underlying t with
    | some (.int k) => some [.int k]
    | some .bool => some [.bool]
    | some .string => some [.str]
    | some (.float k) => some [.flt k]
    | some (.slice e) =>
      match ctOf P n e with
      | some r => if r.length = P.cellsOf e ∧ 0 < r.length then some [.sl r] else none
      | none => none
    | some (.struct fs) =>
      match ctFields P (ctOf P n) fs.toList 0 with
      | some r => if r.length = P.cellsOf t then some r else none
      | none => none
    | some (.array m e) =>
      match ctOf P n e with
      | some r => if r.length = P.cellsOf e ∧ P.cellsOf t = m * P.cellsOf e then some (List.replicate m r).flatten else none
      | none => none
    | _ => none

mutual
/-- What a cell of a type holds. -/
def TY (h : AHeap) : CT → AV → Prop
  | .int k, a => ∃ z, a = .int k z ∧ (Lit.int k z).wf = true
  | .bool, a => ∃ b, a = .bool b
  | .str, a => ∃ s : List UInt8, a = .str s ∧ s.length ≤ maxLen
  | .flt k, a => ∃ b : Nat, a = .flt k b
  | .sl r, a => ∃ cs : List (List AV), IsSl h a r.length cs ∧ cs.length ≤ maxLen ∧ ∀ c ∈ cs, TYs h r c
def TYs (h : AHeap) : List CT → List AV → Prop
  | [], l => l = []
  | t :: ts, l => ∃ a l', l = a :: l' ∧ TY h t a ∧ TYs h ts l'
end

mutual
theorem TY.ext {h k} (e : Ext h k) : ∀ {t} {a}, TY h t a → TY k t a
  | .int _, a, x => x
  | .bool, a, x => x
  | .str, a, x => x
  | .flt _, a, x => x
  | .sl r, a, x => by
    rw [TY] at x ⊢
    obtain ⟨cs, h1, h2, h3⟩ := x
    exact ⟨cs, h1.ext e, h2, fun c hc => TYs.ext e (h3 c hc)⟩
theorem TYs.ext {h k} (e : Ext h k) : ∀ {ts} {l}, TYs h ts l → TYs k ts l
  | [], l, x => x
  | t :: ts, l, x => by
    rw [TYs] at x ⊢
    obtain ⟨a, l', h1, h2, h3⟩ := x
    exact ⟨a, l', h1, TY.ext e h2, TYs.ext e h3⟩
end

theorem TY.one {h} : ∀ {t} {a}, TY h t a → a.one = true
  | .int _, a, x => by rw [TY] at x; obtain ⟨z, rfl, _⟩ := x; rfl
  | .bool, a, x => by rw [TY] at x; obtain ⟨z, rfl⟩ := x; rfl
  | .str, a, x => by rw [TY] at x; obtain ⟨z, rfl, _⟩ := x; rfl
  | .flt _, a, x => by rw [TY] at x; obtain ⟨z, rfl⟩ := x; rfl
  | .sl r, a, x => by rw [TY] at x; obtain ⟨z, h1, _⟩ := x; exact h1.one
theorem TYs.one {h} : ∀ {ts} {l}, TYs h ts l → l.all AV.one = true
  | [], l, x => by rw [TYs] at x; subst x; rfl
  | t :: ts, l, x => by
    rw [TYs] at x
    obtain ⟨a, l', rfl, h1, h2⟩ := x
    rw [List.all_cons, h1.one, TYs.one h2]; rfl
theorem TYs.length {h} : ∀ {ts} {l}, TYs h ts l → l.length = ts.length
  | [], l, x => by rw [TYs] at x; subst x; rfl
  | t :: ts, l, x => by
    rw [TYs] at x
    obtain ⟨a, l', rfl, h1, h2⟩ := x
    rw [List.length_cons, List.length_cons, TYs.length h2]
theorem TYs.append {h} : ∀ {ts us} {l m}, TYs h ts l → TYs h us m → TYs h (ts ++ us) (l ++ m)
  | [], us, l, m, x, y => by rw [TYs] at x; subst x; exact y
  | t :: ts, us, l, m, x, y => by
    rw [TYs] at x
    obtain ⟨a, l', rfl, h1, h2⟩ := x
    show TYs h (t :: (ts ++ us)) (a :: (l' ++ m))
    rw [TYs]
    exact ⟨a, _, rfl, h1, TYs.append h2 y⟩

def embOf (E : List Ent) : Emb := fun b => E[b]?
theorem embOf_le (E F : List Ent) : (embOf E).le (embOf (E ++ F)) := fun b e hb => by
  unfold embOf at hb ⊢
  rw [List.getElem?_append_left (List.getElem?_eq_some_iff.1 hb).1]; exact hb

/-- A world, and a heap of ours that is read alone. -/
structure AW (P : Program) (w : World) (E : List Ent) (B : AHeap) : Prop where
  len : E.length = B.length
  own : ∀ (b : Nat) e, E[b]? = some e → e.own = false ∧ e.cb < w.heap.size
  blk : ∀ (b : Nat) e k, E[b]? = some e → B[b]? = some k → BR P (embOf E) w e k ∧ (k = .dead ∨ ∃ c, k = .cells c false false)
  glob : ∀ g, g < P.globals.size → ∃ e, E[g]? = some e ∧ e.cb = g ∧ e.d = 0 ∧ e.own = false ∧ e.sz = gsz P g

variable {P : Program} {w : World} {E : List Ent} {B : AHeap}

theorem AW.hr (a : AW P w E B) : HR P (embOf E) B w where
  dom := fun b e hb => by rw [← a.len]; exact (List.getElem?_eq_some_iff.1 hb).1
  blk := fun b e k hb hk => (a.blk b e k hb hk).1
  sep := fun b1 b2 e1 e2 k1 k2 _ h1 h2 hk1 hk2 _ => by
    rcases (a.blk b1 e1 k1 h1 hk1).2 with rfl | ⟨c1, rfl⟩
    · cases k2 <;> trivial
    · rcases (a.blk b2 e2 k2 h2 hk2).2 with rfl | ⟨c2, rfl⟩
      · trivial
      · exact ⟨rfl, rfl, fun x => by cases x⟩
  glob := a.glob
  lt := fun b e hb => (a.own b e hb).2

theorem AW.push (a : AW P w E B) {e} {k} (ho : e.own = false) (hlt : e.cb < w.heap.size) (hb : BR P (embOf E) w e k) (hk : k = .dead ∨ ∃ c, k = .cells c false false) : AW P w (E ++ [e]) (B ++ [k]) where
  len := by simp [a.len]
  own := fun b e' h => by
    by_cases hlb : b < E.length
    · rw [List.getElem?_append_left hlb] at h; exact a.own b e' h
    · have := (List.getElem?_eq_some_iff.1 h).1
      simp at this
      have : b = E.length := by omega
      subst this
      simp at h
      subst h
      exact ⟨ho, hlt⟩
  blk := fun b e' k' h h' => by
    by_cases hlb : b < E.length
    · rw [List.getElem?_append_left hlb] at h
      rw [List.getElem?_append_left (by rw [← a.len]; exact hlb)] at h'
      exact ⟨(a.blk b e' k' h h').1.mono (embOf_le E [e]), (a.blk b e' k' h h').2⟩
    · have := (List.getElem?_eq_some_iff.1 h).1
      simp at this
      have hbe : b = E.length := by omega
      have hbb : b = B.length := by rw [hbe, a.len]
      rw [hbe] at h
      rw [hbb] at h'
      simp at h h'
      subst h; subst h'
      exact ⟨hb.mono (embOf_le E [e]), hk⟩
  glob := fun g hg => by
    obtain ⟨e', h1, h2⟩ := a.glob g hg
    exact ⟨e', embOf_le E [e] g e' h1, h2⟩

/-- Some cells are laid: the room behind what is there grows. -/
def Laid (P : Program) (w : World) (E : List Ent) (B : AHeap) (row : List CT) (cs : List Value) : Prop :=
  ∃ F C ax, AW P w (E ++ F) (B ++ C) ∧ VRs (embOf (E ++ F)) ax cs ∧ TYs (B ++ C) row ax

theorem Laid.app {row row2} {cs cs2} (h1 : Laid P w E B row cs) (h2 : ∀ F C, AW P w (E ++ F) (B ++ C) → Laid P w (E ++ F) (B ++ C) row2 cs2) : Laid P w E B (row ++ row2) (cs ++ cs2) := by
  obtain ⟨F, C, ax, a1, a2, a3⟩ := h1
  obtain ⟨F', C', ax', b1, b2, b3⟩ := h2 F C a1
  refine ⟨F ++ F', C ++ C', ax ++ ax', by rw [← List.append_assoc, ← List.append_assoc]; exact b1, ?_, ?_⟩
  · rw [← List.append_assoc]
    exact (VRs.mono (embOf_le _ _) _ _ a2).append b2
  · rw [← List.append_assoc]
    exact TYs.append (a3.ext ⟨C', rfl⟩) b3

theorem laid_nil (a : AW P w E B) : Laid P w E B [] [] := ⟨[], [], [], by simpa using a, by rw [VRs_nil], rfl⟩
theorem laid_one (a : AW P w E B) {t} {x} {v} (hv : VR (embOf E) x v) (ht : TY B t x) : Laid P w E B [t] [v] :=
  ⟨[], [], [x], by simpa using a, by simpa using VRs_cons.2 ⟨v, [], rfl, hv, by rw [VRs_nil]⟩, by
    rw [List.append_nil, TYs]; exact ⟨x, [], rfl, ht, rfl⟩⟩

section
variable {H : Type} {enc : TypeId × Value → H} {base : Nat} {held : Bool}

/-- THE ROWS OF A SLICE ARE LAID, one behind the other. -/
theorem laid_rows {es : Nat} {r : List CT} {a : Addr} {m : Nat} (row : ∀ i, i < m → ∃ cs, w.cells? base (a.add (i * es)) es = some cs ∧ ∀ E B, AW P w E B → Laid P w E B r cs) : ∀ (k : Nat) {E : List Ent} {B : AHeap}, k ≤ m → AW P w E B →
    ∃ (F : List Ent) (C : AHeap) (rows : List (List AV)) (VL : List Value), AW P w (E ++ F) (B ++ C) ∧ rows.length = k ∧ VRs (embOf (E ++ F)) rows.flatten VL ∧ (∀ c ∈ rows, TYs (B ++ C) r c) ∧ VL.length = k * es ∧ ∀ i, i < k * es → w.cell? (a.add i) = VL[i]?
  | 0, E, B, _, aw => ⟨[], [], [], [], by rw [List.append_nil, List.append_nil]; exact aw, rfl, rfl, fun c hc => by (cases hc), by rw [Nat.zero_mul]; rfl, fun i hi => by rw [Nat.zero_mul] at hi; exact absurd hi (Nat.not_lt_zero _)⟩
  | k + 1, E, B, hkm, aw => by
    obtain ⟨F, C, rows, VL, h1, h2, h3, h4, h5, h6⟩ := laid_rows row k (by omega) aw
    obtain ⟨cs, hcs, hl⟩ := row k (by omega)
    obtain ⟨F', C', ax, a1, a2, a3⟩ := hl _ _ h1
    obtain ⟨_, hlen, hcell⟩ := World.cells?_some hcs
    refine ⟨F ++ F', C ++ C', rows ++ [ax], VL ++ cs, by rw [← List.append_assoc, ← List.append_assoc]; exact a1, by rw [List.length_append, h2]; rfl, ?_, ?_, by rw [List.length_append, h5, hlen, Nat.succ_mul], ?_⟩
    · rw [← List.append_assoc, List.flatten_append]
      refine (VRs.mono (embOf_le _ _) _ _ h3).append ?_
      have : [ax].flatten = ax := by simp
      rw [this]
      exact a2
    · intro c hcm
      rw [← List.append_assoc]
      rcases List.mem_append.1 hcm with hm | hm
      · exact (h4 c hm).ext ⟨C', rfl⟩
      · rw [List.mem_singleton] at hm; subst hm; exact a3
    · intro i hi
      rw [Nat.succ_mul] at hi
      by_cases hlt : i < k * es
      · rw [h6 i hlt, List.getElem?_append_left (by omega)]
      · rw [List.getElem?_append_right (by omega), h5, ← hcell (i - k * es) (by omega), add_add, show k * es + (i - k * es) = i by omega]

/-- The fields of a struct are laid, one behind the other. -/
theorem laid_chunks {r : List CT} {cs : List Value} {s m : Nat} (hr : r.length = s) (h : ∀ i, i < m → ∀ E B, AW P w E B → Laid P w E B r ((cs.drop (i * s)).take s)) : ∀ (j i : Nat), i + j ≤ m → ∀ E B, AW P w E B → Laid P w E B (List.replicate j r).flatten ((cs.drop (i * s)).take (j * s))
  | 0, i, _, E, B, aw => by
    rw [Nat.zero_mul, List.take_zero]
    exact laid_nil aw
  | j + 1, i, hij, E, B, aw => by
    have h1 := h i (by omega) E B aw
    rw [List.replicate_succ, List.flatten_cons, show (j + 1) * s = s + j * s by rw [Nat.succ_mul, Nat.add_comm], List.take_add, List.drop_drop]
    refine h1.app fun F C aw' => ?_
    have := laid_chunks hr h j (i + 1) (by omega) _ _ aw'
    rw [Nat.succ_mul] at this
    exact this
theorem laid_fields {f : TypeId → Option (List CT)} {cs : List Value} : ∀ (l : List Field) (o : Nat) {row : List CT}, ctFields P f l o = some row →
    (∀ x ∈ l, ∀ a, f x.type = some a → ∀ E B, AW P w E B → Laid P w E B a ((cs.drop x.offset).take (P.cellsOf x.type))) → ∀ E B, AW P w E B → Laid P w E B row ((cs.drop o).take row.length)
  | [], o, row, h, _, E, B, aw => by
    unfold ctFields at h
    cases h
    rw [List.length_nil, List.take_zero]
    exact laid_nil aw
  | x :: l, o, row, h, hf, E, B, aw => by
    unfold ctFields at h
    split at h
    case h_2 => cases h
    rename_i a ha
    split at h
    case isFalse => cases h
    rename_i hc
    split at h
    case h_2 => cases h
    rename_i b hb
    cases h
    have h1 := hf x (List.mem_cons_self ..) a ha E B aw
    rw [hc.1, ← hc.2] at h1
    rw [List.length_append, List.take_add, List.drop_drop]
    exact h1.app fun F C aw' => laid_fields l _ hb (fun y hy => hf y (List.mem_cons_of_mem _ hy)) _ _ aw'

theorem trod_float {k : FloatKind} {t : TypeId} {fuel : Nat} {cs : List Value} {x : DataW H × List MemPlace} {sp : Nat → Bool} (ht : P.underlying t = some (.float k)) (h : DataW.trod enc P w base sp held fuel t cs = some x) : ∃ b, cs = [.float k b] := by
  cases fuel with
  | zero => simp [DataW.trod] at h
  | succ n =>
    unfold DataW.trod at h
    rw [ht] at h
    split at h <;> simp_all
/-- EVERYTHING THAT IS READ IS LAID. -/
theorem laid_of_trod (hz : ∃ (z : Nat) (cc : Array Value) (el : TypeId) (fz : Nat × Nat), w.heap[z]? = some (Obj.cells cc el fz)) : ∀ (n : Nat) (t : TypeId) (row : List CT), ctOf P n t = some row → ∀ (fuel : Nat) (cs : List Value) (x : DataW H × List MemPlace),
    DataW.trod enc P w base (fun _ => true) held fuel t cs = some x → ∀ E B, AW P w E B → Laid P w E B row cs
  | 0, t, row, h, _, _, _, _, _, _, _ => by cases h
  | n + 1, t, row, h, fuel, cs, x, ht, E, B, aw => by
    unfold ctOf at h
    split at h
    · rename_i k hu
      cases h
      obtain ⟨z, rfl, _, hwf⟩ := DataW.trod_int hu ht
      exact laid_one aw (x := .int k z) (by rw [VR]) (by rw [TY]; exact ⟨z, rfl, hwf⟩)
    · rename_i hu
      cases h
      obtain ⟨b, rfl, _⟩ := DataW.trod_bool hu ht
      exact laid_one aw (x := .bool b) (by rw [VR]) (by rw [TY]; exact ⟨b, rfl⟩)
    · rename_i hu
      cases h
      obtain ⟨s, rfl, _, hs⟩ := DataW.trod_string hu ht
      refine laid_one aw (x := .str s.data.toList) (by rw [VR]) (by rw [TY]; exact ⟨_, rfl, by simpa using hs⟩)
    · rename_i k hu
      cases h
      obtain ⟨b, rfl⟩ := trod_float hu ht
      exact laid_one aw (x := .flt k b) (by rw [VR]; exact ⟨b, rfl, .inl rfl⟩) (by rw [TY]; exact ⟨b, rfl⟩)
    · rename_i e hu
      split at h
      case h_2 => cases h
      rename_i r hr
      split at h
      case isFalse => cases h
      rename_i hc
      cases h
      obtain ⟨hrl, hpos⟩ := hc
      rcases open_slice hu ht with ⟨rfl, _⟩ | ⟨a, len, cap, m, n', D, Pl, rfl, hb, hl, hm, hmm, _, hx⟩
      · exact laid_one aw (x := .nilSlice) (by rw [VR]) (by rw [TY]; exact ⟨[], .nil, Nat.zero_le _, fun c hc => by cases hc⟩)
      simp only [if_true] at hmm
      subst hmm
      rw [← hrl] at hx
      by_cases hcap : m = 0
      · have hlen0 : len = 0 := by omega
        subst hlen0
        subst hcap
        obtain ⟨z, cc, el, fz, hz0⟩ := hz
        have h0lt : z < w.heap.size := (Array.getElem?_eq_some_iff.1 hz0).1
        have hbr : BR P (embOf E) w ⟨z, 0, cc.size, false⟩ (.cells [] false false) :=
          ⟨cc, el, fz, hz0, ⟨Nat.zero_le _, Nat.zero_le _, rfl⟩, fun i x hx => by (rw [List.getElem?_nil] at hx; cases hx), ⟨fun x => absurd x Bool.false_ne_true, fun x => by rcases x with x | x <;> exact absurd x Bool.false_ne_true⟩⟩
        have aw2 := aw.push (e := ⟨z, 0, cc.size, false⟩) (k := .cells [] false false) rfl h0lt hbr (.inr ⟨[], rfl⟩)
        refine ⟨[⟨z, 0, cc.size, false⟩], [.cells [] false false], [.slice B.length 0 0 r.length], aw2, ?_, ?_⟩
        · refine VRs_cons.2 ⟨_, [], rfl, ?_, by rw [VRs_nil]⟩
          rw [VR]
          exact ⟨⟨z, 0, cc.size, false⟩, a, 0, by unfold embOf; rw [← aw.len]; simp, rfl, Nat.le_refl _, fun x => absurd x (by omega), by rw [Nat.zero_mul]; exact Nat.zero_le _⟩
        · rw [TYs]
          refine ⟨_, [], rfl, ?_, by rw [TYs]⟩
          rw [TY]
          refine ⟨[], ?_, Nat.zero_le _, fun c hc => by cases hc⟩
          exact IsSl.mk (cs := []) (b := B.length) (o := 0) (c := []) (mu := false) (tl := false) (by simp) (by simp) (by simp) (fun x hx => by cases hx)
      · obtain ⟨cs0, h00, _⟩ := hx 0 (by omega)
        obtain ⟨csl, hll, _⟩ := hx (m - 1) (by omega)
        obtain ⟨_, hlen0, hc0⟩ := World.cells?_some h00
        obtain ⟨_, hlenl, hcl⟩ := World.cells?_some hll
        have hcell0 := hc0 0 hpos
        have hlast := hcl (r.length - 1) (by omega)
        rw [add_add] at hlast
        rw [add_add, Nat.zero_mul, Nat.add_zero] at hcell0
        have ha0 : a.add 0 = a := by unfold Addr.add; simp
        rw [ha0, List.getElem?_eq_getElem (by omega)] at hcell0
        unfold World.cell? at hcell0
        split at hcell0
        case h_2 => cases hcell0
        rename_i cc el fz hblk
        split at hcell0
        · cases hcell0
        rename_i hspot
        have haspot : a = ⟨a.block, a.off, none⟩ := by
          cases a with
          | mk b o s => cases s with
            | none => rfl
            | some s => exact absurd rfl hspot
        have hadd : ∀ i, a.add i = ⟨a.block, a.off + i, none⟩ := fun i => by
          unfold Addr.add
          by_cases hi : i = 0
          · subst hi; rw [if_pos rfl]; exact haspot
          · rw [if_neg hi]
        have hcellcc : ∀ i, w.cell? (a.add i) = cc[a.off + i]? := fun i => by
          rw [hadd]
          unfold World.cell?
          simp only [hblk, Option.isSome_none, Bool.false_eq_true, if_false]
        have hmr : (m - 1) * r.length + (r.length - 1) + 1 = m * r.length := by
          obtain ⟨m', rfl⟩ : ∃ m', m = m' + 1 := ⟨m - 1, by omega⟩
          rw [Nat.succ_mul]; simp only [Nat.add_sub_cancel]; omega
        have hsz : a.off + m * r.length ≤ cc.size := by
          rw [hcellcc, List.getElem?_eq_getElem (by omega)] at hlast
          have := (Array.getElem?_eq_some_iff.1 hlast).1
          omega
        obtain ⟨F, C, rows, VL, h1, h2, h3, h4, h5, h6⟩ := laid_rows (P := P) (w := w) (base := base) (es := r.length) (r := r) (a := a) (m := m)
          (fun i hi => by
            obtain ⟨cs', q1, q2⟩ := hx i hi
            exact ⟨cs', q1, fun E B aw => laid_of_trod hz n e r hr _ _ _ q2 E B aw⟩) len hl aw
        have hfl : rows.flatten.length = len * r.length := by rw [← h5, h3.length]
        have hmul : len * r.length ≤ m * r.length := Nat.mul_le_mul_right _ hl
        have hrows : ∀ c ∈ rows, c.length = r.length := fun c hc => (h4 c hc).length
        have hone : ∀ x ∈ rows.flatten, x.one = true := fun x hx => by
          obtain ⟨c, hc, hxc⟩ := List.mem_flatten.1 hx
          exact List.all_eq_true.1 (h4 c hc).one x hxc
        have hlt : a.block < w.heap.size := (Array.getElem?_eq_some_iff.1 hblk).1
        have hbr : BR P (embOf (E ++ F)) w ⟨a.block, a.off, cc.size, false⟩ (.cells rows.flatten false false) :=
          ⟨cc, el, fz, hblk, ⟨by rw [hfl]; show a.off + _ ≤ _; omega, by rw [hfl]; show a.off + _ ≤ cc.size; omega, rfl⟩, fun i x hx => by
              refine ⟨hone x (List.mem_of_getElem? hx), ?_⟩
              obtain ⟨v, hv, hvr⟩ := h3.get hx
              have hi : i < len * r.length := by rw [← hfl]; exact (List.getElem?_eq_some_iff.1 hx).1
              refine ⟨v, ?_, hvr⟩
              show cc[a.off + i]? = some v
              rw [← hcellcc, h6 i hi, hv], ⟨fun x => absurd x Bool.false_ne_true, fun x => by rcases x with x | x <;> exact absurd x Bool.false_ne_true⟩⟩
        have aw2 := h1.push (e := ⟨a.block, a.off, cc.size, false⟩) (k := .cells rows.flatten false false) rfl hlt hbr (.inr ⟨_, rfl⟩)
        rw [List.append_assoc, List.append_assoc] at aw2
        refine ⟨F ++ [⟨a.block, a.off, cc.size, false⟩], C ++ [.cells rows.flatten false false], [.slice (B ++ C).length 0 len r.length], aw2, ?_, ?_⟩
        · refine VRs_cons.2 ⟨_, [], rfl, ?_, by rw [VRs_nil]⟩
          rw [VR]
          refine ⟨⟨a.block, a.off, cc.size, false⟩, a, m, ?_, rfl, hl, fun _ => ?_, ?_⟩
          · unfold embOf
            rw [← h1.len, ← List.append_assoc, List.getElem?_append_right (Nat.le_refl _), Nat.sub_self]; rfl
          · show a = ⟨a.block, 0 + a.off, none⟩
            rw [Nat.zero_add]; exact haspot
          · show 0 + a.off + m * r.length ≤ cc.size
            omega
        · rw [TYs]
          refine ⟨_, [], rfl, ?_, by rw [TYs]⟩
          rw [TY]
          refine ⟨rows, ?_, by omega, fun c hc => ?_⟩
          · rw [← h2]
            refine IsSl.mk (c := rows.flatten) (mu := false) (tl := false) ?_ ?_ ?_ hrows
            · rw [← List.append_assoc, List.getElem?_append_right (Nat.le_refl _), Nat.sub_self]; rfl
            · rw [List.drop_zero, h2, ← hfl, List.take_length]
            · rw [h2, hfl]; omega
          · rw [← List.append_assoc]
            exact (h4 c hc).ext ⟨_, rfl⟩
    · rename_i fs hu
      split at h
      case h_2 => cases h
      rename_i r hr
      split at h
      case isFalse => cases h
      rename_i hc
      cases h
      obtain ⟨xs, n', rfl, rfl, hlen, hxl, hf⟩ := DataW.trod_struct hu ht
      have := laid_fields (P := P) (w := w) (cs := cs) fs.toList 0 hr (fun x hx a ha E B aw => by
        obtain ⟨i, hi⟩ := List.getElem?_of_mem hx
        have hi' : fs[i]? = some x := by rw [← Array.getElem?_toList]; exact hi
        have hlt : i < xs.length := by rw [hxl]; exact (Array.getElem?_eq_some_iff.1 hi').1
        have h1 := hf i x hi'
        rw [List.getElem?_eq_getElem hlt] at h1
        exact laid_of_trod hz n x.type a ha _ _ _ h1 E B aw) E B aw
      rw [List.drop_zero, hc, ← hlen, List.take_length] at this
      exact this
    · rename_i m e hu
      split at h
      case h_2 => cases h
      rename_i r hr
      split at h
      case isFalse => cases h
      rename_i hc
      cases h
      obtain ⟨xs, n', rfl, rfl, hlen, hxl, hf⟩ := DataW.trod_array hu ht
      have := laid_chunks (P := P) (w := w) (r := r) (cs := cs) (s := P.cellsOf e) (m := m) hc.1 (fun i hi E B aw => by
        have hlt : i < xs.length := by omega
        have h1 := hf i hi
        rw [List.getElem?_eq_getElem hlt] at h1
        exact laid_of_trod hz n e r hr _ _ _ h1 E B aw) m 0 (by omega) E B aw
      rw [Nat.zero_mul, List.drop_zero, ← hc.2, ← hlen, List.take_length] at this
      exact this
    · cases h

/-- What an argument is: one cell, or a struct. -/
inductive AT where
  | one (t : CT)
  | agg (r : List CT)

def ctOne (P : Program) (e : TypeId) : Option CT :=
  match P.underlying e with
  | some (.int k) => some (.int k)
  | some .string => some .str
  | _ => none

def atOf (P : Program) (n : Nat) (t : TypeId) : Option AT :=
  match P.underlying t with
  | some (.struct _) =>
    match ctOf P n t with
    | some r => some (.agg r)
    | none => none
  | some (.int k) => some (.one (.int k))
  | some .bool => some (.one .bool)
  | some .string => some (.one .str)
  | some (.slice _) =>
    match ctOf P n t with
    | some [c] => some (.one c)
    | _ => none
  | some (.array m e) =>
    match ctOne P e with
    | some c => if P.cellsOf e = 1 ∧ P.cellsOf t = m then some (.agg (List.replicate m c)) else none
    | none =>
      match ctOf P n e with
      | some [c] => if P.cellsOf e = 1 ∧ P.cellsOf t = m then some (.agg (List.replicate m c)) else none
      | _ =>
        match ctOf P n t with
        | some r => some (.agg r)
        | none => none
  | _ => none

theorem okWide_array {w} {r} {b0} {t e : TypeId} {m} {v} (ht : P.underlying t = some (.array m e)) (h : Value.okWide P w r b0 t v) : ∃ cs, v = .agg cs ∧ cs.size = P.cellsOf t := by
  simp only [Value.okWide, ht] at h
  obtain ⟨cs, h1, h2, _⟩ := h
  exact ⟨cs, h1, h2⟩
theorem ones_laid {M} {B} {c} : ∀ (L : List Value), (∀ i (hi : i < L.length), ∃ a, VR M a L[i] ∧ TY B c a) → ∃ l : List AV, VRs M l L ∧ TYs B (List.replicate L.length c) l
  | [], _ => ⟨[], by rw [VRs_nil], by rw [List.length_nil, List.replicate_zero, TYs]⟩
  | v :: L, h => by
    obtain ⟨a, e, hz⟩ := h 0 (by simp)
    obtain ⟨l, h1, h2⟩ := ones_laid L fun i hi => h (i + 1) (by simpa using hi)
    simp only [List.getElem_cons_zero] at e
    refine ⟨a :: l, VRs_cons.2 ⟨_, _, rfl, e, h1⟩, ?_⟩
    rw [List.length_cons, List.replicate_succ, TYs]
    exact ⟨_, _, rfl, hz, h2⟩

def atsOf (P : Program) (n : Nat) : List TypeId → Option (List AT)
  | [] => some []
  | t :: ts =>
    match atOf P n t, atsOf P n ts with
    | some a, some l => some (a :: l)
    | _, _ => none

def TYa (h : AHeap) : AT → AV → Prop
  | .one t, a => TY h t a
  | .agg r, a => ∃ l, a = .agg l ∧ TYs h r l

theorem TYa.ext {h k} (e : Ext h k) : ∀ {t} {a}, TYa h t a → TYa k t a
  | .one _, _, x => TY.ext e x
  | .agg _, _, ⟨l, e1, x⟩ => ⟨l, e1, TYs.ext e x⟩

def TYas (h : AHeap) : List AT → List AV → Prop
  | [], l => l = []
  | t :: ts, l => ∃ a l', l = a :: l' ∧ TYa h t a ∧ TYas h ts l'

theorem laid_reps {c : CT} : ∀ (L : List Value), (∀ v ∈ L, ∀ E B, AW P w E B → Laid P w E B [c] [v]) → ∀ E B, AW P w E B → Laid P w E B (List.replicate L.length c) L
  | [], _, E, B, aw => laid_nil aw
  | v :: L, h, E, B, aw => by
    have h1 := h v (List.mem_cons_self ..) E B aw
    have := h1.app fun F C aw' => laid_reps L (fun x hx => h x (List.mem_cons_of_mem _ hx)) _ _ aw'
    rw [List.length_cons, List.replicate_succ]; exact this
theorem laid_arg (hz : ∃ (z : Nat) (cc : Array Value) (el : TypeId) (fz : Nat × Nat), w.heap[z]? = some (Obj.cells cc el fz)) {n} {t : TypeId} {at'} (h : atOf P n t = some at') {v} {d} {ps} (ht : DataW.Trod enc P w base (fun _ => true) held t v d ps)
    {r} {b0} (ho : Value.okWide P w r b0 t v) (aw : AW P w E B) : ∃ (F : List Ent) (C : AHeap) (a : AV), AW P w (E ++ F) (B ++ C) ∧ VR (embOf (E ++ F)) a v ∧ TYa (B ++ C) at' a := by
  obtain ⟨fuel, ht⟩ := ht
  unfold atOf at h
  split at h
  · rename_i fs hu
    split at h
    case h_2 => cases h
    rename_i r hr
    cases h
    obtain ⟨cs, rfl, _⟩ := okWide_struct hu ho
    obtain ⟨F, C, ax, h1, h2, h3⟩ := laid_of_trod hz n t r hr fuel _ _ ht E B aw
    refine ⟨F, C, .agg ax, h1, ?_, ax, rfl, h3⟩
    rw [VR]
    exact ⟨_, rfl, h2⟩
  · rename_i k hu
    cases h
    obtain ⟨z, rfl⟩ := okWide_int hu ho
    obtain ⟨z', e, _, hwf⟩ := DataW.trod_int hu ht
    cases e
    exact ⟨[], [], .int k z, by rw [List.append_nil, List.append_nil]; exact aw, by rw [VR], by show TY _ _ _; rw [TY]; exact ⟨z, rfl, hwf⟩⟩
  · rename_i hu
    cases h
    obtain ⟨z, rfl⟩ := okWide_bool hu ho
    exact ⟨[], [], .bool z, by rw [List.append_nil, List.append_nil]; exact aw, by rw [VR], by show TY _ _ _; rw [TY]; exact ⟨z, rfl⟩⟩
  · rename_i hu
    cases h
    obtain ⟨s, rfl⟩ := okWide_string hu ho
    obtain ⟨s', e, _, hs⟩ := DataW.trod_string hu ht
    cases e
    exact ⟨[], [], .str s.data.toList, by rw [List.append_nil, List.append_nil]; exact aw, by rw [VR], by show TY _ _ _; rw [TY]; exact ⟨_, rfl, by simpa using hs⟩⟩
  · rename_i e hu
    split at h
    case h_2 => cases h
    rename_i c hc
    cases h
    obtain ⟨a, len, cap, rfl⟩ := okWide_slice hu ho
    obtain ⟨F, C, ax, h1, h2, h3⟩ := laid_of_trod hz n t _ hc fuel _ _ ht E B aw
    rw [TYs] at h3
    obtain ⟨x, l', rfl, h4, h5⟩ := h3
    rw [TYs] at h5
    subst h5
    obtain ⟨y, ys, e, h6, _⟩ := VRs_cons.1 h2
    cases e
    exact ⟨F, C, x, h1, h6, h4⟩
  · rename_i m e hu
    split at h
    case h_2 =>
      split at h
      case h_2 =>
        split at h
        case h_2 => cases h
        rename_i r hr
        cases h
        obtain ⟨cs, rfl, _⟩ := okWide_array hu ho
        obtain ⟨F, C, ax, h1, h2, h3⟩ := laid_of_trod hz n t r hr fuel _ _ ht E B aw
        refine ⟨F, C, .agg ax, h1, ?_, ax, rfl, h3⟩
        rw [VR]
        exact ⟨_, rfl, h2⟩
      rename_i c hk
      split at h
      case isFalse => cases h
      rename_i hc
      cases h
      obtain ⟨cs, rfl, hcs⟩ := okWide_array hu ho
      obtain ⟨xs, n', rfl, _, hlen, hxl, hf⟩ := DataW.trod_array hu ht
      have hcl : (Value.agg cs).cells.toList = cs.toList := rfl
      rw [hcl] at hlen hf
      rw [hc.2] at hlen
      obtain ⟨F, C, ax, h1, h2, h3⟩ := laid_reps (P := P) (w := w) (c := c) cs.toList (fun v hv E B aw => by
        obtain ⟨i, hi, rfl⟩ := List.mem_iff_getElem.1 hv
        have hi' : i < xs.length := by omega
        have h3 := hf i (by omega)
        rw [hc.1, Nat.mul_one, List.getElem?_eq_getElem hi', List.drop_eq_getElem_cons hi, List.take_succ_cons, List.take_zero] at h3
        exact laid_of_trod hz n e [c] hk _ _ _ h3 E B aw) E B aw
      rw [hlen] at h3
      exact ⟨F, C, .agg ax, h1, by rw [VR]; exact ⟨_, rfl, h2⟩, ax, rfl, h3⟩
    rename_i c hk
    split at h
    case isFalse => cases h
    rename_i hc
    cases h
    obtain ⟨cs, rfl, hcs⟩ := okWide_array hu ho
    obtain ⟨xs, n', rfl, _, hlen, hxl, hf⟩ := DataW.trod_array hu ht
    have hcl : (Value.agg cs).cells.toList = cs.toList := rfl
    rw [hcl] at hlen hf
    rw [hc.2] at hlen
    obtain ⟨l, h1, h2⟩ := ones_laid (M := embOf E) (B := B) (c := c) cs.toList fun i hi => by
      have hi' : i < xs.length := by omega
      have h3 := hf i (by omega)
      rw [hc.1, Nat.mul_one, List.getElem?_eq_getElem hi', List.drop_eq_getElem_cons hi, List.take_succ_cons, List.take_zero] at h3
      unfold ctOne at hk
      split at hk
      · rename_i k hk'
        cases hk
        obtain ⟨z, e1, _, hwf⟩ := DataW.trod_int hk' h3
        exact ⟨.int k z, by rw [(List.cons.inj e1).1, VR], by rw [TY]; exact ⟨z, rfl, hwf⟩⟩
      · rename_i hk'
        cases hk
        obtain ⟨s', e1, _, hs⟩ := DataW.trod_string hk' h3
        exact ⟨.str s'.data.toList, by rw [(List.cons.inj e1).1, VR], by rw [TY]; exact ⟨_, rfl, by simpa using hs⟩⟩
      · cases hk
    rw [hlen] at h2
    exact ⟨[], [], .agg l, by rw [List.append_nil, List.append_nil]; exact aw, by rw [VR, List.append_nil]; exact ⟨_, rfl, h1⟩, l, rfl, by rw [List.append_nil]; exact h2⟩
  · cases h

/-- THE ARGUMENTS ARE LAID. -/
theorem laid_args (hz : ∃ (z : Nat) (cc : Array Value) (el : TypeId) (fz : Nat × Nat), w.heap[z]? = some (Obj.cells cc el fz)) {n} {r} {b0} : ∀ (tys : List TypeId) {ats}, atsOf P n tys = some ats → ∀ (vs : List Value) (ds : List (DataW H)) (ps : List MemPlace),
    DataW.TrodAll enc P w base (fun _ => true) held tys vs ds ps → (∀ (j : Nat) t v, tys[j]? = some t → vs[j]? = some v → Value.okWide P w r b0 t v) → ∀ {E} {B}, AW P w E B →
    ∃ (F : List Ent) (C : AHeap) (ax : List AV), AW P w (E ++ F) (B ++ C) ∧ VRs (embOf (E ++ F)) ax vs ∧ TYas (B ++ C) ats ax
  | [], ats, h, vs, ds, ps, ht, _, E, B, aw => by
    unfold atsOf at h
    cases h
    cases vs with
    | cons v vs => cases ds <;> exact ht.elim
    | nil => exact ⟨[], [], [], by rw [List.append_nil, List.append_nil]; exact aw, by rw [VRs_nil], by rw [TYas]⟩
  | t :: tys, ats, h, vs, ds, ps, ht, ho, E, B, aw => by
    unfold atsOf at h
    split at h
    case h_2 => cases h
    rename_i a l ha hl
    cases h
    cases vs with
    | nil => cases ds <;> exact ht.elim
    | cons v vs =>
      cases ds with
      | nil => exact ht.elim
      | cons d ds =>
        obtain ⟨p, q, h1, h2, _⟩ := ht
        obtain ⟨F, C, x, a1, a2, a3⟩ := laid_arg hz ha h1 (ho 0 t v rfl rfl) aw
        obtain ⟨F', C', xs, b1, b2, b3⟩ := laid_args hz tys hl vs ds q h2 (fun j t v h h' => ho (j + 1) t v h h') a1
        refine ⟨F ++ F', C ++ C', x :: xs, by rw [← List.append_assoc, ← List.append_assoc]; exact b1, ?_, ?_⟩
        · rw [← List.append_assoc]
          exact VRs_cons.2 ⟨v, vs, rfl, VR.mono (embOf_le _ _) _ _ a2, b2⟩
        · rw [← List.append_assoc, TYas]
          exact ⟨x, xs, rfl, a3.ext ⟨C', rfl⟩, b3⟩
end
end Go.Abs
namespace Go.Abs
open Go.ChangeShapes Go.WideShapes Go.RowKit

/-- The pieces of one type, one behind the other. -/
def avsL (f : DataW Unit → Option (List AV)) : List (DataW Unit) → Option (List AV)
  | [] => some []
  | d :: r =>
    match f d, avsL f r with
    | some a, some b => some (a ++ b)
    | _, _ => none

/-- The pieces of a struct's fields, one behind the other. -/
def avsF (P : Program) (f : TypeId → DataW Unit → Option (List AV)) : List Field → List (DataW Unit) → Nat → Option (List AV)
  | [], [], _ => some []
  | a :: fs, d :: r, o =>
    match f a.type d, avsF P f fs r (o + P.cellsOf a.type) with
    | some x, some y => if a.offset = o ∧ x.length = P.cellsOf a.type then some (x ++ y) else none
    | _, _ => none
  | _, _, _ => none

/-- What data says of the cells that it was read from. -/
def avsOf (P : Program) : Nat → TypeId → DataW Unit → Option (List AV)
  | 0, _, _ => none
  | n + 1, t, d =>
    match P.underlying t with
    | some (.int k) =>
      match d with
      | .lit (.int _ z) => some [.int k z]
      | _ => none
    | some .string =>
      match d with
      | .lit (.string s) => some [.str s]
      | _ => none
    | some (.array m e) =>
      match d with
      | .agg l =>
        match avsL (avsOf P n e) l with
        | some r => if P.cellsOf t = m * P.cellsOf e then some r else none
        | none => none
      | _ => none
    | some (.struct fs) =>
      match d with
      | .agg l =>
        match avsF P (avsOf P n) fs.toList l 0 with
        | some r => if r.length = P.cellsOf t then some r else none
        | none => none
      | _ => none
    | some (.interface _) =>
      match d with
      | .iface _ _ => some [.someIfc]
      | _ => none
    | _ => none

section
variable {P : Program} {w : World} {base : Nat} {sp : Nat → Bool} {held : Bool}

/-- A variable of an interface type that is not nil. -/
theorem trod_ifc {t : TypeId} {ms} (hu : P.underlying t = some (.interface ms)) {fuel : Nat} {cs : List Value} {n d p} (h : DataW.trod (fun _ => ()) P w base sp held fuel t cs = some (.iface n d, p)) : ∃ u v, cs = [.iface u v] := by
  cases fuel with
  | zero => simp [DataW.trod] at h
  | succ f =>
    unfold DataW.trod at h
    rw [hu] at h
    split at h <;> simp_all

theorem avsL_ok {f : DataW Unit → Option (List AV)} {m : Emb} {ce : Nat} {cs : List Value} {g : List Value → Option (DataW Unit × List MemPlace)} (hf : ∀ c d p ax, g c = some (d, p) → f d = some ax → VRs m ax c ∧ ax.all AV.one = true) :
    ∀ (l : List (DataW Unit × List MemPlace)) (o : Nat) {ax : List AV}, avsL f (l.map (·.1)) = some ax → (∀ i (hi : i < l.length), g ((cs.drop ((o + i) * ce)).take ce) = some l[i]) → VRs m ax ((cs.drop (o * ce)).take (l.length * ce)) ∧ ax.all AV.one = true
  | [], o, ax, h, _ => by
    unfold avsL at h
    cases h
    rw [List.length_nil, Nat.zero_mul, List.take_zero]
    exact ⟨by rw [VRs_nil], rfl⟩
  | x :: l, o, ax, h, hx => by
    rw [List.map_cons] at h
    unfold avsL at h
    split at h
    case h_2 => cases h
    rename_i a b ha hb
    cases h
    have h0 := hx 0 (by rw [List.length_cons]; omega)
    rw [Nat.add_zero, List.getElem_cons_zero] at h0
    obtain ⟨p1, p2⟩ := hf _ x.1 x.2 a h0 ha
    obtain ⟨q1, q2⟩ := avsL_ok hf l (o + 1) hb (fun i hi => by
      have := hx (i + 1) (by rw [List.length_cons]; omega)
      rw [List.getElem_cons_succ] at this
      rw [show o + 1 + i = o + (i + 1) by omega]; exact this)
    refine ⟨?_, by rw [List.all_append, p2, q2]; rfl⟩
    rw [List.length_cons, Nat.succ_mul, Nat.add_comm (l.length * ce) ce, List.take_add, List.drop_drop]
    refine p1.append ?_
    rw [← Nat.succ_mul]
    exact q1

theorem avsF_ok {f : TypeId → DataW Unit → Option (List AV)} {m : Emb} {cs : List Value} {g : TypeId → List Value → Option (DataW Unit × List MemPlace)} (hf : ∀ t c d p ax, g t c = some (d, p) → f t d = some ax → VRs m ax c ∧ ax.all AV.one = true) :
    ∀ (fs : List Field) (l : List (DataW Unit × List MemPlace)) (o : Nat) {ax : List AV}, avsF P f fs (l.map (·.1)) o = some ax → (∀ (i : Nat) (a : Field), fs[i]? = some a → g a.type ((cs.drop a.offset).take (P.cellsOf a.type)) = l[i]?) → VRs m ax ((cs.drop o).take ax.length) ∧ ax.all AV.one = true
  | [], [], o, ax, h, _ => by
    unfold avsF at h
    cases h
    exact ⟨by rw [List.length_nil, List.take_zero, VRs_nil], rfl⟩
  | [], _ :: _, o, ax, h, _ => by unfold avsF at h; cases h
  | _ :: _, [], o, ax, h, _ => by unfold avsF at h; cases h
  | a :: fs, x :: l, o, ax, h, hx => by
    rw [List.map_cons] at h
    unfold avsF at h
    split at h
    case h_2 => cases h
    rename_i x' y' ha hb
    split at h
    case isFalse => cases h
    rename_i hc
    cases h
    have h0 := hx 0 a rfl
    rw [List.getElem?_cons_zero, hc.1, ← hc.2] at h0
    obtain ⟨p1, p2⟩ := hf _ _ x.1 x.2 x' h0 ha
    obtain ⟨q1, q2⟩ := avsF_ok hf fs l _ hb (fun i b hi => by
      have := hx (i + 1) b (by rw [List.getElem?_cons_succ]; exact hi)
      rw [List.getElem?_cons_succ] at this
      exact this)
    refine ⟨?_, by rw [List.all_append, p2, q2]; rfl⟩
    rw [List.length_append, List.take_add, List.drop_drop]
    refine p1.append ?_
    rw [hc.2]
    exact q1

theorem avsOf_ok {m : Emb} : ∀ (n : Nat) (t : TypeId) (fuel : Nat) (cs : List Value) (d : DataW Unit) (p : List MemPlace) (ax : List AV),
    DataW.trod (fun _ => ()) P w base sp held fuel t cs = some (d, p) → avsOf P n t d = some ax → VRs m ax cs ∧ ax.all AV.one = true
  | 0, _, _, _, _, _, _, _, h => by cases h
  | n + 1, t, fuel, cs, d, p, ax, ht, h => by
    unfold avsOf at h
    split at h
    · rename_i k hu
      obtain ⟨z, rfl, e, _⟩ := DataW.trod_int hu ht
      cases e
      cases h
      exact ⟨VRs_cons.2 ⟨_, [], rfl, by rw [VR], by rw [VRs_nil]⟩, rfl⟩
    · rename_i hu
      obtain ⟨s, rfl, e, _⟩ := DataW.trod_string hu ht
      cases e
      cases h
      exact ⟨VRs_cons.2 ⟨_, [], rfl, rfl, by rw [VRs_nil]⟩, rfl⟩
    · rename_i mm e hu
      obtain ⟨xs, m', _, ex, hlen, hxl, hf⟩ := DataW.trod_array hu ht
      cases ex
      simp only at h
      split at h
      case h_2 => cases h
      rename_i r hr
      split at h
      case isFalse => cases h
      rename_i hc
      cases h
      have := avsL_ok (m := m) (ce := P.cellsOf e) (cs := cs) (g := DataW.trod (fun _ => ()) P w base sp held m' e) (fun c d p ax h1 h2 => avsOf_ok n e m' c d p ax h1 h2) xs 0 hr (fun i hi => by
        have := hf i (by omega)
        rw [List.getElem?_eq_getElem hi] at this
        rw [Nat.zero_add]; exact this)
      rw [Nat.zero_mul, List.drop_zero, hxl, ← hc, ← hlen, List.take_length] at this
      exact this
    · rename_i fs hu
      obtain ⟨xs, m', _, ex, hlen, hxl, hf⟩ := DataW.trod_struct hu ht
      cases ex
      simp only at h
      split at h
      case h_2 => cases h
      rename_i r hr
      split at h
      case isFalse => cases h
      rename_i hc
      cases h
      have := avsF_ok (m := m) (cs := cs) (g := fun t' c => DataW.trod (fun _ => ()) P w base sp held m' t' c) (fun t' c d p ax h1 h2 => avsOf_ok n t' m' c d p ax h1 h2) fs.toList xs 0 hr (fun i a hi => hf i a (by rw [← Array.getElem?_toList]; exact hi))
      rw [List.drop_zero, hc, ← hlen, List.take_length] at this
      exact this
    · rename_i ms hu
      split at h
      case h_2 => cases h
      cases h
      obtain ⟨u, v, rfl⟩ := trod_ifc hu ht
      exact ⟨VRs_cons.2 ⟨_, [], rfl, ⟨u, v, rfl⟩, by rw [VRs_nil]⟩, rfl⟩
    · cases h

/-- A package-level variable's block, ax the laid ones tell it. -/
def globB (P : Program) (laid : List (String × DataW Unit)) (n : Nat) (g : Nat) : ABlk :=
  match laid.find? (fun x => P.globalNamed x.1 == some g) with
  | some x =>
    match (P.globals[g]?).map (·.type) with
    | some t =>
      match avsOf P n t x.2 with
      | some ax => if ax.length = gsz P g then .cells ax false false else .dead
      | none => .dead
    | none => .dead
  | none => .dead

def globE (P : Program) : List Ent := (List.range P.globals.size).map fun g => ⟨g, 0, gsz P g, false⟩
def globL (P : Program) (laid : List (String × DataW Unit)) (n : Nat) : AHeap := (List.range P.globals.size).map (globB P laid n)

theorem laidVars_mem : ∀ {laid} {ps}, DataW.LaidVars P w laid ps → ∀ x ∈ laid, ∃ g t cs fuel p, P.globalNamed x.1 = some g ∧ (P.globals[g]?).map (·.type) = some t ∧ w.var? P x.1 = some cs ∧
    DataW.trod (fun _ => ()) P w 0 (fun _ => true) false fuel t cs.toList = some (x.2, p)
  | [], _, _, x, hx => by cases hx
  | (n, d) :: r, ps, h, x, hx => by
    obtain ⟨g, t, cs, fuel, p, q, h1, h2, h3, h4, h5, _⟩ := h
    rcases List.mem_cons.1 hx with rfl | hx
    · exact ⟨g, t, cs, fuel, p, h1, h2, h3, h4⟩
    · exact laidVars_mem h5 x hx

theorem var_blk {n} {g} {cs} (hg : P.globalNamed n = some g) (h : w.var? P n = some cs) : ∃ el fz, w.heap[g]? = some (.cells cs el fz) := by
  unfold World.var? at h
  rw [hg] at h
  simp only [Option.bind_some] at h
  split at h
  · rename_i c el fz hb
    cases h
    exact ⟨el, fz, hb⟩
  · cases h

end

section
variable {P : Program} {W W' : World} {E : List Ent} {B h' : AHeap} {m' : Emb}

theorem AW.below (aw : AW P W E B) (g : Grow (embOf E) B W m' h' W') : Below W.heap.size W W' :=
  ⟨g.os, g.tape, g.out, g.size, fun k hk => g.frame k hk fun b e hb ho => by rw [(aw.own b e hb).1] at ho; cases ho⟩

theorem below_kept (b : Below W.heap.size W W') (may : MemPlace → Prop) : W.keptBut W' may := by
  refine ⟨b.os, b.output, fun i hi => ?_⟩
  rw [b.block i hi]
  split
  · rename_i h1 h2
    rw [h1] at h2
    simp only [Option.some.injEq, Obj.cells.injEq] at h2
    obtain ⟨rfl, rfl, rfl⟩ := h2
    exact ⟨rfl, rfl, rfl, fun _ _ => rfl⟩
  · rename_i h1 h2
    rw [h1] at h2
    simp only [Option.some.injEq, Obj.map.injEq] at h2
    obtain ⟨rfl, rfl⟩ := h2
    exact .inr ⟨rfl, rfl⟩
  · rfl

variable {H : Type} {enc : TypeId × Value → H}

theorem trodAll_below (hlo : laidOutB P = true) (hb : Below W.heap.size W W') {sp} : ∀ {tys} {vs} {ds} {ps}, (∀ t ∈ tys, P.readableRec t = true ∧ t < P.types.size) →
    DataW.TrodAll enc P W 0 (fun _ => true) true tys vs ds ps → (∀ p ∈ ps, p.block < W.heap.size) → (∀ p ∈ ps, sp p.block = true) → DataW.TrodAll enc P W' 0 sp true tys vs ds ps
  | [], [], [], ps, _, h, _, _ => h
  | [], [], _ :: _, _, _, h, _, _ => h.elim
  | [], _ :: _, _, _, _, h, _, _ => h.elim
  | _ :: _, [], _, _, _, h, _, _ => h.elim
  | _ :: _, _ :: _, [], _, _, h, _, _ => h.elim
  | t :: tys, v :: vs, d :: ds, ps, hr, h, hl, hs => by
    obtain ⟨p, q, h1, h2, rfl⟩ := h
    exact ⟨p, q, WideElems.Trod_stays hlo (hr t (List.mem_cons_self ..)).1 (hr t (List.mem_cons_self ..)).2 h1 (fun x hx => hb.same (hl x (List.mem_append_left _ hx))) (fun x hx => hs x (List.mem_append_left _ hx)),
      trodAll_below hlo hb (fun t ht => hr t (List.mem_cons_of_mem _ ht)) h2 (fun x hx => hl x (List.mem_append_right _ hx)) (fun x hx => hs x (List.mem_append_right _ hx)), rfl⟩

/-- THE RESULT IS TRUE, AND THE ARGUMENTS ARE AS THEY WERE. -/
theorem post_true {f : Func} {s : ChangeSpec} {apart fresh handsOn again : Bool} {args : Array Value} {ds gs : List (DataW H)} {before : List MemPlace} {tb : TypeId}
    (hlo : laidOutB P = true) (hpar : ∀ t ∈ f.params.toList, P.readableRec t = true ∧ t < P.types.size) (hrt : f.resultTypes = #[tb]) (htb : P.underlying tb = some .bool) (hvars : s.vars = [])
    (hfn : (s.fn H (ds ++ gs)) = { results := [.lit (.bool true)], args := ds }) (hW : DataW.Whole enc P f.params.toList s.vars apart W args.toList ds gs before) (hb : Below W.heap.size W W') :
    s.post enc P f apart fresh handsOn again W args (.bool true) W' := by
  have hlt := hW.lt
  have hW' := hW
  obtain ⟨p, q, hA, hV, rfl, hz, hn⟩ := hW'
  rw [hvars] at hV
  obtain ⟨rfl, rfl⟩ := trodVars_none hV
  rw [List.append_nil] at hlt
  have hres : ∀ (b : Nat) (sp : Nat → Bool) (hd : Bool), DataW.TrodAll enc P W' b sp hd f.resultTypes.toList ((Value.bool true).resultList f.resultTypes.size) (s.fn H (ds ++ [])).results [] := fun b sp hd => by
    rw [hfn, hrt]
    exact trodAll_mk1 (shut_bool htb _)
  have hargs : ∀ sp : Nat → Bool, (∀ x ∈ p, sp x.block = true) → DataW.TrodAll enc P W' 0 sp true f.params.toList args.toList (s.fn H (ds ++ [])).args p := fun sp hs => by
    rw [hfn]
    exact trodAll_below hlo hb hpar hA hlt hs
  have hvs : ∀ sp : Nat → Bool, DataW.TrodVars enc P W' sp s.vars (s.fn H (ds ++ [])).vars [] := fun sp => by
    rw [hfn, hvars]; rfl
  refine ⟨ds, [], p ++ [], [], p, [], hW, hres _ _ _, hargs _ (fun x hx => by simpa using hlt x hx), hvs _, below_kept hb _, fun _ => ?_⟩
  refine ⟨?_, _, _, ([] ++ p) ++ [], ⟨[] ++ p, [], trodAll_append (hargs _ (fun _ _ => rfl)) (hres _ _ _), hvs _, rfl, ?_, ?_⟩, ?_⟩
  · exact ok_one hrt rfl (okWide_bool_mk htb _)
  · intro b off hp
    have hp : MemPlace.cell b off ∈ p := by simpa using hp
    have := hz b off (by simpa using hp)
    unfold World.frozen? at this ⊢
    rw [hb.block b (hlt _ hp)]
    exact this
  · intro ha
    have := hn ha
    simpa using this
  · intro x hx _
    simpa using hx

/-- A ROW OF THE KIND 'THE RESULT IS TRUE': the arguments are laid, the call is run. -/
theorem row_true {f : Func} {fid : FuncId} {s : ChangeSpec} {apart fresh handsOn again : Bool} {args : Array Value} {ds gs : List (DataW H)} {before : List MemPlace} {tb : TypeId} {n : Nat} {ats : List AT} {r : Reach} {b0 : Nat}
    (hlo : laidOutB P = true) (hpar : ∀ t ∈ f.params.toList, P.readableRec t = true ∧ t < P.types.size) (hrt : f.resultTypes = #[tb]) (htb : P.underlying tb = some .bool) (hvars : s.vars = [])
    (hfn : (s.fn H (ds ++ gs)) = { results := [.lit (.bool true)], args := ds }) (hats : atsOf P n f.params.toList = some ats)
    (hval : ∀ (j : Nat) t v, f.params[j]? = some t → args[j]? = some v → Value.okWide P W r b0 t v)
    (hW : DataW.Whole enc P f.params.toList s.vars apart W args.toList ds gs before) (aw : AW P W E B) (hz : ∃ (z : Nat) (cc : Array Value) (el : TypeId) (fz : Nat × Nat), W.heap[z]? = some (Obj.cells cc el fz))
    (call : ∀ k ax, Ext B k → TYas k ats ax → RCall P fid ax k fun v _ => v = .bool true) :
    Calls P fid args W fun e W' => ∃ v, e = .returned v ∧ s.post enc P f apart fresh handsOn again W args v W' := by
  obtain ⟨p, q, hA, _⟩ := id hW
  obtain ⟨F, C, ax, h1, h2, h3⟩ := laid_args hz f.params.toList hats args.toList ds p hA (fun j t v h h' => hval j t v (by rw [← Array.getElem?_toList]; exact h) (by rw [← Array.getElem?_toList]; exact h')) aw
  obtain ⟨v, g, hs, rfl⟩ := call (B ++ C) ax ⟨C, rfl⟩ h3
  refine (hs (embOf (E ++ F)) W args.toList h1.hr h2).mono fun e W' ⟨cv, m', he, hv, _, hg⟩ => ?_
  rw [VR] at hv
  subst hv
  exact ⟨_, he, post_true hlo hpar hrt htb hvars hfn hW (h1.below hg)⟩
end
end Go.Abs
namespace Go.Abs
def fn2 : AFunc := ⟨1, 0, [],(.ops [.c 0 1 []])⟩
def fn3 : AFunc := ⟨220, 2, [(4, none)],(.s [.p 2 0,.o 4 (.mov .F)] (.seq (.s [.c 28 4 [],.o 29 (.un .not (.t 28)),.m 30 29,.g 31 30 false (.load (some 17) (.t 2)),.g 32 30 false (.call (.f 5) [.t 31]),.g 33 30 false (.un .not (.t 32)),.f 34 30 33] (.j 34 [.c 35 4 [],.m 4 35])) (.s [.r 37 17 2,.c 38 6 [.t 37, .z],.m 36 38,.e 39 36 0,.e 40 36 1,.m 5 39,.m 6 40] (.s [.r 42 17 2,.c 43 6 [.t 42, .w],.m 41 43,.e 44 41 0,.e 45 41 1,.m 7 44,.m 8 45] (.seq (.s [.m 46 6,.o 47 (.un .not (.t 46)),.m 48 47,.t 49 48 false 8,.g 50 48 false (.un .not (.t 49)),.f 51 48 50] (.j 51 [.o 4 (.mov .F)])) (.s [.y 52 (.fadr 1 (.t 2)),.y 53 (.iada 2 1 (.t 52) .z),.j 54 53,.y 55 (.conv (.i2i .i64) (.t 54)),.y 56 (.bin .rem (.t 55) (.n 4)),.y 57 (.fadr 1 (.t 2)),.y 58 (.iada 2 1 (.t 57) .w),.j 59 58,.y 60 (.conv (.i2i .i64) (.t 59)),.y 61 (.bin .rem (.t 60) (.n 4)),.w 9 56,.m 10 61] (.s [.m 63 9,.m 64 5,.o 65 (.call (.f 8) [(.c (.str [97])),.t 63,.t 64]),.m 66 10,.m 67 7,.o 68 (.call (.f 8) [(.c (.str [98])),.t 66,.t 67]),.c 69 7 [.t 65,.t 68, .z],.m 62 69,.e 70 62 0,.e 71 62 1,.m 11 70,.m 12 71] (.s [.m 73 9,.m 74 5,.o 75 (.call (.f 8) [(.c (.str [97])),.t 73,.t 74]),.m 76 10,.m 77 7,.o 78 (.call (.f 8) [(.c (.str [98])),.t 76,.t 77]),.c 79 9 [.t 75,.t 78,.n 10],.m 72 79,.e 80 72 0,.e 81 72 1,.e 82 72 2,.m 13 80,.m 14 81,.m 15 82] (.s [.m 84 9,.m 85 5,.o 86 (.call (.f 8) [(.c (.str [97])),.t 84,.t 85]),.m 87 10,.m 88 7,.o 89 (.call (.f 8) [(.c (.str [98])),.t 87,.t 88]),.c 90 10 [.t 86,.t 89, .z],.m 83 90,.e 91 83 0,.e 92 83 1,.m 16 91,.m 17 92] (.seq (.s [.m 93 12,.v 94 .neq 93 .z,.m 95 94,.t 96 95 false 15,.g 97 95 false (.bin .neq (.t 96) .z),.f 98 95 97,.m 99 98,.t 100 99 false 17,.g 101 99 false (.bin .neq (.t 100) .z),.f 102 99 101,.m 103 102,.t 104 103 false 11,.g 105 103 false (.len .sl (.t 104)),.g 106 103 false (.bin .gtr (.t 105) .z),.f 107 103 106,.m 108 107,.t 109 108 false 14,.g 110 108 false (.len .sl (.t 109)),.g 111 108 false (.bin .gtr (.t 110) .z),.f 112 108 111,.m 113 112,.t 114 113 false 13,.g 115 113 false (.bin .neq (.t 114) .z),.f 116 113 115,.m 117 116,.t 118 117 false 16,.g 119 117 false (.len .sl (.t 118)),.g 120 117 false (.fadr 0 (.t 2)),.g 121 117 false (.load none (.t 120)),.g 122 117 false (.len .sl (.t 121)),.g 123 117 false (.bin .mul (.n 2) (.t 122)),.g 124 117 false (.bin .sub (.t 123) .w),.g 125 117 false (.bin .neq (.t 119) (.t 124)),.f 126 117 125] (.j 126 [.o 4 (.mov .F)])) (.seq (.s [.m 127 16,.n 128 127,.o 129 (.mov .z)] (.block 0 (.loop (.s [.u 130 .lss 129 128] (.seq (.i 130 .skip (.exit 0)) (.seq (.block 1 (.s [.m 131 129,.h 132 2 127 129,.r 133 2 132,.o 19 (.box (.c (.agg [.int .i64 0, .int .i64 0]))),.m 18 131,.s 2 19 133] (.s [.a 134 0 2,.l 135 134,.m 136 18,.v 137 .quo 136 (.n 2),.h 138 1 135 137,.l 139 138,.o 140 (.conv (.i2i .i64) (.t 139)),.v 141 .rem 140 (.n 40),.b 142 .add (.n 20) (.t 141),.m 20 142] (.s [.m 143 20,.b 144 .mul (.n 2) (.t 143),.m 21 144] (.seq (.s [.m 145 18,.v 146 .rem 145 (.n 2),.v 147 .eql 146 .w] (.i 147 (.ops [.m 148 20,.v 149 .add 148 (.n 20),.a 150 0 2,.l 151 150,.m 152 18,.v 153 .quo 152 (.n 2),.v 154 .add 153 .w,.h 155 1 151 154,.l 156 155,.o 157 (.conv (.i2i .i64) (.t 156)),.v 158 .rem 157 (.n 40),.u 159 .add 149 158,.m 21 159]) .skip)) (.s [.a 160 0 19,.l 161 160,.a 162 1 19,.l 163 162,.u 164 .gtr 161 163,.m 165 164,.g 166 165 false (.fadr 0 (.t 19)),.g 167 165 false (.load none (.t 166)),.g 168 165 false (.bin .mul (.n 2) (.t 167)),.t 169 165 false 21,.g 170 165 false (.bin .gtr (.t 168) (.t 169)),.f 171 165 170,.m 172 171,.g 173 172 false (.fadr 1 (.t 19)),.g 174 172 false (.load none (.t 173)),.g 175 172 false (.bin .mul (.n 2) (.t 174)),.t 176 172 false 21,.g 177 172 false (.bin .sub (.t 176) .w),.g 178 172 false (.bin .lss (.t 175) (.t 177)),.f 179 172 178] (.j 179 [.o 4 (.mov .F)]))))))) (.ops [.v 180 .add 129 .w,.m 129 180]))))))) (.s [.m 181 1,.o 182 (.conv (.i2i .i64) (.t 181)),.v 183 .rem 182 (.n 17),.m 22 183] (.s [.o 23 (.mov (.c .nilSlice))] (.seq (.s [.m 184 7,.n 185 184,.o 186 (.mov .z)] (.block 2 (.loop (.s [.u 187 .lss 186 185] (.seq (.i 187 .skip (.exit 2)) (.seq (.block 3 (.s [.h 188 2 184 186,.r 189 2 188,.o 25 (.box (.c (.agg [.int .i64 0, .int .i64 0]))),.s 2 25 189] (.ops [.m 190 23,.a 191 0 25,.l 192 191,.a 193 1 25,.l 194 193,.m 195 22,.u 196 .add 194 195,.o 197 (.build [.int .i64 0, .int .i64 0] [(0, 1, .t 192), (1, 1, .t 196)]),.o 198 (.bslice 2 1 [.int .i64 0, .int .i64 0] [(0, .t 197)]),.o 199 (.app 2 16 (.t 190) (.t 198)),.m 23 199]))) (.ops [.v 200 .add 186 .w,.m 186 200]))))))) (.s [.m 202 9,.m 203 5,.o 204 (.call (.f 8) [(.c (.str [97])),.t 202,.t 203]),.m 205 10,.m 206 23,.o 207 (.call (.f 8) [(.c (.str [98])),.t 205,.t 206]),.m 208 22,.o 209 (.un .neg (.t 208)),.c 210 7 [.t 204,.t 207,.t 209],.m 201 210,.e 211 201 0,.e 212 201 1,.m 26 211,.m 27 212] (.r [.m 213 27,.v 214 .eql 213 .z,.m 215 214,.t 216 215 true 26,.g 217 215 true (.len .sl (.t 216)),.g 218 215 true (.bin .eql (.t 217) .z),.d 219 215 218,.m 4 219]))))))))))))))))⟩
def fn4 : AFunc := ⟨112, 0, [(0, none)],(.s [.o 0 (.mov .F)] (.s [.o 15 (.bslice 1 9 [.flt .f32 0] [(0, (.c (.flt .f32 0))), (1, (.c (.flt .f32 0))), (2, (.c (.flt .f32 0))), (3, (.c (.flt .f32 0))), (4, (.c (.flt .f32 0))), (5, (.c (.flt .f32 0))), (6, (.c (.flt .f32 0))), (7, (.c (.flt .f32 1065353216))), (8, (.c (.flt .f32 0)))]),.o 16 (.build [.int .i64 0, .int .i64 0, .int .i64 0, .int .i64 0, .int .i64 0, .int .i64 0, .int .i64 0, .int .i64 0, .bool false, .nilSlice] [(9, 1, .t 15)]),.o 17 (.bslice 10 1 [.int .i64 0, .int .i64 0, .int .i64 0, .int .i64 0, .int .i64 0, .int .i64 0, .int .i64 0, .int .i64 0, .bool false, .nilSlice] [(0, .t 16)]),.o 18 (.build [.str [], .nilSlice] [(0, 1, (.c (.str [115]))), (1, 1, .t 17)]),.o 1 (.box (.c (.agg [.str [], .nilSlice]))),.s 2 1 18] (.s [.r 20 2 1,.o 21 (.build [.int .i64 0, .int .i64 0] [(0, 1, (.n 3)), (1, 1, (.n 2))]),.o 22 (.bslice 2 1 [.int .i64 0, .int .i64 0] [(0, .t 21)]),.c 23 11 [.t 20,.t 22],.m 19 23,.e 24 19 0,.e 25 19 1,.o 2 (.box (.c (.agg [.str [], .nilSlice]))),.s 2 2 24,.m 3 25] (.seq (.s [.m 26 3,.v 27 .neq 26 .z,.m 28 27,.g 29 28 false (.fadr 1 (.t 2)),.g 30 28 false (.load none (.t 29)),.g 31 28 false (.len .sl (.t 30)),.g 32 28 false (.bin .neq (.t 31) .w),.f 33 28 32] (.j 33 [.o 0 (.mov .F)])) (.s [.o 35 (.bslice 1 0 [.flt .f32 0] []),.a 36 1 2,.l 37 36,.o 38 (.iadr 10 (.t 37) .z),.a 39 9 38,.l 40 39,.o 41 (.app 1 4 (.t 35) (.t 40)),.c 42 12 [.t 41],.m 34 42,.e 43 34 0,.e 44 34 1,.m 4 43,.m 5 44] (.s [.o 45 (.build [.int .i64 0, .int .i64 0] [(0, 1, (.n 2)), (1, 1, (.n 5))]),.o 46 (.bslice 2 1 [.int .i64 0, .int .i64 0] [(0, .t 45)]),.o 47 (.build [.str [], .int .i64 0, .nilSlice] [(0, 1, (.c (.str [97]))), (1, 1, .w), (2, 1, .t 46)]),.o 48 (.build [.int .i64 0, .int .i64 0] [(0, 1, (.n 2)), (1, 1, (.n 7))]),.o 49 (.bslice 2 1 [.int .i64 0, .int .i64 0] [(0, .t 48)]),.o 50 (.build [.str [], .int .i64 0, .nilSlice] [(0, 1, (.c (.str [98]))), (1, 1, .w), (2, 1, .t 49)]),.o 6 (.box (.c (.agg [.str [], .int .i64 0, .nilSlice]))),.o 7 (.box (.c (.agg [.str [], .int .i64 0, .nilSlice]))),.s 3 6 47,.s 3 7 50] (.s [.o 51 (.build [.int .i64 0, .int .i64 0] [(0, 1, (.n 2)), (1, 1, (.n 8))]),.o 52 (.bslice 2 1 [.int .i64 0, .int .i64 0] [(0, .t 51)]),.o 53 (.build [.str [], .int .i64 0, .nilSlice] [(0, 1, (.c (.str [98]))), (1, 1, .w), (2, 1, .t 52)]),.o 8 (.box (.c (.agg [.str [], .int .i64 0, .nilSlice]))),.s 3 8 53] (.s [.r 55 3 6,.r 56 3 7,.c 57 7 [.t 55,.t 56, .z],.m 54 57,.e 58 54 0,.e 59 54 1,.m 9 58,.m 10 59] (.s [.r 61 3 6,.r 62 3 8,.c 63 7 [.t 61,.t 62, .z],.m 60 63,.e 64 60 0,.e 65 60 1,.m 11 64,.m 12 65] (.s [.r 67 3 6,.r 68 3 7,.c 69 10 [.t 67,.t 68, .z],.m 66 69,.e 70 66 0,.e 71 66 1,.m 13 70,.m 14 71] (.r [.m 72 5,.v 73 .eql 72 .z,.m 74 73,.t 75 74 true 10,.g 76 74 true (.bin .eql (.t 75) .z),.d 77 74 76,.m 78 77,.t 79 78 true 12,.g 80 78 true (.bin .eql (.t 79) .z),.d 81 78 80,.m 82 81,.t 83 82 true 14,.g 84 82 true (.bin .eql (.t 83) .z),.d 85 82 84,.m 86 85,.t 87 86 true 4,.g 88 86 true (.bin .eql (.t 87) (.n 5)),.d 89 86 88,.m 90 89,.t 91 90 true 9,.g 92 90 true (.len .sl (.t 91)),.g 93 90 true (.bin .eql (.t 92) .z),.d 94 90 93,.m 95 94,.t 96 95 true 11,.g 97 95 true (.bslice 1 1 [.int .i64 0] [(0, (.n 2))]),.g 98 95 true (.call (.f 13) [.t 96,.t 97]),.d 99 95 98,.m 100 99,.t 101 100 true 13,.g 102 100 true (.len .sl (.t 101)),.g 103 100 true (.bin .eql (.t 102) .w),.d 104 100 103,.m 105 104,.t 106 105 true 13,.g 107 105 true (.iadr 2 (.t 106) .z),.g 108 105 true (.load (some 2) (.t 107)),.g 109 105 true (.build [.int .i64 0, .int .i64 0] [(0, 1, (.n 6)), (1, 1, (.n 6))]),.g 110 105 true (.eqv false (.agg [.i, .i]) (.t 108) (.t 109)),.d 111 105 110,.m 0 111])))))))))))⟩
def fn5 : AFunc := ⟨13, 1, [(2, none)],(.s [.p 1 0,.o 2 (.mov .F)] (.r [.a 3 0 1,.l 4 3,.n 5 4,.v 6 .geq 5 .w,.m 7 6,.g 8 7 true (.fadr 0 (.t 1)),.g 9 7 true (.load none (.t 8)),.g 10 7 true (.len .sl (.t 9)),.g 11 7 true (.bin .leq (.t 10) (.n 6)),.d 12 7 11,.m 2 12]))⟩
def fn6 : AFunc := ⟨173, 2, [(4, none), (5, none)],(.s [.p 2 0,.o 4 (.mov (.c .nilSlice)),.o 5 (.mov .F)] (.s [.m 24 1,.a 25 1 2,.o 26 (.iada 2 1 (.t 25) (.t 24)),.l 27 26,.o 28 (.conv (.i2i .i64) (.t 27)),.v 29 .rem 28 (.n 4),.m 6 29] (.s [.m 30 1,.a 31 15 2,.o 32 (.iada 2 1 (.t 31) (.t 30)),.l 33 32,.o 34 (.conv (.i2i .i64) (.t 33)),.v 35 .rem 34 (.n 9),.m 7 35] (.s [.o 36 (.build [.int .i64 0, .int .i64 0] [(0, 1, .z), (1, 1, .z)]),.m 37 7,.o 38 (.build [.int .i64 0, .int .i64 0] [(0, 1, (.n 100)), (1, 1, .t 37)]),.m 39 7,.o 40 (.un .neg (.t 39)),.o 41 (.build [.int .i64 0, .int .i64 0] [(0, 1, (.n 101)), (1, 1, .t 40)]),.o 42 (.bslice 2 3 [.int .i64 0, .int .i64 0] [(0, .t 36), (2, .t 38), (4, .t 41)]),.m 8 42] (.s [.o 43 (.build [.str [], .nilSlice] [(0, 1, (.c (.str [115])))]),.o 9 (.box (.c (.agg [.str [], .nilSlice]))),.s 2 9 43] (.seq (.s [.a 44 0 2,.l 45 44,.n 46 45,.o 47 (.mov .z)] (.block 0 (.loop (.s [.u 48 .lss 47 46] (.seq (.i 48 .skip (.exit 0)) (.seq (.block 1 (.s [.m 49 47,.h 50 1 45 47,.l 51 50,.m 10 49,.m 11 51] (.s [.m 52 10,.b 53 .mul (.n 20) (.t 52),.m 12 53] (.s [.o 55 (.bslice 2 0 [.int .i64 0, .int .i64 0] []),.m 56 8,.o 57 (.app 2 16 (.t 55) (.t 56)),.m 58 12,.c 59 14 [.t 57,.t 58],.m 54 59,.e 60 54 0,.e 61 54 1,.o 13 (.box (.c (.agg [.int .i64 0, .int .i64 0]))),.s 2 13 60,.m 14 61] (.seq (.s [.m 62 14,.v 63 .neq 62 .z,.m 64 63,.g 65 64 false (.fadr 1 (.t 13)),.g 66 64 false (.load none (.t 65)),.g 67 64 false (.bin .lss (.t 66) .w),.f 68 64 67,.m 69 68,.g 70 69 false (.fadr 1 (.t 13)),.g 71 69 false (.load none (.t 70)),.g 72 69 false (.bin .gtr (.t 71) (.n 100)),.f 73 69 72,.m 74 73,.g 75 74 false (.fadr 0 (.t 13)),.g 76 74 false (.load none (.t 75)),.g 77 74 false (.bin .gtr (.t 76) (.n 1000)),.f 78 74 77,.m 79 78,.g 80 79 false (.fadr 0 (.t 13)),.g 81 79 false (.load none (.t 80)),.g 82 79 false (.bin .lss (.t 81) (.n (-1000))),.f 83 79 82] (.j 83 [.o 4 (.mov (.c .nilSlice)),.o 5 (.mov .F)])) (.s [.w 84 11,.y 85 (.conv (.i2i .i64) (.t 84)),.y 86 (.bin .rem (.t 85) (.n 40)),.y 87 (.bin .add (.n 20) (.t 86)),.w 88 1,.w 89 10,.y 90 (.fadr 3 (.t 2)),.y 91 (.iada 2 6 (.t 90) (.t 88)),.y 92 (.iada 6 1 (.t 91) (.t 89)),.j 93 92,.y 94 (.conv (.i2i .i64) (.t 93)),.w 95 6,.y 96 (.bin .add (.t 95) .w),.y 97 (.bin .rem (.t 94) (.t 96)),.y 98 (.bin .add (.t 87) (.t 97)),.y 99 (.fadr 0 (.t 13)),.j 100 99,.y 101 (.fadr 1 (.t 13)),.j 102 101,.y 103 (.call (.f 15) [.t 100,.t 102]),.u 104 .add 98 103,.m 15 104] (.s [.o 105 (.mksl 1 4 [.flt .f32 0] (.n 80) (.n 80)),.m 16 105] (.seq (.s [.m 106 15,.v 107 .lss 106 .z,.m 108 107,.t 109 108 false 15,.t 110 108 false 16,.g 111 108 false (.len .sl (.t 110)),.g 112 108 false (.bin .geq (.t 109) (.t 111)),.f 113 108 112] (.j 113 [.o 4 (.mov (.c .nilSlice)),.o 5 (.mov .F)])) (.s [.m 114 16,.m 115 15,.h 116 1 114 115,.x (.store 1 (.t 116) (.c (.flt .f32 1065353216)))] (.ops [.a 117 1 9,.l 118 117,.m 119 12,.o 120 (.build [.int .i64 0, .int .i64 0, .int .i64 0, .int .i64 0, .int .i64 0, .int .i64 0, .int .i64 0, .int .i64 0] [(0, 1, .z), (1, 1, .z), (2, 1, .z), (3, 1, .z), (4, 1, .t 119), (5, 1, .z), (6, 1, .z), (7, 1, .z)]),.m 121 16,.o 122 (.build [.int .i64 0, .int .i64 0, .int .i64 0, .int .i64 0, .int .i64 0, .int .i64 0, .int .i64 0, .int .i64 0, .bool false, .nilSlice] [(0, 8, .t 120), (9, 1, .t 121)]),.o 123 (.bslice 10 1 [.int .i64 0, .int .i64 0, .int .i64 0, .int .i64 0, .int .i64 0, .int .i64 0, .int .i64 0, .int .i64 0, .bool false, .nilSlice] [(0, .t 122)]),.o 124 (.app 10 96 (.t 118) (.t 123)),.a 125 1 9,.s 1 125 124])))))))))) (.ops [.v 126 .add 47 .w,.m 47 126]))))))) (.s [.y 128 (.load (some 2) (.t 9)),.y 129 (.bslice 2 0 [.int .i64 0, .int .i64 0] []),.w 130 8,.y 131 (.app 2 16 (.t 129) (.t 130)),.y 132 (.call (.f 11) [.t 128,.t 131]),.w 127 132,.y 133 (.ext (.t 127) 0),.y 134 (.ext (.t 127) 1),⟨none, .mov .F, none, true⟩,.y 17 (.boxn 2 (.t 133)),.m 18 134] (.seq (.s [.m 135 18,.v 136 .neq 135 .z,.m 137 136,.g 138 137 false (.fadr 1 (.t 17)),.g 139 137 false (.load none (.t 138)),.g 140 137 false (.len .sl (.t 139)),.g 141 137 false (.fadr 0 (.t 2)),.g 142 137 false (.load none (.t 141)),.g 143 137 false (.len .sl (.t 142)),.g 144 137 false (.bin .neq (.t 140) (.t 143)),.f 145 137 144] (.j 145 [.o 4 (.mov (.c .nilSlice)),.o 5 (.mov .F)])) (.s [.o 19 (.mov (.c .nilSlice))] (.seq (.s [.a 146 1 17,.l 147 146,.n 148 147,.o 149 (.mov .z)] (.block 2 (.loop (.s [.u 150 .lss 149 148] (.seq (.i 150 .skip (.exit 2)) (.seq (.block 3 (.s [.m 151 149,.h 152 10 147 149,.r 153 10 152,.o 21 (.box (.c (.agg [.int .i64 0, .int .i64 0, .int .i64 0, .int .i64 0, .int .i64 0, .int .i64 0, .int .i64 0, .int .i64 0, .bool false, .nilSlice]))),.m 20 151,.s 10 21 153] (.s [.o 155 (.bslice 1 0 [.flt .f32 0] []),.a 156 9 21,.l 157 156,.o 158 (.app 1 4 (.t 155) (.t 157)),.c 159 12 [.t 158],.m 154 159,.e 160 154 0,.e 161 154 1,.m 22 160,.m 23 161] (.seq (.s [.m 162 23,.v 163 .neq 162 .z] (.j 163 [.o 4 (.mov (.c .nilSlice)),.o 5 (.mov .F)])) (.ops [.m 164 19,.m 165 20,.b 166 .mul (.n 2) (.t 165),.m 167 22,.o 168 (.build [.int .i64 0, .int .i64 0] [(0, 1, .t 166), (1, 1, .t 167)]),.o 169 (.bslice 2 1 [.int .i64 0, .int .i64 0] [(0, .t 168)]),.o 170 (.app 2 16 (.t 164) (.t 169)),.m 19 170]))))) (.ops [.v 171 .add 149 .w,.m 149 171]))))))) (.r [.m 172 19,.m 4 172,.o 5 (.mov .T)])))))))))))⟩
def fn7 : AFunc := ⟨20, 3, [(6, none), (7, none)],(.s [.p 3 0,.p 4 1,.o 6 (.mov (.c .nilSlice)),.o 7 (.mov .z)] (.seq (.s [.r 9 3 3,.r 10 3 4,.m 11 2,.c 12 16 [.t 9,.t 10,.t 11,.n (-1000)],.m 8 12] (.s [.m 13 8,.v 14 .neq 13 .z] (.j 14 [.m 15 8,.o 6 (.mov (.c .nilSlice)),.m 7 15]))) (.r [.r 16 3 3,.r 17 3 4,.m 18 2,.c 19 17 [.t 16,.t 17,.t 18],.m 6 19,.o 7 (.mov .z)])))⟩
def fn8 : AFunc := ⟨13, 3, [(6, some (some 3))],(.s [.o 6 (.box (.c (.agg [.str [], .int .i64 0, .nilSlice])))] (.r [.m 7 0,.m 8 1,.o 9 (.bslice 2 0 [.int .i64 0, .int .i64 0] []),.m 10 2,.o 11 (.app 2 16 (.t 9) (.t 10)),.o 12 (.build [.str [], .int .i64 0, .nilSlice] [(0, 1, .t 7), (1, 1, .t 8), (2, 1, .t 11)]),.s 3 6 12]))⟩
def fn9 : AFunc := ⟨46, 3, [(6, none), (7, none), (8, none)],(.s [.p 3 0,.p 4 1,.o 6 (.mov .z),.o 7 (.mov (.c .nilSlice)),.o 8 (.mov .z)] (.seq (.s [.r 13 3 3,.r 14 3 4,.m 15 2,.c 16 16 [.t 13,.t 14,.t 15, .z],.m 9 16] (.s [.m 17 9,.v 18 .neq 17 .z] (.j 18 [.m 19 9,.o 6 (.mov .z),.o 7 (.mov (.c .nilSlice)),.m 8 19]))) (.s [.o 10 (.mov (.c .nilSlice))] (.seq (.s [.m 20 2,.b 21 .mul (.n 2) (.t 20),.v 22 .add 21 .w,.o 23 (.mov .z)] (.block 0 (.loop (.s [.u 24 .lss 23 22] (.seq (.i 24 .skip (.exit 0)) (.seq (.block 1 (.s [.m 25 23,.m 11 25] (.ops [.m 26 10,.m 27 11,.m 28 2,.u 29 .sub 27 28,.r 30 3 3,.r 31 3 4,.m 32 11,.m 33 2,.u 34 .sub 32 33,.c 35 17 [.t 30,.t 31,.t 34],.o 36 (.build [.int .i64 0, .nilSlice] [(0, 1, .t 29), (1, 1, .t 35)]),.o 37 (.bslice 2 1 [.int .i64 0, .nilSlice] [(0, .t 36)]),.o 38 (.app 2 32 (.t 26) (.t 37)),.m 10 38]))) (.ops [.v 39 .add 23 .w,.m 23 39]))))))) (.s [.m 40 10,.c 41 18 [.t 40, (.f 19)],.o 12 (.box (.c (.agg [.int .i64 0, .nilSlice]))),.s 2 12 41] (.r [.y 42 (.fadr 0 (.t 12)),.j 43 42,.y 44 (.fadr 1 (.t 12)),.j 45 44,.w 6 43,.m 7 45,.o 8 (.mov .z)]))))))⟩
def fn10 : AFunc := ⟨51, 3, [(6, some none), (7, some none)],(.s [.p 3 0,.p 4 1,.p 5 2,.o 6 (.box (.c .nilSlice)),.o 7 (.box .z)] (.seq (.s [.r 13 3 3,.r 14 3 4,.l 15 5,.c 16 16 [.t 13,.t 14,.t 15,.n (-1000)],.m 8 16] (.s [.m 17 8,.v 18 .neq 17 .z] (.j 18 [.m 19 8,.x (.store 1 (.t 6) (.c .nilSlice)),.s 1 7 19]))) (.s [.o 9 (.box (.c .nilSlice))] (.seq (.s [.r 20 3 3,.r 21 3 4,.c 22 20 [.t 20,.t 21]] (.block 0 (.rangeF (.t 22) [23] (.ops [.m 10 23]) (.block 1 (.s [.y 24 (.load (some 3) (.t 3)),.w 25 10,.y 26 (.call (.f 21) [.t 24,.t 25]),.y 27 (.load (some 3) (.t 4)),.w 28 10,.y 29 (.call (.f 21) [.t 27,.t 28]),.j 30 5,.y 31 (.call (.f 22) [.t 29,.t 30]),.y 11 (.box (.c (.agg [.int .i64 0, .int .i64 0]))),.y 12 (.box (.c (.agg [.int .i64 0, .int .i64 0]))),.s 2 11 26,.s 2 12 31] (.seq (.s [.r 32 2 11,.r 33 2 12,.o 34 (.build [.int .i64 0, .int .i64 0, .int .i64 0, .int .i64 0] [(0, 2, .t 32), (2, 2, .t 33)]),.c 35 23 [.t 34]] (.j 35 [.x (.store 1 (.t 6) (.c .nilSlice)),.x (.store 1 (.t 7) (.n 18))])) (.ops [.l 36 9,.a 37 0 11,.l 38 37,.a 39 0 12,.l 40 39,.o 41 (.mx (.t 38) [.t 40]),.a 42 1 11,.l 43 42,.a 44 1 12,.l 45 44,.o 46 (.mn (.t 43) [.t 45]),.o 47 (.build [.int .i64 0, .int .i64 0] [(0, 1, .t 41), (1, 1, .t 46)]),.o 48 (.bslice 2 1 [.int .i64 0, .int .i64 0] [(0, .t 47)]),.o 49 (.app 2 16 (.t 36) (.t 48)),.s 1 9 49]))))))) (.r [.l 50 9,.s 1 6 50,.x (.store 1 (.t 7) .z)])))))⟩
def fn11 : AFunc := ⟨22, 2, [(4, some (some 2)), (5, none)],(.s [.p 2 0,.p 3 1,.o 4 (.box (.c (.agg [.str [], .nilSlice]))),.o 5 (.mov .z)] (.seq (.s [.y 7 (.load (some 2) (.t 2)),.y 8 (.call (.f 25) [.t 7]),.j 9 3,.c 10 26 [.t 9],.o 11 (.bslice 1 2 [.int .i64 0] [(0, .t 8), (1, .t 10)]),.c 12 24 [.t 11],.m 6 12] (.s [.m 13 6,.v 14 .neq 13 .z] (.j 14 [.o 15 (.build [.str [], .nilSlice] []),.m 16 6,.s 2 4 15,.m 5 16]))) (.r [.r 17 2 2,.o 18 (.mkfn (.func 28) [] [.t 3]),.c 19 27 [.t 17,.t 18],.e 20 19 0,.e 21 19 1,.s 2 4 20,.m 5 21])))⟩
def fn12 : AFunc := ⟨41, 1, [(2, none), (3, none)],(.s [.o 2 (.mov .z),.o 3 (.mov .z)] (.seq (.s [.m 9 0,.c 10 36 [.t 9],.m 11 0,.n 12 11,.v 13 .eql 12 .z,.c 14 37 [.t 13,.n 12],.o 15 (.bslice 1 2 [.int .i64 0] [(0, .t 10), (1, .t 14)]),.c 16 35 [.t 15],.m 4 16] (.s [.m 17 4,.v 18 .neq 17 .z] (.j 18 [.m 19 4,.o 2 (.mov .z),.m 3 19]))) (.s [.o 5 (.mov .z),.o 6 (.mov (.n (-1)))] (.seq .skip (.seq (.s [.m 20 0,.c 21 38 [.t 20, (.f 39)],.n 22 21,.o 23 (.mov .z)] (.block 0 (.loop (.s [.u 24 .lss 23 22] (.seq (.i 24 .skip (.exit 0)) (.seq (.block 1 (.s [.m 25 23,.h 26 1 21 23,.l 27 26,.m 7 25,.m 8 27] (.seq (.s [.m 28 8,.m 29 8,.o 30 (.un .neg (.t 29)),.o 31 (.mx (.t 28) [.t 30]),.m 8 31] (.s [.m 32 8,.m 33 6,.u 34 .leq 32 33] (.i 34 (.exit 1) .skip))) (.s [.m 35 7,.m 36 8,.m 5 35,.m 6 36] (.s [.m 37 8,.v 38 .eql 37 (.n 16384)] (.i 38 (.exit 0) .skip)))))) (.ops [.v 39 .add 23 .w,.m 23 39]))))))) (.r [.m 40 5,.m 2 40,.o 3 (.mov .z)]))))))⟩
def fn13 : AFunc := ⟨26, 2, [(4, none)],(.s [.o 4 (.mov .F)] (.seq (.s [.m 6 0,.n 7 6,.m 8 1,.n 9 8,.u 10 .neq 7 9] (.j 10 [.o 4 (.mov .F)])) (.seq (.s [.o 5 (.mov .z)] (.block 0 (.loop (.seq (.s [.m 11 5,.m 12 0,.n 13 12,.u 14 .lss 11 13] (.i 14 .skip (.exit 0))) (.seq (.block 1 (.s [.w 17 0,.w 18 5,.y 19 (.iadr 1 (.t 17) (.t 18)),.j 20 19,.w 21 1,.w 22 5,.y 23 (.iadr 1 (.t 21) (.t 22)),.j 24 23,.u 25 .neq 20 24] (.j 25 [.o 4 (.mov .F)]))) (.ops [.m 15 5,.v 16 .add 15 .w,.m 5 16])))))) (.r [.o 4 (.mov .T)]))))⟩
def fn14 : AFunc := ⟨20, 2, [(4, some (some 2)), (5, none)],(.s [.o 4 (.box (.c (.agg [.int .i64 0, .int .i64 0]))),.o 5 (.mov .z)] (.seq (.s [.m 7 0,.c 8 26 [.t 7],.m 9 1,.c 10 40 [.t 9, .z,.n 100000],.o 11 (.bslice 1 2 [.int .i64 0] [(0, .t 8), (1, .t 10)]),.c 12 24 [.t 11],.m 6 12] (.s [.m 13 6,.v 14 .neq 13 .z] (.j 14 [.o 15 (.build [.int .i64 0, .int .i64 0] []),.m 16 6,.s 2 4 15,.m 5 16]))) (.r [.m 17 0,.m 18 1,.c 19 29 [.t 17,.t 18],.s 2 4 19,.o 5 (.mov .z)])))⟩
def fn15 : AFunc := ⟨12, 2, [(4, none)],(.s [.o 4 (.mov .z)] (.r [.m 5 0,.b 6 .mul (.n 2) (.t 5),.m 7 1,.u 8 .add 6 7,.m 9 1,.b 10 .mul (.n 2) (.t 9),.c 11 41 [.t 8,.t 10],.m 4 11]))⟩
def fn16 : AFunc := ⟨26, 4, [(8, none)],(.s [.p 4 0,.p 5 1,.o 8 (.mov .z)] (.seq (.s [.r 10 3 4,.r 11 3 5,.c 12 43 [.t 10,.t 11],.m 13 2,.m 14 3,.c 15 44 [.t 13,.t 14,.n 1000],.o 16 (.bslice 1 2 [.int .i64 0] [(0, .t 12), (1, .t 15)]),.c 17 42 [.t 16],.m 9 17] (.s [.m 18 9,.v 19 .neq 18 .z] (.j 19 [.m 20 9,.m 8 20]))) (.r [.r 21 3 4,.r 22 3 5,.c 23 46 [.t 21,.t 22],.o 24 (.un .not (.t 23)),.c 25 45 [.t 24,.n 7],.m 8 25])))⟩
def fn17 : AFunc := ⟨28, 3, [(6, none)],(.s [.p 3 0,.p 4 1,.p 5 2,.o 6 (.mov (.c .nilSlice))] (.s [.o 7 (.box (.c .nilSlice))] (.seq (.s [.r 9 3 3,.r 10 3 4,.c 11 20 [.t 9,.t 10]] (.block 0 (.rangeF (.t 11) [12] (.ops [.m 8 12]) (.block 1 (.s [.y 13 (.load (some 3) (.t 3)),.w 14 8,.y 15 (.call (.f 21) [.t 13,.t 14]),.y 16 (.load (some 3) (.t 4)),.w 17 8,.y 18 (.call (.f 21) [.t 16,.t 17]),.j 19 5,.c 20 22 [.t 18,.t 19],.o 21 (.build [.int .i64 0, .int .i64 0, .int .i64 0, .int .i64 0] [(0, 2, .t 15), (2, 2, .t 20)]),.c 22 23 [.t 21]] (.i 22 (.ops [.l 23 7,.m 24 8,.o 25 (.bslice 1 1 [.int .i64 0] [(0, .t 24)]),.o 26 (.app 1 8 (.t 23) (.t 25)),.s 1 7 26]) .skip)))))) (.r [.l 27 7,.m 6 27]))))⟩
def fn18 : AFunc := ⟨33, 2, [(4, some (some 2))],(.s [.o 4 (.box (.c (.agg [.int .i64 0, .nilSlice])))] (.seq (.s [.m 7 0,.n 8 7,.v 9 .lss 8 .w] (.i 9 (.ops [.o 10 (.conv (.ifc 9) (.c (.str [115, 108, 105, 99, 101, 115, 46, 77, 105, 110, 70, 117, 110, 99, 58, 32, 101, 109, 112, 116, 121, 32, 108, 105, 115, 116]))),.x (.bad)]) .skip)) (.s [.m 11 0,.o 12 (.iadr 2 (.t 11) .z),.r 13 2 12,.o 5 (.box (.c (.agg [.int .i64 0, .nilSlice]))),.s 2 5 13] (.seq (.s [.o 6 (.mov .w)] (.block 0 (.loop (.seq (.s [.m 14 6,.m 15 0,.n 16 15,.u 17 .lss 14 16] (.i 17 .skip (.exit 0))) (.seq (.block 1 (.s [.w 20 1,.w 21 0,.w 22 6,.y 23 (.iadr 2 (.t 21) (.t 22)),.y 24 (.load (some 2) (.t 23)),.y 25 (.load (some 2) (.t 5)),.o 26 (.call (.t 20) [.t 24,.t 25]),.v 27 .lss 26 .z] (.i 27 (.ops [.m 28 0,.m 29 6,.h 30 2 28 29,.r 31 2 30,.s 2 5 31]) .skip))) (.ops [.m 18 6,.v 19 .add 18 .w,.m 6 19])))))) (.r [.r 32 2 5,.s 2 4 32])))))⟩
def fn19 : AFunc := ⟨32, 2, [(4, none)],(.s [.p 2 0,.p 3 1,.o 4 (.mov .z)] (.r [.y 5 (.fadr 1 (.t 2)),.j 6 5,.y 7 (.len .sl (.t 6)),.y 8 (.fadr 1 (.t 3)),.j 9 8,.y 10 (.len .sl (.t 9)),.y 11 (.call (.f 48) [.t 7,.t 10]),.y 12 (.fadr 0 (.t 2)),.j 13 12,.y 14 (.fadr 0 (.t 2)),.j 15 14,.y 16 (.un .neg (.t 15)),.y 17 (.mx (.t 13) [.t 16]),.y 18 (.fadr 0 (.t 3)),.j 19 18,.y 20 (.fadr 0 (.t 3)),.j 21 20,.y 22 (.un .neg (.t 21)),.y 23 (.mx (.t 19) [.t 22]),.y 24 (.call (.f 48) [.t 17,.t 23]),.y 25 (.fadr 0 (.t 2)),.j 26 25,.y 27 (.fadr 0 (.t 3)),.j 28 27,.c 29 48 [.t 26,.t 28],.o 30 (.bslice 1 3 [.int .i64 0] [(0, .t 11), (1, .t 24), (2, .t 29)]),.c 31 47 [.t 30],.m 4 31]))⟩
def fn20 : AFunc := ⟨6, 2, [(4, none)],(.s [.p 2 0,.p 3 1,.o 4 (.mov (.c .nilFunc))] (.r [.o 5 (.mkfn (.func 49) [] [.t 2,.t 3]),.m 4 5]))⟩
def fn21 : AFunc := ⟨20, 2, [(4, some (some 2))],(.s [.p 2 0,.o 4 (.box (.c (.agg [.int .i64 0, .int .i64 0])))] (.s [.r 6 3 2,.m 7 1,.c 8 51 [.t 6,.t 7],.o 5 (.box (.c (.agg [.int .i64 0, .int .i64 0]))),.s 2 5 8] (.r [.y 9 (.load (some 2) (.t 5)),.y 10 (.call (.f 52) [.t 9]),.y 11 (.fadr 1 (.t 2)),.j 12 11,.y 13 (.bin .sub (.t 10) (.t 12)),.y 14 (.load (some 2) (.t 5)),.y 15 (.call (.f 53) [.t 14]),.y 16 (.fadr 1 (.t 2)),.j 17 16,.y 18 (.bin .add (.t 15) (.t 17)),.o 19 (.build [.int .i64 0, .int .i64 0] [(0, 1, .t 13), (1, 1, .t 18)]),.s 2 4 19])))⟩
def fn22 : AFunc := ⟨14, 2, [(4, some (some 2))],(.s [.p 2 0,.o 4 (.box (.c (.agg [.int .i64 0, .int .i64 0])))] (.r [.a 5 0 2,.l 6 5,.m 7 1,.u 8 .add 6 7,.a 9 1 2,.l 10 9,.m 11 1,.u 12 .add 10 11,.o 13 (.build [.int .i64 0, .int .i64 0] [(0, 1, .t 8), (1, 1, .t 12)]),.s 2 4 13]))⟩
def fn23 : AFunc := ⟨19, 1, [(2, none)],(.s [.p 1 0,.o 2 (.mov .F)] (.r [.o 3 (.iada 2 2 (.t 1) .z),.a 4 1 3,.l 5 4,.o 6 (.iada 2 2 (.t 1) .w),.a 7 0 6,.l 8 7,.u 9 .lss 5 8,.m 10 9,.g 11 10 false (.iada 2 2 (.t 1) .w),.g 12 10 false (.fadr 1 (.t 11)),.g 13 10 false (.load none (.t 12)),.g 14 10 false (.iada 2 2 (.t 1) .z),.g 15 10 false (.fadr 0 (.t 14)),.g 16 10 false (.load none (.t 15)),.g 17 10 false (.bin .lss (.t 13) (.t 16)),.f 18 10 17,.m 2 18]))⟩
def fn24 : AFunc := ⟨15, 1, [(2, none)],(.s [.o 2 (.mov .z)] (.seq (.s [.m 5 0,.n 6 5,.o 7 (.mov .z)] (.block 0 (.loop (.s [.u 8 .lss 7 6] (.seq (.i 8 .skip (.exit 0)) (.seq (.block 1 (.s [.h 9 1 5 7,.l 10 9,.m 4 10] (.s [.m 11 4,.v 12 .neq 11 .z] (.j 12 [.m 13 4,.m 2 13])))) (.ops [.v 14 .add 7 .w,.m 7 14]))))))) (.r [.o 2 (.mov .z)])))⟩
def fn25 : AFunc := ⟨50, 1, [(2, some none)],(.s [.p 1 0,.o 2 (.box .z)] (.seq (.s [.y 9 (.fadr 0 (.t 1)),.j 10 9,.y 11 (.call (.f 54) [.t 10]),.y 12 (.un .not (.t 11)),.y 13 (.call (.f 37) [.t 12,.n 8]),.y 14 (.fadr 1 (.t 1)),.j 15 14,.y 16 (.len .sl (.t 15)),.y 17 (.bin .eql (.t 16) .z),.y 18 (.call (.f 37) [.t 17,.n 12]),.y 19 (.fadr 1 (.t 1)),.j 20 19,.y 21 (.len .sl (.t 20)),.y 22 (.bin .gtr (.t 21) (.n 64)),.c 23 37 [.t 22,.n 5],.o 24 (.bslice 1 3 [.int .i64 0] [(0, .t 13), (1, .t 18), (2, .t 23)]),.c 25 35 [.t 24],.m 3 25] (.s [.m 26 3,.v 27 .neq 26 .z] (.j 27 [.m 28 3,.s 1 2 28]))) (.seq (.s [.a 29 1 1,.l 30 29,.c 31 55 [.t 30, (.f 56)],.c 32 35 [.t 31],.m 4 32] (.s [.m 33 4,.v 34 .neq 33 .z] (.j 34 [.m 35 4,.s 1 2 35]))) (.s [.r 37 2 1,.c 38 57 [.t 37],.m 36 38,.e 39 36 0,.e 40 36 1,.o 5 (.box .z),.s 1 5 39,.m 6 40] (.seq (.s [.r 41 2 1,.c 42 58 [.t 41]] (.block 0 (.rangeF (.t 42) [43, 44] (.ops [.o 8 (.box (.c (.agg [.int .i64 0, .int .i64 0, .int .i64 0, .int .i64 0, .int .i64 0, .int .i64 0, .int .i64 0, .int .i64 0, .bool false, .nilSlice]))),.s 10 8 44]) (.block 1 (.s [.a 45 9 8,.l 46 45,.n 47 46,.l 48 5,.u 49 .neq 47 48] (.j 49 [.x (.store 1 (.t 2) (.n 2))])))))) (.r [.x (.store 1 (.t 2) .z)]))))))⟩
def fn26 : AFunc := ⟨51, 1, [(2, none)],(.s [.o 2 (.mov .z)] (.seq (.s [.m 8 0,.n 9 8,.v 10 .eql 9 .z,.c 11 59 [.t 10,.n 12],.m 12 0,.n 13 12,.v 14 .gtr 13 (.n 16),.c 15 59 [.t 14,.n 5],.o 16 (.bslice 1 2 [.int .i64 0] [(0, .t 11), (1, .t 15)]),.c 17 24 [.t 16],.m 3 17] (.s [.m 18 3,.v 19 .neq 18 .z] (.j 19 [.m 20 3,.m 2 20]))) (.s [.o 4 (.mov (.f 60))] (.seq (.s [.m 21 0,.n 22 21,.o 23 (.mov .z)] (.block 0 (.loop (.s [.u 24 .lss 23 22] (.seq (.i 24 .skip (.exit 0)) (.seq (.block 1 (.s [.m 25 23,.h 26 2 21 23,.r 27 2 26,.o 6 (.box (.c (.agg [.int .i64 0, .int .i64 0]))),.m 5 25,.s 2 6 27] (.s [.y 28 (.load (some 2) (.t 6)),.y 29 (.call (.f 61) [.t 28]),.w 30 5,.y 31 (.bin .gtr (.t 30) .z),.m 32 31,⟨(some 33), .mov (.t 4), (some (32, true)), true⟩,⟨(some 34), .load (some 2) (.t 6), (some (32, true)), true⟩,⟨(some 35), .mov (.t 0), (some (32, true)), true⟩,⟨(some 36), .mov (.t 5), (some (32, true)), true⟩,⟨(some 37), .bin .sub (.t 36) .w, (some (32, true)), true⟩,⟨(some 38), .mx .z [.t 37], (some (32, true)), true⟩,⟨(some 39), .iadr 2 (.t 35) (.t 38), (some (32, true)), true⟩,⟨(some 40), .load (some 2) (.t 39), (some (32, true)), true⟩,.g 41 32 true (.call (.t 33) [.t 34,.t 40]),.g 42 32 true (.bin .leq (.t 41) .z),.d 43 32 42,.c 44 59 [.t 43,.n 11],.o 45 (.bslice 1 2 [.int .i64 0] [(0, .t 29), (1, .t 44)]),.c 46 24 [.t 45],.m 7 46] (.s [.m 47 7,.v 48 .neq 47 .z] (.j 48 [.m 49 7,.m 2 49]))))) (.ops [.v 50 .add 23 .w,.m 23 50]))))))) (.r [.o 2 (.mov .z)])))))⟩
def fn27 : AFunc := ⟨44, 2, [(4, some (some 2)), (5, none)],(.s [.p 2 0,.o 4 (.box (.c (.agg [.str [], .nilSlice]))),.o 5 (.mov .z)] (.s [.a 11 0 2,.l 12 11,.o 13 (.build [.str [], .nilSlice] [(0, 1, .t 12)]),.o 6 (.box (.c (.agg [.str [], .nilSlice]))),.s 2 6 13] (.seq (.s [.a 14 1 2,.l 15 14,.n 16 15,.o 17 (.mov .z)] (.block 0 (.loop (.s [.u 18 .lss 17 16] (.seq (.i 18 .skip (.exit 0)) (.seq (.block 1 (.s [.h 19 10 15 17,.r 20 10 19,.o 8 (.box (.c (.agg [.int .i64 0, .int .i64 0, .int .i64 0, .int .i64 0, .int .i64 0, .int .i64 0, .int .i64 0, .int .i64 0, .bool false, .nilSlice]))),.s 10 8 20] (.seq (.s [.a 21 8 8,.l 22 21,.o 23 (.un .not (.t 22))] (.i 23 (.s [.m 25 1,.r 26 10 8,.o 27 (.call (.t 25) [.t 26]),.m 24 27,.e 28 24 0,.e 29 24 1,.m 9 28,.m 10 29] (.seq (.s [.m 30 10,.v 31 .neq 30 .z] (.j 31 [.o 32 (.build [.str [], .nilSlice] []),.m 33 10,.s 2 4 32,.m 5 33])) (.ops [.m 34 9,.a 35 9 8,.s 1 35 34]))) .skip)) (.ops [.a 36 1 6,.l 37 36,.r 38 10 8,.o 39 (.bslice 10 1 [.int .i64 0, .int .i64 0, .int .i64 0, .int .i64 0, .int .i64 0, .int .i64 0, .int .i64 0, .int .i64 0, .bool false, .nilSlice] [(0, .t 38)]),.o 40 (.app 10 96 (.t 37) (.t 39)),.a 41 1 6,.s 1 41 40])))) (.ops [.v 42 .add 17 .w,.m 17 42]))))))) (.r [.r 43 2 6,.s 2 4 43,.o 5 (.mov .z)]))))⟩
def fn28 : AFunc := ⟨44, 1, [(3, none), (4, none)],(.s [.p 2 0,.o 3 (.mov (.c .nilSlice)),.o 4 (.mov .z)] (.s [.l 10 1,.a 11 0 2,.o 12 (.iada 8 1 (.t 11) (.n 4)),.l 13 12,.c 14 29 [.t 10,.t 13],.o 5 (.box (.c (.agg [.int .i64 0, .int .i64 0]))),.s 2 5 14] (.s [.a 15 0 5,.l 16 15,.a 17 1 5,.l 18 17,.c 19 30 [.t 16,.t 18],.m 6 19] (.s [.a 20 9 2,.l 21 20,.c 22 31 [.t 21, (.f 32)],.m 7 22] (.s [.m 23 7,.n 24 23,.o 25 (.mksl 1 8 [.int .i64 0] (.t 24) (.t 24)),.m 8 25] (.seq (.s [.m 26 8,.n 27 26,.o 28 (.mov .z)] (.block 0 (.loop (.s [.u 29 .lss 28 27] (.seq (.i 29 .skip (.exit 0)) (.seq (.block 1 (.s [.m 30 28,.m 9 30] (.ops [.m 31 8,.m 32 9,.m 33 7,.m 34 9,.m 35 6,.u 36 .add 34 35,.c 37 33 [.t 33,.t 36],.h 38 1 31 32,.s 1 38 37]))) (.ops [.v 39 .add 28 .w,.m 28 39]))))))) (.r [.m 40 8,.c 41 34 [.t 40],.e 42 41 0,.e 43 41 1,.m 3 42,.m 4 43])))))))⟩
def fn29 : AFunc := ⟨65, 2, [(4, some (some 2))],(.s [.o 4 (.box (.c (.agg [.int .i64 0, .int .i64 0])))] (.s [.m 9 0,.m 10 0,.n 11 10,.v 12 .sub 11 .w,.h 13 2 9 12,.a 14 1 13,.l 15 14,.o 16 (.build [.int .i64 0, .int .i64 0] [(0, 1, .t 15), (1, 1, .w)]),.o 5 (.box (.c (.agg [.int .i64 0, .int .i64 0]))),.s 2 5 16] (.seq .skip (.seq (.s [.m 17 0,.n 18 17,.o 19 (.mov .z)] (.block 0 (.loop (.s [.u 20 .lss 19 18] (.seq (.i 20 .skip (.exit 0)) (.seq (.block 1 (.s [.m 21 19,.h 22 2 17 19,.r 23 2 22,.o 7 (.box (.c (.agg [.int .i64 0, .int .i64 0]))),.m 6 21,.s 2 7 23] (.seq (.s [.m 24 1,.a 25 0 7,.l 26 25,.u 27 .gtr 24 26] (.i 27 (.exit 1) .skip)) (.s [.a 28 1 7,.l 29 28,.o 30 (.build [.int .i64 0, .int .i64 0] [(0, 1, .t 29), (1, 1, .w)]),.s 2 5 30] (.seq (.s [.m 31 6,.v 32 .gtr 31 .z] (.i 32 (.s [.m 33 0,.m 34 6,.v 35 .sub 34 .w,.h 36 2 33 35,.r 37 2 36,.o 8 (.box (.c (.agg [.int .i64 0, .int .i64 0]))),.s 2 8 37] (.ops [.a 38 1 8,.l 39 38,.a 40 0 7,.l 41 40,.a 42 0 8,.l 43 42,.u 44 .sub 41 43,.u 45 .mul 39 44,.a 46 1 7,.l 47 46,.a 48 1 8,.l 49 48,.u 50 .sub 47 49,.m 51 1,.a 52 0 8,.l 53 52,.u 54 .sub 51 53,.u 55 .mul 50 54,.u 56 .add 45 55,.a 57 0 7,.l 58 57,.a 59 0 8,.l 60 59,.u 61 .sub 58 60,.c 62 62 [.t 56,.t 61],.s 2 5 62])) .skip)) (.exit 0)))))) (.ops [.v 63 .add 19 .w,.m 19 63]))))))) (.r [.r 64 2 5,.s 2 4 64])))))⟩
def fn30 : AFunc := ⟨28, 2, [(4, none)],(.s [.o 4 (.mov .z)] (.s [.m 7 0,.b 8 .mul (.n 2) (.t 7),.m 9 1,.u 10 .add 8 9,.m 5 10] (.s [.m 11 5,.m 12 1,.b 13 .mul (.n 2) (.t 12),.u 14 .quo 11 13,.m 6 14] (.seq (.s [.m 15 5,.v 16 .lss 15 .z,.m 17 16,.t 18 17 true 6,.g 19 17 true (.bin .mul (.t 18) (.n 2)),.t 20 17 true 1,.g 21 17 true (.bin .mul (.t 19) (.t 20)),.t 22 17 true 5,.g 23 17 true (.bin .neq (.t 21) (.t 22)),.d 24 17 23] (.i 24 (.ops [.m 25 6,.v 26 .sub 25 .w,.m 6 26]) .skip)) (.r [.m 27 6,.m 4 27])))))⟩
def fn31 : AFunc := ⟨22, 2, [(4, none)],(.s [.o 4 (.mov (.c .nilSlice))] (.s [.o 5 (.mov (.c .nilSlice))] (.seq (.s [.m 8 0,.n 9 8,.o 10 (.mov .z)] (.block 0 (.loop (.s [.u 11 .lss 10 9] (.seq (.i 11 .skip (.exit 0)) (.seq (.block 1 (.s [.h 12 1 8 10,.l 13 12,.m 7 13] (.ops [.m 14 5,.m 15 1,.m 16 7,.o 17 (.call (.t 15) [.t 16]),.o 18 (.bslice 1 1 [.int .i64 0] [(0, .t 17)]),.o 19 (.app 1 8 (.t 14) (.t 18)),.m 5 19]))) (.ops [.v 20 .add 10 .w,.m 10 20]))))))) (.r [.m 21 5,.m 4 21]))))⟩
def fn32 : AFunc := ⟨6, 1, [(2, none)],(.s [.o 2 (.mov .z)] (.r [.m 3 0,.b 4 .mul (.c (.flt .f32 1098907648)) (.t 3),.o 5 (.conv (.f2i .i64) (.t 4)),.m 2 5]))⟩
def fn33 : AFunc := ⟨17, 2, [(4, none)],(.s [.o 4 (.mov .z)] (.seq (.s [.m 5 1,.v 6 .lss 5 .z,.m 7 6,.t 8 7 false 1,.t 9 7 false 0,.g 10 7 false (.len .sl (.t 9)),.g 11 7 false (.bin .geq (.t 8) (.t 10)),.f 12 7 11] (.j 12 [.o 4 (.mov .z)])) (.r [.m 13 0,.m 14 1,.h 15 1 13 14,.l 16 15,.m 4 16])))⟩
def fn34 : AFunc := ⟨8, 1, [(2, none), (3, none)],(.s [.o 2 (.mov (.c .nilSlice)),.o 3 (.mov .z)] (.seq (.s [.m 4 0,.c 5 63 [.t 4, (.f 64)]] (.j 5 [.o 2 (.mov (.c .nilSlice)),.o 3 (.mov (.n 4))])) (.r [.m 6 0,.c 7 66 [.t 6, (.f 67)],.m 2 7,.o 3 (.mov .z)])))⟩
def fn35 : AFunc := ⟨15, 1, [(2, none)],(.s [.o 2 (.mov .z)] (.seq (.s [.m 5 0,.n 6 5,.o 7 (.mov .z)] (.block 0 (.loop (.s [.u 8 .lss 7 6] (.seq (.i 8 .skip (.exit 0)) (.seq (.block 1 (.s [.h 9 1 5 7,.l 10 9,.m 4 10] (.s [.m 11 4,.v 12 .neq 11 .z] (.j 12 [.m 13 4,.m 2 13])))) (.ops [.v 14 .add 7 .w,.m 7 14]))))))) (.r [.o 2 (.mov .z)])))⟩
def fn36 : AFunc := ⟨8, 1, [(2, none)],(.s [.o 2 (.mov .z)] (.seq (.s [.m 3 0,.n 4 3,.v 5 .gtr 4 (.n 1024)] (.j 5 [.o 2 (.mov (.n 5))])) (.r [.m 6 0,.c 7 68 [.t 6],.m 2 7])))⟩
def fn37 : AFunc := ⟨7, 2, [(4, none)],(.s [.o 4 (.mov .z)] (.seq (.s [.m 5 0] (.j 5 [.m 6 1,.m 4 6])) (.r [.o 4 (.mov .z)])))⟩
def fn38 : AFunc := ⟨22, 2, [(4, none)],(.s [.o 4 (.mov (.c .nilSlice))] (.s [.o 5 (.mov (.c .nilSlice))] (.seq (.s [.m 8 0,.n 9 8,.o 10 (.mov .z)] (.block 0 (.loop (.s [.u 11 .lss 10 9] (.seq (.i 11 .skip (.exit 0)) (.seq (.block 1 (.s [.h 12 1 8 10,.l 13 12,.m 7 13] (.ops [.m 14 5,.m 15 1,.m 16 7,.o 17 (.call (.t 15) [.t 16]),.o 18 (.bslice 1 1 [.int .i64 0] [(0, .t 17)]),.o 19 (.app 1 8 (.t 14) (.t 18)),.m 5 19]))) (.ops [.v 20 .add 10 .w,.m 10 20]))))))) (.r [.m 21 5,.m 4 21]))))⟩
def fn39 : AFunc := ⟨6, 1, [(2, none)],(.s [.o 2 (.mov .z)] (.r [.m 3 0,.v 4 .mul 3 (.c (.flt .f32 1098907648)),.o 5 (.conv (.f2i .i64) (.t 4)),.m 2 5]))⟩
def fn40 : AFunc := ⟨16, 3, [(6, none)],(.s [.o 6 (.mov .z)] (.r [.m 7 0,.m 8 1,.u 9 .lss 7 8,.m 10 9,.t 11 10 false 0,.t 12 10 false 2,.g 13 10 false (.bin .gtr (.t 11) (.t 12)),.f 14 10 13,.c 15 59 [.t 14,.n 3],.m 6 15]))⟩
def fn41 : AFunc := ⟨17, 2, [(4, none)],(.s [.o 4 (.mov .z)] (.s [.m 6 0,.m 7 1,.u 8 .quo 6 7,.m 5 8] (.seq (.s [.m 9 5,.m 10 1,.u 11 .mul 9 10,.m 12 0,.u 13 .gtr 11 12] (.i 13 (.ops [.m 14 5,.v 15 .sub 14 .w,.m 5 15]) .skip)) (.r [.m 16 5,.m 4 16]))))⟩
def fn42 : AFunc := ⟨15, 1, [(2, none)],(.s [.o 2 (.mov .z)] (.seq (.s [.m 5 0,.n 6 5,.o 7 (.mov .z)] (.block 0 (.loop (.s [.u 8 .lss 7 6] (.seq (.i 8 .skip (.exit 0)) (.seq (.block 1 (.s [.h 9 1 5 7,.l 10 9,.m 4 10] (.s [.m 11 4,.v 12 .neq 11 .z] (.j 12 [.m 13 4,.m 2 13])))) (.ops [.v 14 .add 7 .w,.m 7 14]))))))) (.r [.o 2 (.mov .z)])))⟩
def fn43 : AFunc := ⟨11, 2, [(4, none)],(.s [.p 2 0,.p 3 1,.o 4 (.mov .z)] (.r [.y 5 (.load (some 3) (.t 2)),.y 6 (.call (.f 69) [.t 5]),.y 7 (.load (some 3) (.t 3)),.c 8 69 [.t 7],.o 9 (.bslice 1 2 [.int .i64 0] [(0, .t 6), (1, .t 8)]),.c 10 42 [.t 9],.m 4 10]))⟩
def fn44 : AFunc := ⟨16, 3, [(6, none)],(.s [.o 6 (.mov .z)] (.r [.m 7 0,.m 8 1,.u 9 .lss 7 8,.m 10 9,.t 11 10 false 0,.t 12 10 false 2,.g 13 10 false (.bin .gtr (.t 11) (.t 12)),.f 14 10 13,.c 15 45 [.t 14,.n 3],.m 6 15]))⟩
def fn45 : AFunc := ⟨7, 2, [(4, none)],(.s [.o 4 (.mov .z)] (.seq (.s [.m 5 0] (.j 5 [.m 6 1,.m 4 6])) (.r [.o 4 (.mov .z)])))⟩
def fn46 : AFunc := ⟨9, 2, [(4, some none)],(.s [.p 2 0,.p 3 1,.o 4 (.box .F)] (.seq (.s [.r 5 3 2,.r 6 3 3,.c 7 20 [.t 5,.t 6]] (.block 0 (.rangeF (.t 7) [8] .skip (.block 1 (.r [.x (.store 1 (.t 4) .T)]))))) (.r [.x (.store 1 (.t 4) .F)])))⟩
def fn47 : AFunc := ⟨18, 1, [(2, none)],(.s [.o 2 (.mov .z)] (.s [.o 3 (.mov .z)] (.seq (.s [.m 6 0,.n 7 6,.o 8 (.mov .z)] (.block 0 (.loop (.s [.u 9 .lss 8 7] (.seq (.i 9 .skip (.exit 0)) (.seq (.block 1 (.s [.h 10 1 6 8,.l 11 10,.m 5 11] (.s [.m 12 5,.m 13 3,.u 14 .neq 12 13] (.j 14 [.m 15 5,.m 2 15])))) (.ops [.v 16 .add 8 .w,.m 8 16]))))))) (.r [.m 17 3,.m 2 17]))))⟩
def fn48 : AFunc := ⟨20, 2, [(4, none)],(.s [.o 4 (.mov .z)] (.s [.m 7 0,.c 8 70 [.t 7],.m 5 8] (.s [.m 9 1,.c 10 70 [.t 9],.m 6 10] (.seq (.s [.m 11 5] (.i 11 (.seq (.s [.m 12 6] (.j 12 [.o 4 (.mov .z)])) (.r [.o 4 (.mov (.n (-1)))])) .skip)) (.seq (.s [.m 13 6] (.j 13 [.o 4 (.mov .w)])) (.seq (.s [.m 14 0,.m 15 1,.u 16 .lss 14 15] (.j 16 [.o 4 (.mov (.n (-1)))])) (.seq (.s [.m 17 0,.m 18 1,.u 19 .gtr 17 18] (.j 19 [.o 4 (.mov .w)])) (.r [.o 4 (.mov .z)]))))))))⟩
def fn49 : AFunc := ⟨33, 1, [],(.s [.r 10 3 1,.c 11 50 [.t 10],.m 9 11,.e 12 9 0,.e 13 9 1,.m 4 12,.m 5 13] (.s [.r 15 3 2,.c 16 50 [.t 15],.m 14 16,.e 17 14 0,.e 18 14 1,.m 6 17,.m 7 18] (.s [.m 19 4,.m 20 6,.o 21 (.mx (.t 19) [.t 20]),.m 8 21] (.block 0 (.loop (.seq (.s [.m 22 8,.m 23 5,.m 24 7,.o 25 (.mn (.t 23) [.t 24]),.u 26 .leq 22 25] (.i 26 .skip (.exit 0))) (.seq (.block 1 (.s [.m 29 0,.m 30 8,.o 31 (.call (.t 29) [.t 30]),.o 32 (.un .not (.t 31))] (.i 32 .ret .skip))) (.ops [.m 27 8,.v 28 .add 27 .w,.m 8 28]))))))))⟩
def fn50 : AFunc := ⟨18, 1, [(2, none), (3, none)],(.s [.p 1 0,.o 2 (.mov .z),.o 3 (.mov .z)] (.r [.y 4 (.fadr 2 (.t 1)),.j 5 4,.y 6 (.iadr 2 (.t 5) .z),.y 7 (.fadr 0 (.t 6)),.j 8 7,.y 9 (.fadr 2 (.t 1)),.j 10 9,.y 11 (.fadr 2 (.t 1)),.j 12 11,.y 13 (.len .sl (.t 12)),.y 14 (.bin .sub (.t 13) .w),.y 15 (.iadr 2 (.t 10) (.t 14)),.y 16 (.fadr 0 (.t 15)),.j 17 16,.w 2 8,.m 3 17]))⟩
def fn51 : AFunc := ⟨55, 2, [(4, some (some 2))],(.s [.p 2 0,.p 3 1,.o 4 (.box (.c (.agg [.int .i64 0, .int .i64 0])))] (.s [.a 9 2 2,.l 10 9,.o 11 (.mkfn (.func 72) [] [.t 3]),.c 12 71 [.t 10,.t 11],.m 5 12] (.s [.a 13 2 2,.l 14 13,.m 15 5,.h 16 2 14 15,.r 17 2 16,.o 6 (.box (.c (.agg [.int .i64 0, .int .i64 0]))),.s 2 6 17] (.seq (.s [.r 18 2 6,.l 19 3,.a 20 1 6,.l 21 20,.o 22 (.build [.int .i64 0, .int .i64 0] [(0, 1, .t 19), (1, 1, .t 21)]),.o 23 (.eqv false (.agg [.i, .i]) (.t 18) (.t 22))] (.j 23 [.a 24 1 6,.l 25 24,.o 26 (.build [.int .i64 0, .int .i64 0] [(0, 1, .t 25), (1, 1, .w)]),.s 2 4 26])) (.s [.a 27 2 2,.l 28 27,.m 29 5,.v 30 .sub 29 .w,.h 31 2 28 30,.r 32 2 31,.o 7 (.box (.c (.agg [.int .i64 0, .int .i64 0]))),.s 2 7 32] (.s [.a 33 0 6,.l 34 33,.a 35 0 7,.l 36 35,.u 37 .sub 34 36,.m 8 37] (.r [.a 38 1 7,.l 39 38,.m 40 8,.u 41 .mul 39 40,.a 42 1 6,.l 43 42,.a 44 1 7,.l 45 44,.u 46 .sub 43 45,.l 47 3,.a 48 0 7,.l 49 48,.u 50 .sub 47 49,.u 51 .mul 46 50,.u 52 .add 41 51,.m 53 8,.c 54 73 [.t 52,.t 53],.s 2 4 54])))))))⟩
def fn52 : AFunc := ⟨19, 1, [(2, none)],(.s [.p 1 0,.o 2 (.mov .z)] (.s [.a 4 0 1,.l 5 4,.a 6 1 1,.l 7 6,.u 8 .quo 5 7,.m 3 8] (.seq (.s [.m 9 3,.a 10 1 1,.l 11 10,.u 12 .mul 9 11,.a 13 0 1,.l 14 13,.u 15 .gtr 12 14] (.i 15 (.ops [.m 16 3,.v 17 .sub 16 .w,.m 3 17]) .skip)) (.r [.m 18 3,.m 2 18]))))⟩
def fn53 : AFunc := ⟨11, 1, [(2, none)],(.s [.p 1 0,.o 2 (.mov .z)] (.r [.a 3 0 1,.l 4 3,.o 5 (.un .neg (.t 4)),.a 6 1 1,.l 7 6,.o 8 (.build [.int .i64 0, .int .i64 0] [(0, 1, .t 5), (1, 1, .t 7)]),.c 9 52 [.t 8],.o 10 (.un .neg (.t 9)),.m 2 10]))⟩
def fn54 : AFunc := ⟨54, 1, [(2, none)],(.s [.o 2 (.mov .F)] (.seq (.s [.m 7 0,.o 8 (.rstr (.t 7))] (.block 0 (.loop (.s [.o 9 (.nexts (.t 8)),.e 10 9 0] (.seq (.i 10 .skip (.exit 0)) (.block 1 (.s [.e 11 9 1,.e 12 9 2,.m 3 11,.m 4 12] (.s [.m 13 4,.b 14 .leq (.c (.int .i32 65)) (.t 13),.m 15 14,.t 16 15 true 4,.g 17 15 true (.bin .leq (.t 16) (.c (.int .i32 90))),.d 18 15 17,.m 19 18,.t 20 19 false 4,.g 21 19 false (.bin .leq (.c (.int .i32 97)) (.t 20)),.t 22 19 false 21,.t 23 22 true 4,.g 24 22 true (.bin .leq (.t 23) (.c (.int .i32 122))),.g 25 19 false (.pick (.t 22) (.t 24) .F),.f 26 19 25,.m 5 26] (.s [.m 27 4,.b 28 .leq (.c (.int .i32 48)) (.t 27),.m 29 28,.t 30 29 true 4,.g 31 29 true (.bin .leq (.t 30) (.c (.int .i32 57))),.d 32 29 31,.m 33 32,.t 34 33 false 4,.g 35 33 false (.bin .eql (.t 34) (.c (.int .i32 95))),.f 36 33 35,.m 6 36] (.s [.m 37 5,.o 38 (.un .not (.t 37)),.m 39 38,.t 40 39 true 3,.g 41 39 true (.bin .eql (.t 40) .z),.t 42 39 true 41,.t 43 42 false 6,.g 44 42 false (.un .not (.t 43)),.g 45 39 true (.pick (.t 42) .T (.t 44)),.d 46 39 45] (.j 46 [.o 2 (.mov .F)]))))))))))) (.r [.m 47 0,.v 48 .neq 47 (.c (.str [])),.m 49 48,.t 50 49 true 0,.g 51 49 true (.len .st (.t 50)),.g 52 49 true (.bin .leq (.t 51) (.n 24)),.d 53 49 52,.m 2 53])))⟩
def fn55 : AFunc := ⟨22, 2, [(4, none)],(.s [.o 4 (.mov (.c .nilSlice))] (.s [.o 5 (.mov (.c .nilSlice))] (.seq (.s [.m 8 0,.n 9 8,.o 10 (.mov .z)] (.block 0 (.loop (.s [.u 11 .lss 10 9] (.seq (.i 11 .skip (.exit 0)) (.seq (.block 1 (.s [.h 12 10 8 10,.r 13 10 12,.o 7 (.box (.c (.agg [.int .i64 0, .int .i64 0, .int .i64 0, .int .i64 0, .int .i64 0, .int .i64 0, .int .i64 0, .int .i64 0, .bool false, .nilSlice]))),.s 10 7 13] (.ops [.m 14 5,.m 15 1,.r 16 10 7,.o 17 (.call (.t 15) [.t 16]),.o 18 (.bslice 1 1 [.int .i64 0] [(0, .t 17)]),.o 19 (.app 1 8 (.t 14) (.t 18)),.m 5 19]))) (.ops [.v 20 .add 10 .w,.m 10 20]))))))) (.r [.m 21 5,.m 4 21]))))⟩
def fn56 : AFunc := ⟨40, 1, [(2, none)],(.s [.p 1 0,.o 2 (.mov .z)] (.seq (.s [.a 6 0 1,.r 7 8 6,.o 8 (.mov .z)] (.block 0 (.loop (.s [.v 9 .lss 8 (.n 8)] (.seq (.i 9 .skip (.exit 0)) (.seq (.block 1 (.s [.m 10 8,.o 11 (.ixa 8 1 none (.t 7) (.t 8)),.m 3 10,.m 4 11] (.s [.w 12 4,.w 13 3,.y 14 (.iada 8 2 (.g 0) (.t 13)),.y 15 (.iada 2 1 (.t 14) .z),.j 16 15,.w 17 3,.y 18 (.iada 8 2 (.g 0) (.t 17)),.y 19 (.iada 2 1 (.t 18) .w),.j 20 19,.c 21 74 [.t 12,.t 16,.t 20],.m 5 21] (.s [.m 22 5,.v 23 .neq 22 .z] (.j 23 [.m 24 5,.m 2 24]))))) (.ops [.v 25 .add 8 .w,.m 8 25]))))))) (.r [.y 26 (.fadr 8 (.t 1)),.j 27 26,.w 28 27,⟨(some 29), .fadr 9 (.t 1), (some (28, true)), true⟩,⟨(some 30), .load none (.t 29), (some (28, true)), true⟩,⟨(some 31), .len .sl (.t 30), (some (28, true)), true⟩,⟨(some 32), .bin .gtr (.t 31) .z, (some (28, true)), true⟩,.y 33 (.pick (.t 28) (.t 32) .F),.y 34 (.call (.f 37) [.t 33,.n 24]),.y 35 (.fadr 9 (.t 1)),.j 36 35,.c 37 36 [.t 36],.o 38 (.bslice 1 2 [.int .i64 0] [(0, .t 34), (1, .t 37)]),.c 39 35 [.t 38],.m 2 39])))⟩
def fn57 : AFunc := ⟨13, 1, [(2, some none), (3, some none)],(.s [.p 1 0,.o 2 (.box .z),.o 3 (.box .F)] (.seq (.s [.r 6 2 1,.c 7 58 [.t 6]] (.block 0 (.rangeF (.t 7) [8, 9] (.ops [.o 5 (.box (.c (.agg [.int .i64 0, .int .i64 0, .int .i64 0, .int .i64 0, .int .i64 0, .int .i64 0, .int .i64 0, .int .i64 0, .bool false, .nilSlice]))),.s 10 5 9]) (.block 1 (.r [.a 10 9 5,.l 11 10,.n 12 11,.s 1 2 12,.x (.store 1 (.t 3) .T)]))))) (.r [.x (.store 1 (.t 2) .z),.x (.store 1 (.t 3) .F)])))⟩
def fn58 : AFunc := ⟨4, 1, [(2, none)],(.s [.p 1 0,.o 2 (.mov (.c .nilFunc))] (.r [.o 3 (.mkfn (.func 75) [] [.t 1]),.m 2 3]))⟩
def fn59 : AFunc := ⟨7, 2, [(4, none)],(.s [.o 4 (.mov .z)] (.seq (.s [.m 5 0] (.j 5 [.m 6 1,.m 4 6])) (.r [.o 4 (.mov .z)])))⟩
def fn60 : AFunc := ⟨10, 2, [(4, none)],(.s [.p 2 0,.p 3 1,.o 4 (.mov .z)] (.r [.a 5 0 2,.l 6 5,.a 7 0 3,.l 8 7,.c 9 48 [.t 6,.t 8],.m 4 9]))⟩
def fn61 : AFunc := ⟨11, 1, [(2, none)],(.s [.p 1 0,.o 2 (.mov .z)] (.r [.y 3 (.fadr 0 (.t 1)),.j 4 3,.y 5 (.call (.f 40) [.t 4, .z,.n 100000]),.y 6 (.fadr 1 (.t 1)),.j 7 6,.c 8 40 [.t 7,.n (-64),.n 64],.o 9 (.bslice 1 2 [.int .i64 0] [(0, .t 5), (1, .t 8)]),.c 10 24 [.t 9],.m 2 10]))⟩
def fn62 : AFunc := ⟨16, 2, [(4, some (some 2))],(.s [.o 4 (.box (.c (.agg [.int .i64 0, .int .i64 0])))] (.s [.m 6 0,.m 7 1,.c 8 76 [.t 6,.t 7],.m 5 8] (.r [.w 9 0,.w 10 5,.y 11 (.bin .quo (.t 9) (.t 10)),.w 12 1,.w 13 5,.y 14 (.bin .quo (.t 12) (.t 13)),.o 15 (.build [.int .i64 0, .int .i64 0] [(0, 1, .t 11), (1, 1, .t 14)]),.s 2 4 15])))⟩
def fn63 : AFunc := ⟨9, 2, [(4, none)],(.s [.o 4 (.mov .F)] (.r [.m 5 0,.m 6 1,.c 7 77 [.t 5,.t 6],.v 8 .geq 7 .z,.m 4 8]))⟩
def fn64 : AFunc := ⟨6, 1, [(2, none)],(.s [.o 2 (.mov .F)] (.r [.m 3 0,.c 4 65 [.t 3],.o 5 (.un .not (.t 4)),.m 2 5]))⟩
def fn65 : AFunc := ⟨9, 1, [(2, none)],(.s [.o 2 (.mov .F)] (.r [.m 3 0,.v 4 .geq 3 (.n (-16384)),.m 5 4,.t 6 5 true 0,.g 7 5 true (.bin .leq (.t 6) (.n 16384)),.d 8 5 7,.m 2 8]))⟩
def fn66 : AFunc := ⟨22, 2, [(4, none)],(.s [.o 4 (.mov (.c .nilSlice))] (.s [.o 5 (.mov (.c .nilSlice))] (.seq (.s [.m 8 0,.n 9 8,.o 10 (.mov .z)] (.block 0 (.loop (.s [.u 11 .lss 10 9] (.seq (.i 11 .skip (.exit 0)) (.seq (.block 1 (.s [.h 12 1 8 10,.l 13 12,.m 7 13] (.ops [.m 14 5,.m 15 1,.m 16 7,.o 17 (.call (.t 15) [.t 16]),.o 18 (.bslice 1 1 [.flt .f32 0] [(0, .t 17)]),.o 19 (.app 1 4 (.t 14) (.t 18)),.m 5 19]))) (.ops [.v 20 .add 10 .w,.m 10 20]))))))) (.r [.m 21 5,.m 4 21]))))⟩
def fn67 : AFunc := ⟨6, 1, [(2, none)],(.s [.o 2 (.mov (.c (.flt .f32 0)))] (.r [.m 3 0,.o 4 (.conv (.i2f .f32) (.t 3)),.v 5 .quo 4 (.c (.flt .f32 1098907648)),.m 2 5]))⟩
def fn68 : AFunc := ⟨6, 1, [(2, none)],(.s [.o 2 (.mov .z)] (.r [.m 3 0,.c 4 78 [.t 3, (.f 79)],.c 5 35 [.t 4],.m 2 5]))⟩
def fn69 : AFunc := ⟨57, 1, [(2, none)],(.s [.p 1 0,.o 2 (.mov .z)] (.seq (.s [.y 8 (.fadr 0 (.t 1)),.j 9 8,.y 10 (.call (.f 54) [.t 9]),.y 11 (.un .not (.t 10)),.y 12 (.call (.f 45) [.t 11,.n 8]),.y 13 (.fadr 1 (.t 1)),.j 14 13,.y 15 (.call (.f 44) [.t 14, .z,.n 1000]),.y 16 (.fadr 2 (.t 1)),.j 17 16,.y 18 (.len .sl (.t 17)),.y 19 (.bin .eql (.t 18) .z),.y 20 (.call (.f 45) [.t 19,.n 12]),.y 21 (.fadr 2 (.t 1)),.j 22 21,.y 23 (.len .sl (.t 22)),.y 24 (.bin .gtr (.t 23) (.n 256)),.c 25 45 [.t 24,.n 5],.o 26 (.bslice 1 4 [.int .i64 0] [(0, .t 12), (1, .t 15), (2, .t 20), (3, .t 25)]),.c 27 42 [.t 26],.m 3 27] (.s [.m 28 3,.v 29 .neq 28 .z] (.j 29 [.m 30 3,.m 2 30]))) (.s [.o 4 (.mov (.n (-1)))] (.seq (.s [.a 31 2 1,.l 32 31,.n 33 32,.o 34 (.mov .z)] (.block 0 (.loop (.s [.u 35 .lss 34 33] (.seq (.i 35 .skip (.exit 0)) (.seq (.block 1 (.s [.h 36 2 32 34,.r 37 2 36,.o 6 (.box (.c (.agg [.int .i64 0, .int .i64 0]))),.s 2 6 37] (.seq (.s [.y 38 (.fadr 0 (.t 6)),.j 39 38,.y 40 (.call (.f 44) [.t 39, .z,.n 255]),.y 41 (.fadr 1 (.t 6)),.j 42 41,.y 43 (.call (.f 44) [.t 42, .z,.n 100000]),.y 44 (.fadr 0 (.t 6)),.j 45 44,.w 46 4,.y 47 (.bin .leq (.t 45) (.t 46)),.c 48 45 [.t 47,.n 11],.o 49 (.bslice 1 3 [.int .i64 0] [(0, .t 40), (1, .t 43), (2, .t 48)]),.c 50 42 [.t 49],.m 7 50] (.s [.m 51 7,.v 52 .neq 51 .z] (.j 52 [.m 53 7,.m 2 53]))) (.ops [.a 54 0 6,.l 55 54,.m 4 55])))) (.ops [.v 56 .add 34 .w,.m 34 56]))))))) (.r [.o 2 (.mov .z)])))))⟩
def fn70 : AFunc := ⟨6, 1, [(2, none)],(.s [.o 2 (.mov .F)] (.r [.m 3 0,.m 4 0,.u 5 .neq 3 4,.m 2 5]))⟩
def fn71 : AFunc := ⟨19, 2, [(4, none)],(.s [.o 4 (.mov .z)] (.seq (.s [.m 6 0,.n 7 6,.o 8 (.mov .z)] (.block 0 (.loop (.s [.u 9 .lss 8 7] (.seq (.i 9 .skip (.exit 0)) (.seq (.block 1 (.s [.m 10 8,.m 5 10] (.s [.m 11 1,.m 12 0,.m 13 5,.h 14 2 12 13,.r 15 2 14,.o 16 (.call (.t 11) [.t 15])] (.j 16 [.m 17 5,.m 4 17])))) (.ops [.v 18 .add 8 .w,.m 8 18]))))))) (.r [.o 4 (.mov (.n (-1)))])))⟩
def fn72 : AFunc := ⟨8, 1, [(3, none)],(.s [.p 2 0,.o 3 (.mov .F)] (.r [.a 4 0 2,.l 5 4,.l 6 1,.u 7 .geq 5 6,.m 3 7]))⟩
def fn73 : AFunc := ⟨25, 2, [(4, some (some 2))],(.s [.o 4 (.box (.c (.agg [.int .i64 0, .int .i64 0])))] (.s [.m 7 0,.m 8 0,.o 9 (.un .neg (.t 8)),.o 10 (.mx (.t 7) [.t 9]),.m 11 1,.m 5 10,.m 6 11] (.seq (.block 0 (.loop (.seq (.s [.m 12 6,.v 13 .neq 12 .z] (.i 13 .skip (.exit 0))) (.block 1 (.ops [.w 14 6,.w 15 5,.w 16 6,.y 17 (.bin .rem (.t 15) (.t 16)),.w 5 14,.m 6 17]))))) (.r [.w 18 0,.w 19 5,.y 20 (.bin .quo (.t 18) (.t 19)),.w 21 1,.w 22 5,.y 23 (.bin .quo (.t 21) (.t 22)),.o 24 (.build [.int .i64 0, .int .i64 0] [(0, 1, .t 20), (1, 1, .t 23)]),.s 2 4 24]))))⟩
def fn74 : AFunc := ⟨16, 3, [(6, none)],(.s [.o 6 (.mov .z)] (.r [.m 7 0,.m 8 1,.u 9 .lss 7 8,.m 10 9,.t 11 10 false 0,.t 12 10 false 2,.g 13 10 false (.bin .gtr (.t 11) (.t 12)),.f 14 10 13,.c 15 37 [.t 14,.n 3],.m 6 15]))⟩
def fn75 : AFunc := ⟨24, 1, [],(.s [.a 5 1 1,.l 6 5,.n 7 6,.o 8 (.mov .z)] (.block 0 (.loop (.s [.u 9 .lss 8 7] (.seq (.i 9 .skip (.exit 0)) (.seq (.block 1 (.s [.m 10 8,.h 11 10 6 8,.r 12 10 11,.o 4 (.box (.c (.agg [.int .i64 0, .int .i64 0, .int .i64 0, .int .i64 0, .int .i64 0, .int .i64 0, .int .i64 0, .int .i64 0, .bool false, .nilSlice]))),.m 3 10,.s 10 4 12] (.s [.a 13 8 4,.l 14 13,.o 15 (.un .not (.t 14)),.m 16 15,.t 17 16 true 0,.t 18 16 true 3,.g 19 16 true (.load (some 10) (.t 4)),.g 20 16 true (.call (.t 17) [.t 18,.t 19]),.g 21 16 true (.un .not (.t 20)),.d 22 16 21] (.i 22 .ret .skip)))) (.ops [.v 23 .add 8 .w,.m 8 23])))))))⟩
def fn76 : AFunc := ⟨15, 2, [(4, none)],(.s [.o 4 (.mov .z)] (.seq (.block 0 (.loop (.seq (.s [.m 5 1,.v 6 .neq 5 .z] (.i 6 .skip (.exit 0))) (.block 1 (.ops [.w 7 1,.w 8 0,.w 9 1,.y 10 (.bin .rem (.t 8) (.t 9)),.w 0 7,.m 1 10]))))) (.r [.m 11 0,.m 12 0,.o 13 (.un .neg (.t 12)),.o 14 (.mx (.t 11) [.t 13]),.m 4 14])))⟩
def fn77 : AFunc := ⟨19, 2, [(4, none)],(.s [.o 4 (.mov .z)] (.seq (.s [.m 6 0,.n 7 6,.o 8 (.mov .z)] (.block 0 (.loop (.s [.u 9 .lss 8 7] (.seq (.i 9 .skip (.exit 0)) (.seq (.block 1 (.s [.m 10 8,.m 5 10] (.s [.m 11 1,.m 12 0,.m 13 5,.h 14 1 12 13,.l 15 14,.o 16 (.call (.t 11) [.t 15])] (.j 16 [.m 17 5,.m 4 17])))) (.ops [.v 18 .add 8 .w,.m 8 18]))))))) (.r [.o 4 (.mov (.n (-1)))])))⟩
def fn78 : AFunc := ⟨22, 2, [(4, none)],(.s [.o 4 (.mov (.c .nilSlice))] (.s [.o 5 (.mov (.c .nilSlice))] (.seq (.s [.m 8 0,.n 9 8,.o 10 (.mov .z)] (.block 0 (.loop (.s [.u 11 .lss 10 9] (.seq (.i 11 .skip (.exit 0)) (.seq (.block 1 (.s [.h 12 1 8 10,.l 13 12,.m 7 13] (.ops [.m 14 5,.m 15 1,.m 16 7,.o 17 (.call (.t 15) [.t 16]),.o 18 (.bslice 1 1 [.int .i64 0] [(0, .t 17)]),.o 19 (.app 1 8 (.t 14) (.t 18)),.m 5 19]))) (.ops [.v 20 .add 10 .w,.m 10 20]))))))) (.r [.m 21 5,.m 4 21]))))⟩
def fn79 : AFunc := ⟨13, 1, [(2, none)],(.s [.o 2 (.mov .z)] (.r [.m 3 0,.c 4 80 [.t 3],.o 5 (.un .not (.t 4)),.c 6 37 [.t 5, .w],.m 7 0,.c 8 81 [.t 7,.n 1024],.o 9 (.un .not (.t 8)),.c 10 37 [.t 9,.n 3],.o 11 (.bslice 1 2 [.int .i64 0] [(0, .t 6), (1, .t 10)]),.c 12 35 [.t 11],.m 2 12]))⟩
def fn80 : AFunc := ⟨7, 1, [(2, none)],(.s [.o 2 (.mov .F)] (.r [.m 3 0,.m 4 0,.u 5 .sub 3 4,.v 6 .eql 5 (.c (.flt .f32 0)),.m 2 6]))⟩
def fn81 : AFunc := ⟨25, 2, [(4, none)],(.s [.o 4 (.mov .F)] (.r [.m 5 1,.o 6 (.conv (.i2f .f32) (.t 5)),.o 7 (.un .neg (.t 6)),.m 8 0,.u 9 .leq 7 8,.m 10 9,.t 11 10 true 0,.t 12 10 true 1,.g 13 10 true (.conv (.i2f .f32) (.t 12)),.g 14 10 true (.bin .leq (.t 11) (.t 13)),.d 15 10 14,.m 16 15,.t 17 16 true 0,.g 18 16 true (.bin .mul (.t 17) (.c (.flt .f32 1098907648))),.g 19 16 true (.conv (.f2i .i64) (.t 18)),.g 20 16 true (.conv (.i2f .f32) (.t 19)),.t 21 16 true 0,.g 22 16 true (.bin .mul (.t 21) (.c (.flt .f32 1098907648))),.g 23 16 true (.bin .eql (.t 20) (.t 22)),.d 24 16 23,.m 4 24]))⟩
abbrev Cf (P : Program) (n : Nat) (A : AFunc) : Prop := compileFn P n = some A
/-- A program that has these functions at these numbers. -/
structure Tbl (P : Program) : Prop where
  mix : P.follows .mixedOrders = true
  c2 : Cf P 2 fn2
  c3 : Cf P 3 fn3
  c4 : Cf P 4 fn4
  c5 : Cf P 5 fn5
  c6 : Cf P 6 fn6
  c7 : Cf P 7 fn7
  c8 : Cf P 8 fn8
  c9 : Cf P 9 fn9
  c10 : Cf P 10 fn10
  c11 : Cf P 11 fn11
  c12 : Cf P 12 fn12
  c13 : Cf P 13 fn13
  c14 : Cf P 14 fn14
  c15 : Cf P 15 fn15
  c16 : Cf P 16 fn16
  c17 : Cf P 17 fn17
  c18 : Cf P 18 fn18
  c19 : Cf P 19 fn19
  c20 : Cf P 20 fn20
  c21 : Cf P 21 fn21
  c22 : Cf P 22 fn22
  c23 : Cf P 23 fn23
  c24 : Cf P 24 fn24
  c25 : Cf P 25 fn25
  c26 : Cf P 26 fn26
  c27 : Cf P 27 fn27
  c28 : Cf P 28 fn28
  c29 : Cf P 29 fn29
  c30 : Cf P 30 fn30
  c31 : Cf P 31 fn31
  c32 : Cf P 32 fn32
  c33 : Cf P 33 fn33
  c34 : Cf P 34 fn34
  c35 : Cf P 35 fn35
  c36 : Cf P 36 fn36
  c37 : Cf P 37 fn37
  c38 : Cf P 38 fn38
  c39 : Cf P 39 fn39
  c40 : Cf P 40 fn40
  c41 : Cf P 41 fn41
  c42 : Cf P 42 fn42
  c43 : Cf P 43 fn43
  c44 : Cf P 44 fn44
  c45 : Cf P 45 fn45
  c46 : Cf P 46 fn46
  c47 : Cf P 47 fn47
  c48 : Cf P 48 fn48
  c49 : Cf P 49 fn49
  c50 : Cf P 50 fn50
  c51 : Cf P 51 fn51
  c52 : Cf P 52 fn52
  c53 : Cf P 53 fn53
  c54 : Cf P 54 fn54
  c55 : Cf P 55 fn55
  c56 : Cf P 56 fn56
  c57 : Cf P 57 fn57
  c58 : Cf P 58 fn58
  c59 : Cf P 59 fn59
  c60 : Cf P 60 fn60
  c61 : Cf P 61 fn61
  c62 : Cf P 62 fn62
  c63 : Cf P 63 fn63
  c64 : Cf P 64 fn64
  c65 : Cf P 65 fn65
  c66 : Cf P 66 fn66
  c67 : Cf P 67 fn67
  c68 : Cf P 68 fn68
  c69 : Cf P 69 fn69
  c70 : Cf P 70 fn70
  c71 : Cf P 71 fn71
  c72 : Cf P 72 fn72
  c73 : Cf P 73 fn73
  c74 : Cf P 74 fn74
  c75 : Cf P 75 fn75
  c76 : Cf P 76 fn76
  c77 : Cf P 77 fn77
  c78 : Cf P 78 fn78
  c79 : Cf P 79 fn79
  c80 : Cf P 80 fn80
  c81 : Cf P 81 fn81
end Go.Abs
namespace Go.Abs

theorem lh_get {h' : AHeap} {X : ABlk} {g : AHeap} {n : Nat} (hn : h'.length = n) : (h' ++ [X] ++ g)[n]? = some X := by
  subst hn
  rw [List.append_assoc, List.getElem?_append_right (Nat.le_refl _), Nat.sub_self]; rfl
theorem lh_set {h' : AHeap} {X Y : ABlk} {g : AHeap} {n : Nat} (hn : h'.length = n) : (h' ++ [X] ++ g).set n Y = h' ++ [Y] ++ g := by
  subst hn
  rw [List.append_assoc, List.set_append_right _ _ (Nat.le_refl _), Nat.sub_self, List.append_assoc]; rfl

/-- A function calls yield with one list of arguments after the other, until yield says no. -/
structure Iter (P : Program) (f : FuncId) (a c : List AV) (L : List (List AV)) (pre : AHeap → Prop) : Prop where
  run : ∀ (l : Nat) (h : AHeap) (J : Nat → AHeap → Prop) (D : AHeap → Prop), (∀ i k, J i k → pre k) → (∀ i k g, J i k → J i (k ++ g)) →
    (∀ i (hi : i < L.length) k, J i k → ∃ b k', SCallV P (.func (.yield l) [] []) L[i] k (.bool b) k' ∧ (if b = true then J (i + 1) k' else D k')) →
    (∀ k, J L.length k → D k) → J 0 h → GCall P f (a ++ [.func (.yield l) [] []] ++ c) h (fun _ k => D k)

section
variable {P : Program} {ks : List Kt} {ts : TS} {h : AHeap} {Q : Ex → TS → AHeap → Prop}

/-- THE STATEMENT 'for .. := range f { .. }', by an invariant on what was there before the loop, and on what came since. -/
theorem WC.iter (hmix : P.follows .mixedOrders = true) {f} {A} {a c} {L} {pre} {g} {ps} {asg body} (hA : compileFn P f = some A)
    (hg : val ts g = .func (.func f) a c) (hi : Iter P f a c L pre) (hps : ∀ x ∈ L, x.length = ps.length) (I : Nat → AHeap → AHeap → Prop) (Fin : Ex → AHeap → AHeap → Prop)
    (h0 : I 0 h []) (hcl : ∀ i h' g g2, I i h' g → I i h' (g ++ g2)) (hpre : ∀ i h' g X, h'.length = h.length → I i h' g → pre (h' ++ [X] ++ g))
    (step : ∀ i (hi : i < L.length) h' g (R B : ABlk), h'.length = h.length → I i h' g →
      WC P inRd asg [] (setArgs ts ps L[i]) (h' ++ [R] ++ g) fun e1 ts2 h2 => e1 = .normal ∧ ∃ h1 g1, h2 = h1 ++ [R] ++ g1 ∧ h1.length = h.length ∧
        WC P inRd body [] ts2 (h1 ++ [B] ++ g1) fun e2 _ h4 => ∃ h3 g3, h4 = h3 ++ [B] ++ g3 ∧ h3.length = h.length ∧ (if e2 = .normal then I (i + 1) h3 g3 else Fin e2 h3 g3))
    (done : ∀ e h' g, h'.length = h.length → (if e = .normal then I L.length h' g else Fin e h' g) → WE P inFn e ks ts (h' ++ [ABlk.dead] ++ g) Q) : WC P inFn (.rangeF g ps asg body) ks ts h Q := by
  let J : Nat → AHeap → Prop := fun i k => ∃ h' g, k = h' ++ [.loop .ready .normal ts ps asg body] ++ g ∧ h'.length = h.length ∧ I i h' g
  let D : AHeap → Prop := fun k => ∃ e h' g st, k = h' ++ [.loop st e ts ps asg body] ++ g ∧ h'.length = h.length ∧ st ≠ .busy ∧ (if e = .normal then I L.length h' g else Fin e h' g)
  obtain ⟨v, h2, hs, e, h', g', st, rfl, hl, hst, hfin⟩ := hi.run h.length (h ++ [.loop .ready .normal ts ps asg body]) J D
    (fun i k hJ => by obtain ⟨h', g, rfl, h1, h2⟩ := hJ; exact hpre i h' g _ h1 h2)
    (fun i k g2 hJ => by obtain ⟨h', g, rfl, h1, h2⟩ := hJ; exact ⟨h', g ++ g2, by rw [List.append_assoc], h1, hcl _ _ _ _ h2⟩)
    (fun i hi k hJ => by
      obtain ⟨h', g, rfl, h1, h2⟩ := hJ
      obtain ⟨e1, ts2, k2, q1, rfl, h3, g3, rfl, h4, q2⟩ := W.sound hmix (step i hi h' g (.loop .ready .normal ts ps asg body) (.loop .busy .normal ts ps asg body) h1 h2)
      obtain ⟨e2, ts3, k3, q3, h5, g5, rfl, h6, q4⟩ := W.sound hmix q2
      have hy : SCallV P (.func (.yield h.length) [] []) L[i] (h' ++ [.loop .ready .normal ts ps asg body] ++ g) (.bool (decide (e2 = .normal))) (List.set (h5 ++ [ABlk.loop .busy .normal ts ps asg body] ++ g5) h.length (ABlk.loop (if e2 = .normal then .ready else .done) e2 ts ps asg body)) :=
        SCallV.yield (lh_get h1) (hps _ (List.getElem_mem hi)) (fun r => q1 (some r) ⟨r, rfl⟩) (lh_get h4) (fun r => by rw [lh_set h4]; exact q3 (some r) ⟨r, rfl⟩) (lh_get h6)
      rw [lh_set h6] at hy
      refine ⟨decide (e2 = .normal), _, hy, ?_⟩
      by_cases he : e2 = .normal
      · subst he
        rw [if_pos rfl] at q4
        simp only [decide_true, if_true]
        exact ⟨h5, g5, rfl, h6, q4⟩
      · rw [if_neg he] at q4
        simp only [he, decide_false, Bool.false_eq_true, if_false]
        exact ⟨e2, h5, g5, .done, rfl, h6, by simp, by rw [if_neg he]; exact q4⟩)
    (fun k hJ => by obtain ⟨h', g, rfl, h1, h2⟩ := hJ; exact ⟨.normal, h', g, .ready, rfl, h1, by simp, by rw [if_pos rfl]; exact h2⟩)
    ⟨h, [], by rw [List.append_nil], rfl, h0⟩
  refine ⟨e, ts, h' ++ [ABlk.dead] ++ g', fun r hr => ?_, done e h' g' hl hfin⟩
  have : r = none := hr
  subst this
  have := Ev.rangeF (h := h) (ps := ps) (asg := asg) (body := body) hA hg hs (lh_get hl) hst
  rw [lh_set hl] at this
  exact this
end
end Go.Abs
namespace Go.Abs

theorem flatten_set {es : Nat} {v : AV} : ∀ {cs : List (List AV)}, (∀ x ∈ cs, x.length = es) → ∀ {i off : Nat} (hi : i < cs.length), off < es → cs.flatten.set (i * es + off) v = (cs.set i (cs[i].set off v)).flatten
  | [], _, i, off, hi, _ => absurd hi (Nat.not_lt_zero _)
  | c :: cs, h, 0, off, hi, ho => by
    have hc : c.length = es := h c (List.mem_cons_self ..)
    rw [List.flatten_cons, Nat.zero_mul, Nat.zero_add, List.set_append_left _ _ (by omega)]
    rfl
  | c :: cs, h, i + 1, off, hi, ho => by
    have hc : c.length = es := h c (List.mem_cons_self ..)
    have h1 := flatten_set (v := v) (cs := cs) (fun x hx => h x (List.mem_cons_of_mem _ hx)) (i := i) (off := off) (by simpa using hi) ho
    rw [List.flatten_cons, List.set_append_right _ _ (by rw [Nat.succ_mul]; omega), show (i + 1) * es + off - c.length = i * es + off by rw [Nat.succ_mul]; omega, h1]
    rfl

theorem mksl_ok {es w N0 n : Nat} {z : List AV} {k k' : IntKind} (h1 : w * n ≤ 2 ^ 48) (h2 : n < 2 ^ 63) : mkslF es w z (.int k n) (.int k' n) N0 = some (.slice N0 0 n es, .push (.cells (zrep n z) true true)) := by
  simp only [mkslF]
  rw [if_pos ⟨by omega, by omega, by exact_mod_cast h1, by exact_mod_cast h2⟩]
  rfl

theorem Fr.zeros {N n es} {h} {z} (hN : N ≤ h.length) (hz : z.length = es) : Fr N (h ++ [.cells (zrep n z) true true]) (.slice h.length 0 n es) es (List.replicate n z) := by
  have := Fr.push (h := h) (es := es) hN (List.replicate n z) (fun x hx => by rw [(List.mem_replicate.1 hx).2]; exact hz)
  rw [List.length_replicate] at this
  exact this

section
variable {P : Program} {ro : Option Nat → Prop} {ks : List Kt} {ts : TS} {Q : Ex → TS → AHeap → Prop} {d : Option Nat} {l : List IOp}

/-- append on a literal without elements: what is there is left alone. -/
theorem WR.appz {q} {N b es w} {h} {y} {ys} (hb : h[b]? = some (.cells [] true false)) (hN : N ≤ b) (hy : IsSl h y es ys) (hsz : ys.length * w ≤ 2 ^ 46)
    (K : ∀ s' g, Fr N (h ++ g) s' es ys → WP P ro l ks (put ts d s') (h ++ g) Q) : WR P ro (appT es w (.slice b 0 0 es) y (fun b => h[b]?) h.length) q d l ks ts h Q := by
  have hbl : b < h.length := (List.getElem?_eq_some_iff.1 hb).1
  simp only [appT, hy.cellsG, if_true]
  by_cases hk : ys.length = 0
  · have hys : ys = [] := List.length_eq_zero_iff.1 hk
    subst hys
    simp only [List.length_nil, if_true, List.flatten_nil, List.isEmpty_nil]
    rw [WR_keep]
    have := K (.slice b 0 0 es) [] (by rw [List.append_nil]; exact Fr.mk (cs := []) hN hb (by simp))
    rwa [List.append_nil] at this
  · simp only [if_neg hk, Nat.zero_add, if_pos hsz, hb]
    rw [if_pos (by simp), WR_push]
    exact K _ _ (Fr.push (by omega) ys hy.rows)

/-- A store of one cell into a slice of one's own. -/
theorem WR.put1 {α : Type} {row : α → List AV} {L : List α} {h0 g : AHeap} {s v : AV} {es i off : Nat} {x' : α} (hs : Fr h0.length (h0 ++ g) s es (L.map row)) (hi : i < L.length) (ho : off < es) (hv : v.one = true) (hx : row x' = (row L[i]).set off v)
    (K : ∀ g', g'.length = g.length → Fr h0.length (h0 ++ g') s es ((L.set i x').map row) → (∀ b, (∀ b0 o n e, s = .slice b0 o n e → b ≠ b0) → (h0 ++ g')[b]? = (h0 ++ g)[b]?) → WP P ro l ks (put ts d undefA) (h0 ++ g') Q) :
    WR P ro (storeF 1 (elf s es i off) v (fun b => (h0 ++ g)[b]?)) false d l ks ts (h0 ++ g) Q := by
  have hrl := hs.isSl.rows
  generalize hcs : L.map row = cs at hs
  have hcl : cs.length = L.length := by rw [← hcs, List.length_map]
  cases hs with
  | nil => simp at hcl; omega
  | @mk b _ _ tl hN hb he =>
    have hfl := flatten_len he
    have hie : i * es + off < cs.flatten.length := by
      rw [hfl, hcl]
      have : (i + 1) * es ≤ L.length * es := Nat.mul_le_mul_right _ hi
      rw [Nat.succ_mul] at this; omega
    have hset : cs.flatten.set (i * es + off) v = ((L.set i x').map row).flatten := by
      have := flatten_set (v := v) he (i := i) (off := off) (by omega) ho
      rw [this, List.map_set, hx, hcs]
      congr 2
      simp [← hcs]
    have hbl : b < (h0 ++ g).length := (List.getElem?_eq_some_iff.1 hb).1
    show WR P ro (storeF 1 (.ptr b (0 + i * es + off)) v (fun b => (h0 ++ g)[b]?)) false d l ks ts (h0 ++ g) Q
    rw [Nat.zero_add, storeF_at hb, stB_one hv (by omega), WR_set, hset, List.set_append_right _ _ hN]
    refine K _ (by simp) ?_ fun b' hb' => ?_
    · have hl2 : ((L.set i x').map row).length = cs.length := by simp [hcl]
      rw [← hl2]
      refine Fr.mk hN (tl := tl) ?_ fun y hy => ?_
      · rw [List.getElem?_append_right hN, List.getElem?_set_self (by simp at hbl; omega)]
      · rw [List.map_set] at hy
        rcases List.mem_or_eq_of_mem_set hy with hy | hy
        · exact he y (by rw [← hcs]; exact hy)
        · rw [hy, hx, List.length_set]
          exact he _ (by rw [← hcs]; exact List.mem_map_of_mem (List.getElem_mem hi))
    · have hne := hb' b 0 _ _ rfl
      rw [← List.set_append_right _ _ hN, List.getElem?_set_ne (Ne.symm hne)]

end
end Go.Abs
namespace Go.Abs

section
variable (P : Program) (ro : Option Nat → Prop)
def WQ (l : List IOp) (cs : List Acc) (ks : List Kt) (ts : TS) (h : AHeap) (Q : Ex → TS → AHeap → Prop) : Prop := WOS h l ts cs fun ts' cs => accOk cs ∧ kq P ro ks Q .normal ts' (accApp h cs)
end

section
variable {P : Program} {ro : Option Nat → Prop} {ks : List Kt} {ts : TS} {h : AHeap} {Q : Ex → TS → AHeap → Prop} {d : Option Nat} {q : Bool} {l : List IOp} {cs : List Acc}

end
end Go.Abs
namespace Go.Abs
theorem pset :
    (∀ {ts : TS} {i j : Nat} {v : AV} (_ : (i = j) = False), slot (ts.set i v) j = slot ts j) ∧
    (∀ {ts : TS} {i : Nat} {v : AV} (_ : i + 1 ≤ ts.length), slot (ts.set i v) i = v) ∧
    (∀ {ts : TS} {i : Nat} {X : Prop} (_ : i + 1 ≤ ts.length), inS ts[i]? X = X) ∧
    (∀ {ts : TS} {i : Nat} {v : AV}, (ts.set i v).length = ts.length) ∧
    (∀ {u : TypeId} {x : AV} {G : Nat → Option ABlk} {N : Nat}, convT (.ifc u) x G N = some (.ifc u x, .keep)) := by
  refine ⟨fun {ts i j v} h => ?_, fun {ts i v} h => ?_, fun {ts i X} h => by rw [List.getElem?_eq_getElem h]; rfl, fun {ts i v} => List.length_set, rfl⟩
  · have hne : i ≠ j := fun e => by rw [← h]; exact e
    unfold slot
    rw [List.getD, List.getD, List.getElem?_set_ne hne]
  · unfold slot
    rw [List.getD, List.getElem?_set_self h]; rfl
end Go.Abs
namespace Go.Abs
theorem Rs {A B F : Prop} (f : F) (b : B) (e : F → (B → A) ∧ (∃ x : Prop, x = B) := by (intro f; refine ⟨fun b => ?_, ?_⟩; (focus (repeat (first | simp (config := { maxSteps := 1000000 }) only [wset, hset, dset, bset, Nat.reduceAdd, Nat.reduceMul, Nat.reduceLeDiff, Nat.reduceEqDiff, pset, hlen, if_false, if_true, f] | simp (config := { maxSteps := 1000000 }) (disch := first | (simp only [List.length_append, List.length_cons, List.length_nil] <;> omega) | rfl | omega | fail) only [kset, wset, hset, dset, bset, Nat.reduceAdd, Nat.reduceMul, Nat.reduceLeDiff, Nat.reduceEqDiff, pset, hlen, if_false, if_true, f])); all_goals exact b); first | exact ⟨True, rfl⟩ | exact ⟨_, rfl⟩)) : A := (e f).1 b
theorem Zs {A B F : Prop} (f : F) (b : B) (e : F → (B → A) ∧ (∃ x : Prop, x = B) := by (intro f; refine ⟨fun b => ?_, ?_⟩; (focus (simp only [wset, hset, dset, bset, Nat.reduceAdd, Nat.reduceMul, Nat.reduceLeDiff, Nat.reduceEqDiff, pset, hlen, if_false, if_true, f]); all_goals exact b); first | exact ⟨True, rfl⟩ | exact ⟨_, rfl⟩)) : A := (e f).1 b
theorem Zn {A B : Prop} (b : B) (e : (B → A) ∧ (∃ x : Prop, x = B) := by (refine ⟨fun b => ?_, ?_⟩; (focus (simp only [wset, hset, dset, bset, Nat.reduceAdd, Nat.reduceMul, Nat.reduceLeDiff, Nat.reduceEqDiff, pset, hlen, if_false, if_true]); all_goals exact b); first | exact ⟨True, rfl⟩ | exact ⟨_, rfl⟩)) : A := e.1 b
theorem Ws {A B F : Prop} (f : F) (b : B) (e : F → (B → A) ∧ (∃ x : Prop, x = B) := by (intro f; refine ⟨fun b => ?_, ?_⟩; (focus (simp only [wset, hset, dset, bset, Nat.reduceAdd, Nat.reduceMul, Nat.reduceLeDiff, Nat.reduceEqDiff, if_true, if_false, f]); all_goals exact b); first | exact ⟨True, rfl⟩ | exact ⟨_, rfl⟩)) : A := (e f).1 b
theorem Wn {A B : Prop} (b : B) (e : (B → A) ∧ (∃ x : Prop, x = B) := by (refine ⟨fun b => ?_, ?_⟩; (focus (simp only [wset, hset, dset, bset, Nat.reduceAdd, Nat.reduceMul, Nat.reduceLeDiff, Nat.reduceEqDiff, if_true, if_false]); all_goals exact b); first | exact ⟨True, rfl⟩ | exact ⟨_, rfl⟩)) : A := e.1 b
theorem Sq {A F : Prop} (f : F) (e : F → A := by (intro f; simp only [wset, hset, dset, bset, Nat.reduceAdd, Nat.reduceMul, Nat.reduceLeDiff, Nat.reduceEqDiff, pset, hlen, if_false, if_true, f])) : A := e f
theorem Sw {A : Prop} (e : A := by simp only [wset, hset, dset, bset, Nat.reduceAdd, Nat.reduceMul, Nat.reduceLeDiff, Nat.reduceEqDiff, pset, hlen, if_false, if_true]) : A := e
theorem Swr {A : Prop} (e : A := by (simp only [wset, hset, dset, bset, Nat.reduceAdd, Nat.reduceMul, Nat.reduceLeDiff, Nat.reduceEqDiff, pset, hlen, if_false, if_true]; rfl)) : A := e
theorem Sn {A : Prop} (e : A := by simp only [pset, hlen]) : A := e
theorem Xx {A : Prop} (e : A := by repeat first | with_reducible exact Ext.refl _ | refine Ext.app _ ?_) : A := e
theorem RCall.st1 {P : Program} {h : AHeap} (nt : Nat) (hmix : P.follows .mixedOrders = true) {f : FuncId} {A : AFunc} (hA : compileFn P f = some A) {a0 : AV} {R : AV → AHeap → Prop} (H : ∀ ts : TS, ts.length = nt → slot ts 0 = a0 → WC P inFn A.body [] ts h (FQ A.rs (fun v h' => Ext h h' ∧ R v h'))) (hn : A.nt = nt := by rfl) (hl : (startTS nt [a0]).length = nt := by rfl) : RCall P f [a0] h R := by
  subst hn
  exact .of hmix hA (H (startTS A.nt [a0]) hl rfl)
theorem RCall.st2 {P : Program} {h : AHeap} (nt : Nat) (hmix : P.follows .mixedOrders = true) {f : FuncId} {A : AFunc} (hA : compileFn P f = some A) {a0 a1 : AV} {R : AV → AHeap → Prop} (H : ∀ ts : TS, ts.length = nt → slot ts 0 = a0 → slot ts 1 = a1 → WC P inFn A.body [] ts h (FQ A.rs (fun v h' => Ext h h' ∧ R v h'))) (hn : A.nt = nt := by rfl) (hl : (startTS nt [a0, a1]).length = nt := by rfl) : RCall P f [a0, a1] h R := by
  subst hn
  exact .of hmix hA (H (startTS A.nt [a0, a1]) hl rfl rfl)
theorem RCall.st3 {P : Program} {h : AHeap} (nt : Nat) (hmix : P.follows .mixedOrders = true) {f : FuncId} {A : AFunc} (hA : compileFn P f = some A) {a0 a1 a2 : AV} {R : AV → AHeap → Prop} (H : ∀ ts : TS, ts.length = nt → slot ts 0 = a0 → slot ts 1 = a1 → slot ts 2 = a2 → WC P inFn A.body [] ts h (FQ A.rs (fun v h' => Ext h h' ∧ R v h'))) (hn : A.nt = nt := by rfl) (hl : (startTS nt [a0, a1, a2]).length = nt := by rfl) : RCall P f [a0, a1, a2] h R := by
  subst hn
  exact .of hmix hA (H (startTS A.nt [a0, a1, a2]) hl rfl rfl rfl)
theorem WF.ce {P : Program} {ro : Option Nat → Prop} {ks : List Kt} {ts : TS} {h : AHeap} {Q : Ex → TS → AHeap → Prop} {q : Bool} {f : FuncId} {A : AFunc} (hA : compileFn P f = some A) {a c args : List AV} {d : Option Nat} {l : List IOp} {V : AV} (H : RCall P f (a ++ args ++ c) h (fun v _ => v = V)) (K : ∀ g, WP P ro l ks (put ts d V) (h ++ g) Q) : WF P ro q (.func (.func f) a c) args d l ks ts h Q :=
  WF.res hA H fun _ g e => e ▸ K g
theorem ldx {W : AHeap} {b : Nat} {B : ABlk} (h : W[b]? = some B) {k : AHeap} {n : Option Nat} {a : Nat} (e : Ext W k) : loadF n (.ptr b a) (fun z => k[z]?) = ldB n a B := loadF_at (e.some h)
theorem dltT {k n : Nat} (h : k < n) : decide ((k : Int) < (n : Int)) = true := decide_eq_true (by omega)
theorem dltF {k n : Nat} (h : ¬ k < n) : decide ((k : Int) < (n : Int)) = false := decide_eq_false (by omega)
end Go.Abs
namespace Go.Abs
def whenS (c : Bool) (e : Int) : Int := if c then e else 0
def rangeS (n lo hi : Int) : Int := if n < lo ∨ hi < n then 3 else 0
def firstS : List Int → Int
  | [] => 0
  | x :: xs => if x = 0 then firstS xs else x
def letterS (c : UInt8) : Bool := (65 ≤ c.toNat && c.toNat ≤ 90) || (97 ≤ c.toNat && c.toNat ≤ 122)
def digitS (c : UInt8) : Bool := 48 ≤ c.toNat && c.toNat ≤ 57
def restS (c : UInt8) : Bool := letterS c || digitS c || c.toNat == 95
def nameS : List UInt8 → Bool
  | [] => false
  | c :: r => decide (r.length < 24) && letterS c && r.all restS
end Go.Abs
namespace Go.Abs

section
variable {P : Program} (T : Tbl P) {h : AHeap}
include T

theorem r59 (c : Bool) (e : Int) : RCall P 59 [.bool c, .int .i64 e] h (fun v _ => v = .int .i64 (whenS c e)) := by
  refine .of T.mix T.c59 ?_
  unfold fn59
  simp only [uset]
  cases c <;> simp only [wset] <;> rfl

theorem r40 (n lo hi : Int) : RCall P 40 [.int .i64 n, .int .i64 lo, .int .i64 hi] h (fun v _ => v = .int .i64 (rangeS n lo hi)) := by
  refine .of T.mix T.c40 ?_
  unfold fn40
  simp only [uset]
  simp +contextual only [wset, wsplit, decide_true, decide_false]
  refine ⟨fun h1 => ?_, fun h1 => ?_⟩ <;>
  · refine WF.res T.c59 (r59 T _ _) ?_
    rintro _ g rfl
    simp only [wset]
    simp [whenS, rangeS, h1]

theorem r24 {s} {l} (hs : IsSl h s 1 (l.map intRow)) (hl : l.length < 2 ^ 63) : RCall P 24 [s] h (fun v _ => v = .int .i64 (firstS l)) := by
  refine .of T.mix T.c24 ?_
  unfold fn24
  simp only [uset]
  have e1 : (l.map intRow).length = l.length := by simp
  simp only [wset, hs.lenG, e1]
  refine WL.inv T.mix (fun n ts h' => ∃ k : Nat, k ≤ l.length ∧ n = l.length - k ∧ h' = h ∧ firstS l = firstS (l.drop k) ∧ ts.length = 15 ∧ slot ts 5 = s ∧ slot ts 6 = .int .i64 l.length ∧ slot ts 7 = .int .i64 k) l.length
    ⟨0, by omega, rfl, rfl, rfl, rfl, rfl, rfl, rfl⟩ ?_
  rintro _ ts _ ⟨k, hk, rfl, rfl, hf, hlen, h5, h6, h7⟩
  rw [expl ts 15 hlen]
  by_cases hlt : k < l.length
  · have hd : l.drop k = l[k] :: l.drop (k + 1) := by simp
    have e2 : (l.map intRow)[k]'(by omega) = [AV.int .i64 l[k]] := by simp
    have e3 : (k : Int) < l.length := by omega
    simp +contextual (disch := omega) only [wset, wsplit, h5, h6, h7, e3, decide_true, hs.iadr, Int.toNat_natCast, hs.load1 _ e2, wrap_in]
    refine ⟨fun h1 => ?_, fun h1 => ⟨l.length - (k + 1), by omega, k + 1, by omega, rfl, ?_, rfl⟩⟩
    · rw [hf, hd, firstS, if_neg h1]
    · rw [hf, hd, firstS, if_pos (by omega)]
  · have e3 : ¬ (k : Int) < l.length := by omega
    have e4 : k = l.length := by omega
    simp +contextual (disch := omega) only [wset, h5, h6, h7, e3, decide_false, if_true]
    rw [hf, e4, List.drop_length]; rfl

end
end Go.Abs
namespace Go.Abs

def ratI (n d : Int) : Int × Int := (n.tdiv (Int.gcd n d), d.tdiv (Int.gcd n d))
def ratR (x : Int × Int) : List AV := [.int .i64 x.1, .int .i64 x.2]
theorem gcd_step {x y : Int} : Int.gcd y (x.tmod y) = Int.gcd x y := by
  show Nat.gcd y.natAbs (x.tmod y).natAbs = Nat.gcd x.natAbs y.natAbs
  rw [Int.natAbs_tmod, Nat.gcd_comm x.natAbs, Nat.gcd_rec y.natAbs x.natAbs, Nat.gcd_comm]
theorem gcd_zero {x : Int} : ((Int.gcd x 0 : Nat) : Int) = max x (-x) := by
  show ((Nat.gcd x.natAbs 0 : Nat) : Int) = _
  rw [Nat.gcd_zero_right]; omega
theorem tmod_lt {x y : Int} (h : y ≠ 0) : (x.tmod y).natAbs < y.natAbs := by
  rw [Int.natAbs_tmod]; exact Nat.mod_lt _ (by omega)
theorem gcd_le {n d : Int} (hd : 0 < d) : 1 ≤ ((Int.gcd n d : Nat) : Int) ∧ ((Int.gcd n d : Nat) : Int) ≤ d := by
  have h1 : 0 < Int.gcd n d := Nat.gcd_pos_of_pos_right _ (by omega)
  have h2 : Int.gcd n d ≤ d.natAbs := Nat.gcd_le_right _ (by omega)
  omega
theorem quo_bd {n g : Int} (hg : 1 ≤ g) {B : Int} (h : -B ≤ n ∧ n ≤ B) : -B ≤ n.tdiv g ∧ n.tdiv g ≤ B := by
  have h1 := Int.natAbs_tdiv n g
  have h2 : n.natAbs.div g.natAbs ≤ n.natAbs := Nat.div_le_self _ _
  have h3 : (n.tdiv g).natAbs ≤ n.natAbs := by rw [h1]; exact h2
  omega
theorem rat_st {n d : Int} {b : Nat} {a0 a1 : AV} : stB 2 0 (.agg [.int .i64 n, .int .i64 d]) b (.cells [a0, a1] true false) = some (undefA, .set b (.cells [.int .i64 n, .int .i64 d] true false)) := (stB_agg (l := [.int .i64 n, .int .i64 d]) rfl rfl (by show 0 + 2 ≤ 2; omega)).trans rfl
set_option maxRecDepth 10000
attribute [local irreducible] WP WC WE WB WR WF WL WG WRg WQ
section
variable {P : Program} (T : Tbl P) {h : AHeap}
include T
set_option maxHeartbeats 1000000 in
theorem r76 (a b : Int) (ha : a.natAbs < 2 ^ 62) (hb : b.natAbs < 2 ^ 62) : RCall P 76 [.int .i64 a, .int .i64 b] h (fun v _ => v = .int .i64 (Int.gcd a b : Nat)) := by
  refine .st2 15 T.mix T.c76 ?_;intro ts hlen t0 t1;unfold fn76
  refine Rs (A2 @t0 @t1) ?_
  refine WL.inv T.mix (fun n ts h' => ∃ x y : Int, n = y.natAbs ∧ h' = h ∧ Int.gcd x y = Int.gcd a b ∧ x.natAbs < 2 ^ 62 ∧ y.natAbs < 2 ^ 62 ∧ ts.length = 15 ∧ slot ts 0 = .int .i64 x ∧ slot ts 1 = .int .i64 y) b.natAbs
    ⟨a, b, rfl, rfl, rfl, ha, hb, Sn, (Sq @t0), (Sq @t1)⟩ ?_
  clear hlen t0 t1 ha hb
  rintro _ ts _ ⟨x, y, rfl, rfl, hg, hx, hy, hlen, t0, t1⟩
  by_cases hz : y = 0
  · have d1 : decide (y ≠ 0) = false := decide_eq_false fun z => z hz
    have w1 : IntKind.i64.wrap (0 - x) = -x := by rw [wrap_in (by omega) (by omega)]; omega
    refine Rs (A4 @t0 @t1 @d1 @w1) ?_
    rw [← hg, hz, gcd_zero]
  · have d1 : decide (y ≠ 0) = true := decide_eq_true hz
    have r1 := bin_rem (k := .i64) (a := x) (b := y) hz
    have hlt := tmod_lt (x := x) hz
    refine Rs (A4 @t0 @t1 @d1 @r1) ?_
    exact ⟨(x.tmod y).natAbs, hlt, y, x.tmod y, rfl, gcd_step.trans hg, hy, by omega, rfl, rfl⟩
set_option maxHeartbeats 1000000 in
theorem r62 (n d : Int) (hn : n.natAbs < 2 ^ 62) (hd : 0 < d) (hd2 : d < 2 ^ 62) : RCall P 62 [.int .i64 n, .int .i64 d] h (fun v _ => v = .agg (ratR (ratI n d))) := by
  refine .st2 16 T.mix T.c62 ?_;intro ts hlen t0 t1;unfold fn62
  have g := gcd_le (n := n) hd
  have q1 := quo_bd g.1 (n := n) (B := 2 ^ 62) (by omega)
  have q2 := quo_bd g.1 (n := d) (B := 2 ^ 62) (by omega)
  obtain ⟨G, hG⟩ : ∃ G : Int, G = ((Int.gcd n d : Nat) : Int) := ⟨_, rfl⟩
  have hr : ratI n d = (n.tdiv G, d.tdiv G) := by rw [hG]; rfl
  refine Rs (A2 @t0 @t1) ?_
  refine WF.ce T.c76 (r76 T n d hn (by omega)) fun g1 => ?_
  rw [← hG] at g q1 q2 ⊢
  have hz : G ≠ 0 := by omega
  have b1 : binK .quo (.int .i64 n) (.int .i64 G) = some (.int .i64 (n.tdiv G)) := by rw [bin_quo hz, wrap_in (by omega) (by omega)]
  have b2 : binK .quo (.int .i64 d) (.int .i64 G) = some (.int .i64 (d.tdiv G)) := by rw [bin_quo hz, wrap_in (by omega) (by omega)]
  rw [hr]
  unfold ratR
  have st := @rat_st (n.tdiv G) (d.tdiv G)
  exact Rs (A5 @t0 @t1 @b1 @b2 @st) trivial
end
end Go.Abs
namespace Go.Abs

theorem rows_of {α : Type} {row : α → List AV} {Q : α → Prop} : ∀ {cs : List (List AV)}, (∀ c ∈ cs, ∃ x, c = row x ∧ Q x) → ∃ L : List α, cs = L.map row ∧ ∀ x ∈ L, Q x
  | [], _ => ⟨[], rfl, fun _ h => by cases h⟩
  | c :: cs, h => by
    obtain ⟨x, rfl, hx⟩ := h c (List.mem_cons_self ..)
    obtain ⟨L, rfl, hL⟩ := rows_of (cs := cs) fun c hc => h c (List.mem_cons_of_mem _ hc)
    exact ⟨x :: L, rfl, fun y hy => (List.mem_cons.1 hy).elim (fun e => e ▸ hx) (hL y)⟩

theorem maxLen_lt {n} (h : n ≤ maxLen) : n < 2 ^ 63 := by unfold maxLen at h; omega

theorem ty_int {h} {k} {a} (x : TY h (.int k) a) : ∃ z, a = .int k z ∧ (Lit.int k z).wf = true := by rw [TY] at x; exact x
theorem ty_sl {h} {r} {a} (x : TY h (.sl r) a) : ∃ cs : List (List AV), IsSl h a r.length cs ∧ cs.length ≤ maxLen ∧ ∀ c ∈ cs, TYs h r c := by rw [TY] at x; exact x
theorem tys_nil {h} {l} (x : TYs h [] l) : l = [] := by rw [TYs] at x; exact x
theorem tys_cons {h} {t} {ts} {l} (x : TYs h (t :: ts) l) : ∃ a l', l = a :: l' ∧ TY h t a ∧ TYs h ts l' := by rw [TYs] at x; exact x
theorem tyas_nil {h} {l} (x : TYas h [] l) : l = [] := by rw [TYas] at x; exact x
theorem tyas_cons {h} {t} {ts} {l} (x : TYas h (t :: ts) l) : ∃ a l', l = a :: l' ∧ TYa h t a ∧ TYas h ts l' := by rw [TYas] at x; exact x

theorem tya_int {h} {k} {a} (x : TYa h (.one (.int k)) a) : ∃ z, a = .int k z ∧ (Lit.int k z).wf = true := ty_int (h := h) x
theorem u8_bd {z} (h : (Lit.int .u8 z).wf = true) : 0 ≤ z ∧ z ≤ 255 := by
  simp only [Lit.wf, Bool.and_eq_true, decide_eq_true_eq] at h
  exact ⟨h.1, h.2⟩
theorem i8_bd {z} (h : (Lit.int .i8 z).wf = true) : -128 ≤ z ∧ z ≤ 127 := by
  simp only [Lit.wf, Bool.and_eq_true, decide_eq_true_eq] at h
  exact ⟨h.1, h.2⟩
end Go.Abs
namespace Go.Abs

def chkT1 (x : Int × Int) : Int := firstS [rangeS x.1 0 100000, rangeS x.2 (-64) 64]
def lateT (p : Option (Int × Int)) (x : Int × Int) : Bool :=
  match p with
  | none => false
  | some y => decide (x.1 ≤ y.1)
/-- The error of rows behind one. -/
def chkTF : List (Int × Int) → Option (Int × Int) → Int
  | [], _ => 0
  | x :: r, p => if chkT1 x ≠ 0 then chkT1 x else if lateT p x = true then 11 else chkTF r (some x)
def chkTs (l : List (Int × Int)) : Int := if l.length = 0 then 12 else if 16 < l.length then 5 else chkTF l none
def interT (a b : Int × Int) (t : Int) : Int × Int := ratI (a.2 * (b.1 - a.1) + (b.2 - a.2) * (t - a.1)) (b.1 - a.1)
def lvlF : List (Int × Int) → Option (Int × Int) → Int → Option (Int × Int)
  | [], _, _ => none
  | b :: r, p, t => if b.1 < t then lvlF r (some b) t else some (match p with
    | none => (b.2, 1)
    | some a => interT a b t)
def lvlS (l : List (Int × Int)) (t : Int) : Int × Int := (lvlF l none t).getD ((l.getD (l.length - 1) (0, 0)).2, 1)
/-- The row ahead of an index. -/
def preT (l : List (Int × Int)) (k : Nat) : Option (Int × Int) := if k = 0 then none else l[k - 1]?
theorem preT_succ {l : List (Int × Int)} {k : Nat} (h : k < l.length) : preT l (k + 1) = some l[k] := by
  rw [preT, if_neg (by omega), Nat.add_sub_cancel, List.getElem?_eq_getElem h]
/-- Rows that are in their ranges, each one later than the one before. -/
structure TdOk (l : List (Int × Int)) : Prop where
  r : ∀ x ∈ l, 0 ≤ x.1 ∧ x.1 ≤ 100000 ∧ -64 ≤ x.2 ∧ x.2 ≤ 64
  o : ∀ k (h : k + 1 < l.length), (l[k]'(by omega)).1 < l[k + 1].1
theorem rangeS_z {n lo hi : Int} : rangeS n lo hi = 0 ↔ lo ≤ n ∧ n ≤ hi := by
  unfold rangeS
  by_cases h : n < lo ∨ hi < n
  · rw [if_pos h]; omega
  · rw [if_neg h]; omega
theorem first2 {a b : Int} (h : firstS [a, b] = 0) : a = 0 ∧ b = 0 := by
  simp only [firstS] at h
  by_cases ha : a = 0
  · rw [if_pos ha] at h
    by_cases hb : b = 0
    · exact ⟨ha, hb⟩
    · rw [if_neg hb] at h; exact absurd h hb
  · rw [if_neg ha] at h; exact absurd h ha
theorem chkT1_z {x : Int × Int} (h : chkT1 x = 0) : 0 ≤ x.1 ∧ x.1 ≤ 100000 ∧ -64 ≤ x.2 ∧ x.2 ≤ 64 := by
  obtain ⟨a, b⟩ := first2 h
  have := rangeS_z.1 a; have := rangeS_z.1 b; omega
theorem chkTF_z : ∀ {l : List (Int × Int)} {p}, chkTF l p = 0 → (∀ x ∈ l, chkT1 x = 0) ∧ (∀ x, l.head? = some x → lateT p x = false) ∧ ∀ k (h : k + 1 < l.length), (l[k]'(by omega)).1 < l[k + 1].1
  | [], _, _ => ⟨fun x hx => (by cases hx), fun x hx => (by cases hx), fun k h => (by simp at h)⟩
  | x :: r, p, h => by
    rw [chkTF] at h
    by_cases h1 : chkT1 x = 0
    · rw [if_neg (fun z => z h1)] at h
      cases h2 : lateT p x with
      | true => rw [h2, if_pos rfl] at h; cases h
      | false =>
        rw [h2, if_neg (by simp)] at h
        obtain ⟨i1, i2, i3⟩ := chkTF_z h
        refine ⟨fun y hy => ?_, fun y hy => ?_, fun k hk => ?_⟩
        · rcases List.mem_cons.1 hy with rfl | hy
          · exact h1
          · exact i1 y hy
        · cases hy; exact h2
        · cases k with
          | zero =>
            cases r with
            | nil => simp at hk
            | cons y s =>
              have := i2 y rfl
              simp only [lateT, decide_eq_false_iff_not] at this
              show x.1 < y.1
              omega
          | succ k => exact i3 k (by simpa using hk)
    · rw [if_pos h1] at h; exact absurd h h1
theorem chkTs_z {l : List (Int × Int)} (h : chkTs l = 0) : TdOk l ∧ 1 ≤ l.length ∧ l.length ≤ 16 := by
  unfold chkTs at h
  split at h
  · cases h
  split at h
  · cases h
  obtain ⟨a, _, b⟩ := chkTF_z h
  exact ⟨⟨fun x hx => chkT1_z (a x hx), b⟩, by omega, by omega⟩
theorem inter_bd {a b : Int × Int} {t : Int} (ha : 0 ≤ a.1 ∧ a.1 ≤ 100000 ∧ -64 ≤ a.2 ∧ a.2 ≤ 64) (hb : 0 ≤ b.1 ∧ b.1 ≤ 100000 ∧ -64 ≤ b.2 ∧ b.2 ≤ 64) (ht : 0 ≤ t ∧ t ≤ 100000) :
    (-6400000 ≤ a.2 * (b.1 - a.1) ∧ a.2 * (b.1 - a.1) ≤ 6400000) ∧ (-12800000 ≤ (b.2 - a.2) * (t - a.1) ∧ (b.2 - a.2) * (t - a.1) ≤ 12800000) := by
  have key : ∀ {x y X Y : Int}, -X ≤ x → x ≤ X → -Y ≤ y → y ≤ Y → -(X * Y) ≤ x * y ∧ x * y ≤ X * Y := fun {x y X Y} h1 h2 h3 h4 => by
    have hX : 0 ≤ X := by omega
    have hY : 0 ≤ Y := by omega
    have e : (x * y).natAbs ≤ (X * Y).natAbs := by
      rw [Int.natAbs_mul, Int.natAbs_mul]
      exact Nat.mul_le_mul (by omega) (by omega)
    have p := Int.mul_nonneg hX hY
    omega
  have k1 := key (x := a.2) (y := b.1 - a.1) (X := 64) (Y := 100000) (by omega) (by omega) (by omega) (by omega)
  have k2 := key (x := b.2 - a.2) (y := t - a.1) (X := 128) (Y := 100000) (by omega) (by omega) (by omega) (by omega)
  omega
set_option maxRecDepth 10000
attribute [local irreducible] WP WC WE WB WR WF WL WG WRg WQ
section
variable {P : Program} (T : Tbl P) {h : AHeap}
include T
set_option maxHeartbeats 1000000 in
theorem r61 (x : Int × Int) : RCall P 61 [.agg (ratR x)] h (fun v _ => v = .int .i64 (chkT1 x)) := by
  unfold ratR
  refine .st1 11 T.mix T.c61 ?_;intro ts hlen t0;unfold fn61
  have bx : ∀ {N : Nat}, boxF (.agg [.int .i64 x.1, .int .i64 x.2]) N = some (.ptr N 0, .push (.cells [.int .i64 x.1, .int .i64 x.2] true false)) := fun {N} => rfl
  refine Rs (A2 @t0 @bx) ?_
  refine WF.ce T.c40 (r40 T _ _ _) fun g1 => ?_
  refine Rs @t0 ?_
  refine WF.ce T.c40 (r40 T _ _ _) fun g2 => ?_
  refine Rs @t0 ?_
  refine WF.ce T.c24 (r24 T (isSl_ints [_, _]) (by simp)) fun g3 => ?_
  refine Rs @t0 ?_
  rfl
set_option maxHeartbeats 1000000 in
theorem r48 (a b : Int) : RCall P 48 [.int .i64 a, .int .i64 b] h (fun v _ => v = .int .i64 (if a < b then -1 else if b < a then 1 else 0)) := by
  refine .st2 20 T.mix T.c48 ?_;intro ts hlen t0 t1;unfold fn48
  have nan : ∀ {x : Int} {k : AHeap}, RCall P 70 [.int .i64 x] k (fun v _ => v = .bool false) := fun {x k} => by
    refine .of T.mix T.c70 ?_
    unfold fn70
    have d : decide (x ≠ x) = false := decide_eq_false fun z => z rfl
    exact Ws @d trivial
  refine Rs (A2 @t0 @t1) ?_
  refine WF.ce T.c70 nan fun g1 => ?_
  refine Rs (A2 @t0 @t1) ?_
  refine WF.ce T.c70 nan fun g2 => ?_
  by_cases h1 : a < b
  · have d1 : decide (a < b) = true := decide_eq_true h1
    refine Rs (A3 @t0 @t1 @d1) ?_
    rw [if_pos h1]
  have d1 : decide (a < b) = false := decide_eq_false h1
  by_cases h2 : b < a
  · have d2 : decide (b < a) = true := decide_eq_true h2
    refine Rs (A4 @t0 @t1 @d1 @d2) ?_
    rw [if_neg h1, if_pos h2]
  · have d2 : decide (b < a) = false := decide_eq_false h2
    refine Rs (A4 @t0 @t1 @d1 @d2) ?_
    rw [if_neg h1, if_neg h2]
set_option maxHeartbeats 1000000 in
theorem r60 (x y : Int × Int) : RCall P 60 [.agg (ratR x), .agg (ratR y)] h (fun v _ => v = .int .i64 (if x.1 < y.1 then -1 else if y.1 < x.1 then 1 else 0)) := by
  unfold ratR
  refine .st2 10 T.mix T.c60 ?_;intro ts hlen t0 t1;unfold fn60
  have bx : ∀ {N : Nat} {z : Int × Int}, boxF (.agg [.int .i64 z.1, .int .i64 z.2]) N = some (.ptr N 0, .push (.cells [.int .i64 z.1, .int .i64 z.2] true false)) := fun {N z} => rfl
  refine Rs (A3 @t0 @t1 @bx) ?_
  refine WF.ce T.c48 (r48 T _ _) fun g1 => ?_
  exact Rs (A2 @t0 @t1) trivial
end
end Go.Abs
namespace Go.Abs

theorem td_st {x : Int × Int} {b : Nat} {a0 a1 : AV} : stB 2 0 (.agg (ratR x)) b (.cells [a0, a1] true false) = some (undefA, .set b (.cells (ratR x) true false)) := rat_st
theorem td_a {x : Int × Int} : ldB (some 2) 0 (.cells (ratR x) true false) = some (.agg (ratR x), .keep) := rfl
theorem first_w2 (a b : Bool) (x y : Int) : firstS [whenS a x, whenS b y] = if whenS a x = 0 then whenS b y else whenS a x := by
  simp only [firstS]
  by_cases h : whenS a x = 0
  · rw [if_pos h, if_pos h]
    by_cases h2 : whenS b y = 0
    · rw [if_pos h2, h2]
    · rw [if_neg h2]
  · rw [if_neg h, if_neg h]
set_option maxRecDepth 10000
attribute [local irreducible] WP WC WE WB WR WF WL WG WRg WQ
section
variable {P : Program} (T : Tbl P) {h : AHeap}
include T
set_option maxHeartbeats 4000000 in
theorem r26 {s : AV} {l : List (Int × Int)} (hs : IsSl h s 2 (l.map ratR)) (hl : l.length < 2 ^ 40) : RCall P 26 [s] h (fun v _ => v = .int .i64 (chkTs l)) := by
  refine .st1 51 T.mix T.c26 ?_;intro ts hlen t0;unfold fn26
  refine Rs (A2 @t0 hs.lenm) ?_
  refine WF.ce T.c59 (r59 T _ _) fun g1 => ?_
  refine Rs (A2 @t0 hs.lenm) ?_
  refine WF.ce T.c59 (r59 T _ _) fun g2 => ?_
  refine Rs @t0 ?_
  refine WF.ce T.c24 (r24 T (isSl_ints [_, _]) (by simp)) fun g3 => ?_
  rw [first_w2]
  by_cases h1 : l.length = 0
  · have d1 : decide ((l.length : Int) = 0) = true := decide_eq_true (by omega)
    have e : chkTs l = 12 := if_pos h1
    have d2 : ∀ x : Bool, (if whenS true 12 = 0 then whenS x 5 else whenS true 12) = 12 := fun _ => rfl
    have d3 : decide ((12 : Int) ≠ 0) = true := rfl
    refine Rs (A4 @t0 @d1 @d2 @d3) ?_
    rw [e]
  have d1 : decide ((l.length : Int) = 0) = false := decide_eq_false (by omega)
  by_cases h2 : 16 < l.length
  · have d2 : decide ((16 : Int) < (l.length : Int)) = true := decide_eq_true (by omega)
    have e : chkTs l = 5 := (if_neg h1).trans (if_pos h2)
    have d4 : (if whenS false 12 = 0 then whenS true 5 else whenS false 12) = 5 := rfl
    have d3 : decide ((5 : Int) ≠ 0) = true := rfl
    refine Rs (A5 @t0 @d1 @d2 @d4 @d3) ?_
    rw [e]
  have d2 : decide ((16 : Int) < (l.length : Int)) = false := decide_eq_false (by omega)
  have e : chkTs l = chkTF l none := (if_neg h1).trans (if_neg h2)
  have d4 : (if whenS false 12 = 0 then whenS false 5 else whenS false 12) = 0 := rfl
  have d3 : decide ((0 : Int) ≠ 0) = false := rfl
  rw [e]
  refine Rs (A6 @t0 @d1 @d2 @d4 @d3 hs.lenm) ?_
  refine WL.inv T.mix (fun n ts K => ∃ k : Nat, k ≤ l.length ∧ n = l.length - k ∧ Ext h K ∧ chkTF l none = chkTF (l.drop k) (preT l k) ∧ ts.length = 51 ∧ slot ts 0 = s ∧ slot ts 4 = .func (.func 60) [] [] ∧ slot ts 21 = s ∧ slot ts 22 = .int .i64 l.length ∧ slot ts 23 = .int .i64 k) l.length
    ⟨0, by omega, rfl, Xx, rfl, Sn, (Sq @t0), Sw, (Sq @t0), Sw, Swr⟩ ?_
  clear hlen t0 d1 d2 d3 d4
  rintro _ ts K ⟨k, hk, rfl, eK, hf, hlen, t0, t4, t21, t22, t23⟩
  by_cases hlt : k < l.length
  case neg =>
    have e3 := dltF hlt
    have e4 : k = l.length := by omega
    rw [hf, e4, List.drop_length]
    refine Rs (A6 @t0 @t4 @t21 @t22 @t23 @e3) ?_
    exact ⟨eK, rfl⟩
  have e3 := dltT hlt
  have e5 := wrapN (n := k) (by omega)
  have hsK := hs.ext eK
  have ix := hsK.ixm (kk := .i64) hlt
  have ld : ∀ {kk : AHeap}, Ext K kk → loadF (some 2) (elp s 2 k) (fun b => kk[b]?) = some (.agg (ratR l[k]), .keep) := fun {kk} e => hsK.ldm hlt e
  have hd : l.drop k = l[k] :: l.drop (k + 1) := by simp
  have hpre := preT_succ hlt
  rw [hd, chkTF] at hf
  obtain ⟨x, hx⟩ : ∃ x, x = l[k] := ⟨_, rfl⟩
  rw [← hx] at ld hf hpre
  have st := @td_st x
  refine Rs (A9 @t0 @t4 @t21 @t22 @t23 @e3 @ix @ld @st) ?_
  obtain ⟨Y, hY⟩ : ∃ Z, Z = K ++ [ABlk.cells (ratR x) true false] := ⟨_, rfl⟩
  have mb : Y[K.length]? = some (.cells (ratR x) true false) := by rw [hY]; exact at_new
  have eY : Ext K Y := by rw [hY]; exact ⟨_, rfl⟩
  rw [← hY]
  have lb := @ldx _ _ _ mb
  by_cases hk0 : k = 0
  · have hlate : lateT (preT l k) x = false := by rw [hk0]; rfl
    have d0 : decide ((0 : Int) < (k : Int)) = false := decide_eq_false (by omega)
    rw [hlate] at hf
    have z3 : decide ((0 : Int) ≠ 0) = false := rfl
    refine Rs (A8 @t0 @t4 @t21 @t22 @t23 @lb @td_a @d0) ?_
    refine WF.ce T.c61 (r61 T x) fun g4 => ?_
    refine Rs (A6 @t0 @t4 @t21 @t22 @t23 @d0) ?_
    refine WF.ce T.c59 (r59 T _ _) fun g5 => ?_
    refine Rs (A5 @t0 @t4 @t21 @t22 @t23) ?_
    refine WF.ce T.c24 (r24 T (isSl_ints [_, _]) (by simp)) fun g6 => ?_
    have hfs : firstS [chkT1 x, whenS false 11] = chkT1 x := by
      simp only [firstS, whenS]
      by_cases hz : chkT1 x = 0
      · rw [if_pos hz, hz]; rfl
      · rw [if_neg hz]
    rw [hfs]
    by_cases hz : chkT1 x = 0
    · rw [if_neg (fun z => z hz), if_neg (by simp)] at hf
      refine Rs (A8 @t0 @t4 @t21 @t22 @t23 @hz @z3 @e5) ?_
      exact ⟨l.length - (k + 1), by omega, k + 1, by omega, rfl, eK.trans (eY.trans Xx), by rw [hf, hpre], rfl⟩
    · have d6 : decide (chkT1 x ≠ 0) = true := decide_eq_true hz
      rw [if_pos hz] at hf
      refine Rs (A6 @t0 @t4 @t21 @t22 @t23 @d6) ?_
      exact ⟨eK.trans (eY.trans Xx), by rw [hf]⟩
  · have hk1 : k - 1 < l.length := by omega
    have d0 : decide ((0 : Int) < (k : Int)) = true := decide_eq_true (by omega)
    have w1 : IntKind.i64.wrap ((k : Int) - 1) = ((k - 1 : Nat) : Int) := by rw [wrap_in (by omega) (by omega)]; omega
    have m1 : foldA max2A (.int .i64 0) [.int .i64 ((k - 1 : Nat) : Int)] = some (.int .i64 ((k - 1 : Nat) : Int)) := by rw [mx_2, Int.max_eq_right (by omega)]
    have ix1 := hsK.ixm (kk := .i64) hk1
    obtain ⟨y, hy⟩ : ∃ y, y = l[k - 1] := ⟨_, rfl⟩
    have ld1 : ∀ {kk : AHeap}, Ext K kk → loadF (some 2) (elp s 2 (k - 1)) (fun b => kk[b]?) = some (.agg (ratR y), .keep) := fun {kk} e => by rw [hy]; exact hsK.ldm hk1 e
    have ld1 : ∀ {kk : AHeap}, Ext Y kk → loadF (some 2) (elp s 2 (k - 1)) (fun b => kk[b]?) = some (.agg (ratR y), .keep) := fun {kk} e => ld1 (eY.trans e)
    have hp : preT l k = some y := by rw [preT, if_neg hk0, List.getElem?_eq_getElem hk1, hy]
    have hlate : lateT (preT l k) x = decide (x.1 ≤ y.1) := by rw [hp]; rfl
    rw [hlate] at hf
    have z3 : decide ((0 : Int) ≠ 0) = false := rfl
    have hcmp : decide ((if x.1 < y.1 then (-1 : Int) else if y.1 < x.1 then 1 else 0) ≤ 0) = decide (x.1 ≤ y.1) := by
      by_cases q1 : x.1 < y.1
      · rw [if_pos q1, decide_eq_true (by omega), decide_eq_true (by omega)]
      · rw [if_neg q1]
        by_cases q2 : y.1 < x.1
        · rw [if_pos q2, decide_eq_false (by omega), decide_eq_false (by omega)]
        · rw [if_neg q2, decide_eq_true (by omega), decide_eq_true (by omega)]
    refine Rs (A12 @t0 @t4 @t21 @t22 @t23 @lb @td_a @d0 @w1 @m1 @ix1 @ld1) ?_
    refine WF.ce T.c61 (r61 T x) fun g4 => ?_
    have lb := fun {kk n a} (e : Ext (Y ++ g4) kk) => lb (k := kk) (n := n) (a := a) ((show Ext Y (Y ++ g4) from ⟨_, rfl⟩).trans e)
    refine Rs (A12 @t0 @t4 @t21 @t22 @t23 @lb @td_a @d0 @w1 @m1 @ix1 @ld1) ?_
    refine WF.ce T.c60 (r60 T x y) fun g5 => ?_
    refine Rs (A6 @t0 @t4 @t21 @t22 @t23 @hcmp) ?_
    refine WF.ce T.c59 (r59 T _ _) fun g6 => ?_
    refine Rs (A5 @t0 @t4 @t21 @t22 @t23) ?_
    refine WF.ce T.c24 (r24 T (isSl_ints [_, _]) (by simp)) fun g7 => ?_
    by_cases hz : chkT1 x = 0
    · have d6 : decide (chkT1 x ≠ 0) = false := decide_eq_false fun z => z hz
      rw [if_neg (fun z => z hz)] at hf
      by_cases hq : x.1 ≤ y.1
      · have hfs : firstS [chkT1 x, whenS (decide (x.1 ≤ y.1)) 11] = 11 := by rw [hz, decide_eq_true hq]; rfl
        have d7 : decide ((11 : Int) ≠ 0) = true := rfl
        rw [hfs]
        rw [if_pos (decide_eq_true hq)] at hf
        refine Rs (A6 @t0 @t4 @t21 @t22 @t23 @d7) ?_
        exact ⟨eK.trans (eY.trans Xx), by rw [hf]⟩
      · have hfs : firstS [chkT1 x, whenS (decide (x.1 ≤ y.1)) 11] = 0 := by rw [hz, decide_eq_false hq]; rfl
        rw [hfs]
        rw [if_neg (by simpa using hq)] at hf
        refine Rs (A7 @t0 @t4 @t21 @t22 @t23 @z3 @e5) ?_
        exact ⟨l.length - (k + 1), by omega, k + 1, by omega, rfl, eK.trans (eY.trans Xx), by rw [hf, hpre], rfl⟩
    · have hfs : firstS [chkT1 x, whenS (decide (x.1 ≤ y.1)) 11] = chkT1 x := by simp only [firstS]; rw [if_neg hz]
      have d6 : decide (chkT1 x ≠ 0) = true := decide_eq_true hz
      rw [hfs]
      rw [if_pos hz] at hf
      refine Rs (A6 @t0 @t4 @t21 @t22 @t23 @d6) ?_
      exact ⟨eK.trans (eY.trans Xx), by rw [hf]⟩
end
end Go.Abs
namespace Go.Abs

/-- The level, looked for from a row on. -/
def lvlD (l : List (Int × Int)) (k : Nat) (t : Int) : Int × Int := (lvlF (l.drop k) (preT l k) t).getD ((l.getD (l.length - 1) (0, 0)).2, 1)
theorem lvlD_end {l : List (Int × Int)} {t : Int} : lvlD l l.length t = ((l.getD (l.length - 1) (0, 0)).2, 1) := by rw [lvlD, List.drop_length]; rfl
theorem lvlD_step {l : List (Int × Int)} {k : Nat} (h : k < l.length) {t : Int} : lvlD l k t = if l[k].1 < t then lvlD l (k + 1) t else (match preT l k with
    | none => (l[k].2, 1)
    | some a => interT a l[k] t) := by
  have hd : l.drop k = l[k] :: l.drop (k + 1) := by simp
  have e : ∀ (b : Int × Int) r p, lvlF (b :: r) p t = if b.1 < t then lvlF r (some b) t else some (match p with
    | none => (b.2, 1)
    | some a => interT a b t) := fun b r p => rfl
  rw [lvlD, hd, e]
  by_cases hc : l[k].1 < t
  · rw [if_pos hc, if_pos hc, ← preT_succ h]; rfl
  · rw [if_neg hc, if_neg hc]; rfl
theorem ext_set {h K : AHeap} {B X : ABlk} (e : Ext (h ++ [B]) K) : Ext h (K.set h.length X) := by
  obtain ⟨z, rfl⟩ := e
  rw [List.append_assoc, List.set_append_right _ _ (Nat.le_refl _)]; exact ⟨_, rfl⟩
/-- A pair stored into its box, and read out of it. -/
theorem box_s {K : AHeap} {b : Nat} {a0 a1 : AV} (m : K[b]? = some (.cells [a0, a1] true false)) {n d : Int} : storeF 2 (.ptr b 0) (.agg [.int .i64 n, .int .i64 d]) (fun z => K[z]?) = some (undefA, .set b (.cells [.int .i64 n, .int .i64 d] true false)) := by rw [storeF_at m]; exact rat_st
theorem box_l {K : AHeap} {b : Nat} {k0 : ABlk} (m : K[b]? = some k0) {n d : Int} : loadF (some 2) (.ptr b 0) (fun z => (K.set b (.cells [.int .i64 n, .int .i64 d] true false))[z]?) = some (.agg [.int .i64 n, .int .i64 d], .keep) := by
  rw [loadF_at (List.getElem?_set_self (List.getElem?_eq_some_iff.1 m).1)]; rfl
set_option maxRecDepth 10000
attribute [local irreducible] WP WC WE WB WR WF WL WG WRg WQ
section
variable {P : Program} (T : Tbl P) {h : AHeap}
include T
end
end Go.Abs
namespace Go.Abs

theorem ext_set2 {h K : AHeap} {B C X Y : ABlk} (e : Ext (h ++ [B] ++ [C]) K) : Ext h ((K.set (h.length + 1) X).set h.length Y) := by
  obtain ⟨z, rfl⟩ := e
  rw [List.append_assoc, List.append_assoc, List.set_append_right _ _ (by omega), List.set_append_right _ _ (Nat.le_refl _)]; exact ⟨_, rfl⟩
theorem set_ne' {K : AHeap} {a b : Nat} {X k : ABlk} (n : a ≠ b) (m : K[b]? = some k) : (K.set a X)[b]? = some k := by rw [List.getElem?_set_ne n]; exact m
theorem set_eq' {K : AHeap} {b : Nat} {X k : ABlk} (m : K[b]? = some k) : (K.set b X)[b]? = some X := List.getElem?_set_self (List.getElem?_eq_some_iff.1 m).1
set_option maxRecDepth 10000
attribute [local irreducible] WP WC WE WB WR WF WL WG WRg WQ
section
variable {P : Program} (T : Tbl P) {h : AHeap}
include T
set_option maxHeartbeats 4000000 in
theorem r29 {s : AV} {l : List (Int × Int)} (hs : IsSl h s 2 (l.map ratR)) (ok : TdOk l) (h1 : 1 ≤ l.length) (hl : l.length ≤ 16) {t : Int} (ht : 0 ≤ t ∧ t ≤ 100000) : RCall P 29 [s, .int .i64 t] h (fun v _ => v = .agg (ratR (lvlS l t))) := by
  refine .st2 65 T.mix T.c29 ?_;intro ts hlen t0 t1;unfold fn29
  have hlast : l.length - 1 < l.length := by omega
  have wl : IntKind.i64.wrap ((l.length : Int) - 1) = ((l.length - 1 : Nat) : Int) := by rw [wrap_in (by omega) (by omega)]; omega
  have hg : l.getD (l.length - 1) (0, 0) = l[l.length - 1] := by rw [List.getD_eq_getElem?_getD, List.getElem?_eq_getElem hlast]; rfl
  have hend : lvlD l l.length t = (l[l.length - 1].2, 1) := by rw [lvlD_end, hg]
  have hS : lvlS l t = lvlD l 0 t := rfl
  have ixl := hs.ixm (kk := .i64) hlast
  obtain ⟨w, hw⟩ : ∃ w, w = l[l.length - 1].2 := ⟨_, rfl⟩
  have ldl : ∀ {kk : AHeap}, Ext h kk → loadF none (elf s 2 (l.length - 1) 1) (fun b => kk[b]?) = some (.int .i64 w, .keep) := fun {kk} e => by rw [hw]; exact hs.lfm hlast rfl e
  rw [← hw] at hend
  rw [hS]
  have stw : ∀ {kk : AHeap}, storeF 2 (.ptr (h ++ [ABlk.cells [.int .i64 0, .int .i64 0] true false]).length 0) (.agg [.int .i64 w, .int .i64 1]) (fun z => (h ++ [ABlk.cells [.int .i64 0, .int .i64 0] true false] ++ [ABlk.cells [.int .i64 0, .int .i64 0] true false])[z]?) = some (undefA, .set (h ++ [ABlk.cells [.int .i64 0, .int .i64 0] true false]).length (.cells [.int .i64 w, .int .i64 1] true false)) := fun {_} => box_s at_new
  refine Rs (A8 @t0 @t1 hs.lenm @wl @ixl @fadr_el @ldl @stw) ?_
  have hB : (h ++ [ABlk.cells [.int .i64 0, .int .i64 0] true false]).length = h.length + 1 := by simp
  refine WL.inv T.mix (fun n ts K => ∃ k : Nat, k ≤ l.length ∧ n = l.length - k ∧ Ext (h ++ [ABlk.cells [.int .i64 0, .int .i64 0] true false] ++ [ABlk.cells [.int .i64 w, .int .i64 1] true false]) K ∧ lvlD l 0 t = lvlD l k t ∧ ts.length = 65 ∧ slot ts 0 = s ∧ slot ts 1 = .int .i64 t ∧ slot ts 4 = .ptr h.length 0 ∧ slot ts 5 = .ptr (h.length + 1) 0 ∧ slot ts 17 = s ∧ slot ts 18 = .int .i64 l.length ∧ slot ts 19 = .int .i64 k) l.length
    ⟨0, by omega, rfl, .refl _, rfl, Sn, (Sq @t0), (Sq @t1), Sw, (by rw [hB]; exact Zn trivial), Sw, Sw, Swr⟩ ?_
  clear hlen t0 t1 stw
  rintro _ ts K ⟨k, hk, rfl, eK, hf, hlen, t0, t1, t4, t5, t17, t18, t19⟩
  have ehK : Ext h K := Ext.trans (by rw [List.append_assoc]; exact ⟨_, rfl⟩) eK
  have hsK := hs.ext ehK
  have m4 : K[h.length]? = some (.cells [.int .i64 0, .int .i64 0] true false) := eK.some (by simp)
  have m5 : K[h.length + 1]? = some (.cells [.int .i64 w, .int .i64 1] true false) := eK.some (by simp)
  rw [hf]
  -- the way out: the level's box read, the result's box written and read
  have out : ∀ {Y : AHeap} {n d n0 d0 : Int}, Y[h.length]? = some (.cells [.int .i64 0, .int .i64 0] true false) → Y[h.length + 1]? = some (.cells [.int .i64 n0, .int .i64 d0] true false) →
      (loadF (some 2) (.ptr (h.length + 1) 0) (fun z => (Y.set (h.length + 1) (.cells [.int .i64 n, .int .i64 d] true false))[z]?) = some (.agg [.int .i64 n, .int .i64 d], .keep)) ∧
      (storeF 2 (.ptr h.length 0) (.agg [.int .i64 n, .int .i64 d]) (fun z => (Y.set (h.length + 1) (.cells [.int .i64 n, .int .i64 d] true false))[z]?) = some (undefA, .set h.length (.cells [.int .i64 n, .int .i64 d] true false))) ∧
      (loadF (some 2) (.ptr h.length 0) (fun z => ((Y.set (h.length + 1) (.cells [.int .i64 n, .int .i64 d] true false)).set h.length (.cells [.int .i64 n, .int .i64 d] true false))[z]?) = some (.agg [.int .i64 n, .int .i64 d], .keep)) := by
    intro Y n d n0 d0 ma mb
    have mc := set_ne' (X := .cells [.int .i64 n, .int .i64 d] true false) (show h.length + 1 ≠ h.length by omega) ma
    exact ⟨box_l mb, box_s mc, box_l mc⟩
  by_cases hlt : k < l.length
  case neg =>
    have e3 := dltF hlt
    have e4 : k = l.length := by omega
    rw [e4, hend]
    have l5 : loadF (some 2) (.ptr (h.length + 1) 0) (fun z => K[z]?) = some (.agg [.int .i64 w, .int .i64 1], .keep) := by rw [loadF_at m5]; rfl
    have s4 := @box_s K h.length _ _ m4 w 1
    have l4 := @box_l K h.length _ m4 w 1
    refine Rs (A11 @t0 @t1 @t4 @t5 @t17 @t18 @t19 @e3 @l5 @s4 @l4) ?_
    exact ⟨ext_set (h := h) (Ext.trans ⟨_, rfl⟩ eK), rfl⟩
  have e3 := dltT hlt
  have e5 := wrapN (n := k) (by omega)
  have ix := hsK.ixm (kk := .i64) hlt
  obtain ⟨x, hx⟩ : ∃ x, x = l[k] := ⟨_, rfl⟩
  have ld : ∀ {kk : AHeap}, Ext K kk → loadF (some 2) (elp s 2 k) (fun b => kk[b]?) = some (.agg (ratR x), .keep) := fun {kk} e => by rw [hx]; exact hsK.ldm hlt e
  have stp := lvlD_step hlt (t := t)
  rw [← hx] at stp
  have bx := @ok.r x (by rw [hx]; exact List.getElem_mem _)
  have st := @td_st x
  have r0 : ∀ {z : Int × Int}, (ratR z)[0]? = some (.int .i64 z.1) := fun {z} => rfl
  have r1 : ∀ {z : Int × Int}, (ratR z)[1]? = some (.int .i64 z.2) := fun {z} => rfl
  by_cases hc : x.1 < t
  · have d0 : decide (x.1 < t) = true := decide_eq_true hc
    rw [if_pos hc] at stp
    refine Rs (A15 @t0 @t1 @t4 @t5 @t17 @t18 @t19 @e3 @ix @ld @st @r0 @r1 @d0 @e5) ?_
    exact ⟨l.length - (k + 1), by omega, k + 1, by omega, rfl, eK.trans Xx, by rw [stp], rfl⟩
  have d0 : decide (x.1 < t) = false := decide_eq_false hc
  rw [if_neg hc] at stp
  refine Rs (A14 @t0 @t1 @t4 @t5 @t17 @t18 @t19 @e3 @ix @ld @st @r0 @r1 @d0) ?_
  have eY : Ext K (K ++ [ABlk.cells (ratR x) true false]) := ⟨_, rfl⟩
  have m7 : (K ++ [ABlk.cells (ratR x) true false])[K.length]? = some (.cells (ratR x) true false) := at_new
  have n5 : h.length + 1 ≠ K.length := fun z => by rw [z, List.getElem?_eq_none (Nat.le_refl _)] at m5; cases m5
  have m4Y := eY.some m4
  have m5Y := eY.some m5
  obtain ⟨Y, hY⟩ : ∃ Y, Y = K ++ [ABlk.cells (ratR x) true false] := ⟨_, rfl⟩
  rw [← hY] at eY m4Y m5Y m7 ⊢
  have s5 := @box_s Y (h.length + 1) _ _ m5Y x.2 1
  by_cases hk0 : k = 0
  · have d1 : decide ((0 : Int) < (k : Int)) = false := decide_eq_false (by omega)
    obtain ⟨l5, s4, l4⟩ := @out Y x.2 1 _ _ m4Y m5Y
    have hv : lvlD l k t = (x.2, 1) := by rw [stp, hk0]; rfl
    rw [hv]
    refine Rs (A12 @t0 @t1 @t4 @t5 @t17 @t18 @t19 @s5 @d1 @l5 @s4 @l4) ?_
    exact ⟨ext_set2 (eK.trans eY), rfl⟩
  have d1 : decide ((0 : Int) < (k : Int)) = true := decide_eq_true (by omega)
  have hkp : k - 1 < l.length := by omega
  have w1 : IntKind.i64.wrap ((k : Int) - 1) = ((k - 1 : Nat) : Int) := by rw [wrap_in (by omega) (by omega)]; omega
  have ix1 := hsK.ixm (kk := .i64) hkp
  obtain ⟨y, hy⟩ : ∃ y, y = l[k - 1] := ⟨_, rfl⟩
  have hp : preT l k = some y := by rw [preT, if_neg hk0, List.getElem?_eq_getElem hkp, hy]
  rw [hp] at stp
  have by' := @ok.r y (by rw [hy]; exact List.getElem_mem _)
  have hlt2 : y.1 < x.1 := by
    have := ok.o (k - 1) (by omega)
    rw [hx, hy]
    have e : k - 1 + 1 = k := by omega
    simp only [e] at this
    exact this
  obtain ⟨Z, hZ⟩ : ∃ Z, Z = Y.set (h.length + 1) (.cells [.int .i64 x.2, .int .i64 1] true false) := ⟨_, rfl⟩
  have m4Z : Z[h.length]? = some (.cells [.int .i64 0, .int .i64 0] true false) := by rw [hZ]; exact set_ne' (by omega) m4Y
  have m5Z : Z[h.length + 1]? = some (.cells [.int .i64 x.2, .int .i64 1] true false) := by rw [hZ]; exact set_eq' m5Y
  have m7Z : Z[K.length]? = some (.cells (ratR x) true false) := by rw [hZ]; exact set_ne' n5 m7
  have f7 := @ldx _ _ _ m7Z
  have ey : Ext (h ++ [ABlk.cells [.int .i64 0, .int .i64 0] true false] ++ [ABlk.cells [.int .i64 x.2, .int .i64 1] true false]) Z := by
    obtain ⟨z, hz⟩ := eK.trans eY
    rw [hZ, hz, List.append_assoc, List.append_assoc, List.set_append_right _ _ (by omega)]
    exact ⟨z, by simp⟩
  have hsZ := hs.ext (Ext.trans (by rw [List.append_assoc]; exact ⟨_, rfl⟩) ey)
  have ly : ∀ {kk : AHeap}, Ext Z kk → loadF (some 2) (elp s 2 (k - 1)) (fun b => kk[b]?) = some (.agg (ratR y), .keep) := fun {kk} e => by rw [hy]; exact hsZ.ldm hkp e
  have sty := @td_st y
  obtain ⟨q1, q2⟩ := inter_bd by' bx ht
  have w2 : IntKind.i64.wrap (x.1 - y.1) = x.1 - y.1 := wrap_in (by omega) (by omega)
  have w3 : IntKind.i64.wrap (x.2 - y.2) = x.2 - y.2 := wrap_in (by omega) (by omega)
  have w4 : IntKind.i64.wrap (t - y.1) = t - y.1 := wrap_in (by omega) (by omega)
  have w5 : IntKind.i64.wrap (y.2 * (x.1 - y.1)) = y.2 * (x.1 - y.1) := wrap_in (by omega) (by omega)
  have w6 : IntKind.i64.wrap ((x.2 - y.2) * (t - y.1)) = (x.2 - y.2) * (t - y.1) := wrap_in (by omega) (by omega)
  have w7 : IntKind.i64.wrap (y.2 * (x.1 - y.1) + (x.2 - y.2) * (t - y.1)) = y.2 * (x.1 - y.1) + (x.2 - y.2) * (t - y.1) := wrap_in (by omega) (by omega)
  refine Zs (A9 @t0 @t1 @t4 @t5 @t17 @t18 @t19 @s5 @d1) ?_
  rw [← hZ]
  refine Rs (A20 @t0 @t1 @t4 @t5 @t17 @t18 @t19 @w1 @ix1 @ly @sty @f7 @r0 @r1 @w2 @w3 @w4 @w5 @w6 @w7) ?_
  obtain ⟨n, hn⟩ : ∃ n, n = y.2 * (x.1 - y.1) + (x.2 - y.2) * (t - y.1) := ⟨_, rfl⟩
  have hi : lvlD l k t = ratI n (x.1 - y.1) := by rw [stp, hn]; rfl
  have hnb : -19200000 ≤ n ∧ n ≤ 19200000 := by rw [hn]; omega
  rw [← hn]
  refine WF.ce T.c62 (r62 T n (x.1 - y.1) (by omega) (by omega) (by omega)) fun g1 => ?_
  have eV : Ext Z ((Z ++ [ABlk.cells (ratR y) true false]) ++ g1) := by rw [List.append_assoc]; exact ⟨_, rfl⟩
  have m4V := eV.some m4Z
  have m5V := eV.some m5Z
  have eyV := ey.trans eV
  obtain ⟨V, hV⟩ : ∃ V, V = (Z ++ [ABlk.cells (ratR y) true false]) ++ g1 := ⟨_, rfl⟩
  rw [← hV] at m4V m5V eyV ⊢
  have s6 := @box_s V (h.length + 1) _ _ m5V (ratI n (x.1 - y.1)).1 (ratI n (x.1 - y.1)).2
  obtain ⟨l5, s4, l4⟩ := @out V (ratI n (x.1 - y.1)).1 (ratI n (x.1 - y.1)).2 _ _ m4V m5V
  rw [hi]
  unfold ratR
  refine Rs (A11 @t0 @t1 @t4 @t5 @t17 @t18 @t19 @s6 @l5 @s4 @l4) ?_
  exact ⟨ext_set2 eyV, trivial⟩
end
end Go.Abs
namespace Go.Abs

/-- append of one row to a slice of one's own. -/
theorem WR.appR {P} {ro} {ks} {ts} {Q} {B Y} {s} {es w} {cs} {z} {d} {l}
    (hs : Fr B.length Y s es cs) (hz : z.length = es) (he : Ext B Y) (hes : 0 < es) (hsz : (cs.length + 1) * w ≤ 2 ^ 46)
    (K : ∀ (W5 : AHeap) (s' : AV), Ext B W5 → Fr B.length W5 s' es (cs ++ [z]) → s'.one = true → WP P ro l ks (put ts d s') W5 Q) :
    WR P ro (appT es w s (.slice Y.length 0 1 es) (fun b => (Y ++ [ABlk.cells z true true])[b]?) (Y ++ [ABlk.cells z true true]).length) false d l ks ts (Y ++ [ABlk.cells z true true]) Q := by
  have hyz : IsSl (Y ++ [ABlk.cells z true true]) (AV.slice Y.length 0 1 es) es [z] := by
    have := (Fr.push (N := 0) (es := es) (h := Y) (Nat.zero_le _) [z] (fun x hx => by rw [List.mem_singleton] at hx; rw [hx, hz])).isSl
    simpa using this
  refine WR.app1 (h0 := B) (cs := cs) (ys := [z]) (hs.app _) hyz hes (by simp) (by simpa using hsz) (he.trans (Ext.app _ (Ext.refl _))) ?_
  intro g' hl' hff hkp
  exact K _ _ ⟨_, rfl⟩ hff rfl

set_option maxRecDepth 10000
attribute [local irreducible] WP WC WE WB WR WF WL WG WRg WQ
section
variable {P : Program} (T : Tbl P) {h : AHeap}
include T
set_option maxHeartbeats 1000000 in
theorem r14 {s : AV} {l : List (Int × Int)} (hs : IsSl h s 2 (l.map ratR)) (hl : l.length < 2 ^ 40) (t : Int) : RCall P 14 [s, .int .i64 t] h (fun v _ => v = .tup [.agg (ratR (if firstS [chkTs l, rangeS t 0 100000] ≠ 0 then (0, 0) else lvlS l t)), .int .i64 (firstS [chkTs l, rangeS t 0 100000])]) := by
  refine .st2 20 T.mix T.c14 ?_;intro ts hlen t0 t1;unfold fn14
  refine Rs (A2 @t0 @t1) ?_
  refine WF.ce T.c26 (r26 T (hs.ext Xx) hl) fun g1 => ?_
  refine Rs (A2 @t0 @t1) ?_
  refine WF.ce T.c40 (r40 T _ _ _) fun g2 => ?_
  refine Rs (A2 @t0 @t1) ?_
  refine WF.ce T.c24 (r24 T (isSl_ints [_, _]) (by simp)) fun g3 => ?_
  by_cases hz : firstS [chkTs l, rangeS t 0 100000] = 0
  · have d1 : decide (firstS [chkTs l, rangeS t 0 100000] ≠ 0) = false := decide_eq_false fun z => z hz
    rw [if_neg (fun z => z hz)]
    obtain ⟨q1, q2⟩ := first2 hz
    obtain ⟨ok, hl1, hl2⟩ := chkTs_z q1
    refine Rs (A3 @t0 @t1 @d1) ?_
    refine WF.ce T.c29 (r29 T (hs.ext Xx) ok hl1 hl2 (rangeS_z.1 q2)) fun g4 => ?_
    obtain ⟨K, hK⟩ : ∃ K, K = h ++ [ABlk.cells [AV.int IntKind.i64 0, AV.int IntKind.i64 0] true false] ++ g1 ++ g2 ++
          [ABlk.cells [AV.int IntKind.i64 (chkTs l), AV.int IntKind.i64 (rangeS t 0 100000)] true true] ++ g3 ++ g4 := ⟨_, rfl⟩
    have eK : Ext (h ++ [ABlk.cells [AV.int IntKind.i64 0, AV.int IntKind.i64 0] true false]) K := by rw [hK]; exact Ext.trans ⟨g1, rfl⟩ (Ext.trans ⟨g2, rfl⟩ (Ext.trans ⟨_, rfl⟩ (Ext.trans ⟨g3, rfl⟩ ⟨g4, rfl⟩)))
    have m4 : K[h.length]? = some (.cells [.int .i64 0, .int .i64 0] true false) := eK.some at_new
    rw [← hK]
    have s4 := @box_s K h.length _ _ m4 (lvlS l t).1 (lvlS l t).2
    have l4 := @box_l K h.length _ m4 (lvlS l t).1 (lvlS l t).2
    unfold ratR
    refine Rs (A2 @s4 @l4) ?_
    exact ⟨ext_set eK, by rw [hz]⟩
  · have d1 : decide (firstS [chkTs l, rangeS t 0 100000] ≠ 0) = true := decide_eq_true hz
    rw [if_pos hz]
    refine Rs (A3 @t0 @t1 @d1) ?_
    rfl
end
end Go.Abs
namespace Go.Abs
open Ieee

theorem cut_zero (w : Toward) (neg : Bool) (n : Nat) : w.cut neg n 0 = n := by
  cases w <;> simp [Toward.cut, Nat.mod_one]
theorem word_read (f : Format) (neg : Bool) {r : Nat} (h : r < f.signWeight) : (f.word neg r / f.signWeight % 2 == 1) = neg ∧ f.word neg r % f.signWeight = r := by
  unfold Format.word
  cases neg with
  | false => exact ⟨by simp [Nat.div_eq_of_lt h], by simp [Nat.mod_eq_of_lt h]⟩
  | true =>
    have hp : 0 < f.signWeight := Nat.two_pow_pos _
    refine ⟨?_, ?_⟩
    · simp only [if_true]
      rw [Nat.add_div_left _ hp, Nat.div_eq_of_lt h]; rfl
    · simp only [if_true]
      rw [Nat.add_mod_left, Nat.mod_eq_of_lt h]
/-- What a number that the format has exactly is read as. -/
theorem read_nearest (f : Format) (neg : Bool) {mag : Nat} {place : Int} (hm : mag ≠ 0) (h1 : mag.log2 ≤ f.fractionBits) (h2 : f.leastPlace ≤ place) (h3 : place + mag.log2 - f.fractionBits - f.leastPlace + 3 ≤ (2 ^ f.exponentBits : Nat)) (h4 : 2 ≤ f.exponentBits) :
    ∃ k : Nat, f.leastPlace ≤ place - k ∧ f.read (f.nearest neg mag place) = .number neg (mag * 2 ^ k) (place - k) := by
  obtain ⟨l, hl⟩ : ∃ l, l = mag.log2 := ⟨_, rfl⟩
  have g1 : 2 ^ l ≤ mag := by rw [hl]; exact Nat.log2_self_le hm
  have g2 : mag < 2 ^ (l + 1) := by rw [hl]; exact Nat.lt_log2_self
  unfold Format.nearest
  rw [if_neg hm]
  dsimp only
  rw [← hl] at h1 h3 ⊢
  obtain ⟨last, hlast⟩ : ∃ x, x = max (place + l - f.fractionBits) f.leastPlace := ⟨_, rfl⟩
  rw [← hlast]
  have q1 : last ≤ place := by omega
  have q2 : f.leastPlace ≤ last := by omega
  have hd : (last - place).toNat = 0 := by omega
  rw [hd, cut_zero]
  obtain ⟨k, hk⟩ : ∃ k, k = (place - last).toNat := ⟨_, rfl⟩
  obtain ⟨d, hdd⟩ : ∃ d, d = (last - f.leastPlace).toNat := ⟨_, rfl⟩
  rw [← hk, ← hdd]
  have hkl : (place - k : Int) = last := by omega
  have hB : f.binade = 2 ^ f.fractionBits := rfl
  have hBp : 0 < f.binade := Nat.two_pow_pos _
  rw [Nat.shiftLeft_eq]
  obtain ⟨kept, hkept⟩ : ∃ x, x = mag * 2 ^ k := ⟨_, rfl⟩
  have hkL : k + l ≤ f.fractionBits := by omega
  have hp4 : 4 ≤ 2 ^ f.exponentBits := Nat.pow_le_pow_right (n := 2) (by decide) h4
  have u1 : kept < 2 * f.binade := by
    rw [hkept, hB]
    have a1 : mag * 2 ^ k < 2 ^ (l + 1) * 2 ^ k := Nat.mul_lt_mul_of_pos_right g2 (Nat.two_pow_pos _)
    rw [← Nat.pow_add] at a1
    have a2 : 2 ^ (l + 1 + k) ≤ 2 ^ (f.fractionBits + 1) := Nat.pow_le_pow_right (by decide) (by omega)
    rw [Nat.pow_succ 2 f.fractionBits] at a2
    omega
  have u2 : 0 < d → f.binade ≤ kept := fun hd0 => by
    rw [hkept, hB]
    have a1 : 2 ^ l * 2 ^ k ≤ mag * 2 ^ k := Nat.mul_le_mul_right _ g1
    rw [← Nat.pow_add] at a1
    have : l + k = f.fractionBits := by omega
    rw [this] at a1; exact a1
  rw [← hkept]
  have hinf : d * f.binade + kept < f.infRung := by
    have e : f.infRung = (2 ^ f.exponentBits - 1) * f.binade := rfl
    have : (d + 2) * f.binade ≤ f.infRung := by rw [e]; exact Nat.mul_le_mul_right _ (by omega)
    rw [Nat.add_mul] at this; omega
  rw [Nat.min_eq_left (by omega)]
  have hw := word_read f neg (r := d * f.binade + kept) (Nat.lt_trans hinf f.infRung_lt)
  refine ⟨k, by omega, ?_⟩
  rw [hkl]
  unfold Format.read
  dsimp only
  rw [hw.1, hw.2]
  by_cases hlow : d * f.binade + kept < f.binade
  · rw [if_pos hlow]
    have hd0 : d = 0 := by
      rcases Nat.eq_zero_or_pos d with h | h
      · exact h
      · have := u2 h; omega
    rw [hd0, Nat.zero_mul, Nat.zero_add]
    have : last = f.leastPlace := by omega
    rw [this, hkept]
  · rw [if_neg hlow, if_pos hinf]
    have hge : f.binade ≤ kept := by
      rcases Nat.eq_zero_or_pos d with h | h
      · rw [h, Nat.zero_mul] at hlow; omega
      · exact u2 h
    have e1 : d * f.binade + kept = (kept - f.binade) + f.binade * (d + 1) := by rw [Nat.mul_add, Nat.mul_comm f.binade d]; omega
    have e2 : (d * f.binade + kept) % f.binade = kept - f.binade := by rw [e1, Nat.add_mul_mod_self_left, Nat.mod_eq_of_lt (by omega)]
    have e3 : (d * f.binade + kept) / f.binade = d + 1 := by rw [e1, Nat.add_mul_div_left _ _ hBp, Nat.div_eq_of_lt (by omega)]; omega
    rw [e2, e3]
    have e4 : f.binade + (kept - f.binade) = kept := by omega
    have e5 : f.leastPlace + ((d + 1 - 1 : Nat) : Int) = last := by omega
    rw [e4, e5, hkept]
theorem log2_shift {m : Nat} (hm : m ≠ 0) (j : Nat) : (m * 2 ^ j).log2 = m.log2 + j := by
  have hp : 0 < 2 ^ j := Nat.two_pow_pos _
  refine (Nat.log2_eq_iff (Nat.mul_ne_zero hm (by omega))).2 ⟨?_, ?_⟩
  · rw [Nat.pow_add]; exact Nat.mul_le_mul_right _ (Nat.log2_self_le hm)
  · rw [show m.log2 + j + 1 = m.log2 + 1 + j by omega, Nat.pow_add]; exact Nat.mul_lt_mul_of_pos_right Nat.lt_log2_self hp
theorem cut_exact (neg : Bool) {n D : Nat} (hn : n ≠ 0) : Toward.even.cut neg (n * 2 ^ D) D = n := by
  have hp : 0 < 2 ^ D := Nat.two_pow_pos _
  have hl := log2_shift hn D
  unfold Toward.cut
  dsimp only
  rw [Nat.min_eq_left (by omega), Nat.shiftLeft_eq, Nat.one_mul, Nat.mul_div_cancel _ hp, Nat.mul_mod_left]
  have h1 : decide (2 ^ D < 2 * 0) = false := decide_eq_false (by omega)
  have h2 : (2 ^ D == 2 * 0) = false := by simp
  rw [h1, h2]; rfl
theorem nearest_shift (f : Format) (neg : Bool) {m j : Nat} {place : Int} (hm : m ≠ 0) (h1 : m.log2 ≤ f.fractionBits) (h2 : f.leastPlace ≤ place + j) : f.nearest neg (m * 2 ^ j) place = f.nearest neg m (place + j) := by
  have hp : 0 < 2 ^ j := Nat.two_pow_pos _
  unfold Format.nearest
  rw [if_neg hm, if_neg (Nat.mul_ne_zero hm (by omega))]
  dsimp only
  rw [log2_shift hm]
  have e1 : max (place + ((m.log2 + j : Nat) : Int) - f.fractionBits) f.leastPlace = max (place + (j : Int) + m.log2 - f.fractionBits) f.leastPlace := by congr 1; omega
  rw [e1]
  obtain ⟨last, hlast⟩ : ∃ x, x = max (place + (j : Int) + m.log2 - f.fractionBits) f.leastPlace := ⟨_, rfl⟩
  rw [← hlast]
  have hle : last ≤ place + j := by omega
  have hz : (last - (place + (j : Int))).toNat = 0 := by omega
  rw [hz, cut_zero, Nat.shiftLeft_eq, Nat.shiftLeft_eq]
  congr 2
  by_cases hc : last ≤ place
  · have hz2 : (last - place).toNat = 0 := by omega
    have e3 : j + (place - last).toNat = (place + (j : Int) - last).toNat := by omega
    rw [hz2, cut_zero, Nat.mul_assoc, ← Nat.pow_add, e3]
  · obtain ⟨D, hD⟩ : ∃ D, D = (last - place).toNat := ⟨_, rfl⟩
    have hz2 : (place - last).toNat = 0 := by omega
    rw [hz2, ← hD, Nat.pow_zero, Nat.mul_one]
    have e2 : m * 2 ^ j = m * 2 ^ (place + (j : Int) - last).toNat * 2 ^ D := by
      have e3 : (place + (j : Int) - last).toNat + D = j := by omega
      rw [Nat.mul_assoc, ← Nat.pow_add, e3]
    rw [e2, cut_exact]
    exact Nat.mul_ne_zero hm (Nat.pos_iff_ne_zero.1 (Nat.two_pow_pos _))
theorem read_zero (f : Format) (neg : Bool) (place : Int) : f.read (f.nearest neg 0 place) = .number neg 0 f.leastPlace := by
  unfold Format.nearest
  rw [if_pos rfl]
  have hw := word_read f neg (r := 0) (Nat.two_pow_pos _)
  unfold Format.read
  dsimp only
  rw [hw.1, hw.2, if_pos (show 0 < f.binade from Nat.two_pow_pos _)]
end Go.Abs
namespace Go.Abs
open Ieee

def sgN (s : Bool) (m : Nat) : Int := if s then -(m : Int) else m
/-- The value of a number, in parts of 2 ^ -1200. -/
def vl : Datum → Int
  | .number s m e => sgN s m * 2 ^ (e + 1200).toNat
  | _ => 0
theorem sgN_mul (s : Bool) (m n : Nat) : sgN s (m * n) = sgN s m * n := by
  cases s <;> simp [sgN, Int.neg_mul]
theorem signed_eq (s : Bool) (m u : Nat) : signed s m u = sgN s m * 2 ^ u := by
  unfold signed
  rw [Nat.shiftLeft_eq]
  cases s <;> simp [sgN, Int.neg_mul]
theorem cmp_int (a b : Int) : compare a b = if a < b then .lt else if a = b then .eq else .gt := rfl
theorem cmp_mul {a b c : Int} (hc : 0 < c) : compare (a * c) (b * c) = compare a b := by
  rw [cmp_int, cmp_int]
  by_cases h1 : a < b
  · rw [if_pos h1, if_pos (Int.mul_lt_mul_of_pos_right h1 hc)]
  · rw [if_neg h1, if_neg (fun z => h1 (Int.lt_of_mul_lt_mul_right z (Int.le_of_lt hc)))]
    by_cases h2 : a = b
    · rw [if_pos h2, if_pos (by rw [h2])]
    · rw [if_neg h2, if_neg (fun z => h2 (Int.eq_of_mul_eq_mul_right (by omega) z))]
theorem two_pos (n : Nat) : (0 : Int) < 2 ^ n := Int.pow_pos (by decide)
theorem vl_base {s : Bool} {m : Nat} {i b : Int} (hb : b ≤ i) (h0 : -1200 ≤ b) : vl (.number s m i) = signed s m (i - b).toNat * 2 ^ (b + 1200).toNat := by
  rw [signed_eq, Int.mul_assoc, ← Int.pow_add]
  show sgN s m * 2 ^ (i + 1200).toNat = _
  congr 2
  omega
theorem ord_vl {s t : Bool} {m n : Nat} {i j : Int} (hi : -1200 ≤ i) (hj : -1200 ≤ j) : (Datum.number s m i).order (.number t n j) = some (compare (vl (.number s m i)) (vl (.number t n j))) := by
  rw [vl_base (b := min i j) (by omega) (by omega), vl_base (s := t) (b := min i j) (by omega) (by omega), cmp_mul (two_pos _)]
  rfl
/-- A float that is a number of this value. -/
def Num (k : FloatKind) (b : Nat) (v : Int) : Prop := ∃ s m e, k.format.read b = .number s m e ∧ -1200 ≤ e ∧ v = vl (.number s m e)
theorem num_ord {k a b u v} (ha : Num k a u) (hb : Num k b v) : k.format.order a b = some (compare u v) := by
  obtain ⟨s, m, e, h1, h2, rfl⟩ := ha
  obtain ⟨t, n, d, h3, h4, rfl⟩ := hb
  unfold Format.order
  rw [h1, h3]; exact ord_vl h2 h4
theorem cmp_lt (u v : Int) : (some (compare u v) == some Ordering.lt) = decide (u < v) := by
  rw [cmp_int]
  by_cases h1 : u < v
  · rw [if_pos h1, decide_eq_true h1]; rfl
  · rw [if_neg h1, decide_eq_false h1]
    split <;> rfl
theorem cmp_eq (u v : Int) : (some (compare u v) == some Ordering.eq) = decide (u = v) := by
  rw [cmp_int]
  by_cases h1 : u < v
  · rw [if_pos h1, decide_eq_false (by omega)]; rfl
  · rw [if_neg h1]
    by_cases h2 : u = v
    · rw [if_pos h2, decide_eq_true h2]; rfl
    · rw [if_neg h2, decide_eq_false h2]; rfl
section
variable {k : FloatKind} {a b : Nat} {u v : Int} (ha : Num k a u) (hb : Num k b v)
include ha hb
theorem num_eql : binK .eql (.flt k a) (.flt k b) = some (.bool (decide (u = v))) := by
  simp only [binK, if_true, fltBin, num_ord ha hb, cmp_eq]
theorem num_leq : binK .leq (.flt k a) (.flt k b) = some (.bool (decide (u ≤ v))) := by
  simp only [binK, if_true, fltBin, num_ord ha hb, cmp_lt, cmp_eq]
  congr 2
  by_cases h : u < v
  · simp [h, Int.le_of_lt h]
  · by_cases h2 : u = v
    · simp [h2]
    · rw [decide_eq_false h, decide_eq_false h2, decide_eq_false (by omega)]; rfl
end
/-- A number that the format has. -/
def ExF (f : Format) (m : Nat) (i : Int) : Prop := m = 0 ∨ ∃ m' j : Nat, m = m' * 2 ^ j ∧ m' ≠ 0 ∧ m'.log2 ≤ f.fractionBits ∧ f.leastPlace ≤ i + j ∧ i + j + m'.log2 - f.fractionBits - f.leastPlace + 3 ≤ (2 ^ f.exponentBits : Nat)
theorem least_ge (k : FloatKind) : -1200 ≤ k.format.leastPlace := by cases k <;> decide
theorem exp_ge (k : FloatKind) : 2 ≤ k.format.exponentBits := by cases k <;> decide
theorem num_write {k : FloatKind} {s : Bool} {m : Nat} {i : Int} (hi : -1200 ≤ i) (h : ExF k.format m i) : Num k (k.format.write (.number s m i)) (vl (.number s m i)) := by
  have hl := least_ge k
  show Num k (k.format.nearest s m i) _
  rcases h with rfl | ⟨m', j, rfl, h1, h2, h3, h4⟩
  · exact ⟨s, 0, _, read_zero _ _ _, hl, by cases s <;> simp [vl, sgN]⟩
  · rw [nearest_shift _ _ h1 h2 h3]
    obtain ⟨q, h5, h6⟩ := read_nearest k.format s h1 h2 h3 h4 (exp_ge k)
    refine ⟨s, _, _, h6, by omega, ?_⟩
    show sgN s (m' * 2 ^ j) * 2 ^ (i + 1200).toNat = sgN s (m' * 2 ^ q) * 2 ^ (i + j - q + 1200).toNat
    rw [sgN_mul, sgN_mul, Int.mul_assoc, Int.mul_assoc]
    congr 1
    have e : ∀ a b : Nat, ((2 ^ a : Nat) : Int) * 2 ^ b = 2 ^ (a + b) := fun a b => by rw [Int.natCast_pow, Int.pow_add]; rfl
    rw [e, e]
    congr 1
    omega
end Go.Abs
namespace Go.Abs
open Ieee

theorem read_fin {f : Format} {w : Nat} {s m e} (h : f.read w = .number s m e) : m < 2 * f.binade ∧ f.leastPlace ≤ e := by
  have hp : 0 < f.binade := Nat.two_pow_pos _
  unfold Format.read at h
  dsimp only at h
  split at h
  · cases h; exact ⟨by omega, Int.le_refl _⟩
  · split at h
    · cases h
      have := Nat.mod_lt (w % f.signWeight) hp
      exact ⟨by omega, by omega⟩
    · split at h <;> cases h
theorem log_fin {f : Format} {w : Nat} {s m e} (h : f.read w = .number s m e) (hm : m ≠ 0) : m.log2 ≤ f.fractionBits := by
  have h1 := (read_fin h).1
  have h2 := Nat.log2_self_le hm
  have e : 2 * f.binade = 2 ^ (f.fractionBits + 1) := by rw [Nat.pow_succ]; show 2 * 2 ^ f.fractionBits = _; omega
  rw [e] at h1
  have := (Nat.pow_lt_pow_iff_right (a := 2) (by decide)).1 (Nat.lt_of_le_of_lt h2 h1)
  omega
def bU : Nat := 1200
theorem bU_eq : (bU : Int) = 1200 := rfl
def UU : Int := 2 ^ bU
theorem UU_pos : 0 < UU := two_pos _
theorem vl_at {s : Bool} {m : Nat} {e : Int} (he : 0 ≤ e) : vl (.number s m e) = sgN s m * 2 ^ e.toNat * UU := by
  show sgN s m * 2 ^ (e + 1200).toNat = _
  have h1 := bU_eq
  have h2 : (e + 1200).toNat = e.toNat + bU := by omega
  rw [Int.mul_assoc, UU, ← Int.pow_add, h2]
theorem sgN_int (n : Int) : sgN (decide (n < 0)) n.natAbs = n := by
  by_cases h : n < 0
  · rw [decide_eq_true h]; unfold sgN; simp only [if_true]; omega
  · rw [decide_eq_false h]; unfold sgN; simp only [Bool.false_eq_true, if_false]; omega
/-- An integer as a float. -/
theorem num_int {k : FloatKind} {n : Int} (h : n.natAbs < 2 ^ (k.format.fractionBits + 1)) : Num k (k.nearest n) (n * UU) := by
  have hx : ExF k.format n.natAbs 0 := by
    by_cases hz : n.natAbs = 0
    · exact .inl hz
    · have h2 := Nat.log2_self_le hz
      have := (Nat.pow_lt_pow_iff_right (a := 2) (by decide)).1 (Nat.lt_of_le_of_lt h2 h)
      refine .inr ⟨n.natAbs, 0, by simp, hz, by omega, ?_, ?_⟩
      · cases k <;> decide
      · cases k
        · have e1 : FloatKind.f32.format.fractionBits = 23 := rfl
          have e2 : FloatKind.f32.format.leastPlace = -149 := by decide
          have e3 : (2 ^ FloatKind.f32.format.exponentBits : Nat) = 256 := by decide
          rw [e1, e2, e3]; rw [e1] at this; omega
        · have e1 : FloatKind.f64.format.fractionBits = 52 := rfl
          have e2 : FloatKind.f64.format.leastPlace = -1074 := by decide
          have e3 : (2 ^ FloatKind.f64.format.exponentBits : Nat) = 2048 := by decide
          rw [e1, e2, e3]; rw [e1] at this; omega
  have := num_write (s := decide (n < 0)) (by omega) hx
  rw [vl_at (Int.le_refl 0), sgN_int] at this
  simp only [Int.toNat_zero, Int.pow_zero, Int.mul_one] at this
  exact this
/-- A float cut to an integer. -/
theorem toInt_vl {s : Bool} {m : Nat} {e : Int} (h0 : -1200 ≤ e) : (Datum.number s m e).toInt .zero = some ((vl (.number s m e)).tdiv UU) := by
  have hz : ∀ n d : Nat, Toward.zero.cut s n d = n / 2 ^ d := fun n d => by
    unfold Toward.cut
    dsimp only
    rw [Nat.shiftLeft_eq, Nat.one_mul]
    show _ + 0 = _
    rw [Nat.add_zero]
    by_cases hd : d ≤ n.log2 + 2
    · rw [Nat.min_eq_left hd]
    · rw [Nat.min_eq_right (by omega)]
      have a1 : n < 2 ^ (n.log2 + 2) := Nat.lt_of_lt_of_le Nat.lt_log2_self (Nat.pow_le_pow_right (by decide) (by omega))
      have a2 : n < 2 ^ d := Nat.lt_of_lt_of_le a1 (Nat.pow_le_pow_right (by decide) (by omega))
      rw [Nat.div_eq_of_lt a1, Nat.div_eq_of_lt a2]
  have key : ∀ q : Nat, signed s q 0 = sgN s q := fun q => by rw [signed_eq, Int.pow_zero, Int.mul_one]
  unfold Datum.toInt Datum.integral
  dsimp only
  rw [hz, key, Nat.shiftLeft_eq]
  congr 1
  have hU : UU ≠ 0 := by have := UU_pos; omega
  by_cases he : 0 ≤ e
  · rw [vl_at he, Int.mul_tdiv_cancel _ hU, show (-e).toNat = 0 by omega, Nat.pow_zero, Nat.div_one, sgN_mul, Int.natCast_pow]; rfl
  · have e1 : UU = 2 ^ (e + 1200).toNat * 2 ^ (-e).toNat := by
      have h1 := bU_eq
      have h2 : (e + 1200).toNat + (-e).toNat = bU := by omega
      rw [UU, ← Int.pow_add, h2]
    have e2 : vl (.number s m e) = sgN s m * 2 ^ (e + 1200).toNat := rfl
    rw [e2, e1, Int.mul_comm (sgN s m), Int.mul_tdiv_mul_of_pos _ _ (two_pos _), show e.toNat = 0 by omega, Nat.pow_zero, Nat.mul_one]
    have hc : ((2 ^ (-e).toNat : Nat) : Int) = 2 ^ (-e).toNat := by rw [Int.natCast_pow]; rfl
    cases s
    · show ((m / 2 ^ (-e).toNat : Nat) : Int) = (m : Int).tdiv _
      rw [← hc, ← Int.ofNat_tdiv]
    · show -((m / 2 ^ (-e).toNat : Nat) : Int) = (-(m : Int)).tdiv _
      rw [← hc, Int.neg_tdiv, ← Int.ofNat_tdiv]
theorem num_toInt {k b v} (h : Num k b v) : (k.decode b).toInt .zero = some (v.tdiv UU) := by
  obtain ⟨s, m, e, h1, h2, rfl⟩ := h
  show (k.format.read b).toInt .zero = _
  rw [h1]; exact toInt_vl h2
theorem num_nan {k b v} (h : Num k b v) : nanB k b = false := by
  obtain ⟨s, m, e, h1, _, _⟩ := h
  rw [nanB_isNaN, h1]; rfl
/-- A float less itself. -/
theorem sub_self {k b v} (h : Num k b v) : binK .sub (.flt k b) (.flt k b) = some (.flt k 0) := by
  obtain ⟨s, m, e, h1, _, _⟩ := h
  have : k.format.sub b b = some 0 := by
    unfold Format.sub
    rw [h1]
    have hs : (Datum.number s m e).sum (Datum.number s m e).opposite = some (.number false 0 e) := by
      unfold Datum.opposite Datum.sum
      dsimp only
      have ht : signed s m (e - min e e).toNat + signed (!s) m (e - min e e).toNat = 0 := by
        rw [signed_eq, signed_eq]
        cases s <;> simp [sgN] <;> omega
      rw [ht]
      cases s <;> simp
    rw [hs]
    show some (k.format.nearest false 0 e) = some 0
    unfold Format.nearest
    rw [if_pos rfl]; rfl
  simp only [binK, if_true, fltBin, this, fltRes]
end Go.Abs
namespace Go.Abs
open Ieee

theorem read_fin2 {f : Format} {w : Nat} {s m e} (h : f.read w = .number s m e) (h2 : 2 ≤ f.exponentBits) : e - f.leastPlace + 3 ≤ (2 ^ f.exponentBits : Nat) := by
  have hp : 0 < f.binade := Nat.two_pow_pos _
  have hp4 : 4 ≤ 2 ^ f.exponentBits := Nat.pow_le_pow_right (n := 2) (by decide) h2
  unfold Format.read at h
  dsimp only at h
  split at h
  · cases h; omega
  · split at h
    · rename_i h3
      cases h
      have e1 : f.infRung = (2 ^ f.exponentBits - 1) * f.binade := rfl
      rw [e1] at h3
      have := (Nat.div_lt_iff_lt_mul hp).2 h3
      omega
    · split at h <;> cases h
def c16 : FloatKind → Nat
  | .f32 => 1098907648
  | .f64 => 4625196817309499392
theorem read_c16 (k : FloatKind) : k.format.read (c16 k) = .number false (2 ^ k.format.fractionBits) (4 - (k.format.fractionBits : Int)) := by cases k <;> decide
theorem sgN_abs (s : Bool) (m : Nat) : (sgN s m).natAbs = m := by cases s <;> simp [sgN]
theorem abs_pow (n : Nat) : ((2 : Int) ^ n).natAbs = 2 ^ n := by rw [Int.natAbs_pow]; rfl
theorem vl_abs (s : Bool) (m : Nat) (e : Int) : (vl (.number s m e)).natAbs = m * 2 ^ (e + 1200).toNat := by
  show (sgN s m * 2 ^ (e + 1200).toNat).natAbs = _
  rw [Int.natAbs_mul, sgN_abs, abs_pow]
theorem UU_abs : UU.natAbs = 2 ^ bU := abs_pow _
theorem pow_le' {a b : Nat} (h : 2 ^ a ≤ 2 ^ b) : a ≤ b := (Nat.pow_le_pow_iff_right (a := 2) (by decide)).1 h
theorem pow_lt' {a b : Nat} (h : 2 ^ a < 2 ^ b) : a < b := (Nat.pow_lt_pow_iff_right (a := 2) (by decide)).1 h
/-- How great a number is, by its parts. -/
theorem vl_le {s m e} (hm : m ≠ 0) (he : -1200 ≤ e) {c : Nat} (h : (vl (.number s m e)).natAbs ≤ 2 ^ c * UU.natAbs) : e + m.log2 ≤ c := by
  rw [vl_abs, UU_abs, ← Nat.pow_add] at h
  have h2 : 2 ^ m.log2 * 2 ^ (e + 1200).toNat ≤ m * 2 ^ (e + 1200).toNat := Nat.mul_le_mul_right _ (Nat.log2_self_le hm)
  rw [← Nat.pow_add] at h2
  have := pow_le' (Nat.le_trans h2 h)
  have h1 := bU_eq
  omega
theorem vl_ge {s m e} (he : -1200 ≤ e) (h : UU.natAbs ≤ (vl (.number s m e)).natAbs) : 0 ≤ e + m.log2 := by
  rw [vl_abs, UU_abs] at h
  have h2 : m * 2 ^ (e + 1200).toNat < 2 ^ (m.log2 + 1) * 2 ^ (e + 1200).toNat := Nat.mul_lt_mul_of_pos_right Nat.lt_log2_self (Nat.two_pow_pos _)
  rw [← Nat.pow_add] at h2
  have := pow_lt' (Nat.lt_of_le_of_lt h h2)
  have h1 := bU_eq
  omega
theorem fmt_facts (k : FloatKind) : (k.format.fractionBits = 23 ∧ k.format.leastPlace = -149 ∧ (2 ^ k.format.exponentBits : Nat) = 256) ∨ (k.format.fractionBits = 52 ∧ k.format.leastPlace = -1074 ∧ (2 ^ k.format.exponentBits : Nat) = 2048) := by
  cases k
  · exact .inl ⟨rfl, by decide, by decide⟩
  · exact .inr ⟨rfl, by decide, by decide⟩
theorem vl_scale {s : Bool} {m j : Nat} {i i' : Int} (h0 : -1200 ≤ i) (hi : i + j = i') : vl (.number s (m * 2 ^ j) i) = vl (.number s m i') := by
  show sgN s (m * 2 ^ j) * 2 ^ (i + 1200).toNat = sgN s m * 2 ^ (i' + 1200).toNat
  rw [sgN_mul, Int.natCast_pow, Int.mul_assoc]
  have e : (i' + 1200).toNat = j + (i + 1200).toNat := by omega
  rw [e, Int.pow_add]; rfl
theorem vl_up {s : Bool} {m : Nat} {i : Int} (h0 : -1200 ≤ i) : vl (.number s m (i + 4)) = 16 * vl (.number s m i) := by
  show sgN s m * 2 ^ (i + 4 + 1200).toNat = 16 * (sgN s m * 2 ^ (i + 1200).toNat)
  have e : (i + 4 + 1200).toNat = (i + 1200).toNat + 4 := by omega
  rw [e, Int.pow_add, ← Int.mul_assoc, Int.mul_comm]; rfl
/-- A product by 16. -/
theorem mul16 {k b v} (h : Num k b v) (hv : v.natAbs ≤ 2 ^ 10 * UU.natAbs) : ∃ q, binK .mul (.flt k b) (.flt k (c16 k)) = some (.flt k q) ∧ binK .mul (.flt k (c16 k)) (.flt k b) = some (.flt k q) ∧ Num k q (16 * v) := by
  obtain ⟨s, m, e, h1, h2, rfl⟩ := h
  have hc := read_c16 k
  have hf := fmt_facts k
  have hl := (read_fin h1).2
  obtain ⟨F, hF⟩ : ∃ F, F = k.format.fractionBits := ⟨_, rfl⟩
  have p1 : k.format.mul b (c16 k) = some (k.format.write (.number s (m * 2 ^ F) (e + (4 - (F : Int))))) := by
    unfold Format.mul; rw [h1, hc, ← hF]; simp [Datum.product]
  have p2 : k.format.mul (c16 k) b = some (k.format.write (.number s (m * 2 ^ F) (e + (4 - (F : Int))))) := by
    unfold Format.mul; rw [h1, hc, ← hF]; simp [Datum.product, Nat.mul_comm, Int.add_comm]
  refine ⟨k.format.write (.number s (m * 2 ^ F) (e + (4 - (F : Int)))), ?_, ?_, ?_⟩
  · simp only [binK, if_true, fltBin, p1, fltRes]
  · simp only [binK, if_true, fltBin, p2, fltRes]
  · have hx : ExF k.format (m * 2 ^ F) (e + (4 - (F : Int))) := by
      by_cases hm : m = 0
      · exact .inl (by rw [hm, Nat.zero_mul])
      · have hb := vl_le hm h2 hv
        exact .inr ⟨m, F, rfl, hm, log_fin h1 hm, by omega, by omega⟩
    have := num_write (k := k) (s := s) (by omega) hx
    rw [vl_scale (i' := e + 4) (by omega) (by omega), vl_up h2] at this
    exact this
/-- A quotient by 16. -/
theorem quo16 {k b v} (h : Num k b v) (hv : v = 0 ∨ UU.natAbs ≤ v.natAbs) : ∃ q w, binK .quo (.flt k b) (.flt k (c16 k)) = some (.flt k q) ∧ Num k q w ∧ 16 * w = v := by
  obtain ⟨s, m, e, h1, h2, rfl⟩ := h
  have hc := read_c16 k
  have hf := fmt_facts k
  have hl := (read_fin h1).2
  have hu := read_fin2 h1 (exp_ge k)
  obtain ⟨F, hF⟩ : ∃ F, F = k.format.fractionBits := ⟨_, rfl⟩
  have hp : 0 < 2 ^ F := Nat.two_pow_pos _
  by_cases hm : m = 0
  · subst hm
    have p1 : k.format.div b (c16 k) = some (k.format.write (.number s 0 (e - (4 - (F : Int)) - ((F + 2 + (2 ^ F).log2 : Nat) : Int) - 1))) := by
      unfold Format.div; rw [h1, hc, ← hF]
      show Option.map k.format.write (if 2 ^ F = 0 then _ else _) = _
      rw [if_neg (by omega)]
      simp [Nat.shiftLeft_eq]
    refine ⟨_, _, by simp only [binK, if_true, fltBin, p1, fltRes]; rfl, num_write ?_ (.inl rfl), by simp [vl, sgN]⟩
    have : (2 ^ F).log2 = F := Nat.log2_two_pow
    omega
  · have hlm := log_fin h1 hm
    have hlF : (2 ^ F).log2 = F := Nat.log2_two_pow
    obtain ⟨t, ht⟩ : ∃ t, t = F + 2 - m.log2 := ⟨_, rfl⟩
    have hmore : F + 2 + (2 ^ F).log2 - m.log2 = t + F := by omega
    have p1 : k.format.div b (c16 k) = some (k.format.write (.number s (m * 2 ^ (t + 1)) (e - (4 - (F : Int)) - ((t + F : Nat) : Int) - 1))) := by
      unfold Format.div; rw [h1, hc, ← hF]
      show Option.map k.format.write (if 2 ^ F = 0 then _ else _) = _
      rw [if_neg (by omega)]
      rw [hmore, Nat.shiftLeft_eq, Nat.pow_add, ← Nat.mul_assoc, Nat.mul_div_cancel _ hp, Nat.mul_mod_left]
      have e2 : 2 * (m * 2 ^ t) + ((0 : Nat) != 0).toNat = m * 2 ^ (t + 1) := by
        rw [Nat.pow_succ]
        show 2 * (m * 2 ^ t) + 0 = _
        rw [Nat.add_zero, Nat.mul_comm 2, Nat.mul_assoc]
      rw [e2]
      simp
    have hx : ExF k.format (m * 2 ^ (t + 1)) (e - (4 - (F : Int)) - ((t + F : Nat) : Int) - 1) := by
      have hg : UU.natAbs ≤ (vl (.number s m e)).natAbs := by
        rcases hv with hv | hv
        · have h3 := vl_abs s m e
          rw [hv] at h3
          have : 0 < m * 2 ^ (e + 1200).toNat := Nat.mul_pos (by omega) (Nat.two_pow_pos _)
          simp at h3
          omega
        · exact hv
      have hb := vl_ge h2 hg
      exact .inr ⟨m, t + 1, rfl, hm, hlm, by omega, by omega⟩
    refine ⟨_, _, by simp only [binK, if_true, fltBin, p1, fltRes]; rfl, num_write (by omega) hx, ?_⟩
    rw [vl_scale (i' := e - 4) (by omega) (by omega), ← vl_up (by omega), show e - 4 + 4 = e by omega]
end Go.Abs
