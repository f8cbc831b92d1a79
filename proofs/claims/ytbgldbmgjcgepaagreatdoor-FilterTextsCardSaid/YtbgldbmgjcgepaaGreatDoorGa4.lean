/- The abstract layer, part Y: what must hold ahead of a piece of code, by its form; rules for loops, calls, functions. No condition. · The abstract layer, part Z: slices as lists of rows of cells; what operations do on them. No condition. · The abstract layer, part RA: one equation for each operation, in the form in which it is used as a rule. No condition. · The abstract layer, part RB: the rules in one bundle; choices by a test. No condition. · The abstract layer, part RC: loads and stores in a heap written out; strings ranged over; rows of integers. No condition. · The abstract layer, part RD: slices whose rows are made of the elements of a list; more rules. No condition. · The functions in the small code. No condition. -/
import Derived.Test.YtbgldbmgjcgepaaGreatDoorGa3
set_option linter.all false
namespace Go.Abs

/-- One heap goes on another. -/
def Ext (h h' : AHeap) : Prop := ∃ g, h' = h ++ g

theorem Ext.refl (h : AHeap) : Ext h h := ⟨[], by simp⟩
theorem Ext.app {h k} (g : AHeap) (e : Ext h k) : Ext h (k ++ g) := by
  obtain ⟨x, rfl⟩ := e; exact ⟨x ++ g, by simp⟩
theorem Ext.trans {a b c} (h : Ext a b) (k : Ext b c) : Ext a c := by
  obtain ⟨x, rfl⟩ := h; obtain ⟨y, rfl⟩ := k; exact ⟨x ++ y, by simp⟩
theorem Ext.get {h k} (e : Ext h k) {b} (hb : b < h.length) : k[b]? = h[b]? := by
  obtain ⟨x, rfl⟩ := e; exact List.getElem?_append_left hb
theorem Ext.some {h k : AHeap} (e : Ext h k) {b : Nat} {x : ABlk} (hb : h[b]? = some x) : k[b]? = some x := by
  rw [e.get (List.getElem?_eq_some_iff.1 hb).1]; exact hb
theorem Ext.len {h k} (e : Ext h k) : h.length ≤ k.length := by
  obtain ⟨x, rfl⟩ := e; simp

def CallQ (P : Program) (q : Bool) (fv : AV) (args : List AV) (h : AHeap) (K : AV → AHeap → Prop) : Prop :=
  ∃ v h', SCallV P fv args h v h' ∧ (q = true → Ext h h') ∧ K v h'

def Eff.quiet : Eff → Bool
  | .keep => true
  | .push _ => true
  | _ => false

theorem Eff.quiet_ext {e : Eff} {h : AHeap} (he : e.quiet = true) : Ext h (e.app h) := by
  cases e with
  | keep => exact Ext.refl h
  | push k => exact ⟨[k], rfl⟩
  | set b k => cases he
  | setPush b k k' => cases he

def WK (P : Program) (q : Bool) (k : OpK) (ρ : Opd → AV) (h : AHeap) (K : AV → AHeap → Prop) : Prop :=
  match k with
  | .call f args => CallQ P q (ρ f) (args.map ρ) h K
  | k =>
    match stepT k ρ (fun b => h[b]?) h.length with
    | some (v, e) => (q = true → e.quiet = true) ∧ K v (e.app h)
    | none => False

def inK (d : Option Nat) (k : OpK) (n : Nat) (X : Prop) : Prop :=
  match k, d with
  | .boxn _ _, some d => d < n ∧ X
  | _, _ => X
theorem inK_iff {d} {k} {n} {X : Prop} : inK d k n X ↔ inR d k n ∧ X := by
  cases k <;> cases d <;> simp [inK, inR]
def WS (P : Program) (o : IOp) (ts : TS) (h : AHeap) (K : AV → AHeap → Prop) : Prop :=
  match o.gd with
  | none => inK o.dst o.k ts.length (WK P o.q o.k (val ts) h K)
  | some (t, b) =>
    match val ts (.t t) with
    | .bool c => if c = b then inK o.dst o.k ts.length (WK P o.q o.k (val ts) h K) else K undefA h
    | _ => K undefA h

def WO (P : Program) : List IOp → TS → AHeap → (TS → AHeap → Prop) → Prop
  | [], ts, h, Q => Q ts h
  | o :: r, ts, h, Q => WS P o ts h (fun v h1 => WO P r (put ts o.dst v) h1 Q)

theorem WK.sound {P : Program} {q : Bool} {k : OpK} {ρ : Opd → AV} {h : AHeap} {K : AV → AHeap → Prop} (H : WK P q k ρ h K) : ∃ v h', OpStep P k ρ h v h' ∧ (q = true → Ext h h') ∧ K v h' := by
  by_cases hc : ∃ f args, k = .call f args
  · obtain ⟨f, args, rfl⟩ := hc
    exact H
  · have H' : (match stepT k ρ (fun b => h[b]?) h.length with
      | some (v, e) => (q = true → e.quiet = true) ∧ K v (e.app h)
      | none => False) := by
      cases k <;> first | exact H | exact absurd ⟨_, _, rfl⟩ hc
    split at H'
    case h_2 => exact H'.elim
    rename_i v e he
    refine ⟨v, e.app h, ?_, fun hq => Eff.quiet_ext (H'.1 hq), H'.2⟩
    have := stepT_ok he
    cases k <;> first | exact this | exact absurd ⟨_, _, rfl⟩ hc

theorem WS.sound {P} {o} {ts} {h} {K} (H : WS P o ts h K) : ∃ v h', IStep P o ts h (put ts o.dst v) h' ∧ (o.q = true → ∃ g, h' = h ++ g) ∧ K v h' := by
  have run : wanted o.gd ts → inK o.dst o.k ts.length (WK P o.q o.k (val ts) h K) → ∃ v h', IStep P o ts h (put ts o.dst v) h' ∧ (o.q = true → ∃ g, h' = h ++ g) ∧ K v h' := fun hw hk => by
    obtain ⟨hb, hk⟩ := inK_iff.1 hk
    obtain ⟨v, h', h1, h2, h3⟩ := hk.sound
    exact ⟨v, h', .run hw hb h1, h2, h3⟩
  have skip : ¬ wanted o.gd ts → K undefA h → ∃ v h', IStep P o ts h (put ts o.dst v) h' ∧ (o.q = true → ∃ g, h' = h ++ g) ∧ K v h' := fun hw hk =>
    ⟨undefA, h, .skip hw, fun _ => Ext.refl h, hk⟩
  unfold WS at H
  split at H
  · rename_i hg
    exact run (by rw [hg]; trivial) H
  · rename_i t b hg
    split at H
    · rename_i c hv
      have hx : ts[t]? = some (.bool c) := by
        simp only [val, List.getD] at hv
        cases hy : ts[t]? with
        | none => rw [hy] at hv; cases hv
        | some z => rw [hy] at hv; simp only [Option.getD_some] at hv; rw [hv]
      split at H
      · rename_i hcb
        subst hcb
        exact run (by rw [hg]; exact hx) H
      · rename_i hcb
        refine skip (fun hw => hcb ?_) H
        rw [hg] at hw
        simp only [wanted, hx, Option.some.injEq, AV.bool.injEq] at hw
        exact hw
    · rename_i hv
      refine skip (fun hw => ?_) H
      rw [hg] at hw
      simp only [wanted] at hw
      exact hv b (by simp [val, List.getD, hw])

theorem WO.sound {P} : ∀ {l} {ts} {h} {Q}, WO P l ts h Q → ∃ ts' h', IOps P l ts h ts' h' ∧ Q ts' h'
  | [], ts, h, Q, H => ⟨ts, h, ⟨rfl, rfl⟩, H⟩
  | o :: r, ts, h, Q, H => by
    obtain ⟨v, h1, h2, h3, h4⟩ := WS.sound H
    obtain ⟨ts', h', h5, h6⟩ := WO.sound (l := r) h4
    exact ⟨ts', h', ⟨_, h1, h2, h3, h5⟩, h6⟩

/-- A region whose loads look where no one writes: until nothing is loaded any more, in all its heaps holds S. -/
def WM (P : Program) (S : AHeap → Prop) : List IOp → TS → AHeap → (TS → AHeap → Prop) → Prop
  | [], ts, h, K => S h ∧ K ts h
  | o :: r, ts, h, K => S h ∧ ((lateAll (o :: r) = true ∧ WO P (o :: r) ts h K) ∨ (lateAll (o :: r) = false ∧
      ((ldQ o = true ∧ ∃ v, (∀ g, S g → IStep P o ts g (put ts o.dst v) g) ∧ WM P S r (put ts o.dst v) h K) ∨ (ldQ o = false ∧ WS P o ts h (fun v h1 => WM P S r (put ts o.dst v) h1 K)))))
theorem WM.sound {P} {S} : ∀ {l} {ts} {h} {K}, WM P S l ts h K → ∃ T H, Row P l T H ∧ T 0 = ts ∧ H 0 = h ∧ (∀ (i : Nat) (io : IOp), l[i]? = some io → ldQ io = true → ∀ g, S g → IStep P io (T i) g (T (i + 1)) g) ∧ (∀ θ, θ ≤ lateAt l → S (H θ)) ∧ K (T l.length) (H l.length)
  | [], ts, h, K, H => ⟨fun _ => ts, fun _ => h, ⟨fun i o ho => by simp at ho⟩, rfl, rfl, fun i io ho => by simp at ho, fun _ _ => H.1, H.2⟩
  | o :: r, ts, h, K, H => by
    obtain ⟨h0, H⟩ := H
    rcases H with ⟨hall, H⟩ | ⟨hall, H⟩
    · obtain ⟨ts', h', h1, h2⟩ := WO.sound H
      obtain ⟨T, G, rfl, rfl, rfl, rfl, r5⟩ := h1.row
      refine ⟨T, G, r5, rfl, rfl, fun i io hio hld => ?_, fun θ hθ => ?_, h2⟩
      · have := List.all_eq_true.1 (Bool.and_eq_true_iff.1 hall).1 io (List.mem_of_getElem? hio)
        unfold ldQ at hld
        unfold lateK at this
        cases hk : io.k <;> rw [hk] at hld this <;> simp [pureK] at hld this
      · rw [lateAt, if_pos hall] at hθ
        have : θ = 0 := by omega
        subst this; exact h0
    have key : ∃ v h1, IStep P o ts h (put ts o.dst v) h1 ∧ (o.q = true → ∃ g, h1 = h ++ g) ∧ (ldQ o = true → ∀ g, S g → IStep P o ts g (put ts o.dst v) g) ∧ WM P S r (put ts o.dst v) h1 K := by
      rcases H with ⟨hl, v, h1, h2⟩ | ⟨hl, H⟩
      · exact ⟨v, h, h1 h h0, fun _ => ⟨[], by simp⟩, fun _ => h1, h2⟩
      · obtain ⟨v, h1, h2, h3, h4⟩ := WS.sound H
        refine ⟨v, h1, h2, h3, fun z => ?_, h4⟩
        rw [hl] at z; cases z
    obtain ⟨v, h1, k1, k2, k3, k4⟩ := key
    obtain ⟨T, G, r1, r2, r3, r4, r5, r6⟩ := WM.sound (l := r) k4
    let T' : Nat → TS := fun n => match n with | 0 => ts | n + 1 => T n
    let G' : Nat → AHeap := fun n => match n with | 0 => h | n + 1 => G n
    refine ⟨T', G', ⟨fun i o' ho => ?_⟩, rfl, rfl, fun i io hio hld g hg => ?_, fun θ hθ => ?_, r6⟩
    · cases i with
      | zero =>
        simp only [List.getElem?_cons_zero, Option.some.injEq] at ho
        subst ho
        show IStep P o ts h (T 0) (G 0) ∧ (o.q = true → ∃ g, G 0 = h ++ g)
        rw [r2, r3]; exact ⟨k1, k2⟩
      | succ i => exact r1.step i o' (by simpa using ho)
    · cases i with
      | zero =>
        simp only [List.getElem?_cons_zero, Option.some.injEq] at hio
        subst hio
        show IStep P o ts g (T 0) g
        rw [r2]; exact k3 hld g hg
      | succ i => exact r4 i io (by simpa using hio) hld g hg
    · cases θ with
      | zero => exact h0
      | succ θ =>
        rw [lateAt, if_neg (by rw [hall]; decide)] at hθ
        exact r5 θ (by omega)

def W (P : Program) (ro : Option Nat → Prop) : ICode → TS → AHeap → (Ex → TS → AHeap → Prop) → Prop
  | .skip, ts, h, Q => Q .normal ts h
  | .ops l, ts, h, Q => WO P l ts h (Q .normal)
  | .opsS l, ts, h, Q => WOS h l ts [] fun ts' cs => accOk cs ∧ Q .normal ts' (accApp h cs)
  | .opsM l, ts, h, Q => ∃ S, WM P S l ts h (Q .normal)
  | .seq a b, ts, h, Q => W P ro a ts h fun e ts1 h1 =>
    match e with
    | .normal => W P ro b ts1 h1 Q
    | .exit id => Q (.exit id) ts1 h1
    | .ret => Q .ret ts1 h1
  | .cond c a b, ts, h, Q =>
    match val ts c with
    | .bool t => (t = true → W P ro a ts h Q) ∧ (t = false → W P ro b ts h Q)
    | _ => False
  | .block id a, ts, h, Q => W P ro a ts h fun e => Q (e.inBlock id)
  | .loop a, ts, h, Q => ∃ e ts' h', (∀ r, ro r → LoopR P r a ts h e ts' h') ∧ Q e ts' h'
  | .exit id, ts, h, Q => Q (.exit id) ts h
  | .ret, ts, h, Q => Q .ret ts h
  | .rangeF g ps asg body, ts, h, Q => ∃ e ts' h', (∀ r, ro r → Ev P r (.rangeF g ps asg body) ts h e ts' h') ∧ Q e ts' h'
  | .bad, _, _, _ => False

/-- Within a function itself; within a round of a loop over a function. -/
def inFn : Option Nat → Prop := fun r => r = none
theorem W.sound {P} (hmix : P.follows .mixedOrders = true) {ro} : ∀ {c} {ts} {h} {Q}, W P ro c ts h Q → ∃ e ts' h', (∀ r, ro r → Ev P r c ts h e ts' h') ∧ Q e ts' h'
  | .skip, ts, h, Q, H => ⟨.normal, ts, h, fun _ _ => .skip, H⟩
  | .ops l, ts, h, Q, H => by
    obtain ⟨ts', h', h1, h2⟩ := WO.sound (l := l) H
    exact ⟨.normal, ts', h', fun _ _ => .ops hmix h1, h2⟩
  | .opsS l, ts, h, Q, H => by
    obtain ⟨cs2, cs3, ts', h1, ⟨h2, h3⟩, h4, h5⟩ := WOS.sound (l := l) H
    rw [List.nil_append] at h2 h3
    exact ⟨.normal, ts', accApp h cs2, fun _ _ => .opsS hmix h1 (by simpa using h4 [] [] (by simpa using h2)), by rw [h5]; exact h3⟩
  | .opsM l, ts, h, Q, H => by
    obtain ⟨S, H⟩ := H
    obtain ⟨T, G, r1, rfl, rfl, r4, r5, r6⟩ := WM.sound (l := l) H
    exact ⟨.normal, _, _, fun _ _ => .opsM hmix r1 fun i io hio hld θ hθ => r4 i io hio hld _ (r5 θ hθ), r6⟩
  | .seq a b, ts, h, Q, H => by
    obtain ⟨e, ts1, h1, h2, h3⟩ := W.sound hmix (c := a) H
    cases e with
    | normal =>
      obtain ⟨e, ts', h', h4, h5⟩ := W.sound hmix (c := b) h3
      exact ⟨e, ts', h', fun r hr => .seq (h2 r hr) (h4 r hr), h5⟩
    | exit id => exact ⟨_, ts1, h1, fun r hr => .seq_jump (h2 r hr) (by simp), h3⟩
    | ret => exact ⟨_, ts1, h1, fun r hr => .seq_jump (h2 r hr) (by simp), h3⟩
  | .cond c a b, ts, h, Q, H => by
    unfold W at H
    split at H
    case h_2 => exact H.elim
    rename_i t hv
    cases t with
    | true =>
      obtain ⟨e, ts', h', h4, h5⟩ := W.sound hmix (c := a) (H.1 rfl)
      exact ⟨e, ts', h', fun r hr => .cond hv (h4 r hr), h5⟩
    | false =>
      obtain ⟨e, ts', h', h4, h5⟩ := W.sound hmix (c := b) (H.2 rfl)
      exact ⟨e, ts', h', fun r hr => .cond hv (h4 r hr), h5⟩
  | .block id a, ts, h, Q, H => by
    obtain ⟨e, ts', h', h4, h5⟩ := W.sound hmix (c := a) H
    exact ⟨_, ts', h', fun r hr => .block (h4 r hr), h5⟩
  | .loop a, ts, h, Q, H => by
    obtain ⟨e, ts', h', h4, h5⟩ := H
    exact ⟨e, ts', h', fun r hr => .loop (h4 r hr), h5⟩
  | .exit id, ts, h, Q, H => ⟨_, ts, h, fun _ _ => .exit, H⟩
  | .ret, ts, h, Q, H => ⟨_, ts, h, fun _ _ => .ret, H⟩
  | .rangeF g ps asg body, ts, h, Q, H => H
  | .bad, ts, h, Q, H => H.elim

/-- What is still to be done. -/
inductive Kt where
  | seqK (b : ICode)
  | blockK (id : Nat)

def kq (P : Program) (ro : Option Nat → Prop) : List Kt → (Ex → TS → AHeap → Prop) → Ex → TS → AHeap → Prop
  | [], Q, e, ts, h => Q e ts h
  | .seqK b :: ks, Q, e, ts, h =>
    match e with
    | .normal => W P ro b ts h (kq P ro ks Q)
    | .exit id => kq P ro ks Q (.exit id) ts h
    | .ret => kq P ro ks Q .ret ts h
  | .blockK id :: ks, Q, e, ts, h => kq P ro ks Q (e.inBlock id) ts h

section
variable (P : Program) (ro : Option Nat → Prop)

/-- Code, and what is to be done behind it. -/
def WC (c : ICode) (ks : List Kt) (ts : TS) (h : AHeap) (Q : Ex → TS → AHeap → Prop) : Prop := W P ro c ts h (kq P ro ks Q)
def WE (e : Ex) (ks : List Kt) (ts : TS) (h : AHeap) (Q : Ex → TS → AHeap → Prop) : Prop := kq P ro ks Q e ts h
def WP (l : List IOp) (ks : List Kt) (ts : TS) (h : AHeap) (Q : Ex → TS → AHeap → Prop) : Prop := WO P l ts h (kq P ro ks Q .normal)
def WG (g : AV) (b : Bool) (q : Bool) (k : OpK) (dst : Option Nat) (l : List IOp) (ks : List Kt) (ts : TS) (h : AHeap) (Q : Ex → TS → AHeap → Prop) : Prop :=
  match g with
  | .bool c => if c = b then inK dst k ts.length (WK P q k (val ts) h (fun v h1 => WP P ro l ks (put ts dst v) h1 Q)) else WP P ro l ks (put ts dst undefA) h Q
  | _ => WP P ro l ks (put ts dst undefA) h Q
/-- What an operation came to. -/
def WR (r : Option (AV × Eff)) (q : Bool) (dst : Option Nat) (l : List IOp) (ks : List Kt) (ts : TS) (h : AHeap) (Q : Ex → TS → AHeap → Prop) : Prop :=
  match r with
  | some (v, e) => (q = true → e.quiet = true) ∧ WP P ro l ks (put ts dst v) (e.app h) Q
  | none => False
/-- A call. -/
def WF (q : Bool) (fv : AV) (args : List AV) (dst : Option Nat) (l : List IOp) (ks : List Kt) (ts : TS) (h : AHeap) (Q : Ex → TS → AHeap → Prop) : Prop :=
  CallQ P q fv args h (fun v h1 => WP P ro l ks (put ts dst v) h1 Q)
/-- A choice. -/
def WB (v : AV) (a b : ICode) (ks : List Kt) (ts : TS) (h : AHeap) (Q : Ex → TS → AHeap → Prop) : Prop :=
  match v with
  | .bool t => (t = true → WC P ro a ks ts h Q) ∧ (t = false → WC P ro b ks ts h Q)
  | _ => False
def WL (a : ICode) (ks : List Kt) (ts : TS) (h : AHeap) (Q : Ex → TS → AHeap → Prop) : Prop := WC P ro (.loop a) ks ts h Q
def WRg (g : AV) (ps : List Nat) (asg body : ICode) (ks : List Kt) (ts : TS) (h : AHeap) (Q : Ex → TS → AHeap → Prop) : Prop :=
  ∃ e ts' h', (∀ r, ro r → ∀ g', val ts g' = g → Ev P r (.rangeF g' ps asg body) ts h e ts' h') ∧ WE P ro e ks ts' h' Q
end

/-- The post of a round. -/
def LQ (I : Nat → TS → AHeap → Prop) (n : Nat) (R : Ex → TS → AHeap → Prop) : Ex → TS → AHeap → Prop
  | .normal, ts, h => ∃ m, m < n ∧ I m ts h
  | .exit id, ts, h => R (.exit id) ts h
  | .ret, ts, h => R .ret ts h

/-- The post of a function. -/
def FQ (rs : List (Nat × Option (Option Nat))) (R : AV → AHeap → Prop) : Ex → TS → AHeap → Prop := fun e ts h => e.leaves = true ∧ ∃ v, resAll rs ts h = some v ∧ R v h
def FRes (r : Option AV) (h : AHeap) (R : AV → AHeap → Prop) : Prop :=
  match r with
  | some v => R v h
  | none => False

section
variable {P : Program} {ro : Option Nat → Prop} {ks : List Kt} {ts : TS} {h : AHeap} {Q : Ex → TS → AHeap → Prop}

theorem WC_skip : WC P ro .skip ks ts h Q = WE P ro .normal ks ts h Q := rfl
theorem WC_ops {l} : WC P ro (.ops l) ks ts h Q = WP P ro l ks ts h Q := rfl
theorem WC_seq {a b} : WC P ro (.seq a b) ks ts h Q = WC P ro a (.seqK b :: ks) ts h Q := by
  unfold WC
  simp only [W]
  congr 1
theorem WC_cond {c} {a b} : WC P ro (.cond c a b) ks ts h Q = WB P ro (val ts c) a b ks ts h Q := rfl
theorem WC_block {id} {a} : WC P ro (.block id a) ks ts h Q = WC P ro a (.blockK id :: ks) ts h Q := rfl
theorem WC_loop {a} : WC P ro (.loop a) ks ts h Q = WL P ro a ks ts h Q := rfl
theorem WC_exit {id} : WC P ro (.exit id) ks ts h Q = WE P ro (.exit id) ks ts h Q := rfl
theorem WC_ret : WC P ro .ret ks ts h Q = WE P ro .ret ks ts h Q := rfl
theorem WE_seqN {b} : WE P ro .normal (.seqK b :: ks) ts h Q = WC P ro b ks ts h Q := rfl
theorem WE_seqX {b} {id} : WE P ro (.exit id) (.seqK b :: ks) ts h Q = WE P ro (.exit id) ks ts h Q := rfl
theorem WE_seqR {b} : WE P ro .ret (.seqK b :: ks) ts h Q = WE P ro .ret ks ts h Q := rfl
theorem WE_blockN {id} : WE P ro .normal (.blockK id :: ks) ts h Q = WE P ro .normal ks ts h Q := rfl
theorem WE_blockX {id id'} : WE P ro (.exit id') (.blockK id :: ks) ts h Q = if id' = id then WE P ro .normal ks ts h Q else WE P ro (.exit id') ks ts h Q := by
  unfold WE
  simp only [kq, Ex.inBlock]
  split <;> rfl
theorem WE_blockR {id} : WE P ro .ret (.blockK id :: ks) ts h Q = WE P ro .ret ks ts h Q := rfl
theorem WE_nil {e} : WE P ro e [] ts h Q = Q e ts h := rfl
theorem WP_nil : WP P ro [] ks ts h Q = WE P ro .normal ks ts h Q := rfl
theorem WP_op {d} {k} {q} {l} (hk : ∀ f args, k ≠ .call f args) (hb : ∀ n x, k ≠ .boxn n x) : WP P ro ({ dst := d, k := k, gd := none, q := q } :: l) ks ts h Q = WR P ro (stepT k (val ts) (fun b => h[b]?) h.length) q d l ks ts h Q := by
  cases k <;> first | exact absurd rfl (hk _ _) | exact absurd rfl (hb _ _) | rfl
theorem WP_call {d} {f} {args} {q} {l} : WP P ro ({ dst := d, k := .call f args, gd := none, q := q } :: l) ks ts h Q = WF P ro q (val ts f) (args.map (val ts)) d l ks ts h Q := rfl
theorem WP_gd {d} {k} {t} {b q} {l} : WP P ro ({ dst := d, k := k, gd := some (t, b), q := q } :: l) ks ts h Q = WG P ro (val ts (.t t)) b q k d l ks ts h Q := rfl
theorem WG_no {d} {k} {b q} {l} (c : Bool) (hc : c ≠ b) : WG P ro (.bool c) b q k d l ks ts h Q = WP P ro l ks (put ts d undefA) h Q := by
  simp only [WG, if_neg hc]
theorem WG_yes {d} {k} {b q} {l} : WG P ro (.bool b) b q k d l ks ts h Q = WP P ro ({ dst := d, k := k, gd := none, q := q } :: l) ks ts h Q := by
  simp only [WG, if_pos]
  rfl
theorem WR_keep {v} {q} {d} {l} : WR P ro (some (v, .keep)) q d l ks ts h Q = WP P ro l ks (put ts d v) h Q := by
  simp only [WR, Eff.quiet, Eff.app, implies_true, true_and]
theorem WR_push {v} {k} {q} {d} {l} : WR P ro (some (v, .push k)) q d l ks ts h Q = WP P ro l ks (put ts d v) (h ++ [k]) Q := by
  simp only [WR, Eff.quiet, Eff.app, implies_true, true_and]
theorem WR_set {v} {b} {k} {d} {l} : WR P ro (some (v, .set b k)) false d l ks ts h Q = WP P ro l ks (put ts d v) (h.set b k) Q := by
  simp only [WR, Eff.app, Bool.false_eq_true, false_implies, true_and]
theorem WR_setPush {v} {b} {k k'} {d} {l} : WR P ro (some (v, .setPush b k k')) false d l ks ts h Q = WP P ro l ks (put ts d v) (h.set b k ++ [k']) Q := by
  simp only [WR, Eff.app, Bool.false_eq_true, false_implies, true_and]
theorem WB_true {a b} : WB P ro (.bool true) a b ks ts h Q = WC P ro a ks ts h Q := by simp [WB]
theorem WB_false {a b} : WB P ro (.bool false) a b ks ts h Q = WC P ro b ks ts h Q := by simp [WB]
theorem LQ_N {I} {n} {R} : LQ I n R .normal ts h = ∃ m, m < n ∧ I m ts h := rfl
theorem LQ_X {I} {n} {R} {id} : LQ I n R (.exit id) ts h = R (.exit id) ts h := rfl
theorem LQ_R {I} {n} {R} : LQ I n R .ret ts h = R .ret ts h := rfl
theorem FQ_N {rs} {R} : FQ rs R .normal ts h = FRes (resAll rs ts h) h R := by
  simp only [FQ, FRes, Ex.leaves, true_and]
  cases resAll rs ts h <;> simp
theorem FQ_R {rs} {R} : FQ rs R .ret ts h = FRes (resAll rs ts h) h R := by
  simp only [FQ, FRes, Ex.leaves, true_and]
  cases resAll rs ts h <;> simp
theorem FR_some {v} {R} : FRes (some v) h R = R v h := rfl

/-- A LOOP, by what holds at its head. -/
theorem WL.inv (hmix : P.follows .mixedOrders = true) {a} (I : Nat → TS → AHeap → Prop) (n : Nat) (h0 : I n ts h)
    (step : ∀ (n : Nat) (ts : TS) (h : AHeap), I n ts h → WC P ro a [] ts h (LQ I n (fun e ts h => WE P ro e ks ts h Q))) : WL P ro a ks ts h Q := by
  have key : ∀ (k n : Nat) (ts : TS) (h : AHeap), n ≤ k → I n ts h → ∃ e ts' h', (∀ r, ro r → LoopR P r a ts h e ts' h') ∧ kq P ro ks Q e ts' h' := by
    intro k
    induction k with
    | zero =>
      intro n ts h hn hi
      obtain ⟨e, ts', h', h1, h2⟩ := W.sound hmix (step n ts h hi)
      cases e with
      | normal => obtain ⟨m, hm, _⟩ := h2; omega
      | exit id => exact ⟨_, ts', h', fun r hr => .out (h1 r hr) (by simp), h2⟩
      | ret => exact ⟨_, ts', h', fun r hr => .out (h1 r hr) (by simp), h2⟩
    | succ k ih =>
      intro n ts h hn hi
      obtain ⟨e, ts', h', h1, h2⟩ := W.sound hmix (step n ts h hi)
      cases e with
      | normal =>
        obtain ⟨m, hm, hi'⟩ := h2
        obtain ⟨e2, ts2, h3, h4, h5⟩ := ih m ts' h' (by omega) hi'
        exact ⟨e2, ts2, h3, fun r hr => .more (h1 r hr) (h4 r hr), h5⟩
      | exit id => exact ⟨_, ts', h', fun r hr => .out (h1 r hr) (by simp), h2⟩
      | ret => exact ⟨_, ts', h', fun r hr => .out (h1 r hr) (by simp), h2⟩
  exact key n n ts h (Nat.le_refl _) h0

/-- What a call comes to: its heap goes on the old one. -/
def RCall (P : Program) (f : FuncId) (args : List AV) (h : AHeap) (R : AV → AHeap → Prop) : Prop := ∃ v g, SCall P f args h v (h ++ g) ∧ R v (h ++ g)
/-- What a call of a value comes to. -/
def VCall (P : Program) (fv : AV) (args : List AV) (h : AHeap) (R : AV → AHeap → Prop) : Prop := ∃ v g, SCallV P fv args h v (h ++ g) ∧ R v (h ++ g)
/-- The same without a word on the heap. -/
def GCall (P : Program) (f : FuncId) (args : List AV) (h : AHeap) (R : AV → AHeap → Prop) : Prop := ∃ v h', SCall P f args h v h' ∧ R v h'

theorem GCall.of (hmix : P.follows .mixedOrders = true) {f} {A} (hA : compileFn P f = some A) {args} {R}
    (H : WC P inFn A.body [] (startTS A.nt args) h (FQ A.rs R)) : GCall P f args h R := by
  obtain ⟨e, ts', h', h1, h2, v, h3, h4⟩ := W.sound hmix H
  exact ⟨v, h', .of_ev hA (h1 none rfl) h2 h3, h4⟩

theorem RCall.of (hmix : P.follows .mixedOrders = true) {f} {A} (hA : compileFn P f = some A) {args} {R}
    (H : WC P inFn A.body [] (startTS A.nt args) h (FQ A.rs (fun v h' => Ext h h' ∧ R v h'))) : RCall P f args h R := by
  obtain ⟨v, h', h1, ⟨g, rfl⟩, h3⟩ := GCall.of hmix hA H
  exact ⟨v, g, h1, h3⟩

theorem VCall.of {f} {A} (hA : compileFn P f = some A) {a c args} {R} (H : RCall P f (a ++ args ++ c) h R) : VCall P (.func (.func f) a c) args h R := by
  obtain ⟨v, g, h1, h2⟩ := H
  exact ⟨v, g, .of_call hA h1, h2⟩

/-- A call in its place. -/
theorem WF.val {q} {fv} {args} {d} {l} {R} (H : VCall P fv args h R) (K : ∀ v g, R v (h ++ g) → WP P ro l ks (put ts d v) (h ++ g) Q) : WF P ro q fv args d l ks ts h Q := by
  obtain ⟨v, g, h1, h2⟩ := H
  exact ⟨v, h ++ g, h1, fun _ => ⟨g, rfl⟩, K v g h2⟩
theorem WF.res {q} {f} {A} (hA : compileFn P f = some A) {a c args} {d} {l} {R} (H : RCall P f (a ++ args ++ c) h R) (K : ∀ v g, R v (h ++ g) → WP P ro l ks (put ts d v) (h ++ g) Q) : WF P ro q (.func (.func f) a c) args d l ks ts h Q :=
  WF.val (VCall.of hA H) K
theorem WF.gen {f} {A} (hA : compileFn P f = some A) {a c args} {d} {l} {R} (H : GCall P f (a ++ args ++ c) h R) (K : ∀ v h', R v h' → WP P ro l ks (put ts d v) h' Q) : WF P ro false (.func (.func f) a c) args d l ks ts h Q := by
  obtain ⟨v, h', h1, h2⟩ := H
  exact ⟨v, h', .of_call hA h1, (fun hq => absurd hq (by simp)), K v h' h2⟩

end
end Go.Abs
namespace Go.Abs

/-- A slice that holds rows of so many cells. -/
inductive IsSl (h : AHeap) : AV → Nat → List (List AV) → Prop
  | nil {es : Nat} : IsSl h .nilSlice es []
  | mk {b o es : Nat} {cs : List (List AV)} {c : List AV} {mu tl : Bool} (hb : h[b]? = some (.cells c mu tl)) (hf : (c.drop o).take (cs.length * es) = cs.flatten) (ho : o + cs.length * es ≤ c.length)
      (he : ∀ x ∈ cs, x.length = es) : IsSl h (.slice b o cs.length es) es cs

/-- A slice of a block of its own, that no one else writes. -/
inductive Fr (N : Nat) (h : AHeap) : AV → Nat → List (List AV) → Prop
  | nil {es : Nat} : Fr N h .nilSlice es []
  | mk {b es : Nat} {cs : List (List AV)} {tl : Bool} (hN : N ≤ b) (hb : h[b]? = some (.cells cs.flatten true tl)) (he : ∀ x ∈ cs, x.length = es) : Fr N h (.slice b 0 cs.length es) es cs

def AV.sb : AV → Nat
  | .slice b _ _ _ => b
  | _ => 0
def AV.so : AV → Nat
  | .slice _ o _ _ => o
  | _ => 0

theorem flatten_len {es : Nat} : ∀ {cs : List (List AV)}, (∀ x ∈ cs, x.length = es) → cs.flatten.length = cs.length * es
  | [], _ => by simp
  | x :: xs, he => by
    have h1 := he x (by simp)
    have h2 := flatten_len (cs := xs) (fun y hy => he y (List.mem_cons_of_mem _ hy))
    simp only [List.flatten_cons, List.length_append, List.length_cons, h1, h2, Nat.succ_mul]
    omega

theorem flatten_row {es : Nat} : ∀ {cs : List (List AV)}, (∀ x ∈ cs, x.length = es) → ∀ {i : Nat} (hi : i < cs.length), (cs.flatten.drop (i * es)).take es = cs[i]
  | [], _, i, hi => by simp at hi
  | x :: xs, he, 0, _ => by
    have h1 := he x (by simp)
    simp [← h1]
  | x :: xs, he, i + 1, hi => by
    have h1 := he x (by simp)
    have h2 := flatten_row (cs := xs) (fun y hy => he y (List.mem_cons_of_mem _ hy)) (i := i) (by simpa using hi)
    simp only [List.flatten_cons, List.getElem_cons_succ, ← h2]
    congr 1
    rw [Nat.succ_mul, Nat.add_comm, ← h1, List.drop_append]
    simp

theorem Fr.isSl {N : Nat} {h : AHeap} {s : AV} {es : Nat} {cs : List (List AV)} (hs : Fr N h s es cs) : IsSl h s es cs := by
  cases hs with
  | nil => exact .nil
  | mk hN hb he =>
    have hl := flatten_len he
    exact .mk hb (by rw [List.drop_zero, ← hl, List.take_length]) (by omega) he

section
variable {h k : AHeap} {s : AV} {es : Nat} {cs : List (List AV)}

theorem IsSl.keep (hs : IsSl h s es cs) (hk : ∀ b, b < h.length → (∀ b0 o n e, s = .slice b0 o n e → b = b0) → k[b]? = h[b]?) : IsSl k s es cs := by
  cases hs with
  | nil => exact .nil
  | mk hb hf ho he =>
    refine .mk ((hk _ (List.getElem?_eq_some_iff.1 hb).1 fun b0 o n e hx => ?_).trans hb) hf ho he
    cases hx; rfl

theorem IsSl.ext (hs : IsSl h s es cs) (e : Ext h k) : IsSl k s es cs := hs.keep fun _ hb _ => e.get hb
theorem Fr.keep {N} (hs : Fr N h s es cs) (hk : ∀ b, b < h.length → (∀ b0 o n e, s = .slice b0 o n e → b = b0) → k[b]? = h[b]?) : Fr N k s es cs := by
  cases hs with
  | nil => exact .nil
  | mk hN hb he =>
    refine .mk hN ((hk _ (List.getElem?_eq_some_iff.1 hb).1 fun b0 o n e hx => ?_).trans hb) he
    cases hx; rfl
theorem Fr.ext {N} (hs : Fr N h s es cs) (e : Ext h k) : Fr N k s es cs := hs.keep fun _ hb _ => e.get hb
theorem Fr.app {N} (hs : Fr N h s es cs) (g : AHeap) : Fr N (h ++ g) s es cs := hs.ext ⟨g, rfl⟩
theorem IsSl.rows (hs : IsSl h s es cs) : ∀ x ∈ cs, x.length = es := by
  cases hs with
  | nil => simp
  | mk hb hf ho he => exact he

theorem IsSl.lenG (hs : IsSl h s es cs) (G : Nat → Option ABlk) : lenG .sl G s = some cs.length := by
  cases hs <;> rfl
theorem IsSl.one (hs : IsSl h s es cs) : s.one = true := by
  cases hs <;> rfl
theorem IsSl.cells (hs : IsSl h s es cs) : s.cells = [s] := by
  cases hs <;> rfl
theorem IsSl.cellsG (hs : IsSl h s es cs) : cellsG es (fun b => h[b]?) s = some (cs.flatten, cs.length) := by
  cases hs with
  | nil => rfl
  | mk hb hf ho he => simp only [Go.Abs.cellsG, if_true, hb]; rw [if_pos ho, hf]

def iadrF (es : Nat) (x i : AV) : Option (AV × Eff) :=
  match x, i with
  | .slice b o n es', .int _ i => if es' = es ∧ 0 ≤ i ∧ i < n then some (.ptr b (o + i.toNat * es), .keep) else none
  | _, _ => none
def loadF (n : Option Nat) (a : AV) (G : Nat → Option ABlk) : Option (AV × Eff) :=
  match a with
  | .ptr b o =>
    match G b with
    | some (.cells c _ _) =>
      match n with
      | none =>
        match c[o]? with
        | some x => some (x, .keep)
        | none => none
      | some n => if o + n ≤ c.length then some (.agg ((c.drop o).take n), .keep) else none
    | _ => none
  | _ => none
def slF (es : Nat) (x : AV) (lo hi : Option AV) : Option (AV × Eff) :=
  match x with
  | .slice b o n es' =>
    if es' = es then
      match bnds lo hi n with
      | some (l, h') => some (.slice b (o + l * es) (h' - l) es, .keep)
      | none => none
    else none
  | .nilSlice =>
    match bnds lo hi 0 with
    | some _ => some (.nilSlice, .keep)
    | none => none
  | _ => none

theorem IsSl.iadr (hs : IsSl h s es cs) {i : Int} {k : IntKind} (h0 : 0 ≤ i) (h1 : i < cs.length) : iadrF es s (.int k i) = some (.ptr s.sb (s.so + i.toNat * es), .keep) := by
  cases hs with
  | nil => simp at h1; omega
  | mk hb hf ho he => show (if es = es ∧ 0 ≤ i ∧ i < cs.length then _ else none) = _; rw [if_pos ⟨rfl, h0, h1⟩]; rfl

theorem IsSl.loadf (hs : IsSl h s es cs) {i off : Nat} (hi : i < cs.length) {x : AV} (hx : cs[i][off]? = some x) : loadF none (.ptr s.sb (s.so + i * es + off)) (fun b => h[b]?) = some (x, .keep) := by
  cases hs with
  | nil => simp at hi
  | @mk b o es cs c mu tl hb hf ho he =>
    have hle : i * es + es ≤ cs.length * es := by rw [← Nat.succ_mul]; exact Nat.mul_le_mul_right _ hi
    have h1 := flatten_row he hi
    have h2 := he _ (List.getElem_mem hi)
    have h3 := (List.getElem?_eq_some_iff.1 hx).1
    rw [← h1, ← hf, List.drop_take, List.take_take, List.drop_drop, Nat.min_eq_left (by omega), List.getElem?_take] at hx
    rw [if_pos (by omega), List.getElem?_drop] at hx
    show loadF none (.ptr b (o + i * es + off)) (fun b => h[b]?) = _
    simp only [loadF, hb, hx]

theorem IsSl.load1 (hs : IsSl h s 1 cs) {i} (hi : i < cs.length) {x} (hx : cs[i] = [x]) : loadF none (.ptr s.sb (s.so + i * 1)) (fun b => h[b]?) = some (x, .keep) :=
  hs.loadf (off := 0) hi (by rw [hx]; rfl)

theorem IsSl.sl (hs : IsSl h s es cs) {lo hi} {l u} (hb : bnds lo hi cs.length = some (l, u)) : ∃ s', slF es s lo hi = some (s', .keep) ∧ IsSl h s' es ((cs.drop l).take (u - l)) := by
  have hlu : l ≤ u ∧ u ≤ cs.length := by
    unfold bnds at hb
    split at hb
    case h_2 => cases hb
    split at hb
    case isFalse => cases hb
    cases hb; omega
  cases hs with
  | nil =>
    simp only [List.length_nil] at hb
    exact ⟨.nilSlice, by simp only [slF, hb], by simp; exact .nil⟩
  | @mk b o es cs c mu tl hbk hf ho he =>
    have hlen : ((cs.drop l).take (u - l)).length = u - l := by simp; omega
    refine ⟨.slice b (o + l * es) (u - l) es, by simp only [slF, if_true, hb], ?_⟩
    have hul : (u - l) * es + l * es = u * es := by rw [← Nat.add_mul]; congr 1; omega
    have hu : u * es ≤ cs.length * es := Nat.mul_le_mul_right _ hlu.2
    have : IsSl h (.slice b (o + l * es) ((cs.drop l).take (u - l)).length es) es ((cs.drop l).take (u - l)) := by
      refine .mk hbk ?_ (by rw [hlen]; omega) fun x hx => he x (List.mem_of_mem_drop (List.mem_of_mem_take hx))
      rw [hlen]
      have hsplit : ∀ (cs : List (List AV)) (l n : Nat), (∀ x ∈ cs, x.length = es) → l + n ≤ cs.length → ((cs.drop l).take n).flatten = (cs.flatten.drop (l * es)).take (n * es) := by
        intro cs
        induction cs with
        | nil => intro l n _ _; simp
        | cons x xs ih =>
          intro l n hx hln
          have h1 := hx x (by simp)
          have h2 : ∀ y ∈ xs, y.length = es := fun y hy => hx y (List.mem_cons_of_mem _ hy)
          cases l with
          | succ l =>
            rw [List.drop_succ_cons, ih l n h2 (by simp at hln; omega), List.flatten_cons, show (l + 1) * es = x.length + l * es from by rw [h1, Nat.succ_mul, Nat.add_comm], ← List.drop_drop, List.drop_left]
          | zero =>
            cases n with
            | zero => simp
            | succ n =>
              have := ih 0 n h2 (by simp at hln; omega)
              simp only [List.drop_zero, Nat.zero_mul] at this ⊢
              rw [List.take_succ_cons, List.flatten_cons, this, List.flatten_cons, List.take_append, Nat.succ_mul, List.take_of_length_le (l := x) (by omega), h1]
              simp
      rw [hsplit cs l (u - l) he (by omega), ← hf, List.drop_take, List.take_take, List.drop_drop, Nat.min_eq_left (by rw [Nat.sub_mul] at hul ⊢; omega)]
    rw [hlen] at this
    exact this

theorem Fr.push {N} (hN : N ≤ h.length) (cs : List (List AV)) (he : ∀ x ∈ cs, x.length = es) : Fr N (h ++ [.cells cs.flatten true true]) (.slice h.length 0 cs.length es) es cs :=
  .mk (tl := true) hN (by simp) he

end
end Go.Abs
namespace Go.Abs

section
variable (P : Program) (ro : Option Nat → Prop)
/-- What an operation came to that leaves the heap. -/
def WV (r : Option AV) (dst : Option Nat) (l : List IOp) (ks : List Kt) (ts : TS) (h : AHeap) (Q : Ex → TS → AHeap → Prop) : Prop :=
  match r with
  | some v => WP P ro l ks (put ts dst v) h Q
  | none => False
end

def pickF (c a b : AV) : Option AV :=
  match c with
  | .bool t => some (if t then a else b)
  | _ => none
def boxnF (n : Nat) (x : AV) (N0 : Nat) : Option (AV × Eff) := if x.cells.all AV.one = true ∧ x.cells.length = n then some (.ptr N0 0, .push (.cells x.cells true false)) else none
def boxF (x : AV) (N0 : Nat) : Option (AV × Eff) := if x.cells.all AV.one then some (.ptr N0 0, .push (.cells x.cells true false)) else none
def storeF (n : Nat) (a x : AV) (G : Nat → Option ABlk) : Option (AV × Eff) :=
  match a with
  | .ptr b o =>
    match G b with
    | some (.cells c true tl) =>
      if x.cells.length = n ∧ x.cells.all AV.one = true ∧ o + n ≤ c.length then some (undefA, .set b (.cells (setL c o x.cells) true tl)) else none
    | _ => none
  | _ => none
def nilF (x : AV) : Option AV :=
  match x with
  | .ptr b o => some (.ptr b o)
  | .func (.func f) a c => some (.func (.func f) a c)
  | .func (.yield f) a c => some (.func (.yield f) a c)
  | .func (.methodOf t n) a c => some (.func (.methodOf t n) a c)
  | .func (.via t p f q) a c => some (.func (.via t p f q) a c)
  | _ => none
def mkslF (es w : Nat) (z : List AV) (l c : AV) (N0 : Nat) : Option (AV × Eff) :=
  match l, c with
  | .int _ l, .int _ c =>
    if 0 ≤ l ∧ l ≤ c ∧ (w : Int) * c ≤ 2 ^ 48 ∧ c < 2 ^ 63 then some (.slice N0 0 l.toNat es, .push (.cells (zrep l.toNat z) true true)) else none
  | _, _ => none
def slsF (x : AV) (lo hi : Option AV) : Option AV :=
  match x with
  | .str s =>
    match bnds lo hi s.length with
    | some (l, h') => some (.str ((s.drop l).take (h' - l)))
    | none => none
  | _ => none
def fadrF (off : Nat) (x : AV) : Option AV :=
  match x with
  | .ptr b o => some (.ptr b (o + off))
  | _ => none
def iadaF (len es : Nat) (x i : AV) : Option AV :=
  match x, i with
  | .ptr b o, .int _ i => if 0 ≤ i ∧ i < len then some (.ptr b (o + i.toNat * es)) else none
  | _, _ => none
def partF (n : Option Nat) (off : Nat) (x : AV) : Option AV :=
  match x with
  | .agg cs =>
    match n with
    | none => cs[off]?
    | some n => some (.agg ((cs.drop off).take n))
  | _ => none
def ixaF (len es : Nat) (n : Option Nat) (x i : AV) : Option AV :=
  match x, i with
  | .agg cs, .int _ i =>
    if 0 ≤ i ∧ i < len then
      match n with
      | none => cs[i.toNat * es]?
      | some n => some (.agg ((cs.drop (i.toNat * es)).take n))
    else none
  | _, _ => none
def ixsF (x i : AV) : Option AV :=
  match x, i with
  | .str s, .int _ i =>
    if 0 ≤ i then
      match s[i.toNat]? with
      | some b => some (.int .u8 b.toNat)
      | none => none
    else none
  | _, _ => none
def extF (x : AV) (i : Nat) : Option AV :=
  match x with
  | .tup l => l[i]?
  | _ => none
def lenF (o : Option Nat) : Option AV :=
  match o with
  | some n => some (.int .i64 n)
  | none => none
def eqvF (neg : Bool) (o : Option Bool) : Option AV :=
  match o with
  | some b => some (.bool (if neg then !b else b))
  | none => none
def buildF (o : Option (List AV)) : Option AV :=
  match o with
  | some c => some (.agg c)
  | none => none
def bslF (es n : Nat) (o : Option (List AV)) (N0 : Nat) : Option (AV × Eff) :=
  match o with
  | some c => if c.all AV.one = true ∧ c.length = n * es then some (.slice N0 0 n es, .push (.cells c true (!Nat.beq n 0))) else none
  | none => none

section
variable {P : Program} {ro : Option Nat → Prop} {ks : List Kt} {ts : TS} {h : AHeap} {Q : Ex → TS → AHeap → Prop} {d : Option Nat} {q : Bool} {l : List IOp}

theorem WR_of {r} {r'} (hr : r = r'.map fun v => (v, .keep)) : WR P ro r q d l ks ts h Q = WV P ro r' d l ks ts h Q := by
  subst hr
  cases r' with
  | none => rfl
  | some v => exact WR_keep

theorem WV_some {v} : WV P ro (some v) d l ks ts h Q = WP P ro l ks (put ts d v) h Q := rfl
theorem WP_mov {x} : WP P ro ({ dst := d, k := .mov x, gd := none, q := q } :: l) ks ts h Q = WP P ro l ks (put ts d (val ts x)) h Q := WR_keep
theorem WP_pick {c a b} : WP P ro ({ dst := d, k := .pick c a b, gd := none, q := q } :: l) ks ts h Q = WV P ro (pickF (val ts c) (val ts a) (val ts b)) d l ks ts h Q := by
  rw [WP_op (by simp) (by simp)]
  refine WR_of ?_
  simp only [stepT, fnT, pickF]
  cases val ts c <;> rfl
theorem WP_box {x} : WP P ro ({ dst := d, k := .box x, gd := none, q := q } :: l) ks ts h Q = WR P ro (boxF (val ts x) h.length) q d l ks ts h Q := rfl
theorem WP_boxn {n i} {x} : WP P ro ({ dst := some i, k := .boxn n x, gd := none, q := q } :: l) ks ts h Q = (i < ts.length ∧ WR P ro (boxnF n (val ts x) h.length) q (some i) l ks ts h Q) := rfl
theorem WP_build {z} {ps} : WP P ro ({ dst := d, k := .build z ps, gd := none, q := q } :: l) ks ts h Q = WV P ro (buildF (fillA z (ps.map fun p => (p.1, p.2.1, val ts p.2.2)))) d l ks ts h Q := by
  rw [WP_op (by simp) (by simp)]
  refine WR_of ?_
  simp only [stepT, fnT, buildF]
  cases fillA z (ps.map fun p => (p.1, p.2.1, val ts p.2.2)) <;> rfl
theorem WP_bslice {es n} {z} {ps} : WP P ro ({ dst := d, k := .bslice es n z ps, gd := none, q := q } :: l) ks ts h Q = WR P ro (bslF es n (fillA (zrep n z) (ps.map fun p => (p.1, es, val ts p.2))) h.length) q d l ks ts h Q := rfl
theorem WP_load {n} {a} : WP P ro ({ dst := d, k := .load n a, gd := none, q := q } :: l) ks ts h Q = WR P ro (loadF n (val ts a) (fun b => h[b]?)) q d l ks ts h Q := rfl
theorem WP_store {n} {a x} : WP P ro ({ dst := d, k := .store n a x, gd := none, q := q } :: l) ks ts h Q = WR P ro (storeF n (val ts a) (val ts x) (fun b => h[b]?)) q d l ks ts h Q := rfl
theorem WP_nilchk {x} : WP P ro ({ dst := d, k := .nilchk x, gd := none, q := q } :: l) ks ts h Q = WV P ro (nilF (val ts x)) d l ks ts h Q := by
  rw [WP_op (by simp) (by simp)]
  refine WR_of ?_
  simp only [stepT, fnT, nilF]
  cases val ts x with
  | func f a c => cases f <;> rfl
  | _ => rfl
theorem WP_bin {op} {x y} : WP P ro ({ dst := d, k := .bin op x y, gd := none, q := q } :: l) ks ts h Q = WV P ro (binK op (val ts x) (val ts y)) d l ks ts h Q := by
  rw [WP_op (by simp) (by simp)]
  refine WR_of ?_
  simp only [stepT, fnT]
  cases binK op (val ts x) (val ts y) <;> rfl
theorem WP_eqv {neg} {t} {x y} : WP P ro ({ dst := d, k := .eqv neg t x y, gd := none, q := q } :: l) ks ts h Q = WV P ro (eqvF neg (eqvK t (val ts x) (val ts y))) d l ks ts h Q := by
  rw [WP_op (by simp) (by simp)]
  refine WR_of ?_
  simp only [stepT, fnT, eqvF]
  cases eqvK t (val ts x) (val ts y) <;> rfl
theorem WP_un {op} {x} : WP P ro ({ dst := d, k := .un op x, gd := none, q := q } :: l) ks ts h Q = WV P ro (unK op (val ts x)) d l ks ts h Q := by
  rw [WP_op (by simp) (by simp)]
  refine WR_of ?_
  simp only [stepT, fnT]
  cases unK op (val ts x) <;> rfl
theorem WP_conv {k} {x} : WP P ro ({ dst := d, k := .conv k x, gd := none, q := q } :: l) ks ts h Q = WR P ro (convT k (val ts x) (fun b => h[b]?) h.length) q d l ks ts h Q := rfl
theorem WP_mkfn {f} {a c} : WP P ro ({ dst := d, k := .mkfn f a c, gd := none, q := q } :: l) ks ts h Q = WP P ro l ks (put ts d (.func f (a.map (val ts)) (c.map (val ts)))) h Q := WR_keep
theorem WP_mkmap : WP P ro ({ dst := d, k := .mkmap, gd := none, q := q } :: l) ks ts h Q = WP P ro l ks (put ts d (.map h.length)) (h ++ [.mapb []]) Q := WR_push
theorem WP_mksl {es w} {z} {a c} : WP P ro ({ dst := d, k := .mksl es w z a c, gd := none, q := q } :: l) ks ts h Q = WR P ro (mkslF es w z (val ts a) (val ts c) h.length) q d l ks ts h Q := rfl
theorem WP_sl {es} {x} {lo hi} : WP P ro ({ dst := d, k := .sl es x lo hi, gd := none, q := q } :: l) ks ts h Q = WR P ro (slF es (val ts x) (lo.map (val ts)) (hi.map (val ts))) q d l ks ts h Q := rfl
theorem WP_sls {x} {lo hi} : WP P ro ({ dst := d, k := .sls x lo hi, gd := none, q := q } :: l) ks ts h Q = WV P ro (slsF (val ts x) (lo.map (val ts)) (hi.map (val ts))) d l ks ts h Q := by
  rw [WP_op (by simp) (by simp)]
  refine WR_of ?_
  simp only [stepT, fnT, slsF]
  cases val ts x with
  | str s => simp only; cases bnds (Option.map (val ts) lo) (Option.map (val ts) hi) s.length <;> rfl
  | _ => rfl
theorem WP_fadr {off} {x} : WP P ro ({ dst := d, k := .fadr off x, gd := none, q := q } :: l) ks ts h Q = WV P ro (fadrF off (val ts x)) d l ks ts h Q := by
  rw [WP_op (by simp) (by simp)]
  refine WR_of ?_
  simp only [stepT, fnT, fadrF]
  cases val ts x <;> rfl
theorem WP_iadr {es} {x i} : WP P ro ({ dst := d, k := .iadr es x i, gd := none, q := q } :: l) ks ts h Q = WR P ro (iadrF es (val ts x) (val ts i)) q d l ks ts h Q := rfl
theorem WP_iada {len es} {x i} : WP P ro ({ dst := d, k := .iada len es x i, gd := none, q := q } :: l) ks ts h Q = WV P ro (iadaF len es (val ts x) (val ts i)) d l ks ts h Q := by
  rw [WP_op (by simp) (by simp)]
  refine WR_of ?_
  simp only [stepT, fnT, iadaF]
  cases val ts x with
  | ptr b o => cases val ts i <;> first | rfl | (simp only; split <;> rfl)
  | _ => rfl
theorem WP_part {n} {off} {x} : WP P ro ({ dst := d, k := .part n off x, gd := none, q := q } :: l) ks ts h Q = WV P ro (partF n off (val ts x)) d l ks ts h Q := by
  rw [WP_op (by simp) (by simp)]
  refine WR_of ?_
  simp only [stepT, fnT, partF]
  cases val ts x with
  | agg cs => cases n <;> first | rfl | (simp only; cases cs[off]? <;> rfl)
  | _ => rfl
theorem WP_ixa {len es} {n} {x i} : WP P ro ({ dst := d, k := .ixa len es n x i, gd := none, q := q } :: l) ks ts h Q = WV P ro (ixaF len es n (val ts x) (val ts i)) d l ks ts h Q := by
  rw [WP_op (by simp) (by simp)]
  refine WR_of ?_
  simp only [stepT, fnT, ixaF]
  cases val ts x with
  | agg cs =>
    cases val ts i with
    | int k j =>
      simp only
      split
      · cases n <;> first | rfl | (simp only; cases cs[j.toNat * es]? <;> rfl)
      · rfl
    | _ => rfl
  | _ => rfl
theorem WP_ixs {x i} : WP P ro ({ dst := d, k := .ixs x i, gd := none, q := q } :: l) ks ts h Q = WV P ro (ixsF (val ts x) (val ts i)) d l ks ts h Q := by
  rw [WP_op (by simp) (by simp)]
  refine WR_of ?_
  simp only [stepT, fnT, ixsF]
  cases val ts x with
  | str s =>
    cases val ts i with
    | int k j =>
      simp only
      split
      · cases s[j.toNat]? <;> rfl
      · rfl
    | _ => rfl
  | _ => rfl
theorem WP_look {kk} {z} {ok} {m k} : WP P ro ({ dst := d, k := .look kk z ok m k, gd := none, q := q } :: l) ks ts h Q = WR P ro (stepT (.look kk z ok m k) (val ts) (fun b => h[b]?) h.length) q d l ks ts h Q := rfl
theorem WP_mupd {kk} {m k x} : WP P ro ({ dst := d, k := .mupd kk m k x, gd := none, q := q } :: l) ks ts h Q = WR P ro (stepT (.mupd kk m k x) (val ts) (fun b => h[b]?) h.length) q d l ks ts h Q := rfl
theorem WP_nexts {x} : WP P ro ({ dst := d, k := .nexts x, gd := none, q := q } :: l) ks ts h Q = WR P ro (stepT (.nexts x) (val ts) (fun b => h[b]?) h.length) q d l ks ts h Q := rfl
theorem WP_ext {x} {i} : WP P ro ({ dst := d, k := .ext x i, gd := none, q := q } :: l) ks ts h Q = WV P ro (extF (val ts x) i) d l ks ts h Q := by
  rw [WP_op (by simp) (by simp)]
  refine WR_of ?_
  simp only [stepT, fnT, extF]
  cases val ts x with
  | tup cs => simp only; cases cs[i]? <;> rfl
  | _ => rfl
theorem WP_len {lk} {x} : WP P ro ({ dst := d, k := .len lk x, gd := none, q := q } :: l) ks ts h Q = WV P ro (lenF (lenG lk (fun b => h[b]?) (val ts x))) d l ks ts h Q := by
  rw [WP_op (by simp) (by simp)]
  refine WR_of ?_
  simp only [stepT, fnT, lenF]
  cases lenG lk (fun b => h[b]?) (val ts x) <;> rfl
theorem WP_lenc {n} : WP P ro ({ dst := d, k := .lenc n, gd := none, q := q } :: l) ks ts h Q = WP P ro l ks (put ts d (.int .i64 n)) h Q := WR_keep
theorem WP_app {es w} {x y} : WP P ro ({ dst := d, k := .app es w x y, gd := none, q := q } :: l) ks ts h Q = WR P ro (appT es w (val ts x) (val ts y) (fun b => h[b]?) h.length) q d l ks ts h Q := rfl
theorem WP_cpy {es} {x y} : WP P ro ({ dst := d, k := .cpy es x y, gd := none, q := q } :: l) ks ts h Q = WR P ro (stepT (.cpy es x y) (val ts) (fun b => h[b]?) h.length) q d l ks ts h Q := rfl
theorem WP_mx {x} {m} : WP P ro ({ dst := d, k := .mx x m, gd := none, q := q } :: l) ks ts h Q = WV P ro (foldA max2A (val ts x) (m.map (val ts))) d l ks ts h Q := by
  rw [WP_op (by simp) (by simp)]
  refine WR_of ?_
  simp only [stepT, fnT]
  cases foldA max2A (val ts x) (m.map (val ts)) <;> rfl
theorem WP_mn {x} {m} : WP P ro ({ dst := d, k := .mn x m, gd := none, q := q } :: l) ks ts h Q = WV P ro (foldA min2A (val ts x) (m.map (val ts))) d l ks ts h Q := by
  rw [WP_op (by simp) (by simp)]
  refine WR_of ?_
  simp only [stepT, fnT]
  cases foldA min2A (val ts x) (m.map (val ts)) <;> rfl

theorem bin_add {k} {a b} : binK .add (.int k a) (.int k b) = some (.int k (k.wrap (a + b))) := by simp [binK, isShift, intBin]
theorem bin_sub {k} {a b} : binK .sub (.int k a) (.int k b) = some (.int k (k.wrap (a - b))) := by simp [binK, isShift, intBin]
theorem bin_mul {k} {a b} : binK .mul (.int k a) (.int k b) = some (.int k (k.wrap (a * b))) := by simp [binK, isShift, intBin]
theorem bin_quo {k} {a b} (hb : b ≠ 0) : binK .quo (.int k a) (.int k b) = some (.int k (k.wrap (a.tdiv b))) := by simp [binK, isShift, intBin, hb]
theorem bin_rem {k} {a b} (hb : b ≠ 0) : binK .rem (.int k a) (.int k b) = some (.int k (a.tmod b)) := by simp [binK, isShift, intBin, hb]
theorem bin_eql {k} {a b} : binK .eql (.int k a) (.int k b) = some (.bool (decide (a = b))) := by simp [binK, isShift, intBin]; rfl
theorem bin_neq {k} {a b} : binK .neq (.int k a) (.int k b) = some (.bool (decide (a ≠ b))) := by
  simp only [binK, isShift, intBin, if_true, Bool.false_eq_true, if_false, Option.some.injEq, AV.bool.injEq]
  by_cases hab : a = b <;> simp [hab]
theorem bin_lss {k} {a b} : binK .lss (.int k a) (.int k b) = some (.bool (decide (a < b))) := by simp [binK, isShift, intBin]
theorem bin_leq {k} {a b} : binK .leq (.int k a) (.int k b) = some (.bool (decide (a ≤ b))) := by simp [binK, isShift, intBin]
theorem bin_gtr {k} {a b} : binK .gtr (.int k a) (.int k b) = some (.bool (decide (b < a))) := by simp [binK, isShift, intBin]
theorem bin_geq {k} {a b} : binK .geq (.int k a) (.int k b) = some (.bool (decide (b ≤ a))) := by simp [binK, isShift, intBin]
theorem bin_cat {x y} (hl : x.length + y.length < 2 ^ 62) : binK .add (.str x) (.str y) = some (.str (x ++ y)) := by simp only [binK, strBin, if_pos hl]
theorem bin_seql {x y} : binK .eql (.str x) (.str y) = some (.bool (decide (x = y))) := by
  simp only [binK, strBin, Option.some.injEq, AV.bool.injEq]
  by_cases hab : x = y <;> simp [hab]
theorem bin_sneq {x y} : binK .neq (.str x) (.str y) = some (.bool (decide (x ≠ y))) := by
  simp only [binK, strBin, Option.some.injEq, AV.bool.injEq]
  by_cases hab : x = y <;> simp [hab]
theorem un_not {b} : unK .not (.bool b) = some (.bool !b) := rfl
theorem un_neg {k} {a} : unK .neg (.int k a) = some (.int k (k.wrap (0 - a))) := rfl
theorem mx_2 {k} {a b} : foldA max2A (.int k a) [.int k b] = some (.int k (max a b)) := by
  simp only [foldA, max2A, if_true, Option.some.injEq, AV.int.injEq, true_and]
  omega
theorem mn_2 {k} {a b} : foldA min2A (.int k a) [.int k b] = some (.int k (min a b)) := by
  simp only [foldA, min2A, if_true, Option.some.injEq, AV.int.injEq, true_and]
  omega
theorem wrap_in {n} (h1 : -9223372036854775808 ≤ n) (h2 : n ≤ 9223372036854775807) : IntKind.i64.wrap n = n := by
  simp only [IntKind.wrap, IntKind.signed, IntKind.bits, Bool.true_and, decide_eq_true_eq, show (64 - 1 : Nat) = 63 from rfl]
  split <;> omega

end
end Go.Abs
namespace Go.Abs
theorem A2 {a b : Prop} (xa : a) (xb : b) : a ∧ b := ⟨xa, xb⟩
theorem A3 {a b c : Prop} (xa : a) (xb : b) (xc : c) : a ∧ b ∧ c := ⟨xa, xb, xc⟩
theorem A4 {a b c d : Prop} (xa : a) (xb : b) (xc : c) (xd : d) : a ∧ b ∧ c ∧ d := ⟨xa, xb, xc, xd⟩
theorem A5 {a b c d e : Prop} (xa : a) (xb : b) (xc : c) (xd : d) (xe : e) : a ∧ b ∧ c ∧ d ∧ e := ⟨xa, xb, xc, xd, xe⟩
theorem A6 {a b c d e f : Prop} (xa : a) (xb : b) (xc : c) (xd : d) (xe : e) (xf : f) : a ∧ b ∧ c ∧ d ∧ e ∧ f := ⟨xa, xb, xc, xd, xe, xf⟩
theorem A7 {a b c d e f g : Prop} (xa : a) (xb : b) (xc : c) (xd : d) (xe : e) (xf : f) (xg : g) : a ∧ b ∧ c ∧ d ∧ e ∧ f ∧ g := ⟨xa, xb, xc, xd, xe, xf, xg⟩
theorem A8 {a b c d e f g h : Prop} (xa : a) (xb : b) (xc : c) (xd : d) (xe : e) (xf : f) (xg : g) (xh : h) : a ∧ b ∧ c ∧ d ∧ e ∧ f ∧ g ∧ h := ⟨xa, xb, xc, xd, xe, xf, xg, xh⟩
theorem A9 {a b c d e f g h i : Prop} (xa : a) (xb : b) (xc : c) (xd : d) (xe : e) (xf : f) (xg : g) (xh : h) (xi : i) : a ∧ b ∧ c ∧ d ∧ e ∧ f ∧ g ∧ h ∧ i := ⟨xa, xb, xc, xd, xe, xf, xg, xh, xi⟩
theorem A10 {a b c d e f g h i j : Prop} (xa : a) (xb : b) (xc : c) (xd : d) (xe : e) (xf : f) (xg : g) (xh : h) (xi : i) (xj : j) : a ∧ b ∧ c ∧ d ∧ e ∧ f ∧ g ∧ h ∧ i ∧ j := ⟨xa, xb, xc, xd, xe, xf, xg, xh, xi, xj⟩
theorem A11 {a b c d e f g h i j k : Prop} (xa : a) (xb : b) (xc : c) (xd : d) (xe : e) (xf : f) (xg : g) (xh : h) (xi : i) (xj : j) (xk : k) : a ∧ b ∧ c ∧ d ∧ e ∧ f ∧ g ∧ h ∧ i ∧ j ∧ k := ⟨xa, xb, xc, xd, xe, xf, xg, xh, xi, xj, xk⟩
theorem A14 {a b c d e f g h i j k l m n : Prop} (xa : a) (xb : b) (xc : c) (xd : d) (xe : e) (xf : f) (xg : g) (xh : h) (xi : i) (xj : j) (xk : k) (xl : l) (xm : m) (xn : n) : a ∧ b ∧ c ∧ d ∧ e ∧ f ∧ g ∧ h ∧ i ∧ j ∧ k ∧ l ∧ m ∧ n := ⟨xa, xb, xc, xd, xe, xf, xg, xh, xi, xj, xk, xl, xm, xn⟩
theorem A17 {a b c d e f g h i j k l m n o p q : Prop} (xa : a) (xb : b) (xc : c) (xd : d) (xe : e) (xf : f) (xg : g) (xh : h) (xi : i) (xj : j) (xk : k) (xl : l) (xm : m) (xn : n) (xo : o) (xp : p) (xq : q) : a ∧ b ∧ c ∧ d ∧ e ∧ f ∧ g ∧ h ∧ i ∧ j ∧ k ∧ l ∧ m ∧ n ∧ o ∧ p ∧ q := ⟨xa, xb, xc, xd, xe, xf, xg, xh, xi, xj, xk, xl, xm, xn, xo, xp, xq⟩
theorem A18 {a b c d e f g h i j k l m n o p q r : Prop} (xa : a) (xb : b) (xc : c) (xd : d) (xe : e) (xf : f) (xg : g) (xh : h) (xi : i) (xj : j) (xk : k) (xl : l) (xm : m) (xn : n) (xo : o) (xp : p) (xq : q) (xr : r) : a ∧ b ∧ c ∧ d ∧ e ∧ f ∧ g ∧ h ∧ i ∧ j ∧ k ∧ l ∧ m ∧ n ∧ o ∧ p ∧ q ∧ r := ⟨xa, xb, xc, xd, xe, xf, xg, xh, xi, xj, xk, xl, xm, xn, xo, xp, xq, xr⟩
theorem A22 {a b c d e f g h i j k l m n o p q r s t u v : Prop} (xa : a) (xb : b) (xc : c) (xd : d) (xe : e) (xf : f) (xg : g) (xh : h) (xi : i) (xj : j) (xk : k) (xl : l) (xm : m) (xn : n) (xo : o) (xp : p) (xq : q) (xr : r) (xs : s) (xt : t) (xu : u) (xv : v) : a ∧ b ∧ c ∧ d ∧ e ∧ f ∧ g ∧ h ∧ i ∧ j ∧ k ∧ l ∧ m ∧ n ∧ o ∧ p ∧ q ∧ r ∧ s ∧ t ∧ u ∧ v := ⟨xa, xb, xc, xd, xe, xf, xg, xh, xi, xj, xk, xl, xm, xn, xo, xp, xq, xr, xs, xt, xu, xv⟩
theorem A24 {a b c d e f g h i j k l m n o p q r s t u v w x : Prop} (xa : a) (xb : b) (xc : c) (xd : d) (xe : e) (xf : f) (xg : g) (xh : h) (xi : i) (xj : j) (xk : k) (xl : l) (xm : m) (xn : n) (xo : o) (xp : p) (xq : q) (xr : r) (xs : s) (xt : t) (xu : u) (xv : v) (xw : w) (xx : x) : a ∧ b ∧ c ∧ d ∧ e ∧ f ∧ g ∧ h ∧ i ∧ j ∧ k ∧ l ∧ m ∧ n ∧ o ∧ p ∧ q ∧ r ∧ s ∧ t ∧ u ∧ v ∧ w ∧ x := ⟨xa, xb, xc, xd, xe, xf, xg, xh, xi, xj, xk, xl, xm, xn, xo, xp, xq, xr, xs, xt, xu, xv, xw, xx⟩
section
variable {P : Program} {ro : Option Nat → Prop} {ks : List Kt} {ts : TS} {h : AHeap} {Q : Ex → TS → AHeap → Prop} {d : Option Nat} {q : Bool} {l : List IOp}

theorem WG_decT {k} {p : Prop} [Decidable p] : WG P ro (.bool (decide p)) true q k d l ks ts h Q = ((p → WP P ro ({ dst := d, k := k, gd := none, q := q } :: l) ks ts h Q) ∧ (¬ p → WP P ro l ks (put ts d undefA) h Q)) := by
  by_cases hp : p
  · simp only [hp, decide_true, WG_yes]; simp
  · simp only [hp, decide_false]; rw [WG_no false (by simp)]; simp
theorem WG_decF {k} {p : Prop} [Decidable p] : WG P ro (.bool (decide p)) false q k d l ks ts h Q = ((p → WP P ro l ks (put ts d undefA) h Q) ∧ (¬ p → WP P ro ({ dst := d, k := k, gd := none, q := q } :: l) ks ts h Q)) := by
  by_cases hp : p
  · simp only [hp, decide_true]; rw [WG_no true (by simp)]; simp
  · simp only [hp, decide_false, WG_yes]; simp
theorem WG_TF {k} : WG P ro (.bool true) false q k d l ks ts h Q = WP P ro l ks (put ts d undefA) h Q := WG_no true (by simp)
theorem WG_FT {k} : WG P ro (.bool false) true q k d l ks ts h Q = WP P ro l ks (put ts d undefA) h Q := WG_no false (by simp)
theorem WB_dec {a b} {p : Prop} [Decidable p] : WB P ro (.bool (decide p)) a b ks ts h Q = ((p → WC P ro a ks ts h Q) ∧ (¬ p → WC P ro b ks ts h Q)) := by
  by_cases hp : p
  · simp only [hp, decide_true, WB_true]; simp
  · simp only [hp, decide_false, WB_false]; simp
theorem pick_T {a b} : pickF (.bool true) a b = some a := rfl
theorem pick_F {a b} : pickF (.bool false) a b = some b := rfl
/-- A slot. -/
def slot (ts : TS) (i : Nat) : AV := ts.getD i undefA
theorem val_t {i} : val ts (.t i) = slot ts i := rfl
theorem val_c {v} : val ts (.c v) = v := rfl
theorem val_g {i} : val ts (.g i) = .ptr i 0 := rfl
theorem val_f {i} : val ts (.f i) = .func (.func i) [] [] := rfl
theorem put_s {i} {v} : put ts (some i) v = ts.set i v := rfl
theorem put_n {v} : put ts none v = ts := rfl
theorem slot_0 {a} {l} : slot (a :: l) 0 = a := rfl
theorem slot_s {a} {l} {n} : slot (a :: l) (n + 1) = slot l n := rfl
theorem l_lenc {a : AV} {l : List AV} : (a :: l).length = l.length + 1 := rfl
theorem l_len0 : ([] : List AV).length = 0 := rfl
theorem l_rep0 {a : AV} : List.replicate 0 a = [] := rfl
theorem l_appc {a : AV} {l m : List AV} : (a :: l) ++ m = a :: (l ++ m) := rfl
theorem l_app0 {m : List AV} : [] ++ m = m := rfl
theorem l_set0 {a b : AV} {l : List AV} : (a :: l).set 0 b = b :: l := rfl
theorem l_sets {a b : AV} {l : List AV} {n : Nat} : (a :: l).set (n + 1) b = a :: l.set n b := rfl
theorem l_map0 {f : Opd → AV} : List.map f [] = [] := rfl
theorem l_mapc {f : Opd → AV} {a : Opd} {l : List Opd} : List.map f (a :: l) = f a :: l.map f := rfl
theorem o_mapn {f : Opd → AV} : Option.map f none = none := rfl
theorem o_maps {f : Opd → AV} {a : Opd} : Option.map f (some a) = some (f a) := rfl
theorem fadr_p {off b o} : fadrF off (.ptr b o) = some (.ptr b (o + off)) := rfl
theorem lenF_s {n} : lenF (some n) = some (.int .i64 n) := rfl
theorem lenG_st {G} {s} : lenG .st G (.str s) = some s.length := rfl
theorem nil_p {b o} : nilF (.ptr b o) = some (.ptr b o) := rfl
theorem nil_f {f} {a c} : nilF (.func (.func f) a c) = some (.func (.func f) a c) := rfl
theorem nil_y {f} {a c} : nilF (.func (.yield f) a c) = some (.func (.yield f) a c) := rfl
theorem ext_t {l} {i} : extF (.tup l) i = l[i]? := rfl
theorem part_n {cs} {off} : partF none off (.agg cs) = cs[off]? := rfl
theorem part_s {cs} {off n} : partF (some n) off (.agg cs) = some (.agg ((cs.drop off).take n)) := rfl
theorem buildF_s {c} : buildF (some c) = some (.agg c) := rfl
theorem resAll_1 {r} : resAll [(r, none)] ts h = some (slot ts r) := rfl
theorem resAll_2 {r s} : resAll [(r, none), (s, none)] ts h = some (.tup [slot ts r, slot ts s]) := rfl
theorem resAll_3 {r s t} : resAll [(r, none), (s, none), (t, none)] ts h = some (.tup [slot ts r, slot ts s, slot ts t]) := rfl
theorem startTS_eq {n} {args} : startTS n args = args ++ List.replicate (n - args.length) undefA := rfl
theorem rep_s {n : Nat} {a : AV} : List.replicate (n + 1) a = a :: List.replicate n a := rfl
theorem conv_ii {k k'} {n} {G} {N} : convT (.i2i k) (.int k' n) G N = some (.int k (k.wrap n), .keep) := rfl
theorem conv_same {s} {G} {N} : convT .same (.str s) G N = some (.str s, .keep) := rfl
theorem box_int {k} {n} {N} : boxF (.int k n) N = some (.ptr N 0, .push (.cells [.int k n] true false)) := rfl
theorem box_bool {b} {N} : boxF (.bool b) N = some (.ptr N 0, .push (.cells [.bool b] true false)) := rfl
theorem box_str {s} {N} : boxF (.str s) N = some (.ptr N 0, .push (.cells [.str s] true false)) := rfl
theorem box_agg {l} {N} (hl : l.all AV.one = true) : boxF (.agg l) N = some (.ptr N 0, .push (.cells l true false)) := by
  show (if l.all AV.one then _ else none) = _
  rw [if_pos hl]; rfl
end

theorem WG_U {P} {ro} {ks} {ts} {h} {Q} {d} {q} {l} {k} {b} : WG P ro undefA b q k d l ks ts h Q = WP P ro l ks (put ts d undefA) h Q := rfl
theorem ext_0 {h} : Ext h h = True := eq_true (Ext.refl h)
theorem ext_1 {h} {a} : Ext h (h ++ a) = True := eq_true (by repeat first | exact Ext.refl _ | refine Ext.app _ ?_)
theorem ext_2 {h} {a b} : Ext h (h ++ a ++ b) = True := eq_true (by repeat first | exact Ext.refl _ | refine Ext.app _ ?_)
theorem ext_3 {h} {a b c} : Ext h (h ++ a ++ b ++ c) = True := eq_true (by repeat first | exact Ext.refl _ | refine Ext.app _ ?_)
theorem ext_4 {h} {a b c d} : Ext h (h ++ a ++ b ++ c ++ d) = True := eq_true (by repeat first | exact Ext.refl _ | refine Ext.app _ ?_)
theorem ext_5 {h} {a b c d e} : Ext h (h ++ a ++ b ++ c ++ d ++ e) = True := eq_true (by repeat first | exact Ext.refl _ | refine Ext.app _ ?_)
theorem ext_6 {h} {a b c d e f} : Ext h (h ++ a ++ b ++ c ++ d ++ e ++ f) = True := eq_true (by repeat first | exact Ext.refl _ | refine Ext.app _ ?_)
theorem ext_7 {h} {a b c d e f g} : Ext h (h ++ a ++ b ++ c ++ d ++ e ++ f ++ g) = True := eq_true (by repeat first | exact Ext.refl _ | refine Ext.app _ ?_)
theorem ext_8 {h} {a b c d e f g i} : Ext h (h ++ a ++ b ++ c ++ d ++ e ++ f ++ g ++ i) = True := eq_true (by repeat first | exact Ext.refl _ | refine Ext.app _ ?_)
theorem ext_9 {h} {a b c d e f g i j} : Ext h (h ++ a ++ b ++ c ++ d ++ e ++ f ++ g ++ i ++ j) = True := eq_true (by repeat first | exact Ext.refl _ | refine Ext.app _ ?_)
theorem and_T {p : Prop} : (True ∧ p) = p := true_and p

/-- Slots written out. -/
def lst (f : Nat → AV) : Nat → Nat → TS
  | 0, _ => []
  | n + 1, i => f i :: lst f n (i + 1)
theorem lst_0 {f} {i} : lst f 0 i = [] := rfl
theorem lst_s {f} {n i} : lst f (n + 1) i = f i :: lst f n (i + 1) := rfl
theorem lst_eq (f : Nat → AV) : ∀ (n i : Nat) (ts : TS), ts.length = n → (∀ k, k < n → f (i + k) = slot ts k) → ts = lst f n i
  | 0, _, ts, h, _ => List.length_eq_zero_iff.1 h
  | n + 1, i, [], h, _ => by simp at h
  | n + 1, i, x :: xs, h, hf => by
    rw [lst_s, ← lst_eq f n (i + 1) xs (by simpa using h) fun k hk => by have := hf (k + 1) (by omega); rw [show i + 1 + k = i + (k + 1) by omega, this]; rfl]
    rw [← Nat.add_zero i, hf 0 (by omega)]; rfl
theorem expl (ts : TS) (n : Nat) (h : ts.length = n) : ts = lst (fun i => slot ts i) n 0 := lst_eq _ n 0 ts h fun k _ => by rw [Nat.zero_add]

/-- THE RULES. -/
def wset := A6 (A24 @WC_skip @WC_ops @WC_seq @WC_cond @WC_block @WC_loop @WC_exit @WC_ret @WE_seqN @WE_seqX @WE_seqR @WE_blockN @WE_blockX @WE_blockR @WE_nil @WP_nil @WP_call @WP_gd @WG_yes @WG_TF @WG_FT @WR_keep @WR_push @WR_set) (A24 @WR_setPush @WV_some @WB_true @WB_false @LQ_N @LQ_X @LQ_R @FQ_N @FQ_R @FR_some @WP_mov @WP_pick @WP_box @WP_build @WP_bslice @WP_load @WP_store @WP_nilchk @WP_bin @WP_eqv @WP_un @WP_conv @WP_mkfn @WP_mkmap) (A24 @WP_mksl @WP_sl @WP_sls @WP_fadr @WP_iadr @WP_iada @WP_part @WP_ixa @WP_ixs @WP_look @WP_mupd @WP_nexts @WP_ext @WP_len @WP_lenc @WP_app @WP_cpy @WP_mx @WP_mn @bin_add @bin_sub @bin_mul @bin_eql @bin_neq) (A24 @bin_lss @bin_leq @bin_gtr @bin_geq @bin_seql @bin_sneq @un_not @un_neg @mx_2 @mn_2 @pick_T @pick_F @val_t @val_c @val_g @val_f @put_s @put_n @slot_0 @slot_s @fadr_p @lenF_s @lenG_st @nil_p) (A24 @nil_f @nil_y @ext_t @part_n @part_s @buildF_s @resAll_1 @resAll_2 @resAll_3 @startTS_eq @rep_s @l_lenc @l_len0 @l_rep0 @l_appc @l_app0 @l_set0 @l_sets @l_map0 @l_mapc @o_mapn @o_maps @conv_ii @conv_same) (A17 @WG_U @ext_0 @ext_1 @ext_2 @ext_3 @ext_4 @ext_5 @ext_6 @ext_7 @ext_8 @ext_9 @and_T @lst_0 @lst_s @box_int @box_bool @box_str)

/-- Choices by a test. -/
theorem wsplit :
    (∀ {P} {ro} {ks} {ts} {h} {Q} {d} {q} {l} {k} {p : Prop} [Decidable p], WG P ro (.bool (decide p)) true q k d l ks ts h Q = ((p → WP P ro ({ dst := d, k := k, gd := none, q := q } :: l) ks ts h Q) ∧ (¬ p → WP P ro l ks (put ts d undefA) h Q))) ∧
    (∀ {P : Program} {ro : Option Nat → Prop} {ks : List Kt} {ts : TS} {h : AHeap} {Q : Ex → TS → AHeap → Prop} {d : Option Nat} {q : Bool} {l : List IOp} {k : OpK} {p : Prop} [Decidable p], WG P ro (.bool (decide p)) false q k d l ks ts h Q = ((p → WP P ro l ks (put ts d undefA) h Q) ∧ (¬ p → WP P ro ({ dst := d, k := k, gd := none, q := q } :: l) ks ts h Q))) ∧
    (∀ {P : Program} {ro : Option Nat → Prop} {ks : List Kt} {ts : TS} {h : AHeap} {Q : Ex → TS → AHeap → Prop} {a b : ICode} {p : Prop} [Decidable p], WB P ro (.bool (decide p)) a b ks ts h Q = ((p → WC P ro a ks ts h Q) ∧ (¬ p → WC P ro b ks ts h Q))) :=
  ⟨@WG_decT, @WG_decF, @WB_dec⟩

end Go.Abs
namespace Go.Abs

theorem at_app {h : AHeap} {b : Nat} (a : AHeap) (hb : b < h.length) : (h ++ a)[b]? = h[b]? := List.getElem?_append_left hb
theorem set_app {h : AHeap} {b : Nat} (a : AHeap) (k : ABlk) (hb : b < h.length) : (h ++ a).set b k = h.set b k ++ a := List.set_append_left _ _ hb
theorem set_new {X : AHeap} {k k' : ABlk} : (X ++ [k]).set X.length k' = X ++ [k'] := by
  rw [List.set_append_right _ _ (Nat.le_refl _)]; simp
theorem at_new {X : AHeap} {k : ABlk} : (X ++ [k])[X.length]? = some k := by simp

def ldB (n : Option Nat) (o : Nat) : ABlk → Option (AV × Eff)
  | .cells c _ _ =>
    match n with
    | none =>
      match c[o]? with
      | some x => some (x, .keep)
      | none => none
    | some n => if o + n ≤ c.length then some (.agg ((c.drop o).take n), .keep) else none
  | _ => none
def stB (n o : Nat) (v : AV) (b : Nat) : ABlk → Option (AV × Eff)
  | .cells c true tl => if v.cells.length = n ∧ v.cells.all AV.one = true ∧ o + n ≤ c.length then some (undefA, .set b (.cells (setL c o v.cells) true tl)) else none
  | _ => none
theorem loadF_at {n : Option Nat} {b o : Nat} {G : Nat → Option ABlk} {k : ABlk} (hb : G b = some k) : loadF n (.ptr b o) G = ldB n o k := by
  simp only [loadF, hb]
  cases k <;> rfl
theorem storeF_at {n b o : Nat} {v : AV} {G : Nat → Option ABlk} {k : ABlk} (hb : G b = some k) : storeF n (.ptr b o) v G = stB n o v b k := by
  simp only [storeF, hb]
  cases k with
  | cells c mu tl => cases mu <;> rfl
  | _ => rfl
def nextB (b : Nat) (s : List UInt8) (pos : Nat) : Option (AV × Eff) :=
  if pos < s.length then some (.tup [.bool true, .int .i64 pos, .int .i32 (Utf8.decode ⟨⟨s⟩⟩ pos).1], .set b (.iter s (pos + (Utf8.decode ⟨⟨s⟩⟩ pos).2))) else some (.tup [.bool false], .keep)
def nextF (x : AV) (G : Nat → Option ABlk) : Option (AV × Eff) :=
  match x with
  | .ptr b 0 =>
    match G b with
    | some (.iter s pos) => nextB b s pos
    | _ => none
  | _ => none
theorem nextF_at {b pos : Nat} {s : List UInt8} {G : Nat → Option ABlk} (hb : G b = some (.iter s pos)) : nextF (.ptr b 0) G = nextB b s pos := by
  simp only [nextF, hb]
theorem stepT_nexts {x : Opd} {ρ : Opd → AV} {G : Nat → Option ABlk} {N : Nat} : stepT (.nexts x) ρ G N = nextF (ρ x) G := by
  simp only [stepT, fnT, nextF, nextB]
  cases ρ x with
  | ptr b o =>
    cases o with
    | zero =>
      simp only
      cases G b with
      | none => rfl
      | some k => cases k <;> rfl
    | succ o => rfl
  | _ => rfl
def rstrF (x : AV) (N : Nat) : Option (AV × Eff) :=
  match x with
  | .str s => some (.ptr N 0, .push (.iter s 0))
  | _ => none
theorem WP_rstrF {P : Program} {ro : Option Nat → Prop} {ks : List Kt} {ts : TS} {h : AHeap} {Q : Ex → TS → AHeap → Prop} {d : Option Nat} {q : Bool} {l : List IOp} {x : Opd} : WP P ro ({ dst := d, k := .rstr x, gd := none, q := q } :: l) ks ts h Q = WR P ro (rstrF (val ts x) h.length) q d l ks ts h Q := rfl
theorem rstr_s {s : List UInt8} {N : Nat} : rstrF (.str s) N = some (.ptr N 0, .push (.iter s 0)) := rfl

theorem at_0 {X : AHeap} {K} : (X ++ [K] )[X.length]? = some K := by
  exact at_new
theorem ld_0 {n} {o} {X} {K} : loadF n (.ptr X.length o) (fun z => (X ++ [K] )[z]?) = ldB n o K := loadF_at at_0
theorem st_0 {y o} {v} {X} {K} : storeF y (.ptr X.length o) v (fun z => (X ++ [K] )[z]?) = stB y o v X.length K := storeF_at at_0
theorem nx_0 {pos} {s} {X} : nextF (.ptr X.length 0) (fun z => (X ++ [.iter s pos] )[z]?) = nextB X.length s pos := nextF_at at_0
theorem set_0 {X : AHeap} {K K'} : (X ++ [K] ).set X.length K' = X ++ [K']  := by
  exact set_new
theorem at_1 {X : AHeap} {K} {a} : (X ++ [K] ++ a)[X.length]? = some K := by
  rw [at_app, at_0]; simp
theorem ld_1 {n} {o} {X} {K} {a} : loadF n (.ptr X.length o) (fun z => (X ++ [K] ++ a)[z]?) = ldB n o K := loadF_at at_1
theorem st_1 {y o} {v} {X} {K} {a} : storeF y (.ptr X.length o) v (fun z => (X ++ [K] ++ a)[z]?) = stB y o v X.length K := storeF_at at_1
theorem nx_1 {pos} {s} {X} {a} : nextF (.ptr X.length 0) (fun z => (X ++ [.iter s pos] ++ a)[z]?) = nextB X.length s pos := nextF_at at_1
theorem set_1 {X : AHeap} {K K'} {a} : (X ++ [K] ++ a).set X.length K' = X ++ [K'] ++ a := by
  rw [set_app, set_0]; simp
theorem at_2 {X : AHeap} {K} {a b} : (X ++ [K] ++ a ++ b)[X.length]? = some K := by
  rw [at_app, at_1]; simp
theorem ld_2 {n} {o} {X} {K} {a b} : loadF n (.ptr X.length o) (fun z => (X ++ [K] ++ a ++ b)[z]?) = ldB n o K := loadF_at at_2
theorem st_2 {y o} {v} {X} {K} {a b} : storeF y (.ptr X.length o) v (fun z => (X ++ [K] ++ a ++ b)[z]?) = stB y o v X.length K := storeF_at at_2
theorem nx_2 {pos} {s} {X} {a b} : nextF (.ptr X.length 0) (fun z => (X ++ [.iter s pos] ++ a ++ b)[z]?) = nextB X.length s pos := nextF_at at_2
theorem set_2 {X : AHeap} {K K'} {a b} : (X ++ [K] ++ a ++ b).set X.length K' = X ++ [K'] ++ a ++ b := by
  rw [set_app, set_1]; simp
theorem at_3 {X : AHeap} {K} {a b c} : (X ++ [K] ++ a ++ b ++ c)[X.length]? = some K := by
  rw [at_app, at_2]; simp
theorem ld_3 {n} {o} {X} {K} {a b c} : loadF n (.ptr X.length o) (fun z => (X ++ [K] ++ a ++ b ++ c)[z]?) = ldB n o K := loadF_at at_3
theorem st_3 {y o} {v} {X} {K} {a b c} : storeF y (.ptr X.length o) v (fun z => (X ++ [K] ++ a ++ b ++ c)[z]?) = stB y o v X.length K := storeF_at at_3
theorem nx_3 {pos} {s} {X} {a b c} : nextF (.ptr X.length 0) (fun z => (X ++ [.iter s pos] ++ a ++ b ++ c)[z]?) = nextB X.length s pos := nextF_at at_3
theorem set_3 {X : AHeap} {K K'} {a b c} : (X ++ [K] ++ a ++ b ++ c).set X.length K' = X ++ [K'] ++ a ++ b ++ c := by
  rw [set_app, set_2]; simp
theorem at_4 {X : AHeap} {K} {a b c d} : (X ++ [K] ++ a ++ b ++ c ++ d)[X.length]? = some K := by
  rw [at_app, at_3]; simp
theorem ld_4 {n} {o} {X} {K} {a b c d} : loadF n (.ptr X.length o) (fun z => (X ++ [K] ++ a ++ b ++ c ++ d)[z]?) = ldB n o K := loadF_at at_4
theorem st_4 {y o} {v} {X} {K} {a b c d} : storeF y (.ptr X.length o) v (fun z => (X ++ [K] ++ a ++ b ++ c ++ d)[z]?) = stB y o v X.length K := storeF_at at_4
theorem nx_4 {pos} {s} {X} {a b c d} : nextF (.ptr X.length 0) (fun z => (X ++ [.iter s pos] ++ a ++ b ++ c ++ d)[z]?) = nextB X.length s pos := nextF_at at_4
theorem set_4 {X : AHeap} {K K'} {a b c d} : (X ++ [K] ++ a ++ b ++ c ++ d).set X.length K' = X ++ [K'] ++ a ++ b ++ c ++ d := by
  rw [set_app, set_3]; simp
theorem at_5 {X : AHeap} {K} {a b c d e} : (X ++ [K] ++ a ++ b ++ c ++ d ++ e)[X.length]? = some K := by
  rw [at_app, at_4]; simp
theorem ld_5 {n} {o} {X} {K} {a b c d e} : loadF n (.ptr X.length o) (fun z => (X ++ [K] ++ a ++ b ++ c ++ d ++ e)[z]?) = ldB n o K := loadF_at at_5
theorem st_5 {y o} {v} {X} {K} {a b c d e} : storeF y (.ptr X.length o) v (fun z => (X ++ [K] ++ a ++ b ++ c ++ d ++ e)[z]?) = stB y o v X.length K := storeF_at at_5
theorem nx_5 {pos} {s} {X} {a b c d e} : nextF (.ptr X.length 0) (fun z => (X ++ [.iter s pos] ++ a ++ b ++ c ++ d ++ e)[z]?) = nextB X.length s pos := nextF_at at_5
theorem set_5 {X : AHeap} {K K'} {a b c d e} : (X ++ [K] ++ a ++ b ++ c ++ d ++ e).set X.length K' = X ++ [K'] ++ a ++ b ++ c ++ d ++ e := by
  rw [set_app, set_4]; simp
theorem at_6 {X : AHeap} {K} {a b c d e f} : (X ++ [K] ++ a ++ b ++ c ++ d ++ e ++ f)[X.length]? = some K := by
  rw [at_app, at_5]; simp
theorem ld_6 {n} {o} {X} {K} {a b c d e f} : loadF n (.ptr X.length o) (fun z => (X ++ [K] ++ a ++ b ++ c ++ d ++ e ++ f)[z]?) = ldB n o K := loadF_at at_6
theorem st_6 {y o} {v} {X} {K} {a b c d e f} : storeF y (.ptr X.length o) v (fun z => (X ++ [K] ++ a ++ b ++ c ++ d ++ e ++ f)[z]?) = stB y o v X.length K := storeF_at at_6
theorem nx_6 {pos} {s} {X} {a b c d e f} : nextF (.ptr X.length 0) (fun z => (X ++ [.iter s pos] ++ a ++ b ++ c ++ d ++ e ++ f)[z]?) = nextB X.length s pos := nextF_at at_6
theorem set_6 {X : AHeap} {K K'} {a b c d e f} : (X ++ [K] ++ a ++ b ++ c ++ d ++ e ++ f).set X.length K' = X ++ [K'] ++ a ++ b ++ c ++ d ++ e ++ f := by
  rw [set_app, set_5]; simp
theorem at_7 {X : AHeap} {K} {a b c d e f g} : (X ++ [K] ++ a ++ b ++ c ++ d ++ e ++ f ++ g)[X.length]? = some K := by
  rw [at_app, at_6]; simp
theorem ld_7 {n} {o} {X} {K} {a b c d e f g} : loadF n (.ptr X.length o) (fun z => (X ++ [K] ++ a ++ b ++ c ++ d ++ e ++ f ++ g)[z]?) = ldB n o K := loadF_at at_7
theorem st_7 {y o} {v} {X} {K} {a b c d e f g} : storeF y (.ptr X.length o) v (fun z => (X ++ [K] ++ a ++ b ++ c ++ d ++ e ++ f ++ g)[z]?) = stB y o v X.length K := storeF_at at_7
theorem nx_7 {pos} {s} {X} {a b c d e f g} : nextF (.ptr X.length 0) (fun z => (X ++ [.iter s pos] ++ a ++ b ++ c ++ d ++ e ++ f ++ g)[z]?) = nextB X.length s pos := nextF_at at_7
theorem set_7 {X : AHeap} {K K'} {a b c d e f g} : (X ++ [K] ++ a ++ b ++ c ++ d ++ e ++ f ++ g).set X.length K' = X ++ [K'] ++ a ++ b ++ c ++ d ++ e ++ f ++ g := by
  rw [set_app, set_6]; simp
theorem at_8 {X : AHeap} {K} {a b c d e f g i} : (X ++ [K] ++ a ++ b ++ c ++ d ++ e ++ f ++ g ++ i)[X.length]? = some K := by
  rw [at_app, at_7]; simp
theorem ld_8 {n} {o} {X} {K} {a b c d e f g i} : loadF n (.ptr X.length o) (fun z => (X ++ [K] ++ a ++ b ++ c ++ d ++ e ++ f ++ g ++ i)[z]?) = ldB n o K := loadF_at at_8
theorem st_8 {y o} {v} {X} {K} {a b c d e f g i} : storeF y (.ptr X.length o) v (fun z => (X ++ [K] ++ a ++ b ++ c ++ d ++ e ++ f ++ g ++ i)[z]?) = stB y o v X.length K := storeF_at at_8
theorem nx_8 {pos} {s} {X} {a b c d e f g i} : nextF (.ptr X.length 0) (fun z => (X ++ [.iter s pos] ++ a ++ b ++ c ++ d ++ e ++ f ++ g ++ i)[z]?) = nextB X.length s pos := nextF_at at_8
theorem set_8 {X : AHeap} {K K'} {a b c d e f g i} : (X ++ [K] ++ a ++ b ++ c ++ d ++ e ++ f ++ g ++ i).set X.length K' = X ++ [K'] ++ a ++ b ++ c ++ d ++ e ++ f ++ g ++ i := by
  rw [set_app, set_7]; simp
theorem at_9 {X : AHeap} {K} {a b c d e f g i j} : (X ++ [K] ++ a ++ b ++ c ++ d ++ e ++ f ++ g ++ i ++ j)[X.length]? = some K := by
  rw [at_app, at_8]; simp
theorem ld_9 {n} {o} {X} {K} {a b c d e f g i j} : loadF n (.ptr X.length o) (fun z => (X ++ [K] ++ a ++ b ++ c ++ d ++ e ++ f ++ g ++ i ++ j)[z]?) = ldB n o K := loadF_at at_9
theorem st_9 {y o} {v} {X} {K} {a b c d e f g i j} : storeF y (.ptr X.length o) v (fun z => (X ++ [K] ++ a ++ b ++ c ++ d ++ e ++ f ++ g ++ i ++ j)[z]?) = stB y o v X.length K := storeF_at at_9
theorem nx_9 {pos} {s} {X} {a b c d e f g i j} : nextF (.ptr X.length 0) (fun z => (X ++ [.iter s pos] ++ a ++ b ++ c ++ d ++ e ++ f ++ g ++ i ++ j)[z]?) = nextB X.length s pos := nextF_at at_9
theorem set_9 {X : AHeap} {K K'} {a b c d e f g i j} : (X ++ [K] ++ a ++ b ++ c ++ d ++ e ++ f ++ g ++ i ++ j).set X.length K' = X ++ [K'] ++ a ++ b ++ c ++ d ++ e ++ f ++ g ++ i ++ j := by
  rw [set_app, set_8]; simp
theorem at_10 {X : AHeap} {K} {a b c d e f g i j m} : (X ++ [K] ++ a ++ b ++ c ++ d ++ e ++ f ++ g ++ i ++ j ++ m)[X.length]? = some K := by
  rw [at_app, at_9]; simp
theorem ld_10 {n} {o} {X} {K} {a b c d e f g i j m} : loadF n (.ptr X.length o) (fun z => (X ++ [K] ++ a ++ b ++ c ++ d ++ e ++ f ++ g ++ i ++ j ++ m)[z]?) = ldB n o K := loadF_at at_10
theorem st_10 {y o} {v} {X} {K} {a b c d e f g i j m} : storeF y (.ptr X.length o) v (fun z => (X ++ [K] ++ a ++ b ++ c ++ d ++ e ++ f ++ g ++ i ++ j ++ m)[z]?) = stB y o v X.length K := storeF_at at_10
theorem nx_10 {pos} {s} {X} {a b c d e f g i j m} : nextF (.ptr X.length 0) (fun z => (X ++ [.iter s pos] ++ a ++ b ++ c ++ d ++ e ++ f ++ g ++ i ++ j ++ m)[z]?) = nextB X.length s pos := nextF_at at_10
theorem set_10 {X : AHeap} {K K'} {a b c d e f g i j m} : (X ++ [K] ++ a ++ b ++ c ++ d ++ e ++ f ++ g ++ i ++ j ++ m).set X.length K' = X ++ [K'] ++ a ++ b ++ c ++ d ++ e ++ f ++ g ++ i ++ j ++ m := by
  rw [set_app, set_9]; simp
theorem at_11 {X : AHeap} {K} {a b c d e f g i j m p} : (X ++ [K] ++ a ++ b ++ c ++ d ++ e ++ f ++ g ++ i ++ j ++ m ++ p)[X.length]? = some K := by
  rw [at_app, at_10]; simp
theorem ld_11 {n} {o} {X} {K} {a b c d e f g i j m p} : loadF n (.ptr X.length o) (fun z => (X ++ [K] ++ a ++ b ++ c ++ d ++ e ++ f ++ g ++ i ++ j ++ m ++ p)[z]?) = ldB n o K := loadF_at at_11
theorem st_11 {y o} {v} {X} {K} {a b c d e f g i j m p} : storeF y (.ptr X.length o) v (fun z => (X ++ [K] ++ a ++ b ++ c ++ d ++ e ++ f ++ g ++ i ++ j ++ m ++ p)[z]?) = stB y o v X.length K := storeF_at at_11
theorem nx_11 {pos} {s} {X} {a b c d e f g i j m p} : nextF (.ptr X.length 0) (fun z => (X ++ [.iter s pos] ++ a ++ b ++ c ++ d ++ e ++ f ++ g ++ i ++ j ++ m ++ p)[z]?) = nextB X.length s pos := nextF_at at_11
theorem set_11 {X : AHeap} {K K'} {a b c d e f g i j m p} : (X ++ [K] ++ a ++ b ++ c ++ d ++ e ++ f ++ g ++ i ++ j ++ m ++ p).set X.length K' = X ++ [K'] ++ a ++ b ++ c ++ d ++ e ++ f ++ g ++ i ++ j ++ m ++ p := by
  rw [set_app, set_10]; simp
theorem at_12 {X : AHeap} {K} {a b c d e f g i j m p q} : (X ++ [K] ++ a ++ b ++ c ++ d ++ e ++ f ++ g ++ i ++ j ++ m ++ p ++ q)[X.length]? = some K := by
  rw [at_app, at_11]; simp
theorem ld_12 {n} {o} {X} {K} {a b c d e f g i j m p q} : loadF n (.ptr X.length o) (fun z => (X ++ [K] ++ a ++ b ++ c ++ d ++ e ++ f ++ g ++ i ++ j ++ m ++ p ++ q)[z]?) = ldB n o K := loadF_at at_12
theorem st_12 {y o} {v} {X} {K} {a b c d e f g i j m p q} : storeF y (.ptr X.length o) v (fun z => (X ++ [K] ++ a ++ b ++ c ++ d ++ e ++ f ++ g ++ i ++ j ++ m ++ p ++ q)[z]?) = stB y o v X.length K := storeF_at at_12
theorem nx_12 {pos} {s} {X} {a b c d e f g i j m p q} : nextF (.ptr X.length 0) (fun z => (X ++ [.iter s pos] ++ a ++ b ++ c ++ d ++ e ++ f ++ g ++ i ++ j ++ m ++ p ++ q)[z]?) = nextB X.length s pos := nextF_at at_12
theorem set_12 {X : AHeap} {K K'} {a b c d e f g i j m p q} : (X ++ [K] ++ a ++ b ++ c ++ d ++ e ++ f ++ g ++ i ++ j ++ m ++ p ++ q).set X.length K' = X ++ [K'] ++ a ++ b ++ c ++ d ++ e ++ f ++ g ++ i ++ j ++ m ++ p ++ q := by
  rw [set_app, set_11]; simp
theorem at_13 {X : AHeap} {K} {a b c d e f g i j m p q r} : (X ++ [K] ++ a ++ b ++ c ++ d ++ e ++ f ++ g ++ i ++ j ++ m ++ p ++ q ++ r)[X.length]? = some K := by
  rw [at_app, at_12]; simp
theorem ld_13 {n} {o} {X} {K} {a b c d e f g i j m p q r} : loadF n (.ptr X.length o) (fun z => (X ++ [K] ++ a ++ b ++ c ++ d ++ e ++ f ++ g ++ i ++ j ++ m ++ p ++ q ++ r)[z]?) = ldB n o K := loadF_at at_13
theorem st_13 {y o} {v} {X} {K} {a b c d e f g i j m p q r} : storeF y (.ptr X.length o) v (fun z => (X ++ [K] ++ a ++ b ++ c ++ d ++ e ++ f ++ g ++ i ++ j ++ m ++ p ++ q ++ r)[z]?) = stB y o v X.length K := storeF_at at_13
theorem nx_13 {pos} {s} {X} {a b c d e f g i j m p q r} : nextF (.ptr X.length 0) (fun z => (X ++ [.iter s pos] ++ a ++ b ++ c ++ d ++ e ++ f ++ g ++ i ++ j ++ m ++ p ++ q ++ r)[z]?) = nextB X.length s pos := nextF_at at_13
theorem set_13 {X : AHeap} {K K'} {a b c d e f g i j m p q r} : (X ++ [K] ++ a ++ b ++ c ++ d ++ e ++ f ++ g ++ i ++ j ++ m ++ p ++ q ++ r).set X.length K' = X ++ [K'] ++ a ++ b ++ c ++ d ++ e ++ f ++ g ++ i ++ j ++ m ++ p ++ q ++ r := by
  rw [set_app, set_12]; simp
theorem at_14 {X : AHeap} {K} {a b c d e f g i j m p q r t} : (X ++ [K] ++ a ++ b ++ c ++ d ++ e ++ f ++ g ++ i ++ j ++ m ++ p ++ q ++ r ++ t)[X.length]? = some K := by
  rw [at_app, at_13]; simp
theorem ld_14 {n} {o} {X} {K} {a b c d e f g i j m p q r t} : loadF n (.ptr X.length o) (fun z => (X ++ [K] ++ a ++ b ++ c ++ d ++ e ++ f ++ g ++ i ++ j ++ m ++ p ++ q ++ r ++ t)[z]?) = ldB n o K := loadF_at at_14
theorem st_14 {y o} {v} {X} {K} {a b c d e f g i j m p q r t} : storeF y (.ptr X.length o) v (fun z => (X ++ [K] ++ a ++ b ++ c ++ d ++ e ++ f ++ g ++ i ++ j ++ m ++ p ++ q ++ r ++ t)[z]?) = stB y o v X.length K := storeF_at at_14
theorem nx_14 {pos} {s} {X} {a b c d e f g i j m p q r t} : nextF (.ptr X.length 0) (fun z => (X ++ [.iter s pos] ++ a ++ b ++ c ++ d ++ e ++ f ++ g ++ i ++ j ++ m ++ p ++ q ++ r ++ t)[z]?) = nextB X.length s pos := nextF_at at_14
theorem set_14 {X : AHeap} {K K'} {a b c d e f g i j m p q r t} : (X ++ [K] ++ a ++ b ++ c ++ d ++ e ++ f ++ g ++ i ++ j ++ m ++ p ++ q ++ r ++ t).set X.length K' = X ++ [K'] ++ a ++ b ++ c ++ d ++ e ++ f ++ g ++ i ++ j ++ m ++ p ++ q ++ r ++ t := by
  rw [set_app, set_13]; simp

theorem ldB_n {o : Nat} {c : List AV} {mu tl : Bool} {x : AV} (hx : c[o]? = some x) : ldB none o (.cells c mu tl) = some (x, .keep) := by simp only [ldB, hx]
theorem ldB_s {o n : Nat} {c : List AV} {mu tl : Bool} (hx : o + n ≤ c.length) : ldB (some n) o (.cells c mu tl) = some (.agg ((c.drop o).take n), .keep) := by simp only [ldB]; rw [if_pos hx]
theorem stB_agg {n o b : Nat} {c l : List AV} {tl : Bool} (h1 : l.length = n) (h2 : l.all AV.one = true) (h3 : o + n ≤ c.length) : stB n o (.agg l) b (.cells c true tl) = some (undefA, .set b (.cells (setL c o l) true tl)) := by
  show (if l.length = n ∧ l.all AV.one = true ∧ o + n ≤ c.length then _ else none) = _
  rw [if_pos ⟨h1, h2, h3⟩]; rfl
theorem AV.cells_one {v : AV} (hv : v.one = true) : v.cells = [v] := by cases v <;> first | rfl | cases hv
theorem stB_one {o b : Nat} {c : List AV} {v : AV} {tl : Bool} (h2 : v.one = true) (h3 : o + 1 ≤ c.length) : stB 1 o v b (.cells c true tl) = some (undefA, .set b (.cells (c.set o v) true tl)) := by
  simp only [stB, AV.cells_one h2]
  rw [if_pos ⟨rfl, by simp [h2], h3⟩]; rfl
theorem setL_nil {c : List AV} {o : Nat} : setL c o [] = c := rfl
theorem setL_cons {c : List AV} {o : Nat} {x : AV} {xs : List AV} : setL c o (x :: xs) = setL (c.set o x) (o + 1) xs := rfl
theorem zrep_0 {z : List AV} : zrep 0 z = [] := rfl
theorem zrep_s {n : Nat} {z : List AV} : zrep (n + 1) z = z ++ zrep n z := rfl
theorem fill_nil {c : List AV} : fillA c [] = some c := rfl
theorem fill_one {c : List AV} {off : Nat} {v : AV} {r : List (Nat × Nat × AV)} (h2 : v.one = true) (h3 : off + 1 ≤ c.length) : fillA c ((off, 1, v) :: r) = fillA (c.set off v) r := by
  simp only [fillA, AV.cells_one h2]
  rw [if_pos ⟨rfl, h3⟩]; rfl
theorem fill_agg {c l : List AV} {off n : Nat} {r : List (Nat × Nat × AV)} (h2 : l.length = n) (h3 : off + n ≤ c.length) : fillA c ((off, n, .agg l) :: r) = fillA (setL c off l) r := by
  show (if l.length = n ∧ off + n ≤ c.length then fillA (setL c off l) r else none) = _
  rw [if_pos ⟨h2, h3⟩]
theorem bsl_ok {es n N : Nat} {c : List AV} (h1 : c.all AV.one = true) (h2 : c.length = n * es) (h3 : 1 ≤ n) : bslF es n (some c) N = some (.slice N 0 n es, .push (.cells c true true)) := by
  have : Nat.beq n 0 = false := by cases n with | zero => omega | succ n => rfl
  simp only [bslF]; rw [if_pos ⟨h1, h2⟩, this]; rfl
theorem bsl_z {es N : Nat} : bslF es 0 (some []) N = some (.slice N 0 0 es, .push (.cells [] true false)) := by
  simp only [bslF]; rw [if_pos ⟨rfl, by simp⟩]; rfl
theorem m_map0 {f : Nat × Opd → Nat × Nat × AV} : List.map f [] = [] := rfl
theorem m_mapc {f : Nat × Opd → Nat × Nat × AV} {a : Nat × Opd} {l : List (Nat × Opd)} : List.map f (a :: l) = f a :: l.map f := rfl
theorem n_map0 {f : Nat × Nat × Opd → Nat × Nat × AV} : List.map f [] = [] := rfl
theorem n_mapc {f : Nat × Nat × Opd → Nat × Nat × AV} {a : Nat × Nat × Opd} {l : List (Nat × Nat × Opd)} : List.map f (a :: l) = f a :: l.map f := rfl
theorem l_drop0 {l : List AV} : l.drop 0 = l := rfl
theorem l_drops {a : AV} {l : List AV} {n : Nat} : (a :: l).drop (n + 1) = l.drop n := rfl
theorem l_take0 {l : List AV} : l.take 0 = [] := by simp
theorem l_takes {a : AV} {l : List AV} {n : Nat} : (a :: l).take (n + 1) = a :: l.take n := rfl
theorem l_get0 {a : AV} {l : List AV} : (a :: l)[0]? = some a := rfl
theorem l_gets {a : AV} {l : List AV} {n : Nat} : (a :: l)[n + 1]? = l[n]? := rfl

/-- Integers as rows. -/
abbrev intRow (x : Int) : List AV := [.int .i64 x]
theorem isSl_ints {X : AHeap} (l : List Int) : IsSl (X ++ [.cells (l.map (AV.int .i64)) true true]) (.slice X.length 0 l.length 1) 1 (l.map intRow) := by
  have hf : (l.map intRow).flatten = l.map (AV.int .i64) := by induction l with
    | nil => rfl
    | cons x xs ih => simp [intRow] at ih ⊢; exact ih
  have h1 : (l.map intRow).length = l.length := by simp
  rw [← h1]
  exact .mk (by simp; exact ⟨rfl, rfl, rfl⟩) (by rw [hf, Nat.mul_one, h1, List.drop_zero]; exact List.take_of_length_le (by simp)) (by simp) (by simp [intRow])

section
variable {h : AHeap} {s : AV} {es : Nat} {cs : List (List AV)}
theorem IsSl.load0E (hs : IsSl h s es cs) {k : AHeap} {i : Nat} (e : Ext h k) (hi : i < cs.length) {x : AV} (hx : cs[i][0]? = some x) : loadF none (.ptr s.sb (s.so + i * es)) (fun b => k[b]?) = some (x, .keep) := (hs.ext e).loadf (off := 0) hi hx
end

/-- THE RULES. -/
def hset := A4 (A24 @ld_0 @st_0 @nx_0 @set_0 @ld_1 @st_1 @nx_1 @set_1 @ld_2 @st_2 @nx_2 @set_2 @ld_3 @st_3 @nx_3 @set_3 @ld_4 @st_4 @nx_4 @set_4 @ld_5 @st_5 @nx_5 @set_5) (A24 @ld_6 @st_6 @nx_6 @set_6 @ld_7 @st_7 @nx_7 @set_7 @ld_8 @st_8 @nx_8 @set_8 @ld_9 @st_9 @nx_9 @set_9 @ld_10 @st_10 @nx_10 @set_10 @ld_11 @st_11 @nx_11 @set_11) (A24 @ld_12 @st_12 @nx_12 @set_12 @ld_13 @st_13 @nx_13 @set_13 @ld_14 @st_14 @nx_14 @set_14 @stepT_nexts @WP_rstrF @rstr_s @ldB_n @ldB_s @stB_agg @stB_one @setL_nil @setL_cons @zrep_0 @zrep_s @fill_nil) (A14 @fill_one @fill_agg @bsl_ok @bsl_z @m_map0 @m_mapc @n_map0 @n_mapc @l_drop0 @l_drops @l_take0 @l_takes @l_get0 @l_gets)

end Go.Abs
namespace Go.Abs

def ldV : Option AV → Option (AV × Eff)
  | some x => some (x, .keep)
  | none => none
theorem ldV_s {x} : ldV (some x) = some (x, .keep) := rfl
theorem ldB_v {o} {c} {mu tl} : ldB none o (.cells c mu tl) = ldV c[o]? := rfl

/-- Where an element lies, and a field of it. -/
def elp (s : AV) (es i : Nat) : AV := .ptr s.sb (s.so + i * es)
def elf (s : AV) (es i off : Nat) : AV := .ptr s.sb (s.so + i * es + off)
theorem fadr_el {s} {es i off} : fadrF off (elp s es i) = some (elf s es i off) := rfl

section
variable {α : Type} {row : α → List AV} {L : List α} {h k : AHeap} {s : AV} {es : Nat}

theorem IsSl.lenm (hs : IsSl h s es (L.map row)) (G : Nat → Option ABlk) : Go.Abs.lenG .sl G s = some L.length := by
  rw [hs.lenG G, List.length_map]
theorem IsSl.ixm (hs : IsSl h s es (L.map row)) {i : Nat} {kk} (hi : i < L.length) : iadrF es s (.int kk (i : Int)) = some (elp s es i, .keep) := by
  rw [hs.iadr (by omega) (by rw [List.length_map]; omega), Int.toNat_natCast]; rfl
theorem IsSl.ix0 (hs : IsSl h s es (L.map row)) {kk} (hi : 0 < L.length) : iadrF es s (.int kk 0) = some (elp s es 0, .keep) := hs.ixm hi
theorem IsSl.l1m (hs : IsSl h s es (L.map row)) {i} {x} (hi : i < L.length) (hx : (row L[i])[0]? = some x) (e : Ext h k) : loadF none (elp s es i) (fun b => k[b]?) = some (x, .keep) :=
  hs.load0E e (by rw [List.length_map]; exact hi) (by rw [List.getElem_map]; exact hx)
theorem IsSl.slm (hs : IsSl h s es (L.map row)) {lo hi} {l u} (hb : bnds lo hi L.length = some (l, u)) : ∃ s', slF es s lo hi = some (s', .keep) ∧ IsSl h s' es (((L.drop l).take (u - l)).map row) := by
  obtain ⟨s', h1, h2⟩ := hs.sl (lo := lo) (hi := hi) (by rw [List.length_map]; exact hb)
  exact ⟨s', h1, by rw [List.map_take, List.map_drop]; exact h2⟩
end

theorem bnds_hi {n k : Nat} {kk} (hk : k ≤ n) : bnds none (some (.int kk (k : Int))) n = some (0, k) := by
  simp only [bnds, loN, hiN]
  rw [if_pos (by omega)]; simp
theorem bnds_lo {n k : Nat} {kk} (hk : k ≤ n) : bnds (some (.int kk (k : Int))) none n = some (k, n) := by
  simp only [bnds, loN, hiN]
  rw [if_pos (by omega)]; simp
theorem ixs_0 {c} {r} {k} : ixsF (.str (c :: r)) (.int k 0) = some (.int .u8 c.toNat) := rfl
theorem ixs_in {s} {i} {k} (hi : i < s.length) : ixsF (.str s) (.int k (i : Nat)) = some (.int .u8 s[i].toNat) := by
  simp [ixsF, hi]
theorem wrapN {n : Nat} (h : n + 1 < 2 ^ 63) : IntKind.i64.wrap ((n : Int) + 1) = ((n + 1 : Nat) : Int) := by rw [wrap_in (by omega) (by omega)]; rfl

def lv : Option (AV × Eff) → Option AV
  | some (v, _) => some v
  | none => none
theorem lv_s {v} {e} : lv (some (v, e)) = some v := rfl
theorem resVal_l {ts} {h} {a} {n} : resVal ts h (a, some n) = lv (loadF n (slot ts a) (fun b => h[b]?)) := by
  simp only [resVal, fnK, val, slot]
  cases ts.getD a undefA with
  | ptr b o =>
    simp only [loadF]
    cases h[b]? with
    | none => rfl
    | some k =>
      cases k with
      | cells c mu tl =>
        cases n with
        | none => simp only; cases c[o]? <;> rfl
        | some n => simp only; by_cases hc : o + n ≤ c.length
                    · rw [if_pos hc, if_pos hc]; rfl
                    · rw [if_neg hc, if_neg hc]; rfl
      | _ => rfl
  | _ => rfl
def tup2 : Option AV → Option AV → Option AV
  | some a, some b => some (.tup [a, b])
  | _, _ => none
def tup3 : Option AV → Option AV → Option AV → Option AV
  | some a, some b, some c => some (.tup [a, b, c])
  | _, _, _ => none
theorem tup2_s {a b} : tup2 (some a) (some b) = some (.tup [a, b]) := rfl
theorem tup3_s {a b c} : tup3 (some a) (some b) (some c) = some (.tup [a, b, c]) := rfl
theorem resAll_v1 {ts} {h} {r} : resAll [r] ts h = resVal ts h r := by
  simp only [resAll, resVals]
  cases resVal ts h r <;> rfl
theorem resAll_v2 {ts} {h} {r s} : resAll [r, s] ts h = tup2 (resVal ts h r) (resVal ts h s) := by
  simp only [resAll, resVals]
  cases resVal ts h r <;> cases resVal ts h s <;> rfl
theorem resAll_v3 {ts} {h} {r s t} : resAll [r, s, t] ts h = tup3 (resVal ts h r) (resVal ts h s) (resVal ts h t) := by
  simp only [resAll, resVals]
  cases resVal ts h r <;> cases resVal ts h s <;> cases resVal ts h t <;> rfl
theorem resVal_n {ts} {h} {a} : resVal ts h (a, none) = some (slot ts a) := rfl
theorem resAll_L : ∀ {ts} {h} {x} {nx}, resAll [(x, some nx)] ts h = lv (loadF nx (slot ts x) (fun b => h[b]?)) := by
  intros; rw [resAll_v1]; simp only [resVal_l, resVal_n]
theorem resAll_NL : ∀ {ts} {h} {x y} {ny}, resAll [(x, none), (y, some ny)] ts h = tup2 (some (slot ts x)) (lv (loadF ny (slot ts y) (fun b => h[b]?))) := by
  intros; rw [resAll_v2]; simp only [resVal_l, resVal_n]
theorem resAll_LN : ∀ {ts} {h} {x y} {nx}, resAll [(x, some nx), (y, none)] ts h = tup2 (lv (loadF nx (slot ts x) (fun b => h[b]?))) (some (slot ts y)) := by
  intros; rw [resAll_v2]; simp only [resVal_l, resVal_n]
theorem resAll_LL : ∀ {ts} {h} {x y} {nx ny}, resAll [(x, some nx), (y, some ny)] ts h = tup2 (lv (loadF nx (slot ts x) (fun b => h[b]?))) (lv (loadF ny (slot ts y) (fun b => h[b]?))) := by
  intros; rw [resAll_v2]; simp only [resVal_l, resVal_n]
theorem resAll_NNL : ∀ {ts} {h} {x y z} {nz}, resAll [(x, none), (y, none), (z, some nz)] ts h = tup3 (some (slot ts x)) (some (slot ts y)) (lv (loadF nz (slot ts z) (fun b => h[b]?))) := by
  intros; rw [resAll_v3]; simp only [resVal_l, resVal_n]
theorem resAll_NLN : ∀ {ts} {h} {x y z} {ny}, resAll [(x, none), (y, some ny), (z, none)] ts h = tup3 (some (slot ts x)) (lv (loadF ny (slot ts y) (fun b => h[b]?))) (some (slot ts z)) := by
  intros; rw [resAll_v3]; simp only [resVal_l, resVal_n]
theorem resAll_NLL : ∀ {ts} {h} {x y z} {ny nz}, resAll [(x, none), (y, some ny), (z, some nz)] ts h = tup3 (some (slot ts x)) (lv (loadF ny (slot ts y) (fun b => h[b]?))) (lv (loadF nz (slot ts z) (fun b => h[b]?))) := by
  intros; rw [resAll_v3]; simp only [resVal_l, resVal_n]
theorem resAll_LNN : ∀ {ts} {h} {x y z} {nx}, resAll [(x, some nx), (y, none), (z, none)] ts h = tup3 (lv (loadF nx (slot ts x) (fun b => h[b]?))) (some (slot ts y)) (some (slot ts z)) := by
  intros; rw [resAll_v3]; simp only [resVal_l, resVal_n]
theorem resAll_LNL : ∀ {ts} {h} {x y z} {nx nz}, resAll [(x, some nx), (y, none), (z, some nz)] ts h = tup3 (lv (loadF nx (slot ts x) (fun b => h[b]?))) (some (slot ts y)) (lv (loadF nz (slot ts z) (fun b => h[b]?))) := by
  intros; rw [resAll_v3]; simp only [resVal_l, resVal_n]
theorem resAll_LLN : ∀ {ts} {h} {x y z} {nx ny}, resAll [(x, some nx), (y, some ny), (z, none)] ts h = tup3 (lv (loadF nx (slot ts x) (fun b => h[b]?))) (lv (loadF ny (slot ts y) (fun b => h[b]?))) (some (slot ts z)) := by
  intros; rw [resAll_v3]; simp only [resVal_l, resVal_n]
theorem resAll_LLL : ∀ {ts} {h} {x y z} {nx ny nz}, resAll [(x, some nx), (y, some ny), (z, some nz)] ts h = tup3 (lv (loadF nx (slot ts x) (fun b => h[b]?))) (lv (loadF ny (slot ts y) (fun b => h[b]?))) (lv (loadF nz (slot ts z) (fun b => h[b]?))) := by
  intros; rw [resAll_v3]; simp only [resVal_l, resVal_n]
theorem eqvF_f {b} : eqvF false (some b) = some (.bool b) := rfl
theorem eqvF_t {b} : eqvF true (some b) = some (.bool !b) := rfl
def andO (b : Bool) (o : Option Bool) : Option Bool :=
  match b with
  | true => o
  | false => some false
theorem andO_s {b c} : andO b (some c) = some (b && c) := by cases b <;> rfl
theorem eqc_i {k} {a b} {ks} {xs ys} : eqCells (.i :: ks) (.int k a :: xs) (.int k b :: ys) = andO (decide (a = b)) (eqCells ks xs ys) := by
  by_cases hab : a = b
  · simp [eqCells, eqQ, eqCell, hab, andO]
  · have : (a == b) = false := by simp [hab]
    simp [eqCells, eqQ, eqCell, hab, andO, this]
theorem eqc_s {a b} {ks} {xs ys} : eqCells (.s :: ks) (.str a :: xs) (.str b :: ys) = andO (decide (a = b)) (eqCells ks xs ys) := by
  by_cases hab : a = b
  · simp [eqCells, eqQ, eqCell, hab, andO]
  · have : (a == b) = false := by simp [hab]
    simp [eqCells, eqQ, eqCell, hab, andO, this]
theorem eqc_b {a b} {ks} {xs ys} : eqCells (.b :: ks) (.bool a :: xs) (.bool b :: ys) = andO (a == b) (eqCells ks xs ys) := by
  cases a <;> cases b <;> rfl
theorem eqc_n : eqCells [] [] [] = some true := rfl
theorem eqA {ks} {xs ys} (h1 : xs.length = ks.length) (h2 : ys.length = ks.length) : eqvK (.agg ks) (.agg xs) (.agg ys) = eqCells ks xs ys := by
  simp only [eqvK, eqAgg]; rw [if_pos ⟨h1, h2⟩]
theorem eq_1b {a b} : eqvK (.one .b) (.bool a) (.bool b) = some (a == b) := rfl
theorem ck_lenc {a : CK} {l : List CK} : (a :: l).length = l.length + 1 := rfl
theorem ck_len0 : ([] : List CK).length = 0 := rfl
theorem Fr.lt {N} {h} {s} {es} {cs} (hs : Fr N h s es cs) {b o n e} (hb : s = .slice b o n e) : N ≤ b ∧ b < h.length := by
  cases hs with
  | nil => cases hb
  | mk hN h1 he => cases hb; exact ⟨hN, (List.getElem?_eq_some_iff.1 h1).1⟩
/-- The built-in append of something on a slice of its own: the new slice lies in a block of its own, behind all others. -/
theorem WR.app1 {P} {ro} {ks} {ts} {Q} {h} {s y} {es} {cs ys} {h0} {w} {d} {l}
    (hs : Fr h0.length h s es cs) (hy : IsSl h y es ys) (hes : 0 < es) (hne : 0 < ys.length) (hsz : (cs.length + ys.length) * w ≤ 2 ^ 46) (he : Ext h0 h)
    (K : ∀ g, (h0 ++ g).length = h.length + 1 → Fr h0.length (h0 ++ g) (.slice h.length 0 (cs ++ ys).length es) es (cs ++ ys) → (∀ b, b < h.length → (∀ b0 o n e, s = .slice b0 o n e → b ≠ b0) → (h0 ++ g)[b]? = h[b]?) → WP P ro l ks (put ts d (.slice h.length 0 (cs ++ ys).length es)) (h0 ++ g) Q) :
    WR P ro (appT es w s y (fun b => h[b]?) h.length) false d l ks ts h Q := by
  have hrows : ∀ x ∈ cs ++ ys, x.length = es := fun x hx => by
    rcases List.mem_append.1 hx with hx | hx
    · exact hs.isSl.rows x hx
    · exact hy.rows x hx
  have hk : ¬ ys.length = 0 := by omega
  simp only [appT, hy.cellsG]
  cases hs with
  | nil =>
    simp only [List.length_nil, Nat.zero_add] at hsz
    simp only [if_neg hk, if_pos hsz]
    rw [WR_push]
    have hx := Fr.push (N := h0.length) he.len ys hy.rows
    obtain ⟨g, rfl⟩ := he
    have hK := K (g ++ [.cells ys.flatten true true]) (by simp; omega)
    simp only [← List.append_assoc, List.nil_append] at hK
    exact hK hx fun b hb _ => List.getElem?_append_left hb
  | @mk b _ _ tl hN hb hre =>
    have hcl := flatten_len hre
    cases tl with
    | false =>
      simp only [if_true, if_neg hk, if_pos hsz, hb, Nat.zero_add]
      rw [if_pos (by omega), WR_push, List.drop_zero]
      have hx := Fr.push (h := h) (N := h0.length) (es := es) he.len (cs ++ ys) hrows
      simp only [List.length_append, List.flatten_append] at hx ⊢
      obtain ⟨g, rfl⟩ := he
      have hK := K (g ++ [.cells (cs.flatten ++ ys.flatten) true true]) (by simp; omega)
      simp only [← List.append_assoc, List.length_append, List.flatten_append] at hK hx ⊢
      exact hK hx fun b hb _ => List.getElem?_append_left (by simpa using hb)
    | true =>
    simp only [if_true, if_neg hk, if_pos hsz, hb, Nat.zero_add]
    rw [if_pos (by omega), WR_setPush]
    have hbl : b < h.length := (List.getElem?_eq_some_iff.1 hb).1
    have hx := Fr.push (h := h.set b .dead) (N := h0.length) (es := es) (by simpa using he.len) (cs ++ ys) hrows
    have hc : List.take (cs.length * es) (List.drop 0 cs.flatten) = cs.flatten := by rw [List.drop_zero, ← hcl, List.take_length]
    rw [hc]
    obtain ⟨g, rfl⟩ := he
    have hset : (h0 ++ g).set b .dead ++ [ABlk.cells (cs.flatten ++ ys.flatten) true true] = h0 ++ (g.set (b - h0.length) .dead ++ [ABlk.cells (cs.flatten ++ ys.flatten) true true]) := by
      rw [List.set_append_right _ _ hN, List.append_assoc]
    have hK := K (g.set (b - h0.length) .dead ++ [.cells (cs.flatten ++ ys.flatten) true true]) (by simp; omega)
    rw [← hset] at hK
    simp only [List.length_set, List.flatten_append, List.length_append] at hx hK ⊢
    refine hK hx ?_
    intro i hi hne
    have := hne b 0 _ _ rfl
    rw [List.getElem?_append_left (by simpa using hi), List.getElem?_set_ne (Ne.symm this)]
theorem one_i {k} {n} : AV.one (.int k n) = true := rfl
theorem one_b {b} : AV.one (.bool b) = true := rfl
theorem one_s {b} : AV.one (.str b) = true := rfl
theorem one_p {b o} : AV.one (.ptr b o) = true := rfl
theorem one_l {b o n e} : AV.one (.slice b o n e) = true := rfl
theorem one_n : AV.one .nilSlice = true := rfl
theorem one_f {f} {a c} : AV.one (.func f a c) = true := rfl
theorem all_c {a} {l} : (a :: l).all AV.one = (a.one && l.all AV.one) := rfl
theorem all_n : ([] : List AV).all AV.one = true := rfl

/-- Short forms in the functions' texts. -/
def IOp.o (n : Nat) (k : OpK) : IOp := ⟨some n, k, none, false⟩
def IOp.x (k : OpK) : IOp := ⟨none, k, none, false⟩
def IOp.m (n i : Nat) : IOp := ⟨some n, .mov (.t i), none, false⟩
def IOp.y (n : Nat) (k : OpK) : IOp := ⟨some n, k, none, true⟩
def IOp.l (n i : Nat) : IOp := ⟨some n, .load none (.t i), none, false⟩
def IOp.a (n o i : Nat) : IOp := ⟨some n, .fadr o (.t i), none, false⟩
def IOp.c (n f : Nat) (l : List Opd) : IOp := ⟨some n, .call (.f f) l, none, false⟩
def IOp.b (n : Nat) (k : BinOp) (x y : Opd) : IOp := ⟨some n, .bin k x y, none, false⟩
def IOp.e (n i j : Nat) : IOp := ⟨some n, .ext (.t i) j, none, false⟩
def IOp.s (w i j : Nat) : IOp := ⟨none, .store w (.t i) (.t j), none, false⟩
def IOp.r (n w i : Nat) : IOp := ⟨some n, .load (some w) (.t i), none, false⟩
def IOp.p (n i : Nat) : IOp := ⟨some n, .box (.t i), none, false⟩
def IOp.u (n : Nat) (k : BinOp) (i j : Nat) : IOp := ⟨some n, .bin k (.t i) (.t j), none, false⟩
def IOp.h (n w i j : Nat) : IOp := ⟨some n, .iadr w (.t i) (.t j), none, false⟩
def IOp.d (n i j : Nat) : IOp := ⟨some n, .pick (.t i) (.t j) (.c (.bool false)), none, false⟩
def IOp.f (n i j : Nat) : IOp := ⟨some n, .pick (.t i) (.c (.bool true)) (.t j), none, false⟩
def IOp.n (n i : Nat) : IOp := ⟨some n, .len .sl (.t i), none, false⟩
def Opd.n (k : Int) : Opd := .c (.int .i64 k)
def ICode.s (l : List IOp) (b : ICode) : ICode := .seq (.ops l) b
def ICode.r (l : List IOp) : ICode := .seq (.ops l) .ret
def IOp.j (n i : Nat) : IOp := ⟨some n, .load none (.t i), none, true⟩
def IOp.w (n i : Nat) : IOp := ⟨some n, .mov (.t i), none, true⟩
def IOp.t (n c : Nat) (b : Bool) (i : Nat) : IOp := ⟨some n, .mov (.t i), some (c, b), false⟩
def IOp.v (n : Nat) (k : BinOp) (i : Nat) (y : Opd) : IOp := ⟨some n, .bin k (.t i) y, none, false⟩
def Opd.T : Opd := .c (.bool true)
def Opd.F : Opd := .c (.bool false)
def ICode.j (n : Nat) (l : List IOp) : ICode := .cond (.t n) (.seq (.ops l) .ret) .skip
def ICode.i (n : Nat) (a b : ICode) : ICode := .cond (.t n) a b
def IOp.g (n c : Nat) (b : Bool) (k : OpK) : IOp := ⟨some n, k, some (c, b), false⟩
def Opd.z : Opd := .c (.int .i64 0)
def Opd.w : Opd := .c (.int .i64 1)

/-- More rules. -/
theorem ds_0 : ∀ {n i}, IOp.m n i = ⟨some n, .mov (.t i), none, false⟩ := rfl
theorem ds_1 : ∀ {n c} {b} {k}, IOp.g n c b k = ⟨some n, k, some (c, b), false⟩ := rfl
theorem ds_2 : ∀ {n} {k}, IOp.o n k = ⟨some n, k, none, false⟩ := rfl
theorem ds_3 : ∀ {k}, IOp.x k = ⟨none, k, none, false⟩ := rfl
theorem ds_4 : (Opd.z = .c (.int .i64 0)) := rfl
theorem ds_5 : (Opd.w = .c (.int .i64 1)) := rfl
theorem dt_q : ∀ {n} {k}, IOp.y n k = ⟨some n, k, none, true⟩ := rfl
theorem dt_l : ∀ {n i}, IOp.l n i = ⟨some n, .load none (.t i), none, false⟩ := rfl
theorem dt_a : ∀ {n o i}, IOp.a n o i = ⟨some n, .fadr o (.t i), none, false⟩ := rfl
theorem dt_c : ∀ {n f} {l}, IOp.c n f l = ⟨some n, .call (.f f) l, none, false⟩ := rfl
theorem dt_b : ∀ {n} {k} {x y}, IOp.b n k x y = ⟨some n, .bin k x y, none, false⟩ := rfl
theorem dt_e : ∀ {n i j}, IOp.e n i j = ⟨some n, .ext (.t i) j, none, false⟩ := rfl
theorem dt_s : ∀ {w i j}, IOp.s w i j = ⟨none, .store w (.t i) (.t j), none, false⟩ := rfl
theorem dt_r : ∀ {n w i}, IOp.r n w i = ⟨some n, .load (some w) (.t i), none, false⟩ := rfl
theorem dt_p : ∀ {n i}, IOp.p n i = ⟨some n, .box (.t i), none, false⟩ := rfl
theorem dt_u : ∀ {n} {k} {i j}, IOp.u n k i j = ⟨some n, .bin k (.t i) (.t j), none, false⟩ := rfl
theorem dt_i : ∀ {n} {a b}, ICode.i n a b = .cond (.t n) a b := rfl
theorem du_IOh : ∀ {n w i j : Nat}, IOp.h n w i j = ⟨some n, .iadr w (.t i) (.t j), none, false⟩ := rfl
theorem du_IOd : ∀ {n i j : Nat}, IOp.d n i j = ⟨some n, .pick (.t i) (.t j) (.c (.bool false)), none, false⟩ := rfl
theorem du_IOf : ∀ {n i j : Nat}, IOp.f n i j = ⟨some n, .pick (.t i) (.c (.bool true)) (.t j), none, false⟩ := rfl
theorem du_IOn : ∀ {n i : Nat}, IOp.n n i = ⟨some n, .len .sl (.t i), none, false⟩ := rfl
theorem du_Opn : ∀ {k : Int}, Opd.n k = .c (.int .i64 k) := rfl
theorem du_ICs : ∀ {l : List IOp} {b : ICode}, ICode.s l b = .seq (.ops l) b := rfl
theorem du_ICr : ∀ {l : List IOp}, ICode.r l = .seq (.ops l) .ret := rfl
theorem du_ICj : ∀ {n : Nat} {l : List IOp}, ICode.j n l = .cond (.t n) (.seq (.ops l) .ret) .skip := rfl
theorem dv_IOj : ∀ {n i : Nat}, IOp.j n i = ⟨some n, .load none (.t i), none, true⟩ := rfl
theorem dv_IOw : ∀ {n i : Nat}, IOp.w n i = ⟨some n, .mov (.t i), none, true⟩ := rfl
theorem dv_IOt : ∀ {n c : Nat} {b : Bool} {i : Nat}, IOp.t n c b i = ⟨some n, .mov (.t i), some (c, b), false⟩ := rfl
theorem dv_IOv : ∀ {n : Nat} {k : BinOp} {i : Nat} {y : Opd}, IOp.v n k i y = ⟨some n, .bin k (.t i) y, none, false⟩ := rfl
theorem dv_T : Opd.T = .c (.bool true) := rfl
theorem dv_F : Opd.F = .c (.bool false) := rfl
def uset := A8 @dv_T @dv_F @dv_IOj @dv_IOw @dv_IOt @dv_IOv @du_ICj (A24 @du_IOh @du_IOd @du_IOf @du_IOn @du_Opn @du_ICs @du_ICr @dt_q @dt_l @dt_a @dt_c @dt_b @dt_e @dt_s @dt_r @dt_p @dt_u @dt_i @ds_0 @ds_1 @ds_2 @ds_3 @ds_4 @ds_5)
def dset := A3 uset (A18 @Nat.zero_add @ldV_s @ldB_v @lv_s @tup2_s @tup3_s @resAll_L @resAll_NL @resAll_LN @resAll_LL @resAll_NNL @resAll_NLN @resAll_NLL @resAll_LNN @resAll_LNL @resAll_LLN @resAll_LLL @eqvF_f) (A22 @eqvF_t @andO_s @eqc_i @eqc_s @eqc_b @eqc_n @eqA @eq_1b @ck_lenc @ck_len0 @fadr_el @one_i @one_b @one_s @one_p @one_l @one_n @one_f @all_c @all_n @Bool.true_and @box_agg)

/-- A slot that is there. -/
def inS (o : Option AV) (X : Prop) : Prop :=
  match o with
  | some _ => X
  | none => False
/-- Boxes that are filled at once. -/
theorem bset :
    (∀ {P} {ro} {ks} {ts} {h} {Q} {q} {l} {n i} {x}, WP P ro ({ dst := some i, k := .boxn n x, gd := none, q := q } :: l) ks ts h Q = inS ts[i]? (WR P ro (boxnF n (val ts x) h.length) q (some i) l ks ts h Q)) ∧
    (∀ {a : AV} {X : Prop}, inS (some a) X = X) ∧
    (∀ {k : IntKind} {z : Int} {N : Nat}, boxnF 1 (.int k z) N = some (.ptr N 0, .push (.cells [.int k z] true false))) ∧
    (∀ {b : Bool} {N : Nat}, boxnF 1 (.bool b) N = some (.ptr N 0, .push (.cells [.bool b] true false))) ∧
    (∀ {b : List UInt8} {N : Nat}, boxnF 1 (.str b) N = some (.ptr N 0, .push (.cells [.str b] true false))) ∧
    (∀ {N : Nat}, boxF .nilSlice N = some (.ptr N 0, .push (.cells [.nilSlice] true false))) ∧
    (∀ {v : AV} {N : Nat} (_ : v.one = true), boxF v N = some (.ptr N 0, .push (.cells [v] true false))) ∧
    (∀ {v : AV} {N : Nat} (_ : v.one = true), boxnF 1 v N = some (.ptr N 0, .push (.cells [v] true false))) ∧
    (∀ {l : List AV} {n N : Nat} (_ : l.all AV.one = true) (_ : l.length = n), boxnF n (.agg l) N = some (.ptr N 0, .push (.cells l true false))) := by
  refine ⟨?_, rfl, rfl, rfl, rfl, rfl, ?_, ?_, ?_⟩
  · intro P ro ks ts h Q q l n i x
    rw [WP_boxn]
    by_cases hi : i < ts.length
    · rw [List.getElem?_eq_getElem hi]
      simp [inS, hi]
    · rw [List.getElem?_eq_none (by omega)]
      simp [inS, hi]
  · intro v N h
    simp only [boxF, AV.cells_one h]
    rw [if_pos (by simp [h])]
  · intro v N h
    simp only [boxnF, AV.cells_one h]
    rw [if_pos ⟨by simp [h], rfl⟩]
  · intro l n N h1 h2
    unfold boxnF
    exact if_pos ⟨h1, h2⟩

end Go.Abs
namespace Go.Abs
def fn2 : AFunc := ⟨1, 0, [],(.ops [.c 0 1 []])⟩
def fn3 : AFunc := ⟨144, 2, [(4, none)],(.s [.o 4 (.mov .F)] (.seq (.s [.c 23 17 [],.o 24 (.un .not (.t 23)),.m 25 24,.t 26 25 false 0,.g 27 25 false (.call (.f 18) [.t 26]),.g 28 25 false (.un .not (.t 27)),.f 29 25 28,.m 30 29,.t 31 30 false 1,.g 32 30 false (.call (.f 19) [.t 31]),.g 33 30 false (.un .not (.t 32)),.f 34 30 33] (.j 34 [.c 35 17 [],.m 4 35])) (.s [.m 37 0,.c 38 21 [.t 37],.m 39 1,.c 40 22 [.t 39],.c 41 20 [.t 38,.t 40],.m 36 41,.e 42 36 0,.e 43 36 1,.m 5 42,.m 6 43] (.s [.m 45 0,.c 46 21 [.t 45],.m 47 1,.c 48 22 [.t 47],.c 49 23 [.t 46,.t 48],.m 44 49,.e 50 44 0,.e 51 44 1,.m 7 50,.m 8 51] (.s [.m 53 0,.c 54 21 [.t 53],.m 55 1,.c 56 22 [.t 55],.c 57 24 [.t 54,.t 56],.m 52 57,.e 58 52 0,.e 59 52 1,.m 9 58,.m 10 59] (.s [.m 61 0,.c 62 21 [.t 61],.c 63 25 [.t 62],.m 60 63,.e 64 60 0,.e 65 60 1,.o 11 (.box (.c (.agg [.cplx .f64 0 0, .cplx .f64 0 0, .cplx .f64 0 0, .cplx .f64 0 0]))),.s 4 11 64,.m 12 65] (.s [.m 66 0,.c 67 26 [.t 66],.m 13 67] (.s [.m 68 13,.m 69 1,.c 70 28 [.t 69],.o 71 (.bslice 1 2 [.int .i64 0] [(0, .t 68), (1, .t 70)]),.c 72 27 [.t 71],.m 14 72] (.s [.m 73 14,.m 15 73] (.s [.o 16 (.mov (.c .nilSlice)),.o 17 (.mov (.c .nilSlice)),.o 18 (.mov (.c .nilSlice))] (.s [.o 19 (.box (.c (.agg [.cplx .f64 0 0, .cplx .f64 0 0, .cplx .f64 0 0, .cplx .f64 0 0])))] (.seq (.s [.m 74 14,.v 75 .eql 74 .z] (.i 75 (.s [.m 76 1,.c 77 29 [.t 76],.m 20 77] (.s [.m 78 0,.m 79 20,.c 80 30 [.t 78,.t 79],.m 81 0,.m 82 20,.c 83 31 [.t 81,.t 82],.m 16 80,.m 18 83] (.ops [.m 85 0,.m 86 20,.c 87 32 [.t 85,.t 86],.m 84 87,.e 88 84 0,.e 89 84 1,.m 17 88,.m 15 89]))) .skip)) (.seq (.s [.m 90 13,.v 91 .eql 90 .z] (.i 91 (.s [.o 92 (.mov .z)] (.block 0 (.loop (.s [.v 93 .lss 92 (.n 4)] (.seq (.i 93 .skip (.exit 0)) (.seq (.block 1 (.s [.m 94 92,.m 21 94] (.s [.m 95 0,.m 96 21,.c 97 33 [.t 95,.t 96],.o 22 (.box (.c (.agg [.int .i64 0, .int .i64 0]))),.s 2 22 97] (.ops [.m 98 21,.a 99 0 22,.l 100 99,.o 101 (.conv (.i2f .f64) (.t 100)),.a 102 1 22,.l 103 102,.o 104 (.conv (.i2f .f64) (.t 103)),.o 105 (.cpx (.t 101) (.t 104)),.o 106 (.iada 4 1 (.t 19) (.t 98)),.s 1 106 105])))) (.ops [.v 107 .add 92 .w,.m 92 107]))))))) .skip)) (.r [.m 108 0,.c 109 21 [.t 108],.c 110 34 [.t 109],.m 111 13,.u 112 .eql 110 111,.m 113 112,.t 114 113 true 5,.t 115 113 true 6,.t 116 113 true 14,.t 117 113 true 16,.g 118 113 true (.call (.f 35) [.t 114,.t 115,.t 116,.t 117]),.d 119 113 118,.m 120 119,.t 121 120 true 7,.t 122 120 true 8,.t 123 120 true 15,.t 124 120 true 17,.g 125 120 true (.call (.f 35) [.t 121,.t 122,.t 123,.t 124]),.d 126 120 125,.m 127 126,.t 128 127 true 9,.t 129 127 true 10,.t 130 127 true 14,.t 131 127 true 18,.g 132 127 true (.call (.f 35) [.t 128,.t 129,.t 130,.t 131]),.d 133 127 132,.m 134 133,.g 135 134 true (.load (some 4) (.t 11)),.g 136 134 true (.load (some 4) (.t 19)),.g 137 134 true (.eqv false (.agg [.c, .c, .c, .c]) (.t 135) (.t 136)),.d 138 134 137,.m 139 138,.t 140 139 true 12,.t 141 139 true 13,.g 142 139 true (.bin .eql (.t 140) (.t 141)),.d 143 139 142,.m 4 143]))))))))))))))⟩
def fn4 : AFunc := ⟨131, 2, [(4, none)],(.s [.o 4 (.mov .F)] (.seq (.s [.c 23 17 [],.o 24 (.un .not (.t 23)),.m 25 24,.t 26 25 false 0,.g 27 25 false (.call (.f 19) [.t 26]),.g 28 25 false (.un .not (.t 27)),.f 29 25 28,.m 30 29,.t 31 30 false 1,.g 32 30 false (.call (.f 19) [.t 31]),.g 33 30 false (.un .not (.t 32)),.f 34 30 33] (.j 34 [.c 35 17 [],.m 4 35])) (.s [.m 37 0,.c 38 22 [.t 37],.m 39 1,.c 40 22 [.t 39],.c 41 36 [.t 38,.t 40],.m 36 41,.e 42 36 0,.e 43 36 1,.m 5 42,.m 6 43] (.s [.m 45 0,.c 46 22 [.t 45],.m 47 1,.c 48 22 [.t 47],.c 49 37 [.t 46,.t 48],.m 44 49,.e 50 44 0,.e 51 44 1,.e 52 44 2,.o 8 (.box (.c (.agg [.int .i64 0, .int .i64 0]))),.m 7 50,.s 2 8 51,.m 9 52] (.s [.m 54 0,.c 55 22 [.t 54],.m 56 1,.c 57 22 [.t 56],.c 58 38 [.t 55,.t 57],.m 53 58,.e 59 53 0,.e 60 53 1,.o 10 (.box (.c (.agg [.int .i64 0, .int .i64 0]))),.s 2 10 59,.m 11 60] (.s [.m 61 0,.c 62 28 [.t 61],.m 63 1,.c 64 28 [.t 63],.m 65 0,.n 66 65,.m 67 1,.n 68 67,.u 69 .neq 66 68,.c 70 39 [.t 69,.n 2],.o 71 (.bslice 1 3 [.int .i64 0] [(0, .t 62), (1, .t 64), (2, .t 70)]),.c 72 27 [.t 71],.m 12 72] (.s [.m 73 12,.m 74 12,.m 13 73,.m 14 74] (.s [.o 15 (.mov .z)] (.s [.o 16 (.mov (.c .nilSlice))] (.s [.o 17 (.box (.c (.agg [.int .i64 0, .int .i64 0]))),.o 18 (.box (.c (.agg [.int .i64 0, .int .i64 0])))] (.seq (.s [.m 75 12,.v 76 .eql 75 .z] (.i 76 (.s [.m 77 0,.c 78 29 [.t 77],.m 79 1,.c 80 29 [.t 79],.m 19 78,.m 20 80] (.s [.m 81 19,.m 82 20,.c 83 40 [.t 81,.t 82],.m 15 83] (.s [.m 85 19,.m 86 20,.c 87 41 [.t 85,.t 86],.m 84 87,.e 88 84 0,.e 89 84 1,.e 90 84 2,.m 16 88,.s 2 17 89,.m 13 90] (.ops [.m 92 19,.m 93 20,.c 94 42 [.t 92,.t 93],.m 91 94,.e 95 91 0,.e 96 91 1,.s 2 18 95,.m 14 96])))) .skip)) (.seq (.s [.m 97 13,.v 98 .eql 97 .z] (.i 98 (.s [.m 100 16,.c 101 43 [.t 100],.m 99 101,.e 102 99 0,.e 103 99 1,.m 21 102,.m 22 103] (.s [.m 104 22,.v 105 .neq 104 .z] (.i 105 (.ops [.o 106 (.build [.int .i64 0, .int .i64 0] []),.s 2 17 106]) .skip))) .skip)) (.r [.m 107 5,.m 108 6,.m 109 12,.m 110 15,.c 111 44 [.t 107,.t 108,.t 109,.t 110],.m 112 111,.t 113 112 true 7,.t 114 112 true 9,.t 115 112 true 13,.t 116 112 true 16,.g 117 112 true (.call (.f 35) [.t 113,.t 114,.t 115,.t 116]),.d 118 112 117,.m 119 118,.g 120 119 true (.load (some 2) (.t 8)),.g 121 119 true (.load (some 2) (.t 17)),.g 122 119 true (.eqv false (.agg [.i, .i]) (.t 120) (.t 121)),.d 123 119 122,.m 124 123,.g 125 124 true (.load (some 2) (.t 10)),.t 126 124 true 11,.t 127 124 true 14,.g 128 124 true (.load (some 2) (.t 18)),.g 129 124 true (.call (.f 45) [.t 125,.t 126,.t 127,.t 128]),.d 130 124 129,.m 4 130])))))))))))))⟩
def fn15 : AFunc := ⟨68, 2, [(4, none)],(.s [.o 4 (.mov .F)] (.seq (.s [.c 13 17 [],.o 14 (.un .not (.t 13)),.m 15 14,.t 16 15 false 0,.g 17 15 false (.call (.f 18) [.t 16]),.g 18 15 false (.un .not (.t 17)),.f 19 15 18,.m 20 19,.t 21 20 false 1,.g 22 20 false (.len .st (.t 21)),.g 23 20 false (.bin .gtr (.t 22) (.n 200)),.t 24 20 false 23,.t 25 24 true 1,.g 26 24 true (.len .st (.t 25)),.g 27 24 true (.bin .neq (.t 26) (.n 4097)),.g 28 20 false (.pick (.t 24) (.t 27) .F),.f 29 20 28] (.j 29 [.c 30 17 [],.m 4 30])) (.s [.m 32 0,.c 33 21 [.t 32],.c 34 98 [.t 33],.m 31 34,.e 35 31 0,.e 36 31 1,.m 5 35,.m 6 36] (.s [.m 38 1,.c 39 99 [.t 38],.m 37 39,.e 40 37 0,.e 41 37 1,.m 7 40,.m 8 41] (.s [.m 42 0,.c 43 26 [.t 42],.m 9 43] (.s [.o 10 (.mov (.c (.str [])))] (.seq (.s [.m 44 9,.v 45 .eql 44 .z] (.i 45 (.ops [.m 46 0,.c 47 100 [.t 46],.m 10 47]) .skip)) (.s [.m 49 1,.c 50 101 [.t 49],.m 48 50,.e 51 48 0,.e 52 48 1,.m 11 51,.m 12 52] (.r [.m 53 5,.m 54 10,.u 55 .eql 53 54,.m 56 55,.t 57 56 true 6,.t 58 56 true 9,.g 59 56 true (.bin .eql (.t 57) (.t 58)),.d 60 56 59,.m 61 60,.t 62 61 true 7,.t 63 61 true 8,.t 64 61 true 12,.t 65 61 true 11,.g 66 61 true (.call (.f 85) [.t 62,.t 63,.t 64,.t 65]),.d 67 61 66,.m 4 67])))))))))⟩
def fn16 : AFunc := ⟨81, 2, [(4, none)],(.s [.o 4 (.mov .F)] (.seq (.s [.c 13 17 [],.o 14 (.un .not (.t 13)),.m 15 14,.t 16 15 false 0,.g 17 15 false (.call (.f 18) [.t 16]),.g 18 15 false (.un .not (.t 17)),.f 19 15 18,.m 20 19,.t 21 20 false 0,.g 22 20 false (.call (.f 26) [.t 21]),.g 23 20 false (.bin .neq (.t 22) .z),.f 24 20 23,.m 25 24,.t 26 25 false 1,.g 27 25 false (.len .st (.t 26)),.g 28 25 false (.bin .gtr (.t 27) (.n 200)),.f 29 25 28] (.j 29 [.c 30 17 [],.m 4 30])) (.s [.m 32 0,.c 33 21 [.t 32],.c 34 98 [.t 33],.m 31 34,.e 35 31 0,.e 36 31 1,.m 5 35,.m 6 36] (.s [.m 38 5,.c 39 99 [.t 38],.m 37 39,.e 40 37 0,.e 41 37 1,.m 7 40,.m 8 41] (.seq (.s [.m 42 6,.v 43 .neq 42 .z,.m 44 43,.t 45 44 false 8,.g 46 44 false (.bin .neq (.t 45) .z),.f 47 44 46,.m 48 47,.t 49 48 false 7,.t 50 48 false 0,.g 51 48 false (.call (.f 102) [.t 49,.t 50]),.g 52 48 false (.un .not (.t 51)),.f 53 48 52,.m 54 53,.t 55 54 false 5,.g 56 54 false (.call (.f 103) [.t 55, (.c (.int .u8 32))]),.g 57 54 false (.len .sl (.t 56)),.t 58 54 false 0,.g 59 54 false (.len .sl (.t 58)),.g 60 54 false (.bin .neq (.t 57) (.t 59)),.f 61 54 60] (.j 61 [.o 4 (.mov .F)])) (.seq (.s [.m 63 1,.c 64 99 [.t 63],.m 62 64,.e 65 62 0,.e 66 62 1,.m 9 65,.m 10 66] (.s [.m 67 10,.v 68 .eql 67 .z] (.i 68 (.s [.m 70 9,.c 71 98 [.t 70],.m 69 71,.e 72 69 0,.e 73 69 1,.m 11 72,.m 12 73] (.r [.m 74 12,.v 75 .eql 74 .z,.m 76 75,.t 77 76 true 11,.t 78 76 true 1,.g 79 76 true (.bin .eql (.t 77) (.t 78)),.d 80 76 79,.m 4 80])) .skip))) (.r [.o 4 (.mov .T)])))))))⟩
def fn17 : AFunc := ⟨313, 0, [(0, none)],(.s [.o 0 (.mov .F)] (.s [.o 43 (.bslice 1 2 [.int .i64 0] [(0, .w), (1, (.n (-2)))]),.o 44 (.bslice 1 3 [.flt .f32 0] [(0, (.c (.flt .f32 1065353216))), (1, (.c (.flt .f32 1073741824))), (2, (.c (.flt .f32 1077936128)))]),.c 45 20 [.t 43,.t 44],.m 42 45,.e 46 42 0,.e 47 42 1,.m 1 46,.m 2 47] (.s [.o 49 (.bslice 1 2 [.int .i64 0] [(0, .w), (1, (.n (-2)))]),.o 50 (.bslice 1 3 [.flt .f32 0] [(0, (.c (.flt .f32 1065353216))), (1, (.c (.flt .f32 0))), (2, (.c (.flt .f32 3212836864)))]),.c 51 23 [.t 49,.t 50],.m 48 51,.e 52 48 0,.e 53 48 1,.m 3 52,.m 4 53] (.s [.o 55 (.bslice 1 2 [.int .i64 0] [(0, .w), (1, (.n (-2)))]),.o 56 (.bslice 1 3 [.flt .f32 0] [(0, (.c (.flt .f32 1065353216))), (1, (.c (.flt .f32 1073741824))), (2, (.c (.flt .f32 1077936128)))]),.c 57 24 [.t 55,.t 56],.m 54 57,.e 58 54 0,.e 59 54 1,.m 5 58,.m 6 59] (.s [.o 61 (.bslice 1 3 [.flt .f32 0] [(0, (.c (.flt .f32 1065353216))), (1, (.c (.flt .f32 0))), (2, (.c (.flt .f32 3212836864)))]),.o 62 (.bslice 1 3 [.flt .f32 0] [(0, (.c (.flt .f32 1065353216))), (1, (.c (.flt .f32 1073741824))), (2, (.c (.flt .f32 1077936128)))]),.c 63 36 [.t 61,.t 62],.m 60 63,.e 64 60 0,.e 65 60 1,.m 7 64,.m 8 65] (.s [.o 67 (.bslice 1 2 [.int .i64 0] [(0, .w), (1, (.n (-2)))]),.c 68 25 [.t 67],.m 66 68,.e 69 66 0,.e 70 66 1,.o 9 (.box (.c (.agg [.cplx .f64 0 0, .cplx .f64 0 0, .cplx .f64 0 0, .cplx .f64 0 0]))),.s 4 9 69,.m 10 70] (.s [.o 72 (.bslice 1 4 [.flt .f32 0] [(0, (.c (.flt .f32 1065353216))), (1, (.c (.flt .f32 1073741824))), (2, (.c (.flt .f32 1077936128))), (3, (.c (.flt .f32 1082130432)))]),.c 73 77 [.t 72,.n 2],.m 71 73,.e 74 71 0,.e 75 71 1,.m 11 74,.m 12 75] (.s [.c 77 79 [.n 2],.m 76 77,.e 78 76 0,.e 79 76 1,.m 13 78,.m 14 79] (.s [.o 81 (.bslice 1 4 [.flt .f32 0] [(0, (.c (.flt .f32 1082130432))), (1, (.c (.flt .f32 0))), (2, (.c (.flt .f32 1090519040))), (3, (.c (.flt .f32 0)))]),.c 82 80 [.t 81, .w],.m 80 82,.e 83 80 0,.e 84 80 1,.m 15 83,.m 16 84] (.s [.o 86 (.bslice 1 4 [.flt .f32 0] [(0, (.c (.flt .f32 0))), (1, (.c (.flt .f32 1077936128))), (2, (.c (.flt .f32 0))), (3, (.c (.flt .f32 1094713344)))]),.o 87 (.bslice 1 4 [.flt .f32 0] [(0, (.c (.flt .f32 0))), (1, (.c (.flt .f32 3196059648))), (2, (.c (.flt .f32 0))), (3, (.c (.flt .f32 3212836864)))]),.c 88 37 [.t 86,.t 87],.m 85 88,.e 89 85 0,.e 90 85 1,.e 91 85 2,.o 18 (.box (.c (.agg [.int .i64 0, .int .i64 0]))),.m 17 89,.s 2 18 90,.m 19 91] (.s [.o 93 (.bslice 1 2 [.flt .f32 0] [(0, (.c (.flt .f32 1073741824))), (1, (.c (.flt .f32 0)))]),.o 94 (.bslice 1 2 [.flt .f32 0] [(0, (.c (.flt .f32 1065353216))), (1, (.c (.flt .f32 3212836864)))]),.c 95 38 [.t 93,.t 94],.m 92 95,.e 96 92 0,.e 97 92 1,.o 20 (.box (.c (.agg [.int .i64 0, .int .i64 0]))),.s 2 20 96,.m 21 97] (.s [.o 99 (.bslice 1 4 [.flt .f32 0] [(0, (.c (.flt .f32 1065353216))), (1, (.c (.flt .f32 1091567616))), (2, (.c (.flt .f32 1073741824))), (3, (.c (.flt .f32 1077936128)))]),.c 100 46 [.t 99,.n 16],.m 98 100,.e 101 98 0,.e 102 98 1,.m 22 101,.m 23 102] (.seq (.s [.m 103 2,.m 104 4,.u 105 .add 103 104,.m 106 6,.u 107 .add 105 106,.m 108 8,.u 109 .add 107 108,.m 110 10,.u 111 .add 109 110,.m 112 12,.u 113 .add 111 112,.m 114 14,.u 115 .add 113 114,.m 116 16,.u 117 .add 115 116,.m 118 19,.u 119 .add 117 118,.m 120 21,.u 121 .add 119 120,.m 122 23,.u 123 .add 121 122,.v 124 .neq 123 .z,.m 125 124,.t 126 125 false 1,.g 127 125 false (.bslice 1 3 [.flt .f32 0] [(0, (.c (.flt .f32 1065353216))), (1, (.c (.flt .f32 0))), (2, (.c (.flt .f32 3212836864)))]),.g 128 125 false (.call (.f 58) [.t 126,.t 127]),.g 129 125 false (.un .not (.t 128)),.f 130 125 129,.m 131 130,.t 132 131 false 3,.g 133 131 false (.bslice 1 3 [.flt .f32 0] [(0, (.c (.flt .f32 1065353216))), (1, (.c (.flt .f32 1073741824))), (2, (.c (.flt .f32 1077936128)))]),.g 134 131 false (.call (.f 58) [.t 132,.t 133]),.g 135 131 false (.un .not (.t 134)),.f 136 131 135,.m 137 136,.t 138 137 false 5,.g 139 137 false (.bslice 1 3 [.flt .f32 0] [(0, (.c (.flt .f32 3225419776))), (1, (.c (.flt .f32 3229614080))), (2, (.c (.flt .f32 1077936128)))]),.g 140 137 false (.call (.f 58) [.t 138,.t 139]),.g 141 137 false (.un .not (.t 140)),.f 142 137 141,.m 143 142,.t 144 143 false 7,.g 145 143 false (.bin .neq (.t 144) (.n (-512))),.f 146 143 145,.m 147 146,.g 148 147 false (.load (some 4) (.t 9)),.g 149 147 false (.build [.cplx .f64 0 0, .cplx .f64 0 0, .cplx .f64 0 0, .cplx .f64 0 0] [(0, 1, (.c (.cplx .f64 13830554455654793216 0))), (1, 1, (.c (.cplx .f64 4607182418800017408 4611686018427387904))), (2, 1, (.c (.cplx .f64 4613937818241073152 0))), (3, 1, (.c (.cplx .f64 4607182418800017408 13835058055282163712)))]),.g 150 147 false (.eqv true (.agg [.c, .c, .c, .c]) (.t 148) (.t 149)),.f 151 147 150,.m 152 151,.t 153 152 false 11,.g 154 152 false (.bslice 1 4 [.flt .f32 0] [(0, (.c (.flt .f32 1065353216))), (1, (.c (.flt .f32 1073741824))), (2, (.c (.flt .f32 1073741824))), (3, (.c (.flt .f32 1073741824)))]),.g 155 152 false (.call (.f 58) [.t 153,.t 154]),.g 156 152 false (.un .not (.t 155)),.f 157 152 156,.m 158 157,.t 159 158 false 13,.g 160 158 false (.bslice 1 2 [.int .i64 0] [(0, .z), (1, (.n 2))]),.g 161 158 false (.call (.f 102) [.t 159,.t 160]),.g 162 158 false (.un .not (.t 161)),.f 163 158 162,.m 164 163,.t 165 164 false 15,.g 166 164 false (.bslice 1 4 [.flt .f32 0] [(0, (.c (.flt .f32 0))), (1, (.c (.flt .f32 3196059648))), (2, (.c (.flt .f32 0))), (3, (.c (.flt .f32 3212836864)))]),.g 167 164 false (.call (.f 58) [.t 165,.t 166]),.g 168 164 false (.un .not (.t 167)),.f 169 164 168,.m 170 169,.t 171 170 false 17,.g 172 170 false (.bslice 1 4 [.flt .f32 0] [(0, (.c (.flt .f32 0))), (1, (.c (.flt .f32 0))), (2, (.c (.flt .f32 0))), (3, (.c (.flt .f32 0)))]),.g 173 170 false (.call (.f 58) [.t 171,.t 172]),.g 174 170 false (.un .not (.t 173)),.f 175 170 174,.m 176 175,.g 177 176 false (.load (some 2) (.t 18)),.g 178 176 false (.build [.int .i64 0, .int .i64 0] [(0, 1, (.n (-12))), (1, 1, .w)]),.g 179 176 false (.eqv true (.agg [.i, .i]) (.t 177) (.t 178)),.f 180 176 179,.m 181 180,.g 182 181 false (.load (some 2) (.t 20)),.g 183 181 false (.build [.int .i64 0, .int .i64 0] [(0, 1, .w), (1, 1, (.n 2))]),.g 184 181 false (.eqv true (.agg [.i, .i]) (.t 182) (.t 183)),.f 185 181 184,.m 186 185,.t 187 186 false 22,.g 188 186 false (.bslice 1 4 [.flt .f32 0] [(0, (.c (.flt .f32 1065353216))), (1, (.c (.flt .f32 1077936128))), (2, (.c (.flt .f32 1073741824))), (3, (.c (.flt .f32 1077936128)))]),.g 189 186 false (.call (.f 58) [.t 187,.t 188]),.g 190 186 false (.un .not (.t 189)),.f 191 186 190] (.j 191 [.o 0 (.mov .F)])) (.s [.o 193 (.bslice 1 6 [.int .i64 0] [(0, .w), (1, .w), (2, (.n 2)), (3, (.n 3)), (4, (.n 5)), (5, (.n 9))]),.c 194 76 [.t 193],.c 195 66 [.t 194],.m 192 195,.e 196 192 0,.e 197 192 1,.o 24 (.box (.c (.agg [.int .i64 0, .int .i64 0, .int .i64 0]))),.s 3 24 196,.m 25 197] (.s [.o 199 (.bslice 1 6 [.int .i64 0] [(0, .w), (1, .w), (2, (.n 2)), (3, (.n 3)), (4, (.n 5)), (5, (.n 9))]),.c 200 76 [.t 199],.c 201 67 [.t 200],.m 198 201,.e 202 198 0,.e 203 198 1,.o 26 (.box (.c (.agg [.int .i64 0, .int .i64 0]))),.s 2 26 202,.m 27 203] (.s [.o 205 (.bslice 1 4 [.int .i64 0] [(0, .w), (1, (.n 2)), (2, (.n 4)), (3, (.n 8))]),.c 206 76 [.t 205],.c 207 66 [.t 206],.m 204 207,.e 208 204 0,.e 209 204 1,.o 28 (.box (.c (.agg [.int .i64 0, .int .i64 0, .int .i64 0]))),.s 3 28 208,.m 29 209] (.s [.o 211 (.bslice 1 3 [.flt .f32 0] [(0, (.c (.flt .f32 1098907648))), (1, (.c (.flt .f32 1098907648))), (2, (.c (.flt .f32 1098907648)))]),.c 212 47 [.t 211, .w,.n 2],.m 210 212,.e 213 210 0,.e 214 210 1,.m 30 213,.m 31 214] (.s [.o 216 (.build [.int .i64 0, .int .i64 0] [(0, 1, (.n 10))]),.o 217 (.build [.int .i64 0, .int .i64 0] [(0, 1, (.n 20)), (1, 1, (.n 3))]),.o 218 (.bslice 2 2 [.int .i64 0, .int .i64 0] [(0, .t 216), (2, .t 217)]),.c 219 52 [.t 218,.n 15],.m 215 219,.e 220 215 0,.e 221 215 1,.o 32 (.box (.c (.agg [.int .i64 0, .int .i64 0]))),.s 2 32 220,.m 33 221] (.s [.o 223 (.build [.flt .f32 0, .flt .f32 0, .flt .f32 0, .flt .f32 0] [(0, 1, (.c (.flt .f32 1065353216)))]),.o 224 (.build [.flt .f32 0, .flt .f32 0, .flt .f32 0, .flt .f32 0] [(0, 1, (.c (.flt .f32 1065353216)))]),.o 225 (.build [.flt .f32 0, .flt .f32 0, .flt .f32 0, .flt .f32 0] [(0, 1, (.c (.flt .f32 1065353216)))]),.o 226 (.build [.flt .f32 0, .flt .f32 0, .flt .f32 0, .flt .f32 0] [(0, 1, (.c (.flt .f32 1065353216)))]),.o 227 (.build [.flt .f32 0, .flt .f32 0, .flt .f32 0, .flt .f32 0, .flt .f32 0, .flt .f32 0, .flt .f32 0, .flt .f32 0, .flt .f32 0, .flt .f32 0, .flt .f32 0, .flt .f32 0, .flt .f32 0, .flt .f32 0, .flt .f32 0, .flt .f32 0] [(0, 4, .t 223), (4, 4, .t 224), (8, 4, .t 225), (12, 4, .t 226)]),.c 228 60 [.t 227],.m 222 228,.e 229 222 0,.e 230 222 1,.o 34 (.box (.c (.agg [.cplx .f32 0 0, .cplx .f32 0 0, .cplx .f32 0 0, .cplx .f32 0 0, .cplx .f32 0 0, .cplx .f32 0 0, .cplx .f32 0 0, .cplx .f32 0 0, .cplx .f32 0 0, .cplx .f32 0 0, .cplx .f32 0 0, .cplx .f32 0 0, .cplx .f32 0 0, .cplx .f32 0 0, .cplx .f32 0 0, .cplx .f32 0 0]))),.s 16 34 229,.m 35 230] (.s [.r 232 16 34,.c 233 62 [.t 232, (.c (.int .u16 4369))],.m 231 233,.e 234 231 0,.e 235 231 1,.o 36 (.box (.c (.agg [.cplx .f32 0 0, .cplx .f32 0 0, .cplx .f32 0 0, .cplx .f32 0 0, .cplx .f32 0 0, .cplx .f32 0 0, .cplx .f32 0 0, .cplx .f32 0 0, .cplx .f32 0 0, .cplx .f32 0 0, .cplx .f32 0 0, .cplx .f32 0 0, .cplx .f32 0 0, .cplx .f32 0 0, .cplx .f32 0 0, .cplx .f32 0 0]))),.s 16 36 234,.m 37 235] (.s [.r 237 16 36,.c 238 61 [.t 237],.m 236 238,.e 239 236 0,.e 240 236 1,.o 38 (.box (.c (.agg [.flt .f32 0, .flt .f32 0, .flt .f32 0, .flt .f32 0, .flt .f32 0, .flt .f32 0, .flt .f32 0, .flt .f32 0, .flt .f32 0, .flt .f32 0, .flt .f32 0, .flt .f32 0, .flt .f32 0, .flt .f32 0, .flt .f32 0, .flt .f32 0]))),.s 16 38 239,.m 39 240] (.s [.o 242 (.bslice 1 2 [.int .i64 0] [(0, .w), (1, (.n (-2)))]),.c 243 98 [.t 242],.m 241 243,.e 244 241 0,.e 245 241 1,.m 40 244,.m 41 245] (.r [.m 246 25,.m 247 27,.u 248 .add 246 247,.m 249 31,.u 250 .add 248 249,.m 251 33,.u 252 .add 250 251,.m 253 35,.u 254 .add 252 253,.m 255 37,.u 256 .add 254 255,.m 257 39,.u 258 .add 256 257,.m 259 41,.u 260 .add 258 259,.v 261 .eql 260 .z,.m 262 261,.t 263 262 true 29,.g 264 262 true (.bin .eql (.t 263) (.n 17)),.d 265 262 264,.m 266 265,.g 267 266 true (.load (some 3) (.t 24)),.g 268 266 true (.build [.int .i64 0, .int .i64 0, .int .i64 0] [(0, 1, (.n 4)), (1, 1, (.n 2)), (2, 1, (.n 3))]),.g 269 266 true (.eqv false (.agg [.i, .i, .i]) (.t 267) (.t 268)),.d 270 266 269,.m 271 270,.g 272 271 true (.load (some 2) (.t 26)),.g 273 271 true (.build [.int .i64 0, .int .i64 0] [(0, 1, .w), (1, 1, (.n 3))]),.g 274 271 true (.eqv false (.agg [.i, .i]) (.t 272) (.t 273)),.d 275 271 274,.m 276 275,.t 277 276 true 30,.g 278 276 true (.bslice 1 3 [.flt .f32 0] [(0, (.c (.flt .f32 1090519040))), (1, (.c (.flt .f32 1098907648))), (2, (.c (.flt .f32 1103101952)))]),.g 279 276 true (.call (.f 58) [.t 277,.t 278]),.d 280 276 279,.m 281 280,.g 282 281 true (.load (some 2) (.t 32)),.g 283 281 true (.build [.int .i64 0, .int .i64 0] [(0, 1, (.n 3)), (1, 1, (.n 2))]),.g 284 281 true (.eqv false (.agg [.i, .i]) (.t 282) (.t 283)),.d 285 281 284,.m 286 285,.g 287 286 true (.load (some 16) (.t 34)),.g 288 286 true (.build [.cplx .f32 0 0, .cplx .f32 0 0, .cplx .f32 0 0, .cplx .f32 0 0] [(0, 1, (.c (.cplx .f32 1082130432 0)))]),.g 289 286 true (.build [.cplx .f32 0 0, .cplx .f32 0 0, .cplx .f32 0 0, .cplx .f32 0 0] [(0, 1, (.c (.cplx .f32 1082130432 0)))]),.g 290 286 true (.build [.cplx .f32 0 0, .cplx .f32 0 0, .cplx .f32 0 0, .cplx .f32 0 0] [(0, 1, (.c (.cplx .f32 1082130432 0)))]),.g 291 286 true (.build [.cplx .f32 0 0, .cplx .f32 0 0, .cplx .f32 0 0, .cplx .f32 0 0] [(0, 1, (.c (.cplx .f32 1082130432 0)))]),.g 292 286 true (.build [.cplx .f32 0 0, .cplx .f32 0 0, .cplx .f32 0 0, .cplx .f32 0 0, .cplx .f32 0 0, .cplx .f32 0 0, .cplx .f32 0 0, .cplx .f32 0 0, .cplx .f32 0 0, .cplx .f32 0 0, .cplx .f32 0 0, .cplx .f32 0 0, .cplx .f32 0 0, .cplx .f32 0 0, .cplx .f32 0 0, .cplx .f32 0 0] [(0, 4, .t 288), (4, 4, .t 289), (8, 4, .t 290), (12, 4, .t 291)]),.g 293 286 true (.eqv false (.agg [.c, .c, .c, .c, .c, .c, .c, .c, .c, .c, .c, .c, .c, .c, .c, .c]) (.t 287) (.t 292)),.d 294 286 293,.m 295 294,.g 296 295 true (.load (some 16) (.t 36)),.g 297 295 true (.load (some 16) (.t 34)),.g 298 295 true (.eqv false (.agg [.c, .c, .c, .c, .c, .c, .c, .c, .c, .c, .c, .c, .c, .c, .c, .c]) (.t 296) (.t 297)),.d 299 295 298,.m 300 299,.g 301 300 true (.load (some 16) (.t 38)),.g 302 300 true (.build [.flt .f32 0, .flt .f32 0, .flt .f32 0, .flt .f32 0] [(0, 1, (.c (.flt .f32 1065353216)))]),.g 303 300 true (.build [.flt .f32 0, .flt .f32 0, .flt .f32 0, .flt .f32 0] [(0, 1, (.c (.flt .f32 1065353216)))]),.g 304 300 true (.build [.flt .f32 0, .flt .f32 0, .flt .f32 0, .flt .f32 0] [(0, 1, (.c (.flt .f32 1065353216)))]),.g 305 300 true (.build [.flt .f32 0, .flt .f32 0, .flt .f32 0, .flt .f32 0] [(0, 1, (.c (.flt .f32 1065353216)))]),.g 306 300 true (.build [.flt .f32 0, .flt .f32 0, .flt .f32 0, .flt .f32 0, .flt .f32 0, .flt .f32 0, .flt .f32 0, .flt .f32 0, .flt .f32 0, .flt .f32 0, .flt .f32 0, .flt .f32 0, .flt .f32 0, .flt .f32 0, .flt .f32 0, .flt .f32 0] [(0, 4, .t 302), (4, 4, .t 303), (8, 4, .t 304), (12, 4, .t 305)]),.g 307 300 true (.eqv false (.agg [.f, .f, .f, .f, .f, .f, .f, .f, .f, .f, .f, .f, .f, .f, .f, .f]) (.t 301) (.t 306)),.d 308 300 307,.m 309 308,.t 310 309 true 40,.g 311 309 true (.bin .eql (.t 310) (.c (.str [49, 32, 45, 50]))),.d 312 309 311,.m 0 312])))))))))))))))))))))))⟩
def fn18 : AFunc := ⟨6, 1, [(2, none)],(.s [.o 2 (.mov .F)] (.r [.m 3 0,.n 4 3,.v 5 .leq 4 (.n 9),.m 2 5]))⟩
def fn19 : AFunc := ⟨11, 1, [(2, none)],(.s [.o 2 (.mov .F)] (.r [.m 3 0,.n 4 3,.v 5 .leq 4 (.n 32),.m 6 5,.t 7 6 false 0,.g 8 6 false (.len .sl (.t 7)),.g 9 6 false (.bin .eql (.t 8) (.n 1025)),.f 10 6 9,.m 2 10]))⟩
def fn20 : AFunc := ⟨20, 2, [(4, none), (5, none)],(.s [.o 4 (.mov (.c .nilSlice)),.o 5 (.mov .z)] (.seq (.s [.m 7 0,.m 8 1,.c 9 104 [.t 7,.t 8],.m 6 9] (.s [.m 10 6,.v 11 .neq 10 .z] (.j 11 [.m 12 6,.o 4 (.mov (.c .nilSlice)),.m 5 12]))) (.r [.m 13 0,.m 14 1,.c 15 107 [.t 14, (.f 108)],.c 16 106 [.t 13,.t 15,.n (-1)],.c 17 105 [.t 16],.e 18 17 0,.e 19 17 1,.m 4 18,.m 5 19])))⟩
def fn21 : AFunc := ⟨6, 1, [(2, none)],(.s [.o 2 (.mov (.c .nilSlice))] (.r [.o 3 (.bslice 1 0 [.int .i64 0] []),.m 4 0,.o 5 (.app 1 8 (.t 3) (.t 4)),.m 2 5]))⟩
def fn22 : AFunc := ⟨6, 1, [(2, none)],(.s [.o 2 (.mov (.c .nilSlice))] (.r [.o 3 (.bslice 1 0 [.flt .f32 0] []),.m 4 0,.o 5 (.app 1 4 (.t 3) (.t 4)),.m 2 5]))⟩
def fn23 : AFunc := ⟨29, 2, [(4, none), (5, none)],(.s [.o 4 (.mov (.c .nilSlice)),.o 5 (.mov .z)] (.seq (.s [.m 7 0,.m 8 1,.c 9 104 [.t 7,.t 8],.m 6 9] (.s [.m 10 6,.v 11 .neq 10 .z] (.j 11 [.m 12 6,.o 4 (.mov (.c .nilSlice)),.m 5 12]))) (.seq (.s [.m 13 0,.o 14 (.iadr 1 (.t 13) .z),.l 15 14,.v 16 .neq 15 .w,.m 17 16,.t 18 17 true 0,.g 19 17 true (.iadr 1 (.t 18) .z),.g 20 17 true (.load none (.t 19)),.g 21 17 true (.bin .neq (.t 20) (.n (-1))),.d 22 17 21] (.j 22 [.o 4 (.mov (.c .nilSlice)),.o 5 (.mov (.n 21))])) (.r [.m 23 0,.m 24 1,.c 25 107 [.t 24, (.f 108)],.c 26 109 [.t 23,.t 25],.e 27 26 0,.e 28 26 1,.m 4 27,.m 5 28]))))⟩
def fn24 : AFunc := ⟨20, 2, [(4, none), (5, none)],(.s [.o 4 (.mov (.c .nilSlice)),.o 5 (.mov .z)] (.seq (.s [.m 7 0,.m 8 1,.c 9 104 [.t 7,.t 8],.m 6 9] (.s [.m 10 6,.v 11 .neq 10 .z] (.j 11 [.m 12 6,.o 4 (.mov (.c .nilSlice)),.m 5 12]))) (.r [.m 13 0,.m 14 1,.c 15 107 [.t 14, (.f 108)],.c 16 106 [.t 13,.t 15, .w],.c 17 105 [.t 16],.e 18 17 0,.e 19 17 1,.m 4 18,.m 5 19])))⟩
def fn25 : AFunc := ⟨47, 1, [(2, some (some 4)), (3, none)],(.s [.o 2 (.box (.c (.agg [.cplx .f64 0 0, .cplx .f64 0 0, .cplx .f64 0 0, .cplx .f64 0 0]))),.o 3 (.mov .z)] (.seq (.s [.m 10 0,.c 11 34 [.t 10],.m 4 11] (.s [.m 12 4,.v 13 .neq 12 .z] (.j 13 [.o 14 (.build [.cplx .f64 0 0, .cplx .f64 0 0, .cplx .f64 0 0, .cplx .f64 0 0] []),.m 15 4,.s 4 2 14,.m 3 15]))) (.s [.o 5 (.box (.c (.agg [.cplx .f64 0 0, .cplx .f64 0 0, .cplx .f64 0 0, .cplx .f64 0 0])))] (.seq (.s [.o 16 (.mov .z)] (.block 0 (.loop (.s [.v 17 .lss 16 (.n 4)] (.seq (.i 17 .skip (.exit 0)) (.seq (.block 1 (.s [.m 18 16,.m 6 18] (.s [.o 7 (.box (.c (.agg [.int .i64 0, .int .i64 0])))] (.seq (.s [.m 19 0,.n 20 19,.o 21 (.mov .z)] (.block 2 (.loop (.s [.u 22 .lss 21 20] (.seq (.i 22 .skip (.exit 2)) (.seq (.block 3 (.s [.m 23 21,.h 24 1 19 21,.l 25 24,.m 8 23,.m 9 25] (.ops [.y 26 (.load (some 2) (.t 7)),.w 27 9,.y 28 (.build [.int .i64 0, .int .i64 0] [(0, 1, .t 27)]),.w 29 8,.y 30 (.bin .mul (.n 3) (.t 29)),.w 31 6,.y 32 (.bin .mul (.t 30) (.t 31)),.y 33 (.call (.f 111) [.t 28,.t 32]),.c 34 110 [.t 26,.t 33],.s 2 7 34]))) (.ops [.v 35 .add 21 .w,.m 21 35]))))))) (.ops [.m 36 6,.a 37 0 7,.l 38 37,.o 39 (.conv (.i2f .f64) (.t 38)),.a 40 1 7,.l 41 40,.o 42 (.conv (.i2f .f64) (.t 41)),.o 43 (.cpx (.t 39) (.t 42)),.o 44 (.iada 4 1 (.t 5) (.t 36)),.s 1 44 43]))))) (.ops [.v 45 .add 16 .w,.m 16 45]))))))) (.r [.r 46 4 5,.s 4 2 46,.o 3 (.mov .z)])))))⟩
def fn26 : AFunc := ⟨29, 1, [(2, none)],(.s [.o 2 (.mov .z)] (.seq (.s [.m 5 0,.n 6 5,.v 7 .eql 6 .z] (.j 7 [.o 2 (.mov (.n 12))])) (.seq (.s [.m 8 0,.n 9 8,.v 10 .gtr 9 (.n 8)] (.j 10 [.o 2 (.mov (.n 5))])) (.seq (.s [.o 3 (.mov .z)] (.block 0 (.loop (.seq (.s [.m 11 3,.m 12 0,.n 13 12,.u 14 .lss 11 13] (.i 14 .skip (.exit 0))) (.seq (.block 1 (.s [.m 17 0,.m 18 3,.h 19 1 17 18,.l 20 19,.c 21 48 [.t 20,.n (-16),.n 16],.m 4 21] (.s [.m 22 4,.v 23 .neq 22 .z] (.j 23 [.m 24 4,.m 2 24])))) (.ops [.m 15 3,.v 16 .add 15 .w,.m 3 16])))))) (.seq (.s [.m 25 0,.o 26 (.iadr 1 (.t 25) .z),.l 27 26,.v 28 .eql 27 .z] (.j 28 [.o 2 (.mov (.n 6))])) (.r [.o 2 (.mov .z)]))))))⟩
def fn27 : AFunc := ⟨19, 1, [(2, none)],(.s [.o 2 (.mov .z)] (.seq (.s [.o 3 (.mov .z)] (.block 0 (.loop (.seq (.s [.m 4 3,.m 5 0,.n 6 5,.u 7 .lss 4 6] (.i 7 .skip (.exit 0))) (.seq (.block 1 (.s [.m 10 0,.m 11 3,.h 12 1 10 11,.l 13 12,.v 14 .neq 13 .z] (.j 14 [.m 15 0,.m 16 3,.h 17 1 15 16,.l 18 17,.m 2 18]))) (.ops [.m 8 3,.v 9 .add 8 .w,.m 3 9])))))) (.r [.o 2 (.mov .z)])))⟩
def fn28 : AFunc := ⟨8, 1, [(2, none)],(.s [.o 2 (.mov .z)] (.seq (.s [.m 3 0,.n 4 3,.v 5 .gtr 4 (.n 1024)] (.j 5 [.o 2 (.mov (.n 5))])) (.r [.m 6 0,.c 7 75 [.t 6],.m 2 7])))⟩
def fn29 : AFunc := ⟨20, 1, [(2, none)],(.s [.o 2 (.mov (.c .nilSlice))] (.s [.o 3 (.mov (.c .nilSlice))] (.seq (.s [.o 4 (.mov .z)] (.block 0 (.loop (.seq (.s [.m 5 4,.m 6 0,.n 7 6,.u 8 .lss 5 7] (.i 8 .skip (.exit 0))) (.seq (.block 1 (.ops [.m 11 3,.m 12 0,.m 13 4,.h 14 1 12 13,.l 15 14,.c 16 64 [.t 15],.o 17 (.bslice 1 1 [.int .i64 0] [(0, .t 16)]),.o 18 (.app 1 8 (.t 11) (.t 17)),.m 3 18])) (.ops [.m 9 4,.v 10 .add 9 .w,.m 4 10])))))) (.r [.m 19 3,.m 2 19]))))⟩
def fn30 : AFunc := ⟨44, 2, [(4, none)],(.s [.o 4 (.mov (.c .nilSlice))] (.s [.o 5 (.mov (.c .nilSlice))] (.seq (.s [.o 6 (.mov .z)] (.block 0 (.loop (.seq (.s [.m 9 6,.m 10 1,.n 11 10,.u 12 .lss 9 11] (.i 12 .skip (.exit 0))) (.seq (.block 1 (.s [.o 7 (.mov .z)] (.seq (.s [.o 8 (.mov .z)] (.block 2 (.loop (.seq (.s [.m 15 8,.m 16 0,.n 17 16,.u 18 .lss 15 17,.m 19 18,.t 20 19 true 8,.t 21 19 true 6,.g 22 19 true (.bin .leq (.t 20) (.t 21)),.d 23 19 22] (.i 23 .skip (.exit 2))) (.seq (.block 3 (.ops [.w 26 7,.w 27 0,.w 28 8,.y 29 (.iadr 1 (.t 27) (.t 28)),.j 30 29,.w 31 1,.w 32 6,.w 33 8,.y 34 (.bin .sub (.t 32) (.t 33)),.y 35 (.iadr 1 (.t 31) (.t 34)),.j 36 35,.y 37 (.bin .mul (.t 30) (.t 36)),.u 38 .add 26 37,.m 7 38])) (.ops [.m 24 8,.v 25 .add 24 .w,.m 8 25])))))) (.ops [.m 39 5,.m 40 7,.o 41 (.bslice 1 1 [.int .i64 0] [(0, .t 40)]),.o 42 (.app 1 8 (.t 39) (.t 41)),.m 5 42])))) (.ops [.m 13 6,.v 14 .add 13 .w,.m 6 14])))))) (.r [.m 43 5,.m 4 43]))))⟩
def fn31 : AFunc := ⟨47, 2, [(4, none)],(.s [.o 4 (.mov (.c .nilSlice))] (.s [.o 5 (.mov (.c .nilSlice))] (.seq (.s [.o 6 (.mov .z)] (.block 0 (.loop (.seq (.s [.m 9 6,.m 10 1,.n 11 10,.u 12 .lss 9 11] (.i 12 .skip (.exit 0))) (.seq (.block 1 (.s [.o 7 (.mov .z)] (.seq (.s [.o 8 (.mov .z)] (.block 2 (.loop (.seq (.s [.m 15 8,.m 16 0,.n 17 16,.u 18 .lss 15 17,.m 19 18,.t 20 19 true 6,.t 21 19 true 8,.g 22 19 true (.bin .add (.t 20) (.t 21)),.t 23 19 true 1,.g 24 19 true (.len .sl (.t 23)),.g 25 19 true (.bin .lss (.t 22) (.t 24)),.d 26 19 25] (.i 26 .skip (.exit 2))) (.seq (.block 3 (.ops [.w 29 7,.w 30 0,.w 31 8,.y 32 (.iadr 1 (.t 30) (.t 31)),.j 33 32,.w 34 1,.w 35 6,.w 36 8,.y 37 (.bin .add (.t 35) (.t 36)),.y 38 (.iadr 1 (.t 34) (.t 37)),.j 39 38,.y 40 (.bin .mul (.t 33) (.t 39)),.u 41 .add 29 40,.m 7 41])) (.ops [.m 27 8,.v 28 .add 27 .w,.m 8 28])))))) (.ops [.m 42 5,.m 43 7,.o 44 (.bslice 1 1 [.int .i64 0] [(0, .t 43)]),.o 45 (.app 1 8 (.t 42) (.t 44)),.m 5 45])))) (.ops [.m 13 6,.v 14 .add 13 .w,.m 6 14])))))) (.r [.m 46 5,.m 4 46]))))⟩
def fn32 : AFunc := ⟨66, 2, [(4, none), (5, none)],(.s [.o 4 (.mov (.c .nilSlice)),.o 5 (.mov .z)] (.seq (.s [.m 10 0,.o 11 (.iadr 1 (.t 10) .z),.l 12 11,.v 13 .neq 12 .w,.m 14 13,.t 15 14 true 0,.g 16 14 true (.iadr 1 (.t 15) .z),.g 17 14 true (.load none (.t 16)),.g 18 14 true (.bin .neq (.t 17) (.n (-1))),.d 19 14 18] (.j 19 [.o 4 (.mov (.c .nilSlice)),.o 5 (.mov (.n 21))])) (.s [.o 6 (.mov (.c .nilSlice))] (.seq (.s [.o 7 (.mov .z)] (.block 0 (.loop (.seq (.s [.m 20 7,.m 21 1,.n 22 21,.u 23 .lss 20 22] (.i 23 .skip (.exit 0))) (.seq (.block 1 (.s [.m 26 1,.m 27 7,.h 28 1 26 27,.l 29 28,.m 8 29] (.seq (.s [.o 9 (.mov .w)] (.block 2 (.loop (.seq (.s [.m 30 9,.m 31 0,.n 32 31,.u 33 .lss 30 32,.m 34 33,.t 35 34 true 9,.t 36 34 true 7,.g 37 34 true (.bin .leq (.t 35) (.t 36)),.d 38 34 37] (.i 38 .skip (.exit 2))) (.seq (.block 3 (.ops [.w 41 8,.w 42 0,.w 43 9,.y 44 (.iadr 1 (.t 42) (.t 43)),.j 45 44,.w 46 6,.w 47 7,.w 48 9,.y 49 (.bin .sub (.t 47) (.t 48)),.y 50 (.iadr 1 (.t 46) (.t 49)),.j 51 50,.y 52 (.bin .mul (.t 45) (.t 51)),.u 53 .sub 41 52,.m 8 53])) (.ops [.m 39 9,.v 40 .add 39 .w,.m 9 40])))))) (.s [.m 54 8,.m 55 0,.o 56 (.iadr 1 (.t 55) .z),.l 57 56,.u 58 .mul 54 57,.m 8 58] (.seq (.s [.m 59 8,.c 60 112 [.t 59]] (.j 60 [.o 4 (.mov (.c .nilSlice)),.o 5 (.mov (.n 4))])) (.ops [.m 61 6,.m 62 8,.o 63 (.bslice 1 1 [.int .i64 0] [(0, .t 62)]),.o 64 (.app 1 8 (.t 61) (.t 63)),.m 6 64])))))) (.ops [.m 24 7,.v 25 .add 24 .w,.m 7 25])))))) (.r [.m 65 6,.m 4 65,.o 5 (.mov .z)])))))⟩
def fn33 : AFunc := ⟨28, 2, [(4, some (some 2))],(.s [.o 4 (.box (.c (.agg [.int .i64 0, .int .i64 0])))] (.s [.o 5 (.box (.c (.agg [.int .i64 0, .int .i64 0])))] (.seq (.s [.o 6 (.mov .z)] (.block 0 (.loop (.seq (.s [.m 7 6,.m 8 0,.n 9 8,.u 10 .lss 7 9] (.i 10 .skip (.exit 0))) (.seq (.block 1 (.ops [.y 13 (.load (some 2) (.t 5)),.w 14 0,.w 15 6,.y 16 (.iadr 1 (.t 14) (.t 15)),.j 17 16,.y 18 (.build [.int .i64 0, .int .i64 0] [(0, 1, .t 17)]),.w 19 6,.y 20 (.bin .mul (.n 3) (.t 19)),.w 21 1,.y 22 (.bin .mul (.t 20) (.t 21)),.y 23 (.bin .rem (.t 22) (.n 4)),.y 24 (.call (.f 115) [.t 23]),.y 25 (.call (.f 114) [.t 18,.t 24]),.c 26 113 [.t 13,.t 25],.s 2 5 26])) (.ops [.m 11 6,.v 12 .add 11 .w,.m 6 12])))))) (.r [.r 27 2 5,.s 2 4 27]))))⟩
def fn34 : AFunc := ⟨27, 1, [(2, none)],(.s [.o 2 (.mov .z)] (.seq (.s [.m 4 0,.n 5 4,.v 6 .eql 5 .z,.c 7 117 [.t 6,.n 12],.m 8 0,.n 9 8,.v 10 .gtr 9 (.n 8),.c 11 117 [.t 10,.n 5],.o 12 (.bslice 1 2 [.int .i64 0] [(0, .t 7), (1, .t 11)]),.c 13 116 [.t 12],.m 3 13] (.s [.m 14 3,.v 15 .neq 14 .z] (.j 15 [.m 16 3,.m 2 16]))) (.r [.w 17 0,.y 18 (.call (.f 118) [.t 17, (.f 119)]),.y 19 (.call (.f 116) [.t 18]),.w 20 0,.y 21 (.iadr 1 (.t 20) .z),.j 22 21,.y 23 (.bin .eql (.t 22) .z),.c 24 117 [.t 23,.n 6],.o 25 (.bslice 1 2 [.int .i64 0] [(0, .t 19), (1, .t 24)]),.c 26 116 [.t 25],.m 2 26])))⟩
def fn35 : AFunc := ⟨43, 4, [(8, none)],(.s [.o 8 (.mov .F)] (.seq (.s [.m 11 2,.v 12 .neq 11 .z] (.j 12 [.m 13 1,.m 14 2,.u 15 .eql 13 14,.m 16 15,.t 17 16 true 0,.g 18 16 true (.len .sl (.t 17)),.g 19 16 true (.bin .eql (.t 18) .z),.d 20 16 19,.m 8 20])) (.s [.m 22 3,.c 23 43 [.t 22],.m 21 23,.e 24 21 0,.e 25 21 1,.m 9 24,.m 10 25] (.seq (.s [.m 26 10,.v 27 .neq 26 .z] (.j 27 [.m 28 1,.m 29 10,.u 30 .eql 28 29,.m 31 30,.t 32 31 true 0,.g 33 31 true (.len .sl (.t 32)),.g 34 31 true (.bin .eql (.t 33) .z),.d 35 31 34,.m 8 35])) (.r [.m 36 1,.v 37 .eql 36 .z,.m 38 37,.t 39 38 true 0,.t 40 38 true 9,.g 41 38 true (.call (.f 58) [.t 39,.t 40]),.d 42 38 41,.m 8 42])))))⟩
def fn36 : AFunc := ⟨18, 2, [(4, none), (5, none)],(.s [.o 4 (.mov .z),.o 5 (.mov .z)] (.seq (.s [.m 7 0,.m 8 1,.c 9 121 [.t 7,.t 8],.m 6 9] (.s [.m 10 6,.v 11 .neq 10 .z] (.j 11 [.m 12 6,.o 4 (.mov .z),.m 5 12]))) (.r [.m 13 0,.c 14 107 [.t 13, (.f 108)],.m 15 1,.c 16 107 [.t 15, (.f 108)],.c 17 122 [.t 14,.t 16],.m 4 17,.o 5 (.mov .z)])))⟩
def fn37 : AFunc := ⟨51, 2, [(4, none), (5, some (some 2)), (6, none)],(.s [.o 4 (.mov (.c .nilSlice)),.o 5 (.box (.c (.agg [.int .i64 0, .int .i64 0]))),.o 6 (.mov .z)] (.seq (.s [.m 14 0,.m 15 1,.c 16 121 [.t 14,.t 15],.m 7 16] (.s [.m 17 7,.v 18 .neq 17 .z] (.j 18 [.o 19 (.build [.int .i64 0, .int .i64 0] []),.m 20 7,.o 4 (.mov (.c .nilSlice)),.s 2 5 19,.m 6 20]))) (.s [.m 21 0,.c 22 107 [.t 21, (.f 108)],.m 23 1,.c 24 107 [.t 23, (.f 108)],.m 8 22,.m 9 24] (.s [.m 25 9,.c 26 123 [.t 25],.o 10 (.box .z),.s 1 10 26] (.seq (.s [.l 27 10,.v 28 .eql 27 .z] (.j 28 [.o 29 (.build [.int .i64 0, .int .i64 0] []),.o 4 (.mov (.c .nilSlice)),.s 2 5 29,.o 6 (.mov (.n 17))])) (.s [.m 30 8,.m 31 9,.c 32 122 [.t 30,.t 31],.o 11 (.box .z),.s 1 11 32] (.s [.m 34 8,.m 35 9,.c 36 126 [.t 34,.t 35],.c 37 125 [.t 36],.o 38 (.mkfn (.func 127) [] [.t 10,.t 11]),.c 39 124 [.t 37,.t 38],.c 40 105 [.t 39],.m 33 40,.e 41 33 0,.e 42 33 1,.m 12 41,.m 13 42] (.seq (.s [.m 43 13,.v 44 .neq 43 .z] (.j 44 [.o 45 (.build [.int .i64 0, .int .i64 0] []),.m 46 13,.o 4 (.mov (.c .nilSlice)),.s 2 5 45,.m 6 46])) (.r [.m 47 12,.l 48 11,.l 49 10,.c 50 129 [.t 48,.t 49],.m 4 47,.s 2 5 50,.o 6 (.mov .z)])))))))))⟩
def fn38 : AFunc := ⟨36, 2, [(4, some (some 2)), (5, none)],(.s [.o 4 (.box (.c (.agg [.int .i64 0, .int .i64 0]))),.o 5 (.mov .z)] (.seq (.s [.m 11 0,.m 12 1,.c 13 121 [.t 11,.t 12],.m 6 13] (.s [.m 14 6,.v 15 .neq 14 .z] (.j 15 [.o 16 (.build [.int .i64 0, .int .i64 0] []),.m 17 6,.s 2 4 16,.m 5 17]))) (.s [.m 18 0,.c 19 107 [.t 18, (.f 108)],.m 20 1,.c 21 107 [.t 20, (.f 108)],.m 7 19,.m 8 21] (.s [.m 22 7,.c 23 123 [.t 22],.m 9 23] (.seq (.s [.m 24 9,.v 25 .eql 24 .z] (.j 25 [.o 26 (.build [.int .i64 0, .int .i64 0] []),.s 2 4 26,.o 5 (.mov (.n 6))])) (.s [.m 27 7,.m 28 8,.c 29 126 [.t 27,.t 28],.c 30 125 [.t 29],.c 31 124 [.t 30, (.f 130)],.m 10 31] (.r [.m 32 10,.c 33 123 [.t 32],.m 34 9,.c 35 129 [.t 33,.t 34],.s 2 4 35,.o 5 (.mov .z)])))))))⟩
def fn39 : AFunc := ⟨7, 2, [(4, none)],(.s [.o 4 (.mov .z)] (.seq (.s [.m 5 0] (.j 5 [.m 6 1,.m 4 6])) (.r [.o 4 (.mov .z)])))⟩
def fn40 : AFunc := ⟨25, 2, [(4, none)],(.s [.o 4 (.mov .z)] (.s [.o 5 (.mov .z)] (.seq (.s [.o 6 (.mov .z)] (.block 0 (.loop (.seq (.s [.m 7 6,.m 8 0,.n 9 8,.u 10 .lss 7 9] (.i 10 .skip (.exit 0))) (.seq (.block 1 (.ops [.w 13 5,.w 14 0,.w 15 6,.y 16 (.iadr 1 (.t 14) (.t 15)),.j 17 16,.w 18 1,.w 19 6,.y 20 (.iadr 1 (.t 18) (.t 19)),.j 21 20,.y 22 (.bin .mul (.t 17) (.t 21)),.u 23 .add 13 22,.m 5 23])) (.ops [.m 11 6,.v 12 .add 11 .w,.m 6 12])))))) (.r [.m 24 5,.m 4 24]))))⟩
def fn43 : AFunc := ⟨26, 1, [(2, none), (3, none)],(.s [.o 2 (.mov (.c .nilSlice)),.o 3 (.mov .z)] (.s [.o 4 (.mov (.c .nilSlice))] (.seq (.s [.o 5 (.mov .z)] (.block 0 (.loop (.seq (.s [.m 6 5,.m 7 0,.n 8 7,.u 9 .lss 6 8] (.i 9 .skip (.exit 0))) (.seq (.block 1 (.seq (.s [.m 12 0,.m 13 5,.h 14 1 12 13,.l 15 14,.c 16 112 [.t 15]] (.j 16 [.o 2 (.mov (.c .nilSlice)),.o 3 (.mov (.n 4))])) (.ops [.m 17 4,.m 18 0,.m 19 5,.h 20 1 18 19,.l 21 20,.c 22 133 [.t 21],.o 23 (.bslice 1 1 [.flt .f32 0] [(0, .t 22)]),.o 24 (.app 1 4 (.t 17) (.t 23)),.m 4 24]))) (.ops [.m 10 5,.v 11 .add 10 .w,.m 5 11])))))) (.r [.m 25 4,.m 2 25,.o 3 (.mov .z)]))))⟩
def fn45 : AFunc := ⟨30, 4, [(8, none)],(.s [.p 4 0,.p 7 3,.o 8 (.mov .F)] (.r [.m 9 1,.m 10 2,.u 11 .eql 9 10,.m 12 11,.t 13 12 true 2,.g 14 12 true (.bin .neq (.t 13) .z),.t 15 12 true 14,.g 16 15 true (.load (some 2) (.t 4)),.g 17 15 true (.build [.int .i64 0, .int .i64 0] []),.g 18 15 true (.eqv false (.agg [.i, .i]) (.t 16) (.t 17)),.g 19 12 true (.pick (.t 15) (.t 18) .F),.t 20 12 true 19,.t 21 20 false 2,.g 22 20 false (.bin .eql (.t 21) .z),.t 23 20 false 22,.g 24 23 true (.load (some 2) (.t 4)),.g 25 23 true (.load (some 2) (.t 7)),.g 26 23 true (.eqv false (.agg [.i, .i]) (.t 24) (.t 25)),.g 27 20 false (.pick (.t 23) (.t 26) .F),.g 28 12 true (.pick (.t 20) .T (.t 27)),.d 29 12 28,.m 8 29]))⟩
def fn46 : AFunc := ⟨62, 2, [(4, none), (5, none)],(.s [.o 4 (.mov (.c .nilSlice)),.o 5 (.mov .z)] (.seq (.s [.m 11 0,.c 12 134 [.t 11],.m 13 1,.c 14 120 [.t 13, .z,.n 16384],.o 15 (.bslice 1 2 [.int .i64 0] [(0, .t 12), (1, .t 14)]),.c 16 116 [.t 15],.m 6 16] (.s [.m 17 6,.v 18 .neq 17 .z] (.j 18 [.m 19 6,.o 4 (.mov (.c .nilSlice)),.m 5 19]))) (.s [.m 20 0,.c 21 107 [.t 20, (.f 108)],.m 7 21] (.s [.m 22 7,.c 23 135 [.t 22],.m 8 23] (.seq (.s [.o 9 (.mov .w)] (.block 0 (.loop (.seq (.s [.m 24 9,.m 25 7,.n 26 25,.v 27 .sub 26 .w,.u 28 .lss 24 27] (.i 28 .skip (.exit 0))) (.seq (.block 1 (.s [.m 31 7,.m 32 9,.v 33 .sub 32 .w,.m 34 9,.v 35 .add 34 (.n 2),.o 36 (.sl 1 (.t 31) (some (.t 33)) (some (.t 35))),.c 37 137 [.t 36],.c 38 136 [.t 37],.m 10 38] (.ops [.w 39 8,.w 40 9,.w 41 7,.w 42 9,.y 43 (.iadr 1 (.t 41) (.t 42)),.j 44 43,.w 45 10,.y 46 (.iadr 1 (.t 45) .w),.j 47 46,.w 48 1,.y 49 (.bin .sub (.t 47) (.t 48)),.y 50 (.mx (.t 44) [.t 49]),.w 51 10,.y 52 (.iadr 1 (.t 51) .w),.j 53 52,.w 54 1,.y 55 (.bin .add (.t 53) (.t 54)),.y 56 (.mn (.t 50) [.t 55]),.h 57 1 39 40,.s 1 57 56]))) (.ops [.m 29 9,.v 30 .add 29 .w,.m 9 30])))))) (.r [.m 58 8,.c 59 105 [.t 58],.e 60 59 0,.e 61 59 1,.m 4 60,.m 5 61]))))))⟩
def fn47 : AFunc := ⟨47, 3, [(6, none), (7, none)],(.s [.o 6 (.mov (.c .nilSlice)),.o 7 (.mov .z)] (.seq (.s [.m 12 0,.c 13 134 [.t 12],.m 14 1,.c 15 120 [.t 14, .z,.n 1024],.m 16 2,.c 17 120 [.t 16, .w,.n 1024],.o 18 (.bslice 1 3 [.int .i64 0] [(0, .t 13), (1, .t 15), (2, .t 17)]),.c 19 116 [.t 18],.m 8 19] (.s [.m 20 8,.v 21 .neq 20 .z] (.j 21 [.m 22 8,.o 6 (.mov (.c .nilSlice)),.m 7 22]))) (.s [.m 23 0,.c 24 107 [.t 23, (.f 108)],.m 9 24] (.seq (.s [.m 25 9,.n 26 25,.o 27 (.mov .z)] (.block 0 (.loop (.s [.u 28 .lss 27 26] (.seq (.i 28 .skip (.exit 0)) (.seq (.block 1 (.s [.m 29 27,.h 30 1 25 27,.l 31 30,.m 10 29,.m 11 31] (.ops [.m 32 9,.m 33 10,.m 34 11,.m 35 10,.m 36 1,.u 37 .add 35 36,.u 38 .mul 34 37,.m 39 2,.c 40 128 [.t 38,.t 39],.h 41 1 32 33,.s 1 41 40]))) (.ops [.v 42 .add 27 .w,.m 27 42]))))))) (.r [.m 43 9,.c 44 105 [.t 43],.e 45 44 0,.e 46 44 1,.m 6 45,.m 7 46])))))⟩
def fn48 : AFunc := ⟨16, 3, [(6, none)],(.s [.o 6 (.mov .z)] (.r [.m 7 0,.m 8 1,.u 9 .lss 7 8,.m 10 9,.t 11 10 false 0,.t 12 10 false 2,.g 13 10 false (.bin .gtr (.t 11) (.t 12)),.f 14 10 13,.c 15 39 [.t 14,.n 3],.m 6 15]))⟩
def fn51 : AFunc := ⟨11, 1, [(2, none)],(.s [.o 2 (.mov .F)] (.r [.m 3 0,.n 4 3,.v 5 .leq 4 (.n 4),.m 6 5,.t 7 6 false 0,.g 8 6 false (.len .sl (.t 7)),.g 9 6 false (.bin .eql (.t 8) (.n 17)),.f 10 6 9,.m 2 10]))⟩
def fn52 : AFunc := ⟨20, 2, [(4, some (some 2)), (5, none)],(.s [.o 4 (.box (.c (.agg [.int .i64 0, .int .i64 0]))),.o 5 (.mov .z)] (.seq (.s [.m 7 0,.c 8 56 [.t 7],.m 9 1,.c 10 120 [.t 9, .z,.n 100000],.o 11 (.bslice 1 2 [.int .i64 0] [(0, .t 8), (1, .t 10)]),.c 12 116 [.t 11],.m 6 12] (.s [.m 13 6,.v 14 .neq 13 .z] (.j 14 [.o 15 (.build [.int .i64 0, .int .i64 0] []),.m 16 6,.s 2 4 15,.m 5 16]))) (.r [.m 17 0,.m 18 1,.c 19 138 [.t 17,.t 18],.s 2 4 19,.o 5 (.mov .z)])))⟩
def fn53 : AFunc := ⟨18, 1, [(2, none)],(.s [.o 2 (.mov (.c .nilSlice))] (.s [.o 3 (.mov (.c .nilSlice))] (.seq (.s [.m 6 0,.n 7 6,.o 8 (.mov .z)] (.block 0 (.loop (.s [.u 9 .lss 8 7] (.seq (.i 9 .skip (.exit 0)) (.seq (.block 1 (.s [.h 10 2 6 8,.r 11 2 10,.o 5 (.box (.c (.agg [.int .i64 0, .int .i64 0]))),.s 2 5 11] (.ops [.m 12 3,.r 13 2 5,.o 14 (.bslice 2 1 [.int .i64 0, .int .i64 0] [(0, .t 13)]),.o 15 (.app 2 16 (.t 12) (.t 14)),.m 3 15]))) (.ops [.v 16 .add 8 .w,.m 8 16]))))))) (.r [.m 17 3,.m 2 17]))))⟩
def fn54 : AFunc := ⟨50, 1, [(2, none)],(.s [.o 2 (.mov .z)] (.seq (.s [.m 5 0,.n 6 5,.v 7 .eql 6 .z] (.j 7 [.o 2 (.mov (.n 12))])) (.seq (.s [.m 8 0,.n 9 8,.v 10 .gtr 9 (.n 16)] (.j 10 [.o 2 (.mov (.n 5))])) (.seq (.s [.o 3 (.mov .z)] (.block 0 (.loop (.seq (.s [.m 11 3,.m 12 0,.n 13 12,.u 14 .lss 11 13] (.i 14 .skip (.exit 0))) (.seq (.block 1 (.seq (.s [.w 17 0,.w 18 3,.y 19 (.iadr 2 (.t 17) (.t 18)),.y 20 (.fadr 0 (.t 19)),.j 21 20,.y 22 (.call (.f 48) [.t 21, .z,.n 100000]),.w 23 0,.w 24 3,.y 25 (.iadr 2 (.t 23) (.t 24)),.y 26 (.fadr 1 (.t 25)),.j 27 26,.c 28 48 [.t 27,.n (-64),.n 64],.o 29 (.bslice 1 2 [.int .i64 0] [(0, .t 22), (1, .t 28)]),.c 30 27 [.t 29],.m 4 30] (.s [.m 31 4,.v 32 .neq 31 .z] (.j 32 [.m 33 4,.m 2 33]))) (.s [.m 34 3,.v 35 .gtr 34 .z,.m 36 35,⟨(some 37), .mov (.t 0), (some (36, true)), true⟩,⟨(some 38), .mov (.t 3), (some (36, true)), true⟩,⟨(some 39), .iadr 2 (.t 37) (.t 38), (some (36, true)), true⟩,⟨(some 40), .fadr 0 (.t 39), (some (36, true)), true⟩,⟨(some 41), .load none (.t 40), (some (36, true)), true⟩,⟨(some 42), .mov (.t 0), (some (36, true)), true⟩,⟨(some 43), .mov (.t 3), (some (36, true)), true⟩,⟨(some 44), .bin .sub (.t 43) .w, (some (36, true)), true⟩,⟨(some 45), .iadr 2 (.t 42) (.t 44), (some (36, true)), true⟩,⟨(some 46), .fadr 0 (.t 45), (some (36, true)), true⟩,⟨(some 47), .load none (.t 46), (some (36, true)), true⟩,.g 48 36 true (.bin .leq (.t 41) (.t 47)),.d 49 36 48] (.j 49 [.o 2 (.mov (.n 11))])))) (.ops [.m 15 3,.v 16 .add 15 .w,.m 3 16])))))) (.r [.o 2 (.mov .z)])))))⟩
def fn55 : AFunc := ⟨71, 2, [(4, some (some 2))],(.s [.o 4 (.box (.c (.agg [.int .i64 0, .int .i64 0])))] (.seq (.s [.m 8 1,.m 9 0,.o 10 (.iadr 2 (.t 9) .z),.a 11 0 10,.l 12 11,.u 13 .leq 8 12] (.j 13 [.m 14 0,.o 15 (.iadr 2 (.t 14) .z),.a 16 1 15,.l 17 16,.o 18 (.build [.int .i64 0, .int .i64 0] [(0, 1, .t 17), (1, 1, .w)]),.s 2 4 18])) (.seq (.s [.o 5 (.mov .w)] (.block 0 (.loop (.seq (.s [.m 19 5,.m 20 0,.n 21 20,.u 22 .lss 19 21] (.i 22 .skip (.exit 0))) (.seq (.block 1 (.s [.w 25 0,.w 26 5,.y 27 (.bin .sub (.t 26) .w),.y 28 (.iadr 2 (.t 25) (.t 27)),.y 29 (.load (some 2) (.t 28)),.w 30 0,.w 31 5,.y 32 (.iadr 2 (.t 30) (.t 31)),.y 33 (.load (some 2) (.t 32)),⟨none, .mov .F, none, true⟩,.y 7 (.box (.c (.agg [.int .i64 0, .int .i64 0]))),.y 6 (.boxn 2 (.t 29)),.s 2 7 33] (.s [.m 34 1,.a 35 0 7,.l 36 35,.u 37 .leq 34 36] (.j 37 [.a 38 1 6,.l 39 38,.a 40 0 7,.l 41 40,.a 42 0 6,.l 43 42,.u 44 .sub 41 43,.u 45 .mul 39 44,.a 46 1 7,.l 47 46,.a 48 1 6,.l 49 48,.u 50 .sub 47 49,.m 51 1,.a 52 0 6,.l 53 52,.u 54 .sub 51 53,.u 55 .mul 50 54,.u 56 .add 45 55,.a 57 0 7,.l 58 57,.a 59 0 6,.l 60 59,.u 61 .sub 58 60,.c 62 132 [.t 56,.t 61],.s 2 4 62])))) (.ops [.m 23 5,.v 24 .add 23 .w,.m 5 24])))))) (.r [.m 63 0,.m 64 0,.n 65 64,.v 66 .sub 65 .w,.h 67 2 63 66,.a 68 1 67,.l 69 68,.o 70 (.build [.int .i64 0, .int .i64 0] [(0, 1, .t 69), (1, 1, .w)]),.s 2 4 70]))))⟩
def fn56 : AFunc := ⟨51, 1, [(2, none)],(.s [.o 2 (.mov .z)] (.seq (.s [.m 8 0,.n 9 8,.v 10 .eql 9 .z,.c 11 117 [.t 10,.n 12],.m 12 0,.n 13 12,.v 14 .gtr 13 (.n 16),.c 15 117 [.t 14,.n 5],.o 16 (.bslice 1 2 [.int .i64 0] [(0, .t 11), (1, .t 15)]),.c 17 116 [.t 16],.m 3 17] (.s [.m 18 3,.v 19 .neq 18 .z] (.j 19 [.m 20 3,.m 2 20]))) (.s [.o 4 (.mov (.f 139))] (.seq (.s [.m 21 0,.n 22 21,.o 23 (.mov .z)] (.block 0 (.loop (.s [.u 24 .lss 23 22] (.seq (.i 24 .skip (.exit 0)) (.seq (.block 1 (.s [.m 25 23,.h 26 2 21 23,.r 27 2 26,.o 6 (.box (.c (.agg [.int .i64 0, .int .i64 0]))),.m 5 25,.s 2 6 27] (.s [.y 28 (.load (some 2) (.t 6)),.y 29 (.call (.f 140) [.t 28]),.w 30 5,.y 31 (.bin .gtr (.t 30) .z),.m 32 31,⟨(some 33), .mov (.t 4), (some (32, true)), true⟩,⟨(some 34), .load (some 2) (.t 6), (some (32, true)), true⟩,⟨(some 35), .mov (.t 0), (some (32, true)), true⟩,⟨(some 36), .mov (.t 5), (some (32, true)), true⟩,⟨(some 37), .bin .sub (.t 36) .w, (some (32, true)), true⟩,⟨(some 38), .mx .z [.t 37], (some (32, true)), true⟩,⟨(some 39), .iadr 2 (.t 35) (.t 38), (some (32, true)), true⟩,⟨(some 40), .load (some 2) (.t 39), (some (32, true)), true⟩,.g 41 32 true (.call (.t 33) [.t 34,.t 40]),.g 42 32 true (.bin .leq (.t 41) .z),.d 43 32 42,.c 44 117 [.t 43,.n 11],.o 45 (.bslice 1 2 [.int .i64 0] [(0, .t 29), (1, .t 44)]),.c 46 116 [.t 45],.m 7 46] (.s [.m 47 7,.v 48 .neq 47 .z] (.j 48 [.m 49 7,.m 2 49]))))) (.ops [.v 50 .add 23 .w,.m 23 50]))))))) (.r [.o 2 (.mov .z)])))))⟩
def fn57 : AFunc := ⟨34, 2, [(4, none)],(.s [.o 4 (.mov .F)] (.seq (.s [.m 8 0,.n 9 8,.v 10 .gtr 9 (.n 24),.m 11 10,.t 12 11 false 0,.g 13 11 false (.call (.f 75) [.t 12]),.g 14 11 false (.bin .neq (.t 13) .z),.f 15 11 14] (.j 15 [.o 4 (.mov .F)])) (.seq (.s [.m 16 0,.n 17 16,.o 18 (.mov .z)] (.block 0 (.loop (.s [.u 19 .lss 18 17] (.seq (.i 19 .skip (.exit 0)) (.seq (.block 1 (.s [.h 20 1 16 18,.l 21 20,.m 6 21] (.s [.m 22 6,.c 23 64 [.t 22],.m 7 23] (.s [.m 24 7,.m 25 1,.u 26 .gtr 24 25,.m 27 26,.t 28 27 false 7,.t 29 27 false 1,.g 30 27 false (.un .neg (.t 29)),.g 31 27 false (.bin .lss (.t 28) (.t 30)),.f 32 27 31] (.j 32 [.o 4 (.mov .F)]))))) (.ops [.v 33 .add 18 .w,.m 18 33]))))))) (.r [.o 4 (.mov .T)]))))⟩
def fn58 : AFunc := ⟨26, 2, [(4, none)],(.s [.o 4 (.mov .F)] (.seq (.s [.m 6 0,.n 7 6,.m 8 1,.n 9 8,.u 10 .neq 7 9] (.j 10 [.o 4 (.mov .F)])) (.seq (.s [.o 5 (.mov .z)] (.block 0 (.loop (.seq (.s [.m 11 5,.m 12 0,.n 13 12,.u 14 .lss 11 13] (.i 14 .skip (.exit 0))) (.seq (.block 1 (.s [.w 17 0,.w 18 5,.y 19 (.iadr 1 (.t 17) (.t 18)),.j 20 19,.w 21 1,.w 22 5,.y 23 (.iadr 1 (.t 21) (.t 22)),.j 24 23,.u 25 .neq 20 24] (.j 25 [.o 4 (.mov .F)]))) (.ops [.m 15 5,.v 16 .add 15 .w,.m 5 16])))))) (.r [.o 4 (.mov .T)]))))⟩
def fn60 : AFunc := ⟨66, 1, [(2, some (some 16)), (3, none)],(.s [.p 1 0,.o 2 (.box (.c (.agg [.cplx .f32 0 0, .cplx .f32 0 0, .cplx .f32 0 0, .cplx .f32 0 0, .cplx .f32 0 0, .cplx .f32 0 0, .cplx .f32 0 0, .cplx .f32 0 0, .cplx .f32 0 0, .cplx .f32 0 0, .cplx .f32 0 0, .cplx .f32 0 0, .cplx .f32 0 0, .cplx .f32 0 0, .cplx .f32 0 0, .cplx .f32 0 0]))),.o 3 (.mov .z)] (.s [.o 4 (.box (.c (.agg [.int .i64 0, .int .i64 0, .int .i64 0, .int .i64 0, .int .i64 0, .int .i64 0, .int .i64 0, .int .i64 0, .int .i64 0, .int .i64 0, .int .i64 0, .int .i64 0, .int .i64 0, .int .i64 0, .int .i64 0, .int .i64 0, .int .i64 0, .int .i64 0, .int .i64 0, .int .i64 0, .int .i64 0, .int .i64 0, .int .i64 0, .int .i64 0, .int .i64 0, .int .i64 0, .int .i64 0, .int .i64 0, .int .i64 0, .int .i64 0, .int .i64 0, .int .i64 0])))] (.seq (.s [.r 15 16 1,.o 16 (.mov .z)] (.block 0 (.loop (.s [.v 17 .lss 16 (.n 4)] (.seq (.i 17 .skip (.exit 0)) (.seq (.block 1 (.s [.m 18 16,.o 19 (.ixa 4 4 (some 4) (.t 15) (.t 16)),.o 6 (.box (.c (.agg [.flt .f32 0, .flt .f32 0, .flt .f32 0, .flt .f32 0]))),.m 5 18,.s 4 6 19] (.seq (.s [.o 20 (.sla 4 1 (.t 6) none none),.c 21 141 [.t 20, (.f 142)],.c 22 116 [.t 21],.m 7 22] (.s [.m 23 7,.v 24 .neq 23 .z] (.j 24 [.o 25 (.build [.cplx .f32 0 0, .cplx .f32 0 0, .cplx .f32 0 0, .cplx .f32 0 0, .cplx .f32 0 0, .cplx .f32 0 0, .cplx .f32 0 0, .cplx .f32 0 0, .cplx .f32 0 0, .cplx .f32 0 0, .cplx .f32 0 0, .cplx .f32 0 0, .cplx .f32 0 0, .cplx .f32 0 0, .cplx .f32 0 0, .cplx .f32 0 0] []),.m 26 7,.s 16 2 25,.m 3 26]))) (.s [.r 27 4 6,.o 28 (.mov .z)] (.block 2 (.loop (.s [.v 29 .lss 28 (.n 4)] (.seq (.i 29 .skip (.exit 2)) (.seq (.block 3 (.s [.m 30 28,.o 31 (.ixa 4 1 none (.t 27) (.t 28)),.m 8 30,.m 9 31] (.ops [.w 32 8,.w 33 5,.w 34 9,.y 35 (.call (.f 108) [.t 34]),.y 36 (.build [.int .i64 0, .int .i64 0] [(0, 1, .t 35)]),.y 37 (.iada 4 8 (.t 4) (.t 32)),.o 38 (.iada 4 2 (.t 37) (.t 33)),.s 2 38 36]))) (.ops [.v 39 .add 28 .w,.m 28 39])))))))))) (.ops [.v 40 .add 16 .w,.m 16 40]))))))) (.s [.o 10 (.box (.c (.agg [.cplx .f32 0 0, .cplx .f32 0 0, .cplx .f32 0 0, .cplx .f32 0 0, .cplx .f32 0 0, .cplx .f32 0 0, .cplx .f32 0 0, .cplx .f32 0 0, .cplx .f32 0 0, .cplx .f32 0 0, .cplx .f32 0 0, .cplx .f32 0 0, .cplx .f32 0 0, .cplx .f32 0 0, .cplx .f32 0 0, .cplx .f32 0 0])))] (.seq (.s [.r 41 32 4,.c 42 143 [.t 41,.n 3],.o 43 (.mov .z)] (.block 4 (.loop (.s [.v 44 .lss 43 (.n 4)] (.seq (.i 44 .skip (.exit 4)) (.seq (.block 5 (.s [.m 45 43,.o 46 (.ixa 4 8 (some 8) (.t 42) (.t 43)),.o 12 (.box (.c (.agg [.int .i64 0, .int .i64 0, .int .i64 0, .int .i64 0, .int .i64 0, .int .i64 0, .int .i64 0, .int .i64 0]))),.m 11 45,.s 8 12 46] (.s [.r 47 8 12,.o 48 (.mov .z)] (.block 6 (.loop (.s [.v 49 .lss 48 (.n 4)] (.seq (.i 49 .skip (.exit 6)) (.seq (.block 7 (.s [.m 50 48,.o 51 (.ixa 4 2 (some 2) (.t 47) (.t 48)),.o 14 (.box (.c (.agg [.int .i64 0, .int .i64 0]))),.m 13 50,.s 2 14 51] (.ops [.w 52 11,.w 53 13,.y 54 (.fadr 0 (.t 14)),.j 55 54,.y 56 (.call (.f 144) [.t 55]),.y 57 (.fadr 1 (.t 14)),.j 58 57,.y 59 (.call (.f 144) [.t 58]),.y 60 (.cpx (.t 56) (.t 59)),.y 61 (.iada 4 4 (.t 10) (.t 52)),.o 62 (.iada 4 1 (.t 61) (.t 53)),.s 1 62 60]))) (.ops [.v 63 .add 48 .w,.m 48 63]))))))))) (.ops [.v 64 .add 43 .w,.m 43 64]))))))) (.r [.r 65 16 10,.s 16 2 65,.o 3 (.mov .z)]))))))⟩
def fn61 : AFunc := ⟨87, 1, [(2, some (some 16)), (3, none)],(.s [.p 1 0,.o 2 (.box (.c (.agg [.flt .f32 0, .flt .f32 0, .flt .f32 0, .flt .f32 0, .flt .f32 0, .flt .f32 0, .flt .f32 0, .flt .f32 0, .flt .f32 0, .flt .f32 0, .flt .f32 0, .flt .f32 0, .flt .f32 0, .flt .f32 0, .flt .f32 0, .flt .f32 0]))),.o 3 (.mov .z)] (.seq (.s [.r 15 16 1,.c 16 145 [.t 15],.m 4 16] (.s [.m 17 4,.v 18 .neq 17 .z] (.j 18 [.o 19 (.build [.flt .f32 0, .flt .f32 0, .flt .f32 0, .flt .f32 0, .flt .f32 0, .flt .f32 0, .flt .f32 0, .flt .f32 0, .flt .f32 0, .flt .f32 0, .flt .f32 0, .flt .f32 0, .flt .f32 0, .flt .f32 0, .flt .f32 0, .flt .f32 0] []),.m 20 4,.s 16 2 19,.m 3 20]))) (.seq (.s [.r 21 16 1,.o 22 (.build [.cplx .f32 0 0, .cplx .f32 0 0, .cplx .f32 0 0, .cplx .f32 0 0, .cplx .f32 0 0, .cplx .f32 0 0, .cplx .f32 0 0, .cplx .f32 0 0, .cplx .f32 0 0, .cplx .f32 0 0, .cplx .f32 0 0, .cplx .f32 0 0, .cplx .f32 0 0, .cplx .f32 0 0, .cplx .f32 0 0, .cplx .f32 0 0] []),.o 23 (.eqv false (.agg [.c, .c, .c, .c, .c, .c, .c, .c, .c, .c, .c, .c, .c, .c, .c, .c]) (.t 21) (.t 22))] (.j 23 [.o 24 (.build [.flt .f32 0, .flt .f32 0, .flt .f32 0, .flt .f32 0, .flt .f32 0, .flt .f32 0, .flt .f32 0, .flt .f32 0, .flt .f32 0, .flt .f32 0, .flt .f32 0, .flt .f32 0, .flt .f32 0, .flt .f32 0, .flt .f32 0, .flt .f32 0] []),.s 16 2 24,.o 3 (.mov .z)])) (.s [.o 5 (.box (.c (.agg [.int .i64 0, .int .i64 0, .int .i64 0, .int .i64 0, .int .i64 0, .int .i64 0, .int .i64 0, .int .i64 0, .int .i64 0, .int .i64 0, .int .i64 0, .int .i64 0, .int .i64 0, .int .i64 0, .int .i64 0, .int .i64 0, .int .i64 0, .int .i64 0, .int .i64 0, .int .i64 0, .int .i64 0, .int .i64 0, .int .i64 0, .int .i64 0, .int .i64 0, .int .i64 0, .int .i64 0, .int .i64 0, .int .i64 0, .int .i64 0, .int .i64 0, .int .i64 0])))] (.seq (.s [.r 25 16 1,.o 26 (.mov .z)] (.block 0 (.loop (.s [.v 27 .lss 26 (.n 4)] (.seq (.i 27 .skip (.exit 0)) (.seq (.block 1 (.s [.m 28 26,.o 29 (.ixa 4 4 (some 4) (.t 25) (.t 26)),.o 7 (.box (.c (.agg [.cplx .f32 0 0, .cplx .f32 0 0, .cplx .f32 0 0, .cplx .f32 0 0]))),.m 6 28,.s 4 7 29] (.s [.r 30 4 7,.o 31 (.mov .z)] (.block 2 (.loop (.s [.v 32 .lss 31 (.n 4)] (.seq (.i 32 .skip (.exit 2)) (.seq (.block 3 (.s [.m 33 31,.o 34 (.ixa 4 1 none (.t 30) (.t 31)),.m 8 33,.m 9 34] (.ops [.w 35 6,.w 36 8,.w 37 9,.y 38 (.conv .cre (.t 37)),.y 39 (.call (.f 108) [.t 38]),.w 40 9,.y 41 (.conv .cim (.t 40)),.y 42 (.call (.f 108) [.t 41]),.y 43 (.build [.int .i64 0, .int .i64 0] [(0, 1, .t 39), (1, 1, .t 42)]),.y 44 (.iada 4 8 (.t 5) (.t 35)),.o 45 (.iada 4 2 (.t 44) (.t 36)),.s 2 45 43]))) (.ops [.v 46 .add 31 .w,.m 31 46]))))))))) (.ops [.v 47 .add 26 .w,.m 26 47]))))))) (.s [.o 10 (.box (.c (.agg [.flt .f32 0, .flt .f32 0, .flt .f32 0, .flt .f32 0, .flt .f32 0, .flt .f32 0, .flt .f32 0, .flt .f32 0, .flt .f32 0, .flt .f32 0, .flt .f32 0, .flt .f32 0, .flt .f32 0, .flt .f32 0, .flt .f32 0, .flt .f32 0])))] (.seq (.s [.r 48 32 5,.c 49 143 [.t 48, .w],.o 50 (.mov .z)] (.block 4 (.loop (.s [.v 51 .lss 50 (.n 4)] (.seq (.i 51 .skip (.exit 4)) (.seq (.block 5 (.s [.m 52 50,.o 53 (.ixa 4 8 (some 8) (.t 49) (.t 50)),.o 12 (.box (.c (.agg [.int .i64 0, .int .i64 0, .int .i64 0, .int .i64 0, .int .i64 0, .int .i64 0, .int .i64 0, .int .i64 0]))),.m 11 52,.s 8 12 53] (.s [.r 54 8 12,.o 55 (.mov .z)] (.block 6 (.loop (.s [.v 56 .lss 55 (.n 4)] (.seq (.i 56 .skip (.exit 6)) (.seq (.block 7 (.s [.m 57 55,.o 58 (.ixa 4 2 (some 2) (.t 54) (.t 55)),.o 14 (.box (.c (.agg [.int .i64 0, .int .i64 0]))),.m 13 57,.s 2 14 58] (.s [.w 59 13,.w 60 11,.y 61 (.fadr 0 (.t 14)),.j 62 61,.y 63 (.bin .quo (.t 62) (.n 16)),.y 64 (.call (.f 144) [.t 63]),.y 65 (.iada 4 4 (.t 10) (.t 59)),.o 66 (.iada 4 1 (.t 65) (.t 60)),.s 1 66 64] (.s [.a 67 1 14,.l 68 67,.v 69 .neq 68 .z,.m 70 69,.g 71 70 false (.fadr 0 (.t 14)),.g 72 70 false (.load none (.t 71)),.g 73 70 false (.bin .rem (.t 72) (.n 16)),.g 74 70 false (.bin .neq (.t 73) .z),.f 75 70 74,.m 76 75,.g 77 76 false (.fadr 0 (.t 14)),.g 78 76 false (.load none (.t 77)),.g 79 76 false (.bin .quo (.t 78) (.n 16)),.g 80 76 false (.call (.f 146) [.t 79]),.g 81 76 false (.un .not (.t 80)),.f 82 76 81] (.j 82 [.o 83 (.build [.flt .f32 0, .flt .f32 0, .flt .f32 0, .flt .f32 0, .flt .f32 0, .flt .f32 0, .flt .f32 0, .flt .f32 0, .flt .f32 0, .flt .f32 0, .flt .f32 0, .flt .f32 0, .flt .f32 0, .flt .f32 0, .flt .f32 0, .flt .f32 0] []),.s 16 2 83,.o 3 (.mov .w)]))))) (.ops [.v 84 .add 55 .w,.m 55 84]))))))))) (.ops [.v 85 .add 50 .w,.m 50 85]))))))) (.r [.r 86 16 10,.s 16 2 86,.o 3 (.mov .z)]))))))))⟩
def fn62 : AFunc := ⟨36, 2, [(4, some (some 16)), (5, none)],(.s [.p 2 0,.o 4 (.box (.c (.agg [.cplx .f32 0 0, .cplx .f32 0 0, .cplx .f32 0 0, .cplx .f32 0 0, .cplx .f32 0 0, .cplx .f32 0 0, .cplx .f32 0 0, .cplx .f32 0 0, .cplx .f32 0 0, .cplx .f32 0 0, .cplx .f32 0 0, .cplx .f32 0 0, .cplx .f32 0 0, .cplx .f32 0 0, .cplx .f32 0 0, .cplx .f32 0 0]))),.o 5 (.mov .z)] (.seq (.s [.r 9 16 2,.c 10 145 [.t 9],.m 6 10] (.s [.m 11 6,.v 12 .neq 11 .z] (.j 12 [.o 13 (.build [.cplx .f32 0 0, .cplx .f32 0 0, .cplx .f32 0 0, .cplx .f32 0 0, .cplx .f32 0 0, .cplx .f32 0 0, .cplx .f32 0 0, .cplx .f32 0 0, .cplx .f32 0 0, .cplx .f32 0 0, .cplx .f32 0 0, .cplx .f32 0 0, .cplx .f32 0 0, .cplx .f32 0 0, .cplx .f32 0 0, .cplx .f32 0 0] []),.m 14 6,.s 16 4 13,.m 5 14]))) (.seq (.s [.o 15 (.mov .z)] (.block 0 (.loop (.s [.v 16 .lss 15 (.n 4)] (.seq (.i 16 .skip (.exit 0)) (.seq (.block 1 (.s [.m 17 15,.m 7 17] (.s [.o 18 (.mov .z)] (.block 2 (.loop (.s [.v 19 .lss 18 (.n 4)] (.seq (.i 19 .skip (.exit 2)) (.seq (.block 3 (.s [.m 20 18,.m 8 20] (.s [.m 21 1,.m 22 7,.b 23 .mul (.n 4) (.t 22),.m 24 8,.u 25 .add 23 24,.u 26 .shr 21 25,.v 27 .and 26 (.c (.int .u16 1)),.v 28 .eql 27 (.c (.int .u16 0))] (.i 28 (.ops [.m 29 7,.m 30 8,.o 31 (.iada 4 4 (.t 2) (.t 29)),.o 32 (.iada 4 1 (.t 31) (.t 30)),.x (.store 1 (.t 32) (.c (.cplx .f32 0 0)))]) .skip)))) (.ops [.v 33 .add 18 .w,.m 18 33]))))))))) (.ops [.v 34 .add 15 .w,.m 15 34]))))))) (.r [.r 35 16 2,.s 16 4 35,.o 5 (.mov .z)]))))⟩
def fn64 : AFunc := ⟨6, 1, [(2, none)],(.s [.o 2 (.mov .z)] (.r [.m 3 0,.b 4 .mul (.c (.flt .f32 1098907648)) (.t 3),.o 5 (.conv (.f2i .i64) (.t 4)),.m 2 5]))⟩
def fn66 : AFunc := ⟨66, 1, [(2, some (some 3)), (3, none)],(.s [.o 2 (.box (.c (.agg [.int .i64 0, .int .i64 0, .int .i64 0]))),.o 3 (.mov .z)] (.seq (.s [.m 7 0,.c 8 148 [.t 7],.m 4 8] (.s [.m 9 4,.v 10 .neq 9 .z] (.j 10 [.o 11 (.build [.int .i64 0, .int .i64 0, .int .i64 0] []),.m 12 4,.s 3 2 11,.m 3 12]))) (.s [.m 13 0,.c 14 149 [.t 13],.o 5 (.box (.c (.agg [.int .i64 0, .int .i64 0, .int .i64 0, .int .i64 0, .int .i64 0, .int .i64 0, .int .i64 0, .int .i64 0, .int .i64 0]))),.s 9 5 14] (.s [.o 15 (.iada 3 3 (.t 5) .w),.o 16 (.iada 3 1 (.t 15) .w),.l 17 16,.o 18 (.iada 3 3 (.t 5) (.n 2)),.o 19 (.iada 3 1 (.t 18) (.n 2)),.l 20 19,.u 21 .mul 17 20,.o 22 (.iada 3 3 (.t 5) .w),.o 23 (.iada 3 1 (.t 22) (.n 2)),.l 24 23,.o 25 (.iada 3 3 (.t 5) .w),.o 26 (.iada 3 1 (.t 25) (.n 2)),.l 27 26,.u 28 .mul 24 27,.u 29 .sub 21 28,.m 6 29] (.seq (.s [.m 30 6,.v 31 .eql 30 .z] (.j 31 [.o 32 (.build [.int .i64 0, .int .i64 0, .int .i64 0] []),.s 3 2 32,.o 3 (.mov (.n 17))])) (.r [.o 33 (.iada 3 3 (.t 5) .z),.o 34 (.iada 3 1 (.t 33) .w),.l 35 34,.o 36 (.iada 3 3 (.t 5) (.n 2)),.o 37 (.iada 3 1 (.t 36) (.n 2)),.l 38 37,.u 39 .mul 35 38,.o 40 (.iada 3 3 (.t 5) .z),.o 41 (.iada 3 1 (.t 40) (.n 2)),.l 42 41,.o 43 (.iada 3 3 (.t 5) .w),.o 44 (.iada 3 1 (.t 43) (.n 2)),.l 45 44,.u 46 .mul 42 45,.u 47 .sub 39 46,.o 48 (.iada 3 3 (.t 5) .z),.o 49 (.iada 3 1 (.t 48) (.n 2)),.l 50 49,.o 51 (.iada 3 3 (.t 5) .w),.o 52 (.iada 3 1 (.t 51) .w),.l 53 52,.u 54 .mul 50 53,.o 55 (.iada 3 3 (.t 5) .z),.o 56 (.iada 3 1 (.t 55) .w),.l 57 56,.o 58 (.iada 3 3 (.t 5) .w),.o 59 (.iada 3 1 (.t 58) (.n 2)),.l 60 59,.u 61 .mul 57 60,.u 62 .sub 54 61,.m 63 6,.o 64 (.build [.int .i64 0, .int .i64 0, .int .i64 0] [(0, 1, .t 47), (1, 1, .t 62), (2, 1, .t 63)]),.c 65 150 [.t 64],.s 3 2 65,.o 3 (.mov .z)]))))))⟩
def fn67 : AFunc := ⟨22, 1, [(2, some (some 2)), (3, none)],(.s [.o 2 (.box (.c (.agg [.int .i64 0, .int .i64 0]))),.o 3 (.mov .z)] (.s [.m 7 0,.c 8 66 [.t 7],.m 6 8,.e 9 6 0,.e 10 6 1,.o 4 (.box (.c (.agg [.int .i64 0, .int .i64 0, .int .i64 0]))),.s 3 4 9,.m 5 10] (.seq (.s [.m 11 5,.v 12 .neq 11 .z] (.j 12 [.o 13 (.build [.int .i64 0, .int .i64 0] []),.m 14 5,.s 2 2 13,.m 3 14])) (.r [.y 15 (.load (some 3) (.t 4)),.w 16 0,.y 17 (.call (.f 149) [.t 16]),.y 18 (.call (.f 151) [.t 15,.t 17, .z]),.y 19 (.fadr 2 (.t 4)),.j 20 19,.c 21 129 [.t 18,.t 20],.s 2 2 21,.o 3 (.mov .z)]))))⟩
def fn68 : AFunc := ⟨32, 1, [(2, none)],(.s [.o 2 (.mov .z)] (.seq (.s [.m 6 0,.c 7 28 [.t 6],.m 3 7] (.s [.m 8 3,.v 9 .neq 8 .z] (.j 9 [.m 10 3,.m 2 10]))) (.seq (.s [.m 11 0,.n 12 11,.v 13 .lss 12 (.n 3)] (.j 13 [.o 2 (.mov (.n 16))])) (.seq (.s [.m 14 0,.n 15 14,.v 16 .gtr 15 (.n 32)] (.j 16 [.o 2 (.mov (.n 4))])) (.seq (.s [.o 4 (.mov .z)] (.block 0 (.loop (.seq (.s [.m 17 4,.m 18 0,.n 19 18,.u 20 .lss 17 19] (.i 20 .skip (.exit 0))) (.seq (.block 1 (.s [.m 23 0,.m 24 4,.h 25 1 23 24,.l 26 25,.c 27 64 [.t 26],.c 28 48 [.t 27,.n (-127),.n 127],.m 5 28] (.s [.m 29 5,.v 30 .neq 29 .z] (.j 30 [.m 31 5,.m 2 31])))) (.ops [.m 21 4,.v 22 .add 21 .w,.m 4 22])))))) (.r [.o 2 (.mov .z)]))))))⟩
def fn69 : AFunc := ⟨27, 1, [(2, none)],(.s [.p 1 0,.o 2 (.mov .z)] (.seq (.s [.y 4 (.fadr 0 (.t 1)),.j 5 4,.y 6 (.call (.f 48) [.t 5,.n (-549755813888),.n 549755813888]),.y 7 (.fadr 1 (.t 1)),.j 8 7,.y 9 (.call (.f 48) [.t 8,.n (-549755813888),.n 549755813888]),.y 10 (.fadr 2 (.t 1)),.j 11 10,.c 12 48 [.t 11, .w,.n 274877906944],.o 13 (.bslice 1 3 [.int .i64 0] [(0, .t 6), (1, .t 9), (2, .t 12)]),.c 14 27 [.t 13],.m 3 14] (.s [.m 15 3,.v 16 .neq 15 .z] (.j 16 [.m 17 3,.m 2 17]))) (.seq (.s [.y 18 (.fadr 2 (.t 1)),.j 19 18,.y 20 (.fadr 0 (.t 1)),.j 21 20,.y 22 (.call (.f 152) [.t 19,.t 21]),.y 23 (.fadr 1 (.t 1)),.j 24 23,.c 25 152 [.t 22,.t 24],.v 26 .neq 25 .w] (.j 26 [.o 2 (.mov .w)])) (.r [.o 2 (.mov .z)]))))⟩
def fn70 : AFunc := ⟨31, 2, [(4, none)],(.s [.p 3 1,.o 4 (.mov .z)] (.seq (.s [.o 5 (.mov .w)] (.block 0 (.loop (.seq (.s [.m 6 5,.v 7 .leq 6 (.n 2)] (.i 7 .skip (.exit 0))) (.seq (.block 1 (.s [.y 10 (.fadr 2 (.t 3)),.j 11 10,.w 12 0,.w 13 5,.y 14 (.call (.f 153) [.t 12, .z,.t 13]),.y 15 (.bin .mul (.t 11) (.t 14)),.y 16 (.fadr 0 (.t 3)),.j 17 16,.w 18 0,.w 19 5,.y 20 (.call (.f 153) [.t 18, .w,.t 19]),.y 21 (.bin .mul (.t 17) (.t 20)),.y 22 (.bin .sub (.t 15) (.t 21)),.y 23 (.fadr 1 (.t 3)),.j 24 23,.w 25 0,.w 26 5,.y 27 (.call (.f 153) [.t 25,.n 2,.t 26]),.y 28 (.bin .mul (.t 24) (.t 27)),.u 29 .sub 22 28,.v 30 .neq 29 .z] (.j 30 [.o 4 (.mov (.n 19))]))) (.ops [.m 8 5,.v 9 .add 8 .w,.m 5 9])))))) (.r [.o 4 (.mov .z)])))⟩
def fn71 : AFunc := ⟨50, 1, [(2, some (some 3)), (3, none)],(.s [.o 2 (.box (.c (.agg [.int .i64 0, .int .i64 0, .int .i64 0]))),.o 3 (.mov .z)] (.s [.m 8 0,.c 9 154 [.t 8],.m 4 9] (.seq (.s [.m 10 4,.v 11 .eql 10 .z] (.j 11 [.o 12 (.build [.int .i64 0, .int .i64 0, .int .i64 0] []),.s 3 2 12,.o 3 (.mov (.n 17))])) (.s [.m 13 0,.c 14 153 [.t 13, .z, .w],.m 15 0,.c 16 153 [.t 15,.n 2,.n 2],.u 17 .mul 14 16,.m 18 0,.c 19 153 [.t 18, .z,.n 2],.m 20 0,.c 21 153 [.t 20, .w,.n 2],.u 22 .mul 19 21,.u 23 .sub 17 22,.m 5 23] (.s [.m 24 0,.c 25 153 [.t 24, .z,.n 2],.m 26 0,.c 27 153 [.t 26, .w, .w],.u 28 .mul 25 27,.m 29 0,.c 30 153 [.t 29, .z, .w],.m 31 0,.c 32 153 [.t 31, .w,.n 2],.u 33 .mul 30 32,.u 34 .sub 28 33,.m 6 34] (.s [.m 35 4,.m 36 5,.c 37 152 [.t 35,.t 36],.m 38 6,.c 39 152 [.t 37,.t 38],.m 7 39] (.r [.w 40 5,.w 41 7,.y 42 (.bin .quo (.t 40) (.t 41)),.w 43 6,.w 44 7,.y 45 (.bin .quo (.t 43) (.t 44)),.w 46 4,.w 47 7,.y 48 (.bin .quo (.t 46) (.t 47)),.o 49 (.build [.int .i64 0, .int .i64 0, .int .i64 0] [(0, 1, .t 42), (1, 1, .t 45), (2, 1, .t 48)]),.s 3 2 49,.o 3 (.mov .z)])))))))⟩
def fn72 : AFunc := ⟨35, 1, [(2, some (some 2)), (3, none)],(.s [.o 2 (.box (.c (.agg [.int .i64 0, .int .i64 0]))),.o 3 (.mov .z)] (.s [.m 7 0,.c 8 71 [.t 7],.m 6 8,.e 9 6 0,.e 10 6 1,.o 4 (.box (.c (.agg [.int .i64 0, .int .i64 0, .int .i64 0]))),.s 3 4 9,.m 5 10] (.seq (.s [.m 11 5,.v 12 .neq 11 .z] (.j 12 [.o 13 (.build [.int .i64 0, .int .i64 0] []),.m 14 5,.s 2 2 13,.m 3 14])) (.r [.y 15 (.fadr 2 (.t 4)),.j 16 15,.w 17 0,.y 18 (.call (.f 153) [.t 17, .z, .z]),.y 19 (.bin .mul (.t 16) (.t 18)),.y 20 (.fadr 0 (.t 4)),.j 21 20,.w 22 0,.y 23 (.call (.f 153) [.t 22, .z, .w]),.y 24 (.bin .mul (.t 21) (.t 23)),.y 25 (.bin .sub (.t 19) (.t 24)),.y 26 (.fadr 1 (.t 4)),.j 27 26,.w 28 0,.y 29 (.call (.f 153) [.t 28, .z,.n 2]),.y 30 (.bin .mul (.t 27) (.t 29)),.y 31 (.bin .sub (.t 25) (.t 30)),.y 32 (.fadr 2 (.t 4)),.j 33 32,.c 34 132 [.t 31,.t 33],.s 2 2 34,.o 3 (.mov .z)]))))⟩
def fn73 : AFunc := ⟨43, 2, [(4, none)],(.s [.p 3 1,.o 4 (.mov .z)] (.seq (.s [.w 7 0,.y 8 (.call (.f 148) [.t 7]),.y 9 (.fadr 0 (.t 3)),.j 10 9,.y 11 (.call (.f 120) [.t 10,.n (-549755813888),.n 549755813888]),.y 12 (.fadr 1 (.t 3)),.j 13 12,.y 14 (.call (.f 120) [.t 13,.n (-549755813888),.n 549755813888]),.y 15 (.fadr 2 (.t 3)),.j 16 15,.c 17 120 [.t 16, .w,.n 274877906944],.o 18 (.bslice 1 4 [.int .i64 0] [(0, .t 8), (1, .t 11), (2, .t 14), (3, .t 17)]),.c 19 116 [.t 18],.m 5 19] (.s [.m 20 5,.v 21 .neq 20 .z] (.j 21 [.m 22 5,.m 4 22]))) (.s [.m 23 0,.c 24 149 [.t 23],.o 6 (.box (.c (.agg [.int .i64 0, .int .i64 0, .int .i64 0, .int .i64 0, .int .i64 0, .int .i64 0, .int .i64 0, .int .i64 0, .int .i64 0]))),.s 9 6 24] (.r [.y 25 (.load (some 3) (.t 3)),.y 26 (.call (.f 150) [.t 25]),.y 27 (.load (some 3) (.t 3)),.y 28 (.eqv true (.agg [.i, .i, .i]) (.t 26) (.t 27)),.y 29 (.call (.f 117) [.t 28, .w]),.y 30 (.load (some 3) (.t 3)),.y 31 (.load (some 9) (.t 6)),.c 32 151 [.t 30,.t 31, .w],.v 33 .neq 32 .z,.m 34 33,⟨(some 35), .load (some 3) (.t 3), (some (34, false)), true⟩,⟨(some 36), .load (some 9) (.t 6), (some (34, false)), true⟩,.g 37 34 false (.call (.f 151) [.t 35,.t 36,.n 2]),.g 38 34 false (.bin .neq (.t 37) .z),.f 39 34 38,.c 40 117 [.t 39,.n 19],.o 41 (.bslice 1 2 [.int .i64 0] [(0, .t 29), (1, .t 40)]),.c 42 116 [.t 41],.m 4 42]))))⟩
def fn75 : AFunc := ⟨19, 1, [(2, none)],(.s [.o 2 (.mov .z)] (.seq (.s [.o 3 (.mov .z)] (.block 0 (.loop (.seq (.s [.m 5 3,.m 6 0,.n 7 6,.u 8 .lss 5 7] (.i 8 .skip (.exit 0))) (.seq (.block 1 (.s [.m 11 0,.m 12 3,.h 13 1 11 12,.l 14 13,.c 15 155 [.t 14],.m 4 15] (.s [.m 16 4,.v 17 .neq 16 .z] (.j 17 [.m 18 4,.m 2 18])))) (.ops [.m 9 3,.v 10 .add 9 .w,.m 3 10])))))) (.r [.o 2 (.mov .z)])))⟩
def fn76 : AFunc := ⟨19, 1, [(2, none)],(.s [.o 2 (.mov (.c .nilSlice))] (.s [.o 3 (.mov (.c .nilSlice))] (.seq (.s [.m 6 0,.n 7 6,.o 8 (.mov .z)] (.block 0 (.loop (.s [.u 9 .lss 8 7] (.seq (.i 9 .skip (.exit 0)) (.seq (.block 1 (.s [.h 10 1 6 8,.l 11 10,.m 5 11] (.ops [.m 12 3,.m 13 5,.c 14 133 [.t 13],.o 15 (.bslice 1 1 [.flt .f32 0] [(0, .t 14)]),.o 16 (.app 1 4 (.t 12) (.t 15)),.m 3 16]))) (.ops [.v 17 .add 8 .w,.m 8 17]))))))) (.r [.m 18 3,.m 2 18]))))⟩
def fn77 : AFunc := ⟨44, 2, [(4, none), (5, none)],(.s [.o 4 (.mov (.c .nilSlice)),.o 5 (.mov .z)] (.seq (.s [.m 11 0,.m 12 1,.c 13 156 [.t 11,.t 12],.m 6 13] (.s [.m 14 6,.v 15 .neq 14 .z] (.j 15 [.m 16 6,.o 4 (.mov (.c .nilSlice)),.m 5 16]))) (.s [.m 17 0,.c 18 107 [.t 17, (.f 108)],.m 7 18] (.s [.m 19 7,.n 20 19,.o 21 (.mksl 1 8 [.int .i64 0] (.t 20) (.t 20)),.m 8 21] (.seq (.s [.m 22 7,.n 23 22,.o 24 (.mov .z)] (.block 0 (.loop (.s [.u 25 .lss 24 23] (.seq (.i 25 .skip (.exit 0)) (.seq (.block 1 (.s [.m 26 24,.h 27 1 22 24,.l 28 27,.m 9 26,.m 10 28] (.ops [.m 29 8,.m 30 9,.m 31 10,.m 32 7,.m 33 9,.m 34 1,.u 35 .sub 33 34,.c 36 157 [.t 32,.t 35],.u 37 .sub 31 36,.h 38 1 29 30,.s 1 38 37]))) (.ops [.v 39 .add 24 .w,.m 24 39]))))))) (.r [.m 40 8,.c 41 105 [.t 40],.e 42 41 0,.e 43 41 1,.m 4 42,.m 5 43]))))))⟩
def fn78 : AFunc := ⟨46, 2, [(4, none), (5, none)],(.s [.o 4 (.mov (.c .nilSlice)),.o 5 (.mov .z)] (.seq (.s [.m 10 0,.m 11 1,.c 12 156 [.t 10,.t 11],.m 6 12] (.s [.m 13 6,.v 14 .neq 13 .z] (.j 14 [.m 15 6,.o 4 (.mov (.c .nilSlice)),.m 5 15]))) (.s [.m 16 0,.c 17 107 [.t 16, (.f 108)],.m 7 17] (.seq (.s [.m 18 7,.n 19 18,.o 20 (.mov .z)] (.block 0 (.loop (.s [.u 21 .lss 20 19] (.seq (.i 21 .skip (.exit 0)) (.seq (.block 1 (.s [.m 22 20,.m 8 22] (.s [.m 23 7,.m 24 8,.m 25 1,.u 26 .sub 24 25,.c 27 157 [.t 23,.t 26],.m 9 27] (.s [.m 28 7,.m 29 8,.h 30 1 28 29,.l 31 30,.m 32 9,.u 33 .add 31 32,.h 34 1 28 29,.s 1 34 33] (.s [.m 35 7,.m 36 8,.h 37 1 35 36,.l 38 37,.c 39 146 [.t 38],.o 40 (.un .not (.t 39))] (.j 40 [.o 4 (.mov (.c .nilSlice)),.o 5 (.mov (.n 4))])))))) (.ops [.v 41 .add 20 .w,.m 20 41]))))))) (.r [.m 42 7,.c 43 105 [.t 42],.e 44 43 0,.e 45 43 1,.m 4 44,.m 5 45])))))⟩
def fn79 : AFunc := ⟨26, 1, [(2, none), (3, none)],(.s [.o 2 (.mov (.c .nilSlice)),.o 3 (.mov .z)] (.seq (.s [.m 7 0,.c 8 120 [.t 7, .w,.n 64],.m 4 8] (.s [.m 9 4,.v 10 .neq 9 .z] (.j 10 [.m 11 4,.o 2 (.mov (.c .nilSlice)),.m 3 11]))) (.s [.o 5 (.mov (.c .nilSlice))] (.seq (.s [.o 12 (.mov .z)] (.block 0 (.loop (.s [.v 13 .lss 12 (.n 4)] (.seq (.i 13 .skip (.exit 0)) (.seq (.block 1 (.s [.m 14 12,.m 6 14] (.s [.m 15 6,.m 16 0,.u 17 .mul 15 16,.v 18 .rem 17 (.n 4),.v 19 .eql 18 .z] (.i 19 (.ops [.m 20 5,.m 21 6,.o 22 (.bslice 1 1 [.int .i64 0] [(0, .t 21)]),.o 23 (.app 1 8 (.t 20) (.t 22)),.m 5 23]) .skip)))) (.ops [.v 24 .add 12 .w,.m 12 24]))))))) (.r [.m 25 5,.m 2 25,.o 3 (.mov .z)])))))⟩
def fn80 : AFunc := ⟨63, 2, [(4, none), (5, none)],(.s [.o 4 (.mov (.c .nilSlice)),.o 5 (.mov .z)] (.seq (.s [.m 12 0,.m 13 1,.c 14 156 [.t 12,.t 13],.m 6 14] (.s [.m 15 6,.v 16 .neq 15 .z] (.j 16 [.m 17 6,.o 4 (.mov (.c .nilSlice)),.m 5 17]))) (.s [.m 18 0,.c 19 107 [.t 18, (.f 108)],.m 7 19] (.s [.m 20 7,.n 21 20,.o 22 (.mksl 1 8 [.int .i64 0] (.t 21) (.t 21)),.m 8 22] (.seq (.s [.m 23 1,.m 9 23] (.block 0 (.loop (.seq (.s [.m 24 9,.m 25 8,.n 26 25,.u 27 .lss 24 26] (.i 27 .skip (.exit 0))) (.seq (.block 1 (.s [.o 10 (.mov .z)] (.seq (.s [.m 30 9,.m 31 1,.u 32 .sub 30 31,.v 33 .add 32 .w,.o 34 (.mov .z)] (.block 2 (.loop (.s [.u 35 .lss 34 33] (.seq (.i 35 .skip (.exit 2)) (.seq (.block 3 (.s [.m 36 34,.m 11 36] (.ops [.w 37 10,.w 38 7,.w 39 11,.y 40 (.iadr 1 (.t 38) (.t 39)),.j 41 40,.w 42 7,.w 43 9,.w 44 1,.y 45 (.bin .sub (.t 43) (.t 44)),.w 46 11,.y 47 (.bin .sub (.t 45) (.t 46)),.y 48 (.iadr 1 (.t 42) (.t 47)),.j 49 48,.y 50 (.bin .mul (.t 41) (.t 49)),.u 51 .add 37 50,.m 10 51]))) (.ops [.v 52 .add 34 .w,.m 34 52]))))))) (.ops [.m 53 8,.m 54 9,.m 55 10,.c 56 128 [.t 55,.n 1024],.o 57 (.un .neg (.t 56)),.h 58 1 53 54,.s 1 58 57])))) (.ops [.m 28 9,.v 29 .add 28 .w,.m 9 29])))))) (.r [.m 59 8,.c 60 105 [.t 59],.e 61 60 0,.e 62 60 1,.m 4 61,.m 5 62]))))))⟩
def fn81 : AFunc := ⟨34, 2, [(4, none)],(.s [.o 4 (.mov (.c .nilSlice))] (.s [.o 5 (.mov (.c .nilSlice))] (.seq (.s [.o 6 (.mov .z)] (.block 0 (.loop (.seq (.s [.m 8 6,.m 9 0,.n 10 9,.u 11 .lss 8 10] (.i 11 .skip (.exit 0))) (.seq (.block 1 (.s [.m 14 0,.m 15 6,.h 16 1 14 15,.l 17 16,.m 7 17] (.seq (.s [.m 18 6,.m 19 1,.u 20 .geq 18 19] (.i 20 (.ops [.m 21 7,.m 22 0,.m 23 6,.m 24 1,.u 25 .sub 23 24,.h 26 1 22 25,.l 27 26,.u 28 .sub 21 27,.m 7 28]) .skip)) (.ops [.m 29 5,.m 30 7,.o 31 (.bslice 1 1 [.int .i64 0] [(0, .t 30)]),.o 32 (.app 1 8 (.t 29) (.t 31)),.m 5 32])))) (.ops [.m 12 6,.v 13 .add 12 .w,.m 6 13])))))) (.r [.m 33 5,.m 4 33]))))⟩
def fn82 : AFunc := ⟨44, 2, [(4, none)],(.s [.o 4 (.mov (.c .nilSlice))] (.s [.o 5 (.mov (.c .nilSlice))] (.seq (.s [.o 6 (.mov .z)] (.block 0 (.loop (.seq (.s [.m 9 6,.m 10 0,.n 11 10,.u 12 .lss 9 11] (.i 12 .skip (.exit 0))) (.seq (.block 1 (.s [.o 7 (.mov .z)] (.seq (.s [.o 8 (.mov .z)] (.block 2 (.loop (.seq (.s [.m 15 8,.m 16 6,.m 17 1,.u 18 .sub 16 17,.u 19 .leq 15 18] (.i 19 .skip (.exit 2))) (.seq (.block 3 (.ops [.w 22 7,.w 23 0,.w 24 8,.y 25 (.iadr 1 (.t 23) (.t 24)),.j 26 25,.w 27 0,.w 28 6,.w 29 1,.y 30 (.bin .sub (.t 28) (.t 29)),.w 31 8,.y 32 (.bin .sub (.t 30) (.t 31)),.y 33 (.iadr 1 (.t 27) (.t 32)),.j 34 33,.y 35 (.bin .mul (.t 26) (.t 34)),.u 36 .add 22 35,.m 7 36])) (.ops [.m 20 8,.v 21 .add 20 .w,.m 8 21])))))) (.ops [.m 37 5,.m 38 7,.c 39 131 [.t 38,.n 1024],.b 40 .sub .z (.t 39),.o 41 (.bslice 1 1 [.int .i64 0] [(0, .t 40)]),.o 42 (.app 1 8 (.t 37) (.t 41)),.m 5 42])))) (.ops [.m 13 6,.v 14 .add 13 .w,.m 6 14])))))) (.r [.m 43 5,.m 4 43]))))⟩
def fn83 : AFunc := ⟨37, 2, [(4, none), (5, none)],(.s [.o 4 (.mov (.c .nilSlice)),.o 5 (.mov .z)] (.s [.o 6 (.mov (.c .nilSlice))] (.seq (.s [.o 7 (.mov .z)] (.block 0 (.loop (.seq (.s [.m 9 7,.m 10 0,.n 11 10,.u 12 .lss 9 11] (.i 12 .skip (.exit 0))) (.seq (.block 1 (.s [.m 15 0,.m 16 7,.h 17 1 15 16,.l 18 17,.m 8 18] (.seq (.s [.m 19 7,.m 20 1,.u 21 .geq 19 20] (.i 21 (.ops [.m 22 8,.m 23 6,.m 24 7,.m 25 1,.u 26 .sub 24 25,.h 27 1 23 26,.l 28 27,.u 29 .add 22 28,.m 8 29]) .skip)) (.seq (.s [.m 30 8,.c 31 112 [.t 30]] (.j 31 [.o 4 (.mov (.c .nilSlice)),.o 5 (.mov (.n 4))])) (.ops [.m 32 6,.m 33 8,.o 34 (.bslice 1 1 [.int .i64 0] [(0, .t 33)]),.o 35 (.app 1 8 (.t 32) (.t 34)),.m 6 35]))))) (.ops [.m 13 7,.v 14 .add 13 .w,.m 7 14])))))) (.r [.m 36 6,.m 4 36,.o 5 (.mov .z)]))))⟩
def fn84 : AFunc := ⟨19, 1, [(2, none)],(.s [.o 2 (.mov (.c .nilSlice))] (.s [.o 3 (.mov (.c .nilSlice))] (.seq (.s [.o 4 (.mov .z)] (.block 0 (.loop (.seq (.s [.m 5 4,.v 6 .lss 5 (.n 4)] (.i 6 .skip (.exit 0))) (.seq (.block 1 (.s [.m 9 4,.m 10 0,.u 11 .mul 9 10,.v 12 .rem 11 (.n 4),.v 13 .eql 12 .z] (.i 13 (.ops [.m 14 3,.m 15 4,.o 16 (.bslice 1 1 [.int .i64 0] [(0, .t 15)]),.o 17 (.app 1 8 (.t 14) (.t 16)),.m 3 17]) .skip))) (.ops [.m 7 4,.v 8 .add 7 .w,.m 4 8])))))) (.r [.m 18 3,.m 2 18]))))⟩
def fn85 : AFunc := ⟨30, 4, [(8, none)],(.s [.o 8 (.mov .F)] (.r [.m 9 1,.m 10 2,.u 11 .eql 9 10,.m 12 11,.t 13 12 true 2,.g 14 12 true (.bin .neq (.t 13) .z),.t 15 12 true 14,.t 16 15 true 0,.g 17 15 true (.len .sl (.t 16)),.g 18 15 true (.bin .eql (.t 17) .z),.g 19 12 true (.pick (.t 15) (.t 18) .F),.t 20 12 true 19,.t 21 20 false 2,.g 22 20 false (.bin .eql (.t 21) .z),.t 23 20 false 22,.t 24 23 true 0,.t 25 23 true 3,.g 26 23 true (.call (.f 102) [.t 24,.t 25]),.g 27 20 false (.pick (.t 23) (.t 26) .F),.g 28 12 true (.pick (.t 20) .T (.t 27)),.d 29 12 28,.m 8 29]))⟩
def fn86 : AFunc := ⟨18, 2, [(4, none)],(.s [.o 4 (.mov .F)] (.seq (.s [.o 5 (.mov .z)] (.block 0 (.loop (.seq (.s [.m 6 5,.m 7 0,.n 8 7,.u 9 .lss 6 8] (.i 9 .skip (.exit 0))) (.seq (.block 1 (.s [.m 12 0,.m 13 5,.h 14 1 12 13,.l 15 14,.m 16 1,.u 17 .eql 15 16] (.j 17 [.o 4 (.mov .T)]))) (.ops [.m 10 5,.v 11 .add 10 .w,.m 5 11])))))) (.r [.o 4 (.mov .F)])))⟩
def fn87 : AFunc := ⟨34, 1, [(2, none)],(.s [.p 1 0,.o 2 (.mov .F)] (.seq (.s [.a 4 0 1,.l 5 4,.o 6 (.len .st (.t 5)),.v 7 .gtr 6 (.n 60),.m 8 7,.g 9 8 false (.fadr 1 (.t 1)),.g 10 8 false (.load none (.t 9)),.g 11 8 false (.len .sl (.t 10)),.g 12 8 false (.bin .gtr (.t 11) (.n 6)),.t 13 8 false 12,.g 14 13 true (.fadr 1 (.t 1)),.g 15 13 true (.load none (.t 14)),.g 16 13 true (.len .sl (.t 15)),.g 17 13 true (.bin .neq (.t 16) (.n 65)),.g 18 8 false (.pick (.t 13) (.t 17) .F),.f 19 8 18] (.j 19 [.o 2 (.mov .F)])) (.seq (.s [.o 3 (.mov .z)] (.block 0 (.loop (.seq (.s [.m 20 3,.a 21 1 1,.l 22 21,.n 23 22,.u 24 .lss 20 23] (.i 24 .skip (.exit 0))) (.seq (.block 1 (.s [.a 27 1 1,.l 28 27,.m 29 3,.h 30 10 28 29,.r 31 10 30,.c 32 158 [.t 31],.o 33 (.un .not (.t 32))] (.j 33 [.o 2 (.mov .F)]))) (.ops [.m 25 3,.v 26 .add 25 .w,.m 3 26])))))) (.r [.o 2 (.mov .T)]))))⟩
def fn91 : AFunc := ⟨66, 1, [(2, none)],(.s [.p 1 0,.o 2 (.mov .z)] (.seq (.s [.a 8 0 1,.l 9 8,.c 10 163 [.t 9],.o 11 (.un .not (.t 10))] (.j 11 [.o 2 (.mov (.n 8))])) (.seq (.s [.a 12 1 1,.l 13 12,.n 14 13,.v 15 .eql 14 .z] (.j 15 [.o 2 (.mov (.n 12))])) (.seq (.s [.a 16 1 1,.l 17 16,.n 18 17,.v 19 .gtr 18 (.n 64)] (.j 19 [.o 2 (.mov (.n 5))])) (.seq (.s [.o 3 (.mov .z)] (.block 0 (.loop (.seq (.s [.m 20 3,.a 21 1 1,.l 22 21,.n 23 22,.u 24 .lss 20 23] (.i 24 .skip (.exit 0))) (.seq (.block 1 (.s [.a 27 1 1,.l 28 27,.m 29 3,.h 30 10 28 29,.r 31 10 30,.c 32 164 [.t 31],.m 4 32] (.s [.m 33 4,.v 34 .neq 33 .z] (.j 34 [.m 35 4,.m 2 35])))) (.ops [.m 25 3,.v 26 .add 25 .w,.m 3 26])))))) (.s [.r 37 2 1,.c 38 165 [.t 37],.m 36 38,.e 39 36 0,.e 40 36 1,.m 5 39,.m 6 40] (.seq (.s [.o 7 (.mov .z)] (.block 2 (.loop (.seq (.s [.m 41 7,.a 42 1 1,.l 43 42,.n 44 43,.u 45 .lss 41 44] (.i 45 .skip (.exit 2))) (.seq (.block 3 (.s [.a 48 1 1,.l 49 48,.m 50 7,.h 51 10 49 50,.a 52 8 51,.l 53 52,.o 54 (.un .not (.t 53)),.m 55 54,.g 56 55 true (.fadr 1 (.t 1)),.g 57 55 true (.load none (.t 56)),.t 58 55 true 7,.g 59 55 true (.iadr 10 (.t 57) (.t 58)),.g 60 55 true (.fadr 9 (.t 59)),.g 61 55 true (.load none (.t 60)),.g 62 55 true (.len .sl (.t 61)),.t 63 55 true 5,.g 64 55 true (.bin .neq (.t 62) (.t 63)),.d 65 55 64] (.j 65 [.o 2 (.mov (.n 2))]))) (.ops [.m 46 7,.v 47 .add 46 .w,.m 7 47])))))) (.r [.o 2 (.mov .z)]))))))))⟩
def fn94 : AFunc := ⟨39, 2, [(4, none)],(.s [.p 2 0,.p 3 1,.o 4 (.mov .F)] (.seq (.s [.a 6 0 2,.l 7 6,.a 8 0 3,.l 9 8,.u 10 .neq 7 9,.m 11 10,.g 12 11 false (.fadr 1 (.t 2)),.g 13 11 false (.load none (.t 12)),.g 14 11 false (.len .sl (.t 13)),.g 15 11 false (.fadr 1 (.t 3)),.g 16 11 false (.load none (.t 15)),.g 17 11 false (.len .sl (.t 16)),.g 18 11 false (.bin .neq (.t 14) (.t 17)),.f 19 11 18] (.j 19 [.o 4 (.mov .F)])) (.seq (.s [.o 5 (.mov .z)] (.block 0 (.loop (.seq (.s [.m 20 5,.a 21 1 2,.l 22 21,.n 23 22,.u 24 .lss 20 23] (.i 24 .skip (.exit 0))) (.seq (.block 1 (.s [.y 27 (.fadr 1 (.t 2)),.j 28 27,.w 29 5,.y 30 (.iadr 10 (.t 28) (.t 29)),.y 31 (.load (some 10) (.t 30)),.y 32 (.fadr 1 (.t 3)),.j 33 32,.w 34 5,.y 35 (.iadr 10 (.t 33) (.t 34)),.y 36 (.load (some 10) (.t 35)),.c 37 167 [.t 31,.t 36],.o 38 (.un .not (.t 37))] (.j 38 [.o 4 (.mov .F)]))) (.ops [.m 25 5,.v 26 .add 25 .w,.m 5 26])))))) (.r [.o 4 (.mov .T)]))))⟩
def fn98 : AFunc := ⟨13, 1, [(2, none), (3, none)],(.s [.o 2 (.mov (.c (.str []))),.o 3 (.mov .z)] (.seq (.s [.m 5 0,.c 6 34 [.t 5],.m 4 6] (.s [.m 7 4,.v 8 .neq 7 .z] (.j 8 [.m 9 4,.o 2 (.mov (.c (.str []))),.m 3 9]))) (.r [.m 10 0,.c 11 174 [.t 10, (.f 175)],.o 12 (.call (.f 173) [.t 11, (.c (.str [32]))]),.m 2 12,.o 3 (.mov .z)])))⟩
def fn99 : AFunc := ⟨43, 1, [(2, none), (3, none)],(.s [.o 2 (.mov (.c .nilSlice)),.o 3 (.mov .z)] (.seq (.s [.m 9 0,.o 10 (.len .st (.t 9)),.v 11 .gtr 10 (.n 4096)] (.j 11 [.o 2 (.mov (.c .nilSlice)),.o 3 (.mov (.n 26))])) (.s [.m 12 0,.o 13 (.call (.f 176) [.t 12, (.c (.str [32]))]),.o 14 (.build [.nilSlice, .bool false] [(0, 1, .t 13)]),.p 15 14,.m 4 15] (.s [.m 16 4,.o 17 (.mkfn (.func 177) [.t 16] []),.m 5 17] (.s [.o 6 (.mov (.c .nilSlice))] (.seq (.block 0 (.loop (.seq (.s [.m 18 4,.o 19 (.nilchk (.t 18)),.a 20 0 19,.l 21 20,.n 22 21,.v 23 .gtr 22 .z] (.i 23 .skip (.exit 0))) (.block 1 (.s [.m 24 5,.o 25 (.call (.t 24) []),.m 7 25] (.ops [.m 26 6,.m 27 7,.o 28 (.bslice 1 1 [.int .i64 0] [(0, .t 27)]),.o 29 (.app 1 8 (.t 26) (.t 28)),.m 6 29])))))) (.seq (.s [.m 30 4,.o 31 (.nilchk (.t 30)),.a 32 1 31,.l 33 32,.c 34 117 [.t 33,.n 25],.m 35 6,.c 36 34 [.t 35],.o 37 (.bslice 1 2 [.int .i64 0] [(0, .t 34), (1, .t 36)]),.c 38 116 [.t 37],.m 8 38] (.s [.m 39 8,.v 40 .neq 39 .z] (.j 40 [.m 41 8,.o 2 (.mov (.c .nilSlice)),.m 3 41]))) (.r [.m 42 6,.m 2 42,.o 3 (.mov .z)]))))))))⟩
def fn100 : AFunc := ⟨24, 1, [(2, none)],(.s [.o 2 (.mov (.c (.str [])))] (.s [.m 5 0,.o 6 (.iadr 1 (.t 5) .z),.l 7 6,.c 8 178 [.t 7],.m 3 8] (.seq (.s [.o 4 (.mov .w)] (.block 0 (.loop (.seq (.s [.m 9 4,.m 10 0,.n 11 10,.u 12 .lss 9 11] (.i 12 .skip (.exit 0))) (.seq (.block 1 (.ops [.m 15 3,.v 16 .add 15 (.c (.str [32])),.m 17 0,.m 18 4,.h 19 1 17 18,.l 20 19,.c 21 178 [.t 20],.u 22 .add 16 21,.m 3 22])) (.ops [.m 13 4,.v 14 .add 13 .w,.m 4 14])))))) (.r [.m 23 3,.m 2 23]))))⟩
def fn101 : AFunc := ⟨41, 1, [(2, none), (3, none)],(.s [.o 2 (.mov (.c .nilSlice)),.o 3 (.mov .z)] (.seq (.s [.m 10 0,.o 11 (.len .st (.t 10)),.v 12 .gtr 11 (.n 4096)] (.j 12 [.o 2 (.mov (.c .nilSlice)),.o 3 (.mov (.n 26))])) (.s [.m 13 0,.c 14 103 [.t 13, (.c (.int .u8 32))],.m 4 14] (.s [.o 5 (.mov (.c .nilSlice))] (.seq (.s [.o 6 (.mov .z)] (.block 0 (.loop (.seq (.s [.m 15 6,.m 16 4,.n 17 16,.u 18 .lss 15 17] (.i 18 .skip (.exit 0))) (.seq (.block 1 (.s [.m 22 4,.m 23 6,.h 24 1 22 23,.l 25 24,.c 26 179 [.t 25],.m 21 26,.e 27 21 0,.e 28 21 1,.m 7 27,.m 8 28] (.seq (.s [.m 29 8,.o 30 (.un .not (.t 29))] (.j 30 [.o 2 (.mov (.c .nilSlice)),.o 3 (.mov (.n 25))])) (.ops [.m 31 5,.m 32 7,.o 33 (.bslice 1 1 [.int .i64 0] [(0, .t 32)]),.o 34 (.app 1 8 (.t 31) (.t 33)),.m 5 34])))) (.ops [.m 19 6,.v 20 .add 19 .w,.m 6 20])))))) (.seq (.s [.m 35 5,.c 36 26 [.t 35],.m 9 36] (.s [.m 37 9,.v 38 .neq 37 .z] (.j 38 [.m 39 9,.o 2 (.mov (.c .nilSlice)),.m 3 39]))) (.r [.m 40 5,.m 2 40,.o 3 (.mov .z)])))))))⟩
def fn102 : AFunc := ⟨26, 2, [(4, none)],(.s [.o 4 (.mov .F)] (.seq (.s [.m 6 0,.n 7 6,.m 8 1,.n 9 8,.u 10 .neq 7 9] (.j 10 [.o 4 (.mov .F)])) (.seq (.s [.o 5 (.mov .z)] (.block 0 (.loop (.seq (.s [.m 11 5,.m 12 0,.n 13 12,.u 14 .lss 11 13] (.i 14 .skip (.exit 0))) (.seq (.block 1 (.s [.w 17 0,.w 18 5,.y 19 (.iadr 1 (.t 17) (.t 18)),.j 20 19,.w 21 1,.w 22 5,.y 23 (.iadr 1 (.t 21) (.t 22)),.j 24 23,.u 25 .neq 20 24] (.j 25 [.o 4 (.mov .F)]))) (.ops [.m 15 5,.v 16 .add 15 .w,.m 5 16])))))) (.r [.o 4 (.mov .T)]))))⟩
def fn103 : AFunc := ⟨40, 2, [(4, none)],(.s [.o 4 (.mov (.c .nilSlice))] (.s [.o 7 (.bslice 1 1 [.str []] [(0, (.c (.str [])))]),.m 5 7] (.seq (.s [.o 6 (.mov .z)] (.block 0 (.loop (.seq (.s [.m 8 6,.m 9 0,.o 10 (.len .st (.t 9)),.u 11 .lss 8 10] (.i 11 .skip (.exit 0))) (.seq (.block 1 (.seq (.s [.m 14 0,.m 15 6,.o 16 (.ixs (.t 14) (.t 15)),.m 17 1,.u 18 .eql 16 17] (.i 18 (.s [.m 19 5,.o 20 (.bslice 1 1 [.str []] [(0, (.c (.str [])))]),.o 21 (.app 1 16 (.t 19) (.t 20)),.m 5 21] (.exit 1)) .skip)) (.ops [.w 22 5,.w 23 5,.y 24 (.len .sl (.t 23)),.y 25 (.bin .sub (.t 24) .w),.w 26 5,.w 27 5,.y 28 (.len .sl (.t 27)),.y 29 (.bin .sub (.t 28) .w),.y 30 (.iadr 1 (.t 26) (.t 29)),.j 31 30,.w 32 0,.w 33 6,.w 34 6,.y 35 (.bin .add (.t 34) .w),.y 36 (.sls (.t 32) (some (.t 33)) (some (.t 35))),.y 37 (.bin .add (.t 31) (.t 36)),.h 38 1 22 25,.s 1 38 37]))) (.ops [.m 12 6,.v 13 .add 12 .w,.m 6 13])))))) (.r [.m 39 5,.m 4 39]))))⟩
def fn104 : AFunc := ⟨11, 2, [(4, none)],(.s [.o 4 (.mov .z)] (.r [.m 5 0,.c 6 34 [.t 5],.m 7 1,.c 8 134 [.t 7],.o 9 (.bslice 1 2 [.int .i64 0] [(0, .t 6), (1, .t 8)]),.c 10 116 [.t 9],.m 4 10]))⟩
def fn105 : AFunc := ⟨8, 1, [(2, none), (3, none)],(.s [.o 2 (.mov (.c .nilSlice)),.o 3 (.mov .z)] (.seq (.s [.m 4 0,.c 5 180 [.t 4, (.f 181)]] (.j 5 [.o 2 (.mov (.c .nilSlice)),.o 3 (.mov (.n 4))])) (.r [.m 6 0,.c 7 182 [.t 6, (.f 144)],.m 2 7,.o 3 (.mov .z)])))⟩
def fn106 : AFunc := ⟨44, 3, [(6, none)],(.s [.o 6 (.mov (.c .nilSlice))] (.s [.m 11 1,.n 12 11,.o 13 (.mksl 1 8 [.int .i64 0] (.t 12) (.t 12)),.m 7 13] (.seq (.s [.m 14 7,.n 15 14,.o 16 (.mov .z)] (.block 0 (.loop (.s [.u 17 .lss 16 15] (.seq (.i 17 .skip (.exit 0)) (.seq (.block 1 (.s [.m 18 16,.m 8 18] (.s [.m 19 0,.n 20 19,.o 21 (.mov .z)] (.block 2 (.loop (.s [.u 22 .lss 21 20] (.seq (.i 22 .skip (.exit 2)) (.seq (.block 3 (.s [.m 23 21,.h 24 1 19 21,.l 25 24,.m 9 23,.m 10 25] (.ops [.w 26 7,.w 27 8,.y 28 (.iadr 1 (.t 26) (.t 27)),.j 29 28,.w 30 10,.w 31 1,.w 32 8,.w 33 2,.w 34 9,.y 35 (.bin .mul (.t 33) (.t 34)),.y 36 (.bin .add (.t 32) (.t 35)),.y 37 (.call (.f 157) [.t 31,.t 36]),.y 38 (.bin .mul (.t 30) (.t 37)),.u 39 .add 29 38,.h 40 1 26 27,.s 1 40 39]))) (.ops [.v 41 .add 21 .w,.m 21 41]))))))))) (.ops [.v 42 .add 16 .w,.m 16 42]))))))) (.r [.m 43 7,.m 6 43]))))⟩
def fn107 : AFunc := ⟨22, 2, [(4, none)],(.s [.o 4 (.mov (.c .nilSlice))] (.s [.o 5 (.mov (.c .nilSlice))] (.seq (.s [.m 8 0,.n 9 8,.o 10 (.mov .z)] (.block 0 (.loop (.s [.u 11 .lss 10 9] (.seq (.i 11 .skip (.exit 0)) (.seq (.block 1 (.s [.h 12 1 8 10,.l 13 12,.m 7 13] (.ops [.m 14 5,.m 15 1,.m 16 7,.o 17 (.call (.t 15) [.t 16]),.o 18 (.bslice 1 1 [.int .i64 0] [(0, .t 17)]),.o 19 (.app 1 8 (.t 14) (.t 18)),.m 5 19]))) (.ops [.v 20 .add 10 .w,.m 10 20]))))))) (.r [.m 21 5,.m 4 21]))))⟩
def fn108 : AFunc := ⟨6, 1, [(2, none)],(.s [.o 2 (.mov .z)] (.r [.m 3 0,.b 4 .mul (.c (.flt .f32 1098907648)) (.t 3),.o 5 (.conv (.f2i .i64) (.t 4)),.m 2 5]))⟩
def fn109 : AFunc := ⟨64, 2, [(4, none), (5, none)],(.s [.o 4 (.mov (.c .nilSlice)),.o 5 (.mov .z)] (.s [.m 10 1,.n 11 10,.o 12 (.mksl 1 8 [.int .i64 0] (.t 11) (.t 11)),.m 6 12] (.s [.m 13 6,.m 14 1,.o 15 (.cpy 1 (.t 13) (.t 14))] (.seq (.s [.m 16 6,.n 17 16,.o 18 (.mov .z)] (.block 0 (.loop (.s [.u 19 .lss 18 17] (.seq (.i 19 .skip (.exit 0)) (.seq (.block 1 (.s [.m 20 18,.m 7 20] (.seq (.s [.m 21 0,.n 22 21,.o 23 (.mov .z)] (.block 2 (.loop (.s [.u 24 .lss 23 22] (.seq (.i 24 .skip (.exit 2)) (.seq (.block 3 (.s [.m 25 23,.h 26 1 21 23,.l 27 26,.m 8 25,.m 9 27] (.s [.m 28 8,.v 29 .gtr 28 .z] (.i 29 (.ops [.w 30 6,.w 31 7,.y 32 (.iadr 1 (.t 30) (.t 31)),.j 33 32,.w 34 9,.w 35 6,.w 36 7,.w 37 8,.y 38 (.bin .sub (.t 36) (.t 37)),.y 39 (.call (.f 157) [.t 35,.t 38]),.y 40 (.bin .mul (.t 34) (.t 39)),.u 41 .sub 33 40,.h 42 1 30 31,.s 1 42 41]) .skip)))) (.ops [.v 43 .add 23 .w,.m 23 43]))))))) (.s [.w 44 6,.w 45 7,.y 46 (.iadr 1 (.t 44) (.t 45)),.j 47 46,.w 48 0,.y 49 (.iadr 1 (.t 48) .z),.j 50 49,.u 51 .mul 47 50,.h 52 1 44 45,.s 1 52 51] (.s [.m 53 6,.m 54 7,.h 55 1 53 54,.l 56 55,.c 57 146 [.t 56],.o 58 (.un .not (.t 57))] (.j 58 [.o 4 (.mov (.c .nilSlice)),.o 5 (.mov (.n 4))])))))) (.ops [.v 59 .add 18 .w,.m 18 59]))))))) (.r [.m 60 6,.c 61 105 [.t 60],.e 62 61 0,.e 63 61 1,.m 4 62,.m 5 63])))))⟩
def fn110 : AFunc := ⟨16, 2, [(4, some (some 2))],(.s [.p 2 0,.p 3 1,.o 4 (.box (.c (.agg [.int .i64 0, .int .i64 0])))] (.r [.a 5 0 2,.l 6 5,.a 7 0 3,.l 8 7,.u 9 .add 6 8,.a 10 1 2,.l 11 10,.a 12 1 3,.l 13 12,.u 14 .add 11 13,.o 15 (.build [.int .i64 0, .int .i64 0] [(0, 1, .t 9), (1, 1, .t 14)]),.s 2 4 15]))⟩
def fn111 : AFunc := ⟨11, 2, [(4, some (some 2))],(.s [.p 2 0,.o 4 (.box (.c (.agg [.int .i64 0, .int .i64 0])))] (.r [.y 5 (.load (some 2) (.t 2)),.w 6 1,.y 7 (.bin .rem (.t 6) (.n 4)),.y 8 (.iada 4 2 (.g 0) (.t 7)),.y 9 (.load (some 2) (.t 8)),.c 10 183 [.t 5,.t 9],.s 2 4 10]))⟩
def fn112 : AFunc := ⟨9, 1, [(2, none)],(.s [.o 2 (.mov .F)] (.r [.m 3 0,.v 4 .gtr 3 (.n 16384),.m 5 4,.t 6 5 false 0,.g 7 5 false (.bin .lss (.t 6) (.n (-16384))),.f 8 5 7,.m 2 8]))⟩
def fn113 : AFunc := ⟨16, 2, [(4, some (some 2))],(.s [.p 2 0,.p 3 1,.o 4 (.box (.c (.agg [.int .i64 0, .int .i64 0])))] (.r [.a 5 0 2,.l 6 5,.a 7 0 3,.l 8 7,.u 9 .add 6 8,.a 10 1 2,.l 11 10,.a 12 1 3,.l 13 12,.u 14 .add 11 13,.o 15 (.build [.int .i64 0, .int .i64 0] [(0, 1, .t 9), (1, 1, .t 14)]),.s 2 4 15]))⟩
def fn114 : AFunc := ⟨28, 2, [(4, some (some 2))],(.s [.p 2 0,.p 3 1,.o 4 (.box (.c (.agg [.int .i64 0, .int .i64 0])))] (.r [.a 5 0 2,.l 6 5,.a 7 0 3,.l 8 7,.u 9 .mul 6 8,.a 10 1 2,.l 11 10,.a 12 1 3,.l 13 12,.u 14 .mul 11 13,.u 15 .sub 9 14,.a 16 0 2,.l 17 16,.a 18 1 3,.l 19 18,.u 20 .mul 17 19,.a 21 1 2,.l 22 21,.a 23 0 3,.l 24 23,.u 25 .mul 22 24,.u 26 .add 20 25,.o 27 (.build [.int .i64 0, .int .i64 0] [(0, 1, .t 15), (1, 1, .t 26)]),.s 2 4 27]))⟩
def fn115 : AFunc := ⟨15, 1, [(2, some (some 2))],(.s [.o 2 (.box (.c (.agg [.int .i64 0, .int .i64 0])))] (.s [.o 5 (.build [.int .i64 0, .int .i64 0] [(0, 1, .w)]),.o 3 (.box (.c (.agg [.int .i64 0, .int .i64 0]))),.s 2 3 5] (.seq (.s [.o 4 (.mov .z)] (.block 0 (.loop (.seq (.s [.m 6 4,.m 7 0,.u 8 .lss 6 7] (.i 8 .skip (.exit 0))) (.seq (.block 1 (.ops [.r 11 2 3,.o 12 (.build [.int .i64 0, .int .i64 0] [(1, 1, .w)]),.c 13 114 [.t 11,.t 12],.s 2 3 13])) (.ops [.m 9 4,.v 10 .add 9 .w,.m 4 10])))))) (.r [.r 14 2 3,.s 2 2 14]))))⟩
def fn116 : AFunc := ⟨15, 1, [(2, none)],(.s [.o 2 (.mov .z)] (.seq (.s [.m 5 0,.n 6 5,.o 7 (.mov .z)] (.block 0 (.loop (.s [.u 8 .lss 7 6] (.seq (.i 8 .skip (.exit 0)) (.seq (.block 1 (.s [.h 9 1 5 7,.l 10 9,.m 4 10] (.s [.m 11 4,.v 12 .neq 11 .z] (.j 12 [.m 13 4,.m 2 13])))) (.ops [.v 14 .add 7 .w,.m 7 14]))))))) (.r [.o 2 (.mov .z)])))⟩
def fn117 : AFunc := ⟨7, 2, [(4, none)],(.s [.o 4 (.mov .z)] (.seq (.s [.m 5 0] (.j 5 [.m 6 1,.m 4 6])) (.r [.o 4 (.mov .z)])))⟩
def fn118 : AFunc := ⟨22, 2, [(4, none)],(.s [.o 4 (.mov (.c .nilSlice))] (.s [.o 5 (.mov (.c .nilSlice))] (.seq (.s [.m 8 0,.n 9 8,.o 10 (.mov .z)] (.block 0 (.loop (.s [.u 11 .lss 10 9] (.seq (.i 11 .skip (.exit 0)) (.seq (.block 1 (.s [.h 12 1 8 10,.l 13 12,.m 7 13] (.ops [.m 14 5,.m 15 1,.m 16 7,.o 17 (.call (.t 15) [.t 16]),.o 18 (.bslice 1 1 [.int .i64 0] [(0, .t 17)]),.o 19 (.app 1 8 (.t 14) (.t 18)),.m 5 19]))) (.ops [.v 20 .add 10 .w,.m 10 20]))))))) (.r [.m 21 5,.m 4 21]))))⟩
def fn119 : AFunc := ⟨5, 1, [(2, none)],(.s [.o 2 (.mov .z)] (.r [.m 3 0,.c 4 120 [.t 3,.n (-16),.n 16],.m 2 4]))⟩
def fn120 : AFunc := ⟨16, 3, [(6, none)],(.s [.o 6 (.mov .z)] (.r [.m 7 0,.m 8 1,.u 9 .lss 7 8,.m 10 9,.t 11 10 false 0,.t 12 10 false 2,.g 13 10 false (.bin .gtr (.t 11) (.t 12)),.f 14 10 13,.c 15 117 [.t 14,.n 3],.m 6 15]))⟩
def fn121 : AFunc := ⟨17, 2, [(4, none)],(.s [.o 4 (.mov .z)] (.r [.m 5 0,.c 6 134 [.t 5],.m 7 1,.c 8 134 [.t 7],.m 9 0,.n 10 9,.m 11 1,.n 12 11,.u 13 .neq 10 12,.c 14 117 [.t 13,.n 2],.o 15 (.bslice 1 3 [.int .i64 0] [(0, .t 6), (1, .t 8), (2, .t 14)]),.c 16 116 [.t 15],.m 4 16]))⟩
def fn122 : AFunc := ⟨25, 2, [(4, none)],(.s [.o 4 (.mov .z)] (.s [.o 5 (.mov .z)] (.seq (.s [.m 8 0,.n 9 8,.o 10 (.mov .z)] (.block 0 (.loop (.s [.u 11 .lss 10 9] (.seq (.i 11 .skip (.exit 0)) (.seq (.block 1 (.s [.m 12 10,.h 13 1 8 10,.l 14 13,.m 6 12,.m 7 14] (.ops [.m 15 5,.m 16 7,.m 17 1,.m 18 6,.h 19 1 17 18,.l 20 19,.u 21 .mul 16 20,.u 22 .add 15 21,.m 5 22]))) (.ops [.v 23 .add 10 .w,.m 10 23]))))))) (.r [.m 24 5,.m 4 24]))))⟩
def fn123 : AFunc := ⟨6, 1, [(2, none)],(.s [.o 2 (.mov .z)] (.r [.m 3 0,.m 4 0,.c 5 122 [.t 3,.t 4],.m 2 5]))⟩
def fn124 : AFunc := ⟨22, 2, [(4, none)],(.s [.o 4 (.mov (.c .nilSlice))] (.s [.o 5 (.mov (.c .nilSlice))] (.seq (.s [.m 8 0,.n 9 8,.o 10 (.mov .z)] (.block 0 (.loop (.s [.u 11 .lss 10 9] (.seq (.i 11 .skip (.exit 0)) (.seq (.block 1 (.s [.h 12 2 8 10,.r 13 2 12,.o 7 (.box (.c (.agg [.int .i64 0, .int .i64 0]))),.s 2 7 13] (.ops [.m 14 5,.m 15 1,.r 16 2 7,.o 17 (.call (.t 15) [.t 16]),.o 18 (.bslice 1 1 [.int .i64 0] [(0, .t 17)]),.o 19 (.app 1 8 (.t 14) (.t 18)),.m 5 19]))) (.ops [.v 20 .add 10 .w,.m 10 20]))))))) (.r [.m 21 5,.m 4 21]))))⟩
def fn125 : AFunc := ⟨5, 1, [(2, none)],(.s [.o 2 (.mov (.c .nilSlice))] (.r [.m 3 0,.c 4 184 [(.c .nilSlice),.t 3],.m 2 4]))⟩
def fn126 : AFunc := ⟨6, 2, [(4, none)],(.s [.p 2 0,.p 3 1,.o 4 (.mov (.c .nilFunc))] (.r [.o 5 (.mkfn (.func 185) [] [.t 2,.t 3]),.m 4 5]))⟩
def fn127 : AFunc := ⟨16, 1, [(4, none)],(.s [.p 3 0,.o 4 (.mov .z)] (.r [.o 5 (.iada 2 1 (.t 3) .z),.l 6 5,.l 7 1,.u 8 .mul 6 7,.o 9 (.iada 2 1 (.t 3) .w),.l 10 9,.l 11 2,.u 12 .mul 10 11,.u 13 .sub 8 12,.l 14 1,.c 15 128 [.t 13,.t 14],.m 4 15]))⟩
def fn128 : AFunc := ⟨28, 2, [(4, none)],(.s [.o 4 (.mov .z)] (.s [.m 7 0,.b 8 .mul (.n 2) (.t 7),.m 9 1,.u 10 .add 8 9,.m 5 10] (.s [.m 11 5,.m 12 1,.b 13 .mul (.n 2) (.t 12),.u 14 .quo 11 13,.m 6 14] (.seq (.s [.m 15 5,.v 16 .lss 15 .z,.m 17 16,.t 18 17 true 6,.g 19 17 true (.bin .mul (.t 18) (.n 2)),.t 20 17 true 1,.g 21 17 true (.bin .mul (.t 19) (.t 20)),.t 22 17 true 5,.g 23 17 true (.bin .neq (.t 21) (.t 22)),.d 24 17 23] (.i 24 (.ops [.m 25 6,.v 26 .sub 25 .w,.m 6 26]) .skip)) (.r [.m 27 6,.m 4 27])))))⟩
def fn129 : AFunc := ⟨16, 2, [(4, some (some 2))],(.s [.o 4 (.box (.c (.agg [.int .i64 0, .int .i64 0])))] (.s [.m 6 0,.m 7 1,.c 8 186 [.t 6,.t 7],.m 5 8] (.r [.w 9 0,.w 10 5,.y 11 (.bin .quo (.t 9) (.t 10)),.w 12 1,.w 13 5,.y 14 (.bin .quo (.t 12) (.t 13)),.o 15 (.build [.int .i64 0, .int .i64 0] [(0, 1, .t 11), (1, 1, .t 14)]),.s 2 4 15])))⟩
def fn130 : AFunc := ⟨8, 1, [(2, none)],(.s [.p 1 0,.o 2 (.mov .z)] (.r [.o 3 (.iada 2 1 (.t 1) .z),.l 4 3,.o 5 (.iada 2 1 (.t 1) .w),.l 6 5,.u 7 .sub 4 6,.m 2 7]))⟩
def fn131 : AFunc := ⟨12, 2, [(4, none)],(.s [.o 4 (.mov .z)] (.r [.m 5 0,.b 6 .mul (.n 2) (.t 5),.m 7 1,.u 8 .add 6 7,.m 9 1,.b 10 .mul (.n 2) (.t 9),.c 11 187 [.t 8,.t 10],.m 4 11]))⟩
def fn132 : AFunc := ⟨22, 2, [(4, some (some 2))],(.s [.o 4 (.box (.c (.agg [.int .i64 0, .int .i64 0])))] (.seq (.s [.m 6 1,.v 7 .lss 6 .z] (.i 7 (.ops [.m 8 0,.b 9 .sub .z (.t 8),.m 10 1,.b 11 .sub .z (.t 10),.m 0 9,.m 1 11]) .skip)) (.s [.m 12 0,.m 13 1,.c 14 152 [.t 12,.t 13],.m 5 14] (.r [.w 15 0,.w 16 5,.y 17 (.bin .quo (.t 15) (.t 16)),.w 18 1,.w 19 5,.y 20 (.bin .quo (.t 18) (.t 19)),.o 21 (.build [.int .i64 0, .int .i64 0] [(0, 1, .t 17), (1, 1, .t 20)]),.s 2 4 21]))))⟩
def fn133 : AFunc := ⟨6, 1, [(2, none)],(.s [.o 2 (.mov (.c (.flt .f32 0)))] (.r [.m 3 0,.o 4 (.conv (.i2f .f32) (.t 3)),.v 5 .quo 4 (.c (.flt .f32 1098907648)),.m 2 5]))⟩
def fn134 : AFunc := ⟨9, 1, [(2, none)],(.s [.o 2 (.mov .z)] (.seq (.s [.m 3 0,.n 4 3,.v 5 .gtr 4 (.n 1024)] (.j 5 [.o 2 (.mov (.n 5))])) (.r [.m 6 0,.c 7 141 [.t 6, (.f 142)],.c 8 116 [.t 7],.m 2 8])))⟩
def fn135 : AFunc := ⟨8, 1, [(2, none)],(.s [.o 2 (.mov (.c .nilSlice))] (.seq (.s [.m 3 0,.o 4 (.eqv false .nilS (.t 3) (.c .nilSlice))] (.j 4 [.o 2 (.mov (.c .nilSlice))])) (.r [.o 5 (.bslice 1 0 [.int .i64 0] []),.m 6 0,.o 7 (.app 1 8 (.t 5) (.t 6)),.m 2 7])))⟩
def fn136 : AFunc := ⟨9, 1, [(2, none)],(.s [.o 2 (.mov (.c .nilSlice))] (.s [.m 4 0,.c 5 188 [.t 4],.m 3 5] (.s [.m 6 3,.c 7 189 [.t 6]] (.r [.m 8 3,.m 2 8]))))⟩
def fn137 : AFunc := ⟨4, 1, [(2, none)],(.s [.p 1 0,.o 2 (.mov (.c .nilFunc))] (.r [.o 3 (.mkfn (.func 190) [] [.t 1]),.m 2 3]))⟩
def fn138 : AFunc := ⟨65, 2, [(4, some (some 2))],(.s [.o 4 (.box (.c (.agg [.int .i64 0, .int .i64 0])))] (.s [.m 9 0,.m 10 0,.n 11 10,.v 12 .sub 11 .w,.h 13 2 9 12,.a 14 1 13,.l 15 14,.o 16 (.build [.int .i64 0, .int .i64 0] [(0, 1, .t 15), (1, 1, .w)]),.o 5 (.box (.c (.agg [.int .i64 0, .int .i64 0]))),.s 2 5 16] (.seq .skip (.seq (.s [.m 17 0,.n 18 17,.o 19 (.mov .z)] (.block 0 (.loop (.s [.u 20 .lss 19 18] (.seq (.i 20 .skip (.exit 0)) (.seq (.block 1 (.s [.m 21 19,.h 22 2 17 19,.r 23 2 22,.o 7 (.box (.c (.agg [.int .i64 0, .int .i64 0]))),.m 6 21,.s 2 7 23] (.seq (.s [.m 24 1,.a 25 0 7,.l 26 25,.u 27 .gtr 24 26] (.i 27 (.exit 1) .skip)) (.s [.a 28 1 7,.l 29 28,.o 30 (.build [.int .i64 0, .int .i64 0] [(0, 1, .t 29), (1, 1, .w)]),.s 2 5 30] (.seq (.s [.m 31 6,.v 32 .gtr 31 .z] (.i 32 (.s [.m 33 0,.m 34 6,.v 35 .sub 34 .w,.h 36 2 33 35,.r 37 2 36,.o 8 (.box (.c (.agg [.int .i64 0, .int .i64 0]))),.s 2 8 37] (.ops [.a 38 1 8,.l 39 38,.a 40 0 7,.l 41 40,.a 42 0 8,.l 43 42,.u 44 .sub 41 43,.u 45 .mul 39 44,.a 46 1 7,.l 47 46,.a 48 1 8,.l 49 48,.u 50 .sub 47 49,.m 51 1,.a 52 0 8,.l 53 52,.u 54 .sub 51 53,.u 55 .mul 50 54,.u 56 .add 45 55,.a 57 0 7,.l 58 57,.a 59 0 8,.l 60 59,.u 61 .sub 58 60,.c 62 129 [.t 56,.t 61],.s 2 5 62])) .skip)) (.exit 0)))))) (.ops [.v 63 .add 19 .w,.m 19 63]))))))) (.r [.r 64 2 5,.s 2 4 64])))))⟩
def fn139 : AFunc := ⟨10, 2, [(4, none)],(.s [.p 2 0,.p 3 1,.o 4 (.mov .z)] (.r [.a 5 0 2,.l 6 5,.a 7 0 3,.l 8 7,.c 9 191 [.t 6,.t 8],.m 4 9]))⟩
def fn140 : AFunc := ⟨11, 1, [(2, none)],(.s [.p 1 0,.o 2 (.mov .z)] (.r [.y 3 (.fadr 0 (.t 1)),.j 4 3,.y 5 (.call (.f 120) [.t 4, .z,.n 100000]),.y 6 (.fadr 1 (.t 1)),.j 7 6,.c 8 120 [.t 7,.n (-64),.n 64],.o 9 (.bslice 1 2 [.int .i64 0] [(0, .t 5), (1, .t 8)]),.c 10 116 [.t 9],.m 2 10]))⟩
def fn141 : AFunc := ⟨22, 2, [(4, none)],(.s [.o 4 (.mov (.c .nilSlice))] (.s [.o 5 (.mov (.c .nilSlice))] (.seq (.s [.m 8 0,.n 9 8,.o 10 (.mov .z)] (.block 0 (.loop (.s [.u 11 .lss 10 9] (.seq (.i 11 .skip (.exit 0)) (.seq (.block 1 (.s [.h 12 1 8 10,.l 13 12,.m 7 13] (.ops [.m 14 5,.m 15 1,.m 16 7,.o 17 (.call (.t 15) [.t 16]),.o 18 (.bslice 1 1 [.int .i64 0] [(0, .t 17)]),.o 19 (.app 1 8 (.t 14) (.t 18)),.m 5 19]))) (.ops [.v 20 .add 10 .w,.m 10 20]))))))) (.r [.m 21 5,.m 4 21]))))⟩
def fn142 : AFunc := ⟨13, 1, [(2, none)],(.s [.o 2 (.mov .z)] (.r [.m 3 0,.c 4 193 [.t 3],.o 5 (.un .not (.t 4)),.c 6 192 [.t 5, .w],.m 7 0,.c 8 194 [.t 7,.n 1024],.o 9 (.un .not (.t 8)),.c 10 192 [.t 9,.n 3],.o 11 (.bslice 1 2 [.int .i64 0] [(0, .t 6), (1, .t 10)]),.c 12 168 [.t 11],.m 2 12]))⟩
def fn143 : AFunc := ⟨54, 2, [(4, some (some 32))],(.s [.p 2 0,.o 4 (.box (.c (.agg [.int .i64 0, .int .i64 0, .int .i64 0, .int .i64 0, .int .i64 0, .int .i64 0, .int .i64 0, .int .i64 0, .int .i64 0, .int .i64 0, .int .i64 0, .int .i64 0, .int .i64 0, .int .i64 0, .int .i64 0, .int .i64 0, .int .i64 0, .int .i64 0, .int .i64 0, .int .i64 0, .int .i64 0, .int .i64 0, .int .i64 0, .int .i64 0, .int .i64 0, .int .i64 0, .int .i64 0, .int .i64 0, .int .i64 0, .int .i64 0, .int .i64 0, .int .i64 0])))] (.s [.o 5 (.box (.c (.agg [.int .i64 0, .int .i64 0, .int .i64 0, .int .i64 0, .int .i64 0, .int .i64 0, .int .i64 0, .int .i64 0, .int .i64 0, .int .i64 0, .int .i64 0, .int .i64 0, .int .i64 0, .int .i64 0, .int .i64 0, .int .i64 0, .int .i64 0, .int .i64 0, .int .i64 0, .int .i64 0, .int .i64 0, .int .i64 0, .int .i64 0, .int .i64 0, .int .i64 0, .int .i64 0, .int .i64 0, .int .i64 0, .int .i64 0, .int .i64 0, .int .i64 0, .int .i64 0])))] (.seq (.s [.o 12 (.mov .z)] (.block 0 (.loop (.s [.v 13 .lss 12 (.n 4)] (.seq (.i 13 .skip (.exit 0)) (.seq (.block 1 (.s [.m 14 12,.m 6 14] (.s [.o 15 (.mov .z)] (.block 2 (.loop (.s [.v 16 .lss 15 (.n 4)] (.seq (.i 16 .skip (.exit 2)) (.seq (.block 3 (.s [.m 17 15,.m 7 17] (.s [.r 18 32 2,.o 19 (.mov .z)] (.block 4 (.loop (.s [.v 20 .lss 19 (.n 4)] (.seq (.i 20 .skip (.exit 4)) (.seq (.block 5 (.s [.m 21 19,.o 22 (.ixa 4 8 (some 8) (.t 18) (.t 19)),.o 9 (.box (.c (.agg [.int .i64 0, .int .i64 0, .int .i64 0, .int .i64 0, .int .i64 0, .int .i64 0, .int .i64 0, .int .i64 0]))),.m 8 21,.s 8 9 22] (.s [.r 23 8 9,.o 24 (.mov .z)] (.block 6 (.loop (.s [.v 25 .lss 24 (.n 4)] (.seq (.i 25 .skip (.exit 6)) (.seq (.block 7 (.s [.m 26 24,.o 27 (.ixa 4 2 (some 2) (.t 23) (.t 24)),.o 11 (.box (.c (.agg [.int .i64 0, .int .i64 0]))),.m 10 26,.s 2 11 27] (.ops [.w 28 6,.w 29 7,.w 30 6,.w 31 7,.y 32 (.iada 4 8 (.t 5) (.t 30)),.y 33 (.iada 4 2 (.t 32) (.t 31)),.y 34 (.load (some 2) (.t 33)),.y 35 (.load (some 2) (.t 11)),.w 36 1,.w 37 6,.w 38 8,.y 39 (.bin .mul (.t 37) (.t 38)),.w 40 7,.w 41 10,.y 42 (.bin .mul (.t 40) (.t 41)),.y 43 (.bin .add (.t 39) (.t 42)),.y 44 (.bin .mul (.t 36) (.t 43)),.y 45 (.call (.f 111) [.t 35,.t 44]),.y 46 (.call (.f 110) [.t 34,.t 45]),.y 47 (.iada 4 8 (.t 5) (.t 28)),.o 48 (.iada 4 2 (.t 47) (.t 29)),.s 2 48 46]))) (.ops [.v 49 .add 24 .w,.m 24 49]))))))))) (.ops [.v 50 .add 19 .w,.m 19 50]))))))))) (.ops [.v 51 .add 15 .w,.m 15 51]))))))))) (.ops [.v 52 .add 12 .w,.m 12 52]))))))) (.r [.r 53 32 5,.s 32 4 53]))))⟩
def fn144 : AFunc := ⟨6, 1, [(2, none)],(.s [.o 2 (.mov (.c (.flt .f32 0)))] (.r [.m 3 0,.o 4 (.conv (.i2f .f32) (.t 3)),.v 5 .quo 4 (.c (.flt .f32 1098907648)),.m 2 5]))⟩
def fn145 : AFunc := ⟨43, 1, [(2, none)],(.s [.p 1 0,.o 2 (.mov .z)] (.seq (.s [.r 12 16 1,.o 13 (.mov .z)] (.block 0 (.loop (.s [.v 14 .lss 13 (.n 4)] (.seq (.i 14 .skip (.exit 0)) (.seq (.block 1 (.s [.o 15 (.ixa 4 4 (some 4) (.t 12) (.t 13)),.o 4 (.box (.c (.agg [.cplx .f32 0 0, .cplx .f32 0 0, .cplx .f32 0 0, .cplx .f32 0 0]))),.s 4 4 15] (.s [.r 16 4 4,.o 17 (.mov .z)] (.block 2 (.loop (.s [.v 18 .lss 17 (.n 4)] (.seq (.i 18 .skip (.exit 2)) (.seq (.block 3 (.s [.o 19 (.ixa 4 1 none (.t 16) (.t 17)),.m 6 19] (.s [.m 21 6,.o 22 (.conv .cre (.t 21)),.c 23 195 [.t 22],.m 20 23,.e 24 20 0,.e 25 20 1,.m 7 24,.m 8 25] (.s [.m 27 6,.o 28 (.conv .cim (.t 27)),.c 29 195 [.t 28],.m 26 29,.e 30 26 0,.e 31 26 1,.m 9 30,.m 10 31] (.s [.m 32 7,.m 33 9,.m 34 8,.m 35 10,.o 36 (.bslice 1 4 [.int .i64 0] [(0, .t 32), (1, .t 33), (2, .t 34), (3, .t 35)]),.c 37 116 [.t 36],.m 11 37] (.s [.m 38 11,.v 39 .neq 38 .z] (.j 39 [.m 40 11,.m 2 40]))))))) (.ops [.v 41 .add 17 .w,.m 17 41]))))))))) (.ops [.v 42 .add 13 .w,.m 13 42]))))))) (.r [.o 2 (.mov .z)])))⟩
def fn146 : AFunc := ⟨9, 1, [(2, none)],(.s [.o 2 (.mov .F)] (.r [.m 3 0,.v 4 .geq 3 (.n (-16384)),.m 5 4,.t 6 5 true 0,.g 7 5 true (.bin .leq (.t 6) (.n 16384)),.d 8 5 7,.m 2 8]))⟩
def fn147 : AFunc := ⟨34, 2, [(4, none)],(.s [.o 4 (.mov .z)] (.s [.m 6 0,.o 7 (.conv (.f2f .f64) (.t 6)),.m 5 7] (.seq (.s [.m 8 5,.c 9 196 [.t 8],.m 10 9,.t 11 10 false 5,.g 12 10 false (.call (.f 197) [.t 11, .z]),.f 13 10 12] (.j 13 [.o 4 (.mov .w)])) (.r [.m 14 5,.m 15 1,.o 16 (.conv (.i2f .f64) (.t 15)),.u 17 .gtr 14 16,.m 18 17,.t 19 18 false 5,.t 20 18 false 1,.g 21 18 false (.bin .sub .z (.t 20)),.g 22 18 false (.conv (.i2f .f64) (.t 21)),.g 23 18 false (.bin .lss (.t 19) (.t 22)),.f 24 18 23,.m 25 24,.t 26 25 false 5,.g 27 25 false (.bin .mul (.c (.flt .f64 4625196817309499392)) (.t 26)),.t 28 25 false 5,.g 29 25 false (.bin .mul (.c (.flt .f64 4625196817309499392)) (.t 28)),.g 30 25 false (.call (.f 198) [.t 29]),.g 31 25 false (.bin .neq (.t 27) (.t 30)),.f 32 25 31,.c 33 39 [.t 32,.n 3],.m 4 33]))))⟩
def fn148 : AFunc := ⟨22, 1, [(2, none)],(.s [.o 2 (.mov .z)] (.seq (.s [.m 4 0,.c 5 134 [.t 4],.m 6 0,.n 7 6,.v 8 .lss 7 (.n 3),.c 9 117 [.t 8,.n 16],.m 10 0,.n 11 10,.v 12 .gtr 11 (.n 32),.c 13 117 [.t 12,.n 4],.o 14 (.bslice 1 3 [.int .i64 0] [(0, .t 5), (1, .t 9), (2, .t 13)]),.c 15 116 [.t 14],.m 3 15] (.s [.m 16 3,.v 17 .neq 16 .z] (.j 17 [.m 18 3,.m 2 18]))) (.r [.m 19 0,.c 20 141 [.t 19, (.f 199)],.c 21 116 [.t 20],.m 2 21])))⟩
def fn149 : AFunc := ⟨46, 1, [(2, some (some 9))],(.s [.o 2 (.box (.c (.agg [.int .i64 0, .int .i64 0, .int .i64 0, .int .i64 0, .int .i64 0, .int .i64 0, .int .i64 0, .int .i64 0, .int .i64 0])))] (.s [.m 11 0,.c 12 107 [.t 11, (.f 108)],.m 3 12] (.s [.m 13 3,.n 14 13,.m 4 14] (.s [.w 15 3,.y 16 (.sl 1 (.t 15) (some (.n 2)) none),.w 17 3,.w 18 4,.y 19 (.bin .sub (.t 18) .w),.y 20 (.sl 1 (.t 17) (some .w) (some (.t 19))),.w 21 3,.w 22 4,.y 23 (.bin .sub (.t 22) (.n 2)),.y 24 (.sl 1 (.t 21) none (some (.t 23))),.y 25 (.build [.nilSlice, .nilSlice, .nilSlice] [(0, 1, .t 16), (1, 1, .t 20), (2, 1, .t 24)]),.y 5 (.box (.c (.agg [.nilSlice, .nilSlice, .nilSlice]))),.s 3 5 25] (.s [.o 6 (.box (.c (.agg [.int .i64 0, .int .i64 0, .int .i64 0, .int .i64 0, .int .i64 0, .int .i64 0, .int .i64 0, .int .i64 0, .int .i64 0])))] (.seq (.s [.r 26 3 5,.o 27 (.mov .z)] (.block 0 (.loop (.s [.v 28 .lss 27 (.n 3)] (.seq (.i 28 .skip (.exit 0)) (.seq (.block 1 (.s [.m 29 27,.o 30 (.ixa 3 1 none (.t 26) (.t 27)),.m 7 29,.m 8 30] (.s [.r 31 3 5,.o 32 (.mov .z)] (.block 2 (.loop (.s [.v 33 .lss 32 (.n 3)] (.seq (.i 33 .skip (.exit 2)) (.seq (.block 3 (.s [.m 34 32,.o 35 (.ixa 3 1 none (.t 31) (.t 32)),.m 9 34,.m 10 35] (.ops [.w 36 7,.w 37 9,.w 38 8,.w 39 10,.y 40 (.call (.f 122) [.t 38,.t 39]),.y 41 (.iada 3 3 (.t 6) (.t 36)),.o 42 (.iada 3 1 (.t 41) (.t 37)),.s 1 42 40]))) (.ops [.v 43 .add 32 .w,.m 32 43]))))))))) (.ops [.v 44 .add 27 .w,.m 27 44]))))))) (.r [.r 45 9 6,.s 9 2 45])))))))⟩
def fn150 : AFunc := ⟨25, 1, [(2, some (some 3))],(.s [.p 1 0,.o 2 (.box (.c (.agg [.int .i64 0, .int .i64 0, .int .i64 0])))] (.s [.y 4 (.fadr 0 (.t 1)),.j 5 4,.y 6 (.fadr 1 (.t 1)),.j 7 6,.y 8 (.call (.f 186) [.t 5,.t 7]),.y 9 (.fadr 2 (.t 1)),.j 10 9,.c 11 186 [.t 8,.t 10],.m 3 11] (.r [.y 12 (.fadr 0 (.t 1)),.j 13 12,.w 14 3,.y 15 (.bin .quo (.t 13) (.t 14)),.y 16 (.fadr 1 (.t 1)),.j 17 16,.w 18 3,.y 19 (.bin .quo (.t 17) (.t 18)),.y 20 (.fadr 2 (.t 1)),.j 21 20,.w 22 3,.y 23 (.bin .quo (.t 21) (.t 22)),.o 24 (.build [.int .i64 0, .int .i64 0, .int .i64 0] [(0, 1, .t 15), (1, 1, .t 19), (2, 1, .t 23)]),.s 3 2 24])))⟩
def fn151 : AFunc := ⟨30, 3, [(6, none)],(.s [.p 3 0,.p 4 1,.o 6 (.mov .z)] (.r [.y 7 (.fadr 2 (.t 3)),.j 8 7,.w 9 2,.y 10 (.iada 3 3 (.t 4) .z),.y 11 (.iada 3 1 (.t 10) (.t 9)),.j 12 11,.y 13 (.bin .mul (.t 8) (.t 12)),.y 14 (.fadr 0 (.t 3)),.j 15 14,.w 16 2,.y 17 (.iada 3 3 (.t 4) .w),.y 18 (.iada 3 1 (.t 17) (.t 16)),.j 19 18,.y 20 (.bin .mul (.t 15) (.t 19)),.y 21 (.bin .sub (.t 13) (.t 20)),.y 22 (.fadr 1 (.t 3)),.j 23 22,.w 24 2,.y 25 (.iada 3 3 (.t 4) (.n 2)),.y 26 (.iada 3 1 (.t 25) (.t 24)),.j 27 26,.y 28 (.bin .mul (.t 23) (.t 27)),.u 29 .sub 21 28,.m 6 29]))⟩
def fn152 : AFunc := ⟨16, 2, [(4, none)],(.s [.o 4 (.mov .z)] (.seq (.block 0 (.loop (.seq (.s [.m 5 1,.v 6 .neq 5 .z] (.i 6 .skip (.exit 0))) (.block 1 (.ops [.w 7 1,.w 8 0,.w 9 1,.y 10 (.bin .rem (.t 8) (.t 9)),.w 0 7,.m 1 10]))))) (.seq (.s [.m 11 0,.v 12 .lss 11 .z] (.j 12 [.m 13 0,.b 14 .sub .z (.t 13),.m 4 14])) (.r [.m 15 0,.m 4 15]))))⟩
def fn153 : AFunc := ⟨31, 3, [(6, none)],(.s [.o 6 (.mov .z)] (.s [.o 7 (.mov .z)] (.seq (.s [.o 8 (.mov (.n 2))] (.block 0 (.loop (.seq (.s [.m 9 8,.m 10 0,.n 11 10,.u 12 .lss 9 11] (.i 12 .skip (.exit 0))) (.seq (.block 1 (.ops [.w 15 7,.w 16 0,.w 17 8,.w 18 1,.y 19 (.bin .sub (.t 17) (.t 18)),.y 20 (.iadr 1 (.t 16) (.t 19)),.j 21 20,.w 22 0,.w 23 8,.w 24 2,.y 25 (.bin .sub (.t 23) (.t 24)),.y 26 (.iadr 1 (.t 22) (.t 25)),.j 27 26,.y 28 (.bin .mul (.t 21) (.t 27)),.u 29 .add 15 28,.m 7 29])) (.ops [.m 13 8,.v 14 .add 13 .w,.m 8 14])))))) (.r [.m 30 7,.m 6 30]))))⟩
def fn154 : AFunc := ⟨14, 1, [(2, none)],(.s [.o 2 (.mov .z)] (.r [.m 3 0,.c 4 153 [.t 3, .w, .w],.m 5 0,.c 6 153 [.t 5,.n 2,.n 2],.u 7 .mul 4 6,.m 8 0,.c 9 153 [.t 8, .w,.n 2],.m 10 0,.c 11 153 [.t 10, .w,.n 2],.u 12 .mul 9 11,.u 13 .sub 7 12,.m 2 13]))⟩
def fn155 : AFunc := ⟨5, 1, [(2, none)],(.s [.o 2 (.mov .z)] (.r [.m 3 0,.c 4 147 [.t 3,.n 1024],.m 2 4]))⟩
def fn156 : AFunc := ⟨11, 2, [(4, none)],(.s [.o 4 (.mov .z)] (.r [.m 5 0,.c 6 134 [.t 5],.m 7 1,.c 8 120 [.t 7, .w,.n 64],.o 9 (.bslice 1 2 [.int .i64 0] [(0, .t 6), (1, .t 8)]),.c 10 116 [.t 9],.m 4 10]))⟩
def fn157 : AFunc := ⟨17, 2, [(4, none)],(.s [.o 4 (.mov .z)] (.seq (.s [.m 5 1,.v 6 .lss 5 .z,.m 7 6,.t 8 7 false 1,.t 9 7 false 0,.g 10 7 false (.len .sl (.t 9)),.g 11 7 false (.bin .geq (.t 8) (.t 10)),.f 12 7 11] (.j 12 [.o 4 (.mov .z)])) (.r [.m 13 0,.m 14 1,.h 15 1 13 14,.l 16 15,.m 4 16])))⟩
def fn158 : AFunc := ⟨6, 1, [(2, none)],(.s [.p 1 0,.o 2 (.mov .F)] (.r [.a 3 9 1,.l 4 3,.c 5 19 [.t 4],.m 2 5]))⟩
def fn159 : AFunc := ⟨50, 1, [(2, some none)],(.s [.p 1 0,.o 2 (.box .z)] (.seq (.s [.y 9 (.fadr 0 (.t 1)),.j 10 9,.y 11 (.call (.f 200) [.t 10]),.y 12 (.un .not (.t 11)),.y 13 (.call (.f 192) [.t 12,.n 8]),.y 14 (.fadr 1 (.t 1)),.j 15 14,.y 16 (.len .sl (.t 15)),.y 17 (.bin .eql (.t 16) .z),.y 18 (.call (.f 192) [.t 17,.n 12]),.y 19 (.fadr 1 (.t 1)),.j 20 19,.y 21 (.len .sl (.t 20)),.y 22 (.bin .gtr (.t 21) (.n 64)),.c 23 192 [.t 22,.n 5],.o 24 (.bslice 1 3 [.int .i64 0] [(0, .t 13), (1, .t 18), (2, .t 23)]),.c 25 168 [.t 24],.m 3 25] (.s [.m 26 3,.v 27 .neq 26 .z] (.j 27 [.m 28 3,.s 1 2 28]))) (.seq (.s [.a 29 1 1,.l 30 29,.c 31 201 [.t 30, (.f 202)],.c 32 168 [.t 31],.m 4 32] (.s [.m 33 4,.v 34 .neq 33 .z] (.j 34 [.m 35 4,.s 1 2 35]))) (.s [.r 37 2 1,.c 38 203 [.t 37],.m 36 38,.e 39 36 0,.e 40 36 1,.o 5 (.box .z),.s 1 5 39,.m 6 40] (.seq (.s [.r 41 2 1,.c 42 204 [.t 41]] (.block 0 (.rangeF (.t 42) [43, 44] (.ops [.o 8 (.box (.c (.agg [.int .i64 0, .int .i64 0, .int .i64 0, .int .i64 0, .int .i64 0, .int .i64 0, .int .i64 0, .int .i64 0, .bool false, .nilSlice]))),.s 10 8 44]) (.block 1 (.s [.a 45 9 8,.l 46 45,.n 47 46,.l 48 5,.u 49 .neq 47 48] (.j 49 [.x (.store 1 (.t 2) (.n 2))])))))) (.r [.x (.store 1 (.t 2) .z)]))))))⟩
def fn163 : AFunc := ⟨42, 1, [(2, none)],(.s [.o 2 (.mov .F)] (.seq (.s [.m 4 0,.o 5 (.len .st (.t 4)),.v 6 .eql 5 .z,.m 7 6,.t 8 7 false 0,.g 9 7 false (.len .st (.t 8)),.g 10 7 false (.bin .gtr (.t 9) (.n 24)),.f 11 7 10,.m 12 11,.t 13 12 false 0,.g 14 12 false (.ixs (.t 13) .z),.g 15 12 false (.call (.f 205) [.t 14]),.g 16 12 false (.un .not (.t 15)),.f 17 12 16] (.j 17 [.o 2 (.mov .F)])) (.seq (.s [.o 3 (.mov .w)] (.block 0 (.loop (.seq (.s [.m 18 3,.m 19 0,.o 20 (.len .st (.t 19)),.u 21 .lss 18 20] (.i 21 .skip (.exit 0))) (.seq (.block 1 (.s [.m 24 0,.m 25 3,.o 26 (.ixs (.t 24) (.t 25)),.c 27 205 [.t 26],.o 28 (.un .not (.t 27)),.m 29 28,.t 30 29 true 0,.t 31 29 true 3,.g 32 29 true (.ixs (.t 30) (.t 31)),.g 33 29 true (.call (.f 206) [.t 32]),.g 34 29 true (.un .not (.t 33)),.d 35 29 34,.m 36 35,.t 37 36 true 0,.t 38 36 true 3,.g 39 36 true (.ixs (.t 37) (.t 38)),.g 40 36 true (.bin .neq (.t 39) (.c (.int .u8 95))),.d 41 36 40] (.j 41 [.o 2 (.mov .F)]))) (.ops [.m 22 3,.v 23 .add 22 .w,.m 3 23])))))) (.r [.o 2 (.mov .T)]))))⟩
def fn164 : AFunc := ⟨21, 1, [(2, none)],(.s [.p 1 0,.o 2 (.mov .z)] (.seq (.s [.a 4 0 1,.r 5 8 4,.c 6 207 [.t 5],.m 3 6] (.s [.m 7 3,.v 8 .neq 7 .z] (.j 8 [.m 9 3,.m 2 9]))) (.seq (.s [.a 10 8 1,.l 11 10,.m 12 11,.g 13 12 true (.fadr 9 (.t 1)),.g 14 12 true (.load none (.t 13)),.g 15 12 true (.len .sl (.t 14)),.g 16 12 true (.bin .gtr (.t 15) .z),.d 17 12 16] (.j 17 [.o 2 (.mov (.n 24))])) (.r [.a 18 9 1,.l 19 18,.c 20 28 [.t 19],.m 2 20]))))⟩
def fn165 : AFunc := ⟨26, 1, [(2, none), (3, none)],(.s [.p 1 0,.o 2 (.mov .z),.o 3 (.mov .F)] (.seq (.s [.o 4 (.mov .z)] (.block 0 (.loop (.seq (.s [.m 5 4,.a 6 1 1,.l 7 6,.n 8 7,.u 9 .lss 5 8] (.i 9 .skip (.exit 0))) (.seq (.block 1 (.s [.a 12 1 1,.l 13 12,.m 14 4,.h 15 10 13 14,.a 16 8 15,.l 17 16,.o 18 (.un .not (.t 17))] (.j 18 [.a 19 1 1,.l 20 19,.m 21 4,.h 22 10 20 21,.a 23 9 22,.l 24 23,.n 25 24,.m 2 25,.o 3 (.mov .T)]))) (.ops [.m 10 4,.v 11 .add 10 .w,.m 4 11])))))) (.r [.o 2 (.mov .z),.o 3 (.mov .F)])))⟩
def fn167 : AFunc := ⟨24, 2, [(4, none)],(.s [.p 2 0,.p 3 1,.o 4 (.mov .F)] (.r [.a 5 0 2,.r 6 8 5,.a 7 0 3,.r 8 8 7,.o 9 (.eqv false (.agg [.i, .i, .i, .i, .i, .i, .i, .i]) (.t 6) (.t 8)),.m 10 9,.g 11 10 true (.fadr 8 (.t 2)),.g 12 10 true (.load none (.t 11)),.g 13 10 true (.fadr 8 (.t 3)),.g 14 10 true (.load none (.t 13)),.g 15 10 true (.eqv false (.one .b) (.t 12) (.t 14)),.d 16 10 15,.m 17 16,.g 18 17 true (.fadr 9 (.t 2)),.g 19 17 true (.load none (.t 18)),.g 20 17 true (.fadr 9 (.t 3)),.g 21 17 true (.load none (.t 20)),.g 22 17 true (.call (.f 58) [.t 19,.t 21]),.d 23 17 22,.m 4 23]))⟩
def fn168 : AFunc := ⟨15, 1, [(2, none)],(.s [.o 2 (.mov .z)] (.seq (.s [.m 5 0,.n 6 5,.o 7 (.mov .z)] (.block 0 (.loop (.s [.u 8 .lss 7 6] (.seq (.i 8 .skip (.exit 0)) (.seq (.block 1 (.s [.h 9 1 5 7,.l 10 9,.m 4 10] (.s [.m 11 4,.v 12 .neq 11 .z] (.j 12 [.m 13 4,.m 2 13])))) (.ops [.v 14 .add 7 .w,.m 7 14]))))))) (.r [.o 2 (.mov .z)])))⟩
def fn169 : AFunc := ⟨16, 3, [(6, none)],(.s [.o 6 (.mov .z)] (.r [.m 7 0,.m 8 1,.u 9 .lss 7 8,.m 10 9,.t 11 10 false 0,.t 12 10 false 2,.g 13 10 false (.bin .gtr (.t 11) (.t 12)),.f 14 10 13,.c 15 192 [.t 14,.n 3],.m 6 15]))⟩
def fn173 : AFunc := ⟨75, 2, [(4, none)],(.s [.o 4 (.mov (.c (.str [])))] (.seq (.s [.m 11 0,.n 12 11] (.block 0 (.s [.v 14 .eql 12 .z,.m 13 14] (.i 13 (.r [.o 4 (.mov (.c (.str [])))]) (.s [.v 16 .eql 12 .w,.m 15 16] (.j 15 [.m 17 0,.o 18 (.iadr 1 (.t 17) .z),.l 19 18,.m 4 19])))))) (.s [.o 5 (.mov .z)] (.seq (.s [.m 20 1,.o 21 (.len .st (.t 20)),.v 22 .gtr 21 .z] (.i 22 (.seq (.s [.m 23 1,.o 24 (.len .st (.t 23)),.m 25 0,.n 26 25,.v 27 .sub 26 .w,.b 28 .quo (.n 9223372036854775807) (.t 27),.u 29 .geq 24 28] (.i 29 (.ops [.o 30 (.conv (.ifc 9) (.c (.str [115, 116, 114, 105, 110, 103, 115, 58, 32, 74, 111, 105, 110, 32, 111, 117, 116, 112, 117, 116, 32, 108, 101, 110, 103, 116, 104, 32, 111, 118, 101, 114, 102, 108, 111, 119]))),.x (.bad)]) .skip)) (.ops [.m 31 5,.m 32 1,.o 33 (.len .st (.t 32)),.m 34 0,.n 35 34,.v 36 .sub 35 .w,.u 37 .mul 33 36,.u 38 .add 31 37,.m 5 38])) .skip)) (.seq (.s [.m 39 0,.n 40 39,.o 41 (.mov .z)] (.block 1 (.loop (.s [.u 42 .lss 41 40] (.seq (.i 42 .skip (.exit 1)) (.seq (.block 2 (.s [.h 43 1 39 41,.l 44 43,.m 7 44] (.seq (.s [.m 45 7,.o 46 (.len .st (.t 45)),.m 47 5,.b 48 .sub (.n 9223372036854775807) (.t 47),.u 49 .gtr 46 48] (.i 49 (.ops [.o 50 (.conv (.ifc 9) (.c (.str [115, 116, 114, 105, 110, 103, 115, 58, 32, 74, 111, 105, 110, 32, 111, 117, 116, 112, 117, 116, 32, 108, 101, 110, 103, 116, 104, 32, 111, 118, 101, 114, 102, 108, 111, 119]))),.x (.bad)]) .skip)) (.ops [.m 51 5,.m 52 7,.o 53 (.len .st (.t 52)),.u 54 .add 51 53,.m 5 54])))) (.ops [.v 55 .add 41 .w,.m 41 55]))))))) (.s [.o 8 (.box (.c (.agg [.nilPtr, .nilSlice])))] (.s [.m 56 5,.c 57 209 [.t 8,.t 56]] (.s [.m 58 0,.o 59 (.iadr 1 (.t 58) .z),.l 60 59,.c 61 210 [.t 8,.t 60]] (.seq (.s [.m 62 0,.o 63 (.sl 1 (.t 62) (some .w) none),.n 64 63,.o 65 (.mov .z)] (.block 3 (.loop (.s [.u 66 .lss 65 64] (.seq (.i 66 .skip (.exit 3)) (.seq (.block 4 (.s [.h 67 1 63 65,.l 68 67,.m 10 68] (.s [.m 69 1,.c 70 210 [.t 8,.t 69]] (.ops [.m 71 10,.c 72 210 [.t 8,.t 71]])))) (.ops [.v 73 .add 65 .w,.m 65 73]))))))) (.r [.c 74 211 [.t 8],.m 4 74]))))))))))⟩
def fn174 : AFunc := ⟨22, 2, [(4, none)],(.s [.o 4 (.mov (.c .nilSlice))] (.s [.o 5 (.mov (.c .nilSlice))] (.seq (.s [.m 8 0,.n 9 8,.o 10 (.mov .z)] (.block 0 (.loop (.s [.u 11 .lss 10 9] (.seq (.i 11 .skip (.exit 0)) (.seq (.block 1 (.s [.h 12 1 8 10,.l 13 12,.m 7 13] (.ops [.m 14 5,.m 15 1,.m 16 7,.o 17 (.call (.t 15) [.t 16]),.o 18 (.bslice 1 1 [.str []] [(0, .t 17)]),.o 19 (.app 1 16 (.t 14) (.t 18)),.m 5 19]))) (.ops [.v 20 .add 10 .w,.m 10 20]))))))) (.r [.m 21 5,.m 4 21]))))⟩
def fn175 : AFunc := ⟨5, 1, [(2, none)],(.s [.o 2 (.mov (.c (.str [])))] (.r [.m 3 0,.c 4 212 [.t 3],.m 2 4]))⟩
def fn176 : AFunc := ⟨8, 2, [(4, none)],(.s [.o 4 (.mov (.c .nilSlice))] (.r [.m 5 0,.m 6 1,.c 7 213 [.t 5,.t 6, .z,.n (-1)],.m 4 7]))⟩
def fn177 : AFunc := ⟨49, 1, [(2, none)],(.s [.o 2 (.mov .z)] (.s [.m 6 0,.o 7 (.nilchk (.t 6)),.a 8 0 7,.l 9 8,.o 10 (.iadr 1 (.t 9) .z),.l 11 10,.m 3 11] (.s [.m 12 0,.m 13 0,.o 14 (.nilchk (.t 13)),.a 15 0 14,.l 16 15,.o 17 (.sl 1 (.t 16) (some .w) none),.o 18 (.nilchk (.t 12)),.a 19 0 18,.s 1 19 17] (.s [.m 21 3,.c 22 214 [.t 21],.m 20 22,.e 23 20 0,.e 24 20 1,.m 4 23,.m 5 24] (.s [.m 25 0,.m 26 0,.o 27 (.nilchk (.t 26)),.a 28 1 27,.l 29 28,.m 30 29,.t 31 30 false 5,.g 32 30 false (.eqv true .nilI (.t 31) (.c .nilIfc)),.f 33 30 32,.m 34 33,.t 35 34 false 3,.g 36 34 false (.call (.f 215) [.t 35, (.c (.str [45]))]),.g 37 34 false (.len .st (.t 36)),.g 38 34 false (.bin .gtr (.t 37) (.n 9)),.f 39 34 38,.m 40 39,.t 41 40 false 4,.g 42 40 false (.call (.f 175) [.t 41]),.t 43 40 false 3,.g 44 40 false (.bin .neq (.t 42) (.t 43)),.f 45 40 44,.o 46 (.nilchk (.t 25)),.a 47 1 46,.s 1 47 45] (.r [.m 48 4,.m 2 48]))))))⟩
def fn178 : AFunc := ⟨36, 1, [(2, none)],(.s [.o 2 (.mov (.c (.str [])))] (.seq (.s [.m 3 0,.v 4 .lss 3 .z] (.i 4 (.seq (.s [.m 5 0,.v 6 .gtr 5 (.n (-10))] (.j 6 [.m 7 0,.b 8 .sub .z (.t 7),.c 9 178 [.t 8],.b 10 .add (.c (.str [45])) (.t 9),.m 2 10])) (.r [.m 11 0,.v 12 .quo 11 (.n 10),.c 13 178 [.t 12],.m 14 0,.v 15 .rem 14 (.n 10),.b 16 .sub .z (.t 15),.c 17 178 [.t 16],.u 18 .add 13 17,.m 2 18])) .skip)) (.seq (.s [.m 19 0,.v 20 .lss 19 (.n 10)] (.j 20 [.m 21 0,.b 22 .add (.n 48) (.t 21),.o 23 (.conv (.i2i .u8) (.t 22)),.o 24 (.bslice 1 1 [.int .u8 0] [(0, .t 23)]),.o 25 (.conv .b2s (.t 24)),.m 2 25])) (.r [.w 26 0,.y 27 (.bin .quo (.t 26) (.n 10)),.y 28 (.call (.f 178) [.t 27]),.w 29 0,.y 30 (.bin .rem (.t 29) (.n 10)),.y 31 (.bin .add (.n 48) (.t 30)),.y 32 (.conv (.i2i .u8) (.t 31)),.y 33 (.bslice 1 1 [.int .u8 0] [(0, .t 32)]),.y 34 (.conv .b2s (.t 33)),.u 35 .add 28 34,.m 2 35]))))⟩
def fn179 : AFunc := ⟨31, 1, [(2, none), (3, none)],(.s [.o 2 (.mov .z),.o 3 (.mov .F)] (.seq (.s [.m 6 0,.o 7 (.len .st (.t 6)),.v 8 .gtr 7 .z,.m 9 8,.t 10 9 true 0,.g 11 9 true (.ixs (.t 10) .z),.g 12 9 true (.bin .eql (.t 11) (.c (.int .u8 45))),.d 13 9 12] (.i 13 (.s [.m 15 0,.o 16 (.sls (.t 15) (some .w) none),.c 17 216 [.t 16],.m 14 17,.e 18 14 0,.e 19 14 1,.m 4 18,.m 5 19] (.r [.m 20 4,.b 21 .sub .z (.t 20),.m 22 5,.m 23 22,.t 24 23 true 4,.g 25 23 true (.bin .gtr (.t 24) .z),.d 26 23 25,.m 2 21,.m 3 26])) .skip)) (.r [.m 27 0,.c 28 216 [.t 27],.e 29 28 0,.e 30 28 1,.m 2 29,.m 3 30])))⟩
def fn180 : AFunc := ⟨9, 2, [(4, none)],(.s [.o 4 (.mov .F)] (.r [.m 5 0,.m 6 1,.c 7 217 [.t 5,.t 6],.v 8 .geq 7 .z,.m 4 8]))⟩
def fn181 : AFunc := ⟨6, 1, [(2, none)],(.s [.o 2 (.mov .F)] (.r [.m 3 0,.c 4 146 [.t 3],.o 5 (.un .not (.t 4)),.m 2 5]))⟩
def fn182 : AFunc := ⟨22, 2, [(4, none)],(.s [.o 4 (.mov (.c .nilSlice))] (.s [.o 5 (.mov (.c .nilSlice))] (.seq (.s [.m 8 0,.n 9 8,.o 10 (.mov .z)] (.block 0 (.loop (.s [.u 11 .lss 10 9] (.seq (.i 11 .skip (.exit 0)) (.seq (.block 1 (.s [.h 12 1 8 10,.l 13 12,.m 7 13] (.ops [.m 14 5,.m 15 1,.m 16 7,.o 17 (.call (.t 15) [.t 16]),.o 18 (.bslice 1 1 [.flt .f32 0] [(0, .t 17)]),.o 19 (.app 1 4 (.t 14) (.t 18)),.m 5 19]))) (.ops [.v 20 .add 10 .w,.m 10 20]))))))) (.r [.m 21 5,.m 4 21]))))⟩
def fn183 : AFunc := ⟨28, 2, [(4, some (some 2))],(.s [.p 2 0,.p 3 1,.o 4 (.box (.c (.agg [.int .i64 0, .int .i64 0])))] (.r [.a 5 0 2,.l 6 5,.a 7 0 3,.l 8 7,.u 9 .mul 6 8,.a 10 1 2,.l 11 10,.a 12 1 3,.l 13 12,.u 14 .mul 11 13,.u 15 .sub 9 14,.a 16 0 2,.l 17 16,.a 18 1 3,.l 19 18,.u 20 .mul 17 19,.a 21 1 2,.l 22 21,.a 23 0 3,.l 24 23,.u 25 .mul 22 24,.u 26 .add 20 25,.o 27 (.build [.int .i64 0, .int .i64 0] [(0, 1, .t 15), (1, 1, .t 26)]),.s 2 4 27]))⟩
def fn184 : AFunc := ⟨13, 2, [(4, none)],(.s [.p 2 0,.o 4 (.mov (.c .nilSlice))] (.seq (.s [.m 6 1] (.block 0 (.rangeF (.t 6) [7] (.ops [.o 5 (.box (.c (.agg [.int .i64 0, .int .i64 0]))),.s 2 5 7]) (.block 1 (.ops [.l 8 2,.r 9 2 5,.o 10 (.bslice 2 1 [.int .i64 0, .int .i64 0] [(0, .t 9)]),.o 11 (.app 2 16 (.t 8) (.t 10)),.s 1 2 11]))))) (.r [.l 12 2,.m 4 12])))⟩
def fn185 : AFunc := ⟨23, 1, [],(.s [.l 6 1,.n 7 6,.o 8 (.mov .z)] (.block 0 (.loop (.s [.u 9 .lss 8 7] (.seq (.i 9 .skip (.exit 0)) (.seq (.block 1 (.s [.m 10 8,.h 11 1 6 8,.l 12 11,.m 4 10,.m 5 12] (.s [.m 13 0,.m 14 5,.l 15 2,.m 16 4,.h 17 1 15 16,.l 18 17,.o 19 (.build [.int .i64 0, .int .i64 0] [(0, 1, .t 14), (1, 1, .t 18)]),.o 20 (.call (.t 13) [.t 19]),.o 21 (.un .not (.t 20))] (.i 21 .ret .skip)))) (.ops [.v 22 .add 8 .w,.m 8 22])))))))⟩
def fn186 : AFunc := ⟨15, 2, [(4, none)],(.s [.o 4 (.mov .z)] (.seq (.block 0 (.loop (.seq (.s [.m 5 1,.v 6 .neq 5 .z] (.i 6 .skip (.exit 0))) (.block 1 (.ops [.w 7 1,.w 8 0,.w 9 1,.y 10 (.bin .rem (.t 8) (.t 9)),.w 0 7,.m 1 10]))))) (.r [.m 11 0,.m 12 0,.o 13 (.un .neg (.t 12)),.o 14 (.mx (.t 11) [.t 13]),.m 4 14])))⟩
def fn187 : AFunc := ⟨17, 2, [(4, none)],(.s [.o 4 (.mov .z)] (.s [.m 6 0,.m 7 1,.u 8 .quo 6 7,.m 5 8] (.seq (.s [.m 9 5,.m 10 1,.u 11 .mul 9 10,.m 12 0,.u 13 .gtr 11 12] (.i 13 (.ops [.m 14 5,.v 15 .sub 14 .w,.m 5 15]) .skip)) (.r [.m 16 5,.m 4 16]))))⟩
def fn188 : AFunc := ⟨5, 1, [(2, none)],(.s [.o 2 (.mov (.c .nilSlice))] (.r [.m 3 0,.c 4 218 [(.c .nilSlice),.t 3],.m 2 4]))⟩
def fn189 : AFunc := ⟨11, 1, [],(.s [.m 3 0,.n 4 3,.m 2 4] (.ops [.m 5 0,.m 6 2,.m 7 2,.o 8 (.conv (.i2i .u64) (.t 7)),.c 9 220 [.t 8],.c 10 219 [.t 5, .z,.t 6,.t 9]]))⟩
def fn190 : AFunc := ⟨16, 1, [],(.s [.l 5 1,.n 6 5,.o 7 (.mov .z)] (.block 0 (.loop (.s [.u 8 .lss 7 6] (.seq (.i 8 .skip (.exit 0)) (.seq (.block 1 (.s [.h 9 1 5 7,.l 10 9,.m 4 10] (.s [.m 11 0,.m 12 4,.o 13 (.call (.t 11) [.t 12]),.o 14 (.un .not (.t 13))] (.i 14 .ret .skip)))) (.ops [.v 15 .add 7 .w,.m 7 15])))))))⟩
def fn191 : AFunc := ⟨20, 2, [(4, none)],(.s [.o 4 (.mov .z)] (.s [.m 7 0,.c 8 221 [.t 7],.m 5 8] (.s [.m 9 1,.c 10 221 [.t 9],.m 6 10] (.seq (.s [.m 11 5] (.i 11 (.seq (.s [.m 12 6] (.j 12 [.o 4 (.mov .z)])) (.r [.o 4 (.mov (.n (-1)))])) .skip)) (.seq (.s [.m 13 6] (.j 13 [.o 4 (.mov .w)])) (.seq (.s [.m 14 0,.m 15 1,.u 16 .lss 14 15] (.j 16 [.o 4 (.mov (.n (-1)))])) (.seq (.s [.m 17 0,.m 18 1,.u 19 .gtr 17 18] (.j 19 [.o 4 (.mov .w)])) (.r [.o 4 (.mov .z)]))))))))⟩
def fn192 : AFunc := ⟨7, 2, [(4, none)],(.s [.o 4 (.mov .z)] (.seq (.s [.m 5 0] (.j 5 [.m 6 1,.m 4 6])) (.r [.o 4 (.mov .z)])))⟩
def fn193 : AFunc := ⟨7, 1, [(2, none)],(.s [.o 2 (.mov .F)] (.r [.m 3 0,.m 4 0,.u 5 .sub 3 4,.v 6 .eql 5 (.c (.flt .f32 0)),.m 2 6]))⟩
def fn194 : AFunc := ⟨25, 2, [(4, none)],(.s [.o 4 (.mov .F)] (.r [.m 5 1,.o 6 (.conv (.i2f .f32) (.t 5)),.o 7 (.un .neg (.t 6)),.m 8 0,.u 9 .leq 7 8,.m 10 9,.t 11 10 true 0,.t 12 10 true 1,.g 13 10 true (.conv (.i2f .f32) (.t 12)),.g 14 10 true (.bin .leq (.t 11) (.t 13)),.d 15 10 14,.m 16 15,.t 17 16 true 0,.g 18 16 true (.bin .mul (.t 17) (.c (.flt .f32 1098907648))),.g 19 16 true (.conv (.f2i .i64) (.t 18)),.g 20 16 true (.conv (.i2f .f32) (.t 19)),.t 21 16 true 0,.g 22 16 true (.bin .mul (.t 21) (.c (.flt .f32 1098907648))),.g 23 16 true (.bin .eql (.t 20) (.t 22)),.d 24 16 23,.m 4 24]))⟩
def fn195 : AFunc := ⟨34, 1, [(2, none), (3, none)],(.s [.o 2 (.mov .z),.o 3 (.mov .z)] (.s [.m 6 0,.o 7 (.conv (.f2f .f64) (.t 6)),.m 4 7] (.s [.m 8 4,.c 9 196 [.t 8],.m 10 9,.t 11 10 false 4,.g 12 10 false (.call (.f 197) [.t 11, .z]),.f 13 10 12,.m 5 13] (.r [.m 14 5,.c 15 117 [.t 14, .w],.m 16 5,.m 17 16,.t 18 17 false 4,.g 19 17 false (.bin .gtr (.t 18) (.c (.flt .f64 4670232813583204352))),.f 20 17 19,.m 21 20,.t 22 21 false 4,.g 23 21 false (.bin .lss (.t 22) (.c (.flt .f64 13893604850437980160))),.f 24 21 23,.m 25 24,.t 26 25 false 4,.g 27 25 false (.bin .mul (.c (.flt .f64 4625196817309499392)) (.t 26)),.g 28 25 false (.call (.f 198) [.t 27]),.t 29 25 false 4,.g 30 25 false (.bin .mul (.c (.flt .f64 4625196817309499392)) (.t 29)),.g 31 25 false (.bin .neq (.t 28) (.t 30)),.f 32 25 31,.c 33 117 [.t 32,.n 3],.m 2 15,.m 3 33]))))⟩
def fn196 : AFunc := ⟨6, 1, [(2, none)],(.s [.o 2 (.mov .F)] (.r [.m 3 0,.m 4 0,.u 5 .neq 3 4,.m 2 5]))⟩
def fn197 : AFunc := ⟨15, 2, [(4, none)],(.s [.o 4 (.mov .F)] (.seq (.s [.m 5 1,.v 6 .eql 5 .z] (.i 6 (.ops [.m 7 0,.c 8 222 [.t 7],.m 0 8]) (.s [.m 9 1,.v 10 .lss 9 .z] (.i 10 (.ops [.m 11 0,.o 12 (.un .neg (.t 11)),.m 0 12]) .skip)))) (.r [.m 13 0,.v 14 .gtr 13 (.c (.flt .f64 9218868437227405311)),.m 4 14])))⟩
def fn198 : AFunc := ⟨7, 1, [(2, none)],(.s [.o 2 (.mov (.c (.flt .f64 0)))] (.seq (.cond .T (.r [.m 3 0,.c 4 223 [.t 3],.m 2 4]) .skip) (.r [.m 5 0,.c 6 224 [.t 5],.m 2 6])))⟩
def fn199 : AFunc := ⟨6, 1, [(2, none)],(.s [.o 2 (.mov .z)] (.r [.m 3 0,.c 4 108 [.t 3],.c 5 120 [.t 4,.n (-127),.n 127],.m 2 5]))⟩
def fn200 : AFunc := ⟨54, 1, [(2, none)],(.s [.o 2 (.mov .F)] (.seq (.s [.m 7 0,.o 8 (.rstr (.t 7))] (.block 0 (.loop (.s [.o 9 (.nexts (.t 8)),.e 10 9 0] (.seq (.i 10 .skip (.exit 0)) (.block 1 (.s [.e 11 9 1,.e 12 9 2,.m 3 11,.m 4 12] (.s [.m 13 4,.b 14 .leq (.c (.int .i32 65)) (.t 13),.m 15 14,.t 16 15 true 4,.g 17 15 true (.bin .leq (.t 16) (.c (.int .i32 90))),.d 18 15 17,.m 19 18,.t 20 19 false 4,.g 21 19 false (.bin .leq (.c (.int .i32 97)) (.t 20)),.t 22 19 false 21,.t 23 22 true 4,.g 24 22 true (.bin .leq (.t 23) (.c (.int .i32 122))),.g 25 19 false (.pick (.t 22) (.t 24) .F),.f 26 19 25,.m 5 26] (.s [.m 27 4,.b 28 .leq (.c (.int .i32 48)) (.t 27),.m 29 28,.t 30 29 true 4,.g 31 29 true (.bin .leq (.t 30) (.c (.int .i32 57))),.d 32 29 31,.m 33 32,.t 34 33 false 4,.g 35 33 false (.bin .eql (.t 34) (.c (.int .i32 95))),.f 36 33 35,.m 6 36] (.s [.m 37 5,.o 38 (.un .not (.t 37)),.m 39 38,.t 40 39 true 3,.g 41 39 true (.bin .eql (.t 40) .z),.t 42 39 true 41,.t 43 42 false 6,.g 44 42 false (.un .not (.t 43)),.g 45 39 true (.pick (.t 42) .T (.t 44)),.d 46 39 45] (.j 46 [.o 2 (.mov .F)]))))))))))) (.r [.m 47 0,.v 48 .neq 47 (.c (.str [])),.m 49 48,.t 50 49 true 0,.g 51 49 true (.len .st (.t 50)),.g 52 49 true (.bin .leq (.t 51) (.n 24)),.d 53 49 52,.m 2 53])))⟩
def fn201 : AFunc := ⟨22, 2, [(4, none)],(.s [.o 4 (.mov (.c .nilSlice))] (.s [.o 5 (.mov (.c .nilSlice))] (.seq (.s [.m 8 0,.n 9 8,.o 10 (.mov .z)] (.block 0 (.loop (.s [.u 11 .lss 10 9] (.seq (.i 11 .skip (.exit 0)) (.seq (.block 1 (.s [.h 12 10 8 10,.r 13 10 12,.o 7 (.box (.c (.agg [.int .i64 0, .int .i64 0, .int .i64 0, .int .i64 0, .int .i64 0, .int .i64 0, .int .i64 0, .int .i64 0, .bool false, .nilSlice]))),.s 10 7 13] (.ops [.m 14 5,.m 15 1,.r 16 10 7,.o 17 (.call (.t 15) [.t 16]),.o 18 (.bslice 1 1 [.int .i64 0] [(0, .t 17)]),.o 19 (.app 1 8 (.t 14) (.t 18)),.m 5 19]))) (.ops [.v 20 .add 10 .w,.m 10 20]))))))) (.r [.m 21 5,.m 4 21]))))⟩
def fn202 : AFunc := ⟨40, 1, [(2, none)],(.s [.p 1 0,.o 2 (.mov .z)] (.seq (.s [.a 6 0 1,.r 7 8 6,.o 8 (.mov .z)] (.block 0 (.loop (.s [.v 9 .lss 8 (.n 8)] (.seq (.i 9 .skip (.exit 0)) (.seq (.block 1 (.s [.m 10 8,.o 11 (.ixa 8 1 none (.t 7) (.t 8)),.m 3 10,.m 4 11] (.s [.w 12 4,.w 13 3,.y 14 (.iada 8 2 (.g 2) (.t 13)),.y 15 (.iada 2 1 (.t 14) .z),.j 16 15,.w 17 3,.y 18 (.iada 8 2 (.g 2) (.t 17)),.y 19 (.iada 2 1 (.t 18) .w),.j 20 19,.c 21 169 [.t 12,.t 16,.t 20],.m 5 21] (.s [.m 22 5,.v 23 .neq 22 .z] (.j 23 [.m 24 5,.m 2 24]))))) (.ops [.v 25 .add 8 .w,.m 8 25]))))))) (.r [.y 26 (.fadr 8 (.t 1)),.j 27 26,.w 28 27,⟨(some 29), .fadr 9 (.t 1), (some (28, true)), true⟩,⟨(some 30), .load none (.t 29), (some (28, true)), true⟩,⟨(some 31), .len .sl (.t 30), (some (28, true)), true⟩,⟨(some 32), .bin .gtr (.t 31) .z, (some (28, true)), true⟩,.y 33 (.pick (.t 28) (.t 32) .F),.y 34 (.call (.f 192) [.t 33,.n 24]),.y 35 (.fadr 9 (.t 1)),.j 36 35,.c 37 225 [.t 36],.o 38 (.bslice 1 2 [.int .i64 0] [(0, .t 34), (1, .t 37)]),.c 39 168 [.t 38],.m 2 39])))⟩
def fn203 : AFunc := ⟨13, 1, [(2, some none), (3, some none)],(.s [.p 1 0,.o 2 (.box .z),.o 3 (.box .F)] (.seq (.s [.r 6 2 1,.c 7 204 [.t 6]] (.block 0 (.rangeF (.t 7) [8, 9] (.ops [.o 5 (.box (.c (.agg [.int .i64 0, .int .i64 0, .int .i64 0, .int .i64 0, .int .i64 0, .int .i64 0, .int .i64 0, .int .i64 0, .bool false, .nilSlice]))),.s 10 5 9]) (.block 1 (.r [.a 10 9 5,.l 11 10,.n 12 11,.s 1 2 12,.x (.store 1 (.t 3) .T)]))))) (.r [.x (.store 1 (.t 2) .z),.x (.store 1 (.t 3) .F)])))⟩
def fn204 : AFunc := ⟨4, 1, [(2, none)],(.s [.p 1 0,.o 2 (.mov (.c .nilFunc))] (.r [.o 3 (.mkfn (.func 226) [] [.t 1]),.m 2 3]))⟩
def fn205 : AFunc := ⟨17, 1, [(2, none)],(.s [.o 2 (.mov .F)] (.r [.m 3 0,.b 4 .leq (.c (.int .u8 65)) (.t 3),.m 5 4,.t 6 5 true 0,.g 7 5 true (.bin .leq (.t 6) (.c (.int .u8 90))),.d 8 5 7,.m 9 8,.t 10 9 false 0,.g 11 9 false (.bin .leq (.c (.int .u8 97)) (.t 10)),.t 12 9 false 11,.t 13 12 true 0,.g 14 12 true (.bin .leq (.t 13) (.c (.int .u8 122))),.g 15 9 false (.pick (.t 12) (.t 14) .F),.f 16 9 15,.m 2 16]))⟩
def fn206 : AFunc := ⟨9, 1, [(2, none)],(.s [.o 2 (.mov .F)] (.r [.m 3 0,.b 4 .leq (.c (.int .u8 48)) (.t 3),.m 5 4,.t 6 5 true 0,.g 7 5 true (.bin .leq (.t 6) (.c (.int .u8 57))),.d 8 5 7,.m 2 8]))⟩
def fn207 : AFunc := ⟨24, 1, [(2, none)],(.s [.p 1 0,.o 2 (.mov .z)] (.seq (.s [.o 3 (.mov .z)] (.block 0 (.loop (.seq (.s [.m 7 3,.v 8 .lss 7 (.n 8)] (.i 8 .skip (.exit 0))) (.seq (.block 1 (.s [.o 4 (.mov (.n (-999999999))),.o 5 (.mov (.n 999999999))] (.seq (.s [.m 11 3,.v 12 .lss 11 (.n 4)] (.i 12 (.ops [.o 4 (.mov (.n (-100000))),.o 5 (.mov (.n 100000))]) .skip)) (.seq (.s [.m 13 3,.v 14 .eql 13 (.n 4)] (.i 14 (.ops [.o 4 (.mov .z),.o 5 (.mov (.n 100000))]) .skip)) (.s [.m 15 3,.o 16 (.iada 8 1 (.t 1) (.t 15)),.l 17 16,.m 18 4,.m 19 5,.c 20 48 [.t 17,.t 18,.t 19],.m 6 20] (.s [.m 21 6,.v 22 .neq 21 .z] (.j 22 [.m 23 6,.m 2 23]))))))) (.ops [.m 9 3,.v 10 .add 9 .w,.m 3 10])))))) (.r [.o 2 (.mov .z)])))⟩
def fn213 : AFunc := ⟨66, 4, [(8, none)],(.s [.o 8 (.mov (.c .nilSlice))] (.seq (.s [.m 12 3,.v 13 .eql 12 .z] (.j 13 [.o 8 (.mov (.c .nilSlice))])) (.seq (.s [.m 14 1,.v 15 .eql 14 (.c (.str []))] (.j 15 [.m 16 0,.m 17 3,.c 18 230 [.t 16,.t 17],.m 8 18])) (.seq (.s [.m 19 3,.v 20 .lss 19 .z] (.i 20 (.ops [.m 21 0,.m 22 1,.c 23 231 [.t 21,.t 22],.v 24 .add 23 .w,.m 3 24]) .skip)) (.s [.m 25 3,.m 26 0,.o 27 (.len .st (.t 26)),.v 28 .add 27 .w,.o 29 (.mn (.t 25) [.t 28]),.m 3 29] (.s [.m 30 3,.o 31 (.mksl 1 16 [.str []] (.t 30) (.t 30)),.m 9 31] (.s [.m 32 3,.v 33 .sub 32 .w,.m 3 33] (.s [.o 10 (.mov .z)] (.seq (.block 0 (.loop (.seq (.s [.m 34 10,.m 35 3,.u 36 .lss 34 35] (.i 36 .skip (.exit 0))) (.block 1 (.s [.m 37 0,.m 38 1,.c 39 232 [.t 37,.t 38],.m 11 39] (.seq (.s [.m 40 11,.v 41 .lss 40 .z] (.i 41 (.exit 0) .skip)) (.s [.m 42 9,.m 43 10,.m 44 0,.m 45 11,.m 46 2,.u 47 .add 45 46,.o 48 (.sls (.t 44) none (some (.t 47))),.h 49 1 42 43,.s 1 49 48] (.s [.m 50 0,.m 51 11,.m 52 1,.o 53 (.len .st (.t 52)),.u 54 .add 51 53,.o 55 (.sls (.t 50) (some (.t 54)) none),.m 0 55] (.ops [.m 56 10,.v 57 .add 56 .w,.m 10 57]))))))))) (.s [.m 58 9,.m 59 10,.m 60 0,.h 61 1 58 59,.s 1 61 60] (.r [.m 62 9,.m 63 10,.v 64 .add 63 .w,.o 65 (.sl 1 (.t 62) none (some (.t 64))),.m 8 65])))))))))))⟩
def fn214 : AFunc := ⟨18, 1, [(2, none), (3, none)],(.s [.o 2 (.mov .z),.o 3 (.mov (.c .nilIfc))] (.s [.m 7 0,.c 8 233 [.t 7],.m 6 8,.e 9 6 0,.e 10 6 1,.m 4 9,.m 5 10] (.seq (.s [.m 11 5,.o 12 (.eqv true .nilI (.t 11) (.c .nilIfc))] (.j 12 [.m 13 4,.m 14 0,.m 15 5,.o 16 (.call (.f 234) [(.c (.str [65, 116, 111, 105])),.t 14, .z, .z,.t 15]),.m 2 13,.m 3 16])) (.r [.m 17 4,.m 2 17,.o 3 (.mov (.c .nilIfc))]))))⟩
def fn215 : AFunc := ⟨8, 2, [(4, none)],(.s [.o 4 (.mov (.c (.str [])))] (.r [.m 5 0,.m 6 1,.c 7 235 [.t 5,.t 6],.m 4 7]))⟩
def fn216 : AFunc := ⟨44, 1, [(2, none), (3, none)],(.s [.o 2 (.mov .z),.o 3 (.mov .F)] (.seq (.s [.m 6 0,.o 7 (.len .st (.t 6)),.v 8 .eql 7 .z,.m 9 8,.t 10 9 false 0,.g 11 9 false (.len .st (.t 10)),.g 12 9 false (.bin .gtr (.t 11) (.n 9)),.f 13 9 12,.m 14 13,.t 15 14 false 0,.g 16 14 false (.len .st (.t 15)),.g 17 14 false (.bin .gtr (.t 16) .w),.t 18 14 false 17,.t 19 18 true 0,.g 20 18 true (.ixs (.t 19) .z),.g 21 18 true (.bin .eql (.t 20) (.c (.int .u8 48))),.g 22 14 false (.pick (.t 18) (.t 21) .F),.f 23 14 22] (.j 23 [.o 2 (.mov .z),.o 3 (.mov .F)])) (.s [.o 4 (.mov .z)] (.seq (.s [.o 5 (.mov .z)] (.block 0 (.loop (.seq (.s [.m 24 5,.m 25 0,.o 26 (.len .st (.t 25)),.u 27 .lss 24 26] (.i 27 .skip (.exit 0))) (.seq (.block 1 (.seq (.s [.m 30 0,.m 31 5,.o 32 (.ixs (.t 30) (.t 31)),.c 33 206 [.t 32],.o 34 (.un .not (.t 33))] (.j 34 [.o 2 (.mov .z),.o 3 (.mov .F)])) (.ops [.m 35 4,.b 36 .mul (.n 10) (.t 35),.m 37 0,.m 38 5,.o 39 (.ixs (.t 37) (.t 38)),.v 40 .sub 39 (.c (.int .u8 48)),.o 41 (.conv (.i2i .i64) (.t 40)),.u 42 .add 36 41,.m 4 42]))) (.ops [.m 28 5,.v 29 .add 28 .w,.m 5 29])))))) (.r [.m 43 4,.m 2 43,.o 3 (.mov .T)])))))⟩
def fn217 : AFunc := ⟨19, 2, [(4, none)],(.s [.o 4 (.mov .z)] (.seq (.s [.m 6 0,.n 7 6,.o 8 (.mov .z)] (.block 0 (.loop (.s [.u 9 .lss 8 7] (.seq (.i 9 .skip (.exit 0)) (.seq (.block 1 (.s [.m 10 8,.m 5 10] (.s [.m 11 1,.m 12 0,.m 13 5,.h 14 1 12 13,.l 15 14,.o 16 (.call (.t 11) [.t 15])] (.j 16 [.m 17 5,.m 4 17])))) (.ops [.v 18 .add 8 .w,.m 8 18]))))))) (.r [.o 4 (.mov (.n (-1)))])))⟩
def fn218 : AFunc := ⟨13, 2, [(4, none)],(.s [.p 2 0,.o 4 (.mov (.c .nilSlice))] (.seq (.s [.m 6 1] (.block 0 (.rangeF (.t 6) [7] (.ops [.m 5 7]) (.block 1 (.ops [.l 8 2,.m 9 5,.o 10 (.bslice 1 1 [.int .i64 0] [(0, .t 9)]),.o 11 (.app 1 8 (.t 8) (.t 10)),.s 1 2 11]))))) (.r [.l 12 2,.m 4 12])))⟩
def fn219 : AFunc := ⟨134, 4, [],(.s [.o 8 (.mov .T)] (.s [.o 9 (.mov .T)] (.block 0 (.loop (.block 1 (.s [.m 19 2,.m 20 1,.u 21 .sub 19 20,.m 10 21] (.seq (.s [.m 22 10,.v 23 .leq 22 (.n 12)] (.j 23 [.m 24 0,.m 25 1,.m 26 2,.c 27 236 [.t 24,.t 25,.t 26]])) (.seq (.s [.m 28 3,.v 29 .eql 28 .z] (.j 29 [.m 30 0,.m 31 1,.m 32 2,.c 33 237 [.t 30,.t 31,.t 32]])) (.seq (.s [.m 34 8,.o 35 (.un .not (.t 34))] (.i 35 (.s [.m 36 0,.m 37 1,.m 38 2,.c 39 238 [.t 36,.t 37,.t 38]] (.ops [.m 40 3,.v 41 .sub 40 .w,.m 3 41])) .skip)) (.s [.m 43 0,.m 44 1,.m 45 2,.c 46 239 [.t 43,.t 44,.t 45],.m 42 46,.e 47 42 0,.e 48 42 1,.m 11 47,.m 12 48] (.seq (.s [.m 49 12,.v 50 .eql 49 (.n 2)] (.i 50 (.s [.m 51 0,.m 52 1,.m 53 2,.c 54 240 [.t 51,.t 52,.t 53]] (.s [.m 55 2,.v 56 .sub 55 .w,.m 57 11,.m 58 1,.u 59 .sub 57 58,.u 60 .sub 56 59,.m 11 60] (.ops [.o 12 (.mov .w)]))) .skip)) (.seq (.s [.m 61 8,.m 62 61,.t 63 62 true 9,.d 64 62 63,.m 65 64,.t 66 65 true 12,.g 67 65 true (.bin .eql (.t 66) .w),.d 68 65 67] (.i 68 (.s [.m 69 0,.m 70 1,.m 71 2,.c 72 241 [.t 69,.t 70,.t 71]] (.i 72 .ret .skip)) .skip)) (.seq (.s [.m 73 1,.v 74 .gtr 73 .z,.m 75 74,⟨(some 76), .mov (.t 0), (some (75, true)), true⟩,⟨(some 77), .mov (.t 1), (some (75, true)), true⟩,⟨(some 78), .bin .sub (.t 77) .w, (some (75, true)), true⟩,⟨(some 79), .iadr 1 (.t 76) (.t 78), (some (75, true)), true⟩,⟨(some 80), .load none (.t 79), (some (75, true)), true⟩,⟨(some 81), .mov (.t 0), (some (75, true)), true⟩,⟨(some 82), .mov (.t 11), (some (75, true)), true⟩,⟨(some 83), .iadr 1 (.t 81) (.t 82), (some (75, true)), true⟩,⟨(some 84), .load none (.t 83), (some (75, true)), true⟩,.g 85 75 true (.call (.f 242) [.t 80,.t 84]),.g 86 75 true (.un .not (.t 85)),.d 87 75 86] (.i 87 (.s [.m 88 0,.m 89 1,.m 90 2,.m 91 11,.c 92 243 [.t 88,.t 89,.t 90,.t 91],.m 13 92] (.s [.m 93 13,.m 1 93] (.exit 1))) .skip)) (.s [.m 95 0,.m 96 1,.m 97 2,.m 98 11,.c 99 244 [.t 95,.t 96,.t 97,.t 98],.m 94 99,.e 100 94 0,.e 101 94 1,.m 14 100,.m 15 101] (.s [.m 102 15,.m 9 102] (.s [.m 103 14,.m 104 1,.u 105 .sub 103 104,.m 106 2,.m 107 14,.u 108 .sub 106 107,.m 16 105,.m 17 108] (.s [.m 109 10,.v 110 .quo 109 (.n 8),.m 18 110] (.s [.m 111 16,.m 112 17,.u 113 .lss 111 112] (.i 113 (.s [.m 114 16,.m 115 18,.u 116 .geq 114 115,.m 8 116] (.s [.m 117 0,.m 118 1,.m 119 14,.m 120 3,.c 121 219 [.t 117,.t 118,.t 119,.t 120]] (.ops [.m 122 14,.v 123 .add 122 .w,.m 1 123]))) (.s [.m 124 17,.m 125 18,.u 126 .geq 124 125,.m 8 126] (.s [.m 127 0,.m 128 14,.v 129 .add 128 .w,.m 130 2,.m 131 3,.c 132 219 [.t 127,.t 129,.t 130,.t 131]] (.ops [.m 133 14,.m 2 133]))))))))))))))))))))))⟩
def fn220 : AFunc := ⟨8, 1, [(2, none)],(.s [.o 2 (.mov .z)] (.seq (.cond .F (.r [.m 3 0,.o 4 (.conv (.i2i .u32) (.t 3)),.c 5 245 [.t 4],.m 2 5]) .skip) (.r [.m 6 0,.c 7 246 [.t 6],.m 2 7])))⟩
def fn221 : AFunc := ⟨6, 1, [(2, none)],(.s [.o 2 (.mov .F)] (.r [.m 3 0,.m 4 0,.u 5 .neq 3 4,.m 2 5]))⟩
def fn222 : AFunc := ⟨7, 1, [(2, none)],(.s [.o 2 (.mov (.c (.flt .f64 0)))] (.r [.m 3 0,.c 4 248 [.t 3],.v 5 .andNot 4 (.c (.int .u64 9223372036854775808)),.c 6 247 [.t 5],.m 2 6]))⟩
def fn225 : AFunc := ⟨8, 1, [(2, none)],(.s [.o 2 (.mov .z)] (.seq (.s [.m 3 0,.n 4 3,.v 5 .gtr 4 (.n 1024)] (.j 5 [.o 2 (.mov (.n 5))])) (.r [.m 6 0,.c 7 250 [.t 6],.m 2 7])))⟩
def fn226 : AFunc := ⟨24, 1, [],(.s [.a 5 1 1,.l 6 5,.n 7 6,.o 8 (.mov .z)] (.block 0 (.loop (.s [.u 9 .lss 8 7] (.seq (.i 9 .skip (.exit 0)) (.seq (.block 1 (.s [.m 10 8,.h 11 10 6 8,.r 12 10 11,.o 4 (.box (.c (.agg [.int .i64 0, .int .i64 0, .int .i64 0, .int .i64 0, .int .i64 0, .int .i64 0, .int .i64 0, .int .i64 0, .bool false, .nilSlice]))),.m 3 10,.s 10 4 12] (.s [.a 13 8 4,.l 14 13,.o 15 (.un .not (.t 14)),.m 16 15,.t 17 16 true 0,.t 18 16 true 3,.g 19 16 true (.load (some 10) (.t 4)),.g 20 16 true (.call (.t 17) [.t 18,.t 19]),.g 21 16 true (.un .not (.t 20)),.d 22 16 21] (.i 22 .ret .skip)))) (.ops [.v 23 .add 8 .w,.m 8 23])))))))⟩
def fn231 : AFunc := ⟨34, 2, [(4, none)],(.s [.o 4 (.mov .z)] (.seq (.s [.m 7 1,.o 8 (.len .st (.t 7)),.v 9 .eql 8 .z] (.j 9 [.m 10 0,.c 11 257 [.t 10],.v 12 .add 11 .w,.m 4 12])) (.seq (.s [.m 13 1,.o 14 (.len .st (.t 13)),.v 15 .eql 14 .w] (.j 15 [.m 16 0,.m 17 1,.o 18 (.ixs (.t 17) .z),.c 19 259 [.t 16,.t 18],.m 4 19])) (.s [.o 5 (.mov .z)] (.block 0 (.loop (.block 1 (.s [.m 20 0,.m 21 1,.c 22 232 [.t 20,.t 21],.m 6 22] (.seq (.s [.m 23 6,.v 24 .eql 23 (.n (-1))] (.j 24 [.m 25 5,.m 4 25])) (.s [.m 26 5,.v 27 .add 26 .w,.m 5 27] (.ops [.m 28 0,.m 29 6,.m 30 1,.o 31 (.len .st (.t 30)),.u 32 .add 29 31,.o 33 (.sls (.t 28) (some (.t 32)) none),.m 0 33])))))))))))⟩
def fn232 : AFunc := ⟨8, 2, [(4, none)],(.s [.o 4 (.mov .z)] (.r [.m 5 0,.m 6 1,.c 7 260 [.t 5,.t 6],.m 4 7]))⟩
def fn235 : AFunc := ⟨13, 2, [(4, none)],(.s [.o 4 (.mov (.c (.str [])))] (.seq (.s [.m 5 0,.m 6 1,.c 7 266 [.t 5,.t 6]] (.j 7 [.m 8 0,.m 9 1,.o 10 (.len .st (.t 9)),.o 11 (.sls (.t 8) (some (.t 10)) none),.m 4 11])) (.r [.m 12 0,.m 4 12])))⟩
def fn236 : AFunc := ⟨49, 3, [],(.s [.m 8 1,.v 9 .add 8 .w,.m 6 9] (.block 0 (.loop (.seq (.s [.m 10 6,.m 11 2,.u 12 .lss 10 11] (.i 12 .skip (.exit 0))) (.seq (.block 1 (.s [.m 15 6,.m 7 15] (.block 2 (.loop (.seq (.s [.w 16 7,.w 17 1,.u 18 .gtr 16 17,.m 19 18,⟨(some 20), .mov (.t 0), (some (19, true)), true⟩,⟨(some 21), .mov (.t 7), (some (19, true)), true⟩,⟨(some 22), .iadr 1 (.t 20) (.t 21), (some (19, true)), true⟩,⟨(some 23), .load none (.t 22), (some (19, true)), true⟩,⟨(some 24), .mov (.t 0), (some (19, true)), true⟩,⟨(some 25), .mov (.t 7), (some (19, true)), true⟩,⟨(some 26), .bin .sub (.t 25) .w, (some (19, true)), true⟩,⟨(some 27), .iadr 1 (.t 24) (.t 26), (some (19, true)), true⟩,⟨(some 28), .load none (.t 27), (some (19, true)), true⟩,.g 29 19 true (.call (.f 242) [.t 23,.t 28]),.d 30 19 29] (.i 30 .skip (.exit 2))) (.seq (.block 3 (.ops [.m 33 0,.m 34 7,.m 35 0,.m 36 7,.v 37 .sub 36 .w,.m 38 0,.m 39 7,.v 40 .sub 39 .w,.h 41 1 38 40,.l 42 41,.m 43 0,.m 44 7,.h 45 1 43 44,.l 46 45,.h 47 1 33 34,.s 1 47 42,.h 48 1 35 37,.s 1 48 46])) (.ops [.m 31 7,.v 32 .sub 31 .w,.m 7 32]))))))) (.ops [.m 13 6,.v 14 .add 13 .w,.m 6 14]))))))⟩
def fn237 : AFunc := ⟨56, 3, [],(.s [.m 11 1,.m 6 11] (.s [.o 7 (.mov .z)] (.s [.m 12 2,.m 13 1,.u 14 .sub 12 13,.m 8 14] (.seq (.s [.m 15 8,.v 16 .sub 15 .w,.v 17 .quo 16 (.n 2),.m 9 17] (.block 0 (.loop (.seq (.s [.m 18 9,.v 19 .geq 18 .z] (.i 19 .skip (.exit 0))) (.seq (.block 1 (.ops [.m 22 0,.m 23 9,.m 24 8,.m 25 6,.c 26 267 [.t 22,.t 23,.t 24,.t 25]])) (.ops [.m 20 9,.v 21 .sub 20 .w,.m 9 21])))))) (.s [.m 27 8,.v 28 .sub 27 .w,.m 10 28] (.block 2 (.loop (.seq (.s [.m 29 10,.v 30 .geq 29 .z] (.i 30 .skip (.exit 2))) (.seq (.block 3 (.s [.m 33 0,.m 34 6,.m 35 0,.m 36 6,.m 37 10,.u 38 .add 36 37,.m 39 0,.m 40 6,.m 41 10,.u 42 .add 40 41,.h 43 1 39 42,.l 44 43,.m 45 0,.m 46 6,.h 47 1 45 46,.l 48 47,.h 49 1 33 34,.s 1 49 44,.h 50 1 35 38,.s 1 50 48] (.ops [.m 51 0,.m 52 7,.m 53 10,.m 54 6,.c 55 267 [.t 51,.t 52,.t 53,.t 54]]))) (.ops [.m 31 10,.v 32 .sub 31 .w,.m 10 32]))))))))))⟩
def fn238 : AFunc := ⟨65, 3, [],(.s [.m 11 2,.m 12 1,.u 13 .sub 11 12,.m 6 13] (.s [.m 14 6,.v 15 .geq 14 (.n 8)] (.i 15 (.s [.m 16 6,.o 17 (.conv (.i2i .u64) (.t 16)),.o 7 (.box (.c (.int .u64 0))),.s 1 7 17] (.s [.m 18 6,.c 19 268 [.t 18],.m 8 19] (.s [.m 20 1,.m 21 6,.v 22 .quo 21 (.n 4),.v 23 .mul 22 (.n 2),.u 24 .add 20 23,.v 25 .sub 24 .w,.m 9 25] (.block 0 (.loop (.seq (.s [.m 26 9,.m 27 1,.m 28 6,.v 29 .quo 28 (.n 4),.v 30 .mul 29 (.n 2),.u 31 .add 27 30,.v 32 .add 31 .w,.u 33 .leq 26 32] (.i 33 .skip (.exit 0))) (.seq (.block 1 (.s [.c 36 269 [.t 7],.m 37 8,.v 38 .sub 37 (.c (.int .u64 1)),.u 39 .and 36 38,.o 40 (.conv (.i2i .i64) (.t 39)),.m 10 40] (.seq (.s [.m 41 10,.m 42 6,.u 43 .geq 41 42] (.i 43 (.ops [.m 44 10,.m 45 6,.u 46 .sub 44 45,.m 10 46]) .skip)) (.ops [.m 47 0,.m 48 9,.m 49 0,.m 50 1,.m 51 10,.u 52 .add 50 51,.m 53 0,.m 54 1,.m 55 10,.u 56 .add 54 55,.h 57 1 53 56,.l 58 57,.m 59 0,.m 60 9,.h 61 1 59 60,.l 62 61,.h 63 1 47 48,.s 1 63 58,.h 64 1 49 52,.s 1 64 62])))) (.ops [.m 34 9,.v 35 .add 34 .w,.m 9 35])))))))) .skip)))⟩
def fn239 : AFunc := ⟨57, 3, [(6, none), (7, none)],(.s [.o 6 (.mov .z),.o 7 (.mov .z)] (.s [.m 13 2,.m 14 1,.u 15 .sub 13 14,.m 8 15] (.s [.o 9 (.box .z)] (.s [.m 16 1,.m 17 8,.v 18 .quo 17 (.n 4),.v 19 .mul 18 .w,.u 20 .add 16 19,.m 10 20] (.s [.m 21 1,.m 22 8,.v 23 .quo 22 (.n 4),.v 24 .mul 23 (.n 2),.u 25 .add 21 24,.m 11 25] (.s [.m 26 1,.m 27 8,.v 28 .quo 27 (.n 4),.v 29 .mul 28 (.n 3),.u 30 .add 26 29,.m 12 30] (.seq (.s [.m 31 8,.v 32 .geq 31 (.n 8)] (.i 32 (.seq (.s [.m 33 8,.v 34 .geq 33 (.n 50)] (.i 34 (.s [.m 35 0,.m 36 10,.c 37 270 [.t 35,.t 36,.t 9],.m 10 37] (.s [.m 38 0,.m 39 11,.c 40 270 [.t 38,.t 39,.t 9],.m 11 40] (.ops [.m 41 0,.m 42 12,.c 43 270 [.t 41,.t 42,.t 9],.m 12 43]))) .skip)) (.ops [.m 44 0,.m 45 10,.m 46 11,.m 47 12,.c 48 271 [.t 44,.t 45,.t 46,.t 47,.t 9],.m 11 48])) .skip)) (.s [.l 49 9] (.block 0 (.s [.v 52 .eql 49 .z,.m 51 52] (.i 51 (.r [.m 53 11,.m 6 53,.o 7 (.mov .w)]) (.s [.v 55 .eql 49 (.n 12),.m 54 55] (.i 54 (.r [.m 56 11,.m 6 56,.o 7 (.mov (.n 2))]) (.r [.m 50 11,.m 6 50,.o 7 (.mov .z)]))))))))))))))⟩
def fn240 : AFunc := ⟨32, 3, [],(.s [.m 8 1,.m 6 8] (.s [.m 9 2,.v 10 .sub 9 .w,.m 7 10] (.block 0 (.loop (.seq (.s [.m 11 6,.m 12 7,.u 13 .lss 11 12] (.i 13 .skip (.exit 0))) (.block 1 (.s [.m 14 0,.m 15 6,.m 16 0,.m 17 7,.m 18 0,.m 19 7,.h 20 1 18 19,.l 21 20,.m 22 0,.m 23 6,.h 24 1 22 23,.l 25 24,.h 26 1 14 15,.s 1 26 21,.h 27 1 16 17,.s 1 27 25] (.s [.m 28 6,.v 29 .add 28 .w,.m 6 29] (.ops [.m 30 7,.v 31 .sub 30 .w,.m 7 31])))))))))⟩
def fn241 : AFunc := ⟨133, 3, [(6, none)],(.s [.o 6 (.mov .F)] (.s [.m 11 1,.v 12 .add 11 .w,.m 7 12] (.seq (.s [.o 8 (.mov .z)] (.block 0 (.loop (.seq (.s [.m 13 8,.v 14 .lss 13 (.n 5)] (.i 14 .skip (.exit 0))) (.seq (.block 1 (.seq (.block 2 (.loop (.seq (.s [.w 17 7,.w 18 2,.u 19 .lss 17 18,.m 20 19,⟨(some 21), .mov (.t 0), (some (20, true)), true⟩,⟨(some 22), .mov (.t 7), (some (20, true)), true⟩,⟨(some 23), .iadr 1 (.t 21) (.t 22), (some (20, true)), true⟩,⟨(some 24), .load none (.t 23), (some (20, true)), true⟩,⟨(some 25), .mov (.t 0), (some (20, true)), true⟩,⟨(some 26), .mov (.t 7), (some (20, true)), true⟩,⟨(some 27), .bin .sub (.t 26) .w, (some (20, true)), true⟩,⟨(some 28), .iadr 1 (.t 25) (.t 27), (some (20, true)), true⟩,⟨(some 29), .load none (.t 28), (some (20, true)), true⟩,.g 30 20 true (.call (.f 242) [.t 24,.t 29]),.g 31 20 true (.un .not (.t 30)),.d 32 20 31] (.i 32 .skip (.exit 2))) (.block 3 (.ops [.m 33 7,.v 34 .add 33 .w,.m 7 34]))))) (.seq (.s [.m 35 7,.m 36 2,.u 37 .eql 35 36] (.j 37 [.o 6 (.mov .T)])) (.seq (.s [.m 38 2,.m 39 1,.u 40 .sub 38 39,.v 41 .lss 40 (.n 50)] (.j 41 [.o 6 (.mov .F)])) (.s [.m 42 0,.m 43 7,.m 44 0,.m 45 7,.v 46 .sub 45 .w,.m 47 0,.m 48 7,.v 49 .sub 48 .w,.h 50 1 47 49,.l 51 50,.m 52 0,.m 53 7,.h 54 1 52 53,.l 55 54,.h 56 1 42 43,.s 1 56 51,.h 57 1 44 46,.s 1 57 55] (.seq (.s [.m 58 7,.m 59 1,.u 60 .sub 58 59,.v 61 .geq 60 (.n 2)] (.i 61 (.s [.m 62 7,.v 63 .sub 62 .w,.m 9 63] (.block 4 (.loop (.seq (.s [.m 64 9,.v 65 .geq 64 .w] (.i 65 .skip (.exit 4))) (.seq (.block 5 (.seq (.s [.w 68 0,.w 69 9,.y 70 (.iadr 1 (.t 68) (.t 69)),.j 71 70,.w 72 0,.w 73 9,.y 74 (.bin .sub (.t 73) .w),.y 75 (.iadr 1 (.t 72) (.t 74)),.j 76 75,.c 77 242 [.t 71,.t 76],.o 78 (.un .not (.t 77))] (.i 78 (.exit 4) .skip)) (.ops [.m 79 0,.m 80 9,.m 81 0,.m 82 9,.v 83 .sub 82 .w,.m 84 0,.m 85 9,.v 86 .sub 85 .w,.h 87 1 84 86,.l 88 87,.m 89 0,.m 90 9,.h 91 1 89 90,.l 92 91,.h 93 1 79 80,.s 1 93 88,.h 94 1 81 83,.s 1 94 92]))) (.ops [.m 66 9,.v 67 .sub 66 .w,.m 9 67])))))) .skip)) (.s [.m 95 2,.m 96 7,.u 97 .sub 95 96,.v 98 .geq 97 (.n 2)] (.i 98 (.s [.m 99 7,.v 100 .add 99 .w,.m 10 100] (.block 6 (.loop (.seq (.s [.m 101 10,.m 102 2,.u 103 .lss 101 102] (.i 103 .skip (.exit 6))) (.seq (.block 7 (.seq (.s [.w 106 0,.w 107 10,.y 108 (.iadr 1 (.t 106) (.t 107)),.j 109 108,.w 110 0,.w 111 10,.y 112 (.bin .sub (.t 111) .w),.y 113 (.iadr 1 (.t 110) (.t 112)),.j 114 113,.c 115 242 [.t 109,.t 114],.o 116 (.un .not (.t 115))] (.i 116 (.exit 6) .skip)) (.ops [.m 117 0,.m 118 10,.m 119 0,.m 120 10,.v 121 .sub 120 .w,.m 122 0,.m 123 10,.v 124 .sub 123 .w,.h 125 1 122 124,.l 126 125,.m 127 0,.m 128 10,.h 129 1 127 128,.l 130 129,.h 131 1 117 118,.s 1 131 126,.h 132 1 119 121,.s 1 132 130]))) (.ops [.m 104 10,.v 105 .add 104 .w,.m 10 105])))))) .skip)))))))) (.ops [.m 15 8,.v 16 .add 15 .w,.m 8 16])))))) (.r [.o 6 (.mov .F)]))))⟩
def fn242 : AFunc := ⟨17, 2, [(4, none)],(.s [.o 4 (.mov .F)] (.r [.m 5 0,.c 6 221 [.t 5],.m 7 6,.t 8 7 true 1,.g 9 7 true (.call (.f 221) [.t 8]),.g 10 7 true (.un .not (.t 9)),.d 11 7 10,.m 12 11,.t 13 12 false 0,.t 14 12 false 1,.g 15 12 false (.bin .lss (.t 13) (.t 14)),.f 16 12 15,.m 4 16]))⟩
def fn243 : AFunc := ⟨84, 4, [(8, none)],(.s [.o 8 (.mov .z)] (.s [.m 11 0,.m 12 1,.m 13 0,.m 14 3,.m 15 0,.m 16 3,.h 17 1 15 16,.l 18 17,.m 19 0,.m 20 1,.h 21 1 19 20,.l 22 21,.h 23 1 11 12,.s 1 23 18,.h 24 1 13 14,.s 1 24 22] (.s [.m 25 1,.v 26 .add 25 .w,.m 27 2,.v 28 .sub 27 .w,.m 9 26,.m 10 28] (.seq (.block 0 (.loop (.block 1 (.seq (.block 2 (.loop (.seq (.s [.w 29 9,.w 30 10,.u 31 .leq 29 30,.m 32 31,⟨(some 33), .mov (.t 0), (some (32, true)), true⟩,⟨(some 34), .mov (.t 1), (some (32, true)), true⟩,⟨(some 35), .iadr 1 (.t 33) (.t 34), (some (32, true)), true⟩,⟨(some 36), .load none (.t 35), (some (32, true)), true⟩,⟨(some 37), .mov (.t 0), (some (32, true)), true⟩,⟨(some 38), .mov (.t 9), (some (32, true)), true⟩,⟨(some 39), .iadr 1 (.t 37) (.t 38), (some (32, true)), true⟩,⟨(some 40), .load none (.t 39), (some (32, true)), true⟩,.g 41 32 true (.call (.f 242) [.t 36,.t 40]),.g 42 32 true (.un .not (.t 41)),.d 43 32 42] (.i 43 .skip (.exit 2))) (.block 3 (.ops [.m 44 9,.v 45 .add 44 .w,.m 9 45]))))) (.seq (.block 4 (.loop (.seq (.s [.w 46 9,.w 47 10,.u 48 .leq 46 47,.m 49 48,⟨(some 50), .mov (.t 0), (some (49, true)), true⟩,⟨(some 51), .mov (.t 1), (some (49, true)), true⟩,⟨(some 52), .iadr 1 (.t 50) (.t 51), (some (49, true)), true⟩,⟨(some 53), .load none (.t 52), (some (49, true)), true⟩,⟨(some 54), .mov (.t 0), (some (49, true)), true⟩,⟨(some 55), .mov (.t 10), (some (49, true)), true⟩,⟨(some 56), .iadr 1 (.t 54) (.t 55), (some (49, true)), true⟩,⟨(some 57), .load none (.t 56), (some (49, true)), true⟩,.g 58 49 true (.call (.f 242) [.t 53,.t 57]),.d 59 49 58] (.i 59 .skip (.exit 4))) (.block 5 (.ops [.m 60 10,.v 61 .sub 60 .w,.m 10 61]))))) (.seq (.s [.m 62 9,.m 63 10,.u 64 .gtr 62 63] (.i 64 (.exit 0) .skip)) (.s [.m 65 0,.m 66 9,.m 67 0,.m 68 10,.m 69 0,.m 70 10,.h 71 1 69 70,.l 72 71,.m 73 0,.m 74 9,.h 75 1 73 74,.l 76 75,.h 77 1 65 66,.s 1 77 72,.h 78 1 67 68,.s 1 78 76] (.s [.m 79 9,.v 80 .add 79 .w,.m 9 80] (.ops [.m 81 10,.v 82 .sub 81 .w,.m 10 82]))))))))) (.r [.m 83 9,.m 8 83])))))⟩
def fn244 : AFunc := ⟨168, 4, [(8, none), (9, none)],(.s [.o 8 (.mov .z),.o 9 (.mov .F)] (.s [.m 12 0,.m 13 1,.m 14 0,.m 15 3,.m 16 0,.m 17 3,.h 18 1 16 17,.l 19 18,.m 20 0,.m 21 1,.h 22 1 20 21,.l 23 22,.h 24 1 12 13,.s 1 24 19,.h 25 1 14 15,.s 1 25 23] (.s [.m 26 1,.v 27 .add 26 .w,.m 28 2,.v 29 .sub 28 .w,.m 10 27,.m 11 29] (.seq (.block 0 (.loop (.seq (.s [.w 30 10,.w 31 11,.u 32 .leq 30 31,.m 33 32,⟨(some 34), .mov (.t 0), (some (33, true)), true⟩,⟨(some 35), .mov (.t 10), (some (33, true)), true⟩,⟨(some 36), .iadr 1 (.t 34) (.t 35), (some (33, true)), true⟩,⟨(some 37), .load none (.t 36), (some (33, true)), true⟩,⟨(some 38), .mov (.t 0), (some (33, true)), true⟩,⟨(some 39), .mov (.t 1), (some (33, true)), true⟩,⟨(some 40), .iadr 1 (.t 38) (.t 39), (some (33, true)), true⟩,⟨(some 41), .load none (.t 40), (some (33, true)), true⟩,.g 42 33 true (.call (.f 242) [.t 37,.t 41]),.d 43 33 42] (.i 43 .skip (.exit 0))) (.block 1 (.ops [.m 44 10,.v 45 .add 44 .w,.m 10 45]))))) (.seq (.block 2 (.loop (.seq (.s [.w 46 10,.w 47 11,.u 48 .leq 46 47,.m 49 48,⟨(some 50), .mov (.t 0), (some (49, true)), true⟩,⟨(some 51), .mov (.t 11), (some (49, true)), true⟩,⟨(some 52), .iadr 1 (.t 50) (.t 51), (some (49, true)), true⟩,⟨(some 53), .load none (.t 52), (some (49, true)), true⟩,⟨(some 54), .mov (.t 0), (some (49, true)), true⟩,⟨(some 55), .mov (.t 1), (some (49, true)), true⟩,⟨(some 56), .iadr 1 (.t 54) (.t 55), (some (49, true)), true⟩,⟨(some 57), .load none (.t 56), (some (49, true)), true⟩,.g 58 49 true (.call (.f 242) [.t 53,.t 57]),.g 59 49 true (.un .not (.t 58)),.d 60 49 59] (.i 60 .skip (.exit 2))) (.block 3 (.ops [.m 61 11,.v 62 .sub 61 .w,.m 11 62]))))) (.seq (.s [.m 63 10,.m 64 11,.u 65 .gtr 63 64] (.i 65 (.s [.m 66 0,.m 67 11,.m 68 0,.m 69 1,.m 70 0,.m 71 1,.h 72 1 70 71,.l 73 72,.m 74 0,.m 75 11,.h 76 1 74 75,.l 77 76,.h 78 1 66 67,.s 1 78 73,.h 79 1 68 69,.s 1 79 77] (.r [.m 80 11,.m 8 80,.o 9 (.mov .T)])) .skip)) (.s [.m 81 0,.m 82 10,.m 83 0,.m 84 11,.m 85 0,.m 86 11,.h 87 1 85 86,.l 88 87,.m 89 0,.m 90 10,.h 91 1 89 90,.l 92 91,.h 93 1 81 82,.s 1 93 88,.h 94 1 83 84,.s 1 94 92] (.s [.m 95 10,.v 96 .add 95 .w,.m 10 96] (.s [.m 97 11,.v 98 .sub 97 .w,.m 11 98] (.seq (.block 4 (.loop (.block 5 (.seq (.block 6 (.loop (.seq (.s [.w 99 10,.w 100 11,.u 101 .leq 99 100,.m 102 101,⟨(some 103), .mov (.t 0), (some (102, true)), true⟩,⟨(some 104), .mov (.t 10), (some (102, true)), true⟩,⟨(some 105), .iadr 1 (.t 103) (.t 104), (some (102, true)), true⟩,⟨(some 106), .load none (.t 105), (some (102, true)), true⟩,⟨(some 107), .mov (.t 0), (some (102, true)), true⟩,⟨(some 108), .mov (.t 1), (some (102, true)), true⟩,⟨(some 109), .iadr 1 (.t 107) (.t 108), (some (102, true)), true⟩,⟨(some 110), .load none (.t 109), (some (102, true)), true⟩,.g 111 102 true (.call (.f 242) [.t 106,.t 110]),.d 112 102 111] (.i 112 .skip (.exit 6))) (.block 7 (.ops [.m 113 10,.v 114 .add 113 .w,.m 10 114]))))) (.seq (.block 8 (.loop (.seq (.s [.w 115 10,.w 116 11,.u 117 .leq 115 116,.m 118 117,⟨(some 119), .mov (.t 0), (some (118, true)), true⟩,⟨(some 120), .mov (.t 11), (some (118, true)), true⟩,⟨(some 121), .iadr 1 (.t 119) (.t 120), (some (118, true)), true⟩,⟨(some 122), .load none (.t 121), (some (118, true)), true⟩,⟨(some 123), .mov (.t 0), (some (118, true)), true⟩,⟨(some 124), .mov (.t 1), (some (118, true)), true⟩,⟨(some 125), .iadr 1 (.t 123) (.t 124), (some (118, true)), true⟩,⟨(some 126), .load none (.t 125), (some (118, true)), true⟩,.g 127 118 true (.call (.f 242) [.t 122,.t 126]),.g 128 118 true (.un .not (.t 127)),.d 129 118 128] (.i 129 .skip (.exit 8))) (.block 9 (.ops [.m 130 11,.v 131 .sub 130 .w,.m 11 131]))))) (.seq (.s [.m 132 10,.m 133 11,.u 134 .gtr 132 133] (.i 134 (.exit 4) .skip)) (.s [.m 135 0,.m 136 10,.m 137 0,.m 138 11,.m 139 0,.m 140 11,.h 141 1 139 140,.l 142 141,.m 143 0,.m 144 10,.h 145 1 143 144,.l 146 145,.h 147 1 135 136,.s 1 147 142,.h 148 1 137 138,.s 1 148 146] (.s [.m 149 10,.v 150 .add 149 .w,.m 10 150] (.ops [.m 151 11,.v 152 .sub 151 .w,.m 11 152]))))))))) (.s [.m 153 0,.m 154 11,.m 155 0,.m 156 1,.m 157 0,.m 158 1,.h 159 1 157 158,.l 160 159,.m 161 0,.m 162 11,.h 163 1 161 162,.l 164 163,.h 165 1 153 154,.s 1 165 160,.h 166 1 155 156,.s 1 166 164] (.r [.m 167 11,.m 8 167,.o 9 (.mov .F)]))))))))))))⟩
def fn245 : AFunc := ⟨19, 1, [(2, none)],(.s [.o 2 (.mov .z)] (.seq (.s [.m 3 0,.v 4 .geq 3 (.c (.int .u32 65536))] (.i 4 (.s [.m 5 0,.v 6 .shr 5 (.c (.int .u64 16)),.m 0 6] (.ops [.o 2 (.mov (.n 16))])) .skip)) (.seq (.s [.m 7 0,.v 8 .geq 7 (.c (.int .u32 256))] (.i 8 (.s [.m 9 0,.v 10 .shr 9 (.c (.int .u64 8)),.m 0 10] (.ops [.m 11 2,.v 12 .add 11 (.n 8),.m 2 12])) .skip)) (.r [.m 13 2,.m 14 0,.o 15 (.conv (.i2i .u8) (.t 14)),.o 16 (.ixs (.c (.str [0, 1, 2, 2, 3, 3, 3, 3, 4, 4, 4, 4, 4, 4, 4, 4, 5, 5, 5, 5, 5, 5, 5, 5, 5, 5, 5, 5, 5, 5, 5, 5, 6, 6, 6, 6, 6, 6, 6, 6, 6, 6, 6, 6, 6, 6, 6, 6, 6, 6, 6, 6, 6, 6, 6, 6, 6, 6, 6, 6, 6, 6, 6, 6, 7, 7, 7, 7, 7, 7, 7, 7, 7, 7, 7, 7, 7, 7, 7, 7, 7, 7, 7, 7, 7, 7, 7, 7, 7, 7, 7, 7, 7, 7, 7, 7, 7, 7, 7, 7, 7, 7, 7, 7, 7, 7, 7, 7, 7, 7, 7, 7, 7, 7, 7, 7, 7, 7, 7, 7, 7, 7, 7, 7, 7, 7, 7, 7, 8, 8, 8, 8, 8, 8, 8, 8, 8, 8, 8, 8, 8, 8, 8, 8, 8, 8, 8, 8, 8, 8, 8, 8, 8, 8, 8, 8, 8, 8, 8, 8, 8, 8, 8, 8, 8, 8, 8, 8, 8, 8, 8, 8, 8, 8, 8, 8, 8, 8, 8, 8, 8, 8, 8, 8, 8, 8, 8, 8, 8, 8, 8, 8, 8, 8, 8, 8, 8, 8, 8, 8, 8, 8, 8, 8, 8, 8, 8, 8, 8, 8, 8, 8, 8, 8, 8, 8, 8, 8, 8, 8, 8, 8, 8, 8, 8, 8, 8, 8, 8, 8, 8, 8, 8, 8, 8, 8, 8, 8, 8, 8, 8, 8, 8, 8, 8, 8, 8, 8, 8, 8, 8, 8, 8, 8, 8, 8])) (.t 15)),.o 17 (.conv (.i2i .i64) (.t 16)),.u 18 .add 13 17,.m 2 18]))))⟩
def fn246 : AFunc := ⟨25, 1, [(2, none)],(.s [.o 2 (.mov .z)] (.seq (.s [.m 3 0,.v 4 .geq 3 (.c (.int .u64 4294967296))] (.i 4 (.s [.m 5 0,.v 6 .shr 5 (.c (.int .u64 32)),.m 0 6] (.ops [.o 2 (.mov (.n 32))])) .skip)) (.seq (.s [.m 7 0,.v 8 .geq 7 (.c (.int .u64 65536))] (.i 8 (.s [.m 9 0,.v 10 .shr 9 (.c (.int .u64 16)),.m 0 10] (.ops [.m 11 2,.v 12 .add 11 (.n 16),.m 2 12])) .skip)) (.seq (.s [.m 13 0,.v 14 .geq 13 (.c (.int .u64 256))] (.i 14 (.s [.m 15 0,.v 16 .shr 15 (.c (.int .u64 8)),.m 0 16] (.ops [.m 17 2,.v 18 .add 17 (.n 8),.m 2 18])) .skip)) (.r [.m 19 2,.m 20 0,.o 21 (.conv (.i2i .u8) (.t 20)),.o 22 (.ixs (.c (.str [0, 1, 2, 2, 3, 3, 3, 3, 4, 4, 4, 4, 4, 4, 4, 4, 5, 5, 5, 5, 5, 5, 5, 5, 5, 5, 5, 5, 5, 5, 5, 5, 6, 6, 6, 6, 6, 6, 6, 6, 6, 6, 6, 6, 6, 6, 6, 6, 6, 6, 6, 6, 6, 6, 6, 6, 6, 6, 6, 6, 6, 6, 6, 6, 7, 7, 7, 7, 7, 7, 7, 7, 7, 7, 7, 7, 7, 7, 7, 7, 7, 7, 7, 7, 7, 7, 7, 7, 7, 7, 7, 7, 7, 7, 7, 7, 7, 7, 7, 7, 7, 7, 7, 7, 7, 7, 7, 7, 7, 7, 7, 7, 7, 7, 7, 7, 7, 7, 7, 7, 7, 7, 7, 7, 7, 7, 7, 7, 8, 8, 8, 8, 8, 8, 8, 8, 8, 8, 8, 8, 8, 8, 8, 8, 8, 8, 8, 8, 8, 8, 8, 8, 8, 8, 8, 8, 8, 8, 8, 8, 8, 8, 8, 8, 8, 8, 8, 8, 8, 8, 8, 8, 8, 8, 8, 8, 8, 8, 8, 8, 8, 8, 8, 8, 8, 8, 8, 8, 8, 8, 8, 8, 8, 8, 8, 8, 8, 8, 8, 8, 8, 8, 8, 8, 8, 8, 8, 8, 8, 8, 8, 8, 8, 8, 8, 8, 8, 8, 8, 8, 8, 8, 8, 8, 8, 8, 8, 8, 8, 8, 8, 8, 8, 8, 8, 8, 8, 8, 8, 8, 8, 8, 8, 8, 8, 8, 8, 8, 8, 8, 8, 8, 8, 8, 8, 8])) (.t 21)),.o 23 (.conv (.i2i .i64) (.t 22)),.u 24 .add 19 23,.m 2 24])))))⟩
def fn250 : AFunc := ⟨6, 1, [(2, none)],(.s [.o 2 (.mov .z)] (.r [.m 3 0,.c 4 274 [.t 3, (.f 142)],.c 5 168 [.t 4],.m 2 5]))⟩
def fn260 : AFunc := ⟨143, 2, [(4, none)],(.s [.o 4 (.mov .z)] (.s [.m 14 1,.o 15 (.len .st (.t 14)),.m 5 15] (.seq (.block 0 (.s [.m 17 5,.v 18 .eql 17 .z,.m 19 18,.t 20 19 false 1,.t 21 19 false 0,.g 22 19 false (.bin .eql (.t 20) (.t 21)),.f 23 19 22,.m 16 23] (.i 16 (.r [.o 4 (.mov .z)]) (.s [.m 25 5,.v 26 .eql 25 .w,.m 24 26] (.i 24 (.r [.m 27 0,.m 28 1,.o 29 (.ixs (.t 28) .z),.c 30 280 [.t 27,.t 29],.m 4 30]) (.s [.m 32 5,.m 33 0,.o 34 (.len .st (.t 33)),.u 35 .geq 32 34,.m 31 35] (.i 31 (.r [.o 4 (.mov (.n (-1)))]) (.s [.m 37 5,.o 38 (.load none (.g 3)),.u 39 .leq 37 38,.m 40 39,.t 41 40 true 0,.g 42 40 true (.len .st (.t 41)),.g 43 40 true (.bin .leq (.t 42) (.n 64)),.d 44 40 43,.m 36 44] (.j 36 [.m 45 0,.m 46 1,.c 47 281 [.t 45,.t 46],.m 4 47]))))))))) (.s [.m 48 1,.o 49 (.ixs (.t 48) .z),.m 6 49] (.s [.m 50 1,.o 51 (.ixs (.t 50) .w),.m 7 51] (.s [.o 8 (.mov .z)] (.s [.m 52 0,.o 53 (.len .st (.t 52)),.m 54 5,.u 55 .sub 53 54,.v 56 .add 55 .w,.m 9 56] (.s [.o 10 (.mov .z)] (.seq (.block 1 (.loop (.seq (.s [.m 57 8,.m 58 9,.u 59 .lss 57 58] (.i 59 .skip (.exit 1))) (.block 2 (.seq (.s [.m 60 0,.m 61 8,.o 62 (.ixs (.t 60) (.t 61)),.m 63 6,.u 64 .neq 62 63] (.i 64 (.s [.m 65 0,.m 66 8,.v 67 .add 66 .w,.m 68 9,.o 69 (.sls (.t 65) (some (.t 67)) (some (.t 68))),.m 70 6,.c 71 280 [.t 69,.t 70],.m 11 71] (.seq (.s [.m 72 11,.v 73 .lss 72 .z] (.j 73 [.o 4 (.mov (.n (-1)))])) (.ops [.m 74 8,.m 75 11,.v 76 .add 75 .w,.u 77 .add 74 76,.m 8 77]))) .skip)) (.seq (.s [.m 78 0,.m 79 8,.v 80 .add 79 .w,.o 81 (.ixs (.t 78) (.t 80)),.m 82 7,.u 83 .eql 81 82,.m 84 83,.t 85 84 true 0,.t 86 84 true 8,.t 87 84 true 8,.t 88 84 true 5,.g 89 84 true (.bin .add (.t 87) (.t 88)),.g 90 84 true (.sls (.t 85) (some (.t 86)) (some (.t 89))),.t 91 84 true 1,.g 92 84 true (.bin .eql (.t 90) (.t 91)),.d 93 84 92] (.j 93 [.m 94 8,.m 4 94])) (.s [.m 95 8,.v 96 .add 95 .w,.m 8 96] (.s [.m 97 10,.v 98 .add 97 .w,.m 10 98] (.s [.m 99 5,.o 100 (.load none (.g 3)),.u 101 .leq 99 100,.m 102 101,.t 103 102 true 10,.t 104 102 true 8,.g 105 102 true (.call (.f 282) [.t 104]),.g 106 102 true (.bin .gtr (.t 103) (.t 105)),.d 107 102 106] (.i 107 (.s [.m 108 0,.m 109 8,.o 110 (.sls (.t 108) (some (.t 109)) none),.m 111 1,.c 112 281 [.t 110,.t 111],.m 12 112] (.seq (.s [.m 113 12,.v 114 .geq 113 .z] (.j 114 [.m 115 12,.m 116 8,.u 117 .add 115 116,.m 4 117])) (.r [.o 4 (.mov (.n (-1)))]))) (.s [.m 118 5,.o 119 (.load none (.g 3)),.u 120 .gtr 118 119,.m 121 120,.t 122 121 true 10,.t 123 121 true 8,.g 124 121 true (.bin .shr (.t 123) (.c (.int .u64 4))),.g 125 121 true (.bin .add (.n 4) (.t 124)),.g 126 121 true (.bin .geq (.t 122) (.t 125)),.d 127 121 126,.m 128 127,.t 129 128 true 8,.t 130 128 true 9,.g 131 128 true (.bin .lss (.t 129) (.t 130)),.d 132 128 131] (.i 132 (.s [.m 133 0,.m 134 8,.o 135 (.sls (.t 133) (some (.t 134)) none),.m 136 1,.c 137 283 [.t 135,.t 136],.m 13 137] (.seq (.s [.m 138 13,.v 139 .lss 138 .z] (.j 139 [.o 4 (.mov (.n (-1)))])) (.r [.m 140 8,.m 141 13,.u 142 .add 140 141,.m 4 142]))) .skip)))))))))))) (.r [.o 4 (.mov (.n (-1)))]))))))))))⟩
def fn266 : AFunc := ⟨18, 2, [(4, none)],(.s [.o 4 (.mov .F)] (.r [.m 5 0,.o 6 (.len .st (.t 5)),.m 7 1,.o 8 (.len .st (.t 7)),.u 9 .geq 6 8,.m 10 9,.t 11 10 true 0,.t 12 10 true 1,.g 13 10 true (.len .st (.t 12)),.g 14 10 true (.sls (.t 11) none (some (.t 13))),.t 15 10 true 1,.g 16 10 true (.bin .eql (.t 14) (.t 15)),.d 17 10 16,.m 4 17]))⟩
def fn267 : AFunc := ⟨76, 4, [],(.s [.m 10 1,.m 8 10] (.block 0 (.loop (.block 1 (.s [.m 11 8,.b 12 .mul (.n 2) (.t 11),.v 13 .add 12 .w,.m 9 13] (.seq (.s [.m 14 9,.m 15 2,.u 16 .geq 14 15] (.i 16 (.exit 0) .skip)) (.seq (.s [.w 17 9,.y 18 (.bin .add (.t 17) .w),.w 19 2,.u 20 .lss 18 19,.m 21 20,⟨(some 22), .mov (.t 0), (some (21, true)), true⟩,⟨(some 23), .mov (.t 3), (some (21, true)), true⟩,⟨(some 24), .mov (.t 9), (some (21, true)), true⟩,⟨(some 25), .bin .add (.t 23) (.t 24), (some (21, true)), true⟩,⟨(some 26), .iadr 1 (.t 22) (.t 25), (some (21, true)), true⟩,⟨(some 27), .load none (.t 26), (some (21, true)), true⟩,⟨(some 28), .mov (.t 0), (some (21, true)), true⟩,⟨(some 29), .mov (.t 3), (some (21, true)), true⟩,⟨(some 30), .mov (.t 9), (some (21, true)), true⟩,⟨(some 31), .bin .add (.t 29) (.t 30), (some (21, true)), true⟩,⟨(some 32), .bin .add (.t 31) .w, (some (21, true)), true⟩,⟨(some 33), .iadr 1 (.t 28) (.t 32), (some (21, true)), true⟩,⟨(some 34), .load none (.t 33), (some (21, true)), true⟩,.g 35 21 true (.call (.f 242) [.t 27,.t 34]),.d 36 21 35] (.i 36 (.ops [.m 37 9,.v 38 .add 37 .w,.m 9 38]) .skip)) (.seq (.s [.w 39 0,.w 40 3,.w 41 8,.y 42 (.bin .add (.t 40) (.t 41)),.y 43 (.iadr 1 (.t 39) (.t 42)),.j 44 43,.w 45 0,.w 46 3,.w 47 9,.y 48 (.bin .add (.t 46) (.t 47)),.y 49 (.iadr 1 (.t 45) (.t 48)),.j 50 49,.c 51 242 [.t 44,.t 50],.o 52 (.un .not (.t 51))] (.i 52 .ret .skip)) (.s [.m 53 0,.m 54 3,.m 55 8,.u 56 .add 54 55,.m 57 0,.m 58 3,.m 59 9,.u 60 .add 58 59,.m 61 0,.m 62 3,.m 63 9,.u 64 .add 62 63,.h 65 1 61 64,.l 66 65,.m 67 0,.m 68 3,.m 69 8,.u 70 .add 68 69,.h 71 1 67 70,.l 72 71,.h 73 1 53 56,.s 1 73 66,.h 74 1 57 60,.s 1 74 72] (.ops [.m 75 9,.m 8 75]))))))))))⟩
def fn268 : AFunc := ⟨7, 1, [(2, none)],(.s [.o 2 (.mov (.c (.int .u64 0)))] (.r [.m 3 0,.o 4 (.conv (.i2i .u64) (.t 3)),.c 5 220 [.t 4],.b 6 .shl (.c (.int .u64 1)) (.t 5),.m 2 6]))⟩
def fn269 : AFunc := ⟨33, 1, [(2, none)],(.s [.o 2 (.mov (.c (.int .u64 0)))] (.s [.w 3 0,.y 4 (.nilchk (.t 3)),.j 5 4,.w 6 0,.y 7 (.nilchk (.t 6)),.j 8 7,.y 9 (.bin .shl (.t 8) (.c (.int .u64 13))),.u 10 .xor 5 9,.o 11 (.nilchk (.t 3)),.s 1 11 10] (.s [.w 12 0,.y 13 (.nilchk (.t 12)),.j 14 13,.w 15 0,.y 16 (.nilchk (.t 15)),.j 17 16,.y 18 (.bin .shr (.t 17) (.c (.int .u64 7))),.u 19 .xor 14 18,.o 20 (.nilchk (.t 12)),.s 1 20 19] (.s [.w 21 0,.y 22 (.nilchk (.t 21)),.j 23 22,.w 24 0,.y 25 (.nilchk (.t 24)),.j 26 25,.y 27 (.bin .shl (.t 26) (.c (.int .u64 17))),.u 28 .xor 23 27,.o 29 (.nilchk (.t 21)),.s 1 29 28] (.r [.m 30 0,.o 31 (.nilchk (.t 30)),.l 32 31,.m 2 32])))))⟩
def fn270 : AFunc := ⟨15, 3, [(6, none)],(.s [.o 6 (.mov .z)] (.r [.m 7 0,.m 8 1,.v 9 .sub 8 .w,.m 10 1,.m 11 1,.v 12 .add 11 .w,.m 13 2,.c 14 271 [.t 7,.t 9,.t 10,.t 12,.t 13],.m 6 14]))⟩
def fn271 : AFunc := ⟨36, 5, [(10, none)],(.s [.o 10 (.mov .z)] (.s [.m 12 0,.m 13 1,.m 14 2,.m 15 4,.c 16 287 [.t 12,.t 13,.t 14,.t 15],.m 11 16,.e 17 11 0,.e 18 11 1,.m 1 17,.m 2 18] (.s [.m 20 0,.m 21 2,.m 22 3,.m 23 4,.c 24 287 [.t 20,.t 21,.t 22,.t 23],.m 19 24,.e 25 19 0,.e 26 19 1,.m 2 25,.m 3 26] (.s [.m 28 0,.m 29 1,.m 30 2,.m 31 4,.c 32 287 [.t 28,.t 29,.t 30,.t 31],.m 27 32,.e 33 27 0,.e 34 27 1,.m 1 33,.m 2 34] (.r [.m 35 2,.m 10 35])))))⟩
def fn274 : AFunc := ⟨22, 2, [(4, none)],(.s [.o 4 (.mov (.c .nilSlice))] (.s [.o 5 (.mov (.c .nilSlice))] (.seq (.s [.m 8 0,.n 9 8,.o 10 (.mov .z)] (.block 0 (.loop (.s [.u 11 .lss 10 9] (.seq (.i 11 .skip (.exit 0)) (.seq (.block 1 (.s [.h 12 1 8 10,.l 13 12,.m 7 13] (.ops [.m 14 5,.m 15 1,.m 16 7,.o 17 (.call (.t 15) [.t 16]),.o 18 (.bslice 1 1 [.int .i64 0] [(0, .t 17)]),.o 19 (.app 1 8 (.t 14) (.t 18)),.m 5 19]))) (.ops [.v 20 .add 10 .w,.m 10 20]))))))) (.r [.m 21 5,.m 4 21]))))⟩
def fn280 : AFunc := ⟨8, 2, [(4, none)],(.s [.o 4 (.mov .z)] (.r [.m 5 0,.m 6 1,.c 7 292 [.t 5,.t 6],.m 4 7]))⟩
def fn287 : AFunc := ⟨28, 4, [(8, none), (9, none)],(.s [.o 8 (.mov .z),.o 9 (.mov .z)] (.seq (.s [.w 10 0,.w 11 2,.y 12 (.iadr 1 (.t 10) (.t 11)),.j 13 12,.w 14 0,.w 15 1,.y 16 (.iadr 1 (.t 14) (.t 15)),.j 17 16,.c 18 242 [.t 13,.t 17]] (.i 18 (.s [.m 19 3,.o 20 (.nilchk (.t 19)),.l 21 20,.v 22 .add 21 .w,.o 23 (.nilchk (.t 19)),.s 1 23 22] (.r [.m 24 2,.m 25 1,.m 8 24,.m 9 25])) .skip)) (.r [.m 26 1,.m 27 2,.m 8 26,.m 9 27])))⟩
abbrev Cf (P : Program) (n : Nat) (A : AFunc) : Prop := compileFn P n = some A
/-- A program that has these functions at these numbers. -/
structure Tbl (P : Program) : Prop where
  mix : P.follows .mixedOrders = true
  c2 : Cf P 2 fn2
  c3 : Cf P 3 fn3
  c4 : Cf P 4 fn4
  c15 : Cf P 15 fn15
  c16 : Cf P 16 fn16
  c17 : Cf P 17 fn17
  c18 : Cf P 18 fn18
  c19 : Cf P 19 fn19
  c20 : Cf P 20 fn20
  c21 : Cf P 21 fn21
  c22 : Cf P 22 fn22
  c23 : Cf P 23 fn23
  c24 : Cf P 24 fn24
  c25 : Cf P 25 fn25
  c26 : Cf P 26 fn26
  c27 : Cf P 27 fn27
  c28 : Cf P 28 fn28
  c29 : Cf P 29 fn29
  c30 : Cf P 30 fn30
  c31 : Cf P 31 fn31
  c32 : Cf P 32 fn32
  c33 : Cf P 33 fn33
  c34 : Cf P 34 fn34
  c35 : Cf P 35 fn35
  c36 : Cf P 36 fn36
  c37 : Cf P 37 fn37
  c38 : Cf P 38 fn38
  c39 : Cf P 39 fn39
  c40 : Cf P 40 fn40
  c43 : Cf P 43 fn43
  c45 : Cf P 45 fn45
  c46 : Cf P 46 fn46
  c47 : Cf P 47 fn47
  c48 : Cf P 48 fn48
  c51 : Cf P 51 fn51
  c52 : Cf P 52 fn52
  c53 : Cf P 53 fn53
  c54 : Cf P 54 fn54
  c55 : Cf P 55 fn55
  c56 : Cf P 56 fn56
  c57 : Cf P 57 fn57
  c58 : Cf P 58 fn58
  c60 : Cf P 60 fn60
  c61 : Cf P 61 fn61
  c62 : Cf P 62 fn62
  c64 : Cf P 64 fn64
  c66 : Cf P 66 fn66
  c67 : Cf P 67 fn67
  c68 : Cf P 68 fn68
  c69 : Cf P 69 fn69
  c70 : Cf P 70 fn70
  c71 : Cf P 71 fn71
  c72 : Cf P 72 fn72
  c73 : Cf P 73 fn73
  c75 : Cf P 75 fn75
  c76 : Cf P 76 fn76
  c77 : Cf P 77 fn77
  c78 : Cf P 78 fn78
  c79 : Cf P 79 fn79
  c80 : Cf P 80 fn80
  c81 : Cf P 81 fn81
  c82 : Cf P 82 fn82
  c83 : Cf P 83 fn83
  c84 : Cf P 84 fn84
  c85 : Cf P 85 fn85
  c86 : Cf P 86 fn86
  c87 : Cf P 87 fn87
  c91 : Cf P 91 fn91
  c94 : Cf P 94 fn94
  c98 : Cf P 98 fn98
  c99 : Cf P 99 fn99
  c100 : Cf P 100 fn100
  c101 : Cf P 101 fn101
  c102 : Cf P 102 fn102
  c103 : Cf P 103 fn103
  c104 : Cf P 104 fn104
  c105 : Cf P 105 fn105
  c106 : Cf P 106 fn106
  c107 : Cf P 107 fn107
  c108 : Cf P 108 fn108
  c109 : Cf P 109 fn109
  c110 : Cf P 110 fn110
  c111 : Cf P 111 fn111
  c112 : Cf P 112 fn112
  c113 : Cf P 113 fn113
  c114 : Cf P 114 fn114
  c115 : Cf P 115 fn115
  c116 : Cf P 116 fn116
  c117 : Cf P 117 fn117
  c118 : Cf P 118 fn118
  c119 : Cf P 119 fn119
  c120 : Cf P 120 fn120
  c121 : Cf P 121 fn121
  c122 : Cf P 122 fn122
  c123 : Cf P 123 fn123
  c124 : Cf P 124 fn124
  c125 : Cf P 125 fn125
  c126 : Cf P 126 fn126
  c127 : Cf P 127 fn127
  c128 : Cf P 128 fn128
  c129 : Cf P 129 fn129
  c130 : Cf P 130 fn130
  c131 : Cf P 131 fn131
  c132 : Cf P 132 fn132
  c133 : Cf P 133 fn133
  c134 : Cf P 134 fn134
  c135 : Cf P 135 fn135
  c136 : Cf P 136 fn136
  c137 : Cf P 137 fn137
  c138 : Cf P 138 fn138
  c139 : Cf P 139 fn139
  c140 : Cf P 140 fn140
  c141 : Cf P 141 fn141
  c142 : Cf P 142 fn142
  c143 : Cf P 143 fn143
  c144 : Cf P 144 fn144
  c145 : Cf P 145 fn145
  c146 : Cf P 146 fn146
  c147 : Cf P 147 fn147
  c148 : Cf P 148 fn148
  c149 : Cf P 149 fn149
  c150 : Cf P 150 fn150
  c151 : Cf P 151 fn151
  c152 : Cf P 152 fn152
  c153 : Cf P 153 fn153
  c154 : Cf P 154 fn154
  c155 : Cf P 155 fn155
  c156 : Cf P 156 fn156
  c157 : Cf P 157 fn157
  c158 : Cf P 158 fn158
  c159 : Cf P 159 fn159
  c163 : Cf P 163 fn163
  c164 : Cf P 164 fn164
  c165 : Cf P 165 fn165
  c167 : Cf P 167 fn167
  c168 : Cf P 168 fn168
  c169 : Cf P 169 fn169
  c173 : Cf P 173 fn173
  c174 : Cf P 174 fn174
  c175 : Cf P 175 fn175
  c176 : Cf P 176 fn176
  c177 : Cf P 177 fn177
  c178 : Cf P 178 fn178
  c179 : Cf P 179 fn179
  c180 : Cf P 180 fn180
  c181 : Cf P 181 fn181
  c182 : Cf P 182 fn182
  c183 : Cf P 183 fn183
  c184 : Cf P 184 fn184
  c185 : Cf P 185 fn185
  c186 : Cf P 186 fn186
  c187 : Cf P 187 fn187
  c188 : Cf P 188 fn188
  c189 : Cf P 189 fn189
  c190 : Cf P 190 fn190
  c191 : Cf P 191 fn191
  c192 : Cf P 192 fn192
  c193 : Cf P 193 fn193
  c194 : Cf P 194 fn194
  c195 : Cf P 195 fn195
  c196 : Cf P 196 fn196
  c197 : Cf P 197 fn197
  c198 : Cf P 198 fn198
  c199 : Cf P 199 fn199
  c200 : Cf P 200 fn200
  c201 : Cf P 201 fn201
  c202 : Cf P 202 fn202
  c203 : Cf P 203 fn203
  c204 : Cf P 204 fn204
  c205 : Cf P 205 fn205
  c206 : Cf P 206 fn206
  c207 : Cf P 207 fn207
  c213 : Cf P 213 fn213
  c214 : Cf P 214 fn214
  c215 : Cf P 215 fn215
  c216 : Cf P 216 fn216
  c217 : Cf P 217 fn217
  c218 : Cf P 218 fn218
  c219 : Cf P 219 fn219
  c220 : Cf P 220 fn220
  c221 : Cf P 221 fn221
  c222 : Cf P 222 fn222
  c225 : Cf P 225 fn225
  c226 : Cf P 226 fn226
  c231 : Cf P 231 fn231
  c232 : Cf P 232 fn232
  c235 : Cf P 235 fn235
  c236 : Cf P 236 fn236
  c237 : Cf P 237 fn237
  c238 : Cf P 238 fn238
  c239 : Cf P 239 fn239
  c240 : Cf P 240 fn240
  c241 : Cf P 241 fn241
  c242 : Cf P 242 fn242
  c243 : Cf P 243 fn243
  c244 : Cf P 244 fn244
  c245 : Cf P 245 fn245
  c246 : Cf P 246 fn246
  c250 : Cf P 250 fn250
  c260 : Cf P 260 fn260
  c266 : Cf P 266 fn266
  c267 : Cf P 267 fn267
  c268 : Cf P 268 fn268
  c269 : Cf P 269 fn269
  c270 : Cf P 270 fn270
  c271 : Cf P 271 fn271
  c274 : Cf P 274 fn274
  c280 : Cf P 280 fn280
  c287 : Cf P 287 fn287
end Go.Abs
