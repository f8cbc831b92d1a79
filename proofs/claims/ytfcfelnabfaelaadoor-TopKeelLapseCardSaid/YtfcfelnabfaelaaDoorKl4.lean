/- The abstract layer, part Y: what must hold ahead of a piece of code, by its form; rules for loops, calls, functions. No condition. · The abstract layer, part Z: slices as lists of rows of cells; what operations do on them. No condition. · The abstract layer, part RA: one equation for each operation, in the form in which it is used as a rule. No condition. · The abstract layer, part RB: the rules in one bundle; choices by a test. No condition. · The abstract layer, part RC: loads and stores in a heap written out; strings ranged over; rows of integers. No condition. · The abstract layer, part RD: slices whose rows are made of the elements of a list; more rules. No condition. · The abstract layer, part RE: loads and stores where a place is known by its number alone; calls whose blocks are taken together. No condition. -/
import Derived.Test.YtfcfelnabfaelaaDoorKl3
set_option linter.all false
namespace Go.Abs

/-- One heap goes on another. -/
def Ext (h h' : AHeap) : Prop := ∃ g, h' = h ++ g

theorem Ext.refl (h : AHeap) : Ext h h := ⟨[], by simp⟩
theorem Ext.app {h k} (g : AHeap) (e : Ext h k) : Ext h (k ++ g) := by
  obtain ⟨x, rfl⟩ := e; exact ⟨x ++ g, by simp⟩
theorem Ext.trans {a b c} (h : Ext a b) (k : Ext b c) : Ext a c := by
  obtain ⟨x, rfl⟩ := h; obtain ⟨y, rfl⟩ := k; exact ⟨x ++ y, by simp⟩
theorem Ext.get {h k} (e : Ext h k) {b} (hb : b < h.length) : k[b]? = h[b]? := by
  obtain ⟨x, rfl⟩ := e; exact List.getElem?_append_left hb
theorem Ext.some {h k : AHeap} (e : Ext h k) {b : Nat} {x : ABlk} (hb : h[b]? = some x) : k[b]? = some x := by
  rw [e.get (List.getElem?_eq_some_iff.1 hb).1]; exact hb
theorem Ext.len {h k} (e : Ext h k) : h.length ≤ k.length := by
  obtain ⟨x, rfl⟩ := e; simp

def CallQ (P : Program) (q : Bool) (fv : AV) (args : List AV) (h : AHeap) (K : AV → AHeap → Prop) : Prop :=
  ∃ v h', SCallV P fv args h v h' ∧ (q = true → Ext h h') ∧ K v h'

def Eff.quiet : Eff → Bool
  | .keep => true
  | .push _ => true
  | _ => false

theorem Eff.quiet_ext {e : Eff} {h : AHeap} (he : e.quiet = true) : Ext h (e.app h) := by
  cases e with
  | keep => exact Ext.refl h
  | push k => exact ⟨[k], rfl⟩
  | set b k => cases he
  | setPush b k k' => cases he

def WK (P : Program) (q : Bool) (k : OpK) (ρ : Opd → AV) (h : AHeap) (K : AV → AHeap → Prop) : Prop :=
  match k with
  | .call f args => CallQ P q (ρ f) (args.map ρ) h K
  | k =>
    match stepT k ρ (fun b => h[b]?) h.length with
    | some (v, e) => (q = true → e.quiet = true) ∧ K v (e.app h)
    | none => False

def inK (d : Option Nat) (k : OpK) (n : Nat) (X : Prop) : Prop :=
  match k, d with
  | .boxn _ _, some d => d < n ∧ X
  | _, _ => X
theorem inK_iff {d} {k} {n} {X : Prop} : inK d k n X ↔ inR d k n ∧ X := by
  cases k <;> cases d <;> simp [inK, inR]
def WS (P : Program) (o : IOp) (ts : TS) (h : AHeap) (K : AV → AHeap → Prop) : Prop :=
  match o.gd with
  | none => inK o.dst o.k ts.length (WK P o.q o.k (val ts) h K)
  | some (t, b) =>
    match val ts (.t t) with
    | .bool c => if c = b then inK o.dst o.k ts.length (WK P o.q o.k (val ts) h K) else K undefA h
    | _ => K undefA h

def WO (P : Program) : List IOp → TS → AHeap → (TS → AHeap → Prop) → Prop
  | [], ts, h, Q => Q ts h
  | o :: r, ts, h, Q => WS P o ts h (fun v h1 => WO P r (put ts o.dst v) h1 Q)

theorem WK.sound {P : Program} {q : Bool} {k : OpK} {ρ : Opd → AV} {h : AHeap} {K : AV → AHeap → Prop} (H : WK P q k ρ h K) : ∃ v h', OpStep P k ρ h v h' ∧ (q = true → Ext h h') ∧ K v h' := by
  by_cases hc : ∃ f args, k = .call f args
  · obtain ⟨f, args, rfl⟩ := hc
    exact H
  · have H' : (match stepT k ρ (fun b => h[b]?) h.length with
      | some (v, e) => (q = true → e.quiet = true) ∧ K v (e.app h)
      | none => False) := by
      cases k <;> first | exact H | exact absurd ⟨_, _, rfl⟩ hc
    split at H'
    case h_2 => exact H'.elim
    rename_i v e he
    refine ⟨v, e.app h, ?_, fun hq => Eff.quiet_ext (H'.1 hq), H'.2⟩
    have := stepT_ok he
    cases k <;> first | exact this | exact absurd ⟨_, _, rfl⟩ hc

theorem WS.sound {P} {o} {ts} {h} {K} (H : WS P o ts h K) : ∃ v h', IStep P o ts h (put ts o.dst v) h' ∧ (o.q = true → ∃ g, h' = h ++ g) ∧ K v h' := by
  have run : wanted o.gd ts → inK o.dst o.k ts.length (WK P o.q o.k (val ts) h K) → ∃ v h', IStep P o ts h (put ts o.dst v) h' ∧ (o.q = true → ∃ g, h' = h ++ g) ∧ K v h' := fun hw hk => by
    obtain ⟨hb, hk⟩ := inK_iff.1 hk
    obtain ⟨v, h', h1, h2, h3⟩ := hk.sound
    exact ⟨v, h', .run hw hb h1, h2, h3⟩
  have skip : ¬ wanted o.gd ts → K undefA h → ∃ v h', IStep P o ts h (put ts o.dst v) h' ∧ (o.q = true → ∃ g, h' = h ++ g) ∧ K v h' := fun hw hk =>
    ⟨undefA, h, .skip hw, fun _ => Ext.refl h, hk⟩
  unfold WS at H
  split at H
  · rename_i hg
    exact run (by rw [hg]; trivial) H
  · rename_i t b hg
    split at H
    · rename_i c hv
      have hx : ts[t]? = some (.bool c) := by
        simp only [val, List.getD] at hv
        cases hy : ts[t]? with
        | none => rw [hy] at hv; cases hv
        | some z => rw [hy] at hv; simp only [Option.getD_some] at hv; rw [hv]
      split at H
      · rename_i hcb
        subst hcb
        exact run (by rw [hg]; exact hx) H
      · rename_i hcb
        refine skip (fun hw => hcb ?_) H
        rw [hg] at hw
        simp only [wanted, hx, Option.some.injEq, AV.bool.injEq] at hw
        exact hw
    · rename_i hv
      refine skip (fun hw => ?_) H
      rw [hg] at hw
      simp only [wanted] at hw
      exact hv b (by simp [val, List.getD, hw])

theorem WO.sound {P} : ∀ {l} {ts} {h} {Q}, WO P l ts h Q → ∃ ts' h', IOps P l ts h ts' h' ∧ Q ts' h'
  | [], ts, h, Q, H => ⟨ts, h, ⟨rfl, rfl⟩, H⟩
  | o :: r, ts, h, Q, H => by
    obtain ⟨v, h1, h2, h3, h4⟩ := WS.sound H
    obtain ⟨ts', h', h5, h6⟩ := WO.sound (l := r) h4
    exact ⟨ts', h', ⟨_, h1, h2, h3, h5⟩, h6⟩

/-- A region whose loads look where no one writes: until nothing is loaded any more, in all its heaps holds S. -/
def WM (P : Program) (S : AHeap → Prop) : List IOp → TS → AHeap → (TS → AHeap → Prop) → Prop
  | [], ts, h, K => S h ∧ K ts h
  | o :: r, ts, h, K => S h ∧ ((lateAll (o :: r) = true ∧ WO P (o :: r) ts h K) ∨ (lateAll (o :: r) = false ∧
      ((ldQ o = true ∧ ∃ v, (∀ g, S g → IStep P o ts g (put ts o.dst v) g) ∧ WM P S r (put ts o.dst v) h K) ∨ (ldQ o = false ∧ WS P o ts h (fun v h1 => WM P S r (put ts o.dst v) h1 K)))))
theorem WM.sound {P} {S} : ∀ {l} {ts} {h} {K}, WM P S l ts h K → ∃ T H, Row P l T H ∧ T 0 = ts ∧ H 0 = h ∧ (∀ (i : Nat) (io : IOp), l[i]? = some io → ldQ io = true → ∀ g, S g → IStep P io (T i) g (T (i + 1)) g) ∧ (∀ θ, θ ≤ lateAt l → S (H θ)) ∧ K (T l.length) (H l.length)
  | [], ts, h, K, H => ⟨fun _ => ts, fun _ => h, ⟨fun i o ho => by simp at ho⟩, rfl, rfl, fun i io ho => by simp at ho, fun _ _ => H.1, H.2⟩
  | o :: r, ts, h, K, H => by
    obtain ⟨h0, H⟩ := H
    rcases H with ⟨hall, H⟩ | ⟨hall, H⟩
    · obtain ⟨ts', h', h1, h2⟩ := WO.sound H
      obtain ⟨T, G, rfl, rfl, rfl, rfl, r5⟩ := h1.row
      refine ⟨T, G, r5, rfl, rfl, fun i io hio hld => ?_, fun θ hθ => ?_, h2⟩
      · have := List.all_eq_true.1 (Bool.and_eq_true_iff.1 hall).1 io (List.mem_of_getElem? hio)
        unfold ldQ at hld
        unfold lateK at this
        cases hk : io.k <;> rw [hk] at hld this <;> simp [pureK] at hld this
      · rw [lateAt, if_pos hall] at hθ
        have : θ = 0 := by omega
        subst this; exact h0
    have key : ∃ v h1, IStep P o ts h (put ts o.dst v) h1 ∧ (o.q = true → ∃ g, h1 = h ++ g) ∧ (ldQ o = true → ∀ g, S g → IStep P o ts g (put ts o.dst v) g) ∧ WM P S r (put ts o.dst v) h1 K := by
      rcases H with ⟨hl, v, h1, h2⟩ | ⟨hl, H⟩
      · exact ⟨v, h, h1 h h0, fun _ => ⟨[], by simp⟩, fun _ => h1, h2⟩
      · obtain ⟨v, h1, h2, h3, h4⟩ := WS.sound H
        refine ⟨v, h1, h2, h3, fun z => ?_, h4⟩
        rw [hl] at z; cases z
    obtain ⟨v, h1, k1, k2, k3, k4⟩ := key
    obtain ⟨T, G, r1, r2, r3, r4, r5, r6⟩ := WM.sound (l := r) k4
    let T' : Nat → TS := fun n => match n with | 0 => ts | n + 1 => T n
    let G' : Nat → AHeap := fun n => match n with | 0 => h | n + 1 => G n
    refine ⟨T', G', ⟨fun i o' ho => ?_⟩, rfl, rfl, fun i io hio hld g hg => ?_, fun θ hθ => ?_, r6⟩
    · cases i with
      | zero =>
        simp only [List.getElem?_cons_zero, Option.some.injEq] at ho
        subst ho
        show IStep P o ts h (T 0) (G 0) ∧ (o.q = true → ∃ g, G 0 = h ++ g)
        rw [r2, r3]; exact ⟨k1, k2⟩
      | succ i => exact r1.step i o' (by simpa using ho)
    · cases i with
      | zero =>
        simp only [List.getElem?_cons_zero, Option.some.injEq] at hio
        subst hio
        show IStep P o ts g (T 0) g
        rw [r2]; exact k3 hld g hg
      | succ i => exact r4 i io (by simpa using hio) hld g hg
    · cases θ with
      | zero => exact h0
      | succ θ =>
        rw [lateAt, if_neg (by rw [hall]; decide)] at hθ
        exact r5 θ (by omega)

def W (P : Program) (ro : Option Nat → Prop) : ICode → TS → AHeap → (Ex → TS → AHeap → Prop) → Prop
  | .skip, ts, h, Q => Q .normal ts h
  | .ops l, ts, h, Q => WO P l ts h (Q .normal)
  | .opsS l, ts, h, Q => WOS h l ts [] fun ts' cs => accOk cs ∧ Q .normal ts' (accApp h cs)
  | .opsM l, ts, h, Q => ∃ S, WM P S l ts h (Q .normal)
  | .seq a b, ts, h, Q => W P ro a ts h fun e ts1 h1 =>
    match e with
    | .normal => W P ro b ts1 h1 Q
    | .exit id => Q (.exit id) ts1 h1
    | .ret => Q .ret ts1 h1
  | .cond c a b, ts, h, Q =>
    match val ts c with
    | .bool t => (t = true → W P ro a ts h Q) ∧ (t = false → W P ro b ts h Q)
    | _ => False
  | .block id a, ts, h, Q => W P ro a ts h fun e => Q (e.inBlock id)
  | .loop a, ts, h, Q => ∃ e ts' h', (∀ r, ro r → LoopR P r a ts h e ts' h') ∧ Q e ts' h'
  | .exit id, ts, h, Q => Q (.exit id) ts h
  | .ret, ts, h, Q => Q .ret ts h
  | .rangeF g ps asg body, ts, h, Q => ∃ e ts' h', (∀ r, ro r → Ev P r (.rangeF g ps asg body) ts h e ts' h') ∧ Q e ts' h'
  | .bad, _, _, _ => False

/-- Within a function itself; within a round of a loop over a function. -/
def inFn : Option Nat → Prop := fun r => r = none
def inRd : Option Nat → Prop := fun r => ∃ l, r = some l

theorem W.sound {P} (hmix : P.follows .mixedOrders = true) {ro} : ∀ {c} {ts} {h} {Q}, W P ro c ts h Q → ∃ e ts' h', (∀ r, ro r → Ev P r c ts h e ts' h') ∧ Q e ts' h'
  | .skip, ts, h, Q, H => ⟨.normal, ts, h, fun _ _ => .skip, H⟩
  | .ops l, ts, h, Q, H => by
    obtain ⟨ts', h', h1, h2⟩ := WO.sound (l := l) H
    exact ⟨.normal, ts', h', fun _ _ => .ops hmix h1, h2⟩
  | .opsS l, ts, h, Q, H => by
    obtain ⟨cs2, cs3, ts', h1, ⟨h2, h3⟩, h4, h5⟩ := WOS.sound (l := l) H
    rw [List.nil_append] at h2 h3
    exact ⟨.normal, ts', accApp h cs2, fun _ _ => .opsS hmix h1 (by simpa using h4 [] [] (by simpa using h2)), by rw [h5]; exact h3⟩
  | .opsM l, ts, h, Q, H => by
    obtain ⟨S, H⟩ := H
    obtain ⟨T, G, r1, rfl, rfl, r4, r5, r6⟩ := WM.sound (l := l) H
    exact ⟨.normal, _, _, fun _ _ => .opsM hmix r1 fun i io hio hld θ hθ => r4 i io hio hld _ (r5 θ hθ), r6⟩
  | .seq a b, ts, h, Q, H => by
    obtain ⟨e, ts1, h1, h2, h3⟩ := W.sound hmix (c := a) H
    cases e with
    | normal =>
      obtain ⟨e, ts', h', h4, h5⟩ := W.sound hmix (c := b) h3
      exact ⟨e, ts', h', fun r hr => .seq (h2 r hr) (h4 r hr), h5⟩
    | exit id => exact ⟨_, ts1, h1, fun r hr => .seq_jump (h2 r hr) (by simp), h3⟩
    | ret => exact ⟨_, ts1, h1, fun r hr => .seq_jump (h2 r hr) (by simp), h3⟩
  | .cond c a b, ts, h, Q, H => by
    unfold W at H
    split at H
    case h_2 => exact H.elim
    rename_i t hv
    cases t with
    | true =>
      obtain ⟨e, ts', h', h4, h5⟩ := W.sound hmix (c := a) (H.1 rfl)
      exact ⟨e, ts', h', fun r hr => .cond hv (h4 r hr), h5⟩
    | false =>
      obtain ⟨e, ts', h', h4, h5⟩ := W.sound hmix (c := b) (H.2 rfl)
      exact ⟨e, ts', h', fun r hr => .cond hv (h4 r hr), h5⟩
  | .block id a, ts, h, Q, H => by
    obtain ⟨e, ts', h', h4, h5⟩ := W.sound hmix (c := a) H
    exact ⟨_, ts', h', fun r hr => .block (h4 r hr), h5⟩
  | .loop a, ts, h, Q, H => by
    obtain ⟨e, ts', h', h4, h5⟩ := H
    exact ⟨e, ts', h', fun r hr => .loop (h4 r hr), h5⟩
  | .exit id, ts, h, Q, H => ⟨_, ts, h, fun _ _ => .exit, H⟩
  | .ret, ts, h, Q, H => ⟨_, ts, h, fun _ _ => .ret, H⟩
  | .rangeF g ps asg body, ts, h, Q, H => H
  | .bad, ts, h, Q, H => H.elim

/-- What is still to be done. -/
inductive Kt where
  | seqK (b : ICode)
  | blockK (id : Nat)

def kq (P : Program) (ro : Option Nat → Prop) : List Kt → (Ex → TS → AHeap → Prop) → Ex → TS → AHeap → Prop
  | [], Q, e, ts, h => Q e ts h
  | .seqK b :: ks, Q, e, ts, h =>
    match e with
    | .normal => W P ro b ts h (kq P ro ks Q)
    | .exit id => kq P ro ks Q (.exit id) ts h
    | .ret => kq P ro ks Q .ret ts h
  | .blockK id :: ks, Q, e, ts, h => kq P ro ks Q (e.inBlock id) ts h

section
variable (P : Program) (ro : Option Nat → Prop)

/-- Code, and what is to be done behind it. -/
def WC (c : ICode) (ks : List Kt) (ts : TS) (h : AHeap) (Q : Ex → TS → AHeap → Prop) : Prop := W P ro c ts h (kq P ro ks Q)
def WE (e : Ex) (ks : List Kt) (ts : TS) (h : AHeap) (Q : Ex → TS → AHeap → Prop) : Prop := kq P ro ks Q e ts h
def WP (l : List IOp) (ks : List Kt) (ts : TS) (h : AHeap) (Q : Ex → TS → AHeap → Prop) : Prop := WO P l ts h (kq P ro ks Q .normal)
def WG (g : AV) (b : Bool) (q : Bool) (k : OpK) (dst : Option Nat) (l : List IOp) (ks : List Kt) (ts : TS) (h : AHeap) (Q : Ex → TS → AHeap → Prop) : Prop :=
  match g with
  | .bool c => if c = b then inK dst k ts.length (WK P q k (val ts) h (fun v h1 => WP P ro l ks (put ts dst v) h1 Q)) else WP P ro l ks (put ts dst undefA) h Q
  | _ => WP P ro l ks (put ts dst undefA) h Q
/-- What an operation came to. -/
def WR (r : Option (AV × Eff)) (q : Bool) (dst : Option Nat) (l : List IOp) (ks : List Kt) (ts : TS) (h : AHeap) (Q : Ex → TS → AHeap → Prop) : Prop :=
  match r with
  | some (v, e) => (q = true → e.quiet = true) ∧ WP P ro l ks (put ts dst v) (e.app h) Q
  | none => False
/-- A call. -/
def WF (q : Bool) (fv : AV) (args : List AV) (dst : Option Nat) (l : List IOp) (ks : List Kt) (ts : TS) (h : AHeap) (Q : Ex → TS → AHeap → Prop) : Prop :=
  CallQ P q fv args h (fun v h1 => WP P ro l ks (put ts dst v) h1 Q)
/-- A choice. -/
def WB (v : AV) (a b : ICode) (ks : List Kt) (ts : TS) (h : AHeap) (Q : Ex → TS → AHeap → Prop) : Prop :=
  match v with
  | .bool t => (t = true → WC P ro a ks ts h Q) ∧ (t = false → WC P ro b ks ts h Q)
  | _ => False
def WL (a : ICode) (ks : List Kt) (ts : TS) (h : AHeap) (Q : Ex → TS → AHeap → Prop) : Prop := WC P ro (.loop a) ks ts h Q
def WRg (g : AV) (ps : List Nat) (asg body : ICode) (ks : List Kt) (ts : TS) (h : AHeap) (Q : Ex → TS → AHeap → Prop) : Prop :=
  ∃ e ts' h', (∀ r, ro r → ∀ g', val ts g' = g → Ev P r (.rangeF g' ps asg body) ts h e ts' h') ∧ WE P ro e ks ts' h' Q
end

/-- The post of a round. -/
def LQ (I : Nat → TS → AHeap → Prop) (n : Nat) (R : Ex → TS → AHeap → Prop) : Ex → TS → AHeap → Prop
  | .normal, ts, h => ∃ m, m < n ∧ I m ts h
  | .exit id, ts, h => R (.exit id) ts h
  | .ret, ts, h => R .ret ts h

/-- The post of a function. -/
def FQ (rs : List (Nat × Option (Option Nat))) (R : AV → AHeap → Prop) : Ex → TS → AHeap → Prop := fun e ts h => e.leaves = true ∧ ∃ v, resAll rs ts h = some v ∧ R v h
def FRes (r : Option AV) (h : AHeap) (R : AV → AHeap → Prop) : Prop :=
  match r with
  | some v => R v h
  | none => False

section
variable {P : Program} {ro : Option Nat → Prop} {ks : List Kt} {ts : TS} {h : AHeap} {Q : Ex → TS → AHeap → Prop}

theorem WC_skip : WC P ro .skip ks ts h Q = WE P ro .normal ks ts h Q := rfl
theorem WC_ops {l} : WC P ro (.ops l) ks ts h Q = WP P ro l ks ts h Q := rfl
theorem WC_seq {a b} : WC P ro (.seq a b) ks ts h Q = WC P ro a (.seqK b :: ks) ts h Q := by
  unfold WC
  simp only [W]
  congr 1
theorem WC_cond {c} {a b} : WC P ro (.cond c a b) ks ts h Q = WB P ro (val ts c) a b ks ts h Q := rfl
theorem WC_block {id} {a} : WC P ro (.block id a) ks ts h Q = WC P ro a (.blockK id :: ks) ts h Q := rfl
theorem WC_loop {a} : WC P ro (.loop a) ks ts h Q = WL P ro a ks ts h Q := rfl
theorem WC_exit {id} : WC P ro (.exit id) ks ts h Q = WE P ro (.exit id) ks ts h Q := rfl
theorem WC_ret : WC P ro .ret ks ts h Q = WE P ro .ret ks ts h Q := rfl
theorem WE_seqN {b} : WE P ro .normal (.seqK b :: ks) ts h Q = WC P ro b ks ts h Q := rfl
theorem WE_seqX {b} {id} : WE P ro (.exit id) (.seqK b :: ks) ts h Q = WE P ro (.exit id) ks ts h Q := rfl
theorem WE_seqR {b} : WE P ro .ret (.seqK b :: ks) ts h Q = WE P ro .ret ks ts h Q := rfl
theorem WE_blockN {id} : WE P ro .normal (.blockK id :: ks) ts h Q = WE P ro .normal ks ts h Q := rfl
theorem WE_blockX {id id'} : WE P ro (.exit id') (.blockK id :: ks) ts h Q = if id' = id then WE P ro .normal ks ts h Q else WE P ro (.exit id') ks ts h Q := by
  unfold WE
  simp only [kq, Ex.inBlock]
  split <;> rfl
theorem WE_blockR {id} : WE P ro .ret (.blockK id :: ks) ts h Q = WE P ro .ret ks ts h Q := rfl
theorem WE_nil {e} : WE P ro e [] ts h Q = Q e ts h := rfl
theorem WP_nil : WP P ro [] ks ts h Q = WE P ro .normal ks ts h Q := rfl
theorem WP_op {d} {k} {q} {l} (hk : ∀ f args, k ≠ .call f args) (hb : ∀ n x, k ≠ .boxn n x) : WP P ro ({ dst := d, k := k, gd := none, q := q } :: l) ks ts h Q = WR P ro (stepT k (val ts) (fun b => h[b]?) h.length) q d l ks ts h Q := by
  cases k <;> first | exact absurd rfl (hk _ _) | exact absurd rfl (hb _ _) | rfl
theorem WP_call {d} {f} {args} {q} {l} : WP P ro ({ dst := d, k := .call f args, gd := none, q := q } :: l) ks ts h Q = WF P ro q (val ts f) (args.map (val ts)) d l ks ts h Q := rfl
theorem WP_gd {d} {k} {t} {b q} {l} : WP P ro ({ dst := d, k := k, gd := some (t, b), q := q } :: l) ks ts h Q = WG P ro (val ts (.t t)) b q k d l ks ts h Q := rfl
theorem WG_no {d} {k} {b q} {l} (c : Bool) (hc : c ≠ b) : WG P ro (.bool c) b q k d l ks ts h Q = WP P ro l ks (put ts d undefA) h Q := by
  simp only [WG, if_neg hc]
theorem WG_yes {d} {k} {b q} {l} : WG P ro (.bool b) b q k d l ks ts h Q = WP P ro ({ dst := d, k := k, gd := none, q := q } :: l) ks ts h Q := by
  simp only [WG, if_pos]
  rfl
theorem WR_keep {v} {q} {d} {l} : WR P ro (some (v, .keep)) q d l ks ts h Q = WP P ro l ks (put ts d v) h Q := by
  simp only [WR, Eff.quiet, Eff.app, implies_true, true_and]
theorem WR_push {v} {k} {q} {d} {l} : WR P ro (some (v, .push k)) q d l ks ts h Q = WP P ro l ks (put ts d v) (h ++ [k]) Q := by
  simp only [WR, Eff.quiet, Eff.app, implies_true, true_and]
theorem WR_set {v} {b} {k} {d} {l} : WR P ro (some (v, .set b k)) false d l ks ts h Q = WP P ro l ks (put ts d v) (h.set b k) Q := by
  simp only [WR, Eff.app, Bool.false_eq_true, false_implies, true_and]
theorem WR_setPush {v} {b} {k k'} {d} {l} : WR P ro (some (v, .setPush b k k')) false d l ks ts h Q = WP P ro l ks (put ts d v) (h.set b k ++ [k']) Q := by
  simp only [WR, Eff.app, Bool.false_eq_true, false_implies, true_and]
theorem WB_true {a b} : WB P ro (.bool true) a b ks ts h Q = WC P ro a ks ts h Q := by simp [WB]
theorem WB_false {a b} : WB P ro (.bool false) a b ks ts h Q = WC P ro b ks ts h Q := by simp [WB]
theorem LQ_N {I} {n} {R} : LQ I n R .normal ts h = ∃ m, m < n ∧ I m ts h := rfl
theorem LQ_X {I} {n} {R} {id} : LQ I n R (.exit id) ts h = R (.exit id) ts h := rfl
theorem LQ_R {I} {n} {R} : LQ I n R .ret ts h = R .ret ts h := rfl
theorem FQ_N {rs} {R} : FQ rs R .normal ts h = FRes (resAll rs ts h) h R := by
  simp only [FQ, FRes, Ex.leaves, true_and]
  cases resAll rs ts h <;> simp
theorem FQ_R {rs} {R} : FQ rs R .ret ts h = FRes (resAll rs ts h) h R := by
  simp only [FQ, FRes, Ex.leaves, true_and]
  cases resAll rs ts h <;> simp
theorem FR_some {v} {R} : FRes (some v) h R = R v h := rfl

/-- A LOOP, by what holds at its head. -/
theorem WL.inv (hmix : P.follows .mixedOrders = true) {a} (I : Nat → TS → AHeap → Prop) (n : Nat) (h0 : I n ts h)
    (step : ∀ (n : Nat) (ts : TS) (h : AHeap), I n ts h → WC P ro a [] ts h (LQ I n (fun e ts h => WE P ro e ks ts h Q))) : WL P ro a ks ts h Q := by
  have key : ∀ (k n : Nat) (ts : TS) (h : AHeap), n ≤ k → I n ts h → ∃ e ts' h', (∀ r, ro r → LoopR P r a ts h e ts' h') ∧ kq P ro ks Q e ts' h' := by
    intro k
    induction k with
    | zero =>
      intro n ts h hn hi
      obtain ⟨e, ts', h', h1, h2⟩ := W.sound hmix (step n ts h hi)
      cases e with
      | normal => obtain ⟨m, hm, _⟩ := h2; omega
      | exit id => exact ⟨_, ts', h', fun r hr => .out (h1 r hr) (by simp), h2⟩
      | ret => exact ⟨_, ts', h', fun r hr => .out (h1 r hr) (by simp), h2⟩
    | succ k ih =>
      intro n ts h hn hi
      obtain ⟨e, ts', h', h1, h2⟩ := W.sound hmix (step n ts h hi)
      cases e with
      | normal =>
        obtain ⟨m, hm, hi'⟩ := h2
        obtain ⟨e2, ts2, h3, h4, h5⟩ := ih m ts' h' (by omega) hi'
        exact ⟨e2, ts2, h3, fun r hr => .more (h1 r hr) (h4 r hr), h5⟩
      | exit id => exact ⟨_, ts', h', fun r hr => .out (h1 r hr) (by simp), h2⟩
      | ret => exact ⟨_, ts', h', fun r hr => .out (h1 r hr) (by simp), h2⟩
  exact key n n ts h (Nat.le_refl _) h0

/-- What a call comes to: its heap goes on the old one. -/
def RCall (P : Program) (f : FuncId) (args : List AV) (h : AHeap) (R : AV → AHeap → Prop) : Prop := ∃ v g, SCall P f args h v (h ++ g) ∧ R v (h ++ g)
/-- What a call of a value comes to. -/
def VCall (P : Program) (fv : AV) (args : List AV) (h : AHeap) (R : AV → AHeap → Prop) : Prop := ∃ v g, SCallV P fv args h v (h ++ g) ∧ R v (h ++ g)
/-- The same without a word on the heap. -/
def GCall (P : Program) (f : FuncId) (args : List AV) (h : AHeap) (R : AV → AHeap → Prop) : Prop := ∃ v h', SCall P f args h v h' ∧ R v h'

theorem GCall.of (hmix : P.follows .mixedOrders = true) {f} {A} (hA : compileFn P f = some A) {args} {R}
    (H : WC P inFn A.body [] (startTS A.nt args) h (FQ A.rs R)) : GCall P f args h R := by
  obtain ⟨e, ts', h', h1, h2, v, h3, h4⟩ := W.sound hmix H
  exact ⟨v, h', .of_ev hA (h1 none rfl) h2 h3, h4⟩

theorem RCall.of (hmix : P.follows .mixedOrders = true) {f} {A} (hA : compileFn P f = some A) {args} {R}
    (H : WC P inFn A.body [] (startTS A.nt args) h (FQ A.rs (fun v h' => Ext h h' ∧ R v h'))) : RCall P f args h R := by
  obtain ⟨v, h', h1, ⟨g, rfl⟩, h3⟩ := GCall.of hmix hA H
  exact ⟨v, g, h1, h3⟩

theorem RCall.mono {f} {args} {R R'} (H : RCall P f args h R) (hr : ∀ v g, R v (h ++ g) → R' v (h ++ g)) : RCall P f args h R' := by
  obtain ⟨v, g, h1, h2⟩ := H; exact ⟨v, g, h1, hr v g h2⟩

theorem VCall.of {f} {A} (hA : compileFn P f = some A) {a c args} {R} (H : RCall P f (a ++ args ++ c) h R) : VCall P (.func (.func f) a c) args h R := by
  obtain ⟨v, g, h1, h2⟩ := H
  exact ⟨v, g, .of_call hA h1, h2⟩

/-- A call in its place. -/
theorem WF.val {q} {fv} {args} {d} {l} {R} (H : VCall P fv args h R) (K : ∀ v g, R v (h ++ g) → WP P ro l ks (put ts d v) (h ++ g) Q) : WF P ro q fv args d l ks ts h Q := by
  obtain ⟨v, g, h1, h2⟩ := H
  exact ⟨v, h ++ g, h1, fun _ => ⟨g, rfl⟩, K v g h2⟩
theorem WF.res {q} {f} {A} (hA : compileFn P f = some A) {a c args} {d} {l} {R} (H : RCall P f (a ++ args ++ c) h R) (K : ∀ v g, R v (h ++ g) → WP P ro l ks (put ts d v) (h ++ g) Q) : WF P ro q (.func (.func f) a c) args d l ks ts h Q :=
  WF.val (VCall.of hA H) K
end
end Go.Abs
namespace Go.Abs

/-- A slice that holds rows of so many cells. -/
inductive IsSl (h : AHeap) : AV → Nat → List (List AV) → Prop
  | nil {es : Nat} : IsSl h .nilSlice es []
  | mk {b o es : Nat} {cs : List (List AV)} {c : List AV} {mu tl : Bool} (hb : h[b]? = some (.cells c mu tl)) (hf : (c.drop o).take (cs.length * es) = cs.flatten) (ho : o + cs.length * es ≤ c.length)
      (he : ∀ x ∈ cs, x.length = es) : IsSl h (.slice b o cs.length es) es cs

/-- A slice of a block of its own, that no one else writes. -/
inductive Fr (N : Nat) (h : AHeap) : AV → Nat → List (List AV) → Prop
  | nil {es : Nat} : Fr N h .nilSlice es []
  | mk {b es : Nat} {cs : List (List AV)} {tl : Bool} (hN : N ≤ b) (hb : h[b]? = some (.cells cs.flatten true tl)) (he : ∀ x ∈ cs, x.length = es) : Fr N h (.slice b 0 cs.length es) es cs

def AV.sb : AV → Nat
  | .slice b _ _ _ => b
  | _ => 0
def AV.so : AV → Nat
  | .slice _ o _ _ => o
  | _ => 0

theorem flatten_len {es : Nat} : ∀ {cs : List (List AV)}, (∀ x ∈ cs, x.length = es) → cs.flatten.length = cs.length * es
  | [], _ => by simp
  | x :: xs, he => by
    have h1 := he x (by simp)
    have h2 := flatten_len (cs := xs) (fun y hy => he y (List.mem_cons_of_mem _ hy))
    simp only [List.flatten_cons, List.length_append, List.length_cons, h1, h2, Nat.succ_mul]
    omega

theorem flatten_row {es : Nat} : ∀ {cs : List (List AV)}, (∀ x ∈ cs, x.length = es) → ∀ {i : Nat} (hi : i < cs.length), (cs.flatten.drop (i * es)).take es = cs[i]
  | [], _, i, hi => by simp at hi
  | x :: xs, he, 0, _ => by
    have h1 := he x (by simp)
    simp [← h1]
  | x :: xs, he, i + 1, hi => by
    have h1 := he x (by simp)
    have h2 := flatten_row (cs := xs) (fun y hy => he y (List.mem_cons_of_mem _ hy)) (i := i) (by simpa using hi)
    simp only [List.flatten_cons, List.getElem_cons_succ, ← h2]
    congr 1
    rw [Nat.succ_mul, Nat.add_comm, ← h1, List.drop_append]
    simp

theorem Fr.isSl {N : Nat} {h : AHeap} {s : AV} {es : Nat} {cs : List (List AV)} (hs : Fr N h s es cs) : IsSl h s es cs := by
  cases hs with
  | nil => exact .nil
  | mk hN hb he =>
    have hl := flatten_len he
    exact .mk hb (by rw [List.drop_zero, ← hl, List.take_length]) (by omega) he

section
variable {h k : AHeap} {s : AV} {es : Nat} {cs : List (List AV)}

theorem IsSl.keep (hs : IsSl h s es cs) (hk : ∀ b, b < h.length → (∀ b0 o n e, s = .slice b0 o n e → b = b0) → k[b]? = h[b]?) : IsSl k s es cs := by
  cases hs with
  | nil => exact .nil
  | mk hb hf ho he =>
    refine .mk ((hk _ (List.getElem?_eq_some_iff.1 hb).1 fun b0 o n e hx => ?_).trans hb) hf ho he
    cases hx; rfl

theorem IsSl.ext (hs : IsSl h s es cs) (e : Ext h k) : IsSl k s es cs := hs.keep fun _ hb _ => e.get hb
theorem IsSl.app (hs : IsSl h s es cs) (g : AHeap) : IsSl (h ++ g) s es cs := hs.ext ⟨g, rfl⟩

theorem Fr.keep {N} (hs : Fr N h s es cs) (hk : ∀ b, b < h.length → (∀ b0 o n e, s = .slice b0 o n e → b = b0) → k[b]? = h[b]?) : Fr N k s es cs := by
  cases hs with
  | nil => exact .nil
  | mk hN hb he =>
    refine .mk hN ((hk _ (List.getElem?_eq_some_iff.1 hb).1 fun b0 o n e hx => ?_).trans hb) he
    cases hx; rfl
theorem Fr.ext {N} (hs : Fr N h s es cs) (e : Ext h k) : Fr N k s es cs := hs.keep fun _ hb _ => e.get hb
theorem Fr.app {N} (hs : Fr N h s es cs) (g : AHeap) : Fr N (h ++ g) s es cs := hs.ext ⟨g, rfl⟩
theorem Fr.low {N M} (hs : Fr N h s es cs) (hM : M ≤ N) : Fr M h s es cs := by
  cases hs with
  | nil => exact .nil
  | mk hN hb he => exact .mk (by omega) hb he

theorem IsSl.rows (hs : IsSl h s es cs) : ∀ x ∈ cs, x.length = es := by
  cases hs with
  | nil => simp
  | mk hb hf ho he => exact he

theorem IsSl.lenG (hs : IsSl h s es cs) (G : Nat → Option ABlk) : lenG .sl G s = some cs.length := by
  cases hs <;> rfl
theorem IsSl.one (hs : IsSl h s es cs) : s.one = true := by
  cases hs <;> rfl
theorem IsSl.cells (hs : IsSl h s es cs) : s.cells = [s] := by
  cases hs <;> rfl
theorem IsSl.cellsG (hs : IsSl h s es cs) : cellsG es (fun b => h[b]?) s = some (cs.flatten, cs.length) := by
  cases hs with
  | nil => rfl
  | mk hb hf ho he => simp only [Go.Abs.cellsG, if_true, hb]; rw [if_pos ho, hf]

def iadrF (es : Nat) (x i : AV) : Option (AV × Eff) :=
  match x, i with
  | .slice b o n es', .int _ i => if es' = es ∧ 0 ≤ i ∧ i < n then some (.ptr b (o + i.toNat * es), .keep) else none
  | _, _ => none
def loadF (n : Option Nat) (a : AV) (G : Nat → Option ABlk) : Option (AV × Eff) :=
  match a with
  | .ptr b o =>
    match G b with
    | some (.cells c _ _) =>
      match n with
      | none =>
        match c[o]? with
        | some x => some (x, .keep)
        | none => none
      | some n => if o + n ≤ c.length then some (.agg ((c.drop o).take n), .keep) else none
    | _ => none
  | _ => none
def slF (es : Nat) (x : AV) (lo hi : Option AV) : Option (AV × Eff) :=
  match x with
  | .slice b o n es' =>
    if es' = es then
      match bnds lo hi n with
      | some (l, h') => some (.slice b (o + l * es) (h' - l) es, .keep)
      | none => none
    else none
  | .nilSlice =>
    match bnds lo hi 0 with
    | some _ => some (.nilSlice, .keep)
    | none => none
  | _ => none

theorem IsSl.iadr (hs : IsSl h s es cs) {i : Int} {k : IntKind} (h0 : 0 ≤ i) (h1 : i < cs.length) : iadrF es s (.int k i) = some (.ptr s.sb (s.so + i.toNat * es), .keep) := by
  cases hs with
  | nil => simp at h1; omega
  | mk hb hf ho he => show (if es = es ∧ 0 ≤ i ∧ i < cs.length then _ else none) = _; rw [if_pos ⟨rfl, h0, h1⟩]; rfl

theorem IsSl.load (hs : IsSl h s es cs) {i : Nat} (hi : i < cs.length) : loadF (some es) (.ptr s.sb (s.so + i * es)) (fun b => h[b]?) = some (.agg cs[i], .keep) := by
  cases hs with
  | nil => simp at hi
  | @mk b o es cs c mu tl hb hf ho he =>
    have hle : i * es + es ≤ cs.length * es := by rw [← Nat.succ_mul]; exact Nat.mul_le_mul_right _ hi
    have h1 := flatten_row he hi
    show loadF (some es) (.ptr b (o + i * es)) (fun b => h[b]?) = _
    simp only [loadF, hb]
    rw [if_pos (by omega), ← h1, ← hf, List.drop_take, List.take_take, List.drop_drop, Nat.min_eq_left (by omega)]

theorem IsSl.loadf (hs : IsSl h s es cs) {i off : Nat} (hi : i < cs.length) {x : AV} (hx : cs[i][off]? = some x) : loadF none (.ptr s.sb (s.so + i * es + off)) (fun b => h[b]?) = some (x, .keep) := by
  cases hs with
  | nil => simp at hi
  | @mk b o es cs c mu tl hb hf ho he =>
    have hle : i * es + es ≤ cs.length * es := by rw [← Nat.succ_mul]; exact Nat.mul_le_mul_right _ hi
    have h1 := flatten_row he hi
    have h2 := he _ (List.getElem_mem hi)
    have h3 := (List.getElem?_eq_some_iff.1 hx).1
    rw [← h1, ← hf, List.drop_take, List.take_take, List.drop_drop, Nat.min_eq_left (by omega), List.getElem?_take] at hx
    rw [if_pos (by omega), List.getElem?_drop] at hx
    show loadF none (.ptr b (o + i * es + off)) (fun b => h[b]?) = _
    simp only [loadF, hb, hx]

theorem IsSl.load1 (hs : IsSl h s 1 cs) {i} (hi : i < cs.length) {x} (hx : cs[i] = [x]) : loadF none (.ptr s.sb (s.so + i * 1)) (fun b => h[b]?) = some (x, .keep) :=
  hs.loadf (off := 0) hi (by rw [hx]; rfl)

theorem Fr.push {N} (hN : N ≤ h.length) (cs : List (List AV)) (he : ∀ x ∈ cs, x.length = es) : Fr N (h ++ [.cells cs.flatten true true]) (.slice h.length 0 cs.length es) es cs :=
  .mk (tl := true) hN (by simp) he

end
end Go.Abs
namespace Go.Abs

section
variable (P : Program) (ro : Option Nat → Prop)
/-- What an operation came to that leaves the heap. -/
def WV (r : Option AV) (dst : Option Nat) (l : List IOp) (ks : List Kt) (ts : TS) (h : AHeap) (Q : Ex → TS → AHeap → Prop) : Prop :=
  match r with
  | some v => WP P ro l ks (put ts dst v) h Q
  | none => False
end

def pickF (c a b : AV) : Option AV :=
  match c with
  | .bool t => some (if t then a else b)
  | _ => none
def boxnF (n : Nat) (x : AV) (N0 : Nat) : Option (AV × Eff) := if x.cells.all AV.one = true ∧ x.cells.length = n then some (.ptr N0 0, .push (.cells x.cells true false)) else none
def boxF (x : AV) (N0 : Nat) : Option (AV × Eff) := if x.cells.all AV.one then some (.ptr N0 0, .push (.cells x.cells true false)) else none
def storeF (n : Nat) (a x : AV) (G : Nat → Option ABlk) : Option (AV × Eff) :=
  match a with
  | .ptr b o =>
    match G b with
    | some (.cells c true tl) =>
      if x.cells.length = n ∧ x.cells.all AV.one = true ∧ o + n ≤ c.length then some (undefA, .set b (.cells (setL c o x.cells) true tl)) else none
    | _ => none
  | _ => none
def nilF (x : AV) : Option AV :=
  match x with
  | .ptr b o => some (.ptr b o)
  | .func (.func f) a c => some (.func (.func f) a c)
  | .func (.yield f) a c => some (.func (.yield f) a c)
  | .func (.methodOf t n) a c => some (.func (.methodOf t n) a c)
  | .func (.via t p f q) a c => some (.func (.via t p f q) a c)
  | _ => none
def mkslF (es w : Nat) (z : List AV) (l c : AV) (N0 : Nat) : Option (AV × Eff) :=
  match l, c with
  | .int _ l, .int _ c =>
    if 0 ≤ l ∧ l ≤ c ∧ (w : Int) * c ≤ 2 ^ 48 ∧ c < 2 ^ 63 then some (.slice N0 0 l.toNat es, .push (.cells (zrep l.toNat z) true true)) else none
  | _, _ => none
def slsF (x : AV) (lo hi : Option AV) : Option AV :=
  match x with
  | .str s =>
    match bnds lo hi s.length with
    | some (l, h') => some (.str ((s.drop l).take (h' - l)))
    | none => none
  | _ => none
def fadrF (off : Nat) (x : AV) : Option AV :=
  match x with
  | .ptr b o => some (.ptr b (o + off))
  | _ => none
def iadaF (len es : Nat) (x i : AV) : Option AV :=
  match x, i with
  | .ptr b o, .int _ i => if 0 ≤ i ∧ i < len then some (.ptr b (o + i.toNat * es)) else none
  | _, _ => none
def partF (n : Option Nat) (off : Nat) (x : AV) : Option AV :=
  match x with
  | .agg cs =>
    match n with
    | none => cs[off]?
    | some n => some (.agg ((cs.drop off).take n))
  | _ => none
def ixaF (len es : Nat) (n : Option Nat) (x i : AV) : Option AV :=
  match x, i with
  | .agg cs, .int _ i =>
    if 0 ≤ i ∧ i < len then
      match n with
      | none => cs[i.toNat * es]?
      | some n => some (.agg ((cs.drop (i.toNat * es)).take n))
    else none
  | _, _ => none
def ixsF (x i : AV) : Option AV :=
  match x, i with
  | .str s, .int _ i =>
    if 0 ≤ i then
      match s[i.toNat]? with
      | some b => some (.int .u8 b.toNat)
      | none => none
    else none
  | _, _ => none
def extF (x : AV) (i : Nat) : Option AV :=
  match x with
  | .tup l => l[i]?
  | _ => none
def lenF (o : Option Nat) : Option AV :=
  match o with
  | some n => some (.int .i64 n)
  | none => none
def eqvF (neg : Bool) (o : Option Bool) : Option AV :=
  match o with
  | some b => some (.bool (if neg then !b else b))
  | none => none
def buildF (o : Option (List AV)) : Option AV :=
  match o with
  | some c => some (.agg c)
  | none => none
def bslF (es n : Nat) (o : Option (List AV)) (N0 : Nat) : Option (AV × Eff) :=
  match o with
  | some c => if c.all AV.one = true ∧ c.length = n * es then some (.slice N0 0 n es, .push (.cells c true (!Nat.beq n 0))) else none
  | none => none

section
variable {P : Program} {ro : Option Nat → Prop} {ks : List Kt} {ts : TS} {h : AHeap} {Q : Ex → TS → AHeap → Prop} {d : Option Nat} {q : Bool} {l : List IOp}

theorem WR_of {r} {r'} (hr : r = r'.map fun v => (v, .keep)) : WR P ro r q d l ks ts h Q = WV P ro r' d l ks ts h Q := by
  subst hr
  cases r' with
  | none => rfl
  | some v => exact WR_keep

theorem WV_some {v} : WV P ro (some v) d l ks ts h Q = WP P ro l ks (put ts d v) h Q := rfl
theorem WP_mov {x} : WP P ro ({ dst := d, k := .mov x, gd := none, q := q } :: l) ks ts h Q = WP P ro l ks (put ts d (val ts x)) h Q := WR_keep
theorem WP_pick {c a b} : WP P ro ({ dst := d, k := .pick c a b, gd := none, q := q } :: l) ks ts h Q = WV P ro (pickF (val ts c) (val ts a) (val ts b)) d l ks ts h Q := by
  rw [WP_op (by simp) (by simp)]
  refine WR_of ?_
  simp only [stepT, fnT, pickF]
  cases val ts c <;> rfl
theorem WP_box {x} : WP P ro ({ dst := d, k := .box x, gd := none, q := q } :: l) ks ts h Q = WR P ro (boxF (val ts x) h.length) q d l ks ts h Q := rfl
theorem WP_boxn {n i} {x} : WP P ro ({ dst := some i, k := .boxn n x, gd := none, q := q } :: l) ks ts h Q = (i < ts.length ∧ WR P ro (boxnF n (val ts x) h.length) q (some i) l ks ts h Q) := rfl
theorem WP_build {z} {ps} : WP P ro ({ dst := d, k := .build z ps, gd := none, q := q } :: l) ks ts h Q = WV P ro (buildF (fillA z (ps.map fun p => (p.1, p.2.1, val ts p.2.2)))) d l ks ts h Q := by
  rw [WP_op (by simp) (by simp)]
  refine WR_of ?_
  simp only [stepT, fnT, buildF]
  cases fillA z (ps.map fun p => (p.1, p.2.1, val ts p.2.2)) <;> rfl
theorem WP_bslice {es n} {z} {ps} : WP P ro ({ dst := d, k := .bslice es n z ps, gd := none, q := q } :: l) ks ts h Q = WR P ro (bslF es n (fillA (zrep n z) (ps.map fun p => (p.1, es, val ts p.2))) h.length) q d l ks ts h Q := rfl
theorem WP_load {n} {a} : WP P ro ({ dst := d, k := .load n a, gd := none, q := q } :: l) ks ts h Q = WR P ro (loadF n (val ts a) (fun b => h[b]?)) q d l ks ts h Q := rfl
theorem WP_store {n} {a x} : WP P ro ({ dst := d, k := .store n a x, gd := none, q := q } :: l) ks ts h Q = WR P ro (storeF n (val ts a) (val ts x) (fun b => h[b]?)) q d l ks ts h Q := rfl
theorem WP_nilchk {x} : WP P ro ({ dst := d, k := .nilchk x, gd := none, q := q } :: l) ks ts h Q = WV P ro (nilF (val ts x)) d l ks ts h Q := by
  rw [WP_op (by simp) (by simp)]
  refine WR_of ?_
  simp only [stepT, fnT, nilF]
  cases val ts x with
  | func f a c => cases f <;> rfl
  | _ => rfl
theorem WP_bin {op} {x y} : WP P ro ({ dst := d, k := .bin op x y, gd := none, q := q } :: l) ks ts h Q = WV P ro (binK op (val ts x) (val ts y)) d l ks ts h Q := by
  rw [WP_op (by simp) (by simp)]
  refine WR_of ?_
  simp only [stepT, fnT]
  cases binK op (val ts x) (val ts y) <;> rfl
theorem WP_eqv {neg} {t} {x y} : WP P ro ({ dst := d, k := .eqv neg t x y, gd := none, q := q } :: l) ks ts h Q = WV P ro (eqvF neg (eqvK t (val ts x) (val ts y))) d l ks ts h Q := by
  rw [WP_op (by simp) (by simp)]
  refine WR_of ?_
  simp only [stepT, fnT, eqvF]
  cases eqvK t (val ts x) (val ts y) <;> rfl
theorem WP_un {op} {x} : WP P ro ({ dst := d, k := .un op x, gd := none, q := q } :: l) ks ts h Q = WV P ro (unK op (val ts x)) d l ks ts h Q := by
  rw [WP_op (by simp) (by simp)]
  refine WR_of ?_
  simp only [stepT, fnT]
  cases unK op (val ts x) <;> rfl
theorem WP_conv {k} {x} : WP P ro ({ dst := d, k := .conv k x, gd := none, q := q } :: l) ks ts h Q = WR P ro (convT k (val ts x) (fun b => h[b]?) h.length) q d l ks ts h Q := rfl
theorem WP_mkfn {f} {a c} : WP P ro ({ dst := d, k := .mkfn f a c, gd := none, q := q } :: l) ks ts h Q = WP P ro l ks (put ts d (.func f (a.map (val ts)) (c.map (val ts)))) h Q := WR_keep
theorem WP_mkmap : WP P ro ({ dst := d, k := .mkmap, gd := none, q := q } :: l) ks ts h Q = WP P ro l ks (put ts d (.map h.length)) (h ++ [.mapb []]) Q := WR_push
theorem WP_mksl {es w} {z} {a c} : WP P ro ({ dst := d, k := .mksl es w z a c, gd := none, q := q } :: l) ks ts h Q = WR P ro (mkslF es w z (val ts a) (val ts c) h.length) q d l ks ts h Q := rfl
theorem WP_sl {es} {x} {lo hi} : WP P ro ({ dst := d, k := .sl es x lo hi, gd := none, q := q } :: l) ks ts h Q = WR P ro (slF es (val ts x) (lo.map (val ts)) (hi.map (val ts))) q d l ks ts h Q := rfl
theorem WP_sls {x} {lo hi} : WP P ro ({ dst := d, k := .sls x lo hi, gd := none, q := q } :: l) ks ts h Q = WV P ro (slsF (val ts x) (lo.map (val ts)) (hi.map (val ts))) d l ks ts h Q := by
  rw [WP_op (by simp) (by simp)]
  refine WR_of ?_
  simp only [stepT, fnT, slsF]
  cases val ts x with
  | str s => simp only; cases bnds (Option.map (val ts) lo) (Option.map (val ts) hi) s.length <;> rfl
  | _ => rfl
theorem WP_fadr {off} {x} : WP P ro ({ dst := d, k := .fadr off x, gd := none, q := q } :: l) ks ts h Q = WV P ro (fadrF off (val ts x)) d l ks ts h Q := by
  rw [WP_op (by simp) (by simp)]
  refine WR_of ?_
  simp only [stepT, fnT, fadrF]
  cases val ts x <;> rfl
theorem WP_iadr {es} {x i} : WP P ro ({ dst := d, k := .iadr es x i, gd := none, q := q } :: l) ks ts h Q = WR P ro (iadrF es (val ts x) (val ts i)) q d l ks ts h Q := rfl
theorem WP_iada {len es} {x i} : WP P ro ({ dst := d, k := .iada len es x i, gd := none, q := q } :: l) ks ts h Q = WV P ro (iadaF len es (val ts x) (val ts i)) d l ks ts h Q := by
  rw [WP_op (by simp) (by simp)]
  refine WR_of ?_
  simp only [stepT, fnT, iadaF]
  cases val ts x with
  | ptr b o => cases val ts i <;> first | rfl | (simp only; split <;> rfl)
  | _ => rfl
theorem WP_part {n} {off} {x} : WP P ro ({ dst := d, k := .part n off x, gd := none, q := q } :: l) ks ts h Q = WV P ro (partF n off (val ts x)) d l ks ts h Q := by
  rw [WP_op (by simp) (by simp)]
  refine WR_of ?_
  simp only [stepT, fnT, partF]
  cases val ts x with
  | agg cs => cases n <;> first | rfl | (simp only; cases cs[off]? <;> rfl)
  | _ => rfl
theorem WP_ixa {len es} {n} {x i} : WP P ro ({ dst := d, k := .ixa len es n x i, gd := none, q := q } :: l) ks ts h Q = WV P ro (ixaF len es n (val ts x) (val ts i)) d l ks ts h Q := by
  rw [WP_op (by simp) (by simp)]
  refine WR_of ?_
  simp only [stepT, fnT, ixaF]
  cases val ts x with
  | agg cs =>
    cases val ts i with
    | int k j =>
      simp only
      split
      · cases n <;> first | rfl | (simp only; cases cs[j.toNat * es]? <;> rfl)
      · rfl
    | _ => rfl
  | _ => rfl
theorem WP_ixs {x i} : WP P ro ({ dst := d, k := .ixs x i, gd := none, q := q } :: l) ks ts h Q = WV P ro (ixsF (val ts x) (val ts i)) d l ks ts h Q := by
  rw [WP_op (by simp) (by simp)]
  refine WR_of ?_
  simp only [stepT, fnT, ixsF]
  cases val ts x with
  | str s =>
    cases val ts i with
    | int k j =>
      simp only
      split
      · cases s[j.toNat]? <;> rfl
      · rfl
    | _ => rfl
  | _ => rfl
theorem WP_look {kk} {z} {ok} {m k} : WP P ro ({ dst := d, k := .look kk z ok m k, gd := none, q := q } :: l) ks ts h Q = WR P ro (stepT (.look kk z ok m k) (val ts) (fun b => h[b]?) h.length) q d l ks ts h Q := rfl
theorem WP_mupd {kk} {m k x} : WP P ro ({ dst := d, k := .mupd kk m k x, gd := none, q := q } :: l) ks ts h Q = WR P ro (stepT (.mupd kk m k x) (val ts) (fun b => h[b]?) h.length) q d l ks ts h Q := rfl
theorem WP_nexts {x} : WP P ro ({ dst := d, k := .nexts x, gd := none, q := q } :: l) ks ts h Q = WR P ro (stepT (.nexts x) (val ts) (fun b => h[b]?) h.length) q d l ks ts h Q := rfl
theorem WP_ext {x} {i} : WP P ro ({ dst := d, k := .ext x i, gd := none, q := q } :: l) ks ts h Q = WV P ro (extF (val ts x) i) d l ks ts h Q := by
  rw [WP_op (by simp) (by simp)]
  refine WR_of ?_
  simp only [stepT, fnT, extF]
  cases val ts x with
  | tup cs => simp only; cases cs[i]? <;> rfl
  | _ => rfl
theorem WP_len {lk} {x} : WP P ro ({ dst := d, k := .len lk x, gd := none, q := q } :: l) ks ts h Q = WV P ro (lenF (lenG lk (fun b => h[b]?) (val ts x))) d l ks ts h Q := by
  rw [WP_op (by simp) (by simp)]
  refine WR_of ?_
  simp only [stepT, fnT, lenF]
  cases lenG lk (fun b => h[b]?) (val ts x) <;> rfl
theorem WP_lenc {n} : WP P ro ({ dst := d, k := .lenc n, gd := none, q := q } :: l) ks ts h Q = WP P ro l ks (put ts d (.int .i64 n)) h Q := WR_keep
theorem WP_app {es w} {x y} : WP P ro ({ dst := d, k := .app es w x y, gd := none, q := q } :: l) ks ts h Q = WR P ro (appT es w (val ts x) (val ts y) (fun b => h[b]?) h.length) q d l ks ts h Q := rfl
theorem WP_cpy {es} {x y} : WP P ro ({ dst := d, k := .cpy es x y, gd := none, q := q } :: l) ks ts h Q = WR P ro (stepT (.cpy es x y) (val ts) (fun b => h[b]?) h.length) q d l ks ts h Q := rfl
theorem WP_mx {x} {m} : WP P ro ({ dst := d, k := .mx x m, gd := none, q := q } :: l) ks ts h Q = WV P ro (foldA max2A (val ts x) (m.map (val ts))) d l ks ts h Q := by
  rw [WP_op (by simp) (by simp)]
  refine WR_of ?_
  simp only [stepT, fnT]
  cases foldA max2A (val ts x) (m.map (val ts)) <;> rfl
theorem WP_mn {x} {m} : WP P ro ({ dst := d, k := .mn x m, gd := none, q := q } :: l) ks ts h Q = WV P ro (foldA min2A (val ts x) (m.map (val ts))) d l ks ts h Q := by
  rw [WP_op (by simp) (by simp)]
  refine WR_of ?_
  simp only [stepT, fnT]
  cases foldA min2A (val ts x) (m.map (val ts)) <;> rfl

theorem bin_add {k} {a b} : binK .add (.int k a) (.int k b) = some (.int k (k.wrap (a + b))) := by simp [binK, isShift, intBin]
theorem bin_sub {k} {a b} : binK .sub (.int k a) (.int k b) = some (.int k (k.wrap (a - b))) := by simp [binK, isShift, intBin]
theorem bin_mul {k} {a b} : binK .mul (.int k a) (.int k b) = some (.int k (k.wrap (a * b))) := by simp [binK, isShift, intBin]
theorem bin_quo {k} {a b} (hb : b ≠ 0) : binK .quo (.int k a) (.int k b) = some (.int k (k.wrap (a.tdiv b))) := by simp [binK, isShift, intBin, hb]
theorem bin_rem {k} {a b} (hb : b ≠ 0) : binK .rem (.int k a) (.int k b) = some (.int k (a.tmod b)) := by simp [binK, isShift, intBin, hb]
theorem bin_eql {k} {a b} : binK .eql (.int k a) (.int k b) = some (.bool (decide (a = b))) := by simp [binK, isShift, intBin]; rfl
theorem bin_neq {k} {a b} : binK .neq (.int k a) (.int k b) = some (.bool (decide (a ≠ b))) := by
  simp only [binK, isShift, intBin, if_true, Bool.false_eq_true, if_false, Option.some.injEq, AV.bool.injEq]
  by_cases hab : a = b <;> simp [hab]
theorem bin_lss {k} {a b} : binK .lss (.int k a) (.int k b) = some (.bool (decide (a < b))) := by simp [binK, isShift, intBin]
theorem bin_leq {k} {a b} : binK .leq (.int k a) (.int k b) = some (.bool (decide (a ≤ b))) := by simp [binK, isShift, intBin]
theorem bin_gtr {k} {a b} : binK .gtr (.int k a) (.int k b) = some (.bool (decide (b < a))) := by simp [binK, isShift, intBin]
theorem bin_geq {k} {a b} : binK .geq (.int k a) (.int k b) = some (.bool (decide (b ≤ a))) := by simp [binK, isShift, intBin]
theorem bin_seql {x y} : binK .eql (.str x) (.str y) = some (.bool (decide (x = y))) := by
  simp only [binK, strBin, Option.some.injEq, AV.bool.injEq]
  by_cases hab : x = y <;> simp [hab]
theorem bin_sneq {x y} : binK .neq (.str x) (.str y) = some (.bool (decide (x ≠ y))) := by
  simp only [binK, strBin, Option.some.injEq, AV.bool.injEq]
  by_cases hab : x = y <;> simp [hab]
theorem un_not {b} : unK .not (.bool b) = some (.bool !b) := rfl
theorem un_neg {k} {a} : unK .neg (.int k a) = some (.int k (k.wrap (0 - a))) := rfl
theorem mx_2 {k} {a b} : foldA max2A (.int k a) [.int k b] = some (.int k (max a b)) := by
  simp only [foldA, max2A, if_true, Option.some.injEq, AV.int.injEq, true_and]
  omega
theorem mn_2 {k} {a b} : foldA min2A (.int k a) [.int k b] = some (.int k (min a b)) := by
  simp only [foldA, min2A, if_true, Option.some.injEq, AV.int.injEq, true_and]
  omega
theorem wrap_in {n} (h1 : -9223372036854775808 ≤ n) (h2 : n ≤ 9223372036854775807) : IntKind.i64.wrap n = n := by
  simp only [IntKind.wrap, IntKind.signed, IntKind.bits, Bool.true_and, decide_eq_true_eq, show (64 - 1 : Nat) = 63 from rfl]
  split <;> omega

end
end Go.Abs
namespace Go.Abs
theorem A2 {a b : Prop} (xa : a) (xb : b) : a ∧ b := ⟨xa, xb⟩
theorem A3 {a b c : Prop} (xa : a) (xb : b) (xc : c) : a ∧ b ∧ c := ⟨xa, xb, xc⟩
theorem A4 {a b c d : Prop} (xa : a) (xb : b) (xc : c) (xd : d) : a ∧ b ∧ c ∧ d := ⟨xa, xb, xc, xd⟩
theorem A5 {a b c d e : Prop} (xa : a) (xb : b) (xc : c) (xd : d) (xe : e) : a ∧ b ∧ c ∧ d ∧ e := ⟨xa, xb, xc, xd, xe⟩
theorem A6 {a b c d e f : Prop} (xa : a) (xb : b) (xc : c) (xd : d) (xe : e) (xf : f) : a ∧ b ∧ c ∧ d ∧ e ∧ f := ⟨xa, xb, xc, xd, xe, xf⟩
theorem A7 {a b c d e f g : Prop} (xa : a) (xb : b) (xc : c) (xd : d) (xe : e) (xf : f) (xg : g) : a ∧ b ∧ c ∧ d ∧ e ∧ f ∧ g := ⟨xa, xb, xc, xd, xe, xf, xg⟩
theorem A8 {a b c d e f g h : Prop} (xa : a) (xb : b) (xc : c) (xd : d) (xe : e) (xf : f) (xg : g) (xh : h) : a ∧ b ∧ c ∧ d ∧ e ∧ f ∧ g ∧ h := ⟨xa, xb, xc, xd, xe, xf, xg, xh⟩
theorem A9 {a b c d e f g h i : Prop} (xa : a) (xb : b) (xc : c) (xd : d) (xe : e) (xf : f) (xg : g) (xh : h) (xi : i) : a ∧ b ∧ c ∧ d ∧ e ∧ f ∧ g ∧ h ∧ i := ⟨xa, xb, xc, xd, xe, xf, xg, xh, xi⟩
theorem A10 {a b c d e f g h i j : Prop} (xa : a) (xb : b) (xc : c) (xd : d) (xe : e) (xf : f) (xg : g) (xh : h) (xi : i) (xj : j) : a ∧ b ∧ c ∧ d ∧ e ∧ f ∧ g ∧ h ∧ i ∧ j := ⟨xa, xb, xc, xd, xe, xf, xg, xh, xi, xj⟩
theorem A11 {a b c d e f g h i j k : Prop} (xa : a) (xb : b) (xc : c) (xd : d) (xe : e) (xf : f) (xg : g) (xh : h) (xi : i) (xj : j) (xk : k) : a ∧ b ∧ c ∧ d ∧ e ∧ f ∧ g ∧ h ∧ i ∧ j ∧ k := ⟨xa, xb, xc, xd, xe, xf, xg, xh, xi, xj, xk⟩
theorem A12 {a b c d e f g h i j k l : Prop} (xa : a) (xb : b) (xc : c) (xd : d) (xe : e) (xf : f) (xg : g) (xh : h) (xi : i) (xj : j) (xk : k) (xl : l) : a ∧ b ∧ c ∧ d ∧ e ∧ f ∧ g ∧ h ∧ i ∧ j ∧ k ∧ l := ⟨xa, xb, xc, xd, xe, xf, xg, xh, xi, xj, xk, xl⟩
theorem A13 {a b c d e f g h i j k l m : Prop} (xa : a) (xb : b) (xc : c) (xd : d) (xe : e) (xf : f) (xg : g) (xh : h) (xi : i) (xj : j) (xk : k) (xl : l) (xm : m) : a ∧ b ∧ c ∧ d ∧ e ∧ f ∧ g ∧ h ∧ i ∧ j ∧ k ∧ l ∧ m := ⟨xa, xb, xc, xd, xe, xf, xg, xh, xi, xj, xk, xl, xm⟩
theorem A14 {a b c d e f g h i j k l m n : Prop} (xa : a) (xb : b) (xc : c) (xd : d) (xe : e) (xf : f) (xg : g) (xh : h) (xi : i) (xj : j) (xk : k) (xl : l) (xm : m) (xn : n) : a ∧ b ∧ c ∧ d ∧ e ∧ f ∧ g ∧ h ∧ i ∧ j ∧ k ∧ l ∧ m ∧ n := ⟨xa, xb, xc, xd, xe, xf, xg, xh, xi, xj, xk, xl, xm, xn⟩
theorem A15 {a b c d e f g h i j k l m n o : Prop} (xa : a) (xb : b) (xc : c) (xd : d) (xe : e) (xf : f) (xg : g) (xh : h) (xi : i) (xj : j) (xk : k) (xl : l) (xm : m) (xn : n) (xo : o) : a ∧ b ∧ c ∧ d ∧ e ∧ f ∧ g ∧ h ∧ i ∧ j ∧ k ∧ l ∧ m ∧ n ∧ o := ⟨xa, xb, xc, xd, xe, xf, xg, xh, xi, xj, xk, xl, xm, xn, xo⟩
theorem A17 {a b c d e f g h i j k l m n o p q : Prop} (xa : a) (xb : b) (xc : c) (xd : d) (xe : e) (xf : f) (xg : g) (xh : h) (xi : i) (xj : j) (xk : k) (xl : l) (xm : m) (xn : n) (xo : o) (xp : p) (xq : q) : a ∧ b ∧ c ∧ d ∧ e ∧ f ∧ g ∧ h ∧ i ∧ j ∧ k ∧ l ∧ m ∧ n ∧ o ∧ p ∧ q := ⟨xa, xb, xc, xd, xe, xf, xg, xh, xi, xj, xk, xl, xm, xn, xo, xp, xq⟩
theorem A18 {a b c d e f g h i j k l m n o p q r : Prop} (xa : a) (xb : b) (xc : c) (xd : d) (xe : e) (xf : f) (xg : g) (xh : h) (xi : i) (xj : j) (xk : k) (xl : l) (xm : m) (xn : n) (xo : o) (xp : p) (xq : q) (xr : r) : a ∧ b ∧ c ∧ d ∧ e ∧ f ∧ g ∧ h ∧ i ∧ j ∧ k ∧ l ∧ m ∧ n ∧ o ∧ p ∧ q ∧ r := ⟨xa, xb, xc, xd, xe, xf, xg, xh, xi, xj, xk, xl, xm, xn, xo, xp, xq, xr⟩
theorem A19 {a b c d e f g h i j k l m n o p q r s : Prop} (xa : a) (xb : b) (xc : c) (xd : d) (xe : e) (xf : f) (xg : g) (xh : h) (xi : i) (xj : j) (xk : k) (xl : l) (xm : m) (xn : n) (xo : o) (xp : p) (xq : q) (xr : r) (xs : s) : a ∧ b ∧ c ∧ d ∧ e ∧ f ∧ g ∧ h ∧ i ∧ j ∧ k ∧ l ∧ m ∧ n ∧ o ∧ p ∧ q ∧ r ∧ s := ⟨xa, xb, xc, xd, xe, xf, xg, xh, xi, xj, xk, xl, xm, xn, xo, xp, xq, xr, xs⟩
theorem A20 {a b c d e f g h i j k l m n o p q r s t : Prop} (xa : a) (xb : b) (xc : c) (xd : d) (xe : e) (xf : f) (xg : g) (xh : h) (xi : i) (xj : j) (xk : k) (xl : l) (xm : m) (xn : n) (xo : o) (xp : p) (xq : q) (xr : r) (xs : s) (xt : t) : a ∧ b ∧ c ∧ d ∧ e ∧ f ∧ g ∧ h ∧ i ∧ j ∧ k ∧ l ∧ m ∧ n ∧ o ∧ p ∧ q ∧ r ∧ s ∧ t := ⟨xa, xb, xc, xd, xe, xf, xg, xh, xi, xj, xk, xl, xm, xn, xo, xp, xq, xr, xs, xt⟩
theorem A21 {a b c d e f g h i j k l m n o p q r s t u : Prop} (xa : a) (xb : b) (xc : c) (xd : d) (xe : e) (xf : f) (xg : g) (xh : h) (xi : i) (xj : j) (xk : k) (xl : l) (xm : m) (xn : n) (xo : o) (xp : p) (xq : q) (xr : r) (xs : s) (xt : t) (xu : u) : a ∧ b ∧ c ∧ d ∧ e ∧ f ∧ g ∧ h ∧ i ∧ j ∧ k ∧ l ∧ m ∧ n ∧ o ∧ p ∧ q ∧ r ∧ s ∧ t ∧ u := ⟨xa, xb, xc, xd, xe, xf, xg, xh, xi, xj, xk, xl, xm, xn, xo, xp, xq, xr, xs, xt, xu⟩
theorem A22 {a b c d e f g h i j k l m n o p q r s t u v : Prop} (xa : a) (xb : b) (xc : c) (xd : d) (xe : e) (xf : f) (xg : g) (xh : h) (xi : i) (xj : j) (xk : k) (xl : l) (xm : m) (xn : n) (xo : o) (xp : p) (xq : q) (xr : r) (xs : s) (xt : t) (xu : u) (xv : v) : a ∧ b ∧ c ∧ d ∧ e ∧ f ∧ g ∧ h ∧ i ∧ j ∧ k ∧ l ∧ m ∧ n ∧ o ∧ p ∧ q ∧ r ∧ s ∧ t ∧ u ∧ v := ⟨xa, xb, xc, xd, xe, xf, xg, xh, xi, xj, xk, xl, xm, xn, xo, xp, xq, xr, xs, xt, xu, xv⟩
theorem A24 {a b c d e f g h i j k l m n o p q r s t u v w x : Prop} (xa : a) (xb : b) (xc : c) (xd : d) (xe : e) (xf : f) (xg : g) (xh : h) (xi : i) (xj : j) (xk : k) (xl : l) (xm : m) (xn : n) (xo : o) (xp : p) (xq : q) (xr : r) (xs : s) (xt : t) (xu : u) (xv : v) (xw : w) (xx : x) : a ∧ b ∧ c ∧ d ∧ e ∧ f ∧ g ∧ h ∧ i ∧ j ∧ k ∧ l ∧ m ∧ n ∧ o ∧ p ∧ q ∧ r ∧ s ∧ t ∧ u ∧ v ∧ w ∧ x := ⟨xa, xb, xc, xd, xe, xf, xg, xh, xi, xj, xk, xl, xm, xn, xo, xp, xq, xr, xs, xt, xu, xv, xw, xx⟩
section
variable {P : Program} {ro : Option Nat → Prop} {ks : List Kt} {ts : TS} {h : AHeap} {Q : Ex → TS → AHeap → Prop} {d : Option Nat} {q : Bool} {l : List IOp}

theorem WG_decT {k} {p : Prop} [Decidable p] : WG P ro (.bool (decide p)) true q k d l ks ts h Q = ((p → WP P ro ({ dst := d, k := k, gd := none, q := q } :: l) ks ts h Q) ∧ (¬ p → WP P ro l ks (put ts d undefA) h Q)) := by
  by_cases hp : p
  · simp only [hp, decide_true, WG_yes]; simp
  · simp only [hp, decide_false]; rw [WG_no false (by simp)]; simp
theorem WG_decF {k} {p : Prop} [Decidable p] : WG P ro (.bool (decide p)) false q k d l ks ts h Q = ((p → WP P ro l ks (put ts d undefA) h Q) ∧ (¬ p → WP P ro ({ dst := d, k := k, gd := none, q := q } :: l) ks ts h Q)) := by
  by_cases hp : p
  · simp only [hp, decide_true]; rw [WG_no true (by simp)]; simp
  · simp only [hp, decide_false, WG_yes]; simp
theorem WG_TF {k} : WG P ro (.bool true) false q k d l ks ts h Q = WP P ro l ks (put ts d undefA) h Q := WG_no true (by simp)
theorem WG_FT {k} : WG P ro (.bool false) true q k d l ks ts h Q = WP P ro l ks (put ts d undefA) h Q := WG_no false (by simp)
theorem WB_dec {a b} {p : Prop} [Decidable p] : WB P ro (.bool (decide p)) a b ks ts h Q = ((p → WC P ro a ks ts h Q) ∧ (¬ p → WC P ro b ks ts h Q)) := by
  by_cases hp : p
  · simp only [hp, decide_true, WB_true]; simp
  · simp only [hp, decide_false, WB_false]; simp
theorem pick_T {a b} : pickF (.bool true) a b = some a := rfl
theorem pick_F {a b} : pickF (.bool false) a b = some b := rfl
/-- A slot. -/
def slot (ts : TS) (i : Nat) : AV := ts.getD i undefA
theorem val_t {i} : val ts (.t i) = slot ts i := rfl
theorem val_c {v} : val ts (.c v) = v := rfl
theorem val_g {i} : val ts (.g i) = .ptr i 0 := rfl
theorem val_f {i} : val ts (.f i) = .func (.func i) [] [] := rfl
theorem put_s {i} {v} : put ts (some i) v = ts.set i v := rfl
theorem put_n {v} : put ts none v = ts := rfl
theorem slot_0 {a} {l} : slot (a :: l) 0 = a := rfl
theorem slot_s {a} {l} {n} : slot (a :: l) (n + 1) = slot l n := rfl
theorem l_lenc {a : AV} {l : List AV} : (a :: l).length = l.length + 1 := rfl
theorem l_len0 : ([] : List AV).length = 0 := rfl
theorem l_rep0 {a : AV} : List.replicate 0 a = [] := rfl
theorem l_appc {a : AV} {l m : List AV} : (a :: l) ++ m = a :: (l ++ m) := rfl
theorem l_app0 {m : List AV} : [] ++ m = m := rfl
theorem l_set0 {a b : AV} {l : List AV} : (a :: l).set 0 b = b :: l := rfl
theorem l_sets {a b : AV} {l : List AV} {n : Nat} : (a :: l).set (n + 1) b = a :: l.set n b := rfl
theorem l_map0 {f : Opd → AV} : List.map f [] = [] := rfl
theorem l_mapc {f : Opd → AV} {a : Opd} {l : List Opd} : List.map f (a :: l) = f a :: l.map f := rfl
theorem o_mapn {f : Opd → AV} : Option.map f none = none := rfl
theorem o_maps {f : Opd → AV} {a : Opd} : Option.map f (some a) = some (f a) := rfl
theorem fadr_p {off b o} : fadrF off (.ptr b o) = some (.ptr b (o + off)) := rfl
theorem lenF_s {n} : lenF (some n) = some (.int .i64 n) := rfl
theorem lenG_st {G} {s} : lenG .st G (.str s) = some s.length := rfl
theorem nil_p {b o} : nilF (.ptr b o) = some (.ptr b o) := rfl
theorem nil_f {f} {a c} : nilF (.func (.func f) a c) = some (.func (.func f) a c) := rfl
theorem nil_y {f} {a c} : nilF (.func (.yield f) a c) = some (.func (.yield f) a c) := rfl
theorem ext_t {l} {i} : extF (.tup l) i = l[i]? := rfl
theorem part_n {cs} {off} : partF none off (.agg cs) = cs[off]? := rfl
theorem part_s {cs} {off n} : partF (some n) off (.agg cs) = some (.agg ((cs.drop off).take n)) := rfl
theorem buildF_s {c} : buildF (some c) = some (.agg c) := rfl
theorem resAll_1 {r} : resAll [(r, none)] ts h = some (slot ts r) := rfl
theorem resAll_2 {r s} : resAll [(r, none), (s, none)] ts h = some (.tup [slot ts r, slot ts s]) := rfl
theorem resAll_3 {r s t} : resAll [(r, none), (s, none), (t, none)] ts h = some (.tup [slot ts r, slot ts s, slot ts t]) := rfl
theorem startTS_eq {n} {args} : startTS n args = args ++ List.replicate (n - args.length) undefA := rfl
theorem rep_s {n : Nat} {a : AV} : List.replicate (n + 1) a = a :: List.replicate n a := rfl
theorem conv_ii {k k'} {n} {G} {N} : convT (.i2i k) (.int k' n) G N = some (.int k (k.wrap n), .keep) := rfl
theorem conv_same {s} {G} {N} : convT .same (.str s) G N = some (.str s, .keep) := rfl
theorem box_int {k} {n} {N} : boxF (.int k n) N = some (.ptr N 0, .push (.cells [.int k n] true false)) := rfl
theorem box_bool {b} {N} : boxF (.bool b) N = some (.ptr N 0, .push (.cells [.bool b] true false)) := rfl
theorem box_str {s} {N} : boxF (.str s) N = some (.ptr N 0, .push (.cells [.str s] true false)) := rfl
theorem box_agg {l} {N} (hl : l.all AV.one = true) : boxF (.agg l) N = some (.ptr N 0, .push (.cells l true false)) := by
  show (if l.all AV.one then _ else none) = _
  rw [if_pos hl]; rfl
end

theorem WG_U {P} {ro} {ks} {ts} {h} {Q} {d} {q} {l} {k} {b} : WG P ro undefA b q k d l ks ts h Q = WP P ro l ks (put ts d undefA) h Q := rfl
theorem ext_0 {h} : Ext h h = True := eq_true (Ext.refl h)
theorem ext_1 {h} {a} : Ext h (h ++ a) = True := eq_true (by repeat first | exact Ext.refl _ | refine Ext.app _ ?_)
theorem ext_2 {h} {a b} : Ext h (h ++ a ++ b) = True := eq_true (by repeat first | exact Ext.refl _ | refine Ext.app _ ?_)
theorem ext_3 {h} {a b c} : Ext h (h ++ a ++ b ++ c) = True := eq_true (by repeat first | exact Ext.refl _ | refine Ext.app _ ?_)
theorem ext_4 {h} {a b c d} : Ext h (h ++ a ++ b ++ c ++ d) = True := eq_true (by repeat first | exact Ext.refl _ | refine Ext.app _ ?_)
theorem ext_5 {h} {a b c d e} : Ext h (h ++ a ++ b ++ c ++ d ++ e) = True := eq_true (by repeat first | exact Ext.refl _ | refine Ext.app _ ?_)
theorem ext_6 {h} {a b c d e f} : Ext h (h ++ a ++ b ++ c ++ d ++ e ++ f) = True := eq_true (by repeat first | exact Ext.refl _ | refine Ext.app _ ?_)
theorem ext_7 {h} {a b c d e f g} : Ext h (h ++ a ++ b ++ c ++ d ++ e ++ f ++ g) = True := eq_true (by repeat first | exact Ext.refl _ | refine Ext.app _ ?_)
theorem ext_8 {h} {a b c d e f g i} : Ext h (h ++ a ++ b ++ c ++ d ++ e ++ f ++ g ++ i) = True := eq_true (by repeat first | exact Ext.refl _ | refine Ext.app _ ?_)
theorem ext_9 {h} {a b c d e f g i j} : Ext h (h ++ a ++ b ++ c ++ d ++ e ++ f ++ g ++ i ++ j) = True := eq_true (by repeat first | exact Ext.refl _ | refine Ext.app _ ?_)
theorem and_T {p : Prop} : (True ∧ p) = p := true_and p

/-- Slots written out. -/
def lst (f : Nat → AV) : Nat → Nat → TS
  | 0, _ => []
  | n + 1, i => f i :: lst f n (i + 1)
theorem lst_0 {f} {i} : lst f 0 i = [] := rfl
theorem lst_s {f} {n i} : lst f (n + 1) i = f i :: lst f n (i + 1) := rfl
theorem lst_eq (f : Nat → AV) : ∀ (n i : Nat) (ts : TS), ts.length = n → (∀ k, k < n → f (i + k) = slot ts k) → ts = lst f n i
  | 0, _, ts, h, _ => List.length_eq_zero_iff.1 h
  | n + 1, i, [], h, _ => by simp at h
  | n + 1, i, x :: xs, h, hf => by
    rw [lst_s, ← lst_eq f n (i + 1) xs (by simpa using h) fun k hk => by have := hf (k + 1) (by omega); rw [show i + 1 + k = i + (k + 1) by omega, this]; rfl]
    rw [← Nat.add_zero i, hf 0 (by omega)]; rfl
theorem expl (ts : TS) (n : Nat) (h : ts.length = n) : ts = lst (fun i => slot ts i) n 0 := lst_eq _ n 0 ts h fun k _ => by rw [Nat.zero_add]

/-- THE RULES. -/
def wset := A6 (A24 @WC_skip @WC_ops @WC_seq @WC_cond @WC_block @WC_loop @WC_exit @WC_ret @WE_seqN @WE_seqX @WE_seqR @WE_blockN @WE_blockX @WE_blockR @WE_nil @WP_nil @WP_call @WP_gd @WG_yes @WG_TF @WG_FT @WR_keep @WR_push @WR_set) (A24 @WR_setPush @WV_some @WB_true @WB_false @LQ_N @LQ_X @LQ_R @FQ_N @FQ_R @FR_some @WP_mov @WP_pick @WP_box @WP_build @WP_bslice @WP_load @WP_store @WP_nilchk @WP_bin @WP_eqv @WP_un @WP_conv @WP_mkfn @WP_mkmap) (A24 @WP_mksl @WP_sl @WP_sls @WP_fadr @WP_iadr @WP_iada @WP_part @WP_ixa @WP_ixs @WP_look @WP_mupd @WP_nexts @WP_ext @WP_len @WP_lenc @WP_app @WP_cpy @WP_mx @WP_mn @bin_add @bin_sub @bin_mul @bin_eql @bin_neq) (A24 @bin_lss @bin_leq @bin_gtr @bin_geq @bin_seql @bin_sneq @un_not @un_neg @mx_2 @mn_2 @pick_T @pick_F @val_t @val_c @val_g @val_f @put_s @put_n @slot_0 @slot_s @fadr_p @lenF_s @lenG_st @nil_p) (A24 @nil_f @nil_y @ext_t @part_n @part_s @buildF_s @resAll_1 @resAll_2 @resAll_3 @startTS_eq @rep_s @l_lenc @l_len0 @l_rep0 @l_appc @l_app0 @l_set0 @l_sets @l_map0 @l_mapc @o_mapn @o_maps @conv_ii @conv_same) (A17 @WG_U @ext_0 @ext_1 @ext_2 @ext_3 @ext_4 @ext_5 @ext_6 @ext_7 @ext_8 @ext_9 @and_T @lst_0 @lst_s @box_int @box_bool @box_str)

/-- Choices by a test. -/
theorem wsplit :
    (∀ {P} {ro} {ks} {ts} {h} {Q} {d} {q} {l} {k} {p : Prop} [Decidable p], WG P ro (.bool (decide p)) true q k d l ks ts h Q = ((p → WP P ro ({ dst := d, k := k, gd := none, q := q } :: l) ks ts h Q) ∧ (¬ p → WP P ro l ks (put ts d undefA) h Q))) ∧
    (∀ {P : Program} {ro : Option Nat → Prop} {ks : List Kt} {ts : TS} {h : AHeap} {Q : Ex → TS → AHeap → Prop} {d : Option Nat} {q : Bool} {l : List IOp} {k : OpK} {p : Prop} [Decidable p], WG P ro (.bool (decide p)) false q k d l ks ts h Q = ((p → WP P ro l ks (put ts d undefA) h Q) ∧ (¬ p → WP P ro ({ dst := d, k := k, gd := none, q := q } :: l) ks ts h Q))) ∧
    (∀ {P : Program} {ro : Option Nat → Prop} {ks : List Kt} {ts : TS} {h : AHeap} {Q : Ex → TS → AHeap → Prop} {a b : ICode} {p : Prop} [Decidable p], WB P ro (.bool (decide p)) a b ks ts h Q = ((p → WC P ro a ks ts h Q) ∧ (¬ p → WC P ro b ks ts h Q))) :=
  ⟨@WG_decT, @WG_decF, @WB_dec⟩

end Go.Abs
namespace Go.Abs

theorem at_app {h : AHeap} {b : Nat} (a : AHeap) (hb : b < h.length) : (h ++ a)[b]? = h[b]? := List.getElem?_append_left hb
theorem set_app {h : AHeap} {b : Nat} (a : AHeap) (k : ABlk) (hb : b < h.length) : (h ++ a).set b k = h.set b k ++ a := List.set_append_left _ _ hb
theorem set_new {X : AHeap} {k k' : ABlk} : (X ++ [k]).set X.length k' = X ++ [k'] := by
  rw [List.set_append_right _ _ (Nat.le_refl _)]; simp
theorem at_new {X : AHeap} {k : ABlk} : (X ++ [k])[X.length]? = some k := by simp

def ldB (n : Option Nat) (o : Nat) : ABlk → Option (AV × Eff)
  | .cells c _ _ =>
    match n with
    | none =>
      match c[o]? with
      | some x => some (x, .keep)
      | none => none
    | some n => if o + n ≤ c.length then some (.agg ((c.drop o).take n), .keep) else none
  | _ => none
def stB (n o : Nat) (v : AV) (b : Nat) : ABlk → Option (AV × Eff)
  | .cells c true tl => if v.cells.length = n ∧ v.cells.all AV.one = true ∧ o + n ≤ c.length then some (undefA, .set b (.cells (setL c o v.cells) true tl)) else none
  | _ => none
theorem loadF_at {n : Option Nat} {b o : Nat} {G : Nat → Option ABlk} {k : ABlk} (hb : G b = some k) : loadF n (.ptr b o) G = ldB n o k := by
  simp only [loadF, hb]
  cases k <;> rfl
theorem storeF_at {n b o : Nat} {v : AV} {G : Nat → Option ABlk} {k : ABlk} (hb : G b = some k) : storeF n (.ptr b o) v G = stB n o v b k := by
  simp only [storeF, hb]
  cases k with
  | cells c mu tl => cases mu <;> rfl
  | _ => rfl
def nextB (b : Nat) (s : List UInt8) (pos : Nat) : Option (AV × Eff) :=
  if pos < s.length then some (.tup [.bool true, .int .i64 pos, .int .i32 (Utf8.decode ⟨⟨s⟩⟩ pos).1], .set b (.iter s (pos + (Utf8.decode ⟨⟨s⟩⟩ pos).2))) else some (.tup [.bool false], .keep)
def nextF (x : AV) (G : Nat → Option ABlk) : Option (AV × Eff) :=
  match x with
  | .ptr b 0 =>
    match G b with
    | some (.iter s pos) => nextB b s pos
    | _ => none
  | _ => none
theorem nextF_at {b pos : Nat} {s : List UInt8} {G : Nat → Option ABlk} (hb : G b = some (.iter s pos)) : nextF (.ptr b 0) G = nextB b s pos := by
  simp only [nextF, hb]
theorem stepT_nexts {x : Opd} {ρ : Opd → AV} {G : Nat → Option ABlk} {N : Nat} : stepT (.nexts x) ρ G N = nextF (ρ x) G := by
  simp only [stepT, fnT, nextF, nextB]
  cases ρ x with
  | ptr b o =>
    cases o with
    | zero =>
      simp only
      cases G b with
      | none => rfl
      | some k => cases k <;> rfl
    | succ o => rfl
  | _ => rfl
def rstrF (x : AV) (N : Nat) : Option (AV × Eff) :=
  match x with
  | .str s => some (.ptr N 0, .push (.iter s 0))
  | _ => none
theorem WP_rstrF {P : Program} {ro : Option Nat → Prop} {ks : List Kt} {ts : TS} {h : AHeap} {Q : Ex → TS → AHeap → Prop} {d : Option Nat} {q : Bool} {l : List IOp} {x : Opd} : WP P ro ({ dst := d, k := .rstr x, gd := none, q := q } :: l) ks ts h Q = WR P ro (rstrF (val ts x) h.length) q d l ks ts h Q := rfl
theorem rstr_s {s : List UInt8} {N : Nat} : rstrF (.str s) N = some (.ptr N 0, .push (.iter s 0)) := rfl

theorem at_0 {X : AHeap} {K} : (X ++ [K] )[X.length]? = some K := by
  exact at_new
theorem ld_0 {n} {o} {X} {K} : loadF n (.ptr X.length o) (fun z => (X ++ [K] )[z]?) = ldB n o K := loadF_at at_0
theorem st_0 {y o} {v} {X} {K} : storeF y (.ptr X.length o) v (fun z => (X ++ [K] )[z]?) = stB y o v X.length K := storeF_at at_0
theorem nx_0 {pos} {s} {X} : nextF (.ptr X.length 0) (fun z => (X ++ [.iter s pos] )[z]?) = nextB X.length s pos := nextF_at at_0
theorem set_0 {X : AHeap} {K K'} : (X ++ [K] ).set X.length K' = X ++ [K']  := by
  exact set_new
theorem at_1 {X : AHeap} {K} {a} : (X ++ [K] ++ a)[X.length]? = some K := by
  rw [at_app, at_0]; simp
theorem ld_1 {n} {o} {X} {K} {a} : loadF n (.ptr X.length o) (fun z => (X ++ [K] ++ a)[z]?) = ldB n o K := loadF_at at_1
theorem st_1 {y o} {v} {X} {K} {a} : storeF y (.ptr X.length o) v (fun z => (X ++ [K] ++ a)[z]?) = stB y o v X.length K := storeF_at at_1
theorem nx_1 {pos} {s} {X} {a} : nextF (.ptr X.length 0) (fun z => (X ++ [.iter s pos] ++ a)[z]?) = nextB X.length s pos := nextF_at at_1
theorem set_1 {X : AHeap} {K K'} {a} : (X ++ [K] ++ a).set X.length K' = X ++ [K'] ++ a := by
  rw [set_app, set_0]; simp
theorem at_2 {X : AHeap} {K} {a b} : (X ++ [K] ++ a ++ b)[X.length]? = some K := by
  rw [at_app, at_1]; simp
theorem ld_2 {n} {o} {X} {K} {a b} : loadF n (.ptr X.length o) (fun z => (X ++ [K] ++ a ++ b)[z]?) = ldB n o K := loadF_at at_2
theorem st_2 {y o} {v} {X} {K} {a b} : storeF y (.ptr X.length o) v (fun z => (X ++ [K] ++ a ++ b)[z]?) = stB y o v X.length K := storeF_at at_2
theorem nx_2 {pos} {s} {X} {a b} : nextF (.ptr X.length 0) (fun z => (X ++ [.iter s pos] ++ a ++ b)[z]?) = nextB X.length s pos := nextF_at at_2
theorem set_2 {X : AHeap} {K K'} {a b} : (X ++ [K] ++ a ++ b).set X.length K' = X ++ [K'] ++ a ++ b := by
  rw [set_app, set_1]; simp
theorem at_3 {X : AHeap} {K} {a b c} : (X ++ [K] ++ a ++ b ++ c)[X.length]? = some K := by
  rw [at_app, at_2]; simp
theorem ld_3 {n} {o} {X} {K} {a b c} : loadF n (.ptr X.length o) (fun z => (X ++ [K] ++ a ++ b ++ c)[z]?) = ldB n o K := loadF_at at_3
theorem st_3 {y o} {v} {X} {K} {a b c} : storeF y (.ptr X.length o) v (fun z => (X ++ [K] ++ a ++ b ++ c)[z]?) = stB y o v X.length K := storeF_at at_3
theorem nx_3 {pos} {s} {X} {a b c} : nextF (.ptr X.length 0) (fun z => (X ++ [.iter s pos] ++ a ++ b ++ c)[z]?) = nextB X.length s pos := nextF_at at_3
theorem set_3 {X : AHeap} {K K'} {a b c} : (X ++ [K] ++ a ++ b ++ c).set X.length K' = X ++ [K'] ++ a ++ b ++ c := by
  rw [set_app, set_2]; simp
theorem at_4 {X : AHeap} {K} {a b c d} : (X ++ [K] ++ a ++ b ++ c ++ d)[X.length]? = some K := by
  rw [at_app, at_3]; simp
theorem ld_4 {n} {o} {X} {K} {a b c d} : loadF n (.ptr X.length o) (fun z => (X ++ [K] ++ a ++ b ++ c ++ d)[z]?) = ldB n o K := loadF_at at_4
theorem st_4 {y o} {v} {X} {K} {a b c d} : storeF y (.ptr X.length o) v (fun z => (X ++ [K] ++ a ++ b ++ c ++ d)[z]?) = stB y o v X.length K := storeF_at at_4
theorem nx_4 {pos} {s} {X} {a b c d} : nextF (.ptr X.length 0) (fun z => (X ++ [.iter s pos] ++ a ++ b ++ c ++ d)[z]?) = nextB X.length s pos := nextF_at at_4
theorem set_4 {X : AHeap} {K K'} {a b c d} : (X ++ [K] ++ a ++ b ++ c ++ d).set X.length K' = X ++ [K'] ++ a ++ b ++ c ++ d := by
  rw [set_app, set_3]; simp
theorem at_5 {X : AHeap} {K} {a b c d e} : (X ++ [K] ++ a ++ b ++ c ++ d ++ e)[X.length]? = some K := by
  rw [at_app, at_4]; simp
theorem ld_5 {n} {o} {X} {K} {a b c d e} : loadF n (.ptr X.length o) (fun z => (X ++ [K] ++ a ++ b ++ c ++ d ++ e)[z]?) = ldB n o K := loadF_at at_5
theorem st_5 {y o} {v} {X} {K} {a b c d e} : storeF y (.ptr X.length o) v (fun z => (X ++ [K] ++ a ++ b ++ c ++ d ++ e)[z]?) = stB y o v X.length K := storeF_at at_5
theorem nx_5 {pos} {s} {X} {a b c d e} : nextF (.ptr X.length 0) (fun z => (X ++ [.iter s pos] ++ a ++ b ++ c ++ d ++ e)[z]?) = nextB X.length s pos := nextF_at at_5
theorem set_5 {X : AHeap} {K K'} {a b c d e} : (X ++ [K] ++ a ++ b ++ c ++ d ++ e).set X.length K' = X ++ [K'] ++ a ++ b ++ c ++ d ++ e := by
  rw [set_app, set_4]; simp
theorem at_6 {X : AHeap} {K} {a b c d e f} : (X ++ [K] ++ a ++ b ++ c ++ d ++ e ++ f)[X.length]? = some K := by
  rw [at_app, at_5]; simp
theorem ld_6 {n} {o} {X} {K} {a b c d e f} : loadF n (.ptr X.length o) (fun z => (X ++ [K] ++ a ++ b ++ c ++ d ++ e ++ f)[z]?) = ldB n o K := loadF_at at_6
theorem st_6 {y o} {v} {X} {K} {a b c d e f} : storeF y (.ptr X.length o) v (fun z => (X ++ [K] ++ a ++ b ++ c ++ d ++ e ++ f)[z]?) = stB y o v X.length K := storeF_at at_6
theorem nx_6 {pos} {s} {X} {a b c d e f} : nextF (.ptr X.length 0) (fun z => (X ++ [.iter s pos] ++ a ++ b ++ c ++ d ++ e ++ f)[z]?) = nextB X.length s pos := nextF_at at_6
theorem set_6 {X : AHeap} {K K'} {a b c d e f} : (X ++ [K] ++ a ++ b ++ c ++ d ++ e ++ f).set X.length K' = X ++ [K'] ++ a ++ b ++ c ++ d ++ e ++ f := by
  rw [set_app, set_5]; simp
theorem at_7 {X : AHeap} {K} {a b c d e f g} : (X ++ [K] ++ a ++ b ++ c ++ d ++ e ++ f ++ g)[X.length]? = some K := by
  rw [at_app, at_6]; simp
theorem ld_7 {n} {o} {X} {K} {a b c d e f g} : loadF n (.ptr X.length o) (fun z => (X ++ [K] ++ a ++ b ++ c ++ d ++ e ++ f ++ g)[z]?) = ldB n o K := loadF_at at_7
theorem st_7 {y o} {v} {X} {K} {a b c d e f g} : storeF y (.ptr X.length o) v (fun z => (X ++ [K] ++ a ++ b ++ c ++ d ++ e ++ f ++ g)[z]?) = stB y o v X.length K := storeF_at at_7
theorem nx_7 {pos} {s} {X} {a b c d e f g} : nextF (.ptr X.length 0) (fun z => (X ++ [.iter s pos] ++ a ++ b ++ c ++ d ++ e ++ f ++ g)[z]?) = nextB X.length s pos := nextF_at at_7
theorem set_7 {X : AHeap} {K K'} {a b c d e f g} : (X ++ [K] ++ a ++ b ++ c ++ d ++ e ++ f ++ g).set X.length K' = X ++ [K'] ++ a ++ b ++ c ++ d ++ e ++ f ++ g := by
  rw [set_app, set_6]; simp
theorem at_8 {X : AHeap} {K} {a b c d e f g i} : (X ++ [K] ++ a ++ b ++ c ++ d ++ e ++ f ++ g ++ i)[X.length]? = some K := by
  rw [at_app, at_7]; simp
theorem ld_8 {n} {o} {X} {K} {a b c d e f g i} : loadF n (.ptr X.length o) (fun z => (X ++ [K] ++ a ++ b ++ c ++ d ++ e ++ f ++ g ++ i)[z]?) = ldB n o K := loadF_at at_8
theorem st_8 {y o} {v} {X} {K} {a b c d e f g i} : storeF y (.ptr X.length o) v (fun z => (X ++ [K] ++ a ++ b ++ c ++ d ++ e ++ f ++ g ++ i)[z]?) = stB y o v X.length K := storeF_at at_8
theorem nx_8 {pos} {s} {X} {a b c d e f g i} : nextF (.ptr X.length 0) (fun z => (X ++ [.iter s pos] ++ a ++ b ++ c ++ d ++ e ++ f ++ g ++ i)[z]?) = nextB X.length s pos := nextF_at at_8
theorem set_8 {X : AHeap} {K K'} {a b c d e f g i} : (X ++ [K] ++ a ++ b ++ c ++ d ++ e ++ f ++ g ++ i).set X.length K' = X ++ [K'] ++ a ++ b ++ c ++ d ++ e ++ f ++ g ++ i := by
  rw [set_app, set_7]; simp
theorem at_9 {X : AHeap} {K} {a b c d e f g i j} : (X ++ [K] ++ a ++ b ++ c ++ d ++ e ++ f ++ g ++ i ++ j)[X.length]? = some K := by
  rw [at_app, at_8]; simp
theorem ld_9 {n} {o} {X} {K} {a b c d e f g i j} : loadF n (.ptr X.length o) (fun z => (X ++ [K] ++ a ++ b ++ c ++ d ++ e ++ f ++ g ++ i ++ j)[z]?) = ldB n o K := loadF_at at_9
theorem st_9 {y o} {v} {X} {K} {a b c d e f g i j} : storeF y (.ptr X.length o) v (fun z => (X ++ [K] ++ a ++ b ++ c ++ d ++ e ++ f ++ g ++ i ++ j)[z]?) = stB y o v X.length K := storeF_at at_9
theorem nx_9 {pos} {s} {X} {a b c d e f g i j} : nextF (.ptr X.length 0) (fun z => (X ++ [.iter s pos] ++ a ++ b ++ c ++ d ++ e ++ f ++ g ++ i ++ j)[z]?) = nextB X.length s pos := nextF_at at_9
theorem set_9 {X : AHeap} {K K'} {a b c d e f g i j} : (X ++ [K] ++ a ++ b ++ c ++ d ++ e ++ f ++ g ++ i ++ j).set X.length K' = X ++ [K'] ++ a ++ b ++ c ++ d ++ e ++ f ++ g ++ i ++ j := by
  rw [set_app, set_8]; simp
theorem at_10 {X : AHeap} {K} {a b c d e f g i j m} : (X ++ [K] ++ a ++ b ++ c ++ d ++ e ++ f ++ g ++ i ++ j ++ m)[X.length]? = some K := by
  rw [at_app, at_9]; simp
theorem ld_10 {n} {o} {X} {K} {a b c d e f g i j m} : loadF n (.ptr X.length o) (fun z => (X ++ [K] ++ a ++ b ++ c ++ d ++ e ++ f ++ g ++ i ++ j ++ m)[z]?) = ldB n o K := loadF_at at_10
theorem st_10 {y o} {v} {X} {K} {a b c d e f g i j m} : storeF y (.ptr X.length o) v (fun z => (X ++ [K] ++ a ++ b ++ c ++ d ++ e ++ f ++ g ++ i ++ j ++ m)[z]?) = stB y o v X.length K := storeF_at at_10
theorem nx_10 {pos} {s} {X} {a b c d e f g i j m} : nextF (.ptr X.length 0) (fun z => (X ++ [.iter s pos] ++ a ++ b ++ c ++ d ++ e ++ f ++ g ++ i ++ j ++ m)[z]?) = nextB X.length s pos := nextF_at at_10
theorem set_10 {X : AHeap} {K K'} {a b c d e f g i j m} : (X ++ [K] ++ a ++ b ++ c ++ d ++ e ++ f ++ g ++ i ++ j ++ m).set X.length K' = X ++ [K'] ++ a ++ b ++ c ++ d ++ e ++ f ++ g ++ i ++ j ++ m := by
  rw [set_app, set_9]; simp
theorem at_11 {X : AHeap} {K} {a b c d e f g i j m p} : (X ++ [K] ++ a ++ b ++ c ++ d ++ e ++ f ++ g ++ i ++ j ++ m ++ p)[X.length]? = some K := by
  rw [at_app, at_10]; simp
theorem ld_11 {n} {o} {X} {K} {a b c d e f g i j m p} : loadF n (.ptr X.length o) (fun z => (X ++ [K] ++ a ++ b ++ c ++ d ++ e ++ f ++ g ++ i ++ j ++ m ++ p)[z]?) = ldB n o K := loadF_at at_11
theorem st_11 {y o} {v} {X} {K} {a b c d e f g i j m p} : storeF y (.ptr X.length o) v (fun z => (X ++ [K] ++ a ++ b ++ c ++ d ++ e ++ f ++ g ++ i ++ j ++ m ++ p)[z]?) = stB y o v X.length K := storeF_at at_11
theorem nx_11 {pos} {s} {X} {a b c d e f g i j m p} : nextF (.ptr X.length 0) (fun z => (X ++ [.iter s pos] ++ a ++ b ++ c ++ d ++ e ++ f ++ g ++ i ++ j ++ m ++ p)[z]?) = nextB X.length s pos := nextF_at at_11
theorem set_11 {X : AHeap} {K K'} {a b c d e f g i j m p} : (X ++ [K] ++ a ++ b ++ c ++ d ++ e ++ f ++ g ++ i ++ j ++ m ++ p).set X.length K' = X ++ [K'] ++ a ++ b ++ c ++ d ++ e ++ f ++ g ++ i ++ j ++ m ++ p := by
  rw [set_app, set_10]; simp
theorem at_12 {X : AHeap} {K} {a b c d e f g i j m p q} : (X ++ [K] ++ a ++ b ++ c ++ d ++ e ++ f ++ g ++ i ++ j ++ m ++ p ++ q)[X.length]? = some K := by
  rw [at_app, at_11]; simp
theorem ld_12 {n} {o} {X} {K} {a b c d e f g i j m p q} : loadF n (.ptr X.length o) (fun z => (X ++ [K] ++ a ++ b ++ c ++ d ++ e ++ f ++ g ++ i ++ j ++ m ++ p ++ q)[z]?) = ldB n o K := loadF_at at_12
theorem st_12 {y o} {v} {X} {K} {a b c d e f g i j m p q} : storeF y (.ptr X.length o) v (fun z => (X ++ [K] ++ a ++ b ++ c ++ d ++ e ++ f ++ g ++ i ++ j ++ m ++ p ++ q)[z]?) = stB y o v X.length K := storeF_at at_12
theorem nx_12 {pos} {s} {X} {a b c d e f g i j m p q} : nextF (.ptr X.length 0) (fun z => (X ++ [.iter s pos] ++ a ++ b ++ c ++ d ++ e ++ f ++ g ++ i ++ j ++ m ++ p ++ q)[z]?) = nextB X.length s pos := nextF_at at_12
theorem set_12 {X : AHeap} {K K'} {a b c d e f g i j m p q} : (X ++ [K] ++ a ++ b ++ c ++ d ++ e ++ f ++ g ++ i ++ j ++ m ++ p ++ q).set X.length K' = X ++ [K'] ++ a ++ b ++ c ++ d ++ e ++ f ++ g ++ i ++ j ++ m ++ p ++ q := by
  rw [set_app, set_11]; simp
theorem at_13 {X : AHeap} {K} {a b c d e f g i j m p q r} : (X ++ [K] ++ a ++ b ++ c ++ d ++ e ++ f ++ g ++ i ++ j ++ m ++ p ++ q ++ r)[X.length]? = some K := by
  rw [at_app, at_12]; simp
theorem ld_13 {n} {o} {X} {K} {a b c d e f g i j m p q r} : loadF n (.ptr X.length o) (fun z => (X ++ [K] ++ a ++ b ++ c ++ d ++ e ++ f ++ g ++ i ++ j ++ m ++ p ++ q ++ r)[z]?) = ldB n o K := loadF_at at_13
theorem st_13 {y o} {v} {X} {K} {a b c d e f g i j m p q r} : storeF y (.ptr X.length o) v (fun z => (X ++ [K] ++ a ++ b ++ c ++ d ++ e ++ f ++ g ++ i ++ j ++ m ++ p ++ q ++ r)[z]?) = stB y o v X.length K := storeF_at at_13
theorem nx_13 {pos} {s} {X} {a b c d e f g i j m p q r} : nextF (.ptr X.length 0) (fun z => (X ++ [.iter s pos] ++ a ++ b ++ c ++ d ++ e ++ f ++ g ++ i ++ j ++ m ++ p ++ q ++ r)[z]?) = nextB X.length s pos := nextF_at at_13
theorem set_13 {X : AHeap} {K K'} {a b c d e f g i j m p q r} : (X ++ [K] ++ a ++ b ++ c ++ d ++ e ++ f ++ g ++ i ++ j ++ m ++ p ++ q ++ r).set X.length K' = X ++ [K'] ++ a ++ b ++ c ++ d ++ e ++ f ++ g ++ i ++ j ++ m ++ p ++ q ++ r := by
  rw [set_app, set_12]; simp
theorem at_14 {X : AHeap} {K} {a b c d e f g i j m p q r t} : (X ++ [K] ++ a ++ b ++ c ++ d ++ e ++ f ++ g ++ i ++ j ++ m ++ p ++ q ++ r ++ t)[X.length]? = some K := by
  rw [at_app, at_13]; simp
theorem ld_14 {n} {o} {X} {K} {a b c d e f g i j m p q r t} : loadF n (.ptr X.length o) (fun z => (X ++ [K] ++ a ++ b ++ c ++ d ++ e ++ f ++ g ++ i ++ j ++ m ++ p ++ q ++ r ++ t)[z]?) = ldB n o K := loadF_at at_14
theorem st_14 {y o} {v} {X} {K} {a b c d e f g i j m p q r t} : storeF y (.ptr X.length o) v (fun z => (X ++ [K] ++ a ++ b ++ c ++ d ++ e ++ f ++ g ++ i ++ j ++ m ++ p ++ q ++ r ++ t)[z]?) = stB y o v X.length K := storeF_at at_14
theorem nx_14 {pos} {s} {X} {a b c d e f g i j m p q r t} : nextF (.ptr X.length 0) (fun z => (X ++ [.iter s pos] ++ a ++ b ++ c ++ d ++ e ++ f ++ g ++ i ++ j ++ m ++ p ++ q ++ r ++ t)[z]?) = nextB X.length s pos := nextF_at at_14
theorem set_14 {X : AHeap} {K K'} {a b c d e f g i j m p q r t} : (X ++ [K] ++ a ++ b ++ c ++ d ++ e ++ f ++ g ++ i ++ j ++ m ++ p ++ q ++ r ++ t).set X.length K' = X ++ [K'] ++ a ++ b ++ c ++ d ++ e ++ f ++ g ++ i ++ j ++ m ++ p ++ q ++ r ++ t := by
  rw [set_app, set_13]; simp

theorem ldB_n {o : Nat} {c : List AV} {mu tl : Bool} {x : AV} (hx : c[o]? = some x) : ldB none o (.cells c mu tl) = some (x, .keep) := by simp only [ldB, hx]
theorem ldB_s {o n : Nat} {c : List AV} {mu tl : Bool} (hx : o + n ≤ c.length) : ldB (some n) o (.cells c mu tl) = some (.agg ((c.drop o).take n), .keep) := by simp only [ldB]; rw [if_pos hx]
theorem stB_agg {n o b : Nat} {c l : List AV} {tl : Bool} (h1 : l.length = n) (h2 : l.all AV.one = true) (h3 : o + n ≤ c.length) : stB n o (.agg l) b (.cells c true tl) = some (undefA, .set b (.cells (setL c o l) true tl)) := by
  show (if l.length = n ∧ l.all AV.one = true ∧ o + n ≤ c.length then _ else none) = _
  rw [if_pos ⟨h1, h2, h3⟩]; rfl
theorem AV.cells_one {v : AV} (hv : v.one = true) : v.cells = [v] := by cases v <;> first | rfl | cases hv
theorem stB_one {o b : Nat} {c : List AV} {v : AV} {tl : Bool} (h2 : v.one = true) (h3 : o + 1 ≤ c.length) : stB 1 o v b (.cells c true tl) = some (undefA, .set b (.cells (c.set o v) true tl)) := by
  simp only [stB, AV.cells_one h2]
  rw [if_pos ⟨rfl, by simp [h2], h3⟩]; rfl
theorem setL_nil {c : List AV} {o : Nat} : setL c o [] = c := rfl
theorem setL_cons {c : List AV} {o : Nat} {x : AV} {xs : List AV} : setL c o (x :: xs) = setL (c.set o x) (o + 1) xs := rfl
theorem zrep_0 {z : List AV} : zrep 0 z = [] := rfl
theorem zrep_s {n : Nat} {z : List AV} : zrep (n + 1) z = z ++ zrep n z := rfl
theorem fill_nil {c : List AV} : fillA c [] = some c := rfl
theorem fill_one {c : List AV} {off : Nat} {v : AV} {r : List (Nat × Nat × AV)} (h2 : v.one = true) (h3 : off + 1 ≤ c.length) : fillA c ((off, 1, v) :: r) = fillA (c.set off v) r := by
  simp only [fillA, AV.cells_one h2]
  rw [if_pos ⟨rfl, h3⟩]; rfl
theorem fill_agg {c l : List AV} {off n : Nat} {r : List (Nat × Nat × AV)} (h2 : l.length = n) (h3 : off + n ≤ c.length) : fillA c ((off, n, .agg l) :: r) = fillA (setL c off l) r := by
  show (if l.length = n ∧ off + n ≤ c.length then fillA (setL c off l) r else none) = _
  rw [if_pos ⟨h2, h3⟩]
theorem bsl_ok {es n N : Nat} {c : List AV} (h1 : c.all AV.one = true) (h2 : c.length = n * es) (h3 : 1 ≤ n) : bslF es n (some c) N = some (.slice N 0 n es, .push (.cells c true true)) := by
  have : Nat.beq n 0 = false := by cases n with | zero => omega | succ n => rfl
  simp only [bslF]; rw [if_pos ⟨h1, h2⟩, this]; rfl
theorem bsl_z {es N : Nat} : bslF es 0 (some []) N = some (.slice N 0 0 es, .push (.cells [] true false)) := by
  simp only [bslF]; rw [if_pos ⟨rfl, by simp⟩]; rfl
theorem m_map0 {f : Nat × Opd → Nat × Nat × AV} : List.map f [] = [] := rfl
theorem m_mapc {f : Nat × Opd → Nat × Nat × AV} {a : Nat × Opd} {l : List (Nat × Opd)} : List.map f (a :: l) = f a :: l.map f := rfl
theorem n_map0 {f : Nat × Nat × Opd → Nat × Nat × AV} : List.map f [] = [] := rfl
theorem n_mapc {f : Nat × Nat × Opd → Nat × Nat × AV} {a : Nat × Nat × Opd} {l : List (Nat × Nat × Opd)} : List.map f (a :: l) = f a :: l.map f := rfl
theorem l_drop0 {l : List AV} : l.drop 0 = l := rfl
theorem l_drops {a : AV} {l : List AV} {n : Nat} : (a :: l).drop (n + 1) = l.drop n := rfl
theorem l_take0 {l : List AV} : l.take 0 = [] := by simp
theorem l_takes {a : AV} {l : List AV} {n : Nat} : (a :: l).take (n + 1) = a :: l.take n := rfl
theorem l_get0 {a : AV} {l : List AV} : (a :: l)[0]? = some a := rfl
theorem l_gets {a : AV} {l : List AV} {n : Nat} : (a :: l)[n + 1]? = l[n]? := rfl

/-- Integers as rows. -/
abbrev intRow (x : Int) : List AV := [.int .i64 x]
theorem isSl_ints {X : AHeap} (l : List Int) : IsSl (X ++ [.cells (l.map (AV.int .i64)) true true]) (.slice X.length 0 l.length 1) 1 (l.map intRow) := by
  have hf : (l.map intRow).flatten = l.map (AV.int .i64) := by induction l with
    | nil => rfl
    | cons x xs ih => simp [intRow] at ih ⊢; exact ih
  have h1 : (l.map intRow).length = l.length := by simp
  rw [← h1]
  exact .mk (by simp; exact ⟨rfl, rfl, rfl⟩) (by rw [hf, Nat.mul_one, h1, List.drop_zero]; exact List.take_of_length_le (by simp)) (by simp) (by simp [intRow])

section
variable {h : AHeap} {s : AV} {es : Nat} {cs : List (List AV)}
theorem IsSl.loadE (hs : IsSl h s es cs) {k : AHeap} {i : Nat} (e : Ext h k) (hi : i < cs.length) : loadF (some es) (.ptr s.sb (s.so + i * es)) (fun b => k[b]?) = some (.agg cs[i], .keep) := (hs.ext e).load hi
theorem IsSl.loadfE (hs : IsSl h s es cs) {k : AHeap} {i off : Nat} (e : Ext h k) (hi : i < cs.length) {x : AV} (hx : cs[i][off]? = some x) : loadF none (.ptr s.sb (s.so + i * es + off)) (fun b => k[b]?) = some (x, .keep) := (hs.ext e).loadf hi hx
theorem IsSl.load0E (hs : IsSl h s es cs) {k : AHeap} {i : Nat} (e : Ext h k) (hi : i < cs.length) {x : AV} (hx : cs[i][0]? = some x) : loadF none (.ptr s.sb (s.so + i * es)) (fun b => k[b]?) = some (x, .keep) := (hs.ext e).loadf (off := 0) hi hx
end

/-- THE RULES. -/
def hset := A4 (A24 @ld_0 @st_0 @nx_0 @set_0 @ld_1 @st_1 @nx_1 @set_1 @ld_2 @st_2 @nx_2 @set_2 @ld_3 @st_3 @nx_3 @set_3 @ld_4 @st_4 @nx_4 @set_4 @ld_5 @st_5 @nx_5 @set_5) (A24 @ld_6 @st_6 @nx_6 @set_6 @ld_7 @st_7 @nx_7 @set_7 @ld_8 @st_8 @nx_8 @set_8 @ld_9 @st_9 @nx_9 @set_9 @ld_10 @st_10 @nx_10 @set_10 @ld_11 @st_11 @nx_11 @set_11) (A24 @ld_12 @st_12 @nx_12 @set_12 @ld_13 @st_13 @nx_13 @set_13 @ld_14 @st_14 @nx_14 @set_14 @stepT_nexts @WP_rstrF @rstr_s @ldB_n @ldB_s @stB_agg @stB_one @setL_nil @setL_cons @zrep_0 @zrep_s @fill_nil) (A14 @fill_one @fill_agg @bsl_ok @bsl_z @m_map0 @m_mapc @n_map0 @n_mapc @l_drop0 @l_drops @l_take0 @l_takes @l_get0 @l_gets)

/-- One heap goes on another. -/
theorem eset :
    (∀ {h : AHeap}, Ext h (h ) = True) ∧
    (∀ {h a : AHeap}, Ext h (h ++ a) = True) ∧
    (∀ {h a b : AHeap}, Ext h (h ++ a ++ b) = True) ∧
    (∀ {h a b c : AHeap}, Ext h (h ++ a ++ b ++ c) = True) ∧
    (∀ {h a b c d : AHeap}, Ext h (h ++ a ++ b ++ c ++ d) = True) ∧
    (∀ {h a b c d e : AHeap}, Ext h (h ++ a ++ b ++ c ++ d ++ e) = True) ∧
    (∀ {h a b c d e f : AHeap}, Ext h (h ++ a ++ b ++ c ++ d ++ e ++ f) = True) ∧
    (∀ {h a b c d e f g : AHeap}, Ext h (h ++ a ++ b ++ c ++ d ++ e ++ f ++ g) = True) ∧
    (∀ {h a b c d e f g i : AHeap}, Ext h (h ++ a ++ b ++ c ++ d ++ e ++ f ++ g ++ i) = True) ∧
    (∀ {h a b c d e f g i j : AHeap}, Ext h (h ++ a ++ b ++ c ++ d ++ e ++ f ++ g ++ i ++ j) = True) :=
  ⟨@ext_0, @ext_1, @ext_2, @ext_3, @ext_4, @ext_5, @ext_6, @ext_7, @ext_8, @ext_9⟩

end Go.Abs
namespace Go.Abs

def ldV : Option AV → Option (AV × Eff)
  | some x => some (x, .keep)
  | none => none
theorem ldV_s {x} : ldV (some x) = some (x, .keep) := rfl
theorem ldB_v {o} {c} {mu tl} : ldB none o (.cells c mu tl) = ldV c[o]? := rfl

/-- Where an element lies, and a field of it. -/
def elp (s : AV) (es i : Nat) : AV := .ptr s.sb (s.so + i * es)
def elf (s : AV) (es i off : Nat) : AV := .ptr s.sb (s.so + i * es + off)
theorem fadr_el {s} {es i off} : fadrF off (elp s es i) = some (elf s es i off) := rfl

section
variable {α : Type} {row : α → List AV} {L : List α} {h k : AHeap} {s : AV} {es : Nat}

theorem IsSl.lenm (hs : IsSl h s es (L.map row)) (G : Nat → Option ABlk) : Go.Abs.lenG .sl G s = some L.length := by
  rw [hs.lenG G, List.length_map]
theorem IsSl.ixm (hs : IsSl h s es (L.map row)) {i : Nat} {kk} (hi : i < L.length) : iadrF es s (.int kk (i : Int)) = some (elp s es i, .keep) := by
  rw [hs.iadr (by omega) (by rw [List.length_map]; omega), Int.toNat_natCast]; rfl
theorem IsSl.ix0 (hs : IsSl h s es (L.map row)) {kk} (hi : 0 < L.length) : iadrF es s (.int kk 0) = some (elp s es 0, .keep) := hs.ixm hi
theorem IsSl.ldm (hs : IsSl h s es (L.map row)) {i} (hi : i < L.length) (e : Ext h k) : loadF (some es) (elp s es i) (fun b => k[b]?) = some (.agg (row L[i]), .keep) := by
  rw [elp, hs.loadE e (by rw [List.length_map]; exact hi), List.getElem_map]
theorem IsSl.lfm (hs : IsSl h s es (L.map row)) {i off} {x} (hi : i < L.length) (hx : (row L[i])[off]? = some x) (e : Ext h k) : loadF none (elf s es i off) (fun b => k[b]?) = some (x, .keep) :=
  hs.loadfE e (by rw [List.length_map]; exact hi) (by rw [List.getElem_map]; exact hx)
theorem IsSl.l1m (hs : IsSl h s es (L.map row)) {i} {x} (hi : i < L.length) (hx : (row L[i])[0]? = some x) (e : Ext h k) : loadF none (elp s es i) (fun b => k[b]?) = some (x, .keep) :=
  hs.load0E e (by rw [List.length_map]; exact hi) (by rw [List.getElem_map]; exact hx)
end

theorem wrapN {n : Nat} (h : n + 1 < 2 ^ 63) : IntKind.i64.wrap ((n : Int) + 1) = ((n + 1 : Nat) : Int) := by rw [wrap_in (by omega) (by omega)]; rfl

def lv : Option (AV × Eff) → Option AV
  | some (v, _) => some v
  | none => none
theorem lv_s {v} {e} : lv (some (v, e)) = some v := rfl
theorem resVal_l {ts} {h} {a} {n} : resVal ts h (a, some n) = lv (loadF n (slot ts a) (fun b => h[b]?)) := by
  simp only [resVal, fnK, val, slot]
  cases ts.getD a undefA with
  | ptr b o =>
    simp only [loadF]
    cases h[b]? with
    | none => rfl
    | some k =>
      cases k with
      | cells c mu tl =>
        cases n with
        | none => simp only; cases c[o]? <;> rfl
        | some n => simp only; by_cases hc : o + n ≤ c.length
                    · rw [if_pos hc, if_pos hc]; rfl
                    · rw [if_neg hc, if_neg hc]; rfl
      | _ => rfl
  | _ => rfl
def tup2 : Option AV → Option AV → Option AV
  | some a, some b => some (.tup [a, b])
  | _, _ => none
def tup3 : Option AV → Option AV → Option AV → Option AV
  | some a, some b, some c => some (.tup [a, b, c])
  | _, _, _ => none
theorem tup2_s {a b} : tup2 (some a) (some b) = some (.tup [a, b]) := rfl
theorem tup3_s {a b c} : tup3 (some a) (some b) (some c) = some (.tup [a, b, c]) := rfl
theorem resAll_v1 {ts} {h} {r} : resAll [r] ts h = resVal ts h r := by
  simp only [resAll, resVals]
  cases resVal ts h r <;> rfl
theorem resAll_v2 {ts} {h} {r s} : resAll [r, s] ts h = tup2 (resVal ts h r) (resVal ts h s) := by
  simp only [resAll, resVals]
  cases resVal ts h r <;> cases resVal ts h s <;> rfl
theorem resAll_v3 {ts} {h} {r s t} : resAll [r, s, t] ts h = tup3 (resVal ts h r) (resVal ts h s) (resVal ts h t) := by
  simp only [resAll, resVals]
  cases resVal ts h r <;> cases resVal ts h s <;> cases resVal ts h t <;> rfl
theorem resVal_n {ts} {h} {a} : resVal ts h (a, none) = some (slot ts a) := rfl
theorem resAll_L : ∀ {ts} {h} {x} {nx}, resAll [(x, some nx)] ts h = lv (loadF nx (slot ts x) (fun b => h[b]?)) := by
  intros; rw [resAll_v1]; simp only [resVal_l, resVal_n]
theorem resAll_NL : ∀ {ts} {h} {x y} {ny}, resAll [(x, none), (y, some ny)] ts h = tup2 (some (slot ts x)) (lv (loadF ny (slot ts y) (fun b => h[b]?))) := by
  intros; rw [resAll_v2]; simp only [resVal_l, resVal_n]
theorem resAll_LN : ∀ {ts} {h} {x y} {nx}, resAll [(x, some nx), (y, none)] ts h = tup2 (lv (loadF nx (slot ts x) (fun b => h[b]?))) (some (slot ts y)) := by
  intros; rw [resAll_v2]; simp only [resVal_l, resVal_n]
theorem resAll_LL : ∀ {ts} {h} {x y} {nx ny}, resAll [(x, some nx), (y, some ny)] ts h = tup2 (lv (loadF nx (slot ts x) (fun b => h[b]?))) (lv (loadF ny (slot ts y) (fun b => h[b]?))) := by
  intros; rw [resAll_v2]; simp only [resVal_l, resVal_n]
theorem resAll_NNL : ∀ {ts} {h} {x y z} {nz}, resAll [(x, none), (y, none), (z, some nz)] ts h = tup3 (some (slot ts x)) (some (slot ts y)) (lv (loadF nz (slot ts z) (fun b => h[b]?))) := by
  intros; rw [resAll_v3]; simp only [resVal_l, resVal_n]
theorem resAll_NLN : ∀ {ts} {h} {x y z} {ny}, resAll [(x, none), (y, some ny), (z, none)] ts h = tup3 (some (slot ts x)) (lv (loadF ny (slot ts y) (fun b => h[b]?))) (some (slot ts z)) := by
  intros; rw [resAll_v3]; simp only [resVal_l, resVal_n]
theorem resAll_NLL : ∀ {ts} {h} {x y z} {ny nz}, resAll [(x, none), (y, some ny), (z, some nz)] ts h = tup3 (some (slot ts x)) (lv (loadF ny (slot ts y) (fun b => h[b]?))) (lv (loadF nz (slot ts z) (fun b => h[b]?))) := by
  intros; rw [resAll_v3]; simp only [resVal_l, resVal_n]
theorem resAll_LNN : ∀ {ts} {h} {x y z} {nx}, resAll [(x, some nx), (y, none), (z, none)] ts h = tup3 (lv (loadF nx (slot ts x) (fun b => h[b]?))) (some (slot ts y)) (some (slot ts z)) := by
  intros; rw [resAll_v3]; simp only [resVal_l, resVal_n]
theorem resAll_LNL : ∀ {ts} {h} {x y z} {nx nz}, resAll [(x, some nx), (y, none), (z, some nz)] ts h = tup3 (lv (loadF nx (slot ts x) (fun b => h[b]?))) (some (slot ts y)) (lv (loadF nz (slot ts z) (fun b => h[b]?))) := by
  intros; rw [resAll_v3]; simp only [resVal_l, resVal_n]
theorem resAll_LLN : ∀ {ts} {h} {x y z} {nx ny}, resAll [(x, some nx), (y, some ny), (z, none)] ts h = tup3 (lv (loadF nx (slot ts x) (fun b => h[b]?))) (lv (loadF ny (slot ts y) (fun b => h[b]?))) (some (slot ts z)) := by
  intros; rw [resAll_v3]; simp only [resVal_l, resVal_n]
theorem resAll_LLL : ∀ {ts} {h} {x y z} {nx ny nz}, resAll [(x, some nx), (y, some ny), (z, some nz)] ts h = tup3 (lv (loadF nx (slot ts x) (fun b => h[b]?))) (lv (loadF ny (slot ts y) (fun b => h[b]?))) (lv (loadF nz (slot ts z) (fun b => h[b]?))) := by
  intros; rw [resAll_v3]; simp only [resVal_l, resVal_n]
theorem eqvF_f {b} : eqvF false (some b) = some (.bool b) := rfl
theorem eqvF_t {b} : eqvF true (some b) = some (.bool !b) := rfl
def andO (b : Bool) (o : Option Bool) : Option Bool :=
  match b with
  | true => o
  | false => some false
theorem andO_s {b c} : andO b (some c) = some (b && c) := by cases b <;> rfl
theorem eqc_i {k} {a b} {ks} {xs ys} : eqCells (.i :: ks) (.int k a :: xs) (.int k b :: ys) = andO (decide (a = b)) (eqCells ks xs ys) := by
  by_cases hab : a = b
  · simp [eqCells, eqQ, eqCell, hab, andO]
  · have : (a == b) = false := by simp [hab]
    simp [eqCells, eqQ, eqCell, hab, andO, this]
theorem eqc_s {a b} {ks} {xs ys} : eqCells (.s :: ks) (.str a :: xs) (.str b :: ys) = andO (decide (a = b)) (eqCells ks xs ys) := by
  by_cases hab : a = b
  · simp [eqCells, eqQ, eqCell, hab, andO]
  · have : (a == b) = false := by simp [hab]
    simp [eqCells, eqQ, eqCell, hab, andO, this]
theorem eqc_b {a b} {ks} {xs ys} : eqCells (.b :: ks) (.bool a :: xs) (.bool b :: ys) = andO (a == b) (eqCells ks xs ys) := by
  cases a <;> cases b <;> rfl
theorem eqc_n : eqCells [] [] [] = some true := rfl
theorem eqA {ks} {xs ys} (h1 : xs.length = ks.length) (h2 : ys.length = ks.length) : eqvK (.agg ks) (.agg xs) (.agg ys) = eqCells ks xs ys := by
  simp only [eqvK, eqAgg]; rw [if_pos ⟨h1, h2⟩]
theorem eq_1b {a b} : eqvK (.one .b) (.bool a) (.bool b) = some (a == b) := rfl
theorem ck_lenc {a : CK} {l : List CK} : (a :: l).length = l.length + 1 := rfl
theorem ck_len0 : ([] : List CK).length = 0 := rfl
theorem Fr.lt {N} {h} {s} {es} {cs} (hs : Fr N h s es cs) {b o n e} (hb : s = .slice b o n e) : N ≤ b ∧ b < h.length := by
  cases hs with
  | nil => cases hb
  | mk hN h1 he => cases hb; exact ⟨hN, (List.getElem?_eq_some_iff.1 h1).1⟩
theorem IsSl.lt {h} {s} {es} {cs} (hs : IsSl h s es cs) {b o n e} (hb : s = .slice b o n e) : b < h.length := by
  cases hs with
  | nil => cases hb
  | mk h1 hf ho he => cases hb; exact (List.getElem?_eq_some_iff.1 h1).1
/-- Another beginning of the same length may stand in its place. -/
theorem Fr.swap {A B g} {s} {es} {cs} (hs : Fr A.length (A ++ g) s es cs) (hl : B.length = A.length) : Fr A.length (B ++ g) s es cs := by
  cases hs with
  | nil => exact .nil
  | @mk _ _ _ tl hN h1 he' =>
    refine .mk (tl := tl) hN ?_ he'
    rw [List.getElem?_append_right (by omega)] at h1 ⊢
    rw [hl]; exact h1

/-- The built-in append of something on a slice of its own: the new slice lies in a block of its own, behind all others. -/
theorem WR.app1 {P} {ro} {ks} {ts} {Q} {h} {s y} {es} {cs ys} {h0} {w} {d} {l}
    (hs : Fr h0.length h s es cs) (hy : IsSl h y es ys) (hes : 0 < es) (hne : 0 < ys.length) (hsz : (cs.length + ys.length) * w ≤ 2 ^ 46) (he : Ext h0 h)
    (K : ∀ g, (h0 ++ g).length = h.length + 1 → Fr h0.length (h0 ++ g) (.slice h.length 0 (cs ++ ys).length es) es (cs ++ ys) → (∀ b, b < h.length → (∀ b0 o n e, s = .slice b0 o n e → b ≠ b0) → (h0 ++ g)[b]? = h[b]?) → WP P ro l ks (put ts d (.slice h.length 0 (cs ++ ys).length es)) (h0 ++ g) Q) :
    WR P ro (appT es w s y (fun b => h[b]?) h.length) false d l ks ts h Q := by
  have hrows : ∀ x ∈ cs ++ ys, x.length = es := fun x hx => by
    rcases List.mem_append.1 hx with hx | hx
    · exact hs.isSl.rows x hx
    · exact hy.rows x hx
  have hk : ¬ ys.length = 0 := by omega
  simp only [appT, hy.cellsG]
  cases hs with
  | nil =>
    simp only [List.length_nil, Nat.zero_add] at hsz
    simp only [if_neg hk, if_pos hsz]
    rw [WR_push]
    have hx := Fr.push (N := h0.length) he.len ys hy.rows
    obtain ⟨g, rfl⟩ := he
    have hK := K (g ++ [.cells ys.flatten true true]) (by simp; omega)
    simp only [← List.append_assoc, List.nil_append] at hK
    exact hK hx fun b hb _ => List.getElem?_append_left hb
  | @mk b _ _ tl hN hb hre =>
    have hcl := flatten_len hre
    cases tl with
    | false =>
      simp only [if_true, if_neg hk, if_pos hsz, hb, Nat.zero_add]
      rw [if_pos (by omega), WR_push, List.drop_zero]
      have hx := Fr.push (h := h) (N := h0.length) (es := es) he.len (cs ++ ys) hrows
      simp only [List.length_append, List.flatten_append] at hx ⊢
      obtain ⟨g, rfl⟩ := he
      have hK := K (g ++ [.cells (cs.flatten ++ ys.flatten) true true]) (by simp; omega)
      simp only [← List.append_assoc, List.length_append, List.flatten_append] at hK hx ⊢
      exact hK hx fun b hb _ => List.getElem?_append_left (by simpa using hb)
    | true =>
    simp only [if_true, if_neg hk, if_pos hsz, hb, Nat.zero_add]
    rw [if_pos (by omega), WR_setPush]
    have hbl : b < h.length := (List.getElem?_eq_some_iff.1 hb).1
    have hx := Fr.push (h := h.set b .dead) (N := h0.length) (es := es) (by simpa using he.len) (cs ++ ys) hrows
    have hc : List.take (cs.length * es) (List.drop 0 cs.flatten) = cs.flatten := by rw [List.drop_zero, ← hcl, List.take_length]
    rw [hc]
    obtain ⟨g, rfl⟩ := he
    have hset : (h0 ++ g).set b .dead ++ [ABlk.cells (cs.flatten ++ ys.flatten) true true] = h0 ++ (g.set (b - h0.length) .dead ++ [ABlk.cells (cs.flatten ++ ys.flatten) true true]) := by
      rw [List.set_append_right _ _ hN, List.append_assoc]
    have hK := K (g.set (b - h0.length) .dead ++ [.cells (cs.flatten ++ ys.flatten) true true]) (by simp; omega)
    rw [← hset] at hK
    simp only [List.length_set, List.flatten_append, List.length_append] at hx hK ⊢
    refine hK hx ?_
    intro i hi hne
    have := hne b 0 _ _ rfl
    rw [List.getElem?_append_left (by simpa using hi), List.getElem?_set_ne (Ne.symm this)]
theorem one_i {k} {n} : AV.one (.int k n) = true := rfl
theorem one_b {b} : AV.one (.bool b) = true := rfl
theorem one_s {b} : AV.one (.str b) = true := rfl
theorem one_p {b o} : AV.one (.ptr b o) = true := rfl
theorem one_l {b o n e} : AV.one (.slice b o n e) = true := rfl
theorem one_n : AV.one .nilSlice = true := rfl
theorem one_f {f} {a c} : AV.one (.func f a c) = true := rfl
theorem all_c {a} {l} : (a :: l).all AV.one = (a.one && l.all AV.one) := rfl
theorem all_n : ([] : List AV).all AV.one = true := rfl

/-- Short forms in the functions' texts. -/
def IOp.o (n : Nat) (k : OpK) : IOp := ⟨some n, k, none, false⟩
def IOp.x (k : OpK) : IOp := ⟨none, k, none, false⟩
def IOp.m (n i : Nat) : IOp := ⟨some n, .mov (.t i), none, false⟩
def IOp.y (n : Nat) (k : OpK) : IOp := ⟨some n, k, none, true⟩
def IOp.l (n i : Nat) : IOp := ⟨some n, .load none (.t i), none, false⟩
def IOp.a (n o i : Nat) : IOp := ⟨some n, .fadr o (.t i), none, false⟩
def IOp.c (n f : Nat) (l : List Opd) : IOp := ⟨some n, .call (.f f) l, none, false⟩
def IOp.b (n : Nat) (k : BinOp) (x y : Opd) : IOp := ⟨some n, .bin k x y, none, false⟩
def IOp.e (n i j : Nat) : IOp := ⟨some n, .ext (.t i) j, none, false⟩
def IOp.s (w i j : Nat) : IOp := ⟨none, .store w (.t i) (.t j), none, false⟩
def IOp.r (n w i : Nat) : IOp := ⟨some n, .load (some w) (.t i), none, false⟩
def IOp.p (n i : Nat) : IOp := ⟨some n, .box (.t i), none, false⟩
def IOp.u (n : Nat) (k : BinOp) (i j : Nat) : IOp := ⟨some n, .bin k (.t i) (.t j), none, false⟩
def IOp.h (n w i j : Nat) : IOp := ⟨some n, .iadr w (.t i) (.t j), none, false⟩
def IOp.d (n i j : Nat) : IOp := ⟨some n, .pick (.t i) (.t j) (.c (.bool false)), none, false⟩
def IOp.f (n i j : Nat) : IOp := ⟨some n, .pick (.t i) (.c (.bool true)) (.t j), none, false⟩
def IOp.n (n i : Nat) : IOp := ⟨some n, .len .sl (.t i), none, false⟩
def Opd.n (k : Int) : Opd := .c (.int .i64 k)
def ICode.s (l : List IOp) (b : ICode) : ICode := .seq (.ops l) b
def ICode.r (l : List IOp) : ICode := .seq (.ops l) .ret
def IOp.j (n i : Nat) : IOp := ⟨some n, .load none (.t i), none, true⟩
def IOp.w (n i : Nat) : IOp := ⟨some n, .mov (.t i), none, true⟩
def IOp.t (n c : Nat) (b : Bool) (i : Nat) : IOp := ⟨some n, .mov (.t i), some (c, b), false⟩
def IOp.v (n : Nat) (k : BinOp) (i : Nat) (y : Opd) : IOp := ⟨some n, .bin k (.t i) y, none, false⟩
def Opd.T : Opd := .c (.bool true)
def Opd.F : Opd := .c (.bool false)
def ICode.j (n : Nat) (l : List IOp) : ICode := .cond (.t n) (.seq (.ops l) .ret) .skip
def ICode.i (n : Nat) (a b : ICode) : ICode := .cond (.t n) a b
def IOp.g (n c : Nat) (b : Bool) (k : OpK) : IOp := ⟨some n, k, some (c, b), false⟩
def Opd.z : Opd := .c (.int .i64 0)
def Opd.w : Opd := .c (.int .i64 1)

/-- More rules. -/
theorem ds_0 : ∀ {n i}, IOp.m n i = ⟨some n, .mov (.t i), none, false⟩ := rfl
theorem ds_1 : ∀ {n c} {b} {k}, IOp.g n c b k = ⟨some n, k, some (c, b), false⟩ := rfl
theorem ds_2 : ∀ {n} {k}, IOp.o n k = ⟨some n, k, none, false⟩ := rfl
theorem ds_3 : ∀ {k}, IOp.x k = ⟨none, k, none, false⟩ := rfl
theorem ds_4 : (Opd.z = .c (.int .i64 0)) := rfl
theorem ds_5 : (Opd.w = .c (.int .i64 1)) := rfl
theorem dt_q : ∀ {n} {k}, IOp.y n k = ⟨some n, k, none, true⟩ := rfl
theorem dt_l : ∀ {n i}, IOp.l n i = ⟨some n, .load none (.t i), none, false⟩ := rfl
theorem dt_a : ∀ {n o i}, IOp.a n o i = ⟨some n, .fadr o (.t i), none, false⟩ := rfl
theorem dt_c : ∀ {n f} {l}, IOp.c n f l = ⟨some n, .call (.f f) l, none, false⟩ := rfl
theorem dt_b : ∀ {n} {k} {x y}, IOp.b n k x y = ⟨some n, .bin k x y, none, false⟩ := rfl
theorem dt_e : ∀ {n i j}, IOp.e n i j = ⟨some n, .ext (.t i) j, none, false⟩ := rfl
theorem dt_s : ∀ {w i j}, IOp.s w i j = ⟨none, .store w (.t i) (.t j), none, false⟩ := rfl
theorem dt_r : ∀ {n w i}, IOp.r n w i = ⟨some n, .load (some w) (.t i), none, false⟩ := rfl
theorem dt_p : ∀ {n i}, IOp.p n i = ⟨some n, .box (.t i), none, false⟩ := rfl
theorem dt_u : ∀ {n} {k} {i j}, IOp.u n k i j = ⟨some n, .bin k (.t i) (.t j), none, false⟩ := rfl
theorem dt_i : ∀ {n} {a b}, ICode.i n a b = .cond (.t n) a b := rfl
theorem du_IOh : ∀ {n w i j : Nat}, IOp.h n w i j = ⟨some n, .iadr w (.t i) (.t j), none, false⟩ := rfl
theorem du_IOd : ∀ {n i j : Nat}, IOp.d n i j = ⟨some n, .pick (.t i) (.t j) (.c (.bool false)), none, false⟩ := rfl
theorem du_IOf : ∀ {n i j : Nat}, IOp.f n i j = ⟨some n, .pick (.t i) (.c (.bool true)) (.t j), none, false⟩ := rfl
theorem du_IOn : ∀ {n i : Nat}, IOp.n n i = ⟨some n, .len .sl (.t i), none, false⟩ := rfl
theorem du_Opn : ∀ {k : Int}, Opd.n k = .c (.int .i64 k) := rfl
theorem du_ICs : ∀ {l : List IOp} {b : ICode}, ICode.s l b = .seq (.ops l) b := rfl
theorem du_ICr : ∀ {l : List IOp}, ICode.r l = .seq (.ops l) .ret := rfl
theorem du_ICj : ∀ {n : Nat} {l : List IOp}, ICode.j n l = .cond (.t n) (.seq (.ops l) .ret) .skip := rfl
theorem dv_IOj : ∀ {n i : Nat}, IOp.j n i = ⟨some n, .load none (.t i), none, true⟩ := rfl
theorem dv_IOw : ∀ {n i : Nat}, IOp.w n i = ⟨some n, .mov (.t i), none, true⟩ := rfl
theorem dv_IOt : ∀ {n c : Nat} {b : Bool} {i : Nat}, IOp.t n c b i = ⟨some n, .mov (.t i), some (c, b), false⟩ := rfl
theorem dv_IOv : ∀ {n : Nat} {k : BinOp} {i : Nat} {y : Opd}, IOp.v n k i y = ⟨some n, .bin k (.t i) y, none, false⟩ := rfl
theorem dv_T : Opd.T = .c (.bool true) := rfl
theorem dv_F : Opd.F = .c (.bool false) := rfl
def uset := A8 @dv_T @dv_F @dv_IOj @dv_IOw @dv_IOt @dv_IOv @du_ICj (A24 @du_IOh @du_IOd @du_IOf @du_IOn @du_Opn @du_ICs @du_ICr @dt_q @dt_l @dt_a @dt_c @dt_b @dt_e @dt_s @dt_r @dt_p @dt_u @dt_i @ds_0 @ds_1 @ds_2 @ds_3 @ds_4 @ds_5)
def dset := A3 uset (A18 @Nat.zero_add @ldV_s @ldB_v @lv_s @tup2_s @tup3_s @resAll_L @resAll_NL @resAll_LN @resAll_LL @resAll_NNL @resAll_NLN @resAll_NLL @resAll_LNN @resAll_LNL @resAll_LLN @resAll_LLL @eqvF_f) (A22 @eqvF_t @andO_s @eqc_i @eqc_s @eqc_b @eqc_n @eqA @eq_1b @ck_lenc @ck_len0 @fadr_el @one_i @one_b @one_s @one_p @one_l @one_n @one_f @all_c @all_n @Bool.true_and @box_agg)

/-- A slot that is there. -/
def inS (o : Option AV) (X : Prop) : Prop :=
  match o with
  | some _ => X
  | none => False
/-- Boxes that are filled at once. -/
theorem bset :
    (∀ {P} {ro} {ks} {ts} {h} {Q} {q} {l} {n i} {x}, WP P ro ({ dst := some i, k := .boxn n x, gd := none, q := q } :: l) ks ts h Q = inS ts[i]? (WR P ro (boxnF n (val ts x) h.length) q (some i) l ks ts h Q)) ∧
    (∀ {a : AV} {X : Prop}, inS (some a) X = X) ∧
    (∀ {k : IntKind} {z : Int} {N : Nat}, boxnF 1 (.int k z) N = some (.ptr N 0, .push (.cells [.int k z] true false))) ∧
    (∀ {b : Bool} {N : Nat}, boxnF 1 (.bool b) N = some (.ptr N 0, .push (.cells [.bool b] true false))) ∧
    (∀ {b : List UInt8} {N : Nat}, boxnF 1 (.str b) N = some (.ptr N 0, .push (.cells [.str b] true false))) ∧
    (∀ {N : Nat}, boxF .nilSlice N = some (.ptr N 0, .push (.cells [.nilSlice] true false))) ∧
    (∀ {v : AV} {N : Nat} (_ : v.one = true), boxF v N = some (.ptr N 0, .push (.cells [v] true false))) ∧
    (∀ {v : AV} {N : Nat} (_ : v.one = true), boxnF 1 v N = some (.ptr N 0, .push (.cells [v] true false))) ∧
    (∀ {l : List AV} {n N : Nat} (_ : l.all AV.one = true) (_ : l.length = n), boxnF n (.agg l) N = some (.ptr N 0, .push (.cells l true false))) := by
  refine ⟨?_, rfl, rfl, rfl, rfl, rfl, ?_, ?_, ?_⟩
  · intro P ro ks ts h Q q l n i x
    rw [WP_boxn]
    by_cases hi : i < ts.length
    · rw [List.getElem?_eq_getElem hi]
      simp [inS, hi]
    · rw [List.getElem?_eq_none (by omega)]
      simp [inS, hi]
  · intro v N h
    simp only [boxF, AV.cells_one h]
    rw [if_pos (by simp [h])]
  · intro v N h
    simp only [boxnF, AV.cells_one h]
    rw [if_pos ⟨by simp [h], rfl⟩]
  · intro l n N h1 h2
    unfold boxnF
    exact if_pos ⟨h1, h2⟩

end Go.Abs
namespace Go.Abs

/-- Where a place is known by its number. -/
theorem kset :
    (∀ {b o : Nat} {n : Option Nat} {X : AHeap} {K : ABlk} (_ : b = X.length), loadF n (.ptr b o) (fun z => (X ++ [K])[z]?) = ldB n o K) ∧
    (∀ {b o : Nat} {n : Option Nat} {X a : AHeap} (_ : b < X.length), loadF n (.ptr b o) (fun z => (X ++ a)[z]?) = loadF n (.ptr b o) (fun z => X[z]?)) ∧
    (∀ {b o y : Nat} {v : AV} {X : AHeap} {K : ABlk} (_ : b = X.length), storeF y (.ptr b o) v (fun z => (X ++ [K])[z]?) = stB y o v b K) ∧
    (∀ {b o y : Nat} {v : AV} {X a : AHeap} (_ : b < X.length), storeF y (.ptr b o) v (fun z => (X ++ a)[z]?) = storeF y (.ptr b o) v (fun z => X[z]?)) ∧
    (∀ {b : Nat} {X : AHeap} {K K' : ABlk} (_ : b = X.length), (X ++ [K]).set b K' = X ++ [K']) ∧
    (∀ {b : Nat} {X a : AHeap} {K' : ABlk} (_ : b < X.length), (X ++ a).set b K' = X.set b K' ++ a) ∧
    (∀ {b pos : Nat} {s : List UInt8} {X : AHeap} (_ : b = X.length), nextF (.ptr b 0) (fun z => (X ++ [.iter s pos])[z]?) = nextB b s pos) ∧
    (∀ {b : Nat} {X a : AHeap} (_ : b < X.length), nextF (.ptr b 0) (fun z => (X ++ a)[z]?) = nextF (.ptr b 0) (fun z => X[z]?)) := by
  refine ⟨fun h => ?_, fun h => ?_, fun h => ?_, fun h => ?_, fun h => ?_, fun h => ?_, fun h => ?_, fun h => ?_⟩
  · subst h; exact loadF_at at_new
  · simp only [loadF, at_app _ h]
  · subst h; exact storeF_at at_new
  · simp only [storeF, at_app _ h]
  · subst h; exact set_new
  · exact set_app _ _ h
  · subst h; exact nextF_at at_new
  · simp only [nextF, at_app _ h]

end Go.Abs
