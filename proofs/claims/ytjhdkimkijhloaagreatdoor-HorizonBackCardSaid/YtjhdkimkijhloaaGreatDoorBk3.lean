import Derived.Test.YtjhdkimkijhloaaGreatDoorBk2
import Derived.ChangeArms
import Derived.Deep.Slices
import Derived.WideShapes
import Derived.ChangeShapes
import Derived.ChangeMaps5
import Derived.OpenShut
import Derived.Carry
import Derived.ChangeSame
import Derived.RowKit
import Derived.ProofKit
import Derived.LaidMore
import Derived.Lay
import Derived.SevenTiedAt
import Derived.Stop.Joined
set_option linter.all false
namespace Go.Abs
def Ext (h h' : AHeap) : Prop := ∃ g, h' = h ++ g
theorem Ext.refl (h : AHeap) : Ext h h := ⟨[], by simp⟩
theorem Ext.app {h k : AHeap} (g : AHeap) (e : Ext h k) : Ext h (k ++ g) := by
  obtain ⟨x, rfl⟩ := e; exact ⟨x ++ g, by simp⟩
theorem Ext.trans {a b c : AHeap} (h : Ext a b) (k : Ext b c) : Ext a c := by
  obtain ⟨x, rfl⟩ := h; obtain ⟨y, rfl⟩ := k; exact ⟨x ++ y, by simp⟩
theorem Ext.get {h k : AHeap} (e : Ext h k) {b : Nat} (hb : b < h.length) : k[b]? = h[b]? := by
  obtain ⟨x, rfl⟩ := e; exact List.getElem?_append_left hb
theorem Ext.some {h k : AHeap} (e : Ext h k) {b : Nat} {x : ABlk} (hb : h[b]? = some x) : k[b]? = some x := by
  rw [e.get (List.getElem?_eq_some_iff.1 hb).1]; exact hb
theorem Ext.len {h k : AHeap} (e : Ext h k) : h.length ≤ k.length := by
  obtain ⟨x, rfl⟩ := e; simp
def CallQ (P : Program) (q : Bool) (fv : AV) (args : List AV) (h : AHeap) (K : AV → AHeap → Prop) : Prop :=
  ∃ v h', SCallV P fv args h v h' ∧ (q = true → Ext h h') ∧ K v h'
def Eff.quiet : Eff → Bool
  | .keep => true
  | .push _ => true
  | _ => false
theorem Eff.quiet_ext {e : Eff} {h : AHeap} (he : e.quiet = true) : Ext h (e.app h) := by
  cases e with
  | keep => exact Ext.refl h
  | push k => exact ⟨[k], rfl⟩
  | set b k => cases he
  | setPush b k k' => cases he
def WK (P : Program) (q : Bool) (k : OpK) (ρ : Opd → AV) (h : AHeap) (K : AV → AHeap → Prop) : Prop :=
  match k with
  | .call f args => CallQ P q (ρ f) (args.map ρ) h K
  | k =>
    match stepT k ρ (fun b => h[b]?) h.length with
    | some (v, e) => (q = true → e.quiet = true) ∧ K v (e.app h)
    | none => False
def inK (d : Option Nat) (k : OpK) (n : Nat) (X : Prop) : Prop :=
  match k, d with
  | .boxn _ _, some d => d < n ∧ X
  | _, _ => X
theorem inK_iff {d : Option Nat} {k : OpK} {n : Nat} {X : Prop} : inK d k n X ↔ inR d k n ∧ X := by
  cases k <;> cases d <;> simp [inK, inR]
theorem inK.mono {d : Option Nat} {k : OpK} {n : Nat} {X Y : Prop} (h : X → Y) (x : inK d k n X) : inK d k n Y := inK_iff.2 ⟨(inK_iff.1 x).1, h (inK_iff.1 x).2⟩
def WS (P : Program) (o : IOp) (ts : TS) (h : AHeap) (K : AV → AHeap → Prop) : Prop :=
  match o.gd with
  | none => inK o.dst o.k ts.length (WK P o.q o.k (val ts) h K)
  | some (t, b) =>
    match val ts (.t t) with
    | .bool c => if c = b then inK o.dst o.k ts.length (WK P o.q o.k (val ts) h K) else K undefA h
    | _ => K undefA h
def WO (P : Program) : List IOp → TS → AHeap → (TS → AHeap → Prop) → Prop
  | [], ts, h, Q => Q ts h
  | o :: r, ts, h, Q => WS P o ts h (fun v h1 => WO P r (put ts o.dst v) h1 Q)
theorem WK.sound {P : Program} {q : Bool} {k : OpK} {ρ : Opd → AV} {h : AHeap} {K : AV → AHeap → Prop} (H : WK P q k ρ h K) : ∃ v h', OpStep P k ρ h v h' ∧ (q = true → Ext h h') ∧ K v h' := by
  by_cases hc : ∃ f args, k = .call f args
  · obtain ⟨f, args, rfl⟩ := hc
    exact H
  · have H' : (match stepT k ρ (fun b => h[b]?) h.length with
      | some (v, e) => (q = true → e.quiet = true) ∧ K v (e.app h)
      | none => False) := by
      cases k <;> first | exact H | exact absurd ⟨_, _, rfl⟩ hc
    split at H'
    case h_2 => exact H'.elim
    rename_i v e he
    refine ⟨v, e.app h, ?_, fun hq => Eff.quiet_ext (H'.1 hq), H'.2⟩
    have := stepT_ok he
    cases k <;> first | exact this | exact absurd ⟨_, _, rfl⟩ hc
theorem WS.sound {P : Program} {o : IOp} {ts : TS} {h : AHeap} {K : AV → AHeap → Prop} (H : WS P o ts h K) : ∃ v h', IStep P o ts h (put ts o.dst v) h' ∧ (o.q = true → ∃ g, h' = h ++ g) ∧ K v h' := by
  have run : wanted o.gd ts → inK o.dst o.k ts.length (WK P o.q o.k (val ts) h K) → ∃ v h', IStep P o ts h (put ts o.dst v) h' ∧ (o.q = true → ∃ g, h' = h ++ g) ∧ K v h' := fun hw hk => by
    obtain ⟨hb, hk⟩ := inK_iff.1 hk
    obtain ⟨v, h', h1, h2, h3⟩ := hk.sound
    exact ⟨v, h', .run hw hb h1, h2, h3⟩
  have skip : ¬ wanted o.gd ts → K undefA h → ∃ v h', IStep P o ts h (put ts o.dst v) h' ∧ (o.q = true → ∃ g, h' = h ++ g) ∧ K v h' := fun hw hk =>
    ⟨undefA, h, .skip hw, fun _ => Ext.refl h, hk⟩
  unfold WS at H
  split at H
  · rename_i hg
    exact run (by rw [hg]; trivial) H
  · rename_i t b hg
    split at H
    · rename_i c hv
      have hx : ts[t]? = some (.bool c) := by
        simp only [val, List.getD] at hv
        cases hy : ts[t]? with
        | none => rw [hy] at hv; cases hv
        | some z => rw [hy] at hv; simp only [Option.getD_some] at hv; rw [hv]
      split at H
      · rename_i hcb
        subst hcb
        exact run (by rw [hg]; exact hx) H
      · rename_i hcb
        refine skip (fun hw => hcb ?_) H
        rw [hg] at hw
        simp only [wanted, hx, Option.some.injEq, AV.bool.injEq] at hw
        exact hw
    · rename_i hv
      refine skip (fun hw => ?_) H
      rw [hg] at hw
      simp only [wanted] at hw
      exact hv b (by simp [val, List.getD, hw])
theorem WO.sound {P : Program} : ∀ {l : List IOp} {ts : TS} {h : AHeap} {Q : TS → AHeap → Prop}, WO P l ts h Q → ∃ ts' h', IOps P l ts h ts' h' ∧ Q ts' h'
  | [], ts, h, Q, H => ⟨ts, h, ⟨rfl, rfl⟩, H⟩
  | o :: r, ts, h, Q, H => by
    obtain ⟨v, h1, h2, h3, h4⟩ := WS.sound H
    obtain ⟨ts', h', h5, h6⟩ := WO.sound (l := r) h4
    exact ⟨ts', h', ⟨_, h1, h2, h3, h5⟩, h6⟩
def W (P : Program) (ro : Option Nat → Prop) : ICode → TS → AHeap → (Ex → TS → AHeap → Prop) → Prop
  | .skip, ts, h, Q => Q .normal ts h
  | .ops l, ts, h, Q => WO P l ts h (Q .normal)
  | .opsS l, ts, h, Q => WOS h l ts [] fun ts' cs => accOk cs ∧ Q .normal ts' (accApp h cs)
  | .seq a b, ts, h, Q => W P ro a ts h fun e ts1 h1 =>
    match e with
    | .normal => W P ro b ts1 h1 Q
    | .exit id => Q (.exit id) ts1 h1
    | .ret => Q .ret ts1 h1
  | .cond c a b, ts, h, Q =>
    match val ts c with
    | .bool t => (t = true → W P ro a ts h Q) ∧ (t = false → W P ro b ts h Q)
    | _ => False
  | .block id a, ts, h, Q => W P ro a ts h fun e => Q (e.inBlock id)
  | .loop a, ts, h, Q => ∃ e ts' h', (∀ r, ro r → LoopR P r a ts h e ts' h') ∧ Q e ts' h'
  | .exit id, ts, h, Q => Q (.exit id) ts h
  | .ret, ts, h, Q => Q .ret ts h
  | .rangeF g ps asg body, ts, h, Q => ∃ e ts' h', (∀ r, ro r → Ev P r (.rangeF g ps asg body) ts h e ts' h') ∧ Q e ts' h'
  | .bad, _, _, _ => False
def inFn : Option Nat → Prop := fun r => r = none
def inRd : Option Nat → Prop := fun r => ∃ l, r = some l
theorem W.sound {P : Program} (hmix : P.follows .mixedOrders = true) {ro : Option Nat → Prop} : ∀ {c : ICode} {ts : TS} {h : AHeap} {Q : Ex → TS → AHeap → Prop}, W P ro c ts h Q → ∃ e ts' h', (∀ r, ro r → Ev P r c ts h e ts' h') ∧ Q e ts' h'
  | .skip, ts, h, Q, H => ⟨.normal, ts, h, fun _ _ => .skip, H⟩
  | .ops l, ts, h, Q, H => by
    obtain ⟨ts', h', h1, h2⟩ := WO.sound (l := l) H
    exact ⟨.normal, ts', h', fun _ _ => .ops hmix h1, h2⟩
  | .opsS l, ts, h, Q, H => by
    obtain ⟨cs2, cs3, ts', h1, ⟨h2, h3⟩, h4, h5⟩ := WOS.sound (l := l) H
    rw [List.nil_append] at h2 h3
    exact ⟨.normal, ts', accApp h cs2, fun _ _ => .opsS hmix h1 (by simpa using h4 [] [] (by simpa using h2)), by rw [h5]; exact h3⟩
  | .seq a b, ts, h, Q, H => by
    obtain ⟨e, ts1, h1, h2, h3⟩ := W.sound hmix (c := a) H
    cases e with
    | normal =>
      obtain ⟨e, ts', h', h4, h5⟩ := W.sound hmix (c := b) h3
      exact ⟨e, ts', h', fun r hr => .seq (h2 r hr) (h4 r hr), h5⟩
    | exit id => exact ⟨_, ts1, h1, fun r hr => .seq_jump (h2 r hr) (by simp), h3⟩
    | ret => exact ⟨_, ts1, h1, fun r hr => .seq_jump (h2 r hr) (by simp), h3⟩
  | .cond c a b, ts, h, Q, H => by
    unfold W at H
    split at H
    case h_2 => exact H.elim
    rename_i t hv
    cases t with
    | true =>
      obtain ⟨e, ts', h', h4, h5⟩ := W.sound hmix (c := a) (H.1 rfl)
      exact ⟨e, ts', h', fun r hr => .cond hv (h4 r hr), h5⟩
    | false =>
      obtain ⟨e, ts', h', h4, h5⟩ := W.sound hmix (c := b) (H.2 rfl)
      exact ⟨e, ts', h', fun r hr => .cond hv (h4 r hr), h5⟩
  | .block id a, ts, h, Q, H => by
    obtain ⟨e, ts', h', h4, h5⟩ := W.sound hmix (c := a) H
    exact ⟨_, ts', h', fun r hr => .block (h4 r hr), h5⟩
  | .loop a, ts, h, Q, H => by
    obtain ⟨e, ts', h', h4, h5⟩ := H
    exact ⟨e, ts', h', fun r hr => .loop (h4 r hr), h5⟩
  | .exit id, ts, h, Q, H => ⟨_, ts, h, fun _ _ => .exit, H⟩
  | .ret, ts, h, Q, H => ⟨_, ts, h, fun _ _ => .ret, H⟩
  | .rangeF g ps asg body, ts, h, Q, H => H
  | .bad, ts, h, Q, H => H.elim
theorem CallQ.mono {P : Program} {q : Bool} {fv : AV} {args : List AV} {h : AHeap} {K K' : AV → AHeap → Prop} (H : CallQ P q fv args h K) (hk : ∀ v h', K v h' → K' v h') : CallQ P q fv args h K' := by
  obtain ⟨v, h', h1, h2, h3⟩ := H; exact ⟨v, h', h1, h2, hk v h' h3⟩
theorem WK.mono {P : Program} {q : Bool} {k : OpK} {ρ : Opd → AV} {h : AHeap} {K K' : AV → AHeap → Prop} (H : WK P q k ρ h K) (hk : ∀ v h', K v h' → K' v h') : WK P q k ρ h K' := by
  by_cases hc : ∃ f args, k = .call f args
  · obtain ⟨f, args, rfl⟩ := hc
    exact CallQ.mono H hk
  · have H' : (match stepT k ρ (fun b => h[b]?) h.length with
      | some (v, e) => (q = true → e.quiet = true) ∧ K v (e.app h)
      | none => False) := by
      cases k <;> first | exact H | exact absurd ⟨_, _, rfl⟩ hc
    have G' : (match stepT k ρ (fun b => h[b]?) h.length with
      | some (v, e) => (q = true → e.quiet = true) ∧ K' v (e.app h)
      | none => False) := by
      split at H'
      case h_2 => exact H'.elim
      exact ⟨H'.1, hk _ _ H'.2⟩
    cases k <;> first | exact G' | exact absurd ⟨_, _, rfl⟩ hc
theorem WS.mono {P : Program} {o : IOp} {ts : TS} {h : AHeap} {K K' : AV → AHeap → Prop} (H : WS P o ts h K) (hk : ∀ v h', K v h' → K' v h') : WS P o ts h K' := by
  unfold WS at H ⊢
  cases hg : o.gd with
  | none => rw [hg] at H; exact inK.mono (fun z => WK.mono z hk) H
  | some p =>
    obtain ⟨t, b⟩ := p
    rw [hg] at H
    simp only at H ⊢
    cases hv : val ts (.t t) with
    | bool c =>
      rw [hv] at H
      simp only at H ⊢
      by_cases hcb : c = b
      · rw [if_pos hcb] at H ⊢; exact inK.mono (fun z => WK.mono z hk) H
      · rw [if_neg hcb] at H ⊢; exact hk _ _ H
    | _ => rw [hv] at H; exact hk _ _ H
theorem WO.mono {P : Program} : ∀ {l : List IOp} {ts : TS} {h : AHeap} {Q Q' : TS → AHeap → Prop}, WO P l ts h Q → (∀ ts' h', Q ts' h' → Q' ts' h') → WO P l ts h Q'
  | [], ts, h, Q, Q', H, hq => hq _ _ H
  | o :: r, ts, h, Q, Q', H, hq => WS.mono (o := o) H fun v h1 h2 => WO.mono (l := r) h2 hq
theorem W.mono {P : Program} {ro : Option Nat → Prop} : ∀ {c : ICode} {ts : TS} {h : AHeap} {Q Q' : Ex → TS → AHeap → Prop}, W P ro c ts h Q → (∀ e ts' h', Q e ts' h' → Q' e ts' h') → W P ro c ts h Q'
  | .skip, ts, h, Q, Q', H, hq => hq _ _ _ H
  | .ops l, ts, h, Q, Q', H, hq => WO.mono (l := l) H (hq .normal)
  | .opsS l, ts, h, Q, Q', H, hq => WOS.mono (l := l) H fun ts' cs h1 => ⟨h1.1, hq _ _ _ h1.2⟩
  | .seq a b, ts, h, Q, Q', H, hq => W.mono (c := a) H fun e ts1 h1 h2 => by
    cases e with
    | normal => exact W.mono (c := b) h2 hq
    | exit id => exact hq _ _ _ h2
    | ret => exact hq _ _ _ h2
  | .cond c a b, ts, h, Q, Q', H, hq => by
    unfold W at H ⊢
    split at H
    case h_2 => exact H.elim
    exact ⟨fun h => W.mono (c := a) (H.1 h) hq, fun h => W.mono (c := b) (H.2 h) hq⟩
  | .block id a, ts, h, Q, Q', H, hq => W.mono (c := a) H fun e ts1 h1 h2 => hq _ _ _ h2
  | .loop a, ts, h, Q, Q', H, hq => by obtain ⟨e, ts', h', h4, h5⟩ := H; exact ⟨e, ts', h', h4, hq _ _ _ h5⟩
  | .exit id, ts, h, Q, Q', H, hq => hq _ _ _ H
  | .ret, ts, h, Q, Q', H, hq => hq _ _ _ H
  | .rangeF g ps asg body, ts, h, Q, Q', H, hq => by obtain ⟨e, ts', h', h4, h5⟩ := H; exact ⟨e, ts', h', h4, hq _ _ _ h5⟩
  | .bad, ts, h, Q, Q', H, hq => H.elim
inductive Kt where
  | seqK (b : ICode)
  | blockK (id : Nat)
def kq (P : Program) (ro : Option Nat → Prop) : List Kt → (Ex → TS → AHeap → Prop) → Ex → TS → AHeap → Prop
  | [], Q, e, ts, h => Q e ts h
  | .seqK b :: ks, Q, e, ts, h =>
    match e with
    | .normal => W P ro b ts h (kq P ro ks Q)
    | .exit id => kq P ro ks Q (.exit id) ts h
    | .ret => kq P ro ks Q .ret ts h
  | .blockK id :: ks, Q, e, ts, h => kq P ro ks Q (e.inBlock id) ts h
section
variable (P : Program) (ro : Option Nat → Prop)
def WC (c : ICode) (ks : List Kt) (ts : TS) (h : AHeap) (Q : Ex → TS → AHeap → Prop) : Prop := W P ro c ts h (kq P ro ks Q)
def WE (e : Ex) (ks : List Kt) (ts : TS) (h : AHeap) (Q : Ex → TS → AHeap → Prop) : Prop := kq P ro ks Q e ts h
def WP (l : List IOp) (ks : List Kt) (ts : TS) (h : AHeap) (Q : Ex → TS → AHeap → Prop) : Prop := WO P l ts h (kq P ro ks Q .normal)
def WG (g : AV) (b : Bool) (q : Bool) (k : OpK) (dst : Option Nat) (l : List IOp) (ks : List Kt) (ts : TS) (h : AHeap) (Q : Ex → TS → AHeap → Prop) : Prop :=
  match g with
  | .bool c => if c = b then inK dst k ts.length (WK P q k (val ts) h (fun v h1 => WP P ro l ks (put ts dst v) h1 Q)) else WP P ro l ks (put ts dst undefA) h Q
  | _ => WP P ro l ks (put ts dst undefA) h Q
def WR (r : Option (AV × Eff)) (q : Bool) (dst : Option Nat) (l : List IOp) (ks : List Kt) (ts : TS) (h : AHeap) (Q : Ex → TS → AHeap → Prop) : Prop :=
  match r with
  | some (v, e) => (q = true → e.quiet = true) ∧ WP P ro l ks (put ts dst v) (e.app h) Q
  | none => False
def WF (q : Bool) (fv : AV) (args : List AV) (dst : Option Nat) (l : List IOp) (ks : List Kt) (ts : TS) (h : AHeap) (Q : Ex → TS → AHeap → Prop) : Prop :=
  CallQ P q fv args h (fun v h1 => WP P ro l ks (put ts dst v) h1 Q)
def WB (v : AV) (a b : ICode) (ks : List Kt) (ts : TS) (h : AHeap) (Q : Ex → TS → AHeap → Prop) : Prop :=
  match v with
  | .bool t => (t = true → WC P ro a ks ts h Q) ∧ (t = false → WC P ro b ks ts h Q)
  | _ => False
def WL (a : ICode) (ks : List Kt) (ts : TS) (h : AHeap) (Q : Ex → TS → AHeap → Prop) : Prop := WC P ro (.loop a) ks ts h Q
def WRg (g : AV) (ps : List Nat) (asg body : ICode) (ks : List Kt) (ts : TS) (h : AHeap) (Q : Ex → TS → AHeap → Prop) : Prop :=
  ∃ e ts' h', (∀ r, ro r → ∀ g', val ts g' = g → Ev P r (.rangeF g' ps asg body) ts h e ts' h') ∧ WE P ro e ks ts' h' Q
end
def LQ (I : Nat → TS → AHeap → Prop) (n : Nat) (R : Ex → TS → AHeap → Prop) : Ex → TS → AHeap → Prop
  | .normal, ts, h => ∃ m, m < n ∧ I m ts h
  | .exit id, ts, h => R (.exit id) ts h
  | .ret, ts, h => R .ret ts h
def FQ (rs : List (Nat × Option (Option Nat))) (R : AV → AHeap → Prop) : Ex → TS → AHeap → Prop := fun e ts h => e.leaves = true ∧ ∃ v, resAll rs ts h = some v ∧ R v h
def FRes (r : Option AV) (h : AHeap) (R : AV → AHeap → Prop) : Prop :=
  match r with
  | some v => R v h
  | none => False
section
variable {P : Program} {ro : Option Nat → Prop} {ks : List Kt} {ts : TS} {h : AHeap} {Q : Ex → TS → AHeap → Prop}
theorem WC_skip : WC P ro .skip ks ts h Q = WE P ro .normal ks ts h Q := rfl
theorem WC_ops {l : List IOp} : WC P ro (.ops l) ks ts h Q = WP P ro l ks ts h Q := rfl
theorem WC_seq {a b : ICode} : WC P ro (.seq a b) ks ts h Q = WC P ro a (.seqK b :: ks) ts h Q := by
  unfold WC
  simp only [W]
  congr 1
theorem WC_cond {c : Opd} {a b : ICode} : WC P ro (.cond c a b) ks ts h Q = WB P ro (val ts c) a b ks ts h Q := rfl
theorem WC_block {id : Nat} {a : ICode} : WC P ro (.block id a) ks ts h Q = WC P ro a (.blockK id :: ks) ts h Q := rfl
theorem WC_loop {a : ICode} : WC P ro (.loop a) ks ts h Q = WL P ro a ks ts h Q := rfl
theorem WC_exit {id : Nat} : WC P ro (.exit id) ks ts h Q = WE P ro (.exit id) ks ts h Q := rfl
theorem WC_ret : WC P ro .ret ks ts h Q = WE P ro .ret ks ts h Q := rfl
theorem WE_seqN {b : ICode} : WE P ro .normal (.seqK b :: ks) ts h Q = WC P ro b ks ts h Q := rfl
theorem WE_seqX {b : ICode} {id : Nat} : WE P ro (.exit id) (.seqK b :: ks) ts h Q = WE P ro (.exit id) ks ts h Q := rfl
theorem WE_seqR {b : ICode} : WE P ro .ret (.seqK b :: ks) ts h Q = WE P ro .ret ks ts h Q := rfl
theorem WE_blockN {id : Nat} : WE P ro .normal (.blockK id :: ks) ts h Q = WE P ro .normal ks ts h Q := rfl
theorem WE_blockX {id id' : Nat} : WE P ro (.exit id') (.blockK id :: ks) ts h Q = if id' = id then WE P ro .normal ks ts h Q else WE P ro (.exit id') ks ts h Q := by
  unfold WE
  simp only [kq, Ex.inBlock]
  split <;> rfl
theorem WE_blockR {id : Nat} : WE P ro .ret (.blockK id :: ks) ts h Q = WE P ro .ret ks ts h Q := rfl
theorem WE_nil {e : Ex} : WE P ro e [] ts h Q = Q e ts h := rfl
theorem WP_nil : WP P ro [] ks ts h Q = WE P ro .normal ks ts h Q := rfl
theorem WP_op {d : Option Nat} {k : OpK} {q : Bool} {l : List IOp} (hk : ∀ f args, k ≠ .call f args) (hb : ∀ n x, k ≠ .boxn n x) : WP P ro ({ dst := d, k := k, gd := none, q := q } :: l) ks ts h Q = WR P ro (stepT k (val ts) (fun b => h[b]?) h.length) q d l ks ts h Q := by
  cases k <;> first | exact absurd rfl (hk _ _) | exact absurd rfl (hb _ _) | rfl
theorem WP_call {d : Option Nat} {f : Opd} {args : List Opd} {q : Bool} {l : List IOp} : WP P ro ({ dst := d, k := .call f args, gd := none, q := q } :: l) ks ts h Q = WF P ro q (val ts f) (args.map (val ts)) d l ks ts h Q := rfl
theorem WP_gd {d : Option Nat} {k : OpK} {t : Nat} {b q : Bool} {l : List IOp} : WP P ro ({ dst := d, k := k, gd := some (t, b), q := q } :: l) ks ts h Q = WG P ro (val ts (.t t)) b q k d l ks ts h Q := rfl
theorem WG_no {d : Option Nat} {k : OpK} {b q : Bool} {l : List IOp} (c : Bool) (hc : c ≠ b) : WG P ro (.bool c) b q k d l ks ts h Q = WP P ro l ks (put ts d undefA) h Q := by
  simp only [WG, if_neg hc]
theorem WG_yes {d : Option Nat} {k : OpK} {b q : Bool} {l : List IOp} : WG P ro (.bool b) b q k d l ks ts h Q = WP P ro ({ dst := d, k := k, gd := none, q := q } :: l) ks ts h Q := by
  simp only [WG, if_pos]
  rfl
theorem WR_keep {v : AV} {q : Bool} {d : Option Nat} {l : List IOp} : WR P ro (some (v, .keep)) q d l ks ts h Q = WP P ro l ks (put ts d v) h Q := by
  simp only [WR, Eff.quiet, Eff.app, implies_true, true_and]
theorem WR_push {v : AV} {k : ABlk} {q : Bool} {d : Option Nat} {l : List IOp} : WR P ro (some (v, .push k)) q d l ks ts h Q = WP P ro l ks (put ts d v) (h ++ [k]) Q := by
  simp only [WR, Eff.quiet, Eff.app, implies_true, true_and]
theorem WR_set {v : AV} {b : Nat} {k : ABlk} {d : Option Nat} {l : List IOp} : WR P ro (some (v, .set b k)) false d l ks ts h Q = WP P ro l ks (put ts d v) (h.set b k) Q := by
  simp only [WR, Eff.app, Bool.false_eq_true, false_implies, true_and]
theorem WR_setPush {v : AV} {b : Nat} {k k' : ABlk} {d : Option Nat} {l : List IOp} : WR P ro (some (v, .setPush b k k')) false d l ks ts h Q = WP P ro l ks (put ts d v) (h.set b k ++ [k']) Q := by
  simp only [WR, Eff.app, Bool.false_eq_true, false_implies, true_and]
theorem WB_true {a b : ICode} : WB P ro (.bool true) a b ks ts h Q = WC P ro a ks ts h Q := by simp [WB]
theorem WB_false {a b : ICode} : WB P ro (.bool false) a b ks ts h Q = WC P ro b ks ts h Q := by simp [WB]
theorem WB.split {a b : ICode} {t : Bool} (ht : t = true → WC P ro a ks ts h Q) (hf : t = false → WC P ro b ks ts h Q) : WB P ro (.bool t) a b ks ts h Q := ⟨ht, hf⟩
theorem LQ_N {I : Nat → TS → AHeap → Prop} {n : Nat} {R : Ex → TS → AHeap → Prop} : LQ I n R .normal ts h = ∃ m, m < n ∧ I m ts h := rfl
theorem LQ_X {I : Nat → TS → AHeap → Prop} {n : Nat} {R : Ex → TS → AHeap → Prop} {id : Nat} : LQ I n R (.exit id) ts h = R (.exit id) ts h := rfl
theorem LQ_R {I : Nat → TS → AHeap → Prop} {n : Nat} {R : Ex → TS → AHeap → Prop} : LQ I n R .ret ts h = R .ret ts h := rfl
theorem FQ_N {rs : List (Nat × Option (Option Nat))} {R : AV → AHeap → Prop} : FQ rs R .normal ts h = FRes (resAll rs ts h) h R := by
  simp only [FQ, FRes, Ex.leaves, true_and]
  cases resAll rs ts h <;> simp
theorem FQ_R {rs : List (Nat × Option (Option Nat))} {R : AV → AHeap → Prop} : FQ rs R .ret ts h = FRes (resAll rs ts h) h R := by
  simp only [FQ, FRes, Ex.leaves, true_and]
  cases resAll rs ts h <;> simp
theorem FR_some {v : AV} {R : AV → AHeap → Prop} : FRes (some v) h R = R v h := rfl
theorem WL.inv (hmix : P.follows .mixedOrders = true) {a : ICode} (I : Nat → TS → AHeap → Prop) (n : Nat) (h0 : I n ts h)
    (step : ∀ (n : Nat) (ts : TS) (h : AHeap), I n ts h → WC P ro a [] ts h (LQ I n (fun e ts h => WE P ro e ks ts h Q))) : WL P ro a ks ts h Q := by
  have key : ∀ (k n : Nat) (ts : TS) (h : AHeap), n ≤ k → I n ts h → ∃ e ts' h', (∀ r, ro r → LoopR P r a ts h e ts' h') ∧ kq P ro ks Q e ts' h' := by
    intro k
    induction k with
    | zero =>
      intro n ts h hn hi
      obtain ⟨e, ts', h', h1, h2⟩ := W.sound hmix (step n ts h hi)
      cases e with
      | normal => obtain ⟨m, hm, _⟩ := h2; omega
      | exit id => exact ⟨_, ts', h', fun r hr => .out (h1 r hr) (by simp), h2⟩
      | ret => exact ⟨_, ts', h', fun r hr => .out (h1 r hr) (by simp), h2⟩
    | succ k ih =>
      intro n ts h hn hi
      obtain ⟨e, ts', h', h1, h2⟩ := W.sound hmix (step n ts h hi)
      cases e with
      | normal =>
        obtain ⟨m, hm, hi'⟩ := h2
        obtain ⟨e2, ts2, h3, h4, h5⟩ := ih m ts' h' (by omega) hi'
        exact ⟨e2, ts2, h3, fun r hr => .more (h1 r hr) (h4 r hr), h5⟩
      | exit id => exact ⟨_, ts', h', fun r hr => .out (h1 r hr) (by simp), h2⟩
      | ret => exact ⟨_, ts', h', fun r hr => .out (h1 r hr) (by simp), h2⟩
  exact key n n ts h (Nat.le_refl _) h0
theorem WC.cut {a : ICode} (R : Ex → TS → AHeap → Prop) (h1 : WC P ro a [] ts h R) (h2 : ∀ e ts h, R e ts h → WE P ro e ks ts h Q) : WC P ro a ks ts h Q :=
  W.mono (c := a) h1 h2
def RCall (P : Program) (f : FuncId) (args : List AV) (h : AHeap) (R : AV → AHeap → Prop) : Prop := ∃ v g, SCall P f args h v (h ++ g) ∧ R v (h ++ g)
def VCall (P : Program) (fv : AV) (args : List AV) (h : AHeap) (R : AV → AHeap → Prop) : Prop := ∃ v g, SCallV P fv args h v (h ++ g) ∧ R v (h ++ g)
def GCall (P : Program) (f : FuncId) (args : List AV) (h : AHeap) (R : AV → AHeap → Prop) : Prop := ∃ v h', SCall P f args h v h' ∧ R v h'
theorem GCall.of (hmix : P.follows .mixedOrders = true) {f : FuncId} {A : AFunc} (hA : compileFn P f = some A) {args : List AV} {R : AV → AHeap → Prop}
    (H : WC P inFn A.body [] (startTS A.nt args) h (FQ A.rs R)) : GCall P f args h R := by
  obtain ⟨e, ts', h', h1, h2, v, h3, h4⟩ := W.sound hmix H
  exact ⟨v, h', .of_ev hA (h1 none rfl) h2 h3, h4⟩
theorem RCall.of (hmix : P.follows .mixedOrders = true) {f : FuncId} {A : AFunc} (hA : compileFn P f = some A) {args : List AV} {R : AV → AHeap → Prop}
    (H : WC P inFn A.body [] (startTS A.nt args) h (FQ A.rs (fun v h' => Ext h h' ∧ R v h'))) : RCall P f args h R := by
  obtain ⟨v, h', h1, ⟨g, rfl⟩, h3⟩ := GCall.of hmix hA H
  exact ⟨v, g, h1, h3⟩
theorem RCall.mono {f : FuncId} {args : List AV} {R R' : AV → AHeap → Prop} (H : RCall P f args h R) (hr : ∀ v g, R v (h ++ g) → R' v (h ++ g)) : RCall P f args h R' := by
  obtain ⟨v, g, h1, h2⟩ := H; exact ⟨v, g, h1, hr v g h2⟩
theorem VCall.of {f : FuncId} {A : AFunc} (hA : compileFn P f = some A) {a c args : List AV} {R : AV → AHeap → Prop} (H : RCall P f (a ++ args ++ c) h R) : VCall P (.func (.func f) a c) args h R := by
  obtain ⟨v, g, h1, h2⟩ := H
  exact ⟨v, g, .of_call hA h1, h2⟩
theorem VCall.mono {fv : AV} {args : List AV} {R R' : AV → AHeap → Prop} (H : VCall P fv args h R) (hr : ∀ v g, R v (h ++ g) → R' v (h ++ g)) : VCall P fv args h R' := by
  obtain ⟨v, g, h1, h2⟩ := H; exact ⟨v, g, h1, hr v g h2⟩
theorem WF.val {q : Bool} {fv : AV} {args : List AV} {d : Option Nat} {l : List IOp} {R : AV → AHeap → Prop} (H : VCall P fv args h R) (K : ∀ v g, R v (h ++ g) → WP P ro l ks (put ts d v) (h ++ g) Q) : WF P ro q fv args d l ks ts h Q := by
  obtain ⟨v, g, h1, h2⟩ := H
  exact ⟨v, h ++ g, h1, fun _ => ⟨g, rfl⟩, K v g h2⟩
theorem WF.res {q : Bool} {f : FuncId} {A : AFunc} (hA : compileFn P f = some A) {a c args : List AV} {d : Option Nat} {l : List IOp} {R : AV → AHeap → Prop} (H : RCall P f (a ++ args ++ c) h R) (K : ∀ v g, R v (h ++ g) → WP P ro l ks (put ts d v) (h ++ g) Q) : WF P ro q (.func (.func f) a c) args d l ks ts h Q :=
  WF.val (VCall.of hA H) K
theorem WF.gen {f : FuncId} {A : AFunc} (hA : compileFn P f = some A) {a c args : List AV} {d : Option Nat} {l : List IOp} {R : AV → AHeap → Prop} (H : GCall P f (a ++ args ++ c) h R) (K : ∀ v h', R v h' → WP P ro l ks (put ts d v) h' Q) : WF P ro false (.func (.func f) a c) args d l ks ts h Q := by
  obtain ⟨v, h', h1, h2⟩ := H
  exact ⟨v, h', .of_call hA h1, (fun hq => absurd hq (by simp)), K v h' h2⟩
end
end Go.Abs
namespace Go.Abs
inductive IsSl (h : AHeap) : AV → Nat → List (List AV) → Prop
  | nil {es : Nat} : IsSl h .nilSlice es []
  | mk {b o es : Nat} {cs : List (List AV)} {c : List AV} {mu tl : Bool} (hb : h[b]? = some (.cells c mu tl)) (hf : (c.drop o).take (cs.length * es) = cs.flatten) (ho : o + cs.length * es ≤ c.length)
      (he : ∀ x ∈ cs, x.length = es) : IsSl h (.slice b o cs.length es) es cs
inductive Fr (N : Nat) (h : AHeap) : AV → Nat → List (List AV) → Prop
  | nil {es : Nat} : Fr N h .nilSlice es []
  | mk {b es : Nat} {cs : List (List AV)} {tl : Bool} (hN : N ≤ b) (hb : h[b]? = some (.cells cs.flatten true tl)) (he : ∀ x ∈ cs, x.length = es) : Fr N h (.slice b 0 cs.length es) es cs
def AV.sb : AV → Nat
  | .slice b _ _ _ => b
  | _ => 0
def AV.so : AV → Nat
  | .slice _ o _ _ => o
  | _ => 0
theorem flatten_len {es : Nat} : ∀ {cs : List (List AV)}, (∀ x ∈ cs, x.length = es) → cs.flatten.length = cs.length * es
  | [], _ => by simp
  | x :: xs, he => by
    have h1 := he x (by simp)
    have h2 := flatten_len (cs := xs) (fun y hy => he y (List.mem_cons_of_mem _ hy))
    simp only [List.flatten_cons, List.length_append, List.length_cons, h1, h2, Nat.succ_mul]
    omega
theorem flatten_row {es : Nat} : ∀ {cs : List (List AV)}, (∀ x ∈ cs, x.length = es) → ∀ {i : Nat} (hi : i < cs.length), (cs.flatten.drop (i * es)).take es = cs[i]
  | [], _, i, hi => by simp at hi
  | x :: xs, he, 0, _ => by
    have h1 := he x (by simp)
    simp [← h1]
  | x :: xs, he, i + 1, hi => by
    have h1 := he x (by simp)
    have h2 := flatten_row (cs := xs) (fun y hy => he y (List.mem_cons_of_mem _ hy)) (i := i) (by simpa using hi)
    simp only [List.flatten_cons, List.getElem_cons_succ, ← h2]
    congr 1
    rw [Nat.succ_mul, Nat.add_comm, ← h1, List.drop_append]
    simp
theorem Fr.isSl {N : Nat} {h : AHeap} {s : AV} {es : Nat} {cs : List (List AV)} (hs : Fr N h s es cs) : IsSl h s es cs := by
  cases hs with
  | nil => exact .nil
  | mk hN hb he =>
    have hl := flatten_len he
    exact .mk hb (by rw [List.drop_zero, ← hl, List.take_length]) (by omega) he
section
variable {h k : AHeap} {s : AV} {es : Nat} {cs : List (List AV)}
theorem IsSl.keep (hs : IsSl h s es cs) (hk : ∀ b, b < h.length → (∀ b0 o n e, s = .slice b0 o n e → b = b0) → k[b]? = h[b]?) : IsSl k s es cs := by
  cases hs with
  | nil => exact .nil
  | mk hb hf ho he =>
    refine .mk ((hk _ (List.getElem?_eq_some_iff.1 hb).1 fun b0 o n e hx => ?_).trans hb) hf ho he
    cases hx; rfl
theorem IsSl.ext (hs : IsSl h s es cs) (e : Ext h k) : IsSl k s es cs := hs.keep fun _ hb _ => e.get hb
theorem IsSl.app (hs : IsSl h s es cs) (g : AHeap) : IsSl (h ++ g) s es cs := hs.ext ⟨g, rfl⟩
theorem Fr.keep {N : Nat} (hs : Fr N h s es cs) (hk : ∀ b, b < h.length → (∀ b0 o n e, s = .slice b0 o n e → b = b0) → k[b]? = h[b]?) : Fr N k s es cs := by
  cases hs with
  | nil => exact .nil
  | mk hN hb he =>
    refine .mk hN ((hk _ (List.getElem?_eq_some_iff.1 hb).1 fun b0 o n e hx => ?_).trans hb) he
    cases hx; rfl
theorem Fr.ext {N : Nat} (hs : Fr N h s es cs) (e : Ext h k) : Fr N k s es cs := hs.keep fun _ hb _ => e.get hb
theorem Fr.app {N : Nat} (hs : Fr N h s es cs) (g : AHeap) : Fr N (h ++ g) s es cs := hs.ext ⟨g, rfl⟩
theorem Fr.low {N M : Nat} (hs : Fr N h s es cs) (hM : M ≤ N) : Fr M h s es cs := by
  cases hs with
  | nil => exact .nil
  | mk hN hb he => exact .mk (by omega) hb he
theorem IsSl.rows (hs : IsSl h s es cs) : ∀ x ∈ cs, x.length = es := by
  cases hs with
  | nil => simp
  | mk hb hf ho he => exact he
theorem IsSl.lenG (hs : IsSl h s es cs) (G : Nat → Option ABlk) : lenG .sl G s = some cs.length := by
  cases hs <;> rfl
theorem IsSl.one (hs : IsSl h s es cs) : s.one = true := by
  cases hs <;> rfl
theorem IsSl.cells (hs : IsSl h s es cs) : s.cells = [s] := by
  cases hs <;> rfl
theorem IsSl.cellsG (hs : IsSl h s es cs) : cellsG es (fun b => h[b]?) s = some (cs.flatten, cs.length) := by
  cases hs with
  | nil => rfl
  | mk hb hf ho he => simp only [Go.Abs.cellsG, if_true, hb]; rw [if_pos ho, hf]
def iadrF (es : Nat) (x i : AV) : Option (AV × Eff) :=
  match x, i with
  | .slice b o n es', .int _ i => if es' = es ∧ 0 ≤ i ∧ i < n then some (.ptr b (o + i.toNat * es), .keep) else none
  | _, _ => none
def loadF (n : Option Nat) (a : AV) (G : Nat → Option ABlk) : Option (AV × Eff) :=
  match a with
  | .ptr b o =>
    match G b with
    | some (.cells c _ _) =>
      match n with
      | none =>
        match c[o]? with
        | some x => some (x, .keep)
        | none => none
      | some n => if o + n ≤ c.length then some (.agg ((c.drop o).take n), .keep) else none
    | _ => none
  | _ => none
def slF (es : Nat) (x : AV) (lo hi : Option AV) : Option (AV × Eff) :=
  match x with
  | .slice b o n es' =>
    if es' = es then
      match bnds lo hi n with
      | some (l, h') => some (.slice b (o + l * es) (h' - l) es, .keep)
      | none => none
    else none
  | .nilSlice =>
    match bnds lo hi 0 with
    | some _ => some (.nilSlice, .keep)
    | none => none
  | _ => none
theorem IsSl.iadr (hs : IsSl h s es cs) {i : Int} {k : IntKind} (h0 : 0 ≤ i) (h1 : i < cs.length) : iadrF es s (.int k i) = some (.ptr s.sb (s.so + i.toNat * es), .keep) := by
  cases hs with
  | nil => simp at h1; omega
  | mk hb hf ho he => show (if es = es ∧ 0 ≤ i ∧ i < cs.length then _ else none) = _; rw [if_pos ⟨rfl, h0, h1⟩]; rfl
theorem IsSl.load (hs : IsSl h s es cs) {i : Nat} (hi : i < cs.length) : loadF (some es) (.ptr s.sb (s.so + i * es)) (fun b => h[b]?) = some (.agg cs[i], .keep) := by
  cases hs with
  | nil => simp at hi
  | @mk b o es cs c mu tl hb hf ho he =>
    have hle : i * es + es ≤ cs.length * es := by rw [← Nat.succ_mul]; exact Nat.mul_le_mul_right _ hi
    have h1 := flatten_row he hi
    show loadF (some es) (.ptr b (o + i * es)) (fun b => h[b]?) = _
    simp only [loadF, hb]
    rw [if_pos (by omega), ← h1, ← hf, List.drop_take, List.take_take, List.drop_drop, Nat.min_eq_left (by omega)]
theorem IsSl.loadf (hs : IsSl h s es cs) {i off : Nat} (hi : i < cs.length) {x : AV} (hx : cs[i][off]? = some x) : loadF none (.ptr s.sb (s.so + i * es + off)) (fun b => h[b]?) = some (x, .keep) := by
  cases hs with
  | nil => simp at hi
  | @mk b o es cs c mu tl hb hf ho he =>
    have hle : i * es + es ≤ cs.length * es := by rw [← Nat.succ_mul]; exact Nat.mul_le_mul_right _ hi
    have h1 := flatten_row he hi
    have h2 := he _ (List.getElem_mem hi)
    have h3 := (List.getElem?_eq_some_iff.1 hx).1
    rw [← h1, ← hf, List.drop_take, List.take_take, List.drop_drop, Nat.min_eq_left (by omega), List.getElem?_take] at hx
    rw [if_pos (by omega), List.getElem?_drop] at hx
    show loadF none (.ptr b (o + i * es + off)) (fun b => h[b]?) = _
    simp only [loadF, hb, hx]
theorem IsSl.load1 (hs : IsSl h s 1 cs) {i : Nat} (hi : i < cs.length) {x : AV} (hx : cs[i] = [x]) : loadF none (.ptr s.sb (s.so + i * 1)) (fun b => h[b]?) = some (x, .keep) :=
  hs.loadf (off := 0) hi (by rw [hx]; rfl)
theorem IsSl.sl (hs : IsSl h s es cs) {lo hi : Option AV} {l u : Nat} (hb : bnds lo hi cs.length = some (l, u)) : ∃ s', slF es s lo hi = some (s', .keep) ∧ IsSl h s' es ((cs.drop l).take (u - l)) := by
  have hlu : l ≤ u ∧ u ≤ cs.length := by
    unfold bnds at hb
    split at hb
    case h_2 => cases hb
    split at hb
    case isFalse => cases hb
    cases hb; omega
  cases hs with
  | nil =>
    simp only [List.length_nil] at hb
    exact ⟨.nilSlice, by simp only [slF, hb], by simp; exact .nil⟩
  | @mk b o es cs c mu tl hbk hf ho he =>
    have hlen : ((cs.drop l).take (u - l)).length = u - l := by simp; omega
    refine ⟨.slice b (o + l * es) (u - l) es, by simp only [slF, if_true, hb], ?_⟩
    have hul : (u - l) * es + l * es = u * es := by rw [← Nat.add_mul]; congr 1; omega
    have hu : u * es ≤ cs.length * es := Nat.mul_le_mul_right _ hlu.2
    have : IsSl h (.slice b (o + l * es) ((cs.drop l).take (u - l)).length es) es ((cs.drop l).take (u - l)) := by
      refine .mk hbk ?_ (by rw [hlen]; omega) fun x hx => he x (List.mem_of_mem_drop (List.mem_of_mem_take hx))
      rw [hlen]
      have hsplit : ∀ (cs : List (List AV)) (l n : Nat), (∀ x ∈ cs, x.length = es) → l + n ≤ cs.length → ((cs.drop l).take n).flatten = (cs.flatten.drop (l * es)).take (n * es) := by
        intro cs
        induction cs with
        | nil => intro l n _ _; simp
        | cons x xs ih =>
          intro l n hx hln
          have h1 := hx x (by simp)
          have h2 : ∀ y ∈ xs, y.length = es := fun y hy => hx y (List.mem_cons_of_mem _ hy)
          cases l with
          | succ l =>
            rw [List.drop_succ_cons, ih l n h2 (by simp at hln; omega), List.flatten_cons, show (l + 1) * es = x.length + l * es from by rw [h1, Nat.succ_mul, Nat.add_comm], ← List.drop_drop, List.drop_left]
          | zero =>
            cases n with
            | zero => simp
            | succ n =>
              have := ih 0 n h2 (by simp at hln; omega)
              simp only [List.drop_zero, Nat.zero_mul] at this ⊢
              rw [List.take_succ_cons, List.flatten_cons, this, List.flatten_cons, List.take_append, Nat.succ_mul, List.take_of_length_le (l := x) (by omega), h1]
              simp
      rw [hsplit cs l (u - l) he (by omega), ← hf, List.drop_take, List.take_take, List.drop_drop, Nat.min_eq_left (by rw [Nat.sub_mul] at hul ⊢; omega)]
    rw [hlen] at this
    exact this
theorem Fr.push {N : Nat} (hN : N ≤ h.length) (cs : List (List AV)) (he : ∀ x ∈ cs, x.length = es) : Fr N (h ++ [.cells cs.flatten true true]) (.slice h.length 0 cs.length es) es cs :=
  .mk (tl := true) hN (by simp) he
theorem WR.app {P : Program} {ro : Option Nat → Prop} {ks : List Kt} {ts : TS} {Q : Ex → TS → AHeap → Prop} {y : AV} {ys : List (List AV)} {h0 : AHeap} {w : Nat} {d : Option Nat} {l : List IOp}
    (hs : Fr h0.length h s es cs) (hy : IsSl h y es ys) (hes : 0 < es) (hsz : (cs.length + ys.length) * w ≤ 2 ^ 46) (he : Ext h0 h)
    (K : ∀ s' h', Fr h0.length h' s' es (cs ++ ys) → Ext h0 h' → (∀ b, b < h.length → (∀ b0 o n e, s = .slice b0 o n e → b ≠ b0) → h'[b]? = h[b]?) → WP P ro l ks (put ts d s') h' Q) :
    WR P ro (appT es w s y (fun b => h[b]?) h.length) false d l ks ts h Q := by
  have hrows : ∀ x ∈ cs ++ ys, x.length = es := fun x hx => by
    rcases List.mem_append.1 hx with hx | hx
    · exact hs.isSl.rows x hx
    · exact hy.rows x hx
  have hyl := flatten_len hy.rows
  simp only [appT, hy.cellsG]
  cases hs with
  | nil =>
    simp only [List.length_nil, Nat.zero_add] at hsz
    by_cases hk : ys.length = 0
    · have hys : ys = [] := List.length_eq_zero_iff.1 hk
      subst hys
      simp only [List.length_nil, if_true, List.flatten_nil, List.isEmpty_nil]
      rw [WR_keep]
      exact K _ h .nil he fun _ _ _ => rfl
    · simp only [if_neg hk, if_pos hsz]
      rw [WR_push]
      exact K _ _ (Fr.push he.len ys hy.rows) (he.app _) fun b hb _ => List.getElem?_append_left hb
  | @mk b _ _ tl hN hb hre =>
    by_cases hk : ys.length = 0
    · have hys : ys = [] := List.length_eq_zero_iff.1 hk
      subst hys
      simp only [List.length_nil, if_true, List.flatten_nil, List.isEmpty_nil]
      rw [WR_keep]
      refine K _ h (by simpa using Fr.mk hN hb hre) he fun _ _ _ => rfl
    cases tl with
    | false =>
      have hcl := flatten_len hre
      simp only [if_true, if_neg hk, if_pos hsz, hb, Nat.zero_add]
      rw [if_pos (by omega), WR_push]
      have hx := Fr.push (h := h) (N := h0.length) (es := es) he.len (cs ++ ys) hrows
      simp only [List.length_append, List.flatten_append] at hx
      rw [List.drop_zero]
      exact K _ _ hx (he.app _) fun b hb _ => List.getElem?_append_left hb
    | true =>
      have hcl := flatten_len hre
      simp only [if_true, if_neg hk, if_pos hsz, hb, Nat.zero_add]
      rw [if_pos (by omega), WR_setPush]
      have hbl : b < h.length := (List.getElem?_eq_some_iff.1 hb).1
      refine K _ _ ?_ ?_ ?_
      · have hx := Fr.push (h := h.set b .dead) (N := h0.length) (es := es) (by simpa using he.len) (cs ++ ys) hrows
        simp only [List.length_set, List.length_append, List.flatten_append] at hx
        have hc : List.take (cs.length * es) (List.drop 0 cs.flatten) = cs.flatten := by rw [List.drop_zero, ← hcl, List.take_length]
        rw [hc]
        exact hx
      · obtain ⟨g, rfl⟩ := he
        rw [List.set_append_right _ _ hN, List.append_assoc]
        exact ⟨_, rfl⟩
      · intro i hi hne
        have := hne b 0 _ _ rfl
        rw [List.getElem?_append_left (by simpa using hi), List.getElem?_set_ne (Ne.symm this)]
end
end Go.Abs
namespace Go.Abs
section
variable (P : Program) (ro : Option Nat → Prop)
def WV (r : Option AV) (dst : Option Nat) (l : List IOp) (ks : List Kt) (ts : TS) (h : AHeap) (Q : Ex → TS → AHeap → Prop) : Prop :=
  match r with
  | some v => WP P ro l ks (put ts dst v) h Q
  | none => False
end
def pickF (c a b : AV) : Option AV :=
  match c with
  | .bool t => some (if t then a else b)
  | _ => none
def boxnF (n : Nat) (x : AV) (N0 : Nat) : Option (AV × Eff) := if x.cells.all AV.one = true ∧ x.cells.length = n then some (.ptr N0 0, .push (.cells x.cells true false)) else none
def boxF (x : AV) (N0 : Nat) : Option (AV × Eff) := if x.cells.all AV.one then some (.ptr N0 0, .push (.cells x.cells true false)) else none
def storeF (n : Nat) (a x : AV) (G : Nat → Option ABlk) : Option (AV × Eff) :=
  match a with
  | .ptr b o =>
    match G b with
    | some (.cells c true tl) =>
      if x.cells.length = n ∧ x.cells.all AV.one = true ∧ o + n ≤ c.length then some (undefA, .set b (.cells (setL c o x.cells) true tl)) else none
    | _ => none
  | _ => none
def nilF (x : AV) : Option AV :=
  match x with
  | .ptr b o => some (.ptr b o)
  | .func (.func f) a c => some (.func (.func f) a c)
  | .func (.yield f) a c => some (.func (.yield f) a c)
  | .func (.methodOf t n) a c => some (.func (.methodOf t n) a c)
  | .func (.via t p f q) a c => some (.func (.via t p f q) a c)
  | _ => none
def mkslF (es w : Nat) (z : List AV) (l c : AV) (N0 : Nat) : Option (AV × Eff) :=
  match l, c with
  | .int _ l, .int _ c =>
    if 0 ≤ l ∧ l ≤ c ∧ (w : Int) * c ≤ 2 ^ 48 ∧ c < 2 ^ 63 then some (.slice N0 0 l.toNat es, .push (.cells (zrep l.toNat z) true true)) else none
  | _, _ => none
def slsF (x : AV) (lo hi : Option AV) : Option AV :=
  match x with
  | .str s =>
    match bnds lo hi s.length with
    | some (l, h') => some (.str ((s.drop l).take (h' - l)))
    | none => none
  | _ => none
def fadrF (off : Nat) (x : AV) : Option AV :=
  match x with
  | .ptr b o => some (.ptr b (o + off))
  | _ => none
def iadaF (len es : Nat) (x i : AV) : Option AV :=
  match x, i with
  | .ptr b o, .int _ i => if 0 ≤ i ∧ i < len then some (.ptr b (o + i.toNat * es)) else none
  | _, _ => none
def partF (n : Option Nat) (off : Nat) (x : AV) : Option AV :=
  match x with
  | .agg cs =>
    match n with
    | none => cs[off]?
    | some n => some (.agg ((cs.drop off).take n))
  | _ => none
def ixaF (len es : Nat) (n : Option Nat) (x i : AV) : Option AV :=
  match x, i with
  | .agg cs, .int _ i =>
    if 0 ≤ i ∧ i < len then
      match n with
      | none => cs[i.toNat * es]?
      | some n => some (.agg ((cs.drop (i.toNat * es)).take n))
    else none
  | _, _ => none
def ixsF (x i : AV) : Option AV :=
  match x, i with
  | .str s, .int _ i =>
    if 0 ≤ i then
      match s[i.toNat]? with
      | some b => some (.int .u8 b.toNat)
      | none => none
    else none
  | _, _ => none
def extF (x : AV) (i : Nat) : Option AV :=
  match x with
  | .tup l => l[i]?
  | _ => none
def lenF (o : Option Nat) : Option AV :=
  match o with
  | some n => some (.int .i64 n)
  | none => none
def eqvF (neg : Bool) (o : Option Bool) : Option AV :=
  match o with
  | some b => some (.bool (if neg then !b else b))
  | none => none
def buildF (o : Option (List AV)) : Option AV :=
  match o with
  | some c => some (.agg c)
  | none => none
def bslF (es n : Nat) (o : Option (List AV)) (N0 : Nat) : Option (AV × Eff) :=
  match o with
  | some c => if c.all AV.one = true ∧ c.length = n * es then some (.slice N0 0 n es, .push (.cells c true (!Nat.beq n 0))) else none
  | none => none
section
variable {P : Program} {ro : Option Nat → Prop} {ks : List Kt} {ts : TS} {h : AHeap} {Q : Ex → TS → AHeap → Prop} {d : Option Nat} {q : Bool} {l : List IOp}
theorem WR_of {r : Option (AV × Eff)} {r' : Option AV} (hr : r = r'.map fun v => (v, .keep)) : WR P ro r q d l ks ts h Q = WV P ro r' d l ks ts h Q := by
  subst hr
  cases r' with
  | none => rfl
  | some v => exact WR_keep
theorem WV_some {v : AV} : WV P ro (some v) d l ks ts h Q = WP P ro l ks (put ts d v) h Q := rfl
theorem WP_mov {x : Opd} : WP P ro ({ dst := d, k := .mov x, gd := none, q := q } :: l) ks ts h Q = WP P ro l ks (put ts d (val ts x)) h Q := WR_keep
theorem WP_pick {c a b : Opd} : WP P ro ({ dst := d, k := .pick c a b, gd := none, q := q } :: l) ks ts h Q = WV P ro (pickF (val ts c) (val ts a) (val ts b)) d l ks ts h Q := by
  rw [WP_op (by simp) (by simp)]
  refine WR_of ?_
  simp only [stepT, fnT, pickF]
  cases val ts c <;> rfl
theorem WP_box {x : Opd} : WP P ro ({ dst := d, k := .box x, gd := none, q := q } :: l) ks ts h Q = WR P ro (boxF (val ts x) h.length) q d l ks ts h Q := rfl
theorem WP_boxn {n i : Nat} {x : Opd} : WP P ro ({ dst := some i, k := .boxn n x, gd := none, q := q } :: l) ks ts h Q = (i < ts.length ∧ WR P ro (boxnF n (val ts x) h.length) q (some i) l ks ts h Q) := rfl
theorem WP_build {z : List AV} {ps : List (Nat × Nat × Opd)} : WP P ro ({ dst := d, k := .build z ps, gd := none, q := q } :: l) ks ts h Q = WV P ro (buildF (fillA z (ps.map fun p => (p.1, p.2.1, val ts p.2.2)))) d l ks ts h Q := by
  rw [WP_op (by simp) (by simp)]
  refine WR_of ?_
  simp only [stepT, fnT, buildF]
  cases fillA z (ps.map fun p => (p.1, p.2.1, val ts p.2.2)) <;> rfl
theorem WP_bslice {es n : Nat} {z : List AV} {ps : List (Nat × Opd)} : WP P ro ({ dst := d, k := .bslice es n z ps, gd := none, q := q } :: l) ks ts h Q = WR P ro (bslF es n (fillA (zrep n z) (ps.map fun p => (p.1, es, val ts p.2))) h.length) q d l ks ts h Q := rfl
theorem WP_load {n : Option Nat} {a : Opd} : WP P ro ({ dst := d, k := .load n a, gd := none, q := q } :: l) ks ts h Q = WR P ro (loadF n (val ts a) (fun b => h[b]?)) q d l ks ts h Q := rfl
theorem WP_store {n : Nat} {a x : Opd} : WP P ro ({ dst := d, k := .store n a x, gd := none, q := q } :: l) ks ts h Q = WR P ro (storeF n (val ts a) (val ts x) (fun b => h[b]?)) q d l ks ts h Q := rfl
theorem WP_nilchk {x : Opd} : WP P ro ({ dst := d, k := .nilchk x, gd := none, q := q } :: l) ks ts h Q = WV P ro (nilF (val ts x)) d l ks ts h Q := by
  rw [WP_op (by simp) (by simp)]
  refine WR_of ?_
  simp only [stepT, fnT, nilF]
  cases val ts x with
  | func f a c => cases f <;> rfl
  | _ => rfl
theorem WP_bin {op : BinOp} {x y : Opd} : WP P ro ({ dst := d, k := .bin op x y, gd := none, q := q } :: l) ks ts h Q = WV P ro (binK op (val ts x) (val ts y)) d l ks ts h Q := by
  rw [WP_op (by simp) (by simp)]
  refine WR_of ?_
  simp only [stepT, fnT]
  cases binK op (val ts x) (val ts y) <;> rfl
theorem WP_eqv {neg : Bool} {t : EqT} {x y : Opd} : WP P ro ({ dst := d, k := .eqv neg t x y, gd := none, q := q } :: l) ks ts h Q = WV P ro (eqvF neg (eqvK t (val ts x) (val ts y))) d l ks ts h Q := by
  rw [WP_op (by simp) (by simp)]
  refine WR_of ?_
  simp only [stepT, fnT, eqvF]
  cases eqvK t (val ts x) (val ts y) <;> rfl
theorem WP_un {op : UnOp} {x : Opd} : WP P ro ({ dst := d, k := .un op x, gd := none, q := q } :: l) ks ts h Q = WV P ro (unK op (val ts x)) d l ks ts h Q := by
  rw [WP_op (by simp) (by simp)]
  refine WR_of ?_
  simp only [stepT, fnT]
  cases unK op (val ts x) <;> rfl
theorem WP_conv {k : ConvK} {x : Opd} : WP P ro ({ dst := d, k := .conv k x, gd := none, q := q } :: l) ks ts h Q = WR P ro (convT k (val ts x) (fun b => h[b]?) h.length) q d l ks ts h Q := rfl
theorem WP_mkfn {f : Fn} {a c : List Opd} : WP P ro ({ dst := d, k := .mkfn f a c, gd := none, q := q } :: l) ks ts h Q = WP P ro l ks (put ts d (.func f (a.map (val ts)) (c.map (val ts)))) h Q := WR_keep
theorem WP_mkmap : WP P ro ({ dst := d, k := .mkmap, gd := none, q := q } :: l) ks ts h Q = WP P ro l ks (put ts d (.map h.length)) (h ++ [.mapb []]) Q := WR_push
theorem WP_mksl {es w : Nat} {z : List AV} {a c : Opd} : WP P ro ({ dst := d, k := .mksl es w z a c, gd := none, q := q } :: l) ks ts h Q = WR P ro (mkslF es w z (val ts a) (val ts c) h.length) q d l ks ts h Q := rfl
theorem WP_sl {es : Nat} {x : Opd} {lo hi : Option Opd} : WP P ro ({ dst := d, k := .sl es x lo hi, gd := none, q := q } :: l) ks ts h Q = WR P ro (slF es (val ts x) (lo.map (val ts)) (hi.map (val ts))) q d l ks ts h Q := rfl
theorem WP_sls {x : Opd} {lo hi : Option Opd} : WP P ro ({ dst := d, k := .sls x lo hi, gd := none, q := q } :: l) ks ts h Q = WV P ro (slsF (val ts x) (lo.map (val ts)) (hi.map (val ts))) d l ks ts h Q := by
  rw [WP_op (by simp) (by simp)]
  refine WR_of ?_
  simp only [stepT, fnT, slsF]
  cases val ts x with
  | str s => simp only; cases bnds (Option.map (val ts) lo) (Option.map (val ts) hi) s.length <;> rfl
  | _ => rfl
theorem WP_fadr {off : Nat} {x : Opd} : WP P ro ({ dst := d, k := .fadr off x, gd := none, q := q } :: l) ks ts h Q = WV P ro (fadrF off (val ts x)) d l ks ts h Q := by
  rw [WP_op (by simp) (by simp)]
  refine WR_of ?_
  simp only [stepT, fnT, fadrF]
  cases val ts x <;> rfl
theorem WP_iadr {es : Nat} {x i : Opd} : WP P ro ({ dst := d, k := .iadr es x i, gd := none, q := q } :: l) ks ts h Q = WR P ro (iadrF es (val ts x) (val ts i)) q d l ks ts h Q := rfl
theorem WP_iada {len es : Nat} {x i : Opd} : WP P ro ({ dst := d, k := .iada len es x i, gd := none, q := q } :: l) ks ts h Q = WV P ro (iadaF len es (val ts x) (val ts i)) d l ks ts h Q := by
  rw [WP_op (by simp) (by simp)]
  refine WR_of ?_
  simp only [stepT, fnT, iadaF]
  cases val ts x with
  | ptr b o => cases val ts i <;> first | rfl | (simp only; split <;> rfl)
  | _ => rfl
theorem WP_part {n : Option Nat} {off : Nat} {x : Opd} : WP P ro ({ dst := d, k := .part n off x, gd := none, q := q } :: l) ks ts h Q = WV P ro (partF n off (val ts x)) d l ks ts h Q := by
  rw [WP_op (by simp) (by simp)]
  refine WR_of ?_
  simp only [stepT, fnT, partF]
  cases val ts x with
  | agg cs => cases n <;> first | rfl | (simp only; cases cs[off]? <;> rfl)
  | _ => rfl
theorem WP_ixa {len es : Nat} {n : Option Nat} {x i : Opd} : WP P ro ({ dst := d, k := .ixa len es n x i, gd := none, q := q } :: l) ks ts h Q = WV P ro (ixaF len es n (val ts x) (val ts i)) d l ks ts h Q := by
  rw [WP_op (by simp) (by simp)]
  refine WR_of ?_
  simp only [stepT, fnT, ixaF]
  cases val ts x with
  | agg cs =>
    cases val ts i with
    | int k j =>
      simp only
      split
      · cases n <;> first | rfl | (simp only; cases cs[j.toNat * es]? <;> rfl)
      · rfl
    | _ => rfl
  | _ => rfl
theorem WP_ixs {x i : Opd} : WP P ro ({ dst := d, k := .ixs x i, gd := none, q := q } :: l) ks ts h Q = WV P ro (ixsF (val ts x) (val ts i)) d l ks ts h Q := by
  rw [WP_op (by simp) (by simp)]
  refine WR_of ?_
  simp only [stepT, fnT, ixsF]
  cases val ts x with
  | str s =>
    cases val ts i with
    | int k j =>
      simp only
      split
      · cases s[j.toNat]? <;> rfl
      · rfl
    | _ => rfl
  | _ => rfl
theorem WP_look {kk : CK} {z : AV} {ok : Bool} {m k : Opd} : WP P ro ({ dst := d, k := .look kk z ok m k, gd := none, q := q } :: l) ks ts h Q = WR P ro (stepT (.look kk z ok m k) (val ts) (fun b => h[b]?) h.length) q d l ks ts h Q := rfl
theorem WP_mupd {kk : CK} {m k x : Opd} : WP P ro ({ dst := d, k := .mupd kk m k x, gd := none, q := q } :: l) ks ts h Q = WR P ro (stepT (.mupd kk m k x) (val ts) (fun b => h[b]?) h.length) q d l ks ts h Q := rfl
theorem WP_nexts {x : Opd} : WP P ro ({ dst := d, k := .nexts x, gd := none, q := q } :: l) ks ts h Q = WR P ro (stepT (.nexts x) (val ts) (fun b => h[b]?) h.length) q d l ks ts h Q := rfl
theorem WP_ext {x : Opd} {i : Nat} : WP P ro ({ dst := d, k := .ext x i, gd := none, q := q } :: l) ks ts h Q = WV P ro (extF (val ts x) i) d l ks ts h Q := by
  rw [WP_op (by simp) (by simp)]
  refine WR_of ?_
  simp only [stepT, fnT, extF]
  cases val ts x with
  | tup cs => simp only; cases cs[i]? <;> rfl
  | _ => rfl
theorem WP_len {lk : LK} {x : Opd} : WP P ro ({ dst := d, k := .len lk x, gd := none, q := q } :: l) ks ts h Q = WV P ro (lenF (lenG lk (fun b => h[b]?) (val ts x))) d l ks ts h Q := by
  rw [WP_op (by simp) (by simp)]
  refine WR_of ?_
  simp only [stepT, fnT, lenF]
  cases lenG lk (fun b => h[b]?) (val ts x) <;> rfl
theorem WP_lenc {n : Nat} : WP P ro ({ dst := d, k := .lenc n, gd := none, q := q } :: l) ks ts h Q = WP P ro l ks (put ts d (.int .i64 n)) h Q := WR_keep
theorem WP_app {es w : Nat} {x y : Opd} : WP P ro ({ dst := d, k := .app es w x y, gd := none, q := q } :: l) ks ts h Q = WR P ro (appT es w (val ts x) (val ts y) (fun b => h[b]?) h.length) q d l ks ts h Q := rfl
theorem WP_cpy {es : Nat} {x y : Opd} : WP P ro ({ dst := d, k := .cpy es x y, gd := none, q := q } :: l) ks ts h Q = WR P ro (stepT (.cpy es x y) (val ts) (fun b => h[b]?) h.length) q d l ks ts h Q := rfl
theorem WP_mx {x : Opd} {m : List Opd} : WP P ro ({ dst := d, k := .mx x m, gd := none, q := q } :: l) ks ts h Q = WV P ro (foldA max2A (val ts x) (m.map (val ts))) d l ks ts h Q := by
  rw [WP_op (by simp) (by simp)]
  refine WR_of ?_
  simp only [stepT, fnT]
  cases foldA max2A (val ts x) (m.map (val ts)) <;> rfl
theorem WP_mn {x : Opd} {m : List Opd} : WP P ro ({ dst := d, k := .mn x m, gd := none, q := q } :: l) ks ts h Q = WV P ro (foldA min2A (val ts x) (m.map (val ts))) d l ks ts h Q := by
  rw [WP_op (by simp) (by simp)]
  refine WR_of ?_
  simp only [stepT, fnT]
  cases foldA min2A (val ts x) (m.map (val ts)) <;> rfl
theorem bin_add {k : IntKind} {a b : Int} : binK .add (.int k a) (.int k b) = some (.int k (k.wrap (a + b))) := by simp [binK, isShift, intBin]
theorem bin_sub {k : IntKind} {a b : Int} : binK .sub (.int k a) (.int k b) = some (.int k (k.wrap (a - b))) := by simp [binK, isShift, intBin]
theorem bin_mul {k : IntKind} {a b : Int} : binK .mul (.int k a) (.int k b) = some (.int k (k.wrap (a * b))) := by simp [binK, isShift, intBin]
theorem bin_quo {k : IntKind} {a b : Int} (hb : b ≠ 0) : binK .quo (.int k a) (.int k b) = some (.int k (k.wrap (a.tdiv b))) := by simp [binK, isShift, intBin, hb]
theorem bin_rem {k : IntKind} {a b : Int} (hb : b ≠ 0) : binK .rem (.int k a) (.int k b) = some (.int k (a.tmod b)) := by simp [binK, isShift, intBin, hb]
theorem bin_eql {k : IntKind} {a b : Int} : binK .eql (.int k a) (.int k b) = some (.bool (decide (a = b))) := by simp [binK, isShift, intBin]; rfl
theorem bin_neq {k : IntKind} {a b : Int} : binK .neq (.int k a) (.int k b) = some (.bool (decide (a ≠ b))) := by
  simp only [binK, isShift, intBin, if_true, Bool.false_eq_true, if_false, Option.some.injEq, AV.bool.injEq]
  by_cases hab : a = b <;> simp [hab]
theorem bin_lss {k : IntKind} {a b : Int} : binK .lss (.int k a) (.int k b) = some (.bool (decide (a < b))) := by simp [binK, isShift, intBin]
theorem bin_leq {k : IntKind} {a b : Int} : binK .leq (.int k a) (.int k b) = some (.bool (decide (a ≤ b))) := by simp [binK, isShift, intBin]
theorem bin_gtr {k : IntKind} {a b : Int} : binK .gtr (.int k a) (.int k b) = some (.bool (decide (b < a))) := by simp [binK, isShift, intBin]
theorem bin_geq {k : IntKind} {a b : Int} : binK .geq (.int k a) (.int k b) = some (.bool (decide (b ≤ a))) := by simp [binK, isShift, intBin]
theorem bin_cat {x y : List UInt8} (hl : x.length + y.length < 2 ^ 62) : binK .add (.str x) (.str y) = some (.str (x ++ y)) := by simp only [binK, strBin, if_pos hl]
theorem bin_seql {x y : List UInt8} : binK .eql (.str x) (.str y) = some (.bool (decide (x = y))) := by
  simp only [binK, strBin, Option.some.injEq, AV.bool.injEq]
  by_cases hab : x = y <;> simp [hab]
theorem bin_sneq {x y : List UInt8} : binK .neq (.str x) (.str y) = some (.bool (decide (x ≠ y))) := by
  simp only [binK, strBin, Option.some.injEq, AV.bool.injEq]
  by_cases hab : x = y <;> simp [hab]
theorem un_not {b : Bool} : unK .not (.bool b) = some (.bool !b) := rfl
theorem un_neg {k : IntKind} {a : Int} : unK .neg (.int k a) = some (.int k (k.wrap (0 - a))) := rfl
theorem mx_2 {k : IntKind} {a b : Int} : foldA max2A (.int k a) [.int k b] = some (.int k (max a b)) := by
  simp only [foldA, max2A, if_true, Option.some.injEq, AV.int.injEq, true_and]
  omega
theorem mn_2 {k : IntKind} {a b : Int} : foldA min2A (.int k a) [.int k b] = some (.int k (min a b)) := by
  simp only [foldA, min2A, if_true, Option.some.injEq, AV.int.injEq, true_and]
  omega
theorem wrap_in {n : Int} (h1 : -9223372036854775808 ≤ n) (h2 : n ≤ 9223372036854775807) : IntKind.i64.wrap n = n := by
  simp only [IntKind.wrap, IntKind.signed, IntKind.bits, Bool.true_and, decide_eq_true_eq, show (64 - 1 : Nat) = 63 from rfl]
  split <;> omega
end
end Go.Abs
namespace Go.Abs
section
variable {P : Program} {ro : Option Nat → Prop} {ks : List Kt} {ts : TS} {h : AHeap} {Q : Ex → TS → AHeap → Prop} {d : Option Nat} {q : Bool} {l : List IOp}
theorem WG_decT {k : OpK} {p : Prop} [Decidable p] : WG P ro (.bool (decide p)) true q k d l ks ts h Q = ((p → WP P ro ({ dst := d, k := k, gd := none, q := q } :: l) ks ts h Q) ∧ (¬ p → WP P ro l ks (put ts d undefA) h Q)) := by
  by_cases hp : p
  · simp only [hp, decide_true, WG_yes]; simp
  · simp only [hp, decide_false]; rw [WG_no false (by simp)]; simp
theorem WG_decF {k : OpK} {p : Prop} [Decidable p] : WG P ro (.bool (decide p)) false q k d l ks ts h Q = ((p → WP P ro l ks (put ts d undefA) h Q) ∧ (¬ p → WP P ro ({ dst := d, k := k, gd := none, q := q } :: l) ks ts h Q)) := by
  by_cases hp : p
  · simp only [hp, decide_true]; rw [WG_no true (by simp)]; simp
  · simp only [hp, decide_false, WG_yes]; simp
theorem WG_TF {k : OpK} : WG P ro (.bool true) false q k d l ks ts h Q = WP P ro l ks (put ts d undefA) h Q := WG_no true (by simp)
theorem WG_FT {k : OpK} : WG P ro (.bool false) true q k d l ks ts h Q = WP P ro l ks (put ts d undefA) h Q := WG_no false (by simp)
theorem WB_dec {a b : ICode} {p : Prop} [Decidable p] : WB P ro (.bool (decide p)) a b ks ts h Q = ((p → WC P ro a ks ts h Q) ∧ (¬ p → WC P ro b ks ts h Q)) := by
  by_cases hp : p
  · simp only [hp, decide_true, WB_true]; simp
  · simp only [hp, decide_false, WB_false]; simp
theorem pick_T {a b : AV} : pickF (.bool true) a b = some a := rfl
theorem pick_F {a b : AV} : pickF (.bool false) a b = some b := rfl
def slot (ts : TS) (i : Nat) : AV := ts.getD i undefA
theorem val_t {i : Nat} : val ts (.t i) = slot ts i := rfl
theorem val_c {v : AV} : val ts (.c v) = v := rfl
theorem val_g {i : Nat} : val ts (.g i) = .ptr i 0 := rfl
theorem val_f {i : Nat} : val ts (.f i) = .func (.func i) [] [] := rfl
theorem put_s {i : Nat} {v : AV} : put ts (some i) v = ts.set i v := rfl
theorem put_n {v : AV} : put ts none v = ts := rfl
theorem slot_0 {a : AV} {l : List AV} : slot (a :: l) 0 = a := rfl
theorem slot_s {a : AV} {l : List AV} {n : Nat} : slot (a :: l) (n + 1) = slot l n := rfl
theorem l_lenc {a : AV} {l : List AV} : (a :: l).length = l.length + 1 := rfl
theorem l_len0 : ([] : List AV).length = 0 := rfl
theorem l_rep0 {a : AV} : List.replicate 0 a = [] := rfl
theorem l_appc {a : AV} {l m : List AV} : (a :: l) ++ m = a :: (l ++ m) := rfl
theorem l_app0 {m : List AV} : [] ++ m = m := rfl
theorem l_set0 {a b : AV} {l : List AV} : (a :: l).set 0 b = b :: l := rfl
theorem l_sets {a b : AV} {l : List AV} {n : Nat} : (a :: l).set (n + 1) b = a :: l.set n b := rfl
theorem l_map0 {f : Opd → AV} : List.map f [] = [] := rfl
theorem l_mapc {f : Opd → AV} {a : Opd} {l : List Opd} : List.map f (a :: l) = f a :: l.map f := rfl
theorem o_mapn {f : Opd → AV} : Option.map f none = none := rfl
theorem o_maps {f : Opd → AV} {a : Opd} : Option.map f (some a) = some (f a) := rfl
theorem fadr_p {off b o : Nat} : fadrF off (.ptr b o) = some (.ptr b (o + off)) := rfl
theorem lenF_s {n : Nat} : lenF (some n) = some (.int .i64 n) := rfl
theorem lenG_st {G : Nat → Option ABlk} {s : List UInt8} : lenG .st G (.str s) = some s.length := rfl
theorem nil_p {b o : Nat} : nilF (.ptr b o) = some (.ptr b o) := rfl
theorem nil_f {f : Nat} {a c : List AV} : nilF (.func (.func f) a c) = some (.func (.func f) a c) := rfl
theorem nil_y {f : Nat} {a c : List AV} : nilF (.func (.yield f) a c) = some (.func (.yield f) a c) := rfl
theorem ext_t {l : List AV} {i : Nat} : extF (.tup l) i = l[i]? := rfl
theorem part_n {cs : List AV} {off : Nat} : partF none off (.agg cs) = cs[off]? := rfl
theorem part_s {cs : List AV} {off n : Nat} : partF (some n) off (.agg cs) = some (.agg ((cs.drop off).take n)) := rfl
theorem buildF_s {c : List AV} : buildF (some c) = some (.agg c) := rfl
theorem resAll_1 {r : Nat} : resAll [(r, none)] ts h = some (slot ts r) := rfl
theorem resAll_2 {r s : Nat} : resAll [(r, none), (s, none)] ts h = some (.tup [slot ts r, slot ts s]) := rfl
theorem resAll_3 {r s t : Nat} : resAll [(r, none), (s, none), (t, none)] ts h = some (.tup [slot ts r, slot ts s, slot ts t]) := rfl
theorem startTS_eq {n : Nat} {args : List AV} : startTS n args = args ++ List.replicate (n - args.length) undefA := rfl
theorem rep_s {n : Nat} {a : AV} : List.replicate (n + 1) a = a :: List.replicate n a := rfl
theorem conv_ii {k k' : IntKind} {n : Int} {G : Nat → Option ABlk} {N : Nat} : convT (.i2i k) (.int k' n) G N = some (.int k (k.wrap n), .keep) := rfl
theorem conv_same {s : List UInt8} {G : Nat → Option ABlk} {N : Nat} : convT .same (.str s) G N = some (.str s, .keep) := rfl
theorem box_int {k : IntKind} {n : Int} {N : Nat} : boxF (.int k n) N = some (.ptr N 0, .push (.cells [.int k n] true false)) := rfl
theorem box_bool {b : Bool} {N : Nat} : boxF (.bool b) N = some (.ptr N 0, .push (.cells [.bool b] true false)) := rfl
theorem box_str {s : List UInt8} {N : Nat} : boxF (.str s) N = some (.ptr N 0, .push (.cells [.str s] true false)) := rfl
theorem box_agg {l : List AV} {N : Nat} (hl : l.all AV.one = true) : boxF (.agg l) N = some (.ptr N 0, .push (.cells l true false)) := by
  show (if l.all AV.one then _ else none) = _
  rw [if_pos hl]; rfl
end
theorem WG_U {P : Program} {ro : Option Nat → Prop} {ks : List Kt} {ts : TS} {h : AHeap} {Q : Ex → TS → AHeap → Prop} {d : Option Nat} {q : Bool} {l : List IOp} {k : OpK} {b : Bool} : WG P ro undefA b q k d l ks ts h Q = WP P ro l ks (put ts d undefA) h Q := rfl
theorem ext_0 {h : AHeap} : Ext h h = True := eq_true (Ext.refl h)
theorem ext_1 {h : AHeap} {a : AHeap} : Ext h (h ++ a) = True := eq_true (by repeat first | exact Ext.refl _ | refine Ext.app _ ?_)
theorem ext_2 {h : AHeap} {a b : AHeap} : Ext h (h ++ a ++ b) = True := eq_true (by repeat first | exact Ext.refl _ | refine Ext.app _ ?_)
theorem ext_3 {h : AHeap} {a b c : AHeap} : Ext h (h ++ a ++ b ++ c) = True := eq_true (by repeat first | exact Ext.refl _ | refine Ext.app _ ?_)
theorem ext_4 {h : AHeap} {a b c d : AHeap} : Ext h (h ++ a ++ b ++ c ++ d) = True := eq_true (by repeat first | exact Ext.refl _ | refine Ext.app _ ?_)
theorem ext_5 {h : AHeap} {a b c d e : AHeap} : Ext h (h ++ a ++ b ++ c ++ d ++ e) = True := eq_true (by repeat first | exact Ext.refl _ | refine Ext.app _ ?_)
theorem ext_6 {h : AHeap} {a b c d e f : AHeap} : Ext h (h ++ a ++ b ++ c ++ d ++ e ++ f) = True := eq_true (by repeat first | exact Ext.refl _ | refine Ext.app _ ?_)
theorem ext_7 {h : AHeap} {a b c d e f g : AHeap} : Ext h (h ++ a ++ b ++ c ++ d ++ e ++ f ++ g) = True := eq_true (by repeat first | exact Ext.refl _ | refine Ext.app _ ?_)
theorem ext_8 {h : AHeap} {a b c d e f g i : AHeap} : Ext h (h ++ a ++ b ++ c ++ d ++ e ++ f ++ g ++ i) = True := eq_true (by repeat first | exact Ext.refl _ | refine Ext.app _ ?_)
theorem ext_9 {h : AHeap} {a b c d e f g i j : AHeap} : Ext h (h ++ a ++ b ++ c ++ d ++ e ++ f ++ g ++ i ++ j) = True := eq_true (by repeat first | exact Ext.refl _ | refine Ext.app _ ?_)
theorem and_T {p : Prop} : (True ∧ p) = p := true_and p
def lst (f : Nat → AV) : Nat → Nat → TS
  | 0, _ => []
  | n + 1, i => f i :: lst f n (i + 1)
theorem lst_0 {f : Nat → AV} {i : Nat} : lst f 0 i = [] := rfl
theorem lst_s {f : Nat → AV} {n i : Nat} : lst f (n + 1) i = f i :: lst f n (i + 1) := rfl
theorem lst_eq (f : Nat → AV) : ∀ (n i : Nat) (ts : TS), ts.length = n → (∀ k, k < n → f (i + k) = slot ts k) → ts = lst f n i
  | 0, _, ts, h, _ => List.length_eq_zero_iff.1 h
  | n + 1, i, [], h, _ => by simp at h
  | n + 1, i, x :: xs, h, hf => by
    rw [lst_s, ← lst_eq f n (i + 1) xs (by simpa using h) fun k hk => by have := hf (k + 1) (by omega); rw [show i + 1 + k = i + (k + 1) by omega, this]; rfl]
    rw [← Nat.add_zero i, hf 0 (by omega)]; rfl
theorem expl (ts : TS) (n : Nat) (h : ts.length = n) : ts = lst (fun i => slot ts i) n 0 := lst_eq _ n 0 ts h fun k _ => by rw [Nat.zero_add]
theorem wset :
    (∀ {P : Program} {ro : Option Nat → Prop} {ks : List Kt} {ts : TS} {h : AHeap} {Q : Ex → TS → AHeap → Prop}, WC P ro .skip ks ts h Q = WE P ro .normal ks ts h Q) ∧
    (∀ {P : Program} {ro : Option Nat → Prop} {ks : List Kt} {ts : TS} {h : AHeap} {Q : Ex → TS → AHeap → Prop} {l : List IOp}, WC P ro (.ops l) ks ts h Q = WP P ro l ks ts h Q) ∧
    (∀ {P : Program} {ro : Option Nat → Prop} {ks : List Kt} {ts : TS} {h : AHeap} {Q : Ex → TS → AHeap → Prop} {a b : ICode}, WC P ro (.seq a b) ks ts h Q = WC P ro a (.seqK b :: ks) ts h Q) ∧
    (∀ {P : Program} {ro : Option Nat → Prop} {ks : List Kt} {ts : TS} {h : AHeap} {Q : Ex → TS → AHeap → Prop} {c : Opd} {a b : ICode}, WC P ro (.cond c a b) ks ts h Q = WB P ro (val ts c) a b ks ts h Q) ∧
    (∀ {P : Program} {ro : Option Nat → Prop} {ks : List Kt} {ts : TS} {h : AHeap} {Q : Ex → TS → AHeap → Prop} {id : Nat} {a : ICode}, WC P ro (.block id a) ks ts h Q = WC P ro a (.blockK id :: ks) ts h Q) ∧
    (∀ {P : Program} {ro : Option Nat → Prop} {ks : List Kt} {ts : TS} {h : AHeap} {Q : Ex → TS → AHeap → Prop} {a : ICode}, WC P ro (.loop a) ks ts h Q = WL P ro a ks ts h Q) ∧
    (∀ {P : Program} {ro : Option Nat → Prop} {ks : List Kt} {ts : TS} {h : AHeap} {Q : Ex → TS → AHeap → Prop} {id : Nat}, WC P ro (.exit id) ks ts h Q = WE P ro (.exit id) ks ts h Q) ∧
    (∀ {P : Program} {ro : Option Nat → Prop} {ks : List Kt} {ts : TS} {h : AHeap} {Q : Ex → TS → AHeap → Prop}, WC P ro .ret ks ts h Q = WE P ro .ret ks ts h Q) ∧
    (∀ {P : Program} {ro : Option Nat → Prop} {ks : List Kt} {ts : TS} {h : AHeap} {Q : Ex → TS → AHeap → Prop} {b : ICode}, WE P ro .normal (.seqK b :: ks) ts h Q = WC P ro b ks ts h Q) ∧
    (∀ {P : Program} {ro : Option Nat → Prop} {ks : List Kt} {ts : TS} {h : AHeap} {Q : Ex → TS → AHeap → Prop} {b : ICode} {id : Nat}, WE P ro (.exit id) (.seqK b :: ks) ts h Q = WE P ro (.exit id) ks ts h Q) ∧
    (∀ {P : Program} {ro : Option Nat → Prop} {ks : List Kt} {ts : TS} {h : AHeap} {Q : Ex → TS → AHeap → Prop} {b : ICode}, WE P ro .ret (.seqK b :: ks) ts h Q = WE P ro .ret ks ts h Q) ∧
    (∀ {P : Program} {ro : Option Nat → Prop} {ks : List Kt} {ts : TS} {h : AHeap} {Q : Ex → TS → AHeap → Prop} {id : Nat}, WE P ro .normal (.blockK id :: ks) ts h Q = WE P ro .normal ks ts h Q) ∧
    (∀ {P : Program} {ro : Option Nat → Prop} {ks : List Kt} {ts : TS} {h : AHeap} {Q : Ex → TS → AHeap → Prop} {id id' : Nat}, WE P ro (.exit id') (.blockK id :: ks) ts h Q = if id' = id then WE P ro .normal ks ts h Q else WE P ro (.exit id') ks ts h Q) ∧
    (∀ {P : Program} {ro : Option Nat → Prop} {ks : List Kt} {ts : TS} {h : AHeap} {Q : Ex → TS → AHeap → Prop} {id : Nat}, WE P ro .ret (.blockK id :: ks) ts h Q = WE P ro .ret ks ts h Q) ∧
    (∀ {P : Program} {ro : Option Nat → Prop} {ts : TS} {h : AHeap} {Q : Ex → TS → AHeap → Prop} {e : Ex}, WE P ro e [] ts h Q = Q e ts h) ∧
    (∀ {P : Program} {ro : Option Nat → Prop} {ks : List Kt} {ts : TS} {h : AHeap} {Q : Ex → TS → AHeap → Prop}, WP P ro [] ks ts h Q = WE P ro .normal ks ts h Q) ∧
    (∀ {P : Program} {ro : Option Nat → Prop} {ks : List Kt} {ts : TS} {h : AHeap} {Q : Ex → TS → AHeap → Prop} {d : Option Nat} {f : Opd} {args : List Opd} {q : Bool} {l : List IOp}, WP P ro ({ dst := d, k := .call f args, gd := none, q := q } :: l) ks ts h Q = WF P ro q (val ts f) (args.map (val ts)) d l ks ts h Q) ∧
    (∀ {P : Program} {ro : Option Nat → Prop} {ks : List Kt} {ts : TS} {h : AHeap} {Q : Ex → TS → AHeap → Prop} {d : Option Nat} {k : OpK} {t : Nat} {b q : Bool} {l : List IOp}, WP P ro ({ dst := d, k := k, gd := some (t, b), q := q } :: l) ks ts h Q = WG P ro (val ts (.t t)) b q k d l ks ts h Q) ∧
    (∀ {P : Program} {ro : Option Nat → Prop} {ks : List Kt} {ts : TS} {h : AHeap} {Q : Ex → TS → AHeap → Prop} {d : Option Nat} {k : OpK} {b q : Bool} {l : List IOp}, WG P ro (.bool b) b q k d l ks ts h Q = WP P ro ({ dst := d, k := k, gd := none, q := q } :: l) ks ts h Q) ∧
    (∀ {P : Program} {ro : Option Nat → Prop} {ks : List Kt} {ts : TS} {h : AHeap} {Q : Ex → TS → AHeap → Prop} {d : Option Nat} {q : Bool} {l : List IOp} {k : OpK}, WG P ro (.bool true) false q k d l ks ts h Q = WP P ro l ks (put ts d undefA) h Q) ∧
    (∀ {P : Program} {ro : Option Nat → Prop} {ks : List Kt} {ts : TS} {h : AHeap} {Q : Ex → TS → AHeap → Prop} {d : Option Nat} {q : Bool} {l : List IOp} {k : OpK}, WG P ro (.bool false) true q k d l ks ts h Q = WP P ro l ks (put ts d undefA) h Q) ∧
    (∀ {P : Program} {ro : Option Nat → Prop} {ks : List Kt} {ts : TS} {h : AHeap} {Q : Ex → TS → AHeap → Prop} {v : AV} {q : Bool} {d : Option Nat} {l : List IOp}, WR P ro (some (v, .keep)) q d l ks ts h Q = WP P ro l ks (put ts d v) h Q) ∧
    (∀ {P : Program} {ro : Option Nat → Prop} {ks : List Kt} {ts : TS} {h : AHeap} {Q : Ex → TS → AHeap → Prop} {v : AV} {k : ABlk} {q : Bool} {d : Option Nat} {l : List IOp}, WR P ro (some (v, .push k)) q d l ks ts h Q = WP P ro l ks (put ts d v) (h ++ [k]) Q) ∧
    (∀ {P : Program} {ro : Option Nat → Prop} {ks : List Kt} {ts : TS} {h : AHeap} {Q : Ex → TS → AHeap → Prop} {v : AV} {b : Nat} {k : ABlk} {d : Option Nat} {l : List IOp}, WR P ro (some (v, .set b k)) false d l ks ts h Q = WP P ro l ks (put ts d v) (h.set b k) Q) ∧
    (∀ {P : Program} {ro : Option Nat → Prop} {ks : List Kt} {ts : TS} {h : AHeap} {Q : Ex → TS → AHeap → Prop} {v : AV} {b : Nat} {k k' : ABlk} {d : Option Nat} {l : List IOp}, WR P ro (some (v, .setPush b k k')) false d l ks ts h Q = WP P ro l ks (put ts d v) (h.set b k ++ [k']) Q) ∧
    (∀ {P : Program} {ro : Option Nat → Prop} {ks : List Kt} {ts : TS} {h : AHeap} {Q : Ex → TS → AHeap → Prop} {d : Option Nat} {l : List IOp} {v : AV}, WV P ro (some v) d l ks ts h Q = WP P ro l ks (put ts d v) h Q) ∧
    (∀ {P : Program} {ro : Option Nat → Prop} {ks : List Kt} {ts : TS} {h : AHeap} {Q : Ex → TS → AHeap → Prop} {a b : ICode}, WB P ro (.bool true) a b ks ts h Q = WC P ro a ks ts h Q) ∧
    (∀ {P : Program} {ro : Option Nat → Prop} {ks : List Kt} {ts : TS} {h : AHeap} {Q : Ex → TS → AHeap → Prop} {a b : ICode}, WB P ro (.bool false) a b ks ts h Q = WC P ro b ks ts h Q) ∧
    (∀ {ts : TS} {h : AHeap} {I : Nat → TS → AHeap → Prop} {n : Nat} {R : Ex → TS → AHeap → Prop}, LQ I n R .normal ts h = ∃ m, m < n ∧ I m ts h) ∧
    (∀ {ts : TS} {h : AHeap} {I : Nat → TS → AHeap → Prop} {n : Nat} {R : Ex → TS → AHeap → Prop} {id : Nat}, LQ I n R (.exit id) ts h = R (.exit id) ts h) ∧
    (∀ {ts : TS} {h : AHeap} {I : Nat → TS → AHeap → Prop} {n : Nat} {R : Ex → TS → AHeap → Prop}, LQ I n R .ret ts h = R .ret ts h) ∧
    (∀ {ts : TS} {h : AHeap} {rs : List (Nat × Option (Option Nat))} {R : AV → AHeap → Prop}, FQ rs R .normal ts h = FRes (resAll rs ts h) h R) ∧
    (∀ {ts : TS} {h : AHeap} {rs : List (Nat × Option (Option Nat))} {R : AV → AHeap → Prop}, FQ rs R .ret ts h = FRes (resAll rs ts h) h R) ∧
    (∀ {h : AHeap} {v : AV} {R : AV → AHeap → Prop}, FRes (some v) h R = R v h) ∧
    (∀ {P : Program} {ro : Option Nat → Prop} {ks : List Kt} {ts : TS} {h : AHeap} {Q : Ex → TS → AHeap → Prop} {d : Option Nat} {q : Bool} {l : List IOp} {x : Opd}, WP P ro ({ dst := d, k := .mov x, gd := none, q := q } :: l) ks ts h Q = WP P ro l ks (put ts d (val ts x)) h Q) ∧
    (∀ {P : Program} {ro : Option Nat → Prop} {ks : List Kt} {ts : TS} {h : AHeap} {Q : Ex → TS → AHeap → Prop} {d : Option Nat} {q : Bool} {l : List IOp} {c a b : Opd}, WP P ro ({ dst := d, k := .pick c a b, gd := none, q := q } :: l) ks ts h Q = WV P ro (pickF (val ts c) (val ts a) (val ts b)) d l ks ts h Q) ∧
    (∀ {P : Program} {ro : Option Nat → Prop} {ks : List Kt} {ts : TS} {h : AHeap} {Q : Ex → TS → AHeap → Prop} {d : Option Nat} {q : Bool} {l : List IOp} {x : Opd}, WP P ro ({ dst := d, k := .box x, gd := none, q := q } :: l) ks ts h Q = WR P ro (boxF (val ts x) h.length) q d l ks ts h Q) ∧
    (∀ {P : Program} {ro : Option Nat → Prop} {ks : List Kt} {ts : TS} {h : AHeap} {Q : Ex → TS → AHeap → Prop} {d : Option Nat} {q : Bool} {l : List IOp} {z : List AV} {ps : List (Nat × Nat × Opd)}, WP P ro ({ dst := d, k := .build z ps, gd := none, q := q } :: l) ks ts h Q = WV P ro (buildF (fillA z (ps.map fun p => (p.1, p.2.1, val ts p.2.2)))) d l ks ts h Q) ∧
    (∀ {P : Program} {ro : Option Nat → Prop} {ks : List Kt} {ts : TS} {h : AHeap} {Q : Ex → TS → AHeap → Prop} {d : Option Nat} {q : Bool} {l : List IOp} {es n : Nat} {z : List AV} {ps : List (Nat × Opd)}, WP P ro ({ dst := d, k := .bslice es n z ps, gd := none, q := q } :: l) ks ts h Q = WR P ro (bslF es n (fillA (zrep n z) (ps.map fun p => (p.1, es, val ts p.2))) h.length) q d l ks ts h Q) ∧
    (∀ {P : Program} {ro : Option Nat → Prop} {ks : List Kt} {ts : TS} {h : AHeap} {Q : Ex → TS → AHeap → Prop} {d : Option Nat} {q : Bool} {l : List IOp} {n : Option Nat} {a : Opd}, WP P ro ({ dst := d, k := .load n a, gd := none, q := q } :: l) ks ts h Q = WR P ro (loadF n (val ts a) (fun b => h[b]?)) q d l ks ts h Q) ∧
    (∀ {P : Program} {ro : Option Nat → Prop} {ks : List Kt} {ts : TS} {h : AHeap} {Q : Ex → TS → AHeap → Prop} {d : Option Nat} {q : Bool} {l : List IOp} {n : Nat} {a x : Opd}, WP P ro ({ dst := d, k := .store n a x, gd := none, q := q } :: l) ks ts h Q = WR P ro (storeF n (val ts a) (val ts x) (fun b => h[b]?)) q d l ks ts h Q) ∧
    (∀ {P : Program} {ro : Option Nat → Prop} {ks : List Kt} {ts : TS} {h : AHeap} {Q : Ex → TS → AHeap → Prop} {d : Option Nat} {q : Bool} {l : List IOp} {x : Opd}, WP P ro ({ dst := d, k := .nilchk x, gd := none, q := q } :: l) ks ts h Q = WV P ro (nilF (val ts x)) d l ks ts h Q) ∧
    (∀ {P : Program} {ro : Option Nat → Prop} {ks : List Kt} {ts : TS} {h : AHeap} {Q : Ex → TS → AHeap → Prop} {d : Option Nat} {q : Bool} {l : List IOp} {op : BinOp} {x y : Opd}, WP P ro ({ dst := d, k := .bin op x y, gd := none, q := q } :: l) ks ts h Q = WV P ro (binK op (val ts x) (val ts y)) d l ks ts h Q) ∧
    (∀ {P : Program} {ro : Option Nat → Prop} {ks : List Kt} {ts : TS} {h : AHeap} {Q : Ex → TS → AHeap → Prop} {d : Option Nat} {q : Bool} {l : List IOp} {neg : Bool} {t : EqT} {x y : Opd}, WP P ro ({ dst := d, k := .eqv neg t x y, gd := none, q := q } :: l) ks ts h Q = WV P ro (eqvF neg (eqvK t (val ts x) (val ts y))) d l ks ts h Q) ∧
    (∀ {P : Program} {ro : Option Nat → Prop} {ks : List Kt} {ts : TS} {h : AHeap} {Q : Ex → TS → AHeap → Prop} {d : Option Nat} {q : Bool} {l : List IOp} {op : UnOp} {x : Opd}, WP P ro ({ dst := d, k := .un op x, gd := none, q := q } :: l) ks ts h Q = WV P ro (unK op (val ts x)) d l ks ts h Q) ∧
    (∀ {P : Program} {ro : Option Nat → Prop} {ks : List Kt} {ts : TS} {h : AHeap} {Q : Ex → TS → AHeap → Prop} {d : Option Nat} {q : Bool} {l : List IOp} {k : ConvK} {x : Opd}, WP P ro ({ dst := d, k := .conv k x, gd := none, q := q } :: l) ks ts h Q = WR P ro (convT k (val ts x) (fun b => h[b]?) h.length) q d l ks ts h Q) ∧
    (∀ {P : Program} {ro : Option Nat → Prop} {ks : List Kt} {ts : TS} {h : AHeap} {Q : Ex → TS → AHeap → Prop} {d : Option Nat} {q : Bool} {l : List IOp} {f : Fn} {a c : List Opd}, WP P ro ({ dst := d, k := .mkfn f a c, gd := none, q := q } :: l) ks ts h Q = WP P ro l ks (put ts d (.func f (a.map (val ts)) (c.map (val ts)))) h Q) ∧
    (∀ {P : Program} {ro : Option Nat → Prop} {ks : List Kt} {ts : TS} {h : AHeap} {Q : Ex → TS → AHeap → Prop} {d : Option Nat} {q : Bool} {l : List IOp}, WP P ro ({ dst := d, k := .mkmap, gd := none, q := q } :: l) ks ts h Q = WP P ro l ks (put ts d (.map h.length)) (h ++ [.mapb []]) Q) ∧
    (∀ {P : Program} {ro : Option Nat → Prop} {ks : List Kt} {ts : TS} {h : AHeap} {Q : Ex → TS → AHeap → Prop} {d : Option Nat} {q : Bool} {l : List IOp} {es w : Nat} {z : List AV} {a c : Opd}, WP P ro ({ dst := d, k := .mksl es w z a c, gd := none, q := q } :: l) ks ts h Q = WR P ro (mkslF es w z (val ts a) (val ts c) h.length) q d l ks ts h Q) ∧
    (∀ {P : Program} {ro : Option Nat → Prop} {ks : List Kt} {ts : TS} {h : AHeap} {Q : Ex → TS → AHeap → Prop} {d : Option Nat} {q : Bool} {l : List IOp} {es : Nat} {x : Opd} {lo hi : Option Opd}, WP P ro ({ dst := d, k := .sl es x lo hi, gd := none, q := q } :: l) ks ts h Q = WR P ro (slF es (val ts x) (lo.map (val ts)) (hi.map (val ts))) q d l ks ts h Q) ∧
    (∀ {P : Program} {ro : Option Nat → Prop} {ks : List Kt} {ts : TS} {h : AHeap} {Q : Ex → TS → AHeap → Prop} {d : Option Nat} {q : Bool} {l : List IOp} {x : Opd} {lo hi : Option Opd}, WP P ro ({ dst := d, k := .sls x lo hi, gd := none, q := q } :: l) ks ts h Q = WV P ro (slsF (val ts x) (lo.map (val ts)) (hi.map (val ts))) d l ks ts h Q) ∧
    (∀ {P : Program} {ro : Option Nat → Prop} {ks : List Kt} {ts : TS} {h : AHeap} {Q : Ex → TS → AHeap → Prop} {d : Option Nat} {q : Bool} {l : List IOp} {off : Nat} {x : Opd}, WP P ro ({ dst := d, k := .fadr off x, gd := none, q := q } :: l) ks ts h Q = WV P ro (fadrF off (val ts x)) d l ks ts h Q) ∧
    (∀ {P : Program} {ro : Option Nat → Prop} {ks : List Kt} {ts : TS} {h : AHeap} {Q : Ex → TS → AHeap → Prop} {d : Option Nat} {q : Bool} {l : List IOp} {es : Nat} {x i : Opd}, WP P ro ({ dst := d, k := .iadr es x i, gd := none, q := q } :: l) ks ts h Q = WR P ro (iadrF es (val ts x) (val ts i)) q d l ks ts h Q) ∧
    (∀ {P : Program} {ro : Option Nat → Prop} {ks : List Kt} {ts : TS} {h : AHeap} {Q : Ex → TS → AHeap → Prop} {d : Option Nat} {q : Bool} {l : List IOp} {len es : Nat} {x i : Opd}, WP P ro ({ dst := d, k := .iada len es x i, gd := none, q := q } :: l) ks ts h Q = WV P ro (iadaF len es (val ts x) (val ts i)) d l ks ts h Q) ∧
    (∀ {P : Program} {ro : Option Nat → Prop} {ks : List Kt} {ts : TS} {h : AHeap} {Q : Ex → TS → AHeap → Prop} {d : Option Nat} {q : Bool} {l : List IOp} {n : Option Nat} {off : Nat} {x : Opd}, WP P ro ({ dst := d, k := .part n off x, gd := none, q := q } :: l) ks ts h Q = WV P ro (partF n off (val ts x)) d l ks ts h Q) ∧
    (∀ {P : Program} {ro : Option Nat → Prop} {ks : List Kt} {ts : TS} {h : AHeap} {Q : Ex → TS → AHeap → Prop} {d : Option Nat} {q : Bool} {l : List IOp} {len es : Nat} {n : Option Nat} {x i : Opd}, WP P ro ({ dst := d, k := .ixa len es n x i, gd := none, q := q } :: l) ks ts h Q = WV P ro (ixaF len es n (val ts x) (val ts i)) d l ks ts h Q) ∧
    (∀ {P : Program} {ro : Option Nat → Prop} {ks : List Kt} {ts : TS} {h : AHeap} {Q : Ex → TS → AHeap → Prop} {d : Option Nat} {q : Bool} {l : List IOp} {x i : Opd}, WP P ro ({ dst := d, k := .ixs x i, gd := none, q := q } :: l) ks ts h Q = WV P ro (ixsF (val ts x) (val ts i)) d l ks ts h Q) ∧
    (∀ {P : Program} {ro : Option Nat → Prop} {ks : List Kt} {ts : TS} {h : AHeap} {Q : Ex → TS → AHeap → Prop} {d : Option Nat} {q : Bool} {l : List IOp} {kk : CK} {z : AV} {ok : Bool} {m k : Opd}, WP P ro ({ dst := d, k := .look kk z ok m k, gd := none, q := q } :: l) ks ts h Q = WR P ro (stepT (.look kk z ok m k) (val ts) (fun b => h[b]?) h.length) q d l ks ts h Q) ∧
    (∀ {P : Program} {ro : Option Nat → Prop} {ks : List Kt} {ts : TS} {h : AHeap} {Q : Ex → TS → AHeap → Prop} {d : Option Nat} {q : Bool} {l : List IOp} {kk : CK} {m k x : Opd}, WP P ro ({ dst := d, k := .mupd kk m k x, gd := none, q := q } :: l) ks ts h Q = WR P ro (stepT (.mupd kk m k x) (val ts) (fun b => h[b]?) h.length) q d l ks ts h Q) ∧
    (∀ {P : Program} {ro : Option Nat → Prop} {ks : List Kt} {ts : TS} {h : AHeap} {Q : Ex → TS → AHeap → Prop} {d : Option Nat} {q : Bool} {l : List IOp} {x : Opd}, WP P ro ({ dst := d, k := .nexts x, gd := none, q := q } :: l) ks ts h Q = WR P ro (stepT (.nexts x) (val ts) (fun b => h[b]?) h.length) q d l ks ts h Q) ∧
    (∀ {P : Program} {ro : Option Nat → Prop} {ks : List Kt} {ts : TS} {h : AHeap} {Q : Ex → TS → AHeap → Prop} {d : Option Nat} {q : Bool} {l : List IOp} {x : Opd} {i : Nat}, WP P ro ({ dst := d, k := .ext x i, gd := none, q := q } :: l) ks ts h Q = WV P ro (extF (val ts x) i) d l ks ts h Q) ∧
    (∀ {P : Program} {ro : Option Nat → Prop} {ks : List Kt} {ts : TS} {h : AHeap} {Q : Ex → TS → AHeap → Prop} {d : Option Nat} {q : Bool} {l : List IOp} {lk : LK} {x : Opd}, WP P ro ({ dst := d, k := .len lk x, gd := none, q := q } :: l) ks ts h Q = WV P ro (lenF (lenG lk (fun b => h[b]?) (val ts x))) d l ks ts h Q) ∧
    (∀ {P : Program} {ro : Option Nat → Prop} {ks : List Kt} {ts : TS} {h : AHeap} {Q : Ex → TS → AHeap → Prop} {d : Option Nat} {q : Bool} {l : List IOp} {n : Nat}, WP P ro ({ dst := d, k := .lenc n, gd := none, q := q } :: l) ks ts h Q = WP P ro l ks (put ts d (.int .i64 n)) h Q) ∧
    (∀ {P : Program} {ro : Option Nat → Prop} {ks : List Kt} {ts : TS} {h : AHeap} {Q : Ex → TS → AHeap → Prop} {d : Option Nat} {q : Bool} {l : List IOp} {es w : Nat} {x y : Opd}, WP P ro ({ dst := d, k := .app es w x y, gd := none, q := q } :: l) ks ts h Q = WR P ro (appT es w (val ts x) (val ts y) (fun b => h[b]?) h.length) q d l ks ts h Q) ∧
    (∀ {P : Program} {ro : Option Nat → Prop} {ks : List Kt} {ts : TS} {h : AHeap} {Q : Ex → TS → AHeap → Prop} {d : Option Nat} {q : Bool} {l : List IOp} {es : Nat} {x y : Opd}, WP P ro ({ dst := d, k := .cpy es x y, gd := none, q := q } :: l) ks ts h Q = WR P ro (stepT (.cpy es x y) (val ts) (fun b => h[b]?) h.length) q d l ks ts h Q) ∧
    (∀ {P : Program} {ro : Option Nat → Prop} {ks : List Kt} {ts : TS} {h : AHeap} {Q : Ex → TS → AHeap → Prop} {d : Option Nat} {q : Bool} {l : List IOp} {x : Opd} {m : List Opd}, WP P ro ({ dst := d, k := .mx x m, gd := none, q := q } :: l) ks ts h Q = WV P ro (foldA max2A (val ts x) (m.map (val ts))) d l ks ts h Q) ∧
    (∀ {P : Program} {ro : Option Nat → Prop} {ks : List Kt} {ts : TS} {h : AHeap} {Q : Ex → TS → AHeap → Prop} {d : Option Nat} {q : Bool} {l : List IOp} {x : Opd} {m : List Opd}, WP P ro ({ dst := d, k := .mn x m, gd := none, q := q } :: l) ks ts h Q = WV P ro (foldA min2A (val ts x) (m.map (val ts))) d l ks ts h Q) ∧
    (∀ {k : IntKind} {a b : Int}, binK .add (.int k a) (.int k b) = some (.int k (k.wrap (a + b)))) ∧
    (∀ {k : IntKind} {a b : Int}, binK .sub (.int k a) (.int k b) = some (.int k (k.wrap (a - b)))) ∧
    (∀ {k : IntKind} {a b : Int}, binK .mul (.int k a) (.int k b) = some (.int k (k.wrap (a * b)))) ∧
    (∀ {k : IntKind} {a b : Int}, binK .eql (.int k a) (.int k b) = some (.bool (decide (a = b)))) ∧
    (∀ {k : IntKind} {a b : Int}, binK .neq (.int k a) (.int k b) = some (.bool (decide (a ≠ b)))) ∧
    (∀ {k : IntKind} {a b : Int}, binK .lss (.int k a) (.int k b) = some (.bool (decide (a < b)))) ∧
    (∀ {k : IntKind} {a b : Int}, binK .leq (.int k a) (.int k b) = some (.bool (decide (a ≤ b)))) ∧
    (∀ {k : IntKind} {a b : Int}, binK .gtr (.int k a) (.int k b) = some (.bool (decide (b < a)))) ∧
    (∀ {k : IntKind} {a b : Int}, binK .geq (.int k a) (.int k b) = some (.bool (decide (b ≤ a)))) ∧
    (∀ {x y : List UInt8}, binK .eql (.str x) (.str y) = some (.bool (decide (x = y)))) ∧
    (∀ {x y : List UInt8}, binK .neq (.str x) (.str y) = some (.bool (decide (x ≠ y)))) ∧
    (∀ {b : Bool}, unK .not (.bool b) = some (.bool !b)) ∧
    (∀ {k : IntKind} {a : Int}, unK .neg (.int k a) = some (.int k (k.wrap (0 - a)))) ∧
    (∀ {k : IntKind} {a b : Int}, foldA max2A (.int k a) [.int k b] = some (.int k (max a b))) ∧
    (∀ {k : IntKind} {a b : Int}, foldA min2A (.int k a) [.int k b] = some (.int k (min a b))) ∧
    (∀ {a b : AV}, pickF (.bool true) a b = some a) ∧
    (∀ {a b : AV}, pickF (.bool false) a b = some b) ∧
    (∀ {ts : TS} {i : Nat}, val ts (.t i) = slot ts i) ∧
    (∀ {ts : TS} {v : AV}, val ts (.c v) = v) ∧
    (∀ {ts : TS} {i : Nat}, val ts (.g i) = .ptr i 0) ∧
    (∀ {ts : TS} {i : Nat}, val ts (.f i) = .func (.func i) [] []) ∧
    (∀ {ts : TS} {i : Nat} {v : AV}, put ts (some i) v = ts.set i v) ∧
    (∀ {ts : TS} {v : AV}, put ts none v = ts) ∧
    (∀ {a : AV} {l : List AV}, slot (a :: l) 0 = a) ∧
    (∀ {a : AV} {l : List AV} {n : Nat}, slot (a :: l) (n + 1) = slot l n) ∧
    (∀ {off b o : Nat}, fadrF off (.ptr b o) = some (.ptr b (o + off))) ∧
    (∀ {n : Nat}, lenF (some n) = some (.int .i64 n)) ∧
    (∀ {G : Nat → Option ABlk} {s : List UInt8}, lenG .st G (.str s) = some s.length) ∧
    (∀ {b o : Nat}, nilF (.ptr b o) = some (.ptr b o)) ∧
    (∀ {f : Nat} {a c : List AV}, nilF (.func (.func f) a c) = some (.func (.func f) a c)) ∧
    (∀ {f : Nat} {a c : List AV}, nilF (.func (.yield f) a c) = some (.func (.yield f) a c)) ∧
    (∀ {l : List AV} {i : Nat}, extF (.tup l) i = l[i]?) ∧
    (∀ {cs : List AV} {off : Nat}, partF none off (.agg cs) = cs[off]?) ∧
    (∀ {cs : List AV} {off n : Nat}, partF (some n) off (.agg cs) = some (.agg ((cs.drop off).take n))) ∧
    (∀ {c : List AV}, buildF (some c) = some (.agg c)) ∧
    (∀ {ts : TS} {h : AHeap} {r : Nat}, resAll [(r, none)] ts h = some (slot ts r)) ∧
    (∀ {ts : TS} {h : AHeap} {r s : Nat}, resAll [(r, none), (s, none)] ts h = some (.tup [slot ts r, slot ts s])) ∧
    (∀ {ts : TS} {h : AHeap} {r s t : Nat}, resAll [(r, none), (s, none), (t, none)] ts h = some (.tup [slot ts r, slot ts s, slot ts t])) ∧
    (∀ {n : Nat} {args : List AV}, startTS n args = args ++ List.replicate (n - args.length) undefA) ∧
    (∀ {n : Nat} {a : AV}, List.replicate (n + 1) a = a :: List.replicate n a) ∧
    (∀ {a : AV} {l : List AV}, (a :: l).length = l.length + 1) ∧
    (([] : List AV).length = 0) ∧
    (∀ {a : AV}, List.replicate 0 a = []) ∧
    (∀ {a : AV} {l m : List AV}, (a :: l) ++ m = a :: (l ++ m)) ∧
    (∀ {m : List AV}, [] ++ m = m) ∧
    (∀ {a b : AV} {l : List AV}, (a :: l).set 0 b = b :: l) ∧
    (∀ {a b : AV} {l : List AV} {n : Nat}, (a :: l).set (n + 1) b = a :: l.set n b) ∧
    (∀ {f : Opd → AV}, List.map f [] = []) ∧
    (∀ {f : Opd → AV} {a : Opd} {l : List Opd}, List.map f (a :: l) = f a :: l.map f) ∧
    (∀ {f : Opd → AV}, Option.map f none = none) ∧
    (∀ {f : Opd → AV} {a : Opd}, Option.map f (some a) = some (f a)) ∧
    (∀ {k k' : IntKind} {n : Int} {G : Nat → Option ABlk} {N : Nat}, convT (.i2i k) (.int k' n) G N = some (.int k (k.wrap n), .keep)) ∧
    (∀ {s : List UInt8} {G : Nat → Option ABlk} {N : Nat}, convT .same (.str s) G N = some (.str s, .keep)) ∧
    (∀ {P : Program} {ro : Option Nat → Prop} {ks : List Kt} {ts : TS} {h : AHeap} {Q : Ex → TS → AHeap → Prop} {d : Option Nat} {q : Bool} {l : List IOp} {k : OpK} {b : Bool}, WG P ro undefA b q k d l ks ts h Q = WP P ro l ks (put ts d undefA) h Q) ∧
    (∀ {h : AHeap}, Ext h h = True) ∧
    (∀ {h : AHeap} {a : AHeap}, Ext h (h ++ a) = True) ∧
    (∀ {h : AHeap} {a b : AHeap}, Ext h (h ++ a ++ b) = True) ∧
    (∀ {h : AHeap} {a b c : AHeap}, Ext h (h ++ a ++ b ++ c) = True) ∧
    (∀ {h : AHeap} {a b c d : AHeap}, Ext h (h ++ a ++ b ++ c ++ d) = True) ∧
    (∀ {h : AHeap} {a b c d e : AHeap}, Ext h (h ++ a ++ b ++ c ++ d ++ e) = True) ∧
    (∀ {h : AHeap} {a b c d e f : AHeap}, Ext h (h ++ a ++ b ++ c ++ d ++ e ++ f) = True) ∧
    (∀ {h : AHeap} {a b c d e f g : AHeap}, Ext h (h ++ a ++ b ++ c ++ d ++ e ++ f ++ g) = True) ∧
    (∀ {h : AHeap} {a b c d e f g i : AHeap}, Ext h (h ++ a ++ b ++ c ++ d ++ e ++ f ++ g ++ i) = True) ∧
    (∀ {h : AHeap} {a b c d e f g i j : AHeap}, Ext h (h ++ a ++ b ++ c ++ d ++ e ++ f ++ g ++ i ++ j) = True) ∧
    (∀ {p : Prop}, (True ∧ p) = p) ∧
    (∀ {f : Nat → AV} {i : Nat}, lst f 0 i = []) ∧
    (∀ {f : Nat → AV} {n i : Nat}, lst f (n + 1) i = f i :: lst f n (i + 1)) ∧
    (∀ {k : IntKind} {n : Int} {N : Nat}, boxF (.int k n) N = some (.ptr N 0, .push (.cells [.int k n] true false))) ∧
    (∀ {b : Bool} {N : Nat}, boxF (.bool b) N = some (.ptr N 0, .push (.cells [.bool b] true false))) ∧
    (∀ {s : List UInt8} {N : Nat}, boxF (.str s) N = some (.ptr N 0, .push (.cells [.str s] true false))) :=
  ⟨@WC_skip, @WC_ops, @WC_seq, @WC_cond, @WC_block, @WC_loop, @WC_exit, @WC_ret, @WE_seqN, @WE_seqX, @WE_seqR, @WE_blockN, @WE_blockX, @WE_blockR, @WE_nil, @WP_nil, @WP_call, @WP_gd, @WG_yes, @WG_TF, @WG_FT, @WR_keep, @WR_push, @WR_set, @WR_setPush, @WV_some, @WB_true, @WB_false, @LQ_N, @LQ_X, @LQ_R, @FQ_N, @FQ_R, @FR_some, @WP_mov, @WP_pick, @WP_box, @WP_build, @WP_bslice, @WP_load, @WP_store, @WP_nilchk, @WP_bin, @WP_eqv, @WP_un, @WP_conv, @WP_mkfn, @WP_mkmap, @WP_mksl, @WP_sl, @WP_sls, @WP_fadr, @WP_iadr, @WP_iada, @WP_part, @WP_ixa, @WP_ixs, @WP_look, @WP_mupd, @WP_nexts, @WP_ext, @WP_len, @WP_lenc, @WP_app, @WP_cpy, @WP_mx, @WP_mn, @bin_add, @bin_sub, @bin_mul, @bin_eql, @bin_neq, @bin_lss, @bin_leq, @bin_gtr, @bin_geq, @bin_seql, @bin_sneq, @un_not, @un_neg, @mx_2, @mn_2, @pick_T, @pick_F, @val_t, @val_c, @val_g, @val_f, @put_s, @put_n, @slot_0, @slot_s, @fadr_p, @lenF_s, @lenG_st, @nil_p, @nil_f, @nil_y, @ext_t, @part_n, @part_s, @buildF_s, @resAll_1, @resAll_2, @resAll_3, @startTS_eq, @rep_s, @l_lenc, @l_len0, @l_rep0, @l_appc, @l_app0, @l_set0, @l_sets, @l_map0, @l_mapc, @o_mapn, @o_maps, @conv_ii, @conv_same, @WG_U, @ext_0, @ext_1, @ext_2, @ext_3, @ext_4, @ext_5, @ext_6, @ext_7, @ext_8, @ext_9, @and_T, @lst_0, @lst_s, @box_int, @box_bool, @box_str⟩
theorem wsplit :
    (∀ {P : Program} {ro : Option Nat → Prop} {ks : List Kt} {ts : TS} {h : AHeap} {Q : Ex → TS → AHeap → Prop} {d : Option Nat} {q : Bool} {l : List IOp} {k : OpK} {p : Prop} [Decidable p], WG P ro (.bool (decide p)) true q k d l ks ts h Q = ((p → WP P ro ({ dst := d, k := k, gd := none, q := q } :: l) ks ts h Q) ∧ (¬ p → WP P ro l ks (put ts d undefA) h Q))) ∧
    (∀ {P : Program} {ro : Option Nat → Prop} {ks : List Kt} {ts : TS} {h : AHeap} {Q : Ex → TS → AHeap → Prop} {d : Option Nat} {q : Bool} {l : List IOp} {k : OpK} {p : Prop} [Decidable p], WG P ro (.bool (decide p)) false q k d l ks ts h Q = ((p → WP P ro l ks (put ts d undefA) h Q) ∧ (¬ p → WP P ro ({ dst := d, k := k, gd := none, q := q } :: l) ks ts h Q))) ∧
    (∀ {P : Program} {ro : Option Nat → Prop} {ks : List Kt} {ts : TS} {h : AHeap} {Q : Ex → TS → AHeap → Prop} {a b : ICode} {p : Prop} [Decidable p], WB P ro (.bool (decide p)) a b ks ts h Q = ((p → WC P ro a ks ts h Q) ∧ (¬ p → WC P ro b ks ts h Q))) :=
  ⟨@WG_decT, @WG_decF, @WB_dec⟩
end Go.Abs
namespace Go.Abs
theorem at_app {h : AHeap} {b : Nat} (a : AHeap) (hb : b < h.length) : (h ++ a)[b]? = h[b]? := List.getElem?_append_left hb
theorem set_app {h : AHeap} {b : Nat} (a : AHeap) (k : ABlk) (hb : b < h.length) : (h ++ a).set b k = h.set b k ++ a := List.set_append_left _ _ hb
theorem set_new {X : AHeap} {k k' : ABlk} : (X ++ [k]).set X.length k' = X ++ [k'] := by
  rw [List.set_append_right _ _ (Nat.le_refl _)]; simp
theorem at_new {X : AHeap} {k : ABlk} : (X ++ [k])[X.length]? = some k := by simp
def ldB (n : Option Nat) (o : Nat) : ABlk → Option (AV × Eff)
  | .cells c _ _ =>
    match n with
    | none =>
      match c[o]? with
      | some x => some (x, .keep)
      | none => none
    | some n => if o + n ≤ c.length then some (.agg ((c.drop o).take n), .keep) else none
  | _ => none
def stB (n o : Nat) (v : AV) (b : Nat) : ABlk → Option (AV × Eff)
  | .cells c true tl => if v.cells.length = n ∧ v.cells.all AV.one = true ∧ o + n ≤ c.length then some (undefA, .set b (.cells (setL c o v.cells) true tl)) else none
  | _ => none
theorem loadF_at {n : Option Nat} {b o : Nat} {G : Nat → Option ABlk} {k : ABlk} (hb : G b = some k) : loadF n (.ptr b o) G = ldB n o k := by
  simp only [loadF, hb]
  cases k <;> rfl
theorem storeF_at {n b o : Nat} {v : AV} {G : Nat → Option ABlk} {k : ABlk} (hb : G b = some k) : storeF n (.ptr b o) v G = stB n o v b k := by
  simp only [storeF, hb]
  cases k with
  | cells c mu tl => cases mu <;> rfl
  | _ => rfl
def nextB (b : Nat) (s : List UInt8) (pos : Nat) : Option (AV × Eff) :=
  if pos < s.length then some (.tup [.bool true, .int .i64 pos, .int .i32 (Utf8.decode ⟨⟨s⟩⟩ pos).1], .set b (.iter s (pos + (Utf8.decode ⟨⟨s⟩⟩ pos).2))) else some (.tup [.bool false], .keep)
def nextF (x : AV) (G : Nat → Option ABlk) : Option (AV × Eff) :=
  match x with
  | .ptr b 0 =>
    match G b with
    | some (.iter s pos) => nextB b s pos
    | _ => none
  | _ => none
theorem nextF_at {b pos : Nat} {s : List UInt8} {G : Nat → Option ABlk} (hb : G b = some (.iter s pos)) : nextF (.ptr b 0) G = nextB b s pos := by
  simp only [nextF, hb]
theorem stepT_nexts {x : Opd} {ρ : Opd → AV} {G : Nat → Option ABlk} {N : Nat} : stepT (.nexts x) ρ G N = nextF (ρ x) G := by
  simp only [stepT, fnT, nextF, nextB]
  cases ρ x with
  | ptr b o =>
    cases o with
    | zero =>
      simp only
      cases G b with
      | none => rfl
      | some k => cases k <;> rfl
    | succ o => rfl
  | _ => rfl
def rstrF (x : AV) (N : Nat) : Option (AV × Eff) :=
  match x with
  | .str s => some (.ptr N 0, .push (.iter s 0))
  | _ => none
theorem WP_rstrF {P : Program} {ro : Option Nat → Prop} {ks : List Kt} {ts : TS} {h : AHeap} {Q : Ex → TS → AHeap → Prop} {d : Option Nat} {q : Bool} {l : List IOp} {x : Opd} : WP P ro ({ dst := d, k := .rstr x, gd := none, q := q } :: l) ks ts h Q = WR P ro (rstrF (val ts x) h.length) q d l ks ts h Q := rfl
theorem rstr_s {s : List UInt8} {N : Nat} : rstrF (.str s) N = some (.ptr N 0, .push (.iter s 0)) := rfl
theorem at_0 {X : AHeap} {K : ABlk} : (X ++ [K] )[X.length]? = some K := by
  exact at_new
theorem ld_0 {n : Option Nat} {o : Nat} {X : AHeap} {K : ABlk} : loadF n (.ptr X.length o) (fun z => (X ++ [K] )[z]?) = ldB n o K := loadF_at at_0
theorem st_0 {y o : Nat} {v : AV} {X : AHeap} {K : ABlk} : storeF y (.ptr X.length o) v (fun z => (X ++ [K] )[z]?) = stB y o v X.length K := storeF_at at_0
theorem nx_0 {pos : Nat} {s : List UInt8} {X : AHeap} : nextF (.ptr X.length 0) (fun z => (X ++ [.iter s pos] )[z]?) = nextB X.length s pos := nextF_at at_0
theorem set_0 {X : AHeap} {K K' : ABlk} : (X ++ [K] ).set X.length K' = X ++ [K']  := by
  exact set_new
theorem at_1 {X : AHeap} {K : ABlk} {a : AHeap} : (X ++ [K] ++ a)[X.length]? = some K := by
  rw [at_app, at_0]; simp
theorem ld_1 {n : Option Nat} {o : Nat} {X : AHeap} {K : ABlk} {a : AHeap} : loadF n (.ptr X.length o) (fun z => (X ++ [K] ++ a)[z]?) = ldB n o K := loadF_at at_1
theorem st_1 {y o : Nat} {v : AV} {X : AHeap} {K : ABlk} {a : AHeap} : storeF y (.ptr X.length o) v (fun z => (X ++ [K] ++ a)[z]?) = stB y o v X.length K := storeF_at at_1
theorem nx_1 {pos : Nat} {s : List UInt8} {X : AHeap} {a : AHeap} : nextF (.ptr X.length 0) (fun z => (X ++ [.iter s pos] ++ a)[z]?) = nextB X.length s pos := nextF_at at_1
theorem set_1 {X : AHeap} {K K' : ABlk} {a : AHeap} : (X ++ [K] ++ a).set X.length K' = X ++ [K'] ++ a := by
  rw [set_app, set_0]; simp
theorem at_2 {X : AHeap} {K : ABlk} {a b : AHeap} : (X ++ [K] ++ a ++ b)[X.length]? = some K := by
  rw [at_app, at_1]; simp
theorem ld_2 {n : Option Nat} {o : Nat} {X : AHeap} {K : ABlk} {a b : AHeap} : loadF n (.ptr X.length o) (fun z => (X ++ [K] ++ a ++ b)[z]?) = ldB n o K := loadF_at at_2
theorem st_2 {y o : Nat} {v : AV} {X : AHeap} {K : ABlk} {a b : AHeap} : storeF y (.ptr X.length o) v (fun z => (X ++ [K] ++ a ++ b)[z]?) = stB y o v X.length K := storeF_at at_2
theorem nx_2 {pos : Nat} {s : List UInt8} {X : AHeap} {a b : AHeap} : nextF (.ptr X.length 0) (fun z => (X ++ [.iter s pos] ++ a ++ b)[z]?) = nextB X.length s pos := nextF_at at_2
theorem set_2 {X : AHeap} {K K' : ABlk} {a b : AHeap} : (X ++ [K] ++ a ++ b).set X.length K' = X ++ [K'] ++ a ++ b := by
  rw [set_app, set_1]; simp
theorem at_3 {X : AHeap} {K : ABlk} {a b c : AHeap} : (X ++ [K] ++ a ++ b ++ c)[X.length]? = some K := by
  rw [at_app, at_2]; simp
theorem ld_3 {n : Option Nat} {o : Nat} {X : AHeap} {K : ABlk} {a b c : AHeap} : loadF n (.ptr X.length o) (fun z => (X ++ [K] ++ a ++ b ++ c)[z]?) = ldB n o K := loadF_at at_3
theorem st_3 {y o : Nat} {v : AV} {X : AHeap} {K : ABlk} {a b c : AHeap} : storeF y (.ptr X.length o) v (fun z => (X ++ [K] ++ a ++ b ++ c)[z]?) = stB y o v X.length K := storeF_at at_3
theorem nx_3 {pos : Nat} {s : List UInt8} {X : AHeap} {a b c : AHeap} : nextF (.ptr X.length 0) (fun z => (X ++ [.iter s pos] ++ a ++ b ++ c)[z]?) = nextB X.length s pos := nextF_at at_3
theorem set_3 {X : AHeap} {K K' : ABlk} {a b c : AHeap} : (X ++ [K] ++ a ++ b ++ c).set X.length K' = X ++ [K'] ++ a ++ b ++ c := by
  rw [set_app, set_2]; simp
theorem at_4 {X : AHeap} {K : ABlk} {a b c d : AHeap} : (X ++ [K] ++ a ++ b ++ c ++ d)[X.length]? = some K := by
  rw [at_app, at_3]; simp
theorem ld_4 {n : Option Nat} {o : Nat} {X : AHeap} {K : ABlk} {a b c d : AHeap} : loadF n (.ptr X.length o) (fun z => (X ++ [K] ++ a ++ b ++ c ++ d)[z]?) = ldB n o K := loadF_at at_4
theorem st_4 {y o : Nat} {v : AV} {X : AHeap} {K : ABlk} {a b c d : AHeap} : storeF y (.ptr X.length o) v (fun z => (X ++ [K] ++ a ++ b ++ c ++ d)[z]?) = stB y o v X.length K := storeF_at at_4
theorem nx_4 {pos : Nat} {s : List UInt8} {X : AHeap} {a b c d : AHeap} : nextF (.ptr X.length 0) (fun z => (X ++ [.iter s pos] ++ a ++ b ++ c ++ d)[z]?) = nextB X.length s pos := nextF_at at_4
theorem set_4 {X : AHeap} {K K' : ABlk} {a b c d : AHeap} : (X ++ [K] ++ a ++ b ++ c ++ d).set X.length K' = X ++ [K'] ++ a ++ b ++ c ++ d := by
  rw [set_app, set_3]; simp
theorem at_5 {X : AHeap} {K : ABlk} {a b c d e : AHeap} : (X ++ [K] ++ a ++ b ++ c ++ d ++ e)[X.length]? = some K := by
  rw [at_app, at_4]; simp
theorem ld_5 {n : Option Nat} {o : Nat} {X : AHeap} {K : ABlk} {a b c d e : AHeap} : loadF n (.ptr X.length o) (fun z => (X ++ [K] ++ a ++ b ++ c ++ d ++ e)[z]?) = ldB n o K := loadF_at at_5
theorem st_5 {y o : Nat} {v : AV} {X : AHeap} {K : ABlk} {a b c d e : AHeap} : storeF y (.ptr X.length o) v (fun z => (X ++ [K] ++ a ++ b ++ c ++ d ++ e)[z]?) = stB y o v X.length K := storeF_at at_5
theorem nx_5 {pos : Nat} {s : List UInt8} {X : AHeap} {a b c d e : AHeap} : nextF (.ptr X.length 0) (fun z => (X ++ [.iter s pos] ++ a ++ b ++ c ++ d ++ e)[z]?) = nextB X.length s pos := nextF_at at_5
theorem set_5 {X : AHeap} {K K' : ABlk} {a b c d e : AHeap} : (X ++ [K] ++ a ++ b ++ c ++ d ++ e).set X.length K' = X ++ [K'] ++ a ++ b ++ c ++ d ++ e := by
  rw [set_app, set_4]; simp
theorem at_6 {X : AHeap} {K : ABlk} {a b c d e f : AHeap} : (X ++ [K] ++ a ++ b ++ c ++ d ++ e ++ f)[X.length]? = some K := by
  rw [at_app, at_5]; simp
theorem ld_6 {n : Option Nat} {o : Nat} {X : AHeap} {K : ABlk} {a b c d e f : AHeap} : loadF n (.ptr X.length o) (fun z => (X ++ [K] ++ a ++ b ++ c ++ d ++ e ++ f)[z]?) = ldB n o K := loadF_at at_6
theorem st_6 {y o : Nat} {v : AV} {X : AHeap} {K : ABlk} {a b c d e f : AHeap} : storeF y (.ptr X.length o) v (fun z => (X ++ [K] ++ a ++ b ++ c ++ d ++ e ++ f)[z]?) = stB y o v X.length K := storeF_at at_6
theorem nx_6 {pos : Nat} {s : List UInt8} {X : AHeap} {a b c d e f : AHeap} : nextF (.ptr X.length 0) (fun z => (X ++ [.iter s pos] ++ a ++ b ++ c ++ d ++ e ++ f)[z]?) = nextB X.length s pos := nextF_at at_6
theorem set_6 {X : AHeap} {K K' : ABlk} {a b c d e f : AHeap} : (X ++ [K] ++ a ++ b ++ c ++ d ++ e ++ f).set X.length K' = X ++ [K'] ++ a ++ b ++ c ++ d ++ e ++ f := by
  rw [set_app, set_5]; simp
theorem at_7 {X : AHeap} {K : ABlk} {a b c d e f g : AHeap} : (X ++ [K] ++ a ++ b ++ c ++ d ++ e ++ f ++ g)[X.length]? = some K := by
  rw [at_app, at_6]; simp
theorem ld_7 {n : Option Nat} {o : Nat} {X : AHeap} {K : ABlk} {a b c d e f g : AHeap} : loadF n (.ptr X.length o) (fun z => (X ++ [K] ++ a ++ b ++ c ++ d ++ e ++ f ++ g)[z]?) = ldB n o K := loadF_at at_7
theorem st_7 {y o : Nat} {v : AV} {X : AHeap} {K : ABlk} {a b c d e f g : AHeap} : storeF y (.ptr X.length o) v (fun z => (X ++ [K] ++ a ++ b ++ c ++ d ++ e ++ f ++ g)[z]?) = stB y o v X.length K := storeF_at at_7
theorem nx_7 {pos : Nat} {s : List UInt8} {X : AHeap} {a b c d e f g : AHeap} : nextF (.ptr X.length 0) (fun z => (X ++ [.iter s pos] ++ a ++ b ++ c ++ d ++ e ++ f ++ g)[z]?) = nextB X.length s pos := nextF_at at_7
theorem set_7 {X : AHeap} {K K' : ABlk} {a b c d e f g : AHeap} : (X ++ [K] ++ a ++ b ++ c ++ d ++ e ++ f ++ g).set X.length K' = X ++ [K'] ++ a ++ b ++ c ++ d ++ e ++ f ++ g := by
  rw [set_app, set_6]; simp
theorem at_8 {X : AHeap} {K : ABlk} {a b c d e f g i : AHeap} : (X ++ [K] ++ a ++ b ++ c ++ d ++ e ++ f ++ g ++ i)[X.length]? = some K := by
  rw [at_app, at_7]; simp
theorem ld_8 {n : Option Nat} {o : Nat} {X : AHeap} {K : ABlk} {a b c d e f g i : AHeap} : loadF n (.ptr X.length o) (fun z => (X ++ [K] ++ a ++ b ++ c ++ d ++ e ++ f ++ g ++ i)[z]?) = ldB n o K := loadF_at at_8
theorem st_8 {y o : Nat} {v : AV} {X : AHeap} {K : ABlk} {a b c d e f g i : AHeap} : storeF y (.ptr X.length o) v (fun z => (X ++ [K] ++ a ++ b ++ c ++ d ++ e ++ f ++ g ++ i)[z]?) = stB y o v X.length K := storeF_at at_8
theorem nx_8 {pos : Nat} {s : List UInt8} {X : AHeap} {a b c d e f g i : AHeap} : nextF (.ptr X.length 0) (fun z => (X ++ [.iter s pos] ++ a ++ b ++ c ++ d ++ e ++ f ++ g ++ i)[z]?) = nextB X.length s pos := nextF_at at_8
theorem set_8 {X : AHeap} {K K' : ABlk} {a b c d e f g i : AHeap} : (X ++ [K] ++ a ++ b ++ c ++ d ++ e ++ f ++ g ++ i).set X.length K' = X ++ [K'] ++ a ++ b ++ c ++ d ++ e ++ f ++ g ++ i := by
  rw [set_app, set_7]; simp
theorem at_9 {X : AHeap} {K : ABlk} {a b c d e f g i j : AHeap} : (X ++ [K] ++ a ++ b ++ c ++ d ++ e ++ f ++ g ++ i ++ j)[X.length]? = some K := by
  rw [at_app, at_8]; simp
theorem ld_9 {n : Option Nat} {o : Nat} {X : AHeap} {K : ABlk} {a b c d e f g i j : AHeap} : loadF n (.ptr X.length o) (fun z => (X ++ [K] ++ a ++ b ++ c ++ d ++ e ++ f ++ g ++ i ++ j)[z]?) = ldB n o K := loadF_at at_9
theorem st_9 {y o : Nat} {v : AV} {X : AHeap} {K : ABlk} {a b c d e f g i j : AHeap} : storeF y (.ptr X.length o) v (fun z => (X ++ [K] ++ a ++ b ++ c ++ d ++ e ++ f ++ g ++ i ++ j)[z]?) = stB y o v X.length K := storeF_at at_9
theorem nx_9 {pos : Nat} {s : List UInt8} {X : AHeap} {a b c d e f g i j : AHeap} : nextF (.ptr X.length 0) (fun z => (X ++ [.iter s pos] ++ a ++ b ++ c ++ d ++ e ++ f ++ g ++ i ++ j)[z]?) = nextB X.length s pos := nextF_at at_9
theorem set_9 {X : AHeap} {K K' : ABlk} {a b c d e f g i j : AHeap} : (X ++ [K] ++ a ++ b ++ c ++ d ++ e ++ f ++ g ++ i ++ j).set X.length K' = X ++ [K'] ++ a ++ b ++ c ++ d ++ e ++ f ++ g ++ i ++ j := by
  rw [set_app, set_8]; simp
theorem at_10 {X : AHeap} {K : ABlk} {a b c d e f g i j m : AHeap} : (X ++ [K] ++ a ++ b ++ c ++ d ++ e ++ f ++ g ++ i ++ j ++ m)[X.length]? = some K := by
  rw [at_app, at_9]; simp
theorem ld_10 {n : Option Nat} {o : Nat} {X : AHeap} {K : ABlk} {a b c d e f g i j m : AHeap} : loadF n (.ptr X.length o) (fun z => (X ++ [K] ++ a ++ b ++ c ++ d ++ e ++ f ++ g ++ i ++ j ++ m)[z]?) = ldB n o K := loadF_at at_10
theorem st_10 {y o : Nat} {v : AV} {X : AHeap} {K : ABlk} {a b c d e f g i j m : AHeap} : storeF y (.ptr X.length o) v (fun z => (X ++ [K] ++ a ++ b ++ c ++ d ++ e ++ f ++ g ++ i ++ j ++ m)[z]?) = stB y o v X.length K := storeF_at at_10
theorem nx_10 {pos : Nat} {s : List UInt8} {X : AHeap} {a b c d e f g i j m : AHeap} : nextF (.ptr X.length 0) (fun z => (X ++ [.iter s pos] ++ a ++ b ++ c ++ d ++ e ++ f ++ g ++ i ++ j ++ m)[z]?) = nextB X.length s pos := nextF_at at_10
theorem set_10 {X : AHeap} {K K' : ABlk} {a b c d e f g i j m : AHeap} : (X ++ [K] ++ a ++ b ++ c ++ d ++ e ++ f ++ g ++ i ++ j ++ m).set X.length K' = X ++ [K'] ++ a ++ b ++ c ++ d ++ e ++ f ++ g ++ i ++ j ++ m := by
  rw [set_app, set_9]; simp
theorem at_11 {X : AHeap} {K : ABlk} {a b c d e f g i j m p : AHeap} : (X ++ [K] ++ a ++ b ++ c ++ d ++ e ++ f ++ g ++ i ++ j ++ m ++ p)[X.length]? = some K := by
  rw [at_app, at_10]; simp
theorem ld_11 {n : Option Nat} {o : Nat} {X : AHeap} {K : ABlk} {a b c d e f g i j m p : AHeap} : loadF n (.ptr X.length o) (fun z => (X ++ [K] ++ a ++ b ++ c ++ d ++ e ++ f ++ g ++ i ++ j ++ m ++ p)[z]?) = ldB n o K := loadF_at at_11
theorem st_11 {y o : Nat} {v : AV} {X : AHeap} {K : ABlk} {a b c d e f g i j m p : AHeap} : storeF y (.ptr X.length o) v (fun z => (X ++ [K] ++ a ++ b ++ c ++ d ++ e ++ f ++ g ++ i ++ j ++ m ++ p)[z]?) = stB y o v X.length K := storeF_at at_11
theorem nx_11 {pos : Nat} {s : List UInt8} {X : AHeap} {a b c d e f g i j m p : AHeap} : nextF (.ptr X.length 0) (fun z => (X ++ [.iter s pos] ++ a ++ b ++ c ++ d ++ e ++ f ++ g ++ i ++ j ++ m ++ p)[z]?) = nextB X.length s pos := nextF_at at_11
theorem set_11 {X : AHeap} {K K' : ABlk} {a b c d e f g i j m p : AHeap} : (X ++ [K] ++ a ++ b ++ c ++ d ++ e ++ f ++ g ++ i ++ j ++ m ++ p).set X.length K' = X ++ [K'] ++ a ++ b ++ c ++ d ++ e ++ f ++ g ++ i ++ j ++ m ++ p := by
  rw [set_app, set_10]; simp
theorem at_12 {X : AHeap} {K : ABlk} {a b c d e f g i j m p q : AHeap} : (X ++ [K] ++ a ++ b ++ c ++ d ++ e ++ f ++ g ++ i ++ j ++ m ++ p ++ q)[X.length]? = some K := by
  rw [at_app, at_11]; simp
theorem ld_12 {n : Option Nat} {o : Nat} {X : AHeap} {K : ABlk} {a b c d e f g i j m p q : AHeap} : loadF n (.ptr X.length o) (fun z => (X ++ [K] ++ a ++ b ++ c ++ d ++ e ++ f ++ g ++ i ++ j ++ m ++ p ++ q)[z]?) = ldB n o K := loadF_at at_12
theorem st_12 {y o : Nat} {v : AV} {X : AHeap} {K : ABlk} {a b c d e f g i j m p q : AHeap} : storeF y (.ptr X.length o) v (fun z => (X ++ [K] ++ a ++ b ++ c ++ d ++ e ++ f ++ g ++ i ++ j ++ m ++ p ++ q)[z]?) = stB y o v X.length K := storeF_at at_12
theorem nx_12 {pos : Nat} {s : List UInt8} {X : AHeap} {a b c d e f g i j m p q : AHeap} : nextF (.ptr X.length 0) (fun z => (X ++ [.iter s pos] ++ a ++ b ++ c ++ d ++ e ++ f ++ g ++ i ++ j ++ m ++ p ++ q)[z]?) = nextB X.length s pos := nextF_at at_12
theorem set_12 {X : AHeap} {K K' : ABlk} {a b c d e f g i j m p q : AHeap} : (X ++ [K] ++ a ++ b ++ c ++ d ++ e ++ f ++ g ++ i ++ j ++ m ++ p ++ q).set X.length K' = X ++ [K'] ++ a ++ b ++ c ++ d ++ e ++ f ++ g ++ i ++ j ++ m ++ p ++ q := by
  rw [set_app, set_11]; simp
theorem at_13 {X : AHeap} {K : ABlk} {a b c d e f g i j m p q r : AHeap} : (X ++ [K] ++ a ++ b ++ c ++ d ++ e ++ f ++ g ++ i ++ j ++ m ++ p ++ q ++ r)[X.length]? = some K := by
  rw [at_app, at_12]; simp
theorem ld_13 {n : Option Nat} {o : Nat} {X : AHeap} {K : ABlk} {a b c d e f g i j m p q r : AHeap} : loadF n (.ptr X.length o) (fun z => (X ++ [K] ++ a ++ b ++ c ++ d ++ e ++ f ++ g ++ i ++ j ++ m ++ p ++ q ++ r)[z]?) = ldB n o K := loadF_at at_13
theorem st_13 {y o : Nat} {v : AV} {X : AHeap} {K : ABlk} {a b c d e f g i j m p q r : AHeap} : storeF y (.ptr X.length o) v (fun z => (X ++ [K] ++ a ++ b ++ c ++ d ++ e ++ f ++ g ++ i ++ j ++ m ++ p ++ q ++ r)[z]?) = stB y o v X.length K := storeF_at at_13
theorem nx_13 {pos : Nat} {s : List UInt8} {X : AHeap} {a b c d e f g i j m p q r : AHeap} : nextF (.ptr X.length 0) (fun z => (X ++ [.iter s pos] ++ a ++ b ++ c ++ d ++ e ++ f ++ g ++ i ++ j ++ m ++ p ++ q ++ r)[z]?) = nextB X.length s pos := nextF_at at_13
theorem set_13 {X : AHeap} {K K' : ABlk} {a b c d e f g i j m p q r : AHeap} : (X ++ [K] ++ a ++ b ++ c ++ d ++ e ++ f ++ g ++ i ++ j ++ m ++ p ++ q ++ r).set X.length K' = X ++ [K'] ++ a ++ b ++ c ++ d ++ e ++ f ++ g ++ i ++ j ++ m ++ p ++ q ++ r := by
  rw [set_app, set_12]; simp
theorem at_14 {X : AHeap} {K : ABlk} {a b c d e f g i j m p q r t : AHeap} : (X ++ [K] ++ a ++ b ++ c ++ d ++ e ++ f ++ g ++ i ++ j ++ m ++ p ++ q ++ r ++ t)[X.length]? = some K := by
  rw [at_app, at_13]; simp
theorem ld_14 {n : Option Nat} {o : Nat} {X : AHeap} {K : ABlk} {a b c d e f g i j m p q r t : AHeap} : loadF n (.ptr X.length o) (fun z => (X ++ [K] ++ a ++ b ++ c ++ d ++ e ++ f ++ g ++ i ++ j ++ m ++ p ++ q ++ r ++ t)[z]?) = ldB n o K := loadF_at at_14
theorem st_14 {y o : Nat} {v : AV} {X : AHeap} {K : ABlk} {a b c d e f g i j m p q r t : AHeap} : storeF y (.ptr X.length o) v (fun z => (X ++ [K] ++ a ++ b ++ c ++ d ++ e ++ f ++ g ++ i ++ j ++ m ++ p ++ q ++ r ++ t)[z]?) = stB y o v X.length K := storeF_at at_14
theorem nx_14 {pos : Nat} {s : List UInt8} {X : AHeap} {a b c d e f g i j m p q r t : AHeap} : nextF (.ptr X.length 0) (fun z => (X ++ [.iter s pos] ++ a ++ b ++ c ++ d ++ e ++ f ++ g ++ i ++ j ++ m ++ p ++ q ++ r ++ t)[z]?) = nextB X.length s pos := nextF_at at_14
theorem set_14 {X : AHeap} {K K' : ABlk} {a b c d e f g i j m p q r t : AHeap} : (X ++ [K] ++ a ++ b ++ c ++ d ++ e ++ f ++ g ++ i ++ j ++ m ++ p ++ q ++ r ++ t).set X.length K' = X ++ [K'] ++ a ++ b ++ c ++ d ++ e ++ f ++ g ++ i ++ j ++ m ++ p ++ q ++ r ++ t := by
  rw [set_app, set_13]; simp
theorem ldB_n {o : Nat} {c : List AV} {mu tl : Bool} {x : AV} (hx : c[o]? = some x) : ldB none o (.cells c mu tl) = some (x, .keep) := by simp only [ldB, hx]
theorem ldB_s {o n : Nat} {c : List AV} {mu tl : Bool} (hx : o + n ≤ c.length) : ldB (some n) o (.cells c mu tl) = some (.agg ((c.drop o).take n), .keep) := by simp only [ldB]; rw [if_pos hx]
theorem stB_agg {n o b : Nat} {c l : List AV} {tl : Bool} (h1 : l.length = n) (h2 : l.all AV.one = true) (h3 : o + n ≤ c.length) : stB n o (.agg l) b (.cells c true tl) = some (undefA, .set b (.cells (setL c o l) true tl)) := by
  show (if l.length = n ∧ l.all AV.one = true ∧ o + n ≤ c.length then _ else none) = _
  rw [if_pos ⟨h1, h2, h3⟩]; rfl
theorem AV.cells_one {v : AV} (hv : v.one = true) : v.cells = [v] := by cases v <;> first | rfl | cases hv
theorem stB_one {o b : Nat} {c : List AV} {v : AV} {tl : Bool} (h2 : v.one = true) (h3 : o + 1 ≤ c.length) : stB 1 o v b (.cells c true tl) = some (undefA, .set b (.cells (c.set o v) true tl)) := by
  simp only [stB, AV.cells_one h2]
  rw [if_pos ⟨rfl, by simp [h2], h3⟩]; rfl
theorem setL_nil {c : List AV} {o : Nat} : setL c o [] = c := rfl
theorem setL_cons {c : List AV} {o : Nat} {x : AV} {xs : List AV} : setL c o (x :: xs) = setL (c.set o x) (o + 1) xs := rfl
theorem zrep_0 {z : List AV} : zrep 0 z = [] := rfl
theorem zrep_s {n : Nat} {z : List AV} : zrep (n + 1) z = z ++ zrep n z := rfl
theorem fill_nil {c : List AV} : fillA c [] = some c := rfl
theorem fill_one {c : List AV} {off : Nat} {v : AV} {r : List (Nat × Nat × AV)} (h2 : v.one = true) (h3 : off + 1 ≤ c.length) : fillA c ((off, 1, v) :: r) = fillA (c.set off v) r := by
  simp only [fillA, AV.cells_one h2]
  rw [if_pos ⟨rfl, h3⟩]; rfl
theorem fill_agg {c l : List AV} {off n : Nat} {r : List (Nat × Nat × AV)} (h2 : l.length = n) (h3 : off + n ≤ c.length) : fillA c ((off, n, .agg l) :: r) = fillA (setL c off l) r := by
  show (if l.length = n ∧ off + n ≤ c.length then fillA (setL c off l) r else none) = _
  rw [if_pos ⟨h2, h3⟩]
theorem bsl_ok {es n N : Nat} {c : List AV} (h1 : c.all AV.one = true) (h2 : c.length = n * es) (h3 : 1 ≤ n) : bslF es n (some c) N = some (.slice N 0 n es, .push (.cells c true true)) := by
  have : Nat.beq n 0 = false := by cases n with | zero => omega | succ n => rfl
  simp only [bslF]; rw [if_pos ⟨h1, h2⟩, this]; rfl
theorem bsl_z {es N : Nat} : bslF es 0 (some []) N = some (.slice N 0 0 es, .push (.cells [] true false)) := by
  simp only [bslF]; rw [if_pos ⟨rfl, by simp⟩]; rfl
theorem m_map0 {f : Nat × Opd → Nat × Nat × AV} : List.map f [] = [] := rfl
theorem m_mapc {f : Nat × Opd → Nat × Nat × AV} {a : Nat × Opd} {l : List (Nat × Opd)} : List.map f (a :: l) = f a :: l.map f := rfl
theorem n_map0 {f : Nat × Nat × Opd → Nat × Nat × AV} : List.map f [] = [] := rfl
theorem n_mapc {f : Nat × Nat × Opd → Nat × Nat × AV} {a : Nat × Nat × Opd} {l : List (Nat × Nat × Opd)} : List.map f (a :: l) = f a :: l.map f := rfl
theorem l_drop0 {l : List AV} : l.drop 0 = l := rfl
theorem l_drops {a : AV} {l : List AV} {n : Nat} : (a :: l).drop (n + 1) = l.drop n := rfl
theorem l_take0 {l : List AV} : l.take 0 = [] := by simp
theorem l_takes {a : AV} {l : List AV} {n : Nat} : (a :: l).take (n + 1) = a :: l.take n := rfl
theorem l_get0 {a : AV} {l : List AV} : (a :: l)[0]? = some a := rfl
theorem l_gets {a : AV} {l : List AV} {n : Nat} : (a :: l)[n + 1]? = l[n]? := rfl
abbrev intRow (x : Int) : List AV := [.int .i64 x]
theorem isSl_ints {X : AHeap} (l : List Int) : IsSl (X ++ [.cells (l.map (AV.int .i64)) true true]) (.slice X.length 0 l.length 1) 1 (l.map intRow) := by
  have hf : (l.map intRow).flatten = l.map (AV.int .i64) := by induction l with
    | nil => rfl
    | cons x xs ih => simp [intRow] at ih ⊢; exact ih
  have h1 : (l.map intRow).length = l.length := by simp
  rw [← h1]
  exact .mk (by simp; exact ⟨rfl, rfl, rfl⟩) (by rw [hf, Nat.mul_one, h1, List.drop_zero]; exact List.take_of_length_le (by simp)) (by simp) (by simp [intRow])
section
variable {h : AHeap} {s : AV} {es : Nat} {cs : List (List AV)}
theorem IsSl.loadE (hs : IsSl h s es cs) {k : AHeap} {i : Nat} (e : Ext h k) (hi : i < cs.length) : loadF (some es) (.ptr s.sb (s.so + i * es)) (fun b => k[b]?) = some (.agg cs[i], .keep) := (hs.ext e).load hi
theorem IsSl.loadfE (hs : IsSl h s es cs) {k : AHeap} {i off : Nat} (e : Ext h k) (hi : i < cs.length) {x : AV} (hx : cs[i][off]? = some x) : loadF none (.ptr s.sb (s.so + i * es + off)) (fun b => k[b]?) = some (x, .keep) := (hs.ext e).loadf hi hx
theorem IsSl.load0E (hs : IsSl h s es cs) {k : AHeap} {i : Nat} (e : Ext h k) (hi : i < cs.length) {x : AV} (hx : cs[i][0]? = some x) : loadF none (.ptr s.sb (s.so + i * es)) (fun b => k[b]?) = some (x, .keep) := (hs.ext e).loadf (off := 0) hi hx
end
theorem hset :
    (∀ {n : Option Nat} {o : Nat} {X : AHeap} {K : ABlk}, loadF n (.ptr X.length o) (fun z => (X ++ [K] )[z]?) = ldB n o K) ∧
    (∀ {y o : Nat} {v : AV} {X : AHeap} {K : ABlk}, storeF y (.ptr X.length o) v (fun z => (X ++ [K] )[z]?) = stB y o v X.length K) ∧
    (∀ {pos : Nat} {s : List UInt8} {X : AHeap}, nextF (.ptr X.length 0) (fun z => (X ++ [.iter s pos] )[z]?) = nextB X.length s pos) ∧
    (∀ {X : AHeap} {K K' : ABlk}, (X ++ [K] ).set X.length K' = X ++ [K']) ∧
    (∀ {n : Option Nat} {o : Nat} {X : AHeap} {K : ABlk} {a : AHeap}, loadF n (.ptr X.length o) (fun z => (X ++ [K] ++ a)[z]?) = ldB n o K) ∧
    (∀ {y o : Nat} {v : AV} {X : AHeap} {K : ABlk} {a : AHeap}, storeF y (.ptr X.length o) v (fun z => (X ++ [K] ++ a)[z]?) = stB y o v X.length K) ∧
    (∀ {pos : Nat} {s : List UInt8} {X : AHeap} {a : AHeap}, nextF (.ptr X.length 0) (fun z => (X ++ [.iter s pos] ++ a)[z]?) = nextB X.length s pos) ∧
    (∀ {X : AHeap} {K K' : ABlk} {a : AHeap}, (X ++ [K] ++ a).set X.length K' = X ++ [K'] ++ a) ∧
    (∀ {n : Option Nat} {o : Nat} {X : AHeap} {K : ABlk} {a b : AHeap}, loadF n (.ptr X.length o) (fun z => (X ++ [K] ++ a ++ b)[z]?) = ldB n o K) ∧
    (∀ {y o : Nat} {v : AV} {X : AHeap} {K : ABlk} {a b : AHeap}, storeF y (.ptr X.length o) v (fun z => (X ++ [K] ++ a ++ b)[z]?) = stB y o v X.length K) ∧
    (∀ {pos : Nat} {s : List UInt8} {X : AHeap} {a b : AHeap}, nextF (.ptr X.length 0) (fun z => (X ++ [.iter s pos] ++ a ++ b)[z]?) = nextB X.length s pos) ∧
    (∀ {X : AHeap} {K K' : ABlk} {a b : AHeap}, (X ++ [K] ++ a ++ b).set X.length K' = X ++ [K'] ++ a ++ b) ∧
    (∀ {n : Option Nat} {o : Nat} {X : AHeap} {K : ABlk} {a b c : AHeap}, loadF n (.ptr X.length o) (fun z => (X ++ [K] ++ a ++ b ++ c)[z]?) = ldB n o K) ∧
    (∀ {y o : Nat} {v : AV} {X : AHeap} {K : ABlk} {a b c : AHeap}, storeF y (.ptr X.length o) v (fun z => (X ++ [K] ++ a ++ b ++ c)[z]?) = stB y o v X.length K) ∧
    (∀ {pos : Nat} {s : List UInt8} {X : AHeap} {a b c : AHeap}, nextF (.ptr X.length 0) (fun z => (X ++ [.iter s pos] ++ a ++ b ++ c)[z]?) = nextB X.length s pos) ∧
    (∀ {X : AHeap} {K K' : ABlk} {a b c : AHeap}, (X ++ [K] ++ a ++ b ++ c).set X.length K' = X ++ [K'] ++ a ++ b ++ c) ∧
    (∀ {n : Option Nat} {o : Nat} {X : AHeap} {K : ABlk} {a b c d : AHeap}, loadF n (.ptr X.length o) (fun z => (X ++ [K] ++ a ++ b ++ c ++ d)[z]?) = ldB n o K) ∧
    (∀ {y o : Nat} {v : AV} {X : AHeap} {K : ABlk} {a b c d : AHeap}, storeF y (.ptr X.length o) v (fun z => (X ++ [K] ++ a ++ b ++ c ++ d)[z]?) = stB y o v X.length K) ∧
    (∀ {pos : Nat} {s : List UInt8} {X : AHeap} {a b c d : AHeap}, nextF (.ptr X.length 0) (fun z => (X ++ [.iter s pos] ++ a ++ b ++ c ++ d)[z]?) = nextB X.length s pos) ∧
    (∀ {X : AHeap} {K K' : ABlk} {a b c d : AHeap}, (X ++ [K] ++ a ++ b ++ c ++ d).set X.length K' = X ++ [K'] ++ a ++ b ++ c ++ d) ∧
    (∀ {n : Option Nat} {o : Nat} {X : AHeap} {K : ABlk} {a b c d e : AHeap}, loadF n (.ptr X.length o) (fun z => (X ++ [K] ++ a ++ b ++ c ++ d ++ e)[z]?) = ldB n o K) ∧
    (∀ {y o : Nat} {v : AV} {X : AHeap} {K : ABlk} {a b c d e : AHeap}, storeF y (.ptr X.length o) v (fun z => (X ++ [K] ++ a ++ b ++ c ++ d ++ e)[z]?) = stB y o v X.length K) ∧
    (∀ {pos : Nat} {s : List UInt8} {X : AHeap} {a b c d e : AHeap}, nextF (.ptr X.length 0) (fun z => (X ++ [.iter s pos] ++ a ++ b ++ c ++ d ++ e)[z]?) = nextB X.length s pos) ∧
    (∀ {X : AHeap} {K K' : ABlk} {a b c d e : AHeap}, (X ++ [K] ++ a ++ b ++ c ++ d ++ e).set X.length K' = X ++ [K'] ++ a ++ b ++ c ++ d ++ e) ∧
    (∀ {n : Option Nat} {o : Nat} {X : AHeap} {K : ABlk} {a b c d e f : AHeap}, loadF n (.ptr X.length o) (fun z => (X ++ [K] ++ a ++ b ++ c ++ d ++ e ++ f)[z]?) = ldB n o K) ∧
    (∀ {y o : Nat} {v : AV} {X : AHeap} {K : ABlk} {a b c d e f : AHeap}, storeF y (.ptr X.length o) v (fun z => (X ++ [K] ++ a ++ b ++ c ++ d ++ e ++ f)[z]?) = stB y o v X.length K) ∧
    (∀ {pos : Nat} {s : List UInt8} {X : AHeap} {a b c d e f : AHeap}, nextF (.ptr X.length 0) (fun z => (X ++ [.iter s pos] ++ a ++ b ++ c ++ d ++ e ++ f)[z]?) = nextB X.length s pos) ∧
    (∀ {X : AHeap} {K K' : ABlk} {a b c d e f : AHeap}, (X ++ [K] ++ a ++ b ++ c ++ d ++ e ++ f).set X.length K' = X ++ [K'] ++ a ++ b ++ c ++ d ++ e ++ f) ∧
    (∀ {n : Option Nat} {o : Nat} {X : AHeap} {K : ABlk} {a b c d e f g : AHeap}, loadF n (.ptr X.length o) (fun z => (X ++ [K] ++ a ++ b ++ c ++ d ++ e ++ f ++ g)[z]?) = ldB n o K) ∧
    (∀ {y o : Nat} {v : AV} {X : AHeap} {K : ABlk} {a b c d e f g : AHeap}, storeF y (.ptr X.length o) v (fun z => (X ++ [K] ++ a ++ b ++ c ++ d ++ e ++ f ++ g)[z]?) = stB y o v X.length K) ∧
    (∀ {pos : Nat} {s : List UInt8} {X : AHeap} {a b c d e f g : AHeap}, nextF (.ptr X.length 0) (fun z => (X ++ [.iter s pos] ++ a ++ b ++ c ++ d ++ e ++ f ++ g)[z]?) = nextB X.length s pos) ∧
    (∀ {X : AHeap} {K K' : ABlk} {a b c d e f g : AHeap}, (X ++ [K] ++ a ++ b ++ c ++ d ++ e ++ f ++ g).set X.length K' = X ++ [K'] ++ a ++ b ++ c ++ d ++ e ++ f ++ g) ∧
    (∀ {n : Option Nat} {o : Nat} {X : AHeap} {K : ABlk} {a b c d e f g i : AHeap}, loadF n (.ptr X.length o) (fun z => (X ++ [K] ++ a ++ b ++ c ++ d ++ e ++ f ++ g ++ i)[z]?) = ldB n o K) ∧
    (∀ {y o : Nat} {v : AV} {X : AHeap} {K : ABlk} {a b c d e f g i : AHeap}, storeF y (.ptr X.length o) v (fun z => (X ++ [K] ++ a ++ b ++ c ++ d ++ e ++ f ++ g ++ i)[z]?) = stB y o v X.length K) ∧
    (∀ {pos : Nat} {s : List UInt8} {X : AHeap} {a b c d e f g i : AHeap}, nextF (.ptr X.length 0) (fun z => (X ++ [.iter s pos] ++ a ++ b ++ c ++ d ++ e ++ f ++ g ++ i)[z]?) = nextB X.length s pos) ∧
    (∀ {X : AHeap} {K K' : ABlk} {a b c d e f g i : AHeap}, (X ++ [K] ++ a ++ b ++ c ++ d ++ e ++ f ++ g ++ i).set X.length K' = X ++ [K'] ++ a ++ b ++ c ++ d ++ e ++ f ++ g ++ i) ∧
    (∀ {n : Option Nat} {o : Nat} {X : AHeap} {K : ABlk} {a b c d e f g i j : AHeap}, loadF n (.ptr X.length o) (fun z => (X ++ [K] ++ a ++ b ++ c ++ d ++ e ++ f ++ g ++ i ++ j)[z]?) = ldB n o K) ∧
    (∀ {y o : Nat} {v : AV} {X : AHeap} {K : ABlk} {a b c d e f g i j : AHeap}, storeF y (.ptr X.length o) v (fun z => (X ++ [K] ++ a ++ b ++ c ++ d ++ e ++ f ++ g ++ i ++ j)[z]?) = stB y o v X.length K) ∧
    (∀ {pos : Nat} {s : List UInt8} {X : AHeap} {a b c d e f g i j : AHeap}, nextF (.ptr X.length 0) (fun z => (X ++ [.iter s pos] ++ a ++ b ++ c ++ d ++ e ++ f ++ g ++ i ++ j)[z]?) = nextB X.length s pos) ∧
    (∀ {X : AHeap} {K K' : ABlk} {a b c d e f g i j : AHeap}, (X ++ [K] ++ a ++ b ++ c ++ d ++ e ++ f ++ g ++ i ++ j).set X.length K' = X ++ [K'] ++ a ++ b ++ c ++ d ++ e ++ f ++ g ++ i ++ j) ∧
    (∀ {n : Option Nat} {o : Nat} {X : AHeap} {K : ABlk} {a b c d e f g i j m : AHeap}, loadF n (.ptr X.length o) (fun z => (X ++ [K] ++ a ++ b ++ c ++ d ++ e ++ f ++ g ++ i ++ j ++ m)[z]?) = ldB n o K) ∧
    (∀ {y o : Nat} {v : AV} {X : AHeap} {K : ABlk} {a b c d e f g i j m : AHeap}, storeF y (.ptr X.length o) v (fun z => (X ++ [K] ++ a ++ b ++ c ++ d ++ e ++ f ++ g ++ i ++ j ++ m)[z]?) = stB y o v X.length K) ∧
    (∀ {pos : Nat} {s : List UInt8} {X : AHeap} {a b c d e f g i j m : AHeap}, nextF (.ptr X.length 0) (fun z => (X ++ [.iter s pos] ++ a ++ b ++ c ++ d ++ e ++ f ++ g ++ i ++ j ++ m)[z]?) = nextB X.length s pos) ∧
    (∀ {X : AHeap} {K K' : ABlk} {a b c d e f g i j m : AHeap}, (X ++ [K] ++ a ++ b ++ c ++ d ++ e ++ f ++ g ++ i ++ j ++ m).set X.length K' = X ++ [K'] ++ a ++ b ++ c ++ d ++ e ++ f ++ g ++ i ++ j ++ m) ∧
    (∀ {n : Option Nat} {o : Nat} {X : AHeap} {K : ABlk} {a b c d e f g i j m p : AHeap}, loadF n (.ptr X.length o) (fun z => (X ++ [K] ++ a ++ b ++ c ++ d ++ e ++ f ++ g ++ i ++ j ++ m ++ p)[z]?) = ldB n o K) ∧
    (∀ {y o : Nat} {v : AV} {X : AHeap} {K : ABlk} {a b c d e f g i j m p : AHeap}, storeF y (.ptr X.length o) v (fun z => (X ++ [K] ++ a ++ b ++ c ++ d ++ e ++ f ++ g ++ i ++ j ++ m ++ p)[z]?) = stB y o v X.length K) ∧
    (∀ {pos : Nat} {s : List UInt8} {X : AHeap} {a b c d e f g i j m p : AHeap}, nextF (.ptr X.length 0) (fun z => (X ++ [.iter s pos] ++ a ++ b ++ c ++ d ++ e ++ f ++ g ++ i ++ j ++ m ++ p)[z]?) = nextB X.length s pos) ∧
    (∀ {X : AHeap} {K K' : ABlk} {a b c d e f g i j m p : AHeap}, (X ++ [K] ++ a ++ b ++ c ++ d ++ e ++ f ++ g ++ i ++ j ++ m ++ p).set X.length K' = X ++ [K'] ++ a ++ b ++ c ++ d ++ e ++ f ++ g ++ i ++ j ++ m ++ p) ∧
    (∀ {n : Option Nat} {o : Nat} {X : AHeap} {K : ABlk} {a b c d e f g i j m p q : AHeap}, loadF n (.ptr X.length o) (fun z => (X ++ [K] ++ a ++ b ++ c ++ d ++ e ++ f ++ g ++ i ++ j ++ m ++ p ++ q)[z]?) = ldB n o K) ∧
    (∀ {y o : Nat} {v : AV} {X : AHeap} {K : ABlk} {a b c d e f g i j m p q : AHeap}, storeF y (.ptr X.length o) v (fun z => (X ++ [K] ++ a ++ b ++ c ++ d ++ e ++ f ++ g ++ i ++ j ++ m ++ p ++ q)[z]?) = stB y o v X.length K) ∧
    (∀ {pos : Nat} {s : List UInt8} {X : AHeap} {a b c d e f g i j m p q : AHeap}, nextF (.ptr X.length 0) (fun z => (X ++ [.iter s pos] ++ a ++ b ++ c ++ d ++ e ++ f ++ g ++ i ++ j ++ m ++ p ++ q)[z]?) = nextB X.length s pos) ∧
    (∀ {X : AHeap} {K K' : ABlk} {a b c d e f g i j m p q : AHeap}, (X ++ [K] ++ a ++ b ++ c ++ d ++ e ++ f ++ g ++ i ++ j ++ m ++ p ++ q).set X.length K' = X ++ [K'] ++ a ++ b ++ c ++ d ++ e ++ f ++ g ++ i ++ j ++ m ++ p ++ q) ∧
    (∀ {n : Option Nat} {o : Nat} {X : AHeap} {K : ABlk} {a b c d e f g i j m p q r : AHeap}, loadF n (.ptr X.length o) (fun z => (X ++ [K] ++ a ++ b ++ c ++ d ++ e ++ f ++ g ++ i ++ j ++ m ++ p ++ q ++ r)[z]?) = ldB n o K) ∧
    (∀ {y o : Nat} {v : AV} {X : AHeap} {K : ABlk} {a b c d e f g i j m p q r : AHeap}, storeF y (.ptr X.length o) v (fun z => (X ++ [K] ++ a ++ b ++ c ++ d ++ e ++ f ++ g ++ i ++ j ++ m ++ p ++ q ++ r)[z]?) = stB y o v X.length K) ∧
    (∀ {pos : Nat} {s : List UInt8} {X : AHeap} {a b c d e f g i j m p q r : AHeap}, nextF (.ptr X.length 0) (fun z => (X ++ [.iter s pos] ++ a ++ b ++ c ++ d ++ e ++ f ++ g ++ i ++ j ++ m ++ p ++ q ++ r)[z]?) = nextB X.length s pos) ∧
    (∀ {X : AHeap} {K K' : ABlk} {a b c d e f g i j m p q r : AHeap}, (X ++ [K] ++ a ++ b ++ c ++ d ++ e ++ f ++ g ++ i ++ j ++ m ++ p ++ q ++ r).set X.length K' = X ++ [K'] ++ a ++ b ++ c ++ d ++ e ++ f ++ g ++ i ++ j ++ m ++ p ++ q ++ r) ∧
    (∀ {n : Option Nat} {o : Nat} {X : AHeap} {K : ABlk} {a b c d e f g i j m p q r t : AHeap}, loadF n (.ptr X.length o) (fun z => (X ++ [K] ++ a ++ b ++ c ++ d ++ e ++ f ++ g ++ i ++ j ++ m ++ p ++ q ++ r ++ t)[z]?) = ldB n o K) ∧
    (∀ {y o : Nat} {v : AV} {X : AHeap} {K : ABlk} {a b c d e f g i j m p q r t : AHeap}, storeF y (.ptr X.length o) v (fun z => (X ++ [K] ++ a ++ b ++ c ++ d ++ e ++ f ++ g ++ i ++ j ++ m ++ p ++ q ++ r ++ t)[z]?) = stB y o v X.length K) ∧
    (∀ {pos : Nat} {s : List UInt8} {X : AHeap} {a b c d e f g i j m p q r t : AHeap}, nextF (.ptr X.length 0) (fun z => (X ++ [.iter s pos] ++ a ++ b ++ c ++ d ++ e ++ f ++ g ++ i ++ j ++ m ++ p ++ q ++ r ++ t)[z]?) = nextB X.length s pos) ∧
    (∀ {X : AHeap} {K K' : ABlk} {a b c d e f g i j m p q r t : AHeap}, (X ++ [K] ++ a ++ b ++ c ++ d ++ e ++ f ++ g ++ i ++ j ++ m ++ p ++ q ++ r ++ t).set X.length K' = X ++ [K'] ++ a ++ b ++ c ++ d ++ e ++ f ++ g ++ i ++ j ++ m ++ p ++ q ++ r ++ t) ∧
    (∀ {x : Opd} {ρ : Opd → AV} {G : Nat → Option ABlk} {N : Nat}, stepT (.nexts x) ρ G N = nextF (ρ x) G) ∧
    (∀ {P : Program} {ro : Option Nat → Prop} {ks : List Kt} {ts : TS} {h : AHeap} {Q : Ex → TS → AHeap → Prop} {d : Option Nat} {q : Bool} {l : List IOp} {x : Opd}, WP P ro ({ dst := d, k := .rstr x, gd := none, q := q } :: l) ks ts h Q = WR P ro (rstrF (val ts x) h.length) q d l ks ts h Q) ∧
    (∀ {s : List UInt8} {N : Nat}, rstrF (.str s) N = some (.ptr N 0, .push (.iter s 0))) ∧
    (∀ {o : Nat} {c : List AV} {mu tl : Bool} {x : AV} (hx : c[o]? = some x), ldB none o (.cells c mu tl) = some (x, .keep)) ∧
    (∀ {o n : Nat} {c : List AV} {mu tl : Bool} (hx : o + n ≤ c.length), ldB (some n) o (.cells c mu tl) = some (.agg ((c.drop o).take n), .keep)) ∧
    (∀ {n o b : Nat} {c l : List AV} {tl : Bool} (h1 : l.length = n) (h2 : l.all AV.one = true) (h3 : o + n ≤ c.length), stB n o (.agg l) b (.cells c true tl) = some (undefA, .set b (.cells (setL c o l) true tl))) ∧
    (∀ {o b : Nat} {c : List AV} {v : AV} {tl : Bool} (h2 : v.one = true) (h3 : o + 1 ≤ c.length), stB 1 o v b (.cells c true tl) = some (undefA, .set b (.cells (c.set o v) true tl))) ∧
    (∀ {c : List AV} {o : Nat}, setL c o [] = c) ∧
    (∀ {c : List AV} {o : Nat} {x : AV} {xs : List AV}, setL c o (x :: xs) = setL (c.set o x) (o + 1) xs) ∧
    (∀ {z : List AV}, zrep 0 z = []) ∧
    (∀ {n : Nat} {z : List AV}, zrep (n + 1) z = z ++ zrep n z) ∧
    (∀ {c : List AV}, fillA c [] = some c) ∧
    (∀ {c : List AV} {off : Nat} {v : AV} {r : List (Nat × Nat × AV)} (h2 : v.one = true) (h3 : off + 1 ≤ c.length), fillA c ((off, 1, v) :: r) = fillA (c.set off v) r) ∧
    (∀ {c l : List AV} {off n : Nat} {r : List (Nat × Nat × AV)} (h2 : l.length = n) (h3 : off + n ≤ c.length), fillA c ((off, n, .agg l) :: r) = fillA (setL c off l) r) ∧
    (∀ {es n N : Nat} {c : List AV} (h1 : c.all AV.one = true) (h2 : c.length = n * es) (h3 : 1 ≤ n), bslF es n (some c) N = some (.slice N 0 n es, .push (.cells c true true))) ∧ (∀ {es N : Nat}, bslF es 0 (some []) N = some (.slice N 0 0 es, .push (.cells [] true false))) ∧
    (∀ {f : Nat × Opd → Nat × Nat × AV}, List.map f [] = []) ∧
    (∀ {f : Nat × Opd → Nat × Nat × AV} {a : Nat × Opd} {l : List (Nat × Opd)}, List.map f (a :: l) = f a :: l.map f) ∧
    (∀ {f : Nat × Nat × Opd → Nat × Nat × AV}, List.map f [] = []) ∧
    (∀ {f : Nat × Nat × Opd → Nat × Nat × AV} {a : Nat × Nat × Opd} {l : List (Nat × Nat × Opd)}, List.map f (a :: l) = f a :: l.map f) ∧
    (∀ {l : List AV}, l.drop 0 = l) ∧
    (∀ {a : AV} {l : List AV} {n : Nat}, (a :: l).drop (n + 1) = l.drop n) ∧
    (∀ {l : List AV}, l.take 0 = []) ∧
    (∀ {a : AV} {l : List AV} {n : Nat}, (a :: l).take (n + 1) = a :: l.take n) ∧
    (∀ {a : AV} {l : List AV}, (a :: l)[0]? = some a) ∧
    (∀ {a : AV} {l : List AV} {n : Nat}, (a :: l)[n + 1]? = l[n]?) :=
  ⟨@ld_0, @st_0, @nx_0, @set_0, @ld_1, @st_1, @nx_1, @set_1, @ld_2, @st_2, @nx_2, @set_2, @ld_3, @st_3, @nx_3, @set_3, @ld_4, @st_4, @nx_4, @set_4, @ld_5, @st_5, @nx_5, @set_5, @ld_6, @st_6, @nx_6, @set_6, @ld_7, @st_7, @nx_7, @set_7, @ld_8, @st_8, @nx_8, @set_8, @ld_9, @st_9, @nx_9, @set_9, @ld_10, @st_10, @nx_10, @set_10, @ld_11, @st_11, @nx_11, @set_11, @ld_12, @st_12, @nx_12, @set_12, @ld_13, @st_13, @nx_13, @set_13, @ld_14, @st_14, @nx_14, @set_14, @stepT_nexts, @WP_rstrF, @rstr_s, @ldB_n, @ldB_s, @stB_agg, @stB_one, @setL_nil, @setL_cons, @zrep_0, @zrep_s, @fill_nil, @fill_one, @fill_agg, @bsl_ok, @bsl_z, @m_map0, @m_mapc, @n_map0, @n_mapc, @l_drop0, @l_drops, @l_take0, @l_takes, @l_get0, @l_gets⟩
theorem eset :
    (∀ {h : AHeap}, Ext h (h ) = True) ∧
    (∀ {h a : AHeap}, Ext h (h ++ a) = True) ∧
    (∀ {h a b : AHeap}, Ext h (h ++ a ++ b) = True) ∧
    (∀ {h a b c : AHeap}, Ext h (h ++ a ++ b ++ c) = True) ∧
    (∀ {h a b c d : AHeap}, Ext h (h ++ a ++ b ++ c ++ d) = True) ∧
    (∀ {h a b c d e : AHeap}, Ext h (h ++ a ++ b ++ c ++ d ++ e) = True) ∧
    (∀ {h a b c d e f : AHeap}, Ext h (h ++ a ++ b ++ c ++ d ++ e ++ f) = True) ∧
    (∀ {h a b c d e f g : AHeap}, Ext h (h ++ a ++ b ++ c ++ d ++ e ++ f ++ g) = True) ∧
    (∀ {h a b c d e f g i : AHeap}, Ext h (h ++ a ++ b ++ c ++ d ++ e ++ f ++ g ++ i) = True) ∧
    (∀ {h a b c d e f g i j : AHeap}, Ext h (h ++ a ++ b ++ c ++ d ++ e ++ f ++ g ++ i ++ j) = True) :=
  ⟨@ext_0, @ext_1, @ext_2, @ext_3, @ext_4, @ext_5, @ext_6, @ext_7, @ext_8, @ext_9⟩
end Go.Abs
namespace Go.Abs
def ldV : Option AV → Option (AV × Eff)
  | some x => some (x, .keep)
  | none => none
theorem ldV_s {x : AV} : ldV (some x) = some (x, .keep) := rfl
theorem ldB_v {o : Nat} {c : List AV} {mu tl : Bool} : ldB none o (.cells c mu tl) = ldV c[o]? := rfl
def elp (s : AV) (es i : Nat) : AV := .ptr s.sb (s.so + i * es)
def elf (s : AV) (es i off : Nat) : AV := .ptr s.sb (s.so + i * es + off)
theorem fadr_el {s : AV} {es i off : Nat} : fadrF off (elp s es i) = some (elf s es i off) := rfl
section
variable {α : Type} {row : α → List AV} {L : List α} {h k : AHeap} {s : AV} {es : Nat}
theorem IsSl.lenm (hs : IsSl h s es (L.map row)) (G : Nat → Option ABlk) : Go.Abs.lenG .sl G s = some L.length := by
  rw [hs.lenG G, List.length_map]
theorem IsSl.ixm (hs : IsSl h s es (L.map row)) {i : Nat} {kk : IntKind} (hi : i < L.length) : iadrF es s (.int kk (i : Int)) = some (elp s es i, .keep) := by
  rw [hs.iadr (by omega) (by rw [List.length_map]; omega), Int.toNat_natCast]; rfl
theorem IsSl.ix0 (hs : IsSl h s es (L.map row)) {kk : IntKind} (hi : 0 < L.length) : iadrF es s (.int kk 0) = some (elp s es 0, .keep) := hs.ixm hi
theorem IsSl.ldm (hs : IsSl h s es (L.map row)) {i : Nat} (hi : i < L.length) (e : Ext h k) : loadF (some es) (elp s es i) (fun b => k[b]?) = some (.agg (row L[i]), .keep) := by
  rw [elp, hs.loadE e (by rw [List.length_map]; exact hi), List.getElem_map]
theorem IsSl.lfm (hs : IsSl h s es (L.map row)) {i off : Nat} {x : AV} (hi : i < L.length) (hx : (row L[i])[off]? = some x) (e : Ext h k) : loadF none (elf s es i off) (fun b => k[b]?) = some (x, .keep) :=
  hs.loadfE e (by rw [List.length_map]; exact hi) (by rw [List.getElem_map]; exact hx)
theorem IsSl.l1m (hs : IsSl h s es (L.map row)) {i : Nat} {x : AV} (hi : i < L.length) (hx : (row L[i])[0]? = some x) (e : Ext h k) : loadF none (elp s es i) (fun b => k[b]?) = some (x, .keep) :=
  hs.load0E e (by rw [List.length_map]; exact hi) (by rw [List.getElem_map]; exact hx)
theorem IsSl.slm (hs : IsSl h s es (L.map row)) {lo hi : Option AV} {l u : Nat} (hb : bnds lo hi L.length = some (l, u)) : ∃ s', slF es s lo hi = some (s', .keep) ∧ IsSl h s' es (((L.drop l).take (u - l)).map row) := by
  obtain ⟨s', h1, h2⟩ := hs.sl (lo := lo) (hi := hi) (by rw [List.length_map]; exact hb)
  exact ⟨s', h1, by rw [List.map_take, List.map_drop]; exact h2⟩
end
theorem bnds_hi {n k : Nat} {kk : IntKind} (hk : k ≤ n) : bnds none (some (.int kk (k : Int))) n = some (0, k) := by
  simp only [bnds, loN, hiN]
  rw [if_pos (by omega)]; simp
theorem bnds_lo {n k : Nat} {kk : IntKind} (hk : k ≤ n) : bnds (some (.int kk (k : Int))) none n = some (k, n) := by
  simp only [bnds, loN, hiN]
  rw [if_pos (by omega)]; simp
theorem ixs_0 {c : UInt8} {r : List UInt8} {k : IntKind} : ixsF (.str (c :: r)) (.int k 0) = some (.int .u8 c.toNat) := rfl
theorem ixs_in {s : List UInt8} {i : Nat} {k : IntKind} (hi : i < s.length) : ixsF (.str s) (.int k (i : Nat)) = some (.int .u8 s[i].toNat) := by
  simp [ixsF, hi]
theorem wrapN {n : Nat} (h : n + 1 < 2 ^ 63) : IntKind.i64.wrap ((n : Int) + 1) = ((n + 1 : Nat) : Int) := by rw [wrap_in (by omega) (by omega)]; rfl
def lv : Option (AV × Eff) → Option AV
  | some (v, _) => some v
  | none => none
theorem lv_s {v : AV} {e : Eff} : lv (some (v, e)) = some v := rfl
theorem resVal_l {ts : TS} {h : AHeap} {a : Nat} {n : Option Nat} : resVal ts h (a, some n) = lv (loadF n (slot ts a) (fun b => h[b]?)) := by
  simp only [resVal, fnK, val, slot]
  cases ts.getD a undefA with
  | ptr b o =>
    simp only [loadF]
    cases h[b]? with
    | none => rfl
    | some k =>
      cases k with
      | cells c mu tl =>
        cases n with
        | none => simp only; cases c[o]? <;> rfl
        | some n => simp only; by_cases hc : o + n ≤ c.length
                    · rw [if_pos hc, if_pos hc]; rfl
                    · rw [if_neg hc, if_neg hc]; rfl
      | _ => rfl
  | _ => rfl
def tup2 : Option AV → Option AV → Option AV
  | some a, some b => some (.tup [a, b])
  | _, _ => none
def tup3 : Option AV → Option AV → Option AV → Option AV
  | some a, some b, some c => some (.tup [a, b, c])
  | _, _, _ => none
theorem tup2_s {a b : AV} : tup2 (some a) (some b) = some (.tup [a, b]) := rfl
theorem tup3_s {a b c : AV} : tup3 (some a) (some b) (some c) = some (.tup [a, b, c]) := rfl
theorem resAll_v1 {ts : TS} {h : AHeap} {r : Nat × Option (Option Nat)} : resAll [r] ts h = resVal ts h r := by
  simp only [resAll, resVals]
  cases resVal ts h r <;> rfl
theorem resAll_v2 {ts : TS} {h : AHeap} {r s : Nat × Option (Option Nat)} : resAll [r, s] ts h = tup2 (resVal ts h r) (resVal ts h s) := by
  simp only [resAll, resVals]
  cases resVal ts h r <;> cases resVal ts h s <;> rfl
theorem resAll_v3 {ts : TS} {h : AHeap} {r s t : Nat × Option (Option Nat)} : resAll [r, s, t] ts h = tup3 (resVal ts h r) (resVal ts h s) (resVal ts h t) := by
  simp only [resAll, resVals]
  cases resVal ts h r <;> cases resVal ts h s <;> cases resVal ts h t <;> rfl
theorem resVal_n {ts : TS} {h : AHeap} {a : Nat} : resVal ts h (a, none) = some (slot ts a) := rfl
theorem resAll_L : ∀ {ts : TS} {h : AHeap} {x : Nat} {nx : Option Nat}, resAll [(x, some nx)] ts h = lv (loadF nx (slot ts x) (fun b => h[b]?)) := by
  intros; rw [resAll_v1]; simp only [resVal_l, resVal_n]
theorem resAll_NL : ∀ {ts : TS} {h : AHeap} {x y : Nat} {ny : Option Nat}, resAll [(x, none), (y, some ny)] ts h = tup2 (some (slot ts x)) (lv (loadF ny (slot ts y) (fun b => h[b]?))) := by
  intros; rw [resAll_v2]; simp only [resVal_l, resVal_n]
theorem resAll_LN : ∀ {ts : TS} {h : AHeap} {x y : Nat} {nx : Option Nat}, resAll [(x, some nx), (y, none)] ts h = tup2 (lv (loadF nx (slot ts x) (fun b => h[b]?))) (some (slot ts y)) := by
  intros; rw [resAll_v2]; simp only [resVal_l, resVal_n]
theorem resAll_LL : ∀ {ts : TS} {h : AHeap} {x y : Nat} {nx ny : Option Nat}, resAll [(x, some nx), (y, some ny)] ts h = tup2 (lv (loadF nx (slot ts x) (fun b => h[b]?))) (lv (loadF ny (slot ts y) (fun b => h[b]?))) := by
  intros; rw [resAll_v2]; simp only [resVal_l, resVal_n]
theorem resAll_NNL : ∀ {ts : TS} {h : AHeap} {x y z : Nat} {nz : Option Nat}, resAll [(x, none), (y, none), (z, some nz)] ts h = tup3 (some (slot ts x)) (some (slot ts y)) (lv (loadF nz (slot ts z) (fun b => h[b]?))) := by
  intros; rw [resAll_v3]; simp only [resVal_l, resVal_n]
theorem resAll_NLN : ∀ {ts : TS} {h : AHeap} {x y z : Nat} {ny : Option Nat}, resAll [(x, none), (y, some ny), (z, none)] ts h = tup3 (some (slot ts x)) (lv (loadF ny (slot ts y) (fun b => h[b]?))) (some (slot ts z)) := by
  intros; rw [resAll_v3]; simp only [resVal_l, resVal_n]
theorem resAll_NLL : ∀ {ts : TS} {h : AHeap} {x y z : Nat} {ny nz : Option Nat}, resAll [(x, none), (y, some ny), (z, some nz)] ts h = tup3 (some (slot ts x)) (lv (loadF ny (slot ts y) (fun b => h[b]?))) (lv (loadF nz (slot ts z) (fun b => h[b]?))) := by
  intros; rw [resAll_v3]; simp only [resVal_l, resVal_n]
theorem resAll_LNN : ∀ {ts : TS} {h : AHeap} {x y z : Nat} {nx : Option Nat}, resAll [(x, some nx), (y, none), (z, none)] ts h = tup3 (lv (loadF nx (slot ts x) (fun b => h[b]?))) (some (slot ts y)) (some (slot ts z)) := by
  intros; rw [resAll_v3]; simp only [resVal_l, resVal_n]
theorem resAll_LNL : ∀ {ts : TS} {h : AHeap} {x y z : Nat} {nx nz : Option Nat}, resAll [(x, some nx), (y, none), (z, some nz)] ts h = tup3 (lv (loadF nx (slot ts x) (fun b => h[b]?))) (some (slot ts y)) (lv (loadF nz (slot ts z) (fun b => h[b]?))) := by
  intros; rw [resAll_v3]; simp only [resVal_l, resVal_n]
theorem resAll_LLN : ∀ {ts : TS} {h : AHeap} {x y z : Nat} {nx ny : Option Nat}, resAll [(x, some nx), (y, some ny), (z, none)] ts h = tup3 (lv (loadF nx (slot ts x) (fun b => h[b]?))) (lv (loadF ny (slot ts y) (fun b => h[b]?))) (some (slot ts z)) := by
  intros; rw [resAll_v3]; simp only [resVal_l, resVal_n]
theorem resAll_LLL : ∀ {ts : TS} {h : AHeap} {x y z : Nat} {nx ny nz : Option Nat}, resAll [(x, some nx), (y, some ny), (z, some nz)] ts h = tup3 (lv (loadF nx (slot ts x) (fun b => h[b]?))) (lv (loadF ny (slot ts y) (fun b => h[b]?))) (lv (loadF nz (slot ts z) (fun b => h[b]?))) := by
  intros; rw [resAll_v3]; simp only [resVal_l, resVal_n]
theorem eqvF_f {b : Bool} : eqvF false (some b) = some (.bool b) := rfl
theorem eqvF_t {b : Bool} : eqvF true (some b) = some (.bool !b) := rfl
def andO (b : Bool) (o : Option Bool) : Option Bool :=
  match b with
  | true => o
  | false => some false
theorem andO_s {b c : Bool} : andO b (some c) = some (b && c) := by cases b <;> rfl
theorem eqc_i {k : IntKind} {a b : Int} {ks : List CK} {xs ys : List AV} : eqCells (.i :: ks) (.int k a :: xs) (.int k b :: ys) = andO (decide (a = b)) (eqCells ks xs ys) := by
  by_cases hab : a = b
  · simp [eqCells, eqCell, hab, andO]
  · have : (a == b) = false := by simp [hab]
    simp [eqCells, eqCell, hab, andO, this]
theorem eqc_s {a b : List UInt8} {ks : List CK} {xs ys : List AV} : eqCells (.s :: ks) (.str a :: xs) (.str b :: ys) = andO (decide (a = b)) (eqCells ks xs ys) := by
  by_cases hab : a = b
  · simp [eqCells, eqCell, hab, andO]
  · have : (a == b) = false := by simp [hab]
    simp [eqCells, eqCell, hab, andO, this]
theorem eqc_b {a b : Bool} {ks : List CK} {xs ys : List AV} : eqCells (.b :: ks) (.bool a :: xs) (.bool b :: ys) = andO (a == b) (eqCells ks xs ys) := by
  cases a <;> cases b <;> rfl
theorem eqc_n : eqCells [] [] [] = some true := rfl
theorem eqA {ks : List CK} {xs ys : List AV} (h1 : xs.length = ks.length) (h2 : ys.length = ks.length) : eqvK (.agg ks) (.agg xs) (.agg ys) = eqCells ks xs ys := by
  simp only [eqvK, eqAgg]; rw [if_pos ⟨h1, h2⟩]
theorem eq_1b {a b : Bool} : eqvK (.one .b) (.bool a) (.bool b) = some (a == b) := rfl
theorem ck_lenc {a : CK} {l : List CK} : (a :: l).length = l.length + 1 := rfl
theorem ck_len0 : ([] : List CK).length = 0 := rfl
theorem Fr.lt {N : Nat} {h : AHeap} {s : AV} {es : Nat} {cs : List (List AV)} (hs : Fr N h s es cs) {b o n e : Nat} (hb : s = .slice b o n e) : N ≤ b ∧ b < h.length := by
  cases hs with
  | nil => cases hb
  | mk hN h1 he => cases hb; exact ⟨hN, (List.getElem?_eq_some_iff.1 h1).1⟩
theorem IsSl.lt {h : AHeap} {s : AV} {es : Nat} {cs : List (List AV)} (hs : IsSl h s es cs) {b o n e : Nat} (hb : s = .slice b o n e) : b < h.length := by
  cases hs with
  | nil => cases hb
  | mk h1 hf ho he => cases hb; exact (List.getElem?_eq_some_iff.1 h1).1
theorem Fr.swap {A B g : AHeap} {s : AV} {es : Nat} {cs : List (List AV)} (hs : Fr A.length (A ++ g) s es cs) (hl : B.length = A.length) : Fr A.length (B ++ g) s es cs := by
  cases hs with
  | nil => exact .nil
  | @mk _ _ _ tl hN h1 he' =>
    refine .mk (tl := tl) hN ?_ he'
    rw [List.getElem?_append_right (by omega)] at h1 ⊢
    rw [hl]; exact h1
theorem WR.app1 {P : Program} {ro : Option Nat → Prop} {ks : List Kt} {ts : TS} {Q : Ex → TS → AHeap → Prop} {h : AHeap} {s y : AV} {es : Nat} {cs ys : List (List AV)} {h0 : AHeap} {w : Nat} {d : Option Nat} {l : List IOp}
    (hs : Fr h0.length h s es cs) (hy : IsSl h y es ys) (hes : 0 < es) (hne : 0 < ys.length) (hsz : (cs.length + ys.length) * w ≤ 2 ^ 46) (he : Ext h0 h)
    (K : ∀ g, (h0 ++ g).length = h.length + 1 → Fr h0.length (h0 ++ g) (.slice h.length 0 (cs ++ ys).length es) es (cs ++ ys) → (∀ b, b < h.length → (∀ b0 o n e, s = .slice b0 o n e → b ≠ b0) → (h0 ++ g)[b]? = h[b]?) → WP P ro l ks (put ts d (.slice h.length 0 (cs ++ ys).length es)) (h0 ++ g) Q) :
    WR P ro (appT es w s y (fun b => h[b]?) h.length) false d l ks ts h Q := by
  have hrows : ∀ x ∈ cs ++ ys, x.length = es := fun x hx => by
    rcases List.mem_append.1 hx with hx | hx
    · exact hs.isSl.rows x hx
    · exact hy.rows x hx
  have hk : ¬ ys.length = 0 := by omega
  simp only [appT, hy.cellsG]
  cases hs with
  | nil =>
    simp only [List.length_nil, Nat.zero_add] at hsz
    simp only [if_neg hk, if_pos hsz]
    rw [WR_push]
    have hx := Fr.push (N := h0.length) he.len ys hy.rows
    obtain ⟨g, rfl⟩ := he
    have hK := K (g ++ [.cells ys.flatten true true]) (by simp; omega)
    simp only [← List.append_assoc, List.nil_append] at hK
    exact hK hx fun b hb _ => List.getElem?_append_left hb
  | @mk b _ _ tl hN hb hre =>
    have hcl := flatten_len hre
    cases tl with
    | false =>
      simp only [if_true, if_neg hk, if_pos hsz, hb, Nat.zero_add]
      rw [if_pos (by omega), WR_push, List.drop_zero]
      have hx := Fr.push (h := h) (N := h0.length) (es := es) he.len (cs ++ ys) hrows
      simp only [List.length_append, List.flatten_append] at hx ⊢
      obtain ⟨g, rfl⟩ := he
      have hK := K (g ++ [.cells (cs.flatten ++ ys.flatten) true true]) (by simp; omega)
      simp only [← List.append_assoc, List.length_append, List.flatten_append] at hK hx ⊢
      exact hK hx fun b hb _ => List.getElem?_append_left (by simpa using hb)
    | true =>
    simp only [if_true, if_neg hk, if_pos hsz, hb, Nat.zero_add]
    rw [if_pos (by omega), WR_setPush]
    have hbl : b < h.length := (List.getElem?_eq_some_iff.1 hb).1
    have hx := Fr.push (h := h.set b .dead) (N := h0.length) (es := es) (by simpa using he.len) (cs ++ ys) hrows
    have hc : List.take (cs.length * es) (List.drop 0 cs.flatten) = cs.flatten := by rw [List.drop_zero, ← hcl, List.take_length]
    rw [hc]
    obtain ⟨g, rfl⟩ := he
    have hset : (h0 ++ g).set b .dead ++ [ABlk.cells (cs.flatten ++ ys.flatten) true true] = h0 ++ (g.set (b - h0.length) .dead ++ [ABlk.cells (cs.flatten ++ ys.flatten) true true]) := by
      rw [List.set_append_right _ _ hN, List.append_assoc]
    have hK := K (g.set (b - h0.length) .dead ++ [.cells (cs.flatten ++ ys.flatten) true true]) (by simp; omega)
    rw [← hset] at hK
    simp only [List.length_set, List.flatten_append, List.length_append] at hx hK ⊢
    refine hK hx ?_
    intro i hi hne
    have := hne b 0 _ _ rfl
    rw [List.getElem?_append_left (by simpa using hi), List.getElem?_set_ne (Ne.symm this)]
theorem one_i {k : IntKind} {n : Int} : AV.one (.int k n) = true := rfl
theorem one_b {b : Bool} : AV.one (.bool b) = true := rfl
theorem one_s {b : List UInt8} : AV.one (.str b) = true := rfl
theorem one_p {b o : Nat} : AV.one (.ptr b o) = true := rfl
theorem one_l {b o n e : Nat} : AV.one (.slice b o n e) = true := rfl
theorem one_n : AV.one .nilSlice = true := rfl
theorem one_f {f : Fn} {a c : List AV} : AV.one (.func f a c) = true := rfl
theorem all_c {a : AV} {l : List AV} : (a :: l).all AV.one = (a.one && l.all AV.one) := rfl
theorem all_n : ([] : List AV).all AV.one = true := rfl
def IOp.o (n : Nat) (k : OpK) : IOp := ⟨some n, k, none, false⟩
def IOp.x (k : OpK) : IOp := ⟨none, k, none, false⟩
def Opd.z : Opd := .c (.int .i64 0)
def Opd.w : Opd := .c (.int .i64 1)
theorem dset :
    (∀ {n : Nat} {k : OpK}, IOp.o n k = ⟨some n, k, none, false⟩) ∧ (∀ {k : OpK}, IOp.x k = ⟨none, k, none, false⟩) ∧ (Opd.z = .c (.int .i64 0)) ∧ (Opd.w = .c (.int .i64 1)) ∧
    (∀ (n : Nat), 0 + n = n) ∧
    (∀ {x : AV}, ldV (some x) = some (x, .keep)) ∧
    (∀ {o : Nat} {c : List AV} {mu tl : Bool}, ldB none o (.cells c mu tl) = ldV c[o]?) ∧
    (∀ {v : AV} {e : Eff}, lv (some (v, e)) = some v) ∧
    (∀ {a b : AV}, tup2 (some a) (some b) = some (.tup [a, b])) ∧
    (∀ {a b c : AV}, tup3 (some a) (some b) (some c) = some (.tup [a, b, c])) ∧
    (∀ {ts : TS} {h : AHeap} {x : Nat} {nx : Option Nat}, resAll [(x, some nx)] ts h = lv (loadF nx (slot ts x) (fun b => h[b]?))) ∧
    (∀ {ts : TS} {h : AHeap} {x y : Nat} {ny : Option Nat}, resAll [(x, none), (y, some ny)] ts h = tup2 (some (slot ts x)) (lv (loadF ny (slot ts y) (fun b => h[b]?)))) ∧
    (∀ {ts : TS} {h : AHeap} {x y : Nat} {nx : Option Nat}, resAll [(x, some nx), (y, none)] ts h = tup2 (lv (loadF nx (slot ts x) (fun b => h[b]?))) (some (slot ts y))) ∧
    (∀ {ts : TS} {h : AHeap} {x y : Nat} {nx ny : Option Nat}, resAll [(x, some nx), (y, some ny)] ts h = tup2 (lv (loadF nx (slot ts x) (fun b => h[b]?))) (lv (loadF ny (slot ts y) (fun b => h[b]?)))) ∧
    (∀ {ts : TS} {h : AHeap} {x y z : Nat} {nz : Option Nat}, resAll [(x, none), (y, none), (z, some nz)] ts h = tup3 (some (slot ts x)) (some (slot ts y)) (lv (loadF nz (slot ts z) (fun b => h[b]?)))) ∧
    (∀ {ts : TS} {h : AHeap} {x y z : Nat} {ny : Option Nat}, resAll [(x, none), (y, some ny), (z, none)] ts h = tup3 (some (slot ts x)) (lv (loadF ny (slot ts y) (fun b => h[b]?))) (some (slot ts z))) ∧
    (∀ {ts : TS} {h : AHeap} {x y z : Nat} {ny nz : Option Nat}, resAll [(x, none), (y, some ny), (z, some nz)] ts h = tup3 (some (slot ts x)) (lv (loadF ny (slot ts y) (fun b => h[b]?))) (lv (loadF nz (slot ts z) (fun b => h[b]?)))) ∧
    (∀ {ts : TS} {h : AHeap} {x y z : Nat} {nx : Option Nat}, resAll [(x, some nx), (y, none), (z, none)] ts h = tup3 (lv (loadF nx (slot ts x) (fun b => h[b]?))) (some (slot ts y)) (some (slot ts z))) ∧
    (∀ {ts : TS} {h : AHeap} {x y z : Nat} {nx nz : Option Nat}, resAll [(x, some nx), (y, none), (z, some nz)] ts h = tup3 (lv (loadF nx (slot ts x) (fun b => h[b]?))) (some (slot ts y)) (lv (loadF nz (slot ts z) (fun b => h[b]?)))) ∧
    (∀ {ts : TS} {h : AHeap} {x y z : Nat} {nx ny : Option Nat}, resAll [(x, some nx), (y, some ny), (z, none)] ts h = tup3 (lv (loadF nx (slot ts x) (fun b => h[b]?))) (lv (loadF ny (slot ts y) (fun b => h[b]?))) (some (slot ts z))) ∧
    (∀ {ts : TS} {h : AHeap} {x y z : Nat} {nx ny nz : Option Nat}, resAll [(x, some nx), (y, some ny), (z, some nz)] ts h = tup3 (lv (loadF nx (slot ts x) (fun b => h[b]?))) (lv (loadF ny (slot ts y) (fun b => h[b]?))) (lv (loadF nz (slot ts z) (fun b => h[b]?)))) ∧
    (∀ {b : Bool}, eqvF false (some b) = some (.bool b)) ∧
    (∀ {b : Bool}, eqvF true (some b) = some (.bool !b)) ∧
    (∀ {b c : Bool}, andO b (some c) = some (b && c)) ∧
    (∀ {k : IntKind} {a b : Int} {ks : List CK} {xs ys : List AV}, eqCells (.i :: ks) (.int k a :: xs) (.int k b :: ys) = andO (decide (a = b)) (eqCells ks xs ys)) ∧
    (∀ {a b : List UInt8} {ks : List CK} {xs ys : List AV}, eqCells (.s :: ks) (.str a :: xs) (.str b :: ys) = andO (decide (a = b)) (eqCells ks xs ys)) ∧
    (∀ {a b : Bool} {ks : List CK} {xs ys : List AV}, eqCells (.b :: ks) (.bool a :: xs) (.bool b :: ys) = andO (a == b) (eqCells ks xs ys)) ∧
    (eqCells [] [] [] = some true) ∧
    (∀ {ks : List CK} {xs ys : List AV} (_ : xs.length = ks.length) (_ : ys.length = ks.length), eqvK (.agg ks) (.agg xs) (.agg ys) = eqCells ks xs ys) ∧
    (∀ {a b : Bool}, eqvK (.one .b) (.bool a) (.bool b) = some (a == b)) ∧
    (∀ {a : CK} {l : List CK}, (a :: l).length = l.length + 1) ∧
    (([] : List CK).length = 0) ∧
    (∀ {s : AV} {es i off : Nat}, fadrF off (elp s es i) = some (elf s es i off)) ∧
    (∀ {k : IntKind} {n : Int}, AV.one (.int k n) = true) ∧ (∀ {b : Bool}, AV.one (.bool b) = true) ∧ (∀ {b : List UInt8}, AV.one (.str b) = true) ∧ (∀ {b o : Nat}, AV.one (.ptr b o) = true) ∧
    (∀ {b o n e : Nat}, AV.one (.slice b o n e) = true) ∧ (AV.one .nilSlice = true) ∧ (∀ {f : Fn} {a c : List AV}, AV.one (.func f a c) = true) ∧
    (∀ {a : AV} {l : List AV}, (a :: l).all AV.one = (a.one && l.all AV.one)) ∧ (([] : List AV).all AV.one = true) ∧ (∀ (b : Bool), (true && b) = b) ∧
    (∀ {l : List AV} {N : Nat} (_ : l.all AV.one = true), boxF (.agg l) N = some (.ptr N 0, .push (.cells l true false))) :=
  ⟨rfl, rfl, rfl, rfl, Nat.zero_add, @ldV_s, @ldB_v, @lv_s, @tup2_s, @tup3_s, @resAll_L, @resAll_NL, @resAll_LN, @resAll_LL, @resAll_NNL, @resAll_NLN, @resAll_NLL, @resAll_LNN, @resAll_LNL, @resAll_LLN, @resAll_LLL, @eqvF_f, @eqvF_t, @andO_s, @eqc_i, @eqc_s, @eqc_b, @eqc_n, @eqA, @eq_1b, @ck_lenc, @ck_len0, @fadr_el, @one_i, @one_b, @one_s, @one_p, @one_l, @one_n, @one_f, @all_c, @all_n, Bool.true_and, @box_agg⟩
def inS (o : Option AV) (X : Prop) : Prop :=
  match o with
  | some _ => X
  | none => False
theorem bset :
    (∀ {P : Program} {ro : Option Nat → Prop} {ks : List Kt} {ts : TS} {h : AHeap} {Q : Ex → TS → AHeap → Prop} {q : Bool} {l : List IOp} {n i : Nat} {x : Opd}, WP P ro ({ dst := some i, k := .boxn n x, gd := none, q := q } :: l) ks ts h Q = inS ts[i]? (WR P ro (boxnF n (val ts x) h.length) q (some i) l ks ts h Q)) ∧
    (∀ {a : AV} {X : Prop}, inS (some a) X = X) ∧
    (∀ {k : IntKind} {z : Int} {N : Nat}, boxnF 1 (.int k z) N = some (.ptr N 0, .push (.cells [.int k z] true false))) ∧
    (∀ {b : Bool} {N : Nat}, boxnF 1 (.bool b) N = some (.ptr N 0, .push (.cells [.bool b] true false))) ∧
    (∀ {b : List UInt8} {N : Nat}, boxnF 1 (.str b) N = some (.ptr N 0, .push (.cells [.str b] true false))) ∧
    (∀ {N : Nat}, boxF .nilSlice N = some (.ptr N 0, .push (.cells [.nilSlice] true false))) ∧
    (∀ {v : AV} {N : Nat} (_ : v.one = true), boxF v N = some (.ptr N 0, .push (.cells [v] true false))) ∧
    (∀ {v : AV} {N : Nat} (_ : v.one = true), boxnF 1 v N = some (.ptr N 0, .push (.cells [v] true false))) ∧
    (∀ {l : List AV} {n N : Nat} (_ : l.all AV.one = true) (_ : l.length = n), boxnF n (.agg l) N = some (.ptr N 0, .push (.cells l true false))) := by
  refine ⟨?_, rfl, rfl, rfl, rfl, rfl, ?_, ?_, ?_⟩
  · intro P ro ks ts h Q q l n i x
    rw [WP_boxn]
    by_cases hi : i < ts.length
    · rw [List.getElem?_eq_getElem hi]
      simp [inS, hi]
    · rw [List.getElem?_eq_none (by omega)]
      simp [inS, hi]
  · intro v N h
    simp only [boxF, AV.cells_one h]
    rw [if_pos (by simp [h])]
  · intro v N h
    simp only [boxnF, AV.cells_one h]
    rw [if_pos ⟨by simp [h], rfl⟩]
  · intro l n N h1 h2
    unfold boxnF
    exact if_pos ⟨h1, h2⟩
end Go.Abs
namespace Go.Abs
theorem kset :
    (∀ {b o : Nat} {n : Option Nat} {X : AHeap} {K : ABlk} (_ : b = X.length), loadF n (.ptr b o) (fun z => (X ++ [K])[z]?) = ldB n o K) ∧
    (∀ {b o : Nat} {n : Option Nat} {X a : AHeap} (_ : b < X.length), loadF n (.ptr b o) (fun z => (X ++ a)[z]?) = loadF n (.ptr b o) (fun z => X[z]?)) ∧
    (∀ {b o y : Nat} {v : AV} {X : AHeap} {K : ABlk} (_ : b = X.length), storeF y (.ptr b o) v (fun z => (X ++ [K])[z]?) = stB y o v b K) ∧
    (∀ {b o y : Nat} {v : AV} {X a : AHeap} (_ : b < X.length), storeF y (.ptr b o) v (fun z => (X ++ a)[z]?) = storeF y (.ptr b o) v (fun z => X[z]?)) ∧
    (∀ {b : Nat} {X : AHeap} {K K' : ABlk} (_ : b = X.length), (X ++ [K]).set b K' = X ++ [K']) ∧
    (∀ {b : Nat} {X a : AHeap} {K' : ABlk} (_ : b < X.length), (X ++ a).set b K' = X.set b K' ++ a) ∧
    (∀ {b pos : Nat} {s : List UInt8} {X : AHeap} (_ : b = X.length), nextF (.ptr b 0) (fun z => (X ++ [.iter s pos])[z]?) = nextB b s pos) ∧
    (∀ {b : Nat} {X a : AHeap} (_ : b < X.length), nextF (.ptr b 0) (fun z => (X ++ a)[z]?) = nextF (.ptr b 0) (fun z => X[z]?)) := by
  refine ⟨fun h => ?_, fun h => ?_, fun h => ?_, fun h => ?_, fun h => ?_, fun h => ?_, fun h => ?_, fun h => ?_⟩
  · subst h; exact loadF_at at_new
  · simp only [loadF, at_app _ h]
  · subst h; exact storeF_at at_new
  · simp only [storeF, at_app _ h]
  · subst h; exact set_new
  · exact set_app _ _ h
  · subst h; exact nextF_at at_new
  · simp only [nextF, at_app _ h]
theorem WF.res2 {P : Program} {ro : Option Nat → Prop} {ks : List Kt} {ts : TS} {Q : Ex → TS → AHeap → Prop} {Y g0 : AHeap} {q : Bool} {f : FuncId} {A : AFunc} (hA : compileFn P f = some A) {a c args : List AV} {d : Option Nat} {l : List IOp} {R : AV → AHeap → Prop} (H : RCall P f (a ++ args ++ c) (Y ++ g0) R) (K : ∀ v g, R v (Y ++ g) → WP P ro l ks (put ts d v) (Y ++ g) Q) : WF P ro q (.func (.func f) a c) args d l ks ts (Y ++ g0) Q :=
  WF.res hA H fun v g hr => by
    rw [List.append_assoc] at hr ⊢
    exact K v (g0 ++ g) hr
end Go.Abs
namespace Go.Abs
open Go.ChangeShapes Go.WideShapes Go.Deep
inductive CT where
  | int (k : IntKind)
  | bool
  | str
  | sl (row : List CT)
def ctFields (P : Program) (f : TypeId → Option (List CT)) : List Field → Nat → Option (List CT)
  | [], _ => some []
  | x :: r, o =>
    match f x.type with
    | some a =>
      if x.offset = o ∧ a.length = P.cellsOf x.type then
        match ctFields P f r (o + a.length) with
        | some b => some (a ++ b)
        | none => none
      else none
    | none => none
def ctOf (P : Program) : Nat → TypeId → Option (List CT)
  | 0, _ => none
  | n + 1, t =>
    match P.underlying t with
    | some (.int k) => some [.int k]
    | some .bool => some [.bool]
    | some .string => some [.str]
    | some (.slice e) =>
      match ctOf P n e with
      | some r => if r.length = P.cellsOf e ∧ 0 < r.length then some [.sl r] else none
      | none => none
    | some (.struct fs) =>
      match ctFields P (ctOf P n) fs.toList 0 with
      | some r => if r.length = P.cellsOf t then some r else none
      | none => none
    | _ => none
mutual
def TY (h : AHeap) : CT → AV → Prop
  | .int k, a => ∃ z, a = .int k z ∧ (Lit.int k z).wf = true
  | .bool, a => ∃ b, a = .bool b
  | .str, a => ∃ s : List UInt8, a = .str s ∧ s.length ≤ maxLen
  | .sl r, a => ∃ cs : List (List AV), IsSl h a r.length cs ∧ cs.length ≤ maxLen ∧ ∀ c ∈ cs, TYs h r c
def TYs (h : AHeap) : List CT → List AV → Prop
  | [], l => l = []
  | t :: ts, l => ∃ a l', l = a :: l' ∧ TY h t a ∧ TYs h ts l'
end
mutual
theorem TY.ext {h k : AHeap} (e : Ext h k) : ∀ {t : CT} {a : AV}, TY h t a → TY k t a
  | .int _, a, x => x
  | .bool, a, x => x
  | .str, a, x => x
  | .sl r, a, x => by
    rw [TY] at x ⊢
    obtain ⟨cs, h1, h2, h3⟩ := x
    exact ⟨cs, h1.ext e, h2, fun c hc => TYs.ext e (h3 c hc)⟩
theorem TYs.ext {h k : AHeap} (e : Ext h k) : ∀ {ts : List CT} {l : List AV}, TYs h ts l → TYs k ts l
  | [], l, x => x
  | t :: ts, l, x => by
    rw [TYs] at x ⊢
    obtain ⟨a, l', h1, h2, h3⟩ := x
    exact ⟨a, l', h1, TY.ext e h2, TYs.ext e h3⟩
end
theorem TY.one {h : AHeap} : ∀ {t : CT} {a : AV}, TY h t a → a.one = true
  | .int _, a, x => by rw [TY] at x; obtain ⟨z, rfl, _⟩ := x; rfl
  | .bool, a, x => by rw [TY] at x; obtain ⟨z, rfl⟩ := x; rfl
  | .str, a, x => by rw [TY] at x; obtain ⟨z, rfl, _⟩ := x; rfl
  | .sl r, a, x => by rw [TY] at x; obtain ⟨z, h1, _⟩ := x; exact h1.one
theorem TYs.one {h : AHeap} : ∀ {ts : List CT} {l : List AV}, TYs h ts l → l.all AV.one = true
  | [], l, x => by rw [TYs] at x; subst x; rfl
  | t :: ts, l, x => by
    rw [TYs] at x
    obtain ⟨a, l', rfl, h1, h2⟩ := x
    rw [List.all_cons, h1.one, TYs.one h2]; rfl
theorem TYs.length {h : AHeap} : ∀ {ts : List CT} {l : List AV}, TYs h ts l → l.length = ts.length
  | [], l, x => by rw [TYs] at x; subst x; rfl
  | t :: ts, l, x => by
    rw [TYs] at x
    obtain ⟨a, l', rfl, h1, h2⟩ := x
    rw [List.length_cons, List.length_cons, TYs.length h2]
theorem TYs.append {h : AHeap} : ∀ {ts us : List CT} {l m : List AV}, TYs h ts l → TYs h us m → TYs h (ts ++ us) (l ++ m)
  | [], us, l, m, x, y => by rw [TYs] at x; subst x; exact y
  | t :: ts, us, l, m, x, y => by
    rw [TYs] at x
    obtain ⟨a, l', rfl, h1, h2⟩ := x
    show TYs h (t :: (ts ++ us)) (a :: (l' ++ m))
    rw [TYs]
    exact ⟨a, _, rfl, h1, TYs.append h2 y⟩
def embOf (E : List Ent) : Emb := fun b => E[b]?
theorem embOf_le (E F : List Ent) : (embOf E).le (embOf (E ++ F)) := fun b e hb => by
  unfold embOf at hb ⊢
  rw [List.getElem?_append_left (List.getElem?_eq_some_iff.1 hb).1]; exact hb
structure AW (P : Program) (w : World) (E : List Ent) (B : AHeap) : Prop where
  len : E.length = B.length
  own : ∀ (b : Nat) e, E[b]? = some e → e.own = false ∧ e.cb < w.heap.size
  blk : ∀ (b : Nat) e k, E[b]? = some e → B[b]? = some k → BR P (embOf E) w e k ∧ (k = .dead ∨ ∃ c, k = .cells c false false)
  glob : ∀ g, g < P.globals.size → ∃ e, E[g]? = some e ∧ e.cb = g ∧ e.d = 0 ∧ e.own = false ∧ e.sz = gsz P g
variable {P : Program} {w : World} {E : List Ent} {B : AHeap}
theorem AW.hr (a : AW P w E B) : HR P (embOf E) B w where
  dom := fun b e hb => by rw [← a.len]; exact (List.getElem?_eq_some_iff.1 hb).1
  blk := fun b e k hb hk => (a.blk b e k hb hk).1
  sep := fun b1 b2 e1 e2 k1 k2 _ h1 h2 hk1 hk2 _ => by
    rcases (a.blk b1 e1 k1 h1 hk1).2 with rfl | ⟨c1, rfl⟩
    · cases k2 <;> trivial
    · rcases (a.blk b2 e2 k2 h2 hk2).2 with rfl | ⟨c2, rfl⟩
      · trivial
      · exact ⟨rfl, rfl, fun x => by cases x⟩
  glob := a.glob
  lt := fun b e hb => (a.own b e hb).2
theorem AW.push (a : AW P w E B) {e : Ent} {k : ABlk} (ho : e.own = false) (hlt : e.cb < w.heap.size) (hb : BR P (embOf E) w e k) (hk : k = .dead ∨ ∃ c, k = .cells c false false) : AW P w (E ++ [e]) (B ++ [k]) where
  len := by simp [a.len]
  own := fun b e' h => by
    by_cases hlb : b < E.length
    · rw [List.getElem?_append_left hlb] at h; exact a.own b e' h
    · have := (List.getElem?_eq_some_iff.1 h).1
      simp at this
      have : b = E.length := by omega
      subst this
      simp at h
      subst h
      exact ⟨ho, hlt⟩
  blk := fun b e' k' h h' => by
    by_cases hlb : b < E.length
    · rw [List.getElem?_append_left hlb] at h
      rw [List.getElem?_append_left (by rw [← a.len]; exact hlb)] at h'
      exact ⟨(a.blk b e' k' h h').1.mono (embOf_le E [e]), (a.blk b e' k' h h').2⟩
    · have := (List.getElem?_eq_some_iff.1 h).1
      simp at this
      have hbe : b = E.length := by omega
      have hbb : b = B.length := by rw [hbe, a.len]
      rw [hbe] at h
      rw [hbb] at h'
      simp at h h'
      subst h; subst h'
      exact ⟨hb.mono (embOf_le E [e]), hk⟩
  glob := fun g hg => by
    obtain ⟨e', h1, h2⟩ := a.glob g hg
    exact ⟨e', embOf_le E [e] g e' h1, h2⟩
def Laid (P : Program) (w : World) (E : List Ent) (B : AHeap) (row : List CT) (cs : List Value) : Prop :=
  ∃ F C as, AW P w (E ++ F) (B ++ C) ∧ VRs (embOf (E ++ F)) as cs ∧ TYs (B ++ C) row as
theorem Laid.app {row row2 : List CT} {cs cs2 : List Value} (h1 : Laid P w E B row cs) (h2 : ∀ F C, AW P w (E ++ F) (B ++ C) → Laid P w (E ++ F) (B ++ C) row2 cs2) : Laid P w E B (row ++ row2) (cs ++ cs2) := by
  obtain ⟨F, C, as, a1, a2, a3⟩ := h1
  obtain ⟨F', C', as', b1, b2, b3⟩ := h2 F C a1
  refine ⟨F ++ F', C ++ C', as ++ as', by rw [← List.append_assoc, ← List.append_assoc]; exact b1, ?_, ?_⟩
  · rw [← List.append_assoc]
    exact (VRs.mono (embOf_le _ _) _ _ a2).append b2
  · rw [← List.append_assoc]
    exact TYs.append (a3.ext ⟨C', rfl⟩) b3
theorem laid_nil (a : AW P w E B) : Laid P w E B [] [] := ⟨[], [], [], by simpa using a, by rw [VRs_nil], rfl⟩
theorem laid_one (a : AW P w E B) {t : CT} {x : AV} {v : Value} (hv : VR (embOf E) x v) (ht : TY B t x) : Laid P w E B [t] [v] :=
  ⟨[], [], [x], by simpa using a, by simpa using VRs_cons.2 ⟨v, [], rfl, hv, by rw [VRs_nil]⟩, by
    rw [List.append_nil, TYs]; exact ⟨x, [], rfl, ht, rfl⟩⟩
section
variable {H : Type} {enc : TypeId × Value → H} {base : Nat} {held : Bool}
theorem laid_rows {es : Nat} {r : List CT} {a : Addr} {m : Nat} (row : ∀ i, i < m → ∃ cs, w.cells? base (a.add (i * es)) es = some cs ∧ ∀ E B, AW P w E B → Laid P w E B r cs) : ∀ (k : Nat) {E : List Ent} {B : AHeap}, k ≤ m → AW P w E B →
    ∃ (F : List Ent) (C : AHeap) (rows : List (List AV)) (VL : List Value), AW P w (E ++ F) (B ++ C) ∧ rows.length = k ∧ VRs (embOf (E ++ F)) rows.flatten VL ∧ (∀ c ∈ rows, TYs (B ++ C) r c) ∧ VL.length = k * es ∧ ∀ i, i < k * es → w.cell? (a.add i) = VL[i]?
  | 0, E, B, _, aw => ⟨[], [], [], [], by rw [List.append_nil, List.append_nil]; exact aw, rfl, rfl, fun c hc => by (cases hc), by rw [Nat.zero_mul]; rfl, fun i hi => by rw [Nat.zero_mul] at hi; exact absurd hi (Nat.not_lt_zero _)⟩
  | k + 1, E, B, hkm, aw => by
    obtain ⟨F, C, rows, VL, h1, h2, h3, h4, h5, h6⟩ := laid_rows row k (by omega) aw
    obtain ⟨cs, hcs, hl⟩ := row k (by omega)
    obtain ⟨F', C', as, a1, a2, a3⟩ := hl _ _ h1
    obtain ⟨_, hlen, hcell⟩ := World.cells?_some hcs
    refine ⟨F ++ F', C ++ C', rows ++ [as], VL ++ cs, by rw [← List.append_assoc, ← List.append_assoc]; exact a1, by rw [List.length_append, h2]; rfl, ?_, ?_, by rw [List.length_append, h5, hlen, Nat.succ_mul], ?_⟩
    · rw [← List.append_assoc, List.flatten_append]
      refine (VRs.mono (embOf_le _ _) _ _ h3).append ?_
      have : [as].flatten = as := by simp
      rw [this]
      exact a2
    · intro c hcm
      rw [← List.append_assoc]
      rcases List.mem_append.1 hcm with hm | hm
      · exact (h4 c hm).ext ⟨C', rfl⟩
      · rw [List.mem_singleton] at hm; subst hm; exact a3
    · intro i hi
      rw [Nat.succ_mul] at hi
      by_cases hlt : i < k * es
      · rw [h6 i hlt, List.getElem?_append_left (by omega)]
      · rw [List.getElem?_append_right (by omega), h5, ← hcell (i - k * es) (by omega), add_add, show k * es + (i - k * es) = i by omega]
theorem laid_fields {f : TypeId → Option (List CT)} {cs : List Value} : ∀ (l : List Field) (o : Nat) {row : List CT}, ctFields P f l o = some row →
    (∀ x ∈ l, ∀ a, f x.type = some a → ∀ E B, AW P w E B → Laid P w E B a ((cs.drop x.offset).take (P.cellsOf x.type))) → ∀ E B, AW P w E B → Laid P w E B row ((cs.drop o).take row.length)
  | [], o, row, h, _, E, B, aw => by
    unfold ctFields at h
    cases h
    rw [List.length_nil, List.take_zero]
    exact laid_nil aw
  | x :: l, o, row, h, hf, E, B, aw => by
    unfold ctFields at h
    split at h
    case h_2 => cases h
    rename_i a ha
    split at h
    case isFalse => cases h
    rename_i hc
    split at h
    case h_2 => cases h
    rename_i b hb
    cases h
    have h1 := hf x (List.mem_cons_self ..) a ha E B aw
    rw [hc.1, ← hc.2] at h1
    rw [List.length_append, List.take_add, List.drop_drop]
    exact h1.app fun F C aw' => laid_fields l _ hb (fun y hy => hf y (List.mem_cons_of_mem _ hy)) _ _ aw'
theorem laid_of_trod (hz : ∃ (z : Nat) (cc : Array Value) (el : TypeId) (fz : Nat × Nat), w.heap[z]? = some (Obj.cells cc el fz)) : ∀ (n : Nat) (t : TypeId) (row : List CT), ctOf P n t = some row → ∀ (fuel : Nat) (cs : List Value) (x : DataW H × List MemPlace),
    DataW.trod enc P w base (fun _ => true) held fuel t cs = some x → ∀ E B, AW P w E B → Laid P w E B row cs
  | 0, t, row, h, _, _, _, _, _, _, _ => by cases h
  | n + 1, t, row, h, fuel, cs, x, ht, E, B, aw => by
    unfold ctOf at h
    split at h
    · rename_i k hu
      cases h
      obtain ⟨z, rfl, _, hwf⟩ := DataW.trod_int hu ht
      exact laid_one aw (x := .int k z) (by rw [VR]) (by rw [TY]; exact ⟨z, rfl, hwf⟩)
    · rename_i hu
      cases h
      obtain ⟨b, rfl, _⟩ := DataW.trod_bool hu ht
      exact laid_one aw (x := .bool b) (by rw [VR]) (by rw [TY]; exact ⟨b, rfl⟩)
    · rename_i hu
      cases h
      obtain ⟨s, rfl, _, hs⟩ := DataW.trod_string hu ht
      refine laid_one aw (x := .str s.data.toList) (by rw [VR]) (by rw [TY]; exact ⟨_, rfl, by simpa using hs⟩)
    · rename_i e hu
      split at h
      case h_2 => cases h
      rename_i r hr
      split at h
      case isFalse => cases h
      rename_i hc
      cases h
      obtain ⟨hrl, hpos⟩ := hc
      rcases open_slice hu ht with ⟨rfl, _⟩ | ⟨a, len, cap, m, n', D, Pl, rfl, hb, hl, hm, hmm, _, hx⟩
      · exact laid_one aw (x := .nilSlice) (by rw [VR]) (by rw [TY]; exact ⟨[], .nil, Nat.zero_le _, fun c hc => by cases hc⟩)
      simp only [if_true] at hmm
      subst hmm
      rw [← hrl] at hx
      by_cases hcap : m = 0
      · have hlen0 : len = 0 := by omega
        subst hlen0
        subst hcap
        obtain ⟨z, cc, el, fz, hz0⟩ := hz
        have h0lt : z < w.heap.size := (Array.getElem?_eq_some_iff.1 hz0).1
        have hbr : BR P (embOf E) w ⟨z, 0, cc.size, false⟩ (.cells [] false false) :=
          ⟨cc, el, fz, hz0, ⟨Nat.zero_le _, Nat.zero_le _, rfl⟩, fun i x hx => by (rw [List.getElem?_nil] at hx; cases hx), ⟨fun x => absurd x Bool.false_ne_true, fun x => by rcases x with x | x <;> exact absurd x Bool.false_ne_true⟩⟩
        have aw2 := aw.push (e := ⟨z, 0, cc.size, false⟩) (k := .cells [] false false) rfl h0lt hbr (.inr ⟨[], rfl⟩)
        refine ⟨[⟨z, 0, cc.size, false⟩], [.cells [] false false], [.slice B.length 0 0 r.length], aw2, ?_, ?_⟩
        · refine VRs_cons.2 ⟨_, [], rfl, ?_, by rw [VRs_nil]⟩
          rw [VR]
          exact ⟨⟨z, 0, cc.size, false⟩, a, 0, by unfold embOf; rw [← aw.len]; simp, rfl, Nat.le_refl _, fun x => absurd x (by omega), by rw [Nat.zero_mul]; exact Nat.zero_le _⟩
        · rw [TYs]
          refine ⟨_, [], rfl, ?_, by rw [TYs]⟩
          rw [TY]
          refine ⟨[], ?_, Nat.zero_le _, fun c hc => by cases hc⟩
          exact IsSl.mk (cs := []) (b := B.length) (o := 0) (c := []) (mu := false) (tl := false) (by simp) (by simp) (by simp) (fun x hx => by cases hx)
      · obtain ⟨cs0, h00, _⟩ := hx 0 (by omega)
        obtain ⟨csl, hll, _⟩ := hx (m - 1) (by omega)
        obtain ⟨_, hlen0, hc0⟩ := World.cells?_some h00
        obtain ⟨_, hlenl, hcl⟩ := World.cells?_some hll
        have hcell0 := hc0 0 hpos
        have hlast := hcl (r.length - 1) (by omega)
        rw [add_add] at hlast
        rw [add_add, Nat.zero_mul, Nat.add_zero] at hcell0
        have ha0 : a.add 0 = a := by unfold Addr.add; simp
        rw [ha0, List.getElem?_eq_getElem (by omega)] at hcell0
        unfold World.cell? at hcell0
        split at hcell0
        case h_2 => cases hcell0
        rename_i cc el fz hblk
        split at hcell0
        · cases hcell0
        rename_i hspot
        have haspot : a = ⟨a.block, a.off, none⟩ := by
          cases a with
          | mk b o s => cases s with
            | none => rfl
            | some s => exact absurd rfl hspot
        have hadd : ∀ i, a.add i = ⟨a.block, a.off + i, none⟩ := fun i => by
          unfold Addr.add
          by_cases hi : i = 0
          · subst hi; rw [if_pos rfl]; exact haspot
          · rw [if_neg hi]
        have hcellcc : ∀ i, w.cell? (a.add i) = cc[a.off + i]? := fun i => by
          rw [hadd]
          unfold World.cell?
          simp only [hblk, Option.isSome_none, Bool.false_eq_true, if_false]
        have hmr : (m - 1) * r.length + (r.length - 1) + 1 = m * r.length := by
          obtain ⟨m', rfl⟩ : ∃ m', m = m' + 1 := ⟨m - 1, by omega⟩
          rw [Nat.succ_mul]; simp only [Nat.add_sub_cancel]; omega
        have hsz : a.off + m * r.length ≤ cc.size := by
          rw [hcellcc, List.getElem?_eq_getElem (by omega)] at hlast
          have := (Array.getElem?_eq_some_iff.1 hlast).1
          omega
        obtain ⟨F, C, rows, VL, h1, h2, h3, h4, h5, h6⟩ := laid_rows (P := P) (w := w) (base := base) (es := r.length) (r := r) (a := a) (m := m)
          (fun i hi => by
            obtain ⟨cs', q1, q2⟩ := hx i hi
            exact ⟨cs', q1, fun E B aw => laid_of_trod hz n e r hr _ _ _ q2 E B aw⟩) len hl aw
        have hfl : rows.flatten.length = len * r.length := by rw [← h5, h3.length]
        have hmul : len * r.length ≤ m * r.length := Nat.mul_le_mul_right _ hl
        have hrows : ∀ c ∈ rows, c.length = r.length := fun c hc => (h4 c hc).length
        have hone : ∀ x ∈ rows.flatten, x.one = true := fun x hx => by
          obtain ⟨c, hc, hxc⟩ := List.mem_flatten.1 hx
          exact List.all_eq_true.1 (h4 c hc).one x hxc
        have hlt : a.block < w.heap.size := (Array.getElem?_eq_some_iff.1 hblk).1
        have hbr : BR P (embOf (E ++ F)) w ⟨a.block, a.off, cc.size, false⟩ (.cells rows.flatten false false) :=
          ⟨cc, el, fz, hblk, ⟨by rw [hfl]; show a.off + _ ≤ _; omega, by rw [hfl]; show a.off + _ ≤ cc.size; omega, rfl⟩, fun i x hx => by
              refine ⟨hone x (List.mem_of_getElem? hx), ?_⟩
              obtain ⟨v, hv, hvr⟩ := h3.get hx
              have hi : i < len * r.length := by rw [← hfl]; exact (List.getElem?_eq_some_iff.1 hx).1
              refine ⟨v, ?_, hvr⟩
              show cc[a.off + i]? = some v
              rw [← hcellcc, h6 i hi, hv], ⟨fun x => absurd x Bool.false_ne_true, fun x => by rcases x with x | x <;> exact absurd x Bool.false_ne_true⟩⟩
        have aw2 := h1.push (e := ⟨a.block, a.off, cc.size, false⟩) (k := .cells rows.flatten false false) rfl hlt hbr (.inr ⟨_, rfl⟩)
        rw [List.append_assoc, List.append_assoc] at aw2
        refine ⟨F ++ [⟨a.block, a.off, cc.size, false⟩], C ++ [.cells rows.flatten false false], [.slice (B ++ C).length 0 len r.length], aw2, ?_, ?_⟩
        · refine VRs_cons.2 ⟨_, [], rfl, ?_, by rw [VRs_nil]⟩
          rw [VR]
          refine ⟨⟨a.block, a.off, cc.size, false⟩, a, m, ?_, rfl, hl, fun _ => ?_, ?_⟩
          · unfold embOf
            rw [← h1.len, ← List.append_assoc, List.getElem?_append_right (Nat.le_refl _), Nat.sub_self]; rfl
          · show a = ⟨a.block, 0 + a.off, none⟩
            rw [Nat.zero_add]; exact haspot
          · show 0 + a.off + m * r.length ≤ cc.size
            omega
        · rw [TYs]
          refine ⟨_, [], rfl, ?_, by rw [TYs]⟩
          rw [TY]
          refine ⟨rows, ?_, by omega, fun c hc => ?_⟩
          · rw [← h2]
            refine IsSl.mk (c := rows.flatten) (mu := false) (tl := false) ?_ ?_ ?_ hrows
            · rw [← List.append_assoc, List.getElem?_append_right (Nat.le_refl _), Nat.sub_self]; rfl
            · rw [List.drop_zero, h2, ← hfl, List.take_length]
            · rw [h2, hfl]; omega
          · rw [← List.append_assoc]
            exact (h4 c hc).ext ⟨_, rfl⟩
    · rename_i fs hu
      split at h
      case h_2 => cases h
      rename_i r hr
      split at h
      case isFalse => cases h
      rename_i hc
      cases h
      obtain ⟨xs, n', rfl, rfl, hlen, hxl, hf⟩ := DataW.trod_struct hu ht
      have := laid_fields (P := P) (w := w) (cs := cs) fs.toList 0 hr (fun x hx a ha E B aw => by
        obtain ⟨i, hi⟩ := List.getElem?_of_mem hx
        have hi' : fs[i]? = some x := by rw [← Array.getElem?_toList]; exact hi
        have hlt : i < xs.length := by rw [hxl]; exact (Array.getElem?_eq_some_iff.1 hi').1
        have h1 := hf i x hi'
        rw [List.getElem?_eq_getElem hlt] at h1
        exact laid_of_trod hz n x.type a ha _ _ _ h1 E B aw) E B aw
      rw [List.drop_zero, hc, ← hlen, List.take_length] at this
      exact this
    · cases h
inductive AT where
  | one (t : CT)
  | agg (r : List CT)
def atOf (P : Program) (n : Nat) (t : TypeId) : Option AT :=
  match P.underlying t with
  | some (.struct _) =>
    match ctOf P n t with
    | some r => some (.agg r)
    | none => none
  | some (.int k) => some (.one (.int k))
  | some .bool => some (.one .bool)
  | some .string => some (.one .str)
  | some (.slice _) =>
    match ctOf P n t with
    | some [c] => some (.one c)
    | _ => none
  | some (.array m e) =>
    match P.underlying e with
    | some (.int k) => if P.cellsOf e = 1 ∧ P.cellsOf t = m then some (.agg (List.replicate m (.int k))) else none
    | _ => none
  | _ => none
theorem okWide_array {w : World} {r : Reach} {b0 : Nat} {t e : TypeId} {m : Nat} {v : Value} (ht : P.underlying t = some (.array m e)) (h : Value.okWide P w r b0 t v) : ∃ cs, v = .agg cs ∧ cs.size = P.cellsOf t := by
  simp only [Value.okWide, ht] at h
  obtain ⟨cs, h1, h2, _⟩ := h
  exact ⟨cs, h1, h2⟩
theorem ints_laid {M : Nat → Option Ent} {B : AHeap} {k : IntKind} : ∀ (L : List Value), (∀ i (hi : i < L.length), ∃ z, L[i] = .int k z ∧ (Lit.int k z).wf = true) → ∃ l : List AV, VRs M l L ∧ TYs B (List.replicate L.length (.int k)) l
  | [], _ => ⟨[], by rw [VRs_nil], by rw [List.length_nil, List.replicate_zero, TYs]⟩
  | v :: L, h => by
    obtain ⟨z, e, hz⟩ := h 0 (by simp)
    obtain ⟨l, h1, h2⟩ := ints_laid L fun i hi => h (i + 1) (by simpa using hi)
    simp only [List.getElem_cons_zero] at e
    subst e
    refine ⟨.int k z :: l, VRs_cons.2 ⟨_, _, rfl, by rw [VR], h1⟩, ?_⟩
    rw [List.length_cons, List.replicate_succ, TYs]
    exact ⟨_, _, rfl, by rw [TY]; exact ⟨z, rfl, hz⟩, h2⟩
def atsOf (P : Program) (n : Nat) : List TypeId → Option (List AT)
  | [] => some []
  | t :: ts =>
    match atOf P n t, atsOf P n ts with
    | some a, some l => some (a :: l)
    | _, _ => none
def TYa (h : AHeap) : AT → AV → Prop
  | .one t, a => TY h t a
  | .agg r, a => ∃ l, a = .agg l ∧ TYs h r l
theorem TYa.ext {h k : AHeap} (e : Ext h k) : ∀ {t : AT} {a : AV}, TYa h t a → TYa k t a
  | .one _, _, x => TY.ext e x
  | .agg _, _, ⟨l, e1, x⟩ => ⟨l, e1, TYs.ext e x⟩
def TYas (h : AHeap) : List AT → List AV → Prop
  | [], l => l = []
  | t :: ts, l => ∃ a l', l = a :: l' ∧ TYa h t a ∧ TYas h ts l'
theorem laid_arg (hz : ∃ (z : Nat) (cc : Array Value) (el : TypeId) (fz : Nat × Nat), w.heap[z]? = some (Obj.cells cc el fz)) {n : Nat} {t : TypeId} {at' : AT} (h : atOf P n t = some at') {v : Value} {d : DataW H} {ps : List MemPlace} (ht : DataW.Trod enc P w base (fun _ => true) held t v d ps)
    {r : Reach} {b0 : Nat} (ho : Value.okWide P w r b0 t v) (aw : AW P w E B) : ∃ (F : List Ent) (C : AHeap) (a : AV), AW P w (E ++ F) (B ++ C) ∧ VR (embOf (E ++ F)) a v ∧ TYa (B ++ C) at' a := by
  obtain ⟨fuel, ht⟩ := ht
  unfold atOf at h
  split at h
  · rename_i fs hu
    split at h
    case h_2 => cases h
    rename_i r hr
    cases h
    obtain ⟨cs, rfl, _⟩ := okWide_struct hu ho
    obtain ⟨F, C, as, h1, h2, h3⟩ := laid_of_trod hz n t r hr fuel _ _ ht E B aw
    refine ⟨F, C, .agg as, h1, ?_, as, rfl, h3⟩
    rw [VR]
    exact ⟨_, rfl, h2⟩
  · rename_i k hu
    cases h
    obtain ⟨z, rfl⟩ := okWide_int hu ho
    obtain ⟨z', e, _, hwf⟩ := DataW.trod_int hu ht
    cases e
    exact ⟨[], [], .int k z, by rw [List.append_nil, List.append_nil]; exact aw, by rw [VR], by show TY _ _ _; rw [TY]; exact ⟨z, rfl, hwf⟩⟩
  · rename_i hu
    cases h
    obtain ⟨z, rfl⟩ := okWide_bool hu ho
    exact ⟨[], [], .bool z, by rw [List.append_nil, List.append_nil]; exact aw, by rw [VR], by show TY _ _ _; rw [TY]; exact ⟨z, rfl⟩⟩
  · rename_i hu
    cases h
    obtain ⟨s, rfl⟩ := okWide_string hu ho
    obtain ⟨s', e, _, hs⟩ := DataW.trod_string hu ht
    cases e
    exact ⟨[], [], .str s.data.toList, by rw [List.append_nil, List.append_nil]; exact aw, by rw [VR], by show TY _ _ _; rw [TY]; exact ⟨_, rfl, by simpa using hs⟩⟩
  · rename_i e hu
    split at h
    case h_2 => cases h
    rename_i c hc
    cases h
    obtain ⟨a, len, cap, rfl⟩ := okWide_slice hu ho
    obtain ⟨F, C, as, h1, h2, h3⟩ := laid_of_trod hz n t _ hc fuel _ _ ht E B aw
    rw [TYs] at h3
    obtain ⟨x, l', rfl, h4, h5⟩ := h3
    rw [TYs] at h5
    subst h5
    obtain ⟨y, ys, e, h6, _⟩ := VRs_cons.1 h2
    cases e
    exact ⟨F, C, x, h1, h6, h4⟩
  · rename_i m e hu
    split at h
    case h_2 => cases h
    rename_i k hk
    split at h
    case isFalse => cases h
    rename_i hc
    cases h
    obtain ⟨cs, rfl, hcs⟩ := okWide_array hu ho
    obtain ⟨xs, n', rfl, _, hlen, hxl, hf⟩ := DataW.trod_array hu ht
    have hcl : (Value.agg cs).cells.toList = cs.toList := rfl
    rw [hcl] at hlen hf
    rw [hc.2] at hlen
    obtain ⟨l, h1, h2⟩ := ints_laid (M := embOf E) (B := B) (k := k) cs.toList fun i hi => by
      have hi' : i < xs.length := by omega
      have h3 := hf i (by omega)
      rw [hc.1, Nat.mul_one, List.getElem?_eq_getElem hi', List.drop_eq_getElem_cons hi, List.take_succ_cons, List.take_zero] at h3
      obtain ⟨z, e1, _, hwf⟩ := DataW.trod_int hk h3
      exact ⟨z, (List.cons.inj e1).1, hwf⟩
    rw [hlen] at h2
    exact ⟨[], [], .agg l, by rw [List.append_nil, List.append_nil]; exact aw, by rw [VR, List.append_nil]; exact ⟨_, rfl, h1⟩, l, rfl, by rw [List.append_nil]; exact h2⟩
  · cases h
theorem laid_args (hz : ∃ (z : Nat) (cc : Array Value) (el : TypeId) (fz : Nat × Nat), w.heap[z]? = some (Obj.cells cc el fz)) {n : Nat} {r : Reach} {b0 : Nat} : ∀ (tys : List TypeId) {ats : List AT}, atsOf P n tys = some ats → ∀ (vs : List Value) (ds : List (DataW H)) (ps : List MemPlace),
    DataW.TrodAll enc P w base (fun _ => true) held tys vs ds ps → (∀ (j : Nat) t v, tys[j]? = some t → vs[j]? = some v → Value.okWide P w r b0 t v) → ∀ {E : List Ent} {B : AHeap}, AW P w E B →
    ∃ (F : List Ent) (C : AHeap) (as : List AV), AW P w (E ++ F) (B ++ C) ∧ VRs (embOf (E ++ F)) as vs ∧ TYas (B ++ C) ats as
  | [], ats, h, vs, ds, ps, ht, _, E, B, aw => by
    unfold atsOf at h
    cases h
    cases vs with
    | cons v vs => cases ds <;> exact ht.elim
    | nil => exact ⟨[], [], [], by rw [List.append_nil, List.append_nil]; exact aw, by rw [VRs_nil], by rw [TYas]⟩
  | t :: tys, ats, h, vs, ds, ps, ht, ho, E, B, aw => by
    unfold atsOf at h
    split at h
    case h_2 => cases h
    rename_i a l ha hl
    cases h
    cases vs with
    | nil => cases ds <;> exact ht.elim
    | cons v vs =>
      cases ds with
      | nil => exact ht.elim
      | cons d ds =>
        obtain ⟨p, q, h1, h2, _⟩ := ht
        obtain ⟨F, C, x, a1, a2, a3⟩ := laid_arg hz ha h1 (ho 0 t v rfl rfl) aw
        obtain ⟨F', C', xs, b1, b2, b3⟩ := laid_args hz tys hl vs ds q h2 (fun j t v h h' => ho (j + 1) t v h h') a1
        refine ⟨F ++ F', C ++ C', x :: xs, by rw [← List.append_assoc, ← List.append_assoc]; exact b1, ?_, ?_⟩
        · rw [← List.append_assoc]
          exact VRs_cons.2 ⟨v, vs, rfl, VR.mono (embOf_le _ _) _ _ a2, b2⟩
        · rw [← List.append_assoc, TYas]
          exact ⟨x, xs, rfl, a3.ext ⟨C', rfl⟩, b3⟩
end
end Go.Abs
namespace Go.Abs
open Go.ChangeShapes Go.WideShapes Go.RowKit
def avsL (f : DataW Unit → Option (List AV)) : List (DataW Unit) → Option (List AV)
  | [] => some []
  | d :: r =>
    match f d, avsL f r with
    | some a, some b => some (a ++ b)
    | _, _ => none
def avsOf (P : Program) : Nat → TypeId → DataW Unit → Option (List AV)
  | 0, _, _ => none
  | n + 1, t, d =>
    match P.underlying t with
    | some (.int k) =>
      match d with
      | .lit (.int _ z) => some [.int k z]
      | _ => none
    | some (.array m e) =>
      match d with
      | .agg l =>
        match avsL (avsOf P n e) l with
        | some r => if P.cellsOf t = m * P.cellsOf e then some r else none
        | none => none
      | _ => none
    | _ => none
section
variable {P : Program} {w : World} {base : Nat} {sp : Nat → Bool} {held : Bool}
theorem avsL_ok {f : DataW Unit → Option (List AV)} {m : Emb} {ce : Nat} {cs : List Value} {g : List Value → Option (DataW Unit × List MemPlace)} (hf : ∀ c d p as, g c = some (d, p) → f d = some as → VRs m as c ∧ as.all AV.one = true) :
    ∀ (l : List (DataW Unit × List MemPlace)) (o : Nat) {as : List AV}, avsL f (l.map (·.1)) = some as → (∀ i (hi : i < l.length), g ((cs.drop ((o + i) * ce)).take ce) = some l[i]) → VRs m as ((cs.drop (o * ce)).take (l.length * ce)) ∧ as.all AV.one = true
  | [], o, as, h, _ => by
    unfold avsL at h
    cases h
    rw [List.length_nil, Nat.zero_mul, List.take_zero]
    exact ⟨by rw [VRs_nil], rfl⟩
  | x :: l, o, as, h, hx => by
    rw [List.map_cons] at h
    unfold avsL at h
    split at h
    case h_2 => cases h
    rename_i a b ha hb
    cases h
    have h0 := hx 0 (by rw [List.length_cons]; omega)
    rw [Nat.add_zero, List.getElem_cons_zero] at h0
    obtain ⟨p1, p2⟩ := hf _ x.1 x.2 a h0 ha
    obtain ⟨q1, q2⟩ := avsL_ok hf l (o + 1) hb (fun i hi => by
      have := hx (i + 1) (by rw [List.length_cons]; omega)
      rw [List.getElem_cons_succ] at this
      rw [show o + 1 + i = o + (i + 1) by omega]; exact this)
    refine ⟨?_, by rw [List.all_append, p2, q2]; rfl⟩
    rw [List.length_cons, Nat.succ_mul, Nat.add_comm (l.length * ce) ce, List.take_add, List.drop_drop]
    refine p1.append ?_
    rw [← Nat.succ_mul]
    exact q1
theorem avsOf_ok {m : Emb} : ∀ (n : Nat) (t : TypeId) (fuel : Nat) (cs : List Value) (d : DataW Unit) (p : List MemPlace) (as : List AV),
    DataW.trod (fun _ => ()) P w base sp held fuel t cs = some (d, p) → avsOf P n t d = some as → VRs m as cs ∧ as.all AV.one = true
  | 0, _, _, _, _, _, _, _, h => by cases h
  | n + 1, t, fuel, cs, d, p, as, ht, h => by
    unfold avsOf at h
    split at h
    · rename_i k hu
      obtain ⟨z, rfl, e, _⟩ := DataW.trod_int hu ht
      cases e
      cases h
      exact ⟨VRs_cons.2 ⟨_, [], rfl, by rw [VR], by rw [VRs_nil]⟩, rfl⟩
    · rename_i mm e hu
      obtain ⟨xs, m', _, ex, hlen, hxl, hf⟩ := DataW.trod_array hu ht
      cases ex
      simp only at h
      split at h
      case h_2 => cases h
      rename_i r hr
      split at h
      case isFalse => cases h
      rename_i hc
      cases h
      have := avsL_ok (m := m) (ce := P.cellsOf e) (cs := cs) (g := DataW.trod (fun _ => ()) P w base sp held m' e) (fun c d p as h1 h2 => avsOf_ok n e m' c d p as h1 h2) xs 0 hr (fun i hi => by
        have := hf i (by omega)
        rw [List.getElem?_eq_getElem hi] at this
        rw [Nat.zero_add]; exact this)
      rw [Nat.zero_mul, List.drop_zero, hxl, ← hc, ← hlen, List.take_length] at this
      exact this
    · cases h
def globB (P : Program) (laid : List (String × DataW Unit)) (n : Nat) (g : Nat) : ABlk :=
  match laid.find? (fun x => P.globalNamed x.1 == some g) with
  | some x =>
    match (P.globals[g]?).map (·.type) with
    | some t =>
      match avsOf P n t x.2 with
      | some as => if as.length = gsz P g then .cells as false false else .dead
      | none => .dead
    | none => .dead
  | none => .dead
def globE (P : Program) : List Ent := (List.range P.globals.size).map fun g => ⟨g, 0, gsz P g, false⟩
def globL (P : Program) (laid : List (String × DataW Unit)) (n : Nat) : AHeap := (List.range P.globals.size).map (globB P laid n)
theorem laidVars_mem : ∀ {laid : List (String × DataW Unit)} {ps : List MemPlace}, DataW.LaidVars P w laid ps → ∀ x ∈ laid, ∃ g t cs fuel p, P.globalNamed x.1 = some g ∧ (P.globals[g]?).map (·.type) = some t ∧ w.var? P x.1 = some cs ∧
    DataW.trod (fun _ => ()) P w 0 (fun _ => true) false fuel t cs.toList = some (x.2, p)
  | [], _, _, x, hx => by cases hx
  | (n, d) :: r, ps, h, x, hx => by
    obtain ⟨g, t, cs, fuel, p, q, h1, h2, h3, h4, h5, _⟩ := h
    rcases List.mem_cons.1 hx with rfl | hx
    · exact ⟨g, t, cs, fuel, p, h1, h2, h3, h4⟩
    · exact laidVars_mem h5 x hx
theorem var_blk {n : String} {g : Nat} {cs : Array Value} (hg : P.globalNamed n = some g) (h : w.var? P n = some cs) : ∃ el fz, w.heap[g]? = some (.cells cs el fz) := by
  unfold World.var? at h
  rw [hg] at h
  simp only [Option.bind_some] at h
  split at h
  · rename_i c el fz hb
    cases h
    exact ⟨el, fz, hb⟩
  · cases h
theorem AW.globals {laid0 laid : List (String × DataW Unit)} (hl : laidMet P laid0 w) (hsub : ∀ x ∈ laid, x ∈ laid0) (n : Nat) {nm : String} {d : DataW Unit} (hlast : (nm, d) ∈ laid) (hg : P.globalNamed nm = some (P.globals.size - 1)) :
    AW P w (globE P) (globL P laid n) ∧ ∃ (z : Nat) (cc : Array Value) (el : TypeId) (fz : Nat × Nat), w.heap[z]? = some (Obj.cells cc el fz) := by
  obtain ⟨ps, hv, _, _⟩ := hl
  obtain ⟨g0, t0, cs0, _, _, a1, _, a3, _⟩ := laidVars_mem hv _ (hsub _ hlast)
  obtain ⟨el0, fz0, hb0⟩ := var_blk a1 a3
  have hsz : P.globals.size - 1 < w.heap.size := by
    have e : g0 = P.globals.size - 1 := Option.some.inj (a1.symm.trans hg)
    rw [← e]
    exact (Array.getElem?_eq_some_iff.1 hb0).1
  have hE : ∀ (b : Nat) e, (globE P)[b]? = some e → b < P.globals.size ∧ e = ⟨b, 0, gsz P b, false⟩ := fun b e h => by
    unfold globE at h
    rw [List.getElem?_map] at h
    have hb : b < P.globals.size := by
      cases hr : (List.range P.globals.size)[b]? with
      | none => rw [hr] at h; cases h
      | some y => have := (List.getElem?_eq_some_iff.1 hr).1; simpa using this
    rw [List.getElem?_range hb] at h
    exact ⟨hb, (Option.some.inj h).symm⟩
  refine ⟨⟨by simp [globE, globL], fun b e h => ?_, fun b e k h h' => ?_, fun g hg => ⟨⟨g, 0, gsz P g, false⟩, ?_, rfl, rfl, rfl, rfl⟩⟩, ⟨g0, cs0, el0, fz0, hb0⟩⟩
  · obtain ⟨hb, rfl⟩ := hE b e h
    exact ⟨rfl, by show b < _; omega⟩
  · obtain ⟨hb, rfl⟩ := hE b e h
    unfold globL at h'
    rw [List.getElem?_map, List.getElem?_range hb] at h'
    have h' := (Option.some.inj h').symm
    subst h'
    unfold globB
    split
    case h_2 => exact ⟨trivial, .inl rfl⟩
    rename_i x hx
    split
    case h_2 => exact ⟨trivial, .inl rfl⟩
    rename_i t ht
    split
    case h_2 => exact ⟨trivial, .inl rfl⟩
    rename_i as has
    split
    case isFalse => exact ⟨trivial, .inl rfl⟩
    rename_i hlen
    refine ⟨?_, .inr ⟨as, rfl⟩⟩
    obtain ⟨g, t', cs, fuel, p, b1, b2, b3, b4⟩ := laidVars_mem hv x (hsub _ (List.mem_of_find?_eq_some hx))
    have hgb : P.globalNamed x.1 = some b := by have := List.find?_some hx; simpa using this
    have e1 : g = b := Option.some.inj (b1.symm.trans hgb)
    subst e1
    have e2 : t' = t := Option.some.inj (b2.symm.trans ht)
    subst e2
    obtain ⟨el, fz, hblk⟩ := var_blk b1 b3
    obtain ⟨c1, c2⟩ := avsOf_ok (m := embOf (globE P)) n t' fuel _ _ _ _ b4 has
    have hcl : cs.size = as.length := by have := c1.length; simpa using this
    refine ⟨cs, el, fz, hblk, ⟨by show 0 + _ ≤ _; omega, by show 0 + _ ≤ gsz P g; omega, by show cs.size = gsz P g; omega⟩, fun i x hx => ?_, ⟨fun x => absurd x Bool.false_ne_true, fun x => by rcases x with x | x <;> exact absurd x Bool.false_ne_true⟩⟩
    refine ⟨List.all_eq_true.1 c2 x (List.mem_of_getElem? hx), ?_⟩
    obtain ⟨v, hv1, hv2⟩ := c1.get hx
    refine ⟨v, ?_, hv2⟩
    show cs[0 + i]? = some v
    rw [Nat.zero_add, ← Array.getElem?_toList]; exact hv1
  · unfold globE
    rw [List.getElem?_map, List.getElem?_range hg]; rfl
end
section
variable {P : Program} {W W' : World} {E : List Ent} {B h' : AHeap} {m' : Emb}
theorem AW.below (aw : AW P W E B) (g : Grow (embOf E) B W m' h' W') : Below W.heap.size W W' :=
  ⟨g.os, g.tape, g.out, g.size, fun k hk => g.frame k hk fun b e hb ho => by rw [(aw.own b e hb).1] at ho; cases ho⟩
theorem below_kept (b : Below W.heap.size W W') (may : MemPlace → Prop) : W.keptBut W' may := by
  refine ⟨b.os, b.output, fun i hi => ?_⟩
  rw [b.block i hi]
  split
  · rename_i h1 h2
    rw [h1] at h2
    simp only [Option.some.injEq, Obj.cells.injEq] at h2
    obtain ⟨rfl, rfl, rfl⟩ := h2
    exact ⟨rfl, rfl, rfl, fun _ _ => rfl⟩
  · rename_i h1 h2
    rw [h1] at h2
    simp only [Option.some.injEq, Obj.map.injEq] at h2
    obtain ⟨rfl, rfl⟩ := h2
    exact .inr ⟨rfl, rfl⟩
  · rfl
variable {H : Type} {enc : TypeId × Value → H}
theorem trodAll_below (hlo : laidOutB P = true) (hb : Below W.heap.size W W') {sp : Nat → Bool} : ∀ {tys : List TypeId} {vs : List Value} {ds : List (DataW H)} {ps : List MemPlace}, (∀ t ∈ tys, P.readableRec t = true ∧ t < P.types.size) →
    DataW.TrodAll enc P W 0 (fun _ => true) true tys vs ds ps → (∀ p ∈ ps, p.block < W.heap.size) → (∀ p ∈ ps, sp p.block = true) → DataW.TrodAll enc P W' 0 sp true tys vs ds ps
  | [], [], [], ps, _, h, _, _ => h
  | [], [], _ :: _, _, _, h, _, _ => h.elim
  | [], _ :: _, _, _, _, h, _, _ => h.elim
  | _ :: _, [], _, _, _, h, _, _ => h.elim
  | _ :: _, _ :: _, [], _, _, h, _, _ => h.elim
  | t :: tys, v :: vs, d :: ds, ps, hr, h, hl, hs => by
    obtain ⟨p, q, h1, h2, rfl⟩ := h
    exact ⟨p, q, WideElems.Trod_stays hlo (hr t (List.mem_cons_self ..)).1 (hr t (List.mem_cons_self ..)).2 h1 (fun x hx => hb.same (hl x (List.mem_append_left _ hx))) (fun x hx => hs x (List.mem_append_left _ hx)),
      trodAll_below hlo hb (fun t ht => hr t (List.mem_cons_of_mem _ ht)) h2 (fun x hx => hl x (List.mem_append_right _ hx)) (fun x hx => hs x (List.mem_append_right _ hx)), rfl⟩
theorem post_true {f : Func} {s : ChangeSpec} {apart fresh handsOn again : Bool} {args : Array Value} {ds gs : List (DataW H)} {before : List MemPlace} {tb : TypeId}
    (hlo : laidOutB P = true) (hpar : ∀ t ∈ f.params.toList, P.readableRec t = true ∧ t < P.types.size) (hrt : f.resultTypes = #[tb]) (htb : P.underlying tb = some .bool) (hvars : s.vars = [])
    (hfn : (s.fn H (ds ++ gs)) = { results := [.lit (.bool true)], args := ds }) (hW : DataW.Whole enc P f.params.toList s.vars apart W args.toList ds gs before) (hb : Below W.heap.size W W') :
    s.post enc P f apart fresh handsOn again W args (.bool true) W' := by
  have hlt := hW.lt
  have hW' := hW
  obtain ⟨p, q, hA, hV, rfl, hz, hn⟩ := hW'
  rw [hvars] at hV
  obtain ⟨rfl, rfl⟩ := trodVars_none hV
  rw [List.append_nil] at hlt
  have hres : ∀ (b : Nat) (sp : Nat → Bool) (hd : Bool), DataW.TrodAll enc P W' b sp hd f.resultTypes.toList ((Value.bool true).resultList f.resultTypes.size) (s.fn H (ds ++ [])).results [] := fun b sp hd => by
    rw [hfn, hrt]
    exact trodAll_mk1 (shut_bool htb _)
  have hargs : ∀ sp : Nat → Bool, (∀ x ∈ p, sp x.block = true) → DataW.TrodAll enc P W' 0 sp true f.params.toList args.toList (s.fn H (ds ++ [])).args p := fun sp hs => by
    rw [hfn]
    exact trodAll_below hlo hb hpar hA hlt hs
  have hvs : ∀ sp : Nat → Bool, DataW.TrodVars enc P W' sp s.vars (s.fn H (ds ++ [])).vars [] := fun sp => by
    rw [hfn, hvars]; rfl
  refine ⟨ds, [], p ++ [], [], p, [], hW, hres _ _ _, hargs _ (fun x hx => by simpa using hlt x hx), hvs _, below_kept hb _, fun _ => ?_⟩
  refine ⟨?_, _, _, ([] ++ p) ++ [], ⟨[] ++ p, [], trodAll_append (hargs _ (fun _ _ => rfl)) (hres _ _ _), hvs _, rfl, ?_, ?_⟩, ?_⟩
  · exact ok_one hrt rfl (okWide_bool_mk htb _)
  · intro b off hp
    have hp : MemPlace.cell b off ∈ p := by simpa using hp
    have := hz b off (by simpa using hp)
    unfold World.frozen? at this ⊢
    rw [hb.block b (hlt _ hp)]
    exact this
  · intro ha
    have := hn ha
    simpa using this
  · intro x hx _
    simpa using hx
theorem row_true {f : Func} {fid : FuncId} {s : ChangeSpec} {apart fresh handsOn again : Bool} {args : Array Value} {ds gs : List (DataW H)} {before : List MemPlace} {tb : TypeId} {n : Nat} {ats : List AT} {r : Reach} {b0 : Nat}
    (hlo : laidOutB P = true) (hpar : ∀ t ∈ f.params.toList, P.readableRec t = true ∧ t < P.types.size) (hrt : f.resultTypes = #[tb]) (htb : P.underlying tb = some .bool) (hvars : s.vars = [])
    (hfn : (s.fn H (ds ++ gs)) = { results := [.lit (.bool true)], args := ds }) (hats : atsOf P n f.params.toList = some ats)
    (hval : ∀ (j : Nat) t v, f.params[j]? = some t → args[j]? = some v → Value.okWide P W r b0 t v)
    (hW : DataW.Whole enc P f.params.toList s.vars apart W args.toList ds gs before) (aw : AW P W E B) (hz : ∃ (z : Nat) (cc : Array Value) (el : TypeId) (fz : Nat × Nat), W.heap[z]? = some (Obj.cells cc el fz))
    (call : ∀ k as, Ext B k → TYas k ats as → RCall P fid as k fun v _ => v = .bool true) :
    Calls P fid args W fun e W' => ∃ v, e = .returned v ∧ s.post enc P f apart fresh handsOn again W args v W' := by
  obtain ⟨p, q, hA, _⟩ := id hW
  obtain ⟨F, C, as, h1, h2, h3⟩ := laid_args hz f.params.toList hats args.toList ds p hA (fun j t v h h' => hval j t v (by rw [← Array.getElem?_toList]; exact h) (by rw [← Array.getElem?_toList]; exact h')) aw
  obtain ⟨v, g, hs, rfl⟩ := call (B ++ C) as ⟨C, rfl⟩ h3
  refine (hs (embOf (E ++ F)) W args.toList h1.hr h2).mono fun e W' ⟨cv, m', he, hv, _, hg⟩ => ?_
  rw [VR] at hv
  subst hv
  exact ⟨_, he, post_true hlo hpar hrt htb hvars hfn hW (h1.below hg)⟩
end
end Go.Abs
