import Derived.Test.YtjhdkimkijhloaaGreatDoorBk3
import Derived.Test.YtjhdkimkijhloaaGreatDoorBk4
import Derived.Test.YtjhdkimkijhloaaGreatDoorBk5
set_option linter.all false
namespace Go.Abs
theorem rows_of {α : Type} {row : α → List AV} {Q : α → Prop} : ∀ {cs : List (List AV)}, (∀ c ∈ cs, ∃ x, c = row x ∧ Q x) → ∃ L : List α, cs = L.map row ∧ ∀ x ∈ L, Q x
  | [], _ => ⟨[], rfl, fun _ h => by cases h⟩
  | c :: cs, h => by
    obtain ⟨x, rfl, hx⟩ := h c (List.mem_cons_self ..)
    obtain ⟨L, rfl, hL⟩ := rows_of (cs := cs) fun c hc => h c (List.mem_cons_of_mem _ hc)
    exact ⟨x :: L, rfl, fun y hy => (List.mem_cons.1 hy).elim (fun e => e ▸ hx) (hL y)⟩
theorem maxLen_lt {n : Nat} (h : n ≤ maxLen) : n < 2 ^ 63 := by unfold maxLen at h; omega
theorem ty_int {h : AHeap} {k : IntKind} {a : AV} (x : TY h (.int k) a) : ∃ z, a = .int k z ∧ (Lit.int k z).wf = true := by rw [TY] at x; exact x
theorem ty_str {h : AHeap} {a : AV} (x : TY h .str a) : ∃ s : List UInt8, a = .str s ∧ s.length ≤ maxLen := by rw [TY] at x; exact x
theorem ty_sl {h : AHeap} {r : List CT} {a : AV} (x : TY h (.sl r) a) : ∃ cs : List (List AV), IsSl h a r.length cs ∧ cs.length ≤ maxLen ∧ ∀ c ∈ cs, TYs h r c := by rw [TY] at x; exact x
theorem tys_nil {h : AHeap} {l : List AV} (x : TYs h [] l) : l = [] := by rw [TYs] at x; exact x
theorem tys_cons {h : AHeap} {t : CT} {ts : List CT} {l : List AV} (x : TYs h (t :: ts) l) : ∃ a l', l = a :: l' ∧ TY h t a ∧ TYs h ts l' := by rw [TYs] at x; exact x
theorem tyas_nil {h : AHeap} {l : List AV} (x : TYas h [] l) : l = [] := by rw [TYas] at x; exact x
theorem tyas_cons {h : AHeap} {t : AT} {ts : List AT} {l : List AV} (x : TYas h (t :: ts) l) : ∃ a l', l = a :: l' ∧ TYa h t a ∧ TYas h ts l' := by rw [TYas] at x; exact x
theorem tys_2 {h : AHeap} {c : List AV} (x : TYs h [.int .i64, .int .i64] c) : ∃ p : Int × Int, c = [.int .i64 p.1, .int .i64 p.2] ∧ ((Lit.int .i64 p.1).wf = true ∧ (Lit.int .i64 p.2).wf = true) := by
  obtain ⟨_, _, rfl, h1, x⟩ := tys_cons x
  obtain ⟨_, _, rfl, h2, x⟩ := tys_cons x
  obtain rfl := tys_nil x
  obtain ⟨a, rfl, wa⟩ := ty_int h1
  obtain ⟨b, rfl, wb⟩ := ty_int h2
  exact ⟨(a, b), rfl, wa, wb⟩
def ctPk : List CT := [.int .i64, .int .i64]
def ctHor : List CT := [.str, .int .i64, .sl ctPk]
theorem tys_hor {h : AHeap} {c : List AV} (x : TYs h ctHor c) : ∃ y : Hor × AV, c = horRow y ∧ HorOk h y.1 y.2 := by
  obtain ⟨_, _, rfl, h1, x⟩ := tys_cons x
  obtain ⟨_, _, rfl, h2, x⟩ := tys_cons x
  obtain ⟨s, _, rfl, h3, x⟩ := tys_cons x
  obtain rfl := tys_nil x
  obtain ⟨n, rfl, hn⟩ := ty_str h1
  obtain ⟨e, rfl, _⟩ := ty_int h2
  obtain ⟨cs, hs, hl, hc⟩ := ty_sl h3
  obtain ⟨L, rfl, _⟩ := rows_of (row := pkRow) (Q := fun _ => True) fun c hcm => by
    obtain ⟨p, e, _⟩ := tys_2 (hc c hcm)
    exact ⟨p, e, trivial⟩
  exact ⟨(⟨n, e, L⟩, s), rfl, hs, maxLen_lt (by simpa using hl), maxLen_lt hn⟩
theorem ty_hors {h : AHeap} {a : AV} (x : TY h (.sl ctHor) a) : ∃ L : List (Hor × AV), HorsOk h L a := by
  obtain ⟨cs, hs, hl, hc⟩ := ty_sl x
  obtain ⟨L, rfl, hL⟩ := rows_of (row := horRow) (Q := fun y => HorOk h y.1 y.2) fun c hcm => tys_hor (hc c hcm)
  exact ⟨L, hs, maxLen_lt (by simpa using hl), hL⟩
theorem tya_str {h : AHeap} {a : AV} (x : TYa h (.one .str) a) : ∃ s : List UInt8, a = .str s ∧ s.length ≤ maxLen := ty_str (h := h) x
theorem tya_hors {h : AHeap} {a : AV} (x : TYa h (.one (.sl ctHor)) a) : ∃ L : List (Hor × AV), HorsOk h L a := ty_hors x
end Go.Abs
