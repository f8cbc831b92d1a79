/- Contracts: predictions by the reference. No condition. · Taps undone, and applied again; ghosts taken off, and put on again: plain. No condition. · Contracts: quiet lists, a number in a list; what is heard when all fits. No condition. · Samples added; lists made cell by cell; copies of one's own. No condition. · Contracts: shots copied from one form into the other: lists of traces that grow in a box. No condition. · Contracts: what the shelf gives to texts; a list printed; a word taken. No condition. · Contracts: a list of taps parsed, by the program and by the reference; printed by the reference. No condition. · Texts of taps and back: plain. No condition. · The law of texts of taps: printed and parsed as the reference does. No condition. · The shelf's structure of strconv.Atoi, laid plain for this program. No condition. · The shelf's structure of strconv.Atoi at every string, laid plain for this program. No condition. · What Go's own functions give to texts of taps, by the shelf. No condition. · The package-level variables of the rows of shots: the table of headers' ranges besides; awake with them. No condition. · The package-level variables of the rows of texts of taps; awake with them. No condition. · Closed facts of the rows of texts of taps. No condition. -/
import Derived.Test.YtbgldbmgjcgepaaGreatDoorGa12
import Derived.Shelf.Lays
import Derived.Tactics
import Derived.Test.YtbgldbmgjcgepaaGreatDoorProg
import Derived.Shelf.LaysC
import Derived.Laws.Externs
import Derived.Shelf.Strconv.AtoiAll
import Derived.Test.YtbgldbmgjcgepaaGreatDoorGa8
import Derived.Test.YtbgldbmgjcgepaaGreatDoorGa10
set_option linter.all false
namespace Go.Abs

set_option maxRecDepth 10000
attribute [local irreducible] WP WC WE WB WR WF WL WG WRg WQ
section
variable {P : Program} (T : Tbl P) {h : AHeap}
include T
end
end Go.Abs
namespace Go.Abs

end Go.Abs
namespace Go.Abs

set_option maxRecDepth 10000
attribute [local irreducible] WP WC WE WB WR WF WL WG WRg WQ
section
variable {P : Program} (T : Tbl P) {h : AHeap}
include T
end
end Go.Abs
namespace Go.Abs
open Ieee

set_option maxRecDepth 10000
attribute [local irreducible] WP WC WE WB WR WF WL WG WRg WQ
section
variable {P : Program} (T : Tbl P) {h : AHeap}
include T
end
end Go.Abs
namespace Go.Abs

/-- A slice is not of this block. -/
def NotB (b : Nat) (s : AV) : Prop := ∀ b0 o n e, s = .slice b0 o n e → b0 ≠ b
theorem Fr.notB {M : Nat} {h : AHeap} {s : AV} {es : Nat} {cs : List (List AV)} (o : Fr M h s es cs) {b : Nat} (hb : b < M) : NotB b s := fun _ _ _ _ q z => by
  have := (o.lt q).1
  omega
theorem Fr.setn {N : Nat} {h : AHeap} {s : AV} {es : Nat} {cs : List (List AV)} (o : Fr N h s es cs) {b : Nat} {X : ABlk} (hb : NotB b s) : Fr N (h.set b X) s es cs := by
  cases o with
  | nil => exact .nil
  | mk hN h1 he => exact .mk hN (set_ne' (fun z => hb _ _ _ _ rfl z.symm) h1) he
set_option maxRecDepth 10000
attribute [local irreducible] WP WC WE WB WR WF WL WG WRg WQ
section
variable {P : Program} (T : Tbl P) {h : AHeap}
include T
end
end Go.Abs
namespace Go.Abs

/-- The table of powers is as laid; two errors are. -/
structure Txw (h : AHeap) : Prop where
  p : ∃ mu tl, h[4]? = some (.cells (Lib.pow10Tab.map (AV.int .u64)) mu tl)
  s : ∃ mu tl, h[5]? = some (.cells [.someIfc] mu tl)
  r : ∃ mu tl, h[6]? = some (.cells [.someIfc] mu tl)
theorem Txw.ext {h k : AHeap} (o : Txw h) (e : Ext h k) : Txw k := by
  obtain ⟨⟨a, b, c⟩, ⟨a1, b1, c1⟩, ⟨a2, b2, c2⟩⟩ := o
  exact ⟨⟨a, b, e.some c⟩, ⟨a1, b1, e.some c1⟩, ⟨a2, b2, e.some c2⟩⟩
/-- What the shelf says of Go's own functions. -/
structure Txf (P : Program) : Prop where
  itoa : ∀ {h : AHeap} {n : Int}, -9223372036854775808 ≤ n → n ≤ 9223372036854775807 → Txw h → RCall P 175 [.int .i64 n] h (fun v _ => v = .str (Lib.itoa n))
  join : ∀ {h : AHeap} {s : AV} {sep : List UInt8} {xs : List (List UInt8)}, IsSl h s 1 (xs.map strRow) → (Lib.join xs sep).length ≤ 140737488355328 ∧ xs.length ≤ 140737488355328 → RCall P 173 [s, .str sep] h (fun v _ => v = .str (Lib.join xs sep))
  atoi : ∀ {h : AHeap} {s : List UInt8}, Txw h → s.length ≤ 4096 → RCall P 214 [.str s] h (fun v _ => ∃ n : Int, (Lib.atoiAll s = .ok n ∧ v = .tup [.int .i64 n, .nilIfc]) ∨ ((∀ k, Lib.atoiAll s ≠ .ok k) ∧ v = .tup [.int .i64 n, .someIfc]))
def tkB (sw : AV) (wr : Bool) : ABlk := .cells [sw, .bool wr] true false
theorem nil_t : eqvF true (eqvK .nilI .nilIfc .nilIfc) = some (.bool false) := rfl
theorem nil_s : eqvF true (eqvK .nilI .someIfc .nilIfc) = some (.bool true) := rfl
theorem sig_bad {w : List UInt8} (h : ∀ k, Lib.atoiAll w ≠ .ok k) : sigOk w = false := by
  cases hs : sigOk w with
  | false => rfl
  | true => exact absurd (sig_back hs).2.2.1 (h _)
theorem sig_num {w : List UInt8} {n : Int} (h : Lib.atoiAll w = .ok n) (hs : sigOk w = true) : n = sigN w := by
  have := (sig_back hs).2.2.1
  rw [h] at this
  exact Lib.NumEnd.ok.inj this
set_option maxRecDepth 10000
attribute [local irreducible] WP WC WE WB WR WF WL WG WRg WQ
section
variable {P : Program} (T : Tbl P) {h A B : AHeap}
include T
set_option maxHeartbeats 2000000 in
theorem z174 {s : AV} {l : List (Int)} (hs : IsSl h s 1 (l.map intRow)) (hl : l.length < 2 ^ 40) {f : FuncId} {AF : AFunc} (hA : compileFn P f = some AF) {g : Int → List UInt8} (hf : ∀ x ∈ l, ∀ k, Ext h k → RCall P f [.int .i64 x] k (fun v _ => v = .str (g x))) : RCall P 174 [s, .func (.func f) [] []] h (fun v h' => Fr h.length h' v 1 ((l.map g).map strRow)) := by
  refine .st2 22 T.mix T.c174 ?_;intro ts hlen t0 t1;unfold fn174
  refine Rs (A3 @t0 @t1 hs.lenm) ?_
  refine WL.inv T.mix (fun n ts K => ∃ (k : Nat) (t : AV), k ≤ l.length ∧ n = l.length - k ∧ Ext h K ∧ Fr h.length K t 1 (((l.take k).map g).map strRow) ∧ ts.length = 22 ∧ slot ts 1 = .func (.func f) [] [] ∧ slot ts 5 = t ∧ slot ts 8 = s ∧ slot ts 9 = .int .i64 l.length ∧ slot ts 10 = .int .i64 k) l.length
    ⟨0, .nilSlice, by omega, rfl, .refl _, .nil, Sn, (Sq @t1), Sw, Sw, Sw, Swr⟩ ?_
  clear hlen t0 t1
  rintro _ ts K ⟨k, t, hk, rfl, eK, hfr, hlen, t1, t5, t8, t9, t10⟩
  have hsK := hs.ext eK
  by_cases hlt : k < l.length
  case neg =>
    have e3 := dltF hlt
    have e4 : k = l.length := by omega
    rw [e4, List.take_length] at hfr
    refine Rs (A6 @t1 @t5 @t8 @t9 @t10 @e3) ?_
    exact ⟨eK, hfr⟩
  have e3 := dltT hlt
  have e5 := wrapN (n := k) (by omega)
  have ix := hsK.ixm (kk := .i64) hlt
  obtain ⟨x, hx⟩ : ∃ x, x = l[k] := ⟨_, rfl⟩
  have ld : ∀ {kk : AHeap}, Ext K kk → loadF none (elp s 1 k) (fun b => kk[b]?) = some (.int .i64 x, .keep) := fun {kk} e => by rw [hx]; exact hsK.l1m hlt rfl e
  have hmem : x ∈ l := by rw [hx]; exact List.getElem_mem _
  have ot := hfr.isSl.one
  have htk : l.take (k + 1) = l.take k ++ [x] := by rw [hx]; exact List.take_succ_eq_append_getElem hlt
  refine Rs (A9 @t1 @t5 @t8 @t9 @t10 @e3 @ix @ld @ot) ?_
  refine WF.ce hA (hf x hmem _ eK) fun g1 => ?_
  have bs : ∀ {N : Nat}, bslF 1 1 (fillA [.str []] [(0, 1, .str (g x))]) N = some (.slice N 0 1 1, .push (.cells [.str (g x)] true true)) := fun {N} => rfl
  refine Rs (A7 @t1 @t5 @t8 @t9 @t10 @ot @bs) ?_
  refine WR.appR (B := h) (cs := ((l.take k).map g).map strRow) (z := strRow (g x)) (hfr.app _) rfl (eK.trans ⟨_, rfl⟩) (by decide) (by rw [List.length_map, List.length_map, List.length_take]; omega) ?_
  intro W5 s' x5 hff q5
  have hrow : ((l.take k).map g).map strRow ++ [strRow (g x)] = ((l.take (k + 1)).map g).map strRow := by rw [htk, List.map_append, List.map_append]; rfl
  rw [hrow] at hff
  refine Rs (A7 @t1 @t5 @t8 @t9 @t10 @q5 @e5) ?_
  exact ⟨l.length - (k + 1), by omega, k + 1, s', by omega, rfl, x5, hff, rfl, rfl⟩
set_option maxHeartbeats 2000000 in
theorem r98 (Z : Txf P) (w : Txw h) {s : AV} {l : List Int} (hs : IsSl h s 1 (l.map intRow)) (hl : l.length < 2 ^ 40) : RCall P 98 [s] h (fun v _ => v = .tup [.str (if chkTp l = 0 then txS l else []), .int .i64 (chkTp l)]) := by
  refine .st1 13 T.mix T.c98 ?_;intro ts hlen t0;unfold fn98
  refine Rs @t0 ?_
  refine WF.ce T.c34 (r34 T hs hl) fun g1 => ?_
  by_cases hz : chkTp l = 0
  case neg =>
    have d1 : decide (chkTp l ≠ 0) = true := decide_eq_true hz
    rw [if_neg hz]
    exact Rs (A2 @t0 @d1) trivial
  have d1 : decide (chkTp l ≠ 0) = false := decide_eq_false fun z => z hz
  have ok := chkTp_z hz
  have l2 := ok.l2
  have bd : ∀ n ∈ l, -1000000000 < n ∧ n < 1000000000 := fun n hn => by have := ok.r n hn; omega
  have tl := tx_len bd
  have jb : Lib.join (l.map Lib.itoa) [32] = txS l := join_b
  rw [if_pos hz]
  refine Rs (A2 @t0 @d1) ?_
  refine WF.res T.c174 (z174 T (hs.ext Xx) hl T.c175 (g := Lib.itoa) (fun x hx k e => Z.itoa (by have := bd x hx; omega) (by have := bd x hx; omega) ((w.ext Xx).ext e))) ?_
  intro v g2 fr
  refine Rs @t0 ?_
  refine WF.ce T.c173 (Z.join fr.isSl ⟨by rw [jb]; omega, by rw [List.length_map]; omega⟩) fun g3 => ?_
  rw [jb]
  exact Rs (A2 @t0 @hz) trivial
set_option maxHeartbeats 1000000 in
theorem r266 (w : List UInt8) : RCall P 266 [.str w, .str [45]] h (fun v _ => v = .bool (decide (w.head? = some 45))) := by
  refine .st2 18 T.mix T.c266 ?_;intro ts hlen t0 t1;unfold fn266
  cases w with
  | nil =>
    have d1 : decide ((((([45] : List UInt8).length) : Nat) : Int) ≤ ((([] : List UInt8).length : Nat) : Int)) = false := rfl
    refine Rs (A3 @t0 @t1 @d1) ?_
    rfl
  | cons c r =>
    have d1 : decide ((((([45] : List UInt8).length) : Nat) : Int) ≤ (((c :: r).length : Nat) : Int)) = true := decide_eq_true (by simp only [List.length_cons, List.length_nil]; omega)
    have sl : slsF (.str (c :: r)) none (some (.int .i64 ((([45] : List UInt8).length : Nat) : Int))) = some (.str [c]) := sls_hi (n := 1) (by simp)
    have e : decide ([c] = [45]) = decide ((c :: r).head? = some 45) := decide_eq_decide.2 (by simp)
    refine Rs (A4 @t0 @t1 @d1 @sl) ?_
    rw [e]
set_option maxHeartbeats 1000000 in
theorem r235 (w : List UInt8) : RCall P 235 [.str w, .str [45]] h (fun v _ => v = .str (trimM w)) := by
  refine .st2 13 T.mix T.c235 ?_;intro ts hlen t0 t1;unfold fn235
  refine Rs (A2 @t0 @t1) ?_
  refine WF.ce T.c266 (r266 T w) fun g1 => ?_
  by_cases hp : w.head? = some 45
  · have d1 : decide (w.head? = some 45) = true := decide_eq_true hp
    obtain ⟨r, rfl⟩ : ∃ r, w = 45 :: r := by
      cases w with
      | nil => cases hp
      | cons c r => exact ⟨r, by simp at hp; rw [hp]⟩
    have sl : slsF (.str (45 :: r)) (some (.int .i64 ((([45] : List UInt8).length : Nat) : Int))) none = some (.str r) := @sls_lo' [] r 45 .i64
    refine Rs (A4 @t0 @t1 @d1 @sl) ?_
    rw [trimM_m]
  · have d1 : decide (w.head? = some 45) = false := decide_eq_false hp
    have e : trimM w = w := by
      cases w with
      | nil => rfl
      | cons c r => exact if_neg fun z => hp (by rw [z]; rfl)
    refine Rs (A3 @t0 @t1 @d1) ?_
    rw [e]
set_option maxHeartbeats 1000000 in
theorem r215 (w : List UInt8) : RCall P 215 [.str w, .str [45]] h (fun v _ => v = .str (trimM w)) := by
  refine .st2 8 T.mix T.c215 ?_;intro ts hlen t0 t1;unfold fn215
  refine Rs (A2 @t0 @t1) ?_
  refine WF.ce T.c235 (r235 T w) fun g1 => ?_
  exact Rs (A2 @t0 @t1) trivial
set_option maxHeartbeats 4000000 in
theorem g177 (Z : Txf P) (tw : Txw A) {sw : AV} {w : List UInt8} {r : List (List UInt8)} {wr : Bool} (hs : IsSl A sw 1 ((w :: r).map strRow)) (hw : w.length ≤ 4096) :
    GCall P 177 [.ptr A.length 0] (A ++ [tkB sw wr] ++ B) (fun v h' => ∃ (sw' : AV) (g : AHeap) (n : Int), v = .int .i64 n ∧ h' = A ++ [tkB sw' (wr || !sigOk w)] ++ (B ++ g) ∧ IsSl A sw' 1 (r.map strRow) ∧ (sigOk w = true → n = sigN w)) := by
  refine .of T.mix T.c177 ?_
  obtain ⟨ts, hts⟩ : ∃ ts, ts = startTS 49 [.ptr A.length 0] := ⟨_, rfl⟩
  have hlen : ts.length = 49 := by rw [hts]; rfl
  have t0 : slot ts 0 = .ptr A.length 0 := by rw [hts]; rfl
  unfold fn177
  show WC P inFn _ [] (startTS 49 [.ptr A.length 0]) (A ++ [tkB sw wr] ++ B) _
  rw [← hts]
  clear hts
  unfold tkB
  have c0 := hs.one
  have ix := hs.ix0 (kk := .i64) (by simp)
  have ld : ∀ {k : AHeap}, Ext A k → loadF none (elp sw 1 0) (fun b => k[b]?) = some (.str w, .keep) := fun {k} e => hs.l1m (i := 0) (by simp) rfl e
  have hbn : bnds (some (AV.int .i64 1)) none (w :: r).length = some (1, (w :: r).length) := bnds_lo (k := 1) (by simp)
  obtain ⟨s', es', hs'⟩ := hs.slm hbn
  have et : List.take ((w :: r).length - 1) (List.drop 1 (w :: r)) = r := by simp
  rw [et] at hs'
  have c1 := hs'.one
  refine Rs (A6 @t0 @ix @ld @es' @c0 @c1) ?_
  have e1 : Ext A (A ++ [ABlk.cells [s', AV.bool wr] true false] ++ B) := Xx
  refine WF.res T.c214 (Z.atoi (tw.ext e1) hw) ?_
  rintro _ g1 ⟨n, ⟨ha, rfl⟩ | ⟨ha, rfl⟩⟩
  · have hn := sig_num ha
    cases wr with
    | true =>
      refine Rs (A3 @t0 @c1 @Bool.true_or) ?_
      exact ⟨s', g1, n, rfl, by rw [List.append_assoc], hs', hn⟩
    | false =>
      refine Rs (A3 @t0 @c1 @nil_t) ?_
      refine WF.ce T.c215 (r215 T w) fun g2 => ?_
      by_cases h9 : 9 < (trimM w).length
      · have d1 : decide ((9 : Int) < (((trimM w).length : Nat) : Int)) = true := decide_eq_true (by omega)
        have hf : sigOk w = false := by
          cases hq : sigOk w with
          | false => rfl
          | true => have := (sig_back hq).2.1; omega
        refine Rs (A3 @t0 @c1 @d1) ?_
        exact ⟨s', g1 ++ g2, n, rfl, by rw [hf, Bool.not_false, Bool.or_true]; simp only [List.append_assoc], hs', hn⟩
      · have d1 : decide ((9 : Int) < (((trimM w).length : Nat) : Int)) = false := decide_eq_false (by omega)
        have ab := Lib.atoiAll_bounds ha
        refine Rs (A3 @t0 @c1 @d1) ?_
        refine WF.ce T.c175 (Z.itoa ab.1 ab.2 (tw.ext (e1.trans Xx))) fun g3 => ?_
        by_cases hq : Lib.itoa n = w
        · have d2 : decide (Lib.itoa n ≠ w) = false := decide_eq_false fun z => z hq
          have hf := (sig_of hq (by omega)).1
          refine Rs (A3 @t0 @c1 @d2) ?_
          exact ⟨s', g1 ++ g2 ++ g3, n, rfl, by rw [hf, Bool.not_true, Bool.or_false]; simp only [List.append_assoc], hs', hn⟩
        · have d2 : decide (Lib.itoa n ≠ w) = true := decide_eq_true hq
          have hf : sigOk w = false := by
            cases hq2 : sigOk w with
            | false => rfl
            | true => exact absurd (by rw [hn hq2]; exact (sig_back hq2).1) hq
          refine Rs (A3 @t0 @c1 @d2) ?_
          exact ⟨s', g1 ++ g2 ++ g3, n, rfl, by rw [hf, Bool.not_false, Bool.or_true]; simp only [List.append_assoc], hs', hn⟩
  · have hf := sig_bad ha
    cases wr with
    | true =>
      refine Rs (A3 @t0 @c1 @Bool.true_or) ?_
      exact ⟨s', g1, n, rfl, by rw [List.append_assoc], hs', fun q => by rw [hf] at q; cases q⟩
    | false =>
      refine Rs (A3 @t0 @c1 @nil_s) ?_
      exact ⟨s', g1, n, rfl, by rw [hf, Bool.not_false, Bool.or_true, List.append_assoc], hs', fun q => by rw [hf] at q; cases q⟩
end
end Go.Abs
namespace Go.Abs

theorem tk_set {A g : AHeap} {X Y : ABlk} : (A ++ [X] ++ g).set A.length Y = A ++ [Y] ++ g := by
  rw [List.append_assoc, List.set_append_right _ _ (Nat.le_refl _), Nat.sub_self, List.append_assoc]; rfl
theorem all_snoc {don : List (List UInt8)} {w : List UInt8} : (don ++ [w]).all sigOk = (don.all sigOk && sigOk w) := by simp
theorem parE_long {s : List UInt8} (h : 4096 < s.length) : parE s = 26 := if_pos h
theorem parE_of {s : List UInt8} (h : ¬ 4096 < s.length) : parE s = if (splitB 32 s).all sigOk = true then chkTp (parL s) else 25 := if_neg h
theorem joinB_snoc {c : UInt8} {w : List UInt8} : ∀ {ws : List (List UInt8)}, ws ≠ [] → joinB c (ws ++ [w]) = joinB c ws ++ c :: w
  | [], h => absurd rfl h
  | [x], _ => by
    rw [List.singleton_append, joinB_cons (by simp)]; rfl
  | x :: y :: r, _ => by
    rw [List.cons_append, joinB_cons (p := x) (r := y :: r ++ [w]) (by simp), joinB_snoc (ws := y :: r) (by simp), joinB_cons (p := x) (r := y :: r) (by simp), List.append_assoc, List.cons_append]
set_option maxRecDepth 10000
attribute [local irreducible] WP WC WE WB WR WF WL WG WRg WQ
section
variable {P : Program} (T : Tbl P) (X : Xtn P) {h : AHeap}
include T
include X in
set_option maxHeartbeats 8000000 in
theorem r99 (Z : Txf P) (tw : Txw h) (s : List UInt8) (hs : s.length ≤ 2 ^ 40) : RCall P 99 [.str s] h (fun v h' => ∃ (t : AV) (e : Int), v = .tup [t, .int .i64 e] ∧ ListS h' (parE s) (parL s) t e) := by
  refine .st1 43 T.mix T.c99 ?_;intro ts hlen t0;unfold fn99
  by_cases h4 : 4096 < s.length
  · have d1 : decide ((4096 : Int) < ((s.length : Nat) : Int)) = true := decide_eq_true (by omega)
    refine Rs (A2 @t0 @d1) ?_
    exact ⟨.nilSlice, 26, rfl, by unfold ListS; rw [parE_long h4]; exact ⟨rfl, rfl⟩⟩
  have d1 : decide ((4096 : Int) < ((s.length : Nat) : Int)) = false := decide_eq_false (by omega)
  refine Rs (A2 @t0 @d1) ?_
  refine WF.res T.c176 (r176 T X s 32 hs) ?_
  intro sv g1 hsv
  have c0 := hsv.one
  have bx : ∀ {N : Nat}, boxF (.agg [sv, .bool false]) N = some (.ptr N 0, .push (.cells [sv, .bool false] true false)) := fun {N} => by
    unfold boxF
    rw [if_pos (by show ([sv, AV.bool false] : List AV).all AV.one = true; simp only [List.all_cons, List.all_nil, c0]; rfl)]
    rfl
  have bd : fillA [.nilSlice, .bool false] [(0, 1, sv)] = some [sv, .bool false] := by
    unfold fillA
    rw [hsv.cells, if_pos ⟨rfl, by decide⟩]
    rfl
  have eA : Ext h (h ++ g1) := Xx
  refine Rs (A4 @t0 @c0 @bd @bx) ?_
  obtain ⟨A, hA⟩ : ∃ A, A = h ++ g1 := ⟨_, rfl⟩
  rw [← hA] at hsv eA ⊢
  clear hA bx bd
  have twA := tw.ext eA
  have hwl : ∀ w ∈ splitB 32 s, w.length ≤ 4096 := fun w hw => by have := splitB_le w hw; omega
  have hsl : (splitB 32 s).length ≤ 4097 := by
    rw [splitB_len]
    have := List.count_le_length (a := (32 : UInt8)) (l := s)
    omega
  refine WL.inv T.mix (fun n ts K => ∃ (don rest : List (List UInt8)) (sw t : AV) (g : AHeap) (N : List Int), splitB 32 s = don ++ rest ∧ n = rest.length ∧ K = A ++ [tkB sw (!don.all sigOk)] ++ g ∧ IsSl A sw 1 (rest.map strRow) ∧ Fr (A.length + 1) K t 1 (N.map intRow) ∧ N.length = don.length ∧ (don.all sigOk = true → N = don.map sigN) ∧ ts.length = 43 ∧ slot ts 4 = .ptr A.length 0 ∧ slot ts 5 = .func (.func 177) [.ptr A.length 0] [] ∧ slot ts 6 = t) (splitB 32 s).length
    ⟨[], splitB 32 s, sv, .nilSlice, [], [], rfl, rfl, by unfold tkB; simp, hsv, .nil, rfl, fun _ => rfl, Sn, Sw, Sw, Sw⟩ ?_
  clear hlen t0
  rintro _ ts _ ⟨don, rest, sw, t, g, N, hsp, rfl, rfl, hsw, hfr, hNl, hN, hlen, t4, t5, t6⟩
  have ot := hfr.isSl.one
  have lsw := fun G => hsw.lenm G
  cases rest with
  | nil =>
    rw [List.append_nil] at hsp
    have d2 : decide ((0 : Int) < ((([] : List (List UInt8)).length : Nat) : Int)) = false := rfl
    have hNs : N.length < 2 ^ 40 := by rw [hNl, ← hsp]; omega
    unfold tkB at hfr ⊢
    refine Rs (A5 @t4 @t5 @t6 @lsw @d2) ?_
    refine WF.ce T.c117 (r117 T _ _) fun g2 => ?_
    refine Rs (A3 @t4 @t5 @t6) ?_
    refine WF.ce T.c34 (r34 T (hfr.isSl.ext Xx) hNs) fun g3 => ?_
    refine Rs (A3 @t4 @t5 @t6) ?_
    refine WF.ce T.c116 (r116 T (isSl_ints [_, _]) (by simp)) fun g4 => ?_
    have eE : Ext h (A ++ [ABlk.cells [sw, AV.bool !don.all sigOk] true false] ++ g) := eA.trans Xx
    have hE : firstS [whenS (!don.all sigOk) 25, chkTp N] = parE s := by
      rw [parE_of h4, hsp]
      cases hd : don.all sigOk with
      | false => rfl
      | true =>
        rw [hN hd, if_pos rfl]
        show (if (0 : Int) = 0 then (if chkTp _ = 0 then 0 else chkTp _) else 0) = chkTp (parL s)
        rw [if_pos rfl, show parL s = don.map sigN by unfold parL; rw [hsp]]
        by_cases q : chkTp (don.map sigN) = 0
        · rw [if_pos q, q]
        · rw [if_neg q]
    rw [hE]
    by_cases hz : parE s = 0
    case neg =>
      have d3 : decide (parE s ≠ 0) = true := decide_eq_true hz
      refine Rs (A4 @t4 @t5 @t6 @d3) ?_
      exact ⟨eE.trans Xx, .nilSlice, _, rfl, by unfold ListS; rw [if_pos hz]; exact ⟨rfl, rfl⟩⟩
    have d3 : decide (parE s ≠ 0) = false := decide_eq_false fun z => z hz
    have hd : don.all sigOk = true := by
      rw [parE_of h4, hsp] at hz
      cases hd : don.all sigOk with
      | true => rfl
      | false => rw [hd] at hz; cases hz
    have hNp : N = parL s := by rw [hN hd]; unfold parL; rw [hsp]
    refine Rs (A4 @t4 @t5 @t6 @d3) ?_
    exact ⟨eE.trans Xx, t, 0, rfl, by unfold ListS; rw [if_neg (fun z => z hz), ← hNp]; exact ⟨hfr.isSl.ext Xx, rfl⟩⟩
  | cons w r =>
    have d2 : decide ((0 : Int) < (((w :: r).length : Nat) : Int)) = true := decide_eq_true (by simp only [List.length_cons]; omega)
    have hwm : w ∈ splitB 32 s := by rw [hsp]; simp
    unfold tkB at hfr ⊢
    refine Rs (A5 @t4 @t5 @t6 @lsw @d2) ?_
    have hg := g177 T (B := g) (wr := !don.all sigOk) Z twA hsw (hwl w hwm)
    unfold tkB at hg
    refine WF.gen (a := [.ptr A.length 0]) (c := []) T.c177 hg ?_
    rintro _ _ ⟨sw', g', n, rfl, rfl, hsw', hn⟩
    obtain ⟨C, hC⟩ : ∃ C, C = A ++ [ABlk.cells [sw', AV.bool (!don.all sigOk || !sigOk w)] true false] := ⟨_, rfl⟩
    have hCl : C.length = A.length + 1 := by rw [hC]; simp
    have hfr2 : Fr C.length (C ++ (g ++ g')) t 1 (N.map intRow) := by
      have := (hfr.setn (X := ABlk.cells [sw', AV.bool (!don.all sigOk || !sigOk w)] true false) (hfr.notB (b := A.length) (by omega))).app g'
      rw [tk_set] at this
      rw [hCl, hC, ← List.append_assoc]
      exact this
    rw [← hC]
    have bs : ∀ {N : Nat}, bslF 1 1 (fillA [.int .i64 0] [(0, 1, .int .i64 n)]) N = some (.slice N 0 1 1, .push (.cells [.int .i64 n] true true)) := fun {N} => rfl
    refine Rs (A5 @t4 @t5 @t6 @ot @bs) ?_
    refine WR.appR (B := C) (cs := N.map intRow) (z := intRow n) hfr2 rfl ⟨_, rfl⟩ (by decide) (by
      rw [List.length_map, hNl]
      have : (splitB 32 s).length = don.length + (w :: r).length := by rw [hsp, List.length_append]
      simp only [List.length_cons] at this
      omega) ?_
    rintro _ s' ⟨g5, rfl⟩ hff q5
    have hrow : N.map intRow ++ [intRow n] = (N ++ [n]).map intRow := by rw [List.map_append]; rfl
    rw [hrow, hCl] at hff
    have hK : C ++ g5 = A ++ [tkB sw' (!(don ++ [w]).all sigOk)] ++ g5 := by
      rw [hC, all_snoc, Bool.not_and]; rfl
    rw [hK] at hff
    rw [hK]
    refine Rs (A4 @t4 @t5 @t6 @q5) ?_
    refine ⟨r.length, by simp, don ++ [w], r, sw', s', g5, N ++ [n], by rw [hsp, List.append_assoc]; rfl, rfl, rfl, hsw', hff, by simp [hNl], fun q => ?_, rfl⟩
    rw [all_snoc, Bool.and_eq_true] at q
    rw [hN q.1, hn q.2, List.map_append]
    rfl
set_option maxHeartbeats 4000000 in
theorem r100 {s : AV} {l : List Int} (hs : IsSl h s 1 (l.map intRow)) (hz : chkTp l = 0) : RCall P 100 [s] h (fun v _ => v = .str (txS l)) := by
  refine .st1 24 T.mix T.c100 ?_;intro ts hlen t0;unfold fn100
  have ok := chkTp_z hz
  have l1 := ok.l1
  have l2 := ok.l2
  have bd : ∀ n ∈ l, -1000000000 < n ∧ n < 1000000000 := fun n hn => by have := ok.r n hn; omega
  have ix := hs.ix0 (kk := .i64) l1
  obtain ⟨a, ha⟩ : ∃ a, a = l[0] := ⟨_, rfl⟩
  have hab := ok.r a (by rw [ha]; exact List.getElem_mem _)
  have ld : ∀ {kk : AHeap}, Ext h kk → loadF none (elp s 1 0) (fun b => kk[b]?) = some (.int .i64 a, .keep) := fun {kk} e => by rw [ha]; exact hs.l1m (i := 0) l1 rfl e
  refine Rs (A3 @t0 @ix @ld) ?_
  refine WF.ce T.c178 (r178 T (n := a) (by omega)) fun g1 => ?_
  refine Rs @t0 ?_
  refine WL.inv T.mix (fun n ts K => ∃ (k : Nat), 1 ≤ k ∧ k ≤ l.length ∧ n = l.length - k ∧ Ext h K ∧ ts.length = 24 ∧ slot ts 0 = s ∧ slot ts 3 = .str (txS (l.take k)) ∧ slot ts 4 = .int .i64 k) (l.length - 1)
    ⟨1, by omega, by omega, rfl, Xx, Sn, (Sq @t0), (by
      have e : txS (l.take 1) = Lib.itoa a := by
        rw [ha]
        cases l with
        | nil => simp at l1
        | cons a r => rfl
      rw [e]; exact Zn trivial), Swr⟩ ?_
  clear hlen t0
  rintro _ ts K ⟨k, hk1, hk, rfl, eK, hlen, t0, t3, t4⟩
  by_cases hlt : k < l.length
  case neg =>
    have e3 := dltF hlt
    have e4 : k = l.length := by omega
    rw [e4, List.take_length] at t3
    refine Rs (A5 @t0 @t3 @t4 hs.lenm @e3) ?_
    exact ⟨eK, trivial⟩
  have e3 := dltT hlt
  have e5 := wrapN (n := k) (by omega)
  have hsK := hs.ext eK
  obtain ⟨z, hz'⟩ : ∃ z, z = l[k] := ⟨_, rfl⟩
  have hzb := ok.r z (by rw [hz']; exact List.getElem_mem _)
  have ixk := hsK.ixm (kk := .i64) hlt
  have ldk : ∀ {kk : AHeap}, Ext K kk → loadF none (elp s 1 k) (fun b => kk[b]?) = some (.int .i64 z, .keep) := fun {kk} e => by rw [hz']; exact hsK.l1m hlt rfl e
  have tl := tx_len (l := l.take k) (fun n hn => bd n (List.mem_of_mem_take hn))
  have htl : (l.take k).length ≤ 8 := by rw [List.length_take]; omega
  have il := (itoa_len (n := z) (by omega)).1
  have b1 : binK .add (.str (txS (l.take k))) (.str [32]) = some (.str (txS (l.take k) ++ [32])) := bin_cat (by simp; omega)
  have b2 : binK .add (.str (txS (l.take k) ++ [32])) (.str (Lib.itoa z)) = some (.str (txS (l.take k) ++ [32] ++ Lib.itoa z)) := bin_cat (by simp; omega)
  have hst : txS (l.take k) ++ [32] ++ Lib.itoa z = txS (l.take (k + 1)) := by
    have hne : (l.take k).map Lib.itoa ≠ [] := by
      intro z
      have := congrArg List.length z
      rw [List.length_map, List.length_take] at this
      simp only [List.length_nil] at this
      omega
    unfold txS
    rw [List.take_succ_eq_append_getElem hlt, List.map_append]
    show _ = joinB 32 ((l.take k).map Lib.itoa ++ [Lib.itoa l[k]])
    rw [← hz', joinB_snoc hne, List.append_assoc]; rfl
  rw [hst] at b2
  refine Rs (A8 @t0 @t3 @t4 hs.lenm @e3 @b1 @ixk @ldk) ?_
  refine WF.ce T.c178 (r178 T (n := z) (by omega)) fun g2 => ?_
  refine Rs (A5 @t0 @t3 @t4 @b2 @e5) ?_
  exact ⟨l.length - (k + 1), by omega, k + 1, by omega, by omega, rfl, eK.trans Xx, rfl, rfl⟩
set_option maxHeartbeats 4000000 in
theorem r101 (s : List UInt8) (hs : s.length ≤ 2 ^ 40) : RCall P 101 [.str s] h (fun v h' => ∃ (t : AV), v = .tup [t, .int .i64 (parE s)] ∧ t.one = true ∧ (parE s = 0 → IsSl h' t 1 ((parL s).map intRow))) := by
  refine .st1 41 T.mix T.c101 ?_;intro ts hlen t0;unfold fn101
  by_cases h4 : 4096 < s.length
  · have d1 : decide ((4096 : Int) < ((s.length : Nat) : Int)) = true := decide_eq_true (by omega)
    refine Rs (A2 @t0 @d1) ?_
    exact ⟨.nilSlice, by rw [parE_long h4], rfl, fun q => by rw [parE_long h4] at q; cases q⟩
  have d1 : decide ((4096 : Int) < ((s.length : Nat) : Int)) = false := decide_eq_false (by omega)
  refine Rs (A2 @t0 @d1) ?_
  refine WF.res T.c103 (r103 T s 32 hs) ?_
  intro sv g1 fsv
  have hsv := fsv.isSl
  have c0 := hsv.one
  have hsl : (splitB 32 s).length ≤ 4097 := by
    rw [splitB_len]
    have := List.count_le_length (a := (32 : UInt8)) (l := s)
    omega
  obtain ⟨ws, hws⟩ : ∃ ws, ws = splitB 32 s := ⟨_, rfl⟩
  have hpL : parL s = ws.map sigN := by unfold parL; rw [hws]
  have hpE := parE_of h4
  rw [← hws] at hsv hsl hpE
  have eA : Ext h (h ++ g1) := Xx
  refine Rs (A2 @t0 @c0) ?_
  refine WL.inv T.mix (fun n ts K => ∃ (k : Nat) (t : AV), k ≤ ws.length ∧ n = ws.length - k ∧ Ext (h ++ g1) K ∧ Fr (h ++ g1).length K t 1 (((ws.take k).map sigN).map intRow) ∧ (ws.take k).all sigOk = true ∧ ts.length = 41 ∧ slot ts 4 = sv ∧ slot ts 5 = t ∧ slot ts 6 = .int .i64 k) ws.length
    ⟨0, .nilSlice, by omega, rfl, .refl _, .nil, rfl, Sn, Sw, Sw, Swr⟩ ?_
  clear hlen t0
  rintro _ ts K ⟨k, t, hk, rfl, eK, hfr, hall, hlen, t4, t5, t6⟩
  have hsK := hsv.ext eK
  have ot := hfr.isSl.one
  have lw := fun G => hsv.lenm G
  by_cases hlt : k < ws.length
  case neg =>
    have e3 := dltF hlt
    have e4 : k = ws.length := by omega
    rw [e4, List.take_length] at hfr hall
    rw [hall, if_pos rfl] at hpE
    refine Rs (A5 @t4 @t5 @t6 @lw @e3) ?_
    refine WF.ce T.c26 (r26 T hfr.isSl (by rw [List.length_map]; omega)) fun g2 => ?_
    have hE : chkTp (ws.map sigN) = parE s := by rw [hpE, hpL]
    rw [hE]
    by_cases hz : parE s = 0
    · have d2 : decide (parE s ≠ 0) = false := decide_eq_false fun z => z hz
      refine Rs (A4 @t4 @t5 @t6 @d2) ?_
      exact ⟨(eA.trans eK).trans Xx, t, by rw [hz], ot, fun _ => by rw [hpL]; exact hfr.isSl.ext Xx⟩
    · have d2 : decide (parE s ≠ 0) = true := decide_eq_true hz
      refine Rs (A4 @t4 @t5 @t6 @d2) ?_
      exact ⟨(eA.trans eK).trans Xx, .nilSlice, rfl, rfl, fun q => absurd q hz⟩
  have e3 := dltT hlt
  have e5 := wrapN (n := k) (by omega)
  have ix := hsK.ixm (kk := .i64) hlt
  obtain ⟨w, hw⟩ : ∃ w, w = ws[k] := ⟨_, rfl⟩
  have ld : ∀ {kk : AHeap}, Ext K kk → loadF none (elp sv 1 k) (fun b => kk[b]?) = some (.str w, .keep) := fun {kk} e => by rw [hw]; exact hsK.l1m hlt rfl e
  have htk : ws.take (k + 1) = ws.take k ++ [w] := by rw [hw]; exact List.take_succ_eq_append_getElem hlt
  have hmem : w ∈ ws := by rw [hw]; exact List.getElem_mem _
  refine Rs (A7 @t4 @t5 @t6 @lw @e3 @ix @ld) ?_
  refine WF.res T.c179 (r179 T w) ?_
  rintro _ g2 ⟨n, rfl, hn⟩
  cases hq : sigOk w with
  | false =>
    have hf : ws.all sigOk = false := by rw [List.all_eq_false]; exact ⟨w, hmem, by simp [hq]⟩
    have hE : parE s = 25 := by rw [hpE, hf]; rfl
    refine Rs (A4 @t4 @t5 @t6 @Bool.not_false) ?_
    exact ⟨(eA.trans eK).trans Xx, .nilSlice, by rw [hE], rfl, fun q => by rw [hE] at q; cases q⟩
  | true =>
    have bs : ∀ {N : Nat}, bslF 1 1 (fillA [.int .i64 0] [(0, 1, .int .i64 n)]) N = some (.slice N 0 1 1, .push (.cells [.int .i64 n] true true)) := fun {N} => rfl
    refine Rs (A6 @t4 @t5 @t6 @Bool.not_true @ot @bs) ?_
    refine WR.appR (B := h ++ g1) (cs := ((ws.take k).map sigN).map intRow) (z := intRow n) (hfr.app _) rfl (eK.trans Xx) (by decide) (by rw [List.length_map, List.length_map, List.length_take]; omega) ?_
    intro W5 s' x5 hff q5
    have hrow : ((ws.take k).map sigN).map intRow ++ [intRow n] = ((ws.take (k + 1)).map sigN).map intRow := by rw [htk, List.map_append, List.map_append, hn hq]; rfl
    rw [hrow] at hff
    refine Rs (A5 @t4 @t5 @t6 @q5 @e5) ?_
    exact ⟨ws.length - (k + 1), by omega, k + 1, s', by omega, rfl, x5, hff, by rw [htk, List.all_append, hall]; simp [hq], rfl, rfl⟩
end
end Go.Abs
namespace Go.Abs
theorem par_zero {s : List UInt8} (h : parE s = 0) : (splitB 32 s).all sigOk = true ∧ chkTp (parL s) = 0 := by
  by_cases h4 : 4096 < s.length
  · rw [parE_long h4] at h; cases h
  · rw [parE_of h4] at h
    by_cases ha : (splitB 32 s).all sigOk = true
    · rw [if_pos ha] at h; exact ⟨ha, h⟩
    · rw [if_neg ha] at h; cases h
theorem back_par {l : List Int} (hz : chkTp l = 0) : parE (txS l) = 0 ∧ parL (txS l) = l := by
  have ok := chkTp_z hz
  have l1 := ok.l1
  have l2 := ok.l2
  have bd : ∀ n ∈ l, -1000000000 < n ∧ n < 1000000000 := fun n hn => by have := ok.r n hn; omega
  have hne : l ≠ [] := fun z => by rw [z] at l1; simp at l1
  have tl := tx_len bd
  obtain ⟨q1, q2⟩ := sig_list bd
  have hp : parL (txS l) = l := by unfold parL; rw [split_tx hne, q2]
  refine ⟨?_, hp⟩
  rw [parE_of (by omega), split_tx hne, if_pos q1, hp, hz]
theorem back_len {l : List Int} (hz : chkTp l = 0) : (splitB 32 (txS l)).length = l.length ∧ (txS l).length ≤ 88 := by
  have ok := chkTp_z hz
  have l1 := ok.l1
  have l2 := ok.l2
  have bd : ∀ n ∈ l, -1000000000 < n ∧ n < 1000000000 := fun n hn => by have := ok.r n hn; omega
  have hne : l ≠ [] := fun z => by rw [z] at l1; simp at l1
  have tl := tx_len bd
  rw [split_tx hne, List.length_map]
  omega
theorem parL_len (s : List UInt8) : (parL s).length ≤ s.length + 1 := by
  unfold parL
  rw [List.length_map, splitB_len]
  have := List.count_le_length (a := (32 : UInt8)) (l := s)
  omega
theorem list_one {k : AHeap} {bad : Int} {want : List Int} {t : AV} {e : Int} (x : ListS k bad want t e) : t.one = true := by
  unfold ListS at x
  split at x
  · rw [x.1]; rfl
  · exact x.1.one
end Go.Abs
namespace Go.Abs

def xtC : ICode := match (fn15).body with
  | .seq _ (.seq _ c) => c
  | c => c
set_option maxRecDepth 10000
attribute [local irreducible] WP WC WE WB WR WF WL WG WRg WQ
section
variable {P : Program} (T : Tbl P) {h Y : AHeap} {ts : TS} {s : AV} {l : List Int} {x : List UInt8}
include T
set_option maxHeartbeats 4000000 in
theorem xt_C (X : Xtn P) (Z : Txf P) (tw : Txw Y) (hs : IsSl Y s 1 (l.map intRow)) (hl : l.length ≤ 9) (hx : x.length ≤ 4097) (hlen : ts.length = 68) (t0 : slot ts 0 = s) (t1 : slot ts 1 = .str x) (e0 : Ext h Y) :
    WC P inFn xtC [] ts Y (FQ [(4, none)] fun v k => Ext h k ∧ v = .bool true) := by
  unfold xtC fn15
  dsimp only
  have pl := parL_len x
  refine Rs (A2 @t0 @t1) ?_
  refine WF.res T.c21 (r21 T hs (by omega)) ?_
  intro sl g1 isl
  have pr := r98 T Z (tw.ext (show Ext Y (Y ++ g1) from Xx)) isl (by omega)
  by_cases hz : chkTp l = 0
  · have d1 : decide (chkTp l = 0) = true := decide_eq_true hz
    rw [if_pos hz] at pr
    refine Rs (A2 @t0 @t1) ?_
    refine WF.ce T.c98 pr fun g2 => ?_
    refine Rs (A2 @t0 @t1) ?_
    refine WF.res T.c99 (r99 T X Z (tw.ext Xx) x (by omega)) ?_
    rintro _ g3 ⟨t7, e8, rfl, h7⟩
    have o7 := list_one h7
    refine Rs (A3 @t0 @t1 @o7) ?_
    refine WF.ce T.c26 (r26 T (hs.ext Xx) (by omega)) fun g4 => ?_
    refine Rs (A4 @t0 @t1 @o7 @d1) ?_
    refine WF.ce T.c100 (r100 T (hs.ext Xx) hz) fun g5 => ?_
    refine Rs (A3 @t0 @t1 @o7) ?_
    refine WF.res T.c101 (r101 T x (by omega)) ?_
    rintro _ g6 ⟨t11, rfl, o11, h11⟩
    refine Rs (A5 @t0 @t1 @o7 @o11 @decide_true) ?_
    refine WF.ce T.c85 (r85 T (h7.ext Xx) h11 (by omega)) fun g7 => ?_
    refine Rs (A2 @t0 @t1) ?_
    exact ⟨e0.trans Xx, trivial⟩
  · have d1 : decide (chkTp l = 0) = false := decide_eq_false hz
    rw [if_neg hz] at pr
    refine Rs (A2 @t0 @t1) ?_
    refine WF.ce T.c98 pr fun g2 => ?_
    refine Rs (A2 @t0 @t1) ?_
    refine WF.res T.c99 (r99 T X Z (tw.ext Xx) x (by omega)) ?_
    rintro _ g3 ⟨t7, e8, rfl, h7⟩
    have o7 := list_one h7
    refine Rs (A3 @t0 @t1 @o7) ?_
    refine WF.ce T.c26 (r26 T (hs.ext Xx) (by omega)) fun g4 => ?_
    refine Rs (A4 @t0 @t1 @o7 @d1) ?_
    refine WF.res T.c101 (r101 T x (by omega)) ?_
    rintro _ g6 ⟨t11, rfl, o11, h11⟩
    refine Rs (A5 @t0 @t1 @o7 @o11 @decide_true) ?_
    refine WF.ce T.c85 (r85 T (h7.ext Xx) h11 (by omega)) fun g7 => ?_
    refine Rs (A2 @t0 @t1) ?_
    exact ⟨e0.trans Xx, trivial⟩
set_option maxHeartbeats 4000000 in
theorem r15 (X : Xtn P) (Z : Txf P) (tw : Txw h) (hw : ∀ k, Ext h k → RCall P 17 [] k (fun v _ => v = .bool true)) (hs : IsSl h s 1 (l.map intRow)) (x : List UInt8) : RCall P 15 [s, .str x] h (fun v _ => v = .bool true) := by
  refine .st2 68 T.mix T.c15 ?_;intro ts hlen t0 t1;unfold fn15
  show WC P inFn (.seq _ (.seq _ xtC)) _ _ _ _
  refine Rs (A2 @t0 @t1) ?_
  refine WF.ce T.c17 (hw _ Xx) fun g1 => ?_
  refine Rs (A3 @t0 @t1 @Bool.not_true) ?_
  refine WF.ce T.c18 (r18 T (hs.ext Xx)) fun g2 => ?_
  have e2 : Ext h (h ++ g1 ++ g2) := Xx
  by_cases hl : (l.length : Int) ≤ 9
  case neg =>
    have d1 : decide ((l.length : Int) ≤ 9) = false := decide_eq_false hl
    refine Rs (A4 @t0 @t1 @d1 @Bool.not_false) ?_
    refine WF.ce T.c17 (hw _ e2) fun g3 => ?_
    exact Rs (A2 @t0 @t1) trivial
    all_goals exact ⟨e2.trans Xx, trivial⟩
  have d1 : decide ((l.length : Int) ≤ 9) = true := decide_eq_true hl
  by_cases h2 : 200 < x.length
  · have d2 : decide ((200 : Int) < ((x.length : Nat) : Int)) = true := decide_eq_true (by omega)
    by_cases h3 : x.length = 4097
    · have d3 : decide (((x.length : Nat) : Int) ≠ 4097) = false := decide_eq_false fun z => z (by omega)
      refine Rs (A6 @t0 @t1 @d1 @Bool.not_true @d2 @d3) ?_
      exact xt_C T (x := x) (s := s) (l := l) X Z (tw.ext e2) (hs.ext e2) (by omega) (by omega) Sn (Sq @t0) (Sq @t1) e2
    · have d3 : decide (((x.length : Nat) : Int) ≠ 4097) = true := decide_eq_true fun z => h3 (by omega)
      refine Rs (A6 @t0 @t1 @d1 @Bool.not_true @d2 @d3) ?_
      refine WF.ce T.c17 (hw _ e2) fun g3 => ?_
      exact Rs (A2 @t0 @t1) trivial
      all_goals exact ⟨e2.trans Xx, trivial⟩
  · have d2 : decide ((200 : Int) < ((x.length : Nat) : Int)) = false := decide_eq_false (by omega)
    refine Rs (A5 @t0 @t1 @d1 @Bool.not_true @d2) ?_
    exact xt_C T (x := x) (s := s) (l := l) X Z (tw.ext e2) (hs.ext e2) (by omega) (by omega) Sn (Sq @t0) (Sq @t1) e2
end
end Go.Abs
namespace Go.Proofs
open Go.Shelf
def Tryz.lays172_ren : Go.Shelf.Ren := ⟨fun | 172 => 214 | 244 => 233 | 245 => 234 | 247 => 261 | 279 => 262 | 280 => 263 | 281 => 264 | 282 => 265 | 287 => 284 | 316 => 285 | 171 => 175 | 205 => 286 | 321 => 294 | 322 => 295 | 243 => 212 | 246 => 229 | 283 => 253 | 284 => 254 | 285 => 255 | 286 => 256 | 129 => 246 | 317 => 275 | 318 => 276 | 319 => 277 | 320 => 278 | 337 => 290 | 338 => 291 | n => n, fun | 9 => 9 | 3 => 3 | 75 => 268 | 76 => 269 | 4 => 4 | 5 => 5 | 167 => 313 | 37 => 263 | 0 => 0 | 85 => 314 | 2 => 2 | 168 => 316 | 53 => 297 | 175 => 331 | 46 => 278 | 210 => 335 | 127 => 281 | 145 => 349 | 143 => 347 | 21 => 21 | 171 => 305 | 173 => 307 | 212 => 329 | 51 => 295 | 20 => 20 | 213 => 330 | 232 => 350 | 233 => 351 | 80 => 271 | n => n, fun | 15 => 5 | 16 => 6 | 17 => 4 | 18 => 9 | 19 => 10 | n => n⟩
theorem Tryz.lays172 : Go.Proofs.Lays.n172 Tryz.prog Tryz.lays172_ren := {
  mixed := by kernel_rfl
  f129 := Tryz.func246.trans (congrArg some (by kernel_rfl))
  f171 := Tryz.func175.trans (congrArg some (by kernel_rfl))
  f172 := Tryz.func214.trans (congrArg some (by kernel_rfl))
  f205 := Tryz.func286.trans (congrArg some (by kernel_rfl))
  f243 := Tryz.func212.trans (congrArg some (by kernel_rfl))
  f244 := Tryz.func233.trans (congrArg some (by kernel_rfl))
  f245 := Tryz.func234.trans (congrArg some (by kernel_rfl))
  f246 := Tryz.func229.trans (congrArg some (by kernel_rfl))
  f247 := Tryz.func261.trans (congrArg some (by kernel_rfl))
  f279 := Tryz.func262.trans (congrArg some (by kernel_rfl))
  f280 := Tryz.func263.trans (congrArg some (by kernel_rfl))
  f281 := Tryz.func264.trans (congrArg some (by kernel_rfl))
  f282 := Tryz.func265.trans (congrArg some (by kernel_rfl))
  f283 := Tryz.func253.trans (congrArg some (by kernel_rfl))
  f284 := Tryz.func254.trans (congrArg some (by kernel_rfl))
  f285 := Tryz.func255.trans (congrArg some (by kernel_rfl))
  f286 := Tryz.func256.trans (congrArg some (by kernel_rfl))
  f287 := Tryz.func284.trans (congrArg some (by kernel_rfl))
  f316 := Tryz.func285.trans (congrArg some (by kernel_rfl))
  f317 := Tryz.func275.trans (congrArg some (by kernel_rfl))
  f318 := Tryz.func276.trans (congrArg some (by kernel_rfl))
  f319 := Tryz.func277.trans (congrArg some (by kernel_rfl))
  f320 := Tryz.func278.trans (congrArg some (by kernel_rfl))
  f321 := Tryz.func294.trans (congrArg some (by kernel_rfl))
  f322 := Tryz.func295.trans (congrArg some (by kernel_rfl))
  f337 := Tryz.func290.trans (congrArg some (by kernel_rfl))
  f338 := Tryz.func291.trans (congrArg some (by kernel_rfl))
  t0 := Tryz.underlying0
  a0 := Tryz.isAgg0
  z0 := Tryz.sizeOf0
  v0 := Tryz.zeroValue0
  t2 := Tryz.underlying2
  a2 := Tryz.isAgg2
  z2 := Tryz.sizeOf2
  v2 := Tryz.zeroValue2
  t3 := Tryz.underlying3
  a3 := Tryz.isAgg3
  z3 := Tryz.sizeOf3
  v3 := Tryz.zeroValue3
  t4 := Tryz.underlying4
  a4 := Tryz.isAgg4
  z4 := Tryz.sizeOf4
  v4 := Tryz.zeroValue4
  t5 := Tryz.underlying5
  a5 := Tryz.isAgg5
  z5 := Tryz.sizeOf5
  v5 := Tryz.zeroValue5
  t9 := Tryz.underlying9
  a9 := Tryz.isAgg9
  z9 := Tryz.sizeOf9
  v9 := Tryz.zeroValue9
  t20 := Tryz.underlying20
  a20 := Tryz.isAgg20
  z20 := Tryz.sizeOf20
  v20 := Tryz.zeroValue20
  t21 := Tryz.underlying21
  a21 := Tryz.isAgg21
  z21 := Tryz.sizeOf21
  v21 := Tryz.zeroValue21
  t37 := Tryz.underlying263
  a37 := Tryz.isAgg263
  z37 := Tryz.sizeOf263
  v37 := Tryz.zeroValue263
  t46 := Tryz.underlying278
  a46 := Tryz.isAgg278
  z46 := Tryz.sizeOf278
  v46 := Tryz.zeroValue278
  t51 := Tryz.underlying295
  a51 := Tryz.isAgg295
  z51 := Tryz.sizeOf295
  v51 := Tryz.zeroValue295
  t53 := Tryz.underlying297
  a53 := Tryz.isAgg297
  z53 := Tryz.sizeOf297
  v53 := Tryz.zeroValue297
  t75 := Tryz.underlying268
  a75 := Tryz.isAgg268
  z75 := Tryz.sizeOf268
  v75 := Tryz.zeroValue268
  t76 := Tryz.underlying269
  a76 := Tryz.isAgg269
  z76 := Tryz.sizeOf269
  v76 := Tryz.zeroValue269
  t85 := Tryz.underlying314
  a85 := Tryz.isAgg314
  z85 := Tryz.sizeOf314
  v85 := Tryz.zeroValue314
  t127 := Tryz.underlying281
  a127 := Tryz.isAgg281
  z127 := Tryz.sizeOf281
  v127 := Tryz.zeroValue281
  t143 := Tryz.underlying347
  a143 := Tryz.isAgg347
  z143 := Tryz.sizeOf347
  v143 := Tryz.zeroValue347
  t145 := Tryz.underlying349
  a145 := Tryz.isAgg349
  z145 := Tryz.sizeOf349
  v145 := Tryz.zeroValue349
  t167 := Tryz.underlying313
  a167 := Tryz.isAgg313
  z167 := Tryz.sizeOf313
  v167 := Tryz.zeroValue313
  t168 := Tryz.underlying316
  a168 := Tryz.isAgg316
  z168 := Tryz.sizeOf316
  v168 := Tryz.zeroValue316
  t171 := Tryz.underlying305
  a171 := Tryz.isAgg305
  z171 := Tryz.sizeOf305
  v171 := Tryz.zeroValue305
  t173 := Tryz.underlying307
  a173 := Tryz.isAgg307
  z173 := Tryz.sizeOf307
  v173 := Tryz.zeroValue307
  t175 := Tryz.underlying331
  a175 := Tryz.isAgg331
  z175 := Tryz.sizeOf331
  v175 := Tryz.zeroValue331
  t210 := Tryz.underlying335
  a210 := Tryz.isAgg335
  z210 := Tryz.sizeOf335
  v210 := Tryz.zeroValue335
  t212 := Tryz.underlying329
  a212 := Tryz.isAgg329
  z212 := Tryz.sizeOf329
  v212 := Tryz.zeroValue329
  t213 := Tryz.underlying330
  a213 := Tryz.isAgg330
  z213 := Tryz.sizeOf330
  t232 := Tryz.underlying350
  a232 := Tryz.isAgg350
  z232 := Tryz.sizeOf350
  v232 := Tryz.zeroValue350
  t233 := Tryz.underlying351
  a233 := Tryz.isAgg351
  z233 := Tryz.sizeOf351
  v233 := Tryz.zeroValue351
  g15 := by kernel_rfl
  g16 := by kernel_rfl
  g17 := by kernel_rfl
  g18 := by kernel_rfl
  g19 := by kernel_rfl }

end Go.Proofs
namespace Go.Proofs
open Go.Shelf
theorem Tryz.laysC172 : Go.Proofs.LaysC.n172 Tryz.prog Tryz.lays172_ren := { Tryz.lays172 with
  t80 := Tryz.underlying271
  a80 := Tryz.isAgg271
  z80 := Tryz.sizeOf271
  v80 := Tryz.zeroValue271
  i0 := by kernel_rfl
  i2 := by kernel_rfl
  i3 := by kernel_rfl
  i4 := by kernel_rfl
  i5 := by kernel_rfl
  i9 := by kernel_rfl
  i20 := by kernel_rfl
  i21 := by kernel_rfl
  i37 := by kernel_rfl
  i46 := by kernel_rfl
  i51 := by kernel_rfl
  i53 := by kernel_rfl
  i75 := by kernel_rfl
  i76 := by kernel_rfl
  i80 := by kernel_rfl
  i85 := by kernel_rfl
  i127 := by kernel_rfl
  i143 := by kernel_rfl
  i145 := by kernel_rfl
  i167 := by kernel_rfl
  i168 := by kernel_rfl
  i171 := by kernel_rfl
  i173 := by kernel_rfl
  i175 := by kernel_rfl
  i210 := by kernel_rfl
  i212 := by kernel_rfl
  i232 := by kernel_rfl
  i233 := by kernel_rfl
  m15 := by kernel_rfl
  m16 := by kernel_rfl
  m17 := by kernel_rfl
  m18 := by kernel_rfl
  m19 := by kernel_rfl
  c0 := by kernel_rfl
  c2 := by kernel_rfl
  c3 := by kernel_rfl
  c4 := by kernel_rfl
  c5 := by kernel_rfl
  c9 := by kernel_rfl
  c20 := by kernel_rfl
  c21 := by kernel_rfl
  c37 := by kernel_rfl
  c46 := by kernel_rfl
  c51 := by kernel_rfl
  c53 := by kernel_rfl
  c75 := by kernel_rfl
  c76 := by kernel_rfl
  c80 := by kernel_rfl
  c85 := by kernel_rfl
  c127 := by kernel_rfl
  c143 := by kernel_rfl
  c145 := by kernel_rfl
  c167 := by kernel_rfl
  c168 := by kernel_rfl
  c171 := by kernel_rfl
  c173 := by kernel_rfl
  c175 := by kernel_rfl
  c210 := by kernel_rfl
  c212 := by kernel_rfl
  c213 := by kernel_rfl
  c232 := by kernel_rfl
  c233 := by kernel_rfl }

end Go.Proofs
namespace Go.Abs

open Go.RowKit in
theorem join_ok {h : AHeap} {s : AV} {sep : List UInt8} {xs : List (List UInt8)} (hs : IsSl h s 1 (xs.map fun x => [AV.str x])) (hl : (Lib.join xs sep).length ≤ 140737488355328 ∧ xs.length ≤ 140737488355328) : SCall Go.Proofs.Tryz.prog 173 [s, .str sep] h (.str (Lib.join xs sep)) h := by
  intro m w vs hr hargs
  obtain ⟨v1, vs1, rfl, hv1, hr1⟩ := VRs_cons.1 hargs
  obtain ⟨v2, vs2, rfl, hv2, hr2⟩ := VRs_cons.1 hr1
  rw [VRs_nil] at hr2
  subst hr2
  rw [VR] at hv2
  subst hv2
  have fin : ∀ e w', (e = .returned (.string ⟨(Lib.join xs sep).toArray⟩) ∧ Below w.heap.size w w') → Rel Go.Proofs.Tryz.prog m h w (.str (Lib.join xs sep)) h e w' := by
    rintro e w' ⟨rfl, hb⟩
    exact ⟨_, m, rfl, rfl, ⟨hr.dom, fun b e k h1 h2 => (hr.blk b e k h1 h2).heap (hb.block _ (hr.lt b e h1)), hr.sep, hr.glob, fun b e h1 => Nat.lt_of_lt_of_le (hr.lt b e h1) hb.size⟩,
      ⟨fun _ _ => rfl, Nat.le_refl _, fun b e h1 h2 => absurd (hr.dom b e h2) (by omega), fun _ _ h => h, hb.size, hb.os, hb.output, hb.tape, fun i hi _ => hb.block i hi⟩⟩
  have zero : xs = [] → ∀ (a : Option Addr) (c : Nat), Calls Go.Proofs.Tryz.prog 173 #[.slice a 0 c, .string ⟨⟨sep⟩⟩] w (Rel Go.Proofs.Tryz.prog m h w (.str (Lib.join xs sep)) h) := fun hx a c => by
    refine (Go.Proofs.Tryz.strings_Join_none a c ⟨⟨sep⟩⟩ w).mono fun e w' ⟨he, hw⟩ => fin e w' ⟨?_, hw ▸ Below.refl _ _⟩
    rw [he, hx]; rfl
  have hlen := hs.lenm (fun _ => none)
  cases s with
  | nilSlice =>
    rw [VR] at hv1
    subst hv1
    simp only [Go.Abs.lenG, if_true, Option.some.injEq] at hlen
    exact zero (List.length_eq_zero_iff.1 hlen.symm) none 0
  | slice b o n es =>
    simp only [Go.Abs.lenG, if_true, Option.some.injEq] at hlen
    subst hlen
    rw [VR] at hv1
    obtain ⟨ent, ca, cap, he, rfl, hcap, hca, hsz⟩ := hv1
    by_cases hz : xs.length = 0
    · have hz' := List.length_eq_zero_iff.1 hz
      have := zero hz' (some ca) cap
      rw [hz]
      exact this
    · have hca' := hca (by omega)
      subst hca'
      generalize hcs : xs.map (fun x => [AV.str x]) = cs at hs
      have hcl : cs.length = xs.length := by rw [← hcs]; simp
      obtain ⟨_, c, mu, tl, hb, hf⟩ := hs.inv
      · obtain ⟨cc, el, fz, hheap, _, hcell, _⟩ := hr.blk b ent _ he hb
        have key := Go.Proofs.Tryz.strings_Join ent.cb (o + ent.d) cap (xs.map fun l => ⟨⟨l⟩⟩) ⟨⟨sep⟩⟩ w ?_ (hr.lt b ent he) (by rw [List.length_map]; exact hl.2) (by rw [List.length_map]; omega) ?_
        · rw [List.length_map] at key
          refine key.mono fun e w' ⟨he, hw⟩ => fin e w' ⟨?_, hw⟩
          rw [he, List.map_map]
          simp [Function.comp_def]
        · intro j x hx
          rw [List.getElem?_map, Option.map_eq_some_iff] at hx
          obtain ⟨l, hl', rfl⟩ := hx
          have hj : j < xs.length := (List.getElem?_eq_some_iff.1 hl').1
          have hflat : cs.flatten[j]? = some (.str l) := by
            rw [← hcs]
            have := strs_flat xs
            rw [this, List.getElem?_map, hl']; rfl
          rw [← hf, List.getElem?_take, if_pos (by omega), List.getElem?_drop] at hflat
          obtain ⟨_, cv, hcv, hvr⟩ := hcell _ _ hflat
          rw [VR] at hvr
          subst hvr
          simp only [World.cell?, hheap, Option.isSome_none, Bool.false_eq_true, if_false]
          rw [show o + ent.d + j = ent.d + (o + j) by omega]; exact hcv
        · rw [List.map_map]
          simpa [Function.comp_def] using hl.1
  | _ => cases hs


open Go.RowKit in
/-- Worlds that are alike below the heap's end. -/
theorem rel_below {P : Program} {m : Emb} {h : AHeap} {w : World} (hr : HR P m h w) {a : AV} {v : Value} {e : Ending} {w' : World} (hv : VR m a v) (he : e = .returned v) (hb : Below w.heap.size w w') : Rel P m h w a h e w' :=
  ⟨v, m, he, hv, ⟨hr.dom, fun b e k h1 h2 => (hr.blk b e k h1 h2).heap (hb.block _ (hr.lt b e h1)), hr.sep, hr.glob, fun b e h1 => Nat.lt_of_lt_of_le (hr.lt b e h1) hb.size⟩,
    ⟨fun _ _ => rfl, Nat.le_refl _, fun b e h1 h2 => absurd (hr.dom b e h2) (by omega), fun _ _ h => h, hb.size, hb.os, hb.output, hb.tape, fun i hi _ => hb.block i hi⟩⟩
open Go.RowKit in
theorem err_cell {h : AHeap} {m : Emb} {w : World} (hr : HR Go.Proofs.Tryz.prog m h w) {b : Nat} (hb : b < 11) {mu tl : Bool} (hx : h[b]? = some (.cells [.someIfc] mu tl)) : ∃ te pe, w.cell? ⟨b, 0, none⟩ = some (.iface te pe) := by
  obtain ⟨e, he, hcb, hd, -, hsz⟩ := hr.glob b (by rw [prog_globs]; exact hb)
  obtain ⟨cc, el, fz, hw, _, hget, -, -⟩ := hr.blk b e _ he hx
  obtain ⟨_, cv, hcv, hvr⟩ := hget 0 .someIfc rfl
  rw [VR] at hvr
  obtain ⟨te, pe, rfl⟩ := hvr
  refine ⟨te, pe, ?_⟩
  rw [hcb] at hw
  rw [hd] at hcv
  simp only [World.cell?, hw, Option.isSome_none, Bool.false_eq_true, if_false]
  exact hcv
open Go.RowKit in
theorem atoi_all {h : AHeap} {s : List UInt8} (tw : Txw h) (hl : s.length ≤ 4096) : ∃ n : Int, (Lib.atoiAll s = .ok n ∧ SCall Go.Proofs.Tryz.prog 214 [.str s] h (.tup [.int .i64 n, .nilIfc]) h) ∨ ((∀ k, Lib.atoiAll s ≠ .ok k) ∧ SCall Go.Proofs.Tryz.prog 214 [.str s] h (.tup [.int .i64 n, .someIfc]) h) := by
  cases ha : Lib.atoiAll s with
  | ok n =>
    refine ⟨n, .inl ⟨rfl, ?_⟩⟩
    intro m w vs hr hargs
    obtain ⟨v, vs1, rfl, hv, hr1⟩ := VRs_cons.1 hargs
    rw [VRs_nil] at hr1
    subst hr1
    rw [VR] at hv
    subst hv
    refine (Go.Proofs.Any.strconv_Atoi_ok Go.Proofs.Tryz.laysC172 ⟨⟨s⟩⟩ (by show s.length ≤ _; omega) n ha w).mono ?_
    rintro e' w' ⟨rfl, hw⟩
    refine rel_below hr ⟨_, rfl, VRs_cons.2 ⟨_, _, rfl, rfl, VRs_cons.2 ⟨_, _, rfl, rfl, rfl⟩⟩⟩ rfl ?_
    rcases hw with rfl | ⟨t, rfl⟩
    · exact Below.refl _ _
    · exact Lib.bytesWorld_below _ _ _
  | «syntax» =>
    refine ⟨0, .inr ⟨fun k => (by simp), ?_⟩⟩
    intro m w vs hr hargs
    obtain ⟨v, vs1, rfl, hv, hr1⟩ := VRs_cons.1 hargs
    rw [VRs_nil] at hr1
    subst hr1
    rw [VR] at hv
    subst hv
    obtain ⟨mu, tl, hx⟩ := tw.s
    obtain ⟨te, pe, hc⟩ := err_cell hr (by decide) hx
    refine (Go.Proofs.Any.strconv_Atoi_syntax Go.Proofs.Tryz.laysC172 ⟨⟨s⟩⟩ (by show s.length ≤ _; omega) ha (.iface te pe) w hc (.inr ⟨te, pe, rfl⟩)).mono ?_
    rintro e' w' ⟨N, rfl, _, _, hb⟩
    exact rel_below hr ⟨_, rfl, VRs_cons.2 ⟨_, _, rfl, rfl, VRs_cons.2 ⟨_, _, rfl, ⟨_, _, rfl⟩, rfl⟩⟩⟩ rfl hb
  | range =>
    refine ⟨Lib.atoiSat s, .inr ⟨fun k => (by simp), ?_⟩⟩
    intro m w vs hr hargs
    obtain ⟨v, vs1, rfl, hv, hr1⟩ := VRs_cons.1 hargs
    rw [VRs_nil] at hr1
    subst hr1
    rw [VR] at hv
    subst hv
    obtain ⟨mu, tl, hx⟩ := tw.r
    obtain ⟨te, pe, hc⟩ := err_cell hr (by decide) hx
    refine (Go.Proofs.Any.strconv_Atoi_range Go.Proofs.Tryz.laysC172 ⟨⟨s⟩⟩ (by show s.length ≤ _; omega) ha (.iface te pe) w hc (.inr ⟨te, pe, rfl⟩)).mono ?_
    rintro e' w' ⟨N, rfl, _, _, hb⟩
    exact rel_below hr ⟨_, rfl, VRs_cons.2 ⟨_, _, rfl, rfl, VRs_cons.2 ⟨_, _, rfl, ⟨_, _, rfl⟩, rfl⟩⟩⟩ rfl hb
theorem txf : Txf Go.Proofs.Tryz.prog := by
  refine ⟨fun h0 h1 w => ?_, fun hs hl => ⟨_, [], by rw [List.append_nil]; exact join_ok hs hl, rfl⟩, fun tw hl => ?_⟩
  · obtain ⟨mu, tl, hb⟩ := w.p
    exact ⟨_, [], by rw [List.append_nil]; exact itoa_ok h0 h1 hb, rfl⟩
  · obtain ⟨n, ⟨ha, hc⟩ | ⟨ha, hc⟩⟩ := atoi_all tw hl
    · exact ⟨_, [], by rw [List.append_nil]; exact hc, n, .inl ⟨ha, rfl⟩⟩
    · exact ⟨_, [], by rw [List.append_nil]; exact hc, n, .inr ⟨ha, rfl⟩⟩
theorem xtn : Xtn Go.Proofs.Tryz.prog :=
  ⟨run_callFunc_extern Go.Proofs.Tryz.func292 (by kernel_rfl) (by kernel_rfl) (by kernel_rfl) (by kernel_rfl), run_callFunc_extern Go.Proofs.Tryz.func259 (by kernel_rfl) (by kernel_rfl) (by kernel_rfl) (by kernel_rfl)⟩
end Go.Abs
namespace Go.Abs

/-- AWAKE, wherever what it reads is laid. -/
theorem awake_ag {k : AHeap} (ag : ∀ (b : Nat) (x : ABlk), glob0[b]? = some x → x = .dead ∨ k[b]? = some x) : RCall Go.Proofs.Tryz.prog 17 [] k (fun v _ => v = .bool true) := by
  obtain ⟨g0, hs⟩ := SCall.of_run tmix tabE_ok awake_runs
  have := hs.frame2 (h := k) glob0_len glob0_clos ⟨fun _ => none, [], by simp, rfl⟩ (clos_bool true) ag
  exact ⟨_, [], by rw [List.append_nil]; exact this, rfl⟩
end Go.Abs
namespace Go.Abs

noncomputable def globT : AHeap := globL Go.Proofs.Tryz.prog Go.Proofs.YtbgldbmgjcgepaaGreatDoor.Rows.filterTextsRow.laid 11
theorem globT_4 : globT[4]? = some (.cells (Lib.pow10Tab.map (AV.int .u64)) false false) := by kernel_rfl
theorem globT_5 : globT[5]? = some (.cells [.someIfc] false false) := by kernel_rfl
theorem globT_6 : globT[6]? = some (.cells [.someIfc] false false) := by kernel_rfl
theorem globT_k0 : globT[0]? = glob0[0]? := by kernel_rfl
theorem globT_k1 : globT[1]? = glob0[1]? := by kernel_rfl
theorem globT_k2 : globT[2]? = glob0[2]? := by kernel_rfl
theorem globT_k3 : globT[3]? = glob0[3]? := by kernel_rfl
theorem globT_k4 : globT[4]? = glob0[4]? := by kernel_rfl
theorem globT_k9 : globT[9]? = glob0[9]? := by kernel_rfl
theorem globT_ka : globT[10]? = glob0[10]? := by kernel_rfl
theorem glob0_d5 : glob0[5]? = some .dead := by kernel_rfl
theorem glob0_d6 : glob0[6]? = some .dead := by kernel_rfl
theorem glob0_d7 : glob0[7]? = some .dead := by kernel_rfl
theorem glob0_d8 : glob0[8]? = some .dead := by kernel_rfl
theorem globT_ag {k : AHeap} (e : Ext globT k) (b : Nat) (x : ABlk) (hb : glob0[b]? = some x) : x = .dead ∨ k[b]? = some x := by
  have hl : b < 11 := by
    have := (List.getElem?_eq_some_iff.1 hb).1
    have h11 : glob0.length = 11 := by kernel_rfl
    omega
  have keep : globT[b]? = glob0[b]? → x = .dead ∨ k[b]? = some x := fun q => .inr (e.some (q.trans hb))
  have dead : glob0[b]? = some .dead → x = .dead ∨ k[b]? = some x := fun q => by
    rw [q] at hb
    exact .inl (Option.some.inj hb).symm
  rcases (show b = 0 ∨ b = 1 ∨ b = 2 ∨ b = 3 ∨ b = 4 ∨ b = 5 ∨ b = 6 ∨ b = 7 ∨ b = 8 ∨ b = 9 ∨ b = 10 by omega) with rfl | rfl | rfl | rfl | rfl | rfl | rfl | rfl | rfl | rfl | rfl
  · exact keep globT_k0
  · exact keep globT_k1
  · exact keep globT_k2
  · exact keep globT_k3
  · exact keep globT_k4
  · exact dead glob0_d5
  · exact dead glob0_d6
  · exact dead glob0_d7
  · exact dead glob0_d8
  · exact keep globT_k9
  · exact keep globT_ka
theorem globT_tx {k : AHeap} (e : Ext globT k) : Txw k := ⟨⟨_, _, e.some globT_4⟩, ⟨_, _, e.some globT_5⟩, ⟨_, _, e.some globT_6⟩⟩
end Go.Abs
namespace Go.Proofs.YtbgldbmgjcgepaaGreatDoor
open Go.ChangeShapes Go.WideShapes Go.RowKit Go.Abs

theorem scT_shaped (os : Os) (args : Array Value) : ((World.laidAll Tryz.prog os Rows.filterTextsRow.laid).forCall (fun _ _ => 0) ⟨#[], args, []⟩).Shaped Tryz.prog := World.shaped_of_ZipB (by kernel_rfl) (by kernel_rfl)
theorem scT_laid (os : Os) (args : Array Value) : laidMetH Tryz.prog Rows.filterTextsRow.laid ((World.laidAll Tryz.prog os Rows.filterTextsRow.laid).forCall (fun _ _ => 0) ⟨#[], args, []⟩).memory := by
  rw [MakeChecks.laidMetH_plain _ _ _ (by kernel_rfl)]
  exact laidMet_laidAll _ (by kernel_rfl) (by kernel_rfl)
end Go.Proofs.YtbgldbmgjcgepaaGreatDoor
