/- Plain: a shot less itself, delayed. No condition. · Contracts: a shot times -1: the small functions. No condition. · Contracts: the energy of a list. No condition. · Contracts, part A: errors, ranges, names. No condition. · Contracts, part B: names by runes; the checks of a horizon. No condition. · Contracts, part C: the checks of a horizon. No condition. · Contracts, part D: searches by a function; horizons of a list; ratios. No condition. · Contracts, part E: the checks of horizons of a list. No condition. · Contracts, part F: quotients in lowest terms, rounded down, rounded up. No condition. · Contracts, part G: what a valid horizon is; its ends; whether it has a place. No condition. · Contracts, part H: the time and the band of a valid horizon at a place. No condition. · Contracts, part I: bands; the program's At and Band; short horizons. No condition. · Contracts, part J: the law's copies of horizons. No condition. · Contracts, part N: the law's copies, and comparisons. No condition. · Contracts, part O: a fault. No condition. · Contracts, part K: velocities, the depths of horizons. No condition. · Contracts, part P: the reference's fault; steps. No condition. · Contracts, part Q: the reference's steps; rounding. No condition. · Contracts, part R: the common places of two horizons; a filled horizon. No condition. · Contracts, part S: the reference's filled horizon. No condition. · Contracts, part T: where a horizon crosses another one. No condition. · Contracts, part U: the reference's places and crossings; the first crossing of a list. No condition. · Contracts, part L: wells, and the factors of velocities. No condition. · Contracts, part W: where two horizons differ. No condition. · Contracts, part X: the common ground of two horizons. No condition. · The best of some shifts, in two ways. No condition. · Contracts, part Y: where two horizons differ, by the reference. No condition. · Contracts, part Z: matches. No condition. · Contracts, part AA: the match of two horizons, both ways. No condition. · Plain: picks at each second place; their bands, differences, match and common ground. No condition. · Plain: the tides' table, a spike in a trace, moved. No condition. · Contracts: a ground's parts, a horizon of picks. No condition. · An argument that is a ground of two surveys. No condition. · A fixed example, run by the interpreter, in the kernel. No condition. · A row whose last package-level variable is not laid: the world's form tells that it is there. No condition. · Closed facts on the seat's program, one declaration each. No condition. · Contracts: the picks of a survey. No condition. · Contracts: the picks of a survey, whole. No condition. · The law of two surveys: the shift. No condition. · The law of two surveys: their common ground. No condition. · The law of two surveys of one ground. No condition. -/
import Derived.Test.YtfcfelnabfaelaaDoorKl7
import Derived.Test.YtfcfelnabfaelaaDoorKl5
import Derived.Test.YtfcfelnabfaelaaDoorKl4
import Derived.Test.YtfcfelnabfaelaaDoorRows
import Derived.Test.YtfcfelnabfaelaaDoorTie
import Derived.Test.YtfcfelnabfaelaaDoorCards
set_option linter.all false
namespace Go.Abs

end Go.Abs
namespace Go.Abs

set_option maxRecDepth 10000
attribute [local irreducible] WP WC WE WB WR WF WL WG WRg WQ
section
variable {P : Program} (T : Tbl P) {h : AHeap}
include T
set_option maxHeartbeats 1000000 in
theorem r39 {b : Nat} (hb : gridE b = 0) : RCall P 39 [.flt .f32 b] h (fun v _ => v = .int .i64 (gridN b)) := by
  refine .st1 6 T.mix T.c39 ?_;intro ts hlen t0;unfold fn39
  obtain ⟨hv, hg, g1, g2⟩ := grid_num hb
  obtain ⟨hg3, hg4⟩ := grid_bd hb
  obtain ⟨p, m1, m2, hp⟩ := mul16 hv (bd_abs hg3 hg4)
  have m1 : binK .mul (.flt .f32 b) (.flt .f32 1098907648) = some (.flt .f32 p) := m1
  have hU := UU_pos
  have ht : (16 * fval b).tdiv UU = gridN b := by rw [← hg, Int.mul_tdiv_cancel _ (by omega)]
  have c3 := @num_f2i _ _ _ hp (by omega) (by omega)
  rw [ht] at c3
  exact Rs (A3 @t0 @m1 @c3) trivial
end
end Go.Abs
namespace Go.Abs

set_option maxRecDepth 10000
attribute [local irreducible] WP WC WE WB WR WF WL WG WRg WQ
section
variable {P : Program} (T : Tbl P) {h : AHeap}
include T
set_option maxHeartbeats 2000000 in
theorem r38 {s : AV} {l : List Nat} (hs : IsSl h s 1 (l.map fltR)) (hl : l.length < 2 ^ 40) {f : FuncId} {AF : AFunc} (hA : compileFn P f = some AF) {g : Nat → Int} (hf : ∀ x ∈ l, ∀ k, RCall P f [.flt .f32 x] k (fun v _ => v = .int .i64 (g x))) : RCall P 38 [s, .func (.func f) [] []] h (fun v h' => IsSl h' v 1 ((l.map g).map intRow)) := by
  refine .st2 22 T.mix T.c38 ?_;intro ts hlen t0 t1;unfold fn38
  refine Rs (A3 @t0 @t1 hs.lenm) ?_
  refine WL.inv T.mix (fun n ts K => ∃ (k : Nat) (t : AV), k ≤ l.length ∧ n = l.length - k ∧ Ext h K ∧ Fr h.length K t 1 (((l.take k).map g).map intRow) ∧ ts.length = 22 ∧ slot ts 1 = .func (.func f) [] [] ∧ slot ts 5 = t ∧ slot ts 8 = s ∧ slot ts 9 = .int .i64 l.length ∧ slot ts 10 = .int .i64 k) l.length
    ⟨0, .nilSlice, by omega, rfl, .refl _, .nil, Sn, (Sq @t1), Sw, Sw, Sw, Swr⟩ ?_
  clear hlen t0 t1
  rintro _ ts K ⟨k, t, hk, rfl, eK, hfr, hlen, t1, t5, t8, t9, t10⟩
  have hsK := hs.ext eK
  by_cases hlt : k < l.length
  case neg =>
    have e3 := dltF hlt
    have e4 : k = l.length := by omega
    rw [e4, List.take_length] at hfr
    refine Rs (A6 @t1 @t5 @t8 @t9 @t10 @e3) ?_
    exact ⟨eK, hfr.isSl⟩
  have e3 := dltT hlt
  have e5 := wrapN (n := k) (by omega)
  have ix := hsK.ixm (kk := .i64) hlt
  obtain ⟨x, hx⟩ : ∃ x, x = l[k] := ⟨_, rfl⟩
  have ld : ∀ {kk : AHeap}, Ext K kk → loadF none (elp s 1 k) (fun b => kk[b]?) = some (.flt .f32 x, .keep) := fun {kk} e => by rw [hx]; exact hsK.l1m hlt rfl e
  have hmem : x ∈ l := by rw [hx]; exact List.getElem_mem _
  have ot := hfr.isSl.one
  have htk : l.take (k + 1) = l.take k ++ [x] := by rw [hx]; exact List.take_succ_eq_append_getElem hlt
  refine Rs (A9 @t1 @t5 @t8 @t9 @t10 @e3 @ix @ld @ot) ?_
  refine WF.ce hA (hf x hmem _) fun g1 => ?_
  have bs : ∀ {N : Nat}, bslF 1 1 (fillA [.int .i64 0] [(0, 1, .int .i64 (g x))]) N = some (.slice N 0 1 1, .push (.cells [.int .i64 (g x)] true true)) := fun {N} => rfl
  refine Rs (A7 @t1 @t5 @t8 @t9 @t10 @ot @bs) ?_
  refine WR.appR (B := h) (cs := ((l.take k).map g).map intRow) (z := intRow (g x)) (hfr.app _) rfl (eK.trans ⟨_, rfl⟩) (by decide) (by rw [List.length_map, List.length_map, List.length_take]; omega) ?_
  intro W5 s' x5 hff q5
  have hrow : ((l.take k).map g).map intRow ++ [intRow (g x)] = ((l.take (k + 1)).map g).map intRow := by rw [htk, List.map_append, List.map_append]; rfl
  rw [hrow] at hff
  refine Rs (A7 @t1 @t5 @t8 @t9 @t10 @q5 @e5) ?_
  exact ⟨l.length - (k + 1), by omega, k + 1, s', by omega, rfl, x5, hff, rfl, rfl⟩
end
end Go.Abs
namespace Go.Abs

section
variable {P : Program} (T : Tbl P) {h : AHeap}
include T

theorem r45 (c : Bool) (e : Int) : RCall P 45 [.bool c, .int .i64 e] h (fun v _ => v = .int .i64 (whenS c e)) := by
  refine .of T.mix T.c45 ?_
  unfold fn45
  simp only [uset]
  cases c <;> simp only [wset] <;> rfl

theorem r44 (n lo hi : Int) : RCall P 44 [.int .i64 n, .int .i64 lo, .int .i64 hi] h (fun v _ => v = .int .i64 (rangeS n lo hi)) := by
  refine .of T.mix T.c44 ?_
  unfold fn44
  simp only [uset]
  simp +contextual only [wset, wsplit, decide_true, decide_false]
  refine ⟨fun h1 => ?_, fun h1 => ?_⟩ <;>
  · refine WF.res T.c45 (r45 T _ _) ?_
    rintro _ g rfl
    simp only [wset]
    simp [whenS, rangeS, h1]

theorem r42 {s : AV} {l : List Int} (hs : IsSl h s 1 (l.map intRow)) (hl : l.length < 2 ^ 63) : RCall P 42 [s] h (fun v _ => v = .int .i64 (firstS l)) := by
  refine .of T.mix T.c42 ?_
  unfold fn42
  simp only [uset]
  have e1 : (l.map intRow).length = l.length := by simp
  simp only [wset, hs.lenG, e1]
  refine WL.inv T.mix (fun n ts h' => ∃ k : Nat, k ≤ l.length ∧ n = l.length - k ∧ h' = h ∧ firstS l = firstS (l.drop k) ∧ ts.length = 15 ∧ slot ts 5 = s ∧ slot ts 6 = .int .i64 l.length ∧ slot ts 7 = .int .i64 k) l.length
    ⟨0, by omega, rfl, rfl, rfl, rfl, rfl, rfl, rfl⟩ ?_
  rintro _ ts _ ⟨k, hk, rfl, rfl, hf, hlen, h5, h6, h7⟩
  rw [expl ts 15 hlen]
  by_cases hlt : k < l.length
  · have hd : l.drop k = l[k] :: l.drop (k + 1) := by simp
    have e2 : (l.map intRow)[k]'(by omega) = [AV.int .i64 l[k]] := by simp
    have e3 : (k : Int) < l.length := by omega
    simp +contextual (disch := omega) only [wset, wsplit, h5, h6, h7, e3, decide_true, hs.iadr, Int.toNat_natCast, hs.load1 _ e2, wrap_in]
    refine ⟨fun h1 => ?_, fun h1 => ⟨l.length - (k + 1), by omega, k + 1, by omega, rfl, ?_, rfl⟩⟩
    · rw [hf, hd, firstS, if_neg h1]
    · rw [hf, hd, firstS, if_pos (by omega)]
  · have e3 : ¬ (k : Int) < l.length := by omega
    have e4 : k = l.length := by omega
    simp +contextual (disch := omega) only [wset, h5, h6, h7, e3, decide_false, if_true]
    rw [hf, e4, List.drop_length]; rfl

end
end Go.Abs
namespace Go.Abs

section
variable {P : Program} (T : Tbl P) {h : AHeap}
include T

end
end Go.Abs
namespace Go.Abs

abbrev Pk := Int × Int
structure Hor where
  name : List UInt8
  err : Int
  picks : List Pk
abbrev pkRow (p : Pk) : List AV := [.int .i64 p.1, .int .i64 p.2]
/-- A horizon's value, by its slice. -/
abbrev horA (H : Hor) (s : AV) : AV := .agg [.str H.name, .int .i64 H.err, s]

def chkPicksS : Int → List Pk → Int
  | _, [] => 0
  | last, p :: ps =>
    if firstS [rangeS p.1 0 255, rangeS p.2 0 100000, whenS (decide (p.1 ≤ last)) 11] = 0 then chkPicksS p.1 ps
    else firstS [rangeS p.1 0 255, rangeS p.2 0 100000, whenS (decide (p.1 ≤ last)) 11]
def headS (H : Hor) : Int := firstS [whenS (!nameS H.name) 8, rangeS H.err 0 1000, whenS (decide ((H.picks.length : Int) = 0)) 12, whenS (decide (256 < (H.picks.length : Int))) 5]
def chkHorS (H : Hor) : Int := if headS H = 0 then chkPicksS (-1) H.picks else headS H

section
variable {P : Program} (T : Tbl P) {h : AHeap}
include T

theorem r69 {H : Hor} {s : AV} (hs : IsSl h s 2 (H.picks.map pkRow)) (hl : H.picks.length < 2 ^ 63) : RCall P 69 [horA H s] h (fun v _ => v = .int .i64 (chkHorS H)) := by
  refine .of T.mix T.c69 ?_
  unfold fn69
  refine Ws hs.one ?_
  refine WF.res T.c54 (r54 T _) ?_
  rintro _ g1 rfl
  refine Wn ?_
  refine WF.res T.c45 (r45 T _ _) ?_
  rintro _ g2 rfl
  refine Wn ?_
  refine WF.res T.c44 (r44 T _ _ _) ?_
  rintro _ g3 rfl
  refine Ws hs.lenm ?_
  refine WF.res T.c45 (r45 T _ _) ?_
  rintro _ g4 rfl
  refine Ws hs.lenm ?_
  refine WF.res T.c45 (r45 T _ _) ?_
  rintro _ g5 rfl
  refine Wn ?_
  refine WF.res T.c42 (r42 T (isSl_ints [_, _, _, _]) (by simp)) ?_
  rintro _ g6 rfl
  refine Ws (A2 @wsplit hs.lenm) ?_
  refine ⟨fun h1 => congrArg (AV.int .i64) (if_neg (show ¬ headS H = 0 from h1)).symm, fun h1 => ?_⟩
  have key : chkHorS H = chkPicksS (-1) H.picks := if_pos (show headS H = 0 from Decidable.of_not_not h1)
  refine WL.inv T.mix (fun n ts h' => ∃ (k : Nat) (last : Int) (g : AHeap), k ≤ H.picks.length ∧ n = H.picks.length - k ∧ h' = h ++ [.cells [.str H.name, .int .i64 H.err, s] true false] ++ g ∧ chkHorS H = chkPicksS last (H.picks.drop k) ∧ ts.length = 57 ∧ slot ts 1 = .ptr h.length 0 ∧ slot ts 32 = s ∧ slot ts 33 = .int .i64 H.picks.length ∧ slot ts 34 = .int .i64 k ∧ slot ts 4 = .int .i64 last) H.picks.length
    ⟨0, -1, g1 ++ g2 ++ g3 ++ g4 ++ g5 ++ _ ++ g6, by omega, rfl, by simp only [List.append_assoc]; rfl, key, rfl, rfl, rfl, rfl, rfl, rfl⟩ ?_
  rintro _ ts _ ⟨k, last, g, hk, rfl, rfl, hf, hlen, t1, t32, t33, t34, t4⟩
  rw [expl ts 57 hlen]
  by_cases hlt : k < H.picks.length
  · have hd : H.picks.drop k = H.picks[k] :: H.picks.drop (k + 1) := by simp
    have e3 : (k : Int) < H.picks.length := by omega
    simp only [wset, hset, dset, bset, Nat.reduceAdd, Nat.reduceMul, Nat.reduceLeDiff, Nat.reduceEqDiff, t1, t32, t33, t34, t4, e3, decide_true, hs.ixm hlt, hs.ldm hlt]
    refine WF.res T.c44 (r44 T _ _ _) ?_
    rintro _ g1 rfl
    refine Wn ?_
    refine WF.res T.c44 (r44 T _ _ _) ?_
    rintro _ g2 rfl
    refine Wn ?_
    refine WF.res T.c45 (r45 T _ _) ?_
    rintro _ g3 rfl
    refine Wn ?_
    refine WF.res T.c42 (r42 T (isSl_ints [_, _, _]) (by simp)) ?_
    rintro _ g4 rfl
    refine Ws (A2 @wsplit (wrapN (show k + 1 < 2 ^ 63 by omega))) ?_
    refine ⟨fun h1 => ?_, fun h1 => ⟨_, ?_, k + 1, H.picks[k].1, _, by omega, rfl, by simp only [List.append_assoc]; rfl, ?_, rfl, rfl⟩⟩
    · rw [hf, hd, chkPicksS, if_neg h1]
    · omega
    · rw [hf, hd, chkPicksS, if_pos (Decidable.of_not_not h1)]
  · have e3 : ¬ (k : Int) < H.picks.length := by omega
    have e4 : k = H.picks.length := by omega
    refine Ws (A7 @t1 @t32 @t33 @t34 @t4 @e3 @decide_false) ?_
    rw [hf, e4, List.drop_length]; rfl

end
end Go.Abs
namespace Go.Abs

/-- The index of the first element of which a test holds, or -1. -/
def idxS {α : Type} (p : α → Bool) (L : List α) : Int :=
  match L.findIdx? p with
  | some i => (i : Int)
  | none => -1

/-- A horizon of one's own slice that is not beyond all bounds. -/
structure HorOk (h : AHeap) (H : Hor) (s : AV) : Prop where
  sl : IsSl h s 2 (H.picks.map pkRow)
  len : H.picks.length < 2 ^ 63
  nm : H.name.length < 2 ^ 63
theorem HorOk.ext {h k : AHeap} {H : Hor} {s : AV} (o : HorOk h H s) (e : Ext h k) : HorOk k H s := ⟨o.sl.ext e, o.len, o.nm⟩
section
variable {P : Program} (T : Tbl P) {h : AHeap}
include T


theorem r71 {α : Type} {row : α → List AV} {L : List α} {s f : AV} (hs : IsSl h s 2 (L.map row)) (hl : L.length < 2 ^ 63) (p : α → Bool)
    (hf : ∀ x, x ∈ L → ∀ k, Ext h k → VCall P f [.agg (row x)] k (fun v _ => v = .bool (p x))) : RCall P 71 [s, f] h (fun v _ => v = .int .i64 (idxS p L)) := by
  refine .of T.mix T.c71 ?_
  unfold fn71
  refine Ws hs.lenm ?_
  refine WL.inv T.mix (fun n ts h' => ∃ k : Nat, k ≤ L.length ∧ n = L.length - k ∧ Ext h h' ∧ L.findIdx? p = ((L.drop k).findIdx? p).map (· + k) ∧ ts.length = 19 ∧ slot ts 0 = s ∧ slot ts 1 = f ∧ slot ts 7 = .int .i64 L.length ∧ slot ts 8 = .int .i64 k) L.length
    ⟨0, by omega, rfl, Ext.refl h, by simp, rfl, rfl, rfl, rfl, rfl⟩ ?_
  rintro _ ts _ ⟨k, hk, rfl, ⟨g, rfl⟩, hi, hlen, t0, t1, t7, t8⟩
  rw [expl ts 19 hlen]
  by_cases hlt : k < L.length
  · have hd : L.drop k = L[k] :: L.drop (k + 1) := by simp
    have e3 : (k : Int) < L.length := by omega
    simp only [wset, hset, dset, bset, Nat.reduceAdd, Nat.reduceMul, Nat.reduceLeDiff, Nat.reduceEqDiff, t0, t1, t7, t8, e3, decide_true, hs.ixm hlt, hs.ldm hlt]
    refine WF.val (hf L[k] (by simp) _ ⟨g, rfl⟩) ?_
    rintro _ g1 rfl
    cases hp : p L[k] with
    | true =>
      refine Ws @t8 ?_
      rw [idxS, hi, hd, List.findIdx?_cons, hp]; simp
    | false =>
      refine Ws (A2 @t8 (wrapN (show k + 1 < 2 ^ 63 by omega))) ?_
      refine ⟨_, ?_, k + 1, by omega, rfl, ?_, rfl⟩
      · omega
      · rw [hi, hd, List.findIdx?_cons, hp]
        simp only [Bool.false_eq_true, if_false, Option.map_map]
        congr 1; funext i; simp only [Function.comp]; omega
  · have e3 : ¬ (k : Int) < L.length := by omega
    have e4 : k = L.length := by omega
    refine Ws (A6 @t0 @t1 @t7 @t8 @e3 @decide_false) ?_
    rw [idxS, hi, e4, List.drop_length]; rfl


end
end Go.Abs
namespace Go.Abs

section
variable {P : Program} (T : Tbl P) {h : AHeap}
include T

end
end Go.Abs
namespace Go.Abs

abbrev ratRow (x : Int × Int) : List AV := [.int .i64 x.1, .int .i64 x.2]
abbrev ratA (x : Int × Int) : AV := .agg (ratRow x)
def lowS (n d : Nat) : Int × Int := ((n / Nat.gcd n d : Nat), (d / Nat.gcd n d : Nat))

theorem floor_eq (n d : Int) (hd : 0 < d) : n / d = if n < n.tdiv d * d then n.tdiv d - 1 else n.tdiv d := by
  have h1 := Int.mul_ediv_add_emod n d
  have h2 := Int.emod_nonneg n (by omega : d ≠ 0)
  have h3 := Int.emod_lt_of_pos n hd
  have h4 := Int.tdiv_eq_ediv (a := n) (b := d)
  have h5 : d.sign = 1 := Int.sign_eq_one_of_pos hd
  rw [h5] at h4
  have h6 : n / d * d = d * (n / d) := Int.mul_comm _ _
  split at h4
  · rename_i hc
    rw [h4, Int.add_zero, if_neg (by omega)]
  · rename_i hc
    have h7 : (n / d + 1) * d = d * (n / d) + d := by rw [Int.add_mul, Int.one_mul, h6]
    rw [h4, h7, if_pos (by omega)]; omega

theorem quo_bdR (n d : Int) (hd : 0 < d) (hn : -4611686018427387904 ≤ n ∧ n ≤ 4611686018427387904) : -4611686018427387904 ≤ n.tdiv d ∧ n.tdiv d ≤ 4611686018427387904 := by
  have h : (n.tdiv d).natAbs = n.natAbs / d.natAbs := Int.natAbs_tdiv n d
  have h2 : n.natAbs / d.natAbs ≤ n.natAbs := Nat.div_le_self _ _
  omega

theorem quo_mul (n d : Int) (hd : 0 < d) : -n.natAbs ≤ n.tdiv d * d ∧ n.tdiv d * d ≤ n.natAbs := by
  have h2 : (n.tdiv d).natAbs = n.natAbs / d.natAbs := Int.natAbs_tdiv n d
  have h3 : (n.tdiv d * d).natAbs = n.natAbs / d.natAbs * d.natAbs := by rw [Int.natAbs_mul, h2]
  have h4 := Nat.div_mul_le_self n.natAbs d.natAbs
  omega

theorem wrap_nat (m : Nat) (h : m < 2 ^ 63) : IntKind.i64.wrap (m : Int) = m := wrap_in (by omega) (by omega)

theorem gcd_bd {n d : Nat} (hd : 0 < d) : 0 < Nat.gcd n d ∧ Nat.gcd n d ≤ d := ⟨Nat.gcd_pos_of_pos_right _ hd, Nat.gcd_le_right _ hd⟩

section
variable {P : Program} (T : Tbl P) {h : AHeap}
include T

theorem r52 (x : Int × Int) (hd : 0 < x.2) (hn : -4611686018427387904 ≤ x.1 ∧ x.1 ≤ 4611686018427387904) : RCall P 52 [ratA x] h (fun v _ => v = .int .i64 (x.1 / x.2)) := by
  refine .of T.mix T.c52 ?_
  unfold fn52
  have b1 := quo_bdR x.1 x.2 hd hn
  have b2 := quo_mul x.1 x.2 hd
  simp +contextual only [wset, hset, dset, bset, Nat.reduceAdd, Nat.reduceMul, Nat.reduceLeDiff, Nat.reduceEqDiff, wsplit, bin_quo (show x.2 ≠ 0 by omega), wrap_in (n := x.1.tdiv x.2) (by omega) (by omega), wrap_in (n := x.1.tdiv x.2 * x.2) (by omega) (by omega), wrap_in (n := x.1.tdiv x.2 - 1) (by omega) (by omega)]
  refine ⟨fun h1 => ?_, fun h1 => ?_⟩
  · rw [floor_eq x.1 x.2 hd, if_pos h1]
  · rw [floor_eq x.1 x.2 hd, if_neg h1]

theorem r53 (x : Int × Int) (hd : 0 < x.2) (hn : -4611686018427387904 ≤ x.1 ∧ x.1 ≤ 4611686018427387904) : RCall P 53 [ratA x] h (fun v _ => v = .int .i64 (-((-x.1) / x.2))) := by
  refine .of T.mix T.c53 ?_
  unfold fn53
  have b1 := quo_bdR (-x.1) x.2 hd (by omega)
  have hf := floor_eq (-x.1) x.2 hd
  have b3 : -4611686018427387905 ≤ (-x.1) / x.2 ∧ (-x.1) / x.2 ≤ 4611686018427387904 := by rw [hf]; split <;> omega
  simp only [wset, hset, dset, bset, Nat.reduceAdd, Nat.reduceMul, Nat.reduceLeDiff, Nat.reduceEqDiff, wrap_in (n := 0 - x.1) (by omega) (by omega)]
  have e : (0 : Int) - x.1 = -x.1 := by omega
  rw [e]
  refine WF.res T.c52 (r52 T (-x.1, x.2) hd (by simp only; omega)) ?_
  rintro _ g rfl
  simp only [wset, hset, dset, bset, Nat.reduceAdd, Nat.reduceMul, Nat.reduceLeDiff, Nat.reduceEqDiff, wrap_in (n := 0 - -x.1 / x.2) (by omega) (by omega)]
  rw [show (0 : Int) - -x.1 / x.2 = -(-x.1 / x.2) by omega]

theorem r73 (n d : Nat) (hd0 : 0 < d) (hn : n < 2 ^ 62) (hd : d < 2 ^ 62) : RCall P 73 [.int .i64 n, .int .i64 d] h (fun v _ => v = ratA (lowS n d)) := by
  refine .of T.mix T.c73 ?_
  unfold fn73
  have e9 : max (n : Int) (IntKind.i64.wrap (0 - (n : Int))) = n := by rw [wrap_in (by omega) (by omega)]; omega
  refine Ws @e9 ?_
  refine WL.inv T.mix (fun m ts h' => ∃ x y : Nat, y = m ∧ h' = h ++ [.cells [.int .i64 0, .int .i64 0] true false] ∧ Nat.gcd x y = Nat.gcd n d ∧ ts.length = 25 ∧ slot ts 0 = .int .i64 n ∧ slot ts 1 = .int .i64 d ∧ slot ts 4 = .ptr h.length 0 ∧ slot ts 5 = .int .i64 x ∧ slot ts 6 = .int .i64 y) d
    ⟨n, d, rfl, rfl, rfl, rfl, rfl, rfl, rfl, rfl, rfl⟩ ?_
  rintro m ts _ ⟨x, y, hm, rfl, hg, hlen, t0, t1, t4, t5, t6⟩
  subst hm
  rw [expl ts 25 hlen]
  by_cases hy : y = 0
  · have e1 : ((y : Int) = 0) = True := by simp [hy]
    rw [hy, Nat.gcd_zero_right] at hg
    subst hg
    have hg := gcd_bd (n := n) hd0
    have q1 : (n : Int).tdiv (Nat.gcd n d : Nat) = ((n / Nat.gcd n d : Nat) : Int) := (Int.ofNat_tdiv n _).symm
    have q2 : (d : Int).tdiv (Nat.gcd n d : Nat) = ((d / Nat.gcd n d : Nat) : Int) := (Int.ofNat_tdiv d _).symm
    have l1 := Nat.div_le_self n (Nat.gcd n d)
    have l2 := Nat.div_le_self d (Nat.gcd n d)
    simp only [wset, hset, dset, bset, Nat.reduceAdd, Nat.reduceMul, Nat.reduceLeDiff, Nat.reduceEqDiff, t0, t1, t4, t5, t6, e1, ne_eq, not_true_eq_false, decide_false, if_true, bin_quo (show ((Nat.gcd n d : Nat) : Int) ≠ 0 by omega), q1, q2, wrap_nat (n / Nat.gcd n d) (by omega), wrap_nat (d / Nat.gcd n d) (by omega)]
    rfl
  · have e1 : ((y : Int) = 0) = False := by simp [hy]
    simp only [wset, hset, dset, bset, Nat.reduceAdd, Nat.reduceMul, Nat.reduceLeDiff, Nat.reduceEqDiff, t0, t1, t4, t5, t6, e1, ne_eq, not_false_eq_true, decide_true, bin_rem (show (y : Int) ≠ 0 by omega)]
    refine ⟨_, Nat.mod_lt x (by omega), y, x % y, rfl, ?_, rfl, rfl⟩
    rw [← hg, Nat.gcd_comm x y, Nat.gcd_rec y x, Nat.gcd_comm]
end
end Go.Abs
namespace Go.Abs

def okPicks : Int → List Pk → Prop
  | _, [] => True
  | last, p :: ps => (0 ≤ p.1 ∧ p.1 ≤ 255 ∧ 0 ≤ p.2 ∧ p.2 ≤ 100000 ∧ last < p.1) ∧ okPicks p.1 ps

/-- A valid horizon. -/
structure HorV (H : Hor) : Prop where
  nm : nameS H.name = true
  e0 : 0 ≤ H.err
  e1 : H.err ≤ 1000
  ne : 0 < H.picks.length
  le : H.picks.length ≤ 256
  ok : okPicks (-1) H.picks

theorem firstS_zero {l : List Int} : firstS l = 0 ↔ ∀ x ∈ l, x = 0 := by
  induction l with
  | nil => simp [firstS]
  | cons x xs ih =>
    by_cases hx : x = 0
    · simp [firstS, hx, ih]
    · simp [firstS, hx]
theorem rangeS_zero {n lo hi : Int} : rangeS n lo hi = 0 ↔ lo ≤ n ∧ n ≤ hi := by unfold rangeS; split <;> omega
theorem whenS_zero {c : Bool} {e : Int} (he : e ≠ 0) : whenS c e = 0 ↔ c = false := by cases c <;> simp [whenS, he]

theorem chkPicks_zero : ∀ {L : List Pk} {last : Int}, chkPicksS last L = 0 ↔ okPicks last L
  | [], last => by simp [chkPicksS, okPicks]
  | p :: ps, last => by
    have h1 : firstS [rangeS p.1 0 255, rangeS p.2 0 100000, whenS (decide (p.1 ≤ last)) 11] = 0 ↔ (0 ≤ p.1 ∧ p.1 ≤ 255 ∧ 0 ≤ p.2 ∧ p.2 ≤ 100000 ∧ last < p.1) := by
      rw [firstS_zero]
      simp only [List.mem_cons, List.not_mem_nil, or_false, forall_eq_or_imp, forall_eq, rangeS_zero, whenS_zero (show (11 : Int) ≠ 0 by decide), decide_eq_false_iff_not]
      omega
    unfold chkPicksS okPicks
    by_cases h : firstS [rangeS p.1 0 255, rangeS p.2 0 100000, whenS (decide (p.1 ≤ last)) 11] = 0
    · rw [if_pos h, chkPicks_zero]; simp [h1.1 h]
    · rw [if_neg h]
      exact ⟨fun x => absurd x h, fun x => absurd (h1.2 x.1) h⟩

theorem horV_iff {H : Hor} : chkHorS H = 0 ↔ HorV H := by
  have h1 : headS H = 0 ↔ nameS H.name = true ∧ (0 ≤ H.err ∧ H.err ≤ 1000) ∧ 0 < H.picks.length ∧ H.picks.length ≤ 256 := by
    unfold headS
    rw [firstS_zero]
    simp only [List.mem_cons, List.not_mem_nil, or_false, forall_eq_or_imp, forall_eq, rangeS_zero, whenS_zero (show (8 : Int) ≠ 0 by decide), whenS_zero (show (12 : Int) ≠ 0 by decide), whenS_zero (show (5 : Int) ≠ 0 by decide), decide_eq_false_iff_not, Bool.not_eq_false']
    exact ⟨fun ⟨a, b, c, d⟩ => ⟨a, b, by omega, by omega⟩, fun ⟨a, b, c, d⟩ => ⟨a, b, by omega, by omega⟩⟩
  unfold chkHorS
  by_cases h : headS H = 0
  · rw [if_pos h, chkPicks_zero]
    obtain ⟨a, b, c, d⟩ := h1.1 h
    exact ⟨fun x => ⟨a, b.1, b.2, c, d, x⟩, fun x => x.ok⟩
  · rw [if_neg h]
    exact ⟨fun x => absurd x h, fun x => absurd (h1.2 ⟨x.nm, ⟨x.e0, x.e1⟩, x.ne, x.le⟩) h⟩

theorem okPicks.at : ∀ {L : List Pk} {last : Int}, okPicks last L → ∀ {i : Nat} (hi : i < L.length), 0 ≤ L[i].1 ∧ L[i].1 ≤ 255 ∧ 0 ≤ L[i].2 ∧ L[i].2 ≤ 100000 ∧ last < L[i].1
  | [], _, _, i, hi => by simp at hi
  | p :: ps, last, h, 0, hi => h.1
  | p :: ps, last, h, i + 1, hi => by
    have := okPicks.at h.2 (i := i) (by simpa using hi)
    have h1 := h.1
    simp only [List.getElem_cons_succ]
    omega
theorem okPicks.lt : ∀ {L : List Pk} {last : Int}, okPicks last L → ∀ {i j : Nat} (hij : i < j) (hj : j < L.length), (L[i]'(by omega)).1 < L[j].1
  | [], _, _, i, j, _, hj => by simp at hj
  | p :: ps, last, h, i, 0, hij, hj => by omega
  | p :: ps, last, h, 0, j + 1, hij, hj => by
    have := okPicks.at h.2 (i := j) (by simpa using hj)
    simp only [List.getElem_cons_succ, List.getElem_cons_zero]
    omega
  | p :: ps, last, h, i + 1, j + 1, hij, hj => by
    have := okPicks.lt h.2 (i := i) (j := j) (by omega) (by simpa using hj)
    simpa using this

def begS (H : Hor) : Int := (H.picks.headD (0, 0)).1
def endS (H : Hor) : Int := (H.picks.getLastD (0, 0)).1
def hasS (H : Hor) (x : Int) : Bool := decide (begS H ≤ x) && decide (x ≤ endS H)

theorem begS_eq {H : Hor} (hn : 0 < H.picks.length) : begS H = H.picks[0].1 := by
  unfold begS
  rw [List.headD_eq_head?_getD, List.head?_eq_getElem?, List.getElem?_eq_getElem hn]; rfl
theorem endS_eq {H : Hor} (hn : 0 < H.picks.length) : endS H = H.picks[H.picks.length - 1].1 := by
  unfold endS
  rw [List.getLastD_eq_getLast?, List.getLast?_eq_getElem?, List.getElem?_eq_getElem (by omega)]
  rfl

section
variable {P : Program} (T : Tbl P) {h : AHeap}
include T

theorem r50 {H : Hor} {s : AV} (o : HorOk h H s) (hn : 0 < H.picks.length) : RCall P 50 [horA H s] h (fun v _ => v = .tup [.int .i64 (begS H), .int .i64 (endS H)]) := by
  refine .of T.mix T.c50 ?_
  unfold fn50
  have hl := o.len
  have hn1 : H.picks.length - 1 < H.picks.length := by omega
  have e : IntKind.i64.wrap ((H.picks.length : Int) - 1) = ((H.picks.length - 1 : Nat) : Int) := by rw [wrap_in (by omega) (by omega)]; omega
  simp only [wset, hset, dset, bset, Nat.reduceAdd, Nat.reduceMul, Nat.reduceLeDiff, Nat.reduceEqDiff, o.sl.one, o.sl.lenm, e, o.sl.ixm hn1, o.sl.lfm (off := 0) hn1 rfl, o.sl.ix0 hn, o.sl.lfm (off := 0) hn rfl]
  rw [endS_eq hn, begS_eq hn]

end
end Go.Abs
namespace Go.Abs

/-- The time at a place, between one pick and the next. -/
def stepS (a b : Pk) (x : Int) : Int × Int :=
  if b.1 = x then (b.2, 1) else lowS (a.2 * (b.1 - a.1) + (b.2 - a.2) * (x - a.1)).toNat (b.1 - a.1).toNat
def atFrom : Pk → List Pk → Int → Int × Int
  | _, [], _ => (0, 0)
  | a, b :: r, x => if x ≤ b.1 then stepS a b x else atFrom b r x
def atS (H : Hor) (x : Int) : Int × Int := atFrom (0, 0) H.picks x

theorem atFrom_idx : ∀ {L : List Pk} {a : Pk} {x : Int}, (∃ p ∈ L, x ≤ p.1) → ∃ (i : Nat) (hi : i < L.length), idxS (fun p => decide (x ≤ p.1)) L = (i : Int) ∧ x ≤ L[i].1 ∧ (∀ j (_ : j < i), (L[j]'(by omega)).1 < x) ∧ atFrom a L x = stepS (if h : i = 0 then a else L[i - 1]'(by omega)) L[i] x
  | [], a, x, h => by simp at h
  | b :: r, a, x, h => by
    by_cases hb : x ≤ b.1
    · refine ⟨0, by simp, ?_, hb, fun j hj => by omega, ?_⟩
      · simp [idxS, List.findIdx?_cons, hb]
      · simp [atFrom, hb]
    · have hr : ∃ p ∈ r, x ≤ p.1 := by
        obtain ⟨p, hp, hx⟩ := h
        rcases List.mem_cons.1 hp with rfl | hp
        · exact absurd hx hb
        · exact ⟨p, hp, hx⟩
      obtain ⟨i, hi, h1, h2, h3, h4⟩ := atFrom_idx (a := b) hr
      refine ⟨i + 1, by simpa using hi, ?_, by simpa using h2, fun j hj => ?_, ?_⟩
      · unfold idxS at h1 ⊢
        rw [List.findIdx?_cons]
        simp only [hb, decide_false, Bool.false_eq_true, if_false]
        cases hx : r.findIdx? fun p => decide (x ≤ p.1) with
        | none => rw [hx] at h1; simp only at h1; omega
        | some k => rw [hx] at h1; simp only at h1; simp only [Option.map_some]; omega
      · cases j with
        | zero => simp only [List.getElem_cons_zero]; omega
        | succ j => simpa using h3 j (by omega)
      · rw [atFrom, if_neg hb, h4]
        simp only [List.getElem_cons_succ]
        by_cases hi0 : i = 0
        · subst hi0; simp
        · have : (b :: r)[i + 1 - 1]'(by simp; omega) = r[i - 1]'(by omega) := by
            have : i + 1 - 1 = (i - 1) + 1 := by omega
            simp only [this, List.getElem_cons_succ]
          rw [dif_neg hi0, dif_neg (by omega), this]

/-- Between two picks nothing is too large. -/
theorem interp_bd {a b : Pk} {x : Int} (ha : 0 ≤ a.1 ∧ a.1 ≤ 255 ∧ 0 ≤ a.2 ∧ a.2 ≤ 100000) (hb : 0 ≤ b.1 ∧ b.1 ≤ 255 ∧ 0 ≤ b.2 ∧ b.2 ≤ 100000) (h1 : a.1 ≤ x) (h2 : x ≤ b.1) :
    (0 ≤ a.2 * (b.1 - a.1) ∧ a.2 * (b.1 - a.1) ≤ 25500000) ∧ (-25500000 ≤ (b.2 - a.2) * (x - a.1) ∧ (b.2 - a.2) * (x - a.1) ≤ 25500000) ∧ 0 ≤ a.2 * (b.1 - a.1) + (b.2 - a.2) * (x - a.1) ∧ a.2 * (b.1 - a.1) + (b.2 - a.2) * (x - a.1) ≤ 100000 * (b.1 - a.1) := by
  have k1 : 0 ≤ a.2 * (b.1 - x) := Int.mul_nonneg (by omega) (by omega)
  have k2 : 0 ≤ b.2 * (x - a.1) := Int.mul_nonneg (by omega) (by omega)
  have k3 : a.2 * (b.1 - x) ≤ 100000 * (b.1 - x) := Int.mul_le_mul_of_nonneg_right (by omega) (by omega)
  have k4 : b.2 * (x - a.1) ≤ 100000 * (x - a.1) := Int.mul_le_mul_of_nonneg_right (by omega) (by omega)
  have k5 : 0 ≤ a.2 * (x - a.1) := Int.mul_nonneg (by omega) (by omega)
  have k6 : a.2 * (x - a.1) ≤ 100000 * (x - a.1) := Int.mul_le_mul_of_nonneg_right (by omega) (by omega)
  have e1 : a.2 * (b.1 - a.1) = a.2 * (b.1 - x) + a.2 * (x - a.1) := by rw [← Int.mul_add]; congr 1; omega
  have e2 : (b.2 - a.2) * (x - a.1) = b.2 * (x - a.1) - a.2 * (x - a.1) := Int.sub_mul _ _ _
  omega

theorem lowS_bd {n d : Nat} (hd : 0 < d) : 1 ≤ (lowS n d).2 ∧ (lowS n d).2 ≤ d ∧ 0 ≤ (lowS n d).1 ∧ (lowS n d).1 ≤ n := by
  have hg := gcd_bd (n := n) hd
  have l1 := Nat.div_le_self n (Nat.gcd n d)
  have l2 := Nat.div_le_self d (Nat.gcd n d)
  have l3 : 0 < d / Nat.gcd n d := Nat.div_pos hg.2 hg.1
  unfold lowS
  simp only
  generalize n / Nat.gcd n d = q1 at *
  generalize d / Nat.gcd n d = q2 at *
  omega

theorem has_some {H : Hor} (v : HorV H) {x : Int} (hx : hasS H x = true) : ∃ p ∈ H.picks, x ≤ p.1 := by
  simp only [hasS, Bool.and_eq_true, decide_eq_true_eq] at hx
  rw [endS_eq v.ne] at hx
  exact ⟨_, List.getElem_mem _, hx.2⟩

/-- What a time at a place is. -/
theorem at_bd {H : Hor} (v : HorV H) {x : Int} (hx : hasS H x = true) : 1 ≤ (atS H x).2 ∧ (atS H x).2 ≤ 255 ∧ 0 ≤ (atS H x).1 ∧ (atS H x).1 ≤ 25500000 := by
  obtain ⟨i, hi, _, h2, h3, h4⟩ := atFrom_idx (a := (0, 0)) (has_some v hx)
  unfold atS
  rw [h4]
  have hb := v.ok.at hi
  unfold stepS
  by_cases he : H.picks[i].1 = x
  · rw [if_pos he]; simp only; omega
  · rw [if_neg he]
    have hi0 : i ≠ 0 := by
      rintro rfl
      simp only [hasS, Bool.and_eq_true, decide_eq_true_eq] at hx
      rw [begS_eq v.ne] at hx
      omega
    rw [dif_neg hi0]
    have ha := v.ok.at (i := i - 1) (by omega)
    have hlt := h3 (i - 1) (by omega)
    have hab := v.ok.lt (i := i - 1) (j := i) (by omega) hi
    have := interp_bd (a := H.picks[i - 1]) (b := H.picks[i]) (x := x) (by omega) (by omega) (by omega) h2
    have hl := lowS_bd (n := (H.picks[i - 1].2 * (H.picks[i].1 - H.picks[i - 1].1) + (H.picks[i].2 - H.picks[i - 1].2) * (x - H.picks[i - 1].1)).toNat) (d := (H.picks[i].1 - H.picks[i - 1].1).toNat) (by omega)
    omega

section
variable {P : Program} (T : Tbl P) {h : AHeap}
include T

theorem r73' (n d : Int) (hn0 : 0 ≤ n) (hd0 : 0 < d) (hn : n < 2 ^ 62) (hd : d < 2 ^ 62) : RCall P 73 [.int .i64 n, .int .i64 d] h (fun v _ => v = ratA (lowS n.toNat d.toNat)) := by
  have := r73 T (h := h) n.toNat d.toNat (by omega) (by omega) (by omega)
  rwa [Int.toNat_of_nonneg hn0, Int.toNat_of_nonneg (by omega)] at this
theorem r72 {p : Pk} {x : Int} {b : Nat} (hb : h[b]? = some (.cells [.int .i64 x] true false)) : RCall P 72 [.agg (pkRow p), .ptr b 0] h (fun v _ => v = .bool (decide (x ≤ p.1))) := by
  refine .of T.mix T.c72 ?_
  unfold fn72
  have hlt := (List.getElem?_eq_some_iff.1 hb).1
  have hld : ∀ g : AHeap, loadF none (.ptr b 0) (fun z => (h ++ g)[z]?) = ldB none 0 (.cells [.int .i64 x] true false) := fun g => loadF_at (by rw [at_app _ hlt]; exact hb)
  exact Ws @hld trivial

theorem r51 {H : Hor} {s : AV} (o : HorOk h H s) (v : HorV H) {x : Int} (hx : hasS H x = true) : RCall P 51 [horA H s, .int .i64 x] h (fun v _ => v = ratA (atS H x)) := by
  obtain ⟨i, hi, h1, h2, h3, h4⟩ := atFrom_idx (a := (0, 0)) (has_some v hx)
  have hb := v.ok.at hi
  have hat : atS H x = stepS (if h : i = 0 then (0, 0) else H.picks[i - 1]'(by omega)) H.picks[i] x := h4
  refine .of T.mix T.c51 ?_
  unfold fn51
  refine Ws o.sl.one ?_
  refine WF.res T.c71 (r71 T (o.sl.ext (by simp only [eset])) o.len (fun p => decide (x ≤ p.1)) (fun p hp kk e => VCall.of T.c72 (r72 T (p := p) (x := x) (e.some at_1)))) ?_
  rintro _ g1 rfl
  rw [h1]
  simp only [wset, hset, dset, bset, Nat.reduceAdd, Nat.reduceMul, Nat.reduceLeDiff, Nat.reduceEqDiff, o.sl.ixm hi, o.sl.ldm hi]
  by_cases he : H.picks[i].1 = x
  · simp only [wset, hset, dset, bset, Nat.reduceAdd, Nat.reduceMul, Nat.reduceLeDiff, Nat.reduceEqDiff, eq_true he, decide_true, Bool.and_true]
    rw [hat, stepS, if_pos he]
  · have hi0 : i ≠ 0 := by
      rintro rfl
      simp only [hasS, Bool.and_eq_true, decide_eq_true_eq] at hx
      rw [begS_eq v.ne] at hx
      omega
    rw [dif_neg hi0] at hat
    have hi1 : i - 1 < H.picks.length := by omega
    have ha := v.ok.at hi1
    have hlt := h3 (i - 1) (by omega)
    have hab := v.ok.lt (i := i - 1) (j := i) (by omega) hi
    have hbd := interp_bd (a := H.picks[i - 1]) (b := H.picks[i]) (x := x) (by omega) (by omega) (by omega) h2
    have e1 : IntKind.i64.wrap ((i : Int) - 1) = ((i - 1 : Nat) : Int) := by have := v.le; rw [wrap_in (by omega) (by omega)]; omega
    simp only [wset, hset, dset, bset, Nat.reduceAdd, Nat.reduceMul, Nat.reduceLeDiff, Nat.reduceEqDiff, eq_false he, decide_false, Bool.false_and, o.sl.lenm, e1, o.sl.ixm hi1, o.sl.ldm hi1]
    simp only [wrap_in (n := H.picks[i].1 - H.picks[i - 1].1) (by omega) (by omega), wrap_in (n := H.picks[i - 1].2 * (H.picks[i].1 - H.picks[i - 1].1)) (by omega) (by omega), wrap_in (n := H.picks[i].2 - H.picks[i - 1].2) (by omega) (by omega), wrap_in (n := x - H.picks[i - 1].1) (by omega) (by omega), wrap_in (n := (H.picks[i].2 - H.picks[i - 1].2) * (x - H.picks[i - 1].1)) (by omega) (by omega), wrap_in (n := H.picks[i - 1].2 * (H.picks[i].1 - H.picks[i - 1].1) + (H.picks[i].2 - H.picks[i - 1].2) * (x - H.picks[i - 1].1)) (by omega) (by omega)]
    refine WF.res T.c73 (r73' T _ _ (by omega) (by omega) (by omega) (by omega)) ?_
    rintro _ g2 rfl
    refine Wn ?_
    rw [hat, stepS, if_neg he]

end
end Go.Abs
namespace Go.Abs

def bandS (H : Hor) (x : Int) : Int × Int := ((atS H x).1 / (atS H x).2 - H.err, -((-(atS H x).1) / (atS H x).2) + H.err)
theorem div_bd {n d : Int} (hd : 1 ≤ d) (h0 : 0 ≤ n) : 0 ≤ n / d ∧ n / d ≤ n := ⟨Int.ediv_nonneg h0 (by omega), Int.ediv_le_self d h0⟩
theorem ceil_bd {n d : Int} (hd : 1 ≤ d) (h0 : 0 ≤ n) : 0 ≤ -((-n) / d) ∧ -((-n) / d) ≤ n := by
  have h1 : (-n) / d ≤ 0 := Int.ediv_le_of_le_mul (by omega) (by omega)
  have h2 : -n ≤ (-n) / d := by
    rw [Int.le_ediv_iff_mul_le (by omega)]
    have : 0 ≤ n * (d - 1) := Int.mul_nonneg h0 (by omega)
    rw [Int.mul_sub, Int.mul_one] at this
    rw [Int.neg_mul]; omega
  omega

theorem band_bd {H : Hor} (v : HorV H) {x : Int} (hx : hasS H x = true) : -1000 ≤ (bandS H x).1 ∧ (bandS H x).1 ≤ 25500000 ∧ 0 ≤ (bandS H x).2 ∧ (bandS H x).2 ≤ 25501000 := by
  have hb := at_bd v hx
  have h1 := div_bd (n := (atS H x).1) (d := (atS H x).2) (by omega) (by omega)
  have h2 := ceil_bd (n := (atS H x).1) (d := (atS H x).2) (by omega) (by omega)
  have := v.e0
  have := v.e1
  unfold bandS
  simp only
  omega

section
variable {P : Program} (T : Tbl P) {h : AHeap}
include T

theorem r21 {H : Hor} {s : AV} (o : HorOk h H s) (v : HorV H) {x : Int} (hx : hasS H x = true) : RCall P 21 [horA H s, .int .i64 x] h (fun v _ => v = ratA (bandS H x)) := by
  refine .of T.mix T.c21 ?_
  unfold fn21
  have hb := at_bd v hx
  have h1 := div_bd (n := (atS H x).1) (d := (atS H x).2) (by omega) (by omega)
  have h2 := ceil_bd (n := (atS H x).1) (d := (atS H x).2) (by omega) (by omega)
  have he0 := v.e0
  have he1 := v.e1
  refine Ws o.sl.one ?_
  refine WF.res T.c51 (r51 T (H := H) (o.ext (by simp only [eset])) v hx) ?_
  rintro _ g1 rfl
  refine Wn ?_
  refine WF.res T.c52 (r52 T (atS H x) (by omega) (by omega)) ?_
  rintro _ g2 rfl
  refine Wn ?_
  refine WF.res T.c53 (r53 T (atS H x) (by omega) (by omega)) ?_
  rintro _ g3 rfl
  simp only [wset, hset, dset, bset, Nat.reduceAdd, Nat.reduceMul, Nat.reduceLeDiff, Nat.reduceEqDiff, wrap_in (n := (atS H x).1 / (atS H x).2 - H.err) (by omega) (by omega), wrap_in (n := -(-(atS H x).1 / (atS H x).2) + H.err) (by omega) (by omega)]
  rfl

end
end Go.Abs
namespace Go.Abs

theorem IsSl.keep2 {h k : AHeap} {s : AV} {es : Nat} {cs : List (List AV)} (hs : IsSl h s es cs) (hk : ∀ b o n e, s = .slice b o n e → k[b]? = h[b]?) : IsSl k s es cs := by
  cases hs with
  | nil => exact .nil
  | mk hb hf ho he => exact .mk ((hk _ _ _ _ rfl).trans hb) hf ho he

section
variable {P : Program} (T : Tbl P) {h : AHeap}
include T

end
end Go.Abs
namespace Go.Abs

section
variable {P : Program} (T : Tbl P) {h : AHeap}
include T

end
end Go.Abs
namespace Go.Abs

/-- A list whose first elements are changed. -/
def mix {α : Type} (f : α → α) (L : List α) (k : Nat) : List α := (L.take k).map f ++ L.drop k
section
variable {P : Program} (T : Tbl P) {h : AHeap}
include T

end
end Go.Abs
namespace Go.Abs

section
variable {P : Program} (T : Tbl P) {h : AHeap}
include T

end
end Go.Abs
namespace Go.Abs

section
variable {P : Program} (T : Tbl P) {h : AHeap}
include T

end
end Go.Abs
namespace Go.Abs

section
variable {P : Program} (T : Tbl P) {h : AHeap}
include T

end
end Go.Abs
namespace Go.Abs

def ivS (lo hi : Int) : List Int := (List.range (hi + 1 - lo).toNat).map fun (i : Nat) => lo + i
def placesS (A B : Hor) : List Int := ivS (max (begS A) (begS B)) (min (endS A) (endS B))
theorem ivS_len {lo hi : Int} : (ivS lo hi).length = (hi + 1 - lo).toNat := by simp [ivS]
theorem ivS_get {lo hi : Int} {i : Nat} (h : i < (ivS lo hi).length) : (ivS lo hi)[i] = lo + i := by simp [ivS]
theorem ivS_mem {lo hi x : Int} : x ∈ ivS lo hi ↔ lo ≤ x ∧ x ≤ hi := by
  simp only [ivS, List.mem_map, List.mem_range]
  constructor
  · rintro ⟨i, h, rfl⟩; omega
  · rintro ⟨h1, h2⟩; exact ⟨(x - lo).toNat, by omega, by omega⟩

theorem end_bd {H : Hor} (v : HorV H) : 0 ≤ begS H ∧ begS H ≤ 255 ∧ 0 ≤ endS H ∧ endS H ≤ 255 ∧ begS H ≤ endS H := by
  have h0 := v.ok.at (i := 0) v.ne
  have h1 := v.ok.at (i := H.picks.length - 1) (by have := v.ne; omega)
  rw [begS_eq v.ne, endS_eq v.ne]
  refine ⟨h0.1, h0.2.1, h1.1, h1.2.1, ?_⟩
  by_cases hl : H.picks.length = 1
  · simp only [hl]; exact Int.le_refl _
  · have := v.ok.lt (i := 0) (j := H.picks.length - 1) (by have := v.ne; omega) (by have := v.ne; omega)
    omega

/-- What an iterator over the common places of two horizons reads. -/
def CmPre (A B : Hor) (sa sb : AV) (ba bb : Nat) (k : AHeap) : Prop :=
  k[ba]? = some (.cells [.str A.name, .int .i64 A.err, sa] true false) ∧ k[bb]? = some (.cells [.str B.name, .int .i64 B.err, sb] true false) ∧ HorOk k A sa ∧ HorOk k B sb

theorem at_swap {A B : AHeap} {K K' : ABlk} {b : Nat} (h : b ≠ A.length) : (A ++ [K] ++ B)[b]? = (A ++ [K'] ++ B)[b]? := by
  by_cases h1 : b < A.length
  · rw [List.append_assoc, List.append_assoc, List.getElem?_append_left h1, List.getElem?_append_left h1]
  · rw [List.getElem?_append_right (by simp; omega), List.getElem?_append_right (by simp; omega)]
    simp
theorem at_mid {A B : AHeap} {K : ABlk} : (A ++ [K] ++ B)[A.length]? = some K := by
  rw [List.append_assoc, List.getElem?_append_right (Nat.le_refl _), Nat.sub_self]; rfl

section
variable {P : Program} (T : Tbl P) {h : AHeap}
include T

theorem r20 {A B : Hor} {sa sb : AV} (oa : HorOk h A sa) (ob : HorOk h B sb) : RCall P 20 [horA A sa, horA B sb] h (fun v h' => ∃ ba bb, v = .func (.func 49) [] [.ptr ba 0, .ptr bb 0] ∧ CmPre A B sa sb ba bb h') := by
  refine .of T.mix T.c20 ?_
  unfold fn20
  refine Ws (A2 oa.sl.one ob.sl.one) ?_
  refine ⟨_, _, rfl, ?_, ?_, oa.ext (by repeat first | exact Ext.refl _ | refine Ext.app _ ?_), ob.ext (by repeat first | exact Ext.refl _ | refine Ext.app _ ?_)⟩
  · exact at_1
  · exact at_new

theorem iter_common {A B : Hor} {sa sb : AV} (va : HorV A) (vb : HorV B) (ba bb : Nat) : Iter P 49 [] [.ptr ba 0, .ptr bb 0] ((placesS A B).map fun x => [.int .i64 x]) (CmPre A B sa sb ba bb) := by
  refine ⟨fun l h J D hpre happ hstep hend h0 => GCall.of T.mix T.c49 ?_⟩
  obtain ⟨p1, p2, oa, ob⟩ := hpre 0 h h0
  unfold fn49
  have ea := end_bd va
  have eb := end_bd vb
  have la : ∀ n o g, loadF n (.ptr ba o) (fun z => (h ++ g)[z]?) = ldB n o (.cells [.str A.name, .int .i64 A.err, sa] true false) := fun n o g => loadF_at ((Ext.app g (Ext.refl h)).some p1)
  have lb : ∀ n o g, loadF n (.ptr bb o) (fun z => (h ++ g)[z]?) = ldB n o (.cells [.str B.name, .int .i64 B.err, sb] true false) := fun n o g => loadF_at ((Ext.app g (Ext.refl h)).some p2)
  have la0 : ∀ n o, loadF n (.ptr ba o) (fun z => h[z]?) = ldB n o (.cells [.str A.name, .int .i64 A.err, sa] true false) := fun n o => loadF_at p1
  refine Ws @la0 ?_
  refine WF.res T.c50 (r50 T (H := A) oa va.ne) ?_
  rintro _ g1 rfl
  refine Ws @lb ?_
  refine WF.res T.c50 (r50 T (H := B) (ob.ext (by repeat first | exact Ext.refl _ | refine Ext.app _ ?_)) vb.ne) ?_
  rintro _ g2 rfl
  refine Wn ?_
  refine WL.inv T.mix (fun n ts h' => ∃ k : Nat, k ≤ (placesS A B).length ∧ n = (placesS A B).length - k ∧ J k h' ∧ ts.length = 33 ∧ slot ts 0 = .func (.yield l) [] [] ∧ slot ts 5 = .int .i64 (endS A) ∧ slot ts 7 = .int .i64 (endS B) ∧ slot ts 8 = .int .i64 (max (begS A) (begS B) + k)) (placesS A B).length
    ⟨0, by omega, rfl, happ _ _ _ (happ _ _ _ h0), rfl, rfl, rfl, rfl, by simp [slot]⟩ ?_
  rintro _ ts h' ⟨k, hk, rfl, hJ, hlen, t0, t5, t7, t8⟩
  rw [expl ts 33 hlen]
  have hpl : (placesS A B).length = (min (endS A) (endS B) + 1 - max (begS A) (begS B)).toNat := ivS_len
  by_cases hlt : k < (placesS A B).length
  · have e3 : max (begS A) (begS B) + k ≤ min (endS A) (endS B) := by omega
    refine Ws (A6 @t0 @t5 @t7 @t8 @e3 @decide_true) ?_
    obtain ⟨b, k', q1, q2⟩ := hstep k (by rw [List.length_map]; exact hlt) h' hJ
    have hx : (placesS A B)[k]'hlt = max (begS A) (begS B) + k := ivS_get (lo := max (begS A) (begS B)) (hi := min (endS A) (endS B)) hlt
    rw [List.getElem_map, hx] at q1
    refine WF.valg q1 ?_
    cases b with
    | true =>
      simp only [wset, hset, dset, bset, Nat.reduceAdd, Nat.reduceMul, Nat.reduceLeDiff, Nat.reduceEqDiff, Bool.not_true, t8, wrap_in (n := max (begS A) (begS B) + (k : Int) + 1) (by omega) (by omega)]
      refine ⟨_, ?_, k + 1, by omega, rfl, q2, ?_⟩
      · omega
      · exact congrArg (AV.int .i64) (by omega)
    | false =>
      refine Ws @Bool.not_false ?_
      exact q2
  · have e3 : ¬ max (begS A) (begS B) + k ≤ min (endS A) (endS B) := by omega
    refine Ws (A6 @t0 @t5 @t7 @t8 @e3 @decide_false) ?_
    have : k = (placesS A B).length := by omega
    refine hend h' ?_
    rw [List.length_map, ← this]; exact hJ

end
end Go.Abs
namespace Go.Abs

section
variable {P : Program} (T : Tbl P) {h : AHeap}
include T

end
end Go.Abs
namespace Go.Abs

theorem mid4 {X Y g a b c d : AHeap} : X ++ Y ++ g ++ a ++ b ++ c ++ d = X ++ Y ++ (g ++ a ++ b ++ c ++ d) := by simp only [List.append_assoc]
theorem places_has {A B : Hor} {x : Int} (h : x ∈ placesS A B) : hasS A x = true ∧ hasS B x = true := by
  have := ivS_mem.1 h
  simp only [hasS, Bool.and_eq_true, decide_eq_true_eq]
  omega
theorem places_get {A B : Hor} {i : Nat} (hi : i < (placesS A B).length) : hasS A (placesS A B)[i] = true ∧ hasS B (placesS A B)[i] = true := places_has (List.getElem_mem hi)
theorem places_le {A B : Hor} (va : HorV A) : (placesS A B).length ≤ 256 := by
  have ea := end_bd va
  have hl : (placesS A B).length = (min (endS A) (endS B) + 1 - max (begS A) (begS B)).toNat := ivS_len
  omega
section
variable {P : Program} (T : Tbl P) {h : AHeap}
include T

theorem r43 {A B : Hor} {sa sb : AV} (oa : HorOk h A sa) (ob : HorOk h B sb) : RCall P 43 [horA A sa, horA B sb] h (fun v _ => v = .int .i64 (firstS [chkHorS A, chkHorS B])) := by
  refine .of T.mix T.c43 ?_
  unfold fn43
  refine Ws (A2 oa.sl.one ob.sl.one) ?_
  refine WF.res T.c69 (r69 T (H := A) (oa.sl.ext (by repeat first | exact Ext.refl _ | refine Ext.app _ ?_)) oa.len) ?_
  rintro _ g1 rfl
  refine Wn ?_
  refine WF.res T.c69 (r69 T (H := B) (ob.sl.ext (by repeat first | exact Ext.refl _ | refine Ext.app _ ?_)) ob.len) ?_
  rintro _ g2 rfl
  refine Wn ?_
  refine WF.res T.c42 (r42 T (isSl_ints [_, _]) (by simp)) ?_
  rintro _ g3 rfl
  exact Wn trivial

theorem r46 {A B : Hor} {sa sb : AV} (oa : HorOk h A sa) (ob : HorOk h B sb) (va : HorV A) (vb : HorV B) : RCall P 46 [horA A sa, horA B sb] h (fun v _ => v = .bool (decide (0 < (placesS A B).length))) := by
  refine .of T.mix T.c46 ?_
  unfold fn46
  refine Ws (A2 oa.sl.one ob.sl.one) ?_
  refine WF.res T.c20 (r20 T (A := A) (B := B) (oa.ext (by repeat first | exact Ext.refl _ | refine Ext.app _ ?_)) (ob.ext (by repeat first | exact Ext.refl _ | refine Ext.app _ ?_))) ?_
  rintro _ g1 ⟨ba, bb, rfl, hpre⟩
  refine Wn ?_
  refine WC.iter T.mix T.c49 (a := []) (c := [.ptr ba 0, .ptr bb 0]) rfl (iter_common T (sa := sa) (sb := sb) va vb ba bb) (fun y hy => by obtain ⟨z, _, rfl⟩ := List.mem_map.1 hy; rfl)
    (fun i h' g => i = 0 ∧ h' = h ++ [ABlk.cells [AV.str A.name, AV.int IntKind.i64 A.err, sa] true false] ++ [ABlk.cells [AV.str B.name, AV.int IntKind.i64 B.err, sb] true false] ++ [ABlk.cells [AV.bool false] true false] ++ g1)
    (fun e h' g => e = .ret ∧ 0 < (placesS A B).length ∧ h' = h ++ [ABlk.cells [AV.str A.name, AV.int IntKind.i64 A.err, sa] true false] ++ [ABlk.cells [AV.str B.name, AV.int IntKind.i64 B.err, sb] true false] ++ [ABlk.cells [AV.bool true] true false] ++ g1)
    ⟨rfl, rfl⟩ (fun i h' g g' hI => hI) (fun i h' g X hl hI => ?_) (fun i hi h' g X Y hl hI => ?_) (fun e h' g hl hI => ?_)
  · obtain ⟨rfl, rfl⟩ := hI
    exact ⟨(Ext.app g (Ext.app [X] (Ext.refl _))).some hpre.1, (Ext.app g (Ext.app [X] (Ext.refl _))).some hpre.2.1, oa.ext (by repeat first | exact Ext.refl _ | refine Ext.app _ ?_), ob.ext (by repeat first | exact Ext.refl _ | refine Ext.app _ ?_)⟩
  · obtain ⟨rfl, rfl⟩ := hI
    rw [List.getElem_map]
    simp only [wset, hset, dset, bset, Nat.reduceAdd, Nat.reduceMul, Nat.reduceLeDiff, Nat.reduceEqDiff, setArgs]
    refine ⟨_, g, rfl, by simp, ?_⟩
    repeat (first | simp only [wset, hset, dset, bset, Nat.reduceAdd, Nat.reduceMul, Nat.reduceLeDiff, Nat.reduceEqDiff] | simp (disch := first | (simp only [List.length_append, List.length_cons, List.length_nil] <;> omega) | rfl | omega | fail) only [kset, wset, hset, dset, bset, Nat.reduceAdd, Nat.reduceMul, Nat.reduceLeDiff, Nat.reduceEqDiff])
    refine ⟨_, g, rfl, by simp only [List.length_append, List.length_cons, List.length_nil], ?_⟩
    rw [if_neg (by simp)]
    first | exact ⟨rfl, by simpa using hi, rfl⟩ | exact ⟨by simpa using hi, rfl⟩
  · by_cases hen : e = .normal
    · subst hen
      rw [if_pos rfl] at hI
      obtain ⟨h0, rfl⟩ := hI
      rw [List.length_map] at h0
      rw [show decide (0 < (placesS A B).length) = false from decide_eq_false (by omega)]
      repeat (first | simp only [wset, hset, dset, bset, Nat.reduceAdd, Nat.reduceMul, Nat.reduceLeDiff, Nat.reduceEqDiff] | simp (disch := first | (simp only [List.length_append, List.length_cons, List.length_nil] <;> omega) | rfl | omega | fail) only [kset, wset, hset, dset, bset, Nat.reduceAdd, Nat.reduceMul, Nat.reduceLeDiff, Nat.reduceEqDiff])
    · rw [if_neg hen] at hI
      obtain ⟨rfl, h0, rfl⟩ := hI
      rw [show decide (0 < (placesS A B).length) = true from decide_eq_true h0]
      repeat (first | simp only [wset, hset, dset, bset, Nat.reduceAdd, Nat.reduceMul, Nat.reduceLeDiff, Nat.reduceEqDiff] | simp (disch := first | (simp only [List.length_append, List.length_cons, List.length_nil] <;> omega) | rfl | omega | fail) only [kset, wset, hset, dset, bset, Nat.reduceAdd, Nat.reduceMul, Nat.reduceLeDiff, Nat.reduceEqDiff])

end
end Go.Abs
namespace Go.Abs

section
variable {P : Program} (T : Tbl P) {h : AHeap}
include T

end
end Go.Abs
namespace Go.Abs

theorem iada_0 {len es b o : Nat} {k : IntKind} (h : 0 < len) : iadaF len es (.ptr b o) (.int k 0) = some (.ptr b o) := by
  simp only [iadaF]; rw [if_pos (by omega)]; simp
theorem iada_1 {len es b o : Nat} {k : IntKind} (h : 1 < len) : iadaF len es (.ptr b o) (.int k 1) = some (.ptr b (o + es)) := by
  simp only [iadaF]; rw [if_pos (by omega)]; simp

section
variable {P : Program} (T : Tbl P) {h : AHeap}
include T

end
end Go.Abs
namespace Go.Abs

def apartS (x y : Int × Int) : Bool := decide (x.2 < y.1) || decide (y.2 < x.1)
def movS (x : Int × Int) (s : Int) : Int × Int := (x.1 + s, x.2 + s)
def diffS (A B : Hor) (s x : Int) : Bool := apartS (bandS A x) (movS (bandS B x) s)
def cmpK (A B : Hor) (s : Int) (k : Nat) : List Int := ((placesS A B).take k).filter (diffS A B s)
def cmpS (A B : Hor) (s : Int) : List Int := (placesS A B).filter (diffS A B s)
def shiftE (A B : Hor) (s lo : Int) : Int := firstS [firstS [chkHorS A, chkHorS B], rangeS s lo 1000]
def chkShS (A B : Hor) (s lo : Int) : Int := if shiftE A B s lo = 0 then whenS (!decide (0 < (placesS A B).length)) 7 else shiftE A B s lo

theorem cmpK_s {A B : Hor} {s : Int} {k : Nat} (hk : k < (placesS A B).length) : cmpK A B s (k + 1) = cmpK A B s k ++ (if diffS A B s (placesS A B)[k] = true then [(placesS A B)[k]] else []) := by
  rw [cmpK, List.take_add_one, List.getElem?_eq_getElem hk, List.filter_append, cmpK]
  congr 1
  cases h : diffS A B s (placesS A B)[k] <;> simp [h]
theorem cmpK_len {A B : Hor} {s : Int} {k : Nat} (va : HorV A) : (cmpK A B s k).length ≤ 256 := by
  have h1 := places_le (B := B) va
  have h2 := List.length_filter_le (diffS A B s) ((placesS A B).take k)
  have h3 : ((placesS A B).take k).length ≤ (placesS A B).length := by rw [List.length_take]; omega
  exact Nat.le_trans h2 (Nat.le_trans h3 h1)
theorem cmpK_all {A B : Hor} {s : Int} : cmpK A B s (placesS A B).length = cmpS A B s := by rw [cmpK, List.take_length]; rfl
theorem shift_ok {A B : Hor} {s lo : Int} (h : chkShS A B s lo = 0) : HorV A ∧ HorV B ∧ lo ≤ s ∧ s ≤ 1000 := by
  unfold chkShS at h
  split at h
  · rename_i he
    have hz := firstS_zero.1 (firstS_zero.1 he (firstS [chkHorS A, chkHorS B]) (by simp))
    have := rangeS_zero.1 (firstS_zero.1 he (rangeS s lo 1000) (by simp))
    exact ⟨horV_iff.1 (hz (chkHorS A) (by simp)), horV_iff.1 (hz (chkHorS B) (by simp)), this.1, this.2⟩
  · exact absurd h (by assumption)

section
variable {P : Program} (T : Tbl P) {h : AHeap}
include T

theorem r23 (x y : Int × Int) : RCall P 23 [.agg [.int .i64 x.1, .int .i64 x.2, .int .i64 y.1, .int .i64 y.2]] h (fun v _ => v = .bool (apartS x y)) := by
  refine .of T.mix T.c23 ?_
  unfold fn23
  simp only [wset, hset, dset, bset, Nat.reduceAdd, Nat.reduceMul, Nat.reduceLeDiff, Nat.reduceEqDiff, iada_0 (show 0 < 2 by decide), iada_1 (show 1 < 2 by decide)]
  by_cases c : x.2 < y.1
  · simp only [wset, hset, dset, bset, Nat.reduceAdd, Nat.reduceMul, Nat.reduceLeDiff, Nat.reduceEqDiff, eq_true c, decide_true]
    rw [apartS, decide_eq_true c]; rfl
  · simp only [wset, hset, dset, bset, Nat.reduceAdd, Nat.reduceMul, Nat.reduceLeDiff, Nat.reduceEqDiff, eq_false c, decide_false, iada_0 (show 0 < 2 by decide), iada_1 (show 1 < 2 by decide)]
    rw [apartS, decide_eq_false c]; rfl

theorem r22 (x : Int × Int) (s : Int) (h1 : -(2 ^ 40) ≤ x.1 ∧ x.1 ≤ 2 ^ 40) (h2 : -(2 ^ 40) ≤ x.2 ∧ x.2 ≤ 2 ^ 40) (h3 : -(2 ^ 40) ≤ s ∧ s ≤ 2 ^ 40) : RCall P 22 [ratA x, .int .i64 s] h (fun v _ => v = ratA (movS x s)) := by
  refine .of T.mix T.c22 ?_
  unfold fn22
  repeat (first | simp only [wset, hset, dset, bset, Nat.reduceAdd, Nat.reduceMul, Nat.reduceLeDiff, Nat.reduceEqDiff, wrap_in (n := x.1 + s) (by omega) (by omega), wrap_in (n := x.2 + s) (by omega) (by omega)] | simp (disch := first | (simp only [List.length_append, List.length_cons, List.length_nil] <;> omega) | rfl | omega | fail) only [kset, wset, hset, dset, bset, Nat.reduceAdd, Nat.reduceMul, Nat.reduceLeDiff, Nat.reduceEqDiff])
  rfl

theorem r16 {A B : Hor} {sa sb : AV} (oa : HorOk h A sa) (ob : HorOk h B sb) (s lo : Int) : RCall P 16 [horA A sa, horA B sb, .int .i64 s, .int .i64 lo] h (fun v _ => v = .int .i64 (chkShS A B s lo)) := by
  refine .of T.mix T.c16 ?_
  unfold fn16
  refine Ws (A2 oa.sl.one ob.sl.one) ?_
  refine WF.res T.c43 (r43 T (A := A) (B := B) (oa.ext (by repeat first | exact Ext.refl _ | refine Ext.app _ ?_)) (ob.ext (by repeat first | exact Ext.refl _ | refine Ext.app _ ?_))) ?_
  rintro _ g1 rfl
  refine Wn ?_
  refine WF.res T.c44 (r44 T _ _ _) ?_
  rintro _ g2 rfl
  refine Wn ?_
  refine WF.res T.c42 (r42 T (isSl_ints [_, _]) (by simp)) ?_
  rintro _ g3 rfl
  by_cases he : shiftE A B s lo = 0
  case neg =>
    refine Ws (show decide (firstS [firstS [chkHorS A, chkHorS B], rangeS s lo 1000] ≠ 0) = true from decide_eq_true he) ?_
    rw [chkShS, if_neg he]; rfl
  have hz := firstS_zero.1 (firstS_zero.1 he (firstS [chkHorS A, chkHorS B]) (by simp))
  have va := horV_iff.1 (hz (chkHorS A) (by simp))
  have vb := horV_iff.1 (hz (chkHorS B) (by simp))
  refine Ws (A3 (show decide (firstS [firstS [chkHorS A, chkHorS B], rangeS s lo 1000] ≠ 0) = false from decide_eq_false (fun hne => hne he)) oa.sl.one ob.sl.one) ?_
  refine WF.res T.c46 (r46 T (A := A) (B := B) (oa.ext (by repeat first | exact Ext.refl _ | refine Ext.app _ ?_)) (ob.ext (by repeat first | exact Ext.refl _ | refine Ext.app _ ?_)) va vb) ?_
  rintro _ g4 rfl
  refine Wn ?_
  refine WF.res T.c45 (r45 T _ _) ?_
  rintro _ g5 rfl
  refine Wn ?_
  rw [chkShS, if_pos he]

theorem r17 {A B : Hor} {sa sb : AV} (oa : HorOk h A sa) (ob : HorOk h B sb) (va : HorV A) (vb : HorV B) {s : Int} (hs : -1000 ≤ s ∧ s ≤ 1000) : RCall P 17 [horA A sa, horA B sb, .int .i64 s] h (fun s' h' => Fr h.length h' s' 1 ((cmpS A B s).map intRow)) := by
  refine .of T.mix T.c17 ?_
  unfold fn17
  refine Ws (A2 oa.sl.one ob.sl.one) ?_
  refine WF.res T.c20 (r20 T (A := A) (B := B) (oa.ext (by repeat first | exact Ext.refl _ | refine Ext.app _ ?_)) (ob.ext (by repeat first | exact Ext.refl _ | refine Ext.app _ ?_))) ?_
  rintro _ g2 ⟨ba, bb, rfl, hpre⟩
  refine Wn ?_
  have hpl := places_le (B := B) va
  have hb5 : ∀ (z : Nat) n e sl, (h ++ [ABlk.cells [AV.str A.name, AV.int IntKind.i64 A.err, sa] true false] ++ [ABlk.cells [AV.str B.name, AV.int IntKind.i64 B.err, sb] true false] ++ [ABlk.cells [AV.int IntKind.i64 s] true false] ++ [ABlk.cells [AV.nilSlice] true false] ++ g2)[z]? = some (.cells [.str n, .int .i64 e, sl] true false) → z ≠ (h ++ [ABlk.cells [AV.str A.name, AV.int IntKind.i64 A.err, sa] true false] ++ [ABlk.cells [AV.str B.name, AV.int IntKind.i64 B.err, sb] true false] ++ [ABlk.cells [AV.int IntKind.i64 s] true false]).length := fun z n e sl hz hzz => by
    subst hzz
    rw [at_mid] at hz
    cases hz
  refine WC.iter T.mix T.c49 (a := []) (c := [.ptr ba 0, .ptr bb 0]) rfl (iter_common T (sa := sa) (sb := sb) va vb ba bb) (fun y hy => by obtain ⟨z, _, rfl⟩ := List.mem_map.1 hy; rfl)
    (fun i h' g => ∃ out, h' = h ++ [ABlk.cells [AV.str A.name, AV.int IntKind.i64 A.err, sa] true false] ++ [ABlk.cells [AV.str B.name, AV.int IntKind.i64 B.err, sb] true false] ++ [ABlk.cells [AV.int IntKind.i64 s] true false] ++ [ABlk.cells [out] true false] ++ g2 ∧ Fr (h'.length + 1) (h' ++ [.dead] ++ g) out 1 ((cmpK A B s i).map intRow)) (fun _ _ _ => False)
    ⟨.nilSlice, rfl, .nil⟩ (fun i h' g g' hI => ?_) (fun i h' g X hl hI => ?_) (fun i hi h' g X Y hl hI => ?_) (fun e h' g hl hI => ?_)
  · obtain ⟨out, h1, h2⟩ := hI
    exact ⟨out, h1, by rw [← List.append_assoc]; exact h2.app _⟩
  · obtain ⟨out, rfl, _⟩ := hI
    refine ⟨(Ext.app g (Ext.app [X] (Ext.refl _))).some ?_, (Ext.app g (Ext.app [X] (Ext.refl _))).some ?_, oa.ext (by repeat first | exact Ext.refl _ | refine Ext.app _ ?_), ob.ext (by repeat first | exact Ext.refl _ | refine Ext.app _ ?_)⟩
    · rw [at_swap (hb5 _ _ _ _ hpre.1)]; exact hpre.1
    · rw [at_swap (hb5 _ _ _ _ hpre.2.1)]; exact hpre.2.1
  · obtain ⟨out, rfl, hfr⟩ := hI
    rw [List.length_map] at hi
    have hx := places_get hi
    have hba := band_bd va hx.1
    have hbb := band_bd vb hx.2
    have hK := cmpK_s (s := s) hi
    have hkl := cmpK_len (B := B) (s := s) (k := i) va
    rw [List.getElem_map]
    generalize (placesS A B)[i] = x at *
    simp only [wset, hset, dset, bset, Nat.reduceAdd, Nat.reduceMul, Nat.reduceLeDiff, Nat.reduceEqDiff, setArgs]
    refine ⟨_, g, rfl, by simp, ?_⟩
    refine Wn ?_
    refine WF.res T.c21 (r21 T (H := A) (oa.ext (by repeat first | exact Ext.refl _ | refine Ext.app _ ?_)) va hx.1) ?_
    rintro _ g3 rfl
    refine Wn ?_
    refine WF.res T.c21 (r21 T (H := B) (ob.ext (by repeat first | exact Ext.refl _ | refine Ext.app _ ?_)) vb hx.2) ?_
    rintro _ g4 rfl
    refine Wn ?_
    refine WF.res T.c22 (r22 T (bandS B x) s (by omega) (by omega) (by omega)) ?_
    rintro _ g5 rfl
    refine Wn ?_
    refine WF.res T.c23 (r23 T (bandS A x) (movS (bandS B x) s)) ?_
    rintro _ g6 rfl
    have hN : ∀ (o' : AV) (X : ABlk), (h ++ [ABlk.cells [AV.str A.name, AV.int IntKind.i64 A.err, sa] true false] ++ [ABlk.cells [AV.str B.name, AV.int IntKind.i64 B.err, sb] true false] ++ [ABlk.cells [AV.int IntKind.i64 s] true false] ++ [ABlk.cells [o'] true false] ++ g2 ++ [X]).length = (h ++ [ABlk.cells [AV.str A.name, AV.int IntKind.i64 A.err, sa] true false] ++ [ABlk.cells [AV.str B.name, AV.int IntKind.i64 B.err, sb] true false] ++ [ABlk.cells [AV.int IntKind.i64 s] true false] ++ [ABlk.cells [out] true false] ++ g2).length + 1 := fun o' X => by simp only [List.length_append, List.length_cons, List.length_nil]; try omega
    have e9 : ∀ o', (h ++ [ABlk.cells [AV.str A.name, AV.int IntKind.i64 A.err, sa] true false] ++ [ABlk.cells [AV.str B.name, AV.int IntKind.i64 B.err, sb] true false] ++ [ABlk.cells [AV.int IntKind.i64 s] true false] ++ [ABlk.cells [o'] true false] ++ g2).length = (h ++ [ABlk.cells [AV.str A.name, AV.int IntKind.i64 A.err, sa] true false] ++ [ABlk.cells [AV.str B.name, AV.int IntKind.i64 B.err, sb] true false] ++ [ABlk.cells [AV.int IntKind.i64 s] true false] ++ [ABlk.cells [out] true false] ++ g2).length := fun o' => by simp only [List.length_append, List.length_cons, List.length_nil]
    have hfrB := hfr.swap' (hN out .dead) (hN out Y)
    cases hd : apartS (bandS A x) (movS (bandS B x) s) with
    | false =>
      have hd' : diffS A B s x = false := hd
      rw [hd', if_neg Bool.false_ne_true, List.append_nil] at hK
      refine Wn ?_
      refine ⟨_, _, mid4, by simp only [List.length_append, List.length_cons, List.length_nil], ?_⟩
      try rw [if_pos trivial]
      refine ⟨_, rfl, ?_⟩
      rw [hK]
      exact by simpa only [List.append_assoc] using ((((hfr.app g3).app g4).app g5).app g6)
    | true =>
      have hd' : diffS A B s x = true := hd
      rw [hd', if_pos rfl] at hK
      repeat (first | simp only [wset, hset, dset, bset, Nat.reduceAdd, Nat.reduceMul, Nat.reduceLeDiff, Nat.reduceEqDiff] | simp (disch := first | (simp only [List.length_append, List.length_cons, List.length_nil] <;> omega) | rfl | omega | fail) only [kset, wset, hset, dset, bset, Nat.reduceAdd, Nat.reduceMul, Nat.reduceLeDiff, Nat.reduceEqDiff])
      refine WR.app1 (h0 := h ++ [ABlk.cells [AV.str A.name, AV.int IntKind.i64 A.err, sa] true false] ++ [ABlk.cells [AV.str B.name, AV.int IntKind.i64 B.err, sb] true false] ++ [ABlk.cells [AV.int IntKind.i64 s] true false] ++ [ABlk.cells [out] true false] ++ g2 ++ [Y]) (cs := (cmpK A B s i).map intRow) (ys := [intRow x]) (by rw [hN]; exact (((((hfrB.app _).app _).app _).app _).app _)) (Fr.push (N := 0) (Nat.zero_le _) [intRow x] (by simp)).isSl (by decide) (by simp) (by simp; omega) (by repeat first | exact Ext.refl _ | refine Ext.app _ ?_) ?_
      intro g' hl' hff hkp
      have hrow : (cmpK A B s i).map intRow ++ [intRow x] = (cmpK A B s (i + 1)).map intRow := by rw [hK, List.map_append]; rfl
      rw [hrow, hN] at hff
      rw [hrow]
      refine Wn ?_
      refine ⟨_, g', rfl, by simp only [List.length_append, List.length_cons, List.length_nil]; try omega, ?_⟩
      try rw [if_pos trivial]
      refine ⟨_, rfl, ?_⟩
      rw [e9]
      exact hff.swap' (hN out Y) (hN _ .dead)
  · by_cases hen : e = .normal
    · subst hen
      rw [if_pos rfl] at hI
      obtain ⟨out, rfl, hfr⟩ := hI
      rw [List.length_map, cmpK_all] at hfr
      repeat (first | simp only [wset, hset, dset, bset, Nat.reduceAdd, Nat.reduceMul, Nat.reduceLeDiff, Nat.reduceEqDiff] | simp (disch := first | (simp only [List.length_append, List.length_cons, List.length_nil] <;> omega) | rfl | omega | fail) only [kset, wset, hset, dset, bset, Nat.reduceAdd, Nat.reduceMul, Nat.reduceLeDiff, Nat.reduceEqDiff])
      exact hfr.low (by simp only [List.length_append, List.length_cons, List.length_nil]; omega)
    · rw [if_neg hen] at hI
      exact hI.elim

theorem r7 {A B : Hor} {sa sb : AV} (oa : HorOk h A sa) (ob : HorOk h B sb) (x : Int) : RCall P 7 [horA A sa, horA B sb, .int .i64 x] h (fun v h' => ∃ s', v = .tup [s', .int .i64 (chkShS A B x (-1000))] ∧ IsSl h' s' 1 ((if chkShS A B x (-1000) = 0 then cmpS A B x else []).map intRow)) := by
  refine .of T.mix T.c7 ?_
  unfold fn7
  refine Ws (A2 oa.sl.one ob.sl.one) ?_
  refine WF.res T.c16 (r16 T (A := A) (B := B) (oa.ext (by repeat first | exact Ext.refl _ | refine Ext.app _ ?_)) (ob.ext (by repeat first | exact Ext.refl _ | refine Ext.app _ ?_)) _ _) ?_
  rintro _ g1 rfl
  by_cases he : chkShS A B x (-1000) = 0
  case neg =>
    refine Ws (show decide (chkShS A B x (-1000) ≠ 0) = true from decide_eq_true he) ?_
    rw [if_neg he]
    exact ⟨_, rfl, .nil⟩
  obtain ⟨va, vb, hx⟩ := shift_ok he
  rw [if_pos he]
  refine Ws (A3 (show decide (chkShS A B x (-1000) ≠ 0) = false from decide_eq_false (fun hne => hne he)) oa.sl.one ob.sl.one) ?_
  refine WF.res T.c17 (r17 T (A := A) (B := B) (oa.ext (by repeat first | exact Ext.refl _ | refine Ext.app _ ?_)) (ob.ext (by repeat first | exact Ext.refl _ | refine Ext.app _ ?_)) va vb hx) ?_
  rintro s' g2 hfr
  refine Wn ?_
  exact ⟨s', by rw [he], hfr.isSl⟩
end
end Go.Abs
namespace Go.Abs

def gndS (A B : Hor) (s x : Int) : Int × Int := (max (bandS A x).1 (movS (bandS B x) s).1, min (bandS A x).2 (movS (bandS B x) s).2)
def gndK (A B : Hor) (s : Int) (k : Nat) : List (Int × Int) := ((placesS A B).take k).map (gndS A B s)
def comS (A B : Hor) (s : Int) : List (Int × Int) × Int := if cmpS A B s = [] then ((placesS A B).map (gndS A B s), 0) else ([], 18)

theorem gndK_s {A B : Hor} {s : Int} {k : Nat} (hk : k < (placesS A B).length) : gndK A B s (k + 1) = gndK A B s k ++ [gndS A B s (placesS A B)[k]] := by
  rw [gndK, List.take_add_one, List.getElem?_eq_getElem hk, List.map_append, gndK]; rfl
theorem gndK_len {A B : Hor} {s : Int} {k : Nat} (va : HorV A) : (gndK A B s k).length ≤ 256 := by
  have h1 := places_le (B := B) va
  have h3 : ((placesS A B).take k).length ≤ (placesS A B).length := by rw [List.length_take]; omega
  rw [gndK, List.length_map]; omega
theorem gndK_all {A B : Hor} {s : Int} : gndK A B s (placesS A B).length = (placesS A B).map (gndS A B s) := by rw [gndK, List.take_length]
theorem cmp_ne {A B : Hor} {s : Int} {i : Nat} (hi : i < (placesS A B).length) (h : diffS A B s (placesS A B)[i] = true) : cmpS A B s ≠ [] := by
  intro h0
  have : (placesS A B)[i] ∈ cmpS A B s := List.mem_filter.2 ⟨List.getElem_mem hi, h⟩
  rw [h0] at this; cases this
theorem mid6 {X Y g a b c d e f : AHeap} : X ++ Y ++ g ++ a ++ b ++ c ++ d ++ e ++ f = X ++ Y ++ (g ++ a ++ b ++ c ++ d ++ e ++ f) := by simp only [List.append_assoc]

section
variable {P : Program} (T : Tbl P) {h : AHeap}
include T

set_option maxHeartbeats 2000000 in
theorem r10 {A B : Hor} {sa sb : AV} (oa : HorOk h A sa) (ob : HorOk h B sb) (s : Int) : RCall P 10 [horA A sa, horA B sb, .int .i64 s] h (fun v h' => ∃ s', v = .tup [s', .int .i64 (if chkShS A B s (-1000) = 0 then (comS A B s).2 else chkShS A B s (-1000))] ∧ IsSl h' s' 2 ((if chkShS A B s (-1000) = 0 then (comS A B s).1 else []).map ratRow)) := by
  refine .of T.mix T.c10 ?_
  unfold fn10
  refine Ws (A2 oa.sl.one ob.sl.one) ?_
  refine WF.res T.c16 (r16 T (A := A) (B := B) (oa.ext (by repeat first | exact Ext.refl _ | refine Ext.app _ ?_)) (ob.ext (by repeat first | exact Ext.refl _ | refine Ext.app _ ?_)) _ _) ?_
  rintro _ g1 rfl
  by_cases he : chkShS A B s (-1000) = 0
  case neg =>
    repeat (first | simp only [wset, hset, dset, bset, Nat.reduceAdd, Nat.reduceMul, Nat.reduceLeDiff, Nat.reduceEqDiff, show decide (chkShS A B s (-1000) ≠ 0) = true from decide_eq_true he] | simp (disch := first | (simp only [List.length_append, List.length_cons, List.length_nil] <;> omega) | rfl | omega | fail) only [kset, wset, hset, dset, bset, Nat.reduceAdd, Nat.reduceMul, Nat.reduceLeDiff, Nat.reduceEqDiff])
    rw [if_neg he, if_neg he]
    exact ⟨_, rfl, .nil⟩
  obtain ⟨va, vb, hs⟩ := shift_ok he
  rw [if_pos he, if_pos he]
  refine Ws (A3 (show decide (chkShS A B s (-1000) ≠ 0) = false from decide_eq_false (fun hne => hne he)) oa.sl.one ob.sl.one) ?_
  refine WF.res T.c20 (r20 T (A := A) (B := B) (oa.ext (by repeat first | exact Ext.refl _ | refine Ext.app _ ?_)) (ob.ext (by repeat first | exact Ext.refl _ | refine Ext.app _ ?_))) ?_
  rintro _ g2 ⟨ba, bb, rfl, hpre⟩
  refine Wn ?_
  have hpl := places_le (B := B) va
  have hb5 : ∀ (z : Nat) n e sl, (h ++ [ABlk.cells [AV.str A.name, AV.int IntKind.i64 A.err, sa] true false] ++ [ABlk.cells [AV.str B.name, AV.int IntKind.i64 B.err, sb] true false] ++ [ABlk.cells [AV.int IntKind.i64 s] true false] ++ [ABlk.cells [AV.nilSlice] true false] ++ [ABlk.cells [AV.int IntKind.i64 0] true false] ++ g1 ++ [ABlk.cells [AV.nilSlice] true false] ++ g2)[z]? = some (.cells [.str n, .int .i64 e, sl] true false) → z ≠ (h ++ [ABlk.cells [AV.str A.name, AV.int IntKind.i64 A.err, sa] true false] ++ [ABlk.cells [AV.str B.name, AV.int IntKind.i64 B.err, sb] true false] ++ [ABlk.cells [AV.int IntKind.i64 s] true false] ++ [ABlk.cells [AV.nilSlice] true false] ++ [ABlk.cells [AV.int IntKind.i64 0] true false] ++ g1).length := fun z n e sl hz hzz => by
    subst hzz
    rw [at_mid] at hz
    cases hz
  refine WC.iter T.mix T.c49 (a := []) (c := [.ptr ba 0, .ptr bb 0]) rfl (iter_common T (sa := sa) (sb := sb) va vb ba bb) (fun y hy => by obtain ⟨z, _, rfl⟩ := List.mem_map.1 hy; rfl)
    (fun i h' g => cmpK A B s i = [] ∧ ∃ out, h' = h ++ [ABlk.cells [AV.str A.name, AV.int IntKind.i64 A.err, sa] true false] ++ [ABlk.cells [AV.str B.name, AV.int IntKind.i64 B.err, sb] true false] ++ [ABlk.cells [AV.int IntKind.i64 s] true false] ++ [ABlk.cells [AV.nilSlice] true false] ++ [ABlk.cells [AV.int IntKind.i64 0] true false] ++ g1 ++ [ABlk.cells [out] true false] ++ g2 ∧ Fr (h'.length + 1) (h' ++ [.dead] ++ g) out 2 ((gndK A B s i).map ratRow))
    (fun e h' g => e = .ret ∧ cmpS A B s ≠ [] ∧ ∃ out, h' = h ++ [ABlk.cells [AV.str A.name, AV.int IntKind.i64 A.err, sa] true false] ++ [ABlk.cells [AV.str B.name, AV.int IntKind.i64 B.err, sb] true false] ++ [ABlk.cells [AV.int IntKind.i64 s] true false] ++ [ABlk.cells [AV.nilSlice] true false] ++ [ABlk.cells [AV.int IntKind.i64 18] true false] ++ g1 ++ [ABlk.cells [out] true false] ++ g2)
    ⟨rfl, .nilSlice, rfl, .nil⟩ (fun i h' g g' hI => ?_) (fun i h' g X hl hI => ?_) (fun i hi h' g X Y hl hI => ?_) (fun e h' g hl hI => ?_)
  · obtain ⟨h0, out, h1, h2⟩ := hI
    exact ⟨h0, out, h1, by rw [← List.append_assoc]; exact h2.app _⟩
  · obtain ⟨_, out, rfl, _⟩ := hI
    refine ⟨(Ext.app g (Ext.app [X] (Ext.refl _))).some ?_, (Ext.app g (Ext.app [X] (Ext.refl _))).some ?_, oa.ext (by repeat first | exact Ext.refl _ | refine Ext.app _ ?_), ob.ext (by repeat first | exact Ext.refl _ | refine Ext.app _ ?_)⟩
    · rw [at_swap (hb5 _ _ _ _ hpre.1)]; exact hpre.1
    · rw [at_swap (hb5 _ _ _ _ hpre.2.1)]; exact hpre.2.1
  · obtain ⟨hk0, out, rfl, hfr⟩ := hI
    rw [List.length_map] at hi
    have hx := places_get hi
    have hba := band_bd va hx.1
    have hbb := band_bd vb hx.2
    have hK := cmpK_s (s := s) hi
    have hG := gndK_s (s := s) hi
    have hne := cmp_ne (s := s) hi
    have hkl := gndK_len (B := B) (s := s) (k := i) va
    rw [List.getElem_map]
    generalize (placesS A B)[i] = x at *
    simp only [wset, hset, dset, bset, Nat.reduceAdd, Nat.reduceMul, Nat.reduceLeDiff, Nat.reduceEqDiff, setArgs]
    refine ⟨_, g, rfl, by simp, ?_⟩
    refine Wn ?_
    refine WF.res T.c21 (r21 T (H := A) (oa.ext (by repeat first | exact Ext.refl _ | refine Ext.app _ ?_)) va hx.1) ?_
    rintro _ g3 rfl
    refine Wn ?_
    refine WF.res T.c21 (r21 T (H := B) (ob.ext (by repeat first | exact Ext.refl _ | refine Ext.app _ ?_)) vb hx.2) ?_
    rintro _ g4 rfl
    refine Wn ?_
    refine WF.res T.c22 (r22 T (bandS B x) s (by omega) (by omega) (by omega)) ?_
    rintro _ g5 rfl
    repeat (first | simp only [wset, hset, dset, bset, Nat.reduceAdd, Nat.reduceMul, Nat.reduceLeDiff, Nat.reduceEqDiff] | simp (disch := first | (simp only [List.length_append, List.length_cons, List.length_nil] <;> omega) | rfl | omega | fail) only [kset, wset, hset, dset, bset, Nat.reduceAdd, Nat.reduceMul, Nat.reduceLeDiff, Nat.reduceEqDiff])
    refine WF.res T.c23 (r23 T (bandS A x) (movS (bandS B x) s)) ?_
    rintro _ g6 rfl
    have hN : ∀ (o' : AV) (X : ABlk), (h ++ [ABlk.cells [AV.str A.name, AV.int IntKind.i64 A.err, sa] true false] ++ [ABlk.cells [AV.str B.name, AV.int IntKind.i64 B.err, sb] true false] ++ [ABlk.cells [AV.int IntKind.i64 s] true false] ++ [ABlk.cells [AV.nilSlice] true false] ++ [ABlk.cells [AV.int IntKind.i64 0] true false] ++ g1 ++ [ABlk.cells [o'] true false] ++ g2 ++ [X]).length = (h ++ [ABlk.cells [AV.str A.name, AV.int IntKind.i64 A.err, sa] true false] ++ [ABlk.cells [AV.str B.name, AV.int IntKind.i64 B.err, sb] true false] ++ [ABlk.cells [AV.int IntKind.i64 s] true false] ++ [ABlk.cells [AV.nilSlice] true false] ++ [ABlk.cells [AV.int IntKind.i64 0] true false] ++ g1 ++ [ABlk.cells [out] true false] ++ g2).length + 1 := fun o' X => by simp only [List.length_append, List.length_cons, List.length_nil]; try omega
    have e9 : ∀ o', (h ++ [ABlk.cells [AV.str A.name, AV.int IntKind.i64 A.err, sa] true false] ++ [ABlk.cells [AV.str B.name, AV.int IntKind.i64 B.err, sb] true false] ++ [ABlk.cells [AV.int IntKind.i64 s] true false] ++ [ABlk.cells [AV.nilSlice] true false] ++ [ABlk.cells [AV.int IntKind.i64 0] true false] ++ g1 ++ [ABlk.cells [o'] true false] ++ g2).length = (h ++ [ABlk.cells [AV.str A.name, AV.int IntKind.i64 A.err, sa] true false] ++ [ABlk.cells [AV.str B.name, AV.int IntKind.i64 B.err, sb] true false] ++ [ABlk.cells [AV.int IntKind.i64 s] true false] ++ [ABlk.cells [AV.nilSlice] true false] ++ [ABlk.cells [AV.int IntKind.i64 0] true false] ++ g1 ++ [ABlk.cells [out] true false] ++ g2).length := fun o' => by simp only [List.length_append, List.length_cons, List.length_nil]
    have hfrB := hfr.swap' (hN out .dead) (hN out Y)
    cases hd : apartS (bandS A x) (movS (bandS B x) s) with
    | true =>
      have hd' : diffS A B s x = true := hd
      repeat (first | simp only [wset, hset, dset, bset, Nat.reduceAdd, Nat.reduceMul, Nat.reduceLeDiff, Nat.reduceEqDiff] | simp (disch := first | (simp only [List.length_append, List.length_cons, List.length_nil] <;> omega) | rfl | omega | fail) only [kset, wset, hset, dset, bset, Nat.reduceAdd, Nat.reduceMul, Nat.reduceLeDiff, Nat.reduceEqDiff])
      refine ⟨_, _, mid6, by simp only [List.length_append, List.length_cons, List.length_nil], ?_⟩
      rw [if_neg (by simp)]
      first | exact ⟨rfl, hne hd', out, rfl⟩ | exact ⟨hne hd', out, rfl⟩
    | false =>
      have hd' : diffS A B s x = false := hd
      rw [hd', if_neg Bool.false_ne_true, List.append_nil, hk0] at hK
      repeat (first | simp only [wset, hset, dset, bset, Nat.reduceAdd, Nat.reduceMul, Nat.reduceLeDiff, Nat.reduceEqDiff] | simp (disch := first | (simp only [List.length_append, List.length_cons, List.length_nil] <;> omega) | rfl | omega | fail) only [kset, wset, hset, dset, bset, Nat.reduceAdd, Nat.reduceMul, Nat.reduceLeDiff, Nat.reduceEqDiff])
      refine WR.app1 (h0 := h ++ [ABlk.cells [AV.str A.name, AV.int IntKind.i64 A.err, sa] true false] ++ [ABlk.cells [AV.str B.name, AV.int IntKind.i64 B.err, sb] true false] ++ [ABlk.cells [AV.int IntKind.i64 s] true false] ++ [ABlk.cells [AV.nilSlice] true false] ++ [ABlk.cells [AV.int IntKind.i64 0] true false] ++ g1 ++ [ABlk.cells [out] true false] ++ g2 ++ [Y]) (cs := (gndK A B s i).map ratRow) (ys := [[.int .i64 (max (bandS A x).1 (movS (bandS B x) s).1), .int .i64 (min (bandS A x).2 (movS (bandS B x) s).2)]]) ?f1 (Fr.push (N := 0) (Nat.zero_le _) [[.int .i64 (max (bandS A x).1 (movS (bandS B x) s).1), .int .i64 (min (bandS A x).2 (movS (bandS B x) s).2)]] (by simp)).isSl (by decide) ?f2 ?f3 (by repeat first | exact Ext.refl _ | refine Ext.app _ ?_) ?_
      case f1 => rw [hN]; exact (((((((hfrB.app _).app _).app _).app _).app _).app _).app _)
      case f2 => simp
      case f3 => simp only [List.length_cons, List.length_nil, List.length_map]; omega
      intro g' hl' hff hkp
      have hrow : (gndK A B s i).map ratRow ++ [[.int .i64 (max (bandS A x).1 (movS (bandS B x) s).1), .int .i64 (min (bandS A x).2 (movS (bandS B x) s).2)]] = (gndK A B s (i + 1)).map ratRow := by rw [hG, List.map_append]; rfl
      rw [hrow, hN] at hff
      rw [hrow]
      repeat (first | simp only [wset, hset, dset, bset, Nat.reduceAdd, Nat.reduceMul, Nat.reduceLeDiff, Nat.reduceEqDiff] | simp (disch := first | (simp only [List.length_append, List.length_cons, List.length_nil] <;> omega) | rfl | omega | fail) only [kset, wset, hset, dset, bset, Nat.reduceAdd, Nat.reduceMul, Nat.reduceLeDiff, Nat.reduceEqDiff])
      refine ⟨_, g', rfl, by simp only [List.length_append, List.length_cons, List.length_nil]; try omega, ?_⟩
      try rw [if_pos trivial]
      refine ⟨hK, _, rfl, ?_⟩
      rw [e9]
      exact hff.swap' (hN out Y) (hN _ .dead)
  · by_cases hen : e = .normal
    · subst hen
      rw [if_pos rfl] at hI
      obtain ⟨hk, out, rfl, hfr⟩ := hI
      rw [List.length_map] at hk hfr
      rw [cmpK_all] at hk
      rw [gndK_all] at hfr
      rw [comS, if_pos hk]
      have ho := hfr.isSl.one
      repeat (first | simp only [wset, hset, dset, bset, Nat.reduceAdd, Nat.reduceMul, Nat.reduceLeDiff, Nat.reduceEqDiff, ho] | simp (disch := first | (simp only [List.length_append, List.length_cons, List.length_nil] <;> omega) | rfl | omega | fail) only [kset, wset, hset, dset, bset, Nat.reduceAdd, Nat.reduceMul, Nat.reduceLeDiff, Nat.reduceEqDiff, ho])
      refine ⟨by repeat first | exact Ext.refl _ | refine Ext.app _ ?_, out, rfl, Fr.isSl (hfr.swap' ?_ ?_)⟩
      · simp only [List.length_append, List.length_cons, List.length_nil]
      · simp only [List.length_append, List.length_cons, List.length_nil]
    · rw [if_neg hen] at hI
      obtain ⟨rfl, hne, out, rfl⟩ := hI
      rw [comS, if_neg hne]
      repeat (first | simp only [wset, hset, dset, bset, Nat.reduceAdd, Nat.reduceMul, Nat.reduceLeDiff, Nat.reduceEqDiff] | simp (disch := first | (simp only [List.length_append, List.length_cons, List.length_nil] <;> omega) | rfl | omega | fail) only [kset, wset, hset, dset, bset, Nat.reduceAdd, Nat.reduceMul, Nat.reduceLeDiff, Nat.reduceEqDiff])
      exact ⟨by repeat first | exact Ext.refl _ | refine Ext.app _ ?_, _, rfl, .nil⟩
end
end Go.Abs
namespace Go.Abs

def befM (f : Int → Nat) (a b : Int) : Prop := f a < f b ∨ (f a = f b ∧ (max a (-a) < max b (-b) ∨ (max a (-a) = max b (-b) ∧ a < b)))
def BestM (f : Int → Nat) (lo hi m : Int) : Prop := lo ≤ m ∧ m ≤ hi ∧ ∀ s, lo ≤ s → s ≤ hi → s = m ∨ befM f m s
variable {f : Int → Nat} {lo hi m m' : Int}
theorem BestM.uniq (h1 : BestM f lo hi m) (h2 : BestM f lo hi m') : m = m' := by
  have a := h1.2.2 m' h2.1 h2.2.1
  have b := h2.2.2 m h1.1 h1.2.1
  simp only [befM] at a b
  omega
theorem BestM.one {a : Int} : BestM f a a a := ⟨Int.le_refl _, Int.le_refl _, fun s h1 h2 => Or.inl (by omega)⟩
theorem BestM.one' {a b c : Int} (h1 : b = a) (h2 : c = a) : BestM f a b c := by subst h1; subst h2; exact BestM.one
theorem BestM.up (h : BestM f lo hi m) (c : befM f (hi + 1) m) : BestM f lo (hi + 1) (hi + 1) := by
  refine ⟨by have := h.1; have := h.2.1; omega, Int.le_refl _, fun s h1 h2 => ?_⟩
  by_cases hs : s = hi + 1
  · exact .inl hs
  · have := h.2.2 s h1 (by omega)
    simp only [befM] at *
    rcases this with rfl | this
    · right; exact c
    · right; omega
theorem BestM.stay (h : BestM f lo hi m) (c : ¬ befM f (hi + 1) m) : BestM f lo (hi + 1) m := by
  have h1' := h.2.1
  refine ⟨h.1, by omega, fun s h1 h2 => ?_⟩
  by_cases hs : s = hi + 1
  · subst hs
    right
    simp only [befM] at *
    omega
  · exact h.2.2 s h1 (by omega)
theorem BestM.dn (h : BestM f lo hi m) (hl : lo = -hi) : BestM f (lo - 1) hi (if f (lo - 1) < f m then lo - 1 else m) := by
  have h1' := h.1
  have h2' := h.2.1
  split
  · rename_i c
    refine ⟨Int.le_refl _, by omega, fun s h1 h2 => ?_⟩
    by_cases hs : s = lo - 1
    · exact .inl hs
    · have := h.2.2 s (by omega) h2
      right
      simp only [befM] at *
      rcases this with rfl | this
      · exact .inl c
      · left; omega
  · rename_i c
    refine ⟨by omega, h2', fun s h1 h2 => ?_⟩
    by_cases hs : s = lo - 1
    · subst hs
      right
      simp only [befM]
      omega
    · exact h.2.2 s (by omega) h2
theorem BestM.pl (h : BestM f lo hi m) (hl : lo = -(hi + 1)) (h0 : 0 ≤ hi) : BestM f lo (hi + 1) (if f (hi + 1) < f m then hi + 1 else m) := by
  have h1' := h.1
  have h2' := h.2.1
  split
  · rename_i c
    exact h.up (.inl c)
  · rename_i c
    refine h.stay ?_
    simp only [befM]
    omega

def mtK (f : Int → Nat) : Nat → Int
  | 0 => 0
  | n + 1 =>
    let c := if f (-(n : Int) - 1) < f (mtK f n) then -(n : Int) - 1 else mtK f n
    if f ((n : Int) + 1) < f c then (n : Int) + 1 else c
theorem mtK_best : ∀ n : Nat, BestM f (-(n : Int)) n (mtK f n)
  | 0 => BestM.one
  | n + 1 => by
    have h1 := (mtK_best n).dn rfl
    have h2 := h1.pl (by omega) (by omega)
    have e : -((n + 1 : Nat) : Int) = -(n : Int) - 1 := by omega
    rw [e]; exact h2
def cmpI (a b : Int) : Int := if a < b then -1 else if b < a then 1 else 0
def ordM (f : Int → Nat) (a b : Int) : Int := firstS [cmpI (f a) (f b), cmpI (max a (-a)) (max b (-b)), cmpI a b]
theorem ordM_neg {a b : Int} : ordM f a b < 0 ↔ befM f a b := by
  simp only [ordM, firstS, cmpI, befM]
  repeat' split
  all_goals (constructor <;> intro <;> omega)
end Go.Abs
namespace Go.Abs

section
variable {P : Program} (T : Tbl P) {h : AHeap}
include T

end
end Go.Abs
namespace Go.Abs

def mtRow (x : Int × AV) : List AV := [.int .i64 x.1, x.2]
def minL (c : Int × AV → Int × AV → Int) : Int × AV → List (Int × AV) → Int × AV
  | m, [] => m
  | m, x :: r => minL c (if c x m < 0 then x else m) r
def lenS (A B : Hor) (s : Int) : Nat := (cmpS A B s).length
def matchM (A B : Hor) (x : Int) : Int := mtK (lenS A B) x.toNat

theorem minL_mem {c : Int × AV → Int × AV → Int} : ∀ {R : List (Int × AV)} {m : Int × AV}, minL c m R = m ∨ minL c m R ∈ R
  | [], m => .inl rfl
  | x :: r, m => by
    rw [minL]
    split
    · rcases @minL_mem c r x with h | h
      · rw [h]; exact .inr (List.mem_cons_self ..)
      · exact .inr (List.mem_cons_of_mem _ h)
    · rcases @minL_mem c r m with h | h
      · exact .inl h
      · exact .inr (List.mem_cons_of_mem _ h)
theorem minL_best {f : Int → Nat} {L : List (Int × AV)} {lo : Int} (hL : ∀ i (hi : i < L.length), L[i].1 = lo + i) : ∀ (n j : Nat) (m : Int × AV), n = L.length - j → j ≤ L.length → BestM f lo (lo + j - 1) m.1 → BestM f lo (lo + L.length - 1) (minL (fun x y => ordM f x.1 y.1) m (L.drop j)).1
  | 0, j, m, hn, hj, hb => by
    rw [List.drop_eq_nil_of_le (by omega), minL]
    rw [show L.length = j by omega]; exact hb
  | n + 1, j, m, hn, hj, hb => by
    have hlt : j < L.length := by omega
    have h1 := hL j hlt
    rw [List.drop_eq_getElem_cons hlt, minL]
    refine minL_best hL n (j + 1) _ (by omega) (by omega) ?_
    have e1 : lo + ((j + 1 : Nat) : Int) - 1 = lo + j - 1 + 1 := by omega
    have e2 : L[j].1 = lo + j - 1 + 1 := by omega
    rw [e1]
    by_cases hc : ordM f L[j].1 m.1 < 0
    · rw [if_pos hc, e2]; rw [ordM_neg, e2] at hc; exact hb.up hc
    · rw [if_neg hc]; rw [ordM_neg, e2] at hc; exact hb.stay hc

section
variable {P : Program} (T : Tbl P) {h : AHeap}
include T

theorem r70 (a : Int) : RCall P 70 [.int .i64 a] h (fun v _ => v = .bool false) := by
  refine .of T.mix T.c70 ?_
  unfold fn70
  simp only [wset, hset, dset, bset, Nat.reduceAdd, Nat.reduceMul, Nat.reduceLeDiff, Nat.reduceEqDiff, ne_eq, not_true_eq_false, decide_false]
theorem y48 (a b : Int) : RCall P 48 [.int .i64 a, .int .i64 b] h (fun v _ => v = .int .i64 (cmpI a b)) := by
  refine .of T.mix T.c48 ?_
  unfold fn48
  refine Wn ?_
  refine WF.res T.c70 (r70 T _) ?_
  rintro _ g1 rfl
  refine Wn ?_
  refine WF.res T.c70 (r70 T _) ?_
  rintro _ g2 rfl
  by_cases h1 : a < b
  · simp only [wset, hset, dset, bset, Nat.reduceAdd, Nat.reduceMul, Nat.reduceLeDiff, Nat.reduceEqDiff, eq_true h1, decide_true]
    rw [cmpI, if_pos h1]
  · by_cases h2 : b < a
    · simp only [wset, hset, dset, bset, Nat.reduceAdd, Nat.reduceMul, Nat.reduceLeDiff, Nat.reduceEqDiff, eq_false h1, eq_true h2, decide_true, decide_false]
      rw [cmpI, if_neg h1, if_pos h2]
    · simp only [wset, hset, dset, bset, Nat.reduceAdd, Nat.reduceMul, Nat.reduceLeDiff, Nat.reduceEqDiff, eq_false h1, eq_false h2, decide_false]
      rw [cmpI, if_neg h1, if_neg h2]

theorem r47 {s : AV} {l : List Int} (hs : IsSl h s 1 (l.map intRow)) (hl : l.length < 2 ^ 62) : RCall P 47 [s] h (fun v _ => v = .int .i64 (firstS l)) := by
  refine .of T.mix T.c47 ?_
  unfold fn47
  refine Ws hs.lenm ?_
  refine WL.inv T.mix (fun n ts h' => ∃ k : Nat, k ≤ l.length ∧ n = l.length - k ∧ h' = h ∧ firstS l = firstS (l.drop k) ∧ ts.length = 18 ∧ slot ts 3 = .int .i64 0 ∧ slot ts 6 = s ∧ slot ts 7 = .int .i64 l.length ∧ slot ts 8 = .int .i64 k) l.length
    ⟨0, by omega, rfl, rfl, rfl, rfl, rfl, rfl, rfl, rfl⟩ ?_
  rintro _ ts _ ⟨k, hk, rfl, rfl, hf, hlen, t3, t6, t7, t8⟩
  rw [expl ts 18 hlen]
  by_cases hlt : k < l.length
  · have e3 : (k : Int) < l.length := by omega
    have hld : ∀ {kk : AHeap}, Ext _ kk → loadF none (elp s 1 k) (fun b => kk[b]?) = some (.int .i64 l[k], .keep) := fun {kk} e => hs.l1m hlt rfl e
    rw [List.drop_eq_getElem_cons hlt, firstS] at hf
    simp only [wset, hset, dset, bset, Nat.reduceAdd, Nat.reduceMul, Nat.reduceLeDiff, Nat.reduceEqDiff, t3, t6, t7, t8, e3, decide_true, hs.ixm hlt, hld (Ext.refl _)]
    by_cases h0 : l[k] = 0
    · rw [if_pos h0] at hf
      refine Ws (A6 (show decide (l[k] ≠ 0) = false from decide_eq_false (fun hne => hne h0)) @t3 @t6 @t7 @t8 (wrapN (show k + 1 < 2 ^ 63 by omega))) ?_
      refine ⟨_, ?_, k + 1, by omega, rfl, hf, rfl⟩
      omega
    · rw [if_neg h0] at hf
      refine Ws (show decide (l[k] ≠ 0) = true from decide_eq_true h0) ?_
      rw [hf]
  · have e3 : ¬ (k : Int) < l.length := by omega
    rw [List.drop_eq_nil_of_le (by omega), firstS] at hf
    refine Ws (A6 @t3 @t6 @t7 @t8 @e3 @decide_false) ?_
    rw [hf]

theorem r19 {a b : Int} {sa sb : AV} {La Lb : List Int} (ha : IsSl h sa 1 (La.map intRow)) (hb : IsSl h sb 1 (Lb.map intRow)) (h1 : -(2 ^ 40) ≤ a ∧ a ≤ 2 ^ 40) (h2 : -(2 ^ 40) ≤ b ∧ b ≤ 2 ^ 40) :
    RCall P 19 [.agg [.int .i64 a, sa], .agg [.int .i64 b, sb]] h (fun v _ => v = .int .i64 (firstS [cmpI La.length Lb.length, cmpI (max a (-a)) (max b (-b)), cmpI a b])) := by
  refine .of T.mix T.c19 ?_
  unfold fn19
  refine Ws (A4 ha.one hb.one ha.lenm hb.lenm) ?_
  refine WF.res T.c48 (y48 T _ _) ?_
  rintro _ g1 rfl
  have w1 : IntKind.i64.wrap (0 - a) = -a := by rw [wrap_in (by omega) (by omega)]; omega
  have w2 : IntKind.i64.wrap (0 - b) = -b := by rw [wrap_in (by omega) (by omega)]; omega
  refine Ws (A2 @w1 @w2) ?_
  refine WF.res T.c48 (y48 T _ _) ?_
  rintro _ g2 rfl
  refine Wn ?_
  refine WF.res T.c48 (y48 T _ _) ?_
  rintro _ g3 rfl
  refine Wn ?_
  refine WF.res T.c47 (r47 T (isSl_ints [_, _, _]) (by simp)) ?_
  rintro _ g4 rfl
  exact Wn trivial

theorem r18 {L : List (Int × AV)} {s f : AV} (hs : IsSl h s 2 (L.map mtRow)) (hl : L.length < 2 ^ 62) (h0 : 0 < L.length) (ho : ∀ x ∈ L, x.2.one = true) (c : Int × AV → Int × AV → Int)
    (hf : ∀ x ∈ L, ∀ y ∈ L, ∀ k, Ext h k → VCall P f [.agg (mtRow x), .agg (mtRow y)] k (fun v _ => v = .int .i64 (c x y))) : RCall P 18 [s, f] h (fun v _ => v = .agg (mtRow (minL c L[0] (L.drop 1)))) := by
  refine .of T.mix T.c18 ?_
  unfold fn18
  have ho0 := ho L[0] (List.getElem_mem h0)
  obtain ⟨M, hM⟩ : ∃ M, M = minL c L[0] (L.drop 1) := ⟨_, rfl⟩
  rw [← hM]
  have hld : ∀ {i : Nat} (hi : i < L.length) {kk : AHeap}, Ext h kk → loadF (some 2) (elp s 2 i) (fun b => kk[b]?) = some (.agg [.int .i64 L[i].1, L[i].2], .keep) := fun {i} hi {kk} e => hs.ldm hi e
  simp only [wset, hset, dset, bset, Nat.reduceAdd, Nat.reduceMul, Nat.reduceLeDiff, Nat.reduceEqDiff, hs.lenm, show decide ((L.length : Int) < 1) = false from decide_eq_false (by omega), hs.ix0 h0, hld h0, ho0]
  refine WL.inv T.mix (fun n ts h' => ∃ (k : Nat) (m : Int × AV) (g : AHeap), k ≤ L.length ∧ n = L.length - k ∧ h' = h ++ [ABlk.cells [AV.int IntKind.i64 0, AV.nilSlice] true false] ++ [ABlk.cells [AV.int IntKind.i64 m.1, m.2] true false] ++ g ∧ m ∈ L ∧ M = minL c m (L.drop k) ∧ ts.length = 33 ∧ slot ts 0 = s ∧ slot ts 1 = f ∧ slot ts 4 = .ptr h.length 0 ∧ slot ts 5 = .ptr (h ++ [ABlk.cells [AV.int IntKind.i64 0, AV.nilSlice] true false]).length 0 ∧ slot ts 6 = .int .i64 k) (L.length - 1)
    ⟨1, L[0], [], by omega, rfl, by rw [List.append_nil], List.getElem_mem h0, hM, rfl, rfl, rfl, rfl, rfl, rfl⟩ ?_
  rintro _ ts _ ⟨k, m, g, hk, rfl, rfl, hm, hmin, hlen, t0, t1, t4, t5, t6⟩
  rw [expl ts 33 hlen]
  have hom := ho m hm
  by_cases hlt : k < L.length
  · have e3 : (k : Int) < L.length := by omega
    have hok := ho L[k] (List.getElem_mem hlt)
    rw [List.drop_eq_getElem_cons hlt, minL] at hmin
    simp only [wset, hset, dset, bset, Nat.reduceAdd, Nat.reduceMul, Nat.reduceLeDiff, Nat.reduceEqDiff, t0, t1, t4, t5, t6, hs.lenm, e3, decide_true, hs.ixm hlt, hld hlt, hom]
    refine WF.val (hf L[k] (List.getElem_mem hlt) m hm _ (by repeat first | exact Ext.refl _ | refine Ext.app _ ?_)) ?_
    rintro _ g1 rfl
    by_cases hc : c L[k] m < 0
    · rw [if_pos hc] at hmin
      repeat (first | simp only [wset, hset, dset, bset, Nat.reduceAdd, Nat.reduceMul, Nat.reduceLeDiff, Nat.reduceEqDiff, eq_true hc, decide_true, t0, t1, t4, t5, t6, hs.ixm hlt, hld hlt, hok, wrapN (show k + 1 < 2 ^ 63 by omega)] | simp (disch := first | (simp only [List.length_append, List.length_cons, List.length_nil] <;> omega) | rfl | omega | fail) only [kset, wset, hset, dset, bset, Nat.reduceAdd, Nat.reduceMul, Nat.reduceLeDiff, Nat.reduceEqDiff, t0, t1, t4, t5, t6, hok])
      refine ⟨_, ?_, k + 1, L[k], g ++ g1, by omega, rfl, by simp only [List.append_assoc], List.getElem_mem hlt, hmin, rfl⟩
      omega
    · rw [if_neg hc] at hmin
      simp only [wset, hset, dset, bset, Nat.reduceAdd, Nat.reduceMul, Nat.reduceLeDiff, Nat.reduceEqDiff, eq_false hc, decide_false, t0, t1, t4, t5, t6, wrapN (show k + 1 < 2 ^ 63 by omega)]
      refine ⟨_, ?_, k + 1, m, g ++ g1, by omega, rfl, by simp only [List.append_assoc], hm, hmin, rfl⟩
      omega
  · have e3 : ¬ (k : Int) < L.length := by omega
    rw [List.drop_eq_nil_of_le (by omega), minL] at hmin
    repeat (first | simp only [wset, hset, dset, bset, Nat.reduceAdd, Nat.reduceMul, Nat.reduceLeDiff, Nat.reduceEqDiff, t0, t1, t4, t5, t6, hs.lenm, e3, decide_false, if_true, hom] | simp (disch := first | (simp only [List.length_append, List.length_cons, List.length_nil] <;> omega) | rfl | omega | fail) only [kset, wset, hset, dset, bset, Nat.reduceAdd, Nat.reduceMul, Nat.reduceLeDiff, Nat.reduceEqDiff, t0, t1, t4, t5, t6, hom])
    rw [hmin, mtRow]
end
end Go.Abs
namespace Go.Abs

section
variable {P : Program} (T : Tbl P) {h : AHeap}
include T

theorem r9 {A B : Hor} {sa sb : AV} (oa : HorOk h A sa) (ob : HorOk h B sb) (x : Int) : RCall P 9 [horA A sa, horA B sb, .int .i64 x] h (fun v h' => ∃ s', v = .tup [.int .i64 (if chkShS A B x 0 = 0 then matchM A B x else 0), s', .int .i64 (chkShS A B x 0)] ∧ IsSl h' s' 1 ((if chkShS A B x 0 = 0 then cmpS A B (matchM A B x) else []).map intRow)) := by
  refine .of T.mix T.c9 ?_
  unfold fn9
  refine Ws (A2 oa.sl.one ob.sl.one) ?_
  refine WF.res T.c16 (r16 T (A := A) (B := B) (oa.ext (by repeat first | exact Ext.refl _ | refine Ext.app _ ?_)) (ob.ext (by repeat first | exact Ext.refl _ | refine Ext.app _ ?_)) _ _) ?_
  rintro _ g1 rfl
  by_cases he : chkShS A B x 0 = 0
  case neg =>
    refine Ws (show decide (chkShS A B x 0 ≠ 0) = true from decide_eq_true he) ?_
    rw [if_neg he, if_neg he]
    exact ⟨_, rfl, .nil⟩
  obtain ⟨va, vb, hx⟩ := shift_ok he
  rw [if_pos he, if_pos he]
  have w1 : IntKind.i64.wrap (2 * x) = 2 * x := wrap_in (by omega) (by omega)
  have w2 : IntKind.i64.wrap (2 * x + 1) = 2 * x + 1 := wrap_in (by omega) (by omega)
  refine Ws (A3 (show decide (chkShS A B x 0 ≠ 0) = false from decide_eq_false (fun hne => hne he)) @w1 @w2) ?_
  refine WL.inv T.mix (fun n ts h' => ∃ (k : Nat) (out : AV) (L : List (Int × AV)), k ≤ (2 * x + 1).toNat ∧ n = (2 * x + 1).toNat - k ∧ Ext (h ++ [ABlk.cells [AV.str A.name, AV.int IntKind.i64 A.err, sa] true false] ++ [ABlk.cells [AV.str B.name, AV.int IntKind.i64 B.err, sb] true false] ++ g1) h' ∧ L.length = k ∧ (∀ i (hi : i < L.length), L[i].1 = -x + i) ∧ Fr (h ++ [ABlk.cells [AV.str A.name, AV.int IntKind.i64 A.err, sa] true false] ++ [ABlk.cells [AV.str B.name, AV.int IntKind.i64 B.err, sb] true false] ++ g1).length h' out 2 (L.map mtRow) ∧ (∀ y ∈ L, IsSl h' y.2 1 ((cmpS A B y.1).map intRow) ∧ ∀ b o n e b0 o0 n0 e0, y.2 = .slice b o n e → out = .slice b0 o0 n0 e0 → b < b0) ∧ ts.length = 46 ∧ slot ts 2 = .int .i64 x ∧ slot ts 3 = .ptr h.length 0 ∧ slot ts 4 = .ptr (h ++ [ABlk.cells [AV.str A.name, AV.int IntKind.i64 A.err, sa] true false]).length 0 ∧ slot ts 9 = .int .i64 (chkShS A B x 0) ∧ slot ts 10 = out ∧ slot ts 22 = .int .i64 (2 * x + 1) ∧ slot ts 23 = .int .i64 k) (2 * x + 1).toNat
    ⟨0, .nilSlice, [], by omega, rfl, Ext.refl _, rfl, fun i hi => absurd hi (Nat.not_lt_zero _), .nil, by simp, rfl, rfl, rfl, rfl, rfl, rfl, rfl, rfl⟩ ?_
  rintro _ ts _ ⟨k, out, L, hk, rfl, ⟨g, rfl⟩, hlk, hsh, hfr, hel, hlen, t2, t3, t4, t9, t10, t22, t23⟩
  rw [expl ts 46 hlen]
  by_cases hlt : k < (2 * x + 1).toNat
  · have e3 : (k : Int) < 2 * x + 1 := by omega
    have w3 : IntKind.i64.wrap ((k : Int) - x) = -x + k := by rw [wrap_in (by omega) (by omega)]; omega
    refine Ws (A10 @t2 @t3 @t4 @t9 @t10 @t22 @t23 @e3 @decide_true @w3) ?_
    refine WF.res T.c17 (r17 T (A := A) (B := B) (oa.ext (by repeat first | exact Ext.refl _ | refine Ext.app _ ?_)) (ob.ext (by repeat first | exact Ext.refl _ | refine Ext.app _ ?_)) va vb (s := -x + k) (by omega)) ?_
    rintro s1 g2 hs1
    have h1o := hs1.isSl.one
    refine Ws @h1o ?_
    refine WR.app1 (h0 := h ++ [ABlk.cells [AV.str A.name, AV.int IntKind.i64 A.err, sa] true false] ++ [ABlk.cells [AV.str B.name, AV.int IntKind.i64 B.err, sb] true false] ++ g1) (cs := L.map mtRow) (ys := [mtRow (-x + k, s1)]) ((hfr.app _).app _) (Fr.push (N := 0) (Nat.zero_le _) [mtRow (-x + k, s1)] (by simp [mtRow])).isSl (by decide) (by simp) (by simp; omega) (by repeat first | exact Ext.refl _ | refine Ext.app _ ?_) ?_
    intro g' hl' hf hkp
    have hrow : L.map mtRow ++ [mtRow (-x + k, s1)] = (L ++ [(-x + (k : Int), s1)]).map mtRow := by rw [List.map_append]; rfl
    rw [hrow] at hf
    rw [hrow]
    refine Ws (A8 @t2 @t3 @t4 @t9 @t10 @t22 @t23 (wrapN (show k + 1 < 2 ^ 63 by omega))) ?_
    refine ⟨_, ?_, k + 1, _, L ++ [(-x + (k : Int), s1)], by omega, rfl, ?_, ?_, hf, ?_, rfl, rfl⟩
    · omega
    · rw [List.length_append, hlk]; rfl
    · intro i hi
      rw [List.getElem_append]
      split
      · rename_i hi'; exact hsh i hi'
      · simp only [List.length_append, List.length_cons, List.length_nil] at hi
        have : i = k := by omega
        subst this
        simp
    · intro y hy
      rcases List.mem_append.1 hy with hy | hy
      · obtain ⟨q1, q2⟩ := hel y hy
        have q1' := (q1.app g2).app [ABlk.cells [AV.int IntKind.i64 (-x + k), s1] true true]
        refine ⟨q1'.keep2 fun b o n e hb => hkp b (q1'.lt hb) fun b0 o0 n0 e0 hout => ?_, fun b o n e b0 o0 n0 e0 hb hout => ?_⟩
        · have := q2 _ _ _ _ _ _ _ _ hb hout
          omega
        · cases hout; exact q1'.lt hb
      · simp only [List.mem_singleton] at hy
        subst hy
        have q1' := hs1.isSl.app [ABlk.cells [AV.int IntKind.i64 (-x + k), s1] true true]
        refine ⟨q1'.keep2 fun b o n e hb => hkp b (q1'.lt hb) fun b0 o0 n0 e0 hout => ?_, fun b o n e b0 o0 n0 e0 hb hout => ?_⟩
        · have h3 := (hs1.lt hb).1
          have h4 := (hfr.lt hout).2
          simp only [List.length_append] at h3 h4
          omega
        · cases hout; exact q1'.lt hb
  · have e3 : ¬ (k : Int) < 2 * x + 1 := by omega
    have hlk' : (L.length : Int) = 2 * x + 1 := by omega
    have h0 : 0 < L.length := by omega
    have hb := minL_best (f := lenS A B) hsh (L.length - 1) 1 L[0] rfl (by omega) (by
      have := hsh 0 h0
      rw [this]
      exact BestM.one' (by omega) (by omega))
    have hm1 : -x + (L.length : Int) - 1 = x := by omega
    rw [hm1] at hb
    have hb2 := mtK_best (f := lenS A B) x.toNat
    rw [show ((x.toNat : Nat) : Int) = x by omega] at hb2
    have hM := hb.uniq hb2
    have hmem : minL (fun x y => ordM (lenS A B) x.1 y.1) L[0] (L.drop 1) ∈ L := by
      rcases minL_mem (c := fun x y => ordM (lenS A B) x.1 y.1) (R := L.drop 1) (m := L[0]) with h1 | h1
      · rw [h1]; exact List.getElem_mem h0
      · exact List.mem_of_mem_drop h1
    refine Ws (A9 @t2 @t3 @t4 @t9 @t10 @t22 @t23 @e3 @decide_false) ?_
    refine WF.res T.c18 (r18 T (L := L) hfr.isSl (by omega) h0 (fun y hy => (hel y hy).1.one) (fun x y => ordM (lenS A B) x.1 y.1) (fun y hy z hz k' e' => ?_)) ?_
    · refine VCall.of (a := []) (c := []) T.c19 ?_
      have b1 : ∀ w ∈ L, -(2 ^ 40) ≤ w.1 ∧ w.1 ≤ 2 ^ 40 := fun w hw => by
        obtain ⟨i, hi, rfl⟩ := List.getElem_of_mem hw
        rw [hsh i hi]; omega
      exact r19 T ((hel y hy).1.ext e') ((hel z hz).1.ext e') (b1 y hy) (b1 z hz)
    rintro _ g2 rfl
    have hfin := hel _ hmem
    generalize minL (fun x y => ordM (lenS A B) x.1 y.1) L[0] (L.drop 1) = M at *
    obtain ⟨m1, m2⟩ := M
    have hM' : m1 = matchM A B x := hM
    have ho := hfin.1.one
    simp only at ho
    simp only [wset, hset, dset, bset, Nat.reduceAdd, Nat.reduceMul, Nat.reduceLeDiff, Nat.reduceEqDiff, mtRow, ho]
    subst hM'
    exact ⟨_, by rw [he], (hfin.1.app _).app _⟩
end
end Go.Abs
namespace Go.Abs

def pkF (p : Nat → Int) : Nat → Nat → List Pk
  | _, 0 => []
  | k, m + 1 => (((2 * k : Nat) : Int), p k) :: pkF p (k + 1) m
theorem pkF_len (p : Nat → Int) : ∀ (m k : Nat), (pkF p k m).length = m
  | 0, _ => rfl
  | m + 1, k => by rw [pkF, List.length_cons, pkF_len p m (k + 1)]
theorem pkF_snoc (p : Nat → Int) : ∀ (m k : Nat), pkF p k (m + 1) = pkF p k m ++ [(((2 * (k + m) : Nat) : Int), p (k + m))]
  | 0, k => rfl
  | m + 1, k => by
    rw [pkF, pkF_snoc p m (k + 1), pkF, List.cons_append, show k + 1 + m = k + (m + 1) by omega]
theorem pkF_get (p : Nat → Int) : ∀ (m k i : Nat) (h : i < (pkF p k m).length), (pkF p k m)[i] = (((2 * (k + i) : Nat) : Int), p (k + i))
  | 0, k, i, h => by simp [pkF] at h
  | m + 1, k, 0, h => rfl
  | m + 1, k, i + 1, h => by
    have h2 : i < (pkF p (k + 1) m).length := by simpa [pkF] using h
    have := pkF_get p m (k + 1) i h2
    rw [show k + 1 + i = k + (i + 1) by omega] at this
    exact this
theorem okPk {p : Nat → Int} : ∀ (m k : Nat) (last : Int), last < 2 * k → k + m ≤ 128 → (∀ i, i < k + m → 0 ≤ p i ∧ p i ≤ 100000) → okPicks last (pkF p k m)
  | 0, _, _, _, _, _ => trivial
  | m + 1, k, last, h1, h2, h3 => by
    rw [pkF, okPicks]
    have := h3 k (by omega)
    refine ⟨⟨by omega, by omega, this.1, this.2, by omega⟩, okPk m (k + 1) _ (by omega) (by omega) fun i hi => h3 i (by omega)⟩
/-- A horizon of such picks. -/
def pkH (nm : List UInt8) (e : Int) (p : Nat → Int) (n : Nat) : Hor := ⟨nm, e, pkF p 0 n⟩
theorem pkH_v {nm : List UInt8} {e : Int} {p : Nat → Int} {n : Nat} (hn : nameS nm = true) (he : 0 ≤ e ∧ e ≤ 1000) (h1 : 1 ≤ n ∧ n ≤ 128) (hp : ∀ i, i < n → 0 ≤ p i ∧ p i ≤ 100000) : HorV (pkH nm e p n) :=
  ⟨hn, he.1, he.2, by show 0 < (pkF p 0 n).length; rw [pkF_len]; omega, by show (pkF p 0 n).length ≤ 256; rw [pkF_len]; omega, okPk n 0 (-1) (by omega) (by omega) fun i hi => hp i (by omega)⟩
theorem pkH_beg {nm : List UInt8} {e : Int} {p : Nat → Int} {n : Nat} (h1 : 1 ≤ n) : begS (pkH nm e p n) = 0 := by
  have hl : 0 < (pkH nm e p n).picks.length := by show 0 < (pkF p 0 n).length; rw [pkF_len]; omega
  rw [begS_eq hl]
  exact (congrArg Prod.fst (pkF_get p n 0 0 hl)).trans rfl
theorem pkH_end {nm : List UInt8} {e : Int} {p : Nat → Int} {n : Nat} (h1 : 1 ≤ n) : endS (pkH nm e p n) = ((2 * (n - 1) : Nat) : Int) := by
  have hl : 0 < (pkH nm e p n).picks.length := by show 0 < (pkF p 0 n).length; rw [pkF_len]; omega
  rw [endS_eq hl]
  have h2 : (pkF p 0 n).length - 1 < (pkF p 0 n).length := by rw [pkF_len]; omega
  refine (congrArg Prod.fst (pkF_get p n 0 _ h2)).trans ?_
  rw [pkF_len, Nat.zero_add]
theorem pk_places {na nb : List UInt8} {e f : Int} {p q : Nat → Int} {n : Nat} (h1 : 1 ≤ n) : placesS (pkH na e p n) (pkH nb f q n) = ivS 0 ((2 * (n - 1) : Nat) : Int) := by
  unfold placesS
  rw [pkH_beg h1, pkH_beg h1, pkH_end h1, pkH_end h1, Int.max_self, Int.min_self]
theorem low2 (n : Nat) : (lowS n 2).1 / (lowS n 2).2 = (n : Int) / 2 ∧ (-(lowS n 2).1) / (lowS n 2).2 = (-(n : Int)) / 2 := by
  unfold lowS
  rcases Nat.mod_two_eq_zero_or_one n with h | h
  · have g : Nat.gcd n 2 = 2 := by rw [Nat.gcd_comm, Nat.gcd_rec, h]; rfl
    simp only [g]
    have e1 : ((n / 2 : Nat) : Int) = (n : Int) / 2 := by omega
    have e2 : ((2 / 2 : Nat) : Int) = 1 := rfl
    rw [e2, Int.ediv_one, Int.ediv_one]
    omega
  · have g : Nat.gcd n 2 = 1 := by rw [Nat.gcd_comm, Nat.gcd_rec, h]; rfl
    simp only [g]
    have e1 : ((n / 1 : Nat) : Int) = (n : Int) := by rw [Nat.div_one]
    have e2 : ((2 / 1 : Nat) : Int) = 2 := rfl
    rw [e1, e2]
    exact ⟨rfl, rfl⟩
def stv (p : Nat → Int) (x : Nat) : Int × Int := if x % 2 = 0 then (p (x / 2), 1) else lowS (p (x / 2) + p (x / 2 + 1)).toNat 2
theorem at_pkF (p : Nat → Int) : ∀ (m k : Nat) (a : Pk) (x : Nat), (0 < k → a = (((2 * (k - 1) : Nat) : Int), p (k - 1)) ∧ 2 * k - 2 < x) → x ≤ 2 * (k + m - 1) → 0 < m → atFrom a (pkF p k m) x = stv p x
  | 0, _, _, _, _, _, h => by omega
  | m + 1, k, a, x, h1, h2, _ => by
    rw [pkF, atFrom]
    by_cases hx : x ≤ 2 * k
    · rw [if_pos (by omega)]
      unfold stepS
      by_cases he : x = 2 * k
      · rw [if_pos (by omega)]
        unfold stv
        rw [if_pos (by omega), show x / 2 = k by omega]
      · rw [if_neg (by omega)]
        have hk : 0 < k := by omega
        obtain ⟨ha, hlt⟩ := h1 hk
        have hx2 : x = 2 * (k - 1) + 1 := by omega
        unfold stv
        rw [if_neg (by omega), show x / 2 = k - 1 by omega, show k - 1 + 1 = k by omega, ha]
        show lowS (p (k - 1) * (((2 * k : Nat) : Int) - ((2 * (k - 1) : Nat) : Int)) + (p k - p (k - 1)) * ((x : Int) - ((2 * (k - 1) : Nat) : Int))).toNat (((2 * k : Nat) : Int) - ((2 * (k - 1) : Nat) : Int)).toNat = _
        have e1 : ((2 * k : Nat) : Int) - ((2 * (k - 1) : Nat) : Int) = 2 := by omega
        have e2 : (x : Int) - ((2 * (k - 1) : Nat) : Int) = 1 := by omega
        rw [e1, e2, Int.mul_one]
        have e3 : p (k - 1) * 2 + (p k - p (k - 1)) = p (k - 1) + p k := by omega
        rw [e3]; rfl
    · rw [if_neg (by omega)]
      exact at_pkF p m (k + 1) _ x (fun _ => ⟨by rw [Nat.add_sub_cancel], by omega⟩) (by omega) (by omega)
def sumP (p : Nat → Int) (x : Nat) : Int := p (x / 2) + p ((x + 1) / 2)
theorem band_pk {nm : List UInt8} {e : Int} {p : Nat → Int} {n x : Nat} (hp : ∀ i, i < n → 0 ≤ p i) (h1 : 1 ≤ n) (hx : x ≤ 2 * (n - 1)) : bandS (pkH nm e p n) (x : Int) = (sumP p x / 2 - e, -((-(sumP p x)) / 2) + e) := by
  have ha : atS (pkH nm e p n) (x : Int) = stv p x := at_pkF p n 0 (0, 0) x (fun h => by omega) (by omega) (by omega)
  unfold bandS
  rw [ha]
  show ((stv p x).1 / (stv p x).2 - e, -((-(stv p x).1) / (stv p x).2) + e) = _
  unfold stv sumP
  by_cases h : x % 2 = 0
  · rw [if_pos h, show (x + 1) / 2 = x / 2 by omega]
    show (p (x / 2) / 1 - e, -((-(p (x / 2))) / 1) + e) = _
    rw [Int.ediv_one, Int.ediv_one]
    refine Prod.ext ?_ ?_ <;> (simp only; omega)
  · rw [if_neg h, show (x + 1) / 2 = x / 2 + 1 by omega]
    obtain ⟨l1, l2⟩ := low2 (p (x / 2) + p (x / 2 + 1)).toNat
    have a1 := hp (x / 2) (by omega)
    have a2 := hp (x / 2 + 1) (by omega)
    rw [l1, l2, show (((p (x / 2) + p (x / 2 + 1)).toNat : Nat) : Int) = p (x / 2) + p (x / 2 + 1) by omega]
/-- Both surveys know the ground. -/
structure Near (p q : Nat → Int) (e f s : Int) (t : Nat → Int) (n : Nat) : Prop where
  n1 : 1 ≤ n
  p0 : ∀ i, i < n → 0 ≤ p i
  q0 : ∀ i, i < n → 0 ≤ q i
  a : ∀ i, i < n → -e ≤ p i - t i ∧ p i - t i ≤ e
  b : ∀ i, i < n → -f ≤ q i + s - t i ∧ q i + s - t i ≤ f
theorem near_no {na nb : List UInt8} {p q : Nat → Int} {e f s : Int} {t : Nat → Int} {n : Nat} (N : Near p q e f s t n) : cmpS (pkH na e p n) (pkH nb f q n) s = [] := by
  unfold cmpS
  rw [pk_places N.n1]
  refine List.filter_eq_nil_iff.2 fun x hx => ?_
  obtain ⟨h1, h2⟩ := ivS_mem.1 hx
  obtain ⟨y, rfl⟩ : ∃ y : Nat, x = (y : Int) := ⟨x.toNat, by omega⟩
  have hy : y ≤ 2 * (n - 1) := by omega
  unfold diffS apartS movS
  rw [band_pk N.p0 N.n1 hy, band_pk N.q0 N.n1 hy]
  have n1 := N.n1
  have i1 : y / 2 < n := by omega
  have i2 : (y + 1) / 2 < n := by omega
  have a1 := N.a _ i1
  have a2 := N.a _ i2
  have b1 := N.b _ i1
  have b2 := N.b _ i2
  unfold sumP
  obtain ⟨S, hS⟩ : ∃ S, S = p (y / 2) + p ((y + 1) / 2) := ⟨_, rfl⟩
  obtain ⟨R, hR⟩ : ∃ R, R = q (y / 2) + q ((y + 1) / 2) := ⟨_, rfl⟩
  rw [← hS, ← hR]
  simp only [Bool.or_eq_true, decide_eq_true_eq]
  omega
theorem near_gnd {na nb : List UInt8} {p q : Nat → Int} {e f : Int} {t : Nat → Int} {n y : Nat} (N : Near p q e f 0 t n) (hy : y ≤ 2 * (n - 1)) : (gndS (pkH na e p n) (pkH nb f q n) 0 (y : Int)).1 ≤ (gndS (pkH na e p n) (pkH nb f q n) 0 (y : Int)).2 ∧ 2 * (gndS (pkH na e p n) (pkH nb f q n) 0 (y : Int)).1 ≤ sumP t y ∧ sumP t y ≤ 2 * (gndS (pkH na e p n) (pkH nb f q n) 0 (y : Int)).2 ∧ -100000000 ≤ (gndS (pkH na e p n) (pkH nb f q n) 0 (y : Int)).1 - sumP p y / 2 + e := by
  unfold gndS movS
  rw [band_pk N.p0 N.n1 hy, band_pk N.q0 N.n1 hy]
  have n1 := N.n1
  have i1 : y / 2 < n := by omega
  have i2 : (y + 1) / 2 < n := by omega
  have a1 := N.a _ i1
  have a2 := N.a _ i2
  have b1 := N.b _ i1
  have b2 := N.b _ i2
  unfold sumP
  obtain ⟨S, hS⟩ : ∃ S, S = p (y / 2) + p ((y + 1) / 2) := ⟨_, rfl⟩
  obtain ⟨R, hR⟩ : ∃ R, R = q (y / 2) + q ((y + 1) / 2) := ⟨_, rfl⟩
  obtain ⟨U, hU⟩ : ∃ U, U = t (y / 2) + t ((y + 1) / 2) := ⟨_, rfl⟩
  rw [← hS, ← hR, ← hU]
  simp only
  omega
theorem mtK_zero {f : Int → Nat} (h : f 0 = 0) : ∀ n, mtK f n = 0
  | 0 => rfl
  | n + 1 => by
    have ih := mtK_zero h n
    show (if f ((n : Int) + 1) < f (if f (-(n : Int) - 1) < f (mtK f n) then -(n : Int) - 1 else mtK f n) then (n : Int) + 1 else (if f (-(n : Int) - 1) < f (mtK f n) then -(n : Int) - 1 else mtK f n)) = 0
    have e : (if f (-(n : Int) - 1) < f (mtK f n) then -(n : Int) - 1 else mtK f n) = 0 := by rw [ih, h, if_neg (by omega)]
    rw [e, h, if_neg (by omega)]
theorem near_match {na nb : List UInt8} {p q : Nat → Int} {e f : Int} {t : Nat → Int} {n : Nat} (N : Near p q e f 0 t n) (x : Int) : matchM (pkH na e p n) (pkH nb f q n) x = 0 := mtK_zero (by unfold lenS; rw [near_no N]; rfl) _
theorem near_com {na nb : List UInt8} {p q : Nat → Int} {e f : Int} {t : Nat → Int} {n : Nat} (N : Near p q e f 0 t n) : comS (pkH na e p n) (pkH nb f q n) 0 = ((ivS 0 ((2 * (n - 1) : Nat) : Int)).map (gndS (pkH na e p n) (pkH nb f q n) 0), 0) := by
  unfold comS
  rw [if_pos (near_no N), pk_places N.n1]
theorem chk_0k {A B : Hor} (va : HorV A) (vb : HorV B) (hp : (placesS A B).length ≠ 0) {x lo : Int} (hx : lo ≤ x ∧ x ≤ 1000) : chkShS A B x lo = 0 := by
  have h0 : shiftE A B x lo = 0 := firstS_zero.2 fun y hy => by
    simp only [List.mem_cons, List.not_mem_nil, or_false] at hy
    rcases hy with rfl | rfl
    · refine firstS_zero.2 fun y hy => ?_
      simp only [List.mem_cons, List.not_mem_nil, or_false] at hy
      rcases hy with rfl | rfl
      · exact horV_iff.2 va
      · exact horV_iff.2 vb
    · exact rangeS_zero.2 hx
  unfold chkShS
  rw [if_pos h0, decide_eq_true (show 0 < (placesS A B).length by omega)]; rfl
theorem pk_chk {na nb : List UInt8} {p q : Nat → Int} {e f : Int} {n : Nat} (va : HorV (pkH na e p n)) (vb : HorV (pkH nb f q n)) (h1 : 1 ≤ n) {x lo : Int} (hx : lo ≤ x ∧ x ≤ 1000) : chkShS (pkH na e p n) (pkH nb f q n) x lo = 0 := chk_0k va vb (by rw [pk_places h1, ivS_len]; omega) hx
end Go.Abs
namespace Go.Abs

def tdT (t : Int) : List (Int × Int) := [(0, 0), (100, t), (101, -t)]
def tdOkB (t : Int) (i : Nat) : Bool := decide (chkTs (tdT t) = 0) && (decide (1 ≤ (lvlS (tdT t) (20 * i)).2) && (decide ((lvlS (tdT t) (20 * i)).2 ≤ 100) && (decide (-1000 ≤ (lvlS (tdT t) (20 * i)).1) && (decide ((lvlS (tdT t) (20 * i)).1 ≤ 1000) && (decide (-8 ≤ rndI (lvlS (tdT t) (20 * i)).1 (lvlS (tdT t) (20 * i)).2) && decide (rndI (lvlS (tdT t) (20 * i)).1 (lvlS (tdT t) (20 * i)).2 ≤ 8))))))
set_option maxRecDepth 100000 in
theorem td_all : ((List.range 17).all fun a => (List.range 6).all fun i => tdOkB ((a : Int) - 8) i) = true := by decide +kernel
structure TdI (t : Int) (i : Nat) : Prop where
  c : chkTs (tdT t) = 0
  d1 : 1 ≤ (lvlS (tdT t) (20 * i)).2
  d2 : (lvlS (tdT t) (20 * i)).2 ≤ 100
  n1 : -1000 ≤ (lvlS (tdT t) (20 * i)).1
  n2 : (lvlS (tdT t) (20 * i)).1 ≤ 1000
  r1 : -8 ≤ rndI (lvlS (tdT t) (20 * i)).1 (lvlS (tdT t) (20 * i)).2
  r2 : rndI (lvlS (tdT t) (20 * i)).1 (lvlS (tdT t) (20 * i)).2 ≤ 8
theorem td_i {t : Int} (ht : -8 ≤ t ∧ t ≤ 8) {i : Nat} (hi : i < 6) : TdI t i := by
  have h1 := List.all_eq_true.1 td_all (t + 8).toNat (List.mem_range.2 (by omega))
  have h2 := List.all_eq_true.1 h1 i (List.mem_range.2 hi)
  have e : (((t + 8).toNat : Nat) : Int) - 8 = t := by omega
  rw [e] at h2
  unfold tdOkB at h2
  simp only [Bool.and_eq_true, decide_eq_true_eq] at h2
  obtain ⟨a, b, c, d, f, g, k⟩ := h2
  exact ⟨a, b, c, d, f, g, k⟩
/-- By how much a trace is moved. -/
def shfN (t : Int) (i : Nat) : Int := rndI (lvlS (tdT t) (20 * i)).1 (lvlS (tdT t) (20 * i)).2
def one32 : Nat := 1065353216
theorem one_grid : gridE one32 = 0 ∧ gridN one32 = 16 := by
  have := smpl_ok (n := 16) (by omega) (by omega)
  rw [show smpl 16 = one32 by unfold smpl one32; decide] at this
  exact this.2
def spkF (a : Nat) : List Nat := (List.replicate 80 0).set a one32
def spkI (a : Nat) : List Int := (List.replicate 80 0).set a 16
theorem spkF_len (a : Nat) : (spkF a).length = 80 := by simp [spkF]
theorem spkI_len (a : Nat) : (spkI a).length = 80 := by simp [spkI]
theorem spk_ok (a : Nat) : ∀ b ∈ spkF a, gridE b = 0 := fun b hb => by
  unfold spkF at hb
  rcases List.mem_or_eq_of_mem_set hb with h | h
  · rw [List.eq_of_mem_replicate h]; exact grid_z0.1
  · rw [h]; exact one_grid.1
theorem spk_n (a : Nat) : (spkF a).map gridN = spkI a := by
  unfold spkF spkI
  rw [List.map_set, List.map_replicate, grid_z0.2, one_grid.2]
theorem spkI_at {a : Nat} (ha : a < 80) (j : Int) : atZ (spkI a) j = if j = a then 16 else 0 := by
  unfold atZ
  by_cases h0 : 0 ≤ j
  · rw [if_pos h0, List.getD_eq_getElem?_getD]
    unfold spkI
    by_cases h1 : j = a
    · rw [if_pos h1, List.getElem?_set, h1, Int.toNat_natCast, if_pos rfl, if_pos (by rw [List.length_replicate]; exact ha)]; rfl
    · rw [if_neg h1, List.getElem?_set, if_neg (by omega), List.getElem?_replicate]
      split <;> rfl
  · rw [if_neg h0, if_neg (by omega)]
theorem spk_shf {c n : Int} (h0 : 0 ≤ c ∧ c < 80) (h1 : 0 ≤ c + n ∧ c + n < 80) : shfL (spkI (c + n).toNat) n = spkI c.toNat := by
  refine list_atZ (by rw [shfL_len, spkI_len, spkI_len]) fun k hk => ?_
  rw [shfL_len, spkI_len] at hk
  unfold shfL
  rw [atZ_gen (by rw [spkI_len]; exact hk), spkI_at (by omega), spkI_at (by omega)]
  by_cases h : (k : Int) = ((c.toNat : Nat) : Int)
  · rw [if_pos h, if_pos (by omega)]
  · rw [if_neg h, if_neg (by omega)]
/-- A trace with a spike. -/
def trS (i a : Nat) : Trc := ⟨fun n => if n = 4 then 20 * (i : Int) else 0, false, spkF a⟩
theorem trS_ok {i a : Nat} (hi : i < 6) : chkTr (trS i a) = 0 := by
  unfold chkTr
  have h1 : hdE (trS i a).hd = 0 := by
    unfold hdE trS
    simp only [show ¬ ((0 : Nat) = 4) by omega, show ¬ ((1 : Nat) = 4) by omega, show ¬ ((2 : Nat) = 4) by omega, show ¬ ((3 : Nat) = 4) by omega, show ¬ ((5 : Nat) = 4) by omega, show ¬ ((6 : Nat) = 4) by omega, show ¬ ((7 : Nat) = 4) by omega, if_false, if_true]
    have e4 : rangeS (20 * (i : Int)) 0 100000 = 0 := rangeS_z.2 (by omega)
    rw [e4]
    have e0 : rangeS 0 (-100000) 100000 = 0 := rfl
    have e5 : rangeS 0 (-999999999) 999999999 = 0 := rfl
    rw [e0, e5]; rfl
  rw [h1]
  have h3 : chkL (trS i a).sm = 0 := chkL_ok (by show (spkF a).length ≤ 1024; rw [spkF_len]; omega) (spk_ok a)
  rw [h3]; rfl
theorem shots_ok {L : List Trc} (h0 : 0 < L.length) (h6 : L.length ≤ 6) (h : ∀ t ∈ L, t.hole = false ∧ t.sm.length = 80 ∧ chkTr t = 0) : chkSh [115] L = 0 := by
  have hw : widN L = 80 := by
    cases L with
    | nil => simp at h0
    | cons x r =>
      rw [widN_cons, (h x List.mem_cons_self).1]
      exact (h x List.mem_cons_self).2.1
  unfold chkSh
  rw [hw]
  have e1 : firstS (L.map chkTr) = 0 := firstS_nil0 fun z hz => by
    obtain ⟨t, ht, rfl⟩ := List.mem_map.1 hz
    exact (h t ht).2.2
  have e2 : (L.any fun t => !t.hole && decide (t.sm.length ≠ 80)) = false := by
    rw [List.any_eq_false]
    intro t ht
    rw [(h t ht).2.1]
    simp
  rw [e1, e2, decide_eq_false (show ¬ L.length = 0 by omega), decide_eq_false (show ¬ 64 < L.length by omega)]
  rfl
/-- What the correction makes of it. -/
theorem cor_spk {t : Int} (ht : -8 ≤ t ∧ t ≤ 8) {i : Nat} (hi : i < 6) {c : Int} (h0 : 8 ≤ c ∧ c < 72) {s : AV} : (chgT (corG (tdT t)) (trS i (c + shfN t i).toNat, s)).hole = false ∧ (∀ b ∈ (chgT (corG (tdT t)) (trS i (c + shfN t i).toNat, s)).sm, gridE b = 0) ∧ (chgT (corG (tdT t)) (trS i (c + shfN t i).toNat, s)).sm.map gridN = spkI c.toNat := by
  have td := td_i ht hi
  have r1 := td.r1
  have r2 := td.r2
  have hs : corN (tdT t) (trS i (c + shfN t i).toNat).hd = shfN t i := by
    unfold corN shfN trS
    simp only [if_true]
  have hg : corG (tdT t) (trS i (c + shfN t i).toNat, s) = (spkI c.toNat).map smpl := by
    unfold corG
    show (shfL ((spkF (c + shfN t i).toNat).map gridN) (corN (tdT t) (trS i (c + shfN t i).toNat).hd)).map smpl = _
    unfold shfN at *
    rw [hs, spk_n, spk_shf (by omega) (by omega)]
  have hf : fitsB (spkI c.toNat) = true := fits_of fun x hx => by
    unfold spkI at hx
    rcases List.mem_or_eq_of_mem_set hx with h | h
    · rw [List.eq_of_mem_replicate h]; omega
    · rw [h]; omega
  unfold chgT
  rw [if_neg (by show ¬ (trS i (c + shfN t i).toNat).hole = true; simp [trS])]
  refine ⟨rfl, ?_, ?_⟩
  · show ∀ b ∈ corG (tdT t) (trS i (c + shfN t i).toNat, s), _
    rw [hg]
    exact (smpl_all hf).1
  · show (corG (tdT t) (trS i (c + shfN t i).toNat, s)).map gridN = _
    rw [hg]
    exact (smpl_all hf).2
set_option maxRecDepth 10000
attribute [local irreducible] WP WC WE WB WR WF WL WG WRg WQ
section
variable {P : Program} (T : Tbl P) {h : AHeap}
include T
set_option maxHeartbeats 4000000 in
theorem r12 {s : AV} {l : List Nat} {c : Nat} (hs : IsSl h s 1 (l.map fltR)) (hg : ∀ b ∈ l, gridE b = 0) (hn : l.map gridN = spkI c) (hc : 0 < c ∧ c < 80) : RCall P 12 [s] h (fun v _ => v = .tup [.int .i64 (c : Int), .int .i64 0]) := by
  refine .st1 41 T.mix T.c12 ?_;intro ts hlen t0;unfold fn12
  have hl : l.length = 80 := by
    have := congrArg List.length hn
    rw [List.length_map, spkI_len] at this
    exact this
  have hck : chkL l = 0 := chkL_ok (by omega) hg
  have d1 : decide ((0 : Int) ≠ 0) = false := rfl
  have dz : decide ((l.length : Int) = 0) = false := decide_eq_false (by omega)
  refine Rs @t0 ?_
  refine WF.ce T.c36 (r36 T hs (by omega)) fun g1 => ?_
  rw [hck]
  refine Rs (A3 @t0 hs.lenm @dz) ?_
  refine WF.ce T.c37 (r37 T _ _) fun g2 => ?_
  rw [show whenS false 12 = 0 from rfl]
  refine Rs @t0 ?_
  refine WF.ce T.c35 (r35 T (isSl_ints [_, _]) (by simp)) fun g3 => ?_
  rw [show firstS [(0 : Int), 0] = 0 from rfl]
  refine Rs (A2 @t0 @d1) ?_
  refine WF.res T.c38 (r38 T (hs.ext Xx) (by omega) T.c39 (g := gridN) (fun x hx k => r39 T (hg x hx))) ?_
  intro w g4 hw
  rw [hn] at hw
  obtain ⟨Y, hY⟩ : ∃ Y, Y = h ++ g1 ++ g2 ++ [ABlk.cells [AV.int .i64 0, AV.int .i64 0] true true] ++ g3 ++ g4 := ⟨_, rfl⟩
  have eY : Ext h Y := by rw [hY]; exact Xx
  rw [← hY] at hw ⊢
  clear hY
  have hlw := fun G => hw.lenm G
  rw [spkI_len] at hlw
  refine Rs (A2 @t0 @hlw) ?_
  refine WL.inv T.mix (fun n ts K => ∃ k : Nat, k ≤ 80 ∧ n = 80 - k ∧ K = Y ∧ ts.length = 41 ∧ slot ts 5 = .int .i64 (if k ≤ c then 0 else (c : Int)) ∧ slot ts 6 = .int .i64 (if k = 0 then -1 else if k ≤ c then 0 else 16) ∧ slot ts 21 = w ∧ slot ts 22 = .int .i64 80 ∧ slot ts 23 = .int .i64 k) 80
    ⟨0, by omega, rfl, rfl, Sn, (by simp only [wset, hset, dset, bset, Nat.reduceAdd, Nat.reduceMul, Nat.reduceLeDiff, Nat.reduceEqDiff, pset, hlen, if_false, if_true]; rw [if_pos (by omega)]), Sw, Sw, Swr, Swr⟩ ?_
  clear hlen t0
  rintro _ ts K ⟨k, hk, rfl, rfl, hlen, t5, t6, t21, t22, t23⟩
  by_cases hlt : k < 80
  case neg =>
    have e3 : decide ((k : Int) < 80) = false := decide_eq_false (by omega)
    rw [if_neg (by omega)] at t5
    refine Rs (A6 @t5 @t6 @t21 @t22 @t23 @e3) ?_
    exact ⟨eY, trivial⟩
  have e3 : decide ((k : Int) < 80) = true := decide_eq_true (by omega)
  have e5 := wrapN (n := k) (by omega)
  have hkl : k < (spkI c).length := by rw [spkI_len]; exact hlt
  have ix := hw.ixm (kk := .i64) hkl
  obtain ⟨x, hx⟩ : ∃ x, x = (spkI c)[k] := ⟨_, rfl⟩
  have ld : ∀ {kk : AHeap}, Ext K kk → loadF none (elp w 1 k) (fun b => kk[b]?) = some (.int .i64 x, .keep) := fun {kk} e => by rw [hx]; exact hw.l1m hkl rfl e
  have hxv : x = if k = c then 16 else 0 := by
    rw [hx, ← atZ_at hkl, spkI_at hc.2]
    by_cases h : k = c
    · rw [if_pos h, if_pos (by omega)]
    · rw [if_neg h, if_neg (by omega)]
  by_cases hkc : k = c
  · have hx16 : x = 16 := by rw [hxv, if_pos hkc]
    subst hx16
    rw [if_neg (by omega), if_pos (by omega)] at t6
    have w1 : IntKind.i64.wrap (0 - 16) = -16 := rfl
    have mx : foldA max2A (.int .i64 16) [.int .i64 (-16)] = some (.int .i64 16) := mx_2
    have c1 : decide ((16 : Int) ≤ 0) = false := rfl
    have c2 : decide ((16 : Int) = 16384) = false := rfl
    refine Rs (A13 @t5 @t6 @t21 @t22 @t23 @e3 @ix @ld @w1 @mx @c1 @c2 @e5) ?_
    refine ⟨80 - (k + 1), by omega, k + 1, by omega, rfl, ?_, ?_, rfl⟩
    · rw [if_neg (by omega), hkc]
    · rw [if_neg (by omega), if_neg (by omega)]
  have hx0 : x = 0 := by rw [hxv, if_neg hkc]
  subst hx0
  have w1 : IntKind.i64.wrap (0 - 0) = 0 := rfl
  have mx : foldA max2A (.int .i64 0) [.int .i64 0] = some (.int .i64 0) := mx_2
  by_cases h0 : k = 0
  · rw [if_pos h0] at t6
    have c1 : decide ((0 : Int) ≤ -1) = false := rfl
    have c2 : decide ((0 : Int) = 16384) = false := rfl
    refine Rs (A13 @t5 @t6 @t21 @t22 @t23 @e3 @ix @ld @w1 @mx @c1 @c2 @e5) ?_
    refine ⟨80 - (k + 1), by omega, k + 1, by omega, rfl, ?_, ?_, rfl⟩
    · rw [if_pos (by omega), h0]; rfl
    · rw [if_neg (by omega), if_pos (by omega)]
  rw [if_neg h0] at t6
  by_cases hkl2 : k ≤ c
  · rw [if_pos hkl2] at t6
    rw [if_pos hkl2] at t5
    have c1 : decide ((0 : Int) ≤ 0) = true := rfl
    refine Rs (A13 @t5 @t6 @t21 @t22 @t23 @e3 @ix @ld @w1 @mx @c1 @decide_true @e5) ?_
    refine ⟨80 - (k + 1), by omega, k + 1, by omega, rfl, ?_, ?_, rfl⟩
    · rw [if_pos (by omega)]
    · rw [if_neg (by omega), if_pos (by omega)]
  · rw [if_neg hkl2] at t6
    rw [if_neg hkl2] at t5
    have c1 : decide ((0 : Int) ≤ 16) = true := rfl
    refine Rs (A12 @t5 @t6 @t21 @t22 @t23 @e3 @ix @ld @w1 @mx @c1 @e5) ?_
    refine ⟨80 - (k + 1), by omega, k + 1, by omega, rfl, ?_, ?_, rfl⟩
    · rw [if_neg (by omega)]
    · rw [if_neg (by omega), if_neg (by omega)]
end
end Go.Abs
namespace Go.Abs

structure Gr where
  er : Nat → Int
  wr : Nat → Nat → Int
  td : Nat → Int
  tm : List Int
def u8R (t : Int) : List AV := [.int .u8 t]
def gC (s : AV) (g : Gr) : List AV := [s, .int .u8 (g.er 0), .int .u8 (g.er 1), .int .i8 (g.wr 0 0), .int .i8 (g.wr 0 1), .int .i8 (g.wr 0 2), .int .i8 (g.wr 0 3), .int .i8 (g.wr 0 4), .int .i8 (g.wr 0 5), .int .i8 (g.wr 1 0), .int .i8 (g.wr 1 1), .int .i8 (g.wr 1 2), .int .i8 (g.wr 1 3), .int .i8 (g.wr 1 4), .int .i8 (g.wr 1 5), .int .i8 (g.td 0), .int .i8 (g.td 1)]
/-- A ground as it is laid. -/
structure GrOk (h : AHeap) (s : AV) (g : Gr) : Prop where
  sl : IsSl h s 1 (g.tm.map u8R)
  e : ∀ j, j < 2 → 0 ≤ g.er j ∧ g.er j ≤ 255
  w : ∀ j i, j < 2 → i < 6 → -128 ≤ g.wr j i ∧ g.wr j i ≤ 127
  t : ∀ j, j < 2 → -128 ≤ g.td j ∧ g.td j ≤ 127
  m : ∀ x ∈ g.tm, 0 ≤ x ∧ x ≤ 255
theorem GrOk.ext {h k : AHeap} {s : AV} {g : Gr} (o : GrOk h s g) (x : Ext h k) : GrOk k s g := ⟨o.sl.ext x, o.e, o.w, o.t, o.m⟩
def gE (g : Gr) (j : Nat) : Int := (g.er j).tmod 4
def gT (g : Gr) (j : Nat) : Int := (g.td j).tmod 9
def gB (g : Gr) (i : Nat) : Int := 20 + (g.tm.getD i 0).tmod 40
def gP (g : Gr) (j i : Nat) : Int := gB g i + (g.wr j i).tmod (gE g j + 1)
theorem tmod_bd {x m : Int} (hm : 0 < m) : -(m - 1) ≤ x.tmod m ∧ x.tmod m ≤ m - 1 := by
  rcases Int.le_total 0 x with h | h
  · have h1 := Int.tmod_nonneg m h
    have h2 := Int.tmod_lt_of_pos x hm
    omega
  · have h1 := Int.tmod_nonneg m (show 0 ≤ -x by omega)
    have h2 := Int.tmod_lt_of_pos (-x) hm
    rw [Int.neg_tmod] at h1 h2
    omega
theorem gE_bd {h : AHeap} {s : AV} {g : Gr} (o : GrOk h s g) {j : Nat} (hj : j < 2) : 0 ≤ gE g j ∧ gE g j ≤ 3 := by
  have h1 := Int.tmod_nonneg 4 (o.e j hj).1
  have h2 := Int.tmod_lt_of_pos (g.er j) (show (0 : Int) < 4 by omega)
  unfold gE
  omega
theorem gT_bd (g : Gr) (j : Nat) : -8 ≤ gT g j ∧ gT g j ≤ 8 := by
  have := tmod_bd (x := g.td j) (m := 9) (by omega)
  unfold gT
  omega
theorem getD_bd {l : List Int} (h : ∀ x ∈ l, 0 ≤ x ∧ x ≤ 255) (i : Nat) : 0 ≤ l.getD i 0 ∧ l.getD i 0 ≤ 255 := by
  rw [List.getD_eq_getElem?_getD]
  cases hx : l[i]? with
  | none => simp
  | some y => exact h y (List.mem_of_getElem? hx)
theorem gB_bd {h : AHeap} {s : AV} {g : Gr} (o : GrOk h s g) (i : Nat) : 20 ≤ gB g i ∧ gB g i ≤ 59 := by
  have h1 := Int.tmod_nonneg 40 (getD_bd o.m i).1
  have h2 := Int.tmod_lt_of_pos (g.tm.getD i 0) (show (0 : Int) < 40 by omega)
  unfold gB
  omega
theorem gP_bd {h : AHeap} {s : AV} {g : Gr} (o : GrOk h s g) {j : Nat} (hj : j < 2) (i : Nat) : 17 ≤ gP g j i ∧ gP g j i ≤ 62 ∧ -(gE g j) ≤ gP g j i - gB g i ∧ gP g j i - gB g i ≤ gE g j := by
  have h1 := gE_bd o hj
  have h2 := gB_bd o i
  have h3 := tmod_bd (x := g.wr j i) (m := gE g j + 1) (by omega)
  unfold gP
  omega
theorem gC_one {s : AV} {g : Gr} (os : s.one = true) : (gC s g).all AV.one = true := by
  unfold gC
  simp only [List.all_cons, List.all_nil, os]
  rfl
theorem gC_box {s : AV} {g : Gr} (os : s.one = true) {N : Nat} : boxF (.agg (gC s g)) N = some (.ptr N 0, .push (.cells (gC s g) true false)) := by
  unfold boxF
  show (if (gC s g).all AV.one = true then _ else _) = _
  rw [if_pos (gC_one os)]
  rfl
theorem gC_ld {s : AV} {g : Gr} : ldB (some 17) 0 (.cells (gC s g) true false) = some (.agg (gC s g), .keep) := rfl
theorem gC_e {s : AV} {g : Gr} {j : Nat} (hj : j < 2) : ldV (gC s g)[1 + j]? = some (.int .u8 (g.er j), .keep) := by
  rcases (show j = 0 ∨ j = 1 by omega) with rfl | rfl <;> rfl
theorem gC_t {s : AV} {g : Gr} {j : Nat} (hj : j < 2) : ldV (gC s g)[15 + j]? = some (.int .i8 (g.td j), .keep) := by
  rcases (show j = 0 ∨ j = 1 by omega) with rfl | rfl <;> rfl
theorem gC_w {s : AV} {g : Gr} {j i : Nat} (hj : j < 2) (hi : i < 6) : ldV (gC s g)[3 + j * 6 + i]? = some (.int .i8 (g.wr j i), .keep) := by
  rcases (show j = 0 ∨ j = 1 by omega) with rfl | rfl <;> rcases (show i = 0 ∨ i = 1 ∨ i = 2 ∨ i = 3 ∨ i = 4 ∨ i = 5 by omega) with rfl | rfl | rfl | rfl | rfl | rfl <;> rfl
theorem ia_j {b o j : Nat} (hj : j < 2) : iadaF 2 1 (.ptr b o) (.int .i64 (j : Int)) = some (.ptr b (o + j)) := by unfold iadaF; simp; omega
theorem ia_j6 {b o j : Nat} (hj : j < 2) : iadaF 2 6 (.ptr b o) (.int .i64 (j : Int)) = some (.ptr b (o + j * 6)) := by unfold iadaF; simp; omega
theorem ia_6 {b o i : Nat} (hi : i < 6) : iadaF 6 1 (.ptr b o) (.int .i64 (i : Int)) = some (.ptr b (o + i)) := by unfold iadaF; simp; omega
theorem hor_fill {nm : List UInt8} {e : Int} {v : AV} (hv : v.cells = [v]) : fillA [.str [], .int .i64 0, .nilSlice] [(0, 1, .str nm), (1, 1, .int .i64 e), (2, 1, v)] = some [.str nm, .int .i64 e, v] := by
  unfold fillA
  rw [if_pos ⟨rfl, by decide⟩]
  unfold fillA
  rw [if_pos ⟨rfl, by show 1 + 1 ≤ 3; omega⟩]
  unfold fillA
  rw [hv, if_pos ⟨rfl, by show 2 + 1 ≤ 3; omega⟩]
  rfl
theorem hor_st {nm : List UInt8} {e : Int} {v a0 a1 a2 : AV} (ov : v.one = true) {n : Nat} : stB 3 0 (.agg [.str nm, .int .i64 e, v]) n (.cells [a0, a1, a2] true false) = some (undefA, .set n (.cells [.str nm, .int .i64 e, v] true false)) := (stB_agg rfl (by simp only [List.all_cons, List.all_nil, ov]; rfl) (by show 0 + 3 ≤ 3; omega)).trans rfl
set_option maxRecDepth 10000
attribute [local irreducible] WP WC WE WB WR WF WL WG WRg WQ
section
variable {P : Program} (T : Tbl P) {h : AHeap}
include T
set_option maxHeartbeats 2000000 in
theorem r5 {s : AV} {g : Gr} (o : GrOk h s g) : RCall P 5 [.agg (gC s g)] h (fun v _ => v = .bool (decide (1 ≤ g.tm.length) && decide (g.tm.length ≤ 6))) := by
  refine .st1 13 T.mix T.c5 ?_;intro ts hlen t0;unfold fn5
  have bx := @gC_box s g o.sl.one
  have l0 : ldV (gC s g)[0]? = some (s, .keep) := rfl
  have hlm := fun G => o.sl.lenm G
  by_cases h1 : 1 ≤ g.tm.length
  case neg =>
    have d1 : decide ((1 : Int) ≤ (g.tm.length : Int)) = false := decide_eq_false (by omega)
    rw [decide_eq_false h1, Bool.false_and]
    exact Rs (A5 @t0 @bx @l0 @hlm @d1) trivial
  have d1 : decide ((1 : Int) ≤ (g.tm.length : Int)) = true := decide_eq_true (by omega)
  have d2 : decide ((g.tm.length : Int) ≤ 6) = decide (g.tm.length ≤ 6) := decide_eq_decide.2 (by omega)
  rw [decide_eq_true h1, Bool.true_and]
  exact Rs (A6 @t0 @bx @l0 @hlm @d1 @d2) trivial
set_option maxHeartbeats 2000000 in
theorem r8 {nm : List UInt8} (hnm : nm.length < 2 ^ 63) {e : Int} {s : AV} {p : Nat → Int} {n : Nat} (hn : n ≤ 128) (hs : IsSl h s 2 ((pkF p 0 n).map pkRow)) : RCall P 8 [.str nm, .int .i64 e, s] h (fun v h' => ∃ s', v = horA (pkH nm e p n) s' ∧ HorOk h' (pkH nm e p n) s') := by
  refine .st3 13 T.mix T.c8 ?_;intro ts hlen t0 t1 t2;unfold fn8
  have bx : ∀ {N : Nat}, boxF (.agg [.str [], .int .i64 0, .nilSlice]) N = some (.ptr N 0, .push (.cells [.str [], .int .i64 0, .nilSlice] true false)) := fun {N} => rfl
  have os := hs.one
  refine Rs (A5 @t0 @t1 @t2 @bx @os) ?_
  obtain ⟨Y, hY⟩ : ∃ Y, Y = h ++ [ABlk.cells [AV.str [], .int .i64 0, .nilSlice] true false] := ⟨_, rfl⟩
  have eY : Ext h Y := by rw [hY]; exact Xx
  have m6 : Y[h.length]? = some (.cells [AV.str [], .int .i64 0, .nilSlice] true false) := by rw [hY]; exact at_new
  obtain ⟨b6, hb6⟩ : ∃ b, b = h.length := ⟨_, rfl⟩
  have hbe := hb6
  rw [← hb6] at m6
  rw [← hY, ← hb6]
  clear hY hb6
  refine WR.appz (N := Y.length) (w := 16) at_new (Nat.le_refl _) (hs.ext (eY.trans Xx)) (by rw [List.length_map, pkF_len]; omega) fun v y1 f1 => ?_
  obtain ⟨Z, hZ⟩ : ∃ Z, Z = Y ++ [ABlk.cells [] true false] ++ y1 := ⟨_, rfl⟩
  have eZ : Ext Y Z := by rw [hZ]; exact Xx
  rw [← hZ] at f1 ⊢
  clear hZ
  have ov := f1.isSl.one
  have bd := @hor_fill nm e v f1.isSl.cells
  have s6 : storeF 3 (.ptr b6 0) (.agg [.str nm, .int .i64 e, v]) (fun z => Z[z]?) = some (undefA, .set b6 (.cells [.str nm, .int .i64 e, v] true false)) := by
    rw [storeF_at (eZ.some m6)]; exact hor_st ov
  have k6 : (Z.set b6 (.cells [.str nm, .int .i64 e, v] true false))[b6]? = some (.cells [.str nm, .int .i64 e, v] true false) := set_eq' (eZ.some m6)
  have f6 := @loadF_at (some 3) b6 0 _ _ k6
  have l6 : ldB (some 3) 0 (.cells [.str nm, .int .i64 e, v] true false) = some (.agg [.str nm, .int .i64 e, v], .keep) := rfl
  have b6Y := (List.getElem?_eq_some_iff.1 m6).1
  have eW : Ext h (Z.set b6 (.cells [.str nm, .int .i64 e, v] true false)) := ext_setG (eY.trans eZ) (by omega)
  have ok : HorOk (Z.set b6 (.cells [.str nm, .int .i64 e, v] true false)) (pkH nm e p n) v := ⟨(f1.setn (f1.notB b6Y)).isSl, by show (pkF p 0 n).length < 2 ^ 63; rw [pkF_len]; omega, hnm⟩
  refine Rs (A8 @t0 @t1 @t2 @ov @bd @s6 @f6 @l6) ?_
  exact ⟨by first | exact eW | (rw [hbe]; exact eW), v, rfl, by first | exact ok | (rw [hbe]; exact ok)⟩
end
end Go.Abs
namespace Go.Abs

def ctGr : List CT := [.sl [.int .u8], .int .u8, .int .u8, .int .i8, .int .i8, .int .i8, .int .i8, .int .i8, .int .i8, .int .i8, .int .i8, .int .i8, .int .i8, .int .i8, .int .i8, .int .i8, .int .i8]
theorem ty_u8s {h : AHeap} {a : AV} (x : TY h (.sl [.int .u8]) a) : ∃ L : List Int, IsSl h a 1 (L.map u8R) ∧ L.length ≤ maxLen ∧ ∀ z ∈ L, 0 ≤ z ∧ z ≤ 255 := by
  obtain ⟨cs, hs, hl, hc⟩ := ty_sl x
  obtain ⟨L, rfl, hL⟩ := rows_of (row := u8R) (Q := fun z => 0 ≤ z ∧ z ≤ 255) fun c hcm => by
    obtain ⟨_, _, rfl, h1, x⟩ := tys_cons (hc c hcm)
    obtain rfl := tys_nil x
    obtain ⟨n, rfl, hn⟩ := ty_int h1
    exact ⟨n, rfl, u8_bd hn⟩
  exact ⟨L, hs, by simpa using hl, hL⟩
theorem tya_gr {h : AHeap} {a : AV} (x : TYa h (.agg ctGr) a) : ∃ (s : AV) (g : Gr), a = .agg (gC s g) ∧ GrOk h s g ∧ g.tm.length < 2 ^ 63 := by
  obtain ⟨l, rfl, x⟩ := x
  unfold ctGr at x
  obtain ⟨a0, _, rfl, h0, x⟩ := tys_cons x
  obtain ⟨a1, _, rfl, h1, x⟩ := tys_cons x
  obtain ⟨a2, _, rfl, h2, x⟩ := tys_cons x
  obtain ⟨a3, _, rfl, h3, x⟩ := tys_cons x
  obtain ⟨a4, _, rfl, h4, x⟩ := tys_cons x
  obtain ⟨a5, _, rfl, h5, x⟩ := tys_cons x
  obtain ⟨a6, _, rfl, h6, x⟩ := tys_cons x
  obtain ⟨a7, _, rfl, h7, x⟩ := tys_cons x
  obtain ⟨a8, _, rfl, h8, x⟩ := tys_cons x
  obtain ⟨a9, _, rfl, h9, x⟩ := tys_cons x
  obtain ⟨a10, _, rfl, h10, x⟩ := tys_cons x
  obtain ⟨a11, _, rfl, h11, x⟩ := tys_cons x
  obtain ⟨a12, _, rfl, h12, x⟩ := tys_cons x
  obtain ⟨a13, _, rfl, h13, x⟩ := tys_cons x
  obtain ⟨a14, _, rfl, h14, x⟩ := tys_cons x
  obtain ⟨a15, _, rfl, h15, x⟩ := tys_cons x
  obtain ⟨a16, _, rfl, h16, x⟩ := tys_cons x
  obtain rfl := tys_nil x
  obtain ⟨L, h0, hl, hL⟩ := ty_u8s h0
  obtain ⟨z1, rfl, w1⟩ := ty_int h1
  obtain ⟨z2, rfl, w2⟩ := ty_int h2
  obtain ⟨z3, rfl, w3⟩ := ty_int h3
  obtain ⟨z4, rfl, w4⟩ := ty_int h4
  obtain ⟨z5, rfl, w5⟩ := ty_int h5
  obtain ⟨z6, rfl, w6⟩ := ty_int h6
  obtain ⟨z7, rfl, w7⟩ := ty_int h7
  obtain ⟨z8, rfl, w8⟩ := ty_int h8
  obtain ⟨z9, rfl, w9⟩ := ty_int h9
  obtain ⟨z10, rfl, w10⟩ := ty_int h10
  obtain ⟨z11, rfl, w11⟩ := ty_int h11
  obtain ⟨z12, rfl, w12⟩ := ty_int h12
  obtain ⟨z13, rfl, w13⟩ := ty_int h13
  obtain ⟨z14, rfl, w14⟩ := ty_int h14
  obtain ⟨z15, rfl, w15⟩ := ty_int h15
  obtain ⟨z16, rfl, w16⟩ := ty_int h16
  have w1 := u8_bd w1
  have w2 := u8_bd w2
  have w3 := i8_bd w3
  have w4 := i8_bd w4
  have w5 := i8_bd w5
  have w6 := i8_bd w6
  have w7 := i8_bd w7
  have w8 := i8_bd w8
  have w9 := i8_bd w9
  have w10 := i8_bd w10
  have w11 := i8_bd w11
  have w12 := i8_bd w12
  have w13 := i8_bd w13
  have w14 := i8_bd w14
  have w15 := i8_bd w15
  have w16 := i8_bd w16
  refine ⟨a0, ⟨fun j => if j = 0 then z1 else z2, fun j i => if j = 0 then [z3, z4, z5, z6, z7, z8].getD i 0 else [z9, z10, z11, z12, z13, z14].getD i 0, fun j => if j = 0 then z15 else z16, L⟩, rfl, ⟨h0, fun j hj => ?_, fun j i hj hi => ?_, fun j hj => ?_, hL⟩, maxLen_lt hl⟩
  · show 0 ≤ (if j = 0 then z1 else z2) ∧ (if j = 0 then z1 else z2) ≤ 255
    split <;> omega
  · show -128 ≤ (if j = 0 then [z3, z4, z5, z6, z7, z8].getD i 0 else [z9, z10, z11, z12, z13, z14].getD i 0) ∧ (if j = 0 then [z3, z4, z5, z6, z7, z8].getD i 0 else [z9, z10, z11, z12, z13, z14].getD i 0) ≤ 127
    rcases (show i = 0 ∨ i = 1 ∨ i = 2 ∨ i = 3 ∨ i = 4 ∨ i = 5 by omega) with rfl | rfl | rfl | rfl | rfl | rfl <;> split <;> first | exact w3 | exact w4 | exact w5 | exact w6 | exact w7 | exact w8 | exact w9 | exact w10 | exact w11 | exact w12 | exact w13 | exact w14
  · show -128 ≤ (if j = 0 then z15 else z16) ∧ (if j = 0 then z15 else z16) ≤ 127
    split <;> omega
end Go.Abs
namespace Go.Abs
def pairsL : List (Nat × AFunc) := [(4, fn4), (7, fn7), (10, fn10), (11, fn11), (12, fn12), (13, fn13), (16, fn16), (17, fn17), (20, fn20), (21, fn21), (22, fn22), (23, fn23), (24, fn24), (25, fn25), (26, fn26), (27, fn27), (28, fn28), (29, fn29), (30, fn30), (31, fn31), (32, fn32), (33, fn33), (34, fn34), (35, fn35), (36, fn36), (37, fn37), (38, fn38), (39, fn39), (40, fn40), (42, fn42), (43, fn43), (44, fn44), (45, fn45), (46, fn46), (48, fn48), (49, fn49), (50, fn50), (51, fn51), (52, fn52), (53, fn53), (54, fn54), (55, fn55), (56, fn56), (57, fn57), (58, fn58), (59, fn59), (60, fn60), (61, fn61), (62, fn62), (63, fn63), (64, fn64), (65, fn65), (66, fn66), (67, fn67), (68, fn68), (69, fn69), (70, fn70), (71, fn71), (72, fn72), (73, fn73), (74, fn74), (75, fn75), (76, fn76), (77, fn77), (78, fn78), (79, fn79), (80, fn80), (81, fn81)]
def allOk (P : Program) : List (Nat × AFunc) → Prop
  | [] => True
  | p :: r => compileFn P p.1 = some p.2 ∧ allOk P r
theorem allOk.mem {P : Program} : ∀ {l : List (Nat × AFunc)}, allOk P l → ∀ p ∈ l, compileFn P p.1 = some p.2
  | [], _, p, hp => by simp at hp
  | q :: r, h, p, hp => by
    rcases List.mem_cons.1 hp with rfl | hp
    · exact h.1
    · exact h.2.mem p hp
noncomputable def ofPairs : List (Nat × AFunc) → Tr AFunc
  | [] => .nil
  | p :: r => (ofPairs r).set p.1 p.2
theorem ofPairs_get : ∀ {l : List (Nat × AFunc)} {f : Nat} {A : AFunc}, (ofPairs l).get f = some A → (f, A) ∈ l
  | [], f, A, h => by simp [ofPairs, Tr.get_nil] at h
  | p :: r, f, A, h => by
    rw [ofPairs, Tr.get_set] at h
    split at h
    · rename_i hf; cases h; subst hf; exact List.mem_cons_self
    · exact List.mem_cons_of_mem _ (ofPairs_get h)
theorem pairsL_ok : allOk Go.Proofs.Tryd.prog pairsL := ⟨k4, k7, k10, k11, k12, k13, k16, k17, k20, k21, k22, k23, k24, k25, k26, k27, k28, k29, k30, k31, k32, k33, k34, k35, k36, k37, k38, k39, k40, k42, k43, k44, k45, k46, k48, k49, k50, k51, k52, k53, k54, k55, k56, k57, k58, k59, k60, k61, k62, k63, k64, k65, k66, k67, k68, k69, k70, k71, k72, k73, k74, k75, k76, k77, k78, k79, k80, k81, trivial⟩
set_option maxRecDepth 1000000 in
def tabL : Tr AFunc := (.node none (.node none (.node none (.node (some fn7) (.node none (.node (some fn31) (.node (some fn63) .nil .nil) .nil) (.node none (.node (some fn79) .nil .nil) .nil)) (.node (some fn23) (.node (some fn39) (.node (some fn71) .nil .nil) .nil) (.node (some fn55) .nil .nil))) (.node (some fn11) (.node none (.node (some fn35) (.node (some fn67) .nil .nil) .nil) (.node (some fn51) .nil .nil)) (.node (some fn27) (.node (some fn43) (.node (some fn75) .nil .nil) .nil) (.node (some fn59) .nil .nil)))) (.node none (.node none (.node (some fn17) (.node (some fn33) (.node (some fn65) .nil .nil) .nil) (.node (some fn49) (.node (some fn81) .nil .nil) .nil)) (.node (some fn25) (.node none (.node (some fn73) .nil .nil) .nil) (.node (some fn57) .nil .nil))) (.node (some fn13) (.node (some fn21) (.node (some fn37) (.node (some fn69) .nil .nil) .nil) (.node (some fn53) .nil .nil)) (.node (some fn29) (.node (some fn45) (.node (some fn77) .nil .nil) .nil) (.node (some fn61) .nil .nil))))) (.node none (.node (some fn4) (.node none (.node (some fn16) (.node (some fn32) (.node (some fn64) .nil .nil) .nil) (.node (some fn48) (.node (some fn80) .nil .nil) .nil)) (.node (some fn24) (.node (some fn40) (.node (some fn72) .nil .nil) .nil) (.node (some fn56) .nil .nil))) (.node (some fn12) (.node (some fn20) (.node (some fn36) (.node (some fn68) .nil .nil) .nil) (.node (some fn52) .nil .nil)) (.node (some fn28) (.node (some fn44) (.node (some fn76) .nil .nil) .nil) (.node (some fn60) .nil .nil)))) (.node none (.node (some fn10) (.node none (.node (some fn34) (.node (some fn66) .nil .nil) .nil) (.node (some fn50) .nil .nil)) (.node (some fn26) (.node (some fn42) (.node (some fn74) .nil .nil) .nil) (.node (some fn58) .nil .nil))) (.node none (.node (some fn22) (.node (some fn38) (.node (some fn70) .nil .nil) .nil) (.node (some fn54) .nil .nil)) (.node (some fn30) (.node (some fn46) (.node (some fn78) .nil .nil) .nil) (.node (some fn62) .nil .nil))))))
set_option maxRecDepth 1000000 in
theorem tabL_eq : ofPairs pairsL = tabL := by kernel_rfl
def extE (_f : Nat) (_args : List AV) (_G : Nat → Option ABlk) (_N : Nat) : Option (AV × Eff) := none
def tabE : Tab := { fns := tabL, ext := extE }
theorem tabE_ok : TabOk Go.Proofs.Tryd.prog tabE where
  fns := fun f A h => by
    have h' : (ofPairs pairsL).get f = some A := by rw [tabL_eq]; exact h
    have h2 := pairsL_ok.mem _ (ofPairs_get h')
    exact h2
  ext := fun f args h v e he => by cases he
/-- The package-level variables that are laid. -/
def glob0 : AHeap := [.cells [.int .i64 (-100000), .int .i64 100000, .int .i64 (-100000), .int .i64 100000, .int .i64 (-100000), .int .i64 100000, .int .i64 (-100000), .int .i64 100000, .int .i64 0, .int .i64 100000, .int .i64 (-999999999), .int .i64 999999999, .int .i64 (-999999999), .int .i64 999999999, .int .i64 (-999999999), .int .i64 999999999] false false]
def isIntA : AV → Bool
  | .int _ _ => true
  | _ => false
theorem closB_ints {n : Nat} {c : List AV} {mu tl : Bool} (h : c.all isIntA = true) : closB n (.cells c mu tl) := fun i x hx => by
  have := List.all_eq_true.1 h x (List.mem_of_getElem? hx)
  cases x with
  | int k z => exact (clos_int k z).mono (Nat.zero_le _)
  | _ => cases this
set_option maxRecDepth 1000000 in
theorem awake_runs : runsTo tabE 100000000 4 [] glob0 true = true := by decide +kernel
theorem glob0_clos (b : Nat) (x : ABlk) (hb : glob0[b]? = some x) : closB glob0.length x := by
  have hx := List.mem_of_getElem? hb
  simp only [glob0, List.mem_cons, List.not_mem_nil, or_false] at hx
  rcases hx with rfl <;> first | exact closB_ints (by decide) | trivial
theorem glob0_len : glob0.length = Go.Proofs.Tryd.prog.globals.size := by kernel_rfl
/-- AWAKE, wherever it is called behind the laid variables. -/
theorem awake_ok (k : AHeap) (e : Ext glob0 k) : RCall Go.Proofs.Tryd.prog 4 [] k (fun v _ => v = .bool true) := by
  obtain ⟨g, rfl⟩ := e
  obtain ⟨g0, hs⟩ := SCall.of_run tmix tabE_ok awake_runs
  have := hs.frame (k := g) glob0_len glob0_clos ⟨fun _ => none, [], by simp, rfl⟩ (clos_bool true)
  exact ⟨_, [], by simpa using this, rfl⟩
end Go.Abs
namespace Go.Abs
open Go.ChangeShapes Go.WideShapes Go.RowKit

section
variable {H : Type} {enc : TypeId × Value → H}
theorem of_change_sh {a : Assume} {C : Checked} {os : Os} {f : FuncId} {fn : Func} {s : ChangeSpec} {conds : List PathCond} {apart fresh handsOn again : Bool} {X : World → Array Value → Prop}
    (hX : ∀ (w w' : World) (args : Array Value), w.heap = w'.heap → X w args → X w' args)
    (own : ownKnob C.prog.godebug = none) (started : os.Started) (noInit : C.prog.inits.idxOf? f = none) (hfn : C.prog.funcs[f]? = some fn)
    (witness : ∃ (w : World) (tape : Tape) (i : Input), w.os = os ∧ (w.forCall tape i).Shaped C.prog ∧ i.vars = [] ∧ Input.okWide C.prog (w.forCall tape i) .any w.heap.size f i ∧
      ((s.pre enc C.prog fn conds apart (w.forCall tape i).memory i.args ∧ X (w.forCall tape i).memory i.args) ∧ sizedMet enc C.prog fn (OpenSpec.ofChange s) apart (w.forCall tape i).memory i.args) ∧ a.holds C.prog (lone (Frame.enter C.prog f i.args .normal) [] (w.forCall tape i)))
    (contract : ∀ (W : World) (base : Nat) (args : Array Value) (ds gs : List (DataW H)) (before : List MemPlace), W.ShapedOpen C.prog →
      (∀ (j : Nat) t v, fn.params[j]? = some t → args[j]? = some v → Value.okWide C.prog W .any base t v) →
      DataW.Whole enc C.prog fn.params.toList s.vars apart W args.toList ds gs before →
      conds.all (PathCond.test C.prog ⟨fn.params.toList, ds, s.plain.varTypes C.prog, gs⟩) = true →
      (DataW.weightsEach C.prog (fn.params.toList ++ s.plain.varTypes C.prog) (ds ++ gs)).all (· ≤ reachBytes) = true → X W args →
      a.holds C.prog (lone (Frame.enter C.prog f args .normal) [] W) →
      Calls C.prog f args W fun e W' => ∃ v, e = .returned v ∧ s.post enc C.prog fn apart fresh handsOn again W args v W') :
    ReturnsInHanded a C os f .any (fun w args => (s.pre enc C.prog fn conds apart w args ∧ X w args) ∧ sizedMet enc C.prog fn (OpenSpec.ofChange s) apart w args) (s.post enc C.prog fn apart fresh handsOn again) := by
  refine returnsInHanded_of_calls own started noInit witness ?_
  intro w tape i _ hsh _ hok hpre hholds
  obtain ⟨_, _, _, fn', hfn', _, _, _, _, hval⟩ := hok
  have e : fn' = fn := Option.some.inj (hfn'.symm.trans hfn)
  subst e
  obtain ⟨⟨⟨ds, gs, before, hw, hc⟩, hx⟩, hz⟩ := hpre
  have hw' := DataW.Whole.of_heap (w' := w.forCall tape i) (by rfl) hw
  refine (contract (w.forCall tape i) w.heap.size i.args ds gs before hsh hval hw' hc (hz.weights hw) (hX _ _ _ (by rfl) hx) hholds).mono fun e W' ⟨v, he, hp⟩ => ?_
  subst he
  exact ChangeSpec.post_blind hp
end
theorem shaped_last {P : Program} {w : World} (sh : w.ShapedOpen P) (h0 : 0 < P.globals.size) (h : (((begin P (fun _ _ => 0) default).world.heap[P.globals.size - 1]?).bind Obj.row?).isSome = true) : P.globals.size ≤ w.heap.size ∧ ∃ (z : Nat) (cc : Array Value) (el : TypeId) (fz : Nat × Nat), w.heap[z]? = some (Obj.cells cc el fz) := by
  obtain ⟨x, hx⟩ := Option.isSome_iff_exists.1 h
  obtain ⟨cs, h1, _⟩ := sh.1 (P.globals.size - 1) x.1 x.2 (by omega) hx
  have := (Array.getElem?_eq_some_iff.1 h1).1
  exact ⟨by omega, _, _, _, _, h1⟩
theorem AW.globals2 {P : Program} {w : World} {laid0 laid : List (String × DataW Unit)} (hl : laidMet P laid0 w) (hsub : ∀ x ∈ laid, x ∈ laid0) (n : Nat) (hsz : P.globals.size ≤ w.heap.size) : AW P w (globE P) (globL P laid n) := by
  obtain ⟨ps, hv, _, _⟩ := hl
  have hE : ∀ (b : Nat) e, (globE P)[b]? = some e → b < P.globals.size ∧ e = ⟨b, 0, gsz P b, false⟩ := fun b e h => by
    unfold globE at h
    rw [List.getElem?_map] at h
    have hb : b < P.globals.size := by
      cases hr : (List.range P.globals.size)[b]? with
      | none => rw [hr] at h; cases h
      | some y => have := (List.getElem?_eq_some_iff.1 hr).1; simpa using this
    rw [List.getElem?_range hb] at h
    exact ⟨hb, (Option.some.inj h).symm⟩
  refine ⟨by simp [globE, globL], fun b e h => ?_, fun b e k h h' => ?_, fun g hg => ⟨⟨g, 0, gsz P g, false⟩, ?_, rfl, rfl, rfl, rfl⟩⟩
  · obtain ⟨hb, rfl⟩ := hE b e h
    exact ⟨rfl, by show b < _; omega⟩
  · obtain ⟨hb, rfl⟩ := hE b e h
    unfold globL at h'
    rw [List.getElem?_map, List.getElem?_range hb] at h'
    have h' := (Option.some.inj h').symm
    subst h'
    unfold globB
    split
    case h_2 => exact ⟨trivial, .inl rfl⟩
    rename_i x hx
    split
    case h_2 => exact ⟨trivial, .inl rfl⟩
    rename_i t ht
    split
    case h_2 => exact ⟨trivial, .inl rfl⟩
    rename_i ax has
    split
    case isFalse => exact ⟨trivial, .inl rfl⟩
    rename_i hlen
    refine ⟨?_, .inr ⟨ax, rfl⟩⟩
    obtain ⟨g, t', cs, fuel, p, b1, b2, b3, b4⟩ := laidVars_mem hv x (hsub _ (List.mem_of_find?_eq_some hx))
    have hgb : P.globalNamed x.1 = some b := by have := List.find?_some hx; simpa using this
    have e1 : g = b := Option.some.inj (b1.symm.trans hgb)
    subst e1
    have e2 : t' = t := Option.some.inj (b2.symm.trans ht)
    subst e2
    obtain ⟨el, fz, hblk⟩ := var_blk b1 b3
    obtain ⟨c1, c2⟩ := avsOf_ok (m := embOf (globE P)) n t' fuel _ _ _ _ b4 has
    have hcl : cs.size = ax.length := by have := c1.length; simpa using this
    refine ⟨cs, el, fz, hblk, ⟨by show 0 + _ ≤ _; omega, by show 0 + _ ≤ gsz P g; omega, by show cs.size = gsz P g; omega⟩, fun i x hx => ?_, ⟨fun x => absurd x Bool.false_ne_true, fun x => by rcases x with x | x <;> exact absurd x Bool.false_ne_true⟩⟩
    refine ⟨List.all_eq_true.1 c2 x (List.mem_of_getElem? hx), ?_⟩
    obtain ⟨v, hv1, hv2⟩ := c1.get hx
    refine ⟨v, ?_, hv2⟩
    show cs[0 + i]? = some v
    rw [Nat.zero_add, ← Array.getElem?_toList]; exact hv1
  · unfold globE
    rw [List.getElem?_map, List.getElem?_range hg]; rfl
end Go.Abs
namespace Go.Proofs.YtfcfelnabfaelaaDoor
open Go.ChangeShapes Go.WideShapes Go.RowKit Go.Abs

theorem tc_last : (((begin Tryd.prog (fun _ _ => 0) default).world.heap[Tryd.prog.globals.size - 1]?).bind Obj.row?).isSome = true := by kernel_rfl
theorem and2 {a b : Bool} (h : a = true) (h' : b = true) : (a && b) = true := by rw [h, h']; rfl
theorem own : ownKnob Tryd.prog.godebug = none := by kernel_rfl
theorem laidOut : laidOutB Tryd.prog = true := by kernel_rfl
theorem sc_maps : mapsRowed Tryd.prog = true := by kernel_rfl
theorem sc_stops : (Tryd.prog.stops == []) = true := by kernel_rfl
theorem sc_knobs : (Tryd.prog.stopKnobs == []) = true := by kernel_rfl
theorem sc_heard : Tryd.prog.stopsHeard = true := by kernel_rfl
theorem sc_enter : Tryd.prog.mayEnter = true := by kernel_rfl
theorem sc_lifts : (Rows.topKeelLapseRow.lifted == Tryd.prog.liftsFinal) = true := by kernel_rfl
theorem sc_make : (Tryd.prog.make == some Rows.topKeelLapseRow.make) = true := by kernel_rfl
theorem sc_keys : (Rows.topKeelLapseRow.plainKeys == Tryd.prog.plainKeys) = true := by kernel_rfl
theorem sc_main : Tryd.prog.mainIs = some (true, "3328d075bebf4e946c88a45f7b03a159c4d9bd31d44fe76e17e89ac0d8e9a256".toList) := by kernel_rfl
theorem sc_looks : false = Tryd.prog.looks [] := by kernel_rfl
theorem sc_shaped (os : Os) (args : Array Value) : ((World.laidAll Tryd.prog os Rows.topKeelLapseRow.laid).forCall (fun _ _ => 0) ⟨#[], args, []⟩).Shaped Tryd.prog := World.shaped_of_ZipB (by kernel_rfl) (by kernel_rfl)
theorem sc_laid (os : Os) (args : Array Value) : laidMetH Tryd.prog Rows.topKeelLapseRow.laid ((World.laidAll Tryd.prog os Rows.topKeelLapseRow.laid).forCall (fun _ _ => 0) ⟨#[], args, []⟩).memory := by
  rw [MakeChecks.laidMetH_plain _ _ _ (by kernel_rfl)]
  exact laidMet_laidAll _ (by kernel_rfl) (by kernel_rfl)
end Go.Proofs.YtfcfelnabfaelaaDoor
namespace Go.Abs

/-- What the stages know. -/
structure KpS (h Y : AHeap) (b2 : Nat) (s : AV) (g : Gr) (j : Nat) : Prop where
  e : Ext h Y
  m2 : Y[b2]? = some (.cells (gC s g) true false)
  ok : GrOk Y s g
  hj : j < 2
  n1 : 1 ≤ g.tm.length
  n6 : g.tm.length ≤ 6
  rg : Rng Y
theorem KpS.ext {h Y k : AHeap} {b2 : Nat} {s : AV} {g : Gr} {j : Nat} (q : KpS h Y b2 s g j) (e : Ext Y k) : KpS h k b2 s g j := ⟨q.e.trans e, e.some q.m2, q.ok.ext e, q.hj, q.n1, q.n6, q.rg.ext e⟩
def tgt (g : Gr) (j i : Nat) : Nat := (gP g j i + shfN (gT g j) i).toNat
theorem tgt_bd {h : AHeap} {s : AV} {g : Gr} (o : GrOk h s g) {j : Nat} (hj : j < 2) {i : Nat} (hi : i < 6) : ((tgt g j i : Nat) : Int) = gP g j i + shfN (gT g j) i ∧ 0 ≤ tgt g j i ∧ tgt g j i < 80 := by
  have h1 := gP_bd o hj i
  have h2 := (td_i (gT_bd g j) hi)
  have h3 := h2.r1
  have h4 := h2.r2
  unfold tgt shfN
  omega
theorem st_Rl {z : Int × Int} {b : Nat} {a0 a1 : AV} : stB 2 0 (.agg (ratR z)) b (.cells [a0, a1] true false) = some (undefA, .set b (.cells (ratR z) true false)) := rat_st
theorem fill_sp {f : Nat → Int} {v : AV} (hv : v.cells = [v]) : fillA [.int .i64 0, .int .i64 0, .int .i64 0, .int .i64 0, .int .i64 0, .int .i64 0, .int .i64 0, .int .i64 0, .bool false, .nilSlice] [(0, 8, .agg (hdR f)), (9, 1, v)] = some [.int .i64 (f 0), .int .i64 (f 1), .int .i64 (f 2), .int .i64 (f 3), .int .i64 (f 4), .int .i64 (f 5), .int .i64 (f 6), .int .i64 (f 7), .bool false, v] := by
  unfold fillA
  rw [if_pos ⟨rfl, by decide⟩]
  unfold fillA
  rw [hv, if_pos ⟨rfl, by show 9 + 1 ≤ 10; omega⟩]
  rfl
def kpB : ICode := match (fn6).body with
  | .seq _ (.seq _ (.seq _ (.seq _ (.seq _ c)))) => c
  | c => c
def kpC : ICode := match kpB with
  | .seq _ c => c
  | c => c
def kpD : ICode := match kpC with
  | .seq _ (.seq _ c) => c
  | c => c
set_option maxRecDepth 10000
attribute [local irreducible] WP WC WE WB WR WF WL WG WRg WQ
section
variable {P : Program} (T : Tbl P) {h Y : AHeap} {ts : TS} {b2 b9 b17 j : Nat} {s s9 s17 tb : AV} {g : Gr} {L9 L : List (Trc × AV)} {Q : Ex → TS → AHeap → Prop}
include T
set_option maxHeartbeats 16000000 in
theorem kp_D (q : KpS h Y b2 s g j) (m17 : Y[b17]? = some (.cells (shC [115] s17) true false)) (o17 : ShOk Y L s17) (hl : L.length = g.tm.length) (hL : ∀ (i : Nat) (h1 : i < L.length), (∀ b ∈ L[i].1.sm, gridE b = 0) ∧ L[i].1.sm.map gridN = spkI (gP g j i).toNat) (hlen : ts.length = 173) (t17 : slot ts 17 = .ptr b17 0) :
    WC P inFn kpD [] ts Y (FQ [(4, none), (5, none)] fun v k => Ext h k ∧ ∃ s' : AV, v = .tup [s', .bool true] ∧ IsSl k s' 2 ((pkF (gP g j) 0 g.tm.length).map pkRow)) := by
  have i17 := @ldx _ _ _ m17
  have ls : ldV (shC [115] s17)[1]? = some (s17, .keep) := rfl
  have hlm := fun G => o17.sl.lenm G
  have n6 := q.n6
  unfold kpD kpC kpB fn6
  dsimp only
  refine Rs (A4 @t17 @i17 @ls @hlm) ?_
  refine WL.inv T.mix (fun n ts K => ∃ (k : Nat) (out : AV), k ≤ L.length ∧ n = L.length - k ∧ Ext Y K ∧ Fr Y.length K out 2 ((pkF (gP g j) 0 k).map pkRow) ∧ ts.length = 173 ∧ slot ts 19 = out ∧ slot ts 147 = s17 ∧ slot ts 148 = .int .i64 L.length ∧ slot ts 149 = .int .i64 k) L.length
    ⟨0, .nilSlice, by omega, rfl, .refl _, .nil, Sn, Sw, Sw, Sw, Swr⟩ ?_
  clear hlen t17 i17
  rintro _ ts K ⟨k, out, hk, rfl, eK, hfr, hlen, t19, t147, t148, t149⟩
  have oK := o17.ext eK
  by_cases hlt : k < L.length
  case neg =>
    have e3 := dltF hlt
    have e4 : k = g.tm.length := by omega
    rw [e4] at hfr
    have oo := hfr.isSl.one
    refine Rs (A6 @t19 @t147 @t148 @t149 @e3 @oo) ?_
    exact ⟨q.e.trans eK, out, rfl, hfr.isSl⟩
  have e3 := dltT hlt
  have e5 := wrapN (n := k) (by omega)
  have ix := oK.sl.ixm (kk := .i64) hlt
  obtain ⟨hg, hn⟩ := hL k hlt
  obtain ⟨x, hx⟩ : ∃ x, x = L[k] := ⟨_, rfl⟩
  rw [← hx] at hg hn
  have ld : ∀ {kk : AHeap}, Ext K kk → loadF (some 10) (elp s17 10 k) (fun b => kk[b]?) = some (.agg (trRow x), .keep) := fun {kk} e => by rw [hx]; exact oK.sl.ldm hlt e
  have hmem : x ∈ L := by rw [hx]; exact List.getElem_mem _
  have hsx := oK.all x hmem
  have ox := hsx.one
  have oo := hfr.isSl.one
  have bz := @z10_box
  have st := @st_tr x ox
  have l9 : ldV (trRow x)[9]? = some (x.2, .keep) := rfl
  have hxl : x.1.sm.length = 80 := by
    have := congrArg List.length hn
    rw [List.length_map, spkI_len] at this
    exact this
  obtain ⟨c1, c2, _, _⟩ := gP_bd q.ok q.hj k
  refine Rs (A9 @t19 @t147 @t148 @t149 @e3 @ix @ld @bz @st) ?_
  obtain ⟨K1, hK1⟩ : ∃ K1, K1 = K ++ [ABlk.cells (trRow x) true false] := ⟨_, rfl⟩
  have eK1 : Ext K K1 := by rw [hK1]; exact Xx
  have m21 : K1[K.length]? = some (.cells (trRow x) true false) := by rw [hK1]; exact at_new
  obtain ⟨b21, hb21⟩ : ∃ b, b = K.length := ⟨_, rfl⟩
  rw [← hb21] at m21
  rw [← hK1, ← hb21]
  clear hK1 hb21
  have i21 := @ldx _ _ _ m21
  refine Rs (A6 @t19 @t147 @t148 @t149 @i21 @l9) ?_
  refine WR.appz (N := K1.length) (w := 4) at_new (Nat.le_refl _) (hsx.ext (eK1.trans Xx)) (by rw [List.length_map]; omega) fun v1 y1 f1 => ?_
  obtain ⟨K2, hK2⟩ : ∃ K2, K2 = K1 ++ [ABlk.cells [] true false] ++ y1 := ⟨_, rfl⟩
  have e12 : Ext K1 K2 := by rw [hK2]; exact Xx
  rw [← hK2] at f1 ⊢
  clear hK2
  have p1 := f1.isSl.one
  refine Rs (A5 @t19 @t147 @t148 @t149 @p1) ?_
  refine WF.ce T.c12 (r12 T f1.isSl hg hn (by omega)) fun g1 => ?_
  obtain ⟨K3, hK3⟩ : ∃ K3, K3 = K2 ++ g1 := ⟨_, rfl⟩
  have e23 : Ext K2 K3 := by rw [hK3]; exact Xx
  rw [← hK3]
  clear hK3
  have hc : (((gP g j k).toNat : Nat) : Int) = gP g j k := by omega
  rw [hc]
  have d0 : decide ((0 : Int) ≠ 0) = false := rfl
  have w2 : IntKind.i64.wrap (2 * (k : Int)) = ((2 * k : Nat) : Int) := by rw [wrap_in (by omega) (by omega)]; omega
  have bd : fillA [.int .i64 0, .int .i64 0] [(0, 1, .int .i64 ((2 * k : Nat) : Int)), (1, 1, .int .i64 (gP g j k))] = some [.int .i64 ((2 * k : Nat) : Int), .int .i64 (gP g j k)] := rfl
  have bs : ∀ {N : Nat}, bslF 2 1 (fillA [.int .i64 0, .int .i64 0] [(0, 2, .agg [.int .i64 ((2 * k : Nat) : Int), .int .i64 (gP g j k)])]) N = some (.slice N 0 1 2, .push (.cells (pkRow (((2 * k : Nat) : Int), gP g j k)) true true)) := fun {N} => rfl
  refine Rs (A9 @t19 @t147 @t148 @t149 @d0 @w2 @bd @bs @oo) ?_
  have e13 := eK1.trans (e12.trans e23)
  refine WR.appR (B := Y) (cs := (pkF (gP g j) 0 k).map pkRow) (z := pkRow (((2 * k : Nat) : Int), gP g j k)) (hfr.ext e13) rfl (eK.trans e13) (by decide) (by rw [List.length_map, pkF_len]; omega) ?_
  intro W5 s' x5 hff q5
  have hrow : (pkF (gP g j) 0 k).map pkRow ++ [pkRow (((2 * k : Nat) : Int), gP g j k)] = (pkF (gP g j) 0 (k + 1)).map pkRow := by rw [pkF_snoc, List.map_append, Nat.zero_add]; rfl
  rw [hrow] at hff
  refine Rs (A6 @t19 @t147 @t148 @t149 @q5 @e5) ?_
  exact ⟨L.length - (k + 1), by omega, k + 1, s', by omega, rfl, x5, hff, rfl, rfl⟩
set_option maxHeartbeats 16000000 in
theorem kp_C (q : KpS h Y b2 s g j) (m9 : Y[b9]? = some (.cells (shC [115] s9) true false)) (o9 : ShOk Y L9 s9) (hl : L9.length = g.tm.length) (hL : ∀ (i : Nat) (h1 : i < L9.length), L9[i].1 = trS i (tgt g j i)) (htb : IsSl Y tb 2 ((tdT (gT g j)).map ratR)) (hlen : ts.length = 173) (t2 : slot ts 2 = .ptr b2 0) (t8 : slot ts 8 = tb) (t9 : slot ts 9 = .ptr b9 0) :
    WC P inFn kpC [] ts Y (FQ [(4, none), (5, none)] fun v k => Ext h k ∧ ∃ s' : AV, v = .tup [s', .bool true] ∧ IsSl k s' 2 ((pkF (gP g j) 0 g.tm.length).map pkRow)) := by
  show WC P inFn (.seq _ (.seq _ kpD)) _ _ _ _
  have n1 := q.n1
  have n6 := q.n6
  have i9 := @ldx _ _ _ m9
  have l2 := @sh_l2 [115] s9
  have otb := htb.one
  have os9 := o9.sl.one
  refine Rs (A7 @t2 @t8 @t9 @i9 @l2 @otb @os9) ?_
  refine WR.appz (N := Y.length) (w := 16) at_new (Nat.le_refl _) (htb.ext Xx) (by rw [List.length_map]; show 3 * 16 ≤ _; omega) fun v1 y1 f1 => ?_
  obtain ⟨Z, hZ⟩ : ∃ Z, Z = Y ++ [ABlk.cells [] true false] ++ y1 := ⟨_, rfl⟩
  have eZ : Ext Y Z := by rw [hZ]; exact Xx
  rw [← hZ] at f1 ⊢
  clear hZ
  have p1 := f1.isSl.one
  have z9 : ShSz L9 := ⟨by omega, fun x hx => by
    obtain ⟨i, hi, rfl⟩ := List.mem_iff_getElem.1 hx
    rw [hL i hi]
    show (spkF _).length < _
    rw [spkF_len]; omega⟩
  have ck : chkSh [115] (L9.map Prod.fst) = 0 := shots_ok (by rw [List.length_map]; omega) (by rw [List.length_map]; omega) fun t ht => by
    obtain ⟨x, hx, rfl⟩ := List.mem_map.1 ht
    obtain ⟨i, hi, rfl⟩ := List.mem_iff_getElem.1 hx
    rw [hL i hi]
    exact ⟨rfl, spkF_len _, trS_ok (by omega)⟩
  have td0 := td_i (gT_bd g j) (show 0 < 6 by omega)
  refine Rs (A5 @t2 @t8 @t9 @p1 @os9) ?_
  refine WF.res T.c11 (r11 T (q.rg.ext eZ) (o9.ext eZ) z9 (by omega) f1.isSl (by show 3 < _; omega)) ?_
  rintro _ g4 ⟨r, e, rfl, hr⟩
  unfold ChgR at hr
  rw [ck, td0.c, errL_zero] at hr
  obtain ⟨he, hr⟩ := hr
  have he : e = 0 := he
  subst he
  rw [if_pos rfl] at hr
  obtain ⟨s17, L, rfl, o17, f17⟩ := hr
  have os17 := o17.sl.one
  have bx : ∀ {N : Nat}, boxnF 2 (.agg [.str [115], s17]) N = some (.ptr N 0, .push (.cells (shC [115] s17) true false)) := fun {N} => by
    unfold boxnF
    rw [if_pos ⟨by show ([.str [115], s17] : List AV).all AV.one = true; simp only [List.all_cons, List.all_nil, os17]; rfl, rfl⟩]
    rfl
  refine Rs (A4 @t2 @t8 @t9 @bx) ?_
  obtain ⟨W, hW⟩ : ∃ W, W = Z ++ g4 ++ [ABlk.cells (shC [115] s17) true false] := ⟨_, rfl⟩
  have eW : Ext (Z ++ g4) W := by rw [hW]; exact Xx
  have eZW : Ext Z W := by rw [hW]; exact Xx
  have m17 : W[(Z ++ g4).length]? = some (.cells (shC [115] s17) true false) := by rw [hW]; exact at_new
  obtain ⟨b17, hb17⟩ : ∃ b, b = (Z ++ g4).length := ⟨_, rfl⟩
  have o17 := o17.ext eW
  rw [← hb17] at m17
  rw [← hW, ← hb17]
  clear hW hb17 eW
  have i17 := @ldx _ _ _ m17
  have i2 := @ldx _ _ _ ((eZ.trans eZW).some q.m2)
  have l0 : ldV (gC s g)[0]? = some (s, .keep) := rfl
  have l17 : ldV (shC [115] s17)[1]? = some (s17, .keep) := rfl
  have la := fun G => o17.sl.lenm G
  have lb := fun G => q.ok.sl.lenm G
  have hLl : L.length = L9.length := by have := congrArg List.length f17; simpa using this
  have d0 : decide ((0 : Int) ≠ 0) = false := rfl
  have d1 : decide ((L.length : Int) ≠ (g.tm.length : Int)) = false := decide_eq_false fun z => z (by omega)
  refine Rs (A11 @t2 @t8 @t9 @d0 @i17 @i2 @l0 @l17 @la @lb @d1) ?_
  refine kp_D T (q.ext (eZ.trans eZW)) m17 o17 (by omega) ?_ ?_ ?_
  · intro i h1
    have h9 : i < L9.length := by omega
    have e : L[i].1 = chgT (corG (tdT (gT g j))) L9[i] := by
      have e2 : (L.map Prod.fst)[i]'(by simpa using h1) = (L9.map (chgT (corG (tdT (gT g j)))))[i]'(by simpa using h9) := by simp only [f17]
      rwa [List.getElem_map, List.getElem_map] at e2
    obtain ⟨c1, c2, _, _⟩ := gP_bd q.ok q.hj i
    have hs := cor_spk (gT_bd g j) (show i < 6 by omega) (c := gP g j i) (by omega) (s := L9[i].2)
    have e9 : L9[i] = (trS i (gP g j i + shfN (gT g j) i).toNat, L9[i].2) := Prod.ext (hL i h9) rfl
    rw [← e9, ← e] at hs
    exact ⟨hs.2.1, hs.2.2⟩
  · simp only [pset, hlen]
  · exact Sw
end
end Go.Abs
namespace Go.Abs

def tdC (t : Int) : List AV := [.int .i64 0, .int .i64 0, .int .i64 100, .int .i64 t, .int .i64 101, .int .i64 (-t)]
theorem td_sl {K : AHeap} {b : Nat} {t : Int} (m : K[b]? = some (.cells (tdC t) true true)) : IsSl K (.slice b 0 3 2) 2 ((tdT t).map ratR) :=
  IsSl.mk (cs := (tdT t).map ratR) m rfl (by show 0 + 3 * 2 ≤ 6; omega) (fun x hx => by
    obtain ⟨y, _, rfl⟩ := List.mem_map.1 hx; rfl)
set_option maxRecDepth 10000
attribute [local irreducible] WP WC WE WB WR WF WL WG WRg WQ
section
variable {P : Program} (T : Tbl P) {h Y : AHeap} {ts : TS} {b2 b9 bt j : Nat} {s : AV} {g : Gr}
include T
set_option maxHeartbeats 32000000 in
theorem kp_B (rg : Rng h) (ok : GrOk h s g) (hj : j < 2) (n1 : 1 ≤ g.tm.length) (n6 : g.tm.length ≤ 6) (eY : Ext h Y) (m2 : Y[b2]? = some (.cells (gC s g) true false)) (m9 : Y[b9]? = some (.cells (shC [115] .nilSlice) true false)) (mt : Y[bt]? = some (.cells (tdC (gT g j)) true true)) (n9 : h.length ≤ b9) (n29 : b2 ≠ b9) (nt9 : bt ≠ b9)
    (hlen : ts.length = 173) (t1 : slot ts 1 = .int .i64 (j : Int)) (t2 : slot ts 2 = .ptr b2 0) (t6 : slot ts 6 = .int .i64 (gE g j)) (t8 : slot ts 8 = .slice bt 0 3 2) (t9 : slot ts 9 = .ptr b9 0) :
    WC P inFn kpB [] ts Y (FQ [(4, none), (5, none)] fun v k => Ext h k ∧ ∃ s' : AV, v = .tup [s', .bool true] ∧ IsSl k s' 2 ((pkF (gP g j) 0 g.tm.length).map pkRow)) := by
  show WC P inFn (.seq _ kpC) _ _ _ _
  have i2 := @ldx _ _ _ m2
  have l0 : ldV (gC s g)[0]? = some (s, .keep) := rfl
  have hlm := fun G => ok.sl.lenm G
  refine Rs (A8 @t1 @t2 @t6 @t8 @t9 @i2 @l0 @hlm) ?_
  obtain ⟨M, hM⟩ : ∃ M, M = Y.length := ⟨_, rfl⟩
  have q2 := (List.getElem?_eq_some_iff.1 m2).1
  have q9 := (List.getElem?_eq_some_iff.1 m9).1
  have qt := (List.getElem?_eq_some_iff.1 mt).1
  have hm := eY.len
  rw [← hM] at q2 q9 qt hm
  refine WL.inv T.mix (fun n ts K => ∃ (k : Nat) (out : AV) (L : List (Trc × AV)), k ≤ g.tm.length ∧ n = g.tm.length - k ∧ Ext h K ∧ M ≤ K.length ∧ K[b2]? = some (.cells (gC s g) true false) ∧ K[bt]? = some (.cells (tdC (gT g j)) true true) ∧ ShGr h.length M K b9 [115] L out ∧ L.length = k ∧ (∀ (i : Nat) (h1 : i < L.length), L[i].1 = trS i (tgt g j i)) ∧ ts.length = 173 ∧ slot ts 1 = .int .i64 (j : Int) ∧ slot ts 2 = .ptr b2 0 ∧ slot ts 6 = .int .i64 (gE g j) ∧ slot ts 8 = .slice bt 0 3 2 ∧ slot ts 9 = .ptr b9 0 ∧ slot ts 45 = s ∧ slot ts 46 = .int .i64 g.tm.length ∧ slot ts 47 = .int .i64 k) g.tm.length
    ⟨0, .nilSlice, [], by omega, rfl, eY, by omega, m2, mt, .nil m9, rfl, (fun i h1 => by simp at h1), Sn, (Sq @t1), (Sq @t2), (Sq @t6), (Sq @t8), (Sq @t9), Sw, Sw, Swr⟩ ?_
  clear hlen t1 t2 t6 t8 t9 i2 m2 m9 mt hM
  rintro _ ts K ⟨k, out, L, hk, rfl, eK, hMK, m2, mt, gr, hLl, hL, hlen, t1, t2, t6, t8, t9, t45, t46, t47⟩
  have okK := ok.ext eK
  by_cases hlt : k < g.tm.length
  case neg =>
    have e3 := dltF hlt
    have e4 : k = g.tm.length := by omega
    refine Rs (A9 @t1 @t2 @t6 @t8 @t9 @t45 @t46 @t47 @e3) ?_
    exact kp_C T ⟨eK, m2, okK, hj, n1, n6, rg.ext eK⟩ gr.m gr.ok (by omega) hL (td_sl mt) Sn (Sq @t2) (Sq @t8) (Sq @t9)
  have e3 := dltT hlt
  have e5 := wrapN (n := k) (by omega)
  have hk6 : k < 6 := by omega
  have ix := okK.sl.ixm (kk := .i64) hlt
  obtain ⟨x, hx⟩ : ∃ x, x = g.tm[k] := ⟨_, rfl⟩
  have ld : ∀ {kk : AHeap}, Ext K kk → loadF none (elp s 1 k) (fun b => kk[b]?) = some (.int .u8 x, .keep) := fun {kk} e => by rw [hx]; exact okK.sl.l1m hlt rfl e
  have hxb : 0 ≤ x ∧ x ≤ 255 := by rw [hx]; exact ok.m _ (List.getElem_mem _)
  have hgB : gB g k = 20 + x.tmod 40 := by
    unfold gB
    rw [List.getD_eq_getElem?_getD, List.getElem?_eq_getElem hlt, hx]; rfl
  have w20 : IntKind.i64.wrap (20 * (k : Int)) = 20 * (k : Int) := wrap_in (by omega) (by omega)
  have td := td_i (gT_bd g j) hk6
  have tsl := td_sl mt
  refine Rs (A12 @t1 @t2 @t6 @t8 @t9 @t45 @t46 @t47 @e3 @ix @ld @w20) ?_
  refine WR.appz (N := K.length) (w := 16) at_new (Nat.le_refl _) (tsl.ext Xx) (by rw [List.length_map]; show 3 * 16 ≤ _; omega) fun v1 y1 f1 => ?_
  obtain ⟨K1, hK1⟩ : ∃ K1, K1 = K ++ [ABlk.cells [] true false] ++ y1 := ⟨_, rfl⟩
  have e1 : Ext K K1 := by rw [hK1]; exact Xx
  rw [← hK1] at f1 ⊢
  clear hK1
  have p1 := f1.isSl.one
  refine Rs (A9 @t1 @t2 @t6 @t8 @t9 @t45 @t46 @t47 @p1) ?_
  refine WF.ce T.c14 (r14 T f1.isSl (by show 3 < _; omega) (20 * (k : Int))) fun g1 => ?_
  have er : rangeS (20 * (k : Int)) 0 100000 = 0 := rangeS_z.2 (by omega)
  have ef : firstS [chkTs (tdT (gT g j)), rangeS (20 * (k : Int)) 0 100000] = 0 := by rw [td.c, er]; rfl
  rw [ef, if_neg (fun z => z rfl)]
  have d1 := td.d1
  have d2 := td.d2
  have d3 := td.n1
  have d4 := td.n2
  obtain ⟨z, hz⟩ : ∃ z, z = lvlS (tdT (gT g j)) (20 * (k : Int)) := ⟨_, rfl⟩
  have hsh : shfN (gT g j) k = rndI z.1 z.2 := by unfold shfN; rw [hz]
  have r1 := td.r1
  have r2 := td.r2
  rw [← hz] at d1 d2 d3 d4 r1 r2 ⊢
  have bR : ∀ {N : Nat}, boxF (.agg [.int .i64 0, .int .i64 0]) N = some (.ptr N 0, .push (.cells [.int .i64 0, .int .i64 0] true false)) := fun {N} => rfl
  have sR : ∀ {n : Nat}, stB 2 0 (.agg (ratR z)) n (.cells [.int .i64 0, .int .i64 0] true false) = some (undefA, .set n (.cells (ratR z) true false)) := fun {n} => st_Rl
  refine Rs (A10 @t1 @t2 @t6 @t8 @t9 @t45 @t46 @t47 @bR @sR) ?_
  obtain ⟨K2, hK2⟩ : ∃ K2, K2 = K1 ++ g1 ++ [ABlk.cells (ratR z) true false] := ⟨_, rfl⟩
  have e2 : Ext K1 K2 := by rw [hK2]; exact Xx
  have m13 : K2[(K1 ++ g1).length]? = some (.cells (ratR z) true false) := by rw [hK2]; exact at_new
  obtain ⟨b13, hb13⟩ : ∃ b, b = (K1 ++ g1).length := ⟨_, rfl⟩
  rw [← hb13] at m13
  rw [← hK2, ← hb13]
  clear hK2 hb13
  have E2 := e1.trans e2
  have i13 := @ldx _ _ _ m13
  have lz0 : ldV (ratR z)[0]? = some (.int .i64 z.1, .keep) := rfl
  have lz1 : ldV (ratR z)[1]? = some (.int .i64 z.2, .keep) := rfl
  have d0 : decide ((0 : Int) ≠ 0) = false := rfl
  have c1 : decide (z.2 < 1) = false := decide_eq_false (by omega)
  have c2 : decide (100 < z.2) = false := decide_eq_false (by omega)
  have c3 : decide (1000 < z.1) = false := decide_eq_false (by omega)
  have c4 : decide (z.1 < -1000) = false := decide_eq_false (by omega)
  have i2 := @ldx _ _ _ (E2.some m2)
  have eb := gE_bd ok hj
  have wb := ok.w j k hj hk6
  have hcx : IntKind.i64.wrap x = x := wrap_in (by omega) (by omega)
  have rx : binK .rem (.int .i64 x) (.int .i64 40) = some (.int .i64 (x.tmod 40)) := by rw [bin_rem (by decide)]
  have bb := gB_bd ok k
  have wx : IntKind.i64.wrap (20 + x.tmod 40) = gB g k := by rw [hgB]; exact wrap_in (by omega) (by omega)
  have j6 := @ia_j6 b2 3 j hj
  have i6 := @ia_6 b2 (3 + j * 6) k hk6
  have lw := @gC_w s g j k hj hk6
  obtain ⟨w, hw⟩ : ∃ w, w = g.wr j k := ⟨_, rfl⟩
  rw [← hw] at lw wb
  have hcw : IntKind.i64.wrap w = w := wrap_in (by omega) (by omega)
  have we1 : IntKind.i64.wrap (gE g j + 1) = gE g j + 1 := wrap_in (by omega) (by omega)
  have rw' : binK .rem (.int .i64 w) (.int .i64 (gE g j + 1)) = some (.int .i64 (w.tmod (gE g j + 1))) := by rw [bin_rem (by omega)]
  have pb := gP_bd ok hj k
  have hgP : gP g j k = gB g k + w.tmod (gE g j + 1) := by unfold gP; rw [hw]
  have wp : IntKind.i64.wrap (gB g k + w.tmod (gE g j + 1)) = gP g j k := by rw [hgP]; exact wrap_in (by omega) (by omega)
  repeat (first | simp (config := { maxSteps := 1000000 }) only [wset, hset, dset, bset, Nat.reduceAdd, Nat.reduceMul, Nat.reduceLeDiff, Nat.reduceEqDiff, pset, hlen, if_false, if_true, t1, t2, t6, t8, t9, t45, t46, t47, d0, i13, lz0, lz1, c1, c2, c3, c4, hcx, rx, wx, j6, i6, i2, lw, hcw, we1, rw', wp] | simp (config := { maxSteps := 1000000 }) (disch := first | (simp only [List.length_append, List.length_cons, List.length_nil] <;> omega) | rfl | omega | fail) only [kset, wset, hset, dset, bset, Nat.reduceAdd, Nat.reduceMul, Nat.reduceLeDiff, Nat.reduceEqDiff, pset, hlen, if_false, if_true, t1, t2, t6, t8, t9, t45, t46, t47, d0, i13, lz0, lz1, c1, c2, c3, c4, hcx, rx, wx, j6, i6, i2, lw, hcw, we1, rw', wp])
  refine WF.ce T.c15 (r15 T (n := z.1) (d := z.2) (by omega) (by omega)) fun g2 => ?_
  obtain ⟨a1, a2, a3⟩ := tgt_bd ok hj hk6
  rw [hsh] at a1
  obtain ⟨a, ha⟩ : ∃ a, a = tgt g j k := ⟨_, rfl⟩
  rw [← ha] at a1 a2 a3
  have wat : IntKind.i64.wrap (gP g j k + rndI z.1 z.2) = (a : Int) := by rw [a1]; exact wrap_in (by omega) (by omega)
  obtain ⟨K3, hK3⟩ : ∃ K3, K3 = K2 ++ g2 := ⟨_, rfl⟩
  have e3' : Ext K2 K3 := by rw [hK3]; exact Xx
  rw [← hK3]
  clear hK3
  have mk : mkslF 1 4 [AV.flt .f32 0] (.int .i64 80) (.int .i64 80) K3.length = some (.slice K3.length 0 80 1, .push (.cells (zrep 80 [AV.flt .f32 0]) true true)) := mksl_ok (es := 1) (w := 4) (N0 := K3.length) (n := 80) (z := [AV.flt .f32 0]) (k := .i64) (k' := .i64) (by omega) (by omega)
  refine Rs (A10 @t1 @t2 @t6 @t8 @t9 @t45 @t46 @t47 @wat @mk) ?_
  have hF := Fr.zeros (N := K3.length) (n := 80) (h := K3) (z := [AV.flt .f32 0]) (es := 1) (Nat.le_refl _) rfl
  obtain ⟨sv, hsv⟩ : ∃ sv, sv = AV.slice K3.length 0 80 1 := ⟨_, rfl⟩
  have lsv : ∀ {G : Nat → Option ABlk}, lenG .sl G sv = some 80 := fun {G} => by rw [hsv]; rfl
  rw [← hsv] at hF
  have er0 : List.replicate 80 [AV.flt .f32 0] = (List.replicate 80 (0 : Nat)).map fltR := by simp [fltR]
  rw [er0] at hF
  have c5 : decide ((a : Int) < 0) = false := decide_eq_false (by omega)
  have c6 : decide ((80 : Int) ≤ (a : Int)) = false := decide_eq_false (by omega)
  have c7 : decide (((80 : Nat) : Int) ≤ (a : Int)) = false := decide_eq_false (by omega)
  have osv := hF.isSl.one
  have ka : a < (List.replicate 80 (0 : Nat)).length := by rw [List.length_replicate]; exact a3
  have ixa := hF.isSl.ixm (kk := .i64) ka
  first | rw [← hsv] | skip
  refine Rs (A14 @t1 @t2 @t6 @t8 @t9 @t45 @t46 @t47 @lsv @c5 @c6 @c7 @osv @ixa) ?_
  refine WR.put1 (h0 := K3) (off := 0) (row := fltR) (x' := one32) hF ka (by decide) rfl rfl ?_
  intro y4 hl4 hF4 _
  have fsp : Fr K3.length (K3 ++ y4) sv 1 ((spkF a).map fltR) := hF4
  obtain ⟨K4, hK4⟩ : ∃ K4, K4 = K3 ++ y4 := ⟨_, rfl⟩
  have e4 : Ext K3 K4 := by rw [hK4]; exact ⟨_, rfl⟩
  rw [← hK4] at fsp ⊢
  clear hK4 hF4 hF
  have E4 : Ext K K4 := E2.trans (e3'.trans e4)
  have osv := fsp.isSl.one
  have gr4 := gr.ext E4
  have i9 := @ldx _ _ _ gr4.m
  have l9 : ldV (shC [115] out)[1]? = some (out, .keep) := rfl
  have oo := gr.fr.isSl.one
  have bh : fillA [.int .i64 0, .int .i64 0, .int .i64 0, .int .i64 0, .int .i64 0, .int .i64 0, .int .i64 0, .int .i64 0] [(0, 1, .int .i64 0), (1, 1, .int .i64 0), (2, 1, .int .i64 0), (3, 1, .int .i64 0), (4, 1, .int .i64 (20 * (k : Int))), (5, 1, .int .i64 0), (6, 1, .int .i64 0), (7, 1, .int .i64 0)] = some (hdR (trS k a).hd) := rfl
  have bd := @fill_sp (trS k a).hd sv fsp.isSl.cells
  have bd' : fillA [.int .i64 0, .int .i64 0, .int .i64 0, .int .i64 0, .int .i64 0, .int .i64 0, .int .i64 0, .int .i64 0, .bool false, .nilSlice] [(0, 8, .agg (hdR (trS k a).hd)), (9, 1, sv)] = some (trRow (trS k a, sv)) := bd
  have bs := @bsl_tr (trS k a, sv) osv
  have kl1 := E2.len
  have kl2 := e3'.len
  refine Rs (A15 @t1 @t2 @t6 @t8 @t9 @t45 @t46 @t47 @i9 @l9 @oo @osv @bh @bd' @bs) ?_
  refine ShGr.grow (x := (trS k a, sv)) gr4 (eK.trans E4) hm (by have := E4.len; omega) n9 q9 fsp.isSl (gr.fr.apart_fr fsp (by omega)).symm (fun c h1 h2 => fsp.notB (by omega)) (by omega) ?_
  intro W out' eW hMW one' mW grW eS keepM keepc apn
  have s3 := sh_st1 mW one'
  refine Rs (A11 @t1 @t2 @t6 @t8 @t9 @t45 @t46 @t47 @one' @s3 @e5) ?_
  refine ⟨g.tm.length - (k + 1), by omega, k + 1, out', L ++ [(trS k a, sv)], by omega, rfl, eS, by rw [List.length_set]; exact hMW, keepM b2 _ q2 n29 (E4.some m2), keepM bt _ qt nt9 (E4.some mt), grW, by rw [List.length_append, hLl]; rfl, fun i h1 => ?_, rfl⟩
  by_cases hik : i < k
  · rw [List.getElem_append_left (by omega)]
    exact hL i (by omega)
  · have hik : i = k := by rw [List.length_append, List.length_singleton] at h1; omega
    subst hik
    rw [List.getElem_append_right (by omega)]
    simp only [hLl, Nat.sub_self, List.getElem_singleton]
    rw [ha]
set_option maxHeartbeats 16000000 in
theorem r6 (rg : Rng h) (ok : GrOk h s g) (hj : j < 2) (n1 : 1 ≤ g.tm.length) (n6 : g.tm.length ≤ 6) {z : Int} (hz : z = (j : Int)) : RCall P 6 [.agg (gC s g), .int .i64 z] h (fun v k => ∃ s' : AV, v = .tup [s', .bool true] ∧ IsSl k s' 2 ((pkF (gP g j) 0 g.tm.length).map pkRow)) := by
  subst hz
  refine .st2 173 T.mix T.c6 ?_;intro ts hlen t0 t1;unfold fn6
  show WC P inFn (.seq _ (.seq _ (.seq _ (.seq _ (.seq _ kpB))))) _ _ _ _
  have bx := @gC_box s g ok.sl.one
  refine Rs (A3 @t0 @t1 @bx) ?_
  obtain ⟨Y, hY⟩ : ∃ Y, Y = h ++ [ABlk.cells (gC s g) true false] := ⟨_, rfl⟩
  have eY : Ext h Y := by rw [hY]; exact Xx
  have m2 : Y[h.length]? = some (.cells (gC s g) true false) := by rw [hY]; exact at_new
  have hYl : Y.length = h.length + 1 := by rw [hY, List.length_append, List.length_singleton]
  obtain ⟨b2, hb2⟩ : ∃ b, b = h.length := ⟨_, rfl⟩
  have hbe := hb2
  rw [← hb2] at m2
  rw [← hY, ← hb2]
  clear hY hb2
  have i2 := @ldx _ _ _ m2
  have j1 := @ia_j b2 1 j hj
  have j15 := @ia_j b2 15 j hj
  have le := @gC_e s g j hj
  have lt := @gC_t s g j hj
  have eb := ok.e j hj
  have tb := ok.t j hj
  have ce : IntKind.i64.wrap (g.er j) = g.er j := wrap_in (by omega) (by omega)
  have ct : IntKind.i64.wrap (g.td j) = g.td j := wrap_in (by omega) (by omega)
  have re : binK .rem (.int .i64 (g.er j)) (.int .i64 4) = some (.int .i64 (gE g j)) := by rw [bin_rem (by decide)]; rfl
  have rt : binK .rem (.int .i64 (g.td j)) (.int .i64 9) = some (.int .i64 (gT g j)) := by rw [bin_rem (by decide)]; rfl
  have gb := gT_bd g j
  have wn : IntKind.i64.wrap (0 - gT g j) = -(gT g j) := by rw [wrap_in (by omega) (by omega)]; omega
  have bs : ∀ {N : Nat}, bslF 2 3 (fillA [.int .i64 0, .int .i64 0, .int .i64 0, .int .i64 0, .int .i64 0, .int .i64 0] [(0, 2, .agg [.int .i64 0, .int .i64 0]), (2, 2, .agg [.int .i64 100, .int .i64 (gT g j)]), (4, 2, .agg [.int .i64 101, .int .i64 (-(gT g j))])]) N = some (.slice N 0 3 2, .push (.cells (tdC (gT g j)) true true)) := fun {N} => rfl
  have f0 : fillA [.int .i64 0, .int .i64 0] [(0, 1, .int .i64 0), (1, 1, .int .i64 0)] = some [.int .i64 0, .int .i64 0] := rfl
  have f1 : fillA [.int .i64 0, .int .i64 0] [(0, 1, .int .i64 100), (1, 1, .int .i64 (gT g j))] = some [.int .i64 100, .int .i64 (gT g j)] := rfl
  have f2 : fillA [.int .i64 0, .int .i64 0] [(0, 1, .int .i64 101), (1, 1, .int .i64 (-(gT g j)))] = some [.int .i64 101, .int .i64 (-(gT g j))] := rfl
  have bz : ∀ {N : Nat}, boxF (.agg [.str [], .nilSlice]) N = some (.ptr N 0, .push (.cells (shC [] .nilSlice) true false)) := fun {N} => rfl
  have bd : fillA [.str [], .nilSlice] [(0, 1, .str [115])] = some [.str [115], .nilSlice] := rfl
  have st3 : ∀ {n : Nat}, stB 2 0 (.agg [.str [115], .nilSlice]) n (.cells (shC [] .nilSlice) true false) = some (undefA, .set n (.cells (shC [115] .nilSlice) true false)) := fun {n} => sh_st rfl
  refine Rs (A19 @t0 @t1 @i2 @j1 @j15 @le @lt @ce @ct @re @rt @wn @f0 @f1 @f2 @bs @bz @bd @st3) ?_
  obtain ⟨Z, hZ⟩ : ∃ Z, Z = Y ++ [ABlk.cells [AV.int .i64 0, .int .i64 0, .int .i64 100, .int .i64 (gT g j), .int .i64 101, .int .i64 (-(gT g j))] true true] ++ [ABlk.cells (shC [115] .nilSlice) true false] := ⟨_, rfl⟩
  have eZ : Ext Y Z := by rw [hZ]; exact Xx
  have mt : Z[Y.length]? = some (.cells (tdC (gT g j)) true true) := by rw [hZ]; exact at_1
  have m9 : Z[(Y ++ [ABlk.cells [AV.int .i64 0, .int .i64 0, .int .i64 100, .int .i64 (gT g j), .int .i64 101, .int .i64 (-(gT g j))] true true]).length]? = some (.cells (shC [115] .nilSlice) true false) := by rw [hZ]; exact at_new
  rw [← hZ]
  clear hZ
  refine kp_B T rg ok hj n1 n6 (eY.trans eZ) (eZ.some m2) m9 mt (by simp only [List.length_append]; omega) (by simp only [List.length_append]; omega) (by simp only [List.length_append, List.length_cons, List.length_nil]; omega) ?_ ?_ ?_ ?_ ?_ ?_
  · simp only [pset, hlen]
  · exact (Sq @t1)
  · exact Sw
  · exact Sw
  · exact Sw
  · exact Sw
end
end Go.Abs
namespace Go.Abs

theorem nearG {h : AHeap} {s : AV} {g : Gr} (o : GrOk h s g) (n1 : 1 ≤ g.tm.length) : Near (gP g 0) (gP g 1) (gE g 0) (gE g 1) 0 (gB g) g.tm.length :=
  ⟨n1, fun i _ => by have := gP_bd o (show 0 < 2 by omega) i; omega, fun i _ => by have := gP_bd o (show 1 < 2 by omega) i; omega, fun i _ => by have := gP_bd o (show 0 < 2 by omega) i; omega, fun i _ => by have := gP_bd o (show 1 < 2 by omega) i; omega⟩
theorem nearB {h : AHeap} {s : AV} {g : Gr} (o : GrOk h s g) (n1 : 1 ≤ g.tm.length) {z : Int} (hz : -16 ≤ z ∧ z ≤ 16) : Near (gP g 0) (fun i => gP g 1 i + z) (gE g 0) (gE g 1) (-z) (gB g) g.tm.length :=
  ⟨n1, fun i _ => by have := gP_bd o (show 0 < 2 by omega) i; omega, fun i _ => by have := gP_bd o (show 1 < 2 by omega) i; show 0 ≤ gP g 1 i + z; omega, fun i _ => by have := gP_bd o (show 0 < 2 by omega) i; omega, fun i _ => by have := gP_bd o (show 1 < 2 by omega) i; show -(gE g 1) ≤ gP g 1 i + z + -z - gB g i ∧ gP g 1 i + z + -z - gB g i ≤ gE g 1; omega⟩
theorem hv0 {h : AHeap} {s : AV} {g : Gr} (o : GrOk h s g) (n1 : 1 ≤ g.tm.length) (n6 : g.tm.length ≤ 6) : HorV (pkH [97] (gE g 0) (gP g 0) g.tm.length) :=
  pkH_v rfl (by have := gE_bd o (show 0 < 2 by omega); omega) (by omega) fun i _ => by have := gP_bd o (show 0 < 2 by omega) i; omega
theorem hv1 {h : AHeap} {s : AV} {g : Gr} (o : GrOk h s g) (n1 : 1 ≤ g.tm.length) (n6 : g.tm.length ≤ 6) : HorV (pkH [98] (gE g 1) (gP g 1) g.tm.length) :=
  pkH_v rfl (by have := gE_bd o (show 1 < 2 by omega); omega) (by omega) fun i _ => by have := gP_bd o (show 1 < 2 by omega) i; omega
theorem hvz {h : AHeap} {s : AV} {g : Gr} (o : GrOk h s g) (n1 : 1 ≤ g.tm.length) (n6 : g.tm.length ≤ 6) {z : Int} (hz : -16 ≤ z ∧ z ≤ 16) : HorV (pkH [98] (gE g 1) (fun i => gP g 1 i + z) g.tm.length) :=
  pkH_v rfl (by have := gE_bd o (show 1 < 2 by omega); omega) (by omega) fun i _ => by have := gP_bd o (show 1 < 2 by omega) i; show 0 ≤ gP g 1 i + z ∧ gP g 1 i + z ≤ 100000; omega
def klB : ICode := match (fn3).body with
  | .seq _ (.seq _ (.seq _ (.seq _ (.seq _ (.seq _ c))))) => c
  | c => c
def klC : ICode := match klB with
  | .seq _ (.seq _ (.seq _ (.seq _ c))) => c
  | c => c
def klD : ICode := match klC with
  | .seq _ c => c
  | c => c
set_option maxRecDepth 10000
attribute [local irreducible] WP WC WE WB WR WF WL WG WRg WQ
section
variable {P : Program} (T : Tbl P) {h Y : AHeap} {ts : TS} {b2 : Nat} {s sa sb : AV} {g : Gr} {z : Int}
include T
set_option maxHeartbeats 16000000 in
theorem kl_D (eY : Ext h Y) (ok : GrOk h s g) (n1 : 1 ≤ g.tm.length) (n6 : g.tm.length ≤ 6) (ia : IsSl Y sa 2 ((pkF (gP g 0) 0 g.tm.length).map pkRow)) (ib : IsSl Y sb 2 ((pkF (gP g 1) 0 g.tm.length).map pkRow)) (hz : -128 ≤ z ∧ z ≤ 127) (hlen : ts.length = 220) (t1 : slot ts 1 = .int .i8 z) (t5 : slot ts 5 = sa) (t7 : slot ts 7 = sb) (t9 : slot ts 9 = .int .i64 (gE g 0)) (t10 : slot ts 10 = .int .i64 (gE g 1)) :
    WC P inFn klD [] ts Y (FQ [(4, none)] fun v k => Ext h k ∧ v = .bool true) := by
  have cz : IntKind.i64.wrap z = z := wrap_in (by omega) (by omega)
  have rz : binK .rem (.int .i64 z) (.int .i64 17) = some (.int .i64 (z.tmod 17)) := by rw [bin_rem (by decide)]
  have zb := tmod_bd (x := z) (m := 17) (by omega)
  obtain ⟨y, hy⟩ : ∃ y, y = z.tmod 17 := ⟨_, rfl⟩
  rw [← hy] at rz zb
  have hyb : -16 ≤ y ∧ y ≤ 16 := by omega
  have hlm := fun G => ib.lenm G
  rw [pkF_len] at hlm
  unfold klD klC klB fn3
  dsimp only
  have oa := ia.one
  have ob := ib.one
  refine Rs (A10 @t1 @t5 @t7 @t9 @t10 @cz @rz @hlm @oa @ob) ?_
  refine WL.inv T.mix (fun n ts K => ∃ (k : Nat) (out : AV), k ≤ g.tm.length ∧ n = g.tm.length - k ∧ Ext Y K ∧ Fr Y.length K out 2 ((pkF (fun i => gP g 1 i + y) 0 k).map pkRow) ∧ ts.length = 220 ∧ slot ts 5 = sa ∧ slot ts 9 = .int .i64 (gE g 0) ∧ slot ts 10 = .int .i64 (gE g 1) ∧ slot ts 22 = .int .i64 y ∧ slot ts 23 = out ∧ slot ts 184 = sb ∧ slot ts 185 = .int .i64 g.tm.length ∧ slot ts 186 = .int .i64 k) g.tm.length
    ⟨0, .nilSlice, by omega, rfl, .refl _, .nil, Sn, (Sq @t5), (Sq @t9), (Sq @t10), Sw, Sw, Sw, Sw, Swr⟩ ?_
  clear hlen t1 t5 t7 t9 t10
  rintro _ ts K ⟨k, out, hk, rfl, eK, hfr, hlen, t5, t9, t10, t22, t23, t184, t185, t186⟩
  have oo := hfr.isSl.one
  by_cases hlt : k < g.tm.length
  case neg =>
    have e3 := dltF hlt
    have e4 : k = g.tm.length := by omega
    rw [e4] at hfr
    have wn : IntKind.i64.wrap (0 - y) = -y := by rw [wrap_in (by omega) (by omega)]; omega
    have va := hv0 ok n1 n6
    have vb := hvz ok n1 n6 hyb
    have N := nearB ok n1 hyb
    have ck : chkShS (pkH [97] (gE g 0) (gP g 0) g.tm.length) (pkH [98] (gE g 1) (fun i => gP g 1 i + y) g.tm.length) (-y) (-1000) = 0 := pk_chk va vb n1 (by omega)
    have no : cmpS (pkH [97] (gE g 0) (gP g 0) g.tm.length) (pkH [98] (gE g 1) (fun i => gP g 1 i + y) g.tm.length) (-y) = [] := near_no N
    refine Rs (A11 @t5 @t9 @t10 @t22 @t23 @t184 @t185 @t186 @e3 @oa @oo) ?_
    refine WF.res T.c8 (r8 T (nm := [97]) (by decide) (by omega) (ia.ext eK)) ?_
    rintro _ g1 ⟨u1, rfl, o1⟩
    have ou1 := o1.sl.one
    refine Rs (A8 @t5 @t9 @t10 @t22 @t23 @oa @oo @ou1) ?_
    refine WF.res T.c8 (r8 T (nm := [98]) (by decide) (by omega) (hfr.isSl.ext Xx)) ?_
    rintro _ g2 ⟨u2, rfl, o2⟩
    have ou2 := o2.sl.one
    refine Rs (A10 @t5 @t9 @t10 @t22 @t23 @oa @oo @ou1 @ou2 @wn) ?_
    refine WF.res T.c7 (r7 T (o1.ext Xx) o2 (-y)) ?_
    rintro _ g3 ⟨u3, rfl, i3⟩
    rw [ck, if_pos rfl, no] at i3
    rw [ck]
    have ou3 := i3.one
    have l3 := fun G => i3.lenm G
    have d0 : decide ((0 : Int) = 0) = true := rfl
    have l3' : ∀ G, lenG .sl G u3 = some 0 := fun G => l3 G
    refine Rs (A9 @t5 @t9 @t10 @t22 @t23 @ou3 @d0 @decide_true @l3') ?_
    first | exact ⟨eY.trans (eK.trans Xx), trivial⟩ | exact ⟨eY.trans (eK.trans Xx), rfl⟩
  have e3 := dltT hlt
  have e5 := wrapN (n := k) (by omega)
  have hbK := ib.ext eK
  have hkl : k < (pkF (gP g 1) 0 g.tm.length).length := by rw [pkF_len]; exact hlt
  have ix := hbK.ixm (kk := .i64) hkl
  have hgk : (pkF (gP g 1) 0 g.tm.length)[k] = (((2 * k : Nat) : Int), gP g 1 k) := by rw [pkF_get, Nat.zero_add]
  have ld : ∀ {kk : AHeap}, Ext K kk → loadF (some 2) (elp sb 2 k) (fun b => kk[b]?) = some (.agg [.int .i64 ((2 * k : Nat) : Int), .int .i64 (gP g 1 k)], .keep) := fun {kk} e => by
    have := hbK.ldm hkl e
    rw [hgk] at this
    exact this
  have pb := gP_bd ok (show 1 < 2 by omega) k
  have bR : ∀ {N : Nat}, boxF (.agg [.int .i64 0, .int .i64 0]) N = some (.ptr N 0, .push (.cells [.int .i64 0, .int .i64 0] true false)) := fun {N} => rfl
  have sR : ∀ {n : Nat}, stB 2 0 (.agg [.int .i64 ((2 * k : Nat) : Int), .int .i64 (gP g 1 k)]) n (.cells [.int .i64 0, .int .i64 0] true false) = some (undefA, .set n (.cells [.int .i64 ((2 * k : Nat) : Int), .int .i64 (gP g 1 k)] true false)) := fun {n} => rat_st
  refine Rs (A13 @t5 @t9 @t10 @t22 @t23 @t184 @t185 @t186 @e3 @ix @ld @bR @sR) ?_
  obtain ⟨K1, hK1⟩ : ∃ K1, K1 = K ++ [ABlk.cells [AV.int .i64 ((2 * k : Nat) : Int), .int .i64 (gP g 1 k)] true false] := ⟨_, rfl⟩
  have eK1 : Ext K K1 := by rw [hK1]; exact Xx
  have m25 : K1[K.length]? = some (.cells [AV.int .i64 ((2 * k : Nat) : Int), .int .i64 (gP g 1 k)] true false) := by rw [hK1]; exact at_new
  obtain ⟨b25, hb25⟩ : ∃ b, b = K.length := ⟨_, rfl⟩
  rw [← hb25] at m25
  rw [← hK1, ← hb25]
  clear hK1 hb25
  have i25 := @ldx _ _ _ m25
  have w1 : IntKind.i64.wrap (gP g 1 k + y) = gP g 1 k + y := wrap_in (by omega) (by omega)
  have bd : fillA [.int .i64 0, .int .i64 0] [(0, 1, .int .i64 ((2 * k : Nat) : Int)), (1, 1, .int .i64 (gP g 1 k + y))] = some [.int .i64 ((2 * k : Nat) : Int), .int .i64 (gP g 1 k + y)] := rfl
  have bs : ∀ {N : Nat}, bslF 2 1 (fillA [.int .i64 0, .int .i64 0] [(0, 2, .agg [.int .i64 ((2 * k : Nat) : Int), .int .i64 (gP g 1 k + y)])]) N = some (.slice N 0 1 2, .push (.cells (pkRow (((2 * k : Nat) : Int), gP g 1 k + y)) true true)) := fun {N} => rfl
  refine Rs (A13 @t5 @t9 @t10 @t22 @t23 @t184 @t185 @t186 @i25 @w1 @bd @bs @oo) ?_
  refine WR.appR (B := Y) (cs := (pkF (fun i => gP g 1 i + y) 0 k).map pkRow) (z := pkRow (((2 * k : Nat) : Int), gP g 1 k + y)) (hfr.ext eK1) rfl (eK.trans eK1) (by decide) (by rw [List.length_map, pkF_len]; omega) ?_
  intro W5 s' x5 hff q5
  have hrow : (pkF (fun i => gP g 1 i + y) 0 k).map pkRow ++ [pkRow (((2 * k : Nat) : Int), gP g 1 k + y)] = (pkF (fun i => gP g 1 i + y) 0 (k + 1)).map pkRow := by rw [pkF_snoc, List.map_append, Nat.zero_add]; rfl
  rw [hrow] at hff
  refine Rs (A10 @t5 @t9 @t10 @t22 @t23 @t184 @t185 @t186 @q5 @e5) ?_
  exact ⟨g.tm.length - (k + 1), by omega, k + 1, s', by omega, rfl, x5, hff, rfl, rfl⟩
end
end Go.Abs
namespace Go.Abs

theorem gnd_bd {na nb : List UInt8} {p q : Nat → Int} {e f : Int} {t : Nat → Int} {n y : Nat} (N : Near p q e f 0 t n) (hy : y ≤ 2 * (n - 1)) (hp : ∀ i, i < n → p i ≤ 100) (hq : ∀ i, i < n → q i ≤ 100) (he : 0 ≤ e ∧ e ≤ 10) (hf : 0 ≤ f ∧ f ≤ 10) : -200 ≤ (gndS (pkH na e p n) (pkH nb f q n) 0 (y : Int)).1 ∧ (gndS (pkH na e p n) (pkH nb f q n) 0 (y : Int)).1 ≤ 200 ∧ -200 ≤ (gndS (pkH na e p n) (pkH nb f q n) 0 (y : Int)).2 ∧ (gndS (pkH na e p n) (pkH nb f q n) 0 (y : Int)).2 ≤ 200 := by
  unfold gndS movS
  rw [band_pk N.p0 N.n1 hy, band_pk N.q0 N.n1 hy]
  have n1 := N.n1
  have i1 : y / 2 < n := by omega
  have i2 : (y + 1) / 2 < n := by omega
  have a1 := N.p0 _ i1
  have a2 := N.p0 _ i2
  have a3 := hp _ i1
  have a4 := hp _ i2
  have b1 := N.q0 _ i1
  have b2 := N.q0 _ i2
  have b3 := hq _ i1
  have b4 := hq _ i2
  unfold sumP
  obtain ⟨S, hS⟩ : ∃ S, S = p (y / 2) + p ((y + 1) / 2) := ⟨_, rfl⟩
  obtain ⟨R, hR⟩ : ∃ R, R = q (y / 2) + q ((y + 1) / 2) := ⟨_, rfl⟩
  rw [← hS, ← hR]
  simp only
  omega
set_option maxRecDepth 10000
attribute [local irreducible] WP WC WE WB WR WF WL WG WRg WQ
section
variable {P : Program} (T : Tbl P) {h Y : AHeap} {ts : TS} {b2 : Nat} {s s16 : AV} {g : Gr} {C : List (Int × Int)} {Q : Ex → TS → AHeap → Prop}
include T
set_option maxHeartbeats 16000000 in
theorem kl_C (ok : GrOk Y s g) (n1 : 1 ≤ g.tm.length) (n6 : g.tm.length ≤ 6) (m2 : Y[b2]? = some (.cells (gC s g) true false)) (ic : IsSl Y s16 2 (C.map ratRow)) (hC : C.length = 2 * g.tm.length - 1) (hlo : ∀ (i : Nat) (h : i < C.length), C[i].1 ≤ C[i].2 ∧ 2 * C[i].1 ≤ sumP (gB g) i ∧ sumP (gB g) i ≤ 2 * C[i].2 ∧ -200 ≤ C[i].1 ∧ C[i].1 ≤ 200 ∧ -200 ≤ C[i].2 ∧ C[i].2 ≤ 200)
    (hlen : ts.length = 220) {t1' t5' t7' t9' t10' : AV} (t1 : slot ts 1 = t1') (t2 : slot ts 2 = .ptr b2 0) (t5 : slot ts 5 = t5') (t7 : slot ts 7 = t7') (t9 : slot ts 9 = t9') (t10 : slot ts 10 = t10') (t16 : slot ts 16 = s16)
    (F : ∀ {ts' : TS} {Y' : AHeap}, ts'.length = 220 → slot ts' 1 = t1' → slot ts' 5 = t5' → slot ts' 7 = t7' → slot ts' 9 = t9' → slot ts' 10 = t10' → Ext Y Y' → WC P inFn klD [] ts' Y' Q) :
    WC P inFn klC [] ts Y Q := by
  show WC P inFn (.seq _ klD) _ _ _ _
  have hlm := fun G => ic.lenm G
  refine Rs (A8 @t1 @t2 @t5 @t7 @t9 @t10 @t16 @hlm) ?_
  refine WL.inv T.mix (fun n ts K => ∃ k : Nat, k ≤ C.length ∧ n = C.length - k ∧ Ext Y K ∧ ts.length = 220 ∧ slot ts 1 = t1' ∧ slot ts 2 = .ptr b2 0 ∧ slot ts 5 = t5' ∧ slot ts 7 = t7' ∧ slot ts 9 = t9' ∧ slot ts 10 = t10' ∧ slot ts 127 = s16 ∧ slot ts 128 = .int .i64 C.length ∧ slot ts 129 = .int .i64 k) C.length
    ⟨0, by omega, rfl, .refl _, Sn, (Sq @t1), (Sq @t2), (Sq @t5), (Sq @t7), (Sq @t9), (Sq @t10), Sw, Sw, Swr⟩ ?_
  clear hlen t1 t2 t5 t7 t9 t10 t16
  rintro _ ts K ⟨k, hk, rfl, eK, hlen, t1, t2, t5, t7, t9, t10, t127, t128, t129⟩
  by_cases hlt : k < C.length
  case neg =>
    have e3 := dltF hlt
    refine Rs (A10 @t1 @t2 @t5 @t7 @t9 @t10 @t127 @t128 @t129 @e3) ?_
    exact F Sn (Sq @t1) (Sq @t5) (Sq @t7) (Sq @t9) (Sq @t10) eK
  have e3 := dltT hlt
  have e5 := wrapN (n := k) (by omega)
  have icK := ic.ext eK
  have okK := ok.ext eK
  have ix := icK.ixm (kk := .i64) hlt
  obtain ⟨c, hc⟩ : ∃ c, c = C[k] := ⟨_, rfl⟩
  have ld : ∀ {kk : AHeap}, Ext K kk → loadF (some 2) (elp s16 2 k) (fun b => kk[b]?) = some (.agg [.int .i64 c.1, .int .i64 c.2], .keep) := fun {kk} e => by rw [hc]; exact icK.ldm hlt e
  obtain ⟨h1, h2, h3, h4, h5, h6, h7⟩ := hlo k hlt
  rw [← hc] at h1 h2 h3 h4 h5 h6 h7
  have bR : ∀ {N : Nat}, boxF (.agg [.int .i64 0, .int .i64 0]) N = some (.ptr N 0, .push (.cells [.int .i64 0, .int .i64 0] true false)) := fun {N} => rfl
  have sR : ∀ {n : Nat}, stB 2 0 (.agg [.int .i64 c.1, .int .i64 c.2]) n (.cells [.int .i64 0, .int .i64 0] true false) = some (undefA, .set n (.cells [.int .i64 c.1, .int .i64 c.2] true false)) := fun {n} => rat_st
  refine Rs (A14 @t1 @t2 @t5 @t7 @t9 @t10 @t127 @t128 @t129 @e3 @ix @ld @bR @sR) ?_
  obtain ⟨K1, hK1⟩ : ∃ K1, K1 = K ++ [ABlk.cells [AV.int .i64 c.1, .int .i64 c.2] true false] := ⟨_, rfl⟩
  have eK1 : Ext K K1 := by rw [hK1]; exact Xx
  have m19 : K1[K.length]? = some (.cells [AV.int .i64 c.1, .int .i64 c.2] true false) := by rw [hK1]; exact at_new
  obtain ⟨b19, hb19⟩ : ∃ b, b = K.length := ⟨_, rfl⟩
  rw [← hb19] at m19
  rw [← hK1, ← hb19]
  clear hK1 hb19
  have i19 := @ldx _ _ _ m19
  have i2 := @ldx _ _ _ ((eK.trans eK1).some m2)
  have l0 : ldV (gC s g)[0]? = some (s, .keep) := rfl
  have ok1 := okK.ext eK1
  have hh : k / 2 < g.tm.length := by omega
  have q1 : binK .quo (.int .i64 (k : Int)) (.int .i64 2) = some (.int .i64 ((k / 2 : Nat) : Int)) := by
    rw [bin_quo (by decide), Int.tdiv_eq_ediv_of_nonneg (by omega), wrap_in (by omega) (by omega)]
    have : (k : Int) / 2 = ((k / 2 : Nat) : Int) := by omega
    rw [this]
  have ixm := ok1.sl.ixm (kk := .i64) hh
  obtain ⟨x, hx⟩ : ∃ x, x = g.tm[k / 2] := ⟨_, rfl⟩
  have lx : ∀ {kk : AHeap}, Ext K1 kk → loadF none (elp s 1 (k / 2)) (fun b => kk[b]?) = some (.int .u8 x, .keep) := fun {kk} e => by rw [hx]; exact ok1.sl.l1m hh rfl e
  have xb : 0 ≤ x ∧ x ≤ 255 := by rw [hx]; exact ok.m _ (List.getElem_mem _)
  have cx : IntKind.i64.wrap x = x := wrap_in (by omega) (by omega)
  have rx : binK .rem (.int .i64 x) (.int .i64 40) = some (.int .i64 (x.tmod 40)) := by rw [bin_rem (by decide)]
  have bb := gB_bd ok (k / 2)
  have hgB : gB g (k / 2) = 20 + x.tmod 40 := by
    unfold gB
    rw [List.getD_eq_getElem?_getD, List.getElem?_eq_getElem hh, hx]; rfl
  have wx : IntKind.i64.wrap (20 + x.tmod 40) = gB g (k / 2) := by rw [hgB]; exact wrap_in (by omega) (by omega)
  have w2 : IntKind.i64.wrap (2 * gB g (k / 2)) = 2 * gB g (k / 2) := wrap_in (by omega) (by omega)
  have rk : binK .rem (.int .i64 (k : Int)) (.int .i64 2) = some (.int .i64 ((k % 2 : Nat) : Int)) := by
    rw [bin_rem (by decide), Int.tmod_eq_emod_of_nonneg (by omega)]
    have : (k : Int) % 2 = ((k % 2 : Nat) : Int) := by omega
    rw [this]
  have g1 : decide (c.2 < c.1) = false := decide_eq_false (by omega)
  have wl : IntKind.i64.wrap (2 * c.1) = 2 * c.1 := wrap_in (by omega) (by omega)
  have wh : IntKind.i64.wrap (2 * c.2) = 2 * c.2 := wrap_in (by omega) (by omega)
  have EY := eK.trans eK1
  by_cases hodd : k % 2 = 1
  · have d1 : decide (((k % 2 : Nat) : Int) = 1) = true := decide_eq_true (by omega)
    have hh2 : k / 2 + 1 < g.tm.length := by omega
    have ix2 := ok1.sl.ixm (kk := .i64) hh2
    obtain ⟨y, hy⟩ : ∃ y, y = g.tm[k / 2 + 1] := ⟨_, rfl⟩
    have ly : ∀ {kk : AHeap}, Ext K1 kk → loadF none (elp s 1 (k / 2 + 1)) (fun b => kk[b]?) = some (.int .u8 y, .keep) := fun {kk} e => by rw [hy]; exact ok1.sl.l1m hh2 rfl e
    have yb : 0 ≤ y ∧ y ≤ 255 := by rw [hy]; exact ok.m _ (List.getElem_mem _)
    have cy : IntKind.i64.wrap y = y := wrap_in (by omega) (by omega)
    have ry : binK .rem (.int .i64 y) (.int .i64 40) = some (.int .i64 (y.tmod 40)) := by rw [bin_rem (by decide)]
    have bb2 := gB_bd ok (k / 2 + 1)
    have hgB2 : gB g (k / 2 + 1) = 20 + y.tmod 40 := by
      unfold gB
      rw [List.getD_eq_getElem?_getD, List.getElem?_eq_getElem hh2, hy]; rfl
    have wk : IntKind.i64.wrap (((k / 2 : Nat) : Int) + 1) = ((k / 2 + 1 : Nat) : Int) := wrapN (by omega)
    have w3 : IntKind.i64.wrap (gB g (k / 2) + 20) = gB g (k / 2) + 20 := wrap_in (by omega) (by omega)
    have hs : sumP (gB g) k = gB g (k / 2) + 20 + y.tmod 40 := by
      unfold sumP
      rw [show (k + 1) / 2 = k / 2 + 1 by omega, hgB2]; omega
    have w4 : IntKind.i64.wrap (gB g (k / 2) + 20 + y.tmod 40) = sumP (gB g) k := by rw [hs]; exact wrap_in (by omega) (by omega)
    have sb : 40 ≤ sumP (gB g) k ∧ sumP (gB g) k ≤ 118 := by rw [hs]; omega
    obtain ⟨S, hS⟩ : ∃ S, S = sumP (gB g) k := ⟨_, rfl⟩
    rw [← hS] at w4 h2 h3 sb
    have g2 : decide (S < 2 * c.1) = false := decide_eq_false (by omega)
    have ws : IntKind.i64.wrap (S - 1) = S - 1 := wrap_in (by omega) (by omega)
    have g3 : decide (2 * c.2 < S - 1) = false := decide_eq_false (by omega)
    repeat (first | simp (config := { maxSteps := 1000000 }) only [wset, hset, dset, bset, Nat.reduceAdd, Nat.reduceMul, Nat.reduceLeDiff, Nat.reduceEqDiff, pset, hlen, if_false, if_true, t1, t2, t5, t7, t9, t10, t127, t128, t129, i2, l0, q1, ixm, lx, cx, rx, wx, w2, rk, d1, w3, wk, ix2, ly, cy, ry, w4, i19, g1, wl, g2, wh, ws, g3, e5] | simp (config := { maxSteps := 1000000 }) (disch := first | (simp only [List.length_append, List.length_cons, List.length_nil] <;> omega) | rfl | omega | fail) only [kset, wset, hset, dset, bset, Nat.reduceAdd, Nat.reduceMul, Nat.reduceLeDiff, Nat.reduceEqDiff, pset, hlen, if_false, if_true, t1, t2, t5, t7, t9, t10, t127, t128, t129, i2, l0, q1, ixm, lx, cx, rx, wx, w2, rk, d1, w3, wk, ix2, ly, cy, ry, w4, i19, g1, wl, g2, wh, ws, g3, e5])
    exact ⟨C.length - (k + 1), by omega, k + 1, by omega, rfl, EY, rfl⟩
  have d1 : decide (((k % 2 : Nat) : Int) = 1) = false := decide_eq_false (by omega)
  have hs : sumP (gB g) k = 2 * gB g (k / 2) := by
    unfold sumP
    rw [show (k + 1) / 2 = k / 2 by omega]; omega
  rw [hs] at h2 h3
  obtain ⟨S, hS⟩ : ∃ S, S = 2 * gB g (k / 2) := ⟨_, rfl⟩
  have sb : 40 ≤ S ∧ S ≤ 118 := by omega
  rw [← hS] at w2 h2 h3
  have w2 : IntKind.i64.wrap (2 * gB g (k / 2)) = S := by rw [← w2, hS]
  have g2 : decide (S < 2 * c.1) = false := decide_eq_false (by omega)
  have ws : IntKind.i64.wrap (S - 1) = S - 1 := wrap_in (by omega) (by omega)
  have g3 : decide (2 * c.2 < S - 1) = false := decide_eq_false (by omega)
  repeat (first | simp (config := { maxSteps := 1000000 }) only [wset, hset, dset, bset, Nat.reduceAdd, Nat.reduceMul, Nat.reduceLeDiff, Nat.reduceEqDiff, pset, hlen, if_false, if_true, t1, t2, t5, t7, t9, t10, t127, t128, t129, i2, l0, q1, ixm, lx, cx, rx, wx, w2, rk, d1, i19, g1, wl, g2, wh, ws, g3, e5] | simp (config := { maxSteps := 1000000 }) (disch := first | (simp only [List.length_append, List.length_cons, List.length_nil] <;> omega) | rfl | omega | fail) only [kset, wset, hset, dset, bset, Nat.reduceAdd, Nat.reduceMul, Nat.reduceLeDiff, Nat.reduceEqDiff, pset, hlen, if_false, if_true, t1, t2, t5, t7, t9, t10, t127, t128, t129, i2, l0, q1, ixm, lx, cx, rx, wx, w2, rk, d1, i19, g1, wl, g2, wh, ws, g3, e5])
  exact ⟨C.length - (k + 1), by omega, k + 1, by omega, rfl, EY, rfl⟩
end
end Go.Abs
namespace Go.Abs
set_option maxRecDepth 10000
attribute [local irreducible] WP WC WE WB WR WF WL WG WRg WQ
section
variable {P : Program} (T : Tbl P) {h Y : AHeap} {ts : TS} {b2 : Nat} {s sa sb : AV} {g : Gr} {z : Int}
include T
set_option maxHeartbeats 16000000 in
theorem kl_B (eY : Ext h Y) (m2 : Y[b2]? = some (.cells (gC s g) true false)) (ok : GrOk h s g) (n1 : 1 ≤ g.tm.length) (n6 : g.tm.length ≤ 6) (ia : IsSl Y sa 2 ((pkF (gP g 0) 0 g.tm.length).map pkRow)) (ib : IsSl Y sb 2 ((pkF (gP g 1) 0 g.tm.length).map pkRow)) (hz : -128 ≤ z ∧ z ≤ 127) (hlen : ts.length = 220) (t1 : slot ts 1 = .int .i8 z) (t2 : slot ts 2 = .ptr b2 0) (t5 : slot ts 5 = sa) (t7 : slot ts 7 = sb) (t9 : slot ts 9 = .int .i64 (gE g 0)) (t10 : slot ts 10 = .int .i64 (gE g 1)) :
    WC P inFn klB [] ts Y (FQ [(4, none)] fun v k => Ext h k ∧ v = .bool true) := by
  show WC P inFn (.seq _ (.seq _ (.seq _ (.seq _ klC)))) _ _ _ _
  have oa := ia.one
  have ob := ib.one
  have va := hv0 ok n1 n6
  have vb := hv1 ok n1 n6
  have N := nearG ok n1
  have ck : chkShS (pkH [97] (gE g 0) (gP g 0) g.tm.length) (pkH [98] (gE g 1) (gP g 1) g.tm.length) 0 (-1000) = 0 := pk_chk va vb n1 (by omega)
  have ck2 : chkShS (pkH [97] (gE g 0) (gP g 0) g.tm.length) (pkH [98] (gE g 1) (gP g 1) g.tm.length) 10 0 = 0 := pk_chk va vb n1 (by omega)
  have no : cmpS (pkH [97] (gE g 0) (gP g 0) g.tm.length) (pkH [98] (gE g 1) (gP g 1) g.tm.length) 0 = [] := near_no N
  have mm : matchM (pkH [97] (gE g 0) (gP g 0) g.tm.length) (pkH [98] (gE g 1) (gP g 1) g.tm.length) 10 = 0 := near_match N 10
  have cc : comS (pkH [97] (gE g 0) (gP g 0) g.tm.length) (pkH [98] (gE g 1) (gP g 1) g.tm.length) 0 = _ := near_com N
  refine Rs (A8 @t1 @t2 @t5 @t7 @t9 @t10 @oa @ob) ?_
  refine WF.res T.c8 (r8 T (nm := [97]) (by decide) (by omega) ia) ?_
  rintro _ g1 ⟨u1, rfl, o1⟩
  have ou1 := o1.sl.one
  refine Rs (A9 @t1 @t2 @t5 @t7 @t9 @t10 @oa @ob @ou1) ?_
  refine WF.res T.c8 (r8 T (nm := [98]) (by decide) (by omega) (ib.ext Xx)) ?_
  rintro _ g2 ⟨u2, rfl, o2⟩
  have ou2 := o2.sl.one
  refine Rs (A10 @t1 @t2 @t5 @t7 @t9 @t10 @oa @ob @ou1 @ou2) ?_
  refine WF.res T.c7 (r7 T (o1.ext Xx) o2 0) ?_
  rintro _ g3 ⟨u3, rfl, i3⟩
  rw [ck, if_pos rfl, no] at i3
  rw [ck]
  have ou3 := i3.one
  have l3 : ∀ G, lenG .sl G u3 = some 0 := fun G => i3.lenm G
  obtain ⟨Z1, hZ1⟩ : ∃ Z, Z = Y ++ g1 ++ g2 ++ g3 := ⟨_, rfl⟩
  have e1 : Ext Y Z1 := by rw [hZ1]; exact Xx
  rw [← hZ1]
  clear hZ1 i3 o1 o2
  refine Rs (A9 @t1 @t2 @t5 @t7 @t9 @t10 @oa @ob @ou3) ?_
  refine WF.res T.c8 (r8 T (nm := [97]) (by decide) (by omega) (ia.ext e1)) ?_
  rintro _ g4 ⟨u4, rfl, o4⟩
  have ou4 := o4.sl.one
  refine Rs (A10 @t1 @t2 @t5 @t7 @t9 @t10 @oa @ob @ou3 @ou4) ?_
  refine WF.res T.c8 (r8 T (nm := [98]) (by decide) (by omega) (ib.ext (e1.trans Xx))) ?_
  rintro _ g5 ⟨u5, rfl, o5⟩
  have ou5 := o5.sl.one
  refine Rs (A11 @t1 @t2 @t5 @t7 @t9 @t10 @oa @ob @ou3 @ou4 @ou5) ?_
  refine WF.res T.c9 (r9 T (o4.ext Xx) o5 10) ?_
  rintro _ g6 ⟨u6, rfl, i6⟩
  rw [ck2, if_pos rfl, mm, no] at i6
  rw [ck2, if_pos rfl, mm]
  have ou6 := i6.one
  have l6 : ∀ G, lenG .sl G u6 = some 0 := fun G => i6.lenm G
  obtain ⟨Z2, hZ2⟩ : ∃ Z, Z = Z1 ++ g4 ++ g5 ++ g6 := ⟨_, rfl⟩
  have e2 : Ext Z1 Z2 := by rw [hZ2]; exact Xx
  rw [← hZ2]
  clear hZ2 i6 o4 o5
  refine Rs (A10 @t1 @t2 @t5 @t7 @t9 @t10 @oa @ob @ou3 @ou6) ?_
  refine WF.res T.c8 (r8 T (nm := [97]) (by decide) (by omega) (ia.ext (e1.trans e2))) ?_
  rintro _ g7 ⟨u7, rfl, o7⟩
  have ou7 := o7.sl.one
  refine Rs (A11 @t1 @t2 @t5 @t7 @t9 @t10 @oa @ob @ou3 @ou6 @ou7) ?_
  refine WF.res T.c8 (r8 T (nm := [98]) (by decide) (by omega) (ib.ext (e1.trans (e2.trans Xx)))) ?_
  rintro _ g8 ⟨u8, rfl, o8⟩
  have ou8 := o8.sl.one
  refine Rs (A12 @t1 @t2 @t5 @t7 @t9 @t10 @oa @ob @ou3 @ou6 @ou7 @ou8) ?_
  refine WF.res T.c10 (r10 T (o7.ext Xx) o8 0) ?_
  rintro _ g9 ⟨u9, rfl, i9⟩
  rw [ck, if_pos rfl, cc] at i9
  rw [ck, if_pos rfl, cc]
  obtain ⟨C, hC⟩ : ∃ C, C = (ivS 0 ((2 * (g.tm.length - 1) : Nat) : Int)).map (gndS (pkH [97] (gE g 0) (gP g 0) g.tm.length) (pkH [98] (gE g 1) (gP g 1) g.tm.length) 0) := ⟨_, rfl⟩
  have i9 : IsSl (Z2 ++ g7 ++ g8 ++ g9) u9 2 (C.map ratRow) := by rw [hC]; exact i9
  have hCl : C.length = 2 * g.tm.length - 1 := by rw [hC, List.length_map, ivS_len]; omega
  have hCi : ∀ (i : Nat) (hi : i < C.length), C[i].1 ≤ C[i].2 ∧ 2 * C[i].1 ≤ sumP (gB g) i ∧ sumP (gB g) i ≤ 2 * C[i].2 ∧ -200 ≤ C[i].1 ∧ C[i].1 ≤ 200 ∧ -200 ≤ C[i].2 ∧ C[i].2 ≤ 200 := fun i hi => by
    have hy : i ≤ 2 * (g.tm.length - 1) := by omega
    have e : C[i] = gndS (pkH [97] (gE g 0) (gP g 0) g.tm.length) (pkH [98] (gE g 1) (gP g 1) g.tm.length) 0 (i : Int) := by
      simp only [hC, List.getElem_map, ivS_get, Int.zero_add]
    rw [e]
    have h1 := near_gnd (na := [97]) (nb := [98]) N hy
    have h2 := gnd_bd (na := [97]) (nb := [98]) N hy (fun i _ => by have := gP_bd ok (show 0 < 2 by omega) i; omega) (fun i _ => by have := gP_bd ok (show 1 < 2 by omega) i; omega) (by have := gE_bd ok (show 0 < 2 by omega); omega) (by have := gE_bd ok (show 1 < 2 by omega); omega)
    exact ⟨h1.1, h1.2.1, h1.2.2.1, h2⟩
  have ou9 := i9.one
  have l9 : ∀ G, lenG .sl G u9 = some C.length := fun G => by
    have := i9.lenm G
    exact this
  obtain ⟨Z3, hZ3⟩ : ∃ Z, Z = Z2 ++ g7 ++ g8 ++ g9 := ⟨_, rfl⟩
  have e3 : Ext Z2 Z3 := by rw [hZ3]; exact Xx
  rw [← hZ3] at i9 ⊢
  clear hZ3 o7 o8
  have E3 := e1.trans (e2.trans e3)
  have i2 := @ldx _ _ _ (E3.some m2)
  have l0 : ldV (gC s g)[0]? = some (s, .keep) := rfl
  have hlm := fun G => ok.sl.lenm G
  have d0 : decide ((0 : Int) ≠ 0) = false := rfl
  have d1 : decide ((0 : Int) < 0) = false := rfl
  have d3 : decide ((0 : Int) < ((0 : Nat) : Int)) = false := rfl
  have wn : IntKind.i64.wrap (2 * (g.tm.length : Int)) = 2 * (g.tm.length : Int) := wrap_in (by omega) (by omega)
  have wm : IntKind.i64.wrap (2 * (g.tm.length : Int) - 1) = 2 * (g.tm.length : Int) - 1 := wrap_in (by omega) (by omega)
  have d2 : decide ((C.length : Int) ≠ 2 * (g.tm.length : Int) - 1) = false := decide_eq_false fun z => z (by omega)
  refine Rs (A21 @t1 @t2 @t5 @t7 @t9 @t10 @ou3 @ou6 @ou9 @d0 @d1 @d3 @l3 @l6 @l9 @i2 @l0 @hlm @wn @wm @d2) ?_
  refine kl_C T (ok.ext (eY.trans E3)) n1 n6 (E3.some m2) i9 hCl hCi (t1' := .int .i8 z) (t5' := sa) (t7' := sb) (t9' := .int .i64 (gE g 0)) (t10' := .int .i64 (gE g 1)) ?_ ?_ ?_ ?_ ?_ ?_ ?_ ?_ ?_
  · simp only [pset, hlen]
  · exact (Sq @t1)
  · exact (Sq @t2)
  · exact (Sq @t5)
  · exact (Sq @t7)
  · exact (Sq @t9)
  · exact (Sq @t10)
  · exact Sw
  intro ts' Y' hl' u1 u5 u7 u9' u10 eY'
  exact kl_D T (eY.trans (E3.trans eY')) ok n1 n6 (ia.ext (E3.trans eY')) (ib.ext (E3.trans eY')) hz hl' u1 u5 u7 u9' u10
set_option maxHeartbeats 16000000 in
theorem r3 (rg : Rng h) (hw : ∀ k, Ext h k → RCall P 4 [] k (fun v _ => v = .bool true)) (ok : GrOk h s g) (hl : g.tm.length < 2 ^ 63) (hz : -128 ≤ z ∧ z ≤ 127) : RCall P 3 [.agg (gC s g), .int .i8 z] h (fun v _ => v = .bool true) := by
  refine .st2 220 T.mix T.c3 ?_;intro ts hlen t0 t1;unfold fn3
  show WC P inFn (.seq _ (.seq _ (.seq _ (.seq _ (.seq _ (.seq _ klB)))))) _ _ _ _
  have bx := @gC_box s g ok.sl.one
  have l17 := @gC_ld s g
  refine Rs (A3 @t0 @t1 @bx) ?_
  obtain ⟨H0, hH0⟩ : ∃ H0, H0 = h ++ [ABlk.cells (gC s g) true false] := ⟨_, rfl⟩
  have e0 : Ext h H0 := by rw [hH0]; exact ⟨_, rfl⟩
  have m2 : H0[h.length]? = some (.cells (gC s g) true false) := by rw [hH0]; exact at_new
  obtain ⟨b2, hb2⟩ : ∃ b, b = h.length := ⟨_, rfl⟩
  rw [← hb2] at m2
  rw [← hH0, ← hb2]
  clear hH0 hb2
  refine WF.ce T.c4 (hw _ e0) fun g1 => ?_
  have i2 := @ldx _ _ _ m2
  refine Rs (A5 @t0 @t1 @Bool.not_true @i2 @l17) ?_
  refine WF.ce T.c5 (r5 T (ok.ext (e0.trans Xx))) fun g2 => ?_
  have e1 : Ext H0 (H0 ++ g1 ++ g2) := Xx
  cases hv : (decide (1 ≤ g.tm.length) && decide (g.tm.length ≤ 6)) with
  | false =>
    refine Rs (A3 @t0 @t1 @Bool.not_false) ?_
    refine WF.ce T.c4 (hw _ (e0.trans e1)) fun g3 => ?_
    refine Rs (A2 @t0 @t1) ?_
    exact ⟨e0.trans (e1.trans Xx), trivial⟩
  | true =>
  rw [Bool.and_eq_true, decide_eq_true_eq, decide_eq_true_eq] at hv
  obtain ⟨n1, n6⟩ := hv
  have i2 := @ldx _ _ _ (e1.some m2)
  refine Rs (A5 @t0 @t1 @Bool.not_true @i2 @l17) ?_
  refine WF.res T.c6 (r6 T (rg.ext (e0.trans e1)) (ok.ext (e0.trans e1)) (j := 0) (by omega) n1 n6 rfl) ?_
  rintro _ g3 ⟨sa, rfl, ia⟩
  have oa := ia.one
  refine Rs (A5 @t0 @t1 @oa @i2 @l17) ?_
  refine WF.res T.c6 (r6 T (rg.ext ((e0.trans e1).trans Xx)) (ok.ext ((e0.trans e1).trans Xx)) (j := 1) (by omega) n1 n6 rfl) ?_
  rintro _ g4 ⟨sb, rfl, ib⟩
  have ob := ib.one
  obtain ⟨Y, hY⟩ : ∃ Y, Y = H0 ++ g1 ++ g2 ++ g3 ++ g4 := ⟨_, rfl⟩
  have e2 : Ext (H0 ++ g1 ++ g2 ++ g3) Y := by rw [hY]; exact Xx
  have e3 : Ext H0 Y := by rw [hY]; exact Xx
  have ia := ia.ext e2
  rw [← hY] at ib ⊢
  clear hY e2
  have i2 := @ldx _ _ _ (e3.some m2)
  have eb0 := ok.e 0 (by omega)
  have eb1 := ok.e 1 (by omega)
  have j0 : iadaF 2 1 (.ptr b2 1) (.int .i64 0) = some (.ptr b2 1) := rfl
  have j1 : iadaF 2 1 (.ptr b2 1) (.int .i64 1) = some (.ptr b2 2) := rfl
  have le0 : ldV (gC s g)[1]? = some (.int .u8 (g.er 0), .keep) := rfl
  have le1 : ldV (gC s g)[2]? = some (.int .u8 (g.er 1), .keep) := rfl
  have c0 : IntKind.i64.wrap (g.er 0) = g.er 0 := wrap_in (by omega) (by omega)
  have c1 : IntKind.i64.wrap (g.er 1) = g.er 1 := wrap_in (by omega) (by omega)
  have r0 : binK .rem (.int .i64 (g.er 0)) (.int .i64 4) = some (.int .i64 (gE g 0)) := by rw [bin_rem (by decide)]; rfl
  have r1 : binK .rem (.int .i64 (g.er 1)) (.int .i64 4) = some (.int .i64 (gE g 1)) := by rw [bin_rem (by decide)]; rfl
  refine Rs (A14 @t0 @t1 @oa @ob @Bool.not_true @i2 @j0 @j1 @le0 @le1 @c0 @c1 @r0 @r1) ?_
  refine kl_B T (e0.trans e3) (e3.some m2) ok n1 n6 ia ib hz ?_ ?_ ?_ ?_ ?_ ?_ ?_
  · simp only [pset, hlen]
  · exact (Sq @t1)
  · exact Sw
  · exact Sw
  · exact Sw
  · exact Sw
  · exact Sw
end
end Go.Abs
