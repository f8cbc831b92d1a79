import Derived.Test.YtjhdkimkijhloaaGreatDoorBk4
import Derived.Test.YtjhdkimkijhloaaGreatDoorBk3
set_option linter.all false
open Nat (reduceAdd reduceMul reduceLeDiff reduceEqDiff)
namespace Go.Abs
def chkListS : List (List UInt8) → List Hor → Int
  | _, [] => 0
  | seen, H :: r =>
    if firstS [chkHorS H, whenS (seen.any fun n => decide (n = H.name)) 9] = 0 then chkListS (seen ++ [H.name]) r
    else firstS [chkHorS H, whenS (seen.any fun n => decide (n = H.name)) 9]
def chkHorsS (L : List Hor) : Int := if 8 < (L.length : Int) then 5 else chkListS [] L
section
variable {P : Program} (T : Tbl P) {h : AHeap}
include T
theorem r27 {L : List (Hor × AV)} {s : AV} (o : HorsOk h L s) : RCall P 27 [s] h (fun v _ => v = .int .i64 (chkHorsS (L.map (·.1)))) := by
  refine .of T.mix T.c27 ?_
  unfold fn27
  have hs := o.sl
  have hl := o.len
  simp only [wset, hset, dset, bset, reduceAdd, reduceMul, reduceLeDiff, reduceEqDiff, wsplit, hs.lenm]
  refine ⟨fun h1 => by rw [chkHorsS, List.length_map, if_pos h1], fun h1 => ?_⟩
  have key : chkHorsS (L.map (·.1)) = chkListS [] (L.map (·.1)) := by rw [chkHorsS, List.length_map, if_neg h1]
  refine WL.inv T.mix (fun n ts h' => ∃ k : Nat, k ≤ L.length ∧ n = L.length - k ∧ Ext h h' ∧ chkHorsS (L.map (·.1)) = chkListS ((L.take k).map (·.1.name)) ((L.drop k).map (·.1)) ∧ ts.length = 32 ∧ slot ts 0 = s ∧ slot ts 10 = s ∧ slot ts 11 = .int .i64 L.length ∧ slot ts 12 = .int .i64 k) L.length
    ⟨0, by omega, rfl, Ext.refl h, key, rfl, rfl, rfl, rfl, rfl⟩ ?_
  rintro _ ts _ ⟨k, hk, rfl, ⟨g, rfl⟩, hi, hlen, t0, t10, t11, t12⟩
  rw [expl ts 32 hlen]
  by_cases hlt : k < L.length
  · have hd : L.drop k = L[k] :: L.drop (k + 1) := by simp
    have e3 : (k : Int) < L.length := by omega
    have ok := o.all L[k] (by simp)
    obtain ⟨s', hsl, hs'⟩ := hs.slm (bnds_hi (kk := .i64) (Nat.le_of_lt hlt))
    simp only [wset, hset, dset, bset, reduceAdd, reduceMul, reduceLeDiff, reduceEqDiff, t0, t10, t11, t12, e3, decide_true, hs.ixm hlt, hs.ldm hlt, ok.sl.one, hsl]
    rw [List.drop_zero, Nat.sub_zero] at hs'
    refine WF.res T.c109 (r109 T (hs'.ext ⟨_, List.append_assoc _ _ _⟩) (by simp; omega) (fun x => decide (x.1.name = L[k].1.name)) (fun x hx kk e => VCall.of T.c110 (r110 T (H := x.1) (o.all x (List.mem_of_mem_take hx)).sl.one (e.some at_new)))) ?_
    rintro _ g1 rfl
    simp only [wset, hset, dset, bset, reduceAdd, reduceMul, reduceLeDiff, reduceEqDiff]
    refine WF.res T.c26 (r26 T (H := L[k].1) (ok.sl.ext (by simp only [eset])) ok.len) ?_
    rintro _ g2 rfl
    simp only [wset, hset, dset, bset, reduceAdd, reduceMul, reduceLeDiff, reduceEqDiff]
    refine WF.res T.c106 (r106 T _ _) ?_
    rintro _ g3 rfl
    simp only [wset, hset, dset, bset, reduceAdd, reduceMul, reduceLeDiff, reduceEqDiff]
    refine WF.res T.c105 (r105 T (isSl_ints [_, _]) (by simp)) ?_
    rintro _ g4 rfl
    have hseen : (((L.take k).map (·.1.name)).any fun n => decide (n = L[k].1.name)) = (L.take k).any fun x => decide (x.1.name = L[k].1.name) := by rw [List.any_map]; rfl
    have hd' : (L.drop k).map (·.1) = L[k].1 :: (L.drop (k + 1)).map (·.1) := by rw [hd]; rfl
    rw [hd', chkListS, hseen] at hi
    have ht : (L.take (k + 1)).map (·.1.name) = (L.take k).map (·.1.name) ++ [L[k].1.name] := by rw [List.take_add_one, List.getElem?_eq_getElem hlt, List.map_append]; rfl
    simp only [wset, hset, dset, bset, reduceAdd, reduceMul, reduceLeDiff, reduceEqDiff, wsplit, wrapN (show k + 1 < 2 ^ 63 by omega)]
    refine ⟨fun h9 => ?_, fun h9 => ⟨_, ?_, k + 1, by omega, rfl, ?_, rfl⟩⟩
    · rw [hi, if_neg h9]
    · omega
    · rw [hi, if_pos (Decidable.of_not_not h9), ht]
  · have e3 : ¬ (k : Int) < L.length := by omega
    have e4 : k = L.length := by omega
    simp only [wset, hset, dset, bset, reduceAdd, reduceMul, reduceLeDiff, reduceEqDiff, t0, t10, t11, t12, e3, decide_false, if_true]
    rw [hi, e4, List.drop_length]; rfl
theorem r29 {L : List (Hor × AV)} {s : AV} (o : HorsOk h L s) : RCall P 29 [s] h (fun v _ => v = .int .i64 (chkHorsS (L.map (·.1)))) := by
  refine .of T.mix T.c29 ?_
  unfold fn29
  have hs := o.sl
  have hl := o.len
  simp only [wset, hset, dset, bset, reduceAdd, reduceMul, reduceLeDiff, reduceEqDiff, wsplit, hs.lenm]
  refine ⟨fun h1 => by rw [chkHorsS, List.length_map, if_pos h1], fun h1 => ?_⟩
  have key : chkHorsS (L.map (·.1)) = chkListS [] (L.map (·.1)) := by rw [chkHorsS, List.length_map, if_neg h1]
  refine WL.inv T.mix (fun n ts h' => ∃ k : Nat, k ≤ L.length ∧ n = L.length - k ∧ Ext h h' ∧ chkHorsS (L.map (·.1)) = chkListS ((L.take k).map (·.1.name)) ((L.drop k).map (·.1)) ∧ ts.length = 39 ∧ slot ts 0 = s ∧ slot ts 3 = .int .i64 k) L.length
    ⟨0, by omega, rfl, Ext.refl h, key, rfl, rfl, rfl⟩ ?_
  rintro _ ts _ ⟨k, hk, rfl, ⟨g, rfl⟩, hi, hlen, t0, t3⟩
  rw [expl ts 39 hlen]
  by_cases hlt : k < L.length
  · have hd : L.drop k = L[k] :: L.drop (k + 1) := by simp
    have e3 : (k : Int) < L.length := by omega
    have ok := o.all L[k] (by simp)
    have hseen : (((L.take k).map (·.1.name)).any fun n => decide (n = L[k].1.name)) = (L.take k).any fun x => decide (x.1.name = L[k].1.name) := by rw [List.any_map]; rfl
    have hd' : (L.drop k).map (·.1) = L[k].1 :: (L.drop (k + 1)).map (·.1) := by rw [hd]; rfl
    rw [hd', chkListS, hseen] at hi
    have ht : (L.take (k + 1)).map (·.1.name) = (L.take k).map (·.1.name) ++ [L[k].1.name] := by rw [List.take_add_one, List.getElem?_eq_getElem hlt, List.map_append]; rfl
    simp only [wset, hset, dset, bset, reduceAdd, reduceMul, reduceLeDiff, reduceEqDiff, t0, t3, e3, decide_true, hs.lenm, hs.ixm hlt, hs.ldm hlt]
    refine WF.res T.c21 (r21 T (H := L[k].1) (ok.sl.ext (by simp only [eset])) ok.len ok.nm) ?_
    rintro _ g1 rfl
    simp only [wset, hset, dset, bset, reduceAdd, reduceMul, reduceLeDiff, reduceEqDiff, wsplit]
    refine ⟨fun h9 => ?_, fun h9 => ?_⟩
    · have : firstS [chkHorS L[k].1, whenS ((L.take k).any fun x => decide (x.1.name = L[k].1.name)) 9] = chkHorS L[k].1 := by simp [firstS, h9]
      rw [hi, this, if_neg h9]
    · have h9' := Decidable.of_not_not h9
      have hif : firstS [chkHorS L[k].1, whenS ((L.take k).any fun x => decide (x.1.name = L[k].1.name)) 9] = whenS ((L.take k).any fun x => decide (x.1.name = L[k].1.name)) 9 := by
        rw [h9']; simp only [firstS, if_pos]; split <;> simp [*]
      rw [hif] at hi
      refine WL.inv T.mix (fun n ts h' => ∃ j : Nat, j ≤ k ∧ n = k - j ∧ Ext h h' ∧ ((L.take k).any fun x => decide (x.1.name = L[k].1.name)) = (((L.take k).drop j).any fun x => decide (x.1.name = L[k].1.name)) ∧ ts.length = 39 ∧ slot ts 0 = s ∧ slot ts 3 = .int .i64 k ∧ slot ts 5 = .int .i64 j) k
        ⟨0, by omega, rfl, ⟨_, List.append_assoc _ _ _⟩, rfl, rfl, rfl, rfl, rfl⟩ ?_
      rintro _ ts _ ⟨j, hj, rfl, ⟨g, rfl⟩, hany, hlen, t0, t3, t5⟩
      rw [expl ts 39 hlen]
      by_cases hjk : j < k
      · have e5 : (j : Int) < k := by omega
        have hjl : j < L.length := by omega
        have hdj : (L.take k).drop j = L[j] :: (L.take k).drop (j + 1) := by
          rw [List.drop_eq_getElem_cons (by simp; omega)]; simp
        simp only [wset, hset, dset, bset, reduceAdd, reduceMul, reduceLeDiff, reduceEqDiff, wsplit, t0, t3, t5, e5, decide_true, hs.ixm hjl, hs.ixm hlt, hs.lfm (off := 0) hjl rfl, hs.lfm (off := 0) hlt rfl, wrapN (show j + 1 < 2 ^ 63 by omega)]
        refine ⟨fun h8 => ?_, fun h8 => ⟨_, ?_, j + 1, by omega, rfl, ?_, rfl⟩⟩
        · have : ((L.take k).any fun x => decide (x.1.name = L[k].1.name)) = true := by rw [hany, hdj, List.any_cons, decide_eq_true h8, Bool.true_or]
          rw [hi, this]; rfl
        · omega
        · rw [hany, hdj, List.any_cons, decide_eq_false h8, Bool.false_or]
      · have e5 : ¬ (j : Int) < k := by omega
        have e6 : j = k := by omega
        have : ((L.take k).any fun x => decide (x.1.name = L[k].1.name)) = false := by rw [hany, e6, List.drop_eq_nil_of_le (by simp; omega)]; rfl
        simp only [wset, hset, dset, bset, reduceAdd, reduceMul, reduceLeDiff, reduceEqDiff, t0, t3, t5, e5, decide_false, if_true, wrapN (show k + 1 < 2 ^ 63 by omega)]
        refine ⟨_, ?_, k + 1, by omega, rfl, ?_, rfl⟩
        · omega
        · rw [hi, this, ht]; rfl
  · have e3 : ¬ (k : Int) < L.length := by omega
    have e4 : k = L.length := by omega
    simp only [wset, hset, dset, bset, reduceAdd, reduceMul, reduceLeDiff, reduceEqDiff, t0, t3, e3, decide_false, if_true, hs.lenm]
    rw [hi, e4, List.drop_length]; rfl
end
end Go.Abs
namespace Go.Abs
abbrev ratRow (x : Int × Int) : List AV := [.int .i64 x.1, .int .i64 x.2]
abbrev ratA (x : Int × Int) : AV := .agg (ratRow x)
def lowS (n d : Nat) : Int × Int := ((n / Nat.gcd n d : Nat), (d / Nat.gcd n d : Nat))
theorem floor_eq (n d : Int) (hd : 0 < d) : n / d = if n < n.tdiv d * d then n.tdiv d - 1 else n.tdiv d := by
  have h1 := Int.mul_ediv_add_emod n d
  have h2 := Int.emod_nonneg n (by omega : d ≠ 0)
  have h3 := Int.emod_lt_of_pos n hd
  have h4 := Int.tdiv_eq_ediv (a := n) (b := d)
  have h5 : d.sign = 1 := Int.sign_eq_one_of_pos hd
  rw [h5] at h4
  have h6 : n / d * d = d * (n / d) := Int.mul_comm _ _
  split at h4
  · rename_i hc
    rw [h4, Int.add_zero, if_neg (by omega)]
  · rename_i hc
    have h7 : (n / d + 1) * d = d * (n / d) + d := by rw [Int.add_mul, Int.one_mul, h6]
    rw [h4, h7, if_pos (by omega)]; omega
theorem quo_bd (n d : Int) (hd : 0 < d) (hn : -4611686018427387904 ≤ n ∧ n ≤ 4611686018427387904) : -4611686018427387904 ≤ n.tdiv d ∧ n.tdiv d ≤ 4611686018427387904 := by
  have h : (n.tdiv d).natAbs = n.natAbs / d.natAbs := Int.natAbs_tdiv n d
  have h2 : n.natAbs / d.natAbs ≤ n.natAbs := Nat.div_le_self _ _
  omega
theorem quo_mul (n d : Int) (hd : 0 < d) : -n.natAbs ≤ n.tdiv d * d ∧ n.tdiv d * d ≤ n.natAbs := by
  have h2 : (n.tdiv d).natAbs = n.natAbs / d.natAbs := Int.natAbs_tdiv n d
  have h3 : (n.tdiv d * d).natAbs = n.natAbs / d.natAbs * d.natAbs := by rw [Int.natAbs_mul, h2]
  have h4 := Nat.div_mul_le_self n.natAbs d.natAbs
  omega
theorem wrap_nat (m : Nat) (h : m < 2 ^ 63) : IntKind.i64.wrap (m : Int) = m := wrap_in (by omega) (by omega)
theorem gcd_bd {n d : Nat} (hd : 0 < d) : 0 < Nat.gcd n d ∧ Nat.gcd n d ≤ d := ⟨Nat.gcd_pos_of_pos_right _ hd, Nat.gcd_le_right _ hd⟩
section
variable {P : Program} (T : Tbl P) {h : AHeap}
include T
theorem r161 (x : Int × Int) (hd : 0 < x.2) (hn : -4611686018427387904 ≤ x.1 ∧ x.1 ≤ 4611686018427387904) : RCall P 161 [ratA x] h (fun v _ => v = .int .i64 (x.1 / x.2)) := by
  refine .of T.mix T.c161 ?_
  unfold fn161
  have b1 := quo_bd x.1 x.2 hd hn
  have b2 := quo_mul x.1 x.2 hd
  simp +contextual only [wset, hset, dset, bset, reduceAdd, reduceMul, reduceLeDiff, reduceEqDiff, wsplit, bin_quo (show x.2 ≠ 0 by omega), wrap_in (n := x.1.tdiv x.2) (by omega) (by omega), wrap_in (n := x.1.tdiv x.2 * x.2) (by omega) (by omega), wrap_in (n := x.1.tdiv x.2 - 1) (by omega) (by omega)]
  refine ⟨fun h1 => ?_, fun h1 => ?_⟩
  · rw [floor_eq x.1 x.2 hd, if_pos h1]
  · rw [floor_eq x.1 x.2 hd, if_neg h1]
theorem r162 (x : Int × Int) (hd : 0 < x.2) (hn : -4611686018427387904 ≤ x.1 ∧ x.1 ≤ 4611686018427387904) : RCall P 162 [ratA x] h (fun v _ => v = .int .i64 (-((-x.1) / x.2))) := by
  refine .of T.mix T.c162 ?_
  unfold fn162
  have b1 := quo_bd (-x.1) x.2 hd (by omega)
  have hf := floor_eq (-x.1) x.2 hd
  have b3 : -4611686018427387905 ≤ (-x.1) / x.2 ∧ (-x.1) / x.2 ≤ 4611686018427387904 := by rw [hf]; split <;> omega
  simp only [wset, hset, dset, bset, reduceAdd, reduceMul, reduceLeDiff, reduceEqDiff, wrap_in (n := 0 - x.1) (by omega) (by omega)]
  have e : (0 : Int) - x.1 = -x.1 := by omega
  rw [e]
  refine WF.res T.c161 (r161 T (-x.1, x.2) hd (by simp only; omega)) ?_
  rintro _ g rfl
  simp only [wset, hset, dset, bset, reduceAdd, reduceMul, reduceLeDiff, reduceEqDiff, wrap_in (n := 0 - -x.1 / x.2) (by omega) (by omega)]
  rw [show (0 : Int) - -x.1 / x.2 = -(-x.1 / x.2) by omega]
theorem r160 (n d : Nat) (hd0 : 0 < d) (hn : n < 2 ^ 62) (hd : d < 2 ^ 62) : RCall P 160 [.int .i64 n, .int .i64 d] h (fun v _ => v = ratA (lowS n d)) := by
  refine .of T.mix T.c160 ?_
  unfold fn160
  have e9 : max (n : Int) (IntKind.i64.wrap (0 - (n : Int))) = n := by rw [wrap_in (by omega) (by omega)]; omega
  simp only [wset, hset, dset, bset, reduceAdd, reduceMul, reduceLeDiff, reduceEqDiff, e9]
  refine WL.inv T.mix (fun m ts h' => ∃ x y : Nat, y = m ∧ h' = h ++ [.cells [.int .i64 0, .int .i64 0] true false] ∧ Nat.gcd x y = Nat.gcd n d ∧ ts.length = 25 ∧ slot ts 0 = .int .i64 n ∧ slot ts 1 = .int .i64 d ∧ slot ts 4 = .ptr h.length 0 ∧ slot ts 5 = .int .i64 x ∧ slot ts 6 = .int .i64 y) d
    ⟨n, d, rfl, rfl, rfl, rfl, rfl, rfl, rfl, rfl, rfl⟩ ?_
  rintro m ts _ ⟨x, y, hm, rfl, hg, hlen, t0, t1, t4, t5, t6⟩
  subst hm
  rw [expl ts 25 hlen]
  by_cases hy : y = 0
  · have e1 : ((y : Int) = 0) = True := by simp [hy]
    rw [hy, Nat.gcd_zero_right] at hg
    subst hg
    have hg := gcd_bd (n := n) hd0
    have q1 : (n : Int).tdiv (Nat.gcd n d : Nat) = ((n / Nat.gcd n d : Nat) : Int) := (Int.ofNat_tdiv n _).symm
    have q2 : (d : Int).tdiv (Nat.gcd n d : Nat) = ((d / Nat.gcd n d : Nat) : Int) := (Int.ofNat_tdiv d _).symm
    have l1 := Nat.div_le_self n (Nat.gcd n d)
    have l2 := Nat.div_le_self d (Nat.gcd n d)
    simp only [wset, hset, dset, bset, reduceAdd, reduceMul, reduceLeDiff, reduceEqDiff, t0, t1, t4, t5, t6, e1, ne_eq, not_true_eq_false, decide_false, if_true, bin_quo (show ((Nat.gcd n d : Nat) : Int) ≠ 0 by omega), q1, q2, wrap_nat (n / Nat.gcd n d) (by omega), wrap_nat (d / Nat.gcd n d) (by omega)]
    rfl
  · have e1 : ((y : Int) = 0) = False := by simp [hy]
    simp only [wset, hset, dset, bset, reduceAdd, reduceMul, reduceLeDiff, reduceEqDiff, t0, t1, t4, t5, t6, e1, ne_eq, not_false_eq_true, decide_true, bin_rem (show (y : Int) ≠ 0 by omega)]
    refine ⟨_, Nat.mod_lt x (by omega), y, x % y, rfl, ?_, rfl, rfl⟩
    rw [← hg, Nat.gcd_comm x y, Nat.gcd_rec y x, Nat.gcd_comm]
end
end Go.Abs
namespace Go.Abs
def okPicks : Int → List Pk → Prop
  | _, [] => True
  | last, p :: ps => (0 ≤ p.1 ∧ p.1 ≤ 255 ∧ 0 ≤ p.2 ∧ p.2 ≤ 100000 ∧ last < p.1) ∧ okPicks p.1 ps
structure HorV (H : Hor) : Prop where
  nm : nameS H.name = true
  e0 : 0 ≤ H.err
  e1 : H.err ≤ 1000
  ne : 0 < H.picks.length
  le : H.picks.length ≤ 256
  ok : okPicks (-1) H.picks
theorem firstS_zero {l : List Int} : firstS l = 0 ↔ ∀ x ∈ l, x = 0 := by
  induction l with
  | nil => simp [firstS]
  | cons x xs ih =>
    by_cases hx : x = 0
    · simp [firstS, hx, ih]
    · simp [firstS, hx]
theorem rangeS_zero {n lo hi : Int} : rangeS n lo hi = 0 ↔ lo ≤ n ∧ n ≤ hi := by unfold rangeS; split <;> omega
theorem whenS_zero {c : Bool} {e : Int} (he : e ≠ 0) : whenS c e = 0 ↔ c = false := by cases c <;> simp [whenS, he]
theorem chkPicks_zero : ∀ {L : List Pk} {last : Int}, chkPicksS last L = 0 ↔ okPicks last L
  | [], last => by simp [chkPicksS, okPicks]
  | p :: ps, last => by
    have h1 : firstS [rangeS p.1 0 255, rangeS p.2 0 100000, whenS (decide (p.1 ≤ last)) 11] = 0 ↔ (0 ≤ p.1 ∧ p.1 ≤ 255 ∧ 0 ≤ p.2 ∧ p.2 ≤ 100000 ∧ last < p.1) := by
      rw [firstS_zero]
      simp only [List.mem_cons, List.not_mem_nil, or_false, forall_eq_or_imp, forall_eq, rangeS_zero, whenS_zero (show (11 : Int) ≠ 0 by decide), decide_eq_false_iff_not]
      omega
    unfold chkPicksS okPicks
    by_cases h : firstS [rangeS p.1 0 255, rangeS p.2 0 100000, whenS (decide (p.1 ≤ last)) 11] = 0
    · rw [if_pos h, chkPicks_zero]; simp [h1.1 h]
    · rw [if_neg h]
      exact ⟨fun x => absurd x h, fun x => absurd (h1.2 x.1) h⟩
theorem horV_iff {H : Hor} : chkHorS H = 0 ↔ HorV H := by
  have h1 : headS H = 0 ↔ nameS H.name = true ∧ (0 ≤ H.err ∧ H.err ≤ 1000) ∧ 0 < H.picks.length ∧ H.picks.length ≤ 256 := by
    unfold headS
    rw [firstS_zero]
    simp only [List.mem_cons, List.not_mem_nil, or_false, forall_eq_or_imp, forall_eq, rangeS_zero, whenS_zero (show (8 : Int) ≠ 0 by decide), whenS_zero (show (12 : Int) ≠ 0 by decide), whenS_zero (show (5 : Int) ≠ 0 by decide), decide_eq_false_iff_not, Bool.not_eq_false']
    exact ⟨fun ⟨a, b, c, d⟩ => ⟨a, b, by omega, by omega⟩, fun ⟨a, b, c, d⟩ => ⟨a, b, by omega, by omega⟩⟩
  unfold chkHorS
  by_cases h : headS H = 0
  · rw [if_pos h, chkPicks_zero]
    obtain ⟨a, b, c, d⟩ := h1.1 h
    exact ⟨fun x => ⟨a, b.1, b.2, c, d, x⟩, fun x => x.ok⟩
  · rw [if_neg h]
    exact ⟨fun x => absurd x h, fun x => absurd (h1.2 ⟨x.nm, ⟨x.e0, x.e1⟩, x.ne, x.le⟩) h⟩
theorem okPicks.at : ∀ {L : List Pk} {last : Int}, okPicks last L → ∀ {i : Nat} (hi : i < L.length), 0 ≤ L[i].1 ∧ L[i].1 ≤ 255 ∧ 0 ≤ L[i].2 ∧ L[i].2 ≤ 100000 ∧ last < L[i].1
  | [], _, _, i, hi => by simp at hi
  | p :: ps, last, h, 0, hi => h.1
  | p :: ps, last, h, i + 1, hi => by
    have := okPicks.at h.2 (i := i) (by simpa using hi)
    have h1 := h.1
    simp only [List.getElem_cons_succ]
    omega
theorem okPicks.lt : ∀ {L : List Pk} {last : Int}, okPicks last L → ∀ {i j : Nat} (hij : i < j) (hj : j < L.length), (L[i]'(by omega)).1 < L[j].1
  | [], _, _, i, j, _, hj => by simp at hj
  | p :: ps, last, h, i, 0, hij, hj => by omega
  | p :: ps, last, h, 0, j + 1, hij, hj => by
    have := okPicks.at h.2 (i := j) (by simpa using hj)
    simp only [List.getElem_cons_succ, List.getElem_cons_zero]
    omega
  | p :: ps, last, h, i + 1, j + 1, hij, hj => by
    have := okPicks.lt h.2 (i := i) (j := j) (by omega) (by simpa using hj)
    simpa using this
def begS (H : Hor) : Int := (H.picks.headD (0, 0)).1
def endS (H : Hor) : Int := (H.picks.getLastD (0, 0)).1
def hasS (H : Hor) (x : Int) : Bool := decide (begS H ≤ x) && decide (x ≤ endS H)
theorem begS_eq {H : Hor} (hn : 0 < H.picks.length) : begS H = H.picks[0].1 := by
  unfold begS
  rw [List.headD_eq_head?_getD, List.head?_eq_getElem?, List.getElem?_eq_getElem hn]; rfl
theorem endS_eq {H : Hor} (hn : 0 < H.picks.length) : endS H = H.picks[H.picks.length - 1].1 := by
  unfold endS
  rw [List.getLastD_eq_getLast?, List.getLast?_eq_getElem?, List.getElem?_eq_getElem (by omega)]
  rfl
section
variable {P : Program} (T : Tbl P) {h : AHeap}
include T
theorem r167 {H : Hor} {s : AV} (o : HorOk h H s) (hn : 0 < H.picks.length) : RCall P 167 [horA H s] h (fun v _ => v = .tup [.int .i64 (begS H), .int .i64 (endS H)]) := by
  refine .of T.mix T.c167 ?_
  unfold fn167
  have hl := o.len
  have hn1 : H.picks.length - 1 < H.picks.length := by omega
  have e : IntKind.i64.wrap ((H.picks.length : Int) - 1) = ((H.picks.length - 1 : Nat) : Int) := by rw [wrap_in (by omega) (by omega)]; omega
  simp only [wset, hset, dset, bset, reduceAdd, reduceMul, reduceLeDiff, reduceEqDiff, o.sl.one, o.sl.lenm, e, o.sl.ixm hn1, o.sl.lfm (off := 0) hn1 rfl, o.sl.ix0 hn, o.sl.lfm (off := 0) hn rfl]
  rw [endS_eq hn, begS_eq hn]
theorem r157 {H : Hor} {s : AV} (o : HorOk h H s) (hn : 0 < H.picks.length) (x : Int) : RCall P 157 [horA H s, .int .i64 x] h (fun v _ => v = .bool (hasS H x)) := by
  refine .of T.mix T.c157 ?_
  unfold fn157
  simp only [wset, hset, dset, bset, reduceAdd, reduceMul, reduceLeDiff, reduceEqDiff, o.sl.one]
  refine WF.res T.c167 (r167 T (H := H) (o.ext (by simp only [eset])) hn) ?_
  rintro _ g rfl
  simp +contextual only [wset, hset, dset, bset, reduceAdd, reduceMul, reduceLeDiff, reduceEqDiff, wsplit, decide_true, decide_false]
  simp [hasS]
  grind
end
end Go.Abs
namespace Go.Abs
def stepS (a b : Pk) (x : Int) : Int × Int :=
  if b.1 = x then (b.2, 1) else lowS (a.2 * (b.1 - a.1) + (b.2 - a.2) * (x - a.1)).toNat (b.1 - a.1).toNat
def atFrom : Pk → List Pk → Int → Int × Int
  | _, [], _ => (0, 0)
  | a, b :: r, x => if x ≤ b.1 then stepS a b x else atFrom b r x
def atS (H : Hor) (x : Int) : Int × Int := atFrom (0, 0) H.picks x
theorem atFrom_idx : ∀ {L : List Pk} {a : Pk} {x : Int}, (∃ p ∈ L, x ≤ p.1) → ∃ (i : Nat) (hi : i < L.length), idxS (fun p => decide (x ≤ p.1)) L = (i : Int) ∧ x ≤ L[i].1 ∧ (∀ j (_ : j < i), (L[j]'(by omega)).1 < x) ∧ atFrom a L x = stepS (if h : i = 0 then a else L[i - 1]'(by omega)) L[i] x
  | [], a, x, h => by simp at h
  | b :: r, a, x, h => by
    by_cases hb : x ≤ b.1
    · refine ⟨0, by simp, ?_, hb, fun j hj => by omega, ?_⟩
      · simp [idxS, List.findIdx?_cons, hb]
      · simp [atFrom, hb]
    · have hr : ∃ p ∈ r, x ≤ p.1 := by
        obtain ⟨p, hp, hx⟩ := h
        rcases List.mem_cons.1 hp with rfl | hp
        · exact absurd hx hb
        · exact ⟨p, hp, hx⟩
      obtain ⟨i, hi, h1, h2, h3, h4⟩ := atFrom_idx (a := b) hr
      refine ⟨i + 1, by simpa using hi, ?_, by simpa using h2, fun j hj => ?_, ?_⟩
      · unfold idxS at h1 ⊢
        rw [List.findIdx?_cons]
        simp only [hb, decide_false, Bool.false_eq_true, if_false]
        cases hx : r.findIdx? fun p => decide (x ≤ p.1) with
        | none => rw [hx] at h1; simp only at h1; omega
        | some k => rw [hx] at h1; simp only at h1; simp only [Option.map_some]; omega
      · cases j with
        | zero => simp only [List.getElem_cons_zero]; omega
        | succ j => simpa using h3 j (by omega)
      · rw [atFrom, if_neg hb, h4]
        simp only [List.getElem_cons_succ]
        by_cases hi0 : i = 0
        · subst hi0; simp
        · have : (b :: r)[i + 1 - 1]'(by simp; omega) = r[i - 1]'(by omega) := by
            have : i + 1 - 1 = (i - 1) + 1 := by omega
            simp only [this, List.getElem_cons_succ]
          rw [dif_neg hi0, dif_neg (by omega), this]
theorem interp_bd {a b : Pk} {x : Int} (ha : 0 ≤ a.1 ∧ a.1 ≤ 255 ∧ 0 ≤ a.2 ∧ a.2 ≤ 100000) (hb : 0 ≤ b.1 ∧ b.1 ≤ 255 ∧ 0 ≤ b.2 ∧ b.2 ≤ 100000) (h1 : a.1 ≤ x) (h2 : x ≤ b.1) :
    (0 ≤ a.2 * (b.1 - a.1) ∧ a.2 * (b.1 - a.1) ≤ 25500000) ∧ (-25500000 ≤ (b.2 - a.2) * (x - a.1) ∧ (b.2 - a.2) * (x - a.1) ≤ 25500000) ∧ 0 ≤ a.2 * (b.1 - a.1) + (b.2 - a.2) * (x - a.1) ∧ a.2 * (b.1 - a.1) + (b.2 - a.2) * (x - a.1) ≤ 100000 * (b.1 - a.1) := by
  have k1 : 0 ≤ a.2 * (b.1 - x) := Int.mul_nonneg (by omega) (by omega)
  have k2 : 0 ≤ b.2 * (x - a.1) := Int.mul_nonneg (by omega) (by omega)
  have k3 : a.2 * (b.1 - x) ≤ 100000 * (b.1 - x) := Int.mul_le_mul_of_nonneg_right (by omega) (by omega)
  have k4 : b.2 * (x - a.1) ≤ 100000 * (x - a.1) := Int.mul_le_mul_of_nonneg_right (by omega) (by omega)
  have k5 : 0 ≤ a.2 * (x - a.1) := Int.mul_nonneg (by omega) (by omega)
  have k6 : a.2 * (x - a.1) ≤ 100000 * (x - a.1) := Int.mul_le_mul_of_nonneg_right (by omega) (by omega)
  have e1 : a.2 * (b.1 - a.1) = a.2 * (b.1 - x) + a.2 * (x - a.1) := by rw [← Int.mul_add]; congr 1; omega
  have e2 : (b.2 - a.2) * (x - a.1) = b.2 * (x - a.1) - a.2 * (x - a.1) := Int.sub_mul _ _ _
  omega
theorem lowS_bd {n d : Nat} (hd : 0 < d) : 1 ≤ (lowS n d).2 ∧ (lowS n d).2 ≤ d ∧ 0 ≤ (lowS n d).1 ∧ (lowS n d).1 ≤ n := by
  have hg := gcd_bd (n := n) hd
  have l1 := Nat.div_le_self n (Nat.gcd n d)
  have l2 := Nat.div_le_self d (Nat.gcd n d)
  have l3 : 0 < d / Nat.gcd n d := Nat.div_pos hg.2 hg.1
  unfold lowS
  simp only
  generalize n / Nat.gcd n d = q1 at *
  generalize d / Nat.gcd n d = q2 at *
  omega
theorem has_some {H : Hor} (v : HorV H) {x : Int} (hx : hasS H x = true) : ∃ p ∈ H.picks, x ≤ p.1 := by
  simp only [hasS, Bool.and_eq_true, decide_eq_true_eq] at hx
  rw [endS_eq v.ne] at hx
  exact ⟨_, List.getElem_mem _, hx.2⟩
theorem at_bd {H : Hor} (v : HorV H) {x : Int} (hx : hasS H x = true) : 1 ≤ (atS H x).2 ∧ (atS H x).2 ≤ 255 ∧ 0 ≤ (atS H x).1 ∧ (atS H x).1 ≤ 25500000 := by
  obtain ⟨i, hi, _, h2, h3, h4⟩ := atFrom_idx (a := (0, 0)) (has_some v hx)
  unfold atS
  rw [h4]
  have hb := v.ok.at hi
  unfold stepS
  by_cases he : H.picks[i].1 = x
  · rw [if_pos he]; simp only; omega
  · rw [if_neg he]
    have hi0 : i ≠ 0 := by
      rintro rfl
      simp only [hasS, Bool.and_eq_true, decide_eq_true_eq] at hx
      rw [begS_eq v.ne] at hx
      omega
    rw [dif_neg hi0]
    have ha := v.ok.at (i := i - 1) (by omega)
    have hlt := h3 (i - 1) (by omega)
    have hab := v.ok.lt (i := i - 1) (j := i) (by omega) hi
    have := interp_bd (a := H.picks[i - 1]) (b := H.picks[i]) (x := x) (by omega) (by omega) (by omega) h2
    have hl := lowS_bd (n := (H.picks[i - 1].2 * (H.picks[i].1 - H.picks[i - 1].1) + (H.picks[i].2 - H.picks[i - 1].2) * (x - H.picks[i - 1].1)).toNat) (d := (H.picks[i].1 - H.picks[i - 1].1).toNat) (by omega)
    omega
section
variable {P : Program} (T : Tbl P) {h : AHeap}
include T
theorem r160' (n d : Int) (hn0 : 0 ≤ n) (hd0 : 0 < d) (hn : n < 2 ^ 62) (hd : d < 2 ^ 62) : RCall P 160 [.int .i64 n, .int .i64 d] h (fun v _ => v = ratA (lowS n.toNat d.toNat)) := by
  have := r160 T (h := h) n.toNat d.toNat (by omega) (by omega) (by omega)
  rwa [Int.toNat_of_nonneg hn0, Int.toNat_of_nonneg (by omega)] at this
theorem r159 {p : Pk} {x : Int} {b : Nat} (hb : h[b]? = some (.cells [.int .i64 x] true false)) : RCall P 159 [.agg (pkRow p), .ptr b 0] h (fun v _ => v = .bool (decide (x ≤ p.1))) := by
  refine .of T.mix T.c159 ?_
  unfold fn159
  have hlt := (List.getElem?_eq_some_iff.1 hb).1
  have hld : ∀ g : AHeap, loadF none (.ptr b 0) (fun z => (h ++ g)[z]?) = ldB none 0 (.cells [.int .i64 x] true false) := fun g => loadF_at (by rw [at_app _ hlt]; exact hb)
  simp only [wset, hset, dset, bset, reduceAdd, reduceMul, reduceLeDiff, reduceEqDiff, hld]
theorem r96 {H : Hor} {s : AV} (o : HorOk h H s) (v : HorV H) {x : Int} (hx : hasS H x = true) : RCall P 96 [horA H s, .int .i64 x] h (fun v _ => v = ratA (atS H x)) := by
  obtain ⟨i, hi, h1, h2, h3, h4⟩ := atFrom_idx (a := (0, 0)) (has_some v hx)
  have hb := v.ok.at hi
  have hat : atS H x = stepS (if h : i = 0 then (0, 0) else H.picks[i - 1]'(by omega)) H.picks[i] x := h4
  refine .of T.mix T.c96 ?_
  unfold fn96
  simp only [wset, hset, dset, bset, reduceAdd, reduceMul, reduceLeDiff, reduceEqDiff, o.sl.one]
  refine WF.res T.c158 (r158 T (o.sl.ext (by simp only [eset])) o.len (fun p => decide (x ≤ p.1)) (fun p hp kk e => VCall.of T.c159 (r159 T (p := p) (x := x) (e.some at_1)))) ?_
  rintro _ g1 rfl
  rw [h1]
  simp only [wset, hset, dset, bset, reduceAdd, reduceMul, reduceLeDiff, reduceEqDiff, o.sl.ixm hi, o.sl.ldm hi]
  by_cases he : H.picks[i].1 = x
  · simp only [wset, hset, dset, bset, reduceAdd, reduceMul, reduceLeDiff, reduceEqDiff, eq_true he, decide_true, Bool.and_true]
    rw [hat, stepS, if_pos he]
  · have hi0 : i ≠ 0 := by
      rintro rfl
      simp only [hasS, Bool.and_eq_true, decide_eq_true_eq] at hx
      rw [begS_eq v.ne] at hx
      omega
    rw [dif_neg hi0] at hat
    have hi1 : i - 1 < H.picks.length := by omega
    have ha := v.ok.at hi1
    have hlt := h3 (i - 1) (by omega)
    have hab := v.ok.lt (i := i - 1) (j := i) (by omega) hi
    have hbd := interp_bd (a := H.picks[i - 1]) (b := H.picks[i]) (x := x) (by omega) (by omega) (by omega) h2
    have e1 : IntKind.i64.wrap ((i : Int) - 1) = ((i - 1 : Nat) : Int) := by have := v.le; rw [wrap_in (by omega) (by omega)]; omega
    simp only [wset, hset, dset, bset, reduceAdd, reduceMul, reduceLeDiff, reduceEqDiff, eq_false he, decide_false, Bool.false_and, o.sl.lenm, e1, o.sl.ixm hi1, o.sl.ldm hi1]
    simp only [wrap_in (n := H.picks[i].1 - H.picks[i - 1].1) (by omega) (by omega), wrap_in (n := H.picks[i - 1].2 * (H.picks[i].1 - H.picks[i - 1].1)) (by omega) (by omega), wrap_in (n := H.picks[i].2 - H.picks[i - 1].2) (by omega) (by omega), wrap_in (n := x - H.picks[i - 1].1) (by omega) (by omega), wrap_in (n := (H.picks[i].2 - H.picks[i - 1].2) * (x - H.picks[i - 1].1)) (by omega) (by omega), wrap_in (n := H.picks[i - 1].2 * (H.picks[i].1 - H.picks[i - 1].1) + (H.picks[i].2 - H.picks[i - 1].2) * (x - H.picks[i - 1].1)) (by omega) (by omega)]
    refine WF.res T.c160 (r160' T _ _ (by omega) (by omega) (by omega) (by omega)) ?_
    rintro _ g2 rfl
    simp only [wset, hset, dset, bset, reduceAdd, reduceMul, reduceLeDiff, reduceEqDiff]
    rw [hat, stepS, if_neg he]
end
end Go.Abs
namespace Go.Abs
def bandS (H : Hor) (x : Int) : Int × Int := ((atS H x).1 / (atS H x).2 - H.err, -((-(atS H x).1) / (atS H x).2) + H.err)
def shortS (H : Hor) : Bool := decide (H.name.length ≤ 60) && (decide (H.picks.length ≤ 8) || decide (H.picks.length = 257))
def shortAllS (L : List Hor) : Bool := L.all shortS && (decide (L.length ≤ 4) || decide (L.length = 9))
theorem div_bd {n d : Int} (hd : 1 ≤ d) (h0 : 0 ≤ n) : 0 ≤ n / d ∧ n / d ≤ n := ⟨Int.ediv_nonneg h0 (by omega), Int.ediv_le_self d h0⟩
theorem ceil_bd {n d : Int} (hd : 1 ≤ d) (h0 : 0 ≤ n) : 0 ≤ -((-n) / d) ∧ -((-n) / d) ≤ n := by
  have h1 : (-n) / d ≤ 0 := Int.ediv_le_of_le_mul (by omega) (by omega)
  have h2 : -n ≤ (-n) / d := by
    rw [Int.le_ediv_iff_mul_le (by omega)]
    have : 0 ≤ n * (d - 1) := Int.mul_nonneg h0 (by omega)
    rw [Int.mul_sub, Int.mul_one] at this
    rw [Int.neg_mul]; omega
  omega
theorem band_bd {H : Hor} (v : HorV H) {x : Int} (hx : hasS H x = true) : -1000 ≤ (bandS H x).1 ∧ (bandS H x).1 ≤ 25500000 ∧ 0 ≤ (bandS H x).2 ∧ (bandS H x).2 ≤ 25501000 := by
  have hb := at_bd v hx
  have h1 := div_bd (n := (atS H x).1) (d := (atS H x).2) (by omega) (by omega)
  have h2 := ceil_bd (n := (atS H x).1) (d := (atS H x).2) (by omega) (by omega)
  have := v.e0
  have := v.e1
  unfold bandS
  simp only
  omega
section
variable {P : Program} (T : Tbl P) {h : AHeap}
include T
theorem r97 {H : Hor} {s : AV} (o : HorOk h H s) (v : HorV H) {x : Int} (hx : hasS H x = true) : RCall P 97 [horA H s, .int .i64 x] h (fun v _ => v = ratA (bandS H x)) := by
  refine .of T.mix T.c97 ?_
  unfold fn97
  have hb := at_bd v hx
  have h1 := div_bd (n := (atS H x).1) (d := (atS H x).2) (by omega) (by omega)
  have h2 := ceil_bd (n := (atS H x).1) (d := (atS H x).2) (by omega) (by omega)
  have he0 := v.e0
  have he1 := v.e1
  simp only [wset, hset, dset, bset, reduceAdd, reduceMul, reduceLeDiff, reduceEqDiff, o.sl.one]
  refine WF.res T.c96 (r96 T (H := H) (o.ext (by simp only [eset])) v hx) ?_
  rintro _ g1 rfl
  simp only [wset, hset, dset, bset, reduceAdd, reduceMul, reduceLeDiff, reduceEqDiff]
  refine WF.res T.c161 (r161 T (atS H x) (by omega) (by omega)) ?_
  rintro _ g2 rfl
  simp only [wset, hset, dset, bset, reduceAdd, reduceMul, reduceLeDiff, reduceEqDiff]
  refine WF.res T.c162 (r162 T (atS H x) (by omega) (by omega)) ?_
  rintro _ g3 rfl
  simp only [wset, hset, dset, bset, reduceAdd, reduceMul, reduceLeDiff, reduceEqDiff, wrap_in (n := (atS H x).1 / (atS H x).2 - H.err) (by omega) (by omega), wrap_in (n := -(-(atS H x).1 / (atS H x).2) + H.err) (by omega) (by omega)]
  rfl
theorem r16 {H : Hor} {s : AV} (hs : IsSl h s 2 (H.picks.map pkRow)) : RCall P 16 [horA H s] h (fun v _ => v = .bool (shortS H)) := by
  refine .of T.mix T.c16 ?_
  unfold fn16
  simp +contextual only [wset, hset, dset, bset, reduceAdd, reduceMul, reduceLeDiff, reduceEqDiff, wsplit, hs.one, hs.lenm, decide_true, decide_false]
  simp only [shortS]
  repeat' first | intro _ | apply And.intro
  all_goals (refine congrArg AV.bool ?_; rw [Bool.eq_iff_iff]; simp; omega)
theorem r17 {L : List (Hor × AV)} {s : AV} (hs : IsSl h s 3 (L.map horRow)) (hl : L.length < 2 ^ 63) (ha : ∀ x ∈ L, IsSl h x.2 2 (x.1.picks.map pkRow)) : RCall P 17 [s] h (fun v _ => v = .bool (shortAllS (L.map (·.1)))) := by
  refine .of T.mix T.c17 ?_
  unfold fn17
  simp only [wset, hset, dset, bset, reduceAdd, reduceMul, reduceLeDiff, reduceEqDiff]
  refine WL.inv T.mix (fun n ts h' => ∃ k : Nat, k ≤ L.length ∧ n = L.length - k ∧ Ext h h' ∧ (L.all fun x => shortS x.1) = ((L.drop k).all fun x => shortS x.1) ∧ ts.length = 24 ∧ slot ts 0 = s ∧ slot ts 3 = .int .i64 k) L.length
    ⟨0, by omega, rfl, Ext.refl h, rfl, rfl, rfl, rfl⟩ ?_
  rintro _ ts _ ⟨k, hk, rfl, ⟨g, rfl⟩, hi, hlen, t0, t3⟩
  rw [expl ts 24 hlen]
  have hm : ((L.map (·.1)).all shortS) = L.all fun x => shortS x.1 := by rw [List.all_map]; rfl
  by_cases hlt : k < L.length
  · have hd : L.drop k = L[k] :: L.drop (k + 1) := by simp
    have e3 : (k : Int) < L.length := by omega
    simp only [wset, hset, dset, bset, reduceAdd, reduceMul, reduceLeDiff, reduceEqDiff, t0, t3, e3, decide_true, hs.lenm, hs.ixm hlt, hs.ldm hlt]
    refine WF.res T.c16 (r16 T (H := L[k].1) ((ha _ (by simp)).ext (by simp only [eset]))) ?_
    rintro _ g1 rfl
    rw [hd, List.all_cons] at hi
    cases hsh : shortS L[k].1 with
    | true =>
      simp only [wset, hset, dset, bset, reduceAdd, reduceMul, reduceLeDiff, reduceEqDiff, Bool.not_true, t3, wrapN (show k + 1 < 2 ^ 63 by omega)]
      refine ⟨_, ?_, k + 1, by omega, rfl, ?_, rfl⟩
      · omega
      · rw [hi, hsh, Bool.true_and]
    | false =>
      simp only [wset, hset, dset, bset, reduceAdd, reduceMul, reduceLeDiff, reduceEqDiff, Bool.not_false]
      rw [shortAllS, hm, hi, hsh, Bool.false_and, Bool.false_and]
  · have e3 : ¬ (k : Int) < L.length := by omega
    have e4 : k = L.length := by omega
    rw [e4, List.drop_length, List.all_nil] at hi
    simp +contextual only [wset, hset, dset, bset, reduceAdd, reduceMul, reduceLeDiff, reduceEqDiff, wsplit, t0, t3, e3, decide_false, decide_true, if_true, hs.lenm]
    rw [shortAllS, hm, hi, List.length_map]
    repeat' first | intro _ | apply And.intro
    all_goals (refine congrArg AV.bool ?_; rw [Bool.eq_iff_iff]; simp; omega)
end
end Go.Abs
namespace Go.Abs
theorem Fr.swap' {N : Nat} {A B g : AHeap} {s : AV} {es : Nat} {cs : List (List AV)} (hs : Fr N (A ++ g) s es cs) (hA : A.length = N) (hB : B.length = N) : Fr N (B ++ g) s es cs := by
  subst hA; exact hs.swap hB
theorem IsSl.keep2 {h k : AHeap} {s : AV} {es : Nat} {cs : List (List AV)} (hs : IsSl h s es cs) (hk : ∀ b o n e, s = .slice b o n e → k[b]? = h[b]?) : IsSl k s es cs := by
  cases hs with
  | nil => exact .nil
  | mk hb hf ho he => exact .mk ((hk _ _ _ _ rfl).trans hb) hf ho he
section
variable {P : Program} (T : Tbl P) {h : AHeap}
include T
theorem r19 {H : Hor} {s : AV} (hs : IsSl h s 2 (H.picks.map pkRow)) (hb : H.picks.length ≤ 2 ^ 40) : RCall P 19 [horA H s] h (fun v h' => ∃ s', v = horA H s' ∧ Fr h.length h' s' 2 (H.picks.map pkRow)) := by
  refine .of T.mix T.c19 ?_
  unfold fn19
  simp only [wset, hset, dset, bset, reduceAdd, reduceMul, reduceLeDiff, reduceEqDiff, hs.one, hs.lenm]
  refine WL.inv T.mix (fun n ts h' => ∃ (k : Nat) (out : AV) (g : AHeap), k ≤ H.picks.length ∧ n = H.picks.length - k ∧ h' = h ++ [ABlk.cells [AV.str H.name, AV.int IntKind.i64 H.err, s] true false] ++ [ABlk.cells [AV.str [], AV.int IntKind.i64 0, AV.nilSlice] true false] ++ [ABlk.cells [AV.str H.name, AV.int IntKind.i64 H.err, out] true false] ++ g ∧ Fr (h.length + 3) h' out 2 ((H.picks.take k).map pkRow) ∧ ts.length = 26 ∧ slot ts 2 = .ptr (h ++ [ABlk.cells [AV.str H.name, AV.int IntKind.i64 H.err, s] true false]).length 0 ∧ slot ts 3 = .ptr (h ++ [ABlk.cells [AV.str H.name, AV.int IntKind.i64 H.err, s] true false] ++ [ABlk.cells [AV.str [], AV.int IntKind.i64 0, AV.nilSlice] true false]).length 0 ∧ slot ts 12 = s ∧ slot ts 13 = .int .i64 H.picks.length ∧ slot ts 14 = .int .i64 k) H.picks.length
    ⟨0, .nilSlice, [], by omega, rfl, by rw [List.append_nil], .nil, rfl, rfl, rfl, rfl, rfl, rfl⟩ ?_
  rintro _ ts _ ⟨k, out, g, hk, rfl, rfl, hfr, hlen, t2, t3, t12, t13, t14⟩
  rw [expl ts 26 hlen]
  by_cases hlt : k < H.picks.length
  · have e3 : (k : Int) < H.picks.length := by omega
    simp only [wset, hset, dset, bset, reduceAdd, reduceMul, reduceLeDiff, reduceEqDiff, t2, t3, t12, t13, t14, e3, decide_true, hs.ixm hlt, hs.ldm hlt]
    have e0 : (h ++ [ABlk.cells [AV.str H.name, AV.int IntKind.i64 H.err, s] true false] ++ [ABlk.cells [AV.str [], AV.int IntKind.i64 0, AV.nilSlice] true false] ++ [ABlk.cells [AV.str H.name, AV.int IntKind.i64 H.err, out] true false]).length = h.length + 3 := by simp
    refine WR.app1 (h0 := h ++ [ABlk.cells [AV.str H.name, AV.int IntKind.i64 H.err, s] true false] ++ [ABlk.cells [AV.str [], AV.int IntKind.i64 0, AV.nilSlice] true false] ++ [ABlk.cells [AV.str H.name, AV.int IntKind.i64 H.err, out] true false]) (cs := (H.picks.take k).map pkRow) (ys := [pkRow H.picks[k]]) (by rw [e0]; exact (hfr.app _).app _) (Fr.push (N := 0) (Nat.zero_le _) [pkRow H.picks[k]] (by simp)).isSl (by decide) (by simp) (by simp; omega) (by simp only [eset]) ?_
    intro g' hl hf hkp
    have hrow : (H.picks.take k).map pkRow ++ [pkRow H.picks[k]] = (H.picks.take (k + 1)).map pkRow := by rw [List.take_add_one, List.getElem?_eq_getElem hlt, List.map_append]; rfl
    rw [e0, hrow] at hf
    rw [hrow]
    simp only [wset, hset, dset, bset, reduceAdd, reduceMul, reduceLeDiff, reduceEqDiff, t2, t3, t12, t13, t14, wrapN (show k + 1 < 2 ^ 63 by omega)]
    refine ⟨_, ?_, k + 1, _, g', by omega, rfl, rfl, hf.swap' e0 (by simp), rfl⟩
    omega
  · have e3 : ¬ (k : Int) < H.picks.length := by omega
    have e4 : k = H.picks.length := by omega
    simp only [wset, hset, dset, bset, reduceAdd, reduceMul, reduceLeDiff, reduceEqDiff, t2, t3, t12, t13, t14, e3, decide_false, if_true, hfr.isSl.one]
    rw [e4, List.take_length] at hfr
    exact ⟨_, rfl, (hfr.swap' (A := h ++ [ABlk.cells [AV.str H.name, AV.int IntKind.i64 H.err, s] true false] ++ [ABlk.cells [AV.str [], AV.int IntKind.i64 0, AV.nilSlice] true false] ++ [ABlk.cells [AV.str H.name, AV.int IntKind.i64 H.err, out] true false]) (by simp) (by simp)).low (by omega)⟩
theorem list_fr {L : List (Hor × AV)} {s : AV} (hs : IsSl h s 3 (L.map horRow)) (hl : L.length ≤ 2 ^ 40) (ha : ∀ x ∈ L, IsSl h x.2 2 (x.1.picks.map pkRow) ∧ x.1.picks.length ≤ 2 ^ 40) :
    RCall P 28 [s] h (fun v h' => ∃ L' : List (Hor × AV), L'.map (·.1) = L.map (·.1) ∧ Fr h.length h' v 3 (L'.map horRow) ∧ ∀ x ∈ L', IsSl h' x.2 2 (x.1.picks.map pkRow) ∧ ∀ b o n e b0 o0 n0 e0, x.2 = .slice b o n e → v = .slice b0 o0 n0 e0 → b < b0) := by
  refine .of T.mix T.c28 ?_
  unfold fn28
  simp only [wset, hset, dset, bset, reduceAdd, reduceMul, reduceLeDiff, reduceEqDiff, hs.lenm]
  refine WL.inv T.mix (fun n ts h' => ∃ (k : Nat) (out : AV) (L' : List (Hor × AV)), k ≤ L.length ∧ n = L.length - k ∧ Ext h h' ∧ L'.map (·.1) = (L.take k).map (·.1) ∧ Fr h.length h' out 3 (L'.map horRow) ∧ (∀ x ∈ L', IsSl h' x.2 2 (x.1.picks.map pkRow) ∧ ∀ b o n e b0 o0 n0 e0, x.2 = .slice b o n e → out = .slice b0 o0 n0 e0 → b < b0) ∧ ts.length = 19 ∧ slot ts 3 = out ∧ slot ts 6 = s ∧ slot ts 7 = .int .i64 L.length ∧ slot ts 8 = .int .i64 k) L.length
    ⟨0, .nilSlice, [], by omega, rfl, Ext.refl h, rfl, .nil, by simp, rfl, rfl, rfl, rfl, rfl⟩ ?_
  rintro _ ts _ ⟨k, out, L', hk, rfl, ⟨g, rfl⟩, hm, hfr, hel, hlen, t3, t6, t7, t8⟩
  rw [expl ts 19 hlen]
  by_cases hlt : k < L.length
  · have e3 : (k : Int) < L.length := by omega
    have hx := ha L[k] (by simp)
    have hlk : L'.length = k := by have := congrArg List.length hm; simp at this; omega
    simp only [wset, hset, dset, bset, reduceAdd, reduceMul, reduceLeDiff, reduceEqDiff, t3, t6, t7, t8, e3, decide_true, hs.ixm hlt, hs.ldm hlt, hx.1.one]
    refine WF.res T.c19 (r19 T (H := L[k].1) (hx.1.ext (by simp only [eset])) hx.2) ?_
    rintro _ g1 ⟨s', rfl, hs'⟩
    simp only [wset, hset, dset, bset, reduceAdd, reduceMul, reduceLeDiff, reduceEqDiff, hs'.isSl.one]
    refine WR.app1 (h0 := h) (cs := L'.map horRow) (ys := [horRow (L[k].1, s')]) ((((hfr.app _).app _).app _)) (Fr.push (N := 0) (Nat.zero_le _) [horRow (L[k].1, s')] (by simp)).isSl (by decide) (by simp) (by simp; omega) (by simp only [eset]) ?_
    intro g' hl' hf hkp
    have hrow : L'.map horRow ++ [horRow (L[k].1, s')] = (L' ++ [(L[k].1, s')]).map horRow := by rw [List.map_append]; rfl
    rw [hrow] at hf
    rw [hrow]
    simp only [wset, hset, dset, bset, reduceAdd, reduceMul, reduceLeDiff, reduceEqDiff, t3, t6, t7, t8, wrapN (show k + 1 < 2 ^ 63 by omega)]
    refine ⟨_, ?_, k + 1, _, L' ++ [(L[k].1, s')], by omega, rfl, ?_, hf, ?_, rfl, rfl⟩
    · omega
    · rw [List.map_append, hm, List.take_add_one, List.getElem?_eq_getElem hlt, List.map_append]; rfl
    · intro x hx'
      rcases List.mem_append.1 hx' with hx' | hx'
      · obtain ⟨h1, h2⟩ := hel x hx'
        have h1' := ((h1.app [ABlk.cells (horRow L[k]) true false]).app g1).app [ABlk.cells [AV.str L[k].1.name, AV.int IntKind.i64 L[k].1.err, s'] true true]
        refine ⟨h1'.keep2 fun b o n e hb => hkp b (h1'.lt hb) fun b0 o0 n0 e0 hout => ?_, fun b o n e b0 o0 n0 e0 hb hout => ?_⟩
        · have := h2 _ _ _ _ _ _ _ _ hb hout
          omega
        · cases hout; exact h1'.lt hb
      · simp only [List.mem_singleton] at hx'
        subst hx'
        have h1' := hs'.isSl.app [ABlk.cells [AV.str L[k].1.name, AV.int IntKind.i64 L[k].1.err, s'] true true]
        refine ⟨h1'.keep2 fun b o n e hb => hkp b (h1'.lt hb) fun b0 o0 n0 e0 hout => ?_, fun b o n e b0 o0 n0 e0 hb hout => ?_⟩
        · have h3 := (hs'.lt hb).1
          have h4 := (hfr.lt hout).2
          simp only [List.length_append] at h3 h4
          omega
        · cases hout; exact h1'.lt hb
  · have e3 : ¬ (k : Int) < L.length := by omega
    have e4 : k = L.length := by omega
    simp only [wset, hset, dset, bset, reduceAdd, reduceMul, reduceLeDiff, reduceEqDiff, t3, t6, t7, t8, e3, decide_false, if_true]
    rw [e4, List.take_length] at hm
    exact ⟨L', hm, hfr, hel⟩
theorem r28 {L : List (Hor × AV)} {s : AV} (hs : IsSl h s 3 (L.map horRow)) (hl : L.length ≤ 2 ^ 40) (ha : ∀ x ∈ L, IsSl h x.2 2 (x.1.picks.map pkRow) ∧ x.1.picks.length ≤ 2 ^ 40) :
    RCall P 28 [s] h (fun v h' => ∃ L' : List (Hor × AV), L'.map (·.1) = L.map (·.1) ∧ IsSl h' v 3 (L'.map horRow) ∧ ∀ x ∈ L', IsSl h' x.2 2 (x.1.picks.map pkRow)) :=
  (list_fr T hs hl ha).mono fun _ _ ⟨L', h1, h2, h3⟩ => ⟨L', h1, h2.isSl, fun x hx => (h3 x hx).1⟩
end
end Go.Abs
namespace Go.Abs
def chkIvS (x : Int × Int) (lo hi : Int) : Int := firstS [rangeS x.1 lo hi, rangeS x.2 lo hi, whenS (decide (x.2 < x.1)) 11]
def velHeadS (L : List Hor) (V : List (Int × Int)) : Int := firstS [chkHorsS L, whenS (decide ((V.length : Int) ≠ L.length)) 2]
def chkVelS (L : List Hor) (V : List (Int × Int)) : Int := if velHeadS L V = 0 then firstS (V.map fun x => chkIvS x 1 1000) else velHeadS L V
def allHasS (L : List Hor) (x : Int) : Bool := L.all fun H => hasS H x
def depthsS : (Int × Int) → (Int × Int) → List (Hor × (Int × Int)) → Int → List (Int × Int)
  | _, _, [], _ => []
  | above, dep, (H, v) :: r, x =>
    (dep.1 + max 0 ((bandS H x).1 - above.2) * v.1, dep.2 + max 0 ((bandS H x).2 - above.1) * v.2) :: depthsS (bandS H x) (dep.1 + max 0 ((bandS H x).1 - above.2) * v.1, dep.2 + max 0 ((bandS H x).2 - above.1) * v.2) r x
theorem depthsS_len : ∀ {r : List (Hor × (Int × Int))} {a d : Int × Int} {x : Int}, (depthsS a d r x).length = r.length
  | [], _, _, _ => rfl
  | (H, v) :: r, a, d, x => by simp only [depthsS, List.length_cons, depthsS_len]
theorem mul_bd {a b A B : Int} (ha : 0 ≤ a ∧ a ≤ A) (hb : 0 ≤ b ∧ b ≤ B) : 0 ≤ a * b ∧ a * b ≤ A * B := by
  refine ⟨Int.mul_nonneg ha.1 hb.1, ?_⟩
  exact Int.le_trans (Int.mul_le_mul_of_nonneg_right ha.2 hb.1) (Int.mul_le_mul_of_nonneg_left hb.2 (by omega))
section
variable {P : Program} (T : Tbl P) {h : AHeap}
include T
theorem r138 (x : Int × Int) (lo hi : Int) : RCall P 138 [ratA x, .int .i64 lo, .int .i64 hi] h (fun v _ => v = .int .i64 (chkIvS x lo hi)) := by
  refine .of T.mix T.c138 ?_
  unfold fn138
  simp only [wset, hset, dset, bset, reduceAdd, reduceMul, reduceLeDiff, reduceEqDiff]
  refine WF.res T.c108 (r108 T _ _ _) ?_
  rintro _ g1 rfl
  simp only [wset, hset, dset, bset, reduceAdd, reduceMul, reduceLeDiff, reduceEqDiff]
  refine WF.res T.c108 (r108 T _ _ _) ?_
  rintro _ g2 rfl
  simp only [wset, hset, dset, bset, reduceAdd, reduceMul, reduceLeDiff, reduceEqDiff]
  refine WF.res T.c106 (r106 T _ _) ?_
  rintro _ g3 rfl
  simp only [wset, hset, dset, bset, reduceAdd, reduceMul, reduceLeDiff, reduceEqDiff]
  refine WF.res T.c105 (r105 T (isSl_ints [_, _, _]) (by simp)) ?_
  rintro _ g4 rfl
  simp only [wset, hset, dset, bset, reduceAdd, reduceMul, reduceLeDiff, reduceEqDiff]
  rfl
theorem r168 (x : Int × Int) : RCall P 168 [ratA x] h (fun v _ => v = .int .i64 (chkIvS x 1 1000)) := by
  refine .of T.mix T.c168 ?_
  unfold fn168
  simp only [wset, hset, dset, bset, reduceAdd, reduceMul, reduceLeDiff, reduceEqDiff]
  refine WF.res T.c138 (r138 T x _ _) ?_
  rintro _ g1 rfl
  simp only [wset, hset, dset, bset, reduceAdd, reduceMul, reduceLeDiff, reduceEqDiff]
theorem r136 {L : List (Int × Int)} {s f : AV} (hs : IsSl h s 2 (L.map ratRow)) (hl : L.length ≤ 2 ^ 40) (F : (Int × Int) → Int) (hf : ∀ x, x ∈ L → ∀ k, Ext h k → VCall P f [ratA x] k (fun v _ => v = .int .i64 (F x))) :
    RCall P 136 [s, f] h (fun v h' => IsSl h' v 1 ((L.map F).map intRow)) := by
  refine .of T.mix T.c136 ?_
  unfold fn136
  simp only [wset, hset, dset, bset, reduceAdd, reduceMul, reduceLeDiff, reduceEqDiff, hs.lenm]
  refine WL.inv T.mix (fun n ts h' => ∃ (k : Nat) (out : AV), k ≤ L.length ∧ n = L.length - k ∧ Ext h h' ∧ Fr h.length h' out 1 (((L.take k).map F).map intRow) ∧ ts.length = 22 ∧ slot ts 1 = f ∧ slot ts 5 = out ∧ slot ts 8 = s ∧ slot ts 9 = .int .i64 L.length ∧ slot ts 10 = .int .i64 k) L.length
    ⟨0, .nilSlice, by omega, rfl, Ext.refl h, .nil, rfl, rfl, rfl, rfl, rfl, rfl⟩ ?_
  rintro _ ts _ ⟨k, out, hk, rfl, ⟨g, rfl⟩, hfr, hlen, t1, t5, t8, t9, t10⟩
  rw [expl ts 22 hlen]
  by_cases hlt : k < L.length
  · have e3 : (k : Int) < L.length := by omega
    simp only [wset, hset, dset, bset, reduceAdd, reduceMul, reduceLeDiff, reduceEqDiff, t1, t5, t8, t9, t10, e3, decide_true, hs.ixm hlt, hs.ldm hlt]
    refine WF.val (hf L[k] (by simp) _ (by repeat first | exact Ext.refl _ | refine Ext.app _ ?_)) ?_
    rintro _ g1 rfl
    simp only [wset, hset, dset, bset, reduceAdd, reduceMul, reduceLeDiff, reduceEqDiff]
    refine WR.app1 (h0 := h) (cs := ((L.take k).map F).map intRow) (ys := [intRow (F L[k])]) ((((hfr.app _).app _).app _)) (Fr.push (N := 0) (Nat.zero_le _) [intRow (F L[k])] (by simp)).isSl (by decide) (by simp) (by simp; omega) (by simp only [eset]) ?_
    intro g' hl' hff hkp
    have hrow : ((L.take k).map F).map intRow ++ [intRow (F L[k])] = ((L.take (k + 1)).map F).map intRow := by rw [List.take_add_one, List.getElem?_eq_getElem hlt, List.map_append, List.map_append]; rfl
    rw [hrow] at hff
    rw [hrow]
    simp only [wset, hset, dset, bset, reduceAdd, reduceMul, reduceLeDiff, reduceEqDiff, t1, t5, t8, t9, t10, wrapN (show k + 1 < 2 ^ 63 by omega)]
    refine ⟨_, ?_, k + 1, _, by omega, rfl, hff, rfl, rfl⟩
    omega
  · have e3 : ¬ (k : Int) < L.length := by omega
    have e4 : k = L.length := by omega
    simp only [wset, hset, dset, bset, reduceAdd, reduceMul, reduceLeDiff, reduceEqDiff, t1, t5, t8, t9, t10, e3, decide_false, if_true]
    rw [e4, List.take_length] at hfr
    exact hfr.isSl
theorem r117 {L : List (Hor × AV)} {s : AV} (o : HorsOk h L s) {V : List (Int × Int)} {sv : AV} (hv : IsSl h sv 2 (V.map ratRow)) (hvl : V.length ≤ 2 ^ 40) : RCall P 117 [s, sv] h (fun v _ => v = .int .i64 (chkVelS (L.map (·.1)) V)) := by
  refine .of T.mix T.c117 ?_
  unfold fn117
  simp only [wset, hset, dset, bset, reduceAdd, reduceMul, reduceLeDiff, reduceEqDiff]
  refine WF.res T.c27 (r27 T o) ?_
  rintro _ g1 rfl
  simp only [wset, hset, dset, bset, reduceAdd, reduceMul, reduceLeDiff, reduceEqDiff, o.sl.lenm, hv.lenm]
  refine WF.res T.c106 (r106 T _ _) ?_
  rintro _ g2 rfl
  simp only [wset, hset, dset, bset, reduceAdd, reduceMul, reduceLeDiff, reduceEqDiff]
  refine WF.res T.c105 (r105 T (isSl_ints [_, _]) (by simp)) ?_
  rintro _ g3 rfl
  have hvh : velHeadS (L.map (·.1)) V = firstS [chkHorsS (L.map (·.1)), whenS (decide ((V.length : Int) ≠ L.length)) 2] := by rw [velHeadS, List.length_map]
  rw [← hvh]
  simp only [wset, hset, dset, bset, reduceAdd, reduceMul, reduceLeDiff, reduceEqDiff, wsplit]
  refine ⟨fun h1 => by rw [chkVelS, if_neg h1], fun h1 => ?_⟩
  refine WF.res T.c136 (r136 T (hv.ext (by repeat first | exact Ext.refl _ | refine Ext.app _ ?_)) hvl (fun x => chkIvS x 1 1000) (fun x _ k _ => VCall.of T.c168 (r168 T x))) ?_
  rintro v g4 hsl
  simp only [wset, hset, dset, bset, reduceAdd, reduceMul, reduceLeDiff, reduceEqDiff]
  refine WF.res T.c105 (r105 T hsl (by rw [List.length_map]; omega)) ?_
  rintro _ g5 rfl
  simp only [wset, hset, dset, bset, reduceAdd, reduceMul, reduceLeDiff, reduceEqDiff]
  rw [chkVelS, if_pos (Decidable.of_not_not h1)]
theorem r169 {H : Hor} {s : AV} (o : HorOk h H s) (hn : 0 < H.picks.length) {x : Int} {b : Nat} (hb : h[b]? = some (.cells [.int .i64 x] true false)) : RCall P 169 [horA H s, .ptr b 0] h (fun v _ => v = .bool (!hasS H x)) := by
  refine .of T.mix T.c169 ?_
  unfold fn169
  have hlt := (List.getElem?_eq_some_iff.1 hb).1
  have hld : ∀ g : AHeap, loadF none (.ptr b 0) (fun z => (h ++ g)[z]?) = ldB none 0 (.cells [.int .i64 x] true false) := fun g => loadF_at (by rw [at_app _ hlt]; exact hb)
  simp only [wset, hset, dset, bset, reduceAdd, reduceMul, reduceLeDiff, reduceEqDiff, o.sl.one, hld]
  refine WF.res T.c157 (r157 T (H := H) (o.ext (by repeat first | exact Ext.refl _ | refine Ext.app _ ?_)) hn x) ?_
  rintro _ g1 rfl
  simp only [wset, hset, dset, bset, reduceAdd, reduceMul, reduceLeDiff, reduceEqDiff]
theorem r118 {L : List (Hor × AV)} {s : AV} (o : HorsOk h L s) (hn : ∀ y ∈ L, 0 < y.1.picks.length) (x : Int) : RCall P 118 [s, .int .i64 x] h (fun v _ => v = .bool (allHasS (L.map (·.1)) x)) := by
  refine .of T.mix T.c118 ?_
  unfold fn118
  simp only [wset, hset, dset, bset, reduceAdd, reduceMul, reduceLeDiff, reduceEqDiff]
  refine WF.res T.c109 (r109 T (o.sl.ext (by repeat first | exact Ext.refl _ | refine Ext.app _ ?_)) o.len (fun y => !hasS y.1 x) (fun y hy k e => VCall.of T.c169 (r169 T (H := y.1) ((o.all y hy).ext (Ext.trans (by repeat first | exact Ext.refl _ | refine Ext.app _ ?_) e)) (hn y hy) (e.some at_new)))) ?_
  rintro _ g1 rfl
  simp only [wset, hset, dset, bset, reduceAdd, reduceMul, reduceLeDiff, reduceEqDiff]
  rw [allHasS, List.all_map, List.any_eq_not_all_not]
  simp [Function.comp_def]
theorem r119 {L : List (Hor × AV)} {s : AV} (o : HorsOk h L s) {V : List (Int × Int)} {sv : AV} (hv : IsSl h sv 2 (V.map ratRow)) (hlen : V.length = L.length) (hl8 : L.length ≤ 1000) {x : Int}
    (hok : ∀ y ∈ L, HorV y.1 ∧ hasS y.1 x = true) (hvo : ∀ y ∈ V, 1 ≤ y.1 ∧ y.1 ≤ 1000 ∧ 1 ≤ y.2 ∧ y.2 ≤ 1000) :
    RCall P 119 [s, sv, .int .i64 x] h (fun v h' => IsSl h' v 2 ((depthsS (0, 0) (0, 0) ((L.map (·.1)).zip V) x).map ratRow)) := by
  refine .of T.mix T.c119 ?_
  unfold fn119
  have hs := o.sl
  simp only [wset, hset, dset, bset, reduceAdd, reduceMul, reduceLeDiff, reduceEqDiff, hs.lenm]
  refine WL.inv T.mix (fun n ts h' => ∃ (k : Nat) (out : AV) (D : List (Int × Int)) (above dep : Int × Int) (g : AHeap), k ≤ L.length ∧ n = L.length - k ∧ h' = h ++ [ABlk.cells [AV.int IntKind.i64 above.1, AV.int IntKind.i64 above.2] true false] ++ [ABlk.cells [AV.int IntKind.i64 dep.1, AV.int IntKind.i64 dep.2] true false] ++ g ∧ Fr (h.length + 2) h' out 2 (D.map ratRow) ∧ D.length = k ∧ depthsS (0, 0) (0, 0) ((L.map (·.1)).zip V) x = D ++ depthsS above dep (((L.drop k).map (·.1)).zip (V.drop k)) x ∧ (-1000 ≤ above.1 ∧ above.1 ≤ 26000000 ∧ 0 ≤ above.2 ∧ above.2 ≤ 26000000) ∧ (0 ≤ dep.1 ∧ dep.1 ≤ k * 30000000000 ∧ 0 ≤ dep.2 ∧ dep.2 ≤ k * 30000000000) ∧ ts.length = 65 ∧ slot ts 1 = sv ∧ slot ts 2 = .int .i64 x ∧ slot ts 7 = out ∧ slot ts 8 = .ptr h.length 0 ∧ slot ts 9 = .ptr (h ++ [ABlk.cells [AV.int IntKind.i64 above.1, AV.int IntKind.i64 above.2] true false]).length 0 ∧ slot ts 15 = s ∧ slot ts 16 = .int .i64 L.length ∧ slot ts 17 = .int .i64 k) L.length
    ⟨0, .nilSlice, [], (0, 0), (0, 0), [], by omega, rfl, by rw [List.append_nil], .nil, rfl, rfl, by simp, by simp, rfl, rfl, rfl, rfl, rfl, rfl, rfl, rfl, rfl⟩ ?_
  rintro _ ts _ ⟨k, out, D, above, dep, g, hk, rfl, rfl, hfr, hDl, hD, hab, hdb, hlen, t1, t2, t7, t8, t9, t15, t16, t17⟩
  rw [expl ts 65 hlen]
  by_cases hlt : k < L.length
  · have e3 : (k : Int) < L.length := by omega
    have ok := o.all L[k] (by simp)
    simp only [wset, hset, dset, bset, reduceAdd, reduceMul, reduceLeDiff, reduceEqDiff, t1, t2, t7, t8, t9, t15, t16, t17, e3, decide_true, hs.ixm hlt, hs.ldm hlt, ok.sl.one]
    have hkV : k < V.length := by omega
    have hH := hok L[k] (by simp)
    have hv1 := hvo V[k] (by simp)
    have hb := band_bd hH.1 hH.2
    refine WF.res T.c97 (r97 T (H := L[k].1) (ok.ext (by repeat first | exact Ext.refl _ | refine Ext.app _ ?_)) hH.1 hH.2) ?_
    rintro _ g1 rfl
    simp only [wset, hset, dset, bset, reduceAdd, reduceMul, reduceLeDiff, reduceEqDiff, t1, t2, t7, t8, t9, t15, t16, t17, hv.ixm hkV, hv.lfm (off := 0) hkV rfl, hv.lfm (off := 1) hkV rfl]
    have m1 := mul_bd (a := max 0 ((bandS L[k].1 x).1 - above.2)) (b := V[k].1) (A := 26000000) (B := 1000) (by omega) (by omega)
    have m2 := mul_bd (a := max 0 ((bandS L[k].1 x).2 - above.1)) (b := V[k].2) (A := 26000000) (B := 1000) (by omega) (by omega)
    simp only [wrap_in (n := (bandS L[k].1 x).1 - above.2) (by omega) (by omega), wrap_in (n := (bandS L[k].1 x).2 - above.1) (by omega) (by omega), wrap_in (n := max 0 ((bandS L[k].1 x).1 - above.2) * V[k].1) (by omega) (by omega), wrap_in (n := max 0 ((bandS L[k].1 x).2 - above.1) * V[k].2) (by omega) (by omega), wrap_in (n := dep.1 + max 0 ((bandS L[k].1 x).1 - above.2) * V[k].1) (by omega) (by omega), wrap_in (n := dep.2 + max 0 ((bandS L[k].1 x).2 - above.1) * V[k].2) (by omega) (by omega)]
    have hd' : depthsS above dep (((L.drop k).map (·.1)).zip (V.drop k)) x = (dep.1 + max 0 ((bandS L[k].1 x).1 - above.2) * V[k].1, dep.2 + max 0 ((bandS L[k].1 x).2 - above.1) * V[k].2) :: depthsS (bandS L[k].1 x) (dep.1 + max 0 ((bandS L[k].1 x).1 - above.2) * V[k].1, dep.2 + max 0 ((bandS L[k].1 x).2 - above.1) * V[k].2) (((L.drop (k + 1)).map (·.1)).zip (V.drop (k + 1))) x := by
      rw [List.drop_eq_getElem_cons hlt, List.drop_eq_getElem_cons hkV]; rfl
    rw [hd'] at hD
    have b1 : 0 ≤ dep.1 + max 0 ((bandS L[k].1 x).1 - above.2) * V[k].1 ∧ dep.1 + max 0 ((bandS L[k].1 x).1 - above.2) * V[k].1 ≤ ((k + 1 : Nat) : Int) * 30000000000 := by omega
    have b2 : 0 ≤ dep.2 + max 0 ((bandS L[k].1 x).2 - above.1) * V[k].2 ∧ dep.2 + max 0 ((bandS L[k].1 x).2 - above.1) * V[k].2 ≤ ((k + 1 : Nat) : Int) * 30000000000 := by omega
    generalize dep.1 + max 0 ((bandS L[k].1 x).1 - above.2) * V[k].1 = d1 at *
    generalize dep.2 + max 0 ((bandS L[k].1 x).2 - above.1) * V[k].2 = d2 at *
    have e0 : ∀ K K' : ABlk, (h ++ [K] ++ [K']).length = h.length + 2 := fun _ _ => by simp
    refine WR.app1 (h0 := h ++ [ABlk.cells [AV.int IntKind.i64 above.1, AV.int IntKind.i64 above.2] true false] ++ [ABlk.cells [AV.int .i64 d1, AV.int .i64 d2] true false]) (cs := D.map ratRow) (ys := [ratRow (d1, d2)]) (by rw [e0]; exact ((((hfr.swap' (e0 _ _) (e0 _ _)).app _).app _).app _).app _) (Fr.push (N := 0) (Nat.zero_le _) [ratRow (d1, d2)] (by simp)).isSl (by decide) (by simp) (by simp; omega) (by repeat first | exact Ext.refl _ | refine Ext.app _ ?_) ?_
    intro g' hl' hff hkp
    have hrow : D.map ratRow ++ [ratRow (d1, d2)] = (D ++ [(d1, d2)]).map ratRow := by rw [List.map_append]; rfl
    rw [hrow, e0] at hff
    rw [hrow]
    have hN : (h ++ [ABlk.cells [AV.int IntKind.i64 above.1, AV.int IntKind.i64 above.2] true false] ++ [ABlk.cells [AV.int IntKind.i64 dep.1, AV.int IntKind.i64 dep.2] true false] ++ g ++ [ABlk.cells [AV.str L[k].1.name, AV.int IntKind.i64 L[k].1.err, L[k].2] true false] ++ g1).length = (h ++ [ABlk.cells [AV.int IntKind.i64 above.1, AV.int IntKind.i64 above.2] true false] ++ [ABlk.cells [AV.int .i64 d1, AV.int .i64 d2] true false] ++ g ++ [ABlk.cells [AV.str L[k].1.name, AV.int IntKind.i64 L[k].1.err, L[k].2] true false] ++ g1).length := by simp
    have h12 : (h ++ [ABlk.cells [AV.int IntKind.i64 above.1, AV.int IntKind.i64 above.2] true false] ++ [ABlk.cells [AV.int .i64 d1, AV.int .i64 d2] true false] ++ g')[(h ++ [ABlk.cells [AV.int IntKind.i64 above.1, AV.int IntKind.i64 above.2] true false] ++ [ABlk.cells [AV.int IntKind.i64 dep.1, AV.int IntKind.i64 dep.2] true false] ++ g ++ [ABlk.cells [AV.str L[k].1.name, AV.int IntKind.i64 L[k].1.err, L[k].2] true false] ++ g1).length]? = some (ABlk.cells [AV.int .i64 (bandS L[k].1 x).1, AV.int .i64 (bandS L[k].1 x).2] true false) := by
      rw [hN, hkp _ (by simp only [List.length_append, List.length_cons, List.length_nil]; omega) (fun b0 o n e hb => by have := (hfr.lt hb).2; simp only [List.length_append, List.length_cons, List.length_nil] at *; omega)]
      exact at_1
    have hl12 : ∀ n o, loadF n (.ptr (h ++ [ABlk.cells [AV.int IntKind.i64 above.1, AV.int IntKind.i64 above.2] true false] ++ [ABlk.cells [AV.int IntKind.i64 dep.1, AV.int IntKind.i64 dep.2] true false] ++ g ++ [ABlk.cells [AV.str L[k].1.name, AV.int IntKind.i64 L[k].1.err, L[k].2] true false] ++ g1).length o) (fun z => (h ++ [ABlk.cells [AV.int IntKind.i64 above.1, AV.int IntKind.i64 above.2] true false] ++ [ABlk.cells [AV.int .i64 d1, AV.int .i64 d2] true false] ++ g')[z]?) = ldB n o (ABlk.cells [AV.int .i64 (bandS L[k].1 x).1, AV.int .i64 (bandS L[k].1 x).2] true false) := fun n o => loadF_at h12
    simp only [wset, hset, dset, bset, reduceAdd, reduceMul, reduceLeDiff, reduceEqDiff, t1, t2, t7, t8, t9, t15, t16, t17, hl12, wrapN (show k + 1 < 2 ^ 63 by omega)]
    have e9 : ∀ K K' : ABlk, (h ++ [K]).length = (h ++ [K']).length := fun _ _ => by simp
    refine ⟨_, ?_, k + 1, _, D ++ [(d1, d2)], bandS L[k].1 x, (d1, d2), g', by omega, rfl, rfl, hff.swap' (e0 _ _) (e0 _ _), by simp [hDl], ?_, by omega, ⟨b1.1, b1.2, b2.1, b2.2⟩, rfl, by rw [e9], rfl⟩
    · omega
    · rw [hD, List.append_assoc]; rfl
  · have e3 : ¬ (k : Int) < L.length := by omega
    have e4 : k = L.length := by omega
    simp only [wset, hset, dset, bset, reduceAdd, reduceMul, reduceLeDiff, reduceEqDiff, t1, t2, t7, t8, t9, t15, t16, t17, e3, decide_false, if_true]
    rw [e4, List.drop_length] at hD
    simp only [List.map_nil, List.zip_nil_left, depthsS, List.append_nil] at hD
    rw [hD]
    exact hfr.isSl
end
end Go.Abs
namespace Go.Abs
structure Wl where
  place : Int
  hor : Int
  depth : Int
  err : Int
abbrev wlRow (w : Wl) : List AV := [.int .i64 w.place, .int .i64 w.hor, .int .i64 w.depth, .int .i64 w.err]
abbrev wlA (w : Wl) : AV := .agg (wlRow w)
def depthAtS (L : List Hor) (V : List (Int × Int)) (j : Nat) (x : Int) : Int × Int := (depthsS (0, 0) (0, 0) ((L.take (j + 1)).zip (V.take (j + 1))) x).getD j (0, 0)
abbrev toldA (w : Wl) (d : Int × Int) : AV := .agg [.int .i64 (w.depth - w.err), .int .i64 (w.depth + w.err), .int .i64 d.1, .int .i64 d.2]
def well1S (L : List Hor) (w : Wl) : Int := firstS [rangeS w.place 0 255, whenS (decide (w.hor < 0) || decide ((L.length : Int) ≤ w.hor)) 10]
def well2S (L : List Hor) (w : Wl) : Int := firstS [rangeS w.depth 0 100000000, rangeS w.err 0 100000000, whenS (!allHasS (L.take (w.hor.toNat + 1)) w.place) 14]
def chkWellsLS (L : List Hor) : List Wl → Int
  | [] => 0
  | w :: r => if well1S L w = 0 then (if well2S L w = 0 then chkWellsLS L r else well2S L w) else well1S L w
def wellHeadS (L : List Hor) (V : List (Int × Int)) (W : List Wl) : Int := firstS [chkVelS L V, whenS (decide (16 < (W.length : Int))) 5]
def chkWellsS (L : List Hor) (V : List (Int × Int)) (W : List Wl) : Int := if wellHeadS L V W = 0 then chkWellsLS L W else wellHeadS L V W
theorem list_zero : ∀ {L : List Hor} {seen : List (List UInt8)}, chkListS seen L = 0 → ∀ H ∈ L, HorV H
  | [], _, _, H, hH => by simp at hH
  | K :: r, seen, h, H, hH => by
    unfold chkListS at h
    split at h
    · rename_i h1
      rw [firstS_zero] at h1
      rcases List.mem_cons.1 hH with rfl | hH
      · exact horV_iff.1 (h1 _ List.mem_cons_self)
      · exact list_zero h H hH
    · rename_i h1; exact absurd h h1
theorem hors_zero {L : List Hor} (h : chkHorsS L = 0) : (∀ H ∈ L, HorV H) ∧ L.length ≤ 8 := by
  unfold chkHorsS at h
  split at h
  · cases h
  · exact ⟨list_zero h, by omega⟩
theorem iv_zero {x : Int × Int} {lo hi : Int} : chkIvS x lo hi = 0 ↔ lo ≤ x.1 ∧ x.1 ≤ hi ∧ lo ≤ x.2 ∧ x.2 ≤ hi ∧ x.1 ≤ x.2 := by
  unfold chkIvS
  rw [firstS_zero]
  simp only [List.mem_cons, List.not_mem_nil, or_false, forall_eq_or_imp, forall_eq, rangeS_zero, whenS_zero (show (11 : Int) ≠ 0 by decide), decide_eq_false_iff_not]
  omega
theorem vel_zero {L : List Hor} {V : List (Int × Int)} (h : chkVelS L V = 0) : (∀ H ∈ L, HorV H) ∧ L.length ≤ 8 ∧ V.length = L.length ∧ ∀ v ∈ V, 1 ≤ v.1 ∧ v.1 ≤ 1000 ∧ 1 ≤ v.2 ∧ v.2 ≤ 1000 ∧ v.1 ≤ v.2 := by
  unfold chkVelS at h
  split at h
  · rename_i h1
    unfold velHeadS at h1
    rw [firstS_zero] at h1 h
    have a := h1 _ List.mem_cons_self
    have b := h1 _ (List.mem_cons_of_mem _ (List.mem_singleton_self _))
    rw [whenS_zero (by decide)] at b
    simp only [decide_eq_false_iff_not] at b
    have c := hors_zero a
    refine ⟨c.1, c.2, by omega, fun v hv => ?_⟩
    have := iv_zero.1 (h _ (List.mem_map_of_mem hv))
    omega
  · rename_i h1; exact absurd h h1
theorem iada_0 {len es b o : Nat} {k : IntKind} (h : 0 < len) : iadaF len es (.ptr b o) (.int k 0) = some (.ptr b o) := by
  simp only [iadaF]; rw [if_pos (by omega)]; simp
theorem iada_1 {len es b o : Nat} {k : IntKind} (h : 1 < len) : iadaF len es (.ptr b o) (.int k 1) = some (.ptr b (o + es)) := by
  simp only [iadaF]; rw [if_pos (by omega)]; simp
theorem depthsS_bd : ∀ {r : List (Hor × (Int × Int))} {a d : Int × Int} {x : Int} {B : Int}, (∀ y ∈ r, HorV y.1 ∧ hasS y.1 x = true ∧ 1 ≤ y.2.1 ∧ y.2.1 ≤ 1000 ∧ 1 ≤ y.2.2 ∧ y.2.2 ≤ 1000) →
    (-1000 ≤ a.1 ∧ a.1 ≤ 26000000 ∧ 0 ≤ a.2 ∧ a.2 ≤ 26000000) → (0 ≤ d.1 ∧ d.1 ≤ B ∧ 0 ≤ d.2 ∧ d.2 ≤ B) → ∀ y ∈ depthsS a d r x, 0 ≤ y.1 ∧ y.1 ≤ B + r.length * 30000000000 ∧ 0 ≤ y.2 ∧ y.2 ≤ B + r.length * 30000000000
  | [], _, _, _, _, _, _, _, y, hy => by simp [depthsS] at hy
  | (H, v) :: r, a, d, x, B, hr, ha, hd, y, hy => by
    have h0 := hr (H, v) (by simp)
    simp only at h0
    have hb := band_bd h0.1 h0.2.1
    have m1 := mul_bd (a := max 0 ((bandS H x).1 - a.2)) (b := v.1) (A := 26000000) (B := 1000) (by omega) (by omega)
    have m2 := mul_bd (a := max 0 ((bandS H x).2 - a.1)) (b := v.2) (A := 26000000) (B := 1000) (by omega) (by omega)
    simp only [depthsS, List.mem_cons] at hy
    simp only [List.length_cons]
    rcases hy with rfl | hy
    · simp only; omega
    · have := depthsS_bd (B := B + 30000000000) (fun y hy => hr y (List.mem_cons_of_mem _ hy)) (by omega) (by simp only; omega) y hy
      omega
section
variable {P : Program} (T : Tbl P) {h : AHeap}
include T
theorem r121 {L : List (Hor × AV)} {s : AV} (o : HorsOk h L s) {V : List (Int × Int)} {sv : AV} (hv : IsSl h sv 2 (V.map ratRow)) (hlen : V.length = L.length) (hl8 : L.length ≤ 8) {w : Wl} {j : Nat} (hj : w.hor = j) (hjl : j < L.length)
    (hok : ∀ y ∈ L.take (j + 1), HorV y.1 ∧ hasS y.1 w.place = true) (hvo : ∀ y ∈ V, 1 ≤ y.1 ∧ y.1 ≤ 1000 ∧ 1 ≤ y.2 ∧ y.2 ≤ 1000) (hd : 0 ≤ w.depth ∧ w.depth ≤ 100000000) (he : 0 ≤ w.err ∧ w.err ≤ 100000000) :
    RCall P 121 [wlA w, s, sv] h (fun v _ => v = toldA w (depthAtS (L.map (·.1)) V j w.place)) := by
  refine .of T.mix T.c121 ?_
  unfold fn121
  obtain ⟨s', hsl, hs'⟩ := o.sl.slm (bnds_hi (kk := .i64) (show j + 1 ≤ L.length by omega))
  obtain ⟨v', hvl, hv'⟩ := hv.slm (bnds_hi (kk := .i64) (show j + 1 ≤ V.length by omega))
  rw [List.drop_zero, Nat.sub_zero] at hs' hv'
  have e1 : IntKind.i64.wrap (w.hor + 1) = ((j + 1 : Nat) : Int) := by rw [hj]; exact wrapN (by omega)
  simp only [wset, hset, dset, bset, reduceAdd, reduceMul, reduceLeDiff, reduceEqDiff, e1, wrap_in (n := w.depth - w.err) (by omega) (by omega), wrap_in (n := w.depth + w.err) (by omega) (by omega), hsl, hvl]
  refine WF.res T.c119 (r119 T (L := L.take (j + 1)) ⟨hs'.ext (by repeat first | exact Ext.refl _ | refine Ext.app _ ?_), by simp; omega, fun y hy => (o.all y (List.mem_of_mem_take hy)).ext (by repeat first | exact Ext.refl _ | refine Ext.app _ ?_)⟩ (V := V.take (j + 1)) (hv'.ext (by repeat first | exact Ext.refl _ | refine Ext.app _ ?_)) (by simp; omega) (by simp; omega) hok (fun y hy => hvo y (List.mem_of_mem_take hy))) ?_
  rintro v g1 hD
  have hDl : (depthsS (0, 0) (0, 0) (((L.take (j + 1)).map (·.1)).zip (V.take (j + 1))) w.place).length = j + 1 := by rw [depthsS_len]; simp; omega
  have hjD : j < (depthsS (0, 0) (0, 0) (((L.take (j + 1)).map (·.1)).zip (V.take (j + 1))) w.place).length := by omega
  have hget : (depthsS (0, 0) (0, 0) (((L.take (j + 1)).map (·.1)).zip (V.take (j + 1))) w.place)[j] = depthAtS (L.map (·.1)) V j w.place := by
    rw [depthAtS, ← List.map_take, List.getD_eq_getElem?_getD, List.getElem?_eq_getElem hjD]; rfl
  simp only [wset, hset, dset, bset, reduceAdd, reduceMul, reduceLeDiff, reduceEqDiff, hj, hD.ixm hjD, hD.ldm hjD, hget]
theorem r170 {α : Type} {row : α → List AV} {L : List α} {s f : AV} (hs : IsSl h s 4 (L.map row)) (hl : L.length < 2 ^ 63) (p : α → Bool)
    (hf : ∀ x, x ∈ L → ∀ k, Ext h k → VCall P f [.agg (row x)] k (fun v _ => v = .bool (p x))) : RCall P 170 [s, f] h (fun v _ => v = .int .i64 (idxS p L)) := by
  refine .of T.mix T.c170 ?_
  unfold fn170
  simp only [wset, hset, dset, bset, reduceAdd, reduceMul, reduceLeDiff, reduceEqDiff, hs.lenm]
  refine WL.inv T.mix (fun n ts h' => ∃ k : Nat, k ≤ L.length ∧ n = L.length - k ∧ Ext h h' ∧ L.findIdx? p = ((L.drop k).findIdx? p).map (· + k) ∧ ts.length = 19 ∧ slot ts 0 = s ∧ slot ts 1 = f ∧ slot ts 7 = .int .i64 L.length ∧ slot ts 8 = .int .i64 k) L.length
    ⟨0, by omega, rfl, Ext.refl h, by simp, rfl, rfl, rfl, rfl, rfl⟩ ?_
  rintro _ ts _ ⟨k, hk, rfl, ⟨g, rfl⟩, hi, hlen, t0, t1, t7, t8⟩
  rw [expl ts 19 hlen]
  by_cases hlt : k < L.length
  · have hd : L.drop k = L[k] :: L.drop (k + 1) := by simp
    have e3 : (k : Int) < L.length := by omega
    simp only [wset, hset, dset, bset, reduceAdd, reduceMul, reduceLeDiff, reduceEqDiff, t0, t1, t7, t8, e3, decide_true, hs.ixm hlt, hs.ldm hlt]
    refine WF.val (hf L[k] (by simp) _ ⟨g, rfl⟩) ?_
    rintro _ g1 rfl
    cases hp : p L[k] with
    | true =>
      simp only [wset, hset, dset, bset, reduceAdd, reduceMul, reduceLeDiff, reduceEqDiff, t8]
      rw [idxS, hi, hd, List.findIdx?_cons, hp]; simp
    | false =>
      simp only [wset, hset, dset, bset, reduceAdd, reduceMul, reduceLeDiff, reduceEqDiff, t8, wrapN (show k + 1 < 2 ^ 63 by omega)]
      refine ⟨_, ?_, k + 1, by omega, rfl, ?_, rfl⟩
      · omega
      · rw [hi, hd, List.findIdx?_cons, hp]
        simp only [Bool.false_eq_true, if_false, Option.map_map]
        congr 1; funext i; simp only [Function.comp]; omega
  · have e3 : ¬ (k : Int) < L.length := by omega
    have e4 : k = L.length := by omega
    simp only [wset, hset, dset, bset, reduceAdd, reduceMul, reduceLeDiff, reduceEqDiff, t0, t1, t7, t8, e3, decide_false, if_true]
    rw [idxS, hi, e4, List.drop_length]; rfl
theorem r124 {α : Type} {row : α → List AV} {L : List α} {s f : AV} (hs : IsSl h s 4 (L.map row)) (hl : L.length < 2 ^ 63) (p : α → Bool)
    (hf : ∀ x, x ∈ L → ∀ k, Ext h k → VCall P f [.agg (row x)] k (fun v _ => v = .bool (p x))) : RCall P 124 [s, f] h (fun v _ => v = .bool (L.any p)) := by
  refine .of T.mix T.c124 ?_
  unfold fn124
  simp only [wset, hset, dset, bset, reduceAdd, reduceMul, reduceLeDiff, reduceEqDiff]
  refine WF.res T.c170 (r170 T hs hl p hf) ?_
  rintro _ g rfl
  simp only [wset, hset, dset, bset, reduceAdd, reduceMul, reduceLeDiff, reduceEqDiff, idx_any]
theorem r120 {L : List (Hor × AV)} {s : AV} (o : HorsOk h L s) {V : List (Int × Int)} {sv : AV} (hv : IsSl h sv 2 (V.map ratRow)) (hvl : V.length ≤ 2 ^ 40) {W : List Wl} {sw : AV} (hw : IsSl h sw 4 (W.map wlRow)) :
    RCall P 120 [s, sv, sw] h (fun v _ => v = .int .i64 (chkWellsS (L.map (·.1)) V W)) := by
  refine .of T.mix T.c120 ?_
  unfold fn120
  simp only [wset, hset, dset, bset, reduceAdd, reduceMul, reduceLeDiff, reduceEqDiff]
  refine WF.res T.c117 (r117 T o hv hvl) ?_
  rintro _ g1 rfl
  simp only [wset, hset, dset, bset, reduceAdd, reduceMul, reduceLeDiff, reduceEqDiff, hw.lenm]
  refine WF.res T.c106 (r106 T _ _) ?_
  rintro _ g2 rfl
  simp only [wset, hset, dset, bset, reduceAdd, reduceMul, reduceLeDiff, reduceEqDiff]
  refine WF.res T.c105 (r105 T (isSl_ints [_, _]) (by simp)) ?_
  rintro _ g3 rfl
  have hwh : firstS [chkVelS (L.map (·.1)) V, whenS (decide (16 < (W.length : Int))) 5] = wellHeadS (L.map (·.1)) V W := rfl
  rw [hwh]
  simp only [wset, hset, dset, bset, reduceAdd, reduceMul, reduceLeDiff, reduceEqDiff, wsplit, hw.lenm]
  refine ⟨fun h1 => by rw [chkWellsS, if_neg h1], fun h1 => ?_⟩
  have h1' := Decidable.of_not_not h1
  have key : chkWellsS (L.map (·.1)) V W = chkWellsLS (L.map (·.1)) W := by rw [chkWellsS, if_pos h1']
  have hW16 : W.length ≤ 16 ∧ chkVelS (L.map (·.1)) V = 0 := by
    rw [← hwh, firstS_zero] at h1'
    have a := h1' _ (List.mem_cons_of_mem _ (List.mem_singleton_self _))
    have b := h1' _ (List.mem_cons_self)
    rw [whenS_zero (by decide)] at a
    simp only [decide_eq_false_iff_not] at a
    exact ⟨by omega, b⟩
  have hvz := vel_zero hW16.2
  refine WL.inv T.mix (fun n ts h' => ∃ k : Nat, k ≤ W.length ∧ n = W.length - k ∧ Ext h h' ∧ chkWellsLS (L.map (·.1)) W = chkWellsLS (L.map (·.1)) (W.drop k) ∧ ts.length = 71 ∧ slot ts 0 = s ∧ slot ts 24 = sw ∧ slot ts 25 = .int .i64 W.length ∧ slot ts 26 = .int .i64 k) W.length
    ⟨0, by omega, rfl, by repeat first | exact Ext.refl _ | refine Ext.app _ ?_, rfl, rfl, rfl, rfl, rfl, rfl⟩ ?_
  rintro _ ts _ ⟨k, hk, rfl, ⟨g, rfl⟩, hi, hlen, t0, t24, t25, t26⟩
  rw [expl ts 71 hlen]
  by_cases hlt : k < W.length
  · have hd : W.drop k = W[k] :: W.drop (k + 1) := by simp
    have e3 : (k : Int) < W.length := by omega
    simp only [wset, hset, dset, bset, reduceAdd, reduceMul, reduceLeDiff, reduceEqDiff, t0, t24, t25, t26, e3, decide_true, hw.ixm hlt, hw.ldm hlt]
    refine WF.res T.c108 (r108 T _ _ _) ?_
    rintro _ g4 rfl
    have hll : (L.map (·.1)).length = L.length := List.length_map _
    by_cases h0 : W[k].hor < 0
    · have w1 : well1S (L.map (·.1)) W[k] = firstS [rangeS W[k].place 0 255, whenS true 10] := by rw [well1S, decide_eq_true h0]; rfl
      have w2 : ¬ well1S (L.map (·.1)) W[k] = 0 := by
        rw [w1, firstS_zero]; intro hz
        have := hz _ (List.mem_cons_of_mem _ (List.mem_singleton_self _))
        simp [whenS] at this
      simp only [wset, hset, dset, bset, reduceAdd, reduceMul, reduceLeDiff, reduceEqDiff, eq_true h0, decide_true]
      refine WF.res T.c106 (r106 T _ _) ?_
      rintro _ g5 rfl
      simp only [wset, hset, dset, bset, reduceAdd, reduceMul, reduceLeDiff, reduceEqDiff]
      refine WF.res T.c105 (r105 T (isSl_ints [_, _]) (by simp)) ?_
      rintro _ g6 rfl
      rw [← w1]
      simp only [wset, hset, dset, bset, reduceAdd, reduceMul, reduceLeDiff, reduceEqDiff, eq_false w2, ne_eq, not_false_eq_true, decide_true]
      rw [key, hi, hd, chkWellsLS, if_neg w2]
    · by_cases h1' : (L.length : Int) ≤ W[k].hor
      · have w1 : well1S (L.map (·.1)) W[k] = firstS [rangeS W[k].place 0 255, whenS true 10] := by rw [well1S, hll, decide_eq_true h1', Bool.or_true]
        have w2 : ¬ well1S (L.map (·.1)) W[k] = 0 := by
          rw [w1, firstS_zero]; intro hz
          have := hz _ (List.mem_cons_of_mem _ (List.mem_singleton_self _))
          simp [whenS] at this
        simp only [wset, hset, dset, bset, reduceAdd, reduceMul, reduceLeDiff, reduceEqDiff, t0, eq_false h0, eq_true h1', decide_true, decide_false, o.sl.lenm]
        refine WF.res T.c106 (r106 T _ _) ?_
        rintro _ g5 rfl
        simp only [wset, hset, dset, bset, reduceAdd, reduceMul, reduceLeDiff, reduceEqDiff]
        refine WF.res T.c105 (r105 T (isSl_ints [_, _]) (by simp)) ?_
        rintro _ g6 rfl
        rw [← w1]
        simp only [wset, hset, dset, bset, reduceAdd, reduceMul, reduceLeDiff, reduceEqDiff, eq_false w2, ne_eq, not_false_eq_true, decide_true]
        rw [key, hi, hd, chkWellsLS, if_neg w2]
      · simp only [wset, hset, dset, bset, reduceAdd, reduceMul, reduceLeDiff, reduceEqDiff, t0, eq_false h0, eq_false h1', decide_false, o.sl.lenm]
        refine WF.res T.c106 (r106 T _ _) ?_
        rintro _ g5 rfl
        simp only [wset, hset, dset, bset, reduceAdd, reduceMul, reduceLeDiff, reduceEqDiff]
        have ok1 : well1S (L.map (·.1)) W[k] = firstS [rangeS W[k].place 0 255, whenS false 10] := by rw [well1S, List.length_map, decide_eq_false h0, decide_eq_false h1']; rfl
        refine WF.res T.c105 (r105 T (isSl_ints [_, _]) (by simp)) ?_
        rintro _ g6 rfl
        rw [← ok1]
        simp only [wset, hset, dset, bset, reduceAdd, reduceMul, reduceLeDiff, reduceEqDiff, wsplit]
        refine ⟨fun h9 => by rw [key, hi, hd, chkWellsLS, if_neg h9], fun h9 => ?_⟩
        have h9' := Decidable.of_not_not h9
        obtain ⟨j, hj⟩ : ∃ j : Nat, W[k].hor = j := ⟨W[k].hor.toNat, by omega⟩
        obtain ⟨s', hsl, hs'⟩ := o.sl.slm (bnds_hi (kk := .i64) (show j + 1 ≤ L.length by omega))
        rw [List.drop_zero, Nat.sub_zero] at hs'
        refine WF.res2 T.c108 (r108 T _ _ _) ?_
        rintro _ g7 rfl
        simp only [wset, hset, dset, bset, reduceAdd, reduceMul, reduceLeDiff, reduceEqDiff]
        refine WF.res2 T.c108 (r108 T _ _ _) ?_
        rintro _ g8 rfl
        simp only [wset, hset, dset, bset, reduceAdd, reduceMul, reduceLeDiff, reduceEqDiff, t0, hj, wrapN (show j + 1 < 2 ^ 63 by omega), hsl]
        refine WF.res2 T.c118 (r118 T (L := L.take (j + 1)) ⟨hs'.ext (by repeat first | exact Ext.refl _ | refine Ext.app _ ?_), by simp; omega, fun y hy => (o.all y (List.mem_of_mem_take hy)).ext (by repeat first | exact Ext.refl _ | refine Ext.app _ ?_)⟩ (fun y hy => (hvz.1 y.1 (List.mem_map_of_mem (List.mem_of_mem_take hy))).ne) _) ?_
        rintro _ g9 rfl
        simp only [wset, hset, dset, bset, reduceAdd, reduceMul, reduceLeDiff, reduceEqDiff]
        refine WF.res2 T.c106 (r106 T _ _) ?_
        rintro _ g10 rfl
        simp only [wset, hset, dset, bset, reduceAdd, reduceMul, reduceLeDiff, reduceEqDiff]
        refine WF.res T.c105 (r105 T (isSl_ints [_, _, _]) (by simp)) ?_
        rintro _ g11 rfl
        have ok2 : well2S (L.map (·.1)) W[k] = firstS [rangeS W[k].depth 0 100000000, rangeS W[k].err 0 100000000, whenS (!allHasS ((L.take (j + 1)).map (·.1)) W[k].place) 14] := by rw [well2S, hj, Int.toNat_natCast, List.map_take]
        rw [← ok2]
        simp only [wset, hset, dset, bset, reduceAdd, reduceMul, reduceLeDiff, reduceEqDiff, wsplit, t0, t24, t25, t26, wrapN (show k + 1 < 2 ^ 63 by omega)]
        refine ⟨fun h8 => by rw [key, hi, hd, chkWellsLS, if_pos h9', if_neg h8], fun h8 => ⟨_, ?_, k + 1, by omega, rfl, ?_, rfl⟩⟩
        · omega
        · rw [hi, hd, chkWellsLS, if_pos h9', if_pos (Decidable.of_not_not h8)]
  · have e3 : ¬ (k : Int) < W.length := by omega
    have e4 : k = W.length := by omega
    simp only [wset, hset, dset, bset, reduceAdd, reduceMul, reduceLeDiff, reduceEqDiff, t0, t24, t25, t26, e3, decide_false, if_true]
    rw [key, hi, e4, List.drop_length]; rfl
end
end Go.Abs
