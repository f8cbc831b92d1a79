/- Contracts: shots copied from one form into the other, and owned. No condition. · Contracts: pairs of two lists, visited and gathered, and mapped. No condition. · Contracts: a list less a multiple, and the share removed, by the program. No condition. · Contracts: each trace of a shot changed: taps, tides. No condition. · Contracts: a shot changed trace by trace, the program and the reference. No condition. · Contracts: a shot changed trace by trace: the reference. No condition. · The law of shots that are corrected for tides, and of taps on each trace. No condition. · An argument that is a shot. No condition. · The package-level variables of the rows of shots: the table of headers' ranges besides; awake with them. No condition. · Closed facts of the rows of shots. No condition. -/
import Derived.Test.YtbgldbmgjcgepaaGreatDoorFy12
import Derived.Test.YtbgldbmgjcgepaaGreatDoorFy11
import Derived.Test.YtbgldbmgjcgepaaGreatDoorFy9
import Derived.Test.YtbgldbmgjcgepaaGreatDoorFy8
import Derived.Test.YtbgldbmgjcgepaaGreatDoorFy10
set_option linter.all false
namespace Go.Abs

/-- A shot whose list and samples are its own, all in different blocks. -/
structure ShOw (N : Nat) (K : AHeap) (L : List (Trc × AV)) (s : AV) : Prop where
  fr : Fr N K s 10 (L.map trRow)
  all : ∀ x ∈ L, Fr N K x.2 1 (x.1.sm.map fltR)
  ns : ∀ x ∈ L, Apart x.2 s
  pw : (L.map Prod.snd).Pairwise Apart
theorem Fr.keepc {M b : Nat} {Y Z : AHeap} {s out : AV} {es : Nat} {cs : List (List AV)} (o : Fr M Y s es cs) (k : ∀ c, c < Y.length → c ≠ b → (∀ b0 o n e, out = .slice b0 o n e → c ≠ b0) → Z[c]? = Y[c]?) (ha : Apart s out) (hb : b < M) : Fr M Z s es cs := by
  cases o with
  | nil => exact .nil
  | mk hN h1 he => exact .mk hN ((k _ (List.getElem?_eq_some_iff.1 h1).1 (by omega) fun b0 o2 n2 e2 q2 => ha _ _ _ _ _ _ _ _ rfl q2).trans h1) he
set_option maxRecDepth 10000
attribute [local irreducible] WP WC WE WB WR WF WL WG WRg WQ
section
variable {P : Program} (T : Tbl P) {h : AHeap}
include T
set_option maxHeartbeats 8000000 in
theorem r89 {nm : List UInt8} {s : AV} {L : List (Trc × AV)} (o : ShOk h L s) (z : ShSz L) (zl : L.length < 2 ^ 38) : RCall P 89 [.agg [.str nm, s]] h (fun v h' => ∃ (s' : AV) (L' : List (Trc × AV)), v = .agg [.str nm, s'] ∧ ShOk h' L' s' ∧ L'.map Prod.fst = L.map Prod.fst) := by
  refine .st1 31 T.mix T.c89 ?_;intro ts hlen t0;unfold fn89
  have bx := @sh_box nm s o.sl.one
  have bz : ∀ {N : Nat}, boxF (.agg [.str [], .nilSlice]) N = some (.ptr N 0, .push (.cells (shC [] .nilSlice) true false)) := fun {N} => rfl
  have ln : ldV (shC nm s)[0]? = some (.str nm, .keep) := rfl
  have ls : ldV (shC nm s)[1]? = some (s, .keep) := rfl
  have hlm := fun G => o.sl.lenm G
  have bd : fillA [.str [], .nilSlice] [(0, 1, .str nm)] = some [.str nm, .nilSlice] := rfl
  have st3 : ∀ {n : Nat}, stB 2 0 (.agg [.str nm, .nilSlice]) n (.cells (shC [] .nilSlice) true false) = some (undefA, .set n (.cells (shC nm .nilSlice) true false)) := fun {n} => sh_st rfl
  repeat (first | simp (config := { maxSteps := 1000000 }) only [wset, hset, dset, bset, Nat.reduceAdd, Nat.reduceMul, Nat.reduceLeDiff, Nat.reduceEqDiff, pset, hlen, if_false, if_true, t0, bx, bz, ln, bd, st3, ls, hlm] | simp (config := { maxSteps := 1000000 }) (disch := first | (simp only [List.length_append, List.length_cons, List.length_nil] <;> omega) | rfl | omega | fail) only [kset, wset, hset, dset, bset, Nat.reduceAdd, Nat.reduceMul, Nat.reduceLeDiff, Nat.reduceEqDiff, pset, hlen, if_false, if_true, t0, bx, bz, ln, bd, st3, ls, hlm])
  obtain ⟨Y, hY⟩ : ∃ Y, Y = h ++ [ABlk.cells (shC nm s) true false] ++ [ABlk.cells (shC [] .nilSlice) true false] ++ [ABlk.cells (shC nm .nilSlice) true false] := ⟨_, rfl⟩
  have eY : Ext h Y := by rw [hY]; exact Xx
  have m1 : Y[h.length]? = some (.cells (shC nm s) true false) := by rw [hY]; exact at_2
  have m2 : Y[(h ++ [ABlk.cells (shC nm s) true false]).length]? = some (.cells (shC [] .nilSlice) true false) := by rw [hY]; exact at_1
  have m3 : Y[(h ++ [ABlk.cells (shC nm s) true false] ++ [ABlk.cells (shC [] .nilSlice) true false]).length]? = some (.cells (shC nm .nilSlice) true false) := by rw [hY]; exact at_new
  obtain ⟨b1, hb1⟩ : ∃ b, b = h.length := ⟨_, rfl⟩
  obtain ⟨b2, hb2⟩ : ∃ b, b = (h ++ [ABlk.cells (shC nm s) true false]).length := ⟨_, rfl⟩
  obtain ⟨b3, hb3⟩ : ∃ b, b = (h ++ [ABlk.cells (shC nm s) true false] ++ [ABlk.cells (shC [] .nilSlice) true false]).length := ⟨_, rfl⟩
  have n1 : h.length ≤ b1 := by omega
  have n2 : h.length ≤ b2 := by rw [hb2]; simp only [List.length_append]; omega
  have n3 : h.length ≤ b3 := by rw [hb3]; simp only [List.length_append]; omega
  have n13 : b1 ≠ b3 := by rw [hb1, hb3]; simp only [List.length_append, List.length_cons, List.length_nil]; omega
  have n23 : b2 ≠ b3 := by rw [hb2, hb3]; simp only [List.length_append, List.length_cons, List.length_nil]; omega
  rw [← hb1] at m1
  rw [← hb2] at m2
  rw [← hb3] at m3
  rw [← hY, ← hb2, ← hb3]
  clear hY hb1 hb2 hb3
  have q1 := (List.getElem?_eq_some_iff.1 m1).1
  have q2 := (List.getElem?_eq_some_iff.1 m2).1
  have q3 := (List.getElem?_eq_some_iff.1 m3).1
  obtain ⟨M, hM⟩ : ∃ M, M = Y.length := ⟨_, rfl⟩
  rw [← hM] at q1 q2 q3
  have hm := eY.len
  rw [← hM] at hm
  refine WL.inv T.mix (fun n ts K => ∃ (k : Nat) (out : AV) (L' : List (Trc × AV)), k ≤ L.length ∧ n = L.length - k ∧ Ext h K ∧ M ≤ K.length ∧ K[b1]? = some (.cells (shC nm s) true false) ∧ K[b2]? = some (.cells (shC [] .nilSlice) true false) ∧ ShGr h.length M K b3 nm L' out ∧ L'.map Prod.fst = (L.take k).map Prod.fst ∧ ts.length = 31 ∧ slot ts 2 = .ptr b2 0 ∧ slot ts 3 = .ptr b3 0 ∧ slot ts 10 = s ∧ slot ts 11 = .int .i64 L.length ∧ slot ts 12 = .int .i64 k) L.length
    ⟨0, .nilSlice, [], by omega, rfl, eY, by omega, m1, m2, .nil m3, rfl, Sn, Sw, Sw, Sw, Sw, Swr⟩ ?_
  clear hlen t0 eY m1 m2 m3 hM
  rintro _ ts K ⟨k, out, L', hk, rfl, eK, hMK, m1, m2, gr, hL', hlen, t2, t3, t10, t11, t12⟩
  have oK := o.ext eK
  by_cases hlt : k < L.length
  case neg =>
    have e3 := dltF hlt
    have e4 : k = L.length := by omega
    rw [e4, List.take_length] at hL'
    have l3 := @ldx _ _ _ gr.m
    have l2 : ldB (some 2) 0 (.cells (shC nm out) true false) = some (.agg [.str nm, out], .keep) := rfl
    have s2 : storeF 2 (.ptr b2 0) (.agg [.str nm, out]) (fun z => K[z]?) = some (undefA, .set b2 (.cells (shC nm out) true false)) := by
      rw [storeF_at m2]; exact sh_st gr.fr.isSl.one
    have k2 : (K.set b2 (.cells (shC nm out) true false))[b2]? = some (.cells (shC nm out) true false) := set_eq' m2
    have f2 := @loadF_at (some 2) b2 0 _ _ k2
    refine Rs (A10 @t2 @t3 @t10 @t11 @t12 @e3 @l3 @l2 @s2 @f2) ?_
    exact ⟨ext_setG eK n2, out, L', rfl, ⟨(gr.fr.setn (gr.fr.notB q2)).isSl, fun x hx => (gr.all x hx).setb (gr.nx x hx b2 n2 q2)⟩, hL'⟩
  have e3 := dltT hlt
  have e5 := wrapN (n := k) (by omega)
  have ix := oK.sl.ixm (kk := .i64) hlt
  obtain ⟨x, hx⟩ : ∃ x, x = L[k] := ⟨_, rfl⟩
  have ld : ∀ {kk : AHeap}, Ext K kk → loadF (some 10) (elp s 10 k) (fun b => kk[b]?) = some (.agg (trRow x), .keep) := fun {kk} e => by rw [hx]; exact oK.sl.ldm hlt e
  have hmem : x ∈ L := by rw [hx]; exact List.getElem_mem _
  have hsx := oK.all x hmem
  have ox := hsx.one
  have htk : L.take (k + 1) = L.take k ++ [x] := by rw [hx]; exact List.take_succ_eq_append_getElem hlt
  have hLk : L'.length = k := by
    have := congrArg List.length hL'
    rw [List.length_map, List.length_map, List.length_take] at this
    omega
  have b10 := @z10_box
  have st := @st_tr x ox
  have gr0 := gr
  have l3 := @ldx _ _ _ gr.m
  have l3v : ldV (shC nm out)[1]? = some (out, .keep) := rfl
  have l8 := @tr_l8 x
  have l8v : ldV (trRow x)[8]? = some (.bool x.1.hole, .keep) := rfl
  have l9v : ldV (trRow x)[9]? = some (x.2, .keep) := rfl
  have oo := gr.fr.isSl.one
  refine Rs (A17 @t2 @t3 @t10 @t11 @t12 @e3 @ix @ld @b10 @st @l3 @l3v @l8 @l8v @l9v @oo @ox) ?_
  obtain ⟨K1, hK1⟩ : ∃ K1, K1 = K ++ [ABlk.cells (trRow x) true false] := ⟨_, rfl⟩
  have eK1 : Ext K K1 := by rw [hK1]; exact Xx
  have m5 : K1[K.length]? = some (.cells (trRow x) true false) := by rw [hK1]; exact at_new
  have hK1l : K1.length = K.length + 1 := by rw [hK1, List.length_append, List.length_singleton]
  rw [← hK1]
  clear hK1
  have gr := gr.ext eK1
  refine WF.res T.c22 (q22 T (hsx.ext eK1) (z.s x hmem)) ?_
  intro v g1 f1
  have ov := f1.isSl.one
  have bd := @fill_tr (x.1, v) f1.isSl.cells
  have bs := @bsl_tr (x.1, v) ov
  have eG : Ext K1 (K1 ++ g1) := Xx
  refine Rs (A9 @t2 @t3 @t10 @t11 @t12 @oo @ov @bd @bs) ?_
  refine ShGr.grow (x := (x.1, v)) (gr.ext eG) (eK.trans (eK1.trans eG)) hm (by rw [List.length_append]; omega) n3 q3 f1.isSl (gr.fr.apart_fr f1 (Nat.le_refl _)).symm (fun c h1 h2 => f1.notB (by omega)) (by omega) ?_
  intro W out' eW hMW one' mW grW eS keepM keepc apn
  have s3 := sh_st1 mW one'
  have hlist : (L' ++ [(x.1, v)]).map Prod.fst = (L.take (k + 1)).map Prod.fst := by rw [htk, List.map_append, List.map_append, hL']; rfl
  refine Rs (A8 @t2 @t3 @t10 @t11 @t12 @one' @s3 @e5) ?_
  exact ⟨L.length - (k + 1), by omega, k + 1, out', L' ++ [(x.1, v)], by omega, rfl, eS, by rw [List.length_set]; exact hMW, keepM b1 _ q1 n13 ((eK1.trans eG).some m1), keepM b2 _ q2 n23 ((eK1.trans eG).some m2), grW, hlist, rfl⟩
set_option maxHeartbeats 8000000 in
theorem r95 {nm : List UInt8} {s : AV} {L : List (Trc × AV)} (o : ShOk h L s) (z : ShSz L) (zl : L.length < 2 ^ 38) : RCall P 95 [.agg [.str nm, s]] h (fun v h' => ∃ (s' : AV) (L' : List (Trc × AV)), v = .agg [.str nm, s'] ∧ ShOk h' L' s' ∧ L'.map Prod.fst = L.map Prod.fst) := by
  refine .st1 30 T.mix T.c95 ?_;intro ts hlen t0;unfold fn95
  have bx := @sh_box nm s o.sl.one
  have bz : ∀ {N : Nat}, boxF (.agg [.str [], .nilSlice]) N = some (.ptr N 0, .push (.cells (shC [] .nilSlice) true false)) := fun {N} => rfl
  have ln : ldV (shC nm s)[0]? = some (.str nm, .keep) := rfl
  have ls : ldV (shC nm s)[1]? = some (s, .keep) := rfl
  have hlm := fun G => o.sl.lenm G
  have bd : fillA [.str [], .nilSlice] [(0, 1, .str nm)] = some [.str nm, .nilSlice] := rfl
  have st3 : ∀ {n : Nat}, stB 2 0 (.agg [.str nm, .nilSlice]) n (.cells (shC [] .nilSlice) true false) = some (undefA, .set n (.cells (shC nm .nilSlice) true false)) := fun {n} => sh_st rfl
  repeat (first | simp (config := { maxSteps := 1000000 }) only [wset, hset, dset, bset, Nat.reduceAdd, Nat.reduceMul, Nat.reduceLeDiff, Nat.reduceEqDiff, pset, hlen, if_false, if_true, t0, bx, bz, ln, bd, st3, ls, hlm] | simp (config := { maxSteps := 1000000 }) (disch := first | (simp only [List.length_append, List.length_cons, List.length_nil] <;> omega) | rfl | omega | fail) only [kset, wset, hset, dset, bset, Nat.reduceAdd, Nat.reduceMul, Nat.reduceLeDiff, Nat.reduceEqDiff, pset, hlen, if_false, if_true, t0, bx, bz, ln, bd, st3, ls, hlm])
  obtain ⟨Y, hY⟩ : ∃ Y, Y = h ++ [ABlk.cells (shC nm s) true false] ++ [ABlk.cells (shC [] .nilSlice) true false] ++ [ABlk.cells (shC nm .nilSlice) true false] := ⟨_, rfl⟩
  have eY : Ext h Y := by rw [hY]; exact Xx
  have m1 : Y[h.length]? = some (.cells (shC nm s) true false) := by rw [hY]; exact at_2
  have m2 : Y[(h ++ [ABlk.cells (shC nm s) true false]).length]? = some (.cells (shC [] .nilSlice) true false) := by rw [hY]; exact at_1
  have m3 : Y[(h ++ [ABlk.cells (shC nm s) true false] ++ [ABlk.cells (shC [] .nilSlice) true false]).length]? = some (.cells (shC nm .nilSlice) true false) := by rw [hY]; exact at_new
  obtain ⟨b1, hb1⟩ : ∃ b, b = h.length := ⟨_, rfl⟩
  obtain ⟨b2, hb2⟩ : ∃ b, b = (h ++ [ABlk.cells (shC nm s) true false]).length := ⟨_, rfl⟩
  obtain ⟨b3, hb3⟩ : ∃ b, b = (h ++ [ABlk.cells (shC nm s) true false] ++ [ABlk.cells (shC [] .nilSlice) true false]).length := ⟨_, rfl⟩
  have n1 : h.length ≤ b1 := by omega
  have n2 : h.length ≤ b2 := by rw [hb2]; simp only [List.length_append]; omega
  have n3 : h.length ≤ b3 := by rw [hb3]; simp only [List.length_append]; omega
  have n13 : b1 ≠ b3 := by rw [hb1, hb3]; simp only [List.length_append, List.length_cons, List.length_nil]; omega
  have n23 : b2 ≠ b3 := by rw [hb2, hb3]; simp only [List.length_append, List.length_cons, List.length_nil]; omega
  rw [← hb1] at m1
  rw [← hb2] at m2
  rw [← hb3] at m3
  rw [← hY, ← hb2, ← hb3]
  clear hY hb1 hb2 hb3
  have q1 := (List.getElem?_eq_some_iff.1 m1).1
  have q2 := (List.getElem?_eq_some_iff.1 m2).1
  have q3 := (List.getElem?_eq_some_iff.1 m3).1
  obtain ⟨M, hM⟩ : ∃ M, M = Y.length := ⟨_, rfl⟩
  rw [← hM] at q1 q2 q3
  have hm := eY.len
  rw [← hM] at hm
  refine WL.inv T.mix (fun n ts K => ∃ (k : Nat) (out : AV) (L' : List (Trc × AV)), k ≤ L.length ∧ n = L.length - k ∧ Ext h K ∧ M ≤ K.length ∧ K[b1]? = some (.cells (shC nm s) true false) ∧ K[b2]? = some (.cells (shC [] .nilSlice) true false) ∧ ShGr h.length M K b3 nm L' out ∧ L'.map Prod.fst = (L.take k).map Prod.fst ∧ ts.length = 30 ∧ slot ts 2 = .ptr b2 0 ∧ slot ts 3 = .ptr b3 0 ∧ slot ts 10 = s ∧ slot ts 11 = .int .i64 L.length ∧ slot ts 12 = .int .i64 k) L.length
    ⟨0, .nilSlice, [], by omega, rfl, eY, by omega, m1, m2, .nil m3, rfl, Sn, Sw, Sw, Sw, Sw, Swr⟩ ?_
  clear hlen t0 eY m1 m2 m3 hM
  rintro _ ts K ⟨k, out, L', hk, rfl, eK, hMK, m1, m2, gr, hL', hlen, t2, t3, t10, t11, t12⟩
  have oK := o.ext eK
  by_cases hlt : k < L.length
  case neg =>
    have e3 := dltF hlt
    have e4 : k = L.length := by omega
    rw [e4, List.take_length] at hL'
    have l3 := @ldx _ _ _ gr.m
    have l2 : ldB (some 2) 0 (.cells (shC nm out) true false) = some (.agg [.str nm, out], .keep) := rfl
    have s2 : storeF 2 (.ptr b2 0) (.agg [.str nm, out]) (fun z => K[z]?) = some (undefA, .set b2 (.cells (shC nm out) true false)) := by
      rw [storeF_at m2]; exact sh_st gr.fr.isSl.one
    have k2 : (K.set b2 (.cells (shC nm out) true false))[b2]? = some (.cells (shC nm out) true false) := set_eq' m2
    have f2 := @loadF_at (some 2) b2 0 _ _ k2
    refine Rs (A10 @t2 @t3 @t10 @t11 @t12 @e3 @l3 @l2 @s2 @f2) ?_
    exact ⟨ext_setG eK n2, out, L', rfl, ⟨(gr.fr.setn (gr.fr.notB q2)).isSl, fun x hx => (gr.all x hx).setb (gr.nx x hx b2 n2 q2)⟩, hL'⟩
  have e3 := dltT hlt
  have e5 := wrapN (n := k) (by omega)
  have ix := oK.sl.ixm (kk := .i64) hlt
  obtain ⟨x, hx⟩ : ∃ x, x = L[k] := ⟨_, rfl⟩
  have ld : ∀ {kk : AHeap}, Ext K kk → loadF (some 10) (elp s 10 k) (fun b => kk[b]?) = some (.agg (trRow x), .keep) := fun {kk} e => by rw [hx]; exact oK.sl.ldm hlt e
  have hmem : x ∈ L := by rw [hx]; exact List.getElem_mem _
  have hsx := oK.all x hmem
  have ox := hsx.one
  have htk : L.take (k + 1) = L.take k ++ [x] := by rw [hx]; exact List.take_succ_eq_append_getElem hlt
  have hLk : L'.length = k := by
    have := congrArg List.length hL'
    rw [List.length_map, List.length_map, List.length_take] at this
    omega
  have b10 := @z10_box
  have st := @st_tr x ox
  have gr0 := gr
  have l3 := @ldx _ _ _ gr.m
  have l3v : ldV (shC nm out)[1]? = some (out, .keep) := rfl
  have l8 := @tr_l8 x
  have l8v : ldV (trRow x)[8]? = some (.bool x.1.hole, .keep) := rfl
  have l9v : ldV (trRow x)[9]? = some (x.2, .keep) := rfl
  have oo := gr.fr.isSl.one
  have bd := @fill_tr x hsx.cells
  have bs := @bsl_tr x ox
  refine Rs (A19 @t2 @t3 @t10 @t11 @t12 @e3 @ix @ld @b10 @st @l3 @l3v @l8 @l8v @l9v @oo @ox @bd @bs) ?_
  obtain ⟨K1, hK1⟩ : ∃ K1, K1 = K ++ [ABlk.cells (trRow x) true false] := ⟨_, rfl⟩
  have eK1 : Ext K K1 := by rw [hK1]; exact Xx
  have m5 : K1[K.length]? = some (.cells (trRow x) true false) := by rw [hK1]; exact at_new
  have hK1l : K1.length = K.length + 1 := by rw [hK1, List.length_append, List.length_singleton]
  rw [← hK1]
  clear hK1
  have gr := gr.ext eK1
  refine ShGr.grow (x := x) gr (eK.trans eK1) hm (by omega) n3 q3 (hsx.ext eK1) ((o.all x hmem).apart_fr gr.fr hm) (fun c h1 h2 => (o.all x hmem).notB h1) (by omega) ?_
  intro W out' eW hMW one' mW grW eS keepM keepc apn
  have s3 := sh_st1 mW one'
  have hlist : (L' ++ [x]).map Prod.fst = (L.take (k + 1)).map Prod.fst := by rw [htk, List.map_append, List.map_append, hL']
  refine Rs (A8 @t2 @t3 @t10 @t11 @t12 @one' @s3 @e5) ?_
  exact ⟨L.length - (k + 1), by omega, k + 1, out', L' ++ [x], by omega, rfl, eS, by rw [List.length_set]; exact hMW, keepM b1 _ q1 n13 (eK1.some m1), keepM b2 _ q2 n23 (eK1.some m2), grW, hlist, rfl⟩
set_option maxHeartbeats 8000000 in
theorem r166 {nm : List UInt8} {s : AV} {L : List (Trc × AV)} (o : ShOk h L s) (z : ShSz L) (zl : L.length < 2 ^ 38) : RCall P 166 [.agg [.str nm, s]] h (fun v h' => ∃ (s' : AV) (L' : List (Trc × AV)), v = .agg [.str nm, s'] ∧ ShOw h.length h' L' s' ∧ L'.map Prod.fst = L.map Prod.fst) := by
  refine .st1 33 T.mix T.c166 ?_;intro ts hlen t0;unfold fn166
  have bx := @sh_box nm s o.sl.one
  have bz : ∀ {N : Nat}, boxF (.agg [.str [], .nilSlice]) N = some (.ptr N 0, .push (.cells (shC [] .nilSlice) true false)) := fun {N} => rfl
  have ln : ldV (shC nm s)[0]? = some (.str nm, .keep) := rfl
  have ls : ldV (shC nm s)[1]? = some (s, .keep) := rfl
  have hlm := fun G => o.sl.lenm G
  have bd : fillA [.str [], .nilSlice] [(0, 1, .str nm)] = some [.str nm, .nilSlice] := rfl
  have st3 : ∀ {n : Nat}, stB 2 0 (.agg [.str nm, .nilSlice]) n (.cells (shC [] .nilSlice) true false) = some (undefA, .set n (.cells (shC nm .nilSlice) true false)) := fun {n} => sh_st rfl
  repeat (first | simp (config := { maxSteps := 1000000 }) only [wset, hset, dset, bset, Nat.reduceAdd, Nat.reduceMul, Nat.reduceLeDiff, Nat.reduceEqDiff, pset, hlen, if_false, if_true, t0, bx, bz, ln, bd, st3] | simp (config := { maxSteps := 1000000 }) (disch := first | (simp only [List.length_append, List.length_cons, List.length_nil] <;> omega) | rfl | omega | fail) only [kset, wset, hset, dset, bset, Nat.reduceAdd, Nat.reduceMul, Nat.reduceLeDiff, Nat.reduceEqDiff, pset, hlen, if_false, if_true, t0, bx, bz, ln, bd, st3])
  obtain ⟨Y, hY⟩ : ∃ Y, Y = h ++ [ABlk.cells (shC nm s) true false] ++ [ABlk.cells (shC [] .nilSlice) true false] ++ [ABlk.cells (shC nm .nilSlice) true false] := ⟨_, rfl⟩
  have eY : Ext h Y := by rw [hY]; exact Xx
  have m1 : Y[h.length]? = some (.cells (shC nm s) true false) := by rw [hY]; exact at_2
  have m2 : Y[(h ++ [ABlk.cells (shC nm s) true false]).length]? = some (.cells (shC [] .nilSlice) true false) := by rw [hY]; exact at_1
  have m3 : Y[(h ++ [ABlk.cells (shC nm s) true false] ++ [ABlk.cells (shC [] .nilSlice) true false]).length]? = some (.cells (shC nm .nilSlice) true false) := by rw [hY]; exact at_new
  obtain ⟨b1, hb1⟩ : ∃ b, b = h.length := ⟨_, rfl⟩
  obtain ⟨b2, hb2⟩ : ∃ b, b = (h ++ [ABlk.cells (shC nm s) true false]).length := ⟨_, rfl⟩
  obtain ⟨b3, hb3⟩ : ∃ b, b = (h ++ [ABlk.cells (shC nm s) true false] ++ [ABlk.cells (shC [] .nilSlice) true false]).length := ⟨_, rfl⟩
  have n1 : h.length ≤ b1 := by omega
  have n2 : h.length ≤ b2 := by rw [hb2]; simp only [List.length_append]; omega
  have n3 : h.length ≤ b3 := by rw [hb3]; simp only [List.length_append]; omega
  have n13 : b1 ≠ b3 := by rw [hb1, hb3]; simp only [List.length_append, List.length_cons, List.length_nil]; omega
  have n23 : b2 ≠ b3 := by rw [hb2, hb3]; simp only [List.length_append, List.length_cons, List.length_nil]; omega
  rw [← hb1] at m1
  rw [← hb2] at m2
  rw [← hb3] at m3
  rw [← hY, ← hb1, ← hb2, ← hb3]
  clear hY hb1 hb2 hb3
  have q1 := (List.getElem?_eq_some_iff.1 m1).1
  have q2 := (List.getElem?_eq_some_iff.1 m2).1
  have q3 := (List.getElem?_eq_some_iff.1 m3).1
  obtain ⟨M, hM⟩ : ∃ M, M = Y.length := ⟨_, rfl⟩
  rw [← hM] at q1 q2 q3
  have hm := eY.len
  rw [← hM] at hm
  refine WL.inv T.mix (fun n ts K => ∃ (k : Nat) (out : AV) (L' : List (Trc × AV)), k ≤ L.length ∧ n = L.length - k ∧ Ext h K ∧ M ≤ K.length ∧ K[b1]? = some (.cells (shC nm s) true false) ∧ K[b2]? = some (.cells (shC [] .nilSlice) true false) ∧ ShGr h.length M K b3 nm L' out ∧ (∀ x ∈ L', Fr M K x.2 1 (x.1.sm.map fltR)) ∧ (L'.map Prod.snd).Pairwise Apart ∧ L'.map Prod.fst = (L.take k).map Prod.fst ∧ ts.length = 33 ∧ slot ts 1 = .ptr b1 0 ∧ slot ts 2 = .ptr b2 0 ∧ slot ts 3 = .ptr b3 0 ∧ slot ts 4 = .int .i64 k) L.length
    ⟨0, .nilSlice, [], by omega, rfl, eY, by omega, m1, m2, .nil m3, fun x hx => by simp at hx, .nil, rfl, Sn, Sw, Sw, Sw, Swr⟩ ?_
  clear hlen t0 eY m1 m2 m3 hM
  rintro _ ts K ⟨k, out, L', hk, rfl, eK, hMK, m1, m2, gr, ow, pw, hL', hlen, t1, t2, t3, t4⟩
  have oK := o.ext eK
  have l1 := @ldx _ _ _ m1
  by_cases hlt : k < L.length
  case neg =>
    have e3 := dltF hlt
    have e4 : k = L.length := by omega
    rw [e4, List.take_length] at hL'
    have l3 := @ldx _ _ _ gr.m
    have l2 : ldB (some 2) 0 (.cells (shC nm out) true false) = some (.agg [.str nm, out], .keep) := rfl
    have s2 : storeF 2 (.ptr b2 0) (.agg [.str nm, out]) (fun z => K[z]?) = some (undefA, .set b2 (.cells (shC nm out) true false)) := by
      rw [storeF_at m2]; exact sh_st gr.fr.isSl.one
    have k2 : (K.set b2 (.cells (shC nm out) true false))[b2]? = some (.cells (shC nm out) true false) := set_eq' m2
    have f2 := @loadF_at (some 2) b2 0 _ _ k2
    refine Rs (A12 @t1 @t2 @t3 @t4 @l1 @ls @hlm @e3 @l3 @l2 @s2 @f2) ?_
    exact ⟨ext_setG eK n2, out, L', rfl, ⟨(gr.fr.setn (gr.fr.notB q2)).low (Nat.le_of_lt q1), fun x hx => ((ow x hx).setn ((ow x hx).notB q2)).low (Nat.le_of_lt q1), gr.ns, pw⟩, hL'⟩
  have e3 := dltT hlt
  have e5 := wrapN (n := k) (by omega)
  have ix := oK.sl.ixm (kk := .i64) hlt
  obtain ⟨x, hx⟩ : ∃ x, x = L[k] := ⟨_, rfl⟩
  have ld : ∀ {kk : AHeap}, Ext K kk → loadF (some 10) (elp s 10 k) (fun b => kk[b]?) = some (.agg (trRow x), .keep) := fun {kk} e => by rw [hx]; exact oK.sl.ldm hlt e
  have hmem : x ∈ L := by rw [hx]; exact List.getElem_mem _
  have hsx := oK.all x hmem
  have ox := hsx.one
  have htk : L.take (k + 1) = L.take k ++ [x] := by rw [hx]; exact List.take_succ_eq_append_getElem hlt
  have hLk : L'.length = k := by
    have := congrArg List.length hL'
    rw [List.length_map, List.length_map, List.length_take] at this
    omega
  have b10 := @z10_box
  have st := @st_tr x ox
  have gr0 := gr
  have l3 := @ldx _ _ _ gr.m
  have l3v : ldV (shC nm out)[1]? = some (out, .keep) := rfl
  have l8 := @tr_l8 x
  have l8v : ldV (trRow x)[8]? = some (.bool x.1.hole, .keep) := rfl
  have l9v : ldV (trRow x)[9]? = some (x.2, .keep) := rfl
  have oo := gr.fr.isSl.one
  refine Rs (A19 @t1 @t2 @t3 @t4 @l1 @ls @hlm @e3 @ix @ld @b10 @st @l3 @l3v @l8 @l8v @l9v @oo @ox) ?_
  obtain ⟨K1, hK1⟩ : ∃ K1, K1 = K ++ [ABlk.cells (trRow x) true false] := ⟨_, rfl⟩
  have eK1 : Ext K K1 := by rw [hK1]; exact Xx
  have m5 : K1[K.length]? = some (.cells (trRow x) true false) := by rw [hK1]; exact at_new
  have hK1l : K1.length = K.length + 1 := by rw [hK1, List.length_append, List.length_singleton]
  rw [← hK1]
  clear hK1
  have gr := gr.ext eK1
  refine WR.appz (N := K1.length) (w := 4) at_new (Nat.le_refl _) (hsx.ext (eK1.trans Xx)) (by rw [List.length_map]; have := z.s x hmem; omega) fun v y1 f1 => ?_
  have ov := f1.isSl.one
  have s9 := st9 (v := v) (t := x.1) ((show Ext K1 (K1 ++ [ABlk.cells [] true false] ++ y1) from Xx).some m5) ov rfl rfl
  refine Rs (A5 @t1 @t2 @t3 @t4 @s9) ?_
  obtain ⟨K2, hK2⟩ : ∃ K2, K2 = K1.set K.length (.cells (trRow (x.1, v)) true false) ++ [ABlk.cells [] true false] ++ y1 := ⟨_, rfl⟩
  have eK2 : Ext K K2 := by rw [hK2]; exact (ext_setG eK1 (Nat.le_refl _)).trans Xx
  have m5 : K2[K.length]? = some (.cells (trRow (x.1, v)) true false) := by rw [hK2]; exact get_it (set_eq' m5)
  have f2 : Fr K1.length K2 v 1 (x.1.sm.map fltR) := by rw [hK2, ← set_it (by omega)]; exact f1.setn (f1.notB (by omega))
  have gr : ShGr h.length M K2 b3 nm L' out := by
    refine ⟨eK2.some gr0.m, gr0.fr.ext eK2, fun y hy => (gr0.all y hy).ext eK2, gr0.ns, gr0.nx⟩
  rw [← hK2]
  clear hK2
  have l5 := @ldx _ _ _ m5
  have l10 := @tr_l10 (x.1, v)
  have l3 := @ldx _ _ _ gr.m
  have bs := @bsl_tr (x.1, v) ov
  have hK2l := eK2.len
  have m1 := eK2.some m1
  have m2 := eK2.some m2
  refine Rs (A11 @t1 @t2 @t3 @t4 @l3 @l3v @l5 @l10 @oo @ov @bs) ?_
  refine ShGr.grow (x := (x.1, v)) gr (eK.trans eK2) hm (by omega) n3 q3 f2.isSl (gr0.fr.apart_fr f2 (by omega)).symm (fun c h1 h2 => f2.notB (by omega)) (by omega) ?_
  intro W out' eW hMW one' mW grW eS keepM keepc apn
  have s3 := sh_st1 mW one'
  have hlist : (L' ++ [(x.1, v)]).map Prod.fst = (L.take (k + 1)).map Prod.fst := by rw [htk, List.map_append, List.map_append, hL']; rfl
  refine Rs (A7 @t1 @t2 @t3 @t4 @one' @s3 @e5) ?_
  refine ⟨L.length - (k + 1), by omega, k + 1, out', L' ++ [(x.1, v)], by omega, rfl, eS, by rw [List.length_set]; exact hMW, keepM b1 _ q1 n13 m1, keepM b2 _ q2 n23 m2, grW, fun y hy => ?_, ?_, hlist, rfl⟩
  · rcases List.mem_append.1 hy with hy | hy
    · exact ((ow y hy).ext eK2).keepc keepc (gr0.ns y hy) q3
    · rw [List.mem_singleton.1 hy]
      exact (f2.low (by omega)).keepc keepc (gr0.fr.apart_fr f2 (by omega)).symm q3
  · rw [List.map_append, List.pairwise_append]
    refine ⟨pw, List.pairwise_singleton _ _, fun a ha c hc => ?_⟩
    obtain ⟨y, hy, rfl⟩ := List.mem_map.1 ha
    rw [show ([(x.1, v)] : List (Trc × AV)).map Prod.snd = [v] from rfl, List.mem_singleton] at hc
    rw [hc]
    exact (ow y hy).apart_fr f2 (by omega)
end
end Go.Abs
namespace Go.Abs

set_option maxRecDepth 10000
attribute [local irreducible] WP WC WE WB WR WF WL WG WRg WQ
section
variable {P : Program} (T : Tbl P) {h : AHeap}
include T
end
end Go.Abs
namespace Go.Abs

set_option maxRecDepth 10000
attribute [local irreducible] WP WC WE WB WR WF WL WG WRg WQ
section
variable {P : Program} (T : Tbl P) {h : AHeap}
include T
set_option maxHeartbeats 1000000 in
theorem q105 {s : AV} {l : List Int} (hs : IsSl h s 1 (l.map intRow)) (hl : l.length < 2 ^ 40) : RCall P 105 [s] h (fun v h' => ∃ (t : AV) (e : Int), v = .tup [t, .int .i64 e] ∧ if fitsB l = true then Fr h.length h' t 1 ((l.map smpl).map fltR) ∧ e = 0 else t = .nilSlice ∧ e = 4) := by
  refine .st1 8 T.mix T.c105 ?_;intro ts hlen t0;unfold fn105
  refine Rs @t0 ?_
  refine WF.ce T.c180 (r180 T hs hl) fun g1 => ?_
  cases hf : fitsB l with
  | false =>
    refine Rs (A2 @t0 @Bool.not_false) ?_
    exact ⟨.nilSlice, 4, rfl, rfl, rfl⟩
  | true =>
    refine Rs (A2 @t0 @Bool.not_true) ?_
    refine WF.res T.c182 (q182 T (hs.ext Xx) hl T.c144 (g := smpl) (fun x hx k => r144 T (fits_all hf x hx).1 (fits_all hf x hx).2)) ?_
    intro s2 g2 is2
    refine Rs @t0 ?_
    exact ⟨s2, 0, rfl, is2.low (by simp), rfl⟩
end
end Go.Abs
namespace Go.Abs

/-- A list moved by a number of places. -/
def shfL (A : List Int) (n : Int) : List Int := genL A.length fun i : Nat => atZ A ((i : Int) + n)
theorem shfL_len (A : List Int) (n : Int) : (shfL A n).length = A.length := genL_len _ _
theorem ratI_bd {n d B : Int} (hd : 1 ≤ d) (hB : d ≤ B) (hn : -B ≤ n ∧ n ≤ B) : (-B ≤ (ratI n d).1 ∧ (ratI n d).1 ≤ B) ∧ 1 ≤ (ratI n d).2 ∧ (ratI n d).2 ≤ B := by
  obtain ⟨g, hg⟩ : ∃ g : Nat, g = Int.gcd n d := ⟨_, rfl⟩
  have gd : g ∣ d.natAbs := by rw [hg]; exact Int.gcd_dvd_natAbs_right n d
  have gp : 0 < g := Nat.pos_of_dvd_of_pos gd (by omega)
  unfold ratI
  rw [← hg]
  have a1 : (n.tdiv (g : Int)).natAbs = n.natAbs / g := by rw [Int.natAbs_tdiv]; rfl
  have a2 : (d.tdiv (g : Int)).natAbs = d.natAbs / g := by rw [Int.natAbs_tdiv]; rfl
  have b1 := Nat.div_le_self n.natAbs g
  have b2 := Nat.div_le_self d.natAbs g
  have b3 : 1 ≤ d.natAbs / g := Nat.div_pos (Nat.le_of_dvd (by omega) gd) gp
  have b4 : 0 ≤ d.tdiv (g : Int) := Int.tdiv_nonneg (by omega) (by omega)
  simp only
  omega
theorem lvlF_c (b : Int × Int) (r : List (Int × Int)) (p : Option (Int × Int)) (t : Int) : lvlF (b :: r) p t = if b.1 < t then lvlF r (some b) t else some (match p with | none => (b.2, 1) | some a => interT a b t) := rfl
theorem lvlF_bd {t : Int} (ht : 0 ≤ t ∧ t ≤ 100000) : ∀ (l : List (Int × Int)) (p : Option (Int × Int)) {z : Int × Int}, (∀ x ∈ l, 0 ≤ x.1 ∧ x.1 ≤ 100000 ∧ -64 ≤ x.2 ∧ x.2 ≤ 64) → (∀ y, p = some y → (0 ≤ y.1 ∧ y.1 ≤ 100000 ∧ -64 ≤ y.2 ∧ y.2 ≤ 64) ∧ ∀ x, l.head? = some x → y.1 < x.1) → (∀ k (h : k + 1 < l.length), (l[k]'(by omega)).1 < l[k + 1].1) → lvlF l p t = some z → (-20000000 ≤ z.1 ∧ z.1 ≤ 20000000) ∧ 1 ≤ z.2 ∧ z.2 ≤ 20000000
  | [], _, _, _, _, _, h => by cases h
  | b :: r, p, z, hr, hp, ho, h => by
    have hb := hr b (List.mem_cons_self ..)
    rw [lvlF_c] at h
    by_cases hlt : b.1 < t
    · rw [if_pos hlt] at h
      refine lvlF_bd ht r (some b) (fun x hx => hr x (List.mem_cons_of_mem _ hx)) (fun y hy => ?_) (fun k hk => ho (k + 1) (by simpa using hk)) h
      cases hy
      refine ⟨hb, fun x hx => ?_⟩
      cases r with
      | nil => cases hx
      | cons c r =>
        cases hx
        exact ho 0 (by simp)
    · rw [if_neg hlt] at h
      cases p with
      | none => cases h; simp only; omega
      | some a =>
        cases h
        obtain ⟨ha, hab⟩ := hp a rfl
        have hab := hab b rfl
        obtain ⟨⟨k1, k2⟩, k3, k4⟩ := inter_bd ha hb ht
        exact ratI_bd (B := 20000000) (by omega) (by omega) ⟨by omega, by omega⟩
theorem lvlS_bd {l : List (Int × Int)} (ok : TdOk l) (h1 : 1 ≤ l.length) {t : Int} (ht : 0 ≤ t ∧ t ≤ 100000) : (-20000000 ≤ (lvlS l t).1 ∧ (lvlS l t).1 ≤ 20000000) ∧ 1 ≤ (lvlS l t).2 ∧ (lvlS l t).2 ≤ 20000000 := by
  unfold lvlS
  cases hz : lvlF l none t with
  | none =>
    have hl : l.length - 1 < l.length := by omega
    have := ok.r l[l.length - 1] (List.getElem_mem _)
    rw [Option.getD_none, List.getD_eq_getElem?_getD, List.getElem?_eq_getElem hl, Option.getD_some]
    simp only
    omega
  | some z =>
    rw [Option.getD_some]
    exact lvlF_bd ht l none ok.r (fun y hy => by cases hy) ok.o hz
theorem rndT_bd {n d : Int} (hd : 1 ≤ d ∧ d ≤ 20000000) (hn : -20000000 ≤ n ∧ n ≤ 20000000) : -50000000 ≤ rndI n d ∧ rndI n d ≤ 50000000 := by
  unfold rndI
  have h1 := Int.ediv_le_self (a := 2 * n + d) (2 * d)
  have h2 := Int.mul_ediv_add_emod (2 * n + d) (2 * d)
  have h3 := Int.emod_nonneg (2 * n + d) (show 2 * d ≠ 0 by omega)
  have h4 := Int.emod_lt_of_pos (2 * n + d) (show 0 < 2 * d by omega)
  obtain ⟨q, hq⟩ : ∃ q, q = (2 * n + d) / (2 * d) := ⟨_, rfl⟩
  rw [← hq] at h2 ⊢
  clear h1
  constructor
  · refine Int.not_lt.1 fun z => ?_
    have : 2 * d * q ≤ 2 * d * (-50000001) := Int.mul_le_mul_of_nonneg_left (by omega) (by omega)
    omega
  · refine Int.not_lt.1 fun z => ?_
    have : 2 * d * 50000001 ≤ 2 * d * q := Int.mul_le_mul_of_nonneg_left (by omega) (by omega)
    omega
/-- How far a trace is moved by tides. -/
def corN (l : List (Int × Int)) (f : Nat → Int) : Int := rndI (lvlS l (f 4)).1 (lvlS l (f 4)).2
theorem atZ_zero {A : List Int} (hA : ∀ x ∈ A, -16384 ≤ x ∧ x ≤ 16384) (n : Int) : fitsB (shfL A n) = true := by
  unfold fitsB
  rw [List.all_eq_true]
  intro x hx
  unfold shfL genL at hx
  obtain ⟨i, _, rfl⟩ := List.mem_map.1 hx
  have := atZ_bd hA ((i : Int) + n)
  unfold fitB
  simp only [Bool.and_eq_true, decide_eq_true_eq]
  exact this
/-- A trace that is changed, if it is no hole. -/
def chgT (G : Trc × AV → List Nat) (x : Trc × AV) : Trc := if x.1.hole = true then x.1 else ⟨x.1.hd, x.1.hole, G x⟩
def errL (E : Trc × AV → Int) (L : List (Trc × AV)) : Int := firstS (L.map fun x => if x.1.hole = true then 0 else E x)
theorem errL_cons (E : Trc × AV → Int) (x : Trc × AV) (r : List (Trc × AV)) : errL E (x :: r) = if (if x.1.hole = true then 0 else E x) = 0 then errL E r else if x.1.hole = true then 0 else E x := by
  unfold errL
  rw [List.map_cons, firstS]
set_option maxRecDepth 10000
attribute [local irreducible] WP WC WE WB WR WF WL WG WRg WQ
section
variable {P : Program} (T : Tbl P) {h : AHeap}
include T
set_option maxHeartbeats 4000000 in
theorem r162 {b : Nat} {s0 : AV} {t : List Int} (mb : h[b]? = some (.cells [s0] true false)) (h0 : IsSl h s0 1 (t.map intRow)) (ht : TpOk t) {x : Trc × AV} (hx : IsSl h x.2 1 (x.1.sm.map fltR)) (hc : chkL x.1.sm = 0) : RCall P 162 [.agg (trRow x), .ptr b 0] h (fun v h' => ∃ (s : AV) (e : Int), v = .tup [s, .int .i64 e] ∧ if fitsB (apL t (x.1.sm.map gridN) (-1)) = true then Fr h.length h' s 1 (((apL t (x.1.sm.map gridN) (-1)).map smpl).map fltR) ∧ e = 0 else s = .nilSlice ∧ e = 4) := by
  refine .st2 13 T.mix T.c162 ?_;intro ts hlen t0 t1;unfold fn162
  have ox := hx.one
  have bx : ∀ {N : Nat}, boxF (.agg (trRow x)) N = some (.ptr N 0, .push (.cells (trRow x) true false)) := fun {N} => tr_box ox
  have lb : loadF none (.ptr b 0) (fun z => h[z]?) = some (s0, .keep) := by rw [loadF_at mb]; rfl
  have lbk : ∀ {k : AHeap}, Ext h k → loadF none (.ptr b 0) (fun z => k[z]?) = some (s0, .keep) := fun {k} e => by rw [loadF_at (e.some mb)]; rfl
  have l9v : ldV (trRow x)[9]? = some (x.2, .keep) := rfl
  obtain ⟨hl, hg⟩ := chkL_z hc
  have o0 := h0.one
  refine Rs (A7 @t0 @t1 @bx @lbk @l9v @o0 @ox) ?_
  refine WF.res T.c107 (r107 T (hx.ext Xx) (by omega) T.c108 (g := gridN) (fun y hy k => r108 T (hg y hy))) ?_
  intro s2 g1 is1
  refine Rs (A3 @t0 @t1 @o0) ?_
  refine WF.res T.c106 (r106 T (h0.ext Xx) is1 ht (by rw [List.length_map]; exact hl) (grid_all hg) ⟨by omega, by omega⟩) ?_
  intro s3 g2 is2
  refine Rs (A2 @t0 @t1) ?_
  refine WF.res T.c105 (q105 T is2 (by rw [apL_len, List.length_map]; omega)) ?_
  rintro _ g3 ⟨s, e, rfl, hh⟩
  refine Rs (A2 @t0 @t1) ?_
  refine ⟨s, e, rfl, ?_⟩
  by_cases hf : fitsB (apL t (x.1.sm.map gridN) (-1)) = true
  · rw [if_pos hf] at hh ⊢
    exact ⟨hh.1.low (by simp only [List.length_append]; omega), hh.2⟩
  · rw [if_neg hf] at hh ⊢
    exact hh
set_option maxHeartbeats 8000000 in
theorem r161 {b : Nat} {s0 : AV} {l : List (Int × Int)} (mb : h[b]? = some (.cells [s0] true false)) (h0 : IsSl h s0 2 (l.map ratR)) (ok : TdOk l) (h1 : 1 ≤ l.length) (hl16 : l.length ≤ 16) {x : Trc × AV} (hx : IsSl h x.2 1 (x.1.sm.map fltR)) (hc : chkL x.1.sm = 0) (h4 : 0 ≤ x.1.hd 4 ∧ x.1.hd 4 ≤ 100000) : RCall P 161 [.agg (trRow x), .ptr b 0] h (fun v h' => ∃ s : AV, v = .tup [s, .int .i64 0] ∧ Fr h.length h' s 1 (((shfL (x.1.sm.map gridN) (corN l x.1.hd)).map smpl).map fltR)) := by
  refine .st2 44 T.mix T.c161 ?_;intro ts hlen t0 t1;unfold fn161
  have ox := hx.one
  have bx : ∀ {N : Nat}, boxF (.agg (trRow x)) N = some (.ptr N 0, .push (.cells (trRow x) true false)) := fun {N} => tr_box ox
  have lbk : ∀ {k : AHeap}, Ext h k → loadF none (.ptr b 0) (fun z => k[z]?) = some (s0, .keep) := fun {k} e => by rw [loadF_at (e.some mb)]; rfl
  have l9v : ldV (trRow x)[9]? = some (x.2, .keep) := rfl
  have l4v : ldV (trRow x)[4]? = some (.int .i64 (x.1.hd 4), .keep) := rfl
  have ia : ∀ {n o : Nat}, iadaF 8 1 (.ptr n o) (.int .i64 4) = some (.ptr n (o + 4)) := fun {n o} => by unfold iadaF; simp
  obtain ⟨hl, hg⟩ := chkL_z hc
  have o0 := h0.one
  obtain ⟨⟨b1, b2⟩, b3, b4⟩ := lvlS_bd ok h1 h4
  obtain ⟨zn, hzn⟩ : ∃ z, z = lvlS l (x.1.hd 4) := ⟨_, rfl⟩
  refine Rs (A8 @t0 @t1 @bx @lbk @l4v @ia @o0 @ox) ?_
  refine WF.ce T.c138 (r138 T (h0.ext Xx) ok h1 hl16 h4) fun g1 => ?_
  have hcn : corN l x.1.hd = rndI zn.1 zn.2 := by rw [hzn]; rfl
  rw [hcn]
  rw [← hzn] at b1 b2 b3 b4 ⊢
  have bz : ∀ {N : Nat}, boxF (.agg [.int .i64 0, .int .i64 0]) N = some (.ptr N 0, .push (.cells (ratR (0, 0)) true false)) := fun {N} => rfl
  have sz : ∀ {n : Nat}, stB 2 0 (.agg (ratR zn)) n (.cells (ratR (0, 0)) true false) = some (undefA, .set n (.cells (ratR zn) true false)) := fun {n} => (stB_agg rfl rfl (by show 0 + 2 ≤ 2; omega)).trans rfl
  have z0 : ldV (ratR zn)[0]? = some (.int .i64 zn.1, .keep) := rfl
  have z1 : ldV (ratR zn)[1]? = some (.int .i64 zn.2, .keep) := rfl
  refine Rs (A6 @t0 @t1 @bz @sz @z0 @z1) ?_
  refine WF.ce T.c128 (r128 T ⟨by omega, by omega⟩ ⟨by omega, by omega⟩) fun g2 => ?_
  have hn := rndT_bd ⟨b3, b4⟩ ⟨b1, b2⟩
  obtain ⟨n, hnn⟩ : ∃ n, n = rndI zn.1 zn.2 := ⟨_, rfl⟩
  rw [← hnn] at hn ⊢
  refine Rs (A4 @t0 @t1 @l9v @ox) ?_
  refine WF.res T.c107 (q107 T (hx.ext Xx) (by omega) T.c108 (g := gridN) (fun y hy k => r108 T (hg y hy))) ?_
  intro s7 g3 fr7
  have is7 := fr7.isSl
  obtain ⟨A, hA⟩ : ∃ A, A = x.1.sm.map gridN := ⟨_, rfl⟩
  have hAl : A.length = x.1.sm.length := by rw [hA]; simp
  have hAb := grid_all hg
  rw [← hA] at is7 hAb ⊢
  obtain ⟨B, hB⟩ : ∃ B, B = h ++ [ABlk.cells (trRow x) true false] ++ g1 ++ [ABlk.cells (ratR zn) true false] ++ g2 ++ g3 := ⟨_, rfl⟩
  have eB : Ext h B := by rw [hB]; exact Xx
  rw [← hB] at is7 ⊢
  clear hB fr7
  repeat (first | simp (config := { maxSteps := 1000000 }) only [wset, hset, dset, bset, Nat.reduceAdd, Nat.reduceMul, Nat.reduceLeDiff, Nat.reduceEqDiff, pset, hlen, if_false, if_true, t0, t1, is7.lenm, mksl_ok (es := 1) (w := 8) (N0 := B.length) (n := A.length) (z := [AV.int .i64 0]) (k := .i64) (k' := .i64) (by omega) (by omega)] | simp (config := { maxSteps := 1000000 }) (disch := first | (simp only [List.length_append, List.length_cons, List.length_nil] <;> omega) | rfl | omega | fail) only [kset, wset, hset, dset, bset, Nat.reduceAdd, Nat.reduceMul, Nat.reduceLeDiff, Nat.reduceEqDiff, pset, hlen, if_false, if_true, t0, t1, is7.lenm, mksl_ok (es := 1) (w := 8) (N0 := B.length) (n := A.length) (z := [AV.int .i64 0]) (k := .i64) (k' := .i64) (by omega) (by omega)])
  have hF := Fr.zeros (N := B.length) (n := A.length) (h := B) (z := [AV.int .i64 0]) (es := 1) (Nat.le_refl _) rfl
  obtain ⟨sv, hsv⟩ : ∃ sv, sv = AV.slice B.length 0 A.length 1 := ⟨_, rfl⟩
  have lsv : ∀ {G : Nat → Option ABlk}, lenG .sl G sv = some A.length := fun {G} => by rw [hsv]; rfl
  rw [← hsv] at hF ⊢
  have er : List.replicate A.length [AV.int .i64 0] = (List.replicate A.length (0 : Int)).map intRow := by simp [intRow]
  rw [er] at hF
  obtain ⟨f, hf⟩ : ∃ f : Nat → Int, f = fun i : Nat => atZ A ((i : Int) + n) := ⟨_, rfl⟩
  have hG : shfL A n = genL A.length f := by rw [hf]; rfl
  refine Rs (A3 @t0 @t1 @lsv) ?_
  refine WL.inv T.mix (fun m ts K => ∃ (k : Nat) (G : AHeap), k ≤ A.length ∧ m = A.length - k ∧ K = B ++ G ∧ Fr B.length K sv 1 ((genL k f ++ List.replicate (A.length - k) 0).map intRow) ∧ ts.length = 44 ∧ slot ts 6 = .int .i64 n ∧ slot ts 7 = s7 ∧ slot ts 8 = sv ∧ slot ts 27 = .int .i64 A.length ∧ slot ts 28 = .int .i64 k) A.length
    ⟨0, _, by omega, rfl, rfl, hF, Sn, Sw, Sw, Sw, Sw, Swr⟩ ?_
  clear hlen t0 t1
  rintro _ ts _ ⟨k, G, hk, rfl, rfl, hfr, hlen, t6, t7, t8, t27, t28⟩
  have eK : Ext B (B ++ G) := ⟨G, rfl⟩
  have is7K := is7.ext eK
  by_cases hlt : k < A.length
  case neg =>
    have e3 := dltF hlt
    have e4 : k = A.length := by omega
    rw [e4, Nat.sub_self, List.replicate_zero, List.append_nil, ← hG] at hfr
    have hfit := atZ_zero hAb n
    refine Rs (A6 @t6 @t7 @t8 @t27 @t28 @e3) ?_
    refine WF.res T.c105 (q105 T hfr.isSl (by rw [hG, genL_len]; omega)) ?_
    rintro _ g5 ⟨t, e, rfl, ht⟩
    rw [if_pos hfit] at ht
    obtain ⟨ht, rfl⟩ := ht
    refine Rs (A3 @t6 @t7 @t8) ?_
    exact ⟨eB.trans (eK.trans ⟨g5, rfl⟩), t, rfl, ht.low (Nat.le_trans eB.len eK.len)⟩
  have e3 := dltT hlt
  have e5 := wrapN (n := k) (by omega)
  have w1 : IntKind.i64.wrap ((k : Int) + n) = (k : Int) + n := wrap_in (by omega) (by omega)
  refine Rs (A7 @t6 @t7 @t8 @t27 @t28 @e3 @w1) ?_
  refine WF.ce T.c157 (r157 T is7K (by omega) _) fun g4 => ?_
  have hfk : f k = atZ A ((k : Int) + n) := by rw [hf]
  have hfr2 := hfr.app g4
  have hll : (genL k f ++ List.replicate (A.length - k) (0 : Int)).length = A.length := by rw [List.length_append, genL_len, List.length_replicate]; omega
  have ixk := hfr2.isSl.ixm (kk := .i64) (show k < _ by rw [hll]; exact hlt)
  rw [List.append_assoc] at hfr2 ⊢
  refine Rs (A6 @t6 @t7 @t8 @t27 @t28 @ixk) ?_
  refine WR.put1 (h0 := B) (off := 0) (row := intRow) (x' := f k) hfr2 (by rw [hll]; exact hlt) (by decide) rfl (by rw [hfk]; rfl) ?_
  intro g5 hl5 hF5 _
  rw [set_zs (genL_len k f) hlt, ← genL_succ] at hF5
  refine Rs (A6 @t6 @t7 @t8 @t27 @t28 @e5) ?_
  exact ⟨A.length - (k + 1), by omega, k + 1, g5, by omega, rfl, rfl, hF5, rfl⟩
set_option maxHeartbeats 8000000 in
theorem r160 {nm : List UInt8} {s : AV} {L : List (Trc × AV)} (o : ShOk h L s) (zl : L.length < 2 ^ 38) {f : FuncId} {AF : AFunc} (hA : compileFn P f = some AF) {c : Nat} {E : Trc × AV → Int} {G : Trc × AV → List Nat} (hf : ∀ x ∈ L, x.1.hole = false → ∀ k, Ext h k → RCall P f [.agg (trRow x), .ptr c 0] k (fun v k' => ∃ t : AV, v = .tup [t, .int .i64 (E x)] ∧ (E x = 0 → Fr k.length k' t 1 ((G x).map fltR)))) : RCall P 160 [.agg [.str nm, s], .func (.func f) [] [.ptr c 0]] h (fun v h' => ∃ (r : AV), v = .tup [r, .int .i64 (errL E L)] ∧ if errL E L = 0 then ∃ (s' : AV) (L' : List (Trc × AV)), r = .agg [.str nm, s'] ∧ ShOk h' L' s' ∧ L'.map Prod.fst = L.map (chgT G) ∧ (∀ c, c < h.length → NotB c s') ∧ ∀ y ∈ L', (∃ x ∈ L, y.2 = x.2) ∨ ∀ c, c < h.length → NotB c y.2 else r = .agg [.str [], .nilSlice]) := by
  refine .st2 44 T.mix T.c160 ?_;intro ts hlen t0 t1;unfold fn160
  have bx := @sh_box nm s o.sl.one
  have bz : ∀ {N : Nat}, boxF (.agg [.str [], .nilSlice]) N = some (.ptr N 0, .push (.cells (shC [] .nilSlice) true false)) := fun {N} => rfl
  have ln : ldV (shC nm s)[0]? = some (.str nm, .keep) := rfl
  have ls : ldV (shC nm s)[1]? = some (s, .keep) := rfl
  have hlm := fun G => o.sl.lenm G
  have bd : fillA [.str [], .nilSlice] [(0, 1, .str nm)] = some [.str nm, .nilSlice] := rfl
  have bd0 : fillA [.str [], .nilSlice] [] = some [.str [], .nilSlice] := rfl
  have st3 : ∀ {n : Nat}, stB 2 0 (.agg [.str nm, .nilSlice]) n (.cells (shC [] .nilSlice) true false) = some (undefA, .set n (.cells (shC nm .nilSlice) true false)) := fun {n} => sh_st rfl
  repeat (first | simp (config := { maxSteps := 1000000 }) only [wset, hset, dset, bset, Nat.reduceAdd, Nat.reduceMul, Nat.reduceLeDiff, Nat.reduceEqDiff, pset, hlen, if_false, if_true, t0, t1, bx, bz, ln, bd, st3, ls, hlm] | simp (config := { maxSteps := 1000000 }) (disch := first | (simp only [List.length_append, List.length_cons, List.length_nil] <;> omega) | rfl | omega | fail) only [kset, wset, hset, dset, bset, Nat.reduceAdd, Nat.reduceMul, Nat.reduceLeDiff, Nat.reduceEqDiff, pset, hlen, if_false, if_true, t0, t1, bx, bz, ln, bd, st3, ls, hlm])
  obtain ⟨Y, hY⟩ : ∃ Y, Y = h ++ [ABlk.cells (shC nm s) true false] ++ [ABlk.cells (shC [] .nilSlice) true false] ++ [ABlk.cells (shC nm .nilSlice) true false] := ⟨_, rfl⟩
  have eY : Ext h Y := by rw [hY]; exact Xx
  have m4 : Y[(h ++ [ABlk.cells (shC nm s) true false]).length]? = some (.cells (shC [] .nilSlice) true false) := by rw [hY]; exact at_1
  have m6 : Y[(h ++ [ABlk.cells (shC nm s) true false] ++ [ABlk.cells (shC [] .nilSlice) true false]).length]? = some (.cells (shC nm .nilSlice) true false) := by rw [hY]; exact at_new
  obtain ⟨b4, hb4⟩ : ∃ b, b = (h ++ [ABlk.cells (shC nm s) true false]).length := ⟨_, rfl⟩
  obtain ⟨b6, hb6⟩ : ∃ b, b = (h ++ [ABlk.cells (shC nm s) true false] ++ [ABlk.cells (shC [] .nilSlice) true false]).length := ⟨_, rfl⟩
  have n4 : h.length ≤ b4 := by rw [hb4]; simp only [List.length_append]; omega
  have n6 : h.length ≤ b6 := by rw [hb6]; simp only [List.length_append]; omega
  have n46 : b4 ≠ b6 := by rw [hb4, hb6]; simp only [List.length_append, List.length_cons, List.length_nil]; omega
  rw [← hb4] at m4
  rw [← hb6] at m6
  rw [← hY, ← hb4, ← hb6]
  clear hY hb4 hb6
  have q4 := (List.getElem?_eq_some_iff.1 m4).1
  have q6 := (List.getElem?_eq_some_iff.1 m6).1
  obtain ⟨M, hM⟩ : ∃ M, M = Y.length := ⟨_, rfl⟩
  rw [← hM] at q4 q6
  have hm := eY.len
  rw [← hM] at hm
  refine WL.inv T.mix (fun n ts K => ∃ (k : Nat) (out : AV) (L' : List (Trc × AV)), k ≤ L.length ∧ n = L.length - k ∧ Ext h K ∧ M ≤ K.length ∧ K[b4]? = some (.cells (shC [] .nilSlice) true false) ∧ ShGr h.length M K b6 nm L' out ∧ (∀ y ∈ L', (∃ x ∈ L, y.2 = x.2) ∨ ∀ c, c < h.length → NotB c y.2) ∧ L'.map Prod.fst = (L.take k).map (chgT G) ∧ errL E L = errL E (L.drop k) ∧ ts.length = 44 ∧ slot ts 1 = .func (.func f) [] [.ptr c 0] ∧ slot ts 4 = .ptr b4 0 ∧ slot ts 6 = .ptr b6 0 ∧ slot ts 15 = s ∧ slot ts 16 = .int .i64 L.length ∧ slot ts 17 = .int .i64 k) L.length
    ⟨0, .nilSlice, [], by omega, rfl, eY, by omega, m4, .nil m6, fun y hy => by simp at hy, rfl, rfl, Sn, (Sq @t1), Sw, Sw, Sw, Sw, Swr⟩ ?_
  clear hlen t0 t1 eY m4 m6 hM
  rintro _ ts K ⟨k, out, L', hk, rfl, eK, hMK, m4, gr, hN, hL', herr, hlen, t1, t4, t6, t15, t16, t17⟩
  have oK := o.ext eK
  by_cases hlt : k < L.length
  case neg =>
    have e3 := dltF hlt
    have e4 : k = L.length := by omega
    rw [e4, List.take_length] at hL'
    rw [e4, List.drop_length] at herr
    have herr : errL E L = 0 := herr
    have l3 := @ldx _ _ _ gr.m
    have l2 : ldB (some 2) 0 (.cells (shC nm out) true false) = some (.agg [.str nm, out], .keep) := rfl
    have s2 : storeF 2 (.ptr b4 0) (.agg [.str nm, out]) (fun z => K[z]?) = some (undefA, .set b4 (.cells (shC nm out) true false)) := by
      rw [storeF_at m4]; exact sh_st gr.fr.isSl.one
    have k2 : (K.set b4 (.cells (shC nm out) true false))[b4]? = some (.cells (shC nm out) true false) := set_eq' m4
    have f2 := @loadF_at (some 2) b4 0 _ _ k2
    refine Rs (A11 @t1 @t4 @t6 @t15 @t16 @t17 @e3 @l3 @l2 @s2 @f2) ?_
    refine ⟨ext_setG eK n4, _, by rw [herr], ?_⟩
    rw [if_pos herr]
    exact ⟨out, L', rfl, ⟨(gr.fr.setn (gr.fr.notB q4)).isSl, fun x hx => (gr.all x hx).setb (gr.nx x hx b4 n4 q4)⟩, hL', fun c hc => gr.fr.notB (by omega), hN⟩
  have e3 := dltT hlt
  have e5 := wrapN (n := k) (by omega)
  have ix := oK.sl.ixm (kk := .i64) hlt
  obtain ⟨x, hx⟩ : ∃ x, x = L[k] := ⟨_, rfl⟩
  have ld : ∀ {kk : AHeap}, Ext K kk → loadF (some 10) (elp s 10 k) (fun b => kk[b]?) = some (.agg (trRow x), .keep) := fun {kk} e => by rw [hx]; exact oK.sl.ldm hlt e
  have hmem : x ∈ L := by rw [hx]; exact List.getElem_mem _
  have hsx := oK.all x hmem
  have ox := hsx.one
  have htk : L.take (k + 1) = L.take k ++ [x] := by rw [hx]; exact List.take_succ_eq_append_getElem hlt
  have hdk : L.drop k = x :: L.drop (k + 1) := by rw [hx]; exact List.drop_eq_getElem_cons hlt
  rw [hdk, errL_cons] at herr
  have hLk : L'.length = k := by
    have := congrArg List.length hL'
    rw [List.length_map, List.length_map, List.length_take] at this
    omega
  have b10 := @z10_box
  have st := @st_tr x ox
  have gr0 := gr
  have l8v : ldV (trRow x)[8]? = some (.bool x.1.hole, .keep) := rfl
  have l10 := @tr_l10 x
  have oo := gr.fr.isSl.one
  have l3 := @ldx _ _ _ gr.m
  have l3v : ldV (shC nm out)[1]? = some (out, .keep) := rfl
  cases hb : x.1.hole with
  | true =>
    rw [hb, if_pos rfl, if_pos rfl] at herr
    have herr2 := herr
    have bs := @bsl_tr x ox
    have hch : chgT G x = x.1 := by unfold chgT; rw [if_pos hb]
    refine Rs (A20 @t1 @t4 @t6 @t15 @t16 @t17 @e3 @ix @ld @b10 @st @l8v @hb @Bool.not_true @l3 @l3v @l10 @oo @ox @bs) ?_
    obtain ⟨K1, hK1⟩ : ∃ K1, K1 = K ++ [ABlk.cells (trRow x) true false] := ⟨_, rfl⟩
    have eK1 : Ext K K1 := by rw [hK1]; exact Xx
    have hK1l : K1.length = K.length + 1 := by rw [hK1, List.length_append, List.length_singleton]
    rw [← hK1]
    clear hK1
    have gr := gr.ext eK1
    refine ShGr.grow (x := x) gr (eK.trans eK1) hm (by omega) n6 q6 (hsx.ext eK1) ((o.all x hmem).apart_fr gr.fr hm) (fun c h1 h2 => (o.all x hmem).notB h1) (by omega) ?_
    intro W out' eW hMW one' mW grW eS keepM keepc apn
    have s3 := sh_st1 mW one'
    have hlist : (L' ++ [x]).map Prod.fst = (L.take (k + 1)).map (chgT G) := by rw [htk, List.map_append, List.map_append, hL']; rw [show ([x] : List (Trc × AV)).map (chgT G) = [x.1] by rw [List.map_singleton, hch]]; rfl
    refine Rs (A9 @t1 @t4 @t6 @t15 @t16 @t17 @one' @s3 @e5) ?_
    exact ⟨L.length - (k + 1), by omega, k + 1, out', L' ++ [x], by omega, rfl, eS, by rw [List.length_set]; exact hMW, keepM b4 _ q4 n46 (eK1.some m4), grW, fun y' hy' => (List.mem_append.1 hy').elim (hN y') (fun q => by rw [List.mem_singleton.1 q]; exact .inl ⟨x, hmem, rfl⟩), hlist, herr2, rfl⟩
  | false =>
    have hn : ¬ x.1.hole = true := by rw [hb]; decide
    simp only [if_neg hn] at herr
    refine Rs (A15 @t1 @t4 @t6 @t15 @t16 @t17 @e3 @ix @ld @b10 @st @l8v @hb @Bool.not_false @l10) ?_
    obtain ⟨K1, hK1⟩ : ∃ K1, K1 = K ++ [ABlk.cells (trRow x) true false] := ⟨_, rfl⟩
    have eK1 : Ext K K1 := by rw [hK1]; exact Xx
    have m8 : K1[K.length]? = some (.cells (trRow x) true false) := by rw [hK1]; exact at_new
    have hK1l : K1.length = K.length + 1 := by rw [hK1, List.length_append, List.length_singleton]
    rw [← hK1]
    clear hK1
    refine WF.res (a := []) (c := [.ptr c 0]) hA (hf x hmem hb K1 (eK.trans eK1)) ?_
    rintro _ g1 ⟨t, rfl, hfr⟩
    have eG : Ext K1 (K1 ++ g1) := Xx
    by_cases hz : E x = 0
    case neg =>
      have d1 : decide (E x ≠ 0) = true := decide_eq_true hz
      rw [if_neg hz] at herr
      have s4 : storeF 2 (.ptr b4 0) (.agg [.str [], .nilSlice]) (fun z => (K1 ++ g1)[z]?) = some (undefA, .set b4 (.cells (shC [] .nilSlice) true false)) := by
        rw [storeF_at ((eK1.trans eG).some m4)]; exact sh_st rfl
      have k4 : ((K1 ++ g1).set b4 (.cells (shC [] .nilSlice) true false))[b4]? = some (.cells (shC [] .nilSlice) true false) := set_eq' ((eK1.trans eG).some m4)
      have f4 := @loadF_at (some 2) b4 0 _ _ k4
      have l2 : ldB (some 2) 0 (.cells (shC [] .nilSlice) true false) = some (.agg [.str [], .nilSlice], .keep) := rfl
      refine Rs (A11 @t1 @t4 @t6 @t15 @t16 @t17 @d1 @bd0 @s4 @f4 @l2) ?_
      refine ⟨?_, _, by rw [herr], ?_⟩
      · have := ext_setG (X := .cells (shC [] .nilSlice) true false) (eK.trans (eK1.trans eG)) n4
        first | exact this | (rw [List.set_append_left _ _ (List.getElem?_eq_some_iff.1 (eK1.some m4)).1] at this; exact this)
      · rw [herr, if_neg hz]
    have d1 : decide (E x ≠ 0) = false := decide_eq_false fun z => z hz
    rw [if_pos hz] at herr
    have herr2 := herr
    have hfr := hfr hz
    have ot := hfr.isSl.one
    obtain ⟨y, hy⟩ : ∃ y : Trc, y = chgT G x := ⟨_, rfl⟩
    have hy1 : y = ⟨x.1.hd, x.1.hole, G x⟩ := by rw [hy]; unfold chgT; rw [if_neg hn]
    have s9 := st9 (v := t) (t := y) (eG.some m8) ot (by rw [hy1]) (by rw [hy1])
    have hfr : Fr K1.length (K1 ++ g1) t 1 (y.sm.map fltR) := by rw [hy1]; exact hfr
    obtain ⟨K2, hK2⟩ : ∃ K2, K2 = (K1 ++ g1).set K.length (.cells (trRow (y, t)) true false) := ⟨_, rfl⟩
    have hK2' : (K1.set K.length (.cells (trRow (y, t)) true false)) ++ g1 = K2 := by rw [hK2, List.set_append_left _ _ (by omega)]
    refine Rs (A9 @t1 @t4 @t6 @t15 @t16 @t17 @d1 @s9 @ot) ?_
    have eK2 : Ext K K2 := by rw [hK2]; exact ext_setG (eK1.trans eG) (Nat.le_refl _)
    have m8 : K2[K.length]? = some (.cells (trRow (y, t)) true false) := by rw [hK2]; exact set_eq' (eG.some m8)
    have f2 : Fr K1.length K2 t 1 (y.sm.map fltR) := by rw [hK2]; exact hfr.setn (hfr.notB (by omega))
    first | rw [hK2'] | rw [← hK2]
    clear hK2 hK2'
    have hK2l := eK2.len
    have gr := gr.ext eK2
    have l3 := @ldx _ _ _ gr.m
    have l8 := @ldx _ _ _ m8
    have l10 := @tr_l10 (y, t)
    have bs := @bsl_tr (y, t) ot
    refine Rs (A13 @t1 @t4 @t6 @t15 @t16 @t17 @l3 @l3v @l8 @l10 @oo @ot @bs) ?_
    refine ShGr.grow (x := (y, t)) gr (eK.trans eK2) hm (by omega) n6 q6 f2.isSl (gr0.fr.apart_fr f2 (by omega)).symm (fun c h1 h2 => f2.notB (by omega)) (by omega) ?_
    intro W out' eW hMW one' mW grW eS keepM keepc apn
    have s3 := sh_st1 mW one'
    have hlist : (L' ++ [(y, t)]).map Prod.fst = (L.take (k + 1)).map (chgT G) := by rw [htk, List.map_append, List.map_append, hL']; rw [show ([x] : List (Trc × AV)).map (chgT G) = [y] by rw [List.map_singleton, hy]]; rfl
    refine Rs (A9 @t1 @t4 @t6 @t15 @t16 @t17 @one' @s3 @e5) ?_
    exact ⟨L.length - (k + 1), by omega, k + 1, out', L' ++ [(y, t)], by omega, rfl, eS, by rw [List.length_set]; exact hMW, keepM b4 _ q4 n46 (eK2.some m4), grW, fun y' hy' => (List.mem_append.1 hy').elim (hN y') (fun q => by rw [List.mem_singleton.1 q]; exact .inr fun c hc => f2.notB (by omega)), hlist, herr2, rfl⟩
end
end Go.Abs
namespace Go.Abs

theorem grid_z0 : gridE 0 = 0 ∧ gridN 0 = 0 := by
  have := smpl_ok (n := 0) (by omega) (by omega)
  rw [show smpl 0 = 0 by unfold smpl; decide] at this
  exact this.2
/-- A list of samples at an index, 0 where there is none; moved by a number of places. -/
def atF (l : List Nat) (j : Int) : Nat := if 0 ≤ j then l.getD j.toNat 0 else 0
def shfF (l : List Nat) (n : Int) : List Nat := (List.range l.length).map fun i : Nat => atF l ((i : Int) + n)
theorem atF_grid (l : List Nat) (j : Int) : gridN (atF l j) = atZ (l.map gridN) j := by
  unfold atF atZ
  by_cases h : 0 ≤ j
  · rw [if_pos h, if_pos h, List.getD_eq_getElem?_getD, List.getD_eq_getElem?_getD, List.getElem?_map]
    cases l[j.toNat]? with
    | none => exact grid_z0.2
    | some x => rfl
  · rw [if_neg h, if_neg h]; exact grid_z0.2
theorem atF_ok {l : List Nat} (hl : ∀ b ∈ l, gridE b = 0) (j : Int) : gridE (atF l j) = 0 := by
  unfold atF
  by_cases h : 0 ≤ j
  · rw [if_pos h, List.getD_eq_getElem?_getD]
    cases hx : l[j.toNat]? with
    | none => exact grid_z0.1
    | some x => exact hl x (List.mem_of_getElem? hx)
  · rw [if_neg h]; exact grid_z0.1
theorem shfF_grid (l : List Nat) (n : Int) : (shfF l n).map gridN = shfL (l.map gridN) n := by
  unfold shfF shfL genL
  rw [List.map_map, List.length_map]
  exact List.map_congr_left fun i _ => atF_grid l _
theorem shfF_ok {l : List Nat} (hl : ∀ b ∈ l, gridE b = 0) (n : Int) : ∀ b ∈ shfF l n, gridE b = 0 := fun b hb => by
  unfold shfF at hb
  obtain ⟨i, _, rfl⟩ := List.mem_map.1 hb
  exact atF_ok hl _
theorem hdE_z {f : Nat → Int} (h : hdE f = 0) : 0 ≤ f 4 ∧ f 4 ≤ 100000 := by
  have := firstS_z h (rangeS (f 4) 0 100000) (by simp)
  exact rangeS_z.1 this
theorem chkTr_z {t : Trc} (h : chkTr t = 0) : hdE t.hd = 0 ∧ (t.hole = true → t.sm = []) ∧ chkL t.sm = 0 := by
  have q := firstS_z h
  refine ⟨q _ (by simp), fun hb => ?_, q _ (by simp)⟩
  have := q (whenS (t.hole && decide (0 < t.sm.length)) 24) (by simp)
  rw [hb, Bool.true_and] at this
  by_cases hl : 0 < t.sm.length
  · rw [decide_eq_true hl] at this; cases this
  · exact List.eq_nil_of_length_eq_zero (by omega)
theorem chkSh_z {nm : List UInt8} {L : List Trc} (h : chkSh nm L = 0) : nameS nm = true ∧ 0 < L.length ∧ L.length ≤ 64 ∧ ∀ t ∈ L, chkTr t = 0 := by
  have q := firstS_z h
  have q1 := q (whenS (!nameS nm) 8) (by simp)
  have q2 := q (whenS (decide (L.length = 0)) 12) (by simp)
  have q3 := q (whenS (decide (64 < L.length)) 5) (by simp)
  have q4 := q (firstS (L.map chkTr)) (by simp)
  refine ⟨?_, ?_, ?_, fun t ht => firstS_z q4 _ (List.mem_map_of_mem ht)⟩
  · cases hn : nameS nm with
    | true => rfl
    | false => rw [hn] at q1; cases q1
  · refine Nat.pos_of_ne_zero fun z => ?_
    rw [decide_eq_true z] at q2; cases q2
  · refine Nat.not_lt.1 fun z => ?_
    rw [decide_eq_true z] at q3; cases q3
noncomputable def eachE (t : List Int) (x : Trc × AV) : Int := if fitsB (apL t (x.1.sm.map gridN) (-1)) = true then 0 else 4
noncomputable def eachG (t : List Int) (x : Trc × AV) : List Nat := (apL t (x.1.sm.map gridN) (-1)).map smpl
noncomputable def corG (l : List (Int × Int)) (x : Trc × AV) : List Nat := (shfL (x.1.sm.map gridN) (corN l x.1.hd)).map smpl
theorem errL_zero {L : List (Trc × AV)} : errL (fun _ => 0) L = 0 := by
  unfold errL
  induction L with
  | nil => rfl
  | cons x r ih => rw [List.map_cons, firstS, if_pos (by split <;> rfl)]; exact ih
/-- What a changed shot is. -/
def ChgR (h : AHeap) (nm : List UInt8) (L : List (Trc × AV)) (G : Trc × AV → List Nat) (bad : Int) (r : AV) (e : Int) (ex : Int) : Prop := e = firstS [bad, ex] ∧ if e = 0 then ∃ (s' : AV) (L' : List (Trc × AV)), r = .agg [.str nm, s'] ∧ ShOk h L' s' ∧ L'.map Prod.fst = L.map (chgT G) else r = .agg [.str [], .nilSlice]
set_option maxRecDepth 10000
attribute [local irreducible] WP WC WE WB WR WF WL WG WRg WQ
section
variable {P : Program} (T : Tbl P) {h : AHeap}
include T
set_option maxHeartbeats 2000000 in
theorem q43 {s : AV} {l : List Int} (hs : IsSl h s 1 (l.map intRow)) (hl : l.length < 2 ^ 40) : RCall P 43 [s] h (fun v h' => ∃ (t : AV) (e : Int), v = .tup [t, .int .i64 e] ∧ if fitsB l = true then Fr h.length h' t 1 ((l.map smpl).map fltR) ∧ e = 0 else t = .nilSlice ∧ e = 4) := by
  refine .st1 26 T.mix T.c43 ?_;intro ts hlen t0;unfold fn43
  refine Rs @t0 ?_
  refine WL.inv T.mix (fun n ts K => ∃ (k : Nat) (t : AV), k ≤ l.length ∧ n = l.length - k ∧ Ext h K ∧ Fr h.length K t 1 (((l.take k).map smpl).map fltR) ∧ fitsB l = fitsB (l.drop k) ∧ ts.length = 26 ∧ slot ts 0 = s ∧ slot ts 4 = t ∧ slot ts 5 = .int .i64 k) l.length
    ⟨0, .nilSlice, by omega, rfl, .refl _, .nil, rfl, Sn, (Sq @t0), Sw, Swr⟩ ?_
  clear hlen t0
  rintro _ ts K ⟨k, t, hk, rfl, eK, hfr, hf, hlen, t0, t4, t5⟩
  have hsK := hs.ext eK
  by_cases hlt : k < l.length
  case neg =>
    have e3 := dltF hlt
    have e4 : k = l.length := by omega
    rw [e4, List.take_length] at hfr
    rw [e4, List.drop_length] at hf
    refine Rs (A5 @t0 @t4 @t5 hsK.lenm @e3) ?_
    exact ⟨eK, t, 0, rfl, by rw [if_pos (by rw [hf]; rfl)]; exact ⟨hfr, rfl⟩⟩
  have e3 := dltT hlt
  have e5 := wrapN (n := k) (by omega)
  have ix := hsK.ixm (kk := .i64) hlt
  rw [fitsB_drop hlt] at hf
  obtain ⟨x, hx⟩ : ∃ x, x = l[k] := ⟨_, rfl⟩
  have ld : ∀ {kk : AHeap}, Ext K kk → loadF none (elp s 1 k) (fun b => kk[b]?) = some (.int .i64 x, .keep) := fun {kk} e => by rw [hx]; exact hsK.l1m hlt rfl e
  have ot := hfr.isSl.one
  have htk : l.take (k + 1) = l.take k ++ [x] := by rw [hx]; exact List.take_succ_eq_append_getElem hlt
  rw [← hx] at hf
  refine Rs (A8 @t0 @t4 @t5 hsK.lenm @e3 @ix @ld @ot) ?_
  refine WF.ce T.c112 (r112 T x) fun g1 => ?_
  cases hfx : fitB x with
  | false =>
    rw [hfx, Bool.false_and] at hf
    refine Rs (A4 @t0 @t4 @t5 @Bool.not_false) ?_
    exact ⟨eK.trans ⟨g1, rfl⟩, .nilSlice, 4, rfl, by rw [if_neg (by rw [hf]; simp)]; exact ⟨rfl, rfl⟩⟩
  | true =>
    rw [hfx, Bool.true_and] at hf
    have ld : ∀ {kk : AHeap}, Ext (K ++ g1) kk → loadF none (elp s 1 k) (fun b => kk[b]?) = some (.int .i64 x, .keep) := fun {kk} e => ld ((show Ext K (K ++ g1) from ⟨_, rfl⟩).trans e)
    refine Rs (A7 @t0 @t4 @t5 @ix @ld @ot @Bool.not_true) ?_
    refine WF.ce T.c133 (r133 T (fitB_t hfx).1 (fitB_t hfx).2) fun g2 => ?_
    have bs : ∀ {N : Nat}, bslF 1 1 (fillA [.flt .f32 0] [(0, 1, .flt .f32 (smpl x))]) N = some (.slice N 0 1 1, .push (.cells [.flt .f32 (smpl x)] true true)) := fun {N} => rfl
    refine Rs (A5 @t0 @t4 @t5 @ot @bs) ?_
    refine WR.appR (B := h) (cs := ((l.take k).map smpl).map fltR) (z := fltR (smpl x)) ((hfr.app _).app _) rfl (eK.trans (Ext.trans ⟨g1, rfl⟩ ⟨g2, rfl⟩)) (by decide) (by rw [List.length_map, List.length_map, List.length_take]; omega) ?_
    intro W5 s' x5 hff q5
    have hrow : ((l.take k).map smpl).map fltR ++ [fltR (smpl x)] = ((l.take (k + 1)).map smpl).map fltR := by rw [htk, List.map_append, List.map_append]; rfl
    rw [hrow] at hff
    refine Rs (A5 @t0 @t4 @t5 @q5 @e5) ?_
    exact ⟨l.length - (k + 1), by omega, k + 1, s', by omega, rfl, x5, hff, hf, rfl, rfl⟩
set_option maxHeartbeats 8000000 in
theorem r90 (rg : Rng h) {nm : List UInt8} {s s0 : AV} {L : List (Trc × AV)} {t : List Int} (o : ShOk h L s) (z : ShSz L) (zl : L.length < 2 ^ 38) (h0 : IsSl h s0 1 (t.map intRow)) (hl0 : t.length < 2 ^ 40) : RCall P 90 [.agg [.str nm, s], s0] h (fun v h' => ∃ (r : AV) (e : Int), v = .tup [r, .int .i64 e] ∧ ChgR h' nm L (eachG t) (firstS [chkSh nm (L.map Prod.fst), chkTp t]) r e (errL (eachE t) L)) := by
  refine .st2 22 T.mix T.c90 ?_;intro ts hlen t0 t1;unfold fn90
  have bx := @sh_box nm s o.sl.one
  have o0 := h0.one
  have b0 : ∀ {N : Nat}, boxF s0 N = some (.ptr N 0, .push (.cells [s0] true false)) := fun {N} => by
    unfold boxF
    rw [h0.cells, if_pos (by simp only [List.all_cons, List.all_nil, o0]; rfl)]
  have bz : ∀ {N : Nat}, boxF (.agg [.str [], .nilSlice]) N = some (.ptr N 0, .push (.cells (shC [] .nilSlice) true false)) := fun {N} => rfl
  have l2 := @sh_l2 nm s
  have bd0 : fillA [.str [], .nilSlice] [] = some [.str [], .nilSlice] := rfl
  refine Rs (A5 @t0 @t1 @bx @b0 @bz) ?_
  obtain ⟨Y, hY⟩ : ∃ Y, Y = h ++ [ABlk.cells (shC nm s) true false] ++ [ABlk.cells [s0] true false] ++ [ABlk.cells (shC [] .nilSlice) true false] := ⟨_, rfl⟩
  have eY : Ext h Y := by rw [hY]; exact Xx
  have m2 : Y[h.length]? = some (.cells (shC nm s) true false) := by rw [hY]; exact at_2
  have m3 : Y[(h ++ [ABlk.cells (shC nm s) true false]).length]? = some (.cells [s0] true false) := by rw [hY]; exact at_1
  have m4 : Y[(h ++ [ABlk.cells (shC nm s) true false] ++ [ABlk.cells [s0] true false]).length]? = some (.cells (shC [] .nilSlice) true false) := by rw [hY]; exact at_new
  obtain ⟨b2, hb2⟩ : ∃ b, b = h.length := ⟨_, rfl⟩
  obtain ⟨b3, hb3⟩ : ∃ b, b = (h ++ [ABlk.cells (shC nm s) true false]).length := ⟨_, rfl⟩
  obtain ⟨b4, hb4⟩ : ∃ b, b = (h ++ [ABlk.cells (shC nm s) true false] ++ [ABlk.cells [s0] true false]).length := ⟨_, rfl⟩
  have n4 : h.length ≤ b4 := by rw [hb4]; simp only [List.length_append]; omega
  rw [← hb2] at m2
  rw [← hb3] at m3
  rw [← hb4] at m4
  rw [← hY, ← hb2, ← hb3, ← hb4]
  clear hY hb2 hb3 hb4
  have i2 := @ldx _ _ _ m2
  have i3 : ∀ {k : AHeap}, Ext Y k → loadF none (.ptr b3 0) (fun z => k[z]?) = some (s0, .keep) := fun {k} e => by rw [loadF_at (e.some m3)]; rfl
  refine Rs (A4 @t0 @t1 @i2 @l2) ?_
  refine WF.ce T.c159 (r159 T (rg.ext eY) (o.ext eY) z) fun g1 => ?_
  refine Rs (A4 @t0 @t1 @i3 @o0) ?_
  refine WF.ce T.c34 (r34 T ((h0.ext eY).ext Xx) hl0) fun g2 => ?_
  refine Rs (A2 @t0 @t1) ?_
  refine WF.ce T.c116 (r116 T (isSl_ints [_, _]) (by simp)) fun g3 => ?_
  obtain ⟨bad, hbad⟩ : ∃ bad, bad = firstS [chkSh nm (L.map Prod.fst), chkTp t] := ⟨_, rfl⟩
  obtain ⟨K1, hK1⟩ : ∃ K, K = Y ++ g1 ++ g2 ++ [ABlk.cells [AV.int .i64 (chkSh nm (L.map Prod.fst)), AV.int .i64 (chkTp t)] true true] ++ g3 := ⟨_, rfl⟩
  have f1 : Ext Y K1 := by rw [hK1]; exact Xx
  rw [← hbad, ← hK1]
  clear hK1
  by_cases hz : bad = 0
  case neg =>
    have d1 : decide (bad ≠ 0) = true := decide_eq_true hz
    have s4 : storeF 2 (.ptr b4 0) (.agg [.str [], .nilSlice]) (fun z => K1[z]?) = some (undefA, .set b4 (.cells (shC [] .nilSlice) true false)) := by
      rw [storeF_at (f1.some m4)]; exact sh_st rfl
    have k4 : (K1.set b4 (.cells (shC [] .nilSlice) true false))[b4]? = some (.cells (shC [] .nilSlice) true false) := set_eq' (f1.some m4)
    have f4 := @loadF_at (some 2) b4 0 _ _ k4
    have l4 : ldB (some 2) 0 (.cells (shC [] .nilSlice) true false) = some (.agg [.str [], .nilSlice], .keep) := rfl
    refine Rs (A7 @t0 @t1 @d1 @bd0 @s4 @f4 @l4) ?_
    refine ⟨ext_setG (eY.trans f1) n4, _, _, rfl, ?_⟩
    unfold ChgR
    rw [firstS, if_neg hz, if_neg hz]
    exact ⟨rfl, rfl⟩
  have d1 : decide (bad ≠ 0) = false := decide_eq_false fun z => z hz
  obtain ⟨c1, c2⟩ := first2 (hbad.symm.trans hz)
  obtain ⟨_, _, _, hct⟩ := chkSh_z c1
  have ht := chkTp_z c2
  have i2 := @ldx _ _ _ (f1.some m2)
  refine Rs (A5 @t0 @t1 @d1 @i2 @l2) ?_
  refine WF.res T.c160 (r160 T (o.ext (eY.trans f1)) zl T.c162 (c := b3) (E := eachE t) (G := eachG t) (fun x hx hb k ek => ?_)) ?_
  · have hcx := chkTr_z (hct x.1 (List.mem_map_of_mem hx))
    have ekh := eY.trans (f1.trans ek)
    refine (r162 T (b := b3) (s0 := s0) (t := t) ((f1.trans ek).some m3) (h0.ext ekh) ht ((o.all x hx).ext ekh) hcx.2.2).mono ?_
    rintro _ _ ⟨w, e, rfl, hw⟩
    by_cases hf : fitsB (apL t (x.1.sm.map gridN) (-1)) = true
    · rw [if_pos hf] at hw
      obtain ⟨hw, rfl⟩ := hw
      have e0 : eachE t x = 0 := if_pos hf
      exact ⟨w, by rw [e0], fun _ => hw⟩
    · rw [if_neg hf] at hw
      obtain ⟨rfl, rfl⟩ := hw
      have e0 : eachE t x = 4 := if_neg hf
      exact ⟨.nilSlice, by rw [e0], fun q => by rw [e0] at q; cases q⟩
  rintro _ g4 ⟨r, rfl, hr⟩
  obtain ⟨ex, hex⟩ : ∃ ex, ex = errL (eachE t) L := ⟨_, rfl⟩
  rw [← hex] at hr ⊢
  have eg : Ext K1 (K1 ++ g4) := ⟨g4, rfl⟩
  have fin : firstS [bad, ex] = ex := by
    rw [hz]
    show (if (0 : Int) = 0 then (if ex = 0 then 0 else ex) else 0) = ex
    rw [if_pos rfl]
    by_cases q : ex = 0
    · rw [if_pos q, q]
    · rw [if_neg q]
  by_cases hq : ex = 0
  · rw [if_pos hq] at hr
    obtain ⟨s', L', rfl, ok', hl', hn1, hn2⟩ := hr
    have b4K : b4 < K1.length := (List.getElem?_eq_some_iff.1 (f1.some m4)).1
    have okS : ShOk ((K1 ++ g4).set b4 (.cells (shC nm s') true false)) L' s' := ⟨ok'.sl.setb (hn1 b4 b4K), fun y hy => (ok'.all y hy).setb ((hn2 y hy).elim (fun ⟨x, hx, q⟩ => by rw [q]; exact (o.all x hx).notB n4) fun q => q b4 b4K)⟩
    have eS : Ext h ((K1 ++ g4).set b4 (.cells (shC nm s') true false)) := ext_setG (eY.trans (f1.trans eg)) n4
    have s4 : storeF 2 (.ptr b4 0) (.agg [.str nm, s']) (fun z => (K1 ++ g4)[z]?) = some (undefA, .set b4 (.cells (shC nm s') true false)) := by
      rw [storeF_at ((f1.trans eg).some m4)]; exact sh_st ok'.sl.one
    have k4 : ((K1 ++ g4).set b4 (.cells (shC nm s') true false))[b4]? = some (.cells (shC nm s') true false) := set_eq' ((f1.trans eg).some m4)
    have f4 := @loadF_at (some 2) b4 0 _ _ k4
    have l4 := @sh_l2 nm s'
    have hsw : K1.set b4 (.cells (shC nm s') true false) ++ g4 = (K1 ++ g4).set b4 (.cells (shC nm s') true false) := by rw [List.set_append_left _ _ (List.getElem?_eq_some_iff.1 (f1.some m4)).1]
    refine Rs (A5 @t0 @t1 @s4 @f4 @l4) ?_
    rw [hsw]
    refine ⟨eS, _, _, rfl, ?_⟩
    unfold ChgR
    rw [fin, if_pos hq]
    exact ⟨rfl, s', L', rfl, okS, hl'⟩
  · rw [if_neg hq] at hr
    subst hr
    have s4 : storeF 2 (.ptr b4 0) (.agg [.str [], .nilSlice]) (fun z => (K1 ++ g4)[z]?) = some (undefA, .set b4 (.cells (shC [] .nilSlice) true false)) := by
      rw [storeF_at ((f1.trans eg).some m4)]; exact sh_st rfl
    have k4 : ((K1 ++ g4).set b4 (.cells (shC [] .nilSlice) true false))[b4]? = some (.cells (shC [] .nilSlice) true false) := set_eq' ((f1.trans eg).some m4)
    have f4 := @loadF_at (some 2) b4 0 _ _ k4
    have l4 := @sh_l2 [] .nilSlice
    refine Rs (A5 @t0 @t1 @s4 @f4 @l4) ?_
    refine ⟨?_, _, _, rfl, ?_⟩
    · have := ext_setG (X := .cells (shC [] .nilSlice) true false) (eY.trans (f1.trans eg)) n4
      first | exact this | (rw [List.set_append_left _ _ (List.getElem?_eq_some_iff.1 (f1.some m4)).1] at this; exact this)
    · unfold ChgR
      rw [fin, if_neg hq]
      exact ⟨rfl, rfl⟩
set_option maxHeartbeats 8000000 in
theorem r88 (rg : Rng h) {nm : List UInt8} {s s0 : AV} {L : List (Trc × AV)} {l : List (Int × Int)} (o : ShOk h L s) (z : ShSz L) (zl : L.length < 2 ^ 38) (h0 : IsSl h s0 2 (l.map ratR)) (hl0 : l.length < 2 ^ 40) : RCall P 88 [.agg [.str nm, s], s0] h (fun v h' => ∃ (r : AV) (e : Int), v = .tup [r, .int .i64 e] ∧ ChgR h' nm L (corG l) (firstS [chkSh nm (L.map Prod.fst), chkTs l]) r e (errL (fun _ => 0) L)) := by
  refine .st2 22 T.mix T.c88 ?_;intro ts hlen t0 t1;unfold fn88
  have bx := @sh_box nm s o.sl.one
  have o0 := h0.one
  have b0 : ∀ {N : Nat}, boxF s0 N = some (.ptr N 0, .push (.cells [s0] true false)) := fun {N} => by
    unfold boxF
    rw [h0.cells, if_pos (by simp only [List.all_cons, List.all_nil, o0]; rfl)]
  have bz : ∀ {N : Nat}, boxF (.agg [.str [], .nilSlice]) N = some (.ptr N 0, .push (.cells (shC [] .nilSlice) true false)) := fun {N} => rfl
  have l2 := @sh_l2 nm s
  have bd0 : fillA [.str [], .nilSlice] [] = some [.str [], .nilSlice] := rfl
  refine Rs (A5 @t0 @t1 @bx @b0 @bz) ?_
  obtain ⟨Y, hY⟩ : ∃ Y, Y = h ++ [ABlk.cells (shC nm s) true false] ++ [ABlk.cells [s0] true false] ++ [ABlk.cells (shC [] .nilSlice) true false] := ⟨_, rfl⟩
  have eY : Ext h Y := by rw [hY]; exact Xx
  have m2 : Y[h.length]? = some (.cells (shC nm s) true false) := by rw [hY]; exact at_2
  have m3 : Y[(h ++ [ABlk.cells (shC nm s) true false]).length]? = some (.cells [s0] true false) := by rw [hY]; exact at_1
  have m4 : Y[(h ++ [ABlk.cells (shC nm s) true false] ++ [ABlk.cells [s0] true false]).length]? = some (.cells (shC [] .nilSlice) true false) := by rw [hY]; exact at_new
  obtain ⟨b2, hb2⟩ : ∃ b, b = h.length := ⟨_, rfl⟩
  obtain ⟨b3, hb3⟩ : ∃ b, b = (h ++ [ABlk.cells (shC nm s) true false]).length := ⟨_, rfl⟩
  obtain ⟨b4, hb4⟩ : ∃ b, b = (h ++ [ABlk.cells (shC nm s) true false] ++ [ABlk.cells [s0] true false]).length := ⟨_, rfl⟩
  have n4 : h.length ≤ b4 := by rw [hb4]; simp only [List.length_append]; omega
  rw [← hb2] at m2
  rw [← hb3] at m3
  rw [← hb4] at m4
  rw [← hY, ← hb2, ← hb3, ← hb4]
  clear hY hb2 hb3 hb4
  have i2 := @ldx _ _ _ m2
  have i3 : ∀ {k : AHeap}, Ext Y k → loadF none (.ptr b3 0) (fun z => k[z]?) = some (s0, .keep) := fun {k} e => by rw [loadF_at (e.some m3)]; rfl
  refine Rs (A4 @t0 @t1 @i2 @l2) ?_
  refine WF.ce T.c159 (r159 T (rg.ext eY) (o.ext eY) z) fun g1 => ?_
  refine Rs (A4 @t0 @t1 @i3 @o0) ?_
  refine WF.ce T.c56 (r56 T ((h0.ext eY).ext Xx) hl0) fun g2 => ?_
  refine Rs (A2 @t0 @t1) ?_
  refine WF.ce T.c116 (r116 T (isSl_ints [_, _]) (by simp)) fun g3 => ?_
  obtain ⟨bad, hbad⟩ : ∃ bad, bad = firstS [chkSh nm (L.map Prod.fst), chkTs l] := ⟨_, rfl⟩
  obtain ⟨K1, hK1⟩ : ∃ K, K = Y ++ g1 ++ g2 ++ [ABlk.cells [AV.int .i64 (chkSh nm (L.map Prod.fst)), AV.int .i64 (chkTs l)] true true] ++ g3 := ⟨_, rfl⟩
  have f1 : Ext Y K1 := by rw [hK1]; exact Xx
  rw [← hbad, ← hK1]
  clear hK1
  by_cases hz : bad = 0
  case neg =>
    have d1 : decide (bad ≠ 0) = true := decide_eq_true hz
    have s4 : storeF 2 (.ptr b4 0) (.agg [.str [], .nilSlice]) (fun z => K1[z]?) = some (undefA, .set b4 (.cells (shC [] .nilSlice) true false)) := by
      rw [storeF_at (f1.some m4)]; exact sh_st rfl
    have k4 : (K1.set b4 (.cells (shC [] .nilSlice) true false))[b4]? = some (.cells (shC [] .nilSlice) true false) := set_eq' (f1.some m4)
    have f4 := @loadF_at (some 2) b4 0 _ _ k4
    have l4 : ldB (some 2) 0 (.cells (shC [] .nilSlice) true false) = some (.agg [.str [], .nilSlice], .keep) := rfl
    refine Rs (A7 @t0 @t1 @d1 @bd0 @s4 @f4 @l4) ?_
    refine ⟨ext_setG (eY.trans f1) n4, _, _, rfl, ?_⟩
    unfold ChgR
    rw [firstS, if_neg hz, if_neg hz]
    exact ⟨rfl, rfl⟩
  have d1 : decide (bad ≠ 0) = false := decide_eq_false fun z => z hz
  obtain ⟨c1, c2⟩ := first2 (hbad.symm.trans hz)
  obtain ⟨_, _, _, hct⟩ := chkSh_z c1
  obtain ⟨ht, ht1, ht2⟩ := chkTs_z c2
  have i2 := @ldx _ _ _ (f1.some m2)
  refine Rs (A5 @t0 @t1 @d1 @i2 @l2) ?_
  refine WF.res T.c160 (r160 T (o.ext (eY.trans f1)) zl T.c161 (c := b3) (E := fun _ => 0) (G := corG l) (fun x hx hb k ek => ?_)) ?_
  · have hcx := chkTr_z (hct x.1 (List.mem_map_of_mem hx))
    have ekh := eY.trans (f1.trans ek)
    refine (r161 T (b := b3) (s0 := s0) (l := l) ((f1.trans ek).some m3) (h0.ext ekh) ht ht1 ht2 ((o.all x hx).ext ekh) hcx.2.2 (hdE_z hcx.1)).mono ?_
    rintro _ _ ⟨w, rfl, hw⟩
    exact ⟨w, rfl, fun _ => hw⟩
  rintro _ g4 ⟨r, rfl, hr⟩
  obtain ⟨ex, hex⟩ : ∃ ex, ex = errL (fun _ => 0) L := ⟨_, rfl⟩
  rw [← hex] at hr ⊢
  have eg : Ext K1 (K1 ++ g4) := ⟨g4, rfl⟩
  have fin : firstS [bad, ex] = ex := by
    rw [hz]
    show (if (0 : Int) = 0 then (if ex = 0 then 0 else ex) else 0) = ex
    rw [if_pos rfl]
    by_cases q : ex = 0
    · rw [if_pos q, q]
    · rw [if_neg q]
  by_cases hq : ex = 0
  · rw [if_pos hq] at hr
    obtain ⟨s', L', rfl, ok', hl', hn1, hn2⟩ := hr
    have b4K : b4 < K1.length := (List.getElem?_eq_some_iff.1 (f1.some m4)).1
    have okS : ShOk ((K1 ++ g4).set b4 (.cells (shC nm s') true false)) L' s' := ⟨ok'.sl.setb (hn1 b4 b4K), fun y hy => (ok'.all y hy).setb ((hn2 y hy).elim (fun ⟨x, hx, q⟩ => by rw [q]; exact (o.all x hx).notB n4) fun q => q b4 b4K)⟩
    have eS : Ext h ((K1 ++ g4).set b4 (.cells (shC nm s') true false)) := ext_setG (eY.trans (f1.trans eg)) n4
    have s4 : storeF 2 (.ptr b4 0) (.agg [.str nm, s']) (fun z => (K1 ++ g4)[z]?) = some (undefA, .set b4 (.cells (shC nm s') true false)) := by
      rw [storeF_at ((f1.trans eg).some m4)]; exact sh_st ok'.sl.one
    have k4 : ((K1 ++ g4).set b4 (.cells (shC nm s') true false))[b4]? = some (.cells (shC nm s') true false) := set_eq' ((f1.trans eg).some m4)
    have f4 := @loadF_at (some 2) b4 0 _ _ k4
    have l4 := @sh_l2 nm s'
    have hsw : K1.set b4 (.cells (shC nm s') true false) ++ g4 = (K1 ++ g4).set b4 (.cells (shC nm s') true false) := by rw [List.set_append_left _ _ (List.getElem?_eq_some_iff.1 (f1.some m4)).1]
    refine Rs (A5 @t0 @t1 @s4 @f4 @l4) ?_
    rw [hsw]
    refine ⟨eS, _, _, rfl, ?_⟩
    unfold ChgR
    rw [fin, if_pos hq]
    exact ⟨rfl, s', L', rfl, okS, hl'⟩
  · rw [if_neg hq] at hr
    subst hr
    have s4 : storeF 2 (.ptr b4 0) (.agg [.str [], .nilSlice]) (fun z => (K1 ++ g4)[z]?) = some (undefA, .set b4 (.cells (shC [] .nilSlice) true false)) := by
      rw [storeF_at ((f1.trans eg).some m4)]; exact sh_st rfl
    have k4 : ((K1 ++ g4).set b4 (.cells (shC [] .nilSlice) true false))[b4]? = some (.cells (shC [] .nilSlice) true false) := set_eq' ((f1.trans eg).some m4)
    have f4 := @loadF_at (some 2) b4 0 _ _ k4
    have l4 := @sh_l2 [] .nilSlice
    refine Rs (A5 @t0 @t1 @s4 @f4 @l4) ?_
    refine ⟨?_, _, _, rfl, ?_⟩
    · have := ext_setG (X := .cells (shC [] .nilSlice) true false) (eY.trans (f1.trans eg)) n4
      first | exact this | (rw [List.set_append_left _ _ (List.getElem?_eq_some_iff.1 (f1.some m4)).1] at this; exact this)
    · unfold ChgR
      rw [fin, if_neg hq]
      exact ⟨rfl, rfl⟩
end
end Go.Abs
namespace Go.Abs

theorem IsSl.keepA {K K' : AHeap} {s out : AV} {es : Nat} {cs : List (List AV)} (o : IsSl K s es cs) (ap : Apart s out) (kp : ∀ b, (∀ b0 o n e, out = .slice b0 o n e → b ≠ b0) → K'[b]? = K[b]?) : IsSl K' s es cs := by
  cases o with
  | nil => exact .nil
  | mk hb hf ho he => exact .mk ((kp _ fun b0 o2 n2 e2 q => ap _ _ _ _ _ _ _ _ rfl q).trans hb) hf ho he
theorem Fr.keepA {N : Nat} {K K' : AHeap} {s out : AV} {es : Nat} {cs : List (List AV)} (o : Fr N K s es cs) (ap : Apart s out) (kp : ∀ b, (∀ b0 o n e, out = .slice b0 o n e → b ≠ b0) → K'[b]? = K[b]?) : Fr N K' s es cs := by
  cases o with
  | nil => exact .nil
  | mk hN hb he => exact .mk hN ((kp _ fun b0 o2 n2 e2 q => ap _ _ _ _ _ _ _ _ rfl q).trans hb) he
theorem getA {K K' : AHeap} {out : AV} {b : Nat} {k : ABlk} (hb : K[b]? = some k) (nb : NotB b out) (kp : ∀ b, (∀ b0 o n e, out = .slice b0 o n e → b ≠ b0) → K'[b]? = K[b]?) : K'[b]? = some k := (kp b fun b0 o n e q z => nb b0 o n e q z.symm).trans hb
theorem set_td {α : Type} {A B : List α} (hl : A.length = B.length) {k : Nat} (hk : k < A.length) {x : α} (hx : x = A[k]) : (A.take k ++ B.drop k).set k x = A.take (k + 1) ++ B.drop (k + 1) := by
  have h1 : (A.take k).length = k := by rw [List.length_take]; omega
  rw [List.set_append_right _ _ (by omega), h1, Nat.sub_self, List.drop_eq_getElem_cons (by omega), List.set_cons_zero, List.take_succ_eq_append_getElem hk, hx, List.append_assoc]
  rfl
/-- Traces with other samples, in the same slices. -/
def zwT (f : Trc → Trc) (L L0 : List (Trc × AV)) : List (Trc × AV) := List.zipWith (fun a y => (f a.1, y.2)) L L0
theorem zwT_fst {f : Trc → Trc} {L L0 : List (Trc × AV)} (hl : L.length = L0.length) : (zwT f L L0).map Prod.fst = L.map fun x => f x.1 := by
  refine List.ext_getElem (by simp [zwT, hl]) fun i h1 h2 => ?_
  simp [zwT]
theorem zwT_row {f : Trc → Trc} {L L0 : List (Trc × AV)} (hf : L0.map Prod.fst = L.map Prod.fst) (hh : ∀ t, (f t).hd = t.hd ∧ (f t).hole = t.hole) : (zwT f L L0).map trRow = L0.map trRow := by
  have hl : L0.length = L.length := by have := congrArg List.length hf; simpa using this
  refine List.ext_getElem (by simp [zwT, hl]) fun i h1 h2 => ?_
  have h3 : i < L0.length := by simpa using h2
  have h4 : i < L.length := by omega
  have e : L0[i].1 = L[i].1 := by
    have h5 : (L0.map Prod.fst)[i]'(by simpa using h3) = (L.map Prod.fst)[i]'(by simpa using h4) := by simp only [hf]
    simpa using h5
  obtain ⟨q1, q2⟩ := hh L[i].1
  simp only [zwT, List.getElem_map, List.getElem_zipWith]
  simp only [trRow, q1, q2, e]
theorem zwT_mem {f : Trc → Trc} {L L0 : List (Trc × AV)} {y : Trc × AV} (h : y ∈ zwT f L L0) : ∃ (i : Nat) (h1 : i < L.length) (h2 : i < L0.length), y = (f L[i].1, L0[i].2) := by
  obtain ⟨i, hi, rfl⟩ := List.mem_iff_getElem.1 h
  have h1 : i < L.length := by simp [zwT] at hi; omega
  have h2 : i < L0.length := by simp [zwT] at hi; omega
  exact ⟨i, h1, h2, by simp [zwT]⟩
theorem fst_at {L L0 : List (Trc × AV)} (hf : L0.map Prod.fst = L.map Prod.fst) {i : Nat} (h1 : i < L.length) (h2 : i < L0.length) : L0[i].1 = L[i].1 := by
  have h5 : (L0.map Prod.fst)[i]'(by simpa using h2) = (L.map Prod.fst)[i]'(by simpa using h1) := by simp only [hf]
  simpa using h5
noncomputable def eacT (t : List Int) (x : Trc) : Trc := ⟨x.hd, x.hole, (apL t (x.sm.map gridN) (-1)).map smpl⟩
def corT (l : List (Int × Int)) (t : Trc) : Trc := ⟨t.hd, t.hole, shfF t.sm (corN l t.hd)⟩
theorem shfF_len (l : List Nat) (n : Int) : (shfF l n).length = l.length := by simp [shfF]
set_option maxRecDepth 10000
attribute [local irreducible] WP WC WE WB WR WF WL WG WRg WQ
section
variable {P : Program} (T : Tbl P) {h : AHeap}
include T
set_option maxHeartbeats 8000000 in
theorem r92 {nm : List UInt8} {s s0 : AV} {L : List (Trc × AV)} {l : List (Int × Int)} (o : ShOk h L s) (zl : L.length < 2 ^ 38) (z : ShSz L) (h0 : IsSl h s0 2 (l.map ratR)) (ok : TdOk l) (h1 : 1 ≤ l.length) (hl16 : l.length ≤ 16) (hc : ∀ x ∈ L, chkTr x.1 = 0) : RCall P 92 [.agg [.str nm, s], s0] h (fun v h' => ∃ (s' : AV) (L' : List (Trc × AV)), v = .agg [.str nm, s'] ∧ ShOk h' L' s' ∧ L'.map Prod.fst = L.map (fun x => corT l x.1) ∧ (∀ c, c < h.length → NotB c s') ∧ ∀ y ∈ L', ∀ c, c < h.length → NotB c y.2) := by
  refine .st2 79 T.mix T.c92 ?_;intro ts hlen t0 t1;unfold fn92
  have bx := @sh_box nm s o.sl.one
  have o0 := h0.one
  have bz : ∀ {N : Nat}, boxF (.agg [.str [], .nilSlice]) N = some (.ptr N 0, .push (.cells (shC [] .nilSlice) true false)) := fun {N} => rfl
  have l2 := @sh_l2 nm s
  have ls : ldV (shC nm s)[1]? = some (s, .keep) := rfl
  refine Rs (A5 @t0 @t1 @bx @bz @l2) ?_
  obtain ⟨H1, hH1⟩ : ∃ H1, H1 = h ++ [ABlk.cells (shC nm s) true false] ++ [ABlk.cells (shC [] .nilSlice) true false] := ⟨_, rfl⟩
  have eH1 : Ext h H1 := by rw [hH1]; exact Xx
  have m2 : H1[h.length]? = some (.cells (shC nm s) true false) := by rw [hH1]; exact at_1
  have m4 : H1[(h ++ [ABlk.cells (shC nm s) true false]).length]? = some (.cells (shC [] .nilSlice) true false) := by rw [hH1]; exact at_new
  obtain ⟨b2, hb2⟩ : ∃ b, b = h.length := ⟨_, rfl⟩
  obtain ⟨b4, hb4⟩ : ∃ b, b = (h ++ [ABlk.cells (shC nm s) true false]).length := ⟨_, rfl⟩
  have n2 : h.length ≤ b2 := by omega
  have n4 : h.length ≤ b4 := by rw [hb4]; simp only [List.length_append]; omega
  have q2 : b2 < H1.length := by rw [hb2]; exact (List.getElem?_eq_some_iff.1 m2).1
  have q4 : b4 < H1.length := by rw [hb4]; exact (List.getElem?_eq_some_iff.1 m4).1
  rw [← hb2] at m2
  rw [← hb4] at m4
  rw [← hH1, ← hb2, ← hb4]
  clear hH1 hb4
  refine WF.res T.c166 (r166 T (o.ext eH1) z zl) ?_
  rintro _ g1 ⟨out, L0, rfl, ow, hf0⟩
  obtain ⟨H2, hH2⟩ : ∃ H2, H2 = H1 ++ g1 := ⟨_, rfl⟩
  have e12 : Ext H1 H2 := by rw [hH2]; exact Xx
  rw [← hH2] at ow ⊢
  clear hH2
  have oo := ow.fr.isSl.one
  have hl0 : L0.length = L.length := by have := congrArg List.length hf0; simpa using this
  have st5 : ∀ {n : Nat}, stB 2 0 (.agg [.str nm, out]) n (.cells (shC [] .nilSlice) true false) = some (undefA, .set n (.cells (shC nm out) true false)) := fun {n} => sh_st oo
  obtain ⟨Y, hY⟩ : ∃ Y, Y = H2 ++ [ABlk.cells (shC nm out) true false] := ⟨_, rfl⟩
  have e2Y : Ext H2 Y := by rw [hY]; exact Xx
  have m5 : Y[H2.length]? = some (.cells (shC nm out) true false) := by rw [hY]; exact at_new
  refine Rs (A5 @t0 @t1 @bz @st5 @oo) ?_
  obtain ⟨b5, hb5⟩ : ∃ b, b = H2.length := ⟨_, rfl⟩
  rw [← hb5] at m5
  rw [← hY, ← hb5]
  clear hY
  have n5 : h.length ≤ b5 := by rw [hb5]; exact Nat.le_trans eH1.len e12.len
  have bo2 : NotB b2 out := ow.fr.notB q2
  have bo4 : NotB b4 out := ow.fr.notB q4
  have bo5 : NotB b5 out := ow.fr.isSl.notB (by omega)
  have bv2 : ∀ j (hj : j < L0.length), NotB b2 L0[j].2 := fun j hj => (ow.all _ (List.getElem_mem hj)).notB q2
  have bv4 : ∀ j (hj : j < L0.length), NotB b4 L0[j].2 := fun j hj => (ow.all _ (List.getElem_mem hj)).notB q4
  have bv5 : ∀ j (hj : j < L0.length), NotB b5 L0[j].2 := fun j hj => (ow.all _ (List.getElem_mem hj)).isSl.notB (by omega)
  have apo : ∀ j (hj : j < L0.length), Apart L0[j].2 out := fun j hj => ow.ns _ (List.getElem_mem hj)
  have apv : ∀ i j (hi : i < L0.length) (hj : j < L0.length), i ≠ j → Apart L0[i].2 L0[j].2 := fun i j hi hj hij => by
    have pw := List.pairwise_iff_getElem.1 ow.pw
    rcases Nat.lt_or_gt_of_ne hij with q | q
    · have := pw i j (by simpa using hi) (by simpa using hj) q
      simpa using this
    · have := pw j i (by simpa using hj) (by simpa using hi) q
      have := this.symm
      simpa using this
  have e1Y := e12.trans e2Y
  have eY : Ext h Y := eH1.trans e1Y
  have hfr : Fr h.length Y out 10 (L0.map trRow) := (ow.fr.ext e2Y).low eH1.len
  have hall : ∀ j (hj : j < L0.length) (hi : j < L.length), Fr h.length Y L0[j].2 1 (L[j].1.sm.map fltR) := fun j hj hi => by
    have := ((ow.all _ (List.getElem_mem hj)).ext e2Y).low eH1.len
    rw [fst_at hf0 hi hj] at this
    exact this
  have m2 := e1Y.some m2
  have m4 := e1Y.some m4
  clear ow hb5 e12 e2Y
  refine WL.inv T.mix (fun n ts K => ∃ i : Nat, i ≤ L.length ∧ n = L.length - i ∧ Ext h K ∧ K[b2]? = some (.cells (shC nm s) true false) ∧ K[b4]? = some (.cells (shC [] .nilSlice) true false) ∧ K[b5]? = some (.cells (shC nm out) true false) ∧ Fr h.length K out 10 (L0.map trRow) ∧ (∀ j (hj : j < L0.length) (hi : j < L.length), Fr h.length K L0[j].2 1 ((if j < i then (corT l L[j].1).sm else L[j].1.sm).map fltR)) ∧ ts.length = 79 ∧ slot ts 1 = s0 ∧ slot ts 2 = .ptr b2 0 ∧ slot ts 4 = .ptr b4 0 ∧ slot ts 5 = .ptr b5 0 ∧ slot ts 6 = .int .i64 i) L.length
    ⟨0, by omega, rfl, eY, m2, m4, m5, hfr, (fun j hj hi => by rw [if_neg (by omega)]; exact hall j hj hi), Sn, (Sq @t1), Sw, Sw, Sw, Swr⟩ ?_
  clear hlen t0 t1 m2 m4 m5 hfr hall eY e1Y
  rintro _ ts K ⟨i, hi, rfl, eK, m2, m4, m5, hfr, hall, hlen, t1, t2, t4, t5, t6⟩
  have oK := o.ext eK
  have i2 := @ldx _ _ _ m2
  have hlm := fun G => o.sl.lenm G
  by_cases hlt : i < L.length
  case neg =>
    have e3 := dltF hlt
    have i5 := @ldx _ _ _ m5
    have l5 := @sh_l2 nm out
    have s4 : storeF 2 (.ptr b4 0) (.agg [.str nm, out]) (fun z => K[z]?) = some (undefA, .set b4 (.cells (shC nm out) true false)) := by
      rw [storeF_at m4]; exact sh_st oo
    have k4 : (K.set b4 (.cells (shC nm out) true false))[b4]? = some (.cells (shC nm out) true false) := set_eq' m4
    have f4 := @loadF_at (some 2) b4 0 _ _ k4
    refine Rs (A13 @t1 @t2 @t4 @t5 @t6 @i2 @ls @hlm @e3 @i5 @l5 @s4 @f4) ?_
    refine ⟨ext_setG eK n4, out, zwT (corT l) L L0, rfl, ⟨?_, fun y hy => ?_⟩, zwT_fst hl0.symm, fun c hc => hfr.notB (by omega), fun y hy c hc => ?_⟩
    · rw [zwT_row (f := corT l) hf0 fun t => ⟨rfl, rfl⟩]
      exact (hfr.setn bo4).isSl
    · obtain ⟨j, h1, h2, rfl⟩ := zwT_mem hy
      have := hall j h2 h1
      rw [if_pos (by omega)] at this
      exact (this.setn (bv4 j h2)).isSl
    · obtain ⟨j, h1, h2, rfl⟩ := zwT_mem hy
      exact (hall j h2 h1).notB (by omega)
  have e3 := dltT hlt
  have e5 := wrapN (n := i) (by omega)
  have hlt0 : i < L0.length := by omega
  have ix := oK.sl.ixm (kk := .i64) hlt
  obtain ⟨x, hx⟩ : ∃ x, x = L[i] := ⟨_, rfl⟩
  have hmem : x ∈ L := by rw [hx]; exact List.getElem_mem _
  have ld : ∀ {kk : AHeap}, Ext K kk → loadF (some 10) (elp s 10 i) (fun b => kk[b]?) = some (.agg (trRow x), .keep) := fun {kk} e => by rw [hx]; exact oK.sl.ldm hlt e
  have hsx := o.all x hmem
  have ox := hsx.one
  have b10 := @z10_box
  have st := @st_tr x ox
  have l4v : ldV (trRow x)[4]? = some (.int .i64 (x.1.hd 4), .keep) := rfl
  have l9v : ldV (trRow x)[9]? = some (x.2, .keep) := rfl
  have ia : ∀ {n o : Nat}, iadaF 8 1 (.ptr n o) (.int .i64 4) = some (.ptr n (o + 4)) := fun {n o} => by unfold iadaF; simp
  have hcx := chkTr_z (hc x hmem)
  have h4 := hdE_z hcx.1
  obtain ⟨hsl, hg⟩ := chkL_z hcx.2.2
  obtain ⟨⟨c1, c2⟩, c3, c4⟩ := lvlS_bd ok h1 h4
  obtain ⟨zn, hzn⟩ : ∃ z, z = lvlS l (x.1.hd 4) := ⟨_, rfl⟩
  refine Rs (A15 @t1 @t2 @t4 @t5 @t6 @i2 @ls @hlm @e3 @ix @ld @b10 @st @l4v @ia) ?_
  obtain ⟨K1, hK1⟩ : ∃ K1, K1 = K ++ [ABlk.cells (trRow x) true false] := ⟨_, rfl⟩
  have eK1 : Ext K K1 := by rw [hK1]; exact Xx
  have m7 : K1[K.length]? = some (.cells (trRow x) true false) := by rw [hK1]; exact at_new
  rw [← hK1]
  clear hK1
  refine WF.ce T.c55 (r55 T (h0.ext (eK.trans eK1)) ok h1 hl16 h4) fun g2 => ?_
  have hcn : corN l x.1.hd = rndI zn.1 zn.2 := by rw [hzn]; rfl
  rw [← hzn] at c1 c2 c3 c4 ⊢
  have bz2 : ∀ {N : Nat}, boxF (.agg [.int .i64 0, .int .i64 0]) N = some (.ptr N 0, .push (.cells (ratR (0, 0)) true false)) := fun {N} => rfl
  have sz : ∀ {n : Nat}, stB 2 0 (.agg (ratR zn)) n (.cells (ratR (0, 0)) true false) = some (undefA, .set n (.cells (ratR zn) true false)) := fun {n} => (stB_agg rfl rfl (by show 0 + 2 ≤ 2; omega)).trans rfl
  have z0 : ldV (ratR zn)[0]? = some (.int .i64 zn.1, .keep) := rfl
  have z1 : ldV (ratR zn)[1]? = some (.int .i64 zn.2, .keep) := rfl
  refine Rs (A9 @t1 @t2 @t4 @t5 @t6 @bz2 @sz @z0 @z1) ?_
  refine WF.ce T.c131 (r131 T ⟨by omega, by omega⟩ ⟨by omega, by omega⟩) fun g3 => ?_
  have hn := rndT_bd ⟨c3, c4⟩ ⟨c1, c2⟩
  obtain ⟨n, hnn⟩ : ∃ n, n = rndI zn.1 zn.2 := ⟨_, rfl⟩
  rw [← hnn] at hn hcn ⊢
  obtain ⟨W, hW⟩ : ∃ W, W = K1 ++ g2 ++ [ABlk.cells (ratR zn) true false] ++ g3 := ⟨_, rfl⟩
  have eW : Ext K1 W := by rw [hW]; exact Xx
  rw [← hW]
  clear hW
  have eKW := eK1.trans eW
  have b7n : NotB K.length L0[i].2 := (hall i hlt0 hlt).isSl.notB (Nat.le_refl _)
  obtain ⟨b7, hb7⟩ : ∃ b, b = K.length := ⟨_, rfl⟩
  rw [← hb7] at m7 b7n ⊢
  obtain ⟨V, hV⟩ : ∃ V, V = L0[i].2 := ⟨_, rfl⟩
  obtain ⟨A, hA⟩ : ∃ A, A = shfF x.1.sm n := ⟨_, rfl⟩
  have hAl : A.length = x.1.sm.length := by rw [hA, shfF_len]
  have hAt : (corT l L[i].1).sm = A := by rw [hA, ← hcn, hx]; rfl
  have hAk : ∀ (k : Nat) (hk : k < A.length), A[k] = atF x.1.sm ((k : Int) + n) := fun k hk => by simp only [hA, shfF, List.getElem_map, List.getElem_range]
  rw [← hV] at b7n
  refine Rs (A5 @t1 @t2 @t4 @t5 @t6) ?_
  refine WL.inv T.mix (fun n' ts H => ∃ k : Nat, k ≤ A.length ∧ n' = A.length - k ∧ Ext h H ∧ H[b2]? = some (.cells (shC nm s) true false) ∧ H[b4]? = some (.cells (shC [] .nilSlice) true false) ∧ H[b5]? = some (.cells (shC nm out) true false) ∧ H[b7]? = some (.cells (trRow x) true false) ∧ Fr h.length H out 10 (L0.map trRow) ∧ (∀ j (hj : j < L0.length) (hi : j < L.length), j ≠ i → Fr h.length H L0[j].2 1 ((if j < i then (corT l L[j].1).sm else L[j].1.sm).map fltR)) ∧ Fr h.length H V 1 ((A.take k ++ x.1.sm.drop k).map fltR) ∧ ts.length = 79 ∧ slot ts 1 = s0 ∧ slot ts 2 = .ptr b2 0 ∧ slot ts 4 = .ptr b4 0 ∧ slot ts 5 = .ptr b5 0 ∧ slot ts 6 = .int .i64 i ∧ slot ts 7 = .ptr b7 0 ∧ slot ts 9 = .int .i64 n ∧ slot ts 10 = .int .i64 k) A.length
    ⟨0, by omega, rfl, eK.trans eKW, eKW.some m2, eKW.some m4, eKW.some m5, eW.some m7, hfr.ext eKW, (fun j hj hi hne => (hall j hj hi).ext eKW), (by
      have := (hall i hlt0 hlt).ext eKW
      rw [if_neg (by omega), ← hx, ← hV] at this
      exact this), Sn, (Sq @t1), (Sq @t2), (Sq @t4), (Sq @t5), (Sq @t6), Sw, Sw, Swr⟩ ?_
  clear hlen t1 t2 t4 t5 t6 m2 m4 m5 m7 hfr hall eW eKW eK1 oK ix ld eK i2
  rintro _ ts H ⟨k, hk, rfl, eH, m2, m4, m5, m7, hfr, hall, hv, hlen, t1, t2, t4, t5, t6, t7, t9, t10⟩
  have i7 := @ldx _ _ _ m7
  have hlx := fun G => hsx.lenm G
  have hxH := hsx.ext eH
  by_cases hkl : k < x.1.sm.length
  case neg =>
    have e6 := dltF hkl
    have ek : k = A.length := by omega
    rw [ek, List.take_length, hAl, List.drop_length, List.append_nil] at hv
    refine Rs (A13 @t1 @t2 @t4 @t5 @t6 @t7 @t9 @t10 @i7 @l9v @hlx @e6 @e5) ?_
    refine ⟨L.length - (i + 1), by omega, i + 1, by omega, rfl, eH, m2, m4, m5, hfr, fun j hj hi => ?_, rfl⟩
    by_cases hji : j = i
    · subst hji
      rw [if_pos (by omega), hAt, ← hV]; exact hv
    · have := hall j hj hi hji
      by_cases hlt2 : j < i
      · rw [if_pos hlt2] at this; rw [if_pos (by omega)]; exact this
      · rw [if_neg hlt2] at this; rw [if_neg (by omega)]; exact this
  have e6 := dltT hkl
  have e7 := wrapN (n := k) (by omega)
  have hkA : k < A.length := by omega
  have i5 := @ldx _ _ _ m5
  have l5v : ldV (shC nm out)[1]? = some (out, .keep) := rfl
  have ixo := hfr.isSl.ixm (kk := .i64) hlt0
  have lv : ∀ {kk : AHeap}, Ext H kk → loadF none (elf out 10 i 9) (fun b => kk[b]?) = some (V, .keep) := fun {kk} e => by rw [hV]; exact hfr.isSl.lfm hlt0 rfl e
  have hpl : (A.take k ++ x.1.sm.drop k).length = x.1.sm.length := by rw [List.length_append, List.length_take, List.length_drop]; omega
  have ixv := hv.isSl.ixm (kk := .i64) (show k < _ by rw [hpl]; exact hkl)
  obtain ⟨g, hg0⟩ := eH
  subst hg0
  have keep : ∀ {g' : AHeap} {C : List Nat}, (∀ b, (∀ b0 o n e, V = .slice b0 o n e → b ≠ b0) → (h ++ g')[b]? = (h ++ g)[b]?) → Fr h.length (h ++ g') V 1 (C.map fltR) → (h ++ g')[b2]? = some (.cells (shC nm s) true false) ∧ (h ++ g')[b4]? = some (.cells (shC [] .nilSlice) true false) ∧ (h ++ g')[b5]? = some (.cells (shC nm out) true false) ∧ (h ++ g')[b7]? = some (.cells (trRow x) true false) ∧ Fr h.length (h ++ g') out 10 (L0.map trRow) ∧ (∀ j (hj : j < L0.length) (hi : j < L.length), j ≠ i → Fr h.length (h ++ g') L0[j].2 1 ((if j < i then (corT l L[j].1).sm else L[j].1.sm).map fltR)) := fun {g' C} kp _ => by
    refine ⟨getA m2 (by rw [hV]; exact bv2 i hlt0) kp, getA m4 (by rw [hV]; exact bv4 i hlt0) kp, getA m5 (by rw [hV]; exact bv5 i hlt0) kp, getA m7 b7n kp, hfr.keepA (by rw [hV]; exact (apo i hlt0).symm) kp, fun j hj hi hne => (hall j hj hi hne).keepA (by rw [hV]; exact apv j i hj hlt0 hne) kp⟩
  have w1 : IntKind.i64.wrap ((k : Int) + n) = (k : Int) + n := wrap_in (by omega) (by omega)
  repeat (first | simp (config := { maxSteps := 1000000 }) only [wset, hset, dset, bset, Nat.reduceAdd, Nat.reduceMul, Nat.reduceLeDiff, Nat.reduceEqDiff, pset, hlen, if_false, if_true, t1, t2, t4, t5, t6, t7, t9, t10, i7, l9v, hlx, e6, i5, l5v, ixo, lv, ixv] | simp (config := { maxSteps := 1000000 }) (disch := first | (simp only [List.length_append, List.length_cons, List.length_nil] <;> omega) | rfl | omega | fail) only [kset, wset, hset, dset, bset, Nat.reduceAdd, Nat.reduceMul, Nat.reduceLeDiff, Nat.reduceEqDiff, pset, hlen, if_false, if_true, t1, t2, t4, t5, t6, t7, t9, t10, i7, l9v, hlx, e6, i5, l5v, ixo, lv, ixv])
  refine WR.put1 (h0 := h) (off := 0) (row := fltR) (x' := 0) hv (by rw [hpl]; exact hkl) (by decide) rfl rfl ?_
  intro g' hl' hv' kp'
  obtain ⟨m2', m4', m5', m7', hfr', hall'⟩ := keep kp' hv'
  have i7' := @ldx _ _ _ m7'
  have hxH' := hsx.ext (show Ext h (h ++ g') from ⟨_, rfl⟩)
  have hat := hAk k hkA
  by_cases hneg : 0 ≤ (k : Int) + n
  case neg =>
    have d1 : decide ((k : Int) + n ≥ 0) = false := decide_eq_false hneg
    have d2 : decide (0 ≤ (k : Int) + n) = false := decide_eq_false hneg
    have e0 : (0 : Nat) = A[k] := by rw [hat]; unfold atF; rw [if_neg hneg]
    rw [set_td hAl hkA e0] at hv'
    refine Rs (A12 @t1 @t2 @t4 @t5 @t6 @t7 @t9 @t10 @w1 @d1 @d2 @e7) ?_
    exact ⟨A.length - (k + 1), by omega, k + 1, by omega, rfl, m2', m4', m5', m7', hfr', hall', hv', rfl⟩
  have d1 : decide ((k : Int) + n ≥ 0) = true := decide_eq_true hneg
  have d2 : decide (0 ≤ (k : Int) + n) = true := decide_eq_true hneg
  by_cases hbig : (k : Int) + n < x.1.sm.length
  case neg =>
    have d3 : decide ((k : Int) + n < (x.1.sm.length : Int)) = false := decide_eq_false hbig
    have e0 : (0 : Nat) = A[k] := by
      rw [hat]; unfold atF
      rw [if_pos hneg, List.getD_eq_getElem?_getD, List.getElem?_eq_none (by omega)]; rfl
    rw [set_td hAl hkA e0] at hv'
    refine Rs (A16 @t1 @t2 @t4 @t5 @t6 @t7 @t9 @t10 @w1 @d1 @d2 @i7' @l9v @hlx @d3 @e7) ?_
    exact ⟨A.length - (k + 1), by omega, k + 1, by omega, rfl, m2', m4', m5', m7', hfr', hall', hv', rfl⟩
  have d3 : decide ((k : Int) + n < (x.1.sm.length : Int)) = true := decide_eq_true hbig
  obtain ⟨q, hq⟩ : ∃ q : Nat, (k : Int) + n = (q : Int) := ⟨((k : Int) + n).toNat, by omega⟩
  have hql : q < x.1.sm.length := by omega
  obtain ⟨y, hy⟩ : ∃ y, y = x.1.sm[q] := ⟨_, rfl⟩
  have e0 : y = A[k] := by
    rw [hat, hq]; unfold atF
    rw [if_pos (by omega), List.getD_eq_getElem?_getD, Int.toNat_natCast, List.getElem?_eq_getElem hql, hy]; rfl
  have ixq := hxH'.ixm (kk := .i64) hql
  have ldq : ∀ {kk : AHeap}, Ext (h ++ g') kk → loadF none (elp x.2 1 q) (fun b => kk[b]?) = some (.flt .f32 y, .keep) := fun {kk} e => by rw [hy]; exact hxH'.l1m hql rfl e
  have i5' := @ldx _ _ _ m5'
  have ixo' := hfr'.isSl.ixm (kk := .i64) hlt0
  have lv' : ∀ {kk : AHeap}, Ext (h ++ g') kk → loadF none (elf out 10 i 9) (fun b => kk[b]?) = some (V, .keep) := fun {kk} e => by rw [hV]; exact hfr'.isSl.lfm hlt0 rfl e
  have hpl' : ((A.take k ++ x.1.sm.drop k).set k 0).length = x.1.sm.length := by rw [List.length_set]; exact hpl
  have ixv' := hv'.isSl.ixm (kk := .i64) (show k < _ by rw [hpl']; exact hkl)
  rw [hq] at w1 d1 d2 d3
  have w1' : IntKind.i64.wrap ((k : Int) + n) = (q : Int) := by rw [hq]; exact w1
  refine Rs (A22 @t1 @t2 @t4 @t5 @t6 @t7 @t9 @t10 @w1' @d1 @d2 @i7' @l9v @hlx @d3 @i5' @l5v @ixo' @lv' @ixv' @ixq @ldq) ?_
  refine WR.put1 (h0 := h) (off := 0) (row := fltR) (x' := y) hv' (by rw [hpl']; exact hkl) (by decide) rfl rfl ?_
  intro g2 hl2 hv2 kp2
  have kp3 : ∀ b, (∀ b0 o n e, V = .slice b0 o n e → b ≠ b0) → (h ++ g2)[b]? = (h ++ g)[b]? := fun b hb => (kp2 b hb).trans (kp' b hb)
  obtain ⟨m2', m4', m5', m7', hfr', hall'⟩ := keep kp3 hv2
  rw [List.set_set, set_td hAl hkA e0] at hv2
  refine Rs (A9 @t1 @t2 @t4 @t5 @t6 @t7 @t9 @t10 @e7) ?_
  exact ⟨A.length - (k + 1), by omega, k + 1, by omega, rfl, m2', m4', m5', m7', hfr', hall', hv2, rfl⟩
set_option maxHeartbeats 8000000 in
theorem r93 {nm : List UInt8} {s s0 : AV} {L : List (Trc × AV)} {t : List Int} (o : ShOk h L s) (zl : L.length < 2 ^ 38) (z : ShSz L) (h0 : IsSl h s0 1 (t.map intRow)) (ht : TpOk t) (hc : ∀ x ∈ L, chkTr x.1 = 0) : RCall P 93 [.agg [.str nm, s], s0] h (fun v h' => ∃ (r : AV), v = .tup [r, .int .i64 (errL (eachE t) L)] ∧ if errL (eachE t) L = 0 then ∃ (s' : AV) (L' : List (Trc × AV)), r = .agg [.str nm, s'] ∧ ShOk h' L' s' ∧ L'.map Prod.fst = L.map (fun x => eacT t x.1) ∧ (∀ c, c < h.length → NotB c s') ∧ (∀ y ∈ L', ∀ c, c < h.length → NotB c y.2) else r = .agg [.str [], .nilSlice]) := by
  refine .st2 43 T.mix T.c93 ?_;intro ts hlen t0 t1;unfold fn93
  have bx := @sh_box nm s o.sl.one
  have o0 := h0.one
  have bz : ∀ {N : Nat}, boxF (.agg [.str [], .nilSlice]) N = some (.ptr N 0, .push (.cells (shC [] .nilSlice) true false)) := fun {N} => rfl
  have bd0 : fillA [.str [], .nilSlice] [] = some [.str [], .nilSlice] := rfl
  have l2 := @sh_l2 nm s
  have ls : ldV (shC nm s)[1]? = some (s, .keep) := rfl
  refine Rs (A5 @t0 @t1 @bx @bz @l2) ?_
  obtain ⟨H1, hH1⟩ : ∃ H1, H1 = h ++ [ABlk.cells (shC nm s) true false] ++ [ABlk.cells (shC [] .nilSlice) true false] := ⟨_, rfl⟩
  have eH1 : Ext h H1 := by rw [hH1]; exact Xx
  have m2 : H1[h.length]? = some (.cells (shC nm s) true false) := by rw [hH1]; exact at_1
  have m4 : H1[(h ++ [ABlk.cells (shC nm s) true false]).length]? = some (.cells (shC [] .nilSlice) true false) := by rw [hH1]; exact at_new
  obtain ⟨b2, hb2⟩ : ∃ b, b = h.length := ⟨_, rfl⟩
  obtain ⟨b4, hb4⟩ : ∃ b, b = (h ++ [ABlk.cells (shC nm s) true false]).length := ⟨_, rfl⟩
  have n2 : h.length ≤ b2 := by omega
  have n4 : h.length ≤ b4 := by rw [hb4]; simp only [List.length_append]; omega
  have q2 : b2 < H1.length := by rw [hb2]; exact (List.getElem?_eq_some_iff.1 m2).1
  have q4 : b4 < H1.length := by rw [hb4]; exact (List.getElem?_eq_some_iff.1 m4).1
  rw [← hb2] at m2
  rw [← hb4] at m4
  rw [← hH1, ← hb2, ← hb4]
  clear hH1 hb4
  refine WF.res T.c166 (r166 T (o.ext eH1) z zl) ?_
  rintro _ g1 ⟨out, L0, rfl, ow, hf0⟩
  obtain ⟨H2, hH2⟩ : ∃ H2, H2 = H1 ++ g1 := ⟨_, rfl⟩
  have e12 : Ext H1 H2 := by rw [hH2]; exact Xx
  rw [← hH2] at ow ⊢
  clear hH2
  have oo := ow.fr.isSl.one
  have hl0 : L0.length = L.length := by have := congrArg List.length hf0; simpa using this
  have st5 : ∀ {n : Nat}, stB 2 0 (.agg [.str nm, out]) n (.cells (shC [] .nilSlice) true false) = some (undefA, .set n (.cells (shC nm out) true false)) := fun {n} => sh_st oo
  obtain ⟨Y, hY⟩ : ∃ Y, Y = H2 ++ [ABlk.cells (shC nm out) true false] := ⟨_, rfl⟩
  have e2Y : Ext H2 Y := by rw [hY]; exact Xx
  have m6 : Y[H2.length]? = some (.cells (shC nm out) true false) := by rw [hY]; exact at_new
  refine Rs (A5 @t0 @t1 @bz @st5 @oo) ?_
  obtain ⟨b6, hb6⟩ : ∃ b, b = H2.length := ⟨_, rfl⟩
  rw [← hb6] at m6
  rw [← hY, ← hb6]
  clear hY
  have bo2 : NotB b2 out := ow.fr.notB q2
  have bo4 : NotB b4 out := ow.fr.notB q4
  have bo6 : NotB b6 out := ow.fr.isSl.notB (by omega)
  have e1Y := e12.trans e2Y
  have eY : Ext h Y := eH1.trans e1Y
  have hfr : Fr h.length Y out 10 (L0.map trRow) := (ow.fr.ext e2Y).low eH1.len
  have hall : ∀ y ∈ L0, IsSl Y y.2 1 (y.1.sm.map fltR) ∧ Apart y.2 out ∧ NotB b4 y.2 ∧ ∀ c, c < h.length → NotB c y.2 := fun y hy => ⟨((ow.all y hy).ext e2Y).isSl, ow.ns y hy, (ow.all y hy).notB q4, fun c hc => (ow.all y hy).notB (Nat.lt_of_lt_of_le hc eH1.len)⟩
  have m2 := e1Y.some m2
  have m4 := e1Y.some m4
  have q6 : b6 < Y.length := (List.getElem?_eq_some_iff.1 m6).1
  have q4Y : b4 < Y.length := (List.getElem?_eq_some_iff.1 m4).1
  obtain ⟨M, hM⟩ : ∃ M, M = Y.length := ⟨_, rfl⟩
  rw [← hM] at q4Y
  clear ow hb6 e12 e2Y
  refine WL.inv T.mix (fun n ts K => ∃ (i : Nat) (Li : List (Trc × AV)), i ≤ L.length ∧ n = L.length - i ∧ Ext h K ∧ M ≤ K.length ∧ K[b2]? = some (.cells (shC nm s) true false) ∧ K[b4]? = some (.cells (shC [] .nilSlice) true false) ∧ K[b6]? = some (.cells (shC nm out) true false) ∧ Fr h.length K out 10 (Li.map trRow) ∧ (∀ y ∈ Li, IsSl K y.2 1 (y.1.sm.map fltR) ∧ Apart y.2 out ∧ NotB b4 y.2 ∧ ∀ c, c < h.length → NotB c y.2) ∧ Li.map Prod.fst = (L.take i).map (fun x => eacT t x.1) ++ (L.drop i).map Prod.fst ∧ errL (eachE t) L = errL (eachE t) (L.drop i) ∧ ts.length = 43 ∧ slot ts 1 = s0 ∧ slot ts 2 = .ptr b2 0 ∧ slot ts 4 = .ptr b4 0 ∧ slot ts 6 = .ptr b6 0 ∧ slot ts 7 = .int .i64 i) L.length
    ⟨0, L0, by omega, rfl, eY, by omega, m2, m4, m6, hfr, hall, hf0, rfl, Sn, (Sq @t1), Sw, Sw, Sw, Swr⟩ ?_
  clear hlen t0 t1 m2 m4 m6 hfr hall eY e1Y hM q6
  rintro _ ts K ⟨i, Li, hi, rfl, eK, hMK, m2, m4, m6, hfr, hall, hLi, herr, hlen, t1, t2, t4, t6, t7⟩
  have oK := o.ext eK
  have i2 := @ldx _ _ _ m2
  have hlm := fun G => o.sl.lenm G
  have hlLi : Li.length = L.length := by
    have := congrArg List.length hLi
    rw [List.length_map, List.length_append, List.length_map, List.length_map, List.length_take, List.length_drop] at this
    omega
  by_cases hlt : i < L.length
  case neg =>
    have e3 := dltF hlt
    have ei : i = L.length := by omega
    rw [ei, List.take_length, List.drop_length, List.map_nil, List.append_nil] at hLi
    rw [ei, List.drop_length] at herr
    have herr : errL (eachE t) L = 0 := herr
    have i6 := @ldx _ _ _ m6
    have l6 := @sh_l2 nm out
    have s4 : storeF 2 (.ptr b4 0) (.agg [.str nm, out]) (fun z => K[z]?) = some (undefA, .set b4 (.cells (shC nm out) true false)) := by
      rw [storeF_at m4]; exact sh_st oo
    have k4 : (K.set b4 (.cells (shC nm out) true false))[b4]? = some (.cells (shC nm out) true false) := set_eq' m4
    have f4 := @loadF_at (some 2) b4 0 _ _ k4
    refine Rs (A13 @t1 @t2 @t4 @t6 @t7 @i2 @ls @hlm @e3 @i6 @l6 @s4 @f4) ?_
    refine ⟨ext_setG eK n4, _, by rw [herr], ?_⟩
    rw [if_pos herr]
    exact ⟨out, Li, rfl, ⟨(hfr.setn bo4).isSl, fun y hy => (hall y hy).1.setb (hall y hy).2.2.1⟩, hLi, fun c hc => hfr.notB (by omega), fun y hy c hc => (hall y hy).2.2.2 c (by omega)⟩
  have e3 := dltT hlt
  have e5 := wrapN (n := i) (by omega)
  have ix := oK.sl.ixm (kk := .i64) hlt
  obtain ⟨x, hx⟩ : ∃ x, x = L[i] := ⟨_, rfl⟩
  have hmem : x ∈ L := by rw [hx]; exact List.getElem_mem _
  have hsx := oK.all x hmem
  have l9 : ∀ {kk : AHeap}, Ext K kk → loadF none (elf s 10 i 9) (fun b => kk[b]?) = some (x.2, .keep) := fun {kk} e => by rw [hx]; exact oK.sl.lfm hlt rfl e
  have hcx := chkTr_z (hc x hmem)
  obtain ⟨hsl, hg⟩ := chkL_z hcx.2.2
  have htk : L.take (i + 1) = L.take i ++ [x] := by rw [hx]; exact List.take_succ_eq_append_getElem hlt
  have hdk : L.drop i = x :: L.drop (i + 1) := by rw [hx]; exact List.drop_eq_getElem_cons hlt
  rw [hdk, errL_cons] at herr
  have hlti : i < Li.length := by omega
  have hLix : Li[i].1 = x.1 := by
    have h5 : (Li.map Prod.fst)[i]'(by simpa using hlti) = x.1 := by
      have : (Li.map Prod.fst)[i]? = some x.1 := by
        rw [hLi, List.getElem?_append_right (by rw [List.length_map, List.length_take]; omega), List.length_map, List.length_take, hdk]
        rw [show i - min i L.length = 0 by omega]
        rfl
      exact (List.getElem?_eq_some_iff.1 this).2
    simpa using h5
  refine Rs (A12 @t1 @t2 @t4 @t6 @t7 @i2 @ls @hlm @e3 @ix @l9 @o0) ?_
  refine WF.res T.c29 (r29 T hsx (by omega) hg) ?_
  intro s2 g2 is2
  refine Rs (A6 @t1 @t2 @t4 @t6 @t7 @o0) ?_
  refine WF.res T.c30 (r30 T ((h0.ext eK).ext Xx) is2 ht (by rw [List.length_map]; omega) (grid_all hg)) ?_
  intro s3 g3 is3
  refine Rs (A6 @t1 @t2 @t4 @t6 @t7 @o0) ?_
  refine WF.res T.c43 (q43 T is3 (by rw [apL_len, List.length_map]; omega)) ?_
  rintro _ g4 ⟨w, e, rfl, hw0⟩
  obtain ⟨K1, hK1⟩ : ∃ K1, K1 = K ++ g2 ++ g3 ++ g4 := ⟨_, rfl⟩
  have eK1 : Ext K K1 := by rw [hK1]; exact Xx
  have hw : if fitsB (apL t (x.1.sm.map gridN) (-1)) = true then Fr K.length K1 w 1 (((apL t (x.1.sm.map gridN) (-1)).map smpl).map fltR) ∧ e = 0 else w = .nilSlice ∧ e = 4 := by
    by_cases hf : fitsB (apL t (x.1.sm.map gridN) (-1)) = true
    · rw [if_pos hf] at hw0 ⊢
      rw [hK1]
      exact ⟨hw0.1.low (by simp only [List.length_append]; omega), hw0.2⟩
    · rw [if_neg hf] at hw0 ⊢
      exact hw0
  rw [← hK1]
  clear hK1 is2 is3 hw0
  by_cases hf : fitsB (apL t (x.1.sm.map gridN) (-1)) = true
  case neg =>
    rw [if_neg hf] at hw
    obtain ⟨rfl, rfl⟩ := hw
    have e0 : eachE t x = 4 := if_neg hf
    have hnh : ¬ x.1.hole = true := fun hh => by
      refine hf ?_
      rw [hcx.2.1 hh]
      rfl
    rw [e0, if_neg hnh, if_neg (by decide)] at herr
    have d1 : decide ((4 : Int) ≠ 0) = true := rfl
    have s4 : storeF 2 (.ptr b4 0) (.agg [.str [], .nilSlice]) (fun z => K1[z]?) = some (undefA, .set b4 (.cells (shC [] .nilSlice) true false)) := by
      rw [storeF_at (eK1.some m4)]; exact sh_st rfl
    have k4 : (K1.set b4 (.cells (shC [] .nilSlice) true false))[b4]? = some (.cells (shC [] .nilSlice) true false) := set_eq' (eK1.some m4)
    have f4 := @loadF_at (some 2) b4 0 _ _ k4
    have l4 := @sh_l2 [] .nilSlice
    refine Rs (A10 @t1 @t2 @t4 @t6 @t7 @d1 @bd0 @s4 @f4 @l4) ?_
    refine ⟨ext_setG (eK.trans eK1) n4, _, by rw [herr], ?_⟩
    rw [herr, if_neg (by decide)]
  rw [if_pos hf] at hw
  obtain ⟨hw, rfl⟩ := hw
  have e0 : eachE t x = 0 := if_pos hf
  rw [e0, if_pos (by split <;> rfl)] at herr
  have d1 : decide ((0 : Int) ≠ 0) = false := rfl
  have ow := hw.isSl.one
  have eK' := eK.trans eK1
  obtain ⟨g, hg0⟩ := eK'
  subst hg0
  have hfr1 := hfr.ext eK1
  have i6 := @ldx _ _ _ (eK1.some m6)
  have l6v : ldV (shC nm out)[1]? = some (out, .keep) := rfl
  have ixo := hfr1.isSl.ixm (kk := .i64) hlti
  have hfr0 : Fr h.length (h ++ g) out 10 (Li.map trRow) := hfr1
  repeat (first | simp (config := { maxSteps := 1000000 }) only [wset, hset, dset, bset, Nat.reduceAdd, Nat.reduceMul, Nat.reduceLeDiff, Nat.reduceEqDiff, pset, hlen, if_false, if_true, t1, t2, t4, t6, t7, d1, i6, l6v, oo, ow, ixo] | simp (config := { maxSteps := 1000000 }) (disch := first | (simp only [List.length_append, List.length_cons, List.length_nil] <;> omega) | rfl | omega | fail) only [kset, wset, hset, dset, bset, Nat.reduceAdd, Nat.reduceMul, Nat.reduceLeDiff, Nat.reduceEqDiff, pset, hlen, if_false, if_true, t1, t2, t4, t6, t7, d1, i6, l6v, oo, ow, ixo])
  refine WR.put1 (h0 := h) (off := 9) (row := trRow) (x' := (eacT t x.1, w)) hfr0 hlti (by decide) ow (by
    obtain ⟨hx1, hx2⟩ : (eacT t x.1).hd = Li[i].1.hd ∧ (eacT t x.1).hole = Li[i].1.hole := by rw [hLix]; exact ⟨rfl, rfl⟩
    show [AV.int .i64 ((eacT t x.1).hd 0), .int .i64 ((eacT t x.1).hd 1), .int .i64 ((eacT t x.1).hd 2), .int .i64 ((eacT t x.1).hd 3), .int .i64 ((eacT t x.1).hd 4), .int .i64 ((eacT t x.1).hd 5), .int .i64 ((eacT t x.1).hd 6), .int .i64 ((eacT t x.1).hd 7), .bool (eacT t x.1).hole, w] = _
    rw [hx1, hx2]; rfl) ?_
  intro g' hl' hfr' kp'
  have hap : Apart w out := (hfr.apart_fr hw (Nat.le_refl _)).symm
  have hlist : (Li.set i (eacT t x.1, w)).map Prod.fst = (L.take (i + 1)).map (fun x => eacT t x.1) ++ (L.drop (i + 1)).map Prod.fst := by
    rw [List.map_set, hLi, List.set_append_right _ _ (by rw [List.length_map, List.length_take]; omega), List.length_map, List.length_take, show i - min i L.length = 0 by omega, hdk, List.map_cons, List.set_cons_zero, htk, List.map_append, List.append_assoc]
    rfl
  refine Rs (A6 @t1 @t2 @t4 @t6 @t7 @e5) ?_
  refine ⟨L.length - (i + 1), by omega, i + 1, Li.set i (eacT t x.1, w), by omega, rfl, ?_, getA (eK1.some m2) bo2 kp', getA (eK1.some m4) bo4 kp', getA (eK1.some m6) bo6 kp', hfr', fun y hy => ?_, hlist, herr, rfl⟩
  · have := eK1.len
    rw [List.length_append, hl', ← List.length_append]
    omega
  · rcases List.mem_or_eq_of_mem_set hy with hy | rfl
    · obtain ⟨a1, a2, a3⟩ := hall y hy
      exact ⟨(a1.ext eK1).keepA a2 kp', a2, a3⟩
    · exact ⟨hw.isSl.keepA hap kp', hap, hw.notB (by omega), fun c hc => hw.notB (Nat.lt_of_lt_of_le hc eK.len)⟩
end
end Go.Abs
namespace Go.Abs

theorem ShEq.of {A B : List (Trc × AV)} {f g : Trc → Trc} {L : List Trc} (ha : A.map Prod.fst = L.map f) (hb : B.map Prod.fst = L.map g) (h : ∀ t ∈ L, TrEq (f t) (g t)) : ShEq A B := by
  have la : A.length = L.length := by have := congrArg List.length ha; simpa using this
  have lb : B.length = L.length := by have := congrArg List.length hb; simpa using this
  refine ⟨by omega, fun i h1 h2 => ?_⟩
  have hi : i < L.length := by omega
  have e1 : A[i].1 = f L[i] := by
    have : (A.map Prod.fst)[i]'(by simpa using h1) = (L.map f)[i]'(by simpa using hi) := by simp only [ha]
    simpa using this
  have e2 : B[i].1 = g L[i] := by
    have : (B.map Prod.fst)[i]'(by simpa using h2) = (L.map g)[i]'(by simpa using hi) := by simp only [hb]
    simpa using this
  rw [e1, e2]
  exact h _ (List.getElem_mem _)
theorem ShEq.fst {A A' B : List (Trc × AV)} (e : ShEq A B) (h : A'.map Prod.fst = A.map Prod.fst) : ShEq A' B := by
  have la : A'.length = A.length := by have := congrArg List.length h; simpa using this
  refine ⟨by rw [la]; exact e.l, fun i h1 h2 => ?_⟩
  have hi : i < A.length := by omega
  rw [fst_at h hi h1]
  exact e.t i hi h2
theorem errL_fst {E : Trc × AV → Int} (hE : ∀ (t : Trc) (v w : AV), E (t, v) = E (t, w)) : ∀ {A B : List (Trc × AV)}, A.map Prod.fst = B.map Prod.fst → errL E A = errL E B
  | [], [], _ => rfl
  | [], _ :: _, h => by cases h
  | _ :: _, [], h => by cases h
  | (t, v) :: A, (u, w) :: B, h => by
    obtain ⟨h1, h2⟩ := List.cons.inj h
    have h1 : t = u := h1
    subst h1
    rw [errL_cons, errL_cons, hE t v w, errL_fst hE h2]
noncomputable def chgF (G : Trc → List Nat) (t : Trc) : Trc := if t.hole = true then t else ⟨t.hd, t.hole, G t⟩
noncomputable def corF (l : List (Int × Int)) (t : Trc) : List Nat := (shfL (t.sm.map gridN) (corN l t.hd)).map smpl
noncomputable def eacF (t : List Int) (x : Trc) : List Nat := (apL t (x.sm.map gridN) (-1)).map smpl
theorem chg_map {G : Trc × AV → List Nat} {F : Trc → List Nat} (h : ∀ x, G x = F x.1) (L : List (Trc × AV)) : L.map (chgT G) = (L.map Prod.fst).map (chgF F) := by
  rw [List.map_map]
  refine List.map_congr_left fun x _ => ?_
  show chgT G x = chgF F x.1
  unfold chgT chgF
  rw [h]
theorem cor_eq {l : List (Int × Int)} {t : Trc} (h : chkTr t = 0) : TrEq (chgF (corF l) t) (corT l t) := by
  obtain ⟨_, h2, h3⟩ := chkTr_z h
  obtain ⟨_, hg⟩ := chkL_z h3
  unfold chgF corT
  by_cases hb : t.hole = true
  · have hs := h2 hb
    rw [if_pos hb]
    refine ⟨rfl, rfl, hg, ?_, ?_⟩
    · show ∀ x ∈ shfF t.sm _, _
      rw [hs]; exact fun x hx => by simp [shfF] at hx
    · show t.sm.map gridN = (shfF t.sm _).map gridN
      rw [hs]; rfl
  · rw [if_neg hb]
    have fit := atZ_zero (grid_all hg) (corN l t.hd)
    refine ⟨rfl, rfl, (smpl_all fit).1, shfF_ok hg _, ?_⟩
    show ((shfL (t.sm.map gridN) (corN l t.hd)).map smpl).map gridN = (shfF t.sm (corN l t.hd)).map gridN
    rw [(smpl_all fit).2, shfF_grid]
theorem eac_eq {t : List Int} {x : Trc} (h : chkTr x = 0) (hf : x.hole = true ∨ fitsB (apL t (x.sm.map gridN) (-1)) = true) : TrEq (chgF (eacF t) x) (eacT t x) := by
  obtain ⟨_, h2, h3⟩ := chkTr_z h
  obtain ⟨_, hg⟩ := chkL_z h3
  unfold chgF eacT
  by_cases hb : x.hole = true
  · have hs := h2 hb
    rw [if_pos hb]
    refine ⟨rfl, rfl, hg, ?_, ?_⟩
    · show ∀ y ∈ (apL t (x.sm.map gridN) (-1)).map smpl, _
      rw [hs]; exact fun y hy => by simp [apL, genL] at hy
    · show x.sm.map gridN = ((apL t (x.sm.map gridN) (-1)).map smpl).map gridN
      rw [hs]; rfl
  · rw [if_neg hb]
    have fit := hf.resolve_left hb
    exact ⟨rfl, rfl, (smpl_all fit).1, (smpl_all fit).1, rfl⟩
theorem errL_all {E : Trc × AV → Int} : ∀ {L : List (Trc × AV)}, errL E L = 0 → ∀ x ∈ L, x.1.hole = true ∨ E x = 0
  | [], _, x, hx => by cases hx
  | y :: r, h, x, hx => by
    rw [errL_cons] at h
    by_cases q : (if y.1.hole = true then 0 else E y) = 0
    · rw [if_pos q] at h
      rcases List.mem_cons.1 hx with rfl | hx
      · by_cases hb : x.1.hole = true
        · exact .inl hb
        · rw [if_neg hb] at q; exact .inr q
      · exact errL_all h x hx
    · rw [if_neg q] at h; exact absurd h q
/-- What was made of a shot: a name, and traces. -/
structure ResS (K : AHeap) (n : List UInt8) (v : AV) (A : List (Trc × AV)) : Prop where
  ok : ShOk K A v
  z : ShSz A
  l : A.length < 2 ^ 38
theorem ResS.ext {K k : AHeap} {n : List UInt8} {v : AV} {A : List (Trc × AV)} (r : ResS K n v A) (e : Ext K k) : ResS k n v A := ⟨r.ok.ext e, r.z, r.l⟩
theorem ResS.nil {K : AHeap} : ResS K [] .nilSlice [] := ⟨⟨.nil, fun x hx => by cases hx⟩, ⟨by simp, fun x hx => by cases hx⟩, by simp⟩
theorem ResS.of {K : AHeap} {n : List UInt8} {v : AV} {A : List (Trc × AV)} {f : Trc → Trc} {L : List Trc} (o : ShOk K A v) (ha : A.map Prod.fst = L.map f) (hl : L.length ≤ 65) (hs : ∀ t ∈ L, (f t).sm.length < 2 ^ 40) : ResS K n v A := by
  have la : A.length = L.length := by have := congrArg List.length ha; simpa using this
  refine ⟨o, ⟨by omega, fun x hx => ?_⟩, by omega⟩
  have : x.1 ∈ L.map f := by rw [← ha]; exact List.mem_map_of_mem hx
  obtain ⟨t, ht, e⟩ := List.mem_map.1 this
  rw [← e]; exact hs t ht
theorem ResS.setb {K : AHeap} {n : List UInt8} {v : AV} {A : List (Trc × AV)} (r : ResS K n v A) {b : Nat} {X : ABlk} (h1 : NotB b v) (h2 : ∀ x ∈ A, NotB b x.2) : ResS (K.set b X) n v A := ⟨⟨r.ok.sl.setb h1, fun x hx => (r.ok.all x hx).setb (h2 x hx)⟩, r.z, r.l⟩
theorem chg_len {G : Trc → List Nat} {t : Trc} {B : Nat} (h1 : t.sm.length < B) (h2 : (G t).length < B) : (chgF G t).sm.length < B := by
  unfold chgF
  by_cases hb : t.hole = true
  · rw [if_pos hb]; exact h1
  · rw [if_neg hb]; exact h2
def fsB : ICode := match (fn13).body with
  | .seq _ (.seq _ c) => c
  | c => c
def fsD : ICode := match fsB with
  | .seq _ (.seq _ c) => c
  | c => c
def fsG : ICode := match fsD with
  | .seq _ (.seq _ (.seq _ (.seq _ c))) => c
  | c => c
def fsF : ICode := match fsG with
  | .seq _ c => c
  | c => c
set_option maxRecDepth 10000
attribute [local irreducible] WP WC WE WB WR WF WL WG WRg WQ
section
variable {P : Program} (T : Tbl P) {h Y : AHeap} {ts : TS} {n1 n2 : List UInt8} {v7 v9 v14 v15 : AV} {U7 U9 U14 U15 : List (Trc × AV)} {b3 b7 b9 b14 b15 : Nat} {e1 e2 : Int}
include T
set_option maxHeartbeats 4000000 in
theorem fs_F (hlen : ts.length = 95) (t7 : slot ts 7 = .ptr b7 0) (t8 : slot ts 8 = .int .i64 e1) (t9 : slot ts 9 = .ptr b9 0) (t10 : slot ts 10 = .int .i64 e2) (t12 : slot ts 12 = .int .i64 e1) (t13 : slot ts 13 = .int .i64 e2) (t14 : slot ts 14 = .ptr b14 0) (t15 : slot ts 15 = .ptr b15 0) (e0 : Ext h Y)
    (m7 : Y[b7]? = some (.cells (shC n1 v7) true false)) (m9 : Y[b9]? = some (.cells (shC n2 v9) true false)) (m14 : Y[b14]? = some (.cells (shC n1 v14) true false)) (m15 : Y[b15]? = some (.cells (shC n2 v15) true false))
    (r7 : ResS Y n1 v7 U7) (r9 : ResS Y n2 v9 U9) (r14 : ResS Y n1 v14 U14) (r15 : ResS Y n2 v15 U15) (q1 : ShEq U7 U14) (q2 : ShEq U9 U15) :
    WC P inFn fsF [] ts Y (FQ [(6, none)] fun v k => Ext h k ∧ v = .bool true) := by
  unfold fsF fsG fsD fsB fn13
  dsimp only
  have i7 := @ldx _ _ _ m7
  have l7 := @sh_l2 n1 v7
  have l9 := @sh_l2 n2 v9
  have l14 := @sh_l2 n1 v14
  have l15 := @sh_l2 n2 v15
  have d1 : decide (e1 = e1) = true := decide_eq_true rfl
  have d2 : decide (e2 = e2) = true := decide_eq_true rfl
  refine Rs (A10 @t7 @t8 @t9 @t10 @t12 @t13 @t14 @t15 @i7 @l7) ?_
  refine WF.res T.c95 (r95 T r7.ok r7.z r7.l) ?_
  rintro _ g1 ⟨w7, B7, rfl, o7, f7⟩
  have i14 := @ldx _ _ _ m14
  have o7' := o7.sl.one
  have z7 : ShSz B7 := by
    have la : B7.length = U7.length := by have := congrArg List.length f7; simpa using this
    refine ⟨by rw [la]; exact r7.z.l, fun x hx => ?_⟩
    have : x.1 ∈ U7.map Prod.fst := by rw [← f7]; exact List.mem_map_of_mem hx
    obtain ⟨y, hy, e⟩ := List.mem_map.1 this
    rw [← e]; exact r7.z.s y hy
  refine Rs (A10 @t7 @t8 @t9 @t10 @t12 @t13 @t14 @t15 @i14 @l14) ?_
  refine WF.ce T.c94 (r94 T o7 (r14.ok.ext Xx) z7 (q1.fst f7)) fun g2 => ?_
  have i9 := @ldx _ _ _ m9
  refine Rs (A12 @t7 @t8 @t9 @t10 @t12 @t13 @t14 @t15 @d1 @decide_true @i9 @l9) ?_
  refine WF.res T.c95 (r95 T (r9.ok.ext Xx) r9.z r9.l) ?_
  rintro _ g3 ⟨w9, B9, rfl, o9, f9⟩
  have i15 := @ldx _ _ _ m15
  have z9 : ShSz B9 := by
    have la : B9.length = U9.length := by have := congrArg List.length f9; simpa using this
    refine ⟨by rw [la]; exact r9.z.l, fun x hx => ?_⟩
    have : x.1 ∈ U9.map Prod.fst := by rw [← f9]; exact List.mem_map_of_mem hx
    obtain ⟨y, hy, e⟩ := List.mem_map.1 this
    rw [← e]; exact r9.z.s y hy
  refine Rs (A10 @t7 @t8 @t9 @t10 @t12 @t13 @t14 @t15 @i15 @l15) ?_
  refine WF.ce T.c94 (r94 T o9 (r15.ok.ext Xx) z9 (q2.fst f9)) fun g4 => ?_
  refine Rs (A10 @t7 @t8 @t9 @t10 @t12 @t13 @t14 @t15 @d2 @decide_true) ?_
  exact ⟨e0.trans Xx, trivial⟩
set_option maxHeartbeats 4000000 in
theorem fs_G {nm : List UInt8} {s s2 : AV} {L : List (Trc × AV)} {t : List Int} (os : ShOk h L s) (h2 : IsSl h s2 1 (t.map intRow)) (p : ShtP nm L) (hlen : ts.length = 95) (t2 : slot ts 2 = s2) (t3 : slot ts 3 = .ptr b3 0) (t7 : slot ts 7 = .ptr b7 0) (t8 : slot ts 8 = .int .i64 e1) (t9 : slot ts 9 = .ptr b9 0) (t10 : slot ts 10 = .int .i64 e2) (t12 : slot ts 12 = .int .i64 e1) (t13 : slot ts 13 = .int .i64 (firstS [chkSh nm (L.map Prod.fst), chkTp t])) (t14 : slot ts 14 = .ptr b14 0) (t15 : slot ts 15 = .ptr b15 0) (e0 : Ext h Y)
    (m3 : Y[b3]? = some (.cells (shC nm s) true false)) (m7 : Y[b7]? = some (.cells (shC n1 v7) true false)) (m9 : Y[b9]? = some (.cells (shC n2 v9) true false)) (m14 : Y[b14]? = some (.cells (shC n1 v14) true false)) (m15 : Y[b15]? = some (.cells (shC [] .nilSlice) true false)) (n7 : b7 ≠ b15) (n9 : b9 ≠ b15) (n14 : b14 ≠ b15) (n15 : h.length ≤ b15)
    (r7 : ResS Y n1 v7 U7) (r9 : ResS Y n2 v9 U9) (r14 : ResS Y n1 v14 U14) (q1 : ShEq U7 U14)
    (x7 : NotB b15 v7 ∧ ∀ x ∈ U7, NotB b15 x.2) (x9 : NotB b15 v9 ∧ ∀ x ∈ U9, NotB b15 x.2) (x14 : NotB b15 v14 ∧ ∀ x ∈ U14, NotB b15 x.2)
    (he2 : e2 = firstS [firstS [chkSh nm (L.map Prod.fst), chkTp t], errL (eachE t) L]) (hr2 : if e2 = 0 then n2 = nm ∧ U9.map Prod.fst = (L.map Prod.fst).map (chgF (eacF t)) else n2 = [] ∧ U9 = []) :
    WC P inFn fsG [] ts Y (FQ [(6, none)] fun v k => Ext h k ∧ v = .bool true) := by
  show WC P inFn (.seq _ fsF) _ _ _ _
  have i3 := @ldx _ _ _ m3
  have l3 := @sh_l2 nm s
  obtain ⟨two, htwo⟩ : ∃ two, two = firstS [chkSh nm (L.map Prod.fst), chkTp t] := ⟨_, rfl⟩
  rw [← htwo] at t13 he2
  by_cases hz : two = 0
  case neg =>
    have d1 : decide (two = 0) = false := decide_eq_false hz
    have e2t : e2 = two := by rw [he2, firstS, if_neg hz]
    rw [if_neg (by rw [e2t]; exact hz)] at hr2
    obtain ⟨rfl, rfl⟩ := hr2
    rw [← e2t] at t13
    refine Rs (A12 @t2 @t3 @t7 @t8 @t9 @t10 @t12 @t13 @t14 @t15 @d1 @e2t) ?_
    exact fs_F T (e1 := e1) (e2 := e2) (b7 := b7) (b9 := b9) (b14 := b14) (b15 := b15) Sn (Sq @t7) (Sq @t8) (Sq @t9) (Sq @t10) (Sq @t12) (Sq @t13) (Sq @t14) (Sq @t15) e0 m7 m9 m14 m15 r7 r9 r14 .nil q1 .nil
  have d1 : decide (two = 0) = true := decide_eq_true hz
  obtain ⟨c1, c2⟩ := first2 (htwo.symm.trans hz)
  obtain ⟨_, _, hl64, hct⟩ := chkSh_z c1
  have hct' : ∀ x ∈ L, chkTr x.1 = 0 := fun x hx => hct x.1 (List.mem_map_of_mem hx)
  have ht := chkTp_z c2
  have e2e : e2 = errL (eachE t) L := by
    rw [he2, hz]
    show (if (0 : Int) = 0 then (if errL (eachE t) L = 0 then 0 else errL (eachE t) L) else 0) = _
    rw [if_pos rfl]
    by_cases q : errL (eachE t) L = 0
    · rw [if_pos q, q]
    · rw [if_neg q]
  have pl := p.l
  refine Rs (A13 @t2 @t3 @t7 @t8 @t9 @t10 @t12 @t13 @t14 @t15 @d1 @i3 @l3) ?_
  refine WF.res T.c93 (r93 T (os.ext e0) (by omega) p.sz (h2.ext e0) ht hct') ?_
  rintro _ g1 ⟨r, rfl, hr⟩
  rw [← e2e] at hr ⊢
  have eG : Ext Y (Y ++ g1) := Xx
  have l15Y := (List.getElem?_eq_some_iff.1 m15).1
  by_cases hq : e2 = 0
  · rw [if_pos hq] at hr hr2
    obtain ⟨v15', U15', rfl, o15, f15, nb15, nx15⟩ := hr
    obtain ⟨rfl, f9⟩ := hr2
    have f15 : U15'.map Prod.fst = (L.map Prod.fst).map (eacT t) := by rw [f15, List.map_map]; rfl
    have hE := errL_all (e2e.symm.trans hq)
    have q2 : ShEq U9 U15' := ShEq.of f9 f15 fun y hy => by
      obtain ⟨x, hx, rfl⟩ := List.mem_map.1 hy
      refine eac_eq (hct' x hx) ((hE x hx).imp id fun q => ?_)
      unfold eachE at q
      by_cases hf : fitsB (apL t (x.1.sm.map gridN) (-1)) = true
      · exact hf
      · rw [if_neg hf] at q; cases q
    have s15 : storeF 2 (.ptr b15 0) (.agg [.str n2, v15']) (fun z => (Y ++ g1)[z]?) = some (undefA, .set b15 (.cells (shC n2 v15') true false)) := by
      rw [storeF_at (eG.some m15)]; exact sh_st o15.sl.one
    have r15 : ResS (Y ++ g1) n2 v15' U15' := ResS.of o15 f15 (by rw [List.length_map]; omega) (fun y hy => by
      obtain ⟨x, hx, rfl⟩ := List.mem_map.1 hy
      show ((apL t (x.1.sm.map gridN) (-1)).map smpl).length < _
      rw [List.length_map, apL_len, List.length_map]
      have := p.s x hx
      omega)
    obtain ⟨W, hW⟩ : ∃ W, W = (Y ++ g1).set b15 (.cells (shC n2 v15') true false) := ⟨_, rfl⟩
    have hW' : Y.set b15 (.cells (shC n2 v15') true false) ++ g1 = W := by rw [hW, List.set_append_left _ _ l15Y]
    have eW : Ext h W := by rw [hW]; exact ext_setG (e0.trans eG) n15
    have M7 : W[b7]? = some (.cells (shC n1 v7) true false) := by rw [hW]; exact set_ne' n7.symm (eG.some m7)
    have M9 : W[b9]? = some (.cells (shC n2 v9) true false) := by rw [hW]; exact set_ne' n9.symm (eG.some m9)
    have M14 : W[b14]? = some (.cells (shC n1 v14) true false) := by rw [hW]; exact set_ne' n14.symm (eG.some m14)
    have M15 : W[b15]? = some (.cells (shC n2 v15') true false) := by rw [hW]; exact set_eq' (eG.some m15)
    have R7 : ResS W n1 v7 U7 := by rw [hW]; exact (r7.ext eG).setb x7.1 x7.2
    have R9 : ResS W n2 v9 U9 := by rw [hW]; exact (r9.ext eG).setb x9.1 x9.2
    have R14 : ResS W n1 v14 U14 := by rw [hW]; exact (r14.ext eG).setb x14.1 x14.2
    have R15 : ResS W n2 v15' U15' := by rw [hW]; exact r15.setb (nb15 b15 l15Y) (fun x hx => nx15 x hx b15 l15Y)
    refine Rs (A10 @t2 @t3 @t7 @t8 @t9 @t10 @t12 @t14 @t15 @s15) ?_
    first | rw [hW'] | rw [← hW]
    exact fs_F T (e1 := e1) (e2 := e2) (b7 := b7) (b9 := b9) (b14 := b14) (b15 := b15) Sn (Sq @t7) (Sq @t8) (Sq @t9) (Sq @t10) (Sq @t12) Sw (Sq @t14) (Sq @t15) eW M7 M9 M14 M15 R7 R9 R14 R15 q1 q2
  · rw [if_neg hq] at hr hr2
    subst hr
    obtain ⟨rfl, rfl⟩ := hr2
    have s15 : storeF 2 (.ptr b15 0) (.agg [.str [], .nilSlice]) (fun z => (Y ++ g1)[z]?) = some (undefA, .set b15 (.cells (shC [] .nilSlice) true false)) := by
      rw [storeF_at (eG.some m15)]; exact sh_st rfl
    obtain ⟨W, hW⟩ : ∃ W, W = (Y ++ g1).set b15 (.cells (shC [] .nilSlice) true false) := ⟨_, rfl⟩
    have hW' : Y.set b15 (.cells (shC [] .nilSlice) true false) ++ g1 = W := by rw [hW, List.set_append_left _ _ l15Y]
    have eW : Ext h W := by rw [hW]; exact ext_setG (e0.trans eG) n15
    have M7 : W[b7]? = some (.cells (shC n1 v7) true false) := by rw [hW]; exact set_ne' n7.symm (eG.some m7)
    have M9 : W[b9]? = some (.cells (shC [] v9) true false) := by rw [hW]; exact set_ne' n9.symm (eG.some m9)
    have M14 : W[b14]? = some (.cells (shC n1 v14) true false) := by rw [hW]; exact set_ne' n14.symm (eG.some m14)
    have M15 : W[b15]? = some (.cells (shC [] .nilSlice) true false) := by rw [hW]; exact set_eq' (eG.some m15)
    have R7 : ResS W n1 v7 U7 := by rw [hW]; exact (r7.ext eG).setb x7.1 x7.2
    have R9 : ResS W [] v9 [] := by rw [hW]; exact (r9.ext eG).setb x9.1 x9.2
    have R14 : ResS W n1 v14 U14 := by rw [hW]; exact (r14.ext eG).setb x14.1 x14.2
    refine Rs (A10 @t2 @t3 @t7 @t8 @t9 @t10 @t12 @t14 @t15 @s15) ?_
    first | rw [hW'] | rw [← hW]
    exact fs_F T (e1 := e1) (e2 := e2) (b7 := b7) (b9 := b9) (b14 := b14) (b15 := b15) Sn (Sq @t7) (Sq @t8) (Sq @t9) (Sq @t10) (Sq @t12) Sw (Sq @t14) (Sq @t15) eW M7 M9 M14 M15 R7 R9 R14 .nil q1 .nil
set_option maxHeartbeats 8000000 in
theorem fs_D (X : Xfl P) {nm : List UInt8} {s s1 s2 : AV} {L : List (Trc × AV)} {t : List Int} {l : List (Int × Int)} (os : ShOk h L s) (h1 : IsSl h s1 2 (l.map ratR)) (h2 : IsSl h s2 1 (t.map intRow)) (p : ShtP nm L) (hll : l.length < 2 ^ 40) (htl : t.length < 2 ^ 40) (hlen : ts.length = 95) (t1 : slot ts 1 = s1) (t2 : slot ts 2 = s2) (t3 : slot ts 3 = .ptr b3 0) (t7 : slot ts 7 = .ptr b7 0) (t8 : slot ts 8 = .int .i64 e1) (t9 : slot ts 9 = .ptr b9 0) (t10 : slot ts 10 = .int .i64 e2) (e0 : Ext h Y)
    (m3 : Y[b3]? = some (.cells (shC nm s) true false)) (m7 : Y[b7]? = some (.cells (shC n1 v7) true false)) (m9 : Y[b9]? = some (.cells (shC n2 v9) true false))
    (r7 : ResS Y n1 v7 U7) (r9 : ResS Y n2 v9 U9) (he1 : e1 = firstS [chkSh nm (L.map Prod.fst), chkTs l]) (hr1 : if e1 = 0 then n1 = nm ∧ U7.map Prod.fst = (L.map Prod.fst).map (chgF (corF l)) else n1 = [] ∧ U7 = [])
    (he2 : e2 = firstS [firstS [chkSh nm (L.map Prod.fst), chkTp t], errL (eachE t) L]) (hr2 : if e2 = 0 then n2 = nm ∧ U9.map Prod.fst = (L.map Prod.fst).map (chgF (eacF t)) else n2 = [] ∧ U9 = []) :
    WC P inFn fsD [] ts Y (FQ [(6, none)] fun v k => Ext h k ∧ v = .bool true) := by
  show WC P inFn (.seq _ (.seq _ (.seq _ (.seq _ fsG)))) _ _ _ _
  have i3 := @ldx _ _ _ m3
  have l3 := @sh_l2 nm s
  have pl := p.l
  have pn := p.n
  have bz : ∀ {N : Nat}, boxF (.agg [.str [], .nilSlice]) N = some (.ptr N 0, .push (.cells (shC [] .nilSlice) true false)) := fun {N} => rfl
  refine Rs (A9 @t1 @t2 @t3 @t7 @t8 @t9 @t10 @i3 @l3) ?_
  refine WF.ce T.c91 (r91 T X (by omega) (os.ext e0) p.sz) fun g1 => ?_
  refine Rs (A7 @t1 @t2 @t3 @t7 @t8 @t9 @t10) ?_
  refine WF.ce T.c54 (r54 T ((h1.ext e0).ext Xx) hll) fun g2 => ?_
  refine Rs (A7 @t1 @t2 @t3 @t7 @t8 @t9 @t10) ?_
  refine WF.ce T.c27 (r27 T (isSl_ints [_, _]) (by simp)) fun g3 => ?_
  refine Rs (A7 @t1 @t2 @t3 @t7 @t8 @t9 @t10) ?_
  refine WF.ce T.c26 (r26 T ((h2.ext e0).ext Xx) htl) fun g4 => ?_
  refine Rs (A7 @t1 @t2 @t3 @t7 @t8 @t9 @t10) ?_
  refine WF.ce T.c27 (r27 T (isSl_ints [_, _]) (by simp)) fun g5 => ?_
  rw [← he1]
  obtain ⟨two, htwo⟩ : ∃ two, two = firstS [chkSh nm (L.map Prod.fst), chkTp t] := ⟨_, rfl⟩
  rw [← htwo]
  obtain ⟨K, hK⟩ : ∃ K, K = Y ++ g1 ++ g2 ++ [ABlk.cells [AV.int .i64 (chkSh nm (L.map Prod.fst)), AV.int .i64 (chkTs l)] true true] ++ g3 ++ g4 ++ [ABlk.cells [AV.int .i64 (chkSh nm (L.map Prod.fst)), AV.int .i64 (chkTp t)] true true] ++ g5 := ⟨_, rfl⟩
  have eK : Ext Y K := by rw [hK]; exact Xx
  rw [← hK]
  clear hK
  obtain ⟨W, hW⟩ : ∃ W, W = K ++ [ABlk.cells (shC [] .nilSlice) true false] ++ [ABlk.cells (shC [] .nilSlice) true false] := ⟨_, rfl⟩
  have eKW : Ext K W := by rw [hW]; exact Xx
  have m14 : W[K.length]? = some (.cells (shC [] .nilSlice) true false) := by rw [hW]; exact at_1
  have m15 : W[(K ++ [ABlk.cells (shC [] .nilSlice) true false]).length]? = some (.cells (shC [] .nilSlice) true false) := by rw [hW]; exact at_new
  obtain ⟨b14, hb14⟩ : ∃ b, b = K.length := ⟨_, rfl⟩
  obtain ⟨b15, hb15⟩ : ∃ b, b = (K ++ [ABlk.cells (shC [] .nilSlice) true false]).length := ⟨_, rfl⟩
  have hb15' : b15 = b14 + 1 := by rw [hb15, hb14, List.length_append]; rfl
  rw [← hb14] at m14
  rw [← hb15] at m15
  have eW := eK.trans eKW
  have kl := eK.len
  have yl := e0.len
  have k3 := (List.getElem?_eq_some_iff.1 (eK.some m3)).1
  have k7 := (List.getElem?_eq_some_iff.1 (eK.some m7)).1
  have k9 := (List.getElem?_eq_some_iff.1 (eK.some m9)).1
  have x7 : ∀ c, K.length ≤ c → NotB c v7 ∧ ∀ x ∈ U7, NotB c x.2 := fun c hc => ⟨(r7.ext eK).ok.sl.notB hc, fun x hx => ((r7.ext eK).ok.all x hx).notB hc⟩
  have x9 : ∀ c, K.length ≤ c → NotB c v9 ∧ ∀ x ∈ U9, NotB c x.2 := fun c hc => ⟨(r9.ext eK).ok.sl.notB hc, fun x hx => ((r9.ext eK).ok.all x hx).notB hc⟩
  have y7 := x7 b15 (by omega)
  have y9 := x9 b15 (by omega)
  have z7 := x7 b14 (by omega)
  have z9 := x9 b14 (by omega)
  by_cases hz : e1 = 0
  case neg =>
    have d1 : decide (e1 = 0) = false := decide_eq_false hz
    rw [if_neg hz] at hr1
    obtain ⟨rfl, rfl⟩ := hr1
    refine Rs (A9 @t1 @t2 @t3 @t7 @t8 @t9 @t10 @bz @d1) ?_
    rw [← hW, ← hb14, ← hb15]
    exact fs_G T (e1 := e1) (e2 := e2) (b3 := b3) (b7 := b7) (b9 := b9) (b14 := b14) (b15 := b15) (v7 := v7) (v9 := v9) (U7 := []) (U9 := U9) (U14 := []) (v14 := .nilSlice) (n1 := []) (n2 := n2) (t := t) (s2 := s2) os h2 p Sn (Sq @t2) (Sq @t3) (Sq @t7) (Sq @t8) (Sq @t9) (Sq @t10) Sw (by rw [← htwo]; exact Zn trivial) Sw Sw (e0.trans eW) (eW.some m3) (eW.some m7) (eW.some m9) m14 m15 (by omega) (by omega) (by omega) (by omega) (r7.ext eW) (r9.ext eW) .nil .nil y7 y9 ⟨fun _ _ _ _ q => (by cases q), fun x hx => (by cases hx)⟩ he2 hr2
  have d1 : decide (e1 = 0) = true := decide_eq_true hz
  rw [if_pos hz] at hr1
  obtain ⟨rfl, f7⟩ := hr1
  obtain ⟨c1, c2⟩ := first2 (he1.symm.trans hz)
  obtain ⟨_, _, hl64, hct⟩ := chkSh_z c1
  have hct' : ∀ x ∈ L, chkTr x.1 = 0 := fun x hx => hct x.1 (List.mem_map_of_mem hx)
  obtain ⟨ok, ok1, ok2⟩ := chkTs_z c2
  have i3 := @ldx _ _ _ (eK.some m3)
  refine Rs (A11 @t1 @t2 @t3 @t7 @t8 @t9 @t10 @bz @d1 @i3 @l3) ?_
  rw [← hW, ← hb14, ← hb15]
  refine WF.res T.c92 (r92 T (os.ext (e0.trans eW)) (by omega) p.sz (h1.ext (e0.trans eW)) ok ok1 ok2 hct') ?_
  rintro _ g6 ⟨v14', U14', rfl, o14, f14, nb14, nx14⟩
  have f14 : U14'.map Prod.fst = (L.map Prod.fst).map (corT l) := by rw [f14, List.map_map]; rfl
  have q1 : ShEq U7 U14' := ShEq.of f7 f14 fun y hy => cor_eq (hct y hy)
  have eG : Ext W (W ++ g6) := Xx
  have l14 := (List.getElem?_eq_some_iff.1 m14).1
  have l15 := (List.getElem?_eq_some_iff.1 m15).1
  have s14 : storeF 2 (.ptr b14 0) (.agg [.str n1, v14']) (fun z => (W ++ g6)[z]?) = some (undefA, .set b14 (.cells (shC n1 v14') true false)) := by
    rw [storeF_at (eG.some m14)]; exact sh_st o14.sl.one
  have r14 : ResS (W ++ g6) n1 v14' U14' := ResS.of o14 f14 (by rw [List.length_map]; omega) (fun y hy => by
    obtain ⟨x, hx, rfl⟩ := List.mem_map.1 hy
    show (shfF x.1.sm _).length < _
    rw [shfF_len]
    have := p.s x hx
    omega)
  obtain ⟨V, hV⟩ : ∃ V, V = (W ++ g6).set b14 (.cells (shC n1 v14') true false) := ⟨_, rfl⟩
  have hV' : W.set b14 (.cells (shC n1 v14') true false) ++ g6 = V := by rw [hV, List.set_append_left _ _ l14]
  have eV : Ext h V := by rw [hV]; exact ext_setG ((e0.trans eW).trans eG) (by omega)
  have M3 : V[b3]? = some (.cells (shC n1 s) true false) := by rw [hV]; exact set_ne' (by omega) ((eW.trans eG).some m3)
  have M7 : V[b7]? = some (.cells (shC n1 v7) true false) := by rw [hV]; exact set_ne' (by omega) ((eW.trans eG).some m7)
  have M9 : V[b9]? = some (.cells (shC n2 v9) true false) := by rw [hV]; exact set_ne' (by omega) ((eW.trans eG).some m9)
  have M14 : V[b14]? = some (.cells (shC n1 v14') true false) := by rw [hV]; exact set_eq' (eG.some m14)
  have M15 : V[b15]? = some (.cells (shC [] .nilSlice) true false) := by rw [hV]; exact set_ne' (by omega) (eG.some m15)
  have R7 : ResS V n1 v7 U7 := by rw [hV]; exact (r7.ext (eW.trans eG)).setb z7.1 z7.2
  have R9 : ResS V n2 v9 U9 := by rw [hV]; exact (r9.ext (eW.trans eG)).setb z9.1 z9.2
  have R14 : ResS V n1 v14' U14' := by rw [hV]; exact r14.setb (nb14 b14 l14) (fun x hx => nx14 x hx b14 l14)
  refine Rs (A8 @t1 @t2 @t3 @t7 @t8 @t9 @t10 @s14) ?_
  first | rw [hV'] | rw [← hV]
  exact fs_G T (e1 := e1) (e2 := e2) (b3 := b3) (b7 := b7) (b9 := b9) (b14 := b14) (b15 := b15) (v7 := v7) (v9 := v9) (U7 := U7) (U9 := U9) (U14 := U14') (v14 := v14') (n1 := n1) (n2 := n2) (t := t) (s2 := s2) os h2 p Sn (Sq @t2) (Sq @t3) (Sq @t7) (Sq @t8) (Sq @t9) (Sq @t10) Sw (by rw [← htwo]; exact Zn trivial) Sw Sw eV M3 M7 M9 M14 M15 (by omega) (by omega) (by omega) (by omega) R7 R9 R14 q1 y7 y9 ⟨nb14 b15 l15, fun x hx => nx14 x hx b15 l15⟩ he2 hr2
set_option maxHeartbeats 8000000 in
theorem fs_B (X : Xfl P) (rg : Rng h) {nm : List UInt8} {s s1 s2 : AV} {L : List (Trc × AV)} {t : List Int} {l : List (Int × Int)} (os : ShOk h L s) (h1 : IsSl h s1 2 (l.map ratR)) (h2 : IsSl h s2 1 (t.map intRow)) (p : ShtP nm L) (hll : l.length < 2 ^ 40) (htl : t.length < 2 ^ 40) (hlen : ts.length = 95) (t1 : slot ts 1 = s1) (t2 : slot ts 2 = s2) (t3 : slot ts 3 = .ptr b3 0) (e0 : Ext h Y) (m3 : Y[b3]? = some (.cells (shC nm s) true false)) :
    WC P inFn fsB [] ts Y (FQ [(6, none)] fun v k => Ext h k ∧ v = .bool true) := by
  show WC P inFn (.seq _ (.seq _ fsD)) _ _ _ _
  have i3 := @ldx _ _ _ m3
  have l3 := @sh_l2 nm s
  have pl := p.l
  have bz : ∀ {N : Nat}, boxF (.agg [.str [], .nilSlice]) N = some (.ptr N 0, .push (.cells (shC [] .nilSlice) true false)) := fun {N} => rfl
  have shl : ∀ {A : List (Trc × AV)}, A.map Prod.fst = L.map Prod.fst → ShSz A ∧ A.length < 2 ^ 38 := fun {A} hA => by
    have la : A.length = L.length := by have := congrArg List.length hA; simpa using this
    refine ⟨⟨by omega, fun x hx => ?_⟩, by omega⟩
    have : x.1 ∈ L.map Prod.fst := by rw [← hA]; exact List.mem_map_of_mem hx
    obtain ⟨y, hy, e⟩ := List.mem_map.1 this
    rw [← e]
    have := p.s y hy
    omega
  have lim : ∀ {G : Trc → List Nat}, (∀ x ∈ L, (G x.1).length < 2 ^ 40) → ∀ y ∈ L.map Prod.fst, (chgF G y).sm.length < 2 ^ 40 := fun {G} hG y hy => by
    obtain ⟨x, hx, rfl⟩ := List.mem_map.1 hy
    have := p.s x hx
    exact chg_len (by omega) (hG x hx)
  refine Rs (A5 @t1 @t2 @t3 @i3 @l3) ?_
  refine WF.res T.c89 (r89 T (os.ext e0) p.sz (by omega)) ?_
  rintro _ g1 ⟨sv, A, rfl, oA, fA⟩
  obtain ⟨zA, lA⟩ := shl fA
  have ov := oA.sl.one
  refine Rs (A3 @t1 @t2 @t3) ?_
  refine WF.res T.c53 (r53 T ((h1.ext e0).ext Xx) hll) ?_
  intro sl g2 isl
  refine Rs (A3 @t1 @t2 @t3) ?_
  refine WF.res T.c88 (r88 T ((rg.ext e0).ext Xx) (oA.ext Xx) zA lA isl hll) ?_
  rintro _ g3 ⟨r, e1, rfl, hR⟩
  obtain ⟨he1, hr1⟩ := hR
  have he1 : e1 = firstS [chkSh nm (L.map Prod.fst), chkTs l] := by
    rw [he1, fA, errL_zero]
    show (if firstS [chkSh nm (L.map Prod.fst), chkTs l] = 0 then (if (0 : Int) = 0 then 0 else 0) else firstS [chkSh nm (L.map Prod.fst), chkTs l]) = _
    by_cases q : firstS [chkSh nm (L.map Prod.fst), chkTs l] = 0
    · rw [if_pos q, q]; rfl
    · rw [if_neg q]
  obtain ⟨K1, hK1⟩ : ∃ K, K = Y ++ g1 ++ g2 ++ g3 := ⟨_, rfl⟩
  have eK1 : Ext Y K1 := by rw [hK1]; exact Xx
  rw [← hK1] at hr1 ⊢
  clear hK1 isl oA
  obtain ⟨n1, v7, U7, rfl, ov7, r7, hr7⟩ : ∃ (n1 : List UInt8) (v7 : AV) (U7 : List (Trc × AV)), r = .agg [.str n1, v7] ∧ v7.one = true ∧ ResS K1 n1 v7 U7 ∧ if e1 = 0 then n1 = nm ∧ U7.map Prod.fst = (L.map Prod.fst).map (chgF (corF l)) else n1 = [] ∧ U7 = [] := by
    by_cases q : e1 = 0
    · rw [if_pos q] at hr1
      obtain ⟨s', L', rfl, ok', fl'⟩ := hr1
      rw [chg_map (G := corG l) (F := corF l) (fun x => rfl), fA] at fl'
      refine ⟨nm, s', L', rfl, ok'.sl.one, ResS.of ok' fl' (by rw [List.length_map]; omega) (lim fun x hx => ?_), by rw [if_pos q]; exact ⟨rfl, fl'⟩⟩
      show ((shfL _ _).map smpl).length < _
      rw [List.length_map, shfL_len, List.length_map]
      have := p.s x hx
      omega
    · rw [if_neg q] at hr1
      exact ⟨[], .nilSlice, [], hr1, rfl, .nil, by rw [if_neg q]; exact ⟨rfl, rfl⟩⟩
  have st7 : ∀ {n : Nat}, stB 2 0 (.agg [.str n1, v7]) n (.cells (shC [] .nilSlice) true false) = some (undefA, .set n (.cells (shC n1 v7) true false)) := fun {n} => sh_st ov7
  refine Rs (A6 @t1 @t2 @t3 @bz @st7 @ov7) ?_
  obtain ⟨K2, hK2⟩ : ∃ K, K = K1 ++ [ABlk.cells (shC n1 v7) true false] := ⟨_, rfl⟩
  have eK2 : Ext K1 K2 := by rw [hK2]; exact Xx
  have m7 : K2[K1.length]? = some (.cells (shC n1 v7) true false) := by rw [hK2]; exact at_new
  obtain ⟨b7, hb7⟩ : ∃ b, b = K1.length := ⟨_, rfl⟩
  rw [← hb7] at m7
  rw [← hK2, ← hb7]
  clear hK2 hb7
  have eY2 := eK1.trans eK2
  have i3 := @ldx _ _ _ (eY2.some m3)
  refine Rs (A5 @t1 @t2 @t3 @i3 @l3) ?_
  refine WF.res T.c89 (r89 T (os.ext (e0.trans eY2)) p.sz (by omega)) ?_
  rintro _ g4 ⟨sv2, U2, rfl, oA2, fA2⟩
  obtain ⟨zA2, lA2⟩ := shl fA2
  refine Rs (A3 @t1 @t2 @t3) ?_
  refine WF.res T.c21 (r21 T ((h2.ext (e0.trans eY2)).ext Xx) htl) ?_
  intro sl2 g5 isl2
  refine Rs (A3 @t1 @t2 @t3) ?_
  refine WF.res T.c90 (r90 T ((rg.ext (e0.trans eY2)).ext Xx) (oA2.ext Xx) zA2 lA2 isl2 htl) ?_
  rintro _ g6 ⟨r2, e2, rfl, hR2⟩
  obtain ⟨he2, hr2⟩ := hR2
  rw [fA2, errL_fst (E := eachE t) (fun _ _ _ => rfl) fA2] at he2
  obtain ⟨K3, hK3⟩ : ∃ K, K = K2 ++ g4 ++ g5 ++ g6 := ⟨_, rfl⟩
  have eK3 : Ext K2 K3 := by rw [hK3]; exact Xx
  rw [← hK3] at hr2 ⊢
  clear hK3 isl2 oA2
  obtain ⟨n2, v9, U9, rfl, ov9, r9, hr9⟩ : ∃ (n2 : List UInt8) (v9 : AV) (U9 : List (Trc × AV)), r2 = .agg [.str n2, v9] ∧ v9.one = true ∧ ResS K3 n2 v9 U9 ∧ if e2 = 0 then n2 = nm ∧ U9.map Prod.fst = (L.map Prod.fst).map (chgF (eacF t)) else n2 = [] ∧ U9 = [] := by
    by_cases q : e2 = 0
    · rw [if_pos q] at hr2
      obtain ⟨s', L', rfl, ok', fl'⟩ := hr2
      rw [chg_map (G := eachG t) (F := eacF t) (fun x => rfl), fA2] at fl'
      refine ⟨nm, s', L', rfl, ok'.sl.one, ResS.of ok' fl' (by rw [List.length_map]; omega) (lim fun x hx => ?_), by rw [if_pos q]; exact ⟨rfl, fl'⟩⟩
      show ((apL _ _ _).map smpl).length < _
      rw [List.length_map, apL_len, List.length_map]
      have := p.s x hx
      omega
    · rw [if_neg q] at hr2
      exact ⟨[], .nilSlice, [], hr2, rfl, .nil, by rw [if_neg q]; exact ⟨rfl, rfl⟩⟩
  have st9' : ∀ {n : Nat}, stB 2 0 (.agg [.str n2, v9]) n (.cells (shC [] .nilSlice) true false) = some (undefA, .set n (.cells (shC n2 v9) true false)) := fun {n} => sh_st ov9
  refine Rs (A6 @t1 @t2 @t3 @bz @st9' @ov9) ?_
  obtain ⟨K4, hK4⟩ : ∃ K, K = K3 ++ [ABlk.cells (shC n2 v9) true false] := ⟨_, rfl⟩
  have eK4 : Ext K3 K4 := by rw [hK4]; exact Xx
  have m9 : K4[K3.length]? = some (.cells (shC n2 v9) true false) := by rw [hK4]; exact at_new
  obtain ⟨b9, hb9⟩ : ∃ b, b = K3.length := ⟨_, rfl⟩
  rw [← hb9] at m9
  rw [← hK4, ← hb9]
  clear hK4 hb9
  have e24 := eK3.trans eK4
  exact fs_D T (e1 := e1) (e2 := e2) (b3 := b3) (b7 := b7) (b9 := b9) (v7 := v7) (v9 := v9) (U7 := U7) (U9 := U9) (n1 := n1) (n2 := n2) (t := t) (l := l) (s1 := s1) (s2 := s2) X os h1 h2 p hll htl Sn (Sq @t1) (Sq @t2) (Sq @t3) Sw Sw Sw Sw (e0.trans (eY2.trans e24)) ((eY2.trans e24).some m3) (e24.some m7) m9 (r7.ext (eK2.trans e24)) (r9.ext eK4) he1 hr7 he2 hr9
set_option maxHeartbeats 4000000 in
theorem r13 (X : Xfl P) (rg : Rng h) (hw : ∀ k, Ext h k → RCall P 17 [] k (fun v _ => v = .bool true)) {nm : List UInt8} {s s1 s2 : AV} {L : List (Trc × AV)} {t : List Int} {l : List (Int × Int)} (os : ShOk h L s) (hL : L.length < 2 ^ 63) (h1 : IsSl h s1 2 (l.map ratR)) (h2 : IsSl h s2 1 (t.map intRow)) : RCall P 13 [.agg [.str nm, s], s1, s2] h (fun v _ => v = .bool true) := by
  refine .st3 95 T.mix T.c13 ?_;intro ts hlen t0 t1 t2;unfold fn13
  show WC P inFn (.seq _ (.seq _ fsB)) _ _ _ _
  have bx := @sh_box nm s os.sl.one
  have l3 := @sh_l2 nm s
  refine Rs (A4 @t0 @t1 @t2 @bx) ?_
  obtain ⟨H0, hH0⟩ : ∃ H0, H0 = h ++ [ABlk.cells (shC nm s) true false] := ⟨_, rfl⟩
  have e0 : Ext h H0 := by rw [hH0]; exact ⟨_, rfl⟩
  have m3 : H0[h.length]? = some (.cells (shC nm s) true false) := by rw [hH0]; exact at_new
  obtain ⟨b3, hb3⟩ : ∃ b3, b3 = h.length := ⟨_, rfl⟩
  rw [← hb3] at m3
  rw [← hH0, ← hb3]
  clear hH0 hb3
  refine WF.ce T.c17 (hw _ e0) fun g1 => ?_
  have i3 := @ldx _ _ _ m3
  refine Rs (A6 @t0 @t1 @t2 @Bool.not_true @i3 @l3) ?_
  refine WF.res T.c87 (r87 T ((os.ext e0).ext Xx) hL) ?_
  rintro _ g2 ⟨b, rfl, hb⟩
  have e1 := e0.trans (show Ext H0 (H0 ++ g1 ++ g2) from Xx)
  cases b with
  | false =>
    refine Rs (A4 @t0 @t1 @t2 @Bool.not_false) ?_
    refine WF.ce T.c17 (hw _ e1) fun g3 => ?_
    refine Rs (A2 @t0 @t1) ?_
    exact ⟨e1.trans Xx, trivial⟩
  | true =>
    have p := hb rfl
    refine Rs (A4 @t0 @t1 @t2 @Bool.not_true) ?_
    refine WF.ce T.c51 (r51 T (h1.ext e1)) fun g3 => ?_
    have e2 := e1.trans (show Ext (H0 ++ g1 ++ g2) (H0 ++ g1 ++ g2 ++ g3) from Xx)
    cases hst : (decide (l.length ≤ 4) || decide (l.length = 17)) with
    | false =>
      refine Rs (A4 @t0 @t1 @t2 @Bool.not_false) ?_
      refine WF.ce T.c17 (hw _ e2) fun g4 => ?_
      refine Rs (A2 @t0 @t1) ?_
      exact ⟨e2.trans Xx, trivial⟩
    | true =>
      have hll : l.length < 2 ^ 40 := by
        simp only [Bool.or_eq_true, decide_eq_true_eq] at hst
        omega
      refine Rs (A4 @t0 @t1 @t2 @Bool.not_true) ?_
      refine WF.ce T.c18 (r18 T (h2.ext e2)) fun g4 => ?_
      have e3 := e2.trans (show Ext (H0 ++ g1 ++ g2 ++ g3) (H0 ++ g1 ++ g2 ++ g3 ++ g4) from Xx)
      by_cases hst2 : (t.length : Int) ≤ 9
      case neg =>
        have d1 : decide ((t.length : Int) ≤ 9) = false := decide_eq_false hst2
        refine Rs (A5 @t0 @t1 @t2 @d1 @Bool.not_false) ?_
        refine WF.ce T.c17 (hw _ e3) fun g5 => ?_
        refine Rs (A2 @t0 @t1) ?_
        exact ⟨e3.trans Xx, trivial⟩
      have d1 : decide ((t.length : Int) ≤ 9) = true := decide_eq_true hst2
      refine Rs (A5 @t0 @t1 @t2 @d1 @Bool.not_true) ?_
      exact fs_B T (b3 := b3) (nm := nm) (s := s) (s1 := s1) (s2 := s2) (L := L) (t := t) (l := l) X rg os h1 h2 p hll (by omega) Sn (Sq @t1) (Sq @t2) Sw e3 ((show Ext H0 (H0 ++ g1 ++ g2 ++ g3 ++ g4) from Xx).some m3)
end
end Go.Abs
namespace Go.Abs

def ctTr : List CT := [.int .i64, .int .i64, .int .i64, .int .i64, .int .i64, .int .i64, .int .i64, .int .i64, .bool, .sl [.flt .f32]]
theorem ty_boolX {h : AHeap} {a : AV} (x : TY h .bool a) : ∃ b : Bool, a = .bool b := by rw [TY] at x; exact x
theorem tys_tr {h : AHeap} {c : List AV} (x : TYs h ctTr c) : ∃ y : Trc × AV, c = trRow y ∧ IsSl h y.2 1 (y.1.sm.map fltR) := by
  unfold ctTr at x
  obtain ⟨a0, _, rfl, h0, x⟩ := tys_cons x
  obtain ⟨a1, _, rfl, h1, x⟩ := tys_cons x
  obtain ⟨a2, _, rfl, h2, x⟩ := tys_cons x
  obtain ⟨a3, _, rfl, h3, x⟩ := tys_cons x
  obtain ⟨a4, _, rfl, h4, x⟩ := tys_cons x
  obtain ⟨a5, _, rfl, h5, x⟩ := tys_cons x
  obtain ⟨a6, _, rfl, h6, x⟩ := tys_cons x
  obtain ⟨a7, _, rfl, h7, x⟩ := tys_cons x
  obtain ⟨a8, _, rfl, h8, x⟩ := tys_cons x
  obtain ⟨a9, _, rfl, h9, x⟩ := tys_cons x
  obtain rfl := tys_nil x
  obtain ⟨z0, rfl, _⟩ := ty_int h0
  obtain ⟨z1, rfl, _⟩ := ty_int h1
  obtain ⟨z2, rfl, _⟩ := ty_int h2
  obtain ⟨z3, rfl, _⟩ := ty_int h3
  obtain ⟨z4, rfl, _⟩ := ty_int h4
  obtain ⟨z5, rfl, _⟩ := ty_int h5
  obtain ⟨z6, rfl, _⟩ := ty_int h6
  obtain ⟨z7, rfl, _⟩ := ty_int h7
  obtain ⟨b, rfl⟩ := ty_boolX h8
  obtain ⟨S, hS, _⟩ := ty_flts h9
  exact ⟨(⟨fun n => [z0, z1, z2, z3, z4, z5, z6, z7].getD n 0, b, S⟩, a9), rfl, hS⟩
theorem tya_shot {h : AHeap} {a : AV} (x : TYa h (.agg [.str, .sl ctTr]) a) : ∃ (nm : List UInt8) (s : AV) (L : List (Trc × AV)), a = .agg [.str nm, s] ∧ ShOk h L s ∧ L.length < 2 ^ 63 := by
  obtain ⟨l, rfl, x⟩ := x
  obtain ⟨_, _, rfl, h1, x⟩ := tys_cons x
  obtain ⟨s, _, rfl, h2, x⟩ := tys_cons x
  obtain rfl := tys_nil x
  obtain ⟨nm, rfl, _⟩ := ty_str h1
  obtain ⟨cs, hs, hl, hc⟩ := ty_sl h2
  obtain ⟨L, rfl, hL⟩ := rows_of (row := trRow) (Q := fun y => IsSl h y.2 1 (y.1.sm.map fltR)) fun c hcm => tys_tr (hc c hcm)
  exact ⟨nm, s, L, rfl, ⟨hs, hL⟩, by rw [List.length_map] at hl; exact maxLen_lt hl⟩
end Go.Abs
namespace Go.Abs

/-- AWAKE, wherever what it reads is laid. -/
theorem awake_ag {k : AHeap} (ag : ∀ (b : Nat) (x : ABlk), glob0[b]? = some x → x = .dead ∨ k[b]? = some x) : RCall Go.Proofs.Tryz.prog 17 [] k (fun v _ => v = .bool true) := by
  obtain ⟨g0, hs⟩ := SCall.of_run tmix tabE_ok awake_runs
  have := hs.frame2 (h := k) glob0_len glob0_clos ⟨fun _ => none, [], by simp, rfl⟩ (clos_bool true) ag
  exact ⟨_, [], by rw [List.append_nil]; exact this, rfl⟩
def globS : AHeap := glob0.set 2 (.cells rngCells false false)
theorem globS_ag {k : AHeap} (e : Ext globS k) (b : Nat) (x : ABlk) (hb : glob0[b]? = some x) : x = .dead ∨ k[b]? = some x := by
  by_cases h : b = 2
  · subst h
    have h2 : glob0[2]? = some .dead := rfl
    rw [h2] at hb
    cases hb
    exact .inl rfl
  · refine .inr (e.some ?_)
    unfold globS
    rw [List.getElem?_set_ne (fun q => h q.symm)]
    exact hb
end Go.Abs
namespace Go.Proofs.YtbgldbmgjcgepaaGreatDoor
open Go.ChangeShapes Go.WideShapes Go.RowKit Go.Abs

theorem scS_shaped (os : Os) (args : Array Value) : ((World.laidAll Tryz.prog os Rows.filterShotsRow.laid).forCall (fun _ _ => 0) ⟨#[], args, []⟩).Shaped Tryz.prog := World.shaped_of_ZipB (by kernel_rfl) (by kernel_rfl)
theorem scS_laid (os : Os) (args : Array Value) : laidMetH Tryz.prog Rows.filterShotsRow.laid ((World.laidAll Tryz.prog os Rows.filterShotsRow.laid).forCall (fun _ _ => 0) ⟨#[], args, []⟩).memory := by
  rw [MakeChecks.laidMetH_plain _ _ _ (by kernel_rfl)]
  exact laidMet_laidAll _ (by kernel_rfl) (by kernel_rfl)
end Go.Proofs.YtbgldbmgjcgepaaGreatDoor
