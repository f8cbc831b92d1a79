/- Contracts: shots copied from one form into the other, and owned. No condition. And what belongs to it. -/
import Derived.Test.YtbgldbmgjcgepaaGreatDoorFz12
import Derived.Test.YtbgldbmgjcgepaaGreatDoorFz11
import Derived.Test.YtbgldbmgjcgepaaGreatDoorFz9
import Derived.Test.YtbgldbmgjcgepaaGreatDoorFz8
import Derived.Test.YtbgldbmgjcgepaaGreatDoorFz10
set_option linter.all false
namespace Go.Abs
set_option maxRecDepth 10000
attribute [local irreducible] WP WC WE WB WR WF WL WG WRg WQ
section
variable {P : Program} (T : Tbl P) {h : AHeap}
include T
set_option maxHeartbeats 8000000 in
theorem r89 {nm : List UInt8} {s : AV} {L : List (Trc × AV)} (o : ShOk h L s) (z : ShSz L) (zl : L.length < 2 ^ 38) : RCall P 89 [.agg [.str nm, s]] h (fun v h' => ∃ (s' : AV) (L' : List (Trc × AV)), v = .agg [.str nm, s'] ∧ ShOk h' L' s' ∧ L'.map Prod.fst = L.map Prod.fst) := by
  refine .st1 31 T.mix T.c89 ?_;intro ts hlen t0;unfold fn89
  have bx := @sh_box nm s o.sl.one
  have bz : ∀ {N : Nat}, boxF (.agg [.str [], .nilSlice]) N = some (.ptr N 0, .push (.cells (shC [] .nilSlice) true false)) := fun {N} => rfl
  have ln : ldV (shC nm s)[0]? = some (.str nm, .keep) := rfl
  have ls : ldV (shC nm s)[1]? = some (s, .keep) := rfl
  have hlm := fun G => o.sl.lenm G
  have bd : fillA [.str [], .nilSlice] [(0, 1, .str nm)] = some [.str nm, .nilSlice] := rfl
  have st3 : ∀ {n : Nat}, stB 2 0 (.agg [.str nm, .nilSlice]) n (.cells (shC [] .nilSlice) true false) = some (undefA, .set n (.cells (shC nm .nilSlice) true false)) := fun {n} => sh_st rfl
  repeat (first | simp (maxSteps := 1000000) only [wset, hset, dset, bset, Nat.reduceAdd, Nat.reduceMul, Nat.reduceLeDiff, Nat.reduceEqDiff, pset, hlen, if_false, if_true, t0, bx, bz, ln, bd, st3, ls, hlm] | simp (maxSteps := 1000000) (disch := first | (simp only [List.length_append, List.length_cons, List.length_nil] <;> omega) | rfl | omega | fail) only [kset, wset, hset, dset, bset, Nat.reduceAdd, Nat.reduceMul, Nat.reduceLeDiff, Nat.reduceEqDiff, pset, hlen, if_false, if_true, t0, bx, bz, ln, bd, st3, ls, hlm])
  obtain ⟨Y, hY⟩ : ∃ Y, Y = h ++ [ABlk.cells (shC nm s) true false] ++ [ABlk.cells (shC [] .nilSlice) true false] ++ [ABlk.cells (shC nm .nilSlice) true false] := ⟨_, rfl⟩
  have eY : Ext h Y := by rw [hY]; exact Xx
  have m1 : Y[h.length]? = some (.cells (shC nm s) true false) := by rw [hY]; exact at_2
  have m2 : Y[(h ++ [ABlk.cells (shC nm s) true false]).length]? = some (.cells (shC [] .nilSlice) true false) := by rw [hY]; exact at_1
  have m3 : Y[(h ++ [ABlk.cells (shC nm s) true false] ++ [ABlk.cells (shC [] .nilSlice) true false]).length]? = some (.cells (shC nm .nilSlice) true false) := by rw [hY]; exact at_new
  obtain ⟨b1, hb1⟩ : ∃ b, b = h.length := ⟨_, rfl⟩
  obtain ⟨b2, hb2⟩ : ∃ b, b = (h ++ [ABlk.cells (shC nm s) true false]).length := ⟨_, rfl⟩
  obtain ⟨b3, hb3⟩ : ∃ b, b = (h ++ [ABlk.cells (shC nm s) true false] ++ [ABlk.cells (shC [] .nilSlice) true false]).length := ⟨_, rfl⟩
  have n1 : h.length ≤ b1 := by omega
  have n2 : h.length ≤ b2 := by rw [hb2]; simp only [List.length_append]; omega
  have n3 : h.length ≤ b3 := by rw [hb3]; simp only [List.length_append]; omega
  have n13 : b1 ≠ b3 := by rw [hb1, hb3]; simp only [List.length_append, List.length_cons, List.length_nil]; omega
  have n23 : b2 ≠ b3 := by rw [hb2, hb3]; simp only [List.length_append, List.length_cons, List.length_nil]; omega
  rw [← hb1] at m1
  rw [← hb2] at m2
  rw [← hb3] at m3
  rw [← hY, ← hb2, ← hb3]
  clear hY hb1 hb2 hb3
  have q1 := (List.getElem?_eq_some_iff.1 m1).1
  have q2 := (List.getElem?_eq_some_iff.1 m2).1
  have q3 := (List.getElem?_eq_some_iff.1 m3).1
  obtain ⟨M, hM⟩ : ∃ M, M = Y.length := ⟨_, rfl⟩
  rw [← hM] at q1 q2 q3
  have hm := eY.len
  rw [← hM] at hm
  refine WL.inv T.mix (fun n ts K => ∃ (k : Nat) (out : AV) (L' : List (Trc × AV)), k ≤ L.length ∧ n = L.length - k ∧ Ext h K ∧ M ≤ K.length ∧ K[b1]? = some (.cells (shC nm s) true false) ∧ K[b2]? = some (.cells (shC [] .nilSlice) true false) ∧ ShGr h.length M K b3 nm L' out ∧ L'.map Prod.fst = (L.take k).map Prod.fst ∧ ts.length = 31 ∧ slot ts 2 = .ptr b2 0 ∧ slot ts 3 = .ptr b3 0 ∧ slot ts 10 = s ∧ slot ts 11 = .int .i64 L.length ∧ slot ts 12 = .int .i64 k) L.length
    ⟨0, .nilSlice, [], by omega, rfl, eY, by omega, m1, m2, .nil m3, rfl, Sn, Sw, Sw, Sw, Sw, Swr⟩ ?_
  clear hlen t0 eY m1 m2 m3 hM
  rintro _ ts K ⟨k, out, L', hk, rfl, eK, hMK, m1, m2, gr, hL', hlen, t2, t3, t10, t11, t12⟩
  have oK := o.ext eK
  by_cases hlt : k < L.length
  case neg =>
    have e3 := dltF hlt
    have e4 : k = L.length := by omega
    rw [e4, List.take_length] at hL'
    have l3 := @ldx _ _ _ gr.m
    have l2 : ldB (some 2) 0 (.cells (shC nm out) true false) = some (.agg [.str nm, out], .keep) := rfl
    have s2 : storeF 2 (.ptr b2 0) (.agg [.str nm, out]) (fun z => K[z]?) = some (undefA, .set b2 (.cells (shC nm out) true false)) := by
      rw [storeF_at m2]; exact sh_st gr.fr.isSl.one
    have k2 : (K.set b2 (.cells (shC nm out) true false))[b2]? = some (.cells (shC nm out) true false) := set_eq' m2
    have f2 := @loadF_at (some 2) b2 0 _ _ k2
    refine Rs (A10 @t2 @t3 @t10 @t11 @t12 @e3 @l3 @l2 @s2 @f2) ?_
    exact ⟨ext_setG eK n2, out, L', rfl, ⟨(gr.fr.setn (gr.fr.notB q2)).isSl, fun x hx => (gr.all x hx).setb (gr.nx x hx b2 n2 q2)⟩, hL'⟩
  have e3 := dltT hlt
  have e5 := wrapN (n := k) (by omega)
  have ix := oK.sl.ixm (kk := .i64) hlt
  obtain ⟨x, hx⟩ : ∃ x, x = L[k] := ⟨_, rfl⟩
  have ld : ∀ {kk : AHeap}, Ext K kk → loadF (some 10) (elp s 10 k) (fun b => kk[b]?) = some (.agg (trRow x), .keep) := fun {kk} e => by rw [hx]; exact oK.sl.ldm hlt e
  have hmem : x ∈ L := by rw [hx]; exact List.getElem_mem _
  have hsx := oK.all x hmem
  have ox := hsx.one
  have htk : L.take (k + 1) = L.take k ++ [x] := by rw [hx]; exact List.take_succ_eq_append_getElem hlt
  have hLk : L'.length = k := by
    have := congrArg List.length hL'
    rw [List.length_map, List.length_map, List.length_take] at this
    omega
  have b10 := @z10_box
  have st := @st_tr x ox
  have gr0 := gr
  have l3 := @ldx _ _ _ gr.m
  have l3v : ldV (shC nm out)[1]? = some (out, .keep) := rfl
  have l8 := @tr_l8 x
  have l8v : ldV (trRow x)[8]? = some (.bool x.1.hole, .keep) := rfl
  have l9v : ldV (trRow x)[9]? = some (x.2, .keep) := rfl
  have oo := gr.fr.isSl.one
  refine Rs (A17 @t2 @t3 @t10 @t11 @t12 @e3 @ix @ld @b10 @st @l3 @l3v @l8 @l8v @l9v @oo @ox) ?_
  obtain ⟨K1, hK1⟩ : ∃ K1, K1 = K ++ [ABlk.cells (trRow x) true false] := ⟨_, rfl⟩
  have eK1 : Ext K K1 := by rw [hK1]; exact Xx
  have m5 : K1[K.length]? = some (.cells (trRow x) true false) := by rw [hK1]; exact at_new
  have hK1l : K1.length = K.length + 1 := by rw [hK1, List.length_append, List.length_singleton]
  rw [← hK1]
  clear hK1
  have gr := gr.ext eK1
  refine WF.res T.c22 (q22 T (hsx.ext eK1) (z.s x hmem)) ?_
  intro v g1 f1
  have ov := f1.isSl.one
  have bd := @fill_tr (x.1, v) f1.isSl.cells
  have bs := @bsl_tr (x.1, v) ov
  have eG : Ext K1 (K1 ++ g1) := Xx
  refine Rs (A9 @t2 @t3 @t10 @t11 @t12 @oo @ov @bd @bs) ?_
  refine ShGr.grow (x := (x.1, v)) (gr.ext eG) (eK.trans (eK1.trans eG)) hm (by rw [List.length_append]; omega) n3 q3 f1.isSl (gr.fr.apart_fr f1 (Nat.le_refl _)).symm (fun c h1 h2 => f1.notB (by omega)) (by omega) ?_
  intro W out' eW hMW one' mW grW eS keepM keepc apn
  have s3 := sh_st1 mW one'
  have hlist : (L' ++ [(x.1, v)]).map Prod.fst = (L.take (k + 1)).map Prod.fst := by rw [htk, List.map_append, List.map_append, hL']; rfl
  refine Rs (A8 @t2 @t3 @t10 @t11 @t12 @one' @s3 @e5) ?_
  exact ⟨L.length - (k + 1), by omega, k + 1, out', L' ++ [(x.1, v)], by omega, rfl, eS, by rw [List.length_set]; exact hMW, keepM b1 _ q1 n13 ((eK1.trans eG).some m1), keepM b2 _ q2 n23 ((eK1.trans eG).some m2), grW, hlist, rfl⟩
set_option maxHeartbeats 8000000 in
theorem r95 {nm : List UInt8} {s : AV} {L : List (Trc × AV)} (o : ShOk h L s) (z : ShSz L) (zl : L.length < 2 ^ 38) : RCall P 95 [.agg [.str nm, s]] h (fun v h' => ∃ (s' : AV) (L' : List (Trc × AV)), v = .agg [.str nm, s'] ∧ ShOk h' L' s' ∧ L'.map Prod.fst = L.map Prod.fst) := by
  refine .st1 30 T.mix T.c95 ?_;intro ts hlen t0;unfold fn95
  have bx := @sh_box nm s o.sl.one
  have bz : ∀ {N : Nat}, boxF (.agg [.str [], .nilSlice]) N = some (.ptr N 0, .push (.cells (shC [] .nilSlice) true false)) := fun {N} => rfl
  have ln : ldV (shC nm s)[0]? = some (.str nm, .keep) := rfl
  have ls : ldV (shC nm s)[1]? = some (s, .keep) := rfl
  have hlm := fun G => o.sl.lenm G
  have bd : fillA [.str [], .nilSlice] [(0, 1, .str nm)] = some [.str nm, .nilSlice] := rfl
  have st3 : ∀ {n : Nat}, stB 2 0 (.agg [.str nm, .nilSlice]) n (.cells (shC [] .nilSlice) true false) = some (undefA, .set n (.cells (shC nm .nilSlice) true false)) := fun {n} => sh_st rfl
  repeat (first | simp (maxSteps := 1000000) only [wset, hset, dset, bset, Nat.reduceAdd, Nat.reduceMul, Nat.reduceLeDiff, Nat.reduceEqDiff, pset, hlen, if_false, if_true, t0, bx, bz, ln, bd, st3, ls, hlm] | simp (maxSteps := 1000000) (disch := first | (simp only [List.length_append, List.length_cons, List.length_nil] <;> omega) | rfl | omega | fail) only [kset, wset, hset, dset, bset, Nat.reduceAdd, Nat.reduceMul, Nat.reduceLeDiff, Nat.reduceEqDiff, pset, hlen, if_false, if_true, t0, bx, bz, ln, bd, st3, ls, hlm])
  obtain ⟨Y, hY⟩ : ∃ Y, Y = h ++ [ABlk.cells (shC nm s) true false] ++ [ABlk.cells (shC [] .nilSlice) true false] ++ [ABlk.cells (shC nm .nilSlice) true false] := ⟨_, rfl⟩
  have eY : Ext h Y := by rw [hY]; exact Xx
  have m1 : Y[h.length]? = some (.cells (shC nm s) true false) := by rw [hY]; exact at_2
  have m2 : Y[(h ++ [ABlk.cells (shC nm s) true false]).length]? = some (.cells (shC [] .nilSlice) true false) := by rw [hY]; exact at_1
  have m3 : Y[(h ++ [ABlk.cells (shC nm s) true false] ++ [ABlk.cells (shC [] .nilSlice) true false]).length]? = some (.cells (shC nm .nilSlice) true false) := by rw [hY]; exact at_new
  obtain ⟨b1, hb1⟩ : ∃ b, b = h.length := ⟨_, rfl⟩
  obtain ⟨b2, hb2⟩ : ∃ b, b = (h ++ [ABlk.cells (shC nm s) true false]).length := ⟨_, rfl⟩
  obtain ⟨b3, hb3⟩ : ∃ b, b = (h ++ [ABlk.cells (shC nm s) true false] ++ [ABlk.cells (shC [] .nilSlice) true false]).length := ⟨_, rfl⟩
  have n1 : h.length ≤ b1 := by omega
  have n2 : h.length ≤ b2 := by rw [hb2]; simp only [List.length_append]; omega
  have n3 : h.length ≤ b3 := by rw [hb3]; simp only [List.length_append]; omega
  have n13 : b1 ≠ b3 := by rw [hb1, hb3]; simp only [List.length_append, List.length_cons, List.length_nil]; omega
  have n23 : b2 ≠ b3 := by rw [hb2, hb3]; simp only [List.length_append, List.length_cons, List.length_nil]; omega
  rw [← hb1] at m1
  rw [← hb2] at m2
  rw [← hb3] at m3
  rw [← hY, ← hb2, ← hb3]
  clear hY hb1 hb2 hb3
  have q1 := (List.getElem?_eq_some_iff.1 m1).1
  have q2 := (List.getElem?_eq_some_iff.1 m2).1
  have q3 := (List.getElem?_eq_some_iff.1 m3).1
  obtain ⟨M, hM⟩ : ∃ M, M = Y.length := ⟨_, rfl⟩
  rw [← hM] at q1 q2 q3
  have hm := eY.len
  rw [← hM] at hm
  refine WL.inv T.mix (fun n ts K => ∃ (k : Nat) (out : AV) (L' : List (Trc × AV)), k ≤ L.length ∧ n = L.length - k ∧ Ext h K ∧ M ≤ K.length ∧ K[b1]? = some (.cells (shC nm s) true false) ∧ K[b2]? = some (.cells (shC [] .nilSlice) true false) ∧ ShGr h.length M K b3 nm L' out ∧ L'.map Prod.fst = (L.take k).map Prod.fst ∧ ts.length = 30 ∧ slot ts 2 = .ptr b2 0 ∧ slot ts 3 = .ptr b3 0 ∧ slot ts 10 = s ∧ slot ts 11 = .int .i64 L.length ∧ slot ts 12 = .int .i64 k) L.length
    ⟨0, .nilSlice, [], by omega, rfl, eY, by omega, m1, m2, .nil m3, rfl, Sn, Sw, Sw, Sw, Sw, Swr⟩ ?_
  clear hlen t0 eY m1 m2 m3 hM
  rintro _ ts K ⟨k, out, L', hk, rfl, eK, hMK, m1, m2, gr, hL', hlen, t2, t3, t10, t11, t12⟩
  have oK := o.ext eK
  by_cases hlt : k < L.length
  case neg =>
    have e3 := dltF hlt
    have e4 : k = L.length := by omega
    rw [e4, List.take_length] at hL'
    have l3 := @ldx _ _ _ gr.m
    have l2 : ldB (some 2) 0 (.cells (shC nm out) true false) = some (.agg [.str nm, out], .keep) := rfl
    have s2 : storeF 2 (.ptr b2 0) (.agg [.str nm, out]) (fun z => K[z]?) = some (undefA, .set b2 (.cells (shC nm out) true false)) := by
      rw [storeF_at m2]; exact sh_st gr.fr.isSl.one
    have k2 : (K.set b2 (.cells (shC nm out) true false))[b2]? = some (.cells (shC nm out) true false) := set_eq' m2
    have f2 := @loadF_at (some 2) b2 0 _ _ k2
    refine Rs (A10 @t2 @t3 @t10 @t11 @t12 @e3 @l3 @l2 @s2 @f2) ?_
    exact ⟨ext_setG eK n2, out, L', rfl, ⟨(gr.fr.setn (gr.fr.notB q2)).isSl, fun x hx => (gr.all x hx).setb (gr.nx x hx b2 n2 q2)⟩, hL'⟩
  have e3 := dltT hlt
  have e5 := wrapN (n := k) (by omega)
  have ix := oK.sl.ixm (kk := .i64) hlt
  obtain ⟨x, hx⟩ : ∃ x, x = L[k] := ⟨_, rfl⟩
  have ld : ∀ {kk : AHeap}, Ext K kk → loadF (some 10) (elp s 10 k) (fun b => kk[b]?) = some (.agg (trRow x), .keep) := fun {kk} e => by rw [hx]; exact oK.sl.ldm hlt e
  have hmem : x ∈ L := by rw [hx]; exact List.getElem_mem _
  have hsx := oK.all x hmem
  have ox := hsx.one
  have htk : L.take (k + 1) = L.take k ++ [x] := by rw [hx]; exact List.take_succ_eq_append_getElem hlt
  have hLk : L'.length = k := by
    have := congrArg List.length hL'
    rw [List.length_map, List.length_map, List.length_take] at this
    omega
  have b10 := @z10_box
  have st := @st_tr x ox
  have gr0 := gr
  have l3 := @ldx _ _ _ gr.m
  have l3v : ldV (shC nm out)[1]? = some (out, .keep) := rfl
  have l8 := @tr_l8 x
  have l8v : ldV (trRow x)[8]? = some (.bool x.1.hole, .keep) := rfl
  have l9v : ldV (trRow x)[9]? = some (x.2, .keep) := rfl
  have oo := gr.fr.isSl.one
  have bd := @fill_tr x hsx.cells
  have bs := @bsl_tr x ox
  refine Rs (A19 @t2 @t3 @t10 @t11 @t12 @e3 @ix @ld @b10 @st @l3 @l3v @l8 @l8v @l9v @oo @ox @bd @bs) ?_
  obtain ⟨K1, hK1⟩ : ∃ K1, K1 = K ++ [ABlk.cells (trRow x) true false] := ⟨_, rfl⟩
  have eK1 : Ext K K1 := by rw [hK1]; exact Xx
  have m5 : K1[K.length]? = some (.cells (trRow x) true false) := by rw [hK1]; exact at_new
  have hK1l : K1.length = K.length + 1 := by rw [hK1, List.length_append, List.length_singleton]
  rw [← hK1]
  clear hK1
  have gr := gr.ext eK1
  refine ShGr.grow (x := x) gr (eK.trans eK1) hm (by omega) n3 q3 (hsx.ext eK1) ((o.all x hmem).apart_fr gr.fr hm) (fun c h1 h2 => (o.all x hmem).notB h1) (by omega) ?_
  intro W out' eW hMW one' mW grW eS keepM keepc apn
  have s3 := sh_st1 mW one'
  have hlist : (L' ++ [x]).map Prod.fst = (L.take (k + 1)).map Prod.fst := by rw [htk, List.map_append, List.map_append, hL']
  refine Rs (A8 @t2 @t3 @t10 @t11 @t12 @one' @s3 @e5) ?_
  exact ⟨L.length - (k + 1), by omega, k + 1, out', L' ++ [x], by omega, rfl, eS, by rw [List.length_set]; exact hMW, keepM b1 _ q1 n13 (eK1.some m1), keepM b2 _ q2 n23 (eK1.some m2), grW, hlist, rfl⟩
end
end Go.Abs
namespace Go.Abs
set_option maxRecDepth 10000
attribute [local irreducible] WP WC WE WB WR WF WL WG WRg WQ
section
variable {P : Program} (T : Tbl P) {h : AHeap}
include T
end
end Go.Abs
namespace Go.Abs
set_option maxRecDepth 10000
attribute [local irreducible] WP WC WE WB WR WF WL WG WRg WQ
section
variable {P : Program} (T : Tbl P) {h : AHeap}
include T
set_option maxHeartbeats 1000000 in
theorem q105 {s : AV} {l : List Int} (hs : IsSl h s 1 (l.map intRow)) (hl : l.length < 2 ^ 40) : RCall P 105 [s] h (fun v h' => ∃ (t : AV) (e : Int), v = .tup [t, .int .i64 e] ∧ if fitsB l = true then Fr h.length h' t 1 ((l.map smpl).map fltR) ∧ e = 0 else t = .nilSlice ∧ e = 4) := by
  refine .st1 8 T.mix T.c105 ?_;intro ts hlen t0;unfold fn105
  refine Rs @t0 ?_
  refine WF.ce T.c180 (r180 T hs hl) fun g1 => ?_
  cases hf : fitsB l with
  | false =>
    refine Rs (A2 @t0 @Bool.not_false) ?_
    exact ⟨.nilSlice, 4, rfl, rfl, rfl⟩
  | true =>
    refine Rs (A2 @t0 @Bool.not_true) ?_
    refine WF.res T.c182 (q182 T (hs.ext Xx) hl T.c144 (g := smpl) (fun x hx k => r144 T (fits_all hf x hx).1 (fits_all hf x hx).2)) ?_
    intro s2 g2 is2
    refine Rs @t0 ?_
    exact ⟨s2, 0, rfl, is2.low (by simp), rfl⟩
end
end Go.Abs
namespace Go.Abs
def shfL (A : List Int) (n : Int) : List Int := genL A.length fun i : Nat => atZ A ((i : Int) + n)
theorem shfL_len (A : List Int) (n : Int) : (shfL A n).length = A.length := genL_len _ _
theorem ratI_bd {n d B : Int} (hd : 1 ≤ d) (hB : d ≤ B) (hn : -B ≤ n ∧ n ≤ B) : (-B ≤ (ratI n d).1 ∧ (ratI n d).1 ≤ B) ∧ 1 ≤ (ratI n d).2 ∧ (ratI n d).2 ≤ B := by
  obtain ⟨g, hg⟩ : ∃ g : Nat, g = Int.gcd n d := ⟨_, rfl⟩
  have gd : g ∣ d.natAbs := by rw [hg]; exact Int.gcd_dvd_natAbs_right n d
  have gp : 0 < g := Nat.pos_of_dvd_of_pos gd (by omega)
  unfold ratI
  rw [← hg]
  have a1 : (n.tdiv (g : Int)).natAbs = n.natAbs / g := by rw [Int.natAbs_tdiv]; rfl
  have a2 : (d.tdiv (g : Int)).natAbs = d.natAbs / g := by rw [Int.natAbs_tdiv]; rfl
  have b1 := Nat.div_le_self n.natAbs g
  have b2 := Nat.div_le_self d.natAbs g
  have b3 : 1 ≤ d.natAbs / g := Nat.div_pos (Nat.le_of_dvd (by omega) gd) gp
  have b4 : 0 ≤ d.tdiv (g : Int) := Int.tdiv_nonneg (by omega) (by omega)
  simp only
  omega
theorem lvlF_c (b : Int × Int) (r : List (Int × Int)) (p : Option (Int × Int)) (t : Int) : lvlF (b :: r) p t = if b.1 < t then lvlF r (some b) t else some (match p with | none => (b.2, 1) | some a => interT a b t) := rfl
theorem lvlF_bd {t : Int} (ht : 0 ≤ t ∧ t ≤ 100000) : ∀ (l : List (Int × Int)) (p : Option (Int × Int)) {z : Int × Int}, (∀ x ∈ l, 0 ≤ x.1 ∧ x.1 ≤ 100000 ∧ -64 ≤ x.2 ∧ x.2 ≤ 64) → (∀ y, p = some y → (0 ≤ y.1 ∧ y.1 ≤ 100000 ∧ -64 ≤ y.2 ∧ y.2 ≤ 64) ∧ ∀ x, l.head? = some x → y.1 < x.1) → (∀ k (h : k + 1 < l.length), (l[k]'(by omega)).1 < l[k + 1].1) → lvlF l p t = some z → (-20000000 ≤ z.1 ∧ z.1 ≤ 20000000) ∧ 1 ≤ z.2 ∧ z.2 ≤ 20000000
  | [], _, _, _, _, _, h => by cases h
  | b :: r, p, z, hr, hp, ho, h => by
    have hb := hr b (List.mem_cons_self ..)
    rw [lvlF_c] at h
    by_cases hlt : b.1 < t
    · rw [if_pos hlt] at h
      refine lvlF_bd ht r (some b) (fun x hx => hr x (List.mem_cons_of_mem _ hx)) (fun y hy => ?_) (fun k hk => ho (k + 1) (by simpa using hk)) h
      cases hy
      refine ⟨hb, fun x hx => ?_⟩
      cases r with
      | nil => cases hx
      | cons c r =>
        cases hx
        exact ho 0 (by simp)
    · rw [if_neg hlt] at h
      cases p with
      | none => cases h; simp only; omega
      | some a =>
        cases h
        obtain ⟨ha, hab⟩ := hp a rfl
        have hab := hab b rfl
        obtain ⟨⟨k1, k2⟩, k3, k4⟩ := inter_bd ha hb ht
        exact ratI_bd (B := 20000000) (by omega) (by omega) ⟨by omega, by omega⟩
theorem lvlS_bd {l : List (Int × Int)} (ok : TdOk l) (h1 : 1 ≤ l.length) {t : Int} (ht : 0 ≤ t ∧ t ≤ 100000) : (-20000000 ≤ (lvlS l t).1 ∧ (lvlS l t).1 ≤ 20000000) ∧ 1 ≤ (lvlS l t).2 ∧ (lvlS l t).2 ≤ 20000000 := by
  unfold lvlS
  cases hz : lvlF l none t with
  | none =>
    have hl : l.length - 1 < l.length := by omega
    have := ok.r l[l.length - 1] (List.getElem_mem _)
    rw [Option.getD_none, List.getD_eq_getElem?_getD, List.getElem?_eq_getElem hl, Option.getD_some]
    simp only
    omega
  | some z =>
    rw [Option.getD_some]
    exact lvlF_bd ht l none ok.r (fun y hy => by cases hy) ok.o hz
theorem rndT_bd {n d : Int} (hd : 1 ≤ d ∧ d ≤ 20000000) (hn : -20000000 ≤ n ∧ n ≤ 20000000) : -50000000 ≤ rndI n d ∧ rndI n d ≤ 50000000 := by
  unfold rndI
  have h1 := Int.ediv_le_self (a := 2 * n + d) (2 * d)
  have h2 := Int.mul_ediv_add_emod (2 * n + d) (2 * d)
  have h3 := Int.emod_nonneg (2 * n + d) (show 2 * d ≠ 0 by omega)
  have h4 := Int.emod_lt_of_pos (2 * n + d) (show 0 < 2 * d by omega)
  obtain ⟨q, hq⟩ : ∃ q, q = (2 * n + d) / (2 * d) := ⟨_, rfl⟩
  rw [← hq] at h2 ⊢
  clear h1
  constructor
  · refine Int.not_lt.1 fun z => ?_
    have : 2 * d * q ≤ 2 * d * (-50000001) := Int.mul_le_mul_of_nonneg_left (by omega) (by omega)
    omega
  · refine Int.not_lt.1 fun z => ?_
    have : 2 * d * 50000001 ≤ 2 * d * q := Int.mul_le_mul_of_nonneg_left (by omega) (by omega)
    omega
def corN (l : List (Int × Int)) (f : Nat → Int) : Int := rndI (lvlS l (f 4)).1 (lvlS l (f 4)).2
theorem atZ_zero {A : List Int} (hA : ∀ x ∈ A, -16384 ≤ x ∧ x ≤ 16384) (n : Int) : fitsB (shfL A n) = true := by
  unfold fitsB
  rw [List.all_eq_true]
  intro x hx
  unfold shfL genL at hx
  obtain ⟨i, _, rfl⟩ := List.mem_map.1 hx
  have := atZ_bd hA ((i : Int) + n)
  unfold fitB
  simp only [Bool.and_eq_true, decide_eq_true_eq]
  exact this
def chgT (G : Trc × AV → List Nat) (x : Trc × AV) : Trc := if x.1.hole = true then x.1 else ⟨x.1.hd, x.1.hole, G x⟩
def errL (E : Trc × AV → Int) (L : List (Trc × AV)) : Int := firstS (L.map fun x => if x.1.hole = true then 0 else E x)
theorem errL_cons (E : Trc × AV → Int) (x : Trc × AV) (r : List (Trc × AV)) : errL E (x :: r) = if (if x.1.hole = true then 0 else E x) = 0 then errL E r else if x.1.hole = true then 0 else E x := by
  unfold errL
  rw [List.map_cons, firstS]
set_option maxRecDepth 10000
attribute [local irreducible] WP WC WE WB WR WF WL WG WRg WQ
section
variable {P : Program} (T : Tbl P) {h : AHeap}
include T
set_option maxHeartbeats 4000000 in
theorem r162 {b : Nat} {s0 : AV} {t : List Int} (mb : h[b]? = some (.cells [s0] true false)) (h0 : IsSl h s0 1 (t.map intRow)) (ht : TpOk t) {x : Trc × AV} (hx : IsSl h x.2 1 (x.1.sm.map fltR)) (hc : chkL x.1.sm = 0) : RCall P 162 [.agg (trRow x), .ptr b 0] h (fun v h' => ∃ (s : AV) (e : Int), v = .tup [s, .int .i64 e] ∧ if fitsB (apL t (x.1.sm.map gridN) (-1)) = true then Fr h.length h' s 1 (((apL t (x.1.sm.map gridN) (-1)).map smpl).map fltR) ∧ e = 0 else s = .nilSlice ∧ e = 4) := by
  refine .st2 13 T.mix T.c162 ?_;intro ts hlen t0 t1;unfold fn162
  have ox := hx.one
  have bx : ∀ {N : Nat}, boxF (.agg (trRow x)) N = some (.ptr N 0, .push (.cells (trRow x) true false)) := fun {N} => tr_box ox
  have lb : loadF none (.ptr b 0) (fun z => h[z]?) = some (s0, .keep) := by rw [loadF_at mb]; rfl
  have lbk : ∀ {k : AHeap}, Ext h k → loadF none (.ptr b 0) (fun z => k[z]?) = some (s0, .keep) := fun {k} e => by rw [loadF_at (e.some mb)]; rfl
  have l9v : ldV (trRow x)[9]? = some (x.2, .keep) := rfl
  obtain ⟨hl, hg⟩ := chkL_z hc
  have o0 := h0.one
  refine Rs (A7 @t0 @t1 @bx @lbk @l9v @o0 @ox) ?_
  refine WF.res T.c107 (r107 T (hx.ext Xx) (by omega) T.c108 (g := gridN) (fun y hy k => r108 T (hg y hy))) ?_
  intro s2 g1 is1
  refine Rs (A3 @t0 @t1 @o0) ?_
  refine WF.res T.c106 (r106 T (h0.ext Xx) is1 ht (by rw [List.length_map]; exact hl) (grid_all hg) ⟨by omega, by omega⟩) ?_
  intro s3 g2 is2
  refine Rs (A2 @t0 @t1) ?_
  refine WF.res T.c105 (q105 T is2 (by rw [apL_len, List.length_map]; omega)) ?_
  rintro _ g3 ⟨s, e, rfl, hh⟩
  refine Rs (A2 @t0 @t1) ?_
  refine ⟨s, e, rfl, ?_⟩
  by_cases hf : fitsB (apL t (x.1.sm.map gridN) (-1)) = true
  · rw [if_pos hf] at hh ⊢
    exact ⟨hh.1.low (by simp only [List.length_append]; omega), hh.2⟩
  · rw [if_neg hf] at hh ⊢
    exact hh
set_option maxHeartbeats 8000000 in
theorem r161 {b : Nat} {s0 : AV} {l : List (Int × Int)} (mb : h[b]? = some (.cells [s0] true false)) (h0 : IsSl h s0 2 (l.map ratR)) (ok : TdOk l) (h1 : 1 ≤ l.length) (hl16 : l.length ≤ 16) {x : Trc × AV} (hx : IsSl h x.2 1 (x.1.sm.map fltR)) (hc : chkL x.1.sm = 0) (h4 : 0 ≤ x.1.hd 4 ∧ x.1.hd 4 ≤ 100000) : RCall P 161 [.agg (trRow x), .ptr b 0] h (fun v h' => ∃ s : AV, v = .tup [s, .int .i64 0] ∧ Fr h.length h' s 1 (((shfL (x.1.sm.map gridN) (corN l x.1.hd)).map smpl).map fltR)) := by
  refine .st2 44 T.mix T.c161 ?_;intro ts hlen t0 t1;unfold fn161
  have ox := hx.one
  have bx : ∀ {N : Nat}, boxF (.agg (trRow x)) N = some (.ptr N 0, .push (.cells (trRow x) true false)) := fun {N} => tr_box ox
  have lbk : ∀ {k : AHeap}, Ext h k → loadF none (.ptr b 0) (fun z => k[z]?) = some (s0, .keep) := fun {k} e => by rw [loadF_at (e.some mb)]; rfl
  have l9v : ldV (trRow x)[9]? = some (x.2, .keep) := rfl
  have l4v : ldV (trRow x)[4]? = some (.int .i64 (x.1.hd 4), .keep) := rfl
  have ia : ∀ {n o : Nat}, iadaF 8 1 (.ptr n o) (.int .i64 4) = some (.ptr n (o + 4)) := fun {n o} => by unfold iadaF; simp
  obtain ⟨hl, hg⟩ := chkL_z hc
  have o0 := h0.one
  obtain ⟨⟨b1, b2⟩, b3, b4⟩ := lvlS_bd ok h1 h4
  obtain ⟨zn, hzn⟩ : ∃ z, z = lvlS l (x.1.hd 4) := ⟨_, rfl⟩
  refine Rs (A8 @t0 @t1 @bx @lbk @l4v @ia @o0 @ox) ?_
  refine WF.ce T.c138 (r138 T (h0.ext Xx) ok h1 hl16 h4) fun g1 => ?_
  have hcn : corN l x.1.hd = rndI zn.1 zn.2 := by rw [hzn]; rfl
  rw [hcn]
  rw [← hzn] at b1 b2 b3 b4 ⊢
  have bz : ∀ {N : Nat}, boxF (.agg [.int .i64 0, .int .i64 0]) N = some (.ptr N 0, .push (.cells (ratR (0, 0)) true false)) := fun {N} => rfl
  have sz : ∀ {n : Nat}, stB 2 0 (.agg (ratR zn)) n (.cells (ratR (0, 0)) true false) = some (undefA, .set n (.cells (ratR zn) true false)) := fun {n} => (stB_agg rfl rfl (by show 0 + 2 ≤ 2; omega)).trans rfl
  have z0 : ldV (ratR zn)[0]? = some (.int .i64 zn.1, .keep) := rfl
  have z1 : ldV (ratR zn)[1]? = some (.int .i64 zn.2, .keep) := rfl
  refine Rs (A6 @t0 @t1 @bz @sz @z0 @z1) ?_
  refine WF.ce T.c128 (r128 T ⟨by omega, by omega⟩ ⟨by omega, by omega⟩) fun g2 => ?_
  have hn := rndT_bd ⟨b3, b4⟩ ⟨b1, b2⟩
  obtain ⟨n, hnn⟩ : ∃ n, n = rndI zn.1 zn.2 := ⟨_, rfl⟩
  rw [← hnn] at hn ⊢
  refine Rs (A4 @t0 @t1 @l9v @ox) ?_
  refine WF.res T.c107 (q107 T (hx.ext Xx) (by omega) T.c108 (g := gridN) (fun y hy k => r108 T (hg y hy))) ?_
  intro s7 g3 fr7
  have is7 := fr7.isSl
  obtain ⟨A, hA⟩ : ∃ A, A = x.1.sm.map gridN := ⟨_, rfl⟩
  have hAl : A.length = x.1.sm.length := by rw [hA]; simp
  have hAb := grid_all hg
  rw [← hA] at is7 hAb ⊢
  obtain ⟨B, hB⟩ : ∃ B, B = h ++ [ABlk.cells (trRow x) true false] ++ g1 ++ [ABlk.cells (ratR zn) true false] ++ g2 ++ g3 := ⟨_, rfl⟩
  have eB : Ext h B := by rw [hB]; exact Xx
  rw [← hB] at is7 ⊢
  clear hB fr7
  repeat (first | simp (maxSteps := 1000000) only [wset, hset, dset, bset, Nat.reduceAdd, Nat.reduceMul, Nat.reduceLeDiff, Nat.reduceEqDiff, pset, hlen, if_false, if_true, t0, t1, is7.lenm, mksl_ok (es := 1) (w := 8) (N0 := B.length) (n := A.length) (z := [AV.int .i64 0]) (k := .i64) (k' := .i64) (by omega) (by omega)] | simp (maxSteps := 1000000) (disch := first | (simp only [List.length_append, List.length_cons, List.length_nil] <;> omega) | rfl | omega | fail) only [kset, wset, hset, dset, bset, Nat.reduceAdd, Nat.reduceMul, Nat.reduceLeDiff, Nat.reduceEqDiff, pset, hlen, if_false, if_true, t0, t1, is7.lenm, mksl_ok (es := 1) (w := 8) (N0 := B.length) (n := A.length) (z := [AV.int .i64 0]) (k := .i64) (k' := .i64) (by omega) (by omega)])
  have hF := Fr.zeros (N := B.length) (n := A.length) (h := B) (z := [AV.int .i64 0]) (es := 1) (Nat.le_refl _) rfl
  obtain ⟨sv, hsv⟩ : ∃ sv, sv = AV.slice B.length 0 A.length 1 := ⟨_, rfl⟩
  have lsv : ∀ {G : Nat → Option ABlk}, lenG .sl G sv = some A.length := fun {G} => by rw [hsv]; rfl
  rw [← hsv] at hF ⊢
  have er : List.replicate A.length [AV.int .i64 0] = (List.replicate A.length (0 : Int)).map intRow := by simp [intRow]
  rw [er] at hF
  obtain ⟨f, hf⟩ : ∃ f : Nat → Int, f = fun i : Nat => atZ A ((i : Int) + n) := ⟨_, rfl⟩
  have hG : shfL A n = genL A.length f := by rw [hf]; rfl
  refine Rs (A3 @t0 @t1 @lsv) ?_
  refine WL.inv T.mix (fun m ts K => ∃ (k : Nat) (G : AHeap), k ≤ A.length ∧ m = A.length - k ∧ K = B ++ G ∧ Fr B.length K sv 1 ((genL k f ++ List.replicate (A.length - k) 0).map intRow) ∧ ts.length = 44 ∧ slot ts 6 = .int .i64 n ∧ slot ts 7 = s7 ∧ slot ts 8 = sv ∧ slot ts 27 = .int .i64 A.length ∧ slot ts 28 = .int .i64 k) A.length
    ⟨0, _, by omega, rfl, rfl, hF, Sn, Sw, Sw, Sw, Sw, Swr⟩ ?_
  clear hlen t0 t1
  rintro _ ts _ ⟨k, G, hk, rfl, rfl, hfr, hlen, t6, t7, t8, t27, t28⟩
  have eK : Ext B (B ++ G) := ⟨G, rfl⟩
  have is7K := is7.ext eK
  by_cases hlt : k < A.length
  case neg =>
    have e3 := dltF hlt
    have e4 : k = A.length := by omega
    rw [e4, Nat.sub_self, List.replicate_zero, List.append_nil, ← hG] at hfr
    have hfit := atZ_zero hAb n
    refine Rs (A6 @t6 @t7 @t8 @t27 @t28 @e3) ?_
    refine WF.res T.c105 (q105 T hfr.isSl (by rw [hG, genL_len]; omega)) ?_
    rintro _ g5 ⟨t, e, rfl, ht⟩
    rw [if_pos hfit] at ht
    obtain ⟨ht, rfl⟩ := ht
    refine Rs (A3 @t6 @t7 @t8) ?_
    exact ⟨eB.trans (eK.trans ⟨g5, rfl⟩), t, rfl, ht.low (Nat.le_trans eB.len eK.len)⟩
  have e3 := dltT hlt
  have e5 := wrapN (n := k) (by omega)
  have w1 : IntKind.i64.wrap ((k : Int) + n) = (k : Int) + n := wrap_in (by omega) (by omega)
  refine Rs (A7 @t6 @t7 @t8 @t27 @t28 @e3 @w1) ?_
  refine WF.ce T.c157 (r157 T is7K (by omega) _) fun g4 => ?_
  have hfk : f k = atZ A ((k : Int) + n) := by rw [hf]
  have hfr2 := hfr.app g4
  have hll : (genL k f ++ List.replicate (A.length - k) (0 : Int)).length = A.length := by rw [List.length_append, genL_len, List.length_replicate]; omega
  have ixk := hfr2.isSl.ixm (kk := .i64) (show k < _ by rw [hll]; exact hlt)
  rw [List.append_assoc] at hfr2 ⊢
  refine Rs (A6 @t6 @t7 @t8 @t27 @t28 @ixk) ?_
  refine WR.put1 (h0 := B) (off := 0) (row := intRow) (x' := f k) hfr2 (by rw [hll]; exact hlt) (by decide) rfl (by rw [hfk]; rfl) ?_
  intro g5 hl5 hF5 _
  rw [set_zs (genL_len k f) hlt, ← genL_succ] at hF5
  refine Rs (A6 @t6 @t7 @t8 @t27 @t28 @e5) ?_
  exact ⟨A.length - (k + 1), by omega, k + 1, g5, by omega, rfl, rfl, hF5, rfl⟩
set_option maxHeartbeats 8000000 in
theorem r160 {nm : List UInt8} {s : AV} {L : List (Trc × AV)} (o : ShOk h L s) (zl : L.length < 2 ^ 38) {f : FuncId} {AF : AFunc} (hA : compileFn P f = some AF) {c : Nat} {E : Trc × AV → Int} {G : Trc × AV → List Nat} (hf : ∀ x ∈ L, x.1.hole = false → ∀ k, Ext h k → RCall P f [.agg (trRow x), .ptr c 0] k (fun v k' => ∃ t : AV, v = .tup [t, .int .i64 (E x)] ∧ (E x = 0 → Fr k.length k' t 1 ((G x).map fltR)))) : RCall P 160 [.agg [.str nm, s], .func (.func f) [] [.ptr c 0]] h (fun v h' => ∃ (r : AV), v = .tup [r, .int .i64 (errL E L)] ∧ if errL E L = 0 then ∃ (s' : AV) (L' : List (Trc × AV)), r = .agg [.str nm, s'] ∧ ShOk h' L' s' ∧ L'.map Prod.fst = L.map (chgT G) ∧ (∀ c, c < h.length → NotB c s') ∧ ∀ y ∈ L', (∃ x ∈ L, y.2 = x.2) ∨ ∀ c, c < h.length → NotB c y.2 else r = .agg [.str [], .nilSlice]) := by
  refine .st2 44 T.mix T.c160 ?_;intro ts hlen t0 t1;unfold fn160
  have bx := @sh_box nm s o.sl.one
  have bz : ∀ {N : Nat}, boxF (.agg [.str [], .nilSlice]) N = some (.ptr N 0, .push (.cells (shC [] .nilSlice) true false)) := fun {N} => rfl
  have ln : ldV (shC nm s)[0]? = some (.str nm, .keep) := rfl
  have ls : ldV (shC nm s)[1]? = some (s, .keep) := rfl
  have hlm := fun G => o.sl.lenm G
  have bd : fillA [.str [], .nilSlice] [(0, 1, .str nm)] = some [.str nm, .nilSlice] := rfl
  have bd0 : fillA [.str [], .nilSlice] [] = some [.str [], .nilSlice] := rfl
  have st3 : ∀ {n : Nat}, stB 2 0 (.agg [.str nm, .nilSlice]) n (.cells (shC [] .nilSlice) true false) = some (undefA, .set n (.cells (shC nm .nilSlice) true false)) := fun {n} => sh_st rfl
  repeat (first | simp (maxSteps := 1000000) only [wset, hset, dset, bset, Nat.reduceAdd, Nat.reduceMul, Nat.reduceLeDiff, Nat.reduceEqDiff, pset, hlen, if_false, if_true, t0, t1, bx, bz, ln, bd, st3, ls, hlm] | simp (maxSteps := 1000000) (disch := first | (simp only [List.length_append, List.length_cons, List.length_nil] <;> omega) | rfl | omega | fail) only [kset, wset, hset, dset, bset, Nat.reduceAdd, Nat.reduceMul, Nat.reduceLeDiff, Nat.reduceEqDiff, pset, hlen, if_false, if_true, t0, t1, bx, bz, ln, bd, st3, ls, hlm])
  obtain ⟨Y, hY⟩ : ∃ Y, Y = h ++ [ABlk.cells (shC nm s) true false] ++ [ABlk.cells (shC [] .nilSlice) true false] ++ [ABlk.cells (shC nm .nilSlice) true false] := ⟨_, rfl⟩
  have eY : Ext h Y := by rw [hY]; exact Xx
  have m4 : Y[(h ++ [ABlk.cells (shC nm s) true false]).length]? = some (.cells (shC [] .nilSlice) true false) := by rw [hY]; exact at_1
  have m6 : Y[(h ++ [ABlk.cells (shC nm s) true false] ++ [ABlk.cells (shC [] .nilSlice) true false]).length]? = some (.cells (shC nm .nilSlice) true false) := by rw [hY]; exact at_new
  obtain ⟨b4, hb4⟩ : ∃ b, b = (h ++ [ABlk.cells (shC nm s) true false]).length := ⟨_, rfl⟩
  obtain ⟨b6, hb6⟩ : ∃ b, b = (h ++ [ABlk.cells (shC nm s) true false] ++ [ABlk.cells (shC [] .nilSlice) true false]).length := ⟨_, rfl⟩
  have n4 : h.length ≤ b4 := by rw [hb4]; simp only [List.length_append]; omega
  have n6 : h.length ≤ b6 := by rw [hb6]; simp only [List.length_append]; omega
  have n46 : b4 ≠ b6 := by rw [hb4, hb6]; simp only [List.length_append, List.length_cons, List.length_nil]; omega
  rw [← hb4] at m4
  rw [← hb6] at m6
  rw [← hY, ← hb4, ← hb6]
  clear hY hb4 hb6
  have q4 := (List.getElem?_eq_some_iff.1 m4).1
  have q6 := (List.getElem?_eq_some_iff.1 m6).1
  obtain ⟨M, hM⟩ : ∃ M, M = Y.length := ⟨_, rfl⟩
  rw [← hM] at q4 q6
  have hm := eY.len
  rw [← hM] at hm
  refine WL.inv T.mix (fun n ts K => ∃ (k : Nat) (out : AV) (L' : List (Trc × AV)), k ≤ L.length ∧ n = L.length - k ∧ Ext h K ∧ M ≤ K.length ∧ K[b4]? = some (.cells (shC [] .nilSlice) true false) ∧ ShGr h.length M K b6 nm L' out ∧ (∀ y ∈ L', (∃ x ∈ L, y.2 = x.2) ∨ ∀ c, c < h.length → NotB c y.2) ∧ L'.map Prod.fst = (L.take k).map (chgT G) ∧ errL E L = errL E (L.drop k) ∧ ts.length = 44 ∧ slot ts 1 = .func (.func f) [] [.ptr c 0] ∧ slot ts 4 = .ptr b4 0 ∧ slot ts 6 = .ptr b6 0 ∧ slot ts 15 = s ∧ slot ts 16 = .int .i64 L.length ∧ slot ts 17 = .int .i64 k) L.length
    ⟨0, .nilSlice, [], by omega, rfl, eY, by omega, m4, .nil m6, fun y hy => by simp at hy, rfl, rfl, Sn, (Sq @t1), Sw, Sw, Sw, Sw, Swr⟩ ?_
  clear hlen t0 t1 eY m4 m6 hM
  rintro _ ts K ⟨k, out, L', hk, rfl, eK, hMK, m4, gr, hN, hL', herr, hlen, t1, t4, t6, t15, t16, t17⟩
  have oK := o.ext eK
  by_cases hlt : k < L.length
  case neg =>
    have e3 := dltF hlt
    have e4 : k = L.length := by omega
    rw [e4, List.take_length] at hL'
    rw [e4, List.drop_length] at herr
    have herr : errL E L = 0 := herr
    have l3 := @ldx _ _ _ gr.m
    have l2 : ldB (some 2) 0 (.cells (shC nm out) true false) = some (.agg [.str nm, out], .keep) := rfl
    have s2 : storeF 2 (.ptr b4 0) (.agg [.str nm, out]) (fun z => K[z]?) = some (undefA, .set b4 (.cells (shC nm out) true false)) := by
      rw [storeF_at m4]; exact sh_st gr.fr.isSl.one
    have k2 : (K.set b4 (.cells (shC nm out) true false))[b4]? = some (.cells (shC nm out) true false) := set_eq' m4
    have f2 := @loadF_at (some 2) b4 0 _ _ k2
    refine Rs (A11 @t1 @t4 @t6 @t15 @t16 @t17 @e3 @l3 @l2 @s2 @f2) ?_
    refine ⟨ext_setG eK n4, _, by rw [herr], ?_⟩
    rw [if_pos herr]
    exact ⟨out, L', rfl, ⟨(gr.fr.setn (gr.fr.notB q4)).isSl, fun x hx => (gr.all x hx).setb (gr.nx x hx b4 n4 q4)⟩, hL', fun c hc => gr.fr.notB (by omega), hN⟩
  have e3 := dltT hlt
  have e5 := wrapN (n := k) (by omega)
  have ix := oK.sl.ixm (kk := .i64) hlt
  obtain ⟨x, hx⟩ : ∃ x, x = L[k] := ⟨_, rfl⟩
  have ld : ∀ {kk : AHeap}, Ext K kk → loadF (some 10) (elp s 10 k) (fun b => kk[b]?) = some (.agg (trRow x), .keep) := fun {kk} e => by rw [hx]; exact oK.sl.ldm hlt e
  have hmem : x ∈ L := by rw [hx]; exact List.getElem_mem _
  have hsx := oK.all x hmem
  have ox := hsx.one
  have htk : L.take (k + 1) = L.take k ++ [x] := by rw [hx]; exact List.take_succ_eq_append_getElem hlt
  have hdk : L.drop k = x :: L.drop (k + 1) := by rw [hx]; exact List.drop_eq_getElem_cons hlt
  rw [hdk, errL_cons] at herr
  have hLk : L'.length = k := by
    have := congrArg List.length hL'
    rw [List.length_map, List.length_map, List.length_take] at this
    omega
  have b10 := @z10_box
  have st := @st_tr x ox
  have gr0 := gr
  have l8v : ldV (trRow x)[8]? = some (.bool x.1.hole, .keep) := rfl
  have l10 := @tr_l10 x
  have oo := gr.fr.isSl.one
  have l3 := @ldx _ _ _ gr.m
  have l3v : ldV (shC nm out)[1]? = some (out, .keep) := rfl
  cases hb : x.1.hole with
  | true =>
    rw [hb, if_pos rfl, if_pos rfl] at herr
    have herr2 := herr
    have bs := @bsl_tr x ox
    have hch : chgT G x = x.1 := by unfold chgT; rw [if_pos hb]
    refine Rs (A20 @t1 @t4 @t6 @t15 @t16 @t17 @e3 @ix @ld @b10 @st @l8v @hb @Bool.not_true @l3 @l3v @l10 @oo @ox @bs) ?_
    obtain ⟨K1, hK1⟩ : ∃ K1, K1 = K ++ [ABlk.cells (trRow x) true false] := ⟨_, rfl⟩
    have eK1 : Ext K K1 := by rw [hK1]; exact Xx
    have hK1l : K1.length = K.length + 1 := by rw [hK1, List.length_append, List.length_singleton]
    rw [← hK1]
    clear hK1
    have gr := gr.ext eK1
    refine ShGr.grow (x := x) gr (eK.trans eK1) hm (by omega) n6 q6 (hsx.ext eK1) ((o.all x hmem).apart_fr gr.fr hm) (fun c h1 h2 => (o.all x hmem).notB h1) (by omega) ?_
    intro W out' eW hMW one' mW grW eS keepM keepc apn
    have s3 := sh_st1 mW one'
    have hlist : (L' ++ [x]).map Prod.fst = (L.take (k + 1)).map (chgT G) := by rw [htk, List.map_append, List.map_append, hL']; rw [show ([x] : List (Trc × AV)).map (chgT G) = [x.1] by rw [List.map_singleton, hch]]; rfl
    refine Rs (A9 @t1 @t4 @t6 @t15 @t16 @t17 @one' @s3 @e5) ?_
    exact ⟨L.length - (k + 1), by omega, k + 1, out', L' ++ [x], by omega, rfl, eS, by rw [List.length_set]; exact hMW, keepM b4 _ q4 n46 (eK1.some m4), grW, fun y' hy' => (List.mem_append.1 hy').elim (hN y') (fun q => by rw [List.mem_singleton.1 q]; exact .inl ⟨x, hmem, rfl⟩), hlist, herr2, rfl⟩
  | false =>
    have hn : ¬ x.1.hole = true := by rw [hb]; decide
    simp only [if_neg hn] at herr
    refine Rs (A15 @t1 @t4 @t6 @t15 @t16 @t17 @e3 @ix @ld @b10 @st @l8v @hb @Bool.not_false @l10) ?_
    obtain ⟨K1, hK1⟩ : ∃ K1, K1 = K ++ [ABlk.cells (trRow x) true false] := ⟨_, rfl⟩
    have eK1 : Ext K K1 := by rw [hK1]; exact Xx
    have m8 : K1[K.length]? = some (.cells (trRow x) true false) := by rw [hK1]; exact at_new
    have hK1l : K1.length = K.length + 1 := by rw [hK1, List.length_append, List.length_singleton]
    rw [← hK1]
    clear hK1
    refine WF.res (a := []) (c := [.ptr c 0]) hA (hf x hmem hb K1 (eK.trans eK1)) ?_
    rintro _ g1 ⟨t, rfl, hfr⟩
    have eG : Ext K1 (K1 ++ g1) := Xx
    by_cases hz : E x = 0
    case neg =>
      have d1 : decide (E x ≠ 0) = true := decide_eq_true hz
      rw [if_neg hz] at herr
      have s4 : storeF 2 (.ptr b4 0) (.agg [.str [], .nilSlice]) (fun z => (K1 ++ g1)[z]?) = some (undefA, .set b4 (.cells (shC [] .nilSlice) true false)) := by
        rw [storeF_at ((eK1.trans eG).some m4)]; exact sh_st rfl
      have k4 : ((K1 ++ g1).set b4 (.cells (shC [] .nilSlice) true false))[b4]? = some (.cells (shC [] .nilSlice) true false) := set_eq' ((eK1.trans eG).some m4)
      have f4 := @loadF_at (some 2) b4 0 _ _ k4
      have l2 : ldB (some 2) 0 (.cells (shC [] .nilSlice) true false) = some (.agg [.str [], .nilSlice], .keep) := rfl
      refine Rs (A11 @t1 @t4 @t6 @t15 @t16 @t17 @d1 @bd0 @s4 @f4 @l2) ?_
      refine ⟨?_, _, by rw [herr], ?_⟩
      · have := ext_setG (X := .cells (shC [] .nilSlice) true false) (eK.trans (eK1.trans eG)) n4
        first | exact this | (rw [List.set_append_left _ _ (List.getElem?_eq_some_iff.1 (eK1.some m4)).1] at this; exact this)
      · rw [herr, if_neg hz]
    have d1 : decide (E x ≠ 0) = false := decide_eq_false fun z => z hz
    rw [if_pos hz] at herr
    have herr2 := herr
    have hfr := hfr hz
    have ot := hfr.isSl.one
    obtain ⟨y, hy⟩ : ∃ y : Trc, y = chgT G x := ⟨_, rfl⟩
    have hy1 : y = ⟨x.1.hd, x.1.hole, G x⟩ := by rw [hy]; unfold chgT; rw [if_neg hn]
    have s9 := st9 (v := t) (t := y) (eG.some m8) ot (by rw [hy1]) (by rw [hy1])
    have hfr : Fr K1.length (K1 ++ g1) t 1 (y.sm.map fltR) := by rw [hy1]; exact hfr
    obtain ⟨K2, hK2⟩ : ∃ K2, K2 = (K1 ++ g1).set K.length (.cells (trRow (y, t)) true false) := ⟨_, rfl⟩
    have hK2' : (K1.set K.length (.cells (trRow (y, t)) true false)) ++ g1 = K2 := by rw [hK2, List.set_append_left _ _ (by omega)]
    refine Rs (A9 @t1 @t4 @t6 @t15 @t16 @t17 @d1 @s9 @ot) ?_
    have eK2 : Ext K K2 := by rw [hK2]; exact ext_setG (eK1.trans eG) (Nat.le_refl _)
    have m8 : K2[K.length]? = some (.cells (trRow (y, t)) true false) := by rw [hK2]; exact set_eq' (eG.some m8)
    have f2 : Fr K1.length K2 t 1 (y.sm.map fltR) := by rw [hK2]; exact hfr.setn (hfr.notB (by omega))
    first | rw [hK2'] | rw [← hK2]
    clear hK2 hK2'
    have hK2l := eK2.len
    have gr := gr.ext eK2
    have l3 := @ldx _ _ _ gr.m
    have l8 := @ldx _ _ _ m8
    have l10 := @tr_l10 (y, t)
    have bs := @bsl_tr (y, t) ot
    refine Rs (A13 @t1 @t4 @t6 @t15 @t16 @t17 @l3 @l3v @l8 @l10 @oo @ot @bs) ?_
    refine ShGr.grow (x := (y, t)) gr (eK.trans eK2) hm (by omega) n6 q6 f2.isSl (gr0.fr.apart_fr f2 (by omega)).symm (fun c h1 h2 => f2.notB (by omega)) (by omega) ?_
    intro W out' eW hMW one' mW grW eS keepM keepc apn
    have s3 := sh_st1 mW one'
    have hlist : (L' ++ [(y, t)]).map Prod.fst = (L.take (k + 1)).map (chgT G) := by rw [htk, List.map_append, List.map_append, hL']; rw [show ([x] : List (Trc × AV)).map (chgT G) = [y] by rw [List.map_singleton, hy]]; rfl
    refine Rs (A9 @t1 @t4 @t6 @t15 @t16 @t17 @one' @s3 @e5) ?_
    exact ⟨L.length - (k + 1), by omega, k + 1, out', L' ++ [(y, t)], by omega, rfl, eS, by rw [List.length_set]; exact hMW, keepM b4 _ q4 n46 (eK2.some m4), grW, fun y' hy' => (List.mem_append.1 hy').elim (hN y') (fun q => by rw [List.mem_singleton.1 q]; exact .inr fun c hc => f2.notB (by omega)), hlist, herr2, rfl⟩
end
end Go.Abs
namespace Go.Abs
theorem grid_z0 : gridE 0 = 0 ∧ gridN 0 = 0 := by
  have := smpl_ok (n := 0) (by omega) (by omega)
  rw [show smpl 0 = 0 by unfold smpl; decide] at this
  exact this.2
def atF (l : List Nat) (j : Int) : Nat := if 0 ≤ j then l.getD j.toNat 0 else 0
def shfF (l : List Nat) (n : Int) : List Nat := (List.range l.length).map fun i : Nat => atF l ((i : Int) + n)
theorem atF_grid (l : List Nat) (j : Int) : gridN (atF l j) = atZ (l.map gridN) j := by
  unfold atF atZ
  by_cases h : 0 ≤ j
  · rw [if_pos h, if_pos h, List.getD_eq_getElem?_getD, List.getD_eq_getElem?_getD, List.getElem?_map]
    cases l[j.toNat]? with
    | none => exact grid_z0.2
    | some x => rfl
  · rw [if_neg h, if_neg h]; exact grid_z0.2
theorem atF_ok {l : List Nat} (hl : ∀ b ∈ l, gridE b = 0) (j : Int) : gridE (atF l j) = 0 := by
  unfold atF
  by_cases h : 0 ≤ j
  · rw [if_pos h, List.getD_eq_getElem?_getD]
    cases hx : l[j.toNat]? with
    | none => exact grid_z0.1
    | some x => exact hl x (List.mem_of_getElem? hx)
  · rw [if_neg h]; exact grid_z0.1
theorem shfF_grid (l : List Nat) (n : Int) : (shfF l n).map gridN = shfL (l.map gridN) n := by
  unfold shfF shfL genL
  rw [List.map_map, List.length_map]
  exact List.map_congr_left fun i _ => atF_grid l _
theorem shfF_ok {l : List Nat} (hl : ∀ b ∈ l, gridE b = 0) (n : Int) : ∀ b ∈ shfF l n, gridE b = 0 := fun b hb => by
  unfold shfF at hb
  obtain ⟨i, _, rfl⟩ := List.mem_map.1 hb
  exact atF_ok hl _
theorem hdE_z {f : Nat → Int} (h : hdE f = 0) : 0 ≤ f 4 ∧ f 4 ≤ 100000 := by
  have := firstS_z h (rangeS (f 4) 0 100000) (by simp)
  exact rangeS_z.1 this
theorem chkTr_z {t : Trc} (h : chkTr t = 0) : hdE t.hd = 0 ∧ (t.hole = true → t.sm = []) ∧ chkL t.sm = 0 := by
  have q := firstS_z h
  refine ⟨q _ (by simp), fun hb => ?_, q _ (by simp)⟩
  have := q (whenS (t.hole && decide (0 < t.sm.length)) 24) (by simp)
  rw [hb, Bool.true_and] at this
  by_cases hl : 0 < t.sm.length
  · rw [decide_eq_true hl] at this; cases this
  · exact List.eq_nil_of_length_eq_zero (by omega)
theorem chkSh_z {nm : List UInt8} {L : List Trc} (h : chkSh nm L = 0) : nameS nm = true ∧ 0 < L.length ∧ L.length ≤ 64 ∧ ∀ t ∈ L, chkTr t = 0 := by
  have q := firstS_z h
  have q1 := q (whenS (!nameS nm) 8) (by simp)
  have q2 := q (whenS (decide (L.length = 0)) 12) (by simp)
  have q3 := q (whenS (decide (64 < L.length)) 5) (by simp)
  have q4 := q (firstS (L.map chkTr)) (by simp)
  refine ⟨?_, ?_, ?_, fun t ht => firstS_z q4 _ (List.mem_map_of_mem ht)⟩
  · cases hn : nameS nm with
    | true => rfl
    | false => rw [hn] at q1; cases q1
  · refine Nat.pos_of_ne_zero fun z => ?_
    rw [decide_eq_true z] at q2; cases q2
  · refine Nat.not_lt.1 fun z => ?_
    rw [decide_eq_true z] at q3; cases q3
noncomputable def eachE (t : List Int) (x : Trc × AV) : Int := if fitsB (apL t (x.1.sm.map gridN) (-1)) = true then 0 else 4
noncomputable def eachG (t : List Int) (x : Trc × AV) : List Nat := (apL t (x.1.sm.map gridN) (-1)).map smpl
noncomputable def corG (l : List (Int × Int)) (x : Trc × AV) : List Nat := (shfL (x.1.sm.map gridN) (corN l x.1.hd)).map smpl
theorem errL_zero {L : List (Trc × AV)} : errL (fun _ => 0) L = 0 := by
  unfold errL
  induction L with
  | nil => rfl
  | cons x r ih => rw [List.map_cons, firstS, if_pos (by split <;> rfl)]; exact ih
def ChgR (h : AHeap) (nm : List UInt8) (L : List (Trc × AV)) (G : Trc × AV → List Nat) (bad : Int) (r : AV) (e : Int) (ex : Int) : Prop := e = firstS [bad, ex] ∧ if e = 0 then ∃ (s' : AV) (L' : List (Trc × AV)), r = .agg [.str nm, s'] ∧ ShOk h L' s' ∧ L'.map Prod.fst = L.map (chgT G) else r = .agg [.str [], .nilSlice]
set_option maxRecDepth 10000
attribute [local irreducible] WP WC WE WB WR WF WL WG WRg WQ
section
variable {P : Program} (T : Tbl P) {h : AHeap}
include T
set_option maxHeartbeats 8000000 in
theorem r90 (rg : Rng h) {nm : List UInt8} {s s0 : AV} {L : List (Trc × AV)} {t : List Int} (o : ShOk h L s) (z : ShSz L) (zl : L.length < 2 ^ 38) (h0 : IsSl h s0 1 (t.map intRow)) (hl0 : t.length < 2 ^ 40) : RCall P 90 [.agg [.str nm, s], s0] h (fun v h' => ∃ (r : AV) (e : Int), v = .tup [r, .int .i64 e] ∧ ChgR h' nm L (eachG t) (firstS [chkSh nm (L.map Prod.fst), chkTp t]) r e (errL (eachE t) L)) := by
  refine .st2 22 T.mix T.c90 ?_;intro ts hlen t0 t1;unfold fn90
  have bx := @sh_box nm s o.sl.one
  have o0 := h0.one
  have b0 : ∀ {N : Nat}, boxF s0 N = some (.ptr N 0, .push (.cells [s0] true false)) := fun {N} => by
    unfold boxF
    rw [h0.cells, if_pos (by simp only [List.all_cons, List.all_nil, o0]; rfl)]
  have bz : ∀ {N : Nat}, boxF (.agg [.str [], .nilSlice]) N = some (.ptr N 0, .push (.cells (shC [] .nilSlice) true false)) := fun {N} => rfl
  have l2 := @sh_l2 nm s
  have bd0 : fillA [.str [], .nilSlice] [] = some [.str [], .nilSlice] := rfl
  refine Rs (A5 @t0 @t1 @bx @b0 @bz) ?_
  obtain ⟨Y, hY⟩ : ∃ Y, Y = h ++ [ABlk.cells (shC nm s) true false] ++ [ABlk.cells [s0] true false] ++ [ABlk.cells (shC [] .nilSlice) true false] := ⟨_, rfl⟩
  have eY : Ext h Y := by rw [hY]; exact Xx
  have m2 : Y[h.length]? = some (.cells (shC nm s) true false) := by rw [hY]; exact at_2
  have m3 : Y[(h ++ [ABlk.cells (shC nm s) true false]).length]? = some (.cells [s0] true false) := by rw [hY]; exact at_1
  have m4 : Y[(h ++ [ABlk.cells (shC nm s) true false] ++ [ABlk.cells [s0] true false]).length]? = some (.cells (shC [] .nilSlice) true false) := by rw [hY]; exact at_new
  obtain ⟨b2, hb2⟩ : ∃ b, b = h.length := ⟨_, rfl⟩
  obtain ⟨b3, hb3⟩ : ∃ b, b = (h ++ [ABlk.cells (shC nm s) true false]).length := ⟨_, rfl⟩
  obtain ⟨b4, hb4⟩ : ∃ b, b = (h ++ [ABlk.cells (shC nm s) true false] ++ [ABlk.cells [s0] true false]).length := ⟨_, rfl⟩
  have n4 : h.length ≤ b4 := by rw [hb4]; simp only [List.length_append]; omega
  rw [← hb2] at m2
  rw [← hb3] at m3
  rw [← hb4] at m4
  rw [← hY, ← hb2, ← hb3, ← hb4]
  clear hY hb2 hb3 hb4
  have i2 := @ldx _ _ _ m2
  have i3 : ∀ {k : AHeap}, Ext Y k → loadF none (.ptr b3 0) (fun z => k[z]?) = some (s0, .keep) := fun {k} e => by rw [loadF_at (e.some m3)]; rfl
  refine Rs (A4 @t0 @t1 @i2 @l2) ?_
  refine WF.ce T.c159 (r159 T (rg.ext eY) (o.ext eY) z) fun g1 => ?_
  refine Rs (A4 @t0 @t1 @i3 @o0) ?_
  refine WF.ce T.c34 (r34 T ((h0.ext eY).ext Xx) hl0) fun g2 => ?_
  refine Rs (A2 @t0 @t1) ?_
  refine WF.ce T.c116 (r116 T (isSl_ints [_, _]) (by simp)) fun g3 => ?_
  obtain ⟨bad, hbad⟩ : ∃ bad, bad = firstS [chkSh nm (L.map Prod.fst), chkTp t] := ⟨_, rfl⟩
  obtain ⟨K1, hK1⟩ : ∃ K, K = Y ++ g1 ++ g2 ++ [ABlk.cells [AV.int .i64 (chkSh nm (L.map Prod.fst)), AV.int .i64 (chkTp t)] true true] ++ g3 := ⟨_, rfl⟩
  have f1 : Ext Y K1 := by rw [hK1]; exact Xx
  rw [← hbad, ← hK1]
  clear hK1
  by_cases hz : bad = 0
  case neg =>
    have d1 : decide (bad ≠ 0) = true := decide_eq_true hz
    have s4 : storeF 2 (.ptr b4 0) (.agg [.str [], .nilSlice]) (fun z => K1[z]?) = some (undefA, .set b4 (.cells (shC [] .nilSlice) true false)) := by
      rw [storeF_at (f1.some m4)]; exact sh_st rfl
    have k4 : (K1.set b4 (.cells (shC [] .nilSlice) true false))[b4]? = some (.cells (shC [] .nilSlice) true false) := set_eq' (f1.some m4)
    have f4 := @loadF_at (some 2) b4 0 _ _ k4
    have l4 : ldB (some 2) 0 (.cells (shC [] .nilSlice) true false) = some (.agg [.str [], .nilSlice], .keep) := rfl
    refine Rs (A7 @t0 @t1 @d1 @bd0 @s4 @f4 @l4) ?_
    refine ⟨ext_setG (eY.trans f1) n4, _, _, rfl, ?_⟩
    unfold ChgR
    rw [firstS, if_neg hz, if_neg hz]
    exact ⟨rfl, rfl⟩
  have d1 : decide (bad ≠ 0) = false := decide_eq_false fun z => z hz
  obtain ⟨c1, c2⟩ := first2 (hbad.symm.trans hz)
  obtain ⟨_, _, _, hct⟩ := chkSh_z c1
  have ht := chkTp_z c2
  have i2 := @ldx _ _ _ (f1.some m2)
  refine Rs (A5 @t0 @t1 @d1 @i2 @l2) ?_
  refine WF.res T.c160 (r160 T (o.ext (eY.trans f1)) zl T.c162 (c := b3) (E := eachE t) (G := eachG t) (fun x hx hb k ek => ?_)) ?_
  · have hcx := chkTr_z (hct x.1 (List.mem_map_of_mem hx))
    have ekh := eY.trans (f1.trans ek)
    refine (r162 T (b := b3) (s0 := s0) (t := t) ((f1.trans ek).some m3) (h0.ext ekh) ht ((o.all x hx).ext ekh) hcx.2.2).mono ?_
    rintro _ _ ⟨w, e, rfl, hw⟩
    by_cases hf : fitsB (apL t (x.1.sm.map gridN) (-1)) = true
    · rw [if_pos hf] at hw
      obtain ⟨hw, rfl⟩ := hw
      have e0 : eachE t x = 0 := if_pos hf
      exact ⟨w, by rw [e0], fun _ => hw⟩
    · rw [if_neg hf] at hw
      obtain ⟨rfl, rfl⟩ := hw
      have e0 : eachE t x = 4 := if_neg hf
      exact ⟨.nilSlice, by rw [e0], fun q => by rw [e0] at q; cases q⟩
  rintro _ g4 ⟨r, rfl, hr⟩
  obtain ⟨ex, hex⟩ : ∃ ex, ex = errL (eachE t) L := ⟨_, rfl⟩
  rw [← hex] at hr ⊢
  have eg : Ext K1 (K1 ++ g4) := ⟨g4, rfl⟩
  have fin : firstS [bad, ex] = ex := by
    rw [hz]
    show (if (0 : Int) = 0 then (if ex = 0 then 0 else ex) else 0) = ex
    rw [if_pos rfl]
    by_cases q : ex = 0
    · rw [if_pos q, q]
    · rw [if_neg q]
  by_cases hq : ex = 0
  · rw [if_pos hq] at hr
    obtain ⟨s', L', rfl, ok', hl', hn1, hn2⟩ := hr
    have b4K : b4 < K1.length := (List.getElem?_eq_some_iff.1 (f1.some m4)).1
    have okS : ShOk ((K1 ++ g4).set b4 (.cells (shC nm s') true false)) L' s' := ⟨ok'.sl.setb (hn1 b4 b4K), fun y hy => (ok'.all y hy).setb ((hn2 y hy).elim (fun ⟨x, hx, q⟩ => by rw [q]; exact (o.all x hx).notB n4) fun q => q b4 b4K)⟩
    have eS : Ext h ((K1 ++ g4).set b4 (.cells (shC nm s') true false)) := ext_setG (eY.trans (f1.trans eg)) n4
    have s4 : storeF 2 (.ptr b4 0) (.agg [.str nm, s']) (fun z => (K1 ++ g4)[z]?) = some (undefA, .set b4 (.cells (shC nm s') true false)) := by
      rw [storeF_at ((f1.trans eg).some m4)]; exact sh_st ok'.sl.one
    have k4 : ((K1 ++ g4).set b4 (.cells (shC nm s') true false))[b4]? = some (.cells (shC nm s') true false) := set_eq' ((f1.trans eg).some m4)
    have f4 := @loadF_at (some 2) b4 0 _ _ k4
    have l4 := @sh_l2 nm s'
    have hsw : K1.set b4 (.cells (shC nm s') true false) ++ g4 = (K1 ++ g4).set b4 (.cells (shC nm s') true false) := by rw [List.set_append_left _ _ (List.getElem?_eq_some_iff.1 (f1.some m4)).1]
    refine Rs (A5 @t0 @t1 @s4 @f4 @l4) ?_
    rw [hsw]
    refine ⟨eS, _, _, rfl, ?_⟩
    unfold ChgR
    rw [fin, if_pos hq]
    exact ⟨rfl, s', L', rfl, okS, hl'⟩
  · rw [if_neg hq] at hr
    subst hr
    have s4 : storeF 2 (.ptr b4 0) (.agg [.str [], .nilSlice]) (fun z => (K1 ++ g4)[z]?) = some (undefA, .set b4 (.cells (shC [] .nilSlice) true false)) := by
      rw [storeF_at ((f1.trans eg).some m4)]; exact sh_st rfl
    have k4 : ((K1 ++ g4).set b4 (.cells (shC [] .nilSlice) true false))[b4]? = some (.cells (shC [] .nilSlice) true false) := set_eq' ((f1.trans eg).some m4)
    have f4 := @loadF_at (some 2) b4 0 _ _ k4
    have l4 := @sh_l2 [] .nilSlice
    refine Rs (A5 @t0 @t1 @s4 @f4 @l4) ?_
    refine ⟨?_, _, _, rfl, ?_⟩
    · have := ext_setG (X := .cells (shC [] .nilSlice) true false) (eY.trans (f1.trans eg)) n4
      first | exact this | (rw [List.set_append_left _ _ (List.getElem?_eq_some_iff.1 (f1.some m4)).1] at this; exact this)
    · unfold ChgR
      rw [fin, if_neg hq]
      exact ⟨rfl, rfl⟩
set_option maxHeartbeats 8000000 in
theorem r88 (rg : Rng h) {nm : List UInt8} {s s0 : AV} {L : List (Trc × AV)} {l : List (Int × Int)} (o : ShOk h L s) (z : ShSz L) (zl : L.length < 2 ^ 38) (h0 : IsSl h s0 2 (l.map ratR)) (hl0 : l.length < 2 ^ 40) : RCall P 88 [.agg [.str nm, s], s0] h (fun v h' => ∃ (r : AV) (e : Int), v = .tup [r, .int .i64 e] ∧ ChgR h' nm L (corG l) (firstS [chkSh nm (L.map Prod.fst), chkTs l]) r e (errL (fun _ => 0) L)) := by
  refine .st2 22 T.mix T.c88 ?_;intro ts hlen t0 t1;unfold fn88
  have bx := @sh_box nm s o.sl.one
  have o0 := h0.one
  have b0 : ∀ {N : Nat}, boxF s0 N = some (.ptr N 0, .push (.cells [s0] true false)) := fun {N} => by
    unfold boxF
    rw [h0.cells, if_pos (by simp only [List.all_cons, List.all_nil, o0]; rfl)]
  have bz : ∀ {N : Nat}, boxF (.agg [.str [], .nilSlice]) N = some (.ptr N 0, .push (.cells (shC [] .nilSlice) true false)) := fun {N} => rfl
  have l2 := @sh_l2 nm s
  have bd0 : fillA [.str [], .nilSlice] [] = some [.str [], .nilSlice] := rfl
  refine Rs (A5 @t0 @t1 @bx @b0 @bz) ?_
  obtain ⟨Y, hY⟩ : ∃ Y, Y = h ++ [ABlk.cells (shC nm s) true false] ++ [ABlk.cells [s0] true false] ++ [ABlk.cells (shC [] .nilSlice) true false] := ⟨_, rfl⟩
  have eY : Ext h Y := by rw [hY]; exact Xx
  have m2 : Y[h.length]? = some (.cells (shC nm s) true false) := by rw [hY]; exact at_2
  have m3 : Y[(h ++ [ABlk.cells (shC nm s) true false]).length]? = some (.cells [s0] true false) := by rw [hY]; exact at_1
  have m4 : Y[(h ++ [ABlk.cells (shC nm s) true false] ++ [ABlk.cells [s0] true false]).length]? = some (.cells (shC [] .nilSlice) true false) := by rw [hY]; exact at_new
  obtain ⟨b2, hb2⟩ : ∃ b, b = h.length := ⟨_, rfl⟩
  obtain ⟨b3, hb3⟩ : ∃ b, b = (h ++ [ABlk.cells (shC nm s) true false]).length := ⟨_, rfl⟩
  obtain ⟨b4, hb4⟩ : ∃ b, b = (h ++ [ABlk.cells (shC nm s) true false] ++ [ABlk.cells [s0] true false]).length := ⟨_, rfl⟩
  have n4 : h.length ≤ b4 := by rw [hb4]; simp only [List.length_append]; omega
  rw [← hb2] at m2
  rw [← hb3] at m3
  rw [← hb4] at m4
  rw [← hY, ← hb2, ← hb3, ← hb4]
  clear hY hb2 hb3 hb4
  have i2 := @ldx _ _ _ m2
  have i3 : ∀ {k : AHeap}, Ext Y k → loadF none (.ptr b3 0) (fun z => k[z]?) = some (s0, .keep) := fun {k} e => by rw [loadF_at (e.some m3)]; rfl
  refine Rs (A4 @t0 @t1 @i2 @l2) ?_
  refine WF.ce T.c159 (r159 T (rg.ext eY) (o.ext eY) z) fun g1 => ?_
  refine Rs (A4 @t0 @t1 @i3 @o0) ?_
  refine WF.ce T.c56 (r56 T ((h0.ext eY).ext Xx) hl0) fun g2 => ?_
  refine Rs (A2 @t0 @t1) ?_
  refine WF.ce T.c116 (r116 T (isSl_ints [_, _]) (by simp)) fun g3 => ?_
  obtain ⟨bad, hbad⟩ : ∃ bad, bad = firstS [chkSh nm (L.map Prod.fst), chkTs l] := ⟨_, rfl⟩
  obtain ⟨K1, hK1⟩ : ∃ K, K = Y ++ g1 ++ g2 ++ [ABlk.cells [AV.int .i64 (chkSh nm (L.map Prod.fst)), AV.int .i64 (chkTs l)] true true] ++ g3 := ⟨_, rfl⟩
  have f1 : Ext Y K1 := by rw [hK1]; exact Xx
  rw [← hbad, ← hK1]
  clear hK1
  by_cases hz : bad = 0
  case neg =>
    have d1 : decide (bad ≠ 0) = true := decide_eq_true hz
    have s4 : storeF 2 (.ptr b4 0) (.agg [.str [], .nilSlice]) (fun z => K1[z]?) = some (undefA, .set b4 (.cells (shC [] .nilSlice) true false)) := by
      rw [storeF_at (f1.some m4)]; exact sh_st rfl
    have k4 : (K1.set b4 (.cells (shC [] .nilSlice) true false))[b4]? = some (.cells (shC [] .nilSlice) true false) := set_eq' (f1.some m4)
    have f4 := @loadF_at (some 2) b4 0 _ _ k4
    have l4 : ldB (some 2) 0 (.cells (shC [] .nilSlice) true false) = some (.agg [.str [], .nilSlice], .keep) := rfl
    refine Rs (A7 @t0 @t1 @d1 @bd0 @s4 @f4 @l4) ?_
    refine ⟨ext_setG (eY.trans f1) n4, _, _, rfl, ?_⟩
    unfold ChgR
    rw [firstS, if_neg hz, if_neg hz]
    exact ⟨rfl, rfl⟩
  have d1 : decide (bad ≠ 0) = false := decide_eq_false fun z => z hz
  obtain ⟨c1, c2⟩ := first2 (hbad.symm.trans hz)
  obtain ⟨_, _, _, hct⟩ := chkSh_z c1
  obtain ⟨ht, ht1, ht2⟩ := chkTs_z c2
  have i2 := @ldx _ _ _ (f1.some m2)
  refine Rs (A5 @t0 @t1 @d1 @i2 @l2) ?_
  refine WF.res T.c160 (r160 T (o.ext (eY.trans f1)) zl T.c161 (c := b3) (E := fun _ => 0) (G := corG l) (fun x hx hb k ek => ?_)) ?_
  · have hcx := chkTr_z (hct x.1 (List.mem_map_of_mem hx))
    have ekh := eY.trans (f1.trans ek)
    refine (r161 T (b := b3) (s0 := s0) (l := l) ((f1.trans ek).some m3) (h0.ext ekh) ht ht1 ht2 ((o.all x hx).ext ekh) hcx.2.2 (hdE_z hcx.1)).mono ?_
    rintro _ _ ⟨w, rfl, hw⟩
    exact ⟨w, rfl, fun _ => hw⟩
  rintro _ g4 ⟨r, rfl, hr⟩
  obtain ⟨ex, hex⟩ : ∃ ex, ex = errL (fun _ => 0) L := ⟨_, rfl⟩
  rw [← hex] at hr ⊢
  have eg : Ext K1 (K1 ++ g4) := ⟨g4, rfl⟩
  have fin : firstS [bad, ex] = ex := by
    rw [hz]
    show (if (0 : Int) = 0 then (if ex = 0 then 0 else ex) else 0) = ex
    rw [if_pos rfl]
    by_cases q : ex = 0
    · rw [if_pos q, q]
    · rw [if_neg q]
  by_cases hq : ex = 0
  · rw [if_pos hq] at hr
    obtain ⟨s', L', rfl, ok', hl', hn1, hn2⟩ := hr
    have b4K : b4 < K1.length := (List.getElem?_eq_some_iff.1 (f1.some m4)).1
    have okS : ShOk ((K1 ++ g4).set b4 (.cells (shC nm s') true false)) L' s' := ⟨ok'.sl.setb (hn1 b4 b4K), fun y hy => (ok'.all y hy).setb ((hn2 y hy).elim (fun ⟨x, hx, q⟩ => by rw [q]; exact (o.all x hx).notB n4) fun q => q b4 b4K)⟩
    have eS : Ext h ((K1 ++ g4).set b4 (.cells (shC nm s') true false)) := ext_setG (eY.trans (f1.trans eg)) n4
    have s4 : storeF 2 (.ptr b4 0) (.agg [.str nm, s']) (fun z => (K1 ++ g4)[z]?) = some (undefA, .set b4 (.cells (shC nm s') true false)) := by
      rw [storeF_at ((f1.trans eg).some m4)]; exact sh_st ok'.sl.one
    have k4 : ((K1 ++ g4).set b4 (.cells (shC nm s') true false))[b4]? = some (.cells (shC nm s') true false) := set_eq' ((f1.trans eg).some m4)
    have f4 := @loadF_at (some 2) b4 0 _ _ k4
    have l4 := @sh_l2 nm s'
    have hsw : K1.set b4 (.cells (shC nm s') true false) ++ g4 = (K1 ++ g4).set b4 (.cells (shC nm s') true false) := by rw [List.set_append_left _ _ (List.getElem?_eq_some_iff.1 (f1.some m4)).1]
    refine Rs (A5 @t0 @t1 @s4 @f4 @l4) ?_
    rw [hsw]
    refine ⟨eS, _, _, rfl, ?_⟩
    unfold ChgR
    rw [fin, if_pos hq]
    exact ⟨rfl, s', L', rfl, okS, hl'⟩
  · rw [if_neg hq] at hr
    subst hr
    have s4 : storeF 2 (.ptr b4 0) (.agg [.str [], .nilSlice]) (fun z => (K1 ++ g4)[z]?) = some (undefA, .set b4 (.cells (shC [] .nilSlice) true false)) := by
      rw [storeF_at ((f1.trans eg).some m4)]; exact sh_st rfl
    have k4 : ((K1 ++ g4).set b4 (.cells (shC [] .nilSlice) true false))[b4]? = some (.cells (shC [] .nilSlice) true false) := set_eq' ((f1.trans eg).some m4)
    have f4 := @loadF_at (some 2) b4 0 _ _ k4
    have l4 := @sh_l2 [] .nilSlice
    refine Rs (A5 @t0 @t1 @s4 @f4 @l4) ?_
    refine ⟨?_, _, _, rfl, ?_⟩
    · have := ext_setG (X := .cells (shC [] .nilSlice) true false) (eY.trans (f1.trans eg)) n4
      first | exact this | (rw [List.set_append_left _ _ (List.getElem?_eq_some_iff.1 (f1.some m4)).1] at this; exact this)
    · unfold ChgR
      rw [fin, if_neg hq]
      exact ⟨rfl, rfl⟩
end
end Go.Abs
namespace Go.Abs
theorem set_td {α : Type} {A B : List α} (hl : A.length = B.length) {k : Nat} (hk : k < A.length) {x : α} (hx : x = A[k]) : (A.take k ++ B.drop k).set k x = A.take (k + 1) ++ B.drop (k + 1) := by
  have h1 : (A.take k).length = k := by rw [List.length_take]; omega
  rw [List.set_append_right _ _ (by omega), h1, Nat.sub_self, List.drop_eq_getElem_cons (by omega), List.set_cons_zero, List.take_succ_eq_append_getElem hk, hx, List.append_assoc]
  rfl
def corT (l : List (Int × Int)) (t : Trc) : Trc := ⟨t.hd, t.hole, shfF t.sm (corN l t.hd)⟩
theorem shfF_len (l : List Nat) (n : Int) : (shfF l n).length = l.length := by simp [shfF]
set_option maxRecDepth 10000
attribute [local irreducible] WP WC WE WB WR WF WL WG WRg WQ
section
variable {P : Program} (T : Tbl P) {h : AHeap}
include T
end
end Go.Abs
namespace Go.Abs
theorem ShEq.of {A B : List (Trc × AV)} {f g : Trc → Trc} {L : List Trc} (ha : A.map Prod.fst = L.map f) (hb : B.map Prod.fst = L.map g) (h : ∀ t ∈ L, TrEq (f t) (g t)) : ShEq A B := by
  have la : A.length = L.length := by have := congrArg List.length ha; simpa using this
  have lb : B.length = L.length := by have := congrArg List.length hb; simpa using this
  refine ⟨by omega, fun i h1 h2 => ?_⟩
  have hi : i < L.length := by omega
  have e1 : A[i].1 = f L[i] := by
    have : (A.map Prod.fst)[i]'(by simpa using h1) = (L.map f)[i]'(by simpa using hi) := by simp only [ha]
    simpa using this
  have e2 : B[i].1 = g L[i] := by
    have : (B.map Prod.fst)[i]'(by simpa using h2) = (L.map g)[i]'(by simpa using hi) := by simp only [hb]
    simpa using this
  rw [e1, e2]
  exact h _ (List.getElem_mem _)
theorem errL_fst {E : Trc × AV → Int} (hE : ∀ (t : Trc) (v w : AV), E (t, v) = E (t, w)) : ∀ {A B : List (Trc × AV)}, A.map Prod.fst = B.map Prod.fst → errL E A = errL E B
  | [], [], _ => rfl
  | [], _ :: _, h => by cases h
  | _ :: _, [], h => by cases h
  | (t, v) :: A, (u, w) :: B, h => by
    obtain ⟨h1, h2⟩ := List.cons.inj h
    have h1 : t = u := h1
    subst h1
    rw [errL_cons, errL_cons, hE t v w, errL_fst hE h2]
noncomputable def chgF (G : Trc → List Nat) (t : Trc) : Trc := if t.hole = true then t else ⟨t.hd, t.hole, G t⟩
noncomputable def corF (l : List (Int × Int)) (t : Trc) : List Nat := (shfL (t.sm.map gridN) (corN l t.hd)).map smpl
noncomputable def eacF (t : List Int) (x : Trc) : List Nat := (apL t (x.sm.map gridN) (-1)).map smpl
theorem chg_map {G : Trc × AV → List Nat} {F : Trc → List Nat} (h : ∀ x, G x = F x.1) (L : List (Trc × AV)) : L.map (chgT G) = (L.map Prod.fst).map (chgF F) := by
  rw [List.map_map]
  refine List.map_congr_left fun x _ => ?_
  show chgT G x = chgF F x.1
  unfold chgT chgF
  rw [h]
theorem cor_eq {l : List (Int × Int)} {t : Trc} (h : chkTr t = 0) : TrEq (chgF (corF l) t) (corT l t) := by
  obtain ⟨_, h2, h3⟩ := chkTr_z h
  obtain ⟨_, hg⟩ := chkL_z h3
  unfold chgF corT
  by_cases hb : t.hole = true
  · have hs := h2 hb
    rw [if_pos hb]
    refine ⟨rfl, rfl, hg, ?_, ?_⟩
    · show ∀ x ∈ shfF t.sm _, _
      rw [hs]; exact fun x hx => by simp [shfF] at hx
    · show t.sm.map gridN = (shfF t.sm _).map gridN
      rw [hs]; rfl
  · rw [if_neg hb]
    have fit := atZ_zero (grid_all hg) (corN l t.hd)
    refine ⟨rfl, rfl, (smpl_all fit).1, shfF_ok hg _, ?_⟩
    show ((shfL (t.sm.map gridN) (corN l t.hd)).map smpl).map gridN = (shfF t.sm (corN l t.hd)).map gridN
    rw [(smpl_all fit).2, shfF_grid]
theorem errL_all {E : Trc × AV → Int} : ∀ {L : List (Trc × AV)}, errL E L = 0 → ∀ x ∈ L, x.1.hole = true ∨ E x = 0
  | [], _, x, hx => by cases hx
  | y :: r, h, x, hx => by
    rw [errL_cons] at h
    by_cases q : (if y.1.hole = true then 0 else E y) = 0
    · rw [if_pos q] at h
      rcases List.mem_cons.1 hx with rfl | hx
      · by_cases hb : x.1.hole = true
        · exact .inl hb
        · rw [if_neg hb] at q; exact .inr q
      · exact errL_all h x hx
    · rw [if_neg q] at h; exact absurd h q
structure ResS (K : AHeap) (n : List UInt8) (v : AV) (A : List (Trc × AV)) : Prop where
  ok : ShOk K A v
  z : ShSz A
  l : A.length < 2 ^ 38
theorem ResS.ext {K k : AHeap} {n : List UInt8} {v : AV} {A : List (Trc × AV)} (r : ResS K n v A) (e : Ext K k) : ResS k n v A := ⟨r.ok.ext e, r.z, r.l⟩
theorem ResS.nil {K : AHeap} : ResS K [] .nilSlice [] := ⟨⟨.nil, fun x hx => by cases hx⟩, ⟨by simp, fun x hx => by cases hx⟩, by simp⟩
theorem ResS.of {K : AHeap} {n : List UInt8} {v : AV} {A : List (Trc × AV)} {f : Trc → Trc} {L : List Trc} (o : ShOk K A v) (ha : A.map Prod.fst = L.map f) (hl : L.length ≤ 65) (hs : ∀ t ∈ L, (f t).sm.length < 2 ^ 40) : ResS K n v A := by
  have la : A.length = L.length := by have := congrArg List.length ha; simpa using this
  refine ⟨o, ⟨by omega, fun x hx => ?_⟩, by omega⟩
  have : x.1 ∈ L.map f := by rw [← ha]; exact List.mem_map_of_mem hx
  obtain ⟨t, ht, e⟩ := List.mem_map.1 this
  rw [← e]; exact hs t ht
theorem chg_len {G : Trc → List Nat} {t : Trc} {B : Nat} (h1 : t.sm.length < B) (h2 : (G t).length < B) : (chgF G t).sm.length < B := by
  unfold chgF
  by_cases hb : t.hole = true
  · rw [if_pos hb]; exact h1
  · rw [if_neg hb]; exact h2
set_option maxRecDepth 10000
attribute [local irreducible] WP WC WE WB WR WF WL WG WRg WQ
section
variable {P : Program} (T : Tbl P) {h Y : AHeap} {ts : TS} {n1 n2 : List UInt8} {v7 v9 v14 v15 : AV} {U7 U9 U14 U15 : List (Trc × AV)} {b3 b7 b9 b14 b15 : Nat} {e1 e2 : Int}
include T
end
end Go.Abs
namespace Go.Abs
theorem td_skip {α : Type} {A B : List α} (hl : A.length = B.length) {k : Nat} (hk : k < A.length) (hx : A[k] = B[k]'(by omega)) : A.take k ++ B.drop k = A.take (k + 1) ++ B.drop (k + 1) := by
  rw [List.take_succ_eq_append_getElem hk, List.drop_eq_getElem_cons (show k < B.length by omega), hx, List.append_assoc]
  rfl
theorem grow_tr {P : Program} {ro : Option Nat → Prop} {ks : List Kt} {ts : TS} {Q : Ex → TS → AHeap → Prop} {d : Option Nat} {l : List IOp} {h Y : AHeap} {L : List (Trc × AV)} {out : AV} (fr : Fr h.length Y out 10 (L.map trRow)) (all : ∀ y ∈ L, Fr h.length Y y.2 1 (y.1.sm.map fltR) ∧ Apart y.2 out) (eY : Ext h Y) {x : Trc × AV} (hx : Fr h.length Y x.2 1 (x.1.sm.map fltR)) (hap : Apart x.2 out) (hl : L.length < 2 ^ 38)
    (C : ∀ (W : AHeap) (out' : AV), Ext h W → out'.one = true → Fr h.length W out' 10 ((L ++ [x]).map trRow) → (∀ y ∈ L ++ [x], Fr h.length W y.2 1 (y.1.sm.map fltR) ∧ Apart y.2 out') → WP P ro l ks (put ts d out') W Q) :
    WR P ro (appT 10 96 out (.slice Y.length 0 1 10) (fun z => (Y ++ [ABlk.cells (trRow x) true true])[z]?) (Y ++ [ABlk.cells (trRow x) true true]).length) false d l ks ts (Y ++ [ABlk.cells (trRow x) true true]) Q := by
  have hyz : IsSl (Y ++ [ABlk.cells (trRow x) true true]) (AV.slice Y.length 0 1 10) 10 [trRow x] := by
    have := (Fr.push (N := 0) (es := 10) (h := Y) (Nat.zero_le _) [trRow x] (fun y hy => by rw [List.mem_singleton] at hy; rw [hy]; rfl)).isSl
    simpa using this
  refine WR.app1 (h0 := h) (cs := L.map trRow) (ys := [trRow x]) (fr.app _) hyz (by decide) (by simp) (by rw [List.length_map, List.length_singleton]; omega) (eY.trans (Ext.app _ (Ext.refl _))) ?_
  intro g' hl' hff hkp
  have keep : ∀ c, c < Y.length → (∀ b0 o n e, out = .slice b0 o n e → c ≠ b0) → (h ++ g')[c]? = Y[c]? := fun c hc hn => by
    rw [hkp c (by rw [List.length_append]; omega) hn, List.getElem?_append_left hc]
  have hrow : L.map trRow ++ [trRow x] = (L ++ [x]).map trRow := by rw [List.map_append]; rfl
  rw [hrow] at hff ⊢
  obtain ⟨out', ho⟩ : ∃ s, s = AV.slice (Y ++ [ABlk.cells (trRow x) true true]).length 0 ((L ++ [x]).map trRow).length 10 := ⟨_, rfl⟩
  have one' : out'.one = true := by rw [ho]; rfl
  have apn : ∀ {es : Nat} {s : AV} {cs : List (List AV)}, IsSl Y s es cs → Apart s out' := fun {es s cs} q => by
    rw [ho]; exact q.apart_new (by rw [List.length_append]; omega)
  rw [← ho] at hff ⊢
  have kp : ∀ {es : Nat} {s : AV} {cs : List (List AV)}, Fr h.length Y s es cs → Apart s out → Fr h.length (h ++ g') s es cs := fun {es s cs} o ap => by
    cases o with
    | nil => exact .nil
    | mk hN hb he => exact .mk hN ((keep _ (List.getElem?_eq_some_iff.1 hb).1 fun b0 o2 n2 e2 q => ap _ _ _ _ _ _ _ _ rfl q).trans hb) he
  refine C _ out' ⟨g', rfl⟩ one' hff fun y hy => ?_
  rcases List.mem_append.1 hy with hy | hy
  · exact ⟨kp (all y hy).1 (all y hy).2, apn (all y hy).1.isSl⟩
  · rw [List.mem_singleton.1 hy]; exact ⟨kp hx hap, apn hx.isSl⟩
noncomputable def delT (n : Int) (t : Trc) : Trc := ⟨t.hd, t.hole, if t.hole = true then [] else shfF t.sm (-n)⟩
set_option maxRecDepth 10000
attribute [local irreducible] WP WC WE WB WR WF WL WG WRg WQ
section
variable {P : Program} (T : Tbl P) {h : AHeap}
include T
set_option maxHeartbeats 2000000 in
theorem r172 {x : Trc × AV} (ox : x.2.one = true) {w : AV} (ow : w.one = true) (cw : w.cells = [w]) : RCall P 172 [.agg (trRow x), w] h (fun v _ => v = .agg (trRow (x.1, if x.1.hole = true then .nilSlice else w))) := by
  refine .st2 13 T.mix T.c172 ?_;intro ts hlen t0 t1;unfold fn172
  have bx : ∀ {N : Nat}, boxF (.agg (trRow x)) N = some (.ptr N 0, .push (.cells (trRow x) true false)) := fun {N} => tr_box ox
  have b10 := @z10_box
  have l8v : ldV (trRow x)[8]? = some (.bool x.1.hole, .keep) := rfl
  have l8 := @tr_l8 x
  cases hb : x.1.hole with
  | true =>
    have bd := @fill_tr (x.1, .nilSlice) rfl
    rw [show (x.1, AV.nilSlice).1.hole = true from hb] at bd
    have st := @st_tr (x.1, .nilSlice) rfl
    have l10 := @tr_l10 (x.1, .nilSlice)
    rw [if_pos rfl]
    exact Rs (A10 @t0 @t1 @bx @b10 @l8v @hb @l8 @bd @st @l10) trivial
  | false =>
    have bd := @fill_tr (x.1, w) cw
    rw [show (x.1, w).1.hole = false from hb] at bd
    have st := @st_tr (x.1, w) ow
    have l10 := @tr_l10 (x.1, w)
    rw [if_neg (by decide)]
    repeat (first | simp (maxSteps := 1000000) only [wset, hset, dset, bset, Nat.reduceAdd, Nat.reduceMul, Nat.reduceLeDiff, Nat.reduceEqDiff, pset, hlen, if_false, if_true, t0, t1, bx, b10, l8v, hb, l8, bd, st, l10, ow] | simp (maxSteps := 1000000) (disch := first | (simp only [List.length_append, List.length_cons, List.length_nil] <;> omega) | rfl | omega | fail) only [kset, wset, hset, dset, bset, Nat.reduceAdd, Nat.reduceMul, Nat.reduceLeDiff, Nat.reduceEqDiff, pset, hlen, if_false, if_true, t0, t1, bx, b10, l8v, hb, l8, bd, st, l10, ow])
set_option maxHeartbeats 8000000 in
theorem r171 {c : Nat} {n : Int} (mc : h[c]? = some (.cells [.int .i64 n] true false)) (hn : -1024 ≤ n ∧ n ≤ 1024) {x : Trc × AV} (hx : IsSl h x.2 1 (x.1.sm.map fltR)) (hl : x.1.sm.length ≤ 1024) : RCall P 171 [.agg (trRow x), .ptr c 0] h (fun v h' => ∃ w : AV, v = .agg (trRow (delT n x.1, w)) ∧ Fr h.length h' w 1 ((delT n x.1).sm.map fltR)) := by
  refine .st2 39 T.mix T.c171 ?_;intro ts hlen t0 t1;unfold fn171
  have ox := hx.one
  have bx : ∀ {N : Nat}, boxF (.agg (trRow x)) N = some (.ptr N 0, .push (.cells (trRow x) true false)) := fun {N} => tr_box ox
  have b10 := @z10_box
  have l9v : ldV (trRow x)[9]? = some (x.2, .keep) := rfl
  have hlm := fun G => hx.lenm G
  obtain ⟨A, hA⟩ : ∃ A, A = shfF x.1.sm (-n) := ⟨_, rfl⟩
  have hAl : A.length = x.1.sm.length := by rw [hA, shfF_len]
  have hAk : ∀ (k : Nat) (hk : k < A.length), A[k] = atF x.1.sm ((k : Int) - n) := fun k hk => by simp only [hA, shfF, List.getElem_map, List.getElem_range]; rw [Int.sub_eq_add_neg]
  refine Rs (A6 @t0 @t1 @bx @b10 @l9v @hlm) ?_
  obtain ⟨B, hB⟩ : ∃ B, B = h ++ [ABlk.cells (trRow x) true false] ++ [ABlk.cells z10 true false] := ⟨_, rfl⟩
  have eB : Ext h B := by rw [hB]; exact Xx
  have m2 : B[h.length]? = some (.cells (trRow x) true false) := by rw [hB]; exact at_1
  have m3 : B[(h ++ [ABlk.cells (trRow x) true false]).length]? = some (.cells z10 true false) := by rw [hB]; exact at_new
  obtain ⟨b2, hb2⟩ : ∃ b, b = h.length := ⟨_, rfl⟩
  obtain ⟨b3, hb3⟩ : ∃ b, b = (h ++ [ABlk.cells (trRow x) true false]).length := ⟨_, rfl⟩
  have n3 : h.length ≤ b3 := by rw [hb3]; simp only [List.length_append]; omega
  have hbe := hb2
  rw [← hb2] at m2
  rw [← hb3] at m3
  rw [← hB, ← hb2, ← hb3]
  clear hB hb2 hb3
  repeat (first | simp (maxSteps := 1000000) only [wset, hset, dset, bset, Nat.reduceAdd, Nat.reduceMul, Nat.reduceLeDiff, Nat.reduceEqDiff, pset, hlen, if_false, if_true, t0, t1, mksl_ok (es := 1) (w := 4) (N0 := B.length) (n := x.1.sm.length) (z := [AV.flt .f32 0]) (k := .i64) (k' := .i64) (by omega) (by omega)] | simp (maxSteps := 1000000) (disch := first | (simp only [List.length_append, List.length_cons, List.length_nil] <;> omega) | rfl | omega | fail) only [kset, wset, hset, dset, bset, Nat.reduceAdd, Nat.reduceMul, Nat.reduceLeDiff, Nat.reduceEqDiff, pset, hlen, if_false, if_true, t0, t1, mksl_ok (es := 1) (w := 4) (N0 := B.length) (n := x.1.sm.length) (z := [AV.flt .f32 0]) (k := .i64) (k' := .i64) (by omega) (by omega)])
  have hF := Fr.zeros (N := B.length) (n := x.1.sm.length) (h := B) (z := [AV.flt .f32 0]) (es := 1) (Nat.le_refl _) rfl
  obtain ⟨sv, hsv⟩ : ∃ sv, sv = AV.slice B.length 0 x.1.sm.length 1 := ⟨_, rfl⟩
  have lsv : ∀ {G : Nat → Option ABlk}, lenG .sl G sv = some x.1.sm.length := fun {G} => by rw [hsv]; rfl
  rw [← hsv] at hF ⊢
  obtain ⟨Z, hZ⟩ : ∃ Z, Z = List.replicate x.1.sm.length (0 : Nat) := ⟨_, rfl⟩
  have hZl : Z.length = x.1.sm.length := by rw [hZ, List.length_replicate]
  have hZk : ∀ (k : Nat) (hk : k < Z.length), Z[k] = 0 := fun k hk => by simp only [hZ, List.getElem_replicate]
  have er : List.replicate x.1.sm.length [AV.flt .f32 0] = Z.map fltR := by rw [hZ]; simp [fltR]
  rw [er] at hF
  refine Rs (A3 @t0 @t1 @lsv) ?_
  refine WL.inv T.mix (fun m ts K => ∃ (k : Nat) (G : AHeap), k ≤ A.length ∧ m = A.length - k ∧ K = B ++ G ∧ Fr B.length K sv 1 ((A.take k ++ Z.drop k).map fltR) ∧ ts.length = 39 ∧ slot ts 1 = .ptr c 0 ∧ slot ts 2 = .ptr b2 0 ∧ slot ts 3 = .ptr b3 0 ∧ slot ts 4 = sv ∧ slot ts 12 = .int .i64 x.1.sm.length ∧ slot ts 13 = .int .i64 k) A.length
    ⟨0, _, by omega, rfl, rfl, hF, Sn, (Sq @t1), Sw, Sw, Sw, Sw, Swr⟩ ?_
  clear hlen t0 t1
  rintro _ ts _ ⟨k, G, hk, rfl, rfl, hfr, hlen, t1, t2, t3, t4, t12, t13⟩
  have eK : Ext B (B ++ G) := ⟨G, rfl⟩
  have i2 := @ldx _ _ _ (eK.some m2)
  have osv := hfr.isSl.one
  by_cases hlt : k < x.1.sm.length
  case neg =>
    have e3 := dltF hlt
    have e4 : k = A.length := by omega
    rw [e4, List.take_length, hAl, ← hZl, List.drop_length, List.append_nil] at hfr
    have l10 := @tr_l10 x
    refine Rs (A10 @t1 @t2 @t3 @t4 @t12 @t13 @e3 @i2 @l10 @osv) ?_
    refine WF.ce T.c172 (r172 T ox osv hfr.isSl.cells) fun g5 => ?_
    have eG : Ext B (B ++ G ++ g5) := eK.trans ⟨g5, rfl⟩
    obtain ⟨w, hw⟩ : ∃ w : AV, w = if x.1.hole = true then .nilSlice else sv := ⟨_, rfl⟩
    rw [← hw]
    have ow : w.one = true := by
      rw [hw]; split
      · rfl
      · exact osv
    have st : storeF 10 (.ptr b3 0) (.agg (trRow (x.1, w))) (fun z => (B ++ G ++ g5)[z]?) = some (undefA, .set b3 (.cells (trRow (x.1, w)) true false)) := by
      rw [storeF_at (eG.some m3)]; exact st_tr ow
    have k3 : ((B ++ G ++ g5).set b3 (.cells (trRow (x.1, w)) true false))[b3]? = some (.cells (trRow (x.1, w)) true false) := set_eq' (eG.some m3)
    have f3 := @loadF_at (some 10) b3 0 _ _ k3
    have l3 := @tr_l10 (x.1, w)
    have b3B := (List.getElem?_eq_some_iff.1 m3).1
    obtain ⟨W, hW⟩ : ∃ W, W = (B ++ G ++ g5).set b3 (.cells (trRow (x.1, w)) true false) := ⟨_, rfl⟩
    have eW : Ext h W := by rw [hW]; exact ext_setG (eB.trans eG) n3
    have hfW : Fr h.length W w 1 ((delT n x.1).sm.map fltR) := by
      rw [hw]
      unfold delT
      by_cases hb : x.1.hole = true
      · simp only [if_pos hb, List.map_nil]; exact .nil
      · simp only [if_neg hb, ← hA]
        rw [hW]
        exact ((hfr.app g5).setn ((hfr.app g5).notB b3B)).low eB.len
    refine Rs (A9 @t1 @t2 @t3 @t4 @t12 @t13 @st @f3 @l3) ?_
    have hW1 : B.set b3 (.cells (trRow (x.1, w)) true false) ++ G ++ g5 = W := by rw [hW, List.append_assoc, List.append_assoc, List.set_append_left _ _ b3B]
    first | rw [hW1] | rw [← hW]
    exact ⟨by first | exact eW | (rw [hbe]; exact eW), w, rfl, by first | exact hfW | (rw [hbe]; exact hfW)⟩
  have e3 := dltT hlt
  have e5 := wrapN (n := k) (by omega)
  have hkA : k < A.length := by omega
  have hkZ : k < Z.length := by omega
  have w1 : IntKind.i64.wrap ((k : Int) - n) = (k : Int) - n := wrap_in (by omega) (by omega)
  have lc : ∀ {kk : AHeap}, Ext (B ++ G) kk → loadF none (.ptr c 0) (fun z => kk[z]?) = some (.int .i64 n, .keep) := fun {kk} e => by rw [loadF_at (e.some ((eB.trans eK).some mc))]; rfl
  have hat := hAk k hkA
  have hxK := hx.ext (eB.trans eK)
  have lsv' : ∀ {G : Nat → Option ABlk}, lenG .sl G sv = some x.1.sm.length := lsv
  by_cases hneg : 0 ≤ (k : Int) - n
  case neg =>
    have d2 : decide (0 ≤ (k : Int) - n) = false := decide_eq_false hneg
    have e0 : A[k] = Z[k] := by rw [hat, hZk]; unfold atF; rw [if_neg hneg]
    rw [td_skip (hAl.trans hZl.symm) hkA e0] at hfr
    refine Rs (A11 @t1 @t2 @t3 @t4 @t12 @t13 @e3 @lc @w1 @d2 @e5) ?_
    exact ⟨A.length - (k + 1), by omega, k + 1, G, by omega, rfl, rfl, hfr, rfl⟩
  have d2 : decide (0 ≤ (k : Int) - n) = true := decide_eq_true hneg
  obtain ⟨q, hq⟩ : ∃ q : Nat, (k : Int) - n = (q : Int) := ⟨((k : Int) - n).toNat, by omega⟩
  rw [hq] at w1 d2 hat
  have w1' : IntKind.i64.wrap ((k : Int) - n) = (q : Int) := by rw [hq]; exact w1
  by_cases hql : q < x.1.sm.length
  case neg =>
    have d3 : decide ((q : Int) < (x.1.sm.length : Int)) = false := decide_eq_false (by omega)
    have e0 : A[k] = Z[k] := by
      rw [hat, hZk]; unfold atF
      rw [if_pos (by omega), List.getD_eq_getElem?_getD, Int.toNat_natCast, List.getElem?_eq_none (by omega)]; rfl
    rw [td_skip (hAl.trans hZl.symm) hkA e0] at hfr
    refine Rs (A13 @t1 @t2 @t3 @t4 @t12 @t13 @e3 @lc @w1' @d2 @lsv' @d3 @e5) ?_
    exact ⟨A.length - (k + 1), by omega, k + 1, G, by omega, rfl, rfl, hfr, rfl⟩
  have d3 : decide ((q : Int) < (x.1.sm.length : Int)) = true := decide_eq_true (by omega)
  obtain ⟨y, hy⟩ : ∃ y, y = x.1.sm[q] := ⟨_, rfl⟩
  have e0 : y = A[k] := by
    rw [hat]; unfold atF
    rw [if_pos (by omega), List.getD_eq_getElem?_getD, Int.toNat_natCast, List.getElem?_eq_getElem hql, hy]; rfl
  have ixq := hxK.ixm (kk := .i64) hql
  have ldq : ∀ {kk : AHeap}, Ext (B ++ G) kk → loadF none (elp x.2 1 q) (fun b => kk[b]?) = some (.flt .f32 y, .keep) := fun {kk} e => by rw [hy]; exact hxK.l1m hql rfl e
  have hpl : (A.take k ++ Z.drop k).length = x.1.sm.length := by rw [List.length_append, List.length_take, List.length_drop]; omega
  have ixv := hfr.isSl.ixm (kk := .i64) (show k < _ by rw [hpl]; exact hlt)
  refine Rs (A17 @t1 @t2 @t3 @t4 @t12 @t13 @e3 @lc @w1' @d2 @lsv' @d3 @i2 @l9v @ixq @ldq @ixv) ?_
  refine WR.put1 (h0 := B) (off := 0) (row := fltR) (x' := y) hfr (by rw [hpl]; exact hlt) (by decide) rfl rfl ?_
  intro g4 hl4 hF4 _
  rw [set_td (hAl.trans hZl.symm) hkA e0] at hF4
  refine Rs (A7 @t1 @t2 @t3 @t4 @t12 @t13 @e5) ?_
  exact ⟨A.length - (k + 1), by omega, k + 1, g4, by omega, rfl, rfl, hF4, rfl⟩
set_option maxHeartbeats 8000000 in
theorem r208 {s : AV} {L : List (Trc × AV)} (o : ShOk h L s) (zl : L.length < 2 ^ 38) {f : FuncId} {AF : AFunc} (hA : compileFn P f = some AF) {c : Nat} {G : Trc → Trc} (hf : ∀ x ∈ L, ∀ k, Ext h k → RCall P f [.agg (trRow x), .ptr c 0] k (fun v k' => ∃ w : AV, v = .agg (trRow (G x.1, w)) ∧ Fr k.length k' w 1 ((G x.1).sm.map fltR))) : RCall P 208 [s, .func (.func f) [] [.ptr c 0]] h (fun v h' => ∃ L' : List (Trc × AV), Fr h.length h' v 10 (L'.map trRow) ∧ (∀ y ∈ L', Fr h.length h' y.2 1 (y.1.sm.map fltR)) ∧ L'.map Prod.fst = L.map (fun x => G x.1)) := by
  refine .st2 22 T.mix T.c208 ?_;intro ts hlen t0 t1;unfold fn208
  refine Rs (A3 @t0 @t1 o.sl.lenm) ?_
  refine WL.inv T.mix (fun n ts K => ∃ (k : Nat) (t : AV) (L' : List (Trc × AV)), k ≤ L.length ∧ n = L.length - k ∧ Ext h K ∧ Fr h.length K t 10 (L'.map trRow) ∧ (∀ y ∈ L', Fr h.length K y.2 1 (y.1.sm.map fltR) ∧ Apart y.2 t) ∧ L'.map Prod.fst = (L.take k).map (fun x => G x.1) ∧ ts.length = 22 ∧ slot ts 1 = .func (.func f) [] [.ptr c 0] ∧ slot ts 5 = t ∧ slot ts 8 = s ∧ slot ts 9 = .int .i64 L.length ∧ slot ts 10 = .int .i64 k) L.length
    ⟨0, .nilSlice, [], by omega, rfl, .refl _, .nil, (fun y hy => by cases hy), rfl, Sn, (Sq @t1), Sw, Sw, Sw, Swr⟩ ?_
  clear hlen t0 t1
  rintro _ ts K ⟨k, t, L', hk, rfl, eK, hfr, hall, hL', hlen, t1, t5, t8, t9, t10⟩
  have hsK := o.sl.ext eK
  by_cases hlt : k < L.length
  case neg =>
    have e3 := dltF hlt
    have e4 : k = L.length := by omega
    rw [e4, List.take_length] at hL'
    refine Rs (A6 @t1 @t5 @t8 @t9 @t10 @e3) ?_
    exact ⟨eK, L', hfr, fun y hy => (hall y hy).1, hL'⟩
  have e3 := dltT hlt
  have e5 := wrapN (n := k) (by omega)
  have ix := hsK.ixm (kk := .i64) hlt
  obtain ⟨x, hx⟩ : ∃ x, x = L[k] := ⟨_, rfl⟩
  have ld : ∀ {kk : AHeap}, Ext K kk → loadF (some 10) (elp s 10 k) (fun b => kk[b]?) = some (.agg (trRow x), .keep) := fun {kk} e => by rw [hx]; exact hsK.ldm hlt e
  have hmem : x ∈ L := by rw [hx]; exact List.getElem_mem _
  have ox := (o.all x hmem).one
  have ot := hfr.isSl.one
  have htk : L.take (k + 1) = L.take k ++ [x] := by rw [hx]; exact List.take_succ_eq_append_getElem hlt
  have hLk : L'.length = k := by
    have := congrArg List.length hL'
    rw [List.length_map, List.length_map, List.length_take] at this
    omega
  have bz := @z10_box
  have st := @st_tr x ox
  have l10 := @tr_l10 x
  refine Rs (A12 @t1 @t5 @t8 @t9 @t10 @e3 @ix @ld @bz @st @l10 @ot) ?_
  obtain ⟨K1, hK1⟩ : ∃ K1, K1 = K ++ [ABlk.cells (trRow x) true false] := ⟨_, rfl⟩
  have eK1 : Ext K K1 := by rw [hK1]; exact Xx
  rw [← hK1]
  clear hK1
  refine WF.res (a := []) (c := [.ptr c 0]) hA (hf x hmem K1 (eK.trans eK1)) ?_
  rintro _ g1 ⟨w, rfl, hw⟩
  have eG : Ext K1 (K1 ++ g1) := Xx
  have ow := hw.isSl.one
  have bs := @bsl_tr (G x.1, w) ow
  have kl := (eK.trans eK1).len
  have kl1 := eK1.len
  refine Rs (A7 @t1 @t5 @t8 @t9 @t10 @ot @bs) ?_
  refine grow_tr (h := h) (x := (G x.1, w)) (hfr.ext (eK1.trans eG)) (fun y hy => ⟨(hall y hy).1.ext (eK1.trans eG), (hall y hy).2⟩) (eK.trans (eK1.trans eG)) (hw.low kl) (hfr.apart_fr hw kl1).symm (by omega) ?_
  intro W out' eW one' hfr' hall'
  have hlist : (L' ++ [(G x.1, w)]).map Prod.fst = (L.take (k + 1)).map (fun x => G x.1) := by rw [htk, List.map_append, List.map_append, hL']; rfl
  refine Rs (A7 @t1 @t5 @t8 @t9 @t10 @one' @e5) ?_
  exact ⟨L.length - (k + 1), by omega, k + 1, out', L' ++ [(G x.1, w)], by omega, rfl, eW, hfr', hall', hlist, rfl, rfl⟩
end
end Go.Abs
namespace Go.Abs
set_option maxRecDepth 10000
attribute [local irreducible] WP WC WE WB WR WF WL WG WRg WQ
section
variable {P : Program} (T : Tbl P) {h : AHeap}
include T
set_option maxHeartbeats 4000000 in
theorem r170 {nm : List UInt8} {s : AV} {L : List (Trc × AV)} (o : ShOk h L s) (zl : L.length < 2 ^ 38) {f : FuncId} {AF : AFunc} (hA : compileFn P f = some AF) {c : Nat} {G : Trc → Trc} (hf : ∀ x ∈ L, ∀ k, Ext h k → RCall P f [.agg (trRow x), .ptr c 0] k (fun v k' => ∃ w : AV, v = .agg (trRow (G x.1, w)) ∧ Fr k.length k' w 1 ((G x.1).sm.map fltR))) : RCall P 170 [.agg [.str nm, s], .func (.func f) [] [.ptr c 0]] h (fun v h' => ∃ (s' : AV) (L' : List (Trc × AV)), v = .agg [.str nm, s'] ∧ Fr h.length h' s' 10 (L'.map trRow) ∧ (∀ y ∈ L', Fr h.length h' y.2 1 (y.1.sm.map fltR)) ∧ L'.map Prod.fst = L.map (fun x => G x.1)) := by
  refine .st2 12 T.mix T.c170 ?_;intro ts hlen t0 t1;unfold fn170
  have bx := @sh_box nm s o.sl.one
  have bz : ∀ {N : Nat}, boxF (.agg [.str [], .nilSlice]) N = some (.ptr N 0, .push (.cells (shC [] .nilSlice) true false)) := fun {N} => rfl
  have ln : ldV (shC nm s)[0]? = some (.str nm, .keep) := rfl
  have ls : ldV (shC nm s)[1]? = some (s, .keep) := rfl
  have os := o.sl.one
  repeat (first | simp (maxSteps := 1000000) only [wset, hset, dset, bset, Nat.reduceAdd, Nat.reduceMul, Nat.reduceLeDiff, Nat.reduceEqDiff, pset, hlen, if_false, if_true, t0, t1, bx, bz, ln, ls, os] | simp (maxSteps := 1000000) (disch := first | (simp only [List.length_append, List.length_cons, List.length_nil] <;> omega) | rfl | omega | fail) only [kset, wset, hset, dset, bset, Nat.reduceAdd, Nat.reduceMul, Nat.reduceLeDiff, Nat.reduceEqDiff, pset, hlen, if_false, if_true, t0, t1, bx, bz, ln, ls, os])
  obtain ⟨K1, hK1⟩ : ∃ K1, K1 = h ++ [ABlk.cells (shC nm s) true false] ++ [ABlk.cells (shC [] .nilSlice) true false] := ⟨_, rfl⟩
  have eK1 : Ext h K1 := by rw [hK1]; exact Xx
  have m4 : K1[(h ++ [ABlk.cells (shC nm s) true false]).length]? = some (.cells (shC [] .nilSlice) true false) := by rw [hK1]; exact at_new
  obtain ⟨b4, hb4⟩ : ∃ b, b = (h ++ [ABlk.cells (shC nm s) true false]).length := ⟨_, rfl⟩
  have n4 : h.length ≤ b4 := by rw [hb4]; simp only [List.length_append]; omega
  rw [← hb4] at m4
  rw [← hK1, ← hb4]
  clear hK1 hb4
  refine WF.res T.c208 (r208 T (o.ext eK1) zl hA (fun x hx k ek => hf x hx k (eK1.trans ek))) ?_
  rintro v g1 ⟨L', fr, all, fl⟩
  have b4K := (List.getElem?_eq_some_iff.1 m4).1
  have eg : Ext K1 (K1 ++ g1) := ⟨g1, rfl⟩
  have ov := fr.isSl.one
  have bd : fillA [.str [], .nilSlice] [(0, 1, .str nm), (1, 1, v)] = some [.str nm, v] := by
    unfold fillA
    rw [if_pos ⟨rfl, by decide⟩]
    unfold fillA
    rw [fr.isSl.cells, if_pos ⟨rfl, by show 1 + 1 ≤ 2; omega⟩]
    rfl
  have s4 : storeF 2 (.ptr b4 0) (.agg [.str nm, v]) (fun z => (K1 ++ g1)[z]?) = some (undefA, .set b4 (.cells (shC nm v) true false)) := by
    rw [storeF_at (eg.some m4)]; exact sh_st ov
  have k4 : ((K1 ++ g1).set b4 (.cells (shC nm v) true false))[b4]? = some (.cells (shC nm v) true false) := set_eq' (eg.some m4)
  have f4 := @loadF_at (some 2) b4 0 _ _ k4
  have l4 := @sh_l2 nm v
  obtain ⟨W, hW⟩ : ∃ W, W = (K1 ++ g1).set b4 (.cells (shC nm v) true false) := ⟨_, rfl⟩
  have hW1 : K1.set b4 (.cells (shC nm v) true false) ++ g1 = W := by rw [hW, List.set_append_left _ _ b4K]
  have eW : Ext h W := by rw [hW]; exact ext_setG (eK1.trans eg) n4
  have frW : Fr h.length W v 10 (L'.map trRow) := by rw [hW]; exact (fr.setn (fr.notB b4K)).low eK1.len
  have allW : ∀ y ∈ L', Fr h.length W y.2 1 (y.1.sm.map fltR) := fun y hy => by rw [hW]; exact ((all y hy).setn ((all y hy).notB b4K)).low eK1.len
  refine Rs (A7 @t0 @t1 @ov @bd @s4 @f4 @l4) ?_
  first | rw [hW1] | rw [← hW]
  exact ⟨eW, v, L', rfl, frW, allW, fl⟩
set_option maxHeartbeats 8000000 in
theorem r96 (rg : Rng h) {nm : List UInt8} {s : AV} {L : List (Trc × AV)} (o : ShOk h L s) (z : ShSz L) (zl : L.length < 2 ^ 38) (hc : chkSh nm (L.map Prod.fst) = 0) {n : Int} (hn : -1024 ≤ n ∧ n ≤ 1024) : RCall P 96 [.agg [.str nm, s], .int .i64 n] h (fun v h' => ∃ (s' : AV) (L' : List (Trc × AV)), v = .tup [.agg [.str nm, s'], .int .i64 0] ∧ ShOk h' L' s' ∧ L'.map Prod.fst = (L.map Prod.fst).map (delT n)) := by
  refine .st2 20 T.mix T.c96 ?_;intro ts hlen t0 t1;unfold fn96
  have bx := @sh_box nm s o.sl.one
  have b0 : ∀ {N : Nat}, boxF (.int .i64 n) N = some (.ptr N 0, .push (.cells [.int .i64 n] true false)) := fun {N} => rfl
  have bz : ∀ {N : Nat}, boxF (.agg [.str [], .nilSlice]) N = some (.ptr N 0, .push (.cells (shC [] .nilSlice) true false)) := fun {N} => rfl
  have l2 := @sh_l2 nm s
  refine Rs (A5 @t0 @t1 @bx @b0 @bz) ?_
  obtain ⟨Y, hY⟩ : ∃ Y, Y = h ++ [ABlk.cells (shC nm s) true false] ++ [ABlk.cells [AV.int .i64 n] true false] ++ [ABlk.cells (shC [] .nilSlice) true false] := ⟨_, rfl⟩
  have eY : Ext h Y := by rw [hY]; exact Xx
  have m2 : Y[h.length]? = some (.cells (shC nm s) true false) := by rw [hY]; exact at_2
  have m3 : Y[(h ++ [ABlk.cells (shC nm s) true false]).length]? = some (.cells [AV.int .i64 n] true false) := by rw [hY]; exact at_1
  have m4 : Y[(h ++ [ABlk.cells (shC nm s) true false] ++ [ABlk.cells [AV.int .i64 n] true false]).length]? = some (.cells (shC [] .nilSlice) true false) := by rw [hY]; exact at_new
  obtain ⟨b2, hb2⟩ : ∃ b, b = h.length := ⟨_, rfl⟩
  obtain ⟨b3, hb3⟩ : ∃ b, b = (h ++ [ABlk.cells (shC nm s) true false]).length := ⟨_, rfl⟩
  obtain ⟨b4, hb4⟩ : ∃ b, b = (h ++ [ABlk.cells (shC nm s) true false] ++ [ABlk.cells [AV.int .i64 n] true false]).length := ⟨_, rfl⟩
  have n4 : h.length ≤ b4 := by rw [hb4]; simp only [List.length_append]; omega
  rw [← hb2] at m2
  rw [← hb3] at m3
  rw [← hb4] at m4
  rw [← hY, ← hb2, ← hb3, ← hb4]
  clear hY hb2 hb3 hb4
  have i2 := @ldx _ _ _ m2
  have i3 : ∀ {k : AHeap}, Ext Y k → loadF none (.ptr b3 0) (fun z => k[z]?) = some (.int .i64 n, .keep) := fun {k} e => by rw [loadF_at (e.some m3)]; rfl
  have hr : rangeS n (-1024) 1024 = 0 := rangeS_z.2 hn
  refine Rs (A4 @t0 @t1 @i2 @l2) ?_
  refine WF.ce T.c159 (r159 T (rg.ext eY) (o.ext eY) z) fun g1 => ?_
  rw [hc]
  refine Rs (A3 @t0 @t1 @i3) ?_
  refine WF.ce T.c169 (r169 T _ _ _) fun g2 => ?_
  rw [hr]
  refine Rs (A2 @t0 @t1) ?_
  refine WF.ce T.c168 (r168 T (isSl_ints [_, _]) (by simp)) fun g3 => ?_
  have hz : firstS [(0 : Int), 0] = 0 := rfl
  have d1 : decide ((0 : Int) ≠ 0) = false := rfl
  rw [hz]
  obtain ⟨K1, hK1⟩ : ∃ K, K = Y ++ g1 ++ g2 ++ [ABlk.cells [AV.int .i64 0, AV.int .i64 0] true true] ++ g3 := ⟨_, rfl⟩
  have f1 : Ext Y K1 := by rw [hK1]; exact Xx
  rw [← hK1]
  clear hK1
  obtain ⟨_, _, _, hct⟩ := chkSh_z hc
  have i2 := @ldx _ _ _ (f1.some m2)
  refine Rs (A5 @t0 @t1 @d1 @i2 @l2) ?_
  refine WF.res T.c170 (r170 T (o.ext (eY.trans f1)) zl T.c171 (c := b3) (G := delT n) (fun x hx k ek => ?_)) ?_
  · have hcx := chkTr_z (hct x.1 (List.mem_map_of_mem hx))
    exact r171 T ((f1.trans ek).some m3) hn ((o.all x hx).ext (eY.trans (f1.trans ek))) (chkL_z hcx.2.2).1
  rintro _ g4 ⟨s', L', rfl, fr, all, fl⟩
  have eg : Ext K1 (K1 ++ g4) := ⟨g4, rfl⟩
  have b4K : b4 < K1.length := (List.getElem?_eq_some_iff.1 (f1.some m4)).1
  have os' := fr.isSl.one
  have s4 : storeF 2 (.ptr b4 0) (.agg [.str nm, s']) (fun z => (K1 ++ g4)[z]?) = some (undefA, .set b4 (.cells (shC nm s') true false)) := by
    rw [storeF_at ((f1.trans eg).some m4)]; exact sh_st os'
  have k4 : ((K1 ++ g4).set b4 (.cells (shC nm s') true false))[b4]? = some (.cells (shC nm s') true false) := set_eq' ((f1.trans eg).some m4)
  have f4 := @loadF_at (some 2) b4 0 _ _ k4
  have l4 := @sh_l2 nm s'
  obtain ⟨W, hW⟩ : ∃ W, W = (K1 ++ g4).set b4 (.cells (shC nm s') true false) := ⟨_, rfl⟩
  have hW1 : K1.set b4 (.cells (shC nm s') true false) ++ g4 = W := by rw [hW, List.set_append_left _ _ b4K]
  have eW : Ext h W := by rw [hW]; exact ext_setG (eY.trans (f1.trans eg)) n4
  have okW : ShOk W L' s' := by rw [hW]; exact ⟨fr.isSl.setb (fr.notB b4K), fun y hy => (all y hy).isSl.setb ((all y hy).notB b4K)⟩
  refine Rs (A5 @t0 @t1 @s4 @f4 @l4) ?_
  first | rw [hW1] | rw [← hW]
  exact ⟨eW, s', L', rfl, okW, by rw [fl, List.map_map]; rfl⟩
end
end Go.Abs
namespace Go.Abs
theorem IsSl.nilq {h : AHeap} {s : AV} {es : Nat} {cs : List (List AV)} (hs : IsSl h s es cs) : (s = .nilSlice ∧ cs = []) ∨ (∀ neg : Bool, eqvF neg (eqvK .nilS s .nilSlice) = some (.bool neg)) := by
  cases hs with
  | nil => exact .inl ⟨rfl, rfl⟩
  | mk hb hf ho he => right; intro neg; cases neg <;> rfl
theorem nilq_nil : eqvF false (eqvK .nilS .nilSlice .nilSlice) = some (.bool true) := rfl
def med3 (a b c : Int) : Int := max (min a b) (min (max a b) c)
theorem sort3 (a b c : Int) : ∃ x z, sortI [a, b, c] = [x, med3 a b c, z] := by
  simp only [sortI, insI]
  unfold med3
  by_cases h1 : b ≤ c
  · rw [if_pos h1]
    simp only [insI]
    by_cases h2 : a ≤ b
    · rw [if_pos h2]; exact ⟨a, c, by congr 2; omega⟩
    · rw [if_neg h2]
      by_cases h3 : a ≤ c
      · rw [if_pos h3]; exact ⟨b, c, by congr 2; omega⟩
      · rw [if_neg h3]; exact ⟨b, a, by congr 2; omega⟩
  · rw [if_neg h1]
    simp only [insI]
    by_cases h2 : a ≤ c
    · rw [if_pos h2]; exact ⟨a, b, by congr 2; omega⟩
    · rw [if_neg h2]
      by_cases h3 : a ≤ b
      · rw [if_pos h3]; exact ⟨c, b, by congr 2; omega⟩
      · rw [if_neg h3]; exact ⟨c, a, by congr 2; omega⟩
theorem med_bd {a b c : Int} (ha : -16384 ≤ a ∧ a ≤ 16384) (hb : -16384 ≤ b ∧ b ≤ 16384) (hc : -16384 ≤ c ∧ c ≤ 16384) : -16384 ≤ med3 a b c ∧ med3 a b c ≤ 16384 := by unfold med3; omega
def medA (A : List Int) (i : Nat) : Int := med3 (atZ A ((i : Int) - 1)) (atZ A i) (atZ A ((i : Int) + 1))
def desF (A : List Int) (lim : Int) (i : Nat) : Int := if 0 < i ∧ i + 1 < A.length then min (max (atZ A i) (medA A i - lim)) (medA A i + lim) else atZ A i
def desL (A : List Int) (lim : Int) : List Int := genL A.length (desF A lim)
def desK (A : List Int) (lim : Int) (k : Nat) : List Int := genL A.length fun i => if i < k then desF A lim i else atZ A i
theorem gen_eq {n : Nat} {f g : Nat → Int} (h : ∀ i, i < n → f i = g i) : genL n f = genL n g := List.map_congr_left fun i hi => h i (by simpa using hi)
theorem gen_self (A : List Int) : (genL A.length fun i : Nat => atZ A i) = A := list_atZ (genL_len _ _) fun k hk => by
  rw [genL_len] at hk
  rw [atZ_gen hk]
theorem gen_set {n k : Nat} {f : Nat → Int} {x : Int} : (genL n f).set k x = genL n fun i => if i = k then x else f i := by
  refine List.ext_getElem (by simp [genL_len]) fun j h1 h2 => ?_
  rw [genL_len] at h2
  rw [List.getElem_set]
  simp only [genL, List.getElem_map, List.getElem_range]
  by_cases e : k = j
  · rw [if_pos e, if_pos e.symm]
  · rw [if_neg e, if_neg (fun z => e z.symm)]
theorem desK_1 (A : List Int) (lim : Int) : desK A lim 1 = A := by
  refine Eq.trans (gen_eq fun i hi => ?_) (gen_self A)
  by_cases e : i < 1
  · rw [if_pos e, desF, if_neg (by omega)]
  · rw [if_neg e]
theorem desK_all {A : List Int} {lim : Int} {k : Nat} (h : A.length ≤ k + 1) : desK A lim k = desL A lim := gen_eq fun i hi => by
  by_cases e : i < k
  · rw [if_pos e]
  · rw [if_neg e, desF, if_neg (by omega)]
theorem desK_set (A : List Int) (lim : Int) (k : Nat) : (desK A lim k).set k (desF A lim k) = desK A lim (k + 1) := by
  unfold desK
  rw [gen_set]
  refine gen_eq fun i hi => ?_
  by_cases e : i = k
  · rw [if_pos e, e, if_pos (by omega)]
  · rw [if_neg e]
    by_cases e2 : i < k
    · rw [if_pos e2, if_pos (by omega)]
    · rw [if_neg e2, if_neg (by omega)]
theorem three_at {A : List Int} {k : Nat} (h0 : 0 < k) (h : k + 1 < A.length) : (A.drop (k - 1)).take (k + 2 - (k - 1)) = [atZ A ((k : Int) - 1), atZ A k, atZ A ((k : Int) + 1)] := by
  have e1 : atZ A ((k : Int) - 1) = A[k - 1] := by rw [show (k : Int) - 1 = ((k - 1 : Nat) : Int) by omega, atZ_at]
  have e2 : atZ A ((k : Int) + 1) = A[k + 1] := by rw [show (k : Int) + 1 = ((k + 1 : Nat) : Int) by omega, atZ_at]
  rw [e1, e2, atZ_at (show k < A.length by omega)]
  refine List.ext_getElem (by simp; omega) fun j h1 h2 => ?_
  simp only [List.length_cons, List.length_nil] at h2
  rw [List.getElem_take, List.getElem_drop]
  rcases (show j = 0 ∨ j = 1 ∨ j = 2 by omega) with rfl | rfl | rfl
  · rfl
  · simp only [List.getElem_cons_succ, List.getElem_cons_zero]
    congr 1; omega
  · simp only [List.getElem_cons_succ, List.getElem_cons_zero]
    congr 1; omega
theorem desF_in {A : List Int} {lim : Int} {k : Nat} (h0 : 0 < k) (h : k + 1 < A.length) : desF A lim k = min (max (atZ A k) (medA A k - lim)) (medA A k + lim) := if_pos ⟨h0, h⟩
noncomputable def chkDs (l : List Nat) (n : Int) : Int := firstS [chkL l, rangeS n 0 16384]
set_option maxRecDepth 10000
attribute [local irreducible] WP WC WE WB WR WF WL WG WRg WQ
section
variable {P : Program} (T : Tbl P) {h : AHeap}
include T
set_option maxHeartbeats 1000000 in
theorem r135 {s : AV} {cs : List (List AV)} (hs : IsSl h s 1 cs) (hl : cs.length ≤ 2 ^ 40) : RCall P 135 [s] h (fun v h' => Fr h.length h' v 1 cs) := by
  refine .of T.mix T.c135 ?_
  unfold fn135
  rcases hs.nilq with ⟨rfl, rfl⟩ | hq
  · refine Ws @nilq_nil ?_
    exact .nil
  · refine Ws @hq ?_
    refine WR.appz (N := h.length) at_new (Nat.le_refl _) (hs.ext (by repeat first | exact Ext.refl _ | refine Ext.app _ ?_)) (by omega) fun s' g hf => ?_
    refine Wn ?_
    exact hf
set_option maxHeartbeats 1000000 in
theorem r97 (a b c : Int) : RCall P 97 [.int .i64 a, .int .i64 b, .int .i64 c] h (fun v _ => v = .int .i64 (med3 a b c)) := by
  refine .st3 16 T.mix T.c97 ?_;intro ts hlen t0 t1 t2;unfold fn97
  refine Rs (A3 @t0 @t1 @t2) ?_
  rfl
end
end Go.Abs
namespace Go.Abs
theorem desK_len (A : List Int) (lim : Int) (k : Nat) : (desK A lim k).length = A.length := genL_len _ _
set_option maxRecDepth 10000
attribute [local irreducible] WP WC WE WB WR WF WL WG WRg WQ
section
variable {P : Program} (T : Tbl P) {h : AHeap}
include T
set_option maxHeartbeats 4000000 in
theorem r46 (S : SrtOk P) {s : AV} {l : List Nat} (hs : IsSl h s 1 (l.map fltR)) (hl : l.length < 2 ^ 40) (lim : Int) : RCall P 46 [s, .int .i64 lim] h (fun v h' => ∃ (t : AV) (e : Int), v = .tup [t, .int .i64 e] ∧ HeardS h' (chkDs l lim) (desL (l.map gridN) lim) t e) := by
  refine .st2 62 T.mix T.c46 ?_;intro ts hlen t0 t1;unfold fn46
  refine Rs (A2 @t0 @t1) ?_
  refine WF.ce T.c134 (r134 T hs hl) fun g1 => ?_
  refine Rs (A2 @t0 @t1) ?_
  refine WF.ce T.c120 (r120 T _ _ _) fun g2 => ?_
  refine Rs (A2 @t0 @t1) ?_
  refine WF.ce T.c116 (r116 T (isSl_ints [_, _]) (by simp)) fun g4 => ?_
  have hE : firstS [chkL l, rangeS lim 0 16384] = chkDs l lim := rfl
  rw [hE]
  by_cases hz : chkDs l lim = 0
  case neg =>
    have d1 : decide (chkDs l lim ≠ 0) = true := decide_eq_true hz
    refine Rs (A3 @t0 @t1 @d1) ?_
    exact ⟨.nilSlice, _, rfl, by unfold HeardS; rw [if_pos hz]; exact ⟨rfl, rfl⟩⟩
  have d1 : decide (chkDs l lim ≠ 0) = false := decide_eq_false fun z => z hz
  obtain ⟨q1, q2⟩ := first2 hz
  obtain ⟨hl2, hg⟩ := chkL_z q1
  have hn := rangeS_z.1 q2
  refine Rs (A3 @t0 @t1 @d1) ?_
  refine WF.res T.c107 (r107 T (hs.ext Xx) hl T.c108 (g := gridN) (fun x hx k => r108 T (hg x hx))) ?_
  intro s7 g5 is7
  obtain ⟨A, hA⟩ : ∃ A, A = l.map gridN := ⟨_, rfl⟩
  have hAl : A.length = l.length := by rw [hA]; simp
  have hAb := grid_all hg
  rw [← hA] at is7 hAb ⊢
  obtain ⟨B, hB⟩ : ∃ B, B = h ++ g1 ++ g2 ++ [ABlk.cells [AV.int IntKind.i64 (chkL l), AV.int IntKind.i64 (rangeS lim 0 16384)] true true] ++ g4 ++ g5 := ⟨_, rfl⟩
  have eB : Ext h B := by rw [hB]; exact Xx
  rw [← hB] at is7 ⊢
  clear hB
  have hHS : ∀ {k : AHeap} {u : AV} {e : Int}, ToldS k (desL A lim) u e → HeardS k (chkDs l lim) (desL A lim) u e := fun x => by unfold HeardS; rw [if_neg (fun z => z hz)]; exact x
  have o7 := is7.one
  refine Rs (A3 @t0 @t1 @o7) ?_
  refine WF.res T.c135 (r135 T is7 (by rw [List.length_map]; omega)) ?_
  intro s8 g6 f8
  have o8 := f8.isSl.one
  refine Rs (A4 @t0 @t1 @o7 @o8) ?_
  refine WL.inv T.mix (fun n ts K => ∃ (k : Nat) (G : AHeap), 1 ≤ k ∧ k ≤ max 1 (A.length - 1) ∧ n = A.length - k ∧ K = B ++ G ∧ Fr B.length K s8 1 ((desK A lim k).map intRow) ∧ ts.length = 62 ∧ slot ts 1 = .int .i64 lim ∧ slot ts 7 = s7 ∧ slot ts 8 = s8 ∧ slot ts 9 = .int .i64 k) (A.length - 1)
    ⟨1, g6, by omega, by omega, rfl, rfl, by rw [desK_1]; exact f8, Sn, (Sq @t1), Sw, Sw, Swr⟩ ?_
  clear hlen t0 t1
  rintro _ ts _ ⟨k, G, hk1, hk, rfl, rfl, hfr, hlen, t1, t7, t8, t9⟩
  have eK : Ext B (B ++ G) := ⟨G, rfl⟩
  have hsK := is7.ext eK
  have wl : IntKind.i64.wrap ((A.length : Int) - 1) = (A.length : Int) - 1 := wrap_in (by omega) (by omega)
  by_cases hlt : k + 1 < A.length
  case neg =>
    have e3 : decide ((k : Int) < (A.length : Int) - 1) = false := decide_eq_false (by omega)
    rw [desK_all (by omega)] at hfr
    refine Rs (A7 @t1 @t7 @t8 @t9 hsK.lenm @wl @e3) ?_
    refine WF.res T.c105 (r105 T hfr.isSl (by rw [desL, genL_len]; omega)) ?_
    rintro _ g7 ⟨t, e, rfl, ht⟩
    refine Rs (A2 @t1 @t7) ?_
    exact ⟨eB.trans (eK.trans ⟨g7, rfl⟩), t, e, rfl, hHS ht⟩
  have e3 : decide ((k : Int) < (A.length : Int) - 1) = true := decide_eq_true (by omega)
  have e5 := wrapN (n := k) (by omega)
  have w1 : IntKind.i64.wrap ((k : Int) - 1) = ((k - 1 : Nat) : Int) := by rw [wrap_in (by omega) (by omega)]; omega
  have w2 : IntKind.i64.wrap ((k : Int) + 2) = ((k + 2 : Nat) : Int) := by rw [wrap_in (by omega) (by omega)]; omega
  have hbn : bnds (some (.int .i64 ((k - 1 : Nat) : Int))) (some (.int .i64 ((k + 2 : Nat) : Int))) A.length = some (k - 1, k + 2) := by
    simp only [bnds, loN, hiN]
    rw [if_pos (by omega), Int.toNat_natCast, Int.toNat_natCast]
  obtain ⟨s36, hs36, is36⟩ := hsK.slm hbn
  rw [three_at (by omega) hlt] at is36
  refine Rs (A10 @t1 @t7 @t8 @t9 hsK.lenm @wl @e3 @w1 @w2 @hs36) ?_
  refine WF.res T.c137 (r137 T is36) ?_
  rintro _ g7 ⟨b, rfl, mb⟩
  refine Rs (A4 @t1 @t7 @t8 @t9) ?_
  refine WF.res T.c136 (r136 T S mb (is36.ext Xx) (by simp)) ?_
  intro v10 g8 f10
  obtain ⟨y, z, hyz⟩ := sort3 (atZ A ((k : Int) - 1)) (atZ A k) (atZ A ((k : Int) + 1))
  rw [hyz] at f10
  have o10 := f10.isSl.one
  have i1 := f10.isSl.ixm (kk := .i64) (i := 1) (by simp)
  have mA : med3 (atZ A ((k : Int) - 1)) (atZ A k) (atZ A ((k : Int) + 1)) = medA A k := rfl
  rw [mA] at f10
  have mb2 : -16384 ≤ medA A k ∧ medA A k ≤ 16384 := med_bd (atZ_bd hAb _) (atZ_bd hAb _) (atZ_bd hAb _)
  have hfr2 := (hfr.app g7).app g8
  have hsL := (hsK.ext (show Ext (B ++ G) (B ++ G ++ g7) from ⟨_, rfl⟩)).ext (show Ext (B ++ G ++ g7) (B ++ G ++ g7 ++ g8) from ⟨_, rfl⟩)
  have f10' := f10.isSl
  rw [List.append_assoc B, List.append_assoc B] at hfr2 hsL f10' ⊢
  obtain ⟨G2, hG2⟩ : ∃ G2, G2 = G ++ g7 ++ g8 := ⟨_, rfl⟩
  rw [← hG2] at hfr2 hsL f10' ⊢
  have hkA : k < A.length := by omega
  have hkC : k < (desK A lim k).length := by rw [desK_len]; exact hkA
  have ix := hsL.ixm (kk := .i64) hkA
  have ixk := hfr2.isSl.ixm (kk := .i64) hkC
  have ld : ∀ {kk : AHeap}, Ext (B ++ G2) kk → loadF none (elp s7 1 k) (fun b => kk[b]?) = some (.int .i64 (atZ A k), .keep) := fun {kk} e => by rw [atZ_at hkA]; exact hsL.l1m hkA rfl e
  have lm : ∀ {kk : AHeap}, Ext (B ++ G2) kk → loadF none (elp v10 1 1) (fun b => kk[b]?) = some (.int .i64 (medA A k), .keep) := fun {kk} e => f10'.l1m (i := 1) (by simp) rfl e
  have w3 : IntKind.i64.wrap (medA A k - lim) = medA A k - lim := wrap_in (by omega) (by omega)
  have w4 : IntKind.i64.wrap (medA A k + lim) = medA A k + lim := wrap_in (by omega) (by omega)
  have i1' : iadrF 1 v10 (.int .i64 1) = some (elp v10 1 1, .keep) := i1
  have hfk : min (max (atZ A k) (medA A k - lim)) (medA A k + lim) = desF A lim k := (desF_in (by omega) hlt).symm
  refine Rs (A13 @t1 @t7 @t8 @t9 @o10 @ix @ld @i1' @lm @w3 @w4 @ixk @hfk) ?_
  refine WR.put1 (h0 := B) (off := 0) (row := intRow) (x' := desF A lim k) hfr2 hkC (by decide) rfl rfl ?_
  intro g9 hl9 hF9 _
  rw [desK_set] at hF9
  refine Rs (A5 @t1 @t7 @t8 @t9 @e5) ?_
  exact ⟨A.length - (k + 1), by omega, k + 1, g9, by omega, by omega, rfl, rfl, hF9, rfl⟩
end
end Go.Abs
namespace Go.Abs
theorem told_one {k : AHeap} {bad : Int} {want : List Int} {u : AV} {e : Int} (x : HeardS k bad want u e) : u.one = true := by
  unfold HeardS at x
  split at x
  · rw [x.1]; rfl
  · unfold ToldS at x
    split at x
    · exact x.1.one
    · rw [x.1]; rfl
theorem told_fit {k : AHeap} {bad : Int} {want : List Int} {u : AV} {e : Int} (x : HeardS k bad want u e) (hb : bad = 0) (hf : fitsB want = true) : IsSl k u 1 ((want.map smpl).map fltR) ∧ e = 0 := by
  unfold HeardS at x
  rw [if_neg (fun z => z hb)] at x
  unfold ToldS at x
  rw [if_pos hf] at x
  exact x
theorem chk_500 {a : Int} (ha : -64 ≤ a ∧ a ≤ 64) : chkTs [(500, a)] = 0 := by
  have e1 : chkT1 (500, a) = 0 := by
    unfold chkT1
    rw [firstS, if_pos (rangeS_z.2 (by omega)), firstS, if_pos (rangeS_z.2 ha)]; rfl
  unfold chkTs
  rw [if_neg (by simp), if_neg (by simp), chkTF, if_neg (fun z => z e1), if_neg (by simp [lateT])]; rfl
theorem lvl_500 {a t : Int} : lvlS [(500, a)] t = (a, 1) := by
  unfold lvlS lvlF
  by_cases h : (500 : Int) < t
  · rw [if_pos h]; rfl
  · rw [if_neg h]; rfl
theorem cor_500 {a : Int} {f : Nat → Int} : corN [(500, a)] f = a := by
  unfold corN
  rw [lvl_500]
  unfold rndI
  show (2 * a + 1) / (2 * 1) = a
  omega
theorem corT_500 {a : Int} {t : Trc} (h : chkTr t = 0) : corT [(500, a)] t = delT (-a) t := by
  obtain ⟨_, h2, _⟩ := chkTr_z h
  unfold corT delT
  rw [cor_500, Int.neg_neg]
  by_cases hb : t.hole = true
  · rw [if_pos hb, h2 hb]; rfl
  · rw [if_neg hb]
theorem ho_eq {a : Int} {t : Trc} (h : chkTr t = 0) : TrEq (chgF (corF [(500, a)]) t) (delT (-a) t) := by rw [← corT_500 h]; exact cor_eq h
theorem des_fits {A : List Int} {lim : Int} (hA : ∀ x ∈ A, -16384 ≤ x ∧ x ≤ 16384) (hl : 0 ≤ lim) : fitsB (desL A lim) = true := by
  unfold fitsB
  rw [List.all_eq_true]
  intro x hx
  unfold desL genL at hx
  obtain ⟨i, _, rfl⟩ := List.mem_map.1 hx
  have a0 := atZ_bd hA (i : Int)
  have m0 : -16384 ≤ medA A i ∧ medA A i ≤ 16384 := med_bd (atZ_bd hA _) (atZ_bd hA _) (atZ_bd hA _)
  have : -16384 ≤ desF A lim i ∧ desF A lim i ≤ 16384 := by
    unfold desF
    split
    · omega
    · exact a0
  unfold fitB
  simp [this.1, this.2]
theorem des_len {A : List Int} {lim : Int} : (desL A lim).length = A.length := genL_len _ _
theorem des_at {D : List Nat} {A : List Int} {lim : Int} (h : D.map gridN = desL A lim) {i : Nat} (hi : i < D.length) : gridN D[i] = desF A lim i := by
  have l1 : D.length = A.length := by have := congrArg List.length h; rwa [List.length_map, des_len] at this
  have e : (D.map gridN)[i]'(by simpa using hi) = (desL A lim)[i]'(by rw [des_len]; omega) := by simp only [h]
  rw [List.getElem_map] at e
  rw [e]
  simp [desL, genL]
theorem sm_at {D : List Nat} {i : Nat} (hi : i < D.length) : gridN D[i] = atZ (D.map gridN) (i : Int) := by
  rw [atZ_at (by simpa using hi), List.getElem_map]
theorem chkDs_z {l : List Nat} {lim : Int} (h : chkL l = 0) (hn : 0 ≤ lim ∧ lim ≤ 16384) : chkDs l lim = 0 := by
  unfold chkDs
  rw [firstS, if_pos h, firstS, if_pos (rangeS_z.2 hn)]; rfl
theorem chkB_z {t : List Int} {l : List Nat} (h : chkTp t = 0) (hl : chkL l = 0) : chkB t l = 0 := by
  unfold chkB
  rw [firstS, if_pos h, firstS, if_pos hl]; rfl
theorem first00 {a b : Int} (ha : a = 0) (hb : b = 0) : firstS [a, b] = 0 := by
  rw [firstS, if_pos ha, firstS, if_pos hb]; rfl
theorem first0e {e : Int} : firstS [0, e] = e := by
  show (if (0 : Int) = 0 then (if e = 0 then 0 else e) else 0) = e
  rw [if_pos rfl]
  by_cases h : e = 0
  · rw [if_pos h, h]
  · rw [if_neg h]
theorem errL_04 {t : List Int} : ∀ {L : List (Trc × AV)}, errL (eachE t) L = 0 ∨ errL (eachE t) L = 4
  | [] => .inl rfl
  | x :: r => by
    rw [errL_cons]
    by_cases q : (if x.1.hole = true then 0 else eachE t x) = 0
    · rw [if_pos q]; exact errL_04
    · rw [if_neg q]
      by_cases hb : x.1.hole = true
      · rw [if_pos hb] at q; exact absurd rfl q
      · rw [if_neg hb] at q ⊢
        unfold eachE at q ⊢
        by_cases hf : fitsB (apL t (x.1.sm.map gridN) (-1)) = true
        · rw [if_pos hf] at q; exact absurd rfl q
        · rw [if_neg hf]; exact .inr rfl
theorem each_fit {t : List Int} {L : List (Trc × AV)} (h : errL (eachE t) L = 0) (hc : ∀ x ∈ L, chkTr x.1 = 0) : ∀ x ∈ L, fitsB (apL t (x.1.sm.map gridN) (-1)) = true := fun x hx => by
  rcases errL_all h x hx with hb | q
  · rw [(chkTr_z (hc x hx)).2.1 hb]; rfl
  · unfold eachE at q
    by_cases hf : fitsB (apL t (x.1.sm.map gridN) (-1)) = true
    · exact hf
    · rw [if_neg hf] at q; cases q
theorem IsSl.loadn {h k : AHeap} {s : AV} {es n : Nat} {α : Type} {row : α → List AV} {L : List α} (hs : IsSl h s es (L.map row)) (e : Ext h k) {i : Nat} (hi : i < L.length) (hn : n ≤ es) : loadF (some n) (elf s es i 0) (fun b => k[b]?) = some (.agg ((row L[i]).take n), .keep) := by
  have hk := hs.ext e
  have hi' : i < (L.map row).length := by rw [List.length_map]; exact hi
  generalize hcs : L.map row = cs at hk hi'
  have hrow : cs[i] = row L[i] := by subst hcs; rw [List.getElem_map]
  rw [← hrow]
  cases hk with
  | nil => simp at hi'
  | @mk b o es cs c mu tl hb hf ho he =>
    have hle : i * es + es ≤ cs.length * es := by rw [← Nat.succ_mul]; exact Nat.mul_le_mul_right _ hi'
    have h1 := flatten_row he hi'
    show loadF (some n) (.ptr b (o + i * es + 0)) (fun b => k[b]?) = _
    simp only [loadF, hb, Nat.add_zero]
    rw [if_pos (by omega), ← h1, ← hf, List.drop_take, List.take_take, List.take_take, List.drop_drop, show min (min n es) (cs.length * es - i * es) = n by omega]
def hoB : ICode := match (fn14).body with
  | .seq _ (.seq _ c) => c
  | c => c
def hoC : ICode := match hoB with
  | .seq _ (.seq _ c) => c
  | c => c
def hoD : ICode := match hoC with
  | .seq _ c => c
  | c => c
def hoE : ICode := match hoD with
  | .seq _ c => c
  | c => c
def hoF : ICode := match hoE with
  | .seq _ (.seq _ (.seq _ (.seq _ c))) => c
  | c => c
end Go.Abs
namespace Go.Abs
theorem eacF_sm {t : List Int} {x : Trc} (h : chkTr x = 0) : (chgF (eacF t) x).sm = (apL t (x.sm.map gridN) (-1)).map smpl := by
  unfold chgF
  by_cases hb : x.hole = true
  · rw [if_pos hb, (chkTr_z h).2.1 hb]; rfl
  · rw [if_neg hb]; rfl
theorem chgF_hd {F : Trc → List Nat} {x : Trc} : (chgF F x).hd = x.hd := by unfold chgF; split <;> rfl
theorem chgF_hole {F : Trc → List Nat} {x : Trc} : (chgF F x).hole = x.hole := by unfold chgF; split <;> rfl
set_option maxRecDepth 10000
attribute [local irreducible] WP WC WE WB WR WF WL WG WRg WQ
section
variable {P : Program} (T : Tbl P) {Y : AHeap} {ts : TS} {nm n1 : List UInt8} {s s1 v10 : AV} {L U10 : List (Trc × AV)} {t : List Int} {b3 b10 : Nat} {e1 hgt tick lim : Int} {Q : Ex → TS → AHeap → Prop}
include T
set_option maxHeartbeats 16000000 in
theorem ho_C (tz : chkTp t = 0) (htl : t.length < 2 ^ 40) (h1 : IsSl Y s1 1 (t.map intRow)) (hlen : ts.length = 366) (t1 : slot ts 1 = s1) (t3 : slot ts 3 = .ptr b3 0) (t7 : slot ts 7 = .int .i64 hgt) (t8 : slot ts 8 = .int .i64 tick) (t9 : slot ts 9 = .int .i64 lim) (t10 : slot ts 10 = .ptr b10 0) (t11 : slot ts 11 = .int .i64 e1)
    (m3 : Y[b3]? = some (.cells (shC nm s) true false)) (m10 : Y[b10]? = some (.cells (shC n1 v10) true false)) (os : ShOk Y L s) (p : ShtP nm L) (hct : ∀ x ∈ L, chkTr x.1 = 0) (r10 : ResS Y n1 v10 U10) (he : e1 = errL (eachE t) L) (hr : if e1 = 0 then n1 = nm ∧ U10.map Prod.fst = (L.map Prod.fst).map (chgF (eacF t)) else n1 = [] ∧ U10 = [])
    (C : ∀ {ts' : TS} {Y' : AHeap}, ts'.length = 366 → slot ts' 3 = .ptr b3 0 → slot ts' 7 = .int .i64 hgt → slot ts' 8 = .int .i64 tick → slot ts' 9 = .int .i64 lim → Ext Y Y' → WC P inFn hoE [] ts' Y' Q) :
    WC P inFn hoC [] ts Y Q := by
  show WC P inFn (.seq _ hoD) _ _ _ _
  have i3 := @ldx _ _ _ m3
  have l1 : ldV (shC nm s)[1]? = some (s, .keep) := rfl
  have l0 : ldV (shC nm s)[0]? = some (.str nm, .keep) := rfl
  have l1' : ldV (shC n1 v10)[1]? = some (v10, .keep) := rfl
  have l0' : ldV (shC n1 v10)[0]? = some (.str n1, .keep) := rfl
  have pl := p.l
  have lens := fun G => os.sl.lenm G
  have len10 := fun G => r10.ok.sl.lenm G
  refine Rs (A10 @t1 @t3 @t7 @t8 @t9 @t10 @t11 @i3 @l1 @lens) ?_
  refine WL.inv T.mix (fun n ts K => ∃ k : Nat, k ≤ L.length ∧ n = L.length - k ∧ Ext Y K ∧ ts.length = 366 ∧ slot ts 1 = s1 ∧ slot ts 3 = .ptr b3 0 ∧ slot ts 7 = .int .i64 hgt ∧ slot ts 8 = .int .i64 tick ∧ slot ts 9 = .int .i64 lim ∧ slot ts 10 = .ptr b10 0 ∧ slot ts 11 = .int .i64 e1 ∧ slot ts 82 = s ∧ slot ts 83 = .int .i64 L.length ∧ slot ts 84 = .int .i64 k) L.length
    ⟨0, by omega, rfl, .refl _, Sn, (Sq @t1), (Sq @t3), (Sq @t7), (Sq @t8), (Sq @t9), (Sq @t10), (Sq @t11), Sw, Sw, Swr⟩ ?_
  clear hlen t1 t3 t7 t8 t9 t10 t11
  rintro _ ts K ⟨k, hk, rfl, eK, hlen, t1, t3, t7, t8, t9, t10, t11, t82, t83, t84⟩
  have oK := os.ext eK
  by_cases hlt : k < L.length
  case neg =>
    have e3 := dltF hlt
    have i3 := @ldx _ _ _ (eK.some m3)
    have i10 := @ldx _ _ _ (eK.some m10)
    rcases errL_04 (t := t) (L := L) with q | q
    · have q1 : e1 = 0 := he.trans q
      rw [if_pos q1] at hr
      obtain ⟨rfl, f10⟩ := hr
      have d1 : decide (e1 ≠ 0) = false := decide_eq_false fun z => z q1
      have d2 : decide (e1 = 0) = true := decide_eq_true q1
      have hl : U10.length = L.length := by have := congrArg List.length f10; simpa using this
      have d3 : decide ((U10.length : Int) ≠ (L.length : Int)) = false := decide_eq_false fun z => z (by rw [hl])
      have d4 : decide (n1 ≠ n1) = false := decide_eq_false fun z => z rfl
      refine Rs (A11 @t1 @t3 @t7 @t8 @t9 @t10 @t11 @t82 @t83 @t84 @e3) ?_
      show WC P inFn (.seq _ hoE) _ _ _ _
      refine Rs (A19 @t1 @t3 @t7 @t8 @t9 @t10 @t11 @i3 @i10 @l1 @l0 @l1' @l0' @lens @len10 @d1 @d2 @d3 @d4) ?_
      exact C Sn (Sq @t3) (Sq @t7) (Sq @t8) (Sq @t9) eK
    · have q1 : e1 = 4 := he.trans q
      have d1 : decide (e1 ≠ 0) = true := decide_eq_true (by omega)
      have d2 : decide (e1 = 0) = false := decide_eq_false (by omega)
      have d3 : decide (e1 ≠ 4) = false := decide_eq_false fun z => z q1
      refine Rs (A11 @t1 @t3 @t7 @t8 @t9 @t10 @t11 @t82 @t83 @t84 @e3) ?_
      show WC P inFn (.seq _ hoE) _ _ _ _
      refine Rs (A10 @t1 @t3 @t7 @t8 @t9 @t10 @t11 @d1 @d2 @d3) ?_
      exact C Sn (Sq @t3) (Sq @t7) (Sq @t8) (Sq @t9) eK
  have e3 := dltT hlt
  have e5 := wrapN (n := k) (by omega)
  have ix := oK.sl.ixm (kk := .i64) hlt
  obtain ⟨x, hx⟩ : ∃ x, x = L[k] := ⟨_, rfl⟩
  have hmem : x ∈ L := by rw [hx]; exact List.getElem_mem _
  have ld : ∀ {kk : AHeap}, Ext K kk → loadF (some 10) (elp s 10 k) (fun b => kk[b]?) = some (.agg (trRow x), .keep) := fun {kk} e => by rw [hx]; exact oK.sl.ldm hlt e
  have hs := oK.all x hmem
  have ox := hs.one
  have hcx := hct x hmem
  obtain ⟨_, _, hcl⟩ := chkTr_z hcx
  obtain ⟨hl2, hg⟩ := chkL_z hcl
  have bz := @z10_box
  have st := @st_tr x ox
  have l9 : ldV (trRow x)[9]? = some (x.2, .keep) := rfl
  have l8 : ldV (trRow x)[8]? = some (.bool x.1.hole, .keep) := rfl
  refine Rs (A16 @t1 @t3 @t7 @t8 @t9 @t10 @t11 @t82 @t83 @t84 @e3 @ix @ld @bz @st @ox) ?_
  obtain ⟨K1, hK1⟩ : ∃ K1, K1 = K ++ [ABlk.cells (trRow x) true false] := ⟨_, rfl⟩
  have eK1 : Ext K K1 := by rw [hK1]; exact Xx
  have m13 : K1[K.length]? = some (.cells (trRow x) true false) := by rw [hK1]; exact at_new
  obtain ⟨b13, hb13⟩ : ∃ b, b = K.length := ⟨_, rfl⟩
  rw [← hb13] at m13
  rw [← hK1, ← hb13]
  clear hK1 hb13
  refine WF.res T.c21 (r21 T (h1.ext (eK.trans eK1)) htl) ?_
  intro a1 g1 is1
  have i13 := @ldx _ _ _ m13
  refine Rs (A12 @t1 @t3 @t7 @t8 @t9 @t10 @t11 @t82 @t83 @t84 @i13 @l9) ?_
  refine WF.res T.c22 (r22 T (hs.ext (eK1.trans Xx)) (by omega)) ?_
  intro a2 g2 is2
  refine Rs (A10 @t1 @t3 @t7 @t8 @t9 @t10 @t11 @t82 @t83 @t84) ?_
  refine WF.res T.c20 (r20 T (is1.ext Xx) is2 htl (by omega)) ?_
  rintro _ g3 ⟨v14, e15, rfl, hh⟩
  have o14 := told_one hh
  obtain ⟨K2, hK2⟩ : ∃ K2, K2 = K1 ++ g1 ++ g2 ++ g3 := ⟨_, rfl⟩
  have e12 : Ext K1 K2 := by rw [hK2]; exact Xx
  rw [← hK2] at hh ⊢
  clear hK2 is1 is2 i13
  by_cases q1 : e1 = 0
  case neg =>
    have d1 : decide (e1 ≠ 0) = true := decide_eq_true q1
    refine Rs (A13 @t1 @t3 @t7 @t8 @t9 @t10 @t11 @t82 @t83 @t84 @o14 @d1 @e5) ?_
    exact ⟨L.length - (k + 1), by omega, k + 1, by omega, rfl, eK.trans (eK1.trans e12), rfl⟩
  have d1 : decide (e1 ≠ 0) = false := decide_eq_false fun z => z q1
  rw [if_pos q1] at hr
  obtain ⟨rfl, f10⟩ := hr
  have fit := each_fit (he.symm.trans q1) hct x hmem
  obtain ⟨is14, rfl⟩ := told_fit hh (chkB_z tz hcl) fit
  obtain ⟨ga, gn⟩ := smpl_all fit
  have hl : U10.length = L.length := by have := congrArg List.length f10; simpa using this
  have hlt2 : k < U10.length := by omega
  obtain ⟨y, hy⟩ : ∃ y, y = U10[k] := ⟨_, rfl⟩
  have hmy : y ∈ U10 := by rw [hy]; exact List.getElem_mem _
  have hyx : y.1 = chgF (eacF t) x.1 := by
    have e : (U10.map Prod.fst)[k]'(by simpa using hlt2) = ((L.map Prod.fst).map (chgF (eacF t)))[k]'(by simpa using hlt) := by simp only [f10]
    rw [List.getElem_map, List.getElem_map, List.getElem_map] at e
    rw [hy, hx]; exact e
  have R2 := r10.ext (eK.trans (eK1.trans e12))
  have o2 := R2.ok
  have ix10 := o2.sl.ixm (kk := .i64) hlt2
  have h8 : ∀ {kk : AHeap}, Ext K2 kk → loadF none (elf v10 10 k 8) (fun b => kk[b]?) = some (.bool x.1.hole, .keep) := fun {kk} e => o2.sl.lfm hlt2 (by rw [← hy]; show some (AV.bool y.1.hole) = _; rw [hyx, chgF_hole]) e
  have h9 : ∀ {kk : AHeap}, Ext K2 kk → loadF none (elf v10 10 k 9) (fun b => kk[b]?) = some (y.2, .keep) := fun {kk} e => o2.sl.lfm hlt2 (by rw [← hy]; rfl) e
  have h0 : ∀ {kk : AHeap}, Ext K2 kk → loadF (some 8) (elf v10 10 k 0) (fun b => kk[b]?) = some (.agg (hdR x.1.hd), .keep) := fun {kk} e => by
    rw [o2.sl.loadn e hlt2 (by decide), ← hy]
    show some (AV.agg (hdR y.1.hd), _) = _
    rw [hyx, chgF_hd]
  have q2 := @hd_same x.1.hd
  have q3 : eqvK (.one .b) (.bool x.1.hole) (.bool x.1.hole) = some true := by rw [eq_1b]; simp
  have l8x := @tr_l8 x
  have i13 := @ldx _ _ _ (e12.some m13)
  have i10 := @ldx _ _ _ ((eK.trans (eK1.trans e12)).some m10)
  have d0 : decide ((0 : Int) ≠ 0) = false := rfl
  have d2 : decide ((U10.length : Int) ≤ (k : Int)) = false := decide_eq_false (by omega)
  repeat (first | simp (maxSteps := 1000000) only [wset, hset, dset, bset, Nat.reduceAdd, Nat.reduceMul, Nat.reduceLeDiff, Nat.reduceEqDiff, pset, hlen, if_false, if_true, t1, t3, t7, t8, t9, t10, t11, t82, t83, t84, o14, d1, d0, Bool.not_true, i10, l1', len10, d2, ix10, h8, i13, l8, q3, h0, l8x, q2, h9] | simp (maxSteps := 1000000) (disch := first | (simp only [List.length_append, List.length_cons, List.length_nil] <;> omega) | rfl | omega | fail) only [kset, wset, hset, dset, bset, Nat.reduceAdd, Nat.reduceMul, Nat.reduceLeDiff, Nat.reduceEqDiff, pset, hlen, if_false, if_true, t1, t3, t7, t8, t9, t10, t11, t82, t83, t84, o14, d1, d0, Bool.not_true, i10, l1', len10, d2, ix10, h8, i13, l8, q3, h0, l8x, q2, h9])
  have hys := o2.all y hmy
  rw [hyx, eacF_sm hcx] at hys
  refine WF.ce T.c58 (r58 T hys is14 (by rw [List.length_map, apL_len, List.length_map]; omega) ga ga) fun g4 => ?_
  refine Rs (A13 @t1 @t3 @t7 @t8 @t9 @t10 @t11 @t82 @t83 @t84 @decide_true @Bool.not_true @e5) ?_
  exact ⟨L.length - (k + 1), by omega, k + 1, by omega, rfl, (eK.trans (eK1.trans e12)).trans Xx, rfl⟩
end
end Go.Abs
namespace Go.Abs
theorem one_rat {Y : AHeap} {x : Int × Int} : IsSl (Y ++ [ABlk.cells (ratR x) true true]) (.slice Y.length 0 1 2) 2 ([x].map ratR) := by
  have := (Fr.push (N := 0) (es := 2) (h := Y) (Nat.zero_le _) [ratR x] (fun y hy => by rw [List.mem_singleton] at hy; rw [hy]; rfl)).isSl
  simpa using this
theorem rat_same {p : Int × Int} : eqvK (.agg [.i, .i]) (.agg (ratR p)) (.agg [.int .i64 p.1, .int .i64 p.2]) = some true := by
  rw [eqA rfl rfl]
  simp [ratR, eqCells, eqQ, eqCell]
set_option maxRecDepth 10000
attribute [local irreducible] WP WC WE WB WR WF WL WG WRg WQ
section
variable {P : Program} (T : Tbl P) {Y : AHeap} {ts : TS} {nm : List UInt8} {s : AV} {L : List (Trc × AV)} {b3 : Nat} {hgt tick lim : Int} {Q : Ex → TS → AHeap → Prop}
include T
set_option maxHeartbeats 16000000 in
theorem ho_E (rg : Rng Y) (hh : -64 ≤ hgt ∧ hgt ≤ 64) (htk : 0 ≤ tick ∧ tick ≤ 100000) (hlen : ts.length = 366) (t3 : slot ts 3 = .ptr b3 0) (t7 : slot ts 7 = .int .i64 hgt) (t8 : slot ts 8 = .int .i64 tick) (t9 : slot ts 9 = .int .i64 lim)
    (m3 : Y[b3]? = some (.cells (shC nm s) true false)) (os : ShOk Y L s) (p : ShtP nm L) (hcs : chkSh nm (L.map Prod.fst) = 0)
    (C : ∀ {ts' : TS} {Y' : AHeap}, ts'.length = 366 → slot ts' 3 = .ptr b3 0 → slot ts' 9 = .int .i64 lim → Ext Y Y' → WC P inFn hoF [] ts' Y' Q) :
    WC P inFn hoE [] ts Y Q := by
  show WC P inFn (.seq _ (.seq _ (.seq _ (.seq _ hoF)))) _ _ _ _
  have i3 := @ldx _ _ _ m3
  have l3 := @sh_l2 nm s
  have pl := p.l
  obtain ⟨_, _, _, hct⟩ := chkSh_z hcs
  have bz : ∀ {N : Nat}, boxF (.agg [.str [], .nilSlice]) N = some (.ptr N 0, .push (.cells (shC [] .nilSlice) true false)) := fun {N} => rfl
  have bd : fillA [.int .i64 0, .int .i64 0] [(0, 1, .int .i64 500), (1, 1, .int .i64 hgt)] = some [.int .i64 500, .int .i64 hgt] := rfl
  have bd2 : fillA [.int .i64 0, .int .i64 0] [(0, 1, .int .i64 hgt), (1, 1, .int .i64 1)] = some [.int .i64 hgt, .int .i64 1] := rfl
  have bs : ∀ {N : Nat}, bslF 2 1 (fillA [.int .i64 0, .int .i64 0] [(0, 2, .agg [.int .i64 500, .int .i64 hgt])]) N = some (.slice N 0 1 2, .push (.cells (ratR (500, hgt)) true true)) := fun {N} => rfl
  have wn : IntKind.i64.wrap (0 - hgt) = -hgt := by rw [wrap_in (by omega) (by omega)]; omega
  have d0 : decide ((0 : Int) ≠ 0) = false := rfl
  have shl : ∀ {A : List (Trc × AV)}, A.map Prod.fst = L.map Prod.fst → ShSz A ∧ A.length < 2 ^ 38 := fun {A} hA => by
    have la : A.length = L.length := by have := congrArg List.length hA; simpa using this
    refine ⟨⟨by omega, fun x hx => ?_⟩, by omega⟩
    have : x.1 ∈ L.map Prod.fst := by rw [← hA]; exact List.mem_map_of_mem hx
    obtain ⟨y, hy, e⟩ := List.mem_map.1 this
    rw [← e]
    have := p.s y hy
    omega
  have toldz : ∀ {n : List UInt8} {k : AHeap} {v : AV} {U B : List (Trc × AV)}, ResS k n v U → B.map Prod.fst = U.map Prod.fst → ShSz B := fun {n k v U B} r f => by
    have la : B.length = U.length := by have := congrArg List.length f; simpa using this
    refine ⟨by rw [la]; exact r.z.l, fun x hx => ?_⟩
    have : x.1 ∈ U.map Prod.fst := by rw [← f]; exact List.mem_map_of_mem hx
    obtain ⟨y, hy, e⟩ := List.mem_map.1 this
    rw [← e]; exact r.z.s y hy
  refine Rs (A6 @t3 @t7 @t8 @t9 @i3 @l3) ?_
  refine WF.res T.c89 (r89 T os p.sz (by omega)) ?_
  rintro _ g1 ⟨sv, A, rfl, oA, fA⟩
  obtain ⟨zA, lA⟩ := shl fA
  have ov := oA.sl.one
  refine Rs (A7 @t3 @t7 @t8 @t9 @bd @bs @ov) ?_
  refine WF.res T.c88 (r88 T (rg.ext Xx) (oA.ext Xx) zA lA (one_rat (x := (500, hgt))) (show 1 < 2 ^ 40 by omega)) ?_
  rintro _ g2 ⟨r, e17, rfl, hR⟩
  obtain ⟨he, hr⟩ := hR
  have he : e17 = 0 := by rw [he, fA, errL_zero]; exact first00 (first00 hcs (chk_500 hh)) rfl
  subst he
  rw [if_pos rfl] at hr
  obtain ⟨s16, U16, rfl, ok16, f16⟩ := hr
  rw [chg_map (G := corG [(500, hgt)]) (F := corF [(500, hgt)]) (fun x => rfl), fA] at f16
  have r16 := ResS.of (n := nm) ok16 f16 (by rw [List.length_map]; omega) (fun y hy => by
    obtain ⟨x, hx, rfl⟩ := List.mem_map.1 hy
    have := p.s x hx
    refine chg_len (by omega) ?_
    show ((shfL _ _).map smpl).length < _
    rw [List.length_map, shfL_len, List.length_map]
    omega)
  have o16 := ok16.sl.one
  have st16 : ∀ {n : Nat}, stB 2 0 (.agg [.str nm, s16]) n (.cells (shC [] .nilSlice) true false) = some (undefA, .set n (.cells (shC nm s16) true false)) := fun {n} => sh_st o16
  obtain ⟨K1, hK1⟩ : ∃ K, K = Y ++ g1 ++ [ABlk.cells [AV.int .i64 500, AV.int .i64 hgt] true true] ++ g2 := ⟨_, rfl⟩
  have eK1 : Ext Y K1 := by rw [hK1]; exact Xx
  rw [← hK1] at r16 ⊢
  clear hK1 ok16
  refine Rs (A7 @t3 @t7 @t8 @t9 @bz @st16 @o16) ?_
  obtain ⟨W1, hW1⟩ : ∃ K, K = K1 ++ [ABlk.cells (shC nm s16) true false] := ⟨_, rfl⟩
  have eW1 : Ext K1 W1 := by rw [hW1]; exact Xx
  have m16 : W1[K1.length]? = some (.cells (shC nm s16) true false) := by rw [hW1]; exact at_new
  obtain ⟨b16, hb16⟩ : ∃ b, b = K1.length := ⟨_, rfl⟩
  rw [← hb16] at m16
  rw [← hW1, ← hb16]
  clear hW1 hb16
  have eY1 := eK1.trans eW1
  have i3 := @ldx _ _ _ (eY1.some m3)
  refine Rs (A6 @t3 @t7 @t8 @t9 @i3 @l3) ?_
  refine WF.res T.c89 (r89 T (os.ext eY1) p.sz (by omega)) ?_
  rintro _ g3 ⟨sv2, A2, rfl, oA2, fA2⟩
  obtain ⟨zA2, lA2⟩ := shl fA2
  have ov2 := oA2.sl.one
  refine Rs (A6 @t3 @t7 @t8 @t9 @wn @ov2) ?_
  refine WF.res T.c96 (r96 T ((rg.ext eY1).ext Xx) oA2 zA2 lA2 (by rw [fA2]; exact hcs) (n := -hgt) ⟨by omega, by omega⟩) ?_
  rintro _ g4 ⟨s18, U18, rfl, ok18, f18⟩
  rw [fA2] at f18
  have r18 := ResS.of (n := nm) ok18 f18 (by rw [List.length_map]; omega) (fun y hy => by
    obtain ⟨x, hx, rfl⟩ := List.mem_map.1 hy
    have := p.s x hx
    show (if x.1.hole = true then [] else shfF x.1.sm (-(-hgt))).length < _
    by_cases hb : x.1.hole = true
    · rw [if_pos hb]; decide
    · rw [if_neg hb, shfF_len]; omega)
  have o18 := ok18.sl.one
  have st18 : ∀ {n : Nat}, stB 2 0 (.agg [.str nm, s18]) n (.cells (shC [] .nilSlice) true false) = some (undefA, .set n (.cells (shC nm s18) true false)) := fun {n} => sh_st o18
  obtain ⟨K2, hK2⟩ : ∃ K, K = W1 ++ g3 ++ g4 := ⟨_, rfl⟩
  have eK2 : Ext W1 K2 := by rw [hK2]; exact Xx
  rw [← hK2] at r18 ⊢
  clear hK2 ok18
  refine Rs (A7 @t3 @t7 @t8 @t9 @bz @st18 @o18) ?_
  obtain ⟨W2, hW2⟩ : ∃ K, K = K2 ++ [ABlk.cells (shC nm s18) true false] := ⟨_, rfl⟩
  have eW2 : Ext K2 W2 := by rw [hW2]; exact Xx
  have m18 : W2[K2.length]? = some (.cells (shC nm s18) true false) := by rw [hW2]; exact at_new
  obtain ⟨b18, hb18⟩ : ∃ b, b = K2.length := ⟨_, rfl⟩
  rw [← hb18] at m18
  rw [← hW2, ← hb18]
  clear hW2 hb18
  have bs : ∀ {N : Nat}, bslF 2 1 (fillA [.int .i64 0, .int .i64 0] [(0, 2, .agg [.int .i64 500, .int .i64 hgt])]) N = some (.slice N 0 1 2, .push (.cells (ratR (500, hgt)) true true)) := fun {N} => rfl
  refine Rs (A6 @t3 @t7 @t8 @t9 @bd @bs) ?_
  have lv : RCall P 52 [.slice W2.length 0 1 2, .int .i64 tick] (W2 ++ [ABlk.cells [AV.int .i64 500, AV.int .i64 hgt] true true]) (fun v _ => v = .tup [.agg (ratR (hgt, 1)), .int .i64 0]) := by
    have := r52 T (one_rat (Y := W2) (x := (500, hgt))) (show 1 < 2 ^ 40 by omega) tick
    rw [first00 (chk_500 hh) (rangeS_z.2 htk), if_neg (fun z => z rfl), lvl_500] at this
    exact this
  refine WF.ce T.c52 lv fun g5 => ?_
  have b20 : ∀ {N : Nat}, boxF (.agg [.int .i64 0, .int .i64 0]) N = some (.ptr N 0, .push (.cells [.int .i64 0, .int .i64 0] true false)) := fun {N} => rfl
  have st20 := @td_st (hgt, 1)
  obtain ⟨K3, hK3⟩ : ∃ K, K = W2 ++ [ABlk.cells [AV.int .i64 500, AV.int .i64 hgt] true true] ++ g5 := ⟨_, rfl⟩
  have eK3 : Ext W2 K3 := by rw [hK3]; exact Xx
  rw [← hK3]
  clear hK3
  obtain ⟨W3, hW3⟩ : ∃ K, K = K3 ++ [ABlk.cells (ratR (hgt, 1)) true false] := ⟨_, rfl⟩
  have eW3 : Ext K3 W3 := by rw [hW3]; exact Xx
  have m20 : W3[K3.length]? = some (.cells (ratR (hgt, 1)) true false) := by rw [hW3]; exact at_new
  obtain ⟨b20', hb20⟩ : ∃ b, b = K3.length := ⟨_, rfl⟩
  rw [← hb20] at m20
  have e13 := eK2.trans (eW2.trans (eK3.trans eW3))
  have e23 := eK3.trans eW3
  have i16 := @ldx _ _ _ ((eK2.trans (eW2.trans eK3)).some m16)
  have l16 := @sh_l2 nm s16
  have l18 := @sh_l2 nm s18
  refine Rs (A10 @t3 @t7 @t8 @t9 @b20 @st20 @d0 @i16 @l16 @o16) ?_
  rw [← hW3, ← hb20]
  clear hW3 hb20
  refine WF.res T.c95 (r95 T ((r16.ext (eW1.trans e13)).ok) r16.z r16.l) ?_
  rintro _ g6 ⟨w7, B7, rfl, o7, f7⟩
  have i18 := @ldx _ _ _ (e23.some m18)
  have ow7 := o7.sl.one
  refine Rs (A7 @t3 @t7 @t8 @t9 @i18 @l18 @ow7) ?_
  refine WF.res T.c95 (r95 T ((r18.ext (eW2.trans e23)).ok.ext Xx) r18.z r18.l) ?_
  rintro _ g7 ⟨w8, B8, rfl, o8, f8⟩
  have ow8 := o8.sl.one
  have eq : ShEq B7 B8 := ShEq.of (f7.trans f16) (f8.trans f18) fun y hy => ho_eq (hct y hy)
  refine Rs (A6 @t3 @t7 @t8 @t9 @ow7 @ow8) ?_
  refine WF.ce T.c94 (r94 T (o7.ext Xx) o8 (toldz r16 f7) eq) fun g8 => ?_
  have i20 := @ldx _ _ _ m20
  have q2 := @rat_same (hgt, 1)
  refine Rs (A9 @t3 @t7 @t8 @t9 @Bool.not_true @i20 @td_a @bd2 @q2) ?_
  exact C Sn (Sq @t3) (Sq @t9) (eY1.trans (e13.trans Xx))
end
end Go.Abs
namespace Go.Abs
theorem ho_pl {A : List Int} {lim M : Int} {i : Nat} (hA : ∀ x ∈ A, -16384 ≤ x ∧ x ≤ 16384) (hl : 0 ≤ lim ∧ lim ≤ 16384) (hM : (0 < i ∧ i + 1 < A.length ∧ M = medA A i) ∨ (¬ (0 < i ∧ i + 1 < A.length) ∧ M = atZ A i)) :
    ¬ desF A lim i < min (atZ A i) M ∧ ¬ max (atZ A i) M < desF A lim i ∧ ¬ lim < max (desF A lim i - M) (M - desF A lim i) ∧ (atZ A i ≠ desF A lim i → max (desF A lim i - M) (M - desF A lim i) = lim) ∧ (desF A 16384 i ≠ atZ A i → 16384 < max (atZ A i - M) (M - atZ A i)) ∧ (-16384 ≤ atZ A i ∧ atZ A i ≤ 16384) ∧ (-16384 ≤ desF A lim i ∧ desF A lim i ≤ 16384) ∧ (-16384 ≤ M ∧ M ≤ 16384) := by
  have a0 := atZ_bd hA (i : Int)
  have m0 : -16384 ≤ medA A i ∧ medA A i ≤ 16384 := med_bd (atZ_bd hA _) (atZ_bd hA _) (atZ_bd hA _)
  obtain ⟨a, ha⟩ : ∃ a, a = atZ A i := ⟨_, rfl⟩
  rcases hM with ⟨h0, h1, hM⟩ | ⟨h0, hM⟩
  · rw [desF_in h0 h1, desF_in h0 h1, ← hM, ← ha]
    rw [← hM] at m0
    rw [← ha] at a0
    omega
  · rw [desF, if_neg h0, desF, if_neg h0, ← ha]
    rw [← ha] at hM a0
    omega
theorem ho_z {l : List Nat} (h : ∀ b ∈ l, gridE b = 0) : firstS (l.map gridE) = 0 := by
  induction l with
  | nil => rfl
  | cons b r ih =>
    rw [List.map_cons, firstS, if_pos (h b (List.mem_cons_self ..))]
    exact ih fun x hx => h x (List.mem_cons_of_mem _ hx)
set_option maxRecDepth 10000
attribute [local irreducible] WP WC WE WB WR WF WL WG WRg WQ
section
variable {P : Program} (T : Tbl P) {h Y : AHeap} {ts : TS} {nm : List UInt8} {s : AV} {L : List (Trc × AV)} {b3 : Nat}
include T
theorem ho_sx {k : AHeap} {b : Nat} {a : Int} (h1 : gridE b = 0) (h2 : gridN b = a) : RCall P 64 [.flt .f32 b] k (fun v _ => v = .int .i64 a) := h2 ▸ r64 T h1
set_option maxHeartbeats 16000000 in
theorem ho_F (X : Xfl P) (S : SrtOk P) {lim : Int} (hn : 0 ≤ lim ∧ lim ≤ 199) (hlen : ts.length = 366) (t3 : slot ts 3 = .ptr b3 0) (t9 : slot ts 9 = .int .i64 lim) (e0 : Ext h Y) (m3 : Y[b3]? = some (.cells (shC nm s) true false)) (os : ShOk Y L s) (p : ShtP nm L) (hct : ∀ x ∈ L, chkTr x.1 = 0) :
    WC P inFn hoF [] ts Y (FQ [(6, none)] fun v k => Ext h k ∧ v = .bool true) := by
  unfold hoF hoE hoD hoC hoB fn14
  dsimp only
  have i3 := @ldx _ _ _ m3
  have l1 : ldV (shC nm s)[1]? = some (s, .keep) := rfl
  have pl := p.l
  refine Rs (A5 @t3 @t9 @i3 @l1 os.sl.lenm) ?_
  refine WL.inv T.mix (fun n ts K => ∃ k : Nat, k ≤ L.length ∧ n = L.length - k ∧ Ext Y K ∧ ts.length = 366 ∧ slot ts 9 = .int .i64 lim ∧ slot ts 219 = s ∧ slot ts 220 = .int .i64 L.length ∧ slot ts 221 = .int .i64 k) L.length
    ⟨0, by omega, rfl, .refl _, Sn, (Sq @t9), Sw, Sw, Swr⟩ ?_
  clear hlen t3 t9
  rintro _ ts K ⟨k, hk, rfl, eK, hlen, t9, t219, t220, t221⟩
  have oK := os.ext eK
  by_cases hlt : k < L.length
  case neg =>
    have e3 := dltF hlt
    refine Rs (A5 @t9 @t219 @t220 @t221 @e3) ?_
    exact ⟨e0.trans eK, trivial⟩
  have e3 := dltT hlt
  have e5 := wrapN (n := k) (by omega)
  have ix := oK.sl.ixm (kk := .i64) hlt
  obtain ⟨x, hx⟩ : ∃ x, x = L[k] := ⟨_, rfl⟩
  have hmem : x ∈ L := by rw [hx]; exact List.getElem_mem _
  have ld : ∀ {kk : AHeap}, Ext K kk → loadF (some 10) (elp s 10 k) (fun b => kk[b]?) = some (.agg (trRow x), .keep) := fun {kk} e => by rw [hx]; exact oK.sl.ldm hlt e
  have hs := oK.all x hmem
  have ox := hs.one
  obtain ⟨_, _, hcl⟩ := chkTr_z (hct x hmem)
  obtain ⟨hl2, hg⟩ := chkL_z hcl
  have hA := grid_all hg
  have bz := @z10_box
  have st := @st_tr x ox
  have l9 : ldV (trRow x)[9]? = some (x.2, .keep) := rfl
  refine Rs (A11 @t9 @t219 @t220 @t221 @e3 @ix @ld @bz @st @l9 @ox) ?_
  obtain ⟨K1, hK1⟩ : ∃ K1, K1 = K ++ [ABlk.cells (trRow x) true false] := ⟨_, rfl⟩
  have eK1 : Ext K K1 := by rw [hK1]; exact Xx
  have m23 : K1[K.length]? = some (.cells (trRow x) true false) := by rw [hK1]; exact at_new
  obtain ⟨b23, hb23⟩ : ∃ b, b = K.length := ⟨_, rfl⟩
  rw [← hb23] at m23
  rw [← hK1, ← hb23]
  clear hK1 hb23
  refine WF.res T.c22 (r22 T (hs.ext eK1) (by omega)) ?_
  intro a1 g1 is1
  refine Rs (A4 @t9 @t219 @t220 @t221) ?_
  refine WF.res T.c46 (r46 T S is1 (by omega) lim) ?_
  rintro _ g2 ⟨v24, e25, rfl, h1⟩
  have o24 := told_one h1
  obtain ⟨is24, rfl⟩ := told_fit h1 (chkDs_z hcl ⟨hn.1, by omega⟩) (des_fits hA hn.1)
  have i23 := @ldx _ _ _ m23
  refine Rs (A7 @t9 @t219 @t220 @t221 @o24 @i23 @l9) ?_
  refine WF.res T.c22 (r22 T (hs.ext (eK1.trans Xx)) (by omega)) ?_
  intro a2 g3 is3
  refine Rs (A5 @t9 @t219 @t220 @t221 @o24) ?_
  refine WF.res T.c46 (r46 T S is3 (by omega) 16384) ?_
  rintro _ g4 ⟨v26, e27, rfl, h2⟩
  have o26 := told_one h2
  obtain ⟨is26, rfl⟩ := told_fit h2 (chkDs_z hcl ⟨by decide, by decide⟩) (des_fits hA (by decide))
  obtain ⟨gd1, nd1⟩ := smpl_all (des_fits (lim := lim) hA hn.1)
  obtain ⟨gd2, nd2⟩ := smpl_all (des_fits (lim := 16384) hA (by decide))
  obtain ⟨D1, hD1⟩ : ∃ D1, D1 = (desL (x.1.sm.map gridN) lim).map smpl := ⟨_, rfl⟩
  obtain ⟨D2, hD2⟩ : ∃ D2, D2 = (desL (x.1.sm.map gridN) 16384).map smpl := ⟨_, rfl⟩
  have len1 : D1.length = x.1.sm.length := by rw [hD1, List.length_map, des_len, List.length_map]
  have len2 : D2.length = x.1.sm.length := by rw [hD2, List.length_map, des_len, List.length_map]
  rw [← hD1] at is24 gd1 nd1
  rw [← hD2] at is26 gd2 nd2
  obtain ⟨K2, hK2⟩ : ∃ K2, K2 = K1 ++ g1 ++ g2 ++ g3 ++ g4 := ⟨_, rfl⟩
  have e12 : Ext K1 K2 := by rw [hK2]; exact Xx
  have is24 : IsSl K2 v24 1 (D1.map fltR) := by rw [hK2]; exact is24.ext Xx
  have is26 : IsSl K2 v26 1 (D2.map fltR) := by rw [hK2]; exact is26
  rw [← hK2]
  clear hK2 h1 h2 is1 is3 hD1 hD2 i23
  have ln24 : ∀ G, lenG .sl G v24 = some x.1.sm.length := fun G => by rw [is24.lenm, len1]
  have ln26 : ∀ G, lenG .sl G v26 = some x.1.sm.length := fun G => by rw [is26.lenm, len2]
  have lnx := fun G => hs.lenm G
  have dN : decide ((x.1.sm.length : Int) ≠ (x.1.sm.length : Int)) = false := decide_eq_false fun z => z rfl
  have d0 : decide ((0 : Int) ≠ 0) = false := rfl
  have i23 := @ldx _ _ _ (e12.some m23)
  refine Rs (A12 @t9 @t219 @t220 @t221 @o24 @o26 @d0 @i23 @l9 @ln24 @lnx @dN) ?_
  refine WF.ce T.c75 (r75 T X is24 (by omega)) fun g5 => ?_
  rw [ho_z gd1]
  refine Rs (A8 @t9 @t219 @t220 @t221 @d0 @ln24 @ln26 @dN) ?_
  refine WL.inv T.mix (fun n ts K3 => ∃ i : Nat, i ≤ x.1.sm.length ∧ n = x.1.sm.length - i ∧ Ext K2 K3 ∧ ts.length = 366 ∧ slot ts 9 = .int .i64 lim ∧ slot ts 219 = s ∧ slot ts 220 = .int .i64 L.length ∧ slot ts 221 = .int .i64 k ∧ slot ts 23 = .ptr b23 0 ∧ slot ts 24 = v24 ∧ slot ts 26 = v26 ∧ slot ts 266 = v24 ∧ slot ts 267 = .int .i64 x.1.sm.length ∧ slot ts 268 = .int .i64 i) x.1.sm.length
    ⟨0, by omega, rfl, Xx, Sn, (Sq @t9), (Sq @t219), (Sq @t220), (Sq @t221), Sw, Sw, Sw, Sw, Sw, Swr⟩ ?_
  clear hlen t9 t219 t220 t221
  rintro _ ts K3 ⟨i, hi, rfl, eK3, hlen, t9, t219, t220, t221, t23, t24, t26, t266, t267, t268⟩
  by_cases hlt2 : i < x.1.sm.length
  case neg =>
    have e4 := dltF hlt2
    refine Rs (A12 @t9 @t219 @t220 @t221 @t23 @t24 @t26 @t266 @t267 @t268 @e4 @e5) ?_
    exact ⟨L.length - (k + 1), by omega, k + 1, by omega, rfl, eK.trans (eK1.trans (e12.trans eK3)), rfl⟩
  have e4 := dltT hlt2
  have e6 := wrapN (n := i) (by omega)
  have h3 := is24.ext eK3
  have h4 := is26.ext eK3
  have h5 := hs.ext (eK1.trans (e12.trans eK3))
  have i23 := @ldx _ _ _ ((e12.trans eK3).some m23)
  have hi1 : i < D1.length := by omega
  have hi2 : i < D2.length := by omega
  have ix24 := h3.ixm (kk := .i64) hi1
  have ix26 := h4.ixm (kk := .i64) hi2
  have ixx := h5.ixm (kk := .i64) hlt2
  have ld24 : ∀ {kk : AHeap}, Ext K3 kk → loadF none (elp v24 1 i) (fun b => kk[b]?) = some (.flt .f32 D1[i], .keep) := fun {kk} e => h3.l1m hi1 rfl e
  have ld26 : ∀ {kk : AHeap}, Ext K3 kk → loadF none (elp v26 1 i) (fun b => kk[b]?) = some (.flt .f32 D2[i], .keep) := fun {kk} e => h4.l1m hi2 rfl e
  have ldx0 : ∀ {kk : AHeap}, Ext K3 kk → loadF none (elp x.2 1 i) (fun b => kk[b]?) = some (.flt .f32 x.1.sm[i], .keep) := fun {kk} e => h5.l1m hlt2 rfl e
  have ga := hg _ (List.getElem_mem hlt2)
  have gb := gd1 _ (List.getElem_mem hi1)
  have gc := gd2 _ (List.getElem_mem hi2)
  have va := sm_at hlt2
  have vb := des_at nd1 hi1
  have vc := des_at nd2 hi2
  obtain ⟨A, hAe⟩ : ∃ A, A = x.1.sm.map gridN := ⟨_, rfl⟩
  have lA : A.length = x.1.sm.length := by rw [hAe, List.length_map]
  rw [← hAe] at hA va vb vc
  obtain ⟨a, ha⟩ : ∃ a, a = atZ A i := ⟨_, rfl⟩
  obtain ⟨b, hb⟩ : ∃ b, b = desF A lim i := ⟨_, rfl⟩
  obtain ⟨c, hc⟩ : ∃ c, c = desF A 16384 i := ⟨_, rfl⟩
  have hc' : c = gridN D2[i] := by rw [hc, vc]
  refine Rs (A17 @t9 @t219 @t220 @t221 @t23 @t24 @t26 @t266 @t267 @t268 @e4 @ix24 @ld24 @i23 @l9 @ixx @ldx0) ?_
  refine WF.ce T.c64 (ho_sx T ga (va.trans ha.symm)) fun g6 => ?_
  refine Rs (A10 @t9 @t219 @t220 @t221 @t23 @t24 @t26 @t266 @t267 @t268) ?_
  refine WF.ce T.c64 (ho_sx T gb (vb.trans hb.symm)) fun g7 => ?_
  by_cases hmid : 0 < i ∧ i + 1 < x.1.sm.length
  case neg =>
    have hMe : (0 < i ∧ i + 1 < A.length ∧ atZ A i = medA A i) ∨ (¬ (0 < i ∧ i + 1 < A.length) ∧ atZ A i = atZ A i) := .inr ⟨by rw [lA]; exact hmid, rfl⟩
    by_cases h0 : 0 < i
    case pos =>
      have d1 : decide ((0 : Int) < (i : Int)) = true := decide_eq_true (by omega)
      have d2 : decide (((i + 1 : Nat) : Int) < (x.1.sm.length : Int)) = false := decide_eq_false (by omega)
      refine Rs (A14 @t9 @t219 @t220 @t221 @t23 @t24 @t26 @t266 @t267 @t268 @d1 @e6 @ln24 @d2) ?_
      obtain ⟨p1, p2, p3, p4, p5, ba, bb, bm⟩ := ho_pl hA ⟨hn.1, by omega⟩ hMe
      rw [← ha] at p1 p2 p3 p4 p5 ba bm
      rw [← hb] at p1 p2 p3 p4 bb
      rw [← hc] at p5
      have f1 : decide (b < min a a) = false := decide_eq_false p1
      have f2 : decide (max a a < b) = false := decide_eq_false p2
      have f3 : decide (lim < max (b - a) (a - b)) = false := decide_eq_false p3
      have w1 : IntKind.i64.wrap (b - a) = b - a := wrap_in (by omega) (by omega)
      have w2 : IntKind.i64.wrap (a - b) = a - b := wrap_in (by omega) (by omega)
      by_cases q1 : a = b
      case pos =>
        have f4 : decide (a ≠ b) = false := decide_eq_false fun z => z q1
        refine Rs (A20 @t9 @t219 @t220 @t221 @t23 @t24 @t26 @t266 @t267 @t268 @mn_2 @mx_2 @f1 @f2 @w1 @w2 @f3 @f4 @ix26 @ld26) ?_
        refine WF.ce T.c64 (ho_sx T gc hc'.symm) fun g9 => ?_
        by_cases q2 : c = a
        case pos =>
          have f6 : decide (c ≠ a) = false := decide_eq_false fun z => z q2
          refine Rs (A13 @t9 @t219 @t220 @t221 @t23 @t24 @t26 @t266 @t267 @t268 @mx_2 @f6 @e6) ?_
          exact ⟨x.1.sm.length - (i + 1), by omega, i + 1, by omega, rfl, eK3.trans Xx, rfl⟩
        exact absurd (p5 q2) (by omega)
      have f4 : decide (a ≠ b) = true := decide_eq_true q1
      have f5 : decide (max (b - a) (a - b) ≠ lim) = false := decide_eq_false fun z => z (p4 q1)
      refine Rs (A21 @t9 @t219 @t220 @t221 @t23 @t24 @t26 @t266 @t267 @t268 @mn_2 @mx_2 @f1 @f2 @w1 @w2 @f3 @f4 @f5 @ix26 @ld26) ?_
      refine WF.ce T.c64 (ho_sx T gc hc'.symm) fun g9 => ?_
      by_cases q2 : c = a
      case pos =>
        have f6 : decide (c ≠ a) = false := decide_eq_false fun z => z q2
        refine Rs (A13 @t9 @t219 @t220 @t221 @t23 @t24 @t26 @t266 @t267 @t268 @mx_2 @f6 @e6) ?_
        exact ⟨x.1.sm.length - (i + 1), by omega, i + 1, by omega, rfl, eK3.trans Xx, rfl⟩
      exact absurd (p5 q2) (by omega)
    case neg =>
      have d1 : decide ((0 : Int) < (i : Int)) = false := decide_eq_false (by omega)
      refine Rs (A11 @t9 @t219 @t220 @t221 @t23 @t24 @t26 @t266 @t267 @t268 @d1) ?_
      obtain ⟨p1, p2, p3, p4, p5, ba, bb, bm⟩ := ho_pl hA ⟨hn.1, by omega⟩ hMe
      rw [← ha] at p1 p2 p3 p4 p5 ba bm
      rw [← hb] at p1 p2 p3 p4 bb
      rw [← hc] at p5
      have f1 : decide (b < min a a) = false := decide_eq_false p1
      have f2 : decide (max a a < b) = false := decide_eq_false p2
      have f3 : decide (lim < max (b - a) (a - b)) = false := decide_eq_false p3
      have w1 : IntKind.i64.wrap (b - a) = b - a := wrap_in (by omega) (by omega)
      have w2 : IntKind.i64.wrap (a - b) = a - b := wrap_in (by omega) (by omega)
      by_cases q1 : a = b
      case pos =>
        have f4 : decide (a ≠ b) = false := decide_eq_false fun z => z q1
        refine Rs (A20 @t9 @t219 @t220 @t221 @t23 @t24 @t26 @t266 @t267 @t268 @mn_2 @mx_2 @f1 @f2 @w1 @w2 @f3 @f4 @ix26 @ld26) ?_
        refine WF.ce T.c64 (ho_sx T gc hc'.symm) fun g9 => ?_
        by_cases q2 : c = a
        case pos =>
          have f6 : decide (c ≠ a) = false := decide_eq_false fun z => z q2
          refine Rs (A13 @t9 @t219 @t220 @t221 @t23 @t24 @t26 @t266 @t267 @t268 @mx_2 @f6 @e6) ?_
          exact ⟨x.1.sm.length - (i + 1), by omega, i + 1, by omega, rfl, eK3.trans Xx, rfl⟩
        exact absurd (p5 q2) (by omega)
      have f4 : decide (a ≠ b) = true := decide_eq_true q1
      have f5 : decide (max (b - a) (a - b) ≠ lim) = false := decide_eq_false fun z => z (p4 q1)
      refine Rs (A21 @t9 @t219 @t220 @t221 @t23 @t24 @t26 @t266 @t267 @t268 @mn_2 @mx_2 @f1 @f2 @w1 @w2 @f3 @f4 @f5 @ix26 @ld26) ?_
      refine WF.ce T.c64 (ho_sx T gc hc'.symm) fun g9 => ?_
      by_cases q2 : c = a
      case pos =>
        have f6 : decide (c ≠ a) = false := decide_eq_false fun z => z q2
        refine Rs (A13 @t9 @t219 @t220 @t221 @t23 @t24 @t26 @t266 @t267 @t268 @mx_2 @f6 @e6) ?_
        exact ⟨x.1.sm.length - (i + 1), by omega, i + 1, by omega, rfl, eK3.trans Xx, rfl⟩
      exact absurd (p5 q2) (by omega)
  obtain ⟨h0, h1⟩ := hmid
  have hMm : (0 < i ∧ i + 1 < A.length ∧ medA A i = medA A i) ∨ (¬ (0 < i ∧ i + 1 < A.length) ∧ medA A i = atZ A i) := .inl ⟨h0, by omega, rfl⟩
  have d1 : decide ((0 : Int) < (i : Int)) = true := decide_eq_true (by omega)
  have d2 : decide (((i + 1 : Nat) : Int) < (x.1.sm.length : Int)) = true := decide_eq_true (by omega)
  have wm : IntKind.i64.wrap ((i : Int) - 1) = ((i - 1 : Nat) : Int) := by rw [wrap_in (by omega) (by omega)]; omega
  have hp : i - 1 < x.1.sm.length := by omega
  have ixp := h5.ixm (kk := .i64) hp
  have ixn := h5.ixm (kk := .i64) h1
  have ldp : ∀ {kk : AHeap}, Ext K3 kk → loadF none (elp x.2 1 (i - 1)) (fun b => kk[b]?) = some (.flt .f32 x.1.sm[i - 1], .keep) := fun {kk} e => h5.l1m hp rfl e
  have ldn : ∀ {kk : AHeap}, Ext K3 kk → loadF none (elp x.2 1 (i + 1)) (fun b => kk[b]?) = some (.flt .f32 x.1.sm[i + 1], .keep) := fun {kk} e => h5.l1m h1 rfl e
  have gp := hg _ (List.getElem_mem hp)
  have gn := hg _ (List.getElem_mem h1)
  have vp : gridN x.1.sm[i - 1] = atZ A ((i : Int) - 1) := by rw [sm_at hp, ← hAe]; congr 1; omega
  have vn : gridN x.1.sm[i + 1] = atZ A ((i : Int) + 1) := by rw [sm_at h1, ← hAe]; rfl
  obtain ⟨M, hM⟩ : ∃ M, M = medA A i := ⟨_, rfl⟩
  have hMM : med3 (atZ A ((i : Int) - 1)) a (atZ A ((i : Int) + 1)) = M := by rw [hM, ha]; rfl
  refine Rs (A19 @t9 @t219 @t220 @t221 @t23 @t24 @t26 @t266 @t267 @t268 @d1 @e6 @ln24 @d2 @i23 @l9 @wm @ixp @ldp) ?_
  refine WF.ce T.c64 (ho_sx T gp vp) fun g10 => ?_
  refine Rs (A15 @t9 @t219 @t220 @t221 @t23 @t24 @t26 @t266 @t267 @t268 @i23 @l9 @e6 @ixn @ldn) ?_
  refine WF.ce T.c64 (ho_sx T gn vn) fun g11 => ?_
  refine Rs (A10 @t9 @t219 @t220 @t221 @t23 @t24 @t26 @t266 @t267 @t268) ?_
  refine WF.ce T.c97 (r97 T _ _ _) fun g12 => ?_
  rw [hMM]
  obtain ⟨p1, p2, p3, p4, p5, ba, bb, bm⟩ := ho_pl hA ⟨hn.1, by omega⟩ hMm
  rw [← ha] at p1 p2 p4 p5 ba
  rw [← hb] at p1 p2 p3 p4 bb
  rw [← hc] at p5
  rw [← hM] at p1 p2 p3 p4 p5 bm
  have f1 : decide (b < min a M) = false := decide_eq_false p1
  have f2 : decide (max a M < b) = false := decide_eq_false p2
  have f3 : decide (lim < max (b - M) (M - b)) = false := decide_eq_false p3
  have w1 : IntKind.i64.wrap (b - M) = b - M := wrap_in (by omega) (by omega)
  have w2 : IntKind.i64.wrap (M - b) = M - b := wrap_in (by omega) (by omega)
  have w3 : IntKind.i64.wrap (a - M) = a - M := wrap_in (by omega) (by omega)
  have w4 : IntKind.i64.wrap (M - a) = M - a := wrap_in (by omega) (by omega)
  by_cases q1 : a = b
  case pos =>
    have f4 : decide (a ≠ b) = false := decide_eq_false fun z => z q1
    refine Rs (A20 @t9 @t219 @t220 @t221 @t23 @t24 @t26 @t266 @t267 @t268 @mn_2 @mx_2 @f1 @f2 @w1 @w2 @f3 @f4 @ix26 @ld26) ?_
    refine WF.ce T.c64 (ho_sx T gc hc'.symm) fun g9 => ?_
    by_cases q2 : c = a
    case pos =>
      have f6 : decide (c ≠ a) = false := decide_eq_false fun z => z q2
      refine Rs (A13 @t9 @t219 @t220 @t221 @t23 @t24 @t26 @t266 @t267 @t268 @mx_2 @f6 @e6) ?_
      exact ⟨x.1.sm.length - (i + 1), by omega, i + 1, by omega, rfl, eK3.trans Xx, rfl⟩
    have f6 : decide (c ≠ a) = true := decide_eq_true q2
    have f7 : decide (max (a - M) (M - a) ≤ 16384) = false := decide_eq_false (by have := p5 q2; omega)
    refine Rs (A16 @t9 @t219 @t220 @t221 @t23 @t24 @t26 @t266 @t267 @t268 @mx_2 @f6 @f7 @w3 @w4 @e6) ?_
    exact ⟨x.1.sm.length - (i + 1), by omega, i + 1, by omega, rfl, eK3.trans Xx, rfl⟩
  have f4 : decide (a ≠ b) = true := decide_eq_true q1
  have f5 : decide (max (b - M) (M - b) ≠ lim) = false := decide_eq_false fun z => z (p4 q1)
  refine Rs (A21 @t9 @t219 @t220 @t221 @t23 @t24 @t26 @t266 @t267 @t268 @mn_2 @mx_2 @f1 @f2 @w1 @w2 @f3 @f4 @f5 @ix26 @ld26) ?_
  refine WF.ce T.c64 (ho_sx T gc hc'.symm) fun g9 => ?_
  by_cases q2 : c = a
  case pos =>
    have f6 : decide (c ≠ a) = false := decide_eq_false fun z => z q2
    refine Rs (A13 @t9 @t219 @t220 @t221 @t23 @t24 @t26 @t266 @t267 @t268 @mx_2 @f6 @e6) ?_
    exact ⟨x.1.sm.length - (i + 1), by omega, i + 1, by omega, rfl, eK3.trans Xx, rfl⟩
  have f6 : decide (c ≠ a) = true := decide_eq_true q2
  have f7 : decide (max (a - M) (M - a) ≤ 16384) = false := decide_eq_false (by have := p5 q2; omega)
  refine Rs (A16 @t9 @t219 @t220 @t221 @t23 @t24 @t26 @t266 @t267 @t268 @mx_2 @f6 @f7 @w3 @w4 @e6) ?_
  exact ⟨x.1.sm.length - (i + 1), by omega, i + 1, by omega, rfl, eK3.trans Xx, rfl⟩
end
end Go.Abs
namespace Go.Abs
theorem tmod_bd (a : Int) {b : Nat} (hb : 0 < b) : -(b : Int) < a.tmod b ∧ a.tmod b < b := by
  have h1 := Int.natAbs_tmod a b
  rw [Int.natAbs_natCast] at h1
  have h2 := Nat.mod_lt a.natAbs hb
  omega
theorem tmod_up (a : Int) {b : Nat} (hb : 0 < b) : 0 ≤ (a.tmod b + b).tmod b ∧ (a.tmod b + b).tmod b < b := by
  have h1 := tmod_bd a hb
  exact ⟨Int.tmod_nonneg _ (by omega), Int.tmod_lt_of_pos _ (by omega)⟩
def i16R (a b c : Int) : List AV := [.int .i16 a, .int .i16 b, .int .i16 c]
set_option maxRecDepth 10000
attribute [local irreducible] WP WC WE WB WR WF WL WG WRg WQ
section
variable {P : Program} (T : Tbl P) {h Y : AHeap} {ts : TS} {b3 b5 : Nat}
include T
set_option maxHeartbeats 16000000 in
theorem ho_B (X : Xfl P) (S : SrtOk P) (rg : Rng h) {nm : List UInt8} {s s1 : AV} {L : List (Trc × AV)} {t : List Int} {n0 n1 n2 : Int} (q0 : -32768 ≤ n0 ∧ n0 ≤ 32767) (q1 : -32768 ≤ n1 ∧ n1 ≤ 32767) (q2 : -32768 ≤ n2 ∧ n2 ≤ 32767) (os : ShOk h L s) (h1 : IsSl h s1 1 (t.map intRow)) (p : ShtP nm L) (hcs : chkSh nm (L.map Prod.fst) = 0) (tz : chkTp t = 0) (htl : t.length < 2 ^ 40) (hlen : ts.length = 366) (t1 : slot ts 1 = s1) (t3 : slot ts 3 = .ptr b3 0) (t5 : slot ts 5 = .ptr b5 0) (e0 : Ext h Y) (m3 : Y[b3]? = some (.cells (shC nm s) true false)) (m5 : Y[b5]? = some (.cells (i16R n0 n1 n2) true false)) :
    WC P inFn hoB [] ts Y (FQ [(6, none)] fun v k => Ext h k ∧ v = .bool true) := by
  show WC P inFn (.seq _ (.seq _ hoC)) _ _ _ _
  have i3 := @ldx _ _ _ m3
  have i5 := @ldx _ _ _ m5
  have l3 := @sh_l2 nm s
  have pl := p.l
  obtain ⟨_, _, _, hct⟩ := chkSh_z hcs
  have hct' : ∀ x ∈ L, chkTr x.1 = 0 := fun x hx => hct x.1 (List.mem_map_of_mem hx)
  have bz : ∀ {N : Nat}, boxF (.agg [.str [], .nilSlice]) N = some (.ptr N 0, .push (.cells (shC [] .nilSlice) true false)) := fun {N} => rfl
  have j0 : iadaF 3 1 (.ptr b5 0) (.int .i64 0) = some (.ptr b5 0) := rfl
  have j1 : iadaF 3 1 (.ptr b5 0) (.int .i64 1) = some (.ptr b5 1) := rfl
  have j2 : iadaF 3 1 (.ptr b5 0) (.int .i64 2) = some (.ptr b5 2) := rfl
  have r0 : ldV (i16R n0 n1 n2)[0]? = some (.int .i16 n0, .keep) := rfl
  have r1 : ldV (i16R n0 n1 n2)[1]? = some (.int .i16 n1, .keep) := rfl
  have r2 : ldV (i16R n0 n1 n2)[2]? = some (.int .i16 n2, .keep) := rfl
  have w0 : IntKind.i64.wrap n0 = n0 := wrap_in (by omega) (by omega)
  have w1 : IntKind.i64.wrap n1 = n1 := wrap_in (by omega) (by omega)
  have w2 : IntKind.i64.wrap n2 = n2 := wrap_in (by omega) (by omega)
  have bd0 : -(65 : Int) < n0.tmod 65 ∧ n0.tmod 65 < 65 := tmod_bd n0 (b := 65) (by omega)
  have bd1 : -(1000 : Int) < n1.tmod 1000 ∧ n1.tmod 1000 < 1000 := tmod_bd n1 (b := 1000) (by omega)
  have bd2 : -(200 : Int) < n2.tmod 200 ∧ n2.tmod 200 < 200 := tmod_bd n2 (b := 200) (by omega)
  have bu1 : 0 ≤ (n1.tmod 1000 + 1000).tmod 1000 ∧ (n1.tmod 1000 + 1000).tmod 1000 < 1000 := tmod_up n1 (b := 1000) (by omega)
  have bu2 : 0 ≤ (n2.tmod 200 + 200).tmod 200 ∧ (n2.tmod 200 + 200).tmod 200 < 200 := tmod_up n2 (b := 200) (by omega)
  have m0 : binK .rem (.int .i64 n0) (.int .i64 65) = some (.int .i64 (n0.tmod 65)) := by rw [bin_rem (by decide)]
  have m1 : binK .rem (.int .i64 n1) (.int .i64 1000) = some (.int .i64 (n1.tmod 1000)) := by rw [bin_rem (by decide)]
  have m2 : binK .rem (.int .i64 n2) (.int .i64 200) = some (.int .i64 (n2.tmod 200)) := by rw [bin_rem (by decide)]
  have a1 : IntKind.i64.wrap (n1.tmod 1000 + 1000) = n1.tmod 1000 + 1000 := wrap_in (by omega) (by omega)
  have a2 : IntKind.i64.wrap (n2.tmod 200 + 200) = n2.tmod 200 + 200 := wrap_in (by omega) (by omega)
  have m1' : binK .rem (.int .i64 (n1.tmod 1000 + 1000)) (.int .i64 1000) = some (.int .i64 ((n1.tmod 1000 + 1000).tmod 1000)) := by rw [bin_rem (by decide)]
  have m2' : binK .rem (.int .i64 (n2.tmod 200 + 200)) (.int .i64 200) = some (.int .i64 ((n2.tmod 200 + 200).tmod 200)) := by rw [bin_rem (by decide)]
  refine Rs (A22 @t1 @t3 @t5 @i5 @j0 @j1 @j2 @r0 @r1 @r2 @w0 @w1 @w2 @m0 @m1 @m2 @a1 @a2 @m1' @m2' @i3 @l3) ?_
  refine WF.res T.c89 (r89 T (os.ext e0) p.sz (by omega)) ?_
  rintro _ g1 ⟨sv, A, rfl, oA, fA⟩
  obtain ⟨tick, htick⟩ : ∃ z, z = (n1.tmod 1000 + 1000).tmod 1000 := ⟨_, rfl⟩
  obtain ⟨lim, hlim⟩ : ∃ z, z = (n2.tmod 200 + 200).tmod 200 := ⟨_, rfl⟩
  obtain ⟨hgt, hhgt⟩ : ∃ z, z = n0.tmod 65 := ⟨_, rfl⟩
  rw [← htick] at bu1
  rw [← hlim] at bu2
  rw [← hhgt] at bd0
  rw [← htick, ← hlim, ← hhgt]
  have shl : ∀ {A : List (Trc × AV)}, A.map Prod.fst = L.map Prod.fst → ShSz A ∧ A.length < 2 ^ 38 := fun {A} hA => by
    have la : A.length = L.length := by have := congrArg List.length hA; simpa using this
    refine ⟨⟨by omega, fun x hx => ?_⟩, by omega⟩
    have : x.1 ∈ L.map Prod.fst := by rw [← hA]; exact List.mem_map_of_mem hx
    obtain ⟨y, hy, e⟩ := List.mem_map.1 this
    rw [← e]
    have := p.s y hy
    omega
  obtain ⟨zA, lA⟩ := shl fA
  have ov := oA.sl.one
  refine Rs (A3 @t1 @t3 @ov) ?_
  refine WF.res T.c21 (r21 T ((h1.ext e0).ext Xx) htl) ?_
  intro sl2 g2 isl2
  refine Rs (A3 @t1 @t3 @ov) ?_
  refine WF.res T.c90 (r90 T ((rg.ext e0).ext Xx) (oA.ext Xx) zA lA isl2 htl) ?_
  rintro _ g3 ⟨r2', e2, rfl, hR2⟩
  obtain ⟨he2, hr2⟩ := hR2
  rw [fA, errL_fst (E := eachE t) (fun _ _ _ => rfl) fA, first00 hcs tz, first0e] at he2
  obtain ⟨K3, hK3⟩ : ∃ K, K = Y ++ g1 ++ g2 ++ g3 := ⟨_, rfl⟩
  have eK3 : Ext Y K3 := by rw [hK3]; exact Xx
  rw [← hK3] at hr2 ⊢
  clear hK3 isl2 oA
  obtain ⟨m9, v9, U9, rfl, ov9, r9, hr9⟩ : ∃ (m9 : List UInt8) (v9 : AV) (U9 : List (Trc × AV)), r2' = .agg [.str m9, v9] ∧ v9.one = true ∧ ResS K3 m9 v9 U9 ∧ if e2 = 0 then m9 = nm ∧ U9.map Prod.fst = (L.map Prod.fst).map (chgF (eacF t)) else m9 = [] ∧ U9 = [] := by
    by_cases q : e2 = 0
    · rw [if_pos q] at hr2
      obtain ⟨s', L', rfl, ok', fl'⟩ := hr2
      rw [chg_map (G := eachG t) (F := eacF t) (fun x => rfl), fA] at fl'
      refine ⟨nm, s', L', rfl, ok'.sl.one, ResS.of ok' fl' (by rw [List.length_map]; omega) (fun y hy => ?_), by rw [if_pos q]; exact ⟨rfl, fl'⟩⟩
      obtain ⟨x, hx, rfl⟩ := List.mem_map.1 hy
      have := p.s x hx
      refine chg_len (by omega) ?_
      show ((apL _ _ _).map smpl).length < _
      rw [List.length_map, apL_len, List.length_map]
      omega
    · rw [if_neg q] at hr2
      exact ⟨[], .nilSlice, [], hr2, rfl, .nil, by rw [if_neg q]; exact ⟨rfl, rfl⟩⟩
  have st9' : ∀ {n : Nat}, stB 2 0 (.agg [.str m9, v9]) n (.cells (shC [] .nilSlice) true false) = some (undefA, .set n (.cells (shC m9 v9) true false)) := fun {n} => sh_st ov9
  refine Rs (A5 @t1 @t3 @bz @st9' @ov9) ?_
  obtain ⟨K4, hK4⟩ : ∃ K, K = K3 ++ [ABlk.cells (shC m9 v9) true false] := ⟨_, rfl⟩
  have eK4 : Ext K3 K4 := by rw [hK4]; exact Xx
  have m10 : K4[K3.length]? = some (.cells (shC m9 v9) true false) := by rw [hK4]; exact at_new
  obtain ⟨b9, hb9⟩ : ∃ b, b = K3.length := ⟨_, rfl⟩
  rw [← hb9] at m10
  rw [← hK4, ← hb9]
  clear hK4 hb9
  have eY := eK3.trans eK4
  refine ho_C T (t := t) (nm := nm) (n1 := m9) (s := s) (s1 := s1) (v10 := v9) (L := L) (U10 := U9) (b3 := b3) (b10 := b9) (e1 := e2) (hgt := hgt) (tick := tick) (lim := lim) tz htl (h1.ext (e0.trans eY)) Sn (Sq @t1) (Sq @t3) Sw Sw Sw Sw Sw (eY.some m3) m10 (os.ext (e0.trans eY)) p hct' (r9.ext eK4) he2 hr9 ?_
  intro ts' Y' hl' a3 a7 a8 a9 eY'
  refine ho_E T (nm := nm) (s := s) (L := L) (b3 := b3) (hgt := hgt) (tick := tick) (lim := lim) (rg.ext (e0.trans (eY.trans eY'))) (by omega) (by omega) hl' a3 a7 a8 a9 ((eY.trans eY').some m3) (os.ext (e0.trans (eY.trans eY'))) p hcs ?_
  intro ts2 Y2 hl2 c3 c9 eY2
  exact ho_F T (nm := nm) (s := s) (L := L) (b3 := b3) X S (lim := lim) ⟨by omega, by omega⟩ hl2 c3 c9 (e0.trans ((eY.trans eY').trans eY2)) (((eY.trans eY').trans eY2).some m3) (os.ext (e0.trans ((eY.trans eY').trans eY2))) p hct'
set_option maxHeartbeats 8000000 in
theorem r14 (X : Xfl P) (S : SrtOk P) (rg : Rng h) (hw : ∀ k, Ext h k → RCall P 17 [] k (fun v _ => v = .bool true)) {nm : List UInt8} {s s1 : AV} {L : List (Trc × AV)} {t : List Int} (os : ShOk h L s) (hL : L.length < 2 ^ 63) (h1 : IsSl h s1 1 (t.map intRow)) {n0 n1 n2 : Int} (q0 : -32768 ≤ n0 ∧ n0 ≤ 32767) (q1 : -32768 ≤ n1 ∧ n1 ≤ 32767) (q2 : -32768 ≤ n2 ∧ n2 ≤ 32767) : RCall P 14 [.agg [.str nm, s], s1, .agg [.int .i16 n0, .int .i16 n1, .int .i16 n2]] h (fun v _ => v = .bool true) := by
  refine .st3 366 T.mix T.c14 ?_;intro ts hlen t0 t1 t2;unfold fn14
  show WC P inFn (.seq _ (.seq _ hoB)) _ _ _ _
  have bx := @sh_box nm s os.sl.one
  have b2 : ∀ {N : Nat}, boxF (.agg [.int .i16 n0, .int .i16 n1, .int .i16 n2]) N = some (.ptr N 0, .push (.cells (i16R n0 n1 n2) true false)) := fun {N} => rfl
  have l3 := @sh_l2 nm s
  refine Rs (A5 @t0 @t1 @t2 @bx @b2) ?_
  obtain ⟨H0, hH0⟩ : ∃ H0, H0 = h ++ [ABlk.cells (shC nm s) true false] ++ [ABlk.cells (i16R n0 n1 n2) true false] := ⟨_, rfl⟩
  have e0 : Ext h H0 := by rw [hH0]; exact Xx
  have m3 : H0[h.length]? = some (.cells (shC nm s) true false) := by rw [hH0]; exact at_1
  have m5 : H0[(h ++ [ABlk.cells (shC nm s) true false]).length]? = some (.cells (i16R n0 n1 n2) true false) := by rw [hH0]; exact at_new
  obtain ⟨b3, hb3⟩ : ∃ b3, b3 = h.length := ⟨_, rfl⟩
  obtain ⟨b5, hb5⟩ : ∃ b, b = (h ++ [ABlk.cells (shC nm s) true false]).length := ⟨_, rfl⟩
  rw [← hb3] at m3
  rw [← hb5] at m5
  rw [← hH0, ← hb3, ← hb5]
  clear hH0 hb3 hb5
  refine WF.ce T.c17 (hw _ e0) fun g1 => ?_
  have i3 := @ldx _ _ _ m3
  refine Rs (A6 @t0 @t1 @t2 @Bool.not_true @i3 @l3) ?_
  refine WF.res T.c87 (r87 T ((os.ext e0).ext Xx) hL) ?_
  rintro _ g2 ⟨b, rfl, hb⟩
  have e1 := e0.trans (show Ext H0 (H0 ++ g1 ++ g2) from Xx)
  cases b with
  | false =>
    refine Rs (A4 @t0 @t1 @t2 @Bool.not_false) ?_
    refine WF.ce T.c17 (hw _ e1) fun g3 => ?_
    refine Rs (A2 @t0 @t1) ?_
    exact ⟨e1.trans Xx, trivial⟩
  | true =>
    have p := hb rfl
    have pn := p.n
    refine Rs (A6 @t0 @t1 @t2 @Bool.not_true @i3 @l3) ?_
    refine WF.ce T.c91 (r91 T X (by omega) (os.ext e1) p.sz) fun g3 => ?_
    have e2 := e1.trans (show Ext (H0 ++ g1 ++ g2) (H0 ++ g1 ++ g2 ++ g3) from Xx)
    by_cases hcs : chkSh nm (L.map Prod.fst) = 0
    case neg =>
      have d1 : decide (chkSh nm (L.map Prod.fst) ≠ 0) = true := decide_eq_true hcs
      refine Rs (A4 @t0 @t1 @t2 @d1) ?_
      refine WF.ce T.c17 (hw _ e2) fun g4 => ?_
      refine Rs (A2 @t0 @t1) ?_
      exact ⟨e2.trans Xx, trivial⟩
    have d1 : decide (chkSh nm (L.map Prod.fst) ≠ 0) = false := decide_eq_false fun z => z hcs
    refine Rs (A4 @t0 @t1 @t2 @d1) ?_
    refine WF.ce T.c18 (r18 T (h1.ext e2)) fun g4 => ?_
    have e3 := e2.trans (show Ext (H0 ++ g1 ++ g2 ++ g3) (H0 ++ g1 ++ g2 ++ g3 ++ g4) from Xx)
    by_cases hst2 : (t.length : Int) ≤ 9
    case neg =>
      have d2 : decide ((t.length : Int) ≤ 9) = false := decide_eq_false hst2
      refine Rs (A5 @t0 @t1 @t2 @d2 @Bool.not_false) ?_
      refine WF.ce T.c17 (hw _ e3) fun g5 => ?_
      refine Rs (A2 @t0 @t1) ?_
      exact ⟨e3.trans Xx, trivial⟩
    have d2 : decide ((t.length : Int) ≤ 9) = true := decide_eq_true hst2
    refine Rs (A5 @t0 @t1 @t2 @d2 @Bool.not_true) ?_
    refine WF.ce T.c26 (r26 T (h1.ext e3) (by omega)) fun g5 => ?_
    have e4 := e3.trans (show Ext (H0 ++ g1 ++ g2 ++ g3 ++ g4) (H0 ++ g1 ++ g2 ++ g3 ++ g4 ++ g5) from Xx)
    by_cases tz : chkTp t = 0
    case neg =>
      have d3 : decide (chkTp t ≠ 0) = true := decide_eq_true tz
      refine Rs (A4 @t0 @t1 @t2 @d3) ?_
      refine WF.ce T.c17 (hw _ e4) fun g6 => ?_
      refine Rs (A2 @t0 @t1) ?_
      exact ⟨e4.trans Xx, trivial⟩
    have d3 : decide (chkTp t ≠ 0) = false := decide_eq_false fun z => z tz
    refine Rs (A4 @t0 @t1 @t2 @d3) ?_
    have eH : Ext H0 (H0 ++ g1 ++ g2 ++ g3 ++ g4 ++ g5) := Xx
    exact ho_B T (b3 := b3) (b5 := b5) X S rg q0 q1 q2 os h1 p hcs tz (by omega) Sn (Sq @t1) Sw Sw e4 (eH.some m3) (eH.some m5)
end
end Go.Abs
namespace Go.Abs
def ctTr : List CT := [.int .i64, .int .i64, .int .i64, .int .i64, .int .i64, .int .i64, .int .i64, .int .i64, .bool, .sl [.flt .f32]]
theorem ty_boolX {h : AHeap} {a : AV} (x : TY h .bool a) : ∃ b : Bool, a = .bool b := by rw [TY] at x; exact x
theorem tys_tr {h : AHeap} {c : List AV} (x : TYs h ctTr c) : ∃ y : Trc × AV, c = trRow y ∧ IsSl h y.2 1 (y.1.sm.map fltR) := by
  unfold ctTr at x
  obtain ⟨a0, _, rfl, h0, x⟩ := tys_cons x
  obtain ⟨a1, _, rfl, h1, x⟩ := tys_cons x
  obtain ⟨a2, _, rfl, h2, x⟩ := tys_cons x
  obtain ⟨a3, _, rfl, h3, x⟩ := tys_cons x
  obtain ⟨a4, _, rfl, h4, x⟩ := tys_cons x
  obtain ⟨a5, _, rfl, h5, x⟩ := tys_cons x
  obtain ⟨a6, _, rfl, h6, x⟩ := tys_cons x
  obtain ⟨a7, _, rfl, h7, x⟩ := tys_cons x
  obtain ⟨a8, _, rfl, h8, x⟩ := tys_cons x
  obtain ⟨a9, _, rfl, h9, x⟩ := tys_cons x
  obtain rfl := tys_nil x
  obtain ⟨z0, rfl, _⟩ := ty_int h0
  obtain ⟨z1, rfl, _⟩ := ty_int h1
  obtain ⟨z2, rfl, _⟩ := ty_int h2
  obtain ⟨z3, rfl, _⟩ := ty_int h3
  obtain ⟨z4, rfl, _⟩ := ty_int h4
  obtain ⟨z5, rfl, _⟩ := ty_int h5
  obtain ⟨z6, rfl, _⟩ := ty_int h6
  obtain ⟨z7, rfl, _⟩ := ty_int h7
  obtain ⟨b, rfl⟩ := ty_boolX h8
  obtain ⟨S, hS, _⟩ := ty_flts h9
  exact ⟨(⟨fun n => [z0, z1, z2, z3, z4, z5, z6, z7].getD n 0, b, S⟩, a9), rfl, hS⟩
theorem tya_shot {h : AHeap} {a : AV} (x : TYa h (.agg [.str, .sl ctTr]) a) : ∃ (nm : List UInt8) (s : AV) (L : List (Trc × AV)), a = .agg [.str nm, s] ∧ ShOk h L s ∧ L.length < 2 ^ 63 := by
  obtain ⟨l, rfl, x⟩ := x
  obtain ⟨_, _, rfl, h1, x⟩ := tys_cons x
  obtain ⟨s, _, rfl, h2, x⟩ := tys_cons x
  obtain rfl := tys_nil x
  obtain ⟨nm, rfl, _⟩ := ty_str h1
  obtain ⟨cs, hs, hl, hc⟩ := ty_sl h2
  obtain ⟨L, rfl, hL⟩ := rows_of (row := trRow) (Q := fun y => IsSl h y.2 1 (y.1.sm.map fltR)) fun c hcm => tys_tr (hc c hcm)
  exact ⟨nm, s, L, rfl, ⟨hs, hL⟩, by rw [List.length_map] at hl; exact maxLen_lt hl⟩
end Go.Abs
namespace Go.Abs
theorem awake_ag {k : AHeap} (ag : ∀ (b : Nat) (x : ABlk), glob0[b]? = some x → x = .dead ∨ k[b]? = some x) : RCall Go.Proofs.Tryz.prog 17 [] k (fun v _ => v = .bool true) := by
  obtain ⟨g0, hs⟩ := SCall.of_run tmix tabE_ok awake_runs
  have := hs.frame2 (h := k) glob0_len glob0_clos ⟨fun _ => none, [], by simp, rfl⟩ (clos_bool true) ag
  exact ⟨_, [], by rw [List.append_nil]; exact this, rfl⟩
def globS : AHeap := glob0.set 2 (.cells rngCells false false)
theorem globS_ag {k : AHeap} (e : Ext globS k) (b : Nat) (x : ABlk) (hb : glob0[b]? = some x) : x = .dead ∨ k[b]? = some x := by
  by_cases h : b = 2
  · subst h
    have h2 : glob0[2]? = some .dead := rfl
    rw [h2] at hb
    cases hb
    exact .inl rfl
  · refine .inr (e.some ?_)
    unfold globS
    rw [List.getElem?_set_ne (fun q => h q.symm)]
    exact hb
end Go.Abs
namespace Go.Proofs.YtbgldbmgjcgepaaGreatDoor
open Go.ChangeShapes Go.WideShapes Go.RowKit Go.Abs
theorem scS_shaped (os : Os) (args : Array Value) : ((World.laidAll Tryz.prog os Rows.filterShotsRow.laid).forCall (fun _ _ => 0) ⟨#[], args, []⟩).Shaped Tryz.prog := World.shaped_of_ZipB (by kernel_rfl) (by kernel_rfl)
theorem scS_laid (os : Os) (args : Array Value) : laidMetH Tryz.prog Rows.filterShotsRow.laid ((World.laidAll Tryz.prog os Rows.filterShotsRow.laid).forCall (fun _ _ => 0) ⟨#[], args, []⟩).memory := by
  rw [MakeChecks.laidMetH_plain _ _ _ (by kernel_rfl)]
  exact laidMet_laidAll _ (by kernel_rfl) (by kernel_rfl)
end Go.Proofs.YtbgldbmgjcgepaaGreatDoor
