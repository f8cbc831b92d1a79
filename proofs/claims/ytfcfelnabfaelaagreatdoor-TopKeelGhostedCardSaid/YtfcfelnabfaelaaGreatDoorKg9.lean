/- The law of the ghosted shot: late, opposite, added. No condition. · The law of the ghosted shot. No condition. -/
import Derived.Test.YtfcfelnabfaelaaGreatDoorKg8
set_option linter.all false
namespace Go.Abs

theorem Lik.trans {a b c : Trc} (h1 : Lik a b) (h2 : Lik b c) : Lik a c := ⟨h2.hd.trans h1.hd, h2.hole.trans h1.hole, h2.len.trans h1.len, h2.gr⟩
theorem lik_both {t : Trc} (n : Int) (h : chkTr t = 0) : Lik t (negT (delT n t)) := (lik_del n h).trans (lik_neg (chkTr_lik (lik_del n h) h))
theorem map_both (n : Int) (L : List Trc) : (L.map (delT n)).map negT = L.map fun t => negT (delT n t) := by rw [List.map_map]; rfl
theorem likL_both {L : List Trc} (n : Int) (h : ∀ t ∈ L, chkTr t = 0) : LikL L ((L.map (delT n)).map negT) := by
  rw [map_both]
  exact LikL.map fun t ht => lik_both n (h t ht)
theorem at_fst {A L : List (Trc × AV)} {f : Trc → Trc} (h : A.map Prod.fst = (L.map Prod.fst).map f) {i : Nat} (h1 : i < A.length) (h2 : i < L.length) : A[i].1 = f L[i].1 := by
  have e : (A.map Prod.fst)[i]'(by simpa using h1) = ((L.map Prod.fst).map f)[i]'(by simpa using h2) := by simp only [h]
  rwa [List.getElem_map, List.getElem_map, List.getElem_map] at e
set_option maxRecDepth 10000
attribute [local irreducible] WP WC WE WB WR WF WL WG WRg WQ
section
variable {P : Program} (T : Tbl P) (X : Xfl P) {h Y : AHeap} {ts : TS} {b2 b6 b8 d : Nat} {nm : List UInt8} {s s6 s8 : AV} {L D M : List (Trc × AV)} {Q : Ex → TS → AHeap → Prop}
include T X
set_option maxHeartbeats 16000000 in
theorem kg_B (q : KgS h Y b2 nm s L) (hd : 1 ≤ d ∧ d ≤ 24) (hlen : ts.length = 304) (t2 : slot ts 2 = .ptr b2 0) (t5 : slot ts 5 = .int .i64 (d : Int))
    (C : ∀ {ts' : TS} {Y' : AHeap} {b6 : Nat} {s6 : AV} {D : List (Trc × AV)}, ts'.length = 304 → slot ts' 2 = .ptr b2 0 → slot ts' 5 = .int .i64 (d : Int) → slot ts' 6 = .ptr b6 0 → Ext Y Y' → Y'[b6]? = some (.cells (shC nm s6) true false) → ShOk Y' D s6 → D.map Prod.fst = (L.map Prod.fst).map (delT (d : Int)) → WC P inFn kgC [] ts' Y' Q) :
    WC P inFn kgB [] ts Y Q := by
  show WC P inFn (.seq _ (.seq _ kgC)) _ _ _ _
  have l2 := @sh_l2 nm s
  have lss : ldV (shC nm s)[1]? = some (s, .keep) := rfl
  have i2 := @ldx _ _ _ q.m2
  have hl6 := q.l
  have hlm := fun G => q.o.sl.lenm G
  refine Rs (A4 @t2 @t5 @i2 @l2) ?_
  refine WF.res T.c7 (r7 T q.o q.sz (by omega)) ?_
  rintro _ g1 ⟨s1, L1, rfl, o1, f1⟩
  have c1 : Calm nm (L1.map Prod.fst) 4000 := by rw [f1]; exact q.c
  have os1 := o1.sl.one
  have z1 := c1.z
  refine Rs (A3 @t2 @t5 @os1) ?_
  refine WF.res T.c6 (r6 T (q.rg.ext Xx) o1 c1.sz (by omega) c1.ck (n := (d : Int)) (by omega)) ?_
  rintro _ g2 ⟨s6, D, rfl, oD, fD⟩
  have os6 := oD.sl.one
  rw [f1] at fD
  have bz : ∀ {N : Nat}, boxF (.agg [.str [], .nilSlice]) N = some (.ptr N 0, .push (.cells (shC [] .nilSlice) true false)) := fun {N} => rfl
  have st6 : ∀ {n : Nat}, stB 2 0 (.agg [.str nm, s6]) n (.cells (shC [] .nilSlice) true false) = some (undefA, .set n (.cells (shC nm s6) true false)) := fun {n} => sh_st os6
  refine Rs (A4 @t2 @t5 @bz @st6) ?_
  obtain ⟨Z, hZ⟩ : ∃ Z, Z = Y ++ g1 ++ g2 ++ [ABlk.cells (shC nm s6) true false] := ⟨_, rfl⟩
  have eZ : Ext Y Z := by rw [hZ]; exact Xx
  have eg : Ext (Y ++ g1 ++ g2) Z := by rw [hZ]; exact Xx
  have m6 : Z[(Y ++ g1 ++ g2).length]? = some (.cells (shC nm s6) true false) := by rw [hZ]; exact at_new
  obtain ⟨b6, hb6⟩ : ∃ b, b = (Y ++ g1 ++ g2).length := ⟨_, rfl⟩
  have oD := oD.ext eg
  rw [← hb6] at m6
  rw [← hZ, ← hb6]
  clear hZ hb6 eg
  have i2 := @ldx _ _ _ (eZ.some q.m2)
  have i6 := @ldx _ _ _ m6
  have l6 := @sh_l2 nm s6
  have ls6 : ldV (shC nm s6)[1]? = some (s6, .keep) := rfl
  have lD := fun G => oD.sl.lenm G
  have hDl : D.length = L.length := by have := congrArg List.length fD; simpa using this
  have d0 : decide ((0 : Int) ≠ 0) = false := rfl
  have d1 : decide ((D.length : Int) ≠ (L.length : Int)) = false := decide_eq_false fun z => z (by rw [hDl])
  have cD : calmB nm (D.map Prod.fst) 4000 = true := by rw [fD]; exact calm_del (by omega) q.c _
  have kD := calmB_t cD
  have zD := kD.z
  refine Rs (A11 @t2 @t5 @d0 @i2 @i6 @lss @ls6 @lD @hlm @d1 @l6) ?_
  refine WF.res T.c8 (r8 T oD kD.sz (by omega)) ?_
  rintro _ g3 ⟨s3, L3, rfl, o3, f3⟩
  have os3 := o3.sl.one
  have hL3 : L3.length = D.length := by have := congrArg List.length f3; simpa using this
  refine Rs (A3 @t2 @t5 @os3) ?_
  refine WF.ce T.c5 (r5 T X o3 (by omega) (lim := 4000) (by omega)) fun g4 => ?_
  rw [f3, cD]
  refine Rs (A3 @t2 @t5 @Bool.not_true) ?_
  exact C Sn (Sq @t2) (Sq @t5) Sw (eZ.trans Xx) ((show Ext Z (Z ++ g3 ++ g4) from Xx).some m6) (oD.ext Xx) fD
set_option maxHeartbeats 16000000 in
theorem kg_C (q : KgS h Y b2 nm s L) (m6 : Y[b6]? = some (.cells (shC nm s6) true false)) (oD : ShOk Y D s6) (hD : D.map Prod.fst = (L.map Prod.fst).map (delT (d : Int))) (hlen : ts.length = 304) (t2 : slot ts 2 = .ptr b2 0) (t5 : slot ts 5 = .int .i64 (d : Int)) (t6 : slot ts 6 = .ptr b6 0)
    (C : ∀ {ts' : TS} {Y' : AHeap} {b8 : Nat} {s8 : AV} {M : List (Trc × AV)}, ts'.length = 304 → slot ts' 2 = .ptr b2 0 → slot ts' 5 = .int .i64 (d : Int) → slot ts' 6 = .ptr b6 0 → slot ts' 8 = .ptr b8 0 → Ext Y Y' → Y'[b8]? = some (.cells (shC nm s8) true false) → ShOk Y' M s8 → M.map Prod.fst = ((L.map Prod.fst).map (delT (d : Int))).map negT → WC P inFn kgD [] ts' Y' Q) :
    WC P inFn kgC [] ts Y Q := by
  show WC P inFn (.seq _ (.seq _ kgD)) _ _ _ _
  have l6 := @sh_l2 nm s6
  have i6 := @ldx _ _ _ m6
  have cD : calmB nm (D.map Prod.fst) 4000 = true := by rw [hD]; exact calm_del (by omega) q.c _
  have kD := calmB_t cD
  have zD := kD.z
  refine Rs (A5 @t2 @t5 @t6 @i6 @l6) ?_
  refine WF.res T.c8 (r8 T oD kD.sz (by omega)) ?_
  rintro _ g1 ⟨s1, L1, rfl, o1, f1⟩
  have k1 : Calm nm (L1.map Prod.fst) 4000 := by rw [f1]; exact kD
  have os1 := o1.sl.one
  have z1 := k1.z
  refine Rs (A4 @t2 @t5 @t6 @os1) ?_
  refine WF.res T.c7 (r7 T o1 k1.sz (by omega)) ?_
  rintro _ g2 ⟨s2, L2, rfl, o2, f2⟩
  have k2 : Calm nm (L2.map Prod.fst) 4000 := by rw [f2]; exact k1
  have os2 := o2.sl.one
  have z2 := k2.z
  refine Rs (A4 @t2 @t5 @t6 @os2) ?_
  refine WF.res T.c9 (r9 T (q.rg.ext Xx) o2 k2.sz (by omega) k2.ck) ?_
  rintro _ g3 ⟨s8, M, rfl, oM, fM⟩
  have os8 := oM.sl.one
  rw [f2, f1, hD] at fM
  have bz : ∀ {N : Nat}, boxF (.agg [.str [], .nilSlice]) N = some (.ptr N 0, .push (.cells (shC [] .nilSlice) true false)) := fun {N} => rfl
  have st8 : ∀ {n : Nat}, stB 2 0 (.agg [.str nm, s8]) n (.cells (shC [] .nilSlice) true false) = some (undefA, .set n (.cells (shC nm s8) true false)) := fun {n} => sh_st os8
  refine Rs (A5 @t2 @t5 @t6 @bz @st8) ?_
  obtain ⟨Z, hZ⟩ : ∃ Z, Z = Y ++ g1 ++ g2 ++ g3 ++ [ABlk.cells (shC nm s8) true false] := ⟨_, rfl⟩
  have eZ : Ext Y Z := by rw [hZ]; exact Xx
  have eg : Ext (Y ++ g1 ++ g2 ++ g3) Z := by rw [hZ]; exact Xx
  have m8 : Z[(Y ++ g1 ++ g2 ++ g3).length]? = some (.cells (shC nm s8) true false) := by rw [hZ]; exact at_new
  obtain ⟨b8, hb8⟩ : ∃ b, b = (Y ++ g1 ++ g2 ++ g3).length := ⟨_, rfl⟩
  have oM := oM.ext eg
  rw [← hb8] at m8
  rw [← hZ, ← hb8]
  clear hZ hb8 eg
  have i8 := @ldx _ _ _ m8
  have l8 := @sh_l2 nm s8
  have d0 : decide ((0 : Int) ≠ 0) = false := rfl
  have cM : calmB nm (M.map Prod.fst) 4000 = true := by rw [fM, ← hD]; exact calm_neg kD
  have kM := calmB_t cM
  have zM := kM.z
  refine Rs (A6 @t2 @t5 @t6 @d0 @i8 @l8) ?_
  refine WF.res T.c8 (r8 T oM kM.sz (by omega)) ?_
  rintro _ g4 ⟨s4, L4, rfl, o4, f4⟩
  have os4 := o4.sl.one
  have hL4 : L4.length = M.length := by have := congrArg List.length f4; simpa using this
  refine Rs (A4 @t2 @t5 @t6 @os4) ?_
  refine WF.ce T.c5 (r5 T X o4 (by omega) (lim := 4000) (by omega)) fun g5 => ?_
  rw [f4, cM]
  refine Rs (A4 @t2 @t5 @t6 @Bool.not_true) ?_
  exact C Sn (Sq @t2) (Sq @t5) (Sq @t6) Sw (eZ.trans Xx) ((show Ext Z (Z ++ g4 ++ g5) from Xx).some m8) (oM.ext Xx) fM
set_option maxHeartbeats 16000000 in
theorem kg_D (q : KgS h Y b2 nm s L) (m8 : Y[b8]? = some (.cells (shC nm s8) true false)) (oM : ShOk Y M s8) (hM : M.map Prod.fst = ((L.map Prod.fst).map (delT (d : Int))).map negT) (hlen : ts.length = 304) (t2 : slot ts 2 = .ptr b2 0) (t5 : slot ts 5 = .int .i64 (d : Int)) (t6 : slot ts 6 = .ptr b6 0) (t8 : slot ts 8 = .ptr b8 0)
    (C : ∀ {ts' : TS} {Y' : AHeap} {b10 : Nat} {s10 : AV} {U : List (Trc × AV)}, ts'.length = 304 → slot ts' 2 = .ptr b2 0 → slot ts' 5 = .int .i64 (d : Int) → slot ts' 6 = .ptr b6 0 → slot ts' 10 = .ptr b10 0 → Ext Y Y' → Y'[b10]? = some (.cells (shC nm s10) true false) → ShOk Y' U s10 → GhL (d : Int) (L.map Prod.fst) (U.map Prod.fst) → WC P inFn kgE [] ts' Y' Q) :
    WC P inFn kgD [] ts Y Q := by
  show WC P inFn (.seq _ (.seq _ kgE)) _ _ _ _
  have l2 := @sh_l2 nm s
  have l8 := @sh_l2 nm s8
  have lss : ldV (shC nm s)[1]? = some (s, .keep) := rfl
  have ln : ldV (shC nm s)[0]? = some (.str nm, .keep) := rfl
  have hlm := fun G => q.o.sl.lenm G
  have hl6 := q.l
  have cD : calmB nm ((L.map Prod.fst).map (delT (d : Int))) 4000 = true := calm_del (by omega) q.c _
  have cM : calmB nm (M.map Prod.fst) 4000 = true := by rw [hM]; exact calm_neg (calmB_t cD)
  have kM := calmB_t cM
  have zM := kM.z
  have i2 := @ldx _ _ _ q.m2
  have i8 := @ldx _ _ _ m8
  refine Rs (A6 @t2 @t5 @t6 @t8 @i2 @l2) ?_
  refine WF.res T.c7 (r7 T q.o q.sz (by omega)) ?_
  rintro _ g1 ⟨s1, L1, rfl, o1, f1⟩
  have os1 := o1.sl.one
  refine Rs (A7 @t2 @t5 @t6 @t8 @i8 @l8 @os1) ?_
  refine WF.res T.c8 (r8 T (oM.ext Xx) kM.sz (by omega)) ?_
  rintro _ g2 ⟨s2, L2, rfl, o2, f2⟩
  have k2 : Calm nm (L2.map Prod.fst) 4000 := by rw [f2]; exact kM
  have os2 := o2.sl.one
  have z2 := k2.z
  refine Rs (A6 @t2 @t5 @t6 @t8 @os1 @os2) ?_
  refine WF.res T.c7 (r7 T o2 k2.sz (by omega)) ?_
  rintro _ g3 ⟨s3, L3, rfl, o3, f3⟩
  have k3 : Calm nm (L3.map Prod.fst) 4000 := by rw [f3]; exact k2
  have os3 := o3.sl.one
  have k1 : Calm nm (L1.map Prod.fst) 4000 := by rw [f1]; exact q.c
  have f3' : L3.map Prod.fst = (L.map Prod.fst).map fun t => negT (delT (d : Int) t) := by rw [f3, f2, hM, map_both]
  have f1' : L1.map Prod.fst = (L.map Prod.fst).map fun t => t := by rw [f1, List.map_id']
  have hL1 : L1.length = L.length := by have := congrArg List.length f1; simpa using this
  have hL3 : L3.length = L.length := by have := congrArg List.length f3'; simpa using this
  have a1 : ∀ (i : Nat) (h1 : i < L1.length) (h2 : i < L.length), L1[i].1 = L[i].1 := fun i h1 h2 => at_fst f1' h1 h2
  have a3 : ∀ (i : Nat) (h1 : i < L3.length) (h2 : i < L.length), L3[i].1 = negT (delT (d : Int) L[i].1) := fun i h1 h2 => at_fst f3' h1 h2
  have tr : ∀ (i : Nat) (h2 : i < L.length), chkTr L[i].1 = 0 := fun i h2 => q.c.tr _ (List.mem_map_of_mem (List.getElem_mem h2))
  have hw : widN (L1.map Prod.fst) = widN (L3.map Prod.fst) := by
    rw [f1, f3, f2, hM]
    exact (likL_both (d : Int) q.c.tr).wid.symm
  have hh : ∀ (i : Nat) (h1 : i < L1.length) (h2 : i < L3.length), L1[i].1.hd = L3[i].1.hd := fun i h1 h2 => by
    rw [a1 i h1 (by omega), a3 i h2 (by omega)]; rfl
  have ad : ∀ (i : Nat) (h1 : i < L1.length) (h2 : i < L3.length), L1[i].1.hole = false → L3[i].1.hole = false → AddOk L1[i].1.sm L3[i].1.sm := fun i h1 h2 _ _ => by
    have hi : i < L.length := by omega
    have lk := lik_both (d : Int) (tr i hi)
    have b1 := k1.bd L1[i].1 (List.mem_map_of_mem (List.getElem_mem h1))
    have b3 := k3.bd L3[i].1 (List.mem_map_of_mem (List.getElem_mem h2))
    have e1 := a1 i h1 hi
    have e3 := a3 i h2 hi
    obtain ⟨u, hu⟩ : ∃ u, u = L1[i].1 := ⟨_, rfl⟩
    obtain ⟨v, hv⟩ : ∃ v, v = L3[i].1 := ⟨_, rfl⟩
    rw [← hu] at b1 e1 ⊢
    rw [← hv] at b3 e3 ⊢
    rw [← e1] at lk e3
    rw [← e3] at lk
    have ht : chkTr u = 0 := by rw [e1]; exact tr i hi
    obtain ⟨c1, c2⟩ := chkL_z (chkTr_z ht).2.2
    exact ⟨c2, lk.gr, lk.len.symm, c1, fun j j1 j2 => by
      have x1 := b1 u.sm[j] (List.getElem_mem _)
      have x2 := b3 v.sm[j] (List.getElem_mem _)
      omega⟩
  refine Rs (A6 @t2 @t5 @t6 @t8 @os1 @os3) ?_
  refine WF.res T.c10 (r10 T (q.rg.ext Xx) (o1.ext Xx) o3 k1.sz k3.sz k1.ck k3.ck (by omega) hw hh ad) ?_
  rintro _ g4 ⟨s10, U, rfl, oU, su⟩
  have os10 := oU.sl.one
  have hUl := su.l
  have gh : GhL (d : Int) (L.map Prod.fst) (U.map Prod.fst) := ⟨by rw [List.length_map, List.length_map]; omega, fun i h1 h2 => by
    rw [List.length_map] at h1 h2
    rw [List.getElem_map, List.getElem_map]
    have := su.t i (by omega) (by omega) h2
    rw [a1 i (by omega) h1, a3 i (by omega) h1] at this
    exact sum_gh (tr i h1) this⟩
  have cU := calm_sum q.c gh
  have kU := calmB_t cU
  have zU := kU.z
  have bx : ∀ {N : Nat}, boxnF 2 (.agg [.str nm, s10]) N = some (.ptr N 0, .push (.cells (shC nm s10) true false)) := fun {N} => by
    unfold boxnF
    rw [if_pos ⟨by show ([.str nm, s10] : List AV).all AV.one = true; simp only [List.all_cons, List.all_nil, os10]; rfl, rfl⟩]
    rfl
  refine Rs (A5 @t2 @t5 @t6 @t8 @bx) ?_
  obtain ⟨Z, hZ⟩ : ∃ Z, Z = Y ++ g1 ++ g2 ++ g3 ++ g4 ++ [ABlk.cells (shC nm s10) true false] := ⟨_, rfl⟩
  have eZ : Ext Y Z := by rw [hZ]; exact Xx
  have eg : Ext (Y ++ g1 ++ g2 ++ g3 ++ g4) Z := by rw [hZ]; exact Xx
  have m10 : Z[(Y ++ g1 ++ g2 ++ g3 ++ g4).length]? = some (.cells (shC nm s10) true false) := by rw [hZ]; exact at_new
  obtain ⟨b10, hb10⟩ : ∃ b, b = (Y ++ g1 ++ g2 ++ g3 ++ g4).length := ⟨_, rfl⟩
  have oU := oU.ext eg
  rw [← hb10] at m10
  rw [← hZ, ← hb10]
  clear hZ hb10 eg
  have i2 := @ldx _ _ _ (eZ.some q.m2)
  have i10 := @ldx _ _ _ m10
  have l10 := @sh_l2 nm s10
  have ls10 : ldV (shC nm s10)[1]? = some (s10, .keep) := rfl
  have ln10 : ldV (shC nm s10)[0]? = some (.str nm, .keep) := rfl
  have lU := fun G => oU.sl.lenm G
  have d0 : decide ((0 : Int) ≠ 0) = false := rfl
  have d1 : decide ((U.length : Int) ≠ (L.length : Int)) = false := decide_eq_false fun z => z (by rw [hUl, hL1])
  have dn : decide (nm ≠ nm) = false := decide_eq_false fun z => z rfl
  repeat (first | simp (config := { maxSteps := 1000000 }) only [wset, hset, dset, bset, Nat.reduceAdd, Nat.reduceMul, Nat.reduceLeDiff, Nat.reduceEqDiff, pset, hlen, if_false, if_true, t2, t5, t6, t8, d0, i2, i10, lss, ls10, lU, hlm, d1, ln, ln10, dn, l10] | simp (config := { maxSteps := 1000000 }) (disch := first | (simp only [List.length_append, List.length_cons, List.length_nil] <;> omega) | rfl | omega | fail) only [kset, wset, hset, dset, bset, Nat.reduceAdd, Nat.reduceMul, Nat.reduceLeDiff, Nat.reduceEqDiff, pset, hlen, if_false, if_true, t2, t5, t6, t8, d0, i2, i10, lss, ls10, lU, hlm, d1, ln, ln10, dn, l10])
  refine WF.res T.c8 (r8 T oU kU.sz (by omega)) ?_
  rintro _ g5 ⟨s5, L5, rfl, o5, f5⟩
  have os5 := o5.sl.one
  have hL5 : L5.length = U.length := by have := congrArg List.length f5; simpa using this
  refine Rs (A5 @t2 @t5 @t6 @t8 @os5) ?_
  refine WF.ce T.c5 (r5 T X o5 (by omega) (lim := 8000) (by omega)) fun g6 => ?_
  rw [f5, cU]
  refine Rs (A5 @t2 @t5 @t6 @t8 @Bool.not_true) ?_
  exact C Sn (Sq @t2) (Sq @t5) (Sq @t6) Sw (eZ.trans Xx) ((show Ext Z (Z ++ g5 ++ g6) from Xx).some m10) (oU.ext Xx) gh
end
end Go.Abs
namespace Go.Abs
set_option maxRecDepth 10000
attribute [local irreducible] WP WC WE WB WR WF WL WG WRg WQ
section
variable {P : Program} (T : Tbl P) {h : AHeap}
include T
set_option maxHeartbeats 16000000 in
theorem r3 (X : Xfl P) (rg : Rng h) (hw : ∀ k, Ext h k → RCall P 4 [] k (fun v _ => v = .bool true)) {nm : List UInt8} {s : AV} {L : List (Trc × AV)} (os : ShOk h L s) (hL : L.length < 2 ^ 63) {z : Int} (hz0 : 0 ≤ z ∧ z ≤ 255) : RCall P 3 [.agg [.str nm, s], .int .u8 z] h (fun v _ => v = .bool true) := by
  refine .st2 304 T.mix T.c3 ?_;intro ts hlen t0 t1;unfold fn3
  show WC P inFn (.seq _ (.seq _ (.seq _ kgB))) _ _ _ _
  have bx := @sh_box nm s os.sl.one
  have l2 := @sh_l2 nm s
  refine Rs (A3 @t0 @t1 @bx) ?_
  obtain ⟨H0, hH0⟩ : ∃ H0, H0 = h ++ [ABlk.cells (shC nm s) true false] := ⟨_, rfl⟩
  have e0 : Ext h H0 := by rw [hH0]; exact ⟨_, rfl⟩
  have m2 : H0[h.length]? = some (.cells (shC nm s) true false) := by rw [hH0]; exact at_new
  obtain ⟨b2, hb2⟩ : ∃ b, b = h.length := ⟨_, rfl⟩
  rw [← hb2] at m2
  rw [← hH0, ← hb2]
  clear hH0 hb2
  refine WF.ce T.c4 (hw _ e0) fun g1 => ?_
  have i2 := @ldx _ _ _ m2
  refine Rs (A5 @t0 @t1 @Bool.not_true @i2 @l2) ?_
  refine WF.ce T.c5 (r5 T X (os.ext (e0.trans Xx)) hL (lim := 4000) (by omega)) fun g2 => ?_
  have e1 : Ext H0 (H0 ++ g1 ++ g2) := Xx
  cases hc : calmB nm (L.map Prod.fst) 4000 with
  | false =>
    refine Rs (A3 @t0 @t1 @Bool.not_false) ?_
    refine WF.ce T.c4 (hw _ (e0.trans e1)) fun g3 => ?_
    refine Rs (A2 @t0 @t1) ?_
    exact ⟨e0.trans (e1.trans Xx), trivial⟩
  | true =>
  obtain ⟨d, hd⟩ : ∃ d : Nat, (d : Int) = 1 + z.tmod 24 := ⟨(1 + z.tmod 24).toNat, by
    have := Int.tmod_nonneg 24 hz0.1
    omega⟩
  have hd1 : 1 ≤ d ∧ d ≤ 24 := by
    have h1 := Int.tmod_nonneg 24 hz0.1
    have h2 := Int.tmod_lt_of_pos z (show (0 : Int) < 24 by omega)
    omega
  have rm : binK .rem (.int .i64 z) (.int .i64 24) = some (.int .i64 (z.tmod 24)) := by rw [bin_rem (by decide)]
  have cz : IntKind.i64.wrap z = z := wrap_in (by omega) (by omega)
  have ad : IntKind.i64.wrap (1 + z.tmod 24) = (d : Int) := by rw [wrap_in (by omega) (by omega), hd]
  refine Rs (A6 @t0 @t1 @Bool.not_true @cz @rm @ad) ?_
  have q : KgS h (H0 ++ g1 ++ g2) b2 nm s L := ⟨e0.trans e1, e1.some m2, os.ext (e0.trans e1), rg.ext (e0.trans e1), calmB_t hc⟩
  refine kg_B T X q hd1 Sn Sw Sw ?_
  intro ts2 Y2 b6 s6 D hl2 t2 t5 t6 eY2 m6 oD hD
  refine kg_C T X (q.ext eY2) m6 oD hD hl2 t2 t5 t6 ?_
  intro ts3 Y3 b8 s8 M hl3 t2 t5 t6 t8 eY3 m8 oM hM
  refine kg_D T X ((q.ext eY2).ext eY3) m8 oM hM hl3 t2 t5 t6 t8 ?_
  intro ts4 Y4 b10 s10 U hl4 t2 t5 t6 t10 eY4 m10 oU gh
  refine kg_E T (((q.ext eY2).ext eY3).ext eY4) ((eY3.trans eY4).some m6) (oD.ext (eY3.trans eY4)) hD m10 oU gh hd1 hl4 t2 t5 t6 t10 ?_
  intro ts5 Y5 hl5 t2 t5 t10 eY5
  exact kg_F T ((((q.ext eY2).ext eY3).ext eY4).ext eY5) (eY5.some m10) (oU.ext eY5) gh hd1 hl5 t2 t5 t10
end
end Go.Abs
