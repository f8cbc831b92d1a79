/- The law HorizonPicks, by the contracts; 'awake' stands as a hypothesis. No condition. -/
import Derived.Test.YtjhdkimkijhloaaGreatDoorPk5
import Derived.Test.YtjhdkimkijhloaaGreatDoorPk3
set_option linter.all false
namespace Go.Abs

theorem HorsOk.of_list {h : AHeap} {L L' : List (Hor × AV)} {v : AV} (hm : L'.map (·.1) = L.map (·.1)) (hs : IsSl h v 3 (L'.map horRow)) (he : ∀ x ∈ L', IsSl h x.2 2 (x.1.picks.map pkRow)) (hl : L.length < 2 ^ 63)
    (ha : ∀ x ∈ L, x.1.picks.length < 2 ^ 63 ∧ x.1.name.length < 2 ^ 63) : HorsOk h L' v := by
  refine ⟨hs, ?_, fun x hx => ?_⟩
  · have := congrArg List.length hm; simp at this; omega
  · have : x.1 ∈ L.map (·.1) := by rw [← hm]; exact List.mem_map_of_mem hx
    obtain ⟨y, hy, hxy⟩ := List.mem_map.1 this
    have := ha y hy
    rw [hxy] at this
    exact ⟨he x hx, this.1, this.2⟩

section
variable {P : Program} (T : Tbl P) {h : AHeap}
include T

set_option maxHeartbeats 1000000 in
theorem r3 (haw : ∀ k, Ext h k → RCall P 15 [] k (fun v _ => v = .bool true)) {H : Hor} {s : AV} (o : HorOk h H s) {L : List (Hor × AV)} {l : AV} (ol : HorsOk h L l) (x : Int) :
    RCall P 3 [horA H s, l, .int .i64 x] h (fun v _ => v = .bool true) := by
  refine .of T.mix T.c3 ?_
  unfold fn3
  simp only [wset, hset, dset, Nat.reduceAdd, Nat.reduceMul, Nat.reduceLeDiff, Nat.reduceEqDiff, o.sl.one]
  refine WF.res T.c15 (haw _ (by repeat first | exact Ext.refl _ | refine Ext.app _ ?_)) ?_
  rintro _ g1 rfl
  simp only [wset, hset, dset, Nat.reduceAdd, Nat.reduceMul, Nat.reduceLeDiff, Nat.reduceEqDiff, Bool.not_true]
  refine WF.res2 T.c16 (r16 T (H := H) (o.sl.ext (by repeat first | exact Ext.refl _ | refine Ext.app _ ?_))) ?_
  rintro _ g2 rfl
  cases hsh : shortS H with
  | false =>
    simp only [wset, hset, dset, Nat.reduceAdd, Nat.reduceMul, Nat.reduceLeDiff, Nat.reduceEqDiff, Bool.not_false]
    refine WF.res2 T.c15 (haw _ (by repeat first | exact Ext.refl _ | refine Ext.app _ ?_)) ?_
    rintro _ g3 rfl
    simp only [wset, hset, dset, Nat.reduceAdd, Nat.reduceMul, Nat.reduceLeDiff, Nat.reduceEqDiff]
  | true =>
    simp only [wset, hset, dset, Nat.reduceAdd, Nat.reduceMul, Nat.reduceLeDiff, Nat.reduceEqDiff, Bool.not_true]
    refine WF.res2 T.c17 (r17 T (ol.sl.ext (by repeat first | exact Ext.refl _ | refine Ext.app _ ?_)) ol.len (fun x hx => (ol.all x hx).sl.ext (by repeat first | exact Ext.refl _ | refine Ext.app _ ?_))) ?_
    rintro _ g3 rfl
    cases hsa : shortAllS (L.map (·.1)) with
    | false =>
      simp only [wset, hset, dset, Nat.reduceAdd, Nat.reduceMul, Nat.reduceLeDiff, Nat.reduceEqDiff, Bool.not_false]
      refine WF.res2 T.c15 (haw _ (by repeat first | exact Ext.refl _ | refine Ext.app _ ?_)) ?_
      rintro _ g4 rfl
      simp only [wset, hset, dset, Nat.reduceAdd, Nat.reduceMul, Nat.reduceLeDiff, Nat.reduceEqDiff]
    | true =>
      simp only [wset, hset, dset, Nat.reduceAdd, Nat.reduceMul, Nat.reduceLeDiff, Nat.reduceEqDiff, Bool.not_true]
      have hp : H.picks.length ≤ 2 ^ 40 := by simp [shortS] at hsh; omega
      have hL : L.length ≤ 2 ^ 40 ∧ ∀ x ∈ L, x.1.picks.length ≤ 2 ^ 40 := by
        simp only [shortAllS, Bool.and_eq_true, List.all_eq_true, List.length_map, Bool.or_eq_true, decide_eq_true_eq] at hsa
        refine ⟨by omega, fun x hx => ?_⟩
        have := hsa.1 x.1 (List.mem_map_of_mem hx)
        simp [shortS] at this; omega
      refine WF.res2 T.c19 (r19 T (H := H) (o.sl.ext (by repeat first | exact Ext.refl _ | refine Ext.app _ ?_)) hp) ?_
      rintro _ g4 ⟨s1, rfl, hs1⟩
      simp only [wset, hset, dset, Nat.reduceAdd, Nat.reduceMul, Nat.reduceLeDiff, Nat.reduceEqDiff]
      refine WF.res2 T.c18 (r18 T (H := H) ⟨hs1.isSl, o.len, o.nm⟩ x) ?_
      rintro _ g5 rfl
      simp only [wset, hset, dset, Nat.reduceAdd, Nat.reduceMul, Nat.reduceLeDiff, Nat.reduceEqDiff, o.sl.one]
      refine WF.res T.c19 (r19 T (H := H) (o.sl.ext (by repeat first | exact Ext.refl _ | refine Ext.app _ ?_)) hp) ?_
      rintro _ g6 ⟨s2, rfl, hs2⟩
      simp only [wset, hset, dset, Nat.reduceAdd, Nat.reduceMul, Nat.reduceLeDiff, Nat.reduceEqDiff]
      refine WF.res2 T.c20 (r20 T (H := H) ⟨hs2.isSl, o.len, o.nm⟩ x) ?_
      rintro _ g7 rfl
      simp only [wset, hset, dset, Nat.reduceAdd, Nat.reduceMul, Nat.reduceLeDiff, Nat.reduceEqDiff, o.sl.one]
      refine WF.res T.c21 (r21 T (H := H) (o.sl.ext (by repeat first | exact Ext.refl _ | refine Ext.app _ ?_)) o.len o.nm) ?_
      rintro _ g8 rfl
      by_cases hbad : chkHorS H = 0
      · have v := horV_iff.1 hbad
        have e12 : whenS (!hasS H x) 14 = chkPlaceS H x := by rw [chkPlaceS, if_pos hbad]
        simp only [wset, hset, dset, Nat.reduceAdd, Nat.reduceMul, Nat.reduceLeDiff, Nat.reduceEqDiff, eq_true hbad, decide_true]
        refine WF.res T.c23 (r23 T (H := H) (o.ext (by repeat first | exact Ext.refl _ | refine Ext.app _ ?_)) v.ne x) ?_
        rintro _ g9 rfl
        simp only [wset, hset, dset, Nat.reduceAdd, Nat.reduceMul, Nat.reduceLeDiff, Nat.reduceEqDiff]
        refine WF.res2 T.c22 (r22 T _ _) ?_
        rintro _ g10 rfl
        rw [e12]
        by_cases hone : chkPlaceS H x = 0
        · have hh := (chkPlace_zero hone).2
          simp only [wset, hset, dset, Nat.reduceAdd, Nat.reduceMul, Nat.reduceLeDiff, Nat.reduceEqDiff, eq_true hone, decide_true]
          refine WF.res2 T.c24 (r24 T (H := H) (o.ext (by repeat first | exact Ext.refl _ | refine Ext.app _ ?_)) v hh) ?_
          rintro _ g11 rfl
          simp only [wset, hset, dset, Nat.reduceAdd, Nat.reduceMul, Nat.reduceLeDiff, Nat.reduceEqDiff]
          refine WF.res2 T.c25 (r25 T (H := H) (o.ext (by repeat first | exact Ext.refl _ | refine Ext.app _ ?_)) v hh) ?_
          rintro _ g12 rfl
          simp only [wset, hset, dset, Nat.reduceAdd, Nat.reduceMul, Nat.reduceLeDiff, Nat.reduceEqDiff]
          simp (disch := first | (simp only [List.length_append, List.length_cons, List.length_nil] <;> omega) | rfl | fail) only [kset, wset, hset, dset, Nat.reduceAdd, Nat.reduceMul, Nat.reduceLeDiff, Nat.reduceEqDiff]
          simp only [wset, hset, dset, Nat.reduceAdd, Nat.reduceMul, Nat.reduceLeDiff, Nat.reduceEqDiff]
          simp (disch := first | (simp only [List.length_append, List.length_cons, List.length_nil] <;> omega) | rfl | fail) only [kset, wset, hset, dset, Nat.reduceAdd, Nat.reduceMul, Nat.reduceLeDiff, Nat.reduceEqDiff]
          refine WF.res2 T.c19 (r19 T (H := H) (o.sl.ext (by repeat first | exact Ext.refl _ | refine Ext.app _ ?_)) hp) ?_
          rintro _ ga ⟨s3, rfl, hs3⟩
          simp only [wset, hset, dset, Nat.reduceAdd, Nat.reduceMul, Nat.reduceLeDiff, Nat.reduceEqDiff]
          refine WF.res2 T.c26 (r26 T (H := H) hs3.isSl o.len) ?_
          rintro _ gb rfl
          simp only [wset, hset, dset, Nat.reduceAdd, Nat.reduceMul, Nat.reduceLeDiff, Nat.reduceEqDiff, decide_true]
          refine WF.res2 T.c28 (r28 T (ol.sl.ext (by repeat first | exact Ext.refl _ | refine Ext.app _ ?_)) hL.1 (fun y hy => ⟨(ol.all y hy).sl.ext (by repeat first | exact Ext.refl _ | refine Ext.app _ ?_), hL.2 y hy⟩)) ?_
          rintro v gc ⟨L', hm, hsl, hel⟩
          simp only [wset, hset, dset, Nat.reduceAdd, Nat.reduceMul, Nat.reduceLeDiff, Nat.reduceEqDiff]
          refine WF.res2 T.c27 (r27 T (HorsOk.of_list hm hsl hel ol.len (fun y hy => ⟨(ol.all y hy).len, (ol.all y hy).nm⟩))) ?_
          rintro _ gd rfl
          simp only [wset, hset, dset, Nat.reduceAdd, Nat.reduceMul, Nat.reduceLeDiff, Nat.reduceEqDiff]
          refine WF.res2 T.c29 (r29 T (ol.ext (by repeat first | exact Ext.refl _ | refine Ext.app _ ?_))) ?_
          rintro _ ge rfl
          rw [hm]
          simp only [wset, hset, dset, Nat.reduceAdd, Nat.reduceMul, Nat.reduceLeDiff, Nat.reduceEqDiff, decide_true, Bool.and_true, if_pos hone, if_true]
          simp (disch := first | (simp only [List.length_append, List.length_cons, List.length_nil] <;> omega) | rfl | fail) only [kset, wset, hset, dset, Nat.reduceAdd, Nat.reduceMul, Nat.reduceLeDiff, Nat.reduceEqDiff, decide_true, Bool.and_true]
        · simp only [wset, hset, dset, Nat.reduceAdd, Nat.reduceMul, Nat.reduceLeDiff, Nat.reduceEqDiff, eq_false hone, decide_false]
          refine WF.res2 T.c19 (r19 T (H := H) (o.sl.ext (by repeat first | exact Ext.refl _ | refine Ext.app _ ?_)) hp) ?_
          rintro _ ga ⟨s3, rfl, hs3⟩
          simp only [wset, hset, dset, Nat.reduceAdd, Nat.reduceMul, Nat.reduceLeDiff, Nat.reduceEqDiff]
          refine WF.res2 T.c26 (r26 T (H := H) hs3.isSl o.len) ?_
          rintro _ gb rfl
          simp only [wset, hset, dset, Nat.reduceAdd, Nat.reduceMul, Nat.reduceLeDiff, Nat.reduceEqDiff, decide_true]
          refine WF.res2 T.c28 (r28 T (ol.sl.ext (by repeat first | exact Ext.refl _ | refine Ext.app _ ?_)) hL.1 (fun y hy => ⟨(ol.all y hy).sl.ext (by repeat first | exact Ext.refl _ | refine Ext.app _ ?_), hL.2 y hy⟩)) ?_
          rintro v gc ⟨L', hm, hsl, hel⟩
          simp only [wset, hset, dset, Nat.reduceAdd, Nat.reduceMul, Nat.reduceLeDiff, Nat.reduceEqDiff]
          refine WF.res2 T.c27 (r27 T (HorsOk.of_list hm hsl hel ol.len (fun y hy => ⟨(ol.all y hy).len, (ol.all y hy).nm⟩))) ?_
          rintro _ gd rfl
          simp only [wset, hset, dset, Nat.reduceAdd, Nat.reduceMul, Nat.reduceLeDiff, Nat.reduceEqDiff]
          refine WF.res2 T.c29 (r29 T (ol.ext (by repeat first | exact Ext.refl _ | refine Ext.app _ ?_))) ?_
          rintro _ ge rfl
          rw [hm]
          simp only [wset, hset, dset, Nat.reduceAdd, Nat.reduceMul, Nat.reduceLeDiff, Nat.reduceEqDiff, decide_true, Bool.and_true, if_neg hone, if_false]
      · have e1 : chkPlaceS H x = chkHorS H := by rw [chkPlaceS, if_neg hbad]
        simp only [wset, hset, dset, Nat.reduceAdd, Nat.reduceMul, Nat.reduceLeDiff, Nat.reduceEqDiff, eq_false hbad, decide_false]
        rw [e1]
        refine WF.res T.c19 (r19 T (H := H) (o.sl.ext (by repeat first | exact Ext.refl _ | refine Ext.app _ ?_)) hp) ?_
        rintro _ ga ⟨s3, rfl, hs3⟩
        simp only [wset, hset, dset, Nat.reduceAdd, Nat.reduceMul, Nat.reduceLeDiff, Nat.reduceEqDiff]
        refine WF.res2 T.c26 (r26 T (H := H) hs3.isSl o.len) ?_
        rintro _ gb rfl
        simp only [wset, hset, dset, Nat.reduceAdd, Nat.reduceMul, Nat.reduceLeDiff, Nat.reduceEqDiff, decide_true]
        refine WF.res2 T.c28 (r28 T (ol.sl.ext (by repeat first | exact Ext.refl _ | refine Ext.app _ ?_)) hL.1 (fun y hy => ⟨(ol.all y hy).sl.ext (by repeat first | exact Ext.refl _ | refine Ext.app _ ?_), hL.2 y hy⟩)) ?_
        rintro v gc ⟨L', hm, hsl, hel⟩
        simp only [wset, hset, dset, Nat.reduceAdd, Nat.reduceMul, Nat.reduceLeDiff, Nat.reduceEqDiff]
        refine WF.res2 T.c27 (r27 T (HorsOk.of_list hm hsl hel ol.len (fun y hy => ⟨(ol.all y hy).len, (ol.all y hy).nm⟩))) ?_
        rintro _ gd rfl
        simp only [wset, hset, dset, Nat.reduceAdd, Nat.reduceMul, Nat.reduceLeDiff, Nat.reduceEqDiff]
        refine WF.res2 T.c29 (r29 T (ol.ext (by repeat first | exact Ext.refl _ | refine Ext.app _ ?_))) ?_
        rintro _ ge rfl
        rw [hm]
        simp only [wset, hset, dset, Nat.reduceAdd, Nat.reduceMul, Nat.reduceLeDiff, Nat.reduceEqDiff, decide_true, Bool.and_true, if_neg hbad, if_false]
end
end Go.Abs
