import Derived.Test.YtjhdkimkijhloaaGreatDoorBk5
set_option linter.all false
open Nat (reduceAdd reduceMul reduceLeDiff reduceEqDiff)
namespace Go.Abs
structure WOk (L : List (Hor × AV)) (w : Wl) : Prop where
  h0 : 0 ≤ w.hor
  hl : w.hor < L.length
  ok : ∀ y ∈ L.take (w.hor.toNat + 1), hasS y.1 w.place = true
  d : 0 ≤ w.depth ∧ w.depth ≤ 100000000
  e : 0 ≤ w.err ∧ w.err ≤ 100000000
theorem wells_zero : ∀ {L : List Hor} {W : List Wl}, chkWellsLS L W = 0 → ∀ w ∈ W, well1S L w = 0 ∧ well2S L w = 0
  | _, [], _, w, hw => by simp at hw
  | L, a :: r, h, w, hw => by
    unfold chkWellsLS at h
    split at h
    · split at h
      · rename_i h1 h2
        rcases List.mem_cons.1 hw with rfl | hw
        · exact ⟨h1, h2⟩
        · exact wells_zero h w hw
      · rename_i h2; exact absurd h h2
    · rename_i h1; exact absurd h h1
theorem WOk.of {L : List (Hor × AV)} {w : Wl} (h1 : well1S (L.map (·.1)) w = 0) (h2 : well2S (L.map (·.1)) w = 0) : WOk L w := by
  unfold well1S at h1
  unfold well2S at h2
  rw [firstS_zero] at h1 h2
  simp only [List.mem_cons, List.not_mem_nil, or_false, forall_eq_or_imp, forall_eq, rangeS_zero, whenS_zero (show (10 : Int) ≠ 0 by decide), whenS_zero (show (14 : Int) ≠ 0 by decide), Bool.or_eq_false_iff, decide_eq_false_iff_not, List.length_map] at h1 h2
  refine ⟨by omega, by omega, fun y hy => ?_, h2.1, h2.2.1⟩
  have := h2.2.2
  simp only [Bool.not_eq_false', allHasS, List.all_eq_true] at this
  exact this y.1 (by rw [← List.map_take]; exact List.mem_map_of_mem hy)
theorem wells_ok {L : List (Hor × AV)} {V : List (Int × Int)} {W : List Wl} (h : chkWellsS (L.map (·.1)) V W = 0) : chkVelS (L.map (·.1)) V = 0 ∧ W.length ≤ 16 ∧ ∀ w ∈ W, WOk L w := by
  unfold chkWellsS at h
  split at h
  · rename_i h1
    unfold wellHeadS at h1
    rw [firstS_zero] at h1
    have a := h1 _ List.mem_cons_self
    have b := h1 _ (List.mem_cons_of_mem _ (List.mem_singleton_self _))
    rw [whenS_zero (by decide)] at b
    simp only [decide_eq_false_iff_not] at b
    exact ⟨a, by omega, fun w hw => .of (wells_zero h w hw).1 (wells_zero h w hw).2⟩
  · rename_i h1; exact absurd h h1
def badS (L : List Hor) (V : List (Int × Int)) (f : Int) (w : Wl) : Bool :=
  decide (f * (depthAtS L V w.hor.toNat w.place).2 < 1024 * (w.depth - w.err)) || decide (1024 * (w.depth + w.err) < f * (depthAtS L V w.hor.toNat w.place).1)
def facLoop (ok : Int → Bool) : Nat → Int → (Int × Int) → (Int × Int)
  | 0, _, out => out
  | n + 1, f, out => facLoop ok n (f + 1) (if ok f then (min out.1 f, max out.2 f) else out)
def facS (L : List Hor) (V : List (Int × Int)) (W : List Wl) : Int × Int := facLoop (fun f => !W.any (badS L V f)) 1537 512 (2049, 511)
def factorsS (L : List Hor) (V : List (Int × Int)) (W : List Wl) : (Int × Int) × Int :=
  if chkWellsS L V W = 0 then (if (facS L V W).2 < (facS L V W).1 then ((0, 0), 18) else (facS L V W, 0)) else ((0, 0), chkWellsS L V W)
theorem depthAt_bd {L : List (Hor × AV)} {V : List (Int × Int)} (hv : chkVelS (L.map (·.1)) V = 0) {w : Wl} (o : WOk L w) : 0 ≤ (depthAtS (L.map (·.1)) V w.hor.toNat w.place).1 ∧ (depthAtS (L.map (·.1)) V w.hor.toNat w.place).1 ≤ 300000000000 ∧ 0 ≤ (depthAtS (L.map (·.1)) V w.hor.toNat w.place).2 ∧ (depthAtS (L.map (·.1)) V w.hor.toNat w.place).2 ≤ 300000000000 := by
  have z := vel_zero hv
  simp only [List.length_map] at z
  have h0 := o.h0
  have hl := o.hl
  have hlen : (depthsS (0, 0) (0, 0) (((L.map (·.1)).take (w.hor.toNat + 1)).zip (V.take (w.hor.toNat + 1))) w.place).length = w.hor.toNat + 1 := by
    rw [depthsS_len]; simp; omega
  unfold depthAtS
  rw [List.getD_eq_getElem?_getD, List.getElem?_eq_getElem (show w.hor.toNat < _ by omega), Option.getD_some]
  have := depthsS_bd (r := ((L.map (·.1)).take (w.hor.toNat + 1)).zip (V.take (w.hor.toNat + 1))) (a := (0, 0)) (d := (0, 0)) (x := w.place) (B := 0) (fun y hy => by
    have h1 := List.of_mem_zip hy
    have h2 := List.mem_of_mem_take h1.2
    have h3 : y.1 ∈ (L.take (w.hor.toNat + 1)).map (·.1) := by rw [List.map_take]; exact h1.1
    obtain ⟨u, hu, hu1⟩ := List.mem_map.1 h3
    have h4 := z.2.2.2 _ h2
    exact ⟨z.1 _ (List.mem_of_mem_take h1.1), hu1 ▸ o.ok u hu, h4.1, h4.2.1, h4.2.2.1, h4.2.2.2.1⟩) (by decide) (by decide) _ (List.getElem_mem (show w.hor.toNat < _ by omega))
  have hz : (((L.map (·.1)).take (w.hor.toNat + 1)).zip (V.take (w.hor.toNat + 1))).length ≤ 8 := by simp; omega
  omega
theorem blk_ld {h k : AHeap} {b : Nat} {K : ABlk} (hb : h[b]? = some K) {n : Option Nat} {o : Nat} (e : Ext h k) : loadF n (.ptr b o) (fun z => k[z]?) = ldB n o K := loadF_at (e.some hb)
section
variable {P : Program} (T : Tbl P) {h : AHeap}
include T
theorem r125 {L : List (Hor × AV)} {s : AV} (o : HorsOk h L s) {V : List (Int × Int)} {sv : AV} (hv : IsSl h sv 2 (V.map ratRow)) (hz : chkVelS (L.map (·.1)) V = 0) {w : Wl} (ow : WOk L w) {f : Int} (hf : 0 ≤ f ∧ f ≤ 4096)
    {bl bv bf : Nat} (hl : h[bl]? = some (.cells [s] true false)) (hvb : h[bv]? = some (.cells [sv] true false)) (hfb : h[bf]? = some (.cells [.int .i64 f] true false)) :
    RCall P 125 [wlA w, .ptr bl 0, .ptr bv 0, .ptr bf 0] h (fun v _ => v = .bool (badS (L.map (·.1)) V f w)) := by
  refine .of T.mix T.c125 ?_
  unfold fn125
  have z := vel_zero hz
  have hVl : V.length = L.length := by have := z.2.2.1; simpa using this
  have hL8 : L.length ≤ 8 := by have := z.2.1; simpa using this
  have h0 := ow.h0
  have hbd := depthAt_bd hz ow
  have m1 := mul_bd (a := f) (b := (depthAtS (L.map (·.1)) V w.hor.toNat w.place).2) (A := 4096) (B := 300000000000) hf (by omega)
  have m2 := mul_bd (a := f) (b := (depthAtS (L.map (·.1)) V w.hor.toNat w.place).1) (A := 4096) (B := 300000000000) hf (by omega)
  have hd := ow.d
  have he := ow.e
  simp only [wset, hset, dset, bset, reduceAdd, reduceMul, reduceLeDiff, reduceEqDiff, blk_ld hl, blk_ld hvb, blk_ld hfb]
  refine WF.res T.c121 (r121 T (o.ext (by repeat first | exact Ext.refl _ | refine Ext.app _ ?_)) (hv.ext (by repeat first | exact Ext.refl _ | refine Ext.app _ ?_)) hVl hL8 (w := w) (j := w.hor.toNat) (by omega) (by have := ow.hl; omega) (fun y hy => ⟨z.1 _ (List.mem_map_of_mem (List.mem_of_mem_take hy)), ow.ok y hy⟩) (fun y hy => by have := z.2.2.2 y hy; omega) hd he) ?_
  rintro _ g1 rfl
  simp only [wset, hset, dset, bset, reduceAdd, reduceMul, reduceLeDiff, reduceEqDiff, blk_ld hfb, iada_0 (show 0 < 2 by decide), iada_1 (show 1 < 2 by decide)]
  simp only [wrap_in (n := f * (depthAtS (L.map (·.1)) V w.hor.toNat w.place).2) (by omega) (by omega), wrap_in (n := 1024 * (w.depth - w.err)) (by omega) (by omega)]
  by_cases c1 : f * (depthAtS (L.map (·.1)) V w.hor.toNat w.place).2 < 1024 * (w.depth - w.err)
  · simp only [wset, hset, dset, bset, reduceAdd, reduceMul, reduceLeDiff, reduceEqDiff, eq_true c1, decide_true]
    rw [badS, decide_eq_true c1]; rfl
  · simp only [wset, hset, dset, bset, reduceAdd, reduceMul, reduceLeDiff, reduceEqDiff, eq_false c1, decide_false, blk_ld hfb, iada_0 (show 0 < 2 by decide), iada_1 (show 1 < 2 by decide)]
    simp only [wrap_in (n := f * (depthAtS (L.map (·.1)) V w.hor.toNat w.place).1) (by omega) (by omega), wrap_in (n := 1024 * (w.depth + w.err)) (by omega) (by omega)]
    rw [badS, decide_eq_false c1]; rfl
theorem r123 {L : List (Hor × AV)} {s : AV} (o : HorsOk h L s) {V : List (Int × Int)} {sv : AV} (hv : IsSl h sv 2 (V.map ratRow)) (hz : chkVelS (L.map (·.1)) V = 0) {W : List Wl} {sw : AV} (hw : IsSl h sw 4 (W.map wlRow)) (hwl : W.length ≤ 16) (ow : ∀ w ∈ W, WOk L w) {f : Int} (hf : 0 ≤ f ∧ f ≤ 4096)
    {bl bv bw : Nat} (hl : h[bl]? = some (.cells [s] true false)) (hvb : h[bv]? = some (.cells [sv] true false)) (hwb : h[bw]? = some (.cells [sw] true false)) :
    RCall P 123 [.int .i64 f, .ptr bw 0, .ptr bl 0, .ptr bv 0] h (fun v _ => v = .bool (!W.any (badS (L.map (·.1)) V f))) := by
  refine .of T.mix T.c123 ?_
  unfold fn123
  simp only [wset, hset, dset, bset, reduceAdd, reduceMul, reduceLeDiff, reduceEqDiff, blk_ld hwb]
  have hff : ∀ w, w ∈ W → ∀ k, Ext (h ++ [ABlk.cells [.int .i64 f] true false]) k → VCall P (.func (.func 125) [] [.ptr bl 0, .ptr bv 0, .ptr h.length 0]) [.agg (wlRow w)] k (fun v _ => v = .bool (badS (L.map (·.1)) V f w)) := fun w hwm k e => by
    have e' : Ext h k := Ext.trans ⟨_, rfl⟩ e
    exact VCall.of T.c125 (r125 T (o.ext e') (hv.ext e') hz (ow w hwm) hf (e'.some hl) (e'.some hvb) (e.some at_new))
  have hlt : W.length < 2 ^ 63 := by omega
  have hw' : IsSl (h ++ [ABlk.cells [.int .i64 f] true false]) sw 4 (W.map wlRow) := hw.app _
  have hcf := @r124 P T (h ++ [ABlk.cells [.int .i64 f] true false]) Wl wlRow W sw (.func (.func 125) [] [.ptr bl 0, .ptr bv 0, .ptr h.length 0]) hw' hlt (badS (L.map (·.1)) V f)
  refine WF.res T.c124 (hcf hff) ?_
  rintro _ g1 rfl
  simp only [wset, hset, dset, bset, reduceAdd, reduceMul, reduceLeDiff, reduceEqDiff]
theorem r45 {L : List (Hor × AV)} {s : AV} (o : HorsOk h L s) {V : List (Int × Int)} {sv : AV} (hv : IsSl h sv 2 (V.map ratRow)) (hvl : V.length ≤ 2 ^ 40) {W : List Wl} {sw : AV} (hw : IsSl h sw 4 (W.map wlRow)) :
    RCall P 45 [s, sv, sw] h (fun v _ => v = .tup [ratA (factorsS (L.map (·.1)) V W).1, .int .i64 (factorsS (L.map (·.1)) V W).2]) := by
  refine .of T.mix T.c45 ?_
  unfold fn45
  have b1 : ∀ N, boxF s N = some (.ptr N 0, .push (.cells [s] true false)) := fun N => by simp only [boxF, o.sl.cells]; rw [if_pos (by simp [o.sl.one])]
  have b2 : ∀ N, boxF sv N = some (.ptr N 0, .push (.cells [sv] true false)) := fun N => by simp only [boxF, hv.cells]; rw [if_pos (by simp [hv.one])]
  have b3 : ∀ N, boxF sw N = some (.ptr N 0, .push (.cells [sw] true false)) := fun N => by simp only [boxF, hw.cells]; rw [if_pos (by simp [hw.one])]
  simp only [wset, hset, dset, bset, reduceAdd, reduceMul, reduceLeDiff, reduceEqDiff, b1, b2, b3]
  refine WF.res T.c120 (r120 T (o.ext (by repeat first | exact Ext.refl _ | refine Ext.app _ ?_)) (hv.ext (by repeat first | exact Ext.refl _ | refine Ext.app _ ?_)) hvl (hw.ext (by repeat first | exact Ext.refl _ | refine Ext.app _ ?_))) ?_
  rintro _ g1 rfl
  simp only [wset, hset, dset, bset, reduceAdd, reduceMul, reduceLeDiff, reduceEqDiff, wsplit]
  refine ⟨fun h1 => by rw [factorsS, if_neg h1], fun h1 => ?_⟩
  have h1' := Decidable.of_not_not h1
  have wk := wells_ok h1'
  have hfc : factorsS (L.map (·.1)) V W = if (facS (L.map (·.1)) V W).2 < (facS (L.map (·.1)) V W).1 then ((0, 0), 18) else (facS (L.map (·.1)) V W, 0) := by rw [factorsS, if_pos h1']
  refine WL.inv T.mix (fun n ts h' => ∃ (k : Nat) (out : Int × Int) (g : AHeap), k ≤ 1537 ∧ n = 1537 - k ∧ h' = h ++ [ABlk.cells [s] true false] ++ [ABlk.cells [sv] true false] ++ [ABlk.cells [sw] true false] ++ [ABlk.cells [AV.int .i64 0, AV.int .i64 0] true false] ++ g1 ++ [ABlk.cells [AV.int .i64 out.1, AV.int .i64 out.2] true false] ++ g ∧ facS (L.map (·.1)) V W = facLoop (fun f => !W.any (badS (L.map (·.1)) V f)) (1537 - k) (512 + k) out ∧ ts.length = 45 ∧ slot ts 6 = .ptr (h ++ [ABlk.cells [s] true false] ++ [ABlk.cells [sv] true false] ++ [ABlk.cells [sw] true false]).length 0 ∧ slot ts 9 = .ptr (h ++ [ABlk.cells [s] true false] ++ [ABlk.cells [sv] true false] ++ [ABlk.cells [sw] true false] ++ [ABlk.cells [AV.int .i64 0, AV.int .i64 0] true false] ++ g1).length 0 ∧ slot ts 10 = .func (.func 123) [] [.ptr (h ++ [ABlk.cells [s] true false] ++ [ABlk.cells [sv] true false]).length 0, .ptr h.length 0, .ptr (h ++ [ABlk.cells [s] true false]).length 0] ∧ slot ts 11 = .int .i64 (512 + k)) 1537
    ⟨0, (2049, 511), [], by omega, rfl, by rw [List.append_nil], rfl, rfl, rfl, rfl, rfl, rfl⟩ ?_
  rintro _ ts _ ⟨k, out, g, hk, rfl, rfl, hi, hlen, t6, t9, t10, t11⟩
  rw [expl ts 45 hlen]
  by_cases hlt : k < 1537
  · have e3 : (512 : Int) + k ≤ 2048 := by omega
    have hstep : facLoop (fun f => !W.any (badS (L.map (·.1)) V f)) (1537 - k) (512 + k) out = facLoop (fun f => !W.any (badS (L.map (·.1)) V f)) (1537 - (k + 1)) (512 + ((k + 1 : Nat) : Int)) (if (!W.any (badS (L.map (·.1)) V (512 + k))) then (min out.1 (512 + k), max out.2 (512 + k)) else out) := by
      rw [show 1537 - k = (1537 - (k + 1)) + 1 by omega, facLoop, show (512 : Int) + k + 1 = 512 + ((k + 1 : Nat) : Int) by omega]
    simp only [wset, hset, dset, bset, reduceAdd, reduceMul, reduceLeDiff, reduceEqDiff, t6, t9, t10, t11, e3, decide_true]
    refine WF.res2 T.c123 (r123 T (o.ext (by repeat first | exact Ext.refl _ | refine Ext.app _ ?_)) (hv.ext (by repeat first | exact Ext.refl _ | refine Ext.app _ ?_)) wk.1 (hw.ext (by repeat first | exact Ext.refl _ | refine Ext.app _ ?_)) wk.2.1 wk.2.2 (f := 512 + k) (by omega) (bl := h.length) (bv := (h ++ [ABlk.cells [s] true false]).length) (bw := (h ++ [ABlk.cells [s] true false] ++ [ABlk.cells [sv] true false]).length) at_6 at_5 at_4) ?_
    rintro _ g2 rfl
    cases hb : !W.any (badS (L.map (·.1)) V (512 + k)) with
    | true =>
      rw [hb] at hstep
      simp only [wset, hset, dset, bset, reduceAdd, reduceMul, reduceLeDiff, reduceEqDiff, t6, t9, t10, t11, wrap_in (n := (512 : Int) + k + 1) (by omega) (by omega)]
      refine ⟨_, ?_, k + 1, (min out.1 (512 + k), max out.2 (512 + k)), g2, by omega, rfl, rfl, ?_, ?_⟩
      · omega
      · rw [hi, hstep]; rfl
      · exact congrArg (AV.int .i64) (by omega)
    | false =>
      rw [hb] at hstep
      simp only [wset, hset, dset, bset, reduceAdd, reduceMul, reduceLeDiff, reduceEqDiff, t6, t9, t10, t11, wrap_in (n := (512 : Int) + k + 1) (by omega) (by omega)]
      refine ⟨_, ?_, k + 1, out, g2, by omega, rfl, rfl, ?_, ?_⟩
      · omega
      · rw [hi, hstep]; rfl
      · exact congrArg (AV.int .i64) (by omega)
  · have e3 : ¬ (512 : Int) + k ≤ 2048 := by omega
    have e4 : k = 1537 := by omega
    have hi' : facS (L.map (·.1)) V W = out := by rw [hi, e4]; rfl
    rw [hi'] at hfc
    simp only [wset, hset, dset, bset, reduceAdd, reduceMul, reduceLeDiff, reduceEqDiff, t6, t9, t10, t11, e3, decide_false, if_true]
    by_cases hc : out.2 < out.1
    · simp only [wset, hset, dset, bset, reduceAdd, reduceMul, reduceLeDiff, reduceEqDiff, eq_true hc, decide_true]
      rw [hfc, if_pos hc]
    · simp only [wset, hset, dset, bset, reduceAdd, reduceMul, reduceLeDiff, reduceEqDiff, eq_false hc, decide_false]
      rw [hfc, if_neg hc]
end
end Go.Abs
