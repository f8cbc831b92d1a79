import Derived.Test.YtjhdkimkijhloaaGreatDoorBk13
import Derived.Lib.ItoaNum
import Derived.Lib.ItoaLen
import Derived.Lib.Join
import Derived.Lib.ItoaMem
import Derived.Laws.Externs
import Derived.Test.YtjhdkimkijhloaaGreatDoorBk6
import Derived.Test.YtjhdkimkijhloaaGreatDoorBk11
import Derived.Test.YtjhdkimkijhloaaGreatDoorBk12
import Derived.Test.YtjhdkimkijhloaaGreatDoorBk5
set_option linter.all false
open Nat (reduceAdd reduceMul reduceLeDiff reduceEqDiff)
namespace Go.Abs
attribute [local irreducible] WP WC WE WB WR WF WL WG WRg
section
variable {P : Program} (T : Tbl P) {h0 g : AHeap}
include T
end
end Go.Abs
namespace Go.Abs
attribute [local irreducible] WP WC WE WB WR WF WL WG WRg
section
variable {P : Program} (T : Tbl P) {h : AHeap}
include T
end
end Go.Abs
namespace Go.Abs
def Pw (h : AHeap) : Prop := ∃ mu tl, h[2]? = some (.cells (Lib.pow10Tab.map (AV.int .u64)) mu tl)
theorem Pw.ext {h k : AHeap} (o : Pw h) (e : Ext h k) : Pw k := by
  obtain ⟨mu, tl, hb⟩ := o; exact ⟨mu, tl, e.some hb⟩
structure Prt (P : Program) : Prop where
  itoa : ∀ {h : AHeap} {n : Int}, -9223372036854775808 ≤ n → n ≤ 9223372036854775807 → Pw h → RCall P 188 [.int .i64 n] h (fun v _ => v = .str (Lib.itoa n))
  join : ∀ {h : AHeap} {s : AV} {sep : List UInt8} {xs : List (List UInt8)}, IsSl h s 1 (xs.map strRow) → (Lib.join xs sep).length ≤ 140737488355328 ∧ xs.length ≤ 140737488355328 → RCall P 149 [s, .str sep] h (fun v _ => v = .str (Lib.join xs sep))
def dcS (n : Int) : List UInt8 := Lib.decDigits n.toNat
theorem itoa_pos {n : Int} (h : 0 ≤ n) : Lib.itoa n = dcS n := by unfold Lib.itoa dcS; rw [if_neg (by omega)]
theorem dec_len : ∀ {k u : Nat}, u < 10 ^ (k + 1) → (Lib.decDigits u).length ≤ k + 1
  | 0, u, h => by rw [Lib.decDigits, dif_pos (by simpa using h)]; simp
  | k + 1, u, h => by
    by_cases hu : u < 10
    · rw [Lib.decDigits, dif_pos hu]; simp
    · rw [Lib.decDigits, dif_neg hu, List.length_append]
      have := dec_len (k := k) (u := u / 10) (by rw [Nat.pow_succ] at h; omega)
      simp; omega
theorem dcS_len {n : Int} (h1 : n ≤ 1000000) : (dcS n).length ≤ 7 := dec_len (k := 6) (by omega)
def pkTx (p : Pk) : List UInt8 := [112, 105, 99, 107, 32] ++ dcS p.1 ++ [32] ++ dcS p.2 ++ [10]
def hzTx (H : Hor) : List UInt8 := [104, 111, 114, 105, 122, 111, 110, 32] ++ H.name ++ [32] ++ dcS H.err ++ [10] ++ (H.picks.map pkTx).flatten
def txS (L : List Hor) : List UInt8 := (L.map hzTx).flatten
theorem join_e : ∀ {xs : List (List UInt8)}, Lib.join xs [] = xs.flatten
  | [] => rfl
  | x :: r => by rw [Lib.join_cons]; simp [Lib.joinTail]
theorem flat_le {α : Type} {F : α → List UInt8} {m : Nat} : ∀ {L : List α}, (∀ x ∈ L, (F x).length ≤ m) → (L.map F).flatten.length ≤ L.length * m
  | [], _ => by simp
  | x :: r, h => by
    have h1 := flat_le (L := r) fun y hy => h y (List.mem_cons_of_mem _ hy)
    have h2 := h x (by simp)
    rw [List.map_cons, List.flatten_cons, List.length_append, List.length_cons, Nat.succ_mul]; omega
structure HorT (H : Hor) : Prop where
  n0 : H.name.length ≤ 1000
  e0 : 0 ≤ H.err
  e1 : H.err ≤ 1000000
  pl : H.picks.length ≤ 1000
  pk : ∀ p ∈ H.picks, 0 ≤ p.1 ∧ p.1 ≤ 1000000 ∧ 0 ≤ p.2 ∧ p.2 ≤ 1000000
theorem pkTx_len {p : Pk} (h : p.1 ≤ 1000000 ∧ p.2 ≤ 1000000) : (pkTx p).length ≤ 21 := by
  have h1 := dcS_len h.1
  have h2 := dcS_len h.2
  unfold pkTx
  simp only [List.length_append, List.length_cons, List.length_nil]; omega
theorem hzTx_len {H : Hor} (o : HorT H) : (hzTx H).length ≤ 30000 := by
  have h1 := dcS_len o.e1
  have h2 := flat_le (F := pkTx) (m := 21) (L := H.picks) fun p hp => pkTx_len ⟨(o.pk p hp).2.1, (o.pk p hp).2.2.2⟩
  have h3 := o.n0
  have h4 := o.pl
  unfold hzTx
  simp only [List.length_append, List.length_cons, List.length_nil]; omega
attribute [local irreducible] WP WC WE WB WR WF WL WG WRg
section
variable {P : Program} (T : Tbl P) (K : Prt P) {h : AHeap}
include T K
set_option maxRecDepth 10000 in
theorem r190 {p : Pk} (hp : 0 ≤ p.1 ∧ p.1 ≤ 1000000 ∧ 0 ≤ p.2 ∧ p.2 ≤ 1000000) (w : Pw h) : RCall P 190 [.agg (pkRow p)] h (fun v _ => v = .str (pkTx p)) := by
  refine .of T.mix T.c190 ?_
  unfold fn190
  have h1 := dcS_len hp.2.1
  have h2 := dcS_len hp.2.2.2
  repeat (first | simp only [wset, hset, dset, bset, reduceAdd, reduceMul, reduceLeDiff, reduceEqDiff] | simp (disch := first | (simp only [List.length_append, List.length_cons, List.length_nil] <;> omega) | rfl | omega | fail) only [kset, wset, hset, dset, bset, reduceAdd, reduceMul, reduceLeDiff, reduceEqDiff])
  refine WF.res T.c188 (K.itoa (by omega) (by omega) (w.ext (by repeat first | with_reducible exact Ext.refl _ | refine Ext.app _ ?_))) ?_
  rintro _ g1 rfl
  rw [itoa_pos (by omega)]
  repeat (first | simp only [wset, hset, dset, bset, reduceAdd, reduceMul, reduceLeDiff, reduceEqDiff] | simp (disch := first | (simp only [List.length_append, List.length_cons, List.length_nil] <;> omega) | rfl | omega | fail) only [kset, wset, hset, dset, bset, reduceAdd, reduceMul, reduceLeDiff, reduceEqDiff, bin_cat])
  refine WF.res T.c188 (K.itoa (by omega) (by omega) (w.ext (by repeat first | with_reducible exact Ext.refl _ | refine Ext.app _ ?_))) ?_
  rintro _ g2 rfl
  rw [itoa_pos (by omega)]
  repeat (first | simp only [wset, hset, dset, bset, reduceAdd, reduceMul, reduceLeDiff, reduceEqDiff] | simp (disch := first | (simp only [List.length_append, List.length_cons, List.length_nil] <;> omega) | rfl | omega | fail) only [kset, wset, hset, dset, bset, reduceAdd, reduceMul, reduceLeDiff, reduceEqDiff, bin_cat])
  rfl
end
end Go.Abs
namespace Go.Abs
open Go.RowKit in
theorem join_ok {h : AHeap} {s : AV} {sep : List UInt8} {xs : List (List UInt8)} (hs : IsSl h s 1 (xs.map fun x => [AV.str x])) (hl : (Lib.join xs sep).length ≤ 140737488355328 ∧ xs.length ≤ 140737488355328) : SCall Go.Proofs.Tryz.prog 149 [s, .str sep] h (.str (Lib.join xs sep)) h := by
  intro m w vs hr hargs
  obtain ⟨v1, vs1, rfl, hv1, hr1⟩ := VRs_cons.1 hargs
  obtain ⟨v2, vs2, rfl, hv2, hr2⟩ := VRs_cons.1 hr1
  rw [VRs_nil] at hr2
  subst hr2
  rw [VR] at hv2
  subst hv2
  have fin : ∀ e w', (e = .returned (.string ⟨(Lib.join xs sep).toArray⟩) ∧ Below w.heap.size w w') → Rel Go.Proofs.Tryz.prog m h w (.str (Lib.join xs sep)) h e w' := by
    rintro e w' ⟨rfl, hb⟩
    exact ⟨_, m, rfl, rfl, ⟨hr.dom, fun b e k h1 h2 => (hr.blk b e k h1 h2).heap (hb.block _ (hr.lt b e h1)), hr.sep, hr.glob, fun b e h1 => Nat.lt_of_lt_of_le (hr.lt b e h1) hb.size⟩,
      ⟨fun _ _ => rfl, Nat.le_refl _, fun b e h1 h2 => absurd (hr.dom b e h2) (by omega), fun _ _ h => h, hb.size, hb.os, hb.output, hb.tape, fun i hi _ => hb.block i hi⟩⟩
  have zero : xs = [] → ∀ (a : Option Addr) (c : Nat), Calls Go.Proofs.Tryz.prog 149 #[.slice a 0 c, .string ⟨⟨sep⟩⟩] w (Rel Go.Proofs.Tryz.prog m h w (.str (Lib.join xs sep)) h) := fun hx a c => by
    refine (Go.Proofs.Tryz.strings_Join_none a c ⟨⟨sep⟩⟩ w).mono fun e w' ⟨he, hw⟩ => fin e w' ⟨?_, hw ▸ Below.refl _ _⟩
    rw [he, hx]; rfl
  have hlen := hs.lenm (fun _ => none)
  cases s with
  | nilSlice =>
    rw [VR] at hv1
    subst hv1
    simp only [Go.Abs.lenG, if_true, Option.some.injEq] at hlen
    exact zero (List.length_eq_zero_iff.1 hlen.symm) none 0
  | slice b o n es =>
    simp only [Go.Abs.lenG, if_true, Option.some.injEq] at hlen
    subst hlen
    rw [VR] at hv1
    obtain ⟨ent, ca, cap, he, rfl, hcap, hca, hsz⟩ := hv1
    by_cases hz : xs.length = 0
    · have hz' := List.length_eq_zero_iff.1 hz
      have := zero hz' (some ca) cap
      rw [hz]
      exact this
    · have hca' := hca (by omega)
      subst hca'
      generalize hcs : xs.map (fun x => [AV.str x]) = cs at hs
      have hcl : cs.length = xs.length := by rw [← hcs]; simp
      obtain ⟨_, c, mu, tl, hb, hf⟩ := hs.inv
      · obtain ⟨cc, el, fz, hheap, _, hcell, _⟩ := hr.blk b ent _ he hb
        have key := Go.Proofs.Tryz.strings_Join ent.cb (o + ent.d) cap (xs.map fun l => ⟨⟨l⟩⟩) ⟨⟨sep⟩⟩ w ?_ (hr.lt b ent he) (by rw [List.length_map]; exact hl.2) (by rw [List.length_map]; omega) ?_
        · rw [List.length_map] at key
          refine key.mono fun e w' ⟨he, hw⟩ => fin e w' ⟨?_, hw⟩
          rw [he, List.map_map]
          simp [Function.comp_def]
        · intro j x hx
          rw [List.getElem?_map, Option.map_eq_some_iff] at hx
          obtain ⟨l, hl', rfl⟩ := hx
          have hj : j < xs.length := (List.getElem?_eq_some_iff.1 hl').1
          have hflat : cs.flatten[j]? = some (.str l) := by
            rw [← hcs]
            have := strs_flat xs
            rw [this, List.getElem?_map, hl']; rfl
          rw [← hf, List.getElem?_take, if_pos (by omega), List.getElem?_drop] at hflat
          obtain ⟨_, cv, hcv, hvr⟩ := hcell _ _ hflat
          rw [VR] at hvr
          subst hvr
          simp only [World.cell?, hheap, Option.isSome_none, Bool.false_eq_true, if_false]
          rw [show o + ent.d + j = ent.d + (o + j) by omega]; exact hcv
        · rw [List.map_map]
          simpa [Function.comp_def] using hl.1
  | _ => cases hs
theorem prt : Prt Go.Proofs.Tryz.prog := by
  refine ⟨fun h0 h1 w => ?_, fun hs hl => ⟨_, [], by rw [List.append_nil]; exact join_ok hs hl, rfl⟩⟩
  obtain ⟨mu, tl, hb⟩ := w
  exact ⟨_, [], by rw [List.append_nil]; exact itoa_ok h0 h1 hb, rfl⟩
theorem xtn : Xtn Go.Proofs.Tryz.prog :=
  ⟨run_callFunc_extern Go.Proofs.Tryz.func231 (by kernel_rfl) (by kernel_rfl) (by kernel_rfl) (by kernel_rfl), run_callFunc_extern Go.Proofs.Tryz.func246 (by kernel_rfl) (by kernel_rfl) (by kernel_rfl) (by kernel_rfl)⟩
theorem pw0 {k : AHeap} (e : Ext glob0 k) : Pw k := ⟨_, _, e.some (show glob0[2]? = some (.cells (Lib.pow10Tab.map (AV.int .u64)) false false) from by kernel_rfl)⟩
end Go.Abs
namespace Go.Abs
attribute [local irreducible] WP WC WE WB WR WF WL WG WRg
section
variable {P : Program} (T : Tbl P) {h : AHeap}
include T
theorem r189 {L : List Pk} {s f : AV} (hs : IsSl h s 2 (L.map pkRow)) (hl : L.length ≤ 2 ^ 40) (F : Pk → List UInt8) (hf : ∀ x, x ∈ L → ∀ k, Ext h k → VCall P f [.agg (pkRow x)] k (fun v _ => v = .str (F x))) :
    RCall P 189 [s, f] h (fun v h' => IsSl h' v 1 ((L.map F).map strRow)) := by
  refine .of T.mix T.c189 ?_
  unfold fn189
  simp only [wset, hset, dset, bset, reduceAdd, reduceMul, reduceLeDiff, reduceEqDiff, hs.lenm]
  refine WL.inv T.mix (fun n ts h' => ∃ (k : Nat) (out : AV), k ≤ L.length ∧ n = L.length - k ∧ Ext h h' ∧ Fr h.length h' out 1 (((L.take k).map F).map strRow) ∧ ts.length = 22 ∧ slot ts 1 = f ∧ slot ts 5 = out ∧ slot ts 8 = s ∧ slot ts 9 = .int .i64 L.length ∧ slot ts 10 = .int .i64 k) L.length
    ⟨0, .nilSlice, by omega, rfl, Ext.refl h, .nil, rfl, rfl, rfl, rfl, rfl, rfl⟩ ?_
  rintro _ ts _ ⟨k, out, hk, rfl, ⟨g, rfl⟩, hfr, hlen, t1, t5, t8, t9, t10⟩
  rw [expl ts 22 hlen]
  by_cases hlt : k < L.length
  · have e3 : (k : Int) < L.length := by omega
    simp only [wset, hset, dset, bset, reduceAdd, reduceMul, reduceLeDiff, reduceEqDiff, t1, t5, t8, t9, t10, e3, decide_true, hs.ixm hlt, hs.ldm hlt]
    refine WF.val (hf L[k] (by simp) _ (by repeat first | exact Ext.refl _ | refine Ext.app _ ?_)) ?_
    rintro _ g1 rfl
    simp only [wset, hset, dset, bset, reduceAdd, reduceMul, reduceLeDiff, reduceEqDiff]
    refine WR.app1 (h0 := h) (cs := ((L.take k).map F).map strRow) (ys := [strRow (F L[k])]) ((((hfr.app _).app _).app _)) (Fr.push (N := 0) (Nat.zero_le _) [strRow (F L[k])] (by simp [strRow])).isSl (by decide) (by simp) (by simp; omega) (by simp only [eset]) ?_
    intro g' hl' hff hkp
    have hrow : ((L.take k).map F).map strRow ++ [strRow (F L[k])] = ((L.take (k + 1)).map F).map strRow := by rw [List.take_add_one, List.getElem?_eq_getElem hlt, List.map_append, List.map_append]; rfl
    rw [hrow] at hff
    rw [hrow]
    simp only [wset, hset, dset, bset, reduceAdd, reduceMul, reduceLeDiff, reduceEqDiff, t1, t5, t8, t9, t10, wrapN (show k + 1 < 2 ^ 63 by omega)]
    refine ⟨_, ?_, k + 1, _, by omega, rfl, hff, rfl, rfl⟩
    omega
  · have e3 : ¬ (k : Int) < L.length := by omega
    have e4 : k = L.length := by omega
    simp only [wset, hset, dset, bset, reduceAdd, reduceMul, reduceLeDiff, reduceEqDiff, t1, t5, t8, t9, t10, e3, decide_false, if_true]
    rw [e4, List.take_length] at hfr
    exact hfr.isSl
theorem r150 {L : List (Hor × AV)} {s f : AV} (hs : IsSl h s 3 (L.map horRow)) (ho : ∀ x ∈ L, x.2.one = true) (hl : L.length ≤ 2 ^ 40) (F : Hor × AV → List UInt8) (hf : ∀ x, x ∈ L → ∀ k, Ext h k → VCall P f [horA x.1 x.2] k (fun v _ => v = .str (F x))) :
    RCall P 150 [s, f] h (fun v h' => IsSl h' v 1 ((L.map F).map strRow)) := by
  refine .of T.mix T.c150 ?_
  unfold fn150
  simp only [wset, hset, dset, bset, reduceAdd, reduceMul, reduceLeDiff, reduceEqDiff, hs.lenm]
  refine WL.inv T.mix (fun n ts h' => ∃ (k : Nat) (out : AV), k ≤ L.length ∧ n = L.length - k ∧ Ext h h' ∧ Fr h.length h' out 1 (((L.take k).map F).map strRow) ∧ ts.length = 22 ∧ slot ts 1 = f ∧ slot ts 5 = out ∧ slot ts 8 = s ∧ slot ts 9 = .int .i64 L.length ∧ slot ts 10 = .int .i64 k) L.length
    ⟨0, .nilSlice, by omega, rfl, Ext.refl h, .nil, rfl, rfl, rfl, rfl, rfl, rfl⟩ ?_
  rintro _ ts _ ⟨k, out, hk, rfl, ⟨g, rfl⟩, hfr, hlen, t1, t5, t8, t9, t10⟩
  rw [expl ts 22 hlen]
  by_cases hlt : k < L.length
  · have e3 : (k : Int) < L.length := by omega
    have ldh : ∀ {kk : AHeap}, Ext h kk → loadF (some 3) (elp s 3 k) (fun b => kk[b]?) = some (horA L[k].1 L[k].2, .keep) := fun {kk} e => hs.ldm hlt e
    simp only [wset, hset, dset, bset, reduceAdd, reduceMul, reduceLeDiff, reduceEqDiff, t1, t5, t8, t9, t10, e3, decide_true, hs.ixm hlt, ldh, ho L[k] (by simp)]
    refine WF.val (hf L[k] (by simp) _ (by repeat first | exact Ext.refl _ | refine Ext.app _ ?_)) ?_
    rintro _ g1 rfl
    simp only [wset, hset, dset, bset, reduceAdd, reduceMul, reduceLeDiff, reduceEqDiff]
    refine WR.app1 (h0 := h) (cs := ((L.take k).map F).map strRow) (ys := [strRow (F L[k])]) ((((hfr.app _).app _).app _)) (Fr.push (N := 0) (Nat.zero_le _) [strRow (F L[k])] (by simp [strRow])).isSl (by decide) (by simp) (by simp; omega) (by simp only [eset]) ?_
    intro g' hl' hff hkp
    have hrow : ((L.take k).map F).map strRow ++ [strRow (F L[k])] = ((L.take (k + 1)).map F).map strRow := by rw [List.take_add_one, List.getElem?_eq_getElem hlt, List.map_append, List.map_append]; rfl
    rw [hrow] at hff
    rw [hrow]
    simp only [wset, hset, dset, bset, reduceAdd, reduceMul, reduceLeDiff, reduceEqDiff, t1, t5, t8, t9, t10, wrapN (show k + 1 < 2 ^ 63 by omega)]
    refine ⟨_, ?_, k + 1, _, by omega, rfl, hff, rfl, rfl⟩
    omega
  · have e3 : ¬ (k : Int) < L.length := by omega
    have e4 : k = L.length := by omega
    simp only [wset, hset, dset, bset, reduceAdd, reduceMul, reduceLeDiff, reduceEqDiff, t1, t5, t8, t9, t10, e3, decide_false, if_true]
    rw [e4, List.take_length] at hfr
    exact hfr.isSl
variable (K : Prt P)
include K
set_option maxRecDepth 10000 in
set_option maxHeartbeats 1000000 in
theorem r151 {H : Hor} {s : AV} (o : HorOk h H s) (v : HorT H) (w : Pw h) : RCall P 151 [horA H s] h (fun v _ => v = .str (hzTx H)) := by
  refine .of T.mix T.c151 ?_
  unfold fn151
  have h1 := dcS_len v.e1
  have h0 := v.n0
  have hfl := flat_le (F := pkTx) (m := 21) (L := H.picks) fun p hp => pkTx_len ⟨(v.pk p hp).2.1, (v.pk p hp).2.2.2⟩
  have hpl := v.pl
  repeat (first | simp only [wset, hset, dset, bset, reduceAdd, reduceMul, reduceLeDiff, reduceEqDiff, o.sl.one] | simp (disch := first | (simp only [List.length_append, List.length_cons, List.length_nil] <;> omega) | rfl | omega | fail) only [kset, wset, hset, dset, bset, reduceAdd, reduceMul, reduceLeDiff, reduceEqDiff, bin_cat, o.sl.one])
  refine WF.res T.c188 (K.itoa (by have := v.e0; omega) (by have := v.e1; omega) (w.ext (by repeat first | with_reducible exact Ext.refl _ | refine Ext.app _ ?_))) ?_
  rintro _ g1 rfl
  rw [itoa_pos v.e0]
  repeat (first | simp only [wset, hset, dset, bset, reduceAdd, reduceMul, reduceLeDiff, reduceEqDiff] | simp (disch := first | (simp only [List.length_append, List.length_cons, List.length_nil] <;> omega) | rfl | omega | fail) only [kset, wset, hset, dset, bset, reduceAdd, reduceMul, reduceLeDiff, reduceEqDiff, bin_cat])
  refine WF.res T.c189 (r189 T (o.sl.ext (by repeat first | with_reducible exact Ext.refl _ | refine Ext.app _ ?_)) (by omega) pkTx (fun x hx k e => VCall.of (a := []) (c := []) T.c190 (r190 T K (v.pk x hx) (w.ext (Ext.trans (by repeat first | with_reducible exact Ext.refl _ | refine Ext.app _ ?_) e))))) ?_
  rintro sv g2 hsv
  repeat (first | simp only [wset, hset, dset, bset, reduceAdd, reduceMul, reduceLeDiff, reduceEqDiff] | simp (disch := first | (simp only [List.length_append, List.length_cons, List.length_nil] <;> omega) | rfl | omega | fail) only [kset, wset, hset, dset, bset, reduceAdd, reduceMul, reduceLeDiff, reduceEqDiff, bin_cat])
  refine WF.res T.c149 (K.join hsv ?_) ?_
  · rw [join_e, List.length_map]; omega
  rintro _ g3 rfl
  rw [join_e]
  generalize hpt : (H.picks.map pkTx).flatten = pt at hfl ⊢
  repeat (first | simp only [wset, hset, dset, bset, reduceAdd, reduceMul, reduceLeDiff, reduceEqDiff] | simp (disch := first | (simp only [List.length_append, List.length_cons, List.length_nil] <;> omega) | rfl | omega | fail) only [kset, wset, hset, dset, bset, reduceAdd, reduceMul, reduceLeDiff, reduceEqDiff, bin_cat])
  rw [hzTx, hpt]
end
end Go.Abs
namespace Go.Abs
theorem horT_of {H : Hor} (v : HorV H) : HorT H := by
  refine ⟨?_, v.e0, by have := v.e1; omega, by have := v.le; omega, fun p hp => ?_⟩
  · have := v.nm
    cases hn : H.name with
    | nil => simp
    | cons c r =>
      rw [hn, nameS] at this
      simp only [Bool.and_eq_true, decide_eq_true_eq] at this
      simp; omega
  · obtain ⟨i, hi, rfl⟩ := List.getElem_of_mem hp
    have := v.ok.at hi
    omega
def printV (M : List Hor) : AV := if chkHorsS M = 0 then .tup [.str (txS M), .int .i64 0] else .tup [.str [], .int .i64 (chkHorsS M)]
attribute [local irreducible] WP WC WE WB WR WF WL WG WRg
section
variable {P : Program} (T : Tbl P) (K : Prt P) {h : AHeap}
include T
include K
set_option maxRecDepth 10000 in
theorem r84 {L : List (Hor × AV)} {s : AV} (o : HorsOk h L s) (w : Pw h) : RCall P 84 [s] h (fun v _ => v = printV (L.map Prod.fst)) := by
  refine .of T.mix T.c84 ?_
  unfold fn84
  simp only [wset, hset, dset, bset, reduceAdd, reduceMul, reduceLeDiff, reduceEqDiff]
  refine WF.res T.c27 (r27 T o) ?_
  rintro _ g1 rfl
  by_cases hc : chkHorsS (L.map Prod.fst) = 0
  · have d1 : decide (chkHorsS (L.map Prod.fst) ≠ 0) = false := decide_eq_false (by simp [hc])
    simp only [wset, hset, dset, bset, reduceAdd, reduceMul, reduceLeDiff, reduceEqDiff, d1]
    obtain ⟨hv, hl8⟩ := hors_zero hc
    have hT : ∀ x ∈ L, HorT x.1 := fun x hx => horT_of (hv x.1 (List.mem_map_of_mem hx))
    have hl8' : L.length ≤ 8 := by simpa using hl8
    refine WF.res T.c150 (r150 T (o.sl.ext (by repeat first | with_reducible exact Ext.refl _ | refine Ext.app _ ?_)) (fun x hx => (o.all x hx).sl.one) (by omega) (fun x => hzTx x.1) (fun x hx k e => VCall.of (a := []) (c := []) T.c151 (r151 T K ((o.all x hx).ext (Ext.trans (by repeat first | with_reducible exact Ext.refl _ | refine Ext.app _ ?_) e)) (hT x hx) (w.ext (Ext.trans (by repeat first | with_reducible exact Ext.refl _ | refine Ext.app _ ?_) e))))) ?_
    rintro sv g2 hsv
    simp only [wset, hset, dset, bset, reduceAdd, reduceMul, reduceLeDiff, reduceEqDiff]
    have hfl := flat_le (F := fun x : Hor × AV => hzTx x.1) (m := 30000) (L := L) fun x hx => hzTx_len (hT x hx)
    refine WF.res T.c149 (K.join hsv ?_) ?_
    · rw [join_e, List.length_map]; omega
    rintro _ g3 rfl
    rw [join_e]
    simp only [wset, hset, dset, bset, reduceAdd, reduceMul, reduceLeDiff, reduceEqDiff]
    rw [printV, if_pos hc, txS, List.map_map]; rfl
  · have d1 : decide (chkHorsS (L.map Prod.fst) ≠ 0) = true := decide_eq_true hc
    simp only [wset, hset, dset, bset, reduceAdd, reduceMul, reduceLeDiff, reduceEqDiff, d1]
    rw [printV, if_neg hc]
omit K
end
end Go.Abs
namespace Go.Abs
attribute [local irreducible] WP WC WE WB WR WF WL WG WRg
section
variable {P : Program} (T : Tbl P) {h : AHeap}
include T
theorem r89 {L : List (Hor × AV)} {s : AV} (o : HorsOk h L s) (hl : L.length ≤ 2 ^ 40) (hp : ∀ x ∈ L, x.1.picks.length ≤ 2 ^ 40) :
    RCall P 89 [s] h (fun v h' => ∃ L' : List (Hor × AV), L'.map (·.1) = L.map (·.1) ∧ HorsOk h' L' v) := by
  have hs := o.sl
  refine RCall.mono (R := fun v h' => ∃ L' : List (Hor × AV), L'.map (·.1) = L.map (·.1) ∧ Fr h.length h' v 3 (L'.map horRow) ∧ ∀ x ∈ L', Fr h.length h' x.2 2 (x.1.picks.map pkRow) ∧ ∀ b o n e b0 o0 n0 e0, x.2 = .slice b o n e → v = .slice b0 o0 n0 e0 → b < b0) ?_ fun v g ⟨L', hm, hf, he⟩ => ⟨L', hm, HorsOk.of_list hm hf.isSl (fun x hx => (he x hx).1.isSl) o.len fun y hy => ⟨(o.all y hy).len, (o.all y hy).nm⟩⟩
  refine .of T.mix T.c89 ?_
  unfold fn89
  simp only [wset, hset, dset, bset, reduceAdd, reduceMul, reduceLeDiff, reduceEqDiff, hs.lenm]
  refine WL.inv T.mix (fun n ts h' => ∃ (k : Nat) (out : AV) (L' : List (Hor × AV)), k ≤ L.length ∧ n = L.length - k ∧ Ext h h' ∧ L'.map (·.1) = (L.take k).map (·.1) ∧ Fr h.length h' out 3 (L'.map horRow) ∧ (∀ x ∈ L', Fr h.length h' x.2 2 (x.1.picks.map pkRow) ∧ ∀ b o n e b0 o0 n0 e0, x.2 = .slice b o n e → out = .slice b0 o0 n0 e0 → b < b0) ∧ ts.length = 19 ∧ slot ts 3 = out ∧ slot ts 6 = s ∧ slot ts 7 = .int .i64 L.length ∧ slot ts 8 = .int .i64 k) L.length
    ⟨0, .nilSlice, [], by omega, rfl, Ext.refl h, rfl, .nil, by simp, rfl, rfl, rfl, rfl, rfl⟩ ?_
  rintro _ ts _ ⟨k, out, L', hk, rfl, ⟨g, rfl⟩, hm, hfr, hel, hlen, t3, t6, t7, t8⟩
  rw [expl ts 19 hlen]
  by_cases hlt : k < L.length
  · have e3 : (k : Int) < L.length := by omega
    have hx := o.all L[k] (by simp)
    have hlk : L'.length = k := by have := congrArg List.length hm; simp at this; omega
    simp only [wset, hset, dset, bset, reduceAdd, reduceMul, reduceLeDiff, reduceEqDiff, t3, t6, t7, t8, e3, decide_true, hs.ixm hlt, hs.ldm hlt, hx.sl.one]
    refine WF.res T.c68 (r68 T (H := L[k].1) (hx.sl.ext (by simp only [eset])) (hp _ (by simp))) ?_
    rintro _ g1 ⟨s', rfl, hs'⟩
    simp only [wset, hset, dset, bset, reduceAdd, reduceMul, reduceLeDiff, reduceEqDiff, hs'.isSl.one]
    refine WR.app1 (h0 := h) (cs := L'.map horRow) (ys := [horRow (L[k].1, s')]) ((((hfr.app _).app _).app _)) (Fr.push (N := 0) (Nat.zero_le _) [horRow (L[k].1, s')] (by simp)).isSl (by decide) (by simp) (by simp; omega) (by simp only [eset]) ?_
    intro g' hl' hf hkp
    have hrow : L'.map horRow ++ [horRow (L[k].1, s')] = (L' ++ [(L[k].1, s')]).map horRow := by rw [List.map_append]; rfl
    rw [hrow] at hf
    rw [hrow]
    simp only [wset, hset, dset, bset, reduceAdd, reduceMul, reduceLeDiff, reduceEqDiff, t3, t6, t7, t8, wrapN (show k + 1 < 2 ^ 63 by omega)]
    refine ⟨_, ?_, k + 1, _, L' ++ [(L[k].1, s')], by omega, rfl, ?_, hf, ?_, rfl, rfl⟩
    · omega
    · rw [List.map_append, hm, List.take_add_one, List.getElem?_eq_getElem hlt, List.map_append]; rfl
    · intro x hx'
      rcases List.mem_append.1 hx' with hx' | hx'
      · obtain ⟨h1, h2⟩ := hel x hx'
        have h1' := ((h1.app [ABlk.cells (horRow L[k]) true false]).app g1).app [ABlk.cells [AV.str L[k].1.name, AV.int IntKind.i64 L[k].1.err, s'] true true]
        refine ⟨h1'.sBkeep fun b hb => ?_, fun b o n e b0 o0 n0 e0 hb hout => ?_⟩
        · obtain ⟨o1, n1, e1, hb⟩ := sB_s hb
          refine hkp b (h1'.lt hb).2 fun b0 o0 n0 e0 hout => ?_
          have := h2 _ _ _ _ _ _ _ _ hb hout
          omega
        · cases hout; exact (h1'.lt hb).2
      · simp only [List.mem_singleton] at hx'
        subst hx'
        have h1' := (hs'.low (show h.length ≤ _ by simp)).app [ABlk.cells [AV.str L[k].1.name, AV.int IntKind.i64 L[k].1.err, s'] true true]
        refine ⟨h1'.sBkeep fun b hb => ?_, fun b o n e b0 o0 n0 e0 hb hout => ?_⟩
        · obtain ⟨o1, n1, e1, hb⟩ := sB_s hb
          refine hkp b (h1'.lt hb).2 fun b0 o0 n0 e0 hout => ?_
          have h3 := (hs'.lt hb).1
          have h4 := (hfr.lt hout).2
          simp only [List.length_append] at h3 h4
          omega
        · cases hout; exact (h1'.lt hb).2
  · have e3 : ¬ (k : Int) < L.length := by omega
    have e4 : k = L.length := by omega
    simp only [wset, hset, dset, bset, reduceAdd, reduceMul, reduceLeDiff, reduceEqDiff, t3, t6, t7, t8, e3, decide_false, if_true]
    rw [e4, List.take_length] at hm
    exact ⟨L', hm, hfr, hel⟩
theorem r88 {L M : List (Hor × AV)} {s t : AV} (o : HorsOk h L s) (q : HorsOk h M t) (he : L.map Prod.fst = M.map Prod.fst) : RCall P 88 [s, t] h (fun v _ => v = .bool true) := by
  refine .of T.mix T.c88 ?_
  have hl : L.length = M.length := by simpa using congrArg List.length he
  have hln := o.len
  have d0 : decide ((L.length : Int) ≠ M.length) = false := decide_eq_false (by simp [hl])
  unfold fn88
  simp only [wset, hset, dset, bset, reduceAdd, reduceMul, reduceLeDiff, reduceEqDiff, o.sl.lenm, q.sl.lenm, d0]
  refine WL.inv T.mix (fun n ts h' => ∃ k : Nat, k ≤ L.length ∧ n = L.length - k ∧ Ext h h' ∧ ts.length = 27 ∧ slot ts 0 = s ∧ slot ts 1 = t ∧ slot ts 5 = .int .i64 k) L.length
    ⟨0, by omega, rfl, Ext.refl h, rfl, rfl, rfl, rfl⟩ ?_
  rintro _ ts _ ⟨k, hk, rfl, ⟨g, rfl⟩, hlen, t0, t1, t5⟩
  rw [expl ts 27 hlen]
  by_cases hlt : k < L.length
  · have hlt2 : k < M.length := by omega
    have e3 : (k : Int) < L.length := by omega
    have ok1 := o.all L[k] (by simp)
    have ok2 := q.all M[k] (by simp)
    have e : L[k].1 = M[k].1 := by
      have h1 : (L.map Prod.fst)[k]? = (M.map Prod.fst)[k]? := by rw [he]
      rw [List.getElem?_map, List.getElem?_map, List.getElem?_eq_getElem hlt, List.getElem?_eq_getElem hlt2] at h1
      exact Option.some.inj h1
    simp only [wset, hset, dset, bset, reduceAdd, reduceMul, reduceLeDiff, reduceEqDiff, t0, t1, t5, e3, decide_true, o.sl.lenm, o.sl.ixm hlt, q.sl.ixm hlt2, o.sl.ldm hlt, q.sl.ldm hlt2]
    refine WF.res T.c69 (r69 T (A := L[k].1) (B := M[k].1) (ok1.ext (by repeat first | exact Ext.refl _ | refine Ext.app _ ?_)) (ok2.ext (by repeat first | exact Ext.refl _ | refine Ext.app _ ?_))) ?_
    rintro _ g1 rfl
    rw [e, sameS_refl]
    simp only [wset, hset, dset, bset, reduceAdd, reduceMul, reduceLeDiff, reduceEqDiff, t0, t1, t5, Bool.not_true, wrapN (show k + 1 < 2 ^ 63 by omega)]
    refine ⟨_, ?_, k + 1, by omega, rfl, rfl⟩
    omega
  · have e3 : ¬ (k : Int) < L.length := by omega
    simp only [wset, hset, dset, bset, reduceAdd, reduceMul, reduceLeDiff, reduceEqDiff, t0, t1, t5, e3, decide_false, o.sl.lenm, if_true]
end
end Go.Abs
namespace Go.Abs
theorem parse_bd {s : List UInt8} {M : List Hor} {n : Nat} {e : Int} (h : parseS s = (M, n, e)) : M.length ≤ 8 ∧ ∀ H ∈ M, HorT H := by
  unfold parseS at h
  have nil : ∀ {x : Nat × Int}, ([], x) = (M, n, e) → M.length ≤ 8 ∧ ∀ H ∈ M, HorT H := fun h => by cases h; simp
  split at h
  · exact nil h
  · split at h
    · exact nil h
    · split at h
      · rename_i hc
        cases h
        obtain ⟨h1, h2⟩ := hors_zero hc
        exact ⟨h2, fun H hH => horT_of (h1 H hH)⟩
      · exact nil h
theorem HsR.hors2 {N : Nat} {h : AHeap} {L : List (Hor × AV)} {s : AV} (o : HsR N h L s) (b : (L.map Prod.fst).length ≤ 8 ∧ ∀ H ∈ L.map Prod.fst, HorT H) : HorsOk h L s := by
  refine o.ok (by have := b.1; simp at this; omega) fun x hx => ?_
  have := b.2 x.1 (List.mem_map_of_mem hx)
  have h1 := this.n0
  have h2 := this.pl
  omega
attribute [local irreducible] WP WC WE WB WR WF WL WG WRg
section
variable {P : Program} (T : Tbl P) (X : Xtn P) (K : Prt P) {h : AHeap}
include T X K
end
end Go.Abs
namespace Go.Abs
theorem ofNat_dig {c : UInt8} (h : digitS c = true) : UInt8.ofNat (48 + (c.toNat - 48)) = c := by
  have := digitS_iff.1 h
  rw [show 48 + (c.toNat - 48) = c.toNat by omega]; simp
theorem digitS_of {d : Nat} (h : d < 10) : digitS (UInt8.ofNat (48 + d)) = true ∧ (UInt8.ofNat (48 + d)).toNat = 48 + d := by
  have : (UInt8.ofNat (48 + d)).toNat = 48 + d := by rw [UInt8.toNat_ofNat']; omega
  exact ⟨digitS_iff.2 (by omega), this⟩
theorem dec_dig : ∀ u : Nat, (Lib.decDigits u).all digitS = true := by
  intro u
  induction u using Nat.strongRecOn with
  | _ u ih =>
    rw [Lib.decDigits]
    by_cases h : u < 10
    · rw [dif_pos h]; simp only [List.all_cons, List.all_nil, Bool.and_true]; exact (digitS_of h).1
    · rw [dif_neg h, List.all_append, ih (u / 10) (by omega)]
      simp only [List.all_cons, List.all_nil, Bool.and_true, Bool.true_and]; exact (digitS_of (Nat.mod_lt u (by decide : 0 < 10))).1
theorem dec_ne (u : Nat) : Lib.decDigits u ≠ [] := by
  rw [Lib.decDigits]
  split <;> simp
theorem dec_head : ∀ u : Nat, 1 ≤ u → (Lib.decDigits u).head? ≠ some 48 := by
  intro u
  induction u using Nat.strongRecOn with
  | _ u ih =>
    intro h1
    rw [Lib.decDigits]
    by_cases h : u < 10
    · rw [dif_pos h]
      intro e
      have h2 := (digitS_of h).2
      have : UInt8.ofNat (48 + u) = 48 := by simpa using e
      rw [this] at h2
      have : (48 : UInt8).toNat = 48 := rfl
      omega
    · rw [dif_neg h]
      have := ih (u / 10) (by omega) (by omega)
      have hn := dec_ne (u / 10)
      cases hd : Lib.decDigits (u / 10) with
      | nil => exact absurd hd hn
      | cons a b => rw [hd] at this; simpa using this
theorem dec_val : ∀ u : Nat, digN (Lib.decDigits u) = u := by
  intro u
  induction u using Nat.strongRecOn with
  | _ u ih =>
    rw [Lib.decDigits]
    by_cases h : u < 10
    · rw [dif_pos h]
      have := (digitS_of h).2
      simp only [digN, List.foldl_cons, List.foldl_nil]; omega
    · rw [dif_neg h, digN_app, ih (u / 10) (by omega), (digitS_of (Nat.mod_lt u (by decide : 0 < 10))).2]
      omega
theorem dcS_ok {n : Int} (h0 : 0 ≤ n) (h1 : n ≤ 999999999) : digOk (dcS n) = true := by
  have hl : (dcS n).length ≤ 9 := dec_len (k := 8) (by omega)
  have hn : (dcS n).length ≠ 0 := by have := dec_ne n.toNat; simpa [dcS] using this
  simp only [digOk, decide_eq_false hn, decide_eq_true hl, Bool.not_false, Bool.true_and, Bool.and_eq_true, Bool.not_eq_true', Bool.and_eq_false_iff, decide_eq_false_iff_not]
  refine ⟨?_, dec_dig _⟩
  by_cases h10 : n.toNat < 10
  · left; rw [dcS, Lib.decDigits, dif_pos h10]; simp
  · right; exact dec_head _ (by omega)
theorem dcS_val {n : Int} (h0 : 0 ≤ n) : digN (dcS n) = n := by rw [dcS, dec_val]; omega
theorem dec_back : ∀ k (s : List UInt8), s.length = k → s.all digitS = true → s ≠ [] → s.head? ≠ some 48 → 1 ≤ digN s ∧ Lib.decDigits (digN s).toNat = s
  | 0, s, hl, _, hne, _ => absurd (List.length_eq_zero_iff.1 hl) hne
  | k + 1, s, hl, hd, hne, hh => by
    obtain ⟨z, c, rfl⟩ : ∃ z c, s = z ++ [c] := ⟨s.dropLast, s.getLast hne, (List.dropLast_concat_getLast hne).symm⟩
    rw [List.all_append, Bool.and_eq_true] at hd
    have hc : digitS c = true := by simpa using hd.2
    have hc2 := digitS_iff.1 hc
    rw [digN_app]
    by_cases hz : z = []
    · subst hz
      have : c ≠ 48 := by simpa using hh
      have hc3 : c.toNat ≠ 48 := fun e => this (UInt8.toNat_inj.1 (by simpa using e))
      have e0 : digN [] = 0 := rfl
      rw [e0]
      refine ⟨by omega, ?_⟩
      rw [Lib.decDigits, dif_pos (by omega)]
      rw [show (10 * (0 : Int) + ((c.toNat : Int) - 48)).toNat = c.toNat - 48 by omega, ofNat_dig hc]; rfl
    · have hh' : z.head? ≠ some 48 := by
        cases z with
        | nil => exact absurd rfl hz
        | cons a b => simpa using hh
      obtain ⟨i1, i2⟩ := dec_back k z (by simpa using hl) hd.1 hz hh'
      refine ⟨by omega, ?_⟩
      rw [Lib.decDigits, dif_neg (by omega)]
      rw [show (10 * digN z + ((c.toNat : Int) - 48)).toNat / 10 = (digN z).toNat by omega, show (10 * digN z + ((c.toNat : Int) - 48)).toNat % 10 = c.toNat - 48 by omega, i2, ofNat_dig hc]
theorem dcS_back {s : List UInt8} (h : digOk s = true) : dcS (digN s) = s := by
  simp only [digOk, Bool.and_eq_true, Bool.not_eq_true', decide_eq_false_iff_not, Bool.and_eq_false_iff, decide_eq_true_eq] at h
  obtain ⟨⟨⟨h1, h2⟩, h3⟩, h4⟩ := h
  have hne : s ≠ [] := fun e => h1 (by rw [e]; rfl)
  by_cases hh : s.head? = some 48
  · have hl : s.length = 1 := by
      rcases h3 with h3 | h3
      · have := List.length_pos_iff.2 hne; omega
      · exact absurd hh h3
    match s, hl with
    | [c], _ =>
      have : c = 48 := by simpa using hh
      subst this
      rw [dcS]
      have : digN [48] = 0 := rfl
      rw [this, Lib.decDigits, dif_pos (by decide)]; rfl
  · exact (dec_back _ s rfl h4 hne hh).2
theorem dig_no {s : List UInt8} (h : s.all digitS = true) : (32 : UInt8) ∉ s ∧ (10 : UInt8) ∉ s := by
  rw [List.all_eq_true] at h
  constructor
  · intro hm; have := h _ hm; simp [digitS] at this
  · intro hm; have := h _ hm; simp [digitS] at this
theorem dcS_no (n : Int) : (32 : UInt8) ∉ dcS n ∧ (10 : UInt8) ∉ dcS n := dig_no (dec_dig _)
theorem name_no {s : List UInt8} (h : nameS s = true) : (32 : UInt8) ∉ s ∧ (10 : UInt8) ∉ s ∧ s ≠ [] := by
  cases s with
  | nil => cases h
  | cons c r =>
    rw [nameS] at h
    simp only [Bool.and_eq_true] at h
    obtain ⟨⟨_, h1⟩, h2⟩ := h
    rw [List.all_eq_true] at h2
    have a1 : ∀ x : UInt8, letterS x = true → x ≠ 32 ∧ x ≠ 10 := fun x hx => ⟨(by rintro rfl; revert hx; decide), (by rintro rfl; revert hx; decide)⟩
    have a2 : ∀ x : UInt8, restS x = true → x ≠ 32 ∧ x ≠ 10 := fun x hx => ⟨(by rintro rfl; revert hx; decide), (by rintro rfl; revert hx; decide)⟩
    refine ⟨?_, ?_, by simp⟩
    · intro hm
      rcases List.mem_cons.1 hm with e | hm
      · exact (a1 c h1).1 e.symm
      · exact (a2 _ (h2 _ hm)).1 rfl
    · intro hm
      rcases List.mem_cons.1 hm with e | hm
      · exact (a1 c h1).2 e.symm
      · exact (a2 _ (h2 _ hm)).2 rfl
def hzLn (H : Hor) : List UInt8 := hzS ++ 32 :: (H.name ++ 32 :: dcS H.err)
def pkLn (p : Pk) : List UInt8 := pkS ++ 32 :: (dcS p.1 ++ 32 :: dcS p.2)
def lnsH (H : Hor) : List (List UInt8) := hzLn H :: H.picks.map pkLn
def lnsS (M : List Hor) : List (List UInt8) := (M.map lnsH).flatten
def endL (ls : List (List UInt8)) : List UInt8 := (ls.map (· ++ [10])).flatten
theorem endL_app {a b : List (List UInt8)} : endL (a ++ b) = endL a ++ endL b := by simp [endL]
theorem hzTx_eq {H : Hor} : hzTx H = endL (lnsH H) := by
  have : ∀ ps : List Pk, (ps.map pkTx).flatten = endL (ps.map pkLn) := by
    intro ps
    induction ps with
    | nil => rfl
    | cons p r ih => rw [List.map_cons, List.flatten_cons, ih]; simp [endL, pkTx, pkLn, pkS]
  rw [hzTx, this]
  simp [lnsH, endL, hzLn, hzS]
theorem txS_eq : ∀ {M : List Hor}, txS M = endL (lnsS M)
  | [] => rfl
  | H :: r => by
    have ih := txS_eq (M := r)
    rw [txS] at ih ⊢
    rw [List.map_cons, List.flatten_cons, ih, hzTx_eq, lnsS, lnsS, List.map_cons, List.flatten_cons, endL_app]
theorem joinB_end : ∀ {ls : List (List UInt8)} {q : List UInt8}, joinB 10 (ls ++ [q]) = endL ls ++ q
  | [], q => by simp [joinB, endL]
  | p :: r, q => by
    rw [List.cons_append, joinB_cons (by simp), joinB_end (ls := r)]
    simp [endL]
theorem split_end : ∀ {ls : List (List UInt8)} {q : List UInt8}, (∀ p ∈ ls, (10 : UInt8) ∉ p) → (10 : UInt8) ∉ q → splitB 10 (endL ls ++ q) = ls ++ [q]
  | [], q, _, hq => by simp only [endL, List.map_nil, List.flatten_nil, List.nil_append]; exact splitB_no hq
  | p :: r, q, h, hq => by
    have ih := split_end (ls := r) (fun x hx => h x (List.mem_cons_of_mem _ hx)) hq
    have e : endL (p :: r) ++ q = p ++ 10 :: (endL r ++ q) := by simp [endL]
    rw [e, splitB_app (h p (by simp)), ih]; rfl
theorem lns_no {M : List Hor} (hM : ∀ H ∈ M, HorV H) : ∀ p ∈ lnsS M, (10 : UInt8) ∉ p := by
  intro p hp
  rw [lnsS] at hp
  obtain ⟨ls, hls, hp⟩ := List.mem_flatten.1 hp
  obtain ⟨H, hH, rfl⟩ := List.mem_map.1 hls
  have v := hM H hH
  rcases List.mem_cons.1 hp with rfl | hp
  · have h1 := (name_no v.nm).2.1
    have h2 := (dcS_no H.err).2
    simp only [hzLn, hzS, List.mem_append, List.mem_cons, h1, h2]; decide
  · obtain ⟨q, _, rfl⟩ := List.mem_map.1 hp
    have h1 := (dcS_no q.1).2
    have h2 := (dcS_no q.2).2
    simp only [pkLn, pkS, List.mem_append, List.mem_cons, h1, h2]; decide
theorem step_hz {M : List Hor} {H : Hor} (v : HorV H) : stepP M (hzLn H) = some (M ++ [⟨H.name, H.err, []⟩]) := by
  have hn := name_no v.nm
  have hd := dcS_no H.err
  have e1 := v.e1
  rw [stepP, hzLn, splitB_app (by decide), splitB_app hn.1, splitB_no hd.1, stepW, if_pos rfl, if_pos ⟨hn.2.2, dcS_ok v.e0 (by omega)⟩, dcS_val v.e0]
theorem step_pk {M : List Hor} {p : Pk} (hM : M ≠ []) (h : 0 ≤ p.1 ∧ p.1 ≤ 255 ∧ 0 ≤ p.2 ∧ p.2 ≤ 100000) : stepP M (pkLn p) = some (addPk M p) := by
  rw [stepP, pkLn, splitB_app (by decide), splitB_app (dcS_no p.1).1, splitB_no (dcS_no p.2).1, stepW, if_neg (by decide), if_pos rfl, if_pos ⟨dcS_ok (by omega) (by omega), dcS_ok (by omega) (by omega), hM⟩, dcS_val (by omega), dcS_val (by omega)]
theorem fold_pk {n : List UInt8} {e : Int} {M : List Hor} : ∀ {ps qs : List Pk}, (∀ p ∈ ps, 0 ≤ p.1 ∧ p.1 ≤ 255 ∧ 0 ≤ p.2 ∧ p.2 ≤ 100000) → foldP (M ++ [⟨n, e, qs⟩]) (ps.map pkLn) = some (M ++ [⟨n, e, qs ++ ps⟩])
  | [], qs, _ => by rw [List.append_nil]; rfl
  | p :: ps, qs, h => by
    rw [List.map_cons, foldP, step_pk (by simp) (h p (by simp)), Option.bind_some, addPk_app, fold_pk (fun x hx => h x (List.mem_cons_of_mem _ hx))]
    simp
theorem fold_hz {M : List Hor} {H : Hor} (v : HorV H) : foldP M (lnsH H) = some (M ++ [H]) := by
  rw [lnsH, foldP, step_hz v, Option.bind_some, fold_pk fun p hp => by
    obtain ⟨i, hi, rfl⟩ := List.getElem_of_mem hp
    have := v.ok.at hi
    omega]
  rfl
theorem fold_lns : ∀ {L M : List Hor}, (∀ H ∈ L, HorV H) → foldP M (lnsS L) = some (M ++ L)
  | [], M, _ => by simp [lnsS, foldP]
  | H :: r, M, h => by
    rw [lnsS, List.map_cons, List.flatten_cons, foldP_app, fold_hz (h H (by simp)), Option.bind_some]
    have := fold_lns (L := r) (M := M ++ [H]) (fun x hx => h x (List.mem_cons_of_mem _ hx))
    rw [lnsS] at this
    rw [this]; simp
theorem txS_len {M : List Hor} (h : chkHorsS M = 0) : (txS M).length ≤ 240000 := by
  obtain ⟨h1, h2⟩ := hors_zero h
  have := flat_le (F := hzTx) (m := 30000) (L := M) fun H hH => hzTx_len (horT_of (h1 H hH))
  unfold txS; omega
theorem parse_print {M : List Hor} (h : chkHorsS M = 0) : parseS (txS M) = (M, 0, 0) := by
  have hl := txS_len h
  obtain ⟨h1, h2⟩ := hors_zero h
  have hsp : splitB 10 (txS M) = lnsS M ++ [[]] := by
    have := split_end (lns_no h1) (q := []) (by simp)
    rwa [List.append_nil, ← txS_eq] at this
  have hp : parsL [] (lnsS M ++ [[]]) = (some M, (lnsS M).length) := by
    rw [parsL_at (i := (lnsS M).length) (M' := M) (by simp) (by rw [List.take_left']; exact fold_lns h1; rfl), List.drop_left' rfl]
    rfl
  rw [parseS, if_neg (by omega), hsp, hp]
  simp only [h, if_true]
theorem split_len {M : List Hor} (h : ∀ H ∈ M, HorV H) : (splitB 10 (txS M)).length = (lnsS M).length + 1 := by
  have := split_end (lns_no h) (q := []) (by simp)
  rw [List.append_nil, ← txS_eq] at this
  rw [this]; simp
theorem parse_cut {M : List Hor} (h : chkHorsS M = 0) (hne : M ≠ []) : parseS ((txS M).take ((txS M).length - 1)) = ([], (lnsS M).length - 1, 25) := by
  have hl := txS_len h
  obtain ⟨h1, h2⟩ := hors_zero h
  have hln : lnsS M ≠ [] := by
    cases M with
    | nil => exact absurd rfl hne
    | cons H r => simp [lnsS, lnsH]
  obtain ⟨a, q, ha⟩ : ∃ a q, lnsS M = a ++ [q] := ⟨(lnsS M).dropLast, (lnsS M).getLast hln, (List.dropLast_concat_getLast hln).symm⟩
  have hno := lns_no h1
  rw [ha] at hno
  have hqn : q ≠ [] := by
    have hm : q ∈ lnsS M := by rw [ha]; simp
    rw [lnsS] at hm
    obtain ⟨ls, hls, hm⟩ := List.mem_flatten.1 hm
    obtain ⟨H, hH, rfl⟩ := List.mem_map.1 hls
    rcases List.mem_cons.1 hm with rfl | hm
    · simp [hzLn, hzS]
    · obtain ⟨p, _, rfl⟩ := List.mem_map.1 hm
      simp [pkLn, pkS]
  have htx : txS M = endL a ++ q ++ [10] := by rw [txS_eq, ha, endL_app]; simp [endL]
  have hcut : (txS M).take ((txS M).length - 1) = endL a ++ q := by
    rw [htx, List.take_left']
    simp
  have hsp : splitB 10 (endL a ++ q) = a ++ [q] := split_end (fun p hp => hno p (by simp [hp])) (hno q (by simp))
  have hf := fold_lns (L := M) (M := []) h1
  rw [ha, foldP_app] at hf
  cases hfa : foldP [] a with
  | none => rw [hfa] at hf; cases hf
  | some M1 =>
    have hp : parsL [] (a ++ [q]) = (none, a.length) := by
      rw [parsL_at (i := a.length) (M' := M1) (by simp) (by rw [List.take_left' rfl]; exact hfa), List.drop_left' rfl, parsL, if_neg hqn]
      rfl
    have hle : (endL a ++ q).length ≤ 240000 := by rw [htx] at hl; simp at hl ⊢; omega
    rw [hcut, parseS, if_neg (by omega), hsp, hp, ha]
    simp
theorem lns_app {M L : List Hor} : lnsS (M ++ L) = lnsS M ++ lnsS L := by simp [lnsS]
theorem step_back {M M1 : List Hor} {l : List UInt8} (h : stepP M l = some M1) : lnsS M1 = lnsS M ++ [l] := by
  have hj := joinB_split (c := 32) (s := l)
  unfold stepP at h
  match hw : splitB 32 l with
  | [] => rw [hw] at h; cases h
  | [w] => rw [hw] at h; cases h
  | [w, x] => rw [hw] at h; cases h
  | w :: x :: y :: z :: t => rw [hw] at h; cases h
  | [w, x, y] =>
    rw [hw] at h hj
    rw [stepW] at h
    simp only [joinB] at hj
    by_cases h1 : w = hzS
    · rw [if_pos h1] at h
      by_cases h2 : x ≠ [] ∧ digOk y = true
      · rw [if_pos h2] at h
        cases h
        rw [lns_app]
        subst h1
        simp only [lnsS, List.map_cons, List.map_nil, List.flatten_cons, List.flatten_nil, lnsH, hzLn, dcS_back h2.2, hj, List.append_nil]
      · rw [if_neg h2] at h; cases h
    · rw [if_neg h1] at h
      by_cases h2 : w = pkS
      · rw [if_pos h2] at h
        by_cases h3 : digOk x = true ∧ digOk y = true ∧ M ≠ []
        · rw [if_pos h3] at h
          cases h
          obtain ⟨q, H, rfl⟩ : ∃ q l, M = q ++ [l] := ⟨M.dropLast, M.getLast h3.2.2, (List.dropLast_concat_getLast h3.2.2).symm⟩
          subst h2
          rw [addPk_app, lns_app, lns_app]
          simp only [lnsS, List.map_cons, List.map_nil, List.flatten_cons, List.flatten_nil, lnsH, hzLn, List.map_append, pkLn, dcS_back h3.1, dcS_back h3.2.1, hj, List.append_nil, List.append_assoc, List.cons_append]
        · rw [if_neg h3] at h; cases h
      · rw [if_neg h2] at h; cases h
theorem fold_back : ∀ {ls : List (List UInt8)} {M M' : List Hor}, foldP M ls = some M' → lnsS M' = lnsS M ++ ls
  | [], M, M', h => by cases h; simp
  | l :: r, M, M', h => by
    rw [foldP] at h
    cases hs : stepP M l with
    | none => rw [hs] at h; cases h
    | some M1 =>
      rw [hs] at h
      rw [fold_back (M := M1) h, step_back hs]; simp
theorem parsL_back : ∀ {ps : List (List UInt8)} {M M' : List Hor} {n : Nat}, ps ≠ [] → parsL M ps = (some M', n) → ∃ ls, ps = ls ++ [[]] ∧ foldP M ls = some M'
  | [], _, _, _, h, _ => absurd rfl h
  | [p], M, M', n, _, h => by
    rw [parsL] at h
    by_cases hp : p = []
    · rw [if_pos hp] at h; cases h
      exact ⟨[], by rw [hp]; rfl, rfl⟩
    · rw [if_neg hp] at h; cases h
  | p :: q :: r, M, M', n, _, h => by
    rw [parsL] at h
    cases hs : stepP M p with
    | none => rw [hs] at h; cases h
    | some M1 =>
      rw [hs] at h
      simp only [Prod.mk.injEq] at h
      obtain ⟨ls, e1, e2⟩ := parsL_back (ps := q :: r) (M := M1) (M' := M') (n := (parsL M1 (q :: r)).2) (by simp) (by rw [← h.1])
      refine ⟨p :: ls, by rw [e1]; rfl, ?_⟩
      rw [foldP, hs, Option.bind_some]; exact e2
theorem print_parse {s : List UInt8} {M : List Hor} {n : Nat} (h : parseS s = (M, n, 0)) : chkHorsS M = 0 ∧ txS M = s := by
  unfold parseS at h
  split at h
  · cases h
  · split at h
    · cases h
    · rename_i M1 k hp
      split at h
      · rename_i hc
        cases h
        refine ⟨hc, ?_⟩
        obtain ⟨ls, e1, e2⟩ := parsL_back splitB_ne hp
        have := fold_back e2
        rw [txS_eq, this]
        have hj := joinB_split (c := 10) (s := s)
        rw [e1, joinB_end] at hj
        simpa [lnsS] using hj
      · rename_i hc
        exact absurd (congrArg (fun x => x.2.2) h) hc
def linesN (M : List Hor) : Nat := M.length + (M.map fun H => H.picks.length).sum
theorem lns_len : ∀ {M : List Hor}, (lnsS M).length = linesN M
  | [] => rfl
  | H :: r => by
    have ih := lns_len (M := r)
    rw [lnsS] at ih ⊢
    rw [List.map_cons, List.flatten_cons, List.length_append, ih]
    simp [linesN, lnsH]; omega
end Go.Abs
namespace Go.Abs
def bk (k : Nat) : ICode := ((fn14).body.dr k).hd
def bkT (k : Nat) : ICode := (fn14).body.dr k
theorem bk_A : (fn14).body = .seq (bk 0) (.seq (bk 1) (.seq (bk 2) (.seq (bk 3) (bkT 4)))) := rfl
theorem bk_B : bkT 4 = .seq (bk 4) (.seq (bk 5) (bkT 6)) := rfl
theorem bk_C : bkT 6 = .seq (bk 6) (bkT 7) := rfl
theorem bk_D : bkT 7 = .seq (bk 7) (bkT 8) := rfl
theorem bk_E : bkT 8 = .seq (bk 8) (.seq (bk 9) (.seq (bk 10) .ret)) := rfl
def bki : ICode := (bk 5).tl.inn.inn
theorem bk_5 : bk 5 = .seq (bk 5).hd (.block 0 (.loop (.seq bki.hd (.seq bki.tl.hd (.seq (.block 1 bki.tl.tl.hd.inn) bki.tl.tl.tl))))) := rfl
theorem sum_take {L : List Hor} {k : Nat} (hk : k < L.length) : ((L.take (k + 1)).map fun H => H.picks.length).sum = ((L.take k).map fun H => H.picks.length).sum + L[k].picks.length := by
  rw [take_succ' hk, List.map_append, List.sum_append]; simp
theorem sum_le {L : List Hor} (h : ∀ H ∈ L, H.picks.length ≤ 1000) : (L.map fun H => H.picks.length).sum ≤ L.length * 1000 := by
  induction L with
  | nil => simp
  | cons H r ih =>
    have h1 := ih fun x hx => h x (List.mem_cons_of_mem _ hx)
    have h2 := h H (by simp)
    simp only [List.map_cons, List.sum_cons, List.length_cons]; omega
attribute [local irreducible] WP WC WE WB WR WF WL WG WRg
section
variable {P : Program} (T : Tbl P) (X : Xtn P) (K : Prt P) {h : AHeap}
include T X K
set_option maxRecDepth 10000 in
set_option maxHeartbeats 2000000 in
theorem back_E {ts : TS} {k : AHeap} {L : List (Hor × AV)} {l : AV} (hlen : ts.length = 133) (t0 : slot ts 0 = l) (t5 : slot ts 5 = .str (txS (L.map Prod.fst))) (t10 : slot ts 10 = .int .i64 (linesN (L.map Prod.fst) : Nat)) (e : Ext h k) (ol : HorsOk k L l) (hc : chkHorsS (L.map Prod.fst) = 0) :
    WC P inFn (bkT 8) [] ts k (FQ [(4, none)] (fun v h' => Ext h h' ∧ v = .bool true)) := by
  rw [bk_E]
  unfold bk fn14
  simp only [ICode.dr, ICode.tl, ICode.hd]
  by_cases hL : L = []
  · subst hL
    have d0 : decide ((([] : List (Hor × AV)).length : Int) = 0) = true := rfl
    have d1 : decide (txS (([] : List (Hor × AV)).map Prod.fst) = []) = true := by decide
    repeat (first | simp (maxSteps := 1000000) only [wset, hset, dset, bset, reduceAdd, reduceMul, reduceLeDiff, reduceEqDiff, pset, hlen, if_false, if_true, t0, t5, t10, ol.sl.lenm, d0, d1] | simp (maxSteps := 1000000) (disch := first | (simp only [List.length_append, List.length_cons, List.length_nil] <;> omega) | rfl | omega | fail) only [kset, wset, hset, dset, bset, reduceAdd, reduceMul, reduceLeDiff, reduceEqDiff, pset, hlen, if_false, if_true, t0, t5, t10, ol.sl.lenm, d0, d1])
    first | exact e | exact ⟨e, trivial⟩ | trivial
  · have d0 : decide ((L.length : Int) = 0) = false := decide_eq_false (by have := List.length_pos_iff.2 hL; omega)
    have hM : L.map Prod.fst ≠ [] := by simpa using hL
    have htl := txS_len hc
    have hpc := parse_cut hc hM
    have hpos : 0 < (txS (L.map Prod.fst)).length := by
      rw [List.length_pos_iff]
      intro e0
      have h1 := split_len (hors_zero hc).1
      rw [e0, lns_len] at h1
      have h2 : (splitB 10 ([] : List UInt8)).length = 1 := rfl
      rw [h2, linesN, List.length_map] at h1
      have := List.length_pos_iff.2 hL
      omega
    generalize txS (L.map Prod.fst) = tx at t5 htl hpc hpos
    have w1 : IntKind.i64.wrap ((tx.length : Int) - 1) = ((tx.length - 1 : Nat) : Int) := by rw [wrap_in (by omega) (by omega)]; omega
    have sl1 : slsF (.str tx) none (some (.int .i64 ((tx.length - 1 : Nat) : Int))) = some (.str (tx.take (tx.length - 1))) := sls_hi (by omega)
    repeat (first | simp (maxSteps := 1000000) only [wset, hset, dset, bset, reduceAdd, reduceMul, reduceLeDiff, reduceEqDiff, pset, hlen, if_false, if_true, t0, t5, t10, ol.sl.lenm, d0, w1, sl1] | simp (maxSteps := 1000000) (disch := first | (simp only [List.length_append, List.length_cons, List.length_nil] <;> omega) | rfl | omega | fail) only [kset, wset, hset, dset, bset, reduceAdd, reduceMul, reduceLeDiff, reduceEqDiff, pset, hlen, if_false, if_true, t0, t5, t10, ol.sl.lenm, d0, w1, sl1])
    refine WF.res T.c85 (r85 T X _ (by rw [List.length_take]; omega)) ?_
    rintro _ g1 ⟨L1, s1, n1, e1, rfl, o1, hp1⟩
    rw [hpc] at hp1
    have hn : (lnsS (L.map Prod.fst)).length - 1 = n1 := congrArg (fun x => x.2.1) hp1
    have he : (25 : Int) = e1 := congrArg (fun x => x.2.2) hp1
    rw [lns_len] at hn
    subst he
    have hlp : 1 ≤ linesN (L.map Prod.fst) := by rw [linesN, List.length_map]; have := List.length_pos_iff.2 hL; omega
    have hbig : linesN (L.map Prod.fst) ≤ 10000 := by
      obtain ⟨h1, h2⟩ := hors_zero hc
      have := sum_le (L := L.map Prod.fst) fun H hH => (horT_of (h1 H hH)).pl
      rw [linesN]; omega
    have w2 : IntKind.i64.wrap (((linesN (L.map Prod.fst) : Nat) : Int) - 1) = ((n1 : Nat) : Int) := by rw [wrap_in (by omega) (by omega)]; omega
    repeat (first | simp (maxSteps := 1000000) only [wset, hset, dset, bset, reduceAdd, reduceMul, reduceLeDiff, reduceEqDiff, pset, hlen, if_false, if_true, t0, t5, t10, w2, decide_true] | simp (maxSteps := 1000000) (disch := first | (simp only [List.length_append, List.length_cons, List.length_nil] <;> omega) | rfl | omega | fail) only [kset, wset, hset, dset, bset, reduceAdd, reduceMul, reduceLeDiff, reduceEqDiff, pset, hlen, if_false, if_true, t0, t5, t10, w2, decide_true])
    first | exact ⟨e.trans (by repeat first | with_reducible exact Ext.refl _ | refine Ext.app _ ?_), trivial⟩ | exact e.trans (by repeat first | with_reducible exact Ext.refl _ | refine Ext.app _ ?_) | trivial
set_option maxRecDepth 10000 in
set_option maxHeartbeats 2000000 in
theorem back_D {ts : TS} {k : AHeap} {L : List (Hor × AV)} {l : AV} {s : List UInt8} (hs : s.length ≤ 2 ^ 40) (hlen : ts.length = 133) (t0 : slot ts 0 = l) (t1 : slot ts 1 = .str s) (t5 : slot ts 5 = .str (txS (L.map Prod.fst))) (t10 : slot ts 10 = .int .i64 (linesN (L.map Prod.fst) : Nat)) (e : Ext h k) (ol : HorsOk k L l) (hc : chkHorsS (L.map Prod.fst) = 0) (w : Pw k) :
    WC P inFn (bkT 7) [] ts k (FQ [(4, none)] (fun v h' => Ext h h' ∧ v = .bool true)) := by
  obtain ⟨RR, hRR⟩ : ∃ RR, RR = bkT 8 := ⟨_, rfl⟩
  rw [bk_D, ← hRR]
  unfold bk fn14
  simp only [ICode.dr, ICode.tl, ICode.hd]
  repeat (first | simp (maxSteps := 1000000) only [wset, hset, dset, bset, reduceAdd, reduceMul, reduceLeDiff, reduceEqDiff, pset, hlen, if_false, if_true, t0, t1, t5, t10] | simp (maxSteps := 1000000) (disch := first | (simp only [List.length_append, List.length_cons, List.length_nil] <;> omega) | rfl | omega | fail) only [kset, wset, hset, dset, bset, reduceAdd, reduceMul, reduceLeDiff, reduceEqDiff, pset, hlen, if_false, if_true, t0, t1, t5, t10])
  refine WF.res T.c85 (r85 T X s hs) ?_
  rintro _ g1 ⟨L1, s1, n1, e1, rfl, o1, hp1⟩
  have ok1 := o1.hors2 (parse_bd hp1)
  by_cases he : e1 = 0
  · subst he
    obtain ⟨hc1, htx⟩ := print_parse hp1
    repeat (first | simp (maxSteps := 1000000) only [wset, hset, dset, bset, reduceAdd, reduceMul, reduceLeDiff, reduceEqDiff, pset, hlen, if_false, if_true, t0, t1, t5, t10, decide_true] | simp (maxSteps := 1000000) (disch := first | (simp only [List.length_append, List.length_cons, List.length_nil] <;> omega) | rfl | omega | fail) only [kset, wset, hset, dset, bset, reduceAdd, reduceMul, reduceLeDiff, reduceEqDiff, pset, hlen, if_false, if_true, t0, t1, t5, t10, decide_true])
    refine WF.res T.c84 (r84 T K ok1 (w.ext (by repeat first | with_reducible exact Ext.refl _ | refine Ext.app _ ?_))) ?_
    rintro _ g2 rfl
    rw [printV, if_pos hc1, htx]
    repeat (first | simp (maxSteps := 1000000) only [wset, hset, dset, bset, reduceAdd, reduceMul, reduceLeDiff, reduceEqDiff, pset, hlen, if_false, if_true, t0, t1, t5, t10, ne_eq, not_true_eq_false, decide_false] | simp (maxSteps := 1000000) (disch := first | (simp only [List.length_append, List.length_cons, List.length_nil] <;> omega) | rfl | omega | fail) only [kset, wset, hset, dset, bset, reduceAdd, reduceMul, reduceLeDiff, reduceEqDiff, pset, hlen, if_false, if_true, t0, t1, t5, t10, ne_eq, not_true_eq_false, decide_false])
    rw [hRR]
    exact back_E T X K (by simp only [wset, hset, dset, bset, reduceAdd, reduceMul, reduceLeDiff, reduceEqDiff, pset, hlen, if_false, if_true, t0]) (by simp only [wset, hset, dset, bset, reduceAdd, reduceMul, reduceLeDiff, reduceEqDiff, pset, hlen, if_false, if_true, t0]) (by simp only [wset, hset, dset, bset, reduceAdd, reduceMul, reduceLeDiff, reduceEqDiff, pset, hlen, if_false, if_true, t5]) (by simp only [wset, hset, dset, bset, reduceAdd, reduceMul, reduceLeDiff, reduceEqDiff, pset, hlen, if_false, if_true, t10]) (e.trans (by repeat first | with_reducible exact Ext.refl _ | refine Ext.app _ ?_)) (ol.ext (by repeat first | with_reducible exact Ext.refl _ | refine Ext.app _ ?_)) hc
  · have d1 : decide (e1 = 0) = false := decide_eq_false he
    repeat (first | simp (maxSteps := 1000000) only [wset, hset, dset, bset, reduceAdd, reduceMul, reduceLeDiff, reduceEqDiff, pset, hlen, if_false, if_true, t0, t1, t5, t10, d1] | simp (maxSteps := 1000000) (disch := first | (simp only [List.length_append, List.length_cons, List.length_nil] <;> omega) | rfl | omega | fail) only [kset, wset, hset, dset, bset, reduceAdd, reduceMul, reduceLeDiff, reduceEqDiff, pset, hlen, if_false, if_true, t0, t1, t5, t10, d1])
    rw [hRR]
    exact back_E T X K (by simp only [wset, hset, dset, bset, reduceAdd, reduceMul, reduceLeDiff, reduceEqDiff, pset, hlen, if_false, if_true, t0]) (by simp only [wset, hset, dset, bset, reduceAdd, reduceMul, reduceLeDiff, reduceEqDiff, pset, hlen, if_false, if_true, t0]) (by simp only [wset, hset, dset, bset, reduceAdd, reduceMul, reduceLeDiff, reduceEqDiff, pset, hlen, if_false, if_true, t5]) (by simp only [wset, hset, dset, bset, reduceAdd, reduceMul, reduceLeDiff, reduceEqDiff, pset, hlen, if_false, if_true, t10]) (e.trans (by repeat first | with_reducible exact Ext.refl _ | refine Ext.app _ ?_)) (ol.ext (by repeat first | with_reducible exact Ext.refl _ | refine Ext.app _ ?_)) hc
set_option maxRecDepth 10000 in
set_option maxHeartbeats 2000000 in
theorem back_C {ts : TS} {k : AHeap} {L L1 : List (Hor × AV)} {l sx : AV} {s : List UInt8} (hs : s.length ≤ 2 ^ 40) (hlen : ts.length = 133) (t0 : slot ts 0 = l) (t1 : slot ts 1 = .str s) (t5 : slot ts 5 = .str (txS (L.map Prod.fst))) (t6 : slot ts 6 = .int .i64 0) (t7 : slot ts 7 = sx) (t8 : slot ts 8 = .int .i64 0) (t9 : slot ts 9 = .int .i64 0) (t10 : slot ts 10 = .int .i64 (linesN (L.map Prod.fst) : Nat)) (e : Ext h k) (ol : HorsOk k L l) (ox : HorsOk k L1 sx) (hx : L1.map Prod.fst = L.map Prod.fst) (hc : chkHorsS (L.map Prod.fst) = 0) (w : Pw k) :
    WC P inFn (bkT 6) [] ts k (FQ [(4, none)] (fun v h' => Ext h h' ∧ v = .bool true)) := by
  obtain ⟨RR, hRR⟩ : ∃ RR, RR = bkT 7 := ⟨_, rfl⟩
  obtain ⟨h1, h2⟩ := hors_zero hc
  have hbig : linesN (L.map Prod.fst) ≤ 10000 := by
    have := sum_le (L := L.map Prod.fst) fun H hH => (horT_of (h1 H hH)).pl
    rw [linesN]; omega
  have hl1 : L1.length ≤ 8 := by have := congrArg List.length hx; simp at this h2; omega
  have hp1 : ∀ y ∈ L1, y.1.picks.length ≤ 2 ^ 40 := fun y hy => by
    have hm : y.1 ∈ L.map Prod.fst := by rw [← hx]; exact List.mem_map_of_mem hy
    have := (horT_of (h1 _ hm)).pl
    omega
  have htl := txS_len hc
  have hsl := split_len h1
  rw [lns_len] at hsl
  rw [bk_C, ← hRR]
  unfold bk fn14
  simp only [ICode.dr, ICode.tl, ICode.hd]
  repeat (first | simp (maxSteps := 1000000) only [wset, hset, dset, bset, reduceAdd, reduceMul, reduceLeDiff, reduceEqDiff, pset, hlen, if_false, if_true, t0, t1, t5, t6, t7, t8, t9, t10, ne_eq, not_true_eq_false, decide_false] | simp (maxSteps := 1000000) (disch := first | (simp only [List.length_append, List.length_cons, List.length_nil] <;> omega) | rfl | omega | fail) only [kset, wset, hset, dset, bset, reduceAdd, reduceMul, reduceLeDiff, reduceEqDiff, pset, hlen, if_false, if_true, t0, t1, t5, t6, t7, t8, t9, t10, ne_eq, not_true_eq_false, decide_false])
  refine WF.res T.c89 (r89 T ox (by omega) hp1) ?_
  rintro sv g1 ⟨L3, hm3, ok3⟩
  repeat (first | simp (maxSteps := 1000000) only [wset, hset, dset, bset, reduceAdd, reduceMul, reduceLeDiff, reduceEqDiff, pset, hlen, if_false, if_true, t0, t1, t5, t6, t7, t8, t9, t10] | simp (maxSteps := 1000000) (disch := first | (simp only [List.length_append, List.length_cons, List.length_nil] <;> omega) | rfl | omega | fail) only [kset, wset, hset, dset, bset, reduceAdd, reduceMul, reduceLeDiff, reduceEqDiff, pset, hlen, if_false, if_true, t0, t1, t5, t6, t7, t8, t9, t10])
  refine WF.res T.c88 (r88 T ok3 (ol.ext (by repeat first | with_reducible exact Ext.refl _ | refine Ext.app _ ?_)) (Eq.trans hm3 hx)) ?_
  rintro _ g2 rfl
  repeat (first | simp (maxSteps := 1000000) only [wset, hset, dset, bset, reduceAdd, reduceMul, reduceLeDiff, reduceEqDiff, pset, hlen, if_false, if_true, t0, t1, t5, t6, t7, t8, t9, t10, Bool.not_true] | simp (maxSteps := 1000000) (disch := first | (simp only [List.length_append, List.length_cons, List.length_nil] <;> omega) | rfl | omega | fail) only [kset, wset, hset, dset, bset, reduceAdd, reduceMul, reduceLeDiff, reduceEqDiff, pset, hlen, if_false, if_true, t0, t1, t5, t6, t7, t8, t9, t10, Bool.not_true])
  refine WF.res T.c90 (r90 T _ 10 (by omega)) ?_
  rintro sw g3 hw
  have w1 : IntKind.i64.wrap (((linesN (L.map Prod.fst) : Nat) : Int) + 1) = ((linesN (L.map Prod.fst) + 1 : Nat) : Int) := by rw [wrap_in (by omega) (by omega)]; omega
  have d1 : decide (((splitB 10 (txS (L.map Prod.fst))).length : Int) ≠ ((linesN (L.map Prod.fst) + 1 : Nat) : Int)) = false := decide_eq_false (by rw [hsl]; simp)
  repeat (first | simp (maxSteps := 1000000) only [wset, hset, dset, bset, reduceAdd, reduceMul, reduceLeDiff, reduceEqDiff, pset, hlen, if_false, if_true, t0, t1, t5, t6, t7, t8, t9, t10, hw.isSl.lenm, w1, d1] | simp (maxSteps := 1000000) (disch := first | (simp only [List.length_append, List.length_cons, List.length_nil] <;> omega) | rfl | omega | fail) only [kset, wset, hset, dset, bset, reduceAdd, reduceMul, reduceLeDiff, reduceEqDiff, pset, hlen, if_false, if_true, t0, t1, t5, t6, t7, t8, t9, t10, hw.isSl.lenm, w1, d1])
  rw [hRR]
  exact back_D T X K hs (by simp only [wset, hset, dset, bset, reduceAdd, reduceMul, reduceLeDiff, reduceEqDiff, pset, hlen, if_false, if_true, t0]) (by simp only [wset, hset, dset, bset, reduceAdd, reduceMul, reduceLeDiff, reduceEqDiff, pset, hlen, if_false, if_true, t0]) (by simp only [wset, hset, dset, bset, reduceAdd, reduceMul, reduceLeDiff, reduceEqDiff, pset, hlen, if_false, if_true, t1]) (by simp only [wset, hset, dset, bset, reduceAdd, reduceMul, reduceLeDiff, reduceEqDiff, pset, hlen, if_false, if_true, t5]) (by simp only [wset, hset, dset, bset, reduceAdd, reduceMul, reduceLeDiff, reduceEqDiff, pset, hlen, if_false, if_true, t10]) (e.trans (by repeat first | with_reducible exact Ext.refl _ | refine Ext.app _ ?_)) (ol.ext (by repeat first | with_reducible exact Ext.refl _ | refine Ext.app _ ?_)) hc (w.ext (by repeat first | with_reducible exact Ext.refl _ | refine Ext.app _ ?_))
set_option maxRecDepth 10000 in
set_option maxHeartbeats 2000000 in
theorem back_B {ts : TS} {k : AHeap} {L L1 : List (Hor × AV)} {l sx : AV} {s : List UInt8} (hs : s.length ≤ 2 ^ 40) (hlen : ts.length = 133) (t0 : slot ts 0 = l) (t1 : slot ts 1 = .str s) (t5 : slot ts 5 = .str (txS (L.map Prod.fst))) (t6 : slot ts 6 = .int .i64 0) (t7 : slot ts 7 = sx) (t8 : slot ts 8 = .int .i64 0) (t9 : slot ts 9 = .int .i64 0) (e : Ext h k) (ol : HorsOk k L l) (ox : HorsOk k L1 sx) (hx : L1.map Prod.fst = L.map Prod.fst) (hc : chkHorsS (L.map Prod.fst) = 0) (w : Pw k) :
    WC P inFn (bkT 4) [] ts k (FQ [(4, none)] (fun v h' => Ext h h' ∧ v = .bool true)) := by
  obtain ⟨RR, hRR⟩ : ∃ RR, RR = bkT 6 := ⟨_, rfl⟩
  obtain ⟨h1, h2⟩ := hors_zero hc
  have hl8 : L.length ≤ 8 := by simpa using h2
  have hsl := ol.sl
  rw [bk_B, bk_5, ← hRR]
  unfold bki bk fn14
  simp only [ICode.dr, ICode.tl, ICode.hd, ICode.inn]
  repeat (first | simp (maxSteps := 1000000) only [wset, hset, dset, bset, reduceAdd, reduceMul, reduceLeDiff, reduceEqDiff, pset, hlen, if_false, if_true, t0, hsl.lenm] | simp (maxSteps := 1000000) (disch := first | (simp only [List.length_append, List.length_cons, List.length_nil] <;> omega) | rfl | omega | fail) only [kset, wset, hset, dset, bset, reduceAdd, reduceMul, reduceLeDiff, reduceEqDiff, pset, hlen, if_false, if_true, t0, hsl.lenm])
  refine WL.inv T.mix (fun n ts' h' => ∃ j : Nat, j ≤ L.length ∧ n = L.length - j ∧ Ext k h' ∧ ts'.length = 133 ∧ slot ts' 0 = l ∧ slot ts' 1 = .str s ∧ slot ts' 5 = .str (txS (L.map Prod.fst)) ∧ slot ts' 6 = .int .i64 0 ∧ slot ts' 7 = sx ∧ slot ts' 8 = .int .i64 0 ∧ slot ts' 9 = .int .i64 0 ∧ slot ts' 10 = .int .i64 ((L.length + (((L.map Prod.fst).take j).map fun H => H.picks.length).sum : Nat) : Int) ∧ slot ts' 53 = l ∧ slot ts' 54 = .int .i64 L.length ∧ slot ts' 55 = .int .i64 j) L.length
    ⟨0, by omega, rfl, (by repeat first | with_reducible exact Ext.refl _ | refine Ext.app _ ?_), (by simp only [wset, hset, dset, bset, reduceAdd, reduceMul, reduceLeDiff, reduceEqDiff, pset, hlen, if_false, if_true, t0]), (by simp only [wset, hset, dset, bset, reduceAdd, reduceMul, reduceLeDiff, reduceEqDiff, pset, hlen, if_false, if_true, t0]), (by simp only [wset, hset, dset, bset, reduceAdd, reduceMul, reduceLeDiff, reduceEqDiff, pset, hlen, if_false, if_true, t1]), (by simp only [wset, hset, dset, bset, reduceAdd, reduceMul, reduceLeDiff, reduceEqDiff, pset, hlen, if_false, if_true, t5]), (by simp only [wset, hset, dset, bset, reduceAdd, reduceMul, reduceLeDiff, reduceEqDiff, pset, hlen, if_false, if_true, t6]), (by simp only [wset, hset, dset, bset, reduceAdd, reduceMul, reduceLeDiff, reduceEqDiff, pset, hlen, if_false, if_true, t7]), (by simp only [wset, hset, dset, bset, reduceAdd, reduceMul, reduceLeDiff, reduceEqDiff, pset, hlen, if_false, if_true, t8]), (by simp only [wset, hset, dset, bset, reduceAdd, reduceMul, reduceLeDiff, reduceEqDiff, pset, hlen, if_false, if_true, t9]), (by simp only [wset, hset, dset, bset, reduceAdd, reduceMul, reduceLeDiff, reduceEqDiff, pset, hlen, if_false, if_true] <;> rfl), (by simp only [wset, hset, dset, bset, reduceAdd, reduceMul, reduceLeDiff, reduceEqDiff, pset, hlen, if_false, if_true, t0]), (by simp only [wset, hset, dset, bset, reduceAdd, reduceMul, reduceLeDiff, reduceEqDiff, pset, hlen, if_false, if_true] <;> rfl), (by simp only [wset, hset, dset, bset, reduceAdd, reduceMul, reduceLeDiff, reduceEqDiff, pset, hlen, if_false, if_true] <;> rfl)⟩ ?_
  rintro _ ts' _ ⟨j, hj, rfl, ⟨g, rfl⟩, hlen', u0, u1, u5, u6, u7, u8, u9, u10, u53, u54, u55⟩
  clear hlen t0 t1 t5 t6 t7 t8 t9
  have hlen := hlen'
  by_cases hlt : j < L.length
  · have e3 : (j : Int) < L.length := by omega
    have ixl := hsl.ixm (kk := .i64) hlt
    have ldh : ∀ {kk : AHeap}, Ext k kk → loadF (some 3) (elp l 3 j) (fun b => kk[b]?) = some (horA L[j].1 L[j].2, .keep) := fun {kk} e => hsl.ldm hlt e
    have okj := ol.all L[j] (List.getElem_mem hlt)
    have hst := sum_take (L := L.map Prod.fst) (k := j) (by simpa using hlt)
    rw [List.getElem_map] at hst
    have hle : (((L.map Prod.fst).take (j + 1)).map fun H => H.picks.length).sum ≤ 8000 := by
      have := sum_le (L := (L.map Prod.fst).take (j + 1)) fun H hH => (horT_of (h1 H (List.mem_of_mem_take hH))).pl
      have h3 : ((L.map Prod.fst).take (j + 1)).length ≤ 8 := by rw [List.length_take, List.length_map]; omega
      omega
    have w1 : IntKind.i64.wrap (((L.length + (((L.map Prod.fst).take j).map fun H => H.picks.length).sum : Nat) : Int) + ((L[j].1.picks.length : Nat) : Int)) = ((L.length + (((L.map Prod.fst).take (j + 1)).map fun H => H.picks.length).sum : Nat) : Int) := by
      rw [hst] at hle ⊢
      rw [wrap_in (by omega) (by omega)]; omega
    repeat (first | simp (maxSteps := 1000000) only [wset, hset, dset, bset, reduceAdd, reduceMul, reduceLeDiff, reduceEqDiff, pset, hlen, if_false, if_true, u0, u1, u5, u6, u7, u8, u9, u10, u53, u54, u55, e3, decide_true, ixl, ldh, okj.sl.one, okj.sl.lenm, w1, wrapN (show j + 1 < 2 ^ 63 by omega)] | simp (maxSteps := 1000000) (disch := first | (simp only [List.length_append, List.length_cons, List.length_nil] <;> omega) | rfl | omega | fail) only [kset, wset, hset, dset, bset, reduceAdd, reduceMul, reduceLeDiff, reduceEqDiff, pset, hlen, if_false, if_true, u0, u1, u5, u6, u7, u8, u9, u10, u53, u54, u55, e3, decide_true, ixl, ldh, okj.sl.one, okj.sl.lenm, w1, wrapN (show j + 1 < 2 ^ 63 by omega)])
    exact ⟨L.length - (j + 1), by omega, j + 1, by omega, rfl, rfl, rfl⟩
  · have e3 : ¬ (j : Int) < L.length := by omega
    have ej : j = L.length := by omega
    have el : L.length + (((L.map Prod.fst).take j).map fun H => H.picks.length).sum = linesN (L.map Prod.fst) := by
      rw [ej, show L.length = (L.map Prod.fst).length by simp, List.take_length]; rfl
    rw [el] at u10
    repeat (first | simp (maxSteps := 1000000) only [wset, hset, dset, bset, reduceAdd, reduceMul, reduceLeDiff, reduceEqDiff, pset, hlen, if_false, if_true, u0, u1, u5, u6, u7, u8, u9, u10, u53, u54, u55, e3, decide_false] | simp (maxSteps := 1000000) (disch := first | (simp only [List.length_append, List.length_cons, List.length_nil] <;> omega) | rfl | omega | fail) only [kset, wset, hset, dset, bset, reduceAdd, reduceMul, reduceLeDiff, reduceEqDiff, pset, hlen, if_false, if_true, u0, u1, u5, u6, u7, u8, u9, u10, u53, u54, u55, e3, decide_false])
    rw [hRR]
    exact back_C T X K (L1 := L1) hs (by simp only [wset, hset, dset, bset, reduceAdd, reduceMul, reduceLeDiff, reduceEqDiff, pset, hlen, if_false, if_true, u0]) (by simp only [wset, hset, dset, bset, reduceAdd, reduceMul, reduceLeDiff, reduceEqDiff, pset, hlen, if_false, if_true, u0]) (by simp only [wset, hset, dset, bset, reduceAdd, reduceMul, reduceLeDiff, reduceEqDiff, pset, hlen, if_false, if_true, u1]) (by simp only [wset, hset, dset, bset, reduceAdd, reduceMul, reduceLeDiff, reduceEqDiff, pset, hlen, if_false, if_true, u5]) (by simp only [wset, hset, dset, bset, reduceAdd, reduceMul, reduceLeDiff, reduceEqDiff, pset, hlen, if_false, if_true, u6]) (by simp only [wset, hset, dset, bset, reduceAdd, reduceMul, reduceLeDiff, reduceEqDiff, pset, hlen, if_false, if_true, u7]) (by simp only [wset, hset, dset, bset, reduceAdd, reduceMul, reduceLeDiff, reduceEqDiff, pset, hlen, if_false, if_true, u8]) (by simp only [wset, hset, dset, bset, reduceAdd, reduceMul, reduceLeDiff, reduceEqDiff, pset, hlen, if_false, if_true, u9]) (by simp only [wset, hset, dset, bset, reduceAdd, reduceMul, reduceLeDiff, reduceEqDiff, pset, hlen, if_false, if_true, u10]) (e.trans (by repeat first | with_reducible exact Ext.refl _ | refine Ext.app _ ?_)) (ol.ext (by repeat first | with_reducible exact Ext.refl _ | refine Ext.app _ ?_)) (ox.ext (by repeat first | with_reducible exact Ext.refl _ | refine Ext.app _ ?_)) hx hc (w.ext (by repeat first | with_reducible exact Ext.refl _ | refine Ext.app _ ?_))
set_option maxRecDepth 10000 in
set_option maxHeartbeats 2000000 in
theorem r14 (haw : ∀ k, Ext h k → RCall P 15 [] k (fun v _ => v = .bool true)) {L : List (Hor × AV)} {l : AV} (ol : HorsOk h L l) (w : Pw h) (s : List UInt8) :
    RCall P 14 [l, .str s] h (fun v _ => v = .bool true) := by
  refine .of T.mix T.c14 ?_
  obtain ⟨ts, hts⟩ : ∃ ts, ts = startTS 133 [l, .str s] := ⟨_, rfl⟩
  have hlen : ts.length = 133 := by rw [hts]; rfl
  have t0 : slot ts 0 = l := by rw [hts]; rfl
  have t1 : slot ts 1 = .str s := by rw [hts]; rfl
  show WC P inFn (fn14).body [] (startTS 133 [l, .str s]) h _
  obtain ⟨RR, hRR⟩ : ∃ RR, RR = bkT 4 := ⟨_, rfl⟩
  rw [← hts, bk_A, ← hRR]
  clear hts
  unfold bk fn14
  simp only [ICode.dr, ICode.tl, ICode.hd]
  repeat (first | simp (maxSteps := 1000000) only [wset, hset, dset, bset, reduceAdd, reduceMul, reduceLeDiff, reduceEqDiff, pset, hlen, if_false, if_true, t0, t1] | simp (maxSteps := 1000000) (disch := first | (simp only [List.length_append, List.length_cons, List.length_nil] <;> omega) | rfl | omega | fail) only [kset, wset, hset, dset, bset, reduceAdd, reduceMul, reduceLeDiff, reduceEqDiff, pset, hlen, if_false, if_true, t0, t1])
  refine WF.res T.c15 (haw _ (by repeat first | with_reducible exact Ext.refl _ | refine Ext.app _ ?_)) ?_
  rintro _ g1 rfl
  repeat (first | simp (maxSteps := 1000000) only [wset, hset, dset, bset, reduceAdd, reduceMul, reduceLeDiff, reduceEqDiff, pset, hlen, if_false, if_true, t0, t1, Bool.not_true] | simp (maxSteps := 1000000) (disch := first | (simp only [List.length_append, List.length_cons, List.length_nil] <;> omega) | rfl | omega | fail) only [kset, wset, hset, dset, bset, reduceAdd, reduceMul, reduceLeDiff, reduceEqDiff, pset, hlen, if_false, if_true, t0, t1, Bool.not_true])
  refine WF.res T.c17 (r17 T (ol.sl.ext (by repeat first | with_reducible exact Ext.refl _ | refine Ext.app _ ?_)) ol.len (fun y hy => (ol.all y hy).sl.ext (by repeat first | with_reducible exact Ext.refl _ | refine Ext.app _ ?_))) ?_
  rintro _ g2 rfl
  cases hsh : shortAllS (L.map (·.1)) with
  | false =>
    repeat (first | simp (maxSteps := 1000000) only [wset, hset, dset, bset, reduceAdd, reduceMul, reduceLeDiff, reduceEqDiff, pset, hlen, if_false, if_true, t0, t1, Bool.not_false] | simp (maxSteps := 1000000) (disch := first | (simp only [List.length_append, List.length_cons, List.length_nil] <;> omega) | rfl | omega | fail) only [kset, wset, hset, dset, bset, reduceAdd, reduceMul, reduceLeDiff, reduceEqDiff, pset, hlen, if_false, if_true, t0, t1, Bool.not_false])
    refine WF.res T.c15 (haw _ (by repeat first | with_reducible exact Ext.refl _ | refine Ext.app _ ?_)) ?_
    rintro _ g3 rfl
    repeat (first | simp (maxSteps := 1000000) only [wset, hset, dset, bset, reduceAdd, reduceMul, reduceLeDiff, reduceEqDiff, pset, hlen, if_false, if_true, t0] | simp (maxSteps := 1000000) (disch := first | (simp only [List.length_append, List.length_cons, List.length_nil] <;> omega) | rfl | omega | fail) only [kset, wset, hset, dset, bset, reduceAdd, reduceMul, reduceLeDiff, reduceEqDiff, pset, hlen, if_false, if_true, t0])
  | true =>
  repeat (first | simp (maxSteps := 1000000) only [wset, hset, dset, bset, reduceAdd, reduceMul, reduceLeDiff, reduceEqDiff, pset, hlen, if_false, if_true, t0, t1, Bool.not_true] | simp (maxSteps := 1000000) (disch := first | (simp only [List.length_append, List.length_cons, List.length_nil] <;> omega) | rfl | omega | fail) only [kset, wset, hset, dset, bset, reduceAdd, reduceMul, reduceLeDiff, reduceEqDiff, pset, hlen, if_false, if_true, t0, t1, Bool.not_true])
  refine WF.res T.c29 (r29 T (ol.ext (by repeat first | with_reducible exact Ext.refl _ | refine Ext.app _ ?_))) ?_
  rintro _ g3 rfl
  by_cases hc : chkHorsS (L.map Prod.fst) = 0
  case neg =>
    have d1 : decide (chkHorsS (L.map Prod.fst) ≠ 0) = true := decide_eq_true hc
    repeat (first | simp (maxSteps := 1000000) only [wset, hset, dset, bset, reduceAdd, reduceMul, reduceLeDiff, reduceEqDiff, pset, hlen, if_false, if_true, t0, t1, d1] | simp (maxSteps := 1000000) (disch := first | (simp only [List.length_append, List.length_cons, List.length_nil] <;> omega) | rfl | omega | fail) only [kset, wset, hset, dset, bset, reduceAdd, reduceMul, reduceLeDiff, reduceEqDiff, pset, hlen, if_false, if_true, t0, t1, d1])
    refine WF.res T.c15 (haw _ (by repeat first | with_reducible exact Ext.refl _ | refine Ext.app _ ?_)) ?_
    rintro _ g4 rfl
    repeat (first | simp (maxSteps := 1000000) only [wset, hset, dset, bset, reduceAdd, reduceMul, reduceLeDiff, reduceEqDiff, pset, hlen, if_false, if_true, t0] | simp (maxSteps := 1000000) (disch := first | (simp only [List.length_append, List.length_cons, List.length_nil] <;> omega) | rfl | omega | fail) only [kset, wset, hset, dset, bset, reduceAdd, reduceMul, reduceLeDiff, reduceEqDiff, pset, hlen, if_false, if_true, t0])
  have d1 : decide (chkHorsS (L.map Prod.fst) ≠ 0) = false := decide_eq_false (by simp [hc])
  by_cases h3 : 300 < s.length
  · have d3 : decide ((300 : Int) < s.length) = true := decide_eq_true (by omega)
    repeat (first | simp (maxSteps := 1000000) only [wset, hset, dset, bset, reduceAdd, reduceMul, reduceLeDiff, reduceEqDiff, pset, hlen, if_false, if_true, t0, t1, d1, d3] | simp (maxSteps := 1000000) (disch := first | (simp only [List.length_append, List.length_cons, List.length_nil] <;> omega) | rfl | omega | fail) only [kset, wset, hset, dset, bset, reduceAdd, reduceMul, reduceLeDiff, reduceEqDiff, pset, hlen, if_false, if_true, t0, t1, d1, d3])
    refine WF.res T.c15 (haw _ (by repeat first | with_reducible exact Ext.refl _ | refine Ext.app _ ?_)) ?_
    rintro _ g4 rfl
    repeat (first | simp (maxSteps := 1000000) only [wset, hset, dset, bset, reduceAdd, reduceMul, reduceLeDiff, reduceEqDiff, pset, hlen, if_false, if_true, t0] | simp (maxSteps := 1000000) (disch := first | (simp only [List.length_append, List.length_cons, List.length_nil] <;> omega) | rfl | omega | fail) only [kset, wset, hset, dset, bset, reduceAdd, reduceMul, reduceLeDiff, reduceEqDiff, pset, hlen, if_false, if_true, t0])
  · have d3 : decide ((300 : Int) < s.length) = false := decide_eq_false (by omega)
    have hs : s.length ≤ 2 ^ 40 := by omega
    have htl := txS_len hc
    repeat (first | simp (maxSteps := 1000000) only [wset, hset, dset, bset, reduceAdd, reduceMul, reduceLeDiff, reduceEqDiff, pset, hlen, if_false, if_true, t0, t1, d1, d3] | simp (maxSteps := 1000000) (disch := first | (simp only [List.length_append, List.length_cons, List.length_nil] <;> omega) | rfl | omega | fail) only [kset, wset, hset, dset, bset, reduceAdd, reduceMul, reduceLeDiff, reduceEqDiff, pset, hlen, if_false, if_true, t0, t1, d1, d3])
    refine WF.res T.c28 (r28' T (ol.ext (by repeat first | with_reducible exact Ext.refl _ | refine Ext.app _ ?_)) hsh) ?_
    rintro v g4 ⟨L', hm, ol'⟩
    repeat (first | simp (maxSteps := 1000000) only [wset, hset, dset, bset, reduceAdd, reduceMul, reduceLeDiff, reduceEqDiff, pset, hlen, if_false, if_true, t0, t1] | simp (maxSteps := 1000000) (disch := first | (simp only [List.length_append, List.length_cons, List.length_nil] <;> omega) | rfl | omega | fail) only [kset, wset, hset, dset, bset, reduceAdd, reduceMul, reduceLeDiff, reduceEqDiff, pset, hlen, if_false, if_true, t0, t1])
    refine WF.res T.c84 (r84 T K ol' (w.ext (by repeat first | with_reducible exact Ext.refl _ | refine Ext.app _ ?_))) ?_
    rintro _ g5 rfl
    have hm' : L'.map Prod.fst = L.map Prod.fst := hm
    rw [hm', printV, if_pos hc]
    repeat (first | simp (maxSteps := 1000000) only [wset, hset, dset, bset, reduceAdd, reduceMul, reduceLeDiff, reduceEqDiff, pset, hlen, if_false, if_true, t0, t1] | simp (maxSteps := 1000000) (disch := first | (simp only [List.length_append, List.length_cons, List.length_nil] <;> omega) | rfl | omega | fail) only [kset, wset, hset, dset, bset, reduceAdd, reduceMul, reduceLeDiff, reduceEqDiff, pset, hlen, if_false, if_true, t0, t1])
    refine WF.res T.c85 (r85 T X _ (by omega)) ?_
    rintro _ g6 ⟨L1, s1, n1, e1, rfl, o1, hp1⟩
    have ok1 := o1.hors2 (parse_bd hp1)
    rw [parse_print hc] at hp1
    have hL1 : L.map Prod.fst = L1.map Prod.fst := congrArg Prod.fst hp1
    have hn1 : (0 : Nat) = n1 := congrArg (fun x => x.2.1) hp1
    have he1 : (0 : Int) = e1 := congrArg (fun x => x.2.2) hp1
    subst hn1; subst he1
    repeat (first | simp (maxSteps := 1000000) only [wset, hset, dset, bset, reduceAdd, reduceMul, reduceLeDiff, reduceEqDiff, pset, hlen, if_false, if_true, t0, t1] | simp (maxSteps := 1000000) (disch := first | (simp only [List.length_append, List.length_cons, List.length_nil] <;> omega) | rfl | omega | fail) only [kset, wset, hset, dset, bset, reduceAdd, reduceMul, reduceLeDiff, reduceEqDiff, pset, hlen, if_false, if_true, t0, t1])
    rw [hRR]
    exact back_B T X K (L1 := L1) hs (by simp only [wset, hset, dset, bset, reduceAdd, reduceMul, reduceLeDiff, reduceEqDiff, pset, hlen, if_false, if_true, t0]) (by simp only [wset, hset, dset, bset, reduceAdd, reduceMul, reduceLeDiff, reduceEqDiff, pset, hlen, if_false, if_true, t0]) (by simp only [wset, hset, dset, bset, reduceAdd, reduceMul, reduceLeDiff, reduceEqDiff, pset, hlen, if_false, if_true, t1]) (by simp only [wset, hset, dset, bset, reduceAdd, reduceMul, reduceLeDiff, reduceEqDiff, pset, hlen, if_false, if_true, t0]) (by simp only [wset, hset, dset, bset, reduceAdd, reduceMul, reduceLeDiff, reduceEqDiff, pset, hlen, if_false, if_true, t0]) (by simp only [wset, hset, dset, bset, reduceAdd, reduceMul, reduceLeDiff, reduceEqDiff, pset, hlen, if_false, if_true, t0]) (by simp only [wset, hset, dset, bset, reduceAdd, reduceMul, reduceLeDiff, reduceEqDiff, pset, hlen, if_false, if_true] <;> rfl) (by simp only [wset, hset, dset, bset, reduceAdd, reduceMul, reduceLeDiff, reduceEqDiff, pset, hlen, if_false, if_true, t0]) (by repeat first | with_reducible exact Ext.refl _ | refine Ext.app _ ?_) (ol.ext (by repeat first | with_reducible exact Ext.refl _ | refine Ext.app _ ?_)) ok1 hL1.symm hc (w.ext (by repeat first | with_reducible exact Ext.refl _ | refine Ext.app _ ?_))
end
end Go.Abs
