/- The shelf's structure of slices.Sort, laid plain for this program. No condition. And what belongs to it. -/
import Derived.Shelf.Lays
import Derived.Tactics
import Derived.Test.YtbgldbmgjcgepaaGreatDoorProg
import Derived.Test.YtbgldbmgjcgepaaGreatDoorFz12
import Derived.Shelf.Sort.Plain
import Derived.Shelf.Slices.In.SortNone
import Derived.Test.YtbgldbmgjcgepaaGreatDoorFz8
import Derived.Test.YtbgldbmgjcgepaaGreatDoorFz9
set_option linter.all false
namespace Go.Proofs
open Go.Shelf
def Tryz.lays189_ren : Go.Shelf.Ren := ⟨fun | 189 => 189 | 125 => 220 | 257 => 219 | 128 => 245 | 129 => 246 | 294 => 236 | 295 => 237 | 296 => 238 | 297 => 239 | 298 => 240 | 299 => 241 | 216 => 242 | 300 => 243 | 301 => 244 | 328 => 267 | 329 => 268 | 330 => 269 | 331 => 270 | 332 => 271 | 215 => 221 | 343 => 287 | n => n, fun | 28 => 22 | 3 => 3 | 46 => 278 | 0 => 0 | 51 => 295 | 53 => 297 | 4 => 4 | 183 => 288 | 182 => 287 | 131 => 224 | 5 => 5 | 9 => 9 | 218 => 320 | 222 => 324 | 228 => 337 | 229 => 338 | n => n, fun n => n⟩
theorem Tryz.lays189 : Go.Proofs.Lays.n189 Tryz.prog Tryz.lays189_ren := {
  mixed := by kernel_rfl
  f125 := Tryz.func220.trans (congrArg some (by kernel_rfl))
  f128 := Tryz.func245.trans (congrArg some (by kernel_rfl))
  f129 := Tryz.func246.trans (congrArg some (by kernel_rfl))
  f189 := Tryz.func189.trans (congrArg some (by kernel_rfl))
  f215 := Tryz.func221.trans (congrArg some (by kernel_rfl))
  f216 := Tryz.func242.trans (congrArg some (by kernel_rfl))
  f257 := Tryz.func219.trans (congrArg some (by kernel_rfl))
  f294 := Tryz.func236.trans (congrArg some (by kernel_rfl))
  f295 := Tryz.func237.trans (congrArg some (by kernel_rfl))
  f296 := Tryz.func238.trans (congrArg some (by kernel_rfl))
  f297 := Tryz.func239.trans (congrArg some (by kernel_rfl))
  f298 := Tryz.func240.trans (congrArg some (by kernel_rfl))
  f299 := Tryz.func241.trans (congrArg some (by kernel_rfl))
  f300 := Tryz.func243.trans (congrArg some (by kernel_rfl))
  f301 := Tryz.func244.trans (congrArg some (by kernel_rfl))
  f328 := Tryz.func267.trans (congrArg some (by kernel_rfl))
  f329 := Tryz.func268.trans (congrArg some (by kernel_rfl))
  f330 := Tryz.func269.trans (congrArg some (by kernel_rfl))
  f331 := Tryz.func270.trans (congrArg some (by kernel_rfl))
  f332 := Tryz.func271.trans (congrArg some (by kernel_rfl))
  f343 := Tryz.func287.trans (congrArg some (by kernel_rfl))
  t0 := Tryz.underlying0
  a0 := Tryz.isAgg0
  z0 := Tryz.sizeOf0
  v0 := Tryz.zeroValue0
  t3 := Tryz.underlying3
  a3 := Tryz.isAgg3
  z3 := Tryz.sizeOf3
  v3 := Tryz.zeroValue3
  t4 := Tryz.underlying4
  a4 := Tryz.isAgg4
  z4 := Tryz.sizeOf4
  v4 := Tryz.zeroValue4
  t5 := Tryz.underlying5
  a5 := Tryz.isAgg5
  z5 := Tryz.sizeOf5
  v5 := Tryz.zeroValue5
  t9 := Tryz.underlying9
  a9 := Tryz.isAgg9
  z9 := Tryz.sizeOf9
  v9 := Tryz.zeroValue9
  t28 := Tryz.underlying22
  a28 := Tryz.isAgg22
  z28 := Tryz.sizeOf22
  v28 := Tryz.zeroValue22
  t46 := Tryz.underlying278
  a46 := Tryz.isAgg278
  z46 := Tryz.sizeOf278
  v46 := Tryz.zeroValue278
  t51 := Tryz.underlying295
  a51 := Tryz.isAgg295
  z51 := Tryz.sizeOf295
  v51 := Tryz.zeroValue295
  t53 := Tryz.underlying297
  a53 := Tryz.isAgg297
  z53 := Tryz.sizeOf297
  v53 := Tryz.zeroValue297
  t131 := Tryz.underlying224
  a131 := Tryz.isAgg224
  z131 := Tryz.sizeOf224
  v131 := Tryz.zeroValue224
  t182 := Tryz.underlying287
  a182 := Tryz.isAgg287
  z182 := Tryz.sizeOf287
  v182 := Tryz.zeroValue287
  t183 := Tryz.underlying288
  a183 := Tryz.isAgg288
  z183 := Tryz.sizeOf288
  v183 := Tryz.zeroValue288
  t218 := Tryz.underlying320
  a218 := Tryz.isAgg320
  z218 := Tryz.sizeOf320
  v218 := Tryz.zeroValue320
  t222 := Tryz.underlying324
  a222 := Tryz.isAgg324
  z222 := Tryz.sizeOf324
  v222 := Tryz.zeroValue324
  t228 := Tryz.underlying337
  a228 := Tryz.isAgg337
  z228 := Tryz.sizeOf337
  v228 := Tryz.zeroValue337
  t229 := Tryz.underlying338
  a229 := Tryz.isAgg338
  z229 := Tryz.sizeOf338
  v229 := Tryz.zeroValue338 }
end Go.Proofs
namespace Go.Abs
theorem ints_VRs (m : Emb) : ∀ zs : List Int, VRs m (zs.map (AV.int .i64)) (zs.map (Value.int .i64))
  | [] => by rw [List.map_nil, VRs_nil]; rfl
  | z :: zs => VRs_cons.2 ⟨_, _, rfl, rfl, ints_VRs m zs⟩
open Go.RowKit Go.Sort in
theorem sort_ok {h : AHeap} {b o : Nat} {c : List AV} {tl : Bool} {zs : List Int} (hb : h[b]? = some (.cells c true tl)) (hle : o + zs.length ≤ c.length) (hc : (c.drop o).take zs.length = zs.map (AV.int .i64)) (hz : zs.length < 4611686018427387904) :
    SCall Go.Proofs.Tryz.prog 189 [.slice b o zs.length 1] h (.tup []) (h.set b (.cells (setL c o ((sortI zs).map (AV.int .i64))) true tl)) := by
  intro m w vs hr ha
  obtain ⟨v, vs1, rfl, hv, hr1⟩ := VRs_cons.1 ha
  rw [VRs_nil] at hr1
  subst hr1
  rw [VR] at hv
  obtain ⟨ent, ca, cap, he, rfl, hcap, hca, hsz⟩ := hv
  obtain ⟨cc, el, fz, hw, ⟨hle1, hle2⟩, hget, hown, hmt⟩ := hr.blk b ent _ he hb
  obtain ⟨hs, hfz⟩ := hown (hmt (.inl rfl)).1
  have hlt := hr.lt b ent he
  by_cases h0 : zs.length = 0
  · have hz0 := List.length_eq_zero_iff.1 h0
    subst hz0
    have hset : h.set b (.cells (setL c o ((sortI []).map (AV.int .i64))) true tl) = h := by
      apply List.ext_getElem?
      intro i
      rw [getElem?_set_blk h b i _ (hr.dom _ _ he)]
      by_cases hi : i = b
      · subst hi; simp [hb, sortI, setL]
      · simp [hi]
    rw [hset]
    refine (Go.Proofs.Any.slices_Sort_int_none Go.Proofs.Tryz.lays189 (some ca) cap w).mono ?_
    rintro e w' ⟨rfl, rfl⟩
    exact ⟨_, m, rfl, ⟨[], rfl, rfl⟩, hr, Grow.refl m h _ hr.dom⟩
  · have hca' := hca (by omega)
    subst hca'
    have hci : ∀ j (hj : j < zs.length), cc[ent.d + (o + j)]? = some (.int .i64 zs[j]) := fun j hj => by
      have : ((c.drop o).take zs.length)[j]? = some (.int .i64 zs[j]) := by rw [hc, List.getElem?_map, List.getElem?_eq_getElem hj]; rfl
      rw [List.getElem?_take_of_lt hj, List.getElem?_drop] at this
      obtain ⟨_, cv, hcv, hvr⟩ := hget _ _ this
      rw [VR] at hvr
      rw [hcv, hvr]
    have key := Go.Proofs.Any.slices_Sort_int Go.Proofs.Tryz.lays189 ent.cb (o + ent.d) cap zs w (by
      intro j hj
      have hj' : j < zs.length := by simpa using hj
      refine ⟨?_, frozen_false hw (hfz _ (by omega))⟩
      have e1 : zs.toArray[j]! = zs[j] := by simp [hj']
      simp only [World.cell?, hw, Option.isSome_none, Bool.false_eq_true, if_false]
      rw [show o + ent.d + j = ent.d + (o + j) by omega, hci j hj', e1]) hlt hz
    rw [sortI_eq] at key
    refine key.mono ?_
    rintro e w' ⟨rfl, n, os, rfl⟩
    have hsl := sortI_len zs
    obtain ⟨w1, hrun1, hr1, hg1⟩ := storeN_ok ((sortI zs).map (AV.int .i64)) _ hr he hb o 0 (by simp only [List.length_map, hsl]; omega) (by simp [AV.one]) (ints_VRs m (sortI zs))
    obtain ⟨w2, cc2, hrun2, hw2, hs2, hc2, hoth, hsz2, -, -, -⟩ := store_raw (P := Go.Proofs.Tryz.prog) ((sortI zs).map (Value.int .i64)) (o + ent.d) 0 cc w hw (by simp only [List.length_map, hsl]; omega) hfz (by simp [Value.oneCell'])
    rw [hrun1] at hrun2
    cases hrun2
    have hput : putCells (Value.int .i64) (o + ent.d) (sortI zs).toArray cc = cc2 := by
      apply Array.ext_getElem?
      intro i
      rw [hc2 i]
      unfold putCells
      rw [Array.getElem?_mapIdx]
      simp only [Nat.add_zero, List.length_map, List.size_toArray]
      by_cases hi : o + ent.d ≤ i ∧ i < o + ent.d + (sortI zs).length
      · rw [if_pos hi, List.getElem?_map, List.getElem?_eq_getElem (show i - (o + ent.d) < (sortI zs).length by omega)]
        rw [Array.getElem?_eq_getElem (show i < cc.size by omega), Option.map_some, if_pos hi, Option.map_some]
        congr 2
        rw [List.getElem!_toArray, List.getElem!_eq_getElem?_getD, List.getElem?_eq_getElem (by omega), Option.getD_some]
      · rw [if_neg hi]
        cases hx : cc[i]? with
        | none => rfl
        | some x => rw [Option.map_some, if_neg hi]
    have hheap : ∀ i, i < w.heap.size → (grow (putRow (Value.int .i64) (Sort.ahead w n) ent.cb (o + ent.d) (sortI zs).toArray) os).heap[i]? = w1.heap[i]? := fun i hi => by
      have e0 : (grow (putRow (Value.int .i64) (Sort.ahead w n) ent.cb (o + ent.d) (sortI zs).toArray) os).heap = (w.heap.modify ent.cb (onCells (putCells (Value.int .i64) (o + ent.d) (sortI zs).toArray))) ++ os := rfl
      rw [e0, Array.getElem?_append_left (by simpa using hi), Array.getElem?_modify]
      by_cases hcb : ent.cb = i
      · subst hcb
        rw [if_pos rfl, hw, hw2, Option.map_some]
        simp only [onCells, hput]
      · rw [if_neg hcb, hoth i (fun x => hcb x.symm)]
    have hsize : w.heap.size ≤ (grow (putRow (Value.int .i64) (Sort.ahead w n) ent.cb (o + ent.d) (sortI zs).toArray) os).heap.size := by
      have e0 : (grow (putRow (Value.int .i64) (Sort.ahead w n) ent.cb (o + ent.d) (sortI zs).toArray) os).heap = (w.heap.modify ent.cb (onCells (putCells (Value.int .i64) (o + ent.d) (sortI zs).toArray))) ++ os := rfl
      rw [e0]; simp
    have hr1' := hr1
    have hg1' := hg1
    rw [Nat.add_zero] at hr1' hg1'
    refine ⟨_, m, rfl, ⟨[], rfl, rfl⟩, ⟨hr1'.dom, fun b' e' k' a1 a2 => (hr1'.blk b' e' k' a1 a2).heap (hheap _ (hr.lt b' e' a1)), hr1'.sep, hr1'.glob, fun b' e' a1 => Nat.lt_of_lt_of_le (hr.lt b' e' a1) hsize⟩,
      ⟨hg1'.ext, hg1'.len, fun b' e' a1 a2 => absurd (hr.dom b' e' a2) (by omega), hg1'.tl, hsize, rfl, rfl, rfl, fun i hi hno => (hheap i hi).trans (hg1'.frame i hi hno)⟩⟩
theorem sort_nil {h : AHeap} : SCall Go.Proofs.Tryz.prog 189 [.nilSlice] h (.tup []) h := by
  intro m w vs hr ha
  obtain ⟨v, vs1, rfl, hv, hr1⟩ := VRs_cons.1 ha
  rw [VRs_nil] at hr1
  subst hr1
  rw [VR] at hv
  subst hv
  refine (Go.Proofs.Any.slices_Sort_int_none Go.Proofs.Tryz.lays189 none 0 w).mono ?_
  rintro e w' ⟨rfl, rfl⟩
  exact ⟨_, m, rfl, ⟨[], rfl, rfl⟩, hr, Grow.refl m h _ hr.dom⟩
theorem len3 {nn : List Int} (h : nn.length = 3) : ∃ a b c, nn = [a, b, c] := by
  match nn, h with
  | [a, b, c], _ => exact ⟨a, b, c, rfl⟩
theorem srt : SrtOk Go.Proofs.Tryz.prog := ⟨sort_ok, sort_nil⟩
end Go.Abs
namespace Go.Abs
theorem i16_bd {z : Int} (h : (Lit.int .i16 z).wf = true) : -32768 ≤ z ∧ z ≤ 32767 := by
  simp only [Lit.wf, Bool.and_eq_true, decide_eq_true_eq] at h
  exact ⟨h.1, h.2⟩
end Go.Abs
