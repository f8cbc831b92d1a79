import Derived.Test.YtjhdkimkijhloaaGreatDoorBk8
import Derived.Test.YtjhdkimkijhloaaGreatDoorBk9
import Derived.Test.YtjhdkimkijhloaaGreatDoorBk10
import Derived.Test.YtjhdkimkijhloaaGreatDoorBk4
import Derived.Shelf.Lays
import Derived.Tactics
import Derived.Test.YtjhdkimkijhloaaGreatDoorProg
import Derived.Shelf.Sort.Plain
import Derived.Shelf.Slices.In.SortNone
import Derived.Shelf.LaysM
import Derived.Shelf.Strconv.Itoa3
set_option linter.all false
namespace Go.Abs
theorem SCall.forget {P : Program} {f : FuncId} {args : List AV} {h g : AHeap} {v : AV} (hs : SCall P f args h v (h ++ g)) (hv : clos 0 v) : SCall P f args h v h := by
  intro m w vs hr ha
  obtain ⟨mv, vv, hdv, hvv⟩ := hv
  have hc := hs m w vs hr ha
  rw [← callsIn_wide (n := 0)] at hc ⊢
  refine hc.mono ?_
  rintro e w' ⟨cv, m1, rfl, h1, h2, h3⟩
  have hm : m1.upTo h.length = m := by
    funext b
    unfold Emb.upTo
    by_cases hb : b < h.length
    · rw [if_pos hb, h3.ext b hb]
    · rw [if_neg hb]
      cases hx : m b with
      | none => rfl
      | some e => exact absurd (hr.dom b e hx) hb
  have hgl : P.globals.size ≤ h.length := by
    by_cases h0 : P.globals.size = 0
    · omega
    · obtain ⟨e, he, _⟩ := hr.glob (P.globals.size - 1) (by omega)
      have := hr.dom _ _ he
      omega
  have hup := h2.upTo hgl (fun b e k hb hmb hk => (hr.blk b e k (by rw [← h3.ext b hb]; exact hmb) hk).clos hr.dom)
  rw [hm] at hup
  exact ⟨cv, m, rfl, VR.mono (Emb.upTo_zero m1 m) _ _ (VR.cut hdv v vv cv hvv h1), hup, ⟨fun _ _ => rfl, Nat.le_refl _, fun b e hb he => absurd (hr.dom b e he) (by omega), fun _ _ h => h, h3.size, h3.os, h3.out, h3.tape, h3.frame⟩⟩
theorem clos_int (k : IntKind) (n : Int) : clos 0 (.int k n) := ⟨fun _ => none, .int k n, by simp, by rw [VR]⟩
theorem clos_bool (b : Bool) : clos 0 (.bool b) := ⟨fun _ => none, .bool b, by simp, by rw [VR]⟩
theorem clos_rat (x : Int × Int) : clos 0 (ratA x) := ⟨fun _ => none, .agg ⟨[.int .i64 x.1, .int .i64 x.2]⟩, by simp, ⟨_, rfl, VRs_cons.2 ⟨_, _, rfl, rfl, VRs_cons.2 ⟨_, _, rfl, rfl, rfl⟩⟩⟩⟩
theorem clos_rat_int (x : Int × Int) (k : IntKind) (n : Int) : clos 0 (.tup [ratA x, .int k n]) := ⟨fun _ => none, .tuple ⟨[.agg ⟨[.int .i64 x.1, .int .i64 x.2]⟩, .int k n]⟩, by simp, ⟨_, rfl, VRs_cons.2 ⟨_, _, rfl, ⟨_, rfl, VRs_cons.2 ⟨_, _, rfl, rfl, VRs_cons.2 ⟨_, _, rfl, rfl, rfl⟩⟩⟩, VRs_cons.2 ⟨_, _, rfl, rfl, rfl⟩⟩⟩⟩
def chunks (es : Nat) : Nat → List AV → List (List AV)
  | 0, _ => []
  | n + 1, c => c.take es :: chunks es n (c.drop es)
def rowsOf (G : Nat → Option ABlk) (es : Nat) (s : AV) : Option (List (List AV)) :=
  match s with
  | .nilSlice => some []
  | .slice b o n es' =>
    if es' = es then
      match G b with
      | some (.cells c _ _) => if o + n * es ≤ c.length then some (chunks es n (c.drop o)) else none
      | _ => none
    else none
  | _ => none
theorem chunks_len {es : Nat} : ∀ {n : Nat} {c : List AV}, (chunks es n c).length = n
  | 0, _ => rfl
  | n + 1, c => by simp [chunks, chunks_len]
theorem chunks_flat {es : Nat} : ∀ {n : Nat} {c : List AV}, n * es ≤ c.length → (chunks es n c).flatten = c.take (n * es) ∧ ∀ x ∈ chunks es n c, x.length = es
  | 0, c, _ => by simp [chunks]
  | n + 1, c, h => by
    have hs : (n + 1) * es = es + n * es := by rw [Nat.succ_mul, Nat.add_comm]
    obtain ⟨h1, h2⟩ := chunks_flat (es := es) (n := n) (c := c.drop es) (by rw [List.length_drop]; omega)
    refine ⟨?_, fun x hx => ?_⟩
    · rw [chunks, List.flatten_cons, h1, hs, List.take_add]
    · rcases List.mem_cons.1 hx with rfl | hx
      · rw [List.length_take]; omega
      · exact h2 x hx
theorem rowsOf_ok {h : AHeap} {es : Nat} {s : AV} {r : List (List AV)} (hs : rowsOf (fun b => h[b]?) es s = some r) : IsSl h s es r := by
  cases s with
  | nilSlice => cases hs; exact .nil
  | slice b o n es' =>
    simp only [rowsOf] at hs
    by_cases he : es' = es
    · subst he
      rw [if_pos rfl] at hs
      cases hb : h[b]? with
      | none => rw [hb] at hs; cases hs
      | some k =>
        rw [hb] at hs
        cases k with
        | cells c mu tl =>
          simp only at hs
          by_cases hl : o + n * es' ≤ c.length
          · rw [if_pos hl] at hs
            cases hs
            obtain ⟨h1, h2⟩ := chunks_flat (es := es') (n := n) (c := c.drop o) (by rw [List.length_drop]; omega)
            have := IsSl.mk (h := h) (b := b) (o := o) (es := es') (cs := chunks es' n (c.drop o)) hb (by rw [chunks_len]; exact h1.symm) (by rw [chunks_len]; exact hl) h2
            rw [chunks_len] at this
            exact this
          · rw [if_neg hl] at hs; cases hs
        | _ => cases hs
    · rw [if_neg he] at hs; cases hs
  | _ => cases hs
theorem IsSl.inv {h : AHeap} {b o n e es : Nat} {cs : List (List AV)} (hs : IsSl h (.slice b o n e) es cs) : n = cs.length ∧ ∃ c mu tl, h[b]? = some (.cells c mu tl) ∧ (c.drop o).take (cs.length * es) = cs.flatten := by
  generalize hx : AV.slice b o n e = x at hs
  cases hs with
  | nil => cases hx
  | mk hb hf ho he => cases hx; exact ⟨rfl, _, _, _, hb, hf⟩
def decL {α : Type} (f : List AV → Option α) : List (List AV) → Option (List α)
  | [] => some []
  | x :: xs =>
    match f x, decL f xs with
    | some y, some ys => some (y :: ys)
    | _, _ => none
theorem decL_ok {α : Type} {f : List AV → Option α} {row : α → List AV} (hf : ∀ x y, f x = some y → x = row y) : ∀ {l : List (List AV)} {r : List α}, decL f l = some r → l = r.map row
  | [], r, h => by cases h; rfl
  | x :: xs, r, h => by
    unfold decL at h
    split at h
    case h_2 => cases h
    rename_i y ys h1 h2
    cases h
    rw [List.map_cons, hf x y h1, decL_ok hf h2]
theorem decL_all {α : Type} {f : List AV → Option α} {p : α → Prop} (hf : ∀ x y, f x = some y → p y) : ∀ {l : List (List AV)} {r : List α}, decL f l = some r → ∀ y ∈ r, p y
  | [], r, h, y, hy => by cases h; simp at hy
  | x :: xs, r, h, y, hy => by
    unfold decL at h
    split at h
    case h_2 => cases h
    rename_i z zs h1 h2
    cases h
    rcases List.mem_cons.1 hy with rfl | hy
    · exact hf x _ h1
    · exact decL_all hf h2 y hy
def dec2 : List AV → Option (Int × Int)
  | [.int .i64 a, .int .i64 b] => some (a, b)
  | _ => none
def dec4 : List AV → Option Wl
  | [.int .i64 a, .int .i64 b, .int .i64 c, .int .i64 d] => some ⟨a, b, c, d⟩
  | _ => none
def decS : List AV → Option (List UInt8)
  | [.str s] => some s
  | _ => none
def decH (G : Nat → Option ABlk) : List AV → Option (Hor × AV)
  | [.str n, .int .i64 e, s] =>
    match rowsOf G 2 s with
    | some r =>
      match decL dec2 r with
      | some ps => if ps.length < 2 ^ 63 ∧ n.length < 2 ^ 63 then some (⟨n, e, ps⟩, s) else none
      | none => none
    | none => none
  | _ => none
theorem dec2_ok (x : List AV) (y : Int × Int) (h : dec2 x = some y) : x = ratRow y := by
  unfold dec2 at h
  split at h <;> cases h
  rfl
theorem dec4_ok (x : List AV) (y : Wl) (h : dec4 x = some y) : x = wlRow y := by
  unfold dec4 at h
  split at h <;> cases h
  rfl
theorem decS_ok (x : List AV) (y : List UInt8) (h : decS x = some y) : x = [.str y] := by
  unfold decS at h
  split at h <;> cases h
  rfl
theorem decH_ok {h : AHeap} (x : List AV) (y : Hor × AV) (hx : decH (fun b => h[b]?) x = some y) : x = horRow y ∧ HorOk h y.1 y.2 := by
  unfold decH at hx
  split at hx
  case h_2 => cases hx
  split at hx
  case h_2 => cases hx
  rename_i r hr
  split at hx
  case h_2 => cases hx
  rename_i ps hps
  split at hx
  case isFalse => cases hx
  rename_i hc
  cases hx
  have := rowsOf_ok hr
  rw [decL_ok dec2_ok hps] at this
  exact ⟨rfl, this, hc.1, hc.2⟩
def facE (args : List AV) (G : Nat → Option ABlk) : Option (AV × Eff) :=
  match args with
  | [s, sv, sw] =>
    match rowsOf G 3 s, rowsOf G 2 sv, rowsOf G 4 sw with
    | some a, some b, some c =>
      match decL (decH G) a, decL dec2 b, decL dec4 c with
      | some L, some V, some W => if L.length < 2 ^ 63 ∧ V.length ≤ 2 ^ 40 then some (.tup [ratA (factorsS (L.map (·.1)) V W).1, .int .i64 (factorsS (L.map (·.1)) V W).2], .keep) else none
      | _, _, _ => none
    | _, _, _ => none
  | _ => none
theorem facE_ok {P : Program} (T : Tbl P) {args : List AV} {h : AHeap} {v : AV} {e : Eff} (he : facE args (fun b => h[b]?) = some (v, e)) : SCall P 45 args h v (e.app h) := by
  unfold facE at he
  split at he
  case h_2 => cases he
  rename_i s sv sw
  split at he
  case h_2 => cases he
  rename_i a b c ha hb hc
  split at he
  case h_2 => cases he
  rename_i L V W hL hV hW
  split at he
  case isFalse => cases he
  rename_i hl
  cases he
  have h1 := rowsOf_ok ha
  have h2 := rowsOf_ok hb
  have h3 := rowsOf_ok hc
  rw [decL_ok (fun x y hx => (decH_ok x y hx).1) hL] at h1
  rw [decL_ok dec2_ok hV] at h2
  rw [decL_ok dec4_ok hW] at h3
  obtain ⟨v', g, hs, rfl⟩ := r45 T ⟨h1, hl.1, decL_all (fun x y hx => (decH_ok x y hx).2) hL⟩ h2 hl.2 h3
  exact hs.forget (clos_rat_int _ _ _)
theorem strs_flat : ∀ xs : List (List UInt8), (xs.map fun x => [AV.str x]).flatten = xs.map AV.str
  | [] => rfl
  | x :: xs => by rw [List.map_cons, List.flatten_cons, strs_flat xs]; rfl
def joinE (args : List AV) (G : Nat → Option ABlk) : Option (AV × Eff) :=
  match args with
  | [s, .str sep] =>
    match rowsOf G 1 s with
    | some a =>
      match decL decS a with
      | some xs => if (Lib.join xs sep).length ≤ 140737488355328 ∧ xs.length ≤ 140737488355328 then some (.str (Lib.join xs sep), .keep) else none
      | none => none
    | none => none
  | _ => none
open Go.RowKit in
theorem joinE_ok {args : List AV} {h : AHeap} {v : AV} {e : Eff} (he : joinE args (fun b => h[b]?) = some (v, e)) : SCall Go.Proofs.Tryz.prog 149 args h v (e.app h) := by
  unfold joinE at he
  split at he
  case h_2 => cases he
  rename_i s sep
  split at he
  case h_2 => cases he
  rename_i a ha
  split at he
  case h_2 => cases he
  rename_i xs hxs
  split at he
  case isFalse => cases he
  rename_i hl
  cases he
  have hs := rowsOf_ok ha
  rw [decL_ok decS_ok hxs] at hs
  intro m w vs hr hargs
  obtain ⟨v1, vs1, rfl, hv1, hr1⟩ := VRs_cons.1 hargs
  obtain ⟨v2, vs2, rfl, hv2, hr2⟩ := VRs_cons.1 hr1
  rw [VRs_nil] at hr2
  subst hr2
  rw [VR] at hv2
  subst hv2
  have fin : ∀ e w', (e = .returned (.string ⟨(Lib.join xs sep).toArray⟩) ∧ Below w.heap.size w w') → Rel Go.Proofs.Tryz.prog m h w (.str (Lib.join xs sep)) h e w' := by
    rintro e w' ⟨rfl, hb⟩
    exact ⟨_, m, rfl, rfl, ⟨hr.dom, fun b e k h1 h2 => (hr.blk b e k h1 h2).heap (hb.block _ (hr.lt b e h1)), hr.sep, hr.glob, fun b e h1 => Nat.lt_of_lt_of_le (hr.lt b e h1) hb.size⟩,
      ⟨fun _ _ => rfl, Nat.le_refl _, fun b e h1 h2 => absurd (hr.dom b e h2) (by omega), fun _ _ h => h, hb.size, hb.os, hb.output, hb.tape, fun i hi _ => hb.block i hi⟩⟩
  have zero : xs = [] → ∀ (a : Option Addr) (c : Nat), Calls Go.Proofs.Tryz.prog 149 #[.slice a 0 c, .string ⟨⟨sep⟩⟩] w (Rel Go.Proofs.Tryz.prog m h w (.str (Lib.join xs sep)) h) := fun hx a c => by
    refine (Go.Proofs.Tryz.strings_Join_none a c ⟨⟨sep⟩⟩ w).mono fun e w' ⟨he, hw⟩ => fin e w' ⟨?_, hw ▸ Below.refl _ _⟩
    rw [he, hx]; rfl
  have hlen := hs.lenm (fun _ => none)
  cases s with
  | nilSlice =>
    rw [VR] at hv1
    subst hv1
    simp only [Go.Abs.lenG, if_true, Option.some.injEq] at hlen
    exact zero (List.length_eq_zero_iff.1 hlen.symm) none 0
  | slice b o n es =>
    simp only [Go.Abs.lenG, if_true, Option.some.injEq] at hlen
    subst hlen
    rw [VR] at hv1
    obtain ⟨ent, ca, cap, he, rfl, hcap, hca, hsz⟩ := hv1
    by_cases hz : xs.length = 0
    · have hz' := List.length_eq_zero_iff.1 hz
      have := zero hz' (some ca) cap
      rw [hz]
      exact this
    · have hca' := hca (by omega)
      subst hca'
      generalize hcs : xs.map (fun x => [AV.str x]) = cs at hs
      have hcl : cs.length = xs.length := by rw [← hcs]; simp
      obtain ⟨_, c, mu, tl, hb, hf⟩ := hs.inv
      · obtain ⟨cc, el, fz, hheap, _, hcell, _⟩ := hr.blk b ent _ he hb
        have key := Go.Proofs.Tryz.strings_Join ent.cb (o + ent.d) cap (xs.map fun l => ⟨⟨l⟩⟩) ⟨⟨sep⟩⟩ w ?_ (hr.lt b ent he) (by rw [List.length_map]; exact hl.2) (by rw [List.length_map]; omega) ?_
        · rw [List.length_map] at key
          refine key.mono fun e w' ⟨he, hw⟩ => fin e w' ⟨?_, hw⟩
          rw [he, List.map_map]
          simp [Function.comp_def]
        · intro j x hx
          rw [List.getElem?_map, Option.map_eq_some_iff] at hx
          obtain ⟨l, hl', rfl⟩ := hx
          have hj : j < xs.length := (List.getElem?_eq_some_iff.1 hl').1
          have hflat : cs.flatten[j]? = some (.str l) := by
            rw [← hcs]
            have := strs_flat xs
            rw [this, List.getElem?_map, hl']; rfl
          rw [← hf, List.getElem?_take, if_pos (by omega), List.getElem?_drop] at hflat
          obtain ⟨_, cv, hcv, hvr⟩ := hcell _ _ hflat
          rw [VR] at hvr
          subst hvr
          simp only [World.cell?, hheap, Option.isSome_none, Bool.false_eq_true, if_false]
          rw [show o + ent.d + j = ent.d + (o + j) by omega]; exact hcv
        · rw [List.map_map]
          simpa [Function.comp_def] using hl.1
  | _ => cases hs
end Go.Abs
namespace Go.Abs
def insI (x : Int) : List Int → List Int
  | [] => [x]
  | y :: ys => if x ≤ y then x :: y :: ys else y :: insI x ys
def sortI : List Int → List Int
  | [] => []
  | x :: xs => insI x (sortI xs)
theorem insI_perm (x : Int) : ∀ l, (insI x l).Perm (x :: l)
  | [] => .refl _
  | y :: ys => by
    unfold insI
    split
    · exact .refl _
    · exact ((insI_perm x ys).cons y).trans (.swap x y ys)
theorem sortI_perm : ∀ l, (sortI l).Perm l
  | [] => .refl _
  | x :: xs => (insI_perm x _).trans ((sortI_perm xs).cons x)
theorem insI_sorted (x : Int) : ∀ l, l.Pairwise (· ≤ ·) → (insI x l).Pairwise (· ≤ ·)
  | [], _ => by simp [insI]
  | y :: ys, h => by
    obtain ⟨h1, h2⟩ := List.pairwise_cons.1 h
    unfold insI
    split
    · rename_i hxy
      refine List.pairwise_cons.2 ⟨fun z hz => ?_, h⟩
      rcases List.mem_cons.1 hz with rfl | hz
      · exact hxy
      · exact Int.le_trans hxy (h1 z hz)
    · rename_i hxy
      refine List.pairwise_cons.2 ⟨fun z hz => ?_, insI_sorted x ys h2⟩
      rcases List.mem_cons.1 ((insI_perm x ys).mem_iff.1 hz) with rfl | hz
      · omega
      · exact h1 z hz
theorem sortI_sorted : ∀ l, (sortI l).Pairwise (· ≤ ·)
  | [] => .nil
  | x :: xs => insI_sorted x _ (sortI_sorted xs)
theorem sortI_eq (l : List Int) : (l.mergeSort fun x y => decide (x ≤ y)) = sortI l := by
  have hm : (l.mergeSort fun x y => decide (x ≤ y)).Pairwise (· ≤ ·) := by
    have := List.pairwise_mergeSort (le := fun x y : Int => decide (x ≤ y)) (fun a b c h1 h2 => by simp only [decide_eq_true_eq] at *; omega) (fun a b => by simp only [Bool.or_eq_true, decide_eq_true_eq]; omega) l
    exact this.imp (fun h => by simpa using h)
  exact List.Perm.eq_of_pairwise (le := (· ≤ ·)) (fun a b _ _ h1 h2 => by omega) hm (sortI_sorted l) ((List.mergeSort_perm l _).trans (sortI_perm l).symm)
theorem sortI_len (l : List Int) : (sortI l).length = l.length := (sortI_perm l).length_eq
end Go.Abs
namespace Go.Proofs
open Go.Shelf
def Tryz.lays189_ren : Go.Shelf.Ren := ⟨fun | 189 => 182 | 125 => 205 | 257 => 204 | 128 => 226 | 129 => 227 | 294 => 217 | 295 => 218 | 296 => 219 | 297 => 220 | 298 => 221 | 299 => 222 | 216 => 223 | 300 => 224 | 301 => 225 | 328 => 235 | 329 => 236 | 330 => 237 | 331 => 238 | 332 => 239 | 215 => 206 | 343 => 248 | n => n, fun | 28 => 58 | 3 => 3 | 46 => 283 | 0 => 0 | 51 => 298 | 53 => 300 | 4 => 4 | 183 => 291 | 182 => 290 | 131 => 147 | 5 => 5 | 9 => 9 | 218 => 307 | 222 => 311 | 228 => 319 | 229 => 243 | n => n, fun n => n⟩
theorem Tryz.lays189 : Go.Proofs.Lays.n189 Tryz.prog Tryz.lays189_ren := {
  mixed := by kernel_rfl
  f125 := Tryz.func205.trans (congrArg some (by kernel_rfl))
  f128 := Tryz.func226.trans (congrArg some (by kernel_rfl))
  f129 := Tryz.func227.trans (congrArg some (by kernel_rfl))
  f189 := Tryz.func182.trans (congrArg some (by kernel_rfl))
  f215 := Tryz.func206.trans (congrArg some (by kernel_rfl))
  f216 := Tryz.func223.trans (congrArg some (by kernel_rfl))
  f257 := Tryz.func204.trans (congrArg some (by kernel_rfl))
  f294 := Tryz.func217.trans (congrArg some (by kernel_rfl))
  f295 := Tryz.func218.trans (congrArg some (by kernel_rfl))
  f296 := Tryz.func219.trans (congrArg some (by kernel_rfl))
  f297 := Tryz.func220.trans (congrArg some (by kernel_rfl))
  f298 := Tryz.func221.trans (congrArg some (by kernel_rfl))
  f299 := Tryz.func222.trans (congrArg some (by kernel_rfl))
  f300 := Tryz.func224.trans (congrArg some (by kernel_rfl))
  f301 := Tryz.func225.trans (congrArg some (by kernel_rfl))
  f328 := Tryz.func235.trans (congrArg some (by kernel_rfl))
  f329 := Tryz.func236.trans (congrArg some (by kernel_rfl))
  f330 := Tryz.func237.trans (congrArg some (by kernel_rfl))
  f331 := Tryz.func238.trans (congrArg some (by kernel_rfl))
  f332 := Tryz.func239.trans (congrArg some (by kernel_rfl))
  f343 := Tryz.func248.trans (congrArg some (by kernel_rfl))
  t0 := Tryz.underlying0
  a0 := Tryz.isAgg0
  z0 := Tryz.sizeOf0
  v0 := Tryz.zeroValue0
  t3 := Tryz.underlying3
  a3 := Tryz.isAgg3
  z3 := Tryz.sizeOf3
  v3 := Tryz.zeroValue3
  t4 := Tryz.underlying4
  a4 := Tryz.isAgg4
  z4 := Tryz.sizeOf4
  v4 := Tryz.zeroValue4
  t5 := Tryz.underlying5
  a5 := Tryz.isAgg5
  z5 := Tryz.sizeOf5
  v5 := Tryz.zeroValue5
  t9 := Tryz.underlying9
  a9 := Tryz.isAgg9
  z9 := Tryz.sizeOf9
  v9 := Tryz.zeroValue9
  t28 := Tryz.underlying58
  a28 := Tryz.isAgg58
  z28 := Tryz.sizeOf58
  v28 := Tryz.zeroValue58
  t46 := Tryz.underlying283
  a46 := Tryz.isAgg283
  z46 := Tryz.sizeOf283
  v46 := Tryz.zeroValue283
  t51 := Tryz.underlying298
  a51 := Tryz.isAgg298
  z51 := Tryz.sizeOf298
  v51 := Tryz.zeroValue298
  t53 := Tryz.underlying300
  a53 := Tryz.isAgg300
  z53 := Tryz.sizeOf300
  v53 := Tryz.zeroValue300
  t131 := Tryz.underlying147
  a131 := Tryz.isAgg147
  z131 := Tryz.sizeOf147
  v131 := Tryz.zeroValue147
  t182 := Tryz.underlying290
  a182 := Tryz.isAgg290
  z182 := Tryz.sizeOf290
  v182 := Tryz.zeroValue290
  t183 := Tryz.underlying291
  a183 := Tryz.isAgg291
  z183 := Tryz.sizeOf291
  v183 := Tryz.zeroValue291
  t218 := Tryz.underlying307
  a218 := Tryz.isAgg307
  z218 := Tryz.sizeOf307
  v218 := Tryz.zeroValue307
  t222 := Tryz.underlying311
  a222 := Tryz.isAgg311
  z222 := Tryz.sizeOf311
  v222 := Tryz.zeroValue311
  t228 := Tryz.underlying319
  a228 := Tryz.isAgg319
  z228 := Tryz.sizeOf319
  v228 := Tryz.zeroValue319
  t229 := Tryz.underlying243
  a229 := Tryz.isAgg243
  z229 := Tryz.sizeOf243
  v229 := Tryz.zeroValue243 }
end Go.Proofs
namespace Go.Abs
theorem ints_VRs (m : Emb) : ∀ zs : List Int, VRs m (zs.map (AV.int .i64)) (zs.map (Value.int .i64))
  | [] => by rw [List.map_nil, VRs_nil]; rfl
  | z :: zs => VRs_cons.2 ⟨_, _, rfl, rfl, ints_VRs m zs⟩
open Go.RowKit Go.Sort in
theorem sort_ok {h : AHeap} {b o : Nat} {c : List AV} {tl : Bool} {zs : List Int} (hb : h[b]? = some (.cells c true tl)) (hle : o + zs.length ≤ c.length) (hc : (c.drop o).take zs.length = zs.map (AV.int .i64)) (hz : zs.length < 4611686018427387904) :
    SCall Go.Proofs.Tryz.prog 182 [.slice b o zs.length 1] h (.tup []) (h.set b (.cells (setL c o ((sortI zs).map (AV.int .i64))) true tl)) := by
  intro m w vs hr ha
  obtain ⟨v, vs1, rfl, hv, hr1⟩ := VRs_cons.1 ha
  rw [VRs_nil] at hr1
  subst hr1
  rw [VR] at hv
  obtain ⟨ent, ca, cap, he, rfl, hcap, hca, hsz⟩ := hv
  obtain ⟨cc, el, fz, hw, ⟨hle1, hle2⟩, hget, hown, hmt⟩ := hr.blk b ent _ he hb
  obtain ⟨hs, hfz⟩ := hown (hmt (.inl rfl)).1
  have hlt := hr.lt b ent he
  by_cases h0 : zs.length = 0
  · have hz0 := List.length_eq_zero_iff.1 h0
    subst hz0
    have hset : h.set b (.cells (setL c o ((sortI []).map (AV.int .i64))) true tl) = h := by
      apply List.ext_getElem?
      intro i
      rw [getElem?_set_blk h b i _ (hr.dom _ _ he)]
      by_cases hi : i = b
      · subst hi; simp [hb, sortI, setL]
      · simp [hi]
    rw [hset]
    refine (Go.Proofs.Any.slices_Sort_int_none Go.Proofs.Tryz.lays189 (some ca) cap w).mono ?_
    rintro e w' ⟨rfl, rfl⟩
    exact ⟨_, m, rfl, ⟨[], rfl, rfl⟩, hr, Grow.refl m h _ hr.dom⟩
  · have hca' := hca (by omega)
    subst hca'
    have hci : ∀ j (hj : j < zs.length), cc[ent.d + (o + j)]? = some (.int .i64 zs[j]) := fun j hj => by
      have : ((c.drop o).take zs.length)[j]? = some (.int .i64 zs[j]) := by rw [hc, List.getElem?_map, List.getElem?_eq_getElem hj]; rfl
      rw [List.getElem?_take_of_lt hj, List.getElem?_drop] at this
      obtain ⟨_, cv, hcv, hvr⟩ := hget _ _ this
      rw [VR] at hvr
      rw [hcv, hvr]
    have key := Go.Proofs.Any.slices_Sort_int Go.Proofs.Tryz.lays189 ent.cb (o + ent.d) cap zs w (by
      intro j hj
      have hj' : j < zs.length := by simpa using hj
      refine ⟨?_, frozen_false hw (hfz _ (by omega))⟩
      have e1 : zs.toArray[j]! = zs[j] := by simp [hj']
      simp only [World.cell?, hw, Option.isSome_none, Bool.false_eq_true, if_false]
      rw [show o + ent.d + j = ent.d + (o + j) by omega, hci j hj', e1]) hlt hz
    rw [sortI_eq] at key
    refine key.mono ?_
    rintro e w' ⟨rfl, n, os, rfl⟩
    have hsl := sortI_len zs
    obtain ⟨w1, hrun1, hr1, hg1⟩ := storeN_ok ((sortI zs).map (AV.int .i64)) _ hr he hb o 0 (by simp only [List.length_map, hsl]; omega) (by simp [AV.one]) (ints_VRs m (sortI zs))
    obtain ⟨w2, cc2, hrun2, hw2, hs2, hc2, hoth, hsz2, -, -, -⟩ := store_raw (P := Go.Proofs.Tryz.prog) ((sortI zs).map (Value.int .i64)) (o + ent.d) 0 cc w hw (by simp only [List.length_map, hsl]; omega) hfz (by simp [Value.oneCell'])
    rw [hrun1] at hrun2
    cases hrun2
    have hput : putCells (Value.int .i64) (o + ent.d) (sortI zs).toArray cc = cc2 := by
      apply Array.ext_getElem?
      intro i
      rw [hc2 i]
      unfold putCells
      rw [Array.getElem?_mapIdx]
      simp only [Nat.add_zero, List.length_map, List.size_toArray]
      by_cases hi : o + ent.d ≤ i ∧ i < o + ent.d + (sortI zs).length
      · rw [if_pos hi, List.getElem?_map, List.getElem?_eq_getElem (show i - (o + ent.d) < (sortI zs).length by omega)]
        rw [Array.getElem?_eq_getElem (show i < cc.size by omega), Option.map_some, if_pos hi, Option.map_some]
        congr 2
        rw [List.getElem!_toArray, List.getElem!_eq_getElem?_getD, List.getElem?_eq_getElem (by omega), Option.getD_some]
      · rw [if_neg hi]
        cases hx : cc[i]? with
        | none => rfl
        | some x => rw [Option.map_some, if_neg hi]
    have hheap : ∀ i, i < w.heap.size → (grow (putRow (Value.int .i64) (Sort.ahead w n) ent.cb (o + ent.d) (sortI zs).toArray) os).heap[i]? = w1.heap[i]? := fun i hi => by
      have e0 : (grow (putRow (Value.int .i64) (Sort.ahead w n) ent.cb (o + ent.d) (sortI zs).toArray) os).heap = (w.heap.modify ent.cb (onCells (putCells (Value.int .i64) (o + ent.d) (sortI zs).toArray))) ++ os := rfl
      rw [e0, Array.getElem?_append_left (by simpa using hi), Array.getElem?_modify]
      by_cases hcb : ent.cb = i
      · subst hcb
        rw [if_pos rfl, hw, hw2, Option.map_some]
        simp only [onCells, hput]
      · rw [if_neg hcb, hoth i (fun x => hcb x.symm)]
    have hsize : w.heap.size ≤ (grow (putRow (Value.int .i64) (Sort.ahead w n) ent.cb (o + ent.d) (sortI zs).toArray) os).heap.size := by
      have e0 : (grow (putRow (Value.int .i64) (Sort.ahead w n) ent.cb (o + ent.d) (sortI zs).toArray) os).heap = (w.heap.modify ent.cb (onCells (putCells (Value.int .i64) (o + ent.d) (sortI zs).toArray))) ++ os := rfl
      rw [e0]; simp
    have hr1' := hr1
    have hg1' := hg1
    rw [Nat.add_zero] at hr1' hg1'
    refine ⟨_, m, rfl, ⟨[], rfl, rfl⟩, ⟨hr1'.dom, fun b' e' k' a1 a2 => (hr1'.blk b' e' k' a1 a2).heap (hheap _ (hr.lt b' e' a1)), hr1'.sep, hr1'.glob, fun b' e' a1 => Nat.lt_of_lt_of_le (hr.lt b' e' a1) hsize⟩,
      ⟨hg1'.ext, hg1'.len, fun b' e' a1 a2 => absurd (hr.dom b' e' a2) (by omega), hg1'.tl, hsize, rfl, rfl, rfl, fun i hi hno => (hheap i hi).trans (hg1'.frame i hi hno)⟩⟩
theorem sort_nil {h : AHeap} : SCall Go.Proofs.Tryz.prog 182 [.nilSlice] h (.tup []) h := by
  intro m w vs hr ha
  obtain ⟨v, vs1, rfl, hv, hr1⟩ := VRs_cons.1 ha
  rw [VRs_nil] at hr1
  subst hr1
  rw [VR] at hv
  subst hv
  refine (Go.Proofs.Any.slices_Sort_int_none Go.Proofs.Tryz.lays189 none 0 w).mono ?_
  rintro e w' ⟨rfl, rfl⟩
  exact ⟨_, m, rfl, ⟨[], rfl, rfl⟩, hr, Grow.refl m h _ hr.dom⟩
def decI : List AV → Option (List Int)
  | [] => some []
  | .int .i64 z :: r =>
    match decI r with
    | some l => some (z :: l)
    | none => none
  | _ => none
theorem decI_ok : ∀ {l : List AV} {zs : List Int}, decI l = some zs → l = zs.map (AV.int .i64)
  | [], zs, h => by cases h; rfl
  | x :: r, zs, h => by
    unfold decI at h
    split at h
    · rename_i hx; cases hx
    · rename_i z r' hx
      cases hx
      split at h
      · rename_i l hl
        cases h
        rw [List.map_cons, ← decI_ok hl]
      · cases h
    · cases h
def sortE (args : List AV) (G : Nat → Option ABlk) : Option (AV × Eff) :=
  match args with
  | [.nilSlice] => some (.tup [], .keep)
  | [.slice b o n 1] =>
    match G b with
    | some (.cells c true tl) =>
      match Nat.ble (o + n) c.length && Nat.blt n 4611686018427387904 with
      | true =>
        match decI ((c.drop o).take n) with
        | some zs => some (.tup [], .set b (.cells (setL c o ((sortI zs).map (AV.int .i64))) true tl))
        | none => none
      | false => none
    | _ => none
  | _ => none
theorem sortE_ok {args : List AV} {h : AHeap} {v : AV} {e : Eff} (he : sortE args (fun b => h[b]?) = some (v, e)) : SCall Go.Proofs.Tryz.prog 182 args h v (e.app h) := by
  unfold sortE at he
  split at he
  · cases he; exact sort_nil
  · rename_i b o n
    split at he
    · rename_i c tl hb
      split at he
      · rename_i hx
        rw [Bool.and_eq_true, Nat.ble_eq, Nat.blt_eq] at hx
        split at he
        · rename_i zs hzs
          cases he
          have hd := decI_ok hzs
          have hl : zs.length = n := by
            have := congrArg List.length hd
            simp only [List.length_take, List.length_drop, List.length_map] at this
            omega
          subst hl
          exact sort_ok hb hx.1 hd hx.2
        · cases he
      · cases he
    · cases he
  · cases he
end Go.Abs
namespace Go.Proofs
open Go.Shelf
def Tryz.lays171_ren : Go.Shelf.Ren := ⟨fun | 171 => 188 | 243 => 209 | 246 => 230 | 283 => 240 | 284 => 241 | 285 => 242 | 286 => 243 | 129 => 227 | 317 => 249 | 318 => 250 | 319 => 251 | 320 => 252 | 337 => 257 | 338 => 258 | n => n, fun | 3 => 3 | 9 => 9 | 2 => 2 | 4 => 4 | 171 => 313 | 0 => 0 | 53 => 300 | 37 => 255 | 5 => 5 | 173 => 315 | 212 => 322 | 51 => 298 | 20 => 20 | 213 => 323 | 46 => 283 | 232 => 330 | 233 => 331 | n => n, fun | 17 => 2 | 18 => 5 | 19 => 6 | n => n⟩
theorem Tryz.lays171 : Go.Proofs.LaysM.n171 Tryz.prog Tryz.lays171_ren := {
  mixed := by kernel_rfl
  f129 := Tryz.func227.trans (congrArg some (by kernel_rfl))
  f171 := Tryz.func188.trans (congrArg some (by kernel_rfl))
  f243 := Tryz.func209.trans (congrArg some (by kernel_rfl))
  f246 := Tryz.func230.trans (congrArg some (by kernel_rfl))
  f283 := Tryz.func240.trans (congrArg some (by kernel_rfl))
  f284 := Tryz.func241.trans (congrArg some (by kernel_rfl))
  f285 := Tryz.func242.trans (congrArg some (by kernel_rfl))
  f286 := Tryz.func243.trans (congrArg some (by kernel_rfl))
  f317 := Tryz.func249.trans (congrArg some (by kernel_rfl))
  f318 := Tryz.func250.trans (congrArg some (by kernel_rfl))
  f319 := Tryz.func251.trans (congrArg some (by kernel_rfl))
  f320 := Tryz.func252.trans (congrArg some (by kernel_rfl))
  f337 := Tryz.func257.trans (congrArg some (by kernel_rfl))
  f338 := Tryz.func258.trans (congrArg some (by kernel_rfl))
  t0 := Tryz.underlying0
  a0 := Tryz.isAgg0
  z0 := Tryz.sizeOf0
  v0 := Tryz.zeroValue0
  t2 := Tryz.underlying2
  a2 := Tryz.isAgg2
  z2 := Tryz.sizeOf2
  v2 := Tryz.zeroValue2
  t3 := Tryz.underlying3
  a3 := Tryz.isAgg3
  z3 := Tryz.sizeOf3
  v3 := Tryz.zeroValue3
  t4 := Tryz.underlying4
  a4 := Tryz.isAgg4
  z4 := Tryz.sizeOf4
  v4 := Tryz.zeroValue4
  t5 := Tryz.underlying5
  a5 := Tryz.isAgg5
  z5 := Tryz.sizeOf5
  v5 := Tryz.zeroValue5
  t9 := Tryz.underlying9
  a9 := Tryz.isAgg9
  z9 := Tryz.sizeOf9
  v9 := Tryz.zeroValue9
  t20 := Tryz.underlying20
  a20 := Tryz.isAgg20
  z20 := Tryz.sizeOf20
  v20 := Tryz.zeroValue20
  t37 := Tryz.underlying255
  a37 := Tryz.isAgg255
  z37 := Tryz.sizeOf255
  v37 := Tryz.zeroValue255
  t46 := Tryz.underlying283
  a46 := Tryz.isAgg283
  z46 := Tryz.sizeOf283
  v46 := Tryz.zeroValue283
  t51 := Tryz.underlying298
  a51 := Tryz.isAgg298
  z51 := Tryz.sizeOf298
  v51 := Tryz.zeroValue298
  t53 := Tryz.underlying300
  a53 := Tryz.isAgg300
  z53 := Tryz.sizeOf300
  v53 := Tryz.zeroValue300
  t171 := Tryz.underlying313
  a171 := Tryz.isAgg313
  z171 := Tryz.sizeOf313
  v171 := Tryz.zeroValue313
  t173 := Tryz.underlying315
  a173 := Tryz.isAgg315
  z173 := Tryz.sizeOf315
  v173 := Tryz.zeroValue315
  t212 := Tryz.underlying322
  a212 := Tryz.isAgg322
  z212 := Tryz.sizeOf322
  v212 := Tryz.zeroValue322
  t213 := Tryz.underlying323
  a213 := Tryz.isAgg323
  z213 := Tryz.sizeOf323
  t232 := Tryz.underlying330
  a232 := Tryz.isAgg330
  z232 := Tryz.sizeOf330
  v232 := Tryz.zeroValue330
  t233 := Tryz.underlying331
  a233 := Tryz.isAgg331
  z233 := Tryz.sizeOf331
  v233 := Tryz.zeroValue331
  g17 := by kernel_rfl
  g18 := by kernel_rfl
  g19 := by kernel_rfl
  i0 := by kernel_rfl
  i2 := by kernel_rfl
  i3 := by kernel_rfl
  i4 := by kernel_rfl
  i5 := by kernel_rfl
  i9 := by kernel_rfl
  i20 := by kernel_rfl
  i37 := by kernel_rfl
  i46 := by kernel_rfl
  i51 := by kernel_rfl
  i53 := by kernel_rfl
  i171 := by kernel_rfl
  i173 := by kernel_rfl
  i212 := by kernel_rfl
  i232 := by kernel_rfl
  i233 := by kernel_rfl
  m17 := by kernel_rfl
  m18 := by kernel_rfl
  m19 := by kernel_rfl }
end Go.Proofs
namespace Go.Abs
def digF : Nat → Nat → List UInt8
  | 0, u => [UInt8.ofNat (48 + u)]
  | f + 1, u =>
    match Nat.blt u 10 with
    | true => [UInt8.ofNat (48 + u)]
    | false => digF f (u / 10) ++ [UInt8.ofNat (48 + u % 10)]
theorem digF_eq : ∀ (f u : Nat), u < 10 ^ (f + 1) → digF f u = Lib.decDigits u
  | 0, u, h => by rw [Lib.decDigits, dif_pos (by simpa using h)]; rfl
  | f + 1, u, h => by
    unfold digF
    cases hb : Nat.blt u 10 with
    | true => rw [Lib.decDigits, dif_pos (by rw [Nat.blt_eq] at hb; exact hb)]
    | false =>
      have hn : ¬ u < 10 := fun x => by rw [← Nat.blt_eq, hb] at x; cases x
      rw [Lib.decDigits, dif_neg hn, digF_eq f (u / 10) (by rw [Nat.pow_succ] at h; omega)]
theorem prog_globs : Go.Proofs.Tryz.prog.globals.size = 7 := by kernel_rfl
theorem gsz_pow : gsz Go.Proofs.Tryz.prog 2 = 20 := by kernel_rfl
open Go.RowKit in
theorem itoa_ok {h : AHeap} {n : Int} (h0 : -9223372036854775808 ≤ n) (h1 : n ≤ 9223372036854775807) {mu tl : Bool} (hb : h[2]? = some (.cells (Lib.pow10Tab.map (AV.int .u64)) mu tl)) :
    SCall Go.Proofs.Tryz.prog 188 [.int .i64 n] h (.str (Lib.itoa n)) h := by
  intro m w vs hr ha
  obtain ⟨v, vs1, rfl, hv, hr1⟩ := VRs_cons.1 ha
  rw [VRs_nil] at hr1
  subst hr1
  rw [VR] at hv
  subst hv
  obtain ⟨e, he, hcb, hd, -, hsz⟩ := hr.glob 2 (by rw [prog_globs]; omega)
  obtain ⟨cc, el, fz, hw, ⟨hle, hle2, hsz2⟩, hget, -, -⟩ := hr.blk 2 e _ he hb
  have htab : Lib.TabIs Go.Proofs.Tryz.prog w "internal/strconv.uint64pow10" .u64 Lib.pow10Tab := by
    unfold Lib.TabIs World.var?
    rw [Go.Proofs.Tryz.lays171.m17]
    show (match w.heap[2]? with | some (.cells cs _ _) => some cs | _ => none) = _
    rw [hcb] at hw
    rw [hw]
    have h20 : cc.size = 20 := by rw [hsz2, hsz, gsz_pow]
    refine congrArg some (Array.ext_getElem? fun i => ?_)
    by_cases hi : i < 20
    · have hl : i < Lib.pow10Tab.length := by rw [Lib.pow10Tab_length]; exact hi
      obtain ⟨_, cv, hcv, hvr⟩ := hget i (.int .u64 Lib.pow10Tab[i]) (by rw [List.getElem?_map, List.getElem?_eq_getElem hl]; rfl)
      rw [VR] at hvr
      rw [hd, Nat.zero_add] at hcv
      rw [hcv, hvr, List.getElem?_toArray, List.getElem?_map, List.getElem?_eq_getElem hl]
      rfl
    · rw [Array.getElem?_eq_none (by omega), Array.getElem?_eq_none (by rw [List.size_toArray, List.length_map, Lib.pow10Tab_length]; omega)]
  refine (Go.Proofs.Any.strconv_Itoa Go.Proofs.Tryz.lays171 n h0 h1 w htab).mono ?_
  rintro e' w' ⟨rfl, k, os, rfl⟩
  have hh : ∀ i, i < w.heap.size → (Go.Sort.grow (w.drewN k) os).heap[i]? = w.heap[i]? := fun i hi => by
    show (w.heap ++ os)[i]? = _
    rw [Array.getElem?_append_left hi]
  have hs : w.heap.size ≤ (Go.Sort.grow (w.drewN k) os).heap.size := by
    show w.heap.size ≤ (w.heap ++ os).size
    simp
  exact ⟨_, m, rfl, rfl, ⟨hr.dom, fun b' e' k' a1 a2 => (hr.blk b' e' k' a1 a2).heap (hh _ (hr.lt b' e' a1)), hr.sep, hr.glob, fun b' e' a1 => Nat.lt_of_lt_of_le (hr.lt b' e' a1) hs⟩,
    ⟨fun _ _ => rfl, Nat.le_refl _, fun b' e' a1 a2 => absurd (hr.dom b' e' a2) (by omega), fun _ _ x => x, hs, rfl, rfl, rfl, fun i hi _ => hh i hi⟩⟩
def isInts (k : IntKind) : List AV → List Int → Bool
  | [], [] => true
  | .int k' z :: r, z' :: r' => k' == k && z == z' && isInts k r r'
  | _, _ => false
theorem isInts_ok {k : IntKind} : ∀ {l : List AV} {zs : List Int}, isInts k l zs = true → l = zs.map (AV.int k)
  | [], [], _ => rfl
  | [], _ :: _, h => by simp [isInts] at h
  | .int k' z :: r, z' :: r', h => by
    simp only [isInts, Bool.and_eq_true, beq_iff_eq] at h
    obtain ⟨⟨h1, h2⟩, h3⟩ := h
    rw [h1, h2, isInts_ok h3, List.map_cons]
  | x :: r, [], h => by cases x <;> simp [isInts] at h
  | .bool _ :: r, _ :: _, h => by simp [isInts] at h
  | .flt _ _ :: r, _ :: _, h => by simp [isInts] at h
  | .cplx _ _ _ :: r, _ :: _, h => by simp [isInts] at h
  | .str _ :: r, _ :: _, h => by simp [isInts] at h
  | .ptr _ _ :: r, _ :: _, h => by simp [isInts] at h
  | .nilPtr :: r, _ :: _, h => by simp [isInts] at h
  | .slice _ _ _ _ :: r, _ :: _, h => by simp [isInts] at h
  | .nilSlice :: r, _ :: _, h => by simp [isInts] at h
  | .map _ :: r, _ :: _, h => by simp [isInts] at h
  | .nilMap :: r, _ :: _, h => by simp [isInts] at h
  | .func _ _ _ :: r, _ :: _, h => by simp [isInts] at h
  | .nilFunc :: r, _ :: _, h => by simp [isInts] at h
  | .agg _ :: r, _ :: _, h => by simp [isInts] at h
  | .tup _ :: r, _ :: _, h => by simp [isInts] at h
def itoaE (args : List AV) (G : Nat → Option ABlk) : Option (AV × Eff) :=
  match args with
  | [.int .i64 n] =>
    match G 2 with
    | some (.cells c _ _) =>
      match isInts .u64 c Lib.pow10Tab && decide (-1000000000000000000 < n) && decide (n < 1000000000000000000) with
      | true => some (.str (if n < 0 then 45 :: digF 17 n.natAbs else digF 17 n.toNat), .keep)
      | false => none
    | _ => none
  | _ => none
theorem itoaE_ok {args : List AV} {h : AHeap} {v : AV} {e : Eff} (he : itoaE args (fun b => h[b]?) = some (v, e)) : SCall Go.Proofs.Tryz.prog 188 args h v (e.app h) := by
  unfold itoaE at he
  split at he
  · rename_i n
    split at he
    · rename_i c mu tl hb
      split at he
      · rename_i hx
        cases he
        simp only [Bool.and_eq_true, decide_eq_true_eq] at hx
        obtain ⟨⟨hp, h1⟩, h2⟩ := hx
        have := itoa_ok (n := n) (h := h) (by omega) (by omega) (show h[2]? = some (.cells (Lib.pow10Tab.map (AV.int .u64)) mu tl) by rw [← isInts_ok hp]; exact hb)
        unfold Lib.itoa at this
        rw [← digF_eq 17 _ (by omega), ← digF_eq 17 _ (by omega)] at this
        exact this
      · cases he
    · cases he
  · cases he
end Go.Abs
namespace Go.Abs
theorem RCall.forget {P : Program} {f : FuncId} {args : List AV} {h : AHeap} {w : AV} (hc : RCall P f args h (fun v _ => v = w)) (hv : clos 0 w) : SCall P f args h w h := by
  obtain ⟨v, g, hs, rfl⟩ := hc
  exact hs.forget hv
def decA (G : Nat → Option ABlk) : AV → Option (Hor × AV)
  | .agg l => decH G l
  | _ => none
theorem decA_ok {h : AHeap} {x : AV} {y : Hor × AV} (hx : decA (fun b => h[b]?) x = some y) : x = horA y.1 y.2 ∧ HorOk h y.1 y.2 := by
  unfold decA at hx
  split at hx
  · obtain ⟨rfl, h2⟩ := decH_ok _ _ hx
    exact ⟨rfl, h2⟩
  · cases hx
def chkHorE (args : List AV) (G : Nat → Option ABlk) : Option (AV × Eff) :=
  match args with
  | [x] =>
    match decA G x with
    | some y => some (.int .i64 (chkHorS y.1), .keep)
    | none => none
  | _ => none
def chkHorsE (args : List AV) (G : Nat → Option ABlk) : Option (AV × Eff) :=
  match args with
  | [s] =>
    match rowsOf G 3 s with
    | some a =>
      match decL (decH G) a with
      | some L => if L.length < 2 ^ 63 then some (.int .i64 (chkHorsS (L.map (·.1))), .keep) else none
      | none => none
    | none => none
  | _ => none
def atE (args : List AV) (G : Nat → Option ABlk) : Option (AV × Eff) :=
  match args with
  | [x, .int .i64 n] =>
    match decA G x with
    | some y =>
      match decide (chkHorS y.1 = 0) && hasS y.1 n with
      | true => some (ratA (atS y.1 n), .keep)
      | false => none
    | none => none
  | _ => none
def bandE (args : List AV) (G : Nat → Option ABlk) : Option (AV × Eff) :=
  match args with
  | [x, .int .i64 n] =>
    match decA G x with
    | some y =>
      match decide (chkHorS y.1 = 0) && hasS y.1 n with
      | true => some (ratA (bandS y.1 n), .keep)
      | false => none
    | none => none
  | _ => none
variable {P : Program} (T : Tbl P) {args : List AV} {h : AHeap} {v : AV} {e : Eff}
include T
theorem chkHorE_ok (he : chkHorE args (fun b => h[b]?) = some (v, e)) : SCall P 26 args h v (e.app h) := by
  unfold chkHorE at he
  split at he
  · split at he
    · rename_i y hy
      cases he
      obtain ⟨rfl, o⟩ := decA_ok hy
      exact (r26 T o.sl o.len).forget (clos_int _ _)
    · cases he
  · cases he
theorem chkHorsE_ok (he : chkHorsE args (fun b => h[b]?) = some (v, e)) : SCall P 27 args h v (e.app h) := by
  unfold chkHorsE at he
  split at he
  · split at he
    · rename_i a ha
      split at he
      · rename_i L hL
        split at he
        · rename_i hl
          cases he
          have h1 := rowsOf_ok ha
          rw [decL_ok (fun x y hx => (decH_ok x y hx).1) hL] at h1
          exact (r27 T ⟨h1, hl, decL_all (fun x y hx => (decH_ok x y hx).2) hL⟩).forget (clos_int _ _)
        · cases he
      · cases he
    · cases he
  · cases he
theorem atE_ok (he : atE args (fun b => h[b]?) = some (v, e)) : SCall P 96 args h v (e.app h) := by
  unfold atE at he
  split at he
  · split at he
    · rename_i y hy
      split at he
      · rename_i hx
        cases he
        rw [Bool.and_eq_true, decide_eq_true_eq] at hx
        obtain ⟨rfl, o⟩ := decA_ok hy
        exact (r96 T o (horV_iff.1 hx.1) hx.2).forget (clos_rat _)
      · cases he
    · cases he
  · cases he
theorem bandE_ok (he : bandE args (fun b => h[b]?) = some (v, e)) : SCall P 97 args h v (e.app h) := by
  unfold bandE at he
  split at he
  · split at he
    · rename_i y hy
      split at he
      · rename_i hx
        cases he
        rw [Bool.and_eq_true, decide_eq_true_eq] at hx
        obtain ⟨rfl, o⟩ := decA_ok hy
        exact (r97 T o (horV_iff.1 hx.1) hx.2).forget (clos_rat _)
      · cases he
    · cases he
  · cases he
end Go.Abs
