/- Calls by their contracts in the interpreter: what is forgotten behind a call; strings.Join; the factors of velocities. No condition. · The shelf's structure of slices.Sort, laid plain for this program. No condition. · slices.Sort at []int by the shelf's contract. No condition. · The abstract layer: loops over functions, by what the function yields. No condition. · The abstract layer: append on an empty literal; stores into a slice of one's own; make and copy. No condition. · Contracts, part N: the law's copies, and comparisons. No condition. · Contracts, part AI: maps, their checks, the neighbours of a cell. No condition. · The cells that ways reach, in plain Lean. No condition. · Laws are walked in pieces. No condition. · The abstract layer: slots of a long row, one by one. No condition. · Contracts, part AJ: integers in order, the cells that a flood reaches. No condition. · The shelf's structure of strconv.Itoa, laid plain for this program. No condition. · strconv.Itoa by the shelf's contract. No condition. · Calls by their contracts in the interpreter: of a horizon. No condition. -/
import Derived.Test.YtjhdkimkijhloaaGreatDoorCs8
import Derived.Test.YtjhdkimkijhloaaGreatDoorCs9
import Derived.Test.YtjhdkimkijhloaaGreatDoorCs10
import Derived.Shelf.Lays
import Derived.Tactics
import Derived.Test.YtjhdkimkijhloaaGreatDoorProg
import Derived.Shelf.Sort.Plain
import Derived.Shelf.Slices.In.SortNone
import Derived.Test.YtjhdkimkijhloaaGreatDoorCs3
import Derived.Test.YtjhdkimkijhloaaGreatDoorCs5
import Derived.Shelf.LaysM
import Derived.Shelf.Strconv.Itoa3
set_option linter.all false
namespace Go.Abs

/-- WHAT A CALL HAS MADE IS FORGOTTEN behind it, if its value does not speak of it. -/
theorem SCall.forget {P : Program} {f : FuncId} {args : List AV} {h g : AHeap} {v : AV} (hs : SCall P f args h v (h ++ g)) (hv : clos 0 v) : SCall P f args h v h := by
  intro m w vs hr ha
  obtain ⟨mv, vv, hdv, hvv⟩ := hv
  have hc := hs m w vs hr ha
  rw [← callsIn_wide (n := 0)] at hc ⊢
  refine hc.mono ?_
  rintro e w' ⟨cv, m1, rfl, h1, h2, h3⟩
  have hm : m1.upTo h.length = m := by
    funext b
    unfold Emb.upTo
    by_cases hb : b < h.length
    · rw [if_pos hb, h3.ext b hb]
    · rw [if_neg hb]
      cases hx : m b with
      | none => rfl
      | some e => exact absurd (hr.dom b e hx) hb
  have hgl : P.globals.size ≤ h.length := by
    by_cases h0 : P.globals.size = 0
    · omega
    · obtain ⟨e, he, _⟩ := hr.glob (P.globals.size - 1) (by omega)
      have := hr.dom _ _ he
      omega
  have hup := h2.upTo hgl (fun b e k hb hmb hk => (hr.blk b e k (by rw [← h3.ext b hb]; exact hmb) hk).clos hr.dom)
  rw [hm] at hup
  exact ⟨cv, m, rfl, VR.mono (Emb.upTo_zero m1 m) _ _ (VR.cut hdv v vv cv hvv h1), hup, ⟨fun _ _ => rfl, Nat.le_refl _, fun b e hb he => absurd (hr.dom b e he) (by omega), fun _ _ h => h, h3.size, h3.os, h3.out, h3.tape, h3.frame⟩⟩

theorem clos_int (k : IntKind) (n : Int) : clos 0 (.int k n) := ⟨fun _ => none, .int k n, by simp, by rw [VR]⟩
theorem clos_bool (b : Bool) : clos 0 (.bool b) := ⟨fun _ => none, .bool b, by simp, by rw [VR]⟩
theorem clos_rat (x : Int × Int) : clos 0 (ratA x) := ⟨fun _ => none, .agg ⟨[.int .i64 x.1, .int .i64 x.2]⟩, by simp, ⟨_, rfl, VRs_cons.2 ⟨_, _, rfl, rfl, VRs_cons.2 ⟨_, _, rfl, rfl, rfl⟩⟩⟩⟩
theorem clos_rat_int (x : Int × Int) (k : IntKind) (n : Int) : clos 0 (.tup [ratA x, .int k n]) := ⟨fun _ => none, .tuple ⟨[.agg ⟨[.int .i64 x.1, .int .i64 x.2]⟩, .int k n]⟩, by simp, ⟨_, rfl, VRs_cons.2 ⟨_, _, rfl, ⟨_, rfl, VRs_cons.2 ⟨_, _, rfl, rfl, VRs_cons.2 ⟨_, _, rfl, rfl, rfl⟩⟩⟩, VRs_cons.2 ⟨_, _, rfl, rfl, rfl⟩⟩⟩⟩

/-- The rows of a slice, read. -/
def chunks (es : Nat) : Nat → List AV → List (List AV)
  | 0, _ => []
  | n + 1, c => c.take es :: chunks es n (c.drop es)
def rowsOf (G : Nat → Option ABlk) (es : Nat) (s : AV) : Option (List (List AV)) :=
  match s with
  | .nilSlice => some []
  | .slice b o n es' =>
    if es' = es then
      match G b with
      | some (.cells c _ _) => if o + n * es ≤ c.length then some (chunks es n (c.drop o)) else none
      | _ => none
    else none
  | _ => none
theorem chunks_len {es : Nat} : ∀ {n : Nat} {c : List AV}, (chunks es n c).length = n
  | 0, _ => rfl
  | n + 1, c => by simp [chunks, chunks_len]
theorem chunks_flat {es : Nat} : ∀ {n : Nat} {c : List AV}, n * es ≤ c.length → (chunks es n c).flatten = c.take (n * es) ∧ ∀ x ∈ chunks es n c, x.length = es
  | 0, c, _ => by simp [chunks]
  | n + 1, c, h => by
    have hs : (n + 1) * es = es + n * es := by rw [Nat.succ_mul, Nat.add_comm]
    obtain ⟨h1, h2⟩ := chunks_flat (es := es) (n := n) (c := c.drop es) (by rw [List.length_drop]; omega)
    refine ⟨?_, fun x hx => ?_⟩
    · rw [chunks, List.flatten_cons, h1, hs, List.take_add]
    · rcases List.mem_cons.1 hx with rfl | hx
      · rw [List.length_take]; omega
      · exact h2 x hx
theorem rowsOf_ok {h : AHeap} {es : Nat} {s : AV} {r : List (List AV)} (hs : rowsOf (fun b => h[b]?) es s = some r) : IsSl h s es r := by
  cases s with
  | nilSlice => cases hs; exact .nil
  | slice b o n es' =>
    simp only [rowsOf] at hs
    by_cases he : es' = es
    · subst he
      rw [if_pos rfl] at hs
      cases hb : h[b]? with
      | none => rw [hb] at hs; cases hs
      | some k =>
        rw [hb] at hs
        cases k with
        | cells c mu tl =>
          simp only at hs
          by_cases hl : o + n * es' ≤ c.length
          · rw [if_pos hl] at hs
            cases hs
            obtain ⟨h1, h2⟩ := chunks_flat (es := es') (n := n) (c := c.drop o) (by rw [List.length_drop]; omega)
            have := IsSl.mk (h := h) (b := b) (o := o) (es := es') (cs := chunks es' n (c.drop o)) hb (by rw [chunks_len]; exact h1.symm) (by rw [chunks_len]; exact hl) h2
            rw [chunks_len] at this
            exact this
          · rw [if_neg hl] at hs; cases hs
        | _ => cases hs
    · rw [if_neg he] at hs; cases hs
  | _ => cases hs

theorem IsSl.inv {h : AHeap} {b o n e es : Nat} {cs : List (List AV)} (hs : IsSl h (.slice b o n e) es cs) : n = cs.length ∧ ∃ c mu tl, h[b]? = some (.cells c mu tl) ∧ (c.drop o).take (cs.length * es) = cs.flatten := by
  generalize hx : AV.slice b o n e = x at hs
  cases hs with
  | nil => cases hx
  | mk hb hf ho he => cases hx; exact ⟨rfl, _, _, _, hb, hf⟩

def decL {α : Type} (f : List AV → Option α) : List (List AV) → Option (List α)
  | [] => some []
  | x :: xs =>
    match f x, decL f xs with
    | some y, some ys => some (y :: ys)
    | _, _ => none
theorem decL_ok {α : Type} {f : List AV → Option α} {row : α → List AV} (hf : ∀ x y, f x = some y → x = row y) : ∀ {l : List (List AV)} {r : List α}, decL f l = some r → l = r.map row
  | [], r, h => by cases h; rfl
  | x :: xs, r, h => by
    unfold decL at h
    split at h
    case h_2 => cases h
    rename_i y ys h1 h2
    cases h
    rw [List.map_cons, hf x y h1, decL_ok hf h2]
theorem decL_all {α : Type} {f : List AV → Option α} {p : α → Prop} (hf : ∀ x y, f x = some y → p y) : ∀ {l : List (List AV)} {r : List α}, decL f l = some r → ∀ y ∈ r, p y
  | [], r, h, y, hy => by cases h; simp at hy
  | x :: xs, r, h, y, hy => by
    unfold decL at h
    split at h
    case h_2 => cases h
    rename_i z zs h1 h2
    cases h
    rcases List.mem_cons.1 hy with rfl | hy
    · exact hf x _ h1
    · exact decL_all hf h2 y hy
def dec2 : List AV → Option (Int × Int)
  | [.int .i64 a, .int .i64 b] => some (a, b)
  | _ => none
def dec4 : List AV → Option Wl
  | [.int .i64 a, .int .i64 b, .int .i64 c, .int .i64 d] => some ⟨a, b, c, d⟩
  | _ => none
def decS : List AV → Option (List UInt8)
  | [.str s] => some s
  | _ => none
def decH (G : Nat → Option ABlk) : List AV → Option (Hor × AV)
  | [.str n, .int .i64 e, s] =>
    match rowsOf G 2 s with
    | some r =>
      match decL dec2 r with
      | some ps => if ps.length < 2 ^ 63 ∧ n.length < 2 ^ 63 then some (⟨n, e, ps⟩, s) else none
      | none => none
    | none => none
  | _ => none
theorem dec2_ok (x : List AV) (y : Int × Int) (h : dec2 x = some y) : x = ratRow y := by
  unfold dec2 at h
  split at h <;> cases h
  rfl
theorem dec4_ok (x : List AV) (y : Wl) (h : dec4 x = some y) : x = wlRow y := by
  unfold dec4 at h
  split at h <;> cases h
  rfl
theorem decS_ok (x : List AV) (y : List UInt8) (h : decS x = some y) : x = [.str y] := by
  unfold decS at h
  split at h <;> cases h
  rfl
theorem decH_ok {h : AHeap} (x : List AV) (y : Hor × AV) (hx : decH (fun b => h[b]?) x = some y) : x = horRow y ∧ HorOk h y.1 y.2 := by
  unfold decH at hx
  split at hx
  case h_2 => cases hx
  split at hx
  case h_2 => cases hx
  rename_i r hr
  split at hx
  case h_2 => cases hx
  rename_i ps hps
  split at hx
  case isFalse => cases hx
  rename_i hc
  cases hx
  have := rowsOf_ok hr
  rw [decL_ok dec2_ok hps] at this
  exact ⟨rfl, this, hc.1, hc.2⟩

/-- Factors, at arguments that are read. -/
def facE (args : List AV) (G : Nat → Option ABlk) : Option (AV × Eff) :=
  match args with
  | [s, sv, sw] =>
    match rowsOf G 3 s, rowsOf G 2 sv, rowsOf G 4 sw with
    | some a, some b, some c =>
      match decL (decH G) a, decL dec2 b, decL dec4 c with
      | some L, some V, some W => if L.length < 2 ^ 63 ∧ V.length ≤ 2 ^ 40 then some (.tup [ratA (factorsS (L.map (·.1)) V W).1, .int .i64 (factorsS (L.map (·.1)) V W).2], .keep) else none
      | _, _, _ => none
    | _, _, _ => none
  | _ => none
theorem facE_ok {P : Program} (T : Tbl P) {args : List AV} {h : AHeap} {v : AV} {e : Eff} (he : facE args (fun b => h[b]?) = some (v, e)) : SCall P 45 args h v (e.app h) := by
  unfold facE at he
  split at he
  case h_2 => cases he
  rename_i s sv sw
  split at he
  case h_2 => cases he
  rename_i a b c ha hb hc
  split at he
  case h_2 => cases he
  rename_i L V W hL hV hW
  split at he
  case isFalse => cases he
  rename_i hl
  cases he
  have h1 := rowsOf_ok ha
  have h2 := rowsOf_ok hb
  have h3 := rowsOf_ok hc
  rw [decL_ok (fun x y hx => (decH_ok x y hx).1) hL] at h1
  rw [decL_ok dec2_ok hV] at h2
  rw [decL_ok dec4_ok hW] at h3
  obtain ⟨v', g, hs, rfl⟩ := r45 T ⟨h1, hl.1, decL_all (fun x y hx => (decH_ok x y hx).2) hL⟩ h2 hl.2 h3
  exact hs.forget (clos_rat_int _ _ _)

theorem strs_flat : ∀ xs : List (List UInt8), (xs.map fun x => [AV.str x]).flatten = xs.map AV.str
  | [] => rfl
  | x :: xs => by rw [List.map_cons, List.flatten_cons, strs_flat xs]; rfl

/-- strings.Join. -/
def joinE (args : List AV) (G : Nat → Option ABlk) : Option (AV × Eff) :=
  match args with
  | [s, .str sep] =>
    match rowsOf G 1 s with
    | some a =>
      match decL decS a with
      | some xs => if (Lib.join xs sep).length ≤ 140737488355328 ∧ xs.length ≤ 140737488355328 then some (.str (Lib.join xs sep), .keep) else none
      | none => none
    | none => none
  | _ => none

open Go.RowKit in
theorem joinE_ok {args : List AV} {h : AHeap} {v : AV} {e : Eff} (he : joinE args (fun b => h[b]?) = some (v, e)) : SCall Go.Proofs.Tryz.prog 149 args h v (e.app h) := by
  unfold joinE at he
  split at he
  case h_2 => cases he
  rename_i s sep
  split at he
  case h_2 => cases he
  rename_i a ha
  split at he
  case h_2 => cases he
  rename_i xs hxs
  split at he
  case isFalse => cases he
  rename_i hl
  cases he
  have hs := rowsOf_ok ha
  rw [decL_ok decS_ok hxs] at hs
  intro m w vs hr hargs
  obtain ⟨v1, vs1, rfl, hv1, hr1⟩ := VRs_cons.1 hargs
  obtain ⟨v2, vs2, rfl, hv2, hr2⟩ := VRs_cons.1 hr1
  rw [VRs_nil] at hr2
  subst hr2
  rw [VR] at hv2
  subst hv2
  have fin : ∀ e w', (e = .returned (.string ⟨(Lib.join xs sep).toArray⟩) ∧ Below w.heap.size w w') → Rel Go.Proofs.Tryz.prog m h w (.str (Lib.join xs sep)) h e w' := by
    rintro e w' ⟨rfl, hb⟩
    exact ⟨_, m, rfl, rfl, ⟨hr.dom, fun b e k h1 h2 => (hr.blk b e k h1 h2).heap (hb.block _ (hr.lt b e h1)), hr.sep, hr.glob, fun b e h1 => Nat.lt_of_lt_of_le (hr.lt b e h1) hb.size⟩,
      ⟨fun _ _ => rfl, Nat.le_refl _, fun b e h1 h2 => absurd (hr.dom b e h2) (by omega), fun _ _ h => h, hb.size, hb.os, hb.output, hb.tape, fun i hi _ => hb.block i hi⟩⟩
  have zero : xs = [] → ∀ (a : Option Addr) (c : Nat), Calls Go.Proofs.Tryz.prog 149 #[.slice a 0 c, .string ⟨⟨sep⟩⟩] w (Rel Go.Proofs.Tryz.prog m h w (.str (Lib.join xs sep)) h) := fun hx a c => by
    refine (Go.Proofs.Tryz.strings_Join_none a c ⟨⟨sep⟩⟩ w).mono fun e w' ⟨he, hw⟩ => fin e w' ⟨?_, hw ▸ Below.refl _ _⟩
    rw [he, hx]; rfl
  have hlen := hs.lenm (fun _ => none)
  cases s with
  | nilSlice =>
    rw [VR] at hv1
    subst hv1
    simp only [Go.Abs.lenG, if_true, Option.some.injEq] at hlen
    exact zero (List.length_eq_zero_iff.1 hlen.symm) none 0
  | slice b o n es =>
    simp only [Go.Abs.lenG, if_true, Option.some.injEq] at hlen
    subst hlen
    rw [VR] at hv1
    obtain ⟨ent, ca, cap, he, rfl, hcap, hca, hsz⟩ := hv1
    by_cases hz : xs.length = 0
    · have hz' := List.length_eq_zero_iff.1 hz
      have := zero hz' (some ca) cap
      rw [hz]
      exact this
    · have hca' := hca (by omega)
      subst hca'
      generalize hcs : xs.map (fun x => [AV.str x]) = cs at hs
      have hcl : cs.length = xs.length := by rw [← hcs]; simp
      obtain ⟨_, c, mu, tl, hb, hf⟩ := hs.inv
      · obtain ⟨cc, el, fz, hheap, _, hcell, _⟩ := hr.blk b ent _ he hb
        have key := Go.Proofs.Tryz.strings_Join ent.cb (o + ent.d) cap (xs.map fun l => ⟨⟨l⟩⟩) ⟨⟨sep⟩⟩ w ?_ (hr.lt b ent he) (by rw [List.length_map]; exact hl.2) (by rw [List.length_map]; omega) ?_
        · rw [List.length_map] at key
          refine key.mono fun e w' ⟨he, hw⟩ => fin e w' ⟨?_, hw⟩
          rw [he, List.map_map]
          simp [Function.comp_def]
        · intro j x hx
          rw [List.getElem?_map, Option.map_eq_some_iff] at hx
          obtain ⟨l, hl', rfl⟩ := hx
          have hj : j < xs.length := (List.getElem?_eq_some_iff.1 hl').1
          have hflat : cs.flatten[j]? = some (.str l) := by
            rw [← hcs]
            have := strs_flat xs
            rw [this, List.getElem?_map, hl']; rfl
          rw [← hf, List.getElem?_take, if_pos (by omega), List.getElem?_drop] at hflat
          obtain ⟨_, cv, hcv, hvr⟩ := hcell _ _ hflat
          rw [VR] at hvr
          subst hvr
          simp only [World.cell?, hheap, Option.isSome_none, Bool.false_eq_true, if_false]
          rw [show o + ent.d + j = ent.d + (o + j) by omega]; exact hcv
        · rw [List.map_map]
          simpa [Function.comp_def] using hl.1
  | _ => cases hs

end Go.Abs
namespace Go.Proofs
open Go.Shelf
def Tryz.lays189_ren : Go.Shelf.Ren := ⟨fun | 189 => 182 | 125 => 205 | 257 => 204 | 128 => 226 | 129 => 227 | 294 => 217 | 295 => 218 | 296 => 219 | 297 => 220 | 298 => 221 | 299 => 222 | 216 => 223 | 300 => 224 | 301 => 225 | 328 => 235 | 329 => 236 | 330 => 237 | 331 => 238 | 332 => 239 | 215 => 206 | 343 => 248 | n => n, fun | 28 => 58 | 3 => 3 | 46 => 283 | 0 => 0 | 51 => 298 | 53 => 300 | 4 => 4 | 183 => 291 | 182 => 290 | 131 => 147 | 5 => 5 | 9 => 9 | 218 => 307 | 222 => 311 | 228 => 319 | 229 => 243 | n => n, fun n => n⟩
theorem Tryz.lays189 : Go.Proofs.Lays.n189 Tryz.prog Tryz.lays189_ren := {
  mixed := by kernel_rfl
  f125 := Tryz.func205.trans (congrArg some (by kernel_rfl))
  f128 := Tryz.func226.trans (congrArg some (by kernel_rfl))
  f129 := Tryz.func227.trans (congrArg some (by kernel_rfl))
  f189 := Tryz.func182.trans (congrArg some (by kernel_rfl))
  f215 := Tryz.func206.trans (congrArg some (by kernel_rfl))
  f216 := Tryz.func223.trans (congrArg some (by kernel_rfl))
  f257 := Tryz.func204.trans (congrArg some (by kernel_rfl))
  f294 := Tryz.func217.trans (congrArg some (by kernel_rfl))
  f295 := Tryz.func218.trans (congrArg some (by kernel_rfl))
  f296 := Tryz.func219.trans (congrArg some (by kernel_rfl))
  f297 := Tryz.func220.trans (congrArg some (by kernel_rfl))
  f298 := Tryz.func221.trans (congrArg some (by kernel_rfl))
  f299 := Tryz.func222.trans (congrArg some (by kernel_rfl))
  f300 := Tryz.func224.trans (congrArg some (by kernel_rfl))
  f301 := Tryz.func225.trans (congrArg some (by kernel_rfl))
  f328 := Tryz.func235.trans (congrArg some (by kernel_rfl))
  f329 := Tryz.func236.trans (congrArg some (by kernel_rfl))
  f330 := Tryz.func237.trans (congrArg some (by kernel_rfl))
  f331 := Tryz.func238.trans (congrArg some (by kernel_rfl))
  f332 := Tryz.func239.trans (congrArg some (by kernel_rfl))
  f343 := Tryz.func248.trans (congrArg some (by kernel_rfl))
  t0 := Tryz.underlying0
  a0 := Tryz.isAgg0
  z0 := Tryz.sizeOf0
  v0 := Tryz.zeroValue0
  t3 := Tryz.underlying3
  a3 := Tryz.isAgg3
  z3 := Tryz.sizeOf3
  v3 := Tryz.zeroValue3
  t4 := Tryz.underlying4
  a4 := Tryz.isAgg4
  z4 := Tryz.sizeOf4
  v4 := Tryz.zeroValue4
  t5 := Tryz.underlying5
  a5 := Tryz.isAgg5
  z5 := Tryz.sizeOf5
  v5 := Tryz.zeroValue5
  t9 := Tryz.underlying9
  a9 := Tryz.isAgg9
  z9 := Tryz.sizeOf9
  v9 := Tryz.zeroValue9
  t28 := Tryz.underlying58
  a28 := Tryz.isAgg58
  z28 := Tryz.sizeOf58
  v28 := Tryz.zeroValue58
  t46 := Tryz.underlying283
  a46 := Tryz.isAgg283
  z46 := Tryz.sizeOf283
  v46 := Tryz.zeroValue283
  t51 := Tryz.underlying298
  a51 := Tryz.isAgg298
  z51 := Tryz.sizeOf298
  v51 := Tryz.zeroValue298
  t53 := Tryz.underlying300
  a53 := Tryz.isAgg300
  z53 := Tryz.sizeOf300
  v53 := Tryz.zeroValue300
  t131 := Tryz.underlying147
  a131 := Tryz.isAgg147
  z131 := Tryz.sizeOf147
  v131 := Tryz.zeroValue147
  t182 := Tryz.underlying290
  a182 := Tryz.isAgg290
  z182 := Tryz.sizeOf290
  v182 := Tryz.zeroValue290
  t183 := Tryz.underlying291
  a183 := Tryz.isAgg291
  z183 := Tryz.sizeOf291
  v183 := Tryz.zeroValue291
  t218 := Tryz.underlying307
  a218 := Tryz.isAgg307
  z218 := Tryz.sizeOf307
  v218 := Tryz.zeroValue307
  t222 := Tryz.underlying311
  a222 := Tryz.isAgg311
  z222 := Tryz.sizeOf311
  v222 := Tryz.zeroValue311
  t228 := Tryz.underlying319
  a228 := Tryz.isAgg319
  z228 := Tryz.sizeOf319
  v228 := Tryz.zeroValue319
  t229 := Tryz.underlying243
  a229 := Tryz.isAgg243
  z229 := Tryz.sizeOf243
  v229 := Tryz.zeroValue243 }
end Go.Proofs
namespace Go.Abs

theorem ints_VRs (m : Emb) : ∀ zs : List Int, VRs m (zs.map (AV.int .i64)) (zs.map (Value.int .i64))
  | [] => by rw [List.map_nil, VRs_nil]; rfl
  | z :: zs => VRs_cons.2 ⟨_, _, rfl, rfl, ints_VRs m zs⟩

open Go.RowKit Go.Sort in
/-- SORTED IN ITS PLACE. -/
theorem sort_ok {h : AHeap} {b o : Nat} {c : List AV} {tl : Bool} {zs : List Int} (hb : h[b]? = some (.cells c true tl)) (hle : o + zs.length ≤ c.length) (hc : (c.drop o).take zs.length = zs.map (AV.int .i64)) (hz : zs.length < 4611686018427387904) :
    SCall Go.Proofs.Tryz.prog 182 [.slice b o zs.length 1] h (.tup []) (h.set b (.cells (setL c o ((sortI zs).map (AV.int .i64))) true tl)) := by
  intro m w vs hr ha
  obtain ⟨v, vs1, rfl, hv, hr1⟩ := VRs_cons.1 ha
  rw [VRs_nil] at hr1
  subst hr1
  rw [VR] at hv
  obtain ⟨ent, ca, cap, he, rfl, hcap, hca, hsz⟩ := hv
  obtain ⟨cc, el, fz, hw, ⟨hle1, hle2⟩, hget, hown, hmt⟩ := hr.blk b ent _ he hb
  obtain ⟨hs, hfz⟩ := hown (hmt (.inl rfl)).1
  have hlt := hr.lt b ent he
  by_cases h0 : zs.length = 0
  · have hz0 := List.length_eq_zero_iff.1 h0
    subst hz0
    have hset : h.set b (.cells (setL c o ((sortI []).map (AV.int .i64))) true tl) = h := by
      apply List.ext_getElem?
      intro i
      rw [getElem?_set_blk h b i _ (hr.dom _ _ he)]
      by_cases hi : i = b
      · subst hi; simp [hb, sortI, setL]
      · simp [hi]
    rw [hset]
    refine (Go.Proofs.Any.slices_Sort_int_none Go.Proofs.Tryz.lays189 (some ca) cap w).mono ?_
    rintro e w' ⟨rfl, rfl⟩
    exact ⟨_, m, rfl, ⟨[], rfl, rfl⟩, hr, Grow.refl m h _ hr.dom⟩
  · have hca' := hca (by omega)
    subst hca'
    have hci : ∀ j (hj : j < zs.length), cc[ent.d + (o + j)]? = some (.int .i64 zs[j]) := fun j hj => by
      have : ((c.drop o).take zs.length)[j]? = some (.int .i64 zs[j]) := by rw [hc, List.getElem?_map, List.getElem?_eq_getElem hj]; rfl
      rw [List.getElem?_take_of_lt hj, List.getElem?_drop] at this
      obtain ⟨_, cv, hcv, hvr⟩ := hget _ _ this
      rw [VR] at hvr
      rw [hcv, hvr]
    have key := Go.Proofs.Any.slices_Sort_int Go.Proofs.Tryz.lays189 ent.cb (o + ent.d) cap zs w (by
      intro j hj
      have hj' : j < zs.length := by simpa using hj
      refine ⟨?_, frozen_false hw (hfz _ (by omega))⟩
      have e1 : zs.toArray[j]! = zs[j] := by simp [hj']
      simp only [World.cell?, hw, Option.isSome_none, Bool.false_eq_true, if_false]
      rw [show o + ent.d + j = ent.d + (o + j) by omega, hci j hj', e1]) hlt hz
    rw [sortI_eq] at key
    refine key.mono ?_
    rintro e w' ⟨rfl, n, os, rfl⟩
    have hsl := sortI_len zs
    obtain ⟨w1, hrun1, hr1, hg1⟩ := storeN_ok ((sortI zs).map (AV.int .i64)) _ hr he hb o 0 (by simp only [List.length_map, hsl]; omega) (by simp [AV.one]) (ints_VRs m (sortI zs))
    obtain ⟨w2, cc2, hrun2, hw2, hs2, hc2, hoth, hsz2, -, -, -⟩ := store_raw (P := Go.Proofs.Tryz.prog) ((sortI zs).map (Value.int .i64)) (o + ent.d) 0 cc w hw (by simp only [List.length_map, hsl]; omega) hfz (by simp [Value.oneCell'])
    rw [hrun1] at hrun2
    cases hrun2
    have hput : putCells (Value.int .i64) (o + ent.d) (sortI zs).toArray cc = cc2 := by
      apply Array.ext_getElem?
      intro i
      rw [hc2 i]
      unfold putCells
      rw [Array.getElem?_mapIdx]
      simp only [Nat.add_zero, List.length_map, List.size_toArray]
      by_cases hi : o + ent.d ≤ i ∧ i < o + ent.d + (sortI zs).length
      · rw [if_pos hi, List.getElem?_map, List.getElem?_eq_getElem (show i - (o + ent.d) < (sortI zs).length by omega)]
        rw [Array.getElem?_eq_getElem (show i < cc.size by omega), Option.map_some, if_pos hi, Option.map_some]
        congr 2
        rw [List.getElem!_toArray, List.getElem!_eq_getElem?_getD, List.getElem?_eq_getElem (by omega), Option.getD_some]
      · rw [if_neg hi]
        cases hx : cc[i]? with
        | none => rfl
        | some x => rw [Option.map_some, if_neg hi]
    have hheap : ∀ i, i < w.heap.size → (grow (putRow (Value.int .i64) (Sort.ahead w n) ent.cb (o + ent.d) (sortI zs).toArray) os).heap[i]? = w1.heap[i]? := fun i hi => by
      have e0 : (grow (putRow (Value.int .i64) (Sort.ahead w n) ent.cb (o + ent.d) (sortI zs).toArray) os).heap = (w.heap.modify ent.cb (onCells (putCells (Value.int .i64) (o + ent.d) (sortI zs).toArray))) ++ os := rfl
      rw [e0, Array.getElem?_append_left (by simpa using hi), Array.getElem?_modify]
      by_cases hcb : ent.cb = i
      · subst hcb
        rw [if_pos rfl, hw, hw2, Option.map_some]
        simp only [onCells, hput]
      · rw [if_neg hcb, hoth i (fun x => hcb x.symm)]
    have hsize : w.heap.size ≤ (grow (putRow (Value.int .i64) (Sort.ahead w n) ent.cb (o + ent.d) (sortI zs).toArray) os).heap.size := by
      have e0 : (grow (putRow (Value.int .i64) (Sort.ahead w n) ent.cb (o + ent.d) (sortI zs).toArray) os).heap = (w.heap.modify ent.cb (onCells (putCells (Value.int .i64) (o + ent.d) (sortI zs).toArray))) ++ os := rfl
      rw [e0]; simp
    have hr1' := hr1
    have hg1' := hg1
    rw [Nat.add_zero] at hr1' hg1'
    refine ⟨_, m, rfl, ⟨[], rfl, rfl⟩, ⟨hr1'.dom, fun b' e' k' a1 a2 => (hr1'.blk b' e' k' a1 a2).heap (hheap _ (hr.lt b' e' a1)), hr1'.sep, hr1'.glob, fun b' e' a1 => Nat.lt_of_lt_of_le (hr.lt b' e' a1) hsize⟩,
      ⟨hg1'.ext, hg1'.len, fun b' e' a1 a2 => absurd (hr.dom b' e' a2) (by omega), hg1'.tl, hsize, rfl, rfl, rfl, fun i hi hno => (hheap i hi).trans (hg1'.frame i hi hno)⟩⟩

theorem sort_nil {h : AHeap} : SCall Go.Proofs.Tryz.prog 182 [.nilSlice] h (.tup []) h := by
  intro m w vs hr ha
  obtain ⟨v, vs1, rfl, hv, hr1⟩ := VRs_cons.1 ha
  rw [VRs_nil] at hr1
  subst hr1
  rw [VR] at hv
  subst hv
  refine (Go.Proofs.Any.slices_Sort_int_none Go.Proofs.Tryz.lays189 none 0 w).mono ?_
  rintro e w' ⟨rfl, rfl⟩
  exact ⟨_, m, rfl, ⟨[], rfl, rfl⟩, hr, Grow.refl m h _ hr.dom⟩

def decI : List AV → Option (List Int)
  | [] => some []
  | .int .i64 z :: r =>
    match decI r with
    | some l => some (z :: l)
    | none => none
  | _ => none
theorem decI_ok : ∀ {l : List AV} {zs : List Int}, decI l = some zs → l = zs.map (AV.int .i64)
  | [], zs, h => by cases h; rfl
  | x :: r, zs, h => by
    unfold decI at h
    split at h
    · rename_i hx; cases hx
    · rename_i z r' hx
      cases hx
      split at h
      · rename_i l hl
        cases h
        rw [List.map_cons, ← decI_ok hl]
      · cases h
    · cases h

/-- slices.Sort, at an argument that is read. -/
def sortE (args : List AV) (G : Nat → Option ABlk) : Option (AV × Eff) :=
  match args with
  | [.nilSlice] => some (.tup [], .keep)
  | [.slice b o n 1] =>
    match G b with
    | some (.cells c true tl) =>
      match Nat.ble (o + n) c.length && Nat.blt n 4611686018427387904 with
      | true =>
        match decI ((c.drop o).take n) with
        | some zs => some (.tup [], .set b (.cells (setL c o ((sortI zs).map (AV.int .i64))) true tl))
        | none => none
      | false => none
    | _ => none
  | _ => none

theorem sortE_ok {args : List AV} {h : AHeap} {v : AV} {e : Eff} (he : sortE args (fun b => h[b]?) = some (v, e)) : SCall Go.Proofs.Tryz.prog 182 args h v (e.app h) := by
  unfold sortE at he
  split at he
  · cases he; exact sort_nil
  · rename_i b o n
    split at he
    · rename_i c tl hb
      split at he
      · rename_i hx
        rw [Bool.and_eq_true, Nat.ble_eq, Nat.blt_eq] at hx
        split at he
        · rename_i zs hzs
          cases he
          have hd := decI_ok hzs
          have hl : zs.length = n := by
            have := congrArg List.length hd
            simp only [List.length_take, List.length_drop, List.length_map] at this
            omega
          subst hl
          exact sort_ok hb hx.1 hd hx.2
        · cases he
      · cases he
    · cases he
  · cases he

end Go.Abs
namespace Go.Abs

theorem lh_get {h' : AHeap} {X : ABlk} {g : AHeap} {n : Nat} (hn : h'.length = n) : (h' ++ [X] ++ g)[n]? = some X := by
  subst hn
  rw [List.append_assoc, List.getElem?_append_right (Nat.le_refl _), Nat.sub_self]; rfl
theorem lh_set {h' : AHeap} {X Y : ABlk} {g : AHeap} {n : Nat} (hn : h'.length = n) : (h' ++ [X] ++ g).set n Y = h' ++ [Y] ++ g := by
  subst hn
  rw [List.append_assoc, List.set_append_right _ _ (Nat.le_refl _), Nat.sub_self, List.append_assoc]; rfl

/-- A function calls yield with one list of arguments after the other, until yield says no. -/
structure Iter (P : Program) (f : FuncId) (a c : List AV) (L : List (List AV)) (pre : AHeap → Prop) : Prop where
  run : ∀ (l : Nat) (h : AHeap) (J : Nat → AHeap → Prop) (D : AHeap → Prop), (∀ i k, J i k → pre k) → (∀ i k g, J i k → J i (k ++ g)) →
    (∀ i (hi : i < L.length) k, J i k → ∃ b k', SCallV P (.func (.yield l) [] []) L[i] k (.bool b) k' ∧ (if b = true then J (i + 1) k' else D k')) →
    (∀ k, J L.length k → D k) → J 0 h → GCall P f (a ++ [.func (.yield l) [] []] ++ c) h (fun _ k => D k)

section
variable {P : Program} {ks : List Kt} {ts : TS} {h : AHeap} {Q : Ex → TS → AHeap → Prop}

/-- THE STATEMENT 'for .. := range f { .. }', by an invariant on what was there before the loop, and on what came since. -/
theorem WC.iter (hmix : P.follows .mixedOrders = true) {f : FuncId} {A : AFunc} {a c : List AV} {L : List (List AV)} {pre : AHeap → Prop} {g : Opd} {ps : List Nat} {asg body : ICode} (hA : compileFn P f = some A)
    (hg : val ts g = .func (.func f) a c) (hi : Iter P f a c L pre) (hps : ∀ x ∈ L, x.length = ps.length) (I : Nat → AHeap → AHeap → Prop) (Fin : Ex → AHeap → AHeap → Prop)
    (h0 : I 0 h []) (hcl : ∀ i h' g g2, I i h' g → I i h' (g ++ g2)) (hpre : ∀ i h' g X, h'.length = h.length → I i h' g → pre (h' ++ [X] ++ g))
    (step : ∀ i (hi : i < L.length) h' g (R B : ABlk), h'.length = h.length → I i h' g →
      WC P inRd asg [] (setArgs ts ps L[i]) (h' ++ [R] ++ g) fun e1 ts2 h2 => e1 = .normal ∧ ∃ h1 g1, h2 = h1 ++ [R] ++ g1 ∧ h1.length = h.length ∧
        WC P inRd body [] ts2 (h1 ++ [B] ++ g1) fun e2 _ h4 => ∃ h3 g3, h4 = h3 ++ [B] ++ g3 ∧ h3.length = h.length ∧ (if e2 = .normal then I (i + 1) h3 g3 else Fin e2 h3 g3))
    (done : ∀ e h' g, h'.length = h.length → (if e = .normal then I L.length h' g else Fin e h' g) → WE P inFn e ks ts (h' ++ [ABlk.dead] ++ g) Q) : WC P inFn (.rangeF g ps asg body) ks ts h Q := by
  let J : Nat → AHeap → Prop := fun i k => ∃ h' g, k = h' ++ [.loop .ready .normal ts ps asg body] ++ g ∧ h'.length = h.length ∧ I i h' g
  let D : AHeap → Prop := fun k => ∃ e h' g st, k = h' ++ [.loop st e ts ps asg body] ++ g ∧ h'.length = h.length ∧ st ≠ .busy ∧ (if e = .normal then I L.length h' g else Fin e h' g)
  obtain ⟨v, h2, hs, e, h', g', st, rfl, hl, hst, hfin⟩ := hi.run h.length (h ++ [.loop .ready .normal ts ps asg body]) J D
    (fun i k hJ => by obtain ⟨h', g, rfl, h1, h2⟩ := hJ; exact hpre i h' g _ h1 h2)
    (fun i k g2 hJ => by obtain ⟨h', g, rfl, h1, h2⟩ := hJ; exact ⟨h', g ++ g2, by rw [List.append_assoc], h1, hcl _ _ _ _ h2⟩)
    (fun i hi k hJ => by
      obtain ⟨h', g, rfl, h1, h2⟩ := hJ
      obtain ⟨e1, ts2, k2, q1, rfl, h3, g3, rfl, h4, q2⟩ := W.sound hmix (step i hi h' g (.loop .ready .normal ts ps asg body) (.loop .busy .normal ts ps asg body) h1 h2)
      obtain ⟨e2, ts3, k3, q3, h5, g5, rfl, h6, q4⟩ := W.sound hmix q2
      have hy : SCallV P (.func (.yield h.length) [] []) L[i] (h' ++ [.loop .ready .normal ts ps asg body] ++ g) (.bool (decide (e2 = .normal))) (List.set (h5 ++ [ABlk.loop .busy .normal ts ps asg body] ++ g5) h.length (ABlk.loop (if e2 = .normal then .ready else .done) e2 ts ps asg body)) :=
        SCallV.yield (lh_get h1) (hps _ (List.getElem_mem hi)) (fun r => q1 (some r) ⟨r, rfl⟩) (lh_get h4) (fun r => by rw [lh_set h4]; exact q3 (some r) ⟨r, rfl⟩) (lh_get h6)
      rw [lh_set h6] at hy
      refine ⟨decide (e2 = .normal), _, hy, ?_⟩
      by_cases he : e2 = .normal
      · subst he
        rw [if_pos rfl] at q4
        simp only [decide_true, if_true]
        exact ⟨h5, g5, rfl, h6, q4⟩
      · rw [if_neg he] at q4
        simp only [he, decide_false, Bool.false_eq_true, if_false]
        exact ⟨e2, h5, g5, .done, rfl, h6, by simp, by rw [if_neg he]; exact q4⟩)
    (fun k hJ => by obtain ⟨h', g, rfl, h1, h2⟩ := hJ; exact ⟨.normal, h', g, .ready, rfl, h1, by simp, by rw [if_pos rfl]; exact h2⟩)
    ⟨h, [], by rw [List.append_nil], rfl, h0⟩
  refine ⟨e, ts, h' ++ [ABlk.dead] ++ g', fun r hr => ?_, done e h' g' hl hfin⟩
  have : r = none := hr
  subst this
  have := Ev.rangeF (h := h) (ps := ps) (asg := asg) (body := body) hA hg hs (lh_get hl) hst
  rw [lh_set hl] at this
  exact this
end
end Go.Abs
namespace Go.Abs

theorem setL_all : ∀ (l c pre : List AV), c.length = l.length → setL (pre ++ c) pre.length l = pre ++ l
  | [], c, pre, h => by
    have : c = [] := List.length_eq_zero_iff.1 h
    subst this; rfl
  | x :: l, [], pre, h => by simp at h
  | x :: l, y :: c, pre, h => by
    have e1 : (pre ++ y :: c).set pre.length x = (pre ++ [x]) ++ c := by
      rw [List.set_append_right _ _ (Nat.le_refl _), Nat.sub_self, List.append_assoc]; rfl
    have e2 : pre.length + 1 = (pre ++ [x]).length := by simp
    rw [setL_cons, e1, e2, setL_all l c (pre ++ [x]) (by simpa using h), List.append_assoc]; rfl

section
variable {P : Program} {ro : Option Nat → Prop} {ks : List Kt} {ts : TS} {Q : Ex → TS → AHeap → Prop} {d : Option Nat} {l : List IOp}

/-- append on a literal without elements: what is there is left alone. -/
theorem WR.appz {q : Bool} {N b es w : Nat} {h : AHeap} {y : AV} {ys : List (List AV)} (hb : h[b]? = some (.cells [] true false)) (hN : N ≤ b) (hy : IsSl h y es ys) (hsz : ys.length * w ≤ 2 ^ 46)
    (K : ∀ s' g, Fr N (h ++ g) s' es ys → WP P ro l ks (put ts d s') (h ++ g) Q) : WR P ro (appT es w (.slice b 0 0 es) y (fun b => h[b]?) h.length) q d l ks ts h Q := by
  have hbl : b < h.length := (List.getElem?_eq_some_iff.1 hb).1
  simp only [appT, hy.cellsG, if_true]
  by_cases hk : ys.length = 0
  · have hys : ys = [] := List.length_eq_zero_iff.1 hk
    subst hys
    simp only [List.length_nil, if_true, List.flatten_nil, List.isEmpty_nil]
    rw [WR_keep]
    have := K (.slice b 0 0 es) [] (by rw [List.append_nil]; exact Fr.mk (cs := []) hN hb (by simp))
    rwa [List.append_nil] at this
  · simp only [if_neg hk, Nat.zero_add, if_pos hsz, hb]
    rw [if_pos (by simp), WR_push]
    exact K _ _ (Fr.push (by omega) ys hy.rows)

end
end Go.Abs
namespace Go.Abs

section
variable {P : Program} (T : Tbl P) {h : AHeap}
include T

theorem r42 {V : List (Int × Int)} {s : AV} (hs : IsSl h s 2 (V.map ratRow)) (hb : V.length ≤ 2 ^ 40) : RCall P 42 [s] h (fun v h' => Fr h.length h' v 2 (V.map ratRow)) := by
  refine .of T.mix T.c42 ?_
  unfold fn42
  simp only [wset, hset, dset, bset, Nat.reduceAdd, Nat.reduceMul, Nat.reduceLeDiff, Nat.reduceEqDiff]
  refine WR.appz (N := h.length) at_new (Nat.le_refl _) (hs.ext (by repeat first | exact Ext.refl _ | refine Ext.app _ ?_)) (by simp; omega) fun s' g hf => ?_
  simp only [wset, hset, dset, bset, Nat.reduceAdd, Nat.reduceMul, Nat.reduceLeDiff, Nat.reduceEqDiff]
  exact hf
end
end Go.Abs
namespace Go.Abs

structure Mp where
  cols : Int
  rows : Int
  deps : List (Int × Int)
abbrev mapA (m : Mp) (s : AV) : AV := .agg [.int .i64 m.cols, .int .i64 m.rows, s]
def mapHeadS (m : Mp) : Int := firstS [rangeS m.cols 1 16, rangeS m.rows 1 16, whenS (decide ((m.deps.length : Int) ≠ m.cols * m.rows)) 2]
def chkMapS (m : Mp) : Int := if mapHeadS m = 0 then firstS (m.deps.map fun x => chkIvS x 0 100000000) else mapHeadS m
/-- A valid map. -/
structure MpV (m : Mp) : Prop where
  c : 1 ≤ m.cols ∧ m.cols ≤ 16
  r : 1 ≤ m.rows ∧ m.rows ≤ 16
  l : (m.deps.length : Int) = m.cols * m.rows
  d : ∀ x ∈ m.deps, 0 ≤ x.1 ∧ x.1 ≤ 100000000 ∧ 0 ≤ x.2 ∧ x.2 ≤ 100000000 ∧ x.1 ≤ x.2
theorem map_zero {m : Mp} : chkMapS m = 0 ↔ MpV m := by
  have h1 : mapHeadS m = 0 ↔ (1 ≤ m.cols ∧ m.cols ≤ 16) ∧ (1 ≤ m.rows ∧ m.rows ≤ 16) ∧ (m.deps.length : Int) = m.cols * m.rows := by
    unfold mapHeadS
    rw [firstS_zero]
    simp only [List.mem_cons, List.not_mem_nil, or_false, forall_eq_or_imp, forall_eq, rangeS_zero, whenS_zero (show (2 : Int) ≠ 0 by decide), decide_eq_false_iff_not, Decidable.not_not, ne_eq]
  unfold chkMapS
  by_cases h : mapHeadS m = 0
  · rw [if_pos h, firstS_zero]
    obtain ⟨a, b, c⟩ := h1.1 h
    constructor
    · intro hd
      exact ⟨a, b, c, fun x hx => by have := iv_zero.1 (hd _ (List.mem_map_of_mem hx)); omega⟩
    · intro v y hy
      obtain ⟨x, hx, rfl⟩ := List.mem_map.1 hy
      have := v.d x hx
      exact iv_zero.2 (by omega)
  · rw [if_neg h]
    exact ⟨fun x => absurd x h, fun v => absurd (h1.2 ⟨v.c, v.r, v.l⟩) h⟩
/-- What the wrapped product does to the head. -/
theorem head_wrap {m : Mp} : firstS [rangeS m.cols 1 16, rangeS m.rows 1 16, whenS (decide ((m.deps.length : Int) ≠ IntKind.i64.wrap (m.cols * m.rows))) 2] = mapHeadS m := by
  unfold mapHeadS
  by_cases hc : rangeS m.cols 1 16 = 0
  · by_cases hr : rangeS m.rows 1 16 = 0
    · rw [rangeS_zero] at hc hr
      have := mul_bd (a := m.cols) (b := m.rows) (A := 16) (B := 16) (by omega) (by omega)
      rw [wrap_in (by omega) (by omega)]
    · simp only [firstS, hc, if_true, if_neg hr]
  · simp only [firstS, if_neg hc]

def stepsL : List (Int × Int) := [(-1, 0), (1, 0), (0, -1), (0, 1)]
def nbC (m : Mp) (cell : Int) (s : Int × Int) : Int × Int := (cell % m.cols + s.1, cell / m.cols + s.2)
def nbOk (m : Mp) (cell : Int) (s : Int × Int) : Bool := decide (0 ≤ (nbC m cell s).1) && (decide ((nbC m cell s).1 < m.cols) && (decide (0 ≤ (nbC m cell s).2) && decide ((nbC m cell s).2 < m.rows)))
def nbI (m : Mp) (cell : Int) (s : Int × Int) : Int := (nbC m cell s).2 * m.cols + (nbC m cell s).1
def nbK (m : Mp) (cell : Int) (k : Nat) : List Int := ((stepsL.take k).filter (nbOk m cell)).map (nbI m cell)
def nbS (m : Mp) (cell : Int) : List Int := (stepsL.filter (nbOk m cell)).map (nbI m cell)
theorem nbK_s {m : Mp} {cell : Int} {k : Nat} (hk : k < stepsL.length) : nbK m cell (k + 1) = nbK m cell k ++ (if nbOk m cell stepsL[k] = true then [nbI m cell stepsL[k]] else []) := by
  rw [nbK, List.take_add_one, List.getElem?_eq_getElem hk, List.filter_append, List.map_append, nbK]
  congr 1
  cases h : nbOk m cell stepsL[k] <;> simp [h]
theorem nbK_len {m : Mp} {cell : Int} {k : Nat} : (nbK m cell k).length ≤ 4 := by
  rw [nbK, List.length_map]
  refine Nat.le_trans (List.length_filter_le _ _) ?_
  rw [List.length_take]
  exact Nat.le_trans (Nat.min_le_right _ _) (by decide)

theorem mid3' {X Y g a : AHeap} : X ++ Y ++ g ++ a = X ++ Y ++ (g ++ a) := by simp only [List.append_assoc]
/-- The package-level variable of the steps. -/
def Glb (h : AHeap) : Prop := h[0]? = some (.cells [.int .i64 (-1), .int .i64 0, .int .i64 1, .int .i64 0, .int .i64 0, .int .i64 (-1), .int .i64 0, .int .i64 1] false false)
theorem Glb.ext {h k : AHeap} (g : Glb h) (e : Ext h k) : Glb k := e.some g
theorem Glb.ld {h k : AHeap} (g : Glb h) (e : Ext h k) : loadF (some 8) (.ptr 0 0) (fun b => k[b]?) = some (.agg [.int .i64 (-1), .int .i64 0, .int .i64 1, .int .i64 0, .int .i64 0, .int .i64 (-1), .int .i64 0, .int .i64 1], .keep) := by
  rw [loadF_at (e.some g)]; rfl

attribute [local irreducible] WP WC WE WB WR WF WL WG WRg
section
variable {P : Program} (T : Tbl P) {h : AHeap}
include T

theorem r177 {L : List (Int × Int)} {s f : AV} (hs : IsSl h s 2 (L.map ratRow)) (hl : L.length ≤ 2 ^ 40) (F : (Int × Int) → Int) (hf : ∀ x, x ∈ L → ∀ k, Ext h k → VCall P f [ratA x] k (fun v _ => v = .int .i64 (F x))) :
    RCall P 177 [s, f] h (fun v h' => Fr h.length h' v 1 ((L.map F).map intRow)) := by
  refine .of T.mix T.c177 ?_
  unfold fn177
  simp only [wset, hset, dset, bset, Nat.reduceAdd, Nat.reduceMul, Nat.reduceLeDiff, Nat.reduceEqDiff, hs.lenm]
  refine WL.inv T.mix (fun n ts h' => ∃ (k : Nat) (out : AV), k ≤ L.length ∧ n = L.length - k ∧ Ext h h' ∧ Fr h.length h' out 1 (((L.take k).map F).map intRow) ∧ ts.length = 22 ∧ slot ts 1 = f ∧ slot ts 5 = out ∧ slot ts 8 = s ∧ slot ts 9 = .int .i64 L.length ∧ slot ts 10 = .int .i64 k) L.length
    ⟨0, .nilSlice, by omega, rfl, Ext.refl h, .nil, rfl, rfl, rfl, rfl, rfl, rfl⟩ ?_
  rintro _ ts _ ⟨k, out, hk, rfl, ⟨g, rfl⟩, hfr, hlen, t1, t5, t8, t9, t10⟩
  rw [expl ts 22 hlen]
  by_cases hlt : k < L.length
  · have e3 : (k : Int) < L.length := by omega
    simp only [wset, hset, dset, bset, Nat.reduceAdd, Nat.reduceMul, Nat.reduceLeDiff, Nat.reduceEqDiff, t1, t5, t8, t9, t10, e3, decide_true, hs.ixm hlt, hs.ldm hlt]
    refine WF.val (hf L[k] (by simp) _ (by repeat first | exact Ext.refl _ | refine Ext.app _ ?_)) ?_
    rintro _ g1 rfl
    simp only [wset, hset, dset, bset, Nat.reduceAdd, Nat.reduceMul, Nat.reduceLeDiff, Nat.reduceEqDiff]
    refine WR.app1 (h0 := h) (cs := ((L.take k).map F).map intRow) (ys := [intRow (F L[k])]) ((((hfr.app _).app _).app _)) (Fr.push (N := 0) (Nat.zero_le _) [intRow (F L[k])] (by simp)).isSl (by decide) (by simp) (by simp; omega) (by simp only [eset]) ?_
    intro g' hl' hff hkp
    have hrow : ((L.take k).map F).map intRow ++ [intRow (F L[k])] = ((L.take (k + 1)).map F).map intRow := by rw [List.take_add_one, List.getElem?_eq_getElem hlt, List.map_append, List.map_append]; rfl
    rw [hrow] at hff
    rw [hrow]
    simp only [wset, hset, dset, bset, Nat.reduceAdd, Nat.reduceMul, Nat.reduceLeDiff, Nat.reduceEqDiff, t1, t5, t8, t9, t10, wrapN (show k + 1 < 2 ^ 63 by omega)]
    refine ⟨_, ?_, k + 1, _, by omega, rfl, hff, rfl, rfl⟩
    omega
  · have e3 : ¬ (k : Int) < L.length := by omega
    have e4 : k = L.length := by omega
    simp only [wset, hset, dset, bset, Nat.reduceAdd, Nat.reduceMul, Nat.reduceLeDiff, Nat.reduceEqDiff, t1, t5, t8, t9, t10, e3, decide_false, if_true]
    rw [e4, List.take_length] at hfr
    exact hfr

theorem r129 {m : Mp} {s : AV} (hs : IsSl h s 2 (m.deps.map ratRow)) (hl : m.deps.length ≤ 2 ^ 40) : RCall P 129 [mapA m s] h (fun v h' => Fr h.length h' v 1 ((m.deps.map (·.1)).map intRow)) := by
  refine .of T.mix T.c129 ?_
  unfold fn129
  simp only [wset, hset, dset, bset, Nat.reduceAdd, Nat.reduceMul, Nat.reduceLeDiff, Nat.reduceEqDiff, hs.one]
  refine WF.res T.c177 (r177 T (hs.ext (by repeat first | exact Ext.refl _ | refine Ext.app _ ?_)) hl (·.1) (fun x _ k _ => VCall.of (a := []) (c := []) T.c178 ?_)) ?_
  · refine .of T.mix T.c178 ?_
    unfold fn178
    simp only [wset, hset, dset, bset, Nat.reduceAdd, Nat.reduceMul, Nat.reduceLeDiff, Nat.reduceEqDiff]
  rintro v g1 hv
  simp only [wset, hset, dset, bset, Nat.reduceAdd, Nat.reduceMul, Nat.reduceLeDiff, Nat.reduceEqDiff]
  exact hv.low (by simp)
theorem r130 {m : Mp} {s : AV} (hs : IsSl h s 2 (m.deps.map ratRow)) (hl : m.deps.length ≤ 2 ^ 40) : RCall P 130 [mapA m s] h (fun v h' => Fr h.length h' v 1 ((m.deps.map (·.2)).map intRow)) := by
  refine .of T.mix T.c130 ?_
  unfold fn130
  simp only [wset, hset, dset, bset, Nat.reduceAdd, Nat.reduceMul, Nat.reduceLeDiff, Nat.reduceEqDiff, hs.one]
  refine WF.res T.c177 (r177 T (hs.ext (by repeat first | exact Ext.refl _ | refine Ext.app _ ?_)) hl (·.2) (fun x _ k _ => VCall.of (a := []) (c := []) T.c179 ?_)) ?_
  · refine .of T.mix T.c179 ?_
    unfold fn179
    simp only [wset, hset, dset, bset, Nat.reduceAdd, Nat.reduceMul, Nat.reduceLeDiff, Nat.reduceEqDiff]
  rintro v g1 hv
  simp only [wset, hset, dset, bset, Nat.reduceAdd, Nat.reduceMul, Nat.reduceLeDiff, Nat.reduceEqDiff]
  exact hv.low (by simp)

theorem r65 {m : Mp} {s : AV} (hs : IsSl h s 2 (m.deps.map ratRow)) (hl : m.deps.length ≤ 2 ^ 40) : RCall P 65 [mapA m s] h (fun v _ => v = .int .i64 (chkMapS m)) := by
  refine .of T.mix T.c65 ?_
  unfold fn65
  simp only [wset, hset, dset, bset, Nat.reduceAdd, Nat.reduceMul, Nat.reduceLeDiff, Nat.reduceEqDiff, hs.one]
  refine WF.res T.c108 (r108 T _ _ _) ?_
  rintro _ g1 rfl
  simp only [wset, hset, dset, bset, Nat.reduceAdd, Nat.reduceMul, Nat.reduceLeDiff, Nat.reduceEqDiff]
  refine WF.res T.c108 (r108 T _ _ _) ?_
  rintro _ g2 rfl
  simp only [wset, hset, dset, bset, Nat.reduceAdd, Nat.reduceMul, Nat.reduceLeDiff, Nat.reduceEqDiff, hs.lenm]
  refine WF.res T.c106 (r106 T _ _) ?_
  rintro _ g3 rfl
  simp only [wset, hset, dset, bset, Nat.reduceAdd, Nat.reduceMul, Nat.reduceLeDiff, Nat.reduceEqDiff]
  refine WF.res T.c105 (r105 T (isSl_ints [_, _, _]) (by simp)) ?_
  rintro _ g4 rfl
  rw [head_wrap]
  by_cases h0 : mapHeadS m = 0
  case neg =>
    simp only [wset, hset, dset, bset, Nat.reduceAdd, Nat.reduceMul, Nat.reduceLeDiff, Nat.reduceEqDiff, show decide (mapHeadS m ≠ 0) = true from decide_eq_true h0]
    rw [chkMapS, if_neg h0]
  simp only [wset, hset, dset, bset, Nat.reduceAdd, Nat.reduceMul, Nat.reduceLeDiff, Nat.reduceEqDiff, show decide (mapHeadS m ≠ 0) = false from decide_eq_false (fun hne => hne h0)]
  refine WF.res T.c136 (r136 T (hs.ext (by repeat first | exact Ext.refl _ | refine Ext.app _ ?_)) hl (fun x => chkIvS x 0 100000000) (fun x _ k _ => VCall.of (a := []) (c := []) T.c137 ?_)) ?_
  · refine .of T.mix T.c137 ?_
    unfold fn137
    simp only [wset, hset, dset, bset, Nat.reduceAdd, Nat.reduceMul, Nat.reduceLeDiff, Nat.reduceEqDiff]
    refine WF.res T.c138 (r138 T x _ _) ?_
    rintro _ g1 rfl
    simp only [wset, hset, dset, bset, Nat.reduceAdd, Nat.reduceMul, Nat.reduceLeDiff, Nat.reduceEqDiff]
  rintro v g5 hsl
  simp only [wset, hset, dset, bset, Nat.reduceAdd, Nat.reduceMul, Nat.reduceLeDiff, Nat.reduceEqDiff]
  refine WF.res T.c105 (r105 T hsl (by rw [List.length_map]; omega)) ?_
  rintro _ g6 rfl
  simp only [wset, hset, dset, bset, Nat.reduceAdd, Nat.reduceMul, Nat.reduceLeDiff, Nat.reduceEqDiff]
  rw [chkMapS, if_pos h0]

theorem r180 {m : Mp} {s : AV} (hs : s.one = true) (gl : Glb h) (v : MpV m) {cell : Int} (hc : 0 ≤ cell ∧ cell < m.cols * m.rows) : RCall P 180 [mapA m s, .int .i64 cell] h (fun v h' => Fr h.length h' v 1 ((nbS m cell).map intRow)) := by
  refine .of T.mix T.c180 ?_
  unfold fn180
  simp only [wset, hset, dset, bset, Nat.reduceAdd, Nat.reduceMul, Nat.reduceLeDiff, Nat.reduceEqDiff, hs, gl.ld]
  have hc0 : m.cols ≠ 0 := by have := v.c; omega
  have er : cell.tmod m.cols = cell % m.cols := Int.tmod_eq_emod_of_nonneg hc.1
  have eq : cell.tdiv m.cols = cell / m.cols := Int.tdiv_eq_ediv_of_nonneg hc.1
  have vc := v.c
  have vr := v.r
  have b1 : 0 ≤ cell % m.cols := Int.emod_nonneg _ hc0
  have b2 : cell % m.cols < m.cols := Int.emod_lt_of_pos _ (by omega)
  have b3 : 0 ≤ cell / m.cols := Int.ediv_nonneg hc.1 (by omega)
  have b4 : cell / m.cols < m.rows := Int.ediv_lt_of_lt_mul (by omega) (by rw [Int.mul_comm]; exact hc.2)
  refine WL.inv T.mix (fun n ts h' => ∃ (k : Nat) (out : AV) (g : AHeap), k ≤ 4 ∧ n = 4 - k ∧ h' = h ++ [ABlk.cells [AV.int IntKind.i64 m.cols, AV.int IntKind.i64 m.rows, s] true false] ++ g ∧ Fr (h ++ [ABlk.cells [AV.int IntKind.i64 m.cols, AV.int IntKind.i64 m.rows, s] true false]).length h' out 1 ((nbK m cell k).map intRow) ∧ ts.length = 57 ∧ slot ts 1 = .int .i64 cell ∧ slot ts 2 = .ptr h.length 0 ∧ slot ts 5 = out ∧ slot ts 10 = .agg [.int .i64 (-1), .int .i64 0, .int .i64 1, .int .i64 0, .int .i64 0, .int .i64 (-1), .int .i64 0, .int .i64 1] ∧ slot ts 11 = .int .i64 k) 4
    ⟨0, .nilSlice, [], by omega, rfl, by rw [List.append_nil], (show Fr _ _ .nilSlice 1 [] from .nil), rfl, rfl, rfl, rfl, rfl, rfl⟩ ?_
  rintro _ ts _ ⟨k, out, g, hk, rfl, rfl, hfr, hlen, t1, t2, t5, t10, t11⟩
  rw [expl ts 57 hlen]
  by_cases hlt : k < 4
  · have e3 : (k : Int) < 4 := by omega
    have hlt' : k < stepsL.length := hlt
    have hK := nbK_s (m := m) (cell := cell) hlt'
    have hkl := nbK_len (m := m) (cell := cell) (k := k)
    obtain ⟨S, hS, hix, hsb⟩ : ∃ S : Int × Int, stepsL[k] = S ∧ ixaF 4 2 (some 2) (.agg [.int .i64 (-1), .int .i64 0, .int .i64 1, .int .i64 0, .int .i64 0, .int .i64 (-1), .int .i64 0, .int .i64 1]) (.int .i64 (k : Int)) = some (.agg [.int .i64 S.1, .int .i64 S.2]) ∧ (-1 ≤ S.1 ∧ S.1 ≤ 1 ∧ -1 ≤ S.2 ∧ S.2 ≤ 1) := by
      clear hK
      match k, hlt with
      | 0, _ => exact ⟨(-1, 0), rfl, rfl, by decide⟩
      | 1, _ => exact ⟨(1, 0), rfl, rfl, by decide⟩
      | 2, _ => exact ⟨(0, -1), rfl, rfl, by decide⟩
      | 3, _ => exact ⟨(0, 1), rfl, rfl, by decide⟩
    rw [hS] at hK
    have w1 : IntKind.i64.wrap (cell % m.cols + S.1) = cell % m.cols + S.1 := wrap_in (by omega) (by omega)
    have w2 : IntKind.i64.wrap (cell / m.cols + S.2) = cell / m.cols + S.2 := wrap_in (by omega) (by omega)
    have w0 : IntKind.i64.wrap (cell / m.cols) = cell / m.cols := wrap_in (by omega) (by omega)
    have hok : nbOk m cell S = (decide (0 ≤ cell % m.cols + S.1) && (decide (cell % m.cols + S.1 < m.cols) && (decide (0 ≤ cell / m.cols + S.2) && decide (cell / m.cols + S.2 < m.rows)))) := rfl
    by_cases c1 : 0 ≤ cell % m.cols + S.1
    · by_cases c2 : cell % m.cols + S.1 < m.cols
      · by_cases c3 : 0 ≤ cell / m.cols + S.2
        · by_cases c4 : cell / m.cols + S.2 < m.rows
          · have hyes : nbOk m cell S = true := by rw [hok, decide_eq_true c1, decide_eq_true c2, decide_eq_true c3, decide_eq_true c4]; rfl
            rw [hyes, if_pos rfl] at hK
            have m1 := mul_bd (a := cell / m.cols + S.2) (b := m.cols) (A := 16) (B := 16) (by omega) (by omega)
            have w3 : IntKind.i64.wrap ((cell / m.cols + S.2) * m.cols) = (cell / m.cols + S.2) * m.cols := wrap_in (by omega) (by omega)
            have w4 : IntKind.i64.wrap ((cell / m.cols + S.2) * m.cols + (cell % m.cols + S.1)) = nbI m cell S := wrap_in (by omega) (by omega)
            repeat (first | simp only [wset, hset, dset, bset, Nat.reduceAdd, Nat.reduceMul, Nat.reduceLeDiff, Nat.reduceEqDiff, t1, t2, t5, t10, t11, e3, decide_true, hix, er, eq, bin_rem hc0, bin_quo hc0, w0, w1, w2, w3, w4, iada_0 (show 0 < 2 by decide), iada_1 (show 1 < 2 by decide), hs, decide_eq_true c1, decide_eq_true c2, decide_eq_true c3, decide_eq_true c4] | simp (disch := first | (simp only [List.length_append, List.length_cons, List.length_nil] <;> omega) | rfl | omega | fail) only [kset, wset, hset, dset, bset, Nat.reduceAdd, Nat.reduceMul, Nat.reduceLeDiff, Nat.reduceEqDiff, t1, t2, t5, t10, t11])
            refine WR.app1 (h0 := h ++ [ABlk.cells [AV.int IntKind.i64 m.cols, AV.int IntKind.i64 m.rows, s] true false]) (cs := (nbK m cell k).map intRow) (ys := [intRow (nbI m cell S)]) ?f1 (Fr.push (N := 0) (Nat.zero_le _) [intRow (nbI m cell S)] (by simp)).isSl (by decide) (by simp) (by simp; omega) (by repeat first | with_reducible exact Ext.refl _ | refine Ext.app _ ?_) ?_
            case f1 => exact hfr.ext (by repeat first | with_reducible exact Ext.refl _ | refine Ext.app _ ?_)
            intro g' hl' hff hkp
            have hrow : (nbK m cell k).map intRow ++ [intRow (nbI m cell S)] = (nbK m cell (k + 1)).map intRow := by rw [hK, List.map_append]; rfl
            rw [hrow] at hff
            rw [hrow]
            simp only [wset, hset, dset, bset, Nat.reduceAdd, Nat.reduceMul, Nat.reduceLeDiff, Nat.reduceEqDiff, t1, t2, t5, t10, t11, wrapN (show k + 1 < 2 ^ 63 by omega)]
            exact ⟨_, by omega, k + 1, _, g', by omega, rfl, rfl, hff, rfl, rfl⟩
          · have hno : nbOk m cell S = false := by rw [hok, decide_eq_false c4, Bool.and_false, Bool.and_false, Bool.and_false]
            rw [hno, if_neg (by simp), List.append_nil] at hK
            repeat (first | simp only [wset, hset, dset, bset, Nat.reduceAdd, Nat.reduceMul, Nat.reduceLeDiff, Nat.reduceEqDiff, t1, t2, t5, t10, t11, e3, decide_true, hix, er, eq, bin_rem hc0, bin_quo hc0, w0, w1, w2, iada_0 (show 0 < 2 by decide), iada_1 (show 1 < 2 by decide), hs, decide_eq_true c1, decide_eq_true c2, decide_eq_true c3, decide_eq_false c4, wrapN (show k + 1 < 2 ^ 63 by omega)] | simp (disch := first | (simp only [List.length_append, List.length_cons, List.length_nil] <;> omega) | rfl | omega | fail) only [kset, wset, hset, dset, bset, Nat.reduceAdd, Nat.reduceMul, Nat.reduceLeDiff, Nat.reduceEqDiff, t1, t2, t5, t10, t11])
            exact ⟨_, by omega, k + 1, out, _, by omega, rfl, mid3', by rw [hK]; exact hfr.ext (by repeat first | with_reducible exact Ext.refl _ | refine Ext.app _ ?_), rfl, rfl⟩
        · have hno : nbOk m cell S = false := by rw [hok, decide_eq_false c3, Bool.false_and, Bool.and_false, Bool.and_false]
          rw [hno, if_neg (by simp), List.append_nil] at hK
          repeat (first | simp only [wset, hset, dset, bset, Nat.reduceAdd, Nat.reduceMul, Nat.reduceLeDiff, Nat.reduceEqDiff, t1, t2, t5, t10, t11, e3, decide_true, hix, er, eq, bin_rem hc0, bin_quo hc0, w0, w1, w2, iada_0 (show 0 < 2 by decide), iada_1 (show 1 < 2 by decide), hs, decide_eq_true c1, decide_eq_true c2, decide_eq_false c3, wrapN (show k + 1 < 2 ^ 63 by omega)] | simp (disch := first | (simp only [List.length_append, List.length_cons, List.length_nil] <;> omega) | rfl | omega | fail) only [kset, wset, hset, dset, bset, Nat.reduceAdd, Nat.reduceMul, Nat.reduceLeDiff, Nat.reduceEqDiff, t1, t2, t5, t10, t11])
          exact ⟨_, by omega, k + 1, out, _, by omega, rfl, mid3', by rw [hK]; exact hfr.ext (by repeat first | with_reducible exact Ext.refl _ | refine Ext.app _ ?_), rfl, rfl⟩
      · have hno : nbOk m cell S = false := by rw [hok, decide_eq_false c2, Bool.false_and, Bool.and_false]
        rw [hno, if_neg (by simp), List.append_nil] at hK
        repeat (first | simp only [wset, hset, dset, bset, Nat.reduceAdd, Nat.reduceMul, Nat.reduceLeDiff, Nat.reduceEqDiff, t1, t2, t5, t10, t11, e3, decide_true, hix, er, eq, bin_rem hc0, bin_quo hc0, w0, w1, w2, iada_0 (show 0 < 2 by decide), iada_1 (show 1 < 2 by decide), hs, decide_eq_true c1, decide_eq_false c2, wrapN (show k + 1 < 2 ^ 63 by omega)] | simp (disch := first | (simp only [List.length_append, List.length_cons, List.length_nil] <;> omega) | rfl | omega | fail) only [kset, wset, hset, dset, bset, Nat.reduceAdd, Nat.reduceMul, Nat.reduceLeDiff, Nat.reduceEqDiff, t1, t2, t5, t10, t11])
        exact ⟨_, by omega, k + 1, out, _, by omega, rfl, mid3', by rw [hK]; exact hfr.ext (by repeat first | with_reducible exact Ext.refl _ | refine Ext.app _ ?_), rfl, rfl⟩
    · have hno : nbOk m cell S = false := by rw [hok, decide_eq_false c1, Bool.false_and]
      rw [hno, if_neg (by simp), List.append_nil] at hK
      repeat (first | simp only [wset, hset, dset, bset, Nat.reduceAdd, Nat.reduceMul, Nat.reduceLeDiff, Nat.reduceEqDiff, t1, t2, t5, t10, t11, e3, decide_true, hix, er, eq, bin_rem hc0, bin_quo hc0, w0, w1, w2, iada_0 (show 0 < 2 by decide), iada_1 (show 1 < 2 by decide), hs, decide_eq_false c1, wrapN (show k + 1 < 2 ^ 63 by omega)] | simp (disch := first | (simp only [List.length_append, List.length_cons, List.length_nil] <;> omega) | rfl | omega | fail) only [kset, wset, hset, dset, bset, Nat.reduceAdd, Nat.reduceMul, Nat.reduceLeDiff, Nat.reduceEqDiff, t1, t2, t5, t10, t11])
      exact ⟨_, by omega, k + 1, out, _, by omega, rfl, mid3', by rw [hK]; exact hfr.ext (by repeat first | with_reducible exact Ext.refl _ | refine Ext.app _ ?_), rfl, rfl⟩
  · have e3 : ¬ (k : Int) < 4 := by omega
    have e4 : k = 4 := by omega
    have hN : nbK m cell k = nbS m cell := by rw [e4]; rfl
    rw [hN] at hfr
    simp only [wset, hset, dset, bset, Nat.reduceAdd, Nat.reduceMul, Nat.reduceLeDiff, Nat.reduceEqDiff, t1, t2, t5, t10, t11, e3, decide_false, if_true]
    exact hfr.low (by simp)

theorem r176 {m : Mp} {s : AV} (hs : s.one = true) (gl : Glb h) (v : MpV m) {cell : Int} (hc : 0 ≤ cell ∧ cell < m.cols * m.rows) : RCall P 176 [mapA m s, .int .i64 cell] h (fun v _ => v = .bool (decide ((nbS m cell).length < 4))) := by
  refine .of T.mix T.c176 ?_
  unfold fn176
  simp only [wset, hset, dset, bset, Nat.reduceAdd, Nat.reduceMul, Nat.reduceLeDiff, Nat.reduceEqDiff, hs]
  refine WF.res T.c180 (r180 T hs (gl.ext (by repeat first | with_reducible exact Ext.refl _ | refine Ext.app _ ?_)) v hc) ?_
  rintro s1 g1 h1
  simp only [wset, hset, dset, bset, Nat.reduceAdd, Nat.reduceMul, Nat.reduceLeDiff, Nat.reduceEqDiff, h1.isSl.lenm]
  congr 1
  rw [Bool.eq_iff_iff, decide_eq_true_eq, decide_eq_true_eq]; omega

theorem r203 {s : AV} {L : List Int} (hs : IsSl h s 1 (L.map intRow)) (hl : L.length < 2 ^ 62) (x : Int) : RCall P 203 [s, .int .i64 x] h (fun v _ => ∃ i : Int, v = .int .i64 i ∧ decide (0 ≤ i) = decide (x ∈ L)) := by
  refine .of T.mix T.c203 ?_
  unfold fn203
  simp only [wset, hset, dset, bset, Nat.reduceAdd, Nat.reduceMul, Nat.reduceLeDiff, Nat.reduceEqDiff, hs.lenm]
  refine WL.inv T.mix (fun n ts h' => ∃ k : Nat, k ≤ L.length ∧ n = L.length - k ∧ h' = h ∧ decide (x ∈ L) = decide (x ∈ L.drop k) ∧ ts.length = 19 ∧ slot ts 0 = s ∧ slot ts 1 = .int .i64 x ∧ slot ts 7 = .int .i64 L.length ∧ slot ts 8 = .int .i64 k) L.length
    ⟨0, by omega, rfl, rfl, rfl, rfl, rfl, rfl, rfl, rfl⟩ ?_
  rintro _ ts _ ⟨k, hk, rfl, rfl, hi, hlen, t0, t1, t7, t8⟩
  rw [expl ts 19 hlen]
  by_cases hlt : k < L.length
  · have e3 : (k : Int) < L.length := by omega
    rw [List.drop_eq_getElem_cons hlt] at hi
    simp only [wset, hset, dset, bset, Nat.reduceAdd, Nat.reduceMul, Nat.reduceLeDiff, Nat.reduceEqDiff, t0, t1, t7, t8, e3, decide_true, hs.ixm hlt, hs.l1m hlt rfl (Ext.refl _)]
    by_cases hq : x = L[k]
    · simp only [wset, hset, dset, bset, Nat.reduceAdd, Nat.reduceMul, Nat.reduceLeDiff, Nat.reduceEqDiff, decide_eq_true hq, t0, t1, t7, t8]
      refine ⟨_, rfl, ?_⟩
      rw [hi, decide_eq_true (show x ∈ L[k] :: L.drop (k + 1) by rw [← hq]; exact List.mem_cons_self ..), decide_eq_true (by omega)]
    · have h2 : decide (x ∈ L[k] :: L.drop (k + 1)) = decide (x ∈ L.drop (k + 1)) := by
        rw [Bool.eq_iff_iff, decide_eq_true_eq, decide_eq_true_eq, List.mem_cons]
        exact ⟨fun c => c.resolve_left hq, .inr⟩
      rw [h2] at hi
      simp only [wset, hset, dset, bset, Nat.reduceAdd, Nat.reduceMul, Nat.reduceLeDiff, Nat.reduceEqDiff, decide_eq_false hq, t0, t1, t7, t8, wrapN (show k + 1 < 2 ^ 63 by omega)]
      refine ⟨_, ?_, k + 1, by omega, rfl, hi, rfl⟩
      omega
  · have e3 : ¬ (k : Int) < L.length := by omega
    rw [List.drop_eq_nil_of_le (by omega)] at hi
    simp only [wset, hset, dset, bset, Nat.reduceAdd, Nat.reduceMul, Nat.reduceLeDiff, Nat.reduceEqDiff, t0, t1, t7, t8, e3, decide_false, if_true]
    exact ⟨_, rfl, by rw [hi]; rfl⟩
theorem r181 {s : AV} {L : List Int} (hs : IsSl h s 1 (L.map intRow)) (hl : L.length < 2 ^ 62) (x : Int) : RCall P 181 [s, .int .i64 x] h (fun v _ => v = .bool (decide (x ∈ L))) := by
  refine .of T.mix T.c181 ?_
  unfold fn181
  simp only [wset, hset, dset, bset, Nat.reduceAdd, Nat.reduceMul, Nat.reduceLeDiff, Nat.reduceEqDiff]
  refine WF.res T.c203 (r203 T hs hl x) ?_
  rintro _ g1 ⟨i, rfl, hi⟩
  simp only [wset, hset, dset, bset, Nat.reduceAdd, Nat.reduceMul, Nat.reduceLeDiff, Nat.reduceEqDiff, hi]
end
end Go.Abs
namespace Go.Abs

def dI (D : List Int) (k : Int) : Int := D.getD k.toNat 0
theorem dI_get {D : List Int} {k : Nat} (h : k < D.length) : dI D (k : Int) = D[k] := by
  rw [dI, Int.toNat_natCast, List.getD_eq_getElem?_getD, List.getElem?_eq_getElem h, Option.getD_some]
def InM (m : Mp) (x : Int) : Prop := 0 ≤ x ∧ x < m.cols * m.rows
/-- What a step is. -/
def AdjM (m : Mp) (x k : Int) : Prop := (x % m.cols - k % m.cols) * (x % m.cols - k % m.cols) + (x / m.cols - k / m.cols) * (x / m.cols - k / m.cols) = 1
theorem sq1 {a b : Int} : a * a + b * b = 1 ↔ (a = -1 ∧ b = 0) ∨ (a = 1 ∧ b = 0) ∨ (a = 0 ∧ b = -1) ∨ (a = 0 ∧ b = 1) := by
  constructor
  · intro h
    have ha : a * a ≥ 0 := by
      rcases Int.le_total 0 a with h | h
      · exact Int.mul_nonneg h h
      · exact Int.mul_nonneg_of_nonpos_of_nonpos h h
    have hb : b * b ≥ 0 := by
      rcases Int.le_total 0 b with h | h
      · exact Int.mul_nonneg h h
      · exact Int.mul_nonneg_of_nonpos_of_nonpos h h
    have key : ∀ c : Int, c * c ≤ 1 → -1 ≤ c ∧ c ≤ 1 := by
      intro c hc
      constructor
      · apply Int.not_lt.1
        intro hlt
        have : 2 * 2 ≤ (-c) * (-c) := Int.mul_le_mul (by omega) (by omega) (by omega) (by omega)
        rw [Int.neg_mul_neg] at this; omega
      · apply Int.not_lt.1
        intro hlt
        have : 2 * 2 ≤ c * c := Int.mul_le_mul (by omega) (by omega) (by omega) (by omega)
        omega
    have h1 := key a (by omega)
    have h2 := key b (by omega)
    have ha' : a = -1 ∨ a = 0 ∨ a = 1 := by omega
    have hb' : b = -1 ∨ b = 0 ∨ b = 1 := by omega
    rcases ha' with rfl | rfl | rfl <;> rcases hb' with rfl | rfl | rfl <;> simp at h ⊢
  · rintro (⟨rfl, rfl⟩ | ⟨rfl, rfl⟩ | ⟨rfl, rfl⟩ | ⟨rfl, rfl⟩) <;> rfl

section
variable {m : Mp} (v : MpV m)
include v
theorem cell_bd {x : Int} (hx : InM m x) : 0 ≤ x % m.cols ∧ x % m.cols < m.cols ∧ 0 ≤ x / m.cols ∧ x / m.cols < m.rows ∧ x / m.cols * m.cols + x % m.cols = x := by
  have hc := v.c
  have hr := v.r
  refine ⟨Int.emod_nonneg _ (by omega), Int.emod_lt_of_pos _ (by omega), Int.ediv_nonneg hx.1 (by omega), Int.ediv_lt_of_lt_mul (by omega) (by rw [Int.mul_comm]; exact hx.2), ?_⟩
  rw [Int.mul_comm]; exact Int.mul_ediv_add_emod ..
theorem cellAt_bd {c r : Int} (hc : 0 ≤ c ∧ c < m.cols) (hr : 0 ≤ r ∧ r < m.rows) : InM m (r * m.cols + c) ∧ (r * m.cols + c) % m.cols = c ∧ (r * m.cols + c) / m.cols = r := by
  have vc := v.c
  have vr := v.r
  have e1 : (r * m.cols + c) % m.cols = c := by rw [Int.add_comm, Int.add_mul_emod_self_right]; exact Int.emod_eq_of_lt hc.1 hc.2
  have e2 : (r * m.cols + c) / m.cols = r := by rw [Int.add_comm, Int.add_mul_ediv_right _ _ (by omega), Int.ediv_eq_zero_of_lt hc.1 hc.2, Int.zero_add]
  refine ⟨⟨?_, ?_⟩, e1, e2⟩
  · have := Int.mul_nonneg hr.1 (show 0 ≤ m.cols by omega); omega
  · have : (r + 1) * m.cols ≤ m.rows * m.cols := Int.mul_le_mul_of_nonneg_right (by omega) (by omega)
    rw [Int.add_mul, Int.one_mul] at this
    rw [Int.mul_comm m.cols]; omega
theorem nbS_iff {x k : Int} (hx : InM m x) : k ∈ nbS m x ↔ InM m k ∧ AdjM m x k := by
  obtain ⟨b1, b2, b3, b4, b5⟩ := cell_bd v hx
  have key : ∀ s : Int × Int, nbOk m x s = true ↔ (0 ≤ x % m.cols + s.1 ∧ x % m.cols + s.1 < m.cols) ∧ (0 ≤ x / m.cols + s.2 ∧ x / m.cols + s.2 < m.rows) := by
    intro s
    unfold nbOk nbC
    simp only [Bool.and_eq_true, decide_eq_true_eq, and_assoc]
  rw [nbS, List.mem_map]
  simp only [List.mem_filter, key]
  unfold AdjM
  rw [sq1]
  constructor
  · rintro ⟨s, ⟨hs, h1, h2⟩, rfl⟩
    obtain ⟨i1, i2, i3⟩ := cellAt_bd v h1 h2
    show InM m ((x / m.cols + s.2) * m.cols + (x % m.cols + s.1)) ∧ _
    refine ⟨i1, ?_⟩
    have e1 : nbI m x s % m.cols = x % m.cols + s.1 := i2
    have e2 : nbI m x s / m.cols = x / m.cols + s.2 := i3
    rw [e1, e2]
    simp only [stepsL, List.mem_cons, List.not_mem_nil, or_false] at hs
    rcases hs with rfl | rfl | rfl | rfl <;> simp only <;> omega
  · rintro ⟨hk, hadj⟩
    obtain ⟨c1, c2, c3, c4, c5⟩ := cell_bd v hk
    refine ⟨(k % m.cols - x % m.cols, k / m.cols - x / m.cols), ⟨?_, ?_, ?_⟩, ?_⟩
    · simp only [stepsL, List.mem_cons, List.not_mem_nil, or_false, Prod.mk.injEq]; omega
    · simp only; omega
    · simp only; omega
    · unfold nbI nbC
      simp only
      rw [show x / m.cols + (k / m.cols - x / m.cols) = k / m.cols by omega, show x % m.cols + (k % m.cols - x % m.cols) = k % m.cols by omega]
      exact c5
end

/-- The cells that ways reach from a cell. -/
inductive Rch (m : Mp) (D : List Int) (most cell : Int) : Int → Prop
  | start (h : dI D cell ≤ most) : Rch m D most cell cell
  | step {x k : Int} (hx : Rch m D most cell x) (hn : k ∈ nbS m x) (hk : dI D k ≤ most) : Rch m D most cell k

section
variable {m : Mp} (v : MpV m) {D : List Int} {most cell : Int}
theorem Rch.le {x : Int} (h : Rch m D most cell x) : dI D x ≤ most := by cases h <;> assumption
include v
theorem Rch.inM (hc : InM m cell) {x : Int} (h : Rch m D most cell x) : InM m x := by
  induction h with
  | start _ => exact hc
  | step _ hn _ ih => exact ((nbS_iff v ih).1 hn).1
end
theorem Rch.mono {m : Mp} {D E : List Int} {a b cell : Int} (hab : ∀ k, dI D k ≤ a → dI E k ≤ b) {x : Int} (h : Rch m D a cell x) : Rch m E b cell x := by
  induction h with
  | start h => exact .start (hab _ h)
  | step _ hn hk ih => exact .step ih hn (hab _ hk)

def rangeI (n : Nat) : List Int := (List.range n).map Int.ofNat
theorem rangeI_mem {n : Nat} {x : Int} : x ∈ rangeI n ↔ 0 ≤ x ∧ x < n := by
  unfold rangeI
  rw [List.mem_map]
  constructor
  · rintro ⟨a, ha, rfl⟩
    have := List.mem_range.1 ha
    exact ⟨Int.natCast_nonneg a, by show (a : Int) < n; omega⟩
  · rintro ⟨h1, h2⟩
    exact ⟨x.toNat, List.mem_range.2 (by omega), Int.toNat_of_nonneg h1⟩
open Classical in
/-- They, in order. -/
noncomputable def areaS (m : Mp) (D : List Int) (most cell : Int) : List Int := (rangeI D.length).filter fun x => decide (Rch m D most cell x)
theorem range_lt (n : Nat) : (rangeI n).Pairwise (· < ·) := by
  unfold rangeI
  rw [List.pairwise_map]
  exact List.pairwise_lt_range.imp fun h => Int.ofNat_lt.2 h
theorem areaS_lt {m : Mp} {D : List Int} {most cell : Int} : (areaS m D most cell).Pairwise (· < ·) := (range_lt _).filter _
open Classical in
theorem areaS_mem {m : Mp} (v : MpV m) {D : List Int} (hD : (D.length : Int) = m.cols * m.rows) {most cell : Int} (hc : InM m cell) {x : Int} : x ∈ areaS m D most cell ↔ Rch m D most cell x := by
  unfold areaS
  rw [List.mem_filter]
  refine ⟨fun h => of_decide_eq_true h.2, fun h => ⟨?_, decide_eq_true h⟩⟩
  have hi := h.inM v hc
  exact rangeI_mem.2 ⟨hi.1, by rw [hD]; exact hi.2⟩
/-- Sorted lists without repetition with the same elements are one. -/
theorem lt_eq {A B : List Int} (ha : A.Pairwise (· < ·)) (hb : B.Pairwise (· < ·)) (hm : ∀ x, x ∈ A ↔ x ∈ B) : A = B := by
  have na : A.Nodup := ha.imp fun h => by omega
  have nb : B.Nodup := hb.imp fun h => by omega
  have hp : A.Perm B := (List.perm_ext_iff_of_nodup na nb).2 hm
  exact hp.eq_of_pairwise (le := (· < ·)) (fun a b _ _ h1 h2 => by omega) ha hb
theorem areaS_eq {m : Mp} (v : MpV m) {D : List Int} (hD : (D.length : Int) = m.cols * m.rows) {most cell : Int} (hc : InM m cell) {L : List Int} (hl : L.Pairwise (· < ·)) (hm : ∀ x, x ∈ L ↔ Rch m D most cell x) : L = areaS m D most cell :=
  lt_eq hl areaS_lt fun x => (hm x).trans (areaS_mem v hD hc).symm
theorem sort_area {m : Mp} (v : MpV m) {D : List Int} (hD : (D.length : Int) = m.cols * m.rows) {most cell : Int} (hc : InM m cell) {L : List Int} (hn : L.Nodup) (hm : ∀ x, x ∈ L ↔ Rch m D most cell x) : sortI L = areaS m D most cell := by
  refine areaS_eq v hD hc ?_ fun x => (sortI_perm L).mem_iff.trans (hm x)
  have h1 := sortI_sorted L
  have h2 : (sortI L).Nodup := (sortI_perm L).nodup_iff.2 hn
  exact (h1.and h2).imp fun h => by omega

/-! ## The flood -/
/-- What the list of the flood is, of which i cells had their neighbours added. -/
structure Fld (m : Mp) (D : List Int) (most cell : Int) (O : List Int) (i : Nat) : Prop where
  nd : O.Nodup
  r : ∀ x ∈ O, Rch m D most cell x
  st : dI D cell ≤ most → cell ∈ O
  cl : ∀ j (_ : j < i) (hj : j < O.length), ∀ k ∈ nbS m O[j], dI D k ≤ most → k ∈ O
section
variable {m : Mp} (v : MpV m) {D : List Int} {most cell : Int} {O : List Int} {i : Nat}
theorem Fld.begin {most cell : Int} : Fld m D most cell (if dI D cell ≤ most then [cell] else []) 0 := by
  by_cases h : dI D cell ≤ most
  · rw [if_pos h]
    exact ⟨by simp, fun x hx => by rw [List.mem_singleton.1 hx]; exact .start h, fun _ => by simp, fun j hj => absurd hj (by omega)⟩
  · rw [if_neg h]
    exact ⟨by simp, fun x hx => by simp at hx, fun h2 => absurd h2 h, fun j hj => absurd hj (by omega)⟩
theorem Fld.push (f : Fld m D most cell O i) (hi : i < O.length) {k : Int} (hk : k ∈ nbS m O[i]) (hd : dI D k ≤ most) (hn : k ∉ O) : Fld m D most cell (O ++ [k]) i := by
  refine ⟨?_, ?_, fun h => List.mem_append_left _ (f.st h), ?_⟩
  · rw [List.nodup_append]
    exact ⟨f.nd, by simp, fun a ha b hb => by rw [List.mem_singleton.1 hb]; intro he; exact hn (he ▸ ha)⟩
  · intro x hx
    rcases List.mem_append.1 hx with hx | hx
    · exact f.r x hx
    · rw [List.mem_singleton.1 hx]
      exact .step (f.r _ (List.getElem_mem hi)) hk hd
  · intro j hj hjl k' hk' hd'
    have hjl' : j < O.length := by omega
    rw [List.getElem_append_left hjl'] at hk'
    exact List.mem_append_left _ (f.cl j hj hjl' k' hk' hd')
theorem Fld.next (f : Fld m D most cell O i) (hi : i < O.length) (hc : ∀ k ∈ nbS m O[i], dI D k ≤ most → k ∈ O) : Fld m D most cell O (i + 1) := by
  refine ⟨f.nd, f.r, f.st, fun j hj hjl => ?_⟩
  by_cases e : j = i
  · subst e; exact hc
  · exact f.cl j (by omega) hjl
include v
theorem Fld.len (f : Fld m D most cell O i) (hD : (D.length : Int) = m.cols * m.rows) (hc : InM m cell) : O.length ≤ D.length := by
  have hs : O ⊆ rangeI D.length := by
    intro x hx
    have hi := (f.r x hx).inM v hc
    exact rangeI_mem.2 ⟨hi.1, by rw [hD]; exact hi.2⟩
  have := f.nd.length_le_of_subset hs
  simpa [rangeI] using this
theorem Fld.fin (f : Fld m D most cell O O.length) (hD : (D.length : Int) = m.cols * m.rows) (hc : InM m cell) : sortI O = areaS m D most cell := by
  refine sort_area v hD hc f.nd fun x => ⟨f.r x, fun h => ?_⟩
  induction h with
  | start h => exact f.st h
  | step _ hn hk ih =>
    obtain ⟨j, hj, rfl⟩ := List.mem_iff_getElem.1 ih
    exact f.cl j hj hj _ hn hk
end
end Go.Abs
namespace Go.Abs
def ICode.tl : ICode → ICode
  | .seq _ b => b
  | c => c
def ICode.hd : ICode → ICode
  | .seq a _ => a
  | c => c
def ICode.dr : Nat → ICode → ICode
  | 0, c => c
  | n + 1, c => c.tl.dr n
def ICode.inn : ICode → ICode
  | .block _ a => a
  | .loop a => a
  | c => c
end Go.Abs
namespace Go.Abs
theorem pset :
    (∀ {ts : TS} {i j : Nat} {v : AV} (_ : (i = j) = False), slot (ts.set i v) j = slot ts j) ∧
    (∀ {ts : TS} {i : Nat} {v : AV} (_ : i + 1 ≤ ts.length), slot (ts.set i v) i = v) ∧
    (∀ {ts : TS} {i : Nat} {X : Prop} (_ : i + 1 ≤ ts.length), inS ts[i]? X = X) ∧
    (∀ {ts : TS} {i : Nat} {v : AV}, (ts.set i v).length = ts.length) := by
  refine ⟨fun {ts i j v} h => ?_, fun {ts i v} h => ?_, fun {ts i X} h => by rw [List.getElem?_eq_getElem h]; rfl, fun {ts i v} => List.length_set⟩
  · have hne : i ≠ j := fun e => by rw [← h]; exact e
    unfold slot
    rw [List.getD, List.getD, List.getElem?_set_ne hne]
  · unfold slot
    rw [List.getD, List.getElem?_set_self h]; rfl
end Go.Abs
namespace Go.Abs

/-- What the sort of integers does. -/
structure SrtOk (P : Program) : Prop where
  ok : ∀ {h : AHeap} {b o : Nat} {c : List AV} {tl : Bool} {zs : List Int}, h[b]? = some (.cells c true tl) → o + zs.length ≤ c.length → (c.drop o).take zs.length = zs.map (AV.int .i64) → zs.length < 4611686018427387904 →
    SCall P 182 [.slice b o zs.length 1] h (.tup []) (h.set b (.cells (setL c o ((sortI zs).map (AV.int .i64))) true tl))
  nil : ∀ {h : AHeap}, SCall P 182 [.nilSlice] h (.tup []) h

theorem intRows_flat (L : List Int) : (L.map intRow).flatten = L.map (AV.int .i64) := by
  induction L with
  | nil => rfl
  | cons x l ih => rw [List.map_cons, List.flatten_cons, ih]; rfl
theorem gsort {P : Program} (S : SrtOk P) {h0 g : AHeap} {s : AV} {L : List Int} (hs : Fr h0.length (h0 ++ g) s 1 (L.map intRow)) (hl : L.length < 4611686018427387904) :
    GCall P 182 [s] (h0 ++ g) (fun _ h' => ∃ g', g'.length = g.length ∧ h' = h0 ++ g' ∧ Fr h0.length h' s 1 ((sortI L).map intRow) ∧ (∀ b, (∀ b0 o n e, s = .slice b0 o n e → b ≠ b0) → (h0 ++ g')[b]? = (h0 ++ g)[b]?)) := by
  generalize hcs : L.map intRow = cs at hs
  cases hs with
  | nil =>
    have hL : L = [] := List.map_eq_nil_iff.1 hcs
    subst hL
    exact ⟨_, _, S.nil, g, rfl, rfl, .nil, fun _ _ => rfl⟩
  | @mk b _ _ tl hN hb he =>
    subst hcs
    have hfl := intRows_flat L
    have hlen : (L.map intRow).length = L.length := List.length_map _
    have h1 := S.ok (h := h0 ++ g) (b := b) (o := 0) (zs := L) (c := (L.map intRow).flatten) (tl := tl) hb (by rw [hfl]; simp) (by rw [hfl, List.drop_zero]; exact List.take_of_length_le (by simp)) hl
    have hset : setL (L.map intRow).flatten 0 ((sortI L).map (AV.int .i64)) = ((sortI L).map intRow).flatten := by
      have := setL_all ((sortI L).map (AV.int .i64)) (L.map intRow).flatten [] (by rw [hfl]; simp [sortI_len])
      rw [intRows_flat (sortI L)]
      simpa using this
    rw [hset, List.set_append_right _ _ hN] at h1
    have hbl : b < (h0 ++ g).length := (List.getElem?_eq_some_iff.1 hb).1
    rw [hlen]
    refine ⟨_, _, h1, _, by simp, rfl, ?_, fun b' hb' => ?_⟩
    · rw [← sortI_len L, show (sortI L).length = ((sortI L).map intRow).length from (List.length_map _).symm]
      refine Fr.mk hN (tl := tl) ?_ fun y hy => ?_
      · rw [List.getElem?_append_right hN, List.getElem?_set_self (by simp at hbl; omega)]
      · obtain ⟨z, -, rfl⟩ := List.mem_map.1 hy; rfl
    · have hne := hb' b 0 _ _ rfl
      rw [← List.set_append_right _ _ hN, List.getElem?_set_ne (Ne.symm hne)]

def Dis (s t : AV) : Prop := ∀ b o n e b' o' n' e', s = .slice b o n e → t = .slice b' o' n' e' → b ≠ b'
theorem Fr.off {N es : Nat} {h k : AHeap} {s t : AV} {cs : List (List AV)} (hs : Fr N h s es cs) (hd : Dis t s) (hk : ∀ b, b < h.length → (∀ b0 o n e, t = .slice b0 o n e → b ≠ b0) → k[b]? = h[b]?) : Fr N k s es cs := by
  cases hs with
  | nil => exact .nil
  | mk hN hb he => exact .mk hN (by rw [hk _ (List.getElem?_eq_some_iff.1 hb).1 fun b0 o n e e1 => (hd _ _ _ _ _ _ _ _ e1 rfl).symm]; exact hb) he

attribute [local irreducible] WP WC WE WB WR WF WL WG WRg
section
variable {P : Program} (T : Tbl P) (S : SrtOk P) {h : AHeap}
include T S
set_option maxRecDepth 10000 in
set_option maxHeartbeats 1000000 in
theorem flooded_M {m : Mp} {s d out : AV} {D O : List Int} {B g : AHeap} {b4 N : Nat} {ts : TS} (hs : s.one = true) (gl : Glb B) (v : MpV m) (hd : IsSl B d 1 (D.map intRow)) (hD : (D.length : Int) = m.cols * m.rows) {cell most : Int} (hc : InM m cell)
    (m4 : B[b4]? = some (.cells [AV.int IntKind.i64 m.cols, AV.int IntKind.i64 m.rows, s] true false)) (hN : N ≤ B.length) (eB : Ext h B)
    (hlen : ts.length = 60) (t1 : slot ts 1 = d) (t3 : slot ts 3 = .int .i64 most) (t4 : slot ts 4 = .ptr b4 0) (t9 : slot ts 9 = out) (hO : O = (if dI D cell ≤ most then [cell] else [])) (hfr : Fr B.length (B ++ g) out 1 (O.map intRow)) :
    WC P inFn ((fn132).body.dr 3) [] ts (B ++ g) (FQ [(8, none)] (fun w h' => Ext h h' ∧ Fr N h' w 1 ((areaS m D most cell).map intRow))) := by
  have hDl : D.length ≤ 256 := by
    have := mul_bd (a := m.cols) (b := m.rows) (A := 16) (B := 16) (by have := v.c; omega) (by have := v.r; omega)
    omega
  have ld : ∀ {k : Int}, InM m k → iadrF 1 d (.int .i64 k) = some (elp d 1 k.toNat, .keep) ∧ ∀ {kk : AHeap}, Ext B kk → loadF none (elp d 1 k.toNat) (fun b => kk[b]?) = some (.int .i64 (dI D k), .keep) := by
    intro k hk
    obtain ⟨n, rfl⟩ := Int.eq_ofNat_of_zero_le hk.1
    have hn : n < D.length := by have := hk.2; omega
    rw [dI_get hn]
    exact ⟨hd.ixm hn, fun e => hd.l1m hn rfl e⟩
  have lB : ∀ {kk : AHeap}, Ext B kk → loadF (some 3) (.ptr b4 0) (fun b => kk[b]?) = some (mapA m s, .keep) := by
    intro kk e
    rw [loadF_at (e.some m4)]; rfl
  unfold fn132
  simp only [ICode.dr, ICode.tl]
  repeat (first | simp (config := { maxSteps := 1000000 }) only [wset, hset, dset, bset, Nat.reduceAdd, Nat.reduceMul, Nat.reduceLeDiff, Nat.reduceEqDiff, pset, hlen, if_false, if_true, t1] | simp (config := { maxSteps := 1000000 }) (disch := first | (simp only [List.length_append, List.length_cons, List.length_nil] <;> omega) | rfl | omega | fail) only [kset, wset, hset, dset, bset, Nat.reduceAdd, Nat.reduceMul, Nat.reduceLeDiff, Nat.reduceEqDiff, pset, hlen, if_false, if_true, t1])
  refine WL.inv T.mix (fun n ts h' => ∃ (i : Nat) (out : AV) (O : List Int) (g : AHeap), n = D.length - i ∧ h' = B ++ g ∧ Fr B.length (B ++ g) out 1 (O.map intRow) ∧ Fld m D most cell O i ∧ i ≤ O.length ∧ ts.length = 60 ∧ slot ts 1 = d ∧ slot ts 3 = .int .i64 most ∧ slot ts 4 = .ptr b4 0 ∧ slot ts 9 = out ∧ slot ts 10 = .int .i64 i) D.length
    ⟨0, out, O, g, by omega, rfl, hfr, by rw [hO]; exact Fld.begin, by omega, (by simp only [wset, hset, dset, bset, Nat.reduceAdd, Nat.reduceMul, Nat.reduceLeDiff, Nat.reduceEqDiff, pset, hlen, if_false, if_true, t1]), (by simp only [wset, hset, dset, bset, Nat.reduceAdd, Nat.reduceMul, Nat.reduceLeDiff, Nat.reduceEqDiff, pset, hlen, if_false, if_true, t1]), (by simp only [wset, hset, dset, bset, Nat.reduceAdd, Nat.reduceMul, Nat.reduceLeDiff, Nat.reduceEqDiff, pset, hlen, if_false, if_true, t3]), (by simp only [wset, hset, dset, bset, Nat.reduceAdd, Nat.reduceMul, Nat.reduceLeDiff, Nat.reduceEqDiff, pset, hlen, if_false, if_true, t4]), (by simp only [wset, hset, dset, bset, Nat.reduceAdd, Nat.reduceMul, Nat.reduceLeDiff, Nat.reduceEqDiff, pset, hlen, if_false, if_true, t9]), (by simp only [wset, hset, dset, bset, Nat.reduceAdd, Nat.reduceMul, Nat.reduceLeDiff, Nat.reduceEqDiff, pset, hlen, if_false, if_true, t1]; rfl)⟩ ?_
  clear t1 t3 t4 t9 hO hfr hlen ts out g O
  rintro _ ts _ ⟨i, out, O, g, rfl, rfl, hfr, hf, hi, hlen, t1, t3, t4, t9, t10⟩
  have hOl := hf.len v hD hc
  by_cases hlt : i < O.length
  · have e3 : (i : Int) < O.length := by omega
    have hin : InM m O[i] := (hf.r _ (List.getElem_mem hlt)).inM v hc
    have l1 := fun {kk : AHeap} (e : Ext (B ++ g) kk) => hfr.isSl.l1m hlt rfl e
    repeat (first | simp (config := { maxSteps := 1000000 }) only [wset, hset, dset, bset, Nat.reduceAdd, Nat.reduceMul, Nat.reduceLeDiff, Nat.reduceEqDiff, pset, hlen, if_false, if_true, t1, t3, t4, t9, t10, lB, hfr.isSl.lenm, e3, decide_true, hfr.isSl.ixm hlt, l1] | simp (config := { maxSteps := 1000000 }) (disch := first | (simp only [List.length_append, List.length_cons, List.length_nil] <;> omega) | rfl | omega | fail) only [kset, wset, hset, dset, bset, Nat.reduceAdd, Nat.reduceMul, Nat.reduceLeDiff, Nat.reduceEqDiff, pset, hlen, if_false, if_true, t1, t3, t4, t9, t10, lB, hfr.isSl.lenm, e3, decide_true, hfr.isSl.ixm hlt, l1])
    refine WF.res T.c180 (r180 T hs (gl.ext (by repeat first | with_reducible exact Ext.refl _ | refine Ext.app _ ?_)) v hin) ?_
    rintro sn g1 hn
    obtain ⟨x, hx⟩ : ∃ x, x = O[i] := ⟨_, rfl⟩
    rw [← hx] at hn hin ⊢
    have hq4 : (nbS m x).length ≤ 4 := (show nbS m x = nbK m x 4 from rfl) ▸ nbK_len
    have hd0 : Dis out sn := fun b o n e b' o' n' e' e1 e2 => by have := (hfr.lt e1).2; have := (hn.lt e2).1; omega
    repeat (first | simp (config := { maxSteps := 1000000 }) only [wset, hset, dset, bset, Nat.reduceAdd, Nat.reduceMul, Nat.reduceLeDiff, Nat.reduceEqDiff, pset, hlen, if_false, if_true, t1, t3, t4, t9, t10, hn.isSl.lenm] | simp (config := { maxSteps := 1000000 }) (disch := first | (simp only [List.length_append, List.length_cons, List.length_nil] <;> omega) | rfl | omega | fail) only [kset, wset, hset, dset, bset, Nat.reduceAdd, Nat.reduceMul, Nat.reduceLeDiff, Nat.reduceEqDiff, pset, hlen, if_false, if_true, t1, t3, t4, t9, t10, hn.isSl.lenm])
    refine WL.inv T.mix (fun n ts h' => ∃ (q : Nat) (out' : AV) (O' : List Int) (g' : AHeap), n = (nbS m x).length - q ∧ h' = B ++ g' ∧ Fr B.length (B ++ g') out' 1 (O'.map intRow) ∧ Fld m D most cell O' i ∧ O'[i]? = some x ∧ Fr B.length (B ++ g') sn 1 ((nbS m x).map intRow) ∧ Dis out' sn ∧ (∀ p (_ : p < q) (hp : p < (nbS m x).length), dI D (nbS m x)[p] ≤ most → (nbS m x)[p] ∈ O') ∧ q ≤ (nbS m x).length ∧
      ts.length = 60 ∧ slot ts 1 = d ∧ slot ts 3 = .int .i64 most ∧ slot ts 4 = .ptr b4 0 ∧ slot ts 9 = out' ∧ slot ts 10 = .int .i64 i ∧ slot ts 34 = sn ∧ slot ts 35 = .int .i64 (nbS m x).length ∧ slot ts 36 = .int .i64 q) (nbS m x).length
      ⟨0, out, O, _, by omega, by rw [List.append_assoc], by rw [← List.append_assoc]; exact hfr.app _, hf, by rw [List.getElem?_eq_getElem hlt, hx], by rw [← List.append_assoc]; exact hn.low (by simp), hd0, fun p hp => absurd hp (by omega), by omega, (by simp only [wset, hset, dset, bset, Nat.reduceAdd, Nat.reduceMul, Nat.reduceLeDiff, Nat.reduceEqDiff, pset, hlen, if_false, if_true, t1]), (by simp only [wset, hset, dset, bset, Nat.reduceAdd, Nat.reduceMul, Nat.reduceLeDiff, Nat.reduceEqDiff, pset, hlen, if_false, if_true, t1]), (by simp only [wset, hset, dset, bset, Nat.reduceAdd, Nat.reduceMul, Nat.reduceLeDiff, Nat.reduceEqDiff, pset, hlen, if_false, if_true, t3]), (by simp only [wset, hset, dset, bset, Nat.reduceAdd, Nat.reduceMul, Nat.reduceLeDiff, Nat.reduceEqDiff, pset, hlen, if_false, if_true, t4]), (by simp only [wset, hset, dset, bset, Nat.reduceAdd, Nat.reduceMul, Nat.reduceLeDiff, Nat.reduceEqDiff, pset, hlen, if_false, if_true, t9]), (by simp only [wset, hset, dset, bset, Nat.reduceAdd, Nat.reduceMul, Nat.reduceLeDiff, Nat.reduceEqDiff, pset, hlen, if_false, if_true, t10]), (by simp only [wset, hset, dset, bset, Nat.reduceAdd, Nat.reduceMul, Nat.reduceLeDiff, Nat.reduceEqDiff, pset, hlen, if_false, if_true, t1]), (by simp only [wset, hset, dset, bset, Nat.reduceAdd, Nat.reduceMul, Nat.reduceLeDiff, Nat.reduceEqDiff, pset, hlen, if_false, if_true, t1]), (by simp only [wset, hset, dset, bset, Nat.reduceAdd, Nat.reduceMul, Nat.reduceLeDiff, Nat.reduceEqDiff, pset, hlen, if_false, if_true, t1]; rfl)⟩ ?_
    clear t1 t3 t4 t9 t10 hfr hlen ts l1 e3 hn hd0
    rintro _ ts _ ⟨q, out', O', g', rfl, rfl, hfr, hf', hOx, hn, hdis, hcl, hq, hlen, t1, t3, t4, t9, t10, t34, t35, t36⟩
    have hOl' := hf'.len v hD hc
    have hwi := wrapN (show i + 1 < 2 ^ 63 by omega)
    by_cases hlq : q < (nbS m x).length
    · have e4 : (q : Int) < (nbS m x).length := by omega
      have l2 := fun {kk : AHeap} (e : Ext (B ++ g') kk) => hn.isSl.l1m hlq rfl e
      obtain ⟨k, hk⟩ : ∃ k, k = (nbS m x)[q] := ⟨_, rfl⟩
      have hkn : k ∈ nbS m x := by rw [hk]; exact List.getElem_mem _
      have hkM : InM m k := ((nbS_iff v hin).1 hkn).1
      have hix := hn.isSl.ixm (kk := .i64) hlq
      rw [← hk] at l2
      have hcl' : ∀ {Z : List Int}, (∀ y, y ∈ O' → y ∈ Z) → (dI D k ≤ most → k ∈ Z) → ∀ p (_ : p < q + 1) (hp : p < (nbS m x).length), dI D (nbS m x)[p] ≤ most → (nbS m x)[p] ∈ Z := by
        intro Z h1 h2 p hp hpl hd'
        by_cases e : p = q
        · subst e; rw [← hk] at hd' ⊢; exact h2 hd'
        · exact h1 _ (hcl p (by omega) hpl hd')
      have hwq := wrapN (show q + 1 < 2 ^ 63 by omega)
      by_cases hle : dI D k ≤ most
      · repeat (first | simp (config := { maxSteps := 1000000 }) only [wset, hset, dset, bset, Nat.reduceAdd, Nat.reduceMul, Nat.reduceLeDiff, Nat.reduceEqDiff, pset, hlen, if_false, if_true, t1, t3, t4, t9, t10, t34, t35, t36, e4, decide_true, hix, l2, (ld hkM).1, (ld hkM).2, decide_eq_true hle] | simp (config := { maxSteps := 1000000 }) (disch := first | (simp only [List.length_append, List.length_cons, List.length_nil] <;> omega) | rfl | omega | fail) only [kset, wset, hset, dset, bset, Nat.reduceAdd, Nat.reduceMul, Nat.reduceLeDiff, Nat.reduceEqDiff, pset, hlen, if_false, if_true, t1, t3, t4, t9, t10, t34, t35, t36, e4, decide_true, hix, l2, (ld hkM).1, (ld hkM).2, decide_eq_true hle])
        refine WF.res T.c181 (r181 T hfr.isSl (by omega) k) ?_
        rintro _ g2 rfl
        by_cases hm : k ∈ O'
        · repeat (first | simp (config := { maxSteps := 1000000 }) only [wset, hset, dset, bset, Nat.reduceAdd, Nat.reduceMul, Nat.reduceLeDiff, Nat.reduceEqDiff, pset, hlen, if_false, if_true, t1, t3, t4, t9, t10, t34, t35, t36, decide_eq_true hm, Bool.not_true, hwq] | simp (config := { maxSteps := 1000000 }) (disch := first | (simp only [List.length_append, List.length_cons, List.length_nil] <;> omega) | rfl | omega | fail) only [kset, wset, hset, dset, bset, Nat.reduceAdd, Nat.reduceMul, Nat.reduceLeDiff, Nat.reduceEqDiff, pset, hlen, if_false, if_true, t1, t3, t4, t9, t10, t34, t35, t36, decide_eq_true hm, Bool.not_true, hwq])
          exact ⟨_, by omega, q + 1, out', O', _, rfl, by rw [List.append_assoc], by rw [← List.append_assoc]; exact hfr.app _, hf', hOx, by rw [← List.append_assoc]; exact hn.app _, hdis, hcl' (fun y hy => hy) (fun _ => hm), by omega, rfl, rfl⟩
        · repeat (first | simp (config := { maxSteps := 1000000 }) only [wset, hset, dset, bset, Nat.reduceAdd, Nat.reduceMul, Nat.reduceLeDiff, Nat.reduceEqDiff, pset, hlen, if_false, if_true, t1, t3, t4, t9, t10, t34, t35, t36, decide_eq_false hm, Bool.not_false] | simp (config := { maxSteps := 1000000 }) (disch := first | (simp only [List.length_append, List.length_cons, List.length_nil] <;> omega) | rfl | omega | fail) only [kset, wset, hset, dset, bset, Nat.reduceAdd, Nat.reduceMul, Nat.reduceLeDiff, Nat.reduceEqDiff, pset, hlen, if_false, if_true, t1, t3, t4, t9, t10, t34, t35, t36, decide_eq_false hm, Bool.not_false])
          have hiO : i < O'.length := (List.getElem?_eq_some_iff.1 hOx).1
          have hOx' : O'[i] = x := (List.getElem?_eq_some_iff.1 hOx).2
          have hf2 := hf'.push hiO (k := k) (by rw [hOx']; exact hkn) hle hm
          refine WR.app1 (h0 := B) (cs := O'.map intRow) (ys := [intRow k]) ?f1 (Fr.push (N := 0) (Nat.zero_le _) [intRow k] (by simp)).isSl (by decide) (by simp) (by simp; omega) (by repeat first | with_reducible exact Ext.refl _ | refine Ext.app _ ?_) ?_
          case f1 => exact (hfr.app _).app _
          intro g3 hl' hff hkp
          have hrow : O'.map intRow ++ [intRow k] = (O' ++ [k]).map intRow := by rw [List.map_append]; rfl
          rw [hrow] at hff ⊢
          repeat (first | simp (config := { maxSteps := 1000000 }) only [wset, hset, dset, bset, Nat.reduceAdd, Nat.reduceMul, Nat.reduceLeDiff, Nat.reduceEqDiff, pset, hlen, if_false, if_true, t1, t3, t4, t9, t10, t34, t35, t36, hwq] | simp (config := { maxSteps := 1000000 }) (disch := first | (simp only [List.length_append, List.length_cons, List.length_nil] <;> omega) | rfl | omega | fail) only [kset, wset, hset, dset, bset, Nat.reduceAdd, Nat.reduceMul, Nat.reduceLeDiff, Nat.reduceEqDiff, pset, hlen, if_false, if_true, t1, t3, t4, t9, t10, t34, t35, t36, hwq])
          refine ⟨_, by omega, q + 1, _, O' ++ [k], g3, rfl, rfl, hff, hf2, by rw [List.getElem?_append_left hiO]; exact hOx, ?_, ?_, hcl' (fun y hy => List.mem_append_left _ hy) (fun _ => by simp), by omega, rfl, rfl⟩
          · exact ((hn.app g2).app _).off hdis hkp
          · intro b o n e b' o' n' e' e1 e2
            have := (((hn.app g2).app [ABlk.cells [AV.int .i64 k] true true]).lt e2).2
            cases e1
            simp only [List.length_append, List.length_cons, List.length_nil] at this ⊢
            omega
      · repeat (first | simp (config := { maxSteps := 1000000 }) only [wset, hset, dset, bset, Nat.reduceAdd, Nat.reduceMul, Nat.reduceLeDiff, Nat.reduceEqDiff, pset, hlen, if_false, if_true, t1, t3, t4, t9, t10, t34, t35, t36, e4, decide_true, hix, l2, (ld hkM).1, (ld hkM).2, decide_eq_false hle, hwq] | simp (config := { maxSteps := 1000000 }) (disch := first | (simp only [List.length_append, List.length_cons, List.length_nil] <;> omega) | rfl | omega | fail) only [kset, wset, hset, dset, bset, Nat.reduceAdd, Nat.reduceMul, Nat.reduceLeDiff, Nat.reduceEqDiff, pset, hlen, if_false, if_true, t1, t3, t4, t9, t10, t34, t35, t36, e4, decide_true, hix, l2, (ld hkM).1, (ld hkM).2, decide_eq_false hle, hwq])
        exact ⟨_, by omega, q + 1, out', O', g', rfl, rfl, hfr, hf', hOx, hn, hdis, hcl' (fun y hy => hy) (fun h => absurd h hle), by omega, rfl, rfl⟩
    · have e4 : ¬ (q : Int) < (nbS m x).length := by omega
      have hiO : i < O'.length := (List.getElem?_eq_some_iff.1 hOx).1
      have hOx' : O'[i] = x := (List.getElem?_eq_some_iff.1 hOx).2
      repeat (first | simp (config := { maxSteps := 1000000 }) only [wset, hset, dset, bset, Nat.reduceAdd, Nat.reduceMul, Nat.reduceLeDiff, Nat.reduceEqDiff, pset, hlen, if_false, if_true, t1, t3, t4, t9, t10, t34, t35, t36, e4, decide_false, hwi] | simp (config := { maxSteps := 1000000 }) (disch := first | (simp only [List.length_append, List.length_cons, List.length_nil] <;> omega) | rfl | omega | fail) only [kset, wset, hset, dset, bset, Nat.reduceAdd, Nat.reduceMul, Nat.reduceLeDiff, Nat.reduceEqDiff, pset, hlen, if_false, if_true, t1, t3, t4, t9, t10, t34, t35, t36, e4, decide_false, hwi])
      refine ⟨_, ?_, i + 1, out', O', g', rfl, rfl, hfr, hf'.next hiO ?_, by omega, rfl, rfl⟩
      · omega
      · rw [hOx']
        intro k hk hd'
        obtain ⟨p, hp, rfl⟩ := List.mem_iff_getElem.1 hk
        exact hcl p (by omega) hp hd'
  · have e3 : ¬ (i : Int) < O.length := by omega
    have hiE : i = O.length := by omega
    subst hiE
    repeat (first | simp (config := { maxSteps := 1000000 }) only [wset, hset, dset, bset, Nat.reduceAdd, Nat.reduceMul, Nat.reduceLeDiff, Nat.reduceEqDiff, pset, hlen, if_false, if_true, t1, t3, t4, t9, t10, hfr.isSl.lenm, e3, decide_false] | simp (config := { maxSteps := 1000000 }) (disch := first | (simp only [List.length_append, List.length_cons, List.length_nil] <;> omega) | rfl | omega | fail) only [kset, wset, hset, dset, bset, Nat.reduceAdd, Nat.reduceMul, Nat.reduceLeDiff, Nat.reduceEqDiff, pset, hlen, if_false, if_true, t1, t3, t4, t9, t10, hfr.isSl.lenm, e3, decide_false])
    refine WF.gen T.c182 (gsort S hfr (by omega)) ?_
    rintro _ _ ⟨g', hg', rfl, hff, -⟩
    rw [hf.fin v hD hc] at hff
    repeat (first | simp (config := { maxSteps := 1000000 }) only [wset, hset, dset, bset, Nat.reduceAdd, Nat.reduceMul, Nat.reduceLeDiff, Nat.reduceEqDiff, pset, hlen, if_false, if_true, t1, t3, t4, t9, t10] | simp (config := { maxSteps := 1000000 }) (disch := first | (simp only [List.length_append, List.length_cons, List.length_nil] <;> omega) | rfl | omega | fail) only [kset, wset, hset, dset, bset, Nat.reduceAdd, Nat.reduceMul, Nat.reduceLeDiff, Nat.reduceEqDiff, pset, hlen, if_false, if_true, t1, t3, t4, t9, t10])
    exact ⟨eB.trans (by repeat first | with_reducible exact Ext.refl _ | refine Ext.app _ ?_), hff.low hN⟩

set_option maxRecDepth 10000 in
set_option maxHeartbeats 1000000 in
theorem r132 {m : Mp} {s d : AV} {D : List Int} (hs : s.one = true) (gl : Glb h) (v : MpV m) (hd : IsSl h d 1 (D.map intRow)) (hD : (D.length : Int) = m.cols * m.rows) {cell most : Int} (hc : InM m cell) :
    RCall P 132 [mapA m s, d, .int .i64 cell, .int .i64 most] h (fun w h' => Fr h.length h' w 1 ((areaS m D most cell).map intRow)) := by
  obtain ⟨n, hn⟩ := Int.eq_ofNat_of_zero_le hc.1
  have hnD : n < D.length := by have := hc.2; omega
  refine .of T.mix T.c132 ?_
  have eB : Ext h (h ++ [ABlk.cells [AV.int IntKind.i64 m.cols, AV.int IntKind.i64 m.rows, s] true false]) := by repeat first | with_reducible exact Ext.refl _ | refine Ext.app _ ?_
  have lB : (h ++ [ABlk.cells [AV.int IntKind.i64 m.cols, AV.int IntKind.i64 m.rows, s] true false])[h.length]? = some (.cells [AV.int IntKind.i64 m.cols, AV.int IntKind.i64 m.rows, s] true false) := by rw [List.getElem?_append_right (Nat.le_refl _), Nat.sub_self]; rfl
  obtain ⟨B, hB⟩ : ∃ B, B = h ++ [ABlk.cells [AV.int IntKind.i64 m.cols, AV.int IntKind.i64 m.rows, s] true false] := ⟨_, rfl⟩
  rw [← hB] at eB lB
  obtain ⟨ts, hts⟩ : ∃ ts, ts = startTS 60 [mapA m s, d, .int .i64 cell, .int .i64 most] := ⟨_, rfl⟩
  have hlen : ts.length = 60 := by rw [hts]; rfl
  have t0 : slot ts 0 = mapA m s := by rw [hts]; rfl
  have t1 : slot ts 1 = d := by rw [hts]; rfl
  have t2 : slot ts 2 = .int .i64 cell := by rw [hts]; rfl
  have t3 : slot ts 3 = .int .i64 most := by rw [hts]; rfl
  show WC P inFn (fn132).body [] (startTS 60 _) h (FQ [(8, none)] _)
  rw [← hts]
  clear hts
  obtain ⟨R, hR⟩ : ∃ R, R = (fn132).body.dr 3 := ⟨_, rfl⟩
  have hbody : ∃ a b c, (fn132).body = .seq a (.seq b (.seq c R)) ∧ a = (fn132).body.hd ∧ b = (fn132).body.tl.hd ∧ c = (fn132).body.tl.tl.hd := ⟨_, _, _, by rw [hR]; rfl, rfl, rfl, rfl⟩
  obtain ⟨a, b, c, e, rfl, rfl, rfl⟩ := hbody
  rw [e]
  unfold fn132
  simp only [ICode.tl, ICode.hd]
  have l1 := fun {kk : AHeap} (e : Ext h kk) => hd.l1m hnD rfl e
  have hix := hd.ixm (kk := .i64) hnD
  have hdI := dI_get hnD
  subst hn
  by_cases hle : D[n] ≤ most
  · repeat (first | simp (config := { maxSteps := 1000000 }) only [wset, hset, dset, bset, Nat.reduceAdd, Nat.reduceMul, Nat.reduceLeDiff, Nat.reduceEqDiff, pset, hlen, if_false, if_true, t0, t1, t2, t3, hs, hix, l1, decide_eq_true hle] | simp (config := { maxSteps := 1000000 }) (disch := first | (simp only [List.length_append, List.length_cons, List.length_nil] <;> omega) | rfl | omega | fail) only [kset, wset, hset, dset, bset, Nat.reduceAdd, Nat.reduceMul, Nat.reduceLeDiff, Nat.reduceEqDiff, pset, hlen, if_false, if_true, t0, t1, t2, t3, hs, hix, l1, decide_eq_true hle])
    rw [← hB]
    refine WR.app1 (h0 := B) (cs := []) (ys := [intRow n]) .nil (Fr.push (N := 0) (Nat.zero_le _) [intRow n] (by simp)).isSl (by decide) (by simp) (by simp) (by repeat first | with_reducible exact Ext.refl _ | refine Ext.app _ ?_) ?_
    intro g3 hl' hff hkp
    repeat (first | simp (config := { maxSteps := 1000000 }) only [wset, hset, dset, bset, Nat.reduceAdd, Nat.reduceMul, Nat.reduceLeDiff, Nat.reduceEqDiff, pset, hlen, if_false, if_true, t1] | simp (config := { maxSteps := 1000000 }) (disch := first | (simp only [List.length_append, List.length_cons, List.length_nil] <;> omega) | rfl | omega | fail) only [kset, wset, hset, dset, bset, Nat.reduceAdd, Nat.reduceMul, Nat.reduceLeDiff, Nat.reduceEqDiff, pset, hlen, if_false, if_true, t1])
    rw [hR]
    refine flooded_M T S (most := most) (O := [(n : Int)]) hs (gl.ext eB) v (hd.ext eB) hD hc lB eB.len eB (by simp only [wset, hset, dset, bset, Nat.reduceAdd, Nat.reduceMul, Nat.reduceLeDiff, Nat.reduceEqDiff, pset, hlen, if_false, if_true, t0]) (by simp only [wset, hset, dset, bset, Nat.reduceAdd, Nat.reduceMul, Nat.reduceLeDiff, Nat.reduceEqDiff, pset, hlen, if_false, if_true, t1]) (by simp only [wset, hset, dset, bset, Nat.reduceAdd, Nat.reduceMul, Nat.reduceLeDiff, Nat.reduceEqDiff, pset, hlen, if_false, if_true, t3]) (by simp only [wset, hset, dset, bset, Nat.reduceAdd, Nat.reduceMul, Nat.reduceLeDiff, Nat.reduceEqDiff, pset, hlen, if_false, if_true, t1]) rfl (by rw [hdI, if_pos hle]) ?m1
    case m1 =>
      simp only [wset, hset, dset, bset, Nat.reduceAdd, Nat.reduceMul, Nat.reduceLeDiff, Nat.reduceEqDiff, pset, hlen, if_false, if_true, t1]
      exact hff
  · repeat (first | simp (config := { maxSteps := 1000000 }) only [wset, hset, dset, bset, Nat.reduceAdd, Nat.reduceMul, Nat.reduceLeDiff, Nat.reduceEqDiff, pset, hlen, if_false, if_true, t0, t1, t2, t3, hs, hix, l1, decide_eq_false hle] | simp (config := { maxSteps := 1000000 }) (disch := first | (simp only [List.length_append, List.length_cons, List.length_nil] <;> omega) | rfl | omega | fail) only [kset, wset, hset, dset, bset, Nat.reduceAdd, Nat.reduceMul, Nat.reduceLeDiff, Nat.reduceEqDiff, pset, hlen, if_false, if_true, t0, t1, t2, t3, hs, hix, l1, decide_eq_false hle])
    rw [← hB, hR]
    have := flooded_M T S (h := h) (most := most) (out := .nilSlice) (B := B) (g := []) (b4 := h.length) (N := h.length) hs (gl.ext eB) v (hd.ext eB) hD hc lB eB.len eB (ts := ((((((((ts.set 4 (AV.ptr (List.length h) 0)).set 8 AV.nilSlice).set 9 AV.nilSlice).set 13 d).set 14 (AV.int IntKind.i64 n)).set 15 (elp d 1 n)).set 16 (AV.int IntKind.i64 D[n])).set 17 (AV.int IntKind.i64 most)).set 18 (AV.bool false)) (O := []) (by simp only [wset, hset, dset, bset, Nat.reduceAdd, Nat.reduceMul, Nat.reduceLeDiff, Nat.reduceEqDiff, pset, hlen, if_false, if_true, t0]) (by simp only [wset, hset, dset, bset, Nat.reduceAdd, Nat.reduceMul, Nat.reduceLeDiff, Nat.reduceEqDiff, pset, hlen, if_false, if_true, t1]) (by simp only [wset, hset, dset, bset, Nat.reduceAdd, Nat.reduceMul, Nat.reduceLeDiff, Nat.reduceEqDiff, pset, hlen, if_false, if_true, t3]) (by simp only [wset, hset, dset, bset, Nat.reduceAdd, Nat.reduceMul, Nat.reduceLeDiff, Nat.reduceEqDiff, pset, hlen, if_false, if_true, t1]) (by simp only [wset, hset, dset, bset, Nat.reduceAdd, Nat.reduceMul, Nat.reduceLeDiff, Nat.reduceEqDiff, pset, hlen, if_false, if_true, t1]) (by rw [hdI, if_neg hle]) .nil
    rw [List.append_nil] at this
    exact this
end
end Go.Abs
namespace Go.Proofs
open Go.Shelf
def Tryz.lays171_ren : Go.Shelf.Ren := ⟨fun | 171 => 188 | 243 => 209 | 246 => 230 | 283 => 240 | 284 => 241 | 285 => 242 | 286 => 243 | 129 => 227 | 317 => 249 | 318 => 250 | 319 => 251 | 320 => 252 | 337 => 257 | 338 => 258 | n => n, fun | 3 => 3 | 9 => 9 | 2 => 2 | 4 => 4 | 171 => 313 | 0 => 0 | 53 => 300 | 37 => 255 | 5 => 5 | 173 => 315 | 212 => 322 | 51 => 298 | 20 => 20 | 213 => 323 | 46 => 283 | 232 => 330 | 233 => 331 | n => n, fun | 17 => 2 | 18 => 5 | 19 => 6 | n => n⟩
theorem Tryz.lays171 : Go.Proofs.LaysM.n171 Tryz.prog Tryz.lays171_ren := {
  mixed := by kernel_rfl
  f129 := Tryz.func227.trans (congrArg some (by kernel_rfl))
  f171 := Tryz.func188.trans (congrArg some (by kernel_rfl))
  f243 := Tryz.func209.trans (congrArg some (by kernel_rfl))
  f246 := Tryz.func230.trans (congrArg some (by kernel_rfl))
  f283 := Tryz.func240.trans (congrArg some (by kernel_rfl))
  f284 := Tryz.func241.trans (congrArg some (by kernel_rfl))
  f285 := Tryz.func242.trans (congrArg some (by kernel_rfl))
  f286 := Tryz.func243.trans (congrArg some (by kernel_rfl))
  f317 := Tryz.func249.trans (congrArg some (by kernel_rfl))
  f318 := Tryz.func250.trans (congrArg some (by kernel_rfl))
  f319 := Tryz.func251.trans (congrArg some (by kernel_rfl))
  f320 := Tryz.func252.trans (congrArg some (by kernel_rfl))
  f337 := Tryz.func257.trans (congrArg some (by kernel_rfl))
  f338 := Tryz.func258.trans (congrArg some (by kernel_rfl))
  t0 := Tryz.underlying0
  a0 := Tryz.isAgg0
  z0 := Tryz.sizeOf0
  v0 := Tryz.zeroValue0
  t2 := Tryz.underlying2
  a2 := Tryz.isAgg2
  z2 := Tryz.sizeOf2
  v2 := Tryz.zeroValue2
  t3 := Tryz.underlying3
  a3 := Tryz.isAgg3
  z3 := Tryz.sizeOf3
  v3 := Tryz.zeroValue3
  t4 := Tryz.underlying4
  a4 := Tryz.isAgg4
  z4 := Tryz.sizeOf4
  v4 := Tryz.zeroValue4
  t5 := Tryz.underlying5
  a5 := Tryz.isAgg5
  z5 := Tryz.sizeOf5
  v5 := Tryz.zeroValue5
  t9 := Tryz.underlying9
  a9 := Tryz.isAgg9
  z9 := Tryz.sizeOf9
  v9 := Tryz.zeroValue9
  t20 := Tryz.underlying20
  a20 := Tryz.isAgg20
  z20 := Tryz.sizeOf20
  v20 := Tryz.zeroValue20
  t37 := Tryz.underlying255
  a37 := Tryz.isAgg255
  z37 := Tryz.sizeOf255
  v37 := Tryz.zeroValue255
  t46 := Tryz.underlying283
  a46 := Tryz.isAgg283
  z46 := Tryz.sizeOf283
  v46 := Tryz.zeroValue283
  t51 := Tryz.underlying298
  a51 := Tryz.isAgg298
  z51 := Tryz.sizeOf298
  v51 := Tryz.zeroValue298
  t53 := Tryz.underlying300
  a53 := Tryz.isAgg300
  z53 := Tryz.sizeOf300
  v53 := Tryz.zeroValue300
  t171 := Tryz.underlying313
  a171 := Tryz.isAgg313
  z171 := Tryz.sizeOf313
  v171 := Tryz.zeroValue313
  t173 := Tryz.underlying315
  a173 := Tryz.isAgg315
  z173 := Tryz.sizeOf315
  v173 := Tryz.zeroValue315
  t212 := Tryz.underlying322
  a212 := Tryz.isAgg322
  z212 := Tryz.sizeOf322
  v212 := Tryz.zeroValue322
  t213 := Tryz.underlying323
  a213 := Tryz.isAgg323
  z213 := Tryz.sizeOf323
  t232 := Tryz.underlying330
  a232 := Tryz.isAgg330
  z232 := Tryz.sizeOf330
  v232 := Tryz.zeroValue330
  t233 := Tryz.underlying331
  a233 := Tryz.isAgg331
  z233 := Tryz.sizeOf331
  v233 := Tryz.zeroValue331
  g17 := by kernel_rfl
  g18 := by kernel_rfl
  g19 := by kernel_rfl
  i0 := by kernel_rfl
  i2 := by kernel_rfl
  i3 := by kernel_rfl
  i4 := by kernel_rfl
  i5 := by kernel_rfl
  i9 := by kernel_rfl
  i20 := by kernel_rfl
  i37 := by kernel_rfl
  i46 := by kernel_rfl
  i51 := by kernel_rfl
  i53 := by kernel_rfl
  i171 := by kernel_rfl
  i173 := by kernel_rfl
  i212 := by kernel_rfl
  i232 := by kernel_rfl
  i233 := by kernel_rfl
  m17 := by kernel_rfl
  m18 := by kernel_rfl
  m19 := by kernel_rfl }
end Go.Proofs
namespace Go.Abs

/-- The decimal digits, by fuel. -/
def digF : Nat → Nat → List UInt8
  | 0, u => [UInt8.ofNat (48 + u)]
  | f + 1, u =>
    match Nat.blt u 10 with
    | true => [UInt8.ofNat (48 + u)]
    | false => digF f (u / 10) ++ [UInt8.ofNat (48 + u % 10)]
theorem digF_eq : ∀ (f u : Nat), u < 10 ^ (f + 1) → digF f u = Lib.decDigits u
  | 0, u, h => by rw [Lib.decDigits, dif_pos (by simpa using h)]; rfl
  | f + 1, u, h => by
    unfold digF
    cases hb : Nat.blt u 10 with
    | true => rw [Lib.decDigits, dif_pos (by rw [Nat.blt_eq] at hb; exact hb)]
    | false =>
      have hn : ¬ u < 10 := fun x => by rw [← Nat.blt_eq, hb] at x; cases x
      rw [Lib.decDigits, dif_neg hn, digF_eq f (u / 10) (by rw [Nat.pow_succ] at h; omega)]

theorem prog_globs : Go.Proofs.Tryz.prog.globals.size = 7 := by kernel_rfl
theorem gsz_pow : gsz Go.Proofs.Tryz.prog 2 = 20 := by kernel_rfl

open Go.RowKit in
/-- THE NUMBER's TEXT; the table of powers is as laid. -/
theorem itoa_ok {h : AHeap} {n : Int} (h0 : -9223372036854775808 ≤ n) (h1 : n ≤ 9223372036854775807) {mu tl : Bool} (hb : h[2]? = some (.cells (Lib.pow10Tab.map (AV.int .u64)) mu tl)) :
    SCall Go.Proofs.Tryz.prog 188 [.int .i64 n] h (.str (Lib.itoa n)) h := by
  intro m w vs hr ha
  obtain ⟨v, vs1, rfl, hv, hr1⟩ := VRs_cons.1 ha
  rw [VRs_nil] at hr1
  subst hr1
  rw [VR] at hv
  subst hv
  obtain ⟨e, he, hcb, hd, -, hsz⟩ := hr.glob 2 (by rw [prog_globs]; omega)
  obtain ⟨cc, el, fz, hw, ⟨hle, hle2, hsz2⟩, hget, -, -⟩ := hr.blk 2 e _ he hb
  have htab : Lib.TabIs Go.Proofs.Tryz.prog w "internal/strconv.uint64pow10" .u64 Lib.pow10Tab := by
    unfold Lib.TabIs World.var?
    rw [Go.Proofs.Tryz.lays171.m17]
    show (match w.heap[2]? with | some (.cells cs _ _) => some cs | _ => none) = _
    rw [hcb] at hw
    rw [hw]
    have h20 : cc.size = 20 := by rw [hsz2, hsz, gsz_pow]
    refine congrArg some (Array.ext_getElem? fun i => ?_)
    by_cases hi : i < 20
    · have hl : i < Lib.pow10Tab.length := by rw [Lib.pow10Tab_length]; exact hi
      obtain ⟨_, cv, hcv, hvr⟩ := hget i (.int .u64 Lib.pow10Tab[i]) (by rw [List.getElem?_map, List.getElem?_eq_getElem hl]; rfl)
      rw [VR] at hvr
      rw [hd, Nat.zero_add] at hcv
      rw [hcv, hvr, List.getElem?_toArray, List.getElem?_map, List.getElem?_eq_getElem hl]
      rfl
    · rw [Array.getElem?_eq_none (by omega), Array.getElem?_eq_none (by rw [List.size_toArray, List.length_map, Lib.pow10Tab_length]; omega)]
  refine (Go.Proofs.Any.strconv_Itoa Go.Proofs.Tryz.lays171 n h0 h1 w htab).mono ?_
  rintro e' w' ⟨rfl, k, os, rfl⟩
  have hh : ∀ i, i < w.heap.size → (Go.Sort.grow (w.drewN k) os).heap[i]? = w.heap[i]? := fun i hi => by
    show (w.heap ++ os)[i]? = _
    rw [Array.getElem?_append_left hi]
  have hs : w.heap.size ≤ (Go.Sort.grow (w.drewN k) os).heap.size := by
    show w.heap.size ≤ (w.heap ++ os).size
    simp
  exact ⟨_, m, rfl, rfl, ⟨hr.dom, fun b' e' k' a1 a2 => (hr.blk b' e' k' a1 a2).heap (hh _ (hr.lt b' e' a1)), hr.sep, hr.glob, fun b' e' a1 => Nat.lt_of_lt_of_le (hr.lt b' e' a1) hs⟩,
    ⟨fun _ _ => rfl, Nat.le_refl _, fun b' e' a1 a2 => absurd (hr.dom b' e' a2) (by omega), fun _ _ x => x, hs, rfl, rfl, rfl, fun i hi _ => hh i hi⟩⟩

def isInts (k : IntKind) : List AV → List Int → Bool
  | [], [] => true
  | .int k' z :: r, z' :: r' => k' == k && z == z' && isInts k r r'
  | _, _ => false
theorem isInts_ok {k : IntKind} : ∀ {l : List AV} {zs : List Int}, isInts k l zs = true → l = zs.map (AV.int k)
  | [], [], _ => rfl
  | [], _ :: _, h => by simp [isInts] at h
  | .int k' z :: r, z' :: r', h => by
    simp only [isInts, Bool.and_eq_true, beq_iff_eq] at h
    obtain ⟨⟨h1, h2⟩, h3⟩ := h
    rw [h1, h2, isInts_ok h3, List.map_cons]
  | x :: r, [], h => by cases x <;> simp [isInts] at h
  | .bool _ :: r, _ :: _, h => by simp [isInts] at h
  | .flt _ _ :: r, _ :: _, h => by simp [isInts] at h
  | .cplx _ _ _ :: r, _ :: _, h => by simp [isInts] at h
  | .str _ :: r, _ :: _, h => by simp [isInts] at h
  | .ptr _ _ :: r, _ :: _, h => by simp [isInts] at h
  | .nilPtr :: r, _ :: _, h => by simp [isInts] at h
  | .slice _ _ _ _ :: r, _ :: _, h => by simp [isInts] at h
  | .nilSlice :: r, _ :: _, h => by simp [isInts] at h
  | .map _ :: r, _ :: _, h => by simp [isInts] at h
  | .nilMap :: r, _ :: _, h => by simp [isInts] at h
  | .func _ _ _ :: r, _ :: _, h => by simp [isInts] at h
  | .nilFunc :: r, _ :: _, h => by simp [isInts] at h
  | .agg _ :: r, _ :: _, h => by simp [isInts] at h
  | .tup _ :: r, _ :: _, h => by simp [isInts] at h

/-- strconv.Itoa, at an argument that is read. -/
def itoaE (args : List AV) (G : Nat → Option ABlk) : Option (AV × Eff) :=
  match args with
  | [.int .i64 n] =>
    match G 2 with
    | some (.cells c _ _) =>
      match isInts .u64 c Lib.pow10Tab && decide (-1000000000000000000 < n) && decide (n < 1000000000000000000) with
      | true => some (.str (if n < 0 then 45 :: digF 17 n.natAbs else digF 17 n.toNat), .keep)
      | false => none
    | _ => none
  | _ => none
theorem itoaE_ok {args : List AV} {h : AHeap} {v : AV} {e : Eff} (he : itoaE args (fun b => h[b]?) = some (v, e)) : SCall Go.Proofs.Tryz.prog 188 args h v (e.app h) := by
  unfold itoaE at he
  split at he
  · rename_i n
    split at he
    · rename_i c mu tl hb
      split at he
      · rename_i hx
        cases he
        simp only [Bool.and_eq_true, decide_eq_true_eq] at hx
        obtain ⟨⟨hp, h1⟩, h2⟩ := hx
        have := itoa_ok (n := n) (h := h) (by omega) (by omega) (show h[2]? = some (.cells (Lib.pow10Tab.map (AV.int .u64)) mu tl) by rw [← isInts_ok hp]; exact hb)
        unfold Lib.itoa at this
        rw [← digF_eq 17 _ (by omega), ← digF_eq 17 _ (by omega)] at this
        exact this
      · cases he
    · cases he
  · cases he

end Go.Abs
namespace Go.Abs

theorem RCall.forget {P : Program} {f : FuncId} {args : List AV} {h : AHeap} {w : AV} (hc : RCall P f args h (fun v _ => v = w)) (hv : clos 0 w) : SCall P f args h w h := by
  obtain ⟨v, g, hs, rfl⟩ := hc
  exact hs.forget hv

/-- A horizon, read. -/
def decA (G : Nat → Option ABlk) : AV → Option (Hor × AV)
  | .agg l => decH G l
  | _ => none
theorem decA_ok {h : AHeap} {x : AV} {y : Hor × AV} (hx : decA (fun b => h[b]?) x = some y) : x = horA y.1 y.2 ∧ HorOk h y.1 y.2 := by
  unfold decA at hx
  split at hx
  · obtain ⟨rfl, h2⟩ := decH_ok _ _ hx
    exact ⟨rfl, h2⟩
  · cases hx

def chkHorE (args : List AV) (G : Nat → Option ABlk) : Option (AV × Eff) :=
  match args with
  | [x] =>
    match decA G x with
    | some y => some (.int .i64 (chkHorS y.1), .keep)
    | none => none
  | _ => none
def chkHorsE (args : List AV) (G : Nat → Option ABlk) : Option (AV × Eff) :=
  match args with
  | [s] =>
    match rowsOf G 3 s with
    | some a =>
      match decL (decH G) a with
      | some L => if L.length < 2 ^ 63 then some (.int .i64 (chkHorsS (L.map (·.1))), .keep) else none
      | none => none
    | none => none
  | _ => none
def atE (args : List AV) (G : Nat → Option ABlk) : Option (AV × Eff) :=
  match args with
  | [x, .int .i64 n] =>
    match decA G x with
    | some y =>
      match decide (chkHorS y.1 = 0) && hasS y.1 n with
      | true => some (ratA (atS y.1 n), .keep)
      | false => none
    | none => none
  | _ => none
def bandE (args : List AV) (G : Nat → Option ABlk) : Option (AV × Eff) :=
  match args with
  | [x, .int .i64 n] =>
    match decA G x with
    | some y =>
      match decide (chkHorS y.1 = 0) && hasS y.1 n with
      | true => some (ratA (bandS y.1 n), .keep)
      | false => none
    | none => none
  | _ => none

variable {P : Program} (T : Tbl P) {args : List AV} {h : AHeap} {v : AV} {e : Eff}
include T
theorem chkHorE_ok (he : chkHorE args (fun b => h[b]?) = some (v, e)) : SCall P 26 args h v (e.app h) := by
  unfold chkHorE at he
  split at he
  · split at he
    · rename_i y hy
      cases he
      obtain ⟨rfl, o⟩ := decA_ok hy
      exact (r26 T o.sl o.len).forget (clos_int _ _)
    · cases he
  · cases he
theorem chkHorsE_ok (he : chkHorsE args (fun b => h[b]?) = some (v, e)) : SCall P 27 args h v (e.app h) := by
  unfold chkHorsE at he
  split at he
  · split at he
    · rename_i a ha
      split at he
      · rename_i L hL
        split at he
        · rename_i hl
          cases he
          have h1 := rowsOf_ok ha
          rw [decL_ok (fun x y hx => (decH_ok x y hx).1) hL] at h1
          exact (r27 T ⟨h1, hl, decL_all (fun x y hx => (decH_ok x y hx).2) hL⟩).forget (clos_int _ _)
        · cases he
      · cases he
    · cases he
  · cases he
theorem atE_ok (he : atE args (fun b => h[b]?) = some (v, e)) : SCall P 96 args h v (e.app h) := by
  unfold atE at he
  split at he
  · split at he
    · rename_i y hy
      split at he
      · rename_i hx
        cases he
        rw [Bool.and_eq_true, decide_eq_true_eq] at hx
        obtain ⟨rfl, o⟩ := decA_ok hy
        exact (r96 T o (horV_iff.1 hx.1) hx.2).forget (clos_rat _)
      · cases he
    · cases he
  · cases he
theorem bandE_ok (he : bandE args (fun b => h[b]?) = some (v, e)) : SCall P 97 args h v (e.app h) := by
  unfold bandE at he
  split at he
  · split at he
    · rename_i y hy
      split at he
      · rename_i hx
        cases he
        rw [Bool.and_eq_true, decide_eq_true_eq] at hx
        obtain ⟨rfl, o⟩ := decA_ok hy
        exact (r97 T o (horV_iff.1 hx.1) hx.2).forget (clos_rat _)
      · cases he
    · cases he
  · cases he
end Go.Abs
