/- Calls by their contracts in the interpreter: strings.Join, strconv.Itoa, math.Floor. No condition. · Panels of fixed traces, run by the interpreter, in the kernel. No condition. · Panels of fixed traces, run by the interpreter, in the kernel: the way back. No condition. · The run of awake by the interpreter, in the kernel. No condition. -/
import Derived.Shelf.Strconv.Itoa3
import Derived.Test.YtbgldbmgjcgepaaGreatDoorGa5
import Derived.Test.YtbgldbmgjcgepaaGreatDoorGa6
import Derived.Test.YtbgldbmgjcgepaaGreatDoorGa7
set_option linter.all false
namespace Go.Abs

/-- WHAT A CALL HAS MADE IS FORGOTTEN behind it, if its value does not speak of it. -/
theorem SCall.forget {P : Program} {f : FuncId} {args : List AV} {h g : AHeap} {v : AV} (hs : SCall P f args h v (h ++ g)) (hv : clos 0 v) : SCall P f args h v h := by
  intro m w vs hr ha
  obtain ⟨mv, vv, hdv, hvv⟩ := hv
  have hc := hs m w vs hr ha
  rw [← callsIn_wide (n := 0)] at hc ⊢
  refine hc.mono ?_
  rintro e w' ⟨cv, m1, rfl, h1, h2, h3⟩
  have hm : m1.upTo h.length = m := by
    funext b
    unfold Emb.upTo
    by_cases hb : b < h.length
    · rw [if_pos hb, h3.ext b hb]
    · rw [if_neg hb]
      cases hx : m b with
      | none => rfl
      | some e => exact absurd (hr.dom b e hx) hb
  have hgl : P.globals.size ≤ h.length := by
    by_cases h0 : P.globals.size = 0
    · omega
    · obtain ⟨e, he, _⟩ := hr.glob (P.globals.size - 1) (by omega)
      have := hr.dom _ _ he
      omega
  have hup := h2.upTo hgl (fun b e k hb hmb hk => (hr.blk b e k (by rw [← h3.ext b hb]; exact hmb) hk).clos hr.dom)
  rw [hm] at hup
  exact ⟨cv, m, rfl, VR.mono (Emb.upTo_zero m1 m) _ _ (VR.cut hdv v vv cv hvv h1), hup, ⟨fun _ _ => rfl, Nat.le_refl _, fun b e hb he => absurd (hr.dom b e he) (by omega), fun _ _ h => h, h3.size, h3.os, h3.out, h3.tape, h3.frame⟩⟩

theorem clos_int (k : IntKind) (n : Int) : clos 0 (.int k n) := ⟨fun _ => none, .int k n, by simp, by rw [VR]⟩
theorem clos_bool (b : Bool) : clos 0 (.bool b) := ⟨fun _ => none, .bool b, by simp, by rw [VR]⟩
/-- The rows of a slice, read. -/
def chunks (es : Nat) : Nat → List AV → List (List AV)
  | 0, _ => []
  | n + 1, c => c.take es :: chunks es n (c.drop es)
def rowsOf (G : Nat → Option ABlk) (es : Nat) (s : AV) : Option (List (List AV)) :=
  match s with
  | .nilSlice => some []
  | .slice b o n es' =>
    if es' = es then
      match G b with
      | some (.cells c _ _) => if o + n * es ≤ c.length then some (chunks es n (c.drop o)) else none
      | _ => none
    else none
  | _ => none
theorem chunks_len {es : Nat} : ∀ {n : Nat} {c : List AV}, (chunks es n c).length = n
  | 0, _ => rfl
  | n + 1, c => by simp [chunks, chunks_len]
theorem chunks_flat {es : Nat} : ∀ {n : Nat} {c : List AV}, n * es ≤ c.length → (chunks es n c).flatten = c.take (n * es) ∧ ∀ x ∈ chunks es n c, x.length = es
  | 0, c, _ => by simp [chunks]
  | n + 1, c, h => by
    have hs : (n + 1) * es = es + n * es := by rw [Nat.succ_mul, Nat.add_comm]
    obtain ⟨h1, h2⟩ := chunks_flat (es := es) (n := n) (c := c.drop es) (by rw [List.length_drop]; omega)
    refine ⟨?_, fun x hx => ?_⟩
    · rw [chunks, List.flatten_cons, h1, hs, List.take_add]
    · rcases List.mem_cons.1 hx with rfl | hx
      · rw [List.length_take]; omega
      · exact h2 x hx
theorem rowsOf_ok {h : AHeap} {es : Nat} {s : AV} {r : List (List AV)} (hs : rowsOf (fun b => h[b]?) es s = some r) : IsSl h s es r := by
  cases s with
  | nilSlice => cases hs; exact .nil
  | slice b o n es' =>
    simp only [rowsOf] at hs
    by_cases he : es' = es
    · subst he
      rw [if_pos rfl] at hs
      cases hb : h[b]? with
      | none => rw [hb] at hs; cases hs
      | some k =>
        rw [hb] at hs
        cases k with
        | cells c mu tl =>
          simp only at hs
          by_cases hl : o + n * es' ≤ c.length
          · rw [if_pos hl] at hs
            cases hs
            obtain ⟨h1, h2⟩ := chunks_flat (es := es') (n := n) (c := c.drop o) (by rw [List.length_drop]; omega)
            have := IsSl.mk (h := h) (b := b) (o := o) (es := es') (cs := chunks es' n (c.drop o)) hb (by rw [chunks_len]; exact h1.symm) (by rw [chunks_len]; exact hl) h2
            rw [chunks_len] at this
            exact this
          · rw [if_neg hl] at hs; cases hs
        | _ => cases hs
    · rw [if_neg he] at hs; cases hs
  | _ => cases hs

theorem IsSl.inv {h : AHeap} {b o n e es : Nat} {cs : List (List AV)} (hs : IsSl h (.slice b o n e) es cs) : n = cs.length ∧ ∃ c mu tl, h[b]? = some (.cells c mu tl) ∧ (c.drop o).take (cs.length * es) = cs.flatten := by
  generalize hx : AV.slice b o n e = x at hs
  cases hs with
  | nil => cases hx
  | mk hb hf ho he => cases hx; exact ⟨rfl, _, _, _, hb, hf⟩

def decL {α : Type} (f : List AV → Option α) : List (List AV) → Option (List α)
  | [] => some []
  | x :: xs =>
    match f x, decL f xs with
    | some y, some ys => some (y :: ys)
    | _, _ => none
theorem decL_ok {α : Type} {f : List AV → Option α} {row : α → List AV} (hf : ∀ x y, f x = some y → x = row y) : ∀ {l : List (List AV)} {r : List α}, decL f l = some r → l = r.map row
  | [], r, h => by cases h; rfl
  | x :: xs, r, h => by
    unfold decL at h
    split at h
    case h_2 => cases h
    rename_i y ys h1 h2
    cases h
    rw [List.map_cons, hf x y h1, decL_ok hf h2]
def decS : List AV → Option (List UInt8)
  | [.str s] => some s
  | _ => none
theorem decS_ok (x : List AV) (y : List UInt8) (h : decS x = some y) : x = [.str y] := by
  unfold decS at h
  split at h <;> cases h
  rfl
theorem RCall.forget {P : Program} {f : FuncId} {args : List AV} {h : AHeap} {w : AV} (hc : RCall P f args h (fun v _ => v = w)) (hv : clos 0 w) : SCall P f args h w h := by
  obtain ⟨v, g, hs, rfl⟩ := hc
  exact hs.forget hv

theorem strs_flat : ∀ xs : List (List UInt8), (xs.map fun x => [AV.str x]).flatten = xs.map AV.str
  | [] => rfl
  | x :: xs => by rw [List.map_cons, List.flatten_cons, strs_flat xs]; rfl

/-- strings.Join. -/
def joinE (args : List AV) (G : Nat → Option ABlk) : Option (AV × Eff) :=
  match args with
  | [s, .str sep] =>
    match rowsOf G 1 s with
    | some a =>
      match decL decS a with
      | some xs => if (Lib.join xs sep).length ≤ 140737488355328 ∧ xs.length ≤ 140737488355328 then some (.str (Lib.join xs sep), .keep) else none
      | none => none
    | none => none
  | _ => none

open Go.RowKit in
theorem joinE_ok {args : List AV} {h : AHeap} {v : AV} {e : Eff} (he : joinE args (fun b => h[b]?) = some (v, e)) : SCall Go.Proofs.Tryz.prog 173 args h v (e.app h) := by
  unfold joinE at he
  split at he
  case h_2 => cases he
  rename_i s sep
  split at he
  case h_2 => cases he
  rename_i a ha
  split at he
  case h_2 => cases he
  rename_i xs hxs
  split at he
  case isFalse => cases he
  rename_i hl
  cases he
  have hs := rowsOf_ok ha
  rw [decL_ok decS_ok hxs] at hs
  intro m w vs hr hargs
  obtain ⟨v1, vs1, rfl, hv1, hr1⟩ := VRs_cons.1 hargs
  obtain ⟨v2, vs2, rfl, hv2, hr2⟩ := VRs_cons.1 hr1
  rw [VRs_nil] at hr2
  subst hr2
  rw [VR] at hv2
  subst hv2
  have fin : ∀ e w', (e = .returned (.string ⟨(Lib.join xs sep).toArray⟩) ∧ Below w.heap.size w w') → Rel Go.Proofs.Tryz.prog m h w (.str (Lib.join xs sep)) h e w' := by
    rintro e w' ⟨rfl, hb⟩
    exact ⟨_, m, rfl, rfl, ⟨hr.dom, fun b e k h1 h2 => (hr.blk b e k h1 h2).heap (hb.block _ (hr.lt b e h1)), hr.sep, hr.glob, fun b e h1 => Nat.lt_of_lt_of_le (hr.lt b e h1) hb.size⟩,
      ⟨fun _ _ => rfl, Nat.le_refl _, fun b e h1 h2 => absurd (hr.dom b e h2) (by omega), fun _ _ h => h, hb.size, hb.os, hb.output, hb.tape, fun i hi _ => hb.block i hi⟩⟩
  have zero : xs = [] → ∀ (a : Option Addr) (c : Nat), Calls Go.Proofs.Tryz.prog 173 #[.slice a 0 c, .string ⟨⟨sep⟩⟩] w (Rel Go.Proofs.Tryz.prog m h w (.str (Lib.join xs sep)) h) := fun hx a c => by
    refine (Go.Proofs.Tryz.strings_Join_none a c ⟨⟨sep⟩⟩ w).mono fun e w' ⟨he, hw⟩ => fin e w' ⟨?_, hw ▸ Below.refl _ _⟩
    rw [he, hx]; rfl
  have hlen := hs.lenm (fun _ => none)
  cases s with
  | nilSlice =>
    rw [VR] at hv1
    subst hv1
    simp only [Go.Abs.lenG, if_true, Option.some.injEq] at hlen
    exact zero (List.length_eq_zero_iff.1 hlen.symm) none 0
  | slice b o n es =>
    simp only [Go.Abs.lenG, if_true, Option.some.injEq] at hlen
    subst hlen
    rw [VR] at hv1
    obtain ⟨ent, ca, cap, he, rfl, hcap, hca, hsz⟩ := hv1
    by_cases hz : xs.length = 0
    · have hz' := List.length_eq_zero_iff.1 hz
      have := zero hz' (some ca) cap
      rw [hz]
      exact this
    · have hca' := hca (by omega)
      subst hca'
      generalize hcs : xs.map (fun x => [AV.str x]) = cs at hs
      have hcl : cs.length = xs.length := by rw [← hcs]; simp
      obtain ⟨_, c, mu, tl, hb, hf⟩ := hs.inv
      · obtain ⟨cc, el, fz, hheap, _, hcell, _⟩ := hr.blk b ent _ he hb
        have key := Go.Proofs.Tryz.strings_Join ent.cb (o + ent.d) cap (xs.map fun l => ⟨⟨l⟩⟩) ⟨⟨sep⟩⟩ w ?_ (hr.lt b ent he) (by rw [List.length_map]; exact hl.2) (by rw [List.length_map]; omega) ?_
        · rw [List.length_map] at key
          refine key.mono fun e w' ⟨he, hw⟩ => fin e w' ⟨?_, hw⟩
          rw [he, List.map_map]
          simp [Function.comp_def]
        · intro j x hx
          rw [List.getElem?_map, Option.map_eq_some_iff] at hx
          obtain ⟨l, hl', rfl⟩ := hx
          have hj : j < xs.length := (List.getElem?_eq_some_iff.1 hl').1
          have hflat : cs.flatten[j]? = some (.str l) := by
            rw [← hcs]
            have := strs_flat xs
            rw [this, List.getElem?_map, hl']; rfl
          rw [← hf, List.getElem?_take, if_pos (by omega), List.getElem?_drop] at hflat
          obtain ⟨_, cv, hcv, hvr⟩ := hcell _ _ hflat
          rw [VR] at hvr
          subst hvr
          simp only [World.cell?, hheap, Option.isSome_none, Bool.false_eq_true, if_false]
          rw [show o + ent.d + j = ent.d + (o + j) by omega]; exact hcv
        · rw [List.map_map]
          simpa [Function.comp_def] using hl.1
  | _ => cases hs

/-- The decimal digits, by fuel. -/
def digF : Nat → Nat → List UInt8
  | 0, u => [UInt8.ofNat (48 + u)]
  | f + 1, u =>
    match Nat.blt u 10 with
    | true => [UInt8.ofNat (48 + u)]
    | false => digF f (u / 10) ++ [UInt8.ofNat (48 + u % 10)]
theorem digF_eq : ∀ (f u : Nat), u < 10 ^ (f + 1) → digF f u = Lib.decDigits u
  | 0, u, h => by rw [Lib.decDigits, dif_pos (by simpa using h)]; rfl
  | f + 1, u, h => by
    unfold digF
    cases hb : Nat.blt u 10 with
    | true => rw [Lib.decDigits, dif_pos (by rw [Nat.blt_eq] at hb; exact hb)]
    | false =>
      have hn : ¬ u < 10 := fun x => by rw [← Nat.blt_eq, hb] at x; cases x
      rw [Lib.decDigits, dif_neg hn, digF_eq f (u / 10) (by rw [Nat.pow_succ] at h; omega)]

theorem prog_globs : Go.Proofs.Tryz.prog.globals.size = 11 := by kernel_rfl
theorem gsz_pow : gsz Go.Proofs.Tryz.prog 4 = 20 := by kernel_rfl

open Go.RowKit in
/-- THE NUMBER's TEXT; the table of powers is as laid. -/
theorem itoa_ok {h : AHeap} {n : Int} (h0 : -9223372036854775808 ≤ n) (h1 : n ≤ 9223372036854775807) {mu tl : Bool} (hb : h[4]? = some (.cells (Lib.pow10Tab.map (AV.int .u64)) mu tl)) :
    SCall Go.Proofs.Tryz.prog 175 [.int .i64 n] h (.str (Lib.itoa n)) h := by
  intro m w vs hr ha
  obtain ⟨v, vs1, rfl, hv, hr1⟩ := VRs_cons.1 ha
  rw [VRs_nil] at hr1
  subst hr1
  rw [VR] at hv
  subst hv
  obtain ⟨e, he, hcb, hd, -, hsz⟩ := hr.glob 4 (by rw [prog_globs]; omega)
  obtain ⟨cc, el, fz, hw, ⟨hle, hle2, hsz2⟩, hget, -, -⟩ := hr.blk 4 e _ he hb
  have htab : Lib.TabIs Go.Proofs.Tryz.prog w "internal/strconv.uint64pow10" .u64 Lib.pow10Tab := by
    unfold Lib.TabIs World.var?
    rw [Go.Proofs.Tryz.lays171.m17]
    show (match w.heap[4]? with | some (.cells cs _ _) => some cs | _ => none) = _
    rw [hcb] at hw
    rw [hw]
    have h20 : cc.size = 20 := by rw [hsz2, hsz, gsz_pow]
    refine congrArg some (Array.ext_getElem? fun i => ?_)
    by_cases hi : i < 20
    · have hl : i < Lib.pow10Tab.length := by rw [Lib.pow10Tab_length]; exact hi
      obtain ⟨_, cv, hcv, hvr⟩ := hget i (.int .u64 Lib.pow10Tab[i]) (by rw [List.getElem?_map, List.getElem?_eq_getElem hl]; rfl)
      rw [VR] at hvr
      rw [hd, Nat.zero_add] at hcv
      rw [hcv, hvr, List.getElem?_toArray, List.getElem?_map, List.getElem?_eq_getElem hl]
      rfl
    · rw [Array.getElem?_eq_none (by omega), Array.getElem?_eq_none (by rw [List.size_toArray, List.length_map, Lib.pow10Tab_length]; omega)]
  refine (Go.Proofs.Any.strconv_Itoa Go.Proofs.Tryz.lays171 n h0 h1 w htab).mono ?_
  rintro e' w' ⟨rfl, k, os, rfl⟩
  have hh : ∀ i, i < w.heap.size → (Go.Sort.grow (w.drewN k) os).heap[i]? = w.heap[i]? := fun i hi => by
    show (w.heap ++ os)[i]? = _
    rw [Array.getElem?_append_left hi]
  have hs : w.heap.size ≤ (Go.Sort.grow (w.drewN k) os).heap.size := by
    show w.heap.size ≤ (w.heap ++ os).size
    simp
  exact ⟨_, m, rfl, rfl, ⟨hr.dom, fun b' e' k' a1 a2 => (hr.blk b' e' k' a1 a2).heap (hh _ (hr.lt b' e' a1)), hr.sep, hr.glob, fun b' e' a1 => Nat.lt_of_lt_of_le (hr.lt b' e' a1) hs⟩,
    ⟨fun _ _ => rfl, Nat.le_refl _, fun b' e' a1 a2 => absurd (hr.dom b' e' a2) (by omega), fun _ _ x => x, hs, rfl, rfl, rfl, fun i hi _ => hh i hi⟩⟩

def isInts (k : IntKind) : List AV → List Int → Bool
  | [], [] => true
  | .int k' z :: r, z' :: r' => k' == k && z == z' && isInts k r r'
  | _, _ => false
theorem isInts_ok {k : IntKind} : ∀ {l : List AV} {zs : List Int}, isInts k l zs = true → l = zs.map (AV.int k)
  | [], [], _ => rfl
  | [], _ :: _, h => by simp [isInts] at h
  | .int k' z :: r, z' :: r', h => by
    simp only [isInts, Bool.and_eq_true, beq_iff_eq] at h
    obtain ⟨⟨h1, h2⟩, h3⟩ := h
    rw [h1, h2, isInts_ok h3, List.map_cons]
  | x :: r, [], h => by cases x <;> simp [isInts] at h
  | .bool _ :: r, _ :: _, h => by simp [isInts] at h
  | .flt _ _ :: r, _ :: _, h => by simp [isInts] at h
  | .cplx _ _ _ :: r, _ :: _, h => by simp [isInts] at h
  | .str _ :: r, _ :: _, h => by simp [isInts] at h
  | .ptr _ _ :: r, _ :: _, h => by simp [isInts] at h
  | .nilPtr :: r, _ :: _, h => by simp [isInts] at h
  | .slice _ _ _ _ :: r, _ :: _, h => by simp [isInts] at h
  | .nilSlice :: r, _ :: _, h => by simp [isInts] at h
  | .map _ :: r, _ :: _, h => by simp [isInts] at h
  | .nilMap :: r, _ :: _, h => by simp [isInts] at h
  | .func _ _ _ :: r, _ :: _, h => by simp [isInts] at h
  | .nilFunc :: r, _ :: _, h => by simp [isInts] at h
  | .agg _ :: r, _ :: _, h => by simp [isInts] at h
  | .tup _ :: r, _ :: _, h => by simp [isInts] at h

/-- strconv.Itoa, at an argument that is read. -/
def itoaE (args : List AV) (G : Nat → Option ABlk) : Option (AV × Eff) :=
  match args with
  | [.int .i64 n] =>
    match G 4 with
    | some (.cells c _ _) =>
      match isInts .u64 c Lib.pow10Tab && decide (-1000000000000000000 < n) && decide (n < 1000000000000000000) with
      | true => some (.str (if n < 0 then 45 :: digF 17 n.natAbs else digF 17 n.toNat), .keep)
      | false => none
    | _ => none
  | _ => none
theorem itoaE_ok {args : List AV} {h : AHeap} {v : AV} {e : Eff} (he : itoaE args (fun b => h[b]?) = some (v, e)) : SCall Go.Proofs.Tryz.prog 175 args h v (e.app h) := by
  unfold itoaE at he
  split at he
  · rename_i n
    split at he
    · rename_i c mu tl hb
      split at he
      · rename_i hx
        cases he
        simp only [Bool.and_eq_true, decide_eq_true_eq] at hx
        obtain ⟨⟨hp, h1⟩, h2⟩ := hx
        have := itoa_ok (n := n) (h := h) (by omega) (by omega) (show h[4]? = some (.cells (Lib.pow10Tab.map (AV.int .u64)) mu tl) by rw [← isInts_ok hp]; exact hb)
        unfold Lib.itoa at this
        rw [← digF_eq 17 _ (by omega), ← digF_eq 17 _ (by omega)] at this
        exact this
      · cases he
    · cases he
  · cases he


/-- A number made whole, downwards. -/
def floorV (b : Nat) : Nat := FloatKind.f64.encode ((FloatKind.f64.decode b).integral .down)
structure Xfl (P : Program) : Prop where
  fl : ∀ (args : Array Value) (w : World), (callFunc 223 args).run P w = ((Extern.MathFloor.toIntegral "math.archFloor" .down args).run P w).andThen fun v w' => .ok (.value v) w'
  bt : ∀ (args : Array Value) (w : World), (callFunc 248 args).run P w = ((Extern.MathFloatBits.float64bits args).run P w).andThen fun v w' => .ok (.value v) w'
  fb : ∀ (args : Array Value) (w : World), (callFunc 247 args).run P w = ((Extern.MathFloatBits.float64frombits args).run P w).andThen fun v w' => .ok (.value v) w'
/-- A function that the model gives by itself, of one value that is what it is in each world. -/
theorem v_extn {P : Program} {f : FuncId} {g : Array Value → Sem Value} (hf0 : ∀ (args : Array Value) (w : World), (callFunc f args).run P w = ((g args).run P w).andThen fun v w' => .ok (.value v) w') {h : AHeap} {x v : AV} {cx cv : Value} (hx : ∀ m y, VR m x y → y = cx)
    (hg : ∀ w : World, (g #[cx]).run P w = .ok cv w) (hv : ∀ m, VR m v cv) : VCall P (.func (.func f) [] []) [x] h (fun v' h' => v' = v ∧ h' = h) := by
  refine ⟨_, [], ?_, rfl, by simp⟩
  rw [List.append_nil]
  intro m w cf vs hr hf hargs
  rw [VR] at hf
  obtain ⟨f', a', c', rfl, hfn, ha, hc⟩ := hf
  simp only [FnR] at hfn
  subst hfn
  rw [VRs_nil] at ha hc
  subst ha; subst hc
  obtain ⟨v1, vs1, rfl, h1, hargs⟩ := VRs_cons.1 hargs
  rw [VRs_nil] at hargs
  subst hargs
  have h1 := hx m v1 h1
  subst h1
  refine ⟨_, fun w => rfl, ?_⟩
  simp only [invoke]
  rw [hf0]
  have e2 : (#[] ++ (⟨[v1]⟩ : Array Value) ++ #[]) = #[v1] := rfl
  simp only [e2, hg, Result.andThen]
  exact ⟨_, m, rfl, hv m, hr, Grow.refl m h w hr.dom⟩
theorem flt_exact {k : FloatKind} {b : Nat} (hb : nanB k b = false) (m : Emb) (y : Value) (h : VR m (.flt k b) y) : y = .float k b := by
  obtain ⟨b', rfl, hfr⟩ := h
  rcases hfr with h1 | ⟨h1, _⟩
  · rw [h1]
  · rw [hb] at h1; cases h1
theorem flr_eq {x : Nat} (h : ∀ s t, FloatKind.f64.decode x ≠ .nan s t) : Extern.MathFloor.toIntegral "math.archFloor" .down #[.float .f64 x] = pure (.float .f64 (FloatKind.f64.encode ((FloatKind.f64.decode x).integral .down))) := by
  show (match FloatKind.f64.decode x with
    | .nan s t =>
      if FloatKind.f64.format.quiet t = t then pure (.float .f64 x) else do
      let kept ← choose (.extern "math.Floor,Ceil,Trunc,RoundToEven.signallingNaN kept" 2)
      pure (.float .f64 (if kept == 1 then x else FloatKind.f64.encode (.nan s (FloatKind.f64.format.quiet t))))
    | d => pure (.float .f64 (FloatKind.f64.encode (d.integral .down))) : Sem Value) = _
  cases hd : FloatKind.f64.decode x with
  | nan s t => exact absurd hd (h s t)
  | number s m e => rfl
  | infinity s => rfl
theorem v_fl {P : Program} (X : Xfl P) {h : AHeap} {b : Nat} (hb : nanB .f64 b = false) : VCall P (.func (.func 223) [] []) [.flt .f64 b] h (fun v h' => v = .flt .f64 (floorV b) ∧ h' = h) :=
  v_extn X.fl (flt_exact hb) (fun w => by
    rw [nanB_isNaN] at hb
    have hb : (FloatKind.f64.decode b).isNaN = false := hb
    rw [flr_eq fun s t h => by rw [h] at hb; cases hb]; rfl) (fun m => ⟨_, rfl, .inl rfl⟩)
theorem v_bt {P : Program} (X : Xfl P) {h : AHeap} {b : Nat} (hb : nanB .f64 b = false) : VCall P (.func (.func 248) [] []) [.flt .f64 b] h (fun v h' => v = .int .u64 b ∧ h' = h) :=
  v_extn X.bt (flt_exact hb) (fun w => rfl) (fun m => rfl)
theorem v_fb {P : Program} (X : Xfl P) {h : AHeap} {n : Int} : VCall P (.func (.func 247) [] []) [.int .u64 n] h (fun v h' => v = .flt .f64 n.toNat ∧ h' = h) :=
  v_extn X.fb (fun m y h => h) (fun w => rfl) (fun m => ⟨_, rfl, .inl rfl⟩)
theorem xfl : Xfl Go.Proofs.Tryz.prog := ⟨run_callFunc_extern Go.Proofs.Tryz.func223 (by kernel_rfl) (by kernel_rfl) (by kernel_rfl) (by kernel_rfl), run_callFunc_extern Go.Proofs.Tryz.func248 (by kernel_rfl) (by kernel_rfl) (by kernel_rfl) (by kernel_rfl), run_callFunc_extern Go.Proofs.Tryz.func247 (by kernel_rfl) (by kernel_rfl) (by kernel_rfl) (by kernel_rfl)⟩
set_option maxRecDepth 10000 in
theorem r198 {P : Program} (T : Tbl P) (X : Xfl P) {h : AHeap} {b : Nat} (hb : nanB .f64 b = false) : RCall P 198 [.flt .f64 b] h (fun v _ => v = .flt .f64 (floorV b)) := by
  refine .of T.mix T.c198 ?_
  unfold fn198
  refine Wn ?_
  refine WF.val (v_fl X hb) ?_
  rintro v g ⟨rfl, hg⟩
  exact Wn trivial
/-- The absolute value's bits. -/
def absB (b : Nat) : Nat := (IntKind.u64.wrap (BitVec.ofInt 64 (b : Int) &&& ~~~ BitVec.ofInt 64 9223372036854775808).toNat).toNat
set_option maxRecDepth 10000 in
theorem r222 {P : Program} (T : Tbl P) (X : Xfl P) {h : AHeap} {b : Nat} (hb : nanB .f64 b = false) : RCall P 222 [.flt .f64 b] h (fun v _ => v = .flt .f64 (absB b)) := by
  refine .of T.mix T.c222 ?_
  unfold fn222
  have an : binK .andNot (.int .u64 (b : Int)) (.int .u64 9223372036854775808) = some (.int .u64 (IntKind.u64.wrap (BitVec.ofInt 64 (b : Int) &&& ~~~ BitVec.ofInt 64 9223372036854775808).toNat)) := rfl
  refine Wn ?_
  refine WF.val (v_bt X hb) ?_
  rintro v g ⟨rfl, hg⟩
  refine Ws @an ?_
  refine WF.val (v_fb X) ?_
  rintro v g ⟨rfl, hg⟩
  refine Wn ?_
  rfl
theorem clos_flt (k : FloatKind) (n : Nat) : clos 0 (.flt k n) := ⟨fun _ => none, .float k n, by simp, ⟨_, rfl, .inl rfl⟩⟩
def floorE (args : List AV) (_ : Nat → Option ABlk) : Option (AV × Eff) :=
  match args with
  | [.flt .f64 b] =>
    match nanB .f64 b with
    | false => some (.flt .f64 (floorV b), .keep)
    | true => none
  | _ => none
theorem floorE_ok {args : List AV} {h : AHeap} {v : AV} {e : Eff} (he : floorE args (fun b => h[b]?) = some (v, e)) : SCall Go.Proofs.Tryz.prog 198 args h v (e.app h) := by
  unfold floorE at he
  split at he
  · split at he
    · rename_i hb
      cases he
      exact (r198 tbl xfl hb).forget (clos_flt _ _)
    · cases he
  · cases he
def absE (args : List AV) (_ : Nat → Option ABlk) : Option (AV × Eff) :=
  match args with
  | [.flt .f64 b] =>
    match nanB .f64 b with
    | false => some (.flt .f64 (absB b), .keep)
    | true => none
  | _ => none
theorem absE_ok {args : List AV} {h : AHeap} {v : AV} {e : Eff} (he : absE args (fun b => h[b]?) = some (v, e)) : SCall Go.Proofs.Tryz.prog 222 args h v (e.app h) := by
  unfold absE at he
  split at he
  · split at he
    · rename_i hb
      cases he
      exact (r222 tbl xfl hb).forget (clos_flt _ _)
    · cases he
  · cases he
section
variable {P : Program}
/-- The frame: the package-level variables that a call looks at alone. -/
theorem SCall.frame2 {f : FuncId} {args : List AV} {h0 g h : AHeap} {v : AV} (hs : SCall P f args h0 v (h0 ++ g)) (hlen : h0.length = P.globals.size) (hcl : ∀ (b : Nat) (x : ABlk), h0[b]? = some x → closB h0.length x)
    (hargs : closL h0.length args) (hv : clos 0 v) (hag : ∀ (b : Nat) (x : ABlk), h0[b]? = some x → x = .dead ∨ h[b]? = some x) : SCall P f args h v h := by
  intro m w vs hr ha
  have hup : ∀ b e, m.upTo h0.length b = some e → b < h0.length ∧ m b = some e := fun b e hb => by
    unfold Emb.upTo at hb
    split at hb
    · exact ⟨by assumption, hb⟩
    · cases hb
  have hr0 : HR P (m.upTo h0.length) h0 w := by
    refine ⟨fun b e hb => (hup b e hb).1, fun b e k hb hk => ?_, fun b1 b2 e1 e2 k1 k2 hne h1 h2 hk1 hk2 hcb => ?_, fun b hb => ?_, fun b e hb => hr.lt b e (hup b e hb).2⟩
    · rcases hag b k hk with rfl | h1
      · trivial
      · exact (hr.blk b e k (hup b e hb).2 h1).cut (hcl b k hk)
    · rcases hag b1 k1 hk1 with rfl | g1
      · cases k2 <;> trivial
      · rcases hag b2 k2 hk2 with rfl | g2
        · cases k1 <;> trivial
        · exact hr.sep b1 b2 e1 e2 k1 k2 hne (hup _ _ h1).2 (hup _ _ h2).2 g1 g2 hcb
    · obtain ⟨e, he, hq⟩ := hr.glob b hb
      exact ⟨e, by unfold Emb.upTo; rw [if_pos (by omega)]; exact he, hq⟩
  obtain ⟨ma, va, hd, hva⟩ := hargs
  obtain ⟨mv, vv, hdv, hvv⟩ := hv
  rw [← callsIn_wide (n := 0)]
  have hc := hs (m.upTo h0.length) w vs hr0 (VRs.cut hd args va vs hva ha)
  rw [← callsIn_wide (n := 0)] at hc
  refine hc.mono ?_
  rintro e w' ⟨cv, m1, rfl, h1, h2, h3⟩
  have hframe : ∀ i, i < w.heap.size → w'.heap[i]? = w.heap[i]? := fun i hi => h3.frame i hi fun b e hb ho => by
    obtain ⟨hlt, hb⟩ := hup b e hb
    obtain ⟨e', he', _, _, hno, _⟩ := hr.glob b (by omega)
    rw [hb] at he'
    cases he'
    rw [hno] at ho; cases ho
  exact ⟨cv, m, rfl, VR.mono (Emb.upTo_zero m1 m) _ _ (VR.cut hdv v vv cv hvv h1), ⟨hr.dom, fun b e x hb hx => (hr.blk b e x hb hx).heap (hframe _ (hr.lt b e hb)), hr.sep, hr.glob, fun b e hb => Nat.lt_of_lt_of_le (hr.lt b e hb) h3.size⟩,
    ⟨fun _ _ => rfl, Nat.le_refl _, fun b e hb he => absurd (hr.dom b e he) (by omega), fun _ _ h => h, h3.size, h3.os, h3.out, h3.tape, fun i hi _ => hframe i hi⟩⟩
end
/-- Values that hold no reference, compared. -/
def eqW : AV → AV → Bool
  | .bool a, .bool b => a == b
  | .int k a, .int k' b => k == k' && a == b
  | .flt k a, .flt k' b => k == k' && Nat.beq a b
  | .cplx k a c, .cplx k' b d => k == k' && Nat.beq a b && Nat.beq c d
  | .str a, .str b => a == b
  | _, _ => false
def eqWs : List AV → List AV → Bool
  | [], [] => true
  | x :: r, y :: s => eqW x y && eqWs r s
  | _, _ => false
def eqV : AV → AV → Bool
  | .agg a, .agg b => eqWs a b
  | x, y => eqW x y
def eqVs : List AV → List AV → Bool
  | [], [] => true
  | x :: r, y :: s => eqV x y && eqVs r s
  | _, _ => false
def eqT : AV → AV → Bool
  | .tup a, .tup b => eqVs a b
  | x, y => eqV x y
theorem eqW_eq {x y : AV} (h : eqW x y = true) : x = y := by
  unfold eqW at h
  split at h
  · rw [beq_iff_eq.1 h]
  · simp only [Bool.and_eq_true, beq_iff_eq] at h; rw [h.1, h.2]
  · simp only [Bool.and_eq_true, beq_iff_eq] at h; rw [h.1, Nat.eq_of_beq_eq_true h.2]
  · simp only [Bool.and_eq_true, beq_iff_eq] at h; rw [h.1.1, Nat.eq_of_beq_eq_true h.1.2, Nat.eq_of_beq_eq_true h.2]
  · rw [beq_iff_eq.1 h]
  · cases h
theorem eqWs_eq : ∀ {x y : List AV}, eqWs x y = true → x = y
  | [], [], _ => rfl
  | x :: r, y :: s, h => by
    simp only [eqWs, Bool.and_eq_true] at h
    rw [eqW_eq h.1, eqWs_eq h.2]
  | [], _ :: _, h => by cases h
  | _ :: _, [], h => by cases h
theorem eqV_eq {x y : AV} (h : eqV x y = true) : x = y := by
  unfold eqV at h
  split at h
  · rw [eqWs_eq h]
  · exact eqW_eq h
theorem eqVs_eq : ∀ {x y : List AV}, eqVs x y = true → x = y
  | [], [], _ => rfl
  | x :: r, y :: s, h => by
    simp only [eqVs, Bool.and_eq_true] at h
    rw [eqV_eq h.1, eqVs_eq h.2]
  | [], _ :: _, h => by cases h
  | _ :: _, [], h => by cases h
theorem eqT_eq {x y : AV} (h : eqT x y = true) : x = y := by
  unfold eqT at h
  split at h
  · rw [eqVs_eq h]
  · exact eqV_eq h
/-- Does the call come to this value, the heap kept? -/
noncomputable def runsV (T : Tab) (n : Nat) (f : FuncId) (args : List AV) (h0 : AHeap) (v : AV) : Bool :=
  match run T n (.call f args) (Hp.of h0) with
  | some o => eqT o.v v && Nat.ble h0.length o.lo
  | none => false
theorem SCall.of_runV {P : Program} {T : Tab} (hmix : P.follows .mixedOrders = true) (ok : TabOk P T) {n : Nat} {f : FuncId} {args : List AV} {h0 : AHeap} {v : AV} (hrun : runsV T n f args h0 v = true) : ∃ g, SCall P f args h0 v (h0 ++ g) := by
  unfold runsV at hrun
  split at hrun
  case h_2 => cases hrun
  rename_i o ho
  simp only [Bool.and_eq_true] at hrun
  obtain ⟨hv, hlo⟩ := hrun
  obtain ⟨h', _, a2, a3, _⟩ := run_sound hmix ok n _ _ _ ho h0 (HpR.of h0)
  obtain ⟨g, rfl⟩ := a2.quiet (by simpa using Nat.le_of_ble_eq_true hlo)
  exact ⟨g, by rw [← eqT_eq hv]; exact a3⟩
end Go.Abs
namespace Go.Abs
def pairsP : List (Nat × AFunc) := [(60, fn60), (61, fn61), (108, fn108), (110, fn110), (111, fn111), (116, fn116), (117, fn117), (141, fn141), (142, fn142), (143, fn143), (144, fn144), (145, fn145), (146, fn146), (168, fn168), (183, fn183), (192, fn192), (193, fn193), (194, fn194), (195, fn195), (196, fn196), (197, fn197)]
def allOk (P : Program) : List (Nat × AFunc) → Prop
  | [] => True
  | p :: r => compileFn P p.1 = some p.2 ∧ allOk P r
theorem allOk.mem {P : Program} : ∀ {l : List (Nat × AFunc)}, allOk P l → ∀ p ∈ l, compileFn P p.1 = some p.2
  | [], _, p, hp => by simp at hp
  | q :: r, h, p, hp => by
    rcases List.mem_cons.1 hp with rfl | hp
    · exact h.1
    · exact h.2.mem p hp
noncomputable def ofPairs : List (Nat × AFunc) → Tr AFunc
  | [] => .nil
  | p :: r => (ofPairs r).set p.1 p.2
theorem ofPairs_get : ∀ {l : List (Nat × AFunc)} {f : Nat} {A : AFunc}, (ofPairs l).get f = some A → (f, A) ∈ l
  | [], f, A, h => by simp [ofPairs, Tr.get_nil] at h
  | p :: r, f, A, h => by
    rw [ofPairs, Tr.get_set] at h
    split at h
    · rename_i hf; cases h; subst hf; exact List.mem_cons_self
    · exact List.mem_cons_of_mem _ (ofPairs_get h)
theorem pairsP_ok : allOk Go.Proofs.Tryz.prog pairsP := ⟨k60, k61, k108, k110, k111, k116, k117, k141, k142, k143, k144, k145, k146, k168, k183, k192, k193, k194, k195, k196, k197, trivial⟩
set_option maxRecDepth 1000000 in
def tabP : Tr AFunc := (.node none (.node none (.node none (.node none (.node none .nil (.node none (.node none (.node (some fn143) .nil .nil) .nil) (.node (some fn111) .nil .nil))) (.node none .nil (.node none .nil (.node none (.node (some fn183) .nil .nil) .nil)))) (.node none (.node none (.node none (.node none .nil (.node (some fn195) .nil .nil)) .nil) .nil) .nil)) (.node none (.node none (.node none (.node none (.node none .nil (.node (some fn193) .nil .nil)) .nil) (.node none (.node none (.node (some fn145) .nil .nil) .nil) .nil)) .nil) (.node none (.node none (.node none (.node none .nil (.node (some fn197) .nil .nil)) .nil) (.node none .nil (.node (some fn117) .nil .nil))) (.node none (.node none (.node none (.node (some fn141) .nil .nil) .nil) .nil) (.node (some fn61) .nil .nil))))) (.node none (.node none (.node none (.node none (.node none (.node none .nil (.node (some fn192) .nil .nil)) .nil) (.node none (.node none (.node (some fn144) .nil .nil) .nil) .nil)) (.node none (.node none .nil (.node none (.node (some fn168) .nil .nil) .nil)) .nil)) (.node none (.node none (.node none (.node none .nil (.node (some fn196) .nil .nil)) .nil) (.node none .nil (.node (some fn116) .nil .nil))) (.node none (.node none .nil (.node (some fn108) .nil .nil)) (.node (some fn60) .nil .nil)))) (.node none (.node none (.node none (.node none (.node none .nil (.node (some fn194) .nil .nil)) .nil) (.node none (.node none (.node (some fn146) .nil .nil) .nil) .nil)) .nil) (.node none .nil (.node none (.node none (.node none (.node (some fn142) .nil .nil) .nil) (.node (some fn110) .nil .nil)) .nil)))))
set_option maxRecDepth 1000000 in
theorem tabP_eq : ofPairs pairsP = tabP := by kernel_rfl
def extP (f : Nat) (args : List AV) (G : Nat → Option ABlk) (_N : Nat) : Option (AV × Eff) :=
  match Nat.beq f 198 with
  | true => floorE args G
  | false =>
    match Nat.beq f 222 with
    | true => absE args G
    | false => none
def tabEP : Tab := { fns := tabP, ext := extP }
theorem tabEP_ok : TabOk Go.Proofs.Tryz.prog tabEP where
  fns := fun f A h => by
    have h' : (ofPairs pairsP).get f = some A := by rw [tabP_eq]; exact h
    have h2 := pairsP_ok.mem _ (ofPairs_get h')
    exact h2
  ext := fun f args h v e he => by
    have he' : extP f args (fun b => h[b]?) h.length = some (v, e) := he
    unfold extP at he'
    split at he'
    · rename_i hf
      obtain rfl := Nat.eq_of_beq_eq_true hf
      exact ⟨floorE_ok he', _, k198⟩
    ·
      split at he'
      · rename_i hf
        obtain rfl := Nat.eq_of_beq_eq_true hf
        exact ⟨absE_ok he', _, k222⟩
      · cases he'
/-- The powers of i alone. -/
def powB : ABlk := .cells [.int .i64 1, .int .i64 0, .int .i64 0, .int .i64 1, .int .i64 (-1), .int .i64 0, .int .i64 0, .int .i64 (-1)] false false
def globP : AHeap := powB :: List.replicate 10 .dead
def trcV : AV := .agg [.flt .f32 1065353216, .flt .f32 0, .flt .f32 0, .flt .f32 0, .flt .f32 1065353216, .flt .f32 0, .flt .f32 0, .flt .f32 0, .flt .f32 1065353216, .flt .f32 0, .flt .f32 0, .flt .f32 0, .flt .f32 1065353216, .flt .f32 0, .flt .f32 0, .flt .f32 0]
def pnlV : AV := .agg [.cplx .f32 1082130432 0, .cplx .f32 0 0, .cplx .f32 0 0, .cplx .f32 0 0, .cplx .f32 1082130432 0, .cplx .f32 0 0, .cplx .f32 0 0, .cplx .f32 0 0, .cplx .f32 1082130432 0, .cplx .f32 0 0, .cplx .f32 0 0, .cplx .f32 0 0, .cplx .f32 1082130432 0, .cplx .f32 0 0, .cplx .f32 0 0, .cplx .f32 0 0]
set_option maxRecDepth 1000000 in
theorem panel_runs : runsV tabEP 100000000 60 [trcV] globP (.tup [pnlV, .int .i64 0]) = true := by decide +kernel
end Go.Abs
namespace Go.Abs
set_option maxRecDepth 1000000 in
theorem unpanel_runs : runsV tabEP 100000000 61 [pnlV] globP (.tup [trcV, .int .i64 0]) = true := by decide +kernel
def isIntA : AV → Bool
  | .int _ _ => true
  | _ => false
theorem closB_ints {n : Nat} {c : List AV} {mu tl : Bool} (h : c.all isIntA = true) : closB n (.cells c mu tl) := fun i x hx => by
  have := List.all_eq_true.1 h x (List.mem_of_getElem? hx)
  cases x with
  | int k z => exact (clos_int k z).mono (Nat.zero_le _)
  | _ => cases this
theorem globP_len : globP.length = Go.Proofs.Tryz.prog.globals.size := by kernel_rfl
theorem globP_at {b : Nat} {x : ABlk} (hb : globP[b]? = some x) : x = .dead ∨ b = 0 ∧ x = powB := by
  cases b with
  | zero => right; unfold globP at hb; simp only [List.getElem?_cons_zero, Option.some.injEq] at hb; exact ⟨rfl, hb.symm⟩
  | succ b =>
    left
    unfold globP at hb
    rw [List.getElem?_cons_succ, List.getElem?_replicate] at hb
    split at hb
    · cases hb; rfl
    · cases hb
theorem globP_clos (b : Nat) (x : ABlk) (hb : globP[b]? = some x) : closB globP.length x := by
  rcases globP_at hb with rfl | ⟨_, rfl⟩
  · trivial
  · exact closB_ints (by decide)
theorem clos_flts : clos 0 trcV := ⟨fun _ => none, .agg ⟨[.float .f32 1065353216, .float .f32 0, .float .f32 0, .float .f32 0, .float .f32 1065353216, .float .f32 0, .float .f32 0, .float .f32 0, .float .f32 1065353216, .float .f32 0, .float .f32 0, .float .f32 0, .float .f32 1065353216, .float .f32 0, .float .f32 0, .float .f32 0]⟩, by simp, ⟨_, rfl, VRs_cons.2 ⟨_, _, rfl, ⟨_, rfl, .inl rfl⟩, VRs_cons.2 ⟨_, _, rfl, ⟨_, rfl, .inl rfl⟩, VRs_cons.2 ⟨_, _, rfl, ⟨_, rfl, .inl rfl⟩, VRs_cons.2 ⟨_, _, rfl, ⟨_, rfl, .inl rfl⟩, VRs_cons.2 ⟨_, _, rfl, ⟨_, rfl, .inl rfl⟩, VRs_cons.2 ⟨_, _, rfl, ⟨_, rfl, .inl rfl⟩, VRs_cons.2 ⟨_, _, rfl, ⟨_, rfl, .inl rfl⟩, VRs_cons.2 ⟨_, _, rfl, ⟨_, rfl, .inl rfl⟩, VRs_cons.2 ⟨_, _, rfl, ⟨_, rfl, .inl rfl⟩, VRs_cons.2 ⟨_, _, rfl, ⟨_, rfl, .inl rfl⟩, VRs_cons.2 ⟨_, _, rfl, ⟨_, rfl, .inl rfl⟩, VRs_cons.2 ⟨_, _, rfl, ⟨_, rfl, .inl rfl⟩, VRs_cons.2 ⟨_, _, rfl, ⟨_, rfl, .inl rfl⟩, VRs_cons.2 ⟨_, _, rfl, ⟨_, rfl, .inl rfl⟩, VRs_cons.2 ⟨_, _, rfl, ⟨_, rfl, .inl rfl⟩, VRs_cons.2 ⟨_, _, rfl, ⟨_, rfl, .inl rfl⟩, rfl⟩⟩⟩⟩⟩⟩⟩⟩⟩⟩⟩⟩⟩⟩⟩⟩⟩⟩
theorem clos_cxs : clos 0 pnlV := ⟨fun _ => none, .agg ⟨[.complex .f32 1082130432 0, .complex .f32 0 0, .complex .f32 0 0, .complex .f32 0 0, .complex .f32 1082130432 0, .complex .f32 0 0, .complex .f32 0 0, .complex .f32 0 0, .complex .f32 1082130432 0, .complex .f32 0 0, .complex .f32 0 0, .complex .f32 0 0, .complex .f32 1082130432 0, .complex .f32 0 0, .complex .f32 0 0, .complex .f32 0 0]⟩, by simp, ⟨_, rfl, VRs_cons.2 ⟨_, _, rfl, ⟨_, _, rfl, .inl rfl, .inl rfl⟩, VRs_cons.2 ⟨_, _, rfl, ⟨_, _, rfl, .inl rfl, .inl rfl⟩, VRs_cons.2 ⟨_, _, rfl, ⟨_, _, rfl, .inl rfl, .inl rfl⟩, VRs_cons.2 ⟨_, _, rfl, ⟨_, _, rfl, .inl rfl, .inl rfl⟩, VRs_cons.2 ⟨_, _, rfl, ⟨_, _, rfl, .inl rfl, .inl rfl⟩, VRs_cons.2 ⟨_, _, rfl, ⟨_, _, rfl, .inl rfl, .inl rfl⟩, VRs_cons.2 ⟨_, _, rfl, ⟨_, _, rfl, .inl rfl, .inl rfl⟩, VRs_cons.2 ⟨_, _, rfl, ⟨_, _, rfl, .inl rfl, .inl rfl⟩, VRs_cons.2 ⟨_, _, rfl, ⟨_, _, rfl, .inl rfl, .inl rfl⟩, VRs_cons.2 ⟨_, _, rfl, ⟨_, _, rfl, .inl rfl, .inl rfl⟩, VRs_cons.2 ⟨_, _, rfl, ⟨_, _, rfl, .inl rfl, .inl rfl⟩, VRs_cons.2 ⟨_, _, rfl, ⟨_, _, rfl, .inl rfl, .inl rfl⟩, VRs_cons.2 ⟨_, _, rfl, ⟨_, _, rfl, .inl rfl, .inl rfl⟩, VRs_cons.2 ⟨_, _, rfl, ⟨_, _, rfl, .inl rfl, .inl rfl⟩, VRs_cons.2 ⟨_, _, rfl, ⟨_, _, rfl, .inl rfl, .inl rfl⟩, VRs_cons.2 ⟨_, _, rfl, ⟨_, _, rfl, .inl rfl, .inl rfl⟩, rfl⟩⟩⟩⟩⟩⟩⟩⟩⟩⟩⟩⟩⟩⟩⟩⟩⟩⟩
theorem clos_res {v : AV} (h : clos 0 v) : clos 0 (.tup [v, .int .i64 0]) := by
  obtain ⟨ma, va, hd, hv⟩ := h
  exact ⟨ma, .tuple ⟨[va, .int .i64 0]⟩, hd, _, rfl, VRs_cons.2 ⟨_, _, rfl, hv, VRs_cons.2 ⟨_, _, rfl, rfl, rfl⟩⟩⟩
theorem clos_arg {v : AV} {n : Nat} (h : clos 0 v) : closL n [v] := by
  obtain ⟨ma, va, hd, hv⟩ := h
  exact ⟨ma, [va], fun b e hb => absurd (hd b e hb) (by omega), _, _, rfl, hv, rfl⟩
theorem globP_agree {h : AHeap} (h0 : h[0]? = some powB) (b : Nat) (x : ABlk) (hb : globP[b]? = some x) : x = .dead ∨ h[b]? = some x := by
  rcases globP_at hb with rfl | ⟨rfl, rfl⟩
  · exact .inl rfl
  · exact .inr h0
theorem panel_ok {h : AHeap} (h0 : h[0]? = some powB) : SCall Go.Proofs.Tryz.prog 60 [trcV] h (.tup [pnlV, .int .i64 0]) h := by
  obtain ⟨g, hs⟩ := SCall.of_runV tmix tabEP_ok panel_runs
  exact hs.frame2 globP_len globP_clos (clos_arg clos_flts) (clos_res clos_cxs) (globP_agree h0)
theorem unpanel_ok {h : AHeap} (h0 : h[0]? = some powB) : SCall Go.Proofs.Tryz.prog 61 [pnlV] h (.tup [trcV, .int .i64 0]) h := by
  obtain ⟨g, hs⟩ := SCall.of_runV tmix tabEP_ok unpanel_runs
  exact hs.frame2 globP_len globP_clos (clos_arg clos_cxs) (clos_res clos_flts) (globP_agree h0)
def isPow : Option ABlk → Bool
  | some (.cells c false false) => isInts .i64 c [1, 0, 0, 1, -1, 0, 0, -1]
  | _ => false
theorem isPow_eq {o : Option ABlk} (h : isPow o = true) : o = some powB := by
  unfold isPow at h
  split at h
  · rw [isInts_ok h]; rfl
  · cases h
def panelE (args : List AV) (G : Nat → Option ABlk) : Option (AV × Eff) :=
  match args with
  | [x] =>
    match eqV x trcV && isPow (G 0) with
    | true => some (.tup [pnlV, .int .i64 0], .keep)
    | false => none
  | _ => none
theorem panelE_ok {args : List AV} {h : AHeap} {v : AV} {e : Eff} (he : panelE args (fun b => h[b]?) = some (v, e)) : SCall Go.Proofs.Tryz.prog 60 args h v (e.app h) := by
  unfold panelE at he
  split at he
  · split at he
    · rename_i hb
      cases he
      rw [Bool.and_eq_true] at hb
      rw [eqV_eq hb.1]
      exact panel_ok (isPow_eq hb.2)
    · cases he
  · cases he
def unpanelE (args : List AV) (G : Nat → Option ABlk) : Option (AV × Eff) :=
  match args with
  | [x] =>
    match eqV x pnlV && isPow (G 0) with
    | true => some (.tup [trcV, .int .i64 0], .keep)
    | false => none
  | _ => none
theorem unpanelE_ok {args : List AV} {h : AHeap} {v : AV} {e : Eff} (he : unpanelE args (fun b => h[b]?) = some (v, e)) : SCall Go.Proofs.Tryz.prog 61 args h v (e.app h) := by
  unfold unpanelE at he
  split at he
  · split at he
    · rename_i hb
      cases he
      rw [Bool.and_eq_true] at hb
      rw [eqV_eq hb.1]
      exact unpanel_ok (isPow_eq hb.2)
    · cases he
  · cases he
end Go.Abs
namespace Go.Abs
def pairsL : List (Nat × AFunc) := [(17, fn17), (20, fn20), (23, fn23), (24, fn24), (25, fn25), (34, fn34), (36, fn36), (37, fn37), (38, fn38), (46, fn46), (47, fn47), (52, fn52), (56, fn56), (58, fn58), (62, fn62), (66, fn66), (67, fn67), (76, fn76), (77, fn77), (79, fn79), (80, fn80), (98, fn98), (102, fn102), (104, fn104), (105, fn105), (106, fn106), (107, fn107), (108, fn108), (109, fn109), (110, fn110), (111, fn111), (116, fn116), (117, fn117), (118, fn118), (119, fn119), (120, fn120), (121, fn121), (122, fn122), (123, fn123), (124, fn124), (125, fn125), (126, fn126), (127, fn127), (128, fn128), (129, fn129), (130, fn130), (133, fn133), (134, fn134), (135, fn135), (136, fn136), (137, fn137), (138, fn138), (139, fn139), (140, fn140), (141, fn141), (142, fn142), (144, fn144), (145, fn145), (146, fn146), (148, fn148), (149, fn149), (150, fn150), (151, fn151), (156, fn156), (157, fn157), (168, fn168), (174, fn174), (180, fn180), (181, fn181), (182, fn182), (183, fn183), (184, fn184), (185, fn185), (186, fn186), (188, fn188), (189, fn189), (190, fn190), (191, fn191), (192, fn192), (193, fn193), (194, fn194), (195, fn195), (196, fn196), (197, fn197), (199, fn199), (217, fn217), (218, fn218), (219, fn219), (220, fn220), (221, fn221), (236, fn236), (237, fn237), (238, fn238), (239, fn239), (240, fn240), (241, fn241), (242, fn242), (243, fn243), (244, fn244), (245, fn245), (246, fn246), (267, fn267), (268, fn268), (269, fn269), (270, fn270), (271, fn271), (287, fn287)]
theorem pairsL_ok : allOk Go.Proofs.Tryz.prog pairsL := ⟨k17, k20, k23, k24, k25, k34, k36, k37, k38, k46, k47, k52, k56, k58, k62, k66, k67, k76, k77, k79, k80, k98, k102, k104, k105, k106, k107, k108, k109, k110, k111, k116, k117, k118, k119, k120, k121, k122, k123, k124, k125, k126, k127, k128, k129, k130, k133, k134, k135, k136, k137, k138, k139, k140, k141, k142, k144, k145, k146, k148, k149, k150, k151, k156, k157, k168, k174, k180, k181, k182, k183, k184, k185, k186, k188, k189, k190, k191, k192, k193, k194, k195, k196, k197, k199, k217, k218, k219, k220, k221, k236, k237, k238, k239, k240, k241, k242, k243, k244, k245, k246, k267, k268, k269, k270, k271, k287, trivial⟩
set_option maxRecDepth 1000000 in
def tabL : Tr AFunc := (.node none (.node none (.node none (.node none (.node none (.node none (.node none (.node (some fn127) .nil .nil) (.node (some fn191) .nil .nil)) (.node none (.node none (.node (some fn287) .nil .nil) .nil) .nil)) (.node (some fn47) (.node (some fn79) (.node none (.node (some fn271) .nil .nil) .nil) .nil) (.node (some fn111) .nil (.node (some fn239) .nil .nil)))) (.node (some fn23) (.node none (.node none (.node (some fn135) .nil .nil) (.node (some fn199) .nil .nil)) .nil) (.node none (.node none (.node (some fn151) .nil .nil) .nil) (.node (some fn119) (.node (some fn183) .nil .nil) .nil)))) (.node none (.node none (.node none (.node (some fn67) .nil (.node (some fn195) .nil .nil)) .nil) (.node none .nil (.node none .nil (.node (some fn243) .nil .nil)))) (.node none (.node none (.node none (.node (some fn139) (.node (some fn267) .nil .nil) .nil) .nil) (.node (some fn107) .nil .nil)) (.node none (.node none .nil (.node (some fn219) .nil .nil)) (.node (some fn123) .nil .nil))))) (.node none (.node none (.node (some fn17) (.node none (.node none (.node (some fn129) .nil .nil) (.node (some fn193) .nil .nil)) .nil) (.node none (.node none (.node (some fn145) .nil .nil) .nil) (.node none .nil (.node (some fn241) .nil .nil)))) (.node (some fn25) (.node none (.node none (.node (some fn137) .nil .nil) .nil) (.node (some fn105) .nil .nil)) (.node none (.node none .nil (.node (some fn217) .nil .nil)) (.node (some fn121) (.node (some fn185) .nil .nil) .nil)))) (.node none (.node none (.node (some fn37) (.node none (.node (some fn133) .nil .nil) (.node (some fn197) .nil .nil)) .nil) (.node none (.node none (.node (some fn149) .nil .nil) .nil) (.node (some fn117) (.node (some fn181) .nil .nil) (.node (some fn245) .nil .nil)))) (.node none (.node none (.node (some fn77) (.node (some fn141) (.node (some fn269) .nil .nil) .nil) .nil) (.node (some fn109) .nil (.node (some fn237) .nil .nil))) (.node none (.node none (.node (some fn157) .nil .nil) (.node (some fn221) .nil .nil)) (.node (some fn125) (.node (some fn189) .nil .nil) .nil)))))) (.node none (.node none (.node none (.node none (.node none (.node none (.node (some fn128) .nil .nil) (.node (some fn192) .nil .nil)) .nil) (.node none (.node (some fn80) (.node (some fn144) .nil .nil) .nil) (.node none .nil (.node (some fn240) .nil .nil)))) (.node (some fn24) (.node none (.node none (.node (some fn136) .nil .nil) .nil) (.node (some fn104) (.node (some fn168) .nil .nil) .nil)) (.node (some fn56) .nil (.node (some fn120) (.node (some fn184) .nil .nil) .nil)))) (.node none (.node (some fn20) (.node (some fn36) (.node none .nil (.node (some fn196) .nil .nil)) .nil) (.node (some fn52) (.node none (.node (some fn148) .nil .nil) .nil) (.node (some fn116) (.node (some fn180) .nil .nil) (.node (some fn244) .nil .nil)))) (.node none (.node none (.node (some fn76) (.node (some fn140) (.node (some fn268) .nil .nil) .nil) .nil) (.node (some fn108) .nil (.node (some fn236) .nil .nil))) (.node none (.node none (.node (some fn156) .nil .nil) (.node (some fn220) .nil .nil)) (.node (some fn124) (.node (some fn188) .nil .nil) .nil))))) (.node none (.node none (.node none (.node (some fn34) (.node (some fn66) (.node (some fn130) .nil .nil) (.node (some fn194) .nil .nil)) (.node (some fn98) .nil .nil)) (.node none (.node none (.node (some fn146) .nil .nil) .nil) (.node none .nil (.node (some fn242) .nil .nil)))) (.node none (.node none (.node none (.node (some fn138) .nil .nil) .nil) (.node (some fn106) .nil .nil)) (.node (some fn58) (.node none .nil (.node (some fn218) .nil .nil)) (.node (some fn122) (.node (some fn186) .nil .nil) .nil)))) (.node none (.node none (.node (some fn38) (.node none (.node (some fn134) .nil .nil) .nil) (.node (some fn102) .nil .nil)) (.node none (.node none (.node (some fn150) .nil .nil) .nil) (.node (some fn118) (.node (some fn182) .nil .nil) (.node (some fn246) .nil .nil)))) (.node none (.node (some fn46) (.node none (.node (some fn142) (.node (some fn270) .nil .nil) .nil) .nil) (.node (some fn110) (.node (some fn174) .nil .nil) (.node (some fn238) .nil .nil))) (.node (some fn62) .nil (.node (some fn126) (.node (some fn190) .nil .nil) .nil)))))))
set_option maxRecDepth 1000000 in
theorem tabL_eq : ofPairs pairsL = tabL := by kernel_rfl
def extE (f : Nat) (args : List AV) (G : Nat → Option ABlk) (_N : Nat) : Option (AV × Eff) :=
  match Nat.beq f 173 with
  | true => joinE args G
  | false =>
    match Nat.beq f 175 with
    | true => itoaE args G
    | false =>
      match Nat.beq f 198 with
      | true => floorE args G
      | false =>
        match Nat.beq f 222 with
        | true => absE args G
        | false =>
          match Nat.beq f 60 with
          | true => panelE args G
          | false =>
            match Nat.beq f 61 with
            | true => unpanelE args G
            | false => none
def tabE : Tab := { fns := tabL, ext := extE }
theorem tabE_ok : TabOk Go.Proofs.Tryz.prog tabE where
  fns := fun f A h => by
    have h' : (ofPairs pairsL).get f = some A := by rw [tabL_eq]; exact h
    have h2 := pairsL_ok.mem _ (ofPairs_get h')
    exact h2
  ext := fun f args h v e he => by
    have he' : extE f args (fun b => h[b]?) h.length = some (v, e) := he
    unfold extE at he'
    split at he'
    · rename_i hf
      obtain rfl := Nat.eq_of_beq_eq_true hf
      exact ⟨joinE_ok he', _, k173⟩
    ·
      split at he'
      · rename_i hf
        obtain rfl := Nat.eq_of_beq_eq_true hf
        exact ⟨itoaE_ok he', _, k175⟩
      ·
        split at he'
        · rename_i hf
          obtain rfl := Nat.eq_of_beq_eq_true hf
          exact ⟨floorE_ok he', _, k198⟩
        ·
          split at he'
          · rename_i hf
            obtain rfl := Nat.eq_of_beq_eq_true hf
            exact ⟨absE_ok he', _, k222⟩
          ·
            split at he'
            · rename_i hf
              obtain rfl := Nat.eq_of_beq_eq_true hf
              exact ⟨panelE_ok he', _, k60⟩
            ·
              split at he'
              · rename_i hf
                obtain rfl := Nat.eq_of_beq_eq_true hf
                exact ⟨unpanelE_ok he', _, k61⟩
              · cases he'
/-- The package-level variables that are laid. -/
def glob0 : AHeap := [powB, .dead, .dead, .dead, .cells [.int .u64 1, .int .u64 10, .int .u64 100, .int .u64 1000, .int .u64 10000, .int .u64 100000, .int .u64 1000000, .int .u64 10000000, .int .u64 100000000, .int .u64 1000000000, .int .u64 10000000000, .int .u64 100000000000, .int .u64 1000000000000, .int .u64 10000000000000, .int .u64 100000000000000, .int .u64 1000000000000000, .int .u64 10000000000000000, .int .u64 100000000000000000, .int .u64 1000000000000000000, .int .u64 10000000000000000000] false false, .dead, .dead, .dead, .dead, .cells [.int .u8 0, .int .u8 1, .int .u8 28, .int .u8 2, .int .u8 29, .int .u8 14, .int .u8 24, .int .u8 3, .int .u8 30, .int .u8 22, .int .u8 20, .int .u8 15, .int .u8 25, .int .u8 17, .int .u8 4, .int .u8 8, .int .u8 31, .int .u8 27, .int .u8 13, .int .u8 23, .int .u8 21, .int .u8 19, .int .u8 16, .int .u8 7, .int .u8 26, .int .u8 12, .int .u8 18, .int .u8 6, .int .u8 11, .int .u8 5, .int .u8 10, .int .u8 9] false false, .cells [.int .u8 0, .int .u8 1, .int .u8 56, .int .u8 2, .int .u8 57, .int .u8 49, .int .u8 28, .int .u8 3, .int .u8 61, .int .u8 58, .int .u8 42, .int .u8 50, .int .u8 38, .int .u8 29, .int .u8 17, .int .u8 4, .int .u8 62, .int .u8 47, .int .u8 59, .int .u8 36, .int .u8 45, .int .u8 43, .int .u8 51, .int .u8 22, .int .u8 53, .int .u8 39, .int .u8 33, .int .u8 30, .int .u8 24, .int .u8 18, .int .u8 12, .int .u8 5, .int .u8 63, .int .u8 55, .int .u8 48, .int .u8 27, .int .u8 60, .int .u8 41, .int .u8 37, .int .u8 16, .int .u8 46, .int .u8 35, .int .u8 44, .int .u8 21, .int .u8 52, .int .u8 32, .int .u8 23, .int .u8 11, .int .u8 54, .int .u8 26, .int .u8 40, .int .u8 15, .int .u8 34, .int .u8 20, .int .u8 31, .int .u8 10, .int .u8 25, .int .u8 14, .int .u8 19, .int .u8 9, .int .u8 13, .int .u8 8, .int .u8 7, .int .u8 6] false false]
set_option maxRecDepth 1000000 in
theorem awake_runs : runsTo tabE 100000000 17 [] glob0 true = true := by decide +kernel
theorem glob0_clos (b : Nat) (x : ABlk) (hb : glob0[b]? = some x) : closB glob0.length x := by
  have hx := List.mem_of_getElem? hb
  simp only [glob0, List.mem_cons, List.not_mem_nil, or_false] at hx
  rcases hx with rfl | rfl | rfl | rfl | rfl | rfl | rfl | rfl | rfl | rfl | rfl <;> first | exact closB_ints (by decide) | trivial
theorem glob0_len : glob0.length = Go.Proofs.Tryz.prog.globals.size := by kernel_rfl
end Go.Abs
