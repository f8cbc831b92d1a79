/- The abstract layer, part XA: regions in which nothing is made and nothing called, and whose stores meet no other load or store: any order. No condition. -/
import Derived.Test.YtfcfelnabfaelaaDoorKl2
set_option linter.all false
namespace Go.Abs

/-- What an operation has to do with the heap. -/
inductive Acc where
  | no
  | rd (b : Nat)
  | wr (b : Nat) (k : ABlk)

def Acc.blk : Acc → Option Nat
  | .no => none
  | .rd b => some b
  | .wr b _ => some b
def Acc.app (h : AHeap) : Acc → AHeap
  | .wr b k => h.set b k
  | _ => h

theorem pure_step {k} (hk : pureK k = true) {ρ} {G G'} {N N'} : stepT k ρ G N = stepT k ρ G' N' := by
  cases k <;> first | (cases hk; done) | rfl | skip
  case conv c x => cases c <;> first | (cases hk; done) | rfl
  case len lk x =>
    have hl : lk ≠ .mp := fun e => by rw [e] at hk; cases hk
    have e : lenG lk G (ρ x) = lenG lk G' (ρ x) := by
      cases lk <;> first | exact absurd rfl hl | skip
      all_goals
        cases ρ x <;> first | rfl | (simp only [lenG, reduceCtorEq, if_false]; repeat' split) <;> rfl
    simp only [stepT, fnT, e]
theorem load_step {n} {a} {ρ} {G G'} {N N' b o} (ha : ρ a = .ptr b o) (hb : G b = G' b) : stepT (.load n a) ρ G N = stepT (.load n a) ρ G' N' := by
  simp only [stepT, fnT, ha, hb]
theorem store_step {n} {a x} {ρ} {G G'} {N N' b o} (ha : ρ a = .ptr b o) (hb : G b = G' b) : stepT (.store n a x) ρ G N = stepT (.store n a x) ρ G' N' := by
  simp only [stepT, fnT, ha, hb]

/-- One operation of such a region. -/
def PStep (o : IOp) (ts : TS) (h : AHeap) (v : AV) (c : Acc) : Prop :=
  (¬ wanted o.gd ts ∧ c = .no ∧ v = undefA) ∨ wanted o.gd ts ∧ ((pureK o.k = true ∧ c = .no ∧ stepT o.k (val ts) (fun z => h[z]?) h.length = some (v, .keep)) ∨
    (∃ n a b off, o.k = .load n a ∧ val ts a = .ptr b off ∧ c = .rd b ∧ stepT o.k (val ts) (fun z => h[z]?) h.length = some (v, .keep)) ∨
    (∃ n a x b off k, o.k = .store n a x ∧ val ts a = .ptr b off ∧ c = .wr b k ∧ stepT o.k (val ts) (fun z => h[z]?) h.length = some (v, .set b k)))

theorem PStep.run {P} {o} {ts} {h g} {v} {c} (hs : PStep o ts h v c) (hb : ∀ b, c.blk = some b → g[b]? = h[b]?) : IStep P o ts g (put ts o.dst v) (c.app g) := by
  rcases hs with ⟨hw, rfl, rfl⟩ | ⟨hw, hs⟩
  · exact .skip hw
  rcases hs with ⟨hp, rfl, hs⟩ | ⟨n, a, b, off, hk, ha, rfl, hs⟩ | ⟨n, a, x, b, off, k, hk, ha, rfl, hs⟩
  · refine .run hw ?_ ?_
    · cases hk : o.k <;> rw [hk] at hp <;> first | (cases hp; done) | trivial
    · rw [pure_step hp (G' := fun z => g[z]?) (N' := g.length)] at hs
      have := stepT_ok hs
      cases hk : o.k <;> rw [hk] at hp this <;> first | (cases hp; done) | exact this
  · rw [hk] at hs
    rw [load_step ha (G' := fun z => g[z]?) (N' := g.length) (hb b rfl).symm] at hs
    refine .run hw (by rw [hk]; trivial) ?_
    rw [hk]
    exact stepT_ok hs
  · rw [hk] at hs
    rw [store_step ha (G' := fun z => g[z]?) (N' := g.length) (hb b rfl).symm] at hs
    refine .run hw (by rw [hk]; trivial) ?_
    rw [hk]
    exact stepT_ok hs

def PRow : List IOp → TS → AHeap → List Acc → TS → Prop
  | [], ts, _, cs, ts' => cs = [] ∧ ts' = ts
  | o :: r, ts, h, cs, ts' => ∃ v c cs1, PStep o ts h v c ∧ cs = c :: cs1 ∧ PRow r (put ts o.dst v) h cs1 ts'

theorem PRow.row {h} : ∀ {l} {ts ts'} {cs}, PRow l ts h cs ts' → ∃ T : Nat → TS, T 0 = ts ∧ T l.length = ts' ∧ cs.length = l.length ∧ ∀ j o, l[j]? = some o → ∃ v c, cs[j]? = some c ∧ PStep o (T j) h v c ∧ T (j + 1) = put (T j) o.dst v
  | [], ts, ts', cs, hs => by
    obtain ⟨rfl, rfl⟩ := hs
    exact ⟨fun _ => ts', rfl, rfl, rfl, fun j o ho => by simp at ho⟩
  | o :: r, ts, ts', cs, hs => by
    obtain ⟨v, c, cs1, hst, rfl, hr⟩ := hs
    obtain ⟨T, hT, hT', hl, hrow⟩ := hr.row
    refine ⟨fun i => match i with | 0 => ts | i + 1 => T i, rfl, hT', by simp [hl], fun j x hx => ?_⟩
    cases j with
    | zero => simp at hx; subst hx; exact ⟨v, c, rfl, hst, hT⟩
    | succ j =>
      obtain ⟨v', c', h1, h2, h3⟩ := hrow j x (by simpa using hx)
      exact ⟨v', c', by simpa using h1, h2, h3⟩

def accApp : AHeap → List Acc → AHeap
  | h, [] => h
  | h, c :: cs => accApp (c.app h) cs
/-- What is stored meets no other load or store. -/
def accOk : List Acc → Prop
  | [] => True
  | c :: cs => (∀ b, c.blk = some b → ∀ x ∈ cs, x.blk = some b → ∀ k k', c = Acc.wr b k ∨ x = Acc.wr b k' → False) ∧ accOk cs

theorem accOk.ne : ∀ {cs : List Acc}, accOk cs → ∀ {i j b : Nat} {k : ABlk} {c : Acc}, cs[i]? = some (.wr b k) → i ≠ j → cs[j]? = some c → c.blk ≠ some b
  | [], _, i, j, b, k, c, h1, _, _ => by simp at h1
  | x :: xs, h, i, j, b, k, c, h1, hij, h2 => by
    intro hc
    cases i with
    | zero =>
      simp at h1; subst h1
      cases j with
      | zero => exact hij rfl
      | succ j => exact h.1 b rfl c (List.mem_of_getElem? (by simpa using h2)) hc k k (.inl rfl)
    | succ i =>
      cases j with
      | zero =>
        simp at h2; subst h2
        exact h.1 b hc _ (List.mem_of_getElem? (by simpa using h1)) rfl k k (.inr rfl)
      | succ j => exact accOk.ne h.2 (i := i) (j := j) (by simpa using h1) (by omega) (by simpa using h2) hc

theorem app_len (h : AHeap) (c : Acc) : (c.app h).length = h.length := by cases c <;> simp [Acc.app]
theorem app_ne {h : AHeap} {c : Acc} {b : Nat} (hb : ∀ k, c = .wr b k → False) : (c.app h)[b]? = h[b]? := by
  cases c with
  | wr b' k =>
    have : b' ≠ b := fun e => hb k (by rw [e])
    simp [Acc.app, List.getElem?_set_ne this]
  | _ => rfl
theorem accApp_ne : ∀ {cs : List Acc} {h : AHeap} {b : Nat}, (∀ (j : Nat) (k : ABlk), cs[j]? = some (Acc.wr b k) → False) → (accApp h cs)[b]? = h[b]?
  | [], h, b, _ => rfl
  | c :: cs, h, b, hb => by
    rw [accApp, accApp_ne (fun j k hj => hb (j + 1) k (by simpa using hj))]
    exact app_ne fun k hk => hb 0 k (by simp [hk])
theorem accApp_wr : ∀ {cs : List Acc} {h : AHeap}, accOk cs → ∀ {j b : Nat} {k : ABlk}, b < h.length → cs[j]? = some (.wr b k) → (accApp h cs)[b]? = some k
  | [], h, _, j, b, k, _, hj => by simp at hj
  | c :: cs, h, ho, j, b, k, hb, hj => by
    cases j with
    | zero =>
      simp at hj; subst hj
      rw [accApp, accApp_ne (fun j k' hj => accOk.ne ho (i := 0) (j := j + 1) (b := b) (k := k) rfl (by omega) (by simpa using hj) rfl)]
      simp [Acc.app, hb]
    | succ j =>
      rw [accApp]
      exact accApp_wr ho.2 (by rw [app_len]; exact hb) (by simpa using hj)

/-- The heap behind some of the operations. -/
structure HeapS (h : AHeap) (cs : List Acc) (S : Nat → Bool) (g : AHeap) : Prop where
  len : g.length = h.length
  wr : ∀ j b k, S j = true → cs[j]? = some (.wr b k) → g[b]? = some k
  ne : ∀ b, (∀ j k, S j = true → cs[j]? = some (.wr b k) → False) → g[b]? = h[b]?

theorem HeapS.all {h g : AHeap} {cs : List Acc} {S : Nat → Bool} (H : HeapS h cs S g) (ho : accOk cs) (hS : ∀ j c, cs[j]? = some c → S j = true) : g = accApp h cs := by
  apply List.ext_getElem?
  intro b
  by_cases hx : ∃ (j : Nat) (k : ABlk), cs[j]? = some (Acc.wr b k)
  · obtain ⟨j, k, hj⟩ := hx
    have h1 := H.wr j b k (hS j _ hj) hj
    have : b < h.length := by rw [← H.len]; exact (List.getElem?_eq_some_iff.1 h1).1
    rw [h1, accApp_wr ho this hj]
  · rw [H.ne b fun j k _ hj => hx ⟨j, k, hj⟩, accApp_ne fun j k hj => hx ⟨j, k, hj⟩]

theorem region_plain {P : Program} (hmix : P.follows .mixedOrders = true) {ops : Array Oper} {l : List IOp} (hed : edgesOk (Region.before ops) ops = true) (hsl : slotsOk (Region.before ops) ops = true)
    (hc : zipMapM (fun _ o => compileOp P ops false o) ops.toList 0 = some l) {ts ts' : TS} {h : AHeap} {cs : List Acc} (hs : PRow l ts h cs ts') (hok : accOk cs) {m : Emb} {a : Act} {w : World}
    (st : St P m ts h a w) (ro : Option Nat) (Q : Exit → Act → World → Prop) (hQ : ∀ m' a' w', St P m' ts' (accApp h cs) a' w' → Grow m h w m' (accApp h cs) w' → a'.defers = a.defers → Q .normal a' w') (id : Nat) :
    (Code.region id ops true).wpIn (Fd ro) 0 P Q a w := by
  refine wpIn_region_any hmix ?_
  obtain ⟨T, rfl, rfl, hcl0, hrow⟩ := hs.row
  obtain ⟨hlen0, hget⟩ := zipMapM_get hc
  simp only [Array.length_toList] at hlen0
  have hback : ∀ (j : Nat) (io : IOp), l[j]? = some io → ∃ o, ops[j]? = some o ∧ compileOp P ops false o = some io := fun j io hj => by
    have hlt : j < ops.size := by have := (List.getElem?_eq_some_iff.1 hj).1; omega
    have ho : ops[j]? = some ops[j] := Array.getElem?_eq_getElem hlt
    obtain ⟨io', h1, h2⟩ := hget j ops[j] (by simp)
    rw [hj] at h1; cases h1
    exact ⟨_, ho, h2⟩
  have hdst : ∀ (j : Nat) (io : IOp) (d : Nat), l[j]? = some io → io.dst = some d → ∃ o, ops[j]? = some o ∧ o.dst = some d := fun j io d hj hd => by
    obtain ⟨o, h1, h2⟩ := hback j io hj
    exact ⟨o, h1, by rw [← (compileOp_dst h2).1]; exact hd⟩
  have huniq : ∀ (i j : Nat) (oi oj : IOp) (d : Nat), l[i]? = some oi → l[j]? = some oj → oi.dst = some d → oj.dst = some d → i = j := fun i j oi oj d hi hj h1 h2 => by
    obtain ⟨xi, a1, a2⟩ := hdst i oi d hi h1
    obtain ⟨xj, b1, b2⟩ := hdst j oj d hj h2
    by_cases hlt : i < j
    · exact absurd b2 ((slotsOk_spec hsl hlt a1 b1).1 d a2).1
    · by_cases hgt : j < i
      · exact absurd a2 ((slotsOk_spec hsl hgt b1 a1).1 d b2).1
      · omega
  have hTl : ∀ j, j ≤ l.length → (T j).length = (T 0).length := by
    intro j
    induction j with
    | zero => intro _; rfl
    | succ j ih =>
      intro hj
      obtain ⟨v, c, _, _, hv⟩ := hrow j _ (List.getElem?_eq_getElem (show j < l.length by omega))
      rw [hv, put_length]; exact ih (by omega)
  have hTsame : ∀ x y t, x ≤ y → y ≤ l.length → (∀ (j : Nat) (o : IOp), x ≤ j → j < y → l[j]? = some o → o.dst ≠ some t) → (T y).getD t undefA = (T x).getD t undefA := by
    intro x y t hxy hy hno
    have := T_same (T := T) (t := t) (a := x) (y - x) (fun j h1 h2 => by
      have hj : l[j]? = some (l[j]'(by omega)) := List.getElem?_eq_getElem (by omega)
      obtain ⟨v, c, _, _, hv⟩ := hrow j _ hj
      exact ⟨_, v, hv, hno j _ h1 (by omega) hj⟩)
    rwa [show x + (y - x) = y from by omega] at this
  have hdone : ∀ (listed : Array Bool) (g : AHeap) (a1 : Act) (w1 : World), (∀ i, i < ops.size → listed.getD i false = true) → HeapS h cs (fun j => listed.getD j false) g → HR P m g w1 → Grow m h w m g w1 → a1.tmps.size = (T 0).length →
      (∀ (d : Nat), (∀ (j : Nat) (o : IOp), l[j]? = some o → listed.getD j false = true → o.dst ≠ some d) → VR m ((T 0).getD d undefA) (a1.tmps.getD d undef)) →
      (∀ (d j : Nat) (o : IOp), l[j]? = some o → listed.getD j false = true → o.dst = some d → VR m ((T (j + 1)).getD d undefA) (a1.tmps.getD d undef)) → a1.defers = a.defers → Q .normal a1 w1 := by
    intro listed g a1 w1 hall H hr hg hsz h1 h2 hd
    have e := H.all hok fun j c hj => hall j (by have := (List.getElem?_eq_some_iff.1 hj).1; omega)
    subst e
    refine hQ m a1 w1 ⟨hr, VRs.of_get ?_ ?_⟩ hg hd
    · have := hTl l.length (Nat.le_refl _); simp; omega
    · intro t x hx
      have hlt := (List.getElem?_eq_some_iff.1 hx).1
      have hlt' : t < a1.tmps.size := by have := hTl l.length (Nat.le_refl _); omega
      have ex : (T l.length).getD t undefA = x := by simp [List.getD, hx]
      have ey : a1.tmps.getD t undef = a1.tmps[t] := by simp [Array.getD_eq_getD_getElem?, Array.getElem?_eq_getElem hlt']
      refine ⟨a1.tmps[t], by simp, ?_⟩
      rw [← ex, ← ey]
      by_cases hw : ∃ (j : Nat) (o : IOp), l[j]? = some o ∧ o.dst = some t
      · obtain ⟨j, o, hj, ho⟩ := hw
        have hjl := (List.getElem?_eq_some_iff.1 hj).1
        rw [hTsame (j + 1) l.length t (by omega) (Nat.le_refl _) (fun k o' a2 a3 a4 a5 => by have := huniq j k o o' t hj a4 ho a5; omega)]
        exact h2 t j o hj (hall j (by omega)) ho
      · rw [hTsame 0 l.length t (by omega) (Nat.le_refl _) (fun k o' _ _ h4 h5 => hw ⟨k, o', h4, h5⟩)]
        exact h1 t fun j o hj _ ho => hw ⟨j, o, hj, ho⟩
  have key : ∀ (fuel : Nat) (listed : Array Bool) (g : AHeap) (a1 : Act) (w1 : World), listed.size = ops.size → unl listed ops.size ≤ fuel →
      (∀ j x, listed.getD j false = true → x < ops.size → ahead (Region.before ops) x j = true → listed.getD x false = true) →
      HeapS h cs (fun j => listed.getD j false) g → HR P m g w1 → Grow m h w m g w1 → a1.tmps.size = (T 0).length →
      (∀ (d : Nat), (∀ (j : Nat) (o : IOp), l[j]? = some o → listed.getD j false = true → o.dst ≠ some d) → VR m ((T 0).getD d undefA) (a1.tmps.getD d undef)) →
      (∀ (d j : Nat) (o : IOp), l[j]? = some o → listed.getD j false = true → o.dst = some d → VR m ((T (j + 1)).getD d undefA) (a1.tmps.getD d undef)) → a1.defers = a.defers → wpAnyIn (Fd ro) 0 P .any ops Q fuel listed a1 w1 := by
    intro fuel
    induction fuel with
    | zero =>
      intro listed g a1 w1 hsz' hu hcl H hr hg hsz h1 h2 hd
      have hall := unl_zero ops.size (show unl listed ops.size = 0 by omega)
      exact ⟨ready_all hsz' hall, hdone listed g a1 w1 hall H hr hg hsz h1 h2 hd⟩
    | succ fuel ih =>
      intro listed g a1 w1 hsz' hu hcl H hr hg hsz h1 h2 hd
      refine ⟨fun hrn => hdone listed g a1 w1 (ready_nil hed hsz' hrn) H hr hg hsz h1 h2 hd, fun i hi => ?_⟩
      obtain ⟨o, ho, hli, hed'⟩ := (ready_mem hsz').1 hi
      have hin : i < ops.size := (Array.getElem?_eq_some_iff.1 ho).1
      obtain ⟨io, hio, hcomp⟩ := hget i o (by simpa using ho)
      obtain ⟨v, c, hci, hst, hTi⟩ := hrow i io hio
      have hahead : ∀ x, x < ops.size → ahead (Region.before ops) x i = true → listed.getD x false = true := fun x hx ha => by
        obtain ⟨e, he, hb, hor⟩ := (edgesOk_spec hed ho).2 x hx ha
        have hle := hed' e he hb
        rcases hor with rfl | hor
        · exact hle
        · exact hcl e.on x hle hx hor
      have hcl' : ∀ j x, (listed.setIfInBounds i true).getD j false = true → x < ops.size → ahead (Region.before ops) x j = true → (listed.setIfInBounds i true).getD x false = true := by
        intro j x hj hx ha
        rw [getD_set_iff (by omega)] at hj ⊢
        split
        · rfl
        · split at hj
          · rename_i hji; subst hji; exact hahead x hx ha
          · exact hcl j x hj hx ha
      have hu' : unl (listed.setIfInBounds i true) ops.size ≤ fuel := by
        have := unl_lt (listed := listed) (by omega) hli ops.size hin
        omega
      have hslot : ∀ t, t ∈ o.looksAt ops → VR m ((T i).getD t undefA) (a1.tmps.getD t undef) := by
        intro t ht
        by_cases hex : ∃ (x : Nat) (ox : IOp), l[x]? = some ox ∧ listed.getD x false = true ∧ ox.dst = some t
        · obtain ⟨x, ox, hx, hxl, hxd⟩ := hex
          obtain ⟨oo, hoo, hxd'⟩ := hdst x ox t hx hxd
          have hxi : x < i := by
            by_cases e1 : x = i
            · subst e1; rw [hli] at hxl; cases hxl
            · by_cases e2 : x < i
              · exact e2
              · have e3 := (slotsOk_spec hsl (show i < x by omega) ho hoo).2 t hxd' ht
                have e4 := hcl x i hxl hin e3
                rw [hli] at e4; cases e4
          rw [hTsame (x + 1) i t (by omega) (by omega) (fun k o' a2 a3 a4 a5 => by have := huniq x k ox o' t hx a4 hxd a5; omega)]
          exact h2 t x ox hx hxl hxd
        · rw [hTsame 0 i t (by omega) (by omega) (fun k o' e2 e3 e4 e5 => by
            obtain ⟨oo, hoo, hd'⟩ := hdst k o' t e4 e5
            have h6 := ((slotsOk_spec hsl e3 hoo ho).1 t hd').2 ht
            exact hex ⟨k, o', e4, hahead k (Array.getElem?_eq_some_iff.1 hoo).1 h6, e5⟩)]
          exact h1 t fun j oj hj hl hd' => hex ⟨j, oj, hj, hl, hd'⟩
      -- the block that is loaded, or stored, is as it was
      have hblk : ∀ b, c.blk = some b → g[b]? = h[b]? := fun b hb => H.ne b fun j k hj hjc => by
        by_cases e1 : j = i
        · subst e1
          try simp only at hj
          rw [hli] at hj; cases hj
        · exact accOk.ne hok hjc e1 hci hb
      refine opIn_sound ho hcomp hr.gv hr (by rw [hsz, hTl i (by omega)]) hslot (hst.run (P := P) hblk) ro _ Q ?_
      intro cv v' m' w' hT' hv' hr' hg'
      have hd' : io.dst = o.dst := (compileOp_dst hcomp).1
      have hm : m' = m := by
        funext b
        by_cases hb : b < g.length
        · exact hg'.ext b hb
        · have e1 : m b = none := by
            cases hx : m b with
            | none => rfl
            | some e => exact absurd (hr.dom b e hx) hb
          have e2 : m' b = none := by
            cases hx : m' b with
            | none => rfl
            | some e => exact absurd (by have := hr'.dom b e hx; rwa [app_len] at this) hb
          rw [e1, e2]
      subst hm
      have hlt : (listed.setIfInBounds i true).getD i false = true := by rw [getD_set_iff (by omega), if_pos rfl]
      have hne : ∀ j, j ≠ i → (listed.setIfInBounds i true).getD j false = listed.getD j false := fun j hj => by rw [getD_set_iff (by omega), if_neg hj]
      have htm : (a1.put o.dst cv).tmps = putA a1.tmps o.dst cv := by cases o.dst <;> rfl
      refine ih _ (c.app g) (a1.put o.dst cv) w' (by simp [hsz']) hu' hcl' ⟨by rw [app_len]; exact H.len, ?_, ?_⟩ hr' (hg.trans hg' st.hr.dom) (by rw [htm, putA_size]; exact hsz) ?_ ?_ (by rw [put_defers]; exact hd)
      · intro j b k hj hjc
        try simp only at hj
        by_cases e1 : j = i
        · subst e1
          rw [hci] at hjc; cases hjc
          have : b < g.length := by
            by_cases hb : b < g.length
            · exact hb
            · have e := hblk b rfl
              rcases hst with ⟨_, h, _⟩ | ⟨_, hs3⟩
              · cases h
              rcases hs3 with ⟨_, h, _⟩ | ⟨_, _, _, _, _, _, h, _⟩ | ⟨n, aa, x, b', off, k', hk, ha, h, hs3⟩
              · cases h
              · cases h
              · cases h
                rw [hk] at hs3
                rw [List.getElem?_eq_none (by omega)] at e
                simp only [stepT, fnT, ha, ← e] at hs3
                cases hs3
          simp [Acc.app, this]
        · rw [hne j e1] at hj
          rw [app_ne fun k' hk' => by
            subst hk'
            exact accOk.ne hok hjc e1 hci rfl]
          exact H.wr j b k hj hjc
      · intro b hb
        rw [app_ne fun k' hk' => hb i k' hlt (by rw [hci, hk'])]
        exact H.ne b fun j k hj hjc => by
          try simp only at hj
          exact hb j k (by
            show (listed.setIfInBounds i true).getD j false = true
            by_cases e1 : j = i
            · subst e1; exact hlt
            · rw [hne j e1]; exact hj) hjc
      · intro d hdn
        have hnd : o.dst ≠ some d := by rw [← hd']; exact hdn i io hio hlt
        rw [htm, putA_ne hnd]
        refine h1 d fun j oj hj hl => hdn j oj hj ?_
        by_cases e1 : j = i
        · subst e1; exact hlt
        · rw [hne j e1]; exact hl
      · intro d j oj hj hl hdj
        by_cases e1 : j = i
        · subst e1
          rw [hio] at hj; cases hj
          rw [hTi, htm, ← hd', hdj]
          have hvv : put (T j) (some d) v = put (T j) (some d) v' := by
            have := hT'
            rw [← hd', hdj] at this
            exact this
          rw [hvv]
          exact put_same (by rw [hsz, hTl j (by omega)]) hv'
        · have hnd : o.dst ≠ some d := fun hx => by
            rw [← hd'] at hx
            exact e1 (huniq j i oj io d hj hio hdj hx)
          rw [htm, putA_ne hnd]
          rw [hne j e1] at hl
          exact h2 d j oj hj hl hdj
  have hfalse : ∀ j, (Array.replicate ops.size false).getD j false = false := fun j => by
    rw [Array.getD_eq_getD_getElem?, Array.getElem?_replicate]
    split <;> rfl
  refine key ops.size (Array.replicate ops.size false) h a _ (by simp) ?_ (fun j x hj _ _ => by simp [hfalse j] at hj) ⟨rfl, fun j b k hj _ => by simp [hfalse j] at hj, fun b _ => rfl⟩ st.hr.drew (Grow.refl m _ w st.hr.dom).drew ?_ (fun d _ => slotA st.ts d) (fun d j o _ hj _ => by simp [hfalse j] at hj) rfl
  · have : ∀ n, unl (Array.replicate ops.size false) n ≤ n := by
      intro n
      induction n with
      | zero => exact Nat.le_refl _
      | succ n ihn => simp only [unl]; split <;> omega
    exact this _
  · have := st.ts.length; simpa using this

theorem Ev.opsS {P} {ro} (hmix : P.follows .mixedOrders = true) {l} {ts ts'} {h} {cs} (hs : PRow l ts h cs ts') (hok : accOk cs) : Ev P ro (.opsS l) ts h .normal ts' (accApp h cs) := by
  refine Ev.of fun cc hns hc m a w lo hlo st hm Q hQ => ?_
  cases cc with
  | region id ops draw =>
    rcases reg_cases (by simpa only [compile] using hc) with ⟨l', h1, hl⟩ | ⟨l', h1, hd, ⟨l2, hl2⟩, hz⟩ | ⟨_, h1, _⟩ <;> cases h1
    subst hd
    simp only [compileRegion, if_true] at hl2
    split at hl2
    case isFalse => cases hl2
    rename_i hok2
    simp only [Bool.and_eq_true] at hok2
    exact region_plain hmix hok2.1 hok2.2 hz hs hok st ro Q (fun m' a' w' s g d => hQ m' a' w' s g (by rw [d]; exact hm.grow g st.hr.dom)) id
  | scope a => exact absurd rfl (hns a)
  | block id a => simp [compile] at hc
  | loop a => simp [compile] at hc
  | _ =>
    simp only [compile] at hc
    (repeat' split at hc)
    all_goals cases hc

/-- Such a region, one operation after the other. -/
def accAdd (cs : List Acc) : Acc → List Acc
  | .no => cs
  | c => cs ++ [c]
theorem accAdd_ne {cs} {c} (hc : c ≠ .no) : accAdd cs c = cs ++ [c] := by cases c <;> first | exact absurd rfl hc | rfl
def WOS (h : AHeap) : List IOp → TS → List Acc → (TS → List Acc → Prop) → Prop
  | [], ts, cs, K => K ts cs
  | o :: r, ts, cs, K => ∃ v c, PStep o ts h v c ∧ WOS h r (put ts o.dst v) (accAdd cs c) K

theorem accOk_app : ∀ {a b c}, (∀ x ∈ b, x = Acc.no) → accOk (a ++ c) → accOk (a ++ b ++ c)
  | [], [], c, _, h => h
  | [], x :: b, c, hb, h => by
    have hx := hb x (by simp)
    subst hx
    exact ⟨fun n hn => by (cases hn), by simpa using accOk_app (a := []) (b := b) (fun y hy => hb y (List.mem_cons_of_mem _ hy)) h⟩
  | x :: a, b, c, hb, h => by
    refine ⟨fun n hn y hy hyn k k' hk => ?_, accOk_app (a := a) hb h.2⟩
    rcases List.mem_append.1 hy with hy | hy
    · rcases List.mem_append.1 hy with hy | hy
      · exact h.1 n hn y (List.mem_append.2 (.inl hy)) hyn k k' hk
      · rw [hb y hy] at hyn; cases hyn
    · exact h.1 n hn y (List.mem_append.2 (.inr hy)) hyn k k' hk
theorem WOS.sound {h} : ∀ {l} {ts} {cs} {K}, WOS h l ts cs K → ∃ cs2 cs3 ts', PRow l ts h cs2 ts' ∧ K ts' (cs ++ cs3) ∧ (∀ (a c : List Acc), accOk (a ++ cs3 ++ c) → accOk (a ++ cs2 ++ c)) ∧ (∀ g, accApp g cs2 = accApp g cs3)
  | [], ts, cs, K, H => ⟨[], [], ts, ⟨rfl, rfl⟩, by rw [List.append_nil]; exact H, fun _ _ h => h, fun _ => rfl⟩
  | o :: r, ts, cs, K, H => by
    obtain ⟨v, c, h1, H⟩ := H
    obtain ⟨cs2, cs3, ts', h2, h3, h4, h5⟩ := WOS.sound (l := r) H
    by_cases hc : c = .no
    · subst hc
      refine ⟨.no :: cs2, cs3, ts', ⟨v, .no, cs2, h1, rfl, h2⟩, h3, fun a d hd => ?_, fun g => h5 g⟩
      have := accOk_app (a := a) (b := [.no]) (c := cs2 ++ d) (by simp) (by simpa using h4 a d hd)
      simpa using this
    · rw [accAdd_ne hc] at h3
      refine ⟨c :: cs2, c :: cs3, ts', ⟨v, c, cs2, h1, rfl, h2⟩, by simpa using h3, fun a d hd => ?_, fun g => by rw [accApp, accApp, h5]⟩
      have := h4 (a ++ [c]) d (by simpa using hd)
      simpa using this
end Go.Abs
