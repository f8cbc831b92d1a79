/- A part of the proof that HouseStories holds. No condition. -/
import Derived.Test.YtgplmdgpmbegiaaGreatDoorSt3
import Derived.Test.YtgplmdgpmbegiaaGreatDoorSt0
set_option linter.all false
namespace Go.Abs
def Ext(h h':ah):Prop:=∃g,h' =h++g
def Ext.refl(h:ah):Ext h h:=⟨[],Si⟩
def Ext.app{h k}(g:ah)(e:Ext h k):Ext h (k++g):=by
 obtain⟨x,rfl⟩:=e;exact⟨x++g,Si⟩
def Ext.trans{a b c}(h:Ext a b)(k:Ext b c):Ext a c:=by
 obtain⟨x,rfl⟩:=h;obtain⟨y,rfl⟩:=k;exact⟨x++y,Si⟩
def Ext.get{h k}(e:Ext h k){b}(hb:b < h.length):k[b]? =h[b]? :=by
 obtain⟨x,rfl⟩:=e;exact X5 hb
theorem Ext.some{h k:ah}(e:Ext h k){b:Nat}{x:ak}(hb:h[b]? =some x):k[b]? =some x:=by
 rw[e.get (X1.1 hb).1];exact hb
def Ext.len{h k}(e:Ext h k):h.length≤k.length:=by
 obtain⟨x,rfl⟩:=e;simp
def tJ(P:Program)(q:Bool)(fv:AV)(args:List AV)(h:ah)(K:AV→ah→Prop):Prop:=
 ∃v h',fg P fv args h v h'∧(q=true→Ext h h')∧K v h'
def iA.quiet:iA→Bool
 | .au=>true
 | .push _=>true
 | _=>false
def iA.zO{e:iA}{h:ah}(he:e.quiet=true):Ext h (e.app h):=by
 cases e with
 | au=>exact Ext.refl h
 | push k=>exact⟨[k],rfl⟩
 | set b k=>cases he
 | nK b k k'=>cases he
def WK(P:Program)(q:Bool)(k:oZ)(ρ:cT→AV)(h:ah)(K:AV→ah→Prop):Prop:=
 match k with
 | .call f args=>tJ P q (ρ f) (args.map ρ) h K
 | k=>
  match stepT k ρ (fun b=>h[b]?) h.length with
  | some (v,e)=>(q=true→e.quiet=true)∧K v (e.app h)
  | none=>False
def Ci(d:Option Nat)(k:oZ)(n:Nat)(X:Prop):Prop:=
 match k,d with
 | .nh _ _,some d=>d < n∧X
 | _,_=>X
def qt{d k n}{X:Prop}:Ci d k n X↔y3 d k n∧X:=by
 cases k<;>cases d<;>simp[Ci,y3]
def Ci.mono{d k n}{X Y:Prop}(h:X→Y)(x:Ci d k n X):Ci d k n Y:=qt.2 ⟨(qt.1 x).1,h (qt.1 x).2⟩
def WS(P:Program)(o:bJ)(ts:TS)(h:ah)(K:AV→ah→Prop):Prop:=
 match o.gd with
 | none=>Ci o.dst o.k ts.length (WK P o.q o.k (val ts) h K)
 | some (t,b)=>
  match val ts (.t t)with
  | .bool c=>if c=b then Ci o.dst o.k ts.length (WK P o.q o.k (val ts) h K)else K aA h
  | _=>K aA h
def WO(P:Program):List bJ→TS→ah→(TS→ah→Prop)→Prop
 | [],ts,h,Q=>Q ts h
 | o::r,ts,h,Q=>WS P o ts h (fun v h1=>WO P r (put ts o.dst v) h1 Q)
def WK.sound{P:Program}{q:Bool}{k:oZ}{ρ:cT→AV}{h:ah}{K:AV→ah→Prop}(H:WK P q k ρ h K):∃v h',pH P k ρ h v h'∧(q=true→Ext h h')∧K v h':=by
 by_cases hc:∃f args,k= .call f args
 ·obtain⟨f,args,rfl⟩:=hc;exact H
 ·have H': (match stepT k ρ (fun b=>h[b]?) h.length with
   | some (v,e)=>(q=true→e.quiet=true)∧K v (e.app h)
   | none=>False):=by
   exact Jk
  split at H'
  case h_2=>exact H'.elim
  rename_i v e he;refine⟨v,e.app h,?_,fun hq=>iA.zO (H'.1 hq),H'.2⟩;have:=nG he;cases k<;>first| exact this| exact absurd ⟨_,_,rfl⟩ hc
theorem WS.sound{P o ts h K}(H:WS P o ts h K):∃v h',dx P o ts h (put ts o.dst v) h'∧(o.q=true→∃g,h' =h++g)∧K v h':=by
 have run:wanted o.gd ts→Ci o.dst o.k ts.length (WK P o.q o.k (val ts) h K)→∃v h',dx P o ts h (put ts o.dst v) h'∧(o.q=true→∃g,h' =h++g)∧K v h':=fun hw hk=>by
  obtain⟨hb,hk⟩:=qt.1 hk;obtain⟨v,h',h1,h2,h3⟩:=hk.sound;exact⟨v,h',.run hw hb h1,h2,h3⟩
 have skip:¬wanted o.gd ts→K aA h→∃v h',dx P o ts h (put ts o.dst v) h'∧(o.q=true→∃g,h' =h++g)∧K v h':=fun hw hk=>
  ⟨aA,h,.skip hw,fun _=>Ext.refl h,hk⟩
 unfold WS at H;split at H
 ·rename_i hg;exact run (by rw[hg];trivial) H
 ·rename_i t b hg;split at H
  ·rename_i c hv;have hx:ts[t]? =some (.bool c):=by
    simp only[val,List.getD]at hv;cases hy:ts[t]? with
    | none=>rw[hy]at hv;cases hv
    | some z=>rw[hy]at hv;simp only[aaj]at hv;rw[hv]
   split at H
   ·rename_i hcb;subst hcb;exact run (by rw[hg];exact hx) H
   ·rename_i hcb;refine skip (fun hw=>hcb ?_) H;rw[hg]at hw;simp only[wanted,hx,Yy,AV.bool.injEq]at hw;exact hw
  ·rename_i hv;refine skip (fun hw=>?_) H;rw[hg]at hw;simp only[wanted]at hw;exact hv b (by simp[val,List.getD,hw])
theorem WO.sound{P}:∀{l} {ts} {h} {Q},WO P l ts h Q→∃ts' h',yp P l ts h ts' h'∧Q ts' h'
 | [],ts,h,Q,H=>⟨ts,h,⟨rfl,rfl⟩,H⟩
 | o::r,ts,h,Q,H=>by
  obtain⟨v,h1,h2,h3,h4⟩:=WS.sound H;obtain⟨ts',h',h5,h6⟩:=WO.sound (l:=r) h4;exact⟨ts',h',⟨_,h1,h2,h3,h5⟩,h6⟩
def WM(P:Program)(S:ah→Prop):List bJ→TS→ah→(TS→ah→Prop)→Prop
 | [],ts,h,K=>S h∧K ts h
 | o::r,ts,h,K=>S h∧((kg (o::r)=true∧WO P (o::r) ts h K)∨(kg (o::r)=false∧
    ((mD o=true∧∃v,(∀g,S g→dx P o ts g (put ts o.dst v) g)∧WM P S r (put ts o.dst v) h K)∨(mD o=false∧WS P o ts h (fun v h1=>WM P S r (put ts o.dst v) h1 K)))))
theorem WM.sound{P S}:∀{l} {ts} {h} {K},WM P S l ts h K→∃T H,Row P l T H∧T 0=ts∧H 0=h∧(∀ (i:Nat) (io:bJ),l[i]? =some io→mD io=true→∀g,S g→dx P io (T i) g (T (i+1)) g)∧(∀θ,θ≤dD l→S (H θ))∧K (T l.length) (H l.length)
 | [],ts,h,K,H=>⟨fun _=>ts,fun _=>h,⟨fun i o ho=>by simp at ho⟩,rfl,rfl,fun i io ho=>by simp at ho,fun _ _=>H.1,H.2⟩
 | o::r,ts,h,K,H=>by
  obtain⟨h0,H⟩:=H;rcases H with⟨hall,H⟩| ⟨hall,H⟩
  ·obtain⟨ts',h',h1,h2⟩:=WO.sound H;obtain⟨T,G,rfl,rfl,rfl,rfl,r5⟩:=h1.row;refine⟨T,G,r5,rfl,rfl,fun i io hio hld=>?_,fun θ hθ=>?_,h2⟩
   ·have:=YE.1 (Bool.and_eq_true_iff.1 hall).1 io (YW hio);unfold mD at hld;unfold B9 at this;cases hk:io.k<;>rw[hk]at hld this<;>simp[fp]at hld this
   ·rw[dD,Yh hall]at hθ;have:θ=0:=Om
    subst this;exact h0
  have key:∃v h1,dx P o ts h (put ts o.dst v) h1∧(o.q=true→∃g,h1=h++g)∧(mD o=true→∀g,S g→dx P o ts g (put ts o.dst v) g)∧WM P S r (put ts o.dst v) h1 K:=by
   rcases H with⟨hl,v,h1,h2⟩| ⟨hl,H⟩
   ·exact⟨v,h,h1 h h0,fun _=>⟨[],Si⟩,fun _=>h1,h2⟩
   ·obtain⟨v,h1,h2,h3,h4⟩:=WS.sound H;refine⟨v,h1,h2,h3,fun z=>?_,h4⟩;rw[hl]at z;cases z
  obtain⟨v,h1,k1,k2,k3,k4⟩:=key;obtain⟨T,G,r1,r2,r3,r4,r5,r6⟩:=WM.sound (l:=r) k4
  let T':Nat→TS:=fun n=>match n with| 0=>ts| n+1=>T n
  let G':Nat→ah:=fun n=>match n with| 0=>h| n+1=>G n
  refine⟨T',G',⟨fun i o' ho=>?_⟩,rfl,rfl,fun i io hio hld g hg=>?_,fun θ hθ=>?_,r6⟩
  ·cases i with
   | zero=>
    simp only[Zg,Yy]at ho;subst ho;show dx P o ts h (T 0) (G 0)∧(o.q=true→∃g,G 0=h++g);rw[r2,r3];exact⟨k1,k2⟩
   | succ i=>exact r1.step i o' (by simpa using ho)
  ·cases i with
   | zero=>
    simp only[Zg,Yy]at hio;subst hio;show dx P o ts g (T 0) g;rw[r2];exact k3 hld g hg
   | succ i=>exact r4 i io (by simpa using hio) hld g hg
  ·cases θ with
   | zero=>exact h0
   | succ θ=>
    rw[dD,Yd (by rw[hall];decide)]at hθ;exact r5 θ Om
def W(P:Program)(ro:Option Nat→Prop):ai→TS→ah→(Ex→TS→ah→Prop)→Prop
 | .skip,ts,h,Q=>Q .normal ts h
 | .ops l,ts,h,Q=>WO P l ts h (Q .normal)
 | .sf l,ts,h,Q=>AK h l ts [] fun ts' cs=>eU cs∧Q .normal ts' (dN h cs)
 | .lC l,ts,h,Q=>∃S,WM P S l ts h (Q .normal)
 | .seq a b,ts,h,Q=>W P ro a ts h fun e Sz h1=>
  match e with
  | .normal=>W P ro b Sz h1 Q
  | .exit id=>Q (.exit id) Sz h1
  | .ret=>Q .ret Sz h1
 | .cond c a b,ts,h,Q=>
  match val ts c with
  | .bool t=>(t=true→W P ro a ts h Q)∧(t=false→W P ro b ts h Q)
  | _=>False
 | .block id a,ts,h,Q=>W P ro a ts h fun e=>Q (e.inBlock id)
 | .loop a,ts,h,Q=>∃e ts' h',(∀r,ro r→tH P r a ts h e ts' h')∧Q e ts' h'
 | .exit id,ts,h,Q=>Q (.exit id) ts h
 | .ret,ts,h,Q=>Q .ret ts h
 | .eJ g ps asg body,ts,h,Q=>∃e ts' h',(∀r,ro r→Ev P r (.eJ g ps asg body) ts h e ts' h')∧Q e ts' h'
 | .bad,_,_,_=>False
def bR:Option Nat→Prop:=fun r=>r=none
def Ch:Option Nat→Prop:=fun r=>∃l,r=some l
theorem W.sound{P}(hmix:P.follows .mixedOrders=true){ro}:∀{c} {ts} {h} {Q},W P ro c ts h Q→∃e ts' h',(∀r,ro r→Ev P r c ts h e ts' h')∧Q e ts' h'
 | .skip,ts,h,Q,H=>⟨.normal,ts,h,fun _ _=>.skip,H⟩
 | .ops l,ts,h,Q,H=>by
  obtain⟨ts',h',h1,h2⟩:=WO.sound (l:=l) H;exact⟨.normal,ts',h',fun _ _=>.ops hmix h1,h2⟩
 | .sf l,ts,h,Q,H=>by
  obtain⟨TX,XY,ts',h1,⟨h2,h3⟩,h4,h5⟩:=AK.sound (l:=l) H;rw[ZJ]at h2 h3;exact⟨.normal,ts',dN h TX,fun _ _=>.sf hmix h1 (by simpa using h4 [] [] (by simpa using h2)),by rw[h5];exact h3⟩
 | .lC l,ts,h,Q,H=>by
  obtain⟨S,H⟩:=H;obtain⟨T,G,r1,rfl,rfl,r4,r5,r6⟩:=WM.sound (l:=l) H;exact⟨.normal,_,_,fun _ _=>.lC hmix r1 fun i io hio hld θ hθ=>r4 i io hio hld _ (r5 θ hθ),r6⟩
 | .seq a b,ts,h,Q,H=>by
  obtain⟨e,Sz,h1,h2,h3⟩:=W.sound hmix (c:=a) H;cases e with
  | normal=>
   obtain⟨e,ts',h',h4,h5⟩:=W.sound hmix (c:=b) h3;exact⟨e,ts',h',fun r hr=>.seq (h2 r hr) (h4 r hr),h5⟩
  | exit id=>exact⟨_,Sz,h1,fun r hr=>.vc (h2 r hr) Si,h3⟩
  | ret=>exact⟨_,Sz,h1,fun r hr=>.vc (h2 r hr) Si,h3⟩
 | .cond c a b,ts,h,Q,H=>by
  unfold W at H;split at H
  case h_2=>exact H.elim
  rename_i t hv;cases t with
  | true=>
   obtain⟨e,ts',h',h4,h5⟩:=W.sound hmix (c:=a) (H.1 rfl);exact⟨e,ts',h',fun r hr=>.cond hv (h4 r hr),h5⟩
  | false=>
   obtain⟨e,ts',h',h4,h5⟩:=W.sound hmix (c:=b) (H.2 rfl);exact⟨e,ts',h',fun r hr=>.cond hv (h4 r hr),h5⟩
 | .block id a,ts,h,Q,H=>by
  obtain⟨e,ts',h',h4,h5⟩:=W.sound hmix (c:=a) H;exact⟨_,ts',h',fun r hr=>.block (h4 r hr),h5⟩
 | .loop a,ts,h,Q,H=>by
  obtain⟨e,ts',h',h4,h5⟩:=H;exact⟨e,ts',h',fun r hr=>.loop (h4 r hr),h5⟩
 | .exit id,ts,h,Q,H=>⟨_,ts,h,fun _ _=>.exit,H⟩
 | .ret,ts,h,Q,H=>⟨_,ts,h,fun _ _=>.ret,H⟩
 | .eJ g ps asg body,ts,h,Q,H=>H
 | .bad,ts,h,Q,H=>H.elim
def tJ.mono{P q fv args h K K'}(H:tJ P q fv args h K)(hk:∀v h',K v h'→K' v h'):tJ P q fv args h K':=by
 obtain⟨v,h',h1,h2,h3⟩:=H;exact⟨v,h',h1,h2,hk v h' h3⟩
theorem WK.mono{P q k ρ h K K'}(H:WK P q k ρ h K)(hk:∀v h',K v h'→K' v h'):WK P q k ρ h K':=by
 by_cases hc:∃f args,k= .call f args
 ·obtain⟨f,args,rfl⟩:=hc;exact tJ.mono H hk
 ·have H': (match stepT k ρ (fun b=>h[b]?) h.length with
   | some (v,e)=>(q=true→e.quiet=true)∧K v (e.app h)
   | none=>False):=by
   exact Jk
  have G': (match stepT k ρ (fun b=>h[b]?) h.length with
   | some (v,e)=>(q=true→e.quiet=true)∧K' v (e.app h)
   | none=>False):=by
   split at H'
   case h_2=>exact H'.elim
   exact⟨H'.1,hk _ _ H'.2⟩
  cases k<;>first| exact G'| exact absurd ⟨_,_,rfl⟩ hc
theorem WS.mono{P o ts h K K'}(H:WS P o ts h K)(hk:∀v h',K v h'→K' v h'):WS P o ts h K':=by
 unfold WS at H ⊢;cases hg:o.gd with
 | none=>rw[hg]at H;exact Ci.mono (fun z=>WK.mono z hk) H
 | some p=>
  obtain⟨t,b⟩:=p;rw[hg]at H;simp only at H ⊢;cases hv:val ts (.t t)with
  | bool c=>
   rw[hv]at H;simp only at H ⊢;by_cases hcb:c=b
   ·rw[Yh hcb]at H ⊢;exact Ci.mono (fun z=>WK.mono z hk) H
   ·rw[Yd hcb]at H ⊢;exact hk _ _ H
  | _=>rw[hv]at H;exact hk _ _ H
theorem WO.mono{P}:∀{l} {ts} {h} {Q Q'},WO P l ts h Q→(∀ts' h',Q ts' h'→Q' ts' h')→WO P l ts h Q'
 | [],ts,h,Q,Q',H,hq=>hq _ _ H
 | o::r,ts,h,Q,Q',H,hq=>WS.mono (o:=o) H fun v h1 h2=>WO.mono (l:=r) h2 hq
theorem WM.mono{P S}:∀{l} {ts} {h} {K K'},WM P S l ts h K→(∀ts' h',K ts' h'→K' ts' h')→WM P S l ts h K'
 | [],ts,h,K,K',H,hk=>⟨H.1,hk _ _ H.2⟩
 | o::r,ts,h,K,K',H,hk=>by
  obtain⟨h0,H⟩:=H;refine⟨h0,?_⟩;rcases H with⟨ha,H⟩| ⟨ha,H⟩
  ·exact .inl ⟨ha,WO.mono (l:=o::r) H hk⟩
  refine .inr ⟨ha,?_⟩;rcases H with⟨hl,v,h1,h2⟩| ⟨hl,H⟩
  ·exact .inl ⟨hl,v,h1,WM.mono (l:=r) h2 hk⟩
  ·exact .inr ⟨hl,WS.mono (o:=o) H fun v h1 h2=>WM.mono (l:=r) h2 hk⟩
theorem W.mono{P ro}:∀{c} {ts} {h} {Q Q'},W P ro c ts h Q→(∀e ts' h',Q e ts' h'→Q' e ts' h')→W P ro c ts h Q'
 | .skip,ts,h,Q,Q',H,hq=>hq _ _ _ H
 | .ops l,ts,h,Q,Q',H,hq=>WO.mono (l:=l) H (hq .normal)
 | .sf l,ts,h,Q,Q',H,hq=>AK.mono (l:=l) H fun ts' cs h1=>⟨h1.1,hq _ _ _ h1.2⟩
 | .lC l,ts,h,Q,Q',H,hq=>by obtain⟨S,H⟩:=H;exact⟨S,WM.mono (l:=l) H (hq .normal)⟩
 | .seq a b,ts,h,Q,Q',H,hq=>W.mono (c:=a) H fun e Sz h1 h2=>by
  cases e with
  | normal=>exact W.mono (c:=b) h2 hq
  | exit id=>exact hq _ _ _ h2
  | ret=>exact hq _ _ _ h2
 | .cond c a b,ts,h,Q,Q',H,hq=>by
  unfold W at H ⊢;split at H
  case h_2=>exact H.elim
  exact⟨fun h=>W.mono (c:=a) (H.1 h) hq,fun h=>W.mono (c:=b) (H.2 h) hq⟩
 | .block id a,ts,h,Q,Q',H,hq=>W.mono (c:=a) H fun e Sz h1 h2=>hq _ _ _ h2
 | .loop a,ts,h,Q,Q',H,hq=>by obtain⟨e,ts',h',h4,h5⟩:=H;exact⟨e,ts',h',h4,hq _ _ _ h5⟩
 | .exit id,ts,h,Q,Q',H,hq=>hq _ _ _ H
 | .ret,ts,h,Q,Q',H,hq=>hq _ _ _ H
 | .eJ g ps asg body,ts,h,Q,Q',H,hq=>by obtain⟨e,ts',h',h4,h5⟩:=H;exact⟨e,ts',h',h4,hq _ _ _ h5⟩
 | .bad,ts,h,Q,Q',H,hq=>H.elim
inductive Kt where
 | Bs (b:ai)
 | rJ (id:Nat)
def kq(P:Program)(ro:Option Nat→Prop):List Kt→(Ex→TS→ah→Prop)→Ex→TS→ah→Prop
 | [],Q,e,ts,h=>Q e ts h
 | .Bs b::ks,Q,e,ts,h=>
  match e with
  | .normal=>W P ro b ts h (kq P ro ks Q)
  | .exit id=>kq P ro ks Q (.exit id) ts h
  | .ret=>kq P ro ks Q .ret ts h
 | .rJ id::ks,Q,e,ts,h=>kq P ro ks Q (e.inBlock id) ts h
section
variable (P:Program) (ro:Option Nat→Prop)
def WC(c:ai)(ks:List Kt)(ts:TS)(h:ah)(Q:Ex→TS→ah→Prop):Prop:=W P ro c ts h (kq P ro ks Q)
def WE(e:Ex)(ks:List Kt)(ts:TS)(h:ah)(Q:Ex→TS→ah→Prop):Prop:=kq P ro ks Q e ts h
def WP(l:List bJ)(ks:List Kt)(ts:TS)(h:ah)(Q:Ex→TS→ah→Prop):Prop:=WO P l ts h (kq P ro ks Q .normal)
def WG(g:AV)(b:Bool)(q:Bool)(k:oZ)(dst:Option Nat)(l:List bJ)(ks:List Kt)(ts:TS)(h:ah)(Q:Ex→TS→ah→Prop):Prop:=
 match g with
 | .bool c=>if c=b then Ci dst k ts.length (WK P q k (val ts) h (fun v h1=>WP P ro l ks (put ts dst v) h1 Q))else WP P ro l ks (put ts dst aA) h Q
 | _=>WP P ro l ks (put ts dst aA) h Q
def WR(r:Option (AV×iA))(q:Bool)(dst:Option Nat)(l:List bJ)(ks:List Kt)(ts:TS)(h:ah)(Q:Ex→TS→ah→Prop):Prop:=
 match r with
 | some (v,e)=>(q=true→e.quiet=true)∧WP P ro l ks (put ts dst v) (e.app h) Q
 | none=>False
def WF(q:Bool)(fv:AV)(args:List AV)(dst:Option Nat)(l:List bJ)(ks:List Kt)(ts:TS)(h:ah)(Q:Ex→TS→ah→Prop):Prop:=
 tJ P q fv args h (fun v h1=>WP P ro l ks (put ts dst v) h1 Q)
def WB(v:AV)(a b:ai)(ks:List Kt)(ts:TS)(h:ah)(Q:Ex→TS→ah→Prop):Prop:=
 match v with
 | .bool t=>(t=true→WC P ro a ks ts h Q)∧(t=false→WC P ro b ks ts h Q)
 | _=>False
def WL(a:ai)(ks:List Kt)(ts:TS)(h:ah)(Q:Ex→TS→ah→Prop):Prop:=WC P ro (.loop a) ks ts h Q
def fT(g:AV)(ps:List Nat)(asg body:ai)(ks:List Kt)(ts:TS)(h:ah)(Q:Ex→TS→ah→Prop):Prop:=
 ∃e ts' h',(∀r,ro r→∀g',val ts g' =g→Ev P r (.eJ g' ps asg body) ts h e ts' h')∧WE P ro e ks ts' h' Q
end
def LQ(I:Nat→TS→ah→Prop)(n:Nat)(R:Ex→TS→ah→Prop):Ex→TS→ah→Prop
 | .normal,ts,h=>∃m,m < n∧I m ts h
 | .exit id,ts,h=>R (.exit id) ts h
 | .ret,ts,h=>R .ret ts h
def FQ(rs:List (Nat×Option (Option Nat)))(R:AV→ah→Prop):Ex→TS→ah→Prop:=fun e ts h=>e.leaves=true∧∃v,cO rs ts h=some v∧R v h
def FK(r:Option AV)(h:ah)(R:AV→ah→Prop):Prop:=
 match r with
 | some v=>R v h
 | none=>False
section
variable {P:Program} {ro:Option Nat→Prop} {ks:List Kt} {ts:TS} {h:ah} {Q:Ex→TS→ah→Prop}
def FF:WC P ro .skip ks ts h Q=WE P ro .normal ks ts h Q:=rfl
def rQ{l}:WC P ro (.ops l) ks ts h Q=WP P ro l ks ts h Q:=rfl
def rP{a b}:WC P ro (.seq a b) ks ts h Q=WC P ro a (.Bs b::ks) ts h Q:=by
 unfold WC;simp only[W];congr 1
def FI{c a b}:WC P ro (.cond c a b) ks ts h Q=WB P ro (val ts c) a b ks ts h Q:=rfl
def C8{id a}:WC P ro (.block id a) ks ts h Q=WC P ro a (.rJ id::ks) ts h Q:=rfl
def FG{a}:WC P ro (.loop a) ks ts h Q=WL P ro a ks ts h Q:=rfl
def FH{id}:WC P ro (.exit id) ks ts h Q=WE P ro (.exit id) ks ts h Q:=rfl
def IV:WC P ro .ret ks ts h Q=WE P ro .ret ks ts h Q:=rfl
def uE{b}:WE P ro .normal (.Bs b::ks) ts h Q=WC P ro b ks ts h Q:=rfl
def FD{b id}:WE P ro (.exit id) (.Bs b::ks) ts h Q=WE P ro (.exit id) ks ts h Q:=rfl
def FE{b}:WE P ro .ret (.Bs b::ks) ts h Q=WE P ro .ret ks ts h Q:=rfl
def AA{id}:WE P ro .normal (.rJ id::ks) ts h Q=WE P ro .normal ks ts h Q:=rfl
def Ay{id We}:WE P ro (.exit We) (.rJ id::ks) ts h Q=if We=id then WE P ro .normal ks ts h Q else WE P ro (.exit We) ks ts h Q:=by
 unfold WE;simp only[kq,Ex.inBlock];split<;>rfl
def Az{id}:WE P ro .ret (.rJ id::ks) ts h Q=WE P ro .ret ks ts h Q:=rfl
def IU{e}:WE P ro e [] ts h Q=Q e ts h:=rfl
def C5:WP P ro [] ks ts h Q=WE P ro .normal ks ts h Q:=rfl
def iI{d k q l}(hk:∀f args,k≠.call f args)(hb:∀n x,k≠.nh n x):WP P ro ({ dst:=d,k:=k,gd:=none,q:=q } ::l) ks ts h Q=WR P ro (stepT k (val ts) (fun b=>h[b]?) h.length) q d l ks ts h Q:=by
 cases k<;>first| exact absurd rfl (hk _ _)| exact absurd rfl (hb _ _)| rfl
def Fy{d f args q l}:WP P ro ({ dst:=d,k:=.call f args,gd:=none,q:=q } ::l) ks ts h Q=WF P ro q (val ts f) (args.map (val ts)) d l ks ts h Q:=rfl
def Mh{d k t b q l}:WP P ro ({ dst:=d,k:=k,gd:=some (t,b),q:=q } ::l) ks ts h Q=WG P ro (val ts (.t t)) b q k d l ks ts h Q:=rfl
def zm{d k b q l}(c:Bool)(hc:c≠b):WG P ro (.bool c) b q k d l ks ts h Q=WP P ro l ks (put ts d aA) h Q:=by
 simp only[WG,Yd hc]
def yo{d k b q l}:WG P ro (.bool b) b q k d l ks ts h Q=WP P ro ({ dst:=d,k:=k,gd:=none,q:=q } ::l) ks ts h Q:=by
 simp only[WG,Yh];rfl
def iT{v q d l}:WR P ro (some (v,.au)) q d l ks ts h Q=WP P ro l ks (put ts d v) h Q:=by
 simp only[WR,iA.quiet,iA.app,implies_true,aaD]
def mq{v k q d l}:WR P ro (some (v,.push k)) q d l ks ts h Q=WP P ro l ks (put ts d v) (h++ [k]) Q:=by
 simp only[WR,iA.quiet,iA.app,implies_true,aaD]
def rN{v b k d l}:WR P ro (some (v,.set b k)) false d l ks ts h Q=WP P ro l ks (put ts d v) (h.set b k) Q:=by
 exact z183
def nq{v b k k' d l}:WR P ro (some (v,.nK b k k')) false d l ks ts h Q=WP P ro l ks (put ts d v) (h.set b k++ [k']) Q:=by
 exact z183
def zo{a b}:WB P ro (.bool true) a b ks ts h Q=WC P ro a ks ts h Q:=by simp[WB]
def wC{a b}:WB P ro (.bool false) a b ks ts h Q=WC P ro b ks ts h Q:=by simp[WB]
def Py{I n R}:LQ I n R .normal ts h=∃m,m < n∧I m ts h:=rfl
def Pv{I n R id}:LQ I n R (.exit id) ts h=R (.exit id) ts h:=rfl
def Px{I n R}:LQ I n R .ret ts h=R .ret ts h:=rfl
def PC{rs R}:FQ rs R .normal ts h=FK (cO rs ts h) h R:=by
 exact JA
def PB{rs R}:FQ rs R .ret ts h=FK (cO rs ts h) h R:=by
 exact JA
def FL{v R}:FK (some v) h R=R v h:=rfl
def WL.inv(hmix:P.follows .mixedOrders=true){a}(I:Nat→TS→ah→Prop)(n:Nat)(h0:I n ts h)
  (step:∀ (n:Nat) (ts:TS) (h:ah),I n ts h→WC P ro a [] ts h (LQ I n (fun e ts h=>WE P ro e ks ts h Q))):WL P ro a ks ts h Q:=by
 have key:∀ (k n:Nat) (ts:TS) (h:ah),n≤k→I n ts h→∃e ts' h',(∀r,ro r→tH P r a ts h e ts' h')∧kq P ro ks Q e ts' h':=by
  intro k
  induction k with
  | zero=>
   intro n ts h hn hi;obtain⟨e,ts',h',h1,h2⟩:=W.sound hmix (step n ts h hi);cases e with
   | normal=>obtain⟨m,hm,_⟩:=h2;omega
   | exit id=>exact⟨_,ts',h',fun r hr=>.out (h1 r hr) Si,h2⟩
   | ret=>exact⟨_,ts',h',fun r hr=>.out (h1 r hr) Si,h2⟩
  | succ k ih=>
   intro n ts h hn hi;obtain⟨e,ts',h',h1,h2⟩:=W.sound hmix (step n ts h hi);cases e with
   | normal=>
    obtain⟨m,hm,hi'⟩:=h2;obtain⟨e2,Uf,h3,h4,h5⟩:=ih m ts' h' Om hi';exact⟨e2,Uf,h3,fun r hr=>.more (h1 r hr) (h4 r hr),h5⟩
   | exit id=>exact⟨_,ts',h',fun r hr=>.out (h1 r hr) Si,h2⟩
   | ret=>exact⟨_,ts',h',fun r hr=>.out (h1 r hr) Si,h2⟩
 exact key n n ts h (Yg _) h0
def ay(P:Program)(f:FuncId)(args:List AV)(h:ah)(R:AV→ah→Prop):Prop:=∃v g,lO P f args h v (h++g)∧R v (h++g)
def bF(P:Program)(fv:AV)(args:List AV)(h:ah)(R:AV→ah→Prop):Prop:=∃v g,fg P fv args h v (h++g)∧R v (h++g)
def da(P:Program)(f:FuncId)(args:List AV)(h:ah)(R:AV→ah→Prop):Prop:=∃v h',lO P f args h v h'∧R v h'
def da.of(hmix:P.follows .mixedOrders=true){f A}(hA:bQ P f=some A){args R}
  (H:WC P bR A.body [] (aU A.nt args) h (FQ A.rs R)):da P f args h R:=by
 obtain⟨e,ts',h',h1,h2,v,h3,h4⟩:=W.sound hmix H;exact⟨v,h',.KH hA (h1 none rfl) h2 h3,h4⟩
theorem ay.of(hmix:P.follows .mixedOrders=true){f A}(hA:bQ P f=some A){args R}
  (H:WC P bR A.body [] (aU A.nt args) h (FQ A.rs (fun v h'=>Ext h h'∧R v h'))):ay P f args h R:=by
 obtain⟨v,h',h1,⟨g,rfl⟩,h3⟩:=da.of hmix hA H;exact⟨v,g,h1,h3⟩
def ay.mono{f args R R'}(H:ay P f args h R)(hr:∀v g,R v (h++g)→R' v (h++g)):ay P f args h R':=by
 obtain⟨v,g,h1,h2⟩:=H;exact⟨v,g,h1,hr v g h2⟩
def bF.of{f A}(hA:bQ P f=some A){a c args R}(H:ay P f (a++args++c) h R):bF P (.func (.func f) a c) args h R:=by
 obtain⟨v,g,h1,h2⟩:=H;exact⟨v,g,.yR hA h1,h2⟩
def bF.zU{u:TypeId}{name f A}(hm:iD P u name=some f)(hA:bQ P f=some A){a args R}(H:ay P f (a::args) h R):bF P (.func (.method name) [] []) (.qh u a::args) h R:=by
 obtain⟨v,g,h1,h2⟩:=H;exact⟨v,g,.D1 hm hA h1,h2⟩
def WF.val{q fv args d l R}(H:bF P fv args h R)(K:∀v g,R v (h++g)→WP P ro l ks (put ts d v) (h++g) Q):WF P ro q fv args d l ks ts h Q:=by
 obtain⟨v,g,h1,h2⟩:=H;exact⟨v,h++g,h1,fun _=>⟨g,rfl⟩,K v g h2⟩
def WF.res{q f A}(hA:bQ P f=some A){a c args d l R}(H:ay P f (a++args++c) h R)(K:∀v g,R v (h++g)→WP P ro l ks (put ts d v) (h++g) Q):WF P ro q (.func (.func f) a c) args d l ks ts h Q:=
 WF.val (bF.of hA H) K
def WF.gen{f A}(hA:bQ P f=some A){a c args d l R}(H:da P f (a++args++c) h R)(K:∀v h',R v h'→WP P ro l ks (put ts d v) h' Q):WF P ro false (.func (.func f) a c) args d l ks ts h Q:=by
 obtain⟨v,h',h1,h2⟩:=H;exact⟨v,h',.yR hA h1,(fun hq=>absurd hq Si),K v h' h2⟩
end
end Go.Abs
namespace Go.Abs
inductive aK (h:ah):AV→Nat→List (List AV)→Prop
 | nil {es:Nat}:aK h .af es []
 | mk {b o es:Nat} {cs:List (List AV)} {c:List AV} {mu tl:Bool} (hb:h[b]? =some (.cells c mu tl)) (hf: (c.drop o).take (cs.length * es)=cs.flatten) (ho:o+cs.length * es≤c.length)
   (he:∀x∈cs,x.length=es):aK h (.slice b o cs.length es) es cs
inductive Fr (N:Nat) (h:ah):AV→Nat→List (List AV)→Prop
 | nil {es:Nat}:Fr N h .af es []
 | mk {b es:Nat} {cs:List (List AV)} {tl:Bool} (hN:N≤b) (hb:h[b]? =some (.cells cs.flatten true tl)) (he:∀x∈cs,x.length=es):Fr N h (.slice b 0 cs.length es) es cs
def AV.sb:AV→Nat
 | .slice b _ _ _=>b
 | _=>0
def AV.so:AV→Nat
 | .slice _ o _ _=>o
 | _=>0
theorem eE{es:Nat}:∀{cs:List (List AV)},(∀x∈cs,x.length=es)→cs.flatten.length=cs.length * es
 | [],_=>by simp
 | x::xs,he=>by
  have h1:=he x Si;have h2:=eE (cs:=xs) (fun y hy=>he y (YI _ hy));simp only[Zi,X2,X8,h1,h2,Zo];omega
theorem lJ{es:Nat}:∀{cs:List (List AV)},(∀x∈cs,x.length=es)→∀{i:Nat} (hi:i < cs.length),(cs.flatten.drop (i * es)).take es=cs[i]
 | [],_,i,hi=>by simp at hi
 | x::xs,he,0,_=>by
  have h1:=he x Si;simp[←h1]
 | x::xs,he,i+1,hi=>by
  have h1:=he x Si;have h2:=lJ (cs:=xs) (fun y hy=>he y (YI _ hy)) (i:=i) (by simpa using hi);simp only[Zi,List.getElem_cons_succ,←h2];congr 1;rw[Zo,Nat.add_comm,←h1,List.drop_append];simp
def Fr.aX{N:Nat}{h:ah}{s:AV}{es:Nat}{cs:List (List AV)}(hs:Fr N h s es cs):aK h s es cs:=by
 cases hs with
 | nil=>exact .nil
 | mk hN hb he=>
  have hl:=eE he;exact .mk hb (by rw[Zu,←hl,YF]) Om he
section
variable {h k:ah} {s:AV} {es:Nat} {cs:List (List AV)}
def aK.au(hs:aK h s es cs)(hk:∀b,b < h.length→(∀b0 o n e,s= .slice b0 o n e→b=b0)→k[b]? =h[b]?):aK k s es cs:=by
 cases hs with
 | nil=>exact .nil
 | mk hb hf ho he=>
  refine .mk ((hk _ (X1.1 hb).1 fun b0 o n e hx=>?_).trans hb) hf ho he;cases hx;rfl
def aK.ext(hs:aK h s es cs)(e:Ext h k):aK k s es cs:=hs.au fun _ hb _=>e.get hb
def aK.app(hs:aK h s es cs)(g:ah):aK (h++g) s es cs:=hs.ext ⟨g,rfl⟩
def Fr.au{N}(hs:Fr N h s es cs)(hk:∀b,b < h.length→(∀b0 o n e,s= .slice b0 o n e→b=b0)→k[b]? =h[b]?):Fr N k s es cs:=by
 cases hs with
 | nil=>exact .nil
 | mk hN hb he=>
  refine .mk hN ((hk _ (X1.1 hb).1 fun b0 o n e hx=>?_).trans hb) he;cases hx;rfl
def Fr.ext{N}(hs:Fr N h s es cs)(e:Ext h k):Fr N k s es cs:=hs.au fun _ hb _=>e.get hb
def Fr.app{N}(hs:Fr N h s es cs)(g:ah):Fr N (h++g) s es cs:=hs.ext ⟨g,rfl⟩
def Fr.low{N M}(hs:Fr N h s es cs)(hM:M≤N):Fr M h s es cs:=by
 cases hs with
 | nil=>exact .nil
 | mk hN hb he=>exact .mk Om hb he
def aK.rows(hs:aK h s es cs):∀x∈cs,x.length=es:=by
 cases hs with
 | nil=>simp
 | mk hb hf ho he=>exact he
theorem aK.iO(hs:aK h s es cs)(G:Nat→Option ak):iO .sl G s=some cs.length:=by
 cases hs<;>rfl
theorem aK.one(hs:aK h s es cs):s.one=true:=by
 cases hs<;>rfl
theorem aK.ff(hs:aK h s es cs):ff es (fun b=>h[b]?) s=some (cs.flatten,cs.length):=by
 cases hs with
 | nil=>rfl
 | mk hb hf ho he=>simp only[Go.Abs.ff,Ys,hb];rw[Yh ho,hf]
def aZ(es:Nat)(x i:AV):Option (AV×iA):=
 match x,i with
 | .slice b o n es',.int _ i=>if es' =es∧0≤i∧i < n then some (.ptr b (o+i.toNat * es),.au)else none
 | _,_=>none
def aq(n:Option Nat)(a:AV)(G:Nat→Option ak):Option (AV×iA):=
 match a with
 | .ptr b o=>
  match G b with
  | some (.cells c _ _)=>
   match n with
   | none=>
    match c[o]? with
    | some x=>some (x,.au)
    | none=>none
   | some n=>if o+n≤c.length then some (.agg ((c.drop o).take n),.au)else none
  | _=>none
 | _=>none
def AH(es:Nat)(x:AV)(lo hi:Option AV):Option (AV×iA):=
 match x with
 | .slice b o n es'=>
  if es' =es then
   match iR lo hi n with
   | some (l,h')=>some (.slice b (o+l * es) (h' - l) es,.au)
   | none=>none
  else none
 | .af=>
  match iR lo hi 0 with
  | some _=>some (.af,.au)
  | none=>none
 | _=>none
def aK.aS(hs:aK h s es cs){i:Int}{k:IntKind}(h0:0≤i)(h1:i < cs.length):aZ es s (.int k i)=some (.ptr s.sb (s.so+i.toNat * es),.au):=by
 cases hs with
 | nil=>simp at h1;omega
 | mk hb hf ho he=>show(if es=es∧0≤i∧i < cs.length then _ else none)=_;rw[Yh ⟨rfl,h0,h1⟩];rfl
def aK.load(hs:aK h s es cs){i:Nat}(hi:i < cs.length):aq (some es) (.ptr s.sb (s.so+i * es)) (fun b=>h[b]?)=some (.agg cs[i],.au):=by
 cases hs with
 | nil=>simp at hi
 | @mk b o es cs c mu tl hb hf ho he=>
  have hle:i * es+es≤cs.length * es:=by rw[←Zo];exact Zc _ hi
  have h1:=lJ he hi;show aq (some es) (.ptr b (o+i * es)) (fun b=>h[b]?)=_;simp only[aq,hb];rw[Yh Om,←h1,←hf,List.drop_take,List.take_take,ZD,ZW Om]
def aK.B7(hs:aK h s es cs){i off:Nat}(hi:i < cs.length){x:AV}(hx:cs[i][off]? =some x):aq none (.ptr s.sb (s.so+i * es+off)) (fun b=>h[b]?)=some (x,.au):=by
 cases hs with
 | nil=>simp at hi
 | @mk b o es cs c mu tl hb hf ho he=>
  have hle:i * es+es≤cs.length * es:=by rw[←Zo];exact Zc _ hi
  have h1:=lJ he hi;have h2:=he _ (Yi hi);have h3:=(X1.1 hx).1;rw[←h1,←hf,List.drop_take,List.take_take,ZD,ZW Om,List.getElem?_take]at hx;rw[Yh Om,aan]at hx;show aq none (.ptr b (o+i * es+off)) (fun b=>h[b]?)=_;simp only[aq,hb,hx]
def aK.F9(hs:aK h s 1 cs){i}(hi:i < cs.length){x}(hx:cs[i]= [x]):aq none (.ptr s.sb (s.so+i * 1)) (fun b=>h[b]?)=some (x,.au):=
 hs.B7 (off:=0) hi (by rw[hx];rfl)
def aK.sl(hs:aK h s es cs){lo hi l u}(hb:iR lo hi cs.length=some (l,u)):∃s',AH es s lo hi=some (s',.au)∧aK h s' es ((cs.drop l).take (u - l)):=by
 have VH:l≤u∧u≤cs.length:=by
  unfold iR at hb;split at hb
  case h_2=>cases hb
  split at hb
  case isFalse=>cases hb
  cases hb;omega
 cases hs with
 | nil=>
  simp only[X9]at hb;exact⟨.af,by simp only[AH,hb],by simp;exact .nil⟩
 | @mk b o es cs c mu tl hbk hf ho he=>
  have hlen: ((cs.drop l).take (u - l)).length=u - l:=by simp;omega
  refine⟨.slice b (o+l * es) (u - l) es,by simp only[AH,Ys,hb],?_⟩;have hul: (u - l) * es+l * es=u * es:=by rw[←aao];congr 1;omega
  have hu:u * es≤cs.length * es:=Zc _ VH.2;have:aK h (.slice b (o+l * es) ((cs.drop l).take (u - l)).length es) es ((cs.drop l).take (u - l)):=by
   refine .mk hbk ?_ (by rw[hlen];omega) fun x hx=>he x (List.mem_of_mem_drop (Zd hx))
   rw[hlen];have Xv:∀ (cs:List (List AV)) (l n:Nat),(∀x∈cs,x.length=es)→l+n≤cs.length→((cs.drop l).take n).flatten= (cs.flatten.drop (l * es)).take (n * es):=by
    intro cs
    induction cs with
    | nil=>intro l n _ _;simp
    | cons x xs ih=>
     intro l n hx VJ;have h1:=hx x Si;have h2:∀y∈xs,y.length=es:=fun y hy=>hx y (YI _ hy)
     cases l with
     | succ l=>
      rw[List.drop_succ_cons,ih l n h2 (by simp at VJ;omega),Zi,show(l+1) * es=x.length+l * es from by rw[h1,Zo,Nat.add_comm],←ZD,List.drop_left]
     | zero=>
      cases n with
      | zero=>simp
      | succ n=>
       have:=ih 0 n h2 (by simp at VJ;omega);simp only[Zu,aab]at this ⊢;rw[ZX,Zi,this,Zi,List.take_append,Zo,YN (l:=x) Om,h1];simp
   rw[Xv cs l (u - l) he Om,←hf,List.drop_take,List.take_take,ZD,ZW (by rw[Nat.sub_mul]at hul ⊢;omega)]
  rw[hlen]at this;exact this
def Fr.push{N}(hN:N≤h.length)(cs:List (List AV))(he:∀x∈cs,x.length=es):Fr N (h++ [.cells cs.flatten true true]) (.slice h.length 0 cs.length es) es cs:=
 .mk (tl:=true) hN Si he
end
end Go.Abs
namespace Go.Abs
section
variable (P:Program) (ro:Option Nat→Prop)
def WV(r:Option AV)(dst:Option Nat)(l:List bJ)(ks:List Kt)(ts:TS)(h:ah)(Q:Ex→TS→ah→Prop):Prop:=
 match r with
 | some v=>WP P ro l ks (put ts dst v) h Q
 | none=>False
end
def sZ(c a b:AV):Option AV:=
 match c with
 | .bool t=>some (if t then a else b)
 | _=>none
def od(n:Nat)(x:AV)(N0:Nat):Option (AV×iA):=if x.cells.all AV.one=true∧x.cells.length=n then some (.ptr N0 0,.push (.cells x.cells true false))else none
def pv(x:AV)(N0:Nat):Option (AV×iA):=if x.cells.all AV.one then some (.ptr N0 0,.push (.cells x.cells true false))else none
def aT(n:Nat)(a x:AV)(G:Nat→Option ak):Option (AV×iA):=
 match a with
 | .ptr b o=>
  match G b with
  | some (.cells c true tl)=>
   if x.cells.length=n∧x.cells.all AV.one=true∧o+n≤c.length then some (aA,.set b (.cells (fI c o x.cells) true tl))else none
  | _=>none
 | _=>none
def pg(x:AV):Option AV:=
 match x with
 | .ptr b o=>some (.ptr b o)
 | .func (.func f) a c=>some (.func (.func f) a c)
 | .func (.yield f) a c=>some (.func (.yield f) a c)
 | .func (.methodOf t n) a c=>some (.func (.methodOf t n) a c)
 | .func (.via t p f q) a c=>some (.func (.via t p f q) a c)
 | _=>none
def tg(es w:Nat)(z:List AV)(l c:AV)(N0:Nat):Option (AV×iA):=
 match l,c with
 | .int _ l,.int _ c=>
  if 0≤l∧l≤c∧(w:Int) * c≤2^48∧c < 2^63 then some (.slice N0 0 l.toNat es,.push (.cells (dK l.toNat z) true true))else none
 | _,_=>none
def uV(x:AV)(lo hi:Option AV):Option AV:=
 match x with
 | .str s=>
  match iR lo hi s.length with
  | some (l,h')=>some (.str ((s.drop l).take (h' - l)))
  | none=>none
 | _=>none
def tA(off:Nat)(x:AV):Option AV:=
 match x with
 | .ptr b o=>some (.ptr b (o+off))
 | _=>none
def mE(len es:Nat)(x i:AV):Option AV:=
 match x,i with
 | .ptr b o,.int _ i=>if 0≤i∧i < len then some (.ptr b (o+i.toNat * es))else none
 | _,_=>none
def yO(n:Option Nat)(off:Nat)(x:AV):Option AV:=
 match x with
 | .agg cs=>
  match n with
  | none=>cs[off]?
  | some n=>some (.agg ((cs.drop off).take n))
 | _=>none
def Lj(len es:Nat)(n:Option Nat)(x i:AV):Option AV:=
 match x,i with
 | .agg cs,.int _ i=>
  if 0≤i∧i < len then
   match n with
   | none=>cs[i.toNat * es]?
   | some n=>some (.agg ((cs.drop (i.toNat * es)).take n))
  else none
 | _,_=>none
def vL(x i:AV):Option AV:=
 match x,i with
 | .str s,.int _ i=>
  if 0≤i then
   match s[i.toNat]? with
   | some b=>some (.int .u8 b.toNat)
   | none=>none
  else none
 | _,_=>none
def H3(x:AV)(i:Nat):Option AV:=
 match x with
 | .dL l=>l[i]?
 | _=>none
def ub(o:Option Nat):Option AV:=
 match o with
 | some n=>some (.int .i64 n)
 | none=>none
def ui(neg:Bool)(o:Option Bool):Option AV:=
 match o with
 | some b=>some (.bool (if neg then !b else b))
 | none=>none
def rH(o:Option (List AV)):Option AV:=
 match o with
 | some c=>some (.agg c)
 | none=>none
def yh(es n:Nat)(o:Option (List AV))(N0:Nat):Option (AV×iA):=
 match o with
 | some c=>if c.all AV.one=true∧c.length=n * es then some (.slice N0 0 n es,.push (.cells c true (!Nat.beq n 0)))else none
 | none=>none
section
variable {P:Program} {ro:Option Nat→Prop} {ks:List Kt} {ts:TS} {h:ah} {Q:Ex→TS→ah→Prop} {d:Option Nat} {q:Bool} {l:List bJ}
def iH{r r'}(hr:r=r'.map fun v=>(v,.au)):WR P ro r q d l ks ts h Q=WV P ro r' d l ks ts h Q:=by
 subst hr;cases r' with
 | none=>rfl
 | some v=>exact iT
def ux{v}:WV P ro (some v) d l ks ts h Q=WP P ro l ks (put ts d v) h Q:=rfl
def C7{x}:WP P ro ({ dst:=d,k:=.aF x,gd:=none,q:=q } ::l) ks ts h Q=WP P ro l ks (put ts d (val ts x)) h Q:=iT
def Fm{c a b}:WP P ro ({ dst:=d,k:=.pick c a b,gd:=none,q:=q } ::l) ks ts h Q=WV P ro (sZ (val ts c) (val ts a) (val ts b)) d l ks ts h Q:=by
 rw[iI Si Si];refine iH ?_;simp only[stepT,mZ,sZ];cases val ts c<;>rfl
def IQ{x}:WP P ro ({ dst:=d,k:=.box x,gd:=none,q:=q } ::l) ks ts h Q=WR P ro (pv (val ts x) h.length) q d l ks ts h Q:=rfl
def Fz{n i x}:WP P ro ({ dst:=some i,k:=.nh n x,gd:=none,q:=q } ::l) ks ts h Q= (i < ts.length∧WR P ro (od n (val ts x) h.length) q (some i) l ks ts h Q):=rfl
def rO{z ps}:WP P ro ({ dst:=d,k:=.build z ps,gd:=none,q:=q } ::l) ks ts h Q=WV P ro (rH (eF z (ps.map fun p=>(p.1,p.2.1,val ts p.2.2)))) d l ks ts h Q:=by
 rw[iI Si Si];refine iH ?_;simp only[stepT,mZ,rH];cases eF z (ps.map fun p=>(p.1,p.2.1,val ts p.2.2))<;>rfl
def Ax{es n z ps}:WP P ro ({ dst:=d,k:=.aE es n z ps,gd:=none,q:=q } ::l) ks ts h Q=WR P ro (yh es n (eF (dK n z) (ps.map fun p=>(p.1,es,val ts p.2))) h.length) q d l ks ts h Q:=rfl
def Ft{n a}:WP P ro ({ dst:=d,k:=.load n a,gd:=none,q:=q } ::l) ks ts h Q=WR P ro (aq n (val ts a) (fun b=>h[b]?)) q d l ks ts h Q:=rfl
def C3{n a x}:WP P ro ({ dst:=d,k:=.store n a x,gd:=none,q:=q } ::l) ks ts h Q=WR P ro (aT n (val ts a) (val ts x) (fun b=>h[b]?)) q d l ks ts h Q:=rfl
def Aw{x}:WP P ro ({ dst:=d,k:=.bt x,gd:=none,q:=q } ::l) ks ts h Q=WV P ro (pg (val ts x)) d l ks ts h Q:=by
 rw[iI Si Si];refine iH ?_;exact z141
def IS{op x y}:WP P ro ({ dst:=d,k:=.bin op x y,gd:=none,q:=q } ::l) ks ts h Q=WV P ro (dY op (val ts x) (val ts y)) d l ks ts h Q:=by
 rw[iI Si Si];refine iH ?_;exact Jr
def IN{neg t x y}:WP P ro ({ dst:=d,k:=.eqv neg t x y,gd:=none,q:=q } ::l) ks ts h Q=WV P ro (ui neg (pr t (val ts x) (val ts y))) d l ks ts h Q:=by
 rw[iI Si Si];refine iH ?_;simp only[stepT,mZ,ui];cases pr t (val ts x) (val ts y)<;>rfl
def Md{op x}:WP P ro ({ dst:=d,k:=.un op x,gd:=none,q:=q } ::l) ks ts h Q=WV P ro (wL op (val ts x)) d l ks ts h Q:=by
 rw[iI Si Si];refine iH ?_;simp only[stepT,mZ];cases wL op (val ts x)<;>rfl
def uD{k x}:WP P ro ({ dst:=d,k:=.conv k x,gd:=none,q:=q } ::l) ks ts h Q=WR P ro (mG k (val ts x) (fun b=>h[b]?) h.length) q d l ks ts h Q:=rfl
def Fq{f a c}:WP P ro ({ dst:=d,k:=.kQ f a c,gd:=none,q:=q } ::l) ks ts h Q=WP P ro l ks (put ts d (.func f (a.map (val ts)) (c.map (val ts)))) h Q:=iT
def wB:WP P ro ({ dst:=d,k:=.lE,gd:=none,q:=q } ::l) ks ts h Q=WP P ro l ks (put ts d (.map h.length)) (h++ [.bn []]) Q:=mq
def Fp{es w z a c}:WP P ro ({ dst:=d,k:=.sg es w z a c,gd:=none,q:=q } ::l) ks ts h Q=WR P ro (tg es w z (val ts a) (val ts c) h.length) q d l ks ts h Q:=rfl
def Me{es x lo hi}:WP P ro ({ dst:=d,k:=.sl es x lo hi,gd:=none,q:=q } ::l) ks ts h Q=WR P ro (AH es (val ts x) (lo.map (val ts)) (hi.map (val ts))) q d l ks ts h Q:=rfl
def II{x lo hi}:WP P ro ({ dst:=d,k:=.pL x lo hi,gd:=none,q:=q } ::l) ks ts h Q=WV P ro (uV (val ts x) (lo.map (val ts)) (hi.map (val ts))) d l ks ts h Q:=by
 rw[iI Si Si];refine iH ?_;simp only[stepT,mZ,uV];cases val ts x with
 | str s=>simp only;cases iR (Option.map (val ts) lo) (Option.map (val ts) hi) s.length<;>rfl
 | _=>rfl
def Fx{off x}:WP P ro ({ dst:=d,k:=.aP off x,gd:=none,q:=q } ::l) ks ts h Q=WV P ro (tA off (val ts x)) d l ks ts h Q:=by
 rw[iI Si Si];refine iH ?_;simp only[stepT,mZ,tA];cases val ts x<;>rfl
def Fv{es x i}:WP P ro ({ dst:=d,k:=.aS es x i,gd:=none,q:=q } ::l) ks ts h Q=WR P ro (aZ es (val ts x) (val ts i)) q d l ks ts h Q:=rfl
def Fw{len es x i}:WP P ro ({ dst:=d,k:=.sj len es x i,gd:=none,q:=q } ::l) ks ts h Q=WV P ro (mE len es (val ts x) (val ts i)) d l ks ts h Q:=by
 rw[iI Si Si];refine iH ?_;simp only[stepT,mZ,mE];cases val ts x with
 | ptr b o=>cases val ts i<;>first| rfl| (simp only;split<;>rfl)
 | _=>rfl
def Fo{n off x}:WP P ro ({ dst:=d,k:=.part n off x,gd:=none,q:=q } ::l) ks ts h Q=WV P ro (yO n off (val ts x)) d l ks ts h Q:=by
 rw[iI Si Si];refine iH ?_;simp only[stepT,mZ,yO];cases val ts x with
 | agg cs=>cases n<;>first| rfl| (simp only;cases cs[off]? <;>rfl)
 | _=>rfl
def IL{len es n x i}:WP P ro ({ dst:=d,k:=.I6 len es n x i,gd:=none,q:=q } ::l) ks ts h Q=WV P ro (Lj len es n (val ts x) (val ts i)) d l ks ts h Q:=by
 rw[iI Si Si];refine iH ?_;simp only[stepT,mZ,Lj];cases val ts x with
 | agg cs=>
  cases val ts i with
  | int k j=>
   simp only;split
   ·cases n<;>first| rfl| (simp only;cases cs[j.toNat * es]? <;>rfl)
   ·rfl
  | _=>rfl
 | _=>rfl
def IK{x i}:WP P ro ({ dst:=d,k:=.qe x i,gd:=none,q:=q } ::l) ks ts h Q=WV P ro (vL (val ts x) (val ts i)) d l ks ts h Q:=by
 rw[iI Si Si];refine iH ?_;simp only[stepT,mZ,vL];cases val ts x with
 | str s=>
  cases val ts i with
  | int k j=>
   simp only;split
   ·cases s[j.toNat]? <;>rfl
   ·rfl
  | _=>rfl
 | _=>rfl
def Fs{kk z ok m k}:WP P ro ({ dst:=d,k:=.look kk z ok m k,gd:=none,q:=q } ::l) ks ts h Q=WR P ro (stepT (.look kk z ok m k) (val ts) (fun b=>h[b]?) h.length) q d l ks ts h Q:=rfl
def uC{kk m k x}:WP P ro ({ dst:=d,k:=.fj kk m k x,gd:=none,q:=q } ::l) ks ts h Q=WR P ro (stepT (.fj kk m k x) (val ts) (fun b=>h[b]?) h.length) q d l ks ts h Q:=rfl
def C6{x}:WP P ro ({ dst:=d,k:=.nS x,gd:=none,q:=q } ::l) ks ts h Q=WR P ro (stepT (.nS x) (val ts) (fun b=>h[b]?) h.length) q d l ks ts h Q:=rfl
def IM{x i}:WP P ro ({ dst:=d,k:=.ext x i,gd:=none,q:=q } ::l) ks ts h Q=WV P ro (H3 (val ts x) i) d l ks ts h Q:=by
 rw[iI Si Si];refine iH ?_;simp only[stepT,mZ,H3];cases val ts x with
 | dL cs=>simp only;cases cs[i]? <;>rfl
 | _=>rfl
def IJ{lk x}:WP P ro ({ dst:=d,k:=.len lk x,gd:=none,q:=q } ::l) ks ts h Q=WV P ro (ub (iO lk (fun b=>h[b]?) (val ts x))) d l ks ts h Q:=by
 rw[iI Si Si];refine iH ?_;simp only[stepT,mZ,ub];cases iO lk (fun b=>h[b]?) (val ts x)<;>rfl
def Fu{n}:WP P ro ({ dst:=d,k:=.zW n,gd:=none,q:=q } ::l) ks ts h Q=WP P ro l ks (put ts d (.int .i64 n)) h Q:=iT
def IT{es w x y}:WP P ro ({ dst:=d,k:=.app es w x y,gd:=none,q:=q } ::l) ks ts h Q=WR P ro (pB es w (val ts x) (val ts y) (fun b=>h[b]?) h.length) q d l ks ts h Q:=rfl
def IP{es x y}:WP P ro ({ dst:=d,k:=.wI es x y,gd:=none,q:=q } ::l) ks ts h Q=WR P ro (stepT (.wI es x y) (val ts) (fun b=>h[b]?) h.length) q d l ks ts h Q:=rfl
def Mf{x m}:WP P ro ({ dst:=d,k:=.mx x m,gd:=none,q:=q } ::l) ks ts h Q=WV P ro (gZ pU (val ts x) (m.map (val ts))) d l ks ts h Q:=by
 rw[iI Si Si];refine iH ?_;simp only[stepT,mZ];cases gZ pU (val ts x) (m.map (val ts))<;>rfl
def Mg{x m}:WP P ro ({ dst:=d,k:=.mn x m,gd:=none,q:=q } ::l) ks ts h Q=WV P ro (gZ pT (val ts x) (m.map (val ts))) d l ks ts h Q:=by
 rw[iI Si Si];refine iH ?_;simp only[stepT,mZ];cases gZ pT (val ts x) (m.map (val ts))<;>rfl
def EZ{k a b}:dY .add (.int k a) (.int k b)=some (.int k (k.wrap (a+b))):=by simp[dY,eM,fJ]
def EO{k a b}:dY .sub (.int k a) (.int k b)=some (.int k (k.wrap (a - b))):=by simp[dY,eM,fJ]
def ES{k a b}:dY .mul (.int k a) (.int k b)=some (.int k (k.wrap (a * b))):=by simp[dY,eM,fJ]
def EP{k a b}(hb:b≠0):dY .quo (.int k a) (.int k b)=some (.int k (k.wrap (a.tdiv b))):=by simp[dY,eM,fJ,hb]
def oh{k a b}(hb:b≠0):dY .rem (.int k a) (.int k b)=some (.int k (a.tmod b)):=by simp[dY,eM,fJ,hb]
def EY{k a b}:dY .eql (.int k a) (.int k b)=some (.bool (decide (a=b))):=by simp[dY,eM,fJ];rfl
def ER{k a b}:dY .neq (.int k a) (.int k b)=some (.bool (decide (a≠b))):=by
 simp only[dY,eM,fJ,Ys,YS,Yo,Yy,AV.bool.injEq];by_cases hab:a=b<;>simp[hab]
def ET{k a b}:dY .lss (.int k a) (.int k b)=some (.bool (decide (a < b))):=by simp[dY,eM,fJ]
def EU{k a b}:dY .leq (.int k a) (.int k b)=some (.bool (decide (a≤b))):=by simp[dY,eM,fJ]
def EW{k a b}:dY .gtr (.int k a) (.int k b)=some (.bool (decide (b < a))):=by simp[dY,eM,fJ]
def EX{k a b}:dY .geq (.int k a) (.int k b)=some (.bool (decide (b≤a))):=by simp[dY,eM,fJ]
def jz{x y}(hl:x.length+y.length < 2^62):dY .add (.str x) (.str y)=some (.str (x++y)):=by simp only[dY,qK,Yh hl]
def CI{x y}:dY .eql (.str x) (.str y)=some (.bool (decide (x=y))):=by
 exact z138
def CH{x y}:dY .neq (.str x) (.str y)=some (.bool (decide (x≠y))):=by
 exact z138
def GU{b}:wL .not (.bool b)=some (.bool !b):=rfl
def GW{k a}:wL .neg (.int k a)=some (.int k (k.wrap (0 - a))):=rfl
def N4{k a b}:gZ pU (.int k a) [.int k b]=some (.int k (max a b)):=by
 simp only[gZ,pU,Ys,Yy,AV.int.injEq,aaD];omega
def N5{k a b}:gZ pT (.int k a) [.int k b]=some (.int k (min a b)):=by
 simp only[gZ,pT,Ys,Yy,AV.int.injEq,aaD];omega
def bo{n}(h1:-9223372036854775808≤n)(h2:n≤9223372036854775807):IntKind.i64.wrap n=n:=by
 simp only[IntKind.wrap,IntKind.signed,IntKind.bits,ZA,YO,show(64 - 1:Nat)=63 from rfl];split<;>omega
end
end Go.Abs
namespace Go.Abs
def A2{a b:Prop}(xa:a)(xb:b):a∧b:=⟨xa,xb⟩
def A3{a b c:Prop}(xa:a)(xb:b)(xc:c):a∧b∧c:=⟨xa,xb,xc⟩
def A4{a b c d:Prop}(xa:a)(xb:b)(xc:c)(xd:d):a∧b∧c∧d:=⟨xa,xb,xc,xd⟩
def A5{a b c d e:Prop}(xa:a)(xb:b)(xc:c)(xd:d)(xe:e):a∧b∧c∧d∧e:=⟨xa,xb,xc,xd,xe⟩
def A6{a b c d e f:Prop}(xa:a)(xb:b)(xc:c)(xd:d)(xe:e)(xf:f):a∧b∧c∧d∧e∧f:=⟨xa,xb,xc,xd,xe,xf⟩
def A7{a b c d e f g:Prop}(xa:a)(xb:b)(xc:c)(xd:d)(xe:e)(xf:f)(xg:g):a∧b∧c∧d∧e∧f∧g:=⟨xa,xb,xc,xd,xe,xf,xg⟩
def A8{a b c d e f g h:Prop}(xa:a)(xb:b)(xc:c)(xd:d)(xe:e)(xf:f)(xg:g)(xh:h):a∧b∧c∧d∧e∧f∧g∧h:=⟨xa,xb,xc,xd,xe,xf,xg,xh⟩
def A9{a b c d e f g h i:Prop}(xa:a)(xb:b)(xc:c)(xd:d)(xe:e)(xf:f)(xg:g)(xh:h)(xi:i):a∧b∧c∧d∧e∧f∧g∧h∧i:=⟨xa,xb,xc,xd,xe,xf,xg,xh,xi⟩
def nv{a b c d e f g h i j:Prop}(xa:a)(xb:b)(xc:c)(xd:d)(xe:e)(xf:f)(xg:g)(xh:h)(xi:i)(xj:j):a∧b∧c∧d∧e∧f∧g∧h∧i∧j:=⟨xa,xb,xc,xd,xe,xf,xg,xh,xi,xj⟩
def nw{a b c d e f g h i j k:Prop}(xa:a)(xb:b)(xc:c)(xd:d)(xe:e)(xf:f)(xg:g)(xh:h)(xi:i)(xj:j)(xk:k):a∧b∧c∧d∧e∧f∧g∧h∧i∧j∧k:=⟨xa,xb,xc,xd,xe,xf,xg,xh,xi,xj,xk⟩
def pJ{a b c d e f g h i j k l:Prop}(xa:a)(xb:b)(xc:c)(xd:d)(xe:e)(xf:f)(xg:g)(xh:h)(xi:i)(xj:j)(xk:k)(xl:l):a∧b∧c∧d∧e∧f∧g∧h∧i∧j∧k∧l:=⟨xa,xb,xc,xd,xe,xf,xg,xh,xi,xj,xk,xl⟩
def GH{a b c d e f g h i j k l m:Prop}(xa:a)(xb:b)(xc:c)(xd:d)(xe:e)(xf:f)(xg:g)(xh:h)(xi:i)(xj:j)(xk:k)(xl:l)(xm:m):a∧b∧c∧d∧e∧f∧g∧h∧i∧j∧k∧l∧m:=⟨xa,xb,xc,xd,xe,xf,xg,xh,xi,xj,xk,xl,xm⟩
def AF{a b c d e f g h i j k l m n:Prop}(xa:a)(xb:b)(xc:c)(xd:d)(xe:e)(xf:f)(xg:g)(xh:h)(xi:i)(xj:j)(xk:k)(xl:l)(xm:m)(xn:n):a∧b∧c∧d∧e∧f∧g∧h∧i∧j∧k∧l∧m∧n:=⟨xa,xb,xc,xd,xe,xf,xg,xh,xi,xj,xk,xl,xm,xn⟩
def Db{a b c d e f g h i j k l m n o:Prop}(xa:a)(xb:b)(xc:c)(xd:d)(xe:e)(xf:f)(xg:g)(xh:h)(xi:i)(xj:j)(xk:k)(xl:l)(xm:m)(xn:n)(xo:o):a∧b∧c∧d∧e∧f∧g∧h∧i∧j∧k∧l∧m∧n∧o:=⟨xa,xb,xc,xd,xe,xf,xg,xh,xi,xj,xk,xl,xm,xn,xo⟩
def FN{a b c d e f g h i j k l m n o p:Prop}(xa:a)(xb:b)(xc:c)(xd:d)(xe:e)(xf:f)(xg:g)(xh:h)(xi:i)(xj:j)(xk:k)(xl:l)(xm:m)(xn:n)(xo:o)(xp:p):a∧b∧c∧d∧e∧f∧g∧h∧i∧j∧k∧l∧m∧n∧o∧p:=⟨xa,xb,xc,xd,xe,xf,xg,xh,xi,xj,xk,xl,xm,xn,xo,xp⟩
def Jg{a b c d e f g h i j k l m n o p q:Prop}(xa:a)(xb:b)(xc:c)(xd:d)(xe:e)(xf:f)(xg:g)(xh:h)(xi:i)(xj:j)(xk:k)(xl:l)(xm:m)(xn:n)(xo:o)(xp:p)(xq:q):a∧b∧c∧d∧e∧f∧g∧h∧i∧j∧k∧l∧m∧n∧o∧p∧q:=⟨xa,xb,xc,xd,xe,xf,xg,xh,xi,xj,xk,xl,xm,xn,xo,xp,xq⟩
def GG{a b c d e f g h i j k l m n o p q r:Prop}(xa:a)(xb:b)(xc:c)(xd:d)(xe:e)(xf:f)(xg:g)(xh:h)(xi:i)(xj:j)(xk:k)(xl:l)(xm:m)(xn:n)(xo:o)(xp:p)(xq:q)(xr:r):a∧b∧c∧d∧e∧f∧g∧h∧i∧j∧k∧l∧m∧n∧o∧p∧q∧r:=⟨xa,xb,xc,xd,xe,xf,xg,xh,xi,xj,xk,xl,xm,xn,xo,xp,xq,xr⟩
def Mp{a b c d e f g h i j k l m n o p q r s:Prop}(xa:a)(xb:b)(xc:c)(xd:d)(xe:e)(xf:f)(xg:g)(xh:h)(xi:i)(xj:j)(xk:k)(xl:l)(xm:m)(xn:n)(xo:o)(xp:p)(xq:q)(xr:r)(xs:s):a∧b∧c∧d∧e∧f∧g∧h∧i∧j∧k∧l∧m∧n∧o∧p∧q∧r∧s:=⟨xa,xb,xc,xd,xe,xf,xg,xh,xi,xj,xk,xl,xm,xn,xo,xp,xq,xr,xs⟩
def Mo{a b c d e f g h i j k l m n o p q r s t:Prop}(xa:a)(xb:b)(xc:c)(xd:d)(xe:e)(xf:f)(xg:g)(xh:h)(xi:i)(xj:j)(xk:k)(xl:l)(xm:m)(xn:n)(xo:o)(xp:p)(xq:q)(xr:r)(xs:s)(xt:t):a∧b∧c∧d∧e∧f∧g∧h∧i∧j∧k∧l∧m∧n∧o∧p∧q∧r∧s∧t:=⟨xa,xb,xc,xd,xe,xf,xg,xh,xi,xj,xk,xl,xm,xn,xo,xp,xq,xr,xs,xt⟩
def Qs{a b c d e f g h i j k l m n o p q r s t u:Prop}(xa:a)(xb:b)(xc:c)(xd:d)(xe:e)(xf:f)(xg:g)(xh:h)(xi:i)(xj:j)(xk:k)(xl:l)(xm:m)(xn:n)(xo:o)(xp:p)(xq:q)(xr:r)(xs:s)(xt:t)(xu:u):a∧b∧c∧d∧e∧f∧g∧h∧i∧j∧k∧l∧m∧n∧o∧p∧q∧r∧s∧t∧u:=⟨xa,xb,xc,xd,xe,xf,xg,xh,xi,xj,xk,xl,xm,xn,xo,xp,xq,xr,xs,xt,xu⟩
def MG{a b c d e f g h i j k l m n o p q r s t u v:Prop}(xa:a)(xb:b)(xc:c)(xd:d)(xe:e)(xf:f)(xg:g)(xh:h)(xi:i)(xj:j)(xk:k)(xl:l)(xm:m)(xn:n)(xo:o)(xp:p)(xq:q)(xr:r)(xs:s)(xt:t)(xu:u)(xv:v):a∧b∧c∧d∧e∧f∧g∧h∧i∧j∧k∧l∧m∧n∧o∧p∧q∧r∧s∧t∧u∧v:=⟨xa,xb,xc,xd,xe,xf,xg,xh,xi,xj,xk,xl,xm,xn,xo,xp,xq,xr,xs,xt,xu,xv⟩
def Jf{a b c d e f g h i j k l m n o p q r s t u v w:Prop}(xa:a)(xb:b)(xc:c)(xd:d)(xe:e)(xf:f)(xg:g)(xh:h)(xi:i)(xj:j)(xk:k)(xl:l)(xm:m)(xn:n)(xo:o)(xp:p)(xq:q)(xr:r)(xs:s)(xt:t)(xu:u)(xv:v)(xw:w):a∧b∧c∧d∧e∧f∧g∧h∧i∧j∧k∧l∧m∧n∧o∧p∧q∧r∧s∧t∧u∧v∧w:=⟨xa,xb,xc,xd,xe,xf,xg,xh,xi,xj,xk,xl,xm,xn,xo,xp,xq,xr,xs,xt,xu,xv,xw⟩
def FM{a b c d e f g h i j k l m n o p q r s t u v w x:Prop}(xa:a)(xb:b)(xc:c)(xd:d)(xe:e)(xf:f)(xg:g)(xh:h)(xi:i)(xj:j)(xk:k)(xl:l)(xm:m)(xn:n)(xo:o)(xp:p)(xq:q)(xr:r)(xs:s)(xt:t)(xu:u)(xv:v)(xw:w)(xx:x):a∧b∧c∧d∧e∧f∧g∧h∧i∧j∧k∧l∧m∧n∧o∧p∧q∧r∧s∧t∧u∧v∧w∧x:=⟨xa,xb,xc,xd,xe,xf,xg,xh,xi,xj,xk,xl,xm,xn,xo,xp,xq,xr,xs,xt,xu,xv,xw,xx⟩
section
variable {P:Program} {ro:Option Nat→Prop} {ks:List Kt} {ts:TS} {h:ah} {Q:Ex→TS→ah→Prop} {d:Option Nat} {q:Bool} {l:List bJ}
def FA{k}{p:Prop}[Decidable p] :WG P ro (.bool (decide p)) true q k d l ks ts h Q= ((p→WP P ro ({ dst:=d,k:=k,gd:=none,q:=q } ::l) ks ts h Q)∧(¬p→WP P ro l ks (put ts d aA) h Q)):=by
 by_cases hp:p
 ·simp only[hp,Yk,yo];simp
 ·simp only[hp,Yp];rw[zm false Si];simp
def FB{k}{p:Prop}[Decidable p] :WG P ro (.bool (decide p)) false q k d l ks ts h Q= ((p→WP P ro l ks (put ts d aA) h Q)∧(¬p→WP P ro ({ dst:=d,k:=k,gd:=none,q:=q } ::l) ks ts h Q)):=by
 by_cases hp:p
 ·simp only[hp,Yk];rw[zm true Si];simp
 ·simp only[hp,Yp,yo];simp
def Mi{k}:WG P ro (.bool true) false q k d l ks ts h Q=WP P ro l ks (put ts d aA) h Q:=zm true Si
def Mj{k}:WG P ro (.bool false) true q k d l ks ts h Q=WP P ro l ks (put ts d aA) h Q:=zm false Si
def IW{a b}{p:Prop}[Decidable p] :WB P ro (.bool (decide p)) a b ks ts h Q= ((p→WC P ro a ks ts h Q)∧(¬p→WC P ro b ks ts h Q)):=by
 by_cases hp:p
 ·simp only[hp,Yk,zo];simp
 ·simp only[hp,Yp,wC];simp
def Hj{a b}:sZ (.bool true) a b=some a:=rfl
def Hk{a b}:sZ (.bool false) a b=some b:=rfl
def slot(ts:TS)(i:Nat):AV:=ts.getD i aA
def uM{i}:val ts (.t i)=slot ts i:=rfl
def yv{v}:val ts (.c v)=v:=rfl
def J9{i}:val ts (.g i)= .ptr i 0:=rfl
def Ka{i}:val ts (.f i)= .func (.func i) [] []:=rfl
def pP{i v}:put ts (some i) v=ts.set i v:=rfl
def BT{v}:put ts none v=ts:=rfl
def G3{a l}:slot (a::l) 0=a:=rfl
def G2{a l n}:slot (a::l) (n+1)=slot l n:=rfl
def HK{a:AV}{l:List AV}: (a::l).length=l.length+1:=rfl
def HL: ([] :List AV).length=0:=rfl
def HH{a:AV}:List.replicate 0 a= []:=rfl
def HO{a:AV}{l m:List AV}: (a::l)++m=a:: (l++m):=rfl
def HP{m:List AV}: []++m=m:=rfl
def HG{a b:AV}{l:List AV}: (a::l).set 0 b=b::l:=rfl
def HF{a b:AV}{l:List AV}{n:Nat}: (a::l).set (n+1) b=a::l.set n b:=rfl
def HJ{f:cT→AV}:List.map f []= []:=rfl
def HI{f:cT→AV}{a:cT}{l:List cT}:List.map f (a::l)=f a::l.map f:=rfl
def Hq{f:cT→AV}:Option.map f none=none:=rfl
def Hp{f:cT→AV}{a:cT}:Option.map f (some a)=some (f a):=rfl
def HZ{off b o}:tA off (.ptr b o)=some (.ptr b (o+off)):=rfl
def HE{n}:ub (some n)=some (.int .i64 n):=rfl
def D7{G s}:iO .st G (.str s)=some s.length:=rfl
def KQ{b o}:pg (.ptr b o)=some (.ptr b o):=rfl
def KR{f a c}:pg (.func (.func f) a c)=some (.func (.func f) a c):=rfl
def KP{f a c}:pg (.func (.yield f) a c)=some (.func (.yield f) a c):=rfl
def LH{l i}:H3 (.dL l) i=l[i]? :=rfl
def Hn{cs off}:yO none off (.agg cs)=cs[off]? :=rfl
def Hl{cs off n}:yO (some n) off (.agg cs)=some (.agg ((cs.drop off).take n)):=rfl
def CE{c}:rH (some c)=some (.agg c):=rfl
def BL{r}:cO [(r,none)] ts h=some (slot ts r):=rfl
def BK{r s}:cO [(r,none),(s,none)] ts h=some (.dL [slot ts r,slot ts s]):=rfl
def BJ{r s t}:cO [(r,none),(s,none),(t,none)] ts h=some (.dL [slot ts r,slot ts s,slot ts t]):=rfl
def w8{n args}:aU n args=args++List.replicate (n - args.length) aA:=rfl
def KB{n:Nat}{a:AV}:List.replicate (n+1) a=a::List.replicate n a:=rfl
def EG{k k' n G N}:mG (.uc k) (.int k' n) G N=some (.int k (k.wrap n),.au):=rfl
def jW{u:TypeId}{x G N}:mG (.qh u) x G N=some (.qh u x,.au):=rfl
def Aj{s G N}:mG .same (.str s) G N=some (.str s,.au):=rfl
def EM{k n N}:pv (.int k n) N=some (.ptr N 0,.push (.cells [.int k n] true false)):=rfl
def CG{b N}:pv (.bool b) N=some (.ptr N 0,.push (.cells [.bool b] true false)):=rfl
def EL{s N}:pv (.str s) N=some (.ptr N 0,.push (.cells [.str s] true false)):=rfl
def EN{l N}(hl:l.all AV.one=true):pv (.agg l) N=some (.ptr N 0,.push (.cells l true false)):=by
 show(if l.all AV.one then _ else none)=_;rw[Yh hl];rfl
end
def Pu{P ro ks ts h Q d q l k b}:WG P ro aA b q k d l ks ts h Q=WP P ro l ks (put ts d aA) h Q:=rfl
def Gu{h}:Ext h h=True:=aaF (Ext.refl h)
def Gt{h a}:Ext h (h++a)=True:=aaF (by repeat first| exact Ext.refl _| refine Ext.app _ ?_)
def Gs{h a b}:Ext h (h++a++b)=True:=aaF (by repeat first| exact Ext.refl _| refine Ext.app _ ?_)
def Gr{h a b c}:Ext h (h++a++b++c)=True:=aaF (by repeat first| exact Ext.refl _| refine Ext.app _ ?_)
def Gq{h a b c d}:Ext h (h++a++b++c++d)=True:=aaF (by repeat first| exact Ext.refl _| refine Ext.app _ ?_)
def Gp{h a b c d e}:Ext h (h++a++b++c++d++e)=True:=aaF (by repeat first| exact Ext.refl _| refine Ext.app _ ?_)
def Gn{h a b c d e f}:Ext h (h++a++b++c++d++e++f)=True:=aaF (by repeat first| exact Ext.refl _| refine Ext.app _ ?_)
def Gm{h a b c d e f g}:Ext h (h++a++b++c++d++e++f++g)=True:=aaF (by repeat first| exact Ext.refl _| refine Ext.app _ ?_)
def Gk{h a b c d e f g i}:Ext h (h++a++b++c++d++e++f++g++i)=True:=aaF (by repeat first| exact Ext.refl _| refine Ext.app _ ?_)
def Gj{h a b c d e f g i j}:Ext h (h++a++b++c++d++e++f++g++i++j)=True:=aaF (by repeat first| exact Ext.refl _| refine Ext.app _ ?_)
def L8{p:Prop}: (True∧p)=p:=aaD p
def I5(f:Nat→AV):Nat→Nat→TS
 | 0,_=>[]
 | n+1,i=>f i::I5 f n (i+1)
def KV{f i}:I5 f 0 i= []:=rfl
def F8{f n i}:I5 f (n+1) i=f i::I5 f n (i+1):=rfl
theorem B5(f:Nat→AV):∀ (n i:Nat) (ts:TS),ts.length=n→(∀k,k < n→f (i+k)=slot ts k)→ts=I5 f n i
 | 0,_,ts,h,_=>Y9.1 h
 | n+1,i,[],h,_=>by simp at h
 | n+1,i,x::xs,h,hf=>by
  rw[F8,←B5 f n (i+1) xs (by simpa using h) fun k hk=>by have:=hf (k+1) Om;rw[show i+1+k=i+ (k+1) by omega,this];rfl];rw[←aay i,hf 0 Om];rfl
def kT(ts:TS)(n:Nat)(h:ts.length=n):ts=I5 (fun i=>slot ts i) n 0:=B5 _ n 0 ts h fun k _=>by rw[YR]
def aW:=A6 (FM @FF @rQ @rP @FI @C8 @FG @FH @IV @uE @FD @FE @AA @Ay @Az @IU @C5 @Fy @Mh @yo @Mi @Mj @iT @mq @rN) (FM @nq @ux @zo @wC @Py @Pv @Px @PC @PB @FL @C7 @Fm @IQ @rO @Ax @Ft @C3 @Aw @IS @IN @Md @uD @Fq @wB) (FM @Fp @Me @II @Fx @Fv @Fw @Fo @IL @IK @Fs @uC @C6 @IM @IJ @Fu @IT @IP @Mf @Mg @EZ @EO @ES @EY @ER) (FM @ET @EU @EW @EX @CI @CH @GU @GW @N4 @N5 @Hj @Hk @uM @yv @J9 @Ka @pP @BT @G3 @G2 @HZ @HE @D7 @KQ) (FM @KR @KP @LH @Hn @Hl @CE @BL @BK @BJ @w8 @KB @HK @HL @HH @HO @HP @HG @HF @HJ @HI @Hq @Hp @EG @Aj) (Jg @Pu @Gu @Gt @Gs @Gr @Gq @Gp @Gn @Gm @Gk @Gj @L8 @KV @F8 @EM @CG @EL)
def mJ:
  (∀{P} {ro} {ks} {ts} {h} {Q} {d} {q} {l} {k} {p:Prop} [Decidable p],WG P ro (.bool (decide p)) true q k d l ks ts h Q= ((p→WP P ro ({ dst:=d,k:=k,gd:=none,q:=q } ::l) ks ts h Q)∧(¬p→WP P ro l ks (put ts d aA) h Q)))∧
  (∀{P:Program} {ro:Option Nat→Prop} {ks:List Kt} {ts:TS} {h:ah} {Q:Ex→TS→ah→Prop} {d:Option Nat} {q:Bool} {l:List bJ} {k:oZ} {p:Prop} [Decidable p],WG P ro (.bool (decide p)) false q k d l ks ts h Q= ((p→WP P ro l ks (put ts d aA) h Q)∧(¬p→WP P ro ({ dst:=d,k:=k,gd:=none,q:=q } ::l) ks ts h Q)))∧
  (∀{P:Program} {ro:Option Nat→Prop} {ks:List Kt} {ts:TS} {h:ah} {Q:Ex→TS→ah→Prop} {a b:ai} {p:Prop} [Decidable p],WB P ro (.bool (decide p)) a b ks ts h Q= ((p→WC P ro a ks ts h Q)∧(¬p→WC P ro b ks ts h Q))):=
 ⟨@FA,@FB,@IW⟩
end Go.Abs
namespace Go.Abs
def c6{h:ah}{b:Nat}(a:ah)(hb:b < h.length): (h++a)[b]? =h[b]? :=X5 hb
def eI{h:ah}{b:Nat}(a:ah)(k:ak)(hb:b < h.length): (h++a).set b k=h.set b k++a:=List.set_append_left _ _ hb
def yJ{X:ah}{k k':ak}: (X++ [k]).set X.length k' =X++ [k']:=by
 rw[YX _ _ (Yg _)];simp
def ba{X:ah}{k:ak}: (X++ [k])[X.length]? =some k:=Si
def dE(n:Option Nat)(o:Nat):ak→Option (AV×iA)
 | .cells c _ _=>
  match n with
  | none=>
   match c[o]? with
   | some x=>some (x,.au)
   | none=>none
  | some n=>if o+n≤c.length then some (.agg ((c.drop o).take n),.au)else none
 | _=>none
def kV(n o:Nat)(v:AV)(b:Nat):ak→Option (AV×iA)
 | .cells c true tl=>if v.cells.length=n∧v.cells.all AV.one=true∧o+n≤c.length then some (aA,.set b (.cells (fI c o v.cells) true tl))else none
 | _=>none
def az{n:Option Nat}{b o:Nat}{G:Nat→Option ak}{k:ak}(hb:G b=some k):aq n (.ptr b o) G=dE n o k:=by
 simp only[aq,hb];cases k<;>rfl
def aN{n b o:Nat}{v:AV}{G:Nat→Option ak}{k:ak}(hb:G b=some k):aT n (.ptr b o) v G=kV n o v b k:=by
 simp only[aT,hb];cases k with
 | cells c mu tl=>cases mu<;>rfl
 | _=>rfl
def dV(b:Nat)(s:By)(pos:Nat):Option (AV×iA):=
 if pos < s.length then some (.dL [.bool true,.int .i64 pos,.int .i32 (Utf8.decode ⟨⟨s⟩⟩ pos).1],.set b (.iter s (pos+ (Utf8.decode ⟨⟨s⟩⟩ pos).2)))else some (.dL [.bool false],.au)
def fw(x:AV)(G:Nat→Option ak):Option (AV×iA):=
 match x with
 | .ptr b 0=>
  match G b with
  | some (.iter s pos)=>dV b s pos
  | _=>none
 | _=>none
def dF{b pos:Nat}{s:By}{G:Nat→Option ak}(hb:G b=some (.iter s pos)):fw (.ptr b 0) G=dV b s pos:=by
 simp only[fw,hb]
def uU{x:cT}{ρ:cT→AV}{G:Nat→Option ak}{N:Nat}:stepT (.nS x) ρ G N=fw (ρ x) G:=by
 simp only[stepT,mZ,fw,dV];cases ρ x with
 | ptr b o=>
  cases o with
  | zero=>
   simp only;cases G b with
   | none=>rfl
   | some k=>cases k<;>rfl
  | succ o=>rfl
 | _=>rfl
def F3(x:AV)(N:Nat):Option (AV×iA):=
 match x with
 | .str s=>some (.ptr N 0,.push (.iter s 0))
 | _=>none
def C4{P:Program}{ro:Option Nat→Prop}{ks:List Kt}{ts:TS}{h:ah}{Q:Ex→TS→ah→Prop}{d:Option Nat}{q:Bool}{l:List bJ}{x:cT}:WP P ro ({ dst:=d,k:=.xD x,gd:=none,q:=q } ::l) ks ts h Q=WR P ro (F3 (val ts x) h.length) q d l ks ts h Q:=rfl
def He{s:By}{N:Nat}:F3 (.str s) N=some (.ptr N 0,.push (.iter s 0)):=rfl
def Fa{X:ah}{K}: (X++ [K])[X.length]? =some K:=by
 exact ba
def Og{n o X K}:aq n (.ptr X.length o) (fun z=>(X++ [K])[z]?)=dE n o K:=az Fa
def Nc{y o v X K}:aT y (.ptr X.length o) v (fun z=>(X++ [K])[z]?)=kV y o v X.length K:=aN Fa
def NY{pos s X}:fw (.ptr X.length 0) (fun z=>(X++ [.iter s pos])[z]?)=dV X.length s pos:=dF Fa
def Bp{X:ah}{K K'}: (X++ [K]).set X.length K' =X++ [K']:=by
 exact yJ
def uq{X:ah}{K a}: (X++ [K]++a)[X.length]? =some K:=by
 rw[c6,Fa];simp
def Of{n o X K a}:aq n (.ptr X.length o) (fun z=>(X++ [K]++a)[z]?)=dE n o K:=az uq
def Nb{y o v X K a}:aT y (.ptr X.length o) v (fun z=>(X++ [K]++a)[z]?)=kV y o v X.length K:=aN uq
def NX{pos s X a}:fw (.ptr X.length 0) (fun z=>(X++ [.iter s pos]++a)[z]?)=dV X.length s pos:=dF uq
def yK{X:ah}{K K' a}: (X++ [K]++a).set X.length K' =X++ [K']++a:=by
 rw[eI,Bp];simp
def Ar{X:ah}{K a b}: (X++ [K]++a++b)[X.length]? =some K:=by
 rw[c6,uq];simp
def Oe{n o X K a b}:aq n (.ptr X.length o) (fun z=>(X++ [K]++a++b)[z]?)=dE n o K:=az Ar
def Na{y o v X K a b}:aT y (.ptr X.length o) v (fun z=>(X++ [K]++a++b)[z]?)=kV y o v X.length K:=aN Ar
def NW{pos s X a b}:fw (.ptr X.length 0) (fun z=>(X++ [.iter s pos]++a++b)[z]?)=dV X.length s pos:=dF Ar
def F0{X:ah}{K K' a b}: (X++ [K]++a++b).set X.length K' =X++ [K']++a++b:=by
 rw[eI,yK];simp
def sE{X:ah}{K a b c}: (X++ [K]++a++b++c)[X.length]? =some K:=by
 rw[c6,Ar];simp
def Od{n o X K a b c}:aq n (.ptr X.length o) (fun z=>(X++ [K]++a++b++c)[z]?)=dE n o K:=az sE
def M9{y o v X K a b c}:aT y (.ptr X.length o) v (fun z=>(X++ [K]++a++b++c)[z]?)=kV y o v X.length K:=aN sE
def NV{pos s X a b c}:fw (.ptr X.length 0) (fun z=>(X++ [.iter s pos]++a++b++c)[z]?)=dV X.length s pos:=dF sE
def FZ{X:ah}{K K' a b c}: (X++ [K]++a++b++c).set X.length K' =X++ [K']++a++b++c:=by
 rw[eI,F0];simp
def uo{X:ah}{K a b c d}: (X++ [K]++a++b++c++d)[X.length]? =some K:=by
 rw[c6,sE];simp
def Oc{n o X K a b c d}:aq n (.ptr X.length o) (fun z=>(X++ [K]++a++b++c++d)[z]?)=dE n o K:=az uo
def M8{y o v X K a b c d}:aT y (.ptr X.length o) v (fun z=>(X++ [K]++a++b++c++d)[z]?)=kV y o v X.length K:=aN uo
def NU{pos s X a b c d}:fw (.ptr X.length 0) (fun z=>(X++ [.iter s pos]++a++b++c++d)[z]?)=dV X.length s pos:=dF uo
def Bk{X:ah}{K K' a b c d}: (X++ [K]++a++b++c++d).set X.length K' =X++ [K']++a++b++c++d:=by
 rw[eI,FZ];simp
def CR{X:ah}{K a b c d e}: (X++ [K]++a++b++c++d++e)[X.length]? =some K:=by
 rw[c6,uo];simp
def Ob{n o X K a b c d e}:aq n (.ptr X.length o) (fun z=>(X++ [K]++a++b++c++d++e)[z]?)=dE n o K:=az CR
def M7{y o v X K a b c d e}:aT y (.ptr X.length o) v (fun z=>(X++ [K]++a++b++c++d++e)[z]?)=kV y o v X.length K:=aN CR
def NT{pos s X a b c d e}:fw (.ptr X.length 0) (fun z=>(X++ [.iter s pos]++a++b++c++d++e)[z]?)=dV X.length s pos:=dF CR
def FY{X:ah}{K K' a b c d e}: (X++ [K]++a++b++c++d++e).set X.length K' =X++ [K']++a++b++c++d++e:=by
 rw[eI,Bk];simp
def E9{X:ah}{K a b c d e f}: (X++ [K]++a++b++c++d++e++f)[X.length]? =some K:=by
 rw[c6,CR];simp
def Oa{n o X K a b c d e f}:aq n (.ptr X.length o) (fun z=>(X++ [K]++a++b++c++d++e++f)[z]?)=dE n o K:=az E9
def M6{y o v X K a b c d e f}:aT y (.ptr X.length o) v (fun z=>(X++ [K]++a++b++c++d++e++f)[z]?)=kV y o v X.length K:=aN E9
def NS{pos s X a b c d e f}:fw (.ptr X.length 0) (fun z=>(X++ [.iter s pos]++a++b++c++d++e++f)[z]?)=dV X.length s pos:=dF E9
def FX{X:ah}{K K' a b c d e f}: (X++ [K]++a++b++c++d++e++f).set X.length K' =X++ [K']++a++b++c++d++e++f:=by
 rw[eI,FY];simp
def E8{X:ah}{K a b c d e f g}: (X++ [K]++a++b++c++d++e++f++g)[X.length]? =some K:=by
 rw[c6,E9];simp
def N9{n o X K a b c d e f g}:aq n (.ptr X.length o) (fun z=>(X++ [K]++a++b++c++d++e++f++g)[z]?)=dE n o K:=az E8
def M5{y o v X K a b c d e f g}:aT y (.ptr X.length o) v (fun z=>(X++ [K]++a++b++c++d++e++f++g)[z]?)=kV y o v X.length K:=aN E8
def NR{pos s X a b c d e f g}:fw (.ptr X.length 0) (fun z=>(X++ [.iter s pos]++a++b++c++d++e++f++g)[z]?)=dV X.length s pos:=dF E8
def FW{X:ah}{K K' a b c d e f g}: (X++ [K]++a++b++c++d++e++f++g).set X.length K' =X++ [K']++a++b++c++d++e++f++g:=by
 rw[eI,FX];simp
def E7{X:ah}{K a b c d e f g i}: (X++ [K]++a++b++c++d++e++f++g++i)[X.length]? =some K:=by
 rw[c6,E8];simp
def N8{n o X K a b c d e f g i}:aq n (.ptr X.length o) (fun z=>(X++ [K]++a++b++c++d++e++f++g++i)[z]?)=dE n o K:=az E7
def M4{y o v X K a b c d e f g i}:aT y (.ptr X.length o) v (fun z=>(X++ [K]++a++b++c++d++e++f++g++i)[z]?)=kV y o v X.length K:=aN E7
def NQ{pos s X a b c d e f g i}:fw (.ptr X.length 0) (fun z=>(X++ [.iter s pos]++a++b++c++d++e++f++g++i)[z]?)=dV X.length s pos:=dF E7
def FV{X:ah}{K K' a b c d e f g i}: (X++ [K]++a++b++c++d++e++f++g++i).set X.length K' =X++ [K']++a++b++c++d++e++f++g++i:=by
 rw[eI,FW];simp
def E6{X:ah}{K a b c d e f g i j}: (X++ [K]++a++b++c++d++e++f++g++i++j)[X.length]? =some K:=by
 rw[c6,E7];simp
def N7{n o X K a b c d e f g i j}:aq n (.ptr X.length o) (fun z=>(X++ [K]++a++b++c++d++e++f++g++i++j)[z]?)=dE n o K:=az E6
def M3{y o v X K a b c d e f g i j}:aT y (.ptr X.length o) v (fun z=>(X++ [K]++a++b++c++d++e++f++g++i++j)[z]?)=kV y o v X.length K:=aN E6
def NP{pos s X a b c d e f g i j}:fw (.ptr X.length 0) (fun z=>(X++ [.iter s pos]++a++b++c++d++e++f++g++i++j)[z]?)=dV X.length s pos:=dF E6
def FU{X:ah}{K K' a b c d e f g i j}: (X++ [K]++a++b++c++d++e++f++g++i++j).set X.length K' =X++ [K']++a++b++c++d++e++f++g++i++j:=by
 rw[eI,FV];simp
def zj{X:ah}{K a b c d e f g i j m}: (X++ [K]++a++b++c++d++e++f++g++i++j++m)[X.length]? =some K:=by
 rw[c6,E6];simp
def K4{n o X K a b c d e f g i j m}:aq n (.ptr X.length o) (fun z=>(X++ [K]++a++b++c++d++e++f++g++i++j++m)[z]?)=dE n o K:=az zj
def Kj{y o v X K a b c d e f g i j m}:aT y (.ptr X.length o) v (fun z=>(X++ [K]++a++b++c++d++e++f++g++i++j++m)[z]?)=kV y o v X.length K:=aN zj
def KM{pos s X a b c d e f g i j m}:fw (.ptr X.length 0) (fun z=>(X++ [.iter s pos]++a++b++c++d++e++f++g++i++j++m)[z]?)=dV X.length s pos:=dF zj
def Bo{X:ah}{K K' a b c d e f g i j m}: (X++ [K]++a++b++c++d++e++f++g++i++j++m).set X.length K' =X++ [K']++a++b++c++d++e++f++g++i++j++m:=by
 rw[eI,FU];simp
def zi{X:ah}{K a b c d e f g i j m p}: (X++ [K]++a++b++c++d++e++f++g++i++j++m++p)[X.length]? =some K:=by
 rw[c6,zj];simp
def K3{n o X K a b c d e f g i j m p}:aq n (.ptr X.length o) (fun z=>(X++ [K]++a++b++c++d++e++f++g++i++j++m++p)[z]?)=dE n o K:=az zi
def Ki{y o v X K a b c d e f g i j m p}:aT y (.ptr X.length o) v (fun z=>(X++ [K]++a++b++c++d++e++f++g++i++j++m++p)[z]?)=kV y o v X.length K:=aN zi
def KL{pos s X a b c d e f g i j m p}:fw (.ptr X.length 0) (fun z=>(X++ [.iter s pos]++a++b++c++d++e++f++g++i++j++m++p)[z]?)=dV X.length s pos:=dF zi
def Bn{X:ah}{K K' a b c d e f g i j m p}: (X++ [K]++a++b++c++d++e++f++g++i++j++m++p).set X.length K' =X++ [K']++a++b++c++d++e++f++g++i++j++m++p:=by
 rw[eI,Bo];simp
def zh{X:ah}{K a b c d e f g i j m p q}: (X++ [K]++a++b++c++d++e++f++g++i++j++m++p++q)[X.length]? =some K:=by
 rw[c6,zi];simp
def KZ{n o X K a b c d e f g i j m p q}:aq n (.ptr X.length o) (fun z=>(X++ [K]++a++b++c++d++e++f++g++i++j++m++p++q)[z]?)=dE n o K:=az zh
def Kh{y o v X K a b c d e f g i j m p q}:aT y (.ptr X.length o) v (fun z=>(X++ [K]++a++b++c++d++e++f++g++i++j++m++p++q)[z]?)=kV y o v X.length K:=aN zh
def KK{pos s X a b c d e f g i j m p q}:fw (.ptr X.length 0) (fun z=>(X++ [.iter s pos]++a++b++c++d++e++f++g++i++j++m++p++q)[z]?)=dV X.length s pos:=dF zh
def Bm{X:ah}{K K' a b c d e f g i j m p q}: (X++ [K]++a++b++c++d++e++f++g++i++j++m++p++q).set X.length K' =X++ [K']++a++b++c++d++e++f++g++i++j++m++p++q:=by
 rw[eI,Bn];simp
def zg{X:ah}{K a b c d e f g i j m p q r}: (X++ [K]++a++b++c++d++e++f++g++i++j++m++p++q++r)[X.length]? =some K:=by
 rw[c6,zh];simp
def KY{n o X K a b c d e f g i j m p q r}:aq n (.ptr X.length o) (fun z=>(X++ [K]++a++b++c++d++e++f++g++i++j++m++p++q++r)[z]?)=dE n o K:=az zg
def Kg{y o v X K a b c d e f g i j m p q r}:aT y (.ptr X.length o) v (fun z=>(X++ [K]++a++b++c++d++e++f++g++i++j++m++p++q++r)[z]?)=kV y o v X.length K:=aN zg
def KJ{pos s X a b c d e f g i j m p q r}:fw (.ptr X.length 0) (fun z=>(X++ [.iter s pos]++a++b++c++d++e++f++g++i++j++m++p++q++r)[z]?)=dV X.length s pos:=dF zg
def Bl{X:ah}{K K' a b c d e f g i j m p q r}: (X++ [K]++a++b++c++d++e++f++g++i++j++m++p++q++r).set X.length K' =X++ [K']++a++b++c++d++e++f++g++i++j++m++p++q++r:=by
 rw[eI,Bm];simp
def CS{X:ah}{K a b c d e f g i j m p q r t}: (X++ [K]++a++b++c++d++e++f++g++i++j++m++p++q++r++t)[X.length]? =some K:=by
 rw[c6,zg];simp
def KX{n o X K a b c d e f g i j m p q r t}:aq n (.ptr X.length o) (fun z=>(X++ [K]++a++b++c++d++e++f++g++i++j++m++p++q++r++t)[z]?)=dE n o K:=az CS
def Kf{y o v X K a b c d e f g i j m p q r t}:aT y (.ptr X.length o) v (fun z=>(X++ [K]++a++b++c++d++e++f++g++i++j++m++p++q++r++t)[z]?)=kV y o v X.length K:=aN CS
def KI{pos s X a b c d e f g i j m p q r t}:fw (.ptr X.length 0) (fun z=>(X++ [.iter s pos]++a++b++c++d++e++f++g++i++j++m++p++q++r++t)[z]?)=dV X.length s pos:=dF CS
def G4{X:ah}{K K' a b c d e f g i j m p q r t}: (X++ [K]++a++b++c++d++e++f++g++i++j++m++p++q++r++t).set X.length K' =X++ [K']++a++b++c++d++e++f++g++i++j++m++p++q++r++t:=by
 rw[eI,Bl];simp
def K8{o:Nat}{c:List AV}{mu tl:Bool}{x:AV}(hx:c[o]? =some x):dE none o (.cells c mu tl)=some (x,.au):=by simp only[dE,hx]
def K7{o n:Nat}{c:List AV}{mu tl:Bool}(hx:o+n≤c.length):dE (some n) o (.cells c mu tl)=some (.agg ((c.drop o).take n),.au):=by simp only[dE];rw[Yh hx]
def tQ{n o b:Nat}{c l:List AV}{tl:Bool}(h1:l.length=n)(h2:l.all AV.one=true)(h3:o+n≤c.length):kV n o (.agg l) b (.cells c true tl)=some (aA,.set b (.cells (fI c o l) true tl)):=by
 show(if l.length=n∧l.all AV.one=true∧o+n≤c.length then _ else none)=_;rw[Yh ⟨h1,h2,h3⟩];rfl
def AV.mg{v:AV}(hv:v.one=true):v.cells= [v]:=by cases v<;>first| rfl| cases hv
def bW{o b:Nat}{c:List AV}{v:AV}{tl:Bool}(h2:v.one=true)(h3:o+1≤c.length):kV 1 o v b (.cells c true tl)=some (aA,.set b (.cells (c.set o v) true tl)):=by
 simp only[kV,AV.mg h2];rw[Yh ⟨rfl,by simp[h2],h3⟩];rfl
def Br{c:List AV}{o:Nat}:fI c o []=c:=rfl
def pa{c:List AV}{o:Nat}{x:AV}{xs:List AV}:fI c o (x::xs)=fI (c.set o x) (o+1) xs:=rfl
def GI{z:List AV}:dK 0 z= []:=rfl
def AM{n:Nat}{z:List AV}:dK (n+1) z=z++dK n z:=rfl
def Co{c:List AV}:eF c []=some c:=rfl
def Cn{c:List AV}{off:Nat}{v:AV}{r:List (Nat×Nat×AV)}(h2:v.one=true)(h3:off+1≤c.length):eF c ((off,1,v)::r)=eF (c.set off v) r:=by
 simp only[eF,AV.mg h2];rw[Yh ⟨rfl,h3⟩];rfl
def Cq{c l:List AV}{off n:Nat}{r:List (Nat×Nat×AV)}(h2:l.length=n)(h3:off+n≤c.length):eF c ((off,n,.agg l)::r)=eF (fI c off l) r:=by
 show(if l.length=n∧off+n≤c.length then eF (fI c off l) r else none)=_;rw[Yh ⟨h2,h3⟩]
def yg{es n N:Nat}{c:List AV}(h1:c.all AV.one=true)(h2:c.length=n * es)(h3:1≤n):yh es n (some c) N=some (.slice N 0 n es,.push (.cells c true true)):=by
 have:Nat.beq n 0=false:=by cases n with| zero=>omega| succ n=>rfl
 simp only[yh];rw[Yh ⟨h1,h2⟩,this];rfl
def LV{es N:Nat}:yh es 0 (some []) N=some (.slice N 0 0 es,.push (.cells [] true false)):=by
 simp only[yh];rw[Yh ⟨rfl,Si⟩];rfl
def Hy{f:Nat×cT→Nat×Nat×AV}:List.map f []= []:=rfl
def Hx{f:Nat×cT→Nat×Nat×AV}{a:Nat×cT}{l:List (Nat×cT)}:List.map f (a::l)=f a::l.map f:=rfl
def Hw{f:Nat×Nat×cT→Nat×Nat×AV}:List.map f []= []:=rfl
def Hv{f:Nat×Nat×cT→Nat×Nat×AV}{a:Nat×Nat×cT}{l:List (Nat×Nat×cT)}:List.map f (a::l)=f a::l.map f:=rfl
def Ee{l:List AV}:l.drop 0=l:=rfl
def Ed{a:AV}{l:List AV}{n:Nat}: (a::l).drop (n+1)=l.drop n:=rfl
def Ec{l:List AV}:l.take 0= []:=Si
def Eb{a:AV}{l:List AV}{n:Nat}: (a::l).take (n+1)=a::l.take n:=rfl
def HN{a:AV}{l:List AV}: (a::l)[0]? =some a:=rfl
def HM{a:AV}{l:List AV}{n:Nat}: (a::l)[n+1]? =l[n]? :=rfl
abbrev aJ(x:Int):List AV:=[.int .i64 x]
def cw{X:ah}(l:List Int):aK (X++ [.cells (l.map (AV.int .i64)) true true]) (.slice X.length 0 l.length 1) 1 (l.map aJ):=by
 have hf: (l.map aJ).flatten=l.map (AV.int .i64):=by induction l with
  | nil=>rfl
  | cons x xs ih=>simp[aJ]at ih ⊢;exact ih
 have h1: (l.map aJ).length=l.length:=Si
 rw[←h1];exact .mk (by simp;exact⟨rfl,rfl,rfl⟩) (by rw[hf,aaf,h1,Zu];exact YN Si) Si (by simp[aJ])
section
variable {h:ah} {s:AV} {es:Nat} {cs:List (List AV)}
def aK.KW(hs:aK h s es cs){k:ah}{i:Nat}(e:Ext h k)(hi:i < cs.length):aq (some es) (.ptr s.sb (s.so+i * es)) (fun b=>k[b]?)=some (.agg cs[i],.au):=(hs.ext e).load hi
def aK.HA(hs:aK h s es cs){k:ah}{i off:Nat}(e:Ext h k)(hi:i < cs.length){x:AV}(hx:cs[i][off]? =some x):aq none (.ptr s.sb (s.so+i * es+off)) (fun b=>k[b]?)=some (x,.au):=(hs.ext e).B7 hi hx
def aK.HB(hs:aK h s es cs){k:ah}{i:Nat}(e:Ext h k)(hi:i < cs.length){x:AV}(hx:cs[i][0]? =some x):aq none (.ptr s.sb (s.so+i * es)) (fun b=>k[b]?)=some (x,.au):=(hs.ext e).B7 (off:=0) hi hx
end
def bd:=A4 (FM @Og @Nc @NY @Bp @Of @Nb @NX @yK @Oe @Na @NW @F0 @Od @M9 @NV @FZ @Oc @M8 @NU @Bk @Ob @M7 @NT @FY) (FM @Oa @M6 @NS @FX @N9 @M5 @NR @FW @N8 @M4 @NQ @FV @N7 @M3 @NP @FU @K4 @Kj @KM @Bo @K3 @Ki @KL @Bn) (FM @KZ @Kh @KK @Bm @KY @Kg @KJ @Bl @KX @Kf @KI @G4 @uU @C4 @He @K8 @K7 @tQ @bW @Br @pa @GI @AM @Co) (AF @Cn @Cq @yg @LV @Hy @Hx @Hw @Hv @Ee @Ed @Ec @Eb @HN @HM)
def sC:
  (∀{h:ah},Ext h (h)=True)∧
  (∀{h a:ah},Ext h (h++a)=True)∧
  (∀{h a b:ah},Ext h (h++a++b)=True)∧
  (∀{h a b c:ah},Ext h (h++a++b++c)=True)∧
  (∀{h a b c d:ah},Ext h (h++a++b++c++d)=True)∧
  (∀{h a b c d e:ah},Ext h (h++a++b++c++d++e)=True)∧
  (∀{h a b c d e f:ah},Ext h (h++a++b++c++d++e++f)=True)∧
  (∀{h a b c d e f g:ah},Ext h (h++a++b++c++d++e++f++g)=True)∧
  (∀{h a b c d e f g i:ah},Ext h (h++a++b++c++d++e++f++g++i)=True)∧
  (∀{h a b c d e f g i j:ah},Ext h (h++a++b++c++d++e++f++g++i++j)=True):=
 ⟨@Gu,@Gt,@Gs,@Gr,@Gq,@Gp,@Gn,@Gm,@Gk,@Gj⟩
end Go.Abs
namespace Go.Abs
def Qp:Option AV→Option (AV×iA)
 | some x=>some (x,.au)
 | none=>none
def K5{x}:Qp (some x)=some (x,.au):=rfl
def K6{o c mu tl}:dE none o (.cells c mu tl)=Qp c[o]? :=rfl
def cV(s:AV)(es i:Nat):AV:=.ptr s.sb (s.so+i * es)
def jv(s:AV)(es i off:Nat):AV:=.ptr s.sb (s.so+i * es+off)
def Ew{s es i off}:tA off (cV s es i)=some (jv s es i off):=rfl
section
variable {α:Type} {row:α→List AV} {L:List α} {h k:ah} {s:AV} {es:Nat}
def aK.aL(hs:aK h s es (L.map row))(G:Nat→Option ak):Go.Abs.iO .sl G s=some L.length:=by
 rw[hs.iO G,Ya]
def aK.dI(hs:aK h s es (L.map row)){i:Nat}{kk}(hi:i < L.length):aZ es s (.int kk (i:Int))=some (cV s es i,.au):=by
 rw[hs.aS Om (by rw[Ya];omega),Int.toNat_natCast];rfl
def aK.qp(hs:aK h s es (L.map row)){kk}(hi:0 < L.length):aZ es s (.int kk 0)=some (cV s es 0,.au):=hs.dI hi
def aK.kR(hs:aK h s es (L.map row)){i}(hi:i < L.length)(e:Ext h k):aq (some es) (cV s es i) (fun b=>k[b]?)=some (.agg (row L[i]),.au):=by
 rw[cV,hs.KW e (by rw[Ya];exact hi),Zf]
def aK.lG(hs:aK h s es (L.map row)){i off x}(hi:i < L.length)(hx: (row L[i])[off]? =some x)(e:Ext h k):aq none (jv s es i off) (fun b=>k[b]?)=some (x,.au):=
 hs.HA e (by rw[Ya];exact hi) (by rw[Zf];exact hx)
def aK.ki(hs:aK h s es (L.map row)){i x}(hi:i < L.length)(hx: (row L[i])[0]? =some x)(e:Ext h k):aq none (cV s es i) (fun b=>k[b]?)=some (x,.au):=
 hs.HB e (by rw[Ya];exact hi) (by rw[Zf];exact hx)
def aK.FT(hs:aK h s es (L.map row)){lo hi l u}(hb:iR lo hi L.length=some (l,u)):∃s',AH es s lo hi=some (s',.au)∧aK h s' es (((L.drop l).take (u - l)).map row):=by
 obtain⟨s',h1,h2⟩:=hs.sl (lo:=lo) (hi:=hi) (by rw[Ya];exact hb);exact⟨s',h1,by rw[List.map_take,List.map_drop];exact h2⟩
end
def jy{n k:Nat}{kk}(hk:k≤n):iR none (some (.int kk (k:Int))) n=some (0,k):=by
 simp only[iR,HD,Ge];rw[Yh Om];simp
def ml{n k:Nat}{kk}(hk:k≤n):iR (some (.int kk (k:Int))) none n=some (k,n):=by
 simp only[iR,HD,Ge];rw[Yh Om];simp
def vK{c r k}:vL (.str (c::r)) (.int k 0)=some (.int .u8 c.toNat):=rfl
def jC{s i k}(hi:i < s.length):vL (.str s) (.int k (i:Nat))=some (.int .u8 s[i].toNat):=by
 simp[vL,hi]
def wrapN{n:Nat}(h:n+1 < 2^63):IntKind.i64.wrap ((n:Int)+1)= ((n+1:Nat):Int):=by rw[bo Om Om];rfl
def lv:Option (AV×iA)→Option AV
 | some (v,_)=>some v
 | none=>none
def N6{v e}:lv (some (v,e))=some v:=rfl
def cX{ts h a n}:du ts h (a,some n)=lv (aq n (slot ts a) (fun b=>h[b]?)):=by
 simp only[du,dt,val,slot];cases ts.getD a aA with
 | ptr b o=>
  simp only[aq];cases h[b]? with
  | none=>rfl
  | some k=>
   cases k with
   | cells c mu tl=>
    cases n with
    | none=>simp only;cases c[o]? <;>rfl
    | some n=>simp only;by_cases hc:o+n≤c.length
              ·rw[Yh hc,Yh hc];rfl
              ·rw[Yd hc,Yd hc];rfl
   | _=>rfl
 | _=>rfl
def Bb:Option AV→Option AV→Option AV
 | some a,some b=>some (.dL [a,b])
 | _,_=>none
def tM:Option AV→Option AV→Option AV→Option AV
 | some a,some b,some c=>some (.dL [a,b,c])
 | _,_,_=>none
def GZ{a b}:Bb (some a) (some b)=some (.dL [a,b]):=rfl
def GY{a b c}:tM (some a) (some b) (some c)=some (.dL [a,b,c]):=rfl
def zG{ts h r}:cO [r] ts h=du ts h r:=by
 simp only[cO,iL];cases du ts h r<;>rfl
def pe{ts h r s}:cO [r,s] ts h=Bb (du ts h r) (du ts h s):=by
 simp only[cO,iL];cases du ts h r<;>cases du ts h s<;>rfl
def gN{ts h r s t}:cO [r,s,t] ts h=tM (du ts h r) (du ts h s) (du ts h t):=by
 simp only[cO,iL];cases du ts h r<;>cases du ts h s<;>cases du ts h t<;>rfl
def cW{ts h a}:du ts h (a,none)=some (slot ts a):=rfl
def BI:∀{ts} {h} {x} {nx},cO [(x,some nx)] ts h=lv (aq nx (slot ts x) (fun b=>h[b]?)):=by
 intros;rw[zG];simp only[cX,cW]
def zH:∀{ts} {h} {x y} {ny},cO [(x,none),(y,some ny)] ts h=Bb (some (slot ts x)) (lv (aq ny (slot ts y) (fun b=>h[b]?))):=by
 intros;rw[pe];simp only[cX,cW]
def zI:∀{ts} {h} {x y} {nx},cO [(x,some nx),(y,none)] ts h=Bb (lv (aq nx (slot ts x) (fun b=>h[b]?))) (some (slot ts y)):=by
 intros;rw[pe];simp only[cX,cW]
def zJ:∀{ts} {h} {x y} {nx ny},cO [(x,some nx),(y,some ny)] ts h=Bb (lv (aq nx (slot ts x) (fun b=>h[b]?))) (lv (aq ny (slot ts y) (fun b=>h[b]?))):=by
 intros;rw[pe];simp only[cX,cW]
def xH:∀{ts} {h} {x y z} {nz},cO [(x,none),(y,none),(z,some nz)] ts h=tM (some (slot ts x)) (some (slot ts y)) (lv (aq nz (slot ts z) (fun b=>h[b]?))):=by
 intros;rw[gN];simp only[cX,cW]
def xI:∀{ts} {h} {x y z} {ny},cO [(x,none),(y,some ny),(z,none)] ts h=tM (some (slot ts x)) (lv (aq ny (slot ts y) (fun b=>h[b]?))) (some (slot ts z)):=by
 intros;rw[gN];simp only[cX,cW]
def xJ:∀{ts} {h} {x y z} {ny nz},cO [(x,none),(y,some ny),(z,some nz)] ts h=tM (some (slot ts x)) (lv (aq ny (slot ts y) (fun b=>h[b]?))) (lv (aq nz (slot ts z) (fun b=>h[b]?))):=by
 intros;rw[gN];simp only[cX,cW]
def xL:∀{ts} {h} {x y z} {nx},cO [(x,some nx),(y,none),(z,none)] ts h=tM (lv (aq nx (slot ts x) (fun b=>h[b]?))) (some (slot ts y)) (some (slot ts z)):=by
 intros;rw[gN];simp only[cX,cW]
def xM:∀{ts} {h} {x y z} {nx nz},cO [(x,some nx),(y,none),(z,some nz)] ts h=tM (lv (aq nx (slot ts x) (fun b=>h[b]?))) (some (slot ts y)) (lv (aq nz (slot ts z) (fun b=>h[b]?))):=by
 intros;rw[gN];simp only[cX,cW]
def xN:∀{ts} {h} {x y z} {nx ny},cO [(x,some nx),(y,some ny),(z,none)] ts h=tM (lv (aq nx (slot ts x) (fun b=>h[b]?))) (lv (aq ny (slot ts y) (fun b=>h[b]?))) (some (slot ts z)):=by
 intros;rw[gN];simp only[cX,cW]
def xO:∀{ts} {h} {x y z} {nx ny nz},cO [(x,some nx),(y,some ny),(z,some nz)] ts h=tM (lv (aq nx (slot ts x) (fun b=>h[b]?))) (lv (aq ny (slot ts y) (fun b=>h[b]?))) (lv (aq nz (slot ts z) (fun b=>h[b]?))):=by
 intros;rw[gN];simp only[cX,cW]
def H5{b}:ui false (some b)=some (.bool b):=rfl
def H4{b}:ui true (some b)=some (.bool !b):=rfl
def At(b:Bool)(o:Option Bool):Option Bool:=
 match b with
 | true=>o
 | false=>some false
def ID{b c}:At b (some c)=some (b && c):=by cases b<;>rfl
def LM{k a b ks xs ys}:dA (.i::ks) (.int k a::xs) (.int k b::ys)=At (decide (a=b)) (dA ks xs ys):=by
 exact z107
def LJ{a b ks xs ys}:dA (.s::ks) (.str a::xs) (.str b::ys)=At (decide (a=b)) (dA ks xs ys):=by
 exact z107
def LN{a b ks xs ys}:dA (.b::ks) (.bool a::xs) (.bool b::ys)=At (a==b) (dA ks xs ys):=by
 cases a<;>cases b<;>rfl
def LL:dA [] [] []=some true:=rfl
def QF{ks xs ys}(h1:xs.length=ks.length)(h2:ys.length=ks.length):pr (.agg ks) (.agg xs) (.agg ys)=dA ks xs ys:=by
 simp only[pr,y8];rw[Yh ⟨h1,h2⟩]
def LO{a b}:pr (.one .b) (.bool a) (.bool b)=some (a==b):=rfl
def EI{a:CK}{l:List CK}: (a::l).length=l.length+1:=rfl
def EJ: ([] :List CK).length=0:=rfl
def Fr.lt{N h s es cs}(hs:Fr N h s es cs){b o n e}(hb:s= .slice b o n e):N≤b∧b < h.length:=by
 cases hs with
 | nil=>cases hb
 | mk hN h1 he=>cases hb;exact⟨hN,(X1.1 h1).1⟩
def Fr.swap{A B g s es cs}(hs:Fr A.length (A++g) s es cs)(hl:B.length=A.length):Fr A.length (B++g) s es cs:=by
 cases hs with
 | nil=>exact .nil
 | @mk _ _ _ tl hN h1 RX=>
  refine .mk (tl:=tl) hN ?_ RX;rw[Ye Om]at h1 ⊢;rw[hl];exact h1
def WR.fL{P ro ks ts Q h s y es cs ys h0 w d l}
  (hs:Fr h0.length h s es cs) (hy:aK h y es ys) (hes:0 < es) (hne:0 < ys.length) (dZ: (cs.length+ys.length) * w≤2^46) (he:Ext h0 h)
  (K:∀g,(h0++g).length=h.length+1→Fr h0.length (h0++g) (.slice h.length 0 (cs++ys).length es) es (cs++ys)→(∀b,b < h.length→(∀b0 o n e,s= .slice b0 o n e→b≠b0)→(h0++g)[b]? =h[b]?)→WP P ro l ks (put ts d (.slice h.length 0 (cs++ys).length es)) (h0++g) Q):
  WR P ro (pB es w s y (fun b=>h[b]?) h.length) false d l ks ts h Q:=by
 have SK:∀x∈cs++ys,x.length=es:=fun x hx=>by
  exact JO
 have hk:¬ys.length=0:=Om
 simp only[pB,hy.ff];cases hs with
 | nil=>
  simp only[X9,YR]at dZ;simp only[Yd hk,Yh dZ];rw[mq];have hx:=Fr.push (N:=h0.length) he.len ys hy.rows;obtain⟨g,rfl⟩:=he;have hK:=K (g++ [.cells ys.flatten true true]) (by simp;omega);simp only[←X4,ZJ]at hK;exact hK hx fun b hb _=>X5 hb
 | @mk b _ _ tl hN hb hre=>
  have hcl:=eE hre;cases tl with
  | false=>
   simp only[Ys,Yd hk,Yh dZ,hb,YR];rw[Yh Om,mq,Zu];have hx:=Fr.push (h:=h) (N:=h0.length) (es:=es) he.len (cs++ys) SK;simp only[X2,ZM]at hx ⊢;obtain⟨g,rfl⟩:=he;have hK:=K (g++ [.cells (cs.flatten++ys.flatten) true true]) (by simp;omega);simp only[←X4,X2,ZM]at hK hx ⊢;exact hK hx fun b hb _=>X5 (by simpa using hb)
  | true=>
  simp only[Ys,Yd hk,Yh dZ,hb,YR];rw[Yh Om,nq];have hbl:b < h.length:=(X1.1 hb).1;have hx:=Fr.push (h:=h.set b .dead) (N:=h0.length) (es:=es) (by simpa using he.len) (cs++ys) SK;have hc:List.take (cs.length * es) (List.drop 0 cs.flatten)=cs.flatten:=by rw[Zu,←hcl,YF]
  rw[hc];obtain⟨g,rfl⟩:=he;have bd: (h0++g).set b .dead++ [ak.cells (cs.flatten++ys.flatten) true true]=h0++ (g.set (b - h0.length) .dead++ [ak.cells (cs.flatten++ys.flatten) true true]):=by
   rw[YX _ _ hN,X4]
  have hK:=K (g.set (b - h0.length) .dead++ [.cells (cs.flatten++ys.flatten) true true]) (by simp;omega);rw[←bd]at hK;simp only[YL,ZM,X2]at hx hK ⊢;refine hK hx ?_;intro i hi hne;have:=hne b 0 _ _ rfl;rw[X5 (by simpa using hi),Yj (Zv this)]
def BX{k n}:AV.one (.int k n)=true:=rfl
def KG{b}:AV.one (.bool b)=true:=rfl
def F5{b}:AV.one (.str b)=true:=rfl
def KC{b o}:AV.one (.ptr b o)=true:=rfl
def KE{b o n e}:AV.one (.slice b o n e)=true:=rfl
def KD:AV.one .af=true:=rfl
def KF{f a c}:AV.one (.func f a c)=true:=rfl
def CW{a l}: (a::l).all AV.one= (a.one && l.all AV.one):=rfl
def CV: ([] :List AV).all AV.one=true:=rfl
def bJ.o(n:Nat)(k:oZ):bJ:=⟨some n,k,none,false⟩
def bJ.x(k:oZ):bJ:=⟨none,k,none,false⟩
def bJ.m(n i:Nat):bJ:=⟨some n,.aF (.t i),none,false⟩
def bJ.y(n:Nat)(k:oZ):bJ:=⟨some n,k,none,true⟩
def bJ.l(n i:Nat):bJ:=⟨some n,.load none (.t i),none,false⟩
def bJ.a(n o i:Nat):bJ:=⟨some n,.aP o (.t i),none,false⟩
def bJ.c(n f:Nat)(l:List cT):bJ:=⟨some n,.call (.f f) l,none,false⟩
def bJ.b(n:Nat)(k:BinOp)(x y:cT):bJ:=⟨some n,.bin k x y,none,false⟩
def bJ.e(n i j:Nat):bJ:=⟨some n,.ext (.t i) j,none,false⟩
def bJ.s(w i j:Nat):bJ:=⟨none,.store w (.t i) (.t j),none,false⟩
def bJ.r(n w i:Nat):bJ:=⟨some n,.load (some w) (.t i),none,false⟩
def bJ.p(n i:Nat):bJ:=⟨some n,.box (.t i),none,false⟩
def bJ.u(n:Nat)(k:BinOp)(i j:Nat):bJ:=⟨some n,.bin k (.t i) (.t j),none,false⟩
def bJ.h(n w i j:Nat):bJ:=⟨some n,.aS w (.t i) (.t j),none,false⟩
def bJ.d(n i j:Nat):bJ:=⟨some n,.pick (.t i) (.t j) (.c (.bool false)),none,false⟩
def bJ.f(n i j:Nat):bJ:=⟨some n,.pick (.t i) (.c (.bool true)) (.t j),none,false⟩
def bJ.n(n i:Nat):bJ:=⟨some n,.len .sl (.t i),none,false⟩
def cT.n(k:Int):cT:=.c (.int .i64 k)
def ai.s(l:List bJ)(b:ai):ai:=.seq (.ops l) b
def ai.r(l:List bJ):ai:=.seq (.ops l) .ret
def bJ.j(n i:Nat):bJ:=⟨some n,.load none (.t i),none,true⟩
def bJ.w(n i:Nat):bJ:=⟨some n,.aF (.t i),none,true⟩
def bJ.t(n c:Nat)(b:Bool)(i:Nat):bJ:=⟨some n,.aF (.t i),some (c,b),false⟩
def bJ.v(n:Nat)(k:BinOp)(i:Nat)(y:cT):bJ:=⟨some n,.bin k (.t i) y,none,false⟩
def cT.T:cT:=.c (.bool true)
def cT.F:cT:=.c (.bool false)
def ai.j(n:Nat)(l:List bJ):ai:=.cond (.t n) (.seq (.ops l) .ret) .skip
def ai.i(n:Nat)(a b:ai):ai:=.cond (.t n) a b
def bJ.g(n c:Nat)(b:Bool)(k:oZ):bJ:=⟨some n,k,some (c,b),false⟩
def cT.z:cT:=.c (.int .i64 0)
def cT.w:cT:=.c (.int .i64 1)
def O2:∀{n i},bJ.m n i= ⟨some n,.aF (.t i),none,false⟩:=rfl
def O1:∀{n c} {b} {k},bJ.g n c b k= ⟨some n,k,some (c,b),false⟩:=rfl
def O0:∀{n} {k},bJ.o n k= ⟨some n,k,none,false⟩:=rfl
def OZ:∀{k},bJ.x k= ⟨none,k,none,false⟩:=rfl
def OY: (cT.z= .c (.int .i64 0)):=rfl
def OX: (cT.w= .c (.int .i64 1)):=rfl
def OP:∀{n} {k},bJ.y n k= ⟨some n,k,none,true⟩:=rfl
def OR:∀{n i},bJ.l n i= ⟨some n,.load none (.t i),none,false⟩:=rfl
def OW:∀{n o i},bJ.a n o i= ⟨some n,.aP o (.t i),none,false⟩:=rfl
def OU:∀{n f} {l},bJ.c n f l= ⟨some n,.call (.f f) l,none,false⟩:=rfl
def OV:∀{n} {k} {x y},bJ.b n k x y= ⟨some n,.bin k x y,none,false⟩:=rfl
def OT:∀{n i j},bJ.e n i j= ⟨some n,.ext (.t i) j,none,false⟩:=rfl
def ON:∀{w i j},bJ.s w i j= ⟨none,.store w (.t i) (.t j),none,false⟩:=rfl
def OO:∀{n w i},bJ.r n w i= ⟨some n,.load (some w) (.t i),none,false⟩:=rfl
def OQ:∀{n i},bJ.p n i= ⟨some n,.box (.t i),none,false⟩:=rfl
def OM:∀{n} {k} {i j},bJ.u n k i j= ⟨some n,.bin k (.t i) (.t j),none,false⟩:=rfl
def OS:∀{n} {a b},ai.i n a b= .cond (.t n) a b:=rfl
def Ie:∀{n w i j:Nat},bJ.h n w i j= ⟨some n,.aS w (.t i) (.t j),none,false⟩:=rfl
def Ih:∀{n i j:Nat},bJ.d n i j= ⟨some n,.pick (.t i) (.t j) (.c (.bool false)),none,false⟩:=rfl
def Ig:∀{n i j:Nat},bJ.f n i j= ⟨some n,.pick (.t i) (.c (.bool true)) (.t j),none,false⟩:=rfl
def Ic:∀{n i:Nat},bJ.n n i= ⟨some n,.len .sl (.t i),none,false⟩:=rfl
def Ib:∀{k:Int},cT.n k= .c (.int .i64 k):=rfl
def Ii:∀{l:List bJ} {b:ai},ai.s l b= .seq (.ops l) b:=rfl
def Ij:∀{l:List bJ},ai.r l= .seq (.ops l) .ret:=rfl
def Ik:∀{n:Nat} {l:List bJ},ai.j n l= .cond (.t n) (.seq (.ops l) .ret) .skip:=rfl
def Ia:∀{n i:Nat},bJ.j n i= ⟨some n,.load none (.t i),none,true⟩:=rfl
def H7:∀{n i:Nat},bJ.w n i= ⟨some n,.aF (.t i),none,true⟩:=rfl
def H9:∀{n c:Nat} {b:Bool} {i:Nat},bJ.t n c b i= ⟨some n,.aF (.t i),some (c,b),false⟩:=rfl
def H8:∀{n:Nat} {k:BinOp} {i:Nat} {y:cT},bJ.v n k i y= ⟨some n,.bin k (.t i) y,none,false⟩:=rfl
def OK:cT.T= .c (.bool true):=rfl
def OL:cT.F= .c (.bool false):=rfl
def uset:=A8 @OK @OL @Ia @H7 @H9 @H8 @Ik (FM @Ie @Ih @Ig @Ic @Ib @Ii @Ij @OP @OR @OW @OU @OV @OT @ON @OO @OQ @OM @OS @O2 @O1 @O0 @OZ @OY @OX)
def bC:=A3 uset (GG @YR @K5 @K6 @N6 @GZ @GY @BI @zH @zI @zJ @xH @xI @xJ @xL @xM @xN @xO @H5) (MG @H4 @ID @LM @LJ @LN @LL @QF @LO @EI @EJ @Ew @BX @KG @F5 @KC @KE @KD @KF @CW @CV @ZA @EN)
def Ll(o:Option AV)(X:Prop):Prop:=
 match o with
 | some _=>X
 | none=>False
def bD:
  (∀{P} {ro} {ks} {ts} {h} {Q} {q} {l} {n i} {x},WP P ro ({ dst:=some i,k:=.nh n x,gd:=none,q:=q } ::l) ks ts h Q=Ll ts[i]? (WR P ro (od n (val ts x) h.length) q (some i) l ks ts h Q))∧
  (∀{a:AV} {X:Prop},Ll (some a) X=X)∧
  (∀{k:IntKind} {z:Int} {N:Nat},od 1 (.int k z) N=some (.ptr N 0,.push (.cells [.int k z] true false)))∧
  (∀{b:Bool} {N:Nat},od 1 (.bool b) N=some (.ptr N 0,.push (.cells [.bool b] true false)))∧
  (∀{b:By} {N:Nat},od 1 (.str b) N=some (.ptr N 0,.push (.cells [.str b] true false)))∧
  (∀{N:Nat},pv .af N=some (.ptr N 0,.push (.cells [.af] true false)))∧
  (∀{v:AV} {N:Nat} (_:v.one=true),pv v N=some (.ptr N 0,.push (.cells [v] true false)))∧
  (∀{v:AV} {N:Nat} (_:v.one=true),od 1 v N=some (.ptr N 0,.push (.cells [v] true false)))∧
  (∀{l:List AV} {n N:Nat} (_:l.all AV.one=true) (_:l.length=n),od n (.agg l) N=some (.ptr N 0,.push (.cells l true false))):=by
 refine⟨?_,rfl,rfl,rfl,rfl,rfl,?_,?_,?_⟩
 ·intro P ro ks ts h Q q l n i x;rw[Fz];by_cases hi:i < ts.length
  ·rw[X6 hi];simp[Ll,hi]
  ·rw[Z1 Om];simp[Ll,hi]
 ·intro v N h;simp only[pv,AV.mg h];rw[Yh (by simp[h])]
 ·intro v N h;simp only[od,AV.mg h];rw[Yh ⟨by simp[h],rfl⟩]
 ·intro l n N h1 h2;unfold od;exact Yh ⟨h1,h2⟩
def fn2:ar:=⟨1,0,[],(.ops [.c 0 1 []])⟩
def fn3:ar:=⟨101,3,[(6,none)],(.s [.o 6 (.aF .F)] (.seq (.s [.m 19 0,.c 20 14 [.t 19,.n 24],.o 21 (.un .not (.t 20)),.m 22 21,.t 23 22 false 1,.g 24 22 false (.len .st (.t 23)),.g 25 22 false (.bin .gtr (.t 24) (.n 40)),.f 26 22 25] (.j 26 [.c 27 15 [],.m 6 27])) (.s [.m 29 0,.m 30 1,.m 31 2,.c 32 16 [.t 29,.t 30,.t 31],.m 28 32,.e 33 28 0,.e 34 28 1,.m 7 33,.m 8 34] (.s [.m 36 0,.m 37 2,.c 38 17 [.t 36,.t 37],.m 35 38,.e 39 35 0,.e 40 35 1,.m 9 39,.m 10 40] (.s [.m 42 0,.c 43 18 [.t 42],.m 41 43,.e 44 41 0,.e 45 41 1,.e 46 41 2,.o 11 (.box (.c (.agg [.int .i64 0,.af,.af,.af,.af,.af,.af]))),.s 7 11 44,.m 12 45,.m 13 46] (.s [.m 47 2,.c 48 20 [.t 47,.z,.n 999999999],.c 49 19 [.t 48,.n 3],.m 14 49] (.s [.m 50 13,.r 51 7 11,.m 52 1,.c 53 22 [.t 51,.t 52],.v 54 .lss 53 .z,.c 55 19 [.t 54,.n 10],.m 56 14,.o 57 (.aE 1 3 [.int .i64 0] [(0,.t 50),(1,.t 55),(2,.t 56)]),.c 58 21 [.t 57],.m 59 13,.m 60 14,.o 61 (.aE 1 2 [.int .i64 0] [(0,.t 59),(1,.t 60)]),.c 62 21 [.t 61],.m 15 58,.m 16 62] (.s [.o 17 (.aF .F)] (.s [.o 18 (.aF (.c .af))] (.seq (.s [.m 63 15,.v 64 .eql 63 .z] (.i 64 (.ops [.y 65 (.load (some 7) (.t 11)),.y 66 (.aP 3 (.t 11)),.j 67 66,.y 68 (.load (some 7) (.t 11)),.w 69 1,.y 70 (.call (.f 22) [.t 68,.t 69]),.y 71 (.aS 3 (.t 67) (.t 70)),.y 72 (.load (some 3) (.t 71)),.w 73 2,.c 74 23 [.t 65,.t 72,.t 73],.m 17 74]) .skip)) (.seq (.s [.m 75 16,.v 76 .eql 75 .z] (.i 76 (.ops [.r 77 7 11,.m 78 2,.c 79 24 [.t 77,.t 78],.m 18 79]) .skip)) (.r [.m 80 7,.m 81 17,.o 82 (.eqv false (.one .b) (.t 80) (.t 81)),.m 83 82,.t 84 83 true 8,.t 85 83 true 15,.g 86 83 true (.bin .eql (.t 84) (.t 85)),.d 87 83 86,.m 88 87,.t 89 88 true 9,.t 90 88 true 18,.g 91 88 true (.call (.f 25) [.t 89,.t 90]),.d 92 88 91,.m 93 92,.t 94 93 true 10,.t 95 93 true 16,.g 96 93 true (.bin .eql (.t 94) (.t 95)),.d 97 93 96,.m 98 97,.g 99 98 true (.call (.f 15) []),.d 100 98 99,.m 6 100]))))))))))))⟩
def fn4:ar:=⟨91,3,[(6,none)],(.s [.o 6 (.aF .F)] (.seq (.s [.m 18 0,.c 19 14 [.t 18,.n 24],.o 20 (.un .not (.t 19)),.m 21 20,.t 22 21 false 1,.g 23 21 false (.len .st (.t 22)),.g 24 21 false (.bin .gtr (.t 23) (.n 40)),.f 25 21 24,.m 26 25,.t 27 26 false 2,.g 28 26 false (.len .sl (.t 27)),.g 29 26 false (.bin .gtr (.t 28) (.n 33)),.f 30 26 29] (.j 30 [.c 31 15 [],.m 6 31])) (.s [.m 33 0,.m 34 1,.c 35 26 [.t 33,.t 34],.m 32 35,.e 36 32 0,.e 37 32 1,.m 7 36,.m 8 37] (.s [.o 39 (.aE 1 0 [.int .i64 0] []),.m 40 2,.o 41 (.app 1 8 (.t 39) (.t 40)),.c 42 27 [.t 41],.m 38 42,.e 43 38 0,.e 44 38 1,.m 9 43,.m 10 44] (.s [.m 46 0,.c 47 18 [.t 46],.m 45 47,.e 48 45 0,.e 49 45 1,.e 50 45 2,.o 11 (.box (.c (.agg [.int .i64 0,.af,.af,.af,.af,.af,.af]))),.s 7 11 48,.m 12 49,.m 13 50] (.s [.m 51 13,.r 52 7 11,.m 53 1,.c 54 28 [.t 52,.t 53],.v 55 .lss 54 .z,.c 56 19 [.t 55,.n 10],.o 57 (.aE 1 2 [.int .i64 0] [(0,.t 51),(1,.t 56)]),.c 58 21 [.t 57],.m 59 2,.c 60 29 [.t 59],.m 14 58,.m 15 60] (.s [.o 16 (.aF (.c .af))] (.s [.o 17 (.aF .z)] (.seq (.s [.m 61 14,.v 62 .eql 61 .z] (.i 62 (.ops [.m 63 0,.m 64 1,.c 65 30 [.t 63,.t 64],.m 16 65]) .skip)) (.seq (.s [.m 66 15,.v 67 .eql 66 .z] (.i 67 (.ops [.m 68 2,.c 69 31 [.t 68],.m 17 69]) .skip)) (.r [.m 70 7,.m 71 16,.c 72 32 [.t 70,.t 71],.m 73 72,.t 74 73 true 8,.t 75 73 true 14,.g 76 73 true (.bin .eql (.t 74) (.t 75)),.d 77 73 76,.m 78 77,.t 79 78 true 9,.t 80 78 true 17,.g 81 78 true (.bin .eql (.t 79) (.t 80)),.d 82 78 81,.m 83 82,.t 84 83 true 10,.t 85 83 true 15,.g 86 83 true (.bin .eql (.t 84) (.t 85)),.d 87 83 86,.m 88 87,.g 89 88 true (.call (.f 15) []),.d 90 88 89,.m 6 90])))))))))))⟩
def fn14:ar:=⟨71,2,[(4,none)],(.s [.o 4 (.aF .F)] (.seq (.s [.m 7 0,.n 8 7,.m 9 1,.u 10 .gtr 8 9] (.j 10 [.o 4 (.aF .F)])) (.seq (.s [.o 5 (.aF .z)] (.block 0 (.loop (.seq (.s [.m 11 5,.m 12 0,.n 13 12,.u 14 .lss 11 13] (.i 14 .skip (.exit 0))) (.seq (.block 1 (.seq (.s [.m 17 0,.m 18 5,.h 19 5 17 18,.a 20 1 19,.l 21 20,.o 22 (.len .st (.t 21)),.v 23 .gtr 22 (.n 40),.m 24 23,.t 25 24 false 0,.t 26 24 false 5,.g 27 24 false (.aS 5 (.t 25) (.t 26)),.g 28 24 false (.aP 2 (.t 27)),.g 29 24 false (.load none (.t 28)),.g 30 24 false (.len .sl (.t 29)),.g 31 24 false (.bin .gtr (.t 30) (.n 6)),.f 32 24 31,.m 33 32,.t 34 33 false 0,.t 35 33 false 5,.g 36 33 false (.aS 5 (.t 34) (.t 35)),.g 37 33 false (.aP 3 (.t 36)),.g 38 33 false (.load none (.t 37)),.g 39 33 false (.len .sl (.t 38)),.g 40 33 false (.bin .gtr (.t 39) (.n 8)),.f 41 33 40,.m 42 41,.t 43 42 false 0,.t 44 42 false 5,.g 45 42 false (.aS 5 (.t 43) (.t 44)),.g 46 42 false (.aP 4 (.t 45)),.g 47 42 false (.load none (.t 46)),.g 48 42 false (.len .st (.t 47)),.g 49 42 false (.bin .gtr (.t 48) (.n 200)),.f 50 42 49] (.j 50 [.o 4 (.aF .F)])) (.s [.o 6 (.aF .z)] (.block 2 (.loop (.seq (.s [.m 51 6,.m 52 0,.m 53 5,.h 54 5 52 53,.a 55 2 54,.l 56 55,.n 57 56,.u 58 .lss 51 57] (.i 58 .skip (.exit 2))) (.seq (.block 3 (.s [.m 61 0,.m 62 5,.h 63 5 61 62,.a 64 2 63,.l 65 64,.m 66 6,.h 67 1 65 66,.l 68 67,.o 69 (.len .st (.t 68)),.v 70 .gtr 69 (.n 40)] (.j 70 [.o 4 (.aF .F)]))) (.ops [.m 59 6,.v 60 .add 59 .w,.m 6 60])))))))) (.ops [.m 15 5,.v 16 .add 15 .w,.m 5 16])))))) (.r [.o 4 (.aF .T)]))))⟩
def fn15:ar:=⟨158,0,[(0,none)],(.s [.o 0 (.aF .F)] (.s [.c 19 70 [],.m 1 19] (.seq (.s [.m 20 1,.o 21 (.build [.str [],.str [],.int .i64 0] [(0,1,(.c (.str [116,97,112,101,32,97,32,49,32,49,48]))),(1,1,(.c (.str [100,111,110,101,32,49]))),(2,1,.z)]),.o 22 (.build [.str [],.str [],.int .i64 0] [(0,1,(.c (.str [116,97,112,101,32,98,32,53,32,49,48,48]))),(1,1,(.c (.str [100,111,110,101,32,50]))),(2,1,.z)]),.o 23 (.build [.str [],.str [],.int .i64 0] [(0,1,(.c (.str [108,105,110,101,32,108,49,32,53,32,50]))),(1,1,(.c (.str [100,111,110,101,32,51]))),(2,1,.z)]),.o 24 (.build [.str [],.str [],.int .i64 0] [(0,1,(.c (.str [115,104,111,116,32,115,49,32,108,49,32,97,32,54]))),(1,1,(.c (.str [100,111,110,101,32,52]))),(2,1,.z)]),.o 25 (.build [.str [],.str [],.int .i64 0] [(0,1,(.c (.str [115,104,111,116,32,115,50,32,108,49,32,98,32,55]))),(1,1,(.c (.str [100,111,110,101,32,53]))),(2,1,.z)]),.o 26 (.build [.str [],.str [],.int .i64 0] [(0,1,(.c (.str [99,111,112,121,32,97,32,98,32,56]))),(1,1,(.c (.str [100,111,110,101,32,54]))),(2,1,.z)]),.o 27 (.build [.str [],.str [],.int .i64 0] [(0,1,(.c (.str [116,97,112,101,115,32,115,49]))),(1,1,(.c (.str [97,32,98]))),(2,1,.z)]),.o 28 (.build [.str [],.str [],.int .i64 0] [(0,1,(.c (.str [99,111,112,121,32,97,32,98,32,49,50]))),(1,1,(.c (.str []))),(2,1,(.n 30))]),.o 29 (.build [.str [],.str [],.int .i64 0] [(0,1,(.c (.str [119,97,110,116,32,108,49]))),(1,1,(.c (.str [50,32,50,32,111,112,101,110]))),(2,1,.z)]),.o 30 (.build [.str [],.str [],.int .i64 0] [(0,1,(.c (.str [97,99,99,101,112,116,32,108,49,32,57]))),(1,1,(.c (.str [100,111,110,101,32,55]))),(2,1,.z)]),.o 31 (.build [.str [],.str [],.int .i64 0] [(0,1,(.c (.str [115,104,111,116,32,115,51,32,108,49,32,98,32,57]))),(1,1,(.c (.str []))),(2,1,(.n 23))]),.o 32 (.build [.str [],.str [],.int .i64 0] [(0,1,(.c (.str [115,111,117,114,99,101,32,109,49,32,108,49,32,57]))),(1,1,(.c (.str [100,111,110,101,32,56]))),(2,1,.z)]),.o 33 (.build [.str [],.str [],.int .i64 0] [(0,1,(.c (.str [109,111,100,117,108,101,32,109,50,32,109,49,32,57,32,50]))),(1,1,(.c (.str [100,111,110,101,32,57]))),(2,1,.z)]),.o 34 (.build [.str [],.str [],.int .i64 0] [(0,1,(.c (.str [109,111,100,117,108,101,32,109,51,32,109,50,32,57,32,51]))),(1,1,(.c (.str [100,111,110,101,32,49,48]))),(2,1,.z)]),.o 35 (.build [.str [],.str [],.int .i64 0] [(0,1,(.c (.str [109,111,100,117,108,101,32,109,52,32,109,49,32,57,32,51]))),(1,1,(.c (.str []))),(2,1,(.n 2))]),.o 36 (.build [.str [],.str [],.int .i64 0] [(0,1,(.c (.str [109,101,114,103,101,32,109,52,32,109,49,32,109,50,32,57]))),(1,1,(.c (.str []))),(2,1,(.n 2))]),.o 37 (.build [.str [],.str [],.int .i64 0] [(0,1,(.c (.str [114,117,110,32,106,49,32,109,51,32,49,48,32,51]))),(1,1,(.c (.str [100,111,110,101,32,49,49]))),(2,1,.z)]),.o 38 (.build [.str [],.str [],.int .i64 0] [(0,1,(.c (.str [116,105,108,101,32,106,49,32,49,48,32,50,32,55]))),(1,1,(.c (.str [100,111,110,101,32,49,50]))),(2,1,.z)]),.o 39 (.build [.str [],.str [],.int .i64 0] [(0,1,(.c (.str [116,105,108,101,32,106,49,32,49,48,32,48,32,53]))),(1,1,(.c (.str [100,111,110,101,32,49,51]))),(2,1,.z)]),.o 40 (.build [.str [],.str [],.int .i64 0] [(0,1,(.c (.str [108,101,102,116,32,106,49]))),(1,1,(.c (.str [49]))),(2,1,.z)]),.o 41 (.build [.str [],.str [],.int .i64 0] [(0,1,(.c (.str [102,97,105,108,32,106,49,32,49,49,32,50]))),(1,1,(.c (.str [100,111,110,101,32,49,52]))),(2,1,.z)]),.o 42 (.build [.str [],.str [],.int .i64 0] [(0,1,(.c (.str [108,101,102,116,32,106,49]))),(1,1,(.c (.str [49,32,50]))),(2,1,.z)]),.o 43 (.build [.str [],.str [],.int .i64 0] [(0,1,(.c (.str [112,105,99,116,117,114,101,32,112,49,32,106,49,32,49,49]))),(1,1,(.c (.str []))),(2,1,(.n 32))]),.o 44 (.build [.str [],.str [],.int .i64 0] [(0,1,(.c (.str [116,105,108,101,32,106,49,32,49,49,32,49,32,54]))),(1,1,(.c (.str [100,111,110,101,32,49,53]))),(2,1,.z)]),.o 45 (.build [.str [],.str [],.int .i64 0] [(0,1,(.c (.str [116,105,108,101,32,106,49,32,49,49,32,50,32,55]))),(1,1,(.c (.str [100,111,110,101,32,49,54]))),(2,1,.z)]),.o 46 (.build [.str [],.str [],.int .i64 0] [(0,1,(.c (.str [112,105,99,116,117,114,101,32,112,49,32,106,49,32,49,50]))),(1,1,(.c (.str [100,111,110,101,32,49,55]))),(2,1,.z)]),.o 47 (.build [.str [],.str [],.int .i64 0] [(0,1,(.c (.str [102,114,111,109,32,112,49]))),(1,1,(.c (.str [115,49,32,115,50]))),(2,1,.z)]),.o 48 (.build [.str [],.str [],.int .i64 0] [(0,1,(.c (.str [108,105,110,101,115,32,109,51]))),(1,1,(.c (.str [108,49]))),(2,1,.z)]),.o 49 (.build [.str [],.str [],.int .i64 0] [(0,1,(.c (.str [117,110,115,97,102,101]))),(1,1,(.c (.str [110,111,110,101]))),(2,1,.z)]),.o 50 (.build [.str [],.str [],.int .i64 0] [(0,1,(.c (.str [114,101,108,101,97,115,101,32,112,49,32,49,50]))),(1,1,(.c (.str [100,111,110,101,32,49,56]))),(2,1,.z)]),.o 51 (.build [.str [],.str [],.int .i64 0] [(0,1,(.c (.str [117,110,100,111]))),(1,1,(.c (.str []))),(2,1,(.n 21))]),.o 52 (.build [.str [],.str [],.int .i64 0] [(0,1,(.c (.str [114,101,108,101,97,115,101,100]))),(1,1,(.c (.str [112,49,32,53,50,57,49,55,52]))),(2,1,.z)]),.o 53 (.aE 3 32 [.str [],.str [],.int .i64 0] [(0,.t 21),(3,.t 22),(6,.t 23),(9,.t 24),(12,.t 25),(15,.t 26),(18,.t 27),(21,.t 28),(24,.t 29),(27,.t 30),(30,.t 31),(33,.t 32),(36,.t 33),(39,.t 34),(42,.t 35),(45,.t 36),(48,.t 37),(51,.t 38),(54,.t 39),(57,.t 40),(60,.t 41),(63,.t 42),(66,.t 43),(69,.t 44),(72,.t 45),(75,.t 46),(78,.t 47),(81,.t 48),(84,.t 49),(87,.t 50),(90,.t 51),(93,.t 52)]),.c 54 71 [.t 20,.t 53],.o 55 (.un .not (.t 54))] (.j 55 [.o 0 (.aF .F)])) (.s [.m 56 1,.c 57 44 [.t 56],.m 2 57] (.seq (.s [.m 58 2,.n 59 58,.v 60 .neq 59 (.n 18)] (.j 60 [.o 0 (.aF .F)])) (.s [.m 62 2,.o 63 (.sl 5 (.t 62) none (some (.n 5))),.o 64 (.call (.f 16) [.t 63,(.c (.str [115,49])),.n 12]),.m 61 64,.e 65 61 0,.e 66 61 1,.m 3 65,.m 4 66] (.s [.m 68 2,.o 69 (.call (.f 16) [.t 68,(.c (.str [115,49])),.n 105]),.m 67 69,.e 70 67 0,.e 71 67 1,.m 5 70,.m 6 71] (.s [.m 73 2,.c 74 17 [.t 73,.n 106],.m 72 74,.e 75 72 0,.e 76 72 1,.m 7 75,.m 8 76] (.s [.m 78 2,.o 79 (.call (.f 51) [.t 78,(.c (.str [109,51]))]),.m 77 79,.e 80 77 0,.e 81 77 1,.m 9 80,.m 10 81] (.s [.o 83 (.aE 1 3 [.int .i64 0] [(0,(.n 5)),(1,(.n 6)),(2,(.n 7))]),.c 84 27 [.t 83],.m 82 84,.e 85 82 0,.e 86 82 1,.m 11 85,.m 12 86] (.s [.m 88 2,.o 89 (.call (.f 26) [.t 88,(.c (.str [108,49]))]),.m 87 89,.e 90 87 0,.e 91 87 1,.m 13 90,.m 14 91] (.s [.m 92 1,.c 93 45 [.t 92],.m 15 93] (.s [.m 95 15,.v 96 .add 95 (.c (.str [49])),.c 97 37 [.t 96],.m 94 97,.e 98 94 0,.e 99 94 1,.e 100 94 2,.m 16 98,.m 17 99,.m 18 100] (.r [.m 101 4,.m 102 6,.u 103 .add 101 102,.m 104 8,.u 105 .add 103 104,.m 106 10,.u 107 .add 105 106,.m 108 12,.u 109 .add 107 108,.m 110 14,.u 111 .add 109 110,.v 112 .eql 111 .z,.m 113 112,.t 114 113 true 3,.g 115 113 true (.un .not (.t 114)),.d 116 113 115,.m 117 116,.t 118 117 true 5,.d 119 117 118,.m 120 119,.t 121 120 true 7,.g 122 120 true (.aE 1 2 [.str []] [(0,(.c (.str [115,49]))),(1,(.c (.str [115,50])))]),.g 123 120 true (.call (.f 25) [.t 121,.t 122]),.d 124 120 123,.m 125 124,.t 126 125 true 9,.g 127 125 true (.aE 1 3 [.str []] [(0,(.c (.str [109,49]))),(1,(.c (.str [109,50]))),(2,(.c (.str [109,51])))]),.g 128 125 true (.call (.f 25) [.t 126,.t 127]),.d 129 125 128,.m 130 129,.t 131 130 true 11,.g 132 130 true (.bin .eql (.t 131) (.n 529174)),.d 133 130 132,.m 134 133,.t 135 134 true 13,.g 136 134 true (.len .sl (.t 135)),.g 137 134 true (.bin .eql (.t 136) (.n 8)),.d 138 134 137,.m 139 138,.t 140 139 true 18,.g 141 139 true (.bin .eql (.t 140) (.n 28)),.d 142 139 141,.m 143 142,.t 144 143 true 16,.g 145 143 true (.len .sl (.t 144)),.g 146 143 true (.bin .eql (.t 145) (.n 18)),.d 147 143 146,.m 148 147,.t 149 148 true 17,.t 150 148 true 15,.g 151 148 true (.len .st (.t 150)),.g 152 148 true (.bin .eql (.t 149) (.t 151)),.d 153 148 152,.m 154 153,.g 155 154 true (.call (.f 72) [(.c (.str [49,49]))]),.g 156 154 true (.bin .eql (.t 155) (.c (.str [48,49,51,49,53,56,49]))),.d 157 154 156,.m 0 157]))))))))))))))⟩
def fn16:ar:=⟨31,3,[(6,none),(7,none)],(.s [.o 6 (.aF .F),.o 7 (.aF .z)] (.s [.m 12 0,.m 13 1,.c 14 73 [.t 12,.n 2,.t 13],.m 11 14,.e 15 11 0,.e 16 11 1,.o 8 (.box (.c (.agg [.int .i64 0,.af,.af,.af,.af,.af,.af]))),.s 7 8 15,.m 9 16] (.seq (.s [.m 17 9,.m 18 2,.c 19 75 [.t 18],.o 20 (.aE 1 2 [.int .i64 0] [(0,.t 17),(1,.t 19)]),.c 21 74 [.t 20],.m 10 21] (.s [.m 22 10,.v 23 .neq 22 .z] (.j 23 [.m 24 10,.o 6 (.aF .F),.m 7 24]))) (.r [.y 25 (.load (some 7) (.t 8)),.y 26 (.load (some 7) (.t 8)),.w 27 1,.y 28 (.call (.f 77) [.t 26,.t 27]),.w 29 2,.c 30 76 [.t 25,.t 28,.t 29],.m 6 30,.o 7 (.aF .z)]))))⟩
def fn17:ar:=⟨28,2,[(4,none),(5,none)],(.s [.o 4 (.aF (.c .af)),.o 5 (.aF .z)] (.s [.m 11 0,.c 12 78 [.t 11],.m 10 12,.e 13 10 0,.e 14 10 1,.e 15 10 2,.m 6 13,.m 7 14,.m 8 15] (.seq (.s [.m 16 8,.m 17 1,.c 18 75 [.t 17],.o 19 (.aE 1 2 [.int .i64 0] [(0,.t 16),(1,.t 18)]),.c 20 74 [.t 19],.m 9 20] (.s [.m 21 9,.v 22 .neq 21 .z] (.j 22 [.m 23 9,.o 4 (.aF (.c .af)),.m 5 23]))) (.r [.m 24 6,.c 25 79 [.t 24],.m 26 1,.c 27 80 [.t 25,.t 26],.m 4 27,.o 5 (.aF .z)]))))⟩
def fn18:ar:=⟨19,1,[(2,some (some 7)),(3,none),(4,none)],(.s [.o 2 (.box (.c (.agg [.int .i64 0,.af,.af,.af,.af,.af,.af]))),.o 3 (.aF .z),.o 4 (.aF .z)] (.s [.m 10 0,.c 11 81 [.t 10],.m 9 11,.e 12 9 0,.e 13 9 1,.e 14 9 2,.e 15 9 3,.o 6 (.box (.c (.agg [.int .i64 0,.af,.af,.af,.af,.af,.af]))),.m 5 12,.s 7 6 13,.m 7 14,.m 8 15] (.r [.r 16 7 6,.m 17 7,.m 18 8,.s 7 2 16,.m 3 17,.m 4 18])))⟩
def zC(x0:Nat):ar:=⟨8,2,[(4,none)],(.s [.o 4 (.aF .z)] (.r [.m 5 0,.m 6 1,.c 7 x0 [.t 5,.t 6],.m 4 7]))⟩
def fn19:ar:=zC 82
def fn20:ar:=⟨15,3,[(6,none)],(.s [.o 6 (.aF .F)] (.r [.m 7 0,.m 8 1,.u 9 .lss 7 8,.m 10 9,.t 11 10 false 0,.t 12 10 false 2,.g 13 10 false (.bin .gtr (.t 11) (.t 12)),.f 14 10 13,.m 6 14]))⟩
def fn21:ar:=⟨5,1,[(2,none)],(.s [.o 2 (.aF .z)] (.r [.m 3 0,.c 4 83 [.t 3],.m 2 4]))⟩
def uO(x0 x1:Nat):ar:=⟨22,2,[(4,none)],(.s [.p 2 0,.o 4 (.aF .z)] (.seq (.s [.o 5 (.aF .z)] (.block 0 (.loop (.seq (.s [.m 6 5,.a 7 x0 2,.l 8 7,.n 9 8,.u 10 .lss 6 9] (.i 10 .skip (.exit 0))) (.seq (.block 1 (.s [.a 13 x0 2,.l 14 13,.m 15 5,.h 16 x1 14 15,.a 17 0 16,.l 18 17,.m 19 1,.u 20 .eql 18 19] (.j 20 [.m 21 5,.m 4 21]))) (.ops [.m 11 5,.v 12 .add 11 .w,.m 5 12])))))) (.r [.o 4 (.aF (.n (-1)))])))⟩
def fn22:ar:=uO 3 3
def fn23:ar:=⟨23,3,[(6,none)],(.s [.p 3 0,.p 4 1,.o 6 (.aF .F)] (.seq (.s [.o 7 (.aF .z)] (.block 0 (.loop (.seq (.s [.m 8 7,.a 9 2 4,.l 10 9,.n 11 10,.u 12 .lss 8 11] (.i 12 .skip (.exit 0))) (.seq (.block 1 (.s [.y 15 (.load (some 7) (.t 3)),.y 16 (.aP 2 (.t 4)),.j 17 16,.w 18 7,.y 19 (.aS 1 (.t 17) (.t 18)),.j 20 19,.w 21 2,.c 22 84 [.t 15,.t 20,.t 21]] (.j 22 [.o 6 (.aF .T)]))) (.ops [.m 13 7,.v 14 .add 13 .w,.m 7 14])))))) (.r [.o 6 (.aF .F)])))⟩
def Dv:ar:=⟨26,2,[(4,none)],(.s [.o 4 (.aF .F)] (.seq (.s [.m 6 0,.n 7 6,.m 8 1,.n 9 8,.u 10 .neq 7 9] (.j 10 [.o 4 (.aF .F)])) (.seq (.s [.o 5 (.aF .z)] (.block 0 (.loop (.seq (.s [.m 11 5,.m 12 0,.n 13 12,.u 14 .lss 11 13] (.i 14 .skip (.exit 0))) (.seq (.block 1 (.s [.w 17 0,.w 18 5,.y 19 (.aS 1 (.t 17) (.t 18)),.j 20 19,.w 21 1,.w 22 5,.y 23 (.aS 1 (.t 21) (.t 22)),.j 24 23,.u 25 .neq 20 24] (.j 25 [.o 4 (.aF .F)]))) (.ops [.m 15 5,.v 16 .add 15 .w,.m 5 16])))))) (.r [.o 4 (.aF .T)]))))⟩
def fn25:ar:=Dv
def fn26:ar:=⟨54,2,[(4,none),(5,none)],(.s [.p 3 1,.o 4 (.aF (.c .af)),.o 5 (.aF .z)] (.s [.m 13 0,.c 14 78 [.t 13],.m 12 14,.e 15 12 0,.e 16 12 1,.e 17 12 2,.m 6 15,.m 7 16,.m 8 17] (.seq (.s [.w 18 8,.w 19 8,.y 20 (.bin .eql (.t 19) .z),.w 21 20,⟨(some 22),.aF (.t 6),(some (21,true)),true⟩,⟨(some 23),.call (.f 79) [.t 22],(some (21,true)),true⟩,⟨(some 24),.load none (.t 3),(some (21,true)),true⟩,⟨(some 25),.call (.f 86) [.t 23,.z,.t 24],(some (21,true)),true⟩,⟨(some 26),.un .not (.t 25),(some (21,true)),true⟩,.y 27 (.pick (.t 21) (.t 26) .F),.y 28 (.call (.f 85) [.t 27,.n 10]),.o 29 (.aE 1 2 [.int .i64 0] [(0,.t 18),(1,.t 28)]),.c 30 74 [.t 29],.m 9 30] (.s [.m 31 9,.v 32 .neq 31 .z] (.j 32 [.m 33 9,.o 4 (.aF (.c .af)),.m 5 33]))) (.s [.m 34 6,.o 35 (.bt (.t 34)),.a 36 1 35,.l 37 36,.o 38 (.kQ (.func 89) [] [.t 3]),.c 39 88 [.t 37,.t 38],.c 40 87 [.t 39,(.f 91)],.m 10 40] (.seq (.s [.m 41 10,.n 42 41,.o 43 (.aF .z)] (.block 0 (.loop (.s [.u 44 .lss 43 42] (.seq (.i 44 .skip (.exit 0)) (.seq (.block 1 (.s [.m 45 43,.m 11 45] (.ops [.m 46 10,.m 47 11,.m 48 11,.v 49 .add 48 .w,.h 50 5 46 47,.a 51 0 50,.s 1 51 49]))) (.ops [.v 52 .add 43 .w,.m 43 52]))))))) (.r [.m 53 10,.m 4 53,.o 5 (.aF .z)]))))))⟩
def fn27:ar:=⟨27,1,[(2,none),(3,none)],(.s [.o 2 (.aF .z),.o 3 (.aF .z)] (.seq (.s [.m 6 0,.n 7 6,.v 8 .eql 7 .z,.c 9 85 [.t 8,.n 12],.m 10 0,.n 11 10,.v 12 .gtr 11 (.n 32),.c 13 85 [.t 12,.n 5],.o 14 (.aE 1 2 [.int .i64 0] [(0,.t 9),(1,.t 13)]),.c 15 74 [.t 14],.m 4 15] (.s [.m 16 4,.v 17 .neq 16 .z] (.j 17 [.m 18 4,.o 2 (.aF .z),.m 3 18]))) (.seq (.s [.m 19 0,.c 20 92 [.t 19,(.f 93)],.c 21 74 [.t 20],.m 5 21] (.s [.m 22 5,.v 23 .neq 22 .z] (.j 23 [.m 24 5,.o 2 (.aF .z),.m 3 24]))) (.r [.m 25 0,.c 26 95 [.t 25],.m 2 26,.o 3 (.aF .z)]))))⟩
def fn28:ar:=uO 1 3
def fn29:ar:=⟨21,1,[(2,none)],(.s [.o 2 (.aF .z)] (.seq (.s [.m 4 0,.n 5 4,.v 6 .eql 5 .z] (.j 6 [.o 2 (.aF (.n 12))])) (.seq (.s [.m 7 0,.n 8 7,.v 9 .gtr 8 (.n 32)] (.j 9 [.o 2 (.aF (.n 5))])) (.seq (.s [.o 3 (.aF .z)] (.block 0 (.loop (.seq (.s [.m 10 3,.m 11 0,.n 12 11,.u 13 .lss 10 12] (.i 13 .skip (.exit 0))) (.seq (.block 1 (.s [.m 16 0,.m 17 3,.h 18 1 16 17,.l 19 18,.c 20 20 [.t 19,.z,.n 999999999]] (.j 20 [.o 2 (.aF (.n 3))]))) (.ops [.m 14 3,.v 15 .add 14 .w,.m 3 15])))))) (.r [.o 2 (.aF .z)])))))⟩
def fn30:ar:=⟨63,2,[(4,none)],(.s [.o 4 (.aF (.c .af))] (.s [.m 14 0,.c 15 81 [.t 14],.m 13 15,.e 16 13 0,.e 17 13 1,.e 18 13 2,.e 19 13 3,.o 6 (.box (.c (.agg [.int .i64 0,.af,.af,.af,.af,.af,.af]))),.m 5 16,.s 7 6 17,.m 7 18,.m 8 19] (.s [.o 9 (.aF (.c .af))] (.seq (.s [.o 10 (.aF .z)] (.block 0 (.loop (.seq (.s [.m 20 10,.m 21 5,.n 22 21,.u 23 .lss 20 22] (.i 23 .skip (.exit 0))) (.seq (.block 1 (.s [.m 26 5,.m 27 10,.h 28 5 26 27,.r 29 5 28,.o 11 (.box (.c (.agg [.int .i64 0,.str [],.af,.af,.str []]))),.s 5 11 29] (.s [.o 12 (.aF .F)] (.seq (.s [.a 30 1 11,.l 31 30] (.block 2 (.seq (.s [.v 33 .eql 31 (.c (.str [108,105,110,101])),.m 32 33] (.i 32 .skip (.ops [.v 34 .eql 31 (.c (.str [97,99,99,101,112,116])),.m 32 34]))) (.i 32 (.ops [.a 35 2 11,.l 36 35,.o 37 (.aS 1 (.t 36) .z),.l 38 37,.m 39 1,.u 40 .eql 38 39,.m 12 40]) (.seq (.s [.v 42 .eql 31 (.c (.str [115,111,117,114,99,101])),.m 41 42] (.i 41 .skip (.ops [.v 43 .eql 31 (.c (.str [115,104,111,116])),.m 41 43]))) (.i 41 (.ops [.a 44 2 11,.l 45 44,.o 46 (.aS 1 (.t 45) .w),.l 47 46,.m 48 1,.u 49 .eql 47 48,.m 12 49]) (.seq (.s [.v 51 .eql 31 (.c (.str [116,97,112,101])),.m 50 51] (.i 50 .skip (.ops [.v 52 .eql 31 (.c (.str [99,111,112,121])),.m 50 52]))) (.i 50 (.ops [.o 12 (.aF .T)]) .skip)))))))) (.s [.m 53 12] (.i 53 (.s [.m 54 9,.n 55 54,.v 56 .add 55 .w,.a 57 0 11,.s 1 57 56] (.ops [.m 58 9,.r 59 5 11,.o 60 (.aE 5 1 [.int .i64 0,.str [],.af,.af,.str []] [(0,.t 59)]),.o 61 (.app 5 88 (.t 58) (.t 60)),.m 9 61])) .skip)))))) (.ops [.m 24 10,.v 25 .add 24 .w,.m 10 25])))))) (.r [.m 62 9,.m 4 62])))))⟩
def fn31:ar:=⟨20,1,[(2,none)],(.s [.o 2 (.aF .z)] (.s [.o 3 (.aF .w)] (.seq (.s [.o 4 (.aF .z)] (.block 0 (.loop (.seq (.s [.m 5 4,.m 6 0,.n 7 6,.u 8 .lss 5 7] (.i 8 .skip (.exit 0))) (.seq (.block 1 (.ops [.m 11 3,.b 12 .mul (.n 257) (.t 11),.m 13 0,.m 14 4,.h 15 1 13 14,.l 16 15,.u 17 .add 12 16,.v 18 .rem 17 (.n 16777213),.m 3 18])) (.ops [.m 9 4,.v 10 .add 9 .w,.m 4 10])))))) (.r [.m 19 3,.m 2 19]))))⟩
def fn32:ar:=⟨82,2,[(4,none)],(.s [.o 4 (.aF .F)] (.seq (.s [.m 6 0,.n 7 6,.m 8 1,.n 9 8,.u 10 .neq 7 9] (.j 10 [.o 4 (.aF .F)])) (.seq (.s [.o 5 (.aF .z)] (.block 0 (.loop (.seq (.s [.m 11 5,.m 12 0,.n 13 12,.u 14 .lss 11 13] (.i 14 .skip (.exit 0))) (.seq (.block 1 (.s [.w 17 0,.w 18 5,.y 19 (.aS 5 (.t 17) (.t 18)),.y 20 (.aP 0 (.t 19)),.j 21 20,.w 22 1,.w 23 5,.y 24 (.aS 5 (.t 22) (.t 23)),.y 25 (.aP 0 (.t 24)),.j 26 25,.u 27 .neq 21 26,.m 28 27,⟨(some 29),.aF (.t 0),(some (28,false)),true⟩,⟨(some 30),.aF (.t 5),(some (28,false)),true⟩,⟨(some 31),.aS 5 (.t 29) (.t 30),(some (28,false)),true⟩,⟨(some 32),.aP 1 (.t 31),(some (28,false)),true⟩,⟨(some 33),.load none (.t 32),(some (28,false)),true⟩,⟨(some 34),.aF (.t 1),(some (28,false)),true⟩,⟨(some 35),.aF (.t 5),(some (28,false)),true⟩,⟨(some 36),.aS 5 (.t 34) (.t 35),(some (28,false)),true⟩,⟨(some 37),.aP 1 (.t 36),(some (28,false)),true⟩,⟨(some 38),.load none (.t 37),(some (28,false)),true⟩,.g 39 28 false (.bin .neq (.t 33) (.t 38)),.f 40 28 39,.m 41 40,⟨(some 42),.aF (.t 0),(some (41,false)),true⟩,⟨(some 43),.aF (.t 5),(some (41,false)),true⟩,⟨(some 44),.aS 5 (.t 42) (.t 43),(some (41,false)),true⟩,⟨(some 45),.aP 2 (.t 44),(some (41,false)),true⟩,⟨(some 46),.load none (.t 45),(some (41,false)),true⟩,⟨(some 47),.aF (.t 1),(some (41,false)),true⟩,⟨(some 48),.aF (.t 5),(some (41,false)),true⟩,⟨(some 49),.aS 5 (.t 47) (.t 48),(some (41,false)),true⟩,⟨(some 50),.aP 2 (.t 49),(some (41,false)),true⟩,⟨(some 51),.load none (.t 50),(some (41,false)),true⟩,.g 52 41 false (.call (.f 25) [.t 46,.t 51]),.g 53 41 false (.un .not (.t 52)),.f 54 41 53,.m 55 54,⟨(some 56),.aF (.t 0),(some (55,false)),true⟩,⟨(some 57),.aF (.t 5),(some (55,false)),true⟩,⟨(some 58),.aS 5 (.t 56) (.t 57),(some (55,false)),true⟩,⟨(some 59),.aP 3 (.t 58),(some (55,false)),true⟩,⟨(some 60),.load none (.t 59),(some (55,false)),true⟩,⟨(some 61),.aF (.t 1),(some (55,false)),true⟩,⟨(some 62),.aF (.t 5),(some (55,false)),true⟩,⟨(some 63),.aS 5 (.t 61) (.t 62),(some (55,false)),true⟩,⟨(some 64),.aP 3 (.t 63),(some (55,false)),true⟩,⟨(some 65),.load none (.t 64),(some (55,false)),true⟩,.g 66 55 false (.call (.f 62) [.t 60,.t 65]),.g 67 55 false (.un .not (.t 66)),.f 68 55 67,.m 69 68,⟨(some 70),.aF (.t 0),(some (69,false)),true⟩,⟨(some 71),.aF (.t 5),(some (69,false)),true⟩,⟨(some 72),.aS 5 (.t 70) (.t 71),(some (69,false)),true⟩,⟨(some 73),.aP 4 (.t 72),(some (69,false)),true⟩,⟨(some 74),.load none (.t 73),(some (69,false)),true⟩,⟨(some 75),.aF (.t 1),(some (69,false)),true⟩,⟨(some 76),.aF (.t 5),(some (69,false)),true⟩,⟨(some 77),.aS 5 (.t 75) (.t 76),(some (69,false)),true⟩,⟨(some 78),.aP 4 (.t 77),(some (69,false)),true⟩,⟨(some 79),.load none (.t 78),(some (69,false)),true⟩,.g 80 69 false (.bin .neq (.t 74) (.t 79)),.f 81 69 80] (.j 81 [.o 4 (.aF .F)]))) (.ops [.m 15 5,.v 16 .add 15 .w,.m 5 16])))))) (.r [.o 4 (.aF .T)]))))⟩
def fn35:ar:=⟨18,2,[(4,none)],(.s [.o 4 (.aF .F)] (.seq (.s [.o 5 (.aF .z)] (.block 0 (.loop (.seq (.s [.m 6 5,.m 7 0,.n 8 7,.u 9 .lss 6 8] (.i 9 .skip (.exit 0))) (.seq (.block 1 (.s [.m 12 0,.m 13 5,.h 14 1 12 13,.l 15 14,.m 16 1,.u 17 .eql 15 16] (.j 17 [.o 4 (.aF .T)]))) (.ops [.m 10 5,.v 11 .add 10 .w,.m 5 11])))))) (.r [.o 4 (.aF .F)])))⟩
def fn37:ar:=⟨55,1,[(2,none),(3,none),(4,none)],(.s [.o 2 (.aF (.c .af)),.o 3 (.aF .z),.o 4 (.aF .z)] (.seq (.s [.m 12 0,.o 13 (.len .st (.t 12)),.v 14 .gtr 13 (.n 1000000)] (.j 14 [.o 2 (.aF (.c .af)),.o 3 (.aF .z),.o 4 (.aF (.n 26))])) (.s [.o 5 (.aF (.c .af))] (.s [.o 6 (.aF .z)] (.seq (.block 0 (.loop (.seq (.s [.m 15 6,.m 16 0,.o 17 (.len .st (.t 16)),.u 18 .lss 15 17] (.i 18 .skip (.exit 0))) (.block 1 (.s [.m 20 0,.m 21 6,.o 22 (.pL (.t 20) (some (.t 21)) none),.o 23 (.call (.f 98) [.t 22,(.c (.str [10]))]),.m 19 23,.e 24 19 0,.e 25 19 1,.e 26 19 2,.m 7 24,.m 8 25,.m 9 26] (.seq (.s [.m 27 9,.o 28 (.un .not (.t 27))] (.j 28 [.m 29 5,.m 30 6,.m 2 29,.m 3 30,.o 4 (.aF (.n 28))])) (.s [.m 32 7,.m 33 5,.n 34 33,.v 35 .add 34 .w,.c 36 99 [.t 32,.t 35],.m 31 36,.e 37 31 0,.e 38 31 1,.o 10 (.box (.c (.agg [.int .i64 0,.str [],.af,.af,.str []]))),.s 5 10 37,.m 11 38] (.seq (.s [.m 39 11,.v 40 .neq 39 .z] (.j 40 [.m 41 5,.m 42 6,.m 43 11,.m 2 41,.m 3 42,.m 4 43])) (.s [.m 44 5,.r 45 5 10,.o 46 (.aE 5 1 [.int .i64 0,.str [],.af,.af,.str []] [(0,.t 45)]),.o 47 (.app 5 88 (.t 44) (.t 46)),.m 5 47] (.ops [.m 48 6,.m 49 7,.o 50 (.len .st (.t 49)),.v 51 .add 50 .w,.u 52 .add 48 51,.m 6 52])))))))))) (.r [.m 53 5,.m 54 6,.m 2 53,.m 3 54,.o 4 (.aF .z)]))))))⟩
def fn39:ar:=⟨59,1,[(2,none)],(.s [.p 1 0,.o 2 (.aF .z)] (.seq (.s [.a 6 0 1,.l 7 6,.c 8 20 [.t 7,.w,.n 1000]] (.j 8 [.o 2 (.aF (.n 3))])) (.s [.a 9 1 1,.l 10 9,.c 11 101 [.t 10],.o 3 (.box (.c (.agg [.str [],.int .i64 0,.bool false]))),.s 3 3 11] (.seq (.s [.a 12 2 3,.l 13 12,.o 14 (.un .not (.t 13))] (.j 14 [.o 2 (.aF (.n 13))])) (.seq (.s [.a 15 2 1,.l 16 15,.n 17 16,.a 18 0 3,.l 19 18,.o 20 (.len .st (.t 19)),.u 21 .neq 17 20,.m 22 21,.g 23 22 false (.aP 3 (.t 1)),.g 24 22 false (.load none (.t 23)),.g 25 22 false (.len .sl (.t 24)),.g 26 22 false (.aP 1 (.t 3)),.g 27 22 false (.load none (.t 26)),.g 28 22 false (.bin .neq (.t 25) (.t 27)),.f 29 22 28] (.j 29 [.o 2 (.aF (.n 2))])) (.seq (.s [.o 4 (.aF .z)] (.block 0 (.loop (.seq (.s [.m 30 4,.a 31 0 3,.l 32 31,.o 33 (.len .st (.t 32)),.u 34 .lss 30 33] (.i 34 .skip (.exit 0))) (.seq (.block 1 (.s [.a 37 2 1,.l 38 37,.m 39 4,.h 40 1 38 39,.l 41 40,.c 42 102 [.t 41],.o 43 (.un .not (.t 42))] (.j 43 [.o 2 (.aF (.n 8))]))) (.ops [.m 35 4,.v 36 .add 35 .w,.m 4 36])))))) (.seq (.s [.o 5 (.aF .z)] (.block 2 (.loop (.seq (.s [.m 44 5,.a 45 1 3,.l 46 45,.u 47 .lss 44 46] (.i 47 .skip (.exit 2))) (.seq (.block 3 (.s [.a 50 3 1,.l 51 50,.m 52 5,.h 53 1 51 52,.l 54 53,.c 55 20 [.t 54,.z,.n 999999999]] (.j 55 [.o 2 (.aF (.n 3))]))) (.ops [.m 48 5,.v 49 .add 48 .w,.m 5 49])))))) (.seq (.s [.a 56 4 1,.l 57 56,.v 58 .neq 57 (.c (.str []))] (.j 58 [.o 2 (.aF .w)])) (.r [.o 2 (.aF .z)])))))))))⟩
def fn43:ar:=⟨97,2,[(4,none),(5,none)],(.s [.o 4 (.aF (.c (.str []))),.o 5 (.aF .z)] (.seq (.s [.m 16 0,.o 17 (.eqv false .xZ (.t 16) (.c .nilPtr))] (.j 17 [.o 4 (.aF (.c (.str []))),.o 5 (.aF (.n 22))])) (.seq (.s [.m 18 1,.o 19 (.len .st (.t 18)),.v 20 .gtr 19 (.n 4096),.c 21 85 [.t 20,.n 26],.m 22 1,.v 23 .eql 22 (.c (.str [])),.c 24 85 [.t 23,.n 25],.o 25 (.aE 1 2 [.int .i64 0] [(0,.t 21),(1,.t 24)]),.c 26 74 [.t 25],.m 6 26] (.s [.m 27 6,.v 28 .neq 27 .z] (.j 28 [.m 29 6,.o 4 (.aF (.c (.str []))),.m 5 29]))) (.s [.m 30 1,.o 31 (.call (.f 64) [.t 30,(.c (.str [32]))]),.m 7 31] (.seq (.s [.y 33 (.call (.f 109) []),.w 34 7,.y 35 (.aS 1 (.t 34) .z),.j 36 35,.y 37 (.look .s (.agg [.bool false,.int .i64 0,.nilFunc]) true (.t 33) (.t 36)),.w 32 37,.y 38 (.ext (.t 32) 0),.y 39 (.ext (.t 32) 1),⟨none,.aF .F,none,true⟩,.y 8 (.nh 3 (.t 38)),.m 9 39] (.s [.m 40 9] (.j 40 [.m 41 0,.m 42 7,.c 43 110 [.t 41,.t 42],.e 44 43 0,.e 45 43 1,.m 4 44,.m 5 45]))) (.seq (.s [.y 47 (.call (.f 90) []),.w 48 7,.y 49 (.aS 1 (.t 48) .z),.j 50 49,.y 51 (.look .s (.agg [.af,.int .i64 0,.nilFunc,.nilFunc,.nilFunc]) true (.t 47) (.t 50)),.w 46 51,.y 52 (.ext (.t 46) 0),.y 53 (.ext (.t 46) 1),⟨none,.aF .F,none,true⟩,.y 10 (.nh 5 (.t 52)),.m 11 53] (.s [.m 54 11,.o 55 (.un .not (.t 54))] (.j 55 [.o 4 (.aF (.c (.str []))),.o 5 (.aF (.n 13))]))) (.s [.m 57 7,.c 58 111 [.t 57],.m 56 58,.e 59 56 0,.e 60 56 1,.o 12 (.box (.c (.agg [.int .i64 0,.str [],.af,.af,.str []]))),.s 5 12 59,.m 13 60] (.seq (.s [.w 61 13,.y 62 (.un .not (.t 61)),.y 63 (.call (.f 85) [.t 62,.n 25]),.w 64 0,.y 65 (.bt (.t 64)),.y 66 (.aP 0 (.t 65)),.y 67 (.aP 0 (.t 66)),.j 68 67,.y 69 (.len .sl (.t 68)),.y 70 (.bin .geq (.t 69) (.n 1000)),.c 71 85 [.t 70,.n 5],.o 72 (.aE 1 2 [.int .i64 0] [(0,.t 63),(1,.t 71)]),.c 73 74 [.t 72],.m 14 73] (.s [.m 74 14,.v 75 .neq 74 .z] (.j 75 [.m 76 14,.o 4 (.aF (.c (.str []))),.m 5 76]))) (.s [.m 77 0,.o 78 (.bt (.t 77)),.a 79 0 78,.a 80 0 79,.l 81 80,.n 82 81,.v 83 .add 82 .w,.a 84 0 12,.s 1 84 83] (.seq (.s [.w 85 0,.y 86 (.bt (.t 85)),.y 87 (.aP 0 (.t 86)),.y 88 (.load (some 5) (.t 12)),.c 89 112 [.t 87,.t 88],.m 15 89] (.s [.m 90 15,.v 91 .neq 90 .z] (.j 91 [.m 92 15,.o 4 (.aF (.c (.str []))),.m 5 92]))) (.r [.a 93 0 12,.l 94 93,.c 95 113 [.t 94],.b 96 .add (.c (.str [100,111,110,101,32])) (.t 95),.m 4 96,.o 5 (.aF .z)])))))))))))⟩
def fn44:ar:=⟨11,1,[(2,none)],(.s [.o 2 (.aF (.c .af))] (.seq (.s [.m 3 0,.o 4 (.eqv false .xZ (.t 3) (.c .nilPtr))] (.j 4 [.o 2 (.aF (.c .af))])) (.r [.m 5 0,.o 6 (.bt (.t 5)),.a 7 0 6,.a 8 0 7,.l 9 8,.c 10 87 [.t 9,(.f 91)],.m 2 10])))⟩
def fn45:ar:=⟨12,1,[(2,none)],(.s [.o 2 (.aF (.c (.str [])))] (.seq (.s [.m 3 0,.o 4 (.eqv false .xZ (.t 3) (.c .nilPtr))] (.j 4 [.o 2 (.aF (.c (.str [])))])) (.r [.m 5 0,.o 6 (.bt (.t 5)),.a 7 0 6,.a 8 0 7,.l 9 8,.c 10 115 [.t 9,(.f 97)],.o 11 (.call (.f 114) [.t 10,(.c (.str []))]),.m 2 11])))⟩
def fn51:ar:=⟨22,2,[(4,none),(5,none)],(.s [.o 4 (.aF (.c .af)),.o 5 (.aF .z)] (.s [.m 9 0,.m 10 1,.c 11 73 [.t 9,.n 3,.t 10],.m 8 11,.e 12 8 0,.e 13 8 1,.o 6 (.box (.c (.agg [.int .i64 0,.af,.af,.af,.af,.af,.af]))),.s 7 6 12,.m 7 13] (.seq (.s [.m 14 7,.v 15 .neq 14 .z] (.j 15 [.m 16 7,.o 4 (.aF (.c .af)),.m 5 16])) (.r [.r 17 7 6,.m 18 1,.c 19 119 [.t 17,.t 18],.c 20 118 [.t 19],.c 21 117 [.t 20,(.f 120)],.m 4 21,.o 5 (.aF .z)]))))⟩
def fn55:ar:=uO 4 4
def fn56:ar:=uO 5 3
def fn57:ar:=uO 6 4
def fn58:ar:=⟨60,2,[(4,none)],(.s [.p 2 0,.o 4 (.aF (.c .af))] (.s [.m 10 1,.o 11 (.aE 1 1 [.str []] [(0,.t 10)]),.m 5 11] (.seq (.s [.a 12 4 2,.l 13 12,.n 14 13,.v 15 .sub 14 .w,.m 6 15] (.block 0 (.loop (.seq (.s [.m 16 6,.v 17 .geq 16 .z] (.i 17 .skip (.exit 0))) (.seq (.block 1 (.s [.a 20 4 2,.l 21 20,.m 22 6,.h 23 4 21 22,.r 24 4 23,.o 7 (.box (.c (.agg [.str [],.str [],.str [],.af]))),.s 4 7 24] (.s [.m 25 5,.a 26 0 7,.l 27 26,.c 28 35 [.t 25,.t 27]] (.i 28 (.lC [.o 29 (.aE 1 0 [.str []] []),.m 30 5,.o 31 (.app 1 16 (.t 29) (.t 30)),.a 32 3 7,.j 33 32,.o 34 (.app 1 16 (.t 31) (.t 33)),.m 5 34]) .skip)))) (.ops [.m 18 6,.v 19 .sub 18 .w,.m 6 19])))))) (.s [.o 8 (.aF (.c .af))] (.seq (.s [.o 9 (.aF .z)] (.block 2 (.loop (.seq (.s [.m 35 9,.a 36 4 2,.l 37 36,.n 38 37,.u 39 .lss 35 38] (.i 39 .skip (.exit 2))) (.seq (.block 3 (.s [.m 42 5,.a 43 4 2,.l 44 43,.m 45 9,.h 46 4 44 45,.a 47 0 46,.l 48 47,.c 49 35 [.t 42,.t 48]] (.i 49 (.ops [.m 50 8,.a 51 4 2,.l 52 51,.m 53 9,.h 54 4 52 53,.a 55 0 54,.l 56 55,.o 57 (.aE 1 1 [.str []] [(0,.t 56)]),.o 58 (.app 1 16 (.t 50) (.t 57)),.m 8 58]) .skip))) (.ops [.m 40 9,.v 41 .add 40 .w,.m 9 41])))))) (.r [.m 59 8,.m 4 59]))))))⟩
def fn59:ar:=⟨64,2,[(4,none)],(.s [.p 2 0,.o 4 (.aF (.c .af))] (.s [.r 11 7 2,.m 12 1,.c 13 58 [.t 11,.t 12],.m 5 13] (.s [.o 6 (.aF (.c .af)),.o 7 (.aF (.c .af))] (.seq (.s [.o 8 (.aF .z)] (.block 0 (.loop (.seq (.s [.m 14 8,.m 15 5,.n 16 15,.u 17 .lss 14 16] (.i 17 .skip (.exit 0))) (.seq (.block 1 (.s [.y 20 (.aP 4 (.t 2)),.j 21 20,.y 22 (.load (some 7) (.t 2)),.w 23 5,.w 24 8,.y 25 (.aS 1 (.t 23) (.t 24)),.j 26 25,.y 27 (.call (.f 55) [.t 22,.t 26]),.y 28 (.aS 4 (.t 21) (.t 27)),.y 29 (.load (some 4) (.t 28)),.y 9 (.box (.c (.agg [.str [],.str [],.str [],.af]))),.s 4 9 29] (.s [.a 30 3 9,.l 31 30,.n 32 31,.v 33 .eql 32 .z] (.i 33 (.ops [.m 34 6,.a 35 2 9,.l 36 35,.o 37 (.aE 1 1 [.str []] [(0,.t 36)]),.o 38 (.app 1 16 (.t 34) (.t 37)),.m 6 38]) .skip)))) (.ops [.m 18 8,.v 19 .add 18 .w,.m 8 19])))))) (.seq (.s [.o 10 (.aF .z)] (.block 2 (.loop (.seq (.s [.m 39 10,.a 40 1 2,.l 41 40,.n 42 41,.u 43 .lss 39 42] (.i 43 .skip (.exit 2))) (.seq (.block 3 (.s [.m 46 6,.a 47 1 2,.l 48 47,.m 49 10,.h 50 3 48 49,.a 51 0 50,.l 52 51,.c 53 35 [.t 46,.t 52]] (.i 53 (.ops [.m 54 7,.a 55 1 2,.l 56 55,.m 57 10,.h 58 3 56 57,.a 59 0 58,.l 60 59,.o 61 (.aE 1 1 [.str []] [(0,.t 60)]),.o 62 (.app 1 16 (.t 54) (.t 61)),.m 7 62]) .skip))) (.ops [.m 44 10,.v 45 .add 44 .w,.m 10 45])))))) (.r [.m 63 7,.m 4 63]))))))⟩
def fn60:ar:=⟨23,1,[(2,none)],(.s [.p 1 0,.o 2 (.aF (.c .af))] (.s [.o 3 (.aF (.c .af))] (.seq (.s [.o 4 (.aF .z)] (.block 0 (.loop (.seq (.s [.m 5 4,.a 6 2 1,.l 7 6,.n 8 7,.u 9 .lss 5 8] (.i 9 .skip (.exit 0))) (.seq (.block 1 (.s [.a 12 2 1,.l 13 12,.m 14 4,.h 15 1 13 14,.l 16 15,.v 17 .lss 16 .z] (.i 17 (.ops [.m 18 3,.m 19 4,.o 20 (.aE 1 1 [.int .i64 0] [(0,.t 19)]),.o 21 (.app 1 8 (.t 18) (.t 20)),.m 3 21]) .skip))) (.ops [.m 10 4,.v 11 .add 10 .w,.m 4 11])))))) (.r [.m 22 3,.m 2 22]))))⟩
def fn62:ar:=Dv
def fn64:ar:=⟨8,2,[(4,none)],(.s [.o 4 (.aF (.c .af))] (.r [.m 5 0,.m 6 1,.c 7 128 [.t 5,.t 6,.z,.n (-1)],.m 4 7]))⟩
def fn67:ar:=⟨53,1,[(2,none)],(.s [.p 1 0,.o 2 (.aF .z)] (.seq (.s [.a 8 0 1,.l 9 8,.c 10 94 [.t 9,.w,.n 1000],.m 3 10] (.s [.m 11 3,.v 12 .neq 11 .z] (.j 12 [.m 13 3,.m 2 13]))) (.s [.y 15 (.call (.f 90) []),.y 16 (.aP 1 (.t 1)),.j 17 16,.y 18 (.look .s (.agg [.af,.int .i64 0,.nilFunc,.nilFunc,.nilFunc]) true (.t 15) (.t 17)),.w 14 18,.y 19 (.ext (.t 14) 0),.y 20 (.ext (.t 14) 1),⟨none,.aF .F,none,true⟩,.y 4 (.nh 5 (.t 19)),.m 5 20] (.seq (.s [.m 21 5,.o 22 (.un .not (.t 21))] (.j 22 [.o 2 (.aF (.n 13))])) (.seq (.s [.a 23 2 1,.l 24 23,.n 25 24,.a 26 3 1,.l 27 26,.n 28 27,.o 29 (.build [.int .i64 0,.int .i64 0] [(0,1,.t 25),(1,1,.t 28)]),.a 30 0 4,.l 31 30,.n 32 31,.a 33 1 4,.l 34 33,.o 35 (.build [.int .i64 0,.int .i64 0] [(0,1,.t 32),(1,1,.t 34)]),.o 36 (.eqv true (.agg [.i,.i]) (.t 29) (.t 35))] (.j 36 [.o 2 (.aF (.n 2))])) (.s [.a 37 2 1,.l 38 37,.c 39 130 [.t 38,(.f 131)],.m 6 39] (.s [.a 40 3 1,.l 41 40,.c 42 92 [.t 41,(.f 133)],.m 7 42] (.r [.w 43 6,.y 44 (.call (.f 74) [.t 43]),.w 45 7,.y 46 (.call (.f 74) [.t 45]),.y 47 (.aP 4 (.t 1)),.j 48 47,.y 49 (.bin .neq (.t 48) (.c (.str []))),.c 50 85 [.t 49,.w],.o 51 (.aE 1 3 [.int .i64 0] [(0,.t 44),(1,.t 46),(2,.t 50)]),.c 52 74 [.t 51],.m 2 52]))))))))⟩
def fn70:ar:=⟨3,0,[(0,none)],(.s [.o 0 (.aF (.c .nilPtr))] (.r [.o 1 (.build [.af,.af,.af] []),.p 2 1,.m 0 2]))⟩
def fn71:ar:=⟨35,2,[(4,none)],(.s [.o 4 (.aF .F)] (.seq (.s [.m 9 0,.o 10 (.eqv false .xZ (.t 9) (.c .nilPtr))] (.j 10 [.o 4 (.aF .F)])) (.seq (.s [.m 11 1,.n 12 11,.o 13 (.aF .z)] (.block 0 (.loop (.s [.u 14 .lss 13 12] (.seq (.i 14 .skip (.exit 0)) (.seq (.block 1 (.s [.h 15 3 11 13,.r 16 3 15,.o 6 (.box (.c (.agg [.str [],.str [],.int .i64 0]))),.s 3 6 16] (.s [.m 18 0,.a 19 0 6,.l 20 19,.c 21 43 [.t 18,.t 20],.m 17 21,.e 22 17 0,.e 23 17 1,.m 7 22,.m 8 23] (.s [.m 24 7,.a 25 1 6,.l 26 25,.u 27 .neq 24 26,.m 28 27,.t 29 28 false 8,.g 30 28 false (.aP 2 (.t 6)),.g 31 28 false (.load none (.t 30)),.g 32 28 false (.bin .neq (.t 29) (.t 31)),.f 33 28 32] (.j 33 [.o 4 (.aF .F)]))))) (.ops [.v 34 .add 13 .w,.m 13 34]))))))) (.r [.o 4 (.aF .T)]))))⟩
def fn72:ar:=⟨28,1,[(2,none)],(.s [.o 2 (.aF (.c (.str [])))] (.s [.o 3 (.aF .w)] (.seq (.s [.o 4 (.aF .z)] (.block 0 (.loop (.seq (.s [.m 6 4,.m 7 0,.o 8 (.len .st (.t 7)),.u 9 .lss 6 8] (.i 9 .skip (.exit 0))) (.seq (.block 1 (.ops [.m 12 3,.b 13 .mul (.n 339) (.t 12),.m 14 0,.m 15 4,.o 16 (.qe (.t 14) (.t 15)),.o 17 (.conv (.uc .i64) (.t 16)),.u 18 .add 13 17,.v 19 .rem 18 (.n 9999749),.m 3 19])) (.ops [.m 10 4,.v 11 .add 10 .w,.m 4 11])))))) (.s [.m 20 3,.c 21 108 [.t 20],.m 5 21] (.seq (.block 2 (.loop (.seq (.s [.m 22 5,.o 23 (.len .st (.t 22)),.v 24 .lss 23 (.n 7)] (.i 24 .skip (.exit 2))) (.block 3 (.ops [.m 25 5,.b 26 .add (.c (.str [48])) (.t 25),.m 5 26]))))) (.r [.m 27 5,.m 2 27]))))))⟩
def fn73:ar:=⟨31,3,[(6,some (some 7)),(7,none)],(.s [.o 6 (.box (.c (.agg [.int .i64 0,.af,.af,.af,.af,.af,.af]))),.o 7 (.aF .z)] (.s [.m 13 0,.c 14 78 [.t 13],.m 12 14,.e 15 12 0,.e 16 12 1,.e 17 12 2,.m 8 15,.m 9 16,.m 10 17] (.seq (.s [.m 18 10,.v 19 .neq 18 .z] (.j 19 [.o 20 (.build [.int .i64 0,.af,.af,.af,.af,.af,.af] []),.m 21 10,.s 7 6 20,.m 7 21])) (.s [.m 22 8,.c 23 79 [.t 22],.o 11 (.box (.c (.agg [.int .i64 0,.af,.af,.af,.af,.af,.af]))),.s 7 11 23] (.r [.y 24 (.load (some 7) (.t 11)),.y 25 (.load (some 7) (.t 11)),.w 26 1,.w 27 2,.y 28 (.call (.f 86) [.t 25,.t 26,.t 27]),.y 29 (.un .not (.t 28)),.y 30 (.call (.f 85) [.t 29,.n 10]),.s 7 6 24,.m 7 30])))))⟩
def fn74:ar:=⟨15,1,[(2,none)],(.s [.o 2 (.aF .z)] (.seq (.s [.m 5 0,.n 6 5,.o 7 (.aF .z)] (.block 0 (.loop (.s [.u 8 .lss 7 6] (.seq (.i 8 .skip (.exit 0)) (.seq (.block 1 (.s [.h 9 1 5 7,.l 10 9,.m 4 10] (.s [.m 11 4,.v 12 .neq 11 .z] (.j 12 [.m 13 4,.m 2 13])))) (.ops [.v 14 .add 7 .w,.m 7 14]))))))) (.r [.o 2 (.aF .z)])))⟩
def zB:ar:=⟨5,1,[(2,none)],(.s [.o 2 (.aF .z)] (.r [.m 3 0,.c 4 94 [.t 3,.z,.n 999999999],.m 2 4]))⟩
def fn75:ar:=zB
def fn76:ar:=⟨24,3,[(6,none)],(.s [.p 3 0,.p 4 1,.o 6 (.aF .F)] (.s [.o 7 (.aF .F)] (.seq .skip (.seq (.s [.a 10 2 4,.l 11 10,.n 12 11,.o 13 (.aF .z)] (.block 0 (.loop (.s [.u 14 .lss 13 12] (.seq (.i 14 .skip (.exit 0)) (.seq (.block 1 (.s [.h 15 1 11 13,.l 16 15,.m 9 16] (.s [.r 17 7 3,.m 18 9,.c 19 134 [.t 17,.t 18],.m 20 2,.c 21 135 [.t 19,.t 20]] (.i 21 (.s [.o 7 (.aF .T)] (.exit 0)) .skip)))) (.ops [.v 22 .add 13 .w,.m 13 22]))))))) (.r [.m 23 7,.m 6 23])))))⟩
def Du(x0 x1:Nat):ar:=⟨13,2,[(4,some (some 3))],(.s [.p 2 0,.o 4 (.box (.c (.agg [.str [],.str [],.af])))] (.r [.y 5 (.aP x0 (.t 2)),.j 6 5,.y 7 (.aP x0 (.t 2)),.j 8 7,.w 9 1,.y 10 (.call (.f x1) [.t 8,.t 9]),.h 11 3 6 10,.r 12 3 11,.s 3 4 12]))⟩
def fn77:ar:=Du 3 136
def fn78:ar:=⟨31,1,[(2,none),(3,none),(4,none)],(.s [.o 2 (.aF (.c .nilPtr)),.o 3 (.aF .z),.o 4 (.aF .z)] (.seq (.s [.m 9 0,.n 10 9,.v 11 .gtr 10 (.n 1000)] (.j 11 [.o 2 (.aF (.c .nilPtr)),.o 3 (.aF .z),.o 4 (.aF (.n 5))])) (.s [.o 12 (.build [.af,.af,.af] []),.p 13 12,.m 5 13] (.seq (.s [.m 14 0,.n 15 14,.o 16 (.aF .z)] (.block 0 (.loop (.s [.u 17 .lss 16 15] (.seq (.i 17 .skip (.exit 0)) (.seq (.block 1 (.s [.m 18 16,.h 19 5 14 16,.r 20 5 19,.o 7 (.box (.c (.agg [.int .i64 0,.str [],.af,.af,.str []]))),.m 6 18,.s 5 7 20] (.s [.m 21 5,.r 22 5 7,.c 23 112 [.t 21,.t 22],.m 8 23] (.s [.m 24 8,.v 25 .neq 24 .z] (.j 25 [.m 26 6,.v 27 .add 26 .w,.m 28 8,.o 2 (.aF (.c .nilPtr)),.m 3 27,.m 4 28]))))) (.ops [.v 29 .add 16 .w,.m 16 29]))))))) (.r [.m 30 5,.m 2 30,.o 3 (.aF .z),.o 4 (.aF .z)])))))⟩
def fn79:ar:=⟨20,1,[(2,some (some 7))],(.s [.o 2 (.box (.c (.agg [.int .i64 0,.af,.af,.af,.af,.af,.af])))] (.seq (.s [.m 4 0,.o 5 (.bt (.t 4)),.a 6 2 5,.l 7 6,.n 8 7,.m 3 8] (.s [.m 9 3,.v 10 .gtr 9 .z] (.j 10 [.m 11 0,.o 12 (.bt (.t 11)),.a 13 2 12,.l 14 13,.m 15 3,.v 16 .sub 15 .w,.h 17 7 14 16,.r 18 7 17,.s 7 2 18]))) (.r [.o 19 (.build [.int .i64 0,.af,.af,.af,.af,.af,.af] []),.s 7 2 19])))⟩
def fn80:ar:=⟨10,2,[(4,none)],(.s [.p 2 0,.p 3 1,.o 4 (.aF (.c .af))] (.r [.a 5 3 2,.l 6 5,.o 7 (.kQ (.func 139) [] [.t 2,.t 3]),.c 8 138 [.t 6,.t 7],.c 9 137 [.t 8,(.f 140)],.m 4 9]))⟩
def fn81:ar:=⟨110,1,[(2,none),(3,some (some 7)),(4,none),(5,none)],(.s [.o 2 (.aF (.c .af)),.o 3 (.box (.c (.agg [.int .i64 0,.af,.af,.af,.af,.af,.af]))),.o 4 (.aF .z),.o 5 (.aF .z)] (.seq (.s [.m 12 0,.n 13 12,.v 14 .gtr 13 (.n 1000)] (.j 14 [.o 15 (.build [.int .i64 0,.af,.af,.af,.af,.af,.af] []),.o 2 (.aF (.c .af)),.s 7 3 15,.o 4 (.aF .z),.o 5 (.aF (.n 5))])) (.s [.o 6 (.aF (.c .af))] (.s [.o 16 (.build [.int .i64 0,.af,.af,.af,.af,.af,.af] []),.o 17 (.aE 7 1 [.int .i64 0,.af,.af,.af,.af,.af,.af] [(0,.t 16)]),.m 7 17] (.seq (.s [.o 8 (.aF .z)] (.block 0 (.loop (.seq (.s [.m 18 8,.m 19 0,.n 20 19,.u 21 .lss 18 20] (.i 21 .skip (.exit 0))) (.seq (.block 1 (.s [.m 24 0,.m 25 8,.h 26 5 24 25,.r 27 5 26,.c 28 39 [.t 27],.m 29 6,.n 30 29,.m 9 28,.m 10 30] (.seq (.s [.m 31 9,.v 32 .eql 31 .z,.m 33 32,.t 34 33 true 0,.t 35 33 true 8,.g 36 33 true (.aS 5 (.t 34) (.t 35)),.g 37 33 true (.aP 0 (.t 36)),.g 38 33 true (.load none (.t 37)),.t 39 33 true 8,.g 40 33 true (.bin .add (.t 39) .w),.g 41 33 true (.bin .neq (.t 38) (.t 40)),.d 42 33 41] (.i 42 (.ops [.o 9 (.aF (.n 11))]) .skip)) (.seq (.s [.m 43 9,.v 44 .eql 43 .z,.m 45 44,.t 46 45 true 0,.t 47 45 true 8,.g 48 45 true (.aS 5 (.t 46) (.t 47)),.g 49 45 true (.aP 1 (.t 48)),.g 50 45 true (.load none (.t 49)),.g 51 45 true (.bin .eql (.t 50) (.c (.str [117,110,100,111]))),.d 52 45 51] (.i 52 (.s [.m 53 10,.v 54 .eql 53 .z] (.i 54 (.ops [.o 9 (.aF (.n 12))]) (.s [.m 55 6,.m 56 10,.v 57 .sub 56 .w,.h 58 5 55 57,.a 59 1 58,.l 60 59,.v 61 .eql 60 (.c (.str [114,101,108,101,97,115,101]))] (.i 61 (.ops [.o 9 (.aF (.n 21))]) (.s [.w 62 6,.w 63 10,.y 64 (.bin .sub (.t 63) .w),.y 65 (.sl 5 (.t 62) none (some (.t 64))),.w 66 7,.w 67 10,.y 68 (.sl 7 (.t 66) none (some (.t 67))),.w 6 65,.m 7 68] (.exit 1)))))) .skip)) (.s [.o 11 (.box (.c (.agg [.int .i64 0,.af,.af,.af,.af,.af,.af])))] (.seq (.s [.m 69 9,.v 70 .eql 69 .z] (.i 70 (.ops [.m 72 7,.m 73 10,.h 74 7 72 73,.r 75 7 74,.m 76 0,.m 77 8,.h 78 5 76 77,.r 79 5 78,.c 80 129 [.t 75,.t 79],.m 71 80,.e 81 71 0,.e 82 71 1,.s 7 11 81,.m 9 82]) .skip)) (.seq (.s [.m 83 9,.v 84 .neq 83 .z] (.j 84 [.o 85 (.build [.int .i64 0,.af,.af,.af,.af,.af,.af] []),.m 86 8,.v 87 .add 86 .w,.m 88 9,.o 2 (.aF (.c .af)),.s 7 3 85,.m 4 87,.m 5 88])) (.s [.y 89 (.aE 5 0 [.int .i64 0,.str [],.af,.af,.str []] []),.w 90 6,.y 91 (.app 5 88 (.t 89) (.t 90)),.w 92 0,.w 93 8,.y 94 (.aS 5 (.t 92) (.t 93)),.y 95 (.load (some 5) (.t 94)),.y 96 (.aE 5 1 [.int .i64 0,.str [],.af,.af,.str []] [(0,.t 95)]),.o 97 (.app 5 88 (.t 91) (.t 96)),.m 6 97] (.ops [.y 98 (.aE 7 0 [.int .i64 0,.af,.af,.af,.af,.af,.af] []),.w 99 7,.y 100 (.app 7 152 (.t 98) (.t 99)),.y 101 (.load (some 7) (.t 11)),.y 102 (.aE 7 1 [.int .i64 0,.af,.af,.af,.af,.af,.af] [(0,.t 101)]),.o 103 (.app 7 152 (.t 100) (.t 102)),.m 7 103]))))))))) (.ops [.m 22 8,.v 23 .add 22 .w,.m 8 23])))))) (.r [.w 104 6,.w 105 7,.w 106 6,.y 107 (.len .sl (.t 106)),.y 108 (.aS 7 (.t 105) (.t 107)),.y 109 (.load (some 7) (.t 108)),.w 2 104,.s 7 3 109,.o 4 (.aF .z),.o 5 (.aF .z)]))))))⟩
def Dt:ar:=⟨7,2,[(4,none)],(.s [.o 4 (.aF .z)] (.seq (.s [.m 5 0] (.j 5 [.m 6 1,.m 4 6])) (.r [.o 4 (.aF .z)])))⟩
def fn82:ar:=Dt
def fn83:ar:=⟨19,1,[(2,none)],(.s [.o 2 (.aF .z)] (.seq (.s [.o 3 (.aF .z)] (.block 0 (.loop (.seq (.s [.m 4 3,.m 5 0,.n 6 5,.u 7 .lss 4 6] (.i 7 .skip (.exit 0))) (.seq (.block 1 (.s [.m 10 0,.m 11 3,.h 12 1 10 11,.l 13 12,.v 14 .neq 13 .z] (.j 14 [.m 15 0,.m 16 3,.h 17 1 15 16,.l 18 17,.m 2 18]))) (.ops [.m 8 3,.v 9 .add 8 .w,.m 3 9])))))) (.r [.o 2 (.aF .z)])))⟩
def fn84:ar:=⟨17,3,[(6,none)],(.s [.p 3 0,.o 6 (.aF .F)] (.r [.w 7 2,.y 8 (.aP 2 (.t 3)),.j 9 8,.y 10 (.load (some 7) (.t 3)),.w 11 1,.y 12 (.call (.f 141) [.t 10,.t 11]),.y 13 (.aS 2 (.t 9) (.t 12)),.y 14 (.aP 1 (.t 13)),.j 15 14,.u 16 .leq 7 15,.m 6 16]))⟩
def fn85:ar:=Dt
def fn86:ar:=⟨47,3,[(6,none)],(.s [.p 3 0,.o 6 (.aF .F)] (.s [.o 7 (.aF .z)] (.seq (.s [.m 8 1] (.block 0 (.s [.v 10 .eql 8 .z,.m 9 10] (.i 9 (.ops [.a 11 1 3,.l 12 11,.m 13 2,.c 14 142 [.t 12,.t 13],.m 7 14]) (.s [.v 16 .eql 8 .w,.m 15 16] (.i 15 (.ops [.a 17 2 3,.l 18 17,.m 19 2,.c 20 143 [.t 18,.t 19],.m 7 20]) (.s [.v 22 .eql 8 (.n 2),.m 21 22] (.i 21 (.ops [.a 23 3 3,.l 24 23,.m 25 2,.c 26 136 [.t 24,.t 25],.m 7 26]) (.s [.v 28 .eql 8 (.n 3),.m 27 28] (.i 27 (.ops [.a 29 4 3,.l 30 29,.m 31 2,.c 32 144 [.t 30,.t 31],.m 7 32]) (.s [.v 34 .eql 8 (.n 4),.m 33 34] (.i 33 (.ops [.a 35 5 3,.l 36 35,.m 37 2,.c 38 145 [.t 36,.t 37],.m 7 38]) (.s [.v 40 .eql 8 (.n 5),.m 39 40] (.i 39 (.ops [.a 41 6 3,.l 42 41,.m 43 2,.c 44 146 [.t 42,.t 43],.m 7 44]) .skip)))))))))))))) (.r [.m 45 7,.v 46 .geq 45 .z,.m 6 46]))))⟩
def fn87:ar:=⟨22,2,[(4,none)],(.s [.o 4 (.aF (.c .af))] (.s [.o 5 (.aF (.c .af))] (.seq (.s [.m 8 0,.n 9 8,.o 10 (.aF .z)] (.block 0 (.loop (.s [.u 11 .lss 10 9] (.seq (.i 11 .skip (.exit 0)) (.seq (.block 1 (.s [.h 12 5 8 10,.r 13 5 12,.o 7 (.box (.c (.agg [.int .i64 0,.str [],.af,.af,.str []]))),.s 5 7 13] (.ops [.m 14 5,.m 15 1,.r 16 5 7,.o 17 (.call (.t 15) [.t 16]),.o 18 (.aE 5 1 [.int .i64 0,.str [],.af,.af,.str []] [(0,.t 17)]),.o 19 (.app 5 88 (.t 14) (.t 18)),.m 5 19]))) (.ops [.v 20 .add 10 .w,.m 10 20]))))))) (.r [.m 21 5,.m 4 21]))))⟩
def fn88:ar:=⟨23,2,[(4,none)],(.s [.o 4 (.aF (.c .af))] (.s [.o 5 (.aF (.c .af))] (.seq (.s [.m 8 0,.n 9 8,.o 10 (.aF .z)] (.block 0 (.loop (.s [.u 11 .lss 10 9] (.seq (.i 11 .skip (.exit 0)) (.seq (.block 1 (.s [.h 12 5 8 10,.r 13 5 12,.o 7 (.box (.c (.agg [.int .i64 0,.str [],.af,.af,.str []]))),.s 5 7 13] (.s [.m 14 1,.r 15 5 7,.o 16 (.call (.t 14) [.t 15])] (.i 16 (.ops [.m 17 5,.r 18 5 7,.o 19 (.aE 5 1 [.int .i64 0,.str [],.af,.af,.str []] [(0,.t 18)]),.o 20 (.app 5 88 (.t 17) (.t 19)),.m 5 20]) .skip)))) (.ops [.v 21 .add 10 .w,.m 10 21]))))))) (.r [.m 22 5,.m 4 22]))))⟩
def fn89:ar:=⟨18,1,[(3,none)],(.s [.p 2 0,.o 3 (.aF .F)] (.s [.y 5 (.call (.f 90) []),.y 6 (.aP 1 (.t 2)),.j 7 6,.o 8 (.look .s (.agg [.af,.int .i64 0,.nilFunc,.nilFunc,.nilFunc]) false (.t 5) (.t 7)),.o 9 (.part none 4 (.t 8)),.m 4 9] (.r [.m 10 4,.o 11 (.eqv true .pg (.t 10) (.c .nilFunc)),.m 12 11,.t 13 12 true 4,.g 14 12 true (.load (some 5) (.t 2)),.g 15 12 true (.load none (.t 1)),.g 16 12 true (.call (.t 13) [.t 14,.t 15]),.d 17 12 16,.m 3 17])))⟩
def fn90:ar:=⟨56,0,[(0,none)],(.s [.o 0 (.aF (.c .cQ))] (.r [.o 1 (.lE),.o 2 (.build [.af,.int .i64 0,.nilFunc,.nilFunc,.nilFunc] []),.x (.fj .s (.t 1) (.c (.str [117,110,100,111])) (.t 2)),.c 3 147 [.z],.o 4 (.aE 2 1 [.int .i64 0,.bool false] [(0,.t 3)]),.c 5 150 [.z],.o 6 (.build [.af,.int .i64 0,.nilFunc,.nilFunc,.nilFunc] [(0,1,.t 4),(1,1,(.n 2)),(2,1,(.f 148)),(3,1,(.f 149)),(4,1,.t 5)]),.x (.fj .s (.t 1) (.c (.str [108,105,110,101])) (.t 6)),.c 7 147 [.w],.o 8 (.aE 2 1 [.int .i64 0,.bool false] [(0,.t 7)]),.o 9 (.build [.af,.int .i64 0,.nilFunc,.nilFunc,.nilFunc] [(0,1,.t 8),(1,1,(.n 2)),(2,1,(.f 151)),(3,1,(.f 152)),(4,1,(.f 153))]),.x (.fj .s (.t 1) (.c (.str [116,97,112,101])) (.t 9)),.c 10 147 [.n 2],.c 11 154 [.z],.c 12 154 [.w],.o 13 (.aE 2 3 [.int .i64 0,.bool false] [(0,.t 10),(2,.t 11),(4,.t 12)]),.c 14 150 [.w],.o 15 (.build [.af,.int .i64 0,.nilFunc,.nilFunc,.nilFunc] [(0,1,.t 13),(1,1,.w),(2,1,(.f 155)),(3,1,(.f 156)),(4,1,.t 14)]),.x (.fj .s (.t 1) (.c (.str [115,104,111,116])) (.t 15)),.c 16 154 [.w],.c 17 154 [.w],.o 18 (.aE 2 2 [.int .i64 0,.bool false] [(0,.t 16),(2,.t 17)]),.o 19 (.build [.af,.int .i64 0,.nilFunc,.nilFunc,.nilFunc] [(0,1,.t 18),(1,1,.w),(2,1,(.f 157)),(3,1,(.f 158)),(4,1,(.f 153))]),.x (.fj .s (.t 1) (.c (.str [99,111,112,121])) (.t 19)),.c 20 154 [.z],.o 21 (.aE 2 1 [.int .i64 0,.bool false] [(0,.t 20)]),.c 22 150 [.z],.o 23 (.build [.af,.int .i64 0,.nilFunc,.nilFunc,.nilFunc] [(0,1,.t 21),(1,1,.w),(2,1,(.f 159)),(3,1,(.f 160)),(4,1,.t 22)]),.x (.fj .s (.t 1) (.c (.str [97,99,99,101,112,116])) (.t 23)),.c 24 147 [.n 3],.c 25 154 [.z],.o 26 (.aE 2 2 [.int .i64 0,.bool false] [(0,.t 24),(2,.t 25)]),.c 27 150 [.w],.o 28 (.build [.af,.int .i64 0,.nilFunc,.nilFunc,.nilFunc] [(0,1,.t 26),(1,1,.w),(2,1,(.f 161)),(3,1,(.f 162)),(4,1,.t 27)]),.x (.fj .s (.t 1) (.c (.str [115,111,117,114,99,101])) (.t 28)),.c 29 147 [.n 3],.c 30 154 [.n 3],.o 31 (.aE 2 2 [.int .i64 0,.bool false] [(0,.t 29),(2,.t 30)]),.o 32 (.build [.af,.int .i64 0,.nilFunc,.nilFunc,.nilFunc] [(0,1,.t 31),(1,1,(.n 2)),(2,1,(.f 163)),(3,1,(.f 164)),(4,1,(.c .nilFunc))]),.x (.fj .s (.t 1) (.c (.str [109,111,100,117,108,101])) (.t 32)),.c 33 147 [.n 3],.c 34 154 [.n 3],.c 35 154 [.n 3],.o 36 (.aE 2 3 [.int .i64 0,.bool false] [(0,.t 33),(2,.t 34),(4,.t 35)]),.o 37 (.build [.af,.int .i64 0,.nilFunc,.nilFunc,.nilFunc] [(0,1,.t 36),(1,1,.w),(2,1,(.f 165)),(3,1,(.f 166)),(4,1,(.c .nilFunc))]),.x (.fj .s (.t 1) (.c (.str [109,101,114,103,101])) (.t 37)),.c 38 147 [.n 4],.c 39 154 [.n 3],.o 40 (.aE 2 2 [.int .i64 0,.bool false] [(0,.t 38),(2,.t 39)]),.o 41 (.build [.af,.int .i64 0,.nilFunc,.nilFunc,.nilFunc] [(0,1,.t 40),(1,1,(.n 2)),(2,1,(.f 167)),(3,1,(.f 168)),(4,1,(.c .nilFunc))]),.x (.fj .s (.t 1) (.c (.str [114,117,110])) (.t 41)),.c 42 154 [.n 4],.o 43 (.aE 2 1 [.int .i64 0,.bool false] [(0,.t 42)]),.o 44 (.build [.af,.int .i64 0,.nilFunc,.nilFunc,.nilFunc] [(0,1,.t 43),(1,1,(.n 3)),(2,1,(.f 169)),(3,1,(.f 170)),(4,1,(.c .nilFunc))]),.x (.fj .s (.t 1) (.c (.str [116,105,108,101])) (.t 44)),.c 45 154 [.n 4],.o 46 (.aE 2 1 [.int .i64 0,.bool false] [(0,.t 45)]),.o 47 (.build [.af,.int .i64 0,.nilFunc,.nilFunc,.nilFunc] [(0,1,.t 46),(1,1,(.n 2)),(2,1,(.f 171)),(3,1,(.f 172)),(4,1,(.c .nilFunc))]),.x (.fj .s (.t 1) (.c (.str [102,97,105,108])) (.t 47)),.c 48 147 [.n 5],.c 49 154 [.n 4],.o 50 (.aE 2 2 [.int .i64 0,.bool false] [(0,.t 48),(2,.t 49)]),.o 51 (.build [.af,.int .i64 0,.nilFunc,.nilFunc,.nilFunc] [(0,1,.t 50),(1,1,.w),(2,1,(.f 173)),(3,1,(.f 174)),(4,1,(.c .nilFunc))]),.x (.fj .s (.t 1) (.c (.str [112,105,99,116,117,114,101])) (.t 51)),.c 52 154 [.n 5],.o 53 (.aE 2 1 [.int .i64 0,.bool false] [(0,.t 52)]),.o 54 (.build [.af,.int .i64 0,.nilFunc,.nilFunc,.nilFunc] [(0,1,.t 53),(1,1,.w),(2,1,(.f 175)),(3,1,(.f 176)),(4,1,(.c .nilFunc))]),.x (.fj .s (.t 1) (.c (.str [114,101,108,101,97,115,101])) (.t 54)),.m 55 1,.m 0 55]))⟩
def fn91:ar:=⟨12,1,[(2,some (some 5))],(.s [.p 1 0,.o 2 (.box (.c (.agg [.int .i64 0,.str [],.af,.af,.str []])))] (.s [.y 3 (.aP 2 (.t 1)),.j 4 3,.y 5 (.call (.f 177) [.t 4]),.y 6 (.aP 3 (.t 1)),.j 7 6,.y 8 (.call (.f 178) [.t 7]),.y 9 (.aP 2 (.t 1)),.s 1 9 5,.a 10 3 1,.s 1 10 8] (.r [.r 11 5 1,.s 5 2 11])))⟩
def Ds:ar:=⟨22,2,[(4,none)],(.s [.o 4 (.aF (.c .af))] (.s [.o 5 (.aF (.c .af))] (.seq (.s [.m 8 0,.n 9 8,.o 10 (.aF .z)] (.block 0 (.loop (.s [.u 11 .lss 10 9] (.seq (.i 11 .skip (.exit 0)) (.seq (.block 1 (.s [.h 12 1 8 10,.l 13 12,.m 7 13] (.ops [.m 14 5,.m 15 1,.m 16 7,.o 17 (.call (.t 15) [.t 16]),.o 18 (.aE 1 1 [.int .i64 0] [(0,.t 17)]),.o 19 (.app 1 8 (.t 14) (.t 18)),.m 5 19]))) (.ops [.v 20 .add 10 .w,.m 10 20]))))))) (.r [.m 21 5,.m 4 21]))))⟩
def fn92:ar:=Ds
def fn93:ar:=zB
def fn94:ar:=⟨16,3,[(6,none)],(.s [.o 6 (.aF .z)] (.r [.m 7 0,.m 8 1,.u 9 .lss 7 8,.m 10 9,.t 11 10 false 0,.t 12 10 false 2,.g 13 10 false (.bin .gtr (.t 11) (.t 12)),.f 14 10 13,.c 15 85 [.t 14,.n 3],.m 6 15]))⟩
def fn95:ar:=⟨19,1,[(2,none)],(.s [.o 2 (.aF .z)] (.s [.o 3 (.aF .w)] (.seq (.s [.m 6 0,.n 7 6,.o 8 (.aF .z)] (.block 0 (.loop (.s [.u 9 .lss 8 7] (.seq (.i 9 .skip (.exit 0)) (.seq (.block 1 (.s [.h 10 1 6 8,.l 11 10,.m 5 11] (.ops [.m 12 3,.b 13 .mul (.n 257) (.t 12),.m 14 5,.u 15 .add 13 14,.v 16 .rem 15 (.n 16777213),.m 3 16]))) (.ops [.v 17 .add 8 .w,.m 8 17]))))))) (.r [.m 18 3,.m 2 18]))))⟩
def fn96:ar:=⟨38,1,[(2,some (some 7))],(.s [.p 1 0,.o 2 (.box (.c (.agg [.int .i64 0,.af,.af,.af,.af,.af,.af])))] (.s [.y 5 (.aP 1 (.t 1)),.j 6 5,.y 7 (.len .sl (.t 6)),.y 8 (.sg 3 32 [.str [],.int .i64 0,.bool false] (.t 7) (.t 7)),.y 9 (.aP 6 (.t 1)),.j 10 9,.y 11 (.len .sl (.t 10)),.y 12 (.sg 4 48 [.str [],.str [],.int .i64 0,.bool false] (.t 11) (.t 11)),.w 3 8,.m 4 12] (.s [.m 13 3,.a 14 1 1,.l 15 14,.o 16 (.wI 3 (.t 13) (.t 15))] (.s [.m 17 4,.a 18 6 1,.l 19 18,.o 20 (.wI 4 (.t 17) (.t 19))] (.r [.y 21 (.aP 0 (.t 1)),.j 22 21,.w 23 3,.y 24 (.aP 2 (.t 1)),.j 25 24,.y 26 (.call (.f 179) [.t 25]),.y 27 (.aP 3 (.t 1)),.j 28 27,.y 29 (.call (.f 180) [.t 28,(.f 181)]),.y 30 (.aP 4 (.t 1)),.j 31 30,.y 32 (.call (.f 182) [.t 31,(.f 183)]),.y 33 (.aP 5 (.t 1)),.j 34 33,.y 35 (.call (.f 184) [.t 34,(.f 185)]),.w 36 4,.o 37 (.build [.int .i64 0,.af,.af,.af,.af,.af,.af] [(0,1,.t 22),(1,1,.t 23),(2,1,.t 26),(3,1,.t 29),(4,1,.t 32),(5,1,.t 35),(6,1,.t 36)]),.s 7 2 37])))))⟩
def fn97:ar:=⟨12,1,[(2,none)],(.s [.p 1 0,.o 2 (.aF (.c (.str [])))] (.s [.r 4 5 1,.c 5 186 [.t 4],.m 3 5] (.r [.m 6 3,.v 7 .add 6 (.c (.str [35])),.m 8 3,.c 9 187 [.t 8],.u 10 .add 7 9,.v 11 .add 10 (.c (.str [10])),.m 2 11])))⟩
def fn98:ar:=⟨13,2,[(4,none),(5,none),(6,none)],(.s [.o 4 (.aF (.c (.str []))),.o 5 (.aF (.c (.str []))),.o 6 (.aF .F)] (.r [.m 7 0,.m 8 1,.c 9 188 [.t 7,.t 8],.e 10 9 0,.e 11 9 1,.e 12 9 2,.m 4 10,.m 5 11,.m 6 12]))⟩
def fn99:ar:=⟨83,2,[(4,some (some 5)),(5,none)],(.s [.o 4 (.box (.c (.agg [.int .i64 0,.str [],.af,.af,.str []]))),.o 5 (.aF .z)] (.s [.m 14 0,.o 15 (.len .st (.t 14)),.v 16 .sub 15 (.n 7),.v 17 .sub 16 .w,.m 6 17] (.seq (.s [.m 18 6,.v 19 .lss 18 .z,.m 20 19,.t 21 20 false 0,.t 22 20 false 6,.g 23 20 false (.qe (.t 21) (.t 22)),.g 24 20 false (.bin .neq (.t 23) (.c (.int .u8 35))),.f 25 20 24,.m 26 25,.t 27 26 false 0,.t 28 26 false 6,.g 29 26 false (.bin .add (.t 28) .w),.g 30 26 false (.pL (.t 27) (some (.t 29)) none),.g 31 26 false (.call (.f 189) [.t 30]),.g 32 26 false (.un .not (.t 31)),.f 33 26 32] (.j 33 [.o 34 (.build [.int .i64 0,.str [],.af,.af,.str []] []),.s 5 4 34,.o 5 (.aF (.n 25))])) (.seq (.s [.w 35 0,.w 36 6,.y 37 (.pL (.t 35) none (some (.t 36))),.y 38 (.call (.f 187) [.t 37]),.w 39 0,.w 40 6,.y 41 (.bin .add (.t 40) .w),.y 42 (.pL (.t 39) (some (.t 41)) none),.u 43 .neq 38 42] (.j 43 [.o 44 (.build [.int .i64 0,.str [],.af,.af,.str []] []),.s 5 4 44,.o 5 (.aF (.n 27))])) (.s [.m 46 0,.m 47 6,.o 48 (.pL (.t 46) none (some (.t 47))),.o 49 (.call (.f 98) [.t 48,(.c (.str [32]))]),.m 45 49,.e 50 45 0,.e 51 45 1,.e 52 45 2,.m 7 50,.m 8 51,.m 9 52] (.s [.m 54 7,.c 55 190 [.t 54],.m 53 55,.e 56 53 0,.e 57 53 1,.m 10 56,.m 11 57] (.s [.m 59 8,.o 60 (.call (.f 64) [.t 59,(.c (.str [32]))]),.c 61 111 [.t 60],.m 58 61,.e 62 58 0,.e 63 58 1,.o 12 (.box (.c (.agg [.int .i64 0,.str [],.af,.af,.str []]))),.s 5 12 62,.m 13 63] (.s [.m 64 10,.a 65 0 12,.s 1 65 64] (.seq (.s [.m 66 11,.o 67 (.un .not (.t 66)),.m 68 67,.t 69 68 false 13,.g 70 68 false (.un .not (.t 69)),.f 71 68 70,.m 72 71,.g 73 72 false (.load (some 5) (.t 12)),.g 74 72 false (.call (.f 67) [.t 73]),.g 75 72 false (.bin .neq (.t 74) .z),.f 76 72 75] (.j 76 [.o 77 (.build [.int .i64 0,.str [],.af,.af,.str []] []),.s 5 4 77,.o 5 (.aF (.n 25))])) (.r [.y 78 (.load (some 5) (.t 12)),.w 79 10,.w 80 1,.y 81 (.bin .neq (.t 79) (.t 80)),.y 82 (.call (.f 85) [.t 81,.n 11]),.s 5 4 78,.m 5 82]))))))))))⟩
def fn101:ar:=⟨47,1,[(2,some (some 3))],(.s [.o 2 (.box (.c (.agg [.str [],.int .i64 0,.bool false])))] (.seq (.s [.m 3 0] (.block 0 (.s [.v 5 .eql 3 (.c (.str [108,105,110,101])),.m 4 5] (.i 4 (.r [.o 6 (.build [.str [],.int .i64 0,.bool false] [(0,1,(.c (.str [76]))),(1,1,(.n 2)),(2,1,.T)]),.s 3 2 6]) (.s [.v 8 .eql 3 (.c (.str [116,97,112,101])),.m 7 8] (.i 7 (.r [.o 9 (.build [.str [],.int .i64 0,.bool false] [(0,1,(.c (.str [84]))),(1,1,(.n 2)),(2,1,.T)]),.s 3 2 9]) (.s [.v 11 .eql 3 (.c (.str [115,104,111,116])),.m 10 11] (.i 10 (.r [.o 12 (.build [.str [],.int .i64 0,.bool false] [(0,1,(.c (.str [83,108,116]))),(1,1,.w),(2,1,.T)]),.s 3 2 12]) (.s [.v 14 .eql 3 (.c (.str [99,111,112,121])),.m 13 14] (.i 13 (.r [.o 15 (.build [.str [],.int .i64 0,.bool false] [(0,1,(.c (.str [116,116]))),(1,1,.w),(2,1,.T)]),.s 3 2 15]) (.s [.v 17 .eql 3 (.c (.str [97,99,99,101,112,116])),.m 16 17] (.i 16 (.r [.o 18 (.build [.str [],.int .i64 0,.bool false] [(0,1,(.c (.str [108]))),(1,1,.w),(2,1,.T)]),.s 3 2 18]) (.s [.v 20 .eql 3 (.c (.str [115,111,117,114,99,101])),.m 19 20] (.i 19 (.r [.o 21 (.build [.str [],.int .i64 0,.bool false] [(0,1,(.c (.str [77,108]))),(1,1,.w),(2,1,.T)]),.s 3 2 21]) (.s [.v 23 .eql 3 (.c (.str [109,111,100,117,108,101])),.m 22 23] (.i 22 (.r [.o 24 (.build [.str [],.int .i64 0,.bool false] [(0,1,(.c (.str [77,109]))),(1,1,(.n 2)),(2,1,.T)]),.s 3 2 24]) (.s [.v 26 .eql 3 (.c (.str [109,101,114,103,101])),.m 25 26] (.i 25 (.r [.o 27 (.build [.str [],.int .i64 0,.bool false] [(0,1,(.c (.str [77,109,109]))),(1,1,.w),(2,1,.T)]),.s 3 2 27]) (.s [.v 29 .eql 3 (.c (.str [114,117,110])),.m 28 29] (.i 28 (.r [.o 30 (.build [.str [],.int .i64 0,.bool false] [(0,1,(.c (.str [74,109]))),(1,1,(.n 2)),(2,1,.T)]),.s 3 2 30]) (.s [.v 32 .eql 3 (.c (.str [116,105,108,101])),.m 31 32] (.i 31 (.r [.o 33 (.build [.str [],.int .i64 0,.bool false] [(0,1,(.c (.str [106]))),(1,1,(.n 3)),(2,1,.T)]),.s 3 2 33]) (.s [.v 35 .eql 3 (.c (.str [102,97,105,108])),.m 34 35] (.i 34 (.r [.o 36 (.build [.str [],.int .i64 0,.bool false] [(0,1,(.c (.str [106]))),(1,1,(.n 2)),(2,1,.T)]),.s 3 2 36]) (.s [.v 38 .eql 3 (.c (.str [112,105,99,116,117,114,101])),.m 37 38] (.i 37 (.r [.o 39 (.build [.str [],.int .i64 0,.bool false] [(0,1,(.c (.str [80,106]))),(1,1,.w),(2,1,.T)]),.s 3 2 39]) (.s [.v 41 .eql 3 (.c (.str [114,101,108,101,97,115,101])),.m 40 41] (.i 40 (.r [.o 42 (.build [.str [],.int .i64 0,.bool false] [(0,1,(.c (.str [112]))),(1,1,.w),(2,1,.T)]),.s 3 2 42]) (.s [.v 44 .eql 3 (.c (.str [117,110,100,111])),.m 43 44] (.j 43 [.o 45 (.build [.str [],.int .i64 0,.bool false] [(0,1,(.c (.str []))),(1,1,.z),(2,1,.T)]),.s 3 2 45])))))))))))))))))))))))))))))) (.r [.o 46 (.build [.str [],.int .i64 0,.bool false] []),.s 3 2 46])))⟩
def fn102:ar:=⟨42,1,[(2,none)],(.s [.o 2 (.aF .F)] (.seq (.s [.m 4 0,.o 5 (.len .st (.t 4)),.v 6 .eql 5 .z,.m 7 6,.t 8 7 false 0,.g 9 7 false (.len .st (.t 8)),.g 10 7 false (.bin .gtr (.t 9) (.n 24)),.f 11 7 10,.m 12 11,.t 13 12 false 0,.g 14 12 false (.qe (.t 13) .z),.g 15 12 false (.call (.f 193) [.t 14]),.g 16 12 false (.un .not (.t 15)),.f 17 12 16] (.j 17 [.o 2 (.aF .F)])) (.seq (.s [.o 3 (.aF .w)] (.block 0 (.loop (.seq (.s [.m 18 3,.m 19 0,.o 20 (.len .st (.t 19)),.u 21 .lss 18 20] (.i 21 .skip (.exit 0))) (.seq (.block 1 (.s [.m 24 0,.m 25 3,.o 26 (.qe (.t 24) (.t 25)),.c 27 193 [.t 26],.o 28 (.un .not (.t 27)),.m 29 28,.t 30 29 true 0,.t 31 29 true 3,.g 32 29 true (.qe (.t 30) (.t 31)),.g 33 29 true (.call (.f 194) [.t 32]),.g 34 29 true (.un .not (.t 33)),.d 35 29 34,.m 36 35,.t 37 36 true 0,.t 38 36 true 3,.g 39 36 true (.qe (.t 37) (.t 38)),.g 40 36 true (.bin .neq (.t 39) (.c (.int .u8 95))),.d 41 36 40] (.j 41 [.o 2 (.aF .F)]))) (.ops [.m 22 3,.v 23 .add 22 .w,.m 3 23])))))) (.r [.o 2 (.aF .T)]))))⟩
def Bc(x0:Nat):ar:=⟨5,1,[(2,none)],(.s [.o 2 (.aF (.c (.str [])))] (.r [.m 3 0,.c 4 x0 [.t 3],.m 2 4]))⟩
def fn108:ar:=Bc 197
def fn109:ar:=⟨10,0,[(0,none)],(.s [.o 0 (.aF (.c .cQ))] (.r [.o 1 (.lE),.o 2 (.build [.bool false,.int .i64 0,.nilFunc] [(0,1,.T),(1,1,(.n 4)),(2,1,(.f 198))]),.x (.fj .s (.t 1) (.c (.str [108,101,102,116])) (.t 2)),.o 3 (.build [.bool false,.int .i64 0,.nilFunc] [(0,1,.T),(1,1,(.n 5)),(2,1,(.f 126))]),.x (.fj .s (.t 1) (.c (.str [102,114,111,109])) (.t 3)),.o 4 (.build [.bool false,.int .i64 0,.nilFunc] [(0,1,.T),(1,1,(.n 3)),(2,1,(.f 200))]),.x (.fj .s (.t 1) (.c (.str [108,105,110,101,115])) (.t 4)),.o 5 (.build [.bool false,.int .i64 0,.nilFunc] [(0,1,.F),(1,1,(.n 2)),(2,1,(.f 201))]),.x (.fj .s (.t 1) (.c (.str [117,110,115,97,102,101])) (.t 5)),.o 6 (.build [.bool false,.int .i64 0,.nilFunc] [(0,1,.T),(1,1,(.n 2)),(2,1,(.f 202))]),.x (.fj .s (.t 1) (.c (.str [116,97,112,101,115])) (.t 6)),.o 7 (.build [.bool false,.int .i64 0,.nilFunc] [(0,1,.F),(1,1,(.n 5)),(2,1,(.f 203))]),.x (.fj .s (.t 1) (.c (.str [114,101,108,101,97,115,101,100])) (.t 7)),.o 8 (.build [.bool false,.int .i64 0,.nilFunc] [(0,1,.T),(1,1,.z),(2,1,(.f 204))]),.x (.fj .s (.t 1) (.c (.str [119,97,110,116])) (.t 8)),.m 9 1,.m 0 9]))⟩
def fn110:ar:=⟨69,2,[(4,none),(5,none)],(.s [.o 4 (.aF (.c (.str []))),.o 5 (.aF .z)] (.s [.y 10 (.call (.f 109) []),.w 11 1,.y 12 (.aS 1 (.t 11) .z),.j 13 12,.y 14 (.look .s (.agg [.bool false,.int .i64 0,.nilFunc]) false (.t 10) (.t 13)),.y 6 (.box (.c (.agg [.bool false,.int .i64 0,.nilFunc]))),.s 3 6 14] (.s [.o 7 (.aF (.c (.str [])))] (.seq (.s [.a 15 0 6,.l 16 15,.m 17 16,.t 18 17 true 1,.g 19 17 true (.len .sl (.t 18)),.g 20 17 true (.bin .eql (.t 19) (.n 2)),.d 21 17 20] (.i 21 (.ops [.m 22 1,.o 23 (.aS 1 (.t 22) .w),.l 24 23,.m 7 24]) .skip)) (.seq (.s [.a 25 0 6,.l 26 25,.m 27 1,.n 28 27,.v 29 .eql 28 (.n 2),.m 30 29,.t 31 30 true 7,.g 32 30 true (.bin .neq (.t 31) (.c (.str []))),.d 33 30 32,.o 34 (.eqv true (.one .b) (.t 26) (.t 33)),.m 35 34,.g 36 35 false (.aP 0 (.t 6)),.g 37 35 false (.load none (.t 36)),.g 38 35 false (.un .not (.t 37)),.t 39 35 false 38,.t 40 39 true 1,.g 41 39 true (.len .sl (.t 40)),.g 42 39 true (.bin .neq (.t 41) .w),.g 43 35 false (.pick (.t 39) (.t 42) .F),.f 44 35 43] (.j 44 [.o 4 (.aF (.c (.str []))),.o 5 (.aF (.n 25))])) (.s [.m 45 0,.o 46 (.bt (.t 45)),.a 47 0 46,.c 48 79 [.t 47],.o 8 (.box (.c (.agg [.int .i64 0,.af,.af,.af,.af,.af,.af]))),.s 7 8 48] (.seq (.s [.a 49 0 6,.l 50 49,.m 51 50,.g 52 51 true (.load (some 7) (.t 8)),.g 53 51 true (.aP 1 (.t 6)),.g 54 51 true (.load none (.t 53)),.t 55 51 true 7,.g 56 51 true (.call (.f 86) [.t 52,.t 54,.t 55]),.g 57 51 true (.un .not (.t 56)),.d 58 51 57] (.j 58 [.o 4 (.aF (.c (.str []))),.o 5 (.aF (.n 10))])) (.s [.a 59 2 6,.l 60 59,.r 61 7 8,.m 62 7,.o 63 (.call (.t 60) [.t 61,.t 62]),.m 9 63] (.seq (.s [.m 64 9,.n 65 64,.v 66 .eql 65 .z] (.j 66 [.o 4 (.aF (.c (.str [110,111,110,101]))),.o 5 (.aF .z)])) (.r [.m 67 9,.o 68 (.call (.f 114) [.t 67,(.c (.str [32]))]),.m 4 68,.o 5 (.aF .z)]))))))))))⟩
def fn111:ar:=⟨73,1,[(2,some (some 5)),(3,none)],(.s [.o 2 (.box (.c (.agg [.int .i64 0,.str [],.af,.af,.str []]))),.o 3 (.aF .F)] (.s [.m 12 0,.o 13 (.build [.af,.bool false] [(0,1,.t 12)]),.p 14 13,.m 4 14] (.s [.m 15 4,.o 16 (.kQ (.func 207) [.t 15] []),.m 17 4,.o 18 (.kQ (.func 208) [.t 17] []),.m 5 16,.m 6 18] (.s [.m 19 5,.o 20 (.call (.t 19) []),.o 21 (.build [.int .i64 0,.str [],.af,.af,.str []] [(1,1,.t 20)]),.o 7 (.box (.c (.agg [.int .i64 0,.str [],.af,.af,.str []]))),.s 5 7 21] (.s [.y 23 (.call (.f 90) []),.y 24 (.aP 1 (.t 7)),.j 25 24,.y 26 (.look .s (.agg [.af,.int .i64 0,.nilFunc,.nilFunc,.nilFunc]) true (.t 23) (.t 25)),.w 22 26,.y 27 (.ext (.t 22) 0),.y 28 (.ext (.t 22) 1),⟨none,.aF .F,none,true⟩,.y 8 (.nh 5 (.t 27)),.m 9 28] (.seq (.s [.m 29 9,.o 30 (.un .not (.t 29))] (.j 30 [.o 31 (.build [.int .i64 0,.str [],.af,.af,.str []] []),.s 5 2 31,.o 3 (.aF .F)])) (.seq (.s [.a 32 0 8,.l 33 32,.n 34 33,.o 35 (.aF .z)] (.block 0 (.loop (.s [.u 36 .lss 35 34] (.seq (.i 36 .skip (.exit 0)) (.seq (.block 1 (.s [.m 37 5,.o 38 (.call (.t 37) []),.m 10 38] (.ops [.a 39 2 7,.l 40 39,.m 41 10,.o 42 (.aE 1 1 [.str []] [(0,.t 41)]),.o 43 (.app 1 16 (.t 40) (.t 42)),.a 44 2 7,.s 1 44 43]))) (.ops [.v 45 .add 35 .w,.m 35 45]))))))) (.seq (.s [.a 46 1 8,.l 47 46,.o 48 (.aF .z)] (.block 2 (.loop (.s [.u 49 .lss 48 47] (.seq (.i 49 .skip (.exit 2)) (.seq (.block 3 (.s [.m 50 6,.o 51 (.call (.t 50) []),.m 11 51] (.ops [.a 52 3 7,.l 53 52,.m 54 11,.o 55 (.aE 1 1 [.int .i64 0] [(0,.t 54)]),.o 56 (.app 1 8 (.t 53) (.t 55)),.a 57 3 7,.s 1 57 56]))) (.ops [.v 58 .add 48 .w,.m 48 58]))))))) (.seq (.sf [.r 59 5 7,.m 60 4,.o 61 (.bt (.t 60)),.a 62 1 61,.l 63 62,.o 64 (.un .not (.t 63)),.m 65 64,.t 66 65 true 4,.g 67 65 true (.bt (.t 66)),.g 68 65 true (.aP 0 (.t 67)),.g 69 65 true (.load none (.t 68)),.g 70 65 true (.len .sl (.t 69)),.g 71 65 true (.bin .eql (.t 70) .z),.d 72 65 71,.s 5 2 59,.m 3 72]) .ret)))))))))⟩
def fn112:ar:=⟨94,2,[(4,none)],(.s [.p 3 1,.o 4 (.aF .z)] (.seq (.s [.r 9 5 3,.c 10 67 [.t 9],.m 5 10] (.s [.m 11 5,.v 12 .neq 11 .z] (.j 12 [.m 13 5,.m 4 13]))) (.seq (.s [.m 14 0,.r 15 5 3,.c 16 116 [.t 14,.t 15],.m 6 16] (.s [.m 17 6,.v 18 .neq 17 .z] (.j 18 [.m 19 6,.m 4 19]))) (.s [.r 20 5 3,.c 21 91 [.t 20],.s 5 3 21] (.s [.m 22 0,.m 23 0,.o 24 (.bt (.t 23)),.a 25 0 24,.l 26 25,.r 27 5 3,.o 28 (.aE 5 1 [.int .i64 0,.str [],.af,.af,.str []] [(0,.t 27)]),.o 29 (.app 5 88 (.t 26) (.t 28)),.o 30 (.bt (.t 22)),.a 31 0 30,.s 1 31 29] (.seq (.s [.a 32 1 3,.l 33 32,.v 34 .eql 33 (.c (.str [117,110,100,111]))] (.i 34 (.s [.m 35 0,.o 36 (.bt (.t 35)),.a 37 1 36,.l 38 37,.n 39 38,.v 40 .sub 39 .w,.m 7 40] (.s [.m 41 0,.m 42 0,.m 43 0,.o 44 (.bt (.t 43)),.a 45 1 44,.l 46 45,.m 47 7,.o 48 (.sl 5 (.t 46) none (some (.t 47))),.m 49 0,.o 50 (.bt (.t 49)),.a 51 2 50,.l 52 51,.m 53 7,.o 54 (.sl 7 (.t 52) none (some (.t 53))),.o 55 (.bt (.t 41)),.a 56 1 55,.s 1 56 48,.o 57 (.bt (.t 42)),.a 58 2 57,.s 1 58 54] (.r [.o 4 (.aF .z)]))) .skip)) (.s [.m 59 0,.c 60 79 [.t 59],.c 61 96 [.t 60],.o 8 (.box (.c (.agg [.int .i64 0,.af,.af,.af,.af,.af,.af]))),.s 7 8 61] (.s [.y 62 (.call (.f 90) []),.y 63 (.aP 1 (.t 3)),.j 64 63,.y 65 (.look .s (.agg [.af,.int .i64 0,.nilFunc,.nilFunc,.nilFunc]) false (.t 62) (.t 64)),.y 66 (.part none 3 (.t 65)),.y 67 (.load (some 5) (.t 3)),.o 68 (.call (.t 66) [.t 8,.t 67])] (.s [.a 69 3 3,.l 70 69,.o 71 (.aS 1 (.t 70) .z),.l 72 71,.a 73 0 8,.s 1 73 72] (.seq (.lC [.m 74 0,.m 75 0,.m 76 0,.o 77 (.bt (.t 76)),.a 78 1 77,.j 79 78,.y 80 (.load (some 5) (.t 3)),.o 81 (.aE 5 1 [.int .i64 0,.str [],.af,.af,.str []] [(0,.t 80)]),.o 82 (.app 5 88 (.t 79) (.t 81)),.m 83 0,.o 84 (.bt (.t 83)),.a 85 2 84,.j 86 85,.y 87 (.load (some 7) (.t 8)),.o 88 (.aE 7 1 [.int .i64 0,.af,.af,.af,.af,.af,.af] [(0,.t 87)]),.o 89 (.app 7 152 (.t 86) (.t 88)),.o 90 (.bt (.t 74)),.a 91 1 90,.s 1 91 82,.o 92 (.bt (.t 75)),.a 93 2 92,.s 1 93 89]) (.r [.o 4 (.aF .z)])))))))))))⟩
def fn113:ar:=Bc 209
def fn114:ar:=⟨75,2,[(4,none)],(.s [.o 4 (.aF (.c (.str [])))] (.seq (.s [.m 11 0,.n 12 11] (.block 0 (.s [.v 14 .eql 12 .z,.m 13 14] (.i 13 (.r [.o 4 (.aF (.c (.str [])))]) (.s [.v 16 .eql 12 .w,.m 15 16] (.j 15 [.m 17 0,.o 18 (.aS 1 (.t 17) .z),.l 19 18,.m 4 19])))))) (.s [.o 5 (.aF .z)] (.seq (.s [.m 20 1,.o 21 (.len .st (.t 20)),.v 22 .gtr 21 .z] (.i 22 (.seq (.s [.m 23 1,.o 24 (.len .st (.t 23)),.m 25 0,.n 26 25,.v 27 .sub 26 .w,.b 28 .quo (.n 9223372036854775807) (.t 27),.u 29 .geq 24 28] (.i 29 (.ops [.o 30 (.conv (.qh 9) (.c (.str [115,116,114,105,110,103,115,58,32,74,111,105,110,32,111,117,116,112,117,116,32,108,101,110,103,116,104,32,111,118,101,114,102,108,111,119]))),.x (.bad)]) .skip)) (.ops [.m 31 5,.m 32 1,.o 33 (.len .st (.t 32)),.m 34 0,.n 35 34,.v 36 .sub 35 .w,.u 37 .mul 33 36,.u 38 .add 31 37,.m 5 38])) .skip)) (.seq (.s [.m 39 0,.n 40 39,.o 41 (.aF .z)] (.block 1 (.loop (.s [.u 42 .lss 41 40] (.seq (.i 42 .skip (.exit 1)) (.seq (.block 2 (.s [.h 43 1 39 41,.l 44 43,.m 7 44] (.seq (.s [.m 45 7,.o 46 (.len .st (.t 45)),.m 47 5,.b 48 .sub (.n 9223372036854775807) (.t 47),.u 49 .gtr 46 48] (.i 49 (.ops [.o 50 (.conv (.qh 9) (.c (.str [115,116,114,105,110,103,115,58,32,74,111,105,110,32,111,117,116,112,117,116,32,108,101,110,103,116,104,32,111,118,101,114,102,108,111,119]))),.x (.bad)]) .skip)) (.ops [.m 51 5,.m 52 7,.o 53 (.len .st (.t 52)),.u 54 .add 51 53,.m 5 54])))) (.ops [.v 55 .add 41 .w,.m 41 55]))))))) (.s [.o 8 (.box (.c (.agg [.nilPtr,.af])))] (.s [.m 56 5,.c 57 210 [.t 8,.t 56]] (.s [.m 58 0,.o 59 (.aS 1 (.t 58) .z),.l 60 59,.c 61 211 [.t 8,.t 60]] (.seq (.s [.m 62 0,.o 63 (.sl 1 (.t 62) (some .w) none),.n 64 63,.o 65 (.aF .z)] (.block 3 (.loop (.s [.u 66 .lss 65 64] (.seq (.i 66 .skip (.exit 3)) (.seq (.block 4 (.s [.h 67 1 63 65,.l 68 67,.m 10 68] (.s [.m 69 1,.c 70 211 [.t 8,.t 69]] (.ops [.m 71 10,.c 72 211 [.t 8,.t 71]])))) (.ops [.v 73 .add 65 .w,.m 65 73]))))))) (.r [.c 74 212 [.t 8],.m 4 74]))))))))))⟩
def fn115:ar:=⟨22,2,[(4,none)],(.s [.o 4 (.aF (.c .af))] (.s [.o 5 (.aF (.c .af))] (.seq (.s [.m 8 0,.n 9 8,.o 10 (.aF .z)] (.block 0 (.loop (.s [.u 11 .lss 10 9] (.seq (.i 11 .skip (.exit 0)) (.seq (.block 1 (.s [.h 12 5 8 10,.r 13 5 12,.o 7 (.box (.c (.agg [.int .i64 0,.str [],.af,.af,.str []]))),.s 5 7 13] (.ops [.m 14 5,.m 15 1,.r 16 5 7,.o 17 (.call (.t 15) [.t 16]),.o 18 (.aE 1 1 [.str []] [(0,.t 17)]),.o 19 (.app 1 16 (.t 14) (.t 18)),.m 5 19]))) (.ops [.v 20 .add 10 .w,.m 10 20]))))))) (.r [.m 21 5,.m 4 21]))))⟩
def fn116:ar:=⟨106,2,[(4,none)],(.s [.p 3 1,.o 4 (.aF .z)] (.seq (.s [.y 12 (.aP 0 (.t 3)),.j 13 12,.w 14 0,.y 15 (.bt (.t 14)),.y 16 (.aP 0 (.t 15)),.j 17 16,.y 18 (.len .sl (.t 17)),.y 19 (.bin .add (.t 18) .w),.u 20 .neq 13 19] (.j 20 [.o 4 (.aF (.n 11))])) (.s [.m 21 0,.o 22 (.bt (.t 21)),.a 23 1 22,.l 24 23,.n 25 24,.m 5 25] (.seq (.s [.a 26 1 3,.l 27 26,.v 28 .eql 27 (.c (.str [117,110,100,111]))] (.i 28 (.seq (.s [.m 29 5,.v 30 .eql 29 .z] (.j 30 [.o 4 (.aF (.n 12))])) (.r [.m 31 0,.o 32 (.bt (.t 31)),.a 33 1 32,.l 34 33,.m 35 5,.v 36 .sub 35 .w,.h 37 5 34 36,.a 38 1 37,.l 39 38,.v 40 .eql 39 (.c (.str [114,101,108,101,97,115,101])),.c 41 85 [.t 40,.n 21],.m 4 41])) .skip)) (.s [.m 42 0,.c 43 79 [.t 42],.o 6 (.box (.c (.agg [.int .i64 0,.af,.af,.af,.af,.af,.af]))),.s 7 6 43] (.seq (.s [.y 44 (.aP 3 (.t 3)),.j 45 44,.y 46 (.aS 1 (.t 45) .z),.j 47 46,.y 48 (.aP 0 (.t 6)),.j 49 48,.u 50 .lss 47 49] (.j 50 [.o 4 (.aF (.n 22))])) (.s [.y 51 (.call (.f 90) []),.y 52 (.aP 1 (.t 3)),.j 53 52,.y 54 (.look .s (.agg [.af,.int .i64 0,.nilFunc,.nilFunc,.nilFunc]) false (.t 51) (.t 53)),.y 7 (.box (.c (.agg [.af,.int .i64 0,.nilFunc,.nilFunc,.nilFunc]))),.s 5 7 54] (.seq (.s [.a 55 0 7,.l 56 55,.n 57 56,.o 58 (.aF .z)] (.block 0 (.loop (.s [.u 59 .lss 58 57] (.seq (.i 59 .skip (.exit 0)) (.seq (.block 1 (.s [.m 60 58,.h 61 2 56 58,.r 62 2 61,.o 9 (.box (.c (.agg [.int .i64 0,.bool false]))),.m 8 60,.s 2 9 62] (.s [.a 63 1 9,.l 64 63,.m 65 64,⟨(some 66),.load (some 7) (.t 6),(some (65,true)),true⟩,⟨(some 67),.aP 0 (.t 9),(some (65,true)),true⟩,⟨(some 68),.load none (.t 67),(some (65,true)),true⟩,⟨(some 69),.aP 2 (.t 3),(some (65,true)),true⟩,⟨(some 70),.load none (.t 69),(some (65,true)),true⟩,⟨(some 71),.aF (.t 8),(some (65,true)),true⟩,⟨(some 72),.aS 1 (.t 70) (.t 71),(some (65,true)),true⟩,⟨(some 73),.load none (.t 72),(some (65,true)),true⟩,.g 74 65 true (.call (.f 86) [.t 66,.t 68,.t 73]),.g 75 65 true (.un .not (.t 74)),.d 76 65 75] (.j 76 [.o 4 (.aF (.n 10))])))) (.ops [.v 77 .add 58 .w,.m 58 77]))))))) (.seq (.s [.a 78 0 7,.l 79 78,.n 80 79,.o 81 (.aF .z)] (.block 2 (.loop (.s [.u 82 .lss 81 80] (.seq (.i 82 .skip (.exit 2)) (.seq (.block 3 (.s [.m 83 81,.h 84 2 79 81,.r 85 2 84,.o 11 (.box (.c (.agg [.int .i64 0,.bool false]))),.m 10 83,.s 2 11 85] (.s [.a 86 1 11,.l 87 86,.o 88 (.un .not (.t 87)),.m 89 88,⟨(some 90),.load (some 7) (.t 6),(some (89,true)),true⟩,⟨(some 91),.aP 0 (.t 11),(some (89,true)),true⟩,⟨(some 92),.load none (.t 91),(some (89,true)),true⟩,⟨(some 93),.aP 2 (.t 3),(some (89,true)),true⟩,⟨(some 94),.load none (.t 93),(some (89,true)),true⟩,⟨(some 95),.aF (.t 10),(some (89,true)),true⟩,⟨(some 96),.aS 1 (.t 94) (.t 95),(some (89,true)),true⟩,⟨(some 97),.load none (.t 96),(some (89,true)),true⟩,.g 98 89 true (.call (.f 86) [.t 90,.t 92,.t 97]),.d 99 89 98] (.j 99 [.o 4 (.aF (.n 9))])))) (.ops [.v 100 .add 81 .w,.m 81 100]))))))) (.r [.a 101 2 7,.l 102 101,.r 103 7 6,.r 104 5 3,.o 105 (.call (.t 102) [.t 103,.t 104]),.m 4 105]))))))))))⟩
def fn117:ar:=⟨22,2,[(4,none)],(.s [.o 4 (.aF (.c .af))] (.s [.o 5 (.aF (.c .af))] (.seq (.s [.m 8 0,.n 9 8,.o 10 (.aF .z)] (.block 0 (.loop (.s [.u 11 .lss 10 9] (.seq (.i 11 .skip (.exit 0)) (.seq (.block 1 (.s [.h 12 4 8 10,.r 13 4 12,.o 7 (.box (.c (.agg [.str [],.str [],.str [],.af]))),.s 4 7 13] (.ops [.m 14 5,.m 15 1,.r 16 4 7,.o 17 (.call (.t 15) [.t 16]),.o 18 (.aE 1 1 [.str []] [(0,.t 17)]),.o 19 (.app 1 16 (.t 14) (.t 18)),.m 5 19]))) (.ops [.v 20 .add 10 .w,.m 10 20]))))))) (.r [.m 21 5,.m 4 21]))))⟩
def fn118:ar:=⟨5,1,[(2,none)],(.s [.o 2 (.aF (.c .af))] (.r [.m 3 0,.c 4 213 [(.c .af),.t 3],.m 2 4]))⟩
def fn119:ar:=⟨6,2,[(4,none)],(.s [.p 2 0,.p 3 1,.o 4 (.aF (.c .nilFunc))] (.r [.o 5 (.kQ (.func 214) [] [.t 3,.t 2]),.m 4 5]))⟩
def kL:ar:=⟨5,1,[(2,none)],(.s [.p 1 0,.o 2 (.aF (.c (.str [])))] (.r [.a 3 0 1,.l 4 3,.m 2 4]))⟩
def fn120:ar:=kL
def fn121:ar:=⟨22,2,[(4,none)],(.s [.o 4 (.aF (.c .af))] (.s [.o 5 (.aF (.c .af))] (.seq (.s [.m 8 0,.n 9 8,.o 10 (.aF .z)] (.block 0 (.loop (.s [.u 11 .lss 10 9] (.seq (.i 11 .skip (.exit 0)) (.seq (.block 1 (.s [.h 12 3 8 10,.r 13 3 12,.o 7 (.box (.c (.agg [.str [],.int .i64 0,.bool false]))),.s 3 7 13] (.ops [.m 14 5,.m 15 1,.r 16 3 7,.o 17 (.call (.t 15) [.t 16]),.o 18 (.aE 1 1 [.str []] [(0,.t 17)]),.o 19 (.app 1 16 (.t 14) (.t 18)),.m 5 19]))) (.ops [.v 20 .add 10 .w,.m 10 20]))))))) (.r [.m 21 5,.m 4 21]))))⟩
def fn122:ar:=⟨19,2,[(4,none)],(.s [.p 2 0,.o 4 (.aF (.c .af))] (.s [.o 7 (.lE),.o 5 (.box (.c .cQ)),.s 1 5 7] (.seq (.s [.r 8 7 2,.m 9 1,.c 10 119 [.t 8,.t 9]] (.block 0 (.eJ (.t 10) [11] (.ops [.o 6 (.box (.c (.agg [.str [],.str [],.str [],.af]))),.s 4 6 11]) (.block 1 (.ops [.l 12 5,.a 13 2 6,.l 14 13,.x (.fj .s (.t 12) (.t 14) .T)]))))) (.r [.a 15 1 2,.l 16 15,.o 17 (.kQ (.func 217) [] [.t 5]),.c 18 216 [.t 16,.t 17],.m 4 18]))))⟩
def fn123:ar:=kL
def fn124:ar:=Du 5 145
def fn125:ar:=⟨23,1,[(2,none)],(.s [.p 1 0,.o 2 (.aF (.c .af))] (.s [.o 3 (.aF (.c .af))] (.seq (.s [.a 5 2 1,.l 6 5,.n 7 6,.o 8 (.aF .z)] (.block 0 (.loop (.s [.u 9 .lss 8 7] (.seq (.i 9 .skip (.exit 0)) (.seq (.block 1 (.s [.m 10 8,.m 4 10] (.s [.a 11 2 1,.l 12 11,.m 13 4,.h 14 1 12 13,.l 15 14,.v 16 .eql 15 (.n (-1))] (.i 16 (.ops [.m 17 3,.m 18 4,.o 19 (.aE 1 1 [.int .i64 0] [(0,.t 18)]),.o 20 (.app 1 8 (.t 17) (.t 19)),.m 3 20]) .skip)))) (.ops [.v 21 .add 8 .w,.m 8 21]))))))) (.r [.m 22 3,.m 2 22]))))⟩
def fn126:ar:=⟨20,2,[(4,none)],(.s [.p 2 0,.o 4 (.aF (.c .af))] (.s [.y 6 (.load (some 7) (.t 2)),.y 7 (.load (some 7) (.t 2)),.y 8 (.load (some 7) (.t 2)),.w 9 1,.y 10 (.call (.f 218) [.t 8,.t 9]),.y 11 (.part none 1 (.t 10)),.y 12 (.call (.f 124) [.t 7,.t 11]),.y 13 (.part none 1 (.t 12)),.y 14 (.call (.f 122) [.t 6,.t 13]),.y 5 (.box (.c .af)),.s 1 5 14] (.r [.a 15 3 2,.l 16 15,.o 17 (.kQ (.func 219) [] [.t 5]),.c 18 138 [.t 16,.t 17],.c 19 137 [.t 18,(.f 140)],.m 4 19])))⟩
def fn127:ar:=⟨32,2,[(4,none)],(.s [.p 2 0,.o 4 (.aF (.c .af))] (.s [.o 5 (.aF (.c .af))] (.seq (.s [.o 6 (.aF .z)] (.block 0 (.loop (.seq (.s [.m 7 6,.a 8 3 2,.l 9 8,.n 10 9,.u 11 .lss 7 10] (.i 11 .skip (.exit 0))) (.seq (.block 1 (.s [.m 14 1,.a 15 3 2,.l 16 15,.m 17 6,.h 18 3 16 17,.a 19 1 18,.l 20 19,.c 21 35 [.t 14,.t 20]] (.i 21 (.ops [.m 22 5,.a 23 3 2,.l 24 23,.m 25 6,.h 26 3 24 25,.a 27 0 26,.l 28 27,.o 29 (.aE 1 1 [.str []] [(0,.t 28)]),.o 30 (.app 1 16 (.t 22) (.t 29)),.m 5 30]) .skip))) (.ops [.m 12 6,.v 13 .add 12 .w,.m 6 13])))))) (.r [.m 31 5,.m 4 31]))))⟩
def fn128:ar:=⟨66,4,[(8,none)],(.s [.o 8 (.aF (.c .af))] (.seq (.s [.m 12 3,.v 13 .eql 12 .z] (.j 13 [.o 8 (.aF (.c .af))])) (.seq (.s [.m 14 1,.v 15 .eql 14 (.c (.str []))] (.j 15 [.m 16 0,.m 17 3,.c 18 220 [.t 16,.t 17],.m 8 18])) (.seq (.s [.m 19 3,.v 20 .lss 19 .z] (.i 20 (.ops [.m 21 0,.m 22 1,.c 23 221 [.t 21,.t 22],.v 24 .add 23 .w,.m 3 24]) .skip)) (.s [.m 25 3,.m 26 0,.o 27 (.len .st (.t 26)),.v 28 .add 27 .w,.o 29 (.mn (.t 25) [.t 28]),.m 3 29] (.s [.m 30 3,.o 31 (.sg 1 16 [.str []] (.t 30) (.t 30)),.m 9 31] (.s [.m 32 3,.v 33 .sub 32 .w,.m 3 33] (.s [.o 10 (.aF .z)] (.seq (.block 0 (.loop (.seq (.s [.m 34 10,.m 35 3,.u 36 .lss 34 35] (.i 36 .skip (.exit 0))) (.block 1 (.s [.m 37 0,.m 38 1,.c 39 222 [.t 37,.t 38],.m 11 39] (.seq (.s [.m 40 11,.v 41 .lss 40 .z] (.i 41 (.exit 0) .skip)) (.s [.m 42 9,.m 43 10,.m 44 0,.m 45 11,.m 46 2,.u 47 .add 45 46,.o 48 (.pL (.t 44) none (some (.t 47))),.h 49 1 42 43,.s 1 49 48] (.s [.m 50 0,.m 51 11,.m 52 1,.o 53 (.len .st (.t 52)),.u 54 .add 51 53,.o 55 (.pL (.t 50) (some (.t 54)) none),.m 0 55] (.ops [.m 56 10,.v 57 .add 56 .w,.m 10 57]))))))))) (.s [.m 58 9,.m 59 10,.m 60 0,.h 61 1 58 59,.s 1 61 60] (.r [.m 62 9,.m 63 10,.v 64 .add 63 .w,.o 65 (.sl 1 (.t 62) none (some (.t 64))),.m 8 65])))))))))))⟩
def fn129:ar:=⟨63,2,[(4,some (some 7)),(5,none)],(.s [.p 2 0,.p 3 1,.o 4 (.box (.c (.agg [.int .i64 0,.af,.af,.af,.af,.af,.af]))),.o 5 (.aF .z)] (.seq (.s [.y 9 (.aP 3 (.t 3)),.j 10 9,.y 11 (.aS 1 (.t 10) .z),.j 12 11,.y 13 (.aP 0 (.t 2)),.j 14 13,.u 15 .lss 12 14] (.j 15 [.r 16 7 2,.s 7 4 16,.o 5 (.aF (.n 22))])) (.seq (.s [.r 17 7 2,.r 18 5 3,.c 19 223 [.t 17,.t 18],.m 6 19] (.s [.m 20 6,.v 21 .neq 20 .z] (.j 21 [.r 22 7 2,.m 23 6,.s 7 4 22,.m 5 23]))) (.s [.r 24 7 2,.c 25 224 [.t 24],.o 7 (.box (.c (.agg [.int .i64 0,.af,.af,.af,.af,.af,.af]))),.s 7 7 25,.o 8 (.aF .z)] (.seq (.s [.a 26 1 3,.l 27 26] (.block 0 (.seq (.s [.v 35 .eql 27 (.c (.str [108,105,110,101])),.m 34 35] (.i 34 .skip (.s [.v 36 .eql 27 (.c (.str [116,97,112,101])),.m 34 36] (.i 34 .skip (.s [.v 37 .eql 27 (.c (.str [115,104,111,116])),.m 34 37] (.i 34 .skip (.s [.v 38 .eql 27 (.c (.str [99,111,112,121])),.m 34 38] (.i 34 .skip (.ops [.v 39 .eql 27 (.c (.str [97,99,99,101,112,116])),.m 34 39]))))))))) (.i 34 (.ops [.r 41 7 7,.r 42 5 3,.c 43 225 [.t 41,.t 42],.m 40 43,.e 44 40 0,.e 45 40 1,.s 7 7 44,.m 8 45]) (.seq (.s [.v 47 .eql 27 (.c (.str [115,111,117,114,99,101])),.m 46 47] (.i 46 .skip (.s [.v 48 .eql 27 (.c (.str [109,111,100,117,108,101])),.m 46 48] (.i 46 .skip (.ops [.v 49 .eql 27 (.c (.str [109,101,114,103,101])),.m 46 49]))))) (.i 46 (.ops [.r 51 7 7,.r 52 5 3,.c 53 226 [.t 51,.t 52],.m 50 53,.e 54 50 0,.e 55 50 1,.s 7 7 54,.m 8 55]) (.ops [.r 29 7 7,.r 30 5 3,.c 31 227 [.t 29,.t 30],.m 28 31,.e 32 28 0,.e 33 28 1,.s 7 7 32,.m 8 33]))))))) (.s [.a 56 3 3,.l 57 56,.o 58 (.aS 1 (.t 57) .z),.l 59 58,.a 60 0 7,.s 1 60 59] (.r [.r 61 7 7,.m 62 8,.s 7 4 61,.m 5 62])))))))⟩
def fn130:ar:=Ds
def fn131:ar:=⟨7,1,[(2,none)],(.s [.o 2 (.aF .z)] (.r [.m 3 0,.c 4 132 [.t 3],.o 5 (.un .not (.t 4)),.c 6 85 [.t 5,.n 8],.m 2 6]))⟩
def fn132:ar:=⟨54,1,[(2,none)],(.s [.o 2 (.aF .F)] (.seq (.s [.m 7 0,.o 8 (.xD (.t 7))] (.block 0 (.loop (.s [.o 9 (.nS (.t 8)),.e 10 9 0] (.seq (.i 10 .skip (.exit 0)) (.block 1 (.s [.e 11 9 1,.e 12 9 2,.m 3 11,.m 4 12] (.s [.m 13 4,.b 14 .leq (.c (.int .i32 65)) (.t 13),.m 15 14,.t 16 15 true 4,.g 17 15 true (.bin .leq (.t 16) (.c (.int .i32 90))),.d 18 15 17,.m 19 18,.t 20 19 false 4,.g 21 19 false (.bin .leq (.c (.int .i32 97)) (.t 20)),.t 22 19 false 21,.t 23 22 true 4,.g 24 22 true (.bin .leq (.t 23) (.c (.int .i32 122))),.g 25 19 false (.pick (.t 22) (.t 24) .F),.f 26 19 25,.m 5 26] (.s [.m 27 4,.b 28 .leq (.c (.int .i32 48)) (.t 27),.m 29 28,.t 30 29 true 4,.g 31 29 true (.bin .leq (.t 30) (.c (.int .i32 57))),.d 32 29 31,.m 33 32,.t 34 33 false 4,.g 35 33 false (.bin .eql (.t 34) (.c (.int .i32 95))),.f 36 33 35,.m 6 36] (.s [.m 37 5,.o 38 (.un .not (.t 37)),.m 39 38,.t 40 39 true 3,.g 41 39 true (.bin .eql (.t 40) .z),.t 42 39 true 41,.t 43 42 false 6,.g 44 42 false (.un .not (.t 43)),.g 45 39 true (.pick (.t 42) .T (.t 44)),.d 46 39 45] (.j 46 [.o 2 (.aF .F)]))))))))))) (.r [.m 47 0,.v 48 .neq 47 (.c (.str [])),.m 49 48,.t 50 49 true 0,.g 51 49 true (.len .st (.t 50)),.g 52 49 true (.bin .leq (.t 51) (.n 24)),.d 53 49 52,.m 2 53])))⟩
def fn133:ar:=zB
def fn134:ar:=⟨13,2,[(4,some (some 2))],(.s [.p 2 0,.o 4 (.box (.c (.agg [.str [],.int .i64 0])))] (.r [.y 5 (.aP 2 (.t 2)),.j 6 5,.y 7 (.aP 2 (.t 2)),.j 8 7,.w 9 1,.y 10 (.call (.f 143) [.t 8,.t 9]),.h 11 2 6 10,.r 12 2 11,.s 2 4 12]))⟩
def fn135:ar:=⟨9,2,[(4,none)],(.s [.p 2 0,.o 4 (.aF .F)] (.r [.m 5 1,.a 6 1 2,.l 7 6,.u 8 .leq 5 7,.m 4 8]))⟩
def kK(x0 x1:Nat):ar:=⟨8,2,[(4,none)],(.s [.p 3 1,.o 4 (.aF .z)] (.r [.m 5 0,.o 6 (.kQ (.func x0) [] [.t 3]),.c 7 x1 [.t 5,.t 6],.m 4 7]))⟩
def fn136:ar:=kK 229 228
def fn137:ar:=⟨22,2,[(4,none)],(.s [.o 4 (.aF (.c .af))] (.s [.o 5 (.aF (.c .af))] (.seq (.s [.m 8 0,.n 9 8,.o 10 (.aF .z)] (.block 0 (.loop (.s [.u 11 .lss 10 9] (.seq (.i 11 .skip (.exit 0)) (.seq (.block 1 (.s [.h 12 3 8 10,.r 13 3 12,.o 7 (.box (.c (.agg [.str [],.str [],.af]))),.s 3 7 13] (.ops [.m 14 5,.m 15 1,.r 16 3 7,.o 17 (.call (.t 15) [.t 16]),.o 18 (.aE 1 1 [.str []] [(0,.t 17)]),.o 19 (.app 1 16 (.t 14) (.t 18)),.m 5 19]))) (.ops [.v 20 .add 10 .w,.m 10 20]))))))) (.r [.m 21 5,.m 4 21]))))⟩
def fn138:ar:=⟨23,2,[(4,none)],(.s [.o 4 (.aF (.c .af))] (.s [.o 5 (.aF (.c .af))] (.seq (.s [.m 8 0,.n 9 8,.o 10 (.aF .z)] (.block 0 (.loop (.s [.u 11 .lss 10 9] (.seq (.i 11 .skip (.exit 0)) (.seq (.block 1 (.s [.h 12 3 8 10,.r 13 3 12,.o 7 (.box (.c (.agg [.str [],.str [],.af]))),.s 3 7 13] (.s [.m 14 1,.r 15 3 7,.o 16 (.call (.t 14) [.t 15])] (.i 16 (.ops [.m 17 5,.r 18 3 7,.o 19 (.aE 3 1 [.str [],.str [],.af] [(0,.t 18)]),.o 20 (.app 3 56 (.t 17) (.t 19)),.m 5 20]) .skip)))) (.ops [.v 21 .add 10 .w,.m 10 21]))))))) (.r [.m 22 5,.m 4 22]))))⟩
def fn139:ar:=⟨10,1,[(4,none)],(.s [.p 3 0,.o 4 (.aF .F)] (.r [.r 5 7 1,.r 6 3 3,.l 7 2,.c 8 76 [.t 5,.t 6,.t 7],.o 9 (.un .not (.t 8)),.m 4 9]))⟩
def fn140:ar:=kL
def fn141:ar:=uO 2 2
def fn142:ar:=kK 231 230
def fn143:ar:=kK 233 232
def fn144:ar:=kK 235 234
def fn145:ar:=kK 237 236
def fn146:ar:=kK 239 238
def fn147:ar:=⟨5,1,[(2,some (some 2))],(.s [.o 2 (.box (.c (.agg [.int .i64 0,.bool false])))] (.r [.m 3 0,.o 4 (.build [.int .i64 0,.bool false] [(0,1,.t 3),(1,1,.F)]),.s 2 2 4]))⟩
def fn148:ar:=⟨17,2,[(4,none)],(.s [.p 2 0,.p 3 1,.o 4 (.aF .z)] (.r [.y 5 (.aP 3 (.t 3)),.j 6 5,.y 7 (.aS 1 (.t 6) .w),.j 8 7,.y 9 (.call (.f 94) [.t 8,.w,.n 64]),.y 10 (.aP 1 (.t 2)),.j 11 10,.y 12 (.len .sl (.t 11)),.y 13 (.bin .geq (.t 12) (.n 16)),.c 14 85 [.t 13,.n 5],.o 15 (.aE 1 2 [.int .i64 0] [(0,.t 9),(1,.t 14)]),.c 16 74 [.t 15],.m 4 16]))⟩
def fn149:ar:=⟨22,2,[],(.s [.p 3 1] (.ops [.m 4 0,.m 5 0,.o 6 (.bt (.t 5)),.a 7 1 6,.l 8 7,.a 9 2 3,.l 10 9,.o 11 (.aS 1 (.t 10) .z),.l 12 11,.a 13 3 3,.l 14 13,.o 15 (.aS 1 (.t 14) .w),.l 16 15,.o 17 (.build [.str [],.int .i64 0,.bool false] [(0,1,.t 12),(1,1,.t 16)]),.o 18 (.aE 3 1 [.str [],.int .i64 0,.bool false] [(0,.t 17)]),.o 19 (.app 3 32 (.t 8) (.t 18)),.o 20 (.bt (.t 4)),.a 21 1 20,.s 1 21 19]))⟩
def yC(x0:Nat):ar:=⟨4,1,[(2,none)],(.s [.p 1 0,.o 2 (.aF (.c .nilFunc))] (.r [.o 3 (.kQ (.func x0) [] [.t 1]),.m 2 3]))⟩
def fn150:ar:=yC 240
def fn151:ar:=⟨23,2,[(4,none)],(.s [.p 2 0,.p 3 1,.o 4 (.aF .z)] (.r [.y 5 (.aP 3 (.t 3)),.j 6 5,.y 7 (.aS 1 (.t 6) .z),.j 8 7,.y 9 (.aP 3 (.t 3)),.j 10 9,.y 11 (.aS 1 (.t 10) .w),.j 12 11,.y 13 (.bin .add (.t 8) (.t 12)),.y 14 (.bin .gtr (.t 13) (.n 999999999)),.y 15 (.call (.f 85) [.t 14,.n 4]),.y 16 (.aP 2 (.t 2)),.j 17 16,.y 18 (.len .sl (.t 17)),.y 19 (.bin .geq (.t 18) (.n 16)),.c 20 85 [.t 19,.n 5],.o 21 (.aE 1 2 [.int .i64 0] [(0,.t 15),(1,.t 20)]),.c 22 74 [.t 21],.m 4 22]))⟩
def fn152:ar:=⟨27,2,[],(.s [.p 3 1] (.ops [.m 4 0,.m 5 0,.o 6 (.bt (.t 5)),.a 7 2 6,.l 8 7,.a 9 2 3,.l 10 9,.o 11 (.aS 1 (.t 10) .z),.l 12 11,.a 13 3 3,.l 14 13,.o 15 (.aS 1 (.t 14) .z),.l 16 15,.a 17 3 3,.l 18 17,.o 19 (.aS 1 (.t 18) .w),.l 20 19,.u 21 .add 16 20,.o 22 (.build [.str [],.int .i64 0] [(0,1,.t 12),(1,1,.t 21)]),.o 23 (.aE 2 1 [.str [],.int .i64 0] [(0,.t 22)]),.o 24 (.app 2 24 (.t 8) (.t 23)),.o 25 (.bt (.t 4)),.a 26 2 25,.s 1 26 24]))⟩
def fn153:ar:=⟨5,2,[(4,none)],(.s [.p 2 0,.o 4 (.aF .F)] (.r [.o 4 (.aF .T)]))⟩
def fn154:ar:=⟨5,1,[(2,some (some 2))],(.s [.o 2 (.box (.c (.agg [.int .i64 0,.bool false])))] (.r [.m 3 0,.o 4 (.build [.int .i64 0,.bool false] [(0,1,.t 3),(1,1,.T)]),.s 2 2 4]))⟩
def fn155:ar:=⟨27,2,[(4,none)],(.s [.p 2 0,.p 3 1,.o 4 (.aF .z)] (.r [.y 5 (.load (some 7) (.t 2)),.y 6 (.aP 2 (.t 3)),.j 7 6,.y 8 (.aS 1 (.t 7) .w),.j 9 8,.y 10 (.call (.f 205) [.t 5,.t 9]),.y 11 (.part none 2 (.t 10)),.y 12 (.call (.f 85) [.t 11,.n 23]),.y 13 (.load (some 7) (.t 2)),.y 14 (.load (some 5) (.t 3)),.y 15 (.aP 2 (.t 3)),.j 16 15,.y 17 (.aS 1 (.t 16) (.n 2)),.j 18 17,.y 19 (.call (.f 241) [.t 13,.t 14,.t 18]),.y 20 (.aP 3 (.t 2)),.j 21 20,.y 22 (.len .sl (.t 21)),.y 23 (.bin .geq (.t 22) (.n 64)),.c 24 85 [.t 23,.n 5],.o 25 (.aE 1 3 [.int .i64 0] [(0,.t 12),(1,.t 19),(2,.t 24)]),.c 26 74 [.t 25],.m 4 26]))⟩
def fn156:ar:=⟨27,2,[],(.s [.p 3 1] (.ops [.m 4 0,.m 5 0,.o 6 (.bt (.t 5)),.a 7 3 6,.l 8 7,.a 9 2 3,.l 10 9,.o 11 (.aS 1 (.t 10) .z),.l 12 11,.a 13 2 3,.l 14 13,.o 15 (.aS 1 (.t 14) .w),.l 16 15,.a 17 2 3,.l 18 17,.o 19 (.aS 1 (.t 18) (.n 2)),.l 20 19,.o 21 (.aE 1 1 [.str []] [(0,.t 20)]),.o 22 (.build [.str [],.str [],.af] [(0,1,.t 12),(1,1,.t 16),(2,1,.t 21)]),.o 23 (.aE 3 1 [.str [],.str [],.af] [(0,.t 22)]),.o 24 (.app 3 56 (.t 8) (.t 23)),.o 25 (.bt (.t 4)),.a 26 3 25,.s 1 26 24]))⟩
def fn157:ar:=⟨35,2,[(4,none)],(.s [.p 2 0,.p 3 1,.o 4 (.aF .z)] (.s [.y 7 (.load (some 7) (.t 2)),.y 8 (.aP 2 (.t 3)),.j 9 8,.y 10 (.aS 1 (.t 9) .z),.j 11 10,.y 12 (.call (.f 134) [.t 7,.t 11]),.y 13 (.load (some 7) (.t 2)),.y 14 (.aP 2 (.t 3)),.j 15 14,.y 16 (.aS 1 (.t 15) .w),.j 17 16,.y 18 (.call (.f 134) [.t 13,.t 17]),.y 5 (.box (.c (.agg [.str [],.int .i64 0]))),.y 6 (.box (.c (.agg [.str [],.int .i64 0]))),.s 2 5 12,.s 2 6 18] (.r [.y 19 (.load (some 2) (.t 5)),.y 20 (.load (some 2) (.t 6)),.y 21 (.eqv false (.agg [.s,.i]) (.t 19) (.t 20)),.y 22 (.call (.f 85) [.t 21,.n 24]),.y 23 (.load (some 7) (.t 2)),.y 24 (.load (some 5) (.t 3)),.y 25 (.aP 0 (.t 5)),.j 26 25,.y 27 (.call (.f 241) [.t 23,.t 24,.t 26]),.y 28 (.load (some 7) (.t 2)),.y 29 (.load (some 5) (.t 3)),.y 30 (.aP 0 (.t 6)),.j 31 30,.c 32 241 [.t 28,.t 29,.t 31],.o 33 (.aE 1 3 [.int .i64 0] [(0,.t 22),(1,.t 27),(2,.t 32)]),.c 34 74 [.t 33],.m 4 34])))⟩
def fn158:ar:=⟨50,2,[],(.s [.p 3 1] (.s [.y 8 (.aP 2 (.t 3)),.j 9 8,.y 10 (.aS 1 (.t 9) .z),.j 11 10,.y 12 (.aP 2 (.t 3)),.j 13 12,.y 14 (.aS 1 (.t 13) .w),.j 15 14,.w 4 11,.m 5 15] (.s [.m 16 0,.o 17 (.bt (.t 16)),.a 18 3 17,.l 19 18,.n 20 19,.o 21 (.aF .z)] (.block 0 (.loop (.s [.u 22 .lss 21 20] (.seq (.i 22 .skip (.exit 0)) (.seq (.block 1 (.s [.m 23 21,.h 24 3 19 21,.r 25 3 24,.o 7 (.box (.c (.agg [.str [],.str [],.af]))),.m 6 23,.s 3 7 25] (.s [.a 26 2 7,.l 27 26,.m 28 4,.c 29 242 [.t 27,.t 28],.m 30 29,.g 31 30 true (.aP 2 (.t 7)),.g 32 30 true (.load none (.t 31)),.t 33 30 true 5,.g 34 30 true (.call (.f 242) [.t 32,.t 33]),.g 35 30 true (.un .not (.t 34)),.d 36 30 35] (.i 36 (.lC [.m 37 0,.o 38 (.bt (.t 37)),.a 39 3 38,.j 40 39,.m 41 6,.a 42 2 7,.j 43 42,.m 44 5,.o 45 (.aE 1 1 [.str []] [(0,.t 44)]),.o 46 (.app 1 16 (.t 43) (.t 45)),.h 47 3 40 41,.a 48 2 47,.s 1 48 46]) .skip)))) (.ops [.v 49 .add 21 .w,.m 21 49])))))))))⟩
def fn159:ar:=⟨36,2,[(4,none)],(.s [.p 2 0,.p 3 1,.o 4 (.aF .z)] (.s [.y 8 (.load (some 7) (.t 2)),.y 9 (.aP 2 (.t 3)),.j 10 9,.y 11 (.aS 1 (.t 10) .z),.j 12 11,.y 13 (.call (.f 205) [.t 8,.t 12]),.y 14 (.load (some 7) (.t 2)),.y 15 (.aP 2 (.t 3)),.j 16 15,.y 17 (.aS 1 (.t 16) .z),.j 18 17,.y 19 (.call (.f 206) [.t 14,.t 18]),.y 5 (.box (.c (.agg [.str [],.int .i64 0,.bool false]))),.s 3 5 13,.m 6 19] (.s [.m 20 6,.o 21 (.kQ (.func 244) [] [.t 2,.t 3]),.c 22 243 [.t 20,.t 21],.m 7 22] (.r [.y 23 (.aP 2 (.t 5)),.j 24 23,.y 25 (.call (.f 85) [.t 24,.n 23]),.w 26 6,.y 27 (.len .sl (.t 26)),.y 28 (.aP 1 (.t 5)),.j 29 28,.y 30 (.bin .lss (.t 27) (.t 29)),.y 31 (.call (.f 85) [.t 30,.n 16]),.w 32 7,.c 33 85 [.t 32,.n 30],.o 34 (.aE 1 3 [.int .i64 0] [(0,.t 25),(1,.t 31),(2,.t 33)]),.c 35 74 [.t 34],.m 4 35]))))⟩
def yB(x0 x1 x2 x3:Nat):ar:=⟨19,2,[],(.s [.p 3 1] (.ops [.w 4 0,.y 5 (.bt (.t 4)),.y 6 (.aP x0 (.t 5)),.j 7 6,.w 8 0,.y 9 (.bt (.t 8)),.y 10 (.aP x0 (.t 9)),.j 11 10,.y 12 (.aP 2 (.t 3)),.j 13 12,.y 14 (.aS 1 (.t 13) .z),.j 15 14,.y 16 (.call (.f x1) [.t 11,.t 15]),.h 17 x2 7 16,.a 18 x3 17,.x (.store 1 (.t 18) .T)]))⟩
def fn160:ar:=yB 1 142 3 2
def fn161:ar:=⟨10,2,[(4,none)],(.s [.p 2 0,.p 3 1,.o 4 (.aF .z)] (.r [.a 5 4 2,.l 6 5,.n 7 6,.v 8 .geq 7 (.n 32),.c 9 85 [.t 8,.n 5],.m 4 9]))⟩
def fn162:ar:=⟨22,2,[],(.s [.p 3 1] (.ops [.m 4 0,.m 5 0,.o 6 (.bt (.t 5)),.a 7 4 6,.l 8 7,.a 9 2 3,.l 10 9,.o 11 (.aS 1 (.t 10) .z),.l 12 11,.a 13 2 3,.l 14 13,.o 15 (.aS 1 (.t 14) .w),.l 16 15,.o 17 (.build [.str [],.str [],.str [],.af] [(0,1,.t 12),(1,1,(.c (.str [115,104,111,116,115]))),(2,1,.t 16)]),.o 18 (.aE 4 1 [.str [],.str [],.str [],.af] [(0,.t 17)]),.o 19 (.app 4 72 (.t 8) (.t 18)),.o 20 (.bt (.t 4)),.a 21 4 20,.s 1 21 19]))⟩
def fn163:ar:=⟨35,2,[(4,none)],(.s [.p 2 0,.p 3 1,.o 4 (.aF .z)] (.s [.a 6 3 3,.l 7 6,.o 8 (.aS 1 (.t 7) .w),.l 9 8,.m 5 9] (.seq (.s [.m 10 5,.v 11 .lss 10 .w,.m 12 11,.t 13 12 false 5,.g 14 12 false (.bin .gtr (.t 13) (.n 4)),.f 15 12 14] (.j 15 [.o 4 (.aF (.n 13))])) (.r [.y 16 (.load (some 7) (.t 2)),.y 17 (.aP 2 (.t 3)),.j 18 17,.y 19 (.aS 1 (.t 18) .w),.j 20 19,.y 21 (.call (.f 245) [.t 16,.t 20]),.y 22 (.part none 1 (.t 21)),.w 23 5,.y 24 (.bin .sub (.t 23) .w),.y 25 (.sj 4 2 (.g 0) (.t 24)),.y 26 (.sj 2 1 (.t 25) .z),.j 27 26,.y 28 (.bin .neq (.t 22) (.t 27)),.y 29 (.call (.f 85) [.t 28,.n 2]),.y 30 (.load (some 7) (.t 2)),.y 31 (.load (some 5) (.t 3)),.c 32 161 [.t 30,.t 31],.o 33 (.aE 1 2 [.int .i64 0] [(0,.t 29),(1,.t 32)]),.c 34 74 [.t 33],.m 4 34]))))⟩
def fn164:ar:=⟨30,2,[],(.s [.p 3 1] (.ops [.m 4 0,.m 5 0,.o 6 (.bt (.t 5)),.a 7 4 6,.l 8 7,.a 9 2 3,.l 10 9,.o 11 (.aS 1 (.t 10) .z),.l 12 11,.a 13 3 3,.l 14 13,.o 15 (.aS 1 (.t 14) .w),.l 16 15,.v 17 .sub 16 .w,.o 18 (.sj 4 2 (.g 0) (.t 17)),.o 19 (.sj 2 1 (.t 18) .w),.l 20 19,.a 21 2 3,.l 22 21,.o 23 (.sl 1 (.t 22) (some .w) none),.y 24 (.call (.f 177) [.t 23]),.o 25 (.build [.str [],.str [],.str [],.af] [(0,1,.t 12),(1,1,.t 20),(3,1,.t 24)]),.o 26 (.aE 4 1 [.str [],.str [],.str [],.af] [(0,.t 25)]),.o 27 (.app 4 72 (.t 8) (.t 26)),.o 28 (.bt (.t 4)),.a 29 4 28,.s 1 29 27]))⟩
def fn165:ar:=⟨36,2,[(4,none)],(.s [.p 2 0,.p 3 1,.o 4 (.aF .z)] (.r [.y 5 (.aP 2 (.t 3)),.j 6 5,.y 7 (.aS 1 (.t 6) .w),.j 8 7,.y 9 (.aP 2 (.t 3)),.j 10 9,.y 11 (.aS 1 (.t 10) (.n 2)),.j 12 11,.y 13 (.bin .eql (.t 8) (.t 12)),.y 14 (.call (.f 85) [.t 13,.n 24]),.y 15 (.load (some 7) (.t 2)),.y 16 (.aP 2 (.t 3)),.j 17 16,.y 18 (.aS 1 (.t 17) .w),.j 19 18,.y 20 (.call (.f 245) [.t 15,.t 19]),.y 21 (.part none 1 (.t 20)),.y 22 (.load (some 7) (.t 2)),.y 23 (.aP 2 (.t 3)),.j 24 23,.y 25 (.aS 1 (.t 24) (.n 2)),.j 26 25,.y 27 (.call (.f 245) [.t 22,.t 26]),.y 28 (.part none 1 (.t 27)),.y 29 (.bin .neq (.t 21) (.t 28)),.y 30 (.call (.f 85) [.t 29,.n 2]),.y 31 (.load (some 7) (.t 2)),.y 32 (.load (some 5) (.t 3)),.c 33 161 [.t 31,.t 32],.o 34 (.aE 1 3 [.int .i64 0] [(0,.t 14),(1,.t 30),(2,.t 33)]),.c 35 74 [.t 34],.m 4 35]))⟩
def fn166:ar:=⟨31,2,[],(.s [.p 3 1] (.ops [.m 4 0,.m 5 0,.o 6 (.bt (.t 5)),.a 7 4 6,.l 8 7,.a 9 2 3,.l 10 9,.o 11 (.aS 1 (.t 10) .z),.l 12 11,.m 13 0,.o 14 (.bt (.t 13)),.r 15 7 14,.a 16 2 3,.l 17 16,.o 18 (.aS 1 (.t 17) .w),.l 19 18,.y 20 (.call (.f 245) [.t 15,.t 19]),.o 21 (.part none 1 (.t 20)),.a 22 2 3,.l 23 22,.o 24 (.sl 1 (.t 23) (some .w) none),.y 25 (.call (.f 177) [.t 24]),.o 26 (.build [.str [],.str [],.str [],.af] [(0,1,.t 12),(1,1,.t 21),(3,1,.t 25)]),.o 27 (.aE 4 1 [.str [],.str [],.str [],.af] [(0,.t 26)]),.o 28 (.app 4 72 (.t 8) (.t 27)),.o 29 (.bt (.t 4)),.a 30 4 29,.s 1 30 28]))⟩
def fn167:ar:=⟨27,2,[(4,none)],(.s [.p 2 0,.p 3 1,.o 4 (.aF .z)] (.s [.y 6 (.load (some 7) (.t 2)),.y 7 (.aP 2 (.t 3)),.j 8 7,.y 9 (.aS 1 (.t 8) .w),.j 10 9,.c 11 122 [.t 6,.t 10],.c 12 246 [.t 11,(.f 247)],.m 5 12] (.r [.w 13 5,.y 14 (.call (.f 85) [.t 13,.n 32]),.y 15 (.aP 3 (.t 3)),.j 16 15,.y 17 (.aS 1 (.t 16) .w),.j 18 17,.y 19 (.call (.f 94) [.t 18,.w,.n 32]),.y 20 (.aP 5 (.t 2)),.j 21 20,.y 22 (.len .sl (.t 21)),.y 23 (.bin .geq (.t 22) (.n 16)),.c 24 85 [.t 23,.n 5],.o 25 (.aE 1 3 [.int .i64 0] [(0,.t 14),(1,.t 19),(2,.t 24)]),.c 26 74 [.t 25],.m 4 26])))⟩
def fn168:ar:=⟨28,2,[],(.s [.p 3 1] (.ops [.m 4 0,.m 5 0,.o 6 (.bt (.t 5)),.a 7 5 6,.l 8 7,.a 9 2 3,.l 10 9,.o 11 (.aS 1 (.t 10) .z),.l 12 11,.a 13 2 3,.l 14 13,.o 15 (.aS 1 (.t 14) .w),.l 16 15,.o 17 (.aE 1 1 [.int .i64 0] [(0,(.n (-1)))]),.a 18 3 3,.l 19 18,.o 20 (.aS 1 (.t 19) .w),.l 21 20,.y 22 (.call (.f 248) [.t 17,.t 21]),.o 23 (.build [.str [],.str [],.af] [(0,1,.t 12),(1,1,.t 16),(2,1,.t 22)]),.o 24 (.aE 3 1 [.str [],.str [],.af] [(0,.t 23)]),.o 25 (.app 3 56 (.t 8) (.t 24)),.o 26 (.bt (.t 4)),.a 27 5 26,.s 1 27 25]))⟩
def fn169:ar:=⟨27,2,[(4,none)],(.s [.p 2 0,.p 3 1,.o 4 (.aF .z)] (.seq (.s [.r 6 7 2,.r 7 5 3,.c 8 249 [.t 6,.t 7],.m 5 8] (.s [.m 9 5,.v 10 .neq 9 .z] (.j 10 [.m 11 5,.m 4 11]))) (.r [.y 12 (.load (some 7) (.t 2)),.y 13 (.aP 2 (.t 3)),.j 14 13,.y 15 (.aS 1 (.t 14) .z),.j 16 15,.y 17 (.call (.f 124) [.t 12,.t 16]),.y 18 (.part none 2 (.t 17)),.y 19 (.aP 3 (.t 3)),.j 20 19,.y 21 (.aS 1 (.t 20) .w),.j 22 21,.h 23 1 18 22,.l 24 23,.v 25 .neq 24 (.n (-1)),.c 26 85 [.t 25,.n 9],.m 4 26])))⟩
def fn170:ar:=⟨11,2,[],(.s [.p 3 1] (.ops [.w 4 0,.y 5 (.load (some 5) (.t 3)),.y 6 (.aP 3 (.t 3)),.j 7 6,.y 8 (.aS 1 (.t 7) (.n 2)),.j 9 8,.c 10 250 [.t 4,.t 5,.t 9]]))⟩
def fn171:ar:=⟨27,2,[(4,none)],(.s [.p 2 0,.p 3 1,.o 4 (.aF .z)] (.seq (.s [.r 6 7 2,.r 7 5 3,.c 8 249 [.t 6,.t 7],.m 5 8] (.s [.m 9 5,.v 10 .neq 9 .z] (.j 10 [.m 11 5,.m 4 11]))) (.r [.y 12 (.load (some 7) (.t 2)),.y 13 (.aP 2 (.t 3)),.j 14 13,.y 15 (.aS 1 (.t 14) .z),.j 16 15,.y 17 (.call (.f 124) [.t 12,.t 16]),.y 18 (.part none 2 (.t 17)),.y 19 (.aP 3 (.t 3)),.j 20 19,.y 21 (.aS 1 (.t 20) .w),.j 22 21,.h 23 1 18 22,.l 24 23,.v 25 .eql 24 (.n (-1)),.c 26 85 [.t 25,.n 7],.m 4 26])))⟩
def fn172:ar:=⟨7,2,[],(.s [.p 3 1] (.ops [.m 4 0,.r 5 5 3,.c 6 250 [.t 4,.t 5,.n (-1)]]))⟩
def fn173:ar:=⟨31,2,[(4,none)],(.s [.p 2 0,.p 3 1,.o 4 (.aF .z)] (.s [.y 6 (.load (some 7) (.t 2)),.y 7 (.aP 2 (.t 3)),.j 8 7,.y 9 (.aS 1 (.t 8) .w),.j 10 9,.c 11 124 [.t 6,.t 10],.c 12 125 [.t 11],.m 5 12] (.r [.y 13 (.load (some 7) (.t 2)),.y 14 (.aP 2 (.t 3)),.j 15 14,.y 16 (.aS 1 (.t 15) .w),.j 17 16,.y 18 (.call (.f 251) [.t 13,.t 17]),.y 19 (.call (.f 85) [.t 18,.n 23]),.w 20 5,.y 21 (.len .sl (.t 20)),.y 22 (.bin .gtr (.t 21) .z),.y 23 (.call (.f 85) [.t 22,.n 32]),.y 24 (.aP 6 (.t 2)),.j 25 24,.y 26 (.len .sl (.t 25)),.y 27 (.bin .geq (.t 26) (.n 16)),.c 28 85 [.t 27,.n 5],.o 29 (.aE 1 3 [.int .i64 0] [(0,.t 19),(1,.t 23),(2,.t 28)]),.c 30 74 [.t 29],.m 4 30])))⟩
def fn174:ar:=⟨32,2,[],(.s [.p 3 1] (.ops [.m 4 0,.m 5 0,.o 6 (.bt (.t 5)),.a 7 6 6,.l 8 7,.a 9 2 3,.l 10 9,.o 11 (.aS 1 (.t 10) .z),.l 12 11,.a 13 2 3,.l 14 13,.o 15 (.aS 1 (.t 14) .w),.l 16 15,.m 17 0,.o 18 (.bt (.t 17)),.r 19 7 18,.a 20 2 3,.l 21 20,.o 22 (.aS 1 (.t 21) .w),.l 23 22,.y 24 (.call (.f 124) [.t 19,.t 23]),.o 25 (.part none 2 (.t 24)),.y 26 (.call (.f 95) [.t 25]),.o 27 (.build [.str [],.str [],.int .i64 0,.bool false] [(0,1,.t 12),(1,1,.t 16),(2,1,.t 26)]),.o 28 (.aE 4 1 [.str [],.str [],.int .i64 0,.bool false] [(0,.t 27)]),.o 29 (.app 4 48 (.t 8) (.t 28)),.o 30 (.bt (.t 4)),.a 31 6 30,.s 1 31 29]))⟩
def fn175:ar:=⟨13,2,[(4,none)],(.s [.p 2 0,.p 3 1,.o 4 (.aF .z)] (.r [.y 5 (.load (some 7) (.t 2)),.y 6 (.aP 2 (.t 3)),.j 7 6,.y 8 (.aS 1 (.t 7) .z),.j 9 8,.c 10 218 [.t 5,.t 9],.o 11 (.part none 3 (.t 10)),.c 12 85 [.t 11,.n 23],.m 4 12]))⟩
def fn176:ar:=yB 6 146 4 3
def fn177:ar:=⟨8,1,[(2,none)],(.s [.o 2 (.aF (.c .af))] (.seq (.s [.m 3 0,.o 4 (.eqv false .xY (.t 3) (.c .af))] (.j 4 [.o 2 (.aF (.c .af))])) (.r [.o 5 (.aE 1 0 [.str []] []),.m 6 0,.o 7 (.app 1 16 (.t 5) (.t 6)),.m 2 7])))⟩
def fn178:ar:=⟨8,1,[(2,none)],(.s [.o 2 (.aF (.c .af))] (.seq (.s [.m 3 0,.o 4 (.eqv false .xY (.t 3) (.c .af))] (.j 4 [.o 2 (.aF (.c .af))])) (.r [.o 5 (.aE 1 0 [.int .i64 0] []),.m 6 0,.o 7 (.app 1 8 (.t 5) (.t 6)),.m 2 7])))⟩
def fn179:ar:=⟨8,1,[(2,none)],(.s [.o 2 (.aF (.c .af))] (.seq (.s [.m 3 0,.o 4 (.eqv false .xY (.t 3) (.c .af))] (.j 4 [.o 2 (.aF (.c .af))])) (.r [.o 5 (.aE 2 0 [.str [],.int .i64 0] []),.m 6 0,.o 7 (.app 2 24 (.t 5) (.t 6)),.m 2 7])))⟩
def yA:ar:=⟨22,2,[(4,none)],(.s [.o 4 (.aF (.c .af))] (.s [.o 5 (.aF (.c .af))] (.seq (.s [.m 8 0,.n 9 8,.o 10 (.aF .z)] (.block 0 (.loop (.s [.u 11 .lss 10 9] (.seq (.i 11 .skip (.exit 0)) (.seq (.block 1 (.s [.h 12 3 8 10,.r 13 3 12,.o 7 (.box (.c (.agg [.str [],.str [],.af]))),.s 3 7 13] (.ops [.m 14 5,.m 15 1,.r 16 3 7,.o 17 (.call (.t 15) [.t 16]),.o 18 (.aE 3 1 [.str [],.str [],.af] [(0,.t 17)]),.o 19 (.app 3 56 (.t 14) (.t 18)),.m 5 19]))) (.ops [.v 20 .add 10 .w,.m 10 20]))))))) (.r [.m 21 5,.m 4 21]))))⟩
def fn180:ar:=yA
def yz(x0:Nat):ar:=⟨8,1,[(2,some (some 3))],(.s [.p 1 0,.o 2 (.box (.c (.agg [.str [],.str [],.af])))] (.s [.a 3 2 1,.l 4 3,.c 5 x0 [.t 4],.a 6 2 1,.s 1 6 5] (.r [.r 7 3 1,.s 3 2 7])))⟩
def fn181:ar:=yz 177
def fn182:ar:=⟨22,2,[(4,none)],(.s [.o 4 (.aF (.c .af))] (.s [.o 5 (.aF (.c .af))] (.seq (.s [.m 8 0,.n 9 8,.o 10 (.aF .z)] (.block 0 (.loop (.s [.u 11 .lss 10 9] (.seq (.i 11 .skip (.exit 0)) (.seq (.block 1 (.s [.h 12 4 8 10,.r 13 4 12,.o 7 (.box (.c (.agg [.str [],.str [],.str [],.af]))),.s 4 7 13] (.ops [.m 14 5,.m 15 1,.r 16 4 7,.o 17 (.call (.t 15) [.t 16]),.o 18 (.aE 4 1 [.str [],.str [],.str [],.af] [(0,.t 17)]),.o 19 (.app 4 72 (.t 14) (.t 18)),.m 5 19]))) (.ops [.v 20 .add 10 .w,.m 10 20]))))))) (.r [.m 21 5,.m 4 21]))))⟩
def fn183:ar:=⟨8,1,[(2,some (some 4))],(.s [.p 1 0,.o 2 (.box (.c (.agg [.str [],.str [],.str [],.af])))] (.s [.a 3 3 1,.l 4 3,.c 5 177 [.t 4],.a 6 3 1,.s 1 6 5] (.r [.r 7 4 1,.s 4 2 7])))⟩
def fn184:ar:=yA
def fn185:ar:=yz 178
def fn186:ar:=⟨19,1,[(2,none)],(.s [.p 1 0,.o 2 (.aF (.c (.str [])))] (.s [.y 4 (.aP 0 (.t 1)),.j 5 4,.y 6 (.call (.f 113) [.t 5]),.y 7 (.aP 1 (.t 1)),.j 8 7,.y 9 (.aE 1 2 [.str []] [(0,.t 6),(1,.t 8)]),.y 10 (.aP 2 (.t 1)),.j 11 10,.o 12 (.app 1 16 (.t 9) (.t 11)),.m 3 12] (.r [.m 13 3,.a 14 3 1,.l 15 14,.c 16 199 [.t 15,(.f 113)],.o 17 (.app 1 16 (.t 13) (.t 16)),.o 18 (.call (.f 114) [.t 17,(.c (.str [32]))]),.m 2 18])))⟩
def fn187:ar:=⟨28,1,[(2,none)],(.s [.o 2 (.aF (.c (.str [])))] (.s [.o 3 (.aF .w)] (.seq (.s [.m 6 0,.o 7 (.len .st (.t 6)),.o 8 (.aF .z)] (.block 0 (.loop (.s [.u 9 .lss 8 7] (.seq (.i 9 .skip (.exit 0)) (.seq (.block 1 (.s [.m 10 8,.m 4 10] (.ops [.m 11 3,.b 12 .mul (.n 339) (.t 11),.m 13 0,.m 14 4,.o 15 (.qe (.t 13) (.t 14)),.o 16 (.conv (.uc .i64) (.t 15)),.u 17 .add 12 16,.v 18 .rem 17 (.n 9999749),.m 3 18]))) (.ops [.v 19 .add 8 .w,.m 8 19]))))))) (.s [.m 20 3,.c 21 113 [.t 20],.m 5 21] (.r [.m 22 5,.o 23 (.len .st (.t 22)),.b 24 .sub (.n 7) (.t 23),.o 25 (.call (.f 252) [(.c (.str [48])),.t 24]),.m 26 5,.u 27 .add 25 26,.m 2 27])))))⟩
def fn188:ar:=⟨23,2,[(4,none),(5,none),(6,none)],(.s [.o 4 (.aF (.c (.str []))),.o 5 (.aF (.c (.str []))),.o 6 (.aF .F)] (.seq (.s [.m 8 0,.m 9 1,.c 10 253 [.t 8,.t 9],.m 7 10] (.s [.m 11 7,.v 12 .geq 11 .z] (.j 12 [.w 13 0,.w 14 7,.y 15 (.pL (.t 13) none (some (.t 14))),.w 16 0,.w 17 7,.w 18 1,.y 19 (.len .st (.t 18)),.y 20 (.bin .add (.t 17) (.t 19)),.y 21 (.pL (.t 16) (some (.t 20)) none),.w 4 15,.m 5 21,.o 6 (.aF .T)]))) (.r [.m 22 0,.m 4 22,.o 5 (.aF (.c (.str []))),.o 6 (.aF .F)])))⟩
def fn189:ar:=⟨18,1,[(2,none)],(.s [.o 2 (.aF .F)] (.seq (.s [.m 5 0,.o 6 (.xD (.t 5))] (.block 0 (.loop (.s [.o 7 (.nS (.t 6)),.e 8 7 0] (.seq (.i 8 .skip (.exit 0)) (.block 1 (.s [.e 9 7 2,.m 4 9] (.s [.m 10 4,.v 11 .lss 10 (.c (.int .i32 48)),.m 12 11,.t 13 12 false 4,.g 14 12 false (.bin .gtr (.t 13) (.c (.int .i32 57))),.f 15 12 14] (.j 15 [.o 2 (.aF .F)]))))))))) (.r [.m 16 0,.v 17 .neq 16 (.c (.str [])),.m 2 17])))⟩
def fn190:ar:=⟨30,1,[(2,none),(3,none)],(.s [.o 2 (.aF .z),.o 3 (.aF .F)] (.seq (.s [.m 6 0,.c 7 189 [.t 6],.o 8 (.un .not (.t 7)),.m 9 8,.t 10 9 false 0,.g 11 9 false (.len .st (.t 10)),.g 12 9 false (.bin .gtr (.t 11) (.n 9)),.f 13 9 12,.m 14 13,.t 15 14 false 0,.g 16 14 false (.len .st (.t 15)),.g 17 14 false (.bin .gtr (.t 16) .w),.t 18 14 false 17,.t 19 18 true 0,.g 20 18 true (.qe (.t 19) .z),.g 21 18 true (.bin .eql (.t 20) (.c (.int .u8 48))),.g 22 14 false (.pick (.t 18) (.t 21) .F),.f 23 14 22] (.j 23 [.o 2 (.aF .z),.o 3 (.aF .F)])) (.s [.m 25 0,.c 26 254 [.t 25],.m 24 26,.e 27 24 0,.e 28 24 1,.m 4 27,.m 5 28] (.r [.m 29 4,.m 2 29,.o 3 (.aF .T)]))))⟩
def fn193:ar:=⟨17,1,[(2,none)],(.s [.o 2 (.aF .F)] (.r [.m 3 0,.b 4 .leq (.c (.int .u8 65)) (.t 3),.m 5 4,.t 6 5 true 0,.g 7 5 true (.bin .leq (.t 6) (.c (.int .u8 90))),.d 8 5 7,.m 9 8,.t 10 9 false 0,.g 11 9 false (.bin .leq (.c (.int .u8 97)) (.t 10)),.t 12 9 false 11,.t 13 12 true 0,.g 14 12 true (.bin .leq (.t 13) (.c (.int .u8 122))),.g 15 9 false (.pick (.t 12) (.t 14) .F),.f 16 9 15,.m 2 16]))⟩
def fn194:ar:=⟨9,1,[(2,none)],(.s [.o 2 (.aF .F)] (.r [.m 3 0,.b 4 .leq (.c (.int .u8 48)) (.t 3),.m 5 4,.t 6 5 true 0,.g 7 5 true (.bin .leq (.t 6) (.c (.int .u8 57))),.d 8 5 7,.m 2 8]))⟩
def fn195:ar:=⟨36,3,[(6,none)],(.s [.p 3 0,.o 6 (.aF .z)] (.seq (.s [.m 7 1] (.block 0 (.s [.v 9 .eql 7 (.c (.int .u8 108)),.m 8 9] (.i 8 (.r [.r 10 7 3,.m 11 2,.c 12 28 [.t 10,.t 11],.m 6 12]) (.s [.v 14 .eql 7 (.c (.int .u8 116)),.m 13 14] (.i 13 (.r [.r 15 7 3,.m 16 2,.c 17 141 [.t 15,.t 16],.m 6 17]) (.s [.v 19 .eql 7 (.c (.int .u8 115)),.m 18 19] (.i 18 (.r [.r 20 7 3,.m 21 2,.c 22 22 [.t 20,.t 21],.m 6 22]) (.s [.v 24 .eql 7 (.c (.int .u8 109)),.m 23 24] (.i 23 (.r [.r 25 7 3,.m 26 2,.c 27 55 [.t 25,.t 26],.m 6 27]) (.s [.v 29 .eql 7 (.c (.int .u8 106)),.m 28 29] (.j 28 [.r 30 7 3,.m 31 2,.c 32 56 [.t 30,.t 31],.m 6 32])))))))))))) (.r [.r 33 7 3,.m 34 2,.c 35 57 [.t 33,.t 34],.m 6 35])))⟩
def fn197:ar:=⟨36,1,[(2,none)],(.s [.o 2 (.aF (.c (.str [])))] (.seq (.s [.m 3 0,.v 4 .lss 3 .z] (.i 4 (.seq (.s [.m 5 0,.v 6 .gtr 5 (.n (-10))] (.j 6 [.m 7 0,.b 8 .sub .z (.t 7),.c 9 197 [.t 8],.b 10 .add (.c (.str [45])) (.t 9),.m 2 10])) (.r [.m 11 0,.v 12 .quo 11 (.n 10),.c 13 197 [.t 12],.m 14 0,.v 15 .rem 14 (.n 10),.b 16 .sub .z (.t 15),.c 17 197 [.t 16],.u 18 .add 13 17,.m 2 18])) .skip)) (.seq (.s [.m 19 0,.v 20 .lss 19 (.n 10)] (.j 20 [.m 21 0,.b 22 .add (.n 48) (.t 21),.o 23 (.conv (.uc .u8) (.t 22)),.o 24 (.aE 1 1 [.int .u8 0] [(0,.t 23)]),.o 25 (.conv .I8 (.t 24)),.m 2 25])) (.r [.w 26 0,.y 27 (.bin .quo (.t 26) (.n 10)),.y 28 (.call (.f 197) [.t 27]),.w 29 0,.y 30 (.bin .rem (.t 29) (.n 10)),.y 31 (.bin .add (.n 48) (.t 30)),.y 32 (.conv (.uc .u8) (.t 31)),.y 33 (.aE 1 1 [.int .u8 0] [(0,.t 32)]),.y 34 (.conv .I8 (.t 33)),.u 35 .add 28 34,.m 2 35]))))⟩
def fn198:ar:=⟨10,2,[(4,none)],(.s [.p 2 0,.o 4 (.aF (.c .af))] (.r [.r 5 7 2,.m 6 1,.c 7 124 [.t 5,.t 6],.c 8 125 [.t 7],.c 9 199 [.t 8,(.f 113)],.m 4 9]))⟩
def fn199:ar:=⟨22,2,[(4,none)],(.s [.o 4 (.aF (.c .af))] (.s [.o 5 (.aF (.c .af))] (.seq (.s [.m 8 0,.n 9 8,.o 10 (.aF .z)] (.block 0 (.loop (.s [.u 11 .lss 10 9] (.seq (.i 11 .skip (.exit 0)) (.seq (.block 1 (.s [.h 12 1 8 10,.l 13 12,.m 7 13] (.ops [.m 14 5,.m 15 1,.m 16 7,.o 17 (.call (.t 15) [.t 16]),.o 18 (.aE 1 1 [.str []] [(0,.t 17)]),.o 19 (.app 1 16 (.t 14) (.t 18)),.m 5 19]))) (.ops [.v 20 .add 10 .w,.m 10 20]))))))) (.r [.m 21 5,.m 4 21]))))⟩
def fn200:ar:=⟨9,2,[(4,none)],(.s [.p 2 0,.o 4 (.aF (.c .af))] (.r [.r 5 7 2,.m 6 1,.c 7 122 [.t 5,.t 6],.c 8 121 [.t 7,(.f 123)],.m 4 8]))⟩
def fn201:ar:=⟨9,2,[(4,none)],(.s [.p 2 0,.o 4 (.aF (.c .af))] (.r [.r 5 7 2,.a 6 0 2,.l 7 6,.c 8 80 [.t 5,.t 7],.m 4 8]))⟩
def fn202:ar:=⟨9,2,[(4,none)],(.s [.p 2 0,.o 4 (.aF (.c .af))] (.r [.r 5 7 2,.m 6 1,.c 7 77 [.t 5,.t 6],.o 8 (.part none 2 (.t 7)),.m 4 8]))⟩
def fn203:ar:=⟨27,2,[(4,none)],(.s [.p 2 0,.o 4 (.aF (.c .af))] (.s [.o 5 (.aF (.c .af))] (.seq (.s [.a 8 6 2,.l 9 8,.n 10 9,.o 11 (.aF .z)] (.block 0 (.loop (.s [.u 12 .lss 11 10] (.seq (.i 12 .skip (.exit 0)) (.seq (.block 1 (.s [.h 13 4 9 11,.r 14 4 13,.o 7 (.box (.c (.agg [.str [],.str [],.int .i64 0,.bool false]))),.s 4 7 14] (.s [.a 15 3 7,.l 16 15] (.i 16 (.ops [.w 17 5,.y 18 (.aP 0 (.t 7)),.j 19 18,.y 20 (.aP 2 (.t 7)),.j 21 20,.y 22 (.call (.f 113) [.t 21]),.y 23 (.aE 1 2 [.str []] [(0,.t 19),(1,.t 22)]),.o 24 (.app 1 16 (.t 17) (.t 23)),.m 5 24]) .skip)))) (.ops [.v 25 .add 11 .w,.m 11 25]))))))) (.r [.m 26 5,.m 4 26]))))⟩
def fn204:ar:=⟨22,2,[(4,none)],(.s [.p 2 0,.o 4 (.aF (.c .af))] (.s [.r 7 7 2,.m 8 1,.c 9 205 [.t 7,.t 8],.o 5 (.box (.c (.agg [.str [],.int .i64 0,.bool false]))),.s 3 5 9,.o 6 (.aF (.c (.str [111,112,101,110])))] (.seq (.s [.a 10 2 5,.l 11 10] (.i 11 (.ops [.o 6 (.aF (.c (.str [97,99,99,101,112,116,101,100])))]) .skip)) (.r [.y 12 (.load (some 7) (.t 2)),.w 13 1,.y 14 (.call (.f 206) [.t 12,.t 13]),.y 15 (.len .sl (.t 14)),.y 16 (.call (.f 113) [.t 15]),.y 17 (.aP 1 (.t 5)),.j 18 17,.y 19 (.call (.f 113) [.t 18]),.w 20 6,.o 21 (.aE 1 3 [.str []] [(0,.t 16),(1,.t 19),(2,.t 20)]),.m 4 21]))))⟩
def fn205:ar:=⟨13,2,[(4,some (some 3))],(.s [.p 2 0,.o 4 (.box (.c (.agg [.str [],.int .i64 0,.bool false])))] (.r [.y 5 (.aP 1 (.t 2)),.j 6 5,.y 7 (.aP 1 (.t 2)),.j 8 7,.w 9 1,.y 10 (.call (.f 142) [.t 8,.t 9]),.h 11 3 6 10,.r 12 3 11,.s 3 4 12]))⟩
def fn206:ar:=⟨9,2,[(4,none)],(.s [.p 2 0,.p 3 1,.o 4 (.aF (.c .af))] (.r [.a 5 3 2,.l 6 5,.o 7 (.kQ (.func 255) [] [.t 3]),.c 8 138 [.t 6,.t 7],.m 4 8]))⟩
def fn207:ar:=⟨40,1,[(2,none)],(.s [.o 2 (.aF (.c (.str [])))] (.seq (.s [.m 4 0,.o 5 (.bt (.t 4)),.a 6 0 5,.l 7 6,.n 8 7,.v 9 .eql 8 .z,.m 10 9,.t 11 10 false 0,.g 12 10 false (.bt (.t 11)),.g 13 10 false (.aP 0 (.t 12)),.g 14 10 false (.load none (.t 13)),.g 15 10 false (.aS 1 (.t 14) .z),.g 16 10 false (.load none (.t 15)),.g 17 10 false (.bin .eql (.t 16) (.c (.str []))),.f 18 10 17] (.i 18 (.s [.m 19 0,.m 20 0,.o 21 (.bt (.t 19)),.a 22 0 21,.x (.store 1 (.t 22) (.c .af)),.o 23 (.bt (.t 20)),.a 24 1 23,.x (.store 1 (.t 24) .T)] (.r [.o 2 (.aF (.c (.str [])))])) .skip)) (.s [.m 25 0,.o 26 (.bt (.t 25)),.a 27 0 26,.l 28 27,.o 29 (.aS 1 (.t 28) .z),.l 30 29,.m 3 30] (.s [.m 31 0,.m 32 0,.o 33 (.bt (.t 32)),.a 34 0 33,.l 35 34,.o 36 (.sl 1 (.t 35) (some .w) none),.o 37 (.bt (.t 31)),.a 38 0 37,.s 1 38 36] (.r [.m 39 3,.m 2 39])))))⟩
def fn208:ar:=⟨23,1,[(2,none)],(.s [.o 2 (.aF .z)] (.s [.m 6 0,.c 7 207 [.t 6],.c 8 190 [.t 7],.m 5 8,.e 9 5 0,.e 10 5 1,.m 3 9,.m 4 10] (.s [.m 11 0,.m 12 0,.o 13 (.bt (.t 12)),.a 14 1 13,.l 15 14,.m 16 15,.t 17 16 false 4,.g 18 16 false (.un .not (.t 17)),.f 19 16 18,.o 20 (.bt (.t 11)),.a 21 1 20,.s 1 21 19] (.r [.m 22 3,.m 2 22]))))⟩
def fn213:ar:=⟨13,2,[(4,none)],(.s [.p 2 0,.o 4 (.aF (.c .af))] (.seq (.s [.m 6 1] (.block 0 (.eJ (.t 6) [7] (.ops [.o 5 (.box (.c (.agg [.str [],.str [],.str [],.af]))),.s 4 5 7]) (.block 1 (.ops [.l 8 2,.r 9 4 5,.o 10 (.aE 4 1 [.str [],.str [],.str [],.af] [(0,.t 9)]),.o 11 (.app 4 72 (.t 8) (.t 10)),.s 1 2 11]))))) (.r [.l 12 2,.m 4 12])))⟩
def fn214:ar:=⟨56,1,[],(.s [.o 11 (.lE),.l 12 1,.x (.fj .s (.t 11) (.t 12) .T),.m 13 11,.o 4 (.box (.c .cQ)),.s 1 4 13] (.seq (.s [.a 14 4 2,.l 15 14,.c 16 215 [.t 15]] (.block 0 (.eJ (.t 16) [17,18] (.ops [.o 6 (.box (.c (.agg [.str [],.str [],.str [],.af]))),.s 4 6 18]) (.block 1 (.s [.a 19 3 6,.l 20 19,.n 21 20,.o 22 (.aF .z)] (.block 2 (.loop (.s [.u 23 .lss 22 21] (.seq (.i 23 .skip (.exit 2)) (.seq (.block 3 (.s [.h 24 1 20 22,.l 25 24,.m 8 25] (.ops [.l 26 4,.m 27 8,.l 28 4,.m 29 8,.o 30 (.look .s (.bool false) false (.t 28) (.t 29)),.m 31 30,.g 32 31 false (.load none (.t 4)),.g 33 31 false (.aP 0 (.t 6)),.g 34 31 false (.load none (.t 33)),.g 35 31 false (.look .s (.bool false) false (.t 32) (.t 34)),.f 36 31 35,.x (.fj .s (.t 26) (.t 27) (.t 36))]))) (.ops [.v 37 .add 22 .w,.m 22 37]))))))))))) (.s [.a 38 4 2,.l 39 38,.n 40 39,.o 41 (.aF .z)] (.block 4 (.loop (.s [.u 42 .lss 41 40] (.seq (.i 42 .skip (.exit 4)) (.seq (.block 5 (.s [.h 43 4 39 41,.r 44 4 43,.o 10 (.box (.c (.agg [.str [],.str [],.str [],.af]))),.s 4 10 44] (.s [.l 45 4,.a 46 0 10,.l 47 46,.o 48 (.look .s (.bool false) false (.t 45) (.t 47)),.m 49 48,.t 50 49 true 0,.g 51 49 true (.load (some 4) (.t 10)),.g 52 49 true (.call (.t 50) [.t 51]),.g 53 49 true (.un .not (.t 52)),.d 54 49 53] (.i 54 .ret .skip)))) (.ops [.v 55 .add 41 .w,.m 41 55])))))))))⟩
def fn215:ar:=yC 259
def fn216:ar:=⟨23,2,[(4,none)],(.s [.o 4 (.aF (.c .af))] (.s [.o 5 (.aF (.c .af))] (.seq (.s [.m 8 0,.n 9 8,.o 10 (.aF .z)] (.block 0 (.loop (.s [.u 11 .lss 10 9] (.seq (.i 11 .skip (.exit 0)) (.seq (.block 1 (.s [.h 12 3 8 10,.r 13 3 12,.o 7 (.box (.c (.agg [.str [],.int .i64 0,.bool false]))),.s 3 7 13] (.s [.m 14 1,.r 15 3 7,.o 16 (.call (.t 14) [.t 15])] (.i 16 (.ops [.m 17 5,.r 18 3 7,.o 19 (.aE 3 1 [.str [],.int .i64 0,.bool false] [(0,.t 18)]),.o 20 (.app 3 32 (.t 17) (.t 19)),.m 5 20]) .skip)))) (.ops [.v 21 .add 10 .w,.m 10 21]))))))) (.r [.m 22 5,.m 4 22]))))⟩
def fn217:ar:=⟨8,1,[(3,none)],(.s [.p 2 0,.o 3 (.aF .F)] (.r [.l 4 1,.a 5 0 2,.l 6 5,.o 7 (.look .s (.bool false) false (.t 4) (.t 6)),.m 3 7]))⟩
def fn218:ar:=⟨13,2,[(4,some (some 4))],(.s [.p 2 0,.o 4 (.box (.c (.agg [.str [],.str [],.int .i64 0,.bool false])))] (.r [.y 5 (.aP 6 (.t 2)),.j 6 5,.y 7 (.aP 6 (.t 2)),.j 8 7,.w 9 1,.y 10 (.call (.f 146) [.t 8,.t 9]),.h 11 4 6 10,.r 12 4 11,.s 4 4 12]))⟩
def fn219:ar:=⟨9,1,[(3,none)],(.s [.p 2 0,.o 3 (.aF .F)] (.r [.l 4 1,.a 5 1 2,.l 6 5,.c 7 142 [.t 4,.t 6],.v 8 .geq 7 .z,.m 3 8]))⟩
def fn221:ar:=⟨34,2,[(4,none)],(.s [.o 4 (.aF .z)] (.seq (.s [.m 7 1,.o 8 (.len .st (.t 7)),.v 9 .eql 8 .z] (.j 9 [.m 10 0,.c 11 260 [.t 10],.v 12 .add 11 .w,.m 4 12])) (.seq (.s [.m 13 1,.o 14 (.len .st (.t 13)),.v 15 .eql 14 .w] (.j 15 [.m 16 0,.m 17 1,.o 18 (.qe (.t 17) .z),.c 19 262 [.t 16,.t 18],.m 4 19])) (.s [.o 5 (.aF .z)] (.block 0 (.loop (.block 1 (.s [.m 20 0,.m 21 1,.c 22 222 [.t 20,.t 21],.m 6 22] (.seq (.s [.m 23 6,.v 24 .eql 23 (.n (-1))] (.j 24 [.m 25 5,.m 4 25])) (.s [.m 26 5,.v 27 .add 26 .w,.m 5 27] (.ops [.m 28 0,.m 29 6,.m 30 1,.o 31 (.len .st (.t 30)),.u 32 .add 29 31,.o 33 (.pL (.t 28) (some (.t 32)) none),.m 0 33])))))))))))⟩
def fn222:ar:=zC 253
def fn223:ar:=⟨55,2,[(4,none)],(.s [.p 2 0,.p 3 1,.o 4 (.aF .z)] (.s [.a 7 1 3,.l 8 7,.c 9 101 [.t 8],.o 10 (.part none 0 (.t 9)),.m 5 10] (.seq (.s [.o 6 (.aF .z)] (.block 0 (.loop (.seq (.s [.m 11 6,.m 12 5,.o 13 (.len .st (.t 12)),.u 14 .lss 11 13] (.i 14 .skip (.exit 0))) (.seq (.block 1 (.s [.w 17 5,.w 18 6,.o 19 (.qe (.t 17) (.t 18)),.v 20 .geq 19 (.c (.int .u8 97)),.m 21 20,⟨(some 22),.load (some 7) (.t 2),(some (21,true)),true⟩,⟨(some 23),.aF (.t 5),(some (21,true)),true⟩,⟨(some 24),.aF (.t 6),(some (21,true)),true⟩,⟨(some 25),.qe (.t 23) (.t 24),(some (21,true)),true⟩,⟨(some 26),.aP 2 (.t 3),(some (21,true)),true⟩,⟨(some 27),.load none (.t 26),(some (21,true)),true⟩,⟨(some 28),.aF (.t 6),(some (21,true)),true⟩,⟨(some 29),.aS 1 (.t 27) (.t 28),(some (21,true)),true⟩,⟨(some 30),.load none (.t 29),(some (21,true)),true⟩,.g 31 21 true (.call (.f 195) [.t 22,.t 25,.t 30]),.g 32 21 true (.bin .lss (.t 31) .z),.d 33 21 32] (.j 33 [.o 4 (.aF (.n 10))]))) (.ops [.m 15 6,.v 16 .add 15 .w,.m 6 16])))))) (.seq (.s [.m 34 5,.o 35 (.len .st (.t 34)),.v 36 .gtr 35 .z,.m 37 36,.t 38 37 true 5,.g 39 37 true (.qe (.t 38) .z),.g 40 37 true (.bin .lss (.t 39) (.c (.int .u8 97))),.d 41 37 40,.m 42 41,⟨(some 43),.load (some 7) (.t 2),(some (42,true)),true⟩,⟨(some 44),.aF (.t 5),(some (42,true)),true⟩,⟨(some 45),.qe (.t 44) .z,(some (42,true)),true⟩,⟨(some 46),.bin .add (.t 45) (.c (.int .u8 97)),(some (42,true)),true⟩,⟨(some 47),.bin .sub (.t 46) (.c (.int .u8 65)),(some (42,true)),true⟩,⟨(some 48),.aP 2 (.t 3),(some (42,true)),true⟩,⟨(some 49),.load none (.t 48),(some (42,true)),true⟩,⟨(some 50),.aS 1 (.t 49) .z,(some (42,true)),true⟩,⟨(some 51),.load none (.t 50),(some (42,true)),true⟩,.g 52 42 true (.call (.f 195) [.t 43,.t 47,.t 51]),.g 53 42 true (.bin .geq (.t 52) .z),.d 54 42 53] (.j 54 [.o 4 (.aF (.n 9))])) (.r [.o 4 (.aF .z)])))))⟩
def fn224:ar:=⟨100,1,[(2,some (some 7))],(.s [.p 1 0,.o 2 (.box (.c (.agg [.int .i64 0,.af,.af,.af,.af,.af,.af])))] (.s [.o 12 (.aE 3 0 [.str [],.int .i64 0,.bool false] []),.a 13 1 1,.l 14 13,.o 15 (.app 3 32 (.t 12) (.t 14)),.a 16 1 1,.s 1 16 15] (.s [.o 17 (.aE 2 0 [.str [],.int .i64 0] []),.a 18 2 1,.l 19 18,.o 20 (.app 2 24 (.t 17) (.t 19)),.a 21 2 1,.s 1 21 20] (.s [.o 22 (.aE 4 0 [.str [],.str [],.int .i64 0,.bool false] []),.a 23 6 1,.l 24 23,.o 25 (.app 4 48 (.t 22) (.t 24)),.a 26 6 1,.s 1 26 25] (.s [.y 27 (.aP 3 (.t 1)),.j 28 27,.y 29 (.aP 4 (.t 1)),.j 30 29,.y 31 (.aP 5 (.t 1)),.j 32 31,.w 3 28,.w 4 30,.m 5 32] (.s [.a 33 3 1,.x (.store 1 (.t 33) (.c .af)),.a 34 4 1,.x (.store 1 (.t 34) (.c .af)),.a 35 5 1,.x (.store 1 (.t 35) (.c .af))] (.seq (.s [.o 6 (.aF .z)] (.block 0 (.loop (.seq (.s [.m 36 6,.m 37 3,.n 38 37,.u 39 .lss 36 38] (.i 39 .skip (.exit 0))) (.seq (.block 1 (.s [.m 42 3,.m 43 6,.h 44 3 42 43,.r 45 3 44,.o 7 (.box (.c (.agg [.str [],.str [],.af]))),.s 3 7 45] (.s [.o 46 (.aE 1 0 [.str []] []),.a 47 2 7,.l 48 47,.o 49 (.app 1 16 (.t 46) (.t 48)),.a 50 2 7,.s 1 50 49] (.ops [.a 51 3 1,.l 52 51,.r 53 3 7,.o 54 (.aE 3 1 [.str [],.str [],.af] [(0,.t 53)]),.o 55 (.app 3 56 (.t 52) (.t 54)),.a 56 3 1,.s 1 56 55])))) (.ops [.m 40 6,.v 41 .add 40 .w,.m 6 41])))))) (.seq (.s [.o 8 (.aF .z)] (.block 2 (.loop (.seq (.s [.m 57 8,.m 58 4,.n 59 58,.u 60 .lss 57 59] (.i 60 .skip (.exit 2))) (.seq (.block 3 (.s [.m 63 4,.m 64 8,.h 65 4 63 64,.r 66 4 65,.o 9 (.box (.c (.agg [.str [],.str [],.str [],.af]))),.s 4 9 66] (.s [.o 67 (.aE 1 0 [.str []] []),.a 68 3 9,.l 69 68,.o 70 (.app 1 16 (.t 67) (.t 69)),.a 71 3 9,.s 1 71 70] (.ops [.a 72 4 1,.l 73 72,.r 74 4 9,.o 75 (.aE 4 1 [.str [],.str [],.str [],.af] [(0,.t 74)]),.o 76 (.app 4 72 (.t 73) (.t 75)),.a 77 4 1,.s 1 77 76])))) (.ops [.m 61 8,.v 62 .add 61 .w,.m 8 62])))))) (.seq (.s [.o 10 (.aF .z)] (.block 4 (.loop (.seq (.s [.m 78 10,.m 79 5,.n 80 79,.u 81 .lss 78 80] (.i 81 .skip (.exit 4))) (.seq (.block 5 (.s [.m 84 5,.m 85 10,.h 86 3 84 85,.r 87 3 86,.o 11 (.box (.c (.agg [.str [],.str [],.af]))),.s 3 11 87] (.s [.o 88 (.aE 1 0 [.int .i64 0] []),.a 89 2 11,.l 90 89,.o 91 (.app 1 8 (.t 88) (.t 90)),.a 92 2 11,.s 1 92 91] (.ops [.a 93 5 1,.l 94 93,.r 95 3 11,.o 96 (.aE 3 1 [.str [],.str [],.af] [(0,.t 95)]),.o 97 (.app 3 56 (.t 94) (.t 96)),.a 98 5 1,.s 1 98 97])))) (.ops [.m 82 10,.v 83 .add 82 .w,.m 10 83])))))) (.r [.r 99 7 1,.s 7 2 99]))))))))))⟩
def fn225:ar:=⟨250,2,[(4,some (some 7)),(5,none)],(.s [.p 2 0,.p 3 1,.o 4 (.box (.c (.agg [.int .i64 0,.af,.af,.af,.af,.af,.af]))),.o 5 (.aF .z)] (.s [.a 12 3 3,.l 13 12,.o 14 (.aS 1 (.t 13) .z),.l 15 14,.m 6 15] (.seq (.s [.a 16 1 3,.l 17 16] (.block 0 (.s [.v 72 .eql 17 (.c (.str [108,105,110,101])),.m 71 72] (.i 71 (.seq (.s [.a 73 3 3,.l 74 73,.o 75 (.aS 1 (.t 74) .w),.l 76 75,.c 77 20 [.t 76,.w,.n 64]] (.j 77 [.r 78 7 2,.s 7 4 78,.o 5 (.aF (.n 3))])) (.seq (.s [.a 79 1 2,.l 80 79,.n 81 80,.v 82 .geq 81 (.n 16)] (.j 82 [.r 83 7 2,.s 7 4 83,.o 5 (.aF (.n 5))])) (.ops [.y 84 (.aP 1 (.t 2)),.j 85 84,.y 86 (.aP 2 (.t 3)),.j 87 86,.y 88 (.aS 1 (.t 87) .z),.j 89 88,.y 90 (.aP 3 (.t 3)),.j 91 90,.y 92 (.aS 1 (.t 91) .w),.j 93 92,.y 94 (.build [.str [],.int .i64 0,.bool false] [(0,1,.t 89),(1,1,.t 93)]),.y 95 (.aE 3 1 [.str [],.int .i64 0,.bool false] [(0,.t 94)]),.o 96 (.app 3 32 (.t 85) (.t 95)),.a 97 1 2,.s 1 97 96]))) (.s [.v 99 .eql 17 (.c (.str [116,97,112,101])),.m 98 99] (.i 98 (.seq (.s [.m 100 6,.a 101 3 3,.l 102 101,.o 103 (.aS 1 (.t 102) .w),.l 104 103,.u 105 .add 100 104,.v 106 .gtr 105 (.n 999999999)] (.j 106 [.r 107 7 2,.s 7 4 107,.o 5 (.aF (.n 4))])) (.seq (.s [.a 108 2 2,.l 109 108,.n 110 109,.v 111 .geq 110 (.n 16)] (.j 111 [.r 112 7 2,.s 7 4 112,.o 5 (.aF (.n 5))])) (.ops [.y 113 (.aP 2 (.t 2)),.j 114 113,.y 115 (.aP 2 (.t 3)),.j 116 115,.y 117 (.aS 1 (.t 116) .z),.j 118 117,.w 119 6,.y 120 (.aP 3 (.t 3)),.j 121 120,.y 122 (.aS 1 (.t 121) .w),.j 123 122,.y 124 (.bin .add (.t 119) (.t 123)),.y 125 (.build [.str [],.int .i64 0] [(0,1,.t 118),(1,1,.t 124)]),.y 126 (.aE 2 1 [.str [],.int .i64 0] [(0,.t 125)]),.o 127 (.app 2 24 (.t 114) (.t 126)),.a 128 2 2,.s 1 128 127]))) (.s [.v 130 .eql 17 (.c (.str [115,104,111,116])),.m 129 130] (.i 129 (.seq (.s [.y 131 (.aP 1 (.t 2)),.j 132 131,.y 133 (.load (some 7) (.t 2)),.y 134 (.aP 2 (.t 3)),.j 135 134,.y 136 (.aS 1 (.t 135) .w),.j 137 136,.y 138 (.call (.f 28) [.t 133,.t 137]),.h 139 3 132 138,.a 140 2 139,.l 141 140] (.j 141 [.r 142 7 2,.s 7 4 142,.o 5 (.aF (.n 23))])) (.seq (.s [.y 143 (.load (some 7) (.t 2)),.y 144 (.aP 2 (.t 3)),.j 145 144,.y 146 (.aS 1 (.t 145) (.n 2)),.j 147 146,.w 148 6,.c 149 84 [.t 143,.t 147,.t 148],.o 150 (.un .not (.t 149))] (.j 150 [.r 151 7 2,.s 7 4 151,.o 5 (.aF (.n 30))])) (.seq (.s [.a 152 3 2,.l 153 152,.n 154 153,.v 155 .geq 154 (.n 64)] (.j 155 [.r 156 7 2,.s 7 4 156,.o 5 (.aF (.n 5))])) (.ops [.y 157 (.aP 3 (.t 2)),.j 158 157,.y 159 (.aP 2 (.t 3)),.j 160 159,.y 161 (.aS 1 (.t 160) .z),.j 162 161,.y 163 (.aP 2 (.t 3)),.j 164 163,.y 165 (.aS 1 (.t 164) .w),.j 166 165,.y 167 (.aP 2 (.t 3)),.j 168 167,.y 169 (.aS 1 (.t 168) (.n 2)),.j 170 169,.y 171 (.aE 1 1 [.str []] [(0,.t 170)]),.y 172 (.build [.str [],.str [],.af] [(0,1,.t 162),(1,1,.t 166),(2,1,.t 171)]),.y 173 (.aE 3 1 [.str [],.str [],.af] [(0,.t 172)]),.o 174 (.app 3 56 (.t 158) (.t 173)),.a 175 3 2,.s 1 175 174])))) (.s [.v 177 .eql 17 (.c (.str [99,111,112,121])),.m 176 177] (.i 176 (.seq (.s [.y 178 (.aP 2 (.t 3)),.j 179 178,.y 180 (.aS 1 (.t 179) .z),.j 181 180,.y 182 (.aP 2 (.t 3)),.j 183 182,.y 184 (.aS 1 (.t 183) .w),.j 185 184,.u 186 .eql 181 185] (.j 186 [.r 187 7 2,.s 7 4 187,.o 5 (.aF (.n 24))])) (.seq (.s [.y 188 (.load (some 7) (.t 2)),.y 189 (.aP 2 (.t 3)),.j 190 189,.y 191 (.aS 1 (.t 190) .z),.j 192 191,.w 193 6,.c 194 84 [.t 188,.t 192,.t 193],.o 195 (.un .not (.t 194)),.m 196 195,⟨(some 197),.load (some 7) (.t 2),(some (196,false)),true⟩,⟨(some 198),.aP 2 (.t 3),(some (196,false)),true⟩,⟨(some 199),.load none (.t 198),(some (196,false)),true⟩,⟨(some 200),.aS 1 (.t 199) .w,(some (196,false)),true⟩,⟨(some 201),.load none (.t 200),(some (196,false)),true⟩,⟨(some 202),.aF (.t 6),(some (196,false)),true⟩,.g 203 196 false (.call (.f 84) [.t 197,.t 201,.t 202]),.g 204 196 false (.un .not (.t 203)),.f 205 196 204] (.j 205 [.r 206 7 2,.s 7 4 206,.o 5 (.aF (.n 30))])) (.s [.o 7 (.aF .z)] (.block 3 (.loop (.seq (.s [.m 207 7,.a 208 3 2,.l 209 208,.n 210 209,.u 211 .lss 207 210] (.i 211 .skip (.exit 3))) (.seq (.block 4 (.s [.a 214 3 2,.l 215 214,.m 216 7,.h 217 3 215 216,.a 218 2 217,.l 219 218,.m 8 219] (.s [.m 220 8,.a 221 2 3,.l 222 221,.o 223 (.aS 1 (.t 222) .z),.l 224 223,.c 225 35 [.t 220,.t 224],.m 226 225,.t 227 226 true 8,.g 228 226 true (.aP 2 (.t 3)),.g 229 226 true (.load none (.t 228)),.g 230 226 true (.aS 1 (.t 229) .w),.g 231 226 true (.load none (.t 230)),.g 232 226 true (.call (.f 35) [.t 227,.t 231]),.g 233 226 true (.un .not (.t 232)),.d 234 226 233] (.i 234 (.lC [.a 235 3 2,.j 236 235,.m 237 7,.o 238 (.aE 1 0 [.str []] []),.m 239 8,.o 240 (.app 1 16 (.t 238) (.t 239)),.a 241 2 3,.j 242 241,.o 243 (.aS 1 (.t 242) .w),.j 244 243,.o 245 (.aE 1 1 [.str []] [(0,.t 244)]),.o 246 (.app 1 16 (.t 240) (.t 245)),.h 247 3 236 237,.a 248 2 247,.s 1 248 246]) .skip)))) (.ops [.m 212 7,.v 213 .add 212 .w,.m 7 213])))))))) (.s [.y 18 (.load (some 7) (.t 2)),.y 19 (.aP 2 (.t 3)),.j 20 19,.y 21 (.aS 1 (.t 20) .z),.j 22 21,.c 23 28 [.t 18,.t 22],.m 9 23] (.s [.r 24 7 2,.a 25 2 3,.l 26 25,.c 27 127 [.t 24,.t 26],.m 10 27] (.seq (.s [.a 28 1 2,.l 29 28,.m 30 9,.h 31 3 29 30,.a 32 2 31,.l 33 32] (.j 33 [.r 34 7 2,.s 7 4 34,.o 5 (.aF (.n 23))])) (.seq (.s [.m 35 10,.n 36 35,.a 37 1 2,.l 38 37,.m 39 9,.h 40 3 38 39,.a 41 1 40,.l 42 41,.u 43 .lss 36 42] (.j 43 [.r 44 7 2,.s 7 4 44,.o 5 (.aF (.n 16))])) (.seq (.s [.o 11 (.aF .z)] (.block 1 (.loop (.seq (.s [.m 45 11,.m 46 10,.n 47 46,.u 48 .lss 45 47] (.i 48 .skip (.exit 1))) (.seq (.block 2 (.s [.y 51 (.load (some 7) (.t 2)),.y 52 (.aP 3 (.t 2)),.j 53 52,.y 54 (.load (some 7) (.t 2)),.w 55 10,.w 56 11,.y 57 (.aS 1 (.t 55) (.t 56)),.j 58 57,.y 59 (.call (.f 22) [.t 54,.t 58]),.y 60 (.aS 3 (.t 53) (.t 59)),.y 61 (.load (some 3) (.t 60)),.w 62 6,.c 63 23 [.t 51,.t 61,.t 62],.o 64 (.un .not (.t 63))] (.j 64 [.r 65 7 2,.s 7 4 65,.o 5 (.aF (.n 30))]))) (.ops [.m 49 11,.v 50 .add 49 .w,.m 11 50])))))) (.ops [.a 66 1 2,.l 67 66,.m 68 9,.h 69 3 67 68,.a 70 2 69,.x (.store 1 (.t 70) .T)])))))))))))))))) (.r [.r 249 7 2,.s 7 4 249,.o 5 (.aF .z)]))))⟩
def fn226:ar:=⟨96,2,[(4,some (some 7)),(5,none)],(.s [.p 2 0,.p 3 1,.o 4 (.box (.c (.agg [.int .i64 0,.af,.af,.af,.af,.af,.af]))),.o 5 (.aF .z)] (.s [.y 9 (.aP 2 (.t 3)),.j 10 9,.y 11 (.aS 1 (.t 10) .z),.j 12 11,.y 13 (.aE 1 0 [.str []] []),.y 14 (.aP 2 (.t 3)),.j 15 14,.y 16 (.sl 1 (.t 15) (some .w) none),.y 17 (.app 1 16 (.t 13) (.t 16)),.y 18 (.build [.str [],.str [],.str [],.af] [(0,1,.t 12),(3,1,.t 17)]),.y 6 (.box (.c (.agg [.str [],.str [],.str [],.af]))),.s 4 6 18] (.seq (.s [.a 19 1 3,.l 20 19] (.block 0 (.s [.v 49 .eql 20 (.c (.str [115,111,117,114,99,101])),.m 48 49] (.i 48 (.lC [.a 50 2 3,.j 51 50,.o 52 (.aS 1 (.t 51) .w),.j 53 52,.a 54 1 6,.x (.store 1 (.t 54) (.c (.str [115,104,111,116,115]))),.a 55 2 6,.s 1 55 53,.a 56 3 6,.x (.store 1 (.t 56) (.c .af))]) (.s [.v 58 .eql 20 (.c (.str [109,111,100,117,108,101])),.m 57 58] (.i 57 (.seq (.s [.a 59 3 3,.l 60 59,.o 61 (.aS 1 (.t 60) .w),.l 62 61,.c 63 20 [.t 62,.w,.n 4]] (.j 63 [.r 64 7 2,.s 7 4 64,.o 5 (.aF (.n 13))])) (.s [.a 66 3 3,.l 67 66,.o 68 (.aS 1 (.t 67) .w),.l 69 68,.c 70 263 [.t 69],.m 65 70,.e 71 65 0,.e 72 65 1,.m 7 71,.m 8 72] (.seq (.s [.y 73 (.load (some 7) (.t 2)),.y 74 (.aP 2 (.t 3)),.j 75 74,.y 76 (.aS 1 (.t 75) .w),.j 77 76,.y 78 (.call (.f 264) [.t 73,.t 77]),.w 79 7,.u 80 .neq 78 79] (.j 80 [.r 81 7 2,.s 7 4 81,.o 5 (.aF (.n 2))])) (.ops [.m 82 8,.a 83 1 6,.s 1 83 82])))) (.seq (.s [.y 21 (.aP 2 (.t 3)),.j 22 21,.y 23 (.aS 1 (.t 22) .w),.j 24 23,.y 25 (.aP 2 (.t 3)),.j 26 25,.y 27 (.aS 1 (.t 26) (.n 2)),.j 28 27,.u 29 .eql 24 28] (.j 29 [.r 30 7 2,.s 7 4 30,.o 5 (.aF (.n 24))])) (.s [.y 31 (.load (some 7) (.t 2)),.y 32 (.aP 2 (.t 3)),.j 33 32,.y 34 (.aS 1 (.t 33) .w),.j 35 34,.c 36 264 [.t 31,.t 35],.a 37 1 6,.s 1 37 36] (.s [.y 38 (.load (some 7) (.t 2)),.y 39 (.aP 2 (.t 3)),.j 40 39,.y 41 (.aS 1 (.t 40) (.n 2)),.j 42 41,.y 43 (.call (.f 264) [.t 38,.t 42]),.y 44 (.aP 1 (.t 6)),.j 45 44,.u 46 .neq 43 45] (.j 46 [.r 47 7 2,.s 7 4 47,.o 5 (.aF (.n 2))])))))))))) (.seq (.s [.a 84 4 2,.l 85 84,.n 86 85,.v 87 .geq 86 (.n 32)] (.j 87 [.r 88 7 2,.s 7 4 88,.o 5 (.aF (.n 5))])) (.s [.a 89 4 2,.l 90 89,.r 91 4 6,.o 92 (.aE 4 1 [.str [],.str [],.str [],.af] [(0,.t 91)]),.o 93 (.app 4 72 (.t 90) (.t 92)),.a 94 4 2,.s 1 94 93] (.r [.r 95 7 2,.s 7 4 95,.o 5 (.aF .z)]))))))⟩
def fn227:ar:=⟨223,2,[(4,some (some 7)),(5,none)],(.s [.p 2 0,.p 3 1,.o 4 (.box (.c (.agg [.int .i64 0,.af,.af,.af,.af,.af,.af]))),.o 5 (.aF .z)] (.seq (.s [.a 14 1 3,.l 15 14] (.block 0 (.s [.v 35 .eql 15 (.c (.str [114,117,110])),.m 34 35] (.i 34 (.s [.y 36 (.load (some 7) (.t 2)),.y 37 (.aP 2 (.t 3)),.j 38 37,.y 39 (.aS 1 (.t 38) .w),.j 40 39,.c 41 59 [.t 36,.t 40],.m 6 41] (.seq (.s [.o 7 (.aF .z)] (.block 1 (.loop (.seq (.s [.m 42 7,.m 43 6,.n 44 43,.u 45 .lss 42 44] (.i 45 .skip (.exit 1))) (.seq (.block 2 (.s [.y 48 (.aP 1 (.t 2)),.j 49 48,.y 50 (.load (some 7) (.t 2)),.w 51 6,.w 52 7,.y 53 (.aS 1 (.t 51) (.t 52)),.j 54 53,.y 55 (.call (.f 28) [.t 50,.t 54]),.h 56 3 49 55,.a 57 2 56,.l 58 57,.o 59 (.un .not (.t 58))] (.j 59 [.r 60 7 2,.s 7 4 60,.o 5 (.aF (.n 32))]))) (.ops [.m 46 7,.v 47 .add 46 .w,.m 7 47])))))) (.seq (.s [.a 61 3 3,.l 62 61,.o 63 (.aS 1 (.t 62) .w),.l 64 63,.c 65 20 [.t 64,.w,.n 32]] (.j 65 [.r 66 7 2,.s 7 4 66,.o 5 (.aF (.n 3))])) (.seq (.s [.a 67 5 2,.l 68 67,.n 69 68,.v 70 .geq 69 (.n 16)] (.j 70 [.r 71 7 2,.s 7 4 71,.o 5 (.aF (.n 5))])) (.s [.y 72 (.aP 2 (.t 3)),.j 73 72,.y 74 (.aS 1 (.t 73) .z),.j 75 74,.y 76 (.aP 2 (.t 3)),.j 77 76,.y 78 (.aS 1 (.t 77) .w),.j 79 78,.y 80 (.build [.str [],.str [],.af] [(0,1,.t 75),(1,1,.t 79)]),.y 8 (.box (.c (.agg [.str [],.str [],.af]))),.s 3 8 80] (.seq (.s [.o 9 (.aF .z)] (.block 3 (.loop (.seq (.s [.m 81 9,.a 82 3 3,.l 83 82,.o 84 (.aS 1 (.t 83) .w),.l 85 84,.u 86 .lss 81 85] (.i 86 .skip (.exit 3))) (.seq (.block 4 (.ops [.a 89 2 8,.l 90 89,.o 91 (.aE 1 1 [.int .i64 0] [(0,(.n (-1)))]),.o 92 (.app 1 8 (.t 90) (.t 91)),.a 93 2 8,.s 1 93 92])) (.ops [.m 87 9,.v 88 .add 87 .w,.m 9 88])))))) (.ops [.a 94 5 2,.l 95 94,.r 96 3 8,.o 97 (.aE 3 1 [.str [],.str [],.af] [(0,.t 96)]),.o 98 (.app 3 56 (.t 95) (.t 97)),.a 99 5 2,.s 1 99 98]))))))) (.seq (.s [.v 101 .eql 15 (.c (.str [116,105,108,101])),.m 100 101] (.i 100 .skip (.ops [.v 102 .eql 15 (.c (.str [102,97,105,108])),.m 100 102]))) (.i 100 (.s [.y 103 (.load (some 7) (.t 2)),.y 104 (.aP 2 (.t 3)),.j 105 104,.y 106 (.aS 1 (.t 105) .z),.j 107 106,.c 108 56 [.t 103,.t 107],.m 10 108] (.seq (.s [.y 109 (.load (some 7) (.t 2)),.y 110 (.aP 2 (.t 3)),.j 111 110,.y 112 (.aS 1 (.t 111) .z),.j 113 112,.c 114 265 [.t 109,.t 113]] (.j 114 [.r 115 7 2,.s 7 4 115,.o 5 (.aF (.n 23))])) (.s [.a 116 3 3,.l 117 116,.o 118 (.aS 1 (.t 117) .w),.l 119 118,.m 11 119] (.seq (.s [.m 120 11,.a 121 5 2,.l 122 121,.m 123 10,.h 124 3 122 123,.a 125 2 124,.l 126 125,.n 127 126,.u 128 .geq 120 127] (.j 128 [.r 129 7 2,.s 7 4 129,.o 5 (.aF (.n 3))])) (.seq (.s [.a 130 1 3,.l 131 130,.v 132 .eql 131 (.c (.str [102,97,105,108]))] (.i 132 (.seq (.s [.a 133 5 2,.l 134 133,.m 135 10,.h 136 3 134 135,.a 137 2 136,.l 138 137,.m 139 11,.h 140 1 138 139,.l 141 140,.v 142 .lss 141 .z] (.j 142 [.r 143 7 2,.s 7 4 143,.o 5 (.aF (.n 7))])) (.s [.a 144 5 2,.l 145 144,.m 146 10,.h 147 3 145 146,.a 148 2 147,.l 149 148,.m 150 11,.h 151 1 149 150,.x (.store 1 (.t 151) (.n (-1)))] (.r [.r 152 7 2,.s 7 4 152,.o 5 (.aF .z)]))) .skip)) (.seq (.s [.a 153 5 2,.l 154 153,.m 155 10,.h 156 3 154 155,.a 157 2 156,.l 158 157,.m 159 11,.h 160 1 158 159,.l 161 160,.v 162 .geq 161 .z] (.j 162 [.r 163 7 2,.s 7 4 163,.o 5 (.aF (.n 9))])) (.ops [.y 164 (.aP 5 (.t 2)),.j 165 164,.w 166 10,.y 167 (.aS 3 (.t 165) (.t 166)),.y 168 (.aP 2 (.t 167)),.j 169 168,.w 170 11,.y 171 (.aP 3 (.t 3)),.j 172 171,.y 173 (.aS 1 (.t 172) (.n 2)),.j 174 173,.h 175 1 169 170,.s 1 175 174]))))))) (.s [.v 177 .eql 15 (.c (.str [112,105,99,116,117,114,101])),.m 176 177] (.i 176 (.s [.y 178 (.aP 5 (.t 2)),.j 179 178,.y 180 (.load (some 7) (.t 2)),.y 181 (.aP 2 (.t 3)),.j 182 181,.y 183 (.aS 1 (.t 182) .w),.j 184 183,.y 185 (.call (.f 56) [.t 180,.t 184]),.y 186 (.aS 3 (.t 179) (.t 185)),.y 187 (.load (some 3) (.t 186)),.y 12 (.box (.c (.agg [.str [],.str [],.af]))),.s 3 12 187] (.seq (.s [.y 188 (.load (some 7) (.t 2)),.y 189 (.aP 2 (.t 3)),.j 190 189,.y 191 (.aS 1 (.t 190) .w),.j 192 191,.c 193 265 [.t 188,.t 192]] (.j 193 [.r 194 7 2,.s 7 4 194,.o 5 (.aF (.n 23))])) (.seq (.s [.r 195 3 12,.c 196 60 [.t 195],.n 197 196,.v 198 .gtr 197 .z] (.j 198 [.r 199 7 2,.s 7 4 199,.o 5 (.aF (.n 32))])) (.seq (.s [.a 200 6 2,.l 201 200,.n 202 201,.v 203 .geq 202 (.n 16)] (.j 203 [.r 204 7 2,.s 7 4 204,.o 5 (.aF (.n 5))])) (.ops [.y 205 (.aP 6 (.t 2)),.j 206 205,.y 207 (.aP 2 (.t 3)),.j 208 207,.y 209 (.aS 1 (.t 208) .z),.j 210 209,.y 211 (.aP 2 (.t 3)),.j 212 211,.y 213 (.aS 1 (.t 212) .w),.j 214 213,.y 215 (.aP 2 (.t 12)),.j 216 215,.y 217 (.call (.f 31) [.t 216]),.y 218 (.build [.str [],.str [],.int .i64 0,.bool false] [(0,1,.t 210),(1,1,.t 214),(2,1,.t 217),(3,1,.F)]),.y 219 (.aE 4 1 [.str [],.str [],.int .i64 0,.bool false] [(0,.t 218)]),.o 220 (.app 4 48 (.t 206) (.t 219)),.a 221 6 2,.s 1 221 220]))))) (.s [.y 16 (.load (some 7) (.t 2)),.y 17 (.aP 2 (.t 3)),.j 18 17,.y 19 (.aS 1 (.t 18) .z),.j 20 19,.c 21 57 [.t 16,.t 20],.m 13 21] (.seq (.s [.a 22 6 2,.l 23 22,.m 24 13,.h 25 4 23 24,.a 26 3 25,.l 27 26] (.j 27 [.r 28 7 2,.s 7 4 28,.o 5 (.aF (.n 23))])) (.ops [.a 29 6 2,.l 30 29,.m 31 13,.h 32 4 30 31,.a 33 3 32,.x (.store 1 (.t 33) .T)]))))))))))) (.r [.r 222 7 2,.s 7 4 222,.o 5 (.aF .z)])))⟩
def kJ(x0:Nat):ar:=⟨19,2,[(4,none)],(.s [.o 4 (.aF .z)] (.seq (.s [.m 6 0,.n 7 6,.o 8 (.aF .z)] (.block 0 (.loop (.s [.u 9 .lss 8 7] (.seq (.i 9 .skip (.exit 0)) (.seq (.block 1 (.s [.m 10 8,.m 5 10] (.s [.m 11 1,.m 12 0,.m 13 5,.h 14 x0 12 13,.r 15 x0 14,.o 16 (.call (.t 11) [.t 15])] (.j 16 [.m 17 5,.m 4 17])))) (.ops [.v 18 .add 8 .w,.m 8 18]))))))) (.r [.o 4 (.aF (.n (-1)))])))⟩
def fn228:ar:=kJ 3
def kI(x0 x1:Nat):ar:=⟨9,1,[(3,none)],(.s [.p 2 0,.o 3 (.aF .F)] (.r [.y 4 (.load (some x0) (.t 2)),.y 5 (.conv (.qh x1) (.t 4)),.y 6 (.call (.c (.func (.method "moveout/house.name") [] [])) [.t 5]),.j 7 1,.u 8 .eql 6 7,.m 3 8]))⟩
def fn229:ar:=kI 3 74
def fn230:ar:=kJ 3
def fn231:ar:=kI 3 78
def fn232:ar:=kJ 2
def fn233:ar:=kI 2 73
def fn234:ar:=kJ 4
def fn235:ar:=kI 4 134
def fn236:ar:=kJ 3
def fn237:ar:=kI 3 136
def fn238:ar:=kJ 4
def fn239:ar:=kI 4 130
def fn240:ar:=⟨13,2,[(5,none)],(.s [.p 3 0,.o 5 (.aF .F)] (.r [.a 6 2 3,.l 7 6,.l 8 2,.h 9 1 7 8,.l 10 9,.m 11 1,.u 12 .eql 10 11,.m 5 12]))⟩
def fn241:ar:=⟨17,3,[(6,none)],(.s [.p 3 0,.p 4 1,.o 6 (.aF .z)] (.r [.y 7 (.load (some 7) (.t 3)),.w 8 2,.y 9 (.call (.f 134) [.t 7,.t 8]),.y 10 (.aP 3 (.t 4)),.j 11 10,.y 12 (.aS 1 (.t 11) .z),.j 13 12,.c 14 135 [.t 9,.t 13],.o 15 (.un .not (.t 14)),.c 16 85 [.t 15,.n 30],.m 6 16]))⟩
def pK(x0:Nat):ar:=⟨9,2,[(4,none)],(.s [.o 4 (.aF .F)] (.r [.m 5 0,.m 6 1,.c 7 x0 [.t 5,.t 6],.v 8 .geq 7 .z,.m 4 8]))⟩
def fn242:ar:=pK 266
def fn243:ar:=pK 228
def fn244:ar:=⟨13,1,[(4,none)],(.s [.p 3 0,.o 4 (.aF .F)] (.r [.y 5 (.load (some 7) (.t 1)),.y 6 (.load (some 3) (.t 3)),.y 7 (.aP 3 (.t 2)),.j 8 7,.y 9 (.aS 1 (.t 8) .z),.j 10 9,.c 11 76 [.t 5,.t 6,.t 10],.o 12 (.un .not (.t 11)),.m 4 12]))⟩
def fn245:ar:=⟨13,2,[(4,some (some 4))],(.s [.p 2 0,.o 4 (.box (.c (.agg [.str [],.str [],.str [],.af])))] (.r [.y 5 (.aP 4 (.t 2)),.j 6 5,.y 7 (.aP 4 (.t 2)),.j 8 7,.w 9 1,.y 10 (.call (.f 144) [.t 8,.t 9]),.h 11 4 6 10,.r 12 4 11,.s 4 4 12]))⟩
def fn246:ar:=pK 230
def fn247:ar:=⟨6,1,[(2,none)],(.s [.p 1 0,.o 2 (.aF .F)] (.r [.a 3 2 1,.l 4 3,.o 5 (.un .not (.t 4)),.m 2 5]))⟩
def fn248:ar:=⟨48,2,[(4,none)],(.s [.o 4 (.aF (.c .af))] (.seq (.s [.m 9 1,.v 10 .lss 9 .z] (.i 10 (.ops [.o 11 (.conv (.qh 9) (.c (.str [99,97,110,110,111,116,32,98,101,32,110,101,103,97,116,105,118,101]))),.x (.bad)]) .skip)) (.s [.m 13 0,.n 14 13,.o 15 (.conv (.uc .u64) (.t 14)),.m 16 1,.o 17 (.conv (.uc .u64) (.t 16)),.c 18 267 [.t 15,.t 17],.m 12 18,.e 19 12 0,.e 20 12 1,.m 5 19,.m 6 20] (.seq (.s [.m 21 5,.v 22 .gtr 21 (.c (.int .u64 0)),.m 23 22,.t 24 23 false 6,.g 25 23 false (.bin .gtr (.t 24) (.c (.int .u64 9223372036854775807))),.f 26 23 25] (.i 26 (.ops [.o 27 (.conv (.qh 9) (.c (.str [116,104,101,32,114,101,115,117,108,116,32,111,102,32,40,108,101,110,40,120,41,32,42,32,99,111,117,110,116,41,32,111,118,101,114,102,108,111,119,115]))),.x (.bad)]) .skip)) (.s [.m 28 6,.o 29 (.conv (.uc .i64) (.t 28)),.o 30 (.sg 1 8 [.int .i64 0] (.t 29) (.t 29)),.m 7 30] (.s [.m 31 7,.m 32 0,.o 33 (.wI 1 (.t 31) (.t 32)),.m 8 33] (.seq (.block 0 (.loop (.seq (.s [.m 34 8,.m 35 7,.n 36 35,.u 37 .lss 34 36] (.i 37 .skip (.exit 0))) (.block 1 (.ops [.m 38 8,.m 39 7,.m 40 8,.o 41 (.sl 1 (.t 39) (some (.t 40)) none),.m 42 7,.m 43 8,.o 44 (.sl 1 (.t 42) none (some (.t 43))),.o 45 (.wI 1 (.t 41) (.t 44)),.u 46 .add 38 45,.m 8 46]))))) (.r [.m 47 7,.m 4 47]))))))))⟩
def fn249:ar:=⟨28,2,[(4,none)],(.s [.p 2 0,.p 3 1,.o 4 (.aF .z)] (.r [.y 5 (.load (some 7) (.t 2)),.y 6 (.aP 2 (.t 3)),.j 7 6,.y 8 (.aS 1 (.t 7) .z),.j 9 8,.y 10 (.call (.f 251) [.t 5,.t 9]),.y 11 (.call (.f 85) [.t 10,.n 23]),.y 12 (.aP 3 (.t 3)),.j 13 12,.y 14 (.aS 1 (.t 13) .w),.j 15 14,.y 16 (.load (some 7) (.t 2)),.y 17 (.aP 2 (.t 3)),.j 18 17,.y 19 (.aS 1 (.t 18) .z),.j 20 19,.y 21 (.call (.f 124) [.t 16,.t 20]),.y 22 (.part none 2 (.t 21)),.y 23 (.len .sl (.t 22)),.y 24 (.bin .sub (.t 23) .w),.c 25 94 [.t 15,.z,.t 24],.o 26 (.aE 1 2 [.int .i64 0] [(0,.t 11),(1,.t 25)]),.c 27 74 [.t 26],.m 4 27]))⟩
def fn250:ar:=⟨28,3,[],(.s [.p 4 1] (.ops [.w 6 0,.y 7 (.bt (.t 6)),.y 8 (.aP 5 (.t 7)),.j 9 8,.w 10 0,.y 11 (.bt (.t 10)),.y 12 (.aP 5 (.t 11)),.j 13 12,.y 14 (.aP 2 (.t 4)),.j 15 14,.y 16 (.aS 1 (.t 15) .z),.j 17 16,.y 18 (.call (.f 145) [.t 13,.t 17]),.y 19 (.aS 3 (.t 9) (.t 18)),.y 20 (.aP 2 (.t 19)),.j 21 20,.y 22 (.aP 3 (.t 4)),.j 23 22,.y 24 (.aS 1 (.t 23) .w),.j 25 24,.w 26 2,.h 27 1 21 25,.s 1 27 26]))⟩
def fn251:ar:=⟨9,2,[(4,none)],(.s [.p 2 0,.p 3 1,.o 4 (.aF .F)] (.r [.a 5 6 2,.l 6 5,.o 7 (.kQ (.func 269) [] [.t 3]),.c 8 268 [.t 6,.t 7],.m 4 8]))⟩
def fn252:ar:=⟨125,2,[(4,none)],(.s [.o 4 (.aF (.c (.str [])))] (.seq (.s [.m 11 1] (.block 0 (.s [.v 13 .eql 11 .z,.m 12 13] (.i 12 (.r [.o 4 (.aF (.c (.str [])))]) (.s [.v 15 .eql 11 .w,.m 14 15] (.j 14 [.m 16 0,.m 4 16])))))) (.seq (.s [.m 17 1,.v 18 .lss 17 .z] (.i 18 (.ops [.o 19 (.conv (.qh 9) (.c (.str [115,116,114,105,110,103,115,58,32,110,101,103,97,116,105,118,101,32,82,101,112,101,97,116,32,99,111,117,110,116]))),.x (.bad)]) .skip)) (.s [.m 21 0,.o 22 (.len .st (.t 21)),.o 23 (.conv (.uc .u64) (.t 22)),.m 24 1,.o 25 (.conv (.uc .u64) (.t 24)),.c 26 267 [.t 23,.t 25],.m 20 26,.e 27 20 0,.e 28 20 1,.m 5 27,.m 6 28] (.seq (.s [.m 29 5,.v 30 .gtr 29 (.c (.int .u64 0)),.m 31 30,.t 32 31 false 6,.g 33 31 false (.bin .gtr (.t 32) (.c (.int .u64 9223372036854775807))),.f 34 31 33] (.i 34 (.ops [.o 35 (.conv (.qh 9) (.c (.str [115,116,114,105,110,103,115,58,32,82,101,112,101,97,116,32,111,117,116,112,117,116,32,108,101,110,103,116,104,32,111,118,101,114,102,108,111,119]))),.x (.bad)]) .skip)) (.s [.m 36 6,.o 37 (.conv (.uc .i64) (.t 36)),.m 7 37] (.seq (.s [.m 38 0,.o 39 (.len .st (.t 38)),.v 40 .eql 39 .z] (.j 40 [.o 4 (.aF (.c (.str [])))])) (.seq (.s [.m 41 0,.o 42 (.qe (.t 41) .z)] (.block 1 (.seq (.s [.v 44 .eql 42 (.c (.int .u8 32)),.m 43 44] (.i 43 .skip (.s [.v 45 .eql 42 (.c (.int .u8 45)),.m 43 45] (.i 43 .skip (.s [.v 46 .eql 42 (.c (.int .u8 48)),.m 43 46] (.i 43 .skip (.s [.v 47 .eql 42 (.c (.int .u8 61)),.m 43 47] (.i 43 .skip (.ops [.v 48 .eql 42 (.c (.int .u8 9)),.m 43 48]))))))))) (.i 43 (.block 2 (.s [.m 50 7,.v 51 .leq 50 (.n 128),.m 52 51,.t 53 52 true 0,.g 54 52 true (.call (.f 270) [(.c (.str [32,32,32,32,32,32,32,32,32,32,32,32,32,32,32,32,32,32,32,32,32,32,32,32,32,32,32,32,32,32,32,32,32,32,32,32,32,32,32,32,32,32,32,32,32,32,32,32,32,32,32,32,32,32,32,32,32,32,32,32,32,32,32,32,32,32,32,32,32,32,32,32,32,32,32,32,32,32,32,32,32,32,32,32,32,32,32,32,32,32,32,32,32,32,32,32,32,32,32,32,32,32,32,32,32,32,32,32,32,32,32,32,32,32,32,32,32,32,32,32,32,32,32,32,32,32,32,32])),.t 53]),.d 55 52 54,.m 49 55] (.i 49 (.r [.m 56 7,.o 57 (.pL (.c (.str [32,32,32,32,32,32,32,32,32,32,32,32,32,32,32,32,32,32,32,32,32,32,32,32,32,32,32,32,32,32,32,32,32,32,32,32,32,32,32,32,32,32,32,32,32,32,32,32,32,32,32,32,32,32,32,32,32,32,32,32,32,32,32,32,32,32,32,32,32,32,32,32,32,32,32,32,32,32,32,32,32,32,32,32,32,32,32,32,32,32,32,32,32,32,32,32,32,32,32,32,32,32,32,32,32,32,32,32,32,32,32,32,32,32,32,32,32,32,32,32,32,32,32,32,32,32,32,32])) none (some (.t 56))),.m 4 57]) (.s [.m 59 7,.v 60 .leq 59 (.n 128),.m 61 60,.t 62 61 true 0,.g 63 61 true (.call (.f 270) [(.c (.str [45,45,45,45,45,45,45,45,45,45,45,45,45,45,45,45,45,45,45,45,45,45,45,45,45,45,45,45,45,45,45,45,45,45,45,45,45,45,45,45,45,45,45,45,45,45,45,45,45,45,45,45,45,45,45,45,45,45,45,45,45,45,45,45,45,45,45,45,45,45,45,45,45,45,45,45,45,45,45,45,45,45,45,45,45,45,45,45,45,45,45,45,45,45,45,45,45,45,45,45,45,45,45,45,45,45,45,45,45,45,45,45,45,45,45,45,45,45,45,45,45,45,45,45,45,45,45,45])),.t 62]),.d 64 61 63,.m 58 64] (.i 58 (.r [.m 65 7,.o 66 (.pL (.c (.str [45,45,45,45,45,45,45,45,45,45,45,45,45,45,45,45,45,45,45,45,45,45,45,45,45,45,45,45,45,45,45,45,45,45,45,45,45,45,45,45,45,45,45,45,45,45,45,45,45,45,45,45,45,45,45,45,45,45,45,45,45,45,45,45,45,45,45,45,45,45,45,45,45,45,45,45,45,45,45,45,45,45,45,45,45,45,45,45,45,45,45,45,45,45,45,45,45,45,45,45,45,45,45,45,45,45,45,45,45,45,45,45,45,45,45,45,45,45,45,45,45,45,45,45,45,45,45,45])) none (some (.t 65))),.m 4 66]) (.s [.m 68 7,.v 69 .leq 68 (.n 64),.m 70 69,.t 71 70 true 0,.g 72 70 true (.call (.f 270) [(.c (.str [48,48,48,48,48,48,48,48,48,48,48,48,48,48,48,48,48,48,48,48,48,48,48,48,48,48,48,48,48,48,48,48,48,48,48,48,48,48,48,48,48,48,48,48,48,48,48,48,48,48,48,48,48,48,48,48,48,48,48,48,48,48,48,48])),.t 71]),.d 73 70 72,.m 67 73] (.i 67 (.r [.m 74 7,.o 75 (.pL (.c (.str [48,48,48,48,48,48,48,48,48,48,48,48,48,48,48,48,48,48,48,48,48,48,48,48,48,48,48,48,48,48,48,48,48,48,48,48,48,48,48,48,48,48,48,48,48,48,48,48,48,48,48,48,48,48,48,48,48,48,48,48,48,48,48,48])) none (some (.t 74))),.m 4 75]) (.s [.m 77 7,.v 78 .leq 77 (.n 128),.m 79 78,.t 80 79 true 0,.g 81 79 true (.call (.f 270) [(.c (.str [61,61,61,61,61,61,61,61,61,61,61,61,61,61,61,61,61,61,61,61,61,61,61,61,61,61,61,61,61,61,61,61,61,61,61,61,61,61,61,61,61,61,61,61,61,61,61,61,61,61,61,61,61,61,61,61,61,61,61,61,61,61,61,61,61,61,61,61,61,61,61,61,61,61,61,61,61,61,61,61,61,61,61,61,61,61,61,61,61,61,61,61,61,61,61,61,61,61,61,61,61,61,61,61,61,61,61,61,61,61,61,61,61,61,61,61,61,61,61,61,61,61,61,61,61,61,61,61])),.t 80]),.d 82 79 81,.m 76 82] (.i 76 (.r [.m 83 7,.o 84 (.pL (.c (.str [61,61,61,61,61,61,61,61,61,61,61,61,61,61,61,61,61,61,61,61,61,61,61,61,61,61,61,61,61,61,61,61,61,61,61,61,61,61,61,61,61,61,61,61,61,61,61,61,61,61,61,61,61,61,61,61,61,61,61,61,61,61,61,61,61,61,61,61,61,61,61,61,61,61,61,61,61,61,61,61,61,61,61,61,61,61,61,61,61,61,61,61,61,61,61,61,61,61,61,61,61,61,61,61,61,61,61,61,61,61,61,61,61,61,61,61,61,61,61,61,61,61,61,61,61,61,61,61])) none (some (.t 83))),.m 4 84]) (.s [.m 86 7,.v 87 .leq 86 (.n 64),.m 88 87,.t 89 88 true 0,.g 90 88 true (.call (.f 270) [(.c (.str [9,9,9,9,9,9,9,9,9,9,9,9,9,9,9,9,9,9,9,9,9,9,9,9,9,9,9,9,9,9,9,9,9,9,9,9,9,9,9,9,9,9,9,9,9,9,9,9,9,9,9,9,9,9,9,9,9,9,9,9,9,9,9,9])),.t 89]),.d 91 88 90,.m 85 91] (.j 85 [.m 92 7,.o 93 (.pL (.c (.str [9,9,9,9,9,9,9,9,9,9,9,9,9,9,9,9,9,9,9,9,9,9,9,9,9,9,9,9,9,9,9,9,9,9,9,9,9,9,9,9,9,9,9,9,9,9,9,9,9,9,9,9,9,9,9,9,9,9,9,9,9,9,9,9])) none (some (.t 92))),.m 4 93]))))))))))) .skip)))) (.s [.m 94 7,.m 8 94] (.seq (.s [.m 95 7,.v 96 .gtr 95 (.n 8192)] (.i 96 (.s [.m 97 0,.o 98 (.len .st (.t 97)),.b 99 .quo (.n 8192) (.t 98),.m 100 0,.o 101 (.len .st (.t 100)),.u 102 .mul 99 101,.m 8 102] (.s [.m 103 8,.v 104 .eql 103 .z] (.i 104 (.ops [.m 105 0,.o 106 (.len .st (.t 105)),.m 8 106]) .skip))) .skip)) (.s [.o 9 (.box (.c (.agg [.nilPtr,.af])))] (.s [.m 107 7,.c 108 210 [.t 9,.t 107]] (.s [.m 109 0,.c 110 211 [.t 9,.t 109]] (.seq (.block 3 (.loop (.seq (.s [.c 111 271 [.t 9],.m 112 7,.u 113 .lss 111 112] (.i 113 .skip (.exit 3))) (.block 4 (.s [.m 114 7,.c 115 271 [.t 9],.u 116 .sub 114 115,.c 117 271 [.t 9],.m 118 8,.o 119 (.mn (.t 116) [.t 117,.t 118]),.m 10 119] (.ops [.c 120 212 [.t 9],.m 121 10,.o 122 (.pL (.t 120) none (some (.t 121))),.c 123 211 [.t 9,.t 122]])))))) (.r [.c 124 212 [.t 9],.m 4 124])))))))))))))))⟩
def fn253:ar:=⟨143,2,[(4,none)],(.s [.o 4 (.aF .z)] (.s [.m 14 1,.o 15 (.len .st (.t 14)),.m 5 15] (.seq (.block 0 (.s [.m 17 5,.v 18 .eql 17 .z,.m 19 18,.t 20 19 false 1,.t 21 19 false 0,.g 22 19 false (.bin .eql (.t 20) (.t 21)),.f 23 19 22,.m 16 23] (.i 16 (.r [.o 4 (.aF .z)]) (.s [.m 25 5,.v 26 .eql 25 .w,.m 24 26] (.i 24 (.r [.m 27 0,.m 28 1,.o 29 (.qe (.t 28) .z),.c 30 272 [.t 27,.t 29],.m 4 30]) (.s [.m 32 5,.m 33 0,.o 34 (.len .st (.t 33)),.u 35 .geq 32 34,.m 31 35] (.i 31 (.r [.o 4 (.aF (.n (-1)))]) (.s [.m 37 5,.o 38 (.load none (.g 1)),.u 39 .leq 37 38,.m 40 39,.t 41 40 true 0,.g 42 40 true (.len .st (.t 41)),.g 43 40 true (.bin .leq (.t 42) (.n 64)),.d 44 40 43,.m 36 44] (.j 36 [.m 45 0,.m 46 1,.c 47 273 [.t 45,.t 46],.m 4 47]))))))))) (.s [.m 48 1,.o 49 (.qe (.t 48) .z),.m 6 49] (.s [.m 50 1,.o 51 (.qe (.t 50) .w),.m 7 51] (.s [.o 8 (.aF .z)] (.s [.m 52 0,.o 53 (.len .st (.t 52)),.m 54 5,.u 55 .sub 53 54,.v 56 .add 55 .w,.m 9 56] (.s [.o 10 (.aF .z)] (.seq (.block 1 (.loop (.seq (.s [.m 57 8,.m 58 9,.u 59 .lss 57 58] (.i 59 .skip (.exit 1))) (.block 2 (.seq (.s [.m 60 0,.m 61 8,.o 62 (.qe (.t 60) (.t 61)),.m 63 6,.u 64 .neq 62 63] (.i 64 (.s [.m 65 0,.m 66 8,.v 67 .add 66 .w,.m 68 9,.o 69 (.pL (.t 65) (some (.t 67)) (some (.t 68))),.m 70 6,.c 71 272 [.t 69,.t 70],.m 11 71] (.seq (.s [.m 72 11,.v 73 .lss 72 .z] (.j 73 [.o 4 (.aF (.n (-1)))])) (.ops [.m 74 8,.m 75 11,.v 76 .add 75 .w,.u 77 .add 74 76,.m 8 77]))) .skip)) (.seq (.s [.m 78 0,.m 79 8,.v 80 .add 79 .w,.o 81 (.qe (.t 78) (.t 80)),.m 82 7,.u 83 .eql 81 82,.m 84 83,.t 85 84 true 0,.t 86 84 true 8,.t 87 84 true 8,.t 88 84 true 5,.g 89 84 true (.bin .add (.t 87) (.t 88)),.g 90 84 true (.pL (.t 85) (some (.t 86)) (some (.t 89))),.t 91 84 true 1,.g 92 84 true (.bin .eql (.t 90) (.t 91)),.d 93 84 92] (.j 93 [.m 94 8,.m 4 94])) (.s [.m 95 8,.v 96 .add 95 .w,.m 8 96] (.s [.m 97 10,.v 98 .add 97 .w,.m 10 98] (.s [.m 99 5,.o 100 (.load none (.g 1)),.u 101 .leq 99 100,.m 102 101,.t 103 102 true 10,.t 104 102 true 8,.g 105 102 true (.call (.f 274) [.t 104]),.g 106 102 true (.bin .gtr (.t 103) (.t 105)),.d 107 102 106] (.i 107 (.s [.m 108 0,.m 109 8,.o 110 (.pL (.t 108) (some (.t 109)) none),.m 111 1,.c 112 273 [.t 110,.t 111],.m 12 112] (.seq (.s [.m 113 12,.v 114 .geq 113 .z] (.j 114 [.m 115 12,.m 116 8,.u 117 .add 115 116,.m 4 117])) (.r [.o 4 (.aF (.n (-1)))]))) (.s [.m 118 5,.o 119 (.load none (.g 1)),.u 120 .gtr 118 119,.m 121 120,.t 122 121 true 10,.t 123 121 true 8,.g 124 121 true (.bin .shr (.t 123) (.c (.int .u64 4))),.g 125 121 true (.bin .add (.n 4) (.t 124)),.g 126 121 true (.bin .geq (.t 122) (.t 125)),.d 127 121 126,.m 128 127,.t 129 128 true 8,.t 130 128 true 9,.g 131 128 true (.bin .lss (.t 129) (.t 130)),.d 132 128 131] (.i 132 (.s [.m 133 0,.m 134 8,.o 135 (.pL (.t 133) (some (.t 134)) none),.m 136 1,.c 137 275 [.t 135,.t 136],.m 13 137] (.seq (.s [.m 138 13,.v 139 .lss 138 .z] (.j 139 [.o 4 (.aF (.n (-1)))])) (.r [.m 140 8,.m 141 13,.u 142 .add 140 141,.m 4 142]))) .skip)))))))))))) (.r [.o 4 (.aF (.n (-1)))]))))))))))⟩
def fn254:ar:=⟨18,1,[(2,none),(3,none)],(.s [.o 2 (.aF .z),.o 3 (.bad)] (.s [.m 7 0,.c 8 276 [.t 7],.m 6 8,.e 9 6 0,.e 10 6 1,.m 4 9,.m 5 10] (.seq (.s [.m 11 5,.o 12 (.bad)] (.j 12 [.m 13 4,.m 14 0,.m 15 5,.o 16 (.call (.f 277) [(.c (.str [65,116,111,105])),.t 14,.z,.z,.t 15]),.m 2 13,.m 3 16])) (.r [.m 17 4,.m 2 17,.o 3 (.bad)]))))⟩
def yy:ar:=⟨8,1,[(3,none)],(.s [.p 2 0,.o 3 (.aF .F)] (.r [.a 4 1 2,.l 5 4,.l 6 1,.u 7 .eql 5 6,.m 3 7]))⟩
def fn255:ar:=yy
def fn259:ar:=⟨19,1,[],(.s [.l 4 1,.n 5 4,.v 6 .sub 5 .w,.m 3 6] (.block 0 (.loop (.seq (.s [.m 7 3,.v 8 .geq 7 .z] (.i 8 .skip (.exit 0))) (.seq (.block 1 (.s [.m 11 0,.m 12 3,.l 13 1,.m 14 3,.h 15 4 13 14,.r 16 4 15,.o 17 (.call (.t 11) [.t 12,.t 16]),.o 18 (.un .not (.t 17))] (.i 18 .ret .skip))) (.ops [.m 9 3,.v 10 .sub 9 .w,.m 3 10]))))))⟩
def fn263:ar:=⟨11,1,[(2,none),(3,none)],(.s [.o 2 (.aF (.c (.str []))),.o 3 (.aF (.c (.str [])))] (.seq (.s [.m 4 0] (.block 0 (.s [.v 6 .eql 4 .w,.m 5 6] (.i 5 (.r [.o 2 (.aF (.c (.str [115,104,111,116,115]))),.o 3 (.aF (.c (.str [115,104,111,116,115])))]) (.s [.v 8 .eql 4 (.n 2),.m 7 8] (.i 7 (.r [.o 2 (.aF (.c (.str [115,104,111,116,115]))),.o 3 (.aF (.c (.str [115,101,99,116,105,111,110])))]) (.s [.v 10 .eql 4 (.n 3),.m 9 10] (.j 9 [.o 2 (.aF (.c (.str [115,101,99,116,105,111,110]))),.o 3 (.aF (.c (.str [105,109,97,103,101])))])))))))) (.r [.o 2 (.aF (.c (.str [105,109,97,103,101]))),.o 3 (.aF (.c (.str [105,109,97,103,101])))])))⟩
def fn264:ar:=⟨13,2,[(4,none)],(.s [.p 2 0,.o 4 (.aF (.c (.str [])))] (.r [.y 5 (.aP 4 (.t 2)),.j 6 5,.y 7 (.load (some 7) (.t 2)),.w 8 1,.y 9 (.call (.f 55) [.t 7,.t 8]),.h 10 4 6 9,.a 11 1 10,.l 12 11,.m 4 12]))⟩
def fn265:ar:=⟨21,2,[(4,none)],(.s [.p 2 0,.o 4 (.aF .F)] (.seq (.s [.o 5 (.aF .z)] (.block 0 (.loop (.seq (.s [.m 6 5,.a 7 6 2,.l 8 7,.n 9 8,.u 10 .lss 6 9] (.i 10 .skip (.exit 0))) (.seq (.block 1 (.s [.a 13 6 2,.l 14 13,.m 15 5,.h 16 4 14 15,.a 17 1 16,.l 18 17,.m 19 1,.u 20 .eql 18 19] (.j 20 [.o 4 (.aF .T)]))) (.ops [.m 11 5,.v 12 .add 11 .w,.m 5 12])))))) (.r [.o 4 (.aF .F)])))⟩
def fn266:ar:=⟨19,2,[(4,none)],(.s [.o 4 (.aF .z)] (.seq (.s [.m 6 0,.n 7 6,.o 8 (.aF .z)] (.block 0 (.loop (.s [.u 9 .lss 8 7] (.seq (.i 9 .skip (.exit 0)) (.seq (.block 1 (.s [.m 10 8,.m 5 10] (.s [.m 11 1,.m 12 0,.m 13 5,.h 14 1 12 13,.l 15 14,.u 16 .eql 11 15] (.j 16 [.m 17 5,.m 4 17])))) (.ops [.v 18 .add 8 .w,.m 8 18]))))))) (.r [.o 4 (.aF (.n (-1)))])))⟩
def fn267:ar:=⟨30,2,[(4,none),(5,none)],(.s [.o 4 (.aF (.c (.int .u64 0))),.o 5 (.aF (.c (.int .u64 0)))] (.seq (.cond .F (.s [.m 11 0,.o 12 (.conv (.uc .u32) (.t 11)),.m 13 1,.o 14 (.conv (.uc .u32) (.t 13)),.c 15 285 [.t 12,.t 14],.m 10 15,.e 16 10 0,.e 17 10 1,.m 6 16,.m 7 17] (.r [.m 18 6,.o 19 (.conv (.uc .u64) (.t 18)),.m 20 7,.o 21 (.conv (.uc .u64) (.t 20)),.m 4 19,.m 5 21])) .skip) (.s [.m 23 0,.m 24 1,.c 25 286 [.t 23,.t 24],.m 22 25,.e 26 22 0,.e 27 22 1,.m 8 26,.m 9 27] (.r [.m 28 8,.m 29 9,.m 4 28,.m 5 29]))))⟩
def fn268:ar:=pK 238
def fn269:ar:=yy
def fn272:ar:=zC 288
def fn286:ar:=⟨51,2,[(4,none),(5,none)],(.s [.o 4 (.aF (.c (.int .u64 0))),.o 5 (.aF (.c (.int .u64 0)))] (.s [.m 14 0,.v 15 .and 14 (.c (.int .u64 4294967295)),.m 6 15] (.s [.m 16 0,.v 17 .shr 16 (.c (.int .u64 32)),.m 7 17] (.s [.m 18 1,.v 19 .and 18 (.c (.int .u64 4294967295)),.m 8 19] (.s [.m 20 1,.v 21 .shr 20 (.c (.int .u64 32)),.m 9 21] (.s [.m 22 6,.m 23 8,.u 24 .mul 22 23,.m 10 24] (.s [.m 25 7,.m 26 8,.u 27 .mul 25 26,.m 28 10,.v 29 .shr 28 (.c (.int .u64 32)),.u 30 .add 27 29,.m 11 30] (.s [.m 31 11,.v 32 .and 31 (.c (.int .u64 4294967295)),.m 12 32] (.s [.m 33 11,.v 34 .shr 33 (.c (.int .u64 32)),.m 13 34] (.s [.m 35 12,.m 36 6,.m 37 9,.u 38 .mul 36 37,.u 39 .add 35 38,.m 12 39] (.s [.m 40 7,.m 41 9,.u 42 .mul 40 41,.m 43 13,.u 44 .add 42 43,.m 45 12,.v 46 .shr 45 (.c (.int .u64 32)),.u 47 .add 44 46,.m 4 47] (.r [.m 48 0,.m 49 1,.u 50 .mul 48 49,.m 5 50]))))))))))))⟩
def fn322:ar:=kL
def fn323:ar:=kL
def fn324:ar:=kL
abbrev Cf(P:Program)(n:Nat)(A:ar):Prop:=bQ P n=some A
structure fy(P:Program):Prop where
 mix:P.follows .mixedOrders=true
 m123:iD P 78 "moveout/house.name" =some 123
 m322:iD P 73 "moveout/house.name" =some 322
 m140:iD P 74 "moveout/house.name" =some 140
 m120:iD P 134 "moveout/house.name" =some 120
 m324:iD P 136 "moveout/house.name" =some 324
 m323:iD P 130 "moveout/house.name" =some 323
 c2:Cf P 2 fn2
 c3:Cf P 3 fn3
 c4:Cf P 4 fn4
 c14:Cf P 14 fn14
 c15:Cf P 15 fn15
 c16:Cf P 16 fn16
 c17:Cf P 17 fn17
 c18:Cf P 18 fn18
 c19:Cf P 19 fn19
 c20:Cf P 20 fn20
 c21:Cf P 21 fn21
 c22:Cf P 22 fn22
 c23:Cf P 23 fn23
 c25:Cf P 25 fn25
 c26:Cf P 26 fn26
 c27:Cf P 27 fn27
 c28:Cf P 28 fn28
 c29:Cf P 29 fn29
 c30:Cf P 30 fn30
 c31:Cf P 31 fn31
 c32:Cf P 32 fn32
 c35:Cf P 35 fn35
 c37:Cf P 37 fn37
 c39:Cf P 39 fn39
 c43:Cf P 43 fn43
 c44:Cf P 44 fn44
 c45:Cf P 45 fn45
 c51:Cf P 51 fn51
 c55:Cf P 55 fn55
 c56:Cf P 56 fn56
 c57:Cf P 57 fn57
 c58:Cf P 58 fn58
 c59:Cf P 59 fn59
 c60:Cf P 60 fn60
 c62:Cf P 62 fn62
 c64:Cf P 64 fn64
 c67:Cf P 67 fn67
 c70:Cf P 70 fn70
 c71:Cf P 71 fn71
 c72:Cf P 72 fn72
 c73:Cf P 73 fn73
 c74:Cf P 74 fn74
 c75:Cf P 75 fn75
 c76:Cf P 76 fn76
 c77:Cf P 77 fn77
 c78:Cf P 78 fn78
 c79:Cf P 79 fn79
 c80:Cf P 80 fn80
 c81:Cf P 81 fn81
 c82:Cf P 82 fn82
 c83:Cf P 83 fn83
 c84:Cf P 84 fn84
 c85:Cf P 85 fn85
 c86:Cf P 86 fn86
 c87:Cf P 87 fn87
 c88:Cf P 88 fn88
 c89:Cf P 89 fn89
 c90:Cf P 90 fn90
 c91:Cf P 91 fn91
 c92:Cf P 92 fn92
 c93:Cf P 93 fn93
 c94:Cf P 94 fn94
 c95:Cf P 95 fn95
 c96:Cf P 96 fn96
 c97:Cf P 97 fn97
 c98:Cf P 98 fn98
 c99:Cf P 99 fn99
 c101:Cf P 101 fn101
 c102:Cf P 102 fn102
 c108:Cf P 108 fn108
 c109:Cf P 109 fn109
 c110:Cf P 110 fn110
 c111:Cf P 111 fn111
 c112:Cf P 112 fn112
 c113:Cf P 113 fn113
 c114:Cf P 114 fn114
 c115:Cf P 115 fn115
 c116:Cf P 116 fn116
 c117:Cf P 117 fn117
 c118:Cf P 118 fn118
 c119:Cf P 119 fn119
 c120:Cf P 120 fn120
 c121:Cf P 121 fn121
 c122:Cf P 122 fn122
 c123:Cf P 123 fn123
 c124:Cf P 124 fn124
 c125:Cf P 125 fn125
 c126:Cf P 126 fn126
 c127:Cf P 127 fn127
 c128:Cf P 128 fn128
 c129:Cf P 129 fn129
 c130:Cf P 130 fn130
 c131:Cf P 131 fn131
 c132:Cf P 132 fn132
 c133:Cf P 133 fn133
 c134:Cf P 134 fn134
 c135:Cf P 135 fn135
 c136:Cf P 136 fn136
 c137:Cf P 137 fn137
 c138:Cf P 138 fn138
 c139:Cf P 139 fn139
 c140:Cf P 140 fn140
 c141:Cf P 141 fn141
 c142:Cf P 142 fn142
 c143:Cf P 143 fn143
 c144:Cf P 144 fn144
 c145:Cf P 145 fn145
 c146:Cf P 146 fn146
 c147:Cf P 147 fn147
 c148:Cf P 148 fn148
 c149:Cf P 149 fn149
 c150:Cf P 150 fn150
 c151:Cf P 151 fn151
 c152:Cf P 152 fn152
 c153:Cf P 153 fn153
 c154:Cf P 154 fn154
 c155:Cf P 155 fn155
 c156:Cf P 156 fn156
 c157:Cf P 157 fn157
 c158:Cf P 158 fn158
 c159:Cf P 159 fn159
 c160:Cf P 160 fn160
 c161:Cf P 161 fn161
 c162:Cf P 162 fn162
 c163:Cf P 163 fn163
 c164:Cf P 164 fn164
 c165:Cf P 165 fn165
 c166:Cf P 166 fn166
 c167:Cf P 167 fn167
 c168:Cf P 168 fn168
 c169:Cf P 169 fn169
 c170:Cf P 170 fn170
 c171:Cf P 171 fn171
 c172:Cf P 172 fn172
 c173:Cf P 173 fn173
 c174:Cf P 174 fn174
 c175:Cf P 175 fn175
 c176:Cf P 176 fn176
 c177:Cf P 177 fn177
 c178:Cf P 178 fn178
 c179:Cf P 179 fn179
 c180:Cf P 180 fn180
 c181:Cf P 181 fn181
 c182:Cf P 182 fn182
 c183:Cf P 183 fn183
 c184:Cf P 184 fn184
 c185:Cf P 185 fn185
 c186:Cf P 186 fn186
 c187:Cf P 187 fn187
 c188:Cf P 188 fn188
 c189:Cf P 189 fn189
 c190:Cf P 190 fn190
 c193:Cf P 193 fn193
 c194:Cf P 194 fn194
 c195:Cf P 195 fn195
 c197:Cf P 197 fn197
 c198:Cf P 198 fn198
 c199:Cf P 199 fn199
 c200:Cf P 200 fn200
 c201:Cf P 201 fn201
 c202:Cf P 202 fn202
 c203:Cf P 203 fn203
 c204:Cf P 204 fn204
 c205:Cf P 205 fn205
 c206:Cf P 206 fn206
 c207:Cf P 207 fn207
 c208:Cf P 208 fn208
 c213:Cf P 213 fn213
 c214:Cf P 214 fn214
 c215:Cf P 215 fn215
 c216:Cf P 216 fn216
 c217:Cf P 217 fn217
 c218:Cf P 218 fn218
 c219:Cf P 219 fn219
 c221:Cf P 221 fn221
 c222:Cf P 222 fn222
 c223:Cf P 223 fn223
 c224:Cf P 224 fn224
 c225:Cf P 225 fn225
 c226:Cf P 226 fn226
 c227:Cf P 227 fn227
 c228:Cf P 228 fn228
 c229:Cf P 229 fn229
 c230:Cf P 230 fn230
 c231:Cf P 231 fn231
 c232:Cf P 232 fn232
 c233:Cf P 233 fn233
 c234:Cf P 234 fn234
 c235:Cf P 235 fn235
 c236:Cf P 236 fn236
 c237:Cf P 237 fn237
 c238:Cf P 238 fn238
 c239:Cf P 239 fn239
 c240:Cf P 240 fn240
 c241:Cf P 241 fn241
 c242:Cf P 242 fn242
 c243:Cf P 243 fn243
 c244:Cf P 244 fn244
 c245:Cf P 245 fn245
 c246:Cf P 246 fn246
 c247:Cf P 247 fn247
 c248:Cf P 248 fn248
 c249:Cf P 249 fn249
 c250:Cf P 250 fn250
 c251:Cf P 251 fn251
 c252:Cf P 252 fn252
 c253:Cf P 253 fn253
 c254:Cf P 254 fn254
 c255:Cf P 255 fn255
 c259:Cf P 259 fn259
 c263:Cf P 263 fn263
 c264:Cf P 264 fn264
 c265:Cf P 265 fn265
 c266:Cf P 266 fn266
 c267:Cf P 267 fn267
 c268:Cf P 268 fn268
 c269:Cf P 269 fn269
 c272:Cf P 272 fn272
 c286:Cf P 286 fn286
 c322:Cf P 322 fn322
 c323:Cf P 323 fn323
 c324:Cf P 324 fn324
end Go.Abs
