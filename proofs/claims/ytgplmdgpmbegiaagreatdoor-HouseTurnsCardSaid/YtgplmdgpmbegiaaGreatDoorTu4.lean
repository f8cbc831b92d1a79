/- A part of the proof that HouseTurns holds. No condition. -/
import Derived.Test.YtgplmdgpmbegiaaGreatDoorTu3
import Derived.Test.YtgplmdgpmbegiaaGreatDoorProg
import Derived.Test.YtgplmdgpmbegiaaGreatDoorTu0
set_option linter.all false
namespace Go.Abs
def Ext(h h':ah):Prop:=∃g,h' =h++g
def Ext.refl(h:ah):Ext h h:=⟨[],Si⟩
def Ext.app{h k}(g:ah)(e:Ext h k):Ext h (k++g):=by
 obtain⟨x,rfl⟩:=e;exact⟨x++g,Si⟩
def Ext.trans{a b c}(h:Ext a b)(k:Ext b c):Ext a c:=by
 obtain⟨x,rfl⟩:=h;obtain⟨y,rfl⟩:=k;exact⟨x++y,Si⟩
def Ext.get{h k}(e:Ext h k){b}(hb:b<h.length):k[b]? =h[b]? :=by
 obtain⟨x,rfl⟩:=e;exact Z7 hb
theorem Ext.some{h k:ah}(e:Ext h k){b:Nat}{x:ak}(hb:h[b]? =some x):k[b]? =some x:=by
 rw[e.get (Z2.1 hb).1];exact hb
def Ext.len{h k}(e:Ext h k):h.length<=k.length:=by
 obtain⟨x,rfl⟩:=e;simp
def uj(P:Program)(q:Bool)(fv:AV)(args:List AV)(h:ah)(K:AV->ah->Prop):Prop:=
 ∃v h',fI P fv args h v h'/\(q=true->Ext h h')/\K v h'
def jd.quiet:jd->Bool
 |.ar=>true
 |.push _=>true
 |_=>false
def jd.Av{e:jd}{h:ah}(he:e.quiet=true):Ext h (e.app h):=by
 cases e with
 |ar=>exact Ext.refl h
 |push k=>exact⟨[k],rfl⟩
 |set b k=>cases he
 |oa b k k'=>cases he
def WK(P:Program)(q:Bool)(k:pI)(ρ:c7->AV)(h:ah)(K:AV->ah->Prop):Prop:=
 match k with
 |.call f args=>uj P q (ρ f) (args.map ρ) h K
 |k=>
  match stepT k ρ (λb=>h[b]?) h.length with
  |some (v,e)=>(q=true->e.quiet=true)/\K v (e.app h)
  |none=>False
def C7(d:Option Nat)(k:pI)(n:Nat)(X:Prop):Prop:=
 match k,d with
 |.mq _ _,some d=>d<n/\X
 |_,_=>X
def qW{d k n}{X:Prop}:C7 d k n X↔vj d k n/\X:=by
 cases k<;>cases d<;>simp[C7,vj]
def C7.mono{d k n}{X Y:Prop}(h:X->Y)(x:C7 d k n X):C7 d k n Y:=qW.2 ⟨(qW.1 x).1,h (qW.1 x).2⟩
def WS(P:Program)(o:bL)(ts:TS)(h:ah)(K:AV->ah->Prop):Prop:=
 match o.gd with
 |none=>C7 o.dst o.k ts.length (WK P o.q o.k (val ts) h K)
 |some (t,b)=>
  match val ts (.t t)with
  |.bool c=>if c=b then C7 o.dst o.k ts.length (WK P o.q o.k (val ts) h K)else K az h
  |_=>K az h
def WO(P:Program):List bL->TS->ah->(TS->ah->Prop)->Prop
 |[],ts,h,Q=>Q ts h
 |o::r,ts,h,Q=>WS P o ts h (λv h1=>WO P r (put ts o.dst v) h1 Q)
def WK.sound{P:Program}{q:Bool}{k:pI}{ρ:c7->AV}{h:ah}{K:AV->ah->Prop}(H:WK P q k ρ h K):∃v h',ql P k ρ h v h'/\(q=true->Ext h h')/\K v h':=by
 by_cases hc:∃f args,k=.call f args
 ·obtain⟨f,args,rfl⟩:=hc;exact H
 ·have H':(match stepT k ρ (λb=>h[b]?) h.length with
   |some (v,e)=>(q=true->e.quiet=true)/\K v (e.app h)
   |none=>False):=by
   exact z208
  split at H'
  case h_2=>exact H'.elim
  rename_i v e he;refine⟨v,e.app h,?_,λhq=>jd.Av (H'.1 hq),H'.2⟩;have:=nZ he;cases k<;>first|exact this|exact absurd ⟨_,_,rfl⟩ hc
theorem WS.sound{P o ts h K}(H:WS P o ts h K):∃v h',dL P o ts h (put ts o.dst v) h'/\(o.q=true->∃g,h' =h++g)/\K v h':=by
 have run:wanted o.gd ts->C7 o.dst o.k ts.length (WK P o.q o.k (val ts) h K)->∃v h',dL P o ts h (put ts o.dst v) h'/\(o.q=true->∃g,h' =h++g)/\K v h':=λhw hk=>by
  obtain⟨hb,hk⟩:=qW.1 hk;obtain⟨v,h',h1,h2,h3⟩:=hk.sound;exact⟨v,h',.run hw hb h1,h2,h3⟩
 have skip:¬wanted o.gd ts->K az h->∃v h',dL P o ts h (put ts o.dst v) h'/\(o.q=true->∃g,h' =h++g)/\K v h':=λhw hk=>
  ⟨az,h,.skip hw,λ_=>Ext.refl h,hk⟩
 unfold WS at H;split at H
 ·rename_i hg;exact run (by rw[hg];trivial) H
 ·rename_i t b hg;split at H
  ·rename_i c hv;have hx:ts[t]? =some (.bool c):=by
    simp only[val,List.getD]at hv;cases hy:ts[t]? with
    |none=>rw[hy]at hv;cases hv
    |some z=>rw[hy]at hv;simp only[acg]at hv;rw[hv]
   split at H
   ·rename_i hcb;subst hcb;exact run (by rw[hg];exact hx) H
   ·rename_i hcb;refine skip (λhw=>hcb ?_) H;rw[hg]at hw;simp only[wanted,hx,aaB,AV.bool.injEq]at hw;exact hw
  ·rename_i hv;refine skip (λhw=>?_) H;rw[hg]at hw;simp only[wanted]at hw;exact hv b (by simp[val,List.getD,hw])
theorem WO.sound{P}:∀{l}{ts}{h}{Q},WO P l ts h Q->∃ts' h',yV P l ts h ts' h'/\Q ts' h'
 |[],ts,h,Q,H=>⟨ts,h,⟨rfl,rfl⟩,H⟩
 |o::r,ts,h,Q,H=>by
  obtain⟨v,h1,h2,h3,h4⟩:=WS.sound H;obtain⟨ts',h',h5,h6⟩:=WO.sound (l:=r) h4;exact⟨ts',h',⟨_,h1,h2,h3,h5⟩,h6⟩
def WM(P:Program)(S:ah->Prop):List bL->TS->ah->(TS->ah->Prop)->Prop
 |[],ts,h,K=>S h/\K ts h
 |o::r,ts,h,K=>S h/\((kV (o::r)=true/\WO P (o::r) ts h K)\/(kV (o::r)=false/\
   ((nf o=true/\∃v,(∀g,S g->dL P o ts g (put ts o.dst v) g)/\WM P S r (put ts o.dst v) h K)\/(nf o=false/\WS P o ts h (λv h1=>WM P S r (put ts o.dst v) h1 K)))))
theorem WM.sound{P S}:∀{l}{ts}{h}{K},WM P S l ts h K->∃T H,Row P l T H/\T 0=ts/\H 0=h/\(∀(i:Nat) (io:bL),l[i]? =some io->nf io=true->∀g,S g->dL P io (T i) g (T (i+1)) g)/\(∀θ,θ<=dS l->S (H θ))/\K (T l.length) (H l.length)
 |[],ts,h,K,H=>⟨λ_=>ts,λ_=>h,⟨λi o ho=>by simp at ho⟩,rfl,rfl,λi io ho=>by simp at ho,λ_ _=>H.1,H.2⟩
 |o::r,ts,h,K,H=>by
  obtain⟨h0,H⟩:=H;rcases H with⟨hall,H⟩|⟨hall,H⟩
  ·obtain⟨ts',h',h1,h2⟩:=WO.sound H;obtain⟨T,G,rfl,rfl,rfl,rfl,r5⟩:=h1.row;refine⟨T,G,r5,rfl,rfl,λi io hio hld=>?_,λθ hθ=>?_,h2⟩
   ·have:=aaE.1 (Bool.and_eq_true_iff.1 hall).1 io (aaW hio);unfold nf at hld;unfold C0 at this;cases hk:io.k<;>rw[hk]at hld this<;>simp[fO]at hld this
   ·rw[dS,aai hall]at hθ;have:θ=0:=Om
    subst this;exact h0
  have key:∃v h1,dL P o ts h (put ts o.dst v) h1/\(o.q=true->∃g,h1=h++g)/\(nf o=true->∀g,S g->dL P o ts g (put ts o.dst v) g)/\WM P S r (put ts o.dst v) h1 K:=by
   rcases H with⟨hl,v,h1,h2⟩|⟨hl,H⟩
   ·exact⟨v,h,h1 h h0,λ_=>⟨[],Si⟩,λ_=>h1,h2⟩
   ·obtain⟨v,h1,h2,h3,h4⟩:=WS.sound H;refine⟨v,h1,h2,h3,λz=>?_,h4⟩;rw[hl]at z;cases z
  obtain⟨v,h1,k1,k2,k3,k4⟩:=key;obtain⟨T,G,r1,r2,r3,r4,r5,r6⟩:=WM.sound (l:=r) k4
  let T':Nat->TS:=λn=>match n with| 0=>ts|n+1=>T n
  let G':Nat->ah:=λn=>match n with| 0=>h|n+1=>G n
  refine⟨T',G',⟨λi o' ho=>?_⟩,rfl,rfl,λi io hio hld g hg=>?_,λθ hθ=>?_,r6⟩
  ·cases i with
   |zero=>
    simp only[abg,aaB]at ho;subst ho;show dL P o ts h (T 0) (G 0)/\(o.q=true->∃g,G 0=h++g);rw[r2,r3];exact⟨k1,k2⟩
   |succ i=>exact r1.step i o' (by simpa using ho)
  ·cases i with
   |zero=>
    simp only[abg,aaB]at hio;subst hio;show dL P o ts g (T 0) g;rw[r2];exact k3 hld g hg
   |succ i=>exact r4 i io (by simpa using hio) hld g hg
  ·cases θ with
   |zero=>exact h0
   |succ θ=>
    rw[dS,aab (by rw[hall];decide)]at hθ;exact r5 θ Om
def W(P:Program)(ro:Option Nat->Prop):ai->TS->ah->(Ex->TS->ah->Prop)->Prop
 |.skip,ts,h,Q=>Q .normal ts h
 |.ops l,ts,h,Q=>WO P l ts h (Q .normal)
 |.s9 l,ts,h,Q=>Bu h l ts [] λts' cs=>fy cs/\Q .normal ts' (ee h cs)
 |.mP l,ts,h,Q=>∃S,WM P S l ts h (Q .normal)
 |.seq a b,ts,h,Q=>W P ro a ts h λe Uy h1=>
  match e with
  |.normal=>W P ro b Uy h1 Q
  |.exit id=>Q (.exit id) Uy h1
  |.ret=>Q .ret Uy h1
 |.cond c a b,ts,h,Q=>
  match val ts c with
  |.bool t=>(t=true->W P ro a ts h Q)/\(t=false->W P ro b ts h Q)
  |_=>False
 |.block id a,ts,h,Q=>W P ro a ts h λe=>Q (e.inBlock id)
 |.loop a,ts,h,Q=>∃e ts' h',(∀r,ro r->uh P r a ts h e ts' h')/\Q e ts' h'
 |.exit id,ts,h,Q=>Q (.exit id) ts h
 |.ret,ts,h,Q=>Q .ret ts h
 |.gg g ps asg body,ts,h,Q=>∃e ts' h',(∀r,ro r->Ev P r (.gg g ps asg body) ts h e ts' h')/\Q e ts' h'
 |.bad,_,_,_=>False
def bJ:Option Nat->Prop:=λr=>r=none
def C6:Option Nat->Prop:=λr=>∃l,r=some l
theorem W.sound{P}(hmix:P.follows .mixedOrders=true){ro}:∀{c}{ts}{h}{Q},W P ro c ts h Q->∃e ts' h',(∀r,ro r->Ev P r c ts h e ts' h')/\Q e ts' h'
 |.skip,ts,h,Q,H=>⟨.normal,ts,h,λ_ _=>.skip,H⟩
 |.ops l,ts,h,Q,H=>by
  obtain⟨ts',h',h1,h2⟩:=WO.sound (l:=l) H;exact⟨.normal,ts',h',λ_ _=>.ops hmix h1,h2⟩
 |.s9 l,ts,h,Q,H=>by
  obtain⟨VO,ZZ,ts',h1,⟨h2,h3⟩,h4,h5⟩:=Bu.sound (l:=l) H;rw[abI]at h2 h3;exact⟨.normal,ts',ee h VO,λ_ _=>.s9 hmix h1 (by simpa using h4 [] [] (by simpa using h2)),by rw[h5];exact h3⟩
 |.mP l,ts,h,Q,H=>by
  obtain⟨S,H⟩:=H;obtain⟨T,G,r1,rfl,rfl,r4,r5,r6⟩:=WM.sound (l:=l) H;exact⟨.normal,_,_,λ_ _=>.mP hmix r1 λi io hio hld θ hθ=>r4 i io hio hld _ (r5 θ hθ),r6⟩
 |.seq a b,ts,h,Q,H=>by
  obtain⟨e,Uy,h1,h2,h3⟩:=W.sound hmix (c:=a) H;cases e with
  |normal=>
   obtain⟨e,ts',h',h4,h5⟩:=W.sound hmix (c:=b) h3;exact⟨e,ts',h',λr hr=>.seq (h2 r hr) (h4 r hr),h5⟩
  |exit id=>exact⟨_,Uy,h1,λr hr=>.vO (h2 r hr) Si,h3⟩
  |ret=>exact⟨_,Uy,h1,λr hr=>.vO (h2 r hr) Si,h3⟩
 |.cond c a b,ts,h,Q,H=>by
  unfold W at H;split at H
  case h_2=>exact H.elim
  rename_i t hv;cases t with
  |true=>
   obtain⟨e,ts',h',h4,h5⟩:=W.sound hmix (c:=a) (H.1 rfl);exact⟨e,ts',h',λr hr=>.cond hv (h4 r hr),h5⟩
  |false=>
   obtain⟨e,ts',h',h4,h5⟩:=W.sound hmix (c:=b) (H.2 rfl);exact⟨e,ts',h',λr hr=>.cond hv (h4 r hr),h5⟩
 |.block id a,ts,h,Q,H=>by
  obtain⟨e,ts',h',h4,h5⟩:=W.sound hmix (c:=a) H;exact⟨_,ts',h',λr hr=>.block (h4 r hr),h5⟩
 |.loop a,ts,h,Q,H=>by
  obtain⟨e,ts',h',h4,h5⟩:=H;exact⟨e,ts',h',λr hr=>.loop (h4 r hr),h5⟩
 |.exit id,ts,h,Q,H=>⟨_,ts,h,λ_ _=>.exit,H⟩
 |.ret,ts,h,Q,H=>⟨_,ts,h,λ_ _=>.ret,H⟩
 |.gg g ps asg body,ts,h,Q,H=>H
 |.bad,ts,h,Q,H=>H.elim
def uj.mono{P q fv args h K K'}(H:uj P q fv args h K)(hk:∀v h',K v h'->K' v h'):uj P q fv args h K':=by
 obtain⟨v,h',h1,h2,h3⟩:=H;exact⟨v,h',h1,h2,hk v h' h3⟩
theorem WK.mono{P q k ρ h K K'}(H:WK P q k ρ h K)(hk:∀v h',K v h'->K' v h'):WK P q k ρ h K':=by
 by_cases hc:∃f args,k=.call f args
 ·obtain⟨f,args,rfl⟩:=hc;exact uj.mono H hk
 ·have H':(match stepT k ρ (λb=>h[b]?) h.length with
   |some (v,e)=>(q=true->e.quiet=true)/\K v (e.app h)
   |none=>False):=by
   exact z208
  have G':(match stepT k ρ (λb=>h[b]?) h.length with
   |some (v,e)=>(q=true->e.quiet=true)/\K' v (e.app h)
   |none=>False):=by
   split at H'
   case h_2=>exact H'.elim
   exact⟨H'.1,hk _ _ H'.2⟩
  cases k<;>first|exact G'|exact absurd ⟨_,_,rfl⟩ hc
theorem WS.mono{P o ts h K K'}(H:WS P o ts h K)(hk:∀v h',K v h'->K' v h'):WS P o ts h K':=by
 unfold WS at H ⊢;cases hg:o.gd with
 |none=>rw[hg]at H;exact C7.mono (λz=>WK.mono z hk) H
 |some p=>
  obtain⟨t,b⟩:=p;rw[hg]at H;simp only at H ⊢;cases hv:val ts (.t t)with
  |bool c=>
   rw[hv]at H;simp only at H ⊢;by_cases hcb:c=b
   ·rw[aai hcb]at H ⊢;exact C7.mono (λz=>WK.mono z hk) H
   ·rw[aab hcb]at H ⊢;exact hk _ _ H
  |_=>rw[hv]at H;exact hk _ _ H
theorem WO.mono{P}:∀{l}{ts}{h}{Q Q'},WO P l ts h Q->(∀ts' h',Q ts' h'->Q' ts' h')->WO P l ts h Q'
 |[],ts,h,Q,Q',H,hq=>hq _ _ H
 |o::r,ts,h,Q,Q',H,hq=>WS.mono (o:=o) H λv h1 h2=>WO.mono (l:=r) h2 hq
theorem WM.mono{P S}:∀{l}{ts}{h}{K K'},WM P S l ts h K->(∀ts' h',K ts' h'->K' ts' h')->WM P S l ts h K'
 |[],ts,h,K,K',H,hk=>⟨H.1,hk _ _ H.2⟩
 |o::r,ts,h,K,K',H,hk=>by
  obtain⟨h0,H⟩:=H;refine⟨h0,?_⟩;rcases H with⟨ha,H⟩|⟨ha,H⟩
  ·exact .inl ⟨ha,WO.mono (l:=o::r) H hk⟩
  refine .inr ⟨ha,?_⟩;rcases H with⟨hl,v,h1,h2⟩|⟨hl,H⟩
  ·exact .inl ⟨hl,v,h1,WM.mono (l:=r) h2 hk⟩
  ·exact .inr ⟨hl,WS.mono (o:=o) H λv h1 h2=>WM.mono (l:=r) h2 hk⟩
theorem W.mono{P ro}:∀{c}{ts}{h}{Q Q'},W P ro c ts h Q->(∀e ts' h',Q e ts' h'->Q' e ts' h')->W P ro c ts h Q'
 |.skip,ts,h,Q,Q',H,hq=>hq _ _ _ H
 |.ops l,ts,h,Q,Q',H,hq=>WO.mono (l:=l) H (hq .normal)
 |.s9 l,ts,h,Q,Q',H,hq=>Bu.mono (l:=l) H λts' cs h1=>⟨h1.1,hq _ _ _ h1.2⟩
 |.mP l,ts,h,Q,Q',H,hq=>by obtain⟨S,H⟩:=H;exact⟨S,WM.mono (l:=l) H (hq .normal)⟩
 |.seq a b,ts,h,Q,Q',H,hq=>W.mono (c:=a) H λe Uy h1 h2=>by
  cases e with
  |normal=>exact W.mono (c:=b) h2 hq
  |exit id=>exact hq _ _ _ h2
  |ret=>exact hq _ _ _ h2
 |.cond c a b,ts,h,Q,Q',H,hq=>by
  unfold W at H ⊢;split at H
  case h_2=>exact H.elim
  exact⟨λh=>W.mono (c:=a) (H.1 h) hq,λh=>W.mono (c:=b) (H.2 h) hq⟩
 |.block id a,ts,h,Q,Q',H,hq=>W.mono (c:=a) H λe Uy h1 h2=>hq _ _ _ h2
 |.loop a,ts,h,Q,Q',H,hq=>by obtain⟨e,ts',h',h4,h5⟩:=H;exact⟨e,ts',h',h4,hq _ _ _ h5⟩
 |.exit id,ts,h,Q,Q',H,hq=>hq _ _ _ H
 |.ret,ts,h,Q,Q',H,hq=>hq _ _ _ H
 |.gg g ps asg body,ts,h,Q,Q',H,hq=>by obtain⟨e,ts',h',h4,h5⟩:=H;exact⟨e,ts',h',h4,hq _ _ _ h5⟩
 |.bad,ts,h,Q,Q',H,hq=>H.elim
inductive Kt where
 |Ce (b:ai)
 |sL (id:Nat)
def kq(P:Program)(ro:Option Nat->Prop):List Kt->(Ex->TS->ah->Prop)->Ex->TS->ah->Prop
 |[],Q,e,ts,h=>Q e ts h
 |.Ce b::ks,Q,e,ts,h=>
  match e with
  |.normal=>W P ro b ts h (kq P ro ks Q)
  |.exit id=>kq P ro ks Q (.exit id) ts h
  |.ret=>kq P ro ks Q .ret ts h
 |.sL id::ks,Q,e,ts,h=>kq P ro ks Q (e.inBlock id) ts h
section
variable (P:Program) (ro:Option Nat->Prop)
def WC(c:ai)(ks:List Kt)(ts:TS)(h:ah)(Q:Ex->TS->ah->Prop):Prop:=W P ro c ts h (kq P ro ks Q)
def WE(e:Ex)(ks:List Kt)(ts:TS)(h:ah)(Q:Ex->TS->ah->Prop):Prop:=kq P ro ks Q e ts h
def WP(l:List bL)(ks:List Kt)(ts:TS)(h:ah)(Q:Ex->TS->ah->Prop):Prop:=WO P l ts h (kq P ro ks Q .normal)
def WG(g:AV)(b:Bool)(q:Bool)(k:pI)(dst:Option Nat)(l:List bL)(ks:List Kt)(ts:TS)(h:ah)(Q:Ex->TS->ah->Prop):Prop:=
 match g with
 |.bool c=>if c=b then C7 dst k ts.length (WK P q k (val ts) h (λv h1=>WP P ro l ks (put ts dst v) h1 Q))else WP P ro l ks (put ts dst az) h Q
 |_=>WP P ro l ks (put ts dst az) h Q
def WR(r:Option (AV×jd))(q:Bool)(dst:Option Nat)(l:List bL)(ks:List Kt)(ts:TS)(h:ah)(Q:Ex->TS->ah->Prop):Prop:=
 match r with
 |some (v,e)=>(q=true->e.quiet=true)/\WP P ro l ks (put ts dst v) (e.app h) Q
 |none=>False
def WF(q:Bool)(fv:AV)(args:List AV)(dst:Option Nat)(l:List bL)(ks:List Kt)(ts:TS)(h:ah)(Q:Ex->TS->ah->Prop):Prop:=
 uj P q fv args h (λv h1=>WP P ro l ks (put ts dst v) h1 Q)
def WB(v:AV)(a b:ai)(ks:List Kt)(ts:TS)(h:ah)(Q:Ex->TS->ah->Prop):Prop:=
 match v with
 |.bool t=>(t=true->WC P ro a ks ts h Q)/\(t=false->WC P ro b ks ts h Q)
 |_=>False
def WL(a:ai)(ks:List Kt)(ts:TS)(h:ah)(Q:Ex->TS->ah->Prop):Prop:=WC P ro (.loop a) ks ts h Q
def fX(g:AV)(ps:List Nat)(asg body:ai)(ks:List Kt)(ts:TS)(h:ah)(Q:Ex->TS->ah->Prop):Prop:=
 ∃e ts' h',(∀r,ro r->∀g',val ts g' =g->Ev P r (.gg g' ps asg body) ts h e ts' h')/\WE P ro e ks ts' h' Q
end
def LQ(I:Nat->TS->ah->Prop)(n:Nat)(R:Ex->TS->ah->Prop):Ex->TS->ah->Prop
 |.normal,ts,h=>∃m,m<n/\I m ts h
 |.exit id,ts,h=>R (.exit id) ts h
 |.ret,ts,h=>R .ret ts h
def FQ(rs:List (Nat×Option (Option Nat)))(R:AV->ah->Prop):Ex->TS->ah->Prop:=λe ts h=>e.leaves=true/\∃v,cT rs ts h=some v/\R v h
def GA(r:Option AV)(h:ah)(R:AV->ah->Prop):Prop:=
 match r with
 |some v=>R v h
 |none=>False
section
variable {P:Program}{ro:Option Nat->Prop}{ks:List Kt}{ts:TS}{h:ah}{Q:Ex->TS->ah->Prop}
def Gw:WC P ro .skip ks ts h Q=WE P ro .normal ks ts h Q:=rfl
def sQ{l}:WC P ro (.ops l) ks ts h Q=WP P ro l ks ts h Q:=rfl
def qh{a b}:WC P ro (.seq a b) ks ts h Q=WC P ro a (.Ce b::ks) ts h Q:=by
 unfold WC;simp only[W];congr 1
def Gz{c a b}:WC P ro (.cond c a b) ks ts h Q=WB P ro (val ts c) a b ks ts h Q:=rfl
def DV{id a}:WC P ro (.block id a) ks ts h Q=WC P ro a (.sL id::ks) ts h Q:=rfl
def Gx{a}:WC P ro (.loop a) ks ts h Q=WL P ro a ks ts h Q:=rfl
def Gy{id}:WC P ro (.exit id) ks ts h Q=WE P ro (.exit id) ks ts h Q:=rfl
def JM:WC P ro .ret ks ts h Q=WE P ro .ret ks ts h Q:=rfl
def rk{b}:WE P ro .normal (.Ce b::ks) ts h Q=WC P ro b ks ts h Q:=rfl
def Gu{b id}:WE P ro (.exit id) (.Ce b::ks) ts h Q=WE P ro (.exit id) ks ts h Q:=rfl
def Gv{b}:WE P ro .ret (.Ce b::ks) ts h Q=WE P ro .ret ks ts h Q:=rfl
def Bj{id}:WE P ro .normal (.sL id::ks) ts h Q=WE P ro .normal ks ts h Q:=rfl
def Bh{id Yx}:WE P ro (.exit Yx) (.sL id::ks) ts h Q=if Yx=id then WE P ro .normal ks ts h Q else WE P ro (.exit Yx) ks ts h Q:=by
 unfold WE;simp only[kq,Ex.inBlock];split<;>rfl
def Bi{id}:WE P ro .ret (.sL id::ks) ts h Q=WE P ro .ret ks ts h Q:=rfl
def JL{e}:WE P ro e [] ts h Q=Q e ts h:=rfl
def DS:WP P ro [] ks ts h Q=WE P ro .normal ks ts h Q:=rfl
def jk{d k q l}(hk:∀f args,k≠.call f args)(hb:∀n x,k≠.mq n x):WP P ro ({dst:=d,k:=k,gd:=none,q:=q} ::l) ks ts h Q=WR P ro (stepT k (val ts) (λb=>h[b]?) h.length) q d l ks ts h Q:=by
 cases k<;>first|exact absurd rfl (hk _ _)|exact absurd rfl (hb _ _)|rfl
def Gp{d f args q l}:WP P ro ({dst:=d,k:=.call f args,gd:=none,q:=q} ::l) ks ts h Q=WF P ro q (val ts f) (args.map (val ts)) d l ks ts h Q:=rfl
def Nr{d k t b q l}:WP P ro ({dst:=d,k:=k,gd:=some (t,b),q:=q} ::l) ks ts h Q=WG P ro (val ts (.t t)) b q k d l ks ts h Q:=rfl
def zV{d k b q l}(c:Bool)(hc:c≠b):WG P ro (.bool c) b q k d l ks ts h Q=WP P ro l ks (put ts d az) h Q:=by
 simp only[WG,aab hc]
def yT{d k b q l}:WG P ro (.bool b) b q k d l ks ts h Q=WP P ro ({dst:=d,k:=k,gd:=none,q:=q} ::l) ks ts h Q:=by
 simp only[WG,aai];rfl
def jy{v q d l}:WR P ro (some (v,.ar)) q d l ks ts h Q=WP P ro l ks (put ts d v) h Q:=by
 simp only[WR,jd.quiet,jd.app,implies_true,acE]
def mN{v k q d l}:WR P ro (some (v,.push k)) q d l ks ts h Q=WP P ro l ks (put ts d v) (h++[k]) Q:=by
 simp only[WR,jd.quiet,jd.app,implies_true,acE]
def sO{v b k d l}:WR P ro (some (v,.set b k)) false d l ks ts h Q=WP P ro l ks (put ts d v) (h.set b k) Q:=by
 exact Km
def nS{v b k k' d l}:WR P ro (some (v,.oa b k k')) false d l ks ts h Q=WP P ro l ks (put ts d v) (h.set b k++[k']) Q:=by
 exact Km
def zW{a b}:WB P ro (.bool true) a b ks ts h Q=WC P ro a ks ts h Q:=by simp[WB]
def xO{a b}:WB P ro (.bool false) a b ks ts h Q=WC P ro b ks ts h Q:=by simp[WB]
def Q0{I n R}:LQ I n R .normal ts h=∃m,m<n/\I m ts h:=rfl
def QY{I n R id}:LQ I n R (.exit id) ts h=R (.exit id) ts h:=rfl
def QZ{I n R}:LQ I n R .ret ts h=R .ret ts h:=rfl
def Q3{rs R}:FQ rs R .normal ts h=GA (cT rs ts h) h R:=by
 exact Ku
def Q2{rs R}:FQ rs R .ret ts h=GA (cT rs ts h) h R:=by
 exact Ku
def GB{v R}:GA (some v) h R=R v h:=rfl
def WL.inv(hmix:P.follows .mixedOrders=true){a}(I:Nat->TS->ah->Prop)(n:Nat)(h0:I n ts h)
  (step:∀(n:Nat) (ts:TS) (h:ah),I n ts h->WC P ro a [] ts h (LQ I n (λe ts h=>WE P ro e ks ts h Q))):WL P ro a ks ts h Q:=by
 have key:∀(k n:Nat) (ts:TS) (h:ah),n<=k->I n ts h->∃e ts' h',(∀r,ro r->uh P r a ts h e ts' h')/\kq P ro ks Q e ts' h':=by
  intro k
  induction k with
  |zero=>
   intro n ts h hn hi;obtain⟨e,ts',h',h1,h2⟩:=W.sound hmix (step n ts h hi);cases e with
   |normal=>obtain⟨m,hm,_⟩:=h2;omega
   |exit id=>exact⟨_,ts',h',λr hr=>.out (h1 r hr) Si,h2⟩
   |ret=>exact⟨_,ts',h',λr hr=>.out (h1 r hr) Si,h2⟩
  |succ k ih=>
   intro n ts h hn hi;obtain⟨e,ts',h',h1,h2⟩:=W.sound hmix (step n ts h hi);cases e with
   |normal=>
    obtain⟨m,hm,hi'⟩:=h2;obtain⟨e2,Wb,h3,h4,h5⟩:=ih m ts' h' Om hi';exact⟨e2,Wb,h3,λr hr=>.more (h1 r hr) (h4 r hr),h5⟩
   |exit id=>exact⟨_,ts',h',λr hr=>.out (h1 r hr) Si,h2⟩
   |ret=>exact⟨_,ts',h',λr hr=>.out (h1 r hr) Si,h2⟩
 exact key n n ts h (aah _) h0
def WC.cut{a}(R:Ex->TS->ah->Prop)(h1:WC P ro a [] ts h R)(h2:∀e ts h,R e ts h->WE P ro e ks ts h Q):WC P ro a ks ts h Q:=
 W.mono (c:=a) h1 h2
def ay(P:Program)(f:FuncId)(args:List AV)(h:ah)(R:AV->ah->Prop):Prop:=∃v g,my P f args h v (h++g)/\R v (h++g)
def bH(P:Program)(fv:AV)(args:List AV)(h:ah)(R:AV->ah->Prop):Prop:=∃v g,fI P fv args h v (h++g)/\R v (h++g)
def dA(P:Program)(f:FuncId)(args:List AV)(h:ah)(R:AV->ah->Prop):Prop:=∃v h',my P f args h v h'/\R v h'
def dA.of(hmix:P.follows .mixedOrders=true){f A}(hA:bT P f=some A){args R}
  (H:WC P bJ A.body [] (aW A.nt args) h (FQ A.rs R)):dA P f args h R:=by
 obtain⟨e,ts',h',h1,h2,v,h3,h4⟩:=W.sound hmix H;exact⟨v,h',.LX hA (h1 none rfl) h2 h3,h4⟩
theorem ay.of(hmix:P.follows .mixedOrders=true){f A}(hA:bT P f=some A){args R}
  (H:WC P bJ A.body [] (aW A.nt args) h (FQ A.rs (λv h'=>Ext h h'/\R v h'))):ay P f args h R:=by
 obtain⟨v,h',h1,⟨g,rfl⟩,h3⟩:=dA.of hmix hA H;exact⟨v,g,h1,h3⟩
def ay.mono{f args R R'}(H:ay P f args h R)(hr:∀v g,R v (h++g)->R' v (h++g)):ay P f args h R':=by
 obtain⟨v,g,h1,h2⟩:=H;exact⟨v,g,h1,hr v g h2⟩
def bH.of{f A}(hA:bT P f=some A){a c args R}(H:ay P f (a++args++c) h R):bH P (.func (.func f) a c) args h R:=by
 obtain⟨v,g,h1,h2⟩:=H;exact⟨v,g,.zp hA h1,h2⟩
def bH.AD{u:TypeId}{name f A}(hm:jf P u name=some f)(hA:bT P f=some A){a args R}(H:ay P f (a::args) h R):bH P (.func (.method name) [] []) (.vk u a::args) h R:=by
 obtain⟨v,g,h1,h2⟩:=H;exact⟨v,g,.EO hm hA h1,h2⟩
def WF.val{q fv args d l R}(H:bH P fv args h R)(K:∀v g,R v (h++g)->WP P ro l ks (put ts d v) (h++g) Q):WF P ro q fv args d l ks ts h Q:=by
 obtain⟨v,g,h1,h2⟩:=H;exact⟨v,h++g,h1,λ_=>⟨g,rfl⟩,K v g h2⟩
def WF.res{q f A}(hA:bT P f=some A){a c args d l R}(H:ay P f (a++args++c) h R)(K:∀v g,R v (h++g)->WP P ro l ks (put ts d v) (h++g) Q):WF P ro q (.func (.func f) a c) args d l ks ts h Q:=
 WF.val (bH.of hA H) K
def WF.gen{f A}(hA:bT P f=some A){a c args d l R}(H:dA P f (a++args++c) h R)(K:∀v h',R v h'->WP P ro l ks (put ts d v) h' Q):WF P ro false (.func (.func f) a c) args d l ks ts h Q:=by
 obtain⟨v,h',h1,h2⟩:=H;exact⟨v,h',.zp hA h1,(λhq=>absurd hq Si),K v h' h2⟩
end
end Go.Abs
namespace Go.Abs
inductive aI (h:ah):AV->Nat->List (List AV)->Prop
 |nil {es:Nat}:aI h .af es []
 |mk {b o es:Nat}{cs:List (List AV)}{c:List AV}{mu tl:Bool}(hb:h[b]? =some (.cells c mu tl)) (hf:(c.drop o).take (cs.length*es)=cs.flatten) (ho:o+cs.length*es<=c.length)
   (he:∀x∈cs,x.length=es):aI h (.slice b o cs.length es) es cs
inductive Fr (N:Nat) (h:ah):AV->Nat->List (List AV)->Prop
 |nil {es:Nat}:Fr N h .af es []
 |mk {b es:Nat}{cs:List (List AV)}{tl:Bool}(hN:N<=b) (hb:h[b]? =some (.cells cs.flatten true tl)) (he:∀x∈cs,x.length=es):Fr N h (.slice b 0 cs.length es) es cs
def AV.sb:AV->Nat
 |.slice b _ _ _=>b
 |_=>0
def AV.so:AV->Nat
 |.slice _ o _ _=>o
 |_=>0
theorem fh{es:Nat}:∀{cs:List (List AV)},(∀x∈cs,x.length=es)->cs.flatten.length=cs.length*es
 |[],_=>by simp
 |x::xs,he=>by
  have h1:=he x Si;have h2:=fh (cs:=xs) (λy hy=>he y (aaH _ hy));simp only[aa5,Z1,Z5,h1,h2,abp];omega
theorem mg{es:Nat}:∀{cs:List (List AV)},(∀x∈cs,x.length=es)->∀{i:Nat}(hi:i<cs.length),(cs.flatten.drop (i*es)).take es=cs[i]
 |[],_,i,hi=>by simp at hi
 |x::xs,he,0,_=>by
  have h1:=he x Si;simp[<-h1]
 |x::xs,he,i+1,hi=>by
  have h1:=he x Si;have h2:=mg (cs:=xs) (λy hy=>he y (aaH _ hy)) (i:=i) (by simpa using hi);simp only[aa5,List.getElem_cons_succ,<-h2];congr 1;rw[abp,acn,<-h1,List.drop_append];simp
def Fr.aY{N:Nat}{h:ah}{s:AV}{es:Nat}{cs:List (List AV)}(hs:Fr N h s es cs):aI h s es cs:=by
 cases hs with
 |nil=>exact .nil
 |mk hN hb he=>
  have hl:=fh he;exact .mk hb (by rw[abt,<-hl,aaI]) Om he
section
variable {h k:ah}{s:AV}{es:Nat}{cs:List (List AV)}
def aI.ar(hs:aI h s es cs)(hk:∀b,b<h.length->(∀b0 o n e,s=.slice b0 o n e->b=b0)->k[b]? =h[b]?):aI k s es cs:=by
 cases hs with
 |nil=>exact .nil
 |mk hb hf ho he=>
  refine .mk ((hk _ (Z2.1 hb).1 λb0 o n e hx=>?_).trans hb) hf ho he;cases hx;rfl
def aI.ext(hs:aI h s es cs)(e:Ext h k):aI k s es cs:=hs.ar λ_ hb _=>e.get hb
def aI.app(hs:aI h s es cs)(g:ah):aI (h++g) s es cs:=hs.ext ⟨g,rfl⟩
def Fr.ar{N}(hs:Fr N h s es cs)(hk:∀b,b<h.length->(∀b0 o n e,s=.slice b0 o n e->b=b0)->k[b]? =h[b]?):Fr N k s es cs:=by
 cases hs with
 |nil=>exact .nil
 |mk hN hb he=>
  refine .mk hN ((hk _ (Z2.1 hb).1 λb0 o n e hx=>?_).trans hb) he;cases hx;rfl
def Fr.ext{N}(hs:Fr N h s es cs)(e:Ext h k):Fr N k s es cs:=hs.ar λ_ hb _=>e.get hb
def Fr.app{N}(hs:Fr N h s es cs)(g:ah):Fr N (h++g) s es cs:=hs.ext ⟨g,rfl⟩
def Fr.low{N M}(hs:Fr N h s es cs)(hM:M<=N):Fr M h s es cs:=by
 cases hs with
 |nil=>exact .nil
 |mk hN hb he=>exact .mk Om hb he
def aI.rows(hs:aI h s es cs):∀x∈cs,x.length=es:=by
 cases hs with
 |nil=>simp
 |mk hb hf ho he=>exact he
theorem aI.ja(hs:aI h s es cs)(G:Nat->Option ak):ja .sl G s=some cs.length:=by
 cases hs<;>rfl
theorem aI.one(hs:aI h s es cs):s.one=true:=by
 cases hs<;>rfl
theorem aI.fG(hs:aI h s es cs):fG es (λb=>h[b]?) s=some (cs.flatten,cs.length):=by
 cases hs with
 |nil=>rfl
 |mk hb hf ho he=>simp only[Go.Abs.fG,aan,hb];rw[aai ho,hf]
def bf(es:Nat)(x i:AV):Option (AV×jd):=
 match x,i with
 |.slice b o n es',.int _ i=>if es' =es/\0<=i/\i<n then some (.ptr b (o+i.toNat*es),.ar)else none
 |_,_=>none
def ao(n:Option Nat)(a:AV)(G:Nat->Option ak):Option (AV×jd):=
 match a with
 |.ptr b o=>
  match G b with
  |some (.cells c _ _)=>
   match n with
   |none=>
    match c[o]? with
    |some x=>some (x,.ar)
    |none=>none
   |some n=>if o+n<=c.length then some (.agg ((c.drop o).take n),.ar)else none
  |_=>none
 |_=>none
def Al(es:Nat)(x:AV)(lo hi:Option AV):Option (AV×jd):=
 match x with
 |.slice b o n es'=>
  if es' =es then
   match ju lo hi n with
   |some (l,h')=>some (.slice b (o+l*es) (h'-l) es,.ar)
   |none=>none
  else none
 |.af=>
  match ju lo hi 0 with
  |some _=>some (.af,.ar)
  |none=>none
 |_=>none
def aI.bp(hs:aI h s es cs){i:Int}{k:IntKind}(h0:0<=i)(h1:i<cs.length):bf es s (.int k i)=some (.ptr s.sb (s.so+i.toNat*es),.ar):=by
 cases hs with
 |nil=>simp at h1;omega
 |mk hb hf ho he=>show(if es=es/\0<=i/\i<cs.length then _ else none)=_;rw[aai ⟨rfl,h0,h1⟩];rfl
def aI.load(hs:aI h s es cs){i:Nat}(hi:i<cs.length):ao (some es) (.ptr s.sb (s.so+i*es)) (λb=>h[b]?)=some (.agg cs[i],.ar):=by
 cases hs with
 |nil=>simp at hi
 | @mk b o es cs c mu tl hb hf ho he=>
  have hle:i*es+es<=cs.length*es:=by rw[<-abp];exact abc _ hi
  have h1:=mg he hi;show ao (some es) (.ptr b (o+i*es)) (λb=>h[b]?)=_;simp only[ao,hb];rw[aai Om,<-h1,<-hf,List.drop_take,List.take_take,abB,abR Om]
def aI.CY(hs:aI h s es cs){i off:Nat}(hi:i<cs.length){x:AV}(hx:cs[i][off]? =some x):ao none (.ptr s.sb (s.so+i*es+off)) (λb=>h[b]?)=some (x,.ar):=by
 cases hs with
 |nil=>simp at hi
 | @mk b o es cs c mu tl hb hf ho he=>
  have hle:i*es+es<=cs.length*es:=by rw[<-abp];exact abc _ hi
  have h1:=mg he hi;have h2:=he _ (aad hi);have h3:=(Z2.1 hx).1;rw[<-h1,<-hf,List.drop_take,List.take_take,abB,abR Om,List.getElem?_take]at hx;rw[aai Om,ack]at hx;show ao none (.ptr b (o+i*es+off)) (λb=>h[b]?)=_;simp only[ao,hb,hx]
def aI.G0(hs:aI h s 1 cs){i}(hi:i<cs.length){x}(hx:cs[i]=[x]):ao none (.ptr s.sb (s.so+i*1)) (λb=>h[b]?)=some (x,.ar):=
 hs.CY (off:=0) hi (by rw[hx];rfl)
def aI.sl(hs:aI h s es cs){lo hi l u}(hb:ju lo hi cs.length=some (l,u)):∃s',Al es s lo hi=some (s',.ar)/\aI h s' es ((cs.drop l).take (u-l)):=by
 have TO:l<=u/\u<=cs.length:=by
  unfold ju at hb;split at hb
  case h_2=>cases hb
  split at hb
  case isFalse=>cases hb
  cases hb;omega
 cases hs with
 |nil=>
  simp only[Z9]at hb;exact⟨.af,by simp only[Al,hb],by simp;exact .nil⟩
 | @mk b o es cs c mu tl hbk hf ho he=>
  have hlen:((cs.drop l).take (u-l)).length=u-l:=by simp;omega
  refine⟨.slice b (o+l*es) (u-l) es,by simp only[Al,aan,hb],?_⟩;have hul:(u-l)*es+l*es=u*es:=by rw[<-acm];congr 1;omega
  have hu:u*es<=cs.length*es:=abc _ TO.2;have:aI h (.slice b (o+l*es) ((cs.drop l).take (u-l)).length es) es ((cs.drop l).take (u-l)):=by
   refine .mk hbk ?_ (by rw[hlen];omega) λx hx=>he x (List.mem_of_mem_drop (aa4 hx))
   rw[hlen];have Zv:∀(cs:List (List AV)) (l n:Nat),(∀x∈cs,x.length=es)->l+n<=cs.length->((cs.drop l).take n).flatten=(cs.flatten.drop (l*es)).take (n*es):=by
    intro cs
    induction cs with
    |nil=>intro l n _ _;simp
    |cons x xs ih=>
     intro l n hx X8;have h1:=hx x Si;have h2:∀y∈xs,y.length=es:=λy hy=>hx y (aaH _ hy)
     cases l with
     |succ l=>
      rw[List.drop_succ_cons,ih l n h2 (by simp at X8;omega),aa5,show(l+1)*es=x.length+l*es from by rw[h1,abp,acn],<-abB,List.drop_left]
     |zero=>
      cases n with
      |zero=>simp
      |succ n=>
       have:=ih 0 n h2 (by simp at X8;omega);simp only[abt,ab7]at this ⊢;rw[abS,aa5,this,aa5,List.take_append,abp,aaM (l:=x) Om,h1];simp
   rw[Zv cs l (u-l) he Om,<-hf,List.drop_take,List.take_take,abB,abR (by rw[Nat.sub_mul]at hul ⊢;omega)]
  rw[hlen]at this;exact this
def Fr.push{N}(hN:N<=h.length)(cs:List (List AV))(he:∀x∈cs,x.length=es):Fr N (h++[.cells cs.flatten true true]) (.slice h.length 0 cs.length es) es cs:=
 .mk (tl:=true) hN Si he
end
end Go.Abs
namespace Go.Abs
section
variable (P:Program) (ro:Option Nat->Prop)
def WV(r:Option AV)(dst:Option Nat)(l:List bL)(ks:List Kt)(ts:TS)(h:ah)(Q:Ex->TS->ah->Prop):Prop:=
 match r with
 |some v=>WP P ro l ks (put ts dst v) h Q
 |none=>False
end
def tH(c a b:AV):Option AV:=
 match c with
 |.bool t=>some (if t then a else b)
 |_=>none
def pe(n:Nat)(x:AV)(N0:Nat):Option (AV×jd):=if x.cells.all AV.one=true/\x.cells.length=n then some (.ptr N0 0,.push (.cells x.cells true false))else none
def p8(x:AV)(N0:Nat):Option (AV×jd):=if x.cells.all AV.one then some (.ptr N0 0,.push (.cells x.cells true false))else none
def aX(n:Nat)(a x:AV)(G:Nat->Option ak):Option (AV×jd):=
 match a with
 |.ptr b o=>
  match G b with
  |some (.cells c true tl)=>
   if x.cells.length=n/\x.cells.all AV.one=true/\o+n<=c.length then some (az,.set b (.cells (gf c o x.cells) true tl))else none
  |_=>none
 |_=>none
def qO(x:AV):Option AV:=
 match x with
 |.ptr b o=>some (.ptr b o)
 |.func (.func f) a c=>some (.func (.func f) a c)
 |.func (.yield f) a c=>some (.func (.yield f) a c)
 |.func (.methodOf t n) a c=>some (.func (.methodOf t n) a c)
 |.func (.via t p f q) a c=>some (.func (.via t p f q) a c)
 |_=>none
def tN(es w:Nat)(z:List AV)(l c:AV)(N0:Nat):Option (AV×jd):=
 match l,c with
 |.int _ l,.int _ c=>
  if 0<=l/\l<=c/\(w:Int)*c<=2^48/\c<2^63 then some (.slice N0 0 l.toNat es,.push (.cells (dY l.toNat z) true true))else none
 |_,_=>none
def vI(x:AV)(lo hi:Option AV):Option AV:=
 match x with
 |.str s=>
  match ju lo hi s.length with
  |some (l,h')=>some (.str ((s.drop l).take (h'-l)))
  |none=>none
 |_=>none
def ua(off:Nat)(x:AV):Option AV:=
 match x with
 |.ptr b o=>some (.ptr b (o+off))
 |_=>none
def ng(len es:Nat)(x i:AV):Option AV:=
 match x,i with
 |.ptr b o,.int _ i=>if 0<=i/\i<len then some (.ptr b (o+i.toNat*es))else none
 |_,_=>none
def zl(n:Option Nat)(off:Nat)(x:AV):Option AV:=
 match x with
 |.agg cs=>
  match n with
  |none=>cs[off]?
  |some n=>some (.agg ((cs.drop off).take n))
 |_=>none
def MB(len es:Nat)(n:Option Nat)(x i:AV):Option AV:=
 match x,i with
 |.agg cs,.int _ i=>
  if 0<=i/\i<len then
   match n with
   |none=>cs[i.toNat*es]?
   |some n=>some (.agg ((cs.drop (i.toNat*es)).take n))
  else none
 |_,_=>none
def wI(x i:AV):Option AV:=
 match x,i with
 |.str s,.int _ i=>
  if 0<=i then
   match s[i.toNat]? with
   |some b=>some (.int .u8 b.toNat)
   |none=>none
  else none
 |_,_=>none
def IY(x:AV)(i:Nat):Option AV:=
 match x with
 |.dW l=>l[i]?
 |_=>none
def uI(o:Option Nat):Option AV:=
 match o with
 |some n=>some (.int .i64 n)
 |none=>none
def nO(neg:Bool)(o:Option Bool):Option AV:=
 match o with
 |some b=>some (.bool (if neg then !b else b))
 |none=>none
def sJ(o:Option (List AV)):Option AV:=
 match o with
 |some c=>some (.agg c)
 |none=>none
def yL(es n:Nat)(o:Option (List AV))(N0:Nat):Option (AV×jd):=
 match o with
 |some c=>if c.all AV.one=true/\c.length=n*es then some (.slice N0 0 n es,.push (.cells c true (!Nat.beq n 0)))else none
 |none=>none
section
variable {P:Program}{ro:Option Nat->Prop}{ks:List Kt}{ts:TS}{h:ah}{Q:Ex->TS->ah->Prop}{d:Option Nat}{q:Bool}{l:List bL}
def jj{r r'}(hr:r=r'.map λv=>(v,.ar)):WR P ro r q d l ks ts h Q=WV P ro r' d l ks ts h Q:=by
 subst hr;cases r' with
 |none=>rfl
 |some v=>exact jy
def uW{v}:WV P ro (some v) d l ks ts h Q=WP P ro l ks (put ts d v) h Q:=rfl
def DU{x}:WP P ro ({dst:=d,k:=.bV x,gd:=none,q:=q} ::l) ks ts h Q=WP P ro l ks (put ts d (val ts x)) h Q:=jy
def Gd{c a b}:WP P ro ({dst:=d,k:=.pick c a b,gd:=none,q:=q} ::l) ks ts h Q=WV P ro (tH (val ts c) (val ts a) (val ts b)) d l ks ts h Q:=by
 rw[jk Si Si];refine jj ?_;simp only[stepT,nM,tH];cases val ts c<;>rfl
def JI{x}:WP P ro ({dst:=d,k:=.box x,gd:=none,q:=q} ::l) ks ts h Q=WR P ro (p8 (val ts x) h.length) q d l ks ts h Q:=rfl
def Gq{n i x}:WP P ro ({dst:=some i,k:=.mq n x,gd:=none,q:=q} ::l) ks ts h Q=(i<ts.length/\WR P ro (pe n (val ts x) h.length) q (some i) l ks ts h Q):=rfl
def sP{z ps}:WP P ro ({dst:=d,k:=.build z ps,gd:=none,q:=q} ::l) ks ts h Q=WV P ro (sJ (fi z (ps.map λp=>(p.1,p.2.1,val ts p.2.2)))) d l ks ts h Q:=by
 rw[jk Si Si];refine jj ?_;simp only[stepT,nM,sJ];cases fi z (ps.map λp=>(p.1,p.2.1,val ts p.2.2))<;>rfl
def Bg{es n z ps}:WP P ro ({dst:=d,k:=.bo es n z ps,gd:=none,q:=q} ::l) ks ts h Q=WR P ro (yL es n (fi (dY n z) (ps.map λp=>(p.1,es,val ts p.2))) h.length) q d l ks ts h Q:=rfl
def Gi{n a}:WP P ro ({dst:=d,k:=.load n a,gd:=none,q:=q} ::l) ks ts h Q=WR P ro (ao n (val ts a) (λb=>h[b]?)) q d l ks ts h Q:=rfl
def DQ{n a x}:WP P ro ({dst:=d,k:=.store n a x,gd:=none,q:=q} ::l) ks ts h Q=WR P ro (aX n (val ts a) (val ts x) (λb=>h[b]?)) q d l ks ts h Q:=rfl
def Bf{x}:WP P ro ({dst:=d,k:=.bS x,gd:=none,q:=q} ::l) ks ts h Q=WV P ro (qO (val ts x)) d l ks ts h Q:=by
 rw[jk Si Si];refine jj ?_;exact KM
def JJ{op x y}:WP P ro ({dst:=d,k:=.bin op x y,gd:=none,q:=q} ::l) ks ts h Q=WV P ro (eV op (val ts x) (val ts y)) d l ks ts h Q:=by
 rw[jk Si Si];refine jj ?_;exact z196
def JG{neg t x y}:WP P ro ({dst:=d,k:=.eqv neg t x y,gd:=none,q:=q} ::l) ks ts h Q=WV P ro (nO neg (mQ t (val ts x) (val ts y))) d l ks ts h Q:=by
 rw[jk Si Si];refine jj ?_;simp only[stepT,nM,nO];cases mQ t (val ts x) (val ts y)<;>rfl
def Nn{op x}:WP P ro ({dst:=d,k:=.un op x,gd:=none,q:=q} ::l) ks ts h Q=WV P ro (xW op (val ts x)) d l ks ts h Q:=by
 rw[jk Si Si];refine jj ?_;simp only[stepT,nM];cases xW op (val ts x)<;>rfl
def ve{k x}:WP P ro ({dst:=d,k:=.conv k x,gd:=none,q:=q} ::l) ks ts h Q=WR P ro (ni k (val ts x) (λb=>h[b]?) h.length) q d l ks ts h Q:=rfl
def Gg{f a c}:WP P ro ({dst:=d,k:=.uH f a c,gd:=none,q:=q} ::l) ks ts h Q=WP P ro l ks (put ts d (.func f (a.map (val ts)) (c.map (val ts)))) h Q:=jy
def xN:WP P ro ({dst:=d,k:=.oP,gd:=none,q:=q} ::l) ks ts h Q=WP P ro l ks (put ts d (.map h.length)) (h++[.bA []]) Q:=mN
def Gf{es w z a c}:WP P ro ({dst:=d,k:=.wo es w z a c,gd:=none,q:=q} ::l) ks ts h Q=WR P ro (tN es w z (val ts a) (val ts c) h.length) q d l ks ts h Q:=rfl
def No{es x lo hi}:WP P ro ({dst:=d,k:=.sl es x lo hi,gd:=none,q:=q} ::l) ks ts h Q=WR P ro (Al es (val ts x) (lo.map (val ts)) (hi.map (val ts))) q d l ks ts h Q:=rfl
def JB{x lo hi}:WP P ro ({dst:=d,k:=.JW x lo hi,gd:=none,q:=q} ::l) ks ts h Q=WV P ro (vI (val ts x) (lo.map (val ts)) (hi.map (val ts))) d l ks ts h Q:=by
 rw[jk Si Si];refine jj ?_;simp only[stepT,nM,vI];cases val ts x with
 |str s=>simp only;cases ju (Option.map (val ts) lo) (Option.map (val ts) hi) s.length<;>rfl
 |_=>rfl
def Gn{off x}:WP P ro ({dst:=d,k:=.aP off x,gd:=none,q:=q} ::l) ks ts h Q=WV P ro (ua off (val ts x)) d l ks ts h Q:=by
 rw[jk Si Si];refine jj ?_;simp only[stepT,nM,ua];cases val ts x<;>rfl
def Gk{es x i}:WP P ro ({dst:=d,k:=.bp es x i,gd:=none,q:=q} ::l) ks ts h Q=WR P ro (bf es (val ts x) (val ts i)) q d l ks ts h Q:=rfl
def Gm{len es x i}:WP P ro ({dst:=d,k:=.te len es x i,gd:=none,q:=q} ::l) ks ts h Q=WV P ro (ng len es (val ts x) (val ts i)) d l ks ts h Q:=by
 rw[jk Si Si];refine jj ?_;simp only[stepT,nM,ng];cases val ts x with
 |ptr b o=>cases val ts i<;>first|rfl|(simp only;split<;>rfl)
 |_=>rfl
def Ge{n off x}:WP P ro ({dst:=d,k:=.part n off x,gd:=none,q:=q} ::l) ks ts h Q=WV P ro (zl n off (val ts x)) d l ks ts h Q:=by
 rw[jk Si Si];refine jj ?_;simp only[stepT,nM,zl];cases val ts x with
 |agg cs=>cases n<;>first|rfl|(simp only;cases cs[off]? <;>rfl)
 |_=>rfl
def JE{len es n x i}:WP P ro ({dst:=d,k:=.JY len es n x i,gd:=none,q:=q} ::l) ks ts h Q=WV P ro (MB len es n (val ts x) (val ts i)) d l ks ts h Q:=by
 rw[jk Si Si];refine jj ?_;simp only[stepT,nM,MB];cases val ts x with
 |agg cs=>
  cases val ts i with
  |int k j=>
   simp only;split
   ·cases n<;>first|rfl|(simp only;cases cs[j.toNat*es]? <;>rfl)
   ·rfl
  |_=>rfl
 |_=>rfl
def JD{x i}:WP P ro ({dst:=d,k:=.D2 x i,gd:=none,q:=q} ::l) ks ts h Q=WV P ro (wI (val ts x) (val ts i)) d l ks ts h Q:=by
 rw[jk Si Si];refine jj ?_;simp only[stepT,nM,wI];cases val ts x with
 |str s=>
  cases val ts i with
  |int k j=>
   simp only;split
   ·cases s[j.toNat]? <;>rfl
   ·rfl
  |_=>rfl
 |_=>rfl
def Gh{kk z ok m k}:WP P ro ({dst:=d,k:=.look kk z ok m k,gd:=none,q:=q} ::l) ks ts h Q=WR P ro (stepT (.look kk z ok m k) (val ts) (λb=>h[b]?) h.length) q d l ks ts h Q:=rfl
def vd{kk m k x}:WP P ro ({dst:=d,k:=.gh kk m k x,gd:=none,q:=q} ::l) ks ts h Q=WR P ro (stepT (.gh kk m k x) (val ts) (λb=>h[b]?) h.length) q d l ks ts h Q:=rfl
def DT{x}:WP P ro ({dst:=d,k:=.rR x,gd:=none,q:=q} ::l) ks ts h Q=WR P ro (stepT (.rR x) (val ts) (λb=>h[b]?) h.length) q d l ks ts h Q:=rfl
def JF{x i}:WP P ro ({dst:=d,k:=.ext x i,gd:=none,q:=q} ::l) ks ts h Q=WV P ro (IY (val ts x) i) d l ks ts h Q:=by
 rw[jk Si Si];refine jj ?_;simp only[stepT,nM,IY];cases val ts x with
 |dW cs=>simp only;cases cs[i]? <;>rfl
 |_=>rfl
def JC{lk x}:WP P ro ({dst:=d,k:=.len lk x,gd:=none,q:=q} ::l) ks ts h Q=WV P ro (uI (ja lk (λb=>h[b]?) (val ts x))) d l ks ts h Q:=by
 rw[jk Si Si];refine jj ?_;simp only[stepT,nM,uI];cases ja lk (λb=>h[b]?) (val ts x)<;>rfl
def Gj{n}:WP P ro ({dst:=d,k:=.AF n,gd:=none,q:=q} ::l) ks ts h Q=WP P ro l ks (put ts d (.int .i64 n)) h Q:=jy
def JK{es w x y}:WP P ro ({dst:=d,k:=.app es w x y,gd:=none,q:=q} ::l) ks ts h Q=WR P ro (qb es w (val ts x) (val ts y) (λb=>h[b]?) h.length) q d l ks ts h Q:=rfl
def JH{es x y}:WP P ro ({dst:=d,k:=.zK es x y,gd:=none,q:=q} ::l) ks ts h Q=WR P ro (stepT (.zK es x y) (val ts) (λb=>h[b]?) h.length) q d l ks ts h Q:=rfl
def Np{x m}:WP P ro ({dst:=d,k:=.mx x m,gd:=none,q:=q} ::l) ks ts h Q=WV P ro (iW qx (val ts x) (m.map (val ts))) d l ks ts h Q:=by
 rw[jk Si Si];refine jj ?_;simp only[stepT,nM];cases iW qx (val ts x) (m.map (val ts))<;>rfl
def Nq{x m}:WP P ro ({dst:=d,k:=.mn x m,gd:=none,q:=q} ::l) ks ts h Q=WV P ro (iW qw (val ts x) (m.map (val ts))) d l ks ts h Q:=by
 rw[jk Si Si];refine jj ?_;simp only[stepT,nM];cases iW qw (val ts x) (m.map (val ts))<;>rfl
def FO{k a b}:eV .add (.int k a) (.int k b)=some (.int k (k.wrap (a+b))):=by simp[eV,fo,gj]
def FF{k a b}:eV .sub (.int k a) (.int k b)=some (.int k (k.wrap (a-b))):=by simp[eV,fo,gj]
def FI{k a b}:eV .mul (.int k a) (.int k b)=some (.int k (k.wrap (a*b))):=by simp[eV,fo,gj]
def FG{k a b}(hb:b≠0):eV .quo (.int k a) (.int k b)=some (.int k (k.wrap (a.tdiv b))):=by simp[eV,fo,gj,hb]
def pf{k a b}(hb:b≠0):eV .rem (.int k a) (.int k b)=some (.int k (a.tmod b)):=by simp[eV,fo,gj,hb]
def FN{k a b}:eV .eql (.int k a) (.int k b)=some (.bool (decide (a=b))):=by simp[eV,fo,gj];rfl
def FH{k a b}:eV .neq (.int k a) (.int k b)=some (.bool (decide (a≠b))):=by
 simp only[eV,fo,gj,aan,aaU,aal,aaB,AV.bool.injEq];by_cases hab:a=b<;>simp[hab]
def FJ{k a b}:eV .lss (.int k a) (.int k b)=some (.bool (decide (a<b))):=by simp[eV,fo,gj]
def FK{k a b}:eV .leq (.int k a) (.int k b)=some (.bool (decide (a<=b))):=by simp[eV,fo,gj]
def FL{k a b}:eV .gtr (.int k a) (.int k b)=some (.bool (decide (b<a))):=by simp[eV,fo,gj]
def FM{k a b}:eV .geq (.int k a) (.int k b)=some (.bool (decide (b<=a))):=by simp[eV,fo,gj]
def j7{x y}(hl:x.length+y.length<2^62):eV .add (.str x) (.str y)=some (.str (x++y)):=by simp only[eV,rr,aai hl]
def Dx{x y}:eV .eql (.str x) (.str y)=some (.bool (decide (x=y))):=by
 exact KN
def Dw{x y}:eV .neq (.str x) (.str y)=some (.bool (decide (x≠y))):=by
 exact KN
def HO{b}:xW .not (.bool b)=some (.bool !b):=rfl
def HP{k a}:xW .neg (.int k a)=some (.int k (k.wrap (0-a))):=rfl
def PD{k a b}:iW qx (.int k a) [.int k b]=some (.int k (max a b)):=by
 simp only[iW,qx,aan,aaB,AV.int.injEq,acE];omega
def PE{k a b}:iW qw (.int k a) [.int k b]=some (.int k (min a b)):=by
 simp only[iW,qw,aan,aaB,AV.int.injEq,acE];omega
def bD{n}(h1:-9223372036854775808<=n)(h2:n<=9223372036854775807):IntKind.i64.wrap n=n:=by
 simp only[IntKind.wrap,IntKind.signed,IntKind.bits,abu,aaK,show(64-1:Nat)=63 from rfl];split<;>omega
end
end Go.Abs
namespace Go.Abs
def A2{a b:Prop}(xa:a)(xb:b):a/\b:=⟨xa,xb⟩
def A3{a b c:Prop}(xa:a)(xb:b)(xc:c):a/\b/\c:=⟨xa,xb,xc⟩
def A4{a b c d:Prop}(xa:a)(xb:b)(xc:c)(xd:d):a/\b/\c/\d:=⟨xa,xb,xc,xd⟩
def A5{a b c d e:Prop}(xa:a)(xb:b)(xc:c)(xd:d)(xe:e):a/\b/\c/\d/\e:=⟨xa,xb,xc,xd,xe⟩
def A6{a b c d e f:Prop}(xa:a)(xb:b)(xc:c)(xd:d)(xe:e)(xf:f):a/\b/\c/\d/\e/\f:=⟨xa,xb,xc,xd,xe,xf⟩
def A7{a b c d e f g:Prop}(xa:a)(xb:b)(xc:c)(xd:d)(xe:e)(xf:f)(xg:g):a/\b/\c/\d/\e/\f/\g:=⟨xa,xb,xc,xd,xe,xf,xg⟩
def A8{a b c d e f g h:Prop}(xa:a)(xb:b)(xc:c)(xd:d)(xe:e)(xf:f)(xg:g)(xh:h):a/\b/\c/\d/\e/\f/\g/\h:=⟨xa,xb,xc,xd,xe,xf,xg,xh⟩
def A9{a b c d e f g h i:Prop}(xa:a)(xb:b)(xc:c)(xd:d)(xe:e)(xf:f)(xg:g)(xh:h)(xi:i):a/\b/\c/\d/\e/\f/\g/\h/\i:=⟨xa,xb,xc,xd,xe,xf,xg,xh,xi⟩
def mU{a b c d e f g h i j:Prop}(xa:a)(xb:b)(xc:c)(xd:d)(xe:e)(xf:f)(xg:g)(xh:h)(xi:i)(xj:j):a/\b/\c/\d/\e/\f/\g/\h/\i/\j:=⟨xa,xb,xc,xd,xe,xf,xg,xh,xi,xj⟩
def lI{a b c d e f g h i j k:Prop}(xa:a)(xb:b)(xc:c)(xd:d)(xe:e)(xf:f)(xg:g)(xh:h)(xi:i)(xj:j)(xk:k):a/\b/\c/\d/\e/\f/\g/\h/\i/\j/\k:=⟨xa,xb,xc,xd,xe,xf,xg,xh,xi,xj,xk⟩
def nT{a b c d e f g h i j k l:Prop}(xa:a)(xb:b)(xc:c)(xd:d)(xe:e)(xf:f)(xg:g)(xh:h)(xi:i)(xj:j)(xk:k)(xl:l):a/\b/\c/\d/\e/\f/\g/\h/\i/\j/\k/\l:=⟨xa,xb,xc,xd,xe,xf,xg,xh,xi,xj,xk,xl⟩
def D3{a b c d e f g h i j k l m:Prop}(xa:a)(xb:b)(xc:c)(xd:d)(xe:e)(xf:f)(xg:g)(xh:h)(xi:i)(xj:j)(xk:k)(xl:l)(xm:m):a/\b/\c/\d/\e/\f/\g/\h/\i/\j/\k/\l/\m:=⟨xa,xb,xc,xd,xe,xf,xg,xh,xi,xj,xk,xl,xm⟩
def Bo{a b c d e f g h i j k l m n:Prop}(xa:a)(xb:b)(xc:c)(xd:d)(xe:e)(xf:f)(xg:g)(xh:h)(xi:i)(xj:j)(xk:k)(xl:l)(xm:m)(xn:n):a/\b/\c/\d/\e/\f/\g/\h/\i/\j/\k/\l/\m/\n:=⟨xa,xb,xc,xd,xe,xf,xg,xh,xi,xj,xk,xl,xm,xn⟩
def Bn{a b c d e f g h i j k l m n o:Prop}(xa:a)(xb:b)(xc:c)(xd:d)(xe:e)(xf:f)(xg:g)(xh:h)(xi:i)(xj:j)(xk:k)(xl:l)(xm:m)(xn:n)(xo:o):a/\b/\c/\d/\e/\f/\g/\h/\i/\j/\k/\l/\m/\n/\o:=⟨xa,xb,xc,xd,xe,xf,xg,xh,xi,xj,xk,xl,xm,xn,xo⟩
def GD{a b c d e f g h i j k l m n o p:Prop}(xa:a)(xb:b)(xc:c)(xd:d)(xe:e)(xf:f)(xg:g)(xh:h)(xi:i)(xj:j)(xk:k)(xl:l)(xm:m)(xn:n)(xo:o)(xp:p):a/\b/\c/\d/\e/\f/\g/\h/\i/\j/\k/\l/\m/\n/\o/\p:=⟨xa,xb,xc,xd,xe,xf,xg,xh,xi,xj,xk,xl,xm,xn,xo,xp⟩
def J7{a b c d e f g h i j k l m n o p q:Prop}(xa:a)(xb:b)(xc:c)(xd:d)(xe:e)(xf:f)(xg:g)(xh:h)(xi:i)(xj:j)(xk:k)(xl:l)(xm:m)(xn:n)(xo:o)(xp:p)(xq:q):a/\b/\c/\d/\e/\f/\g/\h/\i/\j/\k/\l/\m/\n/\o/\p/\q:=⟨xa,xb,xc,xd,xe,xf,xg,xh,xi,xj,xk,xl,xm,xn,xo,xp,xq⟩
def HA{a b c d e f g h i j k l m n o p q r:Prop}(xa:a)(xb:b)(xc:c)(xd:d)(xe:e)(xf:f)(xg:g)(xh:h)(xi:i)(xj:j)(xk:k)(xl:l)(xm:m)(xn:n)(xo:o)(xp:p)(xq:q)(xr:r):a/\b/\c/\d/\e/\f/\g/\h/\i/\j/\k/\l/\m/\n/\o/\p/\q/\r:=⟨xa,xb,xc,xd,xe,xf,xg,xh,xi,xj,xk,xl,xm,xn,xo,xp,xq,xr⟩
def RX{a b c d e f g h i j k l m n o p q r s:Prop}(xa:a)(xb:b)(xc:c)(xd:d)(xe:e)(xf:f)(xg:g)(xh:h)(xi:i)(xj:j)(xk:k)(xl:l)(xm:m)(xn:n)(xo:o)(xp:p)(xq:q)(xr:r)(xs:s):a/\b/\c/\d/\e/\f/\g/\h/\i/\j/\k/\l/\m/\n/\o/\p/\q/\r/\s:=⟨xa,xb,xc,xd,xe,xf,xg,xh,xi,xj,xk,xl,xm,xn,xo,xp,xq,xr,xs⟩
def Q8{a b c d e f g h i j k l m n o p q r s t:Prop}(xa:a)(xb:b)(xc:c)(xd:d)(xe:e)(xf:f)(xg:g)(xh:h)(xi:i)(xj:j)(xk:k)(xl:l)(xm:m)(xn:n)(xo:o)(xp:p)(xq:q)(xr:r)(xs:s)(xt:t):a/\b/\c/\d/\e/\f/\g/\h/\i/\j/\k/\l/\m/\n/\o/\p/\q/\r/\s/\t:=⟨xa,xb,xc,xd,xe,xf,xg,xh,xi,xj,xk,xl,xm,xn,xo,xp,xq,xr,xs,xt⟩
def Q7{a b c d e f g h i j k l m n o p q r s t u:Prop}(xa:a)(xb:b)(xc:c)(xd:d)(xe:e)(xf:f)(xg:g)(xh:h)(xi:i)(xj:j)(xk:k)(xl:l)(xm:m)(xn:n)(xo:o)(xp:p)(xq:q)(xr:r)(xs:s)(xt:t)(xu:u):a/\b/\c/\d/\e/\f/\g/\h/\i/\j/\k/\l/\m/\n/\o/\p/\q/\r/\s/\t/\u:=⟨xa,xb,xc,xd,xe,xf,xg,xh,xi,xj,xk,xl,xm,xn,xo,xp,xq,xr,xs,xt,xu⟩
def NT{a b c d e f g h i j k l m n o p q r s t u v:Prop}(xa:a)(xb:b)(xc:c)(xd:d)(xe:e)(xf:f)(xg:g)(xh:h)(xi:i)(xj:j)(xk:k)(xl:l)(xm:m)(xn:n)(xo:o)(xp:p)(xq:q)(xr:r)(xs:s)(xt:t)(xu:u)(xv:v):a/\b/\c/\d/\e/\f/\g/\h/\i/\j/\k/\l/\m/\n/\o/\p/\q/\r/\s/\t/\u/\v:=⟨xa,xb,xc,xd,xe,xf,xg,xh,xi,xj,xk,xl,xm,xn,xo,xp,xq,xr,xs,xt,xu,xv⟩
def Q6{a b c d e f g h i j k l m n o p q r s t u v w:Prop}(xa:a)(xb:b)(xc:c)(xd:d)(xe:e)(xf:f)(xg:g)(xh:h)(xi:i)(xj:j)(xk:k)(xl:l)(xm:m)(xn:n)(xo:o)(xp:p)(xq:q)(xr:r)(xs:s)(xt:t)(xu:u)(xv:v)(xw:w):a/\b/\c/\d/\e/\f/\g/\h/\i/\j/\k/\l/\m/\n/\o/\p/\q/\r/\s/\t/\u/\v/\w:=⟨xa,xb,xc,xd,xe,xf,xg,xh,xi,xj,xk,xl,xm,xn,xo,xp,xq,xr,xs,xt,xu,xv,xw⟩
def GC{a b c d e f g h i j k l m n o p q r s t u v w x:Prop}(xa:a)(xb:b)(xc:c)(xd:d)(xe:e)(xf:f)(xg:g)(xh:h)(xi:i)(xj:j)(xk:k)(xl:l)(xm:m)(xn:n)(xo:o)(xp:p)(xq:q)(xr:r)(xs:s)(xt:t)(xu:u)(xv:v)(xw:w)(xx:x):a/\b/\c/\d/\e/\f/\g/\h/\i/\j/\k/\l/\m/\n/\o/\p/\q/\r/\s/\t/\u/\v/\w/\x:=⟨xa,xb,xc,xd,xe,xf,xg,xh,xi,xj,xk,xl,xm,xn,xo,xp,xq,xr,xs,xt,xu,xv,xw,xx⟩
section
variable {P:Program}{ro:Option Nat->Prop}{ks:List Kt}{ts:TS}{h:ah}{Q:Ex->TS->ah->Prop}{d:Option Nat}{q:Bool}{l:List bL}
def Gr{k}{p:Prop}[Decidable p] :WG P ro (.bool (decide p)) true q k d l ks ts h Q=((p->WP P ro ({dst:=d,k:=k,gd:=none,q:=q} ::l) ks ts h Q)/\(¬p->WP P ro l ks (put ts d az) h Q)):=by
 by_cases hp:p
 ·simp only[hp,aaq,yT];simp
 ·simp only[hp,aaz];rw[zV false Si];simp
def Gs{k}{p:Prop}[Decidable p] :WG P ro (.bool (decide p)) false q k d l ks ts h Q=((p->WP P ro l ks (put ts d az) h Q)/\(¬p->WP P ro ({dst:=d,k:=k,gd:=none,q:=q} ::l) ks ts h Q)):=by
 by_cases hp:p
 ·simp only[hp,aaq];rw[zV true Si];simp
 ·simp only[hp,aaz,yT];simp
def Ns{k}:WG P ro (.bool true) false q k d l ks ts h Q=WP P ro l ks (put ts d az) h Q:=zV true Si
def Nt{k}:WG P ro (.bool false) true q k d l ks ts h Q=WP P ro l ks (put ts d az) h Q:=zV false Si
def JN{a b}{p:Prop}[Decidable p] :WB P ro (.bool (decide p)) a b ks ts h Q=((p->WC P ro a ks ts h Q)/\(¬p->WC P ro b ks ts h Q)):=by
 by_cases hp:p
 ·simp only[hp,aaq,zW];simp
 ·simp only[hp,aaz,xO];simp
def Ii{a b}:tH (.bool true) a b=some a:=rfl
def Ij{a b}:tH (.bool false) a b=some b:=rfl
def slot(ts:TS)(i:Nat):AV:=ts.getD i az
def vv{i}:val ts (.t i)=slot ts i:=rfl
def y0{v}:val ts (.c v)=v:=rfl
def Lc{i}:val ts (.g i)=.ptr i 0:=rfl
def Ld{i}:val ts (.f i)=.func (.func i) [] []:=rfl
def qq{i v}:put ts (some i) v=ts.set i v:=rfl
def CH{v}:put ts none v=ts:=rfl
def HY{a l}:slot (a::l) 0=a:=rfl
def HX{a l n}:slot (a::l) (n+1)=slot l n:=rfl
def IJ{a:AV}{l:List AV}:(a::l).length=l.length+1:=rfl
def IK:([] :List AV).length=0:=rfl
def IG{a:AV}:List.replicate 0 a=[]:=rfl
def IN{a:AV}{l m:List AV}:(a::l)++m=a:: (l++m):=rfl
def IP{m:List AV}:[]++m=m:=rfl
def IF{a b:AV}{l:List AV}:(a::l).set 0 b=b::l:=rfl
def IE{a b:AV}{l:List AV}{n:Nat}:(a::l).set (n+1) b=a::l.set n b:=rfl
def II{f:c7->AV}:List.map f []=[]:=rfl
def IH{f:c7->AV}{a:c7}{l:List c7}:List.map f (a::l)=f a::l.map f:=rfl
def Ip{f:c7->AV}:Option.map f none=none:=rfl
def Io{f:c7->AV}{a:c7}:Option.map f (some a)=some (f a):=rfl
def IX{off b o}:ua off (.ptr b o)=some (.ptr b (o+off)):=rfl
def ID{n}:uI (some n)=some (.int .i64 n):=rfl
def EY{G s}:ja .st G (.str s)=some s.length:=rfl
def Ma{b o}:qO (.ptr b o)=some (.ptr b o):=rfl
def Mb{f a c}:qO (.func (.func f) a c)=some (.func (.func f) a c):=rfl
def L9{f a c}:qO (.func (.yield f) a c)=some (.func (.yield f) a c):=rfl
def MX{l i}:IY (.dW l) i=l[i]? :=rfl
def Il{cs off}:zl none off (.agg cs)=cs[off]? :=rfl
def Ik{cs off n}:zl (some n) off (.agg cs)=some (.agg ((cs.drop off).take n)):=rfl
def Ds{c}:sJ (some c)=some (.agg c):=rfl
def CA{r}:cT [(r,none)] ts h=some (slot ts r):=rfl
def Cz{r s}:cT [(r,none),(s,none)] ts h=some (.dW [slot ts r,slot ts s]):=rfl
def Cy{r s t}:cT [(r,none),(s,none),(t,none)] ts h=some (.dW [slot ts r,slot ts s,slot ts t]):=rfl
def ya{n args}:aW n args=args++List.replicate (n-args.length) az:=rfl
def LP{n:Nat}{a:AV}:List.replicate (n+1) a=a::List.replicate n a:=rfl
def Fy{k k' n G N}:ni (.ME k) (.int k' n) G N=some (.int k (k.wrap n),.ar):=rfl
def kI{u:TypeId}{x G N}:ni (.vk u) x G N=some (.vk u x,.ar):=rfl
def AR{s G N}:ni .same (.str s) G N=some (.str s,.ar):=rfl
def FD{k n N}:p8 (.int k n) N=some (.ptr N 0,.push (.cells [.int k n] true false)):=rfl
def Dv{b N}:p8 (.bool b) N=some (.ptr N 0,.push (.cells [.bool b] true false)):=rfl
def FC{s N}:p8 (.str s) N=some (.ptr N 0,.push (.cells [.str s] true false)):=rfl
def FE{l N}(hl:l.all AV.one=true):p8 (.agg l) N=some (.ptr N 0,.push (.cells l true false)):=by
 show(if l.all AV.one then _ else none)=_;rw[aai hl];rfl
end
def QX{P ro ks ts h Q d q l k b}:WG P ro az b q k d l ks ts h Q=WP P ro l ks (put ts d az) h Q:=rfl
def Hk{h}:Ext h h=True:=acF (Ext.refl h)
def Hj{h a}:Ext h (h++a)=True:=acF (by repeat first|exact Ext.refl _|refine Ext.app _ ?_)
def Hi{h a b}:Ext h (h++a++b)=True:=acF (by repeat first|exact Ext.refl _|refine Ext.app _ ?_)
def Hh{h a b c}:Ext h (h++a++b++c)=True:=acF (by repeat first|exact Ext.refl _|refine Ext.app _ ?_)
def Hg{h a b c d}:Ext h (h++a++b++c++d)=True:=acF (by repeat first|exact Ext.refl _|refine Ext.app _ ?_)
def Hf{h a b c d e}:Ext h (h++a++b++c++d++e)=True:=acF (by repeat first|exact Ext.refl _|refine Ext.app _ ?_)
def He{h a b c d e f}:Ext h (h++a++b++c++d++e++f)=True:=acF (by repeat first|exact Ext.refl _|refine Ext.app _ ?_)
def Hd{h a b c d e f g}:Ext h (h++a++b++c++d++e++f++g)=True:=acF (by repeat first|exact Ext.refl _|refine Ext.app _ ?_)
def Hc{h a b c d e f g i}:Ext h (h++a++b++c++d++e++f++g++i)=True:=acF (by repeat first|exact Ext.refl _|refine Ext.app _ ?_)
def Ha{h a b c d e f g i j}:Ext h (h++a++b++c++d++e++f++g++i++j)=True:=acF (by repeat first|exact Ext.refl _|refine Ext.app _ ?_)
def Nh{p:Prop}:(True/\p)=p:=acE p
def JX(f:Nat->AV):Nat->Nat->TS
 | 0,_=>[]
 |n+1,i=>f i::JX f n (i+1)
def Mf{f i}:JX f 0 i=[]:=rfl
def GZ{f n i}:JX f (n+1) i=f i::JX f n (i+1):=rfl
theorem CW(f:Nat->AV):∀(n i:Nat) (ts:TS),ts.length=n->(∀k,k<n->f (i+k)=slot ts k)->ts=JX f n i
 | 0,_,ts,h,_=>aa9.1 h
 |n+1,i,[],h,_=>by simp at h
 |n+1,i,x::xs,h,hf=>by
  rw[GZ,<-CW f n (i+1) xs (by simpa using h) λk hk=>by have:=hf (k+1) Om;rw[show i+1+k=i+(k+1) by omega,this];rfl];rw[<-ab8 i,hf 0 Om];rfl
def lG(ts:TS)(n:Nat)(h:ts.length=n):ts=JX (λi=>slot ts i) n 0:=CW _ n 0 ts h λk _=>by rw[aaP]
def aO:=A6 (GC @Gw @sQ @qh @Gz @DV @Gx @Gy @JM @rk @Gu @Gv @Bj @Bh @Bi @JL @DS @Gp @Nr @yT @Ns @Nt @jy @mN @sO) (GC @nS @uW @zW @xO @Q0 @QY @QZ @Q3 @Q2 @GB @DU @Gd @JI @sP @Bg @Gi @DQ @Bf @JJ @JG @Nn @ve @Gg @xN) (GC @Gf @No @JB @Gn @Gk @Gm @Ge @JE @JD @Gh @vd @DT @JF @JC @Gj @JK @JH @Np @Nq @FO @FF @FI @FN @FH) (GC @FJ @FK @FL @FM @Dx @Dw @HO @HP @PD @PE @Ii @Ij @vv @y0 @Lc @Ld @qq @CH @HY @HX @IX @ID @EY @Ma) (GC @Mb @L9 @MX @Il @Ik @Ds @CA @Cz @Cy @ya @LP @IJ @IK @IG @IN @IP @IF @IE @II @IH @Ip @Io @Fy @AR) (J7 @QX @Hk @Hj @Hi @Hh @Hg @Hf @He @Hd @Hc @Ha @Nh @Mf @GZ @FD @Dv @FC)
def nw:
  (∀{P}{ro}{ks}{ts}{h}{Q}{d}{q}{l}{k}{p:Prop} [Decidable p],WG P ro (.bool (decide p)) true q k d l ks ts h Q=((p->WP P ro ({dst:=d,k:=k,gd:=none,q:=q} ::l) ks ts h Q)/\(¬p->WP P ro l ks (put ts d az) h Q)))/\
  (∀{P:Program}{ro:Option Nat->Prop}{ks:List Kt}{ts:TS}{h:ah}{Q:Ex->TS->ah->Prop}{d:Option Nat}{q:Bool}{l:List bL}{k:pI}{p:Prop} [Decidable p],WG P ro (.bool (decide p)) false q k d l ks ts h Q=((p->WP P ro l ks (put ts d az) h Q)/\(¬p->WP P ro ({dst:=d,k:=k,gd:=none,q:=q} ::l) ks ts h Q)))/\
  (∀{P:Program}{ro:Option Nat->Prop}{ks:List Kt}{ts:TS}{h:ah}{Q:Ex->TS->ah->Prop}{a b:ai}{p:Prop} [Decidable p],WB P ro (.bool (decide p)) a b ks ts h Q=((p->WC P ro a ks ts h Q)/\(¬p->WC P ro b ks ts h Q))):=
 ⟨@Gr,@Gs,@JN⟩
end Go.Abs
namespace Go.Abs
def dq{h:ah}{b:Nat}(a:ah)(hb:b<h.length):(h++a)[b]? =h[b]? :=Z7 hb
def fk{h:ah}{b:Nat}(a:ah)(k:ak)(hb:b<h.length):(h++a).set b k=h.set b k++a:=List.set_append_left _ _ hb
def zd{X:ah}{k k':ak}:(X++[k]).set X.length k' =X++[k']:=by
 rw[aa1 _ _ (aah _)];simp
def ba{X:ah}{k:ak}:(X++[k])[X.length]? =some k:=Si
def dG(n:Option Nat)(o:Nat):ak->Option (AV×jd)
 |.cells c _ _=>
  match n with
  |none=>
   match c[o]? with
   |some x=>some (x,.ar)
   |none=>none
  |some n=>if o+n<=c.length then some (.agg ((c.drop o).take n),.ar)else none
 |_=>none
def kN(n o:Nat)(v:AV)(b:Nat):ak->Option (AV×jd)
 |.cells c true tl=>if v.cells.length=n/\v.cells.all AV.one=true/\o+n<=c.length then some (az,.set b (.cells (gf c o v.cells) true tl))else none
 |_=>none
def aA{n:Option Nat}{b o:Nat}{G:Nat->Option ak}{k:ak}(hb:G b=some k):ao n (.ptr b o) G=dG n o k:=by
 simp only[ao,hb];cases k<;>rfl
def aK{n b o:Nat}{v:AV}{G:Nat->Option ak}{k:ak}(hb:G b=some k):aX n (.ptr b o) v G=kN n o v b k:=by
 simp only[aX,hb];cases k with
 |cells c mu tl=>cases mu<;>rfl
 |_=>rfl
def eM(b:Nat)(s:By)(pos:Nat):Option (AV×jd):=
 if pos<s.length then some (.dW [.bool true,.int .i64 pos,.int .i32 (Utf8.decode ⟨⟨s⟩⟩ pos).1],.set b (.iter s (pos+(Utf8.decode ⟨⟨s⟩⟩ pos).2)))else some (.dW [.bool false],.ar)
def fS(x:AV)(G:Nat->Option ak):Option (AV×jd):=
 match x with
 |.ptr b 0=>
  match G b with
  |some (.iter s pos)=>eM b s pos
  |_=>none
 |_=>none
def dU{b pos:Nat}{s:By}{G:Nat->Option ak}(hb:G b=some (.iter s pos)):fS (.ptr b 0) G=eM b s pos:=by
 simp only[fS,hb]
def vG{x:c7}{ρ:c7->AV}{G:Nat->Option ak}{N:Nat}:stepT (.rR x) ρ G N=fS (ρ x) G:=by
 simp only[stepT,nM,fS,eM];cases ρ x with
 |ptr b o=>
  cases o with
  |zero=>
   simp only;cases G b with
   |none=>rfl
   |some k=>cases k<;>rfl
  |succ o=>rfl
 |_=>rfl
def GU(x:AV)(N:Nat):Option (AV×jd):=
 match x with
 |.str s=>some (.ptr N 0,.push (.iter s 0))
 |_=>none
def DR{P:Program}{ro:Option Nat->Prop}{ks:List Kt}{ts:TS}{h:ah}{Q:Ex->TS->ah->Prop}{d:Option Nat}{q:Bool}{l:List bL}{x:c7}:WP P ro ({dst:=d,k:=.Cr x,gd:=none,q:=q} ::l) ks ts h Q=WR P ro (GU (val ts x) h.length) q d l ks ts h Q:=rfl
def Ic{s:By}{N:Nat}:GU (.str s) N=some (.ptr N 0,.push (.iter s 0)):=rfl
def F2{X:ah}{K}:(X++[K])[X.length]? =some K:=by
 exact ba
def PQ{n o X K}:ao n (.ptr X.length o) (λz=>(X++[K])[z]?)=dG n o K:=aA F2
def Ov{y o v X K}:aX y (.ptr X.length o) v (λz=>(X++[K])[z]?)=kN y o v X.length K:=aK F2
def Py{pos s X}:fS (.ptr X.length 0) (λz=>(X++[.iter s pos])[z]?)=eM X.length s pos:=dU F2
def Cb{X:ah}{K K'}:(X++[K]).set X.length K' =X++[K']:=by
 exact zd
def qa{X:ah}{K a}:(X++[K]++a)[X.length]? =some K:=by
 rw[dq,F2];simp
def PO{n o X K a}:ao n (.ptr X.length o) (λz=>(X++[K]++a)[z]?)=dG n o K:=aA qa
def Ou{y o v X K a}:aX y (.ptr X.length o) v (λz=>(X++[K]++a)[z]?)=kN y o v X.length K:=aK qa
def Px{pos s X a}:fS (.ptr X.length 0) (λz=>(X++[.iter s pos]++a)[z]?)=eM X.length s pos:=dU qa
def ze{X:ah}{K K' a}:(X++[K]++a).set X.length K' =X++[K']++a:=by
 rw[fk,Cb];simp
def Ba{X:ah}{K a b}:(X++[K]++a++b)[X.length]? =some K:=by
 rw[dq,qa];simp
def PN{n o X K a b}:ao n (.ptr X.length o) (λz=>(X++[K]++a++b)[z]?)=dG n o K:=aA Ba
def Ot{y o v X K a b}:aX y (.ptr X.length o) v (λz=>(X++[K]++a++b)[z]?)=kN y o v X.length K:=aK Ba
def Pv{pos s X a b}:fS (.ptr X.length 0) (λz=>(X++[.iter s pos]++a++b)[z]?)=eM X.length s pos:=dU Ba
def GQ{X:ah}{K K' a b}:(X++[K]++a++b).set X.length K' =X++[K']++a++b:=by
 rw[fk,ze];simp
def ti{X:ah}{K a b c}:(X++[K]++a++b++c)[X.length]? =some K:=by
 rw[dq,Ba];simp
def PM{n o X K a b c}:ao n (.ptr X.length o) (λz=>(X++[K]++a++b++c)[z]?)=dG n o K:=aA ti
def Oq{y o v X K a b c}:aX y (.ptr X.length o) v (λz=>(X++[K]++a++b++c)[z]?)=kN y o v X.length K:=aK ti
def Pu{pos s X a b c}:fS (.ptr X.length 0) (λz=>(X++[.iter s pos]++a++b++c)[z]?)=eM X.length s pos:=dU ti
def GP{X:ah}{K K' a b c}:(X++[K]++a++b++c).set X.length K' =X++[K']++a++b++c:=by
 rw[fk,GQ];simp
def uR{X:ah}{K a b c d}:(X++[K]++a++b++c++d)[X.length]? =some K:=by
 rw[dq,ti];simp
def PL{n o X K a b c d}:ao n (.ptr X.length o) (λz=>(X++[K]++a++b++c++d)[z]?)=dG n o K:=aA uR
def Oo{y o v X K a b c d}:aX y (.ptr X.length o) v (λz=>(X++[K]++a++b++c++d)[z]?)=kN y o v X.length K:=aK uR
def Pt{pos s X a b c d}:fS (.ptr X.length 0) (λz=>(X++[.iter s pos]++a++b++c++d)[z]?)=eM X.length s pos:=dU uR
def B6{X:ah}{K K' a b c d}:(X++[K]++a++b++c++d).set X.length K' =X++[K']++a++b++c++d:=by
 rw[fk,GP];simp
def DE{X:ah}{K a b c d e}:(X++[K]++a++b++c++d++e)[X.length]? =some K:=by
 rw[dq,uR];simp
def PK{n o X K a b c d e}:ao n (.ptr X.length o) (λz=>(X++[K]++a++b++c++d++e)[z]?)=dG n o K:=aA DE
def On{y o v X K a b c d e}:aX y (.ptr X.length o) v (λz=>(X++[K]++a++b++c++d++e)[z]?)=kN y o v X.length K:=aK DE
def Ps{pos s X a b c d e}:fS (.ptr X.length 0) (λz=>(X++[.iter s pos]++a++b++c++d++e)[z]?)=eM X.length s pos:=dU DE
def GO{X:ah}{K K' a b c d e}:(X++[K]++a++b++c++d++e).set X.length K' =X++[K']++a++b++c++d++e:=by
 rw[fk,B6];simp
def F1{X:ah}{K a b c d e f}:(X++[K]++a++b++c++d++e++f)[X.length]? =some K:=by
 rw[dq,DE];simp
def PJ{n o X K a b c d e f}:ao n (.ptr X.length o) (λz=>(X++[K]++a++b++c++d++e++f)[z]?)=dG n o K:=aA F1
def Ol{y o v X K a b c d e f}:aX y (.ptr X.length o) v (λz=>(X++[K]++a++b++c++d++e++f)[z]?)=kN y o v X.length K:=aK F1
def Pr{pos s X a b c d e f}:fS (.ptr X.length 0) (λz=>(X++[.iter s pos]++a++b++c++d++e++f)[z]?)=eM X.length s pos:=dU F1
def GN{X:ah}{K K' a b c d e f}:(X++[K]++a++b++c++d++e++f).set X.length K' =X++[K']++a++b++c++d++e++f:=by
 rw[fk,GO];simp
def F0{X:ah}{K a b c d e f g}:(X++[K]++a++b++c++d++e++f++g)[X.length]? =some K:=by
 rw[dq,F1];simp
def PI{n o X K a b c d e f g}:ao n (.ptr X.length o) (λz=>(X++[K]++a++b++c++d++e++f++g)[z]?)=dG n o K:=aA F0
def Ok{y o v X K a b c d e f g}:aX y (.ptr X.length o) v (λz=>(X++[K]++a++b++c++d++e++f++g)[z]?)=kN y o v X.length K:=aK F0
def Pq{pos s X a b c d e f g}:fS (.ptr X.length 0) (λz=>(X++[.iter s pos]++a++b++c++d++e++f++g)[z]?)=eM X.length s pos:=dU F0
def GM{X:ah}{K K' a b c d e f g}:(X++[K]++a++b++c++d++e++f++g).set X.length K' =X++[K']++a++b++c++d++e++f++g:=by
 rw[fk,GN];simp
def FZ{X:ah}{K a b c d e f g i}:(X++[K]++a++b++c++d++e++f++g++i)[X.length]? =some K:=by
 rw[dq,F0];simp
def PH{n o X K a b c d e f g i}:ao n (.ptr X.length o) (λz=>(X++[K]++a++b++c++d++e++f++g++i)[z]?)=dG n o K:=aA FZ
def Oj{y o v X K a b c d e f g i}:aX y (.ptr X.length o) v (λz=>(X++[K]++a++b++c++d++e++f++g++i)[z]?)=kN y o v X.length K:=aK FZ
def Pp{pos s X a b c d e f g i}:fS (.ptr X.length 0) (λz=>(X++[.iter s pos]++a++b++c++d++e++f++g++i)[z]?)=eM X.length s pos:=dU FZ
def GL{X:ah}{K K' a b c d e f g i}:(X++[K]++a++b++c++d++e++f++g++i).set X.length K' =X++[K']++a++b++c++d++e++f++g++i:=by
 rw[fk,GM];simp
def FY{X:ah}{K a b c d e f g i j}:(X++[K]++a++b++c++d++e++f++g++i++j)[X.length]? =some K:=by
 rw[dq,FZ];simp
def PG{n o X K a b c d e f g i j}:ao n (.ptr X.length o) (λz=>(X++[K]++a++b++c++d++e++f++g++i++j)[z]?)=dG n o K:=aA FY
def Oi{y o v X K a b c d e f g i j}:aX y (.ptr X.length o) v (λz=>(X++[K]++a++b++c++d++e++f++g++i++j)[z]?)=kN y o v X.length K:=aK FY
def Po{pos s X a b c d e f g i j}:fS (.ptr X.length 0) (λz=>(X++[.iter s pos]++a++b++c++d++e++f++g++i++j)[z]?)=eM X.length s pos:=dU FY
def GK{X:ah}{K K' a b c d e f g i j}:(X++[K]++a++b++c++d++e++f++g++i++j).set X.length K' =X++[K']++a++b++c++d++e++f++g++i++j:=by
 rw[fk,GL];simp
def zS{X:ah}{K a b c d e f g i j m}:(X++[K]++a++b++c++d++e++f++g++i++j++m)[X.length]? =some K:=by
 rw[dq,FY];simp
def Mm{n o X K a b c d e f g i j m}:ao n (.ptr X.length o) (λz=>(X++[K]++a++b++c++d++e++f++g++i++j++m)[z]?)=dG n o K:=aA zS
def Lv{y o v X K a b c d e f g i j m}:aX y (.ptr X.length o) v (λz=>(X++[K]++a++b++c++d++e++f++g++i++j++m)[z]?)=kN y o v X.length K:=aK zS
def L5{pos s X a b c d e f g i j m}:fS (.ptr X.length 0) (λz=>(X++[.iter s pos]++a++b++c++d++e++f++g++i++j++m)[z]?)=eM X.length s pos:=dU zS
def Ca{X:ah}{K K' a b c d e f g i j m}:(X++[K]++a++b++c++d++e++f++g++i++j++m).set X.length K' =X++[K']++a++b++c++d++e++f++g++i++j++m:=by
 rw[fk,GK];simp
def zR{X:ah}{K a b c d e f g i j m p}:(X++[K]++a++b++c++d++e++f++g++i++j++m++p)[X.length]? =some K:=by
 rw[dq,zS];simp
def Ml{n o X K a b c d e f g i j m p}:ao n (.ptr X.length o) (λz=>(X++[K]++a++b++c++d++e++f++g++i++j++m++p)[z]?)=dG n o K:=aA zR
def Lu{y o v X K a b c d e f g i j m p}:aX y (.ptr X.length o) v (λz=>(X++[K]++a++b++c++d++e++f++g++i++j++m++p)[z]?)=kN y o v X.length K:=aK zR
def L1{pos s X a b c d e f g i j m p}:fS (.ptr X.length 0) (λz=>(X++[.iter s pos]++a++b++c++d++e++f++g++i++j++m++p)[z]?)=eM X.length s pos:=dU zR
def B9{X:ah}{K K' a b c d e f g i j m p}:(X++[K]++a++b++c++d++e++f++g++i++j++m++p).set X.length K' =X++[K']++a++b++c++d++e++f++g++i++j++m++p:=by
 rw[fk,Ca];simp
def zQ{X:ah}{K a b c d e f g i j m p q}:(X++[K]++a++b++c++d++e++f++g++i++j++m++p++q)[X.length]? =some K:=by
 rw[dq,zR];simp
def Mk{n o X K a b c d e f g i j m p q}:ao n (.ptr X.length o) (λz=>(X++[K]++a++b++c++d++e++f++g++i++j++m++p++q)[z]?)=dG n o K:=aA zQ
def Lt{y o v X K a b c d e f g i j m p q}:aX y (.ptr X.length o) v (λz=>(X++[K]++a++b++c++d++e++f++g++i++j++m++p++q)[z]?)=kN y o v X.length K:=aK zQ
def L0{pos s X a b c d e f g i j m p q}:fS (.ptr X.length 0) (λz=>(X++[.iter s pos]++a++b++c++d++e++f++g++i++j++m++p++q)[z]?)=eM X.length s pos:=dU zQ
def B8{X:ah}{K K' a b c d e f g i j m p q}:(X++[K]++a++b++c++d++e++f++g++i++j++m++p++q).set X.length K' =X++[K']++a++b++c++d++e++f++g++i++j++m++p++q:=by
 rw[fk,B9];simp
def zP{X:ah}{K a b c d e f g i j m p q r}:(X++[K]++a++b++c++d++e++f++g++i++j++m++p++q++r)[X.length]? =some K:=by
 rw[dq,zQ];simp
def Mj{n o X K a b c d e f g i j m p q r}:ao n (.ptr X.length o) (λz=>(X++[K]++a++b++c++d++e++f++g++i++j++m++p++q++r)[z]?)=dG n o K:=aA zP
def Lq{y o v X K a b c d e f g i j m p q r}:aX y (.ptr X.length o) v (λz=>(X++[K]++a++b++c++d++e++f++g++i++j++m++p++q++r)[z]?)=kN y o v X.length K:=aK zP
def LZ{pos s X a b c d e f g i j m p q r}:fS (.ptr X.length 0) (λz=>(X++[.iter s pos]++a++b++c++d++e++f++g++i++j++m++p++q++r)[z]?)=eM X.length s pos:=dU zP
def B7{X:ah}{K K' a b c d e f g i j m p q r}:(X++[K]++a++b++c++d++e++f++g++i++j++m++p++q++r).set X.length K' =X++[K']++a++b++c++d++e++f++g++i++j++m++p++q++r:=by
 rw[fk,B8];simp
def DF{X:ah}{K a b c d e f g i j m p q r t}:(X++[K]++a++b++c++d++e++f++g++i++j++m++p++q++r++t)[X.length]? =some K:=by
 rw[dq,zP];simp
def Mi{n o X K a b c d e f g i j m p q r t}:ao n (.ptr X.length o) (λz=>(X++[K]++a++b++c++d++e++f++g++i++j++m++p++q++r++t)[z]?)=dG n o K:=aA DF
def Lp{y o v X K a b c d e f g i j m p q r t}:aX y (.ptr X.length o) v (λz=>(X++[K]++a++b++c++d++e++f++g++i++j++m++p++q++r++t)[z]?)=kN y o v X.length K:=aK DF
def LY{pos s X a b c d e f g i j m p q r t}:fS (.ptr X.length 0) (λz=>(X++[.iter s pos]++a++b++c++d++e++f++g++i++j++m++p++q++r++t)[z]?)=eM X.length s pos:=dU DF
def H3{X:ah}{K K' a b c d e f g i j m p q r t}:(X++[K]++a++b++c++d++e++f++g++i++j++m++p++q++r++t).set X.length K' =X++[K']++a++b++c++d++e++f++g++i++j++m++p++q++r++t:=by
 rw[fk,B7];simp
def Mq{o:Nat}{c:List AV}{mu tl:Bool}{x:AV}(hx:c[o]? =some x):dG none o (.cells c mu tl)=some (x,.ar):=by simp only[dG,hx]
def Mp{o n:Nat}{c:List AV}{mu tl:Bool}(hx:o+n<=c.length):dG (some n) o (.cells c mu tl)=some (.agg ((c.drop o).take n),.ar):=by simp only[dG];rw[aai hx]
def n6{n o b:Nat}{c l:List AV}{tl:Bool}(h1:l.length=n)(h2:l.all AV.one=true)(h3:o+n<=c.length):kN n o (.agg l) b (.cells c true tl)=some (az,.set b (.cells (gf c o l) true tl)):=by
 show(if l.length=n/\l.all AV.one=true/\o+n<=c.length then _ else none)=_;rw[aai ⟨h1,h2,h3⟩];rfl
def AV.mJ{v:AV}(hv:v.one=true):v.cells=[v]:=by cases v<;>first|rfl|cases hv
def bP{o b:Nat}{c:List AV}{v:AV}{tl:Bool}(h2:v.one=true)(h3:o+1<=c.length):kN 1 o v b (.cells c true tl)=some (az,.set b (.cells (c.set o v) true tl)):=by
 simp only[kN,AV.mJ h2];rw[aai ⟨rfl,by simp[h2],h3⟩];rfl
def Cd{c:List AV}{o:Nat}:gf c o []=c:=rfl
def pR{c:List AV}{o:Nat}{x:AV}{xs:List AV}:gf c o (x::xs)=gf (c.set o x) (o+1) xs:=rfl
def HB{z:List AV}:dY 0 z=[]:=rfl
def Bw{n:Nat}{z:List AV}:dY (n+1) z=z++dY n z:=rfl
def Db{c:List AV}:fi c []=some c:=rfl
def Da{c:List AV}{off:Nat}{v:AV}{r:List (Nat×Nat×AV)}(h2:v.one=true)(h3:off+1<=c.length):fi c ((off,1,v)::r)=fi (c.set off v) r:=by
 simp only[fi,AV.mJ h2];rw[aai ⟨rfl,h3⟩];rfl
def Dc{c l:List AV}{off n:Nat}{r:List (Nat×Nat×AV)}(h2:l.length=n)(h3:off+n<=c.length):fi c ((off,n,.agg l)::r)=fi (gf c off l) r:=by
 show(if l.length=n/\off+n<=c.length then fi (gf c off l) r else none)=_;rw[aai ⟨h2,h3⟩]
def yK{es n N:Nat}{c:List AV}(h1:c.all AV.one=true)(h2:c.length=n*es)(h3:1<=n):yL es n (some c) N=some (.slice N 0 n es,.push (.cells c true true)):=by
 have:Nat.beq n 0=false:=by cases n with|zero=>omega|succ n=>rfl
 simp only[yL];rw[aai ⟨h1,h2⟩,this];rfl
def M7{es N:Nat}:yL es 0 (some []) N=some (.slice N 0 0 es,.push (.cells [] true false)):=by
 simp only[yL];rw[aai ⟨rfl,Si⟩];rfl
def Ix{f:Nat×c7->Nat×Nat×AV}:List.map f []=[]:=rfl
def Iw{f:Nat×c7->Nat×Nat×AV}{a:Nat×c7}{l:List (Nat×c7)}:List.map f (a::l)=f a::l.map f:=rfl
def Iv{f:Nat×Nat×c7->Nat×Nat×AV}:List.map f []=[]:=rfl
def Iu{f:Nat×Nat×c7->Nat×Nat×AV}{a:Nat×Nat×c7}{l:List (Nat×Nat×c7)}:List.map f (a::l)=f a::l.map f:=rfl
def E5{l:List AV}:l.drop 0=l:=rfl
def E4{a:AV}{l:List AV}{n:Nat}:(a::l).drop (n+1)=l.drop n:=rfl
def E3{l:List AV}:l.take 0=[]:=Si
def E2{a:AV}{l:List AV}{n:Nat}:(a::l).take (n+1)=a::l.take n:=rfl
def IM{a:AV}{l:List AV}:(a::l)[0]? =some a:=rfl
def IL{a:AV}{l:List AV}{n:Nat}:(a::l)[n+1]? =l[n]? :=rfl
abbrev aM(x:Int):List AV:=[.int .i64 x]
def cg{X:ah}(l:List Int):aI (X++[.cells (l.map (AV.int .i64)) true true]) (.slice X.length 0 l.length 1) 1 (l.map aM):=by
 have hf:(l.map aM).flatten=l.map (AV.int .i64):=by induction l with
  |nil=>rfl
  |cons x xs ih=>simp[aM]at ih ⊢;exact ih
 have h1:(l.map aM).length=l.length:=Si
 rw[<-h1];exact .mk (by simp;exact⟨rfl,rfl,rfl⟩) (by rw[hf,acd,h1,abt];exact aaM Si) Si (by simp[aM])
section
variable {h:ah}{s:AV}{es:Nat}{cs:List (List AV)}
def aI.Mg(hs:aI h s es cs){k:ah}{i:Nat}(e:Ext h k)(hi:i<cs.length):ao (some es) (.ptr s.sb (s.so+i*es)) (λb=>k[b]?)=some (.agg cs[i],.ar):=(hs.ext e).load hi
def aI.Iz(hs:aI h s es cs){k:ah}{i off:Nat}(e:Ext h k)(hi:i<cs.length){x:AV}(hx:cs[i][off]? =some x):ao none (.ptr s.sb (s.so+i*es+off)) (λb=>k[b]?)=some (x,.ar):=(hs.ext e).CY hi hx
def aI.IA(hs:aI h s es cs){k:ah}{i:Nat}(e:Ext h k)(hi:i<cs.length){x:AV}(hx:cs[i][0]? =some x):ao none (.ptr s.sb (s.so+i*es)) (λb=>k[b]?)=some (x,.ar):=(hs.ext e).CY (off:=0) hi hx
end
def aT:=A4 (GC @PQ @Ov @Py @Cb @PO @Ou @Px @ze @PN @Ot @Pv @GQ @PM @Oq @Pu @GP @PL @Oo @Pt @B6 @PK @On @Ps @GO) (GC @PJ @Ol @Pr @GN @PI @Ok @Pq @GM @PH @Oj @Pp @GL @PG @Oi @Po @GK @Mm @Lv @L5 @Ca @Ml @Lu @L1 @B9) (GC @Mk @Lt @L0 @B8 @Mj @Lq @LZ @B7 @Mi @Lp @LY @H3 @vG @DR @Ic @Mq @Mp @n6 @bP @Cd @pR @HB @Bw @Db) (Bo @Da @Dc @yK @M7 @Ix @Iw @Iv @Iu @E5 @E4 @E3 @E2 @IM @IL)
def tf:
  (∀{h:ah},Ext h (h)=True)/\
  (∀{h a:ah},Ext h (h++a)=True)/\
  (∀{h a b:ah},Ext h (h++a++b)=True)/\
  (∀{h a b c:ah},Ext h (h++a++b++c)=True)/\
  (∀{h a b c d:ah},Ext h (h++a++b++c++d)=True)/\
  (∀{h a b c d e:ah},Ext h (h++a++b++c++d++e)=True)/\
  (∀{h a b c d e f:ah},Ext h (h++a++b++c++d++e++f)=True)/\
  (∀{h a b c d e f g:ah},Ext h (h++a++b++c++d++e++f++g)=True)/\
  (∀{h a b c d e f g i:ah},Ext h (h++a++b++c++d++e++f++g++i)=True)/\
  (∀{h a b c d e f g i j:ah},Ext h (h++a++b++c++d++e++f++g++i++j)=True):=
 ⟨@Hk,@Hj,@Hi,@Hh,@Hg,@Hf,@He,@Hd,@Hc,@Ha⟩
end Go.Abs
namespace Go.Abs
def RS:Option AV->Option (AV×jd)
 |some x=>some (x,.ar)
 |none=>none
def Mn{x}:RS (some x)=some (x,.ar):=rfl
def Mo{o c mu tl}:dG none o (.cells c mu tl)=RS c[o]? :=rfl
def cI(s:AV)(es i:Nat):AV:=.ptr s.sb (s.so+i*es)
def jF(s:AV)(es i off:Nat):AV:=.ptr s.sb (s.so+i*es+off)
def Fl{s es i off}:ua off (cI s es i)=some (jF s es i off):=rfl
section
variable {α:Type}{row:α->List AV}{L:List α}{h k:ah}{s:AV}{es:Nat}
def aI.aH(hs:aI h s es (L.map row))(G:Nat->Option ak):Go.Abs.ja .sl G s=some L.length:=by
 rw[hs.ja G,aaa]
def aI.c6(hs:aI h s es (L.map row)){i:Nat}{kk}(hi:i<L.length):bf es s (.int kk (i:Int))=some (cI s es i,.ar):=by
 rw[hs.bp Om (by rw[aaa];omega),Int.toNat_natCast];rfl
def aI.qP(hs:aI h s es (L.map row)){kk}(hi:0<L.length):bf es s (.int kk 0)=some (cI s es 0,.ar):=hs.c6 hi
def aI.gP(hs:aI h s es (L.map row)){i}(hi:i<L.length)(e:Ext h k):ao (some es) (cI s es i) (λb=>k[b]?)=some (.agg (row L[i]),.ar):=by
 rw[cI,hs.Mg e (by rw[aaa];exact hi),abf]
def aI.kT(hs:aI h s es (L.map row)){i off x}(hi:i<L.length)(hx:(row L[i])[off]? =some x)(e:Ext h k):ao none (jF s es i off) (λb=>k[b]?)=some (x,.ar):=
 hs.Iz e (by rw[aaa];exact hi) (by rw[abf];exact hx)
def aI.lC(hs:aI h s es (L.map row)){i x}(hi:i<L.length)(hx:(row L[i])[0]? =some x)(e:Ext h k):ao none (cI s es i) (λb=>k[b]?)=some (x,.ar):=
 hs.IA e (by rw[aaa];exact hi) (by rw[abf];exact hx)
def aI.Eg(hs:aI h s es (L.map row)){lo hi l u}(hb:ju lo hi L.length=some (l,u)):∃s',Al es s lo hi=some (s',.ar)/\aI h s' es (((L.drop l).take (u-l)).map row):=by
 obtain⟨s',h1,h2⟩:=hs.sl (lo:=lo) (hi:=hi) (by rw[aaa];exact hb);exact⟨s',h1,by rw[acC,List.map_drop];exact h2⟩
end
def jt{n k:Nat}{kk}(hk:k<=n):ju none (some (.int kk (k:Int))) n=some (0,k):=by
 simp only[ju,IC,G5];rw[aai Om];simp
def mM{n k:Nat}{kk}(hk:k<=n):ju (some (.int kk (k:Int))) none n=some (k,n):=by
 simp only[ju,IC,G5];rw[aai Om];simp
def wG{c r k}:wI (.str (c::r)) (.int k 0)=some (.int .u8 c.toNat):=rfl
def ke{s i k}(hi:i<s.length):wI (.str s) (.int k (i:Nat))=some (.int .u8 s[i].toNat):=by
 simp[wI,hi]
def wrapN{n:Nat}(h:n+1<2^63):IntKind.i64.wrap ((n:Int)+1)=((n+1:Nat):Int):=by rw[bD Om Om];rfl
def lv:Option (AV×jd)->Option AV
 |some (v,_)=>some v
 |none=>none
def PF{v e}:lv (some (v,e))=some v:=rfl
def db{ts h a n}:dJ ts h (a,some n)=lv (ao n (slot ts a) (λb=>h[b]?)):=by
 simp only[dJ,dI,val,slot];cases ts.getD a az with
 |ptr b o=>
  simp only[ao];cases h[b]? with
  |none=>rfl
  |some k=>
   cases k with
   |cells c mu tl=>
    cases n with
    |none=>simp only;cases c[o]? <;>rfl
    |some n=>simp only;by_cases hc:o+n<=c.length
             ·rw[aai hc,aai hc];rfl
             ·rw[aab hc,aab hc];rfl
   |_=>rfl
 |_=>rfl
def BZ:Option AV->Option AV->Option AV
 |some a,some b=>some (.dW [a,b])
 |_,_=>none
def uq:Option AV->Option AV->Option AV->Option AV
 |some a,some b,some c=>some (.dW [a,b,c])
 |_,_,_=>none
def HT{a b}:BZ (some a) (some b)=some (.dW [a,b]):=rfl
def HS{a b c}:uq (some a) (some b) (some c)=some (.dW [a,b,c]):=rfl
def Ao{ts h r}:cT [r] ts h=dJ ts h r:=by
 simp only[cT,jm];cases dJ ts h r<;>rfl
def pS{ts h r s}:cT [r,s] ts h=BZ (dJ ts h r) (dJ ts h s):=by
 simp only[cT,jm];cases dJ ts h r<;>cases dJ ts h s<;>rfl
def iK{ts h r s t}:cT [r,s,t] ts h=uq (dJ ts h r) (dJ ts h s) (dJ ts h t):=by
 simp only[cT,jm];cases dJ ts h r<;>cases dJ ts h s<;>cases dJ ts h t<;>rfl
def da{ts h a}:dJ ts h (a,none)=some (slot ts a):=rfl
def Cw:∀{ts}{h}{x}{nx},cT [(x,some nx)] ts h=lv (ao nx (slot ts x) (λb=>h[b]?)):=by
 intros;rw[Ao];simp only[db,da]
def Ap:∀{ts}{h}{x y}{ny},cT [(x,none),(y,some ny)] ts h=BZ (some (slot ts x)) (lv (ao ny (slot ts y) (λb=>h[b]?))):=by
 intros;rw[pS];simp only[db,da]
def Aq:∀{ts}{h}{x y}{nx},cT [(x,some nx),(y,none)] ts h=BZ (lv (ao nx (slot ts x) (λb=>h[b]?))) (some (slot ts y)):=by
 intros;rw[pS];simp only[db,da]
def Ar:∀{ts}{h}{x y}{nx ny},cT [(x,some nx),(y,some ny)] ts h=BZ (lv (ao nx (slot ts x) (λb=>h[b]?))) (lv (ao ny (slot ts y) (λb=>h[b]?))):=by
 intros;rw[pS];simp only[db,da]
def yk:∀{ts}{h}{x y z}{nz},cT [(x,none),(y,none),(z,some nz)] ts h=uq (some (slot ts x)) (some (slot ts y)) (lv (ao nz (slot ts z) (λb=>h[b]?))):=by
 intros;rw[iK];simp only[db,da]
def yl:∀{ts}{h}{x y z}{ny},cT [(x,none),(y,some ny),(z,none)] ts h=uq (some (slot ts x)) (lv (ao ny (slot ts y) (λb=>h[b]?))) (some (slot ts z)):=by
 intros;rw[iK];simp only[db,da]
def ym:∀{ts}{h}{x y z}{ny nz},cT [(x,none),(y,some ny),(z,some nz)] ts h=uq (some (slot ts x)) (lv (ao ny (slot ts y) (λb=>h[b]?))) (lv (ao nz (slot ts z) (λb=>h[b]?))):=by
 intros;rw[iK];simp only[db,da]
def yn:∀{ts}{h}{x y z}{nx},cT [(x,some nx),(y,none),(z,none)] ts h=uq (lv (ao nx (slot ts x) (λb=>h[b]?))) (some (slot ts y)) (some (slot ts z)):=by
 intros;rw[iK];simp only[db,da]
def yo:∀{ts}{h}{x y z}{nx nz},cT [(x,some nx),(y,none),(z,some nz)] ts h=uq (lv (ao nx (slot ts x) (λb=>h[b]?))) (some (slot ts y)) (lv (ao nz (slot ts z) (λb=>h[b]?))):=by
 intros;rw[iK];simp only[db,da]
def yp:∀{ts}{h}{x y z}{nx ny},cT [(x,some nx),(y,some ny),(z,none)] ts h=uq (lv (ao nx (slot ts x) (λb=>h[b]?))) (lv (ao ny (slot ts y) (λb=>h[b]?))) (some (slot ts z)):=by
 intros;rw[iK];simp only[db,da]
def yq:∀{ts}{h}{x y z}{nx ny nz},cT [(x,some nx),(y,some ny),(z,some nz)] ts h=uq (lv (ao nx (slot ts x) (λb=>h[b]?))) (lv (ao ny (slot ts y) (λb=>h[b]?))) (lv (ao nz (slot ts z) (λb=>h[b]?))):=by
 intros;rw[iK];simp only[db,da]
def I0{b}:nO false (some b)=some (.bool b):=rfl
def IZ{b}:nO true (some b)=some (.bool !b):=rfl
def Bc(b:Bool)(o:Option Bool):Option Bool:=
 match b with
 |true=>o
 |false=>some false
def Jw{b c}:Bc b (some c)=some (b&&c):=by cases b<;>rfl
def M1{k a b ks xs ys}:dm (.i::ks) (.int k a::xs) (.int k b::ys)=Bc (decide (a=b)) (dm ks xs ys):=by
 exact KZ
def MZ{a b ks xs ys}:dm (.s::ks) (.str a::xs) (.str b::ys)=Bc (decide (a=b)) (dm ks xs ys):=by
 exact KZ
def M3{a b ks xs ys}:dm (.b::ks) (.bool a::xs) (.bool b::ys)=Bc (a==b) (dm ks xs ys):=by
 cases a<;>cases b<;>rfl
def M0:dm [] [] []=some true:=rfl
def NN{ks xs ys}(h1:xs.length=ks.length)(h2:ys.length=ks.length):mQ (.agg ks) (.agg xs) (.agg ys)=dm ks xs ys:=by
 simp only[mQ,zG];rw[aai ⟨h1,h2⟩]
def M4{a b}:mQ (.one .b) (.bool a) (.bool b)=some (a==b):=rfl
def FA{a:CK}{l:List CK}:(a::l).length=l.length+1:=rfl
def FB:([] :List CK).length=0:=rfl
def Fr.lt{N h s es cs}(hs:Fr N h s es cs){b o n e}(hb:s=.slice b o n e):N<=b/\b<h.length:=by
 cases hs with
 |nil=>cases hb
 |mk hN h1 he=>cases hb;exact⟨hN,(Z2.1 h1).1⟩
def Fr.swap{A B g s es cs}(hs:Fr A.length (A++g) s es cs)(hl:B.length=A.length):Fr A.length (B++g) s es cs:=by
 cases hs with
 |nil=>exact .nil
 | @mk _ _ _ tl hN h1 TP=>
  refine .mk (tl:=tl) hN ?_ TP;rw[aaf Om]at h1 ⊢;rw[hl];exact h1
def WR.fg{P ro ks ts Q h s y es cs ys h0 w d l}
  (hs:Fr h0.length h s es cs) (hy:aI h y es ys) (hes:0<es) (hne:0<ys.length) (eQ:(cs.length+ys.length)*w<=2^46) (he:Ext h0 h)
  (K:∀g,(h0++g).length=h.length+1->Fr h0.length (h0++g) (.slice h.length 0 (cs++ys).length es) es (cs++ys)->(∀b,b<h.length->(∀b0 o n e,s=.slice b0 o n e->b≠b0)->(h0++g)[b]? =h[b]?)->WP P ro l ks (put ts d (.slice h.length 0 (cs++ys).length es)) (h0++g) Q):
  WR P ro (qb es w s y (λb=>h[b]?) h.length) false d l ks ts h Q:=by
 have UJ:∀x∈cs++ys,x.length=es:=λx hx=>by
  exact KK
 have hk:¬ys.length=0:=Om
 simp only[qb,hy.fG];cases hs with
 |nil=>
  simp only[Z9,aaP]at eQ;simp only[aab hk,aai eQ];rw[mN];have hx:=Fr.push (N:=h0.length) he.len ys hy.rows;obtain⟨g,rfl⟩:=he;have hK:=K (g++[.cells ys.flatten true true]) (by simp;omega);simp only[<-Z4,abI]at hK;exact hK hx λb hb _=>Z7 hb
 | @mk b _ _ tl hN hb hre=>
  have hcl:=fh hre;cases tl with
  |false=>
   simp only[aan,aab hk,aai eQ,hb,aaP];rw[aai Om,mN,abt];have hx:=Fr.push (h:=h) (N:=h0.length) (es:=es) he.len (cs++ys) UJ;simp only[Z1,abM]at hx ⊢;obtain⟨g,rfl⟩:=he;have hK:=K (g++[.cells (cs.flatten++ys.flatten) true true]) (by simp;omega);simp only[<-Z4,Z1,abM]at hK hx ⊢;exact hK hx λb hb _=>Z7 (by simpa using hb)
  |true=>
  simp only[aan,aab hk,aai eQ,hb,aaP];rw[aai Om,nS];have hbl:b<h.length:=(Z2.1 hb).1;have hx:=Fr.push (h:=h.set b .dead) (N:=h0.length) (es:=es) (by simpa using he.len) (cs++ys) UJ;have hc:List.take (cs.length*es) (List.drop 0 cs.flatten)=cs.flatten:=by rw[abt,<-hcl,aaI]
  rw[hc];obtain⟨g,rfl⟩:=he;have aT:(h0++g).set b .dead++[ak.cells (cs.flatten++ys.flatten) true true]=h0++(g.set (b-h0.length) .dead++[ak.cells (cs.flatten++ys.flatten) true true]):=by
   rw[aa1 _ _ hN,Z4]
  have hK:=K (g.set (b-h0.length) .dead++[.cells (cs.flatten++ys.flatten) true true]) (by simp;omega);rw[<-aT]at hK;simp only[aaL,abM,Z1]at hx hK ⊢;refine hK hx ?_;intro i hi hne;have:=hne b 0 _ _ rfl;rw[Z7 (by simpa using hi),aaj (abo this)]
def CM{k n}:AV.one (.int k n)=true:=rfl
def LW{b}:AV.one (.bool b)=true:=rfl
def GX{b}:AV.one (.str b)=true:=rfl
def LR{b o}:AV.one (.ptr b o)=true:=rfl
def LU{b o n e}:AV.one (.slice b o n e)=true:=rfl
def LS:AV.one .af=true:=rfl
def LV{f a c}:AV.one (.func f a c)=true:=rfl
def DI{a l}:(a::l).all AV.one=(a.one&&l.all AV.one):=rfl
def DH:([] :List AV).all AV.one=true:=rfl
def bL.o(n:Nat)(k:pI):bL:=⟨some n,k,none,false⟩
def bL.x(k:pI):bL:=⟨none,k,none,false⟩
def bL.m(n i:Nat):bL:=⟨some n,.bV (.t i),none,false⟩
def bL.y(n:Nat)(k:pI):bL:=⟨some n,k,none,true⟩
def bL.l(n i:Nat):bL:=⟨some n,.load none (.t i),none,false⟩
def bL.a(n o i:Nat):bL:=⟨some n,.aP o (.t i),none,false⟩
def bL.c(n f:Nat)(l:List c7):bL:=⟨some n,.call (.f f) l,none,false⟩
def bL.b(n:Nat)(k:BinOp)(x y:c7):bL:=⟨some n,.bin k x y,none,false⟩
def bL.e(n i j:Nat):bL:=⟨some n,.ext (.t i) j,none,false⟩
def bL.s(w i j:Nat):bL:=⟨none,.store w (.t i) (.t j),none,false⟩
def bL.r(n w i:Nat):bL:=⟨some n,.load (some w) (.t i),none,false⟩
def bL.p(n i:Nat):bL:=⟨some n,.box (.t i),none,false⟩
def bL.u(n:Nat)(k:BinOp)(i j:Nat):bL:=⟨some n,.bin k (.t i) (.t j),none,false⟩
def bL.h(n w i j:Nat):bL:=⟨some n,.bp w (.t i) (.t j),none,false⟩
def bL.d(n i j:Nat):bL:=⟨some n,.pick (.t i) (.t j) (.c (.bool false)),none,false⟩
def bL.f(n i j:Nat):bL:=⟨some n,.pick (.t i) (.c (.bool true)) (.t j),none,false⟩
def bL.n(n i:Nat):bL:=⟨some n,.len .sl (.t i),none,false⟩
def c7.n(k:Int):c7:=.c (.int .i64 k)
def ai.s(l:List bL)(b:ai):ai:=.seq (.ops l) b
def ai.r(l:List bL):ai:=.seq (.ops l) .ret
def bL.j(n i:Nat):bL:=⟨some n,.load none (.t i),none,true⟩
def bL.w(n i:Nat):bL:=⟨some n,.bV (.t i),none,true⟩
def bL.t(n c:Nat)(b:Bool)(i:Nat):bL:=⟨some n,.bV (.t i),some (c,b),false⟩
def bL.v(n:Nat)(k:BinOp)(i:Nat)(y:c7):bL:=⟨some n,.bin k (.t i) y,none,false⟩
def c7.T:c7:=.c (.bool true)
def c7.F:c7:=.c (.bool false)
def ai.j(n:Nat)(l:List bL):ai:=.cond (.t n) (.seq (.ops l) .ret) .skip
def ai.i(n:Nat)(a b:ai):ai:=.cond (.t n) a b
def bL.g(n c:Nat)(b:Bool)(k:pI):bL:=⟨some n,k,some (c,b),false⟩
def c7.z:c7:=.c (.int .i64 0)
def c7.w:c7:=.c (.int .i64 1)
def Qx:∀{n i},bL.m n i=⟨some n,.bV (.t i),none,false⟩:=rfl
def Qw:∀{n c}{b}{k},bL.g n c b k=⟨some n,k,some (c,b),false⟩:=rfl
def Qv:∀{n}{k},bL.o n k=⟨some n,k,none,false⟩:=rfl
def Qu:∀{k},bL.x k=⟨none,k,none,false⟩:=rfl
def Qt:(c7.z=.c (.int .i64 0)):=rfl
def Qs:(c7.w=.c (.int .i64 1)):=rfl
def Qk:∀{n}{k},bL.y n k=⟨some n,k,none,true⟩:=rfl
def Qm:∀{n i},bL.l n i=⟨some n,.load none (.t i),none,false⟩:=rfl
def Qr:∀{n o i},bL.a n o i=⟨some n,.aP o (.t i),none,false⟩:=rfl
def Qp:∀{n f}{l},bL.c n f l=⟨some n,.call (.f f) l,none,false⟩:=rfl
def Qq:∀{n}{k}{x y},bL.b n k x y=⟨some n,.bin k x y,none,false⟩:=rfl
def Qo:∀{n i j},bL.e n i j=⟨some n,.ext (.t i) j,none,false⟩:=rfl
def Qi:∀{w i j},bL.s w i j=⟨none,.store w (.t i) (.t j),none,false⟩:=rfl
def Qj:∀{n w i},bL.r n w i=⟨some n,.load (some w) (.t i),none,false⟩:=rfl
def Ql:∀{n i},bL.p n i=⟨some n,.box (.t i),none,false⟩:=rfl
def Qh:∀{n}{k}{i j},bL.u n k i j=⟨some n,.bin k (.t i) (.t j),none,false⟩:=rfl
def Qn:∀{n}{a b},ai.i n a b=.cond (.t n) a b:=rfl
def Ja:∀{n w i j:Nat},bL.h n w i j=⟨some n,.bp w (.t i) (.t j),none,false⟩:=rfl
def Jc:∀{n i j:Nat},bL.d n i j=⟨some n,.pick (.t i) (.t j) (.c (.bool false)),none,false⟩:=rfl
def Jb:∀{n i j:Nat},bL.f n i j=⟨some n,.pick (.t i) (.c (.bool true)) (.t j),none,false⟩:=rfl
def I9:∀{n i:Nat},bL.n n i=⟨some n,.len .sl (.t i),none,false⟩:=rfl
def I8:∀{k:Int},c7.n k=.c (.int .i64 k):=rfl
def Jd:∀{l:List bL}{b:ai},ai.s l b=.seq (.ops l) b:=rfl
def Je:∀{l:List bL},ai.r l=.seq (.ops l) .ret:=rfl
def Jf:∀{n:Nat}{l:List bL},ai.j n l=.cond (.t n) (.seq (.ops l) .ret) .skip:=rfl
def I7:∀{n i:Nat},bL.j n i=⟨some n,.load none (.t i),none,true⟩:=rfl
def I4:∀{n i:Nat},bL.w n i=⟨some n,.bV (.t i),none,true⟩:=rfl
def I6:∀{n c:Nat}{b:Bool}{i:Nat},bL.t n c b i=⟨some n,.bV (.t i),some (c,b),false⟩:=rfl
def I5:∀{n:Nat}{k:BinOp}{i:Nat}{y:c7},bL.v n k i y=⟨some n,.bin k (.t i) y,none,false⟩:=rfl
def Qf:c7.T=.c (.bool true):=rfl
def Qg:c7.F=.c (.bool false):=rfl
def uset:=A8 @Qf @Qg @I7 @I4 @I6 @I5 @Jf (GC @Ja @Jc @Jb @I9 @I8 @Jd @Je @Qk @Qm @Qr @Qp @Qq @Qo @Qi @Qj @Ql @Qh @Qn @Qx @Qw @Qv @Qu @Qt @Qs)
def aZ:=A3 uset (HA @aaP @Mn @Mo @PF @HT @HS @Cw @Ap @Aq @Ar @yk @yl @ym @yn @yo @yp @yq @I0) (NT @IZ @Jw @M1 @MZ @M3 @M0 @NN @M4 @FA @FB @Fl @CM @LW @GX @LR @LU @LS @LV @DI @DH @abu @FE)
def MD(o:Option AV)(X:Prop):Prop:=
 match o with
 |some _=>X
 |none=>False
def a8:
  (∀{P}{ro}{ks}{ts}{h}{Q}{q}{l}{n i}{x},WP P ro ({dst:=some i,k:=.mq n x,gd:=none,q:=q} ::l) ks ts h Q=MD ts[i]? (WR P ro (pe n (val ts x) h.length) q (some i) l ks ts h Q))/\
  (∀{a:AV}{X:Prop},MD (some a) X=X)/\
  (∀{k:IntKind}{z:Int}{N:Nat},pe 1 (.int k z) N=some (.ptr N 0,.push (.cells [.int k z] true false)))/\
  (∀{b:Bool}{N:Nat},pe 1 (.bool b) N=some (.ptr N 0,.push (.cells [.bool b] true false)))/\
  (∀{b:By}{N:Nat},pe 1 (.str b) N=some (.ptr N 0,.push (.cells [.str b] true false)))/\
  (∀{N:Nat},p8 .af N=some (.ptr N 0,.push (.cells [.af] true false)))/\
  (∀{v:AV}{N:Nat}(_:v.one=true),p8 v N=some (.ptr N 0,.push (.cells [v] true false)))/\
  (∀{v:AV}{N:Nat}(_:v.one=true),pe 1 v N=some (.ptr N 0,.push (.cells [v] true false)))/\
  (∀{l:List AV}{n N:Nat}(_:l.all AV.one=true) (_:l.length=n),pe n (.agg l) N=some (.ptr N 0,.push (.cells l true false))):=by
 refine⟨?_,rfl,rfl,rfl,rfl,rfl,?_,?_,?_⟩
 ·intro P ro ks ts h Q q l n i x;rw[Gq];by_cases hi:i<ts.length
  ·rw[Z6 hi];simp[MD,hi]
  ·rw[abX Om];simp[MD,hi]
 ·intro v N h;simp only[p8,AV.mJ h];rw[aai (by simp[h])]
 ·intro v N h;simp only[pe,AV.mJ h];rw[aai ⟨by simp[h],rfl⟩]
 ·intro l n N h1 h2;unfold pe;exact aai ⟨h1,h2⟩
set_option maxRecDepth 100000
set_option maxHeartbeats 0
def iN(n:Nat):Int.ofNat (no_index (OfNat.ofNat n))=OfNat.ofNat n:=rfl
def iM:Int.negSucc 0= -1:=rfl
def iB(n:Nat)(h:OfNat.ofNat n<2^8):UInt8.ofBitVec (BitVec.ofFin (Fin.mk (no_index (OfNat.ofNat n)) h))=OfNat.ofNat n:=by
 refine UInt8.toNat_inj.1 ?_;show n=n%256;have:n<2^8:=h;omega
def gA(n:Nat){A:au}(_:bT Go.Proofs.Tryz.prog n=some A:=by conv=>lhs;reduce;try simp only[iN,iM,iB]):au:=A
def fn2:au:=gA 2
def fn3:au:=gA 3
def fn4:au:=gA 4
def fn8:au:=⟨268,2,[(4,none)],(.s [.p 3 1,.o 4 (.bV .F)] (.seq (.s [.m 29 0,.c 30 33 [.t 29,.n 18],.o 31 (.un .not (.t 30)),.m 32 31,.g 33 32 false (.load (some 5) (.t 3)),.g 34 32 false (.bo 5 1 [.int .i64 0,.str [],.af,.af,.str []] [(0,.t 33)]),.g 35 32 false (.call (.f 14) [.t 34,.w]),.g 36 32 false (.un .not (.t 35)),.f 37 32 36] (.j 37 [.c 38 15 [],.m 4 38])) (.s [.m 40 0,.c 41 34 [.t 40],.m 39 41,.e 42 39 0,.e 43 39 1,.e 44 39 2,.o 5 (.box (.c (.agg [.int .i64 0,.af,.af,.af,.af,.af,.af]))),.s 7 5 42,.m 6 43,.m 7 44] (.s [.m 46 0,.c 47 18 [.t 46],.m 45 47,.e 48 45 0,.e 49 45 1,.e 50 45 2,.o 8 (.box (.c (.agg [.int .i64 0,.af,.af,.af,.af,.af,.af]))),.s 7 8 48,.m 9 49,.m 10 50] (.seq (.s [.m 51 7,.v 52 .neq 51 .z,.m 53 52,⟨(some 54),.load (some 7) (.t 5),(some (53,false)),true⟩,⟨(some 55),.call (.f 47) [.t 54],(some (53,false)),true⟩,⟨(some 56),.load (some 7) (.t 8),(some (53,false)),true⟩,.g 57 53 false (.call (.f 46) [.t 55,.t 56]),.g 58 53 false (.un .not (.t 57)),.f 59 53 58] (.j 59 [.o 4 (.bV .F)])) (.seq (.s [.m 60 0,.r 61 5 3,.c 62 48 [.t 60,.t 61],.v 63 .eql 62 .z,.m 64 63,.t 65 64 true 0,.g 66 64 true (.load (some 5) (.t 3)),.g 67 64 true (.call (.f 49) [.t 65,.t 66]),.g 68 64 true (.bin .eql (.t 67) .z),.d 69 64 68] (.i 69 (.s [.m 70 0,.r 71 5 3,.c 72 50 [.t 70,.t 71],.m 11 72] (.s [.m 74 11,.m 75 11,.n 76 75,.v 77 .add 76 .w,.o 78 (.build [.int .i64 0,.str [],.af,.af,.str []] [(0,1,.t 77),(1,1,(.c (.str [117,110,100,111])))]),.c 79 50 [.t 74,.t 78],.c 80 34 [.t 79],.m 73 80,.e 81 73 0,.e 82 73 1,.e 83 73 2,.o 12 (.box (.c (.agg [.int .i64 0,.af,.af,.af,.af,.af,.af]))),.s 7 12 81,.m 13 82,.m 14 83] (.s [.a 84 1 3,.l 85 84,.v 86 .eql 85 (.c (.str [114,101,108,101,97,115,101]))] (.i 86 (.s [.m 87 14,.v 88 .neq 87 (.n 21),.m 89 88,.t 90 89 false 13,.t 91 89 false 11,.g 92 89 false (.len .sl (.t 91)),.g 93 89 false (.bin .add (.t 92) .w),.g 94 89 false (.bin .neq (.t 90) (.t 93)),.f 95 89 94] (.j 95 [.o 4 (.bV .F)])) (.s [.a 96 1 3,.l 97 96,.v 98 .neq 97 (.c (.str [117,110,100,111])),.m 99 98,.t 100 99 true 14,.g 101 99 true (.bin .neq (.t 100) .z),.t 102 99 true 101,⟨(some 103),.load (some 7) (.t 12),(some (102,false)),true⟩,⟨(some 104),.call (.f 47) [.t 103],(some (102,false)),true⟩,⟨(some 105),.load (some 7) (.t 8),(some (102,false)),true⟩,.g 106 102 false (.call (.f 46) [.t 104,.t 105]),.g 107 102 false (.un .not (.t 106)),.g 108 99 true (.pick (.t 102) .T (.t 107)),.d 109 99 108] (.j 109 [.o 4 (.bV .F)])))))) .skip)) (.seq (.s [.a 110 1 8,.l 111 110,.n 112 111,.o 113 (.bV .z)] (.block 0 (.loop (.s [.u 114 .lss 113 112] (.seq (.i 114 .skip (.exit 0)) (.seq (.block 1 (.s [.h 115 3 111 113,.r 116 3 115,.o 16 (.box (.c (.agg [.str [],.int .i64 0,.bool false]))),.s 3 16 116] (.s [.m 118 0,.a 119 0 16,.l 120 119,.c 121 26 [.t 118,.t 120],.m 117 121,.e 122 117 0,.e 123 117 1,.m 17 122,.m 18 123] (.seq (.s [.m 124 18,.v 125 .neq 124 .z,.m 126 125,.t 127 126 false 17,.g 128 126 false (.len .sl (.t 127)),.t 129 126 false 0,.g 130 126 false (.len .sl (.t 129)),.g 131 126 false (.bin .gtr (.t 128) (.t 130)),.f 132 126 131] (.j 132 [.o 4 (.bV .F)])) (.seq (.s [.m 133 17,.n 134 133,.o 135 (.bV .z)] (.block 2 (.loop (.s [.u 136 .lss 135 134] (.seq (.i 136 .skip (.exit 2)) (.seq (.block 3 (.s [.m 137 135,.h 138 5 133 135,.r 139 5 138,.o 20 (.box (.c (.agg [.int .i64 0,.str [],.af,.af,.str []]))),.m 19 137,.s 5 20 139] (.s [.y 140 (.aP 0 (.t 20)),.j 141 140,.w 142 19,.y 143 (.bin .add (.t 142) .w),.u 144 .neq 141 143,.m 145 144,.g 146 145 false (.aP 1 (.t 20)),.g 147 145 false (.load none (.t 146)),.g 148 145 false (.bin .eql (.t 147) (.c (.str [117,110,100,111]))),.f 149 145 148,.m 150 149,⟨(some 151),.bV (.t 17),(some (150,false)),true⟩,⟨(some 152),.bV (.t 19),(some (150,false)),true⟩,⟨(some 153),.sl 5 (.t 151) none (some (.t 152)),(some (150,false)),true⟩,⟨(some 154),.load (some 5) (.t 20),(some (150,false)),true⟩,.g 155 150 false (.call (.f 48) [.t 153,.t 154]),.g 156 150 false (.bin .neq (.t 155) .z),.f 157 150 156] (.j 157 [.o 4 (.bV .F)])))) (.ops [.v 158 .add 135 .w,.m 135 158]))))))) (.s [.m 160 17,.c 161 34 [.t 160],.m 159 161,.e 162 159 0,.e 163 159 1,.e 164 159 2,.o 21 (.box (.c (.agg [.int .i64 0,.af,.af,.af,.af,.af,.af]))),.s 7 21 162,.m 22 163,.m 23 164] (.s [.m 166 17,.a 167 0 16,.l 168 167,.c 169 26 [.t 166,.t 168],.m 165 169,.e 170 165 0,.e 171 165 1,.m 24 170,.m 25 171] (.seq (.s [.m 172 23,.v 173 .neq 172 .z,.m 174 173,.t 175 174 false 25,.g 176 174 false (.bin .neq (.t 175) .z),.f 177 174 176,.m 178 177,⟨(some 179),.bV (.t 24),(some (178,false)),true⟩,⟨(some 180),.bV (.t 17),(some (178,false)),true⟩,.g 181 178 false (.call (.f 32) [.t 179,.t 180]),.g 182 178 false (.un .not (.t 181)),.f 183 178 182,.m 184 183,.g 185 184 false (.aP 1 (.t 21)),.g 186 184 false (.load none (.t 185)),.g 187 184 false (.len .sl (.t 186)),.g 188 184 false (.bin .neq (.t 187) .w),.f 189 184 188,.m 190 189,⟨(some 191),.aP 1 (.t 21),(some (190,false)),true⟩,⟨(some 192),.load none (.t 191),(some (190,false)),true⟩,⟨(some 193),.bp 3 (.t 192) .z,(some (190,false)),true⟩,⟨(some 194),.load (some 3) (.t 193),(some (190,false)),true⟩,⟨(some 195),.load (some 3) (.t 16),(some (190,false)),true⟩,.g 196 190 false (.eqv true (.agg [.s,.i,.b]) (.t 194) (.t 195)),.f 197 190 196,.m 198 197,⟨(some 199),.aP 2 (.t 21),(some (198,false)),true⟩,⟨(some 200),.load none (.t 199),(some (198,false)),true⟩,⟨(some 201),.len .sl (.t 200),(some (198,false)),true⟩,⟨(some 202),.aP 2 (.t 8),(some (198,false)),true⟩,⟨(some 203),.load none (.t 202),(some (198,false)),true⟩,⟨(some 204),.len .sl (.t 203),(some (198,false)),true⟩,.g 205 198 false (.bin .neq (.t 201) (.t 204)),.f 206 198 205] (.j 206 [.o 4 (.bV .F)])) (.s [.o 26 (.bV .z)] (.seq (.s [.a 207 3 8,.l 208 207,.n 209 208,.o 210 (.bV .z)] (.block 4 (.loop (.s [.u 211 .lss 210 209] (.seq (.i 211 .skip (.exit 4)) (.seq (.block 5 (.s [.h 212 3 208 210,.r 213 3 212,.o 28 (.box (.c (.agg [.str [],.str [],.af]))),.s 3 28 213] (.seq (.s [.a 214 1 28,.l 215 214,.a 216 0 16,.l 217 216,.u 218 .neq 215 217] (.i 218 (.exit 5) .skip)) (.seq (.s [.w 219 26,.y 220 (.aP 3 (.t 21)),.j 221 220,.y 222 (.len .sl (.t 221)),.u 223 .geq 219 222,.m 224 223,⟨(some 225),.aP 3 (.t 21),(some (224,false)),true⟩,⟨(some 226),.load none (.t 225),(some (224,false)),true⟩,⟨(some 227),.bV (.t 26),(some (224,false)),true⟩,⟨(some 228),.bp 3 (.t 226) (.t 227),(some (224,false)),true⟩,⟨(some 229),.aP 0 (.t 228),(some (224,false)),true⟩,⟨(some 230),.load none (.t 229),(some (224,false)),true⟩,⟨(some 231),.aP 0 (.t 28),(some (224,false)),true⟩,⟨(some 232),.load none (.t 231),(some (224,false)),true⟩,.g 233 224 false (.bin .neq (.t 230) (.t 232)),.f 234 224 233,.m 235 234,⟨(some 236),.aP 3 (.t 21),(some (235,false)),true⟩,⟨(some 237),.load none (.t 236),(some (235,false)),true⟩,⟨(some 238),.bV (.t 26),(some (235,false)),true⟩,⟨(some 239),.bp 3 (.t 237) (.t 238),(some (235,false)),true⟩,⟨(some 240),.aP 1 (.t 239),(some (235,false)),true⟩,⟨(some 241),.load none (.t 240),(some (235,false)),true⟩,⟨(some 242),.aP 1 (.t 28),(some (235,false)),true⟩,⟨(some 243),.load none (.t 242),(some (235,false)),true⟩,.g 244 235 false (.bin .neq (.t 241) (.t 243)),.f 245 235 244,.m 246 245,⟨(some 247),.aP 3 (.t 21),(some (246,false)),true⟩,⟨(some 248),.load none (.t 247),(some (246,false)),true⟩,⟨(some 249),.bV (.t 26),(some (246,false)),true⟩,⟨(some 250),.bp 3 (.t 248) (.t 249),(some (246,false)),true⟩,⟨(some 251),.aP 2 (.t 250),(some (246,false)),true⟩,⟨(some 252),.load none (.t 251),(some (246,false)),true⟩,⟨(some 253),.aP 2 (.t 28),(some (246,false)),true⟩,⟨(some 254),.load none (.t 253),(some (246,false)),true⟩,.g 255 246 false (.call (.f 25) [.t 252,.t 254]),.g 256 246 false (.un .not (.t 255)),.f 257 246 256] (.j 257 [.o 4 (.bV .F)])) (.ops [.m 258 26,.v 259 .add 258 .w,.m 26 259]))))) (.ops [.v 260 .add 210 .w,.m 210 260]))))))) (.s [.m 261 26,.a 262 3 21,.l 263 262,.n 264 263,.u 265 .neq 261 264] (.j 265 [.o 4 (.bV .F)])))))))))))) (.ops [.v 266 .add 113 .w,.m 113 266]))))))) (.r [.c 267 15 [],.m 4 267]))))))))⟩
def fn14:au:=gA 14
def fn15:au:=gA 15
def fn16:au:=gA 16
def fn17:au:=gA 17
def fn18:au:=gA 18
def fn19:au:=gA 19
def fn20:au:=gA 20
def fn21:au:=gA 21
def vD(x0 x1:Nat):au:=⟨22,2,[(4,none)],(.s [.p 2 0,.o 4 (.bV .z)] (.seq (.s [.o 5 (.bV .z)] (.block 0 (.loop (.seq (.s [.m 6 5,.a 7 x0 2,.l 8 7,.n 9 8,.u 10 .lss 6 9] (.i 10 .skip (.exit 0))) (.seq (.block 1 (.s [.a 13 x0 2,.l 14 13,.m 15 5,.h 16 x1 14 15,.a 17 0 16,.l 18 17,.m 19 1,.u 20 .eql 18 19] (.j 20 [.m 21 5,.m 4 21]))) (.ops [.m 11 5,.v 12 .add 11 .w,.m 5 12])))))) (.r [.o 4 (.bV (.n (-1)))])))⟩
def fn22:au:=vD 3 3
def fn23:au:=gA 23
def fn24:au:=gA 24
def fn25:au:=gA 25
def fn26:au:=gA 26
def fn27:au:=gA 27
def fn28:au:=vD 1 3
def fn31:au:=gA 31
def fn32:au:=⟨82,2,[(4,none)],(.s [.o 4 (.bV .F)] (.seq (.s [.m 6 0,.n 7 6,.m 8 1,.n 9 8,.u 10 .neq 7 9] (.j 10 [.o 4 (.bV .F)])) (.seq (.s [.o 5 (.bV .z)] (.block 0 (.loop (.seq (.s [.m 11 5,.m 12 0,.n 13 12,.u 14 .lss 11 13] (.i 14 .skip (.exit 0))) (.seq (.block 1 (.s [.w 17 0,.w 18 5,.y 19 (.bp 5 (.t 17) (.t 18)),.y 20 (.aP 0 (.t 19)),.j 21 20,.w 22 1,.w 23 5,.y 24 (.bp 5 (.t 22) (.t 23)),.y 25 (.aP 0 (.t 24)),.j 26 25,.u 27 .neq 21 26,.m 28 27,⟨(some 29),.bV (.t 0),(some (28,false)),true⟩,⟨(some 30),.bV (.t 5),(some (28,false)),true⟩,⟨(some 31),.bp 5 (.t 29) (.t 30),(some (28,false)),true⟩,⟨(some 32),.aP 1 (.t 31),(some (28,false)),true⟩,⟨(some 33),.load none (.t 32),(some (28,false)),true⟩,⟨(some 34),.bV (.t 1),(some (28,false)),true⟩,⟨(some 35),.bV (.t 5),(some (28,false)),true⟩,⟨(some 36),.bp 5 (.t 34) (.t 35),(some (28,false)),true⟩,⟨(some 37),.aP 1 (.t 36),(some (28,false)),true⟩,⟨(some 38),.load none (.t 37),(some (28,false)),true⟩,.g 39 28 false (.bin .neq (.t 33) (.t 38)),.f 40 28 39,.m 41 40,⟨(some 42),.bV (.t 0),(some (41,false)),true⟩,⟨(some 43),.bV (.t 5),(some (41,false)),true⟩,⟨(some 44),.bp 5 (.t 42) (.t 43),(some (41,false)),true⟩,⟨(some 45),.aP 2 (.t 44),(some (41,false)),true⟩,⟨(some 46),.load none (.t 45),(some (41,false)),true⟩,⟨(some 47),.bV (.t 1),(some (41,false)),true⟩,⟨(some 48),.bV (.t 5),(some (41,false)),true⟩,⟨(some 49),.bp 5 (.t 47) (.t 48),(some (41,false)),true⟩,⟨(some 50),.aP 2 (.t 49),(some (41,false)),true⟩,⟨(some 51),.load none (.t 50),(some (41,false)),true⟩,.g 52 41 false (.call (.f 25) [.t 46,.t 51]),.g 53 41 false (.un .not (.t 52)),.f 54 41 53,.m 55 54,⟨(some 56),.bV (.t 0),(some (55,false)),true⟩,⟨(some 57),.bV (.t 5),(some (55,false)),true⟩,⟨(some 58),.bp 5 (.t 56) (.t 57),(some (55,false)),true⟩,⟨(some 59),.aP 3 (.t 58),(some (55,false)),true⟩,⟨(some 60),.load none (.t 59),(some (55,false)),true⟩,⟨(some 61),.bV (.t 1),(some (55,false)),true⟩,⟨(some 62),.bV (.t 5),(some (55,false)),true⟩,⟨(some 63),.bp 5 (.t 61) (.t 62),(some (55,false)),true⟩,⟨(some 64),.aP 3 (.t 63),(some (55,false)),true⟩,⟨(some 65),.load none (.t 64),(some (55,false)),true⟩,.g 66 55 false (.call (.f 62) [.t 60,.t 65]),.g 67 55 false (.un .not (.t 66)),.f 68 55 67,.m 69 68,⟨(some 70),.bV (.t 0),(some (69,false)),true⟩,⟨(some 71),.bV (.t 5),(some (69,false)),true⟩,⟨(some 72),.bp 5 (.t 70) (.t 71),(some (69,false)),true⟩,⟨(some 73),.aP 4 (.t 72),(some (69,false)),true⟩,⟨(some 74),.load none (.t 73),(some (69,false)),true⟩,⟨(some 75),.bV (.t 1),(some (69,false)),true⟩,⟨(some 76),.bV (.t 5),(some (69,false)),true⟩,⟨(some 77),.bp 5 (.t 75) (.t 76),(some (69,false)),true⟩,⟨(some 78),.aP 4 (.t 77),(some (69,false)),true⟩,⟨(some 79),.load none (.t 78),(some (69,false)),true⟩,.g 80 69 false (.bin .neq (.t 74) (.t 79)),.f 81 69 80] (.j 81 [.o 4 (.bV .F)]))) (.ops [.m 15 5,.v 16 .add 15 .w,.m 5 16])))))) (.r [.o 4 (.bV .T)]))))⟩
def fn33:au:=gA 33
def fn34:au:=gA 34
def fn35:au:=gA 35
def fn37:au:=gA 37
def fn39:au:=gA 39
def fn43:au:=⟨97,2,[(4,none),(5,none)],(.s [.o 4 (.bV (.c (.str []))),.o 5 (.bV .z)] (.seq (.s [.m 16 0,.o 17 (.eqv false .ET (.t 16) (.c .nilPtr))] (.j 17 [.o 4 (.bV (.c (.str []))),.o 5 (.bV (.n 22))])) (.seq (.s [.m 18 1,.o 19 (.len .st (.t 18)),.v 20 .gtr 19 (.n 4096),.c 21 85 [.t 20,.n 26],.m 22 1,.v 23 .eql 22 (.c (.str [])),.c 24 85 [.t 23,.n 25],.o 25 (.bo 1 2 [.int .i64 0] [(0,.t 21),(1,.t 24)]),.c 26 74 [.t 25],.m 6 26] (.s [.m 27 6,.v 28 .neq 27 .z] (.j 28 [.m 29 6,.o 4 (.bV (.c (.str []))),.m 5 29]))) (.s [.m 30 1,.o 31 (.call (.f 64) [.t 30,(.c (.str [32]))]),.m 7 31] (.seq (.s [.y 33 (.call (.f 109) []),.w 34 7,.y 35 (.bp 1 (.t 34) .z),.j 36 35,.y 37 (.look .s (.agg [.bool false,.int .i64 0,.nilFunc]) true (.t 33) (.t 36)),.w 32 37,.y 38 (.ext (.t 32) 0),.y 39 (.ext (.t 32) 1),⟨none,.bV .F,none,true⟩,.y 8 (.mq 3 (.t 38)),.m 9 39] (.s [.m 40 9] (.j 40 [.m 41 0,.m 42 7,.c 43 110 [.t 41,.t 42],.e 44 43 0,.e 45 43 1,.m 4 44,.m 5 45]))) (.seq (.s [.y 47 (.call (.f 90) []),.w 48 7,.y 49 (.bp 1 (.t 48) .z),.j 50 49,.y 51 (.look .s (.agg [.af,.int .i64 0,.nilFunc,.nilFunc,.nilFunc]) true (.t 47) (.t 50)),.w 46 51,.y 52 (.ext (.t 46) 0),.y 53 (.ext (.t 46) 1),⟨none,.bV .F,none,true⟩,.y 10 (.mq 5 (.t 52)),.m 11 53] (.s [.m 54 11,.o 55 (.un .not (.t 54))] (.j 55 [.o 4 (.bV (.c (.str []))),.o 5 (.bV (.n 13))]))) (.s [.m 57 7,.c 58 111 [.t 57],.m 56 58,.e 59 56 0,.e 60 56 1,.o 12 (.box (.c (.agg [.int .i64 0,.str [],.af,.af,.str []]))),.s 5 12 59,.m 13 60] (.seq (.s [.w 61 13,.y 62 (.un .not (.t 61)),.y 63 (.call (.f 85) [.t 62,.n 25]),.w 64 0,.y 65 (.bS (.t 64)),.y 66 (.aP 0 (.t 65)),.y 67 (.aP 0 (.t 66)),.j 68 67,.y 69 (.len .sl (.t 68)),.y 70 (.bin .geq (.t 69) (.n 1000)),.c 71 85 [.t 70,.n 5],.o 72 (.bo 1 2 [.int .i64 0] [(0,.t 63),(1,.t 71)]),.c 73 74 [.t 72],.m 14 73] (.s [.m 74 14,.v 75 .neq 74 .z] (.j 75 [.m 76 14,.o 4 (.bV (.c (.str []))),.m 5 76]))) (.s [.m 77 0,.o 78 (.bS (.t 77)),.a 79 0 78,.a 80 0 79,.l 81 80,.n 82 81,.v 83 .add 82 .w,.a 84 0 12,.s 1 84 83] (.seq (.s [.w 85 0,.y 86 (.bS (.t 85)),.y 87 (.aP 0 (.t 86)),.y 88 (.load (some 5) (.t 12)),.c 89 112 [.t 87,.t 88],.m 15 89] (.s [.m 90 15,.v 91 .neq 90 .z] (.j 91 [.m 92 15,.o 4 (.bV (.c (.str []))),.m 5 92]))) (.r [.a 93 0 12,.l 94 93,.c 95 113 [.t 94],.b 96 .add (.c (.str [100,111,110,101,32])) (.t 95),.m 4 96,.o 5 (.bV .z)])))))))))))⟩
def fn44:au:=gA 44
def fn45:au:=gA 45
def fn46:au:=⟨248,2,[(4,none)],(.s [.p 2 0,.p 3 1,.o 4 (.bV .F)] (.seq (.s [.a 17 0 2,.l 18 17,.a 19 0 3,.l 20 19,.u 21 .neq 18 20,.m 22 21,.g 23 22 false (.aP 1 (.t 2)),.g 24 22 false (.load none (.t 23)),.g 25 22 false (.len .sl (.t 24)),.g 26 22 false (.aP 1 (.t 3)),.g 27 22 false (.load none (.t 26)),.g 28 22 false (.len .sl (.t 27)),.g 29 22 false (.bin .neq (.t 25) (.t 28)),.f 30 22 29,.m 31 30,.g 32 31 false (.aP 2 (.t 2)),.g 33 31 false (.load none (.t 32)),.g 34 31 false (.len .sl (.t 33)),.g 35 31 false (.aP 2 (.t 3)),.g 36 31 false (.load none (.t 35)),.g 37 31 false (.len .sl (.t 36)),.g 38 31 false (.bin .neq (.t 34) (.t 37)),.f 39 31 38,.m 40 39,.g 41 40 false (.aP 3 (.t 2)),.g 42 40 false (.load none (.t 41)),.g 43 40 false (.len .sl (.t 42)),.g 44 40 false (.aP 3 (.t 3)),.g 45 40 false (.load none (.t 44)),.g 46 40 false (.len .sl (.t 45)),.g 47 40 false (.bin .neq (.t 43) (.t 46)),.f 48 40 47,.m 49 48,.g 50 49 false (.aP 4 (.t 2)),.g 51 49 false (.load none (.t 50)),.g 52 49 false (.len .sl (.t 51)),.g 53 49 false (.aP 4 (.t 3)),.g 54 49 false (.load none (.t 53)),.g 55 49 false (.len .sl (.t 54)),.g 56 49 false (.bin .neq (.t 52) (.t 55)),.f 57 49 56,.m 58 57,.g 59 58 false (.aP 5 (.t 2)),.g 60 58 false (.load none (.t 59)),.g 61 58 false (.len .sl (.t 60)),.g 62 58 false (.aP 5 (.t 3)),.g 63 58 false (.load none (.t 62)),.g 64 58 false (.len .sl (.t 63)),.g 65 58 false (.bin .neq (.t 61) (.t 64)),.f 66 58 65,.m 67 66,.g 68 67 false (.aP 6 (.t 2)),.g 69 67 false (.load none (.t 68)),.g 70 67 false (.len .sl (.t 69)),.g 71 67 false (.aP 6 (.t 3)),.g 72 67 false (.load none (.t 71)),.g 73 67 false (.len .sl (.t 72)),.g 74 67 false (.bin .neq (.t 70) (.t 73)),.f 75 67 74] (.j 75 [.o 4 (.bV .F)])) (.seq (.s [.o 5 (.bV .z)] (.block 0 (.loop (.seq (.s [.m 76 5,.a 77 1 2,.l 78 77,.n 79 78,.u 80 .lss 76 79] (.i 80 .skip (.exit 0))) (.seq (.block 1 (.s [.y 83 (.aP 1 (.t 2)),.j 84 83,.w 85 5,.y 86 (.bp 3 (.t 84) (.t 85)),.y 87 (.load (some 3) (.t 86)),.y 88 (.aP 1 (.t 3)),.j 89 88,.w 90 5,.y 91 (.bp 3 (.t 89) (.t 90)),.y 92 (.load (some 3) (.t 91)),.o 93 (.eqv true (.agg [.s,.i,.b]) (.t 87) (.t 92))] (.j 93 [.o 4 (.bV .F)]))) (.ops [.m 81 5,.v 82 .add 81 .w,.m 5 82])))))) (.seq (.s [.o 6 (.bV .z)] (.block 2 (.loop (.seq (.s [.m 94 6,.a 95 2 2,.l 96 95,.n 97 96,.u 98 .lss 94 97] (.i 98 .skip (.exit 2))) (.seq (.block 3 (.s [.y 101 (.aP 2 (.t 2)),.j 102 101,.w 103 6,.y 104 (.bp 2 (.t 102) (.t 103)),.y 105 (.load (some 2) (.t 104)),.y 106 (.aP 2 (.t 3)),.j 107 106,.w 108 6,.y 109 (.bp 2 (.t 107) (.t 108)),.y 110 (.load (some 2) (.t 109)),.o 111 (.eqv true (.agg [.s,.i]) (.t 105) (.t 110))] (.j 111 [.o 4 (.bV .F)]))) (.ops [.m 99 6,.v 100 .add 99 .w,.m 6 100])))))) (.seq (.s [.o 7 (.bV .z)] (.block 4 (.loop (.seq (.s [.m 112 7,.a 113 3 2,.l 114 113,.n 115 114,.u 116 .lss 112 115] (.i 116 .skip (.exit 4))) (.seq (.block 5 (.s [.y 119 (.aP 3 (.t 2)),.j 120 119,.w 121 7,.y 122 (.bp 3 (.t 120) (.t 121)),.y 123 (.load (some 3) (.t 122)),.y 124 (.aP 3 (.t 3)),.j 125 124,.w 126 7,.y 127 (.bp 3 (.t 125) (.t 126)),.y 128 (.load (some 3) (.t 127)),⟨none,.bV .F,none,true⟩,.y 9 (.box (.c (.agg [.str [],.str [],.af]))),.y 8 (.mq 3 (.t 123)),.s 3 9 128] (.s [.a 129 0 8,.l 130 129,.a 131 0 9,.l 132 131,.u 133 .neq 130 132,.m 134 133,.g 135 134 false (.aP 1 (.t 8)),.g 136 134 false (.load none (.t 135)),.g 137 134 false (.aP 1 (.t 9)),.g 138 134 false (.load none (.t 137)),.g 139 134 false (.bin .neq (.t 136) (.t 138)),.f 140 134 139,.m 141 140,.g 142 141 false (.aP 2 (.t 8)),.g 143 141 false (.load none (.t 142)),.g 144 141 false (.aP 2 (.t 9)),.g 145 141 false (.load none (.t 144)),.g 146 141 false (.call (.f 25) [.t 143,.t 145]),.g 147 141 false (.un .not (.t 146)),.f 148 141 147] (.j 148 [.o 4 (.bV .F)])))) (.ops [.m 117 7,.v 118 .add 117 .w,.m 7 118])))))) (.seq (.s [.o 10 (.bV .z)] (.block 6 (.loop (.seq (.s [.m 149 10,.a 150 4 2,.l 151 150,.n 152 151,.u 153 .lss 149 152] (.i 153 .skip (.exit 6))) (.seq (.block 7 (.s [.y 156 (.aP 4 (.t 2)),.j 157 156,.w 158 10,.y 159 (.bp 4 (.t 157) (.t 158)),.y 160 (.load (some 4) (.t 159)),.y 161 (.aP 4 (.t 3)),.j 162 161,.w 163 10,.y 164 (.bp 4 (.t 162) (.t 163)),.y 165 (.load (some 4) (.t 164)),⟨none,.bV .F,none,true⟩,.y 12 (.box (.c (.agg [.str [],.str [],.str [],.af]))),.y 11 (.mq 4 (.t 160)),.s 4 12 165] (.s [.a 166 0 11,.l 167 166,.a 168 0 12,.l 169 168,.u 170 .neq 167 169,.m 171 170,.g 172 171 false (.aP 1 (.t 11)),.g 173 171 false (.load none (.t 172)),.g 174 171 false (.aP 1 (.t 12)),.g 175 171 false (.load none (.t 174)),.g 176 171 false (.bin .neq (.t 173) (.t 175)),.f 177 171 176,.m 178 177,.g 179 178 false (.aP 2 (.t 11)),.g 180 178 false (.load none (.t 179)),.g 181 178 false (.aP 2 (.t 12)),.g 182 178 false (.load none (.t 181)),.g 183 178 false (.bin .neq (.t 180) (.t 182)),.f 184 178 183,.m 185 184,.g 186 185 false (.aP 3 (.t 11)),.g 187 185 false (.load none (.t 186)),.g 188 185 false (.aP 3 (.t 12)),.g 189 185 false (.load none (.t 188)),.g 190 185 false (.call (.f 25) [.t 187,.t 189]),.g 191 185 false (.un .not (.t 190)),.f 192 185 191] (.j 192 [.o 4 (.bV .F)])))) (.ops [.m 154 10,.v 155 .add 154 .w,.m 10 155])))))) (.seq (.s [.o 13 (.bV .z)] (.block 8 (.loop (.seq (.s [.m 193 13,.a 194 5 2,.l 195 194,.n 196 195,.u 197 .lss 193 196] (.i 197 .skip (.exit 8))) (.seq (.block 9 (.s [.y 200 (.aP 5 (.t 2)),.j 201 200,.w 202 13,.y 203 (.bp 3 (.t 201) (.t 202)),.y 204 (.load (some 3) (.t 203)),.y 205 (.aP 5 (.t 3)),.j 206 205,.w 207 13,.y 208 (.bp 3 (.t 206) (.t 207)),.y 209 (.load (some 3) (.t 208)),⟨none,.bV .F,none,true⟩,.y 15 (.box (.c (.agg [.str [],.str [],.af]))),.y 14 (.mq 3 (.t 204)),.s 3 15 209] (.s [.a 210 0 14,.l 211 210,.a 212 0 15,.l 213 212,.u 214 .neq 211 213,.m 215 214,.g 216 215 false (.aP 1 (.t 14)),.g 217 215 false (.load none (.t 216)),.g 218 215 false (.aP 1 (.t 15)),.g 219 215 false (.load none (.t 218)),.g 220 215 false (.bin .neq (.t 217) (.t 219)),.f 221 215 220,.m 222 221,.g 223 222 false (.aP 2 (.t 14)),.g 224 222 false (.load none (.t 223)),.g 225 222 false (.aP 2 (.t 15)),.g 226 222 false (.load none (.t 225)),.g 227 222 false (.call (.f 62) [.t 224,.t 226]),.g 228 222 false (.un .not (.t 227)),.f 229 222 228] (.j 229 [.o 4 (.bV .F)])))) (.ops [.m 198 13,.v 199 .add 198 .w,.m 13 199])))))) (.seq (.s [.o 16 (.bV .z)] (.block 10 (.loop (.seq (.s [.m 230 16,.a 231 6 2,.l 232 231,.n 233 232,.u 234 .lss 230 233] (.i 234 .skip (.exit 10))) (.seq (.block 11 (.s [.y 237 (.aP 6 (.t 2)),.j 238 237,.w 239 16,.y 240 (.bp 4 (.t 238) (.t 239)),.y 241 (.load (some 4) (.t 240)),.y 242 (.aP 6 (.t 3)),.j 243 242,.w 244 16,.y 245 (.bp 4 (.t 243) (.t 244)),.y 246 (.load (some 4) (.t 245)),.o 247 (.eqv true (.agg [.s,.s,.i,.b]) (.t 241) (.t 246))] (.j 247 [.o 4 (.bV .F)]))) (.ops [.m 235 16,.v 236 .add 235 .w,.m 16 236])))))) (.r [.o 4 (.bV .T)])))))))))⟩
def fn47:au:=gA 47
def fn48:au:=gA 48
def fn49:au:=gA 49
def fn50:au:=gA 50
def fn51:au:=gA 51
def fn55:au:=vD 4 4
def fn56:au:=vD 5 3
def fn57:au:=vD 6 4
def fn58:au:=gA 58
def fn59:au:=gA 59
def fn60:au:=gA 60
def fn62:au:=gA 62
def fn64:au:=gA 64
def fn67:au:=gA 67
def fn70:au:=gA 70
def fn71:au:=gA 71
def fn72:au:=gA 72
def fn73:au:=gA 73
def fn74:au:=gA 74
def fn75:au:=gA 75
def fn76:au:=gA 76
def fn77:au:=gA 77
def fn78:au:=gA 78
def fn79:au:=gA 79
def fn80:au:=gA 80
def fn81:au:=⟨110,1,[(2,none),(3,some (some 7)),(4,none),(5,none)],(.s [.o 2 (.bV (.c .af)),.o 3 (.box (.c (.agg [.int .i64 0,.af,.af,.af,.af,.af,.af]))),.o 4 (.bV .z),.o 5 (.bV .z)] (.seq (.s [.m 12 0,.n 13 12,.v 14 .gtr 13 (.n 1000)] (.j 14 [.o 15 (.build [.int .i64 0,.af,.af,.af,.af,.af,.af] []),.o 2 (.bV (.c .af)),.s 7 3 15,.o 4 (.bV .z),.o 5 (.bV (.n 5))])) (.s [.o 6 (.bV (.c .af))] (.s [.o 16 (.build [.int .i64 0,.af,.af,.af,.af,.af,.af] []),.o 17 (.bo 7 1 [.int .i64 0,.af,.af,.af,.af,.af,.af] [(0,.t 16)]),.m 7 17] (.seq (.s [.o 8 (.bV .z)] (.block 0 (.loop (.seq (.s [.m 18 8,.m 19 0,.n 20 19,.u 21 .lss 18 20] (.i 21 .skip (.exit 0))) (.seq (.block 1 (.s [.m 24 0,.m 25 8,.h 26 5 24 25,.r 27 5 26,.c 28 39 [.t 27],.m 29 6,.n 30 29,.m 9 28,.m 10 30] (.seq (.s [.m 31 9,.v 32 .eql 31 .z,.m 33 32,.t 34 33 true 0,.t 35 33 true 8,.g 36 33 true (.bp 5 (.t 34) (.t 35)),.g 37 33 true (.aP 0 (.t 36)),.g 38 33 true (.load none (.t 37)),.t 39 33 true 8,.g 40 33 true (.bin .add (.t 39) .w),.g 41 33 true (.bin .neq (.t 38) (.t 40)),.d 42 33 41] (.i 42 (.ops [.o 9 (.bV (.n 11))]) .skip)) (.seq (.s [.m 43 9,.v 44 .eql 43 .z,.m 45 44,.t 46 45 true 0,.t 47 45 true 8,.g 48 45 true (.bp 5 (.t 46) (.t 47)),.g 49 45 true (.aP 1 (.t 48)),.g 50 45 true (.load none (.t 49)),.g 51 45 true (.bin .eql (.t 50) (.c (.str [117,110,100,111]))),.d 52 45 51] (.i 52 (.s [.m 53 10,.v 54 .eql 53 .z] (.i 54 (.ops [.o 9 (.bV (.n 12))]) (.s [.m 55 6,.m 56 10,.v 57 .sub 56 .w,.h 58 5 55 57,.a 59 1 58,.l 60 59,.v 61 .eql 60 (.c (.str [114,101,108,101,97,115,101]))] (.i 61 (.ops [.o 9 (.bV (.n 21))]) (.s [.w 62 6,.w 63 10,.y 64 (.bin .sub (.t 63) .w),.y 65 (.sl 5 (.t 62) none (some (.t 64))),.w 66 7,.w 67 10,.y 68 (.sl 7 (.t 66) none (some (.t 67))),.w 6 65,.m 7 68] (.exit 1)))))) .skip)) (.s [.o 11 (.box (.c (.agg [.int .i64 0,.af,.af,.af,.af,.af,.af])))] (.seq (.s [.m 69 9,.v 70 .eql 69 .z] (.i 70 (.ops [.m 72 7,.m 73 10,.h 74 7 72 73,.r 75 7 74,.m 76 0,.m 77 8,.h 78 5 76 77,.r 79 5 78,.c 80 129 [.t 75,.t 79],.m 71 80,.e 81 71 0,.e 82 71 1,.s 7 11 81,.m 9 82]) .skip)) (.seq (.s [.m 83 9,.v 84 .neq 83 .z] (.j 84 [.o 85 (.build [.int .i64 0,.af,.af,.af,.af,.af,.af] []),.m 86 8,.v 87 .add 86 .w,.m 88 9,.o 2 (.bV (.c .af)),.s 7 3 85,.m 4 87,.m 5 88])) (.s [.y 89 (.bo 5 0 [.int .i64 0,.str [],.af,.af,.str []] []),.w 90 6,.y 91 (.app 5 88 (.t 89) (.t 90)),.w 92 0,.w 93 8,.y 94 (.bp 5 (.t 92) (.t 93)),.y 95 (.load (some 5) (.t 94)),.y 96 (.bo 5 1 [.int .i64 0,.str [],.af,.af,.str []] [(0,.t 95)]),.o 97 (.app 5 88 (.t 91) (.t 96)),.m 6 97] (.ops [.y 98 (.bo 7 0 [.int .i64 0,.af,.af,.af,.af,.af,.af] []),.w 99 7,.y 100 (.app 7 152 (.t 98) (.t 99)),.y 101 (.load (some 7) (.t 11)),.y 102 (.bo 7 1 [.int .i64 0,.af,.af,.af,.af,.af,.af] [(0,.t 101)]),.o 103 (.app 7 152 (.t 100) (.t 102)),.m 7 103]))))))))) (.ops [.m 22 8,.v 23 .add 22 .w,.m 8 23])))))) (.r [.w 104 6,.w 105 7,.w 106 6,.y 107 (.len .sl (.t 106)),.y 108 (.bp 7 (.t 105) (.t 107)),.y 109 (.load (some 7) (.t 108)),.w 2 104,.s 7 3 109,.o 4 (.bV .z),.o 5 (.bV .z)]))))))⟩
def fn82:au:=gA 82
def fn83:au:=gA 83
def fn84:au:=⟨17,3,[(6,none)],(.s [.p 3 0,.o 6 (.bV .F)] (.r [.w 7 2,.y 8 (.aP 2 (.t 3)),.j 9 8,.y 10 (.load (some 7) (.t 3)),.w 11 1,.y 12 (.call (.f 141) [.t 10,.t 11]),.y 13 (.bp 2 (.t 9) (.t 12)),.y 14 (.aP 1 (.t 13)),.j 15 14,.u 16 .leq 7 15,.m 6 16]))⟩
def fn85:au:=gA 85
def fn86:au:=⟨47,3,[(6,none)],(.s [.p 3 0,.o 6 (.bV .F)] (.s [.o 7 (.bV .z)] (.seq (.s [.m 8 1] (.block 0 (.s [.v 10 .eql 8 .z,.m 9 10] (.i 9 (.ops [.a 11 1 3,.l 12 11,.m 13 2,.c 14 142 [.t 12,.t 13],.m 7 14]) (.s [.v 16 .eql 8 .w,.m 15 16] (.i 15 (.ops [.a 17 2 3,.l 18 17,.m 19 2,.c 20 143 [.t 18,.t 19],.m 7 20]) (.s [.v 22 .eql 8 (.n 2),.m 21 22] (.i 21 (.ops [.a 23 3 3,.l 24 23,.m 25 2,.c 26 136 [.t 24,.t 25],.m 7 26]) (.s [.v 28 .eql 8 (.n 3),.m 27 28] (.i 27 (.ops [.a 29 4 3,.l 30 29,.m 31 2,.c 32 144 [.t 30,.t 31],.m 7 32]) (.s [.v 34 .eql 8 (.n 4),.m 33 34] (.i 33 (.ops [.a 35 5 3,.l 36 35,.m 37 2,.c 38 145 [.t 36,.t 37],.m 7 38]) (.s [.v 40 .eql 8 (.n 5),.m 39 40] (.i 39 (.ops [.a 41 6 3,.l 42 41,.m 43 2,.c 44 146 [.t 42,.t 43],.m 7 44]) .skip)))))))))))))) (.r [.m 45 7,.v 46 .geq 45 .z,.m 6 46]))))⟩
def fn87:au:=⟨22,2,[(4,none)],(.s [.o 4 (.bV (.c .af))] (.s [.o 5 (.bV (.c .af))] (.seq (.s [.m 8 0,.n 9 8,.o 10 (.bV .z)] (.block 0 (.loop (.s [.u 11 .lss 10 9] (.seq (.i 11 .skip (.exit 0)) (.seq (.block 1 (.s [.h 12 5 8 10,.r 13 5 12,.o 7 (.box (.c (.agg [.int .i64 0,.str [],.af,.af,.str []]))),.s 5 7 13] (.ops [.m 14 5,.m 15 1,.r 16 5 7,.o 17 (.call (.t 15) [.t 16]),.o 18 (.bo 5 1 [.int .i64 0,.str [],.af,.af,.str []] [(0,.t 17)]),.o 19 (.app 5 88 (.t 14) (.t 18)),.m 5 19]))) (.ops [.v 20 .add 10 .w,.m 10 20]))))))) (.r [.m 21 5,.m 4 21]))))⟩
def fn88:au:=gA 88
def fn89:au:=gA 89
def fn90:au:=⟨56,0,[(0,none)],(.s [.o 0 (.bV (.c .dz))] (.r [.o 1 (.oP),.o 2 (.build [.af,.int .i64 0,.nilFunc,.nilFunc,.nilFunc] []),.x (.gh .s (.t 1) (.c (.str [117,110,100,111])) (.t 2)),.c 3 147 [.z],.o 4 (.bo 2 1 [.int .i64 0,.bool false] [(0,.t 3)]),.c 5 150 [.z],.o 6 (.build [.af,.int .i64 0,.nilFunc,.nilFunc,.nilFunc] [(0,1,.t 4),(1,1,(.n 2)),(2,1,(.f 148)),(3,1,(.f 149)),(4,1,.t 5)]),.x (.gh .s (.t 1) (.c (.str [108,105,110,101])) (.t 6)),.c 7 147 [.w],.o 8 (.bo 2 1 [.int .i64 0,.bool false] [(0,.t 7)]),.o 9 (.build [.af,.int .i64 0,.nilFunc,.nilFunc,.nilFunc] [(0,1,.t 8),(1,1,(.n 2)),(2,1,(.f 151)),(3,1,(.f 152)),(4,1,(.f 153))]),.x (.gh .s (.t 1) (.c (.str [116,97,112,101])) (.t 9)),.c 10 147 [.n 2],.c 11 154 [.z],.c 12 154 [.w],.o 13 (.bo 2 3 [.int .i64 0,.bool false] [(0,.t 10),(2,.t 11),(4,.t 12)]),.c 14 150 [.w],.o 15 (.build [.af,.int .i64 0,.nilFunc,.nilFunc,.nilFunc] [(0,1,.t 13),(1,1,.w),(2,1,(.f 155)),(3,1,(.f 156)),(4,1,.t 14)]),.x (.gh .s (.t 1) (.c (.str [115,104,111,116])) (.t 15)),.c 16 154 [.w],.c 17 154 [.w],.o 18 (.bo 2 2 [.int .i64 0,.bool false] [(0,.t 16),(2,.t 17)]),.o 19 (.build [.af,.int .i64 0,.nilFunc,.nilFunc,.nilFunc] [(0,1,.t 18),(1,1,.w),(2,1,(.f 157)),(3,1,(.f 158)),(4,1,(.f 153))]),.x (.gh .s (.t 1) (.c (.str [99,111,112,121])) (.t 19)),.c 20 154 [.z],.o 21 (.bo 2 1 [.int .i64 0,.bool false] [(0,.t 20)]),.c 22 150 [.z],.o 23 (.build [.af,.int .i64 0,.nilFunc,.nilFunc,.nilFunc] [(0,1,.t 21),(1,1,.w),(2,1,(.f 159)),(3,1,(.f 160)),(4,1,.t 22)]),.x (.gh .s (.t 1) (.c (.str [97,99,99,101,112,116])) (.t 23)),.c 24 147 [.n 3],.c 25 154 [.z],.o 26 (.bo 2 2 [.int .i64 0,.bool false] [(0,.t 24),(2,.t 25)]),.c 27 150 [.w],.o 28 (.build [.af,.int .i64 0,.nilFunc,.nilFunc,.nilFunc] [(0,1,.t 26),(1,1,.w),(2,1,(.f 161)),(3,1,(.f 162)),(4,1,.t 27)]),.x (.gh .s (.t 1) (.c (.str [115,111,117,114,99,101])) (.t 28)),.c 29 147 [.n 3],.c 30 154 [.n 3],.o 31 (.bo 2 2 [.int .i64 0,.bool false] [(0,.t 29),(2,.t 30)]),.o 32 (.build [.af,.int .i64 0,.nilFunc,.nilFunc,.nilFunc] [(0,1,.t 31),(1,1,(.n 2)),(2,1,(.f 163)),(3,1,(.f 164)),(4,1,(.c .nilFunc))]),.x (.gh .s (.t 1) (.c (.str [109,111,100,117,108,101])) (.t 32)),.c 33 147 [.n 3],.c 34 154 [.n 3],.c 35 154 [.n 3],.o 36 (.bo 2 3 [.int .i64 0,.bool false] [(0,.t 33),(2,.t 34),(4,.t 35)]),.o 37 (.build [.af,.int .i64 0,.nilFunc,.nilFunc,.nilFunc] [(0,1,.t 36),(1,1,.w),(2,1,(.f 165)),(3,1,(.f 166)),(4,1,(.c .nilFunc))]),.x (.gh .s (.t 1) (.c (.str [109,101,114,103,101])) (.t 37)),.c 38 147 [.n 4],.c 39 154 [.n 3],.o 40 (.bo 2 2 [.int .i64 0,.bool false] [(0,.t 38),(2,.t 39)]),.o 41 (.build [.af,.int .i64 0,.nilFunc,.nilFunc,.nilFunc] [(0,1,.t 40),(1,1,(.n 2)),(2,1,(.f 167)),(3,1,(.f 168)),(4,1,(.c .nilFunc))]),.x (.gh .s (.t 1) (.c (.str [114,117,110])) (.t 41)),.c 42 154 [.n 4],.o 43 (.bo 2 1 [.int .i64 0,.bool false] [(0,.t 42)]),.o 44 (.build [.af,.int .i64 0,.nilFunc,.nilFunc,.nilFunc] [(0,1,.t 43),(1,1,(.n 3)),(2,1,(.f 169)),(3,1,(.f 170)),(4,1,(.c .nilFunc))]),.x (.gh .s (.t 1) (.c (.str [116,105,108,101])) (.t 44)),.c 45 154 [.n 4],.o 46 (.bo 2 1 [.int .i64 0,.bool false] [(0,.t 45)]),.o 47 (.build [.af,.int .i64 0,.nilFunc,.nilFunc,.nilFunc] [(0,1,.t 46),(1,1,(.n 2)),(2,1,(.f 171)),(3,1,(.f 172)),(4,1,(.c .nilFunc))]),.x (.gh .s (.t 1) (.c (.str [102,97,105,108])) (.t 47)),.c 48 147 [.n 5],.c 49 154 [.n 4],.o 50 (.bo 2 2 [.int .i64 0,.bool false] [(0,.t 48),(2,.t 49)]),.o 51 (.build [.af,.int .i64 0,.nilFunc,.nilFunc,.nilFunc] [(0,1,.t 50),(1,1,.w),(2,1,(.f 173)),(3,1,(.f 174)),(4,1,(.c .nilFunc))]),.x (.gh .s (.t 1) (.c (.str [112,105,99,116,117,114,101])) (.t 51)),.c 52 154 [.n 5],.o 53 (.bo 2 1 [.int .i64 0,.bool false] [(0,.t 52)]),.o 54 (.build [.af,.int .i64 0,.nilFunc,.nilFunc,.nilFunc] [(0,1,.t 53),(1,1,.w),(2,1,(.f 175)),(3,1,(.f 176)),(4,1,(.c .nilFunc))]),.x (.gh .s (.t 1) (.c (.str [114,101,108,101,97,115,101])) (.t 54)),.m 55 1,.m 0 55]))⟩
def fn91:au:=⟨12,1,[(2,some (some 5))],(.s [.p 1 0,.o 2 (.box (.c (.agg [.int .i64 0,.str [],.af,.af,.str []])))] (.s [.y 3 (.aP 2 (.t 1)),.j 4 3,.y 5 (.call (.f 177) [.t 4]),.y 6 (.aP 3 (.t 1)),.j 7 6,.y 8 (.call (.f 178) [.t 7]),.y 9 (.aP 2 (.t 1)),.s 1 9 5,.a 10 3 1,.s 1 10 8] (.r [.r 11 5 1,.s 5 2 11])))⟩
def Lk:au:=⟨22,2,[(4,none)],(.s [.o 4 (.bV (.c .af))] (.s [.o 5 (.bV (.c .af))] (.seq (.s [.m 8 0,.n 9 8,.o 10 (.bV .z)] (.block 0 (.loop (.s [.u 11 .lss 10 9] (.seq (.i 11 .skip (.exit 0)) (.seq (.block 1 (.s [.h 12 1 8 10,.l 13 12,.m 7 13] (.ops [.m 14 5,.m 15 1,.m 16 7,.o 17 (.call (.t 15) [.t 16]),.o 18 (.bo 1 1 [.int .i64 0] [(0,.t 17)]),.o 19 (.app 1 8 (.t 14) (.t 18)),.m 5 19]))) (.ops [.v 20 .add 10 .w,.m 10 20]))))))) (.r [.m 21 5,.m 4 21]))))⟩
def fn92:au:=Lk
def Ll:au:=⟨5,1,[(2,none)],(.s [.o 2 (.bV .z)] (.r [.m 3 0,.c 4 94 [.t 3,.z,.n 999999999],.m 2 4]))⟩
def fn93:au:=Ll
def fn94:au:=gA 94
def fn95:au:=gA 95
def fn96:au:=⟨38,1,[(2,some (some 7))],(.s [.p 1 0,.o 2 (.box (.c (.agg [.int .i64 0,.af,.af,.af,.af,.af,.af])))] (.s [.y 5 (.aP 1 (.t 1)),.j 6 5,.y 7 (.len .sl (.t 6)),.y 8 (.wo 3 32 [.str [],.int .i64 0,.bool false] (.t 7) (.t 7)),.y 9 (.aP 6 (.t 1)),.j 10 9,.y 11 (.len .sl (.t 10)),.y 12 (.wo 4 48 [.str [],.str [],.int .i64 0,.bool false] (.t 11) (.t 11)),.w 3 8,.m 4 12] (.s [.m 13 3,.a 14 1 1,.l 15 14,.o 16 (.zK 3 (.t 13) (.t 15))] (.s [.m 17 4,.a 18 6 1,.l 19 18,.o 20 (.zK 4 (.t 17) (.t 19))] (.r [.y 21 (.aP 0 (.t 1)),.j 22 21,.w 23 3,.y 24 (.aP 2 (.t 1)),.j 25 24,.y 26 (.call (.f 179) [.t 25]),.y 27 (.aP 3 (.t 1)),.j 28 27,.y 29 (.call (.f 180) [.t 28,(.f 181)]),.y 30 (.aP 4 (.t 1)),.j 31 30,.y 32 (.call (.f 182) [.t 31,(.f 183)]),.y 33 (.aP 5 (.t 1)),.j 34 33,.y 35 (.call (.f 184) [.t 34,(.f 185)]),.w 36 4,.o 37 (.build [.int .i64 0,.af,.af,.af,.af,.af,.af] [(0,1,.t 22),(1,1,.t 23),(2,1,.t 26),(3,1,.t 29),(4,1,.t 32),(5,1,.t 35),(6,1,.t 36)]),.s 7 2 37])))))⟩
def fn97:au:=gA 97
def fn98:au:=gA 98
def fn99:au:=gA 99
def fn101:au:=gA 101
def fn102:au:=gA 102
def fn108:au:=gA 108
def fn109:au:=⟨10,0,[(0,none)],(.s [.o 0 (.bV (.c .dz))] (.r [.o 1 (.oP),.o 2 (.build [.bool false,.int .i64 0,.nilFunc] [(0,1,.T),(1,1,(.n 4)),(2,1,(.f 198))]),.x (.gh .s (.t 1) (.c (.str [108,101,102,116])) (.t 2)),.o 3 (.build [.bool false,.int .i64 0,.nilFunc] [(0,1,.T),(1,1,(.n 5)),(2,1,(.f 126))]),.x (.gh .s (.t 1) (.c (.str [102,114,111,109])) (.t 3)),.o 4 (.build [.bool false,.int .i64 0,.nilFunc] [(0,1,.T),(1,1,(.n 3)),(2,1,(.f 200))]),.x (.gh .s (.t 1) (.c (.str [108,105,110,101,115])) (.t 4)),.o 5 (.build [.bool false,.int .i64 0,.nilFunc] [(0,1,.F),(1,1,(.n 2)),(2,1,(.f 201))]),.x (.gh .s (.t 1) (.c (.str [117,110,115,97,102,101])) (.t 5)),.o 6 (.build [.bool false,.int .i64 0,.nilFunc] [(0,1,.T),(1,1,(.n 2)),(2,1,(.f 202))]),.x (.gh .s (.t 1) (.c (.str [116,97,112,101,115])) (.t 6)),.o 7 (.build [.bool false,.int .i64 0,.nilFunc] [(0,1,.F),(1,1,(.n 5)),(2,1,(.f 203))]),.x (.gh .s (.t 1) (.c (.str [114,101,108,101,97,115,101,100])) (.t 7)),.o 8 (.build [.bool false,.int .i64 0,.nilFunc] [(0,1,.T),(1,1,.z),(2,1,(.f 204))]),.x (.gh .s (.t 1) (.c (.str [119,97,110,116])) (.t 8)),.m 9 1,.m 0 9]))⟩
def fn110:au:=gA 110
def fn111:au:=⟨73,1,[(2,some (some 5)),(3,none)],(.s [.o 2 (.box (.c (.agg [.int .i64 0,.str [],.af,.af,.str []]))),.o 3 (.bV .F)] (.s [.m 12 0,.o 13 (.build [.af,.bool false] [(0,1,.t 12)]),.p 14 13,.m 4 14] (.s [.m 15 4,.o 16 (.uH (.func 207) [.t 15] []),.m 17 4,.o 18 (.uH (.func 208) [.t 17] []),.m 5 16,.m 6 18] (.s [.m 19 5,.o 20 (.call (.t 19) []),.o 21 (.build [.int .i64 0,.str [],.af,.af,.str []] [(1,1,.t 20)]),.o 7 (.box (.c (.agg [.int .i64 0,.str [],.af,.af,.str []]))),.s 5 7 21] (.s [.y 23 (.call (.f 90) []),.y 24 (.aP 1 (.t 7)),.j 25 24,.y 26 (.look .s (.agg [.af,.int .i64 0,.nilFunc,.nilFunc,.nilFunc]) true (.t 23) (.t 25)),.w 22 26,.y 27 (.ext (.t 22) 0),.y 28 (.ext (.t 22) 1),⟨none,.bV .F,none,true⟩,.y 8 (.mq 5 (.t 27)),.m 9 28] (.seq (.s [.m 29 9,.o 30 (.un .not (.t 29))] (.j 30 [.o 31 (.build [.int .i64 0,.str [],.af,.af,.str []] []),.s 5 2 31,.o 3 (.bV .F)])) (.seq (.s [.a 32 0 8,.l 33 32,.n 34 33,.o 35 (.bV .z)] (.block 0 (.loop (.s [.u 36 .lss 35 34] (.seq (.i 36 .skip (.exit 0)) (.seq (.block 1 (.s [.m 37 5,.o 38 (.call (.t 37) []),.m 10 38] (.ops [.a 39 2 7,.l 40 39,.m 41 10,.o 42 (.bo 1 1 [.str []] [(0,.t 41)]),.o 43 (.app 1 16 (.t 40) (.t 42)),.a 44 2 7,.s 1 44 43]))) (.ops [.v 45 .add 35 .w,.m 35 45]))))))) (.seq (.s [.a 46 1 8,.l 47 46,.o 48 (.bV .z)] (.block 2 (.loop (.s [.u 49 .lss 48 47] (.seq (.i 49 .skip (.exit 2)) (.seq (.block 3 (.s [.m 50 6,.o 51 (.call (.t 50) []),.m 11 51] (.ops [.a 52 3 7,.l 53 52,.m 54 11,.o 55 (.bo 1 1 [.int .i64 0] [(0,.t 54)]),.o 56 (.app 1 8 (.t 53) (.t 55)),.a 57 3 7,.s 1 57 56]))) (.ops [.v 58 .add 48 .w,.m 48 58]))))))) (.seq (.s9 [.r 59 5 7,.m 60 4,.o 61 (.bS (.t 60)),.a 62 1 61,.l 63 62,.o 64 (.un .not (.t 63)),.m 65 64,.t 66 65 true 4,.g 67 65 true (.bS (.t 66)),.g 68 65 true (.aP 0 (.t 67)),.g 69 65 true (.load none (.t 68)),.g 70 65 true (.len .sl (.t 69)),.g 71 65 true (.bin .eql (.t 70) .z),.d 72 65 71,.s 5 2 59,.m 3 72]) .ret)))))))))⟩
def fn112:au:=⟨94,2,[(4,none)],(.s [.p 3 1,.o 4 (.bV .z)] (.seq (.s [.r 9 5 3,.c 10 67 [.t 9],.m 5 10] (.s [.m 11 5,.v 12 .neq 11 .z] (.j 12 [.m 13 5,.m 4 13]))) (.seq (.s [.m 14 0,.r 15 5 3,.c 16 116 [.t 14,.t 15],.m 6 16] (.s [.m 17 6,.v 18 .neq 17 .z] (.j 18 [.m 19 6,.m 4 19]))) (.s [.r 20 5 3,.c 21 91 [.t 20],.s 5 3 21] (.s [.m 22 0,.m 23 0,.o 24 (.bS (.t 23)),.a 25 0 24,.l 26 25,.r 27 5 3,.o 28 (.bo 5 1 [.int .i64 0,.str [],.af,.af,.str []] [(0,.t 27)]),.o 29 (.app 5 88 (.t 26) (.t 28)),.o 30 (.bS (.t 22)),.a 31 0 30,.s 1 31 29] (.seq (.s [.a 32 1 3,.l 33 32,.v 34 .eql 33 (.c (.str [117,110,100,111]))] (.i 34 (.s [.m 35 0,.o 36 (.bS (.t 35)),.a 37 1 36,.l 38 37,.n 39 38,.v 40 .sub 39 .w,.m 7 40] (.s [.m 41 0,.m 42 0,.m 43 0,.o 44 (.bS (.t 43)),.a 45 1 44,.l 46 45,.m 47 7,.o 48 (.sl 5 (.t 46) none (some (.t 47))),.m 49 0,.o 50 (.bS (.t 49)),.a 51 2 50,.l 52 51,.m 53 7,.o 54 (.sl 7 (.t 52) none (some (.t 53))),.o 55 (.bS (.t 41)),.a 56 1 55,.s 1 56 48,.o 57 (.bS (.t 42)),.a 58 2 57,.s 1 58 54] (.r [.o 4 (.bV .z)]))) .skip)) (.s [.m 59 0,.c 60 79 [.t 59],.c 61 96 [.t 60],.o 8 (.box (.c (.agg [.int .i64 0,.af,.af,.af,.af,.af,.af]))),.s 7 8 61] (.s [.y 62 (.call (.f 90) []),.y 63 (.aP 1 (.t 3)),.j 64 63,.y 65 (.look .s (.agg [.af,.int .i64 0,.nilFunc,.nilFunc,.nilFunc]) false (.t 62) (.t 64)),.y 66 (.part none 3 (.t 65)),.y 67 (.load (some 5) (.t 3)),.o 68 (.call (.t 66) [.t 8,.t 67])] (.s [.a 69 3 3,.l 70 69,.o 71 (.bp 1 (.t 70) .z),.l 72 71,.a 73 0 8,.s 1 73 72] (.seq (.mP [.m 74 0,.m 75 0,.m 76 0,.o 77 (.bS (.t 76)),.a 78 1 77,.j 79 78,.y 80 (.load (some 5) (.t 3)),.o 81 (.bo 5 1 [.int .i64 0,.str [],.af,.af,.str []] [(0,.t 80)]),.o 82 (.app 5 88 (.t 79) (.t 81)),.m 83 0,.o 84 (.bS (.t 83)),.a 85 2 84,.j 86 85,.y 87 (.load (some 7) (.t 8)),.o 88 (.bo 7 1 [.int .i64 0,.af,.af,.af,.af,.af,.af] [(0,.t 87)]),.o 89 (.app 7 152 (.t 86) (.t 88)),.o 90 (.bS (.t 74)),.a 91 1 90,.s 1 91 82,.o 92 (.bS (.t 75)),.a 93 2 92,.s 1 93 89]) (.r [.o 4 (.bV .z)])))))))))))⟩
def fn113:au:=gA 113
def fn114:au:=gA 114
def fn115:au:=gA 115
def fn116:au:=⟨106,2,[(4,none)],(.s [.p 3 1,.o 4 (.bV .z)] (.seq (.s [.y 12 (.aP 0 (.t 3)),.j 13 12,.w 14 0,.y 15 (.bS (.t 14)),.y 16 (.aP 0 (.t 15)),.j 17 16,.y 18 (.len .sl (.t 17)),.y 19 (.bin .add (.t 18) .w),.u 20 .neq 13 19] (.j 20 [.o 4 (.bV (.n 11))])) (.s [.m 21 0,.o 22 (.bS (.t 21)),.a 23 1 22,.l 24 23,.n 25 24,.m 5 25] (.seq (.s [.a 26 1 3,.l 27 26,.v 28 .eql 27 (.c (.str [117,110,100,111]))] (.i 28 (.seq (.s [.m 29 5,.v 30 .eql 29 .z] (.j 30 [.o 4 (.bV (.n 12))])) (.r [.m 31 0,.o 32 (.bS (.t 31)),.a 33 1 32,.l 34 33,.m 35 5,.v 36 .sub 35 .w,.h 37 5 34 36,.a 38 1 37,.l 39 38,.v 40 .eql 39 (.c (.str [114,101,108,101,97,115,101])),.c 41 85 [.t 40,.n 21],.m 4 41])) .skip)) (.s [.m 42 0,.c 43 79 [.t 42],.o 6 (.box (.c (.agg [.int .i64 0,.af,.af,.af,.af,.af,.af]))),.s 7 6 43] (.seq (.s [.y 44 (.aP 3 (.t 3)),.j 45 44,.y 46 (.bp 1 (.t 45) .z),.j 47 46,.y 48 (.aP 0 (.t 6)),.j 49 48,.u 50 .lss 47 49] (.j 50 [.o 4 (.bV (.n 22))])) (.s [.y 51 (.call (.f 90) []),.y 52 (.aP 1 (.t 3)),.j 53 52,.y 54 (.look .s (.agg [.af,.int .i64 0,.nilFunc,.nilFunc,.nilFunc]) false (.t 51) (.t 53)),.y 7 (.box (.c (.agg [.af,.int .i64 0,.nilFunc,.nilFunc,.nilFunc]))),.s 5 7 54] (.seq (.s [.a 55 0 7,.l 56 55,.n 57 56,.o 58 (.bV .z)] (.block 0 (.loop (.s [.u 59 .lss 58 57] (.seq (.i 59 .skip (.exit 0)) (.seq (.block 1 (.s [.m 60 58,.h 61 2 56 58,.r 62 2 61,.o 9 (.box (.c (.agg [.int .i64 0,.bool false]))),.m 8 60,.s 2 9 62] (.s [.a 63 1 9,.l 64 63,.m 65 64,⟨(some 66),.load (some 7) (.t 6),(some (65,true)),true⟩,⟨(some 67),.aP 0 (.t 9),(some (65,true)),true⟩,⟨(some 68),.load none (.t 67),(some (65,true)),true⟩,⟨(some 69),.aP 2 (.t 3),(some (65,true)),true⟩,⟨(some 70),.load none (.t 69),(some (65,true)),true⟩,⟨(some 71),.bV (.t 8),(some (65,true)),true⟩,⟨(some 72),.bp 1 (.t 70) (.t 71),(some (65,true)),true⟩,⟨(some 73),.load none (.t 72),(some (65,true)),true⟩,.g 74 65 true (.call (.f 86) [.t 66,.t 68,.t 73]),.g 75 65 true (.un .not (.t 74)),.d 76 65 75] (.j 76 [.o 4 (.bV (.n 10))])))) (.ops [.v 77 .add 58 .w,.m 58 77]))))))) (.seq (.s [.a 78 0 7,.l 79 78,.n 80 79,.o 81 (.bV .z)] (.block 2 (.loop (.s [.u 82 .lss 81 80] (.seq (.i 82 .skip (.exit 2)) (.seq (.block 3 (.s [.m 83 81,.h 84 2 79 81,.r 85 2 84,.o 11 (.box (.c (.agg [.int .i64 0,.bool false]))),.m 10 83,.s 2 11 85] (.s [.a 86 1 11,.l 87 86,.o 88 (.un .not (.t 87)),.m 89 88,⟨(some 90),.load (some 7) (.t 6),(some (89,true)),true⟩,⟨(some 91),.aP 0 (.t 11),(some (89,true)),true⟩,⟨(some 92),.load none (.t 91),(some (89,true)),true⟩,⟨(some 93),.aP 2 (.t 3),(some (89,true)),true⟩,⟨(some 94),.load none (.t 93),(some (89,true)),true⟩,⟨(some 95),.bV (.t 10),(some (89,true)),true⟩,⟨(some 96),.bp 1 (.t 94) (.t 95),(some (89,true)),true⟩,⟨(some 97),.load none (.t 96),(some (89,true)),true⟩,.g 98 89 true (.call (.f 86) [.t 90,.t 92,.t 97]),.d 99 89 98] (.j 99 [.o 4 (.bV (.n 9))])))) (.ops [.v 100 .add 81 .w,.m 81 100]))))))) (.r [.a 101 2 7,.l 102 101,.r 103 7 6,.r 104 5 3,.o 105 (.call (.t 102) [.t 103,.t 104]),.m 4 105]))))))))))⟩
def fn117:au:=gA 117
def fn118:au:=gA 118
def fn119:au:=gA 119
def fn120:au:=gA 120
def fn121:au:=gA 121
def fn122:au:=gA 122
def fn123:au:=gA 123
def fn124:au:=gA 124
def fn125:au:=gA 125
def fn126:au:=gA 126
def fn127:au:=gA 127
def fn128:au:=gA 128
def fn129:au:=gA 129
def fn130:au:=gA 130
def fn131:au:=gA 131
def fn132:au:=gA 132
def fn133:au:=gA 133
def fn134:au:=gA 134
def fn135:au:=gA 135
def fn136:au:=gA 136
def fn137:au:=gA 137
def fn138:au:=gA 138
def fn139:au:=gA 139
def fn140:au:=gA 140
def fn141:au:=vD 2 2
def fn142:au:=gA 142
def fn143:au:=gA 143
def fn144:au:=gA 144
def fn145:au:=gA 145
def fn146:au:=gA 146
def fn147:au:=gA 147
def fn148:au:=gA 148
def fn149:au:=⟨22,2,[],(.s [.p 3 1] (.ops [.m 4 0,.m 5 0,.o 6 (.bS (.t 5)),.a 7 1 6,.l 8 7,.a 9 2 3,.l 10 9,.o 11 (.bp 1 (.t 10) .z),.l 12 11,.a 13 3 3,.l 14 13,.o 15 (.bp 1 (.t 14) .w),.l 16 15,.o 17 (.build [.str [],.int .i64 0,.bool false] [(0,1,.t 12),(1,1,.t 16)]),.o 18 (.bo 3 1 [.str [],.int .i64 0,.bool false] [(0,.t 17)]),.o 19 (.app 3 32 (.t 8) (.t 18)),.o 20 (.bS (.t 4)),.a 21 1 20,.s 1 21 19]))⟩
def fn150:au:=gA 150
def fn151:au:=⟨23,2,[(4,none)],(.s [.p 2 0,.p 3 1,.o 4 (.bV .z)] (.r [.y 5 (.aP 3 (.t 3)),.j 6 5,.y 7 (.bp 1 (.t 6) .z),.j 8 7,.y 9 (.aP 3 (.t 3)),.j 10 9,.y 11 (.bp 1 (.t 10) .w),.j 12 11,.y 13 (.bin .add (.t 8) (.t 12)),.y 14 (.bin .gtr (.t 13) (.n 999999999)),.y 15 (.call (.f 85) [.t 14,.n 4]),.y 16 (.aP 2 (.t 2)),.j 17 16,.y 18 (.len .sl (.t 17)),.y 19 (.bin .geq (.t 18) (.n 16)),.c 20 85 [.t 19,.n 5],.o 21 (.bo 1 2 [.int .i64 0] [(0,.t 15),(1,.t 20)]),.c 22 74 [.t 21],.m 4 22]))⟩
def fn152:au:=⟨27,2,[],(.s [.p 3 1] (.ops [.m 4 0,.m 5 0,.o 6 (.bS (.t 5)),.a 7 2 6,.l 8 7,.a 9 2 3,.l 10 9,.o 11 (.bp 1 (.t 10) .z),.l 12 11,.a 13 3 3,.l 14 13,.o 15 (.bp 1 (.t 14) .z),.l 16 15,.a 17 3 3,.l 18 17,.o 19 (.bp 1 (.t 18) .w),.l 20 19,.u 21 .add 16 20,.o 22 (.build [.str [],.int .i64 0] [(0,1,.t 12),(1,1,.t 21)]),.o 23 (.bo 2 1 [.str [],.int .i64 0] [(0,.t 22)]),.o 24 (.app 2 24 (.t 8) (.t 23)),.o 25 (.bS (.t 4)),.a 26 2 25,.s 1 26 24]))⟩
def fn153:au:=gA 153
def fn154:au:=gA 154
def fn155:au:=⟨27,2,[(4,none)],(.s [.p 2 0,.p 3 1,.o 4 (.bV .z)] (.r [.y 5 (.load (some 7) (.t 2)),.y 6 (.aP 2 (.t 3)),.j 7 6,.y 8 (.bp 1 (.t 7) .w),.j 9 8,.y 10 (.call (.f 205) [.t 5,.t 9]),.y 11 (.part none 2 (.t 10)),.y 12 (.call (.f 85) [.t 11,.n 23]),.y 13 (.load (some 7) (.t 2)),.y 14 (.load (some 5) (.t 3)),.y 15 (.aP 2 (.t 3)),.j 16 15,.y 17 (.bp 1 (.t 16) (.n 2)),.j 18 17,.y 19 (.call (.f 241) [.t 13,.t 14,.t 18]),.y 20 (.aP 3 (.t 2)),.j 21 20,.y 22 (.len .sl (.t 21)),.y 23 (.bin .geq (.t 22) (.n 64)),.c 24 85 [.t 23,.n 5],.o 25 (.bo 1 3 [.int .i64 0] [(0,.t 12),(1,.t 19),(2,.t 24)]),.c 26 74 [.t 25],.m 4 26]))⟩
def fn156:au:=⟨27,2,[],(.s [.p 3 1] (.ops [.m 4 0,.m 5 0,.o 6 (.bS (.t 5)),.a 7 3 6,.l 8 7,.a 9 2 3,.l 10 9,.o 11 (.bp 1 (.t 10) .z),.l 12 11,.a 13 2 3,.l 14 13,.o 15 (.bp 1 (.t 14) .w),.l 16 15,.a 17 2 3,.l 18 17,.o 19 (.bp 1 (.t 18) (.n 2)),.l 20 19,.o 21 (.bo 1 1 [.str []] [(0,.t 20)]),.o 22 (.build [.str [],.str [],.af] [(0,1,.t 12),(1,1,.t 16),(2,1,.t 21)]),.o 23 (.bo 3 1 [.str [],.str [],.af] [(0,.t 22)]),.o 24 (.app 3 56 (.t 8) (.t 23)),.o 25 (.bS (.t 4)),.a 26 3 25,.s 1 26 24]))⟩
def fn157:au:=⟨35,2,[(4,none)],(.s [.p 2 0,.p 3 1,.o 4 (.bV .z)] (.s [.y 7 (.load (some 7) (.t 2)),.y 8 (.aP 2 (.t 3)),.j 9 8,.y 10 (.bp 1 (.t 9) .z),.j 11 10,.y 12 (.call (.f 134) [.t 7,.t 11]),.y 13 (.load (some 7) (.t 2)),.y 14 (.aP 2 (.t 3)),.j 15 14,.y 16 (.bp 1 (.t 15) .w),.j 17 16,.y 18 (.call (.f 134) [.t 13,.t 17]),.y 5 (.box (.c (.agg [.str [],.int .i64 0]))),.y 6 (.box (.c (.agg [.str [],.int .i64 0]))),.s 2 5 12,.s 2 6 18] (.r [.y 19 (.load (some 2) (.t 5)),.y 20 (.load (some 2) (.t 6)),.y 21 (.eqv false (.agg [.s,.i]) (.t 19) (.t 20)),.y 22 (.call (.f 85) [.t 21,.n 24]),.y 23 (.load (some 7) (.t 2)),.y 24 (.load (some 5) (.t 3)),.y 25 (.aP 0 (.t 5)),.j 26 25,.y 27 (.call (.f 241) [.t 23,.t 24,.t 26]),.y 28 (.load (some 7) (.t 2)),.y 29 (.load (some 5) (.t 3)),.y 30 (.aP 0 (.t 6)),.j 31 30,.c 32 241 [.t 28,.t 29,.t 31],.o 33 (.bo 1 3 [.int .i64 0] [(0,.t 22),(1,.t 27),(2,.t 32)]),.c 34 74 [.t 33],.m 4 34])))⟩
def fn158:au:=⟨50,2,[],(.s [.p 3 1] (.s [.y 8 (.aP 2 (.t 3)),.j 9 8,.y 10 (.bp 1 (.t 9) .z),.j 11 10,.y 12 (.aP 2 (.t 3)),.j 13 12,.y 14 (.bp 1 (.t 13) .w),.j 15 14,.w 4 11,.m 5 15] (.s [.m 16 0,.o 17 (.bS (.t 16)),.a 18 3 17,.l 19 18,.n 20 19,.o 21 (.bV .z)] (.block 0 (.loop (.s [.u 22 .lss 21 20] (.seq (.i 22 .skip (.exit 0)) (.seq (.block 1 (.s [.m 23 21,.h 24 3 19 21,.r 25 3 24,.o 7 (.box (.c (.agg [.str [],.str [],.af]))),.m 6 23,.s 3 7 25] (.s [.a 26 2 7,.l 27 26,.m 28 4,.c 29 242 [.t 27,.t 28],.m 30 29,.g 31 30 true (.aP 2 (.t 7)),.g 32 30 true (.load none (.t 31)),.t 33 30 true 5,.g 34 30 true (.call (.f 242) [.t 32,.t 33]),.g 35 30 true (.un .not (.t 34)),.d 36 30 35] (.i 36 (.mP [.m 37 0,.o 38 (.bS (.t 37)),.a 39 3 38,.j 40 39,.m 41 6,.a 42 2 7,.j 43 42,.m 44 5,.o 45 (.bo 1 1 [.str []] [(0,.t 44)]),.o 46 (.app 1 16 (.t 43) (.t 45)),.h 47 3 40 41,.a 48 2 47,.s 1 48 46]) .skip)))) (.ops [.v 49 .add 21 .w,.m 21 49])))))))))⟩
def fn159:au:=⟨36,2,[(4,none)],(.s [.p 2 0,.p 3 1,.o 4 (.bV .z)] (.s [.y 8 (.load (some 7) (.t 2)),.y 9 (.aP 2 (.t 3)),.j 10 9,.y 11 (.bp 1 (.t 10) .z),.j 12 11,.y 13 (.call (.f 205) [.t 8,.t 12]),.y 14 (.load (some 7) (.t 2)),.y 15 (.aP 2 (.t 3)),.j 16 15,.y 17 (.bp 1 (.t 16) .z),.j 18 17,.y 19 (.call (.f 206) [.t 14,.t 18]),.y 5 (.box (.c (.agg [.str [],.int .i64 0,.bool false]))),.s 3 5 13,.m 6 19] (.s [.m 20 6,.o 21 (.uH (.func 244) [] [.t 2,.t 3]),.c 22 243 [.t 20,.t 21],.m 7 22] (.r [.y 23 (.aP 2 (.t 5)),.j 24 23,.y 25 (.call (.f 85) [.t 24,.n 23]),.w 26 6,.y 27 (.len .sl (.t 26)),.y 28 (.aP 1 (.t 5)),.j 29 28,.y 30 (.bin .lss (.t 27) (.t 29)),.y 31 (.call (.f 85) [.t 30,.n 16]),.w 32 7,.c 33 85 [.t 32,.n 30],.o 34 (.bo 1 3 [.int .i64 0] [(0,.t 25),(1,.t 31),(2,.t 33)]),.c 35 74 [.t 34],.m 4 35]))))⟩
def y4(x0 x1 x2 x3:Nat):au:=⟨19,2,[],(.s [.p 3 1] (.ops [.w 4 0,.y 5 (.bS (.t 4)),.y 6 (.aP x0 (.t 5)),.j 7 6,.w 8 0,.y 9 (.bS (.t 8)),.y 10 (.aP x0 (.t 9)),.j 11 10,.y 12 (.aP 2 (.t 3)),.j 13 12,.y 14 (.bp 1 (.t 13) .z),.j 15 14,.y 16 (.call (.f x1) [.t 11,.t 15]),.h 17 x2 7 16,.a 18 x3 17,.x (.store 1 (.t 18) .T)]))⟩
def fn160:au:=y4 1 142 3 2
def fn161:au:=gA 161
def fn162:au:=⟨22,2,[],(.s [.p 3 1] (.ops [.m 4 0,.m 5 0,.o 6 (.bS (.t 5)),.a 7 4 6,.l 8 7,.a 9 2 3,.l 10 9,.o 11 (.bp 1 (.t 10) .z),.l 12 11,.a 13 2 3,.l 14 13,.o 15 (.bp 1 (.t 14) .w),.l 16 15,.o 17 (.build [.str [],.str [],.str [],.af] [(0,1,.t 12),(1,1,(.c (.str [115,104,111,116,115]))),(2,1,.t 16)]),.o 18 (.bo 4 1 [.str [],.str [],.str [],.af] [(0,.t 17)]),.o 19 (.app 4 72 (.t 8) (.t 18)),.o 20 (.bS (.t 4)),.a 21 4 20,.s 1 21 19]))⟩
def fn163:au:=⟨35,2,[(4,none)],(.s [.p 2 0,.p 3 1,.o 4 (.bV .z)] (.s [.a 6 3 3,.l 7 6,.o 8 (.bp 1 (.t 7) .w),.l 9 8,.m 5 9] (.seq (.s [.m 10 5,.v 11 .lss 10 .w,.m 12 11,.t 13 12 false 5,.g 14 12 false (.bin .gtr (.t 13) (.n 4)),.f 15 12 14] (.j 15 [.o 4 (.bV (.n 13))])) (.r [.y 16 (.load (some 7) (.t 2)),.y 17 (.aP 2 (.t 3)),.j 18 17,.y 19 (.bp 1 (.t 18) .w),.j 20 19,.y 21 (.call (.f 245) [.t 16,.t 20]),.y 22 (.part none 1 (.t 21)),.w 23 5,.y 24 (.bin .sub (.t 23) .w),.y 25 (.te 4 2 (.g 0) (.t 24)),.y 26 (.te 2 1 (.t 25) .z),.j 27 26,.y 28 (.bin .neq (.t 22) (.t 27)),.y 29 (.call (.f 85) [.t 28,.n 2]),.y 30 (.load (some 7) (.t 2)),.y 31 (.load (some 5) (.t 3)),.c 32 161 [.t 30,.t 31],.o 33 (.bo 1 2 [.int .i64 0] [(0,.t 29),(1,.t 32)]),.c 34 74 [.t 33],.m 4 34]))))⟩
def fn164:au:=⟨30,2,[],(.s [.p 3 1] (.ops [.m 4 0,.m 5 0,.o 6 (.bS (.t 5)),.a 7 4 6,.l 8 7,.a 9 2 3,.l 10 9,.o 11 (.bp 1 (.t 10) .z),.l 12 11,.a 13 3 3,.l 14 13,.o 15 (.bp 1 (.t 14) .w),.l 16 15,.v 17 .sub 16 .w,.o 18 (.te 4 2 (.g 0) (.t 17)),.o 19 (.te 2 1 (.t 18) .w),.l 20 19,.a 21 2 3,.l 22 21,.o 23 (.sl 1 (.t 22) (some .w) none),.y 24 (.call (.f 177) [.t 23]),.o 25 (.build [.str [],.str [],.str [],.af] [(0,1,.t 12),(1,1,.t 20),(3,1,.t 24)]),.o 26 (.bo 4 1 [.str [],.str [],.str [],.af] [(0,.t 25)]),.o 27 (.app 4 72 (.t 8) (.t 26)),.o 28 (.bS (.t 4)),.a 29 4 28,.s 1 29 27]))⟩
def fn165:au:=⟨36,2,[(4,none)],(.s [.p 2 0,.p 3 1,.o 4 (.bV .z)] (.r [.y 5 (.aP 2 (.t 3)),.j 6 5,.y 7 (.bp 1 (.t 6) .w),.j 8 7,.y 9 (.aP 2 (.t 3)),.j 10 9,.y 11 (.bp 1 (.t 10) (.n 2)),.j 12 11,.y 13 (.bin .eql (.t 8) (.t 12)),.y 14 (.call (.f 85) [.t 13,.n 24]),.y 15 (.load (some 7) (.t 2)),.y 16 (.aP 2 (.t 3)),.j 17 16,.y 18 (.bp 1 (.t 17) .w),.j 19 18,.y 20 (.call (.f 245) [.t 15,.t 19]),.y 21 (.part none 1 (.t 20)),.y 22 (.load (some 7) (.t 2)),.y 23 (.aP 2 (.t 3)),.j 24 23,.y 25 (.bp 1 (.t 24) (.n 2)),.j 26 25,.y 27 (.call (.f 245) [.t 22,.t 26]),.y 28 (.part none 1 (.t 27)),.y 29 (.bin .neq (.t 21) (.t 28)),.y 30 (.call (.f 85) [.t 29,.n 2]),.y 31 (.load (some 7) (.t 2)),.y 32 (.load (some 5) (.t 3)),.c 33 161 [.t 31,.t 32],.o 34 (.bo 1 3 [.int .i64 0] [(0,.t 14),(1,.t 30),(2,.t 33)]),.c 35 74 [.t 34],.m 4 35]))⟩
def fn166:au:=⟨31,2,[],(.s [.p 3 1] (.ops [.m 4 0,.m 5 0,.o 6 (.bS (.t 5)),.a 7 4 6,.l 8 7,.a 9 2 3,.l 10 9,.o 11 (.bp 1 (.t 10) .z),.l 12 11,.m 13 0,.o 14 (.bS (.t 13)),.r 15 7 14,.a 16 2 3,.l 17 16,.o 18 (.bp 1 (.t 17) .w),.l 19 18,.y 20 (.call (.f 245) [.t 15,.t 19]),.o 21 (.part none 1 (.t 20)),.a 22 2 3,.l 23 22,.o 24 (.sl 1 (.t 23) (some .w) none),.y 25 (.call (.f 177) [.t 24]),.o 26 (.build [.str [],.str [],.str [],.af] [(0,1,.t 12),(1,1,.t 21),(3,1,.t 25)]),.o 27 (.bo 4 1 [.str [],.str [],.str [],.af] [(0,.t 26)]),.o 28 (.app 4 72 (.t 8) (.t 27)),.o 29 (.bS (.t 4)),.a 30 4 29,.s 1 30 28]))⟩
def fn167:au:=gA 167
def fn168:au:=⟨28,2,[],(.s [.p 3 1] (.ops [.m 4 0,.m 5 0,.o 6 (.bS (.t 5)),.a 7 5 6,.l 8 7,.a 9 2 3,.l 10 9,.o 11 (.bp 1 (.t 10) .z),.l 12 11,.a 13 2 3,.l 14 13,.o 15 (.bp 1 (.t 14) .w),.l 16 15,.o 17 (.bo 1 1 [.int .i64 0] [(0,(.n (-1)))]),.a 18 3 3,.l 19 18,.o 20 (.bp 1 (.t 19) .w),.l 21 20,.y 22 (.call (.f 248) [.t 17,.t 21]),.o 23 (.build [.str [],.str [],.af] [(0,1,.t 12),(1,1,.t 16),(2,1,.t 22)]),.o 24 (.bo 3 1 [.str [],.str [],.af] [(0,.t 23)]),.o 25 (.app 3 56 (.t 8) (.t 24)),.o 26 (.bS (.t 4)),.a 27 5 26,.s 1 27 25]))⟩
def fn169:au:=gA 169
def fn170:au:=gA 170
def fn171:au:=⟨27,2,[(4,none)],(.s [.p 2 0,.p 3 1,.o 4 (.bV .z)] (.seq (.s [.r 6 7 2,.r 7 5 3,.c 8 249 [.t 6,.t 7],.m 5 8] (.s [.m 9 5,.v 10 .neq 9 .z] (.j 10 [.m 11 5,.m 4 11]))) (.r [.y 12 (.load (some 7) (.t 2)),.y 13 (.aP 2 (.t 3)),.j 14 13,.y 15 (.bp 1 (.t 14) .z),.j 16 15,.y 17 (.call (.f 124) [.t 12,.t 16]),.y 18 (.part none 2 (.t 17)),.y 19 (.aP 3 (.t 3)),.j 20 19,.y 21 (.bp 1 (.t 20) .w),.j 22 21,.h 23 1 18 22,.l 24 23,.v 25 .eql 24 (.n (-1)),.c 26 85 [.t 25,.n 7],.m 4 26])))⟩
def fn172:au:=gA 172
def fn173:au:=⟨31,2,[(4,none)],(.s [.p 2 0,.p 3 1,.o 4 (.bV .z)] (.s [.y 6 (.load (some 7) (.t 2)),.y 7 (.aP 2 (.t 3)),.j 8 7,.y 9 (.bp 1 (.t 8) .w),.j 10 9,.c 11 124 [.t 6,.t 10],.c 12 125 [.t 11],.m 5 12] (.r [.y 13 (.load (some 7) (.t 2)),.y 14 (.aP 2 (.t 3)),.j 15 14,.y 16 (.bp 1 (.t 15) .w),.j 17 16,.y 18 (.call (.f 251) [.t 13,.t 17]),.y 19 (.call (.f 85) [.t 18,.n 23]),.w 20 5,.y 21 (.len .sl (.t 20)),.y 22 (.bin .gtr (.t 21) .z),.y 23 (.call (.f 85) [.t 22,.n 32]),.y 24 (.aP 6 (.t 2)),.j 25 24,.y 26 (.len .sl (.t 25)),.y 27 (.bin .geq (.t 26) (.n 16)),.c 28 85 [.t 27,.n 5],.o 29 (.bo 1 3 [.int .i64 0] [(0,.t 19),(1,.t 23),(2,.t 28)]),.c 30 74 [.t 29],.m 4 30])))⟩
def fn174:au:=⟨32,2,[],(.s [.p 3 1] (.ops [.m 4 0,.m 5 0,.o 6 (.bS (.t 5)),.a 7 6 6,.l 8 7,.a 9 2 3,.l 10 9,.o 11 (.bp 1 (.t 10) .z),.l 12 11,.a 13 2 3,.l 14 13,.o 15 (.bp 1 (.t 14) .w),.l 16 15,.m 17 0,.o 18 (.bS (.t 17)),.r 19 7 18,.a 20 2 3,.l 21 20,.o 22 (.bp 1 (.t 21) .w),.l 23 22,.y 24 (.call (.f 124) [.t 19,.t 23]),.o 25 (.part none 2 (.t 24)),.y 26 (.call (.f 95) [.t 25]),.o 27 (.build [.str [],.str [],.int .i64 0,.bool false] [(0,1,.t 12),(1,1,.t 16),(2,1,.t 26)]),.o 28 (.bo 4 1 [.str [],.str [],.int .i64 0,.bool false] [(0,.t 27)]),.o 29 (.app 4 48 (.t 8) (.t 28)),.o 30 (.bS (.t 4)),.a 31 6 30,.s 1 31 29]))⟩
def fn175:au:=gA 175
def fn176:au:=y4 6 146 4 3
def fn177:au:=gA 177
def fn178:au:=gA 178
def fn179:au:=gA 179
def fn180:au:=gA 180
def fn181:au:=gA 181
def fn182:au:=gA 182
def fn183:au:=gA 183
def fn184:au:=gA 184
def fn185:au:=gA 185
def fn186:au:=gA 186
def fn187:au:=gA 187
def fn188:au:=gA 188
def fn189:au:=gA 189
def fn190:au:=gA 190
def fn193:au:=gA 193
def fn194:au:=gA 194
def fn195:au:=gA 195
def fn197:au:=gA 197
def fn198:au:=gA 198
def fn199:au:=gA 199
def fn200:au:=gA 200
def fn201:au:=gA 201
def fn202:au:=gA 202
def fn203:au:=gA 203
def fn204:au:=gA 204
def fn205:au:=gA 205
def fn206:au:=gA 206
def fn207:au:=gA 207
def fn208:au:=gA 208
def fn213:au:=gA 213
def fn214:au:=gA 214
def fn215:au:=gA 215
def fn216:au:=gA 216
def fn217:au:=gA 217
def fn218:au:=gA 218
def fn219:au:=gA 219
def fn221:au:=gA 221
def fn222:au:=gA 222
def fn223:au:=⟨55,2,[(4,none)],(.s [.p 2 0,.p 3 1,.o 4 (.bV .z)] (.s [.a 7 1 3,.l 8 7,.c 9 101 [.t 8],.o 10 (.part none 0 (.t 9)),.m 5 10] (.seq (.s [.o 6 (.bV .z)] (.block 0 (.loop (.seq (.s [.m 11 6,.m 12 5,.o 13 (.len .st (.t 12)),.u 14 .lss 11 13] (.i 14 .skip (.exit 0))) (.seq (.block 1 (.s [.w 17 5,.w 18 6,.o 19 (.D2 (.t 17) (.t 18)),.v 20 .geq 19 (.c (.int .u8 97)),.m 21 20,⟨(some 22),.load (some 7) (.t 2),(some (21,true)),true⟩,⟨(some 23),.bV (.t 5),(some (21,true)),true⟩,⟨(some 24),.bV (.t 6),(some (21,true)),true⟩,⟨(some 25),.D2 (.t 23) (.t 24),(some (21,true)),true⟩,⟨(some 26),.aP 2 (.t 3),(some (21,true)),true⟩,⟨(some 27),.load none (.t 26),(some (21,true)),true⟩,⟨(some 28),.bV (.t 6),(some (21,true)),true⟩,⟨(some 29),.bp 1 (.t 27) (.t 28),(some (21,true)),true⟩,⟨(some 30),.load none (.t 29),(some (21,true)),true⟩,.g 31 21 true (.call (.f 195) [.t 22,.t 25,.t 30]),.g 32 21 true (.bin .lss (.t 31) .z),.d 33 21 32] (.j 33 [.o 4 (.bV (.n 10))]))) (.ops [.m 15 6,.v 16 .add 15 .w,.m 6 16])))))) (.seq (.s [.m 34 5,.o 35 (.len .st (.t 34)),.v 36 .gtr 35 .z,.m 37 36,.t 38 37 true 5,.g 39 37 true (.D2 (.t 38) .z),.g 40 37 true (.bin .lss (.t 39) (.c (.int .u8 97))),.d 41 37 40,.m 42 41,⟨(some 43),.load (some 7) (.t 2),(some (42,true)),true⟩,⟨(some 44),.bV (.t 5),(some (42,true)),true⟩,⟨(some 45),.D2 (.t 44) .z,(some (42,true)),true⟩,⟨(some 46),.bin .add (.t 45) (.c (.int .u8 97)),(some (42,true)),true⟩,⟨(some 47),.bin .sub (.t 46) (.c (.int .u8 65)),(some (42,true)),true⟩,⟨(some 48),.aP 2 (.t 3),(some (42,true)),true⟩,⟨(some 49),.load none (.t 48),(some (42,true)),true⟩,⟨(some 50),.bp 1 (.t 49) .z,(some (42,true)),true⟩,⟨(some 51),.load none (.t 50),(some (42,true)),true⟩,.g 52 42 true (.call (.f 195) [.t 43,.t 47,.t 51]),.g 53 42 true (.bin .geq (.t 52) .z),.d 54 42 53] (.j 54 [.o 4 (.bV (.n 9))])) (.r [.o 4 (.bV .z)])))))⟩
def fn224:au:=gA 224
def fn225:au:=⟨250,2,[(4,some (some 7)),(5,none)],(.s [.p 2 0,.p 3 1,.o 4 (.box (.c (.agg [.int .i64 0,.af,.af,.af,.af,.af,.af]))),.o 5 (.bV .z)] (.s [.a 12 3 3,.l 13 12,.o 14 (.bp 1 (.t 13) .z),.l 15 14,.m 6 15] (.seq (.s [.a 16 1 3,.l 17 16] (.block 0 (.s [.v 72 .eql 17 (.c (.str [108,105,110,101])),.m 71 72] (.i 71 (.seq (.s [.a 73 3 3,.l 74 73,.o 75 (.bp 1 (.t 74) .w),.l 76 75,.c 77 20 [.t 76,.w,.n 64]] (.j 77 [.r 78 7 2,.s 7 4 78,.o 5 (.bV (.n 3))])) (.seq (.s [.a 79 1 2,.l 80 79,.n 81 80,.v 82 .geq 81 (.n 16)] (.j 82 [.r 83 7 2,.s 7 4 83,.o 5 (.bV (.n 5))])) (.ops [.y 84 (.aP 1 (.t 2)),.j 85 84,.y 86 (.aP 2 (.t 3)),.j 87 86,.y 88 (.bp 1 (.t 87) .z),.j 89 88,.y 90 (.aP 3 (.t 3)),.j 91 90,.y 92 (.bp 1 (.t 91) .w),.j 93 92,.y 94 (.build [.str [],.int .i64 0,.bool false] [(0,1,.t 89),(1,1,.t 93)]),.y 95 (.bo 3 1 [.str [],.int .i64 0,.bool false] [(0,.t 94)]),.o 96 (.app 3 32 (.t 85) (.t 95)),.a 97 1 2,.s 1 97 96]))) (.s [.v 99 .eql 17 (.c (.str [116,97,112,101])),.m 98 99] (.i 98 (.seq (.s [.m 100 6,.a 101 3 3,.l 102 101,.o 103 (.bp 1 (.t 102) .w),.l 104 103,.u 105 .add 100 104,.v 106 .gtr 105 (.n 999999999)] (.j 106 [.r 107 7 2,.s 7 4 107,.o 5 (.bV (.n 4))])) (.seq (.s [.a 108 2 2,.l 109 108,.n 110 109,.v 111 .geq 110 (.n 16)] (.j 111 [.r 112 7 2,.s 7 4 112,.o 5 (.bV (.n 5))])) (.ops [.y 113 (.aP 2 (.t 2)),.j 114 113,.y 115 (.aP 2 (.t 3)),.j 116 115,.y 117 (.bp 1 (.t 116) .z),.j 118 117,.w 119 6,.y 120 (.aP 3 (.t 3)),.j 121 120,.y 122 (.bp 1 (.t 121) .w),.j 123 122,.y 124 (.bin .add (.t 119) (.t 123)),.y 125 (.build [.str [],.int .i64 0] [(0,1,.t 118),(1,1,.t 124)]),.y 126 (.bo 2 1 [.str [],.int .i64 0] [(0,.t 125)]),.o 127 (.app 2 24 (.t 114) (.t 126)),.a 128 2 2,.s 1 128 127]))) (.s [.v 130 .eql 17 (.c (.str [115,104,111,116])),.m 129 130] (.i 129 (.seq (.s [.y 131 (.aP 1 (.t 2)),.j 132 131,.y 133 (.load (some 7) (.t 2)),.y 134 (.aP 2 (.t 3)),.j 135 134,.y 136 (.bp 1 (.t 135) .w),.j 137 136,.y 138 (.call (.f 28) [.t 133,.t 137]),.h 139 3 132 138,.a 140 2 139,.l 141 140] (.j 141 [.r 142 7 2,.s 7 4 142,.o 5 (.bV (.n 23))])) (.seq (.s [.y 143 (.load (some 7) (.t 2)),.y 144 (.aP 2 (.t 3)),.j 145 144,.y 146 (.bp 1 (.t 145) (.n 2)),.j 147 146,.w 148 6,.c 149 84 [.t 143,.t 147,.t 148],.o 150 (.un .not (.t 149))] (.j 150 [.r 151 7 2,.s 7 4 151,.o 5 (.bV (.n 30))])) (.seq (.s [.a 152 3 2,.l 153 152,.n 154 153,.v 155 .geq 154 (.n 64)] (.j 155 [.r 156 7 2,.s 7 4 156,.o 5 (.bV (.n 5))])) (.ops [.y 157 (.aP 3 (.t 2)),.j 158 157,.y 159 (.aP 2 (.t 3)),.j 160 159,.y 161 (.bp 1 (.t 160) .z),.j 162 161,.y 163 (.aP 2 (.t 3)),.j 164 163,.y 165 (.bp 1 (.t 164) .w),.j 166 165,.y 167 (.aP 2 (.t 3)),.j 168 167,.y 169 (.bp 1 (.t 168) (.n 2)),.j 170 169,.y 171 (.bo 1 1 [.str []] [(0,.t 170)]),.y 172 (.build [.str [],.str [],.af] [(0,1,.t 162),(1,1,.t 166),(2,1,.t 171)]),.y 173 (.bo 3 1 [.str [],.str [],.af] [(0,.t 172)]),.o 174 (.app 3 56 (.t 158) (.t 173)),.a 175 3 2,.s 1 175 174])))) (.s [.v 177 .eql 17 (.c (.str [99,111,112,121])),.m 176 177] (.i 176 (.seq (.s [.y 178 (.aP 2 (.t 3)),.j 179 178,.y 180 (.bp 1 (.t 179) .z),.j 181 180,.y 182 (.aP 2 (.t 3)),.j 183 182,.y 184 (.bp 1 (.t 183) .w),.j 185 184,.u 186 .eql 181 185] (.j 186 [.r 187 7 2,.s 7 4 187,.o 5 (.bV (.n 24))])) (.seq (.s [.y 188 (.load (some 7) (.t 2)),.y 189 (.aP 2 (.t 3)),.j 190 189,.y 191 (.bp 1 (.t 190) .z),.j 192 191,.w 193 6,.c 194 84 [.t 188,.t 192,.t 193],.o 195 (.un .not (.t 194)),.m 196 195,⟨(some 197),.load (some 7) (.t 2),(some (196,false)),true⟩,⟨(some 198),.aP 2 (.t 3),(some (196,false)),true⟩,⟨(some 199),.load none (.t 198),(some (196,false)),true⟩,⟨(some 200),.bp 1 (.t 199) .w,(some (196,false)),true⟩,⟨(some 201),.load none (.t 200),(some (196,false)),true⟩,⟨(some 202),.bV (.t 6),(some (196,false)),true⟩,.g 203 196 false (.call (.f 84) [.t 197,.t 201,.t 202]),.g 204 196 false (.un .not (.t 203)),.f 205 196 204] (.j 205 [.r 206 7 2,.s 7 4 206,.o 5 (.bV (.n 30))])) (.s [.o 7 (.bV .z)] (.block 3 (.loop (.seq (.s [.m 207 7,.a 208 3 2,.l 209 208,.n 210 209,.u 211 .lss 207 210] (.i 211 .skip (.exit 3))) (.seq (.block 4 (.s [.a 214 3 2,.l 215 214,.m 216 7,.h 217 3 215 216,.a 218 2 217,.l 219 218,.m 8 219] (.s [.m 220 8,.a 221 2 3,.l 222 221,.o 223 (.bp 1 (.t 222) .z),.l 224 223,.c 225 35 [.t 220,.t 224],.m 226 225,.t 227 226 true 8,.g 228 226 true (.aP 2 (.t 3)),.g 229 226 true (.load none (.t 228)),.g 230 226 true (.bp 1 (.t 229) .w),.g 231 226 true (.load none (.t 230)),.g 232 226 true (.call (.f 35) [.t 227,.t 231]),.g 233 226 true (.un .not (.t 232)),.d 234 226 233] (.i 234 (.mP [.a 235 3 2,.j 236 235,.m 237 7,.o 238 (.bo 1 0 [.str []] []),.m 239 8,.o 240 (.app 1 16 (.t 238) (.t 239)),.a 241 2 3,.j 242 241,.o 243 (.bp 1 (.t 242) .w),.j 244 243,.o 245 (.bo 1 1 [.str []] [(0,.t 244)]),.o 246 (.app 1 16 (.t 240) (.t 245)),.h 247 3 236 237,.a 248 2 247,.s 1 248 246]) .skip)))) (.ops [.m 212 7,.v 213 .add 212 .w,.m 7 213])))))))) (.s [.y 18 (.load (some 7) (.t 2)),.y 19 (.aP 2 (.t 3)),.j 20 19,.y 21 (.bp 1 (.t 20) .z),.j 22 21,.c 23 28 [.t 18,.t 22],.m 9 23] (.s [.r 24 7 2,.a 25 2 3,.l 26 25,.c 27 127 [.t 24,.t 26],.m 10 27] (.seq (.s [.a 28 1 2,.l 29 28,.m 30 9,.h 31 3 29 30,.a 32 2 31,.l 33 32] (.j 33 [.r 34 7 2,.s 7 4 34,.o 5 (.bV (.n 23))])) (.seq (.s [.m 35 10,.n 36 35,.a 37 1 2,.l 38 37,.m 39 9,.h 40 3 38 39,.a 41 1 40,.l 42 41,.u 43 .lss 36 42] (.j 43 [.r 44 7 2,.s 7 4 44,.o 5 (.bV (.n 16))])) (.seq (.s [.o 11 (.bV .z)] (.block 1 (.loop (.seq (.s [.m 45 11,.m 46 10,.n 47 46,.u 48 .lss 45 47] (.i 48 .skip (.exit 1))) (.seq (.block 2 (.s [.y 51 (.load (some 7) (.t 2)),.y 52 (.aP 3 (.t 2)),.j 53 52,.y 54 (.load (some 7) (.t 2)),.w 55 10,.w 56 11,.y 57 (.bp 1 (.t 55) (.t 56)),.j 58 57,.y 59 (.call (.f 22) [.t 54,.t 58]),.y 60 (.bp 3 (.t 53) (.t 59)),.y 61 (.load (some 3) (.t 60)),.w 62 6,.c 63 23 [.t 51,.t 61,.t 62],.o 64 (.un .not (.t 63))] (.j 64 [.r 65 7 2,.s 7 4 65,.o 5 (.bV (.n 30))]))) (.ops [.m 49 11,.v 50 .add 49 .w,.m 11 50])))))) (.ops [.a 66 1 2,.l 67 66,.m 68 9,.h 69 3 67 68,.a 70 2 69,.x (.store 1 (.t 70) .T)])))))))))))))))) (.r [.r 249 7 2,.s 7 4 249,.o 5 (.bV .z)]))))⟩
def fn226:au:=⟨96,2,[(4,some (some 7)),(5,none)],(.s [.p 2 0,.p 3 1,.o 4 (.box (.c (.agg [.int .i64 0,.af,.af,.af,.af,.af,.af]))),.o 5 (.bV .z)] (.s [.y 9 (.aP 2 (.t 3)),.j 10 9,.y 11 (.bp 1 (.t 10) .z),.j 12 11,.y 13 (.bo 1 0 [.str []] []),.y 14 (.aP 2 (.t 3)),.j 15 14,.y 16 (.sl 1 (.t 15) (some .w) none),.y 17 (.app 1 16 (.t 13) (.t 16)),.y 18 (.build [.str [],.str [],.str [],.af] [(0,1,.t 12),(3,1,.t 17)]),.y 6 (.box (.c (.agg [.str [],.str [],.str [],.af]))),.s 4 6 18] (.seq (.s [.a 19 1 3,.l 20 19] (.block 0 (.s [.v 49 .eql 20 (.c (.str [115,111,117,114,99,101])),.m 48 49] (.i 48 (.mP [.a 50 2 3,.j 51 50,.o 52 (.bp 1 (.t 51) .w),.j 53 52,.a 54 1 6,.x (.store 1 (.t 54) (.c (.str [115,104,111,116,115]))),.a 55 2 6,.s 1 55 53,.a 56 3 6,.x (.store 1 (.t 56) (.c .af))]) (.s [.v 58 .eql 20 (.c (.str [109,111,100,117,108,101])),.m 57 58] (.i 57 (.seq (.s [.a 59 3 3,.l 60 59,.o 61 (.bp 1 (.t 60) .w),.l 62 61,.c 63 20 [.t 62,.w,.n 4]] (.j 63 [.r 64 7 2,.s 7 4 64,.o 5 (.bV (.n 13))])) (.s [.a 66 3 3,.l 67 66,.o 68 (.bp 1 (.t 67) .w),.l 69 68,.c 70 263 [.t 69],.m 65 70,.e 71 65 0,.e 72 65 1,.m 7 71,.m 8 72] (.seq (.s [.y 73 (.load (some 7) (.t 2)),.y 74 (.aP 2 (.t 3)),.j 75 74,.y 76 (.bp 1 (.t 75) .w),.j 77 76,.y 78 (.call (.f 264) [.t 73,.t 77]),.w 79 7,.u 80 .neq 78 79] (.j 80 [.r 81 7 2,.s 7 4 81,.o 5 (.bV (.n 2))])) (.ops [.m 82 8,.a 83 1 6,.s 1 83 82])))) (.seq (.s [.y 21 (.aP 2 (.t 3)),.j 22 21,.y 23 (.bp 1 (.t 22) .w),.j 24 23,.y 25 (.aP 2 (.t 3)),.j 26 25,.y 27 (.bp 1 (.t 26) (.n 2)),.j 28 27,.u 29 .eql 24 28] (.j 29 [.r 30 7 2,.s 7 4 30,.o 5 (.bV (.n 24))])) (.s [.y 31 (.load (some 7) (.t 2)),.y 32 (.aP 2 (.t 3)),.j 33 32,.y 34 (.bp 1 (.t 33) .w),.j 35 34,.c 36 264 [.t 31,.t 35],.a 37 1 6,.s 1 37 36] (.s [.y 38 (.load (some 7) (.t 2)),.y 39 (.aP 2 (.t 3)),.j 40 39,.y 41 (.bp 1 (.t 40) (.n 2)),.j 42 41,.y 43 (.call (.f 264) [.t 38,.t 42]),.y 44 (.aP 1 (.t 6)),.j 45 44,.u 46 .neq 43 45] (.j 46 [.r 47 7 2,.s 7 4 47,.o 5 (.bV (.n 2))])))))))))) (.seq (.s [.a 84 4 2,.l 85 84,.n 86 85,.v 87 .geq 86 (.n 32)] (.j 87 [.r 88 7 2,.s 7 4 88,.o 5 (.bV (.n 5))])) (.s [.a 89 4 2,.l 90 89,.r 91 4 6,.o 92 (.bo 4 1 [.str [],.str [],.str [],.af] [(0,.t 91)]),.o 93 (.app 4 72 (.t 90) (.t 92)),.a 94 4 2,.s 1 94 93] (.r [.r 95 7 2,.s 7 4 95,.o 5 (.bV .z)]))))))⟩
def fn227:au:=⟨223,2,[(4,some (some 7)),(5,none)],(.s [.p 2 0,.p 3 1,.o 4 (.box (.c (.agg [.int .i64 0,.af,.af,.af,.af,.af,.af]))),.o 5 (.bV .z)] (.seq (.s [.a 14 1 3,.l 15 14] (.block 0 (.s [.v 35 .eql 15 (.c (.str [114,117,110])),.m 34 35] (.i 34 (.s [.y 36 (.load (some 7) (.t 2)),.y 37 (.aP 2 (.t 3)),.j 38 37,.y 39 (.bp 1 (.t 38) .w),.j 40 39,.c 41 59 [.t 36,.t 40],.m 6 41] (.seq (.s [.o 7 (.bV .z)] (.block 1 (.loop (.seq (.s [.m 42 7,.m 43 6,.n 44 43,.u 45 .lss 42 44] (.i 45 .skip (.exit 1))) (.seq (.block 2 (.s [.y 48 (.aP 1 (.t 2)),.j 49 48,.y 50 (.load (some 7) (.t 2)),.w 51 6,.w 52 7,.y 53 (.bp 1 (.t 51) (.t 52)),.j 54 53,.y 55 (.call (.f 28) [.t 50,.t 54]),.h 56 3 49 55,.a 57 2 56,.l 58 57,.o 59 (.un .not (.t 58))] (.j 59 [.r 60 7 2,.s 7 4 60,.o 5 (.bV (.n 32))]))) (.ops [.m 46 7,.v 47 .add 46 .w,.m 7 47])))))) (.seq (.s [.a 61 3 3,.l 62 61,.o 63 (.bp 1 (.t 62) .w),.l 64 63,.c 65 20 [.t 64,.w,.n 32]] (.j 65 [.r 66 7 2,.s 7 4 66,.o 5 (.bV (.n 3))])) (.seq (.s [.a 67 5 2,.l 68 67,.n 69 68,.v 70 .geq 69 (.n 16)] (.j 70 [.r 71 7 2,.s 7 4 71,.o 5 (.bV (.n 5))])) (.s [.y 72 (.aP 2 (.t 3)),.j 73 72,.y 74 (.bp 1 (.t 73) .z),.j 75 74,.y 76 (.aP 2 (.t 3)),.j 77 76,.y 78 (.bp 1 (.t 77) .w),.j 79 78,.y 80 (.build [.str [],.str [],.af] [(0,1,.t 75),(1,1,.t 79)]),.y 8 (.box (.c (.agg [.str [],.str [],.af]))),.s 3 8 80] (.seq (.s [.o 9 (.bV .z)] (.block 3 (.loop (.seq (.s [.m 81 9,.a 82 3 3,.l 83 82,.o 84 (.bp 1 (.t 83) .w),.l 85 84,.u 86 .lss 81 85] (.i 86 .skip (.exit 3))) (.seq (.block 4 (.ops [.a 89 2 8,.l 90 89,.o 91 (.bo 1 1 [.int .i64 0] [(0,(.n (-1)))]),.o 92 (.app 1 8 (.t 90) (.t 91)),.a 93 2 8,.s 1 93 92])) (.ops [.m 87 9,.v 88 .add 87 .w,.m 9 88])))))) (.ops [.a 94 5 2,.l 95 94,.r 96 3 8,.o 97 (.bo 3 1 [.str [],.str [],.af] [(0,.t 96)]),.o 98 (.app 3 56 (.t 95) (.t 97)),.a 99 5 2,.s 1 99 98]))))))) (.seq (.s [.v 101 .eql 15 (.c (.str [116,105,108,101])),.m 100 101] (.i 100 .skip (.ops [.v 102 .eql 15 (.c (.str [102,97,105,108])),.m 100 102]))) (.i 100 (.s [.y 103 (.load (some 7) (.t 2)),.y 104 (.aP 2 (.t 3)),.j 105 104,.y 106 (.bp 1 (.t 105) .z),.j 107 106,.c 108 56 [.t 103,.t 107],.m 10 108] (.seq (.s [.y 109 (.load (some 7) (.t 2)),.y 110 (.aP 2 (.t 3)),.j 111 110,.y 112 (.bp 1 (.t 111) .z),.j 113 112,.c 114 265 [.t 109,.t 113]] (.j 114 [.r 115 7 2,.s 7 4 115,.o 5 (.bV (.n 23))])) (.s [.a 116 3 3,.l 117 116,.o 118 (.bp 1 (.t 117) .w),.l 119 118,.m 11 119] (.seq (.s [.m 120 11,.a 121 5 2,.l 122 121,.m 123 10,.h 124 3 122 123,.a 125 2 124,.l 126 125,.n 127 126,.u 128 .geq 120 127] (.j 128 [.r 129 7 2,.s 7 4 129,.o 5 (.bV (.n 3))])) (.seq (.s [.a 130 1 3,.l 131 130,.v 132 .eql 131 (.c (.str [102,97,105,108]))] (.i 132 (.seq (.s [.a 133 5 2,.l 134 133,.m 135 10,.h 136 3 134 135,.a 137 2 136,.l 138 137,.m 139 11,.h 140 1 138 139,.l 141 140,.v 142 .lss 141 .z] (.j 142 [.r 143 7 2,.s 7 4 143,.o 5 (.bV (.n 7))])) (.s [.a 144 5 2,.l 145 144,.m 146 10,.h 147 3 145 146,.a 148 2 147,.l 149 148,.m 150 11,.h 151 1 149 150,.x (.store 1 (.t 151) (.n (-1)))] (.r [.r 152 7 2,.s 7 4 152,.o 5 (.bV .z)]))) .skip)) (.seq (.s [.a 153 5 2,.l 154 153,.m 155 10,.h 156 3 154 155,.a 157 2 156,.l 158 157,.m 159 11,.h 160 1 158 159,.l 161 160,.v 162 .geq 161 .z] (.j 162 [.r 163 7 2,.s 7 4 163,.o 5 (.bV (.n 9))])) (.ops [.y 164 (.aP 5 (.t 2)),.j 165 164,.w 166 10,.y 167 (.bp 3 (.t 165) (.t 166)),.y 168 (.aP 2 (.t 167)),.j 169 168,.w 170 11,.y 171 (.aP 3 (.t 3)),.j 172 171,.y 173 (.bp 1 (.t 172) (.n 2)),.j 174 173,.h 175 1 169 170,.s 1 175 174]))))))) (.s [.v 177 .eql 15 (.c (.str [112,105,99,116,117,114,101])),.m 176 177] (.i 176 (.s [.y 178 (.aP 5 (.t 2)),.j 179 178,.y 180 (.load (some 7) (.t 2)),.y 181 (.aP 2 (.t 3)),.j 182 181,.y 183 (.bp 1 (.t 182) .w),.j 184 183,.y 185 (.call (.f 56) [.t 180,.t 184]),.y 186 (.bp 3 (.t 179) (.t 185)),.y 187 (.load (some 3) (.t 186)),.y 12 (.box (.c (.agg [.str [],.str [],.af]))),.s 3 12 187] (.seq (.s [.y 188 (.load (some 7) (.t 2)),.y 189 (.aP 2 (.t 3)),.j 190 189,.y 191 (.bp 1 (.t 190) .w),.j 192 191,.c 193 265 [.t 188,.t 192]] (.j 193 [.r 194 7 2,.s 7 4 194,.o 5 (.bV (.n 23))])) (.seq (.s [.r 195 3 12,.c 196 60 [.t 195],.n 197 196,.v 198 .gtr 197 .z] (.j 198 [.r 199 7 2,.s 7 4 199,.o 5 (.bV (.n 32))])) (.seq (.s [.a 200 6 2,.l 201 200,.n 202 201,.v 203 .geq 202 (.n 16)] (.j 203 [.r 204 7 2,.s 7 4 204,.o 5 (.bV (.n 5))])) (.ops [.y 205 (.aP 6 (.t 2)),.j 206 205,.y 207 (.aP 2 (.t 3)),.j 208 207,.y 209 (.bp 1 (.t 208) .z),.j 210 209,.y 211 (.aP 2 (.t 3)),.j 212 211,.y 213 (.bp 1 (.t 212) .w),.j 214 213,.y 215 (.aP 2 (.t 12)),.j 216 215,.y 217 (.call (.f 31) [.t 216]),.y 218 (.build [.str [],.str [],.int .i64 0,.bool false] [(0,1,.t 210),(1,1,.t 214),(2,1,.t 217),(3,1,.F)]),.y 219 (.bo 4 1 [.str [],.str [],.int .i64 0,.bool false] [(0,.t 218)]),.o 220 (.app 4 48 (.t 206) (.t 219)),.a 221 6 2,.s 1 221 220]))))) (.s [.y 16 (.load (some 7) (.t 2)),.y 17 (.aP 2 (.t 3)),.j 18 17,.y 19 (.bp 1 (.t 18) .z),.j 20 19,.c 21 57 [.t 16,.t 20],.m 13 21] (.seq (.s [.a 22 6 2,.l 23 22,.m 24 13,.h 25 4 23 24,.a 26 3 25,.l 27 26] (.j 27 [.r 28 7 2,.s 7 4 28,.o 5 (.bV (.n 23))])) (.ops [.a 29 6 2,.l 30 29,.m 31 13,.h 32 4 30 31,.a 33 3 32,.x (.store 1 (.t 33) .T)]))))))))))) (.r [.r 222 7 2,.s 7 4 222,.o 5 (.bV .z)])))⟩
def fn228:au:=gA 228
def fn229:au:=gA 229
def fn230:au:=gA 230
def fn231:au:=gA 231
def fn232:au:=gA 232
def fn233:au:=gA 233
def fn234:au:=gA 234
def fn235:au:=gA 235
def fn236:au:=gA 236
def fn237:au:=gA 237
def fn238:au:=gA 238
def fn239:au:=gA 239
def fn240:au:=gA 240
def fn241:au:=gA 241
def fn242:au:=gA 242
def fn243:au:=gA 243
def fn244:au:=gA 244
def fn245:au:=gA 245
def fn246:au:=gA 246
def fn247:au:=gA 247
def fn248:au:=gA 248
def fn249:au:=⟨28,2,[(4,none)],(.s [.p 2 0,.p 3 1,.o 4 (.bV .z)] (.r [.y 5 (.load (some 7) (.t 2)),.y 6 (.aP 2 (.t 3)),.j 7 6,.y 8 (.bp 1 (.t 7) .z),.j 9 8,.y 10 (.call (.f 251) [.t 5,.t 9]),.y 11 (.call (.f 85) [.t 10,.n 23]),.y 12 (.aP 3 (.t 3)),.j 13 12,.y 14 (.bp 1 (.t 13) .w),.j 15 14,.y 16 (.load (some 7) (.t 2)),.y 17 (.aP 2 (.t 3)),.j 18 17,.y 19 (.bp 1 (.t 18) .z),.j 20 19,.y 21 (.call (.f 124) [.t 16,.t 20]),.y 22 (.part none 2 (.t 21)),.y 23 (.len .sl (.t 22)),.y 24 (.bin .sub (.t 23) .w),.c 25 94 [.t 15,.z,.t 24],.o 26 (.bo 1 2 [.int .i64 0] [(0,.t 11),(1,.t 25)]),.c 27 74 [.t 26],.m 4 27]))⟩
def fn250:au:=⟨28,3,[],(.s [.p 4 1] (.ops [.w 6 0,.y 7 (.bS (.t 6)),.y 8 (.aP 5 (.t 7)),.j 9 8,.w 10 0,.y 11 (.bS (.t 10)),.y 12 (.aP 5 (.t 11)),.j 13 12,.y 14 (.aP 2 (.t 4)),.j 15 14,.y 16 (.bp 1 (.t 15) .z),.j 17 16,.y 18 (.call (.f 145) [.t 13,.t 17]),.y 19 (.bp 3 (.t 9) (.t 18)),.y 20 (.aP 2 (.t 19)),.j 21 20,.y 22 (.aP 3 (.t 4)),.j 23 22,.y 24 (.bp 1 (.t 23) .w),.j 25 24,.w 26 2,.h 27 1 21 25,.s 1 27 26]))⟩
def fn251:au:=gA 251
def fn252:au:=gA 252
def fn253:au:=gA 253
def fn254:au:=gA 254
def fn255:au:=gA 255
def fn259:au:=gA 259
def fn263:au:=gA 263
def fn264:au:=⟨13,2,[(4,none)],(.s [.p 2 0,.o 4 (.bV (.c (.str [])))] (.r [.y 5 (.aP 4 (.t 2)),.j 6 5,.y 7 (.load (some 7) (.t 2)),.w 8 1,.y 9 (.call (.f 55) [.t 7,.t 8]),.h 10 4 6 9,.a 11 1 10,.l 12 11,.m 4 12]))⟩
def fn265:au:=gA 265
def fn266:au:=gA 266
def fn267:au:=gA 267
def fn268:au:=gA 268
def GI:au:=⟨8,1,[(3,none)],(.s [.p 2 0,.o 3 (.bV .F)] (.r [.a 4 1 2,.l 5 4,.l 6 1,.u 7 .eql 5 6,.m 3 7]))⟩
def fn269:au:=GI
def Lm(x0:Nat):au:=⟨8,2,[(4,none)],(.s [.o 4 (.bV .z)] (.r [.m 5 0,.m 6 1,.c 7 x0 [.t 5,.t 6],.m 4 7]))⟩
def fn272:au:=Lm 288
def fn286:au:=gA 286
def fn322:au:=gA 322
def fn323:au:=gA 323
def fn324:au:=gA 324
abbrev Cf(P:Program)(n:Nat)(A:au):Prop:=bT P n=some A
structure fq(P:Program):Prop where
 mix:P.follows .mixedOrders=true
 m123:jf P 78 "moveout/house.name" =some 123
 m322:jf P 73 "moveout/house.name" =some 322
 m140:jf P 74 "moveout/house.name" =some 140
 m120:jf P 134 "moveout/house.name" =some 120
 m324:jf P 136 "moveout/house.name" =some 324
 m323:jf P 130 "moveout/house.name" =some 323
 c2:Cf P 2 fn2
 c3:Cf P 3 fn3
 c4:Cf P 4 fn4
 c8:Cf P 8 fn8
 c14:Cf P 14 fn14
 c15:Cf P 15 fn15
 c16:Cf P 16 fn16
 c17:Cf P 17 fn17
 c18:Cf P 18 fn18
 c19:Cf P 19 fn19
 c20:Cf P 20 fn20
 c21:Cf P 21 fn21
 c22:Cf P 22 fn22
 c23:Cf P 23 fn23
 c24:Cf P 24 fn24
 c25:Cf P 25 fn25
 c26:Cf P 26 fn26
 c27:Cf P 27 fn27
 c28:Cf P 28 fn28
 c31:Cf P 31 fn31
 c32:Cf P 32 fn32
 c33:Cf P 33 fn33
 c34:Cf P 34 fn34
 c35:Cf P 35 fn35
 c37:Cf P 37 fn37
 c39:Cf P 39 fn39
 c43:Cf P 43 fn43
 c44:Cf P 44 fn44
 c45:Cf P 45 fn45
 c46:Cf P 46 fn46
 c47:Cf P 47 fn47
 c48:Cf P 48 fn48
 c49:Cf P 49 fn49
 c50:Cf P 50 fn50
 c51:Cf P 51 fn51
 c55:Cf P 55 fn55
 c56:Cf P 56 fn56
 c57:Cf P 57 fn57
 c58:Cf P 58 fn58
 c59:Cf P 59 fn59
 c60:Cf P 60 fn60
 c62:Cf P 62 fn62
 c64:Cf P 64 fn64
 c67:Cf P 67 fn67
 c70:Cf P 70 fn70
 c71:Cf P 71 fn71
 c72:Cf P 72 fn72
 c73:Cf P 73 fn73
 c74:Cf P 74 fn74
 c75:Cf P 75 fn75
 c76:Cf P 76 fn76
 c77:Cf P 77 fn77
 c78:Cf P 78 fn78
 c79:Cf P 79 fn79
 c80:Cf P 80 fn80
 c81:Cf P 81 fn81
 c82:Cf P 82 fn82
 c83:Cf P 83 fn83
 c84:Cf P 84 fn84
 c85:Cf P 85 fn85
 c86:Cf P 86 fn86
 c87:Cf P 87 fn87
 c88:Cf P 88 fn88
 c89:Cf P 89 fn89
 c90:Cf P 90 fn90
 c91:Cf P 91 fn91
 c92:Cf P 92 fn92
 c93:Cf P 93 fn93
 c94:Cf P 94 fn94
 c95:Cf P 95 fn95
 c96:Cf P 96 fn96
 c97:Cf P 97 fn97
 c98:Cf P 98 fn98
 c99:Cf P 99 fn99
 c101:Cf P 101 fn101
 c102:Cf P 102 fn102
 c108:Cf P 108 fn108
 c109:Cf P 109 fn109
 c110:Cf P 110 fn110
 c111:Cf P 111 fn111
 c112:Cf P 112 fn112
 c113:Cf P 113 fn113
 c114:Cf P 114 fn114
 c115:Cf P 115 fn115
 c116:Cf P 116 fn116
 c117:Cf P 117 fn117
 c118:Cf P 118 fn118
 c119:Cf P 119 fn119
 c120:Cf P 120 fn120
 c121:Cf P 121 fn121
 c122:Cf P 122 fn122
 c123:Cf P 123 fn123
 c124:Cf P 124 fn124
 c125:Cf P 125 fn125
 c126:Cf P 126 fn126
 c127:Cf P 127 fn127
 c128:Cf P 128 fn128
 c129:Cf P 129 fn129
 c130:Cf P 130 fn130
 c131:Cf P 131 fn131
 c132:Cf P 132 fn132
 c133:Cf P 133 fn133
 c134:Cf P 134 fn134
 c135:Cf P 135 fn135
 c136:Cf P 136 fn136
 c137:Cf P 137 fn137
 c138:Cf P 138 fn138
 c139:Cf P 139 fn139
 c140:Cf P 140 fn140
 c141:Cf P 141 fn141
 c142:Cf P 142 fn142
 c143:Cf P 143 fn143
 c144:Cf P 144 fn144
 c145:Cf P 145 fn145
 c146:Cf P 146 fn146
 c147:Cf P 147 fn147
 c148:Cf P 148 fn148
 c149:Cf P 149 fn149
 c150:Cf P 150 fn150
 c151:Cf P 151 fn151
 c152:Cf P 152 fn152
 c153:Cf P 153 fn153
 c154:Cf P 154 fn154
 c155:Cf P 155 fn155
 c156:Cf P 156 fn156
 c157:Cf P 157 fn157
 c158:Cf P 158 fn158
 c159:Cf P 159 fn159
 c160:Cf P 160 fn160
 c161:Cf P 161 fn161
 c162:Cf P 162 fn162
 c163:Cf P 163 fn163
 c164:Cf P 164 fn164
 c165:Cf P 165 fn165
 c166:Cf P 166 fn166
 c167:Cf P 167 fn167
 c168:Cf P 168 fn168
 c169:Cf P 169 fn169
 c170:Cf P 170 fn170
 c171:Cf P 171 fn171
 c172:Cf P 172 fn172
 c173:Cf P 173 fn173
 c174:Cf P 174 fn174
 c175:Cf P 175 fn175
 c176:Cf P 176 fn176
 c177:Cf P 177 fn177
 c178:Cf P 178 fn178
 c179:Cf P 179 fn179
 c180:Cf P 180 fn180
 c181:Cf P 181 fn181
 c182:Cf P 182 fn182
 c183:Cf P 183 fn183
 c184:Cf P 184 fn184
 c185:Cf P 185 fn185
 c186:Cf P 186 fn186
 c187:Cf P 187 fn187
 c188:Cf P 188 fn188
 c189:Cf P 189 fn189
 c190:Cf P 190 fn190
 c193:Cf P 193 fn193
 c194:Cf P 194 fn194
 c195:Cf P 195 fn195
 c197:Cf P 197 fn197
 c198:Cf P 198 fn198
 c199:Cf P 199 fn199
 c200:Cf P 200 fn200
 c201:Cf P 201 fn201
 c202:Cf P 202 fn202
 c203:Cf P 203 fn203
 c204:Cf P 204 fn204
 c205:Cf P 205 fn205
 c206:Cf P 206 fn206
 c207:Cf P 207 fn207
 c208:Cf P 208 fn208
 c213:Cf P 213 fn213
 c214:Cf P 214 fn214
 c215:Cf P 215 fn215
 c216:Cf P 216 fn216
 c217:Cf P 217 fn217
 c218:Cf P 218 fn218
 c219:Cf P 219 fn219
 c221:Cf P 221 fn221
 c222:Cf P 222 fn222
 c223:Cf P 223 fn223
 c224:Cf P 224 fn224
 c225:Cf P 225 fn225
 c226:Cf P 226 fn226
 c227:Cf P 227 fn227
 c228:Cf P 228 fn228
 c229:Cf P 229 fn229
 c230:Cf P 230 fn230
 c231:Cf P 231 fn231
 c232:Cf P 232 fn232
 c233:Cf P 233 fn233
 c234:Cf P 234 fn234
 c235:Cf P 235 fn235
 c236:Cf P 236 fn236
 c237:Cf P 237 fn237
 c238:Cf P 238 fn238
 c239:Cf P 239 fn239
 c240:Cf P 240 fn240
 c241:Cf P 241 fn241
 c242:Cf P 242 fn242
 c243:Cf P 243 fn243
 c244:Cf P 244 fn244
 c245:Cf P 245 fn245
 c246:Cf P 246 fn246
 c247:Cf P 247 fn247
 c248:Cf P 248 fn248
 c249:Cf P 249 fn249
 c250:Cf P 250 fn250
 c251:Cf P 251 fn251
 c252:Cf P 252 fn252
 c253:Cf P 253 fn253
 c254:Cf P 254 fn254
 c255:Cf P 255 fn255
 c259:Cf P 259 fn259
 c263:Cf P 263 fn263
 c264:Cf P 264 fn264
 c265:Cf P 265 fn265
 c266:Cf P 266 fn266
 c267:Cf P 267 fn267
 c268:Cf P 268 fn268
 c269:Cf P 269 fn269
 c272:Cf P 272 fn272
 c286:Cf P 286 fn286
 c322:Cf P 322 fn322
 c323:Cf P 323 fn323
 c324:Cf P 324 fn324
end Go.Abs
