/- A part of the proof that HouseGraphs holds. No condition. -/
import Derived.Test.YtgplmdgpmbegiaaGreatDoorGa3
import Derived.Test.YtgplmdgpmbegiaaGreatDoorGa0
set_option linter.all false
namespace Go.Abs
def Ext(h h':ah):Prop:=∃g,h' =h++g
def Ext.refl(h:ah):Ext h h:=⟨[],Si⟩
def Ext.app{h k}(g:ah)(e:Ext h k):Ext h (k++g):=by
 obtain⟨x,rfl⟩:=e;exact⟨x++g,Si⟩
def Ext.trans{a b c}(h:Ext a b)(k:Ext b c):Ext a c:=by
 obtain⟨x,rfl⟩:=h;obtain⟨y,rfl⟩:=k;exact⟨x++y,Si⟩
def Ext.get{h k}(e:Ext h k){b}(hb:b<h.length):k[b]? =h[b]? :=by
 obtain⟨x,rfl⟩:=e;exact XW hb
theorem Ext.some{h k:ah}(e:Ext h k){b:Nat}{x:ak}(hb:h[b]? =some x):k[b]? =some x:=by
 rw[e.get (XT.1 hb).1];exact hb
def Ext.len{h k}(e:Ext h k):h.length<=k.length:=by
 obtain⟨x,rfl⟩:=e;simp
def tL(P:Program)(q:Bool)(fv:AV)(args:List AV)(h:ah)(K:AV->ah->Prop):Prop:=
 ∃v h',fg P fv args h v h'/\(q=true->Ext h h')/\K v h'
def iH.quiet:iH->Bool
 |.au=>true
 |.push _=>true
 |_=>false
def iH.zE{e:iH}{h:ah}(he:e.quiet=true):Ext h (e.app h):=by
 cases e with
 |au=>exact Ext.refl h
 |push k=>exact⟨[k],rfl⟩
 |set b k=>cases he
 |nP b k k'=>cases he
def WK(P:Program)(q:Bool)(k:o6)(ρ:c6->AV)(h:ah)(K:AV->ah->Prop):Prop:=
 match k with
 |.call f args=>tL P q (ρ f) (args.map ρ) h K
 |k=>
  match stepT k ρ (λb=>h[b]?) h.length with
  |some (v,e)=>(q=true->e.quiet=true)/\K v (e.app h)
  |none=>False
def Ce(d:Option Nat)(k:o6)(n:Nat)(X:Prop):Prop:=
 match k,d with
 |.nw _ _,some d=>d<n/\X
 |_,_=>X
def qB{d k n}{X:Prop}:Ce d k n X↔yT d k n/\X:=by
 cases k<;>cases d<;>simp[Ce,yT]
def Ce.mono{d k n}{X Y:Prop}(h:X->Y)(x:Ce d k n X):Ce d k n Y:=qB.2 ⟨(qB.1 x).1,h (qB.1 x).2⟩
def WS(P:Program)(o:bI)(ts:TS)(h:ah)(K:AV->ah->Prop):Prop:=
 match o.gd with
 |none=>Ce o.dst o.k ts.length (WK P o.q o.k (val ts) h K)
 |some (t,b)=>
  match val ts (.t t)with
  |.bool c=>if c=b then Ce o.dst o.k ts.length (WK P o.q o.k (val ts) h K)else K az h
  |_=>K az h
def WO(P:Program):List bI->TS->ah->(TS->ah->Prop)->Prop
 |[],ts,h,Q=>Q ts h
 |o::r,ts,h,Q=>WS P o ts h (λv h1=>WO P r (put ts o.dst v) h1 Q)
def WK.sound{P:Program}{q:Bool}{k:o6}{ρ:c6->AV}{h:ah}{K:AV->ah->Prop}(H:WK P q k ρ h K):∃v h',pL P k ρ h v h'/\(q=true->Ext h h')/\K v h':=by
 by_cases hc:∃f args,k=.call f args
 ·obtain⟨f,args,rfl⟩:=hc;exact H
 ·have H':(match stepT k ρ (λb=>h[b]?) h.length with
   |some (v,e)=>(q=true->e.quiet=true)/\K v (e.app h)
   |none=>False):=by
   exact Ja
  split at H'
  case h_2=>exact H'.elim
  rename_i v e he;refine⟨v,e.app h,?_,λhq=>iH.zE (H'.1 hq),H'.2⟩;have:=nK he;cases k<;>first|exact this|exact absurd ⟨_,_,rfl⟩ hc
theorem WS.sound{P o ts h K}(H:WS P o ts h K):∃v h',dD P o ts h (put ts o.dst v) h'/\(o.q=true->∃g,h' =h++g)/\K v h':=by
 have run:wanted o.gd ts->Ce o.dst o.k ts.length (WK P o.q o.k (val ts) h K)->∃v h',dD P o ts h (put ts o.dst v) h'/\(o.q=true->∃g,h' =h++g)/\K v h':=λhw hk=>by
  obtain⟨hb,hk⟩:=qB.1 hk;obtain⟨v,h',h1,h2,h3⟩:=hk.sound;exact⟨v,h',.run hw hb h1,h2,h3⟩
 have skip:¬wanted o.gd ts->K az h->∃v h',dD P o ts h (put ts o.dst v) h'/\(o.q=true->∃g,h' =h++g)/\K v h':=λhw hk=>
  ⟨az,h,.skip hw,λ_=>Ext.refl h,hk⟩
 unfold WS at H;split at H
 ·rename_i hg;exact run (by rw[hg];trivial) H
 ·rename_i t b hg;split at H
  ·rename_i c hv;have hx:ts[t]? =some (.bool c):=by
    simp only[val,List.getD]at hv;cases hy:ts[t]? with
    |none=>rw[hy]at hv;cases hv
    |some z=>rw[hy]at hv;simp only[Z8]at hv;rw[hv]
   split at H
   ·rename_i hcb;subst hcb;exact run (by rw[hg];exact hx) H
   ·rename_i hcb;refine skip (λhw=>hcb ?_) H;rw[hg]at hw;simp only[wanted,hx,Yq,AV.bool.injEq]at hw;exact hw
  ·rename_i hv;refine skip (λhw=>?_) H;rw[hg]at hw;simp only[wanted]at hw;exact hv b (by simp[val,List.getD,hw])
theorem WO.sound{P}:∀{l}{ts}{h}{Q},WO P l ts h Q->∃ts' h',yi P l ts h ts' h'/\Q ts' h'
 |[],ts,h,Q,H=>⟨ts,h,⟨rfl,rfl⟩,H⟩
 |o::r,ts,h,Q,H=>by
  obtain⟨v,h1,h2,h3,h4⟩:=WS.sound H;obtain⟨ts',h',h5,h6⟩:=WO.sound (l:=r) h4;exact⟨ts',h',⟨_,h1,h2,h3,h5⟩,h6⟩
def WM(P:Program)(S:ah->Prop):List bI->TS->ah->(TS->ah->Prop)->Prop
 |[],ts,h,K=>S h/\K ts h
 |o::r,ts,h,K=>S h/\((ko (o::r)=true/\WO P (o::r) ts h K)\/(ko (o::r)=false/\
   ((mI o=true/\∃v,(∀g,S g->dD P o ts g (put ts o.dst v) g)/\WM P S r (put ts o.dst v) h K)\/(mI o=false/\WS P o ts h (λv h1=>WM P S r (put ts o.dst v) h1 K)))))
theorem WM.sound{P S}:∀{l}{ts}{h}{K},WM P S l ts h K->∃T H,Row P l T H/\T 0=ts/\H 0=h/\(∀(i:Nat) (io:bI),l[i]? =some io->mI io=true->∀g,S g->dD P io (T i) g (T (i+1)) g)/\(∀θ,θ<=dK l->S (H θ))/\K (T l.length) (H l.length)
 |[],ts,h,K,H=>⟨λ_=>ts,λ_=>h,⟨λi o ho=>by simp at ho⟩,rfl,rfl,λi io ho=>by simp at ho,λ_ _=>H.1,H.2⟩
 |o::r,ts,h,K,H=>by
  obtain⟨h0,H⟩:=H;rcases H with⟨hall,H⟩|⟨hall,H⟩
  ·obtain⟨ts',h',h1,h2⟩:=WO.sound H;obtain⟨T,G,rfl,rfl,rfl,rfl,r5⟩:=h1.row;refine⟨T,G,r5,rfl,rfl,λi io hio hld=>?_,λθ hθ=>?_,h2⟩
   ·have:=Yw.1 (Bool.and_eq_true_iff.1 hall).1 io (YO hio);unfold mI at hld;unfold B7 at this;cases hk:io.k<;>rw[hk]at hld this<;>simp[fA]at hld this
   ·rw[dK,X9 hall]at hθ;have:θ=0:=Om
    subst this;exact h0
  have key:∃v h1,dD P o ts h (put ts o.dst v) h1/\(o.q=true->∃g,h1=h++g)/\(mI o=true->∀g,S g->dD P o ts g (put ts o.dst v) g)/\WM P S r (put ts o.dst v) h1 K:=by
   rcases H with⟨hl,v,h1,h2⟩|⟨hl,H⟩
   ·exact⟨v,h,h1 h h0,λ_=>⟨[],Si⟩,λ_=>h1,h2⟩
   ·obtain⟨v,h1,h2,h3,h4⟩:=WS.sound H;refine⟨v,h1,h2,h3,λz=>?_,h4⟩;rw[hl]at z;cases z
  obtain⟨v,h1,k1,k2,k3,k4⟩:=key;obtain⟨T,G,r1,r2,r3,r4,r5,r6⟩:=WM.sound (l:=r) k4
  let T':Nat->TS:=λn=>match n with| 0=>ts|n+1=>T n
  let G':Nat->ah:=λn=>match n with| 0=>h|n+1=>G n
  refine⟨T',G',⟨λi o' ho=>?_⟩,rfl,rfl,λi io hio hld g hg=>?_,λθ hθ=>?_,r6⟩
  ·cases i with
   |zero=>
    simp only[Y8,Yq]at ho;subst ho;show dD P o ts h (T 0) (G 0)/\(o.q=true->∃g,G 0=h++g);rw[r2,r3];exact⟨k1,k2⟩
   |succ i=>exact r1.step i o' (by simpa using ho)
  ·cases i with
   |zero=>
    simp only[Y8,Yq]at hio;subst hio;show dD P o ts g (T 0) g;rw[r2];exact k3 hld g hg
   |succ i=>exact r4 i io (by simpa using hio) hld g hg
  ·cases θ with
   |zero=>exact h0
   |succ θ=>
    rw[dK,X5 (by rw[hall];decide)]at hθ;exact r5 θ Om
def W(P:Program)(ro:Option Nat->Prop):ai->TS->ah->(Ex->TS->ah->Prop)->Prop
 |.skip,ts,h,Q=>Q .normal ts h
 |.ops l,ts,h,Q=>WO P l ts h (Q .normal)
 |.sf l,ts,h,Q=>AM h l ts [] λts' cs=>eZ cs/\Q .normal ts' (dR h cs)
 |.lD l,ts,h,Q=>∃S,WM P S l ts h (Q .normal)
 |.seq a b,ts,h,Q=>W P ro a ts h λe Ss h1=>
  match e with
  |.normal=>W P ro b Ss h1 Q
  |.exit id=>Q (.exit id) Ss h1
  |.ret=>Q .ret Ss h1
 |.cond c a b,ts,h,Q=>
  match val ts c with
  |.bool t=>(t=true->W P ro a ts h Q)/\(t=false->W P ro b ts h Q)
  |_=>False
 |.block id a,ts,h,Q=>W P ro a ts h λe=>Q (e.inBlock id)
 |.loop a,ts,h,Q=>∃e ts' h',(∀r,ro r->tJ P r a ts h e ts' h')/\Q e ts' h'
 |.exit id,ts,h,Q=>Q (.exit id) ts h
 |.ret,ts,h,Q=>Q .ret ts h
 |.eQ g ps asg body,ts,h,Q=>∃e ts' h',(∀r,ro r->Ev P r (.eQ g ps asg body) ts h e ts' h')/\Q e ts' h'
 |.bad,_,_,_=>False
def bT:Option Nat->Prop:=λr=>r=none
def Cd:Option Nat->Prop:=λr=>∃l,r=some l
theorem W.sound{P}(hmix:P.follows .mixedOrders=true){ro}:∀{c}{ts}{h}{Q},W P ro c ts h Q->∃e ts' h',(∀r,ro r->Ev P r c ts h e ts' h')/\Q e ts' h'
 |.skip,ts,h,Q,H=>⟨.normal,ts,h,λ_ _=>.skip,H⟩
 |.ops l,ts,h,Q,H=>by
  obtain⟨ts',h',h1,h2⟩:=WO.sound (l:=l) H;exact⟨.normal,ts',h',λ_ _=>.ops hmix h1,h2⟩
 |.sf l,ts,h,Q,H=>by
  obtain⟨TQ,XQ,ts',h1,⟨h2,h3⟩,h4,h5⟩:=AM.sound (l:=l) H;rw[ZB]at h2 h3;exact⟨.normal,ts',dR h TQ,λ_ _=>.sf hmix h1 (by simpa using h4 [] [] (by simpa using h2)),by rw[h5];exact h3⟩
 |.lD l,ts,h,Q,H=>by
  obtain⟨S,H⟩:=H;obtain⟨T,G,r1,rfl,rfl,r4,r5,r6⟩:=WM.sound (l:=l) H;exact⟨.normal,_,_,λ_ _=>.lD hmix r1 λi io hio hld θ hθ=>r4 i io hio hld _ (r5 θ hθ),r6⟩
 |.seq a b,ts,h,Q,H=>by
  obtain⟨e,Ss,h1,h2,h3⟩:=W.sound hmix (c:=a) H;cases e with
  |normal=>
   obtain⟨e,ts',h',h4,h5⟩:=W.sound hmix (c:=b) h3;exact⟨e,ts',h',λr hr=>.seq (h2 r hr) (h4 r hr),h5⟩
  |exit id=>exact⟨_,Ss,h1,λr hr=>.uY (h2 r hr) Si,h3⟩
  |ret=>exact⟨_,Ss,h1,λr hr=>.uY (h2 r hr) Si,h3⟩
 |.cond c a b,ts,h,Q,H=>by
  unfold W at H;split at H
  case h_2=>exact H.elim
  rename_i t hv;cases t with
  |true=>
   obtain⟨e,ts',h',h4,h5⟩:=W.sound hmix (c:=a) (H.1 rfl);exact⟨e,ts',h',λr hr=>.cond hv (h4 r hr),h5⟩
  |false=>
   obtain⟨e,ts',h',h4,h5⟩:=W.sound hmix (c:=b) (H.2 rfl);exact⟨e,ts',h',λr hr=>.cond hv (h4 r hr),h5⟩
 |.block id a,ts,h,Q,H=>by
  obtain⟨e,ts',h',h4,h5⟩:=W.sound hmix (c:=a) H;exact⟨_,ts',h',λr hr=>.block (h4 r hr),h5⟩
 |.loop a,ts,h,Q,H=>by
  obtain⟨e,ts',h',h4,h5⟩:=H;exact⟨e,ts',h',λr hr=>.loop (h4 r hr),h5⟩
 |.exit id,ts,h,Q,H=>⟨_,ts,h,λ_ _=>.exit,H⟩
 |.ret,ts,h,Q,H=>⟨_,ts,h,λ_ _=>.ret,H⟩
 |.eQ g ps asg body,ts,h,Q,H=>H
 |.bad,ts,h,Q,H=>H.elim
def tL.mono{P q fv args h K K'}(H:tL P q fv args h K)(hk:∀v h',K v h'->K' v h'):tL P q fv args h K':=by
 obtain⟨v,h',h1,h2,h3⟩:=H;exact⟨v,h',h1,h2,hk v h' h3⟩
theorem WK.mono{P q k ρ h K K'}(H:WK P q k ρ h K)(hk:∀v h',K v h'->K' v h'):WK P q k ρ h K':=by
 by_cases hc:∃f args,k=.call f args
 ·obtain⟨f,args,rfl⟩:=hc;exact tL.mono H hk
 ·have H':(match stepT k ρ (λb=>h[b]?) h.length with
   |some (v,e)=>(q=true->e.quiet=true)/\K v (e.app h)
   |none=>False):=by
   exact Ja
  have G':(match stepT k ρ (λb=>h[b]?) h.length with
   |some (v,e)=>(q=true->e.quiet=true)/\K' v (e.app h)
   |none=>False):=by
   split at H'
   case h_2=>exact H'.elim
   exact⟨H'.1,hk _ _ H'.2⟩
  cases k<;>first|exact G'|exact absurd ⟨_,_,rfl⟩ hc
theorem WS.mono{P o ts h K K'}(H:WS P o ts h K)(hk:∀v h',K v h'->K' v h'):WS P o ts h K':=by
 unfold WS at H ⊢;cases hg:o.gd with
 |none=>rw[hg]at H;exact Ce.mono (λz=>WK.mono z hk) H
 |some p=>
  obtain⟨t,b⟩:=p;rw[hg]at H;simp only at H ⊢;cases hv:val ts (.t t)with
  |bool c=>
   rw[hv]at H;simp only at H ⊢;by_cases hcb:c=b
   ·rw[X9 hcb]at H ⊢;exact Ce.mono (λz=>WK.mono z hk) H
   ·rw[X5 hcb]at H ⊢;exact hk _ _ H
  |_=>rw[hv]at H;exact hk _ _ H
theorem WO.mono{P}:∀{l}{ts}{h}{Q Q'},WO P l ts h Q->(∀ts' h',Q ts' h'->Q' ts' h')->WO P l ts h Q'
 |[],ts,h,Q,Q',H,hq=>hq _ _ H
 |o::r,ts,h,Q,Q',H,hq=>WS.mono (o:=o) H λv h1 h2=>WO.mono (l:=r) h2 hq
theorem WM.mono{P S}:∀{l}{ts}{h}{K K'},WM P S l ts h K->(∀ts' h',K ts' h'->K' ts' h')->WM P S l ts h K'
 |[],ts,h,K,K',H,hk=>⟨H.1,hk _ _ H.2⟩
 |o::r,ts,h,K,K',H,hk=>by
  obtain⟨h0,H⟩:=H;refine⟨h0,?_⟩;rcases H with⟨ha,H⟩|⟨ha,H⟩
  ·exact .inl ⟨ha,WO.mono (l:=o::r) H hk⟩
  refine .inr ⟨ha,?_⟩;rcases H with⟨hl,v,h1,h2⟩|⟨hl,H⟩
  ·exact .inl ⟨hl,v,h1,WM.mono (l:=r) h2 hk⟩
  ·exact .inr ⟨hl,WS.mono (o:=o) H λv h1 h2=>WM.mono (l:=r) h2 hk⟩
theorem W.mono{P ro}:∀{c}{ts}{h}{Q Q'},W P ro c ts h Q->(∀e ts' h',Q e ts' h'->Q' e ts' h')->W P ro c ts h Q'
 |.skip,ts,h,Q,Q',H,hq=>hq _ _ _ H
 |.ops l,ts,h,Q,Q',H,hq=>WO.mono (l:=l) H (hq .normal)
 |.sf l,ts,h,Q,Q',H,hq=>AM.mono (l:=l) H λts' cs h1=>⟨h1.1,hq _ _ _ h1.2⟩
 |.lD l,ts,h,Q,Q',H,hq=>by obtain⟨S,H⟩:=H;exact⟨S,WM.mono (l:=l) H (hq .normal)⟩
 |.seq a b,ts,h,Q,Q',H,hq=>W.mono (c:=a) H λe Ss h1 h2=>by
  cases e with
  |normal=>exact W.mono (c:=b) h2 hq
  |exit id=>exact hq _ _ _ h2
  |ret=>exact hq _ _ _ h2
 |.cond c a b,ts,h,Q,Q',H,hq=>by
  unfold W at H ⊢;split at H
  case h_2=>exact H.elim
  exact⟨λh=>W.mono (c:=a) (H.1 h) hq,λh=>W.mono (c:=b) (H.2 h) hq⟩
 |.block id a,ts,h,Q,Q',H,hq=>W.mono (c:=a) H λe Ss h1 h2=>hq _ _ _ h2
 |.loop a,ts,h,Q,Q',H,hq=>by obtain⟨e,ts',h',h4,h5⟩:=H;exact⟨e,ts',h',h4,hq _ _ _ h5⟩
 |.exit id,ts,h,Q,Q',H,hq=>hq _ _ _ H
 |.ret,ts,h,Q,Q',H,hq=>hq _ _ _ H
 |.eQ g ps asg body,ts,h,Q,Q',H,hq=>by obtain⟨e,ts',h',h4,h5⟩:=H;exact⟨e,ts',h',h4,hq _ _ _ h5⟩
 |.bad,ts,h,Q,Q',H,hq=>H.elim
inductive Kt where
 |Bq (b:ai)
 |rM (id:Nat)
def kq(P:Program)(ro:Option Nat->Prop):List Kt->(Ex->TS->ah->Prop)->Ex->TS->ah->Prop
 |[],Q,e,ts,h=>Q e ts h
 |.Bq b::ks,Q,e,ts,h=>
  match e with
  |.normal=>W P ro b ts h (kq P ro ks Q)
  |.exit id=>kq P ro ks Q (.exit id) ts h
  |.ret=>kq P ro ks Q .ret ts h
 |.rM id::ks,Q,e,ts,h=>kq P ro ks Q (e.inBlock id) ts h
section
variable (P:Program) (ro:Option Nat->Prop)
def WC(c:ai)(ks:List Kt)(ts:TS)(h:ah)(Q:Ex->TS->ah->Prop):Prop:=W P ro c ts h (kq P ro ks Q)
def WE(e:Ex)(ks:List Kt)(ts:TS)(h:ah)(Q:Ex->TS->ah->Prop):Prop:=kq P ro ks Q e ts h
def WP(l:List bI)(ks:List Kt)(ts:TS)(h:ah)(Q:Ex->TS->ah->Prop):Prop:=WO P l ts h (kq P ro ks Q .normal)
def WG(g:AV)(b:Bool)(q:Bool)(k:o6)(dst:Option Nat)(l:List bI)(ks:List Kt)(ts:TS)(h:ah)(Q:Ex->TS->ah->Prop):Prop:=
 match g with
 |.bool c=>if c=b then Ce dst k ts.length (WK P q k (val ts) h (λv h1=>WP P ro l ks (put ts dst v) h1 Q))else WP P ro l ks (put ts dst az) h Q
 |_=>WP P ro l ks (put ts dst az) h Q
def WR(r:Option (AV×iH))(q:Bool)(dst:Option Nat)(l:List bI)(ks:List Kt)(ts:TS)(h:ah)(Q:Ex->TS->ah->Prop):Prop:=
 match r with
 |some (v,e)=>(q=true->e.quiet=true)/\WP P ro l ks (put ts dst v) (e.app h) Q
 |none=>False
def WF(q:Bool)(fv:AV)(args:List AV)(dst:Option Nat)(l:List bI)(ks:List Kt)(ts:TS)(h:ah)(Q:Ex->TS->ah->Prop):Prop:=
 tL P q fv args h (λv h1=>WP P ro l ks (put ts dst v) h1 Q)
def WB(v:AV)(a b:ai)(ks:List Kt)(ts:TS)(h:ah)(Q:Ex->TS->ah->Prop):Prop:=
 match v with
 |.bool t=>(t=true->WC P ro a ks ts h Q)/\(t=false->WC P ro b ks ts h Q)
 |_=>False
def WL(a:ai)(ks:List Kt)(ts:TS)(h:ah)(Q:Ex->TS->ah->Prop):Prop:=WC P ro (.loop a) ks ts h Q
def gg(g:AV)(ps:List Nat)(asg body:ai)(ks:List Kt)(ts:TS)(h:ah)(Q:Ex->TS->ah->Prop):Prop:=
 ∃e ts' h',(∀r,ro r->∀g',val ts g' =g->Ev P r (.eQ g' ps asg body) ts h e ts' h')/\WE P ro e ks ts' h' Q
end
def LQ(I:Nat->TS->ah->Prop)(n:Nat)(R:Ex->TS->ah->Prop):Ex->TS->ah->Prop
 |.normal,ts,h=>∃m,m<n/\I m ts h
 |.exit id,ts,h=>R (.exit id) ts h
 |.ret,ts,h=>R .ret ts h
def FQ(rs:List (Nat×Option (Option Nat)))(R:AV->ah->Prop):Ex->TS->ah->Prop:=λe ts h=>e.leaves=true/\∃v,cT rs ts h=some v/\R v h
def FA(r:Option AV)(h:ah)(R:AV->ah->Prop):Prop:=
 match r with
 |some v=>R v h
 |none=>False
section
variable {P:Program}{ro:Option Nat->Prop}{ks:List Kt}{ts:TS}{h:ah}{Q:Ex->TS->ah->Prop}
def Fw:WC P ro .skip ks ts h Q=WE P ro .normal ks ts h Q:=rfl
def rS{l}:WC P ro (.ops l) ks ts h Q=WP P ro l ks ts h Q:=rfl
def rR{a b}:WC P ro (.seq a b) ks ts h Q=WC P ro a (.Bq b::ks) ts h Q:=by
 unfold WC;simp only[W];congr 1
def Fz{c a b}:WC P ro (.cond c a b) ks ts h Q=WB P ro (val ts c) a b ks ts h Q:=rfl
def C3{id a}:WC P ro (.block id a) ks ts h Q=WC P ro a (.rM id::ks) ts h Q:=rfl
def Fx{a}:WC P ro (.loop a) ks ts h Q=WL P ro a ks ts h Q:=rfl
def Fy{id}:WC P ro (.exit id) ks ts h Q=WE P ro (.exit id) ks ts h Q:=rfl
def IH:WC P ro .ret ks ts h Q=WE P ro .ret ks ts h Q:=rfl
def uF{b}:WE P ro .normal (.Bq b::ks) ts h Q=WC P ro b ks ts h Q:=rfl
def Fu{b id}:WE P ro (.exit id) (.Bq b::ks) ts h Q=WE P ro (.exit id) ks ts h Q:=rfl
def Fv{b}:WE P ro .ret (.Bq b::ks) ts h Q=WE P ro .ret ks ts h Q:=rfl
def AB{id}:WE P ro .normal (.rM id::ks) ts h Q=WE P ro .normal ks ts h Q:=rfl
def Az{id V6}:WE P ro (.exit V6) (.rM id::ks) ts h Q=if V6=id then WE P ro .normal ks ts h Q else WE P ro (.exit V6) ks ts h Q:=by
 unfold WE;simp only[kq,Ex.inBlock];split<;>rfl
def AA{id}:WE P ro .ret (.rM id::ks) ts h Q=WE P ro .ret ks ts h Q:=rfl
def IG{e}:WE P ro e [] ts h Q=Q e ts h:=rfl
def C0:WP P ro [] ks ts h Q=WE P ro .normal ks ts h Q:=rfl
def iP{d k q l}(hk:∀f args,k≠.call f args)(hb:∀n x,k≠.nw n x):WP P ro ({dst:=d,k:=k,gd:=none,q:=q} ::l) ks ts h Q=WR P ro (stepT k (val ts) (λb=>h[b]?) h.length) q d l ks ts h Q:=by
 cases k<;>first|exact absurd rfl (hk _ _)|exact absurd rfl (hb _ _)|rfl
def Fo{d f args q l}:WP P ro ({dst:=d,k:=.call f args,gd:=none,q:=q} ::l) ks ts h Q=WF P ro q (val ts f) (args.map (val ts)) d l ks ts h Q:=rfl
def Me{d k t b q l}:WP P ro ({dst:=d,k:=k,gd:=some (t,b),q:=q} ::l) ks ts h Q=WG P ro (val ts (.t t)) b q k d l ks ts h Q:=rfl
def zf{d k b q l}(c:Bool)(hc:c≠b):WG P ro (.bool c) b q k d l ks ts h Q=WP P ro l ks (put ts d az) h Q:=by
 simp only[WG,X5 hc]
def yg{d k b q l}:WG P ro (.bool b) b q k d l ks ts h Q=WP P ro ({dst:=d,k:=k,gd:=none,q:=q} ::l) ks ts h Q:=by
 simp only[WG,X9];rfl
def jc{v q d l}:WR P ro (some (v,.au)) q d l ks ts h Q=WP P ro l ks (put ts d v) h Q:=by
 simp only[WR,iH.quiet,iH.app,implies_true,aav]
def mC{v k q d l}:WR P ro (some (v,.push k)) q d l ks ts h Q=WP P ro l ks (put ts d v) (h++[k]) Q:=by
 simp only[WR,iH.quiet,iH.app,implies_true,aav]
def rP{v b k d l}:WR P ro (some (v,.set b k)) false d l ks ts h Q=WP P ro l ks (put ts d v) (h.set b k) Q:=by
 exact z182
def nD{v b k k' d l}:WR P ro (some (v,.nP b k k')) false d l ks ts h Q=WP P ro l ks (put ts d v) (h.set b k++[k']) Q:=by
 exact z182
def zg{a b}:WB P ro (.bool true) a b ks ts h Q=WC P ro a ks ts h Q:=by simp[WB]
def wC{a b}:WB P ro (.bool false) a b ks ts h Q=WC P ro b ks ts h Q:=by simp[WB]
def Pr{I n R}:LQ I n R .normal ts h=∃m,m<n/\I m ts h:=rfl
def Pp{I n R id}:LQ I n R (.exit id) ts h=R (.exit id) ts h:=rfl
def Pq{I n R}:LQ I n R .ret ts h=R .ret ts h:=rfl
def Px{rs R}:FQ rs R .normal ts h=FA (cT rs ts h) h R:=by
 exact z175
def Pu{rs R}:FQ rs R .ret ts h=FA (cT rs ts h) h R:=by
 exact z175
def FB{v R}:FA (some v) h R=R v h:=rfl
def WL.inv(hmix:P.follows .mixedOrders=true){a}(I:Nat->TS->ah->Prop)(n:Nat)(h0:I n ts h)
  (step:∀(n:Nat) (ts:TS) (h:ah),I n ts h->WC P ro a [] ts h (LQ I n (λe ts h=>WE P ro e ks ts h Q))):WL P ro a ks ts h Q:=by
 have key:∀(k n:Nat) (ts:TS) (h:ah),n<=k->I n ts h->∃e ts' h',(∀r,ro r->tJ P r a ts h e ts' h')/\kq P ro ks Q e ts' h':=by
  intro k
  induction k with
  |zero=>
   intro n ts h hn hi;obtain⟨e,ts',h',h1,h2⟩:=W.sound hmix (step n ts h hi);cases e with
   |normal=>obtain⟨m,hm,_⟩:=h2;omega
   |exit id=>exact⟨_,ts',h',λr hr=>.out (h1 r hr) Si,h2⟩
   |ret=>exact⟨_,ts',h',λr hr=>.out (h1 r hr) Si,h2⟩
  |succ k ih=>
   intro n ts h hn hi;obtain⟨e,ts',h',h1,h2⟩:=W.sound hmix (step n ts h hi);cases e with
   |normal=>
    obtain⟨m,hm,hi'⟩:=h2;obtain⟨e2,T7,h3,h4,h5⟩:=ih m ts' h' Om hi';exact⟨e2,T7,h3,λr hr=>.more (h1 r hr) (h4 r hr),h5⟩
   |exit id=>exact⟨_,ts',h',λr hr=>.out (h1 r hr) Si,h2⟩
   |ret=>exact⟨_,ts',h',λr hr=>.out (h1 r hr) Si,h2⟩
 exact key n n ts h (X8 _) h0
def ay(P:Program)(f:FuncId)(args:List AV)(h:ah)(R:AV->ah->Prop):Prop:=∃v g,lR P f args h v (h++g)/\R v (h++g)
def bF(P:Program)(fv:AV)(args:List AV)(h:ah)(R:AV->ah->Prop):Prop:=∃v g,fg P fv args h v (h++g)/\R v (h++g)
def dq(P:Program)(f:FuncId)(args:List AV)(h:ah)(R:AV->ah->Prop):Prop:=∃v h',lR P f args h v h'/\R v h'
def dq.of(hmix:P.follows .mixedOrders=true){f A}(hA:bV P f=some A){args R}
  (H:WC P bT A.body [] (aU A.nt args) h (FQ A.rs R)):dq P f args h R:=by
 obtain⟨e,ts',h',h1,h2,v,h3,h4⟩:=W.sound hmix H;exact⟨v,h',.KA hA (h1 none rfl) h2 h3,h4⟩
theorem ay.of(hmix:P.follows .mixedOrders=true){f A}(hA:bV P f=some A){args R}
  (H:WC P bT A.body [] (aU A.nt args) h (FQ A.rs (λv h'=>Ext h h'/\R v h'))):ay P f args h R:=by
 obtain⟨v,h',h1,⟨g,rfl⟩,h3⟩:=dq.of hmix hA H;exact⟨v,g,h1,h3⟩
def ay.mono{f args R R'}(H:ay P f args h R)(hr:∀v g,R v (h++g)->R' v (h++g)):ay P f args h R':=by
 obtain⟨v,g,h1,h2⟩:=H;exact⟨v,g,h1,hr v g h2⟩
def bF.of{f A}(hA:bV P f=some A){a c args R}(H:ay P f (a++args++c) h R):bF P (.func (.func f) a c) args h R:=by
 obtain⟨v,g,h1,h2⟩:=H;exact⟨v,g,.yI hA h1,h2⟩
def bF.zK{u:TypeId}{name f A}(hm:iL P u name=some f)(hA:bV P f=some A){a args R}(H:ay P f (a::args) h R):bF P (.func (.method name) [] []) (.qn u a::args) h R:=by
 obtain⟨v,g,h1,h2⟩:=H;exact⟨v,g,.DU hm hA h1,h2⟩
def WF.val{q fv args d l R}(H:bF P fv args h R)(K:∀v g,R v (h++g)->WP P ro l ks (put ts d v) (h++g) Q):WF P ro q fv args d l ks ts h Q:=by
 obtain⟨v,g,h1,h2⟩:=H;exact⟨v,h++g,h1,λ_=>⟨g,rfl⟩,K v g h2⟩
def WF.res{q f A}(hA:bV P f=some A){a c args d l R}(H:ay P f (a++args++c) h R)(K:∀v g,R v (h++g)->WP P ro l ks (put ts d v) (h++g) Q):WF P ro q (.func (.func f) a c) args d l ks ts h Q:=
 WF.val (bF.of hA H) K
def WF.gen{f A}(hA:bV P f=some A){a c args d l R}(H:dq P f (a++args++c) h R)(K:∀v h',R v h'->WP P ro l ks (put ts d v) h' Q):WF P ro false (.func (.func f) a c) args d l ks ts h Q:=by
 obtain⟨v,h',h1,h2⟩:=H;exact⟨v,h',.yI hA h1,(λhq=>absurd hq Si),K v h' h2⟩
end
end Go.Abs
namespace Go.Abs
inductive aH (h:ah):AV->Nat->List (List AV)->Prop
 |nil {es:Nat}:aH h .af es []
 |mk {b o es:Nat}{cs:List (List AV)}{c:List AV}{mu tl:Bool}(hb:h[b]? =some (.cells c mu tl)) (hf:(c.drop o).take (cs.length*es)=cs.flatten) (ho:o+cs.length*es<=c.length)
   (he:∀x∈cs,x.length=es):aH h (.slice b o cs.length es) es cs
inductive Fr (N:Nat) (h:ah):AV->Nat->List (List AV)->Prop
 |nil {es:Nat}:Fr N h .af es []
 |mk {b es:Nat}{cs:List (List AV)}{tl:Bool}(hN:N<=b) (hb:h[b]? =some (.cells cs.flatten true tl)) (he:∀x∈cs,x.length=es):Fr N h (.slice b 0 cs.length es) es cs
def AV.sb:AV->Nat
 |.slice b _ _ _=>b
 |_=>0
def AV.so:AV->Nat
 |.slice _ o _ _=>o
 |_=>0
theorem eJ{es:Nat}:∀{cs:List (List AV)},(∀x∈cs,x.length=es)->cs.flatten.length=cs.length*es
 |[],_=>by simp
 |x::xs,he=>by
  have h1:=he x Si;have h2:=eJ (cs:=xs) (λy hy=>he y (YB _ hy));simp only[Za,XS,XX,h1,h2,Zf];omega
theorem lJ{es:Nat}:∀{cs:List (List AV)},(∀x∈cs,x.length=es)->∀{i:Nat}(hi:i<cs.length),(cs.flatten.drop (i*es)).take es=cs[i]
 |[],_,i,hi=>by simp at hi
 |x::xs,he,0,_=>by
  have h1:=he x Si;simp[<-h1]
 |x::xs,he,i+1,hi=>by
  have h1:=he x Si;have h2:=lJ (cs:=xs) (λy hy=>he y (YB _ hy)) (i:=i) (by simpa using hi);simp only[Za,List.getElem_cons_succ,<-h2];congr 1;rw[Zf,Nat.add_comm,<-h1,List.drop_append];simp
def Fr.a8{N:Nat}{h:ah}{s:AV}{es:Nat}{cs:List (List AV)}(hs:Fr N h s es cs):aH h s es cs:=by
 cases hs with
 |nil=>exact .nil
 |mk hN hb he=>
  have hl:=eJ he;exact .mk hb (by rw[Zj,<-hl,Yz]) Om he
section
variable {h k:ah}{s:AV}{es:Nat}{cs:List (List AV)}
def aH.au(hs:aH h s es cs)(hk:∀b,b<h.length->(∀b0 o n e,s=.slice b0 o n e->b=b0)->k[b]? =h[b]?):aH k s es cs:=by
 cases hs with
 |nil=>exact .nil
 |mk hb hf ho he=>
  refine .mk ((hk _ (XT.1 hb).1 λb0 o n e hx=>?_).trans hb) hf ho he;cases hx;rfl
def aH.ext(hs:aH h s es cs)(e:Ext h k):aH k s es cs:=hs.au λ_ hb _=>e.get hb
def aH.app(hs:aH h s es cs)(g:ah):aH (h++g) s es cs:=hs.ext ⟨g,rfl⟩
def Fr.au{N}(hs:Fr N h s es cs)(hk:∀b,b<h.length->(∀b0 o n e,s=.slice b0 o n e->b=b0)->k[b]? =h[b]?):Fr N k s es cs:=by
 cases hs with
 |nil=>exact .nil
 |mk hN hb he=>
  refine .mk hN ((hk _ (XT.1 hb).1 λb0 o n e hx=>?_).trans hb) he;cases hx;rfl
def Fr.ext{N}(hs:Fr N h s es cs)(e:Ext h k):Fr N k s es cs:=hs.au λ_ hb _=>e.get hb
def Fr.app{N}(hs:Fr N h s es cs)(g:ah):Fr N (h++g) s es cs:=hs.ext ⟨g,rfl⟩
def Fr.low{N M}(hs:Fr N h s es cs)(hM:M<=N):Fr M h s es cs:=by
 cases hs with
 |nil=>exact .nil
 |mk hN hb he=>exact .mk Om hb he
def aH.rows(hs:aH h s es cs):∀x∈cs,x.length=es:=by
 cases hs with
 |nil=>simp
 |mk hb hf ho he=>exact he
theorem aH.iV(hs:aH h s es cs)(G:Nat->Option ak):iV .sl G s=some cs.length:=by
 cases hs<;>rfl
theorem aH.one(hs:aH h s es cs):s.one=true:=by
 cases hs<;>rfl
theorem aH.ff(hs:aH h s es cs):ff es (λb=>h[b]?) s=some (cs.flatten,cs.length):=by
 cases hs with
 |nil=>rfl
 |mk hb hf ho he=>simp only[Go.Abs.ff,Yf,hb];rw[X9 ho,hf]
def aX(es:Nat)(x i:AV):Option (AV×iH):=
 match x,i with
 |.slice b o n es',.int _ i=>if es' =es/\0<=i/\i<n then some (.ptr b (o+i.toNat*es),.au)else none
 |_,_=>none
def ar(n:Option Nat)(a:AV)(G:Nat->Option ak):Option (AV×iH):=
 match a with
 |.ptr b o=>
  match G b with
  |some (.cells c _ _)=>
   match n with
   |none=>
    match c[o]? with
    |some x=>some (x,.au)
    |none=>none
   |some n=>if o+n<=c.length then some (.agg ((c.drop o).take n),.au)else none
  |_=>none
 |_=>none
def AJ(es:Nat)(x:AV)(lo hi:Option AV):Option (AV×iH):=
 match x with
 |.slice b o n es'=>
  if es' =es then
   match iZ lo hi n with
   |some (l,h')=>some (.slice b (o+l*es) (h'-l) es,.au)
   |none=>none
  else none
 |.af=>
  match iZ lo hi 0 with
  |some _=>some (.af,.au)
  |none=>none
 |_=>none
def aH.bf(hs:aH h s es cs){i:Int}{k:IntKind}(h0:0<=i)(h1:i<cs.length):aX es s (.int k i)=some (.ptr s.sb (s.so+i.toNat*es),.au):=by
 cases hs with
 |nil=>simp at h1;omega
 |mk hb hf ho he=>show(if es=es/\0<=i/\i<cs.length then _ else none)=_;rw[X9 ⟨rfl,h0,h1⟩];rfl
def aH.load(hs:aH h s es cs){i:Nat}(hi:i<cs.length):ar (some es) (.ptr s.sb (s.so+i*es)) (λb=>h[b]?)=some (.agg cs[i],.au):=by
 cases hs with
 |nil=>simp at hi
 | @mk b o es cs c mu tl hb hf ho he=>
  have hle:i*es+es<=cs.length*es:=by rw[<-Zf];exact YZ _ hi
  have h1:=lJ he hi;show ar (some es) (.ptr b (o+i*es)) (λb=>h[b]?)=_;simp only[ar,hb];rw[X9 Om,<-h1,<-hf,List.drop_take,List.take_take,Zu,ZN Om]
def aH.B5(hs:aH h s es cs){i off:Nat}(hi:i<cs.length){x:AV}(hx:cs[i][off]? =some x):ar none (.ptr s.sb (s.so+i*es+off)) (λb=>h[b]?)=some (x,.au):=by
 cases hs with
 |nil=>simp at hi
 | @mk b o es cs c mu tl hb hf ho he=>
  have hle:i*es+es<=cs.length*es:=by rw[<-Zf];exact YZ _ hi
  have h1:=lJ he hi;have h2:=he _ (Ya hi);have h3:=(XT.1 hx).1;rw[<-h1,<-hf,List.drop_take,List.take_take,Zu,ZN Om,List.getElem?_take]at hx;rw[X9 Om,aac]at hx;show ar none (.ptr b (o+i*es+off)) (λb=>h[b]?)=_;simp only[ar,hb,hx]
def aH.FZ(hs:aH h s 1 cs){i}(hi:i<cs.length){x}(hx:cs[i]=[x]):ar none (.ptr s.sb (s.so+i*1)) (λb=>h[b]?)=some (x,.au):=
 hs.B5 (off:=0) hi (by rw[hx];rfl)
def aH.sl(hs:aH h s es cs){lo hi l u}(hb:iZ lo hi cs.length=some (l,u)):∃s',AJ es s lo hi=some (s',.au)/\aH h s' es ((cs.drop l).take (u-l)):=by
 have Vz:l<=u/\u<=cs.length:=by
  unfold iZ at hb;split at hb
  case h_2=>cases hb
  split at hb
  case isFalse=>cases hb
  cases hb;omega
 cases hs with
 |nil=>
  simp only[X1]at hb;exact⟨.af,by simp only[AJ,hb],by simp;exact .nil⟩
 | @mk b o es cs c mu tl hbk hf ho he=>
  have hlen:((cs.drop l).take (u-l)).length=u-l:=by simp;omega
  refine⟨.slice b (o+l*es) (u-l) es,by simp only[AJ,Yf,hb],?_⟩;have hul:(u-l)*es+l*es=u*es:=by rw[<-aad];congr 1;omega
  have hu:u*es<=cs.length*es:=YZ _ Vz.2;have:aH h (.slice b (o+l*es) ((cs.drop l).take (u-l)).length es) es ((cs.drop l).take (u-l)):=by
   refine .mk hbk ?_ (by rw[hlen];omega) λx hx=>he x (List.mem_of_mem_drop (Y5 hx))
   rw[hlen];have Xn:∀(cs:List (List AV)) (l n:Nat),(∀x∈cs,x.length=es)->l+n<=cs.length->((cs.drop l).take n).flatten=(cs.flatten.drop (l*es)).take (n*es):=by
    intro cs
    induction cs with
    |nil=>intro l n _ _;simp
    |cons x xs ih=>
     intro l n hx VB;have h1:=hx x Si;have h2:∀y∈xs,y.length=es:=λy hy=>hx y (YB _ hy)
     cases l with
     |succ l=>
      rw[List.drop_succ_cons,ih l n h2 (by simp at VB;omega),Za,show(l+1)*es=x.length+l*es from by rw[h1,Zf,Nat.add_comm],<-Zu,List.drop_left]
     |zero=>
      cases n with
      |zero=>simp
      |succ n=>
       have:=ih 0 n h2 (by simp at VB;omega);simp only[Zj,Z0]at this ⊢;rw[ZO,Za,this,Za,List.take_append,Zf,YE (l:=x) Om,h1];simp
   rw[Xn cs l (u-l) he Om,<-hf,List.drop_take,List.take_take,Zu,ZN (by rw[Nat.sub_mul]at hul ⊢;omega)]
  rw[hlen]at this;exact this
def Fr.push{N}(hN:N<=h.length)(cs:List (List AV))(he:∀x∈cs,x.length=es):Fr N (h++[.cells cs.flatten true true]) (.slice h.length 0 cs.length es) es cs:=
 .mk (tl:=true) hN Si he
end
end Go.Abs
namespace Go.Abs
section
variable (P:Program) (ro:Option Nat->Prop)
def WV(r:Option AV)(dst:Option Nat)(l:List bI)(ks:List Kt)(ts:TS)(h:ah)(Q:Ex->TS->ah->Prop):Prop:=
 match r with
 |some v=>WP P ro l ks (put ts dst v) h Q
 |none=>False
end
def s9(c a b:AV):Option AV:=
 match c with
 |.bool t=>some (if t then a else b)
 |_=>none
def om(n:Nat)(x:AV)(N0:Nat):Option (AV×iH):=if x.cells.all AV.one=true/\x.cells.length=n then some (.ptr N0 0,.push (.cells x.cells true false))else none
def oz(x:AV)(N0:Nat):Option (AV×iH):=if x.cells.all AV.one then some (.ptr N0 0,.push (.cells x.cells true false))else none
def aW(n:Nat)(a x:AV)(G:Nat->Option ak):Option (AV×iH):=
 match a with
 |.ptr b o=>
  match G b with
  |some (.cells c true tl)=>
   if x.cells.length=n/\x.cells.all AV.one=true/\o+n<=c.length then some (az,.set b (.cells (fN c o x.cells) true tl))else none
  |_=>none
 |_=>none
def po(x:AV):Option AV:=
 match x with
 |.ptr b o=>some (.ptr b o)
 |.func (.func f) a c=>some (.func (.func f) a c)
 |.func (.yield f) a c=>some (.func (.yield f) a c)
 |.func (.methodOf t n) a c=>some (.func (.methodOf t n) a c)
 |.func (.via t p f q) a c=>some (.func (.via t p f q) a c)
 |_=>none
def th(es w:Nat)(z:List AV)(l c:AV)(N0:Nat):Option (AV×iH):=
 match l,c with
 |.int _ l,.int _ c=>
  if 0<=l/\l<=c/\(w:Int)*c<=2^48/\c<2^63 then some (.slice N0 0 l.toNat es,.push (.cells (dP l.toNat z) true true))else none
 |_,_=>none
def uT(x:AV)(lo hi:Option AV):Option AV:=
 match x with
 |.str s=>
  match iZ lo hi s.length with
  |some (l,h')=>some (.str ((s.drop l).take (h'-l)))
  |none=>none
 |_=>none
def tC(off:Nat)(x:AV):Option AV:=
 match x with
 |.ptr b o=>some (.ptr b (o+off))
 |_=>none
def fj(len es:Nat)(x i:AV):Option AV:=
 match x,i with
 |.ptr b o,.int _ i=>if 0<=i/\i<len then some (.ptr b (o+i.toNat*es))else none
 |_,_=>none
def yF(n:Option Nat)(off:Nat)(x:AV):Option AV:=
 match x with
 |.agg cs=>
  match n with
  |none=>cs[off]?
  |some n=>some (.agg ((cs.drop off).take n))
 |_=>none
def Le(len es:Nat)(n:Option Nat)(x i:AV):Option AV:=
 match x,i with
 |.agg cs,.int _ i=>
  if 0<=i/\i<len then
   match n with
   |none=>cs[i.toNat*es]?
   |some n=>some (.agg ((cs.drop (i.toNat*es)).take n))
  else none
 |_,_=>none
def vI(x i:AV):Option AV:=
 match x,i with
 |.str s,.int _ i=>
  if 0<=i then
   match s[i.toNat]? with
   |some b=>some (.int .u8 b.toNat)
   |none=>none
  else none
 |_,_=>none
def HL(x:AV)(i:Nat):Option AV:=
 match x with
 |.dN l=>l[i]?
 |_=>none
def tZ(o:Option Nat):Option AV:=
 match o with
 |some n=>some (.int .i64 n)
 |none=>none
def uk(neg:Bool)(o:Option Bool):Option AV:=
 match o with
 |some b=>some (.bool (if neg then !b else b))
 |none=>none
def rK(o:Option (List AV)):Option AV:=
 match o with
 |some c=>some (.agg c)
 |none=>none
def x9(es n:Nat)(o:Option (List AV))(N0:Nat):Option (AV×iH):=
 match o with
 |some c=>if c.all AV.one=true/\c.length=n*es then some (.slice N0 0 n es,.push (.cells c true (!Nat.beq n 0)))else none
 |none=>none
section
variable {P:Program}{ro:Option Nat->Prop}{ks:List Kt}{ts:TS}{h:ah}{Q:Ex->TS->ah->Prop}{d:Option Nat}{q:Bool}{l:List bI}
def iO{r r'}(hr:r=r'.map λv=>(v,.au)):WR P ro r q d l ks ts h Q=WV P ro r' d l ks ts h Q:=by
 subst hr;cases r' with
 |none=>rfl
 |some v=>exact jc
def uy{v}:WV P ro (some v) d l ks ts h Q=WP P ro l ks (put ts d v) h Q:=rfl
def C2{x}:WP P ro ({dst:=d,k:=.aI x,gd:=none,q:=q} ::l) ks ts h Q=WP P ro l ks (put ts d (val ts x)) h Q:=jc
def Fc{c a b}:WP P ro ({dst:=d,k:=.pick c a b,gd:=none,q:=q} ::l) ks ts h Q=WV P ro (s9 (val ts c) (val ts a) (val ts b)) d l ks ts h Q:=by
 rw[iP Si Si];refine iO ?_;simp only[stepT,ni,s9];cases val ts c<;>rfl
def ID{x}:WP P ro ({dst:=d,k:=.box x,gd:=none,q:=q} ::l) ks ts h Q=WR P ro (oz (val ts x) h.length) q d l ks ts h Q:=rfl
def Fp{n i x}:WP P ro ({dst:=some i,k:=.nw n x,gd:=none,q:=q} ::l) ks ts h Q=(i<ts.length/\WR P ro (om n (val ts x) h.length) q (some i) l ks ts h Q):=rfl
def rQ{z ps}:WP P ro ({dst:=d,k:=.build z ps,gd:=none,q:=q} ::l) ks ts h Q=WV P ro (rK (eM z (ps.map λp=>(p.1,p.2.1,val ts p.2.2)))) d l ks ts h Q:=by
 rw[iP Si Si];refine iO ?_;simp only[stepT,ni,rK];cases eM z (ps.map λp=>(p.1,p.2.1,val ts p.2.2))<;>rfl
def Ay{es n z ps}:WP P ro ({dst:=d,k:=.aF es n z ps,gd:=none,q:=q} ::l) ks ts h Q=WR P ro (x9 es n (eM (dP n z) (ps.map λp=>(p.1,es,val ts p.2))) h.length) q d l ks ts h Q:=rfl
def Fi{n a}:WP P ro ({dst:=d,k:=.load n a,gd:=none,q:=q} ::l) ks ts h Q=WR P ro (ar n (val ts a) (λb=>h[b]?)) q d l ks ts h Q:=rfl
def CY{n a x}:WP P ro ({dst:=d,k:=.store n a x,gd:=none,q:=q} ::l) ks ts h Q=WR P ro (aW n (val ts a) (val ts x) (λb=>h[b]?)) q d l ks ts h Q:=rfl
def Ax{x}:WP P ro ({dst:=d,k:=.bz x,gd:=none,q:=q} ::l) ks ts h Q=WV P ro (po (val ts x)) d l ks ts h Q:=by
 rw[iP Si Si];refine iO ?_;exact JC
def IE{op x y}:WP P ro ({dst:=d,k:=.bin op x y,gd:=none,q:=q} ::l) ks ts h Q=WV P ro (ez op (val ts x) (val ts y)) d l ks ts h Q:=by
 rw[iP Si Si];refine iO ?_;exact Jg
def IB{neg t x y}:WP P ro ({dst:=d,k:=.eqv neg t x y,gd:=none,q:=q} ::l) ks ts h Q=WV P ro (uk neg (pC t (val ts x) (val ts y))) d l ks ts h Q:=by
 rw[iP Si Si];refine iO ?_;simp only[stepT,ni,uk];cases pC t (val ts x) (val ts y)<;>rfl
def Ma{op x}:WP P ro ({dst:=d,k:=.un op x,gd:=none,q:=q} ::l) ks ts h Q=WV P ro (wL op (val ts x)) d l ks ts h Q:=by
 rw[iP Si Si];refine iO ?_;simp only[stepT,ni];cases wL op (val ts x)<;>rfl
def uE{k x}:WP P ro ({dst:=d,k:=.conv k x,gd:=none,q:=q} ::l) ks ts h Q=WR P ro (mK k (val ts x) (λb=>h[b]?) h.length) q d l ks ts h Q:=rfl
def Fg{f a c}:WP P ro ({dst:=d,k:=.kY f a c,gd:=none,q:=q} ::l) ks ts h Q=WP P ro l ks (put ts d (.func f (a.map (val ts)) (c.map (val ts)))) h Q:=jc
def wB:WP P ro ({dst:=d,k:=.lF,gd:=none,q:=q} ::l) ks ts h Q=WP P ro l ks (put ts d (.map h.length)) (h++[.bo []]) Q:=mC
def Ff{es w z a c}:WP P ro ({dst:=d,k:=.si es w z a c,gd:=none,q:=q} ::l) ks ts h Q=WR P ro (th es w z (val ts a) (val ts c) h.length) q d l ks ts h Q:=rfl
def Mb{es x lo hi}:WP P ro ({dst:=d,k:=.sl es x lo hi,gd:=none,q:=q} ::l) ks ts h Q=WR P ro (AJ es (val ts x) (lo.map (val ts)) (hi.map (val ts))) q d l ks ts h Q:=rfl
def Iw{x lo hi}:WP P ro ({dst:=d,k:=.pO x lo hi,gd:=none,q:=q} ::l) ks ts h Q=WV P ro (uT (val ts x) (lo.map (val ts)) (hi.map (val ts))) d l ks ts h Q:=by
 rw[iP Si Si];refine iO ?_;simp only[stepT,ni,uT];cases val ts x with
 |str s=>simp only;cases iZ (Option.map (val ts) lo) (Option.map (val ts) hi) s.length<;>rfl
 |_=>rfl
def Fm{off x}:WP P ro ({dst:=d,k:=.aR off x,gd:=none,q:=q} ::l) ks ts h Q=WV P ro (tC off (val ts x)) d l ks ts h Q:=by
 rw[iP Si Si];refine iO ?_;simp only[stepT,ni,tC];cases val ts x<;>rfl
def Fk{es x i}:WP P ro ({dst:=d,k:=.bf es x i,gd:=none,q:=q} ::l) ks ts h Q=WR P ro (aX es (val ts x) (val ts i)) q d l ks ts h Q:=rfl
def Fl{len es x i}:WP P ro ({dst:=d,k:=.iX len es x i,gd:=none,q:=q} ::l) ks ts h Q=WV P ro (fj len es (val ts x) (val ts i)) d l ks ts h Q:=by
 rw[iP Si Si];refine iO ?_;simp only[stepT,ni,fj];cases val ts x with
 |ptr b o=>cases val ts i<;>first|rfl|(simp only;split<;>rfl)
 |_=>rfl
def Fe{n off x}:WP P ro ({dst:=d,k:=.part n off x,gd:=none,q:=q} ::l) ks ts h Q=WV P ro (yF n off (val ts x)) d l ks ts h Q:=by
 rw[iP Si Si];refine iO ?_;simp only[stepT,ni,yF];cases val ts x with
 |agg cs=>cases n<;>first|rfl|(simp only;cases cs[off]? <;>rfl)
 |_=>rfl
def Iz{len es n x i}:WP P ro ({dst:=d,k:=.IU len es n x i,gd:=none,q:=q} ::l) ks ts h Q=WV P ro (Le len es n (val ts x) (val ts i)) d l ks ts h Q:=by
 rw[iP Si Si];refine iO ?_;simp only[stepT,ni,Le];cases val ts x with
 |agg cs=>
  cases val ts i with
  |int k j=>
   simp only;split
   ·cases n<;>first|rfl|(simp only;cases cs[j.toNat*es]? <;>rfl)
   ·rfl
  |_=>rfl
 |_=>rfl
def Iy{x i}:WP P ro ({dst:=d,k:=.qm x i,gd:=none,q:=q} ::l) ks ts h Q=WV P ro (vI (val ts x) (val ts i)) d l ks ts h Q:=by
 rw[iP Si Si];refine iO ?_;simp only[stepT,ni,vI];cases val ts x with
 |str s=>
  cases val ts i with
  |int k j=>
   simp only;split
   ·cases s[j.toNat]? <;>rfl
   ·rfl
  |_=>rfl
 |_=>rfl
def Fh{kk z ok m k}:WP P ro ({dst:=d,k:=.look kk z ok m k,gd:=none,q:=q} ::l) ks ts h Q=WR P ro (stepT (.look kk z ok m k) (val ts) (λb=>h[b]?) h.length) q d l ks ts h Q:=rfl
def uD{kk m k x}:WP P ro ({dst:=d,k:=.fu kk m k x,gd:=none,q:=q} ::l) ks ts h Q=WR P ro (stepT (.fu kk m k x) (val ts) (λb=>h[b]?) h.length) q d l ks ts h Q:=rfl
def C1{x}:WP P ro ({dst:=d,k:=.nV x,gd:=none,q:=q} ::l) ks ts h Q=WR P ro (stepT (.nV x) (val ts) (λb=>h[b]?) h.length) q d l ks ts h Q:=rfl
def IA{x i}:WP P ro ({dst:=d,k:=.ext x i,gd:=none,q:=q} ::l) ks ts h Q=WV P ro (HL (val ts x) i) d l ks ts h Q:=by
 rw[iP Si Si];refine iO ?_;simp only[stepT,ni,HL];cases val ts x with
 |dN cs=>simp only;cases cs[i]? <;>rfl
 |_=>rfl
def Ix{lk x}:WP P ro ({dst:=d,k:=.len lk x,gd:=none,q:=q} ::l) ks ts h Q=WV P ro (tZ (iV lk (λb=>h[b]?) (val ts x))) d l ks ts h Q:=by
 rw[iP Si Si];refine iO ?_;simp only[stepT,ni,tZ];cases iV lk (λb=>h[b]?) (val ts x)<;>rfl
def Fj{n}:WP P ro ({dst:=d,k:=.zM n,gd:=none,q:=q} ::l) ks ts h Q=WP P ro l ks (put ts d (.int .i64 n)) h Q:=jc
def IF{es w x y}:WP P ro ({dst:=d,k:=.app es w x y,gd:=none,q:=q} ::l) ks ts h Q=WR P ro (pF es w (val ts x) (val ts y) (λb=>h[b]?) h.length) q d l ks ts h Q:=rfl
def IC{es x y}:WP P ro ({dst:=d,k:=.wI es x y,gd:=none,q:=q} ::l) ks ts h Q=WR P ro (stepT (.wI es x y) (val ts) (λb=>h[b]?) h.length) q d l ks ts h Q:=rfl
def Mc{x m}:WP P ro ({dst:=d,k:=.mx x m,gd:=none,q:=q} ::l) ks ts h Q=WV P ro (iC pX (val ts x) (m.map (val ts))) d l ks ts h Q:=by
 rw[iP Si Si];refine iO ?_;simp only[stepT,ni];cases iC pX (val ts x) (m.map (val ts))<;>rfl
def Md{x m}:WP P ro ({dst:=d,k:=.mn x m,gd:=none,q:=q} ::l) ks ts h Q=WV P ro (iC pW (val ts x) (m.map (val ts))) d l ks ts h Q:=by
 rw[iP Si Si];refine iO ?_;simp only[stepT,ni];cases iC pW (val ts x) (m.map (val ts))<;>rfl
def EO{k a b}:ez .add (.int k a) (.int k b)=some (.int k (k.wrap (a+b))):=by simp[ez,eT,fO]
def EF{k a b}:ez .sub (.int k a) (.int k b)=some (.int k (k.wrap (a-b))):=by simp[ez,eT,fO]
def EI{k a b}:ez .mul (.int k a) (.int k b)=some (.int k (k.wrap (a*b))):=by simp[ez,eT,fO]
def EG{k a b}(hb:b≠0):ez .quo (.int k a) (.int k b)=some (.int k (k.wrap (a.tdiv b))):=by simp[ez,eT,fO,hb]
def oA{k a b}(hb:b≠0):ez .rem (.int k a) (.int k b)=some (.int k (a.tmod b)):=by simp[ez,eT,fO,hb]
def EN{k a b}:ez .eql (.int k a) (.int k b)=some (.bool (decide (a=b))):=by simp[ez,eT,fO];rfl
def EH{k a b}:ez .neq (.int k a) (.int k b)=some (.bool (decide (a≠b))):=by
 simp only[ez,eT,fO,Yf,YK,Yb,Yq,AV.bool.injEq];by_cases hab:a=b<;>simp[hab]
def EJ{k a b}:ez .lss (.int k a) (.int k b)=some (.bool (decide (a<b))):=by simp[ez,eT,fO]
def EK{k a b}:ez .leq (.int k a) (.int k b)=some (.bool (decide (a<=b))):=by simp[ez,eT,fO]
def EL{k a b}:ez .gtr (.int k a) (.int k b)=some (.bool (decide (b<a))):=by simp[ez,eT,fO]
def EM{k a b}:ez .geq (.int k a) (.int k b)=some (.bool (decide (b<=a))):=by simp[ez,eT,fO]
def jI{x y}(hl:x.length+y.length<2^62):ez .add (.str x) (.str y)=some (.str (x++y)):=by simp only[ez,qT,X9 hl]
def CF{x y}:ez .eql (.str x) (.str y)=some (.bool (decide (x=y))):=by
 exact JD
def CE{x y}:ez .neq (.str x) (.str y)=some (.bool (decide (x≠y))):=by
 exact JD
def GH{b}:wL .not (.bool b)=some (.bool !b):=rfl
def GI{k a}:wL .neg (.int k a)=some (.int k (k.wrap (0-a))):=rfl
def NW{k a b}:iC pX (.int k a) [.int k b]=some (.int k (max a b)):=by
 simp only[iC,pX,Yf,Yq,AV.int.injEq,aav];omega
def NX{k a b}:iC pW (.int k a) [.int k b]=some (.int k (min a b)):=by
 simp only[iC,pW,Yf,Yq,AV.int.injEq,aav];omega
def bw{n}(h1:-9223372036854775808<=n)(h2:n<=9223372036854775807):IntKind.i64.wrap n=n:=by
 simp only[IntKind.wrap,IntKind.signed,IntKind.bits,Zw,YG,show(64-1:Nat)=63 from rfl];split<;>omega
end
end Go.Abs
namespace Go.Abs
def A2{a b:Prop}(xa:a)(xb:b):a/\b:=⟨xa,xb⟩
def A3{a b c:Prop}(xa:a)(xb:b)(xc:c):a/\b/\c:=⟨xa,xb,xc⟩
def A4{a b c d:Prop}(xa:a)(xb:b)(xc:c)(xd:d):a/\b/\c/\d:=⟨xa,xb,xc,xd⟩
def A5{a b c d e:Prop}(xa:a)(xb:b)(xc:c)(xd:d)(xe:e):a/\b/\c/\d/\e:=⟨xa,xb,xc,xd,xe⟩
def A6{a b c d e f:Prop}(xa:a)(xb:b)(xc:c)(xd:d)(xe:e)(xf:f):a/\b/\c/\d/\e/\f:=⟨xa,xb,xc,xd,xe,xf⟩
def A7{a b c d e f g:Prop}(xa:a)(xb:b)(xc:c)(xd:d)(xe:e)(xf:f)(xg:g):a/\b/\c/\d/\e/\f/\g:=⟨xa,xb,xc,xd,xe,xf,xg⟩
def A8{a b c d e f g h:Prop}(xa:a)(xb:b)(xc:c)(xd:d)(xe:e)(xf:f)(xg:g)(xh:h):a/\b/\c/\d/\e/\f/\g/\h:=⟨xa,xb,xc,xd,xe,xf,xg,xh⟩
def A9{a b c d e f g h i:Prop}(xa:a)(xb:b)(xc:c)(xd:d)(xe:e)(xf:f)(xg:g)(xh:h)(xi:i):a/\b/\c/\d/\e/\f/\g/\h/\i:=⟨xa,xb,xc,xd,xe,xf,xg,xh,xi⟩
def o8{a b c d e f g h i j:Prop}(xa:a)(xb:b)(xc:c)(xd:d)(xe:e)(xf:f)(xg:g)(xh:h)(xi:i)(xj:j):a/\b/\c/\d/\e/\f/\g/\h/\i/\j:=⟨xa,xb,xc,xd,xe,xf,xg,xh,xi,xj⟩
def pa{a b c d e f g h i j k:Prop}(xa:a)(xb:b)(xc:c)(xd:d)(xe:e)(xf:f)(xg:g)(xh:h)(xi:i)(xj:j)(xk:k):a/\b/\c/\d/\e/\f/\g/\h/\i/\j/\k:=⟨xa,xb,xc,xd,xe,xf,xg,xh,xi,xj,xk⟩
def qt{a b c d e f g h i j k l:Prop}(xa:a)(xb:b)(xc:c)(xd:d)(xe:e)(xf:f)(xg:g)(xh:h)(xi:i)(xj:j)(xk:k)(xl:l):a/\b/\c/\d/\e/\f/\g/\h/\i/\j/\k/\l:=⟨xa,xb,xc,xd,xe,xf,xg,xh,xi,xj,xk,xl⟩
def Gu{a b c d e f g h i j k l m:Prop}(xa:a)(xb:b)(xc:c)(xd:d)(xe:e)(xf:f)(xg:g)(xh:h)(xi:i)(xj:j)(xk:k)(xl:l)(xm:m):a/\b/\c/\d/\e/\f/\g/\h/\i/\j/\k/\l/\m:=⟨xa,xb,xc,xd,xe,xf,xg,xh,xi,xj,xk,xl,xm⟩
def AH{a b c d e f g h i j k l m n:Prop}(xa:a)(xb:b)(xc:c)(xd:d)(xe:e)(xf:f)(xg:g)(xh:h)(xi:i)(xj:j)(xk:k)(xl:l)(xm:m)(xn:n):a/\b/\c/\d/\e/\f/\g/\h/\i/\j/\k/\l/\m/\n:=⟨xa,xb,xc,xd,xe,xf,xg,xh,xi,xj,xk,xl,xm,xn⟩
def C8{a b c d e f g h i j k l m n o:Prop}(xa:a)(xb:b)(xc:c)(xd:d)(xe:e)(xf:f)(xg:g)(xh:h)(xi:i)(xj:j)(xk:k)(xl:l)(xm:m)(xn:n)(xo:o):a/\b/\c/\d/\e/\f/\g/\h/\i/\j/\k/\l/\m/\n/\o:=⟨xa,xb,xc,xd,xe,xf,xg,xh,xi,xj,xk,xl,xm,xn,xo⟩
def AG{a b c d e f g h i j k l m n o p:Prop}(xa:a)(xb:b)(xc:c)(xd:d)(xe:e)(xf:f)(xg:g)(xh:h)(xi:i)(xj:j)(xk:k)(xl:l)(xm:m)(xn:n)(xo:o)(xp:p):a/\b/\c/\d/\e/\f/\g/\h/\i/\j/\k/\l/\m/\n/\o/\p:=⟨xa,xb,xc,xd,xe,xf,xg,xh,xi,xj,xk,xl,xm,xn,xo,xp⟩
def FD{a b c d e f g h i j k l m n o p q:Prop}(xa:a)(xb:b)(xc:c)(xd:d)(xe:e)(xf:f)(xg:g)(xh:h)(xi:i)(xj:j)(xk:k)(xl:l)(xm:m)(xn:n)(xo:o)(xp:p)(xq:q):a/\b/\c/\d/\e/\f/\g/\h/\i/\j/\k/\l/\m/\n/\o/\p/\q:=⟨xa,xb,xc,xd,xe,xf,xg,xh,xi,xj,xk,xl,xm,xn,xo,xp,xq⟩
def C6{a b c d e f g h i j k l m n o p q r:Prop}(xa:a)(xb:b)(xc:c)(xd:d)(xe:e)(xf:f)(xg:g)(xh:h)(xi:i)(xj:j)(xk:k)(xl:l)(xm:m)(xn:n)(xo:o)(xp:p)(xq:q)(xr:r):a/\b/\c/\d/\e/\f/\g/\h/\i/\j/\k/\l/\m/\n/\o/\p/\q/\r:=⟨xa,xb,xc,xd,xe,xf,xg,xh,xi,xj,xk,xl,xm,xn,xo,xp,xq,xr⟩
def Qm{a b c d e f g h i j k l m n o p q r s:Prop}(xa:a)(xb:b)(xc:c)(xd:d)(xe:e)(xf:f)(xg:g)(xh:h)(xi:i)(xj:j)(xk:k)(xl:l)(xm:m)(xn:n)(xo:o)(xp:p)(xq:q)(xr:r)(xs:s):a/\b/\c/\d/\e/\f/\g/\h/\i/\j/\k/\l/\m/\n/\o/\p/\q/\r/\s:=⟨xa,xb,xc,xd,xe,xf,xg,xh,xi,xj,xk,xl,xm,xn,xo,xp,xq,xr,xs⟩
def PA{a b c d e f g h i j k l m n o p q r s t:Prop}(xa:a)(xb:b)(xc:c)(xd:d)(xe:e)(xf:f)(xg:g)(xh:h)(xi:i)(xj:j)(xk:k)(xl:l)(xm:m)(xn:n)(xo:o)(xp:p)(xq:q)(xr:r)(xs:s)(xt:t):a/\b/\c/\d/\e/\f/\g/\h/\i/\j/\k/\l/\m/\n/\o/\p/\q/\r/\s/\t:=⟨xa,xb,xc,xd,xe,xf,xg,xh,xi,xj,xk,xl,xm,xn,xo,xp,xq,xr,xs,xt⟩
def Ql{a b c d e f g h i j k l m n o p q r s t u:Prop}(xa:a)(xb:b)(xc:c)(xd:d)(xe:e)(xf:f)(xg:g)(xh:h)(xi:i)(xj:j)(xk:k)(xl:l)(xm:m)(xn:n)(xo:o)(xp:p)(xq:q)(xr:r)(xs:s)(xt:t)(xu:u):a/\b/\c/\d/\e/\f/\g/\h/\i/\j/\k/\l/\m/\n/\o/\p/\q/\r/\s/\t/\u:=⟨xa,xb,xc,xd,xe,xf,xg,xh,xi,xj,xk,xl,xm,xn,xo,xp,xq,xr,xs,xt,xu⟩
def MC{a b c d e f g h i j k l m n o p q r s t u v:Prop}(xa:a)(xb:b)(xc:c)(xd:d)(xe:e)(xf:f)(xg:g)(xh:h)(xi:i)(xj:j)(xk:k)(xl:l)(xm:m)(xn:n)(xo:o)(xp:p)(xq:q)(xr:r)(xs:s)(xt:t)(xu:u)(xv:v):a/\b/\c/\d/\e/\f/\g/\h/\i/\j/\k/\l/\m/\n/\o/\p/\q/\r/\s/\t/\u/\v:=⟨xa,xb,xc,xd,xe,xf,xg,xh,xi,xj,xk,xl,xm,xn,xo,xp,xq,xr,xs,xt,xu,xv⟩
def Qk{a b c d e f g h i j k l m n o p q r s t u v w:Prop}(xa:a)(xb:b)(xc:c)(xd:d)(xe:e)(xf:f)(xg:g)(xh:h)(xi:i)(xj:j)(xk:k)(xl:l)(xm:m)(xn:n)(xo:o)(xp:p)(xq:q)(xr:r)(xs:s)(xt:t)(xu:u)(xv:v)(xw:w):a/\b/\c/\d/\e/\f/\g/\h/\i/\j/\k/\l/\m/\n/\o/\p/\q/\r/\s/\t/\u/\v/\w:=⟨xa,xb,xc,xd,xe,xf,xg,xh,xi,xj,xk,xl,xm,xn,xo,xp,xq,xr,xs,xt,xu,xv,xw⟩
def FC{a b c d e f g h i j k l m n o p q r s t u v w x:Prop}(xa:a)(xb:b)(xc:c)(xd:d)(xe:e)(xf:f)(xg:g)(xh:h)(xi:i)(xj:j)(xk:k)(xl:l)(xm:m)(xn:n)(xo:o)(xp:p)(xq:q)(xr:r)(xs:s)(xt:t)(xu:u)(xv:v)(xw:w)(xx:x):a/\b/\c/\d/\e/\f/\g/\h/\i/\j/\k/\l/\m/\n/\o/\p/\q/\r/\s/\t/\u/\v/\w/\x:=⟨xa,xb,xc,xd,xe,xf,xg,xh,xi,xj,xk,xl,xm,xn,xo,xp,xq,xr,xs,xt,xu,xv,xw,xx⟩
section
variable {P:Program}{ro:Option Nat->Prop}{ks:List Kt}{ts:TS}{h:ah}{Q:Ex->TS->ah->Prop}{d:Option Nat}{q:Bool}{l:List bI}
def Fq{k}{p:Prop}[Decidable p] :WG P ro (.bool (decide p)) true q k d l ks ts h Q=((p->WP P ro ({dst:=d,k:=k,gd:=none,q:=q} ::l) ks ts h Q)/\(¬p->WP P ro l ks (put ts d az) h Q)):=by
 by_cases hp:p
 ·simp only[hp,Yi,yg];simp
 ·simp only[hp,Yp];rw[zf false Si];simp
def Fs{k}{p:Prop}[Decidable p] :WG P ro (.bool (decide p)) false q k d l ks ts h Q=((p->WP P ro l ks (put ts d az) h Q)/\(¬p->WP P ro ({dst:=d,k:=k,gd:=none,q:=q} ::l) ks ts h Q)):=by
 by_cases hp:p
 ·simp only[hp,Yi];rw[zf true Si];simp
 ·simp only[hp,Yp,yg];simp
def Mf{k}:WG P ro (.bool true) false q k d l ks ts h Q=WP P ro l ks (put ts d az) h Q:=zf true Si
def Mg{k}:WG P ro (.bool false) true q k d l ks ts h Q=WP P ro l ks (put ts d az) h Q:=zf false Si
def II{a b}{p:Prop}[Decidable p] :WB P ro (.bool (decide p)) a b ks ts h Q=((p->WC P ro a ks ts h Q)/\(¬p->WC P ro b ks ts h Q)):=by
 by_cases hp:p
 ·simp only[hp,Yi,zg];simp
 ·simp only[hp,Yp,wC];simp
def G5{a b}:s9 (.bool true) a b=some a:=rfl
def G6{a b}:s9 (.bool false) a b=some b:=rfl
def slot(ts:TS)(i:Nat):AV:=ts.getD i az
def uN{i}:val ts (.t i)=slot ts i:=rfl
def yn{v}:val ts (.c v)=v:=rfl
def J0{i}:val ts (.g i)=.ptr i 0:=rfl
def J1{i}:val ts (.f i)=.func (.func i) [] []:=rfl
def pS{i v}:put ts (some i) v=ts.set i v:=rfl
def BO{v}:put ts none v=ts:=rfl
def GO{a l}:slot (a::l) 0=a:=rfl
def GN{a l n}:slot (a::l) (n+1)=slot l n:=rfl
def Hw{a:AV}{l:List AV}:(a::l).length=l.length+1:=rfl
def Hx:([] :List AV).length=0:=rfl
def Ht{a:AV}:List.replicate 0 a=[]:=rfl
def HA{a:AV}{l m:List AV}:(a::l)++m=a:: (l++m):=rfl
def HB{m:List AV}:[]++m=m:=rfl
def Hr{a b:AV}{l:List AV}:(a::l).set 0 b=b::l:=rfl
def Hq{a b:AV}{l:List AV}{n:Nat}:(a::l).set (n+1) b=a::l.set n b:=rfl
def Hv{f:c6->AV}:List.map f []=[]:=rfl
def Hu{f:c6->AV}{a:c6}{l:List c6}:List.map f (a::l)=f a::l.map f:=rfl
def Ha{f:c6->AV}:Option.map f none=none:=rfl
def G9{f:c6->AV}{a:c6}:Option.map f (some a)=some (f a):=rfl
def HK{off b o}:tC off (.ptr b o)=some (.ptr b (o+off)):=rfl
def Hp{n}:tZ (some n)=some (.int .i64 n):=rfl
def D0{G s}:iV .st G (.str s)=some s.length:=rfl
def KL{b o}:po (.ptr b o)=some (.ptr b o):=rfl
def KM{f a c}:po (.func (.func f) a c)=some (.func (.func f) a c):=rfl
def KK{f a c}:po (.func (.yield f) a c)=some (.func (.yield f) a c):=rfl
def LG{l i}:HL (.dN l) i=l[i]? :=rfl
def G8{cs off}:yF none off (.agg cs)=cs[off]? :=rfl
def G7{cs off n}:yF (some n) off (.agg cs)=some (.agg ((cs.drop off).take n)):=rfl
def CB{c}:rK (some c)=some (.agg c):=rfl
def BJ{r}:cT [(r,none)] ts h=some (slot ts r):=rfl
def BI{r s}:cT [(r,none),(s,none)] ts h=some (.dN [slot ts r,slot ts s]):=rfl
def BH{r s t}:cT [(r,none),(s,none),(t,none)] ts h=some (.dN [slot ts r,slot ts s,slot ts t]):=rfl
def wP{n args}:aU n args=args++List.replicate (n-args.length) az:=rfl
def Ks{n:Nat}{a:AV}:List.replicate (n+1) a=a::List.replicate n a:=rfl
def Ey{k k' n G N}:mK (.ub k) (.int k' n) G N=some (.int k (k.wrap n),.au):=rfl
def j7{u:TypeId}{x G N}:mK (.qn u) x G N=some (.qn u x,.au):=rfl
def Ak{s G N}:mK .same (.str s) G N=some (.str s,.au):=rfl
def ED{k n N}:oz (.int k n) N=some (.ptr N 0,.push (.cells [.int k n] true false)):=rfl
def CD{b N}:oz (.bool b) N=some (.ptr N 0,.push (.cells [.bool b] true false)):=rfl
def EC{s N}:oz (.str s) N=some (.ptr N 0,.push (.cells [.str s] true false)):=rfl
def EE{l N}(hl:l.all AV.one=true):oz (.agg l) N=some (.ptr N 0,.push (.cells l true false)):=by
 show(if l.all AV.one then _ else none)=_;rw[X9 hl];rfl
end
def Po{P ro ks ts h Q d q l k b}:WG P ro az b q k d l ks ts h Q=WP P ro l ks (put ts d az) h Q:=rfl
def Gi{h}:Ext h h=True:=aax (Ext.refl h)
def Gh{h a}:Ext h (h++a)=True:=aax (by repeat first|exact Ext.refl _|refine Ext.app _ ?_)
def Gg{h a b}:Ext h (h++a++b)=True:=aax (by repeat first|exact Ext.refl _|refine Ext.app _ ?_)
def Gf{h a b c}:Ext h (h++a++b++c)=True:=aax (by repeat first|exact Ext.refl _|refine Ext.app _ ?_)
def Ge{h a b c d}:Ext h (h++a++b++c++d)=True:=aax (by repeat first|exact Ext.refl _|refine Ext.app _ ?_)
def Gd{h a b c d e}:Ext h (h++a++b++c++d++e)=True:=aax (by repeat first|exact Ext.refl _|refine Ext.app _ ?_)
def Gc{h a b c d e f}:Ext h (h++a++b++c++d++e++f)=True:=aax (by repeat first|exact Ext.refl _|refine Ext.app _ ?_)
def Gb{h a b c d e f g}:Ext h (h++a++b++c++d++e++f++g)=True:=aax (by repeat first|exact Ext.refl _|refine Ext.app _ ?_)
def Ga{h a b c d e f g i}:Ext h (h++a++b++c++d++e++f++g++i)=True:=aax (by repeat first|exact Ext.refl _|refine Ext.app _ ?_)
def F9{h a b c d e f g i j}:Ext h (h++a++b++c++d++e++f++g++i++j)=True:=aax (by repeat first|exact Ext.refl _|refine Ext.app _ ?_)
def L1{p:Prop}:(True/\p)=p:=aav p
def IT(f:Nat->AV):Nat->Nat->TS
 | 0,_=>[]
 |n+1,i=>f i::IT f n (i+1)
def KQ{f i}:IT f 0 i=[]:=rfl
def FY{f n i}:IT f (n+1) i=f i::IT f n (i+1):=rfl
theorem B3(f:Nat->AV):∀(n i:Nat) (ts:TS),ts.length=n->(∀k,k<n->f (i+k)=slot ts k)->ts=IT f n i
 | 0,_,ts,h,_=>YW.1 h
 |n+1,i,[],h,_=>by simp at h
 |n+1,i,x::xs,h,hf=>by
  rw[FY,<-B3 f n (i+1) xs (by simpa using h) λk hk=>by have:=hf (k+1) Om;rw[show i+1+k=i+(k+1) by omega,this];rfl];rw[<-aao i,hf 0 Om];rfl
def k8(ts:TS)(n:Nat)(h:ts.length=n):ts=IT (λi=>slot ts i) n 0:=B3 _ n 0 ts h λk _=>by rw[YJ]
def aQ:=A6 (FC @Fw @rS @rR @Fz @C3 @Fx @Fy @IH @uF @Fu @Fv @AB @Az @AA @IG @C0 @Fo @Me @yg @Mf @Mg @jc @mC @rP) (FC @nD @uy @zg @wC @Pr @Pp @Pq @Px @Pu @FB @C2 @Fc @ID @rQ @Ay @Fi @CY @Ax @IE @IB @Ma @uE @Fg @wB) (FC @Ff @Mb @Iw @Fm @Fk @Fl @Fe @Iz @Iy @Fh @uD @C1 @IA @Ix @Fj @IF @IC @Mc @Md @EO @EF @EI @EN @EH) (FC @EJ @EK @EL @EM @CF @CE @GH @GI @NW @NX @G5 @G6 @uN @yn @J0 @J1 @pS @BO @GO @GN @HK @Hp @D0 @KL) (FC @KM @KK @LG @G8 @G7 @CB @BJ @BI @BH @wP @Ks @Hw @Hx @Ht @HA @HB @Hr @Hq @Hv @Hu @Ha @G9 @Ey @Ak) (FD @Po @Gi @Gh @Gg @Gf @Ge @Gd @Gc @Gb @Ga @F9 @L1 @KQ @FY @ED @CD @EC)
def mN:
  (∀{P}{ro}{ks}{ts}{h}{Q}{d}{q}{l}{k}{p:Prop} [Decidable p],WG P ro (.bool (decide p)) true q k d l ks ts h Q=((p->WP P ro ({dst:=d,k:=k,gd:=none,q:=q} ::l) ks ts h Q)/\(¬p->WP P ro l ks (put ts d az) h Q)))/\
  (∀{P:Program}{ro:Option Nat->Prop}{ks:List Kt}{ts:TS}{h:ah}{Q:Ex->TS->ah->Prop}{d:Option Nat}{q:Bool}{l:List bI}{k:o6}{p:Prop} [Decidable p],WG P ro (.bool (decide p)) false q k d l ks ts h Q=((p->WP P ro l ks (put ts d az) h Q)/\(¬p->WP P ro ({dst:=d,k:=k,gd:=none,q:=q} ::l) ks ts h Q)))/\
  (∀{P:Program}{ro:Option Nat->Prop}{ks:List Kt}{ts:TS}{h:ah}{Q:Ex->TS->ah->Prop}{a b:ai}{p:Prop} [Decidable p],WB P ro (.bool (decide p)) a b ks ts h Q=((p->WC P ro a ks ts h Q)/\(¬p->WC P ro b ks ts h Q))):=
 ⟨@Fq,@Fs,@II⟩
end Go.Abs
namespace Go.Abs
def db{h:ah}{b:Nat}(a:ah)(hb:b<h.length):(h++a)[b]? =h[b]? :=XW hb
def eP{h:ah}{b:Nat}(a:ah)(k:ak)(hb:b<h.length):(h++a).set b k=h.set b k++a:=List.set_append_left _ _ hb
def yB{X:ah}{k k':ak}:(X++[k]).set X.length k' =X++[k']:=by
 rw[YP _ _ (X8 _)];simp
def bh{X:ah}{k:ak}:(X++[k])[X.length]? =some k:=Si
def dJ(n:Option Nat)(o:Nat):ak->Option (AV×iH)
 |.cells c _ _=>
  match n with
  |none=>
   match c[o]? with
   |some x=>some (x,.au)
   |none=>none
  |some n=>if o+n<=c.length then some (.agg ((c.drop o).take n),.au)else none
 |_=>none
def kg(n o:Nat)(v:AV)(b:Nat):ak->Option (AV×iH)
 |.cells c true tl=>if v.cells.length=n/\v.cells.all AV.one=true/\o+n<=c.length then some (az,.set b (.cells (fN c o v.cells) true tl))else none
 |_=>none
def aA{n:Option Nat}{b o:Nat}{G:Nat->Option ak}{k:ak}(hb:G b=some k):ar n (.ptr b o) G=dJ n o k:=by
 simp only[ar,hb];cases k<;>rfl
def aL{n b o:Nat}{v:AV}{G:Nat->Option ak}{k:ak}(hb:G b=some k):aW n (.ptr b o) v G=kg n o v b k:=by
 simp only[aW,hb];cases k with
 |cells c mu tl=>cases mu<;>rfl
 |_=>rfl
def dZ(b:Nat)(s:By)(pos:Nat):Option (AV×iH):=
 if pos<s.length then some (.dN [.bool true,.int .i64 pos,.int .i32 (Utf8.decode ⟨⟨s⟩⟩ pos).1],.set b (.iter s (pos+(Utf8.decode ⟨⟨s⟩⟩ pos).2)))else some (.dN [.bool false],.au)
def fD(x:AV)(G:Nat->Option ak):Option (AV×iH):=
 match x with
 |.ptr b 0=>
  match G b with
  |some (.iter s pos)=>dZ b s pos
  |_=>none
 |_=>none
def dL{b pos:Nat}{s:By}{G:Nat->Option ak}(hb:G b=some (.iter s pos)):fD (.ptr b 0) G=dZ b s pos:=by
 simp only[fD,hb]
def uS{x:c6}{ρ:c6->AV}{G:Nat->Option ak}{N:Nat}:stepT (.nV x) ρ G N=fD (ρ x) G:=by
 simp only[stepT,ni,fD,dZ];cases ρ x with
 |ptr b o=>
  cases o with
  |zero=>
   simp only;cases G b with
   |none=>rfl
   |some k=>cases k<;>rfl
  |succ o=>rfl
 |_=>rfl
def FT(x:AV)(N:Nat):Option (AV×iH):=
 match x with
 |.str s=>some (.ptr N 0,.push (.iter s 0))
 |_=>none
def CZ{P:Program}{ro:Option Nat->Prop}{ks:List Kt}{ts:TS}{h:ah}{Q:Ex->TS->ah->Prop}{d:Option Nat}{q:Bool}{l:List bI}{x:c6}:WP P ro ({dst:=d,k:=.wX x,gd:=none,q:=q} ::l) ks ts h Q=WR P ro (FT (val ts x) h.length) q d l ks ts h Q:=rfl
def G0{s:By}{N:Nat}:FT (.str s) N=some (.ptr N 0,.push (.iter s 0)):=rfl
def E1{X:ah}{K}:(X++[K])[X.length]? =some K:=by
 exact bh
def N9{n o X K}:ar n (.ptr X.length o) (λz=>(X++[K])[z]?)=dJ n o K:=aA E1
def M5{y o v X K}:aW y (.ptr X.length o) v (λz=>(X++[K])[z]?)=kg y o v X.length K:=aL E1
def NR{pos s X}:fD (.ptr X.length 0) (λz=>(X++[.iter s pos])[z]?)=dZ X.length s pos:=dL E1
def Bn{X:ah}{K K'}:(X++[K]).set X.length K' =X++[K']:=by
 exact yB
def ur{X:ah}{K a}:(X++[K]++a)[X.length]? =some K:=by
 rw[db,E1];simp
def N8{n o X K a}:ar n (.ptr X.length o) (λz=>(X++[K]++a)[z]?)=dJ n o K:=aA ur
def M4{y o v X K a}:aW y (.ptr X.length o) v (λz=>(X++[K]++a)[z]?)=kg y o v X.length K:=aL ur
def NQ{pos s X a}:fD (.ptr X.length 0) (λz=>(X++[.iter s pos]++a)[z]?)=dZ X.length s pos:=dL ur
def yC{X:ah}{K K' a}:(X++[K]++a).set X.length K' =X++[K']++a:=by
 rw[eP,Bn];simp
def As{X:ah}{K a b}:(X++[K]++a++b)[X.length]? =some K:=by
 rw[db,ur];simp
def N7{n o X K a b}:ar n (.ptr X.length o) (λz=>(X++[K]++a++b)[z]?)=dJ n o K:=aA As
def M3{y o v X K a b}:aW y (.ptr X.length o) v (λz=>(X++[K]++a++b)[z]?)=kg y o v X.length K:=aL As
def NP{pos s X a b}:fD (.ptr X.length 0) (λz=>(X++[.iter s pos]++a++b)[z]?)=dZ X.length s pos:=dL As
def FN{X:ah}{K K' a b}:(X++[K]++a++b).set X.length K' =X++[K']++a++b:=by
 rw[eP,yC];simp
def sG{X:ah}{K a b c}:(X++[K]++a++b++c)[X.length]? =some K:=by
 rw[db,As];simp
def N6{n o X K a b c}:ar n (.ptr X.length o) (λz=>(X++[K]++a++b++c)[z]?)=dJ n o K:=aA sG
def M1{y o v X K a b c}:aW y (.ptr X.length o) v (λz=>(X++[K]++a++b++c)[z]?)=kg y o v X.length K:=aL sG
def NO{pos s X a b c}:fD (.ptr X.length 0) (λz=>(X++[.iter s pos]++a++b++c)[z]?)=dZ X.length s pos:=dL sG
def FM{X:ah}{K K' a b c}:(X++[K]++a++b++c).set X.length K' =X++[K']++a++b++c:=by
 rw[eP,FN];simp
def uq{X:ah}{K a b c d}:(X++[K]++a++b++c++d)[X.length]? =some K:=by
 rw[db,sG];simp
def N5{n o X K a b c d}:ar n (.ptr X.length o) (λz=>(X++[K]++a++b++c++d)[z]?)=dJ n o K:=aA uq
def M0{y o v X K a b c d}:aW y (.ptr X.length o) v (λz=>(X++[K]++a++b++c++d)[z]?)=kg y o v X.length K:=aL uq
def NN{pos s X a b c d}:fD (.ptr X.length 0) (λz=>(X++[.iter s pos]++a++b++c++d)[z]?)=dZ X.length s pos:=dL uq
def Bi{X:ah}{K K' a b c d}:(X++[K]++a++b++c++d).set X.length K' =X++[K']++a++b++c++d:=by
 rw[eP,FM];simp
def CN{X:ah}{K a b c d e}:(X++[K]++a++b++c++d++e)[X.length]? =some K:=by
 rw[db,uq];simp
def N4{n o X K a b c d e}:ar n (.ptr X.length o) (λz=>(X++[K]++a++b++c++d++e)[z]?)=dJ n o K:=aA CN
def MZ{y o v X K a b c d e}:aW y (.ptr X.length o) v (λz=>(X++[K]++a++b++c++d++e)[z]?)=kg y o v X.length K:=aL CN
def NM{pos s X a b c d e}:fD (.ptr X.length 0) (λz=>(X++[.iter s pos]++a++b++c++d++e)[z]?)=dZ X.length s pos:=dL CN
def FL{X:ah}{K K' a b c d e}:(X++[K]++a++b++c++d++e).set X.length K' =X++[K']++a++b++c++d++e:=by
 rw[eP,Bi];simp
def E0{X:ah}{K a b c d e f}:(X++[K]++a++b++c++d++e++f)[X.length]? =some K:=by
 rw[db,CN];simp
def N3{n o X K a b c d e f}:ar n (.ptr X.length o) (λz=>(X++[K]++a++b++c++d++e++f)[z]?)=dJ n o K:=aA E0
def MY{y o v X K a b c d e f}:aW y (.ptr X.length o) v (λz=>(X++[K]++a++b++c++d++e++f)[z]?)=kg y o v X.length K:=aL E0
def NL{pos s X a b c d e f}:fD (.ptr X.length 0) (λz=>(X++[.iter s pos]++a++b++c++d++e++f)[z]?)=dZ X.length s pos:=dL E0
def FK{X:ah}{K K' a b c d e f}:(X++[K]++a++b++c++d++e++f).set X.length K' =X++[K']++a++b++c++d++e++f:=by
 rw[eP,FL];simp
def EZ{X:ah}{K a b c d e f g}:(X++[K]++a++b++c++d++e++f++g)[X.length]? =some K:=by
 rw[db,E0];simp
def N2{n o X K a b c d e f g}:ar n (.ptr X.length o) (λz=>(X++[K]++a++b++c++d++e++f++g)[z]?)=dJ n o K:=aA EZ
def MX{y o v X K a b c d e f g}:aW y (.ptr X.length o) v (λz=>(X++[K]++a++b++c++d++e++f++g)[z]?)=kg y o v X.length K:=aL EZ
def NK{pos s X a b c d e f g}:fD (.ptr X.length 0) (λz=>(X++[.iter s pos]++a++b++c++d++e++f++g)[z]?)=dZ X.length s pos:=dL EZ
def FJ{X:ah}{K K' a b c d e f g}:(X++[K]++a++b++c++d++e++f++g).set X.length K' =X++[K']++a++b++c++d++e++f++g:=by
 rw[eP,FK];simp
def EY{X:ah}{K a b c d e f g i}:(X++[K]++a++b++c++d++e++f++g++i)[X.length]? =some K:=by
 rw[db,EZ];simp
def N1{n o X K a b c d e f g i}:ar n (.ptr X.length o) (λz=>(X++[K]++a++b++c++d++e++f++g++i)[z]?)=dJ n o K:=aA EY
def MW{y o v X K a b c d e f g i}:aW y (.ptr X.length o) v (λz=>(X++[K]++a++b++c++d++e++f++g++i)[z]?)=kg y o v X.length K:=aL EY
def NJ{pos s X a b c d e f g i}:fD (.ptr X.length 0) (λz=>(X++[.iter s pos]++a++b++c++d++e++f++g++i)[z]?)=dZ X.length s pos:=dL EY
def FI{X:ah}{K K' a b c d e f g i}:(X++[K]++a++b++c++d++e++f++g++i).set X.length K' =X++[K']++a++b++c++d++e++f++g++i:=by
 rw[eP,FJ];simp
def EX{X:ah}{K a b c d e f g i j}:(X++[K]++a++b++c++d++e++f++g++i++j)[X.length]? =some K:=by
 rw[db,EY];simp
def NZ{n o X K a b c d e f g i j}:ar n (.ptr X.length o) (λz=>(X++[K]++a++b++c++d++e++f++g++i++j)[z]?)=dJ n o K:=aA EX
def MV{y o v X K a b c d e f g i j}:aW y (.ptr X.length o) v (λz=>(X++[K]++a++b++c++d++e++f++g++i++j)[z]?)=kg y o v X.length K:=aL EX
def NI{pos s X a b c d e f g i j}:fD (.ptr X.length 0) (λz=>(X++[.iter s pos]++a++b++c++d++e++f++g++i++j)[z]?)=dZ X.length s pos:=dL EX
def FH{X:ah}{K K' a b c d e f g i j}:(X++[K]++a++b++c++d++e++f++g++i++j).set X.length K' =X++[K']++a++b++c++d++e++f++g++i++j:=by
 rw[eP,FI];simp
def zb{X:ah}{K a b c d e f g i j m}:(X++[K]++a++b++c++d++e++f++g++i++j++m)[X.length]? =some K:=by
 rw[db,EX];simp
def KW{n o X K a b c d e f g i j m}:ar n (.ptr X.length o) (λz=>(X++[K]++a++b++c++d++e++f++g++i++j++m)[z]?)=dJ n o K:=aA zb
def Ka{y o v X K a b c d e f g i j m}:aW y (.ptr X.length o) v (λz=>(X++[K]++a++b++c++d++e++f++g++i++j++m)[z]?)=kg y o v X.length K:=aL zb
def KF{pos s X a b c d e f g i j m}:fD (.ptr X.length 0) (λz=>(X++[.iter s pos]++a++b++c++d++e++f++g++i++j++m)[z]?)=dZ X.length s pos:=dL zb
def Bm{X:ah}{K K' a b c d e f g i j m}:(X++[K]++a++b++c++d++e++f++g++i++j++m).set X.length K' =X++[K']++a++b++c++d++e++f++g++i++j++m:=by
 rw[eP,FH];simp
def za{X:ah}{K a b c d e f g i j m p}:(X++[K]++a++b++c++d++e++f++g++i++j++m++p)[X.length]? =some K:=by
 rw[db,zb];simp
def KV{n o X K a b c d e f g i j m p}:ar n (.ptr X.length o) (λz=>(X++[K]++a++b++c++d++e++f++g++i++j++m++p)[z]?)=dJ n o K:=aA za
def J9{y o v X K a b c d e f g i j m p}:aW y (.ptr X.length o) v (λz=>(X++[K]++a++b++c++d++e++f++g++i++j++m++p)[z]?)=kg y o v X.length K:=aL za
def KE{pos s X a b c d e f g i j m p}:fD (.ptr X.length 0) (λz=>(X++[.iter s pos]++a++b++c++d++e++f++g++i++j++m++p)[z]?)=dZ X.length s pos:=dL za
def Bl{X:ah}{K K' a b c d e f g i j m p}:(X++[K]++a++b++c++d++e++f++g++i++j++m++p).set X.length K' =X++[K']++a++b++c++d++e++f++g++i++j++m++p:=by
 rw[eP,Bm];simp
def y9{X:ah}{K a b c d e f g i j m p q}:(X++[K]++a++b++c++d++e++f++g++i++j++m++p++q)[X.length]? =some K:=by
 rw[db,za];simp
def KU{n o X K a b c d e f g i j m p q}:ar n (.ptr X.length o) (λz=>(X++[K]++a++b++c++d++e++f++g++i++j++m++p++q)[z]?)=dJ n o K:=aA y9
def J8{y o v X K a b c d e f g i j m p q}:aW y (.ptr X.length o) v (λz=>(X++[K]++a++b++c++d++e++f++g++i++j++m++p++q)[z]?)=kg y o v X.length K:=aL y9
def KD{pos s X a b c d e f g i j m p q}:fD (.ptr X.length 0) (λz=>(X++[.iter s pos]++a++b++c++d++e++f++g++i++j++m++p++q)[z]?)=dZ X.length s pos:=dL y9
def Bk{X:ah}{K K' a b c d e f g i j m p q}:(X++[K]++a++b++c++d++e++f++g++i++j++m++p++q).set X.length K' =X++[K']++a++b++c++d++e++f++g++i++j++m++p++q:=by
 rw[eP,Bl];simp
def y8{X:ah}{K a b c d e f g i j m p q r}:(X++[K]++a++b++c++d++e++f++g++i++j++m++p++q++r)[X.length]? =some K:=by
 rw[db,y9];simp
def KT{n o X K a b c d e f g i j m p q r}:ar n (.ptr X.length o) (λz=>(X++[K]++a++b++c++d++e++f++g++i++j++m++p++q++r)[z]?)=dJ n o K:=aA y8
def J7{y o v X K a b c d e f g i j m p q r}:aW y (.ptr X.length o) v (λz=>(X++[K]++a++b++c++d++e++f++g++i++j++m++p++q++r)[z]?)=kg y o v X.length K:=aL y8
def KC{pos s X a b c d e f g i j m p q r}:fD (.ptr X.length 0) (λz=>(X++[.iter s pos]++a++b++c++d++e++f++g++i++j++m++p++q++r)[z]?)=dZ X.length s pos:=dL y8
def Bj{X:ah}{K K' a b c d e f g i j m p q r}:(X++[K]++a++b++c++d++e++f++g++i++j++m++p++q++r).set X.length K' =X++[K']++a++b++c++d++e++f++g++i++j++m++p++q++r:=by
 rw[eP,Bk];simp
def CO{X:ah}{K a b c d e f g i j m p q r t}:(X++[K]++a++b++c++d++e++f++g++i++j++m++p++q++r++t)[X.length]? =some K:=by
 rw[db,y8];simp
def KS{n o X K a b c d e f g i j m p q r t}:ar n (.ptr X.length o) (λz=>(X++[K]++a++b++c++d++e++f++g++i++j++m++p++q++r++t)[z]?)=dJ n o K:=aA CO
def J6{y o v X K a b c d e f g i j m p q r t}:aW y (.ptr X.length o) v (λz=>(X++[K]++a++b++c++d++e++f++g++i++j++m++p++q++r++t)[z]?)=kg y o v X.length K:=aL CO
def KB{pos s X a b c d e f g i j m p q r t}:fD (.ptr X.length 0) (λz=>(X++[.iter s pos]++a++b++c++d++e++f++g++i++j++m++p++q++r++t)[z]?)=dZ X.length s pos:=dL CO
def GP{X:ah}{K K' a b c d e f g i j m p q r t}:(X++[K]++a++b++c++d++e++f++g++i++j++m++p++q++r++t).set X.length K' =X++[K']++a++b++c++d++e++f++g++i++j++m++p++q++r++t:=by
 rw[eP,Bj];simp
def K3{o:Nat}{c:List AV}{mu tl:Bool}{x:AV}(hx:c[o]? =some x):dJ none o (.cells c mu tl)=some (x,.au):=by simp only[dJ,hx]
def KZ{o n:Nat}{c:List AV}{mu tl:Bool}(hx:o+n<=c.length):dJ (some n) o (.cells c mu tl)=some (.agg ((c.drop o).take n),.au):=by simp only[dJ];rw[X9 hx]
def tO{n o b:Nat}{c l:List AV}{tl:Bool}(h1:l.length=n)(h2:l.all AV.one=true)(h3:o+n<=c.length):kg n o (.agg l) b (.cells c true tl)=some (az,.set b (.cells (fN c o l) true tl)):=by
 show(if l.length=n/\l.all AV.one=true/\o+n<=c.length then _ else none)=_;rw[X9 ⟨h1,h2,h3⟩];rfl
def AV.mw{v:AV}(hv:v.one=true):v.cells=[v]:=by cases v<;>first|rfl|cases hv
def bY{o b:Nat}{c:List AV}{v:AV}{tl:Bool}(h2:v.one=true)(h3:o+1<=c.length):kg 1 o v b (.cells c true tl)=some (az,.set b (.cells (c.set o v) true tl)):=by
 simp only[kg,AV.mw h2];rw[X9 ⟨rfl,by simp[h2],h3⟩];rfl
def Bp{c:List AV}{o:Nat}:fN c o []=c:=rfl
def ph{c:List AV}{o:Nat}{x:AV}{xs:List AV}:fN c o (x::xs)=fN (c.set o x) (o+1) xs:=rfl
def Gv{z:List AV}:dP 0 z=[]:=rfl
def AO{n:Nat}{z:List AV}:dP (n+1) z=z++dP n z:=rfl
def Cm{c:List AV}:eM c []=some c:=rfl
def Cl{c:List AV}{off:Nat}{v:AV}{r:List (Nat×Nat×AV)}(h2:v.one=true)(h3:off+1<=c.length):eM c ((off,1,v)::r)=eM (c.set off v) r:=by
 simp only[eM,AV.mw h2];rw[X9 ⟨rfl,h3⟩];rfl
def Cn{c l:List AV}{off n:Nat}{r:List (Nat×Nat×AV)}(h2:l.length=n)(h3:off+n<=c.length):eM c ((off,n,.agg l)::r)=eM (fN c off l) r:=by
 show(if l.length=n/\off+n<=c.length then eM (fN c off l) r else none)=_;rw[X9 ⟨h2,h3⟩]
def x6{es n N:Nat}{c:List AV}(h1:c.all AV.one=true)(h2:c.length=n*es)(h3:1<=n):x9 es n (some c) N=some (.slice N 0 n es,.push (.cells c true true)):=by
 have:Nat.beq n 0=false:=by cases n with|zero=>omega|succ n=>rfl
 simp only[x9];rw[X9 ⟨h1,h2⟩,this];rfl
def LR{es N:Nat}:x9 es 0 (some []) N=some (.slice N 0 0 es,.push (.cells [] true false)):=by
 simp only[x9];rw[X9 ⟨rfl,Si⟩];rfl
def Hi{f:Nat×c6->Nat×Nat×AV}:List.map f []=[]:=rfl
def Hh{f:Nat×c6->Nat×Nat×AV}{a:Nat×c6}{l:List (Nat×c6)}:List.map f (a::l)=f a::l.map f:=rfl
def Hg{f:Nat×Nat×c6->Nat×Nat×AV}:List.map f []=[]:=rfl
def Hf{f:Nat×Nat×c6->Nat×Nat×AV}{a:Nat×Nat×c6}{l:List (Nat×Nat×c6)}:List.map f (a::l)=f a::l.map f:=rfl
def D7{l:List AV}:l.drop 0=l:=rfl
def D6{a:AV}{l:List AV}{n:Nat}:(a::l).drop (n+1)=l.drop n:=rfl
def D5{l:List AV}:l.take 0=[]:=Si
def D4{a:AV}{l:List AV}{n:Nat}:(a::l).take (n+1)=a::l.take n:=rfl
def Hz{a:AV}{l:List AV}:(a::l)[0]? =some a:=rfl
def Hy{a:AV}{l:List AV}{n:Nat}:(a::l)[n+1]? =l[n]? :=rfl
abbrev aK(x:Int):List AV:=[.int .i64 x]
def cg{X:ah}(l:List Int):aH (X++[.cells (l.map (AV.int .i64)) true true]) (.slice X.length 0 l.length 1) 1 (l.map aK):=by
 have hf:(l.map aK).flatten=l.map (AV.int .i64):=by induction l with
  |nil=>rfl
  |cons x xs ih=>simp[aK]at ih ⊢;exact ih
 have h1:(l.map aK).length=l.length:=Si
 rw[<-h1];exact .mk (by simp;exact⟨rfl,rfl,rfl⟩) (by rw[hf,Z4,h1,Zj];exact YE Si) Si (by simp[aK])
section
variable {h:ah}{s:AV}{es:Nat}{cs:List (List AV)}
def aH.KR(hs:aH h s es cs){k:ah}{i:Nat}(e:Ext h k)(hi:i<cs.length):ar (some es) (.ptr s.sb (s.so+i*es)) (λb=>k[b]?)=some (.agg cs[i],.au):=(hs.ext e).load hi
def aH.Hk(hs:aH h s es cs){k:ah}{i off:Nat}(e:Ext h k)(hi:i<cs.length){x:AV}(hx:cs[i][off]? =some x):ar none (.ptr s.sb (s.so+i*es+off)) (λb=>k[b]?)=some (x,.au):=(hs.ext e).B5 hi hx
def aH.Hl(hs:aH h s es cs){k:ah}{i:Nat}(e:Ext h k)(hi:i<cs.length){x:AV}(hx:cs[i][0]? =some x):ar none (.ptr s.sb (s.so+i*es)) (λb=>k[b]?)=some (x,.au):=(hs.ext e).B5 (off:=0) hi hx
end
def aT:=A4 (FC @N9 @M5 @NR @Bn @N8 @M4 @NQ @yC @N7 @M3 @NP @FN @N6 @M1 @NO @FM @N5 @M0 @NN @Bi @N4 @MZ @NM @FL) (FC @N3 @MY @NL @FK @N2 @MX @NK @FJ @N1 @MW @NJ @FI @NZ @MV @NI @FH @KW @Ka @KF @Bm @KV @J9 @KE @Bl) (FC @KU @J8 @KD @Bk @KT @J7 @KC @Bj @KS @J6 @KB @GP @uS @CZ @G0 @K3 @KZ @tO @bY @Bp @ph @Gv @AO @Cm) (AH @Cl @Cn @x6 @LR @Hi @Hh @Hg @Hf @D7 @D6 @D5 @D4 @Hz @Hy)
def sE:
  (∀{h:ah},Ext h (h)=True)/\
  (∀{h a:ah},Ext h (h++a)=True)/\
  (∀{h a b:ah},Ext h (h++a++b)=True)/\
  (∀{h a b c:ah},Ext h (h++a++b++c)=True)/\
  (∀{h a b c d:ah},Ext h (h++a++b++c++d)=True)/\
  (∀{h a b c d e:ah},Ext h (h++a++b++c++d++e)=True)/\
  (∀{h a b c d e f:ah},Ext h (h++a++b++c++d++e++f)=True)/\
  (∀{h a b c d e f g:ah},Ext h (h++a++b++c++d++e++f++g)=True)/\
  (∀{h a b c d e f g i:ah},Ext h (h++a++b++c++d++e++f++g++i)=True)/\
  (∀{h a b c d e f g i j:ah},Ext h (h++a++b++c++d++e++f++g++i++j)=True):=
 ⟨@Gi,@Gh,@Gg,@Gf,@Ge,@Gd,@Gc,@Gb,@Ga,@F9⟩
end Go.Abs
namespace Go.Abs
def Qg:Option AV->Option (AV×iH)
 |some x=>some (x,.au)
 |none=>none
def KX{x}:Qg (some x)=some (x,.au):=rfl
def KY{o c mu tl}:dJ none o (.cells c mu tl)=Qg c[o]? :=rfl
def cW(s:AV)(es i:Nat):AV:=.ptr s.sb (s.so+i*es)
def lK(s:AV)(es i off:Nat):AV:=.ptr s.sb (s.so+i*es+off)
def Em{s es i off}:tC off (cW s es i)=some (lK s es i off):=rfl
section
variable {α:Type}{row:α->List AV}{L:List α}{h k:ah}{s:AV}{es:Nat}
def aH.aM(hs:aH h s es (L.map row))(G:Nat->Option ak):Go.Abs.iV .sl G s=some L.length:=by
 rw[hs.iV G,X2]
def aH.dM(hs:aH h s es (L.map row)){i:Nat}{kk}(hi:i<L.length):aX es s (.int kk (i:Int))=some (cW s es i,.au):=by
 rw[hs.bf Om (by rw[X2];omega),Int.toNat_natCast];rfl
def aH.qz(hs:aH h s es (L.map row)){kk}(hi:0<L.length):aX es s (.int kk 0)=some (cW s es 0,.au):=hs.dM hi
def aH.kR(hs:aH h s es (L.map row)){i}(hi:i<L.length)(e:Ext h k):ar (some es) (cW s es i) (λb=>k[b]?)=some (.agg (row L[i]),.au):=by
 rw[cW,hs.KR e (by rw[X2];exact hi),Y7]
def aH.pY(hs:aH h s es (L.map row)){i off x}(hi:i<L.length)(hx:(row L[i])[off]? =some x)(e:Ext h k):ar none (lK s es i off) (λb=>k[b]?)=some (x,.au):=
 hs.Hk e (by rw[X2];exact hi) (by rw[Y7];exact hx)
def aH.kS(hs:aH h s es (L.map row)){i x}(hi:i<L.length)(hx:(row L[i])[0]? =some x)(e:Ext h k):ar none (cW s es i) (λb=>k[b]?)=some (x,.au):=
 hs.Hl e (by rw[X2];exact hi) (by rw[Y7];exact hx)
def aH.FG(hs:aH h s es (L.map row)){lo hi l u}(hb:iZ lo hi L.length=some (l,u)):∃s',AJ es s lo hi=some (s',.au)/\aH h s' es (((L.drop l).take (u-l)).map row):=by
 obtain⟨s',h1,h2⟩:=hs.sl (lo:=lo) (hi:=hi) (by rw[X2];exact hb);exact⟨s',h1,by rw[List.map_take,List.map_drop];exact h2⟩
end
def jH{n k:Nat}{kk}(hk:k<=n):iZ none (some (.int kk (k:Int))) n=some (0,k):=by
 simp only[iZ,Ho,F4];rw[X9 Om];simp
def mA{n k:Nat}{kk}(hk:k<=n):iZ (some (.int kk (k:Int))) none n=some (k,n):=by
 simp only[iZ,Ho,F4];rw[X9 Om];simp
def vH{c r k}:vI (.str (c::r)) (.int k 0)=some (.int .u8 c.toNat):=rfl
def jL{s i k}(hi:i<s.length):vI (.str s) (.int k (i:Nat))=some (.int .u8 s[i].toNat):=by
 simp[vI,hi]
def wrapN{n:Nat}(h:n+1<2^63):IntKind.i64.wrap ((n:Int)+1)=((n+1:Nat):Int):=by rw[bw Om Om];rfl
def lv:Option (AV×iH)->Option AV
 |some (v,_)=>some v
 |none=>none
def NY{v e}:lv (some (v,e))=some v:=rfl
def c8{ts h a n}:dB ts h (a,some n)=lv (ar n (slot ts a) (λb=>h[b]?)):=by
 simp only[dB,dA,val,slot];cases ts.getD a az with
 |ptr b o=>
  simp only[ar];cases h[b]? with
  |none=>rfl
  |some k=>
   cases k with
   |cells c mu tl=>
    cases n with
    |none=>simp only;cases c[o]? <;>rfl
    |some n=>simp only;by_cases hc:o+n<=c.length
             ·rw[X9 hc,X9 hc];rfl
             ·rw[X5 hc,X5 hc];rfl
   |_=>rfl
 |_=>rfl
def Bc:Option AV->Option AV->Option AV
 |some a,some b=>some (.dN [a,b])
 |_,_=>none
def tM:Option AV->Option AV->Option AV->Option AV
 |some a,some b,some c=>some (.dN [a,b,c])
 |_,_,_=>none
def GL{a b}:Bc (some a) (some b)=some (.dN [a,b]):=rfl
def GK{a b c}:tM (some a) (some b) (some c)=some (.dN [a,b,c]):=rfl
def zw{ts h r}:cT [r] ts h=dB ts h r:=by
 simp only[cT,iS];cases dB ts h r<;>rfl
def pk{ts h r s}:cT [r,s] ts h=Bc (dB ts h r) (dB ts h s):=by
 simp only[cT,iS];cases dB ts h r<;>cases dB ts h s<;>rfl
def gY{ts h r s t}:cT [r,s,t] ts h=tM (dB ts h r) (dB ts h s) (dB ts h t):=by
 simp only[cT,iS];cases dB ts h r<;>cases dB ts h s<;>cases dB ts h t<;>rfl
def c7{ts h a}:dB ts h (a,none)=some (slot ts a):=rfl
def BG:∀{ts}{h}{x}{nx},cT [(x,some nx)] ts h=lv (ar nx (slot ts x) (λb=>h[b]?)):=by
 intros;rw[zw];simp only[c8,c7]
def zx:∀{ts}{h}{x y}{ny},cT [(x,none),(y,some ny)] ts h=Bc (some (slot ts x)) (lv (ar ny (slot ts y) (λb=>h[b]?))):=by
 intros;rw[pk];simp only[c8,c7]
def zy:∀{ts}{h}{x y}{nx},cT [(x,some nx),(y,none)] ts h=Bc (lv (ar nx (slot ts x) (λb=>h[b]?))) (some (slot ts y)):=by
 intros;rw[pk];simp only[c8,c7]
def zA:∀{ts}{h}{x y}{nx ny},cT [(x,some nx),(y,some ny)] ts h=Bc (lv (ar nx (slot ts x) (λb=>h[b]?))) (lv (ar ny (slot ts y) (λb=>h[b]?))):=by
 intros;rw[pk];simp only[c8,c7]
def w8:∀{ts}{h}{x y z}{nz},cT [(x,none),(y,none),(z,some nz)] ts h=tM (some (slot ts x)) (some (slot ts y)) (lv (ar nz (slot ts z) (λb=>h[b]?))):=by
 intros;rw[gY];simp only[c8,c7]
def w9:∀{ts}{h}{x y z}{ny},cT [(x,none),(y,some ny),(z,none)] ts h=tM (some (slot ts x)) (lv (ar ny (slot ts y) (λb=>h[b]?))) (some (slot ts z)):=by
 intros;rw[gY];simp only[c8,c7]
def xy:∀{ts}{h}{x y z}{ny nz},cT [(x,none),(y,some ny),(z,some nz)] ts h=tM (some (slot ts x)) (lv (ar ny (slot ts y) (λb=>h[b]?))) (lv (ar nz (slot ts z) (λb=>h[b]?))):=by
 intros;rw[gY];simp only[c8,c7]
def xz:∀{ts}{h}{x y z}{nx},cT [(x,some nx),(y,none),(z,none)] ts h=tM (lv (ar nx (slot ts x) (λb=>h[b]?))) (some (slot ts y)) (some (slot ts z)):=by
 intros;rw[gY];simp only[c8,c7]
def xA:∀{ts}{h}{x y z}{nx nz},cT [(x,some nx),(y,none),(z,some nz)] ts h=tM (lv (ar nx (slot ts x) (λb=>h[b]?))) (some (slot ts y)) (lv (ar nz (slot ts z) (λb=>h[b]?))):=by
 intros;rw[gY];simp only[c8,c7]
def xB:∀{ts}{h}{x y z}{nx ny},cT [(x,some nx),(y,some ny),(z,none)] ts h=tM (lv (ar nx (slot ts x) (λb=>h[b]?))) (lv (ar ny (slot ts y) (λb=>h[b]?))) (some (slot ts z)):=by
 intros;rw[gY];simp only[c8,c7]
def xC:∀{ts}{h}{x y z}{nx ny nz},cT [(x,some nx),(y,some ny),(z,some nz)] ts h=tM (lv (ar nx (slot ts x) (λb=>h[b]?))) (lv (ar ny (slot ts y) (λb=>h[b]?))) (lv (ar nz (slot ts z) (λb=>h[b]?))):=by
 intros;rw[gY];simp only[c8,c7]
def HN{b}:uk false (some b)=some (.bool b):=rfl
def HM{b}:uk true (some b)=some (.bool !b):=rfl
def Au(b:Bool)(o:Option Bool):Option Bool:=
 match b with
 |true=>o
 |false=>some false
def Iq{b c}:Au b (some c)=some (b&&c):=by cases b<;>rfl
def LL{k a b ks xs ys}:dG (.i::ks) (.int k a::xs) (.int k b::ys)=Au (decide (a=b)) (dG ks xs ys):=by
 exact z107
def LI{a b ks xs ys}:dG (.s::ks) (.str a::xs) (.str b::ys)=Au (decide (a=b)) (dG ks xs ys):=by
 exact z107
def LM{a b ks xs ys}:dG (.b::ks) (.bool a::xs) (.bool b::ys)=Au (a==b) (dG ks xs ys):=by
 cases a<;>cases b<;>rfl
def LJ:dG [] [] []=some true:=rfl
def Qz{ks xs ys}(h1:xs.length=ks.length)(h2:ys.length=ks.length):pC (.agg ks) (.agg xs) (.agg ys)=dG ks xs ys:=by
 simp only[pC,yZ];rw[X9 ⟨h1,h2⟩]
def LN{a b}:pC (.one .b) (.bool a) (.bool b)=some (a==b):=rfl
def EA{a:CK}{l:List CK}:(a::l).length=l.length+1:=rfl
def EB:([] :List CK).length=0:=rfl
def Fr.lt{N h s es cs}(hs:Fr N h s es cs){b o n e}(hb:s=.slice b o n e):N<=b/\b<h.length:=by
 cases hs with
 |nil=>cases hb
 |mk hN h1 he=>cases hb;exact⟨hN,(XT.1 h1).1⟩
def Fr.swap{A B g s es cs}(hs:Fr A.length (A++g) s es cs)(hl:B.length=A.length):Fr A.length (B++g) s es cs:=by
 cases hs with
 |nil=>exact .nil
 | @mk _ _ _ tl hN h1 RO=>
  refine .mk (tl:=tl) hN ?_ RO;rw[X6 Om]at h1 ⊢;rw[hl];exact h1
def WR.fQ{P ro ks ts Q h s y es cs ys h0 w d l}
  (hs:Fr h0.length h s es cs) (hy:aH h y es ys) (hes:0<es) (hne:0<ys.length) (eC:(cs.length+ys.length)*w<=2^46) (he:Ext h0 h)
  (K:∀g,(h0++g).length=h.length+1->Fr h0.length (h0++g) (.slice h.length 0 (cs++ys).length es) es (cs++ys)->(∀b,b<h.length->(∀b0 o n e,s=.slice b0 o n e->b≠b0)->(h0++g)[b]? =h[b]?)->WP P ro l ks (put ts d (.slice h.length 0 (cs++ys).length es)) (h0++g) Q):
  WR P ro (pF es w s y (λb=>h[b]?) h.length) false d l ks ts h Q:=by
 have SG:∀x∈cs++ys,x.length=es:=λx hx=>by
  exact z143
 have hk:¬ys.length=0:=Om
 simp only[pF,hy.ff];cases hs with
 |nil=>
  simp only[X1,YJ]at eC;simp only[X5 hk,X9 eC];rw[mC];have hx:=Fr.push (N:=h0.length) he.len ys hy.rows;obtain⟨g,rfl⟩:=he;have hK:=K (g++[.cells ys.flatten true true]) (by simp;omega);simp only[<-XV,ZB]at hK;exact hK hx λb hb _=>XW hb
 | @mk b _ _ tl hN hb hre=>
  have hcl:=eJ hre;cases tl with
  |false=>
   simp only[Yf,X5 hk,X9 eC,hb,YJ];rw[X9 Om,mC,Zj];have hx:=Fr.push (h:=h) (N:=h0.length) (es:=es) he.len (cs++ys) SG;simp only[XS,ZF]at hx ⊢;obtain⟨g,rfl⟩:=he;have hK:=K (g++[.cells (cs.flatten++ys.flatten) true true]) (by simp;omega);simp only[<-XV,XS,ZF]at hK hx ⊢;exact hK hx λb hb _=>XW (by simpa using hb)
  |true=>
  simp only[Yf,X5 hk,X9 eC,hb,YJ];rw[X9 Om,nD];have hbl:b<h.length:=(XT.1 hb).1;have hx:=Fr.push (h:=h.set b .dead) (N:=h0.length) (es:=es) (by simpa using he.len) (cs++ys) SG;have hc:List.take (cs.length*es) (List.drop 0 cs.flatten)=cs.flatten:=by rw[Zj,<-hcl,Yz]
  rw[hc];obtain⟨g,rfl⟩:=he;have aT:(h0++g).set b .dead++[ak.cells (cs.flatten++ys.flatten) true true]=h0++(g.set (b-h0.length) .dead++[ak.cells (cs.flatten++ys.flatten) true true]):=by
   rw[YP _ _ hN,XV]
  have hK:=K (g.set (b-h0.length) .dead++[.cells (cs.flatten++ys.flatten) true true]) (by simp;omega);rw[<-aT]at hK;simp only[YD,ZF,XS]at hx hK ⊢;refine hK hx ?_;intro i hi hne;have:=hne b 0 _ _ rfl;rw[XW (by simpa using hi),Yc (Zk this)]
def BU{k n}:AV.one (.int k n)=true:=rfl
def Kz{b}:AV.one (.bool b)=true:=rfl
def FV{b}:AV.one (.str b)=true:=rfl
def Kv{b o}:AV.one (.ptr b o)=true:=rfl
def Kx{b o n e}:AV.one (.slice b o n e)=true:=rfl
def Kw:AV.one .af=true:=rfl
def Ky{f a c}:AV.one (.func f a c)=true:=rfl
def CR{a l}:(a::l).all AV.one=(a.one&&l.all AV.one):=rfl
def CQ:([] :List AV).all AV.one=true:=rfl
def bI.o(n:Nat)(k:o6):bI:=⟨some n,k,none,false⟩
def bI.x(k:o6):bI:=⟨none,k,none,false⟩
def bI.m(n i:Nat):bI:=⟨some n,.aI (.t i),none,false⟩
def bI.y(n:Nat)(k:o6):bI:=⟨some n,k,none,true⟩
def bI.l(n i:Nat):bI:=⟨some n,.load none (.t i),none,false⟩
def bI.a(n o i:Nat):bI:=⟨some n,.aR o (.t i),none,false⟩
def bI.c(n f:Nat)(l:List c6):bI:=⟨some n,.call (.f f) l,none,false⟩
def bI.b(n:Nat)(k:BinOp)(x y:c6):bI:=⟨some n,.bin k x y,none,false⟩
def bI.e(n i j:Nat):bI:=⟨some n,.ext (.t i) j,none,false⟩
def bI.s(w i j:Nat):bI:=⟨none,.store w (.t i) (.t j),none,false⟩
def bI.r(n w i:Nat):bI:=⟨some n,.load (some w) (.t i),none,false⟩
def bI.p(n i:Nat):bI:=⟨some n,.box (.t i),none,false⟩
def bI.u(n:Nat)(k:BinOp)(i j:Nat):bI:=⟨some n,.bin k (.t i) (.t j),none,false⟩
def bI.h(n w i j:Nat):bI:=⟨some n,.bf w (.t i) (.t j),none,false⟩
def bI.d(n i j:Nat):bI:=⟨some n,.pick (.t i) (.t j) (.c (.bool false)),none,false⟩
def bI.f(n i j:Nat):bI:=⟨some n,.pick (.t i) (.c (.bool true)) (.t j),none,false⟩
def bI.n(n i:Nat):bI:=⟨some n,.len .sl (.t i),none,false⟩
def c6.n(k:Int):c6:=.c (.int .i64 k)
def ai.s(l:List bI)(b:ai):ai:=.seq (.ops l) b
def ai.r(l:List bI):ai:=.seq (.ops l) .ret
def bI.j(n i:Nat):bI:=⟨some n,.load none (.t i),none,true⟩
def bI.w(n i:Nat):bI:=⟨some n,.aI (.t i),none,true⟩
def bI.t(n c:Nat)(b:Bool)(i:Nat):bI:=⟨some n,.aI (.t i),some (c,b),false⟩
def bI.v(n:Nat)(k:BinOp)(i:Nat)(y:c6):bI:=⟨some n,.bin k (.t i) y,none,false⟩
def c6.T:c6:=.c (.bool true)
def c6.F:c6:=.c (.bool false)
def ai.j(n:Nat)(l:List bI):ai:=.cond (.t n) (.seq (.ops l) .ret) .skip
def ai.i(n:Nat)(a b:ai):ai:=.cond (.t n) a b
def bI.g(n c:Nat)(b:Bool)(k:o6):bI:=⟨some n,k,some (c,b),false⟩
def c6.z:c6:=.c (.int .i64 0)
def c6.w:c6:=.c (.int .i64 1)
def OW:∀{n i},bI.m n i=⟨some n,.aI (.t i),none,false⟩:=rfl
def OV:∀{n c}{b}{k},bI.g n c b k=⟨some n,k,some (c,b),false⟩:=rfl
def OU:∀{n}{k},bI.o n k=⟨some n,k,none,false⟩:=rfl
def OT:∀{k},bI.x k=⟨none,k,none,false⟩:=rfl
def OS:(c6.z=.c (.int .i64 0)):=rfl
def OR:(c6.w=.c (.int .i64 1)):=rfl
def OJ:∀{n}{k},bI.y n k=⟨some n,k,none,true⟩:=rfl
def OL:∀{n i},bI.l n i=⟨some n,.load none (.t i),none,false⟩:=rfl
def OQ:∀{n o i},bI.a n o i=⟨some n,.aR o (.t i),none,false⟩:=rfl
def OO:∀{n f}{l},bI.c n f l=⟨some n,.call (.f f) l,none,false⟩:=rfl
def OP:∀{n}{k}{x y},bI.b n k x y=⟨some n,.bin k x y,none,false⟩:=rfl
def ON:∀{n i j},bI.e n i j=⟨some n,.ext (.t i) j,none,false⟩:=rfl
def OH:∀{w i j},bI.s w i j=⟨none,.store w (.t i) (.t j),none,false⟩:=rfl
def OI:∀{n w i},bI.r n w i=⟨some n,.load (some w) (.t i),none,false⟩:=rfl
def OK:∀{n i},bI.p n i=⟨some n,.box (.t i),none,false⟩:=rfl
def OG:∀{n}{k}{i j},bI.u n k i j=⟨some n,.bin k (.t i) (.t j),none,false⟩:=rfl
def OM:∀{n}{a b},ai.i n a b=.cond (.t n) a b:=rfl
def HX:∀{n w i j:Nat},bI.h n w i j=⟨some n,.bf w (.t i) (.t j),none,false⟩:=rfl
def HZ:∀{n i j:Nat},bI.d n i j=⟨some n,.pick (.t i) (.t j) (.c (.bool false)),none,false⟩:=rfl
def HY:∀{n i j:Nat},bI.f n i j=⟨some n,.pick (.t i) (.c (.bool true)) (.t j),none,false⟩:=rfl
def HW:∀{n i:Nat},bI.n n i=⟨some n,.len .sl (.t i),none,false⟩:=rfl
def HU:∀{k:Int},c6.n k=.c (.int .i64 k):=rfl
def H3:∀{l:List bI}{b:ai},ai.s l b=.seq (.ops l) b:=rfl
def H4:∀{l:List bI},ai.r l=.seq (.ops l) .ret:=rfl
def H5:∀{n:Nat}{l:List bI},ai.j n l=.cond (.t n) (.seq (.ops l) .ret) .skip:=rfl
def HT:∀{n i:Nat},bI.j n i=⟨some n,.load none (.t i),none,true⟩:=rfl
def HP:∀{n i:Nat},bI.w n i=⟨some n,.aI (.t i),none,true⟩:=rfl
def HS:∀{n c:Nat}{b:Bool}{i:Nat},bI.t n c b i=⟨some n,.aI (.t i),some (c,b),false⟩:=rfl
def HQ:∀{n:Nat}{k:BinOp}{i:Nat}{y:c6},bI.v n k i y=⟨some n,.bin k (.t i) y,none,false⟩:=rfl
def OE:c6.T=.c (.bool true):=rfl
def OF:c6.F=.c (.bool false):=rfl
def uset:=A8 @OE @OF @HT @HP @HS @HQ @H5 (FC @HX @HZ @HY @HW @HU @H3 @H4 @OJ @OL @OQ @OO @OP @ON @OH @OI @OK @OG @OM @OW @OV @OU @OT @OS @OR)
def ba:=A3 uset (C6 @YJ @KX @KY @NY @GL @GK @BG @zx @zy @zA @w8 @w9 @xy @xz @xA @xB @xC @HN) (MC @HM @Iq @LL @LI @LM @LJ @Qz @LN @EA @EB @Em @BU @Kz @FV @Kv @Kx @Kw @Ky @CR @CQ @Zw @EE)
def Lh(o:Option AV)(X:Prop):Prop:=
 match o with
 |some _=>X
 |none=>False
def bd:
  (∀{P}{ro}{ks}{ts}{h}{Q}{q}{l}{n i}{x},WP P ro ({dst:=some i,k:=.nw n x,gd:=none,q:=q} ::l) ks ts h Q=Lh ts[i]? (WR P ro (om n (val ts x) h.length) q (some i) l ks ts h Q))/\
  (∀{a:AV}{X:Prop},Lh (some a) X=X)/\
  (∀{k:IntKind}{z:Int}{N:Nat},om 1 (.int k z) N=some (.ptr N 0,.push (.cells [.int k z] true false)))/\
  (∀{b:Bool}{N:Nat},om 1 (.bool b) N=some (.ptr N 0,.push (.cells [.bool b] true false)))/\
  (∀{b:By}{N:Nat},om 1 (.str b) N=some (.ptr N 0,.push (.cells [.str b] true false)))/\
  (∀{N:Nat},oz .af N=some (.ptr N 0,.push (.cells [.af] true false)))/\
  (∀{v:AV}{N:Nat}(_:v.one=true),oz v N=some (.ptr N 0,.push (.cells [v] true false)))/\
  (∀{v:AV}{N:Nat}(_:v.one=true),om 1 v N=some (.ptr N 0,.push (.cells [v] true false)))/\
  (∀{l:List AV}{n N:Nat}(_:l.all AV.one=true) (_:l.length=n),om n (.agg l) N=some (.ptr N 0,.push (.cells l true false))):=by
 refine⟨?_,rfl,rfl,rfl,rfl,rfl,?_,?_,?_⟩
 ·intro P ro ks ts h Q q l n i x;rw[Fp];by_cases hi:i<ts.length
  ·rw[XY hi];simp[Lh,hi]
  ·rw[ZS Om];simp[Lh,hi]
 ·intro v N h;simp only[oz,AV.mw h];rw[X9 (by simp[h])]
 ·intro v N h;simp only[om,AV.mw h];rw[X9 ⟨by simp[h],rfl⟩]
 ·intro l n N h1 h2;unfold om;exact X9 ⟨h1,h2⟩
def fn2:aq:=⟨1,0,[],(.ops [.c 0 1 []])⟩
def fn3:aq:=⟨101,3,[(6,none)],(.s [.o 6 (.aI .F)] (.seq (.s [.m 19 0,.c 20 14 [.t 19,.n 24],.o 21 (.un .not (.t 20)),.m 22 21,.t 23 22 false 1,.g 24 22 false (.len .st (.t 23)),.g 25 22 false (.bin .gtr (.t 24) (.n 40)),.f 26 22 25] (.j 26 [.c 27 15 [],.m 6 27])) (.s [.m 29 0,.m 30 1,.m 31 2,.c 32 16 [.t 29,.t 30,.t 31],.m 28 32,.e 33 28 0,.e 34 28 1,.m 7 33,.m 8 34] (.s [.m 36 0,.m 37 2,.c 38 17 [.t 36,.t 37],.m 35 38,.e 39 35 0,.e 40 35 1,.m 9 39,.m 10 40] (.s [.m 42 0,.c 43 18 [.t 42],.m 41 43,.e 44 41 0,.e 45 41 1,.e 46 41 2,.o 11 (.box (.c (.agg [.int .i64 0,.af,.af,.af,.af,.af,.af]))),.s 7 11 44,.m 12 45,.m 13 46] (.s [.m 47 2,.c 48 20 [.t 47,.z,.n 999999999],.c 49 19 [.t 48,.n 3],.m 14 49] (.s [.m 50 13,.r 51 7 11,.m 52 1,.c 53 22 [.t 51,.t 52],.v 54 .lss 53 .z,.c 55 19 [.t 54,.n 10],.m 56 14,.o 57 (.aF 1 3 [.int .i64 0] [(0,.t 50),(1,.t 55),(2,.t 56)]),.c 58 21 [.t 57],.m 59 13,.m 60 14,.o 61 (.aF 1 2 [.int .i64 0] [(0,.t 59),(1,.t 60)]),.c 62 21 [.t 61],.m 15 58,.m 16 62] (.s [.o 17 (.aI .F)] (.s [.o 18 (.aI (.c .af))] (.seq (.s [.m 63 15,.v 64 .eql 63 .z] (.i 64 (.ops [.y 65 (.load (some 7) (.t 11)),.y 66 (.aR 3 (.t 11)),.j 67 66,.y 68 (.load (some 7) (.t 11)),.w 69 1,.y 70 (.call (.f 22) [.t 68,.t 69]),.y 71 (.bf 3 (.t 67) (.t 70)),.y 72 (.load (some 3) (.t 71)),.w 73 2,.c 74 23 [.t 65,.t 72,.t 73],.m 17 74]) .skip)) (.seq (.s [.m 75 16,.v 76 .eql 75 .z] (.i 76 (.ops [.r 77 7 11,.m 78 2,.c 79 24 [.t 77,.t 78],.m 18 79]) .skip)) (.r [.m 80 7,.m 81 17,.o 82 (.eqv false (.one .b) (.t 80) (.t 81)),.m 83 82,.t 84 83 true 8,.t 85 83 true 15,.g 86 83 true (.bin .eql (.t 84) (.t 85)),.d 87 83 86,.m 88 87,.t 89 88 true 9,.t 90 88 true 18,.g 91 88 true (.call (.f 25) [.t 89,.t 90]),.d 92 88 91,.m 93 92,.t 94 93 true 10,.t 95 93 true 16,.g 96 93 true (.bin .eql (.t 94) (.t 95)),.d 97 93 96,.m 98 97,.g 99 98 true (.call (.f 15) []),.d 100 98 99,.m 6 100]))))))))))))⟩
def fn4:aq:=⟨91,3,[(6,none)],(.s [.o 6 (.aI .F)] (.seq (.s [.m 18 0,.c 19 14 [.t 18,.n 24],.o 20 (.un .not (.t 19)),.m 21 20,.t 22 21 false 1,.g 23 21 false (.len .st (.t 22)),.g 24 21 false (.bin .gtr (.t 23) (.n 40)),.f 25 21 24,.m 26 25,.t 27 26 false 2,.g 28 26 false (.len .sl (.t 27)),.g 29 26 false (.bin .gtr (.t 28) (.n 33)),.f 30 26 29] (.j 30 [.c 31 15 [],.m 6 31])) (.s [.m 33 0,.m 34 1,.c 35 26 [.t 33,.t 34],.m 32 35,.e 36 32 0,.e 37 32 1,.m 7 36,.m 8 37] (.s [.o 39 (.aF 1 0 [.int .i64 0] []),.m 40 2,.o 41 (.app 1 8 (.t 39) (.t 40)),.c 42 27 [.t 41],.m 38 42,.e 43 38 0,.e 44 38 1,.m 9 43,.m 10 44] (.s [.m 46 0,.c 47 18 [.t 46],.m 45 47,.e 48 45 0,.e 49 45 1,.e 50 45 2,.o 11 (.box (.c (.agg [.int .i64 0,.af,.af,.af,.af,.af,.af]))),.s 7 11 48,.m 12 49,.m 13 50] (.s [.m 51 13,.r 52 7 11,.m 53 1,.c 54 28 [.t 52,.t 53],.v 55 .lss 54 .z,.c 56 19 [.t 55,.n 10],.o 57 (.aF 1 2 [.int .i64 0] [(0,.t 51),(1,.t 56)]),.c 58 21 [.t 57],.m 59 2,.c 60 29 [.t 59],.m 14 58,.m 15 60] (.s [.o 16 (.aI (.c .af))] (.s [.o 17 (.aI .z)] (.seq (.s [.m 61 14,.v 62 .eql 61 .z] (.i 62 (.ops [.m 63 0,.m 64 1,.c 65 30 [.t 63,.t 64],.m 16 65]) .skip)) (.seq (.s [.m 66 15,.v 67 .eql 66 .z] (.i 67 (.ops [.m 68 2,.c 69 31 [.t 68],.m 17 69]) .skip)) (.r [.m 70 7,.m 71 16,.c 72 32 [.t 70,.t 71],.m 73 72,.t 74 73 true 8,.t 75 73 true 14,.g 76 73 true (.bin .eql (.t 74) (.t 75)),.d 77 73 76,.m 78 77,.t 79 78 true 9,.t 80 78 true 17,.g 81 78 true (.bin .eql (.t 79) (.t 80)),.d 82 78 81,.m 83 82,.t 84 83 true 10,.t 85 83 true 15,.g 86 83 true (.bin .eql (.t 84) (.t 85)),.d 87 83 86,.m 88 87,.g 89 88 true (.call (.f 15) []),.d 90 88 89,.m 6 90])))))))))))⟩
def fn9:aq:=⟨174,2,[(4,none)],(.s [.p 3 1,.o 4 (.aI .F)] (.seq (.s [.m 23 0,.c 24 14 [.t 23,.n 24],.o 25 (.un .not (.t 24)),.m 26 25,.g 27 26 false (.iX 3 1 (.t 3) .z),.g 28 26 false (.load none (.t 27)),.g 29 26 false (.len .st (.t 28)),.g 30 26 false (.bin .gtr (.t 29) (.n 40)),.f 31 26 30,.m 32 31,.g 33 32 false (.iX 3 1 (.t 3) .w),.g 34 32 false (.load none (.t 33)),.g 35 32 false (.len .st (.t 34)),.g 36 32 false (.bin .gtr (.t 35) (.n 40)),.f 37 32 36,.m 38 37,.g 39 38 false (.iX 3 1 (.t 3) (.n 2)),.g 40 38 false (.load none (.t 39)),.g 41 38 false (.len .st (.t 40)),.g 42 38 false (.bin .gtr (.t 41) (.n 40)),.f 43 38 42] (.j 43 [.c 44 15 [],.m 4 44])) (.s [.m 46 0,.o 47 (.iX 3 1 (.t 3) .z),.l 48 47,.c 49 51 [.t 46,.t 48],.m 45 49,.e 50 45 0,.e 51 45 1,.m 5 50,.m 6 51] (.s [.m 53 0,.o 54 (.iX 3 1 (.t 3) .z),.l 55 54,.c 56 52 [.t 53,.t 55],.m 52 56,.e 57 52 0,.e 58 52 1,.m 7 57,.m 8 58] (.s [.m 60 0,.o 61 (.iX 3 1 (.t 3) .w),.l 62 61,.c 63 53 [.t 60,.t 62],.m 59 63,.e 64 59 0,.e 65 59 1,.m 9 64,.m 10 65] (.s [.m 67 0,.o 68 (.iX 3 1 (.t 3) (.n 2)),.l 69 68,.c 70 54 [.t 67,.t 69],.m 66 70,.e 71 66 0,.e 72 66 1,.m 11 71,.m 12 72] (.s [.m 74 0,.c 75 18 [.t 74],.m 73 75,.e 76 73 0,.e 77 73 1,.e 78 73 2,.o 13 (.box (.c (.agg [.int .i64 0,.af,.af,.af,.af,.af,.af]))),.s 7 13 76,.m 14 77,.m 15 78] (.s [.w 79 15,.y 80 (.load (some 7) (.t 13)),.y 81 (.iX 3 1 (.t 3) .z),.j 82 81,.y 83 (.call (.f 55) [.t 80,.t 82]),.y 84 (.bin .lss (.t 83) .z),.y 85 (.call (.f 19) [.t 84,.n 10]),.y 86 (.aF 1 2 [.int .i64 0] [(0,.t 79),(1,.t 85)]),.y 87 (.call (.f 21) [.t 86]),.w 88 15,.y 89 (.load (some 7) (.t 13)),.y 90 (.iX 3 1 (.t 3) .w),.j 91 90,.y 92 (.call (.f 56) [.t 89,.t 91]),.y 93 (.bin .lss (.t 92) .z),.y 94 (.call (.f 19) [.t 93,.n 10]),.y 95 (.aF 1 2 [.int .i64 0] [(0,.t 88),(1,.t 94)]),.y 96 (.call (.f 21) [.t 95]),.w 97 15,.y 98 (.load (some 7) (.t 13)),.y 99 (.iX 3 1 (.t 3) (.n 2)),.j 100 99,.y 101 (.call (.f 57) [.t 98,.t 100]),.y 102 (.bin .lss (.t 101) .z),.y 103 (.call (.f 19) [.t 102,.n 10]),.o 104 (.aF 1 2 [.int .i64 0] [(0,.t 97),(1,.t 103)]),.c 105 21 [.t 104],.m 16 87,.m 17 96,.m 18 105] (.s [.o 19 (.aI (.c .af)),.o 20 (.aI (.c .af)),.o 21 (.aI (.c .af))] (.s [.o 22 (.aI (.c .af))] (.seq (.s [.m 106 16,.v 107 .eql 106 .z] (.i 107 (.ops [.y 108 (.load (some 7) (.t 13)),.y 109 (.iX 3 1 (.t 3) .z),.j 110 109,.y 111 (.call (.f 58) [.t 108,.t 110]),.y 112 (.load (some 7) (.t 13)),.y 113 (.iX 3 1 (.t 3) .z),.j 114 113,.c 115 59 [.t 112,.t 114],.m 19 111,.m 20 115]) .skip)) (.seq (.s [.m 116 17,.v 117 .eql 116 .z] (.i 117 (.ops [.y 118 (.aR 5 (.t 13)),.j 119 118,.y 120 (.load (some 7) (.t 13)),.y 121 (.iX 3 1 (.t 3) .w),.j 122 121,.y 123 (.call (.f 56) [.t 120,.t 122]),.h 124 3 119 123,.r 125 3 124,.c 126 60 [.t 125],.m 22 126]) .skip)) (.seq (.s [.m 127 18,.v 128 .eql 127 .z] (.i 128 (.ops [.r 129 7 13,.o 130 (.iX 3 1 (.t 3) (.n 2)),.l 131 130,.c 132 61 [.t 129,.t 131],.m 21 132]) .skip)) (.r [.m 133 5,.m 134 19,.c 135 25 [.t 133,.t 134],.m 136 135,.t 137 136 true 6,.t 138 136 true 16,.g 139 136 true (.bin .eql (.t 137) (.t 138)),.d 140 136 139,.m 141 140,.t 142 141 true 7,.t 143 141 true 20,.g 144 141 true (.call (.f 25) [.t 142,.t 143]),.d 145 141 144,.m 146 145,.t 147 146 true 8,.t 148 146 true 16,.g 149 146 true (.bin .eql (.t 147) (.t 148)),.d 150 146 149,.m 151 150,.t 152 151 true 9,.t 153 151 true 22,.g 154 151 true (.call (.f 62) [.t 152,.t 153]),.d 155 151 154,.m 156 155,.t 157 156 true 10,.t 158 156 true 17,.g 159 156 true (.bin .eql (.t 157) (.t 158)),.d 160 156 159,.m 161 160,.t 162 161 true 11,.t 163 161 true 21,.g 164 161 true (.call (.f 25) [.t 162,.t 163]),.d 165 161 164,.m 166 165,.t 167 166 true 12,.t 168 166 true 18,.g 169 166 true (.bin .eql (.t 167) (.t 168)),.d 170 166 169,.m 171 170,.g 172 171 true (.call (.f 15) []),.d 173 171 172,.m 4 173]))))))))))))))⟩
def fn14:aq:=⟨71,2,[(4,none)],(.s [.o 4 (.aI .F)] (.seq (.s [.m 7 0,.n 8 7,.m 9 1,.u 10 .gtr 8 9] (.j 10 [.o 4 (.aI .F)])) (.seq (.s [.o 5 (.aI .z)] (.block 0 (.loop (.seq (.s [.m 11 5,.m 12 0,.n 13 12,.u 14 .lss 11 13] (.i 14 .skip (.exit 0))) (.seq (.block 1 (.seq (.s [.m 17 0,.m 18 5,.h 19 5 17 18,.a 20 1 19,.l 21 20,.o 22 (.len .st (.t 21)),.v 23 .gtr 22 (.n 40),.m 24 23,.t 25 24 false 0,.t 26 24 false 5,.g 27 24 false (.bf 5 (.t 25) (.t 26)),.g 28 24 false (.aR 2 (.t 27)),.g 29 24 false (.load none (.t 28)),.g 30 24 false (.len .sl (.t 29)),.g 31 24 false (.bin .gtr (.t 30) (.n 6)),.f 32 24 31,.m 33 32,.t 34 33 false 0,.t 35 33 false 5,.g 36 33 false (.bf 5 (.t 34) (.t 35)),.g 37 33 false (.aR 3 (.t 36)),.g 38 33 false (.load none (.t 37)),.g 39 33 false (.len .sl (.t 38)),.g 40 33 false (.bin .gtr (.t 39) (.n 8)),.f 41 33 40,.m 42 41,.t 43 42 false 0,.t 44 42 false 5,.g 45 42 false (.bf 5 (.t 43) (.t 44)),.g 46 42 false (.aR 4 (.t 45)),.g 47 42 false (.load none (.t 46)),.g 48 42 false (.len .st (.t 47)),.g 49 42 false (.bin .gtr (.t 48) (.n 200)),.f 50 42 49] (.j 50 [.o 4 (.aI .F)])) (.s [.o 6 (.aI .z)] (.block 2 (.loop (.seq (.s [.m 51 6,.m 52 0,.m 53 5,.h 54 5 52 53,.a 55 2 54,.l 56 55,.n 57 56,.u 58 .lss 51 57] (.i 58 .skip (.exit 2))) (.seq (.block 3 (.s [.m 61 0,.m 62 5,.h 63 5 61 62,.a 64 2 63,.l 65 64,.m 66 6,.h 67 1 65 66,.l 68 67,.o 69 (.len .st (.t 68)),.v 70 .gtr 69 (.n 40)] (.j 70 [.o 4 (.aI .F)]))) (.ops [.m 59 6,.v 60 .add 59 .w,.m 6 60])))))))) (.ops [.m 15 5,.v 16 .add 15 .w,.m 5 16])))))) (.r [.o 4 (.aI .T)]))))⟩
def fn15:aq:=⟨158,0,[(0,none)],(.s [.o 0 (.aI .F)] (.s [.c 19 70 [],.m 1 19] (.seq (.s [.m 20 1,.o 21 (.build [.str [],.str [],.int .i64 0] [(0,1,(.c (.str [116,97,112,101,32,97,32,49,32,49,48]))),(1,1,(.c (.str [100,111,110,101,32,49]))),(2,1,.z)]),.o 22 (.build [.str [],.str [],.int .i64 0] [(0,1,(.c (.str [116,97,112,101,32,98,32,53,32,49,48,48]))),(1,1,(.c (.str [100,111,110,101,32,50]))),(2,1,.z)]),.o 23 (.build [.str [],.str [],.int .i64 0] [(0,1,(.c (.str [108,105,110,101,32,108,49,32,53,32,50]))),(1,1,(.c (.str [100,111,110,101,32,51]))),(2,1,.z)]),.o 24 (.build [.str [],.str [],.int .i64 0] [(0,1,(.c (.str [115,104,111,116,32,115,49,32,108,49,32,97,32,54]))),(1,1,(.c (.str [100,111,110,101,32,52]))),(2,1,.z)]),.o 25 (.build [.str [],.str [],.int .i64 0] [(0,1,(.c (.str [115,104,111,116,32,115,50,32,108,49,32,98,32,55]))),(1,1,(.c (.str [100,111,110,101,32,53]))),(2,1,.z)]),.o 26 (.build [.str [],.str [],.int .i64 0] [(0,1,(.c (.str [99,111,112,121,32,97,32,98,32,56]))),(1,1,(.c (.str [100,111,110,101,32,54]))),(2,1,.z)]),.o 27 (.build [.str [],.str [],.int .i64 0] [(0,1,(.c (.str [116,97,112,101,115,32,115,49]))),(1,1,(.c (.str [97,32,98]))),(2,1,.z)]),.o 28 (.build [.str [],.str [],.int .i64 0] [(0,1,(.c (.str [99,111,112,121,32,97,32,98,32,49,50]))),(1,1,(.c (.str []))),(2,1,(.n 30))]),.o 29 (.build [.str [],.str [],.int .i64 0] [(0,1,(.c (.str [119,97,110,116,32,108,49]))),(1,1,(.c (.str [50,32,50,32,111,112,101,110]))),(2,1,.z)]),.o 30 (.build [.str [],.str [],.int .i64 0] [(0,1,(.c (.str [97,99,99,101,112,116,32,108,49,32,57]))),(1,1,(.c (.str [100,111,110,101,32,55]))),(2,1,.z)]),.o 31 (.build [.str [],.str [],.int .i64 0] [(0,1,(.c (.str [115,104,111,116,32,115,51,32,108,49,32,98,32,57]))),(1,1,(.c (.str []))),(2,1,(.n 23))]),.o 32 (.build [.str [],.str [],.int .i64 0] [(0,1,(.c (.str [115,111,117,114,99,101,32,109,49,32,108,49,32,57]))),(1,1,(.c (.str [100,111,110,101,32,56]))),(2,1,.z)]),.o 33 (.build [.str [],.str [],.int .i64 0] [(0,1,(.c (.str [109,111,100,117,108,101,32,109,50,32,109,49,32,57,32,50]))),(1,1,(.c (.str [100,111,110,101,32,57]))),(2,1,.z)]),.o 34 (.build [.str [],.str [],.int .i64 0] [(0,1,(.c (.str [109,111,100,117,108,101,32,109,51,32,109,50,32,57,32,51]))),(1,1,(.c (.str [100,111,110,101,32,49,48]))),(2,1,.z)]),.o 35 (.build [.str [],.str [],.int .i64 0] [(0,1,(.c (.str [109,111,100,117,108,101,32,109,52,32,109,49,32,57,32,51]))),(1,1,(.c (.str []))),(2,1,(.n 2))]),.o 36 (.build [.str [],.str [],.int .i64 0] [(0,1,(.c (.str [109,101,114,103,101,32,109,52,32,109,49,32,109,50,32,57]))),(1,1,(.c (.str []))),(2,1,(.n 2))]),.o 37 (.build [.str [],.str [],.int .i64 0] [(0,1,(.c (.str [114,117,110,32,106,49,32,109,51,32,49,48,32,51]))),(1,1,(.c (.str [100,111,110,101,32,49,49]))),(2,1,.z)]),.o 38 (.build [.str [],.str [],.int .i64 0] [(0,1,(.c (.str [116,105,108,101,32,106,49,32,49,48,32,50,32,55]))),(1,1,(.c (.str [100,111,110,101,32,49,50]))),(2,1,.z)]),.o 39 (.build [.str [],.str [],.int .i64 0] [(0,1,(.c (.str [116,105,108,101,32,106,49,32,49,48,32,48,32,53]))),(1,1,(.c (.str [100,111,110,101,32,49,51]))),(2,1,.z)]),.o 40 (.build [.str [],.str [],.int .i64 0] [(0,1,(.c (.str [108,101,102,116,32,106,49]))),(1,1,(.c (.str [49]))),(2,1,.z)]),.o 41 (.build [.str [],.str [],.int .i64 0] [(0,1,(.c (.str [102,97,105,108,32,106,49,32,49,49,32,50]))),(1,1,(.c (.str [100,111,110,101,32,49,52]))),(2,1,.z)]),.o 42 (.build [.str [],.str [],.int .i64 0] [(0,1,(.c (.str [108,101,102,116,32,106,49]))),(1,1,(.c (.str [49,32,50]))),(2,1,.z)]),.o 43 (.build [.str [],.str [],.int .i64 0] [(0,1,(.c (.str [112,105,99,116,117,114,101,32,112,49,32,106,49,32,49,49]))),(1,1,(.c (.str []))),(2,1,(.n 32))]),.o 44 (.build [.str [],.str [],.int .i64 0] [(0,1,(.c (.str [116,105,108,101,32,106,49,32,49,49,32,49,32,54]))),(1,1,(.c (.str [100,111,110,101,32,49,53]))),(2,1,.z)]),.o 45 (.build [.str [],.str [],.int .i64 0] [(0,1,(.c (.str [116,105,108,101,32,106,49,32,49,49,32,50,32,55]))),(1,1,(.c (.str [100,111,110,101,32,49,54]))),(2,1,.z)]),.o 46 (.build [.str [],.str [],.int .i64 0] [(0,1,(.c (.str [112,105,99,116,117,114,101,32,112,49,32,106,49,32,49,50]))),(1,1,(.c (.str [100,111,110,101,32,49,55]))),(2,1,.z)]),.o 47 (.build [.str [],.str [],.int .i64 0] [(0,1,(.c (.str [102,114,111,109,32,112,49]))),(1,1,(.c (.str [115,49,32,115,50]))),(2,1,.z)]),.o 48 (.build [.str [],.str [],.int .i64 0] [(0,1,(.c (.str [108,105,110,101,115,32,109,51]))),(1,1,(.c (.str [108,49]))),(2,1,.z)]),.o 49 (.build [.str [],.str [],.int .i64 0] [(0,1,(.c (.str [117,110,115,97,102,101]))),(1,1,(.c (.str [110,111,110,101]))),(2,1,.z)]),.o 50 (.build [.str [],.str [],.int .i64 0] [(0,1,(.c (.str [114,101,108,101,97,115,101,32,112,49,32,49,50]))),(1,1,(.c (.str [100,111,110,101,32,49,56]))),(2,1,.z)]),.o 51 (.build [.str [],.str [],.int .i64 0] [(0,1,(.c (.str [117,110,100,111]))),(1,1,(.c (.str []))),(2,1,(.n 21))]),.o 52 (.build [.str [],.str [],.int .i64 0] [(0,1,(.c (.str [114,101,108,101,97,115,101,100]))),(1,1,(.c (.str [112,49,32,53,50,57,49,55,52]))),(2,1,.z)]),.o 53 (.aF 3 32 [.str [],.str [],.int .i64 0] [(0,.t 21),(3,.t 22),(6,.t 23),(9,.t 24),(12,.t 25),(15,.t 26),(18,.t 27),(21,.t 28),(24,.t 29),(27,.t 30),(30,.t 31),(33,.t 32),(36,.t 33),(39,.t 34),(42,.t 35),(45,.t 36),(48,.t 37),(51,.t 38),(54,.t 39),(57,.t 40),(60,.t 41),(63,.t 42),(66,.t 43),(69,.t 44),(72,.t 45),(75,.t 46),(78,.t 47),(81,.t 48),(84,.t 49),(87,.t 50),(90,.t 51),(93,.t 52)]),.c 54 71 [.t 20,.t 53],.o 55 (.un .not (.t 54))] (.j 55 [.o 0 (.aI .F)])) (.s [.m 56 1,.c 57 44 [.t 56],.m 2 57] (.seq (.s [.m 58 2,.n 59 58,.v 60 .neq 59 (.n 18)] (.j 60 [.o 0 (.aI .F)])) (.s [.m 62 2,.o 63 (.sl 5 (.t 62) none (some (.n 5))),.o 64 (.call (.f 16) [.t 63,(.c (.str [115,49])),.n 12]),.m 61 64,.e 65 61 0,.e 66 61 1,.m 3 65,.m 4 66] (.s [.m 68 2,.o 69 (.call (.f 16) [.t 68,(.c (.str [115,49])),.n 105]),.m 67 69,.e 70 67 0,.e 71 67 1,.m 5 70,.m 6 71] (.s [.m 73 2,.c 74 17 [.t 73,.n 106],.m 72 74,.e 75 72 0,.e 76 72 1,.m 7 75,.m 8 76] (.s [.m 78 2,.o 79 (.call (.f 51) [.t 78,(.c (.str [109,51]))]),.m 77 79,.e 80 77 0,.e 81 77 1,.m 9 80,.m 10 81] (.s [.o 83 (.aF 1 3 [.int .i64 0] [(0,(.n 5)),(1,(.n 6)),(2,(.n 7))]),.c 84 27 [.t 83],.m 82 84,.e 85 82 0,.e 86 82 1,.m 11 85,.m 12 86] (.s [.m 88 2,.o 89 (.call (.f 26) [.t 88,(.c (.str [108,49]))]),.m 87 89,.e 90 87 0,.e 91 87 1,.m 13 90,.m 14 91] (.s [.m 92 1,.c 93 45 [.t 92],.m 15 93] (.s [.m 95 15,.v 96 .add 95 (.c (.str [49])),.c 97 37 [.t 96],.m 94 97,.e 98 94 0,.e 99 94 1,.e 100 94 2,.m 16 98,.m 17 99,.m 18 100] (.r [.m 101 4,.m 102 6,.u 103 .add 101 102,.m 104 8,.u 105 .add 103 104,.m 106 10,.u 107 .add 105 106,.m 108 12,.u 109 .add 107 108,.m 110 14,.u 111 .add 109 110,.v 112 .eql 111 .z,.m 113 112,.t 114 113 true 3,.g 115 113 true (.un .not (.t 114)),.d 116 113 115,.m 117 116,.t 118 117 true 5,.d 119 117 118,.m 120 119,.t 121 120 true 7,.g 122 120 true (.aF 1 2 [.str []] [(0,(.c (.str [115,49]))),(1,(.c (.str [115,50])))]),.g 123 120 true (.call (.f 25) [.t 121,.t 122]),.d 124 120 123,.m 125 124,.t 126 125 true 9,.g 127 125 true (.aF 1 3 [.str []] [(0,(.c (.str [109,49]))),(1,(.c (.str [109,50]))),(2,(.c (.str [109,51])))]),.g 128 125 true (.call (.f 25) [.t 126,.t 127]),.d 129 125 128,.m 130 129,.t 131 130 true 11,.g 132 130 true (.bin .eql (.t 131) (.n 529174)),.d 133 130 132,.m 134 133,.t 135 134 true 13,.g 136 134 true (.len .sl (.t 135)),.g 137 134 true (.bin .eql (.t 136) (.n 8)),.d 138 134 137,.m 139 138,.t 140 139 true 18,.g 141 139 true (.bin .eql (.t 140) (.n 28)),.d 142 139 141,.m 143 142,.t 144 143 true 16,.g 145 143 true (.len .sl (.t 144)),.g 146 143 true (.bin .eql (.t 145) (.n 18)),.d 147 143 146,.m 148 147,.t 149 148 true 17,.t 150 148 true 15,.g 151 148 true (.len .st (.t 150)),.g 152 148 true (.bin .eql (.t 149) (.t 151)),.d 153 148 152,.m 154 153,.g 155 154 true (.call (.f 72) [(.c (.str [49,49]))]),.g 156 154 true (.bin .eql (.t 155) (.c (.str [48,49,51,49,53,56,49]))),.d 157 154 156,.m 0 157]))))))))))))))⟩
def fn16:aq:=⟨31,3,[(6,none),(7,none)],(.s [.o 6 (.aI .F),.o 7 (.aI .z)] (.s [.m 12 0,.m 13 1,.c 14 73 [.t 12,.n 2,.t 13],.m 11 14,.e 15 11 0,.e 16 11 1,.o 8 (.box (.c (.agg [.int .i64 0,.af,.af,.af,.af,.af,.af]))),.s 7 8 15,.m 9 16] (.seq (.s [.m 17 9,.m 18 2,.c 19 75 [.t 18],.o 20 (.aF 1 2 [.int .i64 0] [(0,.t 17),(1,.t 19)]),.c 21 74 [.t 20],.m 10 21] (.s [.m 22 10,.v 23 .neq 22 .z] (.j 23 [.m 24 10,.o 6 (.aI .F),.m 7 24]))) (.r [.y 25 (.load (some 7) (.t 8)),.y 26 (.load (some 7) (.t 8)),.w 27 1,.y 28 (.call (.f 77) [.t 26,.t 27]),.w 29 2,.c 30 76 [.t 25,.t 28,.t 29],.m 6 30,.o 7 (.aI .z)]))))⟩
def fn17:aq:=⟨28,2,[(4,none),(5,none)],(.s [.o 4 (.aI (.c .af)),.o 5 (.aI .z)] (.s [.m 11 0,.c 12 78 [.t 11],.m 10 12,.e 13 10 0,.e 14 10 1,.e 15 10 2,.m 6 13,.m 7 14,.m 8 15] (.seq (.s [.m 16 8,.m 17 1,.c 18 75 [.t 17],.o 19 (.aF 1 2 [.int .i64 0] [(0,.t 16),(1,.t 18)]),.c 20 74 [.t 19],.m 9 20] (.s [.m 21 9,.v 22 .neq 21 .z] (.j 22 [.m 23 9,.o 4 (.aI (.c .af)),.m 5 23]))) (.r [.m 24 6,.c 25 79 [.t 24],.m 26 1,.c 27 80 [.t 25,.t 26],.m 4 27,.o 5 (.aI .z)]))))⟩
def fn18:aq:=⟨19,1,[(2,some (some 7)),(3,none),(4,none)],(.s [.o 2 (.box (.c (.agg [.int .i64 0,.af,.af,.af,.af,.af,.af]))),.o 3 (.aI .z),.o 4 (.aI .z)] (.s [.m 10 0,.c 11 81 [.t 10],.m 9 11,.e 12 9 0,.e 13 9 1,.e 14 9 2,.e 15 9 3,.o 6 (.box (.c (.agg [.int .i64 0,.af,.af,.af,.af,.af,.af]))),.m 5 12,.s 7 6 13,.m 7 14,.m 8 15] (.r [.r 16 7 6,.m 17 7,.m 18 8,.s 7 2 16,.m 3 17,.m 4 18])))⟩
def zt(x0:Nat):aq:=⟨8,2,[(4,none)],(.s [.o 4 (.aI .z)] (.r [.m 5 0,.m 6 1,.c 7 x0 [.t 5,.t 6],.m 4 7]))⟩
def fn19:aq:=zt 82
def fn20:aq:=⟨15,3,[(6,none)],(.s [.o 6 (.aI .F)] (.r [.m 7 0,.m 8 1,.u 9 .lss 7 8,.m 10 9,.t 11 10 false 0,.t 12 10 false 2,.g 13 10 false (.bin .gtr (.t 11) (.t 12)),.f 14 10 13,.m 6 14]))⟩
def fn21:aq:=⟨5,1,[(2,none)],(.s [.o 2 (.aI .z)] (.r [.m 3 0,.c 4 83 [.t 3],.m 2 4]))⟩
def uP(x0 x1:Nat):aq:=⟨22,2,[(4,none)],(.s [.p 2 0,.o 4 (.aI .z)] (.seq (.s [.o 5 (.aI .z)] (.block 0 (.loop (.seq (.s [.m 6 5,.a 7 x0 2,.l 8 7,.n 9 8,.u 10 .lss 6 9] (.i 10 .skip (.exit 0))) (.seq (.block 1 (.s [.a 13 x0 2,.l 14 13,.m 15 5,.h 16 x1 14 15,.a 17 0 16,.l 18 17,.m 19 1,.u 20 .eql 18 19] (.j 20 [.m 21 5,.m 4 21]))) (.ops [.m 11 5,.v 12 .add 11 .w,.m 5 12])))))) (.r [.o 4 (.aI (.n (-1)))])))⟩
def fn22:aq:=uP 3 3
def fn23:aq:=⟨23,3,[(6,none)],(.s [.p 3 0,.p 4 1,.o 6 (.aI .F)] (.seq (.s [.o 7 (.aI .z)] (.block 0 (.loop (.seq (.s [.m 8 7,.a 9 2 4,.l 10 9,.n 11 10,.u 12 .lss 8 11] (.i 12 .skip (.exit 0))) (.seq (.block 1 (.s [.y 15 (.load (some 7) (.t 3)),.y 16 (.aR 2 (.t 4)),.j 17 16,.w 18 7,.y 19 (.bf 1 (.t 17) (.t 18)),.j 20 19,.w 21 2,.c 22 84 [.t 15,.t 20,.t 21]] (.j 22 [.o 6 (.aI .T)]))) (.ops [.m 13 7,.v 14 .add 13 .w,.m 7 14])))))) (.r [.o 6 (.aI .F)])))⟩
def Dm:aq:=⟨26,2,[(4,none)],(.s [.o 4 (.aI .F)] (.seq (.s [.m 6 0,.n 7 6,.m 8 1,.n 9 8,.u 10 .neq 7 9] (.j 10 [.o 4 (.aI .F)])) (.seq (.s [.o 5 (.aI .z)] (.block 0 (.loop (.seq (.s [.m 11 5,.m 12 0,.n 13 12,.u 14 .lss 11 13] (.i 14 .skip (.exit 0))) (.seq (.block 1 (.s [.w 17 0,.w 18 5,.y 19 (.bf 1 (.t 17) (.t 18)),.j 20 19,.w 21 1,.w 22 5,.y 23 (.bf 1 (.t 21) (.t 22)),.j 24 23,.u 25 .neq 20 24] (.j 25 [.o 4 (.aI .F)]))) (.ops [.m 15 5,.v 16 .add 15 .w,.m 5 16])))))) (.r [.o 4 (.aI .T)]))))⟩
def fn25:aq:=Dm
def fn26:aq:=⟨54,2,[(4,none),(5,none)],(.s [.p 3 1,.o 4 (.aI (.c .af)),.o 5 (.aI .z)] (.s [.m 13 0,.c 14 78 [.t 13],.m 12 14,.e 15 12 0,.e 16 12 1,.e 17 12 2,.m 6 15,.m 7 16,.m 8 17] (.seq (.s [.w 18 8,.w 19 8,.y 20 (.bin .eql (.t 19) .z),.w 21 20,⟨(some 22),.aI (.t 6),(some (21,true)),true⟩,⟨(some 23),.call (.f 79) [.t 22],(some (21,true)),true⟩,⟨(some 24),.load none (.t 3),(some (21,true)),true⟩,⟨(some 25),.call (.f 86) [.t 23,.z,.t 24],(some (21,true)),true⟩,⟨(some 26),.un .not (.t 25),(some (21,true)),true⟩,.y 27 (.pick (.t 21) (.t 26) .F),.y 28 (.call (.f 85) [.t 27,.n 10]),.o 29 (.aF 1 2 [.int .i64 0] [(0,.t 18),(1,.t 28)]),.c 30 74 [.t 29],.m 9 30] (.s [.m 31 9,.v 32 .neq 31 .z] (.j 32 [.m 33 9,.o 4 (.aI (.c .af)),.m 5 33]))) (.s [.m 34 6,.o 35 (.bz (.t 34)),.a 36 1 35,.l 37 36,.o 38 (.kY (.func 89) [] [.t 3]),.c 39 88 [.t 37,.t 38],.c 40 87 [.t 39,(.f 91)],.m 10 40] (.seq (.s [.m 41 10,.n 42 41,.o 43 (.aI .z)] (.block 0 (.loop (.s [.u 44 .lss 43 42] (.seq (.i 44 .skip (.exit 0)) (.seq (.block 1 (.s [.m 45 43,.m 11 45] (.ops [.m 46 10,.m 47 11,.m 48 11,.v 49 .add 48 .w,.h 50 5 46 47,.a 51 0 50,.s 1 51 49]))) (.ops [.v 52 .add 43 .w,.m 43 52]))))))) (.r [.m 53 10,.m 4 53,.o 5 (.aI .z)]))))))⟩
def fn27:aq:=⟨27,1,[(2,none),(3,none)],(.s [.o 2 (.aI .z),.o 3 (.aI .z)] (.seq (.s [.m 6 0,.n 7 6,.v 8 .eql 7 .z,.c 9 85 [.t 8,.n 12],.m 10 0,.n 11 10,.v 12 .gtr 11 (.n 32),.c 13 85 [.t 12,.n 5],.o 14 (.aF 1 2 [.int .i64 0] [(0,.t 9),(1,.t 13)]),.c 15 74 [.t 14],.m 4 15] (.s [.m 16 4,.v 17 .neq 16 .z] (.j 17 [.m 18 4,.o 2 (.aI .z),.m 3 18]))) (.seq (.s [.m 19 0,.c 20 92 [.t 19,(.f 93)],.c 21 74 [.t 20],.m 5 21] (.s [.m 22 5,.v 23 .neq 22 .z] (.j 23 [.m 24 5,.o 2 (.aI .z),.m 3 24]))) (.r [.m 25 0,.c 26 95 [.t 25],.m 2 26,.o 3 (.aI .z)]))))⟩
def fn28:aq:=uP 1 3
def fn31:aq:=⟨20,1,[(2,none)],(.s [.o 2 (.aI .z)] (.s [.o 3 (.aI .w)] (.seq (.s [.o 4 (.aI .z)] (.block 0 (.loop (.seq (.s [.m 5 4,.m 6 0,.n 7 6,.u 8 .lss 5 7] (.i 8 .skip (.exit 0))) (.seq (.block 1 (.ops [.m 11 3,.b 12 .mul (.n 257) (.t 11),.m 13 0,.m 14 4,.h 15 1 13 14,.l 16 15,.u 17 .add 12 16,.v 18 .rem 17 (.n 16777213),.m 3 18])) (.ops [.m 9 4,.v 10 .add 9 .w,.m 4 10])))))) (.r [.m 19 3,.m 2 19]))))⟩
def fn35:aq:=⟨18,2,[(4,none)],(.s [.o 4 (.aI .F)] (.seq (.s [.o 5 (.aI .z)] (.block 0 (.loop (.seq (.s [.m 6 5,.m 7 0,.n 8 7,.u 9 .lss 6 8] (.i 9 .skip (.exit 0))) (.seq (.block 1 (.s [.m 12 0,.m 13 5,.h 14 1 12 13,.l 15 14,.m 16 1,.u 17 .eql 15 16] (.j 17 [.o 4 (.aI .T)]))) (.ops [.m 10 5,.v 11 .add 10 .w,.m 5 11])))))) (.r [.o 4 (.aI .F)])))⟩
def fn37:aq:=⟨55,1,[(2,none),(3,none),(4,none)],(.s [.o 2 (.aI (.c .af)),.o 3 (.aI .z),.o 4 (.aI .z)] (.seq (.s [.m 12 0,.o 13 (.len .st (.t 12)),.v 14 .gtr 13 (.n 1000000)] (.j 14 [.o 2 (.aI (.c .af)),.o 3 (.aI .z),.o 4 (.aI (.n 26))])) (.s [.o 5 (.aI (.c .af))] (.s [.o 6 (.aI .z)] (.seq (.block 0 (.loop (.seq (.s [.m 15 6,.m 16 0,.o 17 (.len .st (.t 16)),.u 18 .lss 15 17] (.i 18 .skip (.exit 0))) (.block 1 (.s [.m 20 0,.m 21 6,.o 22 (.pO (.t 20) (some (.t 21)) none),.o 23 (.call (.f 98) [.t 22,(.c (.str [10]))]),.m 19 23,.e 24 19 0,.e 25 19 1,.e 26 19 2,.m 7 24,.m 8 25,.m 9 26] (.seq (.s [.m 27 9,.o 28 (.un .not (.t 27))] (.j 28 [.m 29 5,.m 30 6,.m 2 29,.m 3 30,.o 4 (.aI (.n 28))])) (.s [.m 32 7,.m 33 5,.n 34 33,.v 35 .add 34 .w,.c 36 99 [.t 32,.t 35],.m 31 36,.e 37 31 0,.e 38 31 1,.o 10 (.box (.c (.agg [.int .i64 0,.str [],.af,.af,.str []]))),.s 5 10 37,.m 11 38] (.seq (.s [.m 39 11,.v 40 .neq 39 .z] (.j 40 [.m 41 5,.m 42 6,.m 43 11,.m 2 41,.m 3 42,.m 4 43])) (.s [.m 44 5,.r 45 5 10,.o 46 (.aF 5 1 [.int .i64 0,.str [],.af,.af,.str []] [(0,.t 45)]),.o 47 (.app 5 88 (.t 44) (.t 46)),.m 5 47] (.ops [.m 48 6,.m 49 7,.o 50 (.len .st (.t 49)),.v 51 .add 50 .w,.u 52 .add 48 51,.m 6 52])))))))))) (.r [.m 53 5,.m 54 6,.m 2 53,.m 3 54,.o 4 (.aI .z)]))))))⟩
def fn39:aq:=⟨59,1,[(2,none)],(.s [.p 1 0,.o 2 (.aI .z)] (.seq (.s [.a 6 0 1,.l 7 6,.c 8 20 [.t 7,.w,.n 1000]] (.j 8 [.o 2 (.aI (.n 3))])) (.s [.a 9 1 1,.l 10 9,.c 11 101 [.t 10],.o 3 (.box (.c (.agg [.str [],.int .i64 0,.bool false]))),.s 3 3 11] (.seq (.s [.a 12 2 3,.l 13 12,.o 14 (.un .not (.t 13))] (.j 14 [.o 2 (.aI (.n 13))])) (.seq (.s [.a 15 2 1,.l 16 15,.n 17 16,.a 18 0 3,.l 19 18,.o 20 (.len .st (.t 19)),.u 21 .neq 17 20,.m 22 21,.g 23 22 false (.aR 3 (.t 1)),.g 24 22 false (.load none (.t 23)),.g 25 22 false (.len .sl (.t 24)),.g 26 22 false (.aR 1 (.t 3)),.g 27 22 false (.load none (.t 26)),.g 28 22 false (.bin .neq (.t 25) (.t 27)),.f 29 22 28] (.j 29 [.o 2 (.aI (.n 2))])) (.seq (.s [.o 4 (.aI .z)] (.block 0 (.loop (.seq (.s [.m 30 4,.a 31 0 3,.l 32 31,.o 33 (.len .st (.t 32)),.u 34 .lss 30 33] (.i 34 .skip (.exit 0))) (.seq (.block 1 (.s [.a 37 2 1,.l 38 37,.m 39 4,.h 40 1 38 39,.l 41 40,.c 42 102 [.t 41],.o 43 (.un .not (.t 42))] (.j 43 [.o 2 (.aI (.n 8))]))) (.ops [.m 35 4,.v 36 .add 35 .w,.m 4 36])))))) (.seq (.s [.o 5 (.aI .z)] (.block 2 (.loop (.seq (.s [.m 44 5,.a 45 1 3,.l 46 45,.u 47 .lss 44 46] (.i 47 .skip (.exit 2))) (.seq (.block 3 (.s [.a 50 3 1,.l 51 50,.m 52 5,.h 53 1 51 52,.l 54 53,.c 55 20 [.t 54,.z,.n 999999999]] (.j 55 [.o 2 (.aI (.n 3))]))) (.ops [.m 48 5,.v 49 .add 48 .w,.m 5 49])))))) (.seq (.s [.a 56 4 1,.l 57 56,.v 58 .neq 57 (.c (.str []))] (.j 58 [.o 2 (.aI .w)])) (.r [.o 2 (.aI .z)])))))))))⟩
def fn43:aq:=⟨97,2,[(4,none),(5,none)],(.s [.o 4 (.aI (.c (.str []))),.o 5 (.aI .z)] (.seq (.s [.m 16 0,.o 17 (.eqv false .xN (.t 16) (.c .nilPtr))] (.j 17 [.o 4 (.aI (.c (.str []))),.o 5 (.aI (.n 22))])) (.seq (.s [.m 18 1,.o 19 (.len .st (.t 18)),.v 20 .gtr 19 (.n 4096),.c 21 85 [.t 20,.n 26],.m 22 1,.v 23 .eql 22 (.c (.str [])),.c 24 85 [.t 23,.n 25],.o 25 (.aF 1 2 [.int .i64 0] [(0,.t 21),(1,.t 24)]),.c 26 74 [.t 25],.m 6 26] (.s [.m 27 6,.v 28 .neq 27 .z] (.j 28 [.m 29 6,.o 4 (.aI (.c (.str []))),.m 5 29]))) (.s [.m 30 1,.o 31 (.call (.f 64) [.t 30,(.c (.str [32]))]),.m 7 31] (.seq (.s [.y 33 (.call (.f 109) []),.w 34 7,.y 35 (.bf 1 (.t 34) .z),.j 36 35,.y 37 (.look .s (.agg [.bool false,.int .i64 0,.nilFunc]) true (.t 33) (.t 36)),.w 32 37,.y 38 (.ext (.t 32) 0),.y 39 (.ext (.t 32) 1),⟨none,.aI .F,none,true⟩,.y 8 (.nw 3 (.t 38)),.m 9 39] (.s [.m 40 9] (.j 40 [.m 41 0,.m 42 7,.c 43 110 [.t 41,.t 42],.e 44 43 0,.e 45 43 1,.m 4 44,.m 5 45]))) (.seq (.s [.y 47 (.call (.f 90) []),.w 48 7,.y 49 (.bf 1 (.t 48) .z),.j 50 49,.y 51 (.look .s (.agg [.af,.int .i64 0,.nilFunc,.nilFunc,.nilFunc]) true (.t 47) (.t 50)),.w 46 51,.y 52 (.ext (.t 46) 0),.y 53 (.ext (.t 46) 1),⟨none,.aI .F,none,true⟩,.y 10 (.nw 5 (.t 52)),.m 11 53] (.s [.m 54 11,.o 55 (.un .not (.t 54))] (.j 55 [.o 4 (.aI (.c (.str []))),.o 5 (.aI (.n 13))]))) (.s [.m 57 7,.c 58 111 [.t 57],.m 56 58,.e 59 56 0,.e 60 56 1,.o 12 (.box (.c (.agg [.int .i64 0,.str [],.af,.af,.str []]))),.s 5 12 59,.m 13 60] (.seq (.s [.w 61 13,.y 62 (.un .not (.t 61)),.y 63 (.call (.f 85) [.t 62,.n 25]),.w 64 0,.y 65 (.bz (.t 64)),.y 66 (.aR 0 (.t 65)),.y 67 (.aR 0 (.t 66)),.j 68 67,.y 69 (.len .sl (.t 68)),.y 70 (.bin .geq (.t 69) (.n 1000)),.c 71 85 [.t 70,.n 5],.o 72 (.aF 1 2 [.int .i64 0] [(0,.t 63),(1,.t 71)]),.c 73 74 [.t 72],.m 14 73] (.s [.m 74 14,.v 75 .neq 74 .z] (.j 75 [.m 76 14,.o 4 (.aI (.c (.str []))),.m 5 76]))) (.s [.m 77 0,.o 78 (.bz (.t 77)),.a 79 0 78,.a 80 0 79,.l 81 80,.n 82 81,.v 83 .add 82 .w,.a 84 0 12,.s 1 84 83] (.seq (.s [.w 85 0,.y 86 (.bz (.t 85)),.y 87 (.aR 0 (.t 86)),.y 88 (.load (some 5) (.t 12)),.c 89 112 [.t 87,.t 88],.m 15 89] (.s [.m 90 15,.v 91 .neq 90 .z] (.j 91 [.m 92 15,.o 4 (.aI (.c (.str []))),.m 5 92]))) (.r [.a 93 0 12,.l 94 93,.c 95 113 [.t 94],.b 96 .add (.c (.str [100,111,110,101,32])) (.t 95),.m 4 96,.o 5 (.aI .z)])))))))))))⟩
def fn44:aq:=⟨11,1,[(2,none)],(.s [.o 2 (.aI (.c .af))] (.seq (.s [.m 3 0,.o 4 (.eqv false .xN (.t 3) (.c .nilPtr))] (.j 4 [.o 2 (.aI (.c .af))])) (.r [.m 5 0,.o 6 (.bz (.t 5)),.a 7 0 6,.a 8 0 7,.l 9 8,.c 10 87 [.t 9,(.f 91)],.m 2 10])))⟩
def fn45:aq:=⟨12,1,[(2,none)],(.s [.o 2 (.aI (.c (.str [])))] (.seq (.s [.m 3 0,.o 4 (.eqv false .xN (.t 3) (.c .nilPtr))] (.j 4 [.o 2 (.aI (.c (.str [])))])) (.r [.m 5 0,.o 6 (.bz (.t 5)),.a 7 0 6,.a 8 0 7,.l 9 8,.c 10 115 [.t 9,(.f 97)],.o 11 (.call (.f 114) [.t 10,(.c (.str []))]),.m 2 11])))⟩
def fn51:aq:=⟨22,2,[(4,none),(5,none)],(.s [.o 4 (.aI (.c .af)),.o 5 (.aI .z)] (.s [.m 9 0,.m 10 1,.c 11 73 [.t 9,.n 3,.t 10],.m 8 11,.e 12 8 0,.e 13 8 1,.o 6 (.box (.c (.agg [.int .i64 0,.af,.af,.af,.af,.af,.af]))),.s 7 6 12,.m 7 13] (.seq (.s [.m 14 7,.v 15 .neq 14 .z] (.j 15 [.m 16 7,.o 4 (.aI (.c .af)),.m 5 16])) (.r [.r 17 7 6,.m 18 1,.c 19 119 [.t 17,.t 18],.c 20 118 [.t 19],.c 21 117 [.t 20,(.f 120)],.m 4 21,.o 5 (.aI .z)]))))⟩
def fn52:aq:=⟨21,2,[(4,none),(5,none)],(.s [.o 4 (.aI (.c .af)),.o 5 (.aI .z)] (.s [.m 9 0,.m 10 1,.c 11 73 [.t 9,.n 3,.t 10],.m 8 11,.e 12 8 0,.e 13 8 1,.o 6 (.box (.c (.agg [.int .i64 0,.af,.af,.af,.af,.af,.af]))),.s 7 6 12,.m 7 13] (.seq (.s [.m 14 7,.v 15 .neq 14 .z] (.j 15 [.m 16 7,.o 4 (.aI (.c .af)),.m 5 16])) (.r [.r 17 7 6,.m 18 1,.c 19 122 [.t 17,.t 18],.c 20 121 [.t 19,(.f 123)],.m 4 20,.o 5 (.aI .z)]))))⟩
def fn53:aq:=⟨21,2,[(4,none),(5,none)],(.s [.o 4 (.aI (.c .af)),.o 5 (.aI .z)] (.s [.m 9 0,.m 10 1,.c 11 73 [.t 9,.n 4,.t 10],.m 8 11,.e 12 8 0,.e 13 8 1,.o 6 (.box (.c (.agg [.int .i64 0,.af,.af,.af,.af,.af,.af]))),.s 7 6 12,.m 7 13] (.seq (.s [.m 14 7,.v 15 .neq 14 .z] (.j 15 [.m 16 7,.o 4 (.aI (.c .af)),.m 5 16])) (.r [.r 17 7 6,.m 18 1,.c 19 124 [.t 17,.t 18],.c 20 125 [.t 19],.m 4 20,.o 5 (.aI .z)]))))⟩
def fn54:aq:=⟨20,2,[(4,none),(5,none)],(.s [.o 4 (.aI (.c .af)),.o 5 (.aI .z)] (.s [.m 9 0,.m 10 1,.c 11 73 [.t 9,.n 5,.t 10],.m 8 11,.e 12 8 0,.e 13 8 1,.o 6 (.box (.c (.agg [.int .i64 0,.af,.af,.af,.af,.af,.af]))),.s 7 6 12,.m 7 13] (.seq (.s [.m 14 7,.v 15 .neq 14 .z] (.j 15 [.m 16 7,.o 4 (.aI (.c .af)),.m 5 16])) (.r [.r 17 7 6,.m 18 1,.c 19 126 [.t 17,.t 18],.m 4 19,.o 5 (.aI .z)]))))⟩
def fn55:aq:=uP 4 4
def fn56:aq:=uP 5 3
def fn57:aq:=uP 6 4
def fn58:aq:=⟨60,2,[(4,none)],(.s [.p 2 0,.o 4 (.aI (.c .af))] (.s [.m 10 1,.o 11 (.aF 1 1 [.str []] [(0,.t 10)]),.m 5 11] (.seq (.s [.a 12 4 2,.l 13 12,.n 14 13,.v 15 .sub 14 .w,.m 6 15] (.block 0 (.loop (.seq (.s [.m 16 6,.v 17 .geq 16 .z] (.i 17 .skip (.exit 0))) (.seq (.block 1 (.s [.a 20 4 2,.l 21 20,.m 22 6,.h 23 4 21 22,.r 24 4 23,.o 7 (.box (.c (.agg [.str [],.str [],.str [],.af]))),.s 4 7 24] (.s [.m 25 5,.a 26 0 7,.l 27 26,.c 28 35 [.t 25,.t 27]] (.i 28 (.lD [.o 29 (.aF 1 0 [.str []] []),.m 30 5,.o 31 (.app 1 16 (.t 29) (.t 30)),.a 32 3 7,.j 33 32,.o 34 (.app 1 16 (.t 31) (.t 33)),.m 5 34]) .skip)))) (.ops [.m 18 6,.v 19 .sub 18 .w,.m 6 19])))))) (.s [.o 8 (.aI (.c .af))] (.seq (.s [.o 9 (.aI .z)] (.block 2 (.loop (.seq (.s [.m 35 9,.a 36 4 2,.l 37 36,.n 38 37,.u 39 .lss 35 38] (.i 39 .skip (.exit 2))) (.seq (.block 3 (.s [.m 42 5,.a 43 4 2,.l 44 43,.m 45 9,.h 46 4 44 45,.a 47 0 46,.l 48 47,.c 49 35 [.t 42,.t 48]] (.i 49 (.ops [.m 50 8,.a 51 4 2,.l 52 51,.m 53 9,.h 54 4 52 53,.a 55 0 54,.l 56 55,.o 57 (.aF 1 1 [.str []] [(0,.t 56)]),.o 58 (.app 1 16 (.t 50) (.t 57)),.m 8 58]) .skip))) (.ops [.m 40 9,.v 41 .add 40 .w,.m 9 41])))))) (.r [.m 59 8,.m 4 59]))))))⟩
def fn59:aq:=⟨64,2,[(4,none)],(.s [.p 2 0,.o 4 (.aI (.c .af))] (.s [.r 11 7 2,.m 12 1,.c 13 58 [.t 11,.t 12],.m 5 13] (.s [.o 6 (.aI (.c .af)),.o 7 (.aI (.c .af))] (.seq (.s [.o 8 (.aI .z)] (.block 0 (.loop (.seq (.s [.m 14 8,.m 15 5,.n 16 15,.u 17 .lss 14 16] (.i 17 .skip (.exit 0))) (.seq (.block 1 (.s [.y 20 (.aR 4 (.t 2)),.j 21 20,.y 22 (.load (some 7) (.t 2)),.w 23 5,.w 24 8,.y 25 (.bf 1 (.t 23) (.t 24)),.j 26 25,.y 27 (.call (.f 55) [.t 22,.t 26]),.y 28 (.bf 4 (.t 21) (.t 27)),.y 29 (.load (some 4) (.t 28)),.y 9 (.box (.c (.agg [.str [],.str [],.str [],.af]))),.s 4 9 29] (.s [.a 30 3 9,.l 31 30,.n 32 31,.v 33 .eql 32 .z] (.i 33 (.ops [.m 34 6,.a 35 2 9,.l 36 35,.o 37 (.aF 1 1 [.str []] [(0,.t 36)]),.o 38 (.app 1 16 (.t 34) (.t 37)),.m 6 38]) .skip)))) (.ops [.m 18 8,.v 19 .add 18 .w,.m 8 19])))))) (.seq (.s [.o 10 (.aI .z)] (.block 2 (.loop (.seq (.s [.m 39 10,.a 40 1 2,.l 41 40,.n 42 41,.u 43 .lss 39 42] (.i 43 .skip (.exit 2))) (.seq (.block 3 (.s [.m 46 6,.a 47 1 2,.l 48 47,.m 49 10,.h 50 3 48 49,.a 51 0 50,.l 52 51,.c 53 35 [.t 46,.t 52]] (.i 53 (.ops [.m 54 7,.a 55 1 2,.l 56 55,.m 57 10,.h 58 3 56 57,.a 59 0 58,.l 60 59,.o 61 (.aF 1 1 [.str []] [(0,.t 60)]),.o 62 (.app 1 16 (.t 54) (.t 61)),.m 7 62]) .skip))) (.ops [.m 44 10,.v 45 .add 44 .w,.m 10 45])))))) (.r [.m 63 7,.m 4 63]))))))⟩
def fn60:aq:=⟨23,1,[(2,none)],(.s [.p 1 0,.o 2 (.aI (.c .af))] (.s [.o 3 (.aI (.c .af))] (.seq (.s [.o 4 (.aI .z)] (.block 0 (.loop (.seq (.s [.m 5 4,.a 6 2 1,.l 7 6,.n 8 7,.u 9 .lss 5 8] (.i 9 .skip (.exit 0))) (.seq (.block 1 (.s [.a 12 2 1,.l 13 12,.m 14 4,.h 15 1 13 14,.l 16 15,.v 17 .lss 16 .z] (.i 17 (.ops [.m 18 3,.m 19 4,.o 20 (.aF 1 1 [.int .i64 0] [(0,.t 19)]),.o 21 (.app 1 8 (.t 18) (.t 20)),.m 3 21]) .skip))) (.ops [.m 10 4,.v 11 .add 10 .w,.m 4 11])))))) (.r [.m 22 3,.m 2 22]))))⟩
def fn61:aq:=⟨26,2,[(4,none)],(.s [.p 2 0,.o 4 (.aI (.c .af))] (.s [.y 6 (.aR 5 (.t 2)),.j 7 6,.y 8 (.load (some 7) (.t 2)),.y 9 (.aR 6 (.t 2)),.j 10 9,.y 11 (.load (some 7) (.t 2)),.w 12 1,.y 13 (.call (.f 57) [.t 11,.t 12]),.y 14 (.bf 4 (.t 10) (.t 13)),.y 15 (.aR 1 (.t 14)),.j 16 15,.y 17 (.call (.f 56) [.t 8,.t 16]),.y 18 (.bf 3 (.t 7) (.t 17)),.y 19 (.load (some 3) (.t 18)),.y 5 (.box (.c (.agg [.str [],.str [],.af]))),.s 3 5 19] (.r [.y 20 (.load (some 7) (.t 2)),.y 21 (.load (some 7) (.t 2)),.y 22 (.aR 1 (.t 5)),.j 23 22,.y 24 (.call (.f 59) [.t 21,.t 23]),.c 25 127 [.t 20,.t 24],.m 4 25])))⟩
def fn62:aq:=Dm
def fn64:aq:=⟨8,2,[(4,none)],(.s [.o 4 (.aI (.c .af))] (.r [.m 5 0,.m 6 1,.c 7 128 [.t 5,.t 6,.z,.n (-1)],.m 4 7]))⟩
def fn67:aq:=⟨53,1,[(2,none)],(.s [.p 1 0,.o 2 (.aI .z)] (.seq (.s [.a 8 0 1,.l 9 8,.c 10 94 [.t 9,.w,.n 1000],.m 3 10] (.s [.m 11 3,.v 12 .neq 11 .z] (.j 12 [.m 13 3,.m 2 13]))) (.s [.y 15 (.call (.f 90) []),.y 16 (.aR 1 (.t 1)),.j 17 16,.y 18 (.look .s (.agg [.af,.int .i64 0,.nilFunc,.nilFunc,.nilFunc]) true (.t 15) (.t 17)),.w 14 18,.y 19 (.ext (.t 14) 0),.y 20 (.ext (.t 14) 1),⟨none,.aI .F,none,true⟩,.y 4 (.nw 5 (.t 19)),.m 5 20] (.seq (.s [.m 21 5,.o 22 (.un .not (.t 21))] (.j 22 [.o 2 (.aI (.n 13))])) (.seq (.s [.a 23 2 1,.l 24 23,.n 25 24,.a 26 3 1,.l 27 26,.n 28 27,.o 29 (.build [.int .i64 0,.int .i64 0] [(0,1,.t 25),(1,1,.t 28)]),.a 30 0 4,.l 31 30,.n 32 31,.a 33 1 4,.l 34 33,.o 35 (.build [.int .i64 0,.int .i64 0] [(0,1,.t 32),(1,1,.t 34)]),.o 36 (.eqv true (.agg [.i,.i]) (.t 29) (.t 35))] (.j 36 [.o 2 (.aI (.n 2))])) (.s [.a 37 2 1,.l 38 37,.c 39 130 [.t 38,(.f 131)],.m 6 39] (.s [.a 40 3 1,.l 41 40,.c 42 92 [.t 41,(.f 133)],.m 7 42] (.r [.w 43 6,.y 44 (.call (.f 74) [.t 43]),.w 45 7,.y 46 (.call (.f 74) [.t 45]),.y 47 (.aR 4 (.t 1)),.j 48 47,.y 49 (.bin .neq (.t 48) (.c (.str []))),.c 50 85 [.t 49,.w],.o 51 (.aF 1 3 [.int .i64 0] [(0,.t 44),(1,.t 46),(2,.t 50)]),.c 52 74 [.t 51],.m 2 52]))))))))⟩
def fn70:aq:=⟨3,0,[(0,none)],(.s [.o 0 (.aI (.c .nilPtr))] (.r [.o 1 (.build [.af,.af,.af] []),.p 2 1,.m 0 2]))⟩
def fn71:aq:=⟨35,2,[(4,none)],(.s [.o 4 (.aI .F)] (.seq (.s [.m 9 0,.o 10 (.eqv false .xN (.t 9) (.c .nilPtr))] (.j 10 [.o 4 (.aI .F)])) (.seq (.s [.m 11 1,.n 12 11,.o 13 (.aI .z)] (.block 0 (.loop (.s [.u 14 .lss 13 12] (.seq (.i 14 .skip (.exit 0)) (.seq (.block 1 (.s [.h 15 3 11 13,.r 16 3 15,.o 6 (.box (.c (.agg [.str [],.str [],.int .i64 0]))),.s 3 6 16] (.s [.m 18 0,.a 19 0 6,.l 20 19,.c 21 43 [.t 18,.t 20],.m 17 21,.e 22 17 0,.e 23 17 1,.m 7 22,.m 8 23] (.s [.m 24 7,.a 25 1 6,.l 26 25,.u 27 .neq 24 26,.m 28 27,.t 29 28 false 8,.g 30 28 false (.aR 2 (.t 6)),.g 31 28 false (.load none (.t 30)),.g 32 28 false (.bin .neq (.t 29) (.t 31)),.f 33 28 32] (.j 33 [.o 4 (.aI .F)]))))) (.ops [.v 34 .add 13 .w,.m 13 34]))))))) (.r [.o 4 (.aI .T)]))))⟩
def fn72:aq:=⟨28,1,[(2,none)],(.s [.o 2 (.aI (.c (.str [])))] (.s [.o 3 (.aI .w)] (.seq (.s [.o 4 (.aI .z)] (.block 0 (.loop (.seq (.s [.m 6 4,.m 7 0,.o 8 (.len .st (.t 7)),.u 9 .lss 6 8] (.i 9 .skip (.exit 0))) (.seq (.block 1 (.ops [.m 12 3,.b 13 .mul (.n 339) (.t 12),.m 14 0,.m 15 4,.o 16 (.qm (.t 14) (.t 15)),.o 17 (.conv (.ub .i64) (.t 16)),.u 18 .add 13 17,.v 19 .rem 18 (.n 9999749),.m 3 19])) (.ops [.m 10 4,.v 11 .add 10 .w,.m 4 11])))))) (.s [.m 20 3,.c 21 108 [.t 20],.m 5 21] (.seq (.block 2 (.loop (.seq (.s [.m 22 5,.o 23 (.len .st (.t 22)),.v 24 .lss 23 (.n 7)] (.i 24 .skip (.exit 2))) (.block 3 (.ops [.m 25 5,.b 26 .add (.c (.str [48])) (.t 25),.m 5 26]))))) (.r [.m 27 5,.m 2 27]))))))⟩
def fn73:aq:=⟨31,3,[(6,some (some 7)),(7,none)],(.s [.o 6 (.box (.c (.agg [.int .i64 0,.af,.af,.af,.af,.af,.af]))),.o 7 (.aI .z)] (.s [.m 13 0,.c 14 78 [.t 13],.m 12 14,.e 15 12 0,.e 16 12 1,.e 17 12 2,.m 8 15,.m 9 16,.m 10 17] (.seq (.s [.m 18 10,.v 19 .neq 18 .z] (.j 19 [.o 20 (.build [.int .i64 0,.af,.af,.af,.af,.af,.af] []),.m 21 10,.s 7 6 20,.m 7 21])) (.s [.m 22 8,.c 23 79 [.t 22],.o 11 (.box (.c (.agg [.int .i64 0,.af,.af,.af,.af,.af,.af]))),.s 7 11 23] (.r [.y 24 (.load (some 7) (.t 11)),.y 25 (.load (some 7) (.t 11)),.w 26 1,.w 27 2,.y 28 (.call (.f 86) [.t 25,.t 26,.t 27]),.y 29 (.un .not (.t 28)),.y 30 (.call (.f 85) [.t 29,.n 10]),.s 7 6 24,.m 7 30])))))⟩
def fn74:aq:=⟨15,1,[(2,none)],(.s [.o 2 (.aI .z)] (.seq (.s [.m 5 0,.n 6 5,.o 7 (.aI .z)] (.block 0 (.loop (.s [.u 8 .lss 7 6] (.seq (.i 8 .skip (.exit 0)) (.seq (.block 1 (.s [.h 9 1 5 7,.l 10 9,.m 4 10] (.s [.m 11 4,.v 12 .neq 11 .z] (.j 12 [.m 13 4,.m 2 13])))) (.ops [.v 14 .add 7 .w,.m 7 14]))))))) (.r [.o 2 (.aI .z)])))⟩
def zq:aq:=⟨5,1,[(2,none)],(.s [.o 2 (.aI .z)] (.r [.m 3 0,.c 4 94 [.t 3,.z,.n 999999999],.m 2 4]))⟩
def fn75:aq:=zq
def fn76:aq:=⟨24,3,[(6,none)],(.s [.p 3 0,.p 4 1,.o 6 (.aI .F)] (.s [.o 7 (.aI .F)] (.seq .skip (.seq (.s [.a 10 2 4,.l 11 10,.n 12 11,.o 13 (.aI .z)] (.block 0 (.loop (.s [.u 14 .lss 13 12] (.seq (.i 14 .skip (.exit 0)) (.seq (.block 1 (.s [.h 15 1 11 13,.l 16 15,.m 9 16] (.s [.r 17 7 3,.m 18 9,.c 19 134 [.t 17,.t 18],.m 20 2,.c 21 135 [.t 19,.t 20]] (.i 21 (.s [.o 7 (.aI .T)] (.exit 0)) .skip)))) (.ops [.v 22 .add 13 .w,.m 13 22]))))))) (.r [.m 23 7,.m 6 23])))))⟩
def Dl(x0 x1:Nat):aq:=⟨13,2,[(4,some (some 3))],(.s [.p 2 0,.o 4 (.box (.c (.agg [.str [],.str [],.af])))] (.r [.y 5 (.aR x0 (.t 2)),.j 6 5,.y 7 (.aR x0 (.t 2)),.j 8 7,.w 9 1,.y 10 (.call (.f x1) [.t 8,.t 9]),.h 11 3 6 10,.r 12 3 11,.s 3 4 12]))⟩
def fn77:aq:=Dl 3 136
def fn78:aq:=⟨31,1,[(2,none),(3,none),(4,none)],(.s [.o 2 (.aI (.c .nilPtr)),.o 3 (.aI .z),.o 4 (.aI .z)] (.seq (.s [.m 9 0,.n 10 9,.v 11 .gtr 10 (.n 1000)] (.j 11 [.o 2 (.aI (.c .nilPtr)),.o 3 (.aI .z),.o 4 (.aI (.n 5))])) (.s [.o 12 (.build [.af,.af,.af] []),.p 13 12,.m 5 13] (.seq (.s [.m 14 0,.n 15 14,.o 16 (.aI .z)] (.block 0 (.loop (.s [.u 17 .lss 16 15] (.seq (.i 17 .skip (.exit 0)) (.seq (.block 1 (.s [.m 18 16,.h 19 5 14 16,.r 20 5 19,.o 7 (.box (.c (.agg [.int .i64 0,.str [],.af,.af,.str []]))),.m 6 18,.s 5 7 20] (.s [.m 21 5,.r 22 5 7,.c 23 112 [.t 21,.t 22],.m 8 23] (.s [.m 24 8,.v 25 .neq 24 .z] (.j 25 [.m 26 6,.v 27 .add 26 .w,.m 28 8,.o 2 (.aI (.c .nilPtr)),.m 3 27,.m 4 28]))))) (.ops [.v 29 .add 16 .w,.m 16 29]))))))) (.r [.m 30 5,.m 2 30,.o 3 (.aI .z),.o 4 (.aI .z)])))))⟩
def fn79:aq:=⟨20,1,[(2,some (some 7))],(.s [.o 2 (.box (.c (.agg [.int .i64 0,.af,.af,.af,.af,.af,.af])))] (.seq (.s [.m 4 0,.o 5 (.bz (.t 4)),.a 6 2 5,.l 7 6,.n 8 7,.m 3 8] (.s [.m 9 3,.v 10 .gtr 9 .z] (.j 10 [.m 11 0,.o 12 (.bz (.t 11)),.a 13 2 12,.l 14 13,.m 15 3,.v 16 .sub 15 .w,.h 17 7 14 16,.r 18 7 17,.s 7 2 18]))) (.r [.o 19 (.build [.int .i64 0,.af,.af,.af,.af,.af,.af] []),.s 7 2 19])))⟩
def fn80:aq:=⟨10,2,[(4,none)],(.s [.p 2 0,.p 3 1,.o 4 (.aI (.c .af))] (.r [.a 5 3 2,.l 6 5,.o 7 (.kY (.func 139) [] [.t 2,.t 3]),.c 8 138 [.t 6,.t 7],.c 9 137 [.t 8,(.f 140)],.m 4 9]))⟩
def fn81:aq:=⟨110,1,[(2,none),(3,some (some 7)),(4,none),(5,none)],(.s [.o 2 (.aI (.c .af)),.o 3 (.box (.c (.agg [.int .i64 0,.af,.af,.af,.af,.af,.af]))),.o 4 (.aI .z),.o 5 (.aI .z)] (.seq (.s [.m 12 0,.n 13 12,.v 14 .gtr 13 (.n 1000)] (.j 14 [.o 15 (.build [.int .i64 0,.af,.af,.af,.af,.af,.af] []),.o 2 (.aI (.c .af)),.s 7 3 15,.o 4 (.aI .z),.o 5 (.aI (.n 5))])) (.s [.o 6 (.aI (.c .af))] (.s [.o 16 (.build [.int .i64 0,.af,.af,.af,.af,.af,.af] []),.o 17 (.aF 7 1 [.int .i64 0,.af,.af,.af,.af,.af,.af] [(0,.t 16)]),.m 7 17] (.seq (.s [.o 8 (.aI .z)] (.block 0 (.loop (.seq (.s [.m 18 8,.m 19 0,.n 20 19,.u 21 .lss 18 20] (.i 21 .skip (.exit 0))) (.seq (.block 1 (.s [.m 24 0,.m 25 8,.h 26 5 24 25,.r 27 5 26,.c 28 39 [.t 27],.m 29 6,.n 30 29,.m 9 28,.m 10 30] (.seq (.s [.m 31 9,.v 32 .eql 31 .z,.m 33 32,.t 34 33 true 0,.t 35 33 true 8,.g 36 33 true (.bf 5 (.t 34) (.t 35)),.g 37 33 true (.aR 0 (.t 36)),.g 38 33 true (.load none (.t 37)),.t 39 33 true 8,.g 40 33 true (.bin .add (.t 39) .w),.g 41 33 true (.bin .neq (.t 38) (.t 40)),.d 42 33 41] (.i 42 (.ops [.o 9 (.aI (.n 11))]) .skip)) (.seq (.s [.m 43 9,.v 44 .eql 43 .z,.m 45 44,.t 46 45 true 0,.t 47 45 true 8,.g 48 45 true (.bf 5 (.t 46) (.t 47)),.g 49 45 true (.aR 1 (.t 48)),.g 50 45 true (.load none (.t 49)),.g 51 45 true (.bin .eql (.t 50) (.c (.str [117,110,100,111]))),.d 52 45 51] (.i 52 (.s [.m 53 10,.v 54 .eql 53 .z] (.i 54 (.ops [.o 9 (.aI (.n 12))]) (.s [.m 55 6,.m 56 10,.v 57 .sub 56 .w,.h 58 5 55 57,.a 59 1 58,.l 60 59,.v 61 .eql 60 (.c (.str [114,101,108,101,97,115,101]))] (.i 61 (.ops [.o 9 (.aI (.n 21))]) (.s [.w 62 6,.w 63 10,.y 64 (.bin .sub (.t 63) .w),.y 65 (.sl 5 (.t 62) none (some (.t 64))),.w 66 7,.w 67 10,.y 68 (.sl 7 (.t 66) none (some (.t 67))),.w 6 65,.m 7 68] (.exit 1)))))) .skip)) (.s [.o 11 (.box (.c (.agg [.int .i64 0,.af,.af,.af,.af,.af,.af])))] (.seq (.s [.m 69 9,.v 70 .eql 69 .z] (.i 70 (.ops [.m 72 7,.m 73 10,.h 74 7 72 73,.r 75 7 74,.m 76 0,.m 77 8,.h 78 5 76 77,.r 79 5 78,.c 80 129 [.t 75,.t 79],.m 71 80,.e 81 71 0,.e 82 71 1,.s 7 11 81,.m 9 82]) .skip)) (.seq (.s [.m 83 9,.v 84 .neq 83 .z] (.j 84 [.o 85 (.build [.int .i64 0,.af,.af,.af,.af,.af,.af] []),.m 86 8,.v 87 .add 86 .w,.m 88 9,.o 2 (.aI (.c .af)),.s 7 3 85,.m 4 87,.m 5 88])) (.s [.y 89 (.aF 5 0 [.int .i64 0,.str [],.af,.af,.str []] []),.w 90 6,.y 91 (.app 5 88 (.t 89) (.t 90)),.w 92 0,.w 93 8,.y 94 (.bf 5 (.t 92) (.t 93)),.y 95 (.load (some 5) (.t 94)),.y 96 (.aF 5 1 [.int .i64 0,.str [],.af,.af,.str []] [(0,.t 95)]),.o 97 (.app 5 88 (.t 91) (.t 96)),.m 6 97] (.ops [.y 98 (.aF 7 0 [.int .i64 0,.af,.af,.af,.af,.af,.af] []),.w 99 7,.y 100 (.app 7 152 (.t 98) (.t 99)),.y 101 (.load (some 7) (.t 11)),.y 102 (.aF 7 1 [.int .i64 0,.af,.af,.af,.af,.af,.af] [(0,.t 101)]),.o 103 (.app 7 152 (.t 100) (.t 102)),.m 7 103]))))))))) (.ops [.m 22 8,.v 23 .add 22 .w,.m 8 23])))))) (.r [.w 104 6,.w 105 7,.w 106 6,.y 107 (.len .sl (.t 106)),.y 108 (.bf 7 (.t 105) (.t 107)),.y 109 (.load (some 7) (.t 108)),.w 2 104,.s 7 3 109,.o 4 (.aI .z),.o 5 (.aI .z)]))))))⟩
def Dk:aq:=⟨7,2,[(4,none)],(.s [.o 4 (.aI .z)] (.seq (.s [.m 5 0] (.j 5 [.m 6 1,.m 4 6])) (.r [.o 4 (.aI .z)])))⟩
def fn82:aq:=Dk
def fn83:aq:=⟨19,1,[(2,none)],(.s [.o 2 (.aI .z)] (.seq (.s [.o 3 (.aI .z)] (.block 0 (.loop (.seq (.s [.m 4 3,.m 5 0,.n 6 5,.u 7 .lss 4 6] (.i 7 .skip (.exit 0))) (.seq (.block 1 (.s [.m 10 0,.m 11 3,.h 12 1 10 11,.l 13 12,.v 14 .neq 13 .z] (.j 14 [.m 15 0,.m 16 3,.h 17 1 15 16,.l 18 17,.m 2 18]))) (.ops [.m 8 3,.v 9 .add 8 .w,.m 3 9])))))) (.r [.o 2 (.aI .z)])))⟩
def fn84:aq:=⟨17,3,[(6,none)],(.s [.p 3 0,.o 6 (.aI .F)] (.r [.w 7 2,.y 8 (.aR 2 (.t 3)),.j 9 8,.y 10 (.load (some 7) (.t 3)),.w 11 1,.y 12 (.call (.f 141) [.t 10,.t 11]),.y 13 (.bf 2 (.t 9) (.t 12)),.y 14 (.aR 1 (.t 13)),.j 15 14,.u 16 .leq 7 15,.m 6 16]))⟩
def fn85:aq:=Dk
def fn86:aq:=⟨47,3,[(6,none)],(.s [.p 3 0,.o 6 (.aI .F)] (.s [.o 7 (.aI .z)] (.seq (.s [.m 8 1] (.block 0 (.s [.v 10 .eql 8 .z,.m 9 10] (.i 9 (.ops [.a 11 1 3,.l 12 11,.m 13 2,.c 14 142 [.t 12,.t 13],.m 7 14]) (.s [.v 16 .eql 8 .w,.m 15 16] (.i 15 (.ops [.a 17 2 3,.l 18 17,.m 19 2,.c 20 143 [.t 18,.t 19],.m 7 20]) (.s [.v 22 .eql 8 (.n 2),.m 21 22] (.i 21 (.ops [.a 23 3 3,.l 24 23,.m 25 2,.c 26 136 [.t 24,.t 25],.m 7 26]) (.s [.v 28 .eql 8 (.n 3),.m 27 28] (.i 27 (.ops [.a 29 4 3,.l 30 29,.m 31 2,.c 32 144 [.t 30,.t 31],.m 7 32]) (.s [.v 34 .eql 8 (.n 4),.m 33 34] (.i 33 (.ops [.a 35 5 3,.l 36 35,.m 37 2,.c 38 145 [.t 36,.t 37],.m 7 38]) (.s [.v 40 .eql 8 (.n 5),.m 39 40] (.i 39 (.ops [.a 41 6 3,.l 42 41,.m 43 2,.c 44 146 [.t 42,.t 43],.m 7 44]) .skip)))))))))))))) (.r [.m 45 7,.v 46 .geq 45 .z,.m 6 46]))))⟩
def fn87:aq:=⟨22,2,[(4,none)],(.s [.o 4 (.aI (.c .af))] (.s [.o 5 (.aI (.c .af))] (.seq (.s [.m 8 0,.n 9 8,.o 10 (.aI .z)] (.block 0 (.loop (.s [.u 11 .lss 10 9] (.seq (.i 11 .skip (.exit 0)) (.seq (.block 1 (.s [.h 12 5 8 10,.r 13 5 12,.o 7 (.box (.c (.agg [.int .i64 0,.str [],.af,.af,.str []]))),.s 5 7 13] (.ops [.m 14 5,.m 15 1,.r 16 5 7,.o 17 (.call (.t 15) [.t 16]),.o 18 (.aF 5 1 [.int .i64 0,.str [],.af,.af,.str []] [(0,.t 17)]),.o 19 (.app 5 88 (.t 14) (.t 18)),.m 5 19]))) (.ops [.v 20 .add 10 .w,.m 10 20]))))))) (.r [.m 21 5,.m 4 21]))))⟩
def fn88:aq:=⟨23,2,[(4,none)],(.s [.o 4 (.aI (.c .af))] (.s [.o 5 (.aI (.c .af))] (.seq (.s [.m 8 0,.n 9 8,.o 10 (.aI .z)] (.block 0 (.loop (.s [.u 11 .lss 10 9] (.seq (.i 11 .skip (.exit 0)) (.seq (.block 1 (.s [.h 12 5 8 10,.r 13 5 12,.o 7 (.box (.c (.agg [.int .i64 0,.str [],.af,.af,.str []]))),.s 5 7 13] (.s [.m 14 1,.r 15 5 7,.o 16 (.call (.t 14) [.t 15])] (.i 16 (.ops [.m 17 5,.r 18 5 7,.o 19 (.aF 5 1 [.int .i64 0,.str [],.af,.af,.str []] [(0,.t 18)]),.o 20 (.app 5 88 (.t 17) (.t 19)),.m 5 20]) .skip)))) (.ops [.v 21 .add 10 .w,.m 10 21]))))))) (.r [.m 22 5,.m 4 22]))))⟩
def fn89:aq:=⟨18,1,[(3,none)],(.s [.p 2 0,.o 3 (.aI .F)] (.s [.y 5 (.call (.f 90) []),.y 6 (.aR 1 (.t 2)),.j 7 6,.o 8 (.look .s (.agg [.af,.int .i64 0,.nilFunc,.nilFunc,.nilFunc]) false (.t 5) (.t 7)),.o 9 (.part none 4 (.t 8)),.m 4 9] (.r [.m 10 4,.o 11 (.eqv true .po (.t 10) (.c .nilFunc)),.m 12 11,.t 13 12 true 4,.g 14 12 true (.load (some 5) (.t 2)),.g 15 12 true (.load none (.t 1)),.g 16 12 true (.call (.t 13) [.t 14,.t 15]),.d 17 12 16,.m 3 17])))⟩
def fn90:aq:=⟨56,0,[(0,none)],(.s [.o 0 (.aI (.c .cY))] (.r [.o 1 (.lF),.o 2 (.build [.af,.int .i64 0,.nilFunc,.nilFunc,.nilFunc] []),.x (.fu .s (.t 1) (.c (.str [117,110,100,111])) (.t 2)),.c 3 147 [.z],.o 4 (.aF 2 1 [.int .i64 0,.bool false] [(0,.t 3)]),.c 5 150 [.z],.o 6 (.build [.af,.int .i64 0,.nilFunc,.nilFunc,.nilFunc] [(0,1,.t 4),(1,1,(.n 2)),(2,1,(.f 148)),(3,1,(.f 149)),(4,1,.t 5)]),.x (.fu .s (.t 1) (.c (.str [108,105,110,101])) (.t 6)),.c 7 147 [.w],.o 8 (.aF 2 1 [.int .i64 0,.bool false] [(0,.t 7)]),.o 9 (.build [.af,.int .i64 0,.nilFunc,.nilFunc,.nilFunc] [(0,1,.t 8),(1,1,(.n 2)),(2,1,(.f 151)),(3,1,(.f 152)),(4,1,(.f 153))]),.x (.fu .s (.t 1) (.c (.str [116,97,112,101])) (.t 9)),.c 10 147 [.n 2],.c 11 154 [.z],.c 12 154 [.w],.o 13 (.aF 2 3 [.int .i64 0,.bool false] [(0,.t 10),(2,.t 11),(4,.t 12)]),.c 14 150 [.w],.o 15 (.build [.af,.int .i64 0,.nilFunc,.nilFunc,.nilFunc] [(0,1,.t 13),(1,1,.w),(2,1,(.f 155)),(3,1,(.f 156)),(4,1,.t 14)]),.x (.fu .s (.t 1) (.c (.str [115,104,111,116])) (.t 15)),.c 16 154 [.w],.c 17 154 [.w],.o 18 (.aF 2 2 [.int .i64 0,.bool false] [(0,.t 16),(2,.t 17)]),.o 19 (.build [.af,.int .i64 0,.nilFunc,.nilFunc,.nilFunc] [(0,1,.t 18),(1,1,.w),(2,1,(.f 157)),(3,1,(.f 158)),(4,1,(.f 153))]),.x (.fu .s (.t 1) (.c (.str [99,111,112,121])) (.t 19)),.c 20 154 [.z],.o 21 (.aF 2 1 [.int .i64 0,.bool false] [(0,.t 20)]),.c 22 150 [.z],.o 23 (.build [.af,.int .i64 0,.nilFunc,.nilFunc,.nilFunc] [(0,1,.t 21),(1,1,.w),(2,1,(.f 159)),(3,1,(.f 160)),(4,1,.t 22)]),.x (.fu .s (.t 1) (.c (.str [97,99,99,101,112,116])) (.t 23)),.c 24 147 [.n 3],.c 25 154 [.z],.o 26 (.aF 2 2 [.int .i64 0,.bool false] [(0,.t 24),(2,.t 25)]),.c 27 150 [.w],.o 28 (.build [.af,.int .i64 0,.nilFunc,.nilFunc,.nilFunc] [(0,1,.t 26),(1,1,.w),(2,1,(.f 161)),(3,1,(.f 162)),(4,1,.t 27)]),.x (.fu .s (.t 1) (.c (.str [115,111,117,114,99,101])) (.t 28)),.c 29 147 [.n 3],.c 30 154 [.n 3],.o 31 (.aF 2 2 [.int .i64 0,.bool false] [(0,.t 29),(2,.t 30)]),.o 32 (.build [.af,.int .i64 0,.nilFunc,.nilFunc,.nilFunc] [(0,1,.t 31),(1,1,(.n 2)),(2,1,(.f 163)),(3,1,(.f 164)),(4,1,(.c .nilFunc))]),.x (.fu .s (.t 1) (.c (.str [109,111,100,117,108,101])) (.t 32)),.c 33 147 [.n 3],.c 34 154 [.n 3],.c 35 154 [.n 3],.o 36 (.aF 2 3 [.int .i64 0,.bool false] [(0,.t 33),(2,.t 34),(4,.t 35)]),.o 37 (.build [.af,.int .i64 0,.nilFunc,.nilFunc,.nilFunc] [(0,1,.t 36),(1,1,.w),(2,1,(.f 165)),(3,1,(.f 166)),(4,1,(.c .nilFunc))]),.x (.fu .s (.t 1) (.c (.str [109,101,114,103,101])) (.t 37)),.c 38 147 [.n 4],.c 39 154 [.n 3],.o 40 (.aF 2 2 [.int .i64 0,.bool false] [(0,.t 38),(2,.t 39)]),.o 41 (.build [.af,.int .i64 0,.nilFunc,.nilFunc,.nilFunc] [(0,1,.t 40),(1,1,(.n 2)),(2,1,(.f 167)),(3,1,(.f 168)),(4,1,(.c .nilFunc))]),.x (.fu .s (.t 1) (.c (.str [114,117,110])) (.t 41)),.c 42 154 [.n 4],.o 43 (.aF 2 1 [.int .i64 0,.bool false] [(0,.t 42)]),.o 44 (.build [.af,.int .i64 0,.nilFunc,.nilFunc,.nilFunc] [(0,1,.t 43),(1,1,(.n 3)),(2,1,(.f 169)),(3,1,(.f 170)),(4,1,(.c .nilFunc))]),.x (.fu .s (.t 1) (.c (.str [116,105,108,101])) (.t 44)),.c 45 154 [.n 4],.o 46 (.aF 2 1 [.int .i64 0,.bool false] [(0,.t 45)]),.o 47 (.build [.af,.int .i64 0,.nilFunc,.nilFunc,.nilFunc] [(0,1,.t 46),(1,1,(.n 2)),(2,1,(.f 171)),(3,1,(.f 172)),(4,1,(.c .nilFunc))]),.x (.fu .s (.t 1) (.c (.str [102,97,105,108])) (.t 47)),.c 48 147 [.n 5],.c 49 154 [.n 4],.o 50 (.aF 2 2 [.int .i64 0,.bool false] [(0,.t 48),(2,.t 49)]),.o 51 (.build [.af,.int .i64 0,.nilFunc,.nilFunc,.nilFunc] [(0,1,.t 50),(1,1,.w),(2,1,(.f 173)),(3,1,(.f 174)),(4,1,(.c .nilFunc))]),.x (.fu .s (.t 1) (.c (.str [112,105,99,116,117,114,101])) (.t 51)),.c 52 154 [.n 5],.o 53 (.aF 2 1 [.int .i64 0,.bool false] [(0,.t 52)]),.o 54 (.build [.af,.int .i64 0,.nilFunc,.nilFunc,.nilFunc] [(0,1,.t 53),(1,1,.w),(2,1,(.f 175)),(3,1,(.f 176)),(4,1,(.c .nilFunc))]),.x (.fu .s (.t 1) (.c (.str [114,101,108,101,97,115,101])) (.t 54)),.m 55 1,.m 0 55]))⟩
def fn91:aq:=⟨12,1,[(2,some (some 5))],(.s [.p 1 0,.o 2 (.box (.c (.agg [.int .i64 0,.str [],.af,.af,.str []])))] (.s [.y 3 (.aR 2 (.t 1)),.j 4 3,.y 5 (.call (.f 177) [.t 4]),.y 6 (.aR 3 (.t 1)),.j 7 6,.y 8 (.call (.f 178) [.t 7]),.y 9 (.aR 2 (.t 1)),.s 1 9 5,.a 10 3 1,.s 1 10 8] (.r [.r 11 5 1,.s 5 2 11])))⟩
def Dj:aq:=⟨22,2,[(4,none)],(.s [.o 4 (.aI (.c .af))] (.s [.o 5 (.aI (.c .af))] (.seq (.s [.m 8 0,.n 9 8,.o 10 (.aI .z)] (.block 0 (.loop (.s [.u 11 .lss 10 9] (.seq (.i 11 .skip (.exit 0)) (.seq (.block 1 (.s [.h 12 1 8 10,.l 13 12,.m 7 13] (.ops [.m 14 5,.m 15 1,.m 16 7,.o 17 (.call (.t 15) [.t 16]),.o 18 (.aF 1 1 [.int .i64 0] [(0,.t 17)]),.o 19 (.app 1 8 (.t 14) (.t 18)),.m 5 19]))) (.ops [.v 20 .add 10 .w,.m 10 20]))))))) (.r [.m 21 5,.m 4 21]))))⟩
def fn92:aq:=Dj
def fn93:aq:=zq
def fn94:aq:=⟨16,3,[(6,none)],(.s [.o 6 (.aI .z)] (.r [.m 7 0,.m 8 1,.u 9 .lss 7 8,.m 10 9,.t 11 10 false 0,.t 12 10 false 2,.g 13 10 false (.bin .gtr (.t 11) (.t 12)),.f 14 10 13,.c 15 85 [.t 14,.n 3],.m 6 15]))⟩
def fn95:aq:=⟨19,1,[(2,none)],(.s [.o 2 (.aI .z)] (.s [.o 3 (.aI .w)] (.seq (.s [.m 6 0,.n 7 6,.o 8 (.aI .z)] (.block 0 (.loop (.s [.u 9 .lss 8 7] (.seq (.i 9 .skip (.exit 0)) (.seq (.block 1 (.s [.h 10 1 6 8,.l 11 10,.m 5 11] (.ops [.m 12 3,.b 13 .mul (.n 257) (.t 12),.m 14 5,.u 15 .add 13 14,.v 16 .rem 15 (.n 16777213),.m 3 16]))) (.ops [.v 17 .add 8 .w,.m 8 17]))))))) (.r [.m 18 3,.m 2 18]))))⟩
def fn96:aq:=⟨38,1,[(2,some (some 7))],(.s [.p 1 0,.o 2 (.box (.c (.agg [.int .i64 0,.af,.af,.af,.af,.af,.af])))] (.s [.y 5 (.aR 1 (.t 1)),.j 6 5,.y 7 (.len .sl (.t 6)),.y 8 (.si 3 32 [.str [],.int .i64 0,.bool false] (.t 7) (.t 7)),.y 9 (.aR 6 (.t 1)),.j 10 9,.y 11 (.len .sl (.t 10)),.y 12 (.si 4 48 [.str [],.str [],.int .i64 0,.bool false] (.t 11) (.t 11)),.w 3 8,.m 4 12] (.s [.m 13 3,.a 14 1 1,.l 15 14,.o 16 (.wI 3 (.t 13) (.t 15))] (.s [.m 17 4,.a 18 6 1,.l 19 18,.o 20 (.wI 4 (.t 17) (.t 19))] (.r [.y 21 (.aR 0 (.t 1)),.j 22 21,.w 23 3,.y 24 (.aR 2 (.t 1)),.j 25 24,.y 26 (.call (.f 179) [.t 25]),.y 27 (.aR 3 (.t 1)),.j 28 27,.y 29 (.call (.f 180) [.t 28,(.f 181)]),.y 30 (.aR 4 (.t 1)),.j 31 30,.y 32 (.call (.f 182) [.t 31,(.f 183)]),.y 33 (.aR 5 (.t 1)),.j 34 33,.y 35 (.call (.f 184) [.t 34,(.f 185)]),.w 36 4,.o 37 (.build [.int .i64 0,.af,.af,.af,.af,.af,.af] [(0,1,.t 22),(1,1,.t 23),(2,1,.t 26),(3,1,.t 29),(4,1,.t 32),(5,1,.t 35),(6,1,.t 36)]),.s 7 2 37])))))⟩
def fn97:aq:=⟨12,1,[(2,none)],(.s [.p 1 0,.o 2 (.aI (.c (.str [])))] (.s [.r 4 5 1,.c 5 186 [.t 4],.m 3 5] (.r [.m 6 3,.v 7 .add 6 (.c (.str [35])),.m 8 3,.c 9 187 [.t 8],.u 10 .add 7 9,.v 11 .add 10 (.c (.str [10])),.m 2 11])))⟩
def fn98:aq:=⟨13,2,[(4,none),(5,none),(6,none)],(.s [.o 4 (.aI (.c (.str []))),.o 5 (.aI (.c (.str []))),.o 6 (.aI .F)] (.r [.m 7 0,.m 8 1,.c 9 188 [.t 7,.t 8],.e 10 9 0,.e 11 9 1,.e 12 9 2,.m 4 10,.m 5 11,.m 6 12]))⟩
def fn99:aq:=⟨83,2,[(4,some (some 5)),(5,none)],(.s [.o 4 (.box (.c (.agg [.int .i64 0,.str [],.af,.af,.str []]))),.o 5 (.aI .z)] (.s [.m 14 0,.o 15 (.len .st (.t 14)),.v 16 .sub 15 (.n 7),.v 17 .sub 16 .w,.m 6 17] (.seq (.s [.m 18 6,.v 19 .lss 18 .z,.m 20 19,.t 21 20 false 0,.t 22 20 false 6,.g 23 20 false (.qm (.t 21) (.t 22)),.g 24 20 false (.bin .neq (.t 23) (.c (.int .u8 35))),.f 25 20 24,.m 26 25,.t 27 26 false 0,.t 28 26 false 6,.g 29 26 false (.bin .add (.t 28) .w),.g 30 26 false (.pO (.t 27) (some (.t 29)) none),.g 31 26 false (.call (.f 189) [.t 30]),.g 32 26 false (.un .not (.t 31)),.f 33 26 32] (.j 33 [.o 34 (.build [.int .i64 0,.str [],.af,.af,.str []] []),.s 5 4 34,.o 5 (.aI (.n 25))])) (.seq (.s [.w 35 0,.w 36 6,.y 37 (.pO (.t 35) none (some (.t 36))),.y 38 (.call (.f 187) [.t 37]),.w 39 0,.w 40 6,.y 41 (.bin .add (.t 40) .w),.y 42 (.pO (.t 39) (some (.t 41)) none),.u 43 .neq 38 42] (.j 43 [.o 44 (.build [.int .i64 0,.str [],.af,.af,.str []] []),.s 5 4 44,.o 5 (.aI (.n 27))])) (.s [.m 46 0,.m 47 6,.o 48 (.pO (.t 46) none (some (.t 47))),.o 49 (.call (.f 98) [.t 48,(.c (.str [32]))]),.m 45 49,.e 50 45 0,.e 51 45 1,.e 52 45 2,.m 7 50,.m 8 51,.m 9 52] (.s [.m 54 7,.c 55 190 [.t 54],.m 53 55,.e 56 53 0,.e 57 53 1,.m 10 56,.m 11 57] (.s [.m 59 8,.o 60 (.call (.f 64) [.t 59,(.c (.str [32]))]),.c 61 111 [.t 60],.m 58 61,.e 62 58 0,.e 63 58 1,.o 12 (.box (.c (.agg [.int .i64 0,.str [],.af,.af,.str []]))),.s 5 12 62,.m 13 63] (.s [.m 64 10,.a 65 0 12,.s 1 65 64] (.seq (.s [.m 66 11,.o 67 (.un .not (.t 66)),.m 68 67,.t 69 68 false 13,.g 70 68 false (.un .not (.t 69)),.f 71 68 70,.m 72 71,.g 73 72 false (.load (some 5) (.t 12)),.g 74 72 false (.call (.f 67) [.t 73]),.g 75 72 false (.bin .neq (.t 74) .z),.f 76 72 75] (.j 76 [.o 77 (.build [.int .i64 0,.str [],.af,.af,.str []] []),.s 5 4 77,.o 5 (.aI (.n 25))])) (.r [.y 78 (.load (some 5) (.t 12)),.w 79 10,.w 80 1,.y 81 (.bin .neq (.t 79) (.t 80)),.y 82 (.call (.f 85) [.t 81,.n 11]),.s 5 4 78,.m 5 82]))))))))))⟩
def fn101:aq:=⟨47,1,[(2,some (some 3))],(.s [.o 2 (.box (.c (.agg [.str [],.int .i64 0,.bool false])))] (.seq (.s [.m 3 0] (.block 0 (.s [.v 5 .eql 3 (.c (.str [108,105,110,101])),.m 4 5] (.i 4 (.r [.o 6 (.build [.str [],.int .i64 0,.bool false] [(0,1,(.c (.str [76]))),(1,1,(.n 2)),(2,1,.T)]),.s 3 2 6]) (.s [.v 8 .eql 3 (.c (.str [116,97,112,101])),.m 7 8] (.i 7 (.r [.o 9 (.build [.str [],.int .i64 0,.bool false] [(0,1,(.c (.str [84]))),(1,1,(.n 2)),(2,1,.T)]),.s 3 2 9]) (.s [.v 11 .eql 3 (.c (.str [115,104,111,116])),.m 10 11] (.i 10 (.r [.o 12 (.build [.str [],.int .i64 0,.bool false] [(0,1,(.c (.str [83,108,116]))),(1,1,.w),(2,1,.T)]),.s 3 2 12]) (.s [.v 14 .eql 3 (.c (.str [99,111,112,121])),.m 13 14] (.i 13 (.r [.o 15 (.build [.str [],.int .i64 0,.bool false] [(0,1,(.c (.str [116,116]))),(1,1,.w),(2,1,.T)]),.s 3 2 15]) (.s [.v 17 .eql 3 (.c (.str [97,99,99,101,112,116])),.m 16 17] (.i 16 (.r [.o 18 (.build [.str [],.int .i64 0,.bool false] [(0,1,(.c (.str [108]))),(1,1,.w),(2,1,.T)]),.s 3 2 18]) (.s [.v 20 .eql 3 (.c (.str [115,111,117,114,99,101])),.m 19 20] (.i 19 (.r [.o 21 (.build [.str [],.int .i64 0,.bool false] [(0,1,(.c (.str [77,108]))),(1,1,.w),(2,1,.T)]),.s 3 2 21]) (.s [.v 23 .eql 3 (.c (.str [109,111,100,117,108,101])),.m 22 23] (.i 22 (.r [.o 24 (.build [.str [],.int .i64 0,.bool false] [(0,1,(.c (.str [77,109]))),(1,1,(.n 2)),(2,1,.T)]),.s 3 2 24]) (.s [.v 26 .eql 3 (.c (.str [109,101,114,103,101])),.m 25 26] (.i 25 (.r [.o 27 (.build [.str [],.int .i64 0,.bool false] [(0,1,(.c (.str [77,109,109]))),(1,1,.w),(2,1,.T)]),.s 3 2 27]) (.s [.v 29 .eql 3 (.c (.str [114,117,110])),.m 28 29] (.i 28 (.r [.o 30 (.build [.str [],.int .i64 0,.bool false] [(0,1,(.c (.str [74,109]))),(1,1,(.n 2)),(2,1,.T)]),.s 3 2 30]) (.s [.v 32 .eql 3 (.c (.str [116,105,108,101])),.m 31 32] (.i 31 (.r [.o 33 (.build [.str [],.int .i64 0,.bool false] [(0,1,(.c (.str [106]))),(1,1,(.n 3)),(2,1,.T)]),.s 3 2 33]) (.s [.v 35 .eql 3 (.c (.str [102,97,105,108])),.m 34 35] (.i 34 (.r [.o 36 (.build [.str [],.int .i64 0,.bool false] [(0,1,(.c (.str [106]))),(1,1,(.n 2)),(2,1,.T)]),.s 3 2 36]) (.s [.v 38 .eql 3 (.c (.str [112,105,99,116,117,114,101])),.m 37 38] (.i 37 (.r [.o 39 (.build [.str [],.int .i64 0,.bool false] [(0,1,(.c (.str [80,106]))),(1,1,.w),(2,1,.T)]),.s 3 2 39]) (.s [.v 41 .eql 3 (.c (.str [114,101,108,101,97,115,101])),.m 40 41] (.i 40 (.r [.o 42 (.build [.str [],.int .i64 0,.bool false] [(0,1,(.c (.str [112]))),(1,1,.w),(2,1,.T)]),.s 3 2 42]) (.s [.v 44 .eql 3 (.c (.str [117,110,100,111])),.m 43 44] (.j 43 [.o 45 (.build [.str [],.int .i64 0,.bool false] [(0,1,(.c (.str []))),(1,1,.z),(2,1,.T)]),.s 3 2 45])))))))))))))))))))))))))))))) (.r [.o 46 (.build [.str [],.int .i64 0,.bool false] []),.s 3 2 46])))⟩
def fn102:aq:=⟨42,1,[(2,none)],(.s [.o 2 (.aI .F)] (.seq (.s [.m 4 0,.o 5 (.len .st (.t 4)),.v 6 .eql 5 .z,.m 7 6,.t 8 7 false 0,.g 9 7 false (.len .st (.t 8)),.g 10 7 false (.bin .gtr (.t 9) (.n 24)),.f 11 7 10,.m 12 11,.t 13 12 false 0,.g 14 12 false (.qm (.t 13) .z),.g 15 12 false (.call (.f 193) [.t 14]),.g 16 12 false (.un .not (.t 15)),.f 17 12 16] (.j 17 [.o 2 (.aI .F)])) (.seq (.s [.o 3 (.aI .w)] (.block 0 (.loop (.seq (.s [.m 18 3,.m 19 0,.o 20 (.len .st (.t 19)),.u 21 .lss 18 20] (.i 21 .skip (.exit 0))) (.seq (.block 1 (.s [.m 24 0,.m 25 3,.o 26 (.qm (.t 24) (.t 25)),.c 27 193 [.t 26],.o 28 (.un .not (.t 27)),.m 29 28,.t 30 29 true 0,.t 31 29 true 3,.g 32 29 true (.qm (.t 30) (.t 31)),.g 33 29 true (.call (.f 194) [.t 32]),.g 34 29 true (.un .not (.t 33)),.d 35 29 34,.m 36 35,.t 37 36 true 0,.t 38 36 true 3,.g 39 36 true (.qm (.t 37) (.t 38)),.g 40 36 true (.bin .neq (.t 39) (.c (.int .u8 95))),.d 41 36 40] (.j 41 [.o 2 (.aI .F)]))) (.ops [.m 22 3,.v 23 .add 22 .w,.m 3 23])))))) (.r [.o 2 (.aI .T)]))))⟩
def Bd(x0:Nat):aq:=⟨5,1,[(2,none)],(.s [.o 2 (.aI (.c (.str [])))] (.r [.m 3 0,.c 4 x0 [.t 3],.m 2 4]))⟩
def fn108:aq:=Bd 197
def fn109:aq:=⟨10,0,[(0,none)],(.s [.o 0 (.aI (.c .cY))] (.r [.o 1 (.lF),.o 2 (.build [.bool false,.int .i64 0,.nilFunc] [(0,1,.T),(1,1,(.n 4)),(2,1,(.f 198))]),.x (.fu .s (.t 1) (.c (.str [108,101,102,116])) (.t 2)),.o 3 (.build [.bool false,.int .i64 0,.nilFunc] [(0,1,.T),(1,1,(.n 5)),(2,1,(.f 126))]),.x (.fu .s (.t 1) (.c (.str [102,114,111,109])) (.t 3)),.o 4 (.build [.bool false,.int .i64 0,.nilFunc] [(0,1,.T),(1,1,(.n 3)),(2,1,(.f 200))]),.x (.fu .s (.t 1) (.c (.str [108,105,110,101,115])) (.t 4)),.o 5 (.build [.bool false,.int .i64 0,.nilFunc] [(0,1,.F),(1,1,(.n 2)),(2,1,(.f 201))]),.x (.fu .s (.t 1) (.c (.str [117,110,115,97,102,101])) (.t 5)),.o 6 (.build [.bool false,.int .i64 0,.nilFunc] [(0,1,.T),(1,1,(.n 2)),(2,1,(.f 202))]),.x (.fu .s (.t 1) (.c (.str [116,97,112,101,115])) (.t 6)),.o 7 (.build [.bool false,.int .i64 0,.nilFunc] [(0,1,.F),(1,1,(.n 5)),(2,1,(.f 203))]),.x (.fu .s (.t 1) (.c (.str [114,101,108,101,97,115,101,100])) (.t 7)),.o 8 (.build [.bool false,.int .i64 0,.nilFunc] [(0,1,.T),(1,1,.z),(2,1,(.f 204))]),.x (.fu .s (.t 1) (.c (.str [119,97,110,116])) (.t 8)),.m 9 1,.m 0 9]))⟩
def fn110:aq:=⟨69,2,[(4,none),(5,none)],(.s [.o 4 (.aI (.c (.str []))),.o 5 (.aI .z)] (.s [.y 10 (.call (.f 109) []),.w 11 1,.y 12 (.bf 1 (.t 11) .z),.j 13 12,.y 14 (.look .s (.agg [.bool false,.int .i64 0,.nilFunc]) false (.t 10) (.t 13)),.y 6 (.box (.c (.agg [.bool false,.int .i64 0,.nilFunc]))),.s 3 6 14] (.s [.o 7 (.aI (.c (.str [])))] (.seq (.s [.a 15 0 6,.l 16 15,.m 17 16,.t 18 17 true 1,.g 19 17 true (.len .sl (.t 18)),.g 20 17 true (.bin .eql (.t 19) (.n 2)),.d 21 17 20] (.i 21 (.ops [.m 22 1,.o 23 (.bf 1 (.t 22) .w),.l 24 23,.m 7 24]) .skip)) (.seq (.s [.a 25 0 6,.l 26 25,.m 27 1,.n 28 27,.v 29 .eql 28 (.n 2),.m 30 29,.t 31 30 true 7,.g 32 30 true (.bin .neq (.t 31) (.c (.str []))),.d 33 30 32,.o 34 (.eqv true (.one .b) (.t 26) (.t 33)),.m 35 34,.g 36 35 false (.aR 0 (.t 6)),.g 37 35 false (.load none (.t 36)),.g 38 35 false (.un .not (.t 37)),.t 39 35 false 38,.t 40 39 true 1,.g 41 39 true (.len .sl (.t 40)),.g 42 39 true (.bin .neq (.t 41) .w),.g 43 35 false (.pick (.t 39) (.t 42) .F),.f 44 35 43] (.j 44 [.o 4 (.aI (.c (.str []))),.o 5 (.aI (.n 25))])) (.s [.m 45 0,.o 46 (.bz (.t 45)),.a 47 0 46,.c 48 79 [.t 47],.o 8 (.box (.c (.agg [.int .i64 0,.af,.af,.af,.af,.af,.af]))),.s 7 8 48] (.seq (.s [.a 49 0 6,.l 50 49,.m 51 50,.g 52 51 true (.load (some 7) (.t 8)),.g 53 51 true (.aR 1 (.t 6)),.g 54 51 true (.load none (.t 53)),.t 55 51 true 7,.g 56 51 true (.call (.f 86) [.t 52,.t 54,.t 55]),.g 57 51 true (.un .not (.t 56)),.d 58 51 57] (.j 58 [.o 4 (.aI (.c (.str []))),.o 5 (.aI (.n 10))])) (.s [.a 59 2 6,.l 60 59,.r 61 7 8,.m 62 7,.o 63 (.call (.t 60) [.t 61,.t 62]),.m 9 63] (.seq (.s [.m 64 9,.n 65 64,.v 66 .eql 65 .z] (.j 66 [.o 4 (.aI (.c (.str [110,111,110,101]))),.o 5 (.aI .z)])) (.r [.m 67 9,.o 68 (.call (.f 114) [.t 67,(.c (.str [32]))]),.m 4 68,.o 5 (.aI .z)]))))))))))⟩
def fn111:aq:=⟨73,1,[(2,some (some 5)),(3,none)],(.s [.o 2 (.box (.c (.agg [.int .i64 0,.str [],.af,.af,.str []]))),.o 3 (.aI .F)] (.s [.m 12 0,.o 13 (.build [.af,.bool false] [(0,1,.t 12)]),.p 14 13,.m 4 14] (.s [.m 15 4,.o 16 (.kY (.func 207) [.t 15] []),.m 17 4,.o 18 (.kY (.func 208) [.t 17] []),.m 5 16,.m 6 18] (.s [.m 19 5,.o 20 (.call (.t 19) []),.o 21 (.build [.int .i64 0,.str [],.af,.af,.str []] [(1,1,.t 20)]),.o 7 (.box (.c (.agg [.int .i64 0,.str [],.af,.af,.str []]))),.s 5 7 21] (.s [.y 23 (.call (.f 90) []),.y 24 (.aR 1 (.t 7)),.j 25 24,.y 26 (.look .s (.agg [.af,.int .i64 0,.nilFunc,.nilFunc,.nilFunc]) true (.t 23) (.t 25)),.w 22 26,.y 27 (.ext (.t 22) 0),.y 28 (.ext (.t 22) 1),⟨none,.aI .F,none,true⟩,.y 8 (.nw 5 (.t 27)),.m 9 28] (.seq (.s [.m 29 9,.o 30 (.un .not (.t 29))] (.j 30 [.o 31 (.build [.int .i64 0,.str [],.af,.af,.str []] []),.s 5 2 31,.o 3 (.aI .F)])) (.seq (.s [.a 32 0 8,.l 33 32,.n 34 33,.o 35 (.aI .z)] (.block 0 (.loop (.s [.u 36 .lss 35 34] (.seq (.i 36 .skip (.exit 0)) (.seq (.block 1 (.s [.m 37 5,.o 38 (.call (.t 37) []),.m 10 38] (.ops [.a 39 2 7,.l 40 39,.m 41 10,.o 42 (.aF 1 1 [.str []] [(0,.t 41)]),.o 43 (.app 1 16 (.t 40) (.t 42)),.a 44 2 7,.s 1 44 43]))) (.ops [.v 45 .add 35 .w,.m 35 45]))))))) (.seq (.s [.a 46 1 8,.l 47 46,.o 48 (.aI .z)] (.block 2 (.loop (.s [.u 49 .lss 48 47] (.seq (.i 49 .skip (.exit 2)) (.seq (.block 3 (.s [.m 50 6,.o 51 (.call (.t 50) []),.m 11 51] (.ops [.a 52 3 7,.l 53 52,.m 54 11,.o 55 (.aF 1 1 [.int .i64 0] [(0,.t 54)]),.o 56 (.app 1 8 (.t 53) (.t 55)),.a 57 3 7,.s 1 57 56]))) (.ops [.v 58 .add 48 .w,.m 48 58]))))))) (.seq (.sf [.r 59 5 7,.m 60 4,.o 61 (.bz (.t 60)),.a 62 1 61,.l 63 62,.o 64 (.un .not (.t 63)),.m 65 64,.t 66 65 true 4,.g 67 65 true (.bz (.t 66)),.g 68 65 true (.aR 0 (.t 67)),.g 69 65 true (.load none (.t 68)),.g 70 65 true (.len .sl (.t 69)),.g 71 65 true (.bin .eql (.t 70) .z),.d 72 65 71,.s 5 2 59,.m 3 72]) .ret)))))))))⟩
def fn112:aq:=⟨94,2,[(4,none)],(.s [.p 3 1,.o 4 (.aI .z)] (.seq (.s [.r 9 5 3,.c 10 67 [.t 9],.m 5 10] (.s [.m 11 5,.v 12 .neq 11 .z] (.j 12 [.m 13 5,.m 4 13]))) (.seq (.s [.m 14 0,.r 15 5 3,.c 16 116 [.t 14,.t 15],.m 6 16] (.s [.m 17 6,.v 18 .neq 17 .z] (.j 18 [.m 19 6,.m 4 19]))) (.s [.r 20 5 3,.c 21 91 [.t 20],.s 5 3 21] (.s [.m 22 0,.m 23 0,.o 24 (.bz (.t 23)),.a 25 0 24,.l 26 25,.r 27 5 3,.o 28 (.aF 5 1 [.int .i64 0,.str [],.af,.af,.str []] [(0,.t 27)]),.o 29 (.app 5 88 (.t 26) (.t 28)),.o 30 (.bz (.t 22)),.a 31 0 30,.s 1 31 29] (.seq (.s [.a 32 1 3,.l 33 32,.v 34 .eql 33 (.c (.str [117,110,100,111]))] (.i 34 (.s [.m 35 0,.o 36 (.bz (.t 35)),.a 37 1 36,.l 38 37,.n 39 38,.v 40 .sub 39 .w,.m 7 40] (.s [.m 41 0,.m 42 0,.m 43 0,.o 44 (.bz (.t 43)),.a 45 1 44,.l 46 45,.m 47 7,.o 48 (.sl 5 (.t 46) none (some (.t 47))),.m 49 0,.o 50 (.bz (.t 49)),.a 51 2 50,.l 52 51,.m 53 7,.o 54 (.sl 7 (.t 52) none (some (.t 53))),.o 55 (.bz (.t 41)),.a 56 1 55,.s 1 56 48,.o 57 (.bz (.t 42)),.a 58 2 57,.s 1 58 54] (.r [.o 4 (.aI .z)]))) .skip)) (.s [.m 59 0,.c 60 79 [.t 59],.c 61 96 [.t 60],.o 8 (.box (.c (.agg [.int .i64 0,.af,.af,.af,.af,.af,.af]))),.s 7 8 61] (.s [.y 62 (.call (.f 90) []),.y 63 (.aR 1 (.t 3)),.j 64 63,.y 65 (.look .s (.agg [.af,.int .i64 0,.nilFunc,.nilFunc,.nilFunc]) false (.t 62) (.t 64)),.y 66 (.part none 3 (.t 65)),.y 67 (.load (some 5) (.t 3)),.o 68 (.call (.t 66) [.t 8,.t 67])] (.s [.a 69 3 3,.l 70 69,.o 71 (.bf 1 (.t 70) .z),.l 72 71,.a 73 0 8,.s 1 73 72] (.seq (.lD [.m 74 0,.m 75 0,.m 76 0,.o 77 (.bz (.t 76)),.a 78 1 77,.j 79 78,.y 80 (.load (some 5) (.t 3)),.o 81 (.aF 5 1 [.int .i64 0,.str [],.af,.af,.str []] [(0,.t 80)]),.o 82 (.app 5 88 (.t 79) (.t 81)),.m 83 0,.o 84 (.bz (.t 83)),.a 85 2 84,.j 86 85,.y 87 (.load (some 7) (.t 8)),.o 88 (.aF 7 1 [.int .i64 0,.af,.af,.af,.af,.af,.af] [(0,.t 87)]),.o 89 (.app 7 152 (.t 86) (.t 88)),.o 90 (.bz (.t 74)),.a 91 1 90,.s 1 91 82,.o 92 (.bz (.t 75)),.a 93 2 92,.s 1 93 89]) (.r [.o 4 (.aI .z)])))))))))))⟩
def fn113:aq:=Bd 209
def fn114:aq:=⟨75,2,[(4,none)],(.s [.o 4 (.aI (.c (.str [])))] (.seq (.s [.m 11 0,.n 12 11] (.block 0 (.s [.v 14 .eql 12 .z,.m 13 14] (.i 13 (.r [.o 4 (.aI (.c (.str [])))]) (.s [.v 16 .eql 12 .w,.m 15 16] (.j 15 [.m 17 0,.o 18 (.bf 1 (.t 17) .z),.l 19 18,.m 4 19])))))) (.s [.o 5 (.aI .z)] (.seq (.s [.m 20 1,.o 21 (.len .st (.t 20)),.v 22 .gtr 21 .z] (.i 22 (.seq (.s [.m 23 1,.o 24 (.len .st (.t 23)),.m 25 0,.n 26 25,.v 27 .sub 26 .w,.b 28 .quo (.n 9223372036854775807) (.t 27),.u 29 .geq 24 28] (.i 29 (.ops [.o 30 (.conv (.qn 9) (.c (.str [115,116,114,105,110,103,115,58,32,74,111,105,110,32,111,117,116,112,117,116,32,108,101,110,103,116,104,32,111,118,101,114,102,108,111,119]))),.x (.bad)]) .skip)) (.ops [.m 31 5,.m 32 1,.o 33 (.len .st (.t 32)),.m 34 0,.n 35 34,.v 36 .sub 35 .w,.u 37 .mul 33 36,.u 38 .add 31 37,.m 5 38])) .skip)) (.seq (.s [.m 39 0,.n 40 39,.o 41 (.aI .z)] (.block 1 (.loop (.s [.u 42 .lss 41 40] (.seq (.i 42 .skip (.exit 1)) (.seq (.block 2 (.s [.h 43 1 39 41,.l 44 43,.m 7 44] (.seq (.s [.m 45 7,.o 46 (.len .st (.t 45)),.m 47 5,.b 48 .sub (.n 9223372036854775807) (.t 47),.u 49 .gtr 46 48] (.i 49 (.ops [.o 50 (.conv (.qn 9) (.c (.str [115,116,114,105,110,103,115,58,32,74,111,105,110,32,111,117,116,112,117,116,32,108,101,110,103,116,104,32,111,118,101,114,102,108,111,119]))),.x (.bad)]) .skip)) (.ops [.m 51 5,.m 52 7,.o 53 (.len .st (.t 52)),.u 54 .add 51 53,.m 5 54])))) (.ops [.v 55 .add 41 .w,.m 41 55]))))))) (.s [.o 8 (.box (.c (.agg [.nilPtr,.af])))] (.s [.m 56 5,.c 57 210 [.t 8,.t 56]] (.s [.m 58 0,.o 59 (.bf 1 (.t 58) .z),.l 60 59,.c 61 211 [.t 8,.t 60]] (.seq (.s [.m 62 0,.o 63 (.sl 1 (.t 62) (some .w) none),.n 64 63,.o 65 (.aI .z)] (.block 3 (.loop (.s [.u 66 .lss 65 64] (.seq (.i 66 .skip (.exit 3)) (.seq (.block 4 (.s [.h 67 1 63 65,.l 68 67,.m 10 68] (.s [.m 69 1,.c 70 211 [.t 8,.t 69]] (.ops [.m 71 10,.c 72 211 [.t 8,.t 71]])))) (.ops [.v 73 .add 65 .w,.m 65 73]))))))) (.r [.c 74 212 [.t 8],.m 4 74]))))))))))⟩
def fn115:aq:=⟨22,2,[(4,none)],(.s [.o 4 (.aI (.c .af))] (.s [.o 5 (.aI (.c .af))] (.seq (.s [.m 8 0,.n 9 8,.o 10 (.aI .z)] (.block 0 (.loop (.s [.u 11 .lss 10 9] (.seq (.i 11 .skip (.exit 0)) (.seq (.block 1 (.s [.h 12 5 8 10,.r 13 5 12,.o 7 (.box (.c (.agg [.int .i64 0,.str [],.af,.af,.str []]))),.s 5 7 13] (.ops [.m 14 5,.m 15 1,.r 16 5 7,.o 17 (.call (.t 15) [.t 16]),.o 18 (.aF 1 1 [.str []] [(0,.t 17)]),.o 19 (.app 1 16 (.t 14) (.t 18)),.m 5 19]))) (.ops [.v 20 .add 10 .w,.m 10 20]))))))) (.r [.m 21 5,.m 4 21]))))⟩
def fn116:aq:=⟨106,2,[(4,none)],(.s [.p 3 1,.o 4 (.aI .z)] (.seq (.s [.y 12 (.aR 0 (.t 3)),.j 13 12,.w 14 0,.y 15 (.bz (.t 14)),.y 16 (.aR 0 (.t 15)),.j 17 16,.y 18 (.len .sl (.t 17)),.y 19 (.bin .add (.t 18) .w),.u 20 .neq 13 19] (.j 20 [.o 4 (.aI (.n 11))])) (.s [.m 21 0,.o 22 (.bz (.t 21)),.a 23 1 22,.l 24 23,.n 25 24,.m 5 25] (.seq (.s [.a 26 1 3,.l 27 26,.v 28 .eql 27 (.c (.str [117,110,100,111]))] (.i 28 (.seq (.s [.m 29 5,.v 30 .eql 29 .z] (.j 30 [.o 4 (.aI (.n 12))])) (.r [.m 31 0,.o 32 (.bz (.t 31)),.a 33 1 32,.l 34 33,.m 35 5,.v 36 .sub 35 .w,.h 37 5 34 36,.a 38 1 37,.l 39 38,.v 40 .eql 39 (.c (.str [114,101,108,101,97,115,101])),.c 41 85 [.t 40,.n 21],.m 4 41])) .skip)) (.s [.m 42 0,.c 43 79 [.t 42],.o 6 (.box (.c (.agg [.int .i64 0,.af,.af,.af,.af,.af,.af]))),.s 7 6 43] (.seq (.s [.y 44 (.aR 3 (.t 3)),.j 45 44,.y 46 (.bf 1 (.t 45) .z),.j 47 46,.y 48 (.aR 0 (.t 6)),.j 49 48,.u 50 .lss 47 49] (.j 50 [.o 4 (.aI (.n 22))])) (.s [.y 51 (.call (.f 90) []),.y 52 (.aR 1 (.t 3)),.j 53 52,.y 54 (.look .s (.agg [.af,.int .i64 0,.nilFunc,.nilFunc,.nilFunc]) false (.t 51) (.t 53)),.y 7 (.box (.c (.agg [.af,.int .i64 0,.nilFunc,.nilFunc,.nilFunc]))),.s 5 7 54] (.seq (.s [.a 55 0 7,.l 56 55,.n 57 56,.o 58 (.aI .z)] (.block 0 (.loop (.s [.u 59 .lss 58 57] (.seq (.i 59 .skip (.exit 0)) (.seq (.block 1 (.s [.m 60 58,.h 61 2 56 58,.r 62 2 61,.o 9 (.box (.c (.agg [.int .i64 0,.bool false]))),.m 8 60,.s 2 9 62] (.s [.a 63 1 9,.l 64 63,.m 65 64,⟨(some 66),.load (some 7) (.t 6),(some (65,true)),true⟩,⟨(some 67),.aR 0 (.t 9),(some (65,true)),true⟩,⟨(some 68),.load none (.t 67),(some (65,true)),true⟩,⟨(some 69),.aR 2 (.t 3),(some (65,true)),true⟩,⟨(some 70),.load none (.t 69),(some (65,true)),true⟩,⟨(some 71),.aI (.t 8),(some (65,true)),true⟩,⟨(some 72),.bf 1 (.t 70) (.t 71),(some (65,true)),true⟩,⟨(some 73),.load none (.t 72),(some (65,true)),true⟩,.g 74 65 true (.call (.f 86) [.t 66,.t 68,.t 73]),.g 75 65 true (.un .not (.t 74)),.d 76 65 75] (.j 76 [.o 4 (.aI (.n 10))])))) (.ops [.v 77 .add 58 .w,.m 58 77]))))))) (.seq (.s [.a 78 0 7,.l 79 78,.n 80 79,.o 81 (.aI .z)] (.block 2 (.loop (.s [.u 82 .lss 81 80] (.seq (.i 82 .skip (.exit 2)) (.seq (.block 3 (.s [.m 83 81,.h 84 2 79 81,.r 85 2 84,.o 11 (.box (.c (.agg [.int .i64 0,.bool false]))),.m 10 83,.s 2 11 85] (.s [.a 86 1 11,.l 87 86,.o 88 (.un .not (.t 87)),.m 89 88,⟨(some 90),.load (some 7) (.t 6),(some (89,true)),true⟩,⟨(some 91),.aR 0 (.t 11),(some (89,true)),true⟩,⟨(some 92),.load none (.t 91),(some (89,true)),true⟩,⟨(some 93),.aR 2 (.t 3),(some (89,true)),true⟩,⟨(some 94),.load none (.t 93),(some (89,true)),true⟩,⟨(some 95),.aI (.t 10),(some (89,true)),true⟩,⟨(some 96),.bf 1 (.t 94) (.t 95),(some (89,true)),true⟩,⟨(some 97),.load none (.t 96),(some (89,true)),true⟩,.g 98 89 true (.call (.f 86) [.t 90,.t 92,.t 97]),.d 99 89 98] (.j 99 [.o 4 (.aI (.n 9))])))) (.ops [.v 100 .add 81 .w,.m 81 100]))))))) (.r [.a 101 2 7,.l 102 101,.r 103 7 6,.r 104 5 3,.o 105 (.call (.t 102) [.t 103,.t 104]),.m 4 105]))))))))))⟩
def fn117:aq:=⟨22,2,[(4,none)],(.s [.o 4 (.aI (.c .af))] (.s [.o 5 (.aI (.c .af))] (.seq (.s [.m 8 0,.n 9 8,.o 10 (.aI .z)] (.block 0 (.loop (.s [.u 11 .lss 10 9] (.seq (.i 11 .skip (.exit 0)) (.seq (.block 1 (.s [.h 12 4 8 10,.r 13 4 12,.o 7 (.box (.c (.agg [.str [],.str [],.str [],.af]))),.s 4 7 13] (.ops [.m 14 5,.m 15 1,.r 16 4 7,.o 17 (.call (.t 15) [.t 16]),.o 18 (.aF 1 1 [.str []] [(0,.t 17)]),.o 19 (.app 1 16 (.t 14) (.t 18)),.m 5 19]))) (.ops [.v 20 .add 10 .w,.m 10 20]))))))) (.r [.m 21 5,.m 4 21]))))⟩
def fn118:aq:=⟨5,1,[(2,none)],(.s [.o 2 (.aI (.c .af))] (.r [.m 3 0,.c 4 213 [(.c .af),.t 3],.m 2 4]))⟩
def fn119:aq:=⟨6,2,[(4,none)],(.s [.p 2 0,.p 3 1,.o 4 (.aI (.c .nilFunc))] (.r [.o 5 (.kY (.func 214) [] [.t 3,.t 2]),.m 4 5]))⟩
def kO:aq:=⟨5,1,[(2,none)],(.s [.p 1 0,.o 2 (.aI (.c (.str [])))] (.r [.a 3 0 1,.l 4 3,.m 2 4]))⟩
def fn120:aq:=kO
def fn121:aq:=⟨22,2,[(4,none)],(.s [.o 4 (.aI (.c .af))] (.s [.o 5 (.aI (.c .af))] (.seq (.s [.m 8 0,.n 9 8,.o 10 (.aI .z)] (.block 0 (.loop (.s [.u 11 .lss 10 9] (.seq (.i 11 .skip (.exit 0)) (.seq (.block 1 (.s [.h 12 3 8 10,.r 13 3 12,.o 7 (.box (.c (.agg [.str [],.int .i64 0,.bool false]))),.s 3 7 13] (.ops [.m 14 5,.m 15 1,.r 16 3 7,.o 17 (.call (.t 15) [.t 16]),.o 18 (.aF 1 1 [.str []] [(0,.t 17)]),.o 19 (.app 1 16 (.t 14) (.t 18)),.m 5 19]))) (.ops [.v 20 .add 10 .w,.m 10 20]))))))) (.r [.m 21 5,.m 4 21]))))⟩
def fn122:aq:=⟨19,2,[(4,none)],(.s [.p 2 0,.o 4 (.aI (.c .af))] (.s [.o 7 (.lF),.o 5 (.box (.c .cY)),.s 1 5 7] (.seq (.s [.r 8 7 2,.m 9 1,.c 10 119 [.t 8,.t 9]] (.block 0 (.eQ (.t 10) [11] (.ops [.o 6 (.box (.c (.agg [.str [],.str [],.str [],.af]))),.s 4 6 11]) (.block 1 (.ops [.l 12 5,.a 13 2 6,.l 14 13,.x (.fu .s (.t 12) (.t 14) .T)]))))) (.r [.a 15 1 2,.l 16 15,.o 17 (.kY (.func 217) [] [.t 5]),.c 18 216 [.t 16,.t 17],.m 4 18]))))⟩
def fn123:aq:=kO
def fn124:aq:=Dl 5 145
def fn125:aq:=⟨23,1,[(2,none)],(.s [.p 1 0,.o 2 (.aI (.c .af))] (.s [.o 3 (.aI (.c .af))] (.seq (.s [.a 5 2 1,.l 6 5,.n 7 6,.o 8 (.aI .z)] (.block 0 (.loop (.s [.u 9 .lss 8 7] (.seq (.i 9 .skip (.exit 0)) (.seq (.block 1 (.s [.m 10 8,.m 4 10] (.s [.a 11 2 1,.l 12 11,.m 13 4,.h 14 1 12 13,.l 15 14,.v 16 .eql 15 (.n (-1))] (.i 16 (.ops [.m 17 3,.m 18 4,.o 19 (.aF 1 1 [.int .i64 0] [(0,.t 18)]),.o 20 (.app 1 8 (.t 17) (.t 19)),.m 3 20]) .skip)))) (.ops [.v 21 .add 8 .w,.m 8 21]))))))) (.r [.m 22 3,.m 2 22]))))⟩
def fn126:aq:=⟨20,2,[(4,none)],(.s [.p 2 0,.o 4 (.aI (.c .af))] (.s [.y 6 (.load (some 7) (.t 2)),.y 7 (.load (some 7) (.t 2)),.y 8 (.load (some 7) (.t 2)),.w 9 1,.y 10 (.call (.f 218) [.t 8,.t 9]),.y 11 (.part none 1 (.t 10)),.y 12 (.call (.f 124) [.t 7,.t 11]),.y 13 (.part none 1 (.t 12)),.y 14 (.call (.f 122) [.t 6,.t 13]),.y 5 (.box (.c .af)),.s 1 5 14] (.r [.a 15 3 2,.l 16 15,.o 17 (.kY (.func 219) [] [.t 5]),.c 18 138 [.t 16,.t 17],.c 19 137 [.t 18,(.f 140)],.m 4 19])))⟩
def fn127:aq:=⟨32,2,[(4,none)],(.s [.p 2 0,.o 4 (.aI (.c .af))] (.s [.o 5 (.aI (.c .af))] (.seq (.s [.o 6 (.aI .z)] (.block 0 (.loop (.seq (.s [.m 7 6,.a 8 3 2,.l 9 8,.n 10 9,.u 11 .lss 7 10] (.i 11 .skip (.exit 0))) (.seq (.block 1 (.s [.m 14 1,.a 15 3 2,.l 16 15,.m 17 6,.h 18 3 16 17,.a 19 1 18,.l 20 19,.c 21 35 [.t 14,.t 20]] (.i 21 (.ops [.m 22 5,.a 23 3 2,.l 24 23,.m 25 6,.h 26 3 24 25,.a 27 0 26,.l 28 27,.o 29 (.aF 1 1 [.str []] [(0,.t 28)]),.o 30 (.app 1 16 (.t 22) (.t 29)),.m 5 30]) .skip))) (.ops [.m 12 6,.v 13 .add 12 .w,.m 6 13])))))) (.r [.m 31 5,.m 4 31]))))⟩
def fn128:aq:=⟨66,4,[(8,none)],(.s [.o 8 (.aI (.c .af))] (.seq (.s [.m 12 3,.v 13 .eql 12 .z] (.j 13 [.o 8 (.aI (.c .af))])) (.seq (.s [.m 14 1,.v 15 .eql 14 (.c (.str []))] (.j 15 [.m 16 0,.m 17 3,.c 18 220 [.t 16,.t 17],.m 8 18])) (.seq (.s [.m 19 3,.v 20 .lss 19 .z] (.i 20 (.ops [.m 21 0,.m 22 1,.c 23 221 [.t 21,.t 22],.v 24 .add 23 .w,.m 3 24]) .skip)) (.s [.m 25 3,.m 26 0,.o 27 (.len .st (.t 26)),.v 28 .add 27 .w,.o 29 (.mn (.t 25) [.t 28]),.m 3 29] (.s [.m 30 3,.o 31 (.si 1 16 [.str []] (.t 30) (.t 30)),.m 9 31] (.s [.m 32 3,.v 33 .sub 32 .w,.m 3 33] (.s [.o 10 (.aI .z)] (.seq (.block 0 (.loop (.seq (.s [.m 34 10,.m 35 3,.u 36 .lss 34 35] (.i 36 .skip (.exit 0))) (.block 1 (.s [.m 37 0,.m 38 1,.c 39 222 [.t 37,.t 38],.m 11 39] (.seq (.s [.m 40 11,.v 41 .lss 40 .z] (.i 41 (.exit 0) .skip)) (.s [.m 42 9,.m 43 10,.m 44 0,.m 45 11,.m 46 2,.u 47 .add 45 46,.o 48 (.pO (.t 44) none (some (.t 47))),.h 49 1 42 43,.s 1 49 48] (.s [.m 50 0,.m 51 11,.m 52 1,.o 53 (.len .st (.t 52)),.u 54 .add 51 53,.o 55 (.pO (.t 50) (some (.t 54)) none),.m 0 55] (.ops [.m 56 10,.v 57 .add 56 .w,.m 10 57]))))))))) (.s [.m 58 9,.m 59 10,.m 60 0,.h 61 1 58 59,.s 1 61 60] (.r [.m 62 9,.m 63 10,.v 64 .add 63 .w,.o 65 (.sl 1 (.t 62) none (some (.t 64))),.m 8 65])))))))))))⟩
def fn129:aq:=⟨63,2,[(4,some (some 7)),(5,none)],(.s [.p 2 0,.p 3 1,.o 4 (.box (.c (.agg [.int .i64 0,.af,.af,.af,.af,.af,.af]))),.o 5 (.aI .z)] (.seq (.s [.y 9 (.aR 3 (.t 3)),.j 10 9,.y 11 (.bf 1 (.t 10) .z),.j 12 11,.y 13 (.aR 0 (.t 2)),.j 14 13,.u 15 .lss 12 14] (.j 15 [.r 16 7 2,.s 7 4 16,.o 5 (.aI (.n 22))])) (.seq (.s [.r 17 7 2,.r 18 5 3,.c 19 223 [.t 17,.t 18],.m 6 19] (.s [.m 20 6,.v 21 .neq 20 .z] (.j 21 [.r 22 7 2,.m 23 6,.s 7 4 22,.m 5 23]))) (.s [.r 24 7 2,.c 25 224 [.t 24],.o 7 (.box (.c (.agg [.int .i64 0,.af,.af,.af,.af,.af,.af]))),.s 7 7 25,.o 8 (.aI .z)] (.seq (.s [.a 26 1 3,.l 27 26] (.block 0 (.seq (.s [.v 35 .eql 27 (.c (.str [108,105,110,101])),.m 34 35] (.i 34 .skip (.s [.v 36 .eql 27 (.c (.str [116,97,112,101])),.m 34 36] (.i 34 .skip (.s [.v 37 .eql 27 (.c (.str [115,104,111,116])),.m 34 37] (.i 34 .skip (.s [.v 38 .eql 27 (.c (.str [99,111,112,121])),.m 34 38] (.i 34 .skip (.ops [.v 39 .eql 27 (.c (.str [97,99,99,101,112,116])),.m 34 39]))))))))) (.i 34 (.ops [.r 41 7 7,.r 42 5 3,.c 43 225 [.t 41,.t 42],.m 40 43,.e 44 40 0,.e 45 40 1,.s 7 7 44,.m 8 45]) (.seq (.s [.v 47 .eql 27 (.c (.str [115,111,117,114,99,101])),.m 46 47] (.i 46 .skip (.s [.v 48 .eql 27 (.c (.str [109,111,100,117,108,101])),.m 46 48] (.i 46 .skip (.ops [.v 49 .eql 27 (.c (.str [109,101,114,103,101])),.m 46 49]))))) (.i 46 (.ops [.r 51 7 7,.r 52 5 3,.c 53 226 [.t 51,.t 52],.m 50 53,.e 54 50 0,.e 55 50 1,.s 7 7 54,.m 8 55]) (.ops [.r 29 7 7,.r 30 5 3,.c 31 227 [.t 29,.t 30],.m 28 31,.e 32 28 0,.e 33 28 1,.s 7 7 32,.m 8 33]))))))) (.s [.a 56 3 3,.l 57 56,.o 58 (.bf 1 (.t 57) .z),.l 59 58,.a 60 0 7,.s 1 60 59] (.r [.r 61 7 7,.m 62 8,.s 7 4 61,.m 5 62])))))))⟩
def fn130:aq:=Dj
def fn131:aq:=⟨7,1,[(2,none)],(.s [.o 2 (.aI .z)] (.r [.m 3 0,.c 4 132 [.t 3],.o 5 (.un .not (.t 4)),.c 6 85 [.t 5,.n 8],.m 2 6]))⟩
def fn132:aq:=⟨54,1,[(2,none)],(.s [.o 2 (.aI .F)] (.seq (.s [.m 7 0,.o 8 (.wX (.t 7))] (.block 0 (.loop (.s [.o 9 (.nV (.t 8)),.e 10 9 0] (.seq (.i 10 .skip (.exit 0)) (.block 1 (.s [.e 11 9 1,.e 12 9 2,.m 3 11,.m 4 12] (.s [.m 13 4,.b 14 .leq (.c (.int .i32 65)) (.t 13),.m 15 14,.t 16 15 true 4,.g 17 15 true (.bin .leq (.t 16) (.c (.int .i32 90))),.d 18 15 17,.m 19 18,.t 20 19 false 4,.g 21 19 false (.bin .leq (.c (.int .i32 97)) (.t 20)),.t 22 19 false 21,.t 23 22 true 4,.g 24 22 true (.bin .leq (.t 23) (.c (.int .i32 122))),.g 25 19 false (.pick (.t 22) (.t 24) .F),.f 26 19 25,.m 5 26] (.s [.m 27 4,.b 28 .leq (.c (.int .i32 48)) (.t 27),.m 29 28,.t 30 29 true 4,.g 31 29 true (.bin .leq (.t 30) (.c (.int .i32 57))),.d 32 29 31,.m 33 32,.t 34 33 false 4,.g 35 33 false (.bin .eql (.t 34) (.c (.int .i32 95))),.f 36 33 35,.m 6 36] (.s [.m 37 5,.o 38 (.un .not (.t 37)),.m 39 38,.t 40 39 true 3,.g 41 39 true (.bin .eql (.t 40) .z),.t 42 39 true 41,.t 43 42 false 6,.g 44 42 false (.un .not (.t 43)),.g 45 39 true (.pick (.t 42) .T (.t 44)),.d 46 39 45] (.j 46 [.o 2 (.aI .F)]))))))))))) (.r [.m 47 0,.v 48 .neq 47 (.c (.str [])),.m 49 48,.t 50 49 true 0,.g 51 49 true (.len .st (.t 50)),.g 52 49 true (.bin .leq (.t 51) (.n 24)),.d 53 49 52,.m 2 53])))⟩
def fn133:aq:=zq
def fn134:aq:=⟨13,2,[(4,some (some 2))],(.s [.p 2 0,.o 4 (.box (.c (.agg [.str [],.int .i64 0])))] (.r [.y 5 (.aR 2 (.t 2)),.j 6 5,.y 7 (.aR 2 (.t 2)),.j 8 7,.w 9 1,.y 10 (.call (.f 143) [.t 8,.t 9]),.h 11 2 6 10,.r 12 2 11,.s 2 4 12]))⟩
def fn135:aq:=⟨9,2,[(4,none)],(.s [.p 2 0,.o 4 (.aI .F)] (.r [.m 5 1,.a 6 1 2,.l 7 6,.u 8 .leq 5 7,.m 4 8]))⟩
def kN(x0 x1:Nat):aq:=⟨8,2,[(4,none)],(.s [.p 3 1,.o 4 (.aI .z)] (.r [.m 5 0,.o 6 (.kY (.func x0) [] [.t 3]),.c 7 x1 [.t 5,.t 6],.m 4 7]))⟩
def fn136:aq:=kN 229 228
def fn137:aq:=⟨22,2,[(4,none)],(.s [.o 4 (.aI (.c .af))] (.s [.o 5 (.aI (.c .af))] (.seq (.s [.m 8 0,.n 9 8,.o 10 (.aI .z)] (.block 0 (.loop (.s [.u 11 .lss 10 9] (.seq (.i 11 .skip (.exit 0)) (.seq (.block 1 (.s [.h 12 3 8 10,.r 13 3 12,.o 7 (.box (.c (.agg [.str [],.str [],.af]))),.s 3 7 13] (.ops [.m 14 5,.m 15 1,.r 16 3 7,.o 17 (.call (.t 15) [.t 16]),.o 18 (.aF 1 1 [.str []] [(0,.t 17)]),.o 19 (.app 1 16 (.t 14) (.t 18)),.m 5 19]))) (.ops [.v 20 .add 10 .w,.m 10 20]))))))) (.r [.m 21 5,.m 4 21]))))⟩
def fn138:aq:=⟨23,2,[(4,none)],(.s [.o 4 (.aI (.c .af))] (.s [.o 5 (.aI (.c .af))] (.seq (.s [.m 8 0,.n 9 8,.o 10 (.aI .z)] (.block 0 (.loop (.s [.u 11 .lss 10 9] (.seq (.i 11 .skip (.exit 0)) (.seq (.block 1 (.s [.h 12 3 8 10,.r 13 3 12,.o 7 (.box (.c (.agg [.str [],.str [],.af]))),.s 3 7 13] (.s [.m 14 1,.r 15 3 7,.o 16 (.call (.t 14) [.t 15])] (.i 16 (.ops [.m 17 5,.r 18 3 7,.o 19 (.aF 3 1 [.str [],.str [],.af] [(0,.t 18)]),.o 20 (.app 3 56 (.t 17) (.t 19)),.m 5 20]) .skip)))) (.ops [.v 21 .add 10 .w,.m 10 21]))))))) (.r [.m 22 5,.m 4 22]))))⟩
def fn139:aq:=⟨10,1,[(4,none)],(.s [.p 3 0,.o 4 (.aI .F)] (.r [.r 5 7 1,.r 6 3 3,.l 7 2,.c 8 76 [.t 5,.t 6,.t 7],.o 9 (.un .not (.t 8)),.m 4 9]))⟩
def fn140:aq:=kO
def fn141:aq:=uP 2 2
def fn142:aq:=kN 231 230
def fn143:aq:=kN 233 232
def fn144:aq:=kN 235 234
def fn145:aq:=kN 237 236
def fn146:aq:=kN 239 238
def fn147:aq:=⟨5,1,[(2,some (some 2))],(.s [.o 2 (.box (.c (.agg [.int .i64 0,.bool false])))] (.r [.m 3 0,.o 4 (.build [.int .i64 0,.bool false] [(0,1,.t 3),(1,1,.F)]),.s 2 2 4]))⟩
def fn148:aq:=⟨17,2,[(4,none)],(.s [.p 2 0,.p 3 1,.o 4 (.aI .z)] (.r [.y 5 (.aR 3 (.t 3)),.j 6 5,.y 7 (.bf 1 (.t 6) .w),.j 8 7,.y 9 (.call (.f 94) [.t 8,.w,.n 64]),.y 10 (.aR 1 (.t 2)),.j 11 10,.y 12 (.len .sl (.t 11)),.y 13 (.bin .geq (.t 12) (.n 16)),.c 14 85 [.t 13,.n 5],.o 15 (.aF 1 2 [.int .i64 0] [(0,.t 9),(1,.t 14)]),.c 16 74 [.t 15],.m 4 16]))⟩
def fn149:aq:=⟨22,2,[],(.s [.p 3 1] (.ops [.m 4 0,.m 5 0,.o 6 (.bz (.t 5)),.a 7 1 6,.l 8 7,.a 9 2 3,.l 10 9,.o 11 (.bf 1 (.t 10) .z),.l 12 11,.a 13 3 3,.l 14 13,.o 15 (.bf 1 (.t 14) .w),.l 16 15,.o 17 (.build [.str [],.int .i64 0,.bool false] [(0,1,.t 12),(1,1,.t 16)]),.o 18 (.aF 3 1 [.str [],.int .i64 0,.bool false] [(0,.t 17)]),.o 19 (.app 3 32 (.t 8) (.t 18)),.o 20 (.bz (.t 4)),.a 21 1 20,.s 1 21 19]))⟩
def yu(x0:Nat):aq:=⟨4,1,[(2,none)],(.s [.p 1 0,.o 2 (.aI (.c .nilFunc))] (.r [.o 3 (.kY (.func x0) [] [.t 1]),.m 2 3]))⟩
def fn150:aq:=yu 240
def fn151:aq:=⟨23,2,[(4,none)],(.s [.p 2 0,.p 3 1,.o 4 (.aI .z)] (.r [.y 5 (.aR 3 (.t 3)),.j 6 5,.y 7 (.bf 1 (.t 6) .z),.j 8 7,.y 9 (.aR 3 (.t 3)),.j 10 9,.y 11 (.bf 1 (.t 10) .w),.j 12 11,.y 13 (.bin .add (.t 8) (.t 12)),.y 14 (.bin .gtr (.t 13) (.n 999999999)),.y 15 (.call (.f 85) [.t 14,.n 4]),.y 16 (.aR 2 (.t 2)),.j 17 16,.y 18 (.len .sl (.t 17)),.y 19 (.bin .geq (.t 18) (.n 16)),.c 20 85 [.t 19,.n 5],.o 21 (.aF 1 2 [.int .i64 0] [(0,.t 15),(1,.t 20)]),.c 22 74 [.t 21],.m 4 22]))⟩
def fn152:aq:=⟨27,2,[],(.s [.p 3 1] (.ops [.m 4 0,.m 5 0,.o 6 (.bz (.t 5)),.a 7 2 6,.l 8 7,.a 9 2 3,.l 10 9,.o 11 (.bf 1 (.t 10) .z),.l 12 11,.a 13 3 3,.l 14 13,.o 15 (.bf 1 (.t 14) .z),.l 16 15,.a 17 3 3,.l 18 17,.o 19 (.bf 1 (.t 18) .w),.l 20 19,.u 21 .add 16 20,.o 22 (.build [.str [],.int .i64 0] [(0,1,.t 12),(1,1,.t 21)]),.o 23 (.aF 2 1 [.str [],.int .i64 0] [(0,.t 22)]),.o 24 (.app 2 24 (.t 8) (.t 23)),.o 25 (.bz (.t 4)),.a 26 2 25,.s 1 26 24]))⟩
def fn153:aq:=⟨5,2,[(4,none)],(.s [.p 2 0,.o 4 (.aI .F)] (.r [.o 4 (.aI .T)]))⟩
def fn154:aq:=⟨5,1,[(2,some (some 2))],(.s [.o 2 (.box (.c (.agg [.int .i64 0,.bool false])))] (.r [.m 3 0,.o 4 (.build [.int .i64 0,.bool false] [(0,1,.t 3),(1,1,.T)]),.s 2 2 4]))⟩
def fn155:aq:=⟨27,2,[(4,none)],(.s [.p 2 0,.p 3 1,.o 4 (.aI .z)] (.r [.y 5 (.load (some 7) (.t 2)),.y 6 (.aR 2 (.t 3)),.j 7 6,.y 8 (.bf 1 (.t 7) .w),.j 9 8,.y 10 (.call (.f 205) [.t 5,.t 9]),.y 11 (.part none 2 (.t 10)),.y 12 (.call (.f 85) [.t 11,.n 23]),.y 13 (.load (some 7) (.t 2)),.y 14 (.load (some 5) (.t 3)),.y 15 (.aR 2 (.t 3)),.j 16 15,.y 17 (.bf 1 (.t 16) (.n 2)),.j 18 17,.y 19 (.call (.f 241) [.t 13,.t 14,.t 18]),.y 20 (.aR 3 (.t 2)),.j 21 20,.y 22 (.len .sl (.t 21)),.y 23 (.bin .geq (.t 22) (.n 64)),.c 24 85 [.t 23,.n 5],.o 25 (.aF 1 3 [.int .i64 0] [(0,.t 12),(1,.t 19),(2,.t 24)]),.c 26 74 [.t 25],.m 4 26]))⟩
def fn156:aq:=⟨27,2,[],(.s [.p 3 1] (.ops [.m 4 0,.m 5 0,.o 6 (.bz (.t 5)),.a 7 3 6,.l 8 7,.a 9 2 3,.l 10 9,.o 11 (.bf 1 (.t 10) .z),.l 12 11,.a 13 2 3,.l 14 13,.o 15 (.bf 1 (.t 14) .w),.l 16 15,.a 17 2 3,.l 18 17,.o 19 (.bf 1 (.t 18) (.n 2)),.l 20 19,.o 21 (.aF 1 1 [.str []] [(0,.t 20)]),.o 22 (.build [.str [],.str [],.af] [(0,1,.t 12),(1,1,.t 16),(2,1,.t 21)]),.o 23 (.aF 3 1 [.str [],.str [],.af] [(0,.t 22)]),.o 24 (.app 3 56 (.t 8) (.t 23)),.o 25 (.bz (.t 4)),.a 26 3 25,.s 1 26 24]))⟩
def fn157:aq:=⟨35,2,[(4,none)],(.s [.p 2 0,.p 3 1,.o 4 (.aI .z)] (.s [.y 7 (.load (some 7) (.t 2)),.y 8 (.aR 2 (.t 3)),.j 9 8,.y 10 (.bf 1 (.t 9) .z),.j 11 10,.y 12 (.call (.f 134) [.t 7,.t 11]),.y 13 (.load (some 7) (.t 2)),.y 14 (.aR 2 (.t 3)),.j 15 14,.y 16 (.bf 1 (.t 15) .w),.j 17 16,.y 18 (.call (.f 134) [.t 13,.t 17]),.y 5 (.box (.c (.agg [.str [],.int .i64 0]))),.y 6 (.box (.c (.agg [.str [],.int .i64 0]))),.s 2 5 12,.s 2 6 18] (.r [.y 19 (.load (some 2) (.t 5)),.y 20 (.load (some 2) (.t 6)),.y 21 (.eqv false (.agg [.s,.i]) (.t 19) (.t 20)),.y 22 (.call (.f 85) [.t 21,.n 24]),.y 23 (.load (some 7) (.t 2)),.y 24 (.load (some 5) (.t 3)),.y 25 (.aR 0 (.t 5)),.j 26 25,.y 27 (.call (.f 241) [.t 23,.t 24,.t 26]),.y 28 (.load (some 7) (.t 2)),.y 29 (.load (some 5) (.t 3)),.y 30 (.aR 0 (.t 6)),.j 31 30,.c 32 241 [.t 28,.t 29,.t 31],.o 33 (.aF 1 3 [.int .i64 0] [(0,.t 22),(1,.t 27),(2,.t 32)]),.c 34 74 [.t 33],.m 4 34])))⟩
def fn158:aq:=⟨50,2,[],(.s [.p 3 1] (.s [.y 8 (.aR 2 (.t 3)),.j 9 8,.y 10 (.bf 1 (.t 9) .z),.j 11 10,.y 12 (.aR 2 (.t 3)),.j 13 12,.y 14 (.bf 1 (.t 13) .w),.j 15 14,.w 4 11,.m 5 15] (.s [.m 16 0,.o 17 (.bz (.t 16)),.a 18 3 17,.l 19 18,.n 20 19,.o 21 (.aI .z)] (.block 0 (.loop (.s [.u 22 .lss 21 20] (.seq (.i 22 .skip (.exit 0)) (.seq (.block 1 (.s [.m 23 21,.h 24 3 19 21,.r 25 3 24,.o 7 (.box (.c (.agg [.str [],.str [],.af]))),.m 6 23,.s 3 7 25] (.s [.a 26 2 7,.l 27 26,.m 28 4,.c 29 242 [.t 27,.t 28],.m 30 29,.g 31 30 true (.aR 2 (.t 7)),.g 32 30 true (.load none (.t 31)),.t 33 30 true 5,.g 34 30 true (.call (.f 242) [.t 32,.t 33]),.g 35 30 true (.un .not (.t 34)),.d 36 30 35] (.i 36 (.lD [.m 37 0,.o 38 (.bz (.t 37)),.a 39 3 38,.j 40 39,.m 41 6,.a 42 2 7,.j 43 42,.m 44 5,.o 45 (.aF 1 1 [.str []] [(0,.t 44)]),.o 46 (.app 1 16 (.t 43) (.t 45)),.h 47 3 40 41,.a 48 2 47,.s 1 48 46]) .skip)))) (.ops [.v 49 .add 21 .w,.m 21 49])))))))))⟩
def fn159:aq:=⟨36,2,[(4,none)],(.s [.p 2 0,.p 3 1,.o 4 (.aI .z)] (.s [.y 8 (.load (some 7) (.t 2)),.y 9 (.aR 2 (.t 3)),.j 10 9,.y 11 (.bf 1 (.t 10) .z),.j 12 11,.y 13 (.call (.f 205) [.t 8,.t 12]),.y 14 (.load (some 7) (.t 2)),.y 15 (.aR 2 (.t 3)),.j 16 15,.y 17 (.bf 1 (.t 16) .z),.j 18 17,.y 19 (.call (.f 206) [.t 14,.t 18]),.y 5 (.box (.c (.agg [.str [],.int .i64 0,.bool false]))),.s 3 5 13,.m 6 19] (.s [.m 20 6,.o 21 (.kY (.func 244) [] [.t 2,.t 3]),.c 22 243 [.t 20,.t 21],.m 7 22] (.r [.y 23 (.aR 2 (.t 5)),.j 24 23,.y 25 (.call (.f 85) [.t 24,.n 23]),.w 26 6,.y 27 (.len .sl (.t 26)),.y 28 (.aR 1 (.t 5)),.j 29 28,.y 30 (.bin .lss (.t 27) (.t 29)),.y 31 (.call (.f 85) [.t 30,.n 16]),.w 32 7,.c 33 85 [.t 32,.n 30],.o 34 (.aF 1 3 [.int .i64 0] [(0,.t 25),(1,.t 31),(2,.t 33)]),.c 35 74 [.t 34],.m 4 35]))))⟩
def yt(x0 x1 x2 x3:Nat):aq:=⟨19,2,[],(.s [.p 3 1] (.ops [.w 4 0,.y 5 (.bz (.t 4)),.y 6 (.aR x0 (.t 5)),.j 7 6,.w 8 0,.y 9 (.bz (.t 8)),.y 10 (.aR x0 (.t 9)),.j 11 10,.y 12 (.aR 2 (.t 3)),.j 13 12,.y 14 (.bf 1 (.t 13) .z),.j 15 14,.y 16 (.call (.f x1) [.t 11,.t 15]),.h 17 x2 7 16,.a 18 x3 17,.x (.store 1 (.t 18) .T)]))⟩
def fn160:aq:=yt 1 142 3 2
def fn161:aq:=⟨10,2,[(4,none)],(.s [.p 2 0,.p 3 1,.o 4 (.aI .z)] (.r [.a 5 4 2,.l 6 5,.n 7 6,.v 8 .geq 7 (.n 32),.c 9 85 [.t 8,.n 5],.m 4 9]))⟩
def fn162:aq:=⟨22,2,[],(.s [.p 3 1] (.ops [.m 4 0,.m 5 0,.o 6 (.bz (.t 5)),.a 7 4 6,.l 8 7,.a 9 2 3,.l 10 9,.o 11 (.bf 1 (.t 10) .z),.l 12 11,.a 13 2 3,.l 14 13,.o 15 (.bf 1 (.t 14) .w),.l 16 15,.o 17 (.build [.str [],.str [],.str [],.af] [(0,1,.t 12),(1,1,(.c (.str [115,104,111,116,115]))),(2,1,.t 16)]),.o 18 (.aF 4 1 [.str [],.str [],.str [],.af] [(0,.t 17)]),.o 19 (.app 4 72 (.t 8) (.t 18)),.o 20 (.bz (.t 4)),.a 21 4 20,.s 1 21 19]))⟩
def fn163:aq:=⟨35,2,[(4,none)],(.s [.p 2 0,.p 3 1,.o 4 (.aI .z)] (.s [.a 6 3 3,.l 7 6,.o 8 (.bf 1 (.t 7) .w),.l 9 8,.m 5 9] (.seq (.s [.m 10 5,.v 11 .lss 10 .w,.m 12 11,.t 13 12 false 5,.g 14 12 false (.bin .gtr (.t 13) (.n 4)),.f 15 12 14] (.j 15 [.o 4 (.aI (.n 13))])) (.r [.y 16 (.load (some 7) (.t 2)),.y 17 (.aR 2 (.t 3)),.j 18 17,.y 19 (.bf 1 (.t 18) .w),.j 20 19,.y 21 (.call (.f 245) [.t 16,.t 20]),.y 22 (.part none 1 (.t 21)),.w 23 5,.y 24 (.bin .sub (.t 23) .w),.y 25 (.iX 4 2 (.g 0) (.t 24)),.y 26 (.iX 2 1 (.t 25) .z),.j 27 26,.y 28 (.bin .neq (.t 22) (.t 27)),.y 29 (.call (.f 85) [.t 28,.n 2]),.y 30 (.load (some 7) (.t 2)),.y 31 (.load (some 5) (.t 3)),.c 32 161 [.t 30,.t 31],.o 33 (.aF 1 2 [.int .i64 0] [(0,.t 29),(1,.t 32)]),.c 34 74 [.t 33],.m 4 34]))))⟩
def fn164:aq:=⟨30,2,[],(.s [.p 3 1] (.ops [.m 4 0,.m 5 0,.o 6 (.bz (.t 5)),.a 7 4 6,.l 8 7,.a 9 2 3,.l 10 9,.o 11 (.bf 1 (.t 10) .z),.l 12 11,.a 13 3 3,.l 14 13,.o 15 (.bf 1 (.t 14) .w),.l 16 15,.v 17 .sub 16 .w,.o 18 (.iX 4 2 (.g 0) (.t 17)),.o 19 (.iX 2 1 (.t 18) .w),.l 20 19,.a 21 2 3,.l 22 21,.o 23 (.sl 1 (.t 22) (some .w) none),.y 24 (.call (.f 177) [.t 23]),.o 25 (.build [.str [],.str [],.str [],.af] [(0,1,.t 12),(1,1,.t 20),(3,1,.t 24)]),.o 26 (.aF 4 1 [.str [],.str [],.str [],.af] [(0,.t 25)]),.o 27 (.app 4 72 (.t 8) (.t 26)),.o 28 (.bz (.t 4)),.a 29 4 28,.s 1 29 27]))⟩
def fn165:aq:=⟨36,2,[(4,none)],(.s [.p 2 0,.p 3 1,.o 4 (.aI .z)] (.r [.y 5 (.aR 2 (.t 3)),.j 6 5,.y 7 (.bf 1 (.t 6) .w),.j 8 7,.y 9 (.aR 2 (.t 3)),.j 10 9,.y 11 (.bf 1 (.t 10) (.n 2)),.j 12 11,.y 13 (.bin .eql (.t 8) (.t 12)),.y 14 (.call (.f 85) [.t 13,.n 24]),.y 15 (.load (some 7) (.t 2)),.y 16 (.aR 2 (.t 3)),.j 17 16,.y 18 (.bf 1 (.t 17) .w),.j 19 18,.y 20 (.call (.f 245) [.t 15,.t 19]),.y 21 (.part none 1 (.t 20)),.y 22 (.load (some 7) (.t 2)),.y 23 (.aR 2 (.t 3)),.j 24 23,.y 25 (.bf 1 (.t 24) (.n 2)),.j 26 25,.y 27 (.call (.f 245) [.t 22,.t 26]),.y 28 (.part none 1 (.t 27)),.y 29 (.bin .neq (.t 21) (.t 28)),.y 30 (.call (.f 85) [.t 29,.n 2]),.y 31 (.load (some 7) (.t 2)),.y 32 (.load (some 5) (.t 3)),.c 33 161 [.t 31,.t 32],.o 34 (.aF 1 3 [.int .i64 0] [(0,.t 14),(1,.t 30),(2,.t 33)]),.c 35 74 [.t 34],.m 4 35]))⟩
def fn166:aq:=⟨31,2,[],(.s [.p 3 1] (.ops [.m 4 0,.m 5 0,.o 6 (.bz (.t 5)),.a 7 4 6,.l 8 7,.a 9 2 3,.l 10 9,.o 11 (.bf 1 (.t 10) .z),.l 12 11,.m 13 0,.o 14 (.bz (.t 13)),.r 15 7 14,.a 16 2 3,.l 17 16,.o 18 (.bf 1 (.t 17) .w),.l 19 18,.y 20 (.call (.f 245) [.t 15,.t 19]),.o 21 (.part none 1 (.t 20)),.a 22 2 3,.l 23 22,.o 24 (.sl 1 (.t 23) (some .w) none),.y 25 (.call (.f 177) [.t 24]),.o 26 (.build [.str [],.str [],.str [],.af] [(0,1,.t 12),(1,1,.t 21),(3,1,.t 25)]),.o 27 (.aF 4 1 [.str [],.str [],.str [],.af] [(0,.t 26)]),.o 28 (.app 4 72 (.t 8) (.t 27)),.o 29 (.bz (.t 4)),.a 30 4 29,.s 1 30 28]))⟩
def fn167:aq:=⟨27,2,[(4,none)],(.s [.p 2 0,.p 3 1,.o 4 (.aI .z)] (.s [.y 6 (.load (some 7) (.t 2)),.y 7 (.aR 2 (.t 3)),.j 8 7,.y 9 (.bf 1 (.t 8) .w),.j 10 9,.c 11 122 [.t 6,.t 10],.c 12 246 [.t 11,(.f 247)],.m 5 12] (.r [.w 13 5,.y 14 (.call (.f 85) [.t 13,.n 32]),.y 15 (.aR 3 (.t 3)),.j 16 15,.y 17 (.bf 1 (.t 16) .w),.j 18 17,.y 19 (.call (.f 94) [.t 18,.w,.n 32]),.y 20 (.aR 5 (.t 2)),.j 21 20,.y 22 (.len .sl (.t 21)),.y 23 (.bin .geq (.t 22) (.n 16)),.c 24 85 [.t 23,.n 5],.o 25 (.aF 1 3 [.int .i64 0] [(0,.t 14),(1,.t 19),(2,.t 24)]),.c 26 74 [.t 25],.m 4 26])))⟩
def fn168:aq:=⟨28,2,[],(.s [.p 3 1] (.ops [.m 4 0,.m 5 0,.o 6 (.bz (.t 5)),.a 7 5 6,.l 8 7,.a 9 2 3,.l 10 9,.o 11 (.bf 1 (.t 10) .z),.l 12 11,.a 13 2 3,.l 14 13,.o 15 (.bf 1 (.t 14) .w),.l 16 15,.o 17 (.aF 1 1 [.int .i64 0] [(0,(.n (-1)))]),.a 18 3 3,.l 19 18,.o 20 (.bf 1 (.t 19) .w),.l 21 20,.y 22 (.call (.f 248) [.t 17,.t 21]),.o 23 (.build [.str [],.str [],.af] [(0,1,.t 12),(1,1,.t 16),(2,1,.t 22)]),.o 24 (.aF 3 1 [.str [],.str [],.af] [(0,.t 23)]),.o 25 (.app 3 56 (.t 8) (.t 24)),.o 26 (.bz (.t 4)),.a 27 5 26,.s 1 27 25]))⟩
def fn169:aq:=⟨27,2,[(4,none)],(.s [.p 2 0,.p 3 1,.o 4 (.aI .z)] (.seq (.s [.r 6 7 2,.r 7 5 3,.c 8 249 [.t 6,.t 7],.m 5 8] (.s [.m 9 5,.v 10 .neq 9 .z] (.j 10 [.m 11 5,.m 4 11]))) (.r [.y 12 (.load (some 7) (.t 2)),.y 13 (.aR 2 (.t 3)),.j 14 13,.y 15 (.bf 1 (.t 14) .z),.j 16 15,.y 17 (.call (.f 124) [.t 12,.t 16]),.y 18 (.part none 2 (.t 17)),.y 19 (.aR 3 (.t 3)),.j 20 19,.y 21 (.bf 1 (.t 20) .w),.j 22 21,.h 23 1 18 22,.l 24 23,.v 25 .neq 24 (.n (-1)),.c 26 85 [.t 25,.n 9],.m 4 26])))⟩
def fn170:aq:=⟨11,2,[],(.s [.p 3 1] (.ops [.w 4 0,.y 5 (.load (some 5) (.t 3)),.y 6 (.aR 3 (.t 3)),.j 7 6,.y 8 (.bf 1 (.t 7) (.n 2)),.j 9 8,.c 10 250 [.t 4,.t 5,.t 9]]))⟩
def fn171:aq:=⟨27,2,[(4,none)],(.s [.p 2 0,.p 3 1,.o 4 (.aI .z)] (.seq (.s [.r 6 7 2,.r 7 5 3,.c 8 249 [.t 6,.t 7],.m 5 8] (.s [.m 9 5,.v 10 .neq 9 .z] (.j 10 [.m 11 5,.m 4 11]))) (.r [.y 12 (.load (some 7) (.t 2)),.y 13 (.aR 2 (.t 3)),.j 14 13,.y 15 (.bf 1 (.t 14) .z),.j 16 15,.y 17 (.call (.f 124) [.t 12,.t 16]),.y 18 (.part none 2 (.t 17)),.y 19 (.aR 3 (.t 3)),.j 20 19,.y 21 (.bf 1 (.t 20) .w),.j 22 21,.h 23 1 18 22,.l 24 23,.v 25 .eql 24 (.n (-1)),.c 26 85 [.t 25,.n 7],.m 4 26])))⟩
def fn172:aq:=⟨7,2,[],(.s [.p 3 1] (.ops [.m 4 0,.r 5 5 3,.c 6 250 [.t 4,.t 5,.n (-1)]]))⟩
def fn173:aq:=⟨31,2,[(4,none)],(.s [.p 2 0,.p 3 1,.o 4 (.aI .z)] (.s [.y 6 (.load (some 7) (.t 2)),.y 7 (.aR 2 (.t 3)),.j 8 7,.y 9 (.bf 1 (.t 8) .w),.j 10 9,.c 11 124 [.t 6,.t 10],.c 12 125 [.t 11],.m 5 12] (.r [.y 13 (.load (some 7) (.t 2)),.y 14 (.aR 2 (.t 3)),.j 15 14,.y 16 (.bf 1 (.t 15) .w),.j 17 16,.y 18 (.call (.f 251) [.t 13,.t 17]),.y 19 (.call (.f 85) [.t 18,.n 23]),.w 20 5,.y 21 (.len .sl (.t 20)),.y 22 (.bin .gtr (.t 21) .z),.y 23 (.call (.f 85) [.t 22,.n 32]),.y 24 (.aR 6 (.t 2)),.j 25 24,.y 26 (.len .sl (.t 25)),.y 27 (.bin .geq (.t 26) (.n 16)),.c 28 85 [.t 27,.n 5],.o 29 (.aF 1 3 [.int .i64 0] [(0,.t 19),(1,.t 23),(2,.t 28)]),.c 30 74 [.t 29],.m 4 30])))⟩
def fn174:aq:=⟨32,2,[],(.s [.p 3 1] (.ops [.m 4 0,.m 5 0,.o 6 (.bz (.t 5)),.a 7 6 6,.l 8 7,.a 9 2 3,.l 10 9,.o 11 (.bf 1 (.t 10) .z),.l 12 11,.a 13 2 3,.l 14 13,.o 15 (.bf 1 (.t 14) .w),.l 16 15,.m 17 0,.o 18 (.bz (.t 17)),.r 19 7 18,.a 20 2 3,.l 21 20,.o 22 (.bf 1 (.t 21) .w),.l 23 22,.y 24 (.call (.f 124) [.t 19,.t 23]),.o 25 (.part none 2 (.t 24)),.y 26 (.call (.f 95) [.t 25]),.o 27 (.build [.str [],.str [],.int .i64 0,.bool false] [(0,1,.t 12),(1,1,.t 16),(2,1,.t 26)]),.o 28 (.aF 4 1 [.str [],.str [],.int .i64 0,.bool false] [(0,.t 27)]),.o 29 (.app 4 48 (.t 8) (.t 28)),.o 30 (.bz (.t 4)),.a 31 6 30,.s 1 31 29]))⟩
def fn175:aq:=⟨13,2,[(4,none)],(.s [.p 2 0,.p 3 1,.o 4 (.aI .z)] (.r [.y 5 (.load (some 7) (.t 2)),.y 6 (.aR 2 (.t 3)),.j 7 6,.y 8 (.bf 1 (.t 7) .z),.j 9 8,.c 10 218 [.t 5,.t 9],.o 11 (.part none 3 (.t 10)),.c 12 85 [.t 11,.n 23],.m 4 12]))⟩
def fn176:aq:=yt 6 146 4 3
def fn177:aq:=⟨8,1,[(2,none)],(.s [.o 2 (.aI (.c .af))] (.seq (.s [.m 3 0,.o 4 (.eqv false .xM (.t 3) (.c .af))] (.j 4 [.o 2 (.aI (.c .af))])) (.r [.o 5 (.aF 1 0 [.str []] []),.m 6 0,.o 7 (.app 1 16 (.t 5) (.t 6)),.m 2 7])))⟩
def fn178:aq:=⟨8,1,[(2,none)],(.s [.o 2 (.aI (.c .af))] (.seq (.s [.m 3 0,.o 4 (.eqv false .xM (.t 3) (.c .af))] (.j 4 [.o 2 (.aI (.c .af))])) (.r [.o 5 (.aF 1 0 [.int .i64 0] []),.m 6 0,.o 7 (.app 1 8 (.t 5) (.t 6)),.m 2 7])))⟩
def fn179:aq:=⟨8,1,[(2,none)],(.s [.o 2 (.aI (.c .af))] (.seq (.s [.m 3 0,.o 4 (.eqv false .xM (.t 3) (.c .af))] (.j 4 [.o 2 (.aI (.c .af))])) (.r [.o 5 (.aF 2 0 [.str [],.int .i64 0] []),.m 6 0,.o 7 (.app 2 24 (.t 5) (.t 6)),.m 2 7])))⟩
def yr:aq:=⟨22,2,[(4,none)],(.s [.o 4 (.aI (.c .af))] (.s [.o 5 (.aI (.c .af))] (.seq (.s [.m 8 0,.n 9 8,.o 10 (.aI .z)] (.block 0 (.loop (.s [.u 11 .lss 10 9] (.seq (.i 11 .skip (.exit 0)) (.seq (.block 1 (.s [.h 12 3 8 10,.r 13 3 12,.o 7 (.box (.c (.agg [.str [],.str [],.af]))),.s 3 7 13] (.ops [.m 14 5,.m 15 1,.r 16 3 7,.o 17 (.call (.t 15) [.t 16]),.o 18 (.aF 3 1 [.str [],.str [],.af] [(0,.t 17)]),.o 19 (.app 3 56 (.t 14) (.t 18)),.m 5 19]))) (.ops [.v 20 .add 10 .w,.m 10 20]))))))) (.r [.m 21 5,.m 4 21]))))⟩
def fn180:aq:=yr
def yq(x0:Nat):aq:=⟨8,1,[(2,some (some 3))],(.s [.p 1 0,.o 2 (.box (.c (.agg [.str [],.str [],.af])))] (.s [.a 3 2 1,.l 4 3,.c 5 x0 [.t 4],.a 6 2 1,.s 1 6 5] (.r [.r 7 3 1,.s 3 2 7])))⟩
def fn181:aq:=yq 177
def fn182:aq:=⟨22,2,[(4,none)],(.s [.o 4 (.aI (.c .af))] (.s [.o 5 (.aI (.c .af))] (.seq (.s [.m 8 0,.n 9 8,.o 10 (.aI .z)] (.block 0 (.loop (.s [.u 11 .lss 10 9] (.seq (.i 11 .skip (.exit 0)) (.seq (.block 1 (.s [.h 12 4 8 10,.r 13 4 12,.o 7 (.box (.c (.agg [.str [],.str [],.str [],.af]))),.s 4 7 13] (.ops [.m 14 5,.m 15 1,.r 16 4 7,.o 17 (.call (.t 15) [.t 16]),.o 18 (.aF 4 1 [.str [],.str [],.str [],.af] [(0,.t 17)]),.o 19 (.app 4 72 (.t 14) (.t 18)),.m 5 19]))) (.ops [.v 20 .add 10 .w,.m 10 20]))))))) (.r [.m 21 5,.m 4 21]))))⟩
def fn183:aq:=⟨8,1,[(2,some (some 4))],(.s [.p 1 0,.o 2 (.box (.c (.agg [.str [],.str [],.str [],.af])))] (.s [.a 3 3 1,.l 4 3,.c 5 177 [.t 4],.a 6 3 1,.s 1 6 5] (.r [.r 7 4 1,.s 4 2 7])))⟩
def fn184:aq:=yr
def fn185:aq:=yq 178
def fn186:aq:=⟨19,1,[(2,none)],(.s [.p 1 0,.o 2 (.aI (.c (.str [])))] (.s [.y 4 (.aR 0 (.t 1)),.j 5 4,.y 6 (.call (.f 113) [.t 5]),.y 7 (.aR 1 (.t 1)),.j 8 7,.y 9 (.aF 1 2 [.str []] [(0,.t 6),(1,.t 8)]),.y 10 (.aR 2 (.t 1)),.j 11 10,.o 12 (.app 1 16 (.t 9) (.t 11)),.m 3 12] (.r [.m 13 3,.a 14 3 1,.l 15 14,.c 16 199 [.t 15,(.f 113)],.o 17 (.app 1 16 (.t 13) (.t 16)),.o 18 (.call (.f 114) [.t 17,(.c (.str [32]))]),.m 2 18])))⟩
def fn187:aq:=⟨28,1,[(2,none)],(.s [.o 2 (.aI (.c (.str [])))] (.s [.o 3 (.aI .w)] (.seq (.s [.m 6 0,.o 7 (.len .st (.t 6)),.o 8 (.aI .z)] (.block 0 (.loop (.s [.u 9 .lss 8 7] (.seq (.i 9 .skip (.exit 0)) (.seq (.block 1 (.s [.m 10 8,.m 4 10] (.ops [.m 11 3,.b 12 .mul (.n 339) (.t 11),.m 13 0,.m 14 4,.o 15 (.qm (.t 13) (.t 14)),.o 16 (.conv (.ub .i64) (.t 15)),.u 17 .add 12 16,.v 18 .rem 17 (.n 9999749),.m 3 18]))) (.ops [.v 19 .add 8 .w,.m 8 19]))))))) (.s [.m 20 3,.c 21 113 [.t 20],.m 5 21] (.r [.m 22 5,.o 23 (.len .st (.t 22)),.b 24 .sub (.n 7) (.t 23),.o 25 (.call (.f 252) [(.c (.str [48])),.t 24]),.m 26 5,.u 27 .add 25 26,.m 2 27])))))⟩
def fn188:aq:=⟨23,2,[(4,none),(5,none),(6,none)],(.s [.o 4 (.aI (.c (.str []))),.o 5 (.aI (.c (.str []))),.o 6 (.aI .F)] (.seq (.s [.m 8 0,.m 9 1,.c 10 253 [.t 8,.t 9],.m 7 10] (.s [.m 11 7,.v 12 .geq 11 .z] (.j 12 [.w 13 0,.w 14 7,.y 15 (.pO (.t 13) none (some (.t 14))),.w 16 0,.w 17 7,.w 18 1,.y 19 (.len .st (.t 18)),.y 20 (.bin .add (.t 17) (.t 19)),.y 21 (.pO (.t 16) (some (.t 20)) none),.w 4 15,.m 5 21,.o 6 (.aI .T)]))) (.r [.m 22 0,.m 4 22,.o 5 (.aI (.c (.str []))),.o 6 (.aI .F)])))⟩
def fn189:aq:=⟨18,1,[(2,none)],(.s [.o 2 (.aI .F)] (.seq (.s [.m 5 0,.o 6 (.wX (.t 5))] (.block 0 (.loop (.s [.o 7 (.nV (.t 6)),.e 8 7 0] (.seq (.i 8 .skip (.exit 0)) (.block 1 (.s [.e 9 7 2,.m 4 9] (.s [.m 10 4,.v 11 .lss 10 (.c (.int .i32 48)),.m 12 11,.t 13 12 false 4,.g 14 12 false (.bin .gtr (.t 13) (.c (.int .i32 57))),.f 15 12 14] (.j 15 [.o 2 (.aI .F)]))))))))) (.r [.m 16 0,.v 17 .neq 16 (.c (.str [])),.m 2 17])))⟩
def fn190:aq:=⟨30,1,[(2,none),(3,none)],(.s [.o 2 (.aI .z),.o 3 (.aI .F)] (.seq (.s [.m 6 0,.c 7 189 [.t 6],.o 8 (.un .not (.t 7)),.m 9 8,.t 10 9 false 0,.g 11 9 false (.len .st (.t 10)),.g 12 9 false (.bin .gtr (.t 11) (.n 9)),.f 13 9 12,.m 14 13,.t 15 14 false 0,.g 16 14 false (.len .st (.t 15)),.g 17 14 false (.bin .gtr (.t 16) .w),.t 18 14 false 17,.t 19 18 true 0,.g 20 18 true (.qm (.t 19) .z),.g 21 18 true (.bin .eql (.t 20) (.c (.int .u8 48))),.g 22 14 false (.pick (.t 18) (.t 21) .F),.f 23 14 22] (.j 23 [.o 2 (.aI .z),.o 3 (.aI .F)])) (.s [.m 25 0,.c 26 254 [.t 25],.m 24 26,.e 27 24 0,.e 28 24 1,.m 4 27,.m 5 28] (.r [.m 29 4,.m 2 29,.o 3 (.aI .T)]))))⟩
def fn193:aq:=⟨17,1,[(2,none)],(.s [.o 2 (.aI .F)] (.r [.m 3 0,.b 4 .leq (.c (.int .u8 65)) (.t 3),.m 5 4,.t 6 5 true 0,.g 7 5 true (.bin .leq (.t 6) (.c (.int .u8 90))),.d 8 5 7,.m 9 8,.t 10 9 false 0,.g 11 9 false (.bin .leq (.c (.int .u8 97)) (.t 10)),.t 12 9 false 11,.t 13 12 true 0,.g 14 12 true (.bin .leq (.t 13) (.c (.int .u8 122))),.g 15 9 false (.pick (.t 12) (.t 14) .F),.f 16 9 15,.m 2 16]))⟩
def fn194:aq:=⟨9,1,[(2,none)],(.s [.o 2 (.aI .F)] (.r [.m 3 0,.b 4 .leq (.c (.int .u8 48)) (.t 3),.m 5 4,.t 6 5 true 0,.g 7 5 true (.bin .leq (.t 6) (.c (.int .u8 57))),.d 8 5 7,.m 2 8]))⟩
def fn195:aq:=⟨36,3,[(6,none)],(.s [.p 3 0,.o 6 (.aI .z)] (.seq (.s [.m 7 1] (.block 0 (.s [.v 9 .eql 7 (.c (.int .u8 108)),.m 8 9] (.i 8 (.r [.r 10 7 3,.m 11 2,.c 12 28 [.t 10,.t 11],.m 6 12]) (.s [.v 14 .eql 7 (.c (.int .u8 116)),.m 13 14] (.i 13 (.r [.r 15 7 3,.m 16 2,.c 17 141 [.t 15,.t 16],.m 6 17]) (.s [.v 19 .eql 7 (.c (.int .u8 115)),.m 18 19] (.i 18 (.r [.r 20 7 3,.m 21 2,.c 22 22 [.t 20,.t 21],.m 6 22]) (.s [.v 24 .eql 7 (.c (.int .u8 109)),.m 23 24] (.i 23 (.r [.r 25 7 3,.m 26 2,.c 27 55 [.t 25,.t 26],.m 6 27]) (.s [.v 29 .eql 7 (.c (.int .u8 106)),.m 28 29] (.j 28 [.r 30 7 3,.m 31 2,.c 32 56 [.t 30,.t 31],.m 6 32])))))))))))) (.r [.r 33 7 3,.m 34 2,.c 35 57 [.t 33,.t 34],.m 6 35])))⟩
def fn197:aq:=⟨36,1,[(2,none)],(.s [.o 2 (.aI (.c (.str [])))] (.seq (.s [.m 3 0,.v 4 .lss 3 .z] (.i 4 (.seq (.s [.m 5 0,.v 6 .gtr 5 (.n (-10))] (.j 6 [.m 7 0,.b 8 .sub .z (.t 7),.c 9 197 [.t 8],.b 10 .add (.c (.str [45])) (.t 9),.m 2 10])) (.r [.m 11 0,.v 12 .quo 11 (.n 10),.c 13 197 [.t 12],.m 14 0,.v 15 .rem 14 (.n 10),.b 16 .sub .z (.t 15),.c 17 197 [.t 16],.u 18 .add 13 17,.m 2 18])) .skip)) (.seq (.s [.m 19 0,.v 20 .lss 19 (.n 10)] (.j 20 [.m 21 0,.b 22 .add (.n 48) (.t 21),.o 23 (.conv (.ub .u8) (.t 22)),.o 24 (.aF 1 1 [.int .u8 0] [(0,.t 23)]),.o 25 (.conv .IW (.t 24)),.m 2 25])) (.r [.w 26 0,.y 27 (.bin .quo (.t 26) (.n 10)),.y 28 (.call (.f 197) [.t 27]),.w 29 0,.y 30 (.bin .rem (.t 29) (.n 10)),.y 31 (.bin .add (.n 48) (.t 30)),.y 32 (.conv (.ub .u8) (.t 31)),.y 33 (.aF 1 1 [.int .u8 0] [(0,.t 32)]),.y 34 (.conv .IW (.t 33)),.u 35 .add 28 34,.m 2 35]))))⟩
def fn198:aq:=⟨10,2,[(4,none)],(.s [.p 2 0,.o 4 (.aI (.c .af))] (.r [.r 5 7 2,.m 6 1,.c 7 124 [.t 5,.t 6],.c 8 125 [.t 7],.c 9 199 [.t 8,(.f 113)],.m 4 9]))⟩
def fn199:aq:=⟨22,2,[(4,none)],(.s [.o 4 (.aI (.c .af))] (.s [.o 5 (.aI (.c .af))] (.seq (.s [.m 8 0,.n 9 8,.o 10 (.aI .z)] (.block 0 (.loop (.s [.u 11 .lss 10 9] (.seq (.i 11 .skip (.exit 0)) (.seq (.block 1 (.s [.h 12 1 8 10,.l 13 12,.m 7 13] (.ops [.m 14 5,.m 15 1,.m 16 7,.o 17 (.call (.t 15) [.t 16]),.o 18 (.aF 1 1 [.str []] [(0,.t 17)]),.o 19 (.app 1 16 (.t 14) (.t 18)),.m 5 19]))) (.ops [.v 20 .add 10 .w,.m 10 20]))))))) (.r [.m 21 5,.m 4 21]))))⟩
def fn200:aq:=⟨9,2,[(4,none)],(.s [.p 2 0,.o 4 (.aI (.c .af))] (.r [.r 5 7 2,.m 6 1,.c 7 122 [.t 5,.t 6],.c 8 121 [.t 7,(.f 123)],.m 4 8]))⟩
def fn201:aq:=⟨9,2,[(4,none)],(.s [.p 2 0,.o 4 (.aI (.c .af))] (.r [.r 5 7 2,.a 6 0 2,.l 7 6,.c 8 80 [.t 5,.t 7],.m 4 8]))⟩
def fn202:aq:=⟨9,2,[(4,none)],(.s [.p 2 0,.o 4 (.aI (.c .af))] (.r [.r 5 7 2,.m 6 1,.c 7 77 [.t 5,.t 6],.o 8 (.part none 2 (.t 7)),.m 4 8]))⟩
def fn203:aq:=⟨27,2,[(4,none)],(.s [.p 2 0,.o 4 (.aI (.c .af))] (.s [.o 5 (.aI (.c .af))] (.seq (.s [.a 8 6 2,.l 9 8,.n 10 9,.o 11 (.aI .z)] (.block 0 (.loop (.s [.u 12 .lss 11 10] (.seq (.i 12 .skip (.exit 0)) (.seq (.block 1 (.s [.h 13 4 9 11,.r 14 4 13,.o 7 (.box (.c (.agg [.str [],.str [],.int .i64 0,.bool false]))),.s 4 7 14] (.s [.a 15 3 7,.l 16 15] (.i 16 (.ops [.w 17 5,.y 18 (.aR 0 (.t 7)),.j 19 18,.y 20 (.aR 2 (.t 7)),.j 21 20,.y 22 (.call (.f 113) [.t 21]),.y 23 (.aF 1 2 [.str []] [(0,.t 19),(1,.t 22)]),.o 24 (.app 1 16 (.t 17) (.t 23)),.m 5 24]) .skip)))) (.ops [.v 25 .add 11 .w,.m 11 25]))))))) (.r [.m 26 5,.m 4 26]))))⟩
def fn204:aq:=⟨22,2,[(4,none)],(.s [.p 2 0,.o 4 (.aI (.c .af))] (.s [.r 7 7 2,.m 8 1,.c 9 205 [.t 7,.t 8],.o 5 (.box (.c (.agg [.str [],.int .i64 0,.bool false]))),.s 3 5 9,.o 6 (.aI (.c (.str [111,112,101,110])))] (.seq (.s [.a 10 2 5,.l 11 10] (.i 11 (.ops [.o 6 (.aI (.c (.str [97,99,99,101,112,116,101,100])))]) .skip)) (.r [.y 12 (.load (some 7) (.t 2)),.w 13 1,.y 14 (.call (.f 206) [.t 12,.t 13]),.y 15 (.len .sl (.t 14)),.y 16 (.call (.f 113) [.t 15]),.y 17 (.aR 1 (.t 5)),.j 18 17,.y 19 (.call (.f 113) [.t 18]),.w 20 6,.o 21 (.aF 1 3 [.str []] [(0,.t 16),(1,.t 19),(2,.t 20)]),.m 4 21]))))⟩
def fn205:aq:=⟨13,2,[(4,some (some 3))],(.s [.p 2 0,.o 4 (.box (.c (.agg [.str [],.int .i64 0,.bool false])))] (.r [.y 5 (.aR 1 (.t 2)),.j 6 5,.y 7 (.aR 1 (.t 2)),.j 8 7,.w 9 1,.y 10 (.call (.f 142) [.t 8,.t 9]),.h 11 3 6 10,.r 12 3 11,.s 3 4 12]))⟩
def fn206:aq:=⟨9,2,[(4,none)],(.s [.p 2 0,.p 3 1,.o 4 (.aI (.c .af))] (.r [.a 5 3 2,.l 6 5,.o 7 (.kY (.func 255) [] [.t 3]),.c 8 138 [.t 6,.t 7],.m 4 8]))⟩
def fn207:aq:=⟨40,1,[(2,none)],(.s [.o 2 (.aI (.c (.str [])))] (.seq (.s [.m 4 0,.o 5 (.bz (.t 4)),.a 6 0 5,.l 7 6,.n 8 7,.v 9 .eql 8 .z,.m 10 9,.t 11 10 false 0,.g 12 10 false (.bz (.t 11)),.g 13 10 false (.aR 0 (.t 12)),.g 14 10 false (.load none (.t 13)),.g 15 10 false (.bf 1 (.t 14) .z),.g 16 10 false (.load none (.t 15)),.g 17 10 false (.bin .eql (.t 16) (.c (.str []))),.f 18 10 17] (.i 18 (.s [.m 19 0,.m 20 0,.o 21 (.bz (.t 19)),.a 22 0 21,.x (.store 1 (.t 22) (.c .af)),.o 23 (.bz (.t 20)),.a 24 1 23,.x (.store 1 (.t 24) .T)] (.r [.o 2 (.aI (.c (.str [])))])) .skip)) (.s [.m 25 0,.o 26 (.bz (.t 25)),.a 27 0 26,.l 28 27,.o 29 (.bf 1 (.t 28) .z),.l 30 29,.m 3 30] (.s [.m 31 0,.m 32 0,.o 33 (.bz (.t 32)),.a 34 0 33,.l 35 34,.o 36 (.sl 1 (.t 35) (some .w) none),.o 37 (.bz (.t 31)),.a 38 0 37,.s 1 38 36] (.r [.m 39 3,.m 2 39])))))⟩
def fn208:aq:=⟨23,1,[(2,none)],(.s [.o 2 (.aI .z)] (.s [.m 6 0,.c 7 207 [.t 6],.c 8 190 [.t 7],.m 5 8,.e 9 5 0,.e 10 5 1,.m 3 9,.m 4 10] (.s [.m 11 0,.m 12 0,.o 13 (.bz (.t 12)),.a 14 1 13,.l 15 14,.m 16 15,.t 17 16 false 4,.g 18 16 false (.un .not (.t 17)),.f 19 16 18,.o 20 (.bz (.t 11)),.a 21 1 20,.s 1 21 19] (.r [.m 22 3,.m 2 22]))))⟩
def fn213:aq:=⟨13,2,[(4,none)],(.s [.p 2 0,.o 4 (.aI (.c .af))] (.seq (.s [.m 6 1] (.block 0 (.eQ (.t 6) [7] (.ops [.o 5 (.box (.c (.agg [.str [],.str [],.str [],.af]))),.s 4 5 7]) (.block 1 (.ops [.l 8 2,.r 9 4 5,.o 10 (.aF 4 1 [.str [],.str [],.str [],.af] [(0,.t 9)]),.o 11 (.app 4 72 (.t 8) (.t 10)),.s 1 2 11]))))) (.r [.l 12 2,.m 4 12])))⟩
def fn214:aq:=⟨56,1,[],(.s [.o 11 (.lF),.l 12 1,.x (.fu .s (.t 11) (.t 12) .T),.m 13 11,.o 4 (.box (.c .cY)),.s 1 4 13] (.seq (.s [.a 14 4 2,.l 15 14,.c 16 215 [.t 15]] (.block 0 (.eQ (.t 16) [17,18] (.ops [.o 6 (.box (.c (.agg [.str [],.str [],.str [],.af]))),.s 4 6 18]) (.block 1 (.s [.a 19 3 6,.l 20 19,.n 21 20,.o 22 (.aI .z)] (.block 2 (.loop (.s [.u 23 .lss 22 21] (.seq (.i 23 .skip (.exit 2)) (.seq (.block 3 (.s [.h 24 1 20 22,.l 25 24,.m 8 25] (.ops [.l 26 4,.m 27 8,.l 28 4,.m 29 8,.o 30 (.look .s (.bool false) false (.t 28) (.t 29)),.m 31 30,.g 32 31 false (.load none (.t 4)),.g 33 31 false (.aR 0 (.t 6)),.g 34 31 false (.load none (.t 33)),.g 35 31 false (.look .s (.bool false) false (.t 32) (.t 34)),.f 36 31 35,.x (.fu .s (.t 26) (.t 27) (.t 36))]))) (.ops [.v 37 .add 22 .w,.m 22 37]))))))))))) (.s [.a 38 4 2,.l 39 38,.n 40 39,.o 41 (.aI .z)] (.block 4 (.loop (.s [.u 42 .lss 41 40] (.seq (.i 42 .skip (.exit 4)) (.seq (.block 5 (.s [.h 43 4 39 41,.r 44 4 43,.o 10 (.box (.c (.agg [.str [],.str [],.str [],.af]))),.s 4 10 44] (.s [.l 45 4,.a 46 0 10,.l 47 46,.o 48 (.look .s (.bool false) false (.t 45) (.t 47)),.m 49 48,.t 50 49 true 0,.g 51 49 true (.load (some 4) (.t 10)),.g 52 49 true (.call (.t 50) [.t 51]),.g 53 49 true (.un .not (.t 52)),.d 54 49 53] (.i 54 .ret .skip)))) (.ops [.v 55 .add 41 .w,.m 41 55])))))))))⟩
def fn215:aq:=yu 259
def fn216:aq:=⟨23,2,[(4,none)],(.s [.o 4 (.aI (.c .af))] (.s [.o 5 (.aI (.c .af))] (.seq (.s [.m 8 0,.n 9 8,.o 10 (.aI .z)] (.block 0 (.loop (.s [.u 11 .lss 10 9] (.seq (.i 11 .skip (.exit 0)) (.seq (.block 1 (.s [.h 12 3 8 10,.r 13 3 12,.o 7 (.box (.c (.agg [.str [],.int .i64 0,.bool false]))),.s 3 7 13] (.s [.m 14 1,.r 15 3 7,.o 16 (.call (.t 14) [.t 15])] (.i 16 (.ops [.m 17 5,.r 18 3 7,.o 19 (.aF 3 1 [.str [],.int .i64 0,.bool false] [(0,.t 18)]),.o 20 (.app 3 32 (.t 17) (.t 19)),.m 5 20]) .skip)))) (.ops [.v 21 .add 10 .w,.m 10 21]))))))) (.r [.m 22 5,.m 4 22]))))⟩
def fn217:aq:=⟨8,1,[(3,none)],(.s [.p 2 0,.o 3 (.aI .F)] (.r [.l 4 1,.a 5 0 2,.l 6 5,.o 7 (.look .s (.bool false) false (.t 4) (.t 6)),.m 3 7]))⟩
def fn218:aq:=⟨13,2,[(4,some (some 4))],(.s [.p 2 0,.o 4 (.box (.c (.agg [.str [],.str [],.int .i64 0,.bool false])))] (.r [.y 5 (.aR 6 (.t 2)),.j 6 5,.y 7 (.aR 6 (.t 2)),.j 8 7,.w 9 1,.y 10 (.call (.f 146) [.t 8,.t 9]),.h 11 4 6 10,.r 12 4 11,.s 4 4 12]))⟩
def fn219:aq:=⟨9,1,[(3,none)],(.s [.p 2 0,.o 3 (.aI .F)] (.r [.l 4 1,.a 5 1 2,.l 6 5,.c 7 142 [.t 4,.t 6],.v 8 .geq 7 .z,.m 3 8]))⟩
def fn221:aq:=⟨34,2,[(4,none)],(.s [.o 4 (.aI .z)] (.seq (.s [.m 7 1,.o 8 (.len .st (.t 7)),.v 9 .eql 8 .z] (.j 9 [.m 10 0,.c 11 260 [.t 10],.v 12 .add 11 .w,.m 4 12])) (.seq (.s [.m 13 1,.o 14 (.len .st (.t 13)),.v 15 .eql 14 .w] (.j 15 [.m 16 0,.m 17 1,.o 18 (.qm (.t 17) .z),.c 19 262 [.t 16,.t 18],.m 4 19])) (.s [.o 5 (.aI .z)] (.block 0 (.loop (.block 1 (.s [.m 20 0,.m 21 1,.c 22 222 [.t 20,.t 21],.m 6 22] (.seq (.s [.m 23 6,.v 24 .eql 23 (.n (-1))] (.j 24 [.m 25 5,.m 4 25])) (.s [.m 26 5,.v 27 .add 26 .w,.m 5 27] (.ops [.m 28 0,.m 29 6,.m 30 1,.o 31 (.len .st (.t 30)),.u 32 .add 29 31,.o 33 (.pO (.t 28) (some (.t 32)) none),.m 0 33])))))))))))⟩
def fn222:aq:=zt 253
def fn223:aq:=⟨55,2,[(4,none)],(.s [.p 2 0,.p 3 1,.o 4 (.aI .z)] (.s [.a 7 1 3,.l 8 7,.c 9 101 [.t 8],.o 10 (.part none 0 (.t 9)),.m 5 10] (.seq (.s [.o 6 (.aI .z)] (.block 0 (.loop (.seq (.s [.m 11 6,.m 12 5,.o 13 (.len .st (.t 12)),.u 14 .lss 11 13] (.i 14 .skip (.exit 0))) (.seq (.block 1 (.s [.w 17 5,.w 18 6,.o 19 (.qm (.t 17) (.t 18)),.v 20 .geq 19 (.c (.int .u8 97)),.m 21 20,⟨(some 22),.load (some 7) (.t 2),(some (21,true)),true⟩,⟨(some 23),.aI (.t 5),(some (21,true)),true⟩,⟨(some 24),.aI (.t 6),(some (21,true)),true⟩,⟨(some 25),.qm (.t 23) (.t 24),(some (21,true)),true⟩,⟨(some 26),.aR 2 (.t 3),(some (21,true)),true⟩,⟨(some 27),.load none (.t 26),(some (21,true)),true⟩,⟨(some 28),.aI (.t 6),(some (21,true)),true⟩,⟨(some 29),.bf 1 (.t 27) (.t 28),(some (21,true)),true⟩,⟨(some 30),.load none (.t 29),(some (21,true)),true⟩,.g 31 21 true (.call (.f 195) [.t 22,.t 25,.t 30]),.g 32 21 true (.bin .lss (.t 31) .z),.d 33 21 32] (.j 33 [.o 4 (.aI (.n 10))]))) (.ops [.m 15 6,.v 16 .add 15 .w,.m 6 16])))))) (.seq (.s [.m 34 5,.o 35 (.len .st (.t 34)),.v 36 .gtr 35 .z,.m 37 36,.t 38 37 true 5,.g 39 37 true (.qm (.t 38) .z),.g 40 37 true (.bin .lss (.t 39) (.c (.int .u8 97))),.d 41 37 40,.m 42 41,⟨(some 43),.load (some 7) (.t 2),(some (42,true)),true⟩,⟨(some 44),.aI (.t 5),(some (42,true)),true⟩,⟨(some 45),.qm (.t 44) .z,(some (42,true)),true⟩,⟨(some 46),.bin .add (.t 45) (.c (.int .u8 97)),(some (42,true)),true⟩,⟨(some 47),.bin .sub (.t 46) (.c (.int .u8 65)),(some (42,true)),true⟩,⟨(some 48),.aR 2 (.t 3),(some (42,true)),true⟩,⟨(some 49),.load none (.t 48),(some (42,true)),true⟩,⟨(some 50),.bf 1 (.t 49) .z,(some (42,true)),true⟩,⟨(some 51),.load none (.t 50),(some (42,true)),true⟩,.g 52 42 true (.call (.f 195) [.t 43,.t 47,.t 51]),.g 53 42 true (.bin .geq (.t 52) .z),.d 54 42 53] (.j 54 [.o 4 (.aI (.n 9))])) (.r [.o 4 (.aI .z)])))))⟩
def fn224:aq:=⟨100,1,[(2,some (some 7))],(.s [.p 1 0,.o 2 (.box (.c (.agg [.int .i64 0,.af,.af,.af,.af,.af,.af])))] (.s [.o 12 (.aF 3 0 [.str [],.int .i64 0,.bool false] []),.a 13 1 1,.l 14 13,.o 15 (.app 3 32 (.t 12) (.t 14)),.a 16 1 1,.s 1 16 15] (.s [.o 17 (.aF 2 0 [.str [],.int .i64 0] []),.a 18 2 1,.l 19 18,.o 20 (.app 2 24 (.t 17) (.t 19)),.a 21 2 1,.s 1 21 20] (.s [.o 22 (.aF 4 0 [.str [],.str [],.int .i64 0,.bool false] []),.a 23 6 1,.l 24 23,.o 25 (.app 4 48 (.t 22) (.t 24)),.a 26 6 1,.s 1 26 25] (.s [.y 27 (.aR 3 (.t 1)),.j 28 27,.y 29 (.aR 4 (.t 1)),.j 30 29,.y 31 (.aR 5 (.t 1)),.j 32 31,.w 3 28,.w 4 30,.m 5 32] (.s [.a 33 3 1,.x (.store 1 (.t 33) (.c .af)),.a 34 4 1,.x (.store 1 (.t 34) (.c .af)),.a 35 5 1,.x (.store 1 (.t 35) (.c .af))] (.seq (.s [.o 6 (.aI .z)] (.block 0 (.loop (.seq (.s [.m 36 6,.m 37 3,.n 38 37,.u 39 .lss 36 38] (.i 39 .skip (.exit 0))) (.seq (.block 1 (.s [.m 42 3,.m 43 6,.h 44 3 42 43,.r 45 3 44,.o 7 (.box (.c (.agg [.str [],.str [],.af]))),.s 3 7 45] (.s [.o 46 (.aF 1 0 [.str []] []),.a 47 2 7,.l 48 47,.o 49 (.app 1 16 (.t 46) (.t 48)),.a 50 2 7,.s 1 50 49] (.ops [.a 51 3 1,.l 52 51,.r 53 3 7,.o 54 (.aF 3 1 [.str [],.str [],.af] [(0,.t 53)]),.o 55 (.app 3 56 (.t 52) (.t 54)),.a 56 3 1,.s 1 56 55])))) (.ops [.m 40 6,.v 41 .add 40 .w,.m 6 41])))))) (.seq (.s [.o 8 (.aI .z)] (.block 2 (.loop (.seq (.s [.m 57 8,.m 58 4,.n 59 58,.u 60 .lss 57 59] (.i 60 .skip (.exit 2))) (.seq (.block 3 (.s [.m 63 4,.m 64 8,.h 65 4 63 64,.r 66 4 65,.o 9 (.box (.c (.agg [.str [],.str [],.str [],.af]))),.s 4 9 66] (.s [.o 67 (.aF 1 0 [.str []] []),.a 68 3 9,.l 69 68,.o 70 (.app 1 16 (.t 67) (.t 69)),.a 71 3 9,.s 1 71 70] (.ops [.a 72 4 1,.l 73 72,.r 74 4 9,.o 75 (.aF 4 1 [.str [],.str [],.str [],.af] [(0,.t 74)]),.o 76 (.app 4 72 (.t 73) (.t 75)),.a 77 4 1,.s 1 77 76])))) (.ops [.m 61 8,.v 62 .add 61 .w,.m 8 62])))))) (.seq (.s [.o 10 (.aI .z)] (.block 4 (.loop (.seq (.s [.m 78 10,.m 79 5,.n 80 79,.u 81 .lss 78 80] (.i 81 .skip (.exit 4))) (.seq (.block 5 (.s [.m 84 5,.m 85 10,.h 86 3 84 85,.r 87 3 86,.o 11 (.box (.c (.agg [.str [],.str [],.af]))),.s 3 11 87] (.s [.o 88 (.aF 1 0 [.int .i64 0] []),.a 89 2 11,.l 90 89,.o 91 (.app 1 8 (.t 88) (.t 90)),.a 92 2 11,.s 1 92 91] (.ops [.a 93 5 1,.l 94 93,.r 95 3 11,.o 96 (.aF 3 1 [.str [],.str [],.af] [(0,.t 95)]),.o 97 (.app 3 56 (.t 94) (.t 96)),.a 98 5 1,.s 1 98 97])))) (.ops [.m 82 10,.v 83 .add 82 .w,.m 10 83])))))) (.r [.r 99 7 1,.s 7 2 99]))))))))))⟩
def fn225:aq:=⟨250,2,[(4,some (some 7)),(5,none)],(.s [.p 2 0,.p 3 1,.o 4 (.box (.c (.agg [.int .i64 0,.af,.af,.af,.af,.af,.af]))),.o 5 (.aI .z)] (.s [.a 12 3 3,.l 13 12,.o 14 (.bf 1 (.t 13) .z),.l 15 14,.m 6 15] (.seq (.s [.a 16 1 3,.l 17 16] (.block 0 (.s [.v 72 .eql 17 (.c (.str [108,105,110,101])),.m 71 72] (.i 71 (.seq (.s [.a 73 3 3,.l 74 73,.o 75 (.bf 1 (.t 74) .w),.l 76 75,.c 77 20 [.t 76,.w,.n 64]] (.j 77 [.r 78 7 2,.s 7 4 78,.o 5 (.aI (.n 3))])) (.seq (.s [.a 79 1 2,.l 80 79,.n 81 80,.v 82 .geq 81 (.n 16)] (.j 82 [.r 83 7 2,.s 7 4 83,.o 5 (.aI (.n 5))])) (.ops [.y 84 (.aR 1 (.t 2)),.j 85 84,.y 86 (.aR 2 (.t 3)),.j 87 86,.y 88 (.bf 1 (.t 87) .z),.j 89 88,.y 90 (.aR 3 (.t 3)),.j 91 90,.y 92 (.bf 1 (.t 91) .w),.j 93 92,.y 94 (.build [.str [],.int .i64 0,.bool false] [(0,1,.t 89),(1,1,.t 93)]),.y 95 (.aF 3 1 [.str [],.int .i64 0,.bool false] [(0,.t 94)]),.o 96 (.app 3 32 (.t 85) (.t 95)),.a 97 1 2,.s 1 97 96]))) (.s [.v 99 .eql 17 (.c (.str [116,97,112,101])),.m 98 99] (.i 98 (.seq (.s [.m 100 6,.a 101 3 3,.l 102 101,.o 103 (.bf 1 (.t 102) .w),.l 104 103,.u 105 .add 100 104,.v 106 .gtr 105 (.n 999999999)] (.j 106 [.r 107 7 2,.s 7 4 107,.o 5 (.aI (.n 4))])) (.seq (.s [.a 108 2 2,.l 109 108,.n 110 109,.v 111 .geq 110 (.n 16)] (.j 111 [.r 112 7 2,.s 7 4 112,.o 5 (.aI (.n 5))])) (.ops [.y 113 (.aR 2 (.t 2)),.j 114 113,.y 115 (.aR 2 (.t 3)),.j 116 115,.y 117 (.bf 1 (.t 116) .z),.j 118 117,.w 119 6,.y 120 (.aR 3 (.t 3)),.j 121 120,.y 122 (.bf 1 (.t 121) .w),.j 123 122,.y 124 (.bin .add (.t 119) (.t 123)),.y 125 (.build [.str [],.int .i64 0] [(0,1,.t 118),(1,1,.t 124)]),.y 126 (.aF 2 1 [.str [],.int .i64 0] [(0,.t 125)]),.o 127 (.app 2 24 (.t 114) (.t 126)),.a 128 2 2,.s 1 128 127]))) (.s [.v 130 .eql 17 (.c (.str [115,104,111,116])),.m 129 130] (.i 129 (.seq (.s [.y 131 (.aR 1 (.t 2)),.j 132 131,.y 133 (.load (some 7) (.t 2)),.y 134 (.aR 2 (.t 3)),.j 135 134,.y 136 (.bf 1 (.t 135) .w),.j 137 136,.y 138 (.call (.f 28) [.t 133,.t 137]),.h 139 3 132 138,.a 140 2 139,.l 141 140] (.j 141 [.r 142 7 2,.s 7 4 142,.o 5 (.aI (.n 23))])) (.seq (.s [.y 143 (.load (some 7) (.t 2)),.y 144 (.aR 2 (.t 3)),.j 145 144,.y 146 (.bf 1 (.t 145) (.n 2)),.j 147 146,.w 148 6,.c 149 84 [.t 143,.t 147,.t 148],.o 150 (.un .not (.t 149))] (.j 150 [.r 151 7 2,.s 7 4 151,.o 5 (.aI (.n 30))])) (.seq (.s [.a 152 3 2,.l 153 152,.n 154 153,.v 155 .geq 154 (.n 64)] (.j 155 [.r 156 7 2,.s 7 4 156,.o 5 (.aI (.n 5))])) (.ops [.y 157 (.aR 3 (.t 2)),.j 158 157,.y 159 (.aR 2 (.t 3)),.j 160 159,.y 161 (.bf 1 (.t 160) .z),.j 162 161,.y 163 (.aR 2 (.t 3)),.j 164 163,.y 165 (.bf 1 (.t 164) .w),.j 166 165,.y 167 (.aR 2 (.t 3)),.j 168 167,.y 169 (.bf 1 (.t 168) (.n 2)),.j 170 169,.y 171 (.aF 1 1 [.str []] [(0,.t 170)]),.y 172 (.build [.str [],.str [],.af] [(0,1,.t 162),(1,1,.t 166),(2,1,.t 171)]),.y 173 (.aF 3 1 [.str [],.str [],.af] [(0,.t 172)]),.o 174 (.app 3 56 (.t 158) (.t 173)),.a 175 3 2,.s 1 175 174])))) (.s [.v 177 .eql 17 (.c (.str [99,111,112,121])),.m 176 177] (.i 176 (.seq (.s [.y 178 (.aR 2 (.t 3)),.j 179 178,.y 180 (.bf 1 (.t 179) .z),.j 181 180,.y 182 (.aR 2 (.t 3)),.j 183 182,.y 184 (.bf 1 (.t 183) .w),.j 185 184,.u 186 .eql 181 185] (.j 186 [.r 187 7 2,.s 7 4 187,.o 5 (.aI (.n 24))])) (.seq (.s [.y 188 (.load (some 7) (.t 2)),.y 189 (.aR 2 (.t 3)),.j 190 189,.y 191 (.bf 1 (.t 190) .z),.j 192 191,.w 193 6,.c 194 84 [.t 188,.t 192,.t 193],.o 195 (.un .not (.t 194)),.m 196 195,⟨(some 197),.load (some 7) (.t 2),(some (196,false)),true⟩,⟨(some 198),.aR 2 (.t 3),(some (196,false)),true⟩,⟨(some 199),.load none (.t 198),(some (196,false)),true⟩,⟨(some 200),.bf 1 (.t 199) .w,(some (196,false)),true⟩,⟨(some 201),.load none (.t 200),(some (196,false)),true⟩,⟨(some 202),.aI (.t 6),(some (196,false)),true⟩,.g 203 196 false (.call (.f 84) [.t 197,.t 201,.t 202]),.g 204 196 false (.un .not (.t 203)),.f 205 196 204] (.j 205 [.r 206 7 2,.s 7 4 206,.o 5 (.aI (.n 30))])) (.s [.o 7 (.aI .z)] (.block 3 (.loop (.seq (.s [.m 207 7,.a 208 3 2,.l 209 208,.n 210 209,.u 211 .lss 207 210] (.i 211 .skip (.exit 3))) (.seq (.block 4 (.s [.a 214 3 2,.l 215 214,.m 216 7,.h 217 3 215 216,.a 218 2 217,.l 219 218,.m 8 219] (.s [.m 220 8,.a 221 2 3,.l 222 221,.o 223 (.bf 1 (.t 222) .z),.l 224 223,.c 225 35 [.t 220,.t 224],.m 226 225,.t 227 226 true 8,.g 228 226 true (.aR 2 (.t 3)),.g 229 226 true (.load none (.t 228)),.g 230 226 true (.bf 1 (.t 229) .w),.g 231 226 true (.load none (.t 230)),.g 232 226 true (.call (.f 35) [.t 227,.t 231]),.g 233 226 true (.un .not (.t 232)),.d 234 226 233] (.i 234 (.lD [.a 235 3 2,.j 236 235,.m 237 7,.o 238 (.aF 1 0 [.str []] []),.m 239 8,.o 240 (.app 1 16 (.t 238) (.t 239)),.a 241 2 3,.j 242 241,.o 243 (.bf 1 (.t 242) .w),.j 244 243,.o 245 (.aF 1 1 [.str []] [(0,.t 244)]),.o 246 (.app 1 16 (.t 240) (.t 245)),.h 247 3 236 237,.a 248 2 247,.s 1 248 246]) .skip)))) (.ops [.m 212 7,.v 213 .add 212 .w,.m 7 213])))))))) (.s [.y 18 (.load (some 7) (.t 2)),.y 19 (.aR 2 (.t 3)),.j 20 19,.y 21 (.bf 1 (.t 20) .z),.j 22 21,.c 23 28 [.t 18,.t 22],.m 9 23] (.s [.r 24 7 2,.a 25 2 3,.l 26 25,.c 27 127 [.t 24,.t 26],.m 10 27] (.seq (.s [.a 28 1 2,.l 29 28,.m 30 9,.h 31 3 29 30,.a 32 2 31,.l 33 32] (.j 33 [.r 34 7 2,.s 7 4 34,.o 5 (.aI (.n 23))])) (.seq (.s [.m 35 10,.n 36 35,.a 37 1 2,.l 38 37,.m 39 9,.h 40 3 38 39,.a 41 1 40,.l 42 41,.u 43 .lss 36 42] (.j 43 [.r 44 7 2,.s 7 4 44,.o 5 (.aI (.n 16))])) (.seq (.s [.o 11 (.aI .z)] (.block 1 (.loop (.seq (.s [.m 45 11,.m 46 10,.n 47 46,.u 48 .lss 45 47] (.i 48 .skip (.exit 1))) (.seq (.block 2 (.s [.y 51 (.load (some 7) (.t 2)),.y 52 (.aR 3 (.t 2)),.j 53 52,.y 54 (.load (some 7) (.t 2)),.w 55 10,.w 56 11,.y 57 (.bf 1 (.t 55) (.t 56)),.j 58 57,.y 59 (.call (.f 22) [.t 54,.t 58]),.y 60 (.bf 3 (.t 53) (.t 59)),.y 61 (.load (some 3) (.t 60)),.w 62 6,.c 63 23 [.t 51,.t 61,.t 62],.o 64 (.un .not (.t 63))] (.j 64 [.r 65 7 2,.s 7 4 65,.o 5 (.aI (.n 30))]))) (.ops [.m 49 11,.v 50 .add 49 .w,.m 11 50])))))) (.ops [.a 66 1 2,.l 67 66,.m 68 9,.h 69 3 67 68,.a 70 2 69,.x (.store 1 (.t 70) .T)])))))))))))))))) (.r [.r 249 7 2,.s 7 4 249,.o 5 (.aI .z)]))))⟩
def fn226:aq:=⟨96,2,[(4,some (some 7)),(5,none)],(.s [.p 2 0,.p 3 1,.o 4 (.box (.c (.agg [.int .i64 0,.af,.af,.af,.af,.af,.af]))),.o 5 (.aI .z)] (.s [.y 9 (.aR 2 (.t 3)),.j 10 9,.y 11 (.bf 1 (.t 10) .z),.j 12 11,.y 13 (.aF 1 0 [.str []] []),.y 14 (.aR 2 (.t 3)),.j 15 14,.y 16 (.sl 1 (.t 15) (some .w) none),.y 17 (.app 1 16 (.t 13) (.t 16)),.y 18 (.build [.str [],.str [],.str [],.af] [(0,1,.t 12),(3,1,.t 17)]),.y 6 (.box (.c (.agg [.str [],.str [],.str [],.af]))),.s 4 6 18] (.seq (.s [.a 19 1 3,.l 20 19] (.block 0 (.s [.v 49 .eql 20 (.c (.str [115,111,117,114,99,101])),.m 48 49] (.i 48 (.lD [.a 50 2 3,.j 51 50,.o 52 (.bf 1 (.t 51) .w),.j 53 52,.a 54 1 6,.x (.store 1 (.t 54) (.c (.str [115,104,111,116,115]))),.a 55 2 6,.s 1 55 53,.a 56 3 6,.x (.store 1 (.t 56) (.c .af))]) (.s [.v 58 .eql 20 (.c (.str [109,111,100,117,108,101])),.m 57 58] (.i 57 (.seq (.s [.a 59 3 3,.l 60 59,.o 61 (.bf 1 (.t 60) .w),.l 62 61,.c 63 20 [.t 62,.w,.n 4]] (.j 63 [.r 64 7 2,.s 7 4 64,.o 5 (.aI (.n 13))])) (.s [.a 66 3 3,.l 67 66,.o 68 (.bf 1 (.t 67) .w),.l 69 68,.c 70 263 [.t 69],.m 65 70,.e 71 65 0,.e 72 65 1,.m 7 71,.m 8 72] (.seq (.s [.y 73 (.load (some 7) (.t 2)),.y 74 (.aR 2 (.t 3)),.j 75 74,.y 76 (.bf 1 (.t 75) .w),.j 77 76,.y 78 (.call (.f 264) [.t 73,.t 77]),.w 79 7,.u 80 .neq 78 79] (.j 80 [.r 81 7 2,.s 7 4 81,.o 5 (.aI (.n 2))])) (.ops [.m 82 8,.a 83 1 6,.s 1 83 82])))) (.seq (.s [.y 21 (.aR 2 (.t 3)),.j 22 21,.y 23 (.bf 1 (.t 22) .w),.j 24 23,.y 25 (.aR 2 (.t 3)),.j 26 25,.y 27 (.bf 1 (.t 26) (.n 2)),.j 28 27,.u 29 .eql 24 28] (.j 29 [.r 30 7 2,.s 7 4 30,.o 5 (.aI (.n 24))])) (.s [.y 31 (.load (some 7) (.t 2)),.y 32 (.aR 2 (.t 3)),.j 33 32,.y 34 (.bf 1 (.t 33) .w),.j 35 34,.c 36 264 [.t 31,.t 35],.a 37 1 6,.s 1 37 36] (.s [.y 38 (.load (some 7) (.t 2)),.y 39 (.aR 2 (.t 3)),.j 40 39,.y 41 (.bf 1 (.t 40) (.n 2)),.j 42 41,.y 43 (.call (.f 264) [.t 38,.t 42]),.y 44 (.aR 1 (.t 6)),.j 45 44,.u 46 .neq 43 45] (.j 46 [.r 47 7 2,.s 7 4 47,.o 5 (.aI (.n 2))])))))))))) (.seq (.s [.a 84 4 2,.l 85 84,.n 86 85,.v 87 .geq 86 (.n 32)] (.j 87 [.r 88 7 2,.s 7 4 88,.o 5 (.aI (.n 5))])) (.s [.a 89 4 2,.l 90 89,.r 91 4 6,.o 92 (.aF 4 1 [.str [],.str [],.str [],.af] [(0,.t 91)]),.o 93 (.app 4 72 (.t 90) (.t 92)),.a 94 4 2,.s 1 94 93] (.r [.r 95 7 2,.s 7 4 95,.o 5 (.aI .z)]))))))⟩
def fn227:aq:=⟨223,2,[(4,some (some 7)),(5,none)],(.s [.p 2 0,.p 3 1,.o 4 (.box (.c (.agg [.int .i64 0,.af,.af,.af,.af,.af,.af]))),.o 5 (.aI .z)] (.seq (.s [.a 14 1 3,.l 15 14] (.block 0 (.s [.v 35 .eql 15 (.c (.str [114,117,110])),.m 34 35] (.i 34 (.s [.y 36 (.load (some 7) (.t 2)),.y 37 (.aR 2 (.t 3)),.j 38 37,.y 39 (.bf 1 (.t 38) .w),.j 40 39,.c 41 59 [.t 36,.t 40],.m 6 41] (.seq (.s [.o 7 (.aI .z)] (.block 1 (.loop (.seq (.s [.m 42 7,.m 43 6,.n 44 43,.u 45 .lss 42 44] (.i 45 .skip (.exit 1))) (.seq (.block 2 (.s [.y 48 (.aR 1 (.t 2)),.j 49 48,.y 50 (.load (some 7) (.t 2)),.w 51 6,.w 52 7,.y 53 (.bf 1 (.t 51) (.t 52)),.j 54 53,.y 55 (.call (.f 28) [.t 50,.t 54]),.h 56 3 49 55,.a 57 2 56,.l 58 57,.o 59 (.un .not (.t 58))] (.j 59 [.r 60 7 2,.s 7 4 60,.o 5 (.aI (.n 32))]))) (.ops [.m 46 7,.v 47 .add 46 .w,.m 7 47])))))) (.seq (.s [.a 61 3 3,.l 62 61,.o 63 (.bf 1 (.t 62) .w),.l 64 63,.c 65 20 [.t 64,.w,.n 32]] (.j 65 [.r 66 7 2,.s 7 4 66,.o 5 (.aI (.n 3))])) (.seq (.s [.a 67 5 2,.l 68 67,.n 69 68,.v 70 .geq 69 (.n 16)] (.j 70 [.r 71 7 2,.s 7 4 71,.o 5 (.aI (.n 5))])) (.s [.y 72 (.aR 2 (.t 3)),.j 73 72,.y 74 (.bf 1 (.t 73) .z),.j 75 74,.y 76 (.aR 2 (.t 3)),.j 77 76,.y 78 (.bf 1 (.t 77) .w),.j 79 78,.y 80 (.build [.str [],.str [],.af] [(0,1,.t 75),(1,1,.t 79)]),.y 8 (.box (.c (.agg [.str [],.str [],.af]))),.s 3 8 80] (.seq (.s [.o 9 (.aI .z)] (.block 3 (.loop (.seq (.s [.m 81 9,.a 82 3 3,.l 83 82,.o 84 (.bf 1 (.t 83) .w),.l 85 84,.u 86 .lss 81 85] (.i 86 .skip (.exit 3))) (.seq (.block 4 (.ops [.a 89 2 8,.l 90 89,.o 91 (.aF 1 1 [.int .i64 0] [(0,(.n (-1)))]),.o 92 (.app 1 8 (.t 90) (.t 91)),.a 93 2 8,.s 1 93 92])) (.ops [.m 87 9,.v 88 .add 87 .w,.m 9 88])))))) (.ops [.a 94 5 2,.l 95 94,.r 96 3 8,.o 97 (.aF 3 1 [.str [],.str [],.af] [(0,.t 96)]),.o 98 (.app 3 56 (.t 95) (.t 97)),.a 99 5 2,.s 1 99 98]))))))) (.seq (.s [.v 101 .eql 15 (.c (.str [116,105,108,101])),.m 100 101] (.i 100 .skip (.ops [.v 102 .eql 15 (.c (.str [102,97,105,108])),.m 100 102]))) (.i 100 (.s [.y 103 (.load (some 7) (.t 2)),.y 104 (.aR 2 (.t 3)),.j 105 104,.y 106 (.bf 1 (.t 105) .z),.j 107 106,.c 108 56 [.t 103,.t 107],.m 10 108] (.seq (.s [.y 109 (.load (some 7) (.t 2)),.y 110 (.aR 2 (.t 3)),.j 111 110,.y 112 (.bf 1 (.t 111) .z),.j 113 112,.c 114 265 [.t 109,.t 113]] (.j 114 [.r 115 7 2,.s 7 4 115,.o 5 (.aI (.n 23))])) (.s [.a 116 3 3,.l 117 116,.o 118 (.bf 1 (.t 117) .w),.l 119 118,.m 11 119] (.seq (.s [.m 120 11,.a 121 5 2,.l 122 121,.m 123 10,.h 124 3 122 123,.a 125 2 124,.l 126 125,.n 127 126,.u 128 .geq 120 127] (.j 128 [.r 129 7 2,.s 7 4 129,.o 5 (.aI (.n 3))])) (.seq (.s [.a 130 1 3,.l 131 130,.v 132 .eql 131 (.c (.str [102,97,105,108]))] (.i 132 (.seq (.s [.a 133 5 2,.l 134 133,.m 135 10,.h 136 3 134 135,.a 137 2 136,.l 138 137,.m 139 11,.h 140 1 138 139,.l 141 140,.v 142 .lss 141 .z] (.j 142 [.r 143 7 2,.s 7 4 143,.o 5 (.aI (.n 7))])) (.s [.a 144 5 2,.l 145 144,.m 146 10,.h 147 3 145 146,.a 148 2 147,.l 149 148,.m 150 11,.h 151 1 149 150,.x (.store 1 (.t 151) (.n (-1)))] (.r [.r 152 7 2,.s 7 4 152,.o 5 (.aI .z)]))) .skip)) (.seq (.s [.a 153 5 2,.l 154 153,.m 155 10,.h 156 3 154 155,.a 157 2 156,.l 158 157,.m 159 11,.h 160 1 158 159,.l 161 160,.v 162 .geq 161 .z] (.j 162 [.r 163 7 2,.s 7 4 163,.o 5 (.aI (.n 9))])) (.ops [.y 164 (.aR 5 (.t 2)),.j 165 164,.w 166 10,.y 167 (.bf 3 (.t 165) (.t 166)),.y 168 (.aR 2 (.t 167)),.j 169 168,.w 170 11,.y 171 (.aR 3 (.t 3)),.j 172 171,.y 173 (.bf 1 (.t 172) (.n 2)),.j 174 173,.h 175 1 169 170,.s 1 175 174]))))))) (.s [.v 177 .eql 15 (.c (.str [112,105,99,116,117,114,101])),.m 176 177] (.i 176 (.s [.y 178 (.aR 5 (.t 2)),.j 179 178,.y 180 (.load (some 7) (.t 2)),.y 181 (.aR 2 (.t 3)),.j 182 181,.y 183 (.bf 1 (.t 182) .w),.j 184 183,.y 185 (.call (.f 56) [.t 180,.t 184]),.y 186 (.bf 3 (.t 179) (.t 185)),.y 187 (.load (some 3) (.t 186)),.y 12 (.box (.c (.agg [.str [],.str [],.af]))),.s 3 12 187] (.seq (.s [.y 188 (.load (some 7) (.t 2)),.y 189 (.aR 2 (.t 3)),.j 190 189,.y 191 (.bf 1 (.t 190) .w),.j 192 191,.c 193 265 [.t 188,.t 192]] (.j 193 [.r 194 7 2,.s 7 4 194,.o 5 (.aI (.n 23))])) (.seq (.s [.r 195 3 12,.c 196 60 [.t 195],.n 197 196,.v 198 .gtr 197 .z] (.j 198 [.r 199 7 2,.s 7 4 199,.o 5 (.aI (.n 32))])) (.seq (.s [.a 200 6 2,.l 201 200,.n 202 201,.v 203 .geq 202 (.n 16)] (.j 203 [.r 204 7 2,.s 7 4 204,.o 5 (.aI (.n 5))])) (.ops [.y 205 (.aR 6 (.t 2)),.j 206 205,.y 207 (.aR 2 (.t 3)),.j 208 207,.y 209 (.bf 1 (.t 208) .z),.j 210 209,.y 211 (.aR 2 (.t 3)),.j 212 211,.y 213 (.bf 1 (.t 212) .w),.j 214 213,.y 215 (.aR 2 (.t 12)),.j 216 215,.y 217 (.call (.f 31) [.t 216]),.y 218 (.build [.str [],.str [],.int .i64 0,.bool false] [(0,1,.t 210),(1,1,.t 214),(2,1,.t 217),(3,1,.F)]),.y 219 (.aF 4 1 [.str [],.str [],.int .i64 0,.bool false] [(0,.t 218)]),.o 220 (.app 4 48 (.t 206) (.t 219)),.a 221 6 2,.s 1 221 220]))))) (.s [.y 16 (.load (some 7) (.t 2)),.y 17 (.aR 2 (.t 3)),.j 18 17,.y 19 (.bf 1 (.t 18) .z),.j 20 19,.c 21 57 [.t 16,.t 20],.m 13 21] (.seq (.s [.a 22 6 2,.l 23 22,.m 24 13,.h 25 4 23 24,.a 26 3 25,.l 27 26] (.j 27 [.r 28 7 2,.s 7 4 28,.o 5 (.aI (.n 23))])) (.ops [.a 29 6 2,.l 30 29,.m 31 13,.h 32 4 30 31,.a 33 3 32,.x (.store 1 (.t 33) .T)]))))))))))) (.r [.r 222 7 2,.s 7 4 222,.o 5 (.aI .z)])))⟩
def kM(x0:Nat):aq:=⟨19,2,[(4,none)],(.s [.o 4 (.aI .z)] (.seq (.s [.m 6 0,.n 7 6,.o 8 (.aI .z)] (.block 0 (.loop (.s [.u 9 .lss 8 7] (.seq (.i 9 .skip (.exit 0)) (.seq (.block 1 (.s [.m 10 8,.m 5 10] (.s [.m 11 1,.m 12 0,.m 13 5,.h 14 x0 12 13,.r 15 x0 14,.o 16 (.call (.t 11) [.t 15])] (.j 16 [.m 17 5,.m 4 17])))) (.ops [.v 18 .add 8 .w,.m 8 18]))))))) (.r [.o 4 (.aI (.n (-1)))])))⟩
def fn228:aq:=kM 3
def kL(x0 x1:Nat):aq:=⟨9,1,[(3,none)],(.s [.p 2 0,.o 3 (.aI .F)] (.r [.y 4 (.load (some x0) (.t 2)),.y 5 (.conv (.qn x1) (.t 4)),.y 6 (.call (.c (.func (.method "moveout/house.name") [] [])) [.t 5]),.j 7 1,.u 8 .eql 6 7,.m 3 8]))⟩
def fn229:aq:=kL 3 74
def fn230:aq:=kM 3
def fn231:aq:=kL 3 78
def fn232:aq:=kM 2
def fn233:aq:=kL 2 73
def fn234:aq:=kM 4
def fn235:aq:=kL 4 134
def fn236:aq:=kM 3
def fn237:aq:=kL 3 136
def fn238:aq:=kM 4
def fn239:aq:=kL 4 130
def fn240:aq:=⟨13,2,[(5,none)],(.s [.p 3 0,.o 5 (.aI .F)] (.r [.a 6 2 3,.l 7 6,.l 8 2,.h 9 1 7 8,.l 10 9,.m 11 1,.u 12 .eql 10 11,.m 5 12]))⟩
def fn241:aq:=⟨17,3,[(6,none)],(.s [.p 3 0,.p 4 1,.o 6 (.aI .z)] (.r [.y 7 (.load (some 7) (.t 3)),.w 8 2,.y 9 (.call (.f 134) [.t 7,.t 8]),.y 10 (.aR 3 (.t 4)),.j 11 10,.y 12 (.bf 1 (.t 11) .z),.j 13 12,.c 14 135 [.t 9,.t 13],.o 15 (.un .not (.t 14)),.c 16 85 [.t 15,.n 30],.m 6 16]))⟩
def pN(x0:Nat):aq:=⟨9,2,[(4,none)],(.s [.o 4 (.aI .F)] (.r [.m 5 0,.m 6 1,.c 7 x0 [.t 5,.t 6],.v 8 .geq 7 .z,.m 4 8]))⟩
def fn242:aq:=pN 266
def fn243:aq:=pN 228
def fn244:aq:=⟨13,1,[(4,none)],(.s [.p 3 0,.o 4 (.aI .F)] (.r [.y 5 (.load (some 7) (.t 1)),.y 6 (.load (some 3) (.t 3)),.y 7 (.aR 3 (.t 2)),.j 8 7,.y 9 (.bf 1 (.t 8) .z),.j 10 9,.c 11 76 [.t 5,.t 6,.t 10],.o 12 (.un .not (.t 11)),.m 4 12]))⟩
def fn245:aq:=⟨13,2,[(4,some (some 4))],(.s [.p 2 0,.o 4 (.box (.c (.agg [.str [],.str [],.str [],.af])))] (.r [.y 5 (.aR 4 (.t 2)),.j 6 5,.y 7 (.aR 4 (.t 2)),.j 8 7,.w 9 1,.y 10 (.call (.f 144) [.t 8,.t 9]),.h 11 4 6 10,.r 12 4 11,.s 4 4 12]))⟩
def fn246:aq:=pN 230
def fn247:aq:=⟨6,1,[(2,none)],(.s [.p 1 0,.o 2 (.aI .F)] (.r [.a 3 2 1,.l 4 3,.o 5 (.un .not (.t 4)),.m 2 5]))⟩
def fn248:aq:=⟨48,2,[(4,none)],(.s [.o 4 (.aI (.c .af))] (.seq (.s [.m 9 1,.v 10 .lss 9 .z] (.i 10 (.ops [.o 11 (.conv (.qn 9) (.c (.str [99,97,110,110,111,116,32,98,101,32,110,101,103,97,116,105,118,101]))),.x (.bad)]) .skip)) (.s [.m 13 0,.n 14 13,.o 15 (.conv (.ub .u64) (.t 14)),.m 16 1,.o 17 (.conv (.ub .u64) (.t 16)),.c 18 267 [.t 15,.t 17],.m 12 18,.e 19 12 0,.e 20 12 1,.m 5 19,.m 6 20] (.seq (.s [.m 21 5,.v 22 .gtr 21 (.c (.int .u64 0)),.m 23 22,.t 24 23 false 6,.g 25 23 false (.bin .gtr (.t 24) (.c (.int .u64 9223372036854775807))),.f 26 23 25] (.i 26 (.ops [.o 27 (.conv (.qn 9) (.c (.str [116,104,101,32,114,101,115,117,108,116,32,111,102,32,40,108,101,110,40,120,41,32,42,32,99,111,117,110,116,41,32,111,118,101,114,102,108,111,119,115]))),.x (.bad)]) .skip)) (.s [.m 28 6,.o 29 (.conv (.ub .i64) (.t 28)),.o 30 (.si 1 8 [.int .i64 0] (.t 29) (.t 29)),.m 7 30] (.s [.m 31 7,.m 32 0,.o 33 (.wI 1 (.t 31) (.t 32)),.m 8 33] (.seq (.block 0 (.loop (.seq (.s [.m 34 8,.m 35 7,.n 36 35,.u 37 .lss 34 36] (.i 37 .skip (.exit 0))) (.block 1 (.ops [.m 38 8,.m 39 7,.m 40 8,.o 41 (.sl 1 (.t 39) (some (.t 40)) none),.m 42 7,.m 43 8,.o 44 (.sl 1 (.t 42) none (some (.t 43))),.o 45 (.wI 1 (.t 41) (.t 44)),.u 46 .add 38 45,.m 8 46]))))) (.r [.m 47 7,.m 4 47]))))))))⟩
def fn249:aq:=⟨28,2,[(4,none)],(.s [.p 2 0,.p 3 1,.o 4 (.aI .z)] (.r [.y 5 (.load (some 7) (.t 2)),.y 6 (.aR 2 (.t 3)),.j 7 6,.y 8 (.bf 1 (.t 7) .z),.j 9 8,.y 10 (.call (.f 251) [.t 5,.t 9]),.y 11 (.call (.f 85) [.t 10,.n 23]),.y 12 (.aR 3 (.t 3)),.j 13 12,.y 14 (.bf 1 (.t 13) .w),.j 15 14,.y 16 (.load (some 7) (.t 2)),.y 17 (.aR 2 (.t 3)),.j 18 17,.y 19 (.bf 1 (.t 18) .z),.j 20 19,.y 21 (.call (.f 124) [.t 16,.t 20]),.y 22 (.part none 2 (.t 21)),.y 23 (.len .sl (.t 22)),.y 24 (.bin .sub (.t 23) .w),.c 25 94 [.t 15,.z,.t 24],.o 26 (.aF 1 2 [.int .i64 0] [(0,.t 11),(1,.t 25)]),.c 27 74 [.t 26],.m 4 27]))⟩
def fn250:aq:=⟨28,3,[],(.s [.p 4 1] (.ops [.w 6 0,.y 7 (.bz (.t 6)),.y 8 (.aR 5 (.t 7)),.j 9 8,.w 10 0,.y 11 (.bz (.t 10)),.y 12 (.aR 5 (.t 11)),.j 13 12,.y 14 (.aR 2 (.t 4)),.j 15 14,.y 16 (.bf 1 (.t 15) .z),.j 17 16,.y 18 (.call (.f 145) [.t 13,.t 17]),.y 19 (.bf 3 (.t 9) (.t 18)),.y 20 (.aR 2 (.t 19)),.j 21 20,.y 22 (.aR 3 (.t 4)),.j 23 22,.y 24 (.bf 1 (.t 23) .w),.j 25 24,.w 26 2,.h 27 1 21 25,.s 1 27 26]))⟩
def fn251:aq:=⟨9,2,[(4,none)],(.s [.p 2 0,.p 3 1,.o 4 (.aI .F)] (.r [.a 5 6 2,.l 6 5,.o 7 (.kY (.func 269) [] [.t 3]),.c 8 268 [.t 6,.t 7],.m 4 8]))⟩
def fn252:aq:=⟨125,2,[(4,none)],(.s [.o 4 (.aI (.c (.str [])))] (.seq (.s [.m 11 1] (.block 0 (.s [.v 13 .eql 11 .z,.m 12 13] (.i 12 (.r [.o 4 (.aI (.c (.str [])))]) (.s [.v 15 .eql 11 .w,.m 14 15] (.j 14 [.m 16 0,.m 4 16])))))) (.seq (.s [.m 17 1,.v 18 .lss 17 .z] (.i 18 (.ops [.o 19 (.conv (.qn 9) (.c (.str [115,116,114,105,110,103,115,58,32,110,101,103,97,116,105,118,101,32,82,101,112,101,97,116,32,99,111,117,110,116]))),.x (.bad)]) .skip)) (.s [.m 21 0,.o 22 (.len .st (.t 21)),.o 23 (.conv (.ub .u64) (.t 22)),.m 24 1,.o 25 (.conv (.ub .u64) (.t 24)),.c 26 267 [.t 23,.t 25],.m 20 26,.e 27 20 0,.e 28 20 1,.m 5 27,.m 6 28] (.seq (.s [.m 29 5,.v 30 .gtr 29 (.c (.int .u64 0)),.m 31 30,.t 32 31 false 6,.g 33 31 false (.bin .gtr (.t 32) (.c (.int .u64 9223372036854775807))),.f 34 31 33] (.i 34 (.ops [.o 35 (.conv (.qn 9) (.c (.str [115,116,114,105,110,103,115,58,32,82,101,112,101,97,116,32,111,117,116,112,117,116,32,108,101,110,103,116,104,32,111,118,101,114,102,108,111,119]))),.x (.bad)]) .skip)) (.s [.m 36 6,.o 37 (.conv (.ub .i64) (.t 36)),.m 7 37] (.seq (.s [.m 38 0,.o 39 (.len .st (.t 38)),.v 40 .eql 39 .z] (.j 40 [.o 4 (.aI (.c (.str [])))])) (.seq (.s [.m 41 0,.o 42 (.qm (.t 41) .z)] (.block 1 (.seq (.s [.v 44 .eql 42 (.c (.int .u8 32)),.m 43 44] (.i 43 .skip (.s [.v 45 .eql 42 (.c (.int .u8 45)),.m 43 45] (.i 43 .skip (.s [.v 46 .eql 42 (.c (.int .u8 48)),.m 43 46] (.i 43 .skip (.s [.v 47 .eql 42 (.c (.int .u8 61)),.m 43 47] (.i 43 .skip (.ops [.v 48 .eql 42 (.c (.int .u8 9)),.m 43 48]))))))))) (.i 43 (.block 2 (.s [.m 50 7,.v 51 .leq 50 (.n 128),.m 52 51,.t 53 52 true 0,.g 54 52 true (.call (.f 270) [(.c (.str [32,32,32,32,32,32,32,32,32,32,32,32,32,32,32,32,32,32,32,32,32,32,32,32,32,32,32,32,32,32,32,32,32,32,32,32,32,32,32,32,32,32,32,32,32,32,32,32,32,32,32,32,32,32,32,32,32,32,32,32,32,32,32,32,32,32,32,32,32,32,32,32,32,32,32,32,32,32,32,32,32,32,32,32,32,32,32,32,32,32,32,32,32,32,32,32,32,32,32,32,32,32,32,32,32,32,32,32,32,32,32,32,32,32,32,32,32,32,32,32,32,32,32,32,32,32,32,32])),.t 53]),.d 55 52 54,.m 49 55] (.i 49 (.r [.m 56 7,.o 57 (.pO (.c (.str [32,32,32,32,32,32,32,32,32,32,32,32,32,32,32,32,32,32,32,32,32,32,32,32,32,32,32,32,32,32,32,32,32,32,32,32,32,32,32,32,32,32,32,32,32,32,32,32,32,32,32,32,32,32,32,32,32,32,32,32,32,32,32,32,32,32,32,32,32,32,32,32,32,32,32,32,32,32,32,32,32,32,32,32,32,32,32,32,32,32,32,32,32,32,32,32,32,32,32,32,32,32,32,32,32,32,32,32,32,32,32,32,32,32,32,32,32,32,32,32,32,32,32,32,32,32,32,32])) none (some (.t 56))),.m 4 57]) (.s [.m 59 7,.v 60 .leq 59 (.n 128),.m 61 60,.t 62 61 true 0,.g 63 61 true (.call (.f 270) [(.c (.str [45,45,45,45,45,45,45,45,45,45,45,45,45,45,45,45,45,45,45,45,45,45,45,45,45,45,45,45,45,45,45,45,45,45,45,45,45,45,45,45,45,45,45,45,45,45,45,45,45,45,45,45,45,45,45,45,45,45,45,45,45,45,45,45,45,45,45,45,45,45,45,45,45,45,45,45,45,45,45,45,45,45,45,45,45,45,45,45,45,45,45,45,45,45,45,45,45,45,45,45,45,45,45,45,45,45,45,45,45,45,45,45,45,45,45,45,45,45,45,45,45,45,45,45,45,45,45,45])),.t 62]),.d 64 61 63,.m 58 64] (.i 58 (.r [.m 65 7,.o 66 (.pO (.c (.str [45,45,45,45,45,45,45,45,45,45,45,45,45,45,45,45,45,45,45,45,45,45,45,45,45,45,45,45,45,45,45,45,45,45,45,45,45,45,45,45,45,45,45,45,45,45,45,45,45,45,45,45,45,45,45,45,45,45,45,45,45,45,45,45,45,45,45,45,45,45,45,45,45,45,45,45,45,45,45,45,45,45,45,45,45,45,45,45,45,45,45,45,45,45,45,45,45,45,45,45,45,45,45,45,45,45,45,45,45,45,45,45,45,45,45,45,45,45,45,45,45,45,45,45,45,45,45,45])) none (some (.t 65))),.m 4 66]) (.s [.m 68 7,.v 69 .leq 68 (.n 64),.m 70 69,.t 71 70 true 0,.g 72 70 true (.call (.f 270) [(.c (.str [48,48,48,48,48,48,48,48,48,48,48,48,48,48,48,48,48,48,48,48,48,48,48,48,48,48,48,48,48,48,48,48,48,48,48,48,48,48,48,48,48,48,48,48,48,48,48,48,48,48,48,48,48,48,48,48,48,48,48,48,48,48,48,48])),.t 71]),.d 73 70 72,.m 67 73] (.i 67 (.r [.m 74 7,.o 75 (.pO (.c (.str [48,48,48,48,48,48,48,48,48,48,48,48,48,48,48,48,48,48,48,48,48,48,48,48,48,48,48,48,48,48,48,48,48,48,48,48,48,48,48,48,48,48,48,48,48,48,48,48,48,48,48,48,48,48,48,48,48,48,48,48,48,48,48,48])) none (some (.t 74))),.m 4 75]) (.s [.m 77 7,.v 78 .leq 77 (.n 128),.m 79 78,.t 80 79 true 0,.g 81 79 true (.call (.f 270) [(.c (.str [61,61,61,61,61,61,61,61,61,61,61,61,61,61,61,61,61,61,61,61,61,61,61,61,61,61,61,61,61,61,61,61,61,61,61,61,61,61,61,61,61,61,61,61,61,61,61,61,61,61,61,61,61,61,61,61,61,61,61,61,61,61,61,61,61,61,61,61,61,61,61,61,61,61,61,61,61,61,61,61,61,61,61,61,61,61,61,61,61,61,61,61,61,61,61,61,61,61,61,61,61,61,61,61,61,61,61,61,61,61,61,61,61,61,61,61,61,61,61,61,61,61,61,61,61,61,61,61])),.t 80]),.d 82 79 81,.m 76 82] (.i 76 (.r [.m 83 7,.o 84 (.pO (.c (.str [61,61,61,61,61,61,61,61,61,61,61,61,61,61,61,61,61,61,61,61,61,61,61,61,61,61,61,61,61,61,61,61,61,61,61,61,61,61,61,61,61,61,61,61,61,61,61,61,61,61,61,61,61,61,61,61,61,61,61,61,61,61,61,61,61,61,61,61,61,61,61,61,61,61,61,61,61,61,61,61,61,61,61,61,61,61,61,61,61,61,61,61,61,61,61,61,61,61,61,61,61,61,61,61,61,61,61,61,61,61,61,61,61,61,61,61,61,61,61,61,61,61,61,61,61,61,61,61])) none (some (.t 83))),.m 4 84]) (.s [.m 86 7,.v 87 .leq 86 (.n 64),.m 88 87,.t 89 88 true 0,.g 90 88 true (.call (.f 270) [(.c (.str [9,9,9,9,9,9,9,9,9,9,9,9,9,9,9,9,9,9,9,9,9,9,9,9,9,9,9,9,9,9,9,9,9,9,9,9,9,9,9,9,9,9,9,9,9,9,9,9,9,9,9,9,9,9,9,9,9,9,9,9,9,9,9,9])),.t 89]),.d 91 88 90,.m 85 91] (.j 85 [.m 92 7,.o 93 (.pO (.c (.str [9,9,9,9,9,9,9,9,9,9,9,9,9,9,9,9,9,9,9,9,9,9,9,9,9,9,9,9,9,9,9,9,9,9,9,9,9,9,9,9,9,9,9,9,9,9,9,9,9,9,9,9,9,9,9,9,9,9,9,9,9,9,9,9])) none (some (.t 92))),.m 4 93]))))))))))) .skip)))) (.s [.m 94 7,.m 8 94] (.seq (.s [.m 95 7,.v 96 .gtr 95 (.n 8192)] (.i 96 (.s [.m 97 0,.o 98 (.len .st (.t 97)),.b 99 .quo (.n 8192) (.t 98),.m 100 0,.o 101 (.len .st (.t 100)),.u 102 .mul 99 101,.m 8 102] (.s [.m 103 8,.v 104 .eql 103 .z] (.i 104 (.ops [.m 105 0,.o 106 (.len .st (.t 105)),.m 8 106]) .skip))) .skip)) (.s [.o 9 (.box (.c (.agg [.nilPtr,.af])))] (.s [.m 107 7,.c 108 210 [.t 9,.t 107]] (.s [.m 109 0,.c 110 211 [.t 9,.t 109]] (.seq (.block 3 (.loop (.seq (.s [.c 111 271 [.t 9],.m 112 7,.u 113 .lss 111 112] (.i 113 .skip (.exit 3))) (.block 4 (.s [.m 114 7,.c 115 271 [.t 9],.u 116 .sub 114 115,.c 117 271 [.t 9],.m 118 8,.o 119 (.mn (.t 116) [.t 117,.t 118]),.m 10 119] (.ops [.c 120 212 [.t 9],.m 121 10,.o 122 (.pO (.t 120) none (some (.t 121))),.c 123 211 [.t 9,.t 122]])))))) (.r [.c 124 212 [.t 9],.m 4 124])))))))))))))))⟩
def fn253:aq:=⟨143,2,[(4,none)],(.s [.o 4 (.aI .z)] (.s [.m 14 1,.o 15 (.len .st (.t 14)),.m 5 15] (.seq (.block 0 (.s [.m 17 5,.v 18 .eql 17 .z,.m 19 18,.t 20 19 false 1,.t 21 19 false 0,.g 22 19 false (.bin .eql (.t 20) (.t 21)),.f 23 19 22,.m 16 23] (.i 16 (.r [.o 4 (.aI .z)]) (.s [.m 25 5,.v 26 .eql 25 .w,.m 24 26] (.i 24 (.r [.m 27 0,.m 28 1,.o 29 (.qm (.t 28) .z),.c 30 272 [.t 27,.t 29],.m 4 30]) (.s [.m 32 5,.m 33 0,.o 34 (.len .st (.t 33)),.u 35 .geq 32 34,.m 31 35] (.i 31 (.r [.o 4 (.aI (.n (-1)))]) (.s [.m 37 5,.o 38 (.load none (.g 1)),.u 39 .leq 37 38,.m 40 39,.t 41 40 true 0,.g 42 40 true (.len .st (.t 41)),.g 43 40 true (.bin .leq (.t 42) (.n 64)),.d 44 40 43,.m 36 44] (.j 36 [.m 45 0,.m 46 1,.c 47 273 [.t 45,.t 46],.m 4 47]))))))))) (.s [.m 48 1,.o 49 (.qm (.t 48) .z),.m 6 49] (.s [.m 50 1,.o 51 (.qm (.t 50) .w),.m 7 51] (.s [.o 8 (.aI .z)] (.s [.m 52 0,.o 53 (.len .st (.t 52)),.m 54 5,.u 55 .sub 53 54,.v 56 .add 55 .w,.m 9 56] (.s [.o 10 (.aI .z)] (.seq (.block 1 (.loop (.seq (.s [.m 57 8,.m 58 9,.u 59 .lss 57 58] (.i 59 .skip (.exit 1))) (.block 2 (.seq (.s [.m 60 0,.m 61 8,.o 62 (.qm (.t 60) (.t 61)),.m 63 6,.u 64 .neq 62 63] (.i 64 (.s [.m 65 0,.m 66 8,.v 67 .add 66 .w,.m 68 9,.o 69 (.pO (.t 65) (some (.t 67)) (some (.t 68))),.m 70 6,.c 71 272 [.t 69,.t 70],.m 11 71] (.seq (.s [.m 72 11,.v 73 .lss 72 .z] (.j 73 [.o 4 (.aI (.n (-1)))])) (.ops [.m 74 8,.m 75 11,.v 76 .add 75 .w,.u 77 .add 74 76,.m 8 77]))) .skip)) (.seq (.s [.m 78 0,.m 79 8,.v 80 .add 79 .w,.o 81 (.qm (.t 78) (.t 80)),.m 82 7,.u 83 .eql 81 82,.m 84 83,.t 85 84 true 0,.t 86 84 true 8,.t 87 84 true 8,.t 88 84 true 5,.g 89 84 true (.bin .add (.t 87) (.t 88)),.g 90 84 true (.pO (.t 85) (some (.t 86)) (some (.t 89))),.t 91 84 true 1,.g 92 84 true (.bin .eql (.t 90) (.t 91)),.d 93 84 92] (.j 93 [.m 94 8,.m 4 94])) (.s [.m 95 8,.v 96 .add 95 .w,.m 8 96] (.s [.m 97 10,.v 98 .add 97 .w,.m 10 98] (.s [.m 99 5,.o 100 (.load none (.g 1)),.u 101 .leq 99 100,.m 102 101,.t 103 102 true 10,.t 104 102 true 8,.g 105 102 true (.call (.f 274) [.t 104]),.g 106 102 true (.bin .gtr (.t 103) (.t 105)),.d 107 102 106] (.i 107 (.s [.m 108 0,.m 109 8,.o 110 (.pO (.t 108) (some (.t 109)) none),.m 111 1,.c 112 273 [.t 110,.t 111],.m 12 112] (.seq (.s [.m 113 12,.v 114 .geq 113 .z] (.j 114 [.m 115 12,.m 116 8,.u 117 .add 115 116,.m 4 117])) (.r [.o 4 (.aI (.n (-1)))]))) (.s [.m 118 5,.o 119 (.load none (.g 1)),.u 120 .gtr 118 119,.m 121 120,.t 122 121 true 10,.t 123 121 true 8,.g 124 121 true (.bin .shr (.t 123) (.c (.int .u64 4))),.g 125 121 true (.bin .add (.n 4) (.t 124)),.g 126 121 true (.bin .geq (.t 122) (.t 125)),.d 127 121 126,.m 128 127,.t 129 128 true 8,.t 130 128 true 9,.g 131 128 true (.bin .lss (.t 129) (.t 130)),.d 132 128 131] (.i 132 (.s [.m 133 0,.m 134 8,.o 135 (.pO (.t 133) (some (.t 134)) none),.m 136 1,.c 137 275 [.t 135,.t 136],.m 13 137] (.seq (.s [.m 138 13,.v 139 .lss 138 .z] (.j 139 [.o 4 (.aI (.n (-1)))])) (.r [.m 140 8,.m 141 13,.u 142 .add 140 141,.m 4 142]))) .skip)))))))))))) (.r [.o 4 (.aI (.n (-1)))]))))))))))⟩
def fn254:aq:=⟨18,1,[(2,none),(3,none)],(.s [.o 2 (.aI .z),.o 3 (.bad)] (.s [.m 7 0,.c 8 276 [.t 7],.m 6 8,.e 9 6 0,.e 10 6 1,.m 4 9,.m 5 10] (.seq (.s [.m 11 5,.o 12 (.bad)] (.j 12 [.m 13 4,.m 14 0,.m 15 5,.o 16 (.call (.f 277) [(.c (.str [65,116,111,105])),.t 14,.z,.z,.t 15]),.m 2 13,.m 3 16])) (.r [.m 17 4,.m 2 17,.o 3 (.bad)]))))⟩
def yp:aq:=⟨8,1,[(3,none)],(.s [.p 2 0,.o 3 (.aI .F)] (.r [.a 4 1 2,.l 5 4,.l 6 1,.u 7 .eql 5 6,.m 3 7]))⟩
def fn255:aq:=yp
def fn259:aq:=⟨19,1,[],(.s [.l 4 1,.n 5 4,.v 6 .sub 5 .w,.m 3 6] (.block 0 (.loop (.seq (.s [.m 7 3,.v 8 .geq 7 .z] (.i 8 .skip (.exit 0))) (.seq (.block 1 (.s [.m 11 0,.m 12 3,.l 13 1,.m 14 3,.h 15 4 13 14,.r 16 4 15,.o 17 (.call (.t 11) [.t 12,.t 16]),.o 18 (.un .not (.t 17))] (.i 18 .ret .skip))) (.ops [.m 9 3,.v 10 .sub 9 .w,.m 3 10]))))))⟩
def fn263:aq:=⟨11,1,[(2,none),(3,none)],(.s [.o 2 (.aI (.c (.str []))),.o 3 (.aI (.c (.str [])))] (.seq (.s [.m 4 0] (.block 0 (.s [.v 6 .eql 4 .w,.m 5 6] (.i 5 (.r [.o 2 (.aI (.c (.str [115,104,111,116,115]))),.o 3 (.aI (.c (.str [115,104,111,116,115])))]) (.s [.v 8 .eql 4 (.n 2),.m 7 8] (.i 7 (.r [.o 2 (.aI (.c (.str [115,104,111,116,115]))),.o 3 (.aI (.c (.str [115,101,99,116,105,111,110])))]) (.s [.v 10 .eql 4 (.n 3),.m 9 10] (.j 9 [.o 2 (.aI (.c (.str [115,101,99,116,105,111,110]))),.o 3 (.aI (.c (.str [105,109,97,103,101])))])))))))) (.r [.o 2 (.aI (.c (.str [105,109,97,103,101]))),.o 3 (.aI (.c (.str [105,109,97,103,101])))])))⟩
def fn264:aq:=⟨13,2,[(4,none)],(.s [.p 2 0,.o 4 (.aI (.c (.str [])))] (.r [.y 5 (.aR 4 (.t 2)),.j 6 5,.y 7 (.load (some 7) (.t 2)),.w 8 1,.y 9 (.call (.f 55) [.t 7,.t 8]),.h 10 4 6 9,.a 11 1 10,.l 12 11,.m 4 12]))⟩
def fn265:aq:=⟨21,2,[(4,none)],(.s [.p 2 0,.o 4 (.aI .F)] (.seq (.s [.o 5 (.aI .z)] (.block 0 (.loop (.seq (.s [.m 6 5,.a 7 6 2,.l 8 7,.n 9 8,.u 10 .lss 6 9] (.i 10 .skip (.exit 0))) (.seq (.block 1 (.s [.a 13 6 2,.l 14 13,.m 15 5,.h 16 4 14 15,.a 17 1 16,.l 18 17,.m 19 1,.u 20 .eql 18 19] (.j 20 [.o 4 (.aI .T)]))) (.ops [.m 11 5,.v 12 .add 11 .w,.m 5 12])))))) (.r [.o 4 (.aI .F)])))⟩
def fn266:aq:=⟨19,2,[(4,none)],(.s [.o 4 (.aI .z)] (.seq (.s [.m 6 0,.n 7 6,.o 8 (.aI .z)] (.block 0 (.loop (.s [.u 9 .lss 8 7] (.seq (.i 9 .skip (.exit 0)) (.seq (.block 1 (.s [.m 10 8,.m 5 10] (.s [.m 11 1,.m 12 0,.m 13 5,.h 14 1 12 13,.l 15 14,.u 16 .eql 11 15] (.j 16 [.m 17 5,.m 4 17])))) (.ops [.v 18 .add 8 .w,.m 8 18]))))))) (.r [.o 4 (.aI (.n (-1)))])))⟩
def fn267:aq:=⟨30,2,[(4,none),(5,none)],(.s [.o 4 (.aI (.c (.int .u64 0))),.o 5 (.aI (.c (.int .u64 0)))] (.seq (.cond .F (.s [.m 11 0,.o 12 (.conv (.ub .u32) (.t 11)),.m 13 1,.o 14 (.conv (.ub .u32) (.t 13)),.c 15 285 [.t 12,.t 14],.m 10 15,.e 16 10 0,.e 17 10 1,.m 6 16,.m 7 17] (.r [.m 18 6,.o 19 (.conv (.ub .u64) (.t 18)),.m 20 7,.o 21 (.conv (.ub .u64) (.t 20)),.m 4 19,.m 5 21])) .skip) (.s [.m 23 0,.m 24 1,.c 25 286 [.t 23,.t 24],.m 22 25,.e 26 22 0,.e 27 22 1,.m 8 26,.m 9 27] (.r [.m 28 8,.m 29 9,.m 4 28,.m 5 29]))))⟩
def fn268:aq:=pN 238
def fn269:aq:=yp
def fn272:aq:=zt 288
def fn286:aq:=⟨51,2,[(4,none),(5,none)],(.s [.o 4 (.aI (.c (.int .u64 0))),.o 5 (.aI (.c (.int .u64 0)))] (.s [.m 14 0,.v 15 .and 14 (.c (.int .u64 4294967295)),.m 6 15] (.s [.m 16 0,.v 17 .shr 16 (.c (.int .u64 32)),.m 7 17] (.s [.m 18 1,.v 19 .and 18 (.c (.int .u64 4294967295)),.m 8 19] (.s [.m 20 1,.v 21 .shr 20 (.c (.int .u64 32)),.m 9 21] (.s [.m 22 6,.m 23 8,.u 24 .mul 22 23,.m 10 24] (.s [.m 25 7,.m 26 8,.u 27 .mul 25 26,.m 28 10,.v 29 .shr 28 (.c (.int .u64 32)),.u 30 .add 27 29,.m 11 30] (.s [.m 31 11,.v 32 .and 31 (.c (.int .u64 4294967295)),.m 12 32] (.s [.m 33 11,.v 34 .shr 33 (.c (.int .u64 32)),.m 13 34] (.s [.m 35 12,.m 36 6,.m 37 9,.u 38 .mul 36 37,.u 39 .add 35 38,.m 12 39] (.s [.m 40 7,.m 41 9,.u 42 .mul 40 41,.m 43 13,.u 44 .add 42 43,.m 45 12,.v 46 .shr 45 (.c (.int .u64 32)),.u 47 .add 44 46,.m 4 47] (.r [.m 48 0,.m 49 1,.u 50 .mul 48 49,.m 5 50]))))))))))))⟩
def fn322:aq:=kO
def fn323:aq:=kO
def fn324:aq:=kO
abbrev Cf(P:Program)(n:Nat)(A:aq):Prop:=bV P n=some A
structure fI(P:Program):Prop where
 mix:P.follows .mixedOrders=true
 m123:iL P 78 "moveout/house.name" =some 123
 m322:iL P 73 "moveout/house.name" =some 322
 m140:iL P 74 "moveout/house.name" =some 140
 m120:iL P 134 "moveout/house.name" =some 120
 m324:iL P 136 "moveout/house.name" =some 324
 m323:iL P 130 "moveout/house.name" =some 323
 c2:Cf P 2 fn2
 c3:Cf P 3 fn3
 c4:Cf P 4 fn4
 c9:Cf P 9 fn9
 c14:Cf P 14 fn14
 c15:Cf P 15 fn15
 c16:Cf P 16 fn16
 c17:Cf P 17 fn17
 c18:Cf P 18 fn18
 c19:Cf P 19 fn19
 c20:Cf P 20 fn20
 c21:Cf P 21 fn21
 c22:Cf P 22 fn22
 c23:Cf P 23 fn23
 c25:Cf P 25 fn25
 c26:Cf P 26 fn26
 c27:Cf P 27 fn27
 c28:Cf P 28 fn28
 c31:Cf P 31 fn31
 c35:Cf P 35 fn35
 c37:Cf P 37 fn37
 c39:Cf P 39 fn39
 c43:Cf P 43 fn43
 c44:Cf P 44 fn44
 c45:Cf P 45 fn45
 c51:Cf P 51 fn51
 c52:Cf P 52 fn52
 c53:Cf P 53 fn53
 c54:Cf P 54 fn54
 c55:Cf P 55 fn55
 c56:Cf P 56 fn56
 c57:Cf P 57 fn57
 c58:Cf P 58 fn58
 c59:Cf P 59 fn59
 c60:Cf P 60 fn60
 c61:Cf P 61 fn61
 c62:Cf P 62 fn62
 c64:Cf P 64 fn64
 c67:Cf P 67 fn67
 c70:Cf P 70 fn70
 c71:Cf P 71 fn71
 c72:Cf P 72 fn72
 c73:Cf P 73 fn73
 c74:Cf P 74 fn74
 c75:Cf P 75 fn75
 c76:Cf P 76 fn76
 c77:Cf P 77 fn77
 c78:Cf P 78 fn78
 c79:Cf P 79 fn79
 c80:Cf P 80 fn80
 c81:Cf P 81 fn81
 c82:Cf P 82 fn82
 c83:Cf P 83 fn83
 c84:Cf P 84 fn84
 c85:Cf P 85 fn85
 c86:Cf P 86 fn86
 c87:Cf P 87 fn87
 c88:Cf P 88 fn88
 c89:Cf P 89 fn89
 c90:Cf P 90 fn90
 c91:Cf P 91 fn91
 c92:Cf P 92 fn92
 c93:Cf P 93 fn93
 c94:Cf P 94 fn94
 c95:Cf P 95 fn95
 c96:Cf P 96 fn96
 c97:Cf P 97 fn97
 c98:Cf P 98 fn98
 c99:Cf P 99 fn99
 c101:Cf P 101 fn101
 c102:Cf P 102 fn102
 c108:Cf P 108 fn108
 c109:Cf P 109 fn109
 c110:Cf P 110 fn110
 c111:Cf P 111 fn111
 c112:Cf P 112 fn112
 c113:Cf P 113 fn113
 c114:Cf P 114 fn114
 c115:Cf P 115 fn115
 c116:Cf P 116 fn116
 c117:Cf P 117 fn117
 c118:Cf P 118 fn118
 c119:Cf P 119 fn119
 c120:Cf P 120 fn120
 c121:Cf P 121 fn121
 c122:Cf P 122 fn122
 c123:Cf P 123 fn123
 c124:Cf P 124 fn124
 c125:Cf P 125 fn125
 c126:Cf P 126 fn126
 c127:Cf P 127 fn127
 c128:Cf P 128 fn128
 c129:Cf P 129 fn129
 c130:Cf P 130 fn130
 c131:Cf P 131 fn131
 c132:Cf P 132 fn132
 c133:Cf P 133 fn133
 c134:Cf P 134 fn134
 c135:Cf P 135 fn135
 c136:Cf P 136 fn136
 c137:Cf P 137 fn137
 c138:Cf P 138 fn138
 c139:Cf P 139 fn139
 c140:Cf P 140 fn140
 c141:Cf P 141 fn141
 c142:Cf P 142 fn142
 c143:Cf P 143 fn143
 c144:Cf P 144 fn144
 c145:Cf P 145 fn145
 c146:Cf P 146 fn146
 c147:Cf P 147 fn147
 c148:Cf P 148 fn148
 c149:Cf P 149 fn149
 c150:Cf P 150 fn150
 c151:Cf P 151 fn151
 c152:Cf P 152 fn152
 c153:Cf P 153 fn153
 c154:Cf P 154 fn154
 c155:Cf P 155 fn155
 c156:Cf P 156 fn156
 c157:Cf P 157 fn157
 c158:Cf P 158 fn158
 c159:Cf P 159 fn159
 c160:Cf P 160 fn160
 c161:Cf P 161 fn161
 c162:Cf P 162 fn162
 c163:Cf P 163 fn163
 c164:Cf P 164 fn164
 c165:Cf P 165 fn165
 c166:Cf P 166 fn166
 c167:Cf P 167 fn167
 c168:Cf P 168 fn168
 c169:Cf P 169 fn169
 c170:Cf P 170 fn170
 c171:Cf P 171 fn171
 c172:Cf P 172 fn172
 c173:Cf P 173 fn173
 c174:Cf P 174 fn174
 c175:Cf P 175 fn175
 c176:Cf P 176 fn176
 c177:Cf P 177 fn177
 c178:Cf P 178 fn178
 c179:Cf P 179 fn179
 c180:Cf P 180 fn180
 c181:Cf P 181 fn181
 c182:Cf P 182 fn182
 c183:Cf P 183 fn183
 c184:Cf P 184 fn184
 c185:Cf P 185 fn185
 c186:Cf P 186 fn186
 c187:Cf P 187 fn187
 c188:Cf P 188 fn188
 c189:Cf P 189 fn189
 c190:Cf P 190 fn190
 c193:Cf P 193 fn193
 c194:Cf P 194 fn194
 c195:Cf P 195 fn195
 c197:Cf P 197 fn197
 c198:Cf P 198 fn198
 c199:Cf P 199 fn199
 c200:Cf P 200 fn200
 c201:Cf P 201 fn201
 c202:Cf P 202 fn202
 c203:Cf P 203 fn203
 c204:Cf P 204 fn204
 c205:Cf P 205 fn205
 c206:Cf P 206 fn206
 c207:Cf P 207 fn207
 c208:Cf P 208 fn208
 c213:Cf P 213 fn213
 c214:Cf P 214 fn214
 c215:Cf P 215 fn215
 c216:Cf P 216 fn216
 c217:Cf P 217 fn217
 c218:Cf P 218 fn218
 c219:Cf P 219 fn219
 c221:Cf P 221 fn221
 c222:Cf P 222 fn222
 c223:Cf P 223 fn223
 c224:Cf P 224 fn224
 c225:Cf P 225 fn225
 c226:Cf P 226 fn226
 c227:Cf P 227 fn227
 c228:Cf P 228 fn228
 c229:Cf P 229 fn229
 c230:Cf P 230 fn230
 c231:Cf P 231 fn231
 c232:Cf P 232 fn232
 c233:Cf P 233 fn233
 c234:Cf P 234 fn234
 c235:Cf P 235 fn235
 c236:Cf P 236 fn236
 c237:Cf P 237 fn237
 c238:Cf P 238 fn238
 c239:Cf P 239 fn239
 c240:Cf P 240 fn240
 c241:Cf P 241 fn241
 c242:Cf P 242 fn242
 c243:Cf P 243 fn243
 c244:Cf P 244 fn244
 c245:Cf P 245 fn245
 c246:Cf P 246 fn246
 c247:Cf P 247 fn247
 c248:Cf P 248 fn248
 c249:Cf P 249 fn249
 c250:Cf P 250 fn250
 c251:Cf P 251 fn251
 c252:Cf P 252 fn252
 c253:Cf P 253 fn253
 c254:Cf P 254 fn254
 c255:Cf P 255 fn255
 c259:Cf P 259 fn259
 c263:Cf P 263 fn263
 c264:Cf P 264 fn264
 c265:Cf P 265 fn265
 c266:Cf P 266 fn266
 c267:Cf P 267 fn267
 c268:Cf P 268 fn268
 c269:Cf P 269 fn269
 c272:Cf P 272 fn272
 c286:Cf P 286 fn286
 c322:Cf P 322 fn322
 c323:Cf P 323 fn323
 c324:Cf P 324 fn324
end Go.Abs
