/- A part of the proof that HouseCopied holds. No condition. -/
import Derived.Test.YtgplmdgpmbegiaaGreatDoorCp3
import Derived.Test.YtgplmdgpmbegiaaGreatDoorProg
import Derived.Test.YtgplmdgpmbegiaaGreatDoorCp0
set_option linter.all false
namespace Go.Abs
def Ext(h h':ah):Prop:=∃g,h' =h++g
def Ext.refl(h:ah):Ext h h:=⟨[],Si⟩
def Ext.app{h k}(g:ah)(e:Ext h k):Ext h (k++g):=by
 obtain⟨x,rfl⟩:=e;exact⟨x++g,Si⟩
def Ext.trans{a b c}(h:Ext a b)(k:Ext b c):Ext a c:=by
 obtain⟨x,rfl⟩:=h;obtain⟨y,rfl⟩:=k;exact⟨x++y,Si⟩
def Ext.get{h k}(e:Ext h k){b}(hb:b<h.length):k[b]? =h[b]? :=by
 obtain⟨x,rfl⟩:=e;exact YT hb
theorem Ext.some{h k:ah}(e:Ext h k){b:Nat}{x:ak}(hb:h[b]? =some x):k[b]? =some x:=by
 rw[e.get (YQ.1 hb).1];exact hb
def Ext.len{h k}(e:Ext h k):h.length<=k.length:=by
 obtain⟨x,rfl⟩:=e;simp
def tO(P:Program)(q:Bool)(fv:AV)(args:List AV)(h:ah)(K:AV->ah->Prop):Prop:=
 ∃v h',fh P fv args h v h'/\(q=true->Ext h h')/\K v h'
def iT.quiet:iT->Bool
 |.au=>true
 |.push _=>true
 |_=>false
def iT.zO{e:iT}{h:ah}(he:e.quiet=true):Ext h (e.app h):=by
 cases e with
 |au=>exact Ext.refl h
 |push k=>exact⟨[k],rfl⟩
 |set b k=>cases he
 |nQ b k k'=>cases he
def WK(P:Program)(q:Bool)(k:pf)(ρ:cX->AV)(h:ah)(K:AV->ah->Prop):Prop:=
 match k with
 |.call f args=>tO P q (ρ f) (args.map ρ) h K
 |k=>
  match stepT k ρ (λb=>h[b]?) h.length with
  |some (v,e)=>(q=true->e.quiet=true)/\K v (e.app h)
  |none=>False
def Cr(d:Option Nat)(k:pf)(n:Nat)(X:Prop):Prop:=
 match k,d with
 |.oE _ _,some d=>d<n/\X
 |_,_=>X
def qw{d k n}{X:Prop}:Cr d k n X↔ue d k n/\X:=by
 cases k<;>cases d<;>simp[Cr,ue]
def Cr.mono{d k n}{X Y:Prop}(h:X->Y)(x:Cr d k n X):Cr d k n Y:=qw.2 ⟨(qw.1 x).1,h (qw.1 x).2⟩
def WS(P:Program)(o:bI)(ts:TS)(h:ah)(K:AV->ah->Prop):Prop:=
 match o.gd with
 |none=>Cr o.dst o.k ts.length (WK P o.q o.k (val ts) h K)
 |some (t,b)=>
  match val ts (.t t)with
  |.bool c=>if c=b then Cr o.dst o.k ts.length (WK P o.q o.k (val ts) h K)else K az h
  |_=>K az h
def WO(P:Program):List bI->TS->ah->(TS->ah->Prop)->Prop
 |[],ts,h,Q=>Q ts h
 |o::r,ts,h,Q=>WS P o ts h (λv h1=>WO P r (put ts o.dst v) h1 Q)
def WK.sound{P:Program}{q:Bool}{k:pf}{ρ:cX->AV}{h:ah}{K:AV->ah->Prop}(H:WK P q k ρ h K):∃v h',pL P k ρ h v h'/\(q=true->Ext h h')/\K v h':=by
 by_cases hc:∃f args,k=.call f args
 ·obtain⟨f,args,rfl⟩:=hc;exact H
 ·have H':(match stepT k ρ (λb=>h[b]?) h.length with
   |some (v,e)=>(q=true->e.quiet=true)/\K v (e.app h)
   |none=>False):=by
   exact z206
  split at H'
  case h_2=>exact H'.elim
  rename_i v e he;refine⟨v,e.app h,?_,λhq=>iT.zO (H'.1 hq),H'.2⟩;have:=nL he;cases k<;>first|exact this|exact absurd ⟨_,_,rfl⟩ hc
theorem WS.sound{P o ts h K}(H:WS P o ts h K):∃v h',dB P o ts h (put ts o.dst v) h'/\(o.q=true->∃g,h' =h++g)/\K v h':=by
 have run:wanted o.gd ts->Cr o.dst o.k ts.length (WK P o.q o.k (val ts) h K)->∃v h',dB P o ts h (put ts o.dst v) h'/\(o.q=true->∃g,h' =h++g)/\K v h':=λhw hk=>by
  obtain⟨hb,hk⟩:=qw.1 hk;obtain⟨v,h',h1,h2,h3⟩:=hk.sound;exact⟨v,h',.run hw hb h1,h2,h3⟩
 have skip:¬wanted o.gd ts->K az h->∃v h',dB P o ts h (put ts o.dst v) h'/\(o.q=true->∃g,h' =h++g)/\K v h':=λhw hk=>
  ⟨az,h,.skip hw,λ_=>Ext.refl h,hk⟩
 unfold WS at H;split at H
 ·rename_i hg;exact run (by rw[hg];trivial) H
 ·rename_i t b hg;split at H
  ·rename_i c hv;have hx:ts[t]? =some (.bool c):=by
    simp only[val,List.getD]at hv;cases hy:ts[t]? with
    |none=>rw[hy]at hv;cases hv
    |some z=>rw[hy]at hv;simp only[aa6]at hv;rw[hv]
   split at H
   ·rename_i hcb;subst hcb;exact run (by rw[hg];exact hx) H
   ·rename_i hcb;refine skip (λhw=>hcb ?_) H;rw[hg]at hw;simp only[wanted,hx,Zu,AV.bool.injEq]at hw;exact hw
  ·rename_i hv;refine skip (λhw=>?_) H;rw[hg]at hw;simp only[wanted]at hw;exact hv b (by simp[val,List.getD,hw])
theorem WO.sound{P}:∀{l}{ts}{h}{Q},WO P l ts h Q->∃ts' h',yr P l ts h ts' h'/\Q ts' h'
 |[],ts,h,Q,H=>⟨ts,h,⟨rfl,rfl⟩,H⟩
 |o::r,ts,h,Q,H=>by
  obtain⟨v,h1,h2,h3,h4⟩:=WS.sound H;obtain⟨ts',h',h5,h6⟩:=WO.sound (l:=r) h4;exact⟨ts',h',⟨_,h1,h2,h3,h5⟩,h6⟩
def WM(P:Program)(S:ah->Prop):List bI->TS->ah->(TS->ah->Prop)->Prop
 |[],ts,h,K=>S h/\K ts h
 |o::r,ts,h,K=>S h/\((kF (o::r)=true/\WO P (o::r) ts h K)\/(kF (o::r)=false/\
   ((mK o=true/\∃v,(∀g,S g->dB P o ts g (put ts o.dst v) g)/\WM P S r (put ts o.dst v) h K)\/(mK o=false/\WS P o ts h (λv h1=>WM P S r (put ts o.dst v) h1 K)))))
theorem WM.sound{P S}:∀{l}{ts}{h}{K},WM P S l ts h K->∃T H,Row P l T H/\T 0=ts/\H 0=h/\(∀(i:Nat) (io:bI),l[i]? =some io->mK io=true->∀g,S g->dB P io (T i) g (T (i+1)) g)/\(∀θ,θ<=dK l->S (H θ))/\K (T l.length) (H l.length)
 |[],ts,h,K,H=>⟨λ_=>ts,λ_=>h,⟨λi o ho=>by simp at ho⟩,rfl,rfl,λi io ho=>by simp at ho,λ_ _=>H.1,H.2⟩
 |o::r,ts,h,K,H=>by
  obtain⟨h0,H⟩:=H;rcases H with⟨hall,H⟩|⟨hall,H⟩
  ·obtain⟨ts',h',h1,h2⟩:=WO.sound H;obtain⟨T,G,rfl,rfl,rfl,rfl,r5⟩:=h1.row;refine⟨T,G,r5,rfl,rfl,λi io hio hld=>?_,λθ hθ=>?_,h2⟩
   ·have:=Zy.1 (Bool.and_eq_true_iff.1 hall).1 io (ZT hio);unfold mK at hld;unfold Ci at this;cases hk:io.k<;>rw[hk]at hld this<;>simp[fu]at hld this
   ·rw[dK,Zb hall]at hθ;have:θ=0:=Om
    subst this;exact h0
  have key:∃v h1,dB P o ts h (put ts o.dst v) h1/\(o.q=true->∃g,h1=h++g)/\(mK o=true->∀g,S g->dB P o ts g (put ts o.dst v) g)/\WM P S r (put ts o.dst v) h1 K:=by
   rcases H with⟨hl,v,h1,h2⟩|⟨hl,H⟩
   ·exact⟨v,h,h1 h h0,λ_=>⟨[],Si⟩,λ_=>h1,h2⟩
   ·obtain⟨v,h1,h2,h3,h4⟩:=WS.sound H;refine⟨v,h1,h2,h3,λz=>?_,h4⟩;rw[hl]at z;cases z
  obtain⟨v,h1,k1,k2,k3,k4⟩:=key;obtain⟨T,G,r1,r2,r3,r4,r5,r6⟩:=WM.sound (l:=r) k4
  let T':Nat->TS:=λn=>match n with| 0=>ts|n+1=>T n
  let G':Nat->ah:=λn=>match n with| 0=>h|n+1=>G n
  refine⟨T',G',⟨λi o' ho=>?_⟩,rfl,rfl,λi io hio hld g hg=>?_,λθ hθ=>?_,r6⟩
  ·cases i with
   |zero=>
    simp only[Z7,Zu]at ho;subst ho;show dB P o ts h (T 0) (G 0)/\(o.q=true->∃g,G 0=h++g);rw[r2,r3];exact⟨k1,k2⟩
   |succ i=>exact r1.step i o' (by simpa using ho)
  ·cases i with
   |zero=>
    simp only[Z7,Zu]at hio;subst hio;show dB P o ts g (T 0) g;rw[r2];exact k3 hld g hg
   |succ i=>exact r4 i io (by simpa using hio) hld g hg
  ·cases θ with
   |zero=>exact h0
   |succ θ=>
    rw[dK,Y6 (by rw[hall];decide)]at hθ;exact r5 θ Om
def W(P:Program)(ro:Option Nat->Prop):ai->TS->ah->(Ex->TS->ah->Prop)->Prop
 |.skip,ts,h,Q=>Q .normal ts h
 |.ops l,ts,h,Q=>WO P l ts h (Q .normal)
 |.sf l,ts,h,Q=>AX h l ts [] λts' cs=>e8 cs/\Q .normal ts' (dP h cs)
 |.mD l,ts,h,Q=>∃S,WM P S l ts h (Q .normal)
 |.seq a b,ts,h,Q=>W P ro a ts h λe Tt h1=>
  match e with
  |.normal=>W P ro b Tt h1 Q
  |.exit id=>Q (.exit id) Tt h1
  |.ret=>Q .ret Tt h1
 |.cond c a b,ts,h,Q=>
  match val ts c with
  |.bool t=>(t=true->W P ro a ts h Q)/\(t=false->W P ro b ts h Q)
  |_=>False
 |.block id a,ts,h,Q=>W P ro a ts h λe=>Q (e.inBlock id)
 |.loop a,ts,h,Q=>∃e ts' h',(∀r,ro r->tM P r a ts h e ts' h')/\Q e ts' h'
 |.exit id,ts,h,Q=>Q (.exit id) ts h
 |.ret,ts,h,Q=>Q .ret ts h
 |.fL g ps asg body,ts,h,Q=>∃e ts' h',(∀r,ro r->Ev P r (.fL g ps asg body) ts h e ts' h')/\Q e ts' h'
 |.bad,_,_,_=>False
def bL:Option Nat->Prop:=λr=>r=none
def Cq:Option Nat->Prop:=λr=>∃l,r=some l
theorem W.sound{P}(hmix:P.follows .mixedOrders=true){ro}:∀{c}{ts}{h}{Q},W P ro c ts h Q->∃e ts' h',(∀r,ro r->Ev P r c ts h e ts' h')/\Q e ts' h'
 |.skip,ts,h,Q,H=>⟨.normal,ts,h,λ_ _=>.skip,H⟩
 |.ops l,ts,h,Q,H=>by
  obtain⟨ts',h',h1,h2⟩:=WO.sound (l:=l) H;exact⟨.normal,ts',h',λ_ _=>.ops hmix h1,h2⟩
 |.sf l,ts,h,Q,H=>by
  obtain⟨UK,YN,ts',h1,⟨h2,h3⟩,h4,h5⟩:=AX.sound (l:=l) H;rw[aaz]at h2 h3;exact⟨.normal,ts',dP h UK,λ_ _=>.sf hmix h1 (by simpa using h4 [] [] (by simpa using h2)),by rw[h5];exact h3⟩
 |.mD l,ts,h,Q,H=>by
  obtain⟨S,H⟩:=H;obtain⟨T,G,r1,rfl,rfl,r4,r5,r6⟩:=WM.sound (l:=l) H;exact⟨.normal,_,_,λ_ _=>.mD hmix r1 λi io hio hld θ hθ=>r4 i io hio hld _ (r5 θ hθ),r6⟩
 |.seq a b,ts,h,Q,H=>by
  obtain⟨e,Tt,h1,h2,h3⟩:=W.sound hmix (c:=a) H;cases e with
  |normal=>
   obtain⟨e,ts',h',h4,h5⟩:=W.sound hmix (c:=b) h3;exact⟨e,ts',h',λr hr=>.seq (h2 r hr) (h4 r hr),h5⟩
  |exit id=>exact⟨_,Tt,h1,λr hr=>.vi (h2 r hr) Si,h3⟩
  |ret=>exact⟨_,Tt,h1,λr hr=>.vi (h2 r hr) Si,h3⟩
 |.cond c a b,ts,h,Q,H=>by
  unfold W at H;split at H
  case h_2=>exact H.elim
  rename_i t hv;cases t with
  |true=>
   obtain⟨e,ts',h',h4,h5⟩:=W.sound hmix (c:=a) (H.1 rfl);exact⟨e,ts',h',λr hr=>.cond hv (h4 r hr),h5⟩
  |false=>
   obtain⟨e,ts',h',h4,h5⟩:=W.sound hmix (c:=b) (H.2 rfl);exact⟨e,ts',h',λr hr=>.cond hv (h4 r hr),h5⟩
 |.block id a,ts,h,Q,H=>by
  obtain⟨e,ts',h',h4,h5⟩:=W.sound hmix (c:=a) H;exact⟨_,ts',h',λr hr=>.block (h4 r hr),h5⟩
 |.loop a,ts,h,Q,H=>by
  obtain⟨e,ts',h',h4,h5⟩:=H;exact⟨e,ts',h',λr hr=>.loop (h4 r hr),h5⟩
 |.exit id,ts,h,Q,H=>⟨_,ts,h,λ_ _=>.exit,H⟩
 |.ret,ts,h,Q,H=>⟨_,ts,h,λ_ _=>.ret,H⟩
 |.fL g ps asg body,ts,h,Q,H=>H
 |.bad,ts,h,Q,H=>H.elim
def tO.mono{P q fv args h K K'}(H:tO P q fv args h K)(hk:∀v h',K v h'->K' v h'):tO P q fv args h K':=by
 obtain⟨v,h',h1,h2,h3⟩:=H;exact⟨v,h',h1,h2,hk v h' h3⟩
theorem WK.mono{P q k ρ h K K'}(H:WK P q k ρ h K)(hk:∀v h',K v h'->K' v h'):WK P q k ρ h K':=by
 by_cases hc:∃f args,k=.call f args
 ·obtain⟨f,args,rfl⟩:=hc;exact tO.mono H hk
 ·have H':(match stepT k ρ (λb=>h[b]?) h.length with
   |some (v,e)=>(q=true->e.quiet=true)/\K v (e.app h)
   |none=>False):=by
   exact z206
  have G':(match stepT k ρ (λb=>h[b]?) h.length with
   |some (v,e)=>(q=true->e.quiet=true)/\K' v (e.app h)
   |none=>False):=by
   split at H'
   case h_2=>exact H'.elim
   exact⟨H'.1,hk _ _ H'.2⟩
  cases k<;>first|exact G'|exact absurd ⟨_,_,rfl⟩ hc
theorem WS.mono{P o ts h K K'}(H:WS P o ts h K)(hk:∀v h',K v h'->K' v h'):WS P o ts h K':=by
 unfold WS at H ⊢;cases hg:o.gd with
 |none=>rw[hg]at H;exact Cr.mono (λz=>WK.mono z hk) H
 |some p=>
  obtain⟨t,b⟩:=p;rw[hg]at H;simp only at H ⊢;cases hv:val ts (.t t)with
  |bool c=>
   rw[hv]at H;simp only at H ⊢;by_cases hcb:c=b
   ·rw[Zb hcb]at H ⊢;exact Cr.mono (λz=>WK.mono z hk) H
   ·rw[Y6 hcb]at H ⊢;exact hk _ _ H
  |_=>rw[hv]at H;exact hk _ _ H
theorem WO.mono{P}:∀{l}{ts}{h}{Q Q'},WO P l ts h Q->(∀ts' h',Q ts' h'->Q' ts' h')->WO P l ts h Q'
 |[],ts,h,Q,Q',H,hq=>hq _ _ H
 |o::r,ts,h,Q,Q',H,hq=>WS.mono (o:=o) H λv h1 h2=>WO.mono (l:=r) h2 hq
theorem WM.mono{P S}:∀{l}{ts}{h}{K K'},WM P S l ts h K->(∀ts' h',K ts' h'->K' ts' h')->WM P S l ts h K'
 |[],ts,h,K,K',H,hk=>⟨H.1,hk _ _ H.2⟩
 |o::r,ts,h,K,K',H,hk=>by
  obtain⟨h0,H⟩:=H;refine⟨h0,?_⟩;rcases H with⟨ha,H⟩|⟨ha,H⟩
  ·exact .inl ⟨ha,WO.mono (l:=o::r) H hk⟩
  refine .inr ⟨ha,?_⟩;rcases H with⟨hl,v,h1,h2⟩|⟨hl,H⟩
  ·exact .inl ⟨hl,v,h1,WM.mono (l:=r) h2 hk⟩
  ·exact .inr ⟨hl,WS.mono (o:=o) H λv h1 h2=>WM.mono (l:=r) h2 hk⟩
theorem W.mono{P ro}:∀{c}{ts}{h}{Q Q'},W P ro c ts h Q->(∀e ts' h',Q e ts' h'->Q' e ts' h')->W P ro c ts h Q'
 |.skip,ts,h,Q,Q',H,hq=>hq _ _ _ H
 |.ops l,ts,h,Q,Q',H,hq=>WO.mono (l:=l) H (hq .normal)
 |.sf l,ts,h,Q,Q',H,hq=>AX.mono (l:=l) H λts' cs h1=>⟨h1.1,hq _ _ _ h1.2⟩
 |.mD l,ts,h,Q,Q',H,hq=>by obtain⟨S,H⟩:=H;exact⟨S,WM.mono (l:=l) H (hq .normal)⟩
 |.seq a b,ts,h,Q,Q',H,hq=>W.mono (c:=a) H λe Tt h1 h2=>by
  cases e with
  |normal=>exact W.mono (c:=b) h2 hq
  |exit id=>exact hq _ _ _ h2
  |ret=>exact hq _ _ _ h2
 |.cond c a b,ts,h,Q,Q',H,hq=>by
  unfold W at H ⊢;split at H
  case h_2=>exact H.elim
  exact⟨λh=>W.mono (c:=a) (H.1 h) hq,λh=>W.mono (c:=b) (H.2 h) hq⟩
 |.block id a,ts,h,Q,Q',H,hq=>W.mono (c:=a) H λe Tt h1 h2=>hq _ _ _ h2
 |.loop a,ts,h,Q,Q',H,hq=>by obtain⟨e,ts',h',h4,h5⟩:=H;exact⟨e,ts',h',h4,hq _ _ _ h5⟩
 |.exit id,ts,h,Q,Q',H,hq=>hq _ _ _ H
 |.ret,ts,h,Q,Q',H,hq=>hq _ _ _ H
 |.fL g ps asg body,ts,h,Q,Q',H,hq=>by obtain⟨e,ts',h',h4,h5⟩:=H;exact⟨e,ts',h',h4,hq _ _ _ h5⟩
 |.bad,ts,h,Q,Q',H,hq=>H.elim
inductive Kt where
 |zE (b:ai)
 |rO (id:Nat)
def kq(P:Program)(ro:Option Nat->Prop):List Kt->(Ex->TS->ah->Prop)->Ex->TS->ah->Prop
 |[],Q,e,ts,h=>Q e ts h
 |.zE b::ks,Q,e,ts,h=>
  match e with
  |.normal=>W P ro b ts h (kq P ro ks Q)
  |.exit id=>kq P ro ks Q (.exit id) ts h
  |.ret=>kq P ro ks Q .ret ts h
 |.rO id::ks,Q,e,ts,h=>kq P ro ks Q (e.inBlock id) ts h
section
variable (P:Program) (ro:Option Nat->Prop)
def WC(c:ai)(ks:List Kt)(ts:TS)(h:ah)(Q:Ex->TS->ah->Prop):Prop:=W P ro c ts h (kq P ro ks Q)
def WE(e:Ex)(ks:List Kt)(ts:TS)(h:ah)(Q:Ex->TS->ah->Prop):Prop:=kq P ro ks Q e ts h
def WP(l:List bI)(ks:List Kt)(ts:TS)(h:ah)(Q:Ex->TS->ah->Prop):Prop:=WO P l ts h (kq P ro ks Q .normal)
def WG(g:AV)(b:Bool)(q:Bool)(k:pf)(dst:Option Nat)(l:List bI)(ks:List Kt)(ts:TS)(h:ah)(Q:Ex->TS->ah->Prop):Prop:=
 match g with
 |.bool c=>if c=b then Cr dst k ts.length (WK P q k (val ts) h (λv h1=>WP P ro l ks (put ts dst v) h1 Q))else WP P ro l ks (put ts dst az) h Q
 |_=>WP P ro l ks (put ts dst az) h Q
def WR(r:Option (AV×iT))(q:Bool)(dst:Option Nat)(l:List bI)(ks:List Kt)(ts:TS)(h:ah)(Q:Ex->TS->ah->Prop):Prop:=
 match r with
 |some (v,e)=>(q=true->e.quiet=true)/\WP P ro l ks (put ts dst v) (e.app h) Q
 |none=>False
def WF(q:Bool)(fv:AV)(args:List AV)(dst:Option Nat)(l:List bI)(ks:List Kt)(ts:TS)(h:ah)(Q:Ex->TS->ah->Prop):Prop:=
 tO P q fv args h (λv h1=>WP P ro l ks (put ts dst v) h1 Q)
def WB(v:AV)(a b:ai)(ks:List Kt)(ts:TS)(h:ah)(Q:Ex->TS->ah->Prop):Prop:=
 match v with
 |.bool t=>(t=true->WC P ro a ks ts h Q)/\(t=false->WC P ro b ks ts h Q)
 |_=>False
def WL(a:ai)(ks:List Kt)(ts:TS)(h:ah)(Q:Ex->TS->ah->Prop):Prop:=WC P ro (.loop a) ks ts h Q
def fU(g:AV)(ps:List Nat)(asg body:ai)(ks:List Kt)(ts:TS)(h:ah)(Q:Ex->TS->ah->Prop):Prop:=
 ∃e ts' h',(∀r,ro r->∀g',val ts g' =g->Ev P r (.fL g' ps asg body) ts h e ts' h')/\WE P ro e ks ts' h' Q
end
def LQ(I:Nat->TS->ah->Prop)(n:Nat)(R:Ex->TS->ah->Prop):Ex->TS->ah->Prop
 |.normal,ts,h=>∃m,m<n/\I m ts h
 |.exit id,ts,h=>R (.exit id) ts h
 |.ret,ts,h=>R .ret ts h
def FQ(rs:List (Nat×Option (Option Nat)))(R:AV->ah->Prop):Ex->TS->ah->Prop:=λe ts h=>e.leaves=true/\∃v,cQ rs ts h=some v/\R v h
def F0(r:Option AV)(h:ah)(R:AV->ah->Prop):Prop:=
 match r with
 |some v=>R v h
 |none=>False
section
variable {P:Program}{ro:Option Nat->Prop}{ks:List Kt}{ts:TS}{h:ah}{Q:Ex->TS->ah->Prop}
def FW:WC P ro .skip ks ts h Q=WE P ro .normal ks ts h Q:=rfl
def rV{l}:WC P ro (.ops l) ks ts h Q=WP P ro l ks ts h Q:=rfl
def rT{a b}:WC P ro (.seq a b) ks ts h Q=WC P ro a (.zE b::ks) ts h Q:=by
 unfold WC;simp only[W];congr 1
def FZ{c a b}:WC P ro (.cond c a b) ks ts h Q=WB P ro (val ts c) a b ks ts h Q:=rfl
def Dh{id a}:WC P ro (.block id a) ks ts h Q=WC P ro a (.rO id::ks) ts h Q:=rfl
def FX{a}:WC P ro (.loop a) ks ts h Q=WL P ro a ks ts h Q:=rfl
def FY{id}:WC P ro (.exit id) ks ts h Q=WE P ro (.exit id) ks ts h Q:=rfl
def Ji:WC P ro .ret ks ts h Q=WE P ro .ret ks ts h Q:=rfl
def qE{b}:WE P ro .normal (.zE b::ks) ts h Q=WC P ro b ks ts h Q:=rfl
def FU{b id}:WE P ro (.exit id) (.zE b::ks) ts h Q=WE P ro (.exit id) ks ts h Q:=rfl
def FV{b}:WE P ro .ret (.zE b::ks) ts h Q=WE P ro .ret ks ts h Q:=rfl
def AM{id}:WE P ro .normal (.rO id::ks) ts h Q=WE P ro .normal ks ts h Q:=rfl
def AK{id Xr}:WE P ro (.exit Xr) (.rO id::ks) ts h Q=if Xr=id then WE P ro .normal ks ts h Q else WE P ro (.exit Xr) ks ts h Q:=by
 unfold WE;simp only[kq,Ex.inBlock];split<;>rfl
def AL{id}:WE P ro .ret (.rO id::ks) ts h Q=WE P ro .ret ks ts h Q:=rfl
def Jh{e}:WE P ro e [] ts h Q=Q e ts h:=rfl
def Dd:WP P ro [] ks ts h Q=WE P ro .normal ks ts h Q:=rfl
def jc{d k q l}(hk:∀f args,k≠.call f args)(hb:∀n x,k≠.oE n x):WP P ro ({dst:=d,k:=k,gd:=none,q:=q} ::l) ks ts h Q=WR P ro (stepT k (val ts) (λb=>h[b]?) h.length) q d l ks ts h Q:=by
 cases k<;>first|exact absurd rfl (hk _ _)|exact absurd rfl (hb _ _)|rfl
def FM{d f args q l}:WP P ro ({dst:=d,k:=.call f args,gd:=none,q:=q} ::l) ks ts h Q=WF P ro q (val ts f) (args.map (val ts)) d l ks ts h Q:=rfl
def MT{d k t b q l}:WP P ro ({dst:=d,k:=k,gd:=some (t,b),q:=q} ::l) ks ts h Q=WG P ro (val ts (.t t)) b q k d l ks ts h Q:=rfl
def zo{d k b q l}(c:Bool)(hc:c≠b):WG P ro (.bool c) b q k d l ks ts h Q=WP P ro l ks (put ts d az) h Q:=by
 simp only[WG,Y6 hc]
def yq{d k b q l}:WG P ro (.bool b) b q k d l ks ts h Q=WP P ro ({dst:=d,k:=k,gd:=none,q:=q} ::l) ks ts h Q:=by
 simp only[WG,Zb];rfl
def jm{v q d l}:WR P ro (some (v,.au)) q d l ks ts h Q=WP P ro l ks (put ts d v) h Q:=by
 simp only[WR,iT.quiet,iT.app,implies_true,abt]
def mz{v k q d l}:WR P ro (some (v,.push k)) q d l ks ts h Q=WP P ro l ks (put ts d v) (h++[k]) Q:=by
 simp only[WR,iT.quiet,iT.app,implies_true,abt]
def rR{v b k d l}:WR P ro (some (v,.set b k)) false d l ks ts h Q=WP P ro l ks (put ts d v) (h.set b k) Q:=by
 exact JS
def nE{v b k k' d l}:WR P ro (some (v,.nQ b k k')) false d l ks ts h Q=WP P ro l ks (put ts d v) (h.set b k++[k']) Q:=by
 exact JS
def zp{a b}:WB P ro (.bool true) a b ks ts h Q=WC P ro a ks ts h Q:=by simp[WB]
def wL{a b}:WB P ro (.bool false) a b ks ts h Q=WC P ro b ks ts h Q:=by simp[WB]
def Ql{I n R}:LQ I n R .normal ts h=∃m,m<n/\I m ts h:=rfl
def Qj{I n R id}:LQ I n R (.exit id) ts h=R (.exit id) ts h:=rfl
def Qk{I n R}:LQ I n R .ret ts h=R .ret ts h:=rfl
def Qo{rs R}:FQ rs R .normal ts h=F0 (cQ rs ts h) h R:=by
 exact JX
def Qn{rs R}:FQ rs R .ret ts h=F0 (cQ rs ts h) h R:=by
 exact JX
def F1{v R}:F0 (some v) h R=R v h:=rfl
def WL.inv(hmix:P.follows .mixedOrders=true){a}(I:Nat->TS->ah->Prop)(n:Nat)(h0:I n ts h)
  (step:∀(n:Nat) (ts:TS) (h:ah),I n ts h->WC P ro a [] ts h (LQ I n (λe ts h=>WE P ro e ks ts h Q))):WL P ro a ks ts h Q:=by
 have key:∀(k n:Nat) (ts:TS) (h:ah),n<=k->I n ts h->∃e ts' h',(∀r,ro r->tM P r a ts h e ts' h')/\kq P ro ks Q e ts' h':=by
  intro k
  induction k with
  |zero=>
   intro n ts h hn hi;obtain⟨e,ts',h',h1,h2⟩:=W.sound hmix (step n ts h hi);cases e with
   |normal=>obtain⟨m,hm,_⟩:=h2;omega
   |exit id=>exact⟨_,ts',h',λr hr=>.out (h1 r hr) Si,h2⟩
   |ret=>exact⟨_,ts',h',λr hr=>.out (h1 r hr) Si,h2⟩
  |succ k ih=>
   intro n ts h hn hi;obtain⟨e,ts',h',h1,h2⟩:=W.sound hmix (step n ts h hi);cases e with
   |normal=>
    obtain⟨m,hm,hi'⟩:=h2;obtain⟨e2,U1,h3,h4,h5⟩:=ih m ts' h' Om hi';exact⟨e2,U1,h3,λr hr=>.more (h1 r hr) (h4 r hr),h5⟩
   |exit id=>exact⟨_,ts',h',λr hr=>.out (h1 r hr) Si,h2⟩
   |ret=>exact⟨_,ts',h',λr hr=>.out (h1 r hr) Si,h2⟩
 exact key n n ts h (Y9 _) h0
def WC.cut{a}(R:Ex->TS->ah->Prop)(h1:WC P ro a [] ts h R)(h2:∀e ts h,R e ts h->WE P ro e ks ts h Q):WC P ro a ks ts h Q:=
 W.mono (c:=a) h1 h2
def ay(P:Program)(f:FuncId)(args:List AV)(h:ah)(R:AV->ah->Prop):Prop:=∃v g,lP P f args h v (h++g)/\R v (h++g)
def bF(P:Program)(fv:AV)(args:List AV)(h:ah)(R:AV->ah->Prop):Prop:=∃v g,fh P fv args h v (h++g)/\R v (h++g)
def dm(P:Program)(f:FuncId)(args:List AV)(h:ah)(R:AV->ah->Prop):Prop:=∃v h',lP P f args h v h'/\R v h'
def dm.of(hmix:P.follows .mixedOrders=true){f A}(hA:bQ P f=some A){args R}
  (H:WC P bL A.body [] (aR A.nt args) h (FQ A.rs R)):dm P f args h R:=by
 obtain⟨e,ts',h',h1,h2,v,h3,h4⟩:=W.sound hmix H;exact⟨v,h',.Lg hA (h1 none rfl) h2 h3,h4⟩
theorem ay.of(hmix:P.follows .mixedOrders=true){f A}(hA:bQ P f=some A){args R}
  (H:WC P bL A.body [] (aR A.nt args) h (FQ A.rs (λv h'=>Ext h h'/\R v h'))):ay P f args h R:=by
 obtain⟨v,h',h1,⟨g,rfl⟩,h3⟩:=dm.of hmix hA H;exact⟨v,g,h1,h3⟩
def ay.mono{f args R R'}(H:ay P f args h R)(hr:∀v g,R v (h++g)->R' v (h++g)):ay P f args h R':=by
 obtain⟨v,g,h1,h2⟩:=H;exact⟨v,g,h1,hr v g h2⟩
def bF.of{f A}(hA:bQ P f=some A){a c args R}(H:ay P f (a++args++c) h R):bF P (.func (.func f) a c) args h R:=by
 obtain⟨v,g,h1,h2⟩:=H;exact⟨v,g,.yT hA h1,h2⟩
def bF.zU{u:TypeId}{name f A}(hm:iW P u name=some f)(hA:bQ P f=some A){a args R}(H:ay P f (a::args) h R):bF P (.func (.method name) [] []) (.uM u a::args) h R:=by
 obtain⟨v,g,h1,h2⟩:=H;exact⟨v,g,.Ea hm hA h1,h2⟩
def WF.val{q fv args d l R}(H:bF P fv args h R)(K:∀v g,R v (h++g)->WP P ro l ks (put ts d v) (h++g) Q):WF P ro q fv args d l ks ts h Q:=by
 obtain⟨v,g,h1,h2⟩:=H;exact⟨v,h++g,h1,λ_=>⟨g,rfl⟩,K v g h2⟩
def WF.res{q f A}(hA:bQ P f=some A){a c args d l R}(H:ay P f (a++args++c) h R)(K:∀v g,R v (h++g)->WP P ro l ks (put ts d v) (h++g) Q):WF P ro q (.func (.func f) a c) args d l ks ts h Q:=
 WF.val (bF.of hA H) K
def WF.gen{f A}(hA:bQ P f=some A){a c args d l R}(H:dm P f (a++args++c) h R)(K:∀v h',R v h'->WP P ro l ks (put ts d v) h' Q):WF P ro false (.func (.func f) a c) args d l ks ts h Q:=by
 obtain⟨v,h',h1,h2⟩:=H;exact⟨v,h',.yT hA h1,(λhq=>absurd hq Si),K v h' h2⟩
end
end Go.Abs
namespace Go.Abs
inductive aH (h:ah):AV->Nat->List (List AV)->Prop
 |nil {es:Nat}:aH h .af es []
 |mk {b o es:Nat}{cs:List (List AV)}{c:List AV}{mu tl:Bool}(hb:h[b]? =some (.cells c mu tl)) (hf:(c.drop o).take (cs.length*es)=cs.flatten) (ho:o+cs.length*es<=c.length)
   (he:∀x∈cs,x.length=es):aH h (.slice b o cs.length es) es cs
inductive Fr (N:Nat) (h:ah):AV->Nat->List (List AV)->Prop
 |nil {es:Nat}:Fr N h .af es []
 |mk {b es:Nat}{cs:List (List AV)}{tl:Bool}(hN:N<=b) (hb:h[b]? =some (.cells cs.flatten true tl)) (he:∀x∈cs,x.length=es):Fr N h (.slice b 0 cs.length es) es cs
def AV.sb:AV->Nat
 |.slice b _ _ _=>b
 |_=>0
def AV.so:AV->Nat
 |.slice _ o _ _=>o
 |_=>0
theorem eG{es:Nat}:∀{cs:List (List AV)},(∀x∈cs,x.length=es)->cs.flatten.length=cs.length*es
 |[],_=>by simp
 |x::xs,he=>by
  have h1:=he x Si;have h2:=eG (cs:=xs) (λy hy=>he y (ZG _ hy));simp only[Z9,YP,YV,h1,h2,aaf];omega
theorem lK{es:Nat}:∀{cs:List (List AV)},(∀x∈cs,x.length=es)->∀{i:Nat}(hi:i<cs.length),(cs.flatten.drop (i*es)).take es=cs[i]
 |[],_,i,hi=>by simp at hi
 |x::xs,he,0,_=>by
  have h1:=he x Si;simp[<-h1]
 |x::xs,he,i+1,hi=>by
  have h1:=he x Si;have h2:=lK (cs:=xs) (λy hy=>he y (ZG _ hy)) (i:=i) (by simpa using hi);simp only[Z9,List.getElem_cons_succ,<-h2];congr 1;rw[aaf,Nat.add_comm,<-h1,List.drop_append];simp
def Fr.ba{N:Nat}{h:ah}{s:AV}{es:Nat}{cs:List (List AV)}(hs:Fr N h s es cs):aH h s es cs:=by
 cases hs with
 |nil=>exact .nil
 |mk hN hb he=>
  have hl:=eG he;exact .mk hb (by rw[aag,<-hl,ZA]) Om he
section
variable {h k:ah}{s:AV}{es:Nat}{cs:List (List AV)}
def aH.au(hs:aH h s es cs)(hk:∀b,b<h.length->(∀b0 o n e,s=.slice b0 o n e->b=b0)->k[b]? =h[b]?):aH k s es cs:=by
 cases hs with
 |nil=>exact .nil
 |mk hb hf ho he=>
  refine .mk ((hk _ (YQ.1 hb).1 λb0 o n e hx=>?_).trans hb) hf ho he;cases hx;rfl
def aH.ext(hs:aH h s es cs)(e:Ext h k):aH k s es cs:=hs.au λ_ hb _=>e.get hb
def aH.app(hs:aH h s es cs)(g:ah):aH (h++g) s es cs:=hs.ext ⟨g,rfl⟩
def Fr.au{N}(hs:Fr N h s es cs)(hk:∀b,b<h.length->(∀b0 o n e,s=.slice b0 o n e->b=b0)->k[b]? =h[b]?):Fr N k s es cs:=by
 cases hs with
 |nil=>exact .nil
 |mk hN hb he=>
  refine .mk hN ((hk _ (YQ.1 hb).1 λb0 o n e hx=>?_).trans hb) he;cases hx;rfl
def Fr.ext{N}(hs:Fr N h s es cs)(e:Ext h k):Fr N k s es cs:=hs.au λ_ hb _=>e.get hb
def Fr.app{N}(hs:Fr N h s es cs)(g:ah):Fr N (h++g) s es cs:=hs.ext ⟨g,rfl⟩
def Fr.low{N M}(hs:Fr N h s es cs)(hM:M<=N):Fr M h s es cs:=by
 cases hs with
 |nil=>exact .nil
 |mk hN hb he=>exact .mk Om hb he
def aH.rows(hs:aH h s es cs):∀x∈cs,x.length=es:=by
 cases hs with
 |nil=>simp
 |mk hb hf ho he=>exact he
theorem aH.jh(hs:aH h s es cs)(G:Nat->Option ak):jh .sl G s=some cs.length:=by
 cases hs<;>rfl
theorem aH.one(hs:aH h s es cs):s.one=true:=by
 cases hs<;>rfl
theorem aH.fg(hs:aH h s es cs):fg es (λb=>h[b]?) s=some (cs.flatten,cs.length):=by
 cases hs with
 |nil=>rfl
 |mk hb hf ho he=>simp only[Go.Abs.fg,Zi,hb];rw[Zb ho,hf]
def aS(es:Nat)(x i:AV):Option (AV×iT):=
 match x,i with
 |.slice b o n es',.int _ i=>if es' =es/\0<=i/\i<n then some (.ptr b (o+i.toNat*es),.au)else none
 |_,_=>none
def aq(n:Option Nat)(a:AV)(G:Nat->Option ak):Option (AV×iT):=
 match a with
 |.ptr b o=>
  match G b with
  |some (.cells c _ _)=>
   match n with
   |none=>
    match c[o]? with
    |some x=>some (x,.au)
    |none=>none
   |some n=>if o+n<=c.length then some (.agg ((c.drop o).take n),.au)else none
  |_=>none
 |_=>none
def zC(es:Nat)(x:AV)(lo hi:Option AV):Option (AV×iT):=
 match x with
 |.slice b o n es'=>
  if es' =es then
   match jk lo hi n with
   |some (l,h')=>some (.slice b (o+l*es) (h'-l) es,.au)
   |none=>none
  else none
 |.af=>
  match jk lo hi 0 with
  |some _=>some (.af,.au)
  |none=>none
 |_=>none
def aH.bD(hs:aH h s es cs){i:Int}{k:IntKind}(h0:0<=i)(h1:i<cs.length):aS es s (.int k i)=some (.ptr s.sb (s.so+i.toNat*es),.au):=by
 cases hs with
 |nil=>simp at h1;omega
 |mk hb hf ho he=>show(if es=es/\0<=i/\i<cs.length then _ else none)=_;rw[Zb ⟨rfl,h0,h1⟩];rfl
def aH.load(hs:aH h s es cs){i:Nat}(hi:i<cs.length):aq (some es) (.ptr s.sb (s.so+i*es)) (λb=>h[b]?)=some (.agg cs[i],.au):=by
 cases hs with
 |nil=>simp at hi
 | @mk b o es cs c mu tl hb hf ho he=>
  have hle:i*es+es<=cs.length*es:=by rw[<-aaf];exact Z3 _ hi
  have h1:=lK he hi;show aq (some es) (.ptr b (o+i*es)) (λb=>h[b]?)=_;simp only[aq,hb];rw[Zb Om,<-h1,<-hf,List.drop_take,List.take_take,aat,aaL Om]
def aH.Ce(hs:aH h s es cs){i off:Nat}(hi:i<cs.length){x:AV}(hx:cs[i][off]? =some x):aq none (.ptr s.sb (s.so+i*es+off)) (λb=>h[b]?)=some (x,.au):=by
 cases hs with
 |nil=>simp at hi
 | @mk b o es cs c mu tl hb hf ho he=>
  have hle:i*es+es<=cs.length*es:=by rw[<-aaf];exact Z3 _ hi
  have h1:=lK he hi;have h2:=he _ (Za hi);have h3:=(YQ.1 hx).1;rw[<-h1,<-hf,List.drop_take,List.take_take,aat,aaL Om,List.getElem?_take]at hx;rw[Zb Om,aa9]at hx;show aq none (.ptr b (o+i*es+off)) (λb=>h[b]?)=_;simp only[aq,hb,hx]
def aH.Gm(hs:aH h s 1 cs){i}(hi:i<cs.length){x}(hx:cs[i]=[x]):aq none (.ptr s.sb (s.so+i*1)) (λb=>h[b]?)=some (x,.au):=
 hs.Ce (off:=0) hi (by rw[hx];rfl)
def aH.sl(hs:aH h s es cs){lo hi l u}(hb:jk lo hi cs.length=some (l,u)):∃s',zC es s lo hi=some (s',.au)/\aH h s' es ((cs.drop l).take (u-l)):=by
 have UT:l<=u/\u<=cs.length:=by
  unfold jk at hb;split at hb
  case h_2=>cases hb
  split at hb
  case isFalse=>cases hb
  cases hb;omega
 cases hs with
 |nil=>
  simp only[YX]at hb;exact⟨.af,by simp only[zC,hb],by simp;exact .nil⟩
 | @mk b o es cs c mu tl hbk hf ho he=>
  have hlen:((cs.drop l).take (u-l)).length=u-l:=by simp;omega
  refine⟨.slice b (o+l*es) (u-l) es,by simp only[zC,Zi,hb],?_⟩;have hul:(u-l)*es+l*es=u*es:=by rw[<-aba];congr 1;omega
  have hu:u*es<=cs.length*es:=Z3 _ UT.2;have:aH h (.slice b (o+l*es) ((cs.drop l).take (u-l)).length es) es ((cs.drop l).take (u-l)):=by
   refine .mk hbk ?_ (by rw[hlen];omega) λx hx=>he x (List.mem_of_mem_drop (ZW hx))
   rw[hlen];have Yl:∀(cs:List (List AV)) (l n:Nat),(∀x∈cs,x.length=es)->l+n<=cs.length->((cs.drop l).take n).flatten=(cs.flatten.drop (l*es)).take (n*es):=by
    intro cs
    induction cs with
    |nil=>intro l n _ _;simp
    |cons x xs ih=>
     intro l n hx WJ;have h1:=hx x Si;have h2:∀y∈xs,y.length=es:=λy hy=>hx y (ZG _ hy)
     cases l with
     |succ l=>
      rw[List.drop_succ_cons,ih l n h2 (by simp at WJ;omega),Z9,show(l+1)*es=x.length+l*es from by rw[h1,aaf,Nat.add_comm],<-aat,List.drop_left]
     |zero=>
      cases n with
      |zero=>simp
      |succ n=>
       have:=ih 0 n h2 (by simp at WJ;omega);simp only[aag,aaZ]at this ⊢;rw[aaN,Z9,this,Z9,List.take_append,aaf,ZE (l:=x) Om,h1];simp
   rw[Yl cs l (u-l) he Om,<-hf,List.drop_take,List.take_take,aat,aaL (by rw[Nat.sub_mul]at hul ⊢;omega)]
  rw[hlen]at this;exact this
def Fr.push{N}(hN:N<=h.length)(cs:List (List AV))(he:∀x∈cs,x.length=es):Fr N (h++[.cells cs.flatten true true]) (.slice h.length 0 cs.length es) es cs:=
 .mk (tl:=true) hN Si he
end
end Go.Abs
namespace Go.Abs
section
variable (P:Program) (ro:Option Nat->Prop)
def WV(r:Option AV)(dst:Option Nat)(l:List bI)(ks:List Kt)(ts:TS)(h:ah)(Q:Ex->TS->ah->Prop):Prop:=
 match r with
 |some v=>WP P ro l ks (put ts dst v) h Q
 |none=>False
end
def td(c a b:AV):Option AV:=
 match c with
 |.bool t=>some (if t then a else b)
 |_=>none
def oD(n:Nat)(x:AV)(N0:Nat):Option (AV×iT):=if x.cells.all AV.one=true/\x.cells.length=n then some (.ptr N0 0,.push (.cells x.cells true false))else none
def pD(x:AV)(N0:Nat):Option (AV×iT):=if x.cells.all AV.one then some (.ptr N0 0,.push (.cells x.cells true false))else none
def aW(n:Nat)(a x:AV)(G:Nat->Option ak):Option (AV×iT):=
 match a with
 |.ptr b o=>
  match G b with
  |some (.cells c true tl)=>
   if x.cells.length=n/\x.cells.all AV.one=true/\o+n<=c.length then some (az,.set b (.cells (fK c o x.cells) true tl))else none
  |_=>none
 |_=>none
def qj(x:AV):Option AV:=
 match x with
 |.ptr b o=>some (.ptr b o)
 |.func (.func f) a c=>some (.func (.func f) a c)
 |.func (.yield f) a c=>some (.func (.yield f) a c)
 |.func (.methodOf t n) a c=>some (.func (.methodOf t n) a c)
 |.func (.via t p f q) a c=>some (.func (.via t p f q) a c)
 |_=>none
def ti(es w:Nat)(z:List AV)(l c:AV)(N0:Nat):Option (AV×iT):=
 match l,c with
 |.int _ l,.int _ c=>
  if 0<=l/\l<=c/\(w:Int)*c<=2^48/\c<2^63 then some (.slice N0 0 l.toNat es,.push (.cells (dN l.toNat z) true true))else none
 |_,_=>none
def vc(x:AV)(lo hi:Option AV):Option AV:=
 match x with
 |.str s=>
  match jk lo hi s.length with
  |some (l,h')=>some (.str ((s.drop l).take (h'-l)))
  |none=>none
 |_=>none
def tE(off:Nat)(x:AV):Option AV:=
 match x with
 |.ptr b o=>some (.ptr b (o+off))
 |_=>none
def mL(len es:Nat)(x i:AV):Option AV:=
 match x,i with
 |.ptr b o,.int _ i=>if 0<=i/\i<len then some (.ptr b (o+i.toNat*es))else none
 |_,_=>none
def yQ(n:Option Nat)(off:Nat)(x:AV):Option AV:=
 match x with
 |.agg cs=>
  match n with
  |none=>cs[off]?
  |some n=>some (.agg ((cs.drop off).take n))
 |_=>none
def LX(len es:Nat)(n:Option Nat)(x i:AV):Option AV:=
 match x,i with
 |.agg cs,.int _ i=>
  if 0<=i/\i<len then
   match n with
   |none=>cs[i.toNat*es]?
   |some n=>some (.agg ((cs.drop (i.toNat*es)).take n))
  else none
 |_,_=>none
def vR(x i:AV):Option AV:=
 match x,i with
 |.str s,.int _ i=>
  if 0<=i then
   match s[i.toNat]? with
   |some b=>some (.int .u8 b.toNat)
   |none=>none
  else none
 |_,_=>none
def Ip(x:AV)(i:Nat):Option AV:=
 match x with
 |.dM l=>l[i]?
 |_=>none
def ud(o:Option Nat):Option AV:=
 match o with
 |some n=>some (.int .i64 n)
 |none=>none
def um(neg:Bool)(o:Option Bool):Option AV:=
 match o with
 |some b=>some (.bool (if neg then !b else b))
 |none=>none
def rM(o:Option (List AV)):Option AV:=
 match o with
 |some c=>some (.agg c)
 |none=>none
def yg(es n:Nat)(o:Option (List AV))(N0:Nat):Option (AV×iT):=
 match o with
 |some c=>if c.all AV.one=true/\c.length=n*es then some (.slice N0 0 n es,.push (.cells c true (!Nat.beq n 0)))else none
 |none=>none
section
variable {P:Program}{ro:Option Nat->Prop}{ks:List Kt}{ts:TS}{h:ah}{Q:Ex->TS->ah->Prop}{d:Option Nat}{q:Bool}{l:List bI}
def ja{r r'}(hr:r=r'.map λv=>(v,.au)):WR P ro r q d l ks ts h Q=WV P ro r' d l ks ts h Q:=by
 subst hr;cases r' with
 |none=>rfl
 |some v=>exact jm
def uC{v}:WV P ro (some v) d l ks ts h Q=WP P ro l ks (put ts d v) h Q:=rfl
def Dg{x}:WP P ro ({dst:=d,k:=.cA x,gd:=none,q:=q} ::l) ks ts h Q=WP P ro l ks (put ts d (val ts x)) h Q:=jm
def FC{c a b}:WP P ro ({dst:=d,k:=.pick c a b,gd:=none,q:=q} ::l) ks ts h Q=WV P ro (td (val ts c) (val ts a) (val ts b)) d l ks ts h Q:=by
 rw[jc Si Si];refine ja ?_;simp only[stepT,nv,td];cases val ts c<;>rfl
def Je{x}:WP P ro ({dst:=d,k:=.box x,gd:=none,q:=q} ::l) ks ts h Q=WR P ro (pD (val ts x) h.length) q d l ks ts h Q:=rfl
def FN{n i x}:WP P ro ({dst:=some i,k:=.oE n x,gd:=none,q:=q} ::l) ks ts h Q=(i<ts.length/\WR P ro (oD n (val ts x) h.length) q (some i) l ks ts h Q):=rfl
def rS{z ps}:WP P ro ({dst:=d,k:=.build z ps,gd:=none,q:=q} ::l) ks ts h Q=WV P ro (rM (eI z (ps.map λp=>(p.1,p.2.1,val ts p.2.2)))) d l ks ts h Q:=by
 rw[jc Si Si];refine ja ?_;simp only[stepT,nv,rM];cases eI z (ps.map λp=>(p.1,p.2.1,val ts p.2.2))<;>rfl
def AJ{es n z ps}:WP P ro ({dst:=d,k:=.bd es n z ps,gd:=none,q:=q} ::l) ks ts h Q=WR P ro (yg es n (eI (dN n z) (ps.map λp=>(p.1,es,val ts p.2))) h.length) q d l ks ts h Q:=rfl
def FH{n a}:WP P ro ({dst:=d,k:=.load n a,gd:=none,q:=q} ::l) ks ts h Q=WR P ro (aq n (val ts a) (λb=>h[b]?)) q d l ks ts h Q:=rfl
def Db{n a x}:WP P ro ({dst:=d,k:=.store n a x,gd:=none,q:=q} ::l) ks ts h Q=WR P ro (aW n (val ts a) (val ts x) (λb=>h[b]?)) q d l ks ts h Q:=rfl
def AI{x}:WP P ro ({dst:=d,k:=.bP x,gd:=none,q:=q} ::l) ks ts h Q=WV P ro (qj (val ts x)) d l ks ts h Q:=by
 rw[jc Si Si];refine ja ?_;exact z141
def Jf{op x y}:WP P ro ({dst:=d,k:=.bin op x y,gd:=none,q:=q} ::l) ks ts h Q=WV P ro (eo op (val ts x) (val ts y)) d l ks ts h Q:=by
 rw[jc Si Si];refine ja ?_;exact z193
def Jc{neg t x y}:WP P ro ({dst:=d,k:=.eqv neg t x y,gd:=none,q:=q} ::l) ks ts h Q=WV P ro (um neg (pB t (val ts x) (val ts y))) d l ks ts h Q:=by
 rw[jc Si Si];refine ja ?_;simp only[stepT,nv,um];cases pB t (val ts x) (val ts y)<;>rfl
def MP{op x}:WP P ro ({dst:=d,k:=.un op x,gd:=none,q:=q} ::l) ks ts h Q=WV P ro (wW op (val ts x)) d l ks ts h Q:=by
 rw[jc Si Si];refine ja ?_;simp only[stepT,nv];cases wW op (val ts x)<;>rfl
def uI{k x}:WP P ro ({dst:=d,k:=.conv k x,gd:=none,q:=q} ::l) ks ts h Q=WR P ro (mN k (val ts x) (λb=>h[b]?) h.length) q d l ks ts h Q:=rfl
def FF{f a c}:WP P ro ({dst:=d,k:=.uc f a c,gd:=none,q:=q} ::l) ks ts h Q=WP P ro l ks (put ts d (.func f (a.map (val ts)) (c.map (val ts)))) h Q:=jm
def wK:WP P ro ({dst:=d,k:=.mJ,gd:=none,q:=q} ::l) ks ts h Q=WP P ro l ks (put ts d (.map h.length)) (h++[.bf []]) Q:=mz
def FE{es w z a c}:WP P ro ({dst:=d,k:=.vG es w z a c,gd:=none,q:=q} ::l) ks ts h Q=WR P ro (ti es w z (val ts a) (val ts c) h.length) q d l ks ts h Q:=rfl
def MQ{es x lo hi}:WP P ro ({dst:=d,k:=.sl es x lo hi,gd:=none,q:=q} ::l) ks ts h Q=WR P ro (zC es (val ts x) (lo.map (val ts)) (hi.map (val ts))) q d l ks ts h Q:=rfl
def I7{x lo hi}:WP P ro ({dst:=d,k:=.Jt x lo hi,gd:=none,q:=q} ::l) ks ts h Q=WV P ro (vc (val ts x) (lo.map (val ts)) (hi.map (val ts))) d l ks ts h Q:=by
 rw[jc Si Si];refine ja ?_;simp only[stepT,nv,vc];cases val ts x with
 |str s=>simp only;cases jk (Option.map (val ts) lo) (Option.map (val ts) hi) s.length<;>rfl
 |_=>rfl
def FL{off x}:WP P ro ({dst:=d,k:=.aU off x,gd:=none,q:=q} ::l) ks ts h Q=WV P ro (tE off (val ts x)) d l ks ts h Q:=by
 rw[jc Si Si];refine ja ?_;simp only[stepT,nv,tE];cases val ts x<;>rfl
def FJ{es x i}:WP P ro ({dst:=d,k:=.bD es x i,gd:=none,q:=q} ::l) ks ts h Q=WR P ro (aS es (val ts x) (val ts i)) q d l ks ts h Q:=rfl
def FK{len es x i}:WP P ro ({dst:=d,k:=.si len es x i,gd:=none,q:=q} ::l) ks ts h Q=WV P ro (mL len es (val ts x) (val ts i)) d l ks ts h Q:=by
 rw[jc Si Si];refine ja ?_;simp only[stepT,nv,mL];cases val ts x with
 |ptr b o=>cases val ts i<;>first|rfl|(simp only;split<;>rfl)
 |_=>rfl
def FD{n off x}:WP P ro ({dst:=d,k:=.part n off x,gd:=none,q:=q} ::l) ks ts h Q=WV P ro (yQ n off (val ts x)) d l ks ts h Q:=by
 rw[jc Si Si];refine ja ?_;simp only[stepT,nv,yQ];cases val ts x with
 |agg cs=>cases n<;>first|rfl|(simp only;cases cs[off]? <;>rfl)
 |_=>rfl
def Ja{len es n x i}:WP P ro ({dst:=d,k:=.Jv len es n x i,gd:=none,q:=q} ::l) ks ts h Q=WV P ro (LX len es n (val ts x) (val ts i)) d l ks ts h Q:=by
 rw[jc Si Si];refine ja ?_;simp only[stepT,nv,LX];cases val ts x with
 |agg cs=>
  cases val ts i with
  |int k j=>
   simp only;split
   ·cases n<;>first|rfl|(simp only;cases cs[j.toNat*es]? <;>rfl)
   ·rfl
  |_=>rfl
 |_=>rfl
def I9{x i}:WP P ro ({dst:=d,k:=.Dp x i,gd:=none,q:=q} ::l) ks ts h Q=WV P ro (vR (val ts x) (val ts i)) d l ks ts h Q:=by
 rw[jc Si Si];refine ja ?_;simp only[stepT,nv,vR];cases val ts x with
 |str s=>
  cases val ts i with
  |int k j=>
   simp only;split
   ·cases s[j.toNat]? <;>rfl
   ·rfl
  |_=>rfl
 |_=>rfl
def FG{kk z ok m k}:WP P ro ({dst:=d,k:=.look kk z ok m k,gd:=none,q:=q} ::l) ks ts h Q=WR P ro (stepT (.look kk z ok m k) (val ts) (λb=>h[b]?) h.length) q d l ks ts h Q:=rfl
def uH{kk m k x}:WP P ro ({dst:=d,k:=.fE kk m k x,gd:=none,q:=q} ::l) ks ts h Q=WR P ro (stepT (.fE kk m k x) (val ts) (λb=>h[b]?) h.length) q d l ks ts h Q:=rfl
def Df{x}:WP P ro ({dst:=d,k:=.rl x,gd:=none,q:=q} ::l) ks ts h Q=WR P ro (stepT (.rl x) (val ts) (λb=>h[b]?) h.length) q d l ks ts h Q:=rfl
def Jb{x i}:WP P ro ({dst:=d,k:=.ext x i,gd:=none,q:=q} ::l) ks ts h Q=WV P ro (Ip (val ts x) i) d l ks ts h Q:=by
 rw[jc Si Si];refine ja ?_;simp only[stepT,nv,Ip];cases val ts x with
 |dM cs=>simp only;cases cs[i]? <;>rfl
 |_=>rfl
def I8{lk x}:WP P ro ({dst:=d,k:=.len lk x,gd:=none,q:=q} ::l) ks ts h Q=WV P ro (ud (jh lk (λb=>h[b]?) (val ts x))) d l ks ts h Q:=by
 rw[jc Si Si];refine ja ?_;simp only[stepT,nv,ud];cases jh lk (λb=>h[b]?) (val ts x)<;>rfl
def FI{n}:WP P ro ({dst:=d,k:=.zW n,gd:=none,q:=q} ::l) ks ts h Q=WP P ro l ks (put ts d (.int .i64 n)) h Q:=jm
def Jg{es w x y}:WP P ro ({dst:=d,k:=.app es w x y,gd:=none,q:=q} ::l) ks ts h Q=WR P ro (pF es w (val ts x) (val ts y) (λb=>h[b]?) h.length) q d l ks ts h Q:=rfl
def Jd{es x y}:WP P ro ({dst:=d,k:=.zb es x y,gd:=none,q:=q} ::l) ks ts h Q=WR P ro (stepT (.zb es x y) (val ts) (λb=>h[b]?) h.length) q d l ks ts h Q:=rfl
def MR{x m}:WP P ro ({dst:=d,k:=.mx x m,gd:=none,q:=q} ::l) ks ts h Q=WV P ro (iL pV (val ts x) (m.map (val ts))) d l ks ts h Q:=by
 rw[jc Si Si];refine ja ?_;simp only[stepT,nv];cases iL pV (val ts x) (m.map (val ts))<;>rfl
def MS{x m}:WP P ro ({dst:=d,k:=.mn x m,gd:=none,q:=q} ::l) ks ts h Q=WV P ro (iL pU (val ts x) (m.map (val ts))) d l ks ts h Q:=by
 rw[jc Si Si];refine ja ?_;simp only[stepT,nv];cases iL pU (val ts x) (m.map (val ts))<;>rfl
def Fe{k a b}:eo .add (.int k a) (.int k b)=some (.int k (k.wrap (a+b))):=by simp[eo,eS,fM]
def E4{k a b}:eo .sub (.int k a) (.int k b)=some (.int k (k.wrap (a-b))):=by simp[eo,eS,fM]
def E7{k a b}:eo .mul (.int k a) (.int k b)=some (.int k (k.wrap (a*b))):=by simp[eo,eS,fM]
def E5{k a b}(hb:b≠0):eo .quo (.int k a) (.int k b)=some (.int k (k.wrap (a.tdiv b))):=by simp[eo,eS,fM,hb]
def oG{k a b}(hb:b≠0):eo .rem (.int k a) (.int k b)=some (.int k (a.tmod b)):=by simp[eo,eS,fM,hb]
def Fc{k a b}:eo .eql (.int k a) (.int k b)=some (.bool (decide (a=b))):=by simp[eo,eS,fM];rfl
def E6{k a b}:eo .neq (.int k a) (.int k b)=some (.bool (decide (a≠b))):=by
 simp only[eo,eS,fM,Zi,ZM,Zf,Zu,AV.bool.injEq];by_cases hab:a=b<;>simp[hab]
def E8{k a b}:eo .lss (.int k a) (.int k b)=some (.bool (decide (a<b))):=by simp[eo,eS,fM]
def E9{k a b}:eo .leq (.int k a) (.int k b)=some (.bool (decide (a<=b))):=by simp[eo,eS,fM]
def Fa{k a b}:eo .gtr (.int k a) (.int k b)=some (.bool (decide (b<a))):=by simp[eo,eS,fM]
def Fb{k a b}:eo .geq (.int k a) (.int k b)=some (.bool (decide (b<=a))):=by simp[eo,eS,fM]
def jN{x y}(hl:x.length+y.length<2^62):eo .add (.str x) (.str y)=some (.str (x++y)):=by simp only[eo,qO,Zb hl]
def CR{x y}:eo .eql (.str x) (.str y)=some (.bool (decide (x=y))):=by
 exact z138
def CQ{x y}:eo .neq (.str x) (.str y)=some (.bool (decide (x≠y))):=by
 exact z138
def Hd{b}:wW .not (.bool b)=some (.bool !b):=rfl
def He{k a}:wW .neg (.int k a)=some (.int k (k.wrap (0-a))):=rfl
def OQ{k a b}:iL pV (.int k a) [.int k b]=some (.int k (max a b)):=by
 simp only[iL,pV,Zi,Zu,AV.int.injEq,abt];omega
def OR{k a b}:iL pU (.int k a) [.int k b]=some (.int k (min a b)):=by
 simp only[iL,pU,Zi,Zu,AV.int.injEq,abt];omega
def bu{n}(h1:-9223372036854775808<=n)(h2:n<=9223372036854775807):IntKind.i64.wrap n=n:=by
 simp only[IntKind.wrap,IntKind.signed,IntKind.bits,aao,ZJ,show(64-1:Nat)=63 from rfl];split<;>omega
end
end Go.Abs
namespace Go.Abs
def A2{a b:Prop}(xa:a)(xb:b):a/\b:=⟨xa,xb⟩
def A3{a b c:Prop}(xa:a)(xb:b)(xc:c):a/\b/\c:=⟨xa,xb,xc⟩
def A4{a b c d:Prop}(xa:a)(xb:b)(xc:c)(xd:d):a/\b/\c/\d:=⟨xa,xb,xc,xd⟩
def A5{a b c d e:Prop}(xa:a)(xb:b)(xc:c)(xd:d)(xe:e):a/\b/\c/\d/\e:=⟨xa,xb,xc,xd,xe⟩
def A6{a b c d e f:Prop}(xa:a)(xb:b)(xc:c)(xd:d)(xe:e)(xf:f):a/\b/\c/\d/\e/\f:=⟨xa,xb,xc,xd,xe,xf⟩
def A7{a b c d e f g:Prop}(xa:a)(xb:b)(xc:c)(xd:d)(xe:e)(xf:f)(xg:g):a/\b/\c/\d/\e/\f/\g:=⟨xa,xb,xc,xd,xe,xf,xg⟩
def A8{a b c d e f g h:Prop}(xa:a)(xb:b)(xc:c)(xd:d)(xe:e)(xf:f)(xg:g)(xh:h):a/\b/\c/\d/\e/\f/\g/\h:=⟨xa,xb,xc,xd,xe,xf,xg,xh⟩
def A9{a b c d e f g h i:Prop}(xa:a)(xb:b)(xc:c)(xd:d)(xe:e)(xf:f)(xg:g)(xh:h)(xi:i):a/\b/\c/\d/\e/\f/\g/\h/\i:=⟨xa,xb,xc,xd,xe,xf,xg,xh,xi⟩
def lQ{a b c d e f g h i j:Prop}(xa:a)(xb:b)(xc:c)(xd:d)(xe:e)(xf:f)(xg:g)(xh:h)(xi:i)(xj:j):a/\b/\c/\d/\e/\f/\g/\h/\i/\j:=⟨xa,xb,xc,xd,xe,xf,xg,xh,xi,xj⟩
def kS{a b c d e f g h i j k:Prop}(xa:a)(xb:b)(xc:c)(xd:d)(xe:e)(xf:f)(xg:g)(xh:h)(xi:i)(xj:j)(xk:k):a/\b/\c/\d/\e/\f/\g/\h/\i/\j/\k:=⟨xa,xb,xc,xd,xe,xf,xg,xh,xi,xj,xk⟩
def mQ{a b c d e f g h i j k l:Prop}(xa:a)(xb:b)(xc:c)(xd:d)(xe:e)(xf:f)(xg:g)(xh:h)(xi:i)(xj:j)(xk:k)(xl:l):a/\b/\c/\d/\e/\f/\g/\h/\i/\j/\k/\l:=⟨xa,xb,xc,xd,xe,xf,xg,xh,xi,xj,xk,xl⟩
def Dk{a b c d e f g h i j k l m:Prop}(xa:a)(xb:b)(xc:c)(xd:d)(xe:e)(xf:f)(xg:g)(xh:h)(xi:i)(xj:j)(xk:k)(xl:l)(xm:m):a/\b/\c/\d/\e/\f/\g/\h/\i/\j/\k/\l/\m:=⟨xa,xb,xc,xd,xe,xf,xg,xh,xi,xj,xk,xl,xm⟩
def wP{a b c d e f g h i j k l m n:Prop}(xa:a)(xb:b)(xc:c)(xd:d)(xe:e)(xf:f)(xg:g)(xh:h)(xi:i)(xj:j)(xk:k)(xl:l)(xm:m)(xn:n):a/\b/\c/\d/\e/\f/\g/\h/\i/\j/\k/\l/\m/\n:=⟨xa,xb,xc,xd,xe,xf,xg,xh,xi,xj,xk,xl,xm,xn⟩
def yu{a b c d e f g h i j k l m n o:Prop}(xa:a)(xb:b)(xc:c)(xd:d)(xe:e)(xf:f)(xg:g)(xh:h)(xi:i)(xj:j)(xk:k)(xl:l)(xm:m)(xn:n)(xo:o):a/\b/\c/\d/\e/\f/\g/\h/\i/\j/\k/\l/\m/\n/\o:=⟨xa,xb,xc,xd,xe,xf,xg,xh,xi,xj,xk,xl,xm,xn,xo⟩
def Dr{a b c d e f g h i j k l m n o p:Prop}(xa:a)(xb:b)(xc:c)(xd:d)(xe:e)(xf:f)(xg:g)(xh:h)(xi:i)(xj:j)(xk:k)(xl:l)(xm:m)(xn:n)(xo:o)(xp:p):a/\b/\c/\d/\e/\f/\g/\h/\i/\j/\k/\l/\m/\n/\o/\p:=⟨xa,xb,xc,xd,xe,xf,xg,xh,xi,xj,xk,xl,xm,xn,xo,xp⟩
def Jl{a b c d e f g h i j k l m n o p q:Prop}(xa:a)(xb:b)(xc:c)(xd:d)(xe:e)(xf:f)(xg:g)(xh:h)(xi:i)(xj:j)(xk:k)(xl:l)(xm:m)(xn:n)(xo:o)(xp:p)(xq:q):a/\b/\c/\d/\e/\f/\g/\h/\i/\j/\k/\l/\m/\n/\o/\p/\q:=⟨xa,xb,xc,xd,xe,xf,xg,xh,xi,xj,xk,xl,xm,xn,xo,xp,xq⟩
def GU{a b c d e f g h i j k l m n o p q r:Prop}(xa:a)(xb:b)(xc:c)(xd:d)(xe:e)(xf:f)(xg:g)(xh:h)(xi:i)(xj:j)(xk:k)(xl:l)(xm:m)(xn:n)(xo:o)(xp:p)(xq:q)(xr:r):a/\b/\c/\d/\e/\f/\g/\h/\i/\j/\k/\l/\m/\n/\o/\p/\q/\r:=⟨xa,xb,xc,xd,xe,xf,xg,xh,xi,xj,xk,xl,xm,xn,xo,xp,xq,xr⟩
def RE{a b c d e f g h i j k l m n o p q r s:Prop}(xa:a)(xb:b)(xc:c)(xd:d)(xe:e)(xf:f)(xg:g)(xh:h)(xi:i)(xj:j)(xk:k)(xl:l)(xm:m)(xn:n)(xo:o)(xp:p)(xq:q)(xr:r)(xs:s):a/\b/\c/\d/\e/\f/\g/\h/\i/\j/\k/\l/\m/\n/\o/\p/\q/\r/\s:=⟨xa,xb,xc,xd,xe,xf,xg,xh,xi,xj,xk,xl,xm,xn,xo,xp,xq,xr,xs⟩
def Nn{a b c d e f g h i j k l m n o p q r s t:Prop}(xa:a)(xb:b)(xc:c)(xd:d)(xe:e)(xf:f)(xg:g)(xh:h)(xi:i)(xj:j)(xk:k)(xl:l)(xm:m)(xn:n)(xo:o)(xp:p)(xq:q)(xr:r)(xs:s)(xt:t):a/\b/\c/\d/\e/\f/\g/\h/\i/\j/\k/\l/\m/\n/\o/\p/\q/\r/\s/\t:=⟨xa,xb,xc,xd,xe,xf,xg,xh,xi,xj,xk,xl,xm,xn,xo,xp,xq,xr,xs,xt⟩
def Ra{a b c d e f g h i j k l m n o p q r s t u:Prop}(xa:a)(xb:b)(xc:c)(xd:d)(xe:e)(xf:f)(xg:g)(xh:h)(xi:i)(xj:j)(xk:k)(xl:l)(xm:m)(xn:n)(xo:o)(xp:p)(xq:q)(xr:r)(xs:s)(xt:t)(xu:u):a/\b/\c/\d/\e/\f/\g/\h/\i/\j/\k/\l/\m/\n/\o/\p/\q/\r/\s/\t/\u:=⟨xa,xb,xc,xd,xe,xf,xg,xh,xi,xj,xk,xl,xm,xn,xo,xp,xq,xr,xs,xt,xu⟩
def M0{a b c d e f g h i j k l m n o p q r s t u v:Prop}(xa:a)(xb:b)(xc:c)(xd:d)(xe:e)(xf:f)(xg:g)(xh:h)(xi:i)(xj:j)(xk:k)(xl:l)(xm:m)(xn:n)(xo:o)(xp:p)(xq:q)(xr:r)(xs:s)(xt:t)(xu:u)(xv:v):a/\b/\c/\d/\e/\f/\g/\h/\i/\j/\k/\l/\m/\n/\o/\p/\q/\r/\s/\t/\u/\v:=⟨xa,xb,xc,xd,xe,xf,xg,xh,xi,xj,xk,xl,xm,xn,xo,xp,xq,xr,xs,xt,xu,xv⟩
def Qr{a b c d e f g h i j k l m n o p q r s t u v w:Prop}(xa:a)(xb:b)(xc:c)(xd:d)(xe:e)(xf:f)(xg:g)(xh:h)(xi:i)(xj:j)(xk:k)(xl:l)(xm:m)(xn:n)(xo:o)(xp:p)(xq:q)(xr:r)(xs:s)(xt:t)(xu:u)(xv:v)(xw:w):a/\b/\c/\d/\e/\f/\g/\h/\i/\j/\k/\l/\m/\n/\o/\p/\q/\r/\s/\t/\u/\v/\w:=⟨xa,xb,xc,xd,xe,xf,xg,xh,xi,xj,xk,xl,xm,xn,xo,xp,xq,xr,xs,xt,xu,xv,xw⟩
def F2{a b c d e f g h i j k l m n o p q r s t u v w x:Prop}(xa:a)(xb:b)(xc:c)(xd:d)(xe:e)(xf:f)(xg:g)(xh:h)(xi:i)(xj:j)(xk:k)(xl:l)(xm:m)(xn:n)(xo:o)(xp:p)(xq:q)(xr:r)(xs:s)(xt:t)(xu:u)(xv:v)(xw:w)(xx:x):a/\b/\c/\d/\e/\f/\g/\h/\i/\j/\k/\l/\m/\n/\o/\p/\q/\r/\s/\t/\u/\v/\w/\x:=⟨xa,xb,xc,xd,xe,xf,xg,xh,xi,xj,xk,xl,xm,xn,xo,xp,xq,xr,xs,xt,xu,xv,xw,xx⟩
section
variable {P:Program}{ro:Option Nat->Prop}{ks:List Kt}{ts:TS}{h:ah}{Q:Ex->TS->ah->Prop}{d:Option Nat}{q:Bool}{l:List bI}
def FO{k}{p:Prop}[Decidable p] :WG P ro (.bool (decide p)) true q k d l ks ts h Q=((p->WP P ro ({dst:=d,k:=k,gd:=none,q:=q} ::l) ks ts h Q)/\(¬p->WP P ro l ks (put ts d az) h Q)):=by
 by_cases hp:p
 ·simp only[hp,Zl,yq];simp
 ·simp only[hp,Zt];rw[zo false Si];simp
def FP{k}{p:Prop}[Decidable p] :WG P ro (.bool (decide p)) false q k d l ks ts h Q=((p->WP P ro l ks (put ts d az) h Q)/\(¬p->WP P ro ({dst:=d,k:=k,gd:=none,q:=q} ::l) ks ts h Q)):=by
 by_cases hp:p
 ·simp only[hp,Zl];rw[zo true Si];simp
 ·simp only[hp,Zt,yq];simp
def MU{k}:WG P ro (.bool true) false q k d l ks ts h Q=WP P ro l ks (put ts d az) h Q:=zo true Si
def MV{k}:WG P ro (.bool false) true q k d l ks ts h Q=WP P ro l ks (put ts d az) h Q:=zo false Si
def Jj{a b}{p:Prop}[Decidable p] :WB P ro (.bool (decide p)) a b ks ts h Q=((p->WC P ro a ks ts h Q)/\(¬p->WC P ro b ks ts h Q)):=by
 by_cases hp:p
 ·simp only[hp,Zl,zp];simp
 ·simp only[hp,Zt,wL];simp
def HD{a b}:td (.bool true) a b=some a:=rfl
def HE{a b}:td (.bool false) a b=some b:=rfl
def slot(ts:TS)(i:Nat):AV:=ts.getD i az
def uS{i}:val ts (.t i)=slot ts i:=rfl
def yy{v}:val ts (.c v)=v:=rfl
def KC{i}:val ts (.g i)=.ptr i 0:=rfl
def KD{i}:val ts (.f i)=.func (.func i) [] []:=rfl
def pQ{i v}:put ts (some i) v=ts.set i v:=rfl
def BY{v}:put ts none v=ts:=rfl
def Hn{a l}:slot (a::l) 0=a:=rfl
def Hl{a l n}:slot (a::l) (n+1)=slot l n:=rfl
def H9{a:AV}{l:List AV}:(a::l).length=l.length+1:=rfl
def Ia:([] :List AV).length=0:=rfl
def H6{a:AV}:List.replicate 0 a=[]:=rfl
def Ie{a:AV}{l m:List AV}:(a::l)++m=a:: (l++m):=rfl
def Ig{m:List AV}:[]++m=m:=rfl
def H5{a b:AV}{l:List AV}:(a::l).set 0 b=b::l:=rfl
def H4{a b:AV}{l:List AV}{n:Nat}:(a::l).set (n+1) b=a::l.set n b:=rfl
def H8{f:cX->AV}:List.map f []=[]:=rfl
def H7{f:cX->AV}{a:cX}{l:List cX}:List.map f (a::l)=f a::l.map f:=rfl
def HJ{f:cX->AV}:Option.map f none=none:=rfl
def HI{f:cX->AV}{a:cX}:Option.map f (some a)=some (f a):=rfl
def Io{off b o}:tE off (.ptr b o)=some (.ptr b (o+off)):=rfl
def H3{n}:ud (some n)=some (.int .i64 n):=rfl
def Ei{G s}:jh .st G (.str s)=some s.length:=rfl
def Lp{b o}:qj (.ptr b o)=some (.ptr b o):=rfl
def Lq{f a c}:qj (.func (.func f) a c)=some (.func (.func f) a c):=rfl
def Lo{f a c}:qj (.func (.yield f) a c)=some (.func (.yield f) a c):=rfl
def Mm{l i}:Ip (.dM l) i=l[i]? :=rfl
def HG{cs off}:yQ none off (.agg cs)=cs[off]? :=rfl
def HF{cs off n}:yQ (some n) off (.agg cs)=some (.agg ((cs.drop off).take n)):=rfl
def CN{c}:rM (some c)=some (.agg c):=rfl
def BS{r}:cQ [(r,none)] ts h=some (slot ts r):=rfl
def BQ{r s}:cQ [(r,none),(s,none)] ts h=some (.dM [slot ts r,slot ts s]):=rfl
def BP{r s t}:cQ [(r,none),(s,none),(t,none)] ts h=some (.dM [slot ts r,slot ts s,slot ts t]):=rfl
def w8{n args}:aR n args=args++List.replicate (n-args.length) az:=rfl
def K9{n:Nat}{a:AV}:List.replicate (n+1) a=a::List.replicate n a:=rfl
def EX{k k' n G N}:mN (.Jw k) (.int k' n) G N=some (.int k (k.wrap n),.au):=rfl
def kf{u:TypeId}{x G N}:mN (.uM u) x G N=some (.uM u x,.au):=rfl
def Au{s G N}:mN .same (.str s) G N=some (.str s,.au):=rfl
def E2{k n N}:pD (.int k n) N=some (.ptr N 0,.push (.cells [.int k n] true false)):=rfl
def CP{b N}:pD (.bool b) N=some (.ptr N 0,.push (.cells [.bool b] true false)):=rfl
def E1{s N}:pD (.str s) N=some (.ptr N 0,.push (.cells [.str s] true false)):=rfl
def E3{l N}(hl:l.all AV.one=true):pD (.agg l) N=some (.ptr N 0,.push (.cells l true false)):=by
 show(if l.all AV.one then _ else none)=_;rw[Zb hl];rfl
end
def Qi{P ro ks ts h Q d q l k b}:WG P ro az b q k d l ks ts h Q=WP P ro l ks (put ts d az) h Q:=rfl
def GH{h}:Ext h h=True:=abu (Ext.refl h)
def GG{h a}:Ext h (h++a)=True:=abu (by repeat first|exact Ext.refl _|refine Ext.app _ ?_)
def GF{h a b}:Ext h (h++a++b)=True:=abu (by repeat first|exact Ext.refl _|refine Ext.app _ ?_)
def GD{h a b c}:Ext h (h++a++b++c)=True:=abu (by repeat first|exact Ext.refl _|refine Ext.app _ ?_)
def GC{h a b c d}:Ext h (h++a++b++c++d)=True:=abu (by repeat first|exact Ext.refl _|refine Ext.app _ ?_)
def GB{h a b c d e}:Ext h (h++a++b++c++d++e)=True:=abu (by repeat first|exact Ext.refl _|refine Ext.app _ ?_)
def GA{h a b c d e f}:Ext h (h++a++b++c++d++e++f)=True:=abu (by repeat first|exact Ext.refl _|refine Ext.app _ ?_)
def Gz{h a b c d e f g}:Ext h (h++a++b++c++d++e++f++g)=True:=abu (by repeat first|exact Ext.refl _|refine Ext.app _ ?_)
def Gy{h a b c d e f g i}:Ext h (h++a++b++c++d++e++f++g++i)=True:=abu (by repeat first|exact Ext.refl _|refine Ext.app _ ?_)
def Gx{h a b c d e f g i j}:Ext h (h++a++b++c++d++e++f++g++i++j)=True:=abu (by repeat first|exact Ext.refl _|refine Ext.app _ ?_)
def MK{p:Prop}:(True/\p)=p:=abt p
def Ju(f:Nat->AV):Nat->Nat->TS
 | 0,_=>[]
 |n+1,i=>f i::Ju f n (i+1)
def Lx{f i}:Ju f 0 i=[]:=rfl
def Gk{f n i}:Ju f (n+1) i=f i::Ju f n (i+1):=rfl
theorem Cc(f:Nat->AV):∀(n i:Nat) (ts:TS),ts.length=n->(∀k,k<n->f (i+k)=slot ts k)->ts=Ju f n i
 | 0,_,ts,h,_=>ZZ.1 h
 |n+1,i,[],h,_=>by simp at h
 |n+1,i,x::xs,h,hf=>by
  rw[Gk,<-Cc f n (i+1) xs (by simpa using h) λk hk=>by have:=hf (k+1) Om;rw[show i+1+k=i+(k+1) by omega,this];rfl];rw[<-abl i,hf 0 Om];rfl
def k8(ts:TS)(n:Nat)(h:ts.length=n):ts=Ju (λi=>slot ts i) n 0:=Cc _ n 0 ts h λk _=>by rw[ZN]
def aQ:=A6 (F2 @FW @rV @rT @FZ @Dh @FX @FY @Ji @qE @FU @FV @AM @AK @AL @Jh @Dd @FM @MT @yq @MU @MV @jm @mz @rR) (F2 @nE @uC @zp @wL @Ql @Qj @Qk @Qo @Qn @F1 @Dg @FC @Je @rS @AJ @FH @Db @AI @Jf @Jc @MP @uI @FF @wK) (F2 @FE @MQ @I7 @FL @FJ @FK @FD @Ja @I9 @FG @uH @Df @Jb @I8 @FI @Jg @Jd @MR @MS @Fe @E4 @E7 @Fc @E6) (F2 @E8 @E9 @Fa @Fb @CR @CQ @Hd @He @OQ @OR @HD @HE @uS @yy @KC @KD @pQ @BY @Hn @Hl @Io @H3 @Ei @Lp) (F2 @Lq @Lo @Mm @HG @HF @CN @BS @BQ @BP @w8 @K9 @H9 @Ia @H6 @Ie @Ig @H5 @H4 @H8 @H7 @HJ @HI @EX @Au) (Jl @Qi @GH @GG @GF @GD @GC @GB @GA @Gz @Gy @Gx @MK @Lx @Gk @E2 @CP @E1)
def mR:
  (∀{P}{ro}{ks}{ts}{h}{Q}{d}{q}{l}{k}{p:Prop} [Decidable p],WG P ro (.bool (decide p)) true q k d l ks ts h Q=((p->WP P ro ({dst:=d,k:=k,gd:=none,q:=q} ::l) ks ts h Q)/\(¬p->WP P ro l ks (put ts d az) h Q)))/\
  (∀{P:Program}{ro:Option Nat->Prop}{ks:List Kt}{ts:TS}{h:ah}{Q:Ex->TS->ah->Prop}{d:Option Nat}{q:Bool}{l:List bI}{k:pf}{p:Prop} [Decidable p],WG P ro (.bool (decide p)) false q k d l ks ts h Q=((p->WP P ro l ks (put ts d az) h Q)/\(¬p->WP P ro ({dst:=d,k:=k,gd:=none,q:=q} ::l) ks ts h Q)))/\
  (∀{P:Program}{ro:Option Nat->Prop}{ks:List Kt}{ts:TS}{h:ah}{Q:Ex->TS->ah->Prop}{a b:ai}{p:Prop} [Decidable p],WB P ro (.bool (decide p)) a b ks ts h Q=((p->WC P ro a ks ts h Q)/\(¬p->WC P ro b ks ts h Q))):=
 ⟨@FO,@FP,@Jj⟩
end Go.Abs
namespace Go.Abs
def c7{h:ah}{b:Nat}(a:ah)(hb:b<h.length):(h++a)[b]? =h[b]? :=YT hb
def eQ{h:ah}{b:Nat}(a:ah)(k:ak)(hb:b<h.length):(h++a).set b k=h.set b k++a:=List.set_append_left _ _ hb
def yI{X:ah}{k k':ak}:(X++[k]).set X.length k' =X++[k']:=by
 rw[ZV _ _ (Y9 _)];simp
def a8{X:ah}{k:ak}:(X++[k])[X.length]? =some k:=Si
def dE(n:Option Nat)(o:Nat):ak->Option (AV×iT)
 |.cells c _ _=>
  match n with
  |none=>
   match c[o]? with
   |some x=>some (x,.au)
   |none=>none
  |some n=>if o+n<=c.length then some (.agg ((c.drop o).take n),.au)else none
 |_=>none
def km(n o:Nat)(v:AV)(b:Nat):ak->Option (AV×iT)
 |.cells c true tl=>if v.cells.length=n/\v.cells.all AV.one=true/\o+n<=c.length then some (az,.set b (.cells (fK c o v.cells) true tl))else none
 |_=>none
def aA{n:Option Nat}{b o:Nat}{G:Nat->Option ak}{k:ak}(hb:G b=some k):aq n (.ptr b o) G=dE n o k:=by
 simp only[aq,hb];cases k<;>rfl
def aL{n b o:Nat}{v:AV}{G:Nat->Option ak}{k:ak}(hb:G b=some k):aW n (.ptr b o) v G=km n o v b k:=by
 simp only[aW,hb];cases k with
 |cells c mu tl=>cases mu<;>rfl
 |_=>rfl
def dW(b:Nat)(s:By)(pos:Nat):Option (AV×iT):=
 if pos<s.length then some (.dM [.bool true,.int .i64 pos,.int .i32 (Utf8.decode ⟨⟨s⟩⟩ pos).1],.set b (.iter s (pos+(Utf8.decode ⟨⟨s⟩⟩ pos).2)))else some (.dM [.bool false],.au)
def fy(x:AV)(G:Nat->Option ak):Option (AV×iT):=
 match x with
 |.ptr b 0=>
  match G b with
  |some (.iter s pos)=>dW b s pos
  |_=>none
 |_=>none
def dL{b pos:Nat}{s:By}{G:Nat->Option ak}(hb:G b=some (.iter s pos)):fy (.ptr b 0) G=dW b s pos:=by
 simp only[fy,hb]
def uZ{x:cX}{ρ:cX->AV}{G:Nat->Option ak}{N:Nat}:stepT (.rl x) ρ G N=fy (ρ x) G:=by
 simp only[stepT,nv,fy,dW];cases ρ x with
 |ptr b o=>
  cases o with
  |zero=>
   simp only;cases G b with
   |none=>rfl
   |some k=>cases k<;>rfl
  |succ o=>rfl
 |_=>rfl
def Gf(x:AV)(N:Nat):Option (AV×iT):=
 match x with
 |.str s=>some (.ptr N 0,.push (.iter s 0))
 |_=>none
def Dc{P:Program}{ro:Option Nat->Prop}{ks:List Kt}{ts:TS}{h:ah}{Q:Ex->TS->ah->Prop}{d:Option Nat}{q:Bool}{l:List bI}{x:cX}:WP P ro ({dst:=d,k:=.BJ x,gd:=none,q:=q} ::l) ks ts h Q=WR P ro (Gf (val ts x) h.length) q d l ks ts h Q:=rfl
def Hz{s:By}{N:Nat}:Gf (.str s) N=some (.ptr N 0,.push (.iter s 0)):=rfl
def Fq{X:ah}{K}:(X++[K])[X.length]? =some K:=by
 exact a8
def O2{n o X K}:aq n (.ptr X.length o) (λz=>(X++[K])[z]?)=dE n o K:=aA Fq
def NU{y o v X K}:aW y (.ptr X.length o) v (λz=>(X++[K])[z]?)=km y o v X.length K:=aL Fq
def OL{pos s X}:fy (.ptr X.length 0) (λz=>(X++[.iter s pos])[z]?)=dW X.length s pos:=dL Fq
def Bv{X:ah}{K K'}:(X++[K]).set X.length K' =X++[K']:=by
 exact yI
def uw{X:ah}{K a}:(X++[K]++a)[X.length]? =some K:=by
 rw[c7,Fq];simp
def O1{n o X K a}:aq n (.ptr X.length o) (λz=>(X++[K]++a)[z]?)=dE n o K:=aA uw
def NT{y o v X K a}:aW y (.ptr X.length o) v (λz=>(X++[K]++a)[z]?)=km y o v X.length K:=aL uw
def OK{pos s X a}:fy (.ptr X.length 0) (λz=>(X++[.iter s pos]++a)[z]?)=dW X.length s pos:=dL uw
def yJ{X:ah}{K K' a}:(X++[K]++a).set X.length K' =X++[K']++a:=by
 rw[eQ,Bv];simp
def yk{X:ah}{K a b}:(X++[K]++a++b)[X.length]? =some K:=by
 rw[c7,uw];simp
def O0{n o X K a b}:aq n (.ptr X.length o) (λz=>(X++[K]++a++b)[z]?)=dE n o K:=aA yk
def NS{y o v X K a b}:aW y (.ptr X.length o) v (λz=>(X++[K]++a++b)[z]?)=km y o v X.length K:=aL yk
def OJ{pos s X a b}:fy (.ptr X.length 0) (λz=>(X++[.iter s pos]++a++b)[z]?)=dW X.length s pos:=dL yk
def Gc{X:ah}{K K' a b}:(X++[K]++a++b).set X.length K' =X++[K']++a++b:=by
 rw[eQ,yJ];simp
def sG{X:ah}{K a b c}:(X++[K]++a++b++c)[X.length]? =some K:=by
 rw[c7,yk];simp
def OZ{n o X K a b c}:aq n (.ptr X.length o) (λz=>(X++[K]++a++b++c)[z]?)=dE n o K:=aA sG
def NR{y o v X K a b c}:aW y (.ptr X.length o) v (λz=>(X++[K]++a++b++c)[z]?)=km y o v X.length K:=aL sG
def OI{pos s X a b c}:fy (.ptr X.length 0) (λz=>(X++[.iter s pos]++a++b++c)[z]?)=dW X.length s pos:=dL sG
def Gb{X:ah}{K K' a b c}:(X++[K]++a++b++c).set X.length K' =X++[K']++a++b++c:=by
 rw[eQ,Gc];simp
def sF{X:ah}{K a b c d}:(X++[K]++a++b++c++d)[X.length]? =some K:=by
 rw[c7,sG];simp
def OY{n o X K a b c d}:aq n (.ptr X.length o) (λz=>(X++[K]++a++b++c++d)[z]?)=dE n o K:=aA sF
def NQ{y o v X K a b c d}:aW y (.ptr X.length o) v (λz=>(X++[K]++a++b++c++d)[z]?)=km y o v X.length K:=aL sF
def OH{pos s X a b c d}:fy (.ptr X.length 0) (λz=>(X++[.iter s pos]++a++b++c++d)[z]?)=dW X.length s pos:=dL sF
def Bq{X:ah}{K K' a b c d}:(X++[K]++a++b++c++d).set X.length K' =X++[K']++a++b++c++d:=by
 rw[eQ,Gb];simp
def C0{X:ah}{K a b c d e}:(X++[K]++a++b++c++d++e)[X.length]? =some K:=by
 rw[c7,sF];simp
def OX{n o X K a b c d e}:aq n (.ptr X.length o) (λz=>(X++[K]++a++b++c++d++e)[z]?)=dE n o K:=aA C0
def NP{y o v X K a b c d e}:aW y (.ptr X.length o) v (λz=>(X++[K]++a++b++c++d++e)[z]?)=km y o v X.length K:=aL C0
def OG{pos s X a b c d e}:fy (.ptr X.length 0) (λz=>(X++[.iter s pos]++a++b++c++d++e)[z]?)=dW X.length s pos:=dL C0
def Ga{X:ah}{K K' a b c d e}:(X++[K]++a++b++c++d++e).set X.length K' =X++[K']++a++b++c++d++e:=by
 rw[eQ,Bq];simp
def Fp{X:ah}{K a b c d e f}:(X++[K]++a++b++c++d++e++f)[X.length]? =some K:=by
 rw[c7,C0];simp
def OW{n o X K a b c d e f}:aq n (.ptr X.length o) (λz=>(X++[K]++a++b++c++d++e++f)[z]?)=dE n o K:=aA Fp
def NO{y o v X K a b c d e f}:aW y (.ptr X.length o) v (λz=>(X++[K]++a++b++c++d++e++f)[z]?)=km y o v X.length K:=aL Fp
def OF{pos s X a b c d e f}:fy (.ptr X.length 0) (λz=>(X++[.iter s pos]++a++b++c++d++e++f)[z]?)=dW X.length s pos:=dL Fp
def F9{X:ah}{K K' a b c d e f}:(X++[K]++a++b++c++d++e++f).set X.length K' =X++[K']++a++b++c++d++e++f:=by
 rw[eQ,Ga];simp
def Fo{X:ah}{K a b c d e f g}:(X++[K]++a++b++c++d++e++f++g)[X.length]? =some K:=by
 rw[c7,Fp];simp
def OV{n o X K a b c d e f g}:aq n (.ptr X.length o) (λz=>(X++[K]++a++b++c++d++e++f++g)[z]?)=dE n o K:=aA Fo
def NN{y o v X K a b c d e f g}:aW y (.ptr X.length o) v (λz=>(X++[K]++a++b++c++d++e++f++g)[z]?)=km y o v X.length K:=aL Fo
def OE{pos s X a b c d e f g}:fy (.ptr X.length 0) (λz=>(X++[.iter s pos]++a++b++c++d++e++f++g)[z]?)=dW X.length s pos:=dL Fo
def F8{X:ah}{K K' a b c d e f g}:(X++[K]++a++b++c++d++e++f++g).set X.length K' =X++[K']++a++b++c++d++e++f++g:=by
 rw[eQ,F9];simp
def Fm{X:ah}{K a b c d e f g i}:(X++[K]++a++b++c++d++e++f++g++i)[X.length]? =some K:=by
 rw[c7,Fo];simp
def OU{n o X K a b c d e f g i}:aq n (.ptr X.length o) (λz=>(X++[K]++a++b++c++d++e++f++g++i)[z]?)=dE n o K:=aA Fm
def NM{y o v X K a b c d e f g i}:aW y (.ptr X.length o) v (λz=>(X++[K]++a++b++c++d++e++f++g++i)[z]?)=km y o v X.length K:=aL Fm
def OD{pos s X a b c d e f g i}:fy (.ptr X.length 0) (λz=>(X++[.iter s pos]++a++b++c++d++e++f++g++i)[z]?)=dW X.length s pos:=dL Fm
def F7{X:ah}{K K' a b c d e f g i}:(X++[K]++a++b++c++d++e++f++g++i).set X.length K' =X++[K']++a++b++c++d++e++f++g++i:=by
 rw[eQ,F8];simp
def Fl{X:ah}{K a b c d e f g i j}:(X++[K]++a++b++c++d++e++f++g++i++j)[X.length]? =some K:=by
 rw[c7,Fm];simp
def OT{n o X K a b c d e f g i j}:aq n (.ptr X.length o) (λz=>(X++[K]++a++b++c++d++e++f++g++i++j)[z]?)=dE n o K:=aA Fl
def NL{y o v X K a b c d e f g i j}:aW y (.ptr X.length o) v (λz=>(X++[K]++a++b++c++d++e++f++g++i++j)[z]?)=km y o v X.length K:=aL Fl
def OC{pos s X a b c d e f g i j}:fy (.ptr X.length 0) (λz=>(X++[.iter s pos]++a++b++c++d++e++f++g++i++j)[z]?)=dW X.length s pos:=dL Fl
def F6{X:ah}{K K' a b c d e f g i j}:(X++[K]++a++b++c++d++e++f++g++i++j).set X.length K' =X++[K']++a++b++c++d++e++f++g++i++j:=by
 rw[eQ,F7];simp
def zk{X:ah}{K a b c d e f g i j m}:(X++[K]++a++b++c++d++e++f++g++i++j++m)[X.length]? =some K:=by
 rw[c7,Fl];simp
def LF{n o X K a b c d e f g i j m}:aq n (.ptr X.length o) (λz=>(X++[K]++a++b++c++d++e++f++g++i++j++m)[z]?)=dE n o K:=aA zk
def KP{y o v X K a b c d e f g i j m}:aW y (.ptr X.length o) v (λz=>(X++[K]++a++b++c++d++e++f++g++i++j++m)[z]?)=km y o v X.length K:=aL zk
def Ll{pos s X a b c d e f g i j m}:fy (.ptr X.length 0) (λz=>(X++[.iter s pos]++a++b++c++d++e++f++g++i++j++m)[z]?)=dW X.length s pos:=dL zk
def Bu{X:ah}{K K' a b c d e f g i j m}:(X++[K]++a++b++c++d++e++f++g++i++j++m).set X.length K' =X++[K']++a++b++c++d++e++f++g++i++j++m:=by
 rw[eQ,F6];simp
def zj{X:ah}{K a b c d e f g i j m p}:(X++[K]++a++b++c++d++e++f++g++i++j++m++p)[X.length]? =some K:=by
 rw[c7,zk];simp
def LD{n o X K a b c d e f g i j m p}:aq n (.ptr X.length o) (λz=>(X++[K]++a++b++c++d++e++f++g++i++j++m++p)[z]?)=dE n o K:=aA zj
def KO{y o v X K a b c d e f g i j m p}:aW y (.ptr X.length o) v (λz=>(X++[K]++a++b++c++d++e++f++g++i++j++m++p)[z]?)=km y o v X.length K:=aL zj
def Lk{pos s X a b c d e f g i j m p}:fy (.ptr X.length 0) (λz=>(X++[.iter s pos]++a++b++c++d++e++f++g++i++j++m++p)[z]?)=dW X.length s pos:=dL zj
def Bt{X:ah}{K K' a b c d e f g i j m p}:(X++[K]++a++b++c++d++e++f++g++i++j++m++p).set X.length K' =X++[K']++a++b++c++d++e++f++g++i++j++m++p:=by
 rw[eQ,Bu];simp
def zi{X:ah}{K a b c d e f g i j m p q}:(X++[K]++a++b++c++d++e++f++g++i++j++m++p++q)[X.length]? =some K:=by
 rw[c7,zj];simp
def LC{n o X K a b c d e f g i j m p q}:aq n (.ptr X.length o) (λz=>(X++[K]++a++b++c++d++e++f++g++i++j++m++p++q)[z]?)=dE n o K:=aA zi
def KN{y o v X K a b c d e f g i j m p q}:aW y (.ptr X.length o) v (λz=>(X++[K]++a++b++c++d++e++f++g++i++j++m++p++q)[z]?)=km y o v X.length K:=aL zi
def Lj{pos s X a b c d e f g i j m p q}:fy (.ptr X.length 0) (λz=>(X++[.iter s pos]++a++b++c++d++e++f++g++i++j++m++p++q)[z]?)=dW X.length s pos:=dL zi
def Bs{X:ah}{K K' a b c d e f g i j m p q}:(X++[K]++a++b++c++d++e++f++g++i++j++m++p++q).set X.length K' =X++[K']++a++b++c++d++e++f++g++i++j++m++p++q:=by
 rw[eQ,Bt];simp
def zh{X:ah}{K a b c d e f g i j m p q r}:(X++[K]++a++b++c++d++e++f++g++i++j++m++p++q++r)[X.length]? =some K:=by
 rw[c7,zi];simp
def LB{n o X K a b c d e f g i j m p q r}:aq n (.ptr X.length o) (λz=>(X++[K]++a++b++c++d++e++f++g++i++j++m++p++q++r)[z]?)=dE n o K:=aA zh
def KM{y o v X K a b c d e f g i j m p q r}:aW y (.ptr X.length o) v (λz=>(X++[K]++a++b++c++d++e++f++g++i++j++m++p++q++r)[z]?)=km y o v X.length K:=aL zh
def Li{pos s X a b c d e f g i j m p q r}:fy (.ptr X.length 0) (λz=>(X++[.iter s pos]++a++b++c++d++e++f++g++i++j++m++p++q++r)[z]?)=dW X.length s pos:=dL zh
def Br{X:ah}{K K' a b c d e f g i j m p q r}:(X++[K]++a++b++c++d++e++f++g++i++j++m++p++q++r).set X.length K' =X++[K']++a++b++c++d++e++f++g++i++j++m++p++q++r:=by
 rw[eQ,Bs];simp
def C1{X:ah}{K a b c d e f g i j m p q r t}:(X++[K]++a++b++c++d++e++f++g++i++j++m++p++q++r++t)[X.length]? =some K:=by
 rw[c7,zh];simp
def LA{n o X K a b c d e f g i j m p q r t}:aq n (.ptr X.length o) (λz=>(X++[K]++a++b++c++d++e++f++g++i++j++m++p++q++r++t)[z]?)=dE n o K:=aA C1
def KL{y o v X K a b c d e f g i j m p q r t}:aW y (.ptr X.length o) v (λz=>(X++[K]++a++b++c++d++e++f++g++i++j++m++p++q++r++t)[z]?)=km y o v X.length K:=aL C1
def Lh{pos s X a b c d e f g i j m p q r t}:fy (.ptr X.length 0) (λz=>(X++[.iter s pos]++a++b++c++d++e++f++g++i++j++m++p++q++r++t)[z]?)=dW X.length s pos:=dL C1
def Hp{X:ah}{K K' a b c d e f g i j m p q r t}:(X++[K]++a++b++c++d++e++f++g++i++j++m++p++q++r++t).set X.length K' =X++[K']++a++b++c++d++e++f++g++i++j++m++p++q++r++t:=by
 rw[eQ,Br];simp
def LJ{o:Nat}{c:List AV}{mu tl:Bool}{x:AV}(hx:c[o]? =some x):dE none o (.cells c mu tl)=some (x,.au):=by simp only[dE,hx]
def LI{o n:Nat}{c:List AV}{mu tl:Bool}(hx:o+n<=c.length):dE (some n) o (.cells c mu tl)=some (.agg ((c.drop o).take n),.au):=by simp only[dE];rw[Zb hx]
def lT{n o b:Nat}{c l:List AV}{tl:Bool}(h1:l.length=n)(h2:l.all AV.one=true)(h3:o+n<=c.length):km n o (.agg l) b (.cells c true tl)=some (az,.set b (.cells (fK c o l) true tl)):=by
 show(if l.length=n/\l.all AV.one=true/\o+n<=c.length then _ else none)=_;rw[Zb ⟨h1,h2,h3⟩];rfl
def AV.mq{v:AV}(hv:v.one=true):v.cells=[v]:=by cases v<;>first|rfl|cases hv
def bX{o b:Nat}{c:List AV}{v:AV}{tl:Bool}(h2:v.one=true)(h3:o+1<=c.length):km 1 o v b (.cells c true tl)=some (az,.set b (.cells (c.set o v) true tl)):=by
 simp only[km,AV.mq h2];rw[Zb ⟨rfl,by simp[h2],h3⟩];rfl
def Bx{c:List AV}{o:Nat}:fK c o []=c:=rfl
def pn{c:List AV}{o:Nat}{x:AV}{xs:List AV}:fK c o (x::xs)=fK (c.set o x) (o+1) xs:=rfl
def GW{z:List AV}:dN 0 z=[]:=rfl
def AZ{n:Nat}{z:List AV}:dN (n+1) z=z++dN n z:=rfl
def Cv{c:List AV}:eI c []=some c:=rfl
def Cu{c:List AV}{off:Nat}{v:AV}{r:List (Nat×Nat×AV)}(h2:v.one=true)(h3:off+1<=c.length):eI c ((off,1,v)::r)=eI (c.set off v) r:=by
 simp only[eI,AV.mq h2];rw[Zb ⟨rfl,h3⟩];rfl
def Cw{c l:List AV}{off n:Nat}{r:List (Nat×Nat×AV)}(h2:l.length=n)(h3:off+n<=c.length):eI c ((off,n,.agg l)::r)=eI (fK c off l) r:=by
 show(if l.length=n/\off+n<=c.length then eI (fK c off l) r else none)=_;rw[Zb ⟨h2,h3⟩]
def yf{es n N:Nat}{c:List AV}(h1:c.all AV.one=true)(h2:c.length=n*es)(h3:1<=n):yg es n (some c) N=some (.slice N 0 n es,.push (.cells c true true)):=by
 have:Nat.beq n 0=false:=by cases n with|zero=>omega|succ n=>rfl
 simp only[yg];rw[Zb ⟨h1,h2⟩,this];rfl
def MA{es N:Nat}:yg es 0 (some []) N=some (.slice N 0 0 es,.push (.cells [] true false)):=by
 simp only[yg];rw[Zb ⟨rfl,Si⟩];rfl
def HS{f:Nat×cX->Nat×Nat×AV}:List.map f []=[]:=rfl
def HQ{f:Nat×cX->Nat×Nat×AV}{a:Nat×cX}{l:List (Nat×cX)}:List.map f (a::l)=f a::l.map f:=rfl
def HP{f:Nat×Nat×cX->Nat×Nat×AV}:List.map f []=[]:=rfl
def HO{f:Nat×Nat×cX->Nat×Nat×AV}{a:Nat×Nat×cX}{l:List (Nat×Nat×cX)}:List.map f (a::l)=f a::l.map f:=rfl
def Ep{l:List AV}:l.drop 0=l:=rfl
def Eo{a:AV}{l:List AV}{n:Nat}:(a::l).drop (n+1)=l.drop n:=rfl
def En{l:List AV}:l.take 0=[]:=Si
def Em{a:AV}{l:List AV}{n:Nat}:(a::l).take (n+1)=a::l.take n:=rfl
def Ic{a:AV}{l:List AV}:(a::l)[0]? =some a:=rfl
def Ib{a:AV}{l:List AV}{n:Nat}:(a::l)[n+1]? =l[n]? :=rfl
abbrev aK(x:Int):List AV:=[.int .i64 x]
def cj{X:ah}(l:List Int):aH (X++[.cells (l.map (AV.int .i64)) true true]) (.slice X.length 0 l.length 1) 1 (l.map aK):=by
 have hf:(l.map aK).flatten=l.map (AV.int .i64):=by induction l with
  |nil=>rfl
  |cons x xs ih=>simp[aK]at ih ⊢;exact ih
 have h1:(l.map aK).length=l.length:=Si
 rw[<-h1];exact .mk (by simp;exact⟨rfl,rfl,rfl⟩) (by rw[hf,aa3,h1,aag];exact ZE Si) Si (by simp[aK])
section
variable {h:ah}{s:AV}{es:Nat}{cs:List (List AV)}
def aH.Ly(hs:aH h s es cs){k:ah}{i:Nat}(e:Ext h k)(hi:i<cs.length):aq (some es) (.ptr s.sb (s.so+i*es)) (λb=>k[b]?)=some (.agg cs[i],.au):=(hs.ext e).load hi
def aH.HW(hs:aH h s es cs){k:ah}{i off:Nat}(e:Ext h k)(hi:i<cs.length){x:AV}(hx:cs[i][off]? =some x):aq none (.ptr s.sb (s.so+i*es+off)) (λb=>k[b]?)=some (x,.au):=(hs.ext e).Ce hi hx
def aH.HX(hs:aH h s es cs){k:ah}{i:Nat}(e:Ext h k)(hi:i<cs.length){x:AV}(hx:cs[i][0]? =some x):aq none (.ptr s.sb (s.so+i*es)) (λb=>k[b]?)=some (x,.au):=(hs.ext e).Ce (off:=0) hi hx
end
def aT:=A4 (F2 @O2 @NU @OL @Bv @O1 @NT @OK @yJ @O0 @NS @OJ @Gc @OZ @NR @OI @Gb @OY @NQ @OH @Bq @OX @NP @OG @Ga) (F2 @OW @NO @OF @F9 @OV @NN @OE @F8 @OU @NM @OD @F7 @OT @NL @OC @F6 @LF @KP @Ll @Bu @LD @KO @Lk @Bt) (F2 @LC @KN @Lj @Bs @LB @KM @Li @Br @LA @KL @Lh @Hp @uZ @Dc @Hz @LJ @LI @lT @bX @Bx @pn @GW @AZ @Cv) (wP @Cu @Cw @yf @MA @HS @HQ @HP @HO @Ep @Eo @En @Em @Ic @Ib)
def sj:
  (∀{h:ah},Ext h (h)=True)/\
  (∀{h a:ah},Ext h (h++a)=True)/\
  (∀{h a b:ah},Ext h (h++a++b)=True)/\
  (∀{h a b c:ah},Ext h (h++a++b++c)=True)/\
  (∀{h a b c d:ah},Ext h (h++a++b++c++d)=True)/\
  (∀{h a b c d e:ah},Ext h (h++a++b++c++d++e)=True)/\
  (∀{h a b c d e f:ah},Ext h (h++a++b++c++d++e++f)=True)/\
  (∀{h a b c d e f g:ah},Ext h (h++a++b++c++d++e++f++g)=True)/\
  (∀{h a b c d e f g i:ah},Ext h (h++a++b++c++d++e++f++g++i)=True)/\
  (∀{h a b c d e f g i j:ah},Ext h (h++a++b++c++d++e++f++g++i++j)=True):=
 ⟨@GH,@GG,@GF,@GD,@GC,@GB,@GA,@Gz,@Gy,@Gx⟩
end Go.Abs
namespace Go.Abs
def Q4:Option AV->Option (AV×iT)
 |some x=>some (x,.au)
 |none=>none
def LG{x}:Q4 (some x)=some (x,.au):=rfl
def LH{o c mu tl}:dE none o (.cells c mu tl)=Q4 c[o]? :=rfl
def cN(s:AV)(es i:Nat):AV:=.ptr s.sb (s.so+i*es)
def lL(s:AV)(es i off:Nat):AV:=.ptr s.sb (s.so+i*es+off)
def EI{s es i off}:tE off (cN s es i)=some (lL s es i off):=rfl
section
variable {α:Type}{row:α->List AV}{L:List α}{h k:ah}{s:AV}{es:Nat}
def aH.aJ(hs:aH h s es (L.map row))(G:Nat->Option ak):Go.Abs.jh .sl G s=some L.length:=by
 rw[hs.jh G,YY]
def aH.dG(hs:aH h s es (L.map row)){i:Nat}{kk}(hi:i<L.length):aS es s (.int kk (i:Int))=some (cN s es i,.au):=by
 rw[hs.bD Om (by rw[YY];omega),Int.toNat_natCast];rfl
def aH.qu(hs:aH h s es (L.map row)){kk}(hi:0<L.length):aS es s (.int kk 0)=some (cN s es 0,.au):=hs.dG hi
def aH.jD(hs:aH h s es (L.map row)){i}(hi:i<L.length)(e:Ext h k):aq (some es) (cN s es i) (λb=>k[b]?)=some (.agg (row L[i]),.au):=by
 rw[cN,hs.Ly e (by rw[YY];exact hi),Z6]
def aH.pW(hs:aH h s es (L.map row)){i off x}(hi:i<L.length)(hx:(row L[i])[off]? =some x)(e:Ext h k):aq none (lL s es i off) (λb=>k[b]?)=some (x,.au):=
 hs.HW e (by rw[YY];exact hi) (by rw[Z6];exact hx)
def aH.kY(hs:aH h s es (L.map row)){i x}(hi:i<L.length)(hx:(row L[i])[0]? =some x)(e:Ext h k):aq none (cN s es i) (λb=>k[b]?)=some (x,.au):=
 hs.HX e (by rw[YY];exact hi) (by rw[Z6];exact hx)
def aH.Dl(hs:aH h s es (L.map row)){lo hi l u}(hb:jk lo hi L.length=some (l,u)):∃s',zC es s lo hi=some (s',.au)/\aH h s' es (((L.drop l).take (u-l)).map row):=by
 obtain⟨s',h1,h2⟩:=hs.sl (lo:=lo) (hi:=hi) (by rw[YY];exact hb);exact⟨s',h1,by rw[List.map_take,List.map_drop];exact h2⟩
end
def iF{n k:Nat}{kk}(hk:k<=n):jk none (some (.int kk (k:Int))) n=some (0,k):=by
 simp only[jk,HZ,Gs];rw[Zb Om];simp
def my{n k:Nat}{kk}(hk:k<=n):jk (some (.int kk (k:Int))) none n=some (k,n):=by
 simp only[jk,HZ,Gs];rw[Zb Om];simp
def vQ{c r k}:vR (.str (c::r)) (.int k 0)=some (.int .u8 c.toNat):=rfl
def jQ{s i k}(hi:i<s.length):vR (.str s) (.int k (i:Nat))=some (.int .u8 s[i].toNat):=by
 simp[vR,hi]
def wrapN{n:Nat}(h:n+1<2^63):IntKind.i64.wrap ((n:Int)+1)=((n+1:Nat):Int):=by rw[bu Om Om];rfl
def lv:Option (AV×iT)->Option AV
 |some (v,_)=>some v
 |none=>none
def OS{v e}:lv (some (v,e))=some v:=rfl
def cZ{ts h a n}:dz ts h (a,some n)=lv (aq n (slot ts a) (λb=>h[b]?)):=by
 simp only[dz,dx,val,slot];cases ts.getD a az with
 |ptr b o=>
  simp only[aq];cases h[b]? with
  |none=>rfl
  |some k=>
   cases k with
   |cells c mu tl=>
    cases n with
    |none=>simp only;cases c[o]? <;>rfl
    |some n=>simp only;by_cases hc:o+n<=c.length
             ·rw[Zb hc,Zb hc];rfl
             ·rw[Y6 hc,Y6 hc];rfl
   |_=>rfl
 |_=>rfl
def Bk:Option AV->Option AV->Option AV
 |some a,some b=>some (.dM [a,b])
 |_,_=>none
def tQ:Option AV->Option AV->Option AV->Option AV
 |some a,some b,some c=>some (.dM [a,b,c])
 |_,_,_=>none
def Hi{a b}:Bk (some a) (some b)=some (.dM [a,b]):=rfl
def Hh{a b c}:tQ (some a) (some b) (some c)=some (.dM [a,b,c]):=rfl
def zG{ts h r}:cQ [r] ts h=dz ts h r:=by
 simp only[cQ,je];cases dz ts h r<;>rfl
def po{ts h r s}:cQ [r,s] ts h=Bk (dz ts h r) (dz ts h s):=by
 simp only[cQ,je];cases dz ts h r<;>cases dz ts h s<;>rfl
def iu{ts h r s t}:cQ [r,s,t] ts h=tQ (dz ts h r) (dz ts h s) (dz ts h t):=by
 simp only[cQ,je];cases dz ts h r<;>cases dz ts h s<;>cases dz ts h t<;>rfl
def cY{ts h a}:dz ts h (a,none)=some (slot ts a):=rfl
def BO:∀{ts}{h}{x}{nx},cQ [(x,some nx)] ts h=lv (aq nx (slot ts x) (λb=>h[b]?)):=by
 intros;rw[zG];simp only[cZ,cY]
def zH:∀{ts}{h}{x y}{ny},cQ [(x,none),(y,some ny)] ts h=Bk (some (slot ts x)) (lv (aq ny (slot ts y) (λb=>h[b]?))):=by
 intros;rw[po];simp only[cZ,cY]
def zI:∀{ts}{h}{x y}{nx},cQ [(x,some nx),(y,none)] ts h=Bk (lv (aq nx (slot ts x) (λb=>h[b]?))) (some (slot ts y)):=by
 intros;rw[po];simp only[cZ,cY]
def zJ:∀{ts}{h}{x y}{nx ny},cQ [(x,some nx),(y,some ny)] ts h=Bk (lv (aq nx (slot ts x) (λb=>h[b]?))) (lv (aq ny (slot ts y) (λb=>h[b]?))):=by
 intros;rw[po];simp only[cZ,cY]
def xG:∀{ts}{h}{x y z}{nz},cQ [(x,none),(y,none),(z,some nz)] ts h=tQ (some (slot ts x)) (some (slot ts y)) (lv (aq nz (slot ts z) (λb=>h[b]?))):=by
 intros;rw[iu];simp only[cZ,cY]
def xH:∀{ts}{h}{x y z}{ny},cQ [(x,none),(y,some ny),(z,none)] ts h=tQ (some (slot ts x)) (lv (aq ny (slot ts y) (λb=>h[b]?))) (some (slot ts z)):=by
 intros;rw[iu];simp only[cZ,cY]
def xI:∀{ts}{h}{x y z}{ny nz},cQ [(x,none),(y,some ny),(z,some nz)] ts h=tQ (some (slot ts x)) (lv (aq ny (slot ts y) (λb=>h[b]?))) (lv (aq nz (slot ts z) (λb=>h[b]?))):=by
 intros;rw[iu];simp only[cZ,cY]
def xJ:∀{ts}{h}{x y z}{nx},cQ [(x,some nx),(y,none),(z,none)] ts h=tQ (lv (aq nx (slot ts x) (λb=>h[b]?))) (some (slot ts y)) (some (slot ts z)):=by
 intros;rw[iu];simp only[cZ,cY]
def xK:∀{ts}{h}{x y z}{nx nz},cQ [(x,some nx),(y,none),(z,some nz)] ts h=tQ (lv (aq nx (slot ts x) (λb=>h[b]?))) (some (slot ts y)) (lv (aq nz (slot ts z) (λb=>h[b]?))):=by
 intros;rw[iu];simp only[cZ,cY]
def xL:∀{ts}{h}{x y z}{nx ny},cQ [(x,some nx),(y,some ny),(z,none)] ts h=tQ (lv (aq nx (slot ts x) (λb=>h[b]?))) (lv (aq ny (slot ts y) (λb=>h[b]?))) (some (slot ts z)):=by
 intros;rw[iu];simp only[cZ,cY]
def xM:∀{ts}{h}{x y z}{nx ny nz},cQ [(x,some nx),(y,some ny),(z,some nz)] ts h=tQ (lv (aq nx (slot ts x) (λb=>h[b]?))) (lv (aq ny (slot ts y) (λb=>h[b]?))) (lv (aq nz (slot ts z) (λb=>h[b]?))):=by
 intros;rw[iu];simp only[cZ,cY]
def Ir{b}:um false (some b)=some (.bool b):=rfl
def Iq{b}:um true (some b)=some (.bool !b):=rfl
def AE(b:Bool)(o:Option Bool):Option Bool:=
 match b with
 |true=>o
 |false=>some false
def IZ{b c}:AE b (some c)=some (b&&c):=by cases b<;>rfl
def Mq{k a b ks xs ys}:dI (.i::ks) (.int k a::xs) (.int k b::ys)=AE (decide (a=b)) (dI ks xs ys):=by
 exact Kw
def Mo{a b ks xs ys}:dI (.s::ks) (.str a::xs) (.str b::ys)=AE (decide (a=b)) (dI ks xs ys):=by
 exact Kw
def Mr{a b ks xs ys}:dI (.b::ks) (.bool a::xs) (.bool b::ys)=AE (a==b) (dI ks xs ys):=by
 cases a<;>cases b<;>rfl
def Mp:dI [] [] []=some true:=rfl
def Rn{ks xs ys}(h1:xs.length=ks.length)(h2:ys.length=ks.length):pB (.agg ks) (.agg xs) (.agg ys)=dI ks xs ys:=by
 simp only[pB,y7];rw[Zb ⟨h1,h2⟩]
def Ms{a b}:pB (.one .b) (.bool a) (.bool b)=some (a==b):=rfl
def EZ{a:CK}{l:List CK}:(a::l).length=l.length+1:=rfl
def E0:([] :List CK).length=0:=rfl
def Fr.lt{N h s es cs}(hs:Fr N h s es cs){b o n e}(hb:s=.slice b o n e):N<=b/\b<h.length:=by
 cases hs with
 |nil=>cases hb
 |mk hN h1 he=>cases hb;exact⟨hN,(YQ.1 h1).1⟩
def Fr.swap{A B g s es cs}(hs:Fr A.length (A++g) s es cs)(hl:B.length=A.length):Fr A.length (B++g) s es cs:=by
 cases hs with
 |nil=>exact .nil
 | @mk _ _ _ tl hN h1 SM=>
  refine .mk (tl:=tl) hN ?_ SM;rw[Y7 Om]at h1 ⊢;rw[hl];exact h1
def WR.fG{P ro ks ts Q h s y es cs ys h0 w d l}
  (hs:Fr h0.length h s es cs) (hy:aH h y es ys) (hes:0<es) (hne:0<ys.length) (ep:(cs.length+ys.length)*w<=2^46) (he:Ext h0 h)
  (K:∀g,(h0++g).length=h.length+1->Fr h0.length (h0++g) (.slice h.length 0 (cs++ys).length es) es (cs++ys)->(∀b,b<h.length->(∀b0 o n e,s=.slice b0 o n e->b≠b0)->(h0++g)[b]? =h[b]?)->WP P ro l ks (put ts d (.slice h.length 0 (cs++ys).length es)) (h0++g) Q):
  WR P ro (pF es w s y (λb=>h[b]?) h.length) false d l ks ts h Q:=by
 have TE:∀x∈cs++ys,x.length=es:=λx hx=>by
  exact Kf
 have hk:¬ys.length=0:=Om
 simp only[pF,hy.fg];cases hs with
 |nil=>
  simp only[YX,ZN]at ep;simp only[Y6 hk,Zb ep];rw[mz];have hx:=Fr.push (N:=h0.length) he.len ys hy.rows;obtain⟨g,rfl⟩:=he;have hK:=K (g++[.cells ys.flatten true true]) (by simp;omega);simp only[<-YR,aaz]at hK;exact hK hx λb hb _=>YT hb
 | @mk b _ _ tl hN hb hre=>
  have hcl:=eG hre;cases tl with
  |false=>
   simp only[Zi,Y6 hk,Zb ep,hb,ZN];rw[Zb Om,mz,aag];have hx:=Fr.push (h:=h) (N:=h0.length) (es:=es) he.len (cs++ys) TE;simp only[YP,aaC]at hx ⊢;obtain⟨g,rfl⟩:=he;have hK:=K (g++[.cells (cs.flatten++ys.flatten) true true]) (by simp;omega);simp only[<-YR,YP,aaC]at hK hx ⊢;exact hK hx λb hb _=>YT (by simpa using hb)
  |true=>
  simp only[Zi,Y6 hk,Zb ep,hb,ZN];rw[Zb Om,nE];have hbl:b<h.length:=(YQ.1 hb).1;have hx:=Fr.push (h:=h.set b .dead) (N:=h0.length) (es:=es) (by simpa using he.len) (cs++ys) TE;have hc:List.take (cs.length*es) (List.drop 0 cs.flatten)=cs.flatten:=by rw[aag,<-hcl,ZA]
  rw[hc];obtain⟨g,rfl⟩:=he;have aT:(h0++g).set b .dead++[ak.cells (cs.flatten++ys.flatten) true true]=h0++(g.set (b-h0.length) .dead++[ak.cells (cs.flatten++ys.flatten) true true]):=by
   rw[ZV _ _ hN,YR]
  have hK:=K (g.set (b-h0.length) .dead++[.cells (cs.flatten++ys.flatten) true true]) (by simp;omega);rw[<-aT]at hK;simp only[ZI,aaC,YP]at hx hK ⊢;refine hK hx ?_;intro i hi hne;have:=hne b 0 _ _ rfl;rw[YT (by simpa using hi),Zc (aam this)]
def B2{k n}:AV.one (.int k n)=true:=rfl
def Lf{b}:AV.one (.bool b)=true:=rfl
def Gh{b}:AV.one (.str b)=true:=rfl
def Lb{b o}:AV.one (.ptr b o)=true:=rfl
def Ld{b o n e}:AV.one (.slice b o n e)=true:=rfl
def Lc:AV.one .af=true:=rfl
def Le{f a c}:AV.one (.func f a c)=true:=rfl
def C4{a l}:(a::l).all AV.one=(a.one&&l.all AV.one):=rfl
def C3:([] :List AV).all AV.one=true:=rfl
def bI.o(n:Nat)(k:pf):bI:=⟨some n,k,none,false⟩
def bI.x(k:pf):bI:=⟨none,k,none,false⟩
def bI.m(n i:Nat):bI:=⟨some n,.cA (.t i),none,false⟩
def bI.y(n:Nat)(k:pf):bI:=⟨some n,k,none,true⟩
def bI.l(n i:Nat):bI:=⟨some n,.load none (.t i),none,false⟩
def bI.a(n o i:Nat):bI:=⟨some n,.aU o (.t i),none,false⟩
def bI.c(n f:Nat)(l:List cX):bI:=⟨some n,.call (.f f) l,none,false⟩
def bI.b(n:Nat)(k:BinOp)(x y:cX):bI:=⟨some n,.bin k x y,none,false⟩
def bI.e(n i j:Nat):bI:=⟨some n,.ext (.t i) j,none,false⟩
def bI.s(w i j:Nat):bI:=⟨none,.store w (.t i) (.t j),none,false⟩
def bI.r(n w i:Nat):bI:=⟨some n,.load (some w) (.t i),none,false⟩
def bI.p(n i:Nat):bI:=⟨some n,.box (.t i),none,false⟩
def bI.u(n:Nat)(k:BinOp)(i j:Nat):bI:=⟨some n,.bin k (.t i) (.t j),none,false⟩
def bI.h(n w i j:Nat):bI:=⟨some n,.bD w (.t i) (.t j),none,false⟩
def bI.d(n i j:Nat):bI:=⟨some n,.pick (.t i) (.t j) (.c (.bool false)),none,false⟩
def bI.f(n i j:Nat):bI:=⟨some n,.pick (.t i) (.c (.bool true)) (.t j),none,false⟩
def bI.n(n i:Nat):bI:=⟨some n,.len .sl (.t i),none,false⟩
def cX.n(k:Int):cX:=.c (.int .i64 k)
def ai.s(l:List bI)(b:ai):ai:=.seq (.ops l) b
def ai.r(l:List bI):ai:=.seq (.ops l) .ret
def bI.j(n i:Nat):bI:=⟨some n,.load none (.t i),none,true⟩
def bI.w(n i:Nat):bI:=⟨some n,.cA (.t i),none,true⟩
def bI.t(n c:Nat)(b:Bool)(i:Nat):bI:=⟨some n,.cA (.t i),some (c,b),false⟩
def bI.v(n:Nat)(k:BinOp)(i:Nat)(y:cX):bI:=⟨some n,.bin k (.t i) y,none,false⟩
def cX.T:cX:=.c (.bool true)
def cX.F:cX:=.c (.bool false)
def ai.j(n:Nat)(l:List bI):ai:=.cond (.t n) (.seq (.ops l) .ret) .skip
def ai.i(n:Nat)(a b:ai):ai:=.cond (.t n) a b
def bI.g(n c:Nat)(b:Bool)(k:pf):bI:=⟨some n,k,some (c,b),false⟩
def cX.z:cX:=.c (.int .i64 0)
def cX.w:cX:=.c (.int .i64 1)
def PM:∀{n i},bI.m n i=⟨some n,.cA (.t i),none,false⟩:=rfl
def PL:∀{n c}{b}{k},bI.g n c b k=⟨some n,k,some (c,b),false⟩:=rfl
def PK:∀{n}{k},bI.o n k=⟨some n,k,none,false⟩:=rfl
def PJ:∀{k},bI.x k=⟨none,k,none,false⟩:=rfl
def PI:(cX.z=.c (.int .i64 0)):=rfl
def PH:(cX.w=.c (.int .i64 1)):=rfl
def Pz:∀{n}{k},bI.y n k=⟨some n,k,none,true⟩:=rfl
def PB:∀{n i},bI.l n i=⟨some n,.load none (.t i),none,false⟩:=rfl
def PG:∀{n o i},bI.a n o i=⟨some n,.aU o (.t i),none,false⟩:=rfl
def PE:∀{n f}{l},bI.c n f l=⟨some n,.call (.f f) l,none,false⟩:=rfl
def PF:∀{n}{k}{x y},bI.b n k x y=⟨some n,.bin k x y,none,false⟩:=rfl
def PD:∀{n i j},bI.e n i j=⟨some n,.ext (.t i) j,none,false⟩:=rfl
def Px:∀{w i j},bI.s w i j=⟨none,.store w (.t i) (.t j),none,false⟩:=rfl
def Py:∀{n w i},bI.r n w i=⟨some n,.load (some w) (.t i),none,false⟩:=rfl
def PA:∀{n i},bI.p n i=⟨some n,.box (.t i),none,false⟩:=rfl
def Pv:∀{n}{k}{i j},bI.u n k i j=⟨some n,.bin k (.t i) (.t j),none,false⟩:=rfl
def PC:∀{n}{a b},ai.i n a b=.cond (.t n) a b:=rfl
def Iz:∀{n w i j:Nat},bI.h n w i j=⟨some n,.bD w (.t i) (.t j),none,false⟩:=rfl
def IB:∀{n i j:Nat},bI.d n i j=⟨some n,.pick (.t i) (.t j) (.c (.bool false)),none,false⟩:=rfl
def IA:∀{n i j:Nat},bI.f n i j=⟨some n,.pick (.t i) (.c (.bool true)) (.t j),none,false⟩:=rfl
def Iy:∀{n i:Nat},bI.n n i=⟨some n,.len .sl (.t i),none,false⟩:=rfl
def Ix:∀{k:Int},cX.n k=.c (.int .i64 k):=rfl
def IC:∀{l:List bI}{b:ai},ai.s l b=.seq (.ops l) b:=rfl
def ID:∀{l:List bI},ai.r l=.seq (.ops l) .ret:=rfl
def IE:∀{n:Nat}{l:List bI},ai.j n l=.cond (.t n) (.seq (.ops l) .ret) .skip:=rfl
def Iw:∀{n i:Nat},bI.j n i=⟨some n,.load none (.t i),none,true⟩:=rfl
def It:∀{n i:Nat},bI.w n i=⟨some n,.cA (.t i),none,true⟩:=rfl
def Iv:∀{n c:Nat}{b:Bool}{i:Nat},bI.t n c b i=⟨some n,.cA (.t i),some (c,b),false⟩:=rfl
def Iu:∀{n:Nat}{k:BinOp}{i:Nat}{y:cX},bI.v n k i y=⟨some n,.bin k (.t i) y,none,false⟩:=rfl
def Pt:cX.T=.c (.bool true):=rfl
def Pu:cX.F=.c (.bool false):=rfl
def uset:=A8 @Pt @Pu @Iw @It @Iv @Iu @IE (F2 @Iz @IB @IA @Iy @Ix @IC @ID @Pz @PB @PG @PE @PF @PD @Px @Py @PA @Pv @PC @PM @PL @PK @PJ @PI @PH)
def bo:=A3 uset (GU @ZN @LG @LH @OS @Hi @Hh @BO @zH @zI @zJ @xG @xH @xI @xJ @xK @xL @xM @Ir) (M0 @Iq @IZ @Mq @Mo @Mr @Mp @Rn @Ms @EZ @E0 @EI @B2 @Lf @Gh @Lb @Ld @Lc @Le @C4 @C3 @aao @E3)
def LZ(o:Option AV)(X:Prop):Prop:=
 match o with
 |some _=>X
 |none=>False
def bp:
  (∀{P}{ro}{ks}{ts}{h}{Q}{q}{l}{n i}{x},WP P ro ({dst:=some i,k:=.oE n x,gd:=none,q:=q} ::l) ks ts h Q=LZ ts[i]? (WR P ro (oD n (val ts x) h.length) q (some i) l ks ts h Q))/\
  (∀{a:AV}{X:Prop},LZ (some a) X=X)/\
  (∀{k:IntKind}{z:Int}{N:Nat},oD 1 (.int k z) N=some (.ptr N 0,.push (.cells [.int k z] true false)))/\
  (∀{b:Bool}{N:Nat},oD 1 (.bool b) N=some (.ptr N 0,.push (.cells [.bool b] true false)))/\
  (∀{b:By}{N:Nat},oD 1 (.str b) N=some (.ptr N 0,.push (.cells [.str b] true false)))/\
  (∀{N:Nat},pD .af N=some (.ptr N 0,.push (.cells [.af] true false)))/\
  (∀{v:AV}{N:Nat}(_:v.one=true),pD v N=some (.ptr N 0,.push (.cells [v] true false)))/\
  (∀{v:AV}{N:Nat}(_:v.one=true),oD 1 v N=some (.ptr N 0,.push (.cells [v] true false)))/\
  (∀{l:List AV}{n N:Nat}(_:l.all AV.one=true) (_:l.length=n),oD n (.agg l) N=some (.ptr N 0,.push (.cells l true false))):=by
 refine⟨?_,rfl,rfl,rfl,rfl,rfl,?_,?_,?_⟩
 ·intro P ro ks ts h Q q l n i x;rw[FN];by_cases hi:i<ts.length
  ·rw[YU hi];simp[LZ,hi]
  ·rw[aaR Om];simp[LZ,hi]
 ·intro v N h;simp only[pD,AV.mq h];rw[Zb (by simp[h])]
 ·intro v N h;simp only[oD,AV.mq h];rw[Zb ⟨by simp[h],rfl⟩]
 ·intro l n N h1 h2;unfold oD;exact Zb ⟨h1,h2⟩
set_option maxRecDepth 100000
set_option maxHeartbeats 0
def iN(n:Nat):Int.ofNat (no_index (OfNat.ofNat n))=OfNat.ofNat n:=rfl
def iM:Int.negSucc 0= -1:=rfl
def iB(n:Nat)(h:OfNat.ofNat n<2^8):UInt8.ofBitVec (BitVec.ofFin (Fin.mk (no_index (OfNat.ofNat n)) h))=OfNat.ofNat n:=by
 refine UInt8.toNat_inj.1 ?_;show n=n%256;have:n<2^8:=h;omega
def gA(n:Nat){A:ar}(_:bQ Go.Proofs.Tryz.prog n=some A:=by conv=>lhs;reduce;try simp only[iN,iM,iB]):ar:=A
def fn2:ar:=gA 2
def fn3:ar:=gA 3
def fn4:ar:=gA 4
def fn5:ar:=⟨383,2,[(4,none)],(.s [.o 4 (.cA .F)] (.seq (.s [.m 43 0,.c 44 33 [.t 43,.n 20],.o 45 (.un .not (.t 44))] (.j 45 [.c 46 15 [],.m 4 46])) (.s [.m 48 0,.c 49 34 [.t 48],.m 47 49,.e 50 47 0,.e 51 47 1,.e 52 47 2,.o 5 (.box (.c (.agg [.int .i64 0,.af,.af,.af,.af,.af,.af]))),.s 7 5 50,.m 6 51,.m 7 52] (.seq (.s [.m 53 7,.v 54 .neq 53 .z,.m 55 54,.g 56 55 false (.aU 3 (.t 5)),.g 57 55 false (.load none (.t 56)),.g 58 55 false (.len .sl (.t 57)),.g 59 55 false (.bin .gtr (.t 58) (.n 20)),.f 60 55 59,.m 61 60,.g 62 61 false (.aU 2 (.t 5)),.g 63 61 false (.load none (.t 62)),.g 64 61 false (.len .sl (.t 63)),.g 65 61 false (.bin .gtr (.t 64) (.n 20)),.f 66 61 65] (.j 66 [.o 4 (.cA .F)])) (.s [.m 67 1,.o 68 (.conv (.Jw .i64) (.t 67)),.m 8 68] (.s [.o 69 (.mJ),.m 9 69] (.seq (.s [.a 70 2 5,.l 71 70,.n 72 71,.o 73 (.cA .z)] (.block 0 (.loop (.s [.u 74 .lss 73 72] (.seq (.i 74 .skip (.exit 0)) (.seq (.block 1 (.s [.h 75 2 71 73,.r 76 2 75,.o 11 (.box (.c (.agg [.str [],.int .i64 0]))),.s 2 11 76] (.ops [.m 77 9,.a 78 0 11,.l 79 78,.a 80 1 11,.l 81 80,.x (.fE .s (.t 77) (.t 79) (.t 81))]))) (.ops [.v 82 .add 73 .w,.m 73 82]))))))) (.seq (.s [.a 83 3 5,.l 84 83,.n 85 84,.o 86 (.cA .z)] (.block 2 (.loop (.s [.u 87 .lss 86 85] (.seq (.i 87 .skip (.exit 2)) (.seq (.block 3 (.s [.h 88 3 84 86,.r 89 3 88,.o 13 (.box (.c (.agg [.str [],.str [],.af]))),.s 3 13 89] (.s [.o 14 (.cA .F)] (.seq (.s [.a 90 2 13,.l 91 90,.n 92 91,.o 93 (.cA .z)] (.block 4 (.loop (.s [.u 94 .lss 93 92] (.seq (.i 94 .skip (.exit 4)) (.seq (.block 5 (.s [.h 95 1 91 93,.l 96 95,.m 16 96] (.ops [.m 97 14,.m 98 97,.t 99 98 false 9,.t 100 98 false 16,.g 101 98 false (.look .s (.int .i64 0) false (.t 99) (.t 100)),.t 102 98 false 8,.g 103 98 false (.bin .geq (.t 101) (.t 102)),.f 104 98 103,.m 14 104]))) (.ops [.v 105 .add 93 .w,.m 93 105]))))))) (.s [.m 107 0,.a 108 0 13,.l 109 108,.m 110 8,.c 111 16 [.t 107,.t 109,.t 110],.m 106 111,.e 112 106 0,.e 113 106 1,.m 17 112,.m 18 113] (.s [.m 115 0,.a 116 0 13,.l 117 116,.m 118 8,.v 119 .add 118 .w,.c 120 16 [.t 115,.t 117,.t 119],.m 114 120,.e 121 114 0,.e 122 114 1,.m 19 121,.m 20 122] (.s [.m 123 18,.v 124 .neq 123 .z,.m 125 124,.t 126 125 false 20,.g 127 125 false (.bin .neq (.t 126) .z),.f 128 125 127,.m 129 128,.t 130 129 false 17,.t 131 129 false 14,.g 132 129 false (.eqv true (.one .b) (.t 130) (.t 131)),.f 133 129 132,.m 134 133,.t 135 134 false 19,.t 136 134 false 135,.t 137 136 true 17,.g 138 136 true (.un .not (.t 137)),.g 139 134 false (.pick (.t 136) (.t 138) .F),.f 140 134 139,.m 141 140,.g 142 141 false (.aU 2 (.t 13)),.g 143 141 false (.load none (.t 142)),.g 144 141 false (.len .sl (.t 143)),.g 145 141 false (.bin .eql (.t 144) .z),.f 146 141 145] (.j 146 [.o 4 (.cA .F)])))))))) (.ops [.v 147 .add 86 .w,.m 86 147]))))))) (.seq (.s [.m 148 0,.n 149 148,.o 150 (.cA .z)] (.block 6 (.loop (.s [.u 151 .lss 150 149] (.seq (.i 151 .skip (.exit 6)) (.seq (.block 7 (.s [.m 152 150,.h 153 5 148 150,.r 154 5 153,.o 22 (.box (.c (.agg [.int .i64 0,.str [],.af,.af,.str []]))),.m 21 152,.s 5 22 154] (.seq (.s [.a 155 1 22,.l 156 155,.v 157 .neq 156 (.c (.str [97,99,99,101,112,116])),.m 158 157,.g 159 158 true (.aU 1 (.t 22)),.g 160 158 true (.load none (.t 159)),.g 161 158 true (.bin .neq (.t 160) (.c (.str [99,111,112,121]))),.d 162 158 161] (.i 162 (.exit 7) .skip)) (.s [.m 164 0,.m 165 21,.o 166 (.sl 5 (.t 164) none (some (.t 165))),.c 167 34 [.t 166],.m 163 167,.e 168 163 0,.e 169 163 1,.e 170 163 2,.o 23 (.box (.c (.agg [.int .i64 0,.af,.af,.af,.af,.af,.af]))),.s 7 23 168,.m 24 169,.m 25 170] (.s [.m 172 0,.m 173 21,.v 174 .add 173 .w,.o 175 (.sl 5 (.t 172) none (some (.t 174))),.c 176 34 [.t 175],.m 171 176,.e 177 171 0,.e 178 171 1,.e 179 171 2,.o 26 (.box (.c (.agg [.int .i64 0,.af,.af,.af,.af,.af,.af]))),.s 7 26 177,.m 27 178,.m 28 179] (.seq (.s [.m 180 25,.v 181 .neq 180 .z,.m 182 181,.t 183 182 false 28,.g 184 182 false (.bin .neq (.t 183) .z),.f 185 182 184,.m 186 185,.g 187 186 false (.aU 3 (.t 23)),.g 188 186 false (.load none (.t 187)),.g 189 186 false (.len .sl (.t 188)),.g 190 186 false (.aU 3 (.t 26)),.g 191 186 false (.load none (.t 190)),.g 192 186 false (.len .sl (.t 191)),.g 193 186 false (.bin .neq (.t 189) (.t 192)),.f 194 186 193] (.j 194 [.o 4 (.cA .F)])) (.seq (.s [.a 195 1 22,.l 196 195,.v 197 .eql 196 (.c (.str [97,99,99,101,112,116]))] (.i 197 (.s [.o 29 (.cA .z)] (.seq (.s [.a 198 3 23,.l 199 198,.n 200 199,.o 201 (.cA .z)] (.block 8 (.loop (.s [.u 202 .lss 201 200] (.seq (.i 202 .skip (.exit 8)) (.seq (.block 9 (.s [.h 203 3 199 201,.r 204 3 203,.o 31 (.box (.c (.agg [.str [],.str [],.af]))),.s 3 31 204] (.seq (.s [.y 205 (.aU 1 (.t 31)),.j 206 205,.y 207 (.aU 2 (.t 22)),.j 208 207,.y 209 (.bD 1 (.t 208) .z),.j 210 209,.u 211 .neq 206 210] (.i 211 (.exit 9) .skip)) (.s [.m 212 29,.v 213 .add 212 .w,.m 29 213] (.s [.w 215 0,.w 216 21,.y 217 (.sl 5 (.t 215) none (some (.t 216))),.y 218 (.aU 0 (.t 31)),.j 219 218,.y 220 (.aU 3 (.t 22)),.j 221 220,.y 222 (.bD 1 (.t 221) .z),.j 223 222,.c 224 16 [.t 217,.t 219,.t 223],.m 214 224,.y 225 (.ext (.t 214) 0),.y 226 (.ext (.t 214) 1),.w 32 225,.m 33 226] (.s [.m 227 33,.v 228 .neq 227 .z,.m 229 228,.t 230 229 false 32,.g 231 229 false (.un .not (.t 230)),.f 232 229 231] (.j 232 [.o 4 (.cA .F)]))))))) (.ops [.v 233 .add 201 .w,.m 201 233]))))))) (.seq (.s [.a 234 1 23,.l 235 234,.n 236 235,.o 237 (.cA .z)] (.block 10 (.loop (.s [.u 238 .lss 237 236] (.seq (.i 238 .skip (.exit 10)) (.seq (.block 11 (.s [.h 239 3 235 237,.r 240 3 239,.o 35 (.box (.c (.agg [.str [],.int .i64 0,.bool false]))),.s 3 35 240] (.s [.y 241 (.aU 0 (.t 35)),.j 242 241,.y 243 (.aU 2 (.t 22)),.j 244 243,.y 245 (.bD 1 (.t 244) .z),.j 246 245,.u 247 .eql 242 246,.m 248 247,⟨(some 249),.cA (.t 29),(some (248,true)),true⟩,⟨(some 250),.aU 1 (.t 35),(some (248,true)),true⟩,⟨(some 251),.load none (.t 250),(some (248,true)),true⟩,.g 252 248 true (.bin .lss (.t 249) (.t 251)),.t 253 248 true 252,.g 254 253 false (.aU 2 (.t 35)),.g 255 253 false (.load none (.t 254)),.g 256 248 true (.pick (.t 253) .T (.t 255)),.d 257 248 256] (.j 257 [.o 4 (.cA .F)])))) (.ops [.v 258 .add 237 .w,.m 237 258]))))))) (.exit 7)))) .skip)) (.s [.a 259 3 23,.l 260 259,.n 261 260,.o 262 (.cA .z)] (.block 12 (.loop (.s [.u 263 .lss 262 261] (.seq (.i 263 .skip (.exit 12)) (.seq (.block 13 (.s [.m 264 262,.h 265 3 260 262,.r 266 3 265,.o 37 (.box (.c (.agg [.str [],.str [],.af]))),.m 36 264,.s 3 37 266] (.s [.a 267 3 26,.l 268 267,.m 269 36,.h 270 3 268 269,.r 271 3 270,.o 38 (.box (.c (.agg [.str [],.str [],.af]))),.s 3 38 271] (.seq (.s [.y 272 (.aU 2 (.t 38)),.j 273 272,.y 274 (.len .sl (.t 273)),.y 275 (.aU 2 (.t 37)),.j 276 275,.y 277 (.len .sl (.t 276)),.u 278 .lss 274 277,.m 279 278,⟨(some 280),.aU 2 (.t 38),(some (279,false)),true⟩,⟨(some 281),.load none (.t 280),(some (279,false)),true⟩,⟨(some 282),.aU 2 (.t 37),(some (279,false)),true⟩,⟨(some 283),.load none (.t 282),(some (279,false)),true⟩,⟨(some 284),.len .sl (.t 283),(some (279,false)),true⟩,⟨(some 285),.sl 1 (.t 281) none (some (.t 284)),(some (279,false)),true⟩,⟨(some 286),.aU 2 (.t 37),(some (279,false)),true⟩,⟨(some 287),.load none (.t 286),(some (279,false)),true⟩,.g 288 279 false (.call (.f 25) [.t 285,.t 287]),.g 289 279 false (.un .not (.t 288)),.f 290 279 289,.m 291 290,⟨(some 292),.aU 2 (.t 37),(some (291,false)),true⟩,⟨(some 293),.load none (.t 292),(some (291,false)),true⟩,⟨(some 294),.aU 2 (.t 22),(some (291,false)),true⟩,⟨(some 295),.load none (.t 294),(some (291,false)),true⟩,⟨(some 296),.bD 1 (.t 295) .z,(some (291,false)),true⟩,⟨(some 297),.load none (.t 296),(some (291,false)),true⟩,⟨(some 298),.call (.f 35) [.t 293,.t 297],(some (291,false)),true⟩,⟨(some 299),.aU 2 (.t 38),(some (291,false)),true⟩,⟨(some 300),.load none (.t 299),(some (291,false)),true⟩,⟨(some 301),.aU 2 (.t 22),(some (291,false)),true⟩,⟨(some 302),.load none (.t 301),(some (291,false)),true⟩,⟨(some 303),.bD 1 (.t 302) .z,(some (291,false)),true⟩,⟨(some 304),.load none (.t 303),(some (291,false)),true⟩,.g 305 291 false (.call (.f 35) [.t 300,.t 304]),.g 306 291 false (.eqv true (.one .b) (.t 298) (.t 305)),.f 307 291 306,.m 308 307,⟨(some 309),.aU 2 (.t 37),(some (308,false)),true⟩,⟨(some 310),.load none (.t 309),(some (308,false)),true⟩,⟨(some 311),.aU 2 (.t 22),(some (308,false)),true⟩,⟨(some 312),.load none (.t 311),(some (308,false)),true⟩,⟨(some 313),.bD 1 (.t 312) .z,(some (308,false)),true⟩,⟨(some 314),.load none (.t 313),(some (308,false)),true⟩,.g 315 308 false (.call (.f 35) [.t 310,.t 314]),.t 316 308 false 315,⟨(some 317),.aU 2 (.t 38),(some (316,true)),true⟩,⟨(some 318),.load none (.t 317),(some (316,true)),true⟩,⟨(some 319),.aU 2 (.t 22),(some (316,true)),true⟩,⟨(some 320),.load none (.t 319),(some (316,true)),true⟩,⟨(some 321),.bD 1 (.t 320) .w,(some (316,true)),true⟩,⟨(some 322),.load none (.t 321),(some (316,true)),true⟩,.g 323 316 true (.call (.f 35) [.t 318,.t 322]),.g 324 316 true (.un .not (.t 323)),.g 325 308 false (.pick (.t 316) (.t 324) .F),.f 326 308 325,.m 327 326,⟨(some 328),.aU 2 (.t 37),(some (327,false)),true⟩,⟨(some 329),.load none (.t 328),(some (327,false)),true⟩,⟨(some 330),.aU 2 (.t 22),(some (327,false)),true⟩,⟨(some 331),.load none (.t 330),(some (327,false)),true⟩,⟨(some 332),.bD 1 (.t 331) .z,(some (327,false)),true⟩,⟨(some 333),.load none (.t 332),(some (327,false)),true⟩,.g 334 327 false (.call (.f 35) [.t 329,.t 333]),.g 335 327 false (.un .not (.t 334)),.t 336 327 false 335,⟨(some 337),.aU 2 (.t 38),(some (336,true)),true⟩,⟨(some 338),.load none (.t 337),(some (336,true)),true⟩,⟨(some 339),.len .sl (.t 338),(some (336,true)),true⟩,⟨(some 340),.aU 2 (.t 37),(some (336,true)),true⟩,⟨(some 341),.load none (.t 340),(some (336,true)),true⟩,⟨(some 342),.len .sl (.t 341),(some (336,true)),true⟩,.g 343 336 true (.bin .neq (.t 339) (.t 342)),.g 344 327 false (.pick (.t 336) (.t 343) .F),.f 345 327 344] (.j 345 [.o 4 (.cA .F)])) (.s [.w 347 0,.w 348 21,.y 349 (.sl 5 (.t 347) none (some (.t 348))),.y 350 (.aU 0 (.t 37)),.j 351 350,.w 352 8,.c 353 16 [.t 349,.t 351,.t 352],.m 346 353,.y 354 (.ext (.t 346) 0),.y 355 (.ext (.t 346) 1),.w 39 354,.m 40 355] (.s [.w 357 0,.w 358 21,.y 359 (.bin .add (.t 358) .w),.y 360 (.sl 5 (.t 357) none (some (.t 359))),.y 361 (.aU 0 (.t 37)),.j 362 361,.w 363 8,.c 364 16 [.t 360,.t 362,.t 363],.m 356 364,.y 365 (.ext (.t 356) 0),.y 366 (.ext (.t 356) 1),.w 41 365,.m 42 366] (.s [.m 367 40,.v 368 .neq 367 .z,.m 369 368,.t 370 369 false 42,.g 371 369 false (.bin .neq (.t 370) .z),.f 372 369 371,.m 373 372,.t 374 373 false 39,.t 375 373 false 374,.t 376 375 true 41,.g 377 375 true (.un .not (.t 376)),.g 378 373 false (.pick (.t 375) (.t 377) .F),.f 379 373 378] (.j 379 [.o 4 (.cA .F)])))))))) (.ops [.v 380 .add 262 .w,.m 262 380])))))))))))))) (.ops [.v 381 .add 150 .w,.m 150 381]))))))) (.r [.c 382 15 [],.m 4 382]))))))))))⟩
def fn14:ar:=gA 14
def fn15:ar:=gA 15
def fn16:ar:=gA 16
def fn17:ar:=gA 17
def fn18:ar:=gA 18
def fn19:ar:=gA 19
def fn20:ar:=gA 20
def fn21:ar:=gA 21
def uV(x0 x1:Nat):ar:=⟨22,2,[(4,none)],(.s [.p 2 0,.o 4 (.cA .z)] (.seq (.s [.o 5 (.cA .z)] (.block 0 (.loop (.seq (.s [.m 6 5,.a 7 x0 2,.l 8 7,.n 9 8,.u 10 .lss 6 9] (.i 10 .skip (.exit 0))) (.seq (.block 1 (.s [.a 13 x0 2,.l 14 13,.m 15 5,.h 16 x1 14 15,.a 17 0 16,.l 18 17,.m 19 1,.u 20 .eql 18 19] (.j 20 [.m 21 5,.m 4 21]))) (.ops [.m 11 5,.v 12 .add 11 .w,.m 5 12])))))) (.r [.o 4 (.cA (.n (-1)))])))⟩
def fn22:ar:=uV 3 3
def fn23:ar:=gA 23
def fn24:ar:=gA 24
def fn25:ar:=gA 25
def fn26:ar:=gA 26
def fn27:ar:=gA 27
def fn28:ar:=uV 1 3
def fn31:ar:=gA 31
def fn33:ar:=gA 33
def fn34:ar:=gA 34
def fn35:ar:=gA 35
def fn37:ar:=gA 37
def fn39:ar:=gA 39
def fn43:ar:=⟨97,2,[(4,none),(5,none)],(.s [.o 4 (.cA (.c (.str []))),.o 5 (.cA .z)] (.seq (.s [.m 16 0,.o 17 (.eqv false .Ee (.t 16) (.c .nilPtr))] (.j 17 [.o 4 (.cA (.c (.str []))),.o 5 (.cA (.n 22))])) (.seq (.s [.m 18 1,.o 19 (.len .st (.t 18)),.v 20 .gtr 19 (.n 4096),.c 21 85 [.t 20,.n 26],.m 22 1,.v 23 .eql 22 (.c (.str [])),.c 24 85 [.t 23,.n 25],.o 25 (.bd 1 2 [.int .i64 0] [(0,.t 21),(1,.t 24)]),.c 26 74 [.t 25],.m 6 26] (.s [.m 27 6,.v 28 .neq 27 .z] (.j 28 [.m 29 6,.o 4 (.cA (.c (.str []))),.m 5 29]))) (.s [.m 30 1,.o 31 (.call (.f 64) [.t 30,(.c (.str [32]))]),.m 7 31] (.seq (.s [.y 33 (.call (.f 109) []),.w 34 7,.y 35 (.bD 1 (.t 34) .z),.j 36 35,.y 37 (.look .s (.agg [.bool false,.int .i64 0,.nilFunc]) true (.t 33) (.t 36)),.w 32 37,.y 38 (.ext (.t 32) 0),.y 39 (.ext (.t 32) 1),⟨none,.cA .F,none,true⟩,.y 8 (.oE 3 (.t 38)),.m 9 39] (.s [.m 40 9] (.j 40 [.m 41 0,.m 42 7,.c 43 110 [.t 41,.t 42],.e 44 43 0,.e 45 43 1,.m 4 44,.m 5 45]))) (.seq (.s [.y 47 (.call (.f 90) []),.w 48 7,.y 49 (.bD 1 (.t 48) .z),.j 50 49,.y 51 (.look .s (.agg [.af,.int .i64 0,.nilFunc,.nilFunc,.nilFunc]) true (.t 47) (.t 50)),.w 46 51,.y 52 (.ext (.t 46) 0),.y 53 (.ext (.t 46) 1),⟨none,.cA .F,none,true⟩,.y 10 (.oE 5 (.t 52)),.m 11 53] (.s [.m 54 11,.o 55 (.un .not (.t 54))] (.j 55 [.o 4 (.cA (.c (.str []))),.o 5 (.cA (.n 13))]))) (.s [.m 57 7,.c 58 111 [.t 57],.m 56 58,.e 59 56 0,.e 60 56 1,.o 12 (.box (.c (.agg [.int .i64 0,.str [],.af,.af,.str []]))),.s 5 12 59,.m 13 60] (.seq (.s [.w 61 13,.y 62 (.un .not (.t 61)),.y 63 (.call (.f 85) [.t 62,.n 25]),.w 64 0,.y 65 (.bP (.t 64)),.y 66 (.aU 0 (.t 65)),.y 67 (.aU 0 (.t 66)),.j 68 67,.y 69 (.len .sl (.t 68)),.y 70 (.bin .geq (.t 69) (.n 1000)),.c 71 85 [.t 70,.n 5],.o 72 (.bd 1 2 [.int .i64 0] [(0,.t 63),(1,.t 71)]),.c 73 74 [.t 72],.m 14 73] (.s [.m 74 14,.v 75 .neq 74 .z] (.j 75 [.m 76 14,.o 4 (.cA (.c (.str []))),.m 5 76]))) (.s [.m 77 0,.o 78 (.bP (.t 77)),.a 79 0 78,.a 80 0 79,.l 81 80,.n 82 81,.v 83 .add 82 .w,.a 84 0 12,.s 1 84 83] (.seq (.s [.w 85 0,.y 86 (.bP (.t 85)),.y 87 (.aU 0 (.t 86)),.y 88 (.load (some 5) (.t 12)),.c 89 112 [.t 87,.t 88],.m 15 89] (.s [.m 90 15,.v 91 .neq 90 .z] (.j 91 [.m 92 15,.o 4 (.cA (.c (.str []))),.m 5 92]))) (.r [.a 93 0 12,.l 94 93,.c 95 113 [.t 94],.b 96 .add (.c (.str [100,111,110,101,32])) (.t 95),.m 4 96,.o 5 (.cA .z)])))))))))))⟩
def fn44:ar:=gA 44
def fn45:ar:=gA 45
def fn51:ar:=gA 51
def fn55:ar:=uV 4 4
def fn56:ar:=uV 5 3
def fn57:ar:=uV 6 4
def fn58:ar:=gA 58
def fn59:ar:=gA 59
def fn60:ar:=gA 60
def fn64:ar:=gA 64
def fn67:ar:=gA 67
def fn70:ar:=gA 70
def fn71:ar:=gA 71
def fn72:ar:=gA 72
def fn73:ar:=gA 73
def fn74:ar:=gA 74
def fn75:ar:=gA 75
def fn76:ar:=gA 76
def fn77:ar:=gA 77
def fn78:ar:=gA 78
def fn79:ar:=gA 79
def fn80:ar:=gA 80
def fn81:ar:=⟨110,1,[(2,none),(3,some (some 7)),(4,none),(5,none)],(.s [.o 2 (.cA (.c .af)),.o 3 (.box (.c (.agg [.int .i64 0,.af,.af,.af,.af,.af,.af]))),.o 4 (.cA .z),.o 5 (.cA .z)] (.seq (.s [.m 12 0,.n 13 12,.v 14 .gtr 13 (.n 1000)] (.j 14 [.o 15 (.build [.int .i64 0,.af,.af,.af,.af,.af,.af] []),.o 2 (.cA (.c .af)),.s 7 3 15,.o 4 (.cA .z),.o 5 (.cA (.n 5))])) (.s [.o 6 (.cA (.c .af))] (.s [.o 16 (.build [.int .i64 0,.af,.af,.af,.af,.af,.af] []),.o 17 (.bd 7 1 [.int .i64 0,.af,.af,.af,.af,.af,.af] [(0,.t 16)]),.m 7 17] (.seq (.s [.o 8 (.cA .z)] (.block 0 (.loop (.seq (.s [.m 18 8,.m 19 0,.n 20 19,.u 21 .lss 18 20] (.i 21 .skip (.exit 0))) (.seq (.block 1 (.s [.m 24 0,.m 25 8,.h 26 5 24 25,.r 27 5 26,.c 28 39 [.t 27],.m 29 6,.n 30 29,.m 9 28,.m 10 30] (.seq (.s [.m 31 9,.v 32 .eql 31 .z,.m 33 32,.t 34 33 true 0,.t 35 33 true 8,.g 36 33 true (.bD 5 (.t 34) (.t 35)),.g 37 33 true (.aU 0 (.t 36)),.g 38 33 true (.load none (.t 37)),.t 39 33 true 8,.g 40 33 true (.bin .add (.t 39) .w),.g 41 33 true (.bin .neq (.t 38) (.t 40)),.d 42 33 41] (.i 42 (.ops [.o 9 (.cA (.n 11))]) .skip)) (.seq (.s [.m 43 9,.v 44 .eql 43 .z,.m 45 44,.t 46 45 true 0,.t 47 45 true 8,.g 48 45 true (.bD 5 (.t 46) (.t 47)),.g 49 45 true (.aU 1 (.t 48)),.g 50 45 true (.load none (.t 49)),.g 51 45 true (.bin .eql (.t 50) (.c (.str [117,110,100,111]))),.d 52 45 51] (.i 52 (.s [.m 53 10,.v 54 .eql 53 .z] (.i 54 (.ops [.o 9 (.cA (.n 12))]) (.s [.m 55 6,.m 56 10,.v 57 .sub 56 .w,.h 58 5 55 57,.a 59 1 58,.l 60 59,.v 61 .eql 60 (.c (.str [114,101,108,101,97,115,101]))] (.i 61 (.ops [.o 9 (.cA (.n 21))]) (.s [.w 62 6,.w 63 10,.y 64 (.bin .sub (.t 63) .w),.y 65 (.sl 5 (.t 62) none (some (.t 64))),.w 66 7,.w 67 10,.y 68 (.sl 7 (.t 66) none (some (.t 67))),.w 6 65,.m 7 68] (.exit 1)))))) .skip)) (.s [.o 11 (.box (.c (.agg [.int .i64 0,.af,.af,.af,.af,.af,.af])))] (.seq (.s [.m 69 9,.v 70 .eql 69 .z] (.i 70 (.ops [.m 72 7,.m 73 10,.h 74 7 72 73,.r 75 7 74,.m 76 0,.m 77 8,.h 78 5 76 77,.r 79 5 78,.c 80 129 [.t 75,.t 79],.m 71 80,.e 81 71 0,.e 82 71 1,.s 7 11 81,.m 9 82]) .skip)) (.seq (.s [.m 83 9,.v 84 .neq 83 .z] (.j 84 [.o 85 (.build [.int .i64 0,.af,.af,.af,.af,.af,.af] []),.m 86 8,.v 87 .add 86 .w,.m 88 9,.o 2 (.cA (.c .af)),.s 7 3 85,.m 4 87,.m 5 88])) (.s [.y 89 (.bd 5 0 [.int .i64 0,.str [],.af,.af,.str []] []),.w 90 6,.y 91 (.app 5 88 (.t 89) (.t 90)),.w 92 0,.w 93 8,.y 94 (.bD 5 (.t 92) (.t 93)),.y 95 (.load (some 5) (.t 94)),.y 96 (.bd 5 1 [.int .i64 0,.str [],.af,.af,.str []] [(0,.t 95)]),.o 97 (.app 5 88 (.t 91) (.t 96)),.m 6 97] (.ops [.y 98 (.bd 7 0 [.int .i64 0,.af,.af,.af,.af,.af,.af] []),.w 99 7,.y 100 (.app 7 152 (.t 98) (.t 99)),.y 101 (.load (some 7) (.t 11)),.y 102 (.bd 7 1 [.int .i64 0,.af,.af,.af,.af,.af,.af] [(0,.t 101)]),.o 103 (.app 7 152 (.t 100) (.t 102)),.m 7 103]))))))))) (.ops [.m 22 8,.v 23 .add 22 .w,.m 8 23])))))) (.r [.w 104 6,.w 105 7,.w 106 6,.y 107 (.len .sl (.t 106)),.y 108 (.bD 7 (.t 105) (.t 107)),.y 109 (.load (some 7) (.t 108)),.w 2 104,.s 7 3 109,.o 4 (.cA .z),.o 5 (.cA .z)]))))))⟩
def fn82:ar:=gA 82
def fn83:ar:=gA 83
def fn84:ar:=⟨17,3,[(6,none)],(.s [.p 3 0,.o 6 (.cA .F)] (.r [.w 7 2,.y 8 (.aU 2 (.t 3)),.j 9 8,.y 10 (.load (some 7) (.t 3)),.w 11 1,.y 12 (.call (.f 141) [.t 10,.t 11]),.y 13 (.bD 2 (.t 9) (.t 12)),.y 14 (.aU 1 (.t 13)),.j 15 14,.u 16 .leq 7 15,.m 6 16]))⟩
def fn85:ar:=gA 85
def fn86:ar:=⟨47,3,[(6,none)],(.s [.p 3 0,.o 6 (.cA .F)] (.s [.o 7 (.cA .z)] (.seq (.s [.m 8 1] (.block 0 (.s [.v 10 .eql 8 .z,.m 9 10] (.i 9 (.ops [.a 11 1 3,.l 12 11,.m 13 2,.c 14 142 [.t 12,.t 13],.m 7 14]) (.s [.v 16 .eql 8 .w,.m 15 16] (.i 15 (.ops [.a 17 2 3,.l 18 17,.m 19 2,.c 20 143 [.t 18,.t 19],.m 7 20]) (.s [.v 22 .eql 8 (.n 2),.m 21 22] (.i 21 (.ops [.a 23 3 3,.l 24 23,.m 25 2,.c 26 136 [.t 24,.t 25],.m 7 26]) (.s [.v 28 .eql 8 (.n 3),.m 27 28] (.i 27 (.ops [.a 29 4 3,.l 30 29,.m 31 2,.c 32 144 [.t 30,.t 31],.m 7 32]) (.s [.v 34 .eql 8 (.n 4),.m 33 34] (.i 33 (.ops [.a 35 5 3,.l 36 35,.m 37 2,.c 38 145 [.t 36,.t 37],.m 7 38]) (.s [.v 40 .eql 8 (.n 5),.m 39 40] (.i 39 (.ops [.a 41 6 3,.l 42 41,.m 43 2,.c 44 146 [.t 42,.t 43],.m 7 44]) .skip)))))))))))))) (.r [.m 45 7,.v 46 .geq 45 .z,.m 6 46]))))⟩
def fn87:ar:=⟨22,2,[(4,none)],(.s [.o 4 (.cA (.c .af))] (.s [.o 5 (.cA (.c .af))] (.seq (.s [.m 8 0,.n 9 8,.o 10 (.cA .z)] (.block 0 (.loop (.s [.u 11 .lss 10 9] (.seq (.i 11 .skip (.exit 0)) (.seq (.block 1 (.s [.h 12 5 8 10,.r 13 5 12,.o 7 (.box (.c (.agg [.int .i64 0,.str [],.af,.af,.str []]))),.s 5 7 13] (.ops [.m 14 5,.m 15 1,.r 16 5 7,.o 17 (.call (.t 15) [.t 16]),.o 18 (.bd 5 1 [.int .i64 0,.str [],.af,.af,.str []] [(0,.t 17)]),.o 19 (.app 5 88 (.t 14) (.t 18)),.m 5 19]))) (.ops [.v 20 .add 10 .w,.m 10 20]))))))) (.r [.m 21 5,.m 4 21]))))⟩
def fn88:ar:=gA 88
def fn89:ar:=gA 89
def fn90:ar:=⟨56,0,[(0,none)],(.s [.o 0 (.cA (.c .db))] (.r [.o 1 (.mJ),.o 2 (.build [.af,.int .i64 0,.nilFunc,.nilFunc,.nilFunc] []),.x (.fE .s (.t 1) (.c (.str [117,110,100,111])) (.t 2)),.c 3 147 [.z],.o 4 (.bd 2 1 [.int .i64 0,.bool false] [(0,.t 3)]),.c 5 150 [.z],.o 6 (.build [.af,.int .i64 0,.nilFunc,.nilFunc,.nilFunc] [(0,1,.t 4),(1,1,(.n 2)),(2,1,(.f 148)),(3,1,(.f 149)),(4,1,.t 5)]),.x (.fE .s (.t 1) (.c (.str [108,105,110,101])) (.t 6)),.c 7 147 [.w],.o 8 (.bd 2 1 [.int .i64 0,.bool false] [(0,.t 7)]),.o 9 (.build [.af,.int .i64 0,.nilFunc,.nilFunc,.nilFunc] [(0,1,.t 8),(1,1,(.n 2)),(2,1,(.f 151)),(3,1,(.f 152)),(4,1,(.f 153))]),.x (.fE .s (.t 1) (.c (.str [116,97,112,101])) (.t 9)),.c 10 147 [.n 2],.c 11 154 [.z],.c 12 154 [.w],.o 13 (.bd 2 3 [.int .i64 0,.bool false] [(0,.t 10),(2,.t 11),(4,.t 12)]),.c 14 150 [.w],.o 15 (.build [.af,.int .i64 0,.nilFunc,.nilFunc,.nilFunc] [(0,1,.t 13),(1,1,.w),(2,1,(.f 155)),(3,1,(.f 156)),(4,1,.t 14)]),.x (.fE .s (.t 1) (.c (.str [115,104,111,116])) (.t 15)),.c 16 154 [.w],.c 17 154 [.w],.o 18 (.bd 2 2 [.int .i64 0,.bool false] [(0,.t 16),(2,.t 17)]),.o 19 (.build [.af,.int .i64 0,.nilFunc,.nilFunc,.nilFunc] [(0,1,.t 18),(1,1,.w),(2,1,(.f 157)),(3,1,(.f 158)),(4,1,(.f 153))]),.x (.fE .s (.t 1) (.c (.str [99,111,112,121])) (.t 19)),.c 20 154 [.z],.o 21 (.bd 2 1 [.int .i64 0,.bool false] [(0,.t 20)]),.c 22 150 [.z],.o 23 (.build [.af,.int .i64 0,.nilFunc,.nilFunc,.nilFunc] [(0,1,.t 21),(1,1,.w),(2,1,(.f 159)),(3,1,(.f 160)),(4,1,.t 22)]),.x (.fE .s (.t 1) (.c (.str [97,99,99,101,112,116])) (.t 23)),.c 24 147 [.n 3],.c 25 154 [.z],.o 26 (.bd 2 2 [.int .i64 0,.bool false] [(0,.t 24),(2,.t 25)]),.c 27 150 [.w],.o 28 (.build [.af,.int .i64 0,.nilFunc,.nilFunc,.nilFunc] [(0,1,.t 26),(1,1,.w),(2,1,(.f 161)),(3,1,(.f 162)),(4,1,.t 27)]),.x (.fE .s (.t 1) (.c (.str [115,111,117,114,99,101])) (.t 28)),.c 29 147 [.n 3],.c 30 154 [.n 3],.o 31 (.bd 2 2 [.int .i64 0,.bool false] [(0,.t 29),(2,.t 30)]),.o 32 (.build [.af,.int .i64 0,.nilFunc,.nilFunc,.nilFunc] [(0,1,.t 31),(1,1,(.n 2)),(2,1,(.f 163)),(3,1,(.f 164)),(4,1,(.c .nilFunc))]),.x (.fE .s (.t 1) (.c (.str [109,111,100,117,108,101])) (.t 32)),.c 33 147 [.n 3],.c 34 154 [.n 3],.c 35 154 [.n 3],.o 36 (.bd 2 3 [.int .i64 0,.bool false] [(0,.t 33),(2,.t 34),(4,.t 35)]),.o 37 (.build [.af,.int .i64 0,.nilFunc,.nilFunc,.nilFunc] [(0,1,.t 36),(1,1,.w),(2,1,(.f 165)),(3,1,(.f 166)),(4,1,(.c .nilFunc))]),.x (.fE .s (.t 1) (.c (.str [109,101,114,103,101])) (.t 37)),.c 38 147 [.n 4],.c 39 154 [.n 3],.o 40 (.bd 2 2 [.int .i64 0,.bool false] [(0,.t 38),(2,.t 39)]),.o 41 (.build [.af,.int .i64 0,.nilFunc,.nilFunc,.nilFunc] [(0,1,.t 40),(1,1,(.n 2)),(2,1,(.f 167)),(3,1,(.f 168)),(4,1,(.c .nilFunc))]),.x (.fE .s (.t 1) (.c (.str [114,117,110])) (.t 41)),.c 42 154 [.n 4],.o 43 (.bd 2 1 [.int .i64 0,.bool false] [(0,.t 42)]),.o 44 (.build [.af,.int .i64 0,.nilFunc,.nilFunc,.nilFunc] [(0,1,.t 43),(1,1,(.n 3)),(2,1,(.f 169)),(3,1,(.f 170)),(4,1,(.c .nilFunc))]),.x (.fE .s (.t 1) (.c (.str [116,105,108,101])) (.t 44)),.c 45 154 [.n 4],.o 46 (.bd 2 1 [.int .i64 0,.bool false] [(0,.t 45)]),.o 47 (.build [.af,.int .i64 0,.nilFunc,.nilFunc,.nilFunc] [(0,1,.t 46),(1,1,(.n 2)),(2,1,(.f 171)),(3,1,(.f 172)),(4,1,(.c .nilFunc))]),.x (.fE .s (.t 1) (.c (.str [102,97,105,108])) (.t 47)),.c 48 147 [.n 5],.c 49 154 [.n 4],.o 50 (.bd 2 2 [.int .i64 0,.bool false] [(0,.t 48),(2,.t 49)]),.o 51 (.build [.af,.int .i64 0,.nilFunc,.nilFunc,.nilFunc] [(0,1,.t 50),(1,1,.w),(2,1,(.f 173)),(3,1,(.f 174)),(4,1,(.c .nilFunc))]),.x (.fE .s (.t 1) (.c (.str [112,105,99,116,117,114,101])) (.t 51)),.c 52 154 [.n 5],.o 53 (.bd 2 1 [.int .i64 0,.bool false] [(0,.t 52)]),.o 54 (.build [.af,.int .i64 0,.nilFunc,.nilFunc,.nilFunc] [(0,1,.t 53),(1,1,.w),(2,1,(.f 175)),(3,1,(.f 176)),(4,1,(.c .nilFunc))]),.x (.fE .s (.t 1) (.c (.str [114,101,108,101,97,115,101])) (.t 54)),.m 55 1,.m 0 55]))⟩
def fn91:ar:=⟨12,1,[(2,some (some 5))],(.s [.p 1 0,.o 2 (.box (.c (.agg [.int .i64 0,.str [],.af,.af,.str []])))] (.s [.y 3 (.aU 2 (.t 1)),.j 4 3,.y 5 (.call (.f 177) [.t 4]),.y 6 (.aU 3 (.t 1)),.j 7 6,.y 8 (.call (.f 178) [.t 7]),.y 9 (.aU 2 (.t 1)),.s 1 9 5,.a 10 3 1,.s 1 10 8] (.r [.r 11 5 1,.s 5 2 11])))⟩
def KG:ar:=⟨22,2,[(4,none)],(.s [.o 4 (.cA (.c .af))] (.s [.o 5 (.cA (.c .af))] (.seq (.s [.m 8 0,.n 9 8,.o 10 (.cA .z)] (.block 0 (.loop (.s [.u 11 .lss 10 9] (.seq (.i 11 .skip (.exit 0)) (.seq (.block 1 (.s [.h 12 1 8 10,.l 13 12,.m 7 13] (.ops [.m 14 5,.m 15 1,.m 16 7,.o 17 (.call (.t 15) [.t 16]),.o 18 (.bd 1 1 [.int .i64 0] [(0,.t 17)]),.o 19 (.app 1 8 (.t 14) (.t 18)),.m 5 19]))) (.ops [.v 20 .add 10 .w,.m 10 20]))))))) (.r [.m 21 5,.m 4 21]))))⟩
def fn92:ar:=KG
def KH:ar:=⟨5,1,[(2,none)],(.s [.o 2 (.cA .z)] (.r [.m 3 0,.c 4 94 [.t 3,.z,.n 999999999],.m 2 4]))⟩
def fn93:ar:=KH
def fn94:ar:=gA 94
def fn95:ar:=gA 95
def fn96:ar:=⟨38,1,[(2,some (some 7))],(.s [.p 1 0,.o 2 (.box (.c (.agg [.int .i64 0,.af,.af,.af,.af,.af,.af])))] (.s [.y 5 (.aU 1 (.t 1)),.j 6 5,.y 7 (.len .sl (.t 6)),.y 8 (.vG 3 32 [.str [],.int .i64 0,.bool false] (.t 7) (.t 7)),.y 9 (.aU 6 (.t 1)),.j 10 9,.y 11 (.len .sl (.t 10)),.y 12 (.vG 4 48 [.str [],.str [],.int .i64 0,.bool false] (.t 11) (.t 11)),.w 3 8,.m 4 12] (.s [.m 13 3,.a 14 1 1,.l 15 14,.o 16 (.zb 3 (.t 13) (.t 15))] (.s [.m 17 4,.a 18 6 1,.l 19 18,.o 20 (.zb 4 (.t 17) (.t 19))] (.r [.y 21 (.aU 0 (.t 1)),.j 22 21,.w 23 3,.y 24 (.aU 2 (.t 1)),.j 25 24,.y 26 (.call (.f 179) [.t 25]),.y 27 (.aU 3 (.t 1)),.j 28 27,.y 29 (.call (.f 180) [.t 28,(.f 181)]),.y 30 (.aU 4 (.t 1)),.j 31 30,.y 32 (.call (.f 182) [.t 31,(.f 183)]),.y 33 (.aU 5 (.t 1)),.j 34 33,.y 35 (.call (.f 184) [.t 34,(.f 185)]),.w 36 4,.o 37 (.build [.int .i64 0,.af,.af,.af,.af,.af,.af] [(0,1,.t 22),(1,1,.t 23),(2,1,.t 26),(3,1,.t 29),(4,1,.t 32),(5,1,.t 35),(6,1,.t 36)]),.s 7 2 37])))))⟩
def fn97:ar:=gA 97
def fn98:ar:=gA 98
def fn99:ar:=gA 99
def fn101:ar:=gA 101
def fn102:ar:=gA 102
def fn108:ar:=gA 108
def fn109:ar:=⟨10,0,[(0,none)],(.s [.o 0 (.cA (.c .db))] (.r [.o 1 (.mJ),.o 2 (.build [.bool false,.int .i64 0,.nilFunc] [(0,1,.T),(1,1,(.n 4)),(2,1,(.f 198))]),.x (.fE .s (.t 1) (.c (.str [108,101,102,116])) (.t 2)),.o 3 (.build [.bool false,.int .i64 0,.nilFunc] [(0,1,.T),(1,1,(.n 5)),(2,1,(.f 126))]),.x (.fE .s (.t 1) (.c (.str [102,114,111,109])) (.t 3)),.o 4 (.build [.bool false,.int .i64 0,.nilFunc] [(0,1,.T),(1,1,(.n 3)),(2,1,(.f 200))]),.x (.fE .s (.t 1) (.c (.str [108,105,110,101,115])) (.t 4)),.o 5 (.build [.bool false,.int .i64 0,.nilFunc] [(0,1,.F),(1,1,(.n 2)),(2,1,(.f 201))]),.x (.fE .s (.t 1) (.c (.str [117,110,115,97,102,101])) (.t 5)),.o 6 (.build [.bool false,.int .i64 0,.nilFunc] [(0,1,.T),(1,1,(.n 2)),(2,1,(.f 202))]),.x (.fE .s (.t 1) (.c (.str [116,97,112,101,115])) (.t 6)),.o 7 (.build [.bool false,.int .i64 0,.nilFunc] [(0,1,.F),(1,1,(.n 5)),(2,1,(.f 203))]),.x (.fE .s (.t 1) (.c (.str [114,101,108,101,97,115,101,100])) (.t 7)),.o 8 (.build [.bool false,.int .i64 0,.nilFunc] [(0,1,.T),(1,1,.z),(2,1,(.f 204))]),.x (.fE .s (.t 1) (.c (.str [119,97,110,116])) (.t 8)),.m 9 1,.m 0 9]))⟩
def fn110:ar:=gA 110
def fn111:ar:=⟨73,1,[(2,some (some 5)),(3,none)],(.s [.o 2 (.box (.c (.agg [.int .i64 0,.str [],.af,.af,.str []]))),.o 3 (.cA .F)] (.s [.m 12 0,.o 13 (.build [.af,.bool false] [(0,1,.t 12)]),.p 14 13,.m 4 14] (.s [.m 15 4,.o 16 (.uc (.func 207) [.t 15] []),.m 17 4,.o 18 (.uc (.func 208) [.t 17] []),.m 5 16,.m 6 18] (.s [.m 19 5,.o 20 (.call (.t 19) []),.o 21 (.build [.int .i64 0,.str [],.af,.af,.str []] [(1,1,.t 20)]),.o 7 (.box (.c (.agg [.int .i64 0,.str [],.af,.af,.str []]))),.s 5 7 21] (.s [.y 23 (.call (.f 90) []),.y 24 (.aU 1 (.t 7)),.j 25 24,.y 26 (.look .s (.agg [.af,.int .i64 0,.nilFunc,.nilFunc,.nilFunc]) true (.t 23) (.t 25)),.w 22 26,.y 27 (.ext (.t 22) 0),.y 28 (.ext (.t 22) 1),⟨none,.cA .F,none,true⟩,.y 8 (.oE 5 (.t 27)),.m 9 28] (.seq (.s [.m 29 9,.o 30 (.un .not (.t 29))] (.j 30 [.o 31 (.build [.int .i64 0,.str [],.af,.af,.str []] []),.s 5 2 31,.o 3 (.cA .F)])) (.seq (.s [.a 32 0 8,.l 33 32,.n 34 33,.o 35 (.cA .z)] (.block 0 (.loop (.s [.u 36 .lss 35 34] (.seq (.i 36 .skip (.exit 0)) (.seq (.block 1 (.s [.m 37 5,.o 38 (.call (.t 37) []),.m 10 38] (.ops [.a 39 2 7,.l 40 39,.m 41 10,.o 42 (.bd 1 1 [.str []] [(0,.t 41)]),.o 43 (.app 1 16 (.t 40) (.t 42)),.a 44 2 7,.s 1 44 43]))) (.ops [.v 45 .add 35 .w,.m 35 45]))))))) (.seq (.s [.a 46 1 8,.l 47 46,.o 48 (.cA .z)] (.block 2 (.loop (.s [.u 49 .lss 48 47] (.seq (.i 49 .skip (.exit 2)) (.seq (.block 3 (.s [.m 50 6,.o 51 (.call (.t 50) []),.m 11 51] (.ops [.a 52 3 7,.l 53 52,.m 54 11,.o 55 (.bd 1 1 [.int .i64 0] [(0,.t 54)]),.o 56 (.app 1 8 (.t 53) (.t 55)),.a 57 3 7,.s 1 57 56]))) (.ops [.v 58 .add 48 .w,.m 48 58]))))))) (.seq (.sf [.r 59 5 7,.m 60 4,.o 61 (.bP (.t 60)),.a 62 1 61,.l 63 62,.o 64 (.un .not (.t 63)),.m 65 64,.t 66 65 true 4,.g 67 65 true (.bP (.t 66)),.g 68 65 true (.aU 0 (.t 67)),.g 69 65 true (.load none (.t 68)),.g 70 65 true (.len .sl (.t 69)),.g 71 65 true (.bin .eql (.t 70) .z),.d 72 65 71,.s 5 2 59,.m 3 72]) .ret)))))))))⟩
def fn112:ar:=⟨94,2,[(4,none)],(.s [.p 3 1,.o 4 (.cA .z)] (.seq (.s [.r 9 5 3,.c 10 67 [.t 9],.m 5 10] (.s [.m 11 5,.v 12 .neq 11 .z] (.j 12 [.m 13 5,.m 4 13]))) (.seq (.s [.m 14 0,.r 15 5 3,.c 16 116 [.t 14,.t 15],.m 6 16] (.s [.m 17 6,.v 18 .neq 17 .z] (.j 18 [.m 19 6,.m 4 19]))) (.s [.r 20 5 3,.c 21 91 [.t 20],.s 5 3 21] (.s [.m 22 0,.m 23 0,.o 24 (.bP (.t 23)),.a 25 0 24,.l 26 25,.r 27 5 3,.o 28 (.bd 5 1 [.int .i64 0,.str [],.af,.af,.str []] [(0,.t 27)]),.o 29 (.app 5 88 (.t 26) (.t 28)),.o 30 (.bP (.t 22)),.a 31 0 30,.s 1 31 29] (.seq (.s [.a 32 1 3,.l 33 32,.v 34 .eql 33 (.c (.str [117,110,100,111]))] (.i 34 (.s [.m 35 0,.o 36 (.bP (.t 35)),.a 37 1 36,.l 38 37,.n 39 38,.v 40 .sub 39 .w,.m 7 40] (.s [.m 41 0,.m 42 0,.m 43 0,.o 44 (.bP (.t 43)),.a 45 1 44,.l 46 45,.m 47 7,.o 48 (.sl 5 (.t 46) none (some (.t 47))),.m 49 0,.o 50 (.bP (.t 49)),.a 51 2 50,.l 52 51,.m 53 7,.o 54 (.sl 7 (.t 52) none (some (.t 53))),.o 55 (.bP (.t 41)),.a 56 1 55,.s 1 56 48,.o 57 (.bP (.t 42)),.a 58 2 57,.s 1 58 54] (.r [.o 4 (.cA .z)]))) .skip)) (.s [.m 59 0,.c 60 79 [.t 59],.c 61 96 [.t 60],.o 8 (.box (.c (.agg [.int .i64 0,.af,.af,.af,.af,.af,.af]))),.s 7 8 61] (.s [.y 62 (.call (.f 90) []),.y 63 (.aU 1 (.t 3)),.j 64 63,.y 65 (.look .s (.agg [.af,.int .i64 0,.nilFunc,.nilFunc,.nilFunc]) false (.t 62) (.t 64)),.y 66 (.part none 3 (.t 65)),.y 67 (.load (some 5) (.t 3)),.o 68 (.call (.t 66) [.t 8,.t 67])] (.s [.a 69 3 3,.l 70 69,.o 71 (.bD 1 (.t 70) .z),.l 72 71,.a 73 0 8,.s 1 73 72] (.seq (.mD [.m 74 0,.m 75 0,.m 76 0,.o 77 (.bP (.t 76)),.a 78 1 77,.j 79 78,.y 80 (.load (some 5) (.t 3)),.o 81 (.bd 5 1 [.int .i64 0,.str [],.af,.af,.str []] [(0,.t 80)]),.o 82 (.app 5 88 (.t 79) (.t 81)),.m 83 0,.o 84 (.bP (.t 83)),.a 85 2 84,.j 86 85,.y 87 (.load (some 7) (.t 8)),.o 88 (.bd 7 1 [.int .i64 0,.af,.af,.af,.af,.af,.af] [(0,.t 87)]),.o 89 (.app 7 152 (.t 86) (.t 88)),.o 90 (.bP (.t 74)),.a 91 1 90,.s 1 91 82,.o 92 (.bP (.t 75)),.a 93 2 92,.s 1 93 89]) (.r [.o 4 (.cA .z)])))))))))))⟩
def fn113:ar:=gA 113
def fn114:ar:=gA 114
def fn115:ar:=gA 115
def fn116:ar:=⟨106,2,[(4,none)],(.s [.p 3 1,.o 4 (.cA .z)] (.seq (.s [.y 12 (.aU 0 (.t 3)),.j 13 12,.w 14 0,.y 15 (.bP (.t 14)),.y 16 (.aU 0 (.t 15)),.j 17 16,.y 18 (.len .sl (.t 17)),.y 19 (.bin .add (.t 18) .w),.u 20 .neq 13 19] (.j 20 [.o 4 (.cA (.n 11))])) (.s [.m 21 0,.o 22 (.bP (.t 21)),.a 23 1 22,.l 24 23,.n 25 24,.m 5 25] (.seq (.s [.a 26 1 3,.l 27 26,.v 28 .eql 27 (.c (.str [117,110,100,111]))] (.i 28 (.seq (.s [.m 29 5,.v 30 .eql 29 .z] (.j 30 [.o 4 (.cA (.n 12))])) (.r [.m 31 0,.o 32 (.bP (.t 31)),.a 33 1 32,.l 34 33,.m 35 5,.v 36 .sub 35 .w,.h 37 5 34 36,.a 38 1 37,.l 39 38,.v 40 .eql 39 (.c (.str [114,101,108,101,97,115,101])),.c 41 85 [.t 40,.n 21],.m 4 41])) .skip)) (.s [.m 42 0,.c 43 79 [.t 42],.o 6 (.box (.c (.agg [.int .i64 0,.af,.af,.af,.af,.af,.af]))),.s 7 6 43] (.seq (.s [.y 44 (.aU 3 (.t 3)),.j 45 44,.y 46 (.bD 1 (.t 45) .z),.j 47 46,.y 48 (.aU 0 (.t 6)),.j 49 48,.u 50 .lss 47 49] (.j 50 [.o 4 (.cA (.n 22))])) (.s [.y 51 (.call (.f 90) []),.y 52 (.aU 1 (.t 3)),.j 53 52,.y 54 (.look .s (.agg [.af,.int .i64 0,.nilFunc,.nilFunc,.nilFunc]) false (.t 51) (.t 53)),.y 7 (.box (.c (.agg [.af,.int .i64 0,.nilFunc,.nilFunc,.nilFunc]))),.s 5 7 54] (.seq (.s [.a 55 0 7,.l 56 55,.n 57 56,.o 58 (.cA .z)] (.block 0 (.loop (.s [.u 59 .lss 58 57] (.seq (.i 59 .skip (.exit 0)) (.seq (.block 1 (.s [.m 60 58,.h 61 2 56 58,.r 62 2 61,.o 9 (.box (.c (.agg [.int .i64 0,.bool false]))),.m 8 60,.s 2 9 62] (.s [.a 63 1 9,.l 64 63,.m 65 64,⟨(some 66),.load (some 7) (.t 6),(some (65,true)),true⟩,⟨(some 67),.aU 0 (.t 9),(some (65,true)),true⟩,⟨(some 68),.load none (.t 67),(some (65,true)),true⟩,⟨(some 69),.aU 2 (.t 3),(some (65,true)),true⟩,⟨(some 70),.load none (.t 69),(some (65,true)),true⟩,⟨(some 71),.cA (.t 8),(some (65,true)),true⟩,⟨(some 72),.bD 1 (.t 70) (.t 71),(some (65,true)),true⟩,⟨(some 73),.load none (.t 72),(some (65,true)),true⟩,.g 74 65 true (.call (.f 86) [.t 66,.t 68,.t 73]),.g 75 65 true (.un .not (.t 74)),.d 76 65 75] (.j 76 [.o 4 (.cA (.n 10))])))) (.ops [.v 77 .add 58 .w,.m 58 77]))))))) (.seq (.s [.a 78 0 7,.l 79 78,.n 80 79,.o 81 (.cA .z)] (.block 2 (.loop (.s [.u 82 .lss 81 80] (.seq (.i 82 .skip (.exit 2)) (.seq (.block 3 (.s [.m 83 81,.h 84 2 79 81,.r 85 2 84,.o 11 (.box (.c (.agg [.int .i64 0,.bool false]))),.m 10 83,.s 2 11 85] (.s [.a 86 1 11,.l 87 86,.o 88 (.un .not (.t 87)),.m 89 88,⟨(some 90),.load (some 7) (.t 6),(some (89,true)),true⟩,⟨(some 91),.aU 0 (.t 11),(some (89,true)),true⟩,⟨(some 92),.load none (.t 91),(some (89,true)),true⟩,⟨(some 93),.aU 2 (.t 3),(some (89,true)),true⟩,⟨(some 94),.load none (.t 93),(some (89,true)),true⟩,⟨(some 95),.cA (.t 10),(some (89,true)),true⟩,⟨(some 96),.bD 1 (.t 94) (.t 95),(some (89,true)),true⟩,⟨(some 97),.load none (.t 96),(some (89,true)),true⟩,.g 98 89 true (.call (.f 86) [.t 90,.t 92,.t 97]),.d 99 89 98] (.j 99 [.o 4 (.cA (.n 9))])))) (.ops [.v 100 .add 81 .w,.m 81 100]))))))) (.r [.a 101 2 7,.l 102 101,.r 103 7 6,.r 104 5 3,.o 105 (.call (.t 102) [.t 103,.t 104]),.m 4 105]))))))))))⟩
def fn117:ar:=gA 117
def fn118:ar:=gA 118
def fn119:ar:=gA 119
def fn120:ar:=gA 120
def fn121:ar:=gA 121
def fn122:ar:=gA 122
def fn123:ar:=gA 123
def fn124:ar:=gA 124
def fn125:ar:=gA 125
def fn126:ar:=gA 126
def fn127:ar:=gA 127
def fn128:ar:=gA 128
def fn129:ar:=gA 129
def fn130:ar:=gA 130
def fn131:ar:=gA 131
def fn132:ar:=gA 132
def fn133:ar:=gA 133
def fn134:ar:=gA 134
def fn135:ar:=gA 135
def fn136:ar:=gA 136
def fn137:ar:=gA 137
def fn138:ar:=gA 138
def fn139:ar:=gA 139
def fn140:ar:=gA 140
def fn141:ar:=uV 2 2
def fn142:ar:=gA 142
def fn143:ar:=gA 143
def fn144:ar:=gA 144
def fn145:ar:=gA 145
def fn146:ar:=gA 146
def fn147:ar:=gA 147
def fn148:ar:=gA 148
def fn149:ar:=⟨22,2,[],(.s [.p 3 1] (.ops [.m 4 0,.m 5 0,.o 6 (.bP (.t 5)),.a 7 1 6,.l 8 7,.a 9 2 3,.l 10 9,.o 11 (.bD 1 (.t 10) .z),.l 12 11,.a 13 3 3,.l 14 13,.o 15 (.bD 1 (.t 14) .w),.l 16 15,.o 17 (.build [.str [],.int .i64 0,.bool false] [(0,1,.t 12),(1,1,.t 16)]),.o 18 (.bd 3 1 [.str [],.int .i64 0,.bool false] [(0,.t 17)]),.o 19 (.app 3 32 (.t 8) (.t 18)),.o 20 (.bP (.t 4)),.a 21 1 20,.s 1 21 19]))⟩
def fn150:ar:=gA 150
def fn151:ar:=⟨23,2,[(4,none)],(.s [.p 2 0,.p 3 1,.o 4 (.cA .z)] (.r [.y 5 (.aU 3 (.t 3)),.j 6 5,.y 7 (.bD 1 (.t 6) .z),.j 8 7,.y 9 (.aU 3 (.t 3)),.j 10 9,.y 11 (.bD 1 (.t 10) .w),.j 12 11,.y 13 (.bin .add (.t 8) (.t 12)),.y 14 (.bin .gtr (.t 13) (.n 999999999)),.y 15 (.call (.f 85) [.t 14,.n 4]),.y 16 (.aU 2 (.t 2)),.j 17 16,.y 18 (.len .sl (.t 17)),.y 19 (.bin .geq (.t 18) (.n 16)),.c 20 85 [.t 19,.n 5],.o 21 (.bd 1 2 [.int .i64 0] [(0,.t 15),(1,.t 20)]),.c 22 74 [.t 21],.m 4 22]))⟩
def fn152:ar:=⟨27,2,[],(.s [.p 3 1] (.ops [.m 4 0,.m 5 0,.o 6 (.bP (.t 5)),.a 7 2 6,.l 8 7,.a 9 2 3,.l 10 9,.o 11 (.bD 1 (.t 10) .z),.l 12 11,.a 13 3 3,.l 14 13,.o 15 (.bD 1 (.t 14) .z),.l 16 15,.a 17 3 3,.l 18 17,.o 19 (.bD 1 (.t 18) .w),.l 20 19,.u 21 .add 16 20,.o 22 (.build [.str [],.int .i64 0] [(0,1,.t 12),(1,1,.t 21)]),.o 23 (.bd 2 1 [.str [],.int .i64 0] [(0,.t 22)]),.o 24 (.app 2 24 (.t 8) (.t 23)),.o 25 (.bP (.t 4)),.a 26 2 25,.s 1 26 24]))⟩
def fn153:ar:=gA 153
def fn154:ar:=gA 154
def fn155:ar:=⟨27,2,[(4,none)],(.s [.p 2 0,.p 3 1,.o 4 (.cA .z)] (.r [.y 5 (.load (some 7) (.t 2)),.y 6 (.aU 2 (.t 3)),.j 7 6,.y 8 (.bD 1 (.t 7) .w),.j 9 8,.y 10 (.call (.f 205) [.t 5,.t 9]),.y 11 (.part none 2 (.t 10)),.y 12 (.call (.f 85) [.t 11,.n 23]),.y 13 (.load (some 7) (.t 2)),.y 14 (.load (some 5) (.t 3)),.y 15 (.aU 2 (.t 3)),.j 16 15,.y 17 (.bD 1 (.t 16) (.n 2)),.j 18 17,.y 19 (.call (.f 241) [.t 13,.t 14,.t 18]),.y 20 (.aU 3 (.t 2)),.j 21 20,.y 22 (.len .sl (.t 21)),.y 23 (.bin .geq (.t 22) (.n 64)),.c 24 85 [.t 23,.n 5],.o 25 (.bd 1 3 [.int .i64 0] [(0,.t 12),(1,.t 19),(2,.t 24)]),.c 26 74 [.t 25],.m 4 26]))⟩
def fn156:ar:=⟨27,2,[],(.s [.p 3 1] (.ops [.m 4 0,.m 5 0,.o 6 (.bP (.t 5)),.a 7 3 6,.l 8 7,.a 9 2 3,.l 10 9,.o 11 (.bD 1 (.t 10) .z),.l 12 11,.a 13 2 3,.l 14 13,.o 15 (.bD 1 (.t 14) .w),.l 16 15,.a 17 2 3,.l 18 17,.o 19 (.bD 1 (.t 18) (.n 2)),.l 20 19,.o 21 (.bd 1 1 [.str []] [(0,.t 20)]),.o 22 (.build [.str [],.str [],.af] [(0,1,.t 12),(1,1,.t 16),(2,1,.t 21)]),.o 23 (.bd 3 1 [.str [],.str [],.af] [(0,.t 22)]),.o 24 (.app 3 56 (.t 8) (.t 23)),.o 25 (.bP (.t 4)),.a 26 3 25,.s 1 26 24]))⟩
def fn157:ar:=⟨35,2,[(4,none)],(.s [.p 2 0,.p 3 1,.o 4 (.cA .z)] (.s [.y 7 (.load (some 7) (.t 2)),.y 8 (.aU 2 (.t 3)),.j 9 8,.y 10 (.bD 1 (.t 9) .z),.j 11 10,.y 12 (.call (.f 134) [.t 7,.t 11]),.y 13 (.load (some 7) (.t 2)),.y 14 (.aU 2 (.t 3)),.j 15 14,.y 16 (.bD 1 (.t 15) .w),.j 17 16,.y 18 (.call (.f 134) [.t 13,.t 17]),.y 5 (.box (.c (.agg [.str [],.int .i64 0]))),.y 6 (.box (.c (.agg [.str [],.int .i64 0]))),.s 2 5 12,.s 2 6 18] (.r [.y 19 (.load (some 2) (.t 5)),.y 20 (.load (some 2) (.t 6)),.y 21 (.eqv false (.agg [.s,.i]) (.t 19) (.t 20)),.y 22 (.call (.f 85) [.t 21,.n 24]),.y 23 (.load (some 7) (.t 2)),.y 24 (.load (some 5) (.t 3)),.y 25 (.aU 0 (.t 5)),.j 26 25,.y 27 (.call (.f 241) [.t 23,.t 24,.t 26]),.y 28 (.load (some 7) (.t 2)),.y 29 (.load (some 5) (.t 3)),.y 30 (.aU 0 (.t 6)),.j 31 30,.c 32 241 [.t 28,.t 29,.t 31],.o 33 (.bd 1 3 [.int .i64 0] [(0,.t 22),(1,.t 27),(2,.t 32)]),.c 34 74 [.t 33],.m 4 34])))⟩
def fn158:ar:=⟨50,2,[],(.s [.p 3 1] (.s [.y 8 (.aU 2 (.t 3)),.j 9 8,.y 10 (.bD 1 (.t 9) .z),.j 11 10,.y 12 (.aU 2 (.t 3)),.j 13 12,.y 14 (.bD 1 (.t 13) .w),.j 15 14,.w 4 11,.m 5 15] (.s [.m 16 0,.o 17 (.bP (.t 16)),.a 18 3 17,.l 19 18,.n 20 19,.o 21 (.cA .z)] (.block 0 (.loop (.s [.u 22 .lss 21 20] (.seq (.i 22 .skip (.exit 0)) (.seq (.block 1 (.s [.m 23 21,.h 24 3 19 21,.r 25 3 24,.o 7 (.box (.c (.agg [.str [],.str [],.af]))),.m 6 23,.s 3 7 25] (.s [.a 26 2 7,.l 27 26,.m 28 4,.c 29 242 [.t 27,.t 28],.m 30 29,.g 31 30 true (.aU 2 (.t 7)),.g 32 30 true (.load none (.t 31)),.t 33 30 true 5,.g 34 30 true (.call (.f 242) [.t 32,.t 33]),.g 35 30 true (.un .not (.t 34)),.d 36 30 35] (.i 36 (.mD [.m 37 0,.o 38 (.bP (.t 37)),.a 39 3 38,.j 40 39,.m 41 6,.a 42 2 7,.j 43 42,.m 44 5,.o 45 (.bd 1 1 [.str []] [(0,.t 44)]),.o 46 (.app 1 16 (.t 43) (.t 45)),.h 47 3 40 41,.a 48 2 47,.s 1 48 46]) .skip)))) (.ops [.v 49 .add 21 .w,.m 21 49])))))))))⟩
def fn159:ar:=⟨36,2,[(4,none)],(.s [.p 2 0,.p 3 1,.o 4 (.cA .z)] (.s [.y 8 (.load (some 7) (.t 2)),.y 9 (.aU 2 (.t 3)),.j 10 9,.y 11 (.bD 1 (.t 10) .z),.j 12 11,.y 13 (.call (.f 205) [.t 8,.t 12]),.y 14 (.load (some 7) (.t 2)),.y 15 (.aU 2 (.t 3)),.j 16 15,.y 17 (.bD 1 (.t 16) .z),.j 18 17,.y 19 (.call (.f 206) [.t 14,.t 18]),.y 5 (.box (.c (.agg [.str [],.int .i64 0,.bool false]))),.s 3 5 13,.m 6 19] (.s [.m 20 6,.o 21 (.uc (.func 244) [] [.t 2,.t 3]),.c 22 243 [.t 20,.t 21],.m 7 22] (.r [.y 23 (.aU 2 (.t 5)),.j 24 23,.y 25 (.call (.f 85) [.t 24,.n 23]),.w 26 6,.y 27 (.len .sl (.t 26)),.y 28 (.aU 1 (.t 5)),.j 29 28,.y 30 (.bin .lss (.t 27) (.t 29)),.y 31 (.call (.f 85) [.t 30,.n 16]),.w 32 7,.c 33 85 [.t 32,.n 30],.o 34 (.bd 1 3 [.int .i64 0] [(0,.t 25),(1,.t 31),(2,.t 33)]),.c 35 74 [.t 34],.m 4 35]))))⟩
def yA(x0 x1 x2 x3:Nat):ar:=⟨19,2,[],(.s [.p 3 1] (.ops [.w 4 0,.y 5 (.bP (.t 4)),.y 6 (.aU x0 (.t 5)),.j 7 6,.w 8 0,.y 9 (.bP (.t 8)),.y 10 (.aU x0 (.t 9)),.j 11 10,.y 12 (.aU 2 (.t 3)),.j 13 12,.y 14 (.bD 1 (.t 13) .z),.j 15 14,.y 16 (.call (.f x1) [.t 11,.t 15]),.h 17 x2 7 16,.a 18 x3 17,.x (.store 1 (.t 18) .T)]))⟩
def fn160:ar:=yA 1 142 3 2
def fn161:ar:=gA 161
def fn162:ar:=⟨22,2,[],(.s [.p 3 1] (.ops [.m 4 0,.m 5 0,.o 6 (.bP (.t 5)),.a 7 4 6,.l 8 7,.a 9 2 3,.l 10 9,.o 11 (.bD 1 (.t 10) .z),.l 12 11,.a 13 2 3,.l 14 13,.o 15 (.bD 1 (.t 14) .w),.l 16 15,.o 17 (.build [.str [],.str [],.str [],.af] [(0,1,.t 12),(1,1,(.c (.str [115,104,111,116,115]))),(2,1,.t 16)]),.o 18 (.bd 4 1 [.str [],.str [],.str [],.af] [(0,.t 17)]),.o 19 (.app 4 72 (.t 8) (.t 18)),.o 20 (.bP (.t 4)),.a 21 4 20,.s 1 21 19]))⟩
def fn163:ar:=⟨35,2,[(4,none)],(.s [.p 2 0,.p 3 1,.o 4 (.cA .z)] (.s [.a 6 3 3,.l 7 6,.o 8 (.bD 1 (.t 7) .w),.l 9 8,.m 5 9] (.seq (.s [.m 10 5,.v 11 .lss 10 .w,.m 12 11,.t 13 12 false 5,.g 14 12 false (.bin .gtr (.t 13) (.n 4)),.f 15 12 14] (.j 15 [.o 4 (.cA (.n 13))])) (.r [.y 16 (.load (some 7) (.t 2)),.y 17 (.aU 2 (.t 3)),.j 18 17,.y 19 (.bD 1 (.t 18) .w),.j 20 19,.y 21 (.call (.f 245) [.t 16,.t 20]),.y 22 (.part none 1 (.t 21)),.w 23 5,.y 24 (.bin .sub (.t 23) .w),.y 25 (.si 4 2 (.g 0) (.t 24)),.y 26 (.si 2 1 (.t 25) .z),.j 27 26,.y 28 (.bin .neq (.t 22) (.t 27)),.y 29 (.call (.f 85) [.t 28,.n 2]),.y 30 (.load (some 7) (.t 2)),.y 31 (.load (some 5) (.t 3)),.c 32 161 [.t 30,.t 31],.o 33 (.bd 1 2 [.int .i64 0] [(0,.t 29),(1,.t 32)]),.c 34 74 [.t 33],.m 4 34]))))⟩
def fn164:ar:=⟨30,2,[],(.s [.p 3 1] (.ops [.m 4 0,.m 5 0,.o 6 (.bP (.t 5)),.a 7 4 6,.l 8 7,.a 9 2 3,.l 10 9,.o 11 (.bD 1 (.t 10) .z),.l 12 11,.a 13 3 3,.l 14 13,.o 15 (.bD 1 (.t 14) .w),.l 16 15,.v 17 .sub 16 .w,.o 18 (.si 4 2 (.g 0) (.t 17)),.o 19 (.si 2 1 (.t 18) .w),.l 20 19,.a 21 2 3,.l 22 21,.o 23 (.sl 1 (.t 22) (some .w) none),.y 24 (.call (.f 177) [.t 23]),.o 25 (.build [.str [],.str [],.str [],.af] [(0,1,.t 12),(1,1,.t 20),(3,1,.t 24)]),.o 26 (.bd 4 1 [.str [],.str [],.str [],.af] [(0,.t 25)]),.o 27 (.app 4 72 (.t 8) (.t 26)),.o 28 (.bP (.t 4)),.a 29 4 28,.s 1 29 27]))⟩
def fn165:ar:=⟨36,2,[(4,none)],(.s [.p 2 0,.p 3 1,.o 4 (.cA .z)] (.r [.y 5 (.aU 2 (.t 3)),.j 6 5,.y 7 (.bD 1 (.t 6) .w),.j 8 7,.y 9 (.aU 2 (.t 3)),.j 10 9,.y 11 (.bD 1 (.t 10) (.n 2)),.j 12 11,.y 13 (.bin .eql (.t 8) (.t 12)),.y 14 (.call (.f 85) [.t 13,.n 24]),.y 15 (.load (some 7) (.t 2)),.y 16 (.aU 2 (.t 3)),.j 17 16,.y 18 (.bD 1 (.t 17) .w),.j 19 18,.y 20 (.call (.f 245) [.t 15,.t 19]),.y 21 (.part none 1 (.t 20)),.y 22 (.load (some 7) (.t 2)),.y 23 (.aU 2 (.t 3)),.j 24 23,.y 25 (.bD 1 (.t 24) (.n 2)),.j 26 25,.y 27 (.call (.f 245) [.t 22,.t 26]),.y 28 (.part none 1 (.t 27)),.y 29 (.bin .neq (.t 21) (.t 28)),.y 30 (.call (.f 85) [.t 29,.n 2]),.y 31 (.load (some 7) (.t 2)),.y 32 (.load (some 5) (.t 3)),.c 33 161 [.t 31,.t 32],.o 34 (.bd 1 3 [.int .i64 0] [(0,.t 14),(1,.t 30),(2,.t 33)]),.c 35 74 [.t 34],.m 4 35]))⟩
def fn166:ar:=⟨31,2,[],(.s [.p 3 1] (.ops [.m 4 0,.m 5 0,.o 6 (.bP (.t 5)),.a 7 4 6,.l 8 7,.a 9 2 3,.l 10 9,.o 11 (.bD 1 (.t 10) .z),.l 12 11,.m 13 0,.o 14 (.bP (.t 13)),.r 15 7 14,.a 16 2 3,.l 17 16,.o 18 (.bD 1 (.t 17) .w),.l 19 18,.y 20 (.call (.f 245) [.t 15,.t 19]),.o 21 (.part none 1 (.t 20)),.a 22 2 3,.l 23 22,.o 24 (.sl 1 (.t 23) (some .w) none),.y 25 (.call (.f 177) [.t 24]),.o 26 (.build [.str [],.str [],.str [],.af] [(0,1,.t 12),(1,1,.t 21),(3,1,.t 25)]),.o 27 (.bd 4 1 [.str [],.str [],.str [],.af] [(0,.t 26)]),.o 28 (.app 4 72 (.t 8) (.t 27)),.o 29 (.bP (.t 4)),.a 30 4 29,.s 1 30 28]))⟩
def fn167:ar:=gA 167
def fn168:ar:=⟨28,2,[],(.s [.p 3 1] (.ops [.m 4 0,.m 5 0,.o 6 (.bP (.t 5)),.a 7 5 6,.l 8 7,.a 9 2 3,.l 10 9,.o 11 (.bD 1 (.t 10) .z),.l 12 11,.a 13 2 3,.l 14 13,.o 15 (.bD 1 (.t 14) .w),.l 16 15,.o 17 (.bd 1 1 [.int .i64 0] [(0,(.n (-1)))]),.a 18 3 3,.l 19 18,.o 20 (.bD 1 (.t 19) .w),.l 21 20,.y 22 (.call (.f 248) [.t 17,.t 21]),.o 23 (.build [.str [],.str [],.af] [(0,1,.t 12),(1,1,.t 16),(2,1,.t 22)]),.o 24 (.bd 3 1 [.str [],.str [],.af] [(0,.t 23)]),.o 25 (.app 3 56 (.t 8) (.t 24)),.o 26 (.bP (.t 4)),.a 27 5 26,.s 1 27 25]))⟩
def fn169:ar:=gA 169
def fn170:ar:=gA 170
def fn171:ar:=⟨27,2,[(4,none)],(.s [.p 2 0,.p 3 1,.o 4 (.cA .z)] (.seq (.s [.r 6 7 2,.r 7 5 3,.c 8 249 [.t 6,.t 7],.m 5 8] (.s [.m 9 5,.v 10 .neq 9 .z] (.j 10 [.m 11 5,.m 4 11]))) (.r [.y 12 (.load (some 7) (.t 2)),.y 13 (.aU 2 (.t 3)),.j 14 13,.y 15 (.bD 1 (.t 14) .z),.j 16 15,.y 17 (.call (.f 124) [.t 12,.t 16]),.y 18 (.part none 2 (.t 17)),.y 19 (.aU 3 (.t 3)),.j 20 19,.y 21 (.bD 1 (.t 20) .w),.j 22 21,.h 23 1 18 22,.l 24 23,.v 25 .eql 24 (.n (-1)),.c 26 85 [.t 25,.n 7],.m 4 26])))⟩
def fn172:ar:=gA 172
def fn173:ar:=⟨31,2,[(4,none)],(.s [.p 2 0,.p 3 1,.o 4 (.cA .z)] (.s [.y 6 (.load (some 7) (.t 2)),.y 7 (.aU 2 (.t 3)),.j 8 7,.y 9 (.bD 1 (.t 8) .w),.j 10 9,.c 11 124 [.t 6,.t 10],.c 12 125 [.t 11],.m 5 12] (.r [.y 13 (.load (some 7) (.t 2)),.y 14 (.aU 2 (.t 3)),.j 15 14,.y 16 (.bD 1 (.t 15) .w),.j 17 16,.y 18 (.call (.f 251) [.t 13,.t 17]),.y 19 (.call (.f 85) [.t 18,.n 23]),.w 20 5,.y 21 (.len .sl (.t 20)),.y 22 (.bin .gtr (.t 21) .z),.y 23 (.call (.f 85) [.t 22,.n 32]),.y 24 (.aU 6 (.t 2)),.j 25 24,.y 26 (.len .sl (.t 25)),.y 27 (.bin .geq (.t 26) (.n 16)),.c 28 85 [.t 27,.n 5],.o 29 (.bd 1 3 [.int .i64 0] [(0,.t 19),(1,.t 23),(2,.t 28)]),.c 30 74 [.t 29],.m 4 30])))⟩
def fn174:ar:=⟨32,2,[],(.s [.p 3 1] (.ops [.m 4 0,.m 5 0,.o 6 (.bP (.t 5)),.a 7 6 6,.l 8 7,.a 9 2 3,.l 10 9,.o 11 (.bD 1 (.t 10) .z),.l 12 11,.a 13 2 3,.l 14 13,.o 15 (.bD 1 (.t 14) .w),.l 16 15,.m 17 0,.o 18 (.bP (.t 17)),.r 19 7 18,.a 20 2 3,.l 21 20,.o 22 (.bD 1 (.t 21) .w),.l 23 22,.y 24 (.call (.f 124) [.t 19,.t 23]),.o 25 (.part none 2 (.t 24)),.y 26 (.call (.f 95) [.t 25]),.o 27 (.build [.str [],.str [],.int .i64 0,.bool false] [(0,1,.t 12),(1,1,.t 16),(2,1,.t 26)]),.o 28 (.bd 4 1 [.str [],.str [],.int .i64 0,.bool false] [(0,.t 27)]),.o 29 (.app 4 48 (.t 8) (.t 28)),.o 30 (.bP (.t 4)),.a 31 6 30,.s 1 31 29]))⟩
def fn175:ar:=gA 175
def fn176:ar:=yA 6 146 4 3
def fn177:ar:=gA 177
def fn178:ar:=gA 178
def fn179:ar:=gA 179
def fn180:ar:=gA 180
def fn181:ar:=gA 181
def fn182:ar:=gA 182
def fn183:ar:=gA 183
def fn184:ar:=gA 184
def fn185:ar:=gA 185
def fn186:ar:=gA 186
def fn187:ar:=gA 187
def fn188:ar:=gA 188
def fn189:ar:=gA 189
def fn190:ar:=gA 190
def fn193:ar:=gA 193
def fn194:ar:=gA 194
def fn195:ar:=gA 195
def fn197:ar:=gA 197
def fn198:ar:=gA 198
def fn199:ar:=gA 199
def fn200:ar:=gA 200
def fn201:ar:=gA 201
def fn202:ar:=gA 202
def fn203:ar:=gA 203
def fn204:ar:=gA 204
def fn205:ar:=gA 205
def fn206:ar:=gA 206
def fn207:ar:=gA 207
def fn208:ar:=gA 208
def fn213:ar:=gA 213
def fn214:ar:=gA 214
def fn215:ar:=gA 215
def fn216:ar:=gA 216
def fn217:ar:=gA 217
def fn218:ar:=gA 218
def fn219:ar:=gA 219
def fn221:ar:=gA 221
def fn222:ar:=gA 222
def fn223:ar:=⟨55,2,[(4,none)],(.s [.p 2 0,.p 3 1,.o 4 (.cA .z)] (.s [.a 7 1 3,.l 8 7,.c 9 101 [.t 8],.o 10 (.part none 0 (.t 9)),.m 5 10] (.seq (.s [.o 6 (.cA .z)] (.block 0 (.loop (.seq (.s [.m 11 6,.m 12 5,.o 13 (.len .st (.t 12)),.u 14 .lss 11 13] (.i 14 .skip (.exit 0))) (.seq (.block 1 (.s [.w 17 5,.w 18 6,.o 19 (.Dp (.t 17) (.t 18)),.v 20 .geq 19 (.c (.int .u8 97)),.m 21 20,⟨(some 22),.load (some 7) (.t 2),(some (21,true)),true⟩,⟨(some 23),.cA (.t 5),(some (21,true)),true⟩,⟨(some 24),.cA (.t 6),(some (21,true)),true⟩,⟨(some 25),.Dp (.t 23) (.t 24),(some (21,true)),true⟩,⟨(some 26),.aU 2 (.t 3),(some (21,true)),true⟩,⟨(some 27),.load none (.t 26),(some (21,true)),true⟩,⟨(some 28),.cA (.t 6),(some (21,true)),true⟩,⟨(some 29),.bD 1 (.t 27) (.t 28),(some (21,true)),true⟩,⟨(some 30),.load none (.t 29),(some (21,true)),true⟩,.g 31 21 true (.call (.f 195) [.t 22,.t 25,.t 30]),.g 32 21 true (.bin .lss (.t 31) .z),.d 33 21 32] (.j 33 [.o 4 (.cA (.n 10))]))) (.ops [.m 15 6,.v 16 .add 15 .w,.m 6 16])))))) (.seq (.s [.m 34 5,.o 35 (.len .st (.t 34)),.v 36 .gtr 35 .z,.m 37 36,.t 38 37 true 5,.g 39 37 true (.Dp (.t 38) .z),.g 40 37 true (.bin .lss (.t 39) (.c (.int .u8 97))),.d 41 37 40,.m 42 41,⟨(some 43),.load (some 7) (.t 2),(some (42,true)),true⟩,⟨(some 44),.cA (.t 5),(some (42,true)),true⟩,⟨(some 45),.Dp (.t 44) .z,(some (42,true)),true⟩,⟨(some 46),.bin .add (.t 45) (.c (.int .u8 97)),(some (42,true)),true⟩,⟨(some 47),.bin .sub (.t 46) (.c (.int .u8 65)),(some (42,true)),true⟩,⟨(some 48),.aU 2 (.t 3),(some (42,true)),true⟩,⟨(some 49),.load none (.t 48),(some (42,true)),true⟩,⟨(some 50),.bD 1 (.t 49) .z,(some (42,true)),true⟩,⟨(some 51),.load none (.t 50),(some (42,true)),true⟩,.g 52 42 true (.call (.f 195) [.t 43,.t 47,.t 51]),.g 53 42 true (.bin .geq (.t 52) .z),.d 54 42 53] (.j 54 [.o 4 (.cA (.n 9))])) (.r [.o 4 (.cA .z)])))))⟩
def fn224:ar:=gA 224
def fn225:ar:=⟨250,2,[(4,some (some 7)),(5,none)],(.s [.p 2 0,.p 3 1,.o 4 (.box (.c (.agg [.int .i64 0,.af,.af,.af,.af,.af,.af]))),.o 5 (.cA .z)] (.s [.a 12 3 3,.l 13 12,.o 14 (.bD 1 (.t 13) .z),.l 15 14,.m 6 15] (.seq (.s [.a 16 1 3,.l 17 16] (.block 0 (.s [.v 72 .eql 17 (.c (.str [108,105,110,101])),.m 71 72] (.i 71 (.seq (.s [.a 73 3 3,.l 74 73,.o 75 (.bD 1 (.t 74) .w),.l 76 75,.c 77 20 [.t 76,.w,.n 64]] (.j 77 [.r 78 7 2,.s 7 4 78,.o 5 (.cA (.n 3))])) (.seq (.s [.a 79 1 2,.l 80 79,.n 81 80,.v 82 .geq 81 (.n 16)] (.j 82 [.r 83 7 2,.s 7 4 83,.o 5 (.cA (.n 5))])) (.ops [.y 84 (.aU 1 (.t 2)),.j 85 84,.y 86 (.aU 2 (.t 3)),.j 87 86,.y 88 (.bD 1 (.t 87) .z),.j 89 88,.y 90 (.aU 3 (.t 3)),.j 91 90,.y 92 (.bD 1 (.t 91) .w),.j 93 92,.y 94 (.build [.str [],.int .i64 0,.bool false] [(0,1,.t 89),(1,1,.t 93)]),.y 95 (.bd 3 1 [.str [],.int .i64 0,.bool false] [(0,.t 94)]),.o 96 (.app 3 32 (.t 85) (.t 95)),.a 97 1 2,.s 1 97 96]))) (.s [.v 99 .eql 17 (.c (.str [116,97,112,101])),.m 98 99] (.i 98 (.seq (.s [.m 100 6,.a 101 3 3,.l 102 101,.o 103 (.bD 1 (.t 102) .w),.l 104 103,.u 105 .add 100 104,.v 106 .gtr 105 (.n 999999999)] (.j 106 [.r 107 7 2,.s 7 4 107,.o 5 (.cA (.n 4))])) (.seq (.s [.a 108 2 2,.l 109 108,.n 110 109,.v 111 .geq 110 (.n 16)] (.j 111 [.r 112 7 2,.s 7 4 112,.o 5 (.cA (.n 5))])) (.ops [.y 113 (.aU 2 (.t 2)),.j 114 113,.y 115 (.aU 2 (.t 3)),.j 116 115,.y 117 (.bD 1 (.t 116) .z),.j 118 117,.w 119 6,.y 120 (.aU 3 (.t 3)),.j 121 120,.y 122 (.bD 1 (.t 121) .w),.j 123 122,.y 124 (.bin .add (.t 119) (.t 123)),.y 125 (.build [.str [],.int .i64 0] [(0,1,.t 118),(1,1,.t 124)]),.y 126 (.bd 2 1 [.str [],.int .i64 0] [(0,.t 125)]),.o 127 (.app 2 24 (.t 114) (.t 126)),.a 128 2 2,.s 1 128 127]))) (.s [.v 130 .eql 17 (.c (.str [115,104,111,116])),.m 129 130] (.i 129 (.seq (.s [.y 131 (.aU 1 (.t 2)),.j 132 131,.y 133 (.load (some 7) (.t 2)),.y 134 (.aU 2 (.t 3)),.j 135 134,.y 136 (.bD 1 (.t 135) .w),.j 137 136,.y 138 (.call (.f 28) [.t 133,.t 137]),.h 139 3 132 138,.a 140 2 139,.l 141 140] (.j 141 [.r 142 7 2,.s 7 4 142,.o 5 (.cA (.n 23))])) (.seq (.s [.y 143 (.load (some 7) (.t 2)),.y 144 (.aU 2 (.t 3)),.j 145 144,.y 146 (.bD 1 (.t 145) (.n 2)),.j 147 146,.w 148 6,.c 149 84 [.t 143,.t 147,.t 148],.o 150 (.un .not (.t 149))] (.j 150 [.r 151 7 2,.s 7 4 151,.o 5 (.cA (.n 30))])) (.seq (.s [.a 152 3 2,.l 153 152,.n 154 153,.v 155 .geq 154 (.n 64)] (.j 155 [.r 156 7 2,.s 7 4 156,.o 5 (.cA (.n 5))])) (.ops [.y 157 (.aU 3 (.t 2)),.j 158 157,.y 159 (.aU 2 (.t 3)),.j 160 159,.y 161 (.bD 1 (.t 160) .z),.j 162 161,.y 163 (.aU 2 (.t 3)),.j 164 163,.y 165 (.bD 1 (.t 164) .w),.j 166 165,.y 167 (.aU 2 (.t 3)),.j 168 167,.y 169 (.bD 1 (.t 168) (.n 2)),.j 170 169,.y 171 (.bd 1 1 [.str []] [(0,.t 170)]),.y 172 (.build [.str [],.str [],.af] [(0,1,.t 162),(1,1,.t 166),(2,1,.t 171)]),.y 173 (.bd 3 1 [.str [],.str [],.af] [(0,.t 172)]),.o 174 (.app 3 56 (.t 158) (.t 173)),.a 175 3 2,.s 1 175 174])))) (.s [.v 177 .eql 17 (.c (.str [99,111,112,121])),.m 176 177] (.i 176 (.seq (.s [.y 178 (.aU 2 (.t 3)),.j 179 178,.y 180 (.bD 1 (.t 179) .z),.j 181 180,.y 182 (.aU 2 (.t 3)),.j 183 182,.y 184 (.bD 1 (.t 183) .w),.j 185 184,.u 186 .eql 181 185] (.j 186 [.r 187 7 2,.s 7 4 187,.o 5 (.cA (.n 24))])) (.seq (.s [.y 188 (.load (some 7) (.t 2)),.y 189 (.aU 2 (.t 3)),.j 190 189,.y 191 (.bD 1 (.t 190) .z),.j 192 191,.w 193 6,.c 194 84 [.t 188,.t 192,.t 193],.o 195 (.un .not (.t 194)),.m 196 195,⟨(some 197),.load (some 7) (.t 2),(some (196,false)),true⟩,⟨(some 198),.aU 2 (.t 3),(some (196,false)),true⟩,⟨(some 199),.load none (.t 198),(some (196,false)),true⟩,⟨(some 200),.bD 1 (.t 199) .w,(some (196,false)),true⟩,⟨(some 201),.load none (.t 200),(some (196,false)),true⟩,⟨(some 202),.cA (.t 6),(some (196,false)),true⟩,.g 203 196 false (.call (.f 84) [.t 197,.t 201,.t 202]),.g 204 196 false (.un .not (.t 203)),.f 205 196 204] (.j 205 [.r 206 7 2,.s 7 4 206,.o 5 (.cA (.n 30))])) (.s [.o 7 (.cA .z)] (.block 3 (.loop (.seq (.s [.m 207 7,.a 208 3 2,.l 209 208,.n 210 209,.u 211 .lss 207 210] (.i 211 .skip (.exit 3))) (.seq (.block 4 (.s [.a 214 3 2,.l 215 214,.m 216 7,.h 217 3 215 216,.a 218 2 217,.l 219 218,.m 8 219] (.s [.m 220 8,.a 221 2 3,.l 222 221,.o 223 (.bD 1 (.t 222) .z),.l 224 223,.c 225 35 [.t 220,.t 224],.m 226 225,.t 227 226 true 8,.g 228 226 true (.aU 2 (.t 3)),.g 229 226 true (.load none (.t 228)),.g 230 226 true (.bD 1 (.t 229) .w),.g 231 226 true (.load none (.t 230)),.g 232 226 true (.call (.f 35) [.t 227,.t 231]),.g 233 226 true (.un .not (.t 232)),.d 234 226 233] (.i 234 (.mD [.a 235 3 2,.j 236 235,.m 237 7,.o 238 (.bd 1 0 [.str []] []),.m 239 8,.o 240 (.app 1 16 (.t 238) (.t 239)),.a 241 2 3,.j 242 241,.o 243 (.bD 1 (.t 242) .w),.j 244 243,.o 245 (.bd 1 1 [.str []] [(0,.t 244)]),.o 246 (.app 1 16 (.t 240) (.t 245)),.h 247 3 236 237,.a 248 2 247,.s 1 248 246]) .skip)))) (.ops [.m 212 7,.v 213 .add 212 .w,.m 7 213])))))))) (.s [.y 18 (.load (some 7) (.t 2)),.y 19 (.aU 2 (.t 3)),.j 20 19,.y 21 (.bD 1 (.t 20) .z),.j 22 21,.c 23 28 [.t 18,.t 22],.m 9 23] (.s [.r 24 7 2,.a 25 2 3,.l 26 25,.c 27 127 [.t 24,.t 26],.m 10 27] (.seq (.s [.a 28 1 2,.l 29 28,.m 30 9,.h 31 3 29 30,.a 32 2 31,.l 33 32] (.j 33 [.r 34 7 2,.s 7 4 34,.o 5 (.cA (.n 23))])) (.seq (.s [.m 35 10,.n 36 35,.a 37 1 2,.l 38 37,.m 39 9,.h 40 3 38 39,.a 41 1 40,.l 42 41,.u 43 .lss 36 42] (.j 43 [.r 44 7 2,.s 7 4 44,.o 5 (.cA (.n 16))])) (.seq (.s [.o 11 (.cA .z)] (.block 1 (.loop (.seq (.s [.m 45 11,.m 46 10,.n 47 46,.u 48 .lss 45 47] (.i 48 .skip (.exit 1))) (.seq (.block 2 (.s [.y 51 (.load (some 7) (.t 2)),.y 52 (.aU 3 (.t 2)),.j 53 52,.y 54 (.load (some 7) (.t 2)),.w 55 10,.w 56 11,.y 57 (.bD 1 (.t 55) (.t 56)),.j 58 57,.y 59 (.call (.f 22) [.t 54,.t 58]),.y 60 (.bD 3 (.t 53) (.t 59)),.y 61 (.load (some 3) (.t 60)),.w 62 6,.c 63 23 [.t 51,.t 61,.t 62],.o 64 (.un .not (.t 63))] (.j 64 [.r 65 7 2,.s 7 4 65,.o 5 (.cA (.n 30))]))) (.ops [.m 49 11,.v 50 .add 49 .w,.m 11 50])))))) (.ops [.a 66 1 2,.l 67 66,.m 68 9,.h 69 3 67 68,.a 70 2 69,.x (.store 1 (.t 70) .T)])))))))))))))))) (.r [.r 249 7 2,.s 7 4 249,.o 5 (.cA .z)]))))⟩
def fn226:ar:=⟨96,2,[(4,some (some 7)),(5,none)],(.s [.p 2 0,.p 3 1,.o 4 (.box (.c (.agg [.int .i64 0,.af,.af,.af,.af,.af,.af]))),.o 5 (.cA .z)] (.s [.y 9 (.aU 2 (.t 3)),.j 10 9,.y 11 (.bD 1 (.t 10) .z),.j 12 11,.y 13 (.bd 1 0 [.str []] []),.y 14 (.aU 2 (.t 3)),.j 15 14,.y 16 (.sl 1 (.t 15) (some .w) none),.y 17 (.app 1 16 (.t 13) (.t 16)),.y 18 (.build [.str [],.str [],.str [],.af] [(0,1,.t 12),(3,1,.t 17)]),.y 6 (.box (.c (.agg [.str [],.str [],.str [],.af]))),.s 4 6 18] (.seq (.s [.a 19 1 3,.l 20 19] (.block 0 (.s [.v 49 .eql 20 (.c (.str [115,111,117,114,99,101])),.m 48 49] (.i 48 (.mD [.a 50 2 3,.j 51 50,.o 52 (.bD 1 (.t 51) .w),.j 53 52,.a 54 1 6,.x (.store 1 (.t 54) (.c (.str [115,104,111,116,115]))),.a 55 2 6,.s 1 55 53,.a 56 3 6,.x (.store 1 (.t 56) (.c .af))]) (.s [.v 58 .eql 20 (.c (.str [109,111,100,117,108,101])),.m 57 58] (.i 57 (.seq (.s [.a 59 3 3,.l 60 59,.o 61 (.bD 1 (.t 60) .w),.l 62 61,.c 63 20 [.t 62,.w,.n 4]] (.j 63 [.r 64 7 2,.s 7 4 64,.o 5 (.cA (.n 13))])) (.s [.a 66 3 3,.l 67 66,.o 68 (.bD 1 (.t 67) .w),.l 69 68,.c 70 263 [.t 69],.m 65 70,.e 71 65 0,.e 72 65 1,.m 7 71,.m 8 72] (.seq (.s [.y 73 (.load (some 7) (.t 2)),.y 74 (.aU 2 (.t 3)),.j 75 74,.y 76 (.bD 1 (.t 75) .w),.j 77 76,.y 78 (.call (.f 264) [.t 73,.t 77]),.w 79 7,.u 80 .neq 78 79] (.j 80 [.r 81 7 2,.s 7 4 81,.o 5 (.cA (.n 2))])) (.ops [.m 82 8,.a 83 1 6,.s 1 83 82])))) (.seq (.s [.y 21 (.aU 2 (.t 3)),.j 22 21,.y 23 (.bD 1 (.t 22) .w),.j 24 23,.y 25 (.aU 2 (.t 3)),.j 26 25,.y 27 (.bD 1 (.t 26) (.n 2)),.j 28 27,.u 29 .eql 24 28] (.j 29 [.r 30 7 2,.s 7 4 30,.o 5 (.cA (.n 24))])) (.s [.y 31 (.load (some 7) (.t 2)),.y 32 (.aU 2 (.t 3)),.j 33 32,.y 34 (.bD 1 (.t 33) .w),.j 35 34,.c 36 264 [.t 31,.t 35],.a 37 1 6,.s 1 37 36] (.s [.y 38 (.load (some 7) (.t 2)),.y 39 (.aU 2 (.t 3)),.j 40 39,.y 41 (.bD 1 (.t 40) (.n 2)),.j 42 41,.y 43 (.call (.f 264) [.t 38,.t 42]),.y 44 (.aU 1 (.t 6)),.j 45 44,.u 46 .neq 43 45] (.j 46 [.r 47 7 2,.s 7 4 47,.o 5 (.cA (.n 2))])))))))))) (.seq (.s [.a 84 4 2,.l 85 84,.n 86 85,.v 87 .geq 86 (.n 32)] (.j 87 [.r 88 7 2,.s 7 4 88,.o 5 (.cA (.n 5))])) (.s [.a 89 4 2,.l 90 89,.r 91 4 6,.o 92 (.bd 4 1 [.str [],.str [],.str [],.af] [(0,.t 91)]),.o 93 (.app 4 72 (.t 90) (.t 92)),.a 94 4 2,.s 1 94 93] (.r [.r 95 7 2,.s 7 4 95,.o 5 (.cA .z)]))))))⟩
def fn227:ar:=⟨223,2,[(4,some (some 7)),(5,none)],(.s [.p 2 0,.p 3 1,.o 4 (.box (.c (.agg [.int .i64 0,.af,.af,.af,.af,.af,.af]))),.o 5 (.cA .z)] (.seq (.s [.a 14 1 3,.l 15 14] (.block 0 (.s [.v 35 .eql 15 (.c (.str [114,117,110])),.m 34 35] (.i 34 (.s [.y 36 (.load (some 7) (.t 2)),.y 37 (.aU 2 (.t 3)),.j 38 37,.y 39 (.bD 1 (.t 38) .w),.j 40 39,.c 41 59 [.t 36,.t 40],.m 6 41] (.seq (.s [.o 7 (.cA .z)] (.block 1 (.loop (.seq (.s [.m 42 7,.m 43 6,.n 44 43,.u 45 .lss 42 44] (.i 45 .skip (.exit 1))) (.seq (.block 2 (.s [.y 48 (.aU 1 (.t 2)),.j 49 48,.y 50 (.load (some 7) (.t 2)),.w 51 6,.w 52 7,.y 53 (.bD 1 (.t 51) (.t 52)),.j 54 53,.y 55 (.call (.f 28) [.t 50,.t 54]),.h 56 3 49 55,.a 57 2 56,.l 58 57,.o 59 (.un .not (.t 58))] (.j 59 [.r 60 7 2,.s 7 4 60,.o 5 (.cA (.n 32))]))) (.ops [.m 46 7,.v 47 .add 46 .w,.m 7 47])))))) (.seq (.s [.a 61 3 3,.l 62 61,.o 63 (.bD 1 (.t 62) .w),.l 64 63,.c 65 20 [.t 64,.w,.n 32]] (.j 65 [.r 66 7 2,.s 7 4 66,.o 5 (.cA (.n 3))])) (.seq (.s [.a 67 5 2,.l 68 67,.n 69 68,.v 70 .geq 69 (.n 16)] (.j 70 [.r 71 7 2,.s 7 4 71,.o 5 (.cA (.n 5))])) (.s [.y 72 (.aU 2 (.t 3)),.j 73 72,.y 74 (.bD 1 (.t 73) .z),.j 75 74,.y 76 (.aU 2 (.t 3)),.j 77 76,.y 78 (.bD 1 (.t 77) .w),.j 79 78,.y 80 (.build [.str [],.str [],.af] [(0,1,.t 75),(1,1,.t 79)]),.y 8 (.box (.c (.agg [.str [],.str [],.af]))),.s 3 8 80] (.seq (.s [.o 9 (.cA .z)] (.block 3 (.loop (.seq (.s [.m 81 9,.a 82 3 3,.l 83 82,.o 84 (.bD 1 (.t 83) .w),.l 85 84,.u 86 .lss 81 85] (.i 86 .skip (.exit 3))) (.seq (.block 4 (.ops [.a 89 2 8,.l 90 89,.o 91 (.bd 1 1 [.int .i64 0] [(0,(.n (-1)))]),.o 92 (.app 1 8 (.t 90) (.t 91)),.a 93 2 8,.s 1 93 92])) (.ops [.m 87 9,.v 88 .add 87 .w,.m 9 88])))))) (.ops [.a 94 5 2,.l 95 94,.r 96 3 8,.o 97 (.bd 3 1 [.str [],.str [],.af] [(0,.t 96)]),.o 98 (.app 3 56 (.t 95) (.t 97)),.a 99 5 2,.s 1 99 98]))))))) (.seq (.s [.v 101 .eql 15 (.c (.str [116,105,108,101])),.m 100 101] (.i 100 .skip (.ops [.v 102 .eql 15 (.c (.str [102,97,105,108])),.m 100 102]))) (.i 100 (.s [.y 103 (.load (some 7) (.t 2)),.y 104 (.aU 2 (.t 3)),.j 105 104,.y 106 (.bD 1 (.t 105) .z),.j 107 106,.c 108 56 [.t 103,.t 107],.m 10 108] (.seq (.s [.y 109 (.load (some 7) (.t 2)),.y 110 (.aU 2 (.t 3)),.j 111 110,.y 112 (.bD 1 (.t 111) .z),.j 113 112,.c 114 265 [.t 109,.t 113]] (.j 114 [.r 115 7 2,.s 7 4 115,.o 5 (.cA (.n 23))])) (.s [.a 116 3 3,.l 117 116,.o 118 (.bD 1 (.t 117) .w),.l 119 118,.m 11 119] (.seq (.s [.m 120 11,.a 121 5 2,.l 122 121,.m 123 10,.h 124 3 122 123,.a 125 2 124,.l 126 125,.n 127 126,.u 128 .geq 120 127] (.j 128 [.r 129 7 2,.s 7 4 129,.o 5 (.cA (.n 3))])) (.seq (.s [.a 130 1 3,.l 131 130,.v 132 .eql 131 (.c (.str [102,97,105,108]))] (.i 132 (.seq (.s [.a 133 5 2,.l 134 133,.m 135 10,.h 136 3 134 135,.a 137 2 136,.l 138 137,.m 139 11,.h 140 1 138 139,.l 141 140,.v 142 .lss 141 .z] (.j 142 [.r 143 7 2,.s 7 4 143,.o 5 (.cA (.n 7))])) (.s [.a 144 5 2,.l 145 144,.m 146 10,.h 147 3 145 146,.a 148 2 147,.l 149 148,.m 150 11,.h 151 1 149 150,.x (.store 1 (.t 151) (.n (-1)))] (.r [.r 152 7 2,.s 7 4 152,.o 5 (.cA .z)]))) .skip)) (.seq (.s [.a 153 5 2,.l 154 153,.m 155 10,.h 156 3 154 155,.a 157 2 156,.l 158 157,.m 159 11,.h 160 1 158 159,.l 161 160,.v 162 .geq 161 .z] (.j 162 [.r 163 7 2,.s 7 4 163,.o 5 (.cA (.n 9))])) (.ops [.y 164 (.aU 5 (.t 2)),.j 165 164,.w 166 10,.y 167 (.bD 3 (.t 165) (.t 166)),.y 168 (.aU 2 (.t 167)),.j 169 168,.w 170 11,.y 171 (.aU 3 (.t 3)),.j 172 171,.y 173 (.bD 1 (.t 172) (.n 2)),.j 174 173,.h 175 1 169 170,.s 1 175 174]))))))) (.s [.v 177 .eql 15 (.c (.str [112,105,99,116,117,114,101])),.m 176 177] (.i 176 (.s [.y 178 (.aU 5 (.t 2)),.j 179 178,.y 180 (.load (some 7) (.t 2)),.y 181 (.aU 2 (.t 3)),.j 182 181,.y 183 (.bD 1 (.t 182) .w),.j 184 183,.y 185 (.call (.f 56) [.t 180,.t 184]),.y 186 (.bD 3 (.t 179) (.t 185)),.y 187 (.load (some 3) (.t 186)),.y 12 (.box (.c (.agg [.str [],.str [],.af]))),.s 3 12 187] (.seq (.s [.y 188 (.load (some 7) (.t 2)),.y 189 (.aU 2 (.t 3)),.j 190 189,.y 191 (.bD 1 (.t 190) .w),.j 192 191,.c 193 265 [.t 188,.t 192]] (.j 193 [.r 194 7 2,.s 7 4 194,.o 5 (.cA (.n 23))])) (.seq (.s [.r 195 3 12,.c 196 60 [.t 195],.n 197 196,.v 198 .gtr 197 .z] (.j 198 [.r 199 7 2,.s 7 4 199,.o 5 (.cA (.n 32))])) (.seq (.s [.a 200 6 2,.l 201 200,.n 202 201,.v 203 .geq 202 (.n 16)] (.j 203 [.r 204 7 2,.s 7 4 204,.o 5 (.cA (.n 5))])) (.ops [.y 205 (.aU 6 (.t 2)),.j 206 205,.y 207 (.aU 2 (.t 3)),.j 208 207,.y 209 (.bD 1 (.t 208) .z),.j 210 209,.y 211 (.aU 2 (.t 3)),.j 212 211,.y 213 (.bD 1 (.t 212) .w),.j 214 213,.y 215 (.aU 2 (.t 12)),.j 216 215,.y 217 (.call (.f 31) [.t 216]),.y 218 (.build [.str [],.str [],.int .i64 0,.bool false] [(0,1,.t 210),(1,1,.t 214),(2,1,.t 217),(3,1,.F)]),.y 219 (.bd 4 1 [.str [],.str [],.int .i64 0,.bool false] [(0,.t 218)]),.o 220 (.app 4 48 (.t 206) (.t 219)),.a 221 6 2,.s 1 221 220]))))) (.s [.y 16 (.load (some 7) (.t 2)),.y 17 (.aU 2 (.t 3)),.j 18 17,.y 19 (.bD 1 (.t 18) .z),.j 20 19,.c 21 57 [.t 16,.t 20],.m 13 21] (.seq (.s [.a 22 6 2,.l 23 22,.m 24 13,.h 25 4 23 24,.a 26 3 25,.l 27 26] (.j 27 [.r 28 7 2,.s 7 4 28,.o 5 (.cA (.n 23))])) (.ops [.a 29 6 2,.l 30 29,.m 31 13,.h 32 4 30 31,.a 33 3 32,.x (.store 1 (.t 33) .T)]))))))))))) (.r [.r 222 7 2,.s 7 4 222,.o 5 (.cA .z)])))⟩
def fn228:ar:=gA 228
def fn229:ar:=gA 229
def fn230:ar:=gA 230
def fn231:ar:=gA 231
def fn232:ar:=gA 232
def fn233:ar:=gA 233
def fn234:ar:=gA 234
def fn235:ar:=gA 235
def fn236:ar:=gA 236
def fn237:ar:=gA 237
def fn238:ar:=gA 238
def fn239:ar:=gA 239
def fn240:ar:=gA 240
def fn241:ar:=gA 241
def fn242:ar:=gA 242
def fn243:ar:=gA 243
def fn244:ar:=gA 244
def fn245:ar:=gA 245
def fn246:ar:=gA 246
def fn247:ar:=gA 247
def fn248:ar:=gA 248
def fn249:ar:=⟨28,2,[(4,none)],(.s [.p 2 0,.p 3 1,.o 4 (.cA .z)] (.r [.y 5 (.load (some 7) (.t 2)),.y 6 (.aU 2 (.t 3)),.j 7 6,.y 8 (.bD 1 (.t 7) .z),.j 9 8,.y 10 (.call (.f 251) [.t 5,.t 9]),.y 11 (.call (.f 85) [.t 10,.n 23]),.y 12 (.aU 3 (.t 3)),.j 13 12,.y 14 (.bD 1 (.t 13) .w),.j 15 14,.y 16 (.load (some 7) (.t 2)),.y 17 (.aU 2 (.t 3)),.j 18 17,.y 19 (.bD 1 (.t 18) .z),.j 20 19,.y 21 (.call (.f 124) [.t 16,.t 20]),.y 22 (.part none 2 (.t 21)),.y 23 (.len .sl (.t 22)),.y 24 (.bin .sub (.t 23) .w),.c 25 94 [.t 15,.z,.t 24],.o 26 (.bd 1 2 [.int .i64 0] [(0,.t 11),(1,.t 25)]),.c 27 74 [.t 26],.m 4 27]))⟩
def fn250:ar:=⟨28,3,[],(.s [.p 4 1] (.ops [.w 6 0,.y 7 (.bP (.t 6)),.y 8 (.aU 5 (.t 7)),.j 9 8,.w 10 0,.y 11 (.bP (.t 10)),.y 12 (.aU 5 (.t 11)),.j 13 12,.y 14 (.aU 2 (.t 4)),.j 15 14,.y 16 (.bD 1 (.t 15) .z),.j 17 16,.y 18 (.call (.f 145) [.t 13,.t 17]),.y 19 (.bD 3 (.t 9) (.t 18)),.y 20 (.aU 2 (.t 19)),.j 21 20,.y 22 (.aU 3 (.t 4)),.j 23 22,.y 24 (.bD 1 (.t 23) .w),.j 25 24,.w 26 2,.h 27 1 21 25,.s 1 27 26]))⟩
def fn251:ar:=gA 251
def fn252:ar:=gA 252
def fn253:ar:=gA 253
def fn254:ar:=gA 254
def fn255:ar:=gA 255
def fn259:ar:=gA 259
def fn263:ar:=gA 263
def fn264:ar:=⟨13,2,[(4,none)],(.s [.p 2 0,.o 4 (.cA (.c (.str [])))] (.r [.y 5 (.aU 4 (.t 2)),.j 6 5,.y 7 (.load (some 7) (.t 2)),.w 8 1,.y 9 (.call (.f 55) [.t 7,.t 8]),.h 10 4 6 9,.a 11 1 10,.l 12 11,.m 4 12]))⟩
def fn265:ar:=gA 265
def fn266:ar:=gA 266
def fn267:ar:=gA 267
def fn268:ar:=gA 268
def F4:ar:=⟨8,1,[(3,none)],(.s [.p 2 0,.o 3 (.cA .F)] (.r [.a 4 1 2,.l 5 4,.l 6 1,.u 7 .eql 5 6,.m 3 7]))⟩
def fn269:ar:=F4
def KI(x0:Nat):ar:=⟨8,2,[(4,none)],(.s [.o 4 (.cA .z)] (.r [.m 5 0,.m 6 1,.c 7 x0 [.t 5,.t 6],.m 4 7]))⟩
def fn272:ar:=KI 288
def fn286:ar:=gA 286
def fn322:ar:=gA 322
def fn323:ar:=gA 323
def fn324:ar:=gA 324
abbrev Cf(P:Program)(n:Nat)(A:ar):Prop:=bQ P n=some A
structure fp(P:Program):Prop where
 mix:P.follows .mixedOrders=true
 m123:iW P 78 "moveout/house.name" =some 123
 m322:iW P 73 "moveout/house.name" =some 322
 m140:iW P 74 "moveout/house.name" =some 140
 m120:iW P 134 "moveout/house.name" =some 120
 m324:iW P 136 "moveout/house.name" =some 324
 m323:iW P 130 "moveout/house.name" =some 323
 c2:Cf P 2 fn2
 c3:Cf P 3 fn3
 c4:Cf P 4 fn4
 c5:Cf P 5 fn5
 c14:Cf P 14 fn14
 c15:Cf P 15 fn15
 c16:Cf P 16 fn16
 c17:Cf P 17 fn17
 c18:Cf P 18 fn18
 c19:Cf P 19 fn19
 c20:Cf P 20 fn20
 c21:Cf P 21 fn21
 c22:Cf P 22 fn22
 c23:Cf P 23 fn23
 c24:Cf P 24 fn24
 c25:Cf P 25 fn25
 c26:Cf P 26 fn26
 c27:Cf P 27 fn27
 c28:Cf P 28 fn28
 c31:Cf P 31 fn31
 c33:Cf P 33 fn33
 c34:Cf P 34 fn34
 c35:Cf P 35 fn35
 c37:Cf P 37 fn37
 c39:Cf P 39 fn39
 c43:Cf P 43 fn43
 c44:Cf P 44 fn44
 c45:Cf P 45 fn45
 c51:Cf P 51 fn51
 c55:Cf P 55 fn55
 c56:Cf P 56 fn56
 c57:Cf P 57 fn57
 c58:Cf P 58 fn58
 c59:Cf P 59 fn59
 c60:Cf P 60 fn60
 c64:Cf P 64 fn64
 c67:Cf P 67 fn67
 c70:Cf P 70 fn70
 c71:Cf P 71 fn71
 c72:Cf P 72 fn72
 c73:Cf P 73 fn73
 c74:Cf P 74 fn74
 c75:Cf P 75 fn75
 c76:Cf P 76 fn76
 c77:Cf P 77 fn77
 c78:Cf P 78 fn78
 c79:Cf P 79 fn79
 c80:Cf P 80 fn80
 c81:Cf P 81 fn81
 c82:Cf P 82 fn82
 c83:Cf P 83 fn83
 c84:Cf P 84 fn84
 c85:Cf P 85 fn85
 c86:Cf P 86 fn86
 c87:Cf P 87 fn87
 c88:Cf P 88 fn88
 c89:Cf P 89 fn89
 c90:Cf P 90 fn90
 c91:Cf P 91 fn91
 c92:Cf P 92 fn92
 c93:Cf P 93 fn93
 c94:Cf P 94 fn94
 c95:Cf P 95 fn95
 c96:Cf P 96 fn96
 c97:Cf P 97 fn97
 c98:Cf P 98 fn98
 c99:Cf P 99 fn99
 c101:Cf P 101 fn101
 c102:Cf P 102 fn102
 c108:Cf P 108 fn108
 c109:Cf P 109 fn109
 c110:Cf P 110 fn110
 c111:Cf P 111 fn111
 c112:Cf P 112 fn112
 c113:Cf P 113 fn113
 c114:Cf P 114 fn114
 c115:Cf P 115 fn115
 c116:Cf P 116 fn116
 c117:Cf P 117 fn117
 c118:Cf P 118 fn118
 c119:Cf P 119 fn119
 c120:Cf P 120 fn120
 c121:Cf P 121 fn121
 c122:Cf P 122 fn122
 c123:Cf P 123 fn123
 c124:Cf P 124 fn124
 c125:Cf P 125 fn125
 c126:Cf P 126 fn126
 c127:Cf P 127 fn127
 c128:Cf P 128 fn128
 c129:Cf P 129 fn129
 c130:Cf P 130 fn130
 c131:Cf P 131 fn131
 c132:Cf P 132 fn132
 c133:Cf P 133 fn133
 c134:Cf P 134 fn134
 c135:Cf P 135 fn135
 c136:Cf P 136 fn136
 c137:Cf P 137 fn137
 c138:Cf P 138 fn138
 c139:Cf P 139 fn139
 c140:Cf P 140 fn140
 c141:Cf P 141 fn141
 c142:Cf P 142 fn142
 c143:Cf P 143 fn143
 c144:Cf P 144 fn144
 c145:Cf P 145 fn145
 c146:Cf P 146 fn146
 c147:Cf P 147 fn147
 c148:Cf P 148 fn148
 c149:Cf P 149 fn149
 c150:Cf P 150 fn150
 c151:Cf P 151 fn151
 c152:Cf P 152 fn152
 c153:Cf P 153 fn153
 c154:Cf P 154 fn154
 c155:Cf P 155 fn155
 c156:Cf P 156 fn156
 c157:Cf P 157 fn157
 c158:Cf P 158 fn158
 c159:Cf P 159 fn159
 c160:Cf P 160 fn160
 c161:Cf P 161 fn161
 c162:Cf P 162 fn162
 c163:Cf P 163 fn163
 c164:Cf P 164 fn164
 c165:Cf P 165 fn165
 c166:Cf P 166 fn166
 c167:Cf P 167 fn167
 c168:Cf P 168 fn168
 c169:Cf P 169 fn169
 c170:Cf P 170 fn170
 c171:Cf P 171 fn171
 c172:Cf P 172 fn172
 c173:Cf P 173 fn173
 c174:Cf P 174 fn174
 c175:Cf P 175 fn175
 c176:Cf P 176 fn176
 c177:Cf P 177 fn177
 c178:Cf P 178 fn178
 c179:Cf P 179 fn179
 c180:Cf P 180 fn180
 c181:Cf P 181 fn181
 c182:Cf P 182 fn182
 c183:Cf P 183 fn183
 c184:Cf P 184 fn184
 c185:Cf P 185 fn185
 c186:Cf P 186 fn186
 c187:Cf P 187 fn187
 c188:Cf P 188 fn188
 c189:Cf P 189 fn189
 c190:Cf P 190 fn190
 c193:Cf P 193 fn193
 c194:Cf P 194 fn194
 c195:Cf P 195 fn195
 c197:Cf P 197 fn197
 c198:Cf P 198 fn198
 c199:Cf P 199 fn199
 c200:Cf P 200 fn200
 c201:Cf P 201 fn201
 c202:Cf P 202 fn202
 c203:Cf P 203 fn203
 c204:Cf P 204 fn204
 c205:Cf P 205 fn205
 c206:Cf P 206 fn206
 c207:Cf P 207 fn207
 c208:Cf P 208 fn208
 c213:Cf P 213 fn213
 c214:Cf P 214 fn214
 c215:Cf P 215 fn215
 c216:Cf P 216 fn216
 c217:Cf P 217 fn217
 c218:Cf P 218 fn218
 c219:Cf P 219 fn219
 c221:Cf P 221 fn221
 c222:Cf P 222 fn222
 c223:Cf P 223 fn223
 c224:Cf P 224 fn224
 c225:Cf P 225 fn225
 c226:Cf P 226 fn226
 c227:Cf P 227 fn227
 c228:Cf P 228 fn228
 c229:Cf P 229 fn229
 c230:Cf P 230 fn230
 c231:Cf P 231 fn231
 c232:Cf P 232 fn232
 c233:Cf P 233 fn233
 c234:Cf P 234 fn234
 c235:Cf P 235 fn235
 c236:Cf P 236 fn236
 c237:Cf P 237 fn237
 c238:Cf P 238 fn238
 c239:Cf P 239 fn239
 c240:Cf P 240 fn240
 c241:Cf P 241 fn241
 c242:Cf P 242 fn242
 c243:Cf P 243 fn243
 c244:Cf P 244 fn244
 c245:Cf P 245 fn245
 c246:Cf P 246 fn246
 c247:Cf P 247 fn247
 c248:Cf P 248 fn248
 c249:Cf P 249 fn249
 c250:Cf P 250 fn250
 c251:Cf P 251 fn251
 c252:Cf P 252 fn252
 c253:Cf P 253 fn253
 c254:Cf P 254 fn254
 c255:Cf P 255 fn255
 c259:Cf P 259 fn259
 c263:Cf P 263 fn263
 c264:Cf P 264 fn264
 c265:Cf P 265 fn265
 c266:Cf P 266 fn266
 c267:Cf P 267 fn267
 c268:Cf P 268 fn268
 c269:Cf P 269 fn269
 c272:Cf P 272 fn272
 c286:Cf P 286 fn286
 c322:Cf P 322 fn322
 c323:Cf P 323 fn323
 c324:Cf P 324 fn324
end Go.Abs
