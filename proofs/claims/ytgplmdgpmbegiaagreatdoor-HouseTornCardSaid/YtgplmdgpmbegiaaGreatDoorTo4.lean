/- A part of the proof that HouseTorn holds. No condition. -/
import Derived.Test.YtgplmdgpmbegiaaGreatDoorTo3
import Derived.Test.YtgplmdgpmbegiaaGreatDoorProg
import Derived.Test.YtgplmdgpmbegiaaGreatDoorTo0
set_option linter.all false
open Nat (reduceAdd reduceMul reduceLeDiff reduceEqDiff)
namespace Go.Abs
def Ext(h h':ah):Prop:=∃g,h' =h++g
def Ext.refl(h:ah):Ext h h:=⟨[],Si⟩
def Ext.app{h k}(g:ah)(e:Ext h k):Ext h (k++g):=by
 obtain⟨x,rfl⟩:=e;exact⟨x++g,Si⟩
def Ext.trans{a b c}(h:Ext a b)(k:Ext b c):Ext a c:=by
 obtain⟨x,rfl⟩:=h;obtain⟨y,rfl⟩:=k;exact⟨x++y,Si⟩
def Ext.get{h k}(e:Ext h k){b}(hb:b<h.length):k[b]? =h[b]? :=by
 obtain⟨x,rfl⟩:=e;exact aag hb
theorem Ext.some{h k:ah}(e:Ext h k){b:Nat}{x:ak}(hb:h[b]? =some x):k[b]? =some x:=by
 rw[e.get (aad.1 hb).1];exact hb
def Ext.len{h k}(e:Ext h k):h.length<=k.length:=by
 obtain⟨x,rfl⟩:=e;simp
def uJ(P:Program)(q:Bool)(fv:AV)(args:List AV)(h:ah)(K:AV->ah->Prop):Prop:=
 ∃v h',fq P fv args h v h'/\(q=true->Ext h h')/\K v h'
def ja.quiet:ja->Bool
 |.ar=>true
 |.push _=>true
 |_=>false
def ja.Bf{e:ja}{h:ah}(he:e.quiet=true):Ext h (e.app h):=by
 cases e with
 |ar=>exact Ext.refl h
 |push k=>exact⟨[k],rfl⟩
 |set b k=>cases he
 |oz b k k'=>cases he
def WK(P:Program)(q:Bool)(k:pN)(ρ:cZ->AV)(h:ah)(K:AV->ah->Prop):Prop:=
 match k with
 |.call f args=>uJ P q (ρ f) (args.map ρ) h K
 |k=>
  match stepT k ρ (λb=>h[b]?) h.length with
  |some (v,e)=>(q=true->e.quiet=true)/\K v (e.app h)
  |none=>False
def DL(d:Option Nat)(k:pN)(n:Nat)(X:Prop):Prop:=
 match k,d with
 |.pt _ _,some d=>d<n/\X
 |_,_=>X
def rj{d k n}{X:Prop}:DL d k n X↔Ai d k n/\X:=by
 cases k<;>cases d<;>simp[DL,Ai]
def DL.mono{d k n}{X Y:Prop}(h:X->Y)(x:DL d k n X):DL d k n Y:=rj.2 ⟨(rj.1 x).1,h (rj.1 x).2⟩
def WS(P:Program)(o:bO)(ts:TS)(h:ah)(K:AV->ah->Prop):Prop:=
 match o.gd with
 |none=>DL o.dst o.k ts.length (WK P o.q o.k (val ts) h K)
 |some (t,b)=>
  match val ts (.t t)with
  |.bool c=>if c=b then DL o.dst o.k ts.length (WK P o.q o.k (val ts) h K)else K az h
  |_=>K az h
def WO(P:Program):List bO->TS->ah->(TS->ah->Prop)->Prop
 |[],ts,h,Q=>Q ts h
 |o::r,ts,h,Q=>WS P o ts h (λv h1=>WO P r (put ts o.dst v) h1 Q)
def WK.sound{P:Program}{q:Bool}{k:pN}{ρ:cZ->AV}{h:ah}{K:AV->ah->Prop}(H:WK P q k ρ h K):∃v h',qo P k ρ h v h'/\(q=true->Ext h h')/\K v h':=by
 by_cases hc:∃f args,k=.call f args
 ·obtain⟨f,args,rfl⟩:=hc;exact H
 ·have H':(match stepT k ρ (λb=>h[b]?) h.length with
   |some (v,e)=>(q=true->e.quiet=true)/\K v (e.app h)
   |none=>False):=by
   exact K8
  split at H'
  case h_2=>exact H'.elim
  rename_i v e he;refine⟨v,e.app h,?_,λhq=>ja.Bf (H'.1 hq),H'.2⟩;have:=od he;cases k<;>first|exact this|exact absurd ⟨_,_,rfl⟩ hc
theorem WS.sound{P o ts h K}(H:WS P o ts h K):∃v h',dI P o ts h (put ts o.dst v) h'/\(o.q=true->∃g,h' =h++g)/\K v h':=by
 have run:wanted o.gd ts->DL o.dst o.k ts.length (WK P o.q o.k (val ts) h K)->∃v h',dI P o ts h (put ts o.dst v) h'/\(o.q=true->∃g,h' =h++g)/\K v h':=λhw hk=>by
  obtain⟨hb,hk⟩:=rj.1 hk;obtain⟨v,h',h1,h2,h3⟩:=hk.sound;exact⟨v,h',.run hw hb h1,h2,h3⟩
 have skip:¬wanted o.gd ts->K az h->∃v h',dI P o ts h (put ts o.dst v) h'/\(o.q=true->∃g,h' =h++g)/\K v h':=λhw hk=>
  ⟨az,h,.skip hw,λ_=>Ext.refl h,hk⟩
 unfold WS at H;split at H
 ·rename_i hg;exact run (by rw[hg];trivial) H
 ·rename_i t b hg;split at H
  ·rename_i c hv;have hx:ts[t]? =some (.bool c):=by
    simp only[val,List.getD]at hv;cases hy:ts[t]? with
    |none=>rw[hy]at hv;cases hv
    |some z=>rw[hy]at hv;simp only[acz]at hv;rw[hv]
   split at H
   ·rename_i hcb;subst hcb;exact run (by rw[hg];exact hx) H
   ·rename_i hcb;refine skip (λhw=>hcb ?_) H;rw[hg]at hw;simp only[wanted,hx,aaL,AV.bool.injEq]at hw;exact hw
  ·rename_i hv;refine skip (λhw=>?_) H;rw[hg]at hw;simp only[wanted]at hw;exact hv b (by simp[val,List.getD,hw])
theorem WO.sound{P}:∀{l}{ts}{h}{Q},WO P l ts h Q->∃ts' h',zo P l ts h ts' h'/\Q ts' h'
 |[],ts,h,Q,H=>⟨ts,h,⟨rfl,rfl⟩,H⟩
 |o::r,ts,h,Q,H=>by
  obtain⟨v,h1,h2,h3,h4⟩:=WS.sound H;obtain⟨ts',h',h5,h6⟩:=WO.sound (l:=r) h4;exact⟨ts',h',⟨_,h1,h2,h3,h5⟩,h6⟩
def WM(P:Program)(S:ah->Prop):List bO->TS->ah->(TS->ah->Prop)->Prop
 |[],ts,h,K=>S h/\K ts h
 |o::r,ts,h,K=>S h/\((k9 (o::r)=true/\WO P (o::r) ts h K)\/(k9 (o::r)=false/\
   ((nj o=true/\∃v,(∀g,S g->dI P o ts g (put ts o.dst v) g)/\WM P S r (put ts o.dst v) h K)\/(nj o=false/\WS P o ts h (λv h1=>WM P S r (put ts o.dst v) h1 K)))))
theorem WM.sound{P S}:∀{l}{ts}{h}{K},WM P S l ts h K->∃T H,Row P l T H/\T 0=ts/\H 0=h/\(∀(i:Nat) (io:bO),l[i]? =some io->nj io=true->∀g,S g->dI P io (T i) g (T (i+1)) g)/\(∀θ,θ<=dP l->S (H θ))/\K (T l.length) (H l.length)
 |[],ts,h,K,H=>⟨λ_=>ts,λ_=>h,⟨λi o ho=>by simp at ho⟩,rfl,rfl,λi io ho=>by simp at ho,λ_ _=>H.1,H.2⟩
 |o::r,ts,h,K,H=>by
  obtain⟨h0,H⟩:=H;rcases H with⟨hall,H⟩|⟨hall,H⟩
  ·obtain⟨ts',h',h1,h2⟩:=WO.sound H;obtain⟨T,G,rfl,rfl,rfl,rfl,r5⟩:=h1.row;refine⟨T,G,r5,rfl,rfl,λi io hio hld=>?_,λθ hθ=>?_,h2⟩
   ·have:=aaO.1 (Bool.and_eq_true_iff.1 hall).1 io (aa8 hio);unfold nj at hld;unfold DC at this;cases hk:io.k<;>rw[hk]at hld this<;>simp[fG]at hld this
   ·rw[dP,aas hall]at hθ;have:θ=0:=Om
    subst this;exact h0
  have key:∃v h1,dI P o ts h (put ts o.dst v) h1/\(o.q=true->∃g,h1=h++g)/\(nj o=true->∀g,S g->dI P o ts g (put ts o.dst v) g)/\WM P S r (put ts o.dst v) h1 K:=by
   rcases H with⟨hl,v,h1,h2⟩|⟨hl,H⟩
   ·exact⟨v,h,h1 h h0,λ_=>⟨[],Si⟩,λ_=>h1,h2⟩
   ·obtain⟨v,h1,h2,h3,h4⟩:=WS.sound H;refine⟨v,h1,h2,h3,λz=>?_,h4⟩;rw[hl]at z;cases z
  obtain⟨v,h1,k1,k2,k3,k4⟩:=key;obtain⟨T,G,r1,r2,r3,r4,r5,r6⟩:=WM.sound (l:=r) k4
  let T':Nat->TS:=λn=>match n with| 0=>ts|n+1=>T n
  let G':Nat->ah:=λn=>match n with| 0=>h|n+1=>G n
  refine⟨T',G',⟨λi o' ho=>?_⟩,rfl,rfl,λi io hio hld g hg=>?_,λθ hθ=>?_,r6⟩
  ·cases i with
   |zero=>
    simp only[abp,aaL]at ho;subst ho;show dI P o ts h (T 0) (G 0)/\(o.q=true->∃g,G 0=h++g);rw[r2,r3];exact⟨k1,k2⟩
   |succ i=>exact r1.step i o' (by simpa using ho)
  ·cases i with
   |zero=>
    simp only[abp,aaL]at hio;subst hio;show dI P o ts g (T 0) g;rw[r2];exact k3 hld g hg
   |succ i=>exact r4 i io (by simpa using hio) hld g hg
  ·cases θ with
   |zero=>exact h0
   |succ θ=>
    rw[dP,aao (by rw[hall];decide)]at hθ;exact r5 θ Om
def W(P:Program)(ro:Option Nat->Prop):ai->TS->ah->(Ex->TS->ah->Prop)->Prop
 |.skip,ts,h,Q=>Q .normal ts h
 |.ops l,ts,h,Q=>WO P l ts h (Q .normal)
 |.tB l,ts,h,Q=>Cb h l ts [] λts' cs=>fi cs/\Q .normal ts' (ed h cs)
 |.mZ l,ts,h,Q=>∃S,WM P S l ts h (Q .normal)
 |.seq a b,ts,h,Q=>W P ro a ts h λe U1 h1=>
  match e with
  |.normal=>W P ro b U1 h1 Q
  |.exit id=>Q (.exit id) U1 h1
  |.ret=>Q .ret U1 h1
 |.cond c a b,ts,h,Q=>
  match val ts c with
  |.bool t=>(t=true->W P ro a ts h Q)/\(t=false->W P ro b ts h Q)
  |_=>False
 |.block id a,ts,h,Q=>W P ro a ts h λe=>Q (e.inBlock id)
 |.loop a,ts,h,Q=>∃e ts' h',(∀r,ro r->uH P r a ts h e ts' h')/\Q e ts' h'
 |.exit id,ts,h,Q=>Q (.exit id) ts h
 |.ret,ts,h,Q=>Q .ret ts h
 |.fX g ps asg body,ts,h,Q=>∃e ts' h',(∀r,ro r->Ev P r (.fX g ps asg body) ts h e ts' h')/\Q e ts' h'
 |.bad,_,_,_=>False
def bP:Option Nat->Prop:=λr=>r=none
def DK:Option Nat->Prop:=λr=>∃l,r=some l
theorem W.sound{P}(hmix:P.follows .mixedOrders=true){ro}:∀{c}{ts}{h}{Q},W P ro c ts h Q->∃e ts' h',(∀r,ro r->Ev P r c ts h e ts' h')/\Q e ts' h'
 |.skip,ts,h,Q,H=>⟨.normal,ts,h,λ_ _=>.skip,H⟩
 |.ops l,ts,h,Q,H=>by
  obtain⟨ts',h',h1,h2⟩:=WO.sound (l:=l) H;exact⟨.normal,ts',h',λ_ _=>.ops hmix h1,h2⟩
 |.tB l,ts,h,Q,H=>by
  obtain⟨Wy,cs3,ts',h1,⟨h2,h3⟩,h4,h5⟩:=Cb.sound (l:=l) H;rw[abF]at h2 h3;exact⟨.normal,ts',ed h Wy,λ_ _=>.tB hmix h1 (by simpa using h4 [] [] (by simpa using h2)),by rw[h5];exact h3⟩
 |.mZ l,ts,h,Q,H=>by
  obtain⟨S,H⟩:=H;obtain⟨T,G,r1,rfl,rfl,r4,r5,r6⟩:=WM.sound (l:=l) H;exact⟨.normal,_,_,λ_ _=>.mZ hmix r1 λi io hio hld θ hθ=>r4 i io hio hld _ (r5 θ hθ),r6⟩
 |.seq a b,ts,h,Q,H=>by
  obtain⟨e,U1,h1,h2,h3⟩:=W.sound hmix (c:=a) H;cases e with
  |normal=>
   obtain⟨e,ts',h',h4,h5⟩:=W.sound hmix (c:=b) h3;exact⟨e,ts',h',λr hr=>.seq (h2 r hr) (h4 r hr),h5⟩
  |exit id=>exact⟨_,U1,h1,λr hr=>.wA (h2 r hr) Si,h3⟩
  |ret=>exact⟨_,U1,h1,λr hr=>.wA (h2 r hr) Si,h3⟩
 |.cond c a b,ts,h,Q,H=>by
  unfold W at H;split at H
  case h_2=>exact H.elim
  rename_i t hv;cases t with
  |true=>
   obtain⟨e,ts',h',h4,h5⟩:=W.sound hmix (c:=a) (H.1 rfl);exact⟨e,ts',h',λr hr=>.cond hv (h4 r hr),h5⟩
  |false=>
   obtain⟨e,ts',h',h4,h5⟩:=W.sound hmix (c:=b) (H.2 rfl);exact⟨e,ts',h',λr hr=>.cond hv (h4 r hr),h5⟩
 |.block id a,ts,h,Q,H=>by
  obtain⟨e,ts',h',h4,h5⟩:=W.sound hmix (c:=a) H;exact⟨_,ts',h',λr hr=>.block (h4 r hr),h5⟩
 |.loop a,ts,h,Q,H=>by
  obtain⟨e,ts',h',h4,h5⟩:=H;exact⟨e,ts',h',λr hr=>.loop (h4 r hr),h5⟩
 |.exit id,ts,h,Q,H=>⟨_,ts,h,λ_ _=>.exit,H⟩
 |.ret,ts,h,Q,H=>⟨_,ts,h,λ_ _=>.ret,H⟩
 |.fX g ps asg body,ts,h,Q,H=>H
 |.bad,ts,h,Q,H=>H.elim
def uJ.mono{P q fv args h K K'}(H:uJ P q fv args h K)(hk:∀v h',K v h'->K' v h'):uJ P q fv args h K':=by
 obtain⟨v,h',h1,h2,h3⟩:=H;exact⟨v,h',h1,h2,hk v h' h3⟩
theorem WK.mono{P q k ρ h K K'}(H:WK P q k ρ h K)(hk:∀v h',K v h'->K' v h'):WK P q k ρ h K':=by
 by_cases hc:∃f args,k=.call f args
 ·obtain⟨f,args,rfl⟩:=hc;exact uJ.mono H hk
 ·have H':(match stepT k ρ (λb=>h[b]?) h.length with
   |some (v,e)=>(q=true->e.quiet=true)/\K v (e.app h)
   |none=>False):=by
   exact K8
  have G':(match stepT k ρ (λb=>h[b]?) h.length with
   |some (v,e)=>(q=true->e.quiet=true)/\K' v (e.app h)
   |none=>False):=by
   split at H'
   case h_2=>exact H'.elim
   exact⟨H'.1,hk _ _ H'.2⟩
  cases k<;>first|exact G'|exact absurd ⟨_,_,rfl⟩ hc
theorem WS.mono{P o ts h K K'}(H:WS P o ts h K)(hk:∀v h',K v h'->K' v h'):WS P o ts h K':=by
 unfold WS at H ⊢;cases hg:o.gd with
 |none=>rw[hg]at H;exact DL.mono (λz=>WK.mono z hk) H
 |some p=>
  obtain⟨t,b⟩:=p;rw[hg]at H;simp only at H ⊢;cases hv:val ts (.t t)with
  |bool c=>
   rw[hv]at H;simp only at H ⊢;by_cases hcb:c=b
   ·rw[aas hcb]at H ⊢;exact DL.mono (λz=>WK.mono z hk) H
   ·rw[aao hcb]at H ⊢;exact hk _ _ H
  |_=>rw[hv]at H;exact hk _ _ H
theorem WO.mono{P}:∀{l}{ts}{h}{Q Q'},WO P l ts h Q->(∀ts' h',Q ts' h'->Q' ts' h')->WO P l ts h Q'
 |[],ts,h,Q,Q',H,hq=>hq _ _ H
 |o::r,ts,h,Q,Q',H,hq=>WS.mono (o:=o) H λv h1 h2=>WO.mono (l:=r) h2 hq
theorem WM.mono{P S}:∀{l}{ts}{h}{K K'},WM P S l ts h K->(∀ts' h',K ts' h'->K' ts' h')->WM P S l ts h K'
 |[],ts,h,K,K',H,hk=>⟨H.1,hk _ _ H.2⟩
 |o::r,ts,h,K,K',H,hk=>by
  obtain⟨h0,H⟩:=H;refine⟨h0,?_⟩;rcases H with⟨ha,H⟩|⟨ha,H⟩
  ·exact .inl ⟨ha,WO.mono (l:=o::r) H hk⟩
  refine .inr ⟨ha,?_⟩;rcases H with⟨hl,v,h1,h2⟩|⟨hl,H⟩
  ·exact .inl ⟨hl,v,h1,WM.mono (l:=r) h2 hk⟩
  ·exact .inr ⟨hl,WS.mono (o:=o) H λv h1 h2=>WM.mono (l:=r) h2 hk⟩
theorem W.mono{P ro}:∀{c}{ts}{h}{Q Q'},W P ro c ts h Q->(∀e ts' h',Q e ts' h'->Q' e ts' h')->W P ro c ts h Q'
 |.skip,ts,h,Q,Q',H,hq=>hq _ _ _ H
 |.ops l,ts,h,Q,Q',H,hq=>WO.mono (l:=l) H (hq .normal)
 |.tB l,ts,h,Q,Q',H,hq=>Cb.mono (l:=l) H λts' cs h1=>⟨h1.1,hq _ _ _ h1.2⟩
 |.mZ l,ts,h,Q,Q',H,hq=>by obtain⟨S,H⟩:=H;exact⟨S,WM.mono (l:=l) H (hq .normal)⟩
 |.seq a b,ts,h,Q,Q',H,hq=>W.mono (c:=a) H λe U1 h1 h2=>by
  cases e with
  |normal=>exact W.mono (c:=b) h2 hq
  |exit id=>exact hq _ _ _ h2
  |ret=>exact hq _ _ _ h2
 |.cond c a b,ts,h,Q,Q',H,hq=>by
  unfold W at H ⊢;split at H
  case h_2=>exact H.elim
  exact⟨λh=>W.mono (c:=a) (H.1 h) hq,λh=>W.mono (c:=b) (H.2 h) hq⟩
 |.block id a,ts,h,Q,Q',H,hq=>W.mono (c:=a) H λe U1 h1 h2=>hq _ _ _ h2
 |.loop a,ts,h,Q,Q',H,hq=>by obtain⟨e,ts',h',h4,h5⟩:=H;exact⟨e,ts',h',h4,hq _ _ _ h5⟩
 |.exit id,ts,h,Q,Q',H,hq=>hq _ _ _ H
 |.ret,ts,h,Q,Q',H,hq=>hq _ _ _ H
 |.fX g ps asg body,ts,h,Q,Q',H,hq=>by obtain⟨e,ts',h',h4,h5⟩:=H;exact⟨e,ts',h',h4,hq _ _ _ h5⟩
 |.bad,ts,h,Q,Q',H,hq=>H.elim
inductive Kt where
 |CM (b:ai)
 |te (id:Nat)
def kq(P:Program)(ro:Option Nat->Prop):List Kt->(Ex->TS->ah->Prop)->Ex->TS->ah->Prop
 |[],Q,e,ts,h=>Q e ts h
 |.CM b::ks,Q,e,ts,h=>
  match e with
  |.normal=>W P ro b ts h (kq P ro ks Q)
  |.exit id=>kq P ro ks Q (.exit id) ts h
  |.ret=>kq P ro ks Q .ret ts h
 |.te id::ks,Q,e,ts,h=>kq P ro ks Q (e.inBlock id) ts h
section
variable (P:Program) (ro:Option Nat->Prop)
def WC(c:ai)(ks:List Kt)(ts:TS)(h:ah)(Q:Ex->TS->ah->Prop):Prop:=W P ro c ts h (kq P ro ks Q)
def WE(e:Ex)(ks:List Kt)(ts:TS)(h:ah)(Q:Ex->TS->ah->Prop):Prop:=kq P ro ks Q e ts h
def WP(l:List bO)(ks:List Kt)(ts:TS)(h:ah)(Q:Ex->TS->ah->Prop):Prop:=WO P l ts h (kq P ro ks Q .normal)
def WG(g:AV)(b:Bool)(q:Bool)(k:pN)(dst:Option Nat)(l:List bO)(ks:List Kt)(ts:TS)(h:ah)(Q:Ex->TS->ah->Prop):Prop:=
 match g with
 |.bool c=>if c=b then DL dst k ts.length (WK P q k (val ts) h (λv h1=>WP P ro l ks (put ts dst v) h1 Q))else WP P ro l ks (put ts dst az) h Q
 |_=>WP P ro l ks (put ts dst az) h Q
def WR(r:Option (AV×ja))(q:Bool)(dst:Option Nat)(l:List bO)(ks:List Kt)(ts:TS)(h:ah)(Q:Ex->TS->ah->Prop):Prop:=
 match r with
 |some (v,e)=>(q=true->e.quiet=true)/\WP P ro l ks (put ts dst v) (e.app h) Q
 |none=>False
def WF(q:Bool)(fv:AV)(args:List AV)(dst:Option Nat)(l:List bO)(ks:List Kt)(ts:TS)(h:ah)(Q:Ex->TS->ah->Prop):Prop:=
 uJ P q fv args h (λv h1=>WP P ro l ks (put ts dst v) h1 Q)
def WB(v:AV)(a b:ai)(ks:List Kt)(ts:TS)(h:ah)(Q:Ex->TS->ah->Prop):Prop:=
 match v with
 |.bool t=>(t=true->WC P ro a ks ts h Q)/\(t=false->WC P ro b ks ts h Q)
 |_=>False
def WL(a:ai)(ks:List Kt)(ts:TS)(h:ah)(Q:Ex->TS->ah->Prop):Prop:=WC P ro (.loop a) ks ts h Q
def eZ(g:AV)(ps:List Nat)(asg body:ai)(ks:List Kt)(ts:TS)(h:ah)(Q:Ex->TS->ah->Prop):Prop:=
 ∃e ts' h',(∀r,ro r->∀g',val ts g' =g->Ev P r (.fX g' ps asg body) ts h e ts' h')/\WE P ro e ks ts' h' Q
end
def LQ(I:Nat->TS->ah->Prop)(n:Nat)(R:Ex->TS->ah->Prop):Ex->TS->ah->Prop
 |.normal,ts,h=>∃m,m<n/\I m ts h
 |.exit id,ts,h=>R (.exit id) ts h
 |.ret,ts,h=>R .ret ts h
def FQ(rs:List (Nat×Option (Option Nat)))(R:AV->ah->Prop):Ex->TS->ah->Prop:=λe ts h=>e.leaves=true/\∃v,cU rs ts h=some v/\R v h
def Hv(r:Option AV)(h:ah)(R:AV->ah->Prop):Prop:=
 match r with
 |some v=>R v h
 |none=>False
section
variable {P:Program}{ro:Option Nat->Prop}{ks:List Kt}{ts:TS}{h:ah}{Q:Ex->TS->ah->Prop}
def Hq:WC P ro .skip ks ts h Q=WE P ro .normal ks ts h Q:=rfl
def tq{l}:WC P ro (.ops l) ks ts h Q=WP P ro l ks ts h Q:=rfl
def tn{a b}:WC P ro (.seq a b) ks ts h Q=WC P ro a (.CM b::ks) ts h Q:=by
 unfold WC;simp only[W];congr 1
def Hu{c a b}:WC P ro (.cond c a b) ks ts h Q=WB P ro (val ts c) a b ks ts h Q:=rfl
def EC{id a}:WC P ro (.block id a) ks ts h Q=WC P ro a (.te id::ks) ts h Q:=rfl
def Hr{a}:WC P ro (.loop a) ks ts h Q=WL P ro a ks ts h Q:=rfl
def Ht{id}:WC P ro (.exit id) ks ts h Q=WE P ro (.exit id) ks ts h Q:=rfl
def KH:WC P ro .ret ks ts h Q=WE P ro .ret ks ts h Q:=rfl
def vP{b}:WE P ro .normal (.CM b::ks) ts h Q=WC P ro b ks ts h Q:=rfl
def Ho{b id}:WE P ro (.exit id) (.CM b::ks) ts h Q=WE P ro (.exit id) ks ts h Q:=rfl
def Hp{b}:WE P ro .ret (.CM b::ks) ts h Q=WE P ro .ret ks ts h Q:=rfl
def BZ{id}:WE P ro .normal (.te id::ks) ts h Q=WE P ro .normal ks ts h Q:=rfl
def BX{id YT}:WE P ro (.exit YT) (.te id::ks) ts h Q=if YT=id then WE P ro .normal ks ts h Q else WE P ro (.exit YT) ks ts h Q:=by
 unfold WE;simp only[kq,Ex.inBlock];split<;>rfl
def BY{id}:WE P ro .ret (.te id::ks) ts h Q=WE P ro .ret ks ts h Q:=rfl
def KG{e}:WE P ro e [] ts h Q=Q e ts h:=rfl
def Ez:WP P ro [] ks ts h Q=WE P ro .normal ks ts h Q:=rfl
def jm{d k q l}(hk:∀f args,k≠.call f args)(hb:∀n x,k≠.pt n x):WP P ro ({dst:=d,k:=k,gd:=none,q:=q} ::l) ks ts h Q=WR P ro (stepT k (val ts) (λb=>h[b]?) h.length) q d l ks ts h Q:=by
 cases k<;>first|exact absurd rfl (hk _ _)|exact absurd rfl (hb _ _)|rfl
def Hi{d f args q l}:WP P ro ({dst:=d,k:=.call f args,gd:=none,q:=q} ::l) ks ts h Q=WF P ro q (val ts f) (args.map (val ts)) d l ks ts h Q:=rfl
def Ox{d k t b q l}:WP P ro ({dst:=d,k:=k,gd:=some (t,b),q:=q} ::l) ks ts h Q=WG P ro (val ts (.t t)) b q k d l ks ts h Q:=rfl
def AG{d k b q l}(c:Bool)(hc:c≠b):WG P ro (.bool c) b q k d l ks ts h Q=WP P ro l ks (put ts d az) h Q:=by
 simp only[WG,aao hc]
def zm{d k b q l}:WG P ro (.bool b) b q k d l ks ts h Q=WP P ro ({dst:=d,k:=k,gd:=none,q:=q} ::l) ks ts h Q:=by
 simp only[WG,aas];rfl
def jz{v q d l}:WR P ro (some (v,.ar)) q d l ks ts h Q=WP P ro l ks (put ts d v) h Q:=by
 simp only[WR,ja.quiet,ja.app,implies_true,ac3]
def mX{v k q d l}:WR P ro (some (v,.push k)) q d l ks ts h Q=WP P ro l ks (put ts d v) (h++[k]) Q:=by
 simp only[WR,ja.quiet,ja.app,implies_true,ac3]
def ti{v b k d l}:WR P ro (some (v,.set b k)) false d l ks ts h Q=WP P ro l ks (put ts d v) (h.set b k) Q:=by
 exact z183
def nY{v b k k' d l}:WR P ro (some (v,.oz b k k')) false d l ks ts h Q=WP P ro l ks (put ts d v) (h.set b k++[k']) Q:=by
 exact z183
def AH{a b}:WB P ro (.bool true) a b ks ts h Q=WC P ro a ks ts h Q:=by simp[WB]
def yh{a b}:WB P ro (.bool false) a b ks ts h Q=WC P ro b ks ts h Q:=by simp[WB]
def RX{I n R}:LQ I n R .normal ts h=∃m,m<n/\I m ts h:=rfl
def RU{I n R id}:LQ I n R (.exit id) ts h=R (.exit id) ts h:=rfl
def RW{I n R}:LQ I n R .ret ts h=R .ret ts h:=rfl
def R1{rs R}:FQ rs R .normal ts h=Hv (cU rs ts h) h R:=by
 exact Lo
def R0{rs R}:FQ rs R .ret ts h=Hv (cU rs ts h) h R:=by
 exact Lo
def Hw{v R}:Hv (some v) h R=R v h:=rfl
def WL.inv(hmix:P.follows .mixedOrders=true){a}(I:Nat->TS->ah->Prop)(n:Nat)(h0:I n ts h)
  (step:∀(n:Nat) (ts:TS) (h:ah),I n ts h->WC P ro a [] ts h (LQ I n (λe ts h=>WE P ro e ks ts h Q))):WL P ro a ks ts h Q:=by
 have key:∀(k n:Nat) (ts:TS) (h:ah),n<=k->I n ts h->∃e ts' h',(∀r,ro r->uH P r a ts h e ts' h')/\kq P ro ks Q e ts' h':=by
  intro k
  induction k with
  |zero=>
   intro n ts h hn hi;obtain⟨e,ts',h',h1,h2⟩:=W.sound hmix (step n ts h hi);cases e with
   |normal=>obtain⟨m,hm,_⟩:=h2;omega
   |exit id=>exact⟨_,ts',h',λr hr=>.out (h1 r hr) Si,h2⟩
   |ret=>exact⟨_,ts',h',λr hr=>.out (h1 r hr) Si,h2⟩
  |succ k ih=>
   intro n ts h hn hi;obtain⟨e,ts',h',h1,h2⟩:=W.sound hmix (step n ts h hi);cases e with
   |normal=>
    obtain⟨m,hm,hi'⟩:=h2;obtain⟨e2,Vb,h3,h4,h5⟩:=ih m ts' h' Om hi';exact⟨e2,Vb,h3,λr hr=>.more (h1 r hr) (h4 r hr),h5⟩
   |exit id=>exact⟨_,ts',h',λr hr=>.out (h1 r hr) Si,h2⟩
   |ret=>exact⟨_,ts',h',λr hr=>.out (h1 r hr) Si,h2⟩
 exact key n n ts h (aar _) h0
def ay(P:Program)(f:FuncId)(args:List AV)(h:ah)(R:AV->ah->Prop):Prop:=∃v g,jQ P f args h v (h++g)/\R v (h++g)
def bH(P:Program)(fv:AV)(args:List AV)(h:ah)(R:AV->ah->Prop):Prop:=∃v g,fq P fv args h v (h++g)/\R v (h++g)
def dy(P:Program)(f:FuncId)(args:List AV)(h:ah)(R:AV->ah->Prop):Prop:=∃v h',jQ P f args h v h'/\R v h'
def dy.of(hmix:P.follows .mixedOrders=true){f A}(hA:bU P f=some A){args R}
  (H:WC P bP A.body [] (aR A.nt args) h (FQ A.rs R)):dy P f args h R:=by
 obtain⟨e,ts',h',h1,h2,v,h3,h4⟩:=W.sound hmix H;exact⟨v,h',.MV hA (h1 none rfl) h2 h3,h4⟩
theorem ay.of(hmix:P.follows .mixedOrders=true){f A}(hA:bU P f=some A){args R}
  (H:WC P bP A.body [] (aR A.nt args) h (FQ A.rs (λv h'=>Ext h h'/\R v h'))):ay P f args h R:=by
 obtain⟨v,h',h1,⟨g,rfl⟩,h3⟩:=dy.of hmix hA H;exact⟨v,g,h1,h3⟩
def ay.mono{f args R R'}(H:ay P f args h R)(hr:∀v g,R v (h++g)->R' v (h++g)):ay P f args h R':=by
 obtain⟨v,g,h1,h2⟩:=H;exact⟨v,g,h1,hr v g h2⟩
def bH.of{f A}(hA:bU P f=some A){a c args R}(H:ay P f (a++args++c) h R):bH P (.func (.func f) a c) args h R:=by
 obtain⟨v,g,h1,h2⟩:=H;exact⟨v,g,.zX hA h1,h2⟩
def bH.Bn{u:TypeId}{name f A}(hm:jj P u name=some f)(hA:bU P f=some A){a args R}(H:ay P f (a::args) h R):bH P (.func (.method name) [] []) (.vU u a::args) h R:=by
 obtain⟨v,g,h1,h2⟩:=H;exact⟨v,g,.FG hm hA h1,h2⟩
def WF.val{q fv args d l R}(H:bH P fv args h R)(K:∀v g,R v (h++g)->WP P ro l ks (put ts d v) (h++g) Q):WF P ro q fv args d l ks ts h Q:=by
 obtain⟨v,g,h1,h2⟩:=H;exact⟨v,h++g,h1,λ_=>⟨g,rfl⟩,K v g h2⟩
def WF.res{q f A}(hA:bU P f=some A){a c args d l R}(H:ay P f (a++args++c) h R)(K:∀v g,R v (h++g)->WP P ro l ks (put ts d v) (h++g) Q):WF P ro q (.func (.func f) a c) args d l ks ts h Q:=
 WF.val (bH.of hA H) K
def WF.gen{f A}(hA:bU P f=some A){a c args d l R}(H:dy P f (a++args++c) h R)(K:∀v h',R v h'->WP P ro l ks (put ts d v) h' Q):WF P ro false (.func (.func f) a c) args d l ks ts h Q:=by
 obtain⟨v,h',h1,h2⟩:=H;exact⟨v,h',.zX hA h1,(λhq=>absurd hq Si),K v h' h2⟩
end
end Go.Abs
namespace Go.Abs
inductive aI (h:ah):AV->Nat->List (List AV)->Prop
 |nil {es:Nat}:aI h .af es []
 |mk {b o es:Nat}{cs:List (List AV)}{c:List AV}{mu tl:Bool}(hb:h[b]? =some (.cells c mu tl)) (hf:(c.drop o).take (cs.length*es)=cs.flatten) (ho:o+cs.length*es<=c.length)
   (he:∀x∈cs,x.length=es):aI h (.slice b o cs.length es) es cs
inductive Fr (N:Nat) (h:ah):AV->Nat->List (List AV)->Prop
 |nil {es:Nat}:Fr N h .af es []
 |mk {b es:Nat}{cs:List (List AV)}{tl:Bool}(hN:N<=b) (hb:h[b]? =some (.cells cs.flatten true tl)) (he:∀x∈cs,x.length=es):Fr N h (.slice b 0 cs.length es) es cs
def AV.sb:AV->Nat
 |.slice b _ _ _=>b
 |_=>0
def AV.so:AV->Nat
 |.slice _ o _ _=>o
 |_=>0
theorem eS{es:Nat}:∀{cs:List (List AV)},(∀x∈cs,x.length=es)->cs.flatten.length=cs.length*es
 |[],_=>by simp
 |x::xs,he=>by
  have h1:=he x Si;have h2:=eS (cs:=xs) (λy hy=>he y (aaP _ hy));simp only[abr,aac,aah,h1,h2,aby];omega
theorem mw{es:Nat}:∀{cs:List (List AV)},(∀x∈cs,x.length=es)->∀{i:Nat}(hi:i<cs.length),(cs.flatten.drop (i*es)).take es=cs[i]
 |[],_,i,hi=>by simp at hi
 |x::xs,he,0,_=>by
  have h1:=he x Si;simp[<-h1]
 |x::xs,he,i+1,hi=>by
  have h1:=he x Si;have h2:=mw (cs:=xs) (λy hy=>he y (aaP _ hy)) (i:=i) (by simpa using hi);simp only[abr,List.getElem_cons_succ,<-h2];congr 1;rw[aby,Nat.add_comm,<-h1,List.drop_append];simp
def Fr.aT{N:Nat}{h:ah}{s:AV}{es:Nat}{cs:List (List AV)}(hs:Fr N h s es cs):aI h s es cs:=by
 cases hs with
 |nil=>exact .nil
 |mk hN hb he=>
  have hl:=eS he;exact .mk hb (by rw[abH,<-hl,aaS]) Om he
section
variable {h k:ah}{s:AV}{es:Nat}{cs:List (List AV)}
def aI.ar(hs:aI h s es cs)(hk:∀b,b<h.length->(∀b0 o n e,s=.slice b0 o n e->b=b0)->k[b]? =h[b]?):aI k s es cs:=by
 cases hs with
 |nil=>exact .nil
 |mk hb hf ho he=>
  refine .mk ((hk _ (aad.1 hb).1 λb0 o n e hx=>?_).trans hb) hf ho he;cases hx;rfl
def aI.ext(hs:aI h s es cs)(e:Ext h k):aI k s es cs:=hs.ar λ_ hb _=>e.get hb
def aI.app(hs:aI h s es cs)(g:ah):aI (h++g) s es cs:=hs.ext ⟨g,rfl⟩
def Fr.ar{N}(hs:Fr N h s es cs)(hk:∀b,b<h.length->(∀b0 o n e,s=.slice b0 o n e->b=b0)->k[b]? =h[b]?):Fr N k s es cs:=by
 cases hs with
 |nil=>exact .nil
 |mk hN hb he=>
  refine .mk hN ((hk _ (aad.1 hb).1 λb0 o n e hx=>?_).trans hb) he;cases hx;rfl
def Fr.ext{N}(hs:Fr N h s es cs)(e:Ext h k):Fr N k s es cs:=hs.ar λ_ hb _=>e.get hb
def Fr.app{N}(hs:Fr N h s es cs)(g:ah):Fr N (h++g) s es cs:=hs.ext ⟨g,rfl⟩
def Fr.low{N M}(hs:Fr N h s es cs)(hM:M<=N):Fr M h s es cs:=by
 cases hs with
 |nil=>exact .nil
 |mk hN hb he=>exact .mk Om hb he
def aI.rows(hs:aI h s es cs):∀x∈cs,x.length=es:=by
 cases hs with
 |nil=>simp
 |mk hb hf ho he=>exact he
theorem aI.kg(hs:aI h s es cs)(G:Nat->Option ak):kg .sl G s=some cs.length:=by
 cases hs<;>rfl
theorem aI.one(hs:aI h s es cs):s.one=true:=by
 cases hs<;>rfl
theorem aI.fp(hs:aI h s es cs):fp es (λb=>h[b]?) s=some (cs.flatten,cs.length):=by
 cases hs with
 |nil=>rfl
 |mk hb hf ho he=>simp only[Go.Abs.fp,aaB,hb];rw[aas ho,hf]
def aZ(es:Nat)(x i:AV):Option (AV×ja):=
 match x,i with
 |.slice b o n es',.int _ i=>if es' =es/\0<=i/\i<n then some (.ptr b (o+i.toNat*es),.ar)else none
 |_,_=>none
def ao(n:Option Nat)(a:AV)(G:Nat->Option ak):Option (AV×ja):=
 match a with
 |.ptr b o=>
  match G b with
  |some (.cells c _ _)=>
   match n with
   |none=>
    match c[o]? with
    |some x=>some (x,.ar)
    |none=>none
   |some n=>if o+n<=c.length then some (.agg ((c.drop o).take n),.ar)else none
  |_=>none
 |_=>none
def zH(es:Nat)(x:AV)(lo hi:Option AV):Option (AV×ja):=
 match x with
 |.slice b o n es'=>
  if es' =es then
   match jv lo hi n with
   |some (l,h')=>some (.slice b (o+l*es) (h'-l) es,.ar)
   |none=>none
  else none
 |.af=>
  match jv lo hi 0 with
  |some _=>some (.af,.ar)
  |none=>none
 |_=>none
def aI.bw(hs:aI h s es cs){i:Int}{k:IntKind}(h0:0<=i)(h1:i<cs.length):aZ es s (.int k i)=some (.ptr s.sb (s.so+i.toNat*es),.ar):=by
 cases hs with
 |nil=>simp at h1;omega
 |mk hb hf ho he=>show(if es=es/\0<=i/\i<cs.length then _ else none)=_;rw[aas ⟨rfl,h0,h1⟩];rfl
def aI.load(hs:aI h s es cs){i:Nat}(hi:i<cs.length):ao (some es) (.ptr s.sb (s.so+i*es)) (λb=>h[b]?)=some (.agg cs[i],.ar):=by
 cases hs with
 |nil=>simp at hi
 | @mk b o es cs c mu tl hb hf ho he=>
  have hle:i*es+es<=cs.length*es:=by rw[<-aby];exact abl _ hi
  have h1:=mw he hi;show ao (some es) (.ptr b (o+i*es)) (λb=>h[b]?)=_;simp only[ao,hb];rw[aas Om,<-h1,<-hf,List.drop_take,acN,abB,abT Om]
def aI.DA(hs:aI h s es cs){i off:Nat}(hi:i<cs.length){x:AV}(hx:cs[i][off]? =some x):ao none (.ptr s.sb (s.so+i*es+off)) (λb=>h[b]?)=some (x,.ar):=by
 cases hs with
 |nil=>simp at hi
 | @mk b o es cs c mu tl hb hf ho he=>
  have hle:i*es+es<=cs.length*es:=by rw[<-aby];exact abl _ hi
  have h1:=mw he hi;have h2:=he _ (aat hi);have h3:=(aad.1 hx).1;rw[<-h1,<-hf,List.drop_take,acN,abB,abT Om,List.getElem?_take]at hx;rw[aas Om,acB]at hx;show ao none (.ptr b (o+i*es+off)) (λb=>h[b]?)=_;simp only[ao,hb,hx]
def aI.Nb(hs:aI h s 1 cs){i}(hi:i<cs.length){x}(hx:cs[i]=[x]):ao none (.ptr s.sb (s.so+i*1)) (λb=>h[b]?)=some (x,.ar):=
 hs.DA (off:=0) hi (by rw[hx];rfl)
def aI.sl(hs:aI h s es cs){lo hi l u}(hb:jv lo hi cs.length=some (l,u)):∃s',zH es s lo hi=some (s',.ar)/\aI h s' es ((cs.drop l).take (u-l)):=by
 have Yy:l<=u/\u<=cs.length:=by
  unfold jv at hb;split at hb
  case h_2=>cases hb
  split at hb
  case isFalse=>cases hb
  cases hb;omega
 cases hs with
 |nil=>
  simp only[aal]at hb;exact⟨.af,by simp only[zH,hb],by simp;exact .nil⟩
 | @mk b o es cs c mu tl hbk hf ho he=>
  have hlen:((cs.drop l).take (u-l)).length=u-l:=by simp;omega
  refine⟨.slice b (o+l*es) (u-l) es,by simp only[zH,aaB,hb],?_⟩;have hul:(u-l)*es+l*es=u*es:=by rw[<-acC];congr 1;omega
  have hu:u*es<=cs.length*es:=abl _ Yy.2;have:aI h (.slice b (o+l*es) ((cs.drop l).take (u-l)).length es) es ((cs.drop l).take (u-l)):=by
   refine .mk hbk ?_ (by rw[hlen];omega) λx hx=>he x (List.mem_of_mem_drop (abc hx))
   rw[hlen];have ZU:∀(cs:List (List AV)) (l n:Nat),(∀x∈cs,x.length=es)->l+n<=cs.length->((cs.drop l).take n).flatten=(cs.flatten.drop (l*es)).take (n*es):=by
    intro cs
    induction cs with
    |nil=>intro l n _ _;simp
    |cons x xs ih=>
     intro l n hx YA;have h1:=hx x Si;have h2:∀y∈xs,y.length=es:=λy hy=>hx y (aaP _ hy)
     cases l with
     |succ l=>
      rw[List.drop_succ_cons,ih l n h2 (by simp at YA;omega),abr,show(l+1)*es=x.length+l*es from by rw[h1,aby,Nat.add_comm],<-abB,acO]
     |zero=>
      cases n with
      |zero=>simp
      |succ n=>
       have:=ih 0 n h2 (by simp at YA;omega);simp only[abH,aco]at this ⊢;rw[abV,abr,this,abr,List.take_append,aby,aaV (l:=x) Om,h1];simp
   rw[ZU cs l (u-l) he Om,<-hf,List.drop_take,acN,abB,abT (by rw[Nat.sub_mul]at hul ⊢;omega)]
  rw[hlen]at this;exact this
def Fr.push{N}(hN:N<=h.length)(cs:List (List AV))(he:∀x∈cs,x.length=es):Fr N (h++[.cells cs.flatten true true]) (.slice h.length 0 cs.length es) es cs:=
 .mk (tl:=true) hN Si he
end
end Go.Abs
namespace Go.Abs
section
variable (P:Program) (ro:Option Nat->Prop)
def WV(r:Option AV)(dst:Option Nat)(l:List bO)(ks:List Kt)(ts:TS)(h:ah)(Q:Ex->TS->ah->Prop):Prop:=
 match r with
 |some v=>WP P ro l ks (put ts dst v) h Q
 |none=>False
end
def ua(c a b:AV):Option AV:=
 match c with
 |.bool t=>some (if t then a else b)
 |_=>none
def pr(n:Nat)(x:AV)(N0:Nat):Option (AV×ja):=if x.cells.all AV.one=true/\x.cells.length=n then some (.ptr N0 0,.push (.cells x.cells true false))else none
def na(x:AV)(N0:Nat):Option (AV×ja):=if x.cells.all AV.one then some (.ptr N0 0,.push (.cells x.cells true false))else none
def aV(n:Nat)(a x:AV)(G:Nat->Option ak):Option (AV×ja):=
 match a with
 |.ptr b o=>
  match G b with
  |some (.cells c true tl)=>
   if x.cells.length=n/\x.cells.all AV.one=true/\o+n<=c.length then some (az,.set b (.cells (fV c o x.cells) true tl))else none
  |_=>none
 |_=>none
def qP(x:AV):Option AV:=
 match x with
 |.ptr b o=>some (.ptr b o)
 |.func (.func f) a c=>some (.func (.func f) a c)
 |.func (.yield f) a c=>some (.func (.yield f) a c)
 |.func (.methodOf t n) a c=>some (.func (.methodOf t n) a c)
 |.func (.via t p f q) a c=>some (.func (.via t p f q) a c)
 |_=>none
def uh(es w:Nat)(z:List AV)(l c:AV)(N0:Nat):Option (AV×ja):=
 match l,c with
 |.int _ l,.int _ c=>
  if 0<=l/\l<=c/\(w:Int)*c<=2^48/\c<2^63 then some (.slice N0 0 l.toNat es,.push (.cells (dX l.toNat z) true true))else none
 |_,_=>none
def nG(x:AV)(lo hi:Option AV):Option AV:=
 match x with
 |.str s=>
  match jv lo hi s.length with
  |some (l,h')=>some (.str ((s.drop l).take (h'-l)))
  |none=>none
 |_=>none
def uA(off:Nat)(x:AV):Option AV:=
 match x with
 |.ptr b o=>some (.ptr b (o+off))
 |_=>none
def j8(len es:Nat)(x i:AV):Option AV:=
 match x,i with
 |.ptr b o,.int _ i=>if 0<=i/\i<len then some (.ptr b (o+i.toNat*es))else none
 |_,_=>none
def zU(n:Option Nat)(off:Nat)(x:AV):Option AV:=
 match x with
 |.agg cs=>
  match n with
  |none=>cs[off]?
  |some n=>some (.agg ((cs.drop off).take n))
 |_=>none
def Ny(len es:Nat)(n:Option Nat)(x i:AV):Option AV:=
 match x,i with
 |.agg cs,.int _ i=>
  if 0<=i/\i<len then
   match n with
   |none=>cs[i.toNat*es]?
   |some n=>some (.agg ((cs.drop (i.toNat*es)).take n))
  else none
 |_,_=>none
def xC(x i:AV):Option AV:=
 match x,i with
 |.str s,.int _ i=>
  if 0<=i then
   match s[i.toNat]? with
   |some b=>some (.int .u8 b.toNat)
   |none=>none
  else none
 |_,_=>none
def JQ(x:AV)(i:Nat):Option AV:=
 match x with
 |.dQ l=>l[i]?
 |_=>none
def vh(o:Option Nat):Option AV:=
 match o with
 |some n=>some (.int .i64 n)
 |none=>none
def vp(neg:Bool)(o:Option Bool):Option AV:=
 match o with
 |some b=>some (.bool (if neg then !b else b))
 |none=>none
def sZ(o:Option (List AV)):Option AV:=
 match o with
 |some c=>some (.agg c)
 |none=>none
def zf(es n:Nat)(o:Option (List AV))(N0:Nat):Option (AV×ja):=
 match o with
 |some c=>if c.all AV.one=true/\c.length=n*es then some (.slice N0 0 n es,.push (.cells c true (!Nat.beq n 0)))else none
 |none=>none
section
variable {P:Program}{ro:Option Nat->Prop}{ks:List Kt}{ts:TS}{h:ah}{Q:Ex->TS->ah->Prop}{d:Option Nat}{q:Bool}{l:List bO}
def jl{r r'}(hr:r=r'.map λv=>(v,.ar)):WR P ro r q d l ks ts h Q=WV P ro r' d l ks ts h Q:=by
 subst hr;cases r' with
 |none=>rfl
 |some v=>exact jz
def vH{v}:WV P ro (some v) d l ks ts h Q=WP P ro l ks (put ts d v) h Q:=rfl
def EB{x}:WP P ro ({dst:=d,k:=.cj x,gd:=none,q:=q} ::l) ks ts h Q=WP P ro l ks (put ts d (val ts x)) h Q:=jz
def G7{c a b}:WP P ro ({dst:=d,k:=.pick c a b,gd:=none,q:=q} ::l) ks ts h Q=WV P ro (ua (val ts c) (val ts a) (val ts b)) d l ks ts h Q:=by
 rw[jm Si Si];refine jl ?_;simp only[stepT,nS,ua];cases val ts c<;>rfl
def KD{x}:WP P ro ({dst:=d,k:=.box x,gd:=none,q:=q} ::l) ks ts h Q=WR P ro (na (val ts x) h.length) q d l ks ts h Q:=rfl
def Hj{n i x}:WP P ro ({dst:=some i,k:=.pt n x,gd:=none,q:=q} ::l) ks ts h Q=(i<ts.length/\WR P ro (pr n (val ts x) h.length) q (some i) l ks ts h Q):=rfl
def tj{z ps}:WP P ro ({dst:=d,k:=.build z ps,gd:=none,q:=q} ::l) ks ts h Q=WV P ro (sZ (eT z (ps.map λp=>(p.1,p.2.1,val ts p.2.2)))) d l ks ts h Q:=by
 rw[jm Si Si];refine jl ?_;simp only[stepT,nS,sZ];cases eT z (ps.map λp=>(p.1,p.2.1,val ts p.2.2))<;>rfl
def BW{es n z ps}:WP P ro ({dst:=d,k:=.a8 es n z ps,gd:=none,q:=q} ::l) ks ts h Q=WR P ro (zf es n (eT (dX n z) (ps.map λp=>(p.1,es,val ts p.2))) h.length) q d l ks ts h Q:=rfl
def Hd{n a}:WP P ro ({dst:=d,k:=.load n a,gd:=none,q:=q} ::l) ks ts h Q=WR P ro (ao n (val ts a) (λb=>h[b]?)) q d l ks ts h Q:=rfl
def Ew{n a x}:WP P ro ({dst:=d,k:=.store n a x,gd:=none,q:=q} ::l) ks ts h Q=WR P ro (aV n (val ts a) (val ts x) (λb=>h[b]?)) q d l ks ts h Q:=rfl
def BV{x}:WP P ro ({dst:=d,k:=.bT x,gd:=none,q:=q} ::l) ks ts h Q=WV P ro (qP (val ts x)) d l ks ts h Q:=by
 rw[jm Si Si];refine jl ?_;exact z138
def KE{op x y}:WP P ro ({dst:=d,k:=.bin op x y,gd:=none,q:=q} ::l) ks ts h Q=WV P ro (eG op (val ts x) (val ts y)) d l ks ts h Q:=by
 rw[jm Si Si];refine jl ?_;exact Lf
def KB{neg t x y}:WP P ro ({dst:=d,k:=.eqv neg t x y,gd:=none,q:=q} ::l) ks ts h Q=WV P ro (vp neg (p9 t (val ts x) (val ts y))) d l ks ts h Q:=by
 rw[jm Si Si];refine jl ?_;simp only[stepT,nS,vp];cases p9 t (val ts x) (val ts y)<;>rfl
def Oq{op x}:WP P ro ({dst:=d,k:=.un op x,gd:=none,q:=q} ::l) ks ts h Q=WV P ro (yp op (val ts x)) d l ks ts h Q:=by
 rw[jm Si Si];refine jl ?_;simp only[stepT,nS];cases yp op (val ts x)<;>rfl
def vO{k x}:WP P ro ({dst:=d,k:=.conv k x,gd:=none,q:=q} ::l) ks ts h Q=WR P ro (nv k (val ts x) (λb=>h[b]?) h.length) q d l ks ts h Q:=rfl
def Ha{f a c}:WP P ro ({dst:=d,k:=.ve f a c,gd:=none,q:=q} ::l) ks ts h Q=WP P ro l ks (put ts d (.func f (a.map (val ts)) (c.map (val ts)))) h Q:=jz
def yg:WP P ro ({dst:=d,k:=.oZ,gd:=none,q:=q} ::l) ks ts h Q=WP P ro l ks (put ts d (.map h.length)) (h++[.bg []]) Q:=mX
def G9{es w z a c}:WP P ro ({dst:=d,k:=.wX es w z a c,gd:=none,q:=q} ::l) ks ts h Q=WR P ro (uh es w z (val ts a) (val ts c) h.length) q d l ks ts h Q:=rfl
def Ot{es x lo hi}:WP P ro ({dst:=d,k:=.sl es x lo hi,gd:=none,q:=q} ::l) ks ts h Q=WR P ro (zH es (val ts x) (lo.map (val ts)) (hi.map (val ts))) q d l ks ts h Q:=rfl
def Kw{x lo hi}:WP P ro ({dst:=d,k:=.B7 x lo hi,gd:=none,q:=q} ::l) ks ts h Q=WV P ro (nG (val ts x) (lo.map (val ts)) (hi.map (val ts))) d l ks ts h Q:=by
 rw[jm Si Si];refine jl ?_;simp only[stepT,nS,nG];cases val ts x with
 |str s=>simp only;cases jv (Option.map (val ts) lo) (Option.map (val ts) hi) s.length<;>rfl
 |_=>rfl
def Hh{off x}:WP P ro ({dst:=d,k:=.bn off x,gd:=none,q:=q} ::l) ks ts h Q=WV P ro (uA off (val ts x)) d l ks ts h Q:=by
 rw[jm Si Si];refine jl ?_;simp only[stepT,nS,uA];cases val ts x<;>rfl
def Hf{es x i}:WP P ro ({dst:=d,k:=.bw es x i,gd:=none,q:=q} ::l) ks ts h Q=WR P ro (aZ es (val ts x) (val ts i)) q d l ks ts h Q:=rfl
def Hg{len es x i}:WP P ro ({dst:=d,k:=.pe len es x i,gd:=none,q:=q} ::l) ks ts h Q=WV P ro (j8 len es (val ts x) (val ts i)) d l ks ts h Q:=by
 rw[jm Si Si];refine jl ?_;simp only[stepT,nS,j8];cases val ts x with
 |ptr b o=>cases val ts i<;>first|rfl|(simp only;split<;>rfl)
 |_=>rfl
def G8{n off x}:WP P ro ({dst:=d,k:=.part n off x,gd:=none,q:=q} ::l) ks ts h Q=WV P ro (zU n off (val ts x)) d l ks ts h Q:=by
 rw[jm Si Si];refine jl ?_;simp only[stepT,nS,zU];cases val ts x with
 |agg cs=>cases n<;>first|rfl|(simp only;cases cs[off]? <;>rfl)
 |_=>rfl
def Kz{len es n x i}:WP P ro ({dst:=d,k:=.KS len es n x i,gd:=none,q:=q} ::l) ks ts h Q=WV P ro (Ny len es n (val ts x) (val ts i)) d l ks ts h Q:=by
 rw[jm Si Si];refine jl ?_;simp only[stepT,nS,Ny];cases val ts x with
 |agg cs=>
  cases val ts i with
  |int k j=>
   simp only;split
   ·cases n<;>first|rfl|(simp only;cases cs[j.toNat*es]? <;>rfl)
   ·rfl
  |_=>rfl
 |_=>rfl
def Ky{x i}:WP P ro ({dst:=d,k:=.Ca x i,gd:=none,q:=q} ::l) ks ts h Q=WV P ro (xC (val ts x) (val ts i)) d l ks ts h Q:=by
 rw[jm Si Si];refine jl ?_;simp only[stepT,nS,xC];cases val ts x with
 |str s=>
  cases val ts i with
  |int k j=>
   simp only;split
   ·cases s[j.toNat]? <;>rfl
   ·rfl
  |_=>rfl
 |_=>rfl
def Hc{kk z ok m k}:WP P ro ({dst:=d,k:=.look kk z ok m k,gd:=none,q:=q} ::l) ks ts h Q=WR P ro (stepT (.look kk z ok m k) (val ts) (λb=>h[b]?) h.length) q d l ks ts h Q:=rfl
def vM{kk m k x}:WP P ro ({dst:=d,k:=.fY kk m k x,gd:=none,q:=q} ::l) ks ts h Q=WR P ro (stepT (.fY kk m k x) (val ts) (λb=>h[b]?) h.length) q d l ks ts h Q:=rfl
def EA{x}:WP P ro ({dst:=d,k:=.r9 x,gd:=none,q:=q} ::l) ks ts h Q=WR P ro (stepT (.r9 x) (val ts) (λb=>h[b]?) h.length) q d l ks ts h Q:=rfl
def KA{x i}:WP P ro ({dst:=d,k:=.ext x i,gd:=none,q:=q} ::l) ks ts h Q=WV P ro (JQ (val ts x) i) d l ks ts h Q:=by
 rw[jm Si Si];refine jl ?_;simp only[stepT,nS,JQ];cases val ts x with
 |dQ cs=>simp only;cases cs[i]? <;>rfl
 |_=>rfl
def Kx{lk x}:WP P ro ({dst:=d,k:=.len lk x,gd:=none,q:=q} ::l) ks ts h Q=WV P ro (vh (kg lk (λb=>h[b]?) (val ts x))) d l ks ts h Q:=by
 rw[jm Si Si];refine jl ?_;simp only[stepT,nS,vh];cases kg lk (λb=>h[b]?) (val ts x)<;>rfl
def He{n}:WP P ro ({dst:=d,k:=.Bp n,gd:=none,q:=q} ::l) ks ts h Q=WP P ro l ks (put ts d (.int .i64 n)) h Q:=jz
def KF{es w x y}:WP P ro ({dst:=d,k:=.app es w x y,gd:=none,q:=q} ::l) ks ts h Q=WR P ro (qe es w (val ts x) (val ts y) (λb=>h[b]?) h.length) q d l ks ts h Q:=rfl
def KC{es x y}:WP P ro ({dst:=d,k:=.Au es x y,gd:=none,q:=q} ::l) ks ts h Q=WR P ro (stepT (.Au es x y) (val ts) (λb=>h[b]?) h.length) q d l ks ts h Q:=rfl
def Ou{x m}:WP P ro ({dst:=d,k:=.mx x m,gd:=none,q:=q} ::l) ks ts h Q=WV P ro (iW qA (val ts x) (m.map (val ts))) d l ks ts h Q:=by
 rw[jm Si Si];refine jl ?_;simp only[stepT,nS];cases iW qA (val ts x) (m.map (val ts))<;>rfl
def Ov{x m}:WP P ro ({dst:=d,k:=.mn x m,gd:=none,q:=q} ::l) ks ts h Q=WV P ro (iW qz (val ts x) (m.map (val ts))) d l ks ts h Q:=by
 rw[jm Si Si];refine jl ?_;simp only[stepT,nS];cases iW qz (val ts x) (m.map (val ts))<;>rfl
def GJ{k a b}:eG .add (.int k a) (.int k b)=some (.int k (k.wrap (a+b))):=by simp[eG,eX,fZ]
def Gz{k a b}:eG .sub (.int k a) (.int k b)=some (.int k (k.wrap (a-b))):=by simp[eG,eX,fZ]
def GC{k a b}:eG .mul (.int k a) (.int k b)=some (.int k (k.wrap (a*b))):=by simp[eG,eX,fZ]
def GA{k a b}(hb:b≠0):eG .quo (.int k a) (.int k b)=some (.int k (k.wrap (a.tdiv b))):=by simp[eG,eX,fZ,hb]
def jw{k a b}(hb:b≠0):eG .rem (.int k a) (.int k b)=some (.int k (a.tmod b)):=by simp[eG,eX,fZ,hb]
def GI{k a b}:eG .eql (.int k a) (.int k b)=some (.bool (decide (a=b))):=by simp[eG,eX,fZ];rfl
def GB{k a b}:eG .neq (.int k a) (.int k b)=some (.bool (decide (a≠b))):=by
 simp only[eG,eX,fZ,aaB,aa2,aay,aaL,AV.bool.injEq];by_cases hab:a=b<;>simp[hab]
def GD{k a b}:eG .lss (.int k a) (.int k b)=some (.bool (decide (a<b))):=by simp[eG,eX,fZ]
def GF{k a b}:eG .leq (.int k a) (.int k b)=some (.bool (decide (a<=b))):=by simp[eG,eX,fZ]
def GG{k a b}:eG .gtr (.int k a) (.int k b)=some (.bool (decide (b<a))):=by simp[eG,eX,fZ]
def GH{k a b}:eG .geq (.int k a) (.int k b)=some (.bool (decide (b<=a))):=by simp[eG,eX,fZ]
def fA{x y}(hl:x.length+y.length<2^62):eG .add (.str x) (.str y)=some (.str (x++y)):=by simp only[eG,rH,aas hl]
def Ed{x y}:eG .eql (.str x) (.str y)=some (.bool (decide (x=y))):=by
 exact LJ
def Ec{x y}:eG .neq (.str x) (.str y)=some (.bool (decide (x≠y))):=by
 exact LJ
def IF{b}:yp .not (.bool b)=some (.bool !b):=rfl
def IG{k a}:yp .neg (.int k a)=some (.int k (k.wrap (0-a))):=rfl
def Qv{k a b}:iW qA (.int k a) [.int k b]=some (.int k (max a b)):=by
 simp only[iW,qA,aaB,aaL,AV.int.injEq,ac3];omega
def Qw{k a b}:iW qz (.int k a) [.int k b]=some (.int k (min a b)):=by
 simp only[iW,qz,aaB,aaL,AV.int.injEq,ac3];omega
def aY{n}(h1:-9223372036854775808<=n)(h2:n<=9223372036854775807):IntKind.i64.wrap n=n:=by
 simp only[IntKind.wrap,IntKind.signed,IntKind.bits,abD,aaX,show(64-1:Nat)=63 from rfl];split<;>omega
end
end Go.Abs
namespace Go.Abs
def A2{a b:Prop}(xa:a)(xb:b):a/\b:=⟨xa,xb⟩
def A3{a b c:Prop}(xa:a)(xb:b)(xc:c):a/\b/\c:=⟨xa,xb,xc⟩
def A4{a b c d:Prop}(xa:a)(xb:b)(xc:c)(xd:d):a/\b/\c/\d:=⟨xa,xb,xc,xd⟩
def A5{a b c d e:Prop}(xa:a)(xb:b)(xc:c)(xd:d)(xe:e):a/\b/\c/\d/\e:=⟨xa,xb,xc,xd,xe⟩
def A6{a b c d e f:Prop}(xa:a)(xb:b)(xc:c)(xd:d)(xe:e)(xf:f):a/\b/\c/\d/\e/\f:=⟨xa,xb,xc,xd,xe,xf⟩
def A7{a b c d e f g:Prop}(xa:a)(xb:b)(xc:c)(xd:d)(xe:e)(xf:f)(xg:g):a/\b/\c/\d/\e/\f/\g:=⟨xa,xb,xc,xd,xe,xf,xg⟩
def A8{a b c d e f g h:Prop}(xa:a)(xb:b)(xc:c)(xd:d)(xe:e)(xf:f)(xg:g)(xh:h):a/\b/\c/\d/\e/\f/\g/\h:=⟨xa,xb,xc,xd,xe,xf,xg,xh⟩
def A9{a b c d e f g h i:Prop}(xa:a)(xb:b)(xc:c)(xd:d)(xe:e)(xf:f)(xg:g)(xh:h)(xi:i):a/\b/\c/\d/\e/\f/\g/\h/\i:=⟨xa,xb,xc,xd,xe,xf,xg,xh,xi⟩
def mE{a b c d e f g h i j:Prop}(xa:a)(xb:b)(xc:c)(xd:d)(xe:e)(xf:f)(xg:g)(xh:h)(xi:i)(xj:j):a/\b/\c/\d/\e/\f/\g/\h/\i/\j:=⟨xa,xb,xc,xd,xe,xf,xg,xh,xi,xj⟩
def n6{a b c d e f g h i j k:Prop}(xa:a)(xb:b)(xc:c)(xd:d)(xe:e)(xf:f)(xg:g)(xh:h)(xi:i)(xj:j)(xk:k):a/\b/\c/\d/\e/\f/\g/\h/\i/\j/\k:=⟨xa,xb,xc,xd,xe,xf,xg,xh,xi,xj,xk⟩
def nZ{a b c d e f g h i j k l:Prop}(xa:a)(xb:b)(xc:c)(xd:d)(xe:e)(xf:f)(xg:g)(xh:h)(xi:i)(xj:j)(xk:k)(xl:l):a/\b/\c/\d/\e/\f/\g/\h/\i/\j/\k/\l:=⟨xa,xb,xc,xd,xe,xf,xg,xh,xi,xj,xk,xl⟩
def Hy{a b c d e f g h i j k l m:Prop}(xa:a)(xb:b)(xc:c)(xd:d)(xe:e)(xf:f)(xg:g)(xh:h)(xi:i)(xj:j)(xk:k)(xl:l)(xm:m):a/\b/\c/\d/\e/\f/\g/\h/\i/\j/\k/\l/\m:=⟨xa,xb,xc,xd,xe,xf,xg,xh,xi,xj,xk,xl,xm⟩
def B5{a b c d e f g h i j k l m n:Prop}(xa:a)(xb:b)(xc:c)(xd:d)(xe:e)(xf:f)(xg:g)(xh:h)(xi:i)(xj:j)(xk:k)(xl:l)(xm:m)(xn:n):a/\b/\c/\d/\e/\f/\g/\h/\i/\j/\k/\l/\m/\n:=⟨xa,xb,xc,xd,xe,xf,xg,xh,xi,xj,xk,xl,xm,xn⟩
def B4{a b c d e f g h i j k l m n o:Prop}(xa:a)(xb:b)(xc:c)(xd:d)(xe:e)(xf:f)(xg:g)(xh:h)(xi:i)(xj:j)(xk:k)(xl:l)(xm:m)(xn:n)(xo:o):a/\b/\c/\d/\e/\f/\g/\h/\i/\j/\k/\l/\m/\n/\o:=⟨xa,xb,xc,xd,xe,xf,xg,xh,xi,xj,xk,xl,xm,xn,xo⟩
def Iv{a b c d e f g h i j k l m n o p:Prop}(xa:a)(xb:b)(xc:c)(xd:d)(xe:e)(xf:f)(xg:g)(xh:h)(xi:i)(xj:j)(xk:k)(xl:l)(xm:m)(xn:n)(xo:o)(xp:p):a/\b/\c/\d/\e/\f/\g/\h/\i/\j/\k/\l/\m/\n/\o/\p:=⟨xa,xb,xc,xd,xe,xf,xg,xh,xi,xj,xk,xl,xm,xn,xo,xp⟩
def K3{a b c d e f g h i j k l m n o p q:Prop}(xa:a)(xb:b)(xc:c)(xd:d)(xe:e)(xf:f)(xg:g)(xh:h)(xi:i)(xj:j)(xk:k)(xl:l)(xm:m)(xn:n)(xo:o)(xp:p)(xq:q):a/\b/\c/\d/\e/\f/\g/\h/\i/\j/\k/\l/\m/\n/\o/\p/\q:=⟨xa,xb,xc,xd,xe,xf,xg,xh,xi,xj,xk,xl,xm,xn,xo,xp,xq⟩
def Iu{a b c d e f g h i j k l m n o p q r:Prop}(xa:a)(xb:b)(xc:c)(xd:d)(xe:e)(xf:f)(xg:g)(xh:h)(xi:i)(xj:j)(xk:k)(xl:l)(xm:m)(xn:n)(xo:o)(xp:p)(xq:q)(xr:r):a/\b/\c/\d/\e/\f/\g/\h/\i/\j/\k/\l/\m/\n/\o/\p/\q/\r:=⟨xa,xb,xc,xd,xe,xf,xg,xh,xi,xj,xk,xl,xm,xn,xo,xp,xq,xr⟩
def Tn{a b c d e f g h i j k l m n o p q r s:Prop}(xa:a)(xb:b)(xc:c)(xd:d)(xe:e)(xf:f)(xg:g)(xh:h)(xi:i)(xj:j)(xk:k)(xl:l)(xm:m)(xn:n)(xo:o)(xp:p)(xq:q)(xr:r)(xs:s):a/\b/\c/\d/\e/\f/\g/\h/\i/\j/\k/\l/\m/\n/\o/\p/\q/\r/\s:=⟨xa,xb,xc,xd,xe,xf,xg,xh,xi,xj,xk,xl,xm,xn,xo,xp,xq,xr,xs⟩
def OX{a b c d e f g h i j k l m n o p q r s t:Prop}(xa:a)(xb:b)(xc:c)(xd:d)(xe:e)(xf:f)(xg:g)(xh:h)(xi:i)(xj:j)(xk:k)(xl:l)(xm:m)(xn:n)(xo:o)(xp:p)(xq:q)(xr:r)(xs:s)(xt:t):a/\b/\c/\d/\e/\f/\g/\h/\i/\j/\k/\l/\m/\n/\o/\p/\q/\r/\s/\t:=⟨xa,xb,xc,xd,xe,xf,xg,xh,xi,xj,xk,xl,xm,xn,xo,xp,xq,xr,xs,xt⟩
def SQ{a b c d e f g h i j k l m n o p q r s t u:Prop}(xa:a)(xb:b)(xc:c)(xd:d)(xe:e)(xf:f)(xg:g)(xh:h)(xi:i)(xj:j)(xk:k)(xl:l)(xm:m)(xn:n)(xo:o)(xp:p)(xq:q)(xr:r)(xs:s)(xt:t)(xu:u):a/\b/\c/\d/\e/\f/\g/\h/\i/\j/\k/\l/\m/\n/\o/\p/\q/\r/\s/\t/\u:=⟨xa,xb,xc,xd,xe,xf,xg,xh,xi,xj,xk,xl,xm,xn,xo,xp,xq,xr,xs,xt,xu⟩
def OW{a b c d e f g h i j k l m n o p q r s t u v:Prop}(xa:a)(xb:b)(xc:c)(xd:d)(xe:e)(xf:f)(xg:g)(xh:h)(xi:i)(xj:j)(xk:k)(xl:l)(xm:m)(xn:n)(xo:o)(xp:p)(xq:q)(xr:r)(xs:s)(xt:t)(xu:u)(xv:v):a/\b/\c/\d/\e/\f/\g/\h/\i/\j/\k/\l/\m/\n/\o/\p/\q/\r/\s/\t/\u/\v:=⟨xa,xb,xc,xd,xe,xf,xg,xh,xi,xj,xk,xl,xm,xn,xo,xp,xq,xr,xs,xt,xu,xv⟩
def SP{a b c d e f g h i j k l m n o p q r s t u v w:Prop}(xa:a)(xb:b)(xc:c)(xd:d)(xe:e)(xf:f)(xg:g)(xh:h)(xi:i)(xj:j)(xk:k)(xl:l)(xm:m)(xn:n)(xo:o)(xp:p)(xq:q)(xr:r)(xs:s)(xt:t)(xu:u)(xv:v)(xw:w):a/\b/\c/\d/\e/\f/\g/\h/\i/\j/\k/\l/\m/\n/\o/\p/\q/\r/\s/\t/\u/\v/\w:=⟨xa,xb,xc,xd,xe,xf,xg,xh,xi,xj,xk,xl,xm,xn,xo,xp,xq,xr,xs,xt,xu,xv,xw⟩
def Hx{a b c d e f g h i j k l m n o p q r s t u v w x:Prop}(xa:a)(xb:b)(xc:c)(xd:d)(xe:e)(xf:f)(xg:g)(xh:h)(xi:i)(xj:j)(xk:k)(xl:l)(xm:m)(xn:n)(xo:o)(xp:p)(xq:q)(xr:r)(xs:s)(xt:t)(xu:u)(xv:v)(xw:w)(xx:x):a/\b/\c/\d/\e/\f/\g/\h/\i/\j/\k/\l/\m/\n/\o/\p/\q/\r/\s/\t/\u/\v/\w/\x:=⟨xa,xb,xc,xd,xe,xf,xg,xh,xi,xj,xk,xl,xm,xn,xo,xp,xq,xr,xs,xt,xu,xv,xw,xx⟩
section
variable {P:Program}{ro:Option Nat->Prop}{ks:List Kt}{ts:TS}{h:ah}{Q:Ex->TS->ah->Prop}{d:Option Nat}{q:Bool}{l:List bO}
def Hk{k}{p:Prop}[Decidable p] :WG P ro (.bool (decide p)) true q k d l ks ts h Q=((p->WP P ro ({dst:=d,k:=k,gd:=none,q:=q} ::l) ks ts h Q)/\(¬p->WP P ro l ks (put ts d az) h Q)):=by
 by_cases hp:p
 ·simp only[hp,aaE,zm];simp
 ·simp only[hp,aaJ];rw[AG false Si];simp
def Hl{k}{p:Prop}[Decidable p] :WG P ro (.bool (decide p)) false q k d l ks ts h Q=((p->WP P ro l ks (put ts d az) h Q)/\(¬p->WP P ro ({dst:=d,k:=k,gd:=none,q:=q} ::l) ks ts h Q)):=by
 by_cases hp:p
 ·simp only[hp,aaE];rw[AG true Si];simp
 ·simp only[hp,aaJ,zm];simp
def Oy{k}:WG P ro (.bool true) false q k d l ks ts h Q=WP P ro l ks (put ts d az) h Q:=AG true Si
def Oz{k}:WG P ro (.bool false) true q k d l ks ts h Q=WP P ro l ks (put ts d az) h Q:=AG false Si
def KI{a b}{p:Prop}[Decidable p] :WB P ro (.bool (decide p)) a b ks ts h Q=((p->WC P ro a ks ts h Q)/\(¬p->WC P ro b ks ts h Q)):=by
 by_cases hp:p
 ·simp only[hp,aaE,AH];simp
 ·simp only[hp,aaJ,yh];simp
def I8{a b}:ua (.bool true) a b=some a:=rfl
def I9{a b}:ua (.bool false) a b=some b:=rfl
def slot(ts:TS)(i:Nat):AV:=ts.getD i az
def v8{i}:val ts (.t i)=slot ts i:=rfl
def zx{v}:val ts (.c v)=v:=rfl
def Ma{i}:val ts (.g i)=.ptr i 0:=rfl
def Mb{i}:val ts (.f i)=.func (.func i) [] []:=rfl
def qv{i v}:put ts (some i) v=ts.set i v:=rfl
def Dg{v}:put ts none v=ts:=rfl
def IN{a l}:slot (a::l) 0=a:=rfl
def IM{a l n}:slot (a::l) (n+1)=slot l n:=rfl
def JB{a:AV}{l:List AV}:(a::l).length=l.length+1:=rfl
def JC:([] :List AV).length=0:=rfl
def Jy{a:AV}:List.replicate 0 a=[]:=rfl
def JF{a:AV}{l m:List AV}:(a::l)++m=a:: (l++m):=rfl
def JG{m:List AV}:[]++m=m:=rfl
def Jx{a b:AV}{l:List AV}:(a::l).set 0 b=b::l:=rfl
def Jw{a b:AV}{l:List AV}{n:Nat}:(a::l).set (n+1) b=a::l.set n b:=rfl
def JA{f:cZ->AV}:List.map f []=[]:=rfl
def Jz{f:cZ->AV}{a:cZ}{l:List cZ}:List.map f (a::l)=f a::l.map f:=rfl
def Jh{f:cZ->AV}:Option.map f none=none:=rfl
def Jg{f:cZ->AV}{a:cZ}:Option.map f (some a)=some (f a):=rfl
def JP{off b o}:uA off (.ptr b o)=some (.ptr b (o+off)):=rfl
def Jv{n}:vh (some n)=some (.int .i64 n):=rfl
def FO{G s}:kg .st G (.str s)=some s.length:=rfl
def M4{b o}:qP (.ptr b o)=some (.ptr b o):=rfl
def M5{f a c}:qP (.func (.func f) a c)=some (.func (.func f) a c):=rfl
def M3{f a c}:qP (.func (.yield f) a c)=some (.func (.yield f) a c):=rfl
def NV{l i}:JQ (.dQ l) i=l[i]? :=rfl
def Jc{cs off}:zU none off (.agg cs)=cs[off]? :=rfl
def Jb{cs off n}:zU (some n) off (.agg cs)=some (.agg ((cs.drop off).take n)):=rfl
def D6{c}:sZ (some c)=some (.agg c):=rfl
def C6{r}:cU [(r,none)] ts h=some (slot ts r):=rfl
def C5{r s}:cU [(r,none),(s,none)] ts h=some (.dQ [slot ts r,slot ts s]):=rfl
def C4{r s t}:cU [(r,none),(s,none),(t,none)] ts h=some (.dQ [slot ts r,slot ts s,slot ts t]):=rfl
def yy{n args}:aR n args=args++List.replicate (n-args.length) az:=rfl
def ML{n:Nat}{a:AV}:List.replicate (n+1) a=a::List.replicate n a:=rfl
def Gs{k k' n G N}:nv (.F9 k) (.int k' n) G N=some (.int k (k.wrap n),.ar):=rfl
def kM{u:TypeId}{x G N}:nv (.vU u) x G N=some (.vU u x,.ar):=rfl
def BG{s G N}:nv .same (.str s) G N=some (.str s,.ar):=rfl
def Gx{k n N}:na (.int k n) N=some (.ptr N 0,.push (.cells [.int k n] true false)):=rfl
def D9{b N}:na (.bool b) N=some (.ptr N 0,.push (.cells [.bool b] true false)):=rfl
def Gw{s N}:na (.str s) N=some (.ptr N 0,.push (.cells [.str s] true false)):=rfl
def Gy{l N}(hl:l.all AV.one=true):na (.agg l) N=some (.ptr N 0,.push (.cells l true false)):=by
 show(if l.all AV.one then _ else none)=_;rw[aas hl];rfl
end
def RT{P ro ks ts h Q d q l k b}:WG P ro az b q k d l ks ts h Q=WP P ro l ks (put ts d az) h Q:=rfl
def Ii{h}:Ext h h=True:=ac4 (Ext.refl h)
def Ih{h a}:Ext h (h++a)=True:=ac4 (by repeat first|exact Ext.refl _|refine Ext.app _ ?_)
def Ig{h a b}:Ext h (h++a++b)=True:=ac4 (by repeat first|exact Ext.refl _|refine Ext.app _ ?_)
def Ie{h a b c}:Ext h (h++a++b++c)=True:=ac4 (by repeat first|exact Ext.refl _|refine Ext.app _ ?_)
def Ic{h a b c d}:Ext h (h++a++b++c++d)=True:=ac4 (by repeat first|exact Ext.refl _|refine Ext.app _ ?_)
def Ib{h a b c d e}:Ext h (h++a++b++c++d++e)=True:=ac4 (by repeat first|exact Ext.refl _|refine Ext.app _ ?_)
def Ia{h a b c d e f}:Ext h (h++a++b++c++d++e++f)=True:=ac4 (by repeat first|exact Ext.refl _|refine Ext.app _ ?_)
def H9{h a b c d e f g}:Ext h (h++a++b++c++d++e++f++g)=True:=ac4 (by repeat first|exact Ext.refl _|refine Ext.app _ ?_)
def H8{h a b c d e f g i}:Ext h (h++a++b++c++d++e++f++g++i)=True:=ac4 (by repeat first|exact Ext.refl _|refine Ext.app _ ?_)
def H7{h a b c d e f g i j}:Ext h (h++a++b++c++d++e++f++g++i++j)=True:=ac4 (by repeat first|exact Ext.refl _|refine Ext.app _ ?_)
def Oj{p:Prop}:(True/\p)=p:=ac3 p
def KR(f:Nat->AV):Nat->Nat->TS
 | 0,_=>[]
 |n+1,i=>f i::KR f n (i+1)
def M9{f i}:KR f 0 i=[]:=rfl
def HT{f n i}:KR f (n+1) i=f i::KR f n (i+1):=rfl
theorem Dw(f:Nat->AV):∀(n i:Nat) (ts:TS),ts.length=n->(∀k,k<n->f (i+k)=slot ts k)->ts=KR f n i
 | 0,_,ts,h,_=>abg.1 h
 |n+1,i,[],h,_=>by simp at h
 |n+1,i,x::xs,h,hf=>by
  rw[HT,<-Dw f n (i+1) xs (by simpa using h) λk hk=>by have:=hf (k+1) Om;rw[show i+1+k=i+(k+1) by omega,this];rfl];rw[<-acW i,hf 0 Om];rfl
def my(ts:TS)(n:Nat)(h:ts.length=n):ts=KR (λi=>slot ts i) n 0:=Dw _ n 0 ts h λk _=>by rw[aa4]
def aU:=A6 (Hx @Hq @tq @tn @Hu @EC @Hr @Ht @KH @vP @Ho @Hp @BZ @BX @BY @KG @Ez @Hi @Ox @zm @Oy @Oz @jz @mX @ti) (Hx @nY @vH @AH @yh @RX @RU @RW @R1 @R0 @Hw @EB @G7 @KD @tj @BW @Hd @Ew @BV @KE @KB @Oq @vO @Ha @yg) (Hx @G9 @Ot @Kw @Hh @Hf @Hg @G8 @Kz @Ky @Hc @vM @EA @KA @Kx @He @KF @KC @Ou @Ov @GJ @Gz @GC @GI @GB) (Hx @GD @GF @GG @GH @Ed @Ec @IF @IG @Qv @Qw @I8 @I9 @v8 @zx @Ma @Mb @qv @Dg @IN @IM @JP @Jv @FO @M4) (Hx @M5 @M3 @NV @Jc @Jb @D6 @C6 @C5 @C4 @yy @ML @JB @JC @Jy @JF @JG @Jx @Jw @JA @Jz @Jh @Jg @Gs @BG) (K3 @RT @Ii @Ih @Ig @Ie @Ic @Ib @Ia @H9 @H8 @H7 @Oj @M9 @HT @Gx @D9 @Gw)
def pQ:
  (∀{P}{ro}{ks}{ts}{h}{Q}{d}{q}{l}{k}{p:Prop} [Decidable p],WG P ro (.bool (decide p)) true q k d l ks ts h Q=((p->WP P ro ({dst:=d,k:=k,gd:=none,q:=q} ::l) ks ts h Q)/\(¬p->WP P ro l ks (put ts d az) h Q)))/\
  (∀{P:Program}{ro:Option Nat->Prop}{ks:List Kt}{ts:TS}{h:ah}{Q:Ex->TS->ah->Prop}{d:Option Nat}{q:Bool}{l:List bO}{k:pN}{p:Prop} [Decidable p],WG P ro (.bool (decide p)) false q k d l ks ts h Q=((p->WP P ro l ks (put ts d az) h Q)/\(¬p->WP P ro ({dst:=d,k:=k,gd:=none,q:=q} ::l) ks ts h Q)))/\
  (∀{P:Program}{ro:Option Nat->Prop}{ks:List Kt}{ts:TS}{h:ah}{Q:Ex->TS->ah->Prop}{a b:ai}{p:Prop} [Decidable p],WB P ro (.bool (decide p)) a b ks ts h Q=((p->WC P ro a ks ts h Q)/\(¬p->WC P ro b ks ts h Q))):=
 ⟨@Hk,@Hl,@KI⟩
end Go.Abs
namespace Go.Abs
def da{h:ah}{b:Nat}(a:ah)(hb:b<h.length):(h++a)[b]? =h[b]? :=aag hb
def eV{h:ah}{b:Nat}(a:ah)(k:ak)(hb:b<h.length):(h++a).set b k=h.set b k++a:=acK _ _ hb
def zK{X:ah}{k k':ak}:(X++[k]).set X.length k' =X++[k']:=by
 rw[aa9 _ _ (aar _)];simp
def ba{X:ah}{k:ak}:(X++[k])[X.length]? =some k:=Si
def dO(n:Option Nat)(o:Nat):ak->Option (AV×ja)
 |.cells c _ _=>
  match n with
  |none=>
   match c[o]? with
   |some x=>some (x,.ar)
   |none=>none
  |some n=>if o+n<=c.length then some (.agg ((c.drop o).take n),.ar)else none
 |_=>none
def lH(n o:Nat)(v:AV)(b:Nat):ak->Option (AV×ja)
 |.cells c true tl=>if v.cells.length=n/\v.cells.all AV.one=true/\o+n<=c.length then some (az,.set b (.cells (fV c o v.cells) true tl))else none
 |_=>none
def aA{n:Option Nat}{b o:Nat}{G:Nat->Option ak}{k:ak}(hb:G b=some k):ao n (.ptr b o) G=dO n o k:=by
 simp only[ao,hb];cases k<;>rfl
def aL{n b o:Nat}{v:AV}{G:Nat->Option ak}{k:ak}(hb:G b=some k):aV n (.ptr b o) v G=lH n o v b k:=by
 simp only[aV,hb];cases k with
 |cells c mu tl=>cases mu<;>rfl
 |_=>rfl
def eE(b:Nat)(s:By)(pos:Nat):Option (AV×ja):=
 if pos<s.length then some (.dQ [.bool true,.int .i64 pos,.int .i32 (Utf8.decode ⟨⟨s⟩⟩ pos).1],.set b (.iter s (pos+(Utf8.decode ⟨⟨s⟩⟩ pos).2)))else some (.dQ [.bool false],.ar)
def fI(x:AV)(G:Nat->Option ak):Option (AV×ja):=
 match x with
 |.ptr b 0=>
  match G b with
  |some (.iter s pos)=>eE b s pos
  |_=>none
 |_=>none
def dR{b pos:Nat}{s:By}{G:Nat->Option ak}(hb:G b=some (.iter s pos)):fI (.ptr b 0) G=eE b s pos:=by
 simp only[fI,hb]
def wo{x:cZ}{ρ:cZ->AV}{G:Nat->Option ak}{N:Nat}:stepT (.r9 x) ρ G N=fI (ρ x) G:=by
 simp only[stepT,nS,fI,eE];cases ρ x with
 |ptr b o=>
  cases o with
  |zero=>
   simp only;cases G b with
   |none=>rfl
   |some k=>cases k<;>rfl
  |succ o=>rfl
 |_=>rfl
def HM(x:AV)(N:Nat):Option (AV×ja):=
 match x with
 |.str s=>some (.ptr N 0,.push (.iter s 0))
 |_=>none
def Ey{P:Program}{ro:Option Nat->Prop}{ks:List Kt}{ts:TS}{h:ah}{Q:Ex->TS->ah->Prop}{d:Option Nat}{q:Bool}{l:List bO}{x:cZ}:WP P ro ({dst:=d,k:=.CY x,gd:=none,q:=q} ::l) ks ts h Q=WR P ro (HM (val ts x) h.length) q d l ks ts h Q:=rfl
def IZ{s:By}{N:Nat}:HM (.str s) N=some (.ptr N 0,.push (.iter s 0)):=rfl
def GW{X:ah}{K}:(X++[K])[X.length]? =some K:=by
 exact ba
def QH{n o X K}:ao n (.ptr X.length o) (λz=>(X++[K])[z]?)=dO n o K:=aA GW
def PC{y o v X K}:aV y (.ptr X.length o) v (λz=>(X++[K])[z]?)=lH y o v X.length K:=aL GW
def Qq{pos s X}:fI (.ptr X.length 0) (λz=>(X++[.iter s pos])[z]?)=eE X.length s pos:=dR GW
def CI{X:ah}{K K'}:(X++[K]).set X.length K' =X++[K']:=by
 exact zK
def vB{X:ah}{K a}:(X++[K]++a)[X.length]? =some K:=by
 rw[da,GW];simp
def QG{n o X K a}:ao n (.ptr X.length o) (λz=>(X++[K]++a)[z]?)=dO n o K:=aA vB
def PB{y o v X K a}:aV y (.ptr X.length o) v (λz=>(X++[K]++a)[z]?)=lH y o v X.length K:=aL vB
def Qp{pos s X a}:fI (.ptr X.length 0) (λz=>(X++[.iter s pos]++a)[z]?)=eE X.length s pos:=dR vB
def zL{X:ah}{K K' a}:(X++[K]++a).set X.length K' =X++[K']++a:=by
 rw[eV,CI];simp
def BP{X:ah}{K a b}:(X++[K]++a++b)[X.length]? =some K:=by
 rw[da,vB];simp
def QF{n o X K a b}:ao n (.ptr X.length o) (λz=>(X++[K]++a++b)[z]?)=dO n o K:=aA BP
def PA{y o v X K a b}:aV y (.ptr X.length o) v (λz=>(X++[K]++a++b)[z]?)=lH y o v X.length K:=aL BP
def Qo{pos s X a b}:fI (.ptr X.length 0) (λz=>(X++[.iter s pos]++a++b)[z]?)=eE X.length s pos:=dR BP
def HJ{X:ah}{K K' a b}:(X++[K]++a++b).set X.length K' =X++[K']++a++b:=by
 rw[eV,zL];simp
def tF{X:ah}{K a b c}:(X++[K]++a++b++c)[X.length]? =some K:=by
 rw[da,BP];simp
def QE{n o X K a b c}:ao n (.ptr X.length o) (λz=>(X++[K]++a++b++c)[z]?)=dO n o K:=aA tF
def Pz{y o v X K a b c}:aV y (.ptr X.length o) v (λz=>(X++[K]++a++b++c)[z]?)=lH y o v X.length K:=aL tF
def Qn{pos s X a b c}:fI (.ptr X.length 0) (λz=>(X++[.iter s pos]++a++b++c)[z]?)=eE X.length s pos:=dR tF
def HI{X:ah}{K K' a b c}:(X++[K]++a++b++c).set X.length K' =X++[K']++a++b++c:=by
 rw[eV,HJ];simp
def vA{X:ah}{K a b c d}:(X++[K]++a++b++c++d)[X.length]? =some K:=by
 rw[da,tF];simp
def QD{n o X K a b c d}:ao n (.ptr X.length o) (λz=>(X++[K]++a++b++c++d)[z]?)=dO n o K:=aA vA
def Py{y o v X K a b c d}:aV y (.ptr X.length o) v (λz=>(X++[K]++a++b++c++d)[z]?)=lH y o v X.length K:=aL vA
def Qm{pos s X a b c d}:fI (.ptr X.length 0) (λz=>(X++[.iter s pos]++a++b++c++d)[z]?)=eE X.length s pos:=dR vA
def CD{X:ah}{K K' a b c d}:(X++[K]++a++b++c++d).set X.length K' =X++[K']++a++b++c++d:=by
 rw[eV,HI];simp
def Ek{X:ah}{K a b c d e}:(X++[K]++a++b++c++d++e)[X.length]? =some K:=by
 rw[da,vA];simp
def QC{n o X K a b c d e}:ao n (.ptr X.length o) (λz=>(X++[K]++a++b++c++d++e)[z]?)=dO n o K:=aA Ek
def Px{y o v X K a b c d e}:aV y (.ptr X.length o) v (λz=>(X++[K]++a++b++c++d++e)[z]?)=lH y o v X.length K:=aL Ek
def Ql{pos s X a b c d e}:fI (.ptr X.length 0) (λz=>(X++[.iter s pos]++a++b++c++d++e)[z]?)=eE X.length s pos:=dR Ek
def HH{X:ah}{K K' a b c d e}:(X++[K]++a++b++c++d++e).set X.length K' =X++[K']++a++b++c++d++e:=by
 rw[eV,CD];simp
def GU{X:ah}{K a b c d e f}:(X++[K]++a++b++c++d++e++f)[X.length]? =some K:=by
 rw[da,Ek];simp
def QB{n o X K a b c d e f}:ao n (.ptr X.length o) (λz=>(X++[K]++a++b++c++d++e++f)[z]?)=dO n o K:=aA GU
def Pv{y o v X K a b c d e f}:aV y (.ptr X.length o) v (λz=>(X++[K]++a++b++c++d++e++f)[z]?)=lH y o v X.length K:=aL GU
def Qk{pos s X a b c d e f}:fI (.ptr X.length 0) (λz=>(X++[.iter s pos]++a++b++c++d++e++f)[z]?)=eE X.length s pos:=dR GU
def HG{X:ah}{K K' a b c d e f}:(X++[K]++a++b++c++d++e++f).set X.length K' =X++[K']++a++b++c++d++e++f:=by
 rw[eV,HH];simp
def GS{X:ah}{K a b c d e f g}:(X++[K]++a++b++c++d++e++f++g)[X.length]? =some K:=by
 rw[da,GU];simp
def QA{n o X K a b c d e f g}:ao n (.ptr X.length o) (λz=>(X++[K]++a++b++c++d++e++f++g)[z]?)=dO n o K:=aA GS
def Pu{y o v X K a b c d e f g}:aV y (.ptr X.length o) v (λz=>(X++[K]++a++b++c++d++e++f++g)[z]?)=lH y o v X.length K:=aL GS
def Qj{pos s X a b c d e f g}:fI (.ptr X.length 0) (λz=>(X++[.iter s pos]++a++b++c++d++e++f++g)[z]?)=eE X.length s pos:=dR GS
def HF{X:ah}{K K' a b c d e f g}:(X++[K]++a++b++c++d++e++f++g).set X.length K' =X++[K']++a++b++c++d++e++f++g:=by
 rw[eV,HG];simp
def GR{X:ah}{K a b c d e f g i}:(X++[K]++a++b++c++d++e++f++g++i)[X.length]? =some K:=by
 rw[da,GS];simp
def Qz{n o X K a b c d e f g i}:ao n (.ptr X.length o) (λz=>(X++[K]++a++b++c++d++e++f++g++i)[z]?)=dO n o K:=aA GR
def Pt{y o v X K a b c d e f g i}:aV y (.ptr X.length o) v (λz=>(X++[K]++a++b++c++d++e++f++g++i)[z]?)=lH y o v X.length K:=aL GR
def Qi{pos s X a b c d e f g i}:fI (.ptr X.length 0) (λz=>(X++[.iter s pos]++a++b++c++d++e++f++g++i)[z]?)=eE X.length s pos:=dR GR
def HE{X:ah}{K K' a b c d e f g i}:(X++[K]++a++b++c++d++e++f++g++i).set X.length K' =X++[K']++a++b++c++d++e++f++g++i:=by
 rw[eV,HF];simp
def GQ{X:ah}{K a b c d e f g i j}:(X++[K]++a++b++c++d++e++f++g++i++j)[X.length]? =some K:=by
 rw[da,GR];simp
def Qy{n o X K a b c d e f g i j}:ao n (.ptr X.length o) (λz=>(X++[K]++a++b++c++d++e++f++g++i++j)[z]?)=dO n o K:=aA GQ
def Ps{y o v X K a b c d e f g i j}:aV y (.ptr X.length o) v (λz=>(X++[K]++a++b++c++d++e++f++g++i++j)[z]?)=lH y o v X.length K:=aL GQ
def Qh{pos s X a b c d e f g i j}:fI (.ptr X.length 0) (λz=>(X++[.iter s pos]++a++b++c++d++e++f++g++i++j)[z]?)=eE X.length s pos:=dR GQ
def HD{X:ah}{K K' a b c d e f g i j}:(X++[K]++a++b++c++d++e++f++g++i++j).set X.length K' =X++[K']++a++b++c++d++e++f++g++i++j:=by
 rw[eV,HE];simp
def AD{X:ah}{K a b c d e f g i j m}:(X++[K]++a++b++c++d++e++f++g++i++j++m)[X.length]? =some K:=by
 rw[da,GQ];simp
def Nh{n o X K a b c d e f g i j m}:ao n (.ptr X.length o) (λz=>(X++[K]++a++b++c++d++e++f++g++i++j++m)[z]?)=dO n o K:=aA AD
def Ms{y o v X K a b c d e f g i j m}:aV y (.ptr X.length o) v (λz=>(X++[K]++a++b++c++d++e++f++g++i++j++m)[z]?)=lH y o v X.length K:=aL AD
def M0{pos s X a b c d e f g i j m}:fI (.ptr X.length 0) (λz=>(X++[.iter s pos]++a++b++c++d++e++f++g++i++j++m)[z]?)=eE X.length s pos:=dR AD
def CH{X:ah}{K K' a b c d e f g i j m}:(X++[K]++a++b++c++d++e++f++g++i++j++m).set X.length K' =X++[K']++a++b++c++d++e++f++g++i++j++m:=by
 rw[eV,HD];simp
def AB{X:ah}{K a b c d e f g i j m p}:(X++[K]++a++b++c++d++e++f++g++i++j++m++p)[X.length]? =some K:=by
 rw[da,AD];simp
def Ng{n o X K a b c d e f g i j m p}:ao n (.ptr X.length o) (λz=>(X++[K]++a++b++c++d++e++f++g++i++j++m++p)[z]?)=dO n o K:=aA AB
def Mr{y o v X K a b c d e f g i j m p}:aV y (.ptr X.length o) v (λz=>(X++[K]++a++b++c++d++e++f++g++i++j++m++p)[z]?)=lH y o v X.length K:=aL AB
def MZ{pos s X a b c d e f g i j m p}:fI (.ptr X.length 0) (λz=>(X++[.iter s pos]++a++b++c++d++e++f++g++i++j++m++p)[z]?)=eE X.length s pos:=dR AB
def CG{X:ah}{K K' a b c d e f g i j m p}:(X++[K]++a++b++c++d++e++f++g++i++j++m++p).set X.length K' =X++[K']++a++b++c++d++e++f++g++i++j++m++p:=by
 rw[eV,CH];simp
def AA{X:ah}{K a b c d e f g i j m p q}:(X++[K]++a++b++c++d++e++f++g++i++j++m++p++q)[X.length]? =some K:=by
 rw[da,AB];simp
def Nf{n o X K a b c d e f g i j m p q}:ao n (.ptr X.length o) (λz=>(X++[K]++a++b++c++d++e++f++g++i++j++m++p++q)[z]?)=dO n o K:=aA AA
def Mq{y o v X K a b c d e f g i j m p q}:aV y (.ptr X.length o) v (λz=>(X++[K]++a++b++c++d++e++f++g++i++j++m++p++q)[z]?)=lH y o v X.length K:=aL AA
def MY{pos s X a b c d e f g i j m p q}:fI (.ptr X.length 0) (λz=>(X++[.iter s pos]++a++b++c++d++e++f++g++i++j++m++p++q)[z]?)=eE X.length s pos:=dR AA
def CF{X:ah}{K K' a b c d e f g i j m p q}:(X++[K]++a++b++c++d++e++f++g++i++j++m++p++q).set X.length K' =X++[K']++a++b++c++d++e++f++g++i++j++m++p++q:=by
 rw[eV,CG];simp
def Az{X:ah}{K a b c d e f g i j m p q r}:(X++[K]++a++b++c++d++e++f++g++i++j++m++p++q++r)[X.length]? =some K:=by
 rw[da,AA];simp
def Nd{n o X K a b c d e f g i j m p q r}:ao n (.ptr X.length o) (λz=>(X++[K]++a++b++c++d++e++f++g++i++j++m++p++q++r)[z]?)=dO n o K:=aA Az
def Mp{y o v X K a b c d e f g i j m p q r}:aV y (.ptr X.length o) v (λz=>(X++[K]++a++b++c++d++e++f++g++i++j++m++p++q++r)[z]?)=lH y o v X.length K:=aL Az
def MX{pos s X a b c d e f g i j m p q r}:fI (.ptr X.length 0) (λz=>(X++[.iter s pos]++a++b++c++d++e++f++g++i++j++m++p++q++r)[z]?)=eE X.length s pos:=dR Az
def CE{X:ah}{K K' a b c d e f g i j m p q r}:(X++[K]++a++b++c++d++e++f++g++i++j++m++p++q++r).set X.length K' =X++[K']++a++b++c++d++e++f++g++i++j++m++p++q++r:=by
 rw[eV,CF];simp
def El{X:ah}{K a b c d e f g i j m p q r t}:(X++[K]++a++b++c++d++e++f++g++i++j++m++p++q++r++t)[X.length]? =some K:=by
 rw[da,Az];simp
def Nc{n o X K a b c d e f g i j m p q r t}:ao n (.ptr X.length o) (λz=>(X++[K]++a++b++c++d++e++f++g++i++j++m++p++q++r++t)[z]?)=dO n o K:=aA El
def Mo{y o v X K a b c d e f g i j m p q r t}:aV y (.ptr X.length o) v (λz=>(X++[K]++a++b++c++d++e++f++g++i++j++m++p++q++r++t)[z]?)=lH y o v X.length K:=aL El
def MW{pos s X a b c d e f g i j m p q r t}:fI (.ptr X.length 0) (λz=>(X++[.iter s pos]++a++b++c++d++e++f++g++i++j++m++p++q++r++t)[z]?)=eE X.length s pos:=dR El
def IP{X:ah}{K K' a b c d e f g i j m p q r t}:(X++[K]++a++b++c++d++e++f++g++i++j++m++p++q++r++t).set X.length K' =X++[K']++a++b++c++d++e++f++g++i++j++m++p++q++r++t:=by
 rw[eV,CE];simp
def Nl{o:Nat}{c:List AV}{mu tl:Bool}{x:AV}(hx:c[o]? =some x):dO none o (.cells c mu tl)=some (x,.ar):=by simp only[dO,hx]
def Nk{o n:Nat}{c:List AV}{mu tl:Bool}(hx:o+n<=c.length):dO (some n) o (.cells c mu tl)=some (.agg ((c.drop o).take n),.ar):=by simp only[dO];rw[aas hx]
def uO{n o b:Nat}{c l:List AV}{tl:Bool}(h1:l.length=n)(h2:l.all AV.one=true)(h3:o+n<=c.length):lH n o (.agg l) b (.cells c true tl)=some (az,.set b (.cells (fV c o l) true tl)):=by
 show(if l.length=n/\l.all AV.one=true/\o+n<=c.length then _ else none)=_;rw[aas ⟨h1,h2,h3⟩];rfl
def AV.mS{v:AV}(hv:v.one=true):v.cells=[v]:=by cases v<;>first|rfl|cases hv
def cg{o b:Nat}{c:List AV}{v:AV}{tl:Bool}(h2:v.one=true)(h3:o+1<=c.length):lH 1 o v b (.cells c true tl)=some (az,.set b (.cells (c.set o v) true tl)):=by
 simp only[lH,AV.mS h2];rw[aas ⟨rfl,by simp[h2],h3⟩];rfl
def CL{c:List AV}{o:Nat}:fV c o []=c:=rfl
def pU{c:List AV}{o:Nat}{x:AV}{xs:List AV}:fV c o (x::xs)=fV (c.set o x) (o+1) xs:=rfl
def Iw{z:List AV}:dX 0 z=[]:=rfl
def Ce{n:Nat}{z:List AV}:dX (n+1) z=z++dX n z:=rfl
def DS{c:List AV}:eT c []=some c:=rfl
def DR{c:List AV}{off:Nat}{v:AV}{r:List (Nat×Nat×AV)}(h2:v.one=true)(h3:off+1<=c.length):eT c ((off,1,v)::r)=eT (c.set off v) r:=by
 simp only[eT,AV.mS h2];rw[aas ⟨rfl,h3⟩];rfl
def DT{c l:List AV}{off n:Nat}{r:List (Nat×Nat×AV)}(h2:l.length=n)(h3:off+n<=c.length):eT c ((off,n,.agg l)::r)=eT (fV c off l) r:=by
 show(if l.length=n/\off+n<=c.length then eT (fV c off l) r else none)=_;rw[aas ⟨h2,h3⟩]
def ze{es n N:Nat}{c:List AV}(h1:c.all AV.one=true)(h2:c.length=n*es)(h3:1<=n):zf es n (some c) N=some (.slice N 0 n es,.push (.cells c true true)):=by
 have:Nat.beq n 0=false:=by cases n with|zero=>omega|succ n=>rfl
 simp only[zf];rw[aas ⟨h1,h2⟩,this];rfl
def N8{es N:Nat}:zf es 0 (some []) N=some (.slice N 0 0 es,.push (.cells [] true false)):=by
 simp only[zf];rw[aas ⟨rfl,Si⟩];rfl
def Jo{f:Nat×cZ->Nat×Nat×AV}:List.map f []=[]:=rfl
def Jn{f:Nat×cZ->Nat×Nat×AV}{a:Nat×cZ}{l:List (Nat×cZ)}:List.map f (a::l)=f a::l.map f:=rfl
def Jm{f:Nat×Nat×cZ->Nat×Nat×AV}:List.map f []=[]:=rfl
def Jl{f:Nat×Nat×cZ->Nat×Nat×AV}{a:Nat×Nat×cZ}{l:List (Nat×Nat×cZ)}:List.map f (a::l)=f a::l.map f:=rfl
def FZ{l:List AV}:l.drop 0=l:=rfl
def FY{a:AV}{l:List AV}{n:Nat}:(a::l).drop (n+1)=l.drop n:=rfl
def FX{l:List AV}:l.take 0=[]:=Si
def FW{a:AV}{l:List AV}{n:Nat}:(a::l).take (n+1)=a::l.take n:=rfl
def JE{a:AV}{l:List AV}:(a::l)[0]? =some a:=rfl
def JD{a:AV}{l:List AV}{n:Nat}:(a::l)[n+1]? =l[n]? :=rfl
abbrev aH(x:Int):List AV:=[.int .i64 x]
def cE{X:ah}(l:List Int):aI (X++[.cells (l.map (AV.int .i64)) true true]) (.slice X.length 0 l.length 1) 1 (l.map aH):=by
 have hf:(l.map aH).flatten=l.map (AV.int .i64):=by induction l with
  |nil=>rfl
  |cons x xs ih=>simp[aH]at ih ⊢;exact ih
 have h1:(l.map aH).length=l.length:=Si
 rw[<-h1];exact .mk (by simp;exact⟨rfl,rfl,rfl⟩) (by rw[hf,acu,h1,abH];exact aaV Si) Si (by simp[aH])
section
variable {h:ah}{s:AV}{es:Nat}{cs:List (List AV)}
def aI.Na(hs:aI h s es cs){k:ah}{i:Nat}(e:Ext h k)(hi:i<cs.length):ao (some es) (.ptr s.sb (s.so+i*es)) (λb=>k[b]?)=some (.agg cs[i],.ar):=(hs.ext e).load hi
def aI.Jr(hs:aI h s es cs){k:ah}{i off:Nat}(e:Ext h k)(hi:i<cs.length){x:AV}(hx:cs[i][off]? =some x):ao none (.ptr s.sb (s.so+i*es+off)) (λb=>k[b]?)=some (x,.ar):=(hs.ext e).DA hi hx
def aI.Js(hs:aI h s es cs){k:ah}{i:Nat}(e:Ext h k)(hi:i<cs.length){x:AV}(hx:cs[i][0]? =some x):ao none (.ptr s.sb (s.so+i*es)) (λb=>k[b]?)=some (x,.ar):=(hs.ext e).DA (off:=0) hi hx
end
def aX:=A4 (Hx @QH @PC @Qq @CI @QG @PB @Qp @zL @QF @PA @Qo @HJ @QE @Pz @Qn @HI @QD @Py @Qm @CD @QC @Px @Ql @HH) (Hx @QB @Pv @Qk @HG @QA @Pu @Qj @HF @Qz @Pt @Qi @HE @Qy @Ps @Qh @HD @Nh @Ms @M0 @CH @Ng @Mr @MZ @CG) (Hx @Nf @Mq @MY @CF @Nd @Mp @MX @CE @Nc @Mo @MW @IP @wo @Ey @IZ @Nl @Nk @uO @cg @CL @pU @Iw @Ce @DS) (B5 @DR @DT @ze @N8 @Jo @Jn @Jm @Jl @FZ @FY @FX @FW @JE @JD)
def tD:
  (∀{h:ah},Ext h (h)=True)/\
  (∀{h a:ah},Ext h (h++a)=True)/\
  (∀{h a b:ah},Ext h (h++a++b)=True)/\
  (∀{h a b c:ah},Ext h (h++a++b++c)=True)/\
  (∀{h a b c d:ah},Ext h (h++a++b++c++d)=True)/\
  (∀{h a b c d e:ah},Ext h (h++a++b++c++d++e)=True)/\
  (∀{h a b c d e f:ah},Ext h (h++a++b++c++d++e++f)=True)/\
  (∀{h a b c d e f g:ah},Ext h (h++a++b++c++d++e++f++g)=True)/\
  (∀{h a b c d e f g i:ah},Ext h (h++a++b++c++d++e++f++g++i)=True)/\
  (∀{h a b c d e f g i j:ah},Ext h (h++a++b++c++d++e++f++g++i++j)=True):=
 ⟨@Ii,@Ih,@Ig,@Ie,@Ic,@Ib,@Ia,@H9,@H8,@H7⟩
end Go.Abs
namespace Go.Abs
def SM:Option AV->Option (AV×ja)
 |some x=>some (x,.ar)
 |none=>none
def Ni{x}:SM (some x)=some (x,.ar):=rfl
def Nj{o c mu tl}:dO none o (.cells c mu tl)=SM c[o]? :=rfl
def cT(s:AV)(es i:Nat):AV:=.ptr s.sb (s.so+i*es)
def j9(s:AV)(es i off:Nat):AV:=.ptr s.sb (s.so+i*es+off)
def Gf{s es i off}:uA off (cT s es i)=some (j9 s es i off):=rfl
section
variable {α:Type}{row:α->List AV}{L:List α}{h k:ah}{s:AV}{es:Nat}
def aI.aK(hs:aI h s es (L.map row))(G:Nat->Option ak):Go.Abs.kg .sl G s=some L.length:=by
 rw[hs.kg G,aak]
def aI.dK(hs:aI h s es (L.map row)){i:Nat}{kk}(hi:i<L.length):aZ es s (.int kk (i:Int))=some (cT s es i,.ar):=by
 rw[hs.bw Om (by rw[aak];omega),Int.toNat_natCast];rfl
def aI.n7(hs:aI h s es (L.map row)){kk}(hi:0<L.length):aZ es s (.int kk 0)=some (cT s es 0,.ar):=hs.dK hi
def aI.lL(hs:aI h s es (L.map row)){i}(hi:i<L.length)(e:Ext h k):ao (some es) (cT s es i) (λb=>k[b]?)=some (.agg (row L[i]),.ar):=by
 rw[cT,hs.Na e (by rw[aak];exact hi),abn]
def aI.mi(hs:aI h s es (L.map row)){i off x}(hi:i<L.length)(hx:(row L[i])[off]? =some x)(e:Ext h k):ao none (j9 s es i off) (λb=>k[b]?)=some (x,.ar):=
 hs.Jr e (by rw[aak];exact hi) (by rw[abn];exact hx)
def aI.jS(hs:aI h s es (L.map row)){i x}(hi:i<L.length)(hx:(row L[i])[0]? =some x)(e:Ext h k):ao none (cT s es i) (λb=>k[b]?)=some (x,.ar):=
 hs.Js e (by rw[aak];exact hi) (by rw[abn];exact hx)
def aI.EG(hs:aI h s es (L.map row)){lo hi l u}(hb:jv lo hi L.length=some (l,u)):∃s',zH es s lo hi=some (s',.ar)/\aI h s' es (((L.drop l).take (u-l)).map row):=by
 obtain⟨s',h1,h2⟩:=hs.sl (lo:=lo) (hi:=hi) (by rw[aak];exact hb);exact⟨s',h1,by rw[acv,List.map_drop];exact h2⟩
end
def ju{n k:Nat}{kk}(hk:k<=n):jv none (some (.int kk (k:Int))) n=some (0,k):=by
 simp only[jv,Ju,HZ];rw[aas Om];simp
def lA{n k:Nat}{kk}(hk:k<=n):jv (some (.int kk (k:Int))) none n=some (k,n):=by
 simp only[jv,Ju,HZ];rw[aas Om];simp
def xB{c r k}:xC (.str (c::r)) (.int k 0)=some (.int .u8 c.toNat):=rfl
def jN{s i k}(hi:i<s.length):xC (.str s) (.int k (i:Nat))=some (.int .u8 s[i].toNat):=by
 simp[xC,hi]
def wrapN{n:Nat}(h:n+1<2^63):IntKind.i64.wrap ((n:Int)+1)=((n+1:Nat):Int):=by rw[aY Om Om];rfl
def lv:Option (AV×ja)->Option AV
 |some (v,_)=>some v
 |none=>none
def Qx{v e}:lv (some (v,e))=some v:=rfl
def c7{ts h a n}:dF ts h (a,some n)=lv (ao n (slot ts a) (λb=>h[b]?)):=by
 simp only[dF,dE,val,slot];cases ts.getD a az with
 |ptr b o=>
  simp only[ao];cases h[b]? with
  |none=>rfl
  |some k=>
   cases k with
   |cells c mu tl=>
    cases n with
    |none=>simp only;cases c[o]? <;>rfl
    |some n=>simp only;by_cases hc:o+n<=c.length
             ·rw[aas hc,aas hc];rfl
             ·rw[aao hc,aao hc];rfl
   |_=>rfl
 |_=>rfl
def Ct:Option AV->Option AV->Option AV
 |some a,some b=>some (.dQ [a,b])
 |_,_=>none
def uM:Option AV->Option AV->Option AV->Option AV
 |some a,some b,some c=>some (.dQ [a,b,c])
 |_,_,_=>none
def IK{a b}:Ct (some a) (some b)=some (.dQ [a,b]):=rfl
def IJ{a b c}:uM (some a) (some b) (some c)=some (.dQ [a,b,c]):=rfl
def AU{ts h r}:cU [r] ts h=dF ts h r:=by
 simp only[cU,jq];cases dF ts h r<;>rfl
def pV{ts h r s}:cU [r,s] ts h=Ct (dF ts h r) (dF ts h s):=by
 simp only[cU,jq];cases dF ts h r<;>cases dF ts h s<;>rfl
def iE{ts h r s t}:cU [r,s,t] ts h=uM (dF ts h r) (dF ts h s) (dF ts h t):=by
 simp only[cU,jq];cases dF ts h r<;>cases dF ts h s<;>cases dF ts h t<;>rfl
def c6{ts h a}:dF ts h (a,none)=some (slot ts a):=rfl
def C3:∀{ts}{h}{x}{nx},cU [(x,some nx)] ts h=lv (ao nx (slot ts x) (λb=>h[b]?)):=by
 intros;rw[AU];simp only[c7,c6]
def AX:∀{ts}{h}{x y}{ny},cU [(x,none),(y,some ny)] ts h=Ct (some (slot ts x)) (lv (ao ny (slot ts y) (λb=>h[b]?))):=by
 intros;rw[pV];simp only[c7,c6]
def AY:∀{ts}{h}{x y}{nx},cU [(x,some nx),(y,none)] ts h=Ct (lv (ao nx (slot ts x) (λb=>h[b]?))) (some (slot ts y)):=by
 intros;rw[pV];simp only[c7,c6]
def AZ:∀{ts}{h}{x y}{nx ny},cU [(x,some nx),(y,some ny)] ts h=Ct (lv (ao nx (slot ts x) (λb=>h[b]?))) (lv (ao ny (slot ts y) (λb=>h[b]?))):=by
 intros;rw[pV];simp only[c7,c6]
def yI:∀{ts}{h}{x y z}{nz},cU [(x,none),(y,none),(z,some nz)] ts h=uM (some (slot ts x)) (some (slot ts y)) (lv (ao nz (slot ts z) (λb=>h[b]?))):=by
 intros;rw[iE];simp only[c7,c6]
def yJ:∀{ts}{h}{x y z}{ny},cU [(x,none),(y,some ny),(z,none)] ts h=uM (some (slot ts x)) (lv (ao ny (slot ts y) (λb=>h[b]?))) (some (slot ts z)):=by
 intros;rw[iE];simp only[c7,c6]
def yK:∀{ts}{h}{x y z}{ny nz},cU [(x,none),(y,some ny),(z,some nz)] ts h=uM (some (slot ts x)) (lv (ao ny (slot ts y) (λb=>h[b]?))) (lv (ao nz (slot ts z) (λb=>h[b]?))):=by
 intros;rw[iE];simp only[c7,c6]
def yL:∀{ts}{h}{x y z}{nx},cU [(x,some nx),(y,none),(z,none)] ts h=uM (lv (ao nx (slot ts x) (λb=>h[b]?))) (some (slot ts y)) (some (slot ts z)):=by
 intros;rw[iE];simp only[c7,c6]
def yM:∀{ts}{h}{x y z}{nx nz},cU [(x,some nx),(y,none),(z,some nz)] ts h=uM (lv (ao nx (slot ts x) (λb=>h[b]?))) (some (slot ts y)) (lv (ao nz (slot ts z) (λb=>h[b]?))):=by
 intros;rw[iE];simp only[c7,c6]
def yN:∀{ts}{h}{x y z}{nx ny},cU [(x,some nx),(y,some ny),(z,none)] ts h=uM (lv (ao nx (slot ts x) (λb=>h[b]?))) (lv (ao ny (slot ts y) (λb=>h[b]?))) (some (slot ts z)):=by
 intros;rw[iE];simp only[c7,c6]
def yO:∀{ts}{h}{x y z}{nx ny nz},cU [(x,some nx),(y,some ny),(z,some nz)] ts h=uM (lv (ao nx (slot ts x) (λb=>h[b]?))) (lv (ao ny (slot ts y) (λb=>h[b]?))) (lv (ao nz (slot ts z) (λb=>h[b]?))):=by
 intros;rw[iE];simp only[c7,c6]
def JS{b}:vp false (some b)=some (.bool b):=rfl
def JR{b}:vp true (some b)=some (.bool !b):=rfl
def BS(b:Bool)(o:Option Bool):Option Bool:=
 match b with
 |true=>o
 |false=>some false
def Kp{b c}:BS b (some c)=some (b&&c):=by cases b<;>rfl
def N2{k a b ks xs ys}:dN (.i::ks) (.int k a::xs) (.int k b::ys)=BS (decide (a=b)) (dN ks xs ys):=by
 exact z105
def NZ{a b ks xs ys}:dN (.s::ks) (.str a::xs) (.str b::ys)=BS (decide (a=b)) (dN ks xs ys):=by
 exact z105
def N3{a b ks xs ys}:dN (.b::ks) (.bool a::xs) (.bool b::ys)=BS (a==b) (dN ks xs ys):=by
 cases a<;>cases b<;>rfl
def N1:dN [] [] []=some true:=rfl
def S2{ks xs ys}(h1:xs.length=ks.length)(h2:ys.length=ks.length):p9 (.agg ks) (.agg xs) (.agg ys)=dN ks xs ys:=by
 simp only[p9,An];rw[aas ⟨h1,h2⟩]
def N4{a b}:p9 (.one .b) (.bool a) (.bool b)=some (a==b):=rfl
def Gu{a:CK}{l:List CK}:(a::l).length=l.length+1:=rfl
def Gv:([] :List CK).length=0:=rfl
def Fr.lt{N h s es cs}(hs:Fr N h s es cs){b o n e}(hb:s=.slice b o n e):N<=b/\b<h.length:=by
 cases hs with
 |nil=>cases hb
 |mk hN h1 he=>cases hb;exact⟨hN,(aad.1 h1).1⟩
def Fr.swap{A B g s es cs}(hs:Fr A.length (A++g) s es cs)(hl:B.length=A.length):Fr A.length (B++g) s es cs:=by
 cases hs with
 |nil=>exact .nil
 | @mk _ _ _ tl hN h1 Ue=>
  refine .mk (tl:=tl) hN ?_ Ue;rw[aan Om]at h1 ⊢;rw[hl];exact h1
def WR.ga{P ro ks ts Q h s y es cs ys h0 w d l}
  (hs:Fr h0.length h s es cs) (hy:aI h y es ys) (hes:0<es) (hne:0<ys.length) (dV:(cs.length+ys.length)*w<=2^46) (he:Ext h0 h)
  (K:∀g,(h0++g).length=h.length+1->Fr h0.length (h0++g) (.slice h.length 0 (cs++ys).length es) es (cs++ys)->(∀b,b<h.length->(∀b0 o n e,s=.slice b0 o n e->b≠b0)->(h0++g)[b]? =h[b]?)->WP P ro l ks (put ts d (.slice h.length 0 (cs++ys).length es)) (h0++g) Q):
  WR P ro (qe es w s y (λb=>h[b]?) h.length) false d l ks ts h Q:=by
 have Vd:∀x∈cs++ys,x.length=es:=λx hx=>by
  exact z141
 have hk:¬ys.length=0:=Om
 simp only[qe,hy.fp];cases hs with
 |nil=>
  simp only[aal,aa4]at dV;simp only[aao hk,aas dV];rw[mX];have hx:=Fr.push (N:=h0.length) he.len ys hy.rows;obtain⟨g,rfl⟩:=he;have hK:=K (g++[.cells ys.flatten true true]) (by simp;omega);simp only[<-aae,abF]at hK;exact hK hx λb hb _=>aag hb
 | @mk b _ _ tl hN hb hre=>
  have hcl:=eS hre;cases tl with
  |false=>
   simp only[aaB,aao hk,aas dV,hb,aa4];rw[aas Om,mX,abH];have hx:=Fr.push (h:=h) (N:=h0.length) (es:=es) he.len (cs++ys) Vd;simp only[aac,abK]at hx ⊢;obtain⟨g,rfl⟩:=he;have hK:=K (g++[.cells (cs.flatten++ys.flatten) true true]) (by simp;omega);simp only[<-aae,aac,abK]at hK hx ⊢;exact hK hx λb hb _=>aag (by simpa using hb)
  |true=>
  simp only[aaB,aao hk,aas dV,hb,aa4];rw[aas Om,nY];have hbl:b<h.length:=(aad.1 hb).1;have hx:=Fr.push (h:=h.set b .dead) (N:=h0.length) (es:=es) (by simpa using he.len) (cs++ys) Vd;have hc:List.take (cs.length*es) (List.drop 0 cs.flatten)=cs.flatten:=by rw[abH,<-hcl,aaS]
  rw[hc];obtain⟨g,rfl⟩:=he;have aX:(h0++g).set b .dead++[ak.cells (cs.flatten++ys.flatten) true true]=h0++(g.set (b-h0.length) .dead++[ak.cells (cs.flatten++ys.flatten) true true]):=by
   rw[aa9 _ _ hN,aae]
  have hK:=K (g.set (b-h0.length) .dead++[.cells (cs.flatten++ys.flatten) true true]) (by simp;omega);rw[<-aX]at hK;simp only[aaY,abK,aac]at hx hK ⊢;refine hK hx ?_;intro i hi hne;have:=hne b 0 _ _ rfl;rw[aag (by simpa using hi),aau (abG this)]
def Dk{k n}:AV.one (.int k n)=true:=rfl
def MU{b}:AV.one (.bool b)=true:=rfl
def HO{b}:AV.one (.str b)=true:=rfl
def MQ{b o}:AV.one (.ptr b o)=true:=rfl
def MS{b o n e}:AV.one (.slice b o n e)=true:=rfl
def MR:AV.one .af=true:=rfl
def MT{f a c}:AV.one (.func f a c)=true:=rfl
def Ep{a l}:(a::l).all AV.one=(a.one&&l.all AV.one):=rfl
def Eo:([] :List AV).all AV.one=true:=rfl
def bO.o(n:Nat)(k:pN):bO:=⟨some n,k,none,false⟩
def bO.x(k:pN):bO:=⟨none,k,none,false⟩
def bO.m(n i:Nat):bO:=⟨some n,.cj (.t i),none,false⟩
def bO.y(n:Nat)(k:pN):bO:=⟨some n,k,none,true⟩
def bO.l(n i:Nat):bO:=⟨some n,.load none (.t i),none,false⟩
def bO.a(n o i:Nat):bO:=⟨some n,.bn o (.t i),none,false⟩
def bO.c(n f:Nat)(l:List cZ):bO:=⟨some n,.call (.f f) l,none,false⟩
def bO.b(n:Nat)(k:BinOp)(x y:cZ):bO:=⟨some n,.bin k x y,none,false⟩
def bO.e(n i j:Nat):bO:=⟨some n,.ext (.t i) j,none,false⟩
def bO.s(w i j:Nat):bO:=⟨none,.store w (.t i) (.t j),none,false⟩
def bO.r(n w i:Nat):bO:=⟨some n,.load (some w) (.t i),none,false⟩
def bO.p(n i:Nat):bO:=⟨some n,.box (.t i),none,false⟩
def bO.u(n:Nat)(k:BinOp)(i j:Nat):bO:=⟨some n,.bin k (.t i) (.t j),none,false⟩
def bO.h(n w i j:Nat):bO:=⟨some n,.bw w (.t i) (.t j),none,false⟩
def bO.d(n i j:Nat):bO:=⟨some n,.pick (.t i) (.t j) (.c (.bool false)),none,false⟩
def bO.f(n i j:Nat):bO:=⟨some n,.pick (.t i) (.c (.bool true)) (.t j),none,false⟩
def bO.n(n i:Nat):bO:=⟨some n,.len .sl (.t i),none,false⟩
def cZ.n(k:Int):cZ:=.c (.int .i64 k)
def ai.s(l:List bO)(b:ai):ai:=.seq (.ops l) b
def ai.r(l:List bO):ai:=.seq (.ops l) .ret
def bO.j(n i:Nat):bO:=⟨some n,.load none (.t i),none,true⟩
def bO.w(n i:Nat):bO:=⟨some n,.cj (.t i),none,true⟩
def bO.t(n c:Nat)(b:Bool)(i:Nat):bO:=⟨some n,.cj (.t i),some (c,b),false⟩
def bO.v(n:Nat)(k:BinOp)(i:Nat)(y:cZ):bO:=⟨some n,.bin k (.t i) y,none,false⟩
def cZ.T:cZ:=.c (.bool true)
def cZ.F:cZ:=.c (.bool false)
def ai.j(n:Nat)(l:List bO):ai:=.cond (.t n) (.seq (.ops l) .ret) .skip
def ai.i(n:Nat)(a b:ai):ai:=.cond (.t n) a b
def bO.g(n c:Nat)(b:Bool)(k:pN):bO:=⟨some n,k,some (c,b),false⟩
def cZ.z:cZ:=.c (.int .i64 0)
def cZ.w:cZ:=.c (.int .i64 1)
def Rr:∀{n i},bO.m n i=⟨some n,.cj (.t i),none,false⟩:=rfl
def Rq:∀{n c}{b}{k},bO.g n c b k=⟨some n,k,some (c,b),false⟩:=rfl
def Rp:∀{n}{k},bO.o n k=⟨some n,k,none,false⟩:=rfl
def Ro:∀{k},bO.x k=⟨none,k,none,false⟩:=rfl
def Rn:(cZ.z=.c (.int .i64 0)):=rfl
def Rm:(cZ.w=.c (.int .i64 1)):=rfl
def Re:∀{n}{k},bO.y n k=⟨some n,k,none,true⟩:=rfl
def Rg:∀{n i},bO.l n i=⟨some n,.load none (.t i),none,false⟩:=rfl
def Rl:∀{n o i},bO.a n o i=⟨some n,.bn o (.t i),none,false⟩:=rfl
def Rj:∀{n f}{l},bO.c n f l=⟨some n,.call (.f f) l,none,false⟩:=rfl
def Rk:∀{n}{k}{x y},bO.b n k x y=⟨some n,.bin k x y,none,false⟩:=rfl
def Ri:∀{n i j},bO.e n i j=⟨some n,.ext (.t i) j,none,false⟩:=rfl
def Rc:∀{w i j},bO.s w i j=⟨none,.store w (.t i) (.t j),none,false⟩:=rfl
def Rd:∀{n w i},bO.r n w i=⟨some n,.load (some w) (.t i),none,false⟩:=rfl
def Rf:∀{n i},bO.p n i=⟨some n,.box (.t i),none,false⟩:=rfl
def Rb:∀{n}{k}{i j},bO.u n k i j=⟨some n,.bin k (.t i) (.t j),none,false⟩:=rfl
def Rh:∀{n}{a b},ai.i n a b=.cond (.t n) a b:=rfl
def J0:∀{n w i j:Nat},bO.h n w i j=⟨some n,.bw w (.t i) (.t j),none,false⟩:=rfl
def J2:∀{n i j:Nat},bO.d n i j=⟨some n,.pick (.t i) (.t j) (.c (.bool false)),none,false⟩:=rfl
def J1:∀{n i j:Nat},bO.f n i j=⟨some n,.pick (.t i) (.c (.bool true)) (.t j),none,false⟩:=rfl
def JZ:∀{n i:Nat},bO.n n i=⟨some n,.len .sl (.t i),none,false⟩:=rfl
def JY:∀{k:Int},cZ.n k=.c (.int .i64 k):=rfl
def J3:∀{l:List bO}{b:ai},ai.s l b=.seq (.ops l) b:=rfl
def J4:∀{l:List bO},ai.r l=.seq (.ops l) .ret:=rfl
def J5:∀{n:Nat}{l:List bO},ai.j n l=.cond (.t n) (.seq (.ops l) .ret) .skip:=rfl
def JX:∀{n i:Nat},bO.j n i=⟨some n,.load none (.t i),none,true⟩:=rfl
def JU:∀{n i:Nat},bO.w n i=⟨some n,.cj (.t i),none,true⟩:=rfl
def JW:∀{n c:Nat}{b:Bool}{i:Nat},bO.t n c b i=⟨some n,.cj (.t i),some (c,b),false⟩:=rfl
def JV:∀{n:Nat}{k:BinOp}{i:Nat}{y:cZ},bO.v n k i y=⟨some n,.bin k (.t i) y,none,false⟩:=rfl
def Q9:cZ.T=.c (.bool true):=rfl
def Ra:cZ.F=.c (.bool false):=rfl
def uset:=A8 @Q9 @Ra @JX @JU @JW @JV @J5 (Hx @J0 @J2 @J1 @JZ @JY @J3 @J4 @Re @Rg @Rl @Rj @Rk @Ri @Rc @Rd @Rf @Rb @Rh @Rr @Rq @Rp @Ro @Rn @Rm)
def bz:=A3 uset (Iu @aa4 @Ni @Nj @Qx @IK @IJ @C3 @AX @AY @AZ @yI @yJ @yK @yL @yM @yN @yO @JS) (OW @JR @Kp @N2 @NZ @N3 @N1 @S2 @N4 @Gu @Gv @Gf @Dk @MU @HO @MQ @MS @MR @MT @Ep @Eo @abD @Gy)
def NA(o:Option AV)(X:Prop):Prop:=
 match o with
 |some _=>X
 |none=>False
def bA:
  (∀{P}{ro}{ks}{ts}{h}{Q}{q}{l}{n i}{x},WP P ro ({dst:=some i,k:=.pt n x,gd:=none,q:=q} ::l) ks ts h Q=NA ts[i]? (WR P ro (pr n (val ts x) h.length) q (some i) l ks ts h Q))/\
  (∀{a:AV}{X:Prop},NA (some a) X=X)/\
  (∀{k:IntKind}{z:Int}{N:Nat},pr 1 (.int k z) N=some (.ptr N 0,.push (.cells [.int k z] true false)))/\
  (∀{b:Bool}{N:Nat},pr 1 (.bool b) N=some (.ptr N 0,.push (.cells [.bool b] true false)))/\
  (∀{b:By}{N:Nat},pr 1 (.str b) N=some (.ptr N 0,.push (.cells [.str b] true false)))/\
  (∀{N:Nat},na .af N=some (.ptr N 0,.push (.cells [.af] true false)))/\
  (∀{v:AV}{N:Nat}(_:v.one=true),na v N=some (.ptr N 0,.push (.cells [v] true false)))/\
  (∀{v:AV}{N:Nat}(_:v.one=true),pr 1 v N=some (.ptr N 0,.push (.cells [v] true false)))/\
  (∀{l:List AV}{n N:Nat}(_:l.all AV.one=true) (_:l.length=n),pr n (.agg l) N=some (.ptr N 0,.push (.cells l true false))):=by
 refine⟨?_,rfl,rfl,rfl,rfl,rfl,?_,?_,?_⟩
 ·intro P ro ks ts h Q q l n i x;rw[Hj];by_cases hi:i<ts.length
  ·rw[aai hi];simp[NA,hi]
  ·rw[abZ Om];simp[NA,hi]
 ·intro v N h;simp only[na,AV.mS h];rw[aas (by simp[h])]
 ·intro v N h;simp only[pr,AV.mS h];rw[aas ⟨by simp[h],rfl⟩]
 ·intro l n N h1 h2;unfold pr;exact aas ⟨h1,h2⟩
set_option maxRecDepth 100000
set_option maxHeartbeats 0
def iN(n:Nat):Int.ofNat (no_index (OfNat.ofNat n))=OfNat.ofNat n:=rfl
def iM:Int.negSucc 0= -1:=rfl
def iB(n:Nat)(h:OfNat.ofNat n<2^8):UInt8.ofBitVec (BitVec.ofFin (Fin.mk (no_index (OfNat.ofNat n)) h))=OfNat.ofNat n:=by
 refine acF.1 ?_;show n=n%256;have:n<2^8:=h;omega
def gA(n:Nat){A:au}(_:bU Go.Proofs.Tryz.prog n=some A:=by conv=>lhs;reduce;try simp only[iN,iM,iB]):au:=A
def fn2:au:=gA 2
def fn3:au:=gA 3
def fn4:au:=gA 4
def fn10:au:=⟨279,2,[(4,none)],(.s [.p 3 1,.o 4 (.cj .F)] (.seq (.s [.m 42 0,.c 43 33 [.t 42,.n 20],.o 44 (.un .not (.t 43)),.m 45 44,.t 46 45 false 0,.g 47 45 false (.len .sl (.t 46)),.g 48 45 false (.bin .eql (.t 47) .z),.f 49 45 48] (.j 49 [.c 50 15 [],.m 4 50])) (.s [.o 5 (.cj (.c (.str [])))] (.s [.o 6 (.cj (.c .af))] (.seq (.s [.m 51 0,.n 52 51,.o 53 (.cj .z)] (.block 0 (.loop (.s [.u 54 .lss 53 52] (.seq (.i 54 .skip (.exit 0)) (.seq (.block 1 (.s [.h 55 5 51 53,.r 56 5 55,.o 8 (.box (.c (.agg [.int .i64 0,.str [],.af,.af,.str []]))),.s 5 8 56] (.s [.m 58 5,.r 59 5 8,.c 60 36 [.t 58,.t 59],.m 57 60,.e 61 57 0,.e 62 57 1,.m 9 61,.m 10 62] (.seq (.s [.m 63 10,.v 64 .neq 63 .z,.m 65 64,.t 66 65 false 9,.g 67 65 false (.len .st (.t 66)),.t 68 65 false 5,.g 69 65 false (.len .st (.t 68)),.g 70 65 false (.bin .leq (.t 67) (.t 69)),.f 71 65 70] (.j 71 [.o 4 (.cj .F)])) (.s [.m 72 9,.m 5 72] (.ops [.m 73 6,.m 74 5,.o 75 (.len .st (.t 74)),.o 76 (.a8 1 1 [.int .i64 0] [(0,.t 75)]),.o 77 (.app 1 8 (.t 73) (.t 76)),.m 6 77])))))) (.ops [.v 78 .add 53 .w,.m 53 78]))))))) (.s [.o 79 (.pe 3 1 (.t 3) .z),.l 80 79,.o 81 (.conv (.F9 .i64) (.t 80)),.m 82 5,.o 83 (.len .st (.t 82)),.v 84 .add 83 .w,.u 85 .rem 81 84,.m 11 85] (.s [.o 12 (.cj .z)] (.seq (.s [.m 86 6,.n 87 86,.o 88 (.cj .z)] (.block 2 (.loop (.s [.u 89 .lss 88 87] (.seq (.i 89 .skip (.exit 2)) (.seq (.block 3 (.s [.h 90 1 86 88,.l 91 90,.m 14 91] (.s [.m 92 14,.m 93 11,.u 94 .leq 92 93] (.i 94 (.ops [.m 95 12,.v 96 .add 95 .w,.m 12 96]) .skip)))) (.ops [.v 97 .add 88 .w,.m 88 97]))))))) (.s [.m 99 5,.m 100 11,.o 101 (.B7 (.t 99) none (some (.t 100))),.c 102 37 [.t 101],.m 98 102,.e 103 98 0,.e 104 98 1,.e 105 98 2,.m 15 103,.m 16 104,.m 17 105] (.s [.m 107 5,.m 108 11,.o 109 (.B7 (.t 107) none (some (.t 108))),.c 110 41 [.t 109],.m 106 110,.e 111 106 0,.e 112 106 1,.m 18 111,.m 19 112] (.s [.m 114 5,.c 115 41 [.t 114],.m 113 115,.e 116 113 0,.e 117 113 1,.m 20 116,.m 21 117] (.seq (.s [.m 118 17,.v 119 .neq 118 .z,.m 120 119,.t 121 120 true 17,.g 122 120 true (.bin .neq (.t 121) (.n 28)),.d 123 120 122,.m 124 123,.t 125 124 false 15,.t 126 124 false 0,.t 127 124 false 12,.g 128 124 false (.sl 5 (.t 126) none (some (.t 127))),.g 129 124 false (.call (.f 32) [.t 125,.t 128]),.g 130 124 false (.un .not (.t 129)),.f 131 124 130,.m 132 131,.t 133 132 false 19,.g 134 132 false (.bin .neq (.t 133) .z),.f 135 132 134,.m 136 135,.t 137 136 false 21,.g 138 136 false (.bin .neq (.t 137) .z),.f 139 136 138,.m 140 139,.t 141 140 false 18,.g 142 140 false (.eqv false .Bl (.t 141) (.c .nilPtr)),.f 143 140 142,.m 144 143,.t 145 144 false 20,.g 146 144 false (.eqv false .Bl (.t 145) (.c .nilPtr)),.f 147 144 146] (.j 147 [.o 4 (.cj .F)])) (.seq (.s [.m 148 0,.m 149 12,.o 150 (.sl 5 (.t 148) (some (.t 149)) none),.n 151 150,.o 152 (.cj .z)] (.block 4 (.loop (.s [.u 153 .lss 152 151] (.seq (.i 153 .skip (.exit 4)) (.seq (.block 5 (.s [.h 154 5 150 152,.r 155 5 154,.o 23 (.box (.c (.agg [.int .i64 0,.str [],.af,.af,.str []]))),.s 5 23 155] (.s [.m 157 18,.r 158 5 23,.c 159 63 [.t 158],.c 160 43 [.t 157,.t 159],.m 156 160,.e 161 156 0,.e 162 156 1,.m 24 161,.m 25 162] (.s [.m 163 25,.v 164 .neq 163 .z] (.j 164 [.o 4 (.cj .F)]))))) (.ops [.v 165 .add 152 .w,.m 152 165]))))))) (.seq (.s [.o 166 (.call (.f 64) [(.c (.str [117,110,115,97,102,101,44,114,101,108,101,97,115,101,100,44,108,101,102,116,32,106,49,44,102,114,111,109,32,112,49,44,108,105,110,101,115,32,109,49,44,116,97,112,101,115,32,115,49,44,119,97,110,116,32,108,49])),(.c (.str [44]))]),.n 167 166,.o 168 (.cj .z)] (.block 6 (.loop (.s [.u 169 .lss 168 167] (.seq (.i 169 .skip (.exit 6)) (.seq (.block 7 (.s [.h 170 1 166 168,.l 171 170,.m 27 171] (.s [.m 173 18,.m 174 27,.c 175 43 [.t 173,.t 174],.m 172 175,.e 176 172 0,.e 177 172 1,.m 28 176,.m 29 177] (.s [.m 179 20,.m 180 27,.c 181 43 [.t 179,.t 180],.m 178 181,.e 182 178 0,.e 183 178 1,.m 30 182,.m 31 183] (.s [.m 184 29,.m 185 31,.u 186 .neq 184 185,.m 187 186,.t 188 187 false 28,.t 189 187 false 30,.g 190 187 false (.bin .neq (.t 188) (.t 189)),.f 191 187 190] (.j 191 [.o 4 (.cj .F)])))))) (.ops [.v 192 .add 168 .w,.m 168 192]))))))) (.seq (.s [.m 193 18,.c 194 45 [.t 193],.m 195 5,.u 196 .neq 194 195] (.j 196 [.o 4 (.cj .F)])) (.s [.o 197 (.pe 3 1 (.t 3) .w),.l 198 197,.o 199 (.conv (.F9 .i64) (.t 198)),.m 200 5,.o 201 (.len .st (.t 200)),.u 202 .rem 199 201,.m 32 202] (.s [.o 203 (.pe 3 1 (.t 3) (.n 2)),.l 204 203,.v 205 .rem 204 (.c (.int .u16 200)),.b 206 .add (.c (.int .u16 32)) (.t 205),.o 207 (.conv (.F9 .u8) (.t 206)),.m 33 207] (.seq (.s [.m 208 5,.m 209 32,.o 210 (.Ca (.t 208) (.t 209)),.v 211 .neq 210 (.c (.int .u8 10)),.m 212 211,.t 213 212 true 33,.t 214 212 true 5,.t 215 212 true 32,.g 216 212 true (.Ca (.t 214) (.t 215)),.g 217 212 true (.bin .neq (.t 213) (.t 216)),.d 218 212 217] (.i 218 (.s [.w 220 5,.w 221 32,.y 222 (.B7 (.t 220) none (some (.t 221))),.w 223 33,.y 224 (.a8 1 1 [.int .u8 0] [(0,.t 223)]),.y 225 (.conv .Ob (.t 224)),.y 226 (.bin .add (.t 222) (.t 225)),.w 227 5,.w 228 32,.y 229 (.bin .add (.t 228) .w),.y 230 (.B7 (.t 227) (some (.t 229)) none),.u 231 .add 226 230,.c 232 37 [.t 231],.m 219 232,.y 233 (.ext (.t 219) 0),.y 234 (.ext (.t 219) 1),.y 235 (.ext (.t 219) 2),.w 34 233,.w 35 234,.m 36 235] (.s [.m 236 36,.v 237 .eql 236 .z,.m 238 237,.t 239 238 false 35,.t 240 238 false 5,.g 241 238 false (.len .st (.t 240)),.g 242 238 false (.bin .eql (.t 239) (.t 241)),.f 243 238 242] (.j 243 [.o 4 (.cj .F)]))) .skip)) (.seq (.s [.m 244 0,.n 245 244,.v 246 .gtr 245 .w] (.i 246 (.s [.o 247 (.pe 3 1 (.t 3) (.n 2)),.l 248 247,.o 249 (.conv (.F9 .i64) (.t 248)),.m 250 0,.n 251 250,.v 252 .sub 251 .w,.u 253 .rem 249 252,.m 37 253] (.s [.o 38 (.cj .z)] (.seq (.s [.m 254 37,.v 255 .gtr 254 .z] (.i 255 (.ops [.m 256 6,.m 257 37,.v 258 .sub 257 .w,.h 259 1 256 258,.l 260 259,.m 38 260]) .skip)) (.s [.w 262 5,.w 263 38,.y 264 (.B7 (.t 262) none (some (.t 263))),.w 265 5,.w 266 6,.w 267 37,.y 268 (.bw 1 (.t 266) (.t 267)),.j 269 268,.y 270 (.B7 (.t 265) (some (.t 269)) none),.u 271 .add 264 270,.c 272 37 [.t 271],.m 261 272,.y 273 (.ext (.t 261) 0),.y 274 (.ext (.t 261) 1),.y 275 (.ext (.t 261) 2),.w 39 273,.w 40 274,.m 41 275] (.s [.m 276 41,.v 277 .neq 276 (.n 11)] (.j 277 [.o 4 (.cj .F)])))))) .skip)) (.r [.c 278 15 [],.m 4 278]))))))))))))))))))))⟩
def fn14:au:=gA 14
def fn15:au:=gA 15
def fn16:au:=gA 16
def fn17:au:=gA 17
def fn18:au:=gA 18
def fn19:au:=gA 19
def fn20:au:=gA 20
def wh(x0 x1:Nat):au:=⟨22,2,[(4,none)],(.s [.p 2 0,.o 4 (.cj .z)] (.seq (.s [.o 5 (.cj .z)] (.block 0 (.loop (.seq (.s [.m 6 5,.a 7 x0 2,.l 8 7,.n 9 8,.u 10 .lss 6 9] (.i 10 .skip (.exit 0))) (.seq (.block 1 (.s [.a 13 x0 2,.l 14 13,.m 15 5,.h 16 x1 14 15,.a 17 0 16,.l 18 17,.m 19 1,.u 20 .eql 18 19] (.j 20 [.m 21 5,.m 4 21]))) (.ops [.m 11 5,.v 12 .add 11 .w,.m 5 12])))))) (.r [.o 4 (.cj (.n (-1)))])))⟩
def fn22:au:=wh 3 3
def fn23:au:=gA 23
def fn25:au:=gA 25
def fn26:au:=gA 26
def fn27:au:=gA 27
def fn28:au:=wh 1 3
def fn31:au:=gA 31
def fn32:au:=⟨82,2,[(4,none)],(.s [.o 4 (.cj .F)] (.seq (.s [.m 6 0,.n 7 6,.m 8 1,.n 9 8,.u 10 .neq 7 9] (.j 10 [.o 4 (.cj .F)])) (.seq (.s [.o 5 (.cj .z)] (.block 0 (.loop (.seq (.s [.m 11 5,.m 12 0,.n 13 12,.u 14 .lss 11 13] (.i 14 .skip (.exit 0))) (.seq (.block 1 (.s [.w 17 0,.w 18 5,.y 19 (.bw 5 (.t 17) (.t 18)),.y 20 (.bn 0 (.t 19)),.j 21 20,.w 22 1,.w 23 5,.y 24 (.bw 5 (.t 22) (.t 23)),.y 25 (.bn 0 (.t 24)),.j 26 25,.u 27 .neq 21 26,.m 28 27,⟨(some 29),.cj (.t 0),(some (28,false)),true⟩,⟨(some 30),.cj (.t 5),(some (28,false)),true⟩,⟨(some 31),.bw 5 (.t 29) (.t 30),(some (28,false)),true⟩,⟨(some 32),.bn 1 (.t 31),(some (28,false)),true⟩,⟨(some 33),.load none (.t 32),(some (28,false)),true⟩,⟨(some 34),.cj (.t 1),(some (28,false)),true⟩,⟨(some 35),.cj (.t 5),(some (28,false)),true⟩,⟨(some 36),.bw 5 (.t 34) (.t 35),(some (28,false)),true⟩,⟨(some 37),.bn 1 (.t 36),(some (28,false)),true⟩,⟨(some 38),.load none (.t 37),(some (28,false)),true⟩,.g 39 28 false (.bin .neq (.t 33) (.t 38)),.f 40 28 39,.m 41 40,⟨(some 42),.cj (.t 0),(some (41,false)),true⟩,⟨(some 43),.cj (.t 5),(some (41,false)),true⟩,⟨(some 44),.bw 5 (.t 42) (.t 43),(some (41,false)),true⟩,⟨(some 45),.bn 2 (.t 44),(some (41,false)),true⟩,⟨(some 46),.load none (.t 45),(some (41,false)),true⟩,⟨(some 47),.cj (.t 1),(some (41,false)),true⟩,⟨(some 48),.cj (.t 5),(some (41,false)),true⟩,⟨(some 49),.bw 5 (.t 47) (.t 48),(some (41,false)),true⟩,⟨(some 50),.bn 2 (.t 49),(some (41,false)),true⟩,⟨(some 51),.load none (.t 50),(some (41,false)),true⟩,.g 52 41 false (.call (.f 25) [.t 46,.t 51]),.g 53 41 false (.un .not (.t 52)),.f 54 41 53,.m 55 54,⟨(some 56),.cj (.t 0),(some (55,false)),true⟩,⟨(some 57),.cj (.t 5),(some (55,false)),true⟩,⟨(some 58),.bw 5 (.t 56) (.t 57),(some (55,false)),true⟩,⟨(some 59),.bn 3 (.t 58),(some (55,false)),true⟩,⟨(some 60),.load none (.t 59),(some (55,false)),true⟩,⟨(some 61),.cj (.t 1),(some (55,false)),true⟩,⟨(some 62),.cj (.t 5),(some (55,false)),true⟩,⟨(some 63),.bw 5 (.t 61) (.t 62),(some (55,false)),true⟩,⟨(some 64),.bn 3 (.t 63),(some (55,false)),true⟩,⟨(some 65),.load none (.t 64),(some (55,false)),true⟩,.g 66 55 false (.call (.f 62) [.t 60,.t 65]),.g 67 55 false (.un .not (.t 66)),.f 68 55 67,.m 69 68,⟨(some 70),.cj (.t 0),(some (69,false)),true⟩,⟨(some 71),.cj (.t 5),(some (69,false)),true⟩,⟨(some 72),.bw 5 (.t 70) (.t 71),(some (69,false)),true⟩,⟨(some 73),.bn 4 (.t 72),(some (69,false)),true⟩,⟨(some 74),.load none (.t 73),(some (69,false)),true⟩,⟨(some 75),.cj (.t 1),(some (69,false)),true⟩,⟨(some 76),.cj (.t 5),(some (69,false)),true⟩,⟨(some 77),.bw 5 (.t 75) (.t 76),(some (69,false)),true⟩,⟨(some 78),.bn 4 (.t 77),(some (69,false)),true⟩,⟨(some 79),.load none (.t 78),(some (69,false)),true⟩,.g 80 69 false (.bin .neq (.t 74) (.t 79)),.f 81 69 80] (.j 81 [.o 4 (.cj .F)]))) (.ops [.m 15 5,.v 16 .add 15 .w,.m 5 16])))))) (.r [.o 4 (.cj .T)]))))⟩
def fn33:au:=gA 33
def fn35:au:=gA 35
def fn36:au:=gA 36
def fn37:au:=gA 37
def fn39:au:=gA 39
def fn41:au:=gA 41
def fn43:au:=⟨97,2,[(4,none),(5,none)],(.s [.o 4 (.cj (.c (.str []))),.o 5 (.cj .z)] (.seq (.s [.m 16 0,.o 17 (.eqv false .Bl (.t 16) (.c .nilPtr))] (.j 17 [.o 4 (.cj (.c (.str []))),.o 5 (.cj (.n 22))])) (.seq (.s [.m 18 1,.o 19 (.len .st (.t 18)),.v 20 .gtr 19 (.n 4096),.c 21 85 [.t 20,.n 26],.m 22 1,.v 23 .eql 22 (.c (.str [])),.c 24 85 [.t 23,.n 25],.o 25 (.a8 1 2 [.int .i64 0] [(0,.t 21),(1,.t 24)]),.c 26 74 [.t 25],.m 6 26] (.s [.m 27 6,.v 28 .neq 27 .z] (.j 28 [.m 29 6,.o 4 (.cj (.c (.str []))),.m 5 29]))) (.s [.m 30 1,.o 31 (.call (.f 64) [.t 30,(.c (.str [32]))]),.m 7 31] (.seq (.s [.y 33 (.call (.f 109) []),.w 34 7,.y 35 (.bw 1 (.t 34) .z),.j 36 35,.y 37 (.look .s (.agg [.bool false,.int .i64 0,.nilFunc]) true (.t 33) (.t 36)),.w 32 37,.y 38 (.ext (.t 32) 0),.y 39 (.ext (.t 32) 1),⟨none,.cj .F,none,true⟩,.y 8 (.pt 3 (.t 38)),.m 9 39] (.s [.m 40 9] (.j 40 [.m 41 0,.m 42 7,.c 43 110 [.t 41,.t 42],.e 44 43 0,.e 45 43 1,.m 4 44,.m 5 45]))) (.seq (.s [.y 47 (.call (.f 90) []),.w 48 7,.y 49 (.bw 1 (.t 48) .z),.j 50 49,.y 51 (.look .s (.agg [.af,.int .i64 0,.nilFunc,.nilFunc,.nilFunc]) true (.t 47) (.t 50)),.w 46 51,.y 52 (.ext (.t 46) 0),.y 53 (.ext (.t 46) 1),⟨none,.cj .F,none,true⟩,.y 10 (.pt 5 (.t 52)),.m 11 53] (.s [.m 54 11,.o 55 (.un .not (.t 54))] (.j 55 [.o 4 (.cj (.c (.str []))),.o 5 (.cj (.n 13))]))) (.s [.m 57 7,.c 58 111 [.t 57],.m 56 58,.e 59 56 0,.e 60 56 1,.o 12 (.box (.c (.agg [.int .i64 0,.str [],.af,.af,.str []]))),.s 5 12 59,.m 13 60] (.seq (.s [.w 61 13,.y 62 (.un .not (.t 61)),.y 63 (.call (.f 85) [.t 62,.n 25]),.w 64 0,.y 65 (.bT (.t 64)),.y 66 (.bn 0 (.t 65)),.y 67 (.bn 0 (.t 66)),.j 68 67,.y 69 (.len .sl (.t 68)),.y 70 (.bin .geq (.t 69) (.n 1000)),.c 71 85 [.t 70,.n 5],.o 72 (.a8 1 2 [.int .i64 0] [(0,.t 63),(1,.t 71)]),.c 73 74 [.t 72],.m 14 73] (.s [.m 74 14,.v 75 .neq 74 .z] (.j 75 [.m 76 14,.o 4 (.cj (.c (.str []))),.m 5 76]))) (.s [.m 77 0,.o 78 (.bT (.t 77)),.a 79 0 78,.a 80 0 79,.l 81 80,.n 82 81,.v 83 .add 82 .w,.a 84 0 12,.s 1 84 83] (.seq (.s [.w 85 0,.y 86 (.bT (.t 85)),.y 87 (.bn 0 (.t 86)),.y 88 (.load (some 5) (.t 12)),.c 89 112 [.t 87,.t 88],.m 15 89] (.s [.m 90 15,.v 91 .neq 90 .z] (.j 91 [.m 92 15,.o 4 (.cj (.c (.str []))),.m 5 92]))) (.r [.a 93 0 12,.l 94 93,.c 95 113 [.t 94],.b 96 .add (.c (.str [100,111,110,101,32])) (.t 95),.m 4 96,.o 5 (.cj .z)])))))))))))⟩
def fn44:au:=gA 44
def fn45:au:=gA 45
def fn51:au:=gA 51
def fn55:au:=wh 4 4
def fn56:au:=wh 5 3
def fn57:au:=wh 6 4
def fn58:au:=gA 58
def fn59:au:=gA 59
def fn60:au:=gA 60
def fn62:au:=gA 62
def fn63:au:=gA 63
def fn64:au:=gA 64
def fn67:au:=gA 67
def fn70:au:=gA 70
def fn71:au:=gA 71
def fn72:au:=gA 72
def fn73:au:=gA 73
def fn74:au:=gA 74
def fn75:au:=gA 75
def fn76:au:=gA 76
def fn77:au:=gA 77
def fn78:au:=gA 78
def fn79:au:=gA 79
def fn80:au:=gA 80
def fn81:au:=⟨110,1,[(2,none),(3,some (some 7)),(4,none),(5,none)],(.s [.o 2 (.cj (.c .af)),.o 3 (.box (.c (.agg [.int .i64 0,.af,.af,.af,.af,.af,.af]))),.o 4 (.cj .z),.o 5 (.cj .z)] (.seq (.s [.m 12 0,.n 13 12,.v 14 .gtr 13 (.n 1000)] (.j 14 [.o 15 (.build [.int .i64 0,.af,.af,.af,.af,.af,.af] []),.o 2 (.cj (.c .af)),.s 7 3 15,.o 4 (.cj .z),.o 5 (.cj (.n 5))])) (.s [.o 6 (.cj (.c .af))] (.s [.o 16 (.build [.int .i64 0,.af,.af,.af,.af,.af,.af] []),.o 17 (.a8 7 1 [.int .i64 0,.af,.af,.af,.af,.af,.af] [(0,.t 16)]),.m 7 17] (.seq (.s [.o 8 (.cj .z)] (.block 0 (.loop (.seq (.s [.m 18 8,.m 19 0,.n 20 19,.u 21 .lss 18 20] (.i 21 .skip (.exit 0))) (.seq (.block 1 (.s [.m 24 0,.m 25 8,.h 26 5 24 25,.r 27 5 26,.c 28 39 [.t 27],.m 29 6,.n 30 29,.m 9 28,.m 10 30] (.seq (.s [.m 31 9,.v 32 .eql 31 .z,.m 33 32,.t 34 33 true 0,.t 35 33 true 8,.g 36 33 true (.bw 5 (.t 34) (.t 35)),.g 37 33 true (.bn 0 (.t 36)),.g 38 33 true (.load none (.t 37)),.t 39 33 true 8,.g 40 33 true (.bin .add (.t 39) .w),.g 41 33 true (.bin .neq (.t 38) (.t 40)),.d 42 33 41] (.i 42 (.ops [.o 9 (.cj (.n 11))]) .skip)) (.seq (.s [.m 43 9,.v 44 .eql 43 .z,.m 45 44,.t 46 45 true 0,.t 47 45 true 8,.g 48 45 true (.bw 5 (.t 46) (.t 47)),.g 49 45 true (.bn 1 (.t 48)),.g 50 45 true (.load none (.t 49)),.g 51 45 true (.bin .eql (.t 50) (.c (.str [117,110,100,111]))),.d 52 45 51] (.i 52 (.s [.m 53 10,.v 54 .eql 53 .z] (.i 54 (.ops [.o 9 (.cj (.n 12))]) (.s [.m 55 6,.m 56 10,.v 57 .sub 56 .w,.h 58 5 55 57,.a 59 1 58,.l 60 59,.v 61 .eql 60 (.c (.str [114,101,108,101,97,115,101]))] (.i 61 (.ops [.o 9 (.cj (.n 21))]) (.s [.w 62 6,.w 63 10,.y 64 (.bin .sub (.t 63) .w),.y 65 (.sl 5 (.t 62) none (some (.t 64))),.w 66 7,.w 67 10,.y 68 (.sl 7 (.t 66) none (some (.t 67))),.w 6 65,.m 7 68] (.exit 1)))))) .skip)) (.s [.o 11 (.box (.c (.agg [.int .i64 0,.af,.af,.af,.af,.af,.af])))] (.seq (.s [.m 69 9,.v 70 .eql 69 .z] (.i 70 (.ops [.m 72 7,.m 73 10,.h 74 7 72 73,.r 75 7 74,.m 76 0,.m 77 8,.h 78 5 76 77,.r 79 5 78,.c 80 129 [.t 75,.t 79],.m 71 80,.e 81 71 0,.e 82 71 1,.s 7 11 81,.m 9 82]) .skip)) (.seq (.s [.m 83 9,.v 84 .neq 83 .z] (.j 84 [.o 85 (.build [.int .i64 0,.af,.af,.af,.af,.af,.af] []),.m 86 8,.v 87 .add 86 .w,.m 88 9,.o 2 (.cj (.c .af)),.s 7 3 85,.m 4 87,.m 5 88])) (.s [.y 89 (.a8 5 0 [.int .i64 0,.str [],.af,.af,.str []] []),.w 90 6,.y 91 (.app 5 88 (.t 89) (.t 90)),.w 92 0,.w 93 8,.y 94 (.bw 5 (.t 92) (.t 93)),.y 95 (.load (some 5) (.t 94)),.y 96 (.a8 5 1 [.int .i64 0,.str [],.af,.af,.str []] [(0,.t 95)]),.o 97 (.app 5 88 (.t 91) (.t 96)),.m 6 97] (.ops [.y 98 (.a8 7 0 [.int .i64 0,.af,.af,.af,.af,.af,.af] []),.w 99 7,.y 100 (.app 7 152 (.t 98) (.t 99)),.y 101 (.load (some 7) (.t 11)),.y 102 (.a8 7 1 [.int .i64 0,.af,.af,.af,.af,.af,.af] [(0,.t 101)]),.o 103 (.app 7 152 (.t 100) (.t 102)),.m 7 103]))))))))) (.ops [.m 22 8,.v 23 .add 22 .w,.m 8 23])))))) (.r [.w 104 6,.w 105 7,.w 106 6,.y 107 (.len .sl (.t 106)),.y 108 (.bw 7 (.t 105) (.t 107)),.y 109 (.load (some 7) (.t 108)),.w 2 104,.s 7 3 109,.o 4 (.cj .z),.o 5 (.cj .z)]))))))⟩
def fn84:au:=⟨17,3,[(6,none)],(.s [.p 3 0,.o 6 (.cj .F)] (.r [.w 7 2,.y 8 (.bn 2 (.t 3)),.j 9 8,.y 10 (.load (some 7) (.t 3)),.w 11 1,.y 12 (.call (.f 141) [.t 10,.t 11]),.y 13 (.bw 2 (.t 9) (.t 12)),.y 14 (.bn 1 (.t 13)),.j 15 14,.u 16 .leq 7 15,.m 6 16]))⟩
def fn85:au:=gA 85
def fn86:au:=⟨47,3,[(6,none)],(.s [.p 3 0,.o 6 (.cj .F)] (.s [.o 7 (.cj .z)] (.seq (.s [.m 8 1] (.block 0 (.s [.v 10 .eql 8 .z,.m 9 10] (.i 9 (.ops [.a 11 1 3,.l 12 11,.m 13 2,.c 14 142 [.t 12,.t 13],.m 7 14]) (.s [.v 16 .eql 8 .w,.m 15 16] (.i 15 (.ops [.a 17 2 3,.l 18 17,.m 19 2,.c 20 143 [.t 18,.t 19],.m 7 20]) (.s [.v 22 .eql 8 (.n 2),.m 21 22] (.i 21 (.ops [.a 23 3 3,.l 24 23,.m 25 2,.c 26 136 [.t 24,.t 25],.m 7 26]) (.s [.v 28 .eql 8 (.n 3),.m 27 28] (.i 27 (.ops [.a 29 4 3,.l 30 29,.m 31 2,.c 32 144 [.t 30,.t 31],.m 7 32]) (.s [.v 34 .eql 8 (.n 4),.m 33 34] (.i 33 (.ops [.a 35 5 3,.l 36 35,.m 37 2,.c 38 145 [.t 36,.t 37],.m 7 38]) (.s [.v 40 .eql 8 (.n 5),.m 39 40] (.i 39 (.ops [.a 41 6 3,.l 42 41,.m 43 2,.c 44 146 [.t 42,.t 43],.m 7 44]) .skip)))))))))))))) (.r [.m 45 7,.v 46 .geq 45 .z,.m 6 46]))))⟩
def fn87:au:=⟨22,2,[(4,none)],(.s [.o 4 (.cj (.c .af))] (.s [.o 5 (.cj (.c .af))] (.seq (.s [.m 8 0,.n 9 8,.o 10 (.cj .z)] (.block 0 (.loop (.s [.u 11 .lss 10 9] (.seq (.i 11 .skip (.exit 0)) (.seq (.block 1 (.s [.h 12 5 8 10,.r 13 5 12,.o 7 (.box (.c (.agg [.int .i64 0,.str [],.af,.af,.str []]))),.s 5 7 13] (.ops [.m 14 5,.m 15 1,.r 16 5 7,.o 17 (.call (.t 15) [.t 16]),.o 18 (.a8 5 1 [.int .i64 0,.str [],.af,.af,.str []] [(0,.t 17)]),.o 19 (.app 5 88 (.t 14) (.t 18)),.m 5 19]))) (.ops [.v 20 .add 10 .w,.m 10 20]))))))) (.r [.m 21 5,.m 4 21]))))⟩
def fn88:au:=gA 88
def fn89:au:=gA 89
def fn90:au:=⟨56,0,[(0,none)],(.s [.o 0 (.cj (.c .dq))] (.r [.o 1 (.oZ),.o 2 (.build [.af,.int .i64 0,.nilFunc,.nilFunc,.nilFunc] []),.x (.fY .s (.t 1) (.c (.str [117,110,100,111])) (.t 2)),.c 3 147 [.z],.o 4 (.a8 2 1 [.int .i64 0,.bool false] [(0,.t 3)]),.c 5 150 [.z],.o 6 (.build [.af,.int .i64 0,.nilFunc,.nilFunc,.nilFunc] [(0,1,.t 4),(1,1,(.n 2)),(2,1,(.f 148)),(3,1,(.f 149)),(4,1,.t 5)]),.x (.fY .s (.t 1) (.c (.str [108,105,110,101])) (.t 6)),.c 7 147 [.w],.o 8 (.a8 2 1 [.int .i64 0,.bool false] [(0,.t 7)]),.o 9 (.build [.af,.int .i64 0,.nilFunc,.nilFunc,.nilFunc] [(0,1,.t 8),(1,1,(.n 2)),(2,1,(.f 151)),(3,1,(.f 152)),(4,1,(.f 153))]),.x (.fY .s (.t 1) (.c (.str [116,97,112,101])) (.t 9)),.c 10 147 [.n 2],.c 11 154 [.z],.c 12 154 [.w],.o 13 (.a8 2 3 [.int .i64 0,.bool false] [(0,.t 10),(2,.t 11),(4,.t 12)]),.c 14 150 [.w],.o 15 (.build [.af,.int .i64 0,.nilFunc,.nilFunc,.nilFunc] [(0,1,.t 13),(1,1,.w),(2,1,(.f 155)),(3,1,(.f 156)),(4,1,.t 14)]),.x (.fY .s (.t 1) (.c (.str [115,104,111,116])) (.t 15)),.c 16 154 [.w],.c 17 154 [.w],.o 18 (.a8 2 2 [.int .i64 0,.bool false] [(0,.t 16),(2,.t 17)]),.o 19 (.build [.af,.int .i64 0,.nilFunc,.nilFunc,.nilFunc] [(0,1,.t 18),(1,1,.w),(2,1,(.f 157)),(3,1,(.f 158)),(4,1,(.f 153))]),.x (.fY .s (.t 1) (.c (.str [99,111,112,121])) (.t 19)),.c 20 154 [.z],.o 21 (.a8 2 1 [.int .i64 0,.bool false] [(0,.t 20)]),.c 22 150 [.z],.o 23 (.build [.af,.int .i64 0,.nilFunc,.nilFunc,.nilFunc] [(0,1,.t 21),(1,1,.w),(2,1,(.f 159)),(3,1,(.f 160)),(4,1,.t 22)]),.x (.fY .s (.t 1) (.c (.str [97,99,99,101,112,116])) (.t 23)),.c 24 147 [.n 3],.c 25 154 [.z],.o 26 (.a8 2 2 [.int .i64 0,.bool false] [(0,.t 24),(2,.t 25)]),.c 27 150 [.w],.o 28 (.build [.af,.int .i64 0,.nilFunc,.nilFunc,.nilFunc] [(0,1,.t 26),(1,1,.w),(2,1,(.f 161)),(3,1,(.f 162)),(4,1,.t 27)]),.x (.fY .s (.t 1) (.c (.str [115,111,117,114,99,101])) (.t 28)),.c 29 147 [.n 3],.c 30 154 [.n 3],.o 31 (.a8 2 2 [.int .i64 0,.bool false] [(0,.t 29),(2,.t 30)]),.o 32 (.build [.af,.int .i64 0,.nilFunc,.nilFunc,.nilFunc] [(0,1,.t 31),(1,1,(.n 2)),(2,1,(.f 163)),(3,1,(.f 164)),(4,1,(.c .nilFunc))]),.x (.fY .s (.t 1) (.c (.str [109,111,100,117,108,101])) (.t 32)),.c 33 147 [.n 3],.c 34 154 [.n 3],.c 35 154 [.n 3],.o 36 (.a8 2 3 [.int .i64 0,.bool false] [(0,.t 33),(2,.t 34),(4,.t 35)]),.o 37 (.build [.af,.int .i64 0,.nilFunc,.nilFunc,.nilFunc] [(0,1,.t 36),(1,1,.w),(2,1,(.f 165)),(3,1,(.f 166)),(4,1,(.c .nilFunc))]),.x (.fY .s (.t 1) (.c (.str [109,101,114,103,101])) (.t 37)),.c 38 147 [.n 4],.c 39 154 [.n 3],.o 40 (.a8 2 2 [.int .i64 0,.bool false] [(0,.t 38),(2,.t 39)]),.o 41 (.build [.af,.int .i64 0,.nilFunc,.nilFunc,.nilFunc] [(0,1,.t 40),(1,1,(.n 2)),(2,1,(.f 167)),(3,1,(.f 168)),(4,1,(.c .nilFunc))]),.x (.fY .s (.t 1) (.c (.str [114,117,110])) (.t 41)),.c 42 154 [.n 4],.o 43 (.a8 2 1 [.int .i64 0,.bool false] [(0,.t 42)]),.o 44 (.build [.af,.int .i64 0,.nilFunc,.nilFunc,.nilFunc] [(0,1,.t 43),(1,1,(.n 3)),(2,1,(.f 169)),(3,1,(.f 170)),(4,1,(.c .nilFunc))]),.x (.fY .s (.t 1) (.c (.str [116,105,108,101])) (.t 44)),.c 45 154 [.n 4],.o 46 (.a8 2 1 [.int .i64 0,.bool false] [(0,.t 45)]),.o 47 (.build [.af,.int .i64 0,.nilFunc,.nilFunc,.nilFunc] [(0,1,.t 46),(1,1,(.n 2)),(2,1,(.f 171)),(3,1,(.f 172)),(4,1,(.c .nilFunc))]),.x (.fY .s (.t 1) (.c (.str [102,97,105,108])) (.t 47)),.c 48 147 [.n 5],.c 49 154 [.n 4],.o 50 (.a8 2 2 [.int .i64 0,.bool false] [(0,.t 48),(2,.t 49)]),.o 51 (.build [.af,.int .i64 0,.nilFunc,.nilFunc,.nilFunc] [(0,1,.t 50),(1,1,.w),(2,1,(.f 173)),(3,1,(.f 174)),(4,1,(.c .nilFunc))]),.x (.fY .s (.t 1) (.c (.str [112,105,99,116,117,114,101])) (.t 51)),.c 52 154 [.n 5],.o 53 (.a8 2 1 [.int .i64 0,.bool false] [(0,.t 52)]),.o 54 (.build [.af,.int .i64 0,.nilFunc,.nilFunc,.nilFunc] [(0,1,.t 53),(1,1,.w),(2,1,(.f 175)),(3,1,(.f 176)),(4,1,(.c .nilFunc))]),.x (.fY .s (.t 1) (.c (.str [114,101,108,101,97,115,101])) (.t 54)),.m 55 1,.m 0 55]))⟩
def fn91:au:=⟨12,1,[(2,some (some 5))],(.s [.p 1 0,.o 2 (.box (.c (.agg [.int .i64 0,.str [],.af,.af,.str []])))] (.s [.y 3 (.bn 2 (.t 1)),.j 4 3,.y 5 (.call (.f 177) [.t 4]),.y 6 (.bn 3 (.t 1)),.j 7 6,.y 8 (.call (.f 178) [.t 7]),.y 9 (.bn 2 (.t 1)),.s 1 9 5,.a 10 3 1,.s 1 10 8] (.r [.r 11 5 1,.s 5 2 11])))⟩
def Mj:au:=⟨22,2,[(4,none)],(.s [.o 4 (.cj (.c .af))] (.s [.o 5 (.cj (.c .af))] (.seq (.s [.m 8 0,.n 9 8,.o 10 (.cj .z)] (.block 0 (.loop (.s [.u 11 .lss 10 9] (.seq (.i 11 .skip (.exit 0)) (.seq (.block 1 (.s [.h 12 1 8 10,.l 13 12,.m 7 13] (.ops [.m 14 5,.m 15 1,.m 16 7,.o 17 (.call (.t 15) [.t 16]),.o 18 (.a8 1 1 [.int .i64 0] [(0,.t 17)]),.o 19 (.app 1 8 (.t 14) (.t 18)),.m 5 19]))) (.ops [.v 20 .add 10 .w,.m 10 20]))))))) (.r [.m 21 5,.m 4 21]))))⟩
def fn92:au:=Mj
def Mk:au:=⟨5,1,[(2,none)],(.s [.o 2 (.cj .z)] (.r [.m 3 0,.c 4 94 [.t 3,.z,.n 999999999],.m 2 4]))⟩
def fn93:au:=Mk
def fn94:au:=gA 94
def fn95:au:=gA 95
def fn96:au:=⟨38,1,[(2,some (some 7))],(.s [.p 1 0,.o 2 (.box (.c (.agg [.int .i64 0,.af,.af,.af,.af,.af,.af])))] (.s [.y 5 (.bn 1 (.t 1)),.j 6 5,.y 7 (.len .sl (.t 6)),.y 8 (.wX 3 32 [.str [],.int .i64 0,.bool false] (.t 7) (.t 7)),.y 9 (.bn 6 (.t 1)),.j 10 9,.y 11 (.len .sl (.t 10)),.y 12 (.wX 4 48 [.str [],.str [],.int .i64 0,.bool false] (.t 11) (.t 11)),.w 3 8,.m 4 12] (.s [.m 13 3,.a 14 1 1,.l 15 14,.o 16 (.Au 3 (.t 13) (.t 15))] (.s [.m 17 4,.a 18 6 1,.l 19 18,.o 20 (.Au 4 (.t 17) (.t 19))] (.r [.y 21 (.bn 0 (.t 1)),.j 22 21,.w 23 3,.y 24 (.bn 2 (.t 1)),.j 25 24,.y 26 (.call (.f 179) [.t 25]),.y 27 (.bn 3 (.t 1)),.j 28 27,.y 29 (.call (.f 180) [.t 28,(.f 181)]),.y 30 (.bn 4 (.t 1)),.j 31 30,.y 32 (.call (.f 182) [.t 31,(.f 183)]),.y 33 (.bn 5 (.t 1)),.j 34 33,.y 35 (.call (.f 184) [.t 34,(.f 185)]),.w 36 4,.o 37 (.build [.int .i64 0,.af,.af,.af,.af,.af,.af] [(0,1,.t 22),(1,1,.t 23),(2,1,.t 26),(3,1,.t 29),(4,1,.t 32),(5,1,.t 35),(6,1,.t 36)]),.s 7 2 37])))))⟩
def fn97:au:=gA 97
def fn98:au:=gA 98
def fn99:au:=gA 99
def fn101:au:=gA 101
def fn102:au:=gA 102
def fn103:au:=gA 103
def fn108:au:=gA 108
def fn109:au:=⟨10,0,[(0,none)],(.s [.o 0 (.cj (.c .dq))] (.r [.o 1 (.oZ),.o 2 (.build [.bool false,.int .i64 0,.nilFunc] [(0,1,.T),(1,1,(.n 4)),(2,1,(.f 198))]),.x (.fY .s (.t 1) (.c (.str [108,101,102,116])) (.t 2)),.o 3 (.build [.bool false,.int .i64 0,.nilFunc] [(0,1,.T),(1,1,(.n 5)),(2,1,(.f 126))]),.x (.fY .s (.t 1) (.c (.str [102,114,111,109])) (.t 3)),.o 4 (.build [.bool false,.int .i64 0,.nilFunc] [(0,1,.T),(1,1,(.n 3)),(2,1,(.f 200))]),.x (.fY .s (.t 1) (.c (.str [108,105,110,101,115])) (.t 4)),.o 5 (.build [.bool false,.int .i64 0,.nilFunc] [(0,1,.F),(1,1,(.n 2)),(2,1,(.f 201))]),.x (.fY .s (.t 1) (.c (.str [117,110,115,97,102,101])) (.t 5)),.o 6 (.build [.bool false,.int .i64 0,.nilFunc] [(0,1,.T),(1,1,(.n 2)),(2,1,(.f 202))]),.x (.fY .s (.t 1) (.c (.str [116,97,112,101,115])) (.t 6)),.o 7 (.build [.bool false,.int .i64 0,.nilFunc] [(0,1,.F),(1,1,(.n 5)),(2,1,(.f 203))]),.x (.fY .s (.t 1) (.c (.str [114,101,108,101,97,115,101,100])) (.t 7)),.o 8 (.build [.bool false,.int .i64 0,.nilFunc] [(0,1,.T),(1,1,.z),(2,1,(.f 204))]),.x (.fY .s (.t 1) (.c (.str [119,97,110,116])) (.t 8)),.m 9 1,.m 0 9]))⟩
def fn110:au:=gA 110
def fn111:au:=⟨73,1,[(2,some (some 5)),(3,none)],(.s [.o 2 (.box (.c (.agg [.int .i64 0,.str [],.af,.af,.str []]))),.o 3 (.cj .F)] (.s [.m 12 0,.o 13 (.build [.af,.bool false] [(0,1,.t 12)]),.p 14 13,.m 4 14] (.s [.m 15 4,.o 16 (.ve (.func 207) [.t 15] []),.m 17 4,.o 18 (.ve (.func 208) [.t 17] []),.m 5 16,.m 6 18] (.s [.m 19 5,.o 20 (.call (.t 19) []),.o 21 (.build [.int .i64 0,.str [],.af,.af,.str []] [(1,1,.t 20)]),.o 7 (.box (.c (.agg [.int .i64 0,.str [],.af,.af,.str []]))),.s 5 7 21] (.s [.y 23 (.call (.f 90) []),.y 24 (.bn 1 (.t 7)),.j 25 24,.y 26 (.look .s (.agg [.af,.int .i64 0,.nilFunc,.nilFunc,.nilFunc]) true (.t 23) (.t 25)),.w 22 26,.y 27 (.ext (.t 22) 0),.y 28 (.ext (.t 22) 1),⟨none,.cj .F,none,true⟩,.y 8 (.pt 5 (.t 27)),.m 9 28] (.seq (.s [.m 29 9,.o 30 (.un .not (.t 29))] (.j 30 [.o 31 (.build [.int .i64 0,.str [],.af,.af,.str []] []),.s 5 2 31,.o 3 (.cj .F)])) (.seq (.s [.a 32 0 8,.l 33 32,.n 34 33,.o 35 (.cj .z)] (.block 0 (.loop (.s [.u 36 .lss 35 34] (.seq (.i 36 .skip (.exit 0)) (.seq (.block 1 (.s [.m 37 5,.o 38 (.call (.t 37) []),.m 10 38] (.ops [.a 39 2 7,.l 40 39,.m 41 10,.o 42 (.a8 1 1 [.str []] [(0,.t 41)]),.o 43 (.app 1 16 (.t 40) (.t 42)),.a 44 2 7,.s 1 44 43]))) (.ops [.v 45 .add 35 .w,.m 35 45]))))))) (.seq (.s [.a 46 1 8,.l 47 46,.o 48 (.cj .z)] (.block 2 (.loop (.s [.u 49 .lss 48 47] (.seq (.i 49 .skip (.exit 2)) (.seq (.block 3 (.s [.m 50 6,.o 51 (.call (.t 50) []),.m 11 51] (.ops [.a 52 3 7,.l 53 52,.m 54 11,.o 55 (.a8 1 1 [.int .i64 0] [(0,.t 54)]),.o 56 (.app 1 8 (.t 53) (.t 55)),.a 57 3 7,.s 1 57 56]))) (.ops [.v 58 .add 48 .w,.m 48 58]))))))) (.seq (.tB [.r 59 5 7,.m 60 4,.o 61 (.bT (.t 60)),.a 62 1 61,.l 63 62,.o 64 (.un .not (.t 63)),.m 65 64,.t 66 65 true 4,.g 67 65 true (.bT (.t 66)),.g 68 65 true (.bn 0 (.t 67)),.g 69 65 true (.load none (.t 68)),.g 70 65 true (.len .sl (.t 69)),.g 71 65 true (.bin .eql (.t 70) .z),.d 72 65 71,.s 5 2 59,.m 3 72]) .ret)))))))))⟩
def fn112:au:=⟨94,2,[(4,none)],(.s [.p 3 1,.o 4 (.cj .z)] (.seq (.s [.r 9 5 3,.c 10 67 [.t 9],.m 5 10] (.s [.m 11 5,.v 12 .neq 11 .z] (.j 12 [.m 13 5,.m 4 13]))) (.seq (.s [.m 14 0,.r 15 5 3,.c 16 116 [.t 14,.t 15],.m 6 16] (.s [.m 17 6,.v 18 .neq 17 .z] (.j 18 [.m 19 6,.m 4 19]))) (.s [.r 20 5 3,.c 21 91 [.t 20],.s 5 3 21] (.s [.m 22 0,.m 23 0,.o 24 (.bT (.t 23)),.a 25 0 24,.l 26 25,.r 27 5 3,.o 28 (.a8 5 1 [.int .i64 0,.str [],.af,.af,.str []] [(0,.t 27)]),.o 29 (.app 5 88 (.t 26) (.t 28)),.o 30 (.bT (.t 22)),.a 31 0 30,.s 1 31 29] (.seq (.s [.a 32 1 3,.l 33 32,.v 34 .eql 33 (.c (.str [117,110,100,111]))] (.i 34 (.s [.m 35 0,.o 36 (.bT (.t 35)),.a 37 1 36,.l 38 37,.n 39 38,.v 40 .sub 39 .w,.m 7 40] (.s [.m 41 0,.m 42 0,.m 43 0,.o 44 (.bT (.t 43)),.a 45 1 44,.l 46 45,.m 47 7,.o 48 (.sl 5 (.t 46) none (some (.t 47))),.m 49 0,.o 50 (.bT (.t 49)),.a 51 2 50,.l 52 51,.m 53 7,.o 54 (.sl 7 (.t 52) none (some (.t 53))),.o 55 (.bT (.t 41)),.a 56 1 55,.s 1 56 48,.o 57 (.bT (.t 42)),.a 58 2 57,.s 1 58 54] (.r [.o 4 (.cj .z)]))) .skip)) (.s [.m 59 0,.c 60 79 [.t 59],.c 61 96 [.t 60],.o 8 (.box (.c (.agg [.int .i64 0,.af,.af,.af,.af,.af,.af]))),.s 7 8 61] (.s [.y 62 (.call (.f 90) []),.y 63 (.bn 1 (.t 3)),.j 64 63,.y 65 (.look .s (.agg [.af,.int .i64 0,.nilFunc,.nilFunc,.nilFunc]) false (.t 62) (.t 64)),.y 66 (.part none 3 (.t 65)),.y 67 (.load (some 5) (.t 3)),.o 68 (.call (.t 66) [.t 8,.t 67])] (.s [.a 69 3 3,.l 70 69,.o 71 (.bw 1 (.t 70) .z),.l 72 71,.a 73 0 8,.s 1 73 72] (.seq (.mZ [.m 74 0,.m 75 0,.m 76 0,.o 77 (.bT (.t 76)),.a 78 1 77,.j 79 78,.y 80 (.load (some 5) (.t 3)),.o 81 (.a8 5 1 [.int .i64 0,.str [],.af,.af,.str []] [(0,.t 80)]),.o 82 (.app 5 88 (.t 79) (.t 81)),.m 83 0,.o 84 (.bT (.t 83)),.a 85 2 84,.j 86 85,.y 87 (.load (some 7) (.t 8)),.o 88 (.a8 7 1 [.int .i64 0,.af,.af,.af,.af,.af,.af] [(0,.t 87)]),.o 89 (.app 7 152 (.t 86) (.t 88)),.o 90 (.bT (.t 74)),.a 91 1 90,.s 1 91 82,.o 92 (.bT (.t 75)),.a 93 2 92,.s 1 93 89]) (.r [.o 4 (.cj .z)])))))))))))⟩
def fn113:au:=gA 113
def fn114:au:=gA 114
def fn115:au:=gA 115
def fn116:au:=⟨106,2,[(4,none)],(.s [.p 3 1,.o 4 (.cj .z)] (.seq (.s [.y 12 (.bn 0 (.t 3)),.j 13 12,.w 14 0,.y 15 (.bT (.t 14)),.y 16 (.bn 0 (.t 15)),.j 17 16,.y 18 (.len .sl (.t 17)),.y 19 (.bin .add (.t 18) .w),.u 20 .neq 13 19] (.j 20 [.o 4 (.cj (.n 11))])) (.s [.m 21 0,.o 22 (.bT (.t 21)),.a 23 1 22,.l 24 23,.n 25 24,.m 5 25] (.seq (.s [.a 26 1 3,.l 27 26,.v 28 .eql 27 (.c (.str [117,110,100,111]))] (.i 28 (.seq (.s [.m 29 5,.v 30 .eql 29 .z] (.j 30 [.o 4 (.cj (.n 12))])) (.r [.m 31 0,.o 32 (.bT (.t 31)),.a 33 1 32,.l 34 33,.m 35 5,.v 36 .sub 35 .w,.h 37 5 34 36,.a 38 1 37,.l 39 38,.v 40 .eql 39 (.c (.str [114,101,108,101,97,115,101])),.c 41 85 [.t 40,.n 21],.m 4 41])) .skip)) (.s [.m 42 0,.c 43 79 [.t 42],.o 6 (.box (.c (.agg [.int .i64 0,.af,.af,.af,.af,.af,.af]))),.s 7 6 43] (.seq (.s [.y 44 (.bn 3 (.t 3)),.j 45 44,.y 46 (.bw 1 (.t 45) .z),.j 47 46,.y 48 (.bn 0 (.t 6)),.j 49 48,.u 50 .lss 47 49] (.j 50 [.o 4 (.cj (.n 22))])) (.s [.y 51 (.call (.f 90) []),.y 52 (.bn 1 (.t 3)),.j 53 52,.y 54 (.look .s (.agg [.af,.int .i64 0,.nilFunc,.nilFunc,.nilFunc]) false (.t 51) (.t 53)),.y 7 (.box (.c (.agg [.af,.int .i64 0,.nilFunc,.nilFunc,.nilFunc]))),.s 5 7 54] (.seq (.s [.a 55 0 7,.l 56 55,.n 57 56,.o 58 (.cj .z)] (.block 0 (.loop (.s [.u 59 .lss 58 57] (.seq (.i 59 .skip (.exit 0)) (.seq (.block 1 (.s [.m 60 58,.h 61 2 56 58,.r 62 2 61,.o 9 (.box (.c (.agg [.int .i64 0,.bool false]))),.m 8 60,.s 2 9 62] (.s [.a 63 1 9,.l 64 63,.m 65 64,⟨(some 66),.load (some 7) (.t 6),(some (65,true)),true⟩,⟨(some 67),.bn 0 (.t 9),(some (65,true)),true⟩,⟨(some 68),.load none (.t 67),(some (65,true)),true⟩,⟨(some 69),.bn 2 (.t 3),(some (65,true)),true⟩,⟨(some 70),.load none (.t 69),(some (65,true)),true⟩,⟨(some 71),.cj (.t 8),(some (65,true)),true⟩,⟨(some 72),.bw 1 (.t 70) (.t 71),(some (65,true)),true⟩,⟨(some 73),.load none (.t 72),(some (65,true)),true⟩,.g 74 65 true (.call (.f 86) [.t 66,.t 68,.t 73]),.g 75 65 true (.un .not (.t 74)),.d 76 65 75] (.j 76 [.o 4 (.cj (.n 10))])))) (.ops [.v 77 .add 58 .w,.m 58 77]))))))) (.seq (.s [.a 78 0 7,.l 79 78,.n 80 79,.o 81 (.cj .z)] (.block 2 (.loop (.s [.u 82 .lss 81 80] (.seq (.i 82 .skip (.exit 2)) (.seq (.block 3 (.s [.m 83 81,.h 84 2 79 81,.r 85 2 84,.o 11 (.box (.c (.agg [.int .i64 0,.bool false]))),.m 10 83,.s 2 11 85] (.s [.a 86 1 11,.l 87 86,.o 88 (.un .not (.t 87)),.m 89 88,⟨(some 90),.load (some 7) (.t 6),(some (89,true)),true⟩,⟨(some 91),.bn 0 (.t 11),(some (89,true)),true⟩,⟨(some 92),.load none (.t 91),(some (89,true)),true⟩,⟨(some 93),.bn 2 (.t 3),(some (89,true)),true⟩,⟨(some 94),.load none (.t 93),(some (89,true)),true⟩,⟨(some 95),.cj (.t 10),(some (89,true)),true⟩,⟨(some 96),.bw 1 (.t 94) (.t 95),(some (89,true)),true⟩,⟨(some 97),.load none (.t 96),(some (89,true)),true⟩,.g 98 89 true (.call (.f 86) [.t 90,.t 92,.t 97]),.d 99 89 98] (.j 99 [.o 4 (.cj (.n 9))])))) (.ops [.v 100 .add 81 .w,.m 81 100]))))))) (.r [.a 101 2 7,.l 102 101,.r 103 7 6,.r 104 5 3,.o 105 (.call (.t 102) [.t 103,.t 104]),.m 4 105]))))))))))⟩
def fn117:au:=gA 117
def fn118:au:=gA 118
def fn119:au:=gA 119
def fn120:au:=gA 120
def fn121:au:=gA 121
def fn122:au:=gA 122
def fn123:au:=gA 123
def fn124:au:=gA 124
def fn125:au:=gA 125
def fn126:au:=gA 126
def fn127:au:=gA 127
def fn128:au:=gA 128
def fn129:au:=gA 129
def fn130:au:=gA 130
def fn131:au:=gA 131
def fn132:au:=gA 132
def fn133:au:=gA 133
def fn134:au:=gA 134
def fn135:au:=gA 135
def fn136:au:=gA 136
def fn137:au:=gA 137
def fn138:au:=gA 138
def fn139:au:=gA 139
def fn140:au:=gA 140
def fn141:au:=wh 2 2
def fn142:au:=gA 142
def fn143:au:=gA 143
def fn144:au:=gA 144
def fn145:au:=gA 145
def fn146:au:=gA 146
def fn147:au:=gA 147
def fn148:au:=gA 148
def fn149:au:=⟨22,2,[],(.s [.p 3 1] (.ops [.m 4 0,.m 5 0,.o 6 (.bT (.t 5)),.a 7 1 6,.l 8 7,.a 9 2 3,.l 10 9,.o 11 (.bw 1 (.t 10) .z),.l 12 11,.a 13 3 3,.l 14 13,.o 15 (.bw 1 (.t 14) .w),.l 16 15,.o 17 (.build [.str [],.int .i64 0,.bool false] [(0,1,.t 12),(1,1,.t 16)]),.o 18 (.a8 3 1 [.str [],.int .i64 0,.bool false] [(0,.t 17)]),.o 19 (.app 3 32 (.t 8) (.t 18)),.o 20 (.bT (.t 4)),.a 21 1 20,.s 1 21 19]))⟩
def fn150:au:=gA 150
def fn151:au:=⟨23,2,[(4,none)],(.s [.p 2 0,.p 3 1,.o 4 (.cj .z)] (.r [.y 5 (.bn 3 (.t 3)),.j 6 5,.y 7 (.bw 1 (.t 6) .z),.j 8 7,.y 9 (.bn 3 (.t 3)),.j 10 9,.y 11 (.bw 1 (.t 10) .w),.j 12 11,.y 13 (.bin .add (.t 8) (.t 12)),.y 14 (.bin .gtr (.t 13) (.n 999999999)),.y 15 (.call (.f 85) [.t 14,.n 4]),.y 16 (.bn 2 (.t 2)),.j 17 16,.y 18 (.len .sl (.t 17)),.y 19 (.bin .geq (.t 18) (.n 16)),.c 20 85 [.t 19,.n 5],.o 21 (.a8 1 2 [.int .i64 0] [(0,.t 15),(1,.t 20)]),.c 22 74 [.t 21],.m 4 22]))⟩
def fn152:au:=⟨27,2,[],(.s [.p 3 1] (.ops [.m 4 0,.m 5 0,.o 6 (.bT (.t 5)),.a 7 2 6,.l 8 7,.a 9 2 3,.l 10 9,.o 11 (.bw 1 (.t 10) .z),.l 12 11,.a 13 3 3,.l 14 13,.o 15 (.bw 1 (.t 14) .z),.l 16 15,.a 17 3 3,.l 18 17,.o 19 (.bw 1 (.t 18) .w),.l 20 19,.u 21 .add 16 20,.o 22 (.build [.str [],.int .i64 0] [(0,1,.t 12),(1,1,.t 21)]),.o 23 (.a8 2 1 [.str [],.int .i64 0] [(0,.t 22)]),.o 24 (.app 2 24 (.t 8) (.t 23)),.o 25 (.bT (.t 4)),.a 26 2 25,.s 1 26 24]))⟩
def fn153:au:=gA 153
def fn154:au:=gA 154
def fn155:au:=⟨27,2,[(4,none)],(.s [.p 2 0,.p 3 1,.o 4 (.cj .z)] (.r [.y 5 (.load (some 7) (.t 2)),.y 6 (.bn 2 (.t 3)),.j 7 6,.y 8 (.bw 1 (.t 7) .w),.j 9 8,.y 10 (.call (.f 205) [.t 5,.t 9]),.y 11 (.part none 2 (.t 10)),.y 12 (.call (.f 85) [.t 11,.n 23]),.y 13 (.load (some 7) (.t 2)),.y 14 (.load (some 5) (.t 3)),.y 15 (.bn 2 (.t 3)),.j 16 15,.y 17 (.bw 1 (.t 16) (.n 2)),.j 18 17,.y 19 (.call (.f 241) [.t 13,.t 14,.t 18]),.y 20 (.bn 3 (.t 2)),.j 21 20,.y 22 (.len .sl (.t 21)),.y 23 (.bin .geq (.t 22) (.n 64)),.c 24 85 [.t 23,.n 5],.o 25 (.a8 1 3 [.int .i64 0] [(0,.t 12),(1,.t 19),(2,.t 24)]),.c 26 74 [.t 25],.m 4 26]))⟩
def fn156:au:=⟨27,2,[],(.s [.p 3 1] (.ops [.m 4 0,.m 5 0,.o 6 (.bT (.t 5)),.a 7 3 6,.l 8 7,.a 9 2 3,.l 10 9,.o 11 (.bw 1 (.t 10) .z),.l 12 11,.a 13 2 3,.l 14 13,.o 15 (.bw 1 (.t 14) .w),.l 16 15,.a 17 2 3,.l 18 17,.o 19 (.bw 1 (.t 18) (.n 2)),.l 20 19,.o 21 (.a8 1 1 [.str []] [(0,.t 20)]),.o 22 (.build [.str [],.str [],.af] [(0,1,.t 12),(1,1,.t 16),(2,1,.t 21)]),.o 23 (.a8 3 1 [.str [],.str [],.af] [(0,.t 22)]),.o 24 (.app 3 56 (.t 8) (.t 23)),.o 25 (.bT (.t 4)),.a 26 3 25,.s 1 26 24]))⟩
def fn157:au:=⟨35,2,[(4,none)],(.s [.p 2 0,.p 3 1,.o 4 (.cj .z)] (.s [.y 7 (.load (some 7) (.t 2)),.y 8 (.bn 2 (.t 3)),.j 9 8,.y 10 (.bw 1 (.t 9) .z),.j 11 10,.y 12 (.call (.f 134) [.t 7,.t 11]),.y 13 (.load (some 7) (.t 2)),.y 14 (.bn 2 (.t 3)),.j 15 14,.y 16 (.bw 1 (.t 15) .w),.j 17 16,.y 18 (.call (.f 134) [.t 13,.t 17]),.y 5 (.box (.c (.agg [.str [],.int .i64 0]))),.y 6 (.box (.c (.agg [.str [],.int .i64 0]))),.s 2 5 12,.s 2 6 18] (.r [.y 19 (.load (some 2) (.t 5)),.y 20 (.load (some 2) (.t 6)),.y 21 (.eqv false (.agg [.s,.i]) (.t 19) (.t 20)),.y 22 (.call (.f 85) [.t 21,.n 24]),.y 23 (.load (some 7) (.t 2)),.y 24 (.load (some 5) (.t 3)),.y 25 (.bn 0 (.t 5)),.j 26 25,.y 27 (.call (.f 241) [.t 23,.t 24,.t 26]),.y 28 (.load (some 7) (.t 2)),.y 29 (.load (some 5) (.t 3)),.y 30 (.bn 0 (.t 6)),.j 31 30,.c 32 241 [.t 28,.t 29,.t 31],.o 33 (.a8 1 3 [.int .i64 0] [(0,.t 22),(1,.t 27),(2,.t 32)]),.c 34 74 [.t 33],.m 4 34])))⟩
def fn158:au:=⟨50,2,[],(.s [.p 3 1] (.s [.y 8 (.bn 2 (.t 3)),.j 9 8,.y 10 (.bw 1 (.t 9) .z),.j 11 10,.y 12 (.bn 2 (.t 3)),.j 13 12,.y 14 (.bw 1 (.t 13) .w),.j 15 14,.w 4 11,.m 5 15] (.s [.m 16 0,.o 17 (.bT (.t 16)),.a 18 3 17,.l 19 18,.n 20 19,.o 21 (.cj .z)] (.block 0 (.loop (.s [.u 22 .lss 21 20] (.seq (.i 22 .skip (.exit 0)) (.seq (.block 1 (.s [.m 23 21,.h 24 3 19 21,.r 25 3 24,.o 7 (.box (.c (.agg [.str [],.str [],.af]))),.m 6 23,.s 3 7 25] (.s [.a 26 2 7,.l 27 26,.m 28 4,.c 29 242 [.t 27,.t 28],.m 30 29,.g 31 30 true (.bn 2 (.t 7)),.g 32 30 true (.load none (.t 31)),.t 33 30 true 5,.g 34 30 true (.call (.f 242) [.t 32,.t 33]),.g 35 30 true (.un .not (.t 34)),.d 36 30 35] (.i 36 (.mZ [.m 37 0,.o 38 (.bT (.t 37)),.a 39 3 38,.j 40 39,.m 41 6,.a 42 2 7,.j 43 42,.m 44 5,.o 45 (.a8 1 1 [.str []] [(0,.t 44)]),.o 46 (.app 1 16 (.t 43) (.t 45)),.h 47 3 40 41,.a 48 2 47,.s 1 48 46]) .skip)))) (.ops [.v 49 .add 21 .w,.m 21 49])))))))))⟩
def fn159:au:=⟨36,2,[(4,none)],(.s [.p 2 0,.p 3 1,.o 4 (.cj .z)] (.s [.y 8 (.load (some 7) (.t 2)),.y 9 (.bn 2 (.t 3)),.j 10 9,.y 11 (.bw 1 (.t 10) .z),.j 12 11,.y 13 (.call (.f 205) [.t 8,.t 12]),.y 14 (.load (some 7) (.t 2)),.y 15 (.bn 2 (.t 3)),.j 16 15,.y 17 (.bw 1 (.t 16) .z),.j 18 17,.y 19 (.call (.f 206) [.t 14,.t 18]),.y 5 (.box (.c (.agg [.str [],.int .i64 0,.bool false]))),.s 3 5 13,.m 6 19] (.s [.m 20 6,.o 21 (.ve (.func 244) [] [.t 2,.t 3]),.c 22 243 [.t 20,.t 21],.m 7 22] (.r [.y 23 (.bn 2 (.t 5)),.j 24 23,.y 25 (.call (.f 85) [.t 24,.n 23]),.w 26 6,.y 27 (.len .sl (.t 26)),.y 28 (.bn 1 (.t 5)),.j 29 28,.y 30 (.bin .lss (.t 27) (.t 29)),.y 31 (.call (.f 85) [.t 30,.n 16]),.w 32 7,.c 33 85 [.t 32,.n 30],.o 34 (.a8 1 3 [.int .i64 0] [(0,.t 25),(1,.t 31),(2,.t 33)]),.c 35 74 [.t 34],.m 4 35]))))⟩
def zC(x0 x1 x2 x3:Nat):au:=⟨19,2,[],(.s [.p 3 1] (.ops [.w 4 0,.y 5 (.bT (.t 4)),.y 6 (.bn x0 (.t 5)),.j 7 6,.w 8 0,.y 9 (.bT (.t 8)),.y 10 (.bn x0 (.t 9)),.j 11 10,.y 12 (.bn 2 (.t 3)),.j 13 12,.y 14 (.bw 1 (.t 13) .z),.j 15 14,.y 16 (.call (.f x1) [.t 11,.t 15]),.h 17 x2 7 16,.a 18 x3 17,.x (.store 1 (.t 18) .T)]))⟩
def fn160:au:=zC 1 142 3 2
def fn161:au:=gA 161
def fn162:au:=⟨22,2,[],(.s [.p 3 1] (.ops [.m 4 0,.m 5 0,.o 6 (.bT (.t 5)),.a 7 4 6,.l 8 7,.a 9 2 3,.l 10 9,.o 11 (.bw 1 (.t 10) .z),.l 12 11,.a 13 2 3,.l 14 13,.o 15 (.bw 1 (.t 14) .w),.l 16 15,.o 17 (.build [.str [],.str [],.str [],.af] [(0,1,.t 12),(1,1,(.c (.str [115,104,111,116,115]))),(2,1,.t 16)]),.o 18 (.a8 4 1 [.str [],.str [],.str [],.af] [(0,.t 17)]),.o 19 (.app 4 72 (.t 8) (.t 18)),.o 20 (.bT (.t 4)),.a 21 4 20,.s 1 21 19]))⟩
def fn163:au:=⟨35,2,[(4,none)],(.s [.p 2 0,.p 3 1,.o 4 (.cj .z)] (.s [.a 6 3 3,.l 7 6,.o 8 (.bw 1 (.t 7) .w),.l 9 8,.m 5 9] (.seq (.s [.m 10 5,.v 11 .lss 10 .w,.m 12 11,.t 13 12 false 5,.g 14 12 false (.bin .gtr (.t 13) (.n 4)),.f 15 12 14] (.j 15 [.o 4 (.cj (.n 13))])) (.r [.y 16 (.load (some 7) (.t 2)),.y 17 (.bn 2 (.t 3)),.j 18 17,.y 19 (.bw 1 (.t 18) .w),.j 20 19,.y 21 (.call (.f 245) [.t 16,.t 20]),.y 22 (.part none 1 (.t 21)),.w 23 5,.y 24 (.bin .sub (.t 23) .w),.y 25 (.pe 4 2 (.g 0) (.t 24)),.y 26 (.pe 2 1 (.t 25) .z),.j 27 26,.y 28 (.bin .neq (.t 22) (.t 27)),.y 29 (.call (.f 85) [.t 28,.n 2]),.y 30 (.load (some 7) (.t 2)),.y 31 (.load (some 5) (.t 3)),.c 32 161 [.t 30,.t 31],.o 33 (.a8 1 2 [.int .i64 0] [(0,.t 29),(1,.t 32)]),.c 34 74 [.t 33],.m 4 34]))))⟩
def fn164:au:=⟨30,2,[],(.s [.p 3 1] (.ops [.m 4 0,.m 5 0,.o 6 (.bT (.t 5)),.a 7 4 6,.l 8 7,.a 9 2 3,.l 10 9,.o 11 (.bw 1 (.t 10) .z),.l 12 11,.a 13 3 3,.l 14 13,.o 15 (.bw 1 (.t 14) .w),.l 16 15,.v 17 .sub 16 .w,.o 18 (.pe 4 2 (.g 0) (.t 17)),.o 19 (.pe 2 1 (.t 18) .w),.l 20 19,.a 21 2 3,.l 22 21,.o 23 (.sl 1 (.t 22) (some .w) none),.y 24 (.call (.f 177) [.t 23]),.o 25 (.build [.str [],.str [],.str [],.af] [(0,1,.t 12),(1,1,.t 20),(3,1,.t 24)]),.o 26 (.a8 4 1 [.str [],.str [],.str [],.af] [(0,.t 25)]),.o 27 (.app 4 72 (.t 8) (.t 26)),.o 28 (.bT (.t 4)),.a 29 4 28,.s 1 29 27]))⟩
def fn165:au:=⟨36,2,[(4,none)],(.s [.p 2 0,.p 3 1,.o 4 (.cj .z)] (.r [.y 5 (.bn 2 (.t 3)),.j 6 5,.y 7 (.bw 1 (.t 6) .w),.j 8 7,.y 9 (.bn 2 (.t 3)),.j 10 9,.y 11 (.bw 1 (.t 10) (.n 2)),.j 12 11,.y 13 (.bin .eql (.t 8) (.t 12)),.y 14 (.call (.f 85) [.t 13,.n 24]),.y 15 (.load (some 7) (.t 2)),.y 16 (.bn 2 (.t 3)),.j 17 16,.y 18 (.bw 1 (.t 17) .w),.j 19 18,.y 20 (.call (.f 245) [.t 15,.t 19]),.y 21 (.part none 1 (.t 20)),.y 22 (.load (some 7) (.t 2)),.y 23 (.bn 2 (.t 3)),.j 24 23,.y 25 (.bw 1 (.t 24) (.n 2)),.j 26 25,.y 27 (.call (.f 245) [.t 22,.t 26]),.y 28 (.part none 1 (.t 27)),.y 29 (.bin .neq (.t 21) (.t 28)),.y 30 (.call (.f 85) [.t 29,.n 2]),.y 31 (.load (some 7) (.t 2)),.y 32 (.load (some 5) (.t 3)),.c 33 161 [.t 31,.t 32],.o 34 (.a8 1 3 [.int .i64 0] [(0,.t 14),(1,.t 30),(2,.t 33)]),.c 35 74 [.t 34],.m 4 35]))⟩
def fn166:au:=⟨31,2,[],(.s [.p 3 1] (.ops [.m 4 0,.m 5 0,.o 6 (.bT (.t 5)),.a 7 4 6,.l 8 7,.a 9 2 3,.l 10 9,.o 11 (.bw 1 (.t 10) .z),.l 12 11,.m 13 0,.o 14 (.bT (.t 13)),.r 15 7 14,.a 16 2 3,.l 17 16,.o 18 (.bw 1 (.t 17) .w),.l 19 18,.y 20 (.call (.f 245) [.t 15,.t 19]),.o 21 (.part none 1 (.t 20)),.a 22 2 3,.l 23 22,.o 24 (.sl 1 (.t 23) (some .w) none),.y 25 (.call (.f 177) [.t 24]),.o 26 (.build [.str [],.str [],.str [],.af] [(0,1,.t 12),(1,1,.t 21),(3,1,.t 25)]),.o 27 (.a8 4 1 [.str [],.str [],.str [],.af] [(0,.t 26)]),.o 28 (.app 4 72 (.t 8) (.t 27)),.o 29 (.bT (.t 4)),.a 30 4 29,.s 1 30 28]))⟩
def fn167:au:=gA 167
def fn168:au:=⟨28,2,[],(.s [.p 3 1] (.ops [.m 4 0,.m 5 0,.o 6 (.bT (.t 5)),.a 7 5 6,.l 8 7,.a 9 2 3,.l 10 9,.o 11 (.bw 1 (.t 10) .z),.l 12 11,.a 13 2 3,.l 14 13,.o 15 (.bw 1 (.t 14) .w),.l 16 15,.o 17 (.a8 1 1 [.int .i64 0] [(0,(.n (-1)))]),.a 18 3 3,.l 19 18,.o 20 (.bw 1 (.t 19) .w),.l 21 20,.y 22 (.call (.f 248) [.t 17,.t 21]),.o 23 (.build [.str [],.str [],.af] [(0,1,.t 12),(1,1,.t 16),(2,1,.t 22)]),.o 24 (.a8 3 1 [.str [],.str [],.af] [(0,.t 23)]),.o 25 (.app 3 56 (.t 8) (.t 24)),.o 26 (.bT (.t 4)),.a 27 5 26,.s 1 27 25]))⟩
def fn169:au:=gA 169
def fn170:au:=gA 170
def fn171:au:=⟨27,2,[(4,none)],(.s [.p 2 0,.p 3 1,.o 4 (.cj .z)] (.seq (.s [.r 6 7 2,.r 7 5 3,.c 8 249 [.t 6,.t 7],.m 5 8] (.s [.m 9 5,.v 10 .neq 9 .z] (.j 10 [.m 11 5,.m 4 11]))) (.r [.y 12 (.load (some 7) (.t 2)),.y 13 (.bn 2 (.t 3)),.j 14 13,.y 15 (.bw 1 (.t 14) .z),.j 16 15,.y 17 (.call (.f 124) [.t 12,.t 16]),.y 18 (.part none 2 (.t 17)),.y 19 (.bn 3 (.t 3)),.j 20 19,.y 21 (.bw 1 (.t 20) .w),.j 22 21,.h 23 1 18 22,.l 24 23,.v 25 .eql 24 (.n (-1)),.c 26 85 [.t 25,.n 7],.m 4 26])))⟩
def fn172:au:=gA 172
def fn173:au:=⟨31,2,[(4,none)],(.s [.p 2 0,.p 3 1,.o 4 (.cj .z)] (.s [.y 6 (.load (some 7) (.t 2)),.y 7 (.bn 2 (.t 3)),.j 8 7,.y 9 (.bw 1 (.t 8) .w),.j 10 9,.c 11 124 [.t 6,.t 10],.c 12 125 [.t 11],.m 5 12] (.r [.y 13 (.load (some 7) (.t 2)),.y 14 (.bn 2 (.t 3)),.j 15 14,.y 16 (.bw 1 (.t 15) .w),.j 17 16,.y 18 (.call (.f 251) [.t 13,.t 17]),.y 19 (.call (.f 85) [.t 18,.n 23]),.w 20 5,.y 21 (.len .sl (.t 20)),.y 22 (.bin .gtr (.t 21) .z),.y 23 (.call (.f 85) [.t 22,.n 32]),.y 24 (.bn 6 (.t 2)),.j 25 24,.y 26 (.len .sl (.t 25)),.y 27 (.bin .geq (.t 26) (.n 16)),.c 28 85 [.t 27,.n 5],.o 29 (.a8 1 3 [.int .i64 0] [(0,.t 19),(1,.t 23),(2,.t 28)]),.c 30 74 [.t 29],.m 4 30])))⟩
def fn174:au:=⟨32,2,[],(.s [.p 3 1] (.ops [.m 4 0,.m 5 0,.o 6 (.bT (.t 5)),.a 7 6 6,.l 8 7,.a 9 2 3,.l 10 9,.o 11 (.bw 1 (.t 10) .z),.l 12 11,.a 13 2 3,.l 14 13,.o 15 (.bw 1 (.t 14) .w),.l 16 15,.m 17 0,.o 18 (.bT (.t 17)),.r 19 7 18,.a 20 2 3,.l 21 20,.o 22 (.bw 1 (.t 21) .w),.l 23 22,.y 24 (.call (.f 124) [.t 19,.t 23]),.o 25 (.part none 2 (.t 24)),.y 26 (.call (.f 95) [.t 25]),.o 27 (.build [.str [],.str [],.int .i64 0,.bool false] [(0,1,.t 12),(1,1,.t 16),(2,1,.t 26)]),.o 28 (.a8 4 1 [.str [],.str [],.int .i64 0,.bool false] [(0,.t 27)]),.o 29 (.app 4 48 (.t 8) (.t 28)),.o 30 (.bT (.t 4)),.a 31 6 30,.s 1 31 29]))⟩
def fn175:au:=gA 175
def fn176:au:=zC 6 146 4 3
def fn177:au:=gA 177
def fn178:au:=gA 178
def fn179:au:=gA 179
def fn180:au:=gA 180
def fn181:au:=gA 181
def fn182:au:=gA 182
def fn183:au:=gA 183
def fn184:au:=gA 184
def fn185:au:=gA 185
def fn186:au:=gA 186
def fn187:au:=gA 187
def fn188:au:=gA 188
def fn189:au:=gA 189
def fn190:au:=gA 190
def fn193:au:=gA 193
def fn194:au:=gA 194
def fn195:au:=gA 195
def fn197:au:=gA 197
def fn198:au:=gA 198
def fn199:au:=gA 199
def fn200:au:=gA 200
def fn201:au:=gA 201
def fn202:au:=gA 202
def fn203:au:=gA 203
def fn204:au:=gA 204
def fn205:au:=gA 205
def fn206:au:=gA 206
def fn207:au:=gA 207
def fn208:au:=gA 208
def fn213:au:=gA 213
def fn214:au:=gA 214
def fn215:au:=gA 215
def fn216:au:=gA 216
def fn217:au:=gA 217
def fn218:au:=gA 218
def fn219:au:=gA 219
def fn221:au:=gA 221
def fn222:au:=gA 222
def fn223:au:=⟨55,2,[(4,none)],(.s [.p 2 0,.p 3 1,.o 4 (.cj .z)] (.s [.a 7 1 3,.l 8 7,.c 9 101 [.t 8],.o 10 (.part none 0 (.t 9)),.m 5 10] (.seq (.s [.o 6 (.cj .z)] (.block 0 (.loop (.seq (.s [.m 11 6,.m 12 5,.o 13 (.len .st (.t 12)),.u 14 .lss 11 13] (.i 14 .skip (.exit 0))) (.seq (.block 1 (.s [.w 17 5,.w 18 6,.o 19 (.Ca (.t 17) (.t 18)),.v 20 .geq 19 (.c (.int .u8 97)),.m 21 20,⟨(some 22),.load (some 7) (.t 2),(some (21,true)),true⟩,⟨(some 23),.cj (.t 5),(some (21,true)),true⟩,⟨(some 24),.cj (.t 6),(some (21,true)),true⟩,⟨(some 25),.Ca (.t 23) (.t 24),(some (21,true)),true⟩,⟨(some 26),.bn 2 (.t 3),(some (21,true)),true⟩,⟨(some 27),.load none (.t 26),(some (21,true)),true⟩,⟨(some 28),.cj (.t 6),(some (21,true)),true⟩,⟨(some 29),.bw 1 (.t 27) (.t 28),(some (21,true)),true⟩,⟨(some 30),.load none (.t 29),(some (21,true)),true⟩,.g 31 21 true (.call (.f 195) [.t 22,.t 25,.t 30]),.g 32 21 true (.bin .lss (.t 31) .z),.d 33 21 32] (.j 33 [.o 4 (.cj (.n 10))]))) (.ops [.m 15 6,.v 16 .add 15 .w,.m 6 16])))))) (.seq (.s [.m 34 5,.o 35 (.len .st (.t 34)),.v 36 .gtr 35 .z,.m 37 36,.t 38 37 true 5,.g 39 37 true (.Ca (.t 38) .z),.g 40 37 true (.bin .lss (.t 39) (.c (.int .u8 97))),.d 41 37 40,.m 42 41,⟨(some 43),.load (some 7) (.t 2),(some (42,true)),true⟩,⟨(some 44),.cj (.t 5),(some (42,true)),true⟩,⟨(some 45),.Ca (.t 44) .z,(some (42,true)),true⟩,⟨(some 46),.bin .add (.t 45) (.c (.int .u8 97)),(some (42,true)),true⟩,⟨(some 47),.bin .sub (.t 46) (.c (.int .u8 65)),(some (42,true)),true⟩,⟨(some 48),.bn 2 (.t 3),(some (42,true)),true⟩,⟨(some 49),.load none (.t 48),(some (42,true)),true⟩,⟨(some 50),.bw 1 (.t 49) .z,(some (42,true)),true⟩,⟨(some 51),.load none (.t 50),(some (42,true)),true⟩,.g 52 42 true (.call (.f 195) [.t 43,.t 47,.t 51]),.g 53 42 true (.bin .geq (.t 52) .z),.d 54 42 53] (.j 54 [.o 4 (.cj (.n 9))])) (.r [.o 4 (.cj .z)])))))⟩
def fn224:au:=gA 224
def fn225:au:=⟨250,2,[(4,some (some 7)),(5,none)],(.s [.p 2 0,.p 3 1,.o 4 (.box (.c (.agg [.int .i64 0,.af,.af,.af,.af,.af,.af]))),.o 5 (.cj .z)] (.s [.a 12 3 3,.l 13 12,.o 14 (.bw 1 (.t 13) .z),.l 15 14,.m 6 15] (.seq (.s [.a 16 1 3,.l 17 16] (.block 0 (.s [.v 72 .eql 17 (.c (.str [108,105,110,101])),.m 71 72] (.i 71 (.seq (.s [.a 73 3 3,.l 74 73,.o 75 (.bw 1 (.t 74) .w),.l 76 75,.c 77 20 [.t 76,.w,.n 64]] (.j 77 [.r 78 7 2,.s 7 4 78,.o 5 (.cj (.n 3))])) (.seq (.s [.a 79 1 2,.l 80 79,.n 81 80,.v 82 .geq 81 (.n 16)] (.j 82 [.r 83 7 2,.s 7 4 83,.o 5 (.cj (.n 5))])) (.ops [.y 84 (.bn 1 (.t 2)),.j 85 84,.y 86 (.bn 2 (.t 3)),.j 87 86,.y 88 (.bw 1 (.t 87) .z),.j 89 88,.y 90 (.bn 3 (.t 3)),.j 91 90,.y 92 (.bw 1 (.t 91) .w),.j 93 92,.y 94 (.build [.str [],.int .i64 0,.bool false] [(0,1,.t 89),(1,1,.t 93)]),.y 95 (.a8 3 1 [.str [],.int .i64 0,.bool false] [(0,.t 94)]),.o 96 (.app 3 32 (.t 85) (.t 95)),.a 97 1 2,.s 1 97 96]))) (.s [.v 99 .eql 17 (.c (.str [116,97,112,101])),.m 98 99] (.i 98 (.seq (.s [.m 100 6,.a 101 3 3,.l 102 101,.o 103 (.bw 1 (.t 102) .w),.l 104 103,.u 105 .add 100 104,.v 106 .gtr 105 (.n 999999999)] (.j 106 [.r 107 7 2,.s 7 4 107,.o 5 (.cj (.n 4))])) (.seq (.s [.a 108 2 2,.l 109 108,.n 110 109,.v 111 .geq 110 (.n 16)] (.j 111 [.r 112 7 2,.s 7 4 112,.o 5 (.cj (.n 5))])) (.ops [.y 113 (.bn 2 (.t 2)),.j 114 113,.y 115 (.bn 2 (.t 3)),.j 116 115,.y 117 (.bw 1 (.t 116) .z),.j 118 117,.w 119 6,.y 120 (.bn 3 (.t 3)),.j 121 120,.y 122 (.bw 1 (.t 121) .w),.j 123 122,.y 124 (.bin .add (.t 119) (.t 123)),.y 125 (.build [.str [],.int .i64 0] [(0,1,.t 118),(1,1,.t 124)]),.y 126 (.a8 2 1 [.str [],.int .i64 0] [(0,.t 125)]),.o 127 (.app 2 24 (.t 114) (.t 126)),.a 128 2 2,.s 1 128 127]))) (.s [.v 130 .eql 17 (.c (.str [115,104,111,116])),.m 129 130] (.i 129 (.seq (.s [.y 131 (.bn 1 (.t 2)),.j 132 131,.y 133 (.load (some 7) (.t 2)),.y 134 (.bn 2 (.t 3)),.j 135 134,.y 136 (.bw 1 (.t 135) .w),.j 137 136,.y 138 (.call (.f 28) [.t 133,.t 137]),.h 139 3 132 138,.a 140 2 139,.l 141 140] (.j 141 [.r 142 7 2,.s 7 4 142,.o 5 (.cj (.n 23))])) (.seq (.s [.y 143 (.load (some 7) (.t 2)),.y 144 (.bn 2 (.t 3)),.j 145 144,.y 146 (.bw 1 (.t 145) (.n 2)),.j 147 146,.w 148 6,.c 149 84 [.t 143,.t 147,.t 148],.o 150 (.un .not (.t 149))] (.j 150 [.r 151 7 2,.s 7 4 151,.o 5 (.cj (.n 30))])) (.seq (.s [.a 152 3 2,.l 153 152,.n 154 153,.v 155 .geq 154 (.n 64)] (.j 155 [.r 156 7 2,.s 7 4 156,.o 5 (.cj (.n 5))])) (.ops [.y 157 (.bn 3 (.t 2)),.j 158 157,.y 159 (.bn 2 (.t 3)),.j 160 159,.y 161 (.bw 1 (.t 160) .z),.j 162 161,.y 163 (.bn 2 (.t 3)),.j 164 163,.y 165 (.bw 1 (.t 164) .w),.j 166 165,.y 167 (.bn 2 (.t 3)),.j 168 167,.y 169 (.bw 1 (.t 168) (.n 2)),.j 170 169,.y 171 (.a8 1 1 [.str []] [(0,.t 170)]),.y 172 (.build [.str [],.str [],.af] [(0,1,.t 162),(1,1,.t 166),(2,1,.t 171)]),.y 173 (.a8 3 1 [.str [],.str [],.af] [(0,.t 172)]),.o 174 (.app 3 56 (.t 158) (.t 173)),.a 175 3 2,.s 1 175 174])))) (.s [.v 177 .eql 17 (.c (.str [99,111,112,121])),.m 176 177] (.i 176 (.seq (.s [.y 178 (.bn 2 (.t 3)),.j 179 178,.y 180 (.bw 1 (.t 179) .z),.j 181 180,.y 182 (.bn 2 (.t 3)),.j 183 182,.y 184 (.bw 1 (.t 183) .w),.j 185 184,.u 186 .eql 181 185] (.j 186 [.r 187 7 2,.s 7 4 187,.o 5 (.cj (.n 24))])) (.seq (.s [.y 188 (.load (some 7) (.t 2)),.y 189 (.bn 2 (.t 3)),.j 190 189,.y 191 (.bw 1 (.t 190) .z),.j 192 191,.w 193 6,.c 194 84 [.t 188,.t 192,.t 193],.o 195 (.un .not (.t 194)),.m 196 195,⟨(some 197),.load (some 7) (.t 2),(some (196,false)),true⟩,⟨(some 198),.bn 2 (.t 3),(some (196,false)),true⟩,⟨(some 199),.load none (.t 198),(some (196,false)),true⟩,⟨(some 200),.bw 1 (.t 199) .w,(some (196,false)),true⟩,⟨(some 201),.load none (.t 200),(some (196,false)),true⟩,⟨(some 202),.cj (.t 6),(some (196,false)),true⟩,.g 203 196 false (.call (.f 84) [.t 197,.t 201,.t 202]),.g 204 196 false (.un .not (.t 203)),.f 205 196 204] (.j 205 [.r 206 7 2,.s 7 4 206,.o 5 (.cj (.n 30))])) (.s [.o 7 (.cj .z)] (.block 3 (.loop (.seq (.s [.m 207 7,.a 208 3 2,.l 209 208,.n 210 209,.u 211 .lss 207 210] (.i 211 .skip (.exit 3))) (.seq (.block 4 (.s [.a 214 3 2,.l 215 214,.m 216 7,.h 217 3 215 216,.a 218 2 217,.l 219 218,.m 8 219] (.s [.m 220 8,.a 221 2 3,.l 222 221,.o 223 (.bw 1 (.t 222) .z),.l 224 223,.c 225 35 [.t 220,.t 224],.m 226 225,.t 227 226 true 8,.g 228 226 true (.bn 2 (.t 3)),.g 229 226 true (.load none (.t 228)),.g 230 226 true (.bw 1 (.t 229) .w),.g 231 226 true (.load none (.t 230)),.g 232 226 true (.call (.f 35) [.t 227,.t 231]),.g 233 226 true (.un .not (.t 232)),.d 234 226 233] (.i 234 (.mZ [.a 235 3 2,.j 236 235,.m 237 7,.o 238 (.a8 1 0 [.str []] []),.m 239 8,.o 240 (.app 1 16 (.t 238) (.t 239)),.a 241 2 3,.j 242 241,.o 243 (.bw 1 (.t 242) .w),.j 244 243,.o 245 (.a8 1 1 [.str []] [(0,.t 244)]),.o 246 (.app 1 16 (.t 240) (.t 245)),.h 247 3 236 237,.a 248 2 247,.s 1 248 246]) .skip)))) (.ops [.m 212 7,.v 213 .add 212 .w,.m 7 213])))))))) (.s [.y 18 (.load (some 7) (.t 2)),.y 19 (.bn 2 (.t 3)),.j 20 19,.y 21 (.bw 1 (.t 20) .z),.j 22 21,.c 23 28 [.t 18,.t 22],.m 9 23] (.s [.r 24 7 2,.a 25 2 3,.l 26 25,.c 27 127 [.t 24,.t 26],.m 10 27] (.seq (.s [.a 28 1 2,.l 29 28,.m 30 9,.h 31 3 29 30,.a 32 2 31,.l 33 32] (.j 33 [.r 34 7 2,.s 7 4 34,.o 5 (.cj (.n 23))])) (.seq (.s [.m 35 10,.n 36 35,.a 37 1 2,.l 38 37,.m 39 9,.h 40 3 38 39,.a 41 1 40,.l 42 41,.u 43 .lss 36 42] (.j 43 [.r 44 7 2,.s 7 4 44,.o 5 (.cj (.n 16))])) (.seq (.s [.o 11 (.cj .z)] (.block 1 (.loop (.seq (.s [.m 45 11,.m 46 10,.n 47 46,.u 48 .lss 45 47] (.i 48 .skip (.exit 1))) (.seq (.block 2 (.s [.y 51 (.load (some 7) (.t 2)),.y 52 (.bn 3 (.t 2)),.j 53 52,.y 54 (.load (some 7) (.t 2)),.w 55 10,.w 56 11,.y 57 (.bw 1 (.t 55) (.t 56)),.j 58 57,.y 59 (.call (.f 22) [.t 54,.t 58]),.y 60 (.bw 3 (.t 53) (.t 59)),.y 61 (.load (some 3) (.t 60)),.w 62 6,.c 63 23 [.t 51,.t 61,.t 62],.o 64 (.un .not (.t 63))] (.j 64 [.r 65 7 2,.s 7 4 65,.o 5 (.cj (.n 30))]))) (.ops [.m 49 11,.v 50 .add 49 .w,.m 11 50])))))) (.ops [.a 66 1 2,.l 67 66,.m 68 9,.h 69 3 67 68,.a 70 2 69,.x (.store 1 (.t 70) .T)])))))))))))))))) (.r [.r 249 7 2,.s 7 4 249,.o 5 (.cj .z)]))))⟩
def fn226:au:=⟨96,2,[(4,some (some 7)),(5,none)],(.s [.p 2 0,.p 3 1,.o 4 (.box (.c (.agg [.int .i64 0,.af,.af,.af,.af,.af,.af]))),.o 5 (.cj .z)] (.s [.y 9 (.bn 2 (.t 3)),.j 10 9,.y 11 (.bw 1 (.t 10) .z),.j 12 11,.y 13 (.a8 1 0 [.str []] []),.y 14 (.bn 2 (.t 3)),.j 15 14,.y 16 (.sl 1 (.t 15) (some .w) none),.y 17 (.app 1 16 (.t 13) (.t 16)),.y 18 (.build [.str [],.str [],.str [],.af] [(0,1,.t 12),(3,1,.t 17)]),.y 6 (.box (.c (.agg [.str [],.str [],.str [],.af]))),.s 4 6 18] (.seq (.s [.a 19 1 3,.l 20 19] (.block 0 (.s [.v 49 .eql 20 (.c (.str [115,111,117,114,99,101])),.m 48 49] (.i 48 (.mZ [.a 50 2 3,.j 51 50,.o 52 (.bw 1 (.t 51) .w),.j 53 52,.a 54 1 6,.x (.store 1 (.t 54) (.c (.str [115,104,111,116,115]))),.a 55 2 6,.s 1 55 53,.a 56 3 6,.x (.store 1 (.t 56) (.c .af))]) (.s [.v 58 .eql 20 (.c (.str [109,111,100,117,108,101])),.m 57 58] (.i 57 (.seq (.s [.a 59 3 3,.l 60 59,.o 61 (.bw 1 (.t 60) .w),.l 62 61,.c 63 20 [.t 62,.w,.n 4]] (.j 63 [.r 64 7 2,.s 7 4 64,.o 5 (.cj (.n 13))])) (.s [.a 66 3 3,.l 67 66,.o 68 (.bw 1 (.t 67) .w),.l 69 68,.c 70 263 [.t 69],.m 65 70,.e 71 65 0,.e 72 65 1,.m 7 71,.m 8 72] (.seq (.s [.y 73 (.load (some 7) (.t 2)),.y 74 (.bn 2 (.t 3)),.j 75 74,.y 76 (.bw 1 (.t 75) .w),.j 77 76,.y 78 (.call (.f 264) [.t 73,.t 77]),.w 79 7,.u 80 .neq 78 79] (.j 80 [.r 81 7 2,.s 7 4 81,.o 5 (.cj (.n 2))])) (.ops [.m 82 8,.a 83 1 6,.s 1 83 82])))) (.seq (.s [.y 21 (.bn 2 (.t 3)),.j 22 21,.y 23 (.bw 1 (.t 22) .w),.j 24 23,.y 25 (.bn 2 (.t 3)),.j 26 25,.y 27 (.bw 1 (.t 26) (.n 2)),.j 28 27,.u 29 .eql 24 28] (.j 29 [.r 30 7 2,.s 7 4 30,.o 5 (.cj (.n 24))])) (.s [.y 31 (.load (some 7) (.t 2)),.y 32 (.bn 2 (.t 3)),.j 33 32,.y 34 (.bw 1 (.t 33) .w),.j 35 34,.c 36 264 [.t 31,.t 35],.a 37 1 6,.s 1 37 36] (.s [.y 38 (.load (some 7) (.t 2)),.y 39 (.bn 2 (.t 3)),.j 40 39,.y 41 (.bw 1 (.t 40) (.n 2)),.j 42 41,.y 43 (.call (.f 264) [.t 38,.t 42]),.y 44 (.bn 1 (.t 6)),.j 45 44,.u 46 .neq 43 45] (.j 46 [.r 47 7 2,.s 7 4 47,.o 5 (.cj (.n 2))])))))))))) (.seq (.s [.a 84 4 2,.l 85 84,.n 86 85,.v 87 .geq 86 (.n 32)] (.j 87 [.r 88 7 2,.s 7 4 88,.o 5 (.cj (.n 5))])) (.s [.a 89 4 2,.l 90 89,.r 91 4 6,.o 92 (.a8 4 1 [.str [],.str [],.str [],.af] [(0,.t 91)]),.o 93 (.app 4 72 (.t 90) (.t 92)),.a 94 4 2,.s 1 94 93] (.r [.r 95 7 2,.s 7 4 95,.o 5 (.cj .z)]))))))⟩
def fn227:au:=⟨223,2,[(4,some (some 7)),(5,none)],(.s [.p 2 0,.p 3 1,.o 4 (.box (.c (.agg [.int .i64 0,.af,.af,.af,.af,.af,.af]))),.o 5 (.cj .z)] (.seq (.s [.a 14 1 3,.l 15 14] (.block 0 (.s [.v 35 .eql 15 (.c (.str [114,117,110])),.m 34 35] (.i 34 (.s [.y 36 (.load (some 7) (.t 2)),.y 37 (.bn 2 (.t 3)),.j 38 37,.y 39 (.bw 1 (.t 38) .w),.j 40 39,.c 41 59 [.t 36,.t 40],.m 6 41] (.seq (.s [.o 7 (.cj .z)] (.block 1 (.loop (.seq (.s [.m 42 7,.m 43 6,.n 44 43,.u 45 .lss 42 44] (.i 45 .skip (.exit 1))) (.seq (.block 2 (.s [.y 48 (.bn 1 (.t 2)),.j 49 48,.y 50 (.load (some 7) (.t 2)),.w 51 6,.w 52 7,.y 53 (.bw 1 (.t 51) (.t 52)),.j 54 53,.y 55 (.call (.f 28) [.t 50,.t 54]),.h 56 3 49 55,.a 57 2 56,.l 58 57,.o 59 (.un .not (.t 58))] (.j 59 [.r 60 7 2,.s 7 4 60,.o 5 (.cj (.n 32))]))) (.ops [.m 46 7,.v 47 .add 46 .w,.m 7 47])))))) (.seq (.s [.a 61 3 3,.l 62 61,.o 63 (.bw 1 (.t 62) .w),.l 64 63,.c 65 20 [.t 64,.w,.n 32]] (.j 65 [.r 66 7 2,.s 7 4 66,.o 5 (.cj (.n 3))])) (.seq (.s [.a 67 5 2,.l 68 67,.n 69 68,.v 70 .geq 69 (.n 16)] (.j 70 [.r 71 7 2,.s 7 4 71,.o 5 (.cj (.n 5))])) (.s [.y 72 (.bn 2 (.t 3)),.j 73 72,.y 74 (.bw 1 (.t 73) .z),.j 75 74,.y 76 (.bn 2 (.t 3)),.j 77 76,.y 78 (.bw 1 (.t 77) .w),.j 79 78,.y 80 (.build [.str [],.str [],.af] [(0,1,.t 75),(1,1,.t 79)]),.y 8 (.box (.c (.agg [.str [],.str [],.af]))),.s 3 8 80] (.seq (.s [.o 9 (.cj .z)] (.block 3 (.loop (.seq (.s [.m 81 9,.a 82 3 3,.l 83 82,.o 84 (.bw 1 (.t 83) .w),.l 85 84,.u 86 .lss 81 85] (.i 86 .skip (.exit 3))) (.seq (.block 4 (.ops [.a 89 2 8,.l 90 89,.o 91 (.a8 1 1 [.int .i64 0] [(0,(.n (-1)))]),.o 92 (.app 1 8 (.t 90) (.t 91)),.a 93 2 8,.s 1 93 92])) (.ops [.m 87 9,.v 88 .add 87 .w,.m 9 88])))))) (.ops [.a 94 5 2,.l 95 94,.r 96 3 8,.o 97 (.a8 3 1 [.str [],.str [],.af] [(0,.t 96)]),.o 98 (.app 3 56 (.t 95) (.t 97)),.a 99 5 2,.s 1 99 98]))))))) (.seq (.s [.v 101 .eql 15 (.c (.str [116,105,108,101])),.m 100 101] (.i 100 .skip (.ops [.v 102 .eql 15 (.c (.str [102,97,105,108])),.m 100 102]))) (.i 100 (.s [.y 103 (.load (some 7) (.t 2)),.y 104 (.bn 2 (.t 3)),.j 105 104,.y 106 (.bw 1 (.t 105) .z),.j 107 106,.c 108 56 [.t 103,.t 107],.m 10 108] (.seq (.s [.y 109 (.load (some 7) (.t 2)),.y 110 (.bn 2 (.t 3)),.j 111 110,.y 112 (.bw 1 (.t 111) .z),.j 113 112,.c 114 265 [.t 109,.t 113]] (.j 114 [.r 115 7 2,.s 7 4 115,.o 5 (.cj (.n 23))])) (.s [.a 116 3 3,.l 117 116,.o 118 (.bw 1 (.t 117) .w),.l 119 118,.m 11 119] (.seq (.s [.m 120 11,.a 121 5 2,.l 122 121,.m 123 10,.h 124 3 122 123,.a 125 2 124,.l 126 125,.n 127 126,.u 128 .geq 120 127] (.j 128 [.r 129 7 2,.s 7 4 129,.o 5 (.cj (.n 3))])) (.seq (.s [.a 130 1 3,.l 131 130,.v 132 .eql 131 (.c (.str [102,97,105,108]))] (.i 132 (.seq (.s [.a 133 5 2,.l 134 133,.m 135 10,.h 136 3 134 135,.a 137 2 136,.l 138 137,.m 139 11,.h 140 1 138 139,.l 141 140,.v 142 .lss 141 .z] (.j 142 [.r 143 7 2,.s 7 4 143,.o 5 (.cj (.n 7))])) (.s [.a 144 5 2,.l 145 144,.m 146 10,.h 147 3 145 146,.a 148 2 147,.l 149 148,.m 150 11,.h 151 1 149 150,.x (.store 1 (.t 151) (.n (-1)))] (.r [.r 152 7 2,.s 7 4 152,.o 5 (.cj .z)]))) .skip)) (.seq (.s [.a 153 5 2,.l 154 153,.m 155 10,.h 156 3 154 155,.a 157 2 156,.l 158 157,.m 159 11,.h 160 1 158 159,.l 161 160,.v 162 .geq 161 .z] (.j 162 [.r 163 7 2,.s 7 4 163,.o 5 (.cj (.n 9))])) (.ops [.y 164 (.bn 5 (.t 2)),.j 165 164,.w 166 10,.y 167 (.bw 3 (.t 165) (.t 166)),.y 168 (.bn 2 (.t 167)),.j 169 168,.w 170 11,.y 171 (.bn 3 (.t 3)),.j 172 171,.y 173 (.bw 1 (.t 172) (.n 2)),.j 174 173,.h 175 1 169 170,.s 1 175 174]))))))) (.s [.v 177 .eql 15 (.c (.str [112,105,99,116,117,114,101])),.m 176 177] (.i 176 (.s [.y 178 (.bn 5 (.t 2)),.j 179 178,.y 180 (.load (some 7) (.t 2)),.y 181 (.bn 2 (.t 3)),.j 182 181,.y 183 (.bw 1 (.t 182) .w),.j 184 183,.y 185 (.call (.f 56) [.t 180,.t 184]),.y 186 (.bw 3 (.t 179) (.t 185)),.y 187 (.load (some 3) (.t 186)),.y 12 (.box (.c (.agg [.str [],.str [],.af]))),.s 3 12 187] (.seq (.s [.y 188 (.load (some 7) (.t 2)),.y 189 (.bn 2 (.t 3)),.j 190 189,.y 191 (.bw 1 (.t 190) .w),.j 192 191,.c 193 265 [.t 188,.t 192]] (.j 193 [.r 194 7 2,.s 7 4 194,.o 5 (.cj (.n 23))])) (.seq (.s [.r 195 3 12,.c 196 60 [.t 195],.n 197 196,.v 198 .gtr 197 .z] (.j 198 [.r 199 7 2,.s 7 4 199,.o 5 (.cj (.n 32))])) (.seq (.s [.a 200 6 2,.l 201 200,.n 202 201,.v 203 .geq 202 (.n 16)] (.j 203 [.r 204 7 2,.s 7 4 204,.o 5 (.cj (.n 5))])) (.ops [.y 205 (.bn 6 (.t 2)),.j 206 205,.y 207 (.bn 2 (.t 3)),.j 208 207,.y 209 (.bw 1 (.t 208) .z),.j 210 209,.y 211 (.bn 2 (.t 3)),.j 212 211,.y 213 (.bw 1 (.t 212) .w),.j 214 213,.y 215 (.bn 2 (.t 12)),.j 216 215,.y 217 (.call (.f 31) [.t 216]),.y 218 (.build [.str [],.str [],.int .i64 0,.bool false] [(0,1,.t 210),(1,1,.t 214),(2,1,.t 217),(3,1,.F)]),.y 219 (.a8 4 1 [.str [],.str [],.int .i64 0,.bool false] [(0,.t 218)]),.o 220 (.app 4 48 (.t 206) (.t 219)),.a 221 6 2,.s 1 221 220]))))) (.s [.y 16 (.load (some 7) (.t 2)),.y 17 (.bn 2 (.t 3)),.j 18 17,.y 19 (.bw 1 (.t 18) .z),.j 20 19,.c 21 57 [.t 16,.t 20],.m 13 21] (.seq (.s [.a 22 6 2,.l 23 22,.m 24 13,.h 25 4 23 24,.a 26 3 25,.l 27 26] (.j 27 [.r 28 7 2,.s 7 4 28,.o 5 (.cj (.n 23))])) (.ops [.a 29 6 2,.l 30 29,.m 31 13,.h 32 4 30 31,.a 33 3 32,.x (.store 1 (.t 33) .T)]))))))))))) (.r [.r 222 7 2,.s 7 4 222,.o 5 (.cj .z)])))⟩
def fn228:au:=gA 228
def fn229:au:=gA 229
def fn230:au:=gA 230
def fn231:au:=gA 231
def fn232:au:=gA 232
def fn233:au:=gA 233
def fn234:au:=gA 234
def fn235:au:=gA 235
def fn236:au:=gA 236
def fn237:au:=gA 237
def fn238:au:=gA 238
def fn239:au:=gA 239
def fn240:au:=gA 240
def fn241:au:=gA 241
def fn242:au:=gA 242
def fn243:au:=gA 243
def fn244:au:=gA 244
def fn245:au:=gA 245
def fn246:au:=gA 246
def fn247:au:=gA 247
def fn248:au:=gA 248
def fn249:au:=⟨28,2,[(4,none)],(.s [.p 2 0,.p 3 1,.o 4 (.cj .z)] (.r [.y 5 (.load (some 7) (.t 2)),.y 6 (.bn 2 (.t 3)),.j 7 6,.y 8 (.bw 1 (.t 7) .z),.j 9 8,.y 10 (.call (.f 251) [.t 5,.t 9]),.y 11 (.call (.f 85) [.t 10,.n 23]),.y 12 (.bn 3 (.t 3)),.j 13 12,.y 14 (.bw 1 (.t 13) .w),.j 15 14,.y 16 (.load (some 7) (.t 2)),.y 17 (.bn 2 (.t 3)),.j 18 17,.y 19 (.bw 1 (.t 18) .z),.j 20 19,.y 21 (.call (.f 124) [.t 16,.t 20]),.y 22 (.part none 2 (.t 21)),.y 23 (.len .sl (.t 22)),.y 24 (.bin .sub (.t 23) .w),.c 25 94 [.t 15,.z,.t 24],.o 26 (.a8 1 2 [.int .i64 0] [(0,.t 11),(1,.t 25)]),.c 27 74 [.t 26],.m 4 27]))⟩
def fn250:au:=⟨28,3,[],(.s [.p 4 1] (.ops [.w 6 0,.y 7 (.bT (.t 6)),.y 8 (.bn 5 (.t 7)),.j 9 8,.w 10 0,.y 11 (.bT (.t 10)),.y 12 (.bn 5 (.t 11)),.j 13 12,.y 14 (.bn 2 (.t 4)),.j 15 14,.y 16 (.bw 1 (.t 15) .z),.j 17 16,.y 18 (.call (.f 145) [.t 13,.t 17]),.y 19 (.bw 3 (.t 9) (.t 18)),.y 20 (.bn 2 (.t 19)),.j 21 20,.y 22 (.bn 3 (.t 4)),.j 23 22,.y 24 (.bw 1 (.t 23) .w),.j 25 24,.w 26 2,.h 27 1 21 25,.s 1 27 26]))⟩
def fn251:au:=gA 251
def fn252:au:=gA 252
def fn253:au:=gA 253
def fn254:au:=gA 254
def fn255:au:=gA 255
def fn259:au:=gA 259
def fn263:au:=gA 263
def fn264:au:=⟨13,2,[(4,none)],(.s [.p 2 0,.o 4 (.cj (.c (.str [])))] (.r [.y 5 (.bn 4 (.t 2)),.j 6 5,.y 7 (.load (some 7) (.t 2)),.w 8 1,.y 9 (.call (.f 55) [.t 7,.t 8]),.h 10 4 6 9,.a 11 1 10,.l 12 11,.m 4 12]))⟩
def fn265:au:=gA 265
def fn266:au:=gA 266
def fn267:au:=gA 267
def fn268:au:=gA 268
def HB:au:=⟨8,1,[(3,none)],(.s [.p 2 0,.o 3 (.cj .F)] (.r [.a 4 1 2,.l 5 4,.l 6 1,.u 7 .eql 5 6,.m 3 7]))⟩
def fn269:au:=HB
def Ml(x0:Nat):au:=⟨8,2,[(4,none)],(.s [.o 4 (.cj .z)] (.r [.m 5 0,.m 6 1,.c 7 x0 [.t 5,.t 6],.m 4 7]))⟩
def fn272:au:=Ml 288
def fn286:au:=gA 286
def fn322:au:=gA 322
def fn323:au:=gA 323
def fn324:au:=gA 324
abbrev Cf(P:Program)(n:Nat)(A:au):Prop:=bU P n=some A
structure eD(P:Program):Prop where
 mix:P.follows .mixedOrders=true
 m123:jj P 78 "moveout/house.name" =some 123
 m322:jj P 73 "moveout/house.name" =some 322
 m140:jj P 74 "moveout/house.name" =some 140
 m120:jj P 134 "moveout/house.name" =some 120
 m324:jj P 136 "moveout/house.name" =some 324
 m323:jj P 130 "moveout/house.name" =some 323
 c2:Cf P 2 fn2
 c3:Cf P 3 fn3
 c4:Cf P 4 fn4
 c10:Cf P 10 fn10
 c14:Cf P 14 fn14
 c15:Cf P 15 fn15
 c16:Cf P 16 fn16
 c17:Cf P 17 fn17
 c18:Cf P 18 fn18
 c19:Cf P 19 fn19
 c20:Cf P 20 fn20
 c22:Cf P 22 fn22
 c23:Cf P 23 fn23
 c25:Cf P 25 fn25
 c26:Cf P 26 fn26
 c27:Cf P 27 fn27
 c28:Cf P 28 fn28
 c31:Cf P 31 fn31
 c32:Cf P 32 fn32
 c33:Cf P 33 fn33
 c35:Cf P 35 fn35
 c36:Cf P 36 fn36
 c37:Cf P 37 fn37
 c39:Cf P 39 fn39
 c41:Cf P 41 fn41
 c43:Cf P 43 fn43
 c44:Cf P 44 fn44
 c45:Cf P 45 fn45
 c51:Cf P 51 fn51
 c55:Cf P 55 fn55
 c56:Cf P 56 fn56
 c57:Cf P 57 fn57
 c58:Cf P 58 fn58
 c59:Cf P 59 fn59
 c60:Cf P 60 fn60
 c62:Cf P 62 fn62
 c63:Cf P 63 fn63
 c64:Cf P 64 fn64
 c67:Cf P 67 fn67
 c70:Cf P 70 fn70
 c71:Cf P 71 fn71
 c72:Cf P 72 fn72
 c73:Cf P 73 fn73
 c74:Cf P 74 fn74
 c75:Cf P 75 fn75
 c76:Cf P 76 fn76
 c77:Cf P 77 fn77
 c78:Cf P 78 fn78
 c79:Cf P 79 fn79
 c80:Cf P 80 fn80
 c81:Cf P 81 fn81
 c84:Cf P 84 fn84
 c85:Cf P 85 fn85
 c86:Cf P 86 fn86
 c87:Cf P 87 fn87
 c88:Cf P 88 fn88
 c89:Cf P 89 fn89
 c90:Cf P 90 fn90
 c91:Cf P 91 fn91
 c92:Cf P 92 fn92
 c93:Cf P 93 fn93
 c94:Cf P 94 fn94
 c95:Cf P 95 fn95
 c96:Cf P 96 fn96
 c97:Cf P 97 fn97
 c98:Cf P 98 fn98
 c99:Cf P 99 fn99
 c101:Cf P 101 fn101
 c102:Cf P 102 fn102
 c103:Cf P 103 fn103
 c108:Cf P 108 fn108
 c109:Cf P 109 fn109
 c110:Cf P 110 fn110
 c111:Cf P 111 fn111
 c112:Cf P 112 fn112
 c113:Cf P 113 fn113
 c114:Cf P 114 fn114
 c115:Cf P 115 fn115
 c116:Cf P 116 fn116
 c117:Cf P 117 fn117
 c118:Cf P 118 fn118
 c119:Cf P 119 fn119
 c120:Cf P 120 fn120
 c121:Cf P 121 fn121
 c122:Cf P 122 fn122
 c123:Cf P 123 fn123
 c124:Cf P 124 fn124
 c125:Cf P 125 fn125
 c126:Cf P 126 fn126
 c127:Cf P 127 fn127
 c128:Cf P 128 fn128
 c129:Cf P 129 fn129
 c130:Cf P 130 fn130
 c131:Cf P 131 fn131
 c132:Cf P 132 fn132
 c133:Cf P 133 fn133
 c134:Cf P 134 fn134
 c135:Cf P 135 fn135
 c136:Cf P 136 fn136
 c137:Cf P 137 fn137
 c138:Cf P 138 fn138
 c139:Cf P 139 fn139
 c140:Cf P 140 fn140
 c141:Cf P 141 fn141
 c142:Cf P 142 fn142
 c143:Cf P 143 fn143
 c144:Cf P 144 fn144
 c145:Cf P 145 fn145
 c146:Cf P 146 fn146
 c147:Cf P 147 fn147
 c148:Cf P 148 fn148
 c149:Cf P 149 fn149
 c150:Cf P 150 fn150
 c151:Cf P 151 fn151
 c152:Cf P 152 fn152
 c153:Cf P 153 fn153
 c154:Cf P 154 fn154
 c155:Cf P 155 fn155
 c156:Cf P 156 fn156
 c157:Cf P 157 fn157
 c158:Cf P 158 fn158
 c159:Cf P 159 fn159
 c160:Cf P 160 fn160
 c161:Cf P 161 fn161
 c162:Cf P 162 fn162
 c163:Cf P 163 fn163
 c164:Cf P 164 fn164
 c165:Cf P 165 fn165
 c166:Cf P 166 fn166
 c167:Cf P 167 fn167
 c168:Cf P 168 fn168
 c169:Cf P 169 fn169
 c170:Cf P 170 fn170
 c171:Cf P 171 fn171
 c172:Cf P 172 fn172
 c173:Cf P 173 fn173
 c174:Cf P 174 fn174
 c175:Cf P 175 fn175
 c176:Cf P 176 fn176
 c177:Cf P 177 fn177
 c178:Cf P 178 fn178
 c179:Cf P 179 fn179
 c180:Cf P 180 fn180
 c181:Cf P 181 fn181
 c182:Cf P 182 fn182
 c183:Cf P 183 fn183
 c184:Cf P 184 fn184
 c185:Cf P 185 fn185
 c186:Cf P 186 fn186
 c187:Cf P 187 fn187
 c188:Cf P 188 fn188
 c189:Cf P 189 fn189
 c190:Cf P 190 fn190
 c193:Cf P 193 fn193
 c194:Cf P 194 fn194
 c195:Cf P 195 fn195
 c197:Cf P 197 fn197
 c198:Cf P 198 fn198
 c199:Cf P 199 fn199
 c200:Cf P 200 fn200
 c201:Cf P 201 fn201
 c202:Cf P 202 fn202
 c203:Cf P 203 fn203
 c204:Cf P 204 fn204
 c205:Cf P 205 fn205
 c206:Cf P 206 fn206
 c207:Cf P 207 fn207
 c208:Cf P 208 fn208
 c213:Cf P 213 fn213
 c214:Cf P 214 fn214
 c215:Cf P 215 fn215
 c216:Cf P 216 fn216
 c217:Cf P 217 fn217
 c218:Cf P 218 fn218
 c219:Cf P 219 fn219
 c221:Cf P 221 fn221
 c222:Cf P 222 fn222
 c223:Cf P 223 fn223
 c224:Cf P 224 fn224
 c225:Cf P 225 fn225
 c226:Cf P 226 fn226
 c227:Cf P 227 fn227
 c228:Cf P 228 fn228
 c229:Cf P 229 fn229
 c230:Cf P 230 fn230
 c231:Cf P 231 fn231
 c232:Cf P 232 fn232
 c233:Cf P 233 fn233
 c234:Cf P 234 fn234
 c235:Cf P 235 fn235
 c236:Cf P 236 fn236
 c237:Cf P 237 fn237
 c238:Cf P 238 fn238
 c239:Cf P 239 fn239
 c240:Cf P 240 fn240
 c241:Cf P 241 fn241
 c242:Cf P 242 fn242
 c243:Cf P 243 fn243
 c244:Cf P 244 fn244
 c245:Cf P 245 fn245
 c246:Cf P 246 fn246
 c247:Cf P 247 fn247
 c248:Cf P 248 fn248
 c249:Cf P 249 fn249
 c250:Cf P 250 fn250
 c251:Cf P 251 fn251
 c252:Cf P 252 fn252
 c253:Cf P 253 fn253
 c254:Cf P 254 fn254
 c255:Cf P 255 fn255
 c259:Cf P 259 fn259
 c263:Cf P 263 fn263
 c264:Cf P 264 fn264
 c265:Cf P 265 fn265
 c266:Cf P 266 fn266
 c267:Cf P 267 fn267
 c268:Cf P 268 fn268
 c269:Cf P 269 fn269
 c272:Cf P 272 fn272
 c286:Cf P 286 fn286
 c322:Cf P 322 fn322
 c323:Cf P 323 fn323
 c324:Cf P 324 fn324
end Go.Abs
