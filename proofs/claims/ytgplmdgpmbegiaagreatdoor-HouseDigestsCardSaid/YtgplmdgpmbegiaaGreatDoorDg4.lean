/- A part of the proof that HouseDigests holds. No condition. -/
import Derived.Test.YtgplmdgpmbegiaaGreatDoorDg3
import Derived.Test.YtgplmdgpmbegiaaGreatDoorProg
import Derived.Test.YtgplmdgpmbegiaaGreatDoorDg0
set_option linter.all false
open Nat (reduceAdd reduceMul reduceLeDiff reduceEqDiff)
namespace Go.Abs
def Ext(h h':af):Prop:=∃g,h' =h++g
def Ext.refl(h:af):Ext h h:=⟨[],Si⟩
def Ext.app{h k}(g:af)(e:Ext h k):Ext h (k++g):=by
 obtain⟨x,rfl⟩:=e;exact⟨x++g,Si⟩
def Ext.trans{a b c}(h:Ext a b)(k:Ext b c):Ext a c:=by
 obtain⟨x,rfl⟩:=h;obtain⟨y,rfl⟩:=k;exact⟨x++y,Si⟩
def Ext.get{h k}(e:Ext h k){b}(hb:b<h.length):k[b]? =h[b]? :=by
 obtain⟨x,rfl⟩:=e;exact Tj hb
theorem Ext.some{h k:af}(e:Ext h k){b:Nat}{x:ai}(hb:h[b]? =some x):k[b]? =some x:=by
 rw[e.get (Th.1 hb).1];exact hb
def Ext.len{h k}(e:Ext h k):h.length<=k.length:=by
 obtain⟨x,rfl⟩:=e;simp
def qX(P:Program)(q:Bool)(fv:AV)(args:List AV)(h:af)(K:AV->af->Prop):Prop:=
 ∃v h',dP P fv args h v h'/\(q=true->Ext h h')/\K v h'
def fR.quiet:fR->Bool
 |.aq=>true
 |.push _=>true
 |_=>false
def fR.xJ{e:fR}{h:af}(he:e.quiet=true):Ext h (e.app h):=by
 cases e with
 |aq=>exact Ext.refl h
 |push k=>exact⟨[k],rfl⟩
 |set b k=>cases he
 |lB b k k'=>cases he
def WK(P:Program)(q:Bool)(k:mD)(ρ:cC->AV)(h:af)(K:AV->af->Prop):Prop:=
 match k with
 |.call f args=>qX P q (ρ f) (args.map ρ) h K
 |k=>
  match stepT k ρ (λb=>h[b]?) h.length with
  |some (v,e)=>(q=true->e.quiet=true)/\K v (e.app h)
  |none=>False
def zY(d:Option Nat)(k:mD)(n:Nat)(X:Prop):Prop:=
 match k,d with
 |.lX _ _,some d=>d<n/\X
 |_,_=>X
def n9{d k n}{X:Prop}:zY d k n X↔zX d k n/\X:=by
 cases k<;>cases d<;>simp[zY,zX]
def zY.mono{d k n}{X Y:Prop}(h:X->Y)(x:zY d k n X):zY d k n Y:=n9.2 ⟨(n9.1 x).1,h (n9.1 x).2⟩
def WS(P:Program)(o:aZ)(ts:TS)(h:af)(K:AV->af->Prop):Prop:=
 match o.gd with
 |none=>zY o.dst o.k ts.length (WK P o.q o.k (val ts) h K)
 |some (t,b)=>
  match val ts (.t t)with
  |.bool c=>if c=b then zY o.dst o.k ts.length (WK P o.q o.k (val ts) h K)else K ar h
  |_=>K ar h
def WO(P:Program):List aZ->TS->af->(TS->af->Prop)->Prop
 |[],ts,h,Q=>Q ts h
 |o::r,ts,h,Q=>WS P o ts h (λv h1=>WO P r (put ts o.dst v) h1 Q)
def WK.sound{P:Program}{q:Bool}{k:mD}{ρ:cC->AV}{h:af}{K:AV->af->Prop}(H:WK P q k ρ h K):∃v h',nn P k ρ h v h'/\(q=true->Ext h h')/\K v h':=by
 by_cases hc:∃f args,k=.call f args
 ·obtain⟨f,args,rfl⟩:=hc;exact H
 ·have H':(match stepT k ρ (λb=>h[b]?) h.length with
   |some (v,e)=>(q=true->e.quiet=true)/\K v (e.app h)
   |none=>False):=by
   exact z162
  split at H'
  case h_2=>exact H'.elim
  rename_i v e he;refine⟨v,e.app h,?_,λhq=>fR.xJ (H'.1 hq),H'.2⟩;have:=lu he;cases k<;>first|exact this|exact absurd ⟨_,_,rfl⟩ hc
theorem WS.sound{P o ts h K}(H:WS P o ts h K):∃v h',cQ P o ts h (put ts o.dst v) h'/\(o.q=true->∃g,h' =h++g)/\K v h':=by
 have run:wanted o.gd ts->zY o.dst o.k ts.length (WK P o.q o.k (val ts) h K)->∃v h',cQ P o ts h (put ts o.dst v) h'/\(o.q=true->∃g,h' =h++g)/\K v h':=λhw hk=>by
  obtain⟨hb,hk⟩:=n9.1 hk;obtain⟨v,h',h1,h2,h3⟩:=hk.sound;exact⟨v,h',.run hw hb h1,h2,h3⟩
 have skip:¬wanted o.gd ts->K ar h->∃v h',cQ P o ts h (put ts o.dst v) h'/\(o.q=true->∃g,h' =h++g)/\K v h':=λhw hk=>
  ⟨ar,h,.skip hw,λ_=>Ext.refl h,hk⟩
 unfold WS at H;split at H
 ·rename_i hg;exact run (by rw[hg];trivial) H
 ·rename_i t b hg;split at H
  ·rename_i c hv;have hx:ts[t]? =some (.bool c):=by
    simp only[val,List.getD]at hv;cases hy:ts[t]? with
    |none=>rw[hy]at hv;cases hv
    |some z=>rw[hy]at hv;simp only[Vk]at hv;rw[hv]
   split at H
   ·rename_i hcb;subst hcb;exact run (by rw[hg];exact hx) H
   ·rename_i hcb;refine skip (λhw=>hcb ?_) H;rw[hg]at hw;simp only[wanted,hx,TG,AV.bool.injEq]at hw;exact hw
  ·rename_i hv;refine skip (λhw=>?_) H;rw[hg]at hw;simp only[wanted]at hw;exact hv b (by simp[val,List.getD,hw])
theorem WO.sound{P}:∀{l}{ts}{h}{Q},WO P l ts h Q->∃ts' h',vD P l ts h ts' h'/\Q ts' h'
 |[],ts,h,Q,H=>⟨ts,h,⟨rfl,rfl⟩,H⟩
 |o::r,ts,h,Q,H=>by
  obtain⟨v,h1,h2,h3,h4⟩:=WS.sound H;obtain⟨ts',h',h5,h6⟩:=WO.sound (l:=r) h4;exact⟨ts',h',⟨_,h1,h2,h3,h5⟩,h6⟩
def WM(P:Program)(S:af->Prop):List aZ->TS->af->(TS->af->Prop)->Prop
 |[],ts,h,K=>S h/\K ts h
 |o::r,ts,h,K=>S h/\((iW (o::r)=true/\WO P (o::r) ts h K)\/(iW (o::r)=false/\
   ((kC o=true/\∃v,(∀g,S g->cQ P o ts g (put ts o.dst v) g)/\WM P S r (put ts o.dst v) h K)\/(kC o=false/\WS P o ts h (λv h1=>WM P S r (put ts o.dst v) h1 K)))))
theorem WM.sound{P S}:∀{l}{ts}{h}{K},WM P S l ts h K->∃T H,Row P l T H/\T 0=ts/\H 0=h/\(∀(i:Nat) (io:aZ),l[i]? =some io->kC io=true->∀g,S g->cQ P io (T i) g (T (i+1)) g)/\(∀θ,θ<=cV l->S (H θ))/\K (T l.length) (H l.length)
 |[],ts,h,K,H=>⟨λ_=>ts,λ_=>h,⟨λi o ho=>by simp at ho⟩,rfl,rfl,λi io ho=>by simp at ho,λ_ _=>H.1,H.2⟩
 |o::r,ts,h,K,H=>by
  obtain⟨h0,H⟩:=H;rcases H with⟨hall,H⟩|⟨hall,H⟩
  ·obtain⟨ts',h',h1,h2⟩:=WO.sound H;obtain⟨T,G,rfl,rfl,rfl,rfl,r5⟩:=h1.row;refine⟨T,G,r5,rfl,rfl,λi io hio hld=>?_,λθ hθ=>?_,h2⟩
   ·have:=TM.1 (Bool.and_eq_true_iff.1 hall).1 io (T6 hio);unfold kC at hld;unfold zP at this;cases hk:io.k<;>rw[hk]at hld this<;>simp[ec]at hld this
   ·rw[cV,Ty hall]at hθ;have:θ=0:=Om
    subst this;exact h0
  have key:∃v h1,cQ P o ts h (put ts o.dst v) h1/\(o.q=true->∃g,h1=h++g)/\(kC o=true->∀g,S g->cQ P o ts g (put ts o.dst v) g)/\WM P S r (put ts o.dst v) h1 K:=by
   rcases H with⟨hl,v,h1,h2⟩|⟨hl,H⟩
   ·exact⟨v,h,h1 h h0,λ_=>⟨[],Si⟩,λ_=>h1,h2⟩
   ·obtain⟨v,h1,h2,h3,h4⟩:=WS.sound H;refine⟨v,h1,h2,h3,λz=>?_,h4⟩;rw[hl]at z;cases z
  obtain⟨v,h1,k1,k2,k3,k4⟩:=key;obtain⟨T,G,r1,r2,r3,r4,r5,r6⟩:=WM.sound (l:=r) k4
  let T':Nat->TS:=λn=>match n with| 0=>ts|n+1=>T n
  let G':Nat->af:=λn=>match n with| 0=>h|n+1=>G n
  refine⟨T',G',⟨λi o' ho=>?_⟩,rfl,rfl,λi io hio hld g hg=>?_,λθ hθ=>?_,r6⟩
  ·cases i with
   |zero=>
    simp only[Uo,TG]at ho;subst ho;show cQ P o ts h (T 0) (G 0)/\(o.q=true->∃g,G 0=h++g);rw[r2,r3];exact⟨k1,k2⟩
   |succ i=>exact r1.step i o' (by simpa using ho)
  ·cases i with
   |zero=>
    simp only[Uo,TG]at hio;subst hio;show cQ P o ts g (T 0) g;rw[r2];exact k3 hld g hg
   |succ i=>exact r4 i io (by simpa using hio) hld g hg
  ·cases θ with
   |zero=>exact h0
   |succ θ=>
    rw[cV,Tt (by rw[hall];decide)]at hθ;exact r5 θ Om
def W(P:Program)(ro:Option Nat->Prop):aj->TS->af->(Ex->TS->af->Prop)->Prop
 |.skip,ts,h,Q=>Q .normal ts h
 |.ops l,ts,h,Q=>WO P l ts h (Q .normal)
 |.pX l,ts,h,Q=>yB h l ts [] λts' cs=>dJ cs/\Q .normal ts' (c7 h cs)
 |.lI l,ts,h,Q=>∃S,WM P S l ts h (Q .normal)
 |.seq a b,ts,h,Q=>W P ro a ts h λe O3 h1=>
  match e with
  |.normal=>W P ro b O3 h1 Q
  |.exit id=>Q (.exit id) O3 h1
  |.ret=>Q .ret O3 h1
 |.cond c a b,ts,h,Q=>
  match val ts c with
  |.bool t=>(t=true->W P ro a ts h Q)/\(t=false->W P ro b ts h Q)
  |_=>False
 |.block id a,ts,h,Q=>W P ro a ts h λe=>Q (e.inBlock id)
 |.loop a,ts,h,Q=>∃e ts' h',(∀r,ro r->qV P r a ts h e ts' h')/\Q e ts' h'
 |.exit id,ts,h,Q=>Q (.exit id) ts h
 |.ret,ts,h,Q=>Q .ret ts h
 |.eM g ps asg body,ts,h,Q=>∃e ts' h',(∀r,ro r->Ev P r (.eM g ps asg body) ts h e ts' h')/\Q e ts' h'
 |.bad,_,_,_=>False
def bS:Option Nat->Prop:=λr=>r=none
def zW:Option Nat->Prop:=λr=>∃l,r=some l
theorem W.sound{P}(hmix:P.follows .mixedOrders=true){ro}:∀{c}{ts}{h}{Q},W P ro c ts h Q->∃e ts' h',(∀r,ro r->Ev P r c ts h e ts' h')/\Q e ts' h'
 |.skip,ts,h,Q,H=>⟨.normal,ts,h,λ_ _=>.skip,H⟩
 |.ops l,ts,h,Q,H=>by
  obtain⟨ts',h',h1,h2⟩:=WO.sound (l:=l) H;exact⟨.normal,ts',h',λ_ _=>.ops hmix h1,h2⟩
 |.pX l,ts,h,Q,H=>by
  obtain⟨Qa,Te,ts',h1,⟨h2,h3⟩,h4,h5⟩:=yB.sound (l:=l) H;rw[UP]at h2 h3;exact⟨.normal,ts',c7 h Qa,λ_ _=>.pX hmix h1 (by simpa using h4 [] [] (by simpa using h2)),by rw[h5];exact h3⟩
 |.lI l,ts,h,Q,H=>by
  obtain⟨S,H⟩:=H;obtain⟨T,G,r1,rfl,rfl,r4,r5,r6⟩:=WM.sound (l:=l) H;exact⟨.normal,_,_,λ_ _=>.lI hmix r1 λi io hio hld θ hθ=>r4 i io hio hld _ (r5 θ hθ),r6⟩
 |.seq a b,ts,h,Q,H=>by
  obtain⟨e,O3,h1,h2,h3⟩:=W.sound hmix (c:=a) H;cases e with
  |normal=>
   obtain⟨e,ts',h',h4,h5⟩:=W.sound hmix (c:=b) h3;exact⟨e,ts',h',λr hr=>.seq (h2 r hr) (h4 r hr),h5⟩
  |exit id=>exact⟨_,O3,h1,λr hr=>.sJ (h2 r hr) Si,h3⟩
  |ret=>exact⟨_,O3,h1,λr hr=>.sJ (h2 r hr) Si,h3⟩
 |.cond c a b,ts,h,Q,H=>by
  unfold W at H;split at H
  case h_2=>exact H.elim
  rename_i t hv;cases t with
  |true=>
   obtain⟨e,ts',h',h4,h5⟩:=W.sound hmix (c:=a) (H.1 rfl);exact⟨e,ts',h',λr hr=>.cond hv (h4 r hr),h5⟩
  |false=>
   obtain⟨e,ts',h',h4,h5⟩:=W.sound hmix (c:=b) (H.2 rfl);exact⟨e,ts',h',λr hr=>.cond hv (h4 r hr),h5⟩
 |.block id a,ts,h,Q,H=>by
  obtain⟨e,ts',h',h4,h5⟩:=W.sound hmix (c:=a) H;exact⟨_,ts',h',λr hr=>.block (h4 r hr),h5⟩
 |.loop a,ts,h,Q,H=>by
  obtain⟨e,ts',h',h4,h5⟩:=H;exact⟨e,ts',h',λr hr=>.loop (h4 r hr),h5⟩
 |.exit id,ts,h,Q,H=>⟨_,ts,h,λ_ _=>.exit,H⟩
 |.ret,ts,h,Q,H=>⟨_,ts,h,λ_ _=>.ret,H⟩
 |.eM g ps asg body,ts,h,Q,H=>H
 |.bad,ts,h,Q,H=>H.elim
def qX.mono{P q fv args h K K'}(H:qX P q fv args h K)(hk:∀v h',K v h'->K' v h'):qX P q fv args h K':=by
 obtain⟨v,h',h1,h2,h3⟩:=H;exact⟨v,h',h1,h2,hk v h' h3⟩
theorem WK.mono{P q k ρ h K K'}(H:WK P q k ρ h K)(hk:∀v h',K v h'->K' v h'):WK P q k ρ h K':=by
 by_cases hc:∃f args,k=.call f args
 ·obtain⟨f,args,rfl⟩:=hc;exact qX.mono H hk
 ·have H':(match stepT k ρ (λb=>h[b]?) h.length with
   |some (v,e)=>(q=true->e.quiet=true)/\K v (e.app h)
   |none=>False):=by
   exact z162
  have G':(match stepT k ρ (λb=>h[b]?) h.length with
   |some (v,e)=>(q=true->e.quiet=true)/\K' v (e.app h)
   |none=>False):=by
   split at H'
   case h_2=>exact H'.elim
   exact⟨H'.1,hk _ _ H'.2⟩
  cases k<;>first|exact G'|exact absurd ⟨_,_,rfl⟩ hc
theorem WS.mono{P o ts h K K'}(H:WS P o ts h K)(hk:∀v h',K v h'->K' v h'):WS P o ts h K':=by
 unfold WS at H ⊢;cases hg:o.gd with
 |none=>rw[hg]at H;exact zY.mono (λz=>WK.mono z hk) H
 |some p=>
  obtain⟨t,b⟩:=p;rw[hg]at H;simp only at H ⊢;cases hv:val ts (.t t)with
  |bool c=>
   rw[hv]at H;simp only at H ⊢;by_cases hcb:c=b
   ·rw[Ty hcb]at H ⊢;exact zY.mono (λz=>WK.mono z hk) H
   ·rw[Tt hcb]at H ⊢;exact hk _ _ H
  |_=>rw[hv]at H;exact hk _ _ H
theorem WO.mono{P}:∀{l}{ts}{h}{Q Q'},WO P l ts h Q->(∀ts' h',Q ts' h'->Q' ts' h')->WO P l ts h Q'
 |[],ts,h,Q,Q',H,hq=>hq _ _ H
 |o::r,ts,h,Q,Q',H,hq=>WS.mono (o:=o) H λv h1 h2=>WO.mono (l:=r) h2 hq
theorem WM.mono{P S}:∀{l}{ts}{h}{K K'},WM P S l ts h K->(∀ts' h',K ts' h'->K' ts' h')->WM P S l ts h K'
 |[],ts,h,K,K',H,hk=>⟨H.1,hk _ _ H.2⟩
 |o::r,ts,h,K,K',H,hk=>by
  obtain⟨h0,H⟩:=H;refine⟨h0,?_⟩;rcases H with⟨ha,H⟩|⟨ha,H⟩
  ·exact .inl ⟨ha,WO.mono (l:=o::r) H hk⟩
  refine .inr ⟨ha,?_⟩;rcases H with⟨hl,v,h1,h2⟩|⟨hl,H⟩
  ·exact .inl ⟨hl,v,h1,WM.mono (l:=r) h2 hk⟩
  ·exact .inr ⟨hl,WS.mono (o:=o) H λv h1 h2=>WM.mono (l:=r) h2 hk⟩
theorem W.mono{P ro}:∀{c}{ts}{h}{Q Q'},W P ro c ts h Q->(∀e ts' h',Q e ts' h'->Q' e ts' h')->W P ro c ts h Q'
 |.skip,ts,h,Q,Q',H,hq=>hq _ _ _ H
 |.ops l,ts,h,Q,Q',H,hq=>WO.mono (l:=l) H (hq .normal)
 |.pX l,ts,h,Q,Q',H,hq=>yB.mono (l:=l) H λts' cs h1=>⟨h1.1,hq _ _ _ h1.2⟩
 |.lI l,ts,h,Q,Q',H,hq=>by obtain⟨S,H⟩:=H;exact⟨S,WM.mono (l:=l) H (hq .normal)⟩
 |.seq a b,ts,h,Q,Q',H,hq=>W.mono (c:=a) H λe O3 h1 h2=>by
  cases e with
  |normal=>exact W.mono (c:=b) h2 hq
  |exit id=>exact hq _ _ _ h2
  |ret=>exact hq _ _ _ h2
 |.cond c a b,ts,h,Q,Q',H,hq=>by
  unfold W at H ⊢;split at H
  case h_2=>exact H.elim
  exact⟨λh=>W.mono (c:=a) (H.1 h) hq,λh=>W.mono (c:=b) (H.2 h) hq⟩
 |.block id a,ts,h,Q,Q',H,hq=>W.mono (c:=a) H λe O3 h1 h2=>hq _ _ _ h2
 |.loop a,ts,h,Q,Q',H,hq=>by obtain⟨e,ts',h',h4,h5⟩:=H;exact⟨e,ts',h',h4,hq _ _ _ h5⟩
 |.exit id,ts,h,Q,Q',H,hq=>hq _ _ _ H
 |.ret,ts,h,Q,Q',H,hq=>hq _ _ _ H
 |.eM g ps asg body,ts,h,Q,Q',H,hq=>by obtain⟨e,ts',h',h4,h5⟩:=H;exact⟨e,ts',h',h4,hq _ _ _ h5⟩
 |.bad,ts,h,Q,Q',H,hq=>H.elim
inductive Kt where
 |y8 (b:aj)
 |pI (id:Nat)
def kq(P:Program)(ro:Option Nat->Prop):List Kt->(Ex->TS->af->Prop)->Ex->TS->af->Prop
 |[],Q,e,ts,h=>Q e ts h
 |.y8 b::ks,Q,e,ts,h=>
  match e with
  |.normal=>W P ro b ts h (kq P ro ks Q)
  |.exit id=>kq P ro ks Q (.exit id) ts h
  |.ret=>kq P ro ks Q .ret ts h
 |.pI id::ks,Q,e,ts,h=>kq P ro ks Q (e.inBlock id) ts h
section
variable (P:Program) (ro:Option Nat->Prop)
def WC(c:aj)(ks:List Kt)(ts:TS)(h:af)(Q:Ex->TS->af->Prop):Prop:=W P ro c ts h (kq P ro ks Q)
def WE(e:Ex)(ks:List Kt)(ts:TS)(h:af)(Q:Ex->TS->af->Prop):Prop:=kq P ro ks Q e ts h
def WP(l:List aZ)(ks:List Kt)(ts:TS)(h:af)(Q:Ex->TS->af->Prop):Prop:=WO P l ts h (kq P ro ks Q .normal)
def WG(g:AV)(b:Bool)(q:Bool)(k:mD)(dst:Option Nat)(l:List aZ)(ks:List Kt)(ts:TS)(h:af)(Q:Ex->TS->af->Prop):Prop:=
 match g with
 |.bool c=>if c=b then zY dst k ts.length (WK P q k (val ts) h (λv h1=>WP P ro l ks (put ts dst v) h1 Q))else WP P ro l ks (put ts dst ar) h Q
 |_=>WP P ro l ks (put ts dst ar) h Q
def WR(r:Option (AV×fR))(q:Bool)(dst:Option Nat)(l:List aZ)(ks:List Kt)(ts:TS)(h:af)(Q:Ex->TS->af->Prop):Prop:=
 match r with
 |some (v,e)=>(q=true->e.quiet=true)/\WP P ro l ks (put ts dst v) (e.app h) Q
 |none=>False
def WF(q:Bool)(fv:AV)(args:List AV)(dst:Option Nat)(l:List aZ)(ks:List Kt)(ts:TS)(h:af)(Q:Ex->TS->af->Prop):Prop:=
 qX P q fv args h (λv h1=>WP P ro l ks (put ts dst v) h1 Q)
def WB(v:AV)(a b:aj)(ks:List Kt)(ts:TS)(h:af)(Q:Ex->TS->af->Prop):Prop:=
 match v with
 |.bool t=>(t=true->WC P ro a ks ts h Q)/\(t=false->WC P ro b ks ts h Q)
 |_=>False
def WL(a:aj)(ks:List Kt)(ts:TS)(h:af)(Q:Ex->TS->af->Prop):Prop:=WC P ro (.loop a) ks ts h Q
def eD(g:AV)(ps:List Nat)(asg body:aj)(ks:List Kt)(ts:TS)(h:af)(Q:Ex->TS->af->Prop):Prop:=
 ∃e ts' h',(∀r,ro r->∀g',val ts g' =g->Ev P r (.eM g' ps asg body) ts h e ts' h')/\WE P ro e ks ts' h' Q
end
def LQ(I:Nat->TS->af->Prop)(n:Nat)(R:Ex->TS->af->Prop):Ex->TS->af->Prop
 |.normal,ts,h=>∃m,m<n/\I m ts h
 |.exit id,ts,h=>R (.exit id) ts h
 |.ret,ts,h=>R .ret ts h
def FQ(rs:List (Nat×Option (Option Nat)))(R:AV->af->Prop):Ex->TS->af->Prop:=λe ts h=>e.leaves=true/\∃v,cD rs ts h=some v/\R v h
def Dl(r:Option AV)(h:af)(R:AV->af->Prop):Prop:=
 match r with
 |some v=>R v h
 |none=>False
section
variable {P:Program}{ro:Option Nat->Prop}{ks:List Kt}{ts:TS}{h:af}{Q:Ex->TS->af->Prop}
def Dh:WC P ro .skip ks ts h Q=WE P ro .normal ks ts h Q:=rfl
def pP{l}:WC P ro (.ops l) ks ts h Q=WP P ro l ks ts h Q:=rfl
def pO{a b}:WC P ro (.seq a b) ks ts h Q=WC P ro a (.y8 b::ks) ts h Q:=by
 unfold WC;simp only[W];congr 1
def Dk{c a b}:WC P ro (.cond c a b) ks ts h Q=WB P ro (val ts c) a b ks ts h Q:=rfl
def AU{id a}:WC P ro (.block id a) ks ts h Q=WC P ro a (.pI id::ks) ts h Q:=rfl
def Di{a}:WC P ro (.loop a) ks ts h Q=WL P ro a ks ts h Q:=rfl
def Dj{id}:WC P ro (.exit id) ks ts h Q=WE P ro (.exit id) ks ts h Q:=rfl
def Gp:WC P ro .ret ks ts h Q=WE P ro .ret ks ts h Q:=rfl
def rV{b}:WE P ro .normal (.y8 b::ks) ts h Q=WC P ro b ks ts h Q:=rfl
def Df{b id}:WE P ro (.exit id) (.y8 b::ks) ts h Q=WE P ro (.exit id) ks ts h Q:=rfl
def Dg{b}:WE P ro .ret (.y8 b::ks) ts h Q=WE P ro .ret ks ts h Q:=rfl
def yr{id}:WE P ro .normal (.pI id::ks) ts h Q=WE P ro .normal ks ts h Q:=rfl
def yp{id RX}:WE P ro (.exit RX) (.pI id::ks) ts h Q=if RX=id then WE P ro .normal ks ts h Q else WE P ro (.exit RX) ks ts h Q:=by
 unfold WE;simp only[kq,Ex.inBlock];split<;>rfl
def yq{id}:WE P ro .ret (.pI id::ks) ts h Q=WE P ro .ret ks ts h Q:=rfl
def Gn{e}:WE P ro e [] ts h Q=Q e ts h:=rfl
def AQ:WP P ro [] ks ts h Q=WE P ro .normal ks ts h Q:=rfl
def fW{d k q l}(hk:∀f args,k≠.call f args)(hb:∀n x,k≠.lX n x):WP P ro ({dst:=d,k:=k,gd:=none,q:=q} ::l) ks ts h Q=WR P ro (stepT k (val ts) (λb=>h[b]?) h.length) q d l ks ts h Q:=by
 cases k<;>first|exact absurd rfl (hk _ _)|exact absurd rfl (hb _ _)|rfl
def C9{d f args q l}:WP P ro ({dst:=d,k:=.call f args,gd:=none,q:=q} ::l) ks ts h Q=WF P ro q (val ts f) (args.map (val ts)) d l ks ts h Q:=rfl
def Jv{d k t b q l}:WP P ro ({dst:=d,k:=k,gd:=some (t,b),q:=q} ::l) ks ts h Q=WG P ro (val ts (.t t)) b q k d l ks ts h Q:=rfl
def wY{d k b q l}(c:Bool)(hc:c≠b):WG P ro (.bool c) b q k d l ks ts h Q=WP P ro l ks (put ts d ar) h Q:=by
 simp only[WG,Tt hc]
def vC{d k b q l}:WG P ro (.bool b) b q k d l ks ts h Q=WP P ro ({dst:=d,k:=k,gd:=none,q:=q} ::l) ks ts h Q:=by
 simp only[WG,Ty];rfl
def gm{v q d l}:WR P ro (some (v,.aq)) q d l ks ts h Q=WP P ro l ks (put ts d v) h Q:=by
 simp only[WR,fR.quiet,fR.app,implies_true,VJ]
def kg{v k q d l}:WR P ro (some (v,.push k)) q d l ks ts h Q=WP P ro l ks (put ts d v) (h++[k]) Q:=by
 simp only[WR,fR.quiet,fR.app,implies_true,VJ]
def pM{v b k d l}:WR P ro (some (v,.set b k)) false d l ks ts h Q=WP P ro l ks (put ts d v) (h.set b k) Q:=by
 exact GQ
def k9{v b k k' d l}:WR P ro (some (v,.lB b k k')) false d l ks ts h Q=WP P ro l ks (put ts d v) (h.set b k++[k']) Q:=by
 exact GQ
def w7{a b}:WB P ro (.bool true) a b ks ts h Q=WC P ro a ks ts h Q:=by simp[WB]
def ub{a b}:WB P ro (.bool false) a b ks ts h Q=WC P ro b ks ts h Q:=by simp[WB]
def Mh{I n R}:LQ I n R .normal ts h=∃m,m<n/\I m ts h:=rfl
def Mf{I n R id}:LQ I n R (.exit id) ts h=R (.exit id) ts h:=rfl
def Mg{I n R}:LQ I n R .ret ts h=R .ret ts h:=rfl
def Mk{rs R}:FQ rs R .normal ts h=Dl (cD rs ts h) h R:=by
 exact GS
def Mj{rs R}:FQ rs R .ret ts h=Dl (cD rs ts h) h R:=by
 exact GS
def Dm{v R}:Dl (some v) h R=R v h:=rfl
def WL.inv(hmix:P.follows .mixedOrders=true){a}(I:Nat->TS->af->Prop)(n:Nat)(h0:I n ts h)
  (step:∀(n:Nat) (ts:TS) (h:af),I n ts h->WC P ro a [] ts h (LQ I n (λe ts h=>WE P ro e ks ts h Q))):WL P ro a ks ts h Q:=by
 have key:∀(k n:Nat) (ts:TS) (h:af),n<=k->I n ts h->∃e ts' h',(∀r,ro r->qV P r a ts h e ts' h')/\kq P ro ks Q e ts' h':=by
  intro k
  induction k with
  |zero=>
   intro n ts h hn hi;obtain⟨e,ts',h',h1,h2⟩:=W.sound hmix (step n ts h hi);cases e with
   |normal=>obtain⟨m,hm,_⟩:=h2;omega
   |exit id=>exact⟨_,ts',h',λr hr=>.out (h1 r hr) Si,h2⟩
   |ret=>exact⟨_,ts',h',λr hr=>.out (h1 r hr) Si,h2⟩
  |succ k ih=>
   intro n ts h hn hi;obtain⟨e,ts',h',h1,h2⟩:=W.sound hmix (step n ts h hi);cases e with
   |normal=>
    obtain⟨m,hm,hi'⟩:=h2;obtain⟨e2,Qp,h3,h4,h5⟩:=ih m ts' h' Om hi';exact⟨e2,Qp,h3,λr hr=>.more (h1 r hr) (h4 r hr),h5⟩
   |exit id=>exact⟨_,ts',h',λr hr=>.out (h1 r hr) Si,h2⟩
   |ret=>exact⟨_,ts',h',λr hr=>.out (h1 r hr) Si,h2⟩
 exact key n n ts h (Ts _) h0
def ao(P:Program)(f:FuncId)(args:List AV)(h:af)(R:AV->af->Prop):Prop:=∃v g,jR P f args h v (h++g)/\R v (h++g)
def aQ(P:Program)(fv:AV)(args:List AV)(h:af)(R:AV->af->Prop):Prop:=∃v g,dP P fv args h v (h++g)/\R v (h++g)
def cT(P:Program)(f:FuncId)(args:List AV)(h:af)(R:AV->af->Prop):Prop:=∃v h',jR P f args h v h'/\R v h'
def cT.of(hmix:P.follows .mixedOrders=true){f A}(hA:bf P f=some A){args R}
  (H:WC P bS A.body [] (aM A.nt args) h (FQ A.rs R)):cT P f args h R:=by
 obtain⟨e,ts',h',h1,h2,v,h3,h4⟩:=W.sound hmix H;exact⟨v,h',.HZ hA (h1 none rfl) h2 h3,h4⟩
theorem ao.of(hmix:P.follows .mixedOrders=true){f A}(hA:bf P f=some A){args R}
  (H:WC P bS A.body [] (aM A.nt args) h (FQ A.rs (λv h'=>Ext h h'/\R v h'))):ao P f args h R:=by
 obtain⟨v,h',h1,⟨g,rfl⟩,h3⟩:=cT.of hmix hA H;exact⟨v,g,h1,h3⟩
def ao.mono{f args R R'}(H:ao P f args h R)(hr:∀v g,R v (h++g)->R' v (h++g)):ao P f args h R':=by
 obtain⟨v,g,h1,h2⟩:=H;exact⟨v,g,h1,hr v g h2⟩
def aQ.of{f A}(hA:bf P f=some A){a c args R}(H:ao P f (a++args++c) h R):aQ P (.func (.func f) a c) args h R:=by
 obtain⟨v,g,h1,h2⟩:=H;exact⟨v,g,.wb hA h1,h2⟩
def aQ.xP{u:TypeId}{name f A}(hm:fS P u name=some f)(hA:bf P f=some A){a args R}(H:ao P f (a::args) h R):aQ P (.func (.method name) [] []) (.rZ u a::args) h R:=by
 obtain⟨v,g,h1,h2⟩:=H;exact⟨v,g,.BD hm hA h1,h2⟩
def WF.val{q fv args d l R}(H:aQ P fv args h R)(K:∀v g,R v (h++g)->WP P ro l ks (put ts d v) (h++g) Q):WF P ro q fv args d l ks ts h Q:=by
 obtain⟨v,g,h1,h2⟩:=H;exact⟨v,h++g,h1,λ_=>⟨g,rfl⟩,K v g h2⟩
def WF.res{q f A}(hA:bf P f=some A){a c args d l R}(H:ao P f (a++args++c) h R)(K:∀v g,R v (h++g)->WP P ro l ks (put ts d v) (h++g) Q):WF P ro q (.func (.func f) a c) args d l ks ts h Q:=
 WF.val (aQ.of hA H) K
def WF.gen{f A}(hA:bf P f=some A){a c args d l R}(H:cT P f (a++args++c) h R)(K:∀v h',R v h'->WP P ro l ks (put ts d v) h' Q):WF P ro false (.func (.func f) a c) args d l ks ts h Q:=by
 obtain⟨v,h',h1,h2⟩:=H;exact⟨v,h',.wb hA h1,(λhq=>absurd hq Si),K v h' h2⟩
end
end Go.Abs
namespace Go.Abs
inductive aA (h:af):AV->Nat->List (List AV)->Prop
 |nil {es:Nat}:aA h .ah es []
 |mk {b o es:Nat}{cs:List (List AV)}{c:List AV}{mu tl:Bool}(hb:h[b]? =some (.cells c mu tl)) (hf:(c.drop o).take (cs.length*es)=cs.flatten) (ho:o+cs.length*es<=c.length)
   (he:∀x∈cs,x.length=es):aA h (.slice b o cs.length es) es cs
inductive Fr (N:Nat) (h:af):AV->Nat->List (List AV)->Prop
 |nil {es:Nat}:Fr N h .ah es []
 |mk {b es:Nat}{cs:List (List AV)}{tl:Bool}(hN:N<=b) (hb:h[b]? =some (.cells cs.flatten true tl)) (he:∀x∈cs,x.length=es):Fr N h (.slice b 0 cs.length es) es cs
def AV.sb:AV->Nat
 |.slice b _ _ _=>b
 |_=>0
def AV.so:AV->Nat
 |.slice _ o _ _=>o
 |_=>0
theorem dz{es:Nat}:∀{cs:List (List AV)},(∀x∈cs,x.length=es)->cs.flatten.length=cs.length*es
 |[],_=>by simp
 |x::xs,he=>by
  have h1:=he x Si;have h2:=dz (cs:=xs) (λy hy=>he y (TK _ hy));simp only[Ul,Tg,Tl,h1,h2,Uw];omega
theorem jN{es:Nat}:∀{cs:List (List AV)},(∀x∈cs,x.length=es)->∀{i:Nat}(hi:i<cs.length),(cs.flatten.drop (i*es)).take es=cs[i]
 |[],_,i,hi=>by simp at hi
 |x::xs,he,0,_=>by
  have h1:=he x Si;simp[<-h1]
 |x::xs,he,i+1,hi=>by
  have h1:=he x Si;have h2:=jN (cs:=xs) (λy hy=>he y (TK _ hy)) (i:=i) (by simpa using hi);simp only[Ul,List.getElem_cons_succ,<-h2];congr 1;rw[Uw,Nat.add_comm,<-h1,List.drop_append];simp
def Fr.aN{N:Nat}{h:af}{s:AV}{es:Nat}{cs:List (List AV)}(hs:Fr N h s es cs):aA h s es cs:=by
 cases hs with
 |nil=>exact .nil
 |mk hN hb he=>
  have hl:=dz he;exact .mk hb (by rw[UF,<-hl,T7]) Om he
section
variable {h k:af}{s:AV}{es:Nat}{cs:List (List AV)}
def aA.aq(hs:aA h s es cs)(hk:∀b,b<h.length->(∀b0 o n e,s=.slice b0 o n e->b=b0)->k[b]? =h[b]?):aA k s es cs:=by
 cases hs with
 |nil=>exact .nil
 |mk hb hf ho he=>
  refine .mk ((hk _ (Th.1 hb).1 λb0 o n e hx=>?_).trans hb) hf ho he;cases hx;rfl
def aA.ext(hs:aA h s es cs)(e:Ext h k):aA k s es cs:=hs.aq λ_ hb _=>e.get hb
def aA.app(hs:aA h s es cs)(g:af):aA (h++g) s es cs:=hs.ext ⟨g,rfl⟩
def Fr.aq{N}(hs:Fr N h s es cs)(hk:∀b,b<h.length->(∀b0 o n e,s=.slice b0 o n e->b=b0)->k[b]? =h[b]?):Fr N k s es cs:=by
 cases hs with
 |nil=>exact .nil
 |mk hN hb he=>
  refine .mk hN ((hk _ (Th.1 hb).1 λb0 o n e hx=>?_).trans hb) he;cases hx;rfl
def Fr.ext{N}(hs:Fr N h s es cs)(e:Ext h k):Fr N k s es cs:=hs.aq λ_ hb _=>e.get hb
def Fr.app{N}(hs:Fr N h s es cs)(g:af):Fr N (h++g) s es cs:=hs.ext ⟨g,rfl⟩
def Fr.low{N M}(hs:Fr N h s es cs)(hM:M<=N):Fr M h s es cs:=by
 cases hs with
 |nil=>exact .nil
 |mk hN hb he=>exact .mk Om hb he
def aA.rows(hs:aA h s es cs):∀x∈cs,x.length=es:=by
 cases hs with
 |nil=>simp
 |mk hb hf ho he=>exact he
theorem aA.gZ(hs:aA h s es cs)(G:Nat->Option ai):gZ .sl G s=some cs.length:=by
 cases hs<;>rfl
theorem aA.one(hs:aA h s es cs):s.one=true:=by
 cases hs<;>rfl
theorem aA.dO(hs:aA h s es cs):dO es (λb=>h[b]?) s=some (cs.flatten,cs.length):=by
 cases hs with
 |nil=>rfl
 |mk hb hf ho he=>simp only[Go.Abs.dO,TQ,hb];rw[Ty ho,hf]
def aV(es:Nat)(x i:AV):Option (AV×fR):=
 match x,i with
 |.slice b o n es',.int _ i=>if es' =es/\0<=i/\i<n then some (.ptr b (o+i.toNat*es),.aq)else none
 |_,_=>none
def au(n:Option Nat)(a:AV)(G:Nat->Option ai):Option (AV×fR):=
 match a with
 |.ptr b o=>
  match G b with
  |some (.cells c _ _)=>
   match n with
   |none=>
    match c[o]? with
    |some x=>some (x,.aq)
    |none=>none
   |some n=>if o+n<=c.length then some (.agg ((c.drop o).take n),.aq)else none
  |_=>none
 |_=>none
def yx(es:Nat)(x:AV)(lo hi:Option AV):Option (AV×fR):=
 match x with
 |.slice b o n es'=>
  if es' =es then
   match gj lo hi n with
   |some (l,h')=>some (.slice b (o+l*es) (h'-l) es,.aq)
   |none=>none
  else none
 |.ah=>
  match gj lo hi 0 with
  |some _=>some (.ah,.aq)
  |none=>none
 |_=>none
def aA.bU(hs:aA h s es cs){i:Int}{k:IntKind}(h0:0<=i)(h1:i<cs.length):aV es s (.int k i)=some (.ptr s.sb (s.so+i.toNat*es),.aq):=by
 cases hs with
 |nil=>simp at h1;omega
 |mk hb hf ho he=>show(if es=es/\0<=i/\i<cs.length then _ else none)=_;rw[Ty ⟨rfl,h0,h1⟩];rfl
def aA.load(hs:aA h s es cs){i:Nat}(hi:i<cs.length):au (some es) (.ptr s.sb (s.so+i*es)) (λb=>h[b]?)=some (.agg cs[i],.aq):=by
 cases hs with
 |nil=>simp at hi
 | @mk b o es cs c mu tl hb hf ho he=>
  have hle:i*es+es<=cs.length*es:=by rw[<-Uw];exact Uj _ hi
  have h1:=jN he hi;show au (some es) (.ptr b (o+i*es)) (λb=>h[b]?)=_;simp only[au,hb];rw[Ty Om,<-h1,<-hf,List.drop_take,List.take_take,UL,U3 Om]
def aA.zN(hs:aA h s es cs){i off:Nat}(hi:i<cs.length){x:AV}(hx:cs[i][off]? =some x):au none (.ptr s.sb (s.so+i*es+off)) (λb=>h[b]?)=some (x,.aq):=by
 cases hs with
 |nil=>simp at hi
 | @mk b o es cs c mu tl hb hf ho he=>
  have hle:i*es+es<=cs.length*es:=by rw[<-Uw];exact Uj _ hi
  have h1:=jN he hi;have h2:=he _ (TE hi);have h3:=(Th.1 hx).1;rw[<-h1,<-hf,List.drop_take,List.take_take,UL,U3 Om,List.getElem?_take]at hx;rw[Ty Om,Vm]at hx;show au none (.ptr b (o+i*es+off)) (λb=>h[b]?)=_;simp only[au,hb,hx]
def aA.Ij(hs:aA h s 1 cs){i}(hi:i<cs.length){x}(hx:cs[i]=[x]):au none (.ptr s.sb (s.so+i*1)) (λb=>h[b]?)=some (x,.aq):=
 hs.zN (off:=0) hi (by rw[hx];rfl)
def aA.sl(hs:aA h s es cs){lo hi l u}(hb:gj lo hi cs.length=some (l,u)):∃s',yx es s lo hi=some (s',.aq)/\aA h s' es ((cs.drop l).take (u-l)):=by
 have RD:l<=u/\u<=cs.length:=by
  unfold gj at hb;split at hb
  case h_2=>cases hb
  split at hb
  case isFalse=>cases hb
  cases hb;omega
 cases hs with
 |nil=>
  simp only[Tr]at hb;exact⟨.ah,by simp only[yx,hb],by simp;exact .nil⟩
 | @mk b o es cs c mu tl hbk hf ho he=>
  have hlen:((cs.drop l).take (u-l)).length=u-l:=by simp;omega
  refine⟨.slice b (o+l*es) (u-l) es,by simp only[yx,TQ,hb],?_⟩;have hul:(u-l)*es+l*es=u*es:=by rw[<-Vo];congr 1;omega
  have hu:u*es<=cs.length*es:=Uj _ RD.2;have:aA h (.slice b (o+l*es) ((cs.drop l).take (u-l)).length es) es ((cs.drop l).take (u-l)):=by
   refine .mk hbk ?_ (by rw[hlen];omega) λx hx=>he x (List.mem_of_mem_drop (Ut hx))
   rw[hlen];have SK:∀(cs:List (List AV)) (l n:Nat),(∀x∈cs,x.length=es)->l+n<=cs.length->((cs.drop l).take n).flatten=(cs.flatten.drop (l*es)).take (n*es):=by
    intro cs
    induction cs with
    |nil=>intro l n _ _;simp
    |cons x xs ih=>
     intro l n hx hln;have h1:=hx x Si;have h2:∀y∈xs,y.length=es:=λy hy=>hx y (TK _ hy)
     cases l with
     |succ l=>
      rw[List.drop_succ_cons,ih l n h2 (by simp at hln;omega),Ul,show(l+1)*es=x.length+l*es from by rw[h1,Uw,Nat.add_comm],<-UL,List.drop_left]
     |zero=>
      cases n with
      |zero=>simp
      |succ n=>
       have:=ih 0 n h2 (by simp at hln;omega);simp only[UF,Vd]at this ⊢;rw[Vf,Ul,this,Ul,List.take_append,Uw,TV (l:=x) Om,h1];simp
   rw[SK cs l (u-l) he Om,<-hf,List.drop_take,List.take_take,UL,U3 (by rw[Nat.sub_mul]at hul ⊢;omega)]
  rw[hlen]at this;exact this
def Fr.push{N}(hN:N<=h.length)(cs:List (List AV))(he:∀x∈cs,x.length=es):Fr N (h++[.cells cs.flatten true true]) (.slice h.length 0 cs.length es) es cs:=
 .mk (tl:=true) hN Si he
end
end Go.Abs
namespace Go.Abs
section
variable (P:Program) (ro:Option Nat->Prop)
def WV(r:Option AV)(dst:Option Nat)(l:List aZ)(ks:List Kt)(ts:TS)(h:af)(Q:Ex->TS->af->Prop):Prop:=
 match r with
 |some v=>WP P ro l ks (put ts dst v) h Q
 |none=>False
end
def qt(c a b:AV):Option AV:=
 match c with
 |.bool t=>some (if t then a else b)
 |_=>none
def lV(n:Nat)(x:AV)(N0:Nat):Option (AV×fR):=if x.cells.all AV.one=true/\x.cells.length=n then some (.ptr N0 0,.push (.cells x.cells true false))else none
def mZ(x:AV)(N0:Nat):Option (AV×fR):=if x.cells.all AV.one then some (.ptr N0 0,.push (.cells x.cells true false))else none
def bB(n:Nat)(a x:AV)(G:Nat->Option ai):Option (AV×fR):=
 match a with
 |.ptr b o=>
  match G b with
  |some (.cells c true tl)=>
   if x.cells.length=n/\x.cells.all AV.one=true/\o+n<=c.length then some (ar,.set b (.cells (eJ c o x.cells) true tl))else none
  |_=>none
 |_=>none
def nV(x:AV):Option AV:=
 match x with
 |.ptr b o=>some (.ptr b o)
 |.func (.func f) a c=>some (.func (.func f) a c)
 |.func (.yield f) a c=>some (.func (.yield f) a c)
 |.func (.methodOf t n) a c=>some (.func (.methodOf t n) a c)
 |.func (.via t p f q) a c=>some (.func (.via t p f q) a c)
 |_=>none
def qz(es w:Nat)(z:List AV)(l c:AV)(N0:Nat):Option (AV×fR):=
 match l,c with
 |.int _ l,.int _ c=>
  if 0<=l/\l<=c/\(w:Int)*c<=2^48/\c<2^63 then some (.slice N0 0 l.toNat es,.push (.cells (cZ l.toNat z) true true))else none
 |_,_=>none
def sD(x:AV)(lo hi:Option AV):Option AV:=
 match x with
 |.str s=>
  match gj lo hi s.length with
  |some (l,h')=>some (.str ((s.drop l).take (h'-l)))
  |none=>none
 |_=>none
def qN(off:Nat)(x:AV):Option AV:=
 match x with
 |.ptr b o=>some (.ptr b (o+off))
 |_=>none
def kD(len es:Nat)(x i:AV):Option AV:=
 match x,i with
 |.ptr b o,.int _ i=>if 0<=i/\i<len then some (.ptr b (o+i.toNat*es))else none
 |_,_=>none
def vZ(n:Option Nat)(off:Nat)(x:AV):Option AV:=
 match x with
 |.agg cs=>
  match n with
  |none=>cs[off]?
  |some n=>some (.agg ((cs.drop off).take n))
 |_=>none
def ID(len es:Nat)(n:Option Nat)(x i:AV):Option AV:=
 match x,i with
 |.agg cs,.int _ i=>
  if 0<=i/\i<len then
   match n with
   |none=>cs[i.toNat*es]?
   |some n=>some (.agg ((cs.drop (i.toNat*es)).take n))
  else none
 |_,_=>none
def zU(x i:AV):Option AV:=
 match x,i with
 |.str s,.int _ i=>
  if 0<=i then
   match s[i.toNat]? with
   |some b=>some (.int .u8 b.toNat)
   |none=>none
  else none
 |_,_=>none
def Fv(x:AV)(i:Nat):Option AV:=
 match x with
 |.dh l=>l[i]?
 |_=>none
def ry(o:Option Nat):Option AV:=
 match o with
 |some n=>some (.int .i64 n)
 |none=>none
def nW(neg:Bool)(o:Option Bool):Option AV:=
 match o with
 |some b=>some (.bool (if neg then !b else b))
 |none=>none
def pG(o:Option (List AV)):Option AV:=
 match o with
 |some c=>some (.agg c)
 |none=>none
def vt(es n:Nat)(o:Option (List AV))(N0:Nat):Option (AV×fR):=
 match o with
 |some c=>if c.all AV.one=true/\c.length=n*es then some (.slice N0 0 n es,.push (.cells c true (!Nat.beq n 0)))else none
 |none=>none
section
variable {P:Program}{ro:Option Nat->Prop}{ks:List Kt}{ts:TS}{h:af}{Q:Ex->TS->af->Prop}{d:Option Nat}{q:Bool}{l:List aZ}
def fV{r r'}(hr:r=r'.map λv=>(v,.aq)):WR P ro r q d l ks ts h Q=WV P ro r' d l ks ts h Q:=by
 subst hr;cases r' with
 |none=>rfl
 |some v=>exact gm
def rN{v}:WV P ro (some v) d l ks ts h Q=WP P ro l ks (put ts d v) h Q:=rfl
def AS{x}:WP P ro ({dst:=d,k:=.dw x,gd:=none,q:=q} ::l) ks ts h Q=WP P ro l ks (put ts d (val ts x)) h Q:=gm
def CW{c a b}:WP P ro ({dst:=d,k:=.pick c a b,gd:=none,q:=q} ::l) ks ts h Q=WV P ro (qt (val ts c) (val ts a) (val ts b)) d l ks ts h Q:=by
 rw[fW Si Si];refine fV ?_;simp only[stepT,kX,qt];cases val ts c<;>rfl
def Gj{x}:WP P ro ({dst:=d,k:=.box x,gd:=none,q:=q} ::l) ks ts h Q=WR P ro (mZ (val ts x) h.length) q d l ks ts h Q:=rfl
def Da{n i x}:WP P ro ({dst:=some i,k:=.lX n x,gd:=none,q:=q} ::l) ks ts h Q=(i<ts.length/\WR P ro (lV n (val ts x) h.length) q (some i) l ks ts h Q):=rfl
def pN{z ps}:WP P ro ({dst:=d,k:=.build z ps,gd:=none,q:=q} ::l) ks ts h Q=WV P ro (pG (dA z (ps.map λp=>(p.1,p.2.1,val ts p.2.2)))) d l ks ts h Q:=by
 rw[fW Si Si];refine fV ?_;simp only[stepT,kX,pG];cases dA z (ps.map λp=>(p.1,p.2.1,val ts p.2.2))<;>rfl
def yo{es n z ps}:WP P ro ({dst:=d,k:=.aD es n z ps,gd:=none,q:=q} ::l) ks ts h Q=WR P ro (vt es n (dA (cZ n z) (ps.map λp=>(p.1,es,val ts p.2))) h.length) q d l ks ts h Q:=rfl
def C4{n a}:WP P ro ({dst:=d,k:=.load n a,gd:=none,q:=q} ::l) ks ts h Q=WR P ro (au n (val ts a) (λb=>h[b]?)) q d l ks ts h Q:=rfl
def AO{n a x}:WP P ro ({dst:=d,k:=.store n a x,gd:=none,q:=q} ::l) ks ts h Q=WR P ro (bB n (val ts a) (val ts x) (λb=>h[b]?)) q d l ks ts h Q:=rfl
def yn{x}:WP P ro ({dst:=d,k:=.bd x,gd:=none,q:=q} ::l) ks ts h Q=WV P ro (nV (val ts x)) d l ks ts h Q:=by
 rw[fW Si Si];refine fV ?_;exact Hc
def Gk{op x y}:WP P ro ({dst:=d,k:=.bin op x y,gd:=none,q:=q} ::l) ks ts h Q=WV P ro (dm op (val ts x) (val ts y)) d l ks ts h Q:=by
 rw[fW Si Si];refine fV ?_;exact GN
def Gh{neg t x y}:WP P ro ({dst:=d,k:=.eqv neg t x y,gd:=none,q:=q} ::l) ks ts h Q=WV P ro (nW neg (kY t (val ts x) (val ts y))) d l ks ts h Q:=by
 rw[fW Si Si];refine fV ?_;simp only[stepT,kX,nW];cases kY t (val ts x) (val ts y)<;>rfl
def Jr{op x}:WP P ro ({dst:=d,k:=.un op x,gd:=none,q:=q} ::l) ks ts h Q=WV P ro (um op (val ts x)) d l ks ts h Q:=by
 rw[fW Si Si];refine fV ?_;simp only[stepT,kX];cases um op (val ts x)<;>rfl
def rT{k x}:WP P ro ({dst:=d,k:=.conv k x,gd:=none,q:=q} ::l) ks ts h Q=WR P ro (kF k (val ts x) (λb=>h[b]?) h.length) q d l ks ts h Q:=rfl
def CZ{f a c}:WP P ro ({dst:=d,k:=.rv f a c,gd:=none,q:=q} ::l) ks ts h Q=WP P ro l ks (put ts d (.func f (a.map (val ts)) (c.map (val ts)))) h Q:=gm
def ua:WP P ro ({dst:=d,k:=.lL,gd:=none,q:=q} ::l) ks ts h Q=WP P ro l ks (put ts d (.map h.length)) (h++[.aK []]) Q:=kg
def CY{es w z a c}:WP P ro ({dst:=d,k:=.tn es w z a c,gd:=none,q:=q} ::l) ks ts h Q=WR P ro (qz es w z (val ts a) (val ts c) h.length) q d l ks ts h Q:=rfl
def Js{es x lo hi}:WP P ro ({dst:=d,k:=.sl es x lo hi,gd:=none,q:=q} ::l) ks ts h Q=WR P ro (yx es (val ts x) (lo.map (val ts)) (hi.map (val ts))) q d l ks ts h Q:=rfl
def Gc{x lo hi}:WP P ro ({dst:=d,k:=.Gu x lo hi,gd:=none,q:=q} ::l) ks ts h Q=WV P ro (sD (val ts x) (lo.map (val ts)) (hi.map (val ts))) d l ks ts h Q:=by
 rw[fW Si Si];refine fV ?_;simp only[stepT,kX,sD];cases val ts x with
 |str s=>simp only;cases gj (Option.map (val ts) lo) (Option.map (val ts) hi) s.length<;>rfl
 |_=>rfl
def C8{off x}:WP P ro ({dst:=d,k:=.bK off x,gd:=none,q:=q} ::l) ks ts h Q=WV P ro (qN off (val ts x)) d l ks ts h Q:=by
 rw[fW Si Si];refine fV ?_;simp only[stepT,kX,qN];cases val ts x<;>rfl
def C6{es x i}:WP P ro ({dst:=d,k:=.bU es x i,gd:=none,q:=q} ::l) ks ts h Q=WR P ro (aV es (val ts x) (val ts i)) q d l ks ts h Q:=rfl
def C7{len es x i}:WP P ro ({dst:=d,k:=.pZ len es x i,gd:=none,q:=q} ::l) ks ts h Q=WV P ro (kD len es (val ts x) (val ts i)) d l ks ts h Q:=by
 rw[fW Si Si];refine fV ?_;simp only[stepT,kX,kD];cases val ts x with
 |ptr b o=>cases val ts i<;>first|rfl|(simp only;split<;>rfl)
 |_=>rfl
def CX{n off x}:WP P ro ({dst:=d,k:=.part n off x,gd:=none,q:=q} ::l) ks ts h Q=WV P ro (vZ n off (val ts x)) d l ks ts h Q:=by
 rw[fW Si Si];refine fV ?_;simp only[stepT,kX,vZ];cases val ts x with
 |agg cs=>cases n<;>first|rfl|(simp only;cases cs[off]? <;>rfl)
 |_=>rfl
def Gf{len es n x i}:WP P ro ({dst:=d,k:=.Gx len es n x i,gd:=none,q:=q} ::l) ks ts h Q=WV P ro (ID len es n (val ts x) (val ts i)) d l ks ts h Q:=by
 rw[fW Si Si];refine fV ?_;simp only[stepT,kX,ID];cases val ts x with
 |agg cs=>
  cases val ts i with
  |int k j=>
   simp only;split
   ·cases n<;>first|rfl|(simp only;cases cs[j.toNat*es]? <;>rfl)
   ·rfl
  |_=>rfl
 |_=>rfl
def Ge{x i}:WP P ro ({dst:=d,k:=.Gw x i,gd:=none,q:=q} ::l) ks ts h Q=WV P ro (zU (val ts x) (val ts i)) d l ks ts h Q:=by
 rw[fW Si Si];refine fV ?_;simp only[stepT,kX,zU];cases val ts x with
 |str s=>
  cases val ts i with
  |int k j=>
   simp only;split
   ·cases s[j.toNat]? <;>rfl
   ·rfl
  |_=>rfl
 |_=>rfl
def C0{kk z ok m k}:WP P ro ({dst:=d,k:=.look kk z ok m k,gd:=none,q:=q} ::l) ks ts h Q=WR P ro (stepT (.look kk z ok m k) (val ts) (λb=>h[b]?) h.length) q d l ks ts h Q:=rfl
def rS{kk m k x}:WP P ro ({dst:=d,k:=.eO kk m k x,gd:=none,q:=q} ::l) ks ts h Q=WR P ro (stepT (.eO kk m k x) (val ts) (λb=>h[b]?) h.length) q d l ks ts h Q:=rfl
def AR{x}:WP P ro ({dst:=d,k:=.o8 x,gd:=none,q:=q} ::l) ks ts h Q=WR P ro (stepT (.o8 x) (val ts) (λb=>h[b]?) h.length) q d l ks ts h Q:=rfl
def Gg{x i}:WP P ro ({dst:=d,k:=.ext x i,gd:=none,q:=q} ::l) ks ts h Q=WV P ro (Fv (val ts x) i) d l ks ts h Q:=by
 rw[fW Si Si];refine fV ?_;simp only[stepT,kX,Fv];cases val ts x with
 |dh cs=>simp only;cases cs[i]? <;>rfl
 |_=>rfl
def Gd{lk x}:WP P ro ({dst:=d,k:=.len lk x,gd:=none,q:=q} ::l) ks ts h Q=WV P ro (ry (gZ lk (λb=>h[b]?) (val ts x))) d l ks ts h Q:=by
 rw[fW Si Si];refine fV ?_;simp only[stepT,kX,ry];cases gZ lk (λb=>h[b]?) (val ts x)<;>rfl
def C5{n}:WP P ro ({dst:=d,k:=.xR n,gd:=none,q:=q} ::l) ks ts h Q=WP P ro l ks (put ts d (.int .i64 n)) h Q:=gm
def Gm{es w x y}:WP P ro ({dst:=d,k:=.app es w x y,gd:=none,q:=q} ::l) ks ts h Q=WR P ro (na es w (val ts x) (val ts y) (λb=>h[b]?) h.length) q d l ks ts h Q:=rfl
def Gi{es x y}:WP P ro ({dst:=d,k:=.wL es x y,gd:=none,q:=q} ::l) ks ts h Q=WR P ro (stepT (.wL es x y) (val ts) (λb=>h[b]?) h.length) q d l ks ts h Q:=rfl
def Jt{x m}:WP P ro ({dst:=d,k:=.mx x m,gd:=none,q:=q} ::l) ks ts h Q=WV P ro (fL nH (val ts x) (m.map (val ts))) d l ks ts h Q:=by
 rw[fW Si Si];refine fV ?_;simp only[stepT,kX];cases fL nH (val ts x) (m.map (val ts))<;>rfl
def Ju{x m}:WP P ro ({dst:=d,k:=.mn x m,gd:=none,q:=q} ::l) ks ts h Q=WV P ro (fL nG (val ts x) (m.map (val ts))) d l ks ts h Q:=by
 rw[fW Si Si];refine fV ?_;simp only[stepT,kX];cases fL nG (val ts x) (m.map (val ts))<;>rfl
def CB{k a b}:dm .add (.int k a) (.int k b)=some (.int k (k.wrap (a+b))):=by simp[dm,dE,eP]
def Cr{k a b}:dm .sub (.int k a) (.int k b)=some (.int k (k.wrap (a-b))):=by simp[dm,dE,eP]
def Cu{k a b}:dm .mul (.int k a) (.int k b)=some (.int k (k.wrap (a*b))):=by simp[dm,dE,eP]
def Cs{k a b}(hb:b≠0):dm .quo (.int k a) (.int k b)=some (.int k (k.wrap (a.tdiv b))):=by simp[dm,dE,eP,hb]
def ji{k a b}(hb:b≠0):dm .rem (.int k a) (.int k b)=some (.int k (a.tmod b)):=by simp[dm,dE,eP,hb]
def CA{k a b}:dm .eql (.int k a) (.int k b)=some (.bool (decide (a=b))):=by simp[dm,dE,eP];rfl
def Ct{k a b}:dm .neq (.int k a) (.int k b)=some (.bool (decide (a≠b))):=by
 simp only[dm,dE,eP,TQ,T8,TT,TG,AV.bool.injEq];by_cases hab:a=b<;>simp[hab]
def Cv{k a b}:dm .lss (.int k a) (.int k b)=some (.bool (decide (a<b))):=by simp[dm,dE,eP]
def Cw{k a b}:dm .leq (.int k a) (.int k b)=some (.bool (decide (a<=b))):=by simp[dm,dE,eP]
def Cy{k a b}:dm .gtr (.int k a) (.int k b)=some (.bool (decide (b<a))):=by simp[dm,dE,eP]
def Cz{k a b}:dm .geq (.int k a) (.int k b)=some (.bool (decide (b<=a))):=by simp[dm,dE,eP]
def gX{x y}(hl:x.length+y.length<2^62):dm .add (.str x) (.str y)=some (.str (x++y)):=by simp only[dm,oG,Ty hl]
def Aw{x y}:dm .eql (.str x) (.str y)=some (.bool (decide (x=y))):=by
 exact Hd
def Av{x y}:dm .neq (.str x) (.str y)=some (.bool (decide (x≠y))):=by
 exact Hd
def El{b}:um .not (.bool b)=some (.bool !b):=rfl
def Em{k a}:um .neg (.int k a)=some (.int k (k.wrap (0-a))):=rfl
def KW{k a b}:fL nH (.int k a) [.int k b]=some (.int k (max a b)):=by
 simp only[fL,nH,TQ,TG,AV.int.injEq,VJ];omega
def KX{k a b}:fL nG (.int k a) [.int k b]=some (.int k (min a b)):=by
 simp only[fL,nG,TQ,TG,AV.int.injEq,VJ];omega
def aR{n}(h1:-9223372036854775808<=n)(h2:n<=9223372036854775807):IntKind.i64.wrap n=n:=by
 simp only[IntKind.wrap,IntKind.signed,IntKind.bits,Vv,T3,show(64-1:Nat)=63 from rfl];split<;>omega
end
end Go.Abs
namespace Go.Abs
def A2{a b:Prop}(xa:a)(xb:b):a/\b:=⟨xa,xb⟩
def A3{a b c:Prop}(xa:a)(xb:b)(xc:c):a/\b/\c:=⟨xa,xb,xc⟩
def A4{a b c d:Prop}(xa:a)(xb:b)(xc:c)(xd:d):a/\b/\c/\d:=⟨xa,xb,xc,xd⟩
def A5{a b c d e:Prop}(xa:a)(xb:b)(xc:c)(xd:d)(xe:e):a/\b/\c/\d/\e:=⟨xa,xb,xc,xd,xe⟩
def A6{a b c d e f:Prop}(xa:a)(xb:b)(xc:c)(xd:d)(xe:e)(xf:f):a/\b/\c/\d/\e/\f:=⟨xa,xb,xc,xd,xe,xf⟩
def A7{a b c d e f g:Prop}(xa:a)(xb:b)(xc:c)(xd:d)(xe:e)(xf:f)(xg:g):a/\b/\c/\d/\e/\f/\g:=⟨xa,xb,xc,xd,xe,xf,xg⟩
def A8{a b c d e f g h:Prop}(xa:a)(xb:b)(xc:c)(xd:d)(xe:e)(xf:f)(xg:g)(xh:h):a/\b/\c/\d/\e/\f/\g/\h:=⟨xa,xb,xc,xd,xe,xf,xg,xh⟩
def A9{a b c d e f g h i:Prop}(xa:a)(xb:b)(xc:c)(xd:d)(xe:e)(xf:f)(xg:g)(xh:h)(xi:i):a/\b/\c/\d/\e/\f/\g/\h/\i:=⟨xa,xb,xc,xd,xe,xf,xg,xh,xi⟩
def yD{a b c d e f g h i j:Prop}(xa:a)(xb:b)(xc:c)(xd:d)(xe:e)(xf:f)(xg:g)(xh:h)(xi:i)(xj:j):a/\b/\c/\d/\e/\f/\g/\h/\i/\j:=⟨xa,xb,xc,xd,xe,xf,xg,xh,xi,xj⟩
def AZ{a b c d e f g h i j k:Prop}(xa:a)(xb:b)(xc:c)(xd:d)(xe:e)(xf:f)(xg:g)(xh:h)(xi:i)(xj:j)(xk:k):a/\b/\c/\d/\e/\f/\g/\h/\i/\j/\k:=⟨xa,xb,xc,xd,xe,xf,xg,xh,xi,xj,xk⟩
def GH{a b c d e f g h i j k l:Prop}(xa:a)(xb:b)(xc:c)(xd:d)(xe:e)(xf:f)(xg:g)(xh:h)(xi:i)(xj:j)(xk:k)(xl:l):a/\b/\c/\d/\e/\f/\g/\h/\i/\j/\k/\l:=⟨xa,xb,xc,xd,xe,xf,xg,xh,xi,xj,xk,xl⟩
def GG{a b c d e f g h i j k l m:Prop}(xa:a)(xb:b)(xc:c)(xd:d)(xe:e)(xf:f)(xg:g)(xh:h)(xi:i)(xj:j)(xk:k)(xl:l)(xm:m):a/\b/\c/\d/\e/\f/\g/\h/\i/\j/\k/\l/\m:=⟨xa,xb,xc,xd,xe,xf,xg,xh,xi,xj,xk,xl,xm⟩
def JQ{a b c d e f g h i j k l m n:Prop}(xa:a)(xb:b)(xc:c)(xd:d)(xe:e)(xf:f)(xg:g)(xh:h)(xi:i)(xj:j)(xk:k)(xl:l)(xm:m)(xn:n):a/\b/\c/\d/\e/\f/\g/\h/\i/\j/\k/\l/\m/\n:=⟨xa,xb,xc,xd,xe,xf,xg,xh,xi,xj,xk,xl,xm,xn⟩
def Nc{a b c d e f g h i j k l m n o:Prop}(xa:a)(xb:b)(xc:c)(xd:d)(xe:e)(xf:f)(xg:g)(xh:h)(xi:i)(xj:j)(xk:k)(xl:l)(xm:m)(xn:n)(xo:o):a/\b/\c/\d/\e/\f/\g/\h/\i/\j/\k/\l/\m/\n/\o:=⟨xa,xb,xc,xd,xe,xf,xg,xh,xi,xj,xk,xl,xm,xn,xo⟩
def JP{a b c d e f g h i j k l m n o p:Prop}(xa:a)(xb:b)(xc:c)(xd:d)(xe:e)(xf:f)(xg:g)(xh:h)(xi:i)(xj:j)(xk:k)(xl:l)(xm:m)(xn:n)(xo:o)(xp:p):a/\b/\c/\d/\e/\f/\g/\h/\i/\j/\k/\l/\m/\n/\o/\p:=⟨xa,xb,xc,xd,xe,xf,xg,xh,xi,xj,xk,xl,xm,xn,xo,xp⟩
def JO{a b c d e f g h i j k l m n o p q:Prop}(xa:a)(xb:b)(xc:c)(xd:d)(xe:e)(xf:f)(xg:g)(xh:h)(xi:i)(xj:j)(xk:k)(xl:l)(xm:m)(xn:n)(xo:o)(xp:p)(xq:q):a/\b/\c/\d/\e/\f/\g/\h/\i/\j/\k/\l/\m/\n/\o/\p/\q:=⟨xa,xb,xc,xd,xe,xf,xg,xh,xi,xj,xk,xl,xm,xn,xo,xp,xq⟩
def Mn{a b c d e f g h i j k l m n o p q r:Prop}(xa:a)(xb:b)(xc:c)(xd:d)(xe:e)(xf:f)(xg:g)(xh:h)(xi:i)(xj:j)(xk:k)(xl:l)(xm:m)(xn:n)(xo:o)(xp:p)(xq:q)(xr:r):a/\b/\c/\d/\e/\f/\g/\h/\i/\j/\k/\l/\m/\n/\o/\p/\q/\r:=⟨xa,xb,xc,xd,xe,xf,xg,xh,xi,xj,xk,xl,xm,xn,xo,xp,xq,xr⟩
def ND{a b c d e f g h i j k l m n o p q r s t u v:Prop}(xa:a)(xb:b)(xc:c)(xd:d)(xe:e)(xf:f)(xg:g)(xh:h)(xi:i)(xj:j)(xk:k)(xl:l)(xm:m)(xn:n)(xo:o)(xp:p)(xq:q)(xr:r)(xs:s)(xt:t)(xu:u)(xv:v):a/\b/\c/\d/\e/\f/\g/\h/\i/\j/\k/\l/\m/\n/\o/\p/\q/\r/\s/\t/\u/\v:=⟨xa,xb,xc,xd,xe,xf,xg,xh,xi,xj,xk,xl,xm,xn,xo,xp,xq,xr,xs,xt,xu,xv⟩
def Dp{a b c d e f g h i j k l m n o p q r s t u v w x:Prop}(xa:a)(xb:b)(xc:c)(xd:d)(xe:e)(xf:f)(xg:g)(xh:h)(xi:i)(xj:j)(xk:k)(xl:l)(xm:m)(xn:n)(xo:o)(xp:p)(xq:q)(xr:r)(xs:s)(xt:t)(xu:u)(xv:v)(xw:w)(xx:x):a/\b/\c/\d/\e/\f/\g/\h/\i/\j/\k/\l/\m/\n/\o/\p/\q/\r/\s/\t/\u/\v/\w/\x:=⟨xa,xb,xc,xd,xe,xf,xg,xh,xi,xj,xk,xl,xm,xn,xo,xp,xq,xr,xs,xt,xu,xv,xw,xx⟩
section
variable {P:Program}{ro:Option Nat->Prop}{ks:List Kt}{ts:TS}{h:af}{Q:Ex->TS->af->Prop}{d:Option Nat}{q:Bool}{l:List aZ}
def Db{k}{p:Prop}[Decidable p] :WG P ro (.bool (decide p)) true q k d l ks ts h Q=((p->WP P ro ({dst:=d,k:=k,gd:=none,q:=q} ::l) ks ts h Q)/\(¬p->WP P ro l ks (put ts d ar) h Q)):=by
 by_cases hp:p
 ·simp only[hp,T5,vC];simp
 ·simp only[hp,Uq];rw[wY false Si];simp
def Dc{k}{p:Prop}[Decidable p] :WG P ro (.bool (decide p)) false q k d l ks ts h Q=((p->WP P ro l ks (put ts d ar) h Q)/\(¬p->WP P ro ({dst:=d,k:=k,gd:=none,q:=q} ::l) ks ts h Q)):=by
 by_cases hp:p
 ·simp only[hp,T5];rw[wY true Si];simp
 ·simp only[hp,Uq,vC];simp
def Jw{k}:WG P ro (.bool true) false q k d l ks ts h Q=WP P ro l ks (put ts d ar) h Q:=wY true Si
def Jx{k}:WG P ro (.bool false) true q k d l ks ts h Q=WP P ro l ks (put ts d ar) h Q:=wY false Si
def Gq{a b}{p:Prop}[Decidable p] :WB P ro (.bool (decide p)) a b ks ts h Q=((p->WC P ro a ks ts h Q)/\(¬p->WC P ro b ks ts h Q)):=by
 by_cases hp:p
 ·simp only[hp,T5,w7];simp
 ·simp only[hp,Uq,ub];simp
def EL{a b}:qt (.bool true) a b=some a:=rfl
def EM{a b}:qt (.bool false) a b=some b:=rfl
def slot(ts:TS)(i:Nat):AV:=ts.getD i ar
def sf{i}:val ts (.t i)=slot ts i:=rfl
def vI{v}:val ts (.c v)=v:=rfl
def Hk{i}:val ts (.g i)=.ptr i 0:=rfl
def Hl{i}:val ts (.f i)=.func (.func i) [] []:=rfl
def nD{i v}:put ts (some i) v=ts.set i v:=rfl
def zy{v}:put ts none v=ts:=rfl
def Ew{a l}:slot (a::l) 0=a:=rfl
def Eu{a l n}:slot (a::l) (n+1)=slot l n:=rfl
def Fe{a:AV}{l:List AV}:(a::l).length=l.length+1:=rfl
def Ff:([] :List AV).length=0:=rfl
def Fa{a:AV}:List.replicate 0 a=[]:=rfl
def Fi{a:AV}{l m:List AV}:(a::l)++m=a:: (l++m):=rfl
def Fj{m:List AV}:[]++m=m:=rfl
def E9{a b:AV}{l:List AV}:(a::l).set 0 b=b::l:=rfl
def E8{a b:AV}{l:List AV}{n:Nat}:(a::l).set (n+1) b=a::l.set n b:=rfl
def Fc{f:cC->AV}:List.map f []=[]:=rfl
def Fb{f:cC->AV}{a:cC}{l:List cC}:List.map f (a::l)=f a::l.map f:=rfl
def ER{f:cC->AV}:Option.map f none=none:=rfl
def EP{f:cC->AV}{a:cC}:Option.map f (some a)=some (f a):=rfl
def Fu{off b o}:qN off (.ptr b o)=some (.ptr b (o+off)):=rfl
def E7{n}:ry (some n)=some (.int .i64 n):=rfl
def BM{G s}:gZ .st G (.str s)=some s.length:=rfl
def Ia{b o}:nV (.ptr b o)=some (.ptr b o):=rfl
def Ib{f a c}:nV (.func (.func f) a c)=some (.func (.func f) a c):=rfl
def H9{f a c}:nV (.func (.yield f) a c)=some (.func (.yield f) a c):=rfl
def IX{l i}:Fv (.dh l) i=l[i]? :=rfl
def EO{cs off}:vZ none off (.agg cs)=cs[off]? :=rfl
def EN{cs off n}:vZ (some n) off (.agg cs)=some (.agg ((cs.drop off).take n)):=rfl
def As{c}:pG (some c)=some (.agg c):=rfl
def zt{r}:cD [(r,none)] ts h=some (slot ts r):=rfl
def zq{r s}:cD [(r,none),(s,none)] ts h=some (.dh [slot ts r,slot ts s]):=rfl
def zp{r s t}:cD [(r,none),(s,none),(t,none)] ts h=some (.dh [slot ts r,slot ts s,slot ts t]):=rfl
def ur{n args}:aM n args=args++List.replicate (n-args.length) ar:=rfl
def HQ{n:Nat}{a:AV}:List.replicate (n+1) a=a::List.replicate n a:=rfl
def Cj{k k' n G N}:kF (.Fo k) (.int k' n) G N=some (.int k (k.wrap n),.aq):=rfl
def iH{u:TypeId}{x G N}:kF (.rZ u) x G N=some (.rZ u x,.aq):=rfl
def yc{s G N}:kF .same (.str s) G N=some (.str s,.aq):=rfl
def Co{k n N}:mZ (.int k n) N=some (.ptr N 0,.push (.cells [.int k n] true false)):=rfl
def Au{b N}:mZ (.bool b) N=some (.ptr N 0,.push (.cells [.bool b] true false)):=rfl
def Cn{s N}:mZ (.str s) N=some (.ptr N 0,.push (.cells [.str s] true false)):=rfl
def Cq{l N}(hl:l.all AV.one=true):mZ (.agg l) N=some (.ptr N 0,.push (.cells l true false)):=by
 show(if l.all AV.one then _ else none)=_;rw[Ty hl];rfl
end
def Md{P ro ks ts h Q d q l k b}:WG P ro ar b q k d l ks ts h Q=WP P ro l ks (put ts d ar) h Q:=rfl
def D3{h}:Ext h h=True:=VK (Ext.refl h)
def D0{h a}:Ext h (h++a)=True:=VK (by repeat first|exact Ext.refl _|refine Ext.app _ ?_)
def DZ{h a b}:Ext h (h++a++b)=True:=VK (by repeat first|exact Ext.refl _|refine Ext.app _ ?_)
def DY{h a b c}:Ext h (h++a++b++c)=True:=VK (by repeat first|exact Ext.refl _|refine Ext.app _ ?_)
def DX{h a b c d}:Ext h (h++a++b++c++d)=True:=VK (by repeat first|exact Ext.refl _|refine Ext.app _ ?_)
def DW{h a b c d e}:Ext h (h++a++b++c++d++e)=True:=VK (by repeat first|exact Ext.refl _|refine Ext.app _ ?_)
def DV{h a b c d e f}:Ext h (h++a++b++c++d++e++f)=True:=VK (by repeat first|exact Ext.refl _|refine Ext.app _ ?_)
def DU{h a b c d e f g}:Ext h (h++a++b++c++d++e++f++g)=True:=VK (by repeat first|exact Ext.refl _|refine Ext.app _ ?_)
def DT{h a b c d e f g i}:Ext h (h++a++b++c++d++e++f++g++i)=True:=VK (by repeat first|exact Ext.refl _|refine Ext.app _ ?_)
def DS{h a b c d e f g i j}:Ext h (h++a++b++c++d++e++f++g++i++j)=True:=VK (by repeat first|exact Ext.refl _|refine Ext.app _ ?_)
def Jo{p:Prop}:(True/\p)=p:=VJ p
def Gv(f:Nat->AV):Nat->Nat->TS
 | 0,_=>[]
 |n+1,i=>f i::Gv f n (i+1)
def Ih{f i}:Gv f 0 i=[]:=rfl
def DH{f n i}:Gv f (n+1) i=f i::Gv f n (i+1):=rfl
theorem zL(f:Nat->AV):∀(n i:Nat) (ts:TS),ts.length=n->(∀k,k<n->f (i+k)=slot ts k)->ts=Gv f n i
 | 0,_,ts,h,_=>Uk.1 h
 |n+1,i,[],h,_=>by simp at h
 |n+1,i,x::xs,h,hf=>by
  rw[DH,<-zL f n (i+1) xs (by simpa using h) λk hk=>by have:=hf (k+1) Om;rw[show i+1+k=i+(k+1) by omega,this];rfl];rw[<-VE i,hf 0 Om];rfl
def ki(ts:TS)(n:Nat)(h:ts.length=n):ts=Gv (λi=>slot ts i) n 0:=zL _ n 0 ts h λk _=>by rw[TZ]
def bx:=A6 (Dp @Dh @pP @pO @Dk @AU @Di @Dj @Gp @rV @Df @Dg @yr @yp @yq @Gn @AQ @C9 @Jv @vC @Jw @Jx @gm @kg @pM) (Dp @k9 @rN @w7 @ub @Mh @Mf @Mg @Mk @Mj @Dm @AS @CW @Gj @pN @yo @C4 @AO @yn @Gk @Gh @Jr @rT @CZ @ua) (Dp @CY @Js @Gc @C8 @C6 @C7 @CX @Gf @Ge @C0 @rS @AR @Gg @Gd @C5 @Gm @Gi @Jt @Ju @CB @Cr @Cu @CA @Ct) (Dp @Cv @Cw @Cy @Cz @Aw @Av @El @Em @KW @KX @EL @EM @sf @vI @Hk @Hl @nD @zy @Ew @Eu @Fu @E7 @BM @Ia) (Dp @Ib @H9 @IX @EO @EN @As @zt @zq @zp @ur @HQ @Fe @Ff @Fa @Fi @Fj @E9 @E8 @Fc @Fb @ER @EP @Cj @yc) (JO @Md @D3 @D0 @DZ @DY @DX @DW @DV @DU @DT @DS @Jo @Ih @DH @Co @Au @Cn)
def yI:
  (∀{P}{ro}{ks}{ts}{h}{Q}{d}{q}{l}{k}{p:Prop} [Decidable p],WG P ro (.bool (decide p)) true q k d l ks ts h Q=((p->WP P ro ({dst:=d,k:=k,gd:=none,q:=q} ::l) ks ts h Q)/\(¬p->WP P ro l ks (put ts d ar) h Q)))/\
  (∀{P:Program}{ro:Option Nat->Prop}{ks:List Kt}{ts:TS}{h:af}{Q:Ex->TS->af->Prop}{d:Option Nat}{q:Bool}{l:List aZ}{k:mD}{p:Prop} [Decidable p],WG P ro (.bool (decide p)) false q k d l ks ts h Q=((p->WP P ro l ks (put ts d ar) h Q)/\(¬p->WP P ro ({dst:=d,k:=k,gd:=none,q:=q} ::l) ks ts h Q)))/\
  (∀{P:Program}{ro:Option Nat->Prop}{ks:List Kt}{ts:TS}{h:af}{Q:Ex->TS->af->Prop}{a b:aj}{p:Prop} [Decidable p],WB P ro (.bool (decide p)) a b ks ts h Q=((p->WC P ro a ks ts h Q)/\(¬p->WC P ro b ks ts h Q))):=
 ⟨@Db,@Dc,@Gq⟩
end Go.Abs
namespace Go.Abs
def cF{h:af}{b:Nat}(a:af)(hb:b<h.length):(h++a)[b]? =h[b]? :=Tj hb
def dD{h:af}{b:Nat}(a:af)(k:ai)(hb:b<h.length):(h++a).set b k=h.set b k++a:=List.set_append_left _ _ hb
def vR{X:af}{k k':ai}:(X++[k]).set X.length k' =X++[k']:=by
 rw[Ub _ _ (Ts _)];simp
def bF{X:af}{k:ai}:(X++[k])[X.length]? =some k:=Si
def dy(n:Option Nat)(o:Nat):ai->Option (AV×fR)
 |.cells c _ _=>
  match n with
  |none=>
   match c[o]? with
   |some x=>some (x,.aq)
   |none=>none
  |some n=>if o+n<=c.length then some (.agg ((c.drop o).take n),.aq)else none
 |_=>none
def iP(n o:Nat)(v:AV)(b:Nat):ai->Option (AV×fR)
 |.cells c true tl=>if v.cells.length=n/\v.cells.all AV.one=true/\o+n<=c.length then some (ar,.set b (.cells (eJ c o v.cells) true tl))else none
 |_=>none
def az{n:Option Nat}{b o:Nat}{G:Nat->Option ai}{k:ai}(hb:G b=some k):au n (.ptr b o) G=dy n o k:=by
 simp only[au,hb];cases k<;>rfl
def aX{n b o:Nat}{v:AV}{G:Nat->Option ai}{k:ai}(hb:G b=some k):bB n (.ptr b o) v G=iP n o v b k:=by
 simp only[bB,hb];cases k with
 |cells c mu tl=>cases mu<;>rfl
 |_=>rfl
def dc(b:Nat)(s:By)(pos:Nat):Option (AV×fR):=
 if pos<s.length then some (.dh [.bool true,.int .i64 pos,.int .i32 (Utf8.decode ⟨⟨s⟩⟩ pos).1],.set b (.iter s (pos+(Utf8.decode ⟨⟨s⟩⟩ pos).2)))else some (.dh [.bool false],.aq)
def eo(x:AV)(G:Nat->Option ai):Option (AV×fR):=
 match x with
 |.ptr b 0=>
  match G b with
  |some (.iter s pos)=>dc b s pos
  |_=>none
 |_=>none
def cW{b pos:Nat}{s:By}{G:Nat->Option ai}(hb:G b=some (.iter s pos)):eo (.ptr b 0) G=dc b s pos:=by
 simp only[eo,hb]
def sC{x:cC}{ρ:cC->AV}{G:Nat->Option ai}{N:Nat}:stepT (.o8 x) ρ G N=eo (ρ x) G:=by
 simp only[stepT,kX,eo,dc];cases ρ x with
 |ptr b o=>
  cases o with
  |zero=>
   simp only;cases G b with
   |none=>rfl
   |some k=>cases k<;>rfl
  |succ o=>rfl
 |_=>rfl
def DC(x:AV)(N:Nat):Option (AV×fR):=
 match x with
 |.str s=>some (.ptr N 0,.push (.iter s 0))
 |_=>none
def AP{P:Program}{ro:Option Nat->Prop}{ks:List Kt}{ts:TS}{h:af}{Q:Ex->TS->af->Prop}{d:Option Nat}{q:Bool}{l:List aZ}{x:cC}:WP P ro ({dst:=d,k:=.zk x,gd:=none,q:=q} ::l) ks ts h Q=WR P ro (DC (val ts x) h.length) q d l ks ts h Q:=rfl
def EH{s:By}{N:Nat}:DC (.str s) N=some (.ptr N 0,.push (.iter s 0)):=rfl
def CL{X:af}{K}:(X++[K])[X.length]? =some K:=by
 exact bF
def K9{n o X K}:au n (.ptr X.length o) (λz=>(X++[K])[z]?)=dy n o K:=az CL
def Kp{y o v X K}:bB y (.ptr X.length o) v (λz=>(X++[K])[z]?)=iP y o v X.length K:=aX CL
def KR{pos s X}:eo (.ptr X.length 0) (λz=>(X++[.iter s pos])[z]?)=dc X.length s pos:=cW CL
def y5{X:af}{K K'}:(X++[K]).set X.length K' =X++[K']:=by
 exact vR
def rJ{X:af}{K a}:(X++[K]++a)[X.length]? =some K:=by
 rw[cF,CL];simp
def K8{n o X K a}:au n (.ptr X.length o) (λz=>(X++[K]++a)[z]?)=dy n o K:=az rJ
def Ko{y o v X K a}:bB y (.ptr X.length o) v (λz=>(X++[K]++a)[z]?)=iP y o v X.length K:=aX rJ
def KQ{pos s X a}:eo (.ptr X.length 0) (λz=>(X++[.iter s pos]++a)[z]?)=dc X.length s pos:=cW rJ
def vS{X:af}{K K' a}:(X++[K]++a).set X.length K' =X++[K']++a:=by
 rw[dD,y5];simp
def yi{X:af}{K a b}:(X++[K]++a++b)[X.length]? =some K:=by
 rw[cF,rJ];simp
def K7{n o X K a b}:au n (.ptr X.length o) (λz=>(X++[K]++a++b)[z]?)=dy n o K:=az yi
def Kn{y o v X K a b}:bB y (.ptr X.length o) v (λz=>(X++[K]++a++b)[z]?)=iP y o v X.length K:=aX yi
def KP{pos s X a b}:eo (.ptr X.length 0) (λz=>(X++[.iter s pos]++a++b)[z]?)=dc X.length s pos:=cW yi
def Dz{X:af}{K K' a b}:(X++[K]++a++b).set X.length K' =X++[K']++a++b:=by
 rw[dD,vS];simp
def p9{X:af}{K a b c}:(X++[K]++a++b++c)[X.length]? =some K:=by
 rw[cF,yi];simp
def K6{n o X K a b c}:au n (.ptr X.length o) (λz=>(X++[K]++a++b++c)[z]?)=dy n o K:=az p9
def Km{y o v X K a b c}:bB y (.ptr X.length o) v (λz=>(X++[K]++a++b++c)[z]?)=iP y o v X.length K:=aX p9
def KO{pos s X a b c}:eo (.ptr X.length 0) (λz=>(X++[.iter s pos]++a++b++c)[z]?)=dc X.length s pos:=cW p9
def Dy{X:af}{K K' a b c}:(X++[K]++a++b++c).set X.length K' =X++[K']++a++b++c:=by
 rw[dD,Dz];simp
def rI{X:af}{K a b c d}:(X++[K]++a++b++c++d)[X.length]? =some K:=by
 rw[cF,p9];simp
def K5{n o X K a b c d}:au n (.ptr X.length o) (λz=>(X++[K]++a++b++c++d)[z]?)=dy n o K:=az rI
def Kl{y o v X K a b c d}:bB y (.ptr X.length o) v (λz=>(X++[K]++a++b++c++d)[z]?)=iP y o v X.length K:=aX rI
def KN{pos s X a b c d}:eo (.ptr X.length 0) (λz=>(X++[.iter s pos]++a++b++c++d)[z]?)=dc X.length s pos:=cW rI
def yY{X:af}{K K' a b c d}:(X++[K]++a++b++c++d).set X.length K' =X++[K']++a++b++c++d:=by
 rw[dD,Dy];simp
def AB{X:af}{K a b c d e}:(X++[K]++a++b++c++d++e)[X.length]? =some K:=by
 rw[cF,rI];simp
def K4{n o X K a b c d e}:au n (.ptr X.length o) (λz=>(X++[K]++a++b++c++d++e)[z]?)=dy n o K:=az AB
def Kk{y o v X K a b c d e}:bB y (.ptr X.length o) v (λz=>(X++[K]++a++b++c++d++e)[z]?)=iP y o v X.length K:=aX AB
def KM{pos s X a b c d e}:eo (.ptr X.length 0) (λz=>(X++[.iter s pos]++a++b++c++d++e)[z]?)=dc X.length s pos:=cW AB
def Dx{X:af}{K K' a b c d e}:(X++[K]++a++b++c++d++e).set X.length K' =X++[K']++a++b++c++d++e:=by
 rw[dD,yY];simp
def CJ{X:af}{K a b c d e f}:(X++[K]++a++b++c++d++e++f)[X.length]? =some K:=by
 rw[cF,AB];simp
def K3{n o X K a b c d e f}:au n (.ptr X.length o) (λz=>(X++[K]++a++b++c++d++e++f)[z]?)=dy n o K:=az CJ
def Kj{y o v X K a b c d e f}:bB y (.ptr X.length o) v (λz=>(X++[K]++a++b++c++d++e++f)[z]?)=iP y o v X.length K:=aX CJ
def KL{pos s X a b c d e f}:eo (.ptr X.length 0) (λz=>(X++[.iter s pos]++a++b++c++d++e++f)[z]?)=dc X.length s pos:=cW CJ
def Dw{X:af}{K K' a b c d e f}:(X++[K]++a++b++c++d++e++f).set X.length K' =X++[K']++a++b++c++d++e++f:=by
 rw[dD,Dx];simp
def CI{X:af}{K a b c d e f g}:(X++[K]++a++b++c++d++e++f++g)[X.length]? =some K:=by
 rw[cF,CJ];simp
def K2{n o X K a b c d e f g}:au n (.ptr X.length o) (λz=>(X++[K]++a++b++c++d++e++f++g)[z]?)=dy n o K:=az CI
def Ki{y o v X K a b c d e f g}:bB y (.ptr X.length o) v (λz=>(X++[K]++a++b++c++d++e++f++g)[z]?)=iP y o v X.length K:=aX CI
def KK{pos s X a b c d e f g}:eo (.ptr X.length 0) (λz=>(X++[.iter s pos]++a++b++c++d++e++f++g)[z]?)=dc X.length s pos:=cW CI
def Dv{X:af}{K K' a b c d e f g}:(X++[K]++a++b++c++d++e++f++g).set X.length K' =X++[K']++a++b++c++d++e++f++g:=by
 rw[dD,Dw];simp
def CH{X:af}{K a b c d e f g i}:(X++[K]++a++b++c++d++e++f++g++i)[X.length]? =some K:=by
 rw[cF,CI];simp
def K1{n o X K a b c d e f g i}:au n (.ptr X.length o) (λz=>(X++[K]++a++b++c++d++e++f++g++i)[z]?)=dy n o K:=az CH
def Kh{y o v X K a b c d e f g i}:bB y (.ptr X.length o) v (λz=>(X++[K]++a++b++c++d++e++f++g++i)[z]?)=iP y o v X.length K:=aX CH
def KJ{pos s X a b c d e f g i}:eo (.ptr X.length 0) (λz=>(X++[.iter s pos]++a++b++c++d++e++f++g++i)[z]?)=dc X.length s pos:=cW CH
def Du{X:af}{K K' a b c d e f g i}:(X++[K]++a++b++c++d++e++f++g++i).set X.length K' =X++[K']++a++b++c++d++e++f++g++i:=by
 rw[dD,Dv];simp
def CG{X:af}{K a b c d e f g i j}:(X++[K]++a++b++c++d++e++f++g++i++j)[X.length]? =some K:=by
 rw[cF,CH];simp
def KZ{n o X K a b c d e f g i j}:au n (.ptr X.length o) (λz=>(X++[K]++a++b++c++d++e++f++g++i++j)[z]?)=dy n o K:=az CG
def Kg{y o v X K a b c d e f g i j}:bB y (.ptr X.length o) v (λz=>(X++[K]++a++b++c++d++e++f++g++i++j)[z]?)=iP y o v X.length K:=aX CG
def KI{pos s X a b c d e f g i j}:eo (.ptr X.length 0) (λz=>(X++[.iter s pos]++a++b++c++d++e++f++g++i++j)[z]?)=dc X.length s pos:=cW CG
def Dt{X:af}{K K' a b c d e f g i j}:(X++[K]++a++b++c++d++e++f++g++i++j).set X.length K' =X++[K']++a++b++c++d++e++f++g++i++j:=by
 rw[dD,Du];simp
def wS{X:af}{K a b c d e f g i j m}:(X++[K]++a++b++c++d++e++f++g++i++j++m)[X.length]? =some K:=by
 rw[cF,CG];simp
def Ip{n o X K a b c d e f g i j m}:au n (.ptr X.length o) (λz=>(X++[K]++a++b++c++d++e++f++g++i++j++m)[z]?)=dy n o K:=az wS
def Hz{y o v X K a b c d e f g i j m}:bB y (.ptr X.length o) v (λz=>(X++[K]++a++b++c++d++e++f++g++i++j++m)[z]?)=iP y o v X.length K:=aX wS
def H7{pos s X a b c d e f g i j m}:eo (.ptr X.length 0) (λz=>(X++[.iter s pos]++a++b++c++d++e++f++g++i++j++m)[z]?)=dc X.length s pos:=cW wS
def y4{X:af}{K K' a b c d e f g i j m}:(X++[K]++a++b++c++d++e++f++g++i++j++m).set X.length K' =X++[K']++a++b++c++d++e++f++g++i++j++m:=by
 rw[dD,Dt];simp
def wR{X:af}{K a b c d e f g i j m p}:(X++[K]++a++b++c++d++e++f++g++i++j++m++p)[X.length]? =some K:=by
 rw[cF,wS];simp
def Io{n o X K a b c d e f g i j m p}:au n (.ptr X.length o) (λz=>(X++[K]++a++b++c++d++e++f++g++i++j++m++p)[z]?)=dy n o K:=az wR
def Hy{y o v X K a b c d e f g i j m p}:bB y (.ptr X.length o) v (λz=>(X++[K]++a++b++c++d++e++f++g++i++j++m++p)[z]?)=iP y o v X.length K:=aX wR
def H6{pos s X a b c d e f g i j m p}:eo (.ptr X.length 0) (λz=>(X++[.iter s pos]++a++b++c++d++e++f++g++i++j++m++p)[z]?)=dc X.length s pos:=cW wR
def y3{X:af}{K K' a b c d e f g i j m p}:(X++[K]++a++b++c++d++e++f++g++i++j++m++p).set X.length K' =X++[K']++a++b++c++d++e++f++g++i++j++m++p:=by
 rw[dD,y4];simp
def wQ{X:af}{K a b c d e f g i j m p q}:(X++[K]++a++b++c++d++e++f++g++i++j++m++p++q)[X.length]? =some K:=by
 rw[cF,wR];simp
def Im{n o X K a b c d e f g i j m p q}:au n (.ptr X.length o) (λz=>(X++[K]++a++b++c++d++e++f++g++i++j++m++p++q)[z]?)=dy n o K:=az wQ
def Hx{y o v X K a b c d e f g i j m p q}:bB y (.ptr X.length o) v (λz=>(X++[K]++a++b++c++d++e++f++g++i++j++m++p++q)[z]?)=iP y o v X.length K:=aX wQ
def H5{pos s X a b c d e f g i j m p q}:eo (.ptr X.length 0) (λz=>(X++[.iter s pos]++a++b++c++d++e++f++g++i++j++m++p++q)[z]?)=dc X.length s pos:=cW wQ
def y0{X:af}{K K' a b c d e f g i j m p q}:(X++[K]++a++b++c++d++e++f++g++i++j++m++p++q).set X.length K' =X++[K']++a++b++c++d++e++f++g++i++j++m++p++q:=by
 rw[dD,y3];simp
def wP{X:af}{K a b c d e f g i j m p q r}:(X++[K]++a++b++c++d++e++f++g++i++j++m++p++q++r)[X.length]? =some K:=by
 rw[cF,wQ];simp
def Il{n o X K a b c d e f g i j m p q r}:au n (.ptr X.length o) (λz=>(X++[K]++a++b++c++d++e++f++g++i++j++m++p++q++r)[z]?)=dy n o K:=az wP
def Hw{y o v X K a b c d e f g i j m p q r}:bB y (.ptr X.length o) v (λz=>(X++[K]++a++b++c++d++e++f++g++i++j++m++p++q++r)[z]?)=iP y o v X.length K:=aX wP
def H4{pos s X a b c d e f g i j m p q r}:eo (.ptr X.length 0) (λz=>(X++[.iter s pos]++a++b++c++d++e++f++g++i++j++m++p++q++r)[z]?)=dc X.length s pos:=cW wP
def yZ{X:af}{K K' a b c d e f g i j m p q r}:(X++[K]++a++b++c++d++e++f++g++i++j++m++p++q++r).set X.length K' =X++[K']++a++b++c++d++e++f++g++i++j++m++p++q++r:=by
 rw[dD,y0];simp
def AD{X:af}{K a b c d e f g i j m p q r t}:(X++[K]++a++b++c++d++e++f++g++i++j++m++p++q++r++t)[X.length]? =some K:=by
 rw[cF,wP];simp
def Ik{n o X K a b c d e f g i j m p q r t}:au n (.ptr X.length o) (λz=>(X++[K]++a++b++c++d++e++f++g++i++j++m++p++q++r++t)[z]?)=dy n o K:=az AD
def Hv{y o v X K a b c d e f g i j m p q r t}:bB y (.ptr X.length o) v (λz=>(X++[K]++a++b++c++d++e++f++g++i++j++m++p++q++r++t)[z]?)=iP y o v X.length K:=aX AD
def H3{pos s X a b c d e f g i j m p q r t}:eo (.ptr X.length 0) (λz=>(X++[.iter s pos]++a++b++c++d++e++f++g++i++j++m++p++q++r++t)[z]?)=dc X.length s pos:=cW AD
def Ey{X:af}{K K' a b c d e f g i j m p q r t}:(X++[K]++a++b++c++d++e++f++g++i++j++m++p++q++r++t).set X.length K' =X++[K']++a++b++c++d++e++f++g++i++j++m++p++q++r++t:=by
 rw[dD,yZ];simp
def It{o:Nat}{c:List AV}{mu tl:Bool}{x:AV}(hx:c[o]? =some x):dy none o (.cells c mu tl)=some (x,.aq):=by simp only[dy,hx]
def Is{o n:Nat}{c:List AV}{mu tl:Bool}(hx:o+n<=c.length):dy (some n) o (.cells c mu tl)=some (.agg ((c.drop o).take n),.aq):=by simp only[dy];rw[Ty hx]
def ri{n o b:Nat}{c l:List AV}{tl:Bool}(h1:l.length=n)(h2:l.all AV.one=true)(h3:o+n<=c.length):iP n o (.agg l) b (.cells c true tl)=some (ar,.set b (.cells (eJ c o l) true tl)):=by
 show(if l.length=n/\l.all AV.one=true/\o+n<=c.length then _ else none)=_;rw[Ty ⟨h1,h2,h3⟩];rfl
def AV.j9{v:AV}(hv:v.one=true):v.cells=[v]:=by cases v<;>first|rfl|cases hv
def dR{o b:Nat}{c:List AV}{v:AV}{tl:Bool}(h2:v.one=true)(h3:o+1<=c.length):iP 1 o v b (.cells c true tl)=some (ar,.set b (.cells (c.set o v) true tl)):=by
 simp only[iP,AV.j9 h2];rw[Ty ⟨rfl,by simp[h2],h3⟩];rfl
def y7{c:List AV}{o:Nat}:eJ c o []=c:=rfl
def mL{c:List AV}{o:Nat}{x:AV}{xs:List AV}:eJ c o (x::xs)=eJ (c.set o x) (o+1) xs:=rfl
def Ec{z:List AV}:cZ 0 z=[]:=rfl
def yE{n:Nat}{z:List AV}:cZ (n+1) z=z++cZ n z:=rfl
def Ac{c:List AV}:dA c []=some c:=rfl
def Ab{c:List AV}{off:Nat}{v:AV}{r:List (Nat×Nat×AV)}(h2:v.one=true)(h3:off+1<=c.length):dA c ((off,1,v)::r)=dA (c.set off v) r:=by
 simp only[dA,AV.j9 h2];rw[Ty ⟨rfl,h3⟩];rfl
def Ad{c l:List AV}{off n:Nat}{r:List (Nat×Nat×AV)}(h2:l.length=n)(h3:off+n<=c.length):dA c ((off,n,.agg l)::r)=dA (eJ c off l) r:=by
 show(if l.length=n/\off+n<=c.length then dA (eJ c off l) r else none)=_;rw[Ty ⟨h2,h3⟩]
def vq{es n N:Nat}{c:List AV}(h1:c.all AV.one=true)(h2:c.length=n*es)(h3:1<=n):vt es n (some c) N=some (.slice N 0 n es,.push (.cells c true true)):=by
 have:Nat.beq n 0=false:=by cases n with|zero=>omega|succ n=>rfl
 simp only[vt];rw[Ty ⟨h1,h2⟩,this];rfl
def Je{es N:Nat}:vt es 0 (some []) N=some (.slice N 0 0 es,.push (.cells [] true false)):=by
 simp only[vt];rw[Ty ⟨rfl,Si⟩];rfl
def E1{f:Nat×cC->Nat×Nat×AV}:List.map f []=[]:=rfl
def E0{f:Nat×cC->Nat×Nat×AV}{a:Nat×cC}{l:List (Nat×cC)}:List.map f (a::l)=f a::l.map f:=rfl
def EZ{f:Nat×Nat×cC->Nat×Nat×AV}:List.map f []=[]:=rfl
def EY{f:Nat×Nat×cC->Nat×Nat×AV}{a:Nat×Nat×cC}{l:List (Nat×Nat×cC)}:List.map f (a::l)=f a::l.map f:=rfl
def BU{l:List AV}:l.drop 0=l:=rfl
def BT{a:AV}{l:List AV}{n:Nat}:(a::l).drop (n+1)=l.drop n:=rfl
def BS{l:List AV}:l.take 0=[]:=Si
def BQ{a:AV}{l:List AV}{n:Nat}:(a::l).take (n+1)=a::l.take n:=rfl
def Fh{a:AV}{l:List AV}:(a::l)[0]? =some a:=rfl
def Fg{a:AV}{l:List AV}{n:Nat}:(a::l)[n+1]? =l[n]? :=rfl
abbrev aB(x:Int):List AV:=[.int .i64 x]
def bG{X:af}(l:List Int):aA (X++[.cells (l.map (AV.int .i64)) true true]) (.slice X.length 0 l.length 1) 1 (l.map aB):=by
 have hf:(l.map aB).flatten=l.map (AV.int .i64):=by induction l with
  |nil=>rfl
  |cons x xs ih=>simp[aB]at ih ⊢;exact ih
 have h1:(l.map aB).length=l.length:=Si
 rw[<-h1];exact .mk (by simp;exact⟨rfl,rfl,rfl⟩) (by rw[hf,Vg,h1,UF];exact TV Si) Si (by simp[aB])
section
variable {h:af}{s:AV}{es:Nat}{cs:List (List AV)}
def aA.Ii(hs:aA h s es cs){k:af}{i:Nat}(e:Ext h k)(hi:i<cs.length):au (some es) (.ptr s.sb (s.so+i*es)) (λb=>k[b]?)=some (.agg cs[i],.aq):=(hs.ext e).load hi
def aA.E3(hs:aA h s es cs){k:af}{i off:Nat}(e:Ext h k)(hi:i<cs.length){x:AV}(hx:cs[i][off]? =some x):au none (.ptr s.sb (s.so+i*es+off)) (λb=>k[b]?)=some (x,.aq):=(hs.ext e).zN hi hx
def aA.E4(hs:aA h s es cs){k:af}{i:Nat}(e:Ext h k)(hi:i<cs.length){x:AV}(hx:cs[i][0]? =some x):au none (.ptr s.sb (s.so+i*es)) (λb=>k[b]?)=some (x,.aq):=(hs.ext e).zN (off:=0) hi hx
end
def bo:=A4 (Dp @K9 @Kp @KR @y5 @K8 @Ko @KQ @vS @K7 @Kn @KP @Dz @K6 @Km @KO @Dy @K5 @Kl @KN @yY @K4 @Kk @KM @Dx) (Dp @K3 @Kj @KL @Dw @K2 @Ki @KK @Dv @K1 @Kh @KJ @Du @KZ @Kg @KI @Dt @Ip @Hz @H7 @y4 @Io @Hy @H6 @y3) (Dp @Im @Hx @H5 @y0 @Il @Hw @H4 @yZ @Ik @Hv @H3 @Ey @sC @AP @EH @It @Is @ri @dR @y7 @mL @Ec @yE @Ac) (JQ @Ab @Ad @vq @Je @E1 @E0 @EZ @EY @BU @BT @BS @BQ @Fh @Fg)
def p4:
  (∀{h:af},Ext h (h)=True)/\
  (∀{h a:af},Ext h (h++a)=True)/\
  (∀{h a b:af},Ext h (h++a++b)=True)/\
  (∀{h a b c:af},Ext h (h++a++b++c)=True)/\
  (∀{h a b c d:af},Ext h (h++a++b++c++d)=True)/\
  (∀{h a b c d e:af},Ext h (h++a++b++c++d++e)=True)/\
  (∀{h a b c d e f:af},Ext h (h++a++b++c++d++e++f)=True)/\
  (∀{h a b c d e f g:af},Ext h (h++a++b++c++d++e++f++g)=True)/\
  (∀{h a b c d e f g i:af},Ext h (h++a++b++c++d++e++f++g++i)=True)/\
  (∀{h a b c d e f g i j:af},Ext h (h++a++b++c++d++e++f++g++i++j)=True):=
 ⟨@D3,@D0,@DZ,@DY,@DX,@DW,@DV,@DU,@DT,@DS⟩
end Go.Abs
namespace Go.Abs
def M7:Option AV->Option (AV×fR)
 |some x=>some (x,.aq)
 |none=>none
def Iq{x}:M7 (some x)=some (x,.aq):=rfl
def Ir{o c mu tl}:dy none o (.cells c mu tl)=M7 c[o]? :=rfl
def dG(s:AV)(es i:Nat):AV:=.ptr s.sb (s.so+i*es)
def Gy(s:AV)(es i off:Nat):AV:=.ptr s.sb (s.so+i*es+off)
def Ca{s es i off}:qN off (dG s es i)=some (Gy s es i off):=rfl
section
variable {α:Type}{row:α->List AV}{L:List α}{h k:af}{s:AV}{es:Nat}
def aA.bh(hs:aA h s es (L.map row))(G:Nat->Option ai):Go.Abs.gZ .sl G s=some L.length:=by
 rw[hs.gZ G,Tu]
def aA.eX(hs:aA h s es (L.map row)){i:Nat}{kk}(hi:i<L.length):aV es s (.int kk (i:Int))=some (dG s es i,.aq):=by
 rw[hs.bU Om (by rw[Tu];omega),U0];rfl
def aA.n8(hs:aA h s es (L.map row)){kk}(hi:0<L.length):aV es s (.int kk 0)=some (dG s es 0,.aq):=hs.eX hi
def aA.lO(hs:aA h s es (L.map row)){i}(hi:i<L.length)(e:Ext h k):au (some es) (dG s es i) (λb=>k[b]?)=some (.agg (row L[i]),.aq):=by
 rw[dG,hs.Ii e (by rw[Tu];exact hi),Ux]
def aA.M6(hs:aA h s es (L.map row)){i off x}(hi:i<L.length)(hx:(row L[i])[off]? =some x)(e:Ext h k):au none (Gy s es i off) (λb=>k[b]?)=some (x,.aq):=
 hs.E3 e (by rw[Tu];exact hi) (by rw[Ux];exact hx)
def aA.kV(hs:aA h s es (L.map row)){i x}(hi:i<L.length)(hx:(row L[i])[0]? =some x)(e:Ext h k):au none (dG s es i) (λb=>k[b]?)=some (x,.aq):=
 hs.E4 e (by rw[Tu];exact hi) (by rw[Ux];exact hx)
def aA.HC(hs:aA h s es (L.map row)){lo hi l u}(hb:gj lo hi L.length=some (l,u)):∃s',yx es s lo hi=some (s',.aq)/\aA h s' es (((L.drop l).take (u-l)).map row):=by
 obtain⟨s',h1,h2⟩:=hs.sl (lo:=lo) (hi:=hi) (by rw[Tu];exact hb);exact⟨s',h1,by rw[List.map_take,List.map_drop];exact h2⟩
end
def kf{n k:Nat}{kk}(hk:k<=n):gj none (some (.int kk (k:Int))) n=some (0,k):=by
 simp only[gj,E6,DM];rw[Ty Om];simp
def lY{n k:Nat}{kk}(hk:k<=n):gj (some (.int kk (k:Int))) none n=some (k,n):=by
 simp only[gj,E6,DM];rw[Ty Om];simp
def wu{c r k}:zU (.str (c::r)) (.int k 0)=some (.int .u8 c.toNat):=rfl
def jK{s i k}(hi:i<s.length):zU (.str s) (.int k (i:Nat))=some (.int .u8 s[i].toNat):=by
 simp[zU,hi]
def wrapN{n:Nat}(h:n+1<2^63):IntKind.i64.wrap ((n:Int)+1)=((n+1:Nat):Int):=by rw[aR Om Om];rfl
def lv:Option (AV×fR)->Option AV
 |some (v,_)=>some v
 |none=>none
def KY{v e}:lv (some (v,e))=some v:=rfl
def dZ{ts h a n}:dL ts h (a,some n)=lv (au n (slot ts a) (λb=>h[b]?)):=by
 simp only[dL,cN,val,slot];cases ts.getD a ar with
 |ptr b o=>
  simp only[au];cases h[b]? with
  |none=>rfl
  |some k=>
   cases k with
   |cells c mu tl=>
    cases n with
    |none=>simp only;cases c[o]? <;>rfl
    |some n=>simp only;by_cases hc:o+n<=c.length
             ·rw[Ty hc,Ty hc];rfl
             ·rw[Tt hc,Tt hc];rfl
   |_=>rfl
 |_=>rfl
def yT:Option AV->Option AV->Option AV
 |some a,some b=>some (.dh [a,b])
 |_,_=>none
def rf:Option AV->Option AV->Option AV->Option AV
 |some a,some b,some c=>some (.dh [a,b,c])
 |_,_,_=>none
def Ep{a b}:yT (some a) (some b)=some (.dh [a,b]):=rfl
def Eo{a b c}:rf (some a) (some b) (some c)=some (.dh [a,b,c]):=rfl
def xE{ts h r}:cD [r] ts h=dL ts h r:=by
 simp only[cD,gP];cases dL ts h r<;>rfl
def mM{ts h r s}:cD [r,s] ts h=yT (dL ts h r) (dL ts h s):=by
 simp only[cD,gP];cases dL ts h r<;>cases dL ts h s<;>rfl
def fE{ts h r s t}:cD [r,s,t] ts h=rf (dL ts h r) (dL ts h s) (dL ts h t):=by
 simp only[cD,gP];cases dL ts h r<;>cases dL ts h s<;>cases dL ts h t<;>rfl
def dY{ts h a}:dL ts h (a,none)=some (slot ts a):=rfl
def zo:∀{ts}{h}{x}{nx},cD [(x,some nx)] ts h=lv (au nx (slot ts x) (λb=>h[b]?)):=by
 intros;rw[xE];simp only[dZ,dY]
def xF:∀{ts}{h}{x y}{ny},cD [(x,none),(y,some ny)] ts h=yT (some (slot ts x)) (lv (au ny (slot ts y) (λb=>h[b]?))):=by
 intros;rw[mM];simp only[dZ,dY]
def xG:∀{ts}{h}{x y}{nx},cD [(x,some nx),(y,none)] ts h=yT (lv (au nx (slot ts x) (λb=>h[b]?))) (some (slot ts y)):=by
 intros;rw[mM];simp only[dZ,dY]
def xH:∀{ts}{h}{x y}{nx ny},cD [(x,some nx),(y,some ny)] ts h=yT (lv (au nx (slot ts x) (λb=>h[b]?))) (lv (au ny (slot ts y) (λb=>h[b]?))):=by
 intros;rw[mM];simp only[dZ,dY]
def uB:∀{ts}{h}{x y z}{nz},cD [(x,none),(y,none),(z,some nz)] ts h=rf (some (slot ts x)) (some (slot ts y)) (lv (au nz (slot ts z) (λb=>h[b]?))):=by
 intros;rw[fE];simp only[dZ,dY]
def uC:∀{ts}{h}{x y z}{ny},cD [(x,none),(y,some ny),(z,none)] ts h=rf (some (slot ts x)) (lv (au ny (slot ts y) (λb=>h[b]?))) (some (slot ts z)):=by
 intros;rw[fE];simp only[dZ,dY]
def uD:∀{ts}{h}{x y z}{ny nz},cD [(x,none),(y,some ny),(z,some nz)] ts h=rf (some (slot ts x)) (lv (au ny (slot ts y) (λb=>h[b]?))) (lv (au nz (slot ts z) (λb=>h[b]?))):=by
 intros;rw[fE];simp only[dZ,dY]
def uE:∀{ts}{h}{x y z}{nx},cD [(x,some nx),(y,none),(z,none)] ts h=rf (lv (au nx (slot ts x) (λb=>h[b]?))) (some (slot ts y)) (some (slot ts z)):=by
 intros;rw[fE];simp only[dZ,dY]
def uF:∀{ts}{h}{x y z}{nx nz},cD [(x,some nx),(y,none),(z,some nz)] ts h=rf (lv (au nx (slot ts x) (λb=>h[b]?))) (some (slot ts y)) (lv (au nz (slot ts z) (λb=>h[b]?))):=by
 intros;rw[fE];simp only[dZ,dY]
def uG:∀{ts}{h}{x y z}{nx ny},cD [(x,some nx),(y,some ny),(z,none)] ts h=rf (lv (au nx (slot ts x) (λb=>h[b]?))) (lv (au ny (slot ts y) (λb=>h[b]?))) (some (slot ts z)):=by
 intros;rw[fE];simp only[dZ,dY]
def uH:∀{ts}{h}{x y z}{nx ny nz},cD [(x,some nx),(y,some ny),(z,some nz)] ts h=rf (lv (au nx (slot ts x) (λb=>h[b]?))) (lv (au ny (slot ts y) (λb=>h[b]?))) (lv (au nz (slot ts z) (λb=>h[b]?))):=by
 intros;rw[fE];simp only[dZ,dY]
def Fy{b}:nW false (some b)=some (.bool b):=rfl
def Fx{b}:nW true (some b)=some (.bool !b):=rfl
def yk(b:Bool)(o:Option Bool):Option Bool:=
 match b with
 |true=>o
 |false=>some false
def F8{b c}:yk b (some c)=some (b&&c):=by cases b<;>rfl
def I0{k a b ks xs ys}:cL (.i::ks) (.int k a::xs) (.int k b::ys)=yk (decide (a=b)) (cL ks xs ys):=by
 exact My
def IY{a b ks xs ys}:cL (.s::ks) (.str a::xs) (.str b::ys)=yk (decide (a=b)) (cL ks xs ys):=by
 exact My
def I3{a b ks xs ys}:cL (.b::ks) (.bool a::xs) (.bool b::ys)=yk (a==b) (cL ks xs ys):=by
 cases a<;>cases b<;>rfl
def IZ:cL [] [] []=some true:=rfl
def M9{ks xs ys}(h1:xs.length=ks.length)(h2:ys.length=ks.length):kY (.agg ks) (.agg xs) (.agg ys)=cL ks xs ys:=by
 simp only[kY,wC];rw[Ty ⟨h1,h2⟩]
def I5{a b}:kY (.one .b) (.bool a) (.bool b)=some (a==b):=rfl
def Cl{a:CK}{l:List CK}:(a::l).length=l.length+1:=rfl
def Cm:([] :List CK).length=0:=rfl
def Fr.lt{N h s es cs}(hs:Fr N h s es cs){b o n e}(hb:s=.slice b o n e):N<=b/\b<h.length:=by
 cases hs with
 |nil=>cases hb
 |mk hN h1 he=>cases hb;exact⟨hN,(Th.1 h1).1⟩
def Fr.swap{A B g s es cs}(hs:Fr A.length (A++g) s es cs)(hl:B.length=A.length):Fr A.length (B++g) s es cs:=by
 cases hs with
 |nil=>exact .nil
 | @mk _ _ _ tl hN h1 Ox=>
  refine .mk (tl:=tl) hN ?_ Ox;rw[To Om]at h1 ⊢;rw[hl];exact h1
def WR.fN{P ro ks ts Q h s y es cs ys h0 w d l}
  (hs:Fr h0.length h s es cs) (hy:aA h y es ys) (hes:0<es) (hne:0<ys.length) (dq:(cs.length+ys.length)*w<=2^46) (he:Ext h0 h)
  (K:∀g,(h0++g).length=h.length+1->Fr h0.length (h0++g) (.slice h.length 0 (cs++ys).length es) es (cs++ys)->(∀b,b<h.length->(∀b0 o n e,s=.slice b0 o n e->b≠b0)->(h0++g)[b]? =h[b]?)->WP P ro l ks (put ts d (.slice h.length 0 (cs++ys).length es)) (h0++g) Q):
  WR P ro (na es w s y (λb=>h[b]?) h.length) false d l ks ts h Q:=by
 have Pa:∀x∈cs++ys,x.length=es:=λx hx=>by
  exact G9
 have hk:¬ys.length=0:=Om
 simp only[na,hy.dO];cases hs with
 |nil=>
  simp only[Tr,TZ]at dq;simp only[Tt hk,Ty dq];rw[kg];have hx:=Fr.push (N:=h0.length) he.len ys hy.rows;obtain⟨g,rfl⟩:=he;have hK:=K (g++[.cells ys.flatten true true]) (by simp;omega);simp only[<-Ti,UP]at hK;exact hK hx λb hb _=>Tj hb
 | @mk b _ _ tl hN hb hre=>
  have hcl:=dz hre;cases tl with
  |false=>
   simp only[TQ,Tt hk,Ty dq,hb,TZ];rw[Ty Om,kg,UF];have hx:=Fr.push (h:=h) (N:=h0.length) (es:=es) he.len (cs++ys) Pa;simp only[Tg,UT]at hx ⊢;obtain⟨g,rfl⟩:=he;have hK:=K (g++[.cells (cs.flatten++ys.flatten) true true]) (by simp;omega);simp only[<-Ti,Tg,UT]at hK hx ⊢;exact hK hx λb hb _=>Tj (by simpa using hb)
  |true=>
  simp only[TQ,Tt hk,Ty dq,hb,TZ];rw[Ty Om,k9];have hbl:b<h.length:=(Th.1 hb).1;have hx:=Fr.push (h:=h.set b .dead) (N:=h0.length) (es:=es) (by simpa using he.len) (cs++ys) Pa;have hc:List.take (cs.length*es) (List.drop 0 cs.flatten)=cs.flatten:=by rw[UF,<-hcl,T7]
  rw[hc];obtain⟨g,rfl⟩:=he;have bo:(h0++g).set b .dead++[ai.cells (cs.flatten++ys.flatten) true true]=h0++(g.set (b-h0.length) .dead++[ai.cells (cs.flatten++ys.flatten) true true]):=by
   rw[Ub _ _ hN,Ti]
  have hK:=K (g.set (b-h0.length) .dead++[.cells (cs.flatten++ys.flatten) true true]) (by simp;omega);rw[<-bo]at hK;simp only[Um,UT,Tg]at hx hK ⊢;refine hK hx ?_;intro i hi hne;have:=hne b 0 _ _ rfl;rw[Tj (by simpa using hi),Ua (Vl this)]
def zE{k n}:AV.one (.int k n)=true:=rfl
def HY{b}:AV.one (.bool b)=true:=rfl
def DE{b}:AV.one (.str b)=true:=rfl
def HT{b o}:AV.one (.ptr b o)=true:=rfl
def HW{b o n e}:AV.one (.slice b o n e)=true:=rfl
def HU:AV.one .ah=true:=rfl
def HX{f a c}:AV.one (.func f a c)=true:=rfl
def AH{a l}:(a::l).all AV.one=(a.one&&l.all AV.one):=rfl
def AG:([] :List AV).all AV.one=true:=rfl
def aZ.o(n:Nat)(k:mD):aZ:=⟨some n,k,none,false⟩
def aZ.x(k:mD):aZ:=⟨none,k,none,false⟩
def aZ.m(n i:Nat):aZ:=⟨some n,.dw (.t i),none,false⟩
def aZ.y(n:Nat)(k:mD):aZ:=⟨some n,k,none,true⟩
def aZ.l(n i:Nat):aZ:=⟨some n,.load none (.t i),none,false⟩
def aZ.a(n o i:Nat):aZ:=⟨some n,.bK o (.t i),none,false⟩
def aZ.c(n f:Nat)(l:List cC):aZ:=⟨some n,.call (.f f) l,none,false⟩
def aZ.b(n:Nat)(k:BinOp)(x y:cC):aZ:=⟨some n,.bin k x y,none,false⟩
def aZ.e(n i j:Nat):aZ:=⟨some n,.ext (.t i) j,none,false⟩
def aZ.s(w i j:Nat):aZ:=⟨none,.store w (.t i) (.t j),none,false⟩
def aZ.r(n w i:Nat):aZ:=⟨some n,.load (some w) (.t i),none,false⟩
def aZ.p(n i:Nat):aZ:=⟨some n,.box (.t i),none,false⟩
def aZ.u(n:Nat)(k:BinOp)(i j:Nat):aZ:=⟨some n,.bin k (.t i) (.t j),none,false⟩
def aZ.h(n w i j:Nat):aZ:=⟨some n,.bU w (.t i) (.t j),none,false⟩
def aZ.d(n i j:Nat):aZ:=⟨some n,.pick (.t i) (.t j) (.c (.bool false)),none,false⟩
def aZ.f(n i j:Nat):aZ:=⟨some n,.pick (.t i) (.c (.bool true)) (.t j),none,false⟩
def aZ.n(n i:Nat):aZ:=⟨some n,.len .sl (.t i),none,false⟩
def cC.n(k:Int):cC:=.c (.int .i64 k)
def aj.s(l:List aZ)(b:aj):aj:=.seq (.ops l) b
def aj.r(l:List aZ):aj:=.seq (.ops l) .ret
def aZ.j(n i:Nat):aZ:=⟨some n,.load none (.t i),none,true⟩
def aZ.w(n i:Nat):aZ:=⟨some n,.dw (.t i),none,true⟩
def aZ.t(n c:Nat)(b:Bool)(i:Nat):aZ:=⟨some n,.dw (.t i),some (c,b),false⟩
def aZ.v(n:Nat)(k:BinOp)(i:Nat)(y:cC):aZ:=⟨some n,.bin k (.t i) y,none,false⟩
def cC.T:cC:=.c (.bool true)
def cC.F:cC:=.c (.bool false)
def aj.j(n:Nat)(l:List aZ):aj:=.cond (.t n) (.seq (.ops l) .ret) .skip
def aj.i(n:Nat)(a b:aj):aj:=.cond (.t n) a b
def aZ.g(n c:Nat)(b:Bool)(k:mD):aZ:=⟨some n,k,some (c,b),false⟩
def cC.z:cC:=.c (.int .i64 0)
def cC.w:cC:=.c (.int .i64 1)
def LY:∀{n i},aZ.m n i=⟨some n,.dw (.t i),none,false⟩:=rfl
def LX:∀{n c}{b}{k},aZ.g n c b k=⟨some n,k,some (c,b),false⟩:=rfl
def LW:∀{n}{k},aZ.o n k=⟨some n,k,none,false⟩:=rfl
def LV:∀{k},aZ.x k=⟨none,k,none,false⟩:=rfl
def LU:(cC.z=.c (.int .i64 0)):=rfl
def LS:(cC.w=.c (.int .i64 1)):=rfl
def LI:∀{n}{k},aZ.y n k=⟨some n,k,none,true⟩:=rfl
def LL:∀{n i},aZ.l n i=⟨some n,.load none (.t i),none,false⟩:=rfl
def LR:∀{n o i},aZ.a n o i=⟨some n,.bK o (.t i),none,false⟩:=rfl
def LO:∀{n f}{l},aZ.c n f l=⟨some n,.call (.f f) l,none,false⟩:=rfl
def LP:∀{n}{k}{x y},aZ.b n k x y=⟨some n,.bin k x y,none,false⟩:=rfl
def LN:∀{n i j},aZ.e n i j=⟨some n,.ext (.t i) j,none,false⟩:=rfl
def LG:∀{w i j},aZ.s w i j=⟨none,.store w (.t i) (.t j),none,false⟩:=rfl
def LH:∀{n w i},aZ.r n w i=⟨some n,.load (some w) (.t i),none,false⟩:=rfl
def LJ:∀{n i},aZ.p n i=⟨some n,.box (.t i),none,false⟩:=rfl
def LF:∀{n}{k}{i j},aZ.u n k i j=⟨some n,.bin k (.t i) (.t j),none,false⟩:=rfl
def LM:∀{n}{a b},aj.i n a b=.cond (.t n) a b:=rfl
def FG:∀{n w i j:Nat},aZ.h n w i j=⟨some n,.bU w (.t i) (.t j),none,false⟩:=rfl
def FI:∀{n i j:Nat},aZ.d n i j=⟨some n,.pick (.t i) (.t j) (.c (.bool false)),none,false⟩:=rfl
def FH:∀{n i j:Nat},aZ.f n i j=⟨some n,.pick (.t i) (.c (.bool true)) (.t j),none,false⟩:=rfl
def FF:∀{n i:Nat},aZ.n n i=⟨some n,.len .sl (.t i),none,false⟩:=rfl
def FE:∀{k:Int},cC.n k=.c (.int .i64 k):=rfl
def FJ:∀{l:List aZ}{b:aj},aj.s l b=.seq (.ops l) b:=rfl
def FK:∀{l:List aZ},aj.r l=.seq (.ops l) .ret:=rfl
def FL:∀{n:Nat}{l:List aZ},aj.j n l=.cond (.t n) (.seq (.ops l) .ret) .skip:=rfl
def FD:∀{n i:Nat},aZ.j n i=⟨some n,.load none (.t i),none,true⟩:=rfl
def FA:∀{n i:Nat},aZ.w n i=⟨some n,.dw (.t i),none,true⟩:=rfl
def FC:∀{n c:Nat}{b:Bool}{i:Nat},aZ.t n c b i=⟨some n,.dw (.t i),some (c,b),false⟩:=rfl
def FB:∀{n:Nat}{k:BinOp}{i:Nat}{y:cC},aZ.v n k i y=⟨some n,.bin k (.t i) y,none,false⟩:=rfl
def LC:cC.T=.c (.bool true):=rfl
def LD:cC.F=.c (.bool false):=rfl
def uset:=A8 @LC @LD @FD @FA @FC @FB @FL (Dp @FG @FI @FH @FF @FE @FJ @FK @LI @LL @LR @LO @LP @LN @LG @LH @LJ @LF @LM @LY @LX @LW @LV @LU @LS)
def bL:=A3 uset (Mn @TZ @Iq @Ir @KY @Ep @Eo @zo @xF @xG @xH @uB @uC @uD @uE @uF @uG @uH @Fy) (ND @Fx @F8 @I0 @IY @I3 @IZ @M9 @I5 @Cl @Cm @Ca @zE @HY @DE @HT @HW @HU @HX @AH @AG @Vv @Cq)
def IF(o:Option AV)(X:Prop):Prop:=
 match o with
 |some _=>X
 |none=>False
def bM:
  (∀{P}{ro}{ks}{ts}{h}{Q}{q}{l}{n i}{x},WP P ro ({dst:=some i,k:=.lX n x,gd:=none,q:=q} ::l) ks ts h Q=IF ts[i]? (WR P ro (lV n (val ts x) h.length) q (some i) l ks ts h Q))/\
  (∀{a:AV}{X:Prop},IF (some a) X=X)/\
  (∀{k:IntKind}{z:Int}{N:Nat},lV 1 (.int k z) N=some (.ptr N 0,.push (.cells [.int k z] true false)))/\
  (∀{b:Bool}{N:Nat},lV 1 (.bool b) N=some (.ptr N 0,.push (.cells [.bool b] true false)))/\
  (∀{b:By}{N:Nat},lV 1 (.str b) N=some (.ptr N 0,.push (.cells [.str b] true false)))/\
  (∀{N:Nat},mZ .ah N=some (.ptr N 0,.push (.cells [.ah] true false)))/\
  (∀{v:AV}{N:Nat}(_:v.one=true),mZ v N=some (.ptr N 0,.push (.cells [v] true false)))/\
  (∀{v:AV}{N:Nat}(_:v.one=true),lV 1 v N=some (.ptr N 0,.push (.cells [v] true false)))/\
  (∀{l:List AV}{n N:Nat}(_:l.all AV.one=true) (_:l.length=n),lV n (.agg l) N=some (.ptr N 0,.push (.cells l true false))):=by
 refine⟨?_,rfl,rfl,rfl,rfl,rfl,?_,?_,?_⟩
 ·intro P ro ks ts h Q q l n i x;rw[Da];by_cases hi:i<ts.length
  ·rw[Tk hi];simp[IF,hi]
  ·rw[U6 Om];simp[IF,hi]
 ·intro v N h;simp only[mZ,AV.j9 h];rw[Ty (by simp[h])]
 ·intro v N h;simp only[lV,AV.j9 h];rw[Ty ⟨by simp[h],rfl⟩]
 ·intro l n N h1 h2;unfold lV;exact Ty ⟨h1,h2⟩
set_option maxRecDepth 100000
set_option maxHeartbeats 0
def iN(n:Nat):Int.ofNat (no_index (OfNat.ofNat n))=OfNat.ofNat n:=rfl
def iM:Int.negSucc 0= -1:=rfl
def iB(n:Nat)(h:OfNat.ofNat n<2^8):UInt8.ofBitVec (BitVec.ofFin (Fin.mk (no_index (OfNat.ofNat n)) h))=OfNat.ofNat n:=by
 refine UInt8.toNat_inj.1 ?_;show n=n%256;have:n<2^8:=h;omega
def gA(n:Nat){A:ak}(_:bf Go.Proofs.Tryz.prog n=some A:=by conv=>lhs;reduce;try simp only[iN,iM,iB]):ak:=A
def fn2:ak:=gA 2
def fn3:ak:=gA 3
def fn4:ak:=gA 4
def fn12:ak:=⟨257,3,[(6,none)],(.s [.o 6 (.dw .F)] (.seq (.s [.m 26 0,.n 27 26,.v 28 .lss 27 .w,.m 29 28,.t 30 29 false 0,.g 31 29 false (.len .sl (.t 30)),.g 32 29 false (.bin .gtr (.t 31) (.n 8)),.f 33 29 32,.m 34 33,.t 35 34 false 0,.g 36 34 false (.call (.f 29) [.t 35]),.g 37 34 false (.bin .neq (.t 36) .z),.f 38 34 37] (.j 38 [.c 39 15 [],.m 6 39])) (.s [.m 40 0,.n 41 40,.m 7 41] (.s [.o 42 (.aD 1 1 [.str []] [(0,(.c (.str [116])))]),.o 43 (.aD 1 2 [.int .i64 0] [(0,.z),(1,(.n 9))]),.o 44 (.build [.int .i64 0,.str [],.ah,.ah,.str []] [(0,1,.w),(1,1,(.c (.str [116,97,112,101]))),(2,1,.t 42),(3,1,.t 43)]),.o 45 (.aD 1 1 [.str []] [(0,(.c (.str [108])))]),.o 46 (.aD 1 2 [.int .i64 0] [(0,.z),(1,.w)]),.o 47 (.build [.int .i64 0,.str [],.ah,.ah,.str []] [(0,1,(.n 2)),(1,1,(.c (.str [108,105,110,101]))),(2,1,.t 45),(3,1,.t 46)]),.o 48 (.aD 1 3 [.str []] [(0,(.c (.str [115]))),(1,(.c (.str [108]))),(2,(.c (.str [116])))]),.o 49 (.aD 1 1 [.int .i64 0] [(0,.w)]),.o 50 (.build [.int .i64 0,.str [],.ah,.ah,.str []] [(0,1,(.n 3)),(1,1,(.c (.str [115,104,111,116]))),(2,1,.t 48),(3,1,.t 49)]),.o 51 (.aD 1 1 [.str []] [(0,(.c (.str [108])))]),.o 52 (.aD 1 1 [.int .i64 0] [(0,.w)]),.o 53 (.build [.int .i64 0,.str [],.ah,.ah,.str []] [(0,1,(.n 4)),(1,1,(.c (.str [97,99,99,101,112,116]))),(2,1,.t 51),(3,1,.t 52)]),.o 54 (.aD 1 2 [.str []] [(0,(.c (.str [109]))),(1,(.c (.str [108])))]),.o 55 (.aD 1 1 [.int .i64 0] [(0,.w)]),.o 56 (.build [.int .i64 0,.str [],.ah,.ah,.str []] [(0,1,(.n 5)),(1,1,(.c (.str [115,111,117,114,99,101]))),(2,1,.t 54),(3,1,.t 55)]),.o 57 (.aD 1 2 [.str []] [(0,(.c (.str [106]))),(1,(.c (.str [109])))]),.m 58 7,.o 59 (.aD 1 2 [.int .i64 0] [(0,.w),(1,.t 58)]),.o 60 (.build [.int .i64 0,.str [],.ah,.ah,.str []] [(0,1,(.n 6)),(1,1,(.c (.str [114,117,110]))),(2,1,.t 57),(3,1,.t 59)]),.o 61 (.aD 5 6 [.int .i64 0,.str [],.ah,.ah,.str []] [(0,.t 44),(5,.t 47),(10,.t 50),(15,.t 53),(20,.t 56),(25,.t 60)]),.m 8 61] (.s [.m 62 1,.o 63 (.conv (.Fo .i64) (.t 62)),.b 64 .add .w (.t 63),.m 65 7,.c 66 68 [.t 64,.t 65],.m 9 66] (.s [.o 67 (.aD 5 0 [.int .i64 0,.str [],.ah,.ah,.str []] []),.m 68 8,.o 69 (.app 5 88 (.t 67) (.t 68)),.o 70 (.aD 5 0 [.int .i64 0,.str [],.ah,.ah,.str []] []),.m 71 8,.o 72 (.app 5 88 (.t 70) (.t 71)),.m 10 69,.m 11 72] (.seq (.s [.m 73 7,.o 74 (.dw .z)] (.block 0 (.loop (.s [.u 75 .lss 74 73] (.seq (.i 75 .skip (.exit 0)) (.seq (.block 1 (.s [.m 76 74,.m 12 76] (.seq (.s [.m 77 10,.m 78 10,.o 79 (.aD 1 1 [.int .i64 0] [(0,(.n 2))]),.o 80 (.aD 1 2 [.str []] [(0,(.c (.str [112]))),(1,(.c (.str [106])))]),.o 81 (.call (.f 69) [.t 78,(.c (.str [112,105,99,116,117,114,101])),.t 79,.t 80]),.c 82 48 [.t 77,.t 81],.v 83 .neq 82 (.n 32)] (.j 83 [.o 6 (.dw .F)])) (.s [.m 84 10,.m 85 10,.m 86 12,.m 87 0,.m 88 12,.h 89 1 87 88,.l 90 89,.o 91 (.aD 1 3 [.int .i64 0] [(0,(.n 2)),(1,.t 86),(2,.t 90)]),.o 92 (.aD 1 1 [.str []] [(0,(.c (.str [106])))]),.o 93 (.call (.f 69) [.t 85,(.c (.str [116,105,108,101])),.t 91,.t 92]),.c 94 50 [.t 84,.t 93],.m 10 94] (.ops [.w 95 11,.w 96 11,.w 97 9,.w 98 12,.y 99 (.bU 1 (.t 97) (.t 98)),.j 100 99,.w 101 0,.w 102 9,.w 103 12,.y 104 (.bU 1 (.t 102) (.t 103)),.j 105 104,.y 106 (.bU 1 (.t 101) (.t 105)),.j 107 106,.y 108 (.aD 1 3 [.int .i64 0] [(0,(.n 2)),(1,.t 100),(2,.t 107)]),.y 109 (.aD 1 1 [.str []] [(0,(.c (.str [106])))]),.y 110 (.call (.f 69) [.t 96,(.c (.str [116,105,108,101])),.t 108,.t 109]),.c 111 50 [.t 95,.t 110],.m 11 111]))))) (.ops [.v 112 .add 74 .w,.m 74 112]))))))) (.s [.m 113 2,.o 114 (.conv (.Fo .i64) (.t 113)),.m 115 7,.u 116 .rem 114 115,.m 13 116] (.s [.m 117 11,.m 118 11,.m 119 13,.o 120 (.aD 1 2 [.int .i64 0] [(0,(.n 3)),(1,.t 119)]),.o 121 (.aD 1 1 [.str []] [(0,(.c (.str [106])))]),.o 122 (.call (.f 69) [.t 118,(.c (.str [102,97,105,108])),.t 120,.t 121]),.c 123 50 [.t 117,.t 122],.m 11 123] (.s [.m 125 11,.o 126 (.call (.f 53) [.t 125,(.c (.str [106]))]),.m 124 126,.e 127 124 0,.e 128 124 1,.m 14 127,.m 15 128] (.seq (.s [.m 129 15,.v 130 .neq 129 .z,.m 131 130,.t 132 131 false 14,.t 133 131 false 13,.g 134 131 false (.aD 1 1 [.int .i64 0] [(0,.t 133)]),.g 135 131 false (.call (.f 62) [.t 132,.t 134]),.g 136 131 false (.un .not (.t 135)),.f 137 131 136,.m 138 137,.t 139 138 false 11,.t 140 138 false 11,.g 141 138 false (.aD 1 1 [.int .i64 0] [(0,(.n 3))]),.g 142 138 false (.aD 1 2 [.str []] [(0,(.c (.str [112]))),(1,(.c (.str [106])))]),.g 143 138 false (.call (.f 69) [.t 140,(.c (.str [112,105,99,116,117,114,101])),.t 141,.t 142]),.g 144 138 false (.call (.f 48) [.t 139,.t 143]),.g 145 138 false (.bin .neq (.t 144) (.n 32)),.f 146 138 145] (.j 146 [.o 6 (.dw .F)])) (.s [.m 147 11,.m 148 11,.m 149 13,.m 150 0,.m 151 13,.h 152 1 150 151,.l 153 152,.o 154 (.aD 1 3 [.int .i64 0] [(0,(.n 4)),(1,.t 149),(2,.t 153)]),.o 155 (.aD 1 1 [.str []] [(0,(.c (.str [106])))]),.o 156 (.call (.f 69) [.t 148,(.c (.str [116,105,108,101])),.t 154,.t 155]),.c 157 50 [.t 147,.t 156],.m 11 157] (.s [.m 158 10,.m 159 10,.o 160 (.aD 1 1 [.int .i64 0] [(0,(.n 5))]),.o 161 (.aD 1 2 [.str []] [(0,(.c (.str [112]))),(1,(.c (.str [106])))]),.o 162 (.call (.f 69) [.t 159,(.c (.str [112,105,99,116,117,114,101])),.t 160,.t 161]),.c 163 50 [.t 158,.t 162],.m 10 163] (.s [.m 164 11,.m 165 11,.o 166 (.aD 1 1 [.int .i64 0] [(0,(.n 5))]),.o 167 (.aD 1 2 [.str []] [(0,(.c (.str [112]))),(1,(.c (.str [106])))]),.o 168 (.call (.f 69) [.t 165,(.c (.str [112,105,99,116,117,114,101])),.t 166,.t 167]),.c 169 50 [.t 164,.t 168],.m 11 169] (.s [.m 171 10,.c 172 34 [.t 171],.m 170 172,.e 173 170 0,.e 174 170 1,.e 175 170 2,.o 16 (.box (.c (.agg [.int .i64 0,.ah,.ah,.ah,.ah,.ah,.ah]))),.s 7 16 173,.m 17 174,.m 18 175] (.s [.m 177 11,.c 178 34 [.t 177],.m 176 178,.e 179 176 0,.e 180 176 1,.e 181 176 2,.o 19 (.box (.c (.agg [.int .i64 0,.ah,.ah,.ah,.ah,.ah,.ah]))),.s 7 19 179,.m 20 180,.m 21 181] (.s [.o 183 (.aD 1 0 [.int .i64 0] []),.m 184 0,.o 185 (.app 1 8 (.t 183) (.t 184)),.c 186 27 [.t 185],.m 182 186,.e 187 182 0,.e 188 182 1,.m 22 187,.m 23 188] (.s [.m 190 11,.o 191 (.call (.f 54) [.t 190,(.c (.str [112]))]),.m 189 191,.e 192 189 0,.e 193 189 1,.m 24 192,.m 25 193] (.seq (.s [.m 194 18,.v 195 .neq 194 .z,.m 196 195,.t 197 196 false 21,.g 198 196 false (.bin .neq (.t 197) .z),.f 199 196 198,.m 200 199,.t 201 200 false 23,.g 202 200 false (.bin .neq (.t 201) .z),.f 203 200 202,.m 204 203,.t 205 204 false 25,.g 206 204 false (.bin .neq (.t 205) .z),.f 207 204 206,.m 208 207,.g 209 208 false (.bK 6 (.t 16)),.g 210 208 false (.load none (.t 209)),.g 211 208 false (.len .sl (.t 210)),.g 212 208 false (.bin .neq (.t 211) .w),.f 213 208 212,.m 214 213,.g 215 214 false (.bK 6 (.t 19)),.g 216 214 false (.load none (.t 215)),.g 217 214 false (.len .sl (.t 216)),.g 218 214 false (.bin .neq (.t 217) .w),.f 219 214 218,.m 220 219,⟨(some 221),.bK 6 (.t 16),(some (220,false)),true⟩,⟨(some 222),.load none (.t 221),(some (220,false)),true⟩,⟨(some 223),.bU 4 (.t 222) .z,(some (220,false)),true⟩,⟨(some 224),.load (some 4) (.t 223),(some (220,false)),true⟩,⟨(some 225),.bK 6 (.t 19),(some (220,false)),true⟩,⟨(some 226),.load none (.t 225),(some (220,false)),true⟩,⟨(some 227),.bU 4 (.t 226) .z,(some (220,false)),true⟩,⟨(some 228),.load (some 4) (.t 227),(some (220,false)),true⟩,.g 229 220 false (.eqv true (.agg [.s,.s,.i,.b]) (.t 224) (.t 228)),.f 230 220 229,.m 231 230,⟨(some 232),.bK 6 (.t 16),(some (231,false)),true⟩,⟨(some 233),.load none (.t 232),(some (231,false)),true⟩,⟨(some 234),.bU 4 (.t 233) .z,(some (231,false)),true⟩,⟨(some 235),.load (some 4) (.t 234),(some (231,false)),true⟩,⟨(some 236),.dw (.t 22),(some (231,false)),true⟩,⟨(some 237),.build [.str [],.str [],.int .i64 0,.bool false] [(0,1,(.c (.str [112]))),(1,1,(.c (.str [106]))),(2,1,.t 236)],(some (231,false)),true⟩,.g 238 231 false (.eqv true (.agg [.s,.s,.i,.b]) (.t 235) (.t 237)),.f 239 231 238,.m 240 239,⟨(some 241),.dw (.t 24),(some (240,false)),true⟩,⟨(some 242),.aD 1 1 [.str []] [(0,(.c (.str [115])))],(some (240,false)),true⟩,.g 243 240 false (.call (.f 25) [.t 241,.t 242]),.g 244 240 false (.un .not (.t 243)),.f 245 240 244] (.j 245 [.o 6 (.dw .F)])) (.r [.m 246 11,.m 247 11,.m 248 13,.o 249 (.aD 1 2 [.int .i64 0] [(0,(.n 5)),(1,.t 248)]),.o 250 (.aD 1 1 [.str []] [(0,(.c (.str [106])))]),.o 251 (.call (.f 69) [.t 247,(.c (.str [102,97,105,108])),.t 249,.t 250]),.c 252 48 [.t 246,.t 251],.v 253 .eql 252 (.n 23),.m 254 253,.g 255 254 true (.call (.f 15) []),.d 256 254 255,.m 6 256]))))))))))))))))))))⟩
def fn15:ak:=gA 15
def fn16:ak:=gA 16
def fn17:ak:=gA 17
def fn19:ak:=gA 19
def fn20:ak:=gA 20
def fn25:ak:=gA 25
def fn26:ak:=gA 26
def fn27:ak:=gA 27
def fn29:ak:=gA 29
def fn34:ak:=gA 34
def fn37:ak:=gA 37
def fn43:ak:=⟨97,2,[(4,none),(5,none)],(.s [.o 4 (.dw (.c (.str []))),.o 5 (.dw .z)] (.seq (.s [.m 16 0,.o 17 (.eqv false .BJ (.t 16) (.c .nilPtr))] (.j 17 [.o 4 (.dw (.c (.str []))),.o 5 (.dw (.n 22))])) (.seq (.s [.m 18 1,.o 19 (.len .st (.t 18)),.v 20 .gtr 19 (.n 4096),.c 21 85 [.t 20,.n 26],.m 22 1,.v 23 .eql 22 (.c (.str [])),.c 24 85 [.t 23,.n 25],.o 25 (.aD 1 2 [.int .i64 0] [(0,.t 21),(1,.t 24)]),.c 26 74 [.t 25],.m 6 26] (.s [.m 27 6,.v 28 .neq 27 .z] (.j 28 [.m 29 6,.o 4 (.dw (.c (.str []))),.m 5 29]))) (.s [.m 30 1,.o 31 (.call (.f 64) [.t 30,(.c (.str [32]))]),.m 7 31] (.seq (.s [.y 33 (.call (.f 109) []),.w 34 7,.y 35 (.bU 1 (.t 34) .z),.j 36 35,.y 37 (.look .s (.agg [.bool false,.int .i64 0,.nilFunc]) true (.t 33) (.t 36)),.w 32 37,.y 38 (.ext (.t 32) 0),.y 39 (.ext (.t 32) 1),⟨none,.dw .F,none,true⟩,.y 8 (.lX 3 (.t 38)),.m 9 39] (.s [.m 40 9] (.j 40 [.m 41 0,.m 42 7,.c 43 110 [.t 41,.t 42],.e 44 43 0,.e 45 43 1,.m 4 44,.m 5 45]))) (.seq (.s [.y 47 (.call (.f 90) []),.w 48 7,.y 49 (.bU 1 (.t 48) .z),.j 50 49,.y 51 (.look .s (.agg [.ah,.int .i64 0,.nilFunc,.nilFunc,.nilFunc]) true (.t 47) (.t 50)),.w 46 51,.y 52 (.ext (.t 46) 0),.y 53 (.ext (.t 46) 1),⟨none,.dw .F,none,true⟩,.y 10 (.lX 5 (.t 52)),.m 11 53] (.s [.m 54 11,.o 55 (.un .not (.t 54))] (.j 55 [.o 4 (.dw (.c (.str []))),.o 5 (.dw (.n 13))]))) (.s [.m 57 7,.c 58 111 [.t 57],.m 56 58,.e 59 56 0,.e 60 56 1,.o 12 (.box (.c (.agg [.int .i64 0,.str [],.ah,.ah,.str []]))),.s 5 12 59,.m 13 60] (.seq (.s [.w 61 13,.y 62 (.un .not (.t 61)),.y 63 (.call (.f 85) [.t 62,.n 25]),.w 64 0,.y 65 (.bd (.t 64)),.y 66 (.bK 0 (.t 65)),.y 67 (.bK 0 (.t 66)),.j 68 67,.y 69 (.len .sl (.t 68)),.y 70 (.bin .geq (.t 69) (.n 1000)),.c 71 85 [.t 70,.n 5],.o 72 (.aD 1 2 [.int .i64 0] [(0,.t 63),(1,.t 71)]),.c 73 74 [.t 72],.m 14 73] (.s [.m 74 14,.v 75 .neq 74 .z] (.j 75 [.m 76 14,.o 4 (.dw (.c (.str []))),.m 5 76]))) (.s [.m 77 0,.o 78 (.bd (.t 77)),.a 79 0 78,.a 80 0 79,.l 81 80,.n 82 81,.v 83 .add 82 .w,.a 84 0 12,.s 1 84 83] (.seq (.s [.w 85 0,.y 86 (.bd (.t 85)),.y 87 (.bK 0 (.t 86)),.y 88 (.load (some 5) (.t 12)),.c 89 112 [.t 87,.t 88],.m 15 89] (.s [.m 90 15,.v 91 .neq 90 .z] (.j 91 [.m 92 15,.o 4 (.dw (.c (.str []))),.m 5 92]))) (.r [.a 93 0 12,.l 94 93,.c 95 113 [.t 94],.b 96 .add (.c (.str [100,111,110,101,32])) (.t 95),.m 4 96,.o 5 (.dw .z)])))))))))))⟩
def fn44:ak:=gA 44
def fn45:ak:=gA 45
def fn48:ak:=gA 48
def fn50:ak:=gA 50
def fn51:ak:=gA 51
def fn53:ak:=gA 53
def fn54:ak:=gA 54
def fn62:ak:=gA 62
def fn64:ak:=gA 64
def fn67:ak:=gA 67
def fn68:ak:=⟨48,2,[(4,none)],(.s [.o 4 (.dw (.c .ah))] (.s [.o 5 (.dw (.c .ah))] (.seq (.s [.o 6 (.dw .z)] (.block 0 (.loop (.seq (.s [.m 10 6,.m 11 1,.u 12 .lss 10 11] (.i 12 .skip (.exit 0))) (.seq (.block 1 (.ops [.m 15 5,.m 16 6,.o 17 (.aD 1 1 [.int .i64 0] [(0,.t 16)]),.o 18 (.app 1 8 (.t 15) (.t 17)),.m 5 18])) (.ops [.m 13 6,.v 14 .add 13 .w,.m 6 14])))))) (.s [.m 19 0,.m 7 19] (.seq (.s [.m 20 1,.v 21 .sub 20 .w,.m 8 21] (.block 2 (.loop (.seq (.s [.m 22 8,.v 23 .geq 22 .z] (.i 23 .skip (.exit 2))) (.seq (.block 3 (.s [.m 26 7,.b 27 .mul (.n 742938285) (.t 26),.v 28 .rem 27 (.n 2147483647),.m 7 28] (.s [.m 29 7,.m 30 8,.v 31 .add 30 .w,.u 32 .rem 29 31,.m 9 32] (.ops [.m 33 5,.m 34 8,.m 35 5,.m 36 9,.m 37 5,.m 38 9,.h 39 1 37 38,.l 40 39,.m 41 5,.m 42 8,.h 43 1 41 42,.l 44 43,.h 45 1 33 34,.s 1 45 40,.h 46 1 35 36,.s 1 46 44])))) (.ops [.m 24 8,.v 25 .sub 24 .w,.m 8 25])))))) (.r [.m 47 5,.m 4 47]))))))⟩
def fn69:ak:=gA 69
def fn70:ak:=gA 70
def fn71:ak:=gA 71
def fn72:ak:=gA 72
def fn73:ak:=gA 73
def fn74:ak:=gA 74
def fn75:ak:=gA 75
def fn76:ak:=gA 76
def fn77:ak:=gA 77
def fn78:ak:=gA 78
def fn79:ak:=gA 79
def fn80:ak:=gA 80
def fn85:ak:=gA 85
def fn86:ak:=⟨47,3,[(6,none)],(.s [.p 3 0,.o 6 (.dw .F)] (.s [.o 7 (.dw .z)] (.seq (.s [.m 8 1] (.block 0 (.s [.v 10 .eql 8 .z,.m 9 10] (.i 9 (.ops [.a 11 1 3,.l 12 11,.m 13 2,.c 14 142 [.t 12,.t 13],.m 7 14]) (.s [.v 16 .eql 8 .w,.m 15 16] (.i 15 (.ops [.a 17 2 3,.l 18 17,.m 19 2,.c 20 143 [.t 18,.t 19],.m 7 20]) (.s [.v 22 .eql 8 (.n 2),.m 21 22] (.i 21 (.ops [.a 23 3 3,.l 24 23,.m 25 2,.c 26 136 [.t 24,.t 25],.m 7 26]) (.s [.v 28 .eql 8 (.n 3),.m 27 28] (.i 27 (.ops [.a 29 4 3,.l 30 29,.m 31 2,.c 32 144 [.t 30,.t 31],.m 7 32]) (.s [.v 34 .eql 8 (.n 4),.m 33 34] (.i 33 (.ops [.a 35 5 3,.l 36 35,.m 37 2,.c 38 145 [.t 36,.t 37],.m 7 38]) (.s [.v 40 .eql 8 (.n 5),.m 39 40] (.i 39 (.ops [.a 41 6 3,.l 42 41,.m 43 2,.c 44 146 [.t 42,.t 43],.m 7 44]) .skip)))))))))))))) (.r [.m 45 7,.v 46 .geq 45 .z,.m 6 46]))))⟩
def fn87:ak:=⟨22,2,[(4,none)],(.s [.o 4 (.dw (.c .ah))] (.s [.o 5 (.dw (.c .ah))] (.seq (.s [.m 8 0,.n 9 8,.o 10 (.dw .z)] (.block 0 (.loop (.s [.u 11 .lss 10 9] (.seq (.i 11 .skip (.exit 0)) (.seq (.block 1 (.s [.h 12 5 8 10,.r 13 5 12,.o 7 (.box (.c (.agg [.int .i64 0,.str [],.ah,.ah,.str []]))),.s 5 7 13] (.ops [.m 14 5,.m 15 1,.r 16 5 7,.o 17 (.call (.t 15) [.t 16]),.o 18 (.aD 5 1 [.int .i64 0,.str [],.ah,.ah,.str []] [(0,.t 17)]),.o 19 (.app 5 88 (.t 14) (.t 18)),.m 5 19]))) (.ops [.v 20 .add 10 .w,.m 10 20]))))))) (.r [.m 21 5,.m 4 21]))))⟩
def fn88:ak:=gA 88
def fn89:ak:=gA 89
def fn90:ak:=⟨56,0,[(0,none)],(.s [.o 0 (.dw (.c .cH))] (.r [.o 1 (.lL),.o 2 (.build [.ah,.int .i64 0,.nilFunc,.nilFunc,.nilFunc] []),.x (.eO .s (.t 1) (.c (.str [117,110,100,111])) (.t 2)),.c 3 147 [.z],.o 4 (.aD 2 1 [.int .i64 0,.bool false] [(0,.t 3)]),.c 5 150 [.z],.o 6 (.build [.ah,.int .i64 0,.nilFunc,.nilFunc,.nilFunc] [(0,1,.t 4),(1,1,(.n 2)),(2,1,(.f 148)),(3,1,(.f 149)),(4,1,.t 5)]),.x (.eO .s (.t 1) (.c (.str [108,105,110,101])) (.t 6)),.c 7 147 [.w],.o 8 (.aD 2 1 [.int .i64 0,.bool false] [(0,.t 7)]),.o 9 (.build [.ah,.int .i64 0,.nilFunc,.nilFunc,.nilFunc] [(0,1,.t 8),(1,1,(.n 2)),(2,1,(.f 151)),(3,1,(.f 152)),(4,1,(.f 153))]),.x (.eO .s (.t 1) (.c (.str [116,97,112,101])) (.t 9)),.c 10 147 [.n 2],.c 11 154 [.z],.c 12 154 [.w],.o 13 (.aD 2 3 [.int .i64 0,.bool false] [(0,.t 10),(2,.t 11),(4,.t 12)]),.c 14 150 [.w],.o 15 (.build [.ah,.int .i64 0,.nilFunc,.nilFunc,.nilFunc] [(0,1,.t 13),(1,1,.w),(2,1,(.f 155)),(3,1,(.f 156)),(4,1,.t 14)]),.x (.eO .s (.t 1) (.c (.str [115,104,111,116])) (.t 15)),.c 16 154 [.w],.c 17 154 [.w],.o 18 (.aD 2 2 [.int .i64 0,.bool false] [(0,.t 16),(2,.t 17)]),.o 19 (.build [.ah,.int .i64 0,.nilFunc,.nilFunc,.nilFunc] [(0,1,.t 18),(1,1,.w),(2,1,(.f 157)),(3,1,(.f 158)),(4,1,(.f 153))]),.x (.eO .s (.t 1) (.c (.str [99,111,112,121])) (.t 19)),.c 20 154 [.z],.o 21 (.aD 2 1 [.int .i64 0,.bool false] [(0,.t 20)]),.c 22 150 [.z],.o 23 (.build [.ah,.int .i64 0,.nilFunc,.nilFunc,.nilFunc] [(0,1,.t 21),(1,1,.w),(2,1,(.f 159)),(3,1,(.f 160)),(4,1,.t 22)]),.x (.eO .s (.t 1) (.c (.str [97,99,99,101,112,116])) (.t 23)),.c 24 147 [.n 3],.c 25 154 [.z],.o 26 (.aD 2 2 [.int .i64 0,.bool false] [(0,.t 24),(2,.t 25)]),.c 27 150 [.w],.o 28 (.build [.ah,.int .i64 0,.nilFunc,.nilFunc,.nilFunc] [(0,1,.t 26),(1,1,.w),(2,1,(.f 161)),(3,1,(.f 162)),(4,1,.t 27)]),.x (.eO .s (.t 1) (.c (.str [115,111,117,114,99,101])) (.t 28)),.c 29 147 [.n 3],.c 30 154 [.n 3],.o 31 (.aD 2 2 [.int .i64 0,.bool false] [(0,.t 29),(2,.t 30)]),.o 32 (.build [.ah,.int .i64 0,.nilFunc,.nilFunc,.nilFunc] [(0,1,.t 31),(1,1,(.n 2)),(2,1,(.f 163)),(3,1,(.f 164)),(4,1,(.c .nilFunc))]),.x (.eO .s (.t 1) (.c (.str [109,111,100,117,108,101])) (.t 32)),.c 33 147 [.n 3],.c 34 154 [.n 3],.c 35 154 [.n 3],.o 36 (.aD 2 3 [.int .i64 0,.bool false] [(0,.t 33),(2,.t 34),(4,.t 35)]),.o 37 (.build [.ah,.int .i64 0,.nilFunc,.nilFunc,.nilFunc] [(0,1,.t 36),(1,1,.w),(2,1,(.f 165)),(3,1,(.f 166)),(4,1,(.c .nilFunc))]),.x (.eO .s (.t 1) (.c (.str [109,101,114,103,101])) (.t 37)),.c 38 147 [.n 4],.c 39 154 [.n 3],.o 40 (.aD 2 2 [.int .i64 0,.bool false] [(0,.t 38),(2,.t 39)]),.o 41 (.build [.ah,.int .i64 0,.nilFunc,.nilFunc,.nilFunc] [(0,1,.t 40),(1,1,(.n 2)),(2,1,(.f 167)),(3,1,(.f 168)),(4,1,(.c .nilFunc))]),.x (.eO .s (.t 1) (.c (.str [114,117,110])) (.t 41)),.c 42 154 [.n 4],.o 43 (.aD 2 1 [.int .i64 0,.bool false] [(0,.t 42)]),.o 44 (.build [.ah,.int .i64 0,.nilFunc,.nilFunc,.nilFunc] [(0,1,.t 43),(1,1,(.n 3)),(2,1,(.f 169)),(3,1,(.f 170)),(4,1,(.c .nilFunc))]),.x (.eO .s (.t 1) (.c (.str [116,105,108,101])) (.t 44)),.c 45 154 [.n 4],.o 46 (.aD 2 1 [.int .i64 0,.bool false] [(0,.t 45)]),.o 47 (.build [.ah,.int .i64 0,.nilFunc,.nilFunc,.nilFunc] [(0,1,.t 46),(1,1,(.n 2)),(2,1,(.f 171)),(3,1,(.f 172)),(4,1,(.c .nilFunc))]),.x (.eO .s (.t 1) (.c (.str [102,97,105,108])) (.t 47)),.c 48 147 [.n 5],.c 49 154 [.n 4],.o 50 (.aD 2 2 [.int .i64 0,.bool false] [(0,.t 48),(2,.t 49)]),.o 51 (.build [.ah,.int .i64 0,.nilFunc,.nilFunc,.nilFunc] [(0,1,.t 50),(1,1,.w),(2,1,(.f 173)),(3,1,(.f 174)),(4,1,(.c .nilFunc))]),.x (.eO .s (.t 1) (.c (.str [112,105,99,116,117,114,101])) (.t 51)),.c 52 154 [.n 5],.o 53 (.aD 2 1 [.int .i64 0,.bool false] [(0,.t 52)]),.o 54 (.build [.ah,.int .i64 0,.nilFunc,.nilFunc,.nilFunc] [(0,1,.t 53),(1,1,.w),(2,1,(.f 175)),(3,1,(.f 176)),(4,1,(.c .nilFunc))]),.x (.eO .s (.t 1) (.c (.str [114,101,108,101,97,115,101])) (.t 54)),.m 55 1,.m 0 55]))⟩
def fn91:ak:=⟨12,1,[(2,some (some 5))],(.s [.p 1 0,.o 2 (.box (.c (.agg [.int .i64 0,.str [],.ah,.ah,.str []])))] (.s [.y 3 (.bK 2 (.t 1)),.j 4 3,.y 5 (.call (.f 177) [.t 4]),.y 6 (.bK 3 (.t 1)),.j 7 6,.y 8 (.call (.f 178) [.t 7]),.y 9 (.bK 2 (.t 1)),.s 1 9 5,.a 10 3 1,.s 1 10 8] (.r [.r 11 5 1,.s 5 2 11])))⟩
def Hq:ak:=⟨22,2,[(4,none)],(.s [.o 4 (.dw (.c .ah))] (.s [.o 5 (.dw (.c .ah))] (.seq (.s [.m 8 0,.n 9 8,.o 10 (.dw .z)] (.block 0 (.loop (.s [.u 11 .lss 10 9] (.seq (.i 11 .skip (.exit 0)) (.seq (.block 1 (.s [.h 12 1 8 10,.l 13 12,.m 7 13] (.ops [.m 14 5,.m 15 1,.m 16 7,.o 17 (.call (.t 15) [.t 16]),.o 18 (.aD 1 1 [.int .i64 0] [(0,.t 17)]),.o 19 (.app 1 8 (.t 14) (.t 18)),.m 5 19]))) (.ops [.v 20 .add 10 .w,.m 10 20]))))))) (.r [.m 21 5,.m 4 21]))))⟩
def fn92:ak:=Hq
def Hr:ak:=⟨5,1,[(2,none)],(.s [.o 2 (.dw .z)] (.r [.m 3 0,.c 4 94 [.t 3,.z,.n 999999999],.m 2 4]))⟩
def fn93:ak:=Hr
def fn94:ak:=gA 94
def fn95:ak:=gA 95
def fn96:ak:=⟨38,1,[(2,some (some 7))],(.s [.p 1 0,.o 2 (.box (.c (.agg [.int .i64 0,.ah,.ah,.ah,.ah,.ah,.ah])))] (.s [.y 5 (.bK 1 (.t 1)),.j 6 5,.y 7 (.len .sl (.t 6)),.y 8 (.tn 3 32 [.str [],.int .i64 0,.bool false] (.t 7) (.t 7)),.y 9 (.bK 6 (.t 1)),.j 10 9,.y 11 (.len .sl (.t 10)),.y 12 (.tn 4 48 [.str [],.str [],.int .i64 0,.bool false] (.t 11) (.t 11)),.w 3 8,.m 4 12] (.s [.m 13 3,.a 14 1 1,.l 15 14,.o 16 (.wL 3 (.t 13) (.t 15))] (.s [.m 17 4,.a 18 6 1,.l 19 18,.o 20 (.wL 4 (.t 17) (.t 19))] (.r [.y 21 (.bK 0 (.t 1)),.j 22 21,.w 23 3,.y 24 (.bK 2 (.t 1)),.j 25 24,.y 26 (.call (.f 179) [.t 25]),.y 27 (.bK 3 (.t 1)),.j 28 27,.y 29 (.call (.f 180) [.t 28,(.f 181)]),.y 30 (.bK 4 (.t 1)),.j 31 30,.y 32 (.call (.f 182) [.t 31,(.f 183)]),.y 33 (.bK 5 (.t 1)),.j 34 33,.y 35 (.call (.f 184) [.t 34,(.f 185)]),.w 36 4,.o 37 (.build [.int .i64 0,.ah,.ah,.ah,.ah,.ah,.ah] [(0,1,.t 22),(1,1,.t 23),(2,1,.t 26),(3,1,.t 29),(4,1,.t 32),(5,1,.t 35),(6,1,.t 36)]),.s 7 2 37])))))⟩
def fn97:ak:=gA 97
def fn98:ak:=gA 98
def fn99:ak:=gA 99
def fn108:ak:=gA 108
def fn109:ak:=⟨10,0,[(0,none)],(.s [.o 0 (.dw (.c .cH))] (.r [.o 1 (.lL),.o 2 (.build [.bool false,.int .i64 0,.nilFunc] [(0,1,.T),(1,1,(.n 4)),(2,1,(.f 198))]),.x (.eO .s (.t 1) (.c (.str [108,101,102,116])) (.t 2)),.o 3 (.build [.bool false,.int .i64 0,.nilFunc] [(0,1,.T),(1,1,(.n 5)),(2,1,(.f 126))]),.x (.eO .s (.t 1) (.c (.str [102,114,111,109])) (.t 3)),.o 4 (.build [.bool false,.int .i64 0,.nilFunc] [(0,1,.T),(1,1,(.n 3)),(2,1,(.f 200))]),.x (.eO .s (.t 1) (.c (.str [108,105,110,101,115])) (.t 4)),.o 5 (.build [.bool false,.int .i64 0,.nilFunc] [(0,1,.F),(1,1,(.n 2)),(2,1,(.f 201))]),.x (.eO .s (.t 1) (.c (.str [117,110,115,97,102,101])) (.t 5)),.o 6 (.build [.bool false,.int .i64 0,.nilFunc] [(0,1,.T),(1,1,(.n 2)),(2,1,(.f 202))]),.x (.eO .s (.t 1) (.c (.str [116,97,112,101,115])) (.t 6)),.o 7 (.build [.bool false,.int .i64 0,.nilFunc] [(0,1,.F),(1,1,(.n 5)),(2,1,(.f 203))]),.x (.eO .s (.t 1) (.c (.str [114,101,108,101,97,115,101,100])) (.t 7)),.o 8 (.build [.bool false,.int .i64 0,.nilFunc] [(0,1,.T),(1,1,.z),(2,1,(.f 204))]),.x (.eO .s (.t 1) (.c (.str [119,97,110,116])) (.t 8)),.m 9 1,.m 0 9]))⟩
def fn110:ak:=gA 110
def fn111:ak:=⟨73,1,[(2,some (some 5)),(3,none)],(.s [.o 2 (.box (.c (.agg [.int .i64 0,.str [],.ah,.ah,.str []]))),.o 3 (.dw .F)] (.s [.m 12 0,.o 13 (.build [.ah,.bool false] [(0,1,.t 12)]),.p 14 13,.m 4 14] (.s [.m 15 4,.o 16 (.rv (.func 207) [.t 15] []),.m 17 4,.o 18 (.rv (.func 208) [.t 17] []),.m 5 16,.m 6 18] (.s [.m 19 5,.o 20 (.call (.t 19) []),.o 21 (.build [.int .i64 0,.str [],.ah,.ah,.str []] [(1,1,.t 20)]),.o 7 (.box (.c (.agg [.int .i64 0,.str [],.ah,.ah,.str []]))),.s 5 7 21] (.s [.y 23 (.call (.f 90) []),.y 24 (.bK 1 (.t 7)),.j 25 24,.y 26 (.look .s (.agg [.ah,.int .i64 0,.nilFunc,.nilFunc,.nilFunc]) true (.t 23) (.t 25)),.w 22 26,.y 27 (.ext (.t 22) 0),.y 28 (.ext (.t 22) 1),⟨none,.dw .F,none,true⟩,.y 8 (.lX 5 (.t 27)),.m 9 28] (.seq (.s [.m 29 9,.o 30 (.un .not (.t 29))] (.j 30 [.o 31 (.build [.int .i64 0,.str [],.ah,.ah,.str []] []),.s 5 2 31,.o 3 (.dw .F)])) (.seq (.s [.a 32 0 8,.l 33 32,.n 34 33,.o 35 (.dw .z)] (.block 0 (.loop (.s [.u 36 .lss 35 34] (.seq (.i 36 .skip (.exit 0)) (.seq (.block 1 (.s [.m 37 5,.o 38 (.call (.t 37) []),.m 10 38] (.ops [.a 39 2 7,.l 40 39,.m 41 10,.o 42 (.aD 1 1 [.str []] [(0,.t 41)]),.o 43 (.app 1 16 (.t 40) (.t 42)),.a 44 2 7,.s 1 44 43]))) (.ops [.v 45 .add 35 .w,.m 35 45]))))))) (.seq (.s [.a 46 1 8,.l 47 46,.o 48 (.dw .z)] (.block 2 (.loop (.s [.u 49 .lss 48 47] (.seq (.i 49 .skip (.exit 2)) (.seq (.block 3 (.s [.m 50 6,.o 51 (.call (.t 50) []),.m 11 51] (.ops [.a 52 3 7,.l 53 52,.m 54 11,.o 55 (.aD 1 1 [.int .i64 0] [(0,.t 54)]),.o 56 (.app 1 8 (.t 53) (.t 55)),.a 57 3 7,.s 1 57 56]))) (.ops [.v 58 .add 48 .w,.m 48 58]))))))) (.seq (.pX [.r 59 5 7,.m 60 4,.o 61 (.bd (.t 60)),.a 62 1 61,.l 63 62,.o 64 (.un .not (.t 63)),.m 65 64,.t 66 65 true 4,.g 67 65 true (.bd (.t 66)),.g 68 65 true (.bK 0 (.t 67)),.g 69 65 true (.load none (.t 68)),.g 70 65 true (.len .sl (.t 69)),.g 71 65 true (.bin .eql (.t 70) .z),.d 72 65 71,.s 5 2 59,.m 3 72]) .ret)))))))))⟩
def fn112:ak:=⟨94,2,[(4,none)],(.s [.p 3 1,.o 4 (.dw .z)] (.seq (.s [.r 9 5 3,.c 10 67 [.t 9],.m 5 10] (.s [.m 11 5,.v 12 .neq 11 .z] (.j 12 [.m 13 5,.m 4 13]))) (.seq (.s [.m 14 0,.r 15 5 3,.c 16 116 [.t 14,.t 15],.m 6 16] (.s [.m 17 6,.v 18 .neq 17 .z] (.j 18 [.m 19 6,.m 4 19]))) (.s [.r 20 5 3,.c 21 91 [.t 20],.s 5 3 21] (.s [.m 22 0,.m 23 0,.o 24 (.bd (.t 23)),.a 25 0 24,.l 26 25,.r 27 5 3,.o 28 (.aD 5 1 [.int .i64 0,.str [],.ah,.ah,.str []] [(0,.t 27)]),.o 29 (.app 5 88 (.t 26) (.t 28)),.o 30 (.bd (.t 22)),.a 31 0 30,.s 1 31 29] (.seq (.s [.a 32 1 3,.l 33 32,.v 34 .eql 33 (.c (.str [117,110,100,111]))] (.i 34 (.s [.m 35 0,.o 36 (.bd (.t 35)),.a 37 1 36,.l 38 37,.n 39 38,.v 40 .sub 39 .w,.m 7 40] (.s [.m 41 0,.m 42 0,.m 43 0,.o 44 (.bd (.t 43)),.a 45 1 44,.l 46 45,.m 47 7,.o 48 (.sl 5 (.t 46) none (some (.t 47))),.m 49 0,.o 50 (.bd (.t 49)),.a 51 2 50,.l 52 51,.m 53 7,.o 54 (.sl 7 (.t 52) none (some (.t 53))),.o 55 (.bd (.t 41)),.a 56 1 55,.s 1 56 48,.o 57 (.bd (.t 42)),.a 58 2 57,.s 1 58 54] (.r [.o 4 (.dw .z)]))) .skip)) (.s [.m 59 0,.c 60 79 [.t 59],.c 61 96 [.t 60],.o 8 (.box (.c (.agg [.int .i64 0,.ah,.ah,.ah,.ah,.ah,.ah]))),.s 7 8 61] (.s [.y 62 (.call (.f 90) []),.y 63 (.bK 1 (.t 3)),.j 64 63,.y 65 (.look .s (.agg [.ah,.int .i64 0,.nilFunc,.nilFunc,.nilFunc]) false (.t 62) (.t 64)),.y 66 (.part none 3 (.t 65)),.y 67 (.load (some 5) (.t 3)),.o 68 (.call (.t 66) [.t 8,.t 67])] (.s [.a 69 3 3,.l 70 69,.o 71 (.bU 1 (.t 70) .z),.l 72 71,.a 73 0 8,.s 1 73 72] (.seq (.lI [.m 74 0,.m 75 0,.m 76 0,.o 77 (.bd (.t 76)),.a 78 1 77,.j 79 78,.y 80 (.load (some 5) (.t 3)),.o 81 (.aD 5 1 [.int .i64 0,.str [],.ah,.ah,.str []] [(0,.t 80)]),.o 82 (.app 5 88 (.t 79) (.t 81)),.m 83 0,.o 84 (.bd (.t 83)),.a 85 2 84,.j 86 85,.y 87 (.load (some 7) (.t 8)),.o 88 (.aD 7 1 [.int .i64 0,.ah,.ah,.ah,.ah,.ah,.ah] [(0,.t 87)]),.o 89 (.app 7 152 (.t 86) (.t 88)),.o 90 (.bd (.t 74)),.a 91 1 90,.s 1 91 82,.o 92 (.bd (.t 75)),.a 93 2 92,.s 1 93 89]) (.r [.o 4 (.dw .z)])))))))))))⟩
def fn113:ak:=gA 113
def fn114:ak:=gA 114
def fn115:ak:=gA 115
def fn116:ak:=⟨106,2,[(4,none)],(.s [.p 3 1,.o 4 (.dw .z)] (.seq (.s [.y 12 (.bK 0 (.t 3)),.j 13 12,.w 14 0,.y 15 (.bd (.t 14)),.y 16 (.bK 0 (.t 15)),.j 17 16,.y 18 (.len .sl (.t 17)),.y 19 (.bin .add (.t 18) .w),.u 20 .neq 13 19] (.j 20 [.o 4 (.dw (.n 11))])) (.s [.m 21 0,.o 22 (.bd (.t 21)),.a 23 1 22,.l 24 23,.n 25 24,.m 5 25] (.seq (.s [.a 26 1 3,.l 27 26,.v 28 .eql 27 (.c (.str [117,110,100,111]))] (.i 28 (.seq (.s [.m 29 5,.v 30 .eql 29 .z] (.j 30 [.o 4 (.dw (.n 12))])) (.r [.m 31 0,.o 32 (.bd (.t 31)),.a 33 1 32,.l 34 33,.m 35 5,.v 36 .sub 35 .w,.h 37 5 34 36,.a 38 1 37,.l 39 38,.v 40 .eql 39 (.c (.str [114,101,108,101,97,115,101])),.c 41 85 [.t 40,.n 21],.m 4 41])) .skip)) (.s [.m 42 0,.c 43 79 [.t 42],.o 6 (.box (.c (.agg [.int .i64 0,.ah,.ah,.ah,.ah,.ah,.ah]))),.s 7 6 43] (.seq (.s [.y 44 (.bK 3 (.t 3)),.j 45 44,.y 46 (.bU 1 (.t 45) .z),.j 47 46,.y 48 (.bK 0 (.t 6)),.j 49 48,.u 50 .lss 47 49] (.j 50 [.o 4 (.dw (.n 22))])) (.s [.y 51 (.call (.f 90) []),.y 52 (.bK 1 (.t 3)),.j 53 52,.y 54 (.look .s (.agg [.ah,.int .i64 0,.nilFunc,.nilFunc,.nilFunc]) false (.t 51) (.t 53)),.y 7 (.box (.c (.agg [.ah,.int .i64 0,.nilFunc,.nilFunc,.nilFunc]))),.s 5 7 54] (.seq (.s [.a 55 0 7,.l 56 55,.n 57 56,.o 58 (.dw .z)] (.block 0 (.loop (.s [.u 59 .lss 58 57] (.seq (.i 59 .skip (.exit 0)) (.seq (.block 1 (.s [.m 60 58,.h 61 2 56 58,.r 62 2 61,.o 9 (.box (.c (.agg [.int .i64 0,.bool false]))),.m 8 60,.s 2 9 62] (.s [.a 63 1 9,.l 64 63,.m 65 64,⟨(some 66),.load (some 7) (.t 6),(some (65,true)),true⟩,⟨(some 67),.bK 0 (.t 9),(some (65,true)),true⟩,⟨(some 68),.load none (.t 67),(some (65,true)),true⟩,⟨(some 69),.bK 2 (.t 3),(some (65,true)),true⟩,⟨(some 70),.load none (.t 69),(some (65,true)),true⟩,⟨(some 71),.dw (.t 8),(some (65,true)),true⟩,⟨(some 72),.bU 1 (.t 70) (.t 71),(some (65,true)),true⟩,⟨(some 73),.load none (.t 72),(some (65,true)),true⟩,.g 74 65 true (.call (.f 86) [.t 66,.t 68,.t 73]),.g 75 65 true (.un .not (.t 74)),.d 76 65 75] (.j 76 [.o 4 (.dw (.n 10))])))) (.ops [.v 77 .add 58 .w,.m 58 77]))))))) (.seq (.s [.a 78 0 7,.l 79 78,.n 80 79,.o 81 (.dw .z)] (.block 2 (.loop (.s [.u 82 .lss 81 80] (.seq (.i 82 .skip (.exit 2)) (.seq (.block 3 (.s [.m 83 81,.h 84 2 79 81,.r 85 2 84,.o 11 (.box (.c (.agg [.int .i64 0,.bool false]))),.m 10 83,.s 2 11 85] (.s [.a 86 1 11,.l 87 86,.o 88 (.un .not (.t 87)),.m 89 88,⟨(some 90),.load (some 7) (.t 6),(some (89,true)),true⟩,⟨(some 91),.bK 0 (.t 11),(some (89,true)),true⟩,⟨(some 92),.load none (.t 91),(some (89,true)),true⟩,⟨(some 93),.bK 2 (.t 3),(some (89,true)),true⟩,⟨(some 94),.load none (.t 93),(some (89,true)),true⟩,⟨(some 95),.dw (.t 10),(some (89,true)),true⟩,⟨(some 96),.bU 1 (.t 94) (.t 95),(some (89,true)),true⟩,⟨(some 97),.load none (.t 96),(some (89,true)),true⟩,.g 98 89 true (.call (.f 86) [.t 90,.t 92,.t 97]),.d 99 89 98] (.j 99 [.o 4 (.dw (.n 9))])))) (.ops [.v 100 .add 81 .w,.m 81 100]))))))) (.r [.a 101 2 7,.l 102 101,.r 103 7 6,.r 104 5 3,.o 105 (.call (.t 102) [.t 103,.t 104]),.m 4 105]))))))))))⟩
def fn117:ak:=gA 117
def fn118:ak:=gA 118
def fn119:ak:=gA 119
def fn120:ak:=gA 120
def fn121:ak:=gA 121
def fn122:ak:=gA 122
def fn123:ak:=gA 123
def fn124:ak:=gA 124
def fn125:ak:=gA 125
def fn126:ak:=gA 126
def fn128:ak:=gA 128
def fn130:ak:=gA 130
def fn131:ak:=gA 131
def fn132:ak:=gA 132
def fn133:ak:=gA 133
def fn134:ak:=gA 134
def fn135:ak:=gA 135
def fn136:ak:=gA 136
def fn137:ak:=gA 137
def fn138:ak:=gA 138
def fn139:ak:=gA 139
def fn140:ak:=gA 140
def fn142:ak:=gA 142
def fn143:ak:=gA 143
def fn144:ak:=gA 144
def fn145:ak:=gA 145
def fn146:ak:=gA 146
def fn147:ak:=gA 147
def fn148:ak:=gA 148
def fn149:ak:=⟨22,2,[],(.s [.p 3 1] (.ops [.m 4 0,.m 5 0,.o 6 (.bd (.t 5)),.a 7 1 6,.l 8 7,.a 9 2 3,.l 10 9,.o 11 (.bU 1 (.t 10) .z),.l 12 11,.a 13 3 3,.l 14 13,.o 15 (.bU 1 (.t 14) .w),.l 16 15,.o 17 (.build [.str [],.int .i64 0,.bool false] [(0,1,.t 12),(1,1,.t 16)]),.o 18 (.aD 3 1 [.str [],.int .i64 0,.bool false] [(0,.t 17)]),.o 19 (.app 3 32 (.t 8) (.t 18)),.o 20 (.bd (.t 4)),.a 21 1 20,.s 1 21 19]))⟩
def fn150:ak:=gA 150
def fn151:ak:=⟨23,2,[(4,none)],(.s [.p 2 0,.p 3 1,.o 4 (.dw .z)] (.r [.y 5 (.bK 3 (.t 3)),.j 6 5,.y 7 (.bU 1 (.t 6) .z),.j 8 7,.y 9 (.bK 3 (.t 3)),.j 10 9,.y 11 (.bU 1 (.t 10) .w),.j 12 11,.y 13 (.bin .add (.t 8) (.t 12)),.y 14 (.bin .gtr (.t 13) (.n 999999999)),.y 15 (.call (.f 85) [.t 14,.n 4]),.y 16 (.bK 2 (.t 2)),.j 17 16,.y 18 (.len .sl (.t 17)),.y 19 (.bin .geq (.t 18) (.n 16)),.c 20 85 [.t 19,.n 5],.o 21 (.aD 1 2 [.int .i64 0] [(0,.t 15),(1,.t 20)]),.c 22 74 [.t 21],.m 4 22]))⟩
def fn152:ak:=⟨27,2,[],(.s [.p 3 1] (.ops [.m 4 0,.m 5 0,.o 6 (.bd (.t 5)),.a 7 2 6,.l 8 7,.a 9 2 3,.l 10 9,.o 11 (.bU 1 (.t 10) .z),.l 12 11,.a 13 3 3,.l 14 13,.o 15 (.bU 1 (.t 14) .z),.l 16 15,.a 17 3 3,.l 18 17,.o 19 (.bU 1 (.t 18) .w),.l 20 19,.u 21 .add 16 20,.o 22 (.build [.str [],.int .i64 0] [(0,1,.t 12),(1,1,.t 21)]),.o 23 (.aD 2 1 [.str [],.int .i64 0] [(0,.t 22)]),.o 24 (.app 2 24 (.t 8) (.t 23)),.o 25 (.bd (.t 4)),.a 26 2 25,.s 1 26 24]))⟩
def fn153:ak:=gA 153
def fn154:ak:=gA 154
def fn155:ak:=⟨27,2,[(4,none)],(.s [.p 2 0,.p 3 1,.o 4 (.dw .z)] (.r [.y 5 (.load (some 7) (.t 2)),.y 6 (.bK 2 (.t 3)),.j 7 6,.y 8 (.bU 1 (.t 7) .w),.j 9 8,.y 10 (.call (.f 205) [.t 5,.t 9]),.y 11 (.part none 2 (.t 10)),.y 12 (.call (.f 85) [.t 11,.n 23]),.y 13 (.load (some 7) (.t 2)),.y 14 (.load (some 5) (.t 3)),.y 15 (.bK 2 (.t 3)),.j 16 15,.y 17 (.bU 1 (.t 16) (.n 2)),.j 18 17,.y 19 (.call (.f 241) [.t 13,.t 14,.t 18]),.y 20 (.bK 3 (.t 2)),.j 21 20,.y 22 (.len .sl (.t 21)),.y 23 (.bin .geq (.t 22) (.n 64)),.c 24 85 [.t 23,.n 5],.o 25 (.aD 1 3 [.int .i64 0] [(0,.t 12),(1,.t 19),(2,.t 24)]),.c 26 74 [.t 25],.m 4 26]))⟩
def fn156:ak:=⟨27,2,[],(.s [.p 3 1] (.ops [.m 4 0,.m 5 0,.o 6 (.bd (.t 5)),.a 7 3 6,.l 8 7,.a 9 2 3,.l 10 9,.o 11 (.bU 1 (.t 10) .z),.l 12 11,.a 13 2 3,.l 14 13,.o 15 (.bU 1 (.t 14) .w),.l 16 15,.a 17 2 3,.l 18 17,.o 19 (.bU 1 (.t 18) (.n 2)),.l 20 19,.o 21 (.aD 1 1 [.str []] [(0,.t 20)]),.o 22 (.build [.str [],.str [],.ah] [(0,1,.t 12),(1,1,.t 16),(2,1,.t 21)]),.o 23 (.aD 3 1 [.str [],.str [],.ah] [(0,.t 22)]),.o 24 (.app 3 56 (.t 8) (.t 23)),.o 25 (.bd (.t 4)),.a 26 3 25,.s 1 26 24]))⟩
def fn157:ak:=⟨35,2,[(4,none)],(.s [.p 2 0,.p 3 1,.o 4 (.dw .z)] (.s [.y 7 (.load (some 7) (.t 2)),.y 8 (.bK 2 (.t 3)),.j 9 8,.y 10 (.bU 1 (.t 9) .z),.j 11 10,.y 12 (.call (.f 134) [.t 7,.t 11]),.y 13 (.load (some 7) (.t 2)),.y 14 (.bK 2 (.t 3)),.j 15 14,.y 16 (.bU 1 (.t 15) .w),.j 17 16,.y 18 (.call (.f 134) [.t 13,.t 17]),.y 5 (.box (.c (.agg [.str [],.int .i64 0]))),.y 6 (.box (.c (.agg [.str [],.int .i64 0]))),.s 2 5 12,.s 2 6 18] (.r [.y 19 (.load (some 2) (.t 5)),.y 20 (.load (some 2) (.t 6)),.y 21 (.eqv false (.agg [.s,.i]) (.t 19) (.t 20)),.y 22 (.call (.f 85) [.t 21,.n 24]),.y 23 (.load (some 7) (.t 2)),.y 24 (.load (some 5) (.t 3)),.y 25 (.bK 0 (.t 5)),.j 26 25,.y 27 (.call (.f 241) [.t 23,.t 24,.t 26]),.y 28 (.load (some 7) (.t 2)),.y 29 (.load (some 5) (.t 3)),.y 30 (.bK 0 (.t 6)),.j 31 30,.c 32 241 [.t 28,.t 29,.t 31],.o 33 (.aD 1 3 [.int .i64 0] [(0,.t 22),(1,.t 27),(2,.t 32)]),.c 34 74 [.t 33],.m 4 34])))⟩
def fn158:ak:=⟨50,2,[],(.s [.p 3 1] (.s [.y 8 (.bK 2 (.t 3)),.j 9 8,.y 10 (.bU 1 (.t 9) .z),.j 11 10,.y 12 (.bK 2 (.t 3)),.j 13 12,.y 14 (.bU 1 (.t 13) .w),.j 15 14,.w 4 11,.m 5 15] (.s [.m 16 0,.o 17 (.bd (.t 16)),.a 18 3 17,.l 19 18,.n 20 19,.o 21 (.dw .z)] (.block 0 (.loop (.s [.u 22 .lss 21 20] (.seq (.i 22 .skip (.exit 0)) (.seq (.block 1 (.s [.m 23 21,.h 24 3 19 21,.r 25 3 24,.o 7 (.box (.c (.agg [.str [],.str [],.ah]))),.m 6 23,.s 3 7 25] (.s [.a 26 2 7,.l 27 26,.m 28 4,.c 29 242 [.t 27,.t 28],.m 30 29,.g 31 30 true (.bK 2 (.t 7)),.g 32 30 true (.load none (.t 31)),.t 33 30 true 5,.g 34 30 true (.call (.f 242) [.t 32,.t 33]),.g 35 30 true (.un .not (.t 34)),.d 36 30 35] (.i 36 (.lI [.m 37 0,.o 38 (.bd (.t 37)),.a 39 3 38,.j 40 39,.m 41 6,.a 42 2 7,.j 43 42,.m 44 5,.o 45 (.aD 1 1 [.str []] [(0,.t 44)]),.o 46 (.app 1 16 (.t 43) (.t 45)),.h 47 3 40 41,.a 48 2 47,.s 1 48 46]) .skip)))) (.ops [.v 49 .add 21 .w,.m 21 49])))))))))⟩
def fn159:ak:=⟨36,2,[(4,none)],(.s [.p 2 0,.p 3 1,.o 4 (.dw .z)] (.s [.y 8 (.load (some 7) (.t 2)),.y 9 (.bK 2 (.t 3)),.j 10 9,.y 11 (.bU 1 (.t 10) .z),.j 12 11,.y 13 (.call (.f 205) [.t 8,.t 12]),.y 14 (.load (some 7) (.t 2)),.y 15 (.bK 2 (.t 3)),.j 16 15,.y 17 (.bU 1 (.t 16) .z),.j 18 17,.y 19 (.call (.f 206) [.t 14,.t 18]),.y 5 (.box (.c (.agg [.str [],.int .i64 0,.bool false]))),.s 3 5 13,.m 6 19] (.s [.m 20 6,.o 21 (.rv (.func 244) [] [.t 2,.t 3]),.c 22 243 [.t 20,.t 21],.m 7 22] (.r [.y 23 (.bK 2 (.t 5)),.j 24 23,.y 25 (.call (.f 85) [.t 24,.n 23]),.w 26 6,.y 27 (.len .sl (.t 26)),.y 28 (.bK 1 (.t 5)),.j 29 28,.y 30 (.bin .lss (.t 27) (.t 29)),.y 31 (.call (.f 85) [.t 30,.n 16]),.w 32 7,.c 33 85 [.t 32,.n 30],.o 34 (.aD 1 3 [.int .i64 0] [(0,.t 25),(1,.t 31),(2,.t 33)]),.c 35 74 [.t 34],.m 4 35]))))⟩
def vL(x0 x1 x2 x3:Nat):ak:=⟨19,2,[],(.s [.p 3 1] (.ops [.w 4 0,.y 5 (.bd (.t 4)),.y 6 (.bK x0 (.t 5)),.j 7 6,.w 8 0,.y 9 (.bd (.t 8)),.y 10 (.bK x0 (.t 9)),.j 11 10,.y 12 (.bK 2 (.t 3)),.j 13 12,.y 14 (.bU 1 (.t 13) .z),.j 15 14,.y 16 (.call (.f x1) [.t 11,.t 15]),.h 17 x2 7 16,.a 18 x3 17,.x (.store 1 (.t 18) .T)]))⟩
def fn160:ak:=vL 1 142 3 2
def fn161:ak:=gA 161
def fn162:ak:=⟨22,2,[],(.s [.p 3 1] (.ops [.m 4 0,.m 5 0,.o 6 (.bd (.t 5)),.a 7 4 6,.l 8 7,.a 9 2 3,.l 10 9,.o 11 (.bU 1 (.t 10) .z),.l 12 11,.a 13 2 3,.l 14 13,.o 15 (.bU 1 (.t 14) .w),.l 16 15,.o 17 (.build [.str [],.str [],.str [],.ah] [(0,1,.t 12),(1,1,(.c (.str [115,104,111,116,115]))),(2,1,.t 16)]),.o 18 (.aD 4 1 [.str [],.str [],.str [],.ah] [(0,.t 17)]),.o 19 (.app 4 72 (.t 8) (.t 18)),.o 20 (.bd (.t 4)),.a 21 4 20,.s 1 21 19]))⟩
def fn163:ak:=⟨35,2,[(4,none)],(.s [.p 2 0,.p 3 1,.o 4 (.dw .z)] (.s [.a 6 3 3,.l 7 6,.o 8 (.bU 1 (.t 7) .w),.l 9 8,.m 5 9] (.seq (.s [.m 10 5,.v 11 .lss 10 .w,.m 12 11,.t 13 12 false 5,.g 14 12 false (.bin .gtr (.t 13) (.n 4)),.f 15 12 14] (.j 15 [.o 4 (.dw (.n 13))])) (.r [.y 16 (.load (some 7) (.t 2)),.y 17 (.bK 2 (.t 3)),.j 18 17,.y 19 (.bU 1 (.t 18) .w),.j 20 19,.y 21 (.call (.f 245) [.t 16,.t 20]),.y 22 (.part none 1 (.t 21)),.w 23 5,.y 24 (.bin .sub (.t 23) .w),.y 25 (.pZ 4 2 (.g 0) (.t 24)),.y 26 (.pZ 2 1 (.t 25) .z),.j 27 26,.y 28 (.bin .neq (.t 22) (.t 27)),.y 29 (.call (.f 85) [.t 28,.n 2]),.y 30 (.load (some 7) (.t 2)),.y 31 (.load (some 5) (.t 3)),.c 32 161 [.t 30,.t 31],.o 33 (.aD 1 2 [.int .i64 0] [(0,.t 29),(1,.t 32)]),.c 34 74 [.t 33],.m 4 34]))))⟩
def fn164:ak:=⟨30,2,[],(.s [.p 3 1] (.ops [.m 4 0,.m 5 0,.o 6 (.bd (.t 5)),.a 7 4 6,.l 8 7,.a 9 2 3,.l 10 9,.o 11 (.bU 1 (.t 10) .z),.l 12 11,.a 13 3 3,.l 14 13,.o 15 (.bU 1 (.t 14) .w),.l 16 15,.v 17 .sub 16 .w,.o 18 (.pZ 4 2 (.g 0) (.t 17)),.o 19 (.pZ 2 1 (.t 18) .w),.l 20 19,.a 21 2 3,.l 22 21,.o 23 (.sl 1 (.t 22) (some .w) none),.y 24 (.call (.f 177) [.t 23]),.o 25 (.build [.str [],.str [],.str [],.ah] [(0,1,.t 12),(1,1,.t 20),(3,1,.t 24)]),.o 26 (.aD 4 1 [.str [],.str [],.str [],.ah] [(0,.t 25)]),.o 27 (.app 4 72 (.t 8) (.t 26)),.o 28 (.bd (.t 4)),.a 29 4 28,.s 1 29 27]))⟩
def fn165:ak:=⟨36,2,[(4,none)],(.s [.p 2 0,.p 3 1,.o 4 (.dw .z)] (.r [.y 5 (.bK 2 (.t 3)),.j 6 5,.y 7 (.bU 1 (.t 6) .w),.j 8 7,.y 9 (.bK 2 (.t 3)),.j 10 9,.y 11 (.bU 1 (.t 10) (.n 2)),.j 12 11,.y 13 (.bin .eql (.t 8) (.t 12)),.y 14 (.call (.f 85) [.t 13,.n 24]),.y 15 (.load (some 7) (.t 2)),.y 16 (.bK 2 (.t 3)),.j 17 16,.y 18 (.bU 1 (.t 17) .w),.j 19 18,.y 20 (.call (.f 245) [.t 15,.t 19]),.y 21 (.part none 1 (.t 20)),.y 22 (.load (some 7) (.t 2)),.y 23 (.bK 2 (.t 3)),.j 24 23,.y 25 (.bU 1 (.t 24) (.n 2)),.j 26 25,.y 27 (.call (.f 245) [.t 22,.t 26]),.y 28 (.part none 1 (.t 27)),.y 29 (.bin .neq (.t 21) (.t 28)),.y 30 (.call (.f 85) [.t 29,.n 2]),.y 31 (.load (some 7) (.t 2)),.y 32 (.load (some 5) (.t 3)),.c 33 161 [.t 31,.t 32],.o 34 (.aD 1 3 [.int .i64 0] [(0,.t 14),(1,.t 30),(2,.t 33)]),.c 35 74 [.t 34],.m 4 35]))⟩
def fn166:ak:=⟨31,2,[],(.s [.p 3 1] (.ops [.m 4 0,.m 5 0,.o 6 (.bd (.t 5)),.a 7 4 6,.l 8 7,.a 9 2 3,.l 10 9,.o 11 (.bU 1 (.t 10) .z),.l 12 11,.m 13 0,.o 14 (.bd (.t 13)),.r 15 7 14,.a 16 2 3,.l 17 16,.o 18 (.bU 1 (.t 17) .w),.l 19 18,.y 20 (.call (.f 245) [.t 15,.t 19]),.o 21 (.part none 1 (.t 20)),.a 22 2 3,.l 23 22,.o 24 (.sl 1 (.t 23) (some .w) none),.y 25 (.call (.f 177) [.t 24]),.o 26 (.build [.str [],.str [],.str [],.ah] [(0,1,.t 12),(1,1,.t 21),(3,1,.t 25)]),.o 27 (.aD 4 1 [.str [],.str [],.str [],.ah] [(0,.t 26)]),.o 28 (.app 4 72 (.t 8) (.t 27)),.o 29 (.bd (.t 4)),.a 30 4 29,.s 1 30 28]))⟩
def fn167:ak:=gA 167
def fn168:ak:=⟨28,2,[],(.s [.p 3 1] (.ops [.m 4 0,.m 5 0,.o 6 (.bd (.t 5)),.a 7 5 6,.l 8 7,.a 9 2 3,.l 10 9,.o 11 (.bU 1 (.t 10) .z),.l 12 11,.a 13 2 3,.l 14 13,.o 15 (.bU 1 (.t 14) .w),.l 16 15,.o 17 (.aD 1 1 [.int .i64 0] [(0,(.n (-1)))]),.a 18 3 3,.l 19 18,.o 20 (.bU 1 (.t 19) .w),.l 21 20,.y 22 (.call (.f 248) [.t 17,.t 21]),.o 23 (.build [.str [],.str [],.ah] [(0,1,.t 12),(1,1,.t 16),(2,1,.t 22)]),.o 24 (.aD 3 1 [.str [],.str [],.ah] [(0,.t 23)]),.o 25 (.app 3 56 (.t 8) (.t 24)),.o 26 (.bd (.t 4)),.a 27 5 26,.s 1 27 25]))⟩
def fn169:ak:=gA 169
def fn170:ak:=gA 170
def fn171:ak:=⟨27,2,[(4,none)],(.s [.p 2 0,.p 3 1,.o 4 (.dw .z)] (.seq (.s [.r 6 7 2,.r 7 5 3,.c 8 249 [.t 6,.t 7],.m 5 8] (.s [.m 9 5,.v 10 .neq 9 .z] (.j 10 [.m 11 5,.m 4 11]))) (.r [.y 12 (.load (some 7) (.t 2)),.y 13 (.bK 2 (.t 3)),.j 14 13,.y 15 (.bU 1 (.t 14) .z),.j 16 15,.y 17 (.call (.f 124) [.t 12,.t 16]),.y 18 (.part none 2 (.t 17)),.y 19 (.bK 3 (.t 3)),.j 20 19,.y 21 (.bU 1 (.t 20) .w),.j 22 21,.h 23 1 18 22,.l 24 23,.v 25 .eql 24 (.n (-1)),.c 26 85 [.t 25,.n 7],.m 4 26])))⟩
def fn172:ak:=gA 172
def fn173:ak:=⟨31,2,[(4,none)],(.s [.p 2 0,.p 3 1,.o 4 (.dw .z)] (.s [.y 6 (.load (some 7) (.t 2)),.y 7 (.bK 2 (.t 3)),.j 8 7,.y 9 (.bU 1 (.t 8) .w),.j 10 9,.c 11 124 [.t 6,.t 10],.c 12 125 [.t 11],.m 5 12] (.r [.y 13 (.load (some 7) (.t 2)),.y 14 (.bK 2 (.t 3)),.j 15 14,.y 16 (.bU 1 (.t 15) .w),.j 17 16,.y 18 (.call (.f 251) [.t 13,.t 17]),.y 19 (.call (.f 85) [.t 18,.n 23]),.w 20 5,.y 21 (.len .sl (.t 20)),.y 22 (.bin .gtr (.t 21) .z),.y 23 (.call (.f 85) [.t 22,.n 32]),.y 24 (.bK 6 (.t 2)),.j 25 24,.y 26 (.len .sl (.t 25)),.y 27 (.bin .geq (.t 26) (.n 16)),.c 28 85 [.t 27,.n 5],.o 29 (.aD 1 3 [.int .i64 0] [(0,.t 19),(1,.t 23),(2,.t 28)]),.c 30 74 [.t 29],.m 4 30])))⟩
def fn174:ak:=⟨32,2,[],(.s [.p 3 1] (.ops [.m 4 0,.m 5 0,.o 6 (.bd (.t 5)),.a 7 6 6,.l 8 7,.a 9 2 3,.l 10 9,.o 11 (.bU 1 (.t 10) .z),.l 12 11,.a 13 2 3,.l 14 13,.o 15 (.bU 1 (.t 14) .w),.l 16 15,.m 17 0,.o 18 (.bd (.t 17)),.r 19 7 18,.a 20 2 3,.l 21 20,.o 22 (.bU 1 (.t 21) .w),.l 23 22,.y 24 (.call (.f 124) [.t 19,.t 23]),.o 25 (.part none 2 (.t 24)),.y 26 (.call (.f 95) [.t 25]),.o 27 (.build [.str [],.str [],.int .i64 0,.bool false] [(0,1,.t 12),(1,1,.t 16),(2,1,.t 26)]),.o 28 (.aD 4 1 [.str [],.str [],.int .i64 0,.bool false] [(0,.t 27)]),.o 29 (.app 4 48 (.t 8) (.t 28)),.o 30 (.bd (.t 4)),.a 31 6 30,.s 1 31 29]))⟩
def fn175:ak:=gA 175
def fn176:ak:=vL 6 146 4 3
def fn177:ak:=gA 177
def fn178:ak:=gA 178
def fn179:ak:=gA 179
def fn180:ak:=gA 180
def fn181:ak:=gA 181
def fn182:ak:=gA 182
def fn183:ak:=gA 183
def fn184:ak:=gA 184
def fn185:ak:=gA 185
def fn186:ak:=gA 186
def fn187:ak:=gA 187
def fn188:ak:=gA 188
def fn189:ak:=gA 189
def fn190:ak:=gA 190
def fn197:ak:=gA 197
def fn198:ak:=gA 198
def fn199:ak:=gA 199
def fn200:ak:=gA 200
def fn201:ak:=gA 201
def fn202:ak:=gA 202
def fn203:ak:=gA 203
def fn204:ak:=gA 204
def fn205:ak:=gA 205
def fn206:ak:=gA 206
def fn207:ak:=gA 207
def fn208:ak:=gA 208
def fn213:ak:=gA 213
def fn214:ak:=gA 214
def fn215:ak:=gA 215
def fn216:ak:=gA 216
def fn217:ak:=gA 217
def fn218:ak:=gA 218
def fn219:ak:=gA 219
def fn221:ak:=gA 221
def fn222:ak:=gA 222
def fn228:ak:=gA 228
def fn229:ak:=gA 229
def fn230:ak:=gA 230
def fn231:ak:=gA 231
def fn232:ak:=gA 232
def fn233:ak:=gA 233
def fn234:ak:=gA 234
def fn235:ak:=gA 235
def fn236:ak:=gA 236
def fn237:ak:=gA 237
def fn238:ak:=gA 238
def fn239:ak:=gA 239
def fn240:ak:=gA 240
def fn241:ak:=gA 241
def fn242:ak:=gA 242
def fn243:ak:=gA 243
def fn244:ak:=gA 244
def fn245:ak:=gA 245
def fn246:ak:=gA 246
def fn247:ak:=gA 247
def fn248:ak:=gA 248
def fn249:ak:=⟨28,2,[(4,none)],(.s [.p 2 0,.p 3 1,.o 4 (.dw .z)] (.r [.y 5 (.load (some 7) (.t 2)),.y 6 (.bK 2 (.t 3)),.j 7 6,.y 8 (.bU 1 (.t 7) .z),.j 9 8,.y 10 (.call (.f 251) [.t 5,.t 9]),.y 11 (.call (.f 85) [.t 10,.n 23]),.y 12 (.bK 3 (.t 3)),.j 13 12,.y 14 (.bU 1 (.t 13) .w),.j 15 14,.y 16 (.load (some 7) (.t 2)),.y 17 (.bK 2 (.t 3)),.j 18 17,.y 19 (.bU 1 (.t 18) .z),.j 20 19,.y 21 (.call (.f 124) [.t 16,.t 20]),.y 22 (.part none 2 (.t 21)),.y 23 (.len .sl (.t 22)),.y 24 (.bin .sub (.t 23) .w),.c 25 94 [.t 15,.z,.t 24],.o 26 (.aD 1 2 [.int .i64 0] [(0,.t 11),(1,.t 25)]),.c 27 74 [.t 26],.m 4 27]))⟩
def fn250:ak:=⟨28,3,[],(.s [.p 4 1] (.ops [.w 6 0,.y 7 (.bd (.t 6)),.y 8 (.bK 5 (.t 7)),.j 9 8,.w 10 0,.y 11 (.bd (.t 10)),.y 12 (.bK 5 (.t 11)),.j 13 12,.y 14 (.bK 2 (.t 4)),.j 15 14,.y 16 (.bU 1 (.t 15) .z),.j 17 16,.y 18 (.call (.f 145) [.t 13,.t 17]),.y 19 (.bU 3 (.t 9) (.t 18)),.y 20 (.bK 2 (.t 19)),.j 21 20,.y 22 (.bK 3 (.t 4)),.j 23 22,.y 24 (.bU 1 (.t 23) .w),.j 25 24,.w 26 2,.h 27 1 21 25,.s 1 27 26]))⟩
def fn251:ak:=gA 251
def fn252:ak:=gA 252
def fn253:ak:=gA 253
def fn254:ak:=gA 254
def fn255:ak:=gA 255
def fn259:ak:=gA 259
def fn266:ak:=gA 266
def fn267:ak:=gA 267
def fn268:ak:=gA 268
def Dr:ak:=⟨8,1,[(3,none)],(.s [.p 2 0,.o 3 (.dw .F)] (.r [.a 4 1 2,.l 5 4,.l 6 1,.u 7 .eql 5 6,.m 3 7]))⟩
def fn269:ak:=Dr
def Ht(x0:Nat):ak:=⟨8,2,[(4,none)],(.s [.o 4 (.dw .z)] (.r [.m 5 0,.m 6 1,.c 7 x0 [.t 5,.t 6],.m 4 7]))⟩
def fn272:ak:=Ht 288
def fn286:ak:=gA 286
def fn322:ak:=gA 322
def fn323:ak:=gA 323
def fn324:ak:=gA 324
abbrev Cf(P:Program)(n:Nat)(A:ak):Prop:=bf P n=some A
structure dB(P:Program):Prop where
 mix:P.follows .mixedOrders=true
 m123:fS P 78 "moveout/house.name" =some 123
 m322:fS P 73 "moveout/house.name" =some 322
 m140:fS P 74 "moveout/house.name" =some 140
 m120:fS P 134 "moveout/house.name" =some 120
 m324:fS P 136 "moveout/house.name" =some 324
 m323:fS P 130 "moveout/house.name" =some 323
 c2:Cf P 2 fn2
 c3:Cf P 3 fn3
 c4:Cf P 4 fn4
 c12:Cf P 12 fn12
 c15:Cf P 15 fn15
 c16:Cf P 16 fn16
 c17:Cf P 17 fn17
 c19:Cf P 19 fn19
 c20:Cf P 20 fn20
 c25:Cf P 25 fn25
 c26:Cf P 26 fn26
 c27:Cf P 27 fn27
 c29:Cf P 29 fn29
 c34:Cf P 34 fn34
 c37:Cf P 37 fn37
 c43:Cf P 43 fn43
 c44:Cf P 44 fn44
 c45:Cf P 45 fn45
 c48:Cf P 48 fn48
 c50:Cf P 50 fn50
 c51:Cf P 51 fn51
 c53:Cf P 53 fn53
 c54:Cf P 54 fn54
 c62:Cf P 62 fn62
 c64:Cf P 64 fn64
 c67:Cf P 67 fn67
 c68:Cf P 68 fn68
 c69:Cf P 69 fn69
 c70:Cf P 70 fn70
 c71:Cf P 71 fn71
 c72:Cf P 72 fn72
 c73:Cf P 73 fn73
 c74:Cf P 74 fn74
 c75:Cf P 75 fn75
 c76:Cf P 76 fn76
 c77:Cf P 77 fn77
 c78:Cf P 78 fn78
 c79:Cf P 79 fn79
 c80:Cf P 80 fn80
 c85:Cf P 85 fn85
 c86:Cf P 86 fn86
 c87:Cf P 87 fn87
 c88:Cf P 88 fn88
 c89:Cf P 89 fn89
 c90:Cf P 90 fn90
 c91:Cf P 91 fn91
 c92:Cf P 92 fn92
 c93:Cf P 93 fn93
 c94:Cf P 94 fn94
 c95:Cf P 95 fn95
 c96:Cf P 96 fn96
 c97:Cf P 97 fn97
 c98:Cf P 98 fn98
 c99:Cf P 99 fn99
 c108:Cf P 108 fn108
 c109:Cf P 109 fn109
 c110:Cf P 110 fn110
 c111:Cf P 111 fn111
 c112:Cf P 112 fn112
 c113:Cf P 113 fn113
 c114:Cf P 114 fn114
 c115:Cf P 115 fn115
 c116:Cf P 116 fn116
 c117:Cf P 117 fn117
 c118:Cf P 118 fn118
 c119:Cf P 119 fn119
 c120:Cf P 120 fn120
 c121:Cf P 121 fn121
 c122:Cf P 122 fn122
 c123:Cf P 123 fn123
 c124:Cf P 124 fn124
 c125:Cf P 125 fn125
 c126:Cf P 126 fn126
 c128:Cf P 128 fn128
 c130:Cf P 130 fn130
 c131:Cf P 131 fn131
 c132:Cf P 132 fn132
 c133:Cf P 133 fn133
 c134:Cf P 134 fn134
 c135:Cf P 135 fn135
 c136:Cf P 136 fn136
 c137:Cf P 137 fn137
 c138:Cf P 138 fn138
 c139:Cf P 139 fn139
 c140:Cf P 140 fn140
 c142:Cf P 142 fn142
 c143:Cf P 143 fn143
 c144:Cf P 144 fn144
 c145:Cf P 145 fn145
 c146:Cf P 146 fn146
 c147:Cf P 147 fn147
 c148:Cf P 148 fn148
 c149:Cf P 149 fn149
 c150:Cf P 150 fn150
 c151:Cf P 151 fn151
 c152:Cf P 152 fn152
 c153:Cf P 153 fn153
 c154:Cf P 154 fn154
 c155:Cf P 155 fn155
 c156:Cf P 156 fn156
 c157:Cf P 157 fn157
 c158:Cf P 158 fn158
 c159:Cf P 159 fn159
 c160:Cf P 160 fn160
 c161:Cf P 161 fn161
 c162:Cf P 162 fn162
 c163:Cf P 163 fn163
 c164:Cf P 164 fn164
 c165:Cf P 165 fn165
 c166:Cf P 166 fn166
 c167:Cf P 167 fn167
 c168:Cf P 168 fn168
 c169:Cf P 169 fn169
 c170:Cf P 170 fn170
 c171:Cf P 171 fn171
 c172:Cf P 172 fn172
 c173:Cf P 173 fn173
 c174:Cf P 174 fn174
 c175:Cf P 175 fn175
 c176:Cf P 176 fn176
 c177:Cf P 177 fn177
 c178:Cf P 178 fn178
 c179:Cf P 179 fn179
 c180:Cf P 180 fn180
 c181:Cf P 181 fn181
 c182:Cf P 182 fn182
 c183:Cf P 183 fn183
 c184:Cf P 184 fn184
 c185:Cf P 185 fn185
 c186:Cf P 186 fn186
 c187:Cf P 187 fn187
 c188:Cf P 188 fn188
 c189:Cf P 189 fn189
 c190:Cf P 190 fn190
 c197:Cf P 197 fn197
 c198:Cf P 198 fn198
 c199:Cf P 199 fn199
 c200:Cf P 200 fn200
 c201:Cf P 201 fn201
 c202:Cf P 202 fn202
 c203:Cf P 203 fn203
 c204:Cf P 204 fn204
 c205:Cf P 205 fn205
 c206:Cf P 206 fn206
 c207:Cf P 207 fn207
 c208:Cf P 208 fn208
 c213:Cf P 213 fn213
 c214:Cf P 214 fn214
 c215:Cf P 215 fn215
 c216:Cf P 216 fn216
 c217:Cf P 217 fn217
 c218:Cf P 218 fn218
 c219:Cf P 219 fn219
 c221:Cf P 221 fn221
 c222:Cf P 222 fn222
 c228:Cf P 228 fn228
 c229:Cf P 229 fn229
 c230:Cf P 230 fn230
 c231:Cf P 231 fn231
 c232:Cf P 232 fn232
 c233:Cf P 233 fn233
 c234:Cf P 234 fn234
 c235:Cf P 235 fn235
 c236:Cf P 236 fn236
 c237:Cf P 237 fn237
 c238:Cf P 238 fn238
 c239:Cf P 239 fn239
 c240:Cf P 240 fn240
 c241:Cf P 241 fn241
 c242:Cf P 242 fn242
 c243:Cf P 243 fn243
 c244:Cf P 244 fn244
 c245:Cf P 245 fn245
 c246:Cf P 246 fn246
 c247:Cf P 247 fn247
 c248:Cf P 248 fn248
 c249:Cf P 249 fn249
 c250:Cf P 250 fn250
 c251:Cf P 251 fn251
 c252:Cf P 252 fn252
 c253:Cf P 253 fn253
 c254:Cf P 254 fn254
 c255:Cf P 255 fn255
 c259:Cf P 259 fn259
 c266:Cf P 266 fn266
 c267:Cf P 267 fn267
 c268:Cf P 268 fn268
 c269:Cf P 269 fn269
 c272:Cf P 272 fn272
 c286:Cf P 286 fn286
 c322:Cf P 322 fn322
 c323:Cf P 323 fn323
 c324:Cf P 324 fn324
end Go.Abs
