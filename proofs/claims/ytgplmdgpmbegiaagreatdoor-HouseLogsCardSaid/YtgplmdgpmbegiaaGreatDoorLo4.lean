/- A part of the proof that HouseLogs holds. No condition. -/
import Derived.Test.YtgplmdgpmbegiaaGreatDoorLo3
import Derived.Test.YtgplmdgpmbegiaaGreatDoorProg
import Derived.Test.YtgplmdgpmbegiaaGreatDoorLo0
set_option linter.all false
namespace Go.Abs
def Ext(h h':af):Prop:=∃g,h' =h++g
def Ext.refl(h:af):Ext h h:=⟨[],Si⟩
def Ext.app{h k}(g:af)(e:Ext h k):Ext h (k++g):=by
 obtain⟨x,rfl⟩:=e;exact⟨x++g,Si⟩
def Ext.trans{a b c}(h:Ext a b)(k:Ext b c):Ext a c:=by
 obtain⟨x,rfl⟩:=h;obtain⟨y,rfl⟩:=k;exact⟨x++y,Si⟩
def Ext.get{h k}(e:Ext h k){b}(hb:b<h.length):k[b]? =h[b]? :=by
 obtain⟨x,rfl⟩:=e;exact Ug hb
theorem Ext.some{h k:af}(e:Ext h k){b:Nat}{x:ai}(hb:h[b]? =some x):k[b]? =some x:=by
 rw[e.get (Ue.1 hb).1];exact hb
def Ext.len{h k}(e:Ext h k):h.length<=k.length:=by
 obtain⟨x,rfl⟩:=e;simp
def rA(P:Program)(q:Bool)(fv:AV)(args:List AV)(h:af)(K:AV->af->Prop):Prop:=
 ∃v h',eG P fv args h v h'/\(q=true->Ext h h')/\K v h'
def gL.quiet:gL->Bool
 |.ar=>true
 |.push _=>true
 |_=>false
def gL.yg{e:gL}{h:af}(he:e.quiet=true):Ext h (e.app h):=by
 cases e with
 |ar=>exact Ext.refl h
 |push k=>exact⟨[k],rfl⟩
 |set b k=>cases he
 |lO b k k'=>cases he
def WK(P:Program)(q:Bool)(k:mU)(ρ:cK->AV)(h:af)(K:AV->af->Prop):Prop:=
 match k with
 |.call f args=>rA P q (ρ f) (args.map ρ) h K
 |k=>
  match stepT k ρ (λb=>h[b]?) h.length with
  |some (v,e)=>(q=true->e.quiet=true)/\K v (e.app h)
  |none=>False
def AO(d:Option Nat)(k:mU)(n:Nat)(X:Prop):Prop:=
 match k,d with
 |.mD _ _,some d=>d<n/\X
 |_,_=>X
def oC{d k n}{X:Prop}:AO d k n X↔AN d k n/\X:=by
 cases k<;>cases d<;>simp[AO,AN]
def AO.mono{d k n}{X Y:Prop}(h:X->Y)(x:AO d k n X):AO d k n Y:=oC.2 ⟨(oC.1 x).1,h (oC.1 x).2⟩
def WS(P:Program)(o:bo)(ts:TS)(h:af)(K:AV->af->Prop):Prop:=
 match o.gd with
 |none=>AO o.dst o.k ts.length (WK P o.q o.k (val ts) h K)
 |some (t,b)=>
  match val ts (.t t)with
  |.bool c=>if c=b then AO o.dst o.k ts.length (WK P o.q o.k (val ts) h K)else K au h
  |_=>K au h
def WO(P:Program):List bo->TS->af->(TS->af->Prop)->Prop
 |[],ts,h,Q=>Q ts h
 |o::r,ts,h,Q=>WS P o ts h (λv h1=>WO P r (put ts o.dst v) h1 Q)
def WK.sound{P:Program}{q:Bool}{k:mU}{ρ:cK->AV}{h:af}{K:AV->af->Prop}(H:WK P q k ρ h K):∃v h',nL P k ρ h v h'/\(q=true->Ext h h')/\K v h':=by
 by_cases hc:∃f args,k=.call f args
 ·obtain⟨f,args,rfl⟩:=hc;exact H
 ·have H':(match stepT k ρ (λb=>h[b]?) h.length with
   |some (v,e)=>(q=true->e.quiet=true)/\K v (e.app h)
   |none=>False):=by
   exact z173
  split at H'
  case h_2=>exact H'.elim
  rename_i v e he;refine⟨v,e.app h,?_,λhq=>gL.yg (H'.1 hq),H'.2⟩;have:=lL he;cases k<;>first|exact this|exact absurd ⟨_,_,rfl⟩ hc
theorem WS.sound{P o ts h K}(H:WS P o ts h K):∃v h',cY P o ts h (put ts o.dst v) h'/\(o.q=true->∃g,h' =h++g)/\K v h':=by
 have run:wanted o.gd ts->AO o.dst o.k ts.length (WK P o.q o.k (val ts) h K)->∃v h',cY P o ts h (put ts o.dst v) h'/\(o.q=true->∃g,h' =h++g)/\K v h':=λhw hk=>by
  obtain⟨hb,hk⟩:=oC.1 hk;obtain⟨v,h',h1,h2,h3⟩:=hk.sound;exact⟨v,h',.run hw hb h1,h2,h3⟩
 have skip:¬wanted o.gd ts->K au h->∃v h',cY P o ts h (put ts o.dst v) h'/\(o.q=true->∃g,h' =h++g)/\K v h':=λhw hk=>
  ⟨au,h,.skip hw,λ_=>Ext.refl h,hk⟩
 unfold WS at H;split at H
 ·rename_i hg;exact run (by rw[hg];trivial) H
 ·rename_i t b hg;split at H
  ·rename_i c hv;have hx:ts[t]? =some (.bool c):=by
    simp only[val,List.getD]at hv;cases hy:ts[t]? with
    |none=>rw[hy]at hv;cases hv
    |some z=>rw[hy]at hv;simp only[Wt]at hv;rw[hv]
   split at H
   ·rename_i hcb;subst hcb;exact run (by rw[hg];exact hx) H
   ·rename_i hcb;refine skip (λhw=>hcb ?_) H;rw[hg]at hw;simp only[wanted,hx,UG,AV.bool.injEq]at hw;exact hw
  ·rename_i hv;refine skip (λhw=>?_) H;rw[hg]at hw;simp only[wanted]at hw;exact hv b (by simp[val,List.getD,hw])
theorem WO.sound{P}:∀{l}{ts}{h}{Q},WO P l ts h Q->∃ts' h',wj P l ts h ts' h'/\Q ts' h'
 |[],ts,h,Q,H=>⟨ts,h,⟨rfl,rfl⟩,H⟩
 |o::r,ts,h,Q,H=>by
  obtain⟨v,h1,h2,h3,h4⟩:=WS.sound H;obtain⟨ts',h',h5,h6⟩:=WO.sound (l:=r) h4;exact⟨ts',h',⟨_,h1,h2,h3,h5⟩,h6⟩
def WM(P:Program)(S:af->Prop):List bo->TS->af->(TS->af->Prop)->Prop
 |[],ts,h,K=>S h/\K ts h
 |o::r,ts,h,K=>S h/\((jv (o::r)=true/\WO P (o::r) ts h K)\/(jv (o::r)=false/\
   ((kR o=true/\∃v,(∀g,S g->cY P o ts g (put ts o.dst v) g)/\WM P S r (put ts o.dst v) h K)\/(kR o=false/\WS P o ts h (λv h1=>WM P S r (put ts o.dst v) h1 K)))))
theorem WM.sound{P S}:∀{l}{ts}{h}{K},WM P S l ts h K->∃T H,Row P l T H/\T 0=ts/\H 0=h/\(∀(i:Nat) (io:bo),l[i]? =some io->kR io=true->∀g,S g->cY P io (T i) g (T (i+1)) g)/\(∀θ,θ<=de l->S (H θ))/\K (T l.length) (H l.length)
 |[],ts,h,K,H=>⟨λ_=>ts,λ_=>h,⟨λi o ho=>by simp at ho⟩,rfl,rfl,λi io ho=>by simp at ho,λ_ _=>H.1,H.2⟩
 |o::r,ts,h,K,H=>by
  obtain⟨h0,H⟩:=H;rcases H with⟨hall,H⟩|⟨hall,H⟩
  ·obtain⟨ts',h',h1,h2⟩:=WO.sound H;obtain⟨T,G,rfl,rfl,rfl,rfl,r5⟩:=h1.row;refine⟨T,G,r5,rfl,rfl,λi io hio hld=>?_,λθ hθ=>?_,h2⟩
   ·have:=UJ.1 (Bool.and_eq_true_iff.1 hall).1 io (U5 hio);unfold kR at hld;unfold AF at this;cases hk:io.k<;>rw[hk]at hld this<;>simp[eV]at hld this
   ·rw[de,Ut hall]at hθ;have:θ=0:=Om
    subst this;exact h0
  have key:∃v h1,cY P o ts h (put ts o.dst v) h1/\(o.q=true->∃g,h1=h++g)/\(kR o=true->∀g,S g->cY P o ts g (put ts o.dst v) g)/\WM P S r (put ts o.dst v) h1 K:=by
   rcases H with⟨hl,v,h1,h2⟩|⟨hl,H⟩
   ·exact⟨v,h,h1 h h0,λ_=>⟨[],Si⟩,λ_=>h1,h2⟩
   ·obtain⟨v,h1,h2,h3,h4⟩:=WS.sound H;refine⟨v,h1,h2,h3,λz=>?_,h4⟩;rw[hl]at z;cases z
  obtain⟨v,h1,k1,k2,k3,k4⟩:=key;obtain⟨T,G,r1,r2,r3,r4,r5,r6⟩:=WM.sound (l:=r) k4
  let T':Nat->TS:=λn=>match n with| 0=>ts|n+1=>T n
  let G':Nat->af:=λn=>match n with| 0=>h|n+1=>G n
  refine⟨T',G',⟨λi o' ho=>?_⟩,rfl,rfl,λi io hio hld g hg=>?_,λθ hθ=>?_,r6⟩
  ·cases i with
   |zero=>
    simp only[Vm,UG]at ho;subst ho;show cY P o ts h (T 0) (G 0)/\(o.q=true->∃g,G 0=h++g);rw[r2,r3];exact⟨k1,k2⟩
   |succ i=>exact r1.step i o' (by simpa using ho)
  ·cases i with
   |zero=>
    simp only[Vm,UG]at hio;subst hio;show cY P o ts g (T 0) g;rw[r2];exact k3 hld g hg
   |succ i=>exact r4 i io (by simpa using hio) hld g hg
  ·cases θ with
   |zero=>exact h0
   |succ θ=>
    rw[de,Ur (by rw[hall];decide)]at hθ;exact r5 θ Om
def W(P:Program)(ro:Option Nat->Prop):an->TS->af->(Ex->TS->af->Prop)->Prop
 |.skip,ts,h,Q=>Q .normal ts h
 |.ops l,ts,h,Q=>WO P l ts h (Q .normal)
 |.qd l,ts,h,Q=>y8 h l ts [] λts' cs=>ef cs/\Q .normal ts' (dz h cs)
 |.lX l,ts,h,Q=>∃S,WM P S l ts h (Q .normal)
 |.seq a b,ts,h,Q=>W P ro a ts h λe PJ h1=>
  match e with
  |.normal=>W P ro b PJ h1 Q
  |.exit id=>Q (.exit id) PJ h1
  |.ret=>Q .ret PJ h1
 |.cond c a b,ts,h,Q=>
  match val ts c with
  |.bool t=>(t=true->W P ro a ts h Q)/\(t=false->W P ro b ts h Q)
  |_=>False
 |.block id a,ts,h,Q=>W P ro a ts h λe=>Q (e.inBlock id)
 |.loop a,ts,h,Q=>∃e ts' h',(∀r,ro r->ry P r a ts h e ts' h')/\Q e ts' h'
 |.exit id,ts,h,Q=>Q (.exit id) ts h
 |.ret,ts,h,Q=>Q .ret ts h
 |.ft g ps asg body,ts,h,Q=>∃e ts' h',(∀r,ro r->Ev P r (.ft g ps asg body) ts h e ts' h')/\Q e ts' h'
 |.bad,_,_,_=>False
def cB:Option Nat->Prop:=λr=>r=none
def AM:Option Nat->Prop:=λr=>∃l,r=some l
theorem W.sound{P}(hmix:P.follows .mixedOrders=true){ro}:∀{c}{ts}{h}{Q},W P ro c ts h Q->∃e ts' h',(∀r,ro r->Ev P r c ts h e ts' h')/\Q e ts' h'
 |.skip,ts,h,Q,H=>⟨.normal,ts,h,λ_ _=>.skip,H⟩
 |.ops l,ts,h,Q,H=>by
  obtain⟨ts',h',h1,h2⟩:=WO.sound (l:=l) H;exact⟨.normal,ts',h',λ_ _=>.ops hmix h1,h2⟩
 |.qd l,ts,h,Q,H=>by
  obtain⟨QR,Ub,ts',h1,⟨h2,h3⟩,h4,h5⟩:=y8.sound (l:=l) H;rw[VD]at h2 h3;exact⟨.normal,ts',dz h QR,λ_ _=>.qd hmix h1 (by simpa using h4 [] [] (by simpa using h2)),by rw[h5];exact h3⟩
 |.lX l,ts,h,Q,H=>by
  obtain⟨S,H⟩:=H;obtain⟨T,G,r1,rfl,rfl,r4,r5,r6⟩:=WM.sound (l:=l) H;exact⟨.normal,_,_,λ_ _=>.lX hmix r1 λi io hio hld θ hθ=>r4 i io hio hld _ (r5 θ hθ),r6⟩
 |.seq a b,ts,h,Q,H=>by
  obtain⟨e,PJ,h1,h2,h3⟩:=W.sound hmix (c:=a) H;cases e with
  |normal=>
   obtain⟨e,ts',h',h4,h5⟩:=W.sound hmix (c:=b) h3;exact⟨e,ts',h',λr hr=>.seq (h2 r hr) (h4 r hr),h5⟩
  |exit id=>exact⟨_,PJ,h1,λr hr=>.td (h2 r hr) Si,h3⟩
  |ret=>exact⟨_,PJ,h1,λr hr=>.td (h2 r hr) Si,h3⟩
 |.cond c a b,ts,h,Q,H=>by
  unfold W at H;split at H
  case h_2=>exact H.elim
  rename_i t hv;cases t with
  |true=>
   obtain⟨e,ts',h',h4,h5⟩:=W.sound hmix (c:=a) (H.1 rfl);exact⟨e,ts',h',λr hr=>.cond hv (h4 r hr),h5⟩
  |false=>
   obtain⟨e,ts',h',h4,h5⟩:=W.sound hmix (c:=b) (H.2 rfl);exact⟨e,ts',h',λr hr=>.cond hv (h4 r hr),h5⟩
 |.block id a,ts,h,Q,H=>by
  obtain⟨e,ts',h',h4,h5⟩:=W.sound hmix (c:=a) H;exact⟨_,ts',h',λr hr=>.block (h4 r hr),h5⟩
 |.loop a,ts,h,Q,H=>by
  obtain⟨e,ts',h',h4,h5⟩:=H;exact⟨e,ts',h',λr hr=>.loop (h4 r hr),h5⟩
 |.exit id,ts,h,Q,H=>⟨_,ts,h,λ_ _=>.exit,H⟩
 |.ret,ts,h,Q,H=>⟨_,ts,h,λ_ _=>.ret,H⟩
 |.ft g ps asg body,ts,h,Q,H=>H
 |.bad,ts,h,Q,H=>H.elim
def rA.mono{P q fv args h K K'}(H:rA P q fv args h K)(hk:∀v h',K v h'->K' v h'):rA P q fv args h K':=by
 obtain⟨v,h',h1,h2,h3⟩:=H;exact⟨v,h',h1,h2,hk v h' h3⟩
theorem WK.mono{P q k ρ h K K'}(H:WK P q k ρ h K)(hk:∀v h',K v h'->K' v h'):WK P q k ρ h K':=by
 by_cases hc:∃f args,k=.call f args
 ·obtain⟨f,args,rfl⟩:=hc;exact rA.mono H hk
 ·have H':(match stepT k ρ (λb=>h[b]?) h.length with
   |some (v,e)=>(q=true->e.quiet=true)/\K v (e.app h)
   |none=>False):=by
   exact z173
  have G':(match stepT k ρ (λb=>h[b]?) h.length with
   |some (v,e)=>(q=true->e.quiet=true)/\K' v (e.app h)
   |none=>False):=by
   split at H'
   case h_2=>exact H'.elim
   exact⟨H'.1,hk _ _ H'.2⟩
  cases k<;>first|exact G'|exact absurd ⟨_,_,rfl⟩ hc
theorem WS.mono{P o ts h K K'}(H:WS P o ts h K)(hk:∀v h',K v h'->K' v h'):WS P o ts h K':=by
 unfold WS at H ⊢;cases hg:o.gd with
 |none=>rw[hg]at H;exact AO.mono (λz=>WK.mono z hk) H
 |some p=>
  obtain⟨t,b⟩:=p;rw[hg]at H;simp only at H ⊢;cases hv:val ts (.t t)with
  |bool c=>
   rw[hv]at H;simp only at H ⊢;by_cases hcb:c=b
   ·rw[Ut hcb]at H ⊢;exact AO.mono (λz=>WK.mono z hk) H
   ·rw[Ur hcb]at H ⊢;exact hk _ _ H
  |_=>rw[hv]at H;exact hk _ _ H
theorem WO.mono{P}:∀{l}{ts}{h}{Q Q'},WO P l ts h Q->(∀ts' h',Q ts' h'->Q' ts' h')->WO P l ts h Q'
 |[],ts,h,Q,Q',H,hq=>hq _ _ H
 |o::r,ts,h,Q,Q',H,hq=>WS.mono (o:=o) H λv h1 h2=>WO.mono (l:=r) h2 hq
theorem WM.mono{P S}:∀{l}{ts}{h}{K K'},WM P S l ts h K->(∀ts' h',K ts' h'->K' ts' h')->WM P S l ts h K'
 |[],ts,h,K,K',H,hk=>⟨H.1,hk _ _ H.2⟩
 |o::r,ts,h,K,K',H,hk=>by
  obtain⟨h0,H⟩:=H;refine⟨h0,?_⟩;rcases H with⟨ha,H⟩|⟨ha,H⟩
  ·exact .inl ⟨ha,WO.mono (l:=o::r) H hk⟩
  refine .inr ⟨ha,?_⟩;rcases H with⟨hl,v,h1,h2⟩|⟨hl,H⟩
  ·exact .inl ⟨hl,v,h1,WM.mono (l:=r) h2 hk⟩
  ·exact .inr ⟨hl,WS.mono (o:=o) H λv h1 h2=>WM.mono (l:=r) h2 hk⟩
theorem W.mono{P ro}:∀{c}{ts}{h}{Q Q'},W P ro c ts h Q->(∀e ts' h',Q e ts' h'->Q' e ts' h')->W P ro c ts h Q'
 |.skip,ts,h,Q,Q',H,hq=>hq _ _ _ H
 |.ops l,ts,h,Q,Q',H,hq=>WO.mono (l:=l) H (hq .normal)
 |.qd l,ts,h,Q,Q',H,hq=>y8.mono (l:=l) H λts' cs h1=>⟨h1.1,hq _ _ _ h1.2⟩
 |.lX l,ts,h,Q,Q',H,hq=>by obtain⟨S,H⟩:=H;exact⟨S,WM.mono (l:=l) H (hq .normal)⟩
 |.seq a b,ts,h,Q,Q',H,hq=>W.mono (c:=a) H λe PJ h1 h2=>by
  cases e with
  |normal=>exact W.mono (c:=b) h2 hq
  |exit id=>exact hq _ _ _ h2
  |ret=>exact hq _ _ _ h2
 |.cond c a b,ts,h,Q,Q',H,hq=>by
  unfold W at H ⊢;split at H
  case h_2=>exact H.elim
  exact⟨λh=>W.mono (c:=a) (H.1 h) hq,λh=>W.mono (c:=b) (H.2 h) hq⟩
 |.block id a,ts,h,Q,Q',H,hq=>W.mono (c:=a) H λe PJ h1 h2=>hq _ _ _ h2
 |.loop a,ts,h,Q,Q',H,hq=>by obtain⟨e,ts',h',h4,h5⟩:=H;exact⟨e,ts',h',h4,hq _ _ _ h5⟩
 |.exit id,ts,h,Q,Q',H,hq=>hq _ _ _ H
 |.ret,ts,h,Q,Q',H,hq=>hq _ _ _ H
 |.ft g ps asg body,ts,h,Q,Q',H,hq=>by obtain⟨e,ts',h',h4,h5⟩:=H;exact⟨e,ts',h',h4,hq _ _ _ h5⟩
 |.bad,ts,h,Q,Q',H,hq=>H.elim
inductive Kt where
 |zH (b:an)
 |pX (id:Nat)
def kq(P:Program)(ro:Option Nat->Prop):List Kt->(Ex->TS->af->Prop)->Ex->TS->af->Prop
 |[],Q,e,ts,h=>Q e ts h
 |.zH b::ks,Q,e,ts,h=>
  match e with
  |.normal=>W P ro b ts h (kq P ro ks Q)
  |.exit id=>kq P ro ks Q (.exit id) ts h
  |.ret=>kq P ro ks Q .ret ts h
 |.pX id::ks,Q,e,ts,h=>kq P ro ks Q (e.inBlock id) ts h
section
variable (P:Program) (ro:Option Nat->Prop)
def WC(c:an)(ks:List Kt)(ts:TS)(h:af)(Q:Ex->TS->af->Prop):Prop:=W P ro c ts h (kq P ro ks Q)
def WE(e:Ex)(ks:List Kt)(ts:TS)(h:af)(Q:Ex->TS->af->Prop):Prop:=kq P ro ks Q e ts h
def WP(l:List bo)(ks:List Kt)(ts:TS)(h:af)(Q:Ex->TS->af->Prop):Prop:=WO P l ts h (kq P ro ks Q .normal)
def WG(g:AV)(b:Bool)(q:Bool)(k:mU)(dst:Option Nat)(l:List bo)(ks:List Kt)(ts:TS)(h:af)(Q:Ex->TS->af->Prop):Prop:=
 match g with
 |.bool c=>if c=b then AO dst k ts.length (WK P q k (val ts) h (λv h1=>WP P ro l ks (put ts dst v) h1 Q))else WP P ro l ks (put ts dst au) h Q
 |_=>WP P ro l ks (put ts dst au) h Q
def WR(r:Option (AV×gL))(q:Bool)(dst:Option Nat)(l:List bo)(ks:List Kt)(ts:TS)(h:af)(Q:Ex->TS->af->Prop):Prop:=
 match r with
 |some (v,e)=>(q=true->e.quiet=true)/\WP P ro l ks (put ts dst v) (e.app h) Q
 |none=>False
def WF(q:Bool)(fv:AV)(args:List AV)(dst:Option Nat)(l:List bo)(ks:List Kt)(ts:TS)(h:af)(Q:Ex->TS->af->Prop):Prop:=
 rA P q fv args h (λv h1=>WP P ro l ks (put ts dst v) h1 Q)
def WB(v:AV)(a b:an)(ks:List Kt)(ts:TS)(h:af)(Q:Ex->TS->af->Prop):Prop:=
 match v with
 |.bool t=>(t=true->WC P ro a ks ts h Q)/\(t=false->WC P ro b ks ts h Q)
 |_=>False
def WL(a:an)(ks:List Kt)(ts:TS)(h:af)(Q:Ex->TS->af->Prop):Prop:=WC P ro (.loop a) ks ts h Q
def fo(g:AV)(ps:List Nat)(asg body:an)(ks:List Kt)(ts:TS)(h:af)(Q:Ex->TS->af->Prop):Prop:=
 ∃e ts' h',(∀r,ro r->∀g',val ts g' =g->Ev P r (.ft g' ps asg body) ts h e ts' h')/\WE P ro e ks ts' h' Q
end
def LQ(I:Nat->TS->af->Prop)(n:Nat)(R:Ex->TS->af->Prop):Ex->TS->af->Prop
 |.normal,ts,h=>∃m,m<n/\I m ts h
 |.exit id,ts,h=>R (.exit id) ts h
 |.ret,ts,h=>R .ret ts h
def FQ(rs:List (Nat×Option (Option Nat)))(R:AV->af->Prop):Ex->TS->af->Prop:=λe ts h=>e.leaves=true/\∃v,cL rs ts h=some v/\R v h
def D9(r:Option AV)(h:af)(R:AV->af->Prop):Prop:=
 match r with
 |some v=>R v h
 |none=>False
section
variable {P:Program}{ro:Option Nat->Prop}{ks:List Kt}{ts:TS}{h:af}{Q:Ex->TS->af->Prop}
def D4:WC P ro .skip ks ts h Q=WE P ro .normal ks ts h Q:=rfl
def p7{l}:WC P ro (.ops l) ks ts h Q=WP P ro l ks ts h Q:=rfl
def p6{a b}:WC P ro (.seq a b) ks ts h Q=WC P ro a (.zH b::ks) ts h Q:=by
 unfold WC;simp only[W];congr 1
def D7{c a b}:WC P ro (.cond c a b) ks ts h Q=WB P ro (val ts c) a b ks ts h Q:=rfl
def BG{id a}:WC P ro (.block id a) ks ts h Q=WC P ro a (.pX id::ks) ts h Q:=rfl
def D5{a}:WC P ro (.loop a) ks ts h Q=WL P ro a ks ts h Q:=rfl
def D6{id}:WC P ro (.exit id) ks ts h Q=WE P ro (.exit id) ks ts h Q:=rfl
def Hh:WC P ro .ret ks ts h Q=WE P ro .ret ks ts h Q:=rfl
def sJ{b}:WE P ro .normal (.zH b::ks) ts h Q=WC P ro b ks ts h Q:=rfl
def D2{b id}:WE P ro (.exit id) (.zH b::ks) ts h Q=WE P ro (.exit id) ks ts h Q:=rfl
def D3{b}:WE P ro .ret (.zH b::ks) ts h Q=WE P ro .ret ks ts h Q:=rfl
def yW{id}:WE P ro .normal (.pX id::ks) ts h Q=WE P ro .normal ks ts h Q:=rfl
def yU{id SK}:WE P ro (.exit SK) (.pX id::ks) ts h Q=if SK=id then WE P ro .normal ks ts h Q else WE P ro (.exit SK) ks ts h Q:=by
 unfold WE;simp only[kq,Ex.inBlock];split<;>rfl
def yV{id}:WE P ro .ret (.pX id::ks) ts h Q=WE P ro .ret ks ts h Q:=rfl
def Hg{e}:WE P ro e [] ts h Q=Q e ts h:=rfl
def BD:WP P ro [] ks ts h Q=WE P ro .normal ks ts h Q:=rfl
def gO{d k q l}(hk:∀f args,k≠.call f args)(hb:∀n x,k≠.mD n x):WP P ro ({dst:=d,k:=k,gd:=none,q:=q} ::l) ks ts h Q=WR P ro (stepT k (val ts) (λb=>h[b]?) h.length) q d l ks ts h Q:=by
 cases k<;>first|exact absurd rfl (hk _ _)|exact absurd rfl (hb _ _)|rfl
def DX{d f args q l}:WP P ro ({dst:=d,k:=.call f args,gd:=none,q:=q} ::l) ks ts h Q=WF P ro q (val ts f) (args.map (val ts)) d l ks ts h Q:=rfl
def J7{d k t b q l}:WP P ro ({dst:=d,k:=k,gd:=some (t,b),q:=q} ::l) ks ts h Q=WG P ro (val ts (.t t)) b q k d l ks ts h Q:=rfl
def xS{d k b q l}(c:Bool)(hc:c≠b):WG P ro (.bool c) b q k d l ks ts h Q=WP P ro l ks (put ts d au) h Q:=by
 simp only[WG,Ur hc]
def wi{d k b q l}:WG P ro (.bool b) b q k d l ks ts h Q=WP P ro ({dst:=d,k:=k,gd:=none,q:=q} ::l) ks ts h Q:=by
 simp only[WG,Ut];rfl
def gV{v q d l}:WR P ro (some (v,.ar)) q d l ks ts h Q=WP P ro l ks (put ts d v) h Q:=by
 simp only[WR,gL.quiet,gL.app,implies_true,Xc]
def kI{v k q d l}:WR P ro (some (v,.push k)) q d l ks ts h Q=WP P ro l ks (put ts d v) (h++[k]) Q:=by
 simp only[WR,gL.quiet,gL.app,implies_true,Xc]
def p4{v b k d l}:WR P ro (some (v,.set b k)) false d l ks ts h Q=WP P ro l ks (put ts d v) (h.set b k) Q:=by
 exact z157
def lE{v b k k' d l}:WR P ro (some (v,.lO b k k')) false d l ks ts h Q=WP P ro l ks (put ts d v) (h.set b k++[k']) Q:=by
 exact z157
def xV{a b}:WB P ro (.bool true) a b ks ts h Q=WC P ro a ks ts h Q:=by simp[WB]
def uL{a b}:WB P ro (.bool false) a b ks ts h Q=WC P ro b ks ts h Q:=by simp[WB]
def MN{I n R}:LQ I n R .normal ts h=∃m,m<n/\I m ts h:=rfl
def ML{I n R id}:LQ I n R (.exit id) ts h=R (.exit id) ts h:=rfl
def MM{I n R}:LQ I n R .ret ts h=R .ret ts h:=rfl
def MQ{rs R}:FQ rs R .normal ts h=D9 (cL rs ts h) h R:=by
 exact z152
def MP{rs R}:FQ rs R .ret ts h=D9 (cL rs ts h) h R:=by
 exact z152
def Ea{v R}:D9 (some v) h R=R v h:=rfl
def WL.inv(hmix:P.follows .mixedOrders=true){a}(I:Nat->TS->af->Prop)(n:Nat)(h0:I n ts h)
  (step:∀(n:Nat) (ts:TS) (h:af),I n ts h->WC P ro a [] ts h (LQ I n (λe ts h=>WE P ro e ks ts h Q))):WL P ro a ks ts h Q:=by
 have key:∀(k n:Nat) (ts:TS) (h:af),n<=k->I n ts h->∃e ts' h',(∀r,ro r->ry P r a ts h e ts' h')/\kq P ro ks Q e ts' h':=by
  intro k
  induction k with
  |zero=>
   intro n ts h hn hi;obtain⟨e,ts',h',h1,h2⟩:=W.sound hmix (step n ts h hi);cases e with
   |normal=>obtain⟨m,hm,_⟩:=h2;omega
   |exit id=>exact⟨_,ts',h',λr hr=>.out (h1 r hr) Si,h2⟩
   |ret=>exact⟨_,ts',h',λr hr=>.out (h1 r hr) Si,h2⟩
  |succ k ih=>
   intro n ts h hn hi;obtain⟨e,ts',h',h1,h2⟩:=W.sound hmix (step n ts h hi);cases e with
   |normal=>
    obtain⟨m,hm,hi'⟩:=h2;obtain⟨e2,Q4,h3,h4,h5⟩:=ih m ts' h' Om hi';exact⟨e2,Q4,h3,λr hr=>.more (h1 r hr) (h4 r hr),h5⟩
   |exit id=>exact⟨_,ts',h',λr hr=>.out (h1 r hr) Si,h2⟩
   |ret=>exact⟨_,ts',h',λr hr=>.out (h1 r hr) Si,h2⟩
 exact key n n ts h (Uq _) h0
def ak(P:Program)(f:FuncId)(args:List AV)(h:af)(R:AV->af->Prop):Prop:=∃v g,ke P f args h v (h++g)/\R v (h++g)
def aV(P:Program)(fv:AV)(args:List AV)(h:af)(R:AV->af->Prop):Prop:=∃v g,eG P fv args h v (h++g)/\R v (h++g)
def c9(P:Program)(f:FuncId)(args:List AV)(h:af)(R:AV->af->Prop):Prop:=∃v h',ke P f args h v h'/\R v h'
def c9.of(hmix:P.follows .mixedOrders=true){f A}(hA:bz P f=some A){args R}
  (H:WC P cB A.body [] (aQ A.nt args) h (FQ A.rs R)):c9 P f args h R:=by
 obtain⟨e,ts',h',h1,h2,v,h3,h4⟩:=W.sound hmix H;exact⟨v,h',.IM hA (h1 none rfl) h2 h3,h4⟩
theorem ak.of(hmix:P.follows .mixedOrders=true){f A}(hA:bz P f=some A){args R}
  (H:WC P cB A.body [] (aQ A.nt args) h (FQ A.rs (λv h'=>Ext h h'/\R v h'))):ak P f args h R:=by
 obtain⟨v,h',h1,⟨g,rfl⟩,h3⟩:=c9.of hmix hA H;exact⟨v,g,h1,h3⟩
def ak.mono{f args R R'}(H:ak P f args h R)(hr:∀v g,R v (h++g)->R' v (h++g)):ak P f args h R':=by
 obtain⟨v,g,h1,h2⟩:=H;exact⟨v,g,h1,hr v g h2⟩
def aV.of{f A}(hA:bz P f=some A){a c args R}(H:ak P f (a++args++c) h R):aV P (.func (.func f) a c) args h R:=by
 obtain⟨v,g,h1,h2⟩:=H;exact⟨v,g,.wP hA h1,h2⟩
def aV.yl{u:TypeId}{name f A}(hm:gM P u name=some f)(hA:bz P f=some A){a args R}(H:ak P f (a::args) h R):aV P (.func (.method name) [] []) (.sN u a::args) h R:=by
 obtain⟨v,g,h1,h2⟩:=H;exact⟨v,g,.Ce hm hA h1,h2⟩
def WF.val{q fv args d l R}(H:aV P fv args h R)(K:∀v g,R v (h++g)->WP P ro l ks (put ts d v) (h++g) Q):WF P ro q fv args d l ks ts h Q:=by
 obtain⟨v,g,h1,h2⟩:=H;exact⟨v,h++g,h1,λ_=>⟨g,rfl⟩,K v g h2⟩
def WF.res{q f A}(hA:bz P f=some A){a c args d l R}(H:ak P f (a++args++c) h R)(K:∀v g,R v (h++g)->WP P ro l ks (put ts d v) (h++g) Q):WF P ro q (.func (.func f) a c) args d l ks ts h Q:=
 WF.val (aV.of hA H) K
def WF.gen{f A}(hA:bz P f=some A){a c args d l R}(H:c9 P f (a++args++c) h R)(K:∀v h',R v h'->WP P ro l ks (put ts d v) h' Q):WF P ro false (.func (.func f) a c) args d l ks ts h Q:=by
 obtain⟨v,h',h1,h2⟩:=H;exact⟨v,h',.wP hA h1,(λhq=>absurd hq Si),K v h' h2⟩
end
end Go.Abs
namespace Go.Abs
inductive aB (h:af):AV->Nat->List (List AV)->Prop
 |nil {es:Nat}:aB h .ah es []
 |mk {b o es:Nat}{cs:List (List AV)}{c:List AV}{mu tl:Bool}(hb:h[b]? =some (.cells c mu tl)) (hf:(c.drop o).take (cs.length*es)=cs.flatten) (ho:o+cs.length*es<=c.length)
   (he:∀x∈cs,x.length=es):aB h (.slice b o cs.length es) es cs
inductive Fr (N:Nat) (h:af):AV->Nat->List (List AV)->Prop
 |nil {es:Nat}:Fr N h .ah es []
 |mk {b es:Nat}{cs:List (List AV)}{tl:Bool}(hN:N<=b) (hb:h[b]? =some (.cells cs.flatten true tl)) (he:∀x∈cs,x.length=es):Fr N h (.slice b 0 cs.length es) es cs
def AV.sb:AV->Nat
 |.slice b _ _ _=>b
 |_=>0
def AV.so:AV->Nat
 |.slice _ o _ _=>o
 |_=>0
theorem dV{es:Nat}:∀{cs:List (List AV)},(∀x∈cs,x.length=es)->cs.flatten.length=cs.length*es
 |[],_=>by simp
 |x::xs,he=>by
  have h1:=he x Si;have h2:=dV (cs:=xs) (λy hy=>he y (UL _ hy));simp only[Vj,Ud,Ui,h1,h2,Vv];omega
theorem j7{es:Nat}:∀{cs:List (List AV)},(∀x∈cs,x.length=es)->∀{i:Nat}(hi:i<cs.length),(cs.flatten.drop (i*es)).take es=cs[i]
 |[],_,i,hi=>by simp at hi
 |x::xs,he,0,_=>by
  have h1:=he x Si;simp[<-h1]
 |x::xs,he,i+1,hi=>by
  have h1:=he x Si;have h2:=j7 (cs:=xs) (λy hy=>he y (UL _ hy)) (i:=i) (by simpa using hi);simp only[Vj,List.getElem_cons_succ,<-h2];congr 1;rw[Vv,Nat.add_comm,<-h1,List.drop_append];simp
def Fr.aM{N:Nat}{h:af}{s:AV}{es:Nat}{cs:List (List AV)}(hs:Fr N h s es cs):aB h s es cs:=by
 cases hs with
 |nil=>exact .nil
 |mk hN hb he=>
  have hl:=dV he;exact .mk hb (by rw[VI,<-hl,UU]) Om he
section
variable {h k:af}{s:AV}{es:Nat}{cs:List (List AV)}
def aB.ar(hs:aB h s es cs)(hk:∀b,b<h.length->(∀b0 o n e,s=.slice b0 o n e->b=b0)->k[b]? =h[b]?):aB k s es cs:=by
 cases hs with
 |nil=>exact .nil
 |mk hb hf ho he=>
  refine .mk ((hk _ (Ue.1 hb).1 λb0 o n e hx=>?_).trans hb) hf ho he;cases hx;rfl
def aB.ext(hs:aB h s es cs)(e:Ext h k):aB k s es cs:=hs.ar λ_ hb _=>e.get hb
def aB.app(hs:aB h s es cs)(g:af):aB (h++g) s es cs:=hs.ext ⟨g,rfl⟩
def Fr.ar{N}(hs:Fr N h s es cs)(hk:∀b,b<h.length->(∀b0 o n e,s=.slice b0 o n e->b=b0)->k[b]? =h[b]?):Fr N k s es cs:=by
 cases hs with
 |nil=>exact .nil
 |mk hN hb he=>
  refine .mk hN ((hk _ (Ue.1 hb).1 λb0 o n e hx=>?_).trans hb) he;cases hx;rfl
def Fr.ext{N}(hs:Fr N h s es cs)(e:Ext h k):Fr N k s es cs:=hs.ar λ_ hb _=>e.get hb
def Fr.app{N}(hs:Fr N h s es cs)(g:af):Fr N (h++g) s es cs:=hs.ext ⟨g,rfl⟩
def Fr.low{N M}(hs:Fr N h s es cs)(hM:M<=N):Fr M h s es cs:=by
 cases hs with
 |nil=>exact .nil
 |mk hN hb he=>exact .mk Om hb he
def aB.rows(hs:aB h s es cs):∀x∈cs,x.length=es:=by
 cases hs with
 |nil=>simp
 |mk hb hf ho he=>exact he
theorem aB.iC(hs:aB h s es cs)(G:Nat->Option ai):iC .sl G s=some cs.length:=by
 cases hs<;>rfl
theorem aB.one(hs:aB h s es cs):s.one=true:=by
 cases hs<;>rfl
theorem aB.eE(hs:aB h s es cs):eE es (λb=>h[b]?) s=some (cs.flatten,cs.length):=by
 cases hs with
 |nil=>rfl
 |mk hb hf ho he=>simp only[Go.Abs.eE,UD,hb];rw[Ut ho,hf]
def bh(es:Nat)(x i:AV):Option (AV×gL):=
 match x,i with
 |.slice b o n es',.int _ i=>if es' =es/\0<=i/\i<n then some (.ptr b (o+i.toNat*es),.ar)else none
 |_,_=>none
def aq(n:Option Nat)(a:AV)(G:Nat->Option ai):Option (AV×gL):=
 match a with
 |.ptr b o=>
  match G b with
  |some (.cells c _ _)=>
   match n with
   |none=>
    match c[o]? with
    |some x=>some (x,.ar)
    |none=>none
   |some n=>if o+n<=c.length then some (.agg ((c.drop o).take n),.ar)else none
  |_=>none
 |_=>none
def y4(es:Nat)(x:AV)(lo hi:Option AV):Option (AV×gL):=
 match x with
 |.slice b o n es'=>
  if es' =es then
   match gx lo hi n with
   |some (l,h')=>some (.slice b (o+l*es) (h'-l) es,.ar)
   |none=>none
  else none
 |.ah=>
  match gx lo hi 0 with
  |some _=>some (.ah,.ar)
  |none=>none
 |_=>none
def aB.bT(hs:aB h s es cs){i:Int}{k:IntKind}(h0:0<=i)(h1:i<cs.length):bh es s (.int k i)=some (.ptr s.sb (s.so+i.toNat*es),.ar):=by
 cases hs with
 |nil=>simp at h1;omega
 |mk hb hf ho he=>show(if es=es/\0<=i/\i<cs.length then _ else none)=_;rw[Ut ⟨rfl,h0,h1⟩];rfl
def aB.load(hs:aB h s es cs){i:Nat}(hi:i<cs.length):aq (some es) (.ptr s.sb (s.so+i*es)) (λb=>h[b]?)=some (.agg cs[i],.ar):=by
 cases hs with
 |nil=>simp at hi
 | @mk b o es cs c mu tl hb hf ho he=>
  have hle:i*es+es<=cs.length*es:=by rw[<-Vv];exact Vf _ hi
  have h1:=j7 he hi;show aq (some es) (.ptr b (o+i*es)) (λb=>h[b]?)=_;simp only[aq,hb];rw[Ut Om,<-h1,<-hf,List.drop_take,List.take_take,VH,V5 Om]
def aB.AB(hs:aB h s es cs){i off:Nat}(hi:i<cs.length){x:AV}(hx:cs[i][off]? =some x):aq none (.ptr s.sb (s.so+i*es+off)) (λb=>h[b]?)=some (x,.ar):=by
 cases hs with
 |nil=>simp at hi
 | @mk b o es cs c mu tl hb hf ho he=>
  have hle:i*es+es<=cs.length*es:=by rw[<-Vv];exact Vf _ hi
  have h1:=j7 he hi;have h2:=he _ (UB hi);have h3:=(Ue.1 hx).1;rw[<-h1,<-hf,List.drop_take,List.take_take,VH,V5 Om,List.getElem?_take]at hx;rw[Ut Om,Wv]at hx;show aq none (.ptr b (o+i*es+off)) (λb=>h[b]?)=_;simp only[aq,hb,hx]
def aB.EA(hs:aB h s 1 cs){i}(hi:i<cs.length){x}(hx:cs[i]=[x]):aq none (.ptr s.sb (s.so+i*1)) (λb=>h[b]?)=some (x,.ar):=
 hs.AB (off:=0) hi (by rw[hx];rfl)
def aB.sl(hs:aB h s es cs){lo hi l u}(hb:gx lo hi cs.length=some (l,u)):∃s',y4 es s lo hi=some (s',.ar)/\aB h s' es ((cs.drop l).take (u-l)):=by
 have So:l<=u/\u<=cs.length:=by
  unfold gx at hb;split at hb
  case h_2=>cases hb
  split at hb
  case isFalse=>cases hb
  cases hb;omega
 cases hs with
 |nil=>
  simp only[Ul]at hb;exact⟨.ah,by simp only[y4,hb],by simp;exact .nil⟩
 | @mk b o es cs c mu tl hbk hf ho he=>
  have hlen:((cs.drop l).take (u-l)).length=u-l:=by simp;omega
  refine⟨.slice b (o+l*es) (u-l) es,by simp only[y4,UD,hb],?_⟩;have hul:(u-l)*es+l*es=u*es:=by rw[<-Wm];congr 1;omega
  have hu:u*es<=cs.length*es:=Vf _ So.2;have:aB h (.slice b (o+l*es) ((cs.drop l).take (u-l)).length es) es ((cs.drop l).take (u-l)):=by
   refine .mk hbk ?_ (by rw[hlen];omega) λx hx=>he x (List.mem_of_mem_drop (Vi hx))
   rw[hlen];have TE:∀(cs:List (List AV)) (l n:Nat),(∀x∈cs,x.length=es)->l+n<=cs.length->((cs.drop l).take n).flatten=(cs.flatten.drop (l*es)).take (n*es):=by
    intro cs
    induction cs with
    |nil=>intro l n _ _;simp
    |cons x xs ih=>
     intro l n hx hln;have h1:=hx x Si;have h2:∀y∈xs,y.length=es:=λy hy=>hx y (UL _ hy)
     cases l with
     |succ l=>
      rw[List.drop_succ_cons,ih l n h2 (by simp at hln;omega),Vj,show(l+1)*es=x.length+l*es from by rw[h1,Vv,Nat.add_comm],<-VH,List.drop_left]
     |zero=>
      cases n with
      |zero=>simp
      |succ n=>
       have:=ih 0 n h2 (by simp at hln;omega);simp only[VI,Wk]at this ⊢;rw[VY,Vj,this,Vj,List.take_append,Vv,UO (l:=x) Om,h1];simp
   rw[TE cs l (u-l) he Om,<-hf,List.drop_take,List.take_take,VH,V5 (by rw[Nat.sub_mul]at hul ⊢;omega)]
  rw[hlen]at this;exact this
def Fr.push{N}(hN:N<=h.length)(cs:List (List AV))(he:∀x∈cs,x.length=es):Fr N (h++[.cells cs.flatten true true]) (.slice h.length 0 cs.length es) es cs:=
 .mk (tl:=true) hN Si he
end
end Go.Abs
namespace Go.Abs
section
variable (P:Program) (ro:Option Nat->Prop)
def WV(r:Option AV)(dst:Option Nat)(l:List bo)(ks:List Kt)(ts:TS)(h:af)(Q:Ex->TS->af->Prop):Prop:=
 match r with
 |some v=>WP P ro l ks (put ts dst v) h Q
 |none=>False
end
def qI(c a b:AV):Option AV:=
 match c with
 |.bool t=>some (if t then a else b)
 |_=>none
def mC(n:Nat)(x:AV)(N0:Nat):Option (AV×gL):=if x.cells.all AV.one=true/\x.cells.length=n then some (.ptr N0 0,.push (.cells x.cells true false))else none
def nD(x:AV)(N0:Nat):Option (AV×gL):=if x.cells.all AV.one then some (.ptr N0 0,.push (.cells x.cells true false))else none
def bC(n:Nat)(a x:AV)(G:Nat->Option ai):Option (AV×gL):=
 match a with
 |.ptr b o=>
  match G b with
  |some (.cells c true tl)=>
   if x.cells.length=n/\x.cells.all AV.one=true/\o+n<=c.length then some (au,.set b (.cells (fq c o x.cells) true tl))else none
  |_=>none
 |_=>none
def ow(x:AV):Option AV:=
 match x with
 |.ptr b o=>some (.ptr b o)
 |.func (.func f) a c=>some (.func (.func f) a c)
 |.func (.yield f) a c=>some (.func (.yield f) a c)
 |.func (.methodOf t n) a c=>some (.func (.methodOf t n) a c)
 |.func (.via t p f q) a c=>some (.func (.via t p f q) a c)
 |_=>none
def qP(es w:Nat)(z:List AV)(l c:AV)(N0:Nat):Option (AV×gL):=
 match l,c with
 |.int _ l,.int _ c=>
  if 0<=l/\l<=c/\(w:Int)*c<=2^48/\c<2^63 then some (.slice N0 0 l.toNat es,.push (.cells (du l.toNat z) true true))else none
 |_,_=>none
def ou(x:AV)(lo hi:Option AV):Option AV:=
 match x with
 |.str s=>
  match gx lo hi s.length with
  |some (l,h')=>some (.str ((s.drop l).take (h'-l)))
  |none=>none
 |_=>none
def rj(off:Nat)(x:AV):Option AV:=
 match x with
 |.ptr b o=>some (.ptr b (o+off))
 |_=>none
def kS(len es:Nat)(x i:AV):Option AV:=
 match x,i with
 |.ptr b o,.int _ i=>if 0<=i/\i<len then some (.ptr b (o+i.toNat*es))else none
 |_,_=>none
def wM(n:Option Nat)(off:Nat)(x:AV):Option AV:=
 match x with
 |.agg cs=>
  match n with
  |none=>cs[off]?
  |some n=>some (.agg ((cs.drop off).take n))
 |_=>none
def Jo(len es:Nat)(n:Option Nat)(x i:AV):Option AV:=
 match x,i with
 |.agg cs,.int _ i=>
  if 0<=i/\i<len then
   match n with
   |none=>cs[i.toNat*es]?
   |some n=>some (.agg ((cs.drop (i.toNat*es)).take n))
  else none
 |_,_=>none
def yu(x i:AV):Option AV:=
 match x,i with
 |.str s,.int _ i=>
  if 0<=i then
   match s[i.toNat]? with
   |some b=>some (.int .u8 b.toNat)
   |none=>none
  else none
 |_,_=>none
def Gr(x:AV)(i:Nat):Option AV:=
 match x with
 |.dt l=>l[i]?
 |_=>none
def rW(o:Option Nat):Option AV:=
 match o with
 |some n=>some (.int .i64 n)
 |none=>none
def sa(neg:Bool)(o:Option Bool):Option AV:=
 match o with
 |some b=>some (.bool (if neg then !b else b))
 |none=>none
def pU(o:Option (List AV)):Option AV:=
 match o with
 |some c=>some (.agg c)
 |none=>none
def vY(es n:Nat)(o:Option (List AV))(N0:Nat):Option (AV×gL):=
 match o with
 |some c=>if c.all AV.one=true/\c.length=n*es then some (.slice N0 0 n es,.push (.cells c true (!Nat.beq n 0)))else none
 |none=>none
section
variable {P:Program}{ro:Option Nat->Prop}{ks:List Kt}{ts:TS}{h:af}{Q:Ex->TS->af->Prop}{d:Option Nat}{q:Bool}{l:List bo}
def gN{r r'}(hr:r=r'.map λv=>(v,.ar)):WR P ro r q d l ks ts h Q=WV P ro r' d l ks ts h Q:=by
 subst hr;cases r' with
 |none=>rfl
 |some v=>exact gV
def sC{v}:WV P ro (some v) d l ks ts h Q=WP P ro l ks (put ts d v) h Q:=rfl
def BF{x}:WP P ro ({dst:=d,k:=.dq x,gd:=none,q:=q} ::l) ks ts h Q=WP P ro l ks (put ts d (val ts x)) h Q:=gV
def DN{c a b}:WP P ro ({dst:=d,k:=.pick c a b,gd:=none,q:=q} ::l) ks ts h Q=WV P ro (qI (val ts c) (val ts a) (val ts b)) d l ks ts h Q:=by
 rw[gO Si Si];refine gN ?_;simp only[stepT,lz,qI];cases val ts c<;>rfl
def Hd{x}:WP P ro ({dst:=d,k:=.box x,gd:=none,q:=q} ::l) ks ts h Q=WR P ro (nD (val ts x) h.length) q d l ks ts h Q:=rfl
def DY{n i x}:WP P ro ({dst:=some i,k:=.mD n x,gd:=none,q:=q} ::l) ks ts h Q=(i<ts.length/\WR P ro (mC n (val ts x) h.length) q (some i) l ks ts h Q):=rfl
def p5{z ps}:WP P ro ({dst:=d,k:=.build z ps,gd:=none,q:=q} ::l) ks ts h Q=WV P ro (pU (dW z (ps.map λp=>(p.1,p.2.1,val ts p.2.2)))) d l ks ts h Q:=by
 rw[gO Si Si];refine gN ?_;simp only[stepT,lz,pU];cases dW z (ps.map λp=>(p.1,p.2.1,val ts p.2.2))<;>rfl
def yT{es n z ps}:WP P ro ({dst:=d,k:=.aY es n z ps,gd:=none,q:=q} ::l) ks ts h Q=WR P ro (vY es n (dW (du n z) (ps.map λp=>(p.1,es,val ts p.2))) h.length) q d l ks ts h Q:=rfl
def DS{n a}:WP P ro ({dst:=d,k:=.load n a,gd:=none,q:=q} ::l) ks ts h Q=WR P ro (aq n (val ts a) (λb=>h[b]?)) q d l ks ts h Q:=rfl
def BB{n a x}:WP P ro ({dst:=d,k:=.store n a x,gd:=none,q:=q} ::l) ks ts h Q=WR P ro (bC n (val ts a) (val ts x) (λb=>h[b]?)) q d l ks ts h Q:=rfl
def yS{x}:WP P ro ({dst:=d,k:=.bu x,gd:=none,q:=q} ::l) ks ts h Q=WV P ro (ow (val ts x)) d l ks ts h Q:=by
 rw[gO Si Si];refine gN ?_;exact z116
def He{op x y}:WP P ro ({dst:=d,k:=.bin op x y,gd:=none,q:=q} ::l) ks ts h Q=WV P ro (dM op (val ts x) (val ts y)) d l ks ts h Q:=by
 rw[gO Si Si];refine gN ?_;exact z162
def Ha{neg t x y}:WP P ro ({dst:=d,k:=.eqv neg t x y,gd:=none,q:=q} ::l) ks ts h Q=WV P ro (sa neg (nw t (val ts x) (val ts y))) d l ks ts h Q:=by
 rw[gO Si Si];refine gN ?_;simp only[stepT,lz,sa];cases nw t (val ts x) (val ts y)<;>rfl
def J3{op x}:WP P ro ({dst:=d,k:=.un op x,gd:=none,q:=q} ::l) ks ts h Q=WV P ro (uW op (val ts x)) d l ks ts h Q:=by
 rw[gO Si Si];refine gN ?_;simp only[stepT,lz];cases uW op (val ts x)<;>rfl
def sI{k x}:WP P ro ({dst:=d,k:=.conv k x,gd:=none,q:=q} ::l) ks ts h Q=WR P ro (kU k (val ts x) (λb=>h[b]?) h.length) q d l ks ts h Q:=rfl
def DQ{f a c}:WP P ro ({dst:=d,k:=.rV f a c,gd:=none,q:=q} ::l) ks ts h Q=WP P ro l ks (put ts d (.func f (a.map (val ts)) (c.map (val ts)))) h Q:=gV
def uK:WP P ro ({dst:=d,k:=.mg,gd:=none,q:=q} ::l) ks ts h Q=WP P ro l ks (put ts d (.map h.length)) (h++[.aN []]) Q:=kI
def DP{es w z a c}:WP P ro ({dst:=d,k:=.tL es w z a c,gd:=none,q:=q} ::l) ks ts h Q=WR P ro (qP es w z (val ts a) (val ts c) h.length) q d l ks ts h Q:=rfl
def J4{es x lo hi}:WP P ro ({dst:=d,k:=.sl es x lo hi,gd:=none,q:=q} ::l) ks ts h Q=WR P ro (y4 es (val ts x) (lo.map (val ts)) (hi.map (val ts))) q d l ks ts h Q:=rfl
def G5{x lo hi}:WP P ro ({dst:=d,k:=.Fk x lo hi,gd:=none,q:=q} ::l) ks ts h Q=WV P ro (ou (val ts x) (lo.map (val ts)) (hi.map (val ts))) d l ks ts h Q:=by
 rw[gO Si Si];refine gN ?_;simp only[stepT,lz,ou];cases val ts x with
 |str s=>simp only;cases gx (Option.map (val ts) lo) (Option.map (val ts) hi) s.length<;>rfl
 |_=>rfl
def DW{off x}:WP P ro ({dst:=d,k:=.bP off x,gd:=none,q:=q} ::l) ks ts h Q=WV P ro (rj off (val ts x)) d l ks ts h Q:=by
 rw[gO Si Si];refine gN ?_;simp only[stepT,lz,rj];cases val ts x<;>rfl
def DU{es x i}:WP P ro ({dst:=d,k:=.bT es x i,gd:=none,q:=q} ::l) ks ts h Q=WR P ro (bh es (val ts x) (val ts i)) q d l ks ts h Q:=rfl
def DV{len es x i}:WP P ro ({dst:=d,k:=.qg len es x i,gd:=none,q:=q} ::l) ks ts h Q=WV P ro (kS len es (val ts x) (val ts i)) d l ks ts h Q:=by
 rw[gO Si Si];refine gN ?_;simp only[stepT,lz,kS];cases val ts x with
 |ptr b o=>cases val ts i<;>first|rfl|(simp only;split<;>rfl)
 |_=>rfl
def DO{n off x}:WP P ro ({dst:=d,k:=.part n off x,gd:=none,q:=q} ::l) ks ts h Q=WV P ro (wM n off (val ts x)) d l ks ts h Q:=by
 rw[gO Si Si];refine gN ?_;simp only[stepT,lz,wM];cases val ts x with
 |agg cs=>cases n<;>first|rfl|(simp only;cases cs[off]? <;>rfl)
 |_=>rfl
def G8{len es n x i}:WP P ro ({dst:=d,k:=.Hr len es n x i,gd:=none,q:=q} ::l) ks ts h Q=WV P ro (Jo len es n (val ts x) (val ts i)) d l ks ts h Q:=by
 rw[gO Si Si];refine gN ?_;simp only[stepT,lz,Jo];cases val ts x with
 |agg cs=>
  cases val ts i with
  |int k j=>
   simp only;split
   ·cases n<;>first|rfl|(simp only;cases cs[j.toNat*es]? <;>rfl)
   ·rfl
  |_=>rfl
 |_=>rfl
def G7{x i}:WP P ro ({dst:=d,k:=.Gj x i,gd:=none,q:=q} ::l) ks ts h Q=WV P ro (yu (val ts x) (val ts i)) d l ks ts h Q:=by
 rw[gO Si Si];refine gN ?_;simp only[stepT,lz,yu];cases val ts x with
 |str s=>
  cases val ts i with
  |int k j=>
   simp only;split
   ·cases s[j.toNat]? <;>rfl
   ·rfl
  |_=>rfl
 |_=>rfl
def DR{kk z ok m k}:WP P ro ({dst:=d,k:=.look kk z ok m k,gd:=none,q:=q} ::l) ks ts h Q=WR P ro (stepT (.look kk z ok m k) (val ts) (λb=>h[b]?) h.length) q d l ks ts h Q:=rfl
def sH{kk m k x}:WP P ro ({dst:=d,k:=.fu kk m k x,gd:=none,q:=q} ::l) ks ts h Q=WR P ro (stepT (.fu kk m k x) (val ts) (λb=>h[b]?) h.length) q d l ks ts h Q:=rfl
def BE{x}:WP P ro ({dst:=d,k:=.pz x,gd:=none,q:=q} ::l) ks ts h Q=WR P ro (stepT (.pz x) (val ts) (λb=>h[b]?) h.length) q d l ks ts h Q:=rfl
def G9{x i}:WP P ro ({dst:=d,k:=.ext x i,gd:=none,q:=q} ::l) ks ts h Q=WV P ro (Gr (val ts x) i) d l ks ts h Q:=by
 rw[gO Si Si];refine gN ?_;simp only[stepT,lz,Gr];cases val ts x with
 |dt cs=>simp only;cases cs[i]? <;>rfl
 |_=>rfl
def G6{lk x}:WP P ro ({dst:=d,k:=.len lk x,gd:=none,q:=q} ::l) ks ts h Q=WV P ro (rW (iC lk (λb=>h[b]?) (val ts x))) d l ks ts h Q:=by
 rw[gO Si Si];refine gN ?_;simp only[stepT,lz,rW];cases iC lk (λb=>h[b]?) (val ts x)<;>rfl
def DT{n}:WP P ro ({dst:=d,k:=.yp n,gd:=none,q:=q} ::l) ks ts h Q=WP P ro l ks (put ts d (.int .i64 n)) h Q:=gV
def Hf{es w x y}:WP P ro ({dst:=d,k:=.app es w x y,gd:=none,q:=q} ::l) ks ts h Q=WR P ro (nE es w (val ts x) (val ts y) (λb=>h[b]?) h.length) q d l ks ts h Q:=rfl
def Hc{es x y}:WP P ro ({dst:=d,k:=.xH es x y,gd:=none,q:=q} ::l) ks ts h Q=WR P ro (stepT (.xH es x y) (val ts) (λb=>h[b]?) h.length) q d l ks ts h Q:=rfl
def J5{x m}:WP P ro ({dst:=d,k:=.mx x m,gd:=none,q:=q} ::l) ks ts h Q=WV P ro (gu nX (val ts x) (m.map (val ts))) d l ks ts h Q:=by
 rw[gO Si Si];refine gN ?_;simp only[stepT,lz];cases gu nX (val ts x) (m.map (val ts))<;>rfl
def J6{x m}:WP P ro ({dst:=d,k:=.mn x m,gd:=none,q:=q} ::l) ks ts h Q=WV P ro (gu nW (val ts x) (m.map (val ts))) d l ks ts h Q:=by
 rw[gO Si Si];refine gN ?_;simp only[stepT,lz];cases gu nW (val ts x) (m.map (val ts))<;>rfl
def Du{k a b}:dM .add (.int k a) (.int k b)=some (.int k (k.wrap (a+b))):=by simp[dM,ec,fw]
def Dj{k a b}:dM .sub (.int k a) (.int k b)=some (.int k (k.wrap (a-b))):=by simp[dM,ec,fw]
def Dm{k a b}:dM .mul (.int k a) (.int k b)=some (.int k (k.wrap (a*b))):=by simp[dM,ec,fw]
def Dk{k a b}(hb:b≠0):dM .quo (.int k a) (.int k b)=some (.int k (k.wrap (a.tdiv b))):=by simp[dM,ec,fw,hb]
def oE{k a b}(hb:b≠0):dM .rem (.int k a) (.int k b)=some (.int k (a.tmod b)):=by simp[dM,ec,fw,hb]
def Dt{k a b}:dM .eql (.int k a) (.int k b)=some (.bool (decide (a=b))):=by simp[dM,ec,fw];rfl
def Dl{k a b}:dM .neq (.int k a) (.int k b)=some (.bool (decide (a≠b))):=by
 simp only[dM,ec,fw,UD,U3,UC,UG,AV.bool.injEq];by_cases hab:a=b<;>simp[hab]
def Dp{k a b}:dM .lss (.int k a) (.int k b)=some (.bool (decide (a<b))):=by simp[dM,ec,fw]
def Dq{k a b}:dM .leq (.int k a) (.int k b)=some (.bool (decide (a<=b))):=by simp[dM,ec,fw]
def Dr{k a b}:dM .gtr (.int k a) (.int k b)=some (.bool (decide (b<a))):=by simp[dM,ec,fw]
def Ds{k a b}:dM .geq (.int k a) (.int k b)=some (.bool (decide (b<=a))):=by simp[dM,ec,fw]
def dL{x y}(hl:x.length+y.length<2^62):dM .add (.str x) (.str y)=some (.str (x++y)):=by simp only[dM,o6,Ut hl]
def Bm{x y}:dM .eql (.str x) (.str y)=some (.bool (decide (x=y))):=by
 exact H6
def Bl{x y}:dM .neq (.str x) (.str y)=some (.bool (decide (x≠y))):=by
 exact H6
def Fc{b}:uW .not (.bool b)=some (.bool !b):=rfl
def Fe{k a}:uW .neg (.int k a)=some (.int k (k.wrap (0-a))):=rfl
def Lq{k a b}:gu nX (.int k a) [.int k b]=some (.int k (max a b)):=by
 simp only[gu,nX,UD,UG,AV.int.injEq,Xc];omega
def Lt{k a b}:gu nW (.int k a) [.int k b]=some (.int k (min a b)):=by
 simp only[gu,nW,UD,UG,AV.int.injEq,Xc];omega
def aH{n}(h1:-9223372036854775808<=n)(h2:n<=9223372036854775807):IntKind.i64.wrap n=n:=by
 simp only[IntKind.wrap,IntKind.signed,IntKind.bits,VS,UT,show(64-1:Nat)=63 from rfl];split<;>omega
end
end Go.Abs
namespace Go.Abs
def A2{a b:Prop}(xa:a)(xb:b):a/\b:=⟨xa,xb⟩
def A3{a b c:Prop}(xa:a)(xb:b)(xc:c):a/\b/\c:=⟨xa,xb,xc⟩
def A4{a b c d:Prop}(xa:a)(xb:b)(xc:c)(xd:d):a/\b/\c/\d:=⟨xa,xb,xc,xd⟩
def A5{a b c d e:Prop}(xa:a)(xb:b)(xc:c)(xd:d)(xe:e):a/\b/\c/\d/\e:=⟨xa,xb,xc,xd,xe⟩
def A6{a b c d e f:Prop}(xa:a)(xb:b)(xc:c)(xd:d)(xe:e)(xf:f):a/\b/\c/\d/\e/\f:=⟨xa,xb,xc,xd,xe,xf⟩
def A7{a b c d e f g:Prop}(xa:a)(xb:b)(xc:c)(xd:d)(xe:e)(xf:f)(xg:g):a/\b/\c/\d/\e/\f/\g:=⟨xa,xb,xc,xd,xe,xf,xg⟩
def A8{a b c d e f g h:Prop}(xa:a)(xb:b)(xc:c)(xd:d)(xe:e)(xf:f)(xg:g)(xh:h):a/\b/\c/\d/\e/\f/\g/\h:=⟨xa,xb,xc,xd,xe,xf,xg,xh⟩
def A9{a b c d e f g h i:Prop}(xa:a)(xb:b)(xc:c)(xd:d)(xe:e)(xf:f)(xg:g)(xh:h)(xi:i):a/\b/\c/\d/\e/\f/\g/\h/\i:=⟨xa,xb,xc,xd,xe,xf,xg,xh,xi⟩
def uO{a b c d e f g h i j:Prop}(xa:a)(xb:b)(xc:c)(xd:d)(xe:e)(xf:f)(xg:g)(xh:h)(xi:i)(xj:j):a/\b/\c/\d/\e/\f/\g/\h/\i/\j:=⟨xa,xb,xc,xd,xe,xf,xg,xh,xi,xj⟩
def y9{a b c d e f g h i j k:Prop}(xa:a)(xb:b)(xc:c)(xd:d)(xe:e)(xf:f)(xg:g)(xh:h)(xi:i)(xj:j)(xk:k):a/\b/\c/\d/\e/\f/\g/\h/\i/\j/\k:=⟨xa,xb,xc,xd,xe,xf,xg,xh,xi,xj,xk⟩
def Hl{a b c d e f g h i j k l:Prop}(xa:a)(xb:b)(xc:c)(xd:d)(xe:e)(xf:f)(xg:g)(xh:h)(xi:i)(xj:j)(xk:k)(xl:l):a/\b/\c/\d/\e/\f/\g/\h/\i/\j/\k/\l:=⟨xa,xb,xc,xd,xe,xf,xg,xh,xi,xj,xk,xl⟩
def Hk{a b c d e f g h i j k l m:Prop}(xa:a)(xb:b)(xc:c)(xd:d)(xe:e)(xf:f)(xg:g)(xh:h)(xi:i)(xj:j)(xk:k)(xl:l)(xm:m):a/\b/\c/\d/\e/\f/\g/\h/\i/\j/\k/\l/\m:=⟨xa,xb,xc,xd,xe,xf,xg,xh,xi,xj,xk,xl,xm⟩
def Ec{a b c d e f g h i j k l m n:Prop}(xa:a)(xb:b)(xc:c)(xd:d)(xe:e)(xf:f)(xg:g)(xh:h)(xi:i)(xj:j)(xk:k)(xl:l)(xm:m)(xn:n):a/\b/\c/\d/\e/\f/\g/\h/\i/\j/\k/\l/\m/\n:=⟨xa,xb,xc,xd,xe,xf,xg,xh,xi,xj,xk,xl,xm,xn⟩
def Kx{a b c d e f g h i j k l m n o:Prop}(xa:a)(xb:b)(xc:c)(xd:d)(xe:e)(xf:f)(xg:g)(xh:h)(xi:i)(xj:j)(xk:k)(xl:l)(xm:m)(xn:n)(xo:o):a/\b/\c/\d/\e/\f/\g/\h/\i/\j/\k/\l/\m/\n/\o:=⟨xa,xb,xc,xd,xe,xf,xg,xh,xi,xj,xk,xl,xm,xn,xo⟩
def Kw{a b c d e f g h i j k l m n o p:Prop}(xa:a)(xb:b)(xc:c)(xd:d)(xe:e)(xf:f)(xg:g)(xh:h)(xi:i)(xj:j)(xk:k)(xl:l)(xm:m)(xn:n)(xo:o)(xp:p):a/\b/\c/\d/\e/\f/\g/\h/\i/\j/\k/\l/\m/\n/\o/\p:=⟨xa,xb,xc,xd,xe,xf,xg,xh,xi,xj,xk,xl,xm,xn,xo,xp⟩
def MT{a b c d e f g h i j k l m n o p q:Prop}(xa:a)(xb:b)(xc:c)(xd:d)(xe:e)(xf:f)(xg:g)(xh:h)(xi:i)(xj:j)(xk:k)(xl:l)(xm:m)(xn:n)(xo:o)(xp:p)(xq:q):a/\b/\c/\d/\e/\f/\g/\h/\i/\j/\k/\l/\m/\n/\o/\p/\q:=⟨xa,xb,xc,xd,xe,xf,xg,xh,xi,xj,xk,xl,xm,xn,xo,xp,xq⟩
def Kv{a b c d e f g h i j k l m n o p q r:Prop}(xa:a)(xb:b)(xc:c)(xd:d)(xe:e)(xf:f)(xg:g)(xh:h)(xi:i)(xj:j)(xk:k)(xl:l)(xm:m)(xn:n)(xo:o)(xp:p)(xq:q)(xr:r):a/\b/\c/\d/\e/\f/\g/\h/\i/\j/\k/\l/\m/\n/\o/\p/\q/\r:=⟨xa,xb,xc,xd,xe,xf,xg,xh,xi,xj,xk,xl,xm,xn,xo,xp,xq,xr⟩
def Og{a b c d e f g h i j k l m n o p q r s t:Prop}(xa:a)(xb:b)(xc:c)(xd:d)(xe:e)(xf:f)(xg:g)(xh:h)(xi:i)(xj:j)(xk:k)(xl:l)(xm:m)(xn:n)(xo:o)(xp:p)(xq:q)(xr:r)(xs:s)(xt:t):a/\b/\c/\d/\e/\f/\g/\h/\i/\j/\k/\l/\m/\n/\o/\p/\q/\r/\s/\t:=⟨xa,xb,xc,xd,xe,xf,xg,xh,xi,xj,xk,xl,xm,xn,xo,xp,xq,xr,xs,xt⟩
def Of{a b c d e f g h i j k l m n o p q r s t u:Prop}(xa:a)(xb:b)(xc:c)(xd:d)(xe:e)(xf:f)(xg:g)(xh:h)(xi:i)(xj:j)(xk:k)(xl:l)(xm:m)(xn:n)(xo:o)(xp:p)(xq:q)(xr:r)(xs:s)(xt:t)(xu:u):a/\b/\c/\d/\e/\f/\g/\h/\i/\j/\k/\l/\m/\n/\o/\p/\q/\r/\s/\t/\u:=⟨xa,xb,xc,xd,xe,xf,xg,xh,xi,xj,xk,xl,xm,xn,xo,xp,xq,xr,xs,xt,xu⟩
def Oe{a b c d e f g h i j k l m n o p q r s t u v:Prop}(xa:a)(xb:b)(xc:c)(xd:d)(xe:e)(xf:f)(xg:g)(xh:h)(xi:i)(xj:j)(xk:k)(xl:l)(xm:m)(xn:n)(xo:o)(xp:p)(xq:q)(xr:r)(xs:s)(xt:t)(xu:u)(xv:v):a/\b/\c/\d/\e/\f/\g/\h/\i/\j/\k/\l/\m/\n/\o/\p/\q/\r/\s/\t/\u/\v:=⟨xa,xb,xc,xd,xe,xf,xg,xh,xi,xj,xk,xl,xm,xn,xo,xp,xq,xr,xs,xt,xu,xv⟩
def Eb{a b c d e f g h i j k l m n o p q r s t u v w x:Prop}(xa:a)(xb:b)(xc:c)(xd:d)(xe:e)(xf:f)(xg:g)(xh:h)(xi:i)(xj:j)(xk:k)(xl:l)(xm:m)(xn:n)(xo:o)(xp:p)(xq:q)(xr:r)(xs:s)(xt:t)(xu:u)(xv:v)(xw:w)(xx:x):a/\b/\c/\d/\e/\f/\g/\h/\i/\j/\k/\l/\m/\n/\o/\p/\q/\r/\s/\t/\u/\v/\w/\x:=⟨xa,xb,xc,xd,xe,xf,xg,xh,xi,xj,xk,xl,xm,xn,xo,xp,xq,xr,xs,xt,xu,xv,xw,xx⟩
section
variable {P:Program}{ro:Option Nat->Prop}{ks:List Kt}{ts:TS}{h:af}{Q:Ex->TS->af->Prop}{d:Option Nat}{q:Bool}{l:List bo}
def DZ{k}{p:Prop}[Decidable p] :WG P ro (.bool (decide p)) true q k d l ks ts h Q=((p->WP P ro ({dst:=d,k:=k,gd:=none,q:=q} ::l) ks ts h Q)/\(¬p->WP P ro l ks (put ts d au) h Q)):=by
 by_cases hp:p
 ·simp only[hp,US,wi];simp
 ·simp only[hp,Va];rw[xS false Si];simp
def D0{k}{p:Prop}[Decidable p] :WG P ro (.bool (decide p)) false q k d l ks ts h Q=((p->WP P ro l ks (put ts d au) h Q)/\(¬p->WP P ro ({dst:=d,k:=k,gd:=none,q:=q} ::l) ks ts h Q)):=by
 by_cases hp:p
 ·simp only[hp,US];rw[xS true Si];simp
 ·simp only[hp,Va,wi];simp
def J8{k}:WG P ro (.bool true) false q k d l ks ts h Q=WP P ro l ks (put ts d au) h Q:=xS true Si
def J9{k}:WG P ro (.bool false) true q k d l ks ts h Q=WP P ro l ks (put ts d au) h Q:=xS false Si
def Hi{a b}{p:Prop}[Decidable p] :WB P ro (.bool (decide p)) a b ks ts h Q=((p->WC P ro a ks ts h Q)/\(¬p->WC P ro b ks ts h Q)):=by
 by_cases hp:p
 ·simp only[hp,US,xV];simp
 ·simp only[hp,Va,uL];simp
def FG{a b}:qI (.bool true) a b=some a:=rfl
def FH{a b}:qI (.bool false) a b=some b:=rfl
def slot(ts:TS)(i:Nat):AV:=ts.getD i au
def sR{i}:val ts (.t i)=slot ts i:=rfl
def wv{v}:val ts (.c v)=v:=rfl
def Ih{i}:val ts (.g i)=.ptr i 0:=rfl
def Ii{i}:val ts (.f i)=.func (.func i) [] []:=rfl
def nT{i v}:put ts (some i) v=ts.set i v:=rfl
def Aj{v}:put ts none v=ts:=rfl
def Fm{a l}:slot (a::l) 0=a:=rfl
def Fl{a l n}:slot (a::l) (n+1)=slot l n:=rfl
def Gb{a:AV}{l:List AV}:(a::l).length=l.length+1:=rfl
def Gc:([] :List AV).length=0:=rfl
def F8{a:AV}:List.replicate 0 a=[]:=rfl
def Gf{a:AV}{l m:List AV}:(a::l)++m=a:: (l++m):=rfl
def Gg{m:List AV}:[]++m=m:=rfl
def F7{a b:AV}{l:List AV}:(a::l).set 0 b=b::l:=rfl
def F6{a b:AV}{l:List AV}{n:Nat}:(a::l).set (n+1) b=a::l.set n b:=rfl
def Ga{f:cK->AV}:List.map f []=[]:=rfl
def F9{f:cK->AV}{a:cK}{l:List cK}:List.map f (a::l)=f a::l.map f:=rfl
def FN{f:cK->AV}:Option.map f none=none:=rfl
def FM{f:cK->AV}{a:cK}:Option.map f (some a)=some (f a):=rfl
def Gq{off b o}:rj off (.ptr b o)=some (.ptr b (o+off)):=rfl
def F5{n}:rW (some n)=some (.int .i64 n):=rfl
def CC{G s}:iC .st G (.str s)=some s.length:=rfl
def IW{b o}:ow (.ptr b o)=some (.ptr b o):=rfl
def IX{f a c}:ow (.func (.func f) a c)=some (.func (.func f) a c):=rfl
def IV{f a c}:ow (.func (.yield f) a c)=some (.func (.yield f) a c):=rfl
def JI{l i}:Gr (.dt l) i=l[i]? :=rfl
def FK{cs off}:wM none off (.agg cs)=cs[off]? :=rfl
def FJ{cs off n}:wM (some n) off (.agg cs)=some (.agg ((cs.drop off).take n)):=rfl
def Bh{c}:pU (some c)=some (.agg c):=rfl
def Ad{r}:cL [(r,none)] ts h=some (slot ts r):=rfl
def Ac{r s}:cL [(r,none),(s,none)] ts h=some (.dt [slot ts r,slot ts s]):=rfl
def Ab{r s t}:cL [(r,none),(s,none),(t,none)] ts h=some (.dt [slot ts r,slot ts s,slot ts t]):=rfl
def uZ{n args}:aQ n args=args++List.replicate (n-args.length) au:=rfl
def IF{n:Nat}{a:AV}:List.replicate (n+1) a=a::List.replicate n a:=rfl
def Da{k k' n G N}:kU (.Js k) (.int k' n) G N=some (.int k (k.wrap n),.ar):=rfl
def jk{u:TypeId}{x G N}:kU (.sN u) x G N=some (.sN u x,.ar):=rfl
def yF{s G N}:kU .same (.str s) G N=some (.str s,.ar):=rfl
def Dh{k n N}:nD (.int k n) N=some (.ptr N 0,.push (.cells [.int k n] true false)):=rfl
def Bj{b N}:nD (.bool b) N=some (.ptr N 0,.push (.cells [.bool b] true false)):=rfl
def Dg{s N}:nD (.str s) N=some (.ptr N 0,.push (.cells [.str s] true false)):=rfl
def Di{l N}(hl:l.all AV.one=true):nD (.agg l) N=some (.ptr N 0,.push (.cells l true false)):=by
 show(if l.all AV.one then _ else none)=_;rw[Ut hl];rfl
end
def MI{P ro ks ts h Q d q l k b}:WG P ro au b q k d l ks ts h Q=WP P ro l ks (put ts d au) h Q:=rfl
def EW{h}:Ext h h=True:=Xd (Ext.refl h)
def EU{h a}:Ext h (h++a)=True:=Xd (by repeat first|exact Ext.refl _|refine Ext.app _ ?_)
def ET{h a b}:Ext h (h++a++b)=True:=Xd (by repeat first|exact Ext.refl _|refine Ext.app _ ?_)
def ES{h a b c}:Ext h (h++a++b++c)=True:=Xd (by repeat first|exact Ext.refl _|refine Ext.app _ ?_)
def ER{h a b c d}:Ext h (h++a++b++c++d)=True:=Xd (by repeat first|exact Ext.refl _|refine Ext.app _ ?_)
def EP{h a b c d e}:Ext h (h++a++b++c++d++e)=True:=Xd (by repeat first|exact Ext.refl _|refine Ext.app _ ?_)
def EO{h a b c d e f}:Ext h (h++a++b++c++d++e++f)=True:=Xd (by repeat first|exact Ext.refl _|refine Ext.app _ ?_)
def EN{h a b c d e f g}:Ext h (h++a++b++c++d++e++f++g)=True:=Xd (by repeat first|exact Ext.refl _|refine Ext.app _ ?_)
def EM{h a b c d e f g i}:Ext h (h++a++b++c++d++e++f++g++i)=True:=Xd (by repeat first|exact Ext.refl _|refine Ext.app _ ?_)
def EL{h a b c d e f g i j}:Ext h (h++a++b++c++d++e++f++g++i++j)=True:=Xd (by repeat first|exact Ext.refl _|refine Ext.app _ ?_)
def J0{p:Prop}:(True/\p)=p:=Xc p
def Hq(f:Nat->AV):Nat->Nat->TS
 | 0,_=>[]
 |n+1,i=>f i::Hq f n (i+1)
def I3{f i}:Hq f 0 i=[]:=rfl
def Ez{f n i}:Hq f (n+1) i=f i::Hq f n (i+1):=rfl
theorem Av(f:Nat->AV):∀(n i:Nat) (ts:TS),ts.length=n->(∀k,k<n->f (i+k)=slot ts k)->ts=Hq f n i
 | 0,_,ts,h,_=>Vd.1 h
 |n+1,i,[],h,_=>by simp at h
 |n+1,i,x::xs,h,hf=>by
  rw[Ez,<-Av f n (i+1) xs (by simpa using h) λk hk=>by have:=hf (k+1) Om;rw[show i+1+k=i+(k+1) by omega,this];rfl];rw[<-W3 i,hf 0 Om];rfl
def jM(ts:TS)(n:Nat)(h:ts.length=n):ts=Hq (λi=>slot ts i) n 0:=Av _ n 0 ts h λk _=>by rw[UX]
def aL:=A6 (Eb @D4 @p7 @p6 @D7 @BG @D5 @D6 @Hh @sJ @D2 @D3 @yW @yU @yV @Hg @BD @DX @J7 @wi @J8 @J9 @gV @kI @p4) (Eb @lE @sC @xV @uL @MN @ML @MM @MQ @MP @Ea @BF @DN @Hd @p5 @yT @DS @BB @yS @He @Ha @J3 @sI @DQ @uK) (Eb @DP @J4 @G5 @DW @DU @DV @DO @G8 @G7 @DR @sH @BE @G9 @G6 @DT @Hf @Hc @J5 @J6 @Du @Dj @Dm @Dt @Dl) (Eb @Dp @Dq @Dr @Ds @Bm @Bl @Fc @Fe @Lq @Lt @FG @FH @sR @wv @Ih @Ii @nT @Aj @Fm @Fl @Gq @F5 @CC @IW) (Eb @IX @IV @JI @FK @FJ @Bh @Ad @Ac @Ab @uZ @IF @Gb @Gc @F8 @Gf @Gg @F7 @F6 @Ga @F9 @FN @FM @Da @yF) (MT @MI @EW @EU @ET @ES @ER @EP @EO @EN @EM @EL @J0 @I3 @Ez @Dh @Bj @Dg)
def kY:
  (∀{P}{ro}{ks}{ts}{h}{Q}{d}{q}{l}{k}{p:Prop} [Decidable p],WG P ro (.bool (decide p)) true q k d l ks ts h Q=((p->WP P ro ({dst:=d,k:=k,gd:=none,q:=q} ::l) ks ts h Q)/\(¬p->WP P ro l ks (put ts d au) h Q)))/\
  (∀{P:Program}{ro:Option Nat->Prop}{ks:List Kt}{ts:TS}{h:af}{Q:Ex->TS->af->Prop}{d:Option Nat}{q:Bool}{l:List bo}{k:mU}{p:Prop} [Decidable p],WG P ro (.bool (decide p)) false q k d l ks ts h Q=((p->WP P ro l ks (put ts d au) h Q)/\(¬p->WP P ro ({dst:=d,k:=k,gd:=none,q:=q} ::l) ks ts h Q)))/\
  (∀{P:Program}{ro:Option Nat->Prop}{ks:List Kt}{ts:TS}{h:af}{Q:Ex->TS->af->Prop}{a b:an}{p:Prop} [Decidable p],WB P ro (.bool (decide p)) a b ks ts h Q=((p->WC P ro a ks ts h Q)/\(¬p->WC P ro b ks ts h Q))):=
 ⟨@DZ,@D0,@Hi⟩
end Go.Abs
namespace Go.Abs
def cN{h:af}{b:Nat}(a:af)(hb:b<h.length):(h++a)[b]? =h[b]? :=Ug hb
def dY{h:af}{b:Nat}(a:af)(k:ai)(hb:b<h.length):(h++a).set b k=h.set b k++a:=List.set_append_left _ _ hb
def wF{X:af}{k k':ai}:(X++[k]).set X.length k' =X++[k']:=by
 rw[U0 _ _ (Uq _)];simp
def bO{X:af}{k:ai}:(X++[k])[X.length]? =some k:=Si
def dI(n:Option Nat)(o:Nat):ai->Option (AV×gL)
 |.cells c _ _=>
  match n with
  |none=>
   match c[o]? with
   |some x=>some (x,.ar)
   |none=>none
  |some n=>if o+n<=c.length then some (.agg ((c.drop o).take n),.ar)else none
 |_=>none
def jq(n o:Nat)(v:AV)(b:Nat):ai->Option (AV×gL)
 |.cells c true tl=>if v.cells.length=n/\v.cells.all AV.one=true/\o+n<=c.length then some (au,.set b (.cells (fq c o v.cells) true tl))else none
 |_=>none
def az{n:Option Nat}{b o:Nat}{G:Nat->Option ai}{k:ai}(hb:G b=some k):aq n (.ptr b o) G=dI n o k:=by
 simp only[aq,hb];cases k<;>rfl
def bp{n b o:Nat}{v:AV}{G:Nat->Option ai}{k:ai}(hb:G b=some k):bC n (.ptr b o) v G=jq n o v b k:=by
 simp only[bC,hb];cases k with
 |cells c mu tl=>cases mu<;>rfl
 |_=>rfl
def dF(b:Nat)(s:By)(pos:Nat):Option (AV×gL):=
 if pos<s.length then some (.dt [.bool true,.int .i64 pos,.int .i32 (Utf8.decode ⟨⟨s⟩⟩ pos).1],.set b (.iter s (pos+(Utf8.decode ⟨⟨s⟩⟩ pos).2)))else some (.dt [.bool false],.ar)
def fa(x:AV)(G:Nat->Option ai):Option (AV×gL):=
 match x with
 |.ptr b 0=>
  match G b with
  |some (.iter s pos)=>dF b s pos
  |_=>none
 |_=>none
def dh{b pos:Nat}{s:By}{G:Nat->Option ai}(hb:G b=some (.iter s pos)):fa (.ptr b 0) G=dF b s pos:=by
 simp only[fa,hb]
def sW{x:cK}{ρ:cK->AV}{G:Nat->Option ai}{N:Nat}:stepT (.pz x) ρ G N=fa (ρ x) G:=by
 simp only[stepT,lz,fa,dF];cases ρ x with
 |ptr b o=>
  cases o with
  |zero=>
   simp only;cases G b with
   |none=>rfl
   |some k=>cases k<;>rfl
  |succ o=>rfl
 |_=>rfl
def Et(x:AV)(N:Nat):Option (AV×gL):=
 match x with
 |.str s=>some (.ptr N 0,.push (.iter s 0))
 |_=>none
def BC{P:Program}{ro:Option Nat->Prop}{ks:List Kt}{ts:TS}{h:af}{Q:Ex->TS->af->Prop}{d:Option Nat}{q:Bool}{l:List bo}{x:cK}:WP P ro ({dst:=d,k:=.zS x,gd:=none,q:=q} ::l) ks ts h Q=WR P ro (Et (val ts x) h.length) q d l ks ts h Q:=rfl
def Fy{s:By}{N:Nat}:Et (.str s) N=some (.ptr N 0,.push (.iter s 0)):=rfl
def DD{X:af}{K}:(X++[K])[X.length]? =some K:=by
 exact bO
def LH{n o X K}:aq n (.ptr X.length o) (λz=>(X++[K])[z]?)=dI n o K:=az DD
def KX{y o v X K}:bC y (.ptr X.length o) v (λz=>(X++[K])[z]?)=jq y o v X.length K:=bp DD
def Ll{pos s X}:fa (.ptr X.length 0) (λz=>(X++[.iter s pos])[z]?)=dF X.length s pos:=dh DD
def zE{X:af}{K K'}:(X++[K]).set X.length K' =X++[K']:=by
 exact wF
def sf{X:af}{K a}:(X++[K]++a)[X.length]? =some K:=by
 rw[cN,DD];simp
def LG{n o X K a}:aq n (.ptr X.length o) (λz=>(X++[K]++a)[z]?)=dI n o K:=az sf
def KW{y o v X K a}:bC y (.ptr X.length o) v (λz=>(X++[K]++a)[z]?)=jq y o v X.length K:=bp sf
def Lk{pos s X a}:fa (.ptr X.length 0) (λz=>(X++[.iter s pos]++a)[z]?)=dF X.length s pos:=dh sf
def wG{X:af}{K K' a}:(X++[K]++a).set X.length K' =X++[K']++a:=by
 rw[dY,zE];simp
def yL{X:af}{K a b}:(X++[K]++a++b)[X.length]? =some K:=by
 rw[cN,sf];simp
def LF{n o X K a b}:aq n (.ptr X.length o) (λz=>(X++[K]++a++b)[z]?)=dI n o K:=az yL
def KV{y o v X K a b}:bC y (.ptr X.length o) v (λz=>(X++[K]++a++b)[z]?)=jq y o v X.length K:=bp yL
def Lj{pos s X a b}:fa (.ptr X.length 0) (λz=>(X++[.iter s pos]++a++b)[z]?)=dF X.length s pos:=dh yL
def Ep{X:af}{K K' a b}:(X++[K]++a++b).set X.length K' =X++[K']++a++b:=by
 rw[dY,wG];simp
def qk{X:af}{K a b c}:(X++[K]++a++b++c)[X.length]? =some K:=by
 rw[cN,yL];simp
def LD{n o X K a b c}:aq n (.ptr X.length o) (λz=>(X++[K]++a++b++c)[z]?)=dI n o K:=az qk
def KU{y o v X K a b c}:bC y (.ptr X.length o) v (λz=>(X++[K]++a++b++c)[z]?)=jq y o v X.length K:=bp qk
def Li{pos s X a b c}:fa (.ptr X.length 0) (λz=>(X++[.iter s pos]++a++b++c)[z]?)=dF X.length s pos:=dh qk
def Eo{X:af}{K K' a b c}:(X++[K]++a++b++c).set X.length K' =X++[K']++a++b++c:=by
 rw[dY,Ep];simp
def sd{X:af}{K a b c d}:(X++[K]++a++b++c++d)[X.length]? =some K:=by
 rw[cN,qk];simp
def LC{n o X K a b c d}:aq n (.ptr X.length o) (λz=>(X++[K]++a++b++c++d)[z]?)=dI n o K:=az sd
def KT{y o v X K a b c d}:bC y (.ptr X.length o) v (λz=>(X++[K]++a++b++c++d)[z]?)=jq y o v X.length K:=bp sd
def Lh{pos s X a b c d}:fa (.ptr X.length 0) (λz=>(X++[.iter s pos]++a++b++c++d)[z]?)=dF X.length s pos:=dh sd
def zy{X:af}{K K' a b c d}:(X++[K]++a++b++c++d).set X.length K' =X++[K']++a++b++c++d:=by
 rw[dY,Eo];simp
def Br{X:af}{K a b c d e}:(X++[K]++a++b++c++d++e)[X.length]? =some K:=by
 rw[cN,sd];simp
def LB{n o X K a b c d e}:aq n (.ptr X.length o) (λz=>(X++[K]++a++b++c++d++e)[z]?)=dI n o K:=az Br
def KS{y o v X K a b c d e}:bC y (.ptr X.length o) v (λz=>(X++[K]++a++b++c++d++e)[z]?)=jq y o v X.length K:=bp Br
def Lg{pos s X a b c d e}:fa (.ptr X.length 0) (λz=>(X++[.iter s pos]++a++b++c++d++e)[z]?)=dF X.length s pos:=dh Br
def En{X:af}{K K' a b c d e}:(X++[K]++a++b++c++d++e).set X.length K' =X++[K']++a++b++c++d++e:=by
 rw[dY,zy];simp
def DC{X:af}{K a b c d e f}:(X++[K]++a++b++c++d++e++f)[X.length]? =some K:=by
 rw[cN,Br];simp
def LA{n o X K a b c d e f}:aq n (.ptr X.length o) (λz=>(X++[K]++a++b++c++d++e++f)[z]?)=dI n o K:=az DC
def KR{y o v X K a b c d e f}:bC y (.ptr X.length o) v (λz=>(X++[K]++a++b++c++d++e++f)[z]?)=jq y o v X.length K:=bp DC
def Lf{pos s X a b c d e f}:fa (.ptr X.length 0) (λz=>(X++[.iter s pos]++a++b++c++d++e++f)[z]?)=dF X.length s pos:=dh DC
def Em{X:af}{K K' a b c d e f}:(X++[K]++a++b++c++d++e++f).set X.length K' =X++[K']++a++b++c++d++e++f:=by
 rw[dY,En];simp
def DB{X:af}{K a b c d e f g}:(X++[K]++a++b++c++d++e++f++g)[X.length]? =some K:=by
 rw[cN,DC];simp
def Lz{n o X K a b c d e f g}:aq n (.ptr X.length o) (λz=>(X++[K]++a++b++c++d++e++f++g)[z]?)=dI n o K:=az DB
def KQ{y o v X K a b c d e f g}:bC y (.ptr X.length o) v (λz=>(X++[K]++a++b++c++d++e++f++g)[z]?)=jq y o v X.length K:=bp DB
def Le{pos s X a b c d e f g}:fa (.ptr X.length 0) (λz=>(X++[.iter s pos]++a++b++c++d++e++f++g)[z]?)=dF X.length s pos:=dh DB
def El{X:af}{K K' a b c d e f g}:(X++[K]++a++b++c++d++e++f++g).set X.length K' =X++[K']++a++b++c++d++e++f++g:=by
 rw[dY,Em];simp
def DA{X:af}{K a b c d e f g i}:(X++[K]++a++b++c++d++e++f++g++i)[X.length]? =some K:=by
 rw[cN,DB];simp
def Ly{n o X K a b c d e f g i}:aq n (.ptr X.length o) (λz=>(X++[K]++a++b++c++d++e++f++g++i)[z]?)=dI n o K:=az DA
def KP{y o v X K a b c d e f g i}:bC y (.ptr X.length o) v (λz=>(X++[K]++a++b++c++d++e++f++g++i)[z]?)=jq y o v X.length K:=bp DA
def Ld{pos s X a b c d e f g i}:fa (.ptr X.length 0) (λz=>(X++[.iter s pos]++a++b++c++d++e++f++g++i)[z]?)=dF X.length s pos:=dh DA
def Ek{X:af}{K K' a b c d e f g i}:(X++[K]++a++b++c++d++e++f++g++i).set X.length K' =X++[K']++a++b++c++d++e++f++g++i:=by
 rw[dY,El];simp
def Dz{X:af}{K a b c d e f g i j}:(X++[K]++a++b++c++d++e++f++g++i++j)[X.length]? =some K:=by
 rw[cN,DA];simp
def Lx{n o X K a b c d e f g i j}:aq n (.ptr X.length o) (λz=>(X++[K]++a++b++c++d++e++f++g++i++j)[z]?)=dI n o K:=az Dz
def KO{y o v X K a b c d e f g i j}:bC y (.ptr X.length o) v (λz=>(X++[K]++a++b++c++d++e++f++g++i++j)[z]?)=jq y o v X.length K:=bp Dz
def Lc{pos s X a b c d e f g i j}:fa (.ptr X.length 0) (λz=>(X++[.iter s pos]++a++b++c++d++e++f++g++i++j)[z]?)=dF X.length s pos:=dh Dz
def Ej{X:af}{K K' a b c d e f g i j}:(X++[K]++a++b++c++d++e++f++g++i++j).set X.length K' =X++[K']++a++b++c++d++e++f++g++i++j:=by
 rw[dY,Ek];simp
def xO{X:af}{K a b c d e f g i j m}:(X++[K]++a++b++c++d++e++f++g++i++j++m)[X.length]? =some K:=by
 rw[cN,Dz];simp
def I9{n o X K a b c d e f g i j m}:aq n (.ptr X.length o) (λz=>(X++[K]++a++b++c++d++e++f++g++i++j++m)[z]?)=dI n o K:=az xO
def Is{y o v X K a b c d e f g i j m}:bC y (.ptr X.length o) v (λz=>(X++[K]++a++b++c++d++e++f++g++i++j++m)[z]?)=jq y o v X.length K:=bp xO
def IT{pos s X a b c d e f g i j m}:fa (.ptr X.length 0) (λz=>(X++[.iter s pos]++a++b++c++d++e++f++g++i++j++m)[z]?)=dF X.length s pos:=dh xO
def zD{X:af}{K K' a b c d e f g i j m}:(X++[K]++a++b++c++d++e++f++g++i++j++m).set X.length K' =X++[K']++a++b++c++d++e++f++g++i++j++m:=by
 rw[dY,Ej];simp
def xN{X:af}{K a b c d e f g i j m p}:(X++[K]++a++b++c++d++e++f++g++i++j++m++p)[X.length]? =some K:=by
 rw[cN,xO];simp
def I8{n o X K a b c d e f g i j m p}:aq n (.ptr X.length o) (λz=>(X++[K]++a++b++c++d++e++f++g++i++j++m++p)[z]?)=dI n o K:=az xN
def Ir{y o v X K a b c d e f g i j m p}:bC y (.ptr X.length o) v (λz=>(X++[K]++a++b++c++d++e++f++g++i++j++m++p)[z]?)=jq y o v X.length K:=bp xN
def IS{pos s X a b c d e f g i j m p}:fa (.ptr X.length 0) (λz=>(X++[.iter s pos]++a++b++c++d++e++f++g++i++j++m++p)[z]?)=dF X.length s pos:=dh xN
def zC{X:af}{K K' a b c d e f g i j m p}:(X++[K]++a++b++c++d++e++f++g++i++j++m++p).set X.length K' =X++[K']++a++b++c++d++e++f++g++i++j++m++p:=by
 rw[dY,zD];simp
def xM{X:af}{K a b c d e f g i j m p q}:(X++[K]++a++b++c++d++e++f++g++i++j++m++p++q)[X.length]? =some K:=by
 rw[cN,xN];simp
def I7{n o X K a b c d e f g i j m p q}:aq n (.ptr X.length o) (λz=>(X++[K]++a++b++c++d++e++f++g++i++j++m++p++q)[z]?)=dI n o K:=az xM
def Iq{y o v X K a b c d e f g i j m p q}:bC y (.ptr X.length o) v (λz=>(X++[K]++a++b++c++d++e++f++g++i++j++m++p++q)[z]?)=jq y o v X.length K:=bp xM
def IQ{pos s X a b c d e f g i j m p q}:fa (.ptr X.length 0) (λz=>(X++[.iter s pos]++a++b++c++d++e++f++g++i++j++m++p++q)[z]?)=dF X.length s pos:=dh xM
def zB{X:af}{K K' a b c d e f g i j m p q}:(X++[K]++a++b++c++d++e++f++g++i++j++m++p++q).set X.length K' =X++[K']++a++b++c++d++e++f++g++i++j++m++p++q:=by
 rw[dY,zC];simp
def xL{X:af}{K a b c d e f g i j m p q r}:(X++[K]++a++b++c++d++e++f++g++i++j++m++p++q++r)[X.length]? =some K:=by
 rw[cN,xM];simp
def I6{n o X K a b c d e f g i j m p q r}:aq n (.ptr X.length o) (λz=>(X++[K]++a++b++c++d++e++f++g++i++j++m++p++q++r)[z]?)=dI n o K:=az xL
def Ip{y o v X K a b c d e f g i j m p q r}:bC y (.ptr X.length o) v (λz=>(X++[K]++a++b++c++d++e++f++g++i++j++m++p++q++r)[z]?)=jq y o v X.length K:=bp xL
def IP{pos s X a b c d e f g i j m p q r}:fa (.ptr X.length 0) (λz=>(X++[.iter s pos]++a++b++c++d++e++f++g++i++j++m++p++q++r)[z]?)=dF X.length s pos:=dh xL
def zA{X:af}{K K' a b c d e f g i j m p q r}:(X++[K]++a++b++c++d++e++f++g++i++j++m++p++q++r).set X.length K' =X++[K']++a++b++c++d++e++f++g++i++j++m++p++q++r:=by
 rw[dY,zB];simp
def Bs{X:af}{K a b c d e f g i j m p q r t}:(X++[K]++a++b++c++d++e++f++g++i++j++m++p++q++r++t)[X.length]? =some K:=by
 rw[cN,xL];simp
def I5{n o X K a b c d e f g i j m p q r t}:aq n (.ptr X.length o) (λz=>(X++[K]++a++b++c++d++e++f++g++i++j++m++p++q++r++t)[z]?)=dI n o K:=az Bs
def Io{y o v X K a b c d e f g i j m p q r t}:bC y (.ptr X.length o) v (λz=>(X++[K]++a++b++c++d++e++f++g++i++j++m++p++q++r++t)[z]?)=jq y o v X.length K:=bp Bs
def IN{pos s X a b c d e f g i j m p q r t}:fa (.ptr X.length 0) (λz=>(X++[.iter s pos]++a++b++c++d++e++f++g++i++j++m++p++q++r++t)[z]?)=dF X.length s pos:=dh Bs
def Fo{X:af}{K K' a b c d e f g i j m p q r t}:(X++[K]++a++b++c++d++e++f++g++i++j++m++p++q++r++t).set X.length K' =X++[K']++a++b++c++d++e++f++g++i++j++m++p++q++r++t:=by
 rw[dY,zA];simp
def Jd{o:Nat}{c:List AV}{mu tl:Bool}{x:AV}(hx:c[o]? =some x):dI none o (.cells c mu tl)=some (x,.ar):=by simp only[dI,hx]
def Jc{o n:Nat}{c:List AV}{mu tl:Bool}(hx:o+n<=c.length):dI (some n) o (.cells c mu tl)=some (.agg ((c.drop o).take n),.ar):=by simp only[dI];rw[Ut hx]
def rI{n o b:Nat}{c l:List AV}{tl:Bool}(h1:l.length=n)(h2:l.all AV.one=true)(h3:o+n<=c.length):jq n o (.agg l) b (.cells c true tl)=some (au,.set b (.cells (fq c o l) true tl)):=by
 show(if l.length=n/\l.all AV.one=true/\o+n<=c.length then _ else none)=_;rw[Ut ⟨h1,h2,h3⟩];rfl
def AV.kE{v:AV}(hv:v.one=true):v.cells=[v]:=by cases v<;>first|rfl|cases hv
def fC{o b:Nat}{c:List AV}{v:AV}{tl:Bool}(h2:v.one=true)(h3:o+1<=c.length):jq 1 o v b (.cells c true tl)=some (au,.set b (.cells (c.set o v) true tl)):=by
 simp only[jq,AV.kE h2];rw[Ut ⟨rfl,by simp[h2],h3⟩];rfl
def zG{c:List AV}{o:Nat}:fq c o []=c:=rfl
def nf{c:List AV}{o:Nat}{x:AV}{xs:List AV}:fq c o (x::xs)=fq (c.set o x) (o+1) xs:=rfl
def E3{z:List AV}:du 0 z=[]:=rfl
def za{n:Nat}{z:List AV}:du (n+1) z=z++du n z:=rfl
def AU{c:List AV}:dW c []=some c:=rfl
def AS{c:List AV}{off:Nat}{v:AV}{r:List (Nat×Nat×AV)}(h2:v.one=true)(h3:off+1<=c.length):dW c ((off,1,v)::r)=dW (c.set off v) r:=by
 simp only[dW,AV.kE h2];rw[Ut ⟨rfl,h3⟩];rfl
def AX{c l:List AV}{off n:Nat}{r:List (Nat×Nat×AV)}(h2:l.length=n)(h3:off+n<=c.length):dW c ((off,n,.agg l)::r)=dW (fq c off l) r:=by
 show(if l.length=n/\off+n<=c.length then dW (fq c off l) r else none)=_;rw[Ut ⟨h2,h3⟩]
def vX{es n N:Nat}{c:List AV}(h1:c.all AV.one=true)(h2:c.length=n*es)(h3:1<=n):vY es n (some c) N=some (.slice N 0 n es,.push (.cells c true true)):=by
 have:Nat.beq n 0=false:=by cases n with|zero=>omega|succ n=>rfl
 simp only[vY];rw[Ut ⟨h1,h2⟩,this];rfl
def JQ{es N:Nat}:vY es 0 (some []) N=some (.slice N 0 0 es,.push (.cells [] true false)):=by
 simp only[vY];rw[Ut ⟨rfl,Si⟩];rfl
def FZ{f:Nat×cK->Nat×Nat×AV}:List.map f []=[]:=rfl
def FY{f:Nat×cK->Nat×Nat×AV}{a:Nat×cK}{l:List (Nat×cK)}:List.map f (a::l)=f a::l.map f:=rfl
def FX{f:Nat×Nat×cK->Nat×Nat×AV}:List.map f []=[]:=rfl
def FW{f:Nat×Nat×cK->Nat×Nat×AV}{a:Nat×Nat×cK}{l:List (Nat×Nat×cK)}:List.map f (a::l)=f a::l.map f:=rfl
def CJ{l:List AV}:l.drop 0=l:=rfl
def CI{a:AV}{l:List AV}{n:Nat}:(a::l).drop (n+1)=l.drop n:=rfl
def CH{l:List AV}:l.take 0=[]:=Si
def CG{a:AV}{l:List AV}{n:Nat}:(a::l).take (n+1)=a::l.take n:=rfl
def Ge{a:AV}{l:List AV}:(a::l)[0]? =some a:=rfl
def Gd{a:AV}{l:List AV}{n:Nat}:(a::l)[n+1]? =l[n]? :=rfl
abbrev aE(x:Int):List AV:=[.int .i64 x]
def bN{X:af}(l:List Int):aB (X++[.cells (l.map (AV.int .i64)) true true]) (.slice X.length 0 l.length 1) 1 (l.map aE):=by
 have hf:(l.map aE).flatten=l.map (AV.int .i64):=by induction l with
  |nil=>rfl
  |cons x xs ih=>simp[aE]at ih ⊢;exact ih
 have h1:(l.map aE).length=l.length:=Si
 rw[<-h1];exact .mk (by simp;exact⟨rfl,rfl,rfl⟩) (by rw[hf,Wp,h1,VI];exact UO Si) Si (by simp[aE])
section
variable {h:af}{s:AV}{es:Nat}{cs:List (List AV)}
def aB.I4(hs:aB h s es cs){k:af}{i:Nat}(e:Ext h k)(hi:i<cs.length):aq (some es) (.ptr s.sb (s.so+i*es)) (λb=>k[b]?)=some (.agg cs[i],.ar):=(hs.ext e).load hi
def aB.F1(hs:aB h s es cs){k:af}{i off:Nat}(e:Ext h k)(hi:i<cs.length){x:AV}(hx:cs[i][off]? =some x):aq none (.ptr s.sb (s.so+i*es+off)) (λb=>k[b]?)=some (x,.ar):=(hs.ext e).AB hi hx
def aB.F2(hs:aB h s es cs){k:af}{i:Nat}(e:Ext h k)(hi:i<cs.length){x:AV}(hx:cs[i][0]? =some x):aq none (.ptr s.sb (s.so+i*es)) (λb=>k[b]?)=some (x,.ar):=(hs.ext e).AB (off:=0) hi hx
end
def aR:=A4 (Eb @LH @KX @Ll @zE @LG @KW @Lk @wG @LF @KV @Lj @Ep @LD @KU @Li @Eo @LC @KT @Lh @zy @LB @KS @Lg @En) (Eb @LA @KR @Lf @Em @Lz @KQ @Le @El @Ly @KP @Ld @Ek @Lx @KO @Lc @Ej @I9 @Is @IT @zD @I8 @Ir @IS @zC) (Eb @I7 @Iq @IQ @zB @I6 @Ip @IP @zA @I5 @Io @IN @Fo @sW @BC @Fy @Jd @Jc @rI @fC @zG @nf @E3 @za @AU) (Ec @AS @AX @vX @JQ @FZ @FY @FX @FW @CJ @CI @CH @CG @Ge @Gd)
def qi:
  (∀{h:af},Ext h (h)=True)/\
  (∀{h a:af},Ext h (h++a)=True)/\
  (∀{h a b:af},Ext h (h++a++b)=True)/\
  (∀{h a b c:af},Ext h (h++a++b++c)=True)/\
  (∀{h a b c d:af},Ext h (h++a++b++c++d)=True)/\
  (∀{h a b c d e:af},Ext h (h++a++b++c++d++e)=True)/\
  (∀{h a b c d e f:af},Ext h (h++a++b++c++d++e++f)=True)/\
  (∀{h a b c d e f g:af},Ext h (h++a++b++c++d++e++f++g)=True)/\
  (∀{h a b c d e f g i:af},Ext h (h++a++b++c++d++e++f++g++i)=True)/\
  (∀{h a b c d e f g i j:af},Ext h (h++a++b++c++d++e++f++g++i++j)=True):=
 ⟨@EW,@EU,@ET,@ES,@ER,@EP,@EO,@EN,@EM,@EL⟩
end Go.Abs
namespace Go.Abs
def NK:Option AV->Option (AV×gL)
 |some x=>some (x,.ar)
 |none=>none
def Ja{x}:NK (some x)=some (x,.ar):=rfl
def Jb{o c mu tl}:dI none o (.cells c mu tl)=NK c[o]? :=rfl
def eO(s:AV)(es i:Nat):AV:=.ptr s.sb (s.so+i*es)
def rk(s:AV)(es i off:Nat):AV:=.ptr s.sb (s.so+i*es+off)
def C3{s es i off}:rj off (eO s es i)=some (rk s es i off):=rfl
section
variable {α:Type}{row:α->List AV}{L:List α}{h k:af}{s:AV}{es:Nat}
def aB.aS(hs:aB h s es (L.map row))(G:Nat->Option ai):Go.Abs.iC .sl G s=some L.length:=by
 rw[hs.iC G,Uv]
def aB.fx(hs:aB h s es (L.map row)){i:Nat}{kk}(hi:i<L.length):bh es s (.int kk (i:Int))=some (eO s es i,.ar):=by
 rw[hs.bT Om (by rw[Uv];omega),Int.toNat_natCast];rfl
def aB.oB(hs:aB h s es (L.map row)){kk}(hi:0<L.length):bh es s (.int kk 0)=some (eO s es 0,.ar):=hs.fx hi
def aB.mY(hs:aB h s es (L.map row)){i}(hi:i<L.length)(e:Ext h k):aq (some es) (eO s es i) (λb=>k[b]?)=some (.agg (row L[i]),.ar):=by
 rw[eO,hs.I4 e (by rw[Uv];exact hi),Vz]
def aB.uR(hs:aB h s es (L.map row)){i off x}(hi:i<L.length)(hx:(row L[i])[off]? =some x)(e:Ext h k):aq none (rk s es i off) (λb=>k[b]?)=some (x,.ar):=
 hs.F1 e (by rw[Uv];exact hi) (by rw[Vz];exact hx)
def aB.kK(hs:aB h s es (L.map row)){i x}(hi:i<L.length)(hx:(row L[i])[0]? =some x)(e:Ext h k):aq none (eO s es i) (λb=>k[b]?)=some (x,.ar):=
 hs.F2 e (by rw[Uv];exact hi) (by rw[Vz];exact hx)
def aB.Iw(hs:aB h s es (L.map row)){lo hi l u}(hb:gx lo hi L.length=some (l,u)):∃s',y4 es s lo hi=some (s',.ar)/\aB h s' es (((L.drop l).take (u-l)).map row):=by
 obtain⟨s',h1,h2⟩:=hs.sl (lo:=lo) (hi:=hi) (by rw[Uv];exact hb);exact⟨s',h1,by rw[List.map_take,List.map_drop];exact h2⟩
end
def kH{n k:Nat}{kk}(hk:k<=n):gx none (some (.int kk (k:Int))) n=some (0,k):=by
 simp only[gx,EB,CW];rw[Ut Om];simp
def mE{n k:Nat}{kk}(hk:k<=n):gx (some (.int kk (k:Int))) none n=some (k,n):=by
 simp only[gx,EB,CW];rw[Ut Om];simp
def pK{c r k}:yu (.str (c::r)) (.int k 0)=some (.int .u8 c.toNat):=rfl
def cA{s i k}(hi:i<s.length):yu (.str s) (.int k (i:Nat))=some (.int .u8 s[i].toNat):=by
 simp[yu,hi]
def wrapN{n:Nat}(h:n+1<2^63):IntKind.i64.wrap ((n:Int)+1)=((n+1:Nat):Int):=by rw[aH Om Om];rfl
def lv:Option (AV×gL)->Option AV
 |some (v,_)=>some v
 |none=>none
def Lu{v e}:lv (some (v,e))=some v:=rfl
def eU{ts h a n}:ez ts h (a,some n)=lv (aq n (slot ts a) (λb=>h[b]?)):=by
 simp only[ez,cV,val,slot];cases ts.getD a au with
 |ptr b o=>
  simp only[aq];cases h[b]? with
  |none=>rfl
  |some k=>
   cases k with
   |cells c mu tl=>
    cases n with
    |none=>simp only;cases c[o]? <;>rfl
    |some n=>simp only;by_cases hc:o+n<=c.length
             ·rw[Ut hc,Ut hc];rfl
             ·rw[Ur hc,Ur hc];rfl
   |_=>rfl
 |_=>rfl
def zq:Option AV->Option AV->Option AV
 |some a,some b=>some (.dt [a,b])
 |_,_=>none
def rG:Option AV->Option AV->Option AV->Option AV
 |some a,some b,some c=>some (.dt [a,b,c])
 |_,_,_=>none
def Fi{a b}:zq (some a) (some b)=some (.dt [a,b]):=rfl
def Fh{a b c}:rG (some a) (some b) (some c)=some (.dt [a,b,c]):=rfl
def yb{ts h r}:cL [r] ts h=ez ts h r:=by
 simp only[cL,iG];cases ez ts h r<;>rfl
def ng{ts h r s}:cL [r,s] ts h=zq (ez ts h r) (ez ts h s):=by
 simp only[cL,iG];cases ez ts h r<;>cases ez ts h s<;>rfl
def gb{ts h r s t}:cL [r,s,t] ts h=rG (ez ts h r) (ez ts h s) (ez ts h t):=by
 simp only[cL,iG];cases ez ts h r<;>cases ez ts h s<;>cases ez ts h t<;>rfl
def eT{ts h a}:ez ts h (a,none)=some (slot ts a):=rfl
def Aa:∀{ts}{h}{x}{nx},cL [(x,some nx)] ts h=lv (aq nx (slot ts x) (λb=>h[b]?)):=by
 intros;rw[yb];simp only[eU,eT]
def yc:∀{ts}{h}{x y}{ny},cL [(x,none),(y,some ny)] ts h=zq (some (slot ts x)) (lv (aq ny (slot ts y) (λb=>h[b]?))):=by
 intros;rw[ng];simp only[eU,eT]
def yd:∀{ts}{h}{x y}{nx},cL [(x,some nx),(y,none)] ts h=zq (lv (aq nx (slot ts x) (λb=>h[b]?))) (some (slot ts y)):=by
 intros;rw[ng];simp only[eU,eT]
def ye:∀{ts}{h}{x y}{nx ny},cL [(x,some nx),(y,some ny)] ts h=zq (lv (aq nx (slot ts x) (λb=>h[b]?))) (lv (aq ny (slot ts y) (λb=>h[b]?))):=by
 intros;rw[ng];simp only[eU,eT]
def vp:∀{ts}{h}{x y z}{nz},cL [(x,none),(y,none),(z,some nz)] ts h=rG (some (slot ts x)) (some (slot ts y)) (lv (aq nz (slot ts z) (λb=>h[b]?))):=by
 intros;rw[gb];simp only[eU,eT]
def vq:∀{ts}{h}{x y z}{ny},cL [(x,none),(y,some ny),(z,none)] ts h=rG (some (slot ts x)) (lv (aq ny (slot ts y) (λb=>h[b]?))) (some (slot ts z)):=by
 intros;rw[gb];simp only[eU,eT]
def vt:∀{ts}{h}{x y z}{ny nz},cL [(x,none),(y,some ny),(z,some nz)] ts h=rG (some (slot ts x)) (lv (aq ny (slot ts y) (λb=>h[b]?))) (lv (aq nz (slot ts z) (λb=>h[b]?))):=by
 intros;rw[gb];simp only[eU,eT]
def vu:∀{ts}{h}{x y z}{nx},cL [(x,some nx),(y,none),(z,none)] ts h=rG (lv (aq nx (slot ts x) (λb=>h[b]?))) (some (slot ts y)) (some (slot ts z)):=by
 intros;rw[gb];simp only[eU,eT]
def vv:∀{ts}{h}{x y z}{nx nz},cL [(x,some nx),(y,none),(z,some nz)] ts h=rG (lv (aq nx (slot ts x) (λb=>h[b]?))) (some (slot ts y)) (lv (aq nz (slot ts z) (λb=>h[b]?))):=by
 intros;rw[gb];simp only[eU,eT]
def vw:∀{ts}{h}{x y z}{nx ny},cL [(x,some nx),(y,some ny),(z,none)] ts h=rG (lv (aq nx (slot ts x) (λb=>h[b]?))) (lv (aq ny (slot ts y) (λb=>h[b]?))) (some (slot ts z)):=by
 intros;rw[gb];simp only[eU,eT]
def vz:∀{ts}{h}{x y z}{nx ny nz},cL [(x,some nx),(y,some ny),(z,some nz)] ts h=rG (lv (aq nx (slot ts x) (λb=>h[b]?))) (lv (aq ny (slot ts y) (λb=>h[b]?))) (lv (aq nz (slot ts z) (λb=>h[b]?))):=by
 intros;rw[gb];simp only[eU,eT]
def Gu{b}:sa false (some b)=some (.bool b):=rfl
def Gt{b}:sa true (some b)=some (.bool !b):=rfl
def yO(b:Bool)(o:Option Bool):Option Bool:=
 match b with
 |true=>o
 |false=>some false
def G1{b c}:yO b (some c)=some (b&&c):=by cases b<;>rfl
def JL{k a b ks xs ys}:c8 (.i::ks) (.int k a::xs) (.int k b::ys)=yO (decide (a=b)) (c8 ks xs ys):=by
 exact M4
def JJ{a b ks xs ys}:c8 (.s::ks) (.str a::xs) (.str b::ys)=yO (decide (a=b)) (c8 ks xs ys):=by
 exact M4
def JM{a b ks xs ys}:c8 (.b::ks) (.bool a::xs) (.bool b::ys)=yO (a==b) (c8 ks xs ys):=by
 cases a<;>cases b<;>rfl
def JK:c8 [] [] []=some true:=rfl
def N3{ks xs ys}(h1:xs.length=ks.length)(h2:ys.length=ks.length):nw (.agg ks) (.agg xs) (.agg ys)=c8 ks xs ys:=by
 simp only[nw,xA];rw[Ut ⟨h1,h2⟩]
def JN{a b}:nw (.one .b) (.bool a) (.bool b)=some (a==b):=rfl
def Dc{a:CK}{l:List CK}:(a::l).length=l.length+1:=rfl
def Dd:([] :List CK).length=0:=rfl
def Fr.lt{N h s es cs}(hs:Fr N h s es cs){b o n e}(hb:s=.slice b o n e):N<=b/\b<h.length:=by
 cases hs with
 |nil=>cases hb
 |mk hN h1 he=>cases hb;exact⟨hN,(Ue.1 h1).1⟩
def Fr.swap{A B g s es cs}(hs:Fr A.length (A++g) s es cs)(hl:B.length=A.length):Fr A.length (B++g) s es cs:=by
 cases hs with
 |nil=>exact .nil
 | @mk _ _ _ tl hN h1 Pd=>
  refine .mk (tl:=tl) hN ?_ Pd;rw[Un Om]at h1 ⊢;rw[hl];exact h1
def WR.gj{P ro ks ts Q h s y es cs ys h0 w d l}
  (hs:Fr h0.length h s es cs) (hy:aB h y es ys) (hes:0<es) (hne:0<ys.length) (dO:(cs.length+ys.length)*w<=2^46) (he:Ext h0 h)
  (K:∀g,(h0++g).length=h.length+1->Fr h0.length (h0++g) (.slice h.length 0 (cs++ys).length es) es (cs++ys)->(∀b,b<h.length->(∀b0 o n e,s=.slice b0 o n e->b≠b0)->(h0++g)[b]? =h[b]?)->WP P ro l ks (put ts d (.slice h.length 0 (cs++ys).length es)) (h0++g) Q):
  WR P ro (nE es w s y (λb=>h[b]?) h.length) false d l ks ts h Q:=by
 have PT:∀x∈cs++ys,x.length=es:=λx hx=>by
  exact HY
 have hk:¬ys.length=0:=Om
 simp only[nE,hy.eE];cases hs with
 |nil=>
  simp only[Ul,UX]at dO;simp only[Ur hk,Ut dO];rw[kI];have hx:=Fr.push (N:=h0.length) he.len ys hy.rows;obtain⟨g,rfl⟩:=he;have hK:=K (g++[.cells ys.flatten true true]) (by simp;omega);simp only[<-Uf,VD]at hK;exact hK hx λb hb _=>Ug hb
 | @mk b _ _ tl hN hb hre=>
  have hcl:=dV hre;cases tl with
  |false=>
   simp only[UD,Ur hk,Ut dO,hb,UX];rw[Ut Om,kI,VI];have hx:=Fr.push (h:=h) (N:=h0.length) (es:=es) he.len (cs++ys) PT;simp only[Ud,VG]at hx ⊢;obtain⟨g,rfl⟩:=he;have hK:=K (g++[.cells (cs.flatten++ys.flatten) true true]) (by simp;omega);simp only[<-Uf,Ud,VG]at hK hx ⊢;exact hK hx λb hb _=>Ug (by simpa using hb)
  |true=>
  simp only[UD,Ur hk,Ut dO,hb,UX];rw[Ut Om,lE];have hbl:b<h.length:=(Ue.1 hb).1;have hx:=Fr.push (h:=h.set b .dead) (N:=h0.length) (es:=es) (by simpa using he.len) (cs++ys) PT;have hc:List.take (cs.length*es) (List.drop 0 cs.flatten)=cs.flatten:=by rw[VI,<-hcl,UU]
  rw[hc];obtain⟨g,rfl⟩:=he;have aR:(h0++g).set b .dead++[ai.cells (cs.flatten++ys.flatten) true true]=h0++(g.set (b-h0.length) .dead++[ai.cells (cs.flatten++ys.flatten) true true]):=by
   rw[U0 _ _ hN,Uf]
  have hK:=K (g.set (b-h0.length) .dead++[.cells (cs.flatten++ys.flatten) true true]) (by simp;omega);rw[<-aR]at hK;simp only[VA,VG,Ud]at hx hK ⊢;refine hK hx ?_;intro i hi hne;have:=hne b 0 _ _ rfl;rw[Ug (by simpa using hi),U1 (Wy this)]
def An{k n}:AV.one (.int k n)=true:=rfl
def IL{b}:AV.one (.bool b)=true:=rfl
def Eu{b}:AV.one (.str b)=true:=rfl
def IH{b o}:AV.one (.ptr b o)=true:=rfl
def IJ{b o n e}:AV.one (.slice b o n e)=true:=rfl
def II:AV.one .ah=true:=rfl
def IK{f a c}:AV.one (.func f a c)=true:=rfl
def Bw{a l}:(a::l).all AV.one=(a.one&&l.all AV.one):=rfl
def Bv:([] :List AV).all AV.one=true:=rfl
def bo.o(n:Nat)(k:mU):bo:=⟨some n,k,none,false⟩
def bo.x(k:mU):bo:=⟨none,k,none,false⟩
def bo.m(n i:Nat):bo:=⟨some n,.dq (.t i),none,false⟩
def bo.y(n:Nat)(k:mU):bo:=⟨some n,k,none,true⟩
def bo.l(n i:Nat):bo:=⟨some n,.load none (.t i),none,false⟩
def bo.a(n o i:Nat):bo:=⟨some n,.bP o (.t i),none,false⟩
def bo.c(n f:Nat)(l:List cK):bo:=⟨some n,.call (.f f) l,none,false⟩
def bo.b(n:Nat)(k:BinOp)(x y:cK):bo:=⟨some n,.bin k x y,none,false⟩
def bo.e(n i j:Nat):bo:=⟨some n,.ext (.t i) j,none,false⟩
def bo.s(w i j:Nat):bo:=⟨none,.store w (.t i) (.t j),none,false⟩
def bo.r(n w i:Nat):bo:=⟨some n,.load (some w) (.t i),none,false⟩
def bo.p(n i:Nat):bo:=⟨some n,.box (.t i),none,false⟩
def bo.u(n:Nat)(k:BinOp)(i j:Nat):bo:=⟨some n,.bin k (.t i) (.t j),none,false⟩
def bo.h(n w i j:Nat):bo:=⟨some n,.bT w (.t i) (.t j),none,false⟩
def bo.d(n i j:Nat):bo:=⟨some n,.pick (.t i) (.t j) (.c (.bool false)),none,false⟩
def bo.f(n i j:Nat):bo:=⟨some n,.pick (.t i) (.c (.bool true)) (.t j),none,false⟩
def bo.n(n i:Nat):bo:=⟨some n,.len .sl (.t i),none,false⟩
def cK.n(k:Int):cK:=.c (.int .i64 k)
def an.s(l:List bo)(b:an):an:=.seq (.ops l) b
def an.r(l:List bo):an:=.seq (.ops l) .ret
def bo.j(n i:Nat):bo:=⟨some n,.load none (.t i),none,true⟩
def bo.w(n i:Nat):bo:=⟨some n,.dq (.t i),none,true⟩
def bo.t(n c:Nat)(b:Bool)(i:Nat):bo:=⟨some n,.dq (.t i),some (c,b),false⟩
def bo.v(n:Nat)(k:BinOp)(i:Nat)(y:cK):bo:=⟨some n,.bin k (.t i) y,none,false⟩
def cK.T:cK:=.c (.bool true)
def cK.F:cK:=.c (.bool false)
def an.j(n:Nat)(l:List bo):an:=.cond (.t n) (.seq (.ops l) .ret) .skip
def an.i(n:Nat)(a b:an):an:=.cond (.t n) a b
def bo.g(n c:Nat)(b:Bool)(k:mU):bo:=⟨some n,k,some (c,b),false⟩
def cK.z:cK:=.c (.int .i64 0)
def cK.w:cK:=.c (.int .i64 1)
def Mw:∀{n i},bo.m n i=⟨some n,.dq (.t i),none,false⟩:=rfl
def Mv:∀{n c}{b}{k},bo.g n c b k=⟨some n,k,some (c,b),false⟩:=rfl
def Mu:∀{n}{k},bo.o n k=⟨some n,k,none,false⟩:=rfl
def Mt:∀{k},bo.x k=⟨none,k,none,false⟩:=rfl
def Ms:(cK.z=.c (.int .i64 0)):=rfl
def Mr:(cK.w=.c (.int .i64 1)):=rfl
def Mj:∀{n}{k},bo.y n k=⟨some n,k,none,true⟩:=rfl
def Ml:∀{n i},bo.l n i=⟨some n,.load none (.t i),none,false⟩:=rfl
def Mq:∀{n o i},bo.a n o i=⟨some n,.bP o (.t i),none,false⟩:=rfl
def Mo:∀{n f}{l},bo.c n f l=⟨some n,.call (.f f) l,none,false⟩:=rfl
def Mp:∀{n}{k}{x y},bo.b n k x y=⟨some n,.bin k x y,none,false⟩:=rfl
def Mn:∀{n i j},bo.e n i j=⟨some n,.ext (.t i) j,none,false⟩:=rfl
def Mh:∀{w i j},bo.s w i j=⟨none,.store w (.t i) (.t j),none,false⟩:=rfl
def Mi:∀{n w i},bo.r n w i=⟨some n,.load (some w) (.t i),none,false⟩:=rfl
def Mk:∀{n i},bo.p n i=⟨some n,.box (.t i),none,false⟩:=rfl
def Mg:∀{n}{k}{i j},bo.u n k i j=⟨some n,.bin k (.t i) (.t j),none,false⟩:=rfl
def Mm:∀{n}{a b},an.i n a b=.cond (.t n) a b:=rfl
def GC:∀{n w i j:Nat},bo.h n w i j=⟨some n,.bT w (.t i) (.t j),none,false⟩:=rfl
def GF:∀{n i j:Nat},bo.d n i j=⟨some n,.pick (.t i) (.t j) (.c (.bool false)),none,false⟩:=rfl
def GD:∀{n i j:Nat},bo.f n i j=⟨some n,.pick (.t i) (.c (.bool true)) (.t j),none,false⟩:=rfl
def GB:∀{n i:Nat},bo.n n i=⟨some n,.len .sl (.t i),none,false⟩:=rfl
def GA:∀{k:Int},cK.n k=.c (.int .i64 k):=rfl
def GG:∀{l:List bo}{b:an},an.s l b=.seq (.ops l) b:=rfl
def GH:∀{l:List bo},an.r l=.seq (.ops l) .ret:=rfl
def GI:∀{n:Nat}{l:List bo},an.j n l=.cond (.t n) (.seq (.ops l) .ret) .skip:=rfl
def Gz:∀{n i:Nat},bo.j n i=⟨some n,.load none (.t i),none,true⟩:=rfl
def Gw:∀{n i:Nat},bo.w n i=⟨some n,.dq (.t i),none,true⟩:=rfl
def Gy:∀{n c:Nat}{b:Bool}{i:Nat},bo.t n c b i=⟨some n,.dq (.t i),some (c,b),false⟩:=rfl
def Gx:∀{n:Nat}{k:BinOp}{i:Nat}{y:cK},bo.v n k i y=⟨some n,.bin k (.t i) y,none,false⟩:=rfl
def Me:cK.T=.c (.bool true):=rfl
def Mf:cK.F=.c (.bool false):=rfl
def uset:=A8 @Me @Mf @Gz @Gw @Gy @Gx @GI (Eb @GC @GF @GD @GB @GA @GG @GH @Mj @Ml @Mq @Mo @Mp @Mn @Mh @Mi @Mk @Mg @Mm @Mw @Mv @Mu @Mt @Ms @Mr)
def bd:=A3 uset (Kv @UX @Ja @Jb @Lu @Fi @Fh @Aa @yc @yd @ye @vp @vq @vt @vu @vv @vw @vz @Gu) (Oe @Gt @G1 @JL @JJ @JM @JK @N3 @JN @Dc @Dd @C3 @An @IL @Eu @IH @IJ @II @IK @Bw @Bv @VS @Di)
def Jr(o:Option AV)(X:Prop):Prop:=
 match o with
 |some _=>X
 |none=>False
def bf:
  (∀{P}{ro}{ks}{ts}{h}{Q}{q}{l}{n i}{x},WP P ro ({dst:=some i,k:=.mD n x,gd:=none,q:=q} ::l) ks ts h Q=Jr ts[i]? (WR P ro (mC n (val ts x) h.length) q (some i) l ks ts h Q))/\
  (∀{a:AV}{X:Prop},Jr (some a) X=X)/\
  (∀{k:IntKind}{z:Int}{N:Nat},mC 1 (.int k z) N=some (.ptr N 0,.push (.cells [.int k z] true false)))/\
  (∀{b:Bool}{N:Nat},mC 1 (.bool b) N=some (.ptr N 0,.push (.cells [.bool b] true false)))/\
  (∀{b:By}{N:Nat},mC 1 (.str b) N=some (.ptr N 0,.push (.cells [.str b] true false)))/\
  (∀{N:Nat},nD .ah N=some (.ptr N 0,.push (.cells [.ah] true false)))/\
  (∀{v:AV}{N:Nat}(_:v.one=true),nD v N=some (.ptr N 0,.push (.cells [v] true false)))/\
  (∀{v:AV}{N:Nat}(_:v.one=true),mC 1 v N=some (.ptr N 0,.push (.cells [v] true false)))/\
  (∀{l:List AV}{n N:Nat}(_:l.all AV.one=true) (_:l.length=n),mC n (.agg l) N=some (.ptr N 0,.push (.cells l true false))):=by
 refine⟨?_,rfl,rfl,rfl,rfl,rfl,?_,?_,?_⟩
 ·intro P ro ks ts h Q q l n i x;rw[DY];by_cases hi:i<ts.length
  ·rw[Uj hi];simp[Jr,hi]
  ·rw[Wc Om];simp[Jr,hi]
 ·intro v N h;simp only[nD,AV.kE h];rw[Ut (by simp[h])]
 ·intro v N h;simp only[mC,AV.kE h];rw[Ut ⟨by simp[h],rfl⟩]
 ·intro l n N h1 h2;unfold mC;exact Ut ⟨h1,h2⟩
set_option maxRecDepth 100000
set_option maxHeartbeats 0
def iN(n:Nat):Int.ofNat (no_index (OfNat.ofNat n))=OfNat.ofNat n:=rfl
def iM:Int.negSucc 0= -1:=rfl
def iB(n:Nat)(h:OfNat.ofNat n<2^8):UInt8.ofBitVec (BitVec.ofFin (Fin.mk (no_index (OfNat.ofNat n)) h))=OfNat.ofNat n:=by
 refine V9.1 ?_;show n=n%256;have:n<2^8:=h;omega
def gA(n:Nat){A:aj}(_:bz Go.Proofs.Tryz.prog n=some A:=by conv=>lhs;reduce;try simp only[iN,iM,iB]):aj:=A
def fn2:aj:=gA 2
def fn3:aj:=gA 3
def fn4:aj:=gA 4
def fn6:aj:=gA 6
def fn14:aj:=gA 14
def fn15:aj:=gA 15
def fn16:aj:=gA 16
def fn17:aj:=gA 17
def fn19:aj:=gA 19
def fn20:aj:=gA 20
def fn21:aj:=gA 21
def fn25:aj:=gA 25
def fn26:aj:=gA 26
def fn27:aj:=gA 27
def fn32:aj:=⟨82,2,[(4,none)],(.s [.o 4 (.dq .F)] (.seq (.s [.m 6 0,.n 7 6,.m 8 1,.n 9 8,.u 10 .neq 7 9] (.j 10 [.o 4 (.dq .F)])) (.seq (.s [.o 5 (.dq .z)] (.block 0 (.loop (.seq (.s [.m 11 5,.m 12 0,.n 13 12,.u 14 .lss 11 13] (.i 14 .skip (.exit 0))) (.seq (.block 1 (.s [.w 17 0,.w 18 5,.y 19 (.bT 5 (.t 17) (.t 18)),.y 20 (.bP 0 (.t 19)),.j 21 20,.w 22 1,.w 23 5,.y 24 (.bT 5 (.t 22) (.t 23)),.y 25 (.bP 0 (.t 24)),.j 26 25,.u 27 .neq 21 26,.m 28 27,⟨(some 29),.dq (.t 0),(some (28,false)),true⟩,⟨(some 30),.dq (.t 5),(some (28,false)),true⟩,⟨(some 31),.bT 5 (.t 29) (.t 30),(some (28,false)),true⟩,⟨(some 32),.bP 1 (.t 31),(some (28,false)),true⟩,⟨(some 33),.load none (.t 32),(some (28,false)),true⟩,⟨(some 34),.dq (.t 1),(some (28,false)),true⟩,⟨(some 35),.dq (.t 5),(some (28,false)),true⟩,⟨(some 36),.bT 5 (.t 34) (.t 35),(some (28,false)),true⟩,⟨(some 37),.bP 1 (.t 36),(some (28,false)),true⟩,⟨(some 38),.load none (.t 37),(some (28,false)),true⟩,.g 39 28 false (.bin .neq (.t 33) (.t 38)),.f 40 28 39,.m 41 40,⟨(some 42),.dq (.t 0),(some (41,false)),true⟩,⟨(some 43),.dq (.t 5),(some (41,false)),true⟩,⟨(some 44),.bT 5 (.t 42) (.t 43),(some (41,false)),true⟩,⟨(some 45),.bP 2 (.t 44),(some (41,false)),true⟩,⟨(some 46),.load none (.t 45),(some (41,false)),true⟩,⟨(some 47),.dq (.t 1),(some (41,false)),true⟩,⟨(some 48),.dq (.t 5),(some (41,false)),true⟩,⟨(some 49),.bT 5 (.t 47) (.t 48),(some (41,false)),true⟩,⟨(some 50),.bP 2 (.t 49),(some (41,false)),true⟩,⟨(some 51),.load none (.t 50),(some (41,false)),true⟩,.g 52 41 false (.call (.f 25) [.t 46,.t 51]),.g 53 41 false (.un .not (.t 52)),.f 54 41 53,.m 55 54,⟨(some 56),.dq (.t 0),(some (55,false)),true⟩,⟨(some 57),.dq (.t 5),(some (55,false)),true⟩,⟨(some 58),.bT 5 (.t 56) (.t 57),(some (55,false)),true⟩,⟨(some 59),.bP 3 (.t 58),(some (55,false)),true⟩,⟨(some 60),.load none (.t 59),(some (55,false)),true⟩,⟨(some 61),.dq (.t 1),(some (55,false)),true⟩,⟨(some 62),.dq (.t 5),(some (55,false)),true⟩,⟨(some 63),.bT 5 (.t 61) (.t 62),(some (55,false)),true⟩,⟨(some 64),.bP 3 (.t 63),(some (55,false)),true⟩,⟨(some 65),.load none (.t 64),(some (55,false)),true⟩,.g 66 55 false (.call (.f 62) [.t 60,.t 65]),.g 67 55 false (.un .not (.t 66)),.f 68 55 67,.m 69 68,⟨(some 70),.dq (.t 0),(some (69,false)),true⟩,⟨(some 71),.dq (.t 5),(some (69,false)),true⟩,⟨(some 72),.bT 5 (.t 70) (.t 71),(some (69,false)),true⟩,⟨(some 73),.bP 4 (.t 72),(some (69,false)),true⟩,⟨(some 74),.load none (.t 73),(some (69,false)),true⟩,⟨(some 75),.dq (.t 1),(some (69,false)),true⟩,⟨(some 76),.dq (.t 5),(some (69,false)),true⟩,⟨(some 77),.bT 5 (.t 75) (.t 76),(some (69,false)),true⟩,⟨(some 78),.bP 4 (.t 77),(some (69,false)),true⟩,⟨(some 79),.load none (.t 78),(some (69,false)),true⟩,.g 80 69 false (.bin .neq (.t 74) (.t 79)),.f 81 69 80] (.j 81 [.o 4 (.dq .F)]))) (.ops [.m 15 5,.v 16 .add 15 .w,.m 5 16])))))) (.r [.o 4 (.dq .T)]))))⟩
def fn36:aj:=gA 36
def fn37:aj:=gA 37
def fn38:aj:=gA 38
def fn39:aj:=gA 39
def fn40:aj:=⟨28,1,[(2,none)],(.s [.o 2 (.dq (.c (.str [])))] (.s [.o 3 (.dq (.c (.str [])))] (.seq (.s [.o 4 (.dq .z)] (.block 0 (.loop (.seq (.s [.m 5 4,.m 6 0,.n 7 6,.u 8 .lss 5 7] (.i 8 .skip (.exit 0))) (.seq (.block 1 (.ops [.w 11 3,.w 12 0,.w 13 4,.y 14 (.bT 5 (.t 12) (.t 13)),.y 15 (.load (some 5) (.t 14)),.y 16 (.call (.f 103) [.t 15]),.y 17 (.bin .add (.t 11) (.t 16)),.y 18 (.bin .add (.t 17) (.c (.str [35]))),.w 19 0,.w 20 4,.y 21 (.bT 5 (.t 19) (.t 20)),.y 22 (.load (some 5) (.t 21)),.y 23 (.call (.f 103) [.t 22]),.y 24 (.call (.f 72) [.t 23]),.u 25 .add 18 24,.v 26 .add 25 (.c (.str [10])),.m 3 26])) (.ops [.m 9 4,.v 10 .add 9 .w,.m 4 10])))))) (.r [.m 27 3,.m 2 27]))))⟩
def fn43:aj:=⟨97,2,[(4,none),(5,none)],(.s [.o 4 (.dq (.c (.str []))),.o 5 (.dq .z)] (.seq (.s [.m 16 0,.o 17 (.eqv false .Cl (.t 16) (.c .nilPtr))] (.j 17 [.o 4 (.dq (.c (.str []))),.o 5 (.dq (.n 22))])) (.seq (.s [.m 18 1,.o 19 (.len .st (.t 18)),.v 20 .gtr 19 (.n 4096),.c 21 85 [.t 20,.n 26],.m 22 1,.v 23 .eql 22 (.c (.str [])),.c 24 85 [.t 23,.n 25],.o 25 (.aY 1 2 [.int .i64 0] [(0,.t 21),(1,.t 24)]),.c 26 74 [.t 25],.m 6 26] (.s [.m 27 6,.v 28 .neq 27 .z] (.j 28 [.m 29 6,.o 4 (.dq (.c (.str []))),.m 5 29]))) (.s [.m 30 1,.o 31 (.call (.f 64) [.t 30,(.c (.str [32]))]),.m 7 31] (.seq (.s [.y 33 (.call (.f 109) []),.w 34 7,.y 35 (.bT 1 (.t 34) .z),.j 36 35,.y 37 (.look .s (.agg [.bool false,.int .i64 0,.nilFunc]) true (.t 33) (.t 36)),.w 32 37,.y 38 (.ext (.t 32) 0),.y 39 (.ext (.t 32) 1),⟨none,.dq .F,none,true⟩,.y 8 (.mD 3 (.t 38)),.m 9 39] (.s [.m 40 9] (.j 40 [.m 41 0,.m 42 7,.c 43 110 [.t 41,.t 42],.e 44 43 0,.e 45 43 1,.m 4 44,.m 5 45]))) (.seq (.s [.y 47 (.call (.f 90) []),.w 48 7,.y 49 (.bT 1 (.t 48) .z),.j 50 49,.y 51 (.look .s (.agg [.ah,.int .i64 0,.nilFunc,.nilFunc,.nilFunc]) true (.t 47) (.t 50)),.w 46 51,.y 52 (.ext (.t 46) 0),.y 53 (.ext (.t 46) 1),⟨none,.dq .F,none,true⟩,.y 10 (.mD 5 (.t 52)),.m 11 53] (.s [.m 54 11,.o 55 (.un .not (.t 54))] (.j 55 [.o 4 (.dq (.c (.str []))),.o 5 (.dq (.n 13))]))) (.s [.m 57 7,.c 58 111 [.t 57],.m 56 58,.e 59 56 0,.e 60 56 1,.o 12 (.box (.c (.agg [.int .i64 0,.str [],.ah,.ah,.str []]))),.s 5 12 59,.m 13 60] (.seq (.s [.w 61 13,.y 62 (.un .not (.t 61)),.y 63 (.call (.f 85) [.t 62,.n 25]),.w 64 0,.y 65 (.bu (.t 64)),.y 66 (.bP 0 (.t 65)),.y 67 (.bP 0 (.t 66)),.j 68 67,.y 69 (.len .sl (.t 68)),.y 70 (.bin .geq (.t 69) (.n 1000)),.c 71 85 [.t 70,.n 5],.o 72 (.aY 1 2 [.int .i64 0] [(0,.t 63),(1,.t 71)]),.c 73 74 [.t 72],.m 14 73] (.s [.m 74 14,.v 75 .neq 74 .z] (.j 75 [.m 76 14,.o 4 (.dq (.c (.str []))),.m 5 76]))) (.s [.m 77 0,.o 78 (.bu (.t 77)),.a 79 0 78,.a 80 0 79,.l 81 80,.n 82 81,.v 83 .add 82 .w,.a 84 0 12,.s 1 84 83] (.seq (.s [.w 85 0,.y 86 (.bu (.t 85)),.y 87 (.bP 0 (.t 86)),.y 88 (.load (some 5) (.t 12)),.c 89 112 [.t 87,.t 88],.m 15 89] (.s [.m 90 15,.v 91 .neq 90 .z] (.j 91 [.m 92 15,.o 4 (.dq (.c (.str []))),.m 5 92]))) (.r [.a 93 0 12,.l 94 93,.c 95 113 [.t 94],.b 96 .add (.c (.str [100,111,110,101,32])) (.t 95),.m 4 96,.o 5 (.dq .z)])))))))))))⟩
def fn44:aj:=gA 44
def fn45:aj:=gA 45
def fn51:aj:=gA 51
def fn62:aj:=gA 62
def fn64:aj:=gA 64
def fn67:aj:=gA 67
def fn70:aj:=gA 70
def fn71:aj:=gA 71
def fn72:aj:=gA 72
def fn73:aj:=gA 73
def fn74:aj:=gA 74
def fn75:aj:=gA 75
def fn76:aj:=gA 76
def fn77:aj:=gA 77
def fn78:aj:=gA 78
def fn79:aj:=gA 79
def fn80:aj:=gA 80
def fn82:aj:=gA 82
def fn83:aj:=gA 83
def fn85:aj:=gA 85
def fn86:aj:=⟨47,3,[(6,none)],(.s [.p 3 0,.o 6 (.dq .F)] (.s [.o 7 (.dq .z)] (.seq (.s [.m 8 1] (.block 0 (.s [.v 10 .eql 8 .z,.m 9 10] (.i 9 (.ops [.a 11 1 3,.l 12 11,.m 13 2,.c 14 142 [.t 12,.t 13],.m 7 14]) (.s [.v 16 .eql 8 .w,.m 15 16] (.i 15 (.ops [.a 17 2 3,.l 18 17,.m 19 2,.c 20 143 [.t 18,.t 19],.m 7 20]) (.s [.v 22 .eql 8 (.n 2),.m 21 22] (.i 21 (.ops [.a 23 3 3,.l 24 23,.m 25 2,.c 26 136 [.t 24,.t 25],.m 7 26]) (.s [.v 28 .eql 8 (.n 3),.m 27 28] (.i 27 (.ops [.a 29 4 3,.l 30 29,.m 31 2,.c 32 144 [.t 30,.t 31],.m 7 32]) (.s [.v 34 .eql 8 (.n 4),.m 33 34] (.i 33 (.ops [.a 35 5 3,.l 36 35,.m 37 2,.c 38 145 [.t 36,.t 37],.m 7 38]) (.s [.v 40 .eql 8 (.n 5),.m 39 40] (.i 39 (.ops [.a 41 6 3,.l 42 41,.m 43 2,.c 44 146 [.t 42,.t 43],.m 7 44]) .skip)))))))))))))) (.r [.m 45 7,.v 46 .geq 45 .z,.m 6 46]))))⟩
def fn87:aj:=⟨22,2,[(4,none)],(.s [.o 4 (.dq (.c .ah))] (.s [.o 5 (.dq (.c .ah))] (.seq (.s [.m 8 0,.n 9 8,.o 10 (.dq .z)] (.block 0 (.loop (.s [.u 11 .lss 10 9] (.seq (.i 11 .skip (.exit 0)) (.seq (.block 1 (.s [.h 12 5 8 10,.r 13 5 12,.o 7 (.box (.c (.agg [.int .i64 0,.str [],.ah,.ah,.str []]))),.s 5 7 13] (.ops [.m 14 5,.m 15 1,.r 16 5 7,.o 17 (.call (.t 15) [.t 16]),.o 18 (.aY 5 1 [.int .i64 0,.str [],.ah,.ah,.str []] [(0,.t 17)]),.o 19 (.app 5 88 (.t 14) (.t 18)),.m 5 19]))) (.ops [.v 20 .add 10 .w,.m 10 20]))))))) (.r [.m 21 5,.m 4 21]))))⟩
def fn88:aj:=gA 88
def fn89:aj:=gA 89
def fn90:aj:=⟨56,0,[(0,none)],(.s [.o 0 (.dq (.c .cQ))] (.r [.o 1 (.mg),.o 2 (.build [.ah,.int .i64 0,.nilFunc,.nilFunc,.nilFunc] []),.x (.fu .s (.t 1) (.c (.str [117,110,100,111])) (.t 2)),.c 3 147 [.z],.o 4 (.aY 2 1 [.int .i64 0,.bool false] [(0,.t 3)]),.c 5 150 [.z],.o 6 (.build [.ah,.int .i64 0,.nilFunc,.nilFunc,.nilFunc] [(0,1,.t 4),(1,1,(.n 2)),(2,1,(.f 148)),(3,1,(.f 149)),(4,1,.t 5)]),.x (.fu .s (.t 1) (.c (.str [108,105,110,101])) (.t 6)),.c 7 147 [.w],.o 8 (.aY 2 1 [.int .i64 0,.bool false] [(0,.t 7)]),.o 9 (.build [.ah,.int .i64 0,.nilFunc,.nilFunc,.nilFunc] [(0,1,.t 8),(1,1,(.n 2)),(2,1,(.f 151)),(3,1,(.f 152)),(4,1,(.f 153))]),.x (.fu .s (.t 1) (.c (.str [116,97,112,101])) (.t 9)),.c 10 147 [.n 2],.c 11 154 [.z],.c 12 154 [.w],.o 13 (.aY 2 3 [.int .i64 0,.bool false] [(0,.t 10),(2,.t 11),(4,.t 12)]),.c 14 150 [.w],.o 15 (.build [.ah,.int .i64 0,.nilFunc,.nilFunc,.nilFunc] [(0,1,.t 13),(1,1,.w),(2,1,(.f 155)),(3,1,(.f 156)),(4,1,.t 14)]),.x (.fu .s (.t 1) (.c (.str [115,104,111,116])) (.t 15)),.c 16 154 [.w],.c 17 154 [.w],.o 18 (.aY 2 2 [.int .i64 0,.bool false] [(0,.t 16),(2,.t 17)]),.o 19 (.build [.ah,.int .i64 0,.nilFunc,.nilFunc,.nilFunc] [(0,1,.t 18),(1,1,.w),(2,1,(.f 157)),(3,1,(.f 158)),(4,1,(.f 153))]),.x (.fu .s (.t 1) (.c (.str [99,111,112,121])) (.t 19)),.c 20 154 [.z],.o 21 (.aY 2 1 [.int .i64 0,.bool false] [(0,.t 20)]),.c 22 150 [.z],.o 23 (.build [.ah,.int .i64 0,.nilFunc,.nilFunc,.nilFunc] [(0,1,.t 21),(1,1,.w),(2,1,(.f 159)),(3,1,(.f 160)),(4,1,.t 22)]),.x (.fu .s (.t 1) (.c (.str [97,99,99,101,112,116])) (.t 23)),.c 24 147 [.n 3],.c 25 154 [.z],.o 26 (.aY 2 2 [.int .i64 0,.bool false] [(0,.t 24),(2,.t 25)]),.c 27 150 [.w],.o 28 (.build [.ah,.int .i64 0,.nilFunc,.nilFunc,.nilFunc] [(0,1,.t 26),(1,1,.w),(2,1,(.f 161)),(3,1,(.f 162)),(4,1,.t 27)]),.x (.fu .s (.t 1) (.c (.str [115,111,117,114,99,101])) (.t 28)),.c 29 147 [.n 3],.c 30 154 [.n 3],.o 31 (.aY 2 2 [.int .i64 0,.bool false] [(0,.t 29),(2,.t 30)]),.o 32 (.build [.ah,.int .i64 0,.nilFunc,.nilFunc,.nilFunc] [(0,1,.t 31),(1,1,(.n 2)),(2,1,(.f 163)),(3,1,(.f 164)),(4,1,(.c .nilFunc))]),.x (.fu .s (.t 1) (.c (.str [109,111,100,117,108,101])) (.t 32)),.c 33 147 [.n 3],.c 34 154 [.n 3],.c 35 154 [.n 3],.o 36 (.aY 2 3 [.int .i64 0,.bool false] [(0,.t 33),(2,.t 34),(4,.t 35)]),.o 37 (.build [.ah,.int .i64 0,.nilFunc,.nilFunc,.nilFunc] [(0,1,.t 36),(1,1,.w),(2,1,(.f 165)),(3,1,(.f 166)),(4,1,(.c .nilFunc))]),.x (.fu .s (.t 1) (.c (.str [109,101,114,103,101])) (.t 37)),.c 38 147 [.n 4],.c 39 154 [.n 3],.o 40 (.aY 2 2 [.int .i64 0,.bool false] [(0,.t 38),(2,.t 39)]),.o 41 (.build [.ah,.int .i64 0,.nilFunc,.nilFunc,.nilFunc] [(0,1,.t 40),(1,1,(.n 2)),(2,1,(.f 167)),(3,1,(.f 168)),(4,1,(.c .nilFunc))]),.x (.fu .s (.t 1) (.c (.str [114,117,110])) (.t 41)),.c 42 154 [.n 4],.o 43 (.aY 2 1 [.int .i64 0,.bool false] [(0,.t 42)]),.o 44 (.build [.ah,.int .i64 0,.nilFunc,.nilFunc,.nilFunc] [(0,1,.t 43),(1,1,(.n 3)),(2,1,(.f 169)),(3,1,(.f 170)),(4,1,(.c .nilFunc))]),.x (.fu .s (.t 1) (.c (.str [116,105,108,101])) (.t 44)),.c 45 154 [.n 4],.o 46 (.aY 2 1 [.int .i64 0,.bool false] [(0,.t 45)]),.o 47 (.build [.ah,.int .i64 0,.nilFunc,.nilFunc,.nilFunc] [(0,1,.t 46),(1,1,(.n 2)),(2,1,(.f 171)),(3,1,(.f 172)),(4,1,(.c .nilFunc))]),.x (.fu .s (.t 1) (.c (.str [102,97,105,108])) (.t 47)),.c 48 147 [.n 5],.c 49 154 [.n 4],.o 50 (.aY 2 2 [.int .i64 0,.bool false] [(0,.t 48),(2,.t 49)]),.o 51 (.build [.ah,.int .i64 0,.nilFunc,.nilFunc,.nilFunc] [(0,1,.t 50),(1,1,.w),(2,1,(.f 173)),(3,1,(.f 174)),(4,1,(.c .nilFunc))]),.x (.fu .s (.t 1) (.c (.str [112,105,99,116,117,114,101])) (.t 51)),.c 52 154 [.n 5],.o 53 (.aY 2 1 [.int .i64 0,.bool false] [(0,.t 52)]),.o 54 (.build [.ah,.int .i64 0,.nilFunc,.nilFunc,.nilFunc] [(0,1,.t 53),(1,1,.w),(2,1,(.f 175)),(3,1,(.f 176)),(4,1,(.c .nilFunc))]),.x (.fu .s (.t 1) (.c (.str [114,101,108,101,97,115,101])) (.t 54)),.m 55 1,.m 0 55]))⟩
def fn91:aj:=⟨12,1,[(2,some (some 5))],(.s [.p 1 0,.o 2 (.box (.c (.agg [.int .i64 0,.str [],.ah,.ah,.str []])))] (.s [.y 3 (.bP 2 (.t 1)),.j 4 3,.y 5 (.call (.f 177) [.t 4]),.y 6 (.bP 3 (.t 1)),.j 7 6,.y 8 (.call (.f 178) [.t 7]),.y 9 (.bP 2 (.t 1)),.s 1 9 5,.a 10 3 1,.s 1 10 8] (.r [.r 11 5 1,.s 5 2 11])))⟩
def Ij:aj:=⟨22,2,[(4,none)],(.s [.o 4 (.dq (.c .ah))] (.s [.o 5 (.dq (.c .ah))] (.seq (.s [.m 8 0,.n 9 8,.o 10 (.dq .z)] (.block 0 (.loop (.s [.u 11 .lss 10 9] (.seq (.i 11 .skip (.exit 0)) (.seq (.block 1 (.s [.h 12 1 8 10,.l 13 12,.m 7 13] (.ops [.m 14 5,.m 15 1,.m 16 7,.o 17 (.call (.t 15) [.t 16]),.o 18 (.aY 1 1 [.int .i64 0] [(0,.t 17)]),.o 19 (.app 1 8 (.t 14) (.t 18)),.m 5 19]))) (.ops [.v 20 .add 10 .w,.m 10 20]))))))) (.r [.m 21 5,.m 4 21]))))⟩
def fn92:aj:=Ij
def Ik:aj:=⟨5,1,[(2,none)],(.s [.o 2 (.dq .z)] (.r [.m 3 0,.c 4 94 [.t 3,.z,.n 999999999],.m 2 4]))⟩
def fn93:aj:=Ik
def fn94:aj:=gA 94
def fn95:aj:=gA 95
def fn96:aj:=⟨38,1,[(2,some (some 7))],(.s [.p 1 0,.o 2 (.box (.c (.agg [.int .i64 0,.ah,.ah,.ah,.ah,.ah,.ah])))] (.s [.y 5 (.bP 1 (.t 1)),.j 6 5,.y 7 (.len .sl (.t 6)),.y 8 (.tL 3 32 [.str [],.int .i64 0,.bool false] (.t 7) (.t 7)),.y 9 (.bP 6 (.t 1)),.j 10 9,.y 11 (.len .sl (.t 10)),.y 12 (.tL 4 48 [.str [],.str [],.int .i64 0,.bool false] (.t 11) (.t 11)),.w 3 8,.m 4 12] (.s [.m 13 3,.a 14 1 1,.l 15 14,.o 16 (.xH 3 (.t 13) (.t 15))] (.s [.m 17 4,.a 18 6 1,.l 19 18,.o 20 (.xH 4 (.t 17) (.t 19))] (.r [.y 21 (.bP 0 (.t 1)),.j 22 21,.w 23 3,.y 24 (.bP 2 (.t 1)),.j 25 24,.y 26 (.call (.f 179) [.t 25]),.y 27 (.bP 3 (.t 1)),.j 28 27,.y 29 (.call (.f 180) [.t 28,(.f 181)]),.y 30 (.bP 4 (.t 1)),.j 31 30,.y 32 (.call (.f 182) [.t 31,(.f 183)]),.y 33 (.bP 5 (.t 1)),.j 34 33,.y 35 (.call (.f 184) [.t 34,(.f 185)]),.w 36 4,.o 37 (.build [.int .i64 0,.ah,.ah,.ah,.ah,.ah,.ah] [(0,1,.t 22),(1,1,.t 23),(2,1,.t 26),(3,1,.t 29),(4,1,.t 32),(5,1,.t 35),(6,1,.t 36)]),.s 7 2 37])))))⟩
def fn97:aj:=gA 97
def fn98:aj:=gA 98
def fn99:aj:=gA 99
def fn100:aj:=gA 100
def fn101:aj:=gA 101
def fn102:aj:=gA 102
def fn103:aj:=gA 103
def fn105:aj:=⟨40,2,[(4,none)],(.s [.o 4 (.dq (.c .ah))] (.s [.o 7 (.aY 1 1 [.str []] [(0,(.c (.str [])))]),.m 5 7] (.seq (.s [.o 6 (.dq .z)] (.block 0 (.loop (.seq (.s [.m 8 6,.m 9 0,.o 10 (.len .st (.t 9)),.u 11 .lss 8 10] (.i 11 .skip (.exit 0))) (.seq (.block 1 (.seq (.s [.m 14 0,.m 15 6,.o 16 (.Gj (.t 14) (.t 15)),.m 17 1,.u 18 .eql 16 17] (.i 18 (.s [.m 19 5,.o 20 (.aY 1 1 [.str []] [(0,(.c (.str [])))]),.o 21 (.app 1 16 (.t 19) (.t 20)),.m 5 21] (.exit 1)) .skip)) (.ops [.w 22 5,.w 23 5,.y 24 (.len .sl (.t 23)),.y 25 (.bin .sub (.t 24) .w),.w 26 5,.w 27 5,.y 28 (.len .sl (.t 27)),.y 29 (.bin .sub (.t 28) .w),.y 30 (.bT 1 (.t 26) (.t 29)),.j 31 30,.w 32 0,.w 33 6,.w 34 6,.y 35 (.bin .add (.t 34) .w),.y 36 (.Fk (.t 32) (some (.t 33)) (some (.t 35))),.y 37 (.bin .add (.t 31) (.t 36)),.h 38 1 22 25,.s 1 38 37]))) (.ops [.m 12 6,.v 13 .add 12 .w,.m 6 13])))))) (.r [.m 39 5,.m 4 39]))))⟩
def fn107:aj:=gA 107
def fn108:aj:=gA 108
def fn109:aj:=⟨10,0,[(0,none)],(.s [.o 0 (.dq (.c .cQ))] (.r [.o 1 (.mg),.o 2 (.build [.bool false,.int .i64 0,.nilFunc] [(0,1,.T),(1,1,(.n 4)),(2,1,(.f 198))]),.x (.fu .s (.t 1) (.c (.str [108,101,102,116])) (.t 2)),.o 3 (.build [.bool false,.int .i64 0,.nilFunc] [(0,1,.T),(1,1,(.n 5)),(2,1,(.f 126))]),.x (.fu .s (.t 1) (.c (.str [102,114,111,109])) (.t 3)),.o 4 (.build [.bool false,.int .i64 0,.nilFunc] [(0,1,.T),(1,1,(.n 3)),(2,1,(.f 200))]),.x (.fu .s (.t 1) (.c (.str [108,105,110,101,115])) (.t 4)),.o 5 (.build [.bool false,.int .i64 0,.nilFunc] [(0,1,.F),(1,1,(.n 2)),(2,1,(.f 201))]),.x (.fu .s (.t 1) (.c (.str [117,110,115,97,102,101])) (.t 5)),.o 6 (.build [.bool false,.int .i64 0,.nilFunc] [(0,1,.T),(1,1,(.n 2)),(2,1,(.f 202))]),.x (.fu .s (.t 1) (.c (.str [116,97,112,101,115])) (.t 6)),.o 7 (.build [.bool false,.int .i64 0,.nilFunc] [(0,1,.F),(1,1,(.n 5)),(2,1,(.f 203))]),.x (.fu .s (.t 1) (.c (.str [114,101,108,101,97,115,101,100])) (.t 7)),.o 8 (.build [.bool false,.int .i64 0,.nilFunc] [(0,1,.T),(1,1,.z),(2,1,(.f 204))]),.x (.fu .s (.t 1) (.c (.str [119,97,110,116])) (.t 8)),.m 9 1,.m 0 9]))⟩
def fn110:aj:=gA 110
def fn111:aj:=⟨73,1,[(2,some (some 5)),(3,none)],(.s [.o 2 (.box (.c (.agg [.int .i64 0,.str [],.ah,.ah,.str []]))),.o 3 (.dq .F)] (.s [.m 12 0,.o 13 (.build [.ah,.bool false] [(0,1,.t 12)]),.p 14 13,.m 4 14] (.s [.m 15 4,.o 16 (.rV (.func 207) [.t 15] []),.m 17 4,.o 18 (.rV (.func 208) [.t 17] []),.m 5 16,.m 6 18] (.s [.m 19 5,.o 20 (.call (.t 19) []),.o 21 (.build [.int .i64 0,.str [],.ah,.ah,.str []] [(1,1,.t 20)]),.o 7 (.box (.c (.agg [.int .i64 0,.str [],.ah,.ah,.str []]))),.s 5 7 21] (.s [.y 23 (.call (.f 90) []),.y 24 (.bP 1 (.t 7)),.j 25 24,.y 26 (.look .s (.agg [.ah,.int .i64 0,.nilFunc,.nilFunc,.nilFunc]) true (.t 23) (.t 25)),.w 22 26,.y 27 (.ext (.t 22) 0),.y 28 (.ext (.t 22) 1),⟨none,.dq .F,none,true⟩,.y 8 (.mD 5 (.t 27)),.m 9 28] (.seq (.s [.m 29 9,.o 30 (.un .not (.t 29))] (.j 30 [.o 31 (.build [.int .i64 0,.str [],.ah,.ah,.str []] []),.s 5 2 31,.o 3 (.dq .F)])) (.seq (.s [.a 32 0 8,.l 33 32,.n 34 33,.o 35 (.dq .z)] (.block 0 (.loop (.s [.u 36 .lss 35 34] (.seq (.i 36 .skip (.exit 0)) (.seq (.block 1 (.s [.m 37 5,.o 38 (.call (.t 37) []),.m 10 38] (.ops [.a 39 2 7,.l 40 39,.m 41 10,.o 42 (.aY 1 1 [.str []] [(0,.t 41)]),.o 43 (.app 1 16 (.t 40) (.t 42)),.a 44 2 7,.s 1 44 43]))) (.ops [.v 45 .add 35 .w,.m 35 45]))))))) (.seq (.s [.a 46 1 8,.l 47 46,.o 48 (.dq .z)] (.block 2 (.loop (.s [.u 49 .lss 48 47] (.seq (.i 49 .skip (.exit 2)) (.seq (.block 3 (.s [.m 50 6,.o 51 (.call (.t 50) []),.m 11 51] (.ops [.a 52 3 7,.l 53 52,.m 54 11,.o 55 (.aY 1 1 [.int .i64 0] [(0,.t 54)]),.o 56 (.app 1 8 (.t 53) (.t 55)),.a 57 3 7,.s 1 57 56]))) (.ops [.v 58 .add 48 .w,.m 48 58]))))))) (.seq (.qd [.r 59 5 7,.m 60 4,.o 61 (.bu (.t 60)),.a 62 1 61,.l 63 62,.o 64 (.un .not (.t 63)),.m 65 64,.t 66 65 true 4,.g 67 65 true (.bu (.t 66)),.g 68 65 true (.bP 0 (.t 67)),.g 69 65 true (.load none (.t 68)),.g 70 65 true (.len .sl (.t 69)),.g 71 65 true (.bin .eql (.t 70) .z),.d 72 65 71,.s 5 2 59,.m 3 72]) .ret)))))))))⟩
def fn112:aj:=⟨94,2,[(4,none)],(.s [.p 3 1,.o 4 (.dq .z)] (.seq (.s [.r 9 5 3,.c 10 67 [.t 9],.m 5 10] (.s [.m 11 5,.v 12 .neq 11 .z] (.j 12 [.m 13 5,.m 4 13]))) (.seq (.s [.m 14 0,.r 15 5 3,.c 16 116 [.t 14,.t 15],.m 6 16] (.s [.m 17 6,.v 18 .neq 17 .z] (.j 18 [.m 19 6,.m 4 19]))) (.s [.r 20 5 3,.c 21 91 [.t 20],.s 5 3 21] (.s [.m 22 0,.m 23 0,.o 24 (.bu (.t 23)),.a 25 0 24,.l 26 25,.r 27 5 3,.o 28 (.aY 5 1 [.int .i64 0,.str [],.ah,.ah,.str []] [(0,.t 27)]),.o 29 (.app 5 88 (.t 26) (.t 28)),.o 30 (.bu (.t 22)),.a 31 0 30,.s 1 31 29] (.seq (.s [.a 32 1 3,.l 33 32,.v 34 .eql 33 (.c (.str [117,110,100,111]))] (.i 34 (.s [.m 35 0,.o 36 (.bu (.t 35)),.a 37 1 36,.l 38 37,.n 39 38,.v 40 .sub 39 .w,.m 7 40] (.s [.m 41 0,.m 42 0,.m 43 0,.o 44 (.bu (.t 43)),.a 45 1 44,.l 46 45,.m 47 7,.o 48 (.sl 5 (.t 46) none (some (.t 47))),.m 49 0,.o 50 (.bu (.t 49)),.a 51 2 50,.l 52 51,.m 53 7,.o 54 (.sl 7 (.t 52) none (some (.t 53))),.o 55 (.bu (.t 41)),.a 56 1 55,.s 1 56 48,.o 57 (.bu (.t 42)),.a 58 2 57,.s 1 58 54] (.r [.o 4 (.dq .z)]))) .skip)) (.s [.m 59 0,.c 60 79 [.t 59],.c 61 96 [.t 60],.o 8 (.box (.c (.agg [.int .i64 0,.ah,.ah,.ah,.ah,.ah,.ah]))),.s 7 8 61] (.s [.y 62 (.call (.f 90) []),.y 63 (.bP 1 (.t 3)),.j 64 63,.y 65 (.look .s (.agg [.ah,.int .i64 0,.nilFunc,.nilFunc,.nilFunc]) false (.t 62) (.t 64)),.y 66 (.part none 3 (.t 65)),.y 67 (.load (some 5) (.t 3)),.o 68 (.call (.t 66) [.t 8,.t 67])] (.s [.a 69 3 3,.l 70 69,.o 71 (.bT 1 (.t 70) .z),.l 72 71,.a 73 0 8,.s 1 73 72] (.seq (.lX [.m 74 0,.m 75 0,.m 76 0,.o 77 (.bu (.t 76)),.a 78 1 77,.j 79 78,.y 80 (.load (some 5) (.t 3)),.o 81 (.aY 5 1 [.int .i64 0,.str [],.ah,.ah,.str []] [(0,.t 80)]),.o 82 (.app 5 88 (.t 79) (.t 81)),.m 83 0,.o 84 (.bu (.t 83)),.a 85 2 84,.j 86 85,.y 87 (.load (some 7) (.t 8)),.o 88 (.aY 7 1 [.int .i64 0,.ah,.ah,.ah,.ah,.ah,.ah] [(0,.t 87)]),.o 89 (.app 7 152 (.t 86) (.t 88)),.o 90 (.bu (.t 74)),.a 91 1 90,.s 1 91 82,.o 92 (.bu (.t 75)),.a 93 2 92,.s 1 93 89]) (.r [.o 4 (.dq .z)])))))))))))⟩
def fn113:aj:=gA 113
def fn114:aj:=gA 114
def fn115:aj:=gA 115
def fn116:aj:=⟨106,2,[(4,none)],(.s [.p 3 1,.o 4 (.dq .z)] (.seq (.s [.y 12 (.bP 0 (.t 3)),.j 13 12,.w 14 0,.y 15 (.bu (.t 14)),.y 16 (.bP 0 (.t 15)),.j 17 16,.y 18 (.len .sl (.t 17)),.y 19 (.bin .add (.t 18) .w),.u 20 .neq 13 19] (.j 20 [.o 4 (.dq (.n 11))])) (.s [.m 21 0,.o 22 (.bu (.t 21)),.a 23 1 22,.l 24 23,.n 25 24,.m 5 25] (.seq (.s [.a 26 1 3,.l 27 26,.v 28 .eql 27 (.c (.str [117,110,100,111]))] (.i 28 (.seq (.s [.m 29 5,.v 30 .eql 29 .z] (.j 30 [.o 4 (.dq (.n 12))])) (.r [.m 31 0,.o 32 (.bu (.t 31)),.a 33 1 32,.l 34 33,.m 35 5,.v 36 .sub 35 .w,.h 37 5 34 36,.a 38 1 37,.l 39 38,.v 40 .eql 39 (.c (.str [114,101,108,101,97,115,101])),.c 41 85 [.t 40,.n 21],.m 4 41])) .skip)) (.s [.m 42 0,.c 43 79 [.t 42],.o 6 (.box (.c (.agg [.int .i64 0,.ah,.ah,.ah,.ah,.ah,.ah]))),.s 7 6 43] (.seq (.s [.y 44 (.bP 3 (.t 3)),.j 45 44,.y 46 (.bT 1 (.t 45) .z),.j 47 46,.y 48 (.bP 0 (.t 6)),.j 49 48,.u 50 .lss 47 49] (.j 50 [.o 4 (.dq (.n 22))])) (.s [.y 51 (.call (.f 90) []),.y 52 (.bP 1 (.t 3)),.j 53 52,.y 54 (.look .s (.agg [.ah,.int .i64 0,.nilFunc,.nilFunc,.nilFunc]) false (.t 51) (.t 53)),.y 7 (.box (.c (.agg [.ah,.int .i64 0,.nilFunc,.nilFunc,.nilFunc]))),.s 5 7 54] (.seq (.s [.a 55 0 7,.l 56 55,.n 57 56,.o 58 (.dq .z)] (.block 0 (.loop (.s [.u 59 .lss 58 57] (.seq (.i 59 .skip (.exit 0)) (.seq (.block 1 (.s [.m 60 58,.h 61 2 56 58,.r 62 2 61,.o 9 (.box (.c (.agg [.int .i64 0,.bool false]))),.m 8 60,.s 2 9 62] (.s [.a 63 1 9,.l 64 63,.m 65 64,⟨(some 66),.load (some 7) (.t 6),(some (65,true)),true⟩,⟨(some 67),.bP 0 (.t 9),(some (65,true)),true⟩,⟨(some 68),.load none (.t 67),(some (65,true)),true⟩,⟨(some 69),.bP 2 (.t 3),(some (65,true)),true⟩,⟨(some 70),.load none (.t 69),(some (65,true)),true⟩,⟨(some 71),.dq (.t 8),(some (65,true)),true⟩,⟨(some 72),.bT 1 (.t 70) (.t 71),(some (65,true)),true⟩,⟨(some 73),.load none (.t 72),(some (65,true)),true⟩,.g 74 65 true (.call (.f 86) [.t 66,.t 68,.t 73]),.g 75 65 true (.un .not (.t 74)),.d 76 65 75] (.j 76 [.o 4 (.dq (.n 10))])))) (.ops [.v 77 .add 58 .w,.m 58 77]))))))) (.seq (.s [.a 78 0 7,.l 79 78,.n 80 79,.o 81 (.dq .z)] (.block 2 (.loop (.s [.u 82 .lss 81 80] (.seq (.i 82 .skip (.exit 2)) (.seq (.block 3 (.s [.m 83 81,.h 84 2 79 81,.r 85 2 84,.o 11 (.box (.c (.agg [.int .i64 0,.bool false]))),.m 10 83,.s 2 11 85] (.s [.a 86 1 11,.l 87 86,.o 88 (.un .not (.t 87)),.m 89 88,⟨(some 90),.load (some 7) (.t 6),(some (89,true)),true⟩,⟨(some 91),.bP 0 (.t 11),(some (89,true)),true⟩,⟨(some 92),.load none (.t 91),(some (89,true)),true⟩,⟨(some 93),.bP 2 (.t 3),(some (89,true)),true⟩,⟨(some 94),.load none (.t 93),(some (89,true)),true⟩,⟨(some 95),.dq (.t 10),(some (89,true)),true⟩,⟨(some 96),.bT 1 (.t 94) (.t 95),(some (89,true)),true⟩,⟨(some 97),.load none (.t 96),(some (89,true)),true⟩,.g 98 89 true (.call (.f 86) [.t 90,.t 92,.t 97]),.d 99 89 98] (.j 99 [.o 4 (.dq (.n 9))])))) (.ops [.v 100 .add 81 .w,.m 81 100]))))))) (.r [.a 101 2 7,.l 102 101,.r 103 7 6,.r 104 5 3,.o 105 (.call (.t 102) [.t 103,.t 104]),.m 4 105]))))))))))⟩
def fn117:aj:=gA 117
def fn118:aj:=gA 118
def fn119:aj:=gA 119
def fn120:aj:=gA 120
def fn121:aj:=gA 121
def fn122:aj:=gA 122
def fn123:aj:=gA 123
def fn124:aj:=gA 124
def fn125:aj:=gA 125
def fn126:aj:=gA 126
def fn128:aj:=gA 128
def fn130:aj:=gA 130
def fn131:aj:=gA 131
def fn132:aj:=gA 132
def fn133:aj:=gA 133
def fn134:aj:=gA 134
def fn135:aj:=gA 135
def fn136:aj:=gA 136
def fn137:aj:=gA 137
def fn138:aj:=gA 138
def fn139:aj:=gA 139
def fn140:aj:=gA 140
def fn142:aj:=gA 142
def fn143:aj:=gA 143
def fn144:aj:=gA 144
def fn145:aj:=gA 145
def fn146:aj:=gA 146
def fn147:aj:=gA 147
def fn148:aj:=gA 148
def fn149:aj:=⟨22,2,[],(.s [.p 3 1] (.ops [.m 4 0,.m 5 0,.o 6 (.bu (.t 5)),.a 7 1 6,.l 8 7,.a 9 2 3,.l 10 9,.o 11 (.bT 1 (.t 10) .z),.l 12 11,.a 13 3 3,.l 14 13,.o 15 (.bT 1 (.t 14) .w),.l 16 15,.o 17 (.build [.str [],.int .i64 0,.bool false] [(0,1,.t 12),(1,1,.t 16)]),.o 18 (.aY 3 1 [.str [],.int .i64 0,.bool false] [(0,.t 17)]),.o 19 (.app 3 32 (.t 8) (.t 18)),.o 20 (.bu (.t 4)),.a 21 1 20,.s 1 21 19]))⟩
def fn150:aj:=gA 150
def fn151:aj:=⟨23,2,[(4,none)],(.s [.p 2 0,.p 3 1,.o 4 (.dq .z)] (.r [.y 5 (.bP 3 (.t 3)),.j 6 5,.y 7 (.bT 1 (.t 6) .z),.j 8 7,.y 9 (.bP 3 (.t 3)),.j 10 9,.y 11 (.bT 1 (.t 10) .w),.j 12 11,.y 13 (.bin .add (.t 8) (.t 12)),.y 14 (.bin .gtr (.t 13) (.n 999999999)),.y 15 (.call (.f 85) [.t 14,.n 4]),.y 16 (.bP 2 (.t 2)),.j 17 16,.y 18 (.len .sl (.t 17)),.y 19 (.bin .geq (.t 18) (.n 16)),.c 20 85 [.t 19,.n 5],.o 21 (.aY 1 2 [.int .i64 0] [(0,.t 15),(1,.t 20)]),.c 22 74 [.t 21],.m 4 22]))⟩
def fn152:aj:=⟨27,2,[],(.s [.p 3 1] (.ops [.m 4 0,.m 5 0,.o 6 (.bu (.t 5)),.a 7 2 6,.l 8 7,.a 9 2 3,.l 10 9,.o 11 (.bT 1 (.t 10) .z),.l 12 11,.a 13 3 3,.l 14 13,.o 15 (.bT 1 (.t 14) .z),.l 16 15,.a 17 3 3,.l 18 17,.o 19 (.bT 1 (.t 18) .w),.l 20 19,.u 21 .add 16 20,.o 22 (.build [.str [],.int .i64 0] [(0,1,.t 12),(1,1,.t 21)]),.o 23 (.aY 2 1 [.str [],.int .i64 0] [(0,.t 22)]),.o 24 (.app 2 24 (.t 8) (.t 23)),.o 25 (.bu (.t 4)),.a 26 2 25,.s 1 26 24]))⟩
def fn153:aj:=gA 153
def fn154:aj:=gA 154
def fn155:aj:=⟨27,2,[(4,none)],(.s [.p 2 0,.p 3 1,.o 4 (.dq .z)] (.r [.y 5 (.load (some 7) (.t 2)),.y 6 (.bP 2 (.t 3)),.j 7 6,.y 8 (.bT 1 (.t 7) .w),.j 9 8,.y 10 (.call (.f 205) [.t 5,.t 9]),.y 11 (.part none 2 (.t 10)),.y 12 (.call (.f 85) [.t 11,.n 23]),.y 13 (.load (some 7) (.t 2)),.y 14 (.load (some 5) (.t 3)),.y 15 (.bP 2 (.t 3)),.j 16 15,.y 17 (.bT 1 (.t 16) (.n 2)),.j 18 17,.y 19 (.call (.f 241) [.t 13,.t 14,.t 18]),.y 20 (.bP 3 (.t 2)),.j 21 20,.y 22 (.len .sl (.t 21)),.y 23 (.bin .geq (.t 22) (.n 64)),.c 24 85 [.t 23,.n 5],.o 25 (.aY 1 3 [.int .i64 0] [(0,.t 12),(1,.t 19),(2,.t 24)]),.c 26 74 [.t 25],.m 4 26]))⟩
def fn156:aj:=⟨27,2,[],(.s [.p 3 1] (.ops [.m 4 0,.m 5 0,.o 6 (.bu (.t 5)),.a 7 3 6,.l 8 7,.a 9 2 3,.l 10 9,.o 11 (.bT 1 (.t 10) .z),.l 12 11,.a 13 2 3,.l 14 13,.o 15 (.bT 1 (.t 14) .w),.l 16 15,.a 17 2 3,.l 18 17,.o 19 (.bT 1 (.t 18) (.n 2)),.l 20 19,.o 21 (.aY 1 1 [.str []] [(0,.t 20)]),.o 22 (.build [.str [],.str [],.ah] [(0,1,.t 12),(1,1,.t 16),(2,1,.t 21)]),.o 23 (.aY 3 1 [.str [],.str [],.ah] [(0,.t 22)]),.o 24 (.app 3 56 (.t 8) (.t 23)),.o 25 (.bu (.t 4)),.a 26 3 25,.s 1 26 24]))⟩
def fn157:aj:=⟨35,2,[(4,none)],(.s [.p 2 0,.p 3 1,.o 4 (.dq .z)] (.s [.y 7 (.load (some 7) (.t 2)),.y 8 (.bP 2 (.t 3)),.j 9 8,.y 10 (.bT 1 (.t 9) .z),.j 11 10,.y 12 (.call (.f 134) [.t 7,.t 11]),.y 13 (.load (some 7) (.t 2)),.y 14 (.bP 2 (.t 3)),.j 15 14,.y 16 (.bT 1 (.t 15) .w),.j 17 16,.y 18 (.call (.f 134) [.t 13,.t 17]),.y 5 (.box (.c (.agg [.str [],.int .i64 0]))),.y 6 (.box (.c (.agg [.str [],.int .i64 0]))),.s 2 5 12,.s 2 6 18] (.r [.y 19 (.load (some 2) (.t 5)),.y 20 (.load (some 2) (.t 6)),.y 21 (.eqv false (.agg [.s,.i]) (.t 19) (.t 20)),.y 22 (.call (.f 85) [.t 21,.n 24]),.y 23 (.load (some 7) (.t 2)),.y 24 (.load (some 5) (.t 3)),.y 25 (.bP 0 (.t 5)),.j 26 25,.y 27 (.call (.f 241) [.t 23,.t 24,.t 26]),.y 28 (.load (some 7) (.t 2)),.y 29 (.load (some 5) (.t 3)),.y 30 (.bP 0 (.t 6)),.j 31 30,.c 32 241 [.t 28,.t 29,.t 31],.o 33 (.aY 1 3 [.int .i64 0] [(0,.t 22),(1,.t 27),(2,.t 32)]),.c 34 74 [.t 33],.m 4 34])))⟩
def fn158:aj:=⟨50,2,[],(.s [.p 3 1] (.s [.y 8 (.bP 2 (.t 3)),.j 9 8,.y 10 (.bT 1 (.t 9) .z),.j 11 10,.y 12 (.bP 2 (.t 3)),.j 13 12,.y 14 (.bT 1 (.t 13) .w),.j 15 14,.w 4 11,.m 5 15] (.s [.m 16 0,.o 17 (.bu (.t 16)),.a 18 3 17,.l 19 18,.n 20 19,.o 21 (.dq .z)] (.block 0 (.loop (.s [.u 22 .lss 21 20] (.seq (.i 22 .skip (.exit 0)) (.seq (.block 1 (.s [.m 23 21,.h 24 3 19 21,.r 25 3 24,.o 7 (.box (.c (.agg [.str [],.str [],.ah]))),.m 6 23,.s 3 7 25] (.s [.a 26 2 7,.l 27 26,.m 28 4,.c 29 242 [.t 27,.t 28],.m 30 29,.g 31 30 true (.bP 2 (.t 7)),.g 32 30 true (.load none (.t 31)),.t 33 30 true 5,.g 34 30 true (.call (.f 242) [.t 32,.t 33]),.g 35 30 true (.un .not (.t 34)),.d 36 30 35] (.i 36 (.lX [.m 37 0,.o 38 (.bu (.t 37)),.a 39 3 38,.j 40 39,.m 41 6,.a 42 2 7,.j 43 42,.m 44 5,.o 45 (.aY 1 1 [.str []] [(0,.t 44)]),.o 46 (.app 1 16 (.t 43) (.t 45)),.h 47 3 40 41,.a 48 2 47,.s 1 48 46]) .skip)))) (.ops [.v 49 .add 21 .w,.m 21 49])))))))))⟩
def fn159:aj:=⟨36,2,[(4,none)],(.s [.p 2 0,.p 3 1,.o 4 (.dq .z)] (.s [.y 8 (.load (some 7) (.t 2)),.y 9 (.bP 2 (.t 3)),.j 10 9,.y 11 (.bT 1 (.t 10) .z),.j 12 11,.y 13 (.call (.f 205) [.t 8,.t 12]),.y 14 (.load (some 7) (.t 2)),.y 15 (.bP 2 (.t 3)),.j 16 15,.y 17 (.bT 1 (.t 16) .z),.j 18 17,.y 19 (.call (.f 206) [.t 14,.t 18]),.y 5 (.box (.c (.agg [.str [],.int .i64 0,.bool false]))),.s 3 5 13,.m 6 19] (.s [.m 20 6,.o 21 (.rV (.func 244) [] [.t 2,.t 3]),.c 22 243 [.t 20,.t 21],.m 7 22] (.r [.y 23 (.bP 2 (.t 5)),.j 24 23,.y 25 (.call (.f 85) [.t 24,.n 23]),.w 26 6,.y 27 (.len .sl (.t 26)),.y 28 (.bP 1 (.t 5)),.j 29 28,.y 30 (.bin .lss (.t 27) (.t 29)),.y 31 (.call (.f 85) [.t 30,.n 16]),.w 32 7,.c 33 85 [.t 32,.n 30],.o 34 (.aY 1 3 [.int .i64 0] [(0,.t 25),(1,.t 31),(2,.t 33)]),.c 35 74 [.t 34],.m 4 35]))))⟩
def wA(x0 x1 x2 x3:Nat):aj:=⟨19,2,[],(.s [.p 3 1] (.ops [.w 4 0,.y 5 (.bu (.t 4)),.y 6 (.bP x0 (.t 5)),.j 7 6,.w 8 0,.y 9 (.bu (.t 8)),.y 10 (.bP x0 (.t 9)),.j 11 10,.y 12 (.bP 2 (.t 3)),.j 13 12,.y 14 (.bT 1 (.t 13) .z),.j 15 14,.y 16 (.call (.f x1) [.t 11,.t 15]),.h 17 x2 7 16,.a 18 x3 17,.x (.store 1 (.t 18) .T)]))⟩
def fn160:aj:=wA 1 142 3 2
def fn161:aj:=gA 161
def fn162:aj:=⟨22,2,[],(.s [.p 3 1] (.ops [.m 4 0,.m 5 0,.o 6 (.bu (.t 5)),.a 7 4 6,.l 8 7,.a 9 2 3,.l 10 9,.o 11 (.bT 1 (.t 10) .z),.l 12 11,.a 13 2 3,.l 14 13,.o 15 (.bT 1 (.t 14) .w),.l 16 15,.o 17 (.build [.str [],.str [],.str [],.ah] [(0,1,.t 12),(1,1,(.c (.str [115,104,111,116,115]))),(2,1,.t 16)]),.o 18 (.aY 4 1 [.str [],.str [],.str [],.ah] [(0,.t 17)]),.o 19 (.app 4 72 (.t 8) (.t 18)),.o 20 (.bu (.t 4)),.a 21 4 20,.s 1 21 19]))⟩
def fn163:aj:=⟨35,2,[(4,none)],(.s [.p 2 0,.p 3 1,.o 4 (.dq .z)] (.s [.a 6 3 3,.l 7 6,.o 8 (.bT 1 (.t 7) .w),.l 9 8,.m 5 9] (.seq (.s [.m 10 5,.v 11 .lss 10 .w,.m 12 11,.t 13 12 false 5,.g 14 12 false (.bin .gtr (.t 13) (.n 4)),.f 15 12 14] (.j 15 [.o 4 (.dq (.n 13))])) (.r [.y 16 (.load (some 7) (.t 2)),.y 17 (.bP 2 (.t 3)),.j 18 17,.y 19 (.bT 1 (.t 18) .w),.j 20 19,.y 21 (.call (.f 245) [.t 16,.t 20]),.y 22 (.part none 1 (.t 21)),.w 23 5,.y 24 (.bin .sub (.t 23) .w),.y 25 (.qg 4 2 (.g 0) (.t 24)),.y 26 (.qg 2 1 (.t 25) .z),.j 27 26,.y 28 (.bin .neq (.t 22) (.t 27)),.y 29 (.call (.f 85) [.t 28,.n 2]),.y 30 (.load (some 7) (.t 2)),.y 31 (.load (some 5) (.t 3)),.c 32 161 [.t 30,.t 31],.o 33 (.aY 1 2 [.int .i64 0] [(0,.t 29),(1,.t 32)]),.c 34 74 [.t 33],.m 4 34]))))⟩
def fn164:aj:=⟨30,2,[],(.s [.p 3 1] (.ops [.m 4 0,.m 5 0,.o 6 (.bu (.t 5)),.a 7 4 6,.l 8 7,.a 9 2 3,.l 10 9,.o 11 (.bT 1 (.t 10) .z),.l 12 11,.a 13 3 3,.l 14 13,.o 15 (.bT 1 (.t 14) .w),.l 16 15,.v 17 .sub 16 .w,.o 18 (.qg 4 2 (.g 0) (.t 17)),.o 19 (.qg 2 1 (.t 18) .w),.l 20 19,.a 21 2 3,.l 22 21,.o 23 (.sl 1 (.t 22) (some .w) none),.y 24 (.call (.f 177) [.t 23]),.o 25 (.build [.str [],.str [],.str [],.ah] [(0,1,.t 12),(1,1,.t 20),(3,1,.t 24)]),.o 26 (.aY 4 1 [.str [],.str [],.str [],.ah] [(0,.t 25)]),.o 27 (.app 4 72 (.t 8) (.t 26)),.o 28 (.bu (.t 4)),.a 29 4 28,.s 1 29 27]))⟩
def fn165:aj:=⟨36,2,[(4,none)],(.s [.p 2 0,.p 3 1,.o 4 (.dq .z)] (.r [.y 5 (.bP 2 (.t 3)),.j 6 5,.y 7 (.bT 1 (.t 6) .w),.j 8 7,.y 9 (.bP 2 (.t 3)),.j 10 9,.y 11 (.bT 1 (.t 10) (.n 2)),.j 12 11,.y 13 (.bin .eql (.t 8) (.t 12)),.y 14 (.call (.f 85) [.t 13,.n 24]),.y 15 (.load (some 7) (.t 2)),.y 16 (.bP 2 (.t 3)),.j 17 16,.y 18 (.bT 1 (.t 17) .w),.j 19 18,.y 20 (.call (.f 245) [.t 15,.t 19]),.y 21 (.part none 1 (.t 20)),.y 22 (.load (some 7) (.t 2)),.y 23 (.bP 2 (.t 3)),.j 24 23,.y 25 (.bT 1 (.t 24) (.n 2)),.j 26 25,.y 27 (.call (.f 245) [.t 22,.t 26]),.y 28 (.part none 1 (.t 27)),.y 29 (.bin .neq (.t 21) (.t 28)),.y 30 (.call (.f 85) [.t 29,.n 2]),.y 31 (.load (some 7) (.t 2)),.y 32 (.load (some 5) (.t 3)),.c 33 161 [.t 31,.t 32],.o 34 (.aY 1 3 [.int .i64 0] [(0,.t 14),(1,.t 30),(2,.t 33)]),.c 35 74 [.t 34],.m 4 35]))⟩
def fn166:aj:=⟨31,2,[],(.s [.p 3 1] (.ops [.m 4 0,.m 5 0,.o 6 (.bu (.t 5)),.a 7 4 6,.l 8 7,.a 9 2 3,.l 10 9,.o 11 (.bT 1 (.t 10) .z),.l 12 11,.m 13 0,.o 14 (.bu (.t 13)),.r 15 7 14,.a 16 2 3,.l 17 16,.o 18 (.bT 1 (.t 17) .w),.l 19 18,.y 20 (.call (.f 245) [.t 15,.t 19]),.o 21 (.part none 1 (.t 20)),.a 22 2 3,.l 23 22,.o 24 (.sl 1 (.t 23) (some .w) none),.y 25 (.call (.f 177) [.t 24]),.o 26 (.build [.str [],.str [],.str [],.ah] [(0,1,.t 12),(1,1,.t 21),(3,1,.t 25)]),.o 27 (.aY 4 1 [.str [],.str [],.str [],.ah] [(0,.t 26)]),.o 28 (.app 4 72 (.t 8) (.t 27)),.o 29 (.bu (.t 4)),.a 30 4 29,.s 1 30 28]))⟩
def fn167:aj:=gA 167
def fn168:aj:=⟨28,2,[],(.s [.p 3 1] (.ops [.m 4 0,.m 5 0,.o 6 (.bu (.t 5)),.a 7 5 6,.l 8 7,.a 9 2 3,.l 10 9,.o 11 (.bT 1 (.t 10) .z),.l 12 11,.a 13 2 3,.l 14 13,.o 15 (.bT 1 (.t 14) .w),.l 16 15,.o 17 (.aY 1 1 [.int .i64 0] [(0,(.n (-1)))]),.a 18 3 3,.l 19 18,.o 20 (.bT 1 (.t 19) .w),.l 21 20,.y 22 (.call (.f 248) [.t 17,.t 21]),.o 23 (.build [.str [],.str [],.ah] [(0,1,.t 12),(1,1,.t 16),(2,1,.t 22)]),.o 24 (.aY 3 1 [.str [],.str [],.ah] [(0,.t 23)]),.o 25 (.app 3 56 (.t 8) (.t 24)),.o 26 (.bu (.t 4)),.a 27 5 26,.s 1 27 25]))⟩
def fn169:aj:=gA 169
def fn170:aj:=gA 170
def fn171:aj:=⟨27,2,[(4,none)],(.s [.p 2 0,.p 3 1,.o 4 (.dq .z)] (.seq (.s [.r 6 7 2,.r 7 5 3,.c 8 249 [.t 6,.t 7],.m 5 8] (.s [.m 9 5,.v 10 .neq 9 .z] (.j 10 [.m 11 5,.m 4 11]))) (.r [.y 12 (.load (some 7) (.t 2)),.y 13 (.bP 2 (.t 3)),.j 14 13,.y 15 (.bT 1 (.t 14) .z),.j 16 15,.y 17 (.call (.f 124) [.t 12,.t 16]),.y 18 (.part none 2 (.t 17)),.y 19 (.bP 3 (.t 3)),.j 20 19,.y 21 (.bT 1 (.t 20) .w),.j 22 21,.h 23 1 18 22,.l 24 23,.v 25 .eql 24 (.n (-1)),.c 26 85 [.t 25,.n 7],.m 4 26])))⟩
def fn172:aj:=gA 172
def fn173:aj:=⟨31,2,[(4,none)],(.s [.p 2 0,.p 3 1,.o 4 (.dq .z)] (.s [.y 6 (.load (some 7) (.t 2)),.y 7 (.bP 2 (.t 3)),.j 8 7,.y 9 (.bT 1 (.t 8) .w),.j 10 9,.c 11 124 [.t 6,.t 10],.c 12 125 [.t 11],.m 5 12] (.r [.y 13 (.load (some 7) (.t 2)),.y 14 (.bP 2 (.t 3)),.j 15 14,.y 16 (.bT 1 (.t 15) .w),.j 17 16,.y 18 (.call (.f 251) [.t 13,.t 17]),.y 19 (.call (.f 85) [.t 18,.n 23]),.w 20 5,.y 21 (.len .sl (.t 20)),.y 22 (.bin .gtr (.t 21) .z),.y 23 (.call (.f 85) [.t 22,.n 32]),.y 24 (.bP 6 (.t 2)),.j 25 24,.y 26 (.len .sl (.t 25)),.y 27 (.bin .geq (.t 26) (.n 16)),.c 28 85 [.t 27,.n 5],.o 29 (.aY 1 3 [.int .i64 0] [(0,.t 19),(1,.t 23),(2,.t 28)]),.c 30 74 [.t 29],.m 4 30])))⟩
def fn174:aj:=⟨32,2,[],(.s [.p 3 1] (.ops [.m 4 0,.m 5 0,.o 6 (.bu (.t 5)),.a 7 6 6,.l 8 7,.a 9 2 3,.l 10 9,.o 11 (.bT 1 (.t 10) .z),.l 12 11,.a 13 2 3,.l 14 13,.o 15 (.bT 1 (.t 14) .w),.l 16 15,.m 17 0,.o 18 (.bu (.t 17)),.r 19 7 18,.a 20 2 3,.l 21 20,.o 22 (.bT 1 (.t 21) .w),.l 23 22,.y 24 (.call (.f 124) [.t 19,.t 23]),.o 25 (.part none 2 (.t 24)),.y 26 (.call (.f 95) [.t 25]),.o 27 (.build [.str [],.str [],.int .i64 0,.bool false] [(0,1,.t 12),(1,1,.t 16),(2,1,.t 26)]),.o 28 (.aY 4 1 [.str [],.str [],.int .i64 0,.bool false] [(0,.t 27)]),.o 29 (.app 4 48 (.t 8) (.t 28)),.o 30 (.bu (.t 4)),.a 31 6 30,.s 1 31 29]))⟩
def fn175:aj:=gA 175
def fn176:aj:=wA 6 146 4 3
def fn177:aj:=gA 177
def fn178:aj:=gA 178
def fn179:aj:=gA 179
def fn180:aj:=gA 180
def fn181:aj:=gA 181
def fn182:aj:=gA 182
def fn183:aj:=gA 183
def fn184:aj:=gA 184
def fn185:aj:=gA 185
def fn186:aj:=gA 186
def fn187:aj:=gA 187
def fn188:aj:=gA 188
def fn189:aj:=gA 189
def fn190:aj:=gA 190
def fn191:aj:=gA 191
def fn192:aj:=gA 192
def fn193:aj:=gA 193
def fn194:aj:=gA 194
def fn197:aj:=gA 197
def fn198:aj:=gA 198
def fn199:aj:=gA 199
def fn200:aj:=gA 200
def fn201:aj:=gA 201
def fn202:aj:=gA 202
def fn203:aj:=gA 203
def fn204:aj:=gA 204
def fn205:aj:=gA 205
def fn206:aj:=gA 206
def fn207:aj:=gA 207
def fn208:aj:=gA 208
def fn213:aj:=gA 213
def fn214:aj:=gA 214
def fn215:aj:=gA 215
def fn216:aj:=gA 216
def fn217:aj:=gA 217
def fn218:aj:=gA 218
def fn219:aj:=gA 219
def fn221:aj:=gA 221
def fn222:aj:=gA 222
def fn228:aj:=gA 228
def fn229:aj:=gA 229
def fn230:aj:=gA 230
def fn231:aj:=gA 231
def fn232:aj:=gA 232
def fn233:aj:=gA 233
def fn234:aj:=gA 234
def fn235:aj:=gA 235
def fn236:aj:=gA 236
def fn237:aj:=gA 237
def fn238:aj:=gA 238
def fn239:aj:=gA 239
def fn240:aj:=gA 240
def fn241:aj:=gA 241
def fn242:aj:=gA 242
def fn243:aj:=gA 243
def fn244:aj:=gA 244
def fn245:aj:=gA 245
def fn246:aj:=gA 246
def fn247:aj:=gA 247
def fn248:aj:=gA 248
def fn249:aj:=⟨28,2,[(4,none)],(.s [.p 2 0,.p 3 1,.o 4 (.dq .z)] (.r [.y 5 (.load (some 7) (.t 2)),.y 6 (.bP 2 (.t 3)),.j 7 6,.y 8 (.bT 1 (.t 7) .z),.j 9 8,.y 10 (.call (.f 251) [.t 5,.t 9]),.y 11 (.call (.f 85) [.t 10,.n 23]),.y 12 (.bP 3 (.t 3)),.j 13 12,.y 14 (.bT 1 (.t 13) .w),.j 15 14,.y 16 (.load (some 7) (.t 2)),.y 17 (.bP 2 (.t 3)),.j 18 17,.y 19 (.bT 1 (.t 18) .z),.j 20 19,.y 21 (.call (.f 124) [.t 16,.t 20]),.y 22 (.part none 2 (.t 21)),.y 23 (.len .sl (.t 22)),.y 24 (.bin .sub (.t 23) .w),.c 25 94 [.t 15,.z,.t 24],.o 26 (.aY 1 2 [.int .i64 0] [(0,.t 11),(1,.t 25)]),.c 27 74 [.t 26],.m 4 27]))⟩
def fn250:aj:=⟨28,3,[],(.s [.p 4 1] (.ops [.w 6 0,.y 7 (.bu (.t 6)),.y 8 (.bP 5 (.t 7)),.j 9 8,.w 10 0,.y 11 (.bu (.t 10)),.y 12 (.bP 5 (.t 11)),.j 13 12,.y 14 (.bP 2 (.t 4)),.j 15 14,.y 16 (.bT 1 (.t 15) .z),.j 17 16,.y 18 (.call (.f 145) [.t 13,.t 17]),.y 19 (.bT 3 (.t 9) (.t 18)),.y 20 (.bP 2 (.t 19)),.j 21 20,.y 22 (.bP 3 (.t 4)),.j 23 22,.y 24 (.bT 1 (.t 23) .w),.j 25 24,.w 26 2,.h 27 1 21 25,.s 1 27 26]))⟩
def fn251:aj:=gA 251
def fn252:aj:=gA 252
def fn253:aj:=gA 253
def fn254:aj:=gA 254
def fn255:aj:=gA 255
def fn259:aj:=gA 259
def fn266:aj:=gA 266
def fn267:aj:=gA 267
def fn268:aj:=gA 268
def Eg:aj:=⟨8,1,[(3,none)],(.s [.p 2 0,.o 3 (.dq .F)] (.r [.a 4 1 2,.l 5 4,.l 6 1,.u 7 .eql 5 6,.m 3 7]))⟩
def fn269:aj:=Eg
def Il(x0:Nat):aj:=⟨8,2,[(4,none)],(.s [.o 4 (.dq .z)] (.r [.m 5 0,.m 6 1,.c 7 x0 [.t 5,.t 6],.m 4 7]))⟩
def fn272:aj:=Il 288
def fn286:aj:=gA 286
def fn322:aj:=gA 322
def fn323:aj:=gA 323
def fn324:aj:=gA 324
abbrev Cf(P:Program)(n:Nat)(A:aj):Prop:=bz P n=some A
structure eF(P:Program):Prop where
 mix:P.follows .mixedOrders=true
 m123:gM P 78 "moveout/house.name" =some 123
 m322:gM P 73 "moveout/house.name" =some 322
 m140:gM P 74 "moveout/house.name" =some 140
 m120:gM P 134 "moveout/house.name" =some 120
 m324:gM P 136 "moveout/house.name" =some 324
 m323:gM P 130 "moveout/house.name" =some 323
 c2:Cf P 2 fn2
 c3:Cf P 3 fn3
 c4:Cf P 4 fn4
 c6:Cf P 6 fn6
 c14:Cf P 14 fn14
 c15:Cf P 15 fn15
 c16:Cf P 16 fn16
 c17:Cf P 17 fn17
 c19:Cf P 19 fn19
 c20:Cf P 20 fn20
 c21:Cf P 21 fn21
 c25:Cf P 25 fn25
 c26:Cf P 26 fn26
 c27:Cf P 27 fn27
 c32:Cf P 32 fn32
 c36:Cf P 36 fn36
 c37:Cf P 37 fn37
 c38:Cf P 38 fn38
 c39:Cf P 39 fn39
 c40:Cf P 40 fn40
 c43:Cf P 43 fn43
 c44:Cf P 44 fn44
 c45:Cf P 45 fn45
 c51:Cf P 51 fn51
 c62:Cf P 62 fn62
 c64:Cf P 64 fn64
 c67:Cf P 67 fn67
 c70:Cf P 70 fn70
 c71:Cf P 71 fn71
 c72:Cf P 72 fn72
 c73:Cf P 73 fn73
 c74:Cf P 74 fn74
 c75:Cf P 75 fn75
 c76:Cf P 76 fn76
 c77:Cf P 77 fn77
 c78:Cf P 78 fn78
 c79:Cf P 79 fn79
 c80:Cf P 80 fn80
 c82:Cf P 82 fn82
 c83:Cf P 83 fn83
 c85:Cf P 85 fn85
 c86:Cf P 86 fn86
 c87:Cf P 87 fn87
 c88:Cf P 88 fn88
 c89:Cf P 89 fn89
 c90:Cf P 90 fn90
 c91:Cf P 91 fn91
 c92:Cf P 92 fn92
 c93:Cf P 93 fn93
 c94:Cf P 94 fn94
 c95:Cf P 95 fn95
 c96:Cf P 96 fn96
 c97:Cf P 97 fn97
 c98:Cf P 98 fn98
 c99:Cf P 99 fn99
 c100:Cf P 100 fn100
 c101:Cf P 101 fn101
 c102:Cf P 102 fn102
 c103:Cf P 103 fn103
 c105:Cf P 105 fn105
 c107:Cf P 107 fn107
 c108:Cf P 108 fn108
 c109:Cf P 109 fn109
 c110:Cf P 110 fn110
 c111:Cf P 111 fn111
 c112:Cf P 112 fn112
 c113:Cf P 113 fn113
 c114:Cf P 114 fn114
 c115:Cf P 115 fn115
 c116:Cf P 116 fn116
 c117:Cf P 117 fn117
 c118:Cf P 118 fn118
 c119:Cf P 119 fn119
 c120:Cf P 120 fn120
 c121:Cf P 121 fn121
 c122:Cf P 122 fn122
 c123:Cf P 123 fn123
 c124:Cf P 124 fn124
 c125:Cf P 125 fn125
 c126:Cf P 126 fn126
 c128:Cf P 128 fn128
 c130:Cf P 130 fn130
 c131:Cf P 131 fn131
 c132:Cf P 132 fn132
 c133:Cf P 133 fn133
 c134:Cf P 134 fn134
 c135:Cf P 135 fn135
 c136:Cf P 136 fn136
 c137:Cf P 137 fn137
 c138:Cf P 138 fn138
 c139:Cf P 139 fn139
 c140:Cf P 140 fn140
 c142:Cf P 142 fn142
 c143:Cf P 143 fn143
 c144:Cf P 144 fn144
 c145:Cf P 145 fn145
 c146:Cf P 146 fn146
 c147:Cf P 147 fn147
 c148:Cf P 148 fn148
 c149:Cf P 149 fn149
 c150:Cf P 150 fn150
 c151:Cf P 151 fn151
 c152:Cf P 152 fn152
 c153:Cf P 153 fn153
 c154:Cf P 154 fn154
 c155:Cf P 155 fn155
 c156:Cf P 156 fn156
 c157:Cf P 157 fn157
 c158:Cf P 158 fn158
 c159:Cf P 159 fn159
 c160:Cf P 160 fn160
 c161:Cf P 161 fn161
 c162:Cf P 162 fn162
 c163:Cf P 163 fn163
 c164:Cf P 164 fn164
 c165:Cf P 165 fn165
 c166:Cf P 166 fn166
 c167:Cf P 167 fn167
 c168:Cf P 168 fn168
 c169:Cf P 169 fn169
 c170:Cf P 170 fn170
 c171:Cf P 171 fn171
 c172:Cf P 172 fn172
 c173:Cf P 173 fn173
 c174:Cf P 174 fn174
 c175:Cf P 175 fn175
 c176:Cf P 176 fn176
 c177:Cf P 177 fn177
 c178:Cf P 178 fn178
 c179:Cf P 179 fn179
 c180:Cf P 180 fn180
 c181:Cf P 181 fn181
 c182:Cf P 182 fn182
 c183:Cf P 183 fn183
 c184:Cf P 184 fn184
 c185:Cf P 185 fn185
 c186:Cf P 186 fn186
 c187:Cf P 187 fn187
 c188:Cf P 188 fn188
 c189:Cf P 189 fn189
 c190:Cf P 190 fn190
 c191:Cf P 191 fn191
 c192:Cf P 192 fn192
 c193:Cf P 193 fn193
 c194:Cf P 194 fn194
 c197:Cf P 197 fn197
 c198:Cf P 198 fn198
 c199:Cf P 199 fn199
 c200:Cf P 200 fn200
 c201:Cf P 201 fn201
 c202:Cf P 202 fn202
 c203:Cf P 203 fn203
 c204:Cf P 204 fn204
 c205:Cf P 205 fn205
 c206:Cf P 206 fn206
 c207:Cf P 207 fn207
 c208:Cf P 208 fn208
 c213:Cf P 213 fn213
 c214:Cf P 214 fn214
 c215:Cf P 215 fn215
 c216:Cf P 216 fn216
 c217:Cf P 217 fn217
 c218:Cf P 218 fn218
 c219:Cf P 219 fn219
 c221:Cf P 221 fn221
 c222:Cf P 222 fn222
 c228:Cf P 228 fn228
 c229:Cf P 229 fn229
 c230:Cf P 230 fn230
 c231:Cf P 231 fn231
 c232:Cf P 232 fn232
 c233:Cf P 233 fn233
 c234:Cf P 234 fn234
 c235:Cf P 235 fn235
 c236:Cf P 236 fn236
 c237:Cf P 237 fn237
 c238:Cf P 238 fn238
 c239:Cf P 239 fn239
 c240:Cf P 240 fn240
 c241:Cf P 241 fn241
 c242:Cf P 242 fn242
 c243:Cf P 243 fn243
 c244:Cf P 244 fn244
 c245:Cf P 245 fn245
 c246:Cf P 246 fn246
 c247:Cf P 247 fn247
 c248:Cf P 248 fn248
 c249:Cf P 249 fn249
 c250:Cf P 250 fn250
 c251:Cf P 251 fn251
 c252:Cf P 252 fn252
 c253:Cf P 253 fn253
 c254:Cf P 254 fn254
 c255:Cf P 255 fn255
 c259:Cf P 259 fn259
 c266:Cf P 266 fn266
 c267:Cf P 267 fn267
 c268:Cf P 268 fn268
 c269:Cf P 269 fn269
 c272:Cf P 272 fn272
 c286:Cf P 286 fn286
 c322:Cf P 322 fn322
 c323:Cf P 323 fn323
 c324:Cf P 324 fn324
end Go.Abs
