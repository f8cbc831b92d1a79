/- A part of the proof that HouseTorn holds. No condition. -/
import Derived.Test.YtgplmdgpmbegiaaGreatDoorTo2
import Derived.RangeFuncRecord
import Derived.Test.YtgplmdgpmbegiaaGreatDoorTo0
set_option maxHeartbeats 4000000
set_option linter.all false
open Nat (reduceAdd reduceMul reduceLeDiff reduceEqDiff)
namespace Go.Abs
def rC(listed:Array Bool):Nat->Nat
 | 0=>0
 |n+1=>rC listed n+(if listed.getD n false then 0 else 1)
def c9{listed:Array Bool}{i j:Nat}(hi:i<listed.size):(listed.setIfInBounds i true).getD j false=(if j=i then true else listed.getD j false):=by
 by_cases h:j=i
 ·subst h;simp[aa3,abx hi]
 ·rw[aao h];simp[aa3,ab5 (abG h)]
theorem Cm{listed:Array Bool}{i:Nat}(hi:i<listed.size):∀n,n<=i->rC (listed.setIfInBounds i true) n=rC listed n
 | 0,_=>rfl
 |n+1,h=>by
  simp only[rC];rw[Cm hi n Om,c9 hi,aao (by omega:¬n=i)]
theorem Cl{listed:Array Bool}{i:Nat}(hi:i<listed.size)(hn:listed.getD i false=false):∀n,i<n->rC (listed.setIfInBounds i true) n+1=rC listed n
 | 0,h=>absurd h Om
 |n+1,h=>by
  simp only[rC];rw[c9 hi];by_cases e:n=i
  ·subst e;rw[Cm hi n (aar _),aas rfl,hn];simp
  ·rw[aao e];have:=Cl hi hn n Om;omega
theorem lU{listed}:∀n,rC listed n=0->∀i,i<n->listed.getD i false=true
 | 0,_,i,hi=>absurd hi Om
 |n+1,h,i,hi=>by
  simp only[rC]at h;by_cases e:i=n
  ·subst e;cases hl:listed.getD i false with
   |true=>rfl
   |false=>rw[hl]at h;simp at h
  ·exact lU n Om i Om
def cw.db(m:cw)(n:Nat):cw:=λb=>if b<n then m b else none
def cw.patch(m1 m:cw)(n:Nat):cw:=λb=>if b<n then m1 b else m b
mutual
theorem VR.cut{ma m n}(hd:∀b e,ma b=some e->b<n):∀(x:AV) (va v:Value),VR ma x va->VR m x v->VR (m.db n) x v
 |.bool _,_,_,_,hv=>hv
 |.int _ _,_,_,_,hv=>hv
 |.yl _ _,_,_,_,hv=>hv
 |.ya _ _ _,_,_,_,hv=>hv
 |.str _,_,_,_,hv=>hv
 |.ptr b o,va,v,ha,hv=>by
  exact R4
 |.nilPtr,_,_,_,hv=>hv
 |.slice b o n' es,va,v,ha,hv=>by
  rw[VR]at ha hv ⊢;obtain⟨e,_,_,he,_⟩:=ha;obtain⟨e',ca,cap,Ue,hv⟩:=hv;exact⟨e',ca,cap,by unfold cw.db;rw[aas (hd _ _ he)];exact Ue,hv⟩
 |.af,_,_,_,hv=>hv
 |.map r,va,v,ha,hv=>by
  exact R4
 |.dq,_,_,_,hv=>hv
 |.func f a c,va,v,ha,hv=>by
  rw[VR]at ha hv ⊢;obtain⟨f1,a1,c1,_,Xg,ha1,hc1⟩:=ha;obtain⟨f2,a2,c2,hv,Wa,ha2,hc2⟩:=hv;refine⟨f2,a2,c2,hv,?_,cL.cut hd a _ _ ha1 ha2,cL.cut hd c _ _ hc1 hc2⟩;cases f<;>simp only[B3]at Xg Wa ⊢<;>try exact Wa
  obtain⟨e,he,_⟩:=Xg;obtain⟨e',Ue,hg⟩:=Wa;exact⟨e',by unfold cw.db;rw[aas (hd _ _ he)];exact Ue,hg⟩
 |.nilFunc,_,_,_,hv=>hv
 |.vU u a,va,v,ha,hv=>by
  rw[VR]at ha hv ⊢;obtain⟨v1,_,h1⟩:=ha;obtain⟨v2,hv,h2⟩:=hv;exact⟨v2,hv,VR.cut hd a _ _ h1 h2⟩
 |.k8,_,_,_,hv=>hv
 |.agg l,va,v,ha,hv=>by
  exact z116
 |.dQ l,va,v,ha,hv=>by
  exact z116
theorem cL.cut{ma m n}(hd:∀b e,ma b=some e->b<n):∀(l:List AV) (va vs:List Value),cL ma l va->cL m l vs->cL (m.db n) l vs
 |[],_,_,_,hv=>hv
 |x::xs,va,vs,ha,hv=>by
  obtain⟨y1,ys1,_,a1,a2⟩:=aQ.1 ha;obtain⟨y2,ys2,h,b1,b2⟩:=aQ.1 hv;exact aQ.2 ⟨y2,ys2,h,VR.cut hd x _ _ a1 b1,cL.cut hd xs _ _ a2 b2⟩
end
def je(n:Nat)(x:AV):Prop:=∃(ma:cw) (va:Value),(∀b e,ma b=some e->b<n)/\VR ma x va
def Aw(n:Nat)(l:List AV):Prop:=∃(ma:cw) (va:List Value),(∀b e,ma b=some e->b<n)/\cL ma l va
def mA(n:Nat):ak->Prop
 |.cells c _ _=>∀(i:Nat) (x:AV),c[i]? =some x->je n x
 |.bg es=>∀(i:Nat) (p:AV×AV),es[i]? =some p->je n p.1/\je n p.2
 |.loop _ _ ts _ _ _=>Aw n ts
 |_=>True
def je.mono{n k}(hnk:n<=k){x}(h:je n x):je k x:=by
 exact z124
theorem mA.mono{n k}(hnk:n<=k){x}(h:mA n x):mA k x:=by
 cases x with
 |cells c mu tl=>exactλi x hx=>(h i x hx).mono hnk
 |bg es=>exactλi p hp=>⟨(h i p hp).1.mono hnk,(h i p hp).2.mono hnk⟩
 |loop a b c d e f=>
  exact z124
 |_=>trivial
def BR.je{P m w e k n}(h:BR P m w e k)(hd:∀b e,m b=some e->b<n):mA n k:=by
 cases k with
 |cells c mu tl=>
  obtain⟨cc,el,fz,_,_,h3,_⟩:=h;intro i x hx;obtain⟨_,v,_,hv⟩:=h3 i x hx;exact⟨m,v,hd,hv⟩
 |bg es=>
  obtain⟨_,Vv,clock,_,_,h3⟩:=h;intro i p hp;obtain⟨q,_,h1,h2⟩:=h3 i p hp;exact⟨⟨m,_,hd,h1⟩,⟨m,_,hd,h2⟩⟩
 |loop st ex ts ps asg body=>
  obtain⟨_,fn,tmps,Uq,TP,df,_,h2,_⟩:=h;exact⟨m,_,hd,h2⟩
 |_=>trivial
theorem BR.cut{P m w e k n}(h:BR P m w e k)(hc:mA n k):BR P (m.db n) w e k:=by
 cases k with
 |cells c mu tl=>
  obtain⟨cc,el,fz,h1,h2,h3,h4⟩:=h;exact⟨cc,el,fz,h1,h2,λi x hx=>by
   obtain⟨ho,v,hv,hr⟩:=h3 i x hx;obtain⟨ma,va,hd,ha⟩:=hc i x hx;exact⟨ho,v,hv,VR.cut hd _ _ _ ha hr⟩,h4⟩
 |dead=>trivial
 |bg es=>
  obtain⟨ho,Vv,clock,h1,h2,h3⟩:=h;exact⟨ho,Vv,clock,h1,h2,λi p hp=>by
   obtain⟨q,hq,ha,hb⟩:=h3 i p hp;obtain⟨⟨ma,va,hd,YH⟩,⟨mb,vb,TW,hb'⟩⟩:=hc i p hp;exact⟨q,hq,VR.cut hd _ _ _ YH ha,VR.cut TW _ _ _ hb' hb⟩⟩
 |iter s pos=>exact h
 |loop st ex ts ps asg body=>
  obtain⟨ho,fn,tmps,Uq,TP,df,h1,h2,h3,h4⟩:=h;obtain⟨ma,va,hd,ha⟩:=hc;exact⟨ho,fn,tmps,Uq,TP,df,h1,cL.cut hd _ _ _ ha h2,h3,h4⟩
structure tI(P:Program)(l:List bO)(T:Nat->TS)(H:Nat->ah)(m0:cw)(w0:World)(S:Nat->Bool)(β θ:Nat)(m:cw)(ta:Array Value)(w:World):Prop where
 βθ:β<=θ
 θn:θ<=l.length
 low:∀j,j<β->S j=true
 high:∀j,S j=true->j<θ
 quiet:∀j,β<=j->j<θ->∃g,H (j+1)=H j++g
 len:∀j,j<θ->(H j).length<=(H (j+1)).length
 hr:HR P m (H θ) w
 OQ:∀j,j<θ->S j=false->∀b,(H j).length<=b->b<(H (j+1)).length->m b=none
 je:∀i,β<=i->i<=θ->∀b e k,b<(H i).length->m b=some e->(H θ)[b]? =some k->mA (H i).length k
 apart:∀j,β<=j->j<θ->∀b b' e e',(H j).length<=b->b<(H (j+1)).length->¬((H j).length<=b'/\b'<(H (j+1)).length)->m b=some e->m b' =some e'->e.cb≠e'.cb
 grow:Grow m0 (H 0) w0 m (H θ) w
 size:ta.size=(T 0).length
 zG:∀d,(∀j o,l[j]? =some o->S j=true->o.dst≠some d)->VR m0 ((T 0).getD d az) (ta.getD d undef)
 zF:∀d j o,l[j]? =some o->S j=true->o.dst=some d->VR (m.db (H (j+1)).length) ((T (j+1)).getD d az) (ta.getD d undef)
theorem w7{H:Nat->ah}{θ:Nat}(h:∀j,j<θ->(H j).length<=(H (j+1)).length){i:Nat}:∀k,i+k<=θ->(H i).length<=(H (i+k)).length
 | 0,_=>aar _
 |k+1,hk=>aa5 (w7 h k Om) (h (i+k) Om)
def fP{H:Nat->ah}{θ:Nat}(h:∀j,j<θ->(H j).length<=(H (j+1)).length){i j:Nat}(hij:i<=j)(hj:j<=θ):(H i).length<=(H j).length:=by
 have:=w7 h (i:=i) (j-i) Om
 rwa [show i+(j-i)=j from by omega]at this
theorem tX{H:Nat->ah}{β θ:Nat}(h:∀j,β<=j->j<θ->∃g,H (j+1)=H j++g){i:Nat}(hi:β<=i):∀k,i+k<=θ->∃g,H (i+k)=H i++g
 | 0,_=>⟨[],Si⟩
 |k+1,hk=>by
  obtain⟨g,hg⟩:=tX h hi k Om;obtain⟨g',TN⟩:=h (i+k) Om Om;exact⟨g++g',by rw[show i+(k+1)=i+k+1 from by omega,TN,hg,aae]⟩
def nK{H:Nat->ah}{β θ:Nat}(h:∀j,β<=j->j<θ->∃g,H (j+1)=H j++g){i j:Nat}(hi:β<=i)(hij:i<=j)(hj:j<=θ):∃g,H j=H i++g:=by
 have:=tX h hi (j-i) Om
 rwa [show i+(j-i)=j from by omega]at this
theorem xJ{H:Nat->ah}{i:Nat}:∀(k:Nat) {b:Nat},(H i).length<=b->b<(H (i+k)).length->∃j,i<=j/\j<i+k/\(H j).length<=b/\b<(H (j+1)).length
 | 0,b,h1,h2=>by simp at h2;omega
 |k+1,b,h1,h2=>by
  by_cases h:b<(H (i+k)).length
  ·obtain⟨j,a1,a2,a3⟩:=xJ k h1 h;exact⟨j,a1,Om,a3⟩
  ·exact⟨i+k,Om,Om,Om,by rw[show i+k+1=i+(k+1)from by omega];exact h2⟩
section
variable {P:Program}{m m1:cw}{h:ah}{w:World}
def cw.fu(m:cw)(n:Nat):(m.db n).le m:=by
 intro b e hb;unfold cw.db at hb;split at hb
 ·exact hb
 ·cases hb
def cw.AO(m:cw){n k}(hnk:n<=k):(m.db n).le (m.db k):=by
 intro b e hb;unfold cw.db at hb ⊢;split at hb
 ·rw[aas Om];exact hb
 ·cases hb
theorem HR.db{g}(hr:HR P m (h++g) w)(hgl:P.globals.size<=h.length)(hc:∀b e k,b<h.length->m b=some e->h[b]? =some k->mA h.length k):HR P (m.db h.length) h w where
 cM:=λb e hb=>by unfold cw.db at hb;split at hb<;>first|assumption|cases hb
 dW:=λb e k hb hk=>by
  unfold cw.db at hb;split at hb
  case isFalse=>cases hb
  rename_i hlt;exact(hr.dW b e k hb (by rw[aag hlt];exact hk)).cut (hc b e k hlt hb hk)
 sep:=λb1 b2 e1 e2 k1 k2 hne h1 h2 hk1 Tr hcb=>by
  have d1:b1<h.length:=(aad.1 hk1).1;have d2:b2<h.length:=(aad.1 Tr).1;exact hr.sep b1 b2 e1 e2 k1 k2 hne (cw.fu m _ _ _ h1) (cw.fu m _ _ _ h2) (by rw[aag d1];exact hk1) (by rw[aag d2];exact Tr) hcb
 fS:=λg hg=>by
  obtain⟨e,he,hx⟩:=hr.fS g hg;exact⟨e,by unfold cw.db;rw[aas Om];exact he,hx⟩
 lt:=λb e hb=>hr.lt b e (cw.fu m _ _ _ hb)
def HR.H3(hr:HR P m h w):P.globals.size<=h.length:=by
 by_cases hz:P.globals.size=0
 ·omega
 ·obtain⟨e,he,_⟩:=hr.fS (P.globals.size-1) Om;have:=hr.cM _ _ he;omega
variable {l:List bO}{T:Nat->TS}{H:Nat->ah}{m0:cw}{w0:World}{S:Nat->Bool}{β θ:Nat}{ta:Array Value}
def tI.raise(M:tI P l T H m0 w0 S β θ m ta w){θ':Nat}(h1:θ<=θ')(h2:θ'<=l.length)(hq:∀j,θ<=j->j<θ'->∃g,H (j+1)=H j++g):tI P l T H m0 w0 S β θ' m ta w:=by
 have YZ:∀j,β<=j->j<θ'->∃g,H (j+1)=H j++g:=λj hj YC=>by
  by_cases hx:j<θ
  ·exact M.quiet j hj hx
  ·exact hq j Om YC
 have hlen:∀j,j<θ'->(H j).length<=(H (j+1)).length:=λj hj=>by
  by_cases hx:j<θ
  ·exact M.len j hx
  ·obtain⟨g,hg⟩:=hq j Om hj;rw[hg];simp
 obtain⟨g,hg⟩:=nK YZ M.βθ h1 (aar _);have Ty:∀b,b<(H θ).length->(H θ')[b]? =(H θ)[b]? :=λb hb=>by rw[hg,aag hb]
 have hdom:∀b e,m b=some e->b<(H θ).length:=M.hr.cM;refine⟨aa5 M.βθ h1,h2,M.low,λj hj=>aa7 (M.high j hj) h1,YZ,hlen,⟨?_,?_,?_,M.hr.fS,M.hr.lt⟩,?_,?_,?_,⟨M.grow.ext,fP hlen (aaQ _) (aar _),?_,?_,M.grow.size,M.grow.os,M.grow.out,M.grow.tape,M.grow.frame⟩,M.size,M.zG,M.zF⟩
 ·intro b e hb;have:=hdom b e hb;rw[hg];simp;omega
 ·intro b e k hb hk;exact M.hr.dW b e k hb (by rwa [Ty b (hdom b e hb)]at hk)
 ·intro b1 b2 e1 e2 k1 k2 hne a1 a2 hk1 Tr hcb;exact M.hr.sep b1 b2 e1 e2 k1 k2 hne a1 a2 (by rwa [Ty b1 (hdom _ _ a1)]at hk1) (by rwa [Ty b2 (hdom _ _ a2)]at Tr) hcb
 ·intro j hj hs b hb hb';by_cases hx:j<θ
  ·exact M.OQ j hx hs b hb hb'
  ·cases Uv:m b with
   |none=>rfl
   |some e=>
    exact LM
 ·intro i hi hi' b e k hb Uv hk;rw[Ty b (hdom b e Uv)]at hk;by_cases hx:i<=θ
  ·exact M.je i hi hx b e k hb Uv hk
  ·have a2:=fP hlen (i:=θ) (j:=i) Om Om;exact(M.je θ M.βθ (aar _) b e k (hdom b e Uv) Uv hk).mono a2
 ·intro j hj YC b b' e e' hb TV hb' Uv XE;by_cases hx:j<θ
  ·exact M.apart j hj hx b b' e e' hb TV hb' Uv XE
  ·exact LM
 ·intro b e hb Uv;obtain⟨ho,hc⟩:=M.grow.new b e hb Uv;refine⟨ho,hc.imp id ?_⟩;rintro⟨b0,e0,c1,c2,c3,c4,c5⟩;refine⟨b0,e0,c1,c2,c3,c4,?_⟩;have d0:b0<(H θ).length:=by
   cases hx:m0 b0 with
   |none=>rw[hx]at c1;cases c1
   |some e0'=>
    have:b0<(H 0).length:=by
     cases ht:(H 0)[b0]? with
     |none=>unfold eI at c4;rw[ht]at c4;cases c4
     |some k=>exact(aad.1 ht).1
    exact aa7 this (fP hlen (aaQ _) h1)
  unfold eI at c5 ⊢;rw[Ty b0 d0];exact c5
 ·intro b hb ht;refine M.grow.tl b hb ?_;unfold eI at ht ⊢
  rwa [Ty b (aa7 hb (fP hlen (aaQ _) h1))]at ht
end
def iu(ta:Array Value)(d:Option Nat)(cv:Value):Array Value:=
 match d with
 |some d=>ta.setIfInBounds d cv
 |none=>ta
def fj(ta:Array Value)(d:Option Nat)(cv:Value):(iu ta d cv).size=ta.size:=by cases d<;>simp[iu]
def dL{ta d cv t}(h:d≠some t):(iu ta d cv).getD t undef=ta.getD t undef:=by
 cases d with
 |none=>rfl
 |some d=>
  have hne:d≠t:=λx=>h (by rw[x])
  simp[iu,aa3,ab5 hne]
def yT{ts d v t}(h:d≠some t):(put ts d v).getD t az=ts.getD t az:=by
 cases d with
 |none=>rfl
 |some d=>
  have hne:d≠t:=λx=>h (by rw[x])
  simp[put,List.getD,aau hne]
def mg{m ts ta d v cv}(hs:ta.size=ts.length)(hv:VR m v cv):VR m ((put ts (some d) v).getD d az) ((iu ta (some d) cv).getD d undef):=by
 by_cases h:d<ts.length
 ·have h':d<ta.size:=Om
  simp only[put,iu,List.getD,aa3];rw[aaw h,abx h'];exact hv
 ·have h':¬d<ta.size:=Om
  simp only[put,iu,List.getD,aa3];rw[abZ (by simp;omega),abS (by simp;omega)];exact kv m
def mark(S:Nat->Bool)(i:Nat):Nat->Bool:=λj=>if j=i then true else S j
section
variable {P:Program}{l:List bO}{T:Nat->TS}{H:Nat->ah}{m0 m m1:cw}{w0 w w1:World}{S:Nat->Bool}{β θ i:Nat}{ta:Array Value}
def tI.cut(M:tI P l T H m0 w0 S β θ m ta w)(hG:P.globals.size<=(H 0).length)(hi:β<=i)(hi':i<=θ):HR P (m.db (H i).length) (H i) w:=by
 obtain⟨g,hg⟩:=nK M.quiet hi hi' (aar _);have hr:HR P m (H i++g) w:=by rw[<-hg];exact M.hr
 refine hr.db (aa5 hG (fP M.len (aaQ _) hi')) ?_;intro b e k hb Uv hk;exact M.je i hi hi' b e k hb Uv (by rw[hg,aag hb];exact hk)
def tI.HQ(M:tI P l T H m0 w0 S β θ m ta w)(hG:P.globals.size<=(H 0).length)(hi:β<=i)(hi':i<θ)(hS:S i=false){io}(hio:l[i]? =some io)
  (hr1:HR P m1 (H (i+1)) w1) (gext:∀b,b<(H i).length->m1 b=(m.db (H i).length) b) (hnew0:∀b e,(H i).length<=b->m1 b=some e->e.own=true/\w0.heap.size<=e.cb/\∀b' e',m b' =some e'->e'.cb≠e.cb)
  (hfr:∀x,x<w.heap.size->(∀b e,(m.db (H i).length) b=some e->e.own=true->e.cb≠x)->(∀b e,(H i).length<=b->m1 b=some e->e.cb≠x)->w1.heap[x]? =w.heap[x]?)
  (dV:w.heap.size<=w1.heap.size) (hos:w1.os=w.os) (hout:w1.output=w.output) (htape:w1.tape=w.tape) {v}{cv}(hv:VR m1 v cv) (hTi:T (i+1)=put (T i) io.dst v) (hTl:(T i).length=(T 0).length)
  (huniq:∀j o d,j≠i->l[j]? =some o->o.dst=some d->io.dst≠some d):tI P l T H m0 w0 (mark S i) β θ (m1.patch m (H (i+1)).length) (iu ta io.dst cv) w1:=by
 have UU:∀a b,a<=b->b<=θ->(H a).length<=(H b).length:=λa b hab hb=>fP M.len hab hb
 have hi1:=M.len i hi';have hi2:=UU (i+1) θ Om (aar _);have h0i:=UU 0 i Om Om;obtain⟨gi,hgi⟩:=M.quiet i hi hi';obtain⟨gt,Wv⟩:=nK M.quiet (show β<=i+1 by omega) (show i+1<=θ by omega) (aar _);have f3:∀b,b<(H (i+1)).length->(m1.patch m (H (i+1)).length) b=m1 b:=λb hb=>by unfold cw.patch;rw[aas hb]
 have f1:∀b,b<(H i).length->(m1.patch m (H (i+1)).length) b=m b:=λb hb=>by
  rw[f3 b Om,gext b hb];unfold cw.db;rw[aas hb]
 have f2:∀b,(H (i+1)).length<=b->(m1.patch m (H (i+1)).length) b=m b:=λb hb=>by unfold cw.patch;rw[aao Om]
 have fgap:∀b,(H i).length<=b->b<(H (i+1)).length->m b=none:=M.OQ i hi' hS;have VU:m.le (m1.patch m (H (i+1)).length):=λb e hb=>by
  by_cases h1:b<(H i).length
  ·rw[f1 b h1];exact hb
  ·by_cases h2:b<(H (i+1)).length
   ·rw[fgap b Om h2]at hb;cases hb
   ·rw[f2 b Om];exact hb
 have m1le:m1.le (m1.patch m (H (i+1)).length):=λb e hb=>by rw[f3 b (hr1.cM b e hb)];exact hb
 have hnew:∀b e,(H i).length<=b->b<(H (i+1)).length->(m1.patch m (H (i+1)).length) b=some e->e.own=true/\w0.heap.size<=e.cb/\∀b' e',m b' =some e'->e'.cb≠e.cb:=λb e hb hb' hm=>by
  rw[f3 b hb']at hm;exact hnew0 b e hb hm
 have hold:∀b e,m b=some e->e.cb<w.heap.size:=M.hr.lt;have hframe:∀b e,(H (i+1)).length<=b->m b=some e->w1.heap[e.cb]? =w.heap[e.cb]? :=λb e hb hm=>by
  refine hfr e.cb (hold b e hm) ?_ (λb0 e0 h0 h1 hcb=>(hnew0 b0 e0 h0 h1).2.2 b e hm hcb.symm);intro b0 e0 h0 ho hcb;have d0:b0<(H i).length:=by
   unfold cw.db at h0;split at h0
   ·assumption
   ·cases h0
  obtain⟨j,j1,j2,j3,j4⟩:=xJ (H:=H) (i:=i+1) (θ-(i+1)) hb (by rw[show i+1+(θ-(i+1))=θ from by omega];exact M.hr.cM b e hm);have hj:=UU i j Om Om;exact M.apart j Om Om b b0 e e0 j3 j4 (λx=>by omega) hm (cw.fu m _ _ _ h0) hcb.symm
 have Ty:∀b,b<(H (i+1)).length->(H θ)[b]? =(H (i+1))[b]? :=λb hb=>by rw[Wv,aag hb]
 have TD:∀b e,(m1.patch m (H (i+1)).length) b=some e->((H i).length<=b/\b<(H (i+1)).length/\m1 b=some e)\/(¬((H i).length<=b/\b<(H (i+1)).length)/\m b=some e):=λb e hb=>by
  by_cases h1:b<(H i).length
  ·rw[f1 b h1]at hb;exact .inr ⟨Om,hb⟩
  ·by_cases h2:b<(H (i+1)).length
   ·rw[f3 b h2]at hb;exact .inl ⟨Om,h2,hb⟩
   ·rw[f2 b Om]at hb;exact .inr ⟨Om,hb⟩
 have hHR:HR P (m1.patch m (H (i+1)).length) (H θ) w1:=by
  refine⟨?_,?_,?_,?_,?_⟩
  ·intro b e hb;rcases TD b e hb with⟨_,h2,_⟩|⟨_,h2⟩
   ·omega
   ·exact M.hr.cM b e h2
  ·intro b e k hb hk;by_cases h2:b<(H (i+1)).length
   ·rw[f3 b h2]at hb;exact(hr1.dW b e k hb (by rwa [Ty b h2]at hk)).mono m1le
   ·rw[f2 b Om]at hb;exact((M.hr.dW b e k hb hk).mono VU).heap (hframe b e Om hb)
  ·intro b1 b2 e1 e2 k1 k2 hne TV T3 hk1 Tr hcb;rcases TD b1 e1 TV with⟨a1,a2,a3⟩|⟨a1,a2⟩
   ·rcases TD b2 e2 T3 with⟨c1,c2,c3⟩|⟨c1,c2⟩
    ·exact hr1.sep b1 b2 e1 e2 k1 k2 hne a3 c3 (by rwa [Ty b1 a2]at hk1) (by rwa [Ty b2 c2]at Tr) hcb
    ·exact absurd hcb.symm ((hnew b1 e1 a1 a2 TV).2.2 b2 e2 c2)
   ·rcases TD b2 e2 T3 with⟨c1,c2,c3⟩|⟨c1,c2⟩
    ·exact absurd hcb ((hnew b2 e2 c1 c2 T3).2.2 b1 e1 a2)
    ·exact M.hr.sep b1 b2 e1 e2 k1 k2 hne a2 c2 hk1 Tr hcb
  ·intro g hg;obtain⟨e,he,hx⟩:=M.hr.fS g hg;exact⟨e,VU _ _ he,hx⟩
  ·intro b e hb;rcases TD b e hb with⟨_,_,h3⟩|⟨_,h2⟩
   ·exact hr1.lt b e h3
   ·exact aa7 (hold b e h2) dV
 refine⟨M.βθ,M.θn,?_,?_,M.quiet,M.len,hHR,?_,?_,?_,?_,by rw[fj];exact M.size,?_,?_⟩
 ·intro j hj;unfold mark;split
  ·rfl
  ·exact M.low j hj
 ·intro j hj;unfold mark at hj;split at hj
  ·omega
  ·exact M.high j hj
 ·intro j hj hs b hb hb';unfold mark at hs;split at hs
  ·cases hs
  rename_i hji;by_cases h1:b<(H i).length
  ·rw[f1 b h1];exact M.OQ j hj hs b hb hb'
  ·by_cases h2:b<(H (i+1)).length
   ·exact LS
   ·rw[f2 b Om];exact M.OQ j hj hs b hb hb'
 ·intro i2 hi2' Y9 b e k hb Uv hk;rcases TD b e Uv with⟨a1,a2,a3⟩|⟨_,a2⟩
  ·have hk':(H (i+1))[b]? =some k:=by rwa [Ty b a2]at hk
   refine((hr1.dW b e k a3 hk').je hr1.cM).mono ?_;by_cases hlt:i2<i+1
   ·have:=UU i2 i Om Om;omega
   ·exact UU (i+1) i2 Om Y9
  ·exact M.je i2 hi2' Y9 b e k hb a2 hk
 ·intro j hj YC b b' e e' hb TV hb' Uv XE;rcases TD b e Uv with⟨a1,a2,a3⟩|⟨a1,a2⟩
  ·rcases TD b' e' XE with⟨c1,c2,c3⟩|⟨c1,c2⟩
   ·exfalso;by_cases hji:j=i
    ·subst hji;exact hb' ⟨c1,c2⟩
    ·exact LS
   ·exactλhcb=>(hnew b e a1 a2 Uv).2.2 b' e' c2 hcb.symm
  ·rcases TD b' e' XE with⟨c1,c2,c3⟩|⟨c1,c2⟩
   ·exact(hnew b' e' c1 c2 XE).2.2 b e a2
   ·exact M.apart j hj YC b b' e e' hb TV hb' a2 c2
 ·refine⟨λb hb=>(f1 b Om).trans (M.grow.ext b hb),M.grow.len,?_,M.grow.tl,aa5 M.grow.size dV,hos.trans M.grow.os,hout.trans M.grow.out,htape.trans M.grow.tape,?_⟩
  ·intro b e hb Uv;rcases TD b e Uv with⟨a1,a2,_⟩|⟨_,a2⟩
   ·obtain⟨ho,hc⟩:=hnew b e a1 a2 Uv;exact⟨ho,.inl hc.1⟩
   ·exact M.grow.new b e hb a2
  ·intro x hx hno;refine(hfr x (aa7 hx M.grow.size) ?_ (λb e hb hm hcb=>by have:=(hnew0 b e hb hm).2.1;omega)).trans (M.grow.frame x hx hno);intro b e hb ho hcb;have Uv:=cw.fu m _ _ _ hb;by_cases h1:b<(H 0).length
   ·exact hno b e (by rw[<-M.grow.ext b h1];exact Uv) ho hcb
   ·obtain⟨_,hc⟩:=M.grow.new b e Om Uv;rcases hc with hc|⟨b0,e0,c1,c2,c3,_⟩
    ·omega
    ·exact hno b0 e0 c1 c3 (c2.trans hcb)
 ·intro d hd;exact R7
 ·intro d j o hj hs ho;by_cases hji:j=i
  ·subst hji;rw[hio]at hj;cases hj;rw[hTi,ho];have h1:m1.le ((m1.patch m (H (j+1)).length).db (H (j+1)).length):=λb e hb=>by
    have:=hr1.cM b e hb;unfold cw.db;rw[aas this,f3 b this];exact hb
   exact z198
  ·exact Sl
def tI.next(M:tI P l T H m0 w0 S β θ m ta w)(hG:P.globals.size<=(H 0).length)(hi:β<=i)(hi':i<θ)(hS:S i=false){io}(hio:l[i]? =some io)
  (hr1:HR P m1 (H (i+1)) w1) (g1:Grow (m.db (H i).length) (H i) w m1 (H (i+1)) w1) {v}{cv}(hv:VR m1 v cv) (hTi:T (i+1)=put (T i) io.dst v) (hTl:(T i).length=(T 0).length)
  (huniq:∀j o d,j≠i->l[j]? =some o->o.dst=some d->io.dst≠some d):tI P l T H m0 w0 (mark S i) β θ (m1.patch m (H (i+1)).length) (iu ta io.dst cv) w1:=by
 obtain⟨gi,hgi⟩:=M.quiet i hi hi';refine M.HQ hG hi hi' hS hio hr1 g1.ext (λb e hb hm=>?_) (λx hx h1 _=>g1.frame x hx h1) g1.size g1.os g1.out g1.tape hv hTi hTl huniq;obtain⟨ho,hc⟩:=g1.new b e hb hm;have UN:w.heap.size<=e.cb:=by
  rcases hc with hc|⟨b0,e0,c1,_,_,c4,c5⟩
  ·exact hc
  ·have d0:b0<(H i).length:=by
    unfold cw.db at c1;split at c1
    ·assumption
    ·cases c1
   unfold eI at c4 c5;rw[hgi,aag d0]at c5;rw[c5]at c4;cases c4
 exact⟨ho,aa5 M.grow.size UN,λb' e' hb'=>by have:=M.hr.lt b' e' hb';omega⟩
def tI.jump(M:tI P l T H m0 w0 S β i m ta w)(hd0:∀b e,m0 b=some e->b<(H 0).length)(hall:∀j,j<i->S j=true)(hil:i<l.length){io}(hio:l[i]? =some io)
  (hr1:HR P m1 (H (i+1)) w1) (g1:Grow (m.db (H i).length) (H i) w m1 (H (i+1)) w1) {v}{cv}(hv:VR m1 v cv) (hTi:T (i+1)=put (T i) io.dst v) (hTl:(T i).length=(T 0).length)
  (huniq:∀j o d,j≠i->l[j]? =some o->o.dst=some d->io.dst≠some d):tI P l T H m0 w0 (mark S i) (i+1) (i+1) m1 (iu ta io.dst cv) w1:=by
 have hm:m.db (H i).length=m:=by
  funext b;unfold cw.db;split
  ·rfl
  ·cases hb:m b with
   |none=>rfl
   |some e=>exact absurd (M.hr.cM b e hb) (by assumption)
 rw[hm]at g1;have VU:m.le m1:=g1.le M.hr.cM;refine⟨aar _,hil,?_,?_,λj hj YC=>absurd hj Om,?_,hr1,?_,?_,λj hj YC=>absurd hj Om,M.grow.trans g1 hd0,by rw[fj];exact M.size,?_,?_⟩
 ·intro j hj;unfold mark;split
  ·rfl
  ·exact hall j Om
 ·intro j hj;unfold mark at hj;split at hj
  ·omega
  ·have:=M.high j hj;omega
 ·intro j hj;by_cases hji:j=i
  ·subst hji;exact g1.len
  ·exact M.len j Om
 ·intro j hj hs;unfold mark at hs;split at hs
  ·cases hs
  ·rw[hall j Om]at hs;cases hs
 ·intro i2 hi2 hi2' b e k hb Uv hk;have:i2=i+1:=Om
  subst this;exact(hr1.dW b e k Uv hk).je hr1.cM
 ·intro d hd;exact R7
 ·intro d j o hj hs ho;by_cases hji:j=i
  ·subst hji;rw[hio]at hj;cases hj;rw[hTi,ho];have h1:m1.le (m1.db (H (j+1)).length):=λb e hb=>by
    have:=hr1.cM b e hb;unfold cw.db;rw[aas this];exact hb
   exact z198
  ·exact Sl
end
section
variable {P:Program}{m m':cw}{h g h':ah}{w w' w0:World}
theorem rL:∀(l c pre:List AV),c.length=l.length->fV (pre++c) pre.length l=pre++l
 |[],c,pre,h=>by
  exact z203
 |x::l,[],pre,h=>by simp at h
 |x::l,y::c,pre,h=>by
  have e1:(pre++y::c).set pre.length x=(pre++[x])++c:=by
   exact LD
  have e2:pre.length+1=(pre++[x]).length:=Si
  show fV ((pre++y::c).set pre.length x) (pre.length+1) l=_;rw[e1,e2,rL l c (pre++[x]) (by simpa using h),aae];rfl
def Grow.forget(gr:Grow m h w m' (h++g) w'):Grow m h w (m'.db h.length) h w' where
 ext:=λb hb=>by unfold cw.db;rw[aas hb];exact gr.ext b hb
 len:=aar _
 new:=λb e hb he=>by unfold cw.db at he;rw[aao Om]at he;cases he
 tl:=λb hb ht=>ht
 size:=gr.size
 os:=gr.os
 out:=gr.out
 tape:=gr.tape
 frame:=gr.frame
def HR.forget(hr:HR P m h w)(hr':HR P m' (h++g) w')(gr:Grow m h w m' (h++g) w'):HR P (m'.db h.length) h w':=
 hr'.db hr.H3 λb e k hb Uv hk=>(hr.dW b e k (by rw[<-gr.ext b hb];exact Uv) hk).je hr.cM
def HR.On(hr:HR P m h w){cb cc}{el:TypeId}{fz}(hb:w.heap[cb]? =some (.cells cc el fz))(hfz:∀i,i<cc.size->¬(fz.1<=i/\i<fz.2))(hout:∀b e,m b=some e->e.cb≠cb)
  {c}{d}(hc:d+c.length=cc.size) (hv:∀(i:Nat) (x:AV),c[i]? =some x->x.one=true/\∃v,cc[d+i]? =some v/\VR m x v):HR P (m.add h.length ⟨cb,d,cc.size,true⟩) (h++[.cells c true false]) w:=by
 have Uu:m h.length=none:=by
  exact OJ
 have hle:m.le (m.add h.length ⟨cb,d,cc.size,true⟩):=cw.th _ Uu;have TD:∀b e,(m.add h.length ⟨cb,d,cc.size,true⟩) b=some e->(b=h.length/\e=⟨cb,d,cc.size,true⟩)\/(b<h.length/\m b=some e):=λb e UO=>by
  exact z85
 refine⟨λb e UO=>?_,λb e k UO hk=>?_,λb1 b2 e1 e2 k1 k2 hne h1 h2 hk1 Tr hcb=>?_,λg hg=>?_,λb e UO=>?_⟩
 ·rw[aac];rcases TD b e UO with⟨rfl,_⟩|⟨hlt,_⟩
  ·simp
  ·simp;omega
 ·rcases TD b e UO with⟨rfl,rfl⟩|⟨hlt,hm⟩
  ·rw[aan (aar _),abi]at hk;cases hk;refine⟨cc,el,fz,hb,⟨by show d+_<=_;omega,by show d+_<=cc.size;omega,rfl⟩,λi x hx=>?_,λ_=>⟨rfl,hfz⟩,λ_=>⟨rfl,λ_=>by show cc.size=d+c.length;omega⟩⟩;obtain⟨ho,v,h1,h2⟩:=hv i x hx;exact⟨ho,v,h1,VR.mono hle _ _ h2⟩
  ·rw[aag hlt]at hk;exact(hr.dW b e k hm hk).mono hle
 ·exact Sr
 ·obtain⟨e,he,hx⟩:=hr.fS g hg;exact⟨e,hle _ _ he,hx⟩
 ·rcases TD b e UO with⟨_,rfl⟩|⟨_,hm⟩
  ·exact(aax.1 hb).1
  ·exact hr.lt b e hm
def D4{x}(h:zb x=true):x.one=true:=by cases x<;>first|rfl|cases h
def Gt{x v}(h:zb x=true)(hv:VR m x v)(m':cw):VR m' x v:=by
 cases x<;>first|exact hv|cases h
def lE(m:cw)(w0 w:World)(zc:List AV)(cv:Value):Prop:=
 ∃(cb d:Nat) (cc:Array Value) (el:TypeId) (fz:Nat×Nat),cv=.pointer (some ⟨cb,d,none⟩)/\w.heap[cb]? =some (.cells cc el fz)/\d+zc.length=cc.size/\(∀i,i<cc.size->¬(fz.1<=i/\i<fz.2))/\
  (∀(i:Nat) (x:AV),zc[i]? =some x->x.one=true/\∃v,cc[d+i]? =some v/\∀m:cw,VR m x v)/\w0.heap.size<=cb/\∀b e,m b=some e->e.cb≠cb
def lE.move{zc cv}(p:lE m w0 w zc cv)(hh:∀cb d,cv=.pointer (some ⟨cb,d,none⟩)->cb<w.heap.size->(∀b e,m b=some e->e.cb≠cb)->w'.heap[cb]? =w.heap[cb]?)
  (hm:∀cb d,cv=.pointer (some ⟨cb,d,none⟩)->cb<w.heap.size->(∀b e,m b=some e->e.cb≠cb)->∀b e,m' b=some e->e.cb≠cb):lE m' w0 w' zc cv:=by
 obtain⟨cb,d,cc,el,fz,h1,h2,h3,h4,h5,h6,h7⟩:=p;have hlt:cb<w.heap.size:=(aax.1 h2).1;exact⟨cb,d,cc,el,fz,h1,by rw[hh cb d h1 hlt h7];exact h2,h3,h4,h5,h6,hm cb d h1 hlt h7⟩
def lE.grow{zc cv}(p:lE m w0 w zc cv)(gr:Grow (m.db h.length) h w m' h' w'):lE m' w0 w' zc cv/\lE (m'.patch m h'.length) w0 w' zc cv:=by
 have hh:∀cb d,cv=.pointer (some ⟨cb,d,none⟩)->cb<w.heap.size->(∀b e,m b=some e->e.cb≠cb)->w'.heap[cb]? =w.heap[cb]? :=λcb d _ hlt h7=>gr.frame cb hlt λb e he _=>h7 b e (cw.fu _ _ _ _ he)
 have hnew:∀cb,cb<w.heap.size->(∀b e,m b=some e->e.cb≠cb)->∀b e,m' b=some e->e.cb≠cb:=λcb hlt h7 b e he=>by
  by_cases hb:b<h.length
  ·rw[gr.ext b hb]at he;exact h7 b e (cw.fu _ _ _ _ he)
  ·obtain⟨_,hc⟩:=gr.new b e Om he;rcases hc with hc|⟨b0,e0,c1,c2,_⟩
   ·omega
   ·rw[<-c2];exact h7 b0 e0 (cw.fu _ _ _ _ c1)
 refine⟨p.move hh λcb d _ hlt h7=>hnew cb hlt h7,p.move hh λcb d _ hlt h7 b e he=>?_⟩;unfold cw.patch at he;split at he
 ·exact hnew cb hlt h7 b e he
 ·exact h7 b e he
end
structure cG(ops:Array Oper)(l:List bO)(k s t:Nat)(z:AV)(n:Nat)(x:cZ):Prop where
 ks:k<s
 hk:l[k]? =some {dst:=some t,k:=.box (.c z),gd:=none,q:=true}
 hs:l[s]? =some {dst:=none,k:=.store n (.t t) x,gd:=none,q:=true}
 zn:z.cells.length=n
 zc:z.cells.all zb=true
 xt:∀u,x=.t u->u≠t/\fJ ops s u=true
 lt:fJ ops s t=true
 only:∀j,j<ops.size->j≠s->fJ ops j t=false
def n9{o n t x}(h:mG o=some (n,t,x)):o={dst:=none,k:=.store n (.t t) x,gd:=none,q:=true}:=by
 obtain⟨d,k,gd,q⟩:=o;unfold mG at h;exact LR
def zg{o t z}(h:uC o=some (t,z)):o={dst:=some t,k:=.box (.c z),gd:=none,q:=true}:=by
 obtain⟨d,k,gd,q⟩:=o;unfold uC at h;exact LR
def qw{ops l k s}(hks:k<s)(h:pW ops l k s=true):∃t z n x,cG ops l k s t z n x:=by
 unfold pW at h;split at h
 case h_2=>cases h
 rename_i t z n t' x h1 h2;obtain⟨a,ha,hb⟩:=abk.1 h1;obtain⟨b,TV,T3⟩:=abk.1 h2;have e1:=zg hb;have e2:=n9 T3;subst e1;subst e2;simp only[aaM,beq_iff_eq,aaO,abq,ab3,abt]at h;obtain⟨⟨⟨⟨⟨rfl,q2⟩,q3⟩,q4⟩,q5⟩,q6⟩:=h;refine⟨t,z,n,x,hks,ha,TV,q2,aaO.2 q3,λu hu=>?_,q5,λj hj hne=>(q6 j hj).resolve_left hne⟩;subst hu;simp only[aaM,bne_iff_ne,ne_eq]at q4;exact q4
def cG.ok{ops l k s t z n x}(p:cG ops l k s t z n x):pW ops l k s=true:=by
 unfold pW;rw[p.hk,p.hs];simp only[Option.bind_some,uC,mG,aaM,beq_iff_eq,aaO,abq,ab3,abt];refine⟨⟨⟨⟨⟨trivial,p.zn⟩,aaO.1 p.zc⟩,?_⟩,p.lt⟩,λj hj=>?_⟩
 ·cases x with
  |t u=>simp only[aaM,bne_iff_ne,ne_eq];exact p.xt u rfl
  |_=>rfl
 ·by_cases hne:j=s
  ·exact .inl hne
  ·exact .inr (p.only j hj hne)
def Ji:bO:={dst:=none,k:=.cj (.c (.bool false)),gd:=none,q:=true}
theorem xN{ops l}:∀{r}{i j},(qG ops l i r)[j]? =(r[j]?).map (uw ops l (i+j))
 |[],i,j=>by simp[qG]
 |o::r,i,0=>by simp[qG]
 |o::r,i,j+1=>by
  show(qG ops l (i+1) r)[j]? =_;rw[xN,show i+1+j=i+(j+1) by omega];simp
theorem xM{ops l}:∀{r}{i},(qG ops l i r).length=r.length
 |[],_=>rfl
 |o::r,i=>by simp[qG,xM]
def y4{ops l}(hl:l.length=ops.size){j o}(ho:l[j]? =some o):
  (∃k t z n x,cG ops l k j t z n x/\uw ops l j o={dst:=some t,k:=.pt n x,gd:=none,q:=true})\/
  (∃s t z n x,cG ops l j s t z n x/\uw ops l j o=Ji)\/
  (uw ops l j o=o/\(∀k t z n x,¬cG ops l k j t z n x)/\(∀s t z n x,¬cG ops l j s t z n x)):=by
 unfold uw;split
 ·rename_i n t x bN;have e1:=n9 bN;have TF:∀s t z n x,¬cG ops l j s t z n x:=λs t' z n' x' p=>by
   have:=p.hk;rw[ho,e1]at this;cases this
  split
  ·rename_i k hk;unfold QJ at hk;have h1:=acX hk;have h2:=abq.1 (List.mem_of_find?_eq_some hk);obtain⟨t',z,n',x',p⟩:=qw h2 h1;have:=p.hs;rw[ho,e1]at this;cases this;exact .inl ⟨k,_,z,_,_,p,rfl⟩
  ·rename_i hk;refine .inr (.inr ⟨rfl,λk t' z n' x' p=>?_,TF⟩);unfold QJ at hk;exact List.find?_eq_none.1 hk k (abq.2 p.ks) p.ok
 ·rename_i bN;have hns:∀k t z n x,¬cG ops l k j t z n x:=λk t' z n' x' p=>by
   have:=p.hs;rw[ho]at this;cases this;simp[mG]at bN
  split
  ·rename_i y To;split
   ·rename_i s hs;unfold PI at hs;have h1:=acX hs;simp only[aaM,aaX]at h1;obtain⟨t',z,n',x',p⟩:=qw h1.1 h1.2;exact .inr (.inl ⟨s,t',z,n',x',p,rfl⟩)
   ·rename_i hs;refine .inr (.inr ⟨rfl,hns,λs t' z n' x' p=>?_⟩);unfold PI at hs;refine List.find?_eq_none.1 hs s (abq.2 ((aad.1 p.hs).1)) ?_;simp only[aaM,aaX];exact⟨p.ks,p.ok⟩
  ·rename_i To;refine .inr (.inr ⟨rfl,hns,λs t' z n' x' p=>?_⟩);have:=p.hk;rw[ho]at this;cases this;simp[uC]at To
def qj(v v':Value):Prop:=∀cb d X1 d',v=.pointer (some ⟨cb,d,none⟩)->v' =.pointer (some ⟨X1,d',none⟩)->cb≠X1
theorem qj.symm{v v'}(h:qj v v'):qj v' v:=λcb d X1 d' h1 h2 e=>h X1 d' cb d h2 h1 e.symm
structure qn(ops:Array Oper)(l:List bO)(w0:World)(S:Nat->Bool)(ta tmps:Array Value)(m:cw)(w:World):Prop where
 size:tmps.size=ta.size
 ag:∀d,(∀k s z n x,cG ops l k s d z n x->S k=true->S s=false->False)->tmps.getD d undef=ta.getD d undef
 pd:∀k s t z n x,cG ops l k s t z n x->S k=true->S s=false->lE m w0 w z.cells (tmps.getD t undef)
 dj:∀k s t z n x k' s' t' z' n' x',cG ops l k s t z n x->cG ops l k' s' t' z' n' x'->S k=true->S s=false->S k' =true->S s' =false->t≠t'->qj (tmps.getD t undef) (tmps.getD t' undef)
section
variable {ops:Array Oper}{l:List bO}{w0 w w':World}{S:Nat->Bool}{ta tmps:Array Value}{m m':cw}
def jC{ta d cv}(h:d<ta.size):(iu ta (some d) cv).getD d undef=cv:=by
 simp only[iu,aa3];rw[abx h];rfl
def yU{d cv t}(hs:tmps.size=ta.size)(h:tmps.getD t undef=ta.getD t undef):(iu tmps d cv).getD t undef=(iu ta d cv).getD t undef:=by
 by_cases hd:d=some t
 ·subst hd;by_cases ht:t<ta.size
  ·rw[jC ht,jC Om]
  ·simp only[iu,aa3];rw[abS (by simp;omega),abS (by simp;omega)]
 ·rw[dL hd,dL hd];exact h
def qn.other(I:qn ops l w0 S ta tmps m w){i d cv}(h1:∀k t z n x,¬cG ops l k i t z n x)(h2:∀s t z n x,¬cG ops l i s t z n x)(hd:∀k s t z n x,cG ops l k s t z n x->d≠some t)
  (hp:∀zc cv,lE m w0 w zc cv->lE m' w0 w' zc cv):qn ops l w0 (mark S i) (iu ta d cv) (iu tmps d cv) m' w' where
 size:=by rw[fj,fj];exact I.size
 ag:=λt ht=>yU I.size (I.ag t λk s z n x p hk hs=>ht k s z n x p (by unfold mark;split<;>first|rfl|exact hk) (by
  unfold mark;split
  ·rename_i e;subst e;exact absurd p (h1 _ _ _ _ _)
  ·exact hs))
 pd:=λk s t z n x p hk hs=>by
  have hki:k≠i:=λe=>h2 _ _ _ _ _ (e▸p)
  have hsi:s≠i:=λe=>h1 _ _ _ _ _ (e▸p)
  unfold mark at hk hs;rw[aao hki]at hk;rw[aao hsi]at hs;rw[dL (hd _ _ _ _ _ _ p)];exact hp _ _ (I.pd k s t z n x p hk hs)
 dj:=λk s t z n x k' s' t' z' n' x' p p' hk hs hk' Tq hne=>by
  have hki:k≠i:=λe=>h2 _ _ _ _ _ (e▸p)
  have hsi:s≠i:=λe=>h1 _ _ _ _ _ (e▸p)
  have hki':k'≠i:=λe=>h2 _ _ _ _ _ (e▸p')
  have hsi':s'≠i:=λe=>h1 _ _ _ _ _ (e▸p')
  unfold mark at hk hs hk' Tq;rw[aao hki]at hk;rw[aao hsi]at hs;rw[aao hki']at hk';rw[aao hsi']at Tq;rw[dL (hd _ _ _ _ _ _ p),dL (hd _ _ _ _ _ _ p')];exact I.dj _ _ _ _ _ _ _ _ _ _ _ _ p p' hk hs hk' Tq hne
def ED(ops:Array Oper)(l:List bO):Prop:=∀k s t z n x k' s' t' z' n' x',cG ops l k s t z n x->cG ops l k' s' t' z' n' x'->(t=t'->k=k'/\s=s')/\(k=k'->t=t')/\(s=s'->t=t')/\k≠s'
def qn.make(U:ED ops l)(I:qn ops l w0 S ta tmps m w){k s t n z x cv}(p0:cG ops l k s t z n x)(ht:t<tmps.size)(hss:S s=false)
  (hnew:lE m' w0 w' z.cells cv) (hfar:∀cb d,cv=.pointer (some ⟨cb,d,none⟩)->w.heap.size<=cb) (hp:∀zc cv,lE m w0 w zc cv->lE m' w0 w' zc cv):qn ops l w0 (mark S k) ta (iu tmps (some t) cv) m' w' where
 size:=by rw[fj];exact I.size
 ag:=λd hd=>by
  by_cases hdt:d=t
  ·subst hdt;exact(hd k s z n x p0 (by simp[mark]) (by
    have:s≠k:=Nat.ne_of_gt p0.ks;simp only[mark,aao this];exact hss)).elim
  ·rw[dL (λe=>hdt (abf e).symm)];refine I.ag d λk' s' z' n' x' p hk hs=>hd k' s' z' n' x' p (by unfold mark;split<;>first|rfl|exact hk) ?_
   have:s'≠k:=λe=>((U _ _ _ _ _ _ _ _ _ _ _ _ p0 p).2.2.2 e.symm)
   simp only[mark,aao this];exact hs
 pd:=λk' s' t' z' n' x' p hk hs=>by
  by_cases hkk:k' =k
  ·have e:=(U _ _ _ _ _ _ _ _ _ _ _ _ p0 p).2.1 hkk.symm;subst e;subst hkk;have hz:=p0.hk.symm.trans p.hk;have hz:z=z':=by cases hz;rfl
   subst hz;rw[jC ht];exact hnew
  ·have hsk:s'≠k:=λe=>((U _ _ _ _ _ _ _ _ _ _ _ _ p0 p).2.2.2 e.symm)
   unfold mark at hk hs;rw[aao hkk]at hk;rw[aao hsk]at hs;have hne:t≠t':=λe=>hkk ((U _ _ _ _ _ _ _ _ _ _ _ _ p0 p).1 e).1.symm
   rw[dL (λe=>hne (abf e))];exact hp _ _ (I.pd _ _ _ _ _ _ p hk hs)
 dj:=λk1 s1 t1 z1 n1 x1 k2 s2 t2 z2 n2 x2 p1 p2 hk1 Vc Tr TZ hne=>by
  have hold:∀k' s' t' z' n' x',cG ops l k' s' t' z' n' x'->k'≠k->mark S k k' =true->mark S k s' =false->t≠t'/\S k' =true/\S s' =false/\(iu tmps (some t) cv).getD t' undef=tmps.getD t' undef:=λk' s' t' z' n' x' p hkk hk hs=>by
   have hsk:s'≠k:=λe=>((U _ _ _ _ _ _ _ _ _ _ _ _ p0 p).2.2.2 e.symm)
   unfold mark at hk hs;rw[aao hkk]at hk;rw[aao hsk]at hs;have hne:t≠t':=λe=>hkk ((U _ _ _ _ _ _ _ _ _ _ _ _ p0 p).1 e).1.symm
   exact⟨hne,hk,hs,dL (λe=>hne (abf e))⟩
  have hfar':∀k' s' t' z' n' x',cG ops l k' s' t' z' n' x'->S k' =true->S s' =false->qj cv (tmps.getD t' undef):=λk' s' t' z' n' x' p hk hs cb1 d1 cb2 d2 e1 e2=>by
   obtain⟨cb,d,cc,el,fz,q1,q2,_⟩:=I.pd _ _ _ _ _ _ p hk hs;rw[q1]at e2;cases e2;have:=hfar cb1 d1 e1;have:=(aax.1 q2).1;omega
  by_cases h1:k1=k
  ·have e1:=(U _ _ _ _ _ _ _ _ _ _ _ _ p0 p1).2.1 h1.symm;by_cases h2:k2=k
   ·exact absurd (e1.symm.trans ((U _ _ _ _ _ _ _ _ _ _ _ _ p0 p2).2.1 h2.symm)) hne
   ·obtain⟨a1,a2,a3,a4⟩:=hold _ _ _ _ _ _ p2 h2 Tr TZ;rw[a4,<-e1,jC ht];exact hfar' _ _ _ _ _ _ p2 a2 a3
  ·obtain⟨b1,b2,b3,b4⟩:=hold _ _ _ _ _ _ p1 h1 hk1 Vc;by_cases h2:k2=k
   ·have e2:=(U _ _ _ _ _ _ _ _ _ _ _ _ p0 p2).2.1 h2.symm;rw[b4,<-e2,jC ht];exact(hfar' _ _ _ _ _ _ p1 b2 b3).symm
   ·obtain⟨a1,a2,a3,a4⟩:=hold _ _ _ _ _ _ p2 h2 Tr TZ;rw[a4,b4];exact I.dj _ _ _ _ _ _ _ _ _ _ _ _ p1 p2 b2 b3 a2 a3 hne
def qn.fill(U:ED ops l)(I:qn ops l w0 S ta tmps m w){k s t n z x}(p0:cG ops l k s t z n x)(ht:t<tmps.size)
  (hp:∀zc cv,qj cv (tmps.getD t undef)->lE m w0 w zc cv->lE m' w0 w' zc cv) (hk:S k=true) (hs:S s=false):qn ops l w0 (mark S s) (iu ta (some t) (tmps.getD t undef)) tmps m' w':=by
 have hold:∀k' s' t' z' n' x',cG ops l k' s' t' z' n' x'->mark S s k' =true->mark S s s' =false->t≠t'/\S k' =true/\S s' =false:=λk' s' t' z' n' x' p hk' Tq=>by
  have h1:k'≠s:=(U _ _ _ _ _ _ _ _ _ _ _ _ p p0).2.2.2;have h2:s'≠s:=λe=>by simp[mark,e]at Tq
  unfold mark at hk' Tq;rw[aao h1]at hk';rw[aao h2]at Tq;exact⟨λe=>h2 ((U _ _ _ _ _ _ _ _ _ _ _ _ p p0).1 e.symm).2,hk',Tq⟩
 refine⟨by rw[fj];exact I.size,λd hd=>?_,λk' s' t' z' n' x' p hk' Tq=>?_,λk1 s1 t1 z1 n1 x1 k2 s2 t2 z2 n2 x2 p1 p2 hk1 Vc Tr TZ hne=>?_⟩
 ·by_cases hdt:d=t
  ·subst hdt;rw[jC (by rw[<-I.size];exact ht)]
  ·rw[dL (λe=>hdt (abf e).symm)];refine I.ag d λk' s' z' n' x' p hk' Tq=>hd k' s' z' n' x' p (by unfold mark;split<;>first|rfl|exact hk') ?_
   have h2:s'≠s:=λe=>hdt ((U _ _ _ _ _ _ _ _ _ _ _ _ p p0).2.2.1 e)
   simp only[mark,aao h2];exact Tq
 ·obtain⟨a1,a2,a3⟩:=hold _ _ _ _ _ _ p hk' Tq;exact hp _ _ (I.dj _ _ _ _ _ _ _ _ _ _ _ _ p p0 a2 a3 hk hs (abG a1)) (I.pd _ _ _ _ _ _ p a2 a3)
 ·obtain⟨a1,a2,a3⟩:=hold _ _ _ _ _ _ p1 hk1 Vc;obtain⟨b1,b2,b3⟩:=hold _ _ _ _ _ _ p2 Tr TZ;exact I.dj _ _ _ _ _ _ _ _ _ _ _ _ p1 p2 a2 a3 b2 b3 hne
end
def cR{M ops}(h:mJ M ops=true){i j x y}(hij:i<j)(hx:ops[i]? =some x)(hy:ops[j]? =some y):
  (∀d,x.dst=some d->y.dst≠some d/\(d∈y.looksAt ops->ahead M i j=true))/\(∀d,y.dst=some d->d∈x.looksAt ops->ahead M i j=true):=by
 have hj:j<ops.size:=(aax.1 hy).1;unfold mJ at h;rw[aaO]at h;have h1:=h j (abq.2 hj);rw[aaO]at h1;have h2:=h1 i (abq.2 hij);rw[hx,hy]at h2;simp only[aaM]at h2;obtain⟨h3,h4⟩:=h2;constructor
 ·intro d hd;rw[hd]at h3;simp only[aaM,bne_iff_ne,ne_eq,ab3,abt,List.contains_eq_mem,abL]at h3;exact⟨h3.1,λhl=>h3.2.resolve_left (λhx=>hx hl)⟩
 ·intro d hd hl;rw[hd]at h4;simp only[ab3,abt,List.contains_eq_mem,abL]at h4;exact h4.resolve_left (λhx=>hx hl)
def po{M ops}(h:lq M ops=true){j o}(ho:ops[j]? =some o):
  (∀e∈o.after,Region.binds .any e=true->e.on<j)/\(∀i,i<ops.size->ahead M i j=true->∃e∈o.after,Region.binds .any e=true/\(e.on=i\/ahead M i e.on=true)):=by
 have hj:j<ops.size:=(aax.1 ho).1;unfold lq at h;rw[aaO]at h;have h1:=h j (abq.2 hj);rw[ho]at h1;simp only[aaM]at h1;obtain⟨h2,h3⟩:=h1;constructor
 ·intro e he hb;rw[aaO]at h2;have:=h2 e (by simpa using he);simp only[hb,aaD,acx,aaX]at this;exact this
 ·intro i hi ha;rw[aaO]at h3;have:=h3 i (abq.2 hi);simp only[ha,aaD,acx,ab4,aaM,ab3,beq_iff_eq]at this;obtain⟨e,he,hb,hor⟩:=this;exact⟨e,by simpa using he,hb,hor⟩
def pz{M n j}(h:gW M n j=true){i}(hi:i<n)(hne:i≠j):(i<j->ahead M i j=true)/\(j<i->ahead M j i=true):=by
 unfold gW at h;rw[aaO]at h;have h1:=h i (abq.2 hi);simp only[ab3,beq_iff_eq]at h1;have h2:=h1.resolve_left hne;constructor
 ·intro hlt;rwa [aas hlt]at h2
 ·intro hlt;rwa [aao Om]at h2
theorem vQ{T:Nat->TS}{t:Nat}{a:Nat}:∀k,(∀j,a<=j->j<a+k->∃d v,T (j+1)=put (T j) d v/\d≠some t)->(T (a+k)).getD t az=(T a).getD t az
 | 0,_=>rfl
 |k+1,h=>by
  obtain⟨d,v,h1,h2⟩:=h (a+k) Om Om;rw[show a+(k+1)=a+k+1 from by omega,h1,yT h2];exact vQ k λj h3 h4=>h j h3 Om
def Aa{listed:Array Bool}{i:Nat}(hi:i<listed.size):(λj=>(listed.setIfInBounds i true).getD j false)=mark (λj=>listed.getD j false) i:=by
 funext j;unfold mark;exact c9 hi
def jB{ops listed}(hs:listed.size=ops.size){i}:i∈Region.ready .any ops listed↔∃o,ops[i]? =some o/\listed.getD i false=false/\∀e∈o.after,Region.binds .any e=true->listed.getD e.on false=true:=by
 unfold Region.ready;simp only[abw,abq,aaM,abt];constructor
 ·rintro⟨hi,hl,ha⟩;have ho:ops[i]? =some ops[i]:=aa6 hi;refine⟨ops[i],ho,?_,?_⟩
  ·exact z109
  ·rw[ho]at ha;simp only[aca,acz,Array.all_eq_true_iff_forall_mem,ab3,abt]at ha;intro e he hb;exact(ha e he).resolve_left (by simp[hb])
 ·rintro⟨o,ho,hl,ha⟩;have hi:i<ops.size:=(aax.1 ho).1;refine⟨hi,?_,?_⟩
  ·exact z109
  ·rw[ho];simp only[aca,acz,Array.all_eq_true_iff_forall_mem,ab3,abt];intro e he;cases hb:Region.binds .any e with
   |true=>exact .inr (ha e he hb)
   |false=>exact .inl rfl
def mL{M ops}(he:lq M ops=true){listed}(hs:listed.size=ops.size)(hr:Region.ready .any ops listed=[]):∀i,i<ops.size->listed.getD i false=true:=by
 intro i
 induction i using Nat.strongRecOn with
 |_ i ih=>
  intro hi;cases hl:listed.getD i false with
  |true=>rfl
  |false=>
   have:i∈Region.ready .any ops listed:=by
    have ho:ops[i]? =some ops[i]:=aa6 hi;refine(jB hs).2 ⟨ops[i],ho,hl,λe hee hb=>?_⟩;have:=(po he ho).1 e hee hb;exact ih e.on this Om
   rw[hr]at this;cases this
def mM{ops listed}(hs:listed.size=ops.size)(h:∀i,i<ops.size->listed.getD i false=true):Region.ready .any ops listed=[]:=by
 cases hr:Region.ready .any ops listed with
 |nil=>rfl
 |cons x xs=>
  have:x∈Region.ready .any ops listed:=by rw[hr];simp
  obtain⟨o,ho,hl,_⟩:=(jB hs).1 this;rw[h x (aax.1 ho).1]at hl;cases hl
def wE{P:Program}(hmix:P.follows .mixedOrders=true){ops:Array Oper}{l:List bO}(hc:cP P ops true=some l){ts ts':TS}{h h':ah}(hs:zo P l ts h ts' h'){m:cw}{a:Act}{w:World}
  (st:St P m ts h a w) (ro:Option Nat) (Q:Exit->Act->World->Prop) (hQ:∀m' a' w',St P m' ts' h' a' w'->Grow m h w m' h' w'->a'.defers=a.defers->Q .normal a' w') (id:Nat):
  (Code.region id ops true).wpIn (Fd ro) 0 P Q a w:=by
 refine wpIn_region_any hmix ?_;obtain⟨T,H,rfl,rfl,rfl,rfl,hrow⟩:=hs.row;simp only[cP,aaB]at hc;split at hc
 case isFalse=>cases hc
 rename_i hok;simp only[aaM]at hok;obtain⟨hed,hsl⟩:=hok;obtain⟨l0,hc,hl⟩:=aaC.1 hc;obtain⟨TJ,Ty⟩:=gF hc;simp only[acw]at TJ;have hlen:l.length=ops.size:=by rw[<-hl,xM,TJ]
 have hget0:∀j o,ops[j]? =some o->∃io,l0[j]? =some io/\bW P ops (!gW (Region.before ops) ops.size j) o=some io:=λj o ho=>by
  obtain⟨y,h1,h2⟩:=Ty j o (by simpa using ho);exact⟨y,h1,by rwa [aa4]at h2⟩
 have Wf:∀j io,l0[j]? =some io->∃o,ops[j]? =some o/\bW P ops (!gW (Region.before ops) ops.size j) o=some io:=λj io hj=>by
  have hlt:j<ops.size:=by have:=(aad.1 hj).1;omega
  have ho:ops[j]? =some ops[j]:=aa6 hlt;obtain⟨io',h1,h2⟩:=hget0 j _ ho;rw[hj]at h1;cases h1;exact⟨_,ho,h2⟩
 have YG:∀(j:Nat) (io:bO),l[j]? =some io->(∃k t z n x,cG ops l0 k j t z n x/\io={dst:=some t,k:=.pt n x,gd:=none,q:=true})\/(∃s t z n x,cG ops l0 j s t z n x/\io=Ji)\/
   ((∃o,ops[j]? =some o/\bW P ops (!gW (Region.before ops) ops.size j) o=some io)/\(∀k t z n x,¬cG ops l0 k j t z n x)/\(∀s t z n x,¬cG ops l0 j s t z n x)):=λj io hj=>by
  rw[<-hl,xN,aa4]at hj;obtain⟨io0,h0,rfl⟩:=aaC.1 hj;rcases y4 TJ h0 with⟨k,t,z,n,x,p,e⟩|⟨s,t,z,n,x,p,e⟩|⟨e,n1,n2⟩
  ·exact .inl ⟨k,t,z,n,x,p,e⟩
  ·exact .inr (.inl ⟨s,t,z,n,x,p,e⟩)
  ·rw[e];exact .inr (.inr ⟨Wf j io0 h0,n1,n2⟩)
 have hdU:∀(i j:Nat) (oi oj:Oper) (d:Nat),ops[i]? =some oi->ops[j]? =some oj->oi.dst=some d->oj.dst=some d->i=j:=λi j oi oj d hi hj h1 h2=>by
  by_cases hlt:i<j
  ·exact absurd h2 ((cR hsl hlt hi hj).1 d h1).1
  ·by_cases Wv:j<i
   ·exact absurd h1 ((cR hsl Wv hj hi).1 d h2).1
   ·omega
 have ZY:∀{k s t:Nat}{z:AV}{n:Nat}{x:cZ},cG ops l0 k s t z n x->∃o,ops[k]? =some o/\o.dst=some t/\bW P ops (!gW (Region.before ops) ops.size k) o=some {dst:=some t,k:=.box (.c z),gd:=none,q:=true}:=λp=>by
  obtain⟨o,h1,h2⟩:=Wf _ _ p.hk;exact⟨o,h1,(dC h2).1.symm,h2⟩
 have hps:∀{k s t:Nat}{z:AV}{n:Nat}{x:cZ},cG ops l0 k s t z n x->∃o,ops[s]? =some o/\o.dst=none/\bW P ops (!gW (Region.before ops) ops.size s) o=some {dst:=none,k:=.store n (.t t) x,gd:=none,q:=true}:=λp=>by
  obtain⟨o,h1,h2⟩:=Wf _ _ p.hs;exact⟨o,h1,(dC h2).1.symm,h2⟩
 have hlooks:∀{j t:Nat}{o:Oper},ops[j]? =some o->fJ ops j t=true->t∈o.looksAt ops:=λho h=>by
  unfold fJ at h;rw[ho]at h
  simpa using h
 have Yz:∀{j t:Nat}{o:Oper},ops[j]? =some o->t∈o.looksAt ops->fJ ops j t=true:=λho h=>by
  unfold fJ;rw[ho]
  simpa using h
 have dV:∀{j:Nat}{o:Oper},ops[j]? =some o->j<ops.size:=λho=>(aax.1 ho).1
 have U:ED ops l0:=λk s t z n x k' s' t' z' n' x' p p'=>by
  refine⟨λe=>?_,λe=>?_,λe=>?_,λe=>?_⟩
  ·subst e;obtain⟨o,h1,h2,_⟩:=ZY p;obtain⟨o',h1',h2',_⟩:=ZY p';refine⟨hdU _ _ _ _ _ h1 h1' h2 h2',?_⟩;by_cases hs:s=s'
   ·exact hs
   ·obtain⟨os,Vc,_⟩:=hps p';have:=p.only s' (dV Vc) (abG hs);rw[p'.lt]at this;cases this
  ·subst e;have:=p.hk.symm.trans p'.hk;cases this;rfl
  ·subst e;have:=p.hs.symm.trans p'.hs;cases this;rfl
  ·subst e;have:=p.hk.symm.trans p'.hs;cases this
 have hpt:∀{i:Nat}{o:Oper}{t:Nat},ops[i]? =some o->t∈o.looksAt ops->∀k s z n x,cG ops l0 k s t z n x->i=s:=λ{i o t} ho ht k s z n x p=>by
  by_cases hi:i=s
  ·exact hi
  ·have:=p.only _ (dV ho) hi;rw[Yz ho ht]at this;cases this
 have Uz:∀(j:Nat) (io:bO) (d:Nat),l[j]? =some io->io.dst=some d->(∃o,ops[j]? =some o/\o.dst=some d/\(∀k t z n x,¬cG ops l0 k j t z n x)/\(∀s t z n x,¬cG ops l0 j s t z n x))\/(∃k z n x,cG ops l0 k j d z n x):=λj io d hj hd=>by
  rcases YG j io hj with⟨k,t,z,n,x,p,e⟩|⟨s,t,z,n,x,p,e⟩|⟨⟨o,h1,h2⟩,n1,n2⟩
  ·rw[e]at hd;cases hd;exact .inr ⟨k,z,n,x,p⟩
  ·rw[e]at hd;cases hd
  ·exact .inl ⟨o,h1,by rw[<- (dC h2).1];exact hd,n1,n2⟩
 have UZ:∀j io,l[j]? =some io->∃v,T (j+1)=put (T j) io.dst v:=λj io hj=>(hrow.step j io hj).1.put
 have hTl:∀j,j<=l.length->(T j).length=(T 0).length:=by
  intro j
  induction j with
  |zero=>intro _;rfl
  |succ j ih=>
   intro hj;exact O5
 have hG:P.globals.size<=(H 0).length:=st.hr.H3;have huniq:∀(i:Nat) (io:bO),l[i]? =some io->∀(j:Nat) (o:bO) (d:Nat),j≠i->l[j]? =some o->o.dst=some d->io.dst≠some d:=by
  intro i io hi j o d hne hj hd TW;rcases Uz j o d hj hd with⟨oj,a1,a2,a3,a4⟩|⟨k,z,n,x,p⟩
  ·rcases Uz i io d hi TW with⟨oi,b1,b2,b3,b4⟩|⟨k',z',n',x',p'⟩
   ·exact hne (hdU _ _ _ _ _ a1 b1 a2 b2)
   ·obtain⟨ok,h1,h2,_⟩:=ZY p';have e:=hdU _ _ _ _ _ a1 h1 a2 h2;subst e;exact a4 _ _ _ _ _ p'
  ·rcases Uz i io d hi TW with⟨oi,b1,b2,b3,b4⟩|⟨k',z',n',x',p'⟩
   ·obtain⟨ok,h1,h2,_⟩:=ZY p;have e:=hdU _ _ _ _ _ b1 h1 b2 h2;subst e;exact b4 _ _ _ _ _ p
   ·exact hne ((U _ _ _ _ _ _ _ _ _ _ _ _ p p').1 rfl).2
 have TE:∀a b t,a<=b->b<=l.length->(∀(j:Nat) (o:bO),a<=j->j<b->l[j]? =some o->o.dst≠some t)->(T b).getD t az=(T a).getD t az:=by
  intro a b t hab hb hno;have:=vQ (T:=T) (t:=t) (a:=a) (b-a) (λj h1 h2=>by
   have hj:l[j]? =some (l[j]'Om):=aai Om;obtain⟨v,hv⟩:=UZ j _ hj;exact⟨_,v,hv,hno j _ h1 Om hj⟩)
  rwa [show a+(b-a)=b from by omega]at this
 have hqt:∀(j:Nat) (io:bO),l[j]? =some io->gW (Region.before ops) ops.size j=false->io.q=true:=λj io hj hb=>by
  rcases YG j io hj with⟨k,t,z,n,x,p,e⟩|⟨s,t,z,n,x,p,e⟩|⟨⟨o,h1,h2⟩,n1,n2⟩
  ·rw[e]
  ·rw[e];rfl
  ·rw[(dC h2).2,hb];rfl
 have hdone:∀(listed:Array Bool) (β θ:Nat) (m1:cw) (ta:Array Value) (a1:Act) (w1:World),(∀i,i<ops.size->listed.getD i false=true)->
   tI P l T H m w (λj=>listed.getD j false) β θ m1 ta w1->qn ops l0 w (λj=>listed.getD j false) ta a1.tmps m1 w1->a1.defers=a.defers->Q .normal a1 w1:=by
  intro listed β θ m1 ta a1 w1 hall M I hd;have hθ:θ=l.length:=by
   have h1:=M.θn;by_cases hz:l.length=0
   ·omega
   ·have:=M.high (l.length-1) (hall _ Om);omega
  subst hθ;refine hQ m1 a1 w1 ⟨M.hr,cL.iG ?_ ?_⟩ M.grow hd
  ·have:=M.size;have:=I.size;have:=hTl l.length (aar _);simp;omega
  ·intro t x hx;have hlt:=(aad.1 hx).1;have TQ:t<a1.tmps.size:=by have:=M.size;have:=I.size;have:=hTl l.length (aar _);omega
   have ex:(T l.length).getD t az=x:=by simp[List.getD,hx]
   have ey:a1.tmps.getD t undef=a1.tmps[t]:=by simp[aa3,aa6 TQ]
   have eg:a1.tmps.getD t undef=ta.getD t undef:=I.ag t λk s z n x p _ hs=>by
    obtain⟨os,Vc,_⟩:=hps p;rw[hall s (dV Vc)]at hs;cases hs
   refine⟨a1.tmps[t],Si,?_⟩;rw[<-ex,<-ey,eg];by_cases hw:∃(j:Nat) (o:bO),l[j]? =some o/\o.dst=some t
   ·obtain⟨j,o,hj,ho⟩:=hw;have VF:=(aad.1 hj).1;have h1:=M.zF t j o hj (hall j Om) ho;rw[TE (j+1) l.length t Om (aar _) (λk o' h2 h3 h4 h5=>huniq j o hj k o' t Om h4 h5 ho)];exact VR.mono (cw.fu _ _) _ _ h1
   ·rw[TE 0 l.length t Om (aar _) (λk o' _ _ h4 h5=>hw ⟨k,o',h4,h5⟩)];exact VR.mono (M.grow.le st.hr.cM) _ _ (M.zG t (λj o hj _ ho=>hw ⟨j,o,hj,ho⟩))
 have key:∀(fuel:Nat) (listed:Array Bool) (β θ:Nat) (m1:cw) (ta:Array Value) (a1:Act) (w1:World),listed.size=ops.size->rC listed ops.size<=fuel->
   (∀j x,listed.getD j false=true->x<ops.size->ahead (Region.before ops) x j=true->listed.getD x false=true)->
   tI P l T H m w (λj=>listed.getD j false) β θ m1 ta w1->qn ops l0 w (λj=>listed.getD j false) ta a1.tmps m1 w1->a1.defers=a.defers->wpAnyIn (Fd ro) 0 P .any ops Q fuel listed a1 w1:=by
  intro fuel
  induction fuel with
  |zero=>
   intro listed β θ m1 ta a1 w1 TG hu hcl M I hd;have hall:=lU ops.size (show rC listed ops.size=0 by omega);exact⟨mM TG hall,hdone listed β θ m1 ta a1 w1 hall M I hd⟩
  |succ fuel ih=>
   intro listed β θ m1 ta a1 w1 TG hu hcl M I hd;refine⟨λhr=>hdone listed β θ m1 ta a1 w1 (mL hed TG hr) M I hd,λi hi=>?_⟩;obtain⟨o,ho,Uw,YE⟩:=(jB TG).1 hi;have hin:i<ops.size:=(aax.1 ho).1;have hio:l[i]? =some (l[i]'Om):=aai Om;generalize l[i]'Om=io at hio;obtain⟨bN,hq⟩:=hrow.step i io hio;have hahead:∀x,x<ops.size->ahead (Region.before ops) x i=true->listed.getD x false=true:=λx hx ha=>by
    exact OL
   have Vf:β<=i:=by
    by_cases hx:i<β
    ·have:=M.low i hx;simp only[Uw]at this;cases this
    ·omega
   have Vq:∀j x,(listed.setIfInBounds i true).getD j false=true->x<ops.size->ahead (Region.before ops) x j=true->(listed.setIfInBounds i true).getD x false=true:=by
    intro j x hj hx ha;exact z40
   have Xr:rC (listed.setIfInBounds i true) ops.size<=fuel:=by
    exact z80
   have hslot:∀(β' θ':Nat),tI P l T H m w (λj=>listed.getD j false) β' θ' m1 ta w1->i<=θ'->∀t,t∈o.looksAt ops->(∀k s z n x,¬cG ops l0 k s t z n x)->VR (m1.db (H i).length) ((T i).getD t az) (ta.getD t undef):=by
    intro β' θ' M' hi' t ht hnp;have h0i:=fP M'.len (aaQ i) hi';by_cases hex:∃(x:Nat) (ox:bO),l[x]? =some ox/\listed.getD x false=true/\ox.dst=some t
    ·obtain⟨x,ox,hx,hxl,Xc⟩:=hex;rcases Uz x ox t hx Xc with⟨oo,VY,Xo,_⟩|⟨k,z,n,y,p⟩
     ·have hxn:x<ops.size:=(aax.1 VY).1;have hxi:x<i:=by
       by_cases h1:x=i
       ·subst h1;rw[Uw]at hxl;cases hxl
       ·by_cases h2:x<i
        ·exact h2
        ·have h3:=(cR hsl (show i<x by omega) ho VY).2 t Xo ht;have h4:=hcl x i hxl hin h3;rw[Uw]at h4;cases h4
      have h1:=M'.zF t x ox hx hxl Xc;rw[TE (x+1) i t Om Om (λk o' h2 h3 h4 h5=>huniq x ox hx k o' t Om h4 h5 Xc)];exact VR.mono (cw.AO _ (fP M'.len Om hi')) _ _ h1
     ·exact absurd p (hnp _ _ _ _ _)
    ·rw[TE 0 i t Om Om (λk o' h2 h3 h4 h5=>by
      rcases Uz k o' t h4 h5 with⟨oo,VY,TW,_⟩|⟨k',z,n,y,p⟩
      ·have h6:=((cR hsl h3 VY ho).1 t TW).2 ht;exact hex ⟨k,o',h4,hahead k (aax.1 VY).1 h6,h5⟩
      ·exact hnp _ _ _ _ _ p)]
     refine VR.mono ?_ _ _ (M'.zG t (λj o hj hl TW=>hex ⟨j,o,hj,hl,TW⟩));intro b e hb;have:=st.hr.cM b e hb;unfold cw.db;rw[aas Om];exact M'.grow.le st.hr.cM b e hb
   have hagN:∀t,(∀k s z n x,¬cG ops l0 k s t z n x)->a1.tmps.getD t undef=ta.getD t undef:=λt hnp=>I.ag t λk s z n x p _ _=>hnp _ _ _ _ _ p
   have hTn:∀j,j<=l.length->a1.tmps.size=(T j).length:=λj hj=>by rw[I.size,M.size,hTl j hj]
   have VX:io.q=true->∃θ',i<θ'/\tI P l T H m w (λj=>listed.getD j false) β θ' m1 ta w1:=λVG=>by
    by_cases Ux:i<θ
    ·exact⟨θ,Ux,M⟩
    ·refine⟨i+1,Om,M.raise Om Om λj hj YC=>?_⟩;have VF:j<ops.size:=Om
     have aaa:l[j]? =some (l[j]'Om):=aai Om;by_cases hji:j=i
     ·subst hji;rw[hio]at aaa;exact hq VG
     ·have hjs:listed.getD j false=false:=by
       cases hx:listed.getD j false with
       |false=>rfl
       |true=>have:=M.high j hx;omega
      cases hb:gW (Region.before ops) ops.size j with
      |true=>
       have h1:=(pz hb hin (λx=>hji x.symm)).2 Om;have h2:=hahead j VF h1;rw[hjs]at h2;cases h2
      |false=>exact(hrow.step j _ aaa).2 (hqt j _ aaa hb)
   have hih:∀(β2 Zt:Nat) (m2:cw) (ta2:Array Value) (a2:Act) (w2:World),tI P l T H m w (mark (λj=>listed.getD j false) i) β2 Zt m2 ta2 w2->qn ops l0 w (mark (λj=>listed.getD j false) i) ta2 a2.tmps m2 w2->a2.defers=a1.defers->
     wpAnyIn (Fd ro) 0 P .any ops Q fuel (listed.setIfInBounds i true) a2 w2:=λβ2 Zt m2 ta2 a2 w2 M2 I2 XP=>
    ih (listed.setIfInBounds i true) β2 Zt m2 ta2 a2 w2 (by simpa using TG) Xr Vq (by rw[Aa Om];exact M2) (by rw[Aa Om];exact I2) (XP.trans hd)
   rcases YG i io hio with⟨k,t,z,n,x,p,e⟩|⟨s,t,z,n,x,p,e⟩|⟨⟨o',ho',TC⟩,n1,n2⟩
   ·
    subst e;obtain⟨os,hos,hosd,TC⟩:=hps p;rw[ho]at hos;cases hos;obtain⟨ok,Xw,T2,_⟩:=ZY p;have Ye:listed.getD k false=true:=hahead k (dV Xw) (((cR hsl p.ks Xw ho).1 t T2).2 (hlooks ho p.lt));have hpend:=I.pd _ _ _ _ _ _ p Ye Uw;obtain⟨cb,d,cc,el,fz,Vp,hheap,TH,hfz,hcon,Yp,hout⟩:=hpend;obtain⟨θ',Ux,M'⟩:=VX rfl;have Uo:=M'.cut hG Vf (acV Ux);obtain⟨X,hX1,hX2,WN,hHs,hTs⟩:∃X:List AV,X=(val (T i) x).cells/\(X.all AV.one=true/\X.length=n)/\t<(T i).length/\H (i+1)=H i++[.cells X true false]/\T (i+1)=put (T i) (some t) (.ptr (H i).length 0):=by
     generalize H (i+1)=H1 at bN;generalize T (i+1)=T1 at bN;cases bN with
     |run hw hb hs=>
      have hs:dE (.pt n x) (val (T i)) (H i)=some (_,_):=hs;simp only[dE]at hs;split at hs
      case isFalse=>cases hs
      rename_i TK;cases hs;exact⟨_,rfl,TK,hb,rfl,rfl⟩
     |skip hw=>exact absurd trivial hw
    have hr1:=Uo.On hheap hfz (λb e he=>hout b e (cw.fu _ _ _ _ he)) TH (λj y hy=>by
     obtain⟨h1,v,h2,h3⟩:=hcon j y hy;exact⟨h1,v,h2,h3 _⟩)
    generalize hmc:(m1.db (H i).length).add (H i).length ⟨cb,d,cc.size,true⟩=mc at hr1;have Yx:mc (H i).length=some ⟨cb,d,cc.size,true⟩:=by rw[<-hmc];simp[cw.add]
    have XD:∀b,b≠(H i).length->mc b=(m1.db (H i).length) b:=λb hb=>by rw[<-hmc];unfold cw.add;rw[aao hb]
    have hmcl:(m1.db (H i).length).le mc:=λb e he=>by
     by_cases hb:b=(H i).length
     ·subst hb;have:=Uo.cM _ _ he;omega
     ·rw[XD b hb];exact he
    have WH:val (put (T i) (some t) (.ptr (H i).length 0)) x=val (T i) x:=by
     cases x with
     |t u=>
      have hut:=(p.xt u rfl).1;simp only[val];exact yT (λe=>hut (abf e).symm)
     |_=>rfl
    have hvt:val (put (T i) (some t) (.ptr (H i).length 0)) (.t t)=.ptr (H i).length 0:=by
     simp only[val,put,List.getD];rw[aaw WN];rfl
    have hzl:z.cells.length=X.length:=by rw[p.zn,hX2.2]
    have Z9:dI P {dst:=none,k:=.store n (.t t) x,gd:=none,q:=true} (put (T i) (some t) (.ptr (H i).length 0)) (H i++[.cells z.cells true false]) (put (T i) (some t) (.ptr (H i).length 0)) (H (i+1)):=by
     refine dI.run (v:=az) trivial trivial ?_;show dE (.store n (.t t) x) _ _=some (az,H (i+1));simp only[dE,hvt,WH];rw[aan (aar _),abi];show(if(val (T i) x).cells.length=n/\(val (T i) x).cells.all AV.one=true/\0+n<=z.cells.length then some (az,(H i++[ak.cells z.cells true false]).set (H i).length (.cells (fV z.cells 0 (val (T i) x).cells) true false))else none)=_;rw[<-hX1,aas ⟨hX2.2,hX2.1,by rw[p.zn];omega⟩];have aX:=rL X z.cells [] hzl;rw[abF,abF,aal]at aX;rw[aX,aa9 _ _ (aar _),abi,hHs];rfl
    refine fH ho TC hr1.gv hr1 (by rw[nL];exact hTn i Om) (λu hu=>?_) Z9 ro _ Q ?_
    ·by_cases hut:u=t
     ·subst hut;have:(put (T i) (some u) (AV.ptr (H i).length 0)).getD u az=.ptr (H i).length 0:=hvt;rw[this,Vp];exact⟨_,Yx,by rw[aa4]⟩
     ·have hnp:∀k s z n x,¬cG ops l0 k s u z n x:=λk' s' z' n' x' p'=>by
       have e:=hpt ho hu _ _ _ _ _ p';exact hut ((U _ _ _ _ _ _ _ _ _ _ _ _ p' p).2.2.1 e.symm)
      rw[yT (λe=>hut (abf e).symm),hagN u hnp];exact VR.mono hmcl _ _ (hslot β θ' M' (acV Ux) u hu hnp)
    ·intro cv v m' w' _ _ hr' TN;have hlen1:(H i++[ak.cells z.cells true false]).length=(H i).length+1:=Si
     have XH:(H (i+1)).length=(H i).length+1:=by rw[hHs];simp
     have Z0:∀b,b<(H i).length+1->m' b=mc b:=λb hb=>TN.ext b (by rw[hlen1];exact hb)
     have Z1:m' (H i).length=some ⟨cb,d,cc.size,true⟩:=by rw[Z0 _ Om];exact Yx
     have Y6:∀b e,(H i).length<=b->m' b=some e->b=(H i).length/\e=⟨cb,d,cc.size,true⟩:=λb e hb he=>by
      have h1:=hr'.cM b e he;rw[XH]at h1;have:b=(H i).length:=Om
      subst this;rw[Z1]at he;cases he;exact⟨rfl,rfl⟩
     have M2:=M'.HQ hG Vf Ux Uw hio hr' (λb hb=>by rw[Z0 b Om,XD b Om])
      (λb e hb he=>by
       obtain⟨_,rfl⟩:=Y6 b e hb he;exact⟨rfl,Yp,λb' e' h=>hout b' e' h⟩)
      (λy hy h1 h2=>TN.frame y hy λb e he ho' hcb=>by
       by_cases hb:b=(H i).length
       ·subst hb;rw[Yx]at he;cases he;exact h2 _ _ (aar _) Z1 hcb
       ·rw[XD b hb]at he;exact h1 b e he ho' hcb)
      TN.size TN.os TN.out TN.tape (v:=.ptr (H i).length 0) (cv:=a1.tmps.getD t undef) (by rw[Vp];exact⟨_,Z1,by rw[aa4]⟩) hTs (hTl i Om) (huniq i _ hio)
     have ZX:a1.put o.dst cv=a1:=by rw[hosd];rfl
     rw[ZX];refine hih _ _ _ _ a1 w' M2 (I.fill U p (by rw[hTn i Om];exact WN) (λzc c hne q=>?_) Ye Uw) rfl;refine q.move (λX1 d' hc hlt h7=>?_) (λX1 d' hc hlt h7 b e he=>?_)
     ·refine TN.frame X1 hlt λb e he _ hcb=>?_
      by_cases hb:b=(H i).length
      ·subst hb;rw[Yx]at he;cases he;exact hne _ _ _ _ hc Vp hcb.symm
      ·rw[XD b hb]at he;exact h7 b e (cw.fu _ _ _ _ he) hcb
     ·unfold cw.patch at he;split at he
      ·rename_i hb;by_cases hbl:b<(H i).length
       ·rw[Z0 b Om,XD b Om]at he;exact h7 b e (cw.fu _ _ _ _ he)
       ·obtain⟨_,rfl⟩:=Y6 b e Om he
        exactλhcb=>hne _ _ _ _ hc Vp hcb.symm
      ·exact h7 b e he
   ·
    subst e;obtain⟨ok,Xw,T2,TC⟩:=ZY p;rw[ho]at Xw;cases Xw;obtain⟨os,hos,_⟩:=hps p;have hss:listed.getD s false=false:=by
     cases hx:listed.getD s false with
     |false=>rfl
     |true=>
      have:=hcl s i hx hin (((cR hsl p.ks ho hos).1 t T2).2 (hlooks hos p.lt));rw[Uw]at this;cases this
    obtain⟨θ',Ux,M'⟩:=VX rfl;have Uo:=M'.cut hG Vf (acV Ux);have WN:t<(T i).length:=by
     have hsl':s<l.length:=by rw[hlen];exact dV hos
     have Vc:l[s]? =some l[s]:=aai hsl';have TZ:=(hrow.step s _ Vc).1;rcases YG s _ Vc with⟨k',t',z',n',x',p',e⟩|⟨s',t',z',n',x',p',e⟩|⟨_,n1,_⟩
     ·have e2:=(U _ _ _ _ _ _ _ _ _ _ _ _ p p').2.2.1 rfl;subst e2;rw[e]at TZ;generalize H (s+1)=H1 at TZ;generalize T (s+1)=T1 at TZ;have:t<(T s).length:=by
       cases TZ with
       |run hw hb hs=>exact hb
       |skip hw=>exact absurd trivial hw
      rw[hTl s Om]at this;rw[hTl i Om];exact this
     ·exact absurd rfl ((U _ _ _ _ _ _ _ _ _ _ _ _ p' p).2.2.2)
     ·exact absurd p (n1 _ _ _ _ _)
    have hHk:H (i+1)=H i/\T (i+1)=T i:=by
     generalize H (i+1)=H1 at bN;generalize T (i+1)=T1 at bN;cases bN with
     |run hw hb hs=>
      have hs:dE (.cj (.c (.bool false))) (val (T i)) (H i)=some (_,_):=hs;simp only[dE]at hs;cases hs;exact⟨rfl,rfl⟩
     |skip hw=>exact absurd trivial hw
    have Z9:dI P {dst:=some t,k:=.box (.c z),gd:=none,q:=true} (T i) (H i) (put (T i) (some t) (.ptr (H i).length 0)) (H i++[.cells z.cells true false]):=by
     refine dI.run (v:=.ptr (H i).length 0) trivial trivial ?_;exact aas (show(val (T i) (.c z)).cells.all AV.one=true from aaO.2 λy hy=>D4 (aaO.1 p.zc y hy))
    refine fH ho TC Uo.gv Uo (hTn i Om) (λu hu=>?_) Z9 ro _ Q ?_
    ·have hnp:∀k s z n x,¬cG ops l0 k s u z n x:=λk' s' z' n' x' p'=>by
      have e:=hpt ho hu _ _ _ _ _ p';exact(U _ _ _ _ _ _ _ _ _ _ _ _ p p').2.2.2 e
     rw[hagN u hnp];exact hslot β θ' M' (acV Ux) u hu hnp
    ·intro cv v m' w' UQ U6 hr' TN;have hv:v=.ptr (H i).length 0:=by
      rw[T2]at UQ;have:=aaR (λl:TS=>l[t]?) UQ;simp only[put]at this;rw[aaw WN,aaw WN]at this;exact(abf this).symm
     subst hv;obtain⟨e,he,Vp⟩:=U6;obtain⟨cc,el,fz,TV,T3,WY,hb4,hb5⟩:=hr'.dW _ e _ he (by rw[aan (aar _),abi];rfl);obtain⟨hown,hex⟩:=hb5 (.inl rfl);have hex:=hex rfl;obtain⟨_,hnew⟩:=TN.new _ e (aar _) he;have hfar:w1.heap.size<=e.cb:=by
      rcases hnew with hnew|⟨b0,e0,c1,_,_,c4,c5⟩
      ·exact hnew
      ·have:=Uo.cM b0 e0 c1;unfold eI at c4 c5;rw[aag this]at c5;rw[c5]at c4;cases c4
     rw[aa4]at Vp;have Xg:=Uo.forget hr' TN;have Wa:=TN.forget;have M2:=M'.next hG Vf Ux Uw hio (m1:=m'.db (H i).length) (w1:=w') (by rw[hHk.1];exact Xg) (by rw[hHk.1];exact Wa) (v:=.bool false) (cv:=.bool false) rfl (by rw[hHk.2];rfl) (hTl i Om) (huniq i _ hio);have hin2:∀b e',((m'.db (H i).length).patch m1 (H (i+1)).length) b=some e'->m1 b=some e':=λb e' h=>by
      unfold cw.patch at h;split at h
      ·have hbl:b<(H i).length:=by
        unfold cw.db at h;split at h
        ·assumption
        ·cases h
       rw[Wa.ext b hbl]at h;exact cw.fu _ _ _ _ h
      ·exact h
     have hp2:∀zc c,lE m1 w w1 zc c->lE ((m'.db (H i).length).patch m1 (H (i+1)).length) w w' zc c:=λzc c q=>q.move
      (λX1 d' _ hlt h7=>TN.frame X1 hlt λb e' h _=>h7 b e' (cw.fu _ _ _ _ h)) (λX1 d' _ hlt h7 b e' h=>h7 b e' (hin2 b e' h))
     have ZX:(a1.put o.dst cv).tmps=iu a1.tmps (some t) cv:=by rw[T2];rfl
     refine hih _ _ _ _ (a1.put o.dst cv) w' M2 ?_ (put_defers ..);rw[ZX];show qn ops l0 w _ (iu ta Ji.dst _) _ _ _;refine I.make U p (by rw[hTn i Om];exact WN) hss ?_ (λX1 d' h=>?_) hp2
     ·refine⟨e.cb,e.d,cc,el,fz,Vp,TV,Om,(hb4 hown).2,λj y hy=>?_,aa5 M.grow.size hfar,λb e' h=>?_⟩
      ·obtain⟨h1,v,h2,h3⟩:=WY j y hy;exact⟨h1,v,h2,Gt (aaO.1 p.zc y (aa8 hy)) h3⟩
      ·have:=M.hr.lt b e' (hin2 b e' h);omega
     ·rw[Vp]at h;cases h;exact hfar
   ·
    rw[ho]at ho';cases ho';obtain⟨hdio,hioq⟩:=dC TC;have hnp:∀t,t∈o.looksAt ops->∀k s z n x,¬cG ops l0 k s t z n x:=λt ht k s z n x p=>by
     have:=hpt ho ht k s z n x p;subst this;exact n1 _ _ _ _ _ p
    have Vk:∀k s t z n x,cG ops l0 k s t z n x->io.dst≠some t:=λk s t z n x p hx=>by
     obtain⟨ok,h1,h2,_⟩:=ZY p;have e:=hdU _ _ _ _ _ h1 ho h2 (by rw[<-hdio];exact hx);subst e;exact n2 _ _ _ _ _ p
    have hop:∀(β' θ':Nat),tI P l T H m w (λj=>listed.getD j false) β' θ' m1 ta w1->β'<=i->i<=θ'->
      (∀cv v m' w',T (i+1)=put (T i) io.dst v->VR m' v cv->HR P m' (H (i+1)) w'->Grow (m1.db (H i).length) (H i) w1 m' (H (i+1)) w'->∃β2 Zt m2,tI P l T H m w (mark (λj=>listed.getD j false) i) β2 Zt m2 (iu ta io.dst cv) w'/\∀zc c,lE m1 w w1 zc c->lE m2 w w' zc c)->
      wpOpIn (Fd ro) 0 P ops Q i (wpAnyIn (Fd ro) 0 P .any ops Q fuel (listed.setIfInBounds i true)) a1 w1:=by
     intro β' θ' M' hb' hi' XA;have Uo:=M'.cut hG hb' hi';refine fH ho TC Uo.gv Uo (hTn i Om) (λt ht=>?_) bN ro _ Q ?_
     ·rw[hagN t (hnp t ht)];exact hslot β' θ' M' hi' t ht (hnp t ht)
     ·intro cv v m' w' UQ U6 hr' TN;obtain⟨β2,Zt,m2,M2,hp2⟩:=XA cv v m' w' (by rw[hdio];exact UQ) U6 hr' TN;have:(a1.put o.dst cv).tmps=iu a1.tmps io.dst cv:=by rw[hdio];cases o.dst<;>rfl
      exact hih β2 Zt m2 _ _ w' M2 (by rw[this];exact I.other n1 n2 Vk hp2) (put_defers ..)
    by_cases VG:io.q=true
    ·obtain⟨θ',Ux,M'⟩:=VX VG;exact hop β θ' M' Vf Om λcv v m' w' UQ U6 hr' TN=>⟨β,θ',_,M'.next hG Vf Ux Uw hio hr' TN U6 UQ (hTl i Om) (huniq i io hio),λzc c q=>(q.grow TN).2⟩
    ·have hbar:gW (Region.before ops) ops.size i=true:=by
      rw[hioq]at VG
      simpa using VG
     have hall:∀j,j<i->listed.getD j false=true:=λj hj=>hahead j Om ((pz hbar (show j<ops.size by omega) Om).1 hj)
     by_cases Ux:i<θ
     ·exact hop β θ M Vf Om λcv v m' w' UQ U6 hr' TN=>⟨β,θ,_,M.next hG Vf Ux Uw hio hr' TN U6 UQ (hTl i Om) (huniq i io hio),λzc c q=>(q.grow TN).2⟩
     ·have hθi:θ=i:=by
       by_cases hz:i=0
       ·omega
       ·have:=M.high (i-1) (hall _ Om);omega
      subst hθi;exact hop β θ M Vf (aar _) λcv v m' w' UQ U6 hr' TN=>⟨θ+1,θ+1,m',M.jump st.hr.cM hall Om hio hr' TN U6 UQ (hTl θ Om) (huniq θ io hio),λzc c q=>(q.grow TN).1⟩
 have Tx:∀j,(Array.replicate ops.size false).getD j false=false:=λj=>by
  exact OH
 refine key ops.size (Array.replicate ops.size false) 0 0 m a.tmps a _ Si ?_ (λj x hj _ _=>by simp[Tx j]at hj) ?_ ?_ rfl
 ·exact z24
 ·refine⟨aar _,aaQ _,λj hj=>absurd hj Om,λj hj=>by simp[Tx j]at hj,λj _ hj=>absurd hj Om,λj hj=>absurd hj Om,st.hr.drew,λj hj=>absurd hj Om,?_,λj _ hj=>absurd hj Om,
   (Grow.refl m _ w st.hr.cM).drew,?_,?_,?_⟩
  ·intro i hi hi' b e k hb Uv hk;have:i=0:=Om
   subst this;exact(st.hr.dW b e k Uv hk).je st.hr.cM
  ·exact EL
  ·intro d _;exact om st.ts d
  ·intro d j o _ hj _;simp only[Tx j]at hj;cases hj
 ·exact⟨rfl,λ_ _=>rfl,λk s t z n x p hk=>by simp[Tx k]at hk,λk s t z n x k' s' t' z' n' x' p p' hk=>by simp[Tx k]at hk⟩
def I7{k}(hk:fG k=true){ρ h h' v}(hs:nA k ρ h v h'):h' =h/\∀g,nA k ρ g v g:=by
 cases k<;>first
  |(cases hk;done)
  |skip
 case conv c x=>
  cases c<;>first
   |(cases hk;done)
   |skip
  have hs:dE _ _ _=some (_,_):=hs;simp only[dE,kN]at hs;split at hs
  ·rename_i k n hx;cases hs;refine⟨rfl,λg=>?_⟩;show dE _ _ _=some (_,_);simp only[dE,kN,hx]
  ·cases hs
 case len lk x=>
  have e:lk≠.mp->∀g,Bq lk g (ρ x)=Bq lk h (ρ x):=λhl g=>by
   cases lk<;>first|exact absurd rfl hl|skip
   all_goals
    cases ρ x<;>first|rfl|(simp only[Bq,reduceCtorEq,aay];repeat' split)<;>rfl
  have hl:lk≠.mp:=λe=>by rw[e]at hk;cases hk
  have hs:dE _ _ _=some (_,_):=hs;simp only[dE]at hs;split at hs
  ·rename_i n hn;cases hs;refine⟨rfl,λg=>?_⟩;show dE _ _ _=some (_,_);simp only[dE,e hl g,hn]
  ·cases hs
 all_goals
  have hs:dE _ _ _=some (_,_):=hs;simp only[dE]at hs
  repeat' split at hs
  all_goals first
   |(cases hs;done)
   |(cases hs
     refine⟨rfl,λg=>?_⟩;show dE _ _ _=some (_,_);simp only[dE, *]
     done)
   |(cases hs
     refine⟨rfl,λg=>?_⟩;show dE _ _ _=some (_,_);simp[dE, *]
     done)
def yV{P o}(hk:fG o.k=true){ts ts' h h'}(hs:dI P o ts h ts' h'):h' =h/\∀g,dI P o ts g ts' g:=by
 cases hs with
 | @run v h' hw hb hs=>
  have Tq:nA o.k (val ts) h v h':=by
   cases Vl:o.k<;>rw[Vl]at hs hk<;>first|exact hs|(cases hk;done)
  obtain⟨rfl,h2⟩:=I7 hk Tq;refine⟨rfl,λg=>.run hw hb ?_⟩;have:=h2 g;cases Vl:o.k<;>rw[Vl]at this hk<;>first|exact this|(cases hk;done)
 |skip hw=>exact⟨rfl,λg=>.skip hw⟩
def yS{P o}(hk:cH o.k=true){ts ts' h h'}(hs:dI P o ts h ts' h'):h' =h:=by
 by_cases hp:fG o.k=true
 ·exact(yV hp hs).1
 ·cases Vl:o.k with
  |load n a=>
   cases hs with
   |run hw hb hs=>
    rw[Vl]at hs;have hs:dE (.load n a) _ _=some (_,_):=hs;simp only[dE]at hs
    repeat' split at hs
    all_goals first
     |(cases hs;done)
     |(cases hs;rfl)
   |skip hw=>rfl
  |_=>rw[Vl]at hk hp;exact absurd hk hp
def GZ{P o}(hk:lC o=true){ts ts' h h'}(hs:dI P o ts h ts' h')(hq:o.q=true->∃g,h' =h++g):∃g,h' =h++g:=by
 by_cases hqq:o.q=true
 ·exact hq hqq
 have hk:En o.k=true:=by
  have:o.q=false:=by simpa using hqq
  simpa [lC,this]using hk
 cases hs with
 |run hw hb hs=>
  cases Vl:o.k<;>rw[Vl]at hk hs<;>first|(cases hk;done)|skip
  case a8 es n z ps=>
   have hs:nA (.a8 es n z ps) _ _ _ _:=hs;obtain⟨c,mu,tl,_,_,_,_,e⟩:=hs;exact⟨_,e⟩
  all_goals
   have hs:dE _ _ _=some (_,_):=hs;simp only[dE]at hs
   repeat' split at hs
   all_goals first
    |(cases hs;done)
    |(cases hs;exact⟨_,rfl⟩)
 |skip hw=>exact⟨[],Si⟩
def DB{P o n a}(hk:o.k=.load n a){ts ts' h}(hs:dI P o ts h ts' h)(g:ah):dI P o ts (h++g) ts' (h++g):=by
 generalize hh:h=h2 at hs;cases hs with
 | @run v _ hw hb hs=>
  subst hh;refine .run hw (by rw[hk];trivial) ?_;rw[hk]at hs ⊢;have hs:dE (.load n a) (val ts) h=some (v,h):=hs;show dE (.load n a) (val ts) (h++g)=some (v,h++g);simp only[dE]at hs ⊢;cases hv:val ts a with
  |ptr b off=>
   rw[hv]at hs;simp only at hs ⊢;cases T3:h[b]? with
   |none=>rw[T3]at hs;cases hs
   |some k=>
    rw[aag (aad.1 T3).1,T3];rw[T3]at hs;cases k with
    |cells c mu tl=>
     simp only at hs ⊢;cases n with
     |none=>
      simp only at hs ⊢;cases hc:c[off]? with
      |none=>rw[hc]at hs;cases hs
      |some x=>rw[hc]at hs;cases hs;rfl
     |some n=>
      simp only at hs ⊢;by_cases hlt:off+n<=c.length
      ·rw[aas hlt]at hs ⊢;cases hs;rfl
      ·rw[aao hlt]at hs;cases hs
    |_=>cases hs
  |_=>rw[hv]at hs;cases hs
 |skip hw=>subst hh;exact .skip hw
def HR.Df{P m h w}(hr:HR P m h w)(g:ah):HR P m (h++g) w where
 cM:=λb e hb=>by have:=hr.cM b e hb;simp;omega
 dW:=λb e k hb hk=>hr.dW b e k hb (by rwa [aag (hr.cM b e hb)]at hk)
 sep:=λb1 b2 e1 e2 k1 k2 hne h1 h2 hk1 Tr hcb=>hr.sep b1 b2 e1 e2 k1 k2 hne h1 h2 (by rwa [aag (hr.cM b1 e1 h1)]at hk1) (by rwa [aag (hr.cM b2 e2 h2)]at Tr) hcb
 fS:=hr.fS
 lt:=hr.lt
def HR.Jp{P m h g w}(hr:HR P m (h++g) w)(hd:∀b e,m b=some e->b<h.length):HR P m h w where
 cM:=hd
 dW:=λb e k hb hk=>hr.dW b e k hb (by rw[aag (hd b e hb)];exact hk)
 sep:=λb1 b2 e1 e2 k1 k2 hne h1 h2 hk1 Tr hcb=>hr.sep b1 b2 e1 e2 k1 k2 hne h1 h2 (by rw[aag (hd b1 e1 h1)];exact hk1) (by rw[aag (hd b2 e2 h2)];exact Tr) hcb
 fS:=hr.fS
 lt:=hr.lt
def jL{M l}(h:o6 M l=true){i j x y}(hij:i<j)(hx:l[i]? =some x)(hy:l[j]? =some y)(px:fG x.k=false)(py:fG y.k=false)(lx:nj x=false)(ly:nj y=false)
  (hr:(cH x.k=false/\cH y.k=false)\/(cH x.k=false/\lC x=false)\/(cH y.k=false/\lC y=false)):ahead M i j=true:=by
 have hj:j<l.length:=(aad.1 hy).1;unfold o6 at h;rw[aaO]at h;have h1:=h j (abq.2 hj);rw[aaO]at h1;have h2:=h1 i (abq.2 hij);rw[hx,hy]at h2;simp only[px,py,lx,ly,acx]at h2;rcases hr with⟨a,b⟩|⟨a,b⟩|⟨a,b⟩<;>simpa [a,b]using h2
theorem Ad:∀{l}{i}{o},l[i]? =some o->DC o=false->i<dP l
 |[],i,o,h,_=>by simp at h
 |x::r,i,o,h,hk=>by
  have hn:¬k9 (x::r)=true:=λhall=>by
   have:=aaO.1 (Bool.and_eq_true_iff.1 hall).1 o (aa8 h);rw[hk]at this;cases this
  rw[dP,aao hn];cases i with
  |zero=>omega
  |succ i=>have:=Ad (l:=r) (i:=i) (by simpa using h) hk;omega
def qD{M l}(h:nR M l=true){i j x y}(hx:l[i]? =some x)(lx:nj x=true)(hy:l[j]? =some y)(ky:cH y.k=false)(hj:dP l<=j):ahead M i j=true:=by
 unfold nR at h;rw[aaO]at h;have h1:=h i (abq.2 (aad.1 hx).1);rw[hx]at h1;simp only[lx,aaD,acx,aaO,abq]at h1;have h2:=h1 j (aad.1 hy).1;rw[hy]at h2;have YC:¬j<dP l:=Om
 simpa [ky,YC]using h2
def rR{P cq}(hmix:P.follows .mixedOrders=true){ops l}(hed:lq (Region.before ops) ops=true)(hsl:mJ (Region.before ops) ops=true)
  (hc:eU (λ_ o=>bW P ops (tC cq o) o) ops.toList 0=some l) (hmo:o6 (Region.before ops) l=true) {T}{H}(hrow:Row P l T H) (hstab:∀(i:Nat) (io:bO),l[i]? =some io->nj io=true->∀θ,θ<=dP l->dI P io (T i) (H θ) (T (i+1)) (H θ)) (hlate:∀(i j:Nat) (x y:bO),l[i]? =some x->nj x=true->l[j]? =some y->cH y.k=false->dP l<=j->ahead (Region.before ops) i j=true) {m}{a}{w}
  (st:St P m (T 0) (H 0) a w) (ro:Option Nat) (Q:Exit->Act->World->Prop) (hQ:∀m' a' w',St P m' (T l.length) (H l.length) a' w'->Grow m (H 0) w m' (H l.length) w'->a'.defers=a.defers->Q .normal a' w') (id:Nat):
  (Code.region id ops true).wpIn (Fd ro) 0 P Q a w:=by
 refine wpIn_region_any hmix ?_;obtain⟨TJ,Ty⟩:=gF hc;simp only[acw]at TJ;have XR:∀(j:Nat) (io:bO),l[j]? =some io->∃o,ops[j]? =some o/\bW P ops (tC cq o) o=some io:=λj io hj=>by
  exact Pc
 have Uz:∀(j:Nat) (io:bO) (d:Nat),l[j]? =some io->io.dst=some d->∃o,ops[j]? =some o/\o.dst=some d:=λj io d hj hd=>by
  exact z76
 have huniq:∀(i j:Nat) (oi oj:bO) (d:Nat),l[i]? =some oi->l[j]? =some oj->oi.dst=some d->oj.dst=some d->i=j:=λi j oi oj d hi hj h1 h2=>by
  exact Pe
 have UZ:∀(j:Nat) (io:bO),l[j]? =some io->∃v,T (j+1)=put (T j) io.dst v:=λj io hj=>(hrow.step j io hj).1.put
 have hTl:∀j,j<=l.length->(T j).length=(T 0).length:=by
  intro j
  induction j with
  |zero=>intro _;rfl
  |succ j ih=>
   intro hj;exact O5
 have TE:∀x y t,x<=y->y<=l.length->(∀(j:Nat) (o:bO),x<=j->j<y->l[j]? =some o->o.dst≠some t)->(T y).getD t az=(T x).getD t az:=by
  intro x y t hxy hy hno;exact So
 have Wj:∀(j:Nat) (io:bO),l[j]? =some io->cH io.k=true->H (j+1)=H j:=λj io hj hk=>yS hk (hrow.step j io hj).1
 have Wk:∀x k,x+k<=l.length->(∀(j:Nat) (o:bO),x<=j->j<x+k->l[j]? =some o->cH o.k=true)->H (x+k)=H x:=by
  intro x k
  induction k with
  |zero=>intro _ _;rfl
  |succ k ih=>
   intro hk hno;exact z59
 have Zj:∀x k,x+k<=l.length->(∀(j:Nat) (o:bO),x<=j->j<x+k->l[j]? =some o->cH o.k=true\/lC o=true)->∃g,H (x+k)=H x++g:=by
  intro x k
  induction k with
  |zero=>intro _ _;exact⟨[],Si⟩
  |succ k ih=>
   intro hk hno;have hj:l[x+k]? =some (l[x+k]'Om):=aai Om;obtain⟨g,hg⟩:=ih Om λj o h1 h2 h3=>hno j o h1 Om h3
   rcases hno _ _ Om Om hj with h1|h1
   ·exact⟨g,by rw[show x+(k+1)=x+k+1 from by omega,Wj _ _ hj h1,hg]⟩
   ·obtain⟨g2,XL⟩:=GZ h1 (hrow.step _ _ hj).1 (hrow.step _ _ hj).2;exact⟨g++g2,by rw[show x+(k+1)=x+k+1 from by omega,XL,hg,aae]⟩
 have W9:∀x y,x<=l.length->y<=l.length->(∀(j:Nat) (o:bO),l[j]? =some o->cH o.k=false->(j<x↔j<y))->H x=H y:=by
  intro x y hx hy hno;exact Sx
 have hdone:∀(listed:Array Bool) (θ:Nat) (m1:cw) (a1:Act) (w1:World),(∀i,i<ops.size->listed.getD i false=true)->θ<=l.length->
   (∀(j:Nat) (o:bO),l[j]? =some o->cH o.k=false->(j<θ↔listed.getD j false=true))->HR P m1 (H θ) w1->Grow m (H 0) w m1 (H θ) w1->a1.tmps.size=(T 0).length->
   (∀(d:Nat),(∀(j:Nat) (o:bO),l[j]? =some o->listed.getD j false=true->o.dst≠some d)->VR m1 ((T 0).getD d az) (a1.tmps.getD d undef))->
   (∀(d j:Nat) (o:bO),l[j]? =some o->listed.getD j false=true->o.dst=some d->VR m1 ((T (j+1)).getD d az) (a1.tmps.getD d undef))->a1.defers=a.defers->Q .normal a1 w1:=by
  intro listed θ m1 a1 w1 hall hθ hS hr hg dV h1 h2 hd;have e:=W9 θ l.length hθ (aar _) λj o hj hk=>by
   have VF:=(aad.1 hj).1;have:=(hS j o hj hk).2 (hall j Om);omega
  rw[e]at hr hg;refine hQ m1 a1 w1 ⟨hr,cL.iG ?_ ?_⟩ hg hd
  ·exact Iz
  ·intro t x hx;exact SC
 have key:∀(fuel:Nat) (listed:Array Bool) (θ:Nat) (m1:cw) (a1:Act) (w1:World),listed.size=ops.size->rC listed ops.size<=fuel->
   (∀j x,listed.getD j false=true->x<ops.size->ahead (Region.before ops) x j=true->listed.getD x false=true)->θ<=l.length->(θ<=dP l\/∃(j:Nat) (o:bO),l[j]? =some o/\cH o.k=false/\dP l<=j/\j<θ)->
   (∀(j:Nat) (o:bO),l[j]? =some o->cH o.k=false->(j<θ↔listed.getD j false=true))->HR P m1 (H θ) w1->Grow m (H 0) w m1 (H θ) w1->a1.tmps.size=(T 0).length->
   (∀(d:Nat),(∀(j:Nat) (o:bO),l[j]? =some o->listed.getD j false=true->o.dst≠some d)->VR m1 ((T 0).getD d az) (a1.tmps.getD d undef))->
   (∀(d j:Nat) (o:bO),l[j]? =some o->listed.getD j false=true->o.dst=some d->VR m1 ((T (j+1)).getD d az) (a1.tmps.getD d undef))->a1.defers=a.defers->wpAnyIn (Fd ro) 0 P .any ops Q fuel listed a1 w1:=by
  intro fuel
  induction fuel with
  |zero=>
   intro listed θ m1 a1 w1 TG hu hcl hθ hL hS hr hg dV h1 h2 hd;have hall:=lU ops.size (show rC listed ops.size=0 by omega);exact⟨mM TG hall,hdone listed θ m1 a1 w1 hall hθ hS hr hg dV h1 h2 hd⟩
  |succ fuel ih=>
   intro listed θ m1 a1 w1 TG hu hcl hθ hL hS hr hg dV h1 h2 hd;refine⟨λhrn=>hdone listed θ m1 a1 w1 (mL hed TG hrn) hθ hS hr hg dV h1 h2 hd,λi hi=>?_⟩;obtain⟨o,ho,Uw,YE⟩:=(jB TG).1 hi;have hin:i<ops.size:=(aax.1 ho).1;obtain⟨io,hio,TC⟩:=Ty i o (by simpa using ho);obtain⟨bN,_⟩:=hrow.step i io hio;have hahead:∀x,x<ops.size->ahead (Region.before ops) x i=true->listed.getD x false=true:=λx hx ha=>by
    exact OL
   have Vq:∀j x,(listed.setIfInBounds i true).getD j false=true->x<ops.size->ahead (Region.before ops) x j=true->(listed.setIfInBounds i true).getD x false=true:=by
    intro j x hj hx ha;exact z40
   have Xr:rC (listed.setIfInBounds i true) ops.size<=fuel:=by
    exact z80
   have hslot:∀t,t∈o.looksAt ops->VR m1 ((T i).getD t az) (a1.tmps.getD t undef):=by
    intro t ht;exact z12
   have hrp:∀{k:pN},cH k=false->fG k=false:=λ{k} hk=>by
    cases k<;>first|exact hk|(cases hk;done)
   have hld:∀{o:bO},cH o.k=false->nj o=false:=λ{o} hk=>by
    exact z159
   have hne:∀j,j≠i->(listed.setIfInBounds i true).getD j false=listed.getD j false:=λj hj=>by rw[c9 Om,aao hj]
   have Ys:cH io.k=true->∀(j:Nat) (o:bO),l[j]? =some o->cH o.k=false->(j<θ↔(listed.setIfInBounds i true).getD j false=true):=λUD j oj hj hk=>by
    have hji:j≠i:=λe=>by
     subst e;rw[hio]at hj;cases hj;rw[UD]at hk;cases hk
    rw[hne j hji];exact hS j oj hj hk
   have T9:∃θ',θ'<=l.length/\(θ'<=dP l\/∃(j:Nat) (o:bO),l[j]? =some o/\cH o.k=false/\dP l<=j/\j<θ')/\(∀(j:Nat) (o:bO),l[j]? =some o->cH o.k=false->(j<θ'↔(listed.setIfInBounds i true).getD j false=true))/\∃hb h2,HR P m1 hb w1/\dI P io (T i) hb (T (i+1)) h2/\
     ∀m' w',HR P m' h2 w'->Grow m1 hb w1 m' h2 w'->HR P m' (H θ') w'/\Grow m1 (H θ) w1 m' (H θ') w':=by
    by_cases hp:fG io.k=true
    ·have UD:cH io.k=true:=by cases Vl:io.k<;>rw[Vl]at hp<;>first|exact hp|(cases hp;done)
     exact⟨θ,hθ,hL,Ys UD,H θ,H θ,hr,(yV hp bN).2 _,λm' w' a b=>⟨a,b⟩⟩
    ·have Y5:fG io.k=false:=by simpa using hp
     by_cases Xe:nj io=true
     ·have UD:cH io.k=true:=by
       cases Vl:io.k<;>simp[nj,Vl]at Xe<;>rfl
      have hθc:θ<=dP l:=by
       rcases hL with h|⟨j,oj,h1,h2,h3,h4⟩
       ·exact h
       ·have e:=hcl j i ((hS j oj h1 h2).1 h4) hin (hlate i j io oj hio Xe h1 h2 h3);rw[Uw]at e;cases e
      exact⟨θ,hθ,hL,Ys UD,H θ,H θ,hr,hstab i io hio Xe θ hθc,λm' w' a b=>⟨a,b⟩⟩
     have Xe:nj io=false:=by simpa using Xe
     by_cases UD:cH io.k=true
     ·obtain⟨n,ad,Vl⟩:∃n ad,io.k=.load n ad:=by
       cases Vl:io.k with
       |load n ad=>exact⟨n,ad,rfl⟩
       |_=>rw[Vl]at UD hp;exact absurd UD hp
      have hHh:∀(j:Nat) (o:bO),l[j]? =some o->cH o.k=false->lC o=false->(j<θ↔j<i):=λj oj hj hk Tr=>by
       have VF:=(aad.1 hj).1;constructor
       ·intro XI;have Vm:=(hS j oj hj hk).1 XI;by_cases e1:j=i
        ·exact Ix
        ·by_cases e2:j<i
         ·exact e2
         ·have e3:=jL hmo (show i<j by omega) hio hj Y5 (hrp hk) Xe (hld hk) (.inr (.inr ⟨hk,Tr⟩));have e4:=hcl j i Vm hin e3;rw[Uw]at e4;cases e4
       ·intro hji;exact(hS j oj hj hk).2 (hahead j Om (jL hmo hji hj hio (hrp hk) Y5 (hld hk) Xe (.inr (.inl ⟨hk,Tr⟩))))
      have VW:dI P io (T i) (H i) (T (i+1)) (H i):=by
       have e:=yS UD bN;rw[e]at bN;exact bN
      by_cases Ux:i<=θ
      ·obtain⟨g,XL⟩:=Zj i (θ-i) Om λj oj h1 h2 h3=>by
        exact R8
       rw[show i+(θ-i)=θ from by omega]at XL;refine⟨θ,hθ,hL,Ys UD,H θ,H θ,hr,?_,λm' w' a b=>⟨a,b⟩⟩;rw[XL];exact DB Vl VW g
      ·obtain⟨g,XL⟩:=Zj θ (i-θ) Om λj oj h1 h2 h3=>by
        exact R8
       rw[show θ+(i-θ)=i from by omega]at XL;rw[XL]at VW;refine⟨θ,hθ,hL,Ys UD,H θ++g,H θ++g,hr.Df g,VW,λm' w' a b=>?_⟩;have hm:m' =m1:=by
        funext z;by_cases hz:z<(H θ++g).length
        ·exact b.ext z hz
        ·have e1:m1 z=none:=by
          cases hx:m1 z with
          |none=>rfl
          |some e=>exact absurd ((hr.Df g).cM z e hx) hz
         have e2:m' z=none:=by
          cases hx:m' z with
          |none=>rfl
          |some e=>exact absurd (a.cM z e hx) hz
         rw[e1,e2]
       subst hm;exact⟨a.Jp hr.cM,⟨λ_ _=>rfl,aar _,λz e hz hmz=>absurd (hr.cM z e hmz) Om,λ_ _ x=>x,b.size,b.os,b.out,b.tape,b.frame⟩⟩
     ·have US:cH io.k=false:=by simpa using UD
      have hHi:H θ=H i:=W9 θ i hθ Om λj oj hj hk=>by
       have VF:=(aad.1 hj).1;constructor
       ·intro XI;have Vm:=(hS j oj hj hk).1 XI;by_cases e1:j=i
        ·exact Ix
        ·by_cases e2:j<i
         ·exact e2
         ·exact R5
       ·intro hji;exact(hS j oj hj hk).2 (hahead j Om (jL hmo hji hj hio (hrp hk) Y5 (hld hk) Xe (.inl ⟨hk,US⟩)))
      refine⟨i+1,Om,(by by_cases hc:i+1<=dP l;exact .inl hc;exact .inr ⟨i,io,hio,US,Om,Om⟩),λj oj hj hk=>?_,H θ,H (i+1),hr,by rw[hHi];exact bN,λm' w' a b=>⟨a,b⟩⟩;have VF:=(aad.1 hj).1;by_cases e1:j=i
      ·subst e1;rw[c9 Om,aas rfl];exact⟨λ_=>rfl,λ_=>by omega⟩
      ·rw[hne j e1];constructor
       ·intro hji;exact hahead j Om (jL hmo (show j<i by omega) hj hio (hrp hk) Y5 (hld hk) Xe (.inl ⟨hk,US⟩))
       ·intro Vm;by_cases e2:j<i
        ·omega
        ·exact R5
   obtain⟨θ',ZL,Yi,hS',hb,h2',X9,VW,UX⟩:=T9;refine fH ho TC X9.gv X9 (by rw[dV,hTl i Om]) hslot VW ro _ Q ?_;intro cv v' m' w' UQ U6 hrx hgx;obtain⟨hr',TN⟩:=UX m' w' hrx hgx;have TW:io.dst=o.dst:=(dC TC).1;have VU:=TN.le hr.cM;have hlt:(listed.setIfInBounds i true).getD i false=true:=by rw[c9 Om,aas rfl]
   have WJ:(a1.put o.dst cv).tmps=iu a1.tmps o.dst cv:=by cases o.dst<;>rfl
   refine ih _ θ' m' (a1.put o.dst cv) w' (by simp[TG]) Xr Vq ZL Yi hS' hr' (hg.trans TN st.hr.cM) (by rw[WJ,fj];exact dV) ?_ ?_ (by rw[put_defers];exact hd)
   ·intro d hdn;have Vk:o.dst≠some d:=by rw[<-TW];exact hdn i io hio hlt
    rw[WJ,dL Vk];refine VR.mono VU _ _ (h1 d λj oj hj hl=>hdn j oj hj ?_);exact OG
   ·intro d j oj hj hl Wd;by_cases e1:j=i
    ·subst e1;rw[hio]at hj;cases hj;rw[UQ,WJ,<-TW,Wd];exact mg (by rw[dV,hTl j Om]) U6
    ·have Vk:o.dst≠some d:=λhx=>by
      exact IC
     rw[WJ,dL Vk];rw[hne j e1]at hl;exact VR.mono VU _ _ (h2 d j oj hj hl Wd)
 have Tx:∀j,(Array.replicate ops.size false).getD j false=false:=λj=>by
  exact OH
 refine key ops.size (Array.replicate ops.size false) 0 m a _ Si ?_ (λj x hj _ _=>by simp[Tx j]at hj) (aaQ _) (.inl (aaQ _)) (λj oj hj hk=>⟨λhx=>absurd hx Om,λhx=>by simp[Tx j]at hx⟩) st.hr.drew (Grow.refl m _ w st.hr.cM).drew ?_ (λd _=>om st.ts d) (λd j o _ hj _=>by simp[Tx j]at hj) rfl
 ·exact z24
 ·exact EL
section
variable {P:Program}{m m':cw}{h h':ah}{w w':World}
def wO{ops i o}(ho:ops[i]? =some o){q io}(hc:bW P ops q o=some io)(hgd0:io.gd=none){ts a v}
  (hg:GV P m) (hr:HR P m h w) (ht:∀t,t∈o.looksAt ops->VR m (ts.getD t az) (a.tmps.getD t undef)) (hs:qo P io.k (val ts) h v h') (ro:Option Nat) (K:Act->World->Prop) (Q:Exit->Act->World->Prop)
  (hn:∀cv m' w',VR m' v cv->HR P m' h' w'->Grow m h w m' h' w'->K (a.put o.dst cv) w'):wpOpIn (Fd ro) 0 P ops Q i K a w:=by
 unfold bW at hc;split at hc
 case h_2=>cases hc
 rename_i g Xf;cases hc;have hg0:g=none:=hgd0;subst hg0;have hw:=rA (m:=m) (ts:=ts) (a:=a) Xf (λt b Wv=>by cases Wv);unfold wpOpIn;rw[ho];simp only;rw[aas (hw.2 trivial)];simp only at hs;split at hs
 case isFalse=>exact absurd hs pA
 rename_i hgok;cases hk:eF P o with
 |none=>rw[hk]at hs;exact absurd hs pA
 |some k=>
  rw[hk]at hs;refine wM hk (λx hx x' Tu=>?_) (λz=>rfl) hr hs ro K Q (λcv m' w' h1 h2 h3=>hn cv m' w' h1 h2 h3);exact Se
def BH{n x}(h:zb x=true):je n x:=by
 cases x<;>first
  |(cases h;done)
  |skip
 case bool b=>exact⟨λ_=>none,_,(λ_ _ z=>by cases z),rfl⟩
 case int k b=>exact⟨λ_=>none,_,(λ_ _ z=>by cases z),rfl⟩
 case yl k b=>exact⟨λ_=>none,.float k b,(λ_ _ z=>by cases z),⟨b,rfl,.inl rfl⟩⟩
 case ya k a b=>exact⟨λ_=>none,.complex k a b,(λ_ _ z=>by cases z),⟨a,b,rfl,.inl rfl,.inl rfl⟩⟩
 all_goals exact⟨λ_=>none,_,(λ_ _ z=>by cases z),rfl⟩
def zd{n x}(h:je n x):∀y∈x.cells,je n y:=by
 obtain⟨ma,va,h1,h2⟩:=h;intro y hy;obtain⟨i,hi,rfl⟩:=acr hy;obtain⟨v,_,hv⟩:=h2.cells.get (aai hi);exact⟨ma,v,h1,hv⟩
theorem wq:∀{l c}{o}{x},x∈fV c o l->x∈c\/x∈l
 |[],c,o,x,h=>.inl h
 |y::l,c,o,x,h=>by
  have h:x∈fV (c.set o y) (o+1) l:=h;rcases wq h with h|h
  ·rcases abU h with h|h
   ·exact .inl h
   ·exact .inr (by rw[h];simp)
  ·exact .inr (aaP _ h)
theorem sN{n}:∀{ps}{z c},(∀x∈z,je n x)->(∀p∈ps,je n p.2.2)->eT z ps=some c->∀x∈c,je n x
 |[],z,c,hz,_,h,x,hx=>by cases h;exact hz x hx
 |(off,k,v)::r,z,c,hz,hp,h,x,hx=>by
  rw[eT]at h;split at h
  ·refine sN (λy hy=>?_) (λp hq=>hp p (aaP _ hq)) h x hx;rcases wq hy with hy|hy
   ·exact hz y hy
   ·exact zd (hp (off,k,v) Si) y hy
  ·cases h
theorem v7:∀{n}{z}{x},x∈dX n z->x∈z
 | 0,z,x,h=>by simp[dX]at h
 |n+1,z,x,h=>by
  have h:x∈z++dX n z:=h;rcases aam.1 h with h|h
  ·exact h
  ·exact v7 h
def Di(gr:Grow m h w m' h' w')(hd:∀b e,m b=some e->b<h.length){e k}(hk:k.live=true)(hb:BR P m w e k)(hout:∀b e',m b=some e'->e'.cb≠e.cb):BR P m' w' e k/\∀b e',m' b=some e'->e'.cb≠e.cb:=by
 have hlt:=hb.lt hk;refine⟨(hb.heap (gr.frame e.cb hlt λb e' he _=>hout b e' he)).mono (gr.le hd),λb e' he=>?_⟩;by_cases hbl:b<h.length
 ·rw[gr.ext b hbl]at he;exact hout b e' he
 ·obtain⟨_,hc⟩:=gr.new b e' Om he;rcases hc with hc|⟨b0,e0,c1,c2,_⟩
  ·omega
  ·rw[<-c2];exact hout b0 e0 c1
def HR.zk(hr:HR P m h w){e k}(hk:k.live=true)(hb:BR P m w e k)(hout:∀b e',m b=some e'->e'.cb≠e.cb):HR P (m.add h.length e) (h++[k]) w:=by
 have Uu:m h.length=none:=by
  exact OJ
 have hle:m.le (m.add h.length e):=cw.th _ Uu;have TD:∀b e',(m.add h.length e) b=some e'->(b=h.length/\e' =e)\/(b<h.length/\m b=some e'):=λb e' UO=>by
  exact z85
 refine⟨λb e' UO=>?_,λb e' k' UO hk'=>?_,λb1 b2 e1 e2 k1 k2 hne h1 h2 hk1 Tr hcb=>?_,λg hg=>?_,λb e' UO=>?_⟩
 ·rw[aac];rcases TD b e' UO with⟨rfl,_⟩|⟨hlt,_⟩
  ·simp
  ·simp;omega
 ·rcases TD b e' UO with⟨rfl,rfl⟩|⟨hlt,hm⟩
  ·rw[aan (aar _),abi]at hk';cases hk';exact hb.mono hle
  ·rw[aag hlt]at hk';exact(hr.dW b e' k' hm hk').mono hle
 ·exact Sr
 ·obtain⟨e',he,hx⟩:=hr.fS g hg;exact⟨e',hle _ _ he,hx⟩
 ·rcases TD b e' UO with⟨_,rfl⟩|⟨_,hm⟩
  ·exact hb.lt hk
  ·exact hr.lt b e' hm
def Grow.zk{m0 h0 w0}(gr:Grow m0 h0 w0 m h w)(hd0:∀b e,m0 b=some e->b<h0.length)(hd:∀b e,m b=some e->b<h.length){e k}(ho:e.own=true)(hlt:w0.heap.size<=e.cb):Grow m0 h0 w0 (m.add h.length e) (h++[k]) w where
 ext:=λb hb=>by
  have:b≠h.length:=by have:=gr.len;omega
  show(if b=h.length then some e else m b)=_;rw[aao this];exact gr.ext b hb
 len:=by rw[aac];have:=gr.len;omega
 new:=λb e' hb he=>by
  unfold cw.add at he;by_cases hx:b=h.length
  ·rw[aas hx]at he;cases he;exact⟨ho,.inl hlt⟩
  ·rw[aao hx]at he;obtain⟨h1,hc⟩:=gr.new b e' hb he;refine⟨h1,?_⟩;rcases hc with hc|⟨b0,e0,c1,c2,c3,c4,c5⟩
   ·exact .inl hc
   ·have:=hd0 _ _ c1;exact .inr ⟨b0,e0,c1,c2,c3,c4,by rw[fO (by have:=gr.len;omega)];exact c5⟩
 tl:=λb hb ht=>by
  rw[fO (by have:=gr.len;omega)]at ht;exact gr.tl b hb ht
 size:=gr.size
 os:=gr.os
 out:=gr.out
 tape:=gr.tape
 frame:=gr.frame
end
def qy{M l f}(h:sf M l f=true){i j x y}(hij:i<j)(hx:l[i]? =some x)(hy:l[j]? =some y)(px:fG x.k=false)(py:fG y.k=false)(lx:nj x=false)(ly:nj y=false)(hj:j≠f):ahead M i j=true:=by
 have VF:j<l.length:=(aad.1 hy).1;unfold sf at h;rw[aaO]at h;have h1:=h j (abq.2 VF);rw[aaO]at h1;have h2:=h1 i (abq.2 hij);rw[hx,hy]at h2
 simpa [px,py,lx,ly,hj]using h2
structure Tk(ops:Array Oper)(l:List bO)(f df es n:Nat)(z:List AV)(ps:List (Nat×cZ))(q:Bool):Prop where
 hf:l[f]? =some {dst:=some df,k:=.a8 es n z ps,gd:=none,q:=q}
 hz:∀x∈z,zb x=true
 hp:∀p∈ps,∃u,p.2=.t u/\fJ ops f u=true
 hr:∀j o,l[j]? =some o->cH o.k=true->(fG o.k=true\/nj o=true)/\fJ ops j df=false
def y5{ops l f}(h:xQ ops l f=true):∃df es n z ps q,Tk ops l f df es n z ps q:=by
 unfold xQ at h;split at h
 case h_2=>cases h
 rename_i d es n z ps q hf;simp only[aaM,aaO,abq]at h;obtain⟨⟨h1,h2⟩,h3⟩:=h;refine⟨d,es,n,z,ps,q,hf,h1,λp hp=>?_,λj o hj hk=>?_⟩
 ·have:=h2 p hp;split at this
  ·rename_i u hu;exact⟨u,hu,this⟩
  ·cases this
 ·have:=h3 j (aad.1 hj).1;rw[hj]at this;simp only[hk,aaD,acx,aaM,ab3,abt]at this;exact this
structure lF(P:Program)(l:List bO)(f df:Nat)(k:ak)(T:Nat->TS)(H:Nat->ah)(m:cw)(w:World)(listed:Array Bool)(θ:Nat)(m1:cw)(tm:Array Value)(w1:World):Prop where
 hθ:θ<=l.length
 hL:θ<=dP l\/∃(j:Nat) (o:bO),l[j]? =some o/\cH o.k=false/\j≠f/\dP l<=j/\j<θ
 hS:∀(j:Nat) (o:bO),l[j]? =some o->cH o.k=false->j≠f->(j<θ↔listed.getD j false=true)
 hf:f<θ->listed.getD f false=true
 hr:HR P m1 (H θ) w1
 hg:Grow m (H 0) w m1 (H θ) w1
 dV:tm.size=(T 0).length
 h1:∀(d:Nat),(∀(j:Nat) (o:bO),l[j]? =some o->listed.getD j false=true->o.dst≠some d)->VR m1 ((T 0).getD d az) (tm.getD d undef)
 h2:∀(d j:Nat) (o:bO),l[j]? =some o->listed.getD j false=true->o.dst=some d->(j=f->f<θ)->VR m1 ((T (j+1)).getD d az) (tm.getD d undef)
 pd:listed.getD f false=true->θ<=f->∃e:tJ,BR P m1 w1 e k/\e.own=true/\w.heap.size<=e.cb/\(∀b e',m1 b=some e'->e'.cb≠e.cb)/\∀m':cw,m1.le m'->m' (H f).length=some e->VR m' ((T (f+1)).getD df az) (tm.getD df undef)
def yR{P cq f}(hmix:P.follows .mixedOrders=true){ops l}(hed:lq (Region.before ops) ops=true)(hsl:mJ (Region.before ops) ops=true)
  (hc:eU (λ_ o=>bW P ops (tC cq o) o) ops.toList 0=some l) (hfo:xQ ops l f=true) (hmo:sf (Region.before ops) l f=true) {T}{H}(hrow:Row P l T H) (hstab:∀(i:Nat) (io:bO),l[i]? =some io->nj io=true->∀θ,θ<=dP l->dI P io (T i) (H θ) (T (i+1)) (H θ)) (hlate:∀(i j:Nat) (x y:bO),l[i]? =some x->nj x=true->l[j]? =some y->cH y.k=false->dP l<=j->ahead (Region.before ops) i j=true) {m}{a}{w}
  (st:St P m (T 0) (H 0) a w) (ro:Option Nat) (Q:Exit->Act->World->Prop) (hQ:∀m' a' w',St P m' (T l.length) (H l.length) a' w'->Grow m (H 0) w m' (H l.length) w'->a'.defers=a.defers->Q .normal a' w') (id:Nat):
  (Code.region id ops true).wpIn (Fd ro) 0 P Q a w:=by
 obtain⟨df,es,n,zz,ps,qf,F⟩:=y5 hfo;refine wpIn_region_any hmix ?_;obtain⟨TJ,Ty⟩:=gF hc;simp only[acw]at TJ;have XR:∀(j:Nat) (io:bO),l[j]? =some io->∃o,ops[j]? =some o/\bW P ops (tC cq o) o=some io:=λj io hj=>by
  exact Pc
 have Uz:∀(j:Nat) (io:bO) (d:Nat),l[j]? =some io->io.dst=some d->∃o,ops[j]? =some o/\o.dst=some d:=λj io d hj hd=>by
  exact z76
 have huniq:∀(i j:Nat) (oi oj:bO) (d:Nat),l[i]? =some oi->l[j]? =some oj->oi.dst=some d->oj.dst=some d->i=j:=λi j oi oj d hi hj h1 h2=>by
  exact Pe
 have UZ:∀(j:Nat) (io:bO),l[j]? =some io->∃v,T (j+1)=put (T j) io.dst v:=λj io hj=>(hrow.step j io hj).1.put
 have hTl:∀j,j<=l.length->(T j).length=(T 0).length:=by
  intro j
  induction j with
  |zero=>intro _;rfl
  |succ j ih=>
   intro hj;exact O5
 have TE:∀x y t,x<=y->y<=l.length->(∀(j:Nat) (o:bO),x<=j->j<y->l[j]? =some o->o.dst≠some t)->(T y).getD t az=(T x).getD t az:=by
  intro x y t hxy hy hno;exact So
 have Wj:∀(j:Nat) (io:bO),l[j]? =some io->cH io.k=true->H (j+1)=H j:=λj io hj hk=>yS hk (hrow.step j io hj).1
 have Wk:∀x k,x+k<=l.length->(∀(j:Nat) (o:bO),x<=j->j<x+k->l[j]? =some o->cH o.k=true)->H (x+k)=H x:=by
  intro x k
  induction k with
  |zero=>intro _ _;rfl
  |succ k ih=>
   intro hk hno;exact z59
 have W9:∀x y,x<=l.length->y<=l.length->(∀(j:Nat) (o:bO),l[j]? =some o->cH o.k=false->(j<x↔j<y))->H x=H y:=by
  intro x y hx hy hno;exact Sx
 have T0:f<l.length:=(aad.1 F.hf).1;obtain⟨cf,mu,tl,UI,hTf,hHf,hcf⟩:∃cf mu tl,eT (dX n zz) (ps.map λp=>(p.1,es,val (T f) p.2))=some cf/\T (f+1)=put (T f) (some df) (.slice (H f).length 0 n es)/\H (f+1)=H f++[.cells cf mu tl]/\∀g:ah,qo P (.a8 es n zz ps) (val (T f)) g (.slice g.length 0 n es) (g++[.cells cf mu tl]):=by
  have ZT:=(hrow.step f _ F.hf).1;generalize hx:T (f+1)=tx at ZT;generalize hy:H (f+1)=hyy at ZT;cases ZT with
  |run hw hb hs=>
   have hs:nA (.a8 es n zz ps) _ _ _ _:=hs;obtain⟨c,mu,tl,q1,q2,q3,rfl,rfl⟩:=hs;exact⟨c,mu,tl,q1,rfl,rfl,λg=>⟨c,mu,tl,q1,q2,q3,rfl,rfl⟩⟩
  |skip hw=>exact absurd trivial hw
 have Ye:(ak.cells cf mu tl).live=true:=rfl;have hrp:∀{k:pN},cH k=false->fG k=false:=λ{k} hk=>by
  cases k<;>first|exact hk|(cases hk;done)
 have hld:∀{o:bO},cH o.k=false->nj o=false:=λ{o} hk=>by
  exact z159
 have YY:∀(listed:Array Bool) (θ:Nat) (m1:cw) (tm:Array Value) (w1:World),lF P l f df (.cells cf mu tl) T H m w listed θ m1 tm w1->listed.getD f false=true->θ<=f->(∀(j:Nat) (o:bO),l[j]? =some o->cH o.k=false->j<f->listed.getD j false=true)->
   ∃m2,lF P l f df (.cells cf mu tl) T H m w listed (f+1) m2 tm w1:=by
  intro listed θ m1 tm w1 I Z5 ZK hall;have e:H θ=H f:=W9 θ f I.hθ Om λj oj hj hk=>by
   by_cases hjf:j=f
   ·subst hjf;omega
   ·constructor
    ·intro h;omega
    ·intro h;exact(I.hS j oj hj hk hjf).2 (hall j oj hj hk h)
  obtain⟨en,b1,b2,b3,b4,b5⟩:=I.pd Z5 ZK;have hr:=I.hr;have hg:=I.hg;rw[e]at hr hg;have Uu:m1 (H f).length=none:=by
   cases hx:m1 (H f).length with
   |none=>rfl
   |some y=>exact absurd (hr.cM _ _ hx) Om
  have VU:m1.le (m1.add (H f).length en):=cw.th _ Uu;refine⟨m1.add (H f).length en,⟨Om,.inl (by have:=Ad F.hf rfl;omega),λj oj hj hk hjf=>?_,λ_=>Z5,by rw[hHf];exact hr.zk Ye b1 b4,by rw[hHf];exact hg.zk st.hr.cM hr.cM b2 b3,I.dV,λd hd=>VR.mono VU _ _ (I.h1 d hd),λd j oj hj hl hd _=>?_,λ_ hx=>absurd hx Om⟩⟩
  ·constructor
   ·intro h;exact hall j oj hj hk Om
   ·intro h;have:=(I.hS j oj hj hk hjf).2 h;omega
  ·by_cases hjf:j=f
   ·subst hjf;rw[F.hf]at hj;cases hj;cases hd;exact b5 _ VU (by simp[cw.add])
   ·exact VR.mono VU _ _ (I.h2 d j oj hj hl hd λz=>absurd z hjf)
 have UX:∀(listed:Array Bool) (θ:Nat) (m1:cw) (a1:Act) (w1:World),(∀i,i<ops.size->listed.getD i false=true)->lF P l f df (.cells cf mu tl) T H m w listed θ m1 a1.tmps w1->f<θ->a1.defers=a.defers->Q .normal a1 w1:=by
  intro listed θ m1 a1 w1 hall I hfθ hd;have e:=W9 θ l.length I.hθ (aar _) λj o hj hk=>by
   have VF:=(aad.1 hj).1;by_cases hjf:j=f
   ·subst hjf;omega
   ·have:=(I.hS j o hj hk hjf).2 (hall j Om);omega
  have hr:=I.hr;have hg:=I.hg;rw[e]at hr hg;have dV:=I.dV;refine hQ m1 a1 w1 ⟨hr,cL.iG ?_ ?_⟩ hg hd
  ·exact Iz
  ·intro t x hx;have hlt:=(aad.1 hx).1;have TQ:t<a1.tmps.size:=by have:=hTl l.length (aar _);omega
   have ex:(T l.length).getD t az=x:=by simp[List.getD,hx]
   have ey:a1.tmps.getD t undef=a1.tmps[t]:=by simp[aa3,aa6 TQ]
   refine⟨a1.tmps[t],Si,?_⟩;rw[<-ex,<-ey];by_cases hw:∃(j:Nat) (o:bO),l[j]? =some o/\o.dst=some t
   ·obtain⟨j,o,hj,ho⟩:=hw;have VF:=(aad.1 hj).1;rw[TE (j+1) l.length t Om (aar _) (λk o' a2 a3 a4 a5=>by have:=huniq j k o o' t hj a4 ho a5;omega)];exact I.h2 t j o hj (hall j Om) ho λ_=>hfθ
   ·rw[TE 0 l.length t Om (aar _) (λk o' _ _ h4 h5=>hw ⟨k,o',h4,h5⟩)];exact I.h1 t λj o hj _ ho=>hw ⟨j,o,hj,ho⟩
 have hdone:∀(listed:Array Bool) (θ:Nat) (m1:cw) (a1:Act) (w1:World),(∀i,i<ops.size->listed.getD i false=true)->lF P l f df (.cells cf mu tl) T H m w listed θ m1 a1.tmps w1->a1.defers=a.defers->Q .normal a1 w1:=by
  intro listed θ m1 a1 w1 hall I hd;by_cases hfθ:f<θ
  ·exact UX listed θ m1 a1 w1 hall I hfθ hd
  ·obtain⟨m2,I2⟩:=YY listed θ m1 a1.tmps w1 I (hall f Om) Om λj o hj _ _=>hall j (by have:=(aad.1 hj).1;omega)
   exact UX listed (f+1) m2 a1 w1 hall I2 Om hd
 have key:∀(fuel:Nat) (listed:Array Bool) (θ:Nat) (m1:cw) (a1:Act) (w1:World),listed.size=ops.size->rC listed ops.size<=fuel->
   (∀j x,listed.getD j false=true->x<ops.size->ahead (Region.before ops) x j=true->listed.getD x false=true)->lF P l f df (.cells cf mu tl) T H m w listed θ m1 a1.tmps w1->a1.defers=a.defers->wpAnyIn (Fd ro) 0 P .any ops Q fuel listed a1 w1:=by
  intro fuel
  induction fuel with
  |zero=>
   intro listed θ m1 a1 w1 TG hu hcl I hd;have hall:=lU ops.size (show rC listed ops.size=0 by omega);exact⟨mM TG hall,hdone listed θ m1 a1 w1 hall I hd⟩
  |succ fuel ih=>
   intro listed θ m1 a1 w1 TG hu hcl I hd;refine⟨λhrn=>hdone listed θ m1 a1 w1 (mL hed TG hrn) I hd,λi hi=>?_⟩;obtain⟨o,ho,Uw,YE⟩:=(jB TG).1 hi;have hin:i<ops.size:=(aax.1 ho).1;obtain⟨io,hio,TC⟩:=Ty i o (by simpa using ho);have TC:bW P ops (tC cq o) o=some io:=TC;obtain⟨bN,_⟩:=hrow.step i io hio;have hahead:∀x,x<ops.size->ahead (Region.before ops) x i=true->listed.getD x false=true:=λx hx ha=>by
    exact OL
   have Vq:∀j x,(listed.setIfInBounds i true).getD j false=true->x<ops.size->ahead (Region.before ops) x j=true->(listed.setIfInBounds i true).getD x false=true:=by
    intro j x hj hx ha;exact z40
   have Xr:rC (listed.setIfInBounds i true) ops.size<=fuel:=by
    exact z80
   have hne:∀j,j≠i->(listed.setIfInBounds i true).getD j false=listed.getD j false:=λj hj=>by rw[c9 Om,aao hj]
   have hlt:(listed.setIfInBounds i true).getD i false=true:=by rw[c9 Om,aas rfl]
   have TW:io.dst=o.dst:=(dC TC).1;have hslot:∀(θ:Nat) (m1:cw) (tm:Array Value) (w1:World),lF P l f df (.cells cf mu tl) T H m w listed θ m1 tm w1->(listed.getD f false=true->θ<=f->i<f\/fJ ops i df=false)->∀t,t∈o.looksAt ops->VR m1 ((T i).getD t az) (tm.getD t undef):=by
    intro θ m1 tm w1 I hnp t ht;by_cases hex:∃(x:Nat) (ox:bO),l[x]? =some ox/\listed.getD x false=true/\ox.dst=some t
    ·obtain⟨x,ox,hx,hxl,Xc⟩:=hex;obtain⟨oo,VY,Xo⟩:=Uz x ox t hx Xc;have hxi:x<i:=by
      by_cases e1:x=i
      ·subst e1;rw[Uw]at hxl;cases hxl
      ·by_cases e2:x<i
       ·exact e2
       ·have e3:=(cR hsl (show i<x by omega) ho VY).2 t Xo ht;have e4:=hcl x i hxl hin e3;rw[Uw]at e4;cases e4
     rw[TE (x+1) i t Om Om (λk o' a2 a3 a4 a5=>by have:=huniq x k ox o' t hx a4 Xc a5;omega)];refine I.h2 t x ox hx hxl Xc λhxf=>?_
     subst hxf;by_cases hh:x<θ
     ·exact hh
     ·rcases hnp hxl (by omega)with h|h
      ·omega
      ·rw[F.hf]at hx;cases hx;cases Xc;unfold fJ at h;rw[ho]at h;simp only at h;have:=List.contains_iff_mem.2 ht;rw[this]at h;cases h
    ·rw[TE 0 i t Om Om (λk o' e2 e3 e4 e5=>by
      obtain⟨oo,VY,TW⟩:=Uz k o' t e4 e5;have h6:=((cR hsl e3 VY ho).1 t TW).2 ht;exact hex ⟨k,o',e4,hahead k (aax.1 VY).1 h6,e5⟩)]
     exact I.h1 t λj oj hj hl TW=>hex ⟨j,oj,hj,hl,TW⟩
   have hadv:i≠f->∀(θ θ':Nat) (m1 m':cw) (tm:Array Value) (w1 w':World) (cv:Value) (v':AV),lF P l f df (.cells cf mu tl) T H m w listed θ m1 tm w1->θ'<=l.length->(θ'<=dP l\/∃(j:Nat) (o:bO),l[j]? =some o/\cH o.k=false/\j≠f/\dP l<=j/\j<θ')->(∀(j:Nat) (o:bO),l[j]? =some o->cH o.k=false->j≠f->(j<θ'↔(listed.setIfInBounds i true).getD j false=true))->(f<θ'↔f<θ)->
     T (i+1)=put (T i) o.dst v'->VR m' v' cv->HR P m' (H θ') w'->Grow m1 (H θ) w1 m' (H θ') w'->lF P l f df (.cells cf mu tl) T H m w (listed.setIfInBounds i true) θ' m' (iu tm o.dst cv) w':=by
    intro WW θ θ' m1 m' tm w1 w' cv v' I ZL Yi hS' hff UQ U6 hr' TN;have VU:=TN.le I.hr.cM;refine⟨ZL,Yi,hS',λh=>?_,hr',I.hg.trans TN st.hr.cM,by rw[fj];exact I.dV,λd hdn=>?_,λd j oj hj hl Wd hjf=>?_,λZ5 ZK=>?_⟩
    ·rw[hne f (abG WW)];exact I.hf (hff.1 h)
    ·have Vk:o.dst≠some d:=by rw[<-TW];exact hdn i io hio hlt
     rw[dL Vk];refine VR.mono VU _ _ (I.h1 d λj oj hj hl=>hdn j oj hj ?_);exact OG
    ·by_cases e1:j=i
     ·subst e1;rw[hio]at hj;cases hj;rw[UQ,<-TW,Wd];exact mg (by rw[I.dV,hTl j Om]) U6
     ·have Vk:o.dst≠some d:=λhx=>by
       exact IC
      rw[dL Vk];rw[hne j e1]at hl;exact VR.mono VU _ _ (I.h2 d j oj hj hl Wd λz=>hff.1 (hjf z))
    ·rw[hne f (abG WW)]at Z5;obtain⟨e,b1,b2,b3,b4,b5⟩:=I.pd Z5 (by have:=hff.2;omega);obtain⟨c1,c2⟩:=Di TN I.hr.cM Ye b1 b4;have Vk:o.dst≠some df:=λhx=>by
      rw[<-TW]at hx;exact WW (huniq i f io _ df hio F.hf hx rfl)
     refine⟨e,c1,b2,b3,c2,λm2 Wp TA=>?_⟩;rw[dL Vk];exact b5 m2 (cw.le_trans VU Wp) TA
   have WJ:∀cv,(a1.put o.dst cv).tmps=iu a1.tmps o.dst cv:=λcv=>by cases o.dst<;>rfl
   by_cases WW:i=f
   ·
    subst WW;rw[F.hf]at hio;cases hio;have ZK:θ<=i:=by
     by_cases hh:i<θ
     ·have:=I.hf hh;rw[Uw]at this;cases this
     ·omega
    refine wO ho TC rfl I.hr.gv I.hr (hslot θ m1 a1.tmps w1 I λh=>by rw[Uw]at h;cases h) (hcf (H θ)) ro _ Q ?_;intro cv m' w' hv hr' TN;have hclos:∀x∈cf,je (H θ).length x:=sN (λx hx=>BH (F.hz x (v7 hx))) (λp hp=>by
     obtain⟨q,hq,rfl⟩:=aaK.1 hp;obtain⟨u,hu,Yy⟩:=F.hp q hq;have hu2:u∈o.looksAt ops:=by
      unfold fJ at Yy;rw[ho]at Yy;exact List.contains_iff_mem.1 Yy
     have:=hslot θ m1 a1.tmps w1 I (λh=>by rw[Uw]at h;cases h) u hu2;show je _ (val (T i) q.2);rw[hu];exact⟨m1,_,I.hr.cM,this⟩) UI
    have hcb:mA (H θ).length (.cells cf mu tl):=λj x hx=>hclos x (aa8 hx)
    have hup:m'.db (H θ).length=m1:=by
     funext b;unfold cw.db;by_cases hb:b<(H θ).length
     ·rw[aas hb];exact TN.ext b hb
     ·rw[aao hb];cases hx:m1 b with
      |none=>rfl
      |some e=>exact absurd (I.hr.cM b e hx) hb
    have UE:=HR.forget I.hr hr' TN;have XL:=TN.forget;rw[hup]at UE XL;have WI:=hv;rw[VR]at WI;obtain⟨e,ca,cap,he,Ut⟩:=WI;have hb:=(hr'.dW _ e (.cells cf mu tl) he Si).cut hcb;rw[hup]at hb;obtain⟨ho1,hc⟩:=TN.new _ e (aar _) he;have hcbl:w1.heap.size<=e.cb:=by
     rcases hc with hc|⟨b0,e0,c1,c2,c3,c4,c5⟩
     ·exact hc
     ·rw[fO (I.hr.cM _ _ c1),c4]at c5;cases c5
    have Us:o.dst=some df:=TW.symm;refine ih _ θ m1 (a1.put o.dst cv) w' (by simp[TG]) Xr Vq ?_ (by rw[put_defers];exact hd);rw[WJ];refine⟨I.hθ,I.hL,λj oj hj hk hjf=>by rw[hne j hjf];exact I.hS j oj hj hk hjf,λh=>by omega,UE,I.hg.trans XL st.hr.cM,by rw[fj];exact I.dV,λd hdn=>?_,λd j oj hj hl Wd hjf=>?_,λ_ _=>⟨e,hb,ho1,aa5 I.hg.size hcbl,λb e' UO=>by have:=I.hr.lt b e' UO;omega,λm2 Wp TA=>?_⟩⟩
    ·have Vk:o.dst≠some d:=by rw[Us];exact hdn i _ F.hf hlt
     rw[dL Vk];refine I.h1 d λj oj hj hl=>hdn j oj hj ?_
     exact OG
    ·by_cases e1:j=i
     ·have:=hjf e1;omega
     ·have Vk:o.dst≠some d:=λhx=>by
       rw[Us]at hx;exact e1 (huniq j i oj _ d hj F.hf Wd hx)
      rw[dL Vk];rw[hne j e1]at hl;exact I.h2 d j oj hj hl Wd hjf
    ·rw[hTf,Us];exact mg (by rw[I.dV,hTl i Om]) (by rw[VR];exact⟨e,ca,cap,TA,Ut⟩)
   by_cases UD:cH io.k=true
   ·
    obtain⟨VD,VE⟩:=F.hr i io hio UD;have VW:dI P io (T i) (H θ) (T (i+1)) (H θ):=by
     rcases VD with hp|hp
     ·exact(yV hp bN).2 _
     ·refine hstab i io hio hp θ ?_;rcases I.hL with h|⟨j,oj,h1,h2,h5,h3,h4⟩
      ·exact h
      ·have e:=hcl j i ((I.hS j oj h1 h2 h5).1 h4) hin (hlate i j io oj hio hp h1 h2 h3);rw[Uw]at e;cases e
    refine fH ho TC I.hr.gv I.hr (by rw[I.dV,hTl i Om]) (hslot θ m1 a1.tmps w1 I λ_ _=>.inr VE) VW ro _ Q ?_;intro cv v' m' w' UQ U6 hrx hgx;refine ih _ θ m' (a1.put o.dst cv) w' (by simp[TG]) Xr Vq ?_ (by rw[put_defers];exact hd);rw[WJ];refine hadv WW θ θ m1 m' a1.tmps w1 w' cv v' I I.hθ I.hL (λj oj hj hk hjf=>?_) Iff.rfl UQ U6 hrx hgx;have hji:j≠i:=λe=>by
     subst e;rw[hio]at hj;cases hj;rw[UD]at hk;cases hk
    rw[hne j hji];exact I.hS j oj hj hk hjf
   ·have US:cH io.k=false:=by simpa using UD
    have hheavy:∀(j:Nat) (oj:bO),l[j]? =some oj->cH oj.k=false->j<i->listed.getD j false=true:=λj oj hj hk hji=>
     hahead j (by have:=(aad.1 hj).1;omega) (qy hmo hji hj hio (hrp hk) (hrp US) (hld hk) (hld US) WW)
    have hlate:∀(j:Nat) (oj:bO),l[j]? =some oj->cH oj.k=false->j≠f->i<j->listed.getD j false=false:=λj oj hj hk hjf hij=>by
     cases hx:listed.getD j false with
     |false=>rfl
     |true=>
      have e3:=qy hmo hij hio hj (hrp US) (hrp hk) (hld US) (hld hk) hjf;have e4:=hcl j i hx hin e3;rw[Uw]at e4;cases e4
    obtain⟨Zu,m2,I1,hff⟩:∃Zu m2,lF P l f df (.cells cf mu tl) T H m w listed Zu m2 a1.tmps w1/\(f<Zu↔f<i):=by
     by_cases hfi:f<i
     ·have Z5:=hheavy f _ F.hf rfl hfi;by_cases hfθ:f<θ
      ·exact⟨θ,m1,I,Om⟩
      ·obtain⟨m2,I2⟩:=YY listed θ m1 a1.tmps w1 I Z5 Om λj oj hj hk hjf=>hheavy j oj hj hk Om
       exact⟨f+1,m2,I2,Om⟩
     ·refine⟨θ,m1,I,⟨λh=>?_,λh=>absurd h hfi⟩⟩;have:=(I.hS i io hio US WW).1 Om;rw[Uw]at this;cases this
    have hHi:H Zu=H i:=W9 Zu i I1.hθ Om λj oj hj hk=>by
     by_cases hjf:j=f
     ·subst hjf;exact hff
     ·constructor
      ·intro XI;have Vm:=(I1.hS j oj hj hk hjf).1 XI;by_cases e1:j=i
       ·exact Ix
       ·by_cases e2:j<i
        ·exact e2
        ·exact z182
      ·intro hji;exact(I1.hS j oj hj hk hjf).2 (hheavy j oj hj hk hji)
    refine fH ho TC I1.hr.gv I1.hr (by rw[I1.dV,hTl i Om]) (hslot Zu m2 a1.tmps w1 I1 λ_ h2=>.inl Om) (by rw[hHi];exact bN) ro _ Q ?_;intro cv v' m' w' UQ U6 hrx hgx;refine ih _ (i+1) m' (a1.put o.dst cv) w' (by simp[TG]) Xr Vq ?_ (by rw[put_defers];exact hd);rw[WJ];refine hadv WW Zu (i+1) m2 m' a1.tmps w1 w' cv v' I1 Om (by by_cases hc:i+1<=dP l;exact .inl hc;exact .inr ⟨i,io,hio,US,WW,Om,Om⟩) (λj oj hj hk hjf=>?_) Om UQ U6 hrx hgx;by_cases e1:j=i
    ·subst e1;exact⟨λ_=>hlt,λ_=>by omega⟩
    ·rw[hne j e1];constructor
     ·intro hji;exact hheavy j oj hj hk Om
     ·intro Vm;by_cases e2:j<i
      ·omega
      ·exact z182
 have Tx:∀j,(Array.replicate ops.size false).getD j false=false:=λj=>by
  exact OH
 refine key ops.size (Array.replicate ops.size false) 0 m a _ Si ?_ (λj x hj _ _=>by simp[Tx j]at hj) ⟨aaQ _,.inl (aaQ _),(λj oj hj hk _=>⟨λhx=>absurd hx Om,λhx=>by simp[Tx j]at hx⟩),(λhx=>absurd hx Om),st.hr.drew,(Grow.refl m _ w st.hr.cM).drew,?_,(λd _=>om st.ts d),(λd j o _ hj _ _=>by simp[Tx j]at hj),λhx=>by simp[Tx f]at hx⟩ rfl
 ·exact z24
 ·exact EL
def eC{P ops draw c}(h:nV P ops draw=some c):
  (∃l,c=.ops l/\(cP P ops draw=some l\/(draw=true/\(∃l',cP P ops draw=some l')/\∃cq,eU (λ_ o=>bW P ops (tC cq o) o) ops.toList 0=some l/\o6 (Region.before ops) l=true/\l.any nj=false)))\/
  (∃l,c=.tB l/\draw=true/\(∃l',cP P ops draw=some l')/\eU (λ_ o=>bW P ops false o) ops.toList 0=some l)\/
  (∃l,c=.mZ l/\draw=true/\(∃l',cP P ops draw=some l')/\∃cq,eU (λ_ o=>bW P ops (tC cq o) o) ops.toList 0=some l/\(o6 (Region.before ops) l=true\/∃f,xQ ops l f=true/\sf (Region.before ops) l f=true)/\nR (Region.before ops) l=true):=by
 unfold nV at h;split at h
 ·cases h
 ·rename_i l hl;split at h
  ·rename_i hq;split at h
   ·rename_i l' l2 l3 TB hl2 Z6;split at h
    ·rename_i hm;rw[aaM,abt]at hm;cases h;exact .inl ⟨l',rfl,.inr ⟨hq.2,⟨l,hl⟩,0,TB,hm.1,hm.2⟩⟩
    ·split at h
     ·rename_i hm;rw[aaM,abt]at hm;cases h;exact .inl ⟨l2,rfl,.inr ⟨hq.2,⟨l,hl⟩,1,hl2,hm.1,hm.2⟩⟩
     ·split at h
      ·exact Sm
      ·split at h
       ·split at h
        ·rename_i hm;rw[aaM,aaM]at hm;cases h;exact .inr (.inr ⟨l3,rfl,hq.2,⟨l,hl⟩,2,Z6,.inl hm.1.2,hm.2⟩)
        ·cases h;exact .inr (.inl ⟨l',rfl,hq.2,⟨l,hl⟩,TB⟩)
       ·split at h
        ·rename_i hm;rw[aaM]at hm;cases h;exact .inr (.inr ⟨l3,rfl,hq.2,⟨l,hl⟩,2,Z6,.inl hm.1,hm.2⟩)
        ·split at h
         ·exact Sm
         ·cases h;exact .inl ⟨l,rfl,.inl hl⟩
   ·cases h
  ·cases h;exact .inl ⟨l,rfl,.inl hl⟩
def Marks(m:cw)(w:World)(lo:Nat)(ds:List Deferred):Prop:=
 ∃rs:List Nat,ds=rs.map (λr=>({target:=.collected r,args:=#[] }:Deferred))/\rs.Nodup/\∀r∈rs,lo<=r/\w.heap[r]? =some (.deferred (some []))/\∀b e,m b=some e->e.cb≠r
def Marks.nil(m:cw)(w:World)(lo:Nat):Marks m w lo []:=⟨[],rfl,Si,Si⟩
def Marks.grow{m m' h h' w w' lo ds}(k:Marks m w lo ds)(g:Grow m h w m' h' w')(hd:∀b e,m b=some e->b<h.length):Marks m' w' lo ds:=by
 obtain⟨rs,h1,h2,h3⟩:=k;refine⟨rs,h1,h2,λr hr=>?_⟩;obtain⟨a,b,c⟩:=h3 r hr;have hlt:r<w.heap.size:=(aax.1 b).1;refine⟨a,?_,?_⟩
 ·rw[g.frame r hlt (λb e hb _=>c b e hb)];exact b
 ·intro b' e hb;by_cases hx:b'<h.length
  ·rw[g.ext b' hx]at hb;exact c b' e hb
  ·obtain⟨_,hc⟩:=g.new b' e Om hb;rcases hc with hc|⟨b0,e0,c1,c2,_⟩
   ·omega
   ·rw[<-c2];exact c b0 e0 c1
def Ev(P:Program)(ro:Option Nat)(c:ai)(ts:TS)(h:ah)(e:Ex)(ts':TS)(h':ah):Prop:=
 ∀cc,compile P cc=some c->∀(m:cw) (a:Act) (w:World) (lo:Nat),lo<=w.heap.size->St P m ts h a w->Marks m w lo a.defers->∀Q:Exit->Act->World->Prop,
  (∀m' a' w',St P m' ts' h' a' w'->Grow m h w m' h' w'->Marks m' w' lo a'.defers->Q e.D3 a' w')->cc.wpIn (Fd ro) 0 P Q a w
section
variable {P:Program}{b:Frame}{a:Act}{k:List Item}{cs:List Frame}{w:World}{Q:Exit->Act->World->Prop}{F:Fence}{n:Nat}
def gG{c}:step P (lone (b.atR a (.code (.scope c)::k)) cs w)=.next (lone (b.atR a (.code c:: .inScope c::k)) cs w):=
 step_lone_go (by simp[stepG,stepG.exec,Frame.atR])
def tw{c}:step P (lone (b.atR a (.inScope c::k)) cs w)=.next (lone (b.atR a k) cs w):=
 step_lone_go (by simp[stepG,stepG.exec,Frame.atR])
def noGoto(Q:Exit->Act->World->Prop):Exit->Act->World->Prop
 |.goto _,_,_=>False
 |e,a,w=>Q e a w
def yn{c}(h:c.wpIn F n P (noGoto Q) a w):(Code.scope c).wpIn F n P Q a w:=by
 intro b k cs hro hb hr;have h0:(lone (b.atR a (.code (.scope c)::k)) cs w).fenced P F:=fenced_calm hb hr rfl;obtain⟨e,X2,Xj,hq,Uf⟩:=h b (.inScope c::k) cs hro hb hr;cases e with
 |normal=>exact⟨.normal,X2,Xj,hq,.head h0 gG (StepsIn.trans Uf (.one (fenced_calm hb hr rfl) tw))⟩
 |exit id=>
  have hx:exitTo id (.inScope c::k)=exitTo id k:=by simp[exitTo]
  exact⟨.exit id,X2,Xj,hq,λk' hk=>.head h0 gG (Uf.1 k' (by rw[hx];exact hk)),
   λhr' hk=>let ⟨k₁,h1,h2⟩:=Uf.2 hr' (by rw[hx];exact hk);⟨k₁,h1,.head h0 gG h2⟩⟩
 |goto l=>exact hq.elim
 |ret=>exact⟨.ret,X2,Xj,hq,.of_steps (.one h0 gG) Uf⟩
 |panic ch=>exact⟨.panic ch,X2,Xj,hq,.of_steps (.one h0 gG) Uf⟩
 |outgrown=>exact⟨.outgrown,X2,Xj,hq,.of_steps (.one h0 gG) Uf⟩
end
section
variable {P:Program}{ro:Option Nat}{c x y:ai}{ts U1 ts':TS}{h h1 h':ah}{e:Ex}
def Ev.of (H:∀cc,(∀a,cc≠.scope a)->compile P cc=some c->∀(m:cw) (a:Act) (w:World) (lo:Nat),lo<=w.heap.size->St P m ts h a w->Marks m w lo a.defers->∀Q:Exit->Act->World->Prop,
  (∀m' a' w',St P m' ts' h' a' w'->Grow m h w m' h' w'->Marks m' w' lo a'.defers->Q e.D3 a' w')->cc.wpIn (Fd ro) 0 P Q a w):Ev P ro c ts h e ts' h':=by
 intro cc
 induction cc with
 |scope a ih=>
  intro hc m a w lo hlo st hm Q hQ;refine yn (ih (by simpa [compile]using hc) m a w lo hlo st hm _ λm' a' w' s g k=>?_);cases e<;>exact hQ m' a' w' s g k
 |_=>intro hc;exact H _ Si hc
theorem Ev.skip:Ev P ro .skip ts h .normal ts h:=by
 refine Ev.of λcc hns hc m a w lo hlo st hm Q hQ=>?_
 have hq:=hQ m a w st (Grow.refl m h w st.hr.cM) hm;cases cc with
 |skip=>exact wpIn_skip hq
 |label l=>exact wpIn_label hq
 |scope a=>exact absurd rfl (hns a)
 |region id ops draw=>rcases eC (by simpa only[compile]using hc)with⟨_,h1,_⟩|⟨_,h1,_⟩|⟨_,h1,_⟩<;>cases h1
 |block id a=>simp[compile]at hc
 |loop a=>simp[compile]at hc
 |_=>
  exact Ci
theorem Ev.exit{id}:Ev P ro (.exit id) ts h (.exit id) ts h:=by
 refine Ev.of λcc hns hc m a w lo hlo st hm Q hQ=>?_
 have hq:=hQ m a w st (Grow.refl m h w st.hr.cM) hm;cases cc with
 |exit YT=>simp[compile]at hc;subst hc;exact wpIn_exit hq
 |scope a=>exact absurd rfl (hns a)
 |region id ops draw=>rcases eC (by simpa only[compile]using hc)with⟨_,h1,_⟩|⟨_,h1,_⟩|⟨_,h1,_⟩<;>cases h1
 |block id a=>simp[compile]at hc
 |loop a=>simp[compile]at hc
 |_=>
  exact Ci
theorem Ev.ret:Ev P ro .ret ts h .ret ts h:=by
 refine Ev.of λcc hns hc m a w lo hlo st hm Q hQ=>?_
 have hq:=hQ m a w st (Grow.refl m h w st.hr.cM) hm;cases cc with
 |ret=>exact wpIn_ret hq
 |scope a=>exact absurd rfl (hns a)
 |region id ops draw=>rcases eC (by simpa only[compile]using hc)with⟨_,h1,_⟩|⟨_,h1,_⟩|⟨_,h1,_⟩<;>cases h1
 |block id a=>simp[compile]at hc
 |loop a=>simp[compile]at hc
 |_=>
  exact Ci
theorem Ev.ops(hmix:P.follows .mixedOrders=true){l}(hs:zo P l ts h ts' h'):Ev P ro (.ops l) ts h .normal ts' h':=by
 refine Ev.of λcc hns hc m a w lo hlo st hm Q hQ=>?_
 cases cc with
 |region id ops draw=>
  rcases eC (by simpa only[compile]using hc)with⟨l',h1,hl⟩|⟨_,h1,_⟩|⟨_,h1,_⟩<;>cases h1
  rcases hl with hl|⟨hd,⟨l2,hl2⟩,cq,hz,hmo,hld⟩
  case inr=>
   subst hd;simp only[cP,aaB]at hl2;split at hl2
   case isFalse=>cases hl2
   rename_i T2;simp only[aaM]at T2;obtain⟨T,H,rfl,rfl,rfl,rfl,hrow⟩:=hs.row;rw[List.any_eq_false]at hld;exact rR hmix T2.1 T2.2 hz hmo hrow (λi io hio hl=>absurd hl (hld io (aa8 hio))) (λi j x y hx hl=>absurd hl (hld x (aa8 hx))) st ro Q (λm' a' w' s g d=>hQ m' a' w' s g (by rw[d];exact hm.grow g st.hr.cM)) id
  cases draw with
  |false=>exact yQ hl hs st ro Q (λm' a' w' s g d=>hQ m' a' w' s g (by rw[d];exact hm.grow g st.hr.cM)) id
  |true=>exact wE hmix hl hs st ro Q (λm' a' w' s g d=>hQ m' a' w' s g (by rw[d];exact hm.grow g st.hr.cM)) id
 |scope a=>exact absurd rfl (hns a)
 |block id a=>simp[compile]at hc
 |loop a=>simp[compile]at hc
 |_=>
  exact Ci
theorem Ev.mZ(hmix:P.follows .mixedOrders=true){l T H}(hrow:Row P l T H)(hstab:∀(i:Nat) (io:bO),l[i]? =some io->nj io=true->∀θ,θ<=dP l->dI P io (T i) (H θ) (T (i+1)) (H θ)):Ev P ro (.mZ l) (T 0) (H 0) .normal (T l.length) (H l.length):=by
 refine Ev.of λcc hns hc m a w lo hlo st hm Q hQ=>?_
 cases cc with
 |region id ops draw=>
  rcases eC (by simpa only[compile]using hc)with⟨_,h1,_⟩|⟨_,h1,_⟩|⟨l',h1,hd,⟨l2,hl2⟩,cq,hz,hmo,hlo⟩<;>cases h1
  subst hd;simp only[cP,aaB]at hl2;split at hl2
  case isFalse=>cases hl2
  rename_i T2;simp only[aaM]at T2;rcases hmo with hmo|⟨f,Xg,Wa⟩
  case inr=>exact yR hmix T2.1 T2.2 hz Xg Wa hrow hstab (λi j x y a1 a2 a3 a4 a5=>qD hlo a1 a2 a3 a4 a5) st ro Q (λm' a' w' s g d=>hQ m' a' w' s g (by rw[d];exact hm.grow g st.hr.cM)) id
  exact rR hmix T2.1 T2.2 hz hmo hrow hstab (λi j x y a1 a2 a3 a4 a5=>qD hlo a1 a2 a3 a4 a5) st ro Q (λm' a' w' s g d=>hQ m' a' w' s g (by rw[d];exact hm.grow g st.hr.cM)) id
 |scope a=>exact absurd rfl (hns a)
 |block id a=>simp[compile]at hc
 |loop a=>simp[compile]at hc
 |_=>
  exact Ci
theorem Ev.seq(hx:Ev P ro x ts h .normal U1 h1)(hy:Ev P ro y U1 h1 e ts' h'):Ev P ro (.seq x y) ts h e ts' h':=by
 refine Ev.of λcc hns hc m a w lo hlo st hm Q hQ=>?_
 cases cc with
 |seq ca cb=>
  simp only[compile]at hc;split at hc
  case h_2=>cases hc
  rename_i x' y' T7 hcb;cases hc;refine wpIn_seq (hx ca T7 m a w lo hlo st hm _ λm1 a1 w1 s1 g1 k1=>?_);exact hy cb hcb m1 a1 w1 lo (aa5 hlo g1.size) s1 k1 Q λm2 a2 w2 s2 g2 k2=>hQ m2 a2 w2 s2 (g1.trans g2 st.hr.cM) k2
 |scope a=>exact absurd rfl (hns a)
 |region id ops draw=>rcases eC (by simpa only[compile]using hc)with⟨_,h1,_⟩|⟨_,h1,_⟩|⟨_,h1,_⟩<;>cases h1
 |block id a=>simp[compile]at hc
 |loop a=>simp[compile]at hc
 |_=>
  exact Ci
def Ev.wA(hx:Ev P ro x ts h e ts' h')(hne:e≠.normal):Ev P ro (.seq x y) ts h e ts' h':=by
 refine Ev.of λcc hns hc m a w lo hlo st hm Q hQ=>?_
 cases cc with
 |seq ca cb=>
  simp only[compile]at hc;split at hc
  case h_2=>cases hc
  rename_i x' y' T7 hcb;cases hc;refine wpIn_seq (hx ca T7 m a w lo hlo st hm _ λm1 a1 w1 s1 g1 k1=>?_);have:=hQ m1 a1 w1 s1 g1 k1;cases e<;>first|exact absurd rfl hne|exact this
 |scope a=>exact absurd rfl (hns a)
 |region id ops draw=>rcases eC (by simpa only[compile]using hc)with⟨_,h1,_⟩|⟨_,h1,_⟩|⟨_,h1,_⟩<;>cases h1
 |block id a=>simp[compile]at hc
 |loop a=>simp[compile]at hc
 |_=>
  exact Ci
def zV{o c}(hc:FF o=some c):cW o=some c/\OR P o=true:=by
 cases o<;>first|exact⟨hc,rfl⟩|cases hc
def Dj{m a w}(st:St P m ts h a w){o c}(hc:FF o=some c):VR m (val ts c) (a.eval o):=
 Am st.hr.gv (zV (P:=P) hc).1 (zV (P:=P) hc).2 (λt _=>om st.ts t)
theorem Ev.cond{c b}(hb:val ts c=.bool b)(hx:Ev P ro (if b then x else y) ts h e ts' h'):Ev P ro (.cond c x y) ts h e ts' h':=by
 refine Ev.of λcc hns hc m a w lo hlo st hm Q hQ=>?_
 cases cc with
 |cond o ca cb=>
  simp only[compile]at hc;split at hc
  case h_2=>cases hc
  rename_i c' x' y' hco T7 hcb;cases hc;have hv:=Dj st hco;rw[hb,VR]at hv;refine wpIn_cond hv ?_;cases b
  ·exact hx cb hcb m a w lo hlo st hm Q hQ
  ·exact hx ca T7 m a w lo hlo st hm Q hQ
 |scope a=>exact absurd rfl (hns a)
 |region id ops draw=>rcases eC (by simpa only[compile]using hc)with⟨_,h1,_⟩|⟨_,h1,_⟩|⟨_,h1,_⟩<;>cases h1
 |block id a=>simp[compile]at hc
 |loop a=>simp[compile]at hc
 |_=>
  exact Ci
def Ex.inBlock(id:Nat):Ex->Ex
 |.exit YT=>if YT=id then .normal else .exit YT
 |e=>e
theorem Ev.block{id}(hx:Ev P ro x ts h e ts' h'):Ev P ro (.block id x) ts h (e.inBlock id) ts' h':=by
 refine Ev.of λcc hns hc m a w lo hlo st hm Q hQ=>?_
 cases cc with
 |block YT ca=>
  simp only[compile,aaC,ai.block.injEq]at hc;obtain⟨x',T7,rfl,rfl⟩:=hc;refine wpIn_block (hx ca T7 m a w lo hlo st hm _ λm' a' w' s g k=>?_);have:=hQ m' a' w' s g k;cases e with
  |normal=>exact this
  |ret=>exact this
  |exit i=>
   simp only[Ex.D3,Exit.inBlock];simp only[Ex.inBlock]at this;split
   ·rename_i hi;rw[aas hi]at this;exact this
   ·rename_i hi;rw[aao hi]at this;exact this
 |scope a=>exact absurd rfl (hns a)
 |region id ops draw=>rcases eC (by simpa only[compile]using hc)with⟨_,h1,_⟩|⟨_,h1,_⟩|⟨_,h1,_⟩<;>cases h1
 |loop a=>simp[compile]at hc
 |_=>
  exact Ci
inductive uH (P:Program) (ro:Option Nat) (x:ai):TS->ah->Ex->TS->ah->Prop
 |out {ts:TS}{h:ah}{e:Ex}{ts':TS}{h':ah}(hx:Ev P ro x ts h e ts' h') (hne:e≠.normal):uH P ro x ts h e ts' h'
 |more {ts:TS}{h:ah}{U1:TS}{h1:ah}{e:Ex}{ts':TS}{h':ah}(hx:Ev P ro x ts h .normal U1 h1) (hr:uH P ro x U1 h1 e ts' h'):uH P ro x ts h e ts' h'
theorem Ev.loop(hl:uH P ro x ts h e ts' h'):Ev P ro (.loop x) ts h e ts' h':=by
 refine Ev.of λcc hns hc m a w lo hlo st hm Q hQ=>?_
 cases cc with
 |loop ca=>
  simp only[compile,aaC,ai.loop.injEq]at hc;obtain⟨x',T7,rfl⟩:=hc;intro b k cs hro hb hr;have key:∀(m1:cw) (a1:Act) (w1:World),lo<=w1.heap.size->St P m1 ts h a1 w1->Marks m1 w1 lo a1.defers->(∀m' a' w',St P m' ts' h' a' w'->Grow m1 h w1 m' h' w'->Marks m' w' lo a'.defers->Q e.D3 a' w')->
    ∃e a' w',Q e a' w'/\ArrivesIn (Machine.fenced P (Fd ro)) P (lone (b.atR a1 (.code ca:: .inLoop ca::k)) cs w1) b k cs e a' w':=by
   clear hQ st hm hlo
   induction hl with
   |out hx hne=>
    rename_i ts h e ts' h';intro m1 a1 w1 hlo s1 k1 hQ;obtain⟨e1,a2,w2,hq,Uf⟩:=hx ca T7 m1 a1 w1 lo hlo s1 k1 (λe1 a1 w1=>e1≠.normal/\Q e1 a1 w1) (λm' a' w' s g k'=>⟨by cases e<;>first|exact absurd rfl hne|simp[Ex.D3],hQ m' a' w' s g k'⟩) b (.inLoop ca::k) cs hro hb hr;exact⟨e1,a2,w2,hq.2,.pass (x:=.inLoop ca) rfl (λ_ _=>.inl hq.1) Uf⟩
   |more hx hr' ih=>
    intro m1 a1 w1 hlo s1 k1 hQ;obtain⟨e1,a2,w2,hq,Uf⟩:=hx ca T7 m1 a1 w1 lo hlo s1 k1 (λe1 a2 w2=>e1=.normal/\∃m2,St P m2 _ _ a2 w2/\Grow m1 _ w1 m2 _ w2/\Marks m2 w2 lo a2.defers) (λm' a' w' s g k'=>⟨rfl,m',s,g,k'⟩) b (.inLoop ca::k) cs hro hb hr;obtain⟨rfl,m2,s2,g2,k2⟩:=hq;obtain⟨e3,a3,w3,hq3,harr3⟩:=ih m2 a2 w2 (aa5 hlo g2.size) s2 k2 (λm' a' w' s g k'=>hQ m' a' w' s (g2.trans g s1.hr.cM) k');exact⟨e3,a3,w3,hq3,.of_steps (StepsIn.trans Uf (.one (fenced_calm hb hr rfl) stepR_inLoop)) harr3⟩
  obtain⟨e',a',w',hq,Uf⟩:=key m a w hlo st hm hQ;exact⟨e',a',w',hq,.of_steps (.one (fenced_calm hb hr rfl) stepR_loop) Uf⟩
 |scope a=>exact absurd rfl (hns a)
 |region id ops draw=>rcases eC (by simpa only[compile]using hc)with⟨_,h1,_⟩|⟨_,h1,_⟩|⟨_,h1,_⟩<;>cases h1
 |block id a=>simp[compile]at hc
 |_=>
  exact Ci
end
def dF(ts:TS)(h:ah):Nat×Option (Option Nat)->Option AV
 |(t,none)=>some (ts.getD t az)
 |(a,some n)=>
  match dE (.load n (.c (ts.getD a az))) (val ts) h with
  |some (v,_)=>some v
  |none=>none
def jq(ts:TS)(h:ah):List (Nat×Option (Option Nat))->Option (List AV)
 |[]=>some []
 |r::rs=>
  match dF ts h r,jq ts h rs with
  |some v,some vs=>some (v::vs)
  |_,_=>none
def cU(rs:List (Nat×Option (Option Nat)))(ts:TS)(h:ah):Option AV:=
 match jq ts h rs with
 |some [v]=>some v
 |some l=>some (.dQ l)
 |none=>none
def aR(nt:Nat)(args:List AV):TS:=args++List.replicate (nt-args.length) az
def Ex.leaves:Ex->Bool
 |.normal=>true
 |.ret=>true
 |_=>false
section
variable {P:Program}{m:cw}{h h':ah}{w:World}{v:AV}
def yH{ts a}(st:St P m ts h a w){r x}(hx:uQ P r=some x)(hv:dF ts h x=some v):
  ∃cv,(match r with
   |.tmp t=>(pure (a.tmps.getD t undef):Sem Value)
   |.cell b t=>do loadVar t (<-asAddr (a.tmps.getD b undef))).run P w=.ok cv w/\VR m v cv:=by
 cases r with
 |tmp t=>cases hx;cases hv;exact⟨_,rfl,om st.ts t⟩
 |cell b t=>
  simp only[uQ,aaC]at hx;obtain⟨n,hn,rfl⟩:=hx;simp only[dF]at hv;split at hv
  case h_2=>cases hv
  rename_i v' h' hf;cases hv;obtain⟨cv,h1,h2,_⟩:=CV (P:=P) (ρ:=val ts) hn st.hr (a:=.c (ts.getD b az)) (om st.ts b) hf;refine⟨cv,?_,h2⟩;simp only[dE,val]at hf;split at hf
  case h_2=>cases hf
  rename_i b' o' hb';have hs:=om st.ts b;rw[hb',VR]at hs;obtain⟨e,_,he⟩:=hs;simp only[he]at h1 ⊢
  simpa [Instr.loadAt,Instr.sureAddr,asAddr]using h1
theorem qu{ts:TS}{a:Act}(st:St P m ts h a w):∀{rs:List ResultVar}{xs:List (Nat×Option (Option Nat))}{vs:List AV},rs.mapM (uQ P)=some xs->jq ts h xs=some vs->
  ∃VP,(rs.mapM (m:=Sem) λ
   |.tmp t=>pure (a.tmps.getD t undef)
   |.cell b t=>do loadVar t (<-asAddr (a.tmps.getD b undef))).run P w=.ok VP w/\cL m vs VP
 |[],xs,vs,hx,hv=>by
  simp at hx;subst hx;cases hv;exact⟨[],rfl,bE.2 rfl⟩
 |r::rs,xs,vs,hx,hv=>by
  simp only[acL,acs,acZ]at hx;cases hr:uQ P r with
  |none=>simp[hr]at hx
  |some x=>
   cases hrs:rs.mapM (uQ P)with
   |none=>simp[hr,hrs]at hx
   |some xs'=>
    simp[hr,hrs]at hx;subst hx;simp only[jq]at hv;split at hv
    case h_2=>cases hv
    rename_i v vs' h1 h2;cases hv;obtain⟨cv,hc,Ts⟩:=yH st hr h1;obtain⟨VP,VS,hvrs⟩:=qu st hrs h2;refine⟨cv::VP,?_,aQ.2 ⟨cv,VP,rfl,Ts,hvrs⟩⟩;rw[acL,aaA];have UN:=hc;cases r<;>(simp only at UN ⊢;rw[UN];simp only[aaq,aaA,VS,aaU])
def wC{ts:TS}{a:Act}(st:St P m ts h a w){fn:Func}{xs:List (Nat×Option (Option Nat))}(hx:fn.results.toList.mapM (uQ P)=some xs)(hv:cU xs ts h=some v):
  ∃cv,(results fn a.tmps).run P w=.ok cv w/\VR m v cv:=by
 unfold cU at hv;have key:∀{vs:List AV},jq ts h xs=some vs->∃VP:List Value,(results fn a.tmps).run P w=.ok (if h:VP.length=1 then VP[0]else .tuple ⟨VP⟩) w/\cL m vs VP:=by
  intro vs Um;obtain⟨VP,h1,h2⟩:=qu st hx Um;refine⟨VP,?_,h2⟩;unfold results;rw[Array.mapM_eq_mapM_toList,aaA];simp only[map_eq_pure_bind,aaA];have h1':=h1
  erw [h1']
  simp only[aaq,aaU];by_cases hc:VP.length=1
  ·simp[hc]
  ·simp[hc]
 split at hv
 ·rename_i v' Um;cases hv;obtain⟨VP,h1,h2⟩:=key Um;obtain⟨y,ys,rfl,hy,hys⟩:=aQ.1 h2;rw[bE]at hys;subst hys;exact⟨y,by simpa using h1,hy⟩
 ·rename_i l hno Um;cases hv;obtain⟨VP,h1,h2⟩:=key Um;have hlen:VP.length≠1:=by
   rw[h2.length];intro hl;obtain⟨z,hz⟩:=List.length_eq_one_iff.1 hl;exact hno z hz
  rw[dif_neg hlen]at h1;exact⟨_,h1,⟨VP,rfl,h2⟩⟩
 ·cases hv
theorem o7{fn xs}(hx:fn.results.toList.mapM (uQ P)=some xs){ts}(hv:cU xs ts h' =some v){m0 h0 w0 lo}(hlo:w0.heap.size<=lo):
  ∀(ds:List Deferred) (m:cw) (a:Act) (w:World),St P m ts h' a w->Grow m0 h0 w0 m h' w->Marks m w lo ds->LeavesInM Fence.wide 0 P fn a.tmps (Rel P m0 h0 w0 v h') ds .returning w
 |[],m,a,w,st,g,_=>by
  obtain⟨cv,h1,h2⟩:=wC st hx hv;exact⟨cv,h1,cv,m,rfl,h2,st.hr,g⟩
 |d::ds,m,a,w,st,g,k=>by
  obtain⟨rs,h1,h2,h3⟩:=k;cases rs with
  |nil=>simp at h1
  |cons r rs=>
   simp only[abd,List.cons.injEq]at h1;obtain⟨rfl,rfl⟩:=h1;obtain⟨hl,hh,hm⟩:=h3 r Si;have hoth:∀i,i≠r->(w.putObj r (.deferred none)).heap[i]? =w.heap[i]? :=λi hi=>World.putObj_heap_other hi
   refine⟨Si,.inl ⟨r,_,rfl,run_takeDeferred hh,?_⟩⟩;refine o7 hx hv hlo _ m a _ ⟨⟨st.hr.cM,λb e k hb hk=>(st.hr.dW b e k hb hk).heap (hoth _ (hm b e hb)),st.hr.sep,st.hr.fS,λb e hb=>by simpa using st.hr.lt b e hb⟩,st.ts⟩
    ⟨g.ext,g.len,g.new,g.tl,by simpa using g.size,g.os,g.out,g.tape,λi hi hno=>?_⟩ ⟨rs,rfl,(ac0.1 h2).2,λr' hr'=>?_⟩
   ·rw[hoth i Om];exact g.frame i hi hno
   ·obtain⟨c1,c2,c3⟩:=h3 r' (aaP _ hr');refine⟨c1,?_,c3⟩;rw[hoth r' (λx=>(ac0.1 h2).1 (x▸hr'))];exact c2
def gV{f A}(hA:bU P f=some A):∃fn c,P.funcs[f]? =some fn/\fn.body=some c/\compile P c=some A.body/\fn.results.toList.mapM (uQ P)=some A.rs/\fn.ntmps=A.nt/\(fn.name == "runtime.NumGoroutine")=false:=by
 unfold bU at hA;split at hA
 case h_1=>cases hA
 rename_i fn hf;split at hA
 case h_1=>cases hA
 rename_i c hb;split at hA
 case h_2=>cases hA
 rename_i b rs hc hr;split at hA
 case isTrue=>cases hA
 rename_i hn;cases hA;exact⟨fn,c,hf,hb,hc,hr,rfl,by simpa using hn⟩
def jQ.MV{f A}(hA:bU P f=some A){args e ts'}(hev:Ev P none A.body (aR A.nt args) h e ts' h')(he:e.leaves=true)(hv:cU A.rs ts' h' =some v):jQ P f args h v h':=by
 intro m w vs hr hargs;obtain⟨fn,c,hf,hb,hc,hres,hnt,_⟩:=gV hA;rw[<-callsIn_wide (n:=0)];refine callsIn_of_wp_marks hf hb trivial ?_;refine hev c hc m _ w w.heap.size (aar _) ⟨hr,?_⟩ (Marks.nil m w _) _ ?_
 ·have:((⟨vs⟩:Array Value)++Array.replicate (fn.ntmps-(⟨vs⟩:Array Value).size) undef).toList=vs++List.replicate (A.nt-args.length) undef:=by
   rw[hnt];simp[hargs.length]
  rw[this];refine cL.append hargs (cL.iG Si λi x hx=>?_);rw[List.getElem?_replicate]at hx ⊢;split at hx
  ·rename_i hlt;cases hx;rw[aas hlt];exact⟨undef,rfl,kv m⟩
  ·cases hx
 ·intro m' a' w' s g k;have:=o7 hres hv (aar _) a'.defers m' a' w' s g k;cases e<;>first|exact this|cases he
def fq.zX{f A}(hA:bU P f=some A){a c args}(hs:jQ P f (a++args++c) h v h'):fq P (.func (.func f) a c) args h v h':=by
 intro m w cv vs hr hf hargs;rw[VR]at hf;obtain⟨f',a',c',rfl,hfn,ha,hc⟩:=hf;simp only[B3]at hfn;subst hfn;refine⟨_,λw=>rfl,?_⟩;obtain⟨fn,cc,hfn,hb,_,_,_,hn⟩:=gV hA;simp only[invoke];rw[kY hfn (by rw[hb];rfl) hn];show CallsIn Fence.wide 0 P f _ w _;rw[callsIn_wide];have:=hs m w (a'++vs++c') hr (cL.append (cL.append ha hargs) hc)
 simpa using this
def jj(P:Program)(u:TypeId)(name:String):Option FuncId:=
 match P.info? u,P.underlying u with
 |some i,some d=>
  match i.methods.find? (·.name==name)with
  |some m=>
   match m.path.toList,m.func,d with
   |[],some (_,false),.pointer _=>none
   |[],some (f,false),_=>some f
   |_,_,_=>none
  |none=>none
 |_,_=>none
def yD{u:TypeId}{name f}(hm:jj P u name=some f)(n:Nat)(v:Value)(w:World):(method (n+1) u v name).run P w=.ok (f,v) w:=by
 unfold jj at hm;split at hm
 case h_2=>cases hm
 rename_i i d hi hd;split at hm
 case h_2=>cases hm
 rename_i mm VH;split at hm
 case h_3=>cases hm
 case h_1=>cases hm
 rename_i f' hp hfn hnp;cases hm;have hti:(typeInfo u).run P w=.ok i w:=by simp[typeInfo,hi]
 rw[method];simp only[aaA,hti,aaq,VH,hp,follow,aaU,hfn];have TT:∀wr,(receiverAt u (.val v) false wr).run P w=.ok v w:=by
  intro wr;unfold receiverAt;simp only[aaA,aaz hd,aaq];rfl
 simp only[TT,aaq]
def fq.FG{u:TypeId}{name f A}(hm:jj P u name=some f)(hA:bU P f=some A){a args}(hs:jQ P f (a::args) h v h'):fq P (.func (.method name) [] []) (.vU u a::args) h v h':=by
 intro m w cv vs hr hf hargs;rw[VR]at hf;obtain⟨f',a',c',rfl,hfn,ha,hc⟩:=hf;simp only[B3]at hfn;subst hfn;rw[bE]at ha hc;subst ha;subst hc;obtain⟨x,vs,rfl,hx,Um⟩:=aQ.1 hargs;rw[VR]at hx;obtain⟨v',rfl,hx⟩:=hx;refine⟨_,λw=>rfl,?_⟩;obtain⟨fn,cc,hfn,hb,_,_,_,hn⟩:=gV hA;have e0:((#[]++(⟨.iface u v'::vs⟩:Array Value)):Array Value)[0]? =some (.iface u v'):=Si
 have e1:((#[]++(⟨.iface u v'::vs⟩:Array Value)):Array Value).extract 1 ((#[]++(⟨.iface u v'::vs⟩:Array Value)):Array Value).size=⟨vs⟩:=by
  apply acU;simp
 simp only[invoke,e0,e1,callMethod,aaA,program];have hmt:=yD hm (P.types.size+Made.depth-1) v' w;have hdep:0<Made.depth:=De
 have hne:P.types.size+Made.depth-1+1=P.types.size+Made.depth:=Om
 rw[hne]at hmt;show EF P (Rel P m h w v h') ((Result.ok P w).andThen λa w'=>(Sem.run P (method (a.types.size+Made.depth) u v' name) w').andThen λa w'=>Sem.run P (callFunc a.fst (#[a.snd]++⟨vs⟩)) w');simp only[aaq,hmt];rw[kY hfn (by rw[hb];rfl) hn];show CallsIn Fence.wide 0 P f _ w _;rw[callsIn_wide];have:=hs m w (v'::vs) hr (aQ.2 ⟨_,_,rfl,hx,Um⟩);have e2:(#[v']++(⟨vs⟩:Array Value))=⟨v'::vs⟩:=by apply acU;simp
 rw[e2];exact this
end
def setArgs:TS->List Nat->List AV->TS
 |ts,p::ps,v::vs=>setArgs (ts.set p v) ps vs
 |ts,_,_=>ts
section
variable {P:Program}{m:cw}{h h':ah}{w:World}{v:AV}
def HR.aside(hr:HR P m h w)(o:Obj):HR P m h (w.alloc o):=
 ⟨hr.cM,λb e k hb hk=>(hr.dW b e k hb hk).heap (Go.RowKit.Below.heap_alloc w o _ (hr.lt b e hb)),hr.sep,hr.fS,λb e hb=>by have:=hr.lt b e hb;simp;omega⟩
def Grow.aside(hr:HR P m h w)(o:Obj):Grow m h w m h (w.alloc o):=
 ⟨λ_ _=>rfl,aar _,λb e hb he=>absurd (hr.cM b e he) Om,λ_ _ h=>h,Si,rfl,rfl,rfl,λi hi _=>Go.RowKit.Below.heap_alloc w o i hi⟩
theorem qq:∀{ps}{args}{ts}{tmps}{vs},cL m ts tmps.toList->cL m args vs->cL m (setArgs ts ps args) ((ps.zip vs).foldl (λ(t:Array Value) (p:Nat×Value)=>t.setIfInBounds p.1 p.2) tmps).toList
 |[],_,_,_,_,ht,_=>by simpa [setArgs]using ht
 |p::ps,[],ts,tmps,vs,ht,ha=>by rw[bE]at ha;subst ha;simpa [setArgs]using ht
 |p::ps,x::args,ts,tmps,vs,ht,ha=>by
  obtain⟨y,ys,rfl,hy,hys⟩:=aQ.1 ha;simp only[List.zip_cons_cons,ab2,setArgs];exact qq (by rw[Array.toList_setIfInBounds];exact ht.set p hy) hys
theorem fq.yield{l ex ex2 ex4 e ts Vb ts3 tb tc ps pb pc asg body ab ac bb bc h2 h4 args st4}
  (hl:h[l]? =some (.loop .ready ex ts ps asg body)) (hlen:args.length=ps.length)
  (hasg:∀r,Ev P (some r) asg (setArgs ts ps args) h .normal Vb h2) (hl2:h2[l]? =some (.loop .ready ex2 tb pb ab bb))
  (hbody:∀r,Ev P (some r) body Vb (h2.set l (.loop .busy ex2 tb pb ab bb)) e ts3 h4) (hl4:h4[l]? =some (.loop st4 ex4 tc pc ac bc)):
  fq P (.func (.yield l) [] []) args h (.bool (decide (e=.normal))) (h4.set l (.loop (if e=.normal then .ready else .done) e tc pc ac bc)):=by
 intro m w cv vs hr hf hargs;rw[VR]at hf;obtain⟨f',a',c',rfl,hfn,ha,hc⟩:=hf;rw[bE]at ha hc;subst ha;subst hc;obtain⟨el,WX,rfl⟩:=hfn;refine⟨_,λw=>rfl,?_⟩;obtain⟨hown,fn,tmps,Uq,TP,df,hh,Tp,T7,hcb⟩:=hr.dW l el _ WX hl;have hy:=run_yield (P:=P) (args:=(#[]++⟨vs⟩:Array Value)) hh (by simp[hargs.length,hlen]);simp only[invoke];rw[hy];show RoundIn Fence.wide 0 P el.cb fn _ Uq TP w _;refine roundIn_of_wpIn trivial ?_;have Vz:cL m (setArgs ts ps args) (((⟨ps⟩:Array Tmp).zip (#[]++⟨vs⟩:Array Value)).foldl (λtmps (t,a)=>tmps.setIfInBounds t a) tmps).toList:=by
  have:=qq (ps:=ps) Tp hargs;rw[<-Array.foldl_toList,Array.toList_zip]
  simpa using this
 refine hasg el.cb Uq T7 m _ w w.heap.size (aar _) ⟨hr,Vz⟩ (Marks.nil m w _) _ λm1 a1 w1 s1 g1 k1=>?_
 have YD:m1 l=some el:=by rw[g1.ext l (hr.cM _ _ WX)];exact WX
 obtain⟨_,fn2,YN,Zq,XZ,df2,hh2,hts2,hca2,hcb2⟩:=s1.hr.dW l el _ YD hl2;refine⟨_,run_beginRound hh2 rfl,?_⟩;have hlt1:el.cb<w1.heap.size:=s1.hr.lt _ _ YD;obtain⟨UE,g2⟩:=kB s1.hr (o:=.loop {state:=.busy,pending:=ex2.jump,fn:=fn2,tmps:=YN,params:=⟨pb⟩,assign:=Zq,body:=XZ,defers:=df2}) YD hl2 rfl (k':=.loop .busy ex2 tb pb ab bb) (.inl rfl)
  ⟨hown,fn2,YN,Zq,XZ,df2,World.putObj_heap_same hlt1,hts2,hca2,hcb2⟩
 refine hbody el.cb TP hcb m1 a1 _ w.heap.size (aa5 g1.size g2.size) ⟨UE,s1.ts⟩ (k1.grow g2 s1.hr.cM) _ λm2 a2 w3 s2 g3 k2=>?_
 have hl2':l<h2.length:=(aad.1 hl2).1;have hel2:m2 l=some el:=by rw[g3.ext l (by simpa using hl2')];exact YD
 obtain⟨_,fn4,YM,Zp,XY,df4,hh4,hts4,hca4,hcb4⟩:=s2.hr.dW l el _ hel2 hl4;have Un:el.cb<w3.heap.size:=s2.hr.lt _ _ hel2;have fin:∀j:Option Code,j=e.jump->∃v w',(Instr.endRound el.cb j).run P w3=.ok v w'/\Rel P m h w (.bool (decide (e=.normal))) (h4.set l (.loop (if e=.normal then .ready else .done) e tc pc ac bc)) (.returned v) w':=by
  rintro j rfl;obtain⟨hr4,g4⟩:=kB s2.hr (o:=.loop {state:=if e=.normal then .ready else .done,pending:=e.jump,fn:=fn4,tmps:=YM,params:=⟨pc⟩,assign:=Zp,body:=XY,defers:=df4}) hel2 hl4 rfl
   (k':=.loop (if e=.normal then .ready else .done) e tc pc ac bc) (.inl rfl) ⟨hown,fn4,YM,Zp,XY,df4,World.putObj_heap_same Un,hts4,hca4,hcb4⟩
  refine⟨_,_,run_endRound e.jump hh4,.bool (decide (e=.normal)),m2,?_,rfl,?_,?_⟩
  ·cases e<;>rfl
  ·have:(if e.jump.isNone=true then LoopState.ready else .done)=if e=.normal then .ready else .done:=by cases e<;>rfl
   simp only[this];exact hr4
  ·have:(if e.jump.isNone=true then LoopState.ready else .done)=if e=.normal then .ready else .done:=by cases e<;>rfl
   simp only[this];exact((g1.trans g2 hr.cM).trans g3 hr.cM).trans g4 hr.cM
 cases e with
 |normal=>exact fin none rfl
 |exit id=>exact fin (some (.exit id)) rfl
 |ret=>exact fin (some .ret) rfl
theorem Ev.fX{g ps ps' asg body asg' body' ts ts' f A a c h2 st ex}(hA:bU P f=some A)(hg:val ts g=.func (.func f) a c)
  (hs:jQ P f (a++[.func (.yield h.length) [] []]++c) (h++[.loop .ready .normal ts ps asg body]) v h2) (hl:h2[h.length]? =some (.loop st ex ts' ps' asg' body')) (bN:st≠.busy):
  Ev P none (.fX g ps asg body) ts h ex ts (h2.set h.length .dead):=by
 refine Ev.of λcc hns hcc m act w lo hlo s hm Q hQ=>?_
 cases cc with
 |rangeFunc og cps Uq TP=>
  simp only[compile]at hcc;split at hcc
  case h_2=>cases hcc
  rename_i g' x' y' hgo T7 hcb;cases hcc;have hv:=Dj s hgo;rw[hg,VR]at hv;obtain⟨f',ca,T8,hev,hfn,ha,hc⟩:=hv;simp only[B3]at hfn;subst hfn;obtain⟨W1,Wh⟩:∃W1,w.alloc (.deferred (some []))=W1:=⟨_,rfl⟩;have hsz1:W1.heap.size=w.heap.size+1:=by rw[<-Wh];simp
  have hr1:HR P m h W1:=by rw[<-Wh];exact s.hr.aside _
  have g1:Grow m h w m h W1:=by rw[<-Wh];exact Grow.aside s.hr _
  have Zi:W1.heap[w.heap.size]? =some (.deferred (some [])):=by rw[<-Wh];exact World.alloc_heap_new w _
  refine wpIn_rangeFunc λfn _=>?_
  obtain⟨rec,TT⟩:∃rec:Loop,rec={state:=.ready,pending:=none,fn:=fn,tmps:=act.tmps,params:=cps,assign:=Uq,body:=TP,defers:=w.heap.size}:=⟨_,rfl⟩;obtain⟨UE,g2⟩:=kP hr1 (.loop rec) (.loop .ready .normal ts cps.toList asg body) ⟨W1.heap.size,0,0,true⟩ rfl rfl (λm' hm'=>⟨rfl,fn,act.tmps,Uq,TP,w.heap.size,by rw[TT];exact World.alloc_heap_new W1 _,cL.mono hm' _ _ s.ts,T7,hcb⟩);have hloc:(m.add h.length ⟨W1.heap.size,0,0,true⟩) h.length=some ⟨W1.heap.size,0,0,true⟩:=by simp[cw.add]
  have hle:m.le (m.add h.length ⟨W1.heap.size,0,0,true⟩):=g2.le s.hr.cM;have XO:=run_enterLoop_outer (P:=P) (w:=w) fn act.tmps cps Uq TP;rw[Wh,<-TT]at XO;obtain⟨ffn,fcode,hffn,hfb,_,_,_,aab⟩:=gV hA;have hmk:Marks (m.add h.length ⟨W1.heap.size,0,0,true⟩) (W1.alloc (.loop rec)) lo ([{target:=.collected w.heap.size,args:=#[] }]++act.defers):=by
   obtain⟨rs,k1,k2,k3⟩:=(hm.grow g1 s.hr.cM).grow g2 s.hr.cM;refine⟨w.heap.size::rs,by rw[k1];rfl,ac0.2 ⟨λhin=>?_,k2⟩,λr hr'=>?_⟩
   ·obtain⟨rs0,j1,j2,j3⟩:=hm;have hrs:rs0=rs:=by
     have:rs0.map (λr=>({target:=.collected r,args:=#[] }:Deferred))=rs.map (λr=>({target:=.collected r,args:=#[] }:Deferred)):=by rw[<-j1,k1]
     exact List.map_inj_right (λx y hxy=>by simpa using hxy) |>.1 this
    subst hrs;have:=(aax.1 (j3 _ hin).2.1).1;omega
   ·rcases aaN.1 hr' with rfl|hr'
    ·refine⟨hlo,(Go.RowKit.Below.heap_alloc W1 _ _ Om).trans Zi,λb e hb=>?_⟩;unfold cw.add at hb;split at hb
     ·cases hb;show W1.heap.size≠_;omega
     ·have:=s.hr.lt b e hb;omega
    ·exact k3 r hr'
  refine⟨w.heap.size+1,_,W1.alloc (.loop rec),{target:=.fn (.func f) ⟨T8⟩,args:=⟨ca⟩++#[.func (.yield (w.heap.size+1)) #[] #[]] },W1.alloc (.loop rec),f,(⟨ca⟩++#[.func (.yield (w.heap.size+1)) #[] #[]])++⟨T8⟩,W1.alloc (.loop rec),
   XO,?_,λ_ _=>trivial,?_,λhd=>by simp[Fd,Fence.wide]at hd,?_⟩
  ·have XF:(#[Operand.const (.func (.yield (w.heap.size+1)) #[] #[])] :Array Operand).map act.eval=#[.func (.yield (w.heap.size+1)) #[] #[]]:=by simp[Act.eval]
   simp only[resolve,hev,rangeCall,XF];rfl
  ·simp only[invoke];exact kY hffn (by rw[hfb];rfl) aab
  ·have hargs:cL (m.add h.length ⟨W1.heap.size,0,0,true⟩) (a++[.func (.yield h.length) [] []]++c) (ca++[.func (.yield (w.heap.size+1)) #[] #[]]++T8):=by
    refine cL.append (cL.append (cL.mono hle _ _ ha) (aQ.2 ⟨_,[],rfl,⟨_,[],[],rfl,⟨_,hloc,by rw[hsz1]⟩,rfl,rfl⟩,bE.2 rfl⟩)) (cL.mono hle _ _ hc)
   have VK:=hs _ _ _ UE hargs;rw[<-callsIn_wide (n:=0)]at VK;have hcall':CallsIn (Fd none) (0-1) P f ((⟨ca⟩++#[.func (.yield (w.heap.size+1)) #[] #[]])++⟨T8⟩) (W1.alloc (.loop rec)) (Rel P (m.add h.length ⟨W1.heap.size,0,0,true⟩) (h++[.loop .ready .normal ts cps.toList asg body]) (W1.alloc (.loop rec)) v h2):=by
    have Uf:((⟨ca⟩++#[.func (.yield (w.heap.size+1)) #[] #[]])++⟨T8⟩:Array Value)=⟨ca++[.func (.yield (w.heap.size+1)) #[] #[]]++T8⟩:=by apply acU;simp
    rw[Uf];exact VK
   refine hcall'.mono ?_;rintro e3 w3 ⟨cv,m3,rfl,hv3,hr3,g3⟩;have Y7:m3 h.length=some ⟨W1.heap.size,0,0,true⟩:=by rw[g3.ext h.length Si];exact hloc
   obtain⟨hown3,fn3,tmps3,casg3,cbody3,df3,hh3,_⟩:=hr3.dW h.length _ _ Y7 hl;simp only at hh3;have Vo:=run_endLoop (P:=P) (l:=W1.heap.size) hh3 (by simpa using bN);obtain⟨hr4,g4⟩:=kB hr3 (o:=.loop {state:=.exhausted,pending:=ex.jump,fn:=fn3,tmps:=tmps3,params:=⟨ps'⟩,assign:=casg3,body:=cbody3,defers:=df3}) Y7 hl rfl (k':=.dead) (.inr rfl) trivial;have UX:=hQ m3 {act with defers:=[{target:=.collected w.heap.size,args:=#[] }]++act.defers} _ ⟨hr4,cL.mono ((g2.trans g3 s.hr.cM).le s.hr.cM) _ _ s.ts⟩ (((g1.trans g2 s.hr.cM).trans g3 s.hr.cM).trans g4 s.hr.cM) ((hmk.grow g3 UE.cM).grow g4 hr3.cM);refine⟨ex.jump,_,by rw[<-hsz1];exact Vo,?_⟩
   cases ex with
   |normal=>exact UX
   |exit id=>exact wpIn_exit UX
   |ret=>exact wpIn_ret UX
 |scope a=>exact absurd rfl (hns a)
 |region id ops draw=>rcases eC (by simpa only[compile]using hcc)with⟨_,h1,_⟩|⟨_,h1,_⟩|⟨_,h1,_⟩<;>cases h1
 |block id a=>simp[compile]at hcc
 |loop a=>simp[compile]at hcc
 |_=>
  simp only[compile]at hcc
  (repeat' split at hcc)
  all_goals cases hcc
end
inductive ja where
 |ar
 |push (k:ak)
 |set (b:Nat) (k:ak)
 |oz (b:Nat) (k k':ak)
 deriving Inhabited
def ja.app:ja->ah->ah
 |.ar,h=>h
 |.push k,h=>h++[k]
 |.set b k,h=>h.set b k
 |.oz b k k',h=>h.set b k++[k']
def fp(es:Nat)(G:Nat->Option ak):AV->Option (List AV×Nat)
 |.af=>some ([],0)
 |.slice b o n es'=>
  if es' =es then
   match G b with
   |some (.cells c _ _)=>if o+n*es<=c.length then some ((c.drop o).take (n*es),n)else none
   |_=>none
  else none
 |.str s=>if es=1 then some (s.map λb=>.int .u8 b.toNat,s.length)else none
 |_=>none
def kg(lk:LK)(G:Nat->Option ak):AV->Option Nat
 |.str s=>if lk=.st then some s.length else none
 |.slice _ _ n _=>if lk=.sl then some n else none
 |.af=>if lk=.sl then some 0 else none
 |.map r=>
  match G r with
  |some (.bg es)=>if lk=.mp then some es.length else none
  |_=>none
 |.dq=>if lk=.mp then some 0 else none
 |_=>none
def nv(k:AJ)(x:AV)(G:Nat->Option ak)(N0:Nat):Option (AV×ja):=
 match k with
 |.F9 k=>
  match x with
  |.int _ n=>some (.int k (k.wrap n),.ar)
  |_=>none
 |.same=>
  match x with
  |.str s=>some (.str s,.ar)
  |_=>none
 |.QN k=>
  match x with
  |.int _ n=>some (.yl k (k.nearest n),.ar)
  |_=>none
 |.Q3 k=>
  match x with
  |.yl s b=>
   match (s.decode b).toInt .zero with
   |some n=>if FL s b=false/\k.min<=n/\n<=k.max then some (.int k n,.ar)else none
   |none=>none
  |_=>none
 |.Q4 k=>
  match x with
  |.yl s b=>if s=k then some (.yl k b,.ar)else none
  |_=>none
 |.vU u=>some (.vU u x,.ar)
 |.Ob=>
  match x with
  |.af=>some (.str [],.ar)
  |.slice b o n es=>
   match fp 1 G (.slice b o n es)with
   |some (l,_)=>
    match l.mapM byteOf with
    |some r=>some (.str r,.ar)
    |none=>none
   |none=>none
  |_=>none
 |.PK=>
  match x with
  |.str s=>some (.slice N0 0 s.length 1,.push (.cells (s.map λb=>.int .u8 b.toNat) true true))
  |_=>none
def nS(k:pN):(cZ->AV)->(Nat->Option ak)->Nat->Option (AV×ja):=
 match k with
 |.cj x=>λρ G N0=>some (ρ x,.ar)
 |.pick c a b=>λρ G N0=>
  match ρ c with
  |.bool t=>some (if t then ρ a else ρ b,.ar)
  |_=>none
 |.box x=>λρ G N0=>if(ρ x).cells.all AV.one then some (.ptr N0 0,.push (.cells (ρ x).cells true false))else none
 |.pt n x=>λρ G N0=>if(ρ x).cells.all AV.one=true/\(ρ x).cells.length=n then some (.ptr N0 0,.push (.cells (ρ x).cells true false))else none
 |.build z ps=>λρ G N0=>
  match eT z (ps.map λp=>(p.1,p.2.1,ρ p.2.2))with
  |some c=>some (.agg c,.ar)
  |none=>none
 |.load n a=>λρ G N0=>
  match ρ a with
  |.ptr b o=>
   match G b with
   |some (.cells c _ _)=>
    match n with
    |none=>
     match c[o]? with
     |some x=>some (x,.ar)
     |none=>none
    |some n=>if o+n<=c.length then some (.agg ((c.drop o).take n),.ar)else none
   |_=>none
  |_=>none
 |.store n a x=>λρ G N0=>
  match ρ a with
  |.ptr b o=>
   match G b with
   |some (.cells c true tl)=>
    if(ρ x).cells.length=n/\(ρ x).cells.all AV.one=true/\o+n<=c.length then some (az,.set b (.cells (fV c o (ρ x).cells) true tl))else none
   |_=>none
  |_=>none
 |.bT x=>λρ G N0=>
  match ρ x with
  |.ptr b o=>some (.ptr b o,.ar)
  |.func (.func f) a c=>some (.func (.func f) a c,.ar)
  |.func (.yield f) a c=>some (.func (.yield f) a c,.ar)
  |.func (.methodOf t n) a c=>some (.func (.methodOf t n) a c,.ar)
  |.func (.via t p f q) a c=>some (.func (.via t p f q) a c,.ar)
  |_=>none
 |.bin op x y=>λρ G N0=>
  match eG op (ρ x) (ρ y)with
  |some v=>some (v,.ar)
  |none=>none
 |.eqv neg t x y=>λρ G N0=>
  match p9 t (ρ x) (ρ y)with
  |some b=>some (.bool (if neg then !b else b),.ar)
  |none=>none
 |.un op x=>λρ G N0=>
  match yp op (ρ x)with
  |some v=>some (v,.ar)
  |none=>none
 |.conv k x=>λρ G N0=>nv k (ρ x) G N0
 |.ve f a c=>λρ G N0=>some (.func f (a.map ρ) (c.map ρ),.ar)
 |.oZ=>λρ G N0=>some (.map N0,.push (.bg []))
 |.wX es w z l c=>λρ G N0=>
  match ρ l,ρ c with
  |.int _ l,.int _ c=>
   if 0<=l/\l<=c/\(w:Int)*c<=2^48/\c<2^63 then some (.slice N0 0 l.toNat es,.push (.cells (dX l.toNat z) true true))else none
  |_,_=>none
 |.sl es x lo hi=>λρ G N0=>
  match ρ x with
  |.slice b o n es'=>
   if es' =es then
    match jv (lo.map ρ) (hi.map ρ) n with
    |some (l,h')=>some (.slice b (o+l*es) (h'-l) es,.ar)
    |none=>none
   else none
  |.af=>
   match jv (lo.map ρ) (hi.map ρ) 0 with
   |some _=>some (.af,.ar)
   |none=>none
  |_=>none
 |.B7 x lo hi=>λρ G N0=>
  match ρ x with
  |.str s=>
   match jv (lo.map ρ) (hi.map ρ) s.length with
   |some (l,h')=>some (.str ((s.drop l).take (h'-l)),.ar)
   |none=>none
  |_=>none
 |.OO k es x lo hi=>λρ G N0=>
  match ρ x with
  |.ptr b o=>
   match G b with
   |some (.cells c _ _)=>
    if o+k*es<=c.length then
     match jv (lo.map ρ) (hi.map ρ) k with
     |some (l,h')=>some (.slice b (o+l*es) (h'-l) es,.ar)
     |none=>none
    else none
   |_=>none
  |_=>none
 |.bn off x=>λρ G N0=>
  match ρ x with
  |.ptr b o=>some (.ptr b (o+off),.ar)
  |_=>none
 |.bw es x i=>λρ G N0=>
  match ρ x,ρ i with
  |.slice b o n es',.int _ i=>if es' =es/\0<=i/\i<n then some (.ptr b (o+i.toNat*es),.ar)else none
  |_,_=>none
 |.pe len es x i=>λρ G N0=>
  match ρ x,ρ i with
  |.ptr b o,.int _ i=>if 0<=i/\i<len then some (.ptr b (o+i.toNat*es),.ar)else none
  |_,_=>none
 |.part n off x=>λρ G N0=>
  match ρ x with
  |.agg cs=>
   match n with
   |none=>
    match cs[off]? with
    |some v=>some (v,.ar)
    |none=>none
   |some n=>some (.agg ((cs.drop off).take n),.ar)
  |_=>none
 |.KS len es n x i=>λρ G N0=>
  match ρ x,ρ i with
  |.agg cs,.int _ i=>
   if 0<=i/\i<len then
    match n with
    |none=>
     match cs[i.toNat*es]? with
     |some v=>some (v,.ar)
     |none=>none
    |some n=>some (.agg ((cs.drop (i.toNat*es)).take n),.ar)
   else none
  |_,_=>none
 |.Ca x i=>λρ G N0=>
  match ρ x,ρ i with
  |.str s,.int _ i=>
   if 0<=i then
    match s[i.toNat]? with
    |some b=>some (.int .u8 b.toNat,.ar)
    |none=>none
   else none
  |_,_=>none
 |.look kk z ok m k=>λρ G N0=>
  match ρ m with
  |.dq=>some (if ok then .dQ [z,.bool false]else z,.ar)
  |.map r=>
   match G r with
   |some (.bg es)=>
    match jO kk (ρ k) es with
    |some (some v)=>some (if ok then .dQ [v,.bool true]else v,.ar)
    |some none=>some (if ok then .dQ [z,.bool false]else z,.ar)
    |none=>none
   |_=>none
  |_=>none
 |.fY kk m k x=>λρ G N0=>
  match ρ m with
  |.map r=>
   match G r with
   |some (.bg es)=>
    match pR kk (ρ k) (ρ x) es with
    |some es'=>some (az,.set r (.bg es'))
    |none=>none
   |_=>none
  |_=>none
 |.CY x=>λρ G N0=>
  match ρ x with
  |.str s=>some (.ptr N0 0,.push (.iter s 0))
  |_=>none
 |.r9 x=>λρ G N0=>
  match ρ x with
  |.ptr b 0=>
   match G b with
   |some (.iter s pos)=>
    if pos<s.length then
     let d:=Utf8.decode ⟨⟨s⟩⟩ pos
     some (.dQ [.bool true,.int .i64 pos,.int .i32 d.1],.set b (.iter s (pos+d.2)))
    else some (.dQ [.bool false],.ar)
   |_=>none
  |_=>none
 |.ext x i=>λρ G N0=>
  match ρ x with
  |.dQ l=>
   match l[i]? with
   |some v=>some (v,.ar)
   |none=>none
  |_=>none
 |.len lk x=>λρ G N0=>
  match kg lk G (ρ x)with
  |some n=>some (.int .i64 n,.ar)
  |none=>none
 |.Bp n=>λρ G N0=>some (.int .i64 n,.ar)
 |.Au es x y=>λρ G N0=>
  match ρ x,fp es G (ρ y)with
  |.slice b o n es',some (ys,k)=>
   if es' =es then
    if min k n=0 then some (.int .i64 0,.ar)
    else
     match G b with
     |some (.cells c true tl)=>if o+min k n*es<=c.length then some (.int .i64 (min k n:Nat),.set b (.cells (fV c o (ys.take (min k n*es))) true tl))else none
     |_=>none
   else none
  |.af,some _=>some (.int .i64 0,.ar)
  |_,_=>none
 |.mx x l=>λρ G N0=>
  match iW qA (ρ x) (l.map ρ)with
  |some v=>some (v,.ar)
  |none=>none
 |.mn x l=>λρ G N0=>
  match iW qz (ρ x) (l.map ρ)with
  |some v=>some (v,.ar)
  |none=>none
 |_=>λρ G N0=>none
def qe(es w:Nat)(s y:AV)(G:Nat->Option ak)(N0:Nat):Option (AV×ja):=
 match fp es G y with
 |none=>none
 |some (ys,k)=>
  match s with
  |.af=>if k=0 then(if ys.isEmpty then some (.af,.ar)else none)else if k*w<=2^46 then some (.slice N0 0 k es,.push (.cells ys true true))else none
  |.slice b o m es'=>
   if es' =es then
    if k=0 then(if ys.isEmpty then some (.slice b o m es,.ar)else none)
    else if(m+k)*w<=2^46 then
     match G b with
     |some (.cells c true true)=>if o+m*es<=c.length then some (.slice N0 0 (m+k) es,.oz b .dead (.cells ((c.drop o).take (m*es)++ys) true true))else none
     |some (.cells c false true)=>if o+m*es=c.length then some (.slice N0 0 (m+k) es,.oz b (.cells c false false) (.cells (c.drop o++ys) false true))else none
     |some (.cells c true false)=>if o+m*es=c.length then some (.slice N0 0 (m+k) es,.push (.cells (c.drop o++ys) true true))else none
     |_=>none
    else none
   else none
  |_=>none
def stepT(k:pN):(cZ->AV)->(Nat->Option ak)->Nat->Option (AV×ja):=
 match k with
 |.call _ _=>λ_ _ _=>none
 |.app es w x y=>λρ G N0=>qe es w (ρ x) (ρ y) G N0
 |.a8 es n z ps=>λρ _ N0=>
  match eT (dX n z) (ps.map λp=>(p.1,es,ρ p.2))with
  |some c=>if c.all AV.one=true/\c.length=n*es then some (.slice N0 0 n es,.push (.cells c true (!Nat.beq n 0)))else none
  |none=>none
 |k=>nS k
def qc(es:Nat)(h:ah)(x:AV):fp es (λb=>h[b]?) x=cellsIn es h x:=by
 cases x<;>rfl
def FP(lk:LK)(h:ah)(x:AV):kg lk (λb=>h[b]?) x=Bq lk h x:=by
 cases x<;>rfl
def D1{k x h v e}(hs:nv k x (λb=>h[b]?) h.length=some (v,e)):kN k x h=some (v,e.app h):=by
 cases k<;>simp only[nv,qc]at hs<;>(repeat' split at hs)<;>first|(cases hs;done)|(cases hs;simp[kN,ja.app, *])
def JM{k ρ h v e}(hs:nS k ρ (λb=>h[b]?) h.length=some (v,e)):dE k ρ h=some (v,e.app h):=by
 cases k with
 |conv k x=>exact D1 (k:=k) (x:=ρ x) hs
 |wX es w z l c=>
  simp only[nS]at hs;split at hs
  case h_2=>cases hs
  rename_i kl il kc ic hl hc;split at hs
  case isFalse=>cases hs
  rename_i TK;cases hs;simp only[dE,hl,hc];rw[aas TK];rfl
 |_=>simp only[nS,qc,FP]at hs<;>(repeat' split at hs)<;>first|(cases hs;done)|(cases hs;simp[dE,ja.app, *])
def od{k ρ h v e}(hs:stepT k ρ (λb=>h[b]?) h.length=some (v,e)):nA k ρ h v (e.app h):=by
 have hf:∀k,nS k ρ (λb=>h[b]?) h.length=some (v,e)->dE k ρ h=some (v,e.app h):=λk hk=>JM hk
 cases k with
 |call f args=>cases hs
 |app es w x y=>
  simp only[stepT,qe,qc]at hs;show yj es w (ρ x) (ρ y) h v (e.app h);split at hs
  ·cases hs
  rename_i ys k hy;split at hs
  ·rename_i hx;rw[hx];split at hs
   ·rename_i hk;split at hs
    ·rename_i hys;cases hs;subst hk;exact .none (by rw[hy];cases ys<;>first|rfl|cases hys) (.inl rfl)
    ·cases hs
   ·split at hs
    ·rename_i hk hb;cases hs;exact .new ys k true hy Om hb rfl
    ·cases hs
  ·rename_i b o m es' hx;rw[hx];split at hs
   case isFalse=>cases hs
   rename_i hes;subst hes;split at hs
   ·rename_i hk;split at hs
    ·rename_i hys;cases hs;subst hk;exact .none (by rw[hy];cases ys<;>first|rfl|cases hys) (.inr ⟨b,o,m,rfl⟩)
    ·cases hs
   ·rename_i hk;split at hs
    case isFalse=>cases hs
    rename_i hb;split at hs
    ·rename_i c hc;split at hs
     case isFalse=>cases hs
     rename_i hl;cases hs;exact .over ys k b o m c true hy Om hb rfl hc hl
    ·rename_i c hc;split at hs
     case isFalse=>cases hs
     rename_i hl;cases hs;exact .on ys k b o m c false hy Om hb rfl hc hl
    ·rename_i c hc;split at hs
     case isFalse=>cases hs
     rename_i hl;cases hs;exact .full ys k b o m c hy Om hb rfl hc hl
    ·cases hs
  ·cases hs
 |a8 es n z ps=>
  simp only[stepT]at hs;split at hs
  case h_2=>cases hs
  rename_i c hc;split at hs
  case isFalse=>cases hs
  rename_i TK;cases hs;exact⟨c,true,_,hc,TK.1,TK.2,rfl,rfl⟩
 |_=>exact hf _ hs
inductive Acc where
 |no
 |rd (b:Nat)
 |wr (b:Nat) (k:ak)
def Acc.dW:Acc->Option Nat
 |.no=>none
 |.rd b=>some b
 |.wr b _=>some b
def Acc.app(h:ah):Acc->ah
 |.wr b k=>h.set b k
 |_=>h
def Bh{k}(hk:fG k=true){ρ G G' N N'}:stepT k ρ G N=stepT k ρ G' N':=by
 cases k<;>first|(cases hk;done)|rfl|skip
 case conv c x=>cases c<;>first|(cases hk;done)|rfl
 case len lk x=>
  have hl:lk≠.mp:=λe=>by rw[e]at hk;cases hk
  have e:kg lk G (ρ x)=kg lk G' (ρ x):=by
   cases lk<;>first|exact absurd rfl hl|skip
   all_goals
    cases ρ x<;>first|rfl|(simp only[kg,reduceCtorEq,aay];repeat' split)<;>rfl
  simp only[stepT,nS,e]
def Bo{n a ρ G G' N N' b o}(ha:ρ a=.ptr b o)(hb:G b=G' b):stepT (.load n a) ρ G N=stepT (.load n a) ρ G' N':=by
 simp only[stepT,nS,ha,hb]
def yw{n a x ρ G G' N N' b o}(ha:ρ a=.ptr b o)(hb:G b=G' b):stepT (.store n a x) ρ G N=stepT (.store n a x) ρ G' N':=by
 simp only[stepT,nS,ha,hb]
def yi(o:bO)(ts:TS)(h:ah)(v:AV)(c:Acc):Prop:=
 (¬wanted o.gd ts/\c=.no/\v=az)\/wanted o.gd ts/\((fG o.k=true/\c=.no/\stepT o.k (val ts) (λz=>h[z]?) h.length=some (v,.ar))\/
  (∃n a b off,o.k=.load n a/\val ts a=.ptr b off/\c=.rd b/\stepT o.k (val ts) (λz=>h[z]?) h.length=some (v,.ar))\/
  (∃n a x b off k,o.k=.store n a x/\val ts a=.ptr b off/\c=.wr b k/\stepT o.k (val ts) (λz=>h[z]?) h.length=some (v,.set b k)))
theorem yi.run{P o ts h g v c}(hs:yi o ts h v c)(hb:∀b,c.dW=some b->g[b]? =h[b]?):dI P o ts g (put ts o.dst v) (c.app g):=by
 rcases hs with⟨hw,rfl,rfl⟩|⟨hw,hs⟩
 ·exact .skip hw
 rcases hs with⟨hp,rfl,hs⟩|⟨n,a,b,off,hk,ha,rfl,hs⟩|⟨n,a,x,b,off,k,hk,ha,rfl,hs⟩
 ·refine .run hw ?_ ?_
  ·cases hk:o.k<;>rw[hk]at hp<;>first|(cases hp;done)|trivial
  ·rw[Bh hp (G':=λz=>g[z]?) (N':=g.length)]at hs;have:=od hs;cases hk:o.k<;>rw[hk]at hp this<;>first|(cases hp;done)|exact this
 ·rw[hk]at hs;rw[Bo ha (G':=λz=>g[z]?) (N':=g.length) (hb b rfl).symm]at hs;exact z193
 ·rw[hk]at hs;rw[yw ha (G':=λz=>g[z]?) (N':=g.length) (hb b rfl).symm]at hs;exact z193
def B1:List bO->TS->ah->List Acc->TS->Prop
 |[],ts,_,cs,ts'=>cs=[]/\ts' =ts
 |o::r,ts,h,cs,ts'=>∃v c cs1,yi o ts h v c/\cs=c::cs1/\B1 r (put ts o.dst v) h cs1 ts'
theorem B1.row{h}:∀{l}{ts ts'}{cs},B1 l ts h cs ts'->∃T:Nat->TS,T 0=ts/\T l.length=ts'/\cs.length=l.length/\∀j o,l[j]? =some o->∃v c,cs[j]? =some c/\yi o (T j) h v c/\T (j+1)=put (T j) o.dst v
 |[],ts,ts',cs,hs=>by
  obtain⟨rfl,rfl⟩:=hs;exact⟨λ_=>ts',rfl,rfl,rfl,λj o ho=>by simp at ho⟩
 |o::r,ts,ts',cs,hs=>by
  obtain⟨v,c,cs1,bN,rfl,hr⟩:=hs;obtain⟨T,hT,UQ,hl,hrow⟩:=hr.row;refine⟨λi=>match i with| 0=>ts|i+1=>T i,rfl,UQ,by simp[hl],λj x hx=>?_⟩;cases j with
  |zero=>simp at hx;subst hx;exact⟨v,c,rfl,bN,hT⟩
  |succ j=>
   obtain⟨v',c',h1,h2,h3⟩:=hrow j x (by simpa using hx);exact⟨v',c',by simpa using h1,h2,h3⟩
def ed:ah->List Acc->ah
 |h,[]=>h
 |h,c::cs=>ed (c.app h) cs
def fi:List Acc->Prop
 |[]=>True
 |c::cs=>(∀b,c.dW=some b->∀x∈cs,x.dW=some b->∀k k',c=Acc.wr b k\/x=Acc.wr b k'->False)/\fi cs
theorem fi.ne:∀{cs:List Acc},fi cs->∀{i j b:Nat}{k:ak}{c:Acc},cs[i]? =some (.wr b k)->i≠j->cs[j]? =some c->c.dW≠some b
 |[],_,i,j,b,k,c,h1,_,_=>by simp at h1
 |x::xs,h,i,j,b,k,c,h1,hij,h2=>by
  intro hc;cases i with
  |zero=>
   simp at h1;subst h1;cases j with
   |zero=>exact hij rfl
   |succ j=>exact h.1 b rfl c (aa8 (by simpa using h2)) hc k k (.inl rfl)
  |succ i=>
   cases j with
   |zero=>
    simp at h2;subst h2;exact h.1 b hc _ (aa8 (by simpa using h1)) rfl k k (.inr rfl)
   |succ j=>exact fi.ne h.2 (i:=i) (j:=j) (by simpa using h1) Om (by simpa using h2) hc
def vC(h:ah)(c:Acc):(c.app h).length=h.length:=by cases c<;>simp[Acc.app]
def zi{h:ah}{c:Acc}{b:Nat}(hb:∀k,c=.wr b k->False):(c.app h)[b]? =h[b]? :=by
 cases c with
 |wr b' k=>
  have:b'≠b:=λe=>hb k (by rw[e])
  simp[Acc.app,aau this]
 |_=>rfl
theorem ql:∀{cs:List Acc}{h:ah}{b:Nat},(∀(j:Nat) (k:ak),cs[j]? =some (Acc.wr b k)->False)->(ed h cs)[b]? =h[b]?
 |[],h,b,_=>rfl
 |c::cs,h,b,hb=>by
  rw[ed,ql (λj k hj=>hb (j+1) k (by simpa using hj))];exact zi λk hk=>hb 0 k (by simp[hk])
theorem uG:∀{cs:List Acc}{h:ah},fi cs->∀{j b:Nat}{k:ak},b<h.length->cs[j]? =some (.wr b k)->(ed h cs)[b]? =some k
 |[],h,_,j,b,k,_,hj=>by simp at hj
 |c::cs,h,ho,j,b,k,hb,hj=>by
  cases j with
  |zero=>
   simp at hj;subst hj;rw[ed,ql (λj k' hj=>fi.ne ho (i:=0) (j:=j+1) (b:=b) (k:=k) rfl Om (by simpa using hj) rfl)];simp[Acc.app,hb]
  |succ j=>
   rw[ed];exact uG ho.2 (by rw[vC];exact hb) (by simpa using hj)
structure AI(h:ah)(cs:List Acc)(S:Nat->Bool)(g:ah):Prop where
 len:g.length=h.length
 wr:∀j b k,S j=true->cs[j]? =some (.wr b k)->g[b]? =some k
 ne:∀b,(∀j k,S j=true->cs[j]? =some (.wr b k)->False)->g[b]? =h[b]?
def AI.all{h g:ah}{cs:List Acc}{S:Nat->Bool}(H:AI h cs S g)(ho:fi cs)(hS:∀j c,cs[j]? =some c->S j=true):g=ed h cs:=by
 apply acH
 intro b;by_cases hx:∃(j:Nat) (k:ak),cs[j]? =some (Acc.wr b k)
 ·obtain⟨j,k,hj⟩:=hx;have h1:=H.wr j b k (hS j _ hj) hj;have:b<h.length:=by rw[<-H.len];exact(aad.1 h1).1
  rw[h1,uG ho this hj]
 ·rw[H.ne b λj k _ hj=>hx ⟨j,k,hj⟩,ql λj k hj=>hx ⟨j,k,hj⟩]
def uU{P:Program}(hmix:P.follows .mixedOrders=true){ops:Array Oper}{l:List bO}(hed:lq (Region.before ops) ops=true)(hsl:mJ (Region.before ops) ops=true)
  (hc:eU (λ_ o=>bW P ops false o) ops.toList 0=some l) {ts ts':TS}{h:ah}{cs:List Acc}(hs:B1 l ts h cs ts') (hok:fi cs) {m:cw}{a:Act}{w:World}
  (st:St P m ts h a w) (ro:Option Nat) (Q:Exit->Act->World->Prop) (hQ:∀m' a' w',St P m' ts' (ed h cs) a' w'->Grow m h w m' (ed h cs) w'->a'.defers=a.defers->Q .normal a' w') (id:Nat):
  (Code.region id ops true).wpIn (Fd ro) 0 P Q a w:=by
 refine wpIn_region_any hmix ?_;obtain⟨T,rfl,rfl,hcl0,hrow⟩:=hs.row;obtain⟨TJ,Ty⟩:=gF hc;simp only[acw]at TJ;have XR:∀(j:Nat) (io:bO),l[j]? =some io->∃o,ops[j]? =some o/\bW P ops false o=some io:=λj io hj=>by
  exact Pc
 have Uz:∀(j:Nat) (io:bO) (d:Nat),l[j]? =some io->io.dst=some d->∃o,ops[j]? =some o/\o.dst=some d:=λj io d hj hd=>by
  exact z76
 have huniq:∀(i j:Nat) (oi oj:bO) (d:Nat),l[i]? =some oi->l[j]? =some oj->oi.dst=some d->oj.dst=some d->i=j:=λi j oi oj d hi hj h1 h2=>by
  exact Pe
 have hTl:∀j,j<=l.length->(T j).length=(T 0).length:=by
  intro j
  induction j with
  |zero=>intro _;rfl
  |succ j ih=>
   intro hj;obtain⟨v,c,_,_,hv⟩:=hrow j _ (aai (show j<l.length by omega));rw[hv,nL];exact ih Om
 have TE:∀x y t,x<=y->y<=l.length->(∀(j:Nat) (o:bO),x<=j->j<y->l[j]? =some o->o.dst≠some t)->(T y).getD t az=(T x).getD t az:=by
  intro x y t hxy hy hno;have:=vQ (T:=T) (t:=t) (a:=x) (y-x) (λj h1 h2=>by
   have hj:l[j]? =some (l[j]'Om):=aai Om;obtain⟨v,c,_,_,hv⟩:=hrow j _ hj;exact⟨_,v,hv,hno j _ h1 Om hj⟩)
  rwa [show x+(y-x)=y from by omega]at this
 have hdone:∀(listed:Array Bool) (g:ah) (a1:Act) (w1:World),(∀i,i<ops.size->listed.getD i false=true)->AI h cs (λj=>listed.getD j false) g->HR P m g w1->Grow m h w m g w1->a1.tmps.size=(T 0).length->
   (∀(d:Nat),(∀(j:Nat) (o:bO),l[j]? =some o->listed.getD j false=true->o.dst≠some d)->VR m ((T 0).getD d az) (a1.tmps.getD d undef))->
   (∀(d j:Nat) (o:bO),l[j]? =some o->listed.getD j false=true->o.dst=some d->VR m ((T (j+1)).getD d az) (a1.tmps.getD d undef))->a1.defers=a.defers->Q .normal a1 w1:=by
  intro listed g a1 w1 hall H hr hg dV h1 h2 hd;have e:=H.all hok λj c hj=>hall j (by have:=(aad.1 hj).1;omega)
  subst e;refine hQ m a1 w1 ⟨hr,cL.iG ?_ ?_⟩ hg hd
  ·exact Iz
  ·intro t x hx;exact SC
 have key:∀(fuel:Nat) (listed:Array Bool) (g:ah) (a1:Act) (w1:World),listed.size=ops.size->rC listed ops.size<=fuel->
   (∀j x,listed.getD j false=true->x<ops.size->ahead (Region.before ops) x j=true->listed.getD x false=true)->
   AI h cs (λj=>listed.getD j false) g->HR P m g w1->Grow m h w m g w1->a1.tmps.size=(T 0).length->
   (∀(d:Nat),(∀(j:Nat) (o:bO),l[j]? =some o->listed.getD j false=true->o.dst≠some d)->VR m ((T 0).getD d az) (a1.tmps.getD d undef))->
   (∀(d j:Nat) (o:bO),l[j]? =some o->listed.getD j false=true->o.dst=some d->VR m ((T (j+1)).getD d az) (a1.tmps.getD d undef))->a1.defers=a.defers->wpAnyIn (Fd ro) 0 P .any ops Q fuel listed a1 w1:=by
  intro fuel
  induction fuel with
  |zero=>
   intro listed g a1 w1 TG hu hcl H hr hg dV h1 h2 hd;have hall:=lU ops.size (show rC listed ops.size=0 by omega);exact⟨mM TG hall,hdone listed g a1 w1 hall H hr hg dV h1 h2 hd⟩
  |succ fuel ih=>
   intro listed g a1 w1 TG hu hcl H hr hg dV h1 h2 hd;refine⟨λhrn=>hdone listed g a1 w1 (mL hed TG hrn) H hr hg dV h1 h2 hd,λi hi=>?_⟩;obtain⟨o,ho,Uw,YE⟩:=(jB TG).1 hi;have hin:i<ops.size:=(aax.1 ho).1;obtain⟨io,hio,TC⟩:=Ty i o (by simpa using ho);obtain⟨v,c,hci,bN,hTi⟩:=hrow i io hio;have hahead:∀x,x<ops.size->ahead (Region.before ops) x i=true->listed.getD x false=true:=λx hx ha=>by
    exact OL
   have Vq:∀j x,(listed.setIfInBounds i true).getD j false=true->x<ops.size->ahead (Region.before ops) x j=true->(listed.setIfInBounds i true).getD x false=true:=by
    intro j x hj hx ha;exact z40
   have Xr:rC (listed.setIfInBounds i true) ops.size<=fuel:=by
    exact z80
   have hslot:∀t,t∈o.looksAt ops->VR m ((T i).getD t az) (a1.tmps.getD t undef):=by
    intro t ht;exact z12
   have VM:∀b,c.dW=some b->g[b]? =h[b]? :=λb hb=>H.ne b λj k hj Y8=>by
    by_cases e1:j=i
    ·subst e1
     try simp only at hj
     rw[Uw]at hj;cases hj
    ·exact fi.ne hok Y8 e1 hci hb
   refine fH ho TC hr.gv hr (by rw[dV,hTl i Om]) hslot (bN.run (P:=P) VM) ro _ Q ?_;intro cv v' m' w' UQ U6 hr' TN;have TW:io.dst=o.dst:=(dC TC).1;have hm:m' =m:=by
    funext b;by_cases hb:b<g.length
    ·exact TN.ext b hb
    ·have e1:m b=none:=by
      cases hx:m b with
      |none=>rfl
      |some e=>exact absurd (hr.cM b e hx) hb
     have e2:m' b=none:=by
      cases hx:m' b with
      |none=>rfl
      |some e=>exact absurd (by have:=hr'.cM b e hx;rwa [vC]at this) hb
     rw[e1,e2]
   subst hm;have hlt:(listed.setIfInBounds i true).getD i false=true:=by rw[c9 Om,aas rfl]
   have hne:∀j,j≠i->(listed.setIfInBounds i true).getD j false=listed.getD j false:=λj hj=>by rw[c9 Om,aao hj]
   have WJ:(a1.put o.dst cv).tmps=iu a1.tmps o.dst cv:=by cases o.dst<;>rfl
   refine ih _ (c.app g) (a1.put o.dst cv) w' (by simp[TG]) Xr Vq ⟨by rw[vC];exact H.len,?_,?_⟩ hr' (hg.trans TN st.hr.cM) (by rw[WJ,fj];exact dV) ?_ ?_ (by rw[put_defers];exact hd)
   ·intro j b k hj Y8
    try simp only at hj
    by_cases e1:j=i
    ·subst e1;rw[hci]at Y8;cases Y8;have:b<g.length:=by
      by_cases hb:b<g.length
      ·exact hb
      ·have e:=VM b rfl;rcases bN with⟨_,h,_⟩|⟨_,hs3⟩
       ·cases h
       rcases hs3 with⟨_,h,_⟩|⟨_,_,_,_,_,_,h,_⟩|⟨n,aa,x,b',off,k',hk,ha,h,hs3⟩
       ·cases h
       ·cases h
       ·cases h;rw[hk]at hs3;rw[abZ Om]at e;simp only[stepT,nS,ha,<-e]at hs3;cases hs3
     simp[Acc.app,this]
    ·rw[hne j e1]at hj;rw[zi λk' hk'=>by
      subst hk';exact fi.ne hok Y8 e1 hci rfl]
     exact H.wr j b k hj Y8
   ·intro b hb;rw[zi λk' hk'=>hb i k' hlt (by rw[hci,hk'])];exact H.ne b λj k hj Y8=>by
     try simp only at hj
     exact hb j k (by
      show(listed.setIfInBounds i true).getD j false=true;by_cases e1:j=i
      ·subst e1;exact hlt
      ·rw[hne j e1];exact hj) Y8
   ·intro d hdn;have Vk:o.dst≠some d:=by rw[<-TW];exact hdn i io hio hlt
    rw[WJ,dL Vk];refine h1 d λj oj hj hl=>hdn j oj hj ?_
    exact OG
   ·intro d j oj hj hl Wd;by_cases e1:j=i
    ·subst e1;rw[hio]at hj;cases hj;rw[hTi,WJ,<-TW,Wd];have hvv:put (T j) (some d) v=put (T j) (some d) v':=by
      have:=UQ;rw[<-TW,Wd]at this;exact this
     rw[hvv];exact mg (by rw[dV,hTl j Om]) U6
    ·have Vk:o.dst≠some d:=λhx=>by
      exact IC
     rw[WJ,dL Vk];rw[hne j e1]at hl;exact h2 d j oj hj hl Wd
 have Tx:∀j,(Array.replicate ops.size false).getD j false=false:=λj=>by
  exact OH
 refine key ops.size (Array.replicate ops.size false) h a _ Si ?_ (λj x hj _ _=>by simp[Tx j]at hj) ⟨rfl,λj b k hj _=>by simp[Tx j]at hj,λb _=>rfl⟩ st.hr.drew (Grow.refl m _ w st.hr.cM).drew ?_ (λd _=>om st.ts d) (λd j o _ hj _=>by simp[Tx j]at hj) rfl
 ·exact z24
 ·exact EL
theorem Ev.tB{P ro}(hmix:P.follows .mixedOrders=true){l ts ts' h cs}(hs:B1 l ts h cs ts')(hok:fi cs):Ev P ro (.tB l) ts h .normal ts' (ed h cs):=by
 refine Ev.of λcc hns hc m a w lo hlo st hm Q hQ=>?_
 cases cc with
 |region id ops draw=>
  rcases eC (by simpa only[compile]using hc)with⟨l',h1,hl⟩|⟨l',h1,hd,⟨l2,hl2⟩,hz⟩|⟨_,h1,_⟩<;>cases h1
  subst hd;simp only[cP,aaB]at hl2;split at hl2
  case isFalse=>cases hl2
  rename_i T2;simp only[aaM]at T2;exact uU hmix T2.1 T2.2 hz hs hok st ro Q (λm' a' w' s g d=>hQ m' a' w' s g (by rw[d];exact hm.grow g st.hr.cM)) id
 |scope a=>exact absurd rfl (hns a)
 |block id a=>simp[compile]at hc
 |loop a=>simp[compile]at hc
 |_=>
  exact Ci
def Et(cs:List Acc):Acc->List Acc
 |.no=>cs
 |c=>cs++[c]
def BU{cs c}(hc:c≠.no):Et cs c=cs++[c]:=by cases c<;>first|exact absurd rfl hc|rfl
def Cb(h:ah):List bO->TS->List Acc->(TS->List Acc->Prop)->Prop
 |[],ts,cs,K=>K ts cs
 |o::r,ts,cs,K=>∃v c,yi o ts h v c/\Cb h r (put ts o.dst v) (Et cs c) K
theorem qk:∀{a b c},(∀x∈b,x=Acc.no)->fi (a++c)->fi (a++b++c)
 |[],[],c,_,h=>h
 |[],x::b,c,hb,h=>by
  have hx:=hb x Si;subst hx;exact⟨λn hn=>by(cases hn),by simpa using qk (a:=[]) (b:=b) (λy hy=>hb y (aaP _ hy)) h⟩
 |x::a,b,c,hb,h=>by
  refine⟨λn hn y hy hyn k k' hk=>?_,qk (a:=a) hb h.2⟩;rcases aam.1 hy with hy|hy
  ·rcases aam.1 hy with hy|hy
   ·exact h.1 n hn y (aam.2 (.inl hy)) hyn k k' hk
   ·rw[hb y hy]at hyn;cases hyn
  ·exact h.1 n hn y (aam.2 (.inr hy)) hyn k k' hk
theorem Cb.sound{h}:∀{l}{ts}{cs}{K},Cb h l ts cs K->∃Wy cs3 ts',B1 l ts h Wy ts'/\K ts' (cs++cs3)/\(∀(a c:List Acc),fi (a++cs3++c)->fi (a++Wy++c))/\(∀g,ed g Wy=ed g cs3)
 |[],ts,cs,K,H=>⟨[],[],ts,⟨rfl,rfl⟩,by rw[aaF];exact H,λ_ _ h=>h,λ_=>rfl⟩
 |o::r,ts,cs,K,H=>by
  obtain⟨v,c,h1,H⟩:=H;obtain⟨Wy,cs3,ts',h2,h3,h4,h5⟩:=Cb.sound (l:=r) H;by_cases hc:c=.no
  ·subst hc;refine⟨.no::Wy,cs3,ts',⟨v,.no,Wy,h1,rfl,h2⟩,h3,λa d hd=>?_,λg=>h5 g⟩;have:=qk (a:=a) (b:=[.no]) (c:=Wy++d) Si (by simpa using h4 a d hd)
   simpa using this
  ·rw[BU hc]at h3;refine⟨c::Wy,c::cs3,ts',⟨v,c,Wy,h1,rfl,h2⟩,by simpa using h3,λa d hd=>?_,λg=>by rw[ed,ed,h5]⟩;have:=h4 (a++[c]) d (by simpa using hd)
   simpa using this
theorem Cb.mono{h}:∀{l}{ts}{cs}{K K'},Cb h l ts cs K->(∀ts' cs',K ts' cs'->K' ts' cs')->Cb h l ts cs K'
 |[],ts,cs,K,K',H,hk=>hk _ _ H
 |o::r,ts,cs,K,K',H,hk=>by
  obtain⟨v,c,h1,H⟩:=H;exact⟨v,c,h1,Cb.mono (l:=r) H hk⟩
end Go.Abs
