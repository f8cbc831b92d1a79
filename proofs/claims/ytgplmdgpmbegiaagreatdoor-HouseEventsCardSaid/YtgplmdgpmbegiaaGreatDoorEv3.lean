/- A part of the proof that HouseEvents holds. No condition. -/
import Derived.Test.YtgplmdgpmbegiaaGreatDoorEv2
import Derived.RangeFuncRecord
import Derived.Test.YtgplmdgpmbegiaaGreatDoorEv0
set_option maxHeartbeats 4000000
set_option linter.all false
namespace Go.Abs
def qN(listed:Array Bool):Nat->Nat
 | 0=>0
 |n+1=>qN listed n+(if listed.getD n false then 0 else 1)
def cZ{listed:Array Bool}{i j:Nat}(hi:i<listed.size):(listed.setIfInBounds i true).getD j false=(if j=i then true else listed.getD j false):=by
 by_cases h:j=i
 ·subst h;simp[ZP,aah hi]
 ·rw[Za h];simp[ZP,aaG (aai h)]
theorem Bd{listed:Array Bool}{i:Nat}(hi:i<listed.size):∀n,n<=i->qN (listed.setIfInBounds i true) n=qN listed n
 | 0,_=>rfl
 |n+1,h=>by
  simp only[qN];rw[Bd hi n Om,cZ hi,Za (by omega:¬n=i)]
theorem Bc{listed:Array Bool}{i:Nat}(hi:i<listed.size)(hn:listed.getD i false=false):∀n,i<n->qN (listed.setIfInBounds i true) n+1=qN listed n
 | 0,h=>absurd h Om
 |n+1,h=>by
  simp only[qN];rw[cZ hi];by_cases e:n=i
  ·subst e;rw[Bd hi n (Zc _),Zh rfl,hn];simp
  ·rw[Za e];have:=Bc hi hn n Om;omega
theorem k9{listed}:∀n,qN listed n=0->∀i,i<n->listed.getD i false=true
 | 0,_,i,hi=>absurd hi Om
 |n+1,h,i,hi=>by
  simp only[qN]at h;by_cases e:i=n
  ·subst e;cases hl:listed.getD i false with
   |true=>rfl
   |false=>rw[hl]at h;simp at h
  ·exact k9 n Om i Om
def bZ.dF(m:bZ)(n:Nat):bZ:=λb=>if b<n then m b else none
def bZ.patch(m1 m:bZ)(n:Nat):bZ:=λb=>if b<n then m1 b else m b
mutual
theorem VR.cut{ma m n}(hd:∀b e,ma b=some e->b<n):∀(x:AV) (va v:Value),VR ma x va->VR m x v->VR (m.dF n) x v
 |.bool _,_,_,_,hv=>hv
 |.int _ _,_,_,_,hv=>hv
 |.wS _ _,_,_,_,hv=>hv
 |.wD _ _ _,_,_,_,hv=>hv
 |.str _,_,_,_,hv=>hv
 |.ptr b o,va,v,ha,hv=>by
  exact Kf
 |.nilPtr,_,_,_,hv=>hv
 |.slice b o n' es,va,v,ha,hv=>by
  rw[VR]at ha hv ⊢;obtain⟨e,_,_,he,_⟩:=ha;obtain⟨e',ca,cap,SL,hv⟩:=hv;exact⟨e',ca,cap,by unfold bZ.dF;rw[Zh (hd _ _ he)];exact SL,hv⟩
 |.af,_,_,_,hv=>hv
 |.map r,va,v,ha,hv=>by
  exact Kf
 |.db,_,_,_,hv=>hv
 |.func f a c,va,v,ha,hv=>by
  rw[VR]at ha hv ⊢;obtain⟨f1,a1,c1,_,Va,ha1,hc1⟩:=ha;obtain⟨f2,a2,c2,hv,Uq,ha2,YN⟩:=hv;refine⟨f2,a2,c2,hv,?_,cK.cut hd a _ _ ha1 ha2,cK.cut hd c _ _ hc1 YN⟩;cases f<;>simp only[AN]at Va Uq ⊢<;>try exact Uq
  obtain⟨e,he,_⟩:=Va;obtain⟨e',SL,hg⟩:=Uq;exact⟨e',by unfold bZ.dF;rw[Zh (hd _ _ he)];exact SL,hg⟩
 |.nilFunc,_,_,_,hv=>hv
 |.uM u a,va,v,ha,hv=>by
  rw[VR]at ha hv ⊢;obtain⟨v1,_,h1⟩:=ha;obtain⟨v2,hv,h2⟩:=hv;exact⟨v2,hv,VR.cut hd a _ _ h1 h2⟩
 |.kC,_,_,_,hv=>hv
 |.agg l,va,v,ha,hv=>by
  exact z119
 |.dL l,va,v,ha,hv=>by
  exact z119
theorem cK.cut{ma m n}(hd:∀b e,ma b=some e->b<n):∀(l:List AV) (va vs:List Value),cK ma l va->cK m l vs->cK (m.dF n) l vs
 |[],_,_,_,hv=>hv
 |x::xs,va,vs,ha,hv=>by
  obtain⟨y1,ys1,_,a1,a2⟩:=aR.1 ha;obtain⟨y2,ys2,h,b1,b2⟩:=aR.1 hv;exact aR.2 ⟨y2,ys2,h,VR.cut hd x _ _ a1 b1,cK.cut hd xs _ _ a2 b2⟩
end
def iY(n:Nat)(x:AV):Prop:=∃(ma:bZ) (va:Value),(∀b e,ma b=some e->b<n)/\VR ma x va
def Mg(n:Nat)(l:List AV):Prop:=∃(ma:bZ) (va:List Value),(∀b e,ma b=some e->b<n)/\cK ma l va
def qk(n:Nat):ak->Prop
 |.cells c _ _=>∀(i:Nat) (x:AV),c[i]? =some x->iY n x
 |.bj es=>∀(i:Nat) (p:AV×AV),es[i]? =some p->iY n p.1/\iY n p.2
 |.loop _ _ ts _ _ _=>Mg n ts
 |_=>True
def iY.mono{n k}(hnk:n<=k){x}(h:iY n x):iY k x:=by
 exact JZ
theorem qk.mono{n k}(hnk:n<=k){x}(h:qk n x):qk k x:=by
 cases x with
 |cells c mu tl=>exactλi x hx=>(h i x hx).mono hnk
 |bj es=>exactλi p hp=>⟨(h i p hp).1.mono hnk,(h i p hp).2.mono hnk⟩
 |loop a b c d e f=>
  exact JZ
 |_=>trivial
def BR.iY{P m w e k n}(h:BR P m w e k)(hd:∀b e,m b=some e->b<n):qk n k:=by
 cases k with
 |cells c mu tl=>
  obtain⟨cc,el,fz,_,_,h3,_⟩:=h;intro i x hx;obtain⟨_,v,_,hv⟩:=h3 i x hx;exact⟨m,v,hd,hv⟩
 |bj es=>
  obtain⟨_,TU,clock,_,_,h3⟩:=h;intro i p hp;obtain⟨q,_,h1,h2⟩:=h3 i p hp;exact⟨⟨m,_,hd,h1⟩,⟨m,_,hd,h2⟩⟩
 |loop st ex ts ps asg body=>
  obtain⟨_,fn,tmps,SH,R5,df,_,h2,_⟩:=h;exact⟨m,_,hd,h2⟩
 |_=>trivial
theorem BR.cut{P m w e k n}(h:BR P m w e k)(hc:qk n k):BR P (m.dF n) w e k:=by
 cases k with
 |cells c mu tl=>
  obtain⟨cc,el,fz,h1,h2,h3,h4⟩:=h;exact⟨cc,el,fz,h1,h2,λi x hx=>by
   obtain⟨ho,v,hv,hr⟩:=h3 i x hx;obtain⟨ma,va,hd,ha⟩:=hc i x hx;exact⟨ho,v,hv,VR.cut hd _ _ _ ha hr⟩,h4⟩
 |dead=>trivial
 |bj es=>
  obtain⟨ho,TU,clock,h1,h2,h3⟩:=h;exact⟨ho,TU,clock,h1,h2,λi p hp=>by
   obtain⟨q,hq,ha,hb⟩:=h3 i p hp;obtain⟨⟨ma,va,hd,Xh⟩,⟨mb,vb,Sd,hb'⟩⟩:=hc i p hp;exact⟨q,hq,VR.cut hd _ _ _ Xh ha,VR.cut Sd _ _ _ hb' hb⟩⟩
 |iter s pos=>exact h
 |loop st ex ts ps asg body=>
  obtain⟨ho,fn,tmps,SH,R5,df,h1,h2,h3,h4⟩:=h;obtain⟨ma,va,hd,ha⟩:=hc;exact⟨ho,fn,tmps,SH,R5,df,h1,cK.cut hd _ _ _ ha h2,h3,h4⟩
structure sJ(P:Program)(l:List bK)(T:Nat->TS)(H:Nat->ah)(m0:bZ)(w0:World)(S:Nat->Bool)(β θ:Nat)(m:bZ)(ta:Array Value)(w:World):Prop where
 βθ:β<=θ
 θn:θ<=l.length
 low:∀j,j<β->S j=true
 high:∀j,S j=true->j<θ
 quiet:∀j,β<=j->j<θ->∃g,H (j+1)=H j++g
 len:∀j,j<θ->(H j).length<=(H (j+1)).length
 hr:HR P m (H θ) w
 MP:∀j,j<θ->S j=false->∀b,(H j).length<=b->b<(H (j+1)).length->m b=none
 iY:∀i,β<=i->i<=θ->∀b e k,b<(H i).length->m b=some e->(H θ)[b]? =some k->qk (H i).length k
 apart:∀j,β<=j->j<θ->∀b b' e e',(H j).length<=b->b<(H (j+1)).length->¬((H j).length<=b'/\b'<(H (j+1)).length)->m b=some e->m b' =some e'->e.cb≠e'.cb
 grow:Grow m0 (H 0) w0 m (H θ) w
 size:ta.size=(T 0).length
 yG:∀d,(∀j o,l[j]? =some o->S j=true->o.dst≠some d)->VR m0 ((T 0).getD d ay) (ta.getD d undef)
 yF:∀d j o,l[j]? =some o->S j=true->o.dst=some d->VR (m.dF (H (j+1)).length) ((T (j+1)).getD d ay) (ta.getD d undef)
theorem vM{H:Nat->ah}{θ:Nat}(h:∀j,j<θ->(H j).length<=(H (j+1)).length){i:Nat}:∀k,i+k<=θ->(H i).length<=(H (i+k)).length
 | 0,_=>Zc _
 |k+1,hk=>ZR (vM h k Om) (h (i+k) Om)
def fI{H:Nat->ah}{θ:Nat}(h:∀j,j<θ->(H j).length<=(H (j+1)).length){i j:Nat}(hij:i<=j)(hj:j<=θ):(H i).length<=(H j).length:=by
 have:=vM h (i:=i) (j-i) Om
 rwa [show i+(j-i)=j from by omega]at this
theorem sW{H:Nat->ah}{β θ:Nat}(h:∀j,β<=j->j<θ->∃g,H (j+1)=H j++g){i:Nat}(hi:β<=i):∀k,i+k<=θ->∃g,H (i+k)=H i++g
 | 0,_=>⟨[],Si⟩
 |k+1,hk=>by
  obtain⟨g,hg⟩:=sW h hi k Om;obtain⟨g',R2⟩:=h (i+k) Om Om;exact⟨g++g',by rw[show i+(k+1)=i+k+1 from by omega,R2,hg,YV]⟩
def mY{H:Nat->ah}{β θ:Nat}(h:∀j,β<=j->j<θ->∃g,H (j+1)=H j++g){i j:Nat}(hi:β<=i)(hij:i<=j)(hj:j<=θ):∃g,H j=H i++g:=by
 have:=sW h hi (j-i) Om
 rwa [show i+(j-i)=j from by omega]at this
theorem v7{H:Nat->ah}{i:Nat}:∀(k:Nat) {b:Nat},(H i).length<=b->b<(H (i+k)).length->∃j,i<=j/\j<i+k/\(H j).length<=b/\b<(H (j+1)).length
 | 0,b,h1,h2=>by simp at h2;omega
 |k+1,b,h1,h2=>by
  by_cases h:b<(H (i+k)).length
  ·obtain⟨j,a1,a2,a3⟩:=v7 k h1 h;exact⟨j,a1,Om,a3⟩
  ·exact⟨i+k,Om,Om,Om,by rw[show i+k+1=i+(k+1)from by omega];exact h2⟩
section
variable {P:Program}{m m1:bZ}{h:ah}{w:World}
def bZ.fx(m:bZ)(n:Nat):(m.dF n).le m:=by
 intro b e hb;unfold bZ.dF at hb;split at hb
 ·exact hb
 ·cases hb
def bZ.zy(m:bZ){n k}(hnk:n<=k):(m.dF n).le (m.dF k):=by
 intro b e hb;unfold bZ.dF at hb ⊢;split at hb
 ·rw[Zh Om];exact hb
 ·cases hb
theorem HR.dF{g}(hr:HR P m (h++g) w)(hgl:P.globals.size<=h.length)(hc:∀b e k,b<h.length->m b=some e->h[b]? =some k->qk h.length k):HR P (m.dF h.length) h w where
 cL:=λb e hb=>by unfold bZ.dF at hb;split at hb<;>first|assumption|cases hb
 dR:=λb e k hb hk=>by
  unfold bZ.dF at hb;split at hb
  case isFalse=>cases hb
  rename_i hlt;exact(hr.dR b e k hb (by rw[YY hlt];exact hk)).cut (hc b e k hlt hb hk)
 sep:=λb1 b2 e1 e2 k1 k2 hne h1 h2 hk1 RF hcb=>by
  have d1:b1<h.length:=(YU.1 hk1).1;have d2:b2<h.length:=(YU.1 RF).1;exact hr.sep b1 b2 e1 e2 k1 k2 hne (bZ.fx m _ _ _ h1) (bZ.fx m _ _ _ h2) (by rw[YY d1];exact hk1) (by rw[YY d2];exact RF) hcb
 ga:=λg hg=>by
  obtain⟨e,he,hx⟩:=hr.ga g hg;exact⟨e,by unfold bZ.dF;rw[Zh Om];exact he,hx⟩
 lt:=λb e hb=>hr.lt b e (bZ.fx m _ _ _ hb)
def HR.Gd(hr:HR P m h w):P.globals.size<=h.length:=by
 by_cases hz:P.globals.size=0
 ·omega
 ·obtain⟨e,he,_⟩:=hr.ga (P.globals.size-1) Om;have:=hr.cL _ _ he;omega
variable {l:List bK}{T:Nat->TS}{H:Nat->ah}{m0:bZ}{w0:World}{S:Nat->Bool}{β θ:Nat}{ta:Array Value}
def sJ.raise(M:sJ P l T H m0 w0 S β θ m ta w){θ':Nat}(h1:θ<=θ')(h2:θ'<=l.length)(hq:∀j,θ<=j->j<θ'->∃g,H (j+1)=H j++g):sJ P l T H m0 w0 S β θ' m ta w:=by
 have XB:∀j,β<=j->j<θ'->∃g,H (j+1)=H j++g:=λj hj Xb=>by
  by_cases hx:j<θ
  ·exact M.quiet j hj hx
  ·exact hq j Om Xb
 have hlen:∀j,j<θ'->(H j).length<=(H (j+1)).length:=λj hj=>by
  by_cases hx:j<θ
  ·exact M.len j hx
  ·obtain⟨g,hg⟩:=hq j Om hj;rw[hg];simp
 obtain⟨g,hg⟩:=mY XB M.βθ h1 (Zc _);have RM:∀b,b<(H θ).length->(H θ')[b]? =(H θ)[b]? :=λb hb=>by rw[hg,YY hb]
 have hdom:∀b e,m b=some e->b<(H θ).length:=M.hr.cL;refine⟨ZR M.βθ h1,h2,M.low,λj hj=>ZW (M.high j hj) h1,XB,hlen,⟨?_,?_,?_,M.hr.ga,M.hr.lt⟩,?_,?_,?_,⟨M.grow.ext,fI hlen (ZA _) (Zc _),?_,?_,M.grow.size,M.grow.os,M.grow.out,M.grow.tape,M.grow.frame⟩,M.size,M.yG,M.yF⟩
 ·intro b e hb;have:=hdom b e hb;rw[hg];simp;omega
 ·intro b e k hb hk;exact M.hr.dR b e k hb (by rwa [RM b (hdom b e hb)]at hk)
 ·intro b1 b2 e1 e2 k1 k2 hne a1 a2 hk1 RF hcb;exact M.hr.sep b1 b2 e1 e2 k1 k2 hne a1 a2 (by rwa [RM b1 (hdom _ _ a1)]at hk1) (by rwa [RM b2 (hdom _ _ a2)]at RF) hcb
 ·intro j hj hs b hb hb';by_cases hx:j<θ
  ·exact M.MP j hx hs b hb hb'
  ·cases SP:m b with
   |none=>rfl
   |some e=>
    exact JW
 ·intro i hi hi' b e k hb SP hk;rw[RM b (hdom b e SP)]at hk;by_cases hx:i<=θ
  ·exact M.iY i hi hx b e k hb SP hk
  ·have a2:=fI hlen (i:=θ) (j:=i) Om Om;exact(M.iY θ M.βθ (Zc _) b e k (hdom b e SP) SP hk).mono a2
 ·intro j hj Xb b b' e e' hb Sb hb' SP VD;by_cases hx:j<θ
  ·exact M.apart j hj hx b b' e e' hb Sb hb' SP VD
  ·exact JW
 ·intro b e hb SP;obtain⟨ho,hc⟩:=M.grow.new b e hb SP;refine⟨ho,hc.imp id ?_⟩;rintro⟨b0,e0,c1,c2,c3,c4,c5⟩;refine⟨b0,e0,c1,c2,c3,c4,?_⟩;have d0:b0<(H θ).length:=by
   cases hx:m0 b0 with
   |none=>rw[hx]at c1;cases c1
   |some e0'=>
    have:b0<(H 0).length:=by
     cases ht:(H 0)[b0]? with
     |none=>unfold eM at c4;rw[ht]at c4;cases c4
     |some k=>exact(YU.1 ht).1
    exact ZW this (fI hlen (ZA _) h1)
  unfold eM at c5 ⊢;rw[RM b0 d0];exact c5
 ·intro b hb ht;refine M.grow.tl b hb ?_;unfold eM at ht ⊢
  rwa [RM b (ZW hb (fI hlen (ZA _) h1))]at ht
end
def gM(ta:Array Value)(d:Option Nat)(cv:Value):Array Value:=
 match d with
 |some d=>ta.setIfInBounds d cv
 |none=>ta
def fk(ta:Array Value)(d:Option Nat)(cv:Value):(gM ta d cv).size=ta.size:=by cases d<;>simp[gM]
def dD{ta d cv t}(h:d≠some t):(gM ta d cv).getD t undef=ta.getD t undef:=by
 cases d with
 |none=>rfl
 |some d=>
  have hne:d≠t:=λx=>h (by rw[x])
  simp[gM,ZP,aaG hne]
def xU{ts d v t}(h:d≠some t):(put ts d v).getD t ay=ts.getD t ay:=by
 cases d with
 |none=>rfl
 |some d=>
  have hne:d≠t:=λx=>h (by rw[x])
  simp[put,List.getD,Zf hne]
def lA{m ts ta d v cv}(hs:ta.size=ts.length)(hv:VR m v cv):VR m ((put ts (some d) v).getD d ay) ((gM ta (some d) cv).getD d undef):=by
 by_cases h:d<ts.length
 ·have h':d<ta.size:=Om
  simp only[put,gM,List.getD,ZP];rw[Zg h,aah h'];exact hv
 ·have h':¬d<ta.size:=Om
  simp only[put,gM,List.getD,ZP];rw[aaW (by simp;omega),aas (by simp;omega)];exact jT m
def mark(S:Nat->Bool)(i:Nat):Nat->Bool:=λj=>if j=i then true else S j
section
variable {P:Program}{l:List bK}{T:Nat->TS}{H:Nat->ah}{m0 m m1:bZ}{w0 w w1:World}{S:Nat->Bool}{β θ i:Nat}{ta:Array Value}
def sJ.cut(M:sJ P l T H m0 w0 S β θ m ta w)(hG:P.globals.size<=(H 0).length)(hi:β<=i)(hi':i<=θ):HR P (m.dF (H i).length) (H i) w:=by
 obtain⟨g,hg⟩:=mY M.quiet hi hi' (Zc _);have hr:HR P m (H i++g) w:=by rw[<-hg];exact M.hr
 refine hr.dF (ZR hG (fI M.len (ZA _) hi')) ?_;intro b e k hb SP hk;exact M.iY i hi hi' b e k hb SP (by rw[hg,YY hb];exact hk)
def sJ.F5(M:sJ P l T H m0 w0 S β θ m ta w)(hG:P.globals.size<=(H 0).length)(hi:β<=i)(hi':i<θ)(hS:S i=false){io}(hio:l[i]? =some io)
  (hr1:HR P m1 (H (i+1)) w1) (gext:∀b,b<(H i).length->m1 b=(m.dF (H i).length) b) (hnew0:∀b e,(H i).length<=b->m1 b=some e->e.own=true/\w0.heap.size<=e.cb/\∀b' e',m b' =some e'->e'.cb≠e.cb)
  (hfr:∀x,x<w.heap.size->(∀b e,(m.dF (H i).length) b=some e->e.own=true->e.cb≠x)->(∀b e,(H i).length<=b->m1 b=some e->e.cb≠x)->w1.heap[x]? =w.heap[x]?)
  (eJ:w.heap.size<=w1.heap.size) (hos:w1.os=w.os) (hout:w1.output=w.output) (htape:w1.tape=w.tape) {v}{cv}(hv:VR m1 v cv) (hTi:T (i+1)=put (T i) io.dst v) (hTl:(T i).length=(T 0).length)
  (huniq:∀j o d,j≠i->l[j]? =some o->o.dst=some d->io.dst≠some d):sJ P l T H m0 w0 (mark S i) β θ (m1.patch m (H (i+1)).length) (gM ta io.dst cv) w1:=by
 have Tm:∀a b,a<=b->b<=θ->(H a).length<=(H b).length:=λa b hab hb=>fI M.len hab hb
 have hi1:=M.len i hi';have hi2:=Tm (i+1) θ Om (Zc _);have h0i:=Tm 0 i Om Om;obtain⟨gi,hgi⟩:=M.quiet i hi hi';obtain⟨gt,UU⟩:=mY M.quiet (show β<=i+1 by omega) (show i+1<=θ by omega) (Zc _);have f3:∀b,b<(H (i+1)).length->(m1.patch m (H (i+1)).length) b=m1 b:=λb hb=>by unfold bZ.patch;rw[Zh hb]
 have f1:∀b,b<(H i).length->(m1.patch m (H (i+1)).length) b=m b:=λb hb=>by
  rw[f3 b Om,gext b hb];unfold bZ.dF;rw[Zh hb]
 have f2:∀b,(H (i+1)).length<=b->(m1.patch m (H (i+1)).length) b=m b:=λb hb=>by unfold bZ.patch;rw[Za Om]
 have fgap:∀b,(H i).length<=b->b<(H (i+1)).length->m b=none:=M.MP i hi' hS;have Uh:m.le (m1.patch m (H (i+1)).length):=λb e hb=>by
  by_cases h1:b<(H i).length
  ·rw[f1 b h1];exact hb
  ·by_cases h2:b<(H (i+1)).length
   ·rw[fgap b Om h2]at hb;cases hb
   ·rw[f2 b Om];exact hb
 have m1le:m1.le (m1.patch m (H (i+1)).length):=λb e hb=>by rw[f3 b (hr1.cL b e hb)];exact hb
 have hnew:∀b e,(H i).length<=b->b<(H (i+1)).length->(m1.patch m (H (i+1)).length) b=some e->e.own=true/\w0.heap.size<=e.cb/\∀b' e',m b' =some e'->e'.cb≠e.cb:=λb e hb hb' hm=>by
  rw[f3 b hb']at hm;exact hnew0 b e hb hm
 have hold:∀b e,m b=some e->e.cb<w.heap.size:=M.hr.lt;have hframe:∀b e,(H (i+1)).length<=b->m b=some e->w1.heap[e.cb]? =w.heap[e.cb]? :=λb e hb hm=>by
  refine hfr e.cb (hold b e hm) ?_ (λb0 e0 h0 h1 hcb=>(hnew0 b0 e0 h0 h1).2.2 b e hm hcb.symm);intro b0 e0 h0 ho hcb;have d0:b0<(H i).length:=by
   unfold bZ.dF at h0;split at h0
   ·assumption
   ·cases h0
  obtain⟨j,j1,j2,j3,j4⟩:=v7 (H:=H) (i:=i+1) (θ-(i+1)) hb (by rw[show i+1+(θ-(i+1))=θ from by omega];exact M.hr.cL b e hm);have hj:=Tm i j Om Om;exact M.apart j Om Om b b0 e e0 j3 j4 (λx=>by omega) hm (bZ.fx m _ _ _ h0) hcb.symm
 have RM:∀b,b<(H (i+1)).length->(H θ)[b]? =(H (i+1))[b]? :=λb hb=>by rw[UU,YY hb]
 have RQ:∀b e,(m1.patch m (H (i+1)).length) b=some e->((H i).length<=b/\b<(H (i+1)).length/\m1 b=some e)\/(¬((H i).length<=b/\b<(H (i+1)).length)/\m b=some e):=λb e hb=>by
  by_cases h1:b<(H i).length
  ·rw[f1 b h1]at hb;exact .inr ⟨Om,hb⟩
  ·by_cases h2:b<(H (i+1)).length
   ·rw[f3 b h2]at hb;exact .inl ⟨Om,h2,hb⟩
   ·rw[f2 b Om]at hb;exact .inr ⟨Om,hb⟩
 have hHR:HR P (m1.patch m (H (i+1)).length) (H θ) w1:=by
  refine⟨?_,?_,?_,?_,?_⟩
  ·intro b e hb;rcases RQ b e hb with⟨_,h2,_⟩|⟨_,h2⟩
   ·omega
   ·exact M.hr.cL b e h2
  ·intro b e k hb hk;by_cases h2:b<(H (i+1)).length
   ·rw[f3 b h2]at hb;exact(hr1.dR b e k hb (by rwa [RM b h2]at hk)).mono m1le
   ·rw[f2 b Om]at hb;exact((M.hr.dR b e k hb hk).mono Uh).heap (hframe b e Om hb)
  ·intro b1 b2 e1 e2 k1 k2 hne Sb Sl hk1 RF hcb;rcases RQ b1 e1 Sb with⟨a1,a2,a3⟩|⟨a1,a2⟩
   ·rcases RQ b2 e2 Sl with⟨c1,c2,c3⟩|⟨c1,c2⟩
    ·exact hr1.sep b1 b2 e1 e2 k1 k2 hne a3 c3 (by rwa [RM b1 a2]at hk1) (by rwa [RM b2 c2]at RF) hcb
    ·exact absurd hcb.symm ((hnew b1 e1 a1 a2 Sb).2.2 b2 e2 c2)
   ·rcases RQ b2 e2 Sl with⟨c1,c2,c3⟩|⟨c1,c2⟩
    ·exact absurd hcb ((hnew b2 e2 c1 c2 Sl).2.2 b1 e1 a2)
    ·exact M.hr.sep b1 b2 e1 e2 k1 k2 hne a2 c2 hk1 RF hcb
  ·intro g hg;obtain⟨e,he,hx⟩:=M.hr.ga g hg;exact⟨e,Uh _ _ he,hx⟩
  ·intro b e hb;rcases RQ b e hb with⟨_,_,h3⟩|⟨_,h2⟩
   ·exact hr1.lt b e h3
   ·exact ZW (hold b e h2) eJ
 refine⟨M.βθ,M.θn,?_,?_,M.quiet,M.len,hHR,?_,?_,?_,?_,by rw[fk];exact M.size,?_,?_⟩
 ·intro j hj;unfold mark;split
  ·rfl
  ·exact M.low j hj
 ·intro j hj;unfold mark at hj;split at hj
  ·omega
  ·exact M.high j hj
 ·intro j hj hs b hb hb';unfold mark at hs;split at hs
  ·cases hs
  rename_i hji;by_cases h1:b<(H i).length
  ·rw[f1 b h1];exact M.MP j hj hs b hb hb'
  ·by_cases h2:b<(H (i+1)).length
   ·exact J4
   ·rw[f2 b Om];exact M.MP j hj hs b hb hb'
 ·intro i2 hi2' XH b e k hb SP hk;rcases RQ b e SP with⟨a1,a2,a3⟩|⟨_,a2⟩
  ·have hk':(H (i+1))[b]? =some k:=by rwa [RM b a2]at hk
   refine((hr1.dR b e k a3 hk').iY hr1.cL).mono ?_;by_cases hlt:i2<i+1
   ·have:=Tm i2 i Om Om;omega
   ·exact Tm (i+1) i2 Om XH
  ·exact M.iY i2 hi2' XH b e k hb a2 hk
 ·intro j hj Xb b b' e e' hb Sb hb' SP VD;rcases RQ b e SP with⟨a1,a2,a3⟩|⟨a1,a2⟩
  ·rcases RQ b' e' VD with⟨c1,c2,c3⟩|⟨c1,c2⟩
   ·exfalso;by_cases hji:j=i
    ·subst hji;exact hb' ⟨c1,c2⟩
    ·exact J4
   ·exactλhcb=>(hnew b e a1 a2 SP).2.2 b' e' c2 hcb.symm
  ·rcases RQ b' e' VD with⟨c1,c2,c3⟩|⟨c1,c2⟩
   ·exact(hnew b' e' c1 c2 VD).2.2 b e a2
   ·exact M.apart j hj Xb b b' e e' hb Sb hb' a2 c2
 ·refine⟨λb hb=>(f1 b Om).trans (M.grow.ext b hb),M.grow.len,?_,M.grow.tl,ZR M.grow.size eJ,hos.trans M.grow.os,hout.trans M.grow.out,htape.trans M.grow.tape,?_⟩
  ·intro b e hb SP;rcases RQ b e SP with⟨a1,a2,_⟩|⟨_,a2⟩
   ·obtain⟨ho,hc⟩:=hnew b e a1 a2 SP;exact⟨ho,.inl hc.1⟩
   ·exact M.grow.new b e hb a2
  ·intro x hx hno;refine(hfr x (ZW hx M.grow.size) ?_ (λb e hb hm hcb=>by have:=(hnew0 b e hb hm).2.1;omega)).trans (M.grow.frame x hx hno);intro b e hb ho hcb;have SP:=bZ.fx m _ _ _ hb;by_cases h1:b<(H 0).length
   ·exact hno b e (by rw[<-M.grow.ext b h1];exact SP) ho hcb
   ·obtain⟨_,hc⟩:=M.grow.new b e Om SP;rcases hc with hc|⟨b0,e0,c1,c2,c3,_⟩
    ·omega
    ·exact hno b0 e0 c1 c3 (c2.trans hcb)
 ·intro d hd;exact Qb
 ·intro d j o hj hs ho;by_cases hji:j=i
  ·subst hji;rw[hio]at hj;cases hj;rw[hTi,ho];have h1:m1.le ((m1.patch m (H (j+1)).length).dF (H (j+1)).length):=λb e hb=>by
    have:=hr1.cL b e hb;unfold bZ.dF;rw[Zh this,f3 b this];exact hb
   exact z201
  ·exact Qs
def sJ.next(M:sJ P l T H m0 w0 S β θ m ta w)(hG:P.globals.size<=(H 0).length)(hi:β<=i)(hi':i<θ)(hS:S i=false){io}(hio:l[i]? =some io)
  (hr1:HR P m1 (H (i+1)) w1) (g1:Grow (m.dF (H i).length) (H i) w m1 (H (i+1)) w1) {v}{cv}(hv:VR m1 v cv) (hTi:T (i+1)=put (T i) io.dst v) (hTl:(T i).length=(T 0).length)
  (huniq:∀j o d,j≠i->l[j]? =some o->o.dst=some d->io.dst≠some d):sJ P l T H m0 w0 (mark S i) β θ (m1.patch m (H (i+1)).length) (gM ta io.dst cv) w1:=by
 obtain⟨gi,hgi⟩:=M.quiet i hi hi';refine M.F5 hG hi hi' hS hio hr1 g1.ext (λb e hb hm=>?_) (λx hx h1 _=>g1.frame x hx h1) g1.size g1.os g1.out g1.tape hv hTi hTl huniq;obtain⟨ho,hc⟩:=g1.new b e hb hm;have Te:w.heap.size<=e.cb:=by
  rcases hc with hc|⟨b0,e0,c1,_,_,c4,c5⟩
  ·exact hc
  ·have d0:b0<(H i).length:=by
    unfold bZ.dF at c1;split at c1
    ·assumption
    ·cases c1
   unfold eM at c4 c5;rw[hgi,YY d0]at c5;rw[c5]at c4;cases c4
 exact⟨ho,ZR M.grow.size Te,λb' e' hb'=>by have:=M.hr.lt b' e' hb';omega⟩
def sJ.jump(M:sJ P l T H m0 w0 S β i m ta w)(hd0:∀b e,m0 b=some e->b<(H 0).length)(hall:∀j,j<i->S j=true)(hil:i<l.length){io}(hio:l[i]? =some io)
  (hr1:HR P m1 (H (i+1)) w1) (g1:Grow (m.dF (H i).length) (H i) w m1 (H (i+1)) w1) {v}{cv}(hv:VR m1 v cv) (hTi:T (i+1)=put (T i) io.dst v) (hTl:(T i).length=(T 0).length)
  (huniq:∀j o d,j≠i->l[j]? =some o->o.dst=some d->io.dst≠some d):sJ P l T H m0 w0 (mark S i) (i+1) (i+1) m1 (gM ta io.dst cv) w1:=by
 have hm:m.dF (H i).length=m:=by
  funext b;unfold bZ.dF;split
  ·rfl
  ·cases hb:m b with
   |none=>rfl
   |some e=>exact absurd (M.hr.cL b e hb) (by assumption)
 rw[hm]at g1;have Uh:m.le m1:=g1.le M.hr.cL;refine⟨Zc _,hil,?_,?_,λj hj Xb=>absurd hj Om,?_,hr1,?_,?_,λj hj Xb=>absurd hj Om,M.grow.trans g1 hd0,by rw[fk];exact M.size,?_,?_⟩
 ·intro j hj;unfold mark;split
  ·rfl
  ·exact hall j Om
 ·intro j hj;unfold mark at hj;split at hj
  ·omega
  ·have:=M.high j hj;omega
 ·intro j hj;by_cases hji:j=i
  ·subst hji;exact g1.len
  ·exact M.len j Om
 ·intro j hj hs;unfold mark at hs;split at hs
  ·cases hs
  ·rw[hall j Om]at hs;cases hs
 ·intro i2 hi2 hi2' b e k hb SP hk;have:i2=i+1:=Om
  subst this;exact(hr1.dR b e k SP hk).iY hr1.cL
 ·intro d hd;exact Qb
 ·intro d j o hj hs ho;by_cases hji:j=i
  ·subst hji;rw[hio]at hj;cases hj;rw[hTi,ho];have h1:m1.le (m1.dF (H (j+1)).length):=λb e hb=>by
    have:=hr1.cL b e hb;unfold bZ.dF;rw[Zh this];exact hb
   exact z201
  ·exact Qs
end
section
variable {P:Program}{m m':bZ}{h g h':ah}{w w' w0:World}
theorem qV:∀(l c pre:List AV),c.length=l.length->fM (pre++c) pre.length l=pre++l
 |[],c,pre,h=>by
  exact z206
 |x::l,[],pre,h=>by simp at h
 |x::l,y::c,pre,h=>by
  have e1:(pre++y::c).set pre.length x=(pre++[x])++c:=by
   exact z154
  have e2:pre.length+1=(pre++[x]).length:=Si
  show fM ((pre++y::c).set pre.length x) (pre.length+1) l=_;rw[e1,e2,qV l c (pre++[x]) (by simpa using h),YV];rfl
def Grow.forget(gr:Grow m h w m' (h++g) w'):Grow m h w (m'.dF h.length) h w' where
 ext:=λb hb=>by unfold bZ.dF;rw[Zh hb];exact gr.ext b hb
 len:=Zc _
 new:=λb e hb he=>by unfold bZ.dF at he;rw[Za Om]at he;cases he
 tl:=λb hb ht=>ht
 size:=gr.size
 os:=gr.os
 out:=gr.out
 tape:=gr.tape
 frame:=gr.frame
def HR.forget(hr:HR P m h w)(hr':HR P m' (h++g) w')(gr:Grow m h w m' (h++g) w'):HR P (m'.dF h.length) h w':=
 hr'.dF hr.Gd λb e k hb SP hk=>(hr.dR b e k (by rw[<-gr.ext b hb];exact SP) hk).iY hr.cL
def HR.Mt(hr:HR P m h w){cb cc}{el:TypeId}{fz}(hb:w.heap[cb]? =some (.cells cc el fz))(hfz:∀i,i<cc.size->¬(fz.1<=i/\i<fz.2))(hout:∀b e,m b=some e->e.cb≠cb)
  {c}{d}(hc:d+c.length=cc.size) (hv:∀(i:Nat) (x:AV),c[i]? =some x->x.one=true/\∃v,cc[d+i]? =some v/\VR m x v):HR P (m.add h.length ⟨cb,d,cc.size,true⟩) (h++[.cells c true false]) w:=by
 have SO:m h.length=none:=by
  exact MI
 have hle:m.le (m.add h.length ⟨cb,d,cc.size,true⟩):=bZ.rQ _ SO;have RQ:∀b e,(m.add h.length ⟨cb,d,cc.size,true⟩) b=some e->(b=h.length/\e=⟨cb,d,cc.size,true⟩)\/(b<h.length/\m b=some e):=λb e Tf=>by
  exact Qg
 refine⟨λb e Tf=>?_,λb e k Tf hk=>?_,λb1 b2 e1 e2 k1 k2 hne h1 h2 hk1 RF hcb=>?_,λg hg=>?_,λb e Tf=>?_⟩
 ·rw[YT];rcases RQ b e Tf with⟨rfl,_⟩|⟨hlt,_⟩
  ·simp
  ·simp;omega
 ·rcases RQ b e Tf with⟨rfl,rfl⟩|⟨hlt,hm⟩
  ·rw[Zd (Zc _),Z6]at hk;cases hk;refine⟨cc,el,fz,hb,⟨by show d+_<=_;omega,by show d+_<=cc.size;omega,rfl⟩,λi x hx=>?_,λ_=>⟨rfl,hfz⟩,λ_=>⟨rfl,λ_=>by show cc.size=d+c.length;omega⟩⟩;obtain⟨ho,v,h1,h2⟩:=hv i x hx;exact⟨ho,v,h1,VR.mono hle _ _ h2⟩
  ·rw[YY hlt]at hk;exact(hr.dR b e k hm hk).mono hle
 ·exact Qw
 ·obtain⟨e,he,hx⟩:=hr.ga g hg;exact⟨e,hle _ _ he,hx⟩
 ·rcases RQ b e Tf with⟨_,rfl⟩|⟨_,hm⟩
  ·exact(Zl.1 hb).1
  ·exact hr.lt b e hm
def CC{x}(h:yi x=true):x.one=true:=by cases x<;>first|rfl|cases h
def EE{x v}(h:yi x=true)(hv:VR m x v)(m':bZ):VR m' x v:=by
 cases x<;>first|exact hv|cases h
def kP(m:bZ)(w0 w:World)(zc:List AV)(cv:Value):Prop:=
 ∃(cb d:Nat) (cc:Array Value) (el:TypeId) (fz:Nat×Nat),cv=.pointer (some ⟨cb,d,none⟩)/\w.heap[cb]? =some (.cells cc el fz)/\d+zc.length=cc.size/\(∀i,i<cc.size->¬(fz.1<=i/\i<fz.2))/\
  (∀(i:Nat) (x:AV),zc[i]? =some x->x.one=true/\∃v,cc[d+i]? =some v/\∀m:bZ,VR m x v)/\w0.heap.size<=cb/\∀b e,m b=some e->e.cb≠cb
def kP.move{zc cv}(p:kP m w0 w zc cv)(hh:∀cb d,cv=.pointer (some ⟨cb,d,none⟩)->cb<w.heap.size->(∀b e,m b=some e->e.cb≠cb)->w'.heap[cb]? =w.heap[cb]?)
  (hm:∀cb d,cv=.pointer (some ⟨cb,d,none⟩)->cb<w.heap.size->(∀b e,m b=some e->e.cb≠cb)->∀b e,m' b=some e->e.cb≠cb):kP m' w0 w' zc cv:=by
 obtain⟨cb,d,cc,el,fz,h1,h2,h3,h4,h5,h6,h7⟩:=p;have hlt:cb<w.heap.size:=(Zl.1 h2).1;exact⟨cb,d,cc,el,fz,h1,by rw[hh cb d h1 hlt h7];exact h2,h3,h4,h5,h6,hm cb d h1 hlt h7⟩
def kP.grow{zc cv}(p:kP m w0 w zc cv)(gr:Grow (m.dF h.length) h w m' h' w'):kP m' w0 w' zc cv/\kP (m'.patch m h'.length) w0 w' zc cv:=by
 have hh:∀cb d,cv=.pointer (some ⟨cb,d,none⟩)->cb<w.heap.size->(∀b e,m b=some e->e.cb≠cb)->w'.heap[cb]? =w.heap[cb]? :=λcb d _ hlt h7=>gr.frame cb hlt λb e he _=>h7 b e (bZ.fx _ _ _ _ he)
 have hnew:∀cb,cb<w.heap.size->(∀b e,m b=some e->e.cb≠cb)->∀b e,m' b=some e->e.cb≠cb:=λcb hlt h7 b e he=>by
  by_cases hb:b<h.length
  ·rw[gr.ext b hb]at he;exact h7 b e (bZ.fx _ _ _ _ he)
  ·obtain⟨_,hc⟩:=gr.new b e Om he;rcases hc with hc|⟨b0,e0,c1,c2,_⟩
   ·omega
   ·rw[<-c2];exact h7 b0 e0 (bZ.fx _ _ _ _ c1)
 refine⟨p.move hh λcb d _ hlt h7=>hnew cb hlt h7,p.move hh λcb d _ hlt h7 b e he=>?_⟩;unfold bZ.patch at he;split at he
 ·exact hnew cb hlt h7 b e he
 ·exact h7 b e he
end
structure cD(ops:Array Oper)(l:List bK)(k s t:Nat)(z:AV)(n:Nat)(x:cV):Prop where
 ks:k<s
 hk:l[k]? =some {dst:=some t,k:=.box (.c z),gd:=none,q:=true}
 hs:l[s]? =some {dst:=none,k:=.store n (.t t) x,gd:=none,q:=true}
 zn:z.cells.length=n
 zc:z.cells.all yi=true
 xt:∀u,x=.t u->u≠t/\fG ops s u=true
 lt:fG ops s t=true
 only:∀j,j<ops.size->j≠s->fG ops j t=false
def nH{o n t x}(h:lP o=some (n,t,x)):o={dst:=none,k:=.store n (.t t) x,gd:=none,q:=true}:=by
 obtain⟨d,k,gd,q⟩:=o;unfold lP at h;exact z117
def ym{o t z}(h:tF o=some (t,z)):o={dst:=some t,k:=.box (.c z),gd:=none,q:=true}:=by
 obtain⟨d,k,gd,q⟩:=o;unfold tF at h;exact z117
def pU{ops l k s}(hks:k<s)(h:pt ops l k s=true):∃t z n x,cD ops l k s t z n x:=by
 unfold pt at h;split at h
 case h_2=>cases h
 rename_i t z n t' x h1 h2;obtain⟨a,ha,hb⟩:=Z5.1 h1;obtain⟨b,Sb,Sl⟩:=Z5.1 h2;have e1:=ym hb;have e2:=nH Sl;subst e1;subst e2;simp only[ZE,beq_iff_eq,ZC,aad,aaL,aan]at h;obtain⟨⟨⟨⟨⟨rfl,q2⟩,q3⟩,q4⟩,q5⟩,q6⟩:=h;refine⟨t,z,n,x,hks,ha,Sb,q2,ZC.2 q3,λu hu=>?_,q5,λj hj hne=>(q6 j hj).resolve_left hne⟩;subst hu;simp only[ZE,bne_iff_ne,ne_eq]at q4;exact q4
def cD.ok{ops l k s t z n x}(p:cD ops l k s t z n x):pt ops l k s=true:=by
 unfold pt;rw[p.hk,p.hs];simp only[Option.bind_some,tF,lP,ZE,beq_iff_eq,ZC,aad,aaL,aan];refine⟨⟨⟨⟨⟨trivial,p.zn⟩,ZC.1 p.zc⟩,?_⟩,p.lt⟩,λj hj=>?_⟩
 ·cases x with
  |t u=>simp only[ZE,bne_iff_ne,ne_eq];exact p.xt u rfl
  |_=>rfl
 ·by_cases hne:j=s
  ·exact .inl hne
  ·exact .inr (p.only j hj hne)
def Hw:bK:={dst:=none,k:=.cg (.c (.bool false)),gd:=none,q:=true}
theorem wh{ops l}:∀{r}{i j},(qb ops l i r)[j]? =(r[j]?).map (tw ops l (i+j))
 |[],i,j=>by simp[qb]
 |o::r,i,0=>by simp[qb]
 |o::r,i,j+1=>by
  show(qb ops l (i+1) r)[j]? =_;rw[wh,show i+1+j=i+(j+1) by omega];simp
theorem wg{ops l}:∀{r}{i},(qb ops l i r).length=r.length
 |[],_=>rfl
 |o::r,i=>by simp[qb,wg]
def x6{ops l}(hl:l.length=ops.size){j o}(ho:l[j]? =some o):
  (∃k t z n x,cD ops l k j t z n x/\tw ops l j o={dst:=some t,k:=.lK n x,gd:=none,q:=true})\/
  (∃s t z n x,cD ops l j s t z n x/\tw ops l j o=Hw)\/
  (tw ops l j o=o/\(∀k t z n x,¬cD ops l k j t z n x)/\(∀s t z n x,¬cD ops l j s t z n x)):=by
 unfold tw;split
 ·rename_i n t x bV;have e1:=nH bV;have RT:∀s t z n x,¬cD ops l j s t z n x:=λs t' z n' x' p=>by
   have:=p.hk;rw[ho,e1]at this;cases this
  split
  ·rename_i k hk;unfold OO at hk;have h1:=abu hk;have h2:=aad.1 (List.mem_of_find?_eq_some hk);obtain⟨t',z,n',x',p⟩:=pU h2 h1;have:=p.hs;rw[ho,e1]at this;cases this;exact .inl ⟨k,_,z,_,_,p,rfl⟩
  ·rename_i hk;refine .inr (.inr ⟨rfl,λk t' z n' x' p=>?_,RT⟩);unfold OO at hk;exact List.find?_eq_none.1 hk k (aad.2 p.ks) p.ok
 ·rename_i bV;have hns:∀k t z n x,¬cD ops l k j t z n x:=λk t' z n' x' p=>by
   have:=p.hs;rw[ho]at this;cases this;simp[lP]at bV
  split
  ·rename_i y Rz;split
   ·rename_i s hs;unfold ND at hs;have h1:=abu hs;simp only[ZE,ZO]at h1;obtain⟨t',z,n',x',p⟩:=pU h1.1 h1.2;exact .inr (.inl ⟨s,t',z,n',x',p,rfl⟩)
   ·rename_i hs;refine .inr (.inr ⟨rfl,hns,λs t' z n' x' p=>?_⟩);unfold ND at hs;refine List.find?_eq_none.1 hs s (aad.2 ((YU.1 p.hs).1)) ?_;simp only[ZE,ZO];exact⟨p.ks,p.ok⟩
  ·rename_i Rz;refine .inr (.inr ⟨rfl,hns,λs t' z n' x' p=>?_⟩);have:=p.hk;rw[ho]at this;cases this;simp[tF]at Rz
def pJ(v v':Value):Prop:=∀cb d V6 d',v=.pointer (some ⟨cb,d,none⟩)->v' =.pointer (some ⟨V6,d',none⟩)->cb≠V6
theorem pJ.symm{v v'}(h:pJ v v'):pJ v' v:=λcb d V6 d' h1 h2 e=>h V6 d' cb d h2 h1 e.symm
structure pN(ops:Array Oper)(l:List bK)(w0:World)(S:Nat->Bool)(ta tmps:Array Value)(m:bZ)(w:World):Prop where
 size:tmps.size=ta.size
 ag:∀d,(∀k s z n x,cD ops l k s d z n x->S k=true->S s=false->False)->tmps.getD d undef=ta.getD d undef
 pd:∀k s t z n x,cD ops l k s t z n x->S k=true->S s=false->kP m w0 w z.cells (tmps.getD t undef)
 dj:∀k s t z n x k' s' t' z' n' x',cD ops l k s t z n x->cD ops l k' s' t' z' n' x'->S k=true->S s=false->S k' =true->S s' =false->t≠t'->pJ (tmps.getD t undef) (tmps.getD t' undef)
section
variable {ops:Array Oper}{l:List bK}{w0 w w':World}{S:Nat->Bool}{ta tmps:Array Value}{m m':bZ}
def jf{ta d cv}(h:d<ta.size):(gM ta (some d) cv).getD d undef=cv:=by
 simp only[gM,ZP];rw[aah h];rfl
def xV{d cv t}(hs:tmps.size=ta.size)(h:tmps.getD t undef=ta.getD t undef):(gM tmps d cv).getD t undef=(gM ta d cv).getD t undef:=by
 by_cases hd:d=some t
 ·subst hd;by_cases ht:t<ta.size
  ·rw[jf ht,jf Om]
  ·simp only[gM,ZP];rw[aas (by simp;omega),aas (by simp;omega)]
 ·rw[dD hd,dD hd];exact h
def pN.other(I:pN ops l w0 S ta tmps m w){i d cv}(h1:∀k t z n x,¬cD ops l k i t z n x)(h2:∀s t z n x,¬cD ops l i s t z n x)(hd:∀k s t z n x,cD ops l k s t z n x->d≠some t)
  (hp:∀zc cv,kP m w0 w zc cv->kP m' w0 w' zc cv):pN ops l w0 (mark S i) (gM ta d cv) (gM tmps d cv) m' w' where
 size:=by rw[fk,fk];exact I.size
 ag:=λt ht=>xV I.size (I.ag t λk s z n x p hk hs=>ht k s z n x p (by unfold mark;split<;>first|rfl|exact hk) (by
  unfold mark;split
  ·rename_i e;subst e;exact absurd p (h1 _ _ _ _ _)
  ·exact hs))
 pd:=λk s t z n x p hk hs=>by
  have hki:k≠i:=λe=>h2 _ _ _ _ _ (e▸p)
  have hsi:s≠i:=λe=>h1 _ _ _ _ _ (e▸p)
  unfold mark at hk hs;rw[Za hki]at hk;rw[Za hsi]at hs;rw[dD (hd _ _ _ _ _ _ p)];exact hp _ _ (I.pd k s t z n x p hk hs)
 dj:=λk s t z n x k' s' t' z' n' x' p p' hk hs hk' RC hne=>by
  have hki:k≠i:=λe=>h2 _ _ _ _ _ (e▸p)
  have hsi:s≠i:=λe=>h1 _ _ _ _ _ (e▸p)
  have hki':k'≠i:=λe=>h2 _ _ _ _ _ (e▸p')
  have hsi':s'≠i:=λe=>h1 _ _ _ _ _ (e▸p')
  unfold mark at hk hs hk' RC;rw[Za hki]at hk;rw[Za hsi]at hs;rw[Za hki']at hk';rw[Za hsi']at RC;rw[dD (hd _ _ _ _ _ _ p),dD (hd _ _ _ _ _ _ p')];exact I.dj _ _ _ _ _ _ _ _ _ _ _ _ p p' hk hs hk' RC hne
def Dc(ops:Array Oper)(l:List bK):Prop:=∀k s t z n x k' s' t' z' n' x',cD ops l k s t z n x->cD ops l k' s' t' z' n' x'->(t=t'->k=k'/\s=s')/\(k=k'->t=t')/\(s=s'->t=t')/\k≠s'
def pN.make(U:Dc ops l)(I:pN ops l w0 S ta tmps m w){k s t n z x cv}(p0:cD ops l k s t z n x)(ht:t<tmps.size)(hss:S s=false)
  (hnew:kP m' w0 w' z.cells cv) (hfar:∀cb d,cv=.pointer (some ⟨cb,d,none⟩)->w.heap.size<=cb) (hp:∀zc cv,kP m w0 w zc cv->kP m' w0 w' zc cv):pN ops l w0 (mark S k) ta (gM tmps (some t) cv) m' w' where
 size:=by rw[fk];exact I.size
 ag:=λd hd=>by
  by_cases hdt:d=t
  ·subst hdt;exact(hd k s z n x p0 (by simp[mark]) (by
    have:s≠k:=Nat.ne_of_gt p0.ks;simp only[mark,Za this];exact hss)).elim
  ·rw[dD (λe=>hdt (ZZ e).symm)];refine I.ag d λk' s' z' n' x' p hk hs=>hd k' s' z' n' x' p (by unfold mark;split<;>first|rfl|exact hk) ?_
   have:s'≠k:=λe=>((U _ _ _ _ _ _ _ _ _ _ _ _ p0 p).2.2.2 e.symm)
   simp only[mark,Za this];exact hs
 pd:=λk' s' t' z' n' x' p hk hs=>by
  by_cases hkk:k' =k
  ·have e:=(U _ _ _ _ _ _ _ _ _ _ _ _ p0 p).2.1 hkk.symm;subst e;subst hkk;have hz:=p0.hk.symm.trans p.hk;have hz:z=z':=by cases hz;rfl
   subst hz;rw[jf ht];exact hnew
  ·have hsk:s'≠k:=λe=>((U _ _ _ _ _ _ _ _ _ _ _ _ p0 p).2.2.2 e.symm)
   unfold mark at hk hs;rw[Za hkk]at hk;rw[Za hsk]at hs;have hne:t≠t':=λe=>hkk ((U _ _ _ _ _ _ _ _ _ _ _ _ p0 p).1 e).1.symm
   rw[dD (λe=>hne (ZZ e))];exact hp _ _ (I.pd _ _ _ _ _ _ p hk hs)
 dj:=λk1 s1 t1 z1 n1 x1 k2 s2 t2 z2 n2 x2 p1 p2 hk1 Tr RF Sf hne=>by
  have hold:∀k' s' t' z' n' x',cD ops l k' s' t' z' n' x'->k'≠k->mark S k k' =true->mark S k s' =false->t≠t'/\S k' =true/\S s' =false/\(gM tmps (some t) cv).getD t' undef=tmps.getD t' undef:=λk' s' t' z' n' x' p hkk hk hs=>by
   have hsk:s'≠k:=λe=>((U _ _ _ _ _ _ _ _ _ _ _ _ p0 p).2.2.2 e.symm)
   unfold mark at hk hs;rw[Za hkk]at hk;rw[Za hsk]at hs;have hne:t≠t':=λe=>hkk ((U _ _ _ _ _ _ _ _ _ _ _ _ p0 p).1 e).1.symm
   exact⟨hne,hk,hs,dD (λe=>hne (ZZ e))⟩
  have hfar':∀k' s' t' z' n' x',cD ops l k' s' t' z' n' x'->S k' =true->S s' =false->pJ cv (tmps.getD t' undef):=λk' s' t' z' n' x' p hk hs cb1 d1 cb2 d2 e1 e2=>by
   obtain⟨cb,d,cc,el,fz,q1,q2,_⟩:=I.pd _ _ _ _ _ _ p hk hs;rw[q1]at e2;cases e2;have:=hfar cb1 d1 e1;have:=(Zl.1 q2).1;omega
  by_cases h1:k1=k
  ·have e1:=(U _ _ _ _ _ _ _ _ _ _ _ _ p0 p1).2.1 h1.symm;by_cases h2:k2=k
   ·exact absurd (e1.symm.trans ((U _ _ _ _ _ _ _ _ _ _ _ _ p0 p2).2.1 h2.symm)) hne
   ·obtain⟨a1,a2,a3,a4⟩:=hold _ _ _ _ _ _ p2 h2 RF Sf;rw[a4,<-e1,jf ht];exact hfar' _ _ _ _ _ _ p2 a2 a3
  ·obtain⟨b1,b2,b3,b4⟩:=hold _ _ _ _ _ _ p1 h1 hk1 Tr;by_cases h2:k2=k
   ·have e2:=(U _ _ _ _ _ _ _ _ _ _ _ _ p0 p2).2.1 h2.symm;rw[b4,<-e2,jf ht];exact(hfar' _ _ _ _ _ _ p1 b2 b3).symm
   ·obtain⟨a1,a2,a3,a4⟩:=hold _ _ _ _ _ _ p2 h2 RF Sf;rw[a4,b4];exact I.dj _ _ _ _ _ _ _ _ _ _ _ _ p1 p2 b2 b3 a2 a3 hne
def pN.fill(U:Dc ops l)(I:pN ops l w0 S ta tmps m w){k s t n z x}(p0:cD ops l k s t z n x)(ht:t<tmps.size)
  (hp:∀zc cv,pJ cv (tmps.getD t undef)->kP m w0 w zc cv->kP m' w0 w' zc cv) (hk:S k=true) (hs:S s=false):pN ops l w0 (mark S s) (gM ta (some t) (tmps.getD t undef)) tmps m' w':=by
 have hold:∀k' s' t' z' n' x',cD ops l k' s' t' z' n' x'->mark S s k' =true->mark S s s' =false->t≠t'/\S k' =true/\S s' =false:=λk' s' t' z' n' x' p hk' RC=>by
  have h1:k'≠s:=(U _ _ _ _ _ _ _ _ _ _ _ _ p p0).2.2.2;have h2:s'≠s:=λe=>by simp[mark,e]at RC
  unfold mark at hk' RC;rw[Za h1]at hk';rw[Za h2]at RC;exact⟨λe=>h2 ((U _ _ _ _ _ _ _ _ _ _ _ _ p p0).1 e.symm).2,hk',RC⟩
 refine⟨by rw[fk];exact I.size,λd hd=>?_,λk' s' t' z' n' x' p hk' RC=>?_,λk1 s1 t1 z1 n1 x1 k2 s2 t2 z2 n2 x2 p1 p2 hk1 Tr RF Sf hne=>?_⟩
 ·by_cases hdt:d=t
  ·subst hdt;rw[jf (by rw[<-I.size];exact ht)]
  ·rw[dD (λe=>hdt (ZZ e).symm)];refine I.ag d λk' s' z' n' x' p hk' RC=>hd k' s' z' n' x' p (by unfold mark;split<;>first|rfl|exact hk') ?_
   have h2:s'≠s:=λe=>hdt ((U _ _ _ _ _ _ _ _ _ _ _ _ p p0).2.2.1 e)
   simp only[mark,Za h2];exact RC
 ·obtain⟨a1,a2,a3⟩:=hold _ _ _ _ _ _ p hk' RC;exact hp _ _ (I.dj _ _ _ _ _ _ _ _ _ _ _ _ p p0 a2 a3 hk hs (aai a1)) (I.pd _ _ _ _ _ _ p a2 a3)
 ·obtain⟨a1,a2,a3⟩:=hold _ _ _ _ _ _ p1 hk1 Tr;obtain⟨b1,b2,b3⟩:=hold _ _ _ _ _ _ p2 RF Sf;exact I.dj _ _ _ _ _ _ _ _ _ _ _ _ p1 p2 a2 a3 b2 b3 hne
end
def cO{M ops}(h:lQ M ops=true){i j x y}(hij:i<j)(hx:ops[i]? =some x)(hy:ops[j]? =some y):
  (∀d,x.dst=some d->y.dst≠some d/\(d∈y.looksAt ops->ahead M i j=true))/\(∀d,y.dst=some d->d∈x.looksAt ops->ahead M i j=true):=by
 have hj:j<ops.size:=(Zl.1 hy).1;unfold lQ at h;rw[ZC]at h;have h1:=h j (aad.2 hj);rw[ZC]at h1;have h2:=h1 i (aad.2 hij);rw[hx,hy]at h2;simp only[ZE]at h2;obtain⟨h3,h4⟩:=h2;constructor
 ·intro d hd;rw[hd]at h3;simp only[ZE,bne_iff_ne,ne_eq,aaL,aan,List.contains_eq_mem,aaM]at h3;exact⟨h3.1,λhl=>h3.2.resolve_left (λhx=>hx hl)⟩
 ·intro d hd hl;rw[hd]at h4;simp only[aaL,aan,List.contains_eq_mem,aaM]at h4;exact h4.resolve_left (λhx=>hx hl)
def n9{M ops}(h:kG M ops=true){j o}(ho:ops[j]? =some o):
  (∀e∈o.after,Region.binds .any e=true->e.on<j)/\(∀i,i<ops.size->ahead M i j=true->∃e∈o.after,Region.binds .any e=true/\(e.on=i\/ahead M i e.on=true)):=by
 have hj:j<ops.size:=(Zl.1 ho).1;unfold kG at h;rw[ZC]at h;have h1:=h j (aad.2 hj);rw[ho]at h1;simp only[ZE]at h1;obtain⟨h2,h3⟩:=h1;constructor
 ·intro e he hb;rw[ZC]at h2;have:=h2 e (by simpa using he);simp only[hb,Zw,aa8,ZO]at this;exact this
 ·intro i hi ha;rw[ZC]at h3;have:=h3 i (aad.2 hi);simp only[ha,Zw,aa8,aaD,ZE,aaL,beq_iff_eq]at this;obtain⟨e,he,hb,hor⟩:=this;exact⟨e,by simpa using he,hb,hor⟩
def om{M n j}(h:gG M n j=true){i}(hi:i<n)(hne:i≠j):(i<j->ahead M i j=true)/\(j<i->ahead M j i=true):=by
 unfold gG at h;rw[ZC]at h;have h1:=h i (aad.2 hi);simp only[aaL,beq_iff_eq]at h1;have h2:=h1.resolve_left hne;constructor
 ·intro hlt;rwa [Zh hlt]at h2
 ·intro hlt;rwa [Za Om]at h2
theorem uI{T:Nat->TS}{t:Nat}{a:Nat}:∀k,(∀j,a<=j->j<a+k->∃d v,T (j+1)=put (T j) d v/\d≠some t)->(T (a+k)).getD t ay=(T a).getD t ay
 | 0,_=>rfl
 |k+1,h=>by
  obtain⟨d,v,h1,h2⟩:=h (a+k) Om Om;rw[show a+(k+1)=a+k+1 from by omega,h1,xU h2];exact uI k λj h3 h4=>h j h3 Om
def yU{listed:Array Bool}{i:Nat}(hi:i<listed.size):(λj=>(listed.setIfInBounds i true).getD j false)=mark (λj=>listed.getD j false) i:=by
 funext j;unfold mark;exact cZ hi
def je{ops listed}(hs:listed.size=ops.size){i}:i∈Region.ready .any ops listed↔∃o,ops[i]? =some o/\listed.getD i false=false/\∀e∈o.after,Region.binds .any e=true->listed.getD e.on false=true:=by
 unfold Region.ready;simp only[aag,aad,ZE,aan];constructor
 ·rintro⟨hi,hl,ha⟩;have ho:ops[i]? =some ops[i]:=ZT hi;refine⟨ops[i],ho,?_,?_⟩
  ·exact J9
  ·rw[ho]at ha;simp only[aaS,aba,Array.all_eq_true_iff_forall_mem,aaL,aan]at ha;intro e he hb;exact(ha e he).resolve_left (by simp[hb])
 ·rintro⟨o,ho,hl,ha⟩;have hi:i<ops.size:=(Zl.1 ho).1;refine⟨hi,?_,?_⟩
  ·exact J9
  ·rw[ho];simp only[aaS,aba,Array.all_eq_true_iff_forall_mem,aaL,aan];intro e he;cases hb:Region.binds .any e with
   |true=>exact .inr (ha e he hb)
   |false=>exact .inl rfl
def lS{M ops}(he:kG M ops=true){listed}(hs:listed.size=ops.size)(hr:Region.ready .any ops listed=[]):∀i,i<ops.size->listed.getD i false=true:=by
 intro i
 induction i using Nat.strongRecOn with
 |_ i ih=>
  intro hi;cases hl:listed.getD i false with
  |true=>rfl
  |false=>
   have:i∈Region.ready .any ops listed:=by
    have ho:ops[i]? =some ops[i]:=ZT hi;refine(je hs).2 ⟨ops[i],ho,hl,λe hee hb=>?_⟩;have:=(n9 he ho).1 e hee hb;exact ih e.on this Om
   rw[hr]at this;cases this
def lT{ops listed}(hs:listed.size=ops.size)(h:∀i,i<ops.size->listed.getD i false=true):Region.ready .any ops listed=[]:=by
 cases hr:Region.ready .any ops listed with
 |nil=>rfl
 |cons x xs=>
  have:x∈Region.ready .any ops listed:=by rw[hr];simp
  obtain⟨o,ho,hl,_⟩:=(je hs).1 this;rw[h x (Zl.1 ho).1]at hl;cases hl
def vt{P:Program}(hmix:P.follows .mixedOrders=true){ops:Array Oper}{l:List bK}(hc:cN P ops true=some l){ts ts':TS}{h h':ah}(hs:yu P l ts h ts' h'){m:bZ}{a:Act}{w:World}
  (st:St P m ts h a w) (ro:Option Nat) (Q:Exit->Act->World->Prop) (hQ:∀m' a' w',St P m' ts' h' a' w'->Grow m h w m' h' w'->a'.defers=a.defers->Q .normal a' w') (id:Nat):
  (Code.region id ops true).wpIn (Fd ro) 0 P Q a w:=by
 refine wpIn_region_any hmix ?_;obtain⟨T,H,rfl,rfl,rfl,rfl,hrow⟩:=hs.row;simp only[cN,Zk]at hc;split at hc
 case isFalse=>cases hc
 rename_i hok;simp only[ZE]at hok;obtain⟨hed,hsl⟩:=hok;obtain⟨l0,hc,hl⟩:=Zq.1 hc;obtain⟨RY,RM⟩:=gh hc;simp only[aa7]at RY;have hlen:l.length=ops.size:=by rw[<-hl,wg,RY]
 have hget0:∀j o,ops[j]? =some o->∃io,l0[j]? =some io/\bU P ops (!gG (Region.before ops) ops.size j) o=some io:=λj o ho=>by
  obtain⟨y,h1,h2⟩:=RM j o (by simpa using ho);exact⟨y,h1,by rwa [ZN]at h2⟩
 have Uv:∀j io,l0[j]? =some io->∃o,ops[j]? =some o/\bU P ops (!gG (Region.before ops) ops.size j) o=some io:=λj io hj=>by
  have hlt:j<ops.size:=by have:=(YU.1 hj).1;omega
  have ho:ops[j]? =some ops[j]:=ZT hlt;obtain⟨io',h1,h2⟩:=hget0 j _ ho;rw[hj]at h1;cases h1;exact⟨_,ho,h2⟩
 have Xg:∀(j:Nat) (io:bK),l[j]? =some io->(∃k t z n x,cD ops l0 k j t z n x/\io={dst:=some t,k:=.lK n x,gd:=none,q:=true})\/(∃s t z n x,cD ops l0 j s t z n x/\io=Hw)\/
   ((∃o,ops[j]? =some o/\bU P ops (!gG (Region.before ops) ops.size j) o=some io)/\(∀k t z n x,¬cD ops l0 k j t z n x)/\(∀s t z n x,¬cD ops l0 j s t z n x)):=λj io hj=>by
  rw[<-hl,wh,ZN]at hj;obtain⟨io0,h0,rfl⟩:=Zq.1 hj;rcases x6 RY h0 with⟨k,t,z,n,x,p,e⟩|⟨s,t,z,n,x,p,e⟩|⟨e,n1,n2⟩
  ·exact .inl ⟨k,t,z,n,x,p,e⟩
  ·exact .inr (.inl ⟨s,t,z,n,x,p,e⟩)
  ·rw[e];exact .inr (.inr ⟨Uv j io0 h0,n1,n2⟩)
 have hdU:∀(i j:Nat) (oi oj:Oper) (d:Nat),ops[i]? =some oi->ops[j]? =some oj->oi.dst=some d->oj.dst=some d->i=j:=λi j oi oj d hi hj h1 h2=>by
  by_cases hlt:i<j
  ·exact absurd h2 ((cO hsl hlt hi hj).1 d h1).1
  ·by_cases UU:j<i
   ·exact absurd h1 ((cO hsl UU hj hi).1 d h2).1
   ·omega
 have Yt:∀{k s t:Nat}{z:AV}{n:Nat}{x:cV},cD ops l0 k s t z n x->∃o,ops[k]? =some o/\o.dst=some t/\bU P ops (!gG (Region.before ops) ops.size k) o=some {dst:=some t,k:=.box (.c z),gd:=none,q:=true}:=λp=>by
  obtain⟨o,h1,h2⟩:=Uv _ _ p.hk;exact⟨o,h1,(dt h2).1.symm,h2⟩
 have hps:∀{k s t:Nat}{z:AV}{n:Nat}{x:cV},cD ops l0 k s t z n x->∃o,ops[s]? =some o/\o.dst=none/\bU P ops (!gG (Region.before ops) ops.size s) o=some {dst:=none,k:=.store n (.t t) x,gd:=none,q:=true}:=λp=>by
  obtain⟨o,h1,h2⟩:=Uv _ _ p.hs;exact⟨o,h1,(dt h2).1.symm,h2⟩
 have hlooks:∀{j t:Nat}{o:Oper},ops[j]? =some o->fG ops j t=true->t∈o.looksAt ops:=λho h=>by
  unfold fG at h;rw[ho]at h
  simpa using h
 have WY:∀{j t:Nat}{o:Oper},ops[j]? =some o->t∈o.looksAt ops->fG ops j t=true:=λho h=>by
  unfold fG;rw[ho]
  simpa using h
 have eJ:∀{j:Nat}{o:Oper},ops[j]? =some o->j<ops.size:=λho=>(Zl.1 ho).1
 have U:Dc ops l0:=λk s t z n x k' s' t' z' n' x' p p'=>by
  refine⟨λe=>?_,λe=>?_,λe=>?_,λe=>?_⟩
  ·subst e;obtain⟨o,h1,h2,_⟩:=Yt p;obtain⟨o',h1',h2',_⟩:=Yt p';refine⟨hdU _ _ _ _ _ h1 h1' h2 h2',?_⟩;by_cases hs:s=s'
   ·exact hs
   ·obtain⟨os,Tr,_⟩:=hps p';have:=p.only s' (eJ Tr) (aai hs);rw[p'.lt]at this;cases this
  ·subst e;have:=p.hk.symm.trans p'.hk;cases this;rfl
  ·subst e;have:=p.hs.symm.trans p'.hs;cases this;rfl
  ·subst e;have:=p.hk.symm.trans p'.hs;cases this
 have hpt:∀{i:Nat}{o:Oper}{t:Nat},ops[i]? =some o->t∈o.looksAt ops->∀k s z n x,cD ops l0 k s t z n x->i=s:=λ{i o t} ho ht k s z n x p=>by
  by_cases hi:i=s
  ·exact hi
  ·have:=p.only _ (eJ ho) hi;rw[WY ho ht]at this;cases this
 have SV:∀(j:Nat) (io:bK) (d:Nat),l[j]? =some io->io.dst=some d->(∃o,ops[j]? =some o/\o.dst=some d/\(∀k t z n x,¬cD ops l0 k j t z n x)/\(∀s t z n x,¬cD ops l0 j s t z n x))\/(∃k z n x,cD ops l0 k j d z n x):=λj io d hj hd=>by
  rcases Xg j io hj with⟨k,t,z,n,x,p,e⟩|⟨s,t,z,n,x,p,e⟩|⟨⟨o,h1,h2⟩,n1,n2⟩
  ·rw[e]at hd;cases hd;exact .inr ⟨k,z,n,x,p⟩
  ·rw[e]at hd;cases hd
  ·exact .inl ⟨o,h1,by rw[<- (dt h2).1];exact hd,n1,n2⟩
 have Tp:∀j io,l[j]? =some io->∃v,T (j+1)=put (T j) io.dst v:=λj io hj=>(hrow.step j io hj).1.put
 have hTl:∀j,j<=l.length->(T j).length=(T 0).length:=by
  intro j
  induction j with
  |zero=>intro _;rfl
  |succ j ih=>
   intro hj;exact M3
 have hG:P.globals.size<=(H 0).length:=st.hr.Gd;have huniq:∀(i:Nat) (io:bK),l[i]? =some io->∀(j:Nat) (o:bK) (d:Nat),j≠i->l[j]? =some o->o.dst=some d->io.dst≠some d:=by
  intro i io hi j o d hne hj hd Sd;rcases SV j o d hj hd with⟨oj,a1,a2,a3,a4⟩|⟨k,z,n,x,p⟩
  ·rcases SV i io d hi Sd with⟨oi,b1,b2,b3,b4⟩|⟨k',z',n',x',p'⟩
   ·exact hne (hdU _ _ _ _ _ a1 b1 a2 b2)
   ·obtain⟨ok,h1,h2,_⟩:=Yt p';have e:=hdU _ _ _ _ _ a1 h1 a2 h2;subst e;exact a4 _ _ _ _ _ p'
  ·rcases SV i io d hi Sd with⟨oi,b1,b2,b3,b4⟩|⟨k',z',n',x',p'⟩
   ·obtain⟨ok,h1,h2,_⟩:=Yt p;have e:=hdU _ _ _ _ _ b1 h1 b2 h2;subst e;exact b4 _ _ _ _ _ p
   ·exact hne ((U _ _ _ _ _ _ _ _ _ _ _ _ p p').1 rfl).2
 have RS:∀a b t,a<=b->b<=l.length->(∀(j:Nat) (o:bK),a<=j->j<b->l[j]? =some o->o.dst≠some t)->(T b).getD t ay=(T a).getD t ay:=by
  intro a b t hab hb hno;have:=uI (T:=T) (t:=t) (a:=a) (b-a) (λj h1 h2=>by
   have hj:l[j]? =some (l[j]'Om):=YZ Om;obtain⟨v,hv⟩:=Tp j _ hj;exact⟨_,v,hv,hno j _ h1 Om hj⟩)
  rwa [show a+(b-a)=b from by omega]at this
 have hqt:∀(j:Nat) (io:bK),l[j]? =some io->gG (Region.before ops) ops.size j=false->io.q=true:=λj io hj hb=>by
  rcases Xg j io hj with⟨k,t,z,n,x,p,e⟩|⟨s,t,z,n,x,p,e⟩|⟨⟨o,h1,h2⟩,n1,n2⟩
  ·rw[e]
  ·rw[e];rfl
  ·rw[(dt h2).2,hb];rfl
 have hdone:∀(listed:Array Bool) (β θ:Nat) (m1:bZ) (ta:Array Value) (a1:Act) (w1:World),(∀i,i<ops.size->listed.getD i false=true)->
   sJ P l T H m w (λj=>listed.getD j false) β θ m1 ta w1->pN ops l0 w (λj=>listed.getD j false) ta a1.tmps m1 w1->a1.defers=a.defers->Q .normal a1 w1:=by
  intro listed β θ m1 ta a1 w1 hall M I hd;have hθ:θ=l.length:=by
   have h1:=M.θn;by_cases hz:l.length=0
   ·omega
   ·have:=M.high (l.length-1) (hall _ Om);omega
  subst hθ;refine hQ m1 a1 w1 ⟨M.hr,cK.gU ?_ ?_⟩ M.grow hd
  ·have:=M.size;have:=I.size;have:=hTl l.length (Zc _);simp;omega
  ·intro t x hx;have hlt:=(YU.1 hx).1;have R6:t<a1.tmps.size:=by have:=M.size;have:=I.size;have:=hTl l.length (Zc _);omega
   have ex:(T l.length).getD t ay=x:=by simp[List.getD,hx]
   have ey:a1.tmps.getD t undef=a1.tmps[t]:=by simp[ZP,ZT R6]
   have eg:a1.tmps.getD t undef=ta.getD t undef:=I.ag t λk s z n x p _ hs=>by
    obtain⟨os,Tr,_⟩:=hps p;rw[hall s (eJ Tr)]at hs;cases hs
   refine⟨a1.tmps[t],Si,?_⟩;rw[<-ex,<-ey,eg];by_cases hw:∃(j:Nat) (o:bK),l[j]? =some o/\o.dst=some t
   ·obtain⟨j,o,hj,ho⟩:=hw;have T5:=(YU.1 hj).1;have h1:=M.yF t j o hj (hall j Om) ho;rw[RS (j+1) l.length t Om (Zc _) (λk o' h2 h3 h4 h5=>huniq j o hj k o' t Om h4 h5 ho)];exact VR.mono (bZ.fx _ _) _ _ h1
   ·rw[RS 0 l.length t Om (Zc _) (λk o' _ _ h4 h5=>hw ⟨k,o',h4,h5⟩)];exact VR.mono (M.grow.le st.hr.cL) _ _ (M.yG t (λj o hj _ ho=>hw ⟨j,o,hj,ho⟩))
 have key:∀(fuel:Nat) (listed:Array Bool) (β θ:Nat) (m1:bZ) (ta:Array Value) (a1:Act) (w1:World),listed.size=ops.size->qN listed ops.size<=fuel->
   (∀j x,listed.getD j false=true->x<ops.size->ahead (Region.before ops) x j=true->listed.getD x false=true)->
   sJ P l T H m w (λj=>listed.getD j false) β θ m1 ta w1->pN ops l0 w (λj=>listed.getD j false) ta a1.tmps m1 w1->a1.defers=a.defers->wpAnyIn (Fd ro) 0 P .any ops Q fuel listed a1 w1:=by
  intro fuel
  induction fuel with
  |zero=>
   intro listed β θ m1 ta a1 w1 RU hu hcl M I hd;have hall:=k9 ops.size (show qN listed ops.size=0 by omega);exact⟨lT RU hall,hdone listed β θ m1 ta a1 w1 hall M I hd⟩
  |succ fuel ih=>
   intro listed β θ m1 ta a1 w1 RU hu hcl M I hd;refine⟨λhr=>hdone listed β θ m1 ta a1 w1 (lS hed RU hr) M I hd,λi hi=>?_⟩;obtain⟨o,ho,SR,Xd⟩:=(je RU).1 hi;have hin:i<ops.size:=(Zl.1 ho).1;have hio:l[i]? =some (l[i]'Om):=YZ Om;generalize l[i]'Om=io at hio;obtain⟨bV,hq⟩:=hrow.step i io hio;have hahead:∀x,x<ops.size->ahead (Region.before ops) x i=true->listed.getD x false=true:=λx hx ha=>by
    exact z37
   have TD:β<=i:=by
    by_cases hx:i<β
    ·have:=M.low i hx;simp only[SR]at this;cases this
    ·omega
   have TO:∀j x,(listed.setIfInBounds i true).getD j false=true->x<ops.size->ahead (Region.before ops) x j=true->(listed.setIfInBounds i true).getD x false=true:=by
    intro j x hj hx ha;exact MK
   have Vs:qN (listed.setIfInBounds i true) ops.size<=fuel:=by
    exact MG
   have hslot:∀(β' θ':Nat),sJ P l T H m w (λj=>listed.getD j false) β' θ' m1 ta w1->i<=θ'->∀t,t∈o.looksAt ops->(∀k s z n x,¬cD ops l0 k s t z n x)->VR (m1.dF (H i).length) ((T i).getD t ay) (ta.getD t undef):=by
    intro β' θ' M' hi' t ht hnp;have h0i:=fI M'.len (ZA i) hi';by_cases hex:∃(x:Nat) (ox:bK),l[x]? =some ox/\listed.getD x false=true/\ox.dst=some t
    ·obtain⟨x,ox,hx,hxl,U4⟩:=hex;rcases SV x ox t hx U4 with⟨oo,Ul,Vl,_⟩|⟨k,z,n,y,p⟩
     ·have hxn:x<ops.size:=(Zl.1 Ul).1;have hxi:x<i:=by
       by_cases h1:x=i
       ·subst h1;rw[SR]at hxl;cases hxl
       ·by_cases h2:x<i
        ·exact h2
        ·have h3:=(cO hsl (show i<x by omega) ho Ul).2 t Vl ht;have h4:=hcl x i hxl hin h3;rw[SR]at h4;cases h4
      have h1:=M'.yF t x ox hx hxl U4;rw[RS (x+1) i t Om Om (λk o' h2 h3 h4 h5=>huniq x ox hx k o' t Om h4 h5 U4)];exact VR.mono (bZ.zy _ (fI M'.len Om hi')) _ _ h1
     ·exact absurd p (hnp _ _ _ _ _)
    ·rw[RS 0 i t Om Om (λk o' h2 h3 h4 h5=>by
      rcases SV k o' t h4 h5 with⟨oo,Ul,Sd,_⟩|⟨k',z,n,y,p⟩
      ·have h6:=((cO hsl h3 Ul ho).1 t Sd).2 ht;exact hex ⟨k,o',h4,hahead k (Zl.1 Ul).1 h6,h5⟩
      ·exact hnp _ _ _ _ _ p)]
     refine VR.mono ?_ _ _ (M'.yG t (λj o hj hl Sd=>hex ⟨j,o,hj,hl,Sd⟩));intro b e hb;have:=st.hr.cL b e hb;unfold bZ.dF;rw[Zh Om];exact M'.grow.le st.hr.cL b e hb
   have YO:∀t,(∀k s z n x,¬cD ops l0 k s t z n x)->a1.tmps.getD t undef=ta.getD t undef:=λt hnp=>I.ag t λk s z n x p _ _=>hnp _ _ _ _ _ p
   have hTn:∀j,j<=l.length->a1.tmps.size=(T j).length:=λj hj=>by rw[I.size,M.size,hTl j hj]
   have Uk:io.q=true->∃θ',i<θ'/\sJ P l T H m w (λj=>listed.getD j false) β θ' m1 ta w1:=λT6=>by
    by_cases SS:i<θ
    ·exact⟨θ,SS,M⟩
    ·refine⟨i+1,Om,M.raise Om Om λj hj Xb=>?_⟩;have T5:j<ops.size:=Om
     have YF:l[j]? =some (l[j]'Om):=YZ Om;by_cases hji:j=i
     ·subst hji;rw[hio]at YF;exact hq T6
     ·have hjs:listed.getD j false=false:=by
       cases hx:listed.getD j false with
       |false=>rfl
       |true=>have:=M.high j hx;omega
      cases hb:gG (Region.before ops) ops.size j with
      |true=>
       have h1:=(om hb hin (λx=>hji x.symm)).2 Om;have h2:=hahead j T5 h1;rw[hjs]at h2;cases h2
      |false=>exact(hrow.step j _ YF).2 (hqt j _ YF hb)
   have hih:∀(β2 XZ:Nat) (m2:bZ) (ta2:Array Value) (a2:Act) (w2:World),sJ P l T H m w (mark (λj=>listed.getD j false) i) β2 XZ m2 ta2 w2->pN ops l0 w (mark (λj=>listed.getD j false) i) ta2 a2.tmps m2 w2->a2.defers=a1.defers->
     wpAnyIn (Fd ro) 0 P .any ops Q fuel (listed.setIfInBounds i true) a2 w2:=λβ2 XZ m2 ta2 a2 w2 M2 I2 Xe=>
    ih (listed.setIfInBounds i true) β2 XZ m2 ta2 a2 w2 (by simpa using RU) Vs TO (by rw[yU Om];exact M2) (by rw[yU Om];exact I2) (Xe.trans hd)
   rcases Xg i io hio with⟨k,t,z,n,x,p,e⟩|⟨s,t,z,n,x,p,e⟩|⟨⟨o',ho',RP⟩,n1,n2⟩
   ·
    subst e;obtain⟨os,hos,hosd,RP⟩:=hps p;rw[ho]at hos;cases hos;obtain⟨ok,Vw,Sg,_⟩:=Yt p;have Wm:listed.getD k false=true:=hahead k (eJ Vw) (((cO hsl p.ks Vw ho).1 t Sg).2 (hlooks ho p.lt));have hpend:=I.pd _ _ _ _ _ _ p Wm SR;obtain⟨cb,d,cc,el,fz,TN,hheap,RW,hfz,hcon,Yk,hout⟩:=hpend;obtain⟨θ',SS,M'⟩:=Uk rfl;have Tz:=M'.cut hG TD (abr SS);obtain⟨X,hX1,hX2,UP,YP,hTs⟩:∃X:List AV,X=(val (T i) x).cells/\(X.all AV.one=true/\X.length=n)/\t<(T i).length/\H (i+1)=H i++[.cells X true false]/\T (i+1)=put (T i) (some t) (.ptr (H i).length 0):=by
     generalize H (i+1)=H1 at bV;generalize T (i+1)=T1 at bV;cases bV with
     |run hw hb hs=>
      have hs:dw (.lK n x) (val (T i)) (H i)=some (_,_):=hs;simp only[dw]at hs;split at hs
      case isFalse=>cases hs
      rename_i RZ;cases hs;exact⟨_,rfl,RZ,hb,rfl,rfl⟩
     |skip hw=>exact absurd trivial hw
    have hr1:=Tz.Mt hheap hfz (λb e he=>hout b e (bZ.fx _ _ _ _ he)) RW (λj y hy=>by
     obtain⟨h1,v,h2,h3⟩:=hcon j y hy;exact⟨h1,v,h2,h3 _⟩)
    generalize hmc:(m1.dF (H i).length).add (H i).length ⟨cb,d,cc.size,true⟩=mc at hr1;have WX:mc (H i).length=some ⟨cb,d,cc.size,true⟩:=by rw[<-hmc];simp[bZ.add]
    have VC:∀b,b≠(H i).length->mc b=(m1.dF (H i).length) b:=λb hb=>by rw[<-hmc];unfold bZ.add;rw[Za hb]
    have hmcl:(m1.dF (H i).length).le mc:=λb e he=>by
     by_cases hb:b=(H i).length
     ·subst hb;have:=Tz.cL _ _ he;omega
     ·rw[VC b hb];exact he
    have UN:val (put (T i) (some t) (.ptr (H i).length 0)) x=val (T i) x:=by
     cases x with
     |t u=>
      have hut:=(p.xt u rfl).1;simp only[val];exact xU (λe=>hut (ZZ e).symm)
     |_=>rfl
    have hvt:val (put (T i) (some t) (.ptr (H i).length 0)) (.t t)=.ptr (H i).length 0:=by
     simp only[val,put,List.getD];rw[Zg UP];rfl
    have hzl:z.cells.length=X.length:=by rw[p.zn,hX2.2]
    have YE:dB P {dst:=none,k:=.store n (.t t) x,gd:=none,q:=true} (put (T i) (some t) (.ptr (H i).length 0)) (H i++[.cells z.cells true false]) (put (T i) (some t) (.ptr (H i).length 0)) (H (i+1)):=by
     refine dB.run (v:=ay) trivial trivial ?_;show dw (.store n (.t t) x) _ _=some (ay,H (i+1));simp only[dw,hvt,UN];rw[Zd (Zc _),Z6];show(if(val (T i) x).cells.length=n/\(val (T i) x).cells.all AV.one=true/\0+n<=z.cells.length then some (ay,(H i++[ak.cells z.cells true false]).set (H i).length (.cells (fM z.cells 0 (val (T i) x).cells) true false))else none)=_;rw[<-hX1,Zh ⟨hX2.2,hX2.1,by rw[p.zn];omega⟩];have aQ:=qV X z.cells [] hzl;rw[aaA,aaA,Y6]at aQ;rw[aQ,ZY _ _ (Zc _),Z6,YP];rfl
    refine fD ho RP hr1.gv hr1 (by rw[mZ];exact hTn i Om) (λu hu=>?_) YE ro _ Q ?_
    ·by_cases hut:u=t
     ·subst hut;have:(put (T i) (some u) (AV.ptr (H i).length 0)).getD u ay=.ptr (H i).length 0:=hvt;rw[this,TN];exact⟨_,WX,by rw[ZN]⟩
     ·have hnp:∀k s z n x,¬cD ops l0 k s u z n x:=λk' s' z' n' x' p'=>by
       have e:=hpt ho hu _ _ _ _ _ p';exact hut ((U _ _ _ _ _ _ _ _ _ _ _ _ p' p).2.2.1 e.symm)
      rw[xU (λe=>hut (ZZ e).symm),YO u hnp];exact VR.mono hmcl _ _ (hslot β θ' M' (abr SS) u hu hnp)
    ·intro cv v m' w' _ _ hr' R2;have hlen1:(H i++[ak.cells z.cells true false]).length=(H i).length+1:=Si
     have VG:(H (i+1)).length=(H i).length+1:=by rw[YP];simp
     have Yw:∀b,b<(H i).length+1->m' b=mc b:=λb hb=>R2.ext b (by rw[hlen1];exact hb)
     have Yx:m' (H i).length=some ⟨cb,d,cc.size,true⟩:=by rw[Yw _ Om];exact WX
     have XD:∀b e,(H i).length<=b->m' b=some e->b=(H i).length/\e=⟨cb,d,cc.size,true⟩:=λb e hb he=>by
      have h1:=hr'.cL b e he;rw[VG]at h1;have:b=(H i).length:=Om
      subst this;rw[Yx]at he;cases he;exact⟨rfl,rfl⟩
     have M2:=M'.F5 hG TD SS SR hio hr' (λb hb=>by rw[Yw b Om,VC b Om])
      (λb e hb he=>by
       obtain⟨_,rfl⟩:=XD b e hb he;exact⟨rfl,Yk,λb' e' h=>hout b' e' h⟩)
      (λy hy h1 h2=>R2.frame y hy λb e he ho' hcb=>by
       by_cases hb:b=(H i).length
       ·subst hb;rw[WX]at he;cases he;exact h2 _ _ (Zc _) Yx hcb
       ·rw[VC b hb]at he;exact h1 b e he ho' hcb)
      R2.size R2.os R2.out R2.tape (v:=.ptr (H i).length 0) (cv:=a1.tmps.getD t undef) (by rw[TN];exact⟨_,Yx,by rw[ZN]⟩) hTs (hTl i Om) (huniq i _ hio)
     have Ys:a1.put o.dst cv=a1:=by rw[hosd];rfl
     rw[Ys];refine hih _ _ _ _ a1 w' M2 (I.fill U p (by rw[hTn i Om];exact UP) (λzc c hne q=>?_) Wm SR) rfl;refine q.move (λV6 d' hc hlt h7=>?_) (λV6 d' hc hlt h7 b e he=>?_)
     ·refine R2.frame V6 hlt λb e he _ hcb=>?_
      by_cases hb:b=(H i).length
      ·subst hb;rw[WX]at he;cases he;exact hne _ _ _ _ hc TN hcb.symm
      ·rw[VC b hb]at he;exact h7 b e (bZ.fx _ _ _ _ he) hcb
     ·unfold bZ.patch at he;split at he
      ·rename_i hb;by_cases hbl:b<(H i).length
       ·rw[Yw b Om,VC b Om]at he;exact h7 b e (bZ.fx _ _ _ _ he)
       ·obtain⟨_,rfl⟩:=XD b e Om he
        exactλhcb=>hne _ _ _ _ hc TN hcb.symm
      ·exact h7 b e he
   ·
    subst e;obtain⟨ok,Vw,Sg,RP⟩:=Yt p;rw[ho]at Vw;cases Vw;obtain⟨os,hos,_⟩:=hps p;have hss:listed.getD s false=false:=by
     cases hx:listed.getD s false with
     |false=>rfl
     |true=>
      have:=hcl s i hx hin (((cO hsl p.ks ho hos).1 t Sg).2 (hlooks hos p.lt));rw[SR]at this;cases this
    obtain⟨θ',SS,M'⟩:=Uk rfl;have Tz:=M'.cut hG TD (abr SS);have UP:t<(T i).length:=by
     have hsl':s<l.length:=by rw[hlen];exact eJ hos
     have Tr:l[s]? =some l[s]:=YZ hsl';have Sf:=(hrow.step s _ Tr).1;rcases Xg s _ Tr with⟨k',t',z',n',x',p',e⟩|⟨s',t',z',n',x',p',e⟩|⟨_,n1,_⟩
     ·have e2:=(U _ _ _ _ _ _ _ _ _ _ _ _ p p').2.2.1 rfl;subst e2;rw[e]at Sf;generalize H (s+1)=H1 at Sf;generalize T (s+1)=T1 at Sf;have:t<(T s).length:=by
       cases Sf with
       |run hw hb hs=>exact hb
       |skip hw=>exact absurd trivial hw
      rw[hTl s Om]at this;rw[hTl i Om];exact this
     ·exact absurd rfl ((U _ _ _ _ _ _ _ _ _ _ _ _ p' p).2.2.2)
     ·exact absurd p (n1 _ _ _ _ _)
    have hHk:H (i+1)=H i/\T (i+1)=T i:=by
     generalize H (i+1)=H1 at bV;generalize T (i+1)=T1 at bV;cases bV with
     |run hw hb hs=>
      have hs:dw (.cg (.c (.bool false))) (val (T i)) (H i)=some (_,_):=hs;simp only[dw]at hs;cases hs;exact⟨rfl,rfl⟩
     |skip hw=>exact absurd trivial hw
    have YE:dB P {dst:=some t,k:=.box (.c z),gd:=none,q:=true} (T i) (H i) (put (T i) (some t) (.ptr (H i).length 0)) (H i++[.cells z.cells true false]):=by
     refine dB.run (v:=.ptr (H i).length 0) trivial trivial ?_;exact Zh (show(val (T i) (.c z)).cells.all AV.one=true from ZC.2 λy hy=>CC (ZC.1 p.zc y hy))
    refine fD ho RP Tz.gv Tz (hTn i Om) (λu hu=>?_) YE ro _ Q ?_
    ·have hnp:∀k s z n x,¬cD ops l0 k s u z n x:=λk' s' z' n' x' p'=>by
      have e:=hpt ho hu _ _ _ _ _ p';exact(U _ _ _ _ _ _ _ _ _ _ _ _ p p').2.2.2 e
     rw[YO u hnp];exact hslot β θ' M' (abr SS) u hu hnp
    ·intro cv v m' w' Tg Ti hr' R2;have hv:v=.ptr (H i).length 0:=by
      rw[Sg]at Tg;have:=Zv (λl:TS=>l[t]?) Tg;simp only[put]at this;rw[Zg UP,Zg UP]at this;exact(ZZ this).symm
     subst hv;obtain⟨e,he,TN⟩:=Ti;obtain⟨cc,el,fz,Sb,Sl,UX,hb4,hb5⟩:=hr'.dR _ e _ he (by rw[Zd (Zc _),Z6];rfl);obtain⟨hown,hex⟩:=hb5 (.inl rfl);have hex:=hex rfl;obtain⟨_,hnew⟩:=R2.new _ e (Zc _) he;have hfar:w1.heap.size<=e.cb:=by
      rcases hnew with hnew|⟨b0,e0,c1,_,_,c4,c5⟩
      ·exact hnew
      ·have:=Tz.cL b0 e0 c1;unfold eM at c4 c5;rw[YY this]at c5;rw[c5]at c4;cases c4
     rw[ZN]at TN;have Va:=Tz.forget hr' R2;have Uq:=R2.forget;have M2:=M'.next hG TD SS SR hio (m1:=m'.dF (H i).length) (w1:=w') (by rw[hHk.1];exact Va) (by rw[hHk.1];exact Uq) (v:=.bool false) (cv:=.bool false) rfl (by rw[hHk.2];rfl) (hTl i Om) (huniq i _ hio);have hin2:∀b e',((m'.dF (H i).length).patch m1 (H (i+1)).length) b=some e'->m1 b=some e':=λb e' h=>by
      unfold bZ.patch at h;split at h
      ·have hbl:b<(H i).length:=by
        unfold bZ.dF at h;split at h
        ·assumption
        ·cases h
       rw[Uq.ext b hbl]at h;exact bZ.fx _ _ _ _ h
      ·exact h
     have hp2:∀zc c,kP m1 w w1 zc c->kP ((m'.dF (H i).length).patch m1 (H (i+1)).length) w w' zc c:=λzc c q=>q.move
      (λV6 d' _ hlt h7=>R2.frame V6 hlt λb e' h _=>h7 b e' (bZ.fx _ _ _ _ h)) (λV6 d' _ hlt h7 b e' h=>h7 b e' (hin2 b e' h))
     have Ys:(a1.put o.dst cv).tmps=gM a1.tmps (some t) cv:=by rw[Sg];rfl
     refine hih _ _ _ _ (a1.put o.dst cv) w' M2 ?_ (put_defers ..);rw[Ys];show pN ops l0 w _ (gM ta Hw.dst _) _ _ _;refine I.make U p (by rw[hTn i Om];exact UP) hss ?_ (λV6 d' h=>?_) hp2
     ·refine⟨e.cb,e.d,cc,el,fz,TN,Sb,Om,(hb4 hown).2,λj y hy=>?_,ZR M.grow.size hfar,λb e' h=>?_⟩
      ·obtain⟨h1,v,h2,h3⟩:=UX j y hy;exact⟨h1,v,h2,EE (ZC.1 p.zc y (ZV hy)) h3⟩
      ·have:=M.hr.lt b e' (hin2 b e' h);omega
     ·rw[TN]at h;cases h;exact hfar
   ·
    rw[ho]at ho';cases ho';obtain⟨YK,hioq⟩:=dt RP;have hnp:∀t,t∈o.looksAt ops->∀k s z n x,¬cD ops l0 k s t z n x:=λt ht k s z n x p=>by
     have:=hpt ho ht k s z n x p;subst this;exact n1 _ _ _ _ _ p
    have TI:∀k s t z n x,cD ops l0 k s t z n x->io.dst≠some t:=λk s t z n x p hx=>by
     obtain⟨ok,h1,h2,_⟩:=Yt p;have e:=hdU _ _ _ _ _ h1 ho h2 (by rw[<-YK];exact hx);subst e;exact n2 _ _ _ _ _ p
    have RE:∀(β' θ':Nat),sJ P l T H m w (λj=>listed.getD j false) β' θ' m1 ta w1->β'<=i->i<=θ'->
      (∀cv v m' w',T (i+1)=put (T i) io.dst v->VR m' v cv->HR P m' (H (i+1)) w'->Grow (m1.dF (H i).length) (H i) w1 m' (H (i+1)) w'->∃β2 XZ m2,sJ P l T H m w (mark (λj=>listed.getD j false) i) β2 XZ m2 (gM ta io.dst cv) w'/\∀zc c,kP m1 w w1 zc c->kP m2 w w' zc c)->
      wpOpIn (Fd ro) 0 P ops Q i (wpAnyIn (Fd ro) 0 P .any ops Q fuel (listed.setIfInBounds i true)) a1 w1:=by
     intro β' θ' M' hb' hi' Vz;have Tz:=M'.cut hG hb' hi';refine fD ho RP Tz.gv Tz (hTn i Om) (λt ht=>?_) bV ro _ Q ?_
     ·rw[YO t (hnp t ht)];exact hslot β' θ' M' hi' t ht (hnp t ht)
     ·intro cv v m' w' Tg Ti hr' R2;obtain⟨β2,XZ,m2,M2,hp2⟩:=Vz cv v m' w' (by rw[YK];exact Tg) Ti hr' R2;have:(a1.put o.dst cv).tmps=gM a1.tmps io.dst cv:=by rw[YK];cases o.dst<;>rfl
      exact hih β2 XZ m2 _ _ w' M2 (by rw[this];exact I.other n1 n2 TI hp2) (put_defers ..)
    by_cases T6:io.q=true
    ·obtain⟨θ',SS,M'⟩:=Uk T6;exact RE β θ' M' TD Om λcv v m' w' Tg Ti hr' R2=>⟨β,θ',_,M'.next hG TD SS SR hio hr' R2 Ti Tg (hTl i Om) (huniq i io hio),λzc c q=>(q.grow R2).2⟩
    ·have hbar:gG (Region.before ops) ops.size i=true:=by
      rw[hioq]at T6
      simpa using T6
     have hall:∀j,j<i->listed.getD j false=true:=λj hj=>hahead j Om ((om hbar (show j<ops.size by omega) Om).1 hj)
     by_cases SS:i<θ
     ·exact RE β θ M TD Om λcv v m' w' Tg Ti hr' R2=>⟨β,θ,_,M.next hG TD SS SR hio hr' R2 Ti Tg (hTl i Om) (huniq i io hio),λzc c q=>(q.grow R2).2⟩
     ·have hθi:θ=i:=by
       by_cases hz:i=0
       ·omega
       ·have:=M.high (i-1) (hall _ Om);omega
      subst hθi;exact RE β θ M TD (Zc _) λcv v m' w' Tg Ti hr' R2=>⟨θ+1,θ+1,m',M.jump st.hr.cL hall Om hio hr' R2 Ti Tg (hTl θ Om) (huniq θ io hio),λzc c q=>(q.grow R2).1⟩
 have RL:∀j,(Array.replicate ops.size false).getD j false=false:=λj=>by
  exact z75
 refine key ops.size (Array.replicate ops.size false) 0 0 m a.tmps a _ Si ?_ (λj x hj _ _=>by simp[RL j]at hj) ?_ ?_ rfl
 ·exact ML
 ·refine⟨Zc _,ZA _,λj hj=>absurd hj Om,λj hj=>by simp[RL j]at hj,λj _ hj=>absurd hj Om,λj hj=>absurd hj Om,st.hr.drew,λj hj=>absurd hj Om,?_,λj _ hj=>absurd hj Om,
   (Grow.refl m _ w st.hr.cL).drew,?_,?_,?_⟩
  ·intro i hi hi' b e k hb SP hk;have:i=0:=Om
   subst this;exact(st.hr.dR b e k SP hk).iY st.hr.cL
  ·exact z138
  ·intro d _;exact nK st.ts d
  ·intro d j o _ hj _;simp only[RL j]at hj;cases hj
 ·exact⟨rfl,λ_ _=>rfl,λk s t z n x p hk=>by simp[RL k]at hk,λk s t z n x k' s' t' z' n' x' p p' hk=>by simp[RL k]at hk⟩
def Hl{k}(hk:fC k=true){ρ h h' v}(hs:mM k ρ h v h'):h' =h/\∀g,mM k ρ g v g:=by
 cases k<;>first
  |(cases hk;done)
  |skip
 case conv c x=>
  cases c<;>first
   |(cases hk;done)
   |skip
  have hs:dw _ _ _=some (_,_):=hs;simp only[dw,kg]at hs;split at hs
  ·rename_i k n hx;cases hs;refine⟨rfl,λg=>?_⟩;show dw _ _ _=some (_,_);simp only[dw,kg,hx]
  ·cases hs
 case len lk x=>
  have e:lk≠.mp->∀g,zU lk g (ρ x)=zU lk h (ρ x):=λhl g=>by
   cases lk<;>first|exact absurd rfl hl|skip
   all_goals
    cases ρ x<;>first|rfl|(simp only[zU,reduceCtorEq,Zi];repeat' split)<;>rfl
  have hl:lk≠.mp:=λe=>by rw[e]at hk;cases hk
  have hs:dw _ _ _=some (_,_):=hs;simp only[dw]at hs;split at hs
  ·rename_i n hn;cases hs;refine⟨rfl,λg=>?_⟩;show dw _ _ _=some (_,_);simp only[dw,e hl g,hn]
  ·cases hs
 all_goals
  have hs:dw _ _ _=some (_,_):=hs;simp only[dw]at hs
  repeat' split at hs
  all_goals first
   |(cases hs;done)
   |(cases hs
     refine⟨rfl,λg=>?_⟩;show dw _ _ _=some (_,_);simp only[dw, *]
     done)
   |(cases hs
     refine⟨rfl,λg=>?_⟩;show dw _ _ _=some (_,_);simp[dw, *]
     done)
def xW{P o}(hk:fC o.k=true){ts ts' h h'}(hs:dB P o ts h ts' h'):h' =h/\∀g,dB P o ts g ts' g:=by
 cases hs with
 | @run v h' hw hb hs=>
  have RC:mM o.k (val ts) h v h':=by
   cases TJ:o.k<;>rw[TJ]at hs hk<;>first|exact hs|(cases hk;done)
  obtain⟨rfl,h2⟩:=Hl hk RC;refine⟨rfl,λg=>.run hw hb ?_⟩;have:=h2 g;cases TJ:o.k<;>rw[TJ]at this hk<;>first|exact this|(cases hk;done)
 |skip hw=>exact⟨rfl,λg=>.skip hw⟩
def xS{P o}(hk:cF o.k=true){ts ts' h h'}(hs:dB P o ts h ts' h'):h' =h:=by
 by_cases hp:fC o.k=true
 ·exact(xW hp hs).1
 ·cases TJ:o.k with
  |load n a=>
   cases hs with
   |run hw hb hs=>
    rw[TJ]at hs;have hs:dw (.load n a) _ _=some (_,_):=hs;simp only[dw]at hs
    repeat' split at hs
    all_goals first
     |(cases hs;done)
     |(cases hs;rfl)
   |skip hw=>rfl
  |_=>rw[TJ]at hk hp;exact absurd hk hp
def E9{P o}(hk:kL o=true){ts ts' h h'}(hs:dB P o ts h ts' h')(hq:o.q=true->∃g,h' =h++g):∃g,h' =h++g:=by
 by_cases hqq:o.q=true
 ·exact hq hqq
 have hk:CW o.k=true:=by
  have:o.q=false:=by simpa using hqq
  simpa [kL,this]using hk
 cases hs with
 |run hw hb hs=>
  cases TJ:o.k<;>rw[TJ]at hk hs<;>first|(cases hk;done)|skip
  case bg es n z ps=>
   have hs:mM (.bg es n z ps) _ _ _ _:=hs;obtain⟨c,mu,tl,_,_,_,_,e⟩:=hs;exact⟨_,e⟩
  all_goals
   have hs:dw _ _ _=some (_,_):=hs;simp only[dw]at hs
   repeat' split at hs
   all_goals first
    |(cases hs;done)
    |(cases hs;exact⟨_,rfl⟩)
 |skip hw=>exact⟨[],Si⟩
def Cb{P o n a}(hk:o.k=.load n a){ts ts' h}(hs:dB P o ts h ts' h)(g:ah):dB P o ts (h++g) ts' (h++g):=by
 generalize hh:h=h2 at hs;cases hs with
 | @run v _ hw hb hs=>
  subst hh;refine .run hw (by rw[hk];trivial) ?_;rw[hk]at hs ⊢;have hs:dw (.load n a) (val ts) h=some (v,h):=hs;show dw (.load n a) (val ts) (h++g)=some (v,h++g);simp only[dw]at hs ⊢;cases hv:val ts a with
  |ptr b off=>
   rw[hv]at hs;simp only at hs ⊢;cases Sl:h[b]? with
   |none=>rw[Sl]at hs;cases hs
   |some k=>
    rw[YY (YU.1 Sl).1,Sl];rw[Sl]at hs;cases k with
    |cells c mu tl=>
     simp only at hs ⊢;cases n with
     |none=>
      simp only at hs ⊢;cases hc:c[off]? with
      |none=>rw[hc]at hs;cases hs
      |some x=>rw[hc]at hs;cases hs;rfl
     |some n=>
      simp only at hs ⊢;by_cases hlt:off+n<=c.length
      ·rw[Zh hlt]at hs ⊢;cases hs;rfl
      ·rw[Za hlt]at hs;cases hs
    |_=>cases hs
  |_=>rw[hv]at hs;cases hs
 |skip hw=>subst hh;exact .skip hw
def HR.BU{P m h w}(hr:HR P m h w)(g:ah):HR P m (h++g) w where
 cL:=λb e hb=>by have:=hr.cL b e hb;simp;omega
 dR:=λb e k hb hk=>hr.dR b e k hb (by rwa [YY (hr.cL b e hb)]at hk)
 sep:=λb1 b2 e1 e2 k1 k2 hne h1 h2 hk1 RF hcb=>hr.sep b1 b2 e1 e2 k1 k2 hne h1 h2 (by rwa [YY (hr.cL b1 e1 h1)]at hk1) (by rwa [YY (hr.cL b2 e2 h2)]at RF) hcb
 ga:=hr.ga
 lt:=hr.lt
def HR.HD{P m h g w}(hr:HR P m (h++g) w)(hd:∀b e,m b=some e->b<h.length):HR P m h w where
 cL:=hd
 dR:=λb e k hb hk=>hr.dR b e k hb (by rw[YY (hd b e hb)];exact hk)
 sep:=λb1 b2 e1 e2 k1 k2 hne h1 h2 hk1 RF hcb=>hr.sep b1 b2 e1 e2 k1 k2 hne h1 h2 (by rw[YY (hd b1 e1 h1)];exact hk1) (by rw[YY (hd b2 e2 h2)];exact RF) hcb
 ga:=hr.ga
 lt:=hr.lt
def jm{M l}(h:nW M l=true){i j x y}(hij:i<j)(hx:l[i]? =some x)(hy:l[j]? =some y)(px:fC x.k=false)(py:fC y.k=false)(lx:mG x=false)(ly:mG y=false)
  (hr:(cF x.k=false/\cF y.k=false)\/(cF x.k=false/\kL x=false)\/(cF y.k=false/\kL y=false)):ahead M i j=true:=by
 have hj:j<l.length:=(YU.1 hy).1;unfold nW at h;rw[ZC]at h;have h1:=h j (aad.2 hj);rw[ZC]at h1;have h2:=h1 i (aad.2 hij);rw[hx,hy]at h2;simp only[px,py,lx,ly,aa8]at h2;rcases hr with⟨a,b⟩|⟨a,b⟩|⟨a,b⟩<;>simpa [a,b]using h2
theorem yX:∀{l}{i}{o},l[i]? =some o->Cc o=false->i<dI l
 |[],i,o,h,_=>by simp at h
 |x::r,i,o,h,hk=>by
  have hn:¬kD (x::r)=true:=λhall=>by
   have:=ZC.1 (Bool.and_eq_true_iff.1 hall).1 o (ZV h);rw[hk]at this;cases this
  rw[dI,Za hn];cases i with
  |zero=>omega
  |succ i=>have:=yX (l:=r) (i:=i) (by simpa using h) hk;omega
def p9{M l}(h:nh M l=true){i j x y}(hx:l[i]? =some x)(lx:mG x=true)(hy:l[j]? =some y)(ky:cF y.k=false)(hj:dI l<=j):ahead M i j=true:=by
 unfold nh at h;rw[ZC]at h;have h1:=h i (aad.2 (YU.1 hx).1);rw[hx]at h1;simp only[lx,Zw,aa8,ZC,aad]at h1;have h2:=h1 j (YU.1 hy).1;rw[hy]at h2;have Xb:¬j<dI l:=Om
 simpa [ky,Xb]using h2
def q8{P cq}(hmix:P.follows .mixedOrders=true){ops l}(hed:kG (Region.before ops) ops=true)(hsl:lQ (Region.before ops) ops=true)
  (hc:eX (λ_ o=>bU P ops (si cq o) o) ops.toList 0=some l) (hmo:nW (Region.before ops) l=true) {T}{H}(hrow:Row P l T H) (hstab:∀(i:Nat) (io:bK),l[i]? =some io->mG io=true->∀θ,θ<=dI l->dB P io (T i) (H θ) (T (i+1)) (H θ)) (hlate:∀(i j:Nat) (x y:bK),l[i]? =some x->mG x=true->l[j]? =some y->cF y.k=false->dI l<=j->ahead (Region.before ops) i j=true) {m}{a}{w}
  (st:St P m (T 0) (H 0) a w) (ro:Option Nat) (Q:Exit->Act->World->Prop) (hQ:∀m' a' w',St P m' (T l.length) (H l.length) a' w'->Grow m (H 0) w m' (H l.length) w'->a'.defers=a.defers->Q .normal a' w') (id:Nat):
  (Code.region id ops true).wpIn (Fd ro) 0 P Q a w:=by
 refine wpIn_region_any hmix ?_;obtain⟨RY,RM⟩:=gh hc;simp only[aa7]at RY;have VT:∀(j:Nat) (io:bK),l[j]? =some io->∃o,ops[j]? =some o/\bU P ops (si cq o) o=some io:=λj io hj=>by
  exact M9
 have SV:∀(j:Nat) (io:bK) (d:Nat),l[j]? =some io->io.dst=some d->∃o,ops[j]? =some o/\o.dst=some d:=λj io d hj hd=>by
  exact MZ
 have huniq:∀(i j:Nat) (oi oj:bK) (d:Nat),l[i]? =some oi->l[j]? =some oj->oi.dst=some d->oj.dst=some d->i=j:=λi j oi oj d hi hj h1 h2=>by
  exact Nb
 have Tp:∀(j:Nat) (io:bK),l[j]? =some io->∃v,T (j+1)=put (T j) io.dst v:=λj io hj=>(hrow.step j io hj).1.put
 have hTl:∀j,j<=l.length->(T j).length=(T 0).length:=by
  intro j
  induction j with
  |zero=>intro _;rfl
  |succ j ih=>
   intro hj;exact M3
 have RS:∀x y t,x<=y->y<=l.length->(∀(j:Nat) (o:bK),x<=j->j<y->l[j]? =some o->o.dst≠some t)->(T y).getD t ay=(T x).getD t ay:=by
  intro x y t hxy hy hno;exact z51
 have Uy:∀(j:Nat) (io:bK),l[j]? =some io->cF io.k=true->H (j+1)=H j:=λj io hj hk=>xS hk (hrow.step j io hj).1
 have Uz:∀x k,x+k<=l.length->(∀(j:Nat) (o:bK),x<=j->j<x+k->l[j]? =some o->cF o.k=true)->H (x+k)=H x:=by
  intro x k
  induction k with
  |zero=>intro _ _;rfl
  |succ k ih=>
   intro hk hno;exact Qq
 have XR:∀x k,x+k<=l.length->(∀(j:Nat) (o:bK),x<=j->j<x+k->l[j]? =some o->cF o.k=true\/kL o=true)->∃g,H (x+k)=H x++g:=by
  intro x k
  induction k with
  |zero=>intro _ _;exact⟨[],Si⟩
  |succ k ih=>
   intro hk hno;have hj:l[x+k]? =some (l[x+k]'Om):=YZ Om;obtain⟨g,hg⟩:=ih Om λj o h1 h2 h3=>hno j o h1 Om h3
   rcases hno _ _ Om Om hj with h1|h1
   ·exact⟨g,by rw[show x+(k+1)=x+k+1 from by omega,Uy _ _ hj h1,hg]⟩
   ·obtain⟨g2,VM⟩:=E9 h1 (hrow.step _ _ hj).1 (hrow.step _ _ hj).2;exact⟨g++g2,by rw[show x+(k+1)=x+k+1 from by omega,VM,hg,YV]⟩
 have UZ:∀x y,x<=l.length->y<=l.length->(∀(j:Nat) (o:bK),l[j]? =some o->cF o.k=false->(j<x↔j<y))->H x=H y:=by
  intro x y hx hy hno;exact Qy
 have hdone:∀(listed:Array Bool) (θ:Nat) (m1:bZ) (a1:Act) (w1:World),(∀i,i<ops.size->listed.getD i false=true)->θ<=l.length->
   (∀(j:Nat) (o:bK),l[j]? =some o->cF o.k=false->(j<θ↔listed.getD j false=true))->HR P m1 (H θ) w1->Grow m (H 0) w m1 (H θ) w1->a1.tmps.size=(T 0).length->
   (∀(d:Nat),(∀(j:Nat) (o:bK),l[j]? =some o->listed.getD j false=true->o.dst≠some d)->VR m1 ((T 0).getD d ay) (a1.tmps.getD d undef))->
   (∀(d j:Nat) (o:bK),l[j]? =some o->listed.getD j false=true->o.dst=some d->VR m1 ((T (j+1)).getD d ay) (a1.tmps.getD d undef))->a1.defers=a.defers->Q .normal a1 w1:=by
  intro listed θ m1 a1 w1 hall hθ hS hr hg eJ h1 h2 hd;have e:=UZ θ l.length hθ (Zc _) λj o hj hk=>by
   have T5:=(YU.1 hj).1;have:=(hS j o hj hk).2 (hall j Om);omega
  rw[e]at hr hg;refine hQ m1 a1 w1 ⟨hr,cK.gU ?_ ?_⟩ hg hd
  ·exact GN
  ·intro t x hx;exact QE
 have key:∀(fuel:Nat) (listed:Array Bool) (θ:Nat) (m1:bZ) (a1:Act) (w1:World),listed.size=ops.size->qN listed ops.size<=fuel->
   (∀j x,listed.getD j false=true->x<ops.size->ahead (Region.before ops) x j=true->listed.getD x false=true)->θ<=l.length->(θ<=dI l\/∃(j:Nat) (o:bK),l[j]? =some o/\cF o.k=false/\dI l<=j/\j<θ)->
   (∀(j:Nat) (o:bK),l[j]? =some o->cF o.k=false->(j<θ↔listed.getD j false=true))->HR P m1 (H θ) w1->Grow m (H 0) w m1 (H θ) w1->a1.tmps.size=(T 0).length->
   (∀(d:Nat),(∀(j:Nat) (o:bK),l[j]? =some o->listed.getD j false=true->o.dst≠some d)->VR m1 ((T 0).getD d ay) (a1.tmps.getD d undef))->
   (∀(d j:Nat) (o:bK),l[j]? =some o->listed.getD j false=true->o.dst=some d->VR m1 ((T (j+1)).getD d ay) (a1.tmps.getD d undef))->a1.defers=a.defers->wpAnyIn (Fd ro) 0 P .any ops Q fuel listed a1 w1:=by
  intro fuel
  induction fuel with
  |zero=>
   intro listed θ m1 a1 w1 RU hu hcl hθ hL hS hr hg eJ h1 h2 hd;have hall:=k9 ops.size (show qN listed ops.size=0 by omega);exact⟨lT RU hall,hdone listed θ m1 a1 w1 hall hθ hS hr hg eJ h1 h2 hd⟩
  |succ fuel ih=>
   intro listed θ m1 a1 w1 RU hu hcl hθ hL hS hr hg eJ h1 h2 hd;refine⟨λhrn=>hdone listed θ m1 a1 w1 (lS hed RU hrn) hθ hS hr hg eJ h1 h2 hd,λi hi=>?_⟩;obtain⟨o,ho,SR,Xd⟩:=(je RU).1 hi;have hin:i<ops.size:=(Zl.1 ho).1;obtain⟨io,hio,RP⟩:=RM i o (by simpa using ho);obtain⟨bV,_⟩:=hrow.step i io hio;have hahead:∀x,x<ops.size->ahead (Region.before ops) x i=true->listed.getD x false=true:=λx hx ha=>by
    exact z37
   have TO:∀j x,(listed.setIfInBounds i true).getD j false=true->x<ops.size->ahead (Region.before ops) x j=true->(listed.setIfInBounds i true).getD x false=true:=by
    intro j x hj hx ha;exact MK
   have Vs:qN (listed.setIfInBounds i true) ops.size<=fuel:=by
    exact MG
   have hslot:∀t,t∈o.looksAt ops->VR m1 ((T i).getD t ay) (a1.tmps.getD t undef):=by
    intro t ht;exact z12
   have hrp:∀{k:o6},cF k=false->fC k=false:=λ{k} hk=>by
    cases k<;>first|exact hk|(cases hk;done)
   have hld:∀{o:bK},cF o.k=false->mG o=false:=λ{o} hk=>by
    exact z164
   have hne:∀j,j≠i->(listed.setIfInBounds i true).getD j false=listed.getD j false:=λj hj=>by rw[cZ Om,Za hj]
   have WI:cF io.k=true->∀(j:Nat) (o:bK),l[j]? =some o->cF o.k=false->(j<θ↔(listed.setIfInBounds i true).getD j false=true):=λS4 j oj hj hk=>by
    have hji:j≠i:=λe=>by
     subst e;rw[hio]at hj;cases hj;rw[S4]at hk;cases hk
    rw[hne j hji];exact hS j oj hj hk
   have Sp:∃θ',θ'<=l.length/\(θ'<=dI l\/∃(j:Nat) (o:bK),l[j]? =some o/\cF o.k=false/\dI l<=j/\j<θ')/\(∀(j:Nat) (o:bK),l[j]? =some o->cF o.k=false->(j<θ'↔(listed.setIfInBounds i true).getD j false=true))/\∃hb h2,HR P m1 hb w1/\dB P io (T i) hb (T (i+1)) h2/\
     ∀m' w',HR P m' h2 w'->Grow m1 hb w1 m' h2 w'->HR P m' (H θ') w'/\Grow m1 (H θ) w1 m' (H θ') w':=by
    by_cases hp:fC io.k=true
    ·have S4:cF io.k=true:=by cases TJ:io.k<;>rw[TJ]at hp<;>first|exact hp|(cases hp;done)
     exact⟨θ,hθ,hL,WI S4,H θ,H θ,hr,(xW hp bV).2 _,λm' w' a b=>⟨a,b⟩⟩
    ·have XC:fC io.k=false:=by simpa using hp
     by_cases U8:mG io=true
     ·have S4:cF io.k=true:=by
       cases TJ:io.k<;>simp[mG,TJ]at U8<;>rfl
      have hθc:θ<=dI l:=by
       rcases hL with h|⟨j,oj,h1,h2,h3,h4⟩
       ·exact h
       ·have e:=hcl j i ((hS j oj h1 h2).1 h4) hin (hlate i j io oj hio U8 h1 h2 h3);rw[SR]at e;cases e
      exact⟨θ,hθ,hL,WI S4,H θ,H θ,hr,hstab i io hio U8 θ hθc,λm' w' a b=>⟨a,b⟩⟩
     have U8:mG io=false:=by simpa using U8
     by_cases S4:cF io.k=true
     ·obtain⟨n,ad,TJ⟩:∃n ad,io.k=.load n ad:=by
       cases TJ:io.k with
       |load n ad=>exact⟨n,ad,rfl⟩
       |_=>rw[TJ]at S4 hp;exact absurd S4 hp
      have hHh:∀(j:Nat) (o:bK),l[j]? =some o->cF o.k=false->kL o=false->(j<θ↔j<i):=λj oj hj hk RF=>by
       have T5:=(YU.1 hj).1;constructor
       ·intro VI;have TK:=(hS j oj hj hk).1 VI;by_cases e1:j=i
        ·exact GK
        ·by_cases e2:j<i
         ·exact e2
         ·have e3:=jm hmo (show i<j by omega) hio hj XC (hrp hk) U8 (hld hk) (.inr (.inr ⟨hk,RF⟩));have e4:=hcl j i TK hin e3;rw[SR]at e4;cases e4
       ·intro hji;exact(hS j oj hj hk).2 (hahead j Om (jm hmo hji hj hio (hrp hk) XC (hld hk) U8 (.inr (.inl ⟨hk,RF⟩))))
      have Uj:dB P io (T i) (H i) (T (i+1)) (H i):=by
       have e:=xS S4 bV;rw[e]at bV;exact bV
      by_cases SS:i<=θ
      ·obtain⟨g,VM⟩:=XR i (θ-i) Om λj oj h1 h2 h3=>by
        exact Qc
       rw[show i+(θ-i)=θ from by omega]at VM;refine⟨θ,hθ,hL,WI S4,H θ,H θ,hr,?_,λm' w' a b=>⟨a,b⟩⟩;rw[VM];exact Cb TJ Uj g
      ·obtain⟨g,VM⟩:=XR θ (i-θ) Om λj oj h1 h2 h3=>by
        exact Qc
       rw[show θ+(i-θ)=i from by omega]at VM;rw[VM]at Uj;refine⟨θ,hθ,hL,WI S4,H θ++g,H θ++g,hr.BU g,Uj,λm' w' a b=>?_⟩;have hm:m' =m1:=by
        funext z;by_cases hz:z<(H θ++g).length
        ·exact b.ext z hz
        ·have e1:m1 z=none:=by
          cases hx:m1 z with
          |none=>rfl
          |some e=>exact absurd ((hr.BU g).cL z e hx) hz
         have e2:m' z=none:=by
          cases hx:m' z with
          |none=>rfl
          |some e=>exact absurd (a.cL z e hx) hz
         rw[e1,e2]
       subst hm;exact⟨a.HD hr.cL,⟨λ_ _=>rfl,Zc _,λz e hz hmz=>absurd (hr.cL z e hmz) Om,λ_ _ x=>x,b.size,b.os,b.out,b.tape,b.frame⟩⟩
     ·have Tk:cF io.k=false:=by simpa using S4
      have hHi:H θ=H i:=UZ θ i hθ Om λj oj hj hk=>by
       have T5:=(YU.1 hj).1;constructor
       ·intro VI;have TK:=(hS j oj hj hk).1 VI;by_cases e1:j=i
        ·exact GK
        ·by_cases e2:j<i
         ·exact e2
         ·exact P9
       ·intro hji;exact(hS j oj hj hk).2 (hahead j Om (jm hmo hji hj hio (hrp hk) XC (hld hk) U8 (.inl ⟨hk,Tk⟩)))
      refine⟨i+1,Om,(by by_cases hc:i+1<=dI l;exact .inl hc;exact .inr ⟨i,io,hio,Tk,Om,Om⟩),λj oj hj hk=>?_,H θ,H (i+1),hr,by rw[hHi];exact bV,λm' w' a b=>⟨a,b⟩⟩;have T5:=(YU.1 hj).1;by_cases e1:j=i
      ·subst e1;rw[cZ Om,Zh rfl];exact⟨λ_=>rfl,λ_=>by omega⟩
      ·rw[hne j e1];constructor
       ·intro hji;exact hahead j Om (jm hmo (show j<i by omega) hj hio (hrp hk) XC (hld hk) U8 (.inl ⟨hk,Tk⟩))
       ·intro TK;by_cases e2:j<i
        ·omega
        ·exact P9
   obtain⟨θ',Yh,Wr,hS',hb,h2',WJ,Uj,To⟩:=Sp;refine fD ho RP WJ.gv WJ (by rw[eJ,hTl i Om]) hslot Uj ro _ Q ?_;intro cv v' m' w' Tg Ti hrx hgx;obtain⟨hr',R2⟩:=To m' w' hrx hgx;have Sd:io.dst=o.dst:=(dt RP).1;have Uh:=R2.le hr.cL;have hlt:(listed.setIfInBounds i true).getD i false=true:=by rw[cZ Om,Zh rfl]
   have UO:(a1.put o.dst cv).tmps=gM a1.tmps o.dst cv:=by cases o.dst<;>rfl
   refine ih _ θ' m' (a1.put o.dst cv) w' (by simp[RU]) Vs TO Yh Wr hS' hr' (hg.trans R2 st.hr.cL) (by rw[UO,fk];exact eJ) ?_ ?_ (by rw[put_defers];exact hd)
   ·intro d hdn;have TI:o.dst≠some d:=by rw[<-Sd];exact hdn i io hio hlt
    rw[UO,dD TI];refine VR.mono Uh _ _ (h1 d λj oj hj hl=>hdn j oj hj ?_);exact MH
   ·intro d j oj hj hl Ut;by_cases e1:j=i
    ·subst e1;rw[hio]at hj;cases hj;rw[Tg,UO,<-Sd,Ut];exact lA (by rw[eJ,hTl j Om]) Ti
    ·have TI:o.dst≠some d:=λhx=>by
      exact GU
     rw[UO,dD TI];rw[hne j e1]at hl;exact VR.mono Uh _ _ (h2 d j oj hj hl Ut)
 have RL:∀j,(Array.replicate ops.size false).getD j false=false:=λj=>by
  exact z75
 refine key ops.size (Array.replicate ops.size false) 0 m a _ Si ?_ (λj x hj _ _=>by simp[RL j]at hj) (ZA _) (.inl (ZA _)) (λj oj hj hk=>⟨λhx=>absurd hx Om,λhx=>by simp[RL j]at hx⟩) st.hr.drew (Grow.refl m _ w st.hr.cL).drew ?_ (λd _=>nK st.ts d) (λd j o _ hj _=>by simp[RL j]at hj) rfl
 ·exact ML
 ·exact z138
section
variable {P:Program}{m m':bZ}{h h':ah}{w w':World}
def vB{ops i o}(ho:ops[i]? =some o){q io}(hc:bU P ops q o=some io)(hgd0:io.gd=none){ts a v}
  (hg:GV P m) (hr:HR P m h w) (ht:∀t,t∈o.looksAt ops->VR m (ts.getD t ay) (a.tmps.getD t undef)) (hs:pO P io.k (val ts) h v h') (ro:Option Nat) (K:Act->World->Prop) (Q:Exit->Act->World->Prop)
  (hn:∀cv m' w',VR m' v cv->HR P m' h' w'->Grow m h w m' h' w'->K (a.put o.dst cv) w'):wpOpIn (Fd ro) 0 P ops Q i K a w:=by
 unfold bU at hc;split at hc
 case h_2=>cases hc
 rename_i g U9;cases hc;have hg0:g=none:=hgd0;subst hg0;have hw:=qL (m:=m) (ts:=ts) (a:=a) U9 (λt b UU=>by cases UU);unfold wpOpIn;rw[ho];simp only;rw[Zh (hw.2 trivial)];simp only at hs;split at hs
 case isFalse=>exact absurd hs oz
 rename_i hgok;cases hk:eA P o with
 |none=>rw[hk]at hs;exact absurd hs oz
 |some k=>
  rw[hk]at hs;refine vA hk (λx hx x' RI=>?_) (λz=>rfl) hr hs ro K Q (λcv m' w' h1 h2 h3=>hn cv m' w' h1 h2 h3);exact Qm
def At{n x}(h:yi x=true):iY n x:=by
 cases x<;>first
  |(cases h;done)
  |skip
 case bool b=>exact⟨λ_=>none,_,(λ_ _ z=>by cases z),rfl⟩
 case int k b=>exact⟨λ_=>none,_,(λ_ _ z=>by cases z),rfl⟩
 case wS k b=>exact⟨λ_=>none,.float k b,(λ_ _ z=>by cases z),⟨b,rfl,.inl rfl⟩⟩
 case wD k a b=>exact⟨λ_=>none,.complex k a b,(λ_ _ z=>by cases z),⟨a,b,rfl,.inl rfl,.inl rfl⟩⟩
 all_goals exact⟨λ_=>none,_,(λ_ _ z=>by cases z),rfl⟩
def yj{n x}(h:iY n x):∀y∈x.cells,iY n y:=by
 obtain⟨ma,va,h1,h2⟩:=h;intro y hy;obtain⟨i,hi,rfl⟩:=aa4 hy;obtain⟨v,_,hv⟩:=h2.cells.get (YZ hi);exact⟨ma,v,h1,hv⟩
theorem vd:∀{l c}{o}{x},x∈fM c o l->x∈c\/x∈l
 |[],c,o,x,h=>.inl h
 |y::l,c,o,x,h=>by
  have h:x∈fM (c.set o y) (o+1) l:=h;rcases vd h with h|h
  ·rcases aaJ h with h|h
   ·exact .inl h
   ·exact .inr (by rw[h];simp)
  ·exact .inr (ZH _ h)
theorem rF{n}:∀{ps}{z c},(∀x∈z,iY n x)->(∀p∈ps,iY n p.2.2)->eV z ps=some c->∀x∈c,iY n x
 |[],z,c,hz,_,h,x,hx=>by cases h;exact hz x hx
 |(off,k,v)::r,z,c,hz,hp,h,x,hx=>by
  rw[eV]at h;split at h
  ·refine rF (λy hy=>?_) (λp hq=>hp p (ZH _ hq)) h x hx;rcases vd hy with hy|hy
   ·exact hz y hy
   ·exact yj (hp (off,k,v) Si) y hy
  ·cases h
theorem uR:∀{n}{z}{x},x∈dO n z->x∈z
 | 0,z,x,h=>by simp[dO]at h
 |n+1,z,x,h=>by
  have h:x∈z++dO n z:=h;rcases Y8.1 h with h|h
  ·exact h
  ·exact uR h
def BY(gr:Grow m h w m' h' w')(hd:∀b e,m b=some e->b<h.length){e k}(hk:k.live=true)(hb:BR P m w e k)(hout:∀b e',m b=some e'->e'.cb≠e.cb):BR P m' w' e k/\∀b e',m' b=some e'->e'.cb≠e.cb:=by
 have hlt:=hb.lt hk;refine⟨(hb.heap (gr.frame e.cb hlt λb e' he _=>hout b e' he)).mono (gr.le hd),λb e' he=>?_⟩;by_cases hbl:b<h.length
 ·rw[gr.ext b hbl]at he;exact hout b e' he
 ·obtain⟨_,hc⟩:=gr.new b e' Om he;rcases hc with hc|⟨b0,e0,c1,c2,_⟩
  ·omega
  ·rw[<-c2];exact hout b0 e0 c1
def HR.yq(hr:HR P m h w){e k}(hk:k.live=true)(hb:BR P m w e k)(hout:∀b e',m b=some e'->e'.cb≠e.cb):HR P (m.add h.length e) (h++[k]) w:=by
 have SO:m h.length=none:=by
  exact MI
 have hle:m.le (m.add h.length e):=bZ.rQ _ SO;have RQ:∀b e',(m.add h.length e) b=some e'->(b=h.length/\e' =e)\/(b<h.length/\m b=some e'):=λb e' Tf=>by
  exact Qg
 refine⟨λb e' Tf=>?_,λb e' k' Tf hk'=>?_,λb1 b2 e1 e2 k1 k2 hne h1 h2 hk1 RF hcb=>?_,λg hg=>?_,λb e' Tf=>?_⟩
 ·rw[YT];rcases RQ b e' Tf with⟨rfl,_⟩|⟨hlt,_⟩
  ·simp
  ·simp;omega
 ·rcases RQ b e' Tf with⟨rfl,rfl⟩|⟨hlt,hm⟩
  ·rw[Zd (Zc _),Z6]at hk';cases hk';exact hb.mono hle
  ·rw[YY hlt]at hk';exact(hr.dR b e' k' hm hk').mono hle
 ·exact Qw
 ·obtain⟨e',he,hx⟩:=hr.ga g hg;exact⟨e',hle _ _ he,hx⟩
 ·rcases RQ b e' Tf with⟨_,rfl⟩|⟨_,hm⟩
  ·exact hb.lt hk
  ·exact hr.lt b e' hm
def Grow.yq{m0 h0 w0}(gr:Grow m0 h0 w0 m h w)(hd0:∀b e,m0 b=some e->b<h0.length)(hd:∀b e,m b=some e->b<h.length){e k}(ho:e.own=true)(hlt:w0.heap.size<=e.cb):Grow m0 h0 w0 (m.add h.length e) (h++[k]) w where
 ext:=λb hb=>by
  have:b≠h.length:=by have:=gr.len;omega
  show(if b=h.length then some e else m b)=_;rw[Za this];exact gr.ext b hb
 len:=by rw[YT];have:=gr.len;omega
 new:=λb e' hb he=>by
  unfold bZ.add at he;by_cases hx:b=h.length
  ·rw[Zh hx]at he;cases he;exact⟨ho,.inl hlt⟩
  ·rw[Za hx]at he;obtain⟨h1,hc⟩:=gr.new b e' hb he;refine⟨h1,?_⟩;rcases hc with hc|⟨b0,e0,c1,c2,c3,c4,c5⟩
   ·exact .inl hc
   ·have:=hd0 _ _ c1;exact .inr ⟨b0,e0,c1,c2,c3,c4,by rw[fH (by have:=gr.len;omega)];exact c5⟩
 tl:=λb hb ht=>by
  rw[fH (by have:=gr.len;omega)]at ht;exact gr.tl b hb ht
 size:=gr.size
 os:=gr.os
 out:=gr.out
 tape:=gr.tape
 frame:=gr.frame
end
def pX{M l f}(h:rn M l f=true){i j x y}(hij:i<j)(hx:l[i]? =some x)(hy:l[j]? =some y)(px:fC x.k=false)(py:fC y.k=false)(lx:mG x=false)(ly:mG y=false)(hj:j≠f):ahead M i j=true:=by
 have T5:j<l.length:=(YU.1 hy).1;unfold rn at h;rw[ZC]at h;have h1:=h j (aad.2 T5);rw[ZC]at h1;have h2:=h1 i (aad.2 hij);rw[hx,hy]at h2
 simpa [px,py,lx,ly,hj]using h2
structure Rv(ops:Array Oper)(l:List bK)(f df es n:Nat)(z:List AV)(ps:List (Nat×cV))(q:Bool):Prop where
 hf:l[f]? =some {dst:=some df,k:=.bg es n z ps,gd:=none,q:=q}
 hz:∀x∈z,yi x=true
 hp:∀p∈ps,∃u,p.2=.t u/\fG ops f u=true
 hr:∀j o,l[j]? =some o->cF o.k=true->(fC o.k=true\/mG o=true)/\fG ops j df=false
def ya{ops l f}(h:wk ops l f=true):∃df es n z ps q,Rv ops l f df es n z ps q:=by
 unfold wk at h;split at h
 case h_2=>cases h
 rename_i d es n z ps q hf;simp only[ZE,ZC,aad]at h;obtain⟨⟨h1,h2⟩,h3⟩:=h;refine⟨d,es,n,z,ps,q,hf,h1,λp hp=>?_,λj o hj hk=>?_⟩
 ·have:=h2 p hp;split at this
  ·rename_i u hu;exact⟨u,hu,this⟩
  ·cases this
 ·have:=h3 j (YU.1 hj).1;rw[hj]at this;simp only[hk,Zw,aa8,ZE,aaL,aan]at this;exact this
structure kQ(P:Program)(l:List bK)(f df:Nat)(k:ak)(T:Nat->TS)(H:Nat->ah)(m:bZ)(w:World)(listed:Array Bool)(θ:Nat)(m1:bZ)(tm:Array Value)(w1:World):Prop where
 hθ:θ<=l.length
 hL:θ<=dI l\/∃(j:Nat) (o:bK),l[j]? =some o/\cF o.k=false/\j≠f/\dI l<=j/\j<θ
 hS:∀(j:Nat) (o:bK),l[j]? =some o->cF o.k=false->j≠f->(j<θ↔listed.getD j false=true)
 hf:f<θ->listed.getD f false=true
 hr:HR P m1 (H θ) w1
 hg:Grow m (H 0) w m1 (H θ) w1
 eJ:tm.size=(T 0).length
 h1:∀(d:Nat),(∀(j:Nat) (o:bK),l[j]? =some o->listed.getD j false=true->o.dst≠some d)->VR m1 ((T 0).getD d ay) (tm.getD d undef)
 h2:∀(d j:Nat) (o:bK),l[j]? =some o->listed.getD j false=true->o.dst=some d->(j=f->f<θ)->VR m1 ((T (j+1)).getD d ay) (tm.getD d undef)
 pd:listed.getD f false=true->θ<=f->∃e:sK,BR P m1 w1 e k/\e.own=true/\w.heap.size<=e.cb/\(∀b e',m1 b=some e'->e'.cb≠e.cb)/\∀m':bZ,m1.le m'->m' (H f).length=some e->VR m' ((T (f+1)).getD df ay) (tm.getD df undef)
def xR{P cq f}(hmix:P.follows .mixedOrders=true){ops l}(hed:kG (Region.before ops) ops=true)(hsl:lQ (Region.before ops) ops=true)
  (hc:eX (λ_ o=>bU P ops (si cq o) o) ops.toList 0=some l) (hfo:wk ops l f=true) (hmo:rn (Region.before ops) l f=true) {T}{H}(hrow:Row P l T H) (hstab:∀(i:Nat) (io:bK),l[i]? =some io->mG io=true->∀θ,θ<=dI l->dB P io (T i) (H θ) (T (i+1)) (H θ)) (hlate:∀(i j:Nat) (x y:bK),l[i]? =some x->mG x=true->l[j]? =some y->cF y.k=false->dI l<=j->ahead (Region.before ops) i j=true) {m}{a}{w}
  (st:St P m (T 0) (H 0) a w) (ro:Option Nat) (Q:Exit->Act->World->Prop) (hQ:∀m' a' w',St P m' (T l.length) (H l.length) a' w'->Grow m (H 0) w m' (H l.length) w'->a'.defers=a.defers->Q .normal a' w') (id:Nat):
  (Code.region id ops true).wpIn (Fd ro) 0 P Q a w:=by
 obtain⟨df,es,n,zz,ps,qf,F⟩:=ya hfo;refine wpIn_region_any hmix ?_;obtain⟨RY,RM⟩:=gh hc;simp only[aa7]at RY;have VT:∀(j:Nat) (io:bK),l[j]? =some io->∃o,ops[j]? =some o/\bU P ops (si cq o) o=some io:=λj io hj=>by
  exact M9
 have SV:∀(j:Nat) (io:bK) (d:Nat),l[j]? =some io->io.dst=some d->∃o,ops[j]? =some o/\o.dst=some d:=λj io d hj hd=>by
  exact MZ
 have huniq:∀(i j:Nat) (oi oj:bK) (d:Nat),l[i]? =some oi->l[j]? =some oj->oi.dst=some d->oj.dst=some d->i=j:=λi j oi oj d hi hj h1 h2=>by
  exact Nb
 have Tp:∀(j:Nat) (io:bK),l[j]? =some io->∃v,T (j+1)=put (T j) io.dst v:=λj io hj=>(hrow.step j io hj).1.put
 have hTl:∀j,j<=l.length->(T j).length=(T 0).length:=by
  intro j
  induction j with
  |zero=>intro _;rfl
  |succ j ih=>
   intro hj;exact M3
 have RS:∀x y t,x<=y->y<=l.length->(∀(j:Nat) (o:bK),x<=j->j<y->l[j]? =some o->o.dst≠some t)->(T y).getD t ay=(T x).getD t ay:=by
  intro x y t hxy hy hno;exact z51
 have Uy:∀(j:Nat) (io:bK),l[j]? =some io->cF io.k=true->H (j+1)=H j:=λj io hj hk=>xS hk (hrow.step j io hj).1
 have Uz:∀x k,x+k<=l.length->(∀(j:Nat) (o:bK),x<=j->j<x+k->l[j]? =some o->cF o.k=true)->H (x+k)=H x:=by
  intro x k
  induction k with
  |zero=>intro _ _;rfl
  |succ k ih=>
   intro hk hno;exact Qq
 have UZ:∀x y,x<=l.length->y<=l.length->(∀(j:Nat) (o:bK),l[j]? =some o->cF o.k=false->(j<x↔j<y))->H x=H y:=by
  intro x y hx hy hno;exact Qy
 have R7:f<l.length:=(YU.1 F.hf).1;obtain⟨cf,mu,tl,S2,hTf,hHf,hcf⟩:∃cf mu tl,eV (dO n zz) (ps.map λp=>(p.1,es,val (T f) p.2))=some cf/\T (f+1)=put (T f) (some df) (.slice (H f).length 0 n es)/\H (f+1)=H f++[.cells cf mu tl]/\∀g:ah,pO P (.bg es n zz ps) (val (T f)) g (.slice g.length 0 n es) (g++[.cells cf mu tl]):=by
  have Yo:=(hrow.step f _ F.hf).1;generalize hx:T (f+1)=tx at Yo;generalize hy:H (f+1)=hyy at Yo;cases Yo with
  |run hw hb hs=>
   have hs:mM (.bg es n zz ps) _ _ _ _:=hs;obtain⟨c,mu,tl,q1,q2,q3,rfl,rfl⟩:=hs;exact⟨c,mu,tl,q1,rfl,rfl,λg=>⟨c,mu,tl,q1,q2,q3,rfl,rfl⟩⟩
  |skip hw=>exact absurd trivial hw
 have Wm:(ak.cells cf mu tl).live=true:=rfl;have hrp:∀{k:o6},cF k=false->fC k=false:=λ{k} hk=>by
  cases k<;>first|exact hk|(cases hk;done)
 have hld:∀{o:bK},cF o.k=false->mG o=false:=λ{o} hk=>by
  exact z164
 have XA:∀(listed:Array Bool) (θ:Nat) (m1:bZ) (tm:Array Value) (w1:World),kQ P l f df (.cells cf mu tl) T H m w listed θ m1 tm w1->listed.getD f false=true->θ<=f->(∀(j:Nat) (o:bK),l[j]? =some o->cF o.k=false->j<f->listed.getD j false=true)->
   ∃m2,kQ P l f df (.cells cf mu tl) T H m w listed (f+1) m2 tm w1:=by
  intro listed θ m1 tm w1 I YA Yg hall;have e:H θ=H f:=UZ θ f I.hθ Om λj oj hj hk=>by
   by_cases hjf:j=f
   ·subst hjf;omega
   ·constructor
    ·intro h;omega
    ·intro h;exact(I.hS j oj hj hk hjf).2 (hall j oj hj hk h)
  obtain⟨en,b1,b2,b3,b4,b5⟩:=I.pd YA Yg;have hr:=I.hr;have hg:=I.hg;rw[e]at hr hg;have SO:m1 (H f).length=none:=by
   cases hx:m1 (H f).length with
   |none=>rfl
   |some y=>exact absurd (hr.cL _ _ hx) Om
  have Uh:m1.le (m1.add (H f).length en):=bZ.rQ _ SO;refine⟨m1.add (H f).length en,⟨Om,.inl (by have:=yX F.hf rfl;omega),λj oj hj hk hjf=>?_,λ_=>YA,by rw[hHf];exact hr.yq Wm b1 b4,by rw[hHf];exact hg.yq st.hr.cL hr.cL b2 b3,I.eJ,λd hd=>VR.mono Uh _ _ (I.h1 d hd),λd j oj hj hl hd _=>?_,λ_ hx=>absurd hx Om⟩⟩
  ·constructor
   ·intro h;exact hall j oj hj hk Om
   ·intro h;have:=(I.hS j oj hj hk hjf).2 h;omega
  ·by_cases hjf:j=f
   ·subst hjf;rw[F.hf]at hj;cases hj;cases hd;exact b5 _ Uh (by simp[bZ.add])
   ·exact VR.mono Uh _ _ (I.h2 d j oj hj hl hd λz=>absurd z hjf)
 have To:∀(listed:Array Bool) (θ:Nat) (m1:bZ) (a1:Act) (w1:World),(∀i,i<ops.size->listed.getD i false=true)->kQ P l f df (.cells cf mu tl) T H m w listed θ m1 a1.tmps w1->f<θ->a1.defers=a.defers->Q .normal a1 w1:=by
  intro listed θ m1 a1 w1 hall I hfθ hd;have e:=UZ θ l.length I.hθ (Zc _) λj o hj hk=>by
   have T5:=(YU.1 hj).1;by_cases hjf:j=f
   ·subst hjf;omega
   ·have:=(I.hS j o hj hk hjf).2 (hall j Om);omega
  have hr:=I.hr;have hg:=I.hg;rw[e]at hr hg;have eJ:=I.eJ;refine hQ m1 a1 w1 ⟨hr,cK.gU ?_ ?_⟩ hg hd
  ·exact GN
  ·intro t x hx;have hlt:=(YU.1 hx).1;have R6:t<a1.tmps.size:=by have:=hTl l.length (Zc _);omega
   have ex:(T l.length).getD t ay=x:=by simp[List.getD,hx]
   have ey:a1.tmps.getD t undef=a1.tmps[t]:=by simp[ZP,ZT R6]
   refine⟨a1.tmps[t],Si,?_⟩;rw[<-ex,<-ey];by_cases hw:∃(j:Nat) (o:bK),l[j]? =some o/\o.dst=some t
   ·obtain⟨j,o,hj,ho⟩:=hw;have T5:=(YU.1 hj).1;rw[RS (j+1) l.length t Om (Zc _) (λk o' a2 a3 a4 a5=>by have:=huniq j k o o' t hj a4 ho a5;omega)];exact I.h2 t j o hj (hall j Om) ho λ_=>hfθ
   ·rw[RS 0 l.length t Om (Zc _) (λk o' _ _ h4 h5=>hw ⟨k,o',h4,h5⟩)];exact I.h1 t λj o hj _ ho=>hw ⟨j,o,hj,ho⟩
 have hdone:∀(listed:Array Bool) (θ:Nat) (m1:bZ) (a1:Act) (w1:World),(∀i,i<ops.size->listed.getD i false=true)->kQ P l f df (.cells cf mu tl) T H m w listed θ m1 a1.tmps w1->a1.defers=a.defers->Q .normal a1 w1:=by
  intro listed θ m1 a1 w1 hall I hd;by_cases hfθ:f<θ
  ·exact To listed θ m1 a1 w1 hall I hfθ hd
  ·obtain⟨m2,I2⟩:=XA listed θ m1 a1.tmps w1 I (hall f Om) Om λj o hj _ _=>hall j (by have:=(YU.1 hj).1;omega)
   exact To listed (f+1) m2 a1 w1 hall I2 Om hd
 have key:∀(fuel:Nat) (listed:Array Bool) (θ:Nat) (m1:bZ) (a1:Act) (w1:World),listed.size=ops.size->qN listed ops.size<=fuel->
   (∀j x,listed.getD j false=true->x<ops.size->ahead (Region.before ops) x j=true->listed.getD x false=true)->kQ P l f df (.cells cf mu tl) T H m w listed θ m1 a1.tmps w1->a1.defers=a.defers->wpAnyIn (Fd ro) 0 P .any ops Q fuel listed a1 w1:=by
  intro fuel
  induction fuel with
  |zero=>
   intro listed θ m1 a1 w1 RU hu hcl I hd;have hall:=k9 ops.size (show qN listed ops.size=0 by omega);exact⟨lT RU hall,hdone listed θ m1 a1 w1 hall I hd⟩
  |succ fuel ih=>
   intro listed θ m1 a1 w1 RU hu hcl I hd;refine⟨λhrn=>hdone listed θ m1 a1 w1 (lS hed RU hrn) I hd,λi hi=>?_⟩;obtain⟨o,ho,SR,Xd⟩:=(je RU).1 hi;have hin:i<ops.size:=(Zl.1 ho).1;obtain⟨io,hio,RP⟩:=RM i o (by simpa using ho);have RP:bU P ops (si cq o) o=some io:=RP;obtain⟨bV,_⟩:=hrow.step i io hio;have hahead:∀x,x<ops.size->ahead (Region.before ops) x i=true->listed.getD x false=true:=λx hx ha=>by
    exact z37
   have TO:∀j x,(listed.setIfInBounds i true).getD j false=true->x<ops.size->ahead (Region.before ops) x j=true->(listed.setIfInBounds i true).getD x false=true:=by
    intro j x hj hx ha;exact MK
   have Vs:qN (listed.setIfInBounds i true) ops.size<=fuel:=by
    exact MG
   have hne:∀j,j≠i->(listed.setIfInBounds i true).getD j false=listed.getD j false:=λj hj=>by rw[cZ Om,Za hj]
   have hlt:(listed.setIfInBounds i true).getD i false=true:=by rw[cZ Om,Zh rfl]
   have Sd:io.dst=o.dst:=(dt RP).1;have hslot:∀(θ:Nat) (m1:bZ) (tm:Array Value) (w1:World),kQ P l f df (.cells cf mu tl) T H m w listed θ m1 tm w1->(listed.getD f false=true->θ<=f->i<f\/fG ops i df=false)->∀t,t∈o.looksAt ops->VR m1 ((T i).getD t ay) (tm.getD t undef):=by
    intro θ m1 tm w1 I hnp t ht;by_cases hex:∃(x:Nat) (ox:bK),l[x]? =some ox/\listed.getD x false=true/\ox.dst=some t
    ·obtain⟨x,ox,hx,hxl,U4⟩:=hex;obtain⟨oo,Ul,Vl⟩:=SV x ox t hx U4;have hxi:x<i:=by
      by_cases e1:x=i
      ·subst e1;rw[SR]at hxl;cases hxl
      ·by_cases e2:x<i
       ·exact e2
       ·have e3:=(cO hsl (show i<x by omega) ho Ul).2 t Vl ht;have e4:=hcl x i hxl hin e3;rw[SR]at e4;cases e4
     rw[RS (x+1) i t Om Om (λk o' a2 a3 a4 a5=>by have:=huniq x k ox o' t hx a4 U4 a5;omega)];refine I.h2 t x ox hx hxl U4 λhxf=>?_
     subst hxf;by_cases hh:x<θ
     ·exact hh
     ·rcases hnp hxl (by omega)with h|h
      ·omega
      ·rw[F.hf]at hx;cases hx;cases U4;unfold fG at h;rw[ho]at h;simp only at h;have:=List.contains_iff_mem.2 ht;rw[this]at h;cases h
    ·rw[RS 0 i t Om Om (λk o' e2 e3 e4 e5=>by
      obtain⟨oo,Ul,Sd⟩:=SV k o' t e4 e5;have h6:=((cO hsl e3 Ul ho).1 t Sd).2 ht;exact hex ⟨k,o',e4,hahead k (Zl.1 Ul).1 h6,e5⟩)]
     exact I.h1 t λj oj hj hl Sd=>hex ⟨j,oj,hj,hl,Sd⟩
   have hadv:i≠f->∀(θ θ':Nat) (m1 m':bZ) (tm:Array Value) (w1 w':World) (cv:Value) (v':AV),kQ P l f df (.cells cf mu tl) T H m w listed θ m1 tm w1->θ'<=l.length->(θ'<=dI l\/∃(j:Nat) (o:bK),l[j]? =some o/\cF o.k=false/\j≠f/\dI l<=j/\j<θ')->(∀(j:Nat) (o:bK),l[j]? =some o->cF o.k=false->j≠f->(j<θ'↔(listed.setIfInBounds i true).getD j false=true))->(f<θ'↔f<θ)->
     T (i+1)=put (T i) o.dst v'->VR m' v' cv->HR P m' (H θ') w'->Grow m1 (H θ) w1 m' (H θ') w'->kQ P l f df (.cells cf mu tl) T H m w (listed.setIfInBounds i true) θ' m' (gM tm o.dst cv) w':=by
    intro UT θ θ' m1 m' tm w1 w' cv v' I Yh Wr hS' hff Tg Ti hr' R2;have Uh:=R2.le I.hr.cL;refine⟨Yh,Wr,hS',λh=>?_,hr',I.hg.trans R2 st.hr.cL,by rw[fk];exact I.eJ,λd hdn=>?_,λd j oj hj hl Ut hjf=>?_,λYA Yg=>?_⟩
    ·rw[hne f (aai UT)];exact I.hf (hff.1 h)
    ·have TI:o.dst≠some d:=by rw[<-Sd];exact hdn i io hio hlt
     rw[dD TI];refine VR.mono Uh _ _ (I.h1 d λj oj hj hl=>hdn j oj hj ?_);exact MH
    ·by_cases e1:j=i
     ·subst e1;rw[hio]at hj;cases hj;rw[Tg,<-Sd,Ut];exact lA (by rw[I.eJ,hTl j Om]) Ti
     ·have TI:o.dst≠some d:=λhx=>by
       exact GU
      rw[dD TI];rw[hne j e1]at hl;exact VR.mono Uh _ _ (I.h2 d j oj hj hl Ut λz=>hff.1 (hjf z))
    ·rw[hne f (aai UT)]at YA;obtain⟨e,b1,b2,b3,b4,b5⟩:=I.pd YA (by have:=hff.2;omega);obtain⟨c1,c2⟩:=BY R2 I.hr.cL Wm b1 b4;have TI:o.dst≠some df:=λhx=>by
      rw[<-Sd]at hx;exact UT (huniq i f io _ df hio F.hf hx rfl)
     refine⟨e,c1,b2,b3,c2,λm2 Wl RO=>?_⟩;rw[dD TI];exact b5 m2 (bZ.le_trans Uh Wl) RO
   have UO:∀cv,(a1.put o.dst cv).tmps=gM a1.tmps o.dst cv:=λcv=>by cases o.dst<;>rfl
   by_cases UT:i=f
   ·
    subst UT;rw[F.hf]at hio;cases hio;have Yg:θ<=i:=by
     by_cases hh:i<θ
     ·have:=I.hf hh;rw[SR]at this;cases this
     ·omega
    refine vB ho RP rfl I.hr.gv I.hr (hslot θ m1 a1.tmps w1 I λh=>by rw[SR]at h;cases h) (hcf (H θ)) ro _ Q ?_;intro cv m' w' hv hr' R2;have hclos:∀x∈cf,iY (H θ).length x:=rF (λx hx=>At (F.hz x (uR hx))) (λp hp=>by
     obtain⟨q,hq,rfl⟩:=ZB.1 hp;obtain⟨u,hu,SK⟩:=F.hp q hq;have hu2:u∈o.looksAt ops:=by
      unfold fG at SK;rw[ho]at SK;exact List.contains_iff_mem.1 SK
     have:=hslot θ m1 a1.tmps w1 I (λh=>by rw[SR]at h;cases h) u hu2;show iY _ (val (T i) q.2);rw[hu];exact⟨m1,_,I.hr.cL,this⟩) S2
    have hcb:qk (H θ).length (.cells cf mu tl):=λj x hx=>hclos x (ZV hx)
    have hup:m'.dF (H θ).length=m1:=by
     funext b;unfold bZ.dF;by_cases hb:b<(H θ).length
     ·rw[Zh hb];exact R2.ext b hb
     ·rw[Za hb];cases hx:m1 b with
      |none=>rfl
      |some e=>exact absurd (I.hr.cL b e hx) hb
    have SN:=HR.forget I.hr hr' R2;have VM:=R2.forget;rw[hup]at SN VM;have Vr:=hv;rw[VR]at Vr;obtain⟨e,ca,cap,he,SM⟩:=Vr;have hb:=(hr'.dR _ e (.cells cf mu tl) he Si).cut hcb;rw[hup]at hb;obtain⟨ho1,hc⟩:=R2.new _ e (Zc _) he;have hcbl:w1.heap.size<=e.cb:=by
     rcases hc with hc|⟨b0,e0,c1,c2,c3,c4,c5⟩
     ·exact hc
     ·rw[fH (I.hr.cL _ _ c1),c4]at c5;cases c5
    have Ty:o.dst=some df:=Sd.symm;refine ih _ θ m1 (a1.put o.dst cv) w' (by simp[RU]) Vs TO ?_ (by rw[put_defers];exact hd);rw[UO];refine⟨I.hθ,I.hL,λj oj hj hk hjf=>by rw[hne j hjf];exact I.hS j oj hj hk hjf,λh=>by omega,SN,I.hg.trans VM st.hr.cL,by rw[fk];exact I.eJ,λd hdn=>?_,λd j oj hj hl Ut hjf=>?_,λ_ _=>⟨e,hb,ho1,ZR I.hg.size hcbl,λb e' Tf=>by have:=I.hr.lt b e' Tf;omega,λm2 Wl RO=>?_⟩⟩
    ·have TI:o.dst≠some d:=by rw[Ty];exact hdn i _ F.hf hlt
     rw[dD TI];refine I.h1 d λj oj hj hl=>hdn j oj hj ?_
     exact MH
    ·by_cases e1:j=i
     ·have:=hjf e1;omega
     ·have TI:o.dst≠some d:=λhx=>by
       rw[Ty]at hx;exact e1 (huniq j i oj _ d hj F.hf Ut hx)
      rw[dD TI];rw[hne j e1]at hl;exact I.h2 d j oj hj hl Ut hjf
    ·rw[hTf,Ty];exact lA (by rw[I.eJ,hTl i Om]) (by rw[VR];exact⟨e,ca,cap,RO,SM⟩)
   by_cases S4:cF io.k=true
   ·
    obtain⟨UQ,T4⟩:=F.hr i io hio S4;have Uj:dB P io (T i) (H θ) (T (i+1)) (H θ):=by
     rcases UQ with hp|hp
     ·exact(xW hp bV).2 _
     ·refine hstab i io hio hp θ ?_;rcases I.hL with h|⟨j,oj,h1,h2,h5,h3,h4⟩
      ·exact h
      ·have e:=hcl j i ((I.hS j oj h1 h2 h5).1 h4) hin (hlate i j io oj hio hp h1 h2 h3);rw[SR]at e;cases e
    refine fD ho RP I.hr.gv I.hr (by rw[I.eJ,hTl i Om]) (hslot θ m1 a1.tmps w1 I λ_ _=>.inr T4) Uj ro _ Q ?_;intro cv v' m' w' Tg Ti hrx hgx;refine ih _ θ m' (a1.put o.dst cv) w' (by simp[RU]) Vs TO ?_ (by rw[put_defers];exact hd);rw[UO];refine hadv UT θ θ m1 m' a1.tmps w1 w' cv v' I I.hθ I.hL (λj oj hj hk hjf=>?_) Iff.rfl Tg Ti hrx hgx;have hji:j≠i:=λe=>by
     subst e;rw[hio]at hj;cases hj;rw[S4]at hk;cases hk
    rw[hne j hji];exact I.hS j oj hj hk hjf
   ·have Tk:cF io.k=false:=by simpa using S4
    have hheavy:∀(j:Nat) (oj:bK),l[j]? =some oj->cF oj.k=false->j<i->listed.getD j false=true:=λj oj hj hk hji=>
     hahead j (by have:=(YU.1 hj).1;omega) (pX hmo hji hj hio (hrp hk) (hrp Tk) (hld hk) (hld Tk) UT)
    have hlate:∀(j:Nat) (oj:bK),l[j]? =some oj->cF oj.k=false->j≠f->i<j->listed.getD j false=false:=λj oj hj hk hjf hij=>by
     cases hx:listed.getD j false with
     |false=>rfl
     |true=>
      have e3:=pX hmo hij hio hj (hrp Tk) (hrp hk) (hld Tk) (hld hk) hjf;have e4:=hcl j i hx hin e3;rw[SR]at e4;cases e4
    obtain⟨X1,m2,I1,hff⟩:∃X1 m2,kQ P l f df (.cells cf mu tl) T H m w listed X1 m2 a1.tmps w1/\(f<X1↔f<i):=by
     by_cases hfi:f<i
     ·have YA:=hheavy f _ F.hf rfl hfi;by_cases hfθ:f<θ
      ·exact⟨θ,m1,I,Om⟩
      ·obtain⟨m2,I2⟩:=XA listed θ m1 a1.tmps w1 I YA Om λj oj hj hk hjf=>hheavy j oj hj hk Om
       exact⟨f+1,m2,I2,Om⟩
     ·refine⟨θ,m1,I,⟨λh=>?_,λh=>absurd h hfi⟩⟩;have:=(I.hS i io hio Tk UT).1 Om;rw[SR]at this;cases this
    have hHi:H X1=H i:=UZ X1 i I1.hθ Om λj oj hj hk=>by
     by_cases hjf:j=f
     ·subst hjf;exact hff
     ·constructor
      ·intro VI;have TK:=(I1.hS j oj hj hk hjf).1 VI;by_cases e1:j=i
       ·exact GK
       ·by_cases e2:j<i
        ·exact e2
        ·exact JD
      ·intro hji;exact(I1.hS j oj hj hk hjf).2 (hheavy j oj hj hk hji)
    refine fD ho RP I1.hr.gv I1.hr (by rw[I1.eJ,hTl i Om]) (hslot X1 m2 a1.tmps w1 I1 λ_ h2=>.inl Om) (by rw[hHi];exact bV) ro _ Q ?_;intro cv v' m' w' Tg Ti hrx hgx;refine ih _ (i+1) m' (a1.put o.dst cv) w' (by simp[RU]) Vs TO ?_ (by rw[put_defers];exact hd);rw[UO];refine hadv UT X1 (i+1) m2 m' a1.tmps w1 w' cv v' I1 Om (by by_cases hc:i+1<=dI l;exact .inl hc;exact .inr ⟨i,io,hio,Tk,UT,Om,Om⟩) (λj oj hj hk hjf=>?_) Om Tg Ti hrx hgx;by_cases e1:j=i
    ·subst e1;exact⟨λ_=>hlt,λ_=>by omega⟩
    ·rw[hne j e1];constructor
     ·intro hji;exact hheavy j oj hj hk Om
     ·intro TK;by_cases e2:j<i
      ·omega
      ·exact JD
 have RL:∀j,(Array.replicate ops.size false).getD j false=false:=λj=>by
  exact z75
 refine key ops.size (Array.replicate ops.size false) 0 m a _ Si ?_ (λj x hj _ _=>by simp[RL j]at hj) ⟨ZA _,.inl (ZA _),(λj oj hj hk _=>⟨λhx=>absurd hx Om,λhx=>by simp[RL j]at hx⟩),(λhx=>absurd hx Om),st.hr.drew,(Grow.refl m _ w st.hr.cL).drew,?_,(λd _=>nK st.ts d),(λd j o _ hj _ _=>by simp[RL j]at hj),λhx=>by simp[RL f]at hx⟩ rfl
 ·exact ML
 ·exact z138
def dZ{P ops draw c}(h:nw P ops draw=some c):
  (∃l,c=.ops l/\(cN P ops draw=some l\/(draw=true/\(∃l',cN P ops draw=some l')/\∃cq,eX (λ_ o=>bU P ops (si cq o) o) ops.toList 0=some l/\nW (Region.before ops) l=true/\l.any mG=false)))\/
  (∃l,c=.sg l/\draw=true/\(∃l',cN P ops draw=some l')/\eX (λ_ o=>bU P ops false o) ops.toList 0=some l)\/
  (∃l,c=.my l/\draw=true/\(∃l',cN P ops draw=some l')/\∃cq,eX (λ_ o=>bU P ops (si cq o) o) ops.toList 0=some l/\(nW (Region.before ops) l=true\/∃f,wk ops l f=true/\rn (Region.before ops) l f=true)/\nh (Region.before ops) l=true):=by
 unfold nw at h;split at h
 ·cases h
 ·rename_i l hl;split at h
  ·rename_i hq;split at h
   ·rename_i l' l2 l3 RJ hl2 YB;split at h
    ·rename_i hm;rw[ZE,aan]at hm;cases h;exact .inl ⟨l',rfl,.inr ⟨hq.2,⟨l,hl⟩,0,RJ,hm.1,hm.2⟩⟩
    ·split at h
     ·rename_i hm;rw[ZE,aan]at hm;cases h;exact .inl ⟨l2,rfl,.inr ⟨hq.2,⟨l,hl⟩,1,hl2,hm.1,hm.2⟩⟩
     ·split at h
      ·exact z53
      ·split at h
       ·split at h
        ·rename_i hm;rw[ZE,ZE]at hm;cases h;exact .inr (.inr ⟨l3,rfl,hq.2,⟨l,hl⟩,2,YB,.inl hm.1.2,hm.2⟩)
        ·cases h;exact .inr (.inl ⟨l',rfl,hq.2,⟨l,hl⟩,RJ⟩)
       ·split at h
        ·rename_i hm;rw[ZE]at hm;cases h;exact .inr (.inr ⟨l3,rfl,hq.2,⟨l,hl⟩,2,YB,.inl hm.1,hm.2⟩)
        ·split at h
         ·exact z53
         ·cases h;exact .inl ⟨l,rfl,.inl hl⟩
   ·cases h
  ·cases h;exact .inl ⟨l,rfl,.inl hl⟩
def Marks(m:bZ)(w:World)(lo:Nat)(ds:List Deferred):Prop:=
 ∃rs:List Nat,ds=rs.map (λr=>({target:=.collected r,args:=#[] }:Deferred))/\rs.Nodup/\∀r∈rs,lo<=r/\w.heap[r]? =some (.deferred (some []))/\∀b e,m b=some e->e.cb≠r
def Marks.nil(m:bZ)(w:World)(lo:Nat):Marks m w lo []:=⟨[],rfl,Si,Si⟩
def Marks.grow{m m' h h' w w' lo ds}(k:Marks m w lo ds)(g:Grow m h w m' h' w')(hd:∀b e,m b=some e->b<h.length):Marks m' w' lo ds:=by
 obtain⟨rs,h1,h2,h3⟩:=k;refine⟨rs,h1,h2,λr hr=>?_⟩;obtain⟨a,b,c⟩:=h3 r hr;have hlt:r<w.heap.size:=(Zl.1 b).1;refine⟨a,?_,?_⟩
 ·rw[g.frame r hlt (λb e hb _=>c b e hb)];exact b
 ·intro b' e hb;by_cases hx:b'<h.length
  ·rw[g.ext b' hx]at hb;exact c b' e hb
  ·obtain⟨_,hc⟩:=g.new b' e Om hb;rcases hc with hc|⟨b0,e0,c1,c2,_⟩
   ·omega
   ·rw[<-c2];exact c b0 e0 c1
def Ev(P:Program)(ro:Option Nat)(c:ai)(ts:TS)(h:ah)(e:Ex)(ts':TS)(h':ah):Prop:=
 ∀cc,compile P cc=some c->∀(m:bZ) (a:Act) (w:World) (lo:Nat),lo<=w.heap.size->St P m ts h a w->Marks m w lo a.defers->∀Q:Exit->Act->World->Prop,
  (∀m' a' w',St P m' ts' h' a' w'->Grow m h w m' h' w'->Marks m' w' lo a'.defers->Q e.CB a' w')->cc.wpIn (Fd ro) 0 P Q a w
section
variable {P:Program}{b:Frame}{a:Act}{k:List Item}{cs:List Frame}{w:World}{Q:Exit->Act->World->Prop}{F:Fence}{n:Nat}
def gj{c}:step P (lone (b.atR a (.code (.scope c)::k)) cs w)=.next (lone (b.atR a (.code c:: .inScope c::k)) cs w):=
 step_lone_go (by simp[stepG,stepG.exec,Frame.atR])
def r9{c}:step P (lone (b.atR a (.inScope c::k)) cs w)=.next (lone (b.atR a k) cs w):=
 step_lone_go (by simp[stepG,stepG.exec,Frame.atR])
def noGoto(Q:Exit->Act->World->Prop):Exit->Act->World->Prop
 |.goto _,_,_=>False
 |e,a,w=>Q e a w
def wW{c}(h:c.wpIn F n P (noGoto Q) a w):(Code.scope c).wpIn F n P Q a w:=by
 intro b k cs hro hb hr;have h0:(lone (b.atR a (.code (.scope c)::k)) cs w).fenced P F:=fenced_calm hb hr rfl;obtain⟨e,V9,Vg,hq,Sv⟩:=h b (.inScope c::k) cs hro hb hr;cases e with
 |normal=>exact⟨.normal,V9,Vg,hq,.head h0 gj (StepsIn.trans Sv (.one (fenced_calm hb hr rfl) r9))⟩
 |exit id=>
  have hx:exitTo id (.inScope c::k)=exitTo id k:=by simp[exitTo]
  exact⟨.exit id,V9,Vg,hq,λk' hk=>.head h0 gj (Sv.1 k' (by rw[hx];exact hk)),
   λhr' hk=>let ⟨k₁,h1,h2⟩:=Sv.2 hr' (by rw[hx];exact hk);⟨k₁,h1,.head h0 gj h2⟩⟩
 |goto l=>exact hq.elim
 |ret=>exact⟨.ret,V9,Vg,hq,.of_steps (.one h0 gj) Sv⟩
 |panic ch=>exact⟨.panic ch,V9,Vg,hq,.of_steps (.one h0 gj) Sv⟩
 |outgrown=>exact⟨.outgrown,V9,Vg,hq,.of_steps (.one h0 gj) Sv⟩
end
section
variable {P:Program}{ro:Option Nat}{c x y:ai}{ts Ts ts':TS}{h h1 h':ah}{e:Ex}
def Ev.of (H:∀cc,(∀a,cc≠.scope a)->compile P cc=some c->∀(m:bZ) (a:Act) (w:World) (lo:Nat),lo<=w.heap.size->St P m ts h a w->Marks m w lo a.defers->∀Q:Exit->Act->World->Prop,
  (∀m' a' w',St P m' ts' h' a' w'->Grow m h w m' h' w'->Marks m' w' lo a'.defers->Q e.CB a' w')->cc.wpIn (Fd ro) 0 P Q a w):Ev P ro c ts h e ts' h':=by
 intro cc
 induction cc with
 |scope a ih=>
  intro hc m a w lo hlo st hm Q hQ;refine wW (ih (by simpa [compile]using hc) m a w lo hlo st hm _ λm' a' w' s g k=>?_);cases e<;>exact hQ m' a' w' s g k
 |_=>intro hc;exact H _ Si hc
theorem Ev.skip:Ev P ro .skip ts h .normal ts h:=by
 refine Ev.of λcc hns hc m a w lo hlo st hm Q hQ=>?_
 have hq:=hQ m a w st (Grow.refl m h w st.hr.cL) hm;cases cc with
 |skip=>exact wpIn_skip hq
 |label l=>exact wpIn_label hq
 |scope a=>exact absurd rfl (hns a)
 |region id ops draw=>rcases dZ (by simpa only[compile]using hc)with⟨_,h1,_⟩|⟨_,h1,_⟩|⟨_,h1,_⟩<;>cases h1
 |block id a=>simp[compile]at hc
 |loop a=>simp[compile]at hc
 |_=>
  exact Ba
theorem Ev.exit{id}:Ev P ro (.exit id) ts h (.exit id) ts h:=by
 refine Ev.of λcc hns hc m a w lo hlo st hm Q hQ=>?_
 have hq:=hQ m a w st (Grow.refl m h w st.hr.cL) hm;cases cc with
 |exit Xu=>simp[compile]at hc;subst hc;exact wpIn_exit hq
 |scope a=>exact absurd rfl (hns a)
 |region id ops draw=>rcases dZ (by simpa only[compile]using hc)with⟨_,h1,_⟩|⟨_,h1,_⟩|⟨_,h1,_⟩<;>cases h1
 |block id a=>simp[compile]at hc
 |loop a=>simp[compile]at hc
 |_=>
  exact Ba
theorem Ev.ret:Ev P ro .ret ts h .ret ts h:=by
 refine Ev.of λcc hns hc m a w lo hlo st hm Q hQ=>?_
 have hq:=hQ m a w st (Grow.refl m h w st.hr.cL) hm;cases cc with
 |ret=>exact wpIn_ret hq
 |scope a=>exact absurd rfl (hns a)
 |region id ops draw=>rcases dZ (by simpa only[compile]using hc)with⟨_,h1,_⟩|⟨_,h1,_⟩|⟨_,h1,_⟩<;>cases h1
 |block id a=>simp[compile]at hc
 |loop a=>simp[compile]at hc
 |_=>
  exact Ba
theorem Ev.ops(hmix:P.follows .mixedOrders=true){l}(hs:yu P l ts h ts' h'):Ev P ro (.ops l) ts h .normal ts' h':=by
 refine Ev.of λcc hns hc m a w lo hlo st hm Q hQ=>?_
 cases cc with
 |region id ops draw=>
  rcases dZ (by simpa only[compile]using hc)with⟨l',h1,hl⟩|⟨_,h1,_⟩|⟨_,h1,_⟩<;>cases h1
  rcases hl with hl|⟨hd,⟨l2,hl2⟩,cq,hz,hmo,hld⟩
  case inr=>
   subst hd;simp only[cN,Zk]at hl2;split at hl2
   case isFalse=>cases hl2
   rename_i Sg;simp only[ZE]at Sg;obtain⟨T,H,rfl,rfl,rfl,rfl,hrow⟩:=hs.row;rw[List.any_eq_false]at hld;exact q8 hmix Sg.1 Sg.2 hz hmo hrow (λi io hio hl=>absurd hl (hld io (ZV hio))) (λi j x y hx hl=>absurd hl (hld x (ZV hx))) st ro Q (λm' a' w' s g d=>hQ m' a' w' s g (by rw[d];exact hm.grow g st.hr.cL)) id
  cases draw with
  |false=>exact xQ hl hs st ro Q (λm' a' w' s g d=>hQ m' a' w' s g (by rw[d];exact hm.grow g st.hr.cL)) id
  |true=>exact vt hmix hl hs st ro Q (λm' a' w' s g d=>hQ m' a' w' s g (by rw[d];exact hm.grow g st.hr.cL)) id
 |scope a=>exact absurd rfl (hns a)
 |block id a=>simp[compile]at hc
 |loop a=>simp[compile]at hc
 |_=>
  exact Ba
theorem Ev.my(hmix:P.follows .mixedOrders=true){l T H}(hrow:Row P l T H)(hstab:∀(i:Nat) (io:bK),l[i]? =some io->mG io=true->∀θ,θ<=dI l->dB P io (T i) (H θ) (T (i+1)) (H θ)):Ev P ro (.my l) (T 0) (H 0) .normal (T l.length) (H l.length):=by
 refine Ev.of λcc hns hc m a w lo hlo st hm Q hQ=>?_
 cases cc with
 |region id ops draw=>
  rcases dZ (by simpa only[compile]using hc)with⟨_,h1,_⟩|⟨_,h1,_⟩|⟨l',h1,hd,⟨l2,hl2⟩,cq,hz,hmo,hlo⟩<;>cases h1
  subst hd;simp only[cN,Zk]at hl2;split at hl2
  case isFalse=>cases hl2
  rename_i Sg;simp only[ZE]at Sg;rcases hmo with hmo|⟨f,Va,Uq⟩
  case inr=>exact xR hmix Sg.1 Sg.2 hz Va Uq hrow hstab (λi j x y a1 a2 a3 a4 a5=>p9 hlo a1 a2 a3 a4 a5) st ro Q (λm' a' w' s g d=>hQ m' a' w' s g (by rw[d];exact hm.grow g st.hr.cL)) id
  exact q8 hmix Sg.1 Sg.2 hz hmo hrow hstab (λi j x y a1 a2 a3 a4 a5=>p9 hlo a1 a2 a3 a4 a5) st ro Q (λm' a' w' s g d=>hQ m' a' w' s g (by rw[d];exact hm.grow g st.hr.cL)) id
 |scope a=>exact absurd rfl (hns a)
 |block id a=>simp[compile]at hc
 |loop a=>simp[compile]at hc
 |_=>
  exact Ba
theorem Ev.seq(hx:Ev P ro x ts h .normal Ts h1)(hy:Ev P ro y Ts h1 e ts' h'):Ev P ro (.seq x y) ts h e ts' h':=by
 refine Ev.of λcc hns hc m a w lo hlo st hm Q hQ=>?_
 cases cc with
 |seq ca cb=>
  simp only[compile]at hc;split at hc
  case h_2=>cases hc
  rename_i x' y' Sm hcb;cases hc;refine wpIn_seq (hx ca Sm m a w lo hlo st hm _ λm1 a1 w1 s1 g1 k1=>?_);exact hy cb hcb m1 a1 w1 lo (ZR hlo g1.size) s1 k1 Q λm2 a2 w2 s2 g2 k2=>hQ m2 a2 w2 s2 (g1.trans g2 st.hr.cL) k2
 |scope a=>exact absurd rfl (hns a)
 |region id ops draw=>rcases dZ (by simpa only[compile]using hc)with⟨_,h1,_⟩|⟨_,h1,_⟩|⟨_,h1,_⟩<;>cases h1
 |block id a=>simp[compile]at hc
 |loop a=>simp[compile]at hc
 |_=>
  exact Ba
def Ev.vi(hx:Ev P ro x ts h e ts' h')(hne:e≠.normal):Ev P ro (.seq x y) ts h e ts' h':=by
 refine Ev.of λcc hns hc m a w lo hlo st hm Q hQ=>?_
 cases cc with
 |seq ca cb=>
  simp only[compile]at hc;split at hc
  case h_2=>cases hc
  rename_i x' y' Sm hcb;cases hc;refine wpIn_seq (hx ca Sm m a w lo hlo st hm _ λm1 a1 w1 s1 g1 k1=>?_);have:=hQ m1 a1 w1 s1 g1 k1;cases e<;>first|exact absurd rfl hne|exact this
 |scope a=>exact absurd rfl (hns a)
 |region id ops draw=>rcases dZ (by simpa only[compile]using hc)with⟨_,h1,_⟩|⟨_,h1,_⟩|⟨_,h1,_⟩<;>cases h1
 |block id a=>simp[compile]at hc
 |loop a=>simp[compile]at hc
 |_=>
  exact Ba
def yP{o c}(hc:DX o=some c):cS o=some c/\MQ P o=true:=by
 cases o<;>first|exact⟨hc,rfl⟩|cases hc
def BZ{m a w}(st:St P m ts h a w){o c}(hc:DX o=some c):VR m (val ts c) (a.eval o):=
 y5 st.hr.gv (yP (P:=P) hc).1 (yP (P:=P) hc).2 (λt _=>nK st.ts t)
theorem Ev.cond{c b}(hb:val ts c=.bool b)(hx:Ev P ro (if b then x else y) ts h e ts' h'):Ev P ro (.cond c x y) ts h e ts' h':=by
 refine Ev.of λcc hns hc m a w lo hlo st hm Q hQ=>?_
 cases cc with
 |cond o ca cb=>
  simp only[compile]at hc;split at hc
  case h_2=>cases hc
  rename_i c' x' y' hco Sm hcb;cases hc;have hv:=BZ st hco;rw[hb,VR]at hv;refine wpIn_cond hv ?_;cases b
  ·exact hx cb hcb m a w lo hlo st hm Q hQ
  ·exact hx ca Sm m a w lo hlo st hm Q hQ
 |scope a=>exact absurd rfl (hns a)
 |region id ops draw=>rcases dZ (by simpa only[compile]using hc)with⟨_,h1,_⟩|⟨_,h1,_⟩|⟨_,h1,_⟩<;>cases h1
 |block id a=>simp[compile]at hc
 |loop a=>simp[compile]at hc
 |_=>
  exact Ba
def Ex.inBlock(id:Nat):Ex->Ex
 |.exit Xu=>if Xu=id then .normal else .exit Xu
 |e=>e
theorem Ev.block{id}(hx:Ev P ro x ts h e ts' h'):Ev P ro (.block id x) ts h (e.inBlock id) ts' h':=by
 refine Ev.of λcc hns hc m a w lo hlo st hm Q hQ=>?_
 cases cc with
 |block Xu ca=>
  simp only[compile,Zq,ai.block.injEq]at hc;obtain⟨x',Sm,rfl,rfl⟩:=hc;refine wpIn_block (hx ca Sm m a w lo hlo st hm _ λm' a' w' s g k=>?_);have:=hQ m' a' w' s g k;cases e with
  |normal=>exact this
  |ret=>exact this
  |exit i=>
   simp only[Ex.CB,Exit.inBlock];simp only[Ex.inBlock]at this;split
   ·rename_i hi;rw[Zh hi]at this;exact this
   ·rename_i hi;rw[Za hi]at this;exact this
 |scope a=>exact absurd rfl (hns a)
 |region id ops draw=>rcases dZ (by simpa only[compile]using hc)with⟨_,h1,_⟩|⟨_,h1,_⟩|⟨_,h1,_⟩<;>cases h1
 |loop a=>simp[compile]at hc
 |_=>
  exact Ba
inductive tM (P:Program) (ro:Option Nat) (x:ai):TS->ah->Ex->TS->ah->Prop
 |out {ts:TS}{h:ah}{e:Ex}{ts':TS}{h':ah}(hx:Ev P ro x ts h e ts' h') (hne:e≠.normal):tM P ro x ts h e ts' h'
 |more {ts:TS}{h:ah}{Ts:TS}{h1:ah}{e:Ex}{ts':TS}{h':ah}(hx:Ev P ro x ts h .normal Ts h1) (hr:tM P ro x Ts h1 e ts' h'):tM P ro x ts h e ts' h'
theorem Ev.loop(hl:tM P ro x ts h e ts' h'):Ev P ro (.loop x) ts h e ts' h':=by
 refine Ev.of λcc hns hc m a w lo hlo st hm Q hQ=>?_
 cases cc with
 |loop ca=>
  simp only[compile,Zq,ai.loop.injEq]at hc;obtain⟨x',Sm,rfl⟩:=hc;intro b k cs hro hb hr;have key:∀(m1:bZ) (a1:Act) (w1:World),lo<=w1.heap.size->St P m1 ts h a1 w1->Marks m1 w1 lo a1.defers->(∀m' a' w',St P m' ts' h' a' w'->Grow m1 h w1 m' h' w'->Marks m' w' lo a'.defers->Q e.CB a' w')->
    ∃e a' w',Q e a' w'/\ArrivesIn (Machine.fenced P (Fd ro)) P (lone (b.atR a1 (.code ca:: .inLoop ca::k)) cs w1) b k cs e a' w':=by
   clear hQ st hm hlo
   induction hl with
   |out hx hne=>
    rename_i ts h e ts' h';intro m1 a1 w1 hlo s1 k1 hQ;obtain⟨e1,a2,w2,hq,Sv⟩:=hx ca Sm m1 a1 w1 lo hlo s1 k1 (λe1 a1 w1=>e1≠.normal/\Q e1 a1 w1) (λm' a' w' s g k'=>⟨by cases e<;>first|exact absurd rfl hne|simp[Ex.CB],hQ m' a' w' s g k'⟩) b (.inLoop ca::k) cs hro hb hr;exact⟨e1,a2,w2,hq.2,.pass (x:=.inLoop ca) rfl (λ_ _=>.inl hq.1) Sv⟩
   |more hx hr' ih=>
    intro m1 a1 w1 hlo s1 k1 hQ;obtain⟨e1,a2,w2,hq,Sv⟩:=hx ca Sm m1 a1 w1 lo hlo s1 k1 (λe1 a2 w2=>e1=.normal/\∃m2,St P m2 _ _ a2 w2/\Grow m1 _ w1 m2 _ w2/\Marks m2 w2 lo a2.defers) (λm' a' w' s g k'=>⟨rfl,m',s,g,k'⟩) b (.inLoop ca::k) cs hro hb hr;obtain⟨rfl,m2,s2,g2,k2⟩:=hq;obtain⟨e3,a3,w3,hq3,harr3⟩:=ih m2 a2 w2 (ZR hlo g2.size) s2 k2 (λm' a' w' s g k'=>hQ m' a' w' s (g2.trans g s1.hr.cL) k');exact⟨e3,a3,w3,hq3,.of_steps (StepsIn.trans Sv (.one (fenced_calm hb hr rfl) stepR_inLoop)) harr3⟩
  obtain⟨e',a',w',hq,Sv⟩:=key m a w hlo st hm hQ;exact⟨e',a',w',hq,.of_steps (.one (fenced_calm hb hr rfl) stepR_loop) Sv⟩
 |scope a=>exact absurd rfl (hns a)
 |region id ops draw=>rcases dZ (by simpa only[compile]using hc)with⟨_,h1,_⟩|⟨_,h1,_⟩|⟨_,h1,_⟩<;>cases h1
 |block id a=>simp[compile]at hc
 |_=>
  exact Ba
end
def dz(ts:TS)(h:ah):Nat×Option (Option Nat)->Option AV
 |(t,none)=>some (ts.getD t ay)
 |(a,some n)=>
  match dw (.load n (.c (ts.getD a ay))) (val ts) h with
  |some (v,_)=>some v
  |none=>none
def iU(ts:TS)(h:ah):List (Nat×Option (Option Nat))->Option (List AV)
 |[]=>some []
 |r::rs=>
  match dz ts h r,iU ts h rs with
  |some v,some vs=>some (v::vs)
  |_,_=>none
def cQ(rs:List (Nat×Option (Option Nat)))(ts:TS)(h:ah):Option AV:=
 match iU ts h rs with
 |some [v]=>some v
 |some l=>some (.dL l)
 |none=>none
def aV(nt:Nat)(args:List AV):TS:=args++List.replicate (nt-args.length) ay
def Ex.leaves:Ex->Bool
 |.normal=>true
 |.ret=>true
 |_=>false
section
variable {P:Program}{m:bZ}{h h':ah}{w:World}{v:AV}
def xG{ts a}(st:St P m ts h a w){r x}(hx:tU P r=some x)(hv:dz ts h x=some v):
  ∃cv,(match r with
   |.tmp t=>(pure (a.tmps.getD t undef):Sem Value)
   |.cell b t=>do loadVar t (<-asAddr (a.tmps.getD b undef))).run P w=.ok cv w/\VR m v cv:=by
 cases r with
 |tmp t=>cases hx;cases hv;exact⟨_,rfl,nK st.ts t⟩
 |cell b t=>
  simp only[tU,Zq]at hx;obtain⟨n,hn,rfl⟩:=hx;simp only[dz]at hv;split at hv
  case h_2=>cases hv
  rename_i v' h' hf;cases hv;obtain⟨cv,h1,h2,_⟩:=BF (P:=P) (ρ:=val ts) hn st.hr (a:=.c (ts.getD b ay)) (nK st.ts b) hf;refine⟨cv,?_,h2⟩;simp only[dw,val]at hf;split at hf
  case h_2=>cases hf
  rename_i b' o' hb';have hs:=nK st.ts b;rw[hb',VR]at hs;obtain⟨e,_,he⟩:=hs;simp only[he]at h1 ⊢
  simpa [Instr.loadAt,Instr.sureAddr,asAddr]using h1
theorem pS{ts:TS}{a:Act}(st:St P m ts h a w):∀{rs:List ResultVar}{xs:List (Nat×Option (Option Nat))}{vs:List AV},rs.mapM (tU P)=some xs->iU ts h xs=some vs->
  ∃Uc,(rs.mapM (m:=Sem) λ
   |.tmp t=>pure (a.tmps.getD t undef)
   |.cell b t=>do loadVar t (<-asAddr (a.tmps.getD b undef))).run P w=.ok Uc w/\cK m vs Uc
 |[],xs,vs,hx,hv=>by
  simp at hx;subst hx;cases hv;exact⟨[],rfl,bE.2 rfl⟩
 |r::rs,xs,vs,hx,hv=>by
  simp only[abm,aa5,abw]at hx;cases hr:tU P r with
  |none=>simp[hr]at hx
  |some x=>
   cases hrs:rs.mapM (tU P)with
   |none=>simp[hr,hrs]at hx
   |some xs'=>
    simp[hr,hrs]at hx;subst hx;simp only[iU]at hv;split at hv
    case h_2=>cases hv
    rename_i v vs' h1 h2;cases hv;obtain⟨cv,hc,RG⟩:=xG st hr h1;obtain⟨Uc,Ue,hvrs⟩:=pS st hrs h2;refine⟨cv::Uc,?_,aR.2 ⟨cv,Uc,rfl,RG,hvrs⟩⟩;rw[abm,Zo];have Te:=hc;cases r<;>(simp only at Te ⊢;rw[Te];simp only[Ze,Zo,Ue,ZF])
def vp{ts:TS}{a:Act}(st:St P m ts h a w){fn:Func}{xs:List (Nat×Option (Option Nat))}(hx:fn.results.toList.mapM (tU P)=some xs)(hv:cQ xs ts h=some v):
  ∃cv,(results fn a.tmps).run P w=.ok cv w/\VR m v cv:=by
 unfold cQ at hv;have key:∀{vs:List AV},iU ts h xs=some vs->∃Uc:List Value,(results fn a.tmps).run P w=.ok (if h:Uc.length=1 then Uc[0]else .tuple ⟨Uc⟩) w/\cK m vs Uc:=by
  intro vs SE;obtain⟨Uc,h1,h2⟩:=pS st hx SE;refine⟨Uc,?_,h2⟩;unfold results;rw[Array.mapM_eq_mapM_toList,Zo];simp only[map_eq_pure_bind,Zo];have h1':=h1
  erw [h1']
  simp only[Ze,ZF];by_cases hc:Uc.length=1
  ·simp[hc]
  ·simp[hc]
 split at hv
 ·rename_i v' SE;cases hv;obtain⟨Uc,h1,h2⟩:=key SE;obtain⟨y,ys,rfl,hy,hys⟩:=aR.1 h2;rw[bE]at hys;subst hys;exact⟨y,by simpa using h1,hy⟩
 ·rename_i l hno SE;cases hv;obtain⟨Uc,h1,h2⟩:=key SE;have hlen:Uc.length≠1:=by
   rw[h2.length];intro hl;obtain⟨z,hz⟩:=List.length_eq_one_iff.1 hl;exact hno z hz
  rw[dif_neg hlen]at h1;exact⟨_,h1,⟨Uc,rfl,h2⟩⟩
 ·cases hv
theorem nX{fn xs}(hx:fn.results.toList.mapM (tU P)=some xs){ts}(hv:cQ xs ts h' =some v){m0 h0 w0 lo}(hlo:w0.heap.size<=lo):
  ∀(ds:List Deferred) (m:bZ) (a:Act) (w:World),St P m ts h' a w->Grow m0 h0 w0 m h' w->Marks m w lo ds->LeavesInM Fence.wide 0 P fn a.tmps (Rel P m0 h0 w0 v h') ds .returning w
 |[],m,a,w,st,g,_=>by
  obtain⟨cv,h1,h2⟩:=vp st hx hv;exact⟨cv,h1,cv,m,rfl,h2,st.hr,g⟩
 |d::ds,m,a,w,st,g,k=>by
  obtain⟨rs,h1,h2,h3⟩:=k;cases rs with
  |nil=>simp at h1
  |cons r rs=>
   simp only[ZX,List.cons.injEq]at h1;obtain⟨rfl,rfl⟩:=h1;obtain⟨hl,hh,hm⟩:=h3 r Si;have hoth:∀i,i≠r->(w.putObj r (.deferred none)).heap[i]? =w.heap[i]? :=λi hi=>World.putObj_heap_other hi
   refine⟨Si,.inl ⟨r,_,rfl,run_takeDeferred hh,?_⟩⟩;refine nX hx hv hlo _ m a _ ⟨⟨st.hr.cL,λb e k hb hk=>(st.hr.dR b e k hb hk).heap (hoth _ (hm b e hb)),st.hr.sep,st.hr.ga,λb e hb=>by simpa using st.hr.lt b e hb⟩,st.ts⟩
    ⟨g.ext,g.len,g.new,g.tl,by simpa using g.size,g.os,g.out,g.tape,λi hi hno=>?_⟩ ⟨rs,rfl,(abx.1 h2).2,λr' hr'=>?_⟩
   ·rw[hoth i Om];exact g.frame i hi hno
   ·obtain⟨c1,c2,c3⟩:=h3 r' (ZH _ hr');refine⟨c1,?_,c3⟩;rw[hoth r' (λx=>(abx.1 h2).1 (x▸hr'))];exact c2
def gF{f A}(hA:bS P f=some A):∃fn c,P.funcs[f]? =some fn/\fn.body=some c/\compile P c=some A.body/\fn.results.toList.mapM (tU P)=some A.rs/\fn.ntmps=A.nt/\(fn.name == "runtime.NumGoroutine")=false:=by
 unfold bS at hA;split at hA
 case h_1=>cases hA
 rename_i fn hf;split at hA
 case h_1=>cases hA
 rename_i c hb;split at hA
 case h_2=>cases hA
 rename_i b rs hc hr;split at hA
 case isTrue=>cases hA
 rename_i hn;cases hA;exact⟨fn,c,hf,hb,hc,hr,rfl,by simpa using hn⟩
def lM.KT{f A}(hA:bS P f=some A){args e ts'}(hev:Ev P none A.body (aV A.nt args) h e ts' h')(he:e.leaves=true)(hv:cQ A.rs ts' h' =some v):lM P f args h v h':=by
 intro m w vs hr hargs;obtain⟨fn,c,hf,hb,hc,hres,hnt,_⟩:=gF hA;rw[<-callsIn_wide (n:=0)];refine callsIn_of_wp_marks hf hb trivial ?_;refine hev c hc m _ w w.heap.size (Zc _) ⟨hr,?_⟩ (Marks.nil m w _) _ ?_
 ·have:((⟨vs⟩:Array Value)++Array.replicate (fn.ntmps-(⟨vs⟩:Array Value).size) undef).toList=vs++List.replicate (A.nt-args.length) undef:=by
   rw[hnt];simp[hargs.length]
  rw[this];refine cK.append hargs (cK.gU Si λi x hx=>?_);rw[List.getElem?_replicate]at hx ⊢;split at hx
  ·rename_i hlt;cases hx;rw[Zh hlt];exact⟨undef,rfl,jT m⟩
  ·cases hx
 ·intro m' a' w' s g k;have:=nX hres hv (Zc _) a'.defers m' a' w' s g k;cases e<;>first|exact this|cases he
def fw.yR{f A}(hA:bS P f=some A){a c args}(hs:lM P f (a++args++c) h v h'):fw P (.func (.func f) a c) args h v h':=by
 intro m w cv vs hr hf hargs;rw[VR]at hf;obtain⟨f',a',c',rfl,hfn,ha,hc⟩:=hf;simp only[AN]at hfn;subst hfn;refine⟨_,λw=>rfl,?_⟩;obtain⟨fn,cc,hfn,hb,_,_,_,hn⟩:=gF hA;simp only[invoke];rw[kB hfn (by rw[hb];rfl) hn];show CallsIn Fence.wide 0 P f _ w _;rw[callsIn_wide];have:=hs m w (a'++vs++c') hr (cK.append (cK.append ha hargs) hc)
 simpa using this
def iL(P:Program)(u:TypeId)(name:String):Option FuncId:=
 match P.info? u,P.underlying u with
 |some i,some d=>
  match i.methods.find? (·.name==name)with
  |some m=>
   match m.path.toList,m.func,d with
   |[],some (_,false),.pointer _=>none
   |[],some (f,false),_=>some f
   |_,_,_=>none
  |none=>none
 |_,_=>none
def xC{u:TypeId}{name f}(hm:iL P u name=some f)(n:Nat)(v:Value)(w:World):(method (n+1) u v name).run P w=.ok (f,v) w:=by
 unfold iL at hm;split at hm
 case h_2=>cases hm
 rename_i i d hi hd;split at hm
 case h_2=>cases hm
 rename_i mm T7;split at hm
 case h_3=>cases hm
 case h_1=>cases hm
 rename_i f' hp hfn hnp;cases hm;have hti:(typeInfo u).run P w=.ok i w:=by simp[typeInfo,hi]
 rw[method];simp only[Zo,hti,Ze,T7,hp,follow,ZF,hfn];have R9:∀wr,(receiverAt u (.val v) false wr).run P w=.ok v w:=by
  intro wr;unfold receiverAt;simp only[Zo,Zm hd,Ze];rfl
 simp only[R9,Ze]
def fw.DY{u:TypeId}{name f A}(hm:iL P u name=some f)(hA:bS P f=some A){a args}(hs:lM P f (a::args) h v h'):fw P (.func (.method name) [] []) (.uM u a::args) h v h':=by
 intro m w cv vs hr hf hargs;rw[VR]at hf;obtain⟨f',a',c',rfl,hfn,ha,hc⟩:=hf;simp only[AN]at hfn;subst hfn;rw[bE]at ha hc;subst ha;subst hc;obtain⟨x,vs,rfl,hx,SE⟩:=aR.1 hargs;rw[VR]at hx;obtain⟨v',rfl,hx⟩:=hx;refine⟨_,λw=>rfl,?_⟩;obtain⟨fn,cc,hfn,hb,_,_,_,hn⟩:=gF hA;have e0:((#[]++(⟨.iface u v'::vs⟩:Array Value)):Array Value)[0]? =some (.iface u v'):=Si
 have e1:((#[]++(⟨.iface u v'::vs⟩:Array Value)):Array Value).extract 1 ((#[]++(⟨.iface u v'::vs⟩:Array Value)):Array Value).size=⟨vs⟩:=by
  apply abq;simp
 simp only[invoke,e0,e1,callMethod,Zo,program];have hmt:=xC hm (P.types.size+Made.depth-1) v' w;have hdep:0<Made.depth:=De
 have hne:P.types.size+Made.depth-1+1=P.types.size+Made.depth:=Om
 rw[hne]at hmt;show Df P (Rel P m h w v h') ((Result.ok P w).andThen λa w'=>(Sem.run P (method (a.types.size+Made.depth) u v' name) w').andThen λa w'=>Sem.run P (callFunc a.fst (#[a.snd]++⟨vs⟩)) w');simp only[Ze,hmt];rw[kB hfn (by rw[hb];rfl) hn];show CallsIn Fence.wide 0 P f _ w _;rw[callsIn_wide];have:=hs m w (v'::vs) hr (aR.2 ⟨_,_,rfl,hx,SE⟩);have e2:(#[v']++(⟨vs⟩:Array Value))=⟨v'::vs⟩:=by apply abq;simp
 rw[e2];exact this
end
def setArgs:TS->List Nat->List AV->TS
 |ts,p::ps,v::vs=>setArgs (ts.set p v) ps vs
 |ts,_,_=>ts
section
variable {P:Program}{m:bZ}{h h':ah}{w:World}{v:AV}
def HR.aside(hr:HR P m h w)(o:Obj):HR P m h (w.alloc o):=
 ⟨hr.cL,λb e k hb hk=>(hr.dR b e k hb hk).heap (Go.RowKit.Below.heap_alloc w o _ (hr.lt b e hb)),hr.sep,hr.ga,λb e hb=>by have:=hr.lt b e hb;simp;omega⟩
def Grow.aside(hr:HR P m h w)(o:Obj):Grow m h w m h (w.alloc o):=
 ⟨λ_ _=>rfl,Zc _,λb e hb he=>absurd (hr.cL b e he) Om,λ_ _ h=>h,Si,rfl,rfl,rfl,λi hi _=>Go.RowKit.Below.heap_alloc w o i hi⟩
theorem pQ:∀{ps}{args}{ts}{tmps}{vs},cK m ts tmps.toList->cK m args vs->cK m (setArgs ts ps args) ((ps.zip vs).foldl (λ(t:Array Value) (p:Nat×Value)=>t.setIfInBounds p.1 p.2) tmps).toList
 |[],_,_,_,_,ht,_=>by simpa [setArgs]using ht
 |p::ps,[],ts,tmps,vs,ht,ha=>by rw[bE]at ha;subst ha;simpa [setArgs]using ht
 |p::ps,x::args,ts,tmps,vs,ht,ha=>by
  obtain⟨y,ys,rfl,hy,hys⟩:=aR.1 ha;simp only[List.zip_cons_cons,aaB,setArgs];exact pQ (by rw[Array.toList_setIfInBounds];exact ht.set p hy) hys
theorem fw.yield{l ex ex2 ex4 e ts U1 ts3 tb tc ps pb pc asg body ab ac bb bc h2 h4 args st4}
  (hl:h[l]? =some (.loop .ready ex ts ps asg body)) (hlen:args.length=ps.length)
  (hasg:∀r,Ev P (some r) asg (setArgs ts ps args) h .normal U1 h2) (hl2:h2[l]? =some (.loop .ready ex2 tb pb ab bb))
  (hbody:∀r,Ev P (some r) body U1 (h2.set l (.loop .busy ex2 tb pb ab bb)) e ts3 h4) (hl4:h4[l]? =some (.loop st4 ex4 tc pc ac bc)):
  fw P (.func (.yield l) [] []) args h (.bool (decide (e=.normal))) (h4.set l (.loop (if e=.normal then .ready else .done) e tc pc ac bc)):=by
 intro m w cv vs hr hf hargs;rw[VR]at hf;obtain⟨f',a',c',rfl,hfn,ha,hc⟩:=hf;rw[bE]at ha hc;subst ha;subst hc;obtain⟨el,UW,rfl⟩:=hfn;refine⟨_,λw=>rfl,?_⟩;obtain⟨hown,fn,tmps,SH,R5,df,hh,RD,Sm,hcb⟩:=hr.dR l el _ UW hl;have hy:=run_yield (P:=P) (args:=(#[]++⟨vs⟩:Array Value)) hh (by simp[hargs.length,hlen]);simp only[invoke];rw[hy];show RoundIn Fence.wide 0 P el.cb fn _ SH R5 w _;refine roundIn_of_wpIn trivial ?_;have TZ:cK m (setArgs ts ps args) (((⟨ps⟩:Array Tmp).zip (#[]++⟨vs⟩:Array Value)).foldl (λtmps (t,a)=>tmps.setIfInBounds t a) tmps).toList:=by
  have:=pQ (ps:=ps) RD hargs;rw[<-Array.foldl_toList,Array.toList_zip]
  simpa using this
 refine hasg el.cb SH Sm m _ w w.heap.size (Zc _) ⟨hr,TZ⟩ (Marks.nil m w _) _ λm1 a1 w1 s1 g1 k1=>?_
 have Xc:m1 l=some el:=by rw[g1.ext l (hr.cL _ _ UW)];exact UW
 obtain⟨_,fn2,Xp,XX,VZ,df2,hh2,hts2,hca2,hcb2⟩:=s1.hr.dR l el _ Xc hl2;refine⟨_,run_beginRound hh2 rfl,?_⟩;have hlt1:el.cb<w1.heap.size:=s1.hr.lt _ _ Xc;obtain⟨SN,g2⟩:=jW s1.hr (o:=.loop {state:=.busy,pending:=ex2.jump,fn:=fn2,tmps:=Xp,params:=⟨pb⟩,assign:=XX,body:=VZ,defers:=df2}) Xc hl2 rfl (k':=.loop .busy ex2 tb pb ab bb) (.inl rfl)
  ⟨hown,fn2,Xp,XX,VZ,df2,World.putObj_heap_same hlt1,hts2,hca2,hcb2⟩
 refine hbody el.cb R5 hcb m1 a1 _ w.heap.size (ZR g1.size g2.size) ⟨SN,s1.ts⟩ (k1.grow g2 s1.hr.cL) _ λm2 a2 w3 s2 g3 k2=>?_
 have hl2':l<h2.length:=(YU.1 hl2).1;have YJ:m2 l=some el:=by rw[g3.ext l (by simpa using hl2')];exact Xc
 obtain⟨_,fn4,Xo,XW,VY,df4,hh4,hts4,hca4,hcb4⟩:=s2.hr.dR l el _ YJ hl4;have SQ:el.cb<w3.heap.size:=s2.hr.lt _ _ YJ;have fin:∀j:Option Code,j=e.jump->∃v w',(Instr.endRound el.cb j).run P w3=.ok v w'/\Rel P m h w (.bool (decide (e=.normal))) (h4.set l (.loop (if e=.normal then .ready else .done) e tc pc ac bc)) (.returned v) w':=by
  rintro j rfl;obtain⟨hr4,g4⟩:=jW s2.hr (o:=.loop {state:=if e=.normal then .ready else .done,pending:=e.jump,fn:=fn4,tmps:=Xo,params:=⟨pc⟩,assign:=XW,body:=VY,defers:=df4}) YJ hl4 rfl
   (k':=.loop (if e=.normal then .ready else .done) e tc pc ac bc) (.inl rfl) ⟨hown,fn4,Xo,XW,VY,df4,World.putObj_heap_same SQ,hts4,hca4,hcb4⟩
  refine⟨_,_,run_endRound e.jump hh4,.bool (decide (e=.normal)),m2,?_,rfl,?_,?_⟩
  ·cases e<;>rfl
  ·have:(if e.jump.isNone=true then LoopState.ready else .done)=if e=.normal then .ready else .done:=by cases e<;>rfl
   simp only[this];exact hr4
  ·have:(if e.jump.isNone=true then LoopState.ready else .done)=if e=.normal then .ready else .done:=by cases e<;>rfl
   simp only[this];exact((g1.trans g2 hr.cL).trans g3 hr.cL).trans g4 hr.cL
 cases e with
 |normal=>exact fin none rfl
 |exit id=>exact fin (some (.exit id)) rfl
 |ret=>exact fin (some .ret) rfl
theorem Ev.fN{g ps ps' asg body asg' body' ts ts' f A a c h2 st ex}(hA:bS P f=some A)(hg:val ts g=.func (.func f) a c)
  (hs:lM P f (a++[.func (.yield h.length) [] []]++c) (h++[.loop .ready .normal ts ps asg body]) v h2) (hl:h2[h.length]? =some (.loop st ex ts' ps' asg' body')) (bV:st≠.busy):
  Ev P none (.fN g ps asg body) ts h ex ts (h2.set h.length .dead):=by
 refine Ev.of λcc hns Vc m act w lo hlo s hm Q hQ=>?_
 cases cc with
 |rangeFunc og cps SH R5=>
  simp only[compile]at Vc;split at Vc
  case h_2=>cases Vc
  rename_i g' x' y' hgo Sm hcb;cases Vc;have hv:=BZ s hgo;rw[hg,VR]at hv;obtain⟨f',ca,So,hev,hfn,ha,hc⟩:=hv;simp only[AN]at hfn;subst hfn;obtain⟨W1,TB⟩:∃W1,w.alloc (.deferred (some []))=W1:=⟨_,rfl⟩;have hsz1:W1.heap.size=w.heap.size+1:=by rw[<-TB];simp
  have hr1:HR P m h W1:=by rw[<-TB];exact s.hr.aside _
  have g1:Grow m h w m h W1:=by rw[<-TB];exact Grow.aside s.hr _
  have Ve:W1.heap[w.heap.size]? =some (.deferred (some [])):=by rw[<-TB];exact World.alloc_heap_new w _
  refine wpIn_rangeFunc λfn _=>?_
  obtain⟨rec,R9⟩:∃rec:Loop,rec={state:=.ready,pending:=none,fn:=fn,tmps:=act.tmps,params:=cps,assign:=SH,body:=R5,defers:=w.heap.size}:=⟨_,rfl⟩;obtain⟨SN,g2⟩:=ki hr1 (.loop rec) (.loop .ready .normal ts cps.toList asg body) ⟨W1.heap.size,0,0,true⟩ rfl rfl (λm' hm'=>⟨rfl,fn,act.tmps,SH,R5,w.heap.size,by rw[R9];exact World.alloc_heap_new W1 _,cK.mono hm' _ _ s.ts,Sm,hcb⟩);have hloc:(m.add h.length ⟨W1.heap.size,0,0,true⟩) h.length=some ⟨W1.heap.size,0,0,true⟩:=by simp[bZ.add]
  have hle:m.le (m.add h.length ⟨W1.heap.size,0,0,true⟩):=g2.le s.hr.cL;have VQ:=run_enterLoop_outer (P:=P) (w:=w) fn act.tmps cps SH R5;rw[TB,<-R9]at VQ;obtain⟨ffn,fcode,hffn,hfb,_,_,_,YG⟩:=gF hA;have hmk:Marks (m.add h.length ⟨W1.heap.size,0,0,true⟩) (W1.alloc (.loop rec)) lo ([{target:=.collected w.heap.size,args:=#[] }]++act.defers):=by
   obtain⟨rs,k1,k2,k3⟩:=(hm.grow g1 s.hr.cL).grow g2 s.hr.cL;refine⟨w.heap.size::rs,by rw[k1];rfl,abx.2 ⟨λhin=>?_,k2⟩,λr hr'=>?_⟩
   ·obtain⟨rs0,j1,j2,j3⟩:=hm;have hrs:rs0=rs:=by
     have:rs0.map (λr=>({target:=.collected r,args:=#[] }:Deferred))=rs.map (λr=>({target:=.collected r,args:=#[] }:Deferred)):=by rw[<-j1,k1]
     exact List.map_inj_right (λx y hxy=>by simpa using hxy) |>.1 this
    subst hrs;have:=(Zl.1 (j3 _ hin).2.1).1;omega
   ·rcases ZG.1 hr' with rfl|hr'
    ·refine⟨hlo,(Go.RowKit.Below.heap_alloc W1 _ _ Om).trans Ve,λb e hb=>?_⟩;unfold bZ.add at hb;split at hb
     ·cases hb;show W1.heap.size≠_;omega
     ·have:=s.hr.lt b e hb;omega
    ·exact k3 r hr'
  refine⟨w.heap.size+1,_,W1.alloc (.loop rec),{target:=.fn (.func f) ⟨So⟩,args:=⟨ca⟩++#[.func (.yield (w.heap.size+1)) #[] #[]] },W1.alloc (.loop rec),f,(⟨ca⟩++#[.func (.yield (w.heap.size+1)) #[] #[]])++⟨So⟩,W1.alloc (.loop rec),
   VQ,?_,λ_ _=>trivial,?_,λhd=>by simp[Fd,Fence.wide]at hd,?_⟩
  ·have VE:(#[Operand.const (.func (.yield (w.heap.size+1)) #[] #[])] :Array Operand).map act.eval=#[.func (.yield (w.heap.size+1)) #[] #[]]:=by simp[Act.eval]
   simp only[resolve,hev,rangeCall,VE];rfl
  ·simp only[invoke];exact kB hffn (by rw[hfb];rfl) YG
  ·have hargs:cK (m.add h.length ⟨W1.heap.size,0,0,true⟩) (a++[.func (.yield h.length) [] []]++c) (ca++[.func (.yield (w.heap.size+1)) #[] #[]]++So):=by
    refine cK.append (cK.append (cK.mono hle _ _ ha) (aR.2 ⟨_,[],rfl,⟨_,[],[],rfl,⟨_,hloc,by rw[hsz1]⟩,rfl,rfl⟩,bE.2 rfl⟩)) (cK.mono hle _ _ hc)
   have Ua:=hs _ _ _ SN hargs;rw[<-callsIn_wide (n:=0)]at Ua;have YM:CallsIn (Fd none) (0-1) P f ((⟨ca⟩++#[.func (.yield (w.heap.size+1)) #[] #[]])++⟨So⟩) (W1.alloc (.loop rec)) (Rel P (m.add h.length ⟨W1.heap.size,0,0,true⟩) (h++[.loop .ready .normal ts cps.toList asg body]) (W1.alloc (.loop rec)) v h2):=by
    have Sv:((⟨ca⟩++#[.func (.yield (w.heap.size+1)) #[] #[]])++⟨So⟩:Array Value)=⟨ca++[.func (.yield (w.heap.size+1)) #[] #[]]++So⟩:=by apply abq;simp
    rw[Sv];exact Ua
   refine YM.mono ?_;rintro e3 w3 ⟨cv,m3,rfl,hv3,hr3,g3⟩;have XE:m3 h.length=some ⟨W1.heap.size,0,0,true⟩:=by rw[g3.ext h.length Si];exact hloc
   obtain⟨hown3,fn3,tmps3,casg3,YS,df3,hh3,_⟩:=hr3.dR h.length _ _ XE hl;simp only at hh3;have TM:=run_endLoop (P:=P) (l:=W1.heap.size) hh3 (by simpa using bV);obtain⟨hr4,g4⟩:=jW hr3 (o:=.loop {state:=.exhausted,pending:=ex.jump,fn:=fn3,tmps:=tmps3,params:=⟨ps'⟩,assign:=casg3,body:=YS,defers:=df3}) XE hl rfl (k':=.dead) (.inr rfl) trivial;have To:=hQ m3 {act with defers:=[{target:=.collected w.heap.size,args:=#[] }]++act.defers} _ ⟨hr4,cK.mono ((g2.trans g3 s.hr.cL).le s.hr.cL) _ _ s.ts⟩ (((g1.trans g2 s.hr.cL).trans g3 s.hr.cL).trans g4 s.hr.cL) ((hmk.grow g3 SN.cL).grow g4 hr3.cL);refine⟨ex.jump,_,by rw[<-hsz1];exact TM,?_⟩
   cases ex with
   |normal=>exact To
   |exit id=>exact wpIn_exit To
   |ret=>exact wpIn_ret To
 |scope a=>exact absurd rfl (hns a)
 |region id ops draw=>rcases dZ (by simpa only[compile]using Vc)with⟨_,h1,_⟩|⟨_,h1,_⟩|⟨_,h1,_⟩<;>cases h1
 |block id a=>simp[compile]at Vc
 |loop a=>simp[compile]at Vc
 |_=>
  simp only[compile]at Vc
  (repeat' split at Vc)
  all_goals cases Vc
end
inductive iI where
 |ar
 |push (k:ak)
 |set (b:Nat) (k:ak)
 |nL (b:Nat) (k k':ak)
 deriving Inhabited
def iI.app:iI->ah->ah
 |.ar,h=>h
 |.push k,h=>h++[k]
 |.set b k,h=>h.set b k
 |.nL b k k',h=>h.set b k++[k']
def fu(es:Nat)(G:Nat->Option ak):AV->Option (List AV×Nat)
 |.af=>some ([],0)
 |.slice b o n es'=>
  if es' =es then
   match G b with
   |some (.cells c _ _)=>if o+n*es<=c.length then some ((c.drop o).take (n*es),n)else none
   |_=>none
  else none
 |.str s=>if es=1 then some (s.map λb=>.int .u8 b.toNat,s.length)else none
 |_=>none
def jM(lk:LK)(G:Nat->Option ak):AV->Option Nat
 |.str s=>if lk=.st then some s.length else none
 |.slice _ _ n _=>if lk=.sl then some n else none
 |.af=>if lk=.sl then some 0 else none
 |.map r=>
  match G r with
  |some (.bj es)=>if lk=.mp then some es.length else none
  |_=>none
 |.db=>if lk=.mp then some 0 else none
 |_=>none
def mJ(k:zq)(x:AV)(G:Nat->Option ak)(N0:Nat):Option (AV×iI):=
 match k with
 |.LH k=>
  match x with
  |.int _ n=>some (.int k (k.wrap n),.ar)
  |_=>none
 |.same=>
  match x with
  |.str s=>some (.str s,.ar)
  |_=>none
 |.OQ k=>
  match x with
  |.int _ n=>some (.wS k (k.nearest n),.ar)
  |_=>none
 |.O5 k=>
  match x with
  |.wS s b=>
   match (s.decode b).toInt .zero with
   |some n=>if D4 s b=false/\k.min<=n/\n<=k.max then some (.int k n,.ar)else none
   |none=>none
  |_=>none
 |.O6 k=>
  match x with
  |.wS s b=>if s=k then some (.wS k b,.ar)else none
  |_=>none
 |.uM u=>some (.uM u x,.ar)
 |.MS=>
  match x with
  |.af=>some (.str [],.ar)
  |.slice b o n es=>
   match fu 1 G (.slice b o n es)with
   |some (l,_)=>
    match l.mapM byteOf with
    |some r=>some (.str r,.ar)
    |none=>none
   |none=>none
  |_=>none
 |.NG=>
  match x with
  |.str s=>some (.slice N0 0 s.length 1,.push (.cells (s.map λb=>.int .u8 b.toNat) true true))
  |_=>none
def nj(k:o6):(cV->AV)->(Nat->Option ak)->Nat->Option (AV×iI):=
 match k with
 |.cg x=>λρ G N0=>some (ρ x,.ar)
 |.pick c a b=>λρ G N0=>
  match ρ c with
  |.bool t=>some (if t then ρ a else ρ b,.ar)
  |_=>none
 |.box x=>λρ G N0=>if(ρ x).cells.all AV.one then some (.ptr N0 0,.push (.cells (ρ x).cells true false))else none
 |.lK n x=>λρ G N0=>if(ρ x).cells.all AV.one=true/\(ρ x).cells.length=n then some (.ptr N0 0,.push (.cells (ρ x).cells true false))else none
 |.build z ps=>λρ G N0=>
  match eV z (ps.map λp=>(p.1,p.2.1,ρ p.2.2))with
  |some c=>some (.agg c,.ar)
  |none=>none
 |.load n a=>λρ G N0=>
  match ρ a with
  |.ptr b o=>
   match G b with
   |some (.cells c _ _)=>
    match n with
    |none=>
     match c[o]? with
     |some x=>some (x,.ar)
     |none=>none
    |some n=>if o+n<=c.length then some (.agg ((c.drop o).take n),.ar)else none
   |_=>none
  |_=>none
 |.store n a x=>λρ G N0=>
  match ρ a with
  |.ptr b o=>
   match G b with
   |some (.cells c true tl)=>
    if(ρ x).cells.length=n/\(ρ x).cells.all AV.one=true/\o+n<=c.length then some (ay,.set b (.cells (fM c o (ρ x).cells) true tl))else none
   |_=>none
  |_=>none
 |.bQ x=>λρ G N0=>
  match ρ x with
  |.ptr b o=>some (.ptr b o,.ar)
  |.func (.func f) a c=>some (.func (.func f) a c,.ar)
  |.func (.yield f) a c=>some (.func (.yield f) a c,.ar)
  |.func (.methodOf t n) a c=>some (.func (.methodOf t n) a c,.ar)
  |.func (.via t p f q) a c=>some (.func (.via t p f q) a c,.ar)
  |_=>none
 |.bin op x y=>λρ G N0=>
  match eI op (ρ x) (ρ y)with
  |some v=>some (v,.ar)
  |none=>none
 |.eqv neg t x y=>λρ G N0=>
  match mz t (ρ x) (ρ y)with
  |some b=>some (.bool (if neg then !b else b),.ar)
  |none=>none
 |.un op x=>λρ G N0=>
  match wX op (ρ x)with
  |some v=>some (v,.ar)
  |none=>none
 |.conv k x=>λρ G N0=>mJ k (ρ x) G N0
 |.ud f a c=>λρ G N0=>some (.func f (a.map ρ) (c.map ρ),.ar)
 |.nV=>λρ G N0=>some (.map N0,.push (.bj []))
 |.vI es w z l c=>λρ G N0=>
  match ρ l,ρ c with
  |.int _ l,.int _ c=>
   if 0<=l/\l<=c/\(w:Int)*c<=2^48/\c<2^63 then some (.slice N0 0 l.toNat es,.push (.cells (dO l.toNat z) true true))else none
  |_,_=>none
 |.sl es x lo hi=>λρ G N0=>
  match ρ x with
  |.slice b o n es'=>
   if es' =es then
    match iZ (lo.map ρ) (hi.map ρ) n with
    |some (l,h')=>some (.slice b (o+l*es) (h'-l) es,.ar)
    |none=>none
   else none
  |.af=>
   match iZ (lo.map ρ) (hi.map ρ) 0 with
   |some _=>some (.af,.ar)
   |none=>none
  |_=>none
 |.Jd x lo hi=>λρ G N0=>
  match ρ x with
  |.str s=>
   match iZ (lo.map ρ) (hi.map ρ) s.length with
   |some (l,h')=>some (.str ((s.drop l).take (h'-l)),.ar)
   |none=>none
  |_=>none
 |.MO k es x lo hi=>λρ G N0=>
  match ρ x with
  |.ptr b o=>
   match G b with
   |some (.cells c _ _)=>
    if o+k*es<=c.length then
     match iZ (lo.map ρ) (hi.map ρ) k with
     |some (l,h')=>some (.slice b (o+l*es) (h'-l) es,.ar)
     |none=>none
    else none
   |_=>none
  |_=>none
 |.aX off x=>λρ G N0=>
  match ρ x with
  |.ptr b o=>some (.ptr b (o+off),.ar)
  |_=>none
 |.bw es x i=>λρ G N0=>
  match ρ x,ρ i with
  |.slice b o n es',.int _ i=>if es' =es/\0<=i/\i<n then some (.ptr b (o+i.toNat*es),.ar)else none
  |_,_=>none
 |.sj len es x i=>λρ G N0=>
  match ρ x,ρ i with
  |.ptr b o,.int _ i=>if 0<=i/\i<len then some (.ptr b (o+i.toNat*es),.ar)else none
  |_,_=>none
 |.part n off x=>λρ G N0=>
  match ρ x with
  |.agg cs=>
   match n with
   |none=>
    match cs[off]? with
    |some v=>some (v,.ar)
    |none=>none
   |some n=>some (.agg ((cs.drop off).take n),.ar)
  |_=>none
 |.Jf len es n x i=>λρ G N0=>
  match ρ x,ρ i with
  |.agg cs,.int _ i=>
   if 0<=i/\i<len then
    match n with
    |none=>
     match cs[i.toNat*es]? with
     |some v=>some (v,.ar)
     |none=>none
    |some n=>some (.agg ((cs.drop (i.toNat*es)).take n),.ar)
   else none
  |_,_=>none
 |.Dh x i=>λρ G N0=>
  match ρ x,ρ i with
  |.str s,.int _ i=>
   if 0<=i then
    match s[i.toNat]? with
    |some b=>some (.int .u8 b.toNat,.ar)
    |none=>none
   else none
  |_,_=>none
 |.look kk z ok m k=>λρ G N0=>
  match ρ m with
  |.db=>some (if ok then .dL [z,.bool false]else z,.ar)
  |.map r=>
   match G r with
   |some (.bj es)=>
    match jo kk (ρ k) es with
    |some (some v)=>some (if ok then .dL [v,.bool true]else v,.ar)
    |some none=>some (if ok then .dL [z,.bool false]else z,.ar)
    |none=>none
   |_=>none
  |_=>none
 |.fO kk m k x=>λρ G N0=>
  match ρ m with
  |.map r=>
   match G r with
   |some (.bj es)=>
    match pg kk (ρ k) (ρ x) es with
    |some es'=>some (ay,.set r (.bj es'))
    |none=>none
   |_=>none
  |_=>none
 |.BI x=>λρ G N0=>
  match ρ x with
  |.str s=>some (.ptr N0 0,.push (.iter s 0))
  |_=>none
 |.rk x=>λρ G N0=>
  match ρ x with
  |.ptr b 0=>
   match G b with
   |some (.iter s pos)=>
    if pos<s.length then
     let d:=Utf8.decode ⟨⟨s⟩⟩ pos
     some (.dL [.bool true,.int .i64 pos,.int .i32 d.1],.set b (.iter s (pos+d.2)))
    else some (.dL [.bool false],.ar)
   |_=>none
  |_=>none
 |.ext x i=>λρ G N0=>
  match ρ x with
  |.dL l=>
   match l[i]? with
   |some v=>some (v,.ar)
   |none=>none
  |_=>none
 |.len lk x=>λρ G N0=>
  match jM lk G (ρ x)with
  |some n=>some (.int .i64 n,.ar)
  |none=>none
 |.zT n=>λρ G N0=>some (.int .i64 n,.ar)
 |.za es x y=>λρ G N0=>
  match ρ x,fu es G (ρ y)with
  |.slice b o n es',some (ys,k)=>
   if es' =es then
    if min k n=0 then some (.int .i64 0,.ar)
    else
     match G b with
     |some (.cells c true tl)=>if o+min k n*es<=c.length then some (.int .i64 (min k n:Nat),.set b (.cells (fM c o (ys.take (min k n*es))) true tl))else none
     |_=>none
   else none
  |.af,some _=>some (.int .i64 0,.ar)
  |_,_=>none
 |.mx x l=>λρ G N0=>
  match iD pZ (ρ x) (l.map ρ)with
  |some v=>some (v,.ar)
  |none=>none
 |.mn x l=>λρ G N0=>
  match iD pY (ρ x) (l.map ρ)with
  |some v=>some (v,.ar)
  |none=>none
 |_=>λρ G N0=>none
def pH(es w:Nat)(s y:AV)(G:Nat->Option ak)(N0:Nat):Option (AV×iI):=
 match fu es G y with
 |none=>none
 |some (ys,k)=>
  match s with
  |.af=>if k=0 then(if ys.isEmpty then some (.af,.ar)else none)else if k*w<=2^46 then some (.slice N0 0 k es,.push (.cells ys true true))else none
  |.slice b o m es'=>
   if es' =es then
    if k=0 then(if ys.isEmpty then some (.slice b o m es,.ar)else none)
    else if(m+k)*w<=2^46 then
     match G b with
     |some (.cells c true true)=>if o+m*es<=c.length then some (.slice N0 0 (m+k) es,.nL b .dead (.cells ((c.drop o).take (m*es)++ys) true true))else none
     |some (.cells c false true)=>if o+m*es=c.length then some (.slice N0 0 (m+k) es,.nL b (.cells c false false) (.cells (c.drop o++ys) false true))else none
     |some (.cells c true false)=>if o+m*es=c.length then some (.slice N0 0 (m+k) es,.push (.cells (c.drop o++ys) true true))else none
     |_=>none
    else none
   else none
  |_=>none
def stepT(k:o6):(cV->AV)->(Nat->Option ak)->Nat->Option (AV×iI):=
 match k with
 |.call _ _=>λ_ _ _=>none
 |.app es w x y=>λρ G N0=>pH es w (ρ x) (ρ y) G N0
 |.bg es n z ps=>λρ _ N0=>
  match eV (dO n z) (ps.map λp=>(p.1,es,ρ p.2))with
  |some c=>if c.all AV.one=true/\c.length=n*es then some (.slice N0 0 n es,.push (.cells c true (!Nat.beq n 0)))else none
  |none=>none
 |k=>nj k
def pD(es:Nat)(h:ah)(x:AV):fu es (λb=>h[b]?) x=cellsIn es h x:=by
 cases x<;>rfl
def D7(lk:LK)(h:ah)(x:AV):jM lk (λb=>h[b]?) x=zU lk h x:=by
 cases x<;>rfl
def Cz{k x h v e}(hs:mJ k x (λb=>h[b]?) h.length=some (v,e)):kg k x h=some (v,e.app h):=by
 cases k<;>simp only[mJ,pD]at hs<;>(repeat' split at hs)<;>first|(cases hs;done)|(cases hs;simp[kg,iI.app, *])
def H4{k ρ h v e}(hs:nj k ρ (λb=>h[b]?) h.length=some (v,e)):dw k ρ h=some (v,e.app h):=by
 cases k with
 |conv k x=>exact Cz (k:=k) (x:=ρ x) hs
 |vI es w z l c=>
  simp only[nj]at hs;split at hs
  case h_2=>cases hs
  rename_i kl il kc ic hl hc;split at hs
  case isFalse=>cases hs
  rename_i RZ;cases hs;simp only[dw,hl,hc];rw[Zh RZ];rfl
 |_=>simp only[nj,pD,D7]at hs<;>(repeat' split at hs)<;>first|(cases hs;done)|(cases hs;simp[dw,iI.app, *])
def nI{k ρ h v e}(hs:stepT k ρ (λb=>h[b]?) h.length=some (v,e)):mM k ρ h v (e.app h):=by
 have hf:∀k,nj k ρ (λb=>h[b]?) h.length=some (v,e)->dw k ρ h=some (v,e.app h):=λk hk=>H4 hk
 cases k with
 |call f args=>cases hs
 |app es w x y=>
  simp only[stepT,pH,pD]at hs;show wQ es w (ρ x) (ρ y) h v (e.app h);split at hs
  ·cases hs
  rename_i ys k hy;split at hs
  ·rename_i hx;rw[hx];split at hs
   ·rename_i hk;split at hs
    ·rename_i hys;cases hs;subst hk;exact .none (by rw[hy];cases ys<;>first|rfl|cases hys) (.inl rfl)
    ·cases hs
   ·split at hs
    ·rename_i hk hb;cases hs;exact .new ys k true hy Om hb rfl
    ·cases hs
  ·rename_i b o m es' hx;rw[hx];split at hs
   case isFalse=>cases hs
   rename_i hes;subst hes;split at hs
   ·rename_i hk;split at hs
    ·rename_i hys;cases hs;subst hk;exact .none (by rw[hy];cases ys<;>first|rfl|cases hys) (.inr ⟨b,o,m,rfl⟩)
    ·cases hs
   ·rename_i hk;split at hs
    case isFalse=>cases hs
    rename_i hb;split at hs
    ·rename_i c hc;split at hs
     case isFalse=>cases hs
     rename_i hl;cases hs;exact .over ys k b o m c true hy Om hb rfl hc hl
    ·rename_i c hc;split at hs
     case isFalse=>cases hs
     rename_i hl;cases hs;exact .on ys k b o m c false hy Om hb rfl hc hl
    ·rename_i c hc;split at hs
     case isFalse=>cases hs
     rename_i hl;cases hs;exact .full ys k b o m c hy Om hb rfl hc hl
    ·cases hs
  ·cases hs
 |bg es n z ps=>
  simp only[stepT]at hs;split at hs
  case h_2=>cases hs
  rename_i c hc;split at hs
  case isFalse=>cases hs
  rename_i RZ;cases hs;exact⟨c,true,_,hc,RZ.1,RZ.2,rfl,rfl⟩
 |_=>exact hf _ hs
inductive Acc where
 |no
 |rd (b:Nat)
 |wr (b:Nat) (k:ak)
def Acc.dR:Acc->Option Nat
 |.no=>none
 |.rd b=>some b
 |.wr b _=>some b
def Acc.app(h:ah):Acc->ah
 |.wr b k=>h.set b k
 |_=>h
def zL{k}(hk:fC k=true){ρ G G' N N'}:stepT k ρ G N=stepT k ρ G' N':=by
 cases k<;>first|(cases hk;done)|rfl|skip
 case conv c x=>cases c<;>first|(cases hk;done)|rfl
 case len lk x=>
  have hl:lk≠.mp:=λe=>by rw[e]at hk;cases hk
  have e:jM lk G (ρ x)=jM lk G' (ρ x):=by
   cases lk<;>first|exact absurd rfl hl|skip
   all_goals
    cases ρ x<;>first|rfl|(simp only[jM,reduceCtorEq,Zi];repeat' split)<;>rfl
  simp only[stepT,nj,e]
def zS{n a ρ G G' N N' b o}(ha:ρ a=.ptr b o)(hb:G b=G' b):stepT (.load n a) ρ G N=stepT (.load n a) ρ G' N':=by
 simp only[stepT,nj,ha,hb]
def w7{n a x ρ G G' N N' b o}(ha:ρ a=.ptr b o)(hb:G b=G' b):stepT (.store n a x) ρ G N=stepT (.store n a x) ρ G' N':=by
 simp only[stepT,nj,ha,hb]
def wP(o:bK)(ts:TS)(h:ah)(v:AV)(c:Acc):Prop:=
 (¬wanted o.gd ts/\c=.no/\v=ay)\/wanted o.gd ts/\((fC o.k=true/\c=.no/\stepT o.k (val ts) (λz=>h[z]?) h.length=some (v,.ar))\/
  (∃n a b off,o.k=.load n a/\val ts a=.ptr b off/\c=.rd b/\stepT o.k (val ts) (λz=>h[z]?) h.length=some (v,.ar))\/
  (∃n a x b off k,o.k=.store n a x/\val ts a=.ptr b off/\c=.wr b k/\stepT o.k (val ts) (λz=>h[z]?) h.length=some (v,.set b k)))
theorem wP.run{P o ts h g v c}(hs:wP o ts h v c)(hb:∀b,c.dR=some b->g[b]? =h[b]?):dB P o ts g (put ts o.dst v) (c.app g):=by
 rcases hs with⟨hw,rfl,rfl⟩|⟨hw,hs⟩
 ·exact .skip hw
 rcases hs with⟨hp,rfl,hs⟩|⟨n,a,b,off,hk,ha,rfl,hs⟩|⟨n,a,x,b,off,k,hk,ha,rfl,hs⟩
 ·refine .run hw ?_ ?_
  ·cases hk:o.k<;>rw[hk]at hp<;>first|(cases hp;done)|trivial
  ·rw[zL hp (G':=λz=>g[z]?) (N':=g.length)]at hs;have:=nI hs;cases hk:o.k<;>rw[hk]at hp this<;>first|(cases hp;done)|exact this
 ·rw[hk]at hs;rw[zS ha (G':=λz=>g[z]?) (N':=g.length) (hb b rfl).symm]at hs;exact z196
 ·rw[hk]at hs;rw[w7 ha (G':=λz=>g[z]?) (N':=g.length) (hb b rfl).symm]at hs;exact z196
def AL:List bK->TS->ah->List Acc->TS->Prop
 |[],ts,_,cs,ts'=>cs=[]/\ts' =ts
 |o::r,ts,h,cs,ts'=>∃v c cs1,wP o ts h v c/\cs=c::cs1/\AL r (put ts o.dst v) h cs1 ts'
theorem AL.row{h}:∀{l}{ts ts'}{cs},AL l ts h cs ts'->∃T:Nat->TS,T 0=ts/\T l.length=ts'/\cs.length=l.length/\∀j o,l[j]? =some o->∃v c,cs[j]? =some c/\wP o (T j) h v c/\T (j+1)=put (T j) o.dst v
 |[],ts,ts',cs,hs=>by
  obtain⟨rfl,rfl⟩:=hs;exact⟨λ_=>ts',rfl,rfl,rfl,λj o ho=>by simp at ho⟩
 |o::r,ts,ts',cs,hs=>by
  obtain⟨v,c,cs1,bV,rfl,hr⟩:=hs;obtain⟨T,hT,Tg,hl,hrow⟩:=hr.row;refine⟨λi=>match i with| 0=>ts|i+1=>T i,rfl,Tg,by simp[hl],λj x hx=>?_⟩;cases j with
  |zero=>simp at hx;subst hx;exact⟨v,c,rfl,bV,hT⟩
  |succ j=>
   obtain⟨v',c',h1,h2,h3⟩:=hrow j x (by simpa using hx);exact⟨v',c',by simpa using h1,h2,h3⟩
def dS:ah->List Acc->ah
 |h,[]=>h
 |h,c::cs=>dS (c.app h) cs
def fj:List Acc->Prop
 |[]=>True
 |c::cs=>(∀b,c.dR=some b->∀x∈cs,x.dR=some b->∀k k',c=Acc.wr b k\/x=Acc.wr b k'->False)/\fj cs
theorem fj.ne:∀{cs:List Acc},fj cs->∀{i j b:Nat}{k:ak}{c:Acc},cs[i]? =some (.wr b k)->i≠j->cs[j]? =some c->c.dR≠some b
 |[],_,i,j,b,k,c,h1,_,_=>by simp at h1
 |x::xs,h,i,j,b,k,c,h1,hij,h2=>by
  intro hc;cases i with
  |zero=>
   simp at h1;subst h1;cases j with
   |zero=>exact hij rfl
   |succ j=>exact h.1 b rfl c (ZV (by simpa using h2)) hc k k (.inl rfl)
  |succ i=>
   cases j with
   |zero=>
    simp at h2;subst h2;exact h.1 b hc _ (ZV (by simpa using h1)) rfl k k (.inr rfl)
   |succ j=>exact fj.ne h.2 (i:=i) (j:=j) (by simpa using h1) Om (by simpa using h2) hc
def uw(h:ah)(c:Acc):(c.app h).length=h.length:=by cases c<;>simp[Acc.app]
def yo{h:ah}{c:Acc}{b:Nat}(hb:∀k,c=.wr b k->False):(c.app h)[b]? =h[b]? :=by
 cases c with
 |wr b' k=>
  have:b'≠b:=λe=>hb k (by rw[e])
  simp[Acc.app,Zf this]
 |_=>rfl
theorem pL:∀{cs:List Acc}{h:ah}{b:Nat},(∀(j:Nat) (k:ak),cs[j]? =some (Acc.wr b k)->False)->(dS h cs)[b]? =h[b]?
 |[],h,b,_=>rfl
 |c::cs,h,b,hb=>by
  rw[dS,pL (λj k hj=>hb (j+1) k (by simpa using hj))];exact yo λk hk=>hb 0 k (by simp[hk])
theorem tL:∀{cs:List Acc}{h:ah},fj cs->∀{j b:Nat}{k:ak},b<h.length->cs[j]? =some (.wr b k)->(dS h cs)[b]? =some k
 |[],h,_,j,b,k,_,hj=>by simp at hj
 |c::cs,h,ho,j,b,k,hb,hj=>by
  cases j with
  |zero=>
   simp at hj;subst hj;rw[dS,pL (λj k' hj=>fj.ne ho (i:=0) (j:=j+1) (b:=b) (k:=k) rfl Om (by simpa using hj) rfl)];simp[Acc.app,hb]
  |succ j=>
   rw[dS];exact tL ho.2 (by rw[uw];exact hb) (by simpa using hj)
structure zp(h:ah)(cs:List Acc)(S:Nat->Bool)(g:ah):Prop where
 len:g.length=h.length
 wr:∀j b k,S j=true->cs[j]? =some (.wr b k)->g[b]? =some k
 ne:∀b,(∀j k,S j=true->cs[j]? =some (.wr b k)->False)->g[b]? =h[b]?
def zp.all{h g:ah}{cs:List Acc}{S:Nat->Bool}(H:zp h cs S g)(ho:fj cs)(hS:∀j c,cs[j]? =some c->S j=true):g=dS h cs:=by
 apply abi
 intro b;by_cases hx:∃(j:Nat) (k:ak),cs[j]? =some (Acc.wr b k)
 ·obtain⟨j,k,hj⟩:=hx;have h1:=H.wr j b k (hS j _ hj) hj;have:b<h.length:=by rw[<-H.len];exact(YU.1 h1).1
  rw[h1,tL ho this hj]
 ·rw[H.ne b λj k _ hj=>hx ⟨j,k,hj⟩,pL λj k hj=>hx ⟨j,k,hj⟩]
def tV{P:Program}(hmix:P.follows .mixedOrders=true){ops:Array Oper}{l:List bK}(hed:kG (Region.before ops) ops=true)(hsl:lQ (Region.before ops) ops=true)
  (hc:eX (λ_ o=>bU P ops false o) ops.toList 0=some l) {ts ts':TS}{h:ah}{cs:List Acc}(hs:AL l ts h cs ts') (hok:fj cs) {m:bZ}{a:Act}{w:World}
  (st:St P m ts h a w) (ro:Option Nat) (Q:Exit->Act->World->Prop) (hQ:∀m' a' w',St P m' ts' (dS h cs) a' w'->Grow m h w m' (dS h cs) w'->a'.defers=a.defers->Q .normal a' w') (id:Nat):
  (Code.region id ops true).wpIn (Fd ro) 0 P Q a w:=by
 refine wpIn_region_any hmix ?_;obtain⟨T,rfl,rfl,hcl0,hrow⟩:=hs.row;obtain⟨RY,RM⟩:=gh hc;simp only[aa7]at RY;have VT:∀(j:Nat) (io:bK),l[j]? =some io->∃o,ops[j]? =some o/\bU P ops false o=some io:=λj io hj=>by
  exact M9
 have SV:∀(j:Nat) (io:bK) (d:Nat),l[j]? =some io->io.dst=some d->∃o,ops[j]? =some o/\o.dst=some d:=λj io d hj hd=>by
  exact MZ
 have huniq:∀(i j:Nat) (oi oj:bK) (d:Nat),l[i]? =some oi->l[j]? =some oj->oi.dst=some d->oj.dst=some d->i=j:=λi j oi oj d hi hj h1 h2=>by
  exact Nb
 have hTl:∀j,j<=l.length->(T j).length=(T 0).length:=by
  intro j
  induction j with
  |zero=>intro _;rfl
  |succ j ih=>
   intro hj;obtain⟨v,c,_,_,hv⟩:=hrow j _ (YZ (show j<l.length by omega));rw[hv,mZ];exact ih Om
 have RS:∀x y t,x<=y->y<=l.length->(∀(j:Nat) (o:bK),x<=j->j<y->l[j]? =some o->o.dst≠some t)->(T y).getD t ay=(T x).getD t ay:=by
  intro x y t hxy hy hno;have:=uI (T:=T) (t:=t) (a:=x) (y-x) (λj h1 h2=>by
   have hj:l[j]? =some (l[j]'Om):=YZ Om;obtain⟨v,c,_,_,hv⟩:=hrow j _ hj;exact⟨_,v,hv,hno j _ h1 Om hj⟩)
  rwa [show x+(y-x)=y from by omega]at this
 have hdone:∀(listed:Array Bool) (g:ah) (a1:Act) (w1:World),(∀i,i<ops.size->listed.getD i false=true)->zp h cs (λj=>listed.getD j false) g->HR P m g w1->Grow m h w m g w1->a1.tmps.size=(T 0).length->
   (∀(d:Nat),(∀(j:Nat) (o:bK),l[j]? =some o->listed.getD j false=true->o.dst≠some d)->VR m ((T 0).getD d ay) (a1.tmps.getD d undef))->
   (∀(d j:Nat) (o:bK),l[j]? =some o->listed.getD j false=true->o.dst=some d->VR m ((T (j+1)).getD d ay) (a1.tmps.getD d undef))->a1.defers=a.defers->Q .normal a1 w1:=by
  intro listed g a1 w1 hall H hr hg eJ h1 h2 hd;have e:=H.all hok λj c hj=>hall j (by have:=(YU.1 hj).1;omega)
  subst e;refine hQ m a1 w1 ⟨hr,cK.gU ?_ ?_⟩ hg hd
  ·exact GN
  ·intro t x hx;exact QE
 have key:∀(fuel:Nat) (listed:Array Bool) (g:ah) (a1:Act) (w1:World),listed.size=ops.size->qN listed ops.size<=fuel->
   (∀j x,listed.getD j false=true->x<ops.size->ahead (Region.before ops) x j=true->listed.getD x false=true)->
   zp h cs (λj=>listed.getD j false) g->HR P m g w1->Grow m h w m g w1->a1.tmps.size=(T 0).length->
   (∀(d:Nat),(∀(j:Nat) (o:bK),l[j]? =some o->listed.getD j false=true->o.dst≠some d)->VR m ((T 0).getD d ay) (a1.tmps.getD d undef))->
   (∀(d j:Nat) (o:bK),l[j]? =some o->listed.getD j false=true->o.dst=some d->VR m ((T (j+1)).getD d ay) (a1.tmps.getD d undef))->a1.defers=a.defers->wpAnyIn (Fd ro) 0 P .any ops Q fuel listed a1 w1:=by
  intro fuel
  induction fuel with
  |zero=>
   intro listed g a1 w1 RU hu hcl H hr hg eJ h1 h2 hd;have hall:=k9 ops.size (show qN listed ops.size=0 by omega);exact⟨lT RU hall,hdone listed g a1 w1 hall H hr hg eJ h1 h2 hd⟩
  |succ fuel ih=>
   intro listed g a1 w1 RU hu hcl H hr hg eJ h1 h2 hd;refine⟨λhrn=>hdone listed g a1 w1 (lS hed RU hrn) H hr hg eJ h1 h2 hd,λi hi=>?_⟩;obtain⟨o,ho,SR,Xd⟩:=(je RU).1 hi;have hin:i<ops.size:=(Zl.1 ho).1;obtain⟨io,hio,RP⟩:=RM i o (by simpa using ho);obtain⟨v,c,hci,bV,hTi⟩:=hrow i io hio;have hahead:∀x,x<ops.size->ahead (Region.before ops) x i=true->listed.getD x false=true:=λx hx ha=>by
    exact z37
   have TO:∀j x,(listed.setIfInBounds i true).getD j false=true->x<ops.size->ahead (Region.before ops) x j=true->(listed.setIfInBounds i true).getD x false=true:=by
    intro j x hj hx ha;exact MK
   have Vs:qN (listed.setIfInBounds i true) ops.size<=fuel:=by
    exact MG
   have hslot:∀t,t∈o.looksAt ops->VR m ((T i).getD t ay) (a1.tmps.getD t undef):=by
    intro t ht;exact z12
   have Ub:∀b,c.dR=some b->g[b]? =h[b]? :=λb hb=>H.ne b λj k hj XG=>by
    by_cases e1:j=i
    ·subst e1
     try simp only at hj
     rw[SR]at hj;cases hj
    ·exact fj.ne hok XG e1 hci hb
   refine fD ho RP hr.gv hr (by rw[eJ,hTl i Om]) hslot (bV.run (P:=P) Ub) ro _ Q ?_;intro cv v' m' w' Tg Ti hr' R2;have Sd:io.dst=o.dst:=(dt RP).1;have hm:m' =m:=by
    funext b;by_cases hb:b<g.length
    ·exact R2.ext b hb
    ·have e1:m b=none:=by
      cases hx:m b with
      |none=>rfl
      |some e=>exact absurd (hr.cL b e hx) hb
     have e2:m' b=none:=by
      cases hx:m' b with
      |none=>rfl
      |some e=>exact absurd (by have:=hr'.cL b e hx;rwa [uw]at this) hb
     rw[e1,e2]
   subst hm;have hlt:(listed.setIfInBounds i true).getD i false=true:=by rw[cZ Om,Zh rfl]
   have hne:∀j,j≠i->(listed.setIfInBounds i true).getD j false=listed.getD j false:=λj hj=>by rw[cZ Om,Za hj]
   have UO:(a1.put o.dst cv).tmps=gM a1.tmps o.dst cv:=by cases o.dst<;>rfl
   refine ih _ (c.app g) (a1.put o.dst cv) w' (by simp[RU]) Vs TO ⟨by rw[uw];exact H.len,?_,?_⟩ hr' (hg.trans R2 st.hr.cL) (by rw[UO,fk];exact eJ) ?_ ?_ (by rw[put_defers];exact hd)
   ·intro j b k hj XG
    try simp only at hj
    by_cases e1:j=i
    ·subst e1;rw[hci]at XG;cases XG;have:b<g.length:=by
      by_cases hb:b<g.length
      ·exact hb
      ·have e:=Ub b rfl;rcases bV with⟨_,h,_⟩|⟨_,hs3⟩
       ·cases h
       rcases hs3 with⟨_,h,_⟩|⟨_,_,_,_,_,_,h,_⟩|⟨n,aa,x,b',off,k',hk,ha,h,hs3⟩
       ·cases h
       ·cases h
       ·cases h;rw[hk]at hs3;rw[aaW Om]at e;simp only[stepT,nj,ha,<-e]at hs3;cases hs3
     simp[Acc.app,this]
    ·rw[hne j e1]at hj;rw[yo λk' hk'=>by
      subst hk';exact fj.ne hok XG e1 hci rfl]
     exact H.wr j b k hj XG
   ·intro b hb;rw[yo λk' hk'=>hb i k' hlt (by rw[hci,hk'])];exact H.ne b λj k hj XG=>by
     try simp only at hj
     exact hb j k (by
      show(listed.setIfInBounds i true).getD j false=true;by_cases e1:j=i
      ·subst e1;exact hlt
      ·rw[hne j e1];exact hj) XG
   ·intro d hdn;have TI:o.dst≠some d:=by rw[<-Sd];exact hdn i io hio hlt
    rw[UO,dD TI];refine h1 d λj oj hj hl=>hdn j oj hj ?_
    exact MH
   ·intro d j oj hj hl Ut;by_cases e1:j=i
    ·subst e1;rw[hio]at hj;cases hj;rw[hTi,UO,<-Sd,Ut];have hvv:put (T j) (some d) v=put (T j) (some d) v':=by
      have:=Tg;rw[<-Sd,Ut]at this;exact this
     rw[hvv];exact lA (by rw[eJ,hTl j Om]) Ti
    ·have TI:o.dst≠some d:=λhx=>by
      exact GU
     rw[UO,dD TI];rw[hne j e1]at hl;exact h2 d j oj hj hl Ut
 have RL:∀j,(Array.replicate ops.size false).getD j false=false:=λj=>by
  exact z75
 refine key ops.size (Array.replicate ops.size false) h a _ Si ?_ (λj x hj _ _=>by simp[RL j]at hj) ⟨rfl,λj b k hj _=>by simp[RL j]at hj,λb _=>rfl⟩ st.hr.drew (Grow.refl m _ w st.hr.cL).drew ?_ (λd _=>nK st.ts d) (λd j o _ hj _=>by simp[RL j]at hj) rfl
 ·exact ML
 ·exact z138
theorem Ev.sg{P ro}(hmix:P.follows .mixedOrders=true){l ts ts' h cs}(hs:AL l ts h cs ts')(hok:fj cs):Ev P ro (.sg l) ts h .normal ts' (dS h cs):=by
 refine Ev.of λcc hns hc m a w lo hlo st hm Q hQ=>?_
 cases cc with
 |region id ops draw=>
  rcases dZ (by simpa only[compile]using hc)with⟨l',h1,hl⟩|⟨l',h1,hd,⟨l2,hl2⟩,hz⟩|⟨_,h1,_⟩<;>cases h1
  subst hd;simp only[cN,Zk]at hl2;split at hl2
  case isFalse=>cases hl2
  rename_i Sg;simp only[ZE]at Sg;exact tV hmix Sg.1 Sg.2 hz hs hok st ro Q (λm' a' w' s g d=>hQ m' a' w' s g (by rw[d];exact hm.grow g st.hr.cL)) id
 |scope a=>exact absurd rfl (hns a)
 |block id a=>simp[compile]at hc
 |loop a=>simp[compile]at hc
 |_=>
  exact Ba
def C3(cs:List Acc):Acc->List Acc
 |.no=>cs
 |c=>cs++[c]
def AF{cs c}(hc:c≠.no):C3 cs c=cs++[c]:=by cases c<;>first|exact absurd rfl hc|rfl
def AU(h:ah):List bK->TS->List Acc->(TS->List Acc->Prop)->Prop
 |[],ts,cs,K=>K ts cs
 |o::r,ts,cs,K=>∃v c,wP o ts h v c/\AU h r (put ts o.dst v) (C3 cs c) K
theorem pK:∀{a b c},(∀x∈b,x=Acc.no)->fj (a++c)->fj (a++b++c)
 |[],[],c,_,h=>h
 |[],x::b,c,hb,h=>by
  have hx:=hb x Si;subst hx;exact⟨λn hn=>by(cases hn),by simpa using pK (a:=[]) (b:=b) (λy hy=>hb y (ZH _ hy)) h⟩
 |x::a,b,c,hb,h=>by
  refine⟨λn hn y hy hyn k k' hk=>?_,pK (a:=a) hb h.2⟩;rcases Y8.1 hy with hy|hy
  ·rcases Y8.1 hy with hy|hy
   ·exact h.1 n hn y (Y8.2 (.inl hy)) hyn k k' hk
   ·rw[hb y hy]at hyn;cases hyn
  ·exact h.1 n hn y (Y8.2 (.inr hy)) hyn k k' hk
theorem AU.sound{h}:∀{l}{ts}{cs}{K},AU h l ts cs K->∃UJ YR ts',AL l ts h UJ ts'/\K ts' (cs++YR)/\(∀(a c:List Acc),fj (a++YR++c)->fj (a++UJ++c))/\(∀g,dS g UJ=dS g YR)
 |[],ts,cs,K,H=>⟨[],[],ts,⟨rfl,rfl⟩,by rw[Zr];exact H,λ_ _ h=>h,λ_=>rfl⟩
 |o::r,ts,cs,K,H=>by
  obtain⟨v,c,h1,H⟩:=H;obtain⟨UJ,YR,ts',h2,h3,h4,h5⟩:=AU.sound (l:=r) H;by_cases hc:c=.no
  ·subst hc;refine⟨.no::UJ,YR,ts',⟨v,.no,UJ,h1,rfl,h2⟩,h3,λa d hd=>?_,λg=>h5 g⟩;have:=pK (a:=a) (b:=[.no]) (c:=UJ++d) Si (by simpa using h4 a d hd)
   simpa using this
  ·rw[AF hc]at h3;refine⟨c::UJ,c::YR,ts',⟨v,c,UJ,h1,rfl,h2⟩,by simpa using h3,λa d hd=>?_,λg=>by rw[dS,dS,h5]⟩;have:=h4 (a++[c]) d (by simpa using hd)
   simpa using this
theorem AU.mono{h}:∀{l}{ts}{cs}{K K'},AU h l ts cs K->(∀ts' cs',K ts' cs'->K' ts' cs')->AU h l ts cs K'
 |[],ts,cs,K,K',H,hk=>hk _ _ H
 |o::r,ts,cs,K,K',H,hk=>by
  obtain⟨v,c,h1,H⟩:=H;exact⟨v,c,h1,AU.mono (l:=r) H hk⟩
end Go.Abs
