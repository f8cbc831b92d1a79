/- A part of the proof that HouseCopied holds. No condition. -/
import Derived.Test.YtgplmdgpmbegiaaGreatDoorCp2
import Derived.RangeFuncRecord
import Derived.Test.YtgplmdgpmbegiaaGreatDoorCp0
set_option maxHeartbeats 4000000
set_option linter.all false
namespace Go.Abs
def qM(listed:Array Bool):Nat->Nat
 | 0=>0
 |n+1=>qM listed n+(if listed.getD n false then 0 else 1)
def c6{listed:Array Bool}{i j:Nat}(hi:i<listed.size):(listed.setIfInBounds i true).getD j false=(if j=i then true else listed.getD j false):=by
 by_cases h:j=i
 ·subst h;simp[ZK,aae hi]
 ·rw[Y6 h];simp[ZK,aaB (aam h)]
theorem Be{listed:Array Bool}{i:Nat}(hi:i<listed.size):∀n,n<=i->qM (listed.setIfInBounds i true) n=qM listed n
 | 0,_=>rfl
 |n+1,h=>by
  simp only[qM];rw[Be hi n Om,c6 hi,Y6 (by omega:¬n=i)]
theorem Bd{listed:Array Bool}{i:Nat}(hi:i<listed.size)(hn:listed.getD i false=false):∀n,i<n->qM (listed.setIfInBounds i true) n+1=qM listed n
 | 0,h=>absurd h Om
 |n+1,h=>by
  simp only[qM];rw[c6 hi];by_cases e:n=i
  ·subst e;rw[Be hi n (Y9 _),Zb rfl,hn];simp
  ·rw[Y6 e];have:=Bd hi hn n Om;omega
theorem lA{listed}:∀n,qM listed n=0->∀i,i<n->listed.getD i false=true
 | 0,_,i,hi=>absurd hi Om
 |n+1,h,i,hi=>by
  simp only[qM]at h;by_cases e:i=n
  ·subst e;cases hl:listed.getD i false with
   |true=>rfl
   |false=>rw[hl]at h;simp at h
  ·exact lA n Om i Om
def b9.dJ(m:b9)(n:Nat):b9:=λb=>if b<n then m b else none
def b9.patch(m1 m:b9)(n:Nat):b9:=λb=>if b<n then m1 b else m b
mutual
theorem VR.cut{ma m n}(hd:∀b e,ma b=some e->b<n):∀(x:AV) (va v:Value),VR ma x va->VR m x v->VR (m.dJ n) x v
 |.bool _,_,_,_,hv=>hv
 |.int _ _,_,_,_,hv=>hv
 |.wR _ _,_,_,_,hv=>hv
 |.wy _ _ _,_,_,_,hv=>hv
 |.str _,_,_,_,hv=>hv
 |.ptr b o,va,v,ha,hv=>by
  exact Qt
 |.nilPtr,_,_,_,hv=>hv
 |.slice b o n' es,va,v,ha,hv=>by
  rw[VR]at ha hv ⊢;obtain⟨e,_,_,he,_⟩:=ha;obtain⟨e',ca,cap,SM,hv⟩:=hv;exact⟨e',ca,cap,by unfold b9.dJ;rw[Zb (hd _ _ he)];exact SM,hv⟩
 |.af,_,_,_,hv=>hv
 |.map r,va,v,ha,hv=>by
  exact Qt
 |.db,_,_,_,hv=>hv
 |.func f a c,va,v,ha,hv=>by
  rw[VR]at ha hv ⊢;obtain⟨f1,a1,c1,_,U9,ha1,hc1⟩:=ha;obtain⟨f2,a2,c2,hv,Ur,ha2,XI⟩:=hv;refine⟨f2,a2,c2,hv,?_,cI.cut hd a _ _ ha1 ha2,cI.cut hd c _ _ hc1 XI⟩;cases f<;>simp only[AP]at U9 Ur ⊢<;>try exact Ur
  obtain⟨e,he,_⟩:=U9;obtain⟨e',SM,hg⟩:=Ur;exact⟨e',by unfold b9.dJ;rw[Zb (hd _ _ he)];exact SM,hg⟩
 |.nilFunc,_,_,_,hv=>hv
 |.uM u a,va,v,ha,hv=>by
  rw[VR]at ha hv ⊢;obtain⟨v1,_,h1⟩:=ha;obtain⟨v2,hv,h2⟩:=hv;exact⟨v2,hv,VR.cut hd a _ _ h1 h2⟩
 |.kE,_,_,_,hv=>hv
 |.agg l,va,v,ha,hv=>by
  exact z117
 |.dM l,va,v,ha,hv=>by
  exact z117
theorem cI.cut{ma m n}(hd:∀b e,ma b=some e->b<n):∀(l:List AV) (va vs:List Value),cI ma l va->cI m l vs->cI (m.dJ n) l vs
 |[],_,_,_,hv=>hv
 |x::xs,va,vs,ha,hv=>by
  obtain⟨y1,ys1,_,a1,a2⟩:=aO.1 ha;obtain⟨y2,ys2,h,b1,b2⟩:=aO.1 hv;exact aO.2 ⟨y2,ys2,h,VR.cut hd x _ _ a1 b1,cI.cut hd xs _ _ a2 b2⟩
end
def jj(n:Nat)(x:AV):Prop:=∃(ma:b9) (va:Value),(∀b e,ma b=some e->b<n)/\VR ma x va
def Mz(n:Nat)(l:List AV):Prop:=∃(ma:b9) (va:List Value),(∀b e,ma b=some e->b<n)/\cI ma l va
def qd(n:Nat):ak->Prop
 |.cells c _ _=>∀(i:Nat) (x:AV),c[i]? =some x->jj n x
 |.bf es=>∀(i:Nat) (p:AV×AV),es[i]? =some p->jj n p.1/\jj n p.2
 |.loop _ _ ts _ _ _=>Mz n ts
 |_=>True
def jj.mono{n k}(hnk:n<=k){x}(h:jj n x):jj k x:=by
 exact Kk
theorem qd.mono{n k}(hnk:n<=k){x}(h:qd n x):qd k x:=by
 cases x with
 |cells c mu tl=>exactλi x hx=>(h i x hx).mono hnk
 |bf es=>exactλi p hp=>⟨(h i p hp).1.mono hnk,(h i p hp).2.mono hnk⟩
 |loop a b c d e f=>
  exact Kk
 |_=>trivial
def BR.jj{P m w e k n}(h:BR P m w e k)(hd:∀b e,m b=some e->b<n):qd n k:=by
 cases k with
 |cells c mu tl=>
  obtain⟨cc,el,fz,_,_,h3,_⟩:=h;intro i x hx;obtain⟨_,v,_,hv⟩:=h3 i x hx;exact⟨m,v,hd,hv⟩
 |bf es=>
  obtain⟨_,TV,clock,_,_,h3⟩:=h;intro i p hp;obtain⟨q,_,h1,h2⟩:=h3 i p hp;exact⟨⟨m,_,hd,h1⟩,⟨m,_,hd,h2⟩⟩
 |loop st ex ts ps asg body=>
  obtain⟨_,fn,tmps,SK,R9,df,_,h2,_⟩:=h;exact⟨m,_,hd,h2⟩
 |_=>trivial
theorem BR.cut{P m w e k n}(h:BR P m w e k)(hc:qd n k):BR P (m.dJ n) w e k:=by
 cases k with
 |cells c mu tl=>
  obtain⟨cc,el,fz,h1,h2,h3,h4⟩:=h;exact⟨cc,el,fz,h1,h2,λi x hx=>by
   obtain⟨ho,v,hv,hr⟩:=h3 i x hx;obtain⟨ma,va,hd,ha⟩:=hc i x hx;exact⟨ho,v,hv,VR.cut hd _ _ _ ha hr⟩,h4⟩
 |dead=>trivial
 |bf es=>
  obtain⟨ho,TV,clock,h1,h2,h3⟩:=h;exact⟨ho,TV,clock,h1,h2,λi p hp=>by
   obtain⟨q,hq,ha,hb⟩:=h3 i p hp;obtain⟨⟨ma,va,hd,Xb⟩,⟨mb,vb,Sh,hb'⟩⟩:=hc i p hp;exact⟨q,hq,VR.cut hd _ _ _ Xb ha,VR.cut Sh _ _ _ hb' hb⟩⟩
 |iter s pos=>exact h
 |loop st ex ts ps asg body=>
  obtain⟨ho,fn,tmps,SK,R9,df,h1,h2,h3,h4⟩:=h;obtain⟨ma,va,hd,ha⟩:=hc;exact⟨ho,fn,tmps,SK,R9,df,h1,cI.cut hd _ _ _ ha h2,h3,h4⟩
structure sJ(P:Program)(l:List bI)(T:Nat->TS)(H:Nat->ah)(m0:b9)(w0:World)(S:Nat->Bool)(β θ:Nat)(m:b9)(ta:Array Value)(w:World):Prop where
 βθ:β<=θ
 θn:θ<=l.length
 low:∀j,j<β->S j=true
 high:∀j,S j=true->j<θ
 quiet:∀j,β<=j->j<θ->∃g,H (j+1)=H j++g
 len:∀j,j<θ->(H j).length<=(H (j+1)).length
 hr:HR P m (H θ) w
 Nd:∀j,j<θ->S j=false->∀b,(H j).length<=b->b<(H (j+1)).length->m b=none
 jj:∀i,β<=i->i<=θ->∀b e k,b<(H i).length->m b=some e->(H θ)[b]? =some k->qd (H i).length k
 apart:∀j,β<=j->j<θ->∀b b' e e',(H j).length<=b->b<(H (j+1)).length->¬((H j).length<=b'/\b'<(H (j+1)).length)->m b=some e->m b' =some e'->e.cb≠e'.cb
 grow:Grow m0 (H 0) w0 m (H θ) w
 size:ta.size=(T 0).length
 yE:∀d,(∀j o,l[j]? =some o->S j=true->o.dst≠some d)->VR m0 ((T 0).getD d az) (ta.getD d undef)
 yD:∀d j o,l[j]? =some o->S j=true->o.dst=some d->VR (m.dJ (H (j+1)).length) ((T (j+1)).getD d az) (ta.getD d undef)
theorem vK{H:Nat->ah}{θ:Nat}(h:∀j,j<θ->(H j).length<=(H (j+1)).length){i:Nat}:∀k,i+k<=θ->(H i).length<=(H (i+k)).length
 | 0,_=>Y9 _
 |k+1,hk=>ZL (vK h k Om) (h (i+k) Om)
def fF{H:Nat->ah}{θ:Nat}(h:∀j,j<θ->(H j).length<=(H (j+1)).length){i j:Nat}(hij:i<=j)(hj:j<=θ):(H i).length<=(H j).length:=by
 have:=vK h (i:=i) (j-i) Om
 rwa [show i+(j-i)=j from by omega]at this
theorem sX{H:Nat->ah}{β θ:Nat}(h:∀j,β<=j->j<θ->∃g,H (j+1)=H j++g){i:Nat}(hi:β<=i):∀k,i+k<=θ->∃g,H (i+k)=H i++g
 | 0,_=>⟨[],Si⟩
 |k+1,hk=>by
  obtain⟨g,hg⟩:=sX h hi k Om;obtain⟨g',R6⟩:=h (i+k) Om Om;exact⟨g++g',by rw[show i+(k+1)=i+k+1 from by omega,R6,hg,YR]⟩
def na{H:Nat->ah}{β θ:Nat}(h:∀j,β<=j->j<θ->∃g,H (j+1)=H j++g){i j:Nat}(hi:β<=i)(hij:i<=j)(hj:j<=θ):∃g,H j=H i++g:=by
 have:=sX h hi (j-i) Om
 rwa [show i+(j-i)=j from by omega]at this
theorem vY{H:Nat->ah}{i:Nat}:∀(k:Nat) {b:Nat},(H i).length<=b->b<(H (i+k)).length->∃j,i<=j/\j<i+k/\(H j).length<=b/\b<(H (j+1)).length
 | 0,b,h1,h2=>by simp at h2;omega
 |k+1,b,h1,h2=>by
  by_cases h:b<(H (i+k)).length
  ·obtain⟨j,a1,a2,a3⟩:=vY k h1 h;exact⟨j,a1,Om,a3⟩
  ·exact⟨i+k,Om,Om,Om,by rw[show i+k+1=i+(k+1)from by omega];exact h2⟩
section
variable {P:Program}{m m1:b9}{h:ah}{w:World}
def b9.fi(m:b9)(n:Nat):(m.dJ n).le m:=by
 intro b e hb;unfold b9.dJ at hb;split at hb
 ·exact hb
 ·cases hb
def b9.zy(m:b9){n k}(hnk:n<=k):(m.dJ n).le (m.dJ k):=by
 intro b e hb;unfold b9.dJ at hb ⊢;split at hb
 ·rw[Zb Om];exact hb
 ·cases hb
theorem HR.dJ{g}(hr:HR P m (h++g) w)(hgl:P.globals.size<=h.length)(hc:∀b e k,b<h.length->m b=some e->h[b]? =some k->qd h.length k):HR P (m.dJ h.length) h w where
 cK:=λb e hb=>by unfold b9.dJ at hb;split at hb<;>first|assumption|cases hb
 dR:=λb e k hb hk=>by
  unfold b9.dJ at hb;split at hb
  case isFalse=>cases hb
  rename_i hlt;exact(hr.dR b e k hb (by rw[YT hlt];exact hk)).cut (hc b e k hlt hb hk)
 sep:=λb1 b2 e1 e2 k1 k2 hne h1 h2 hk1 RJ hcb=>by
  have d1:b1<h.length:=(YQ.1 hk1).1;have d2:b2<h.length:=(YQ.1 RJ).1;exact hr.sep b1 b2 e1 e2 k1 k2 hne (b9.fi m _ _ _ h1) (b9.fi m _ _ _ h2) (by rw[YT d1];exact hk1) (by rw[YT d2];exact RJ) hcb
 fX:=λg hg=>by
  obtain⟨e,he,hx⟩:=hr.fX g hg;exact⟨e,by unfold b9.dJ;rw[Zb Om];exact he,hx⟩
 lt:=λb e hb=>hr.lt b e (b9.fi m _ _ _ hb)
def HR.Gt(hr:HR P m h w):P.globals.size<=h.length:=by
 by_cases hz:P.globals.size=0
 ·omega
 ·obtain⟨e,he,_⟩:=hr.fX (P.globals.size-1) Om;have:=hr.cK _ _ he;omega
variable {l:List bI}{T:Nat->TS}{H:Nat->ah}{m0:b9}{w0:World}{S:Nat->Bool}{β θ:Nat}{ta:Array Value}
def sJ.raise(M:sJ P l T H m0 w0 S β θ m ta w){θ':Nat}(h1:θ<=θ')(h2:θ'<=l.length)(hq:∀j,θ<=j->j<θ'->∃g,H (j+1)=H j++g):sJ P l T H m0 w0 S β θ' m ta w:=by
 have Xy:∀j,β<=j->j<θ'->∃g,H (j+1)=H j++g:=λj hj WU=>by
  by_cases hx:j<θ
  ·exact M.quiet j hj hx
  ·exact hq j Om WU
 have hlen:∀j,j<θ'->(H j).length<=(H (j+1)).length:=λj hj=>by
  by_cases hx:j<θ
  ·exact M.len j hx
  ·obtain⟨g,hg⟩:=hq j Om hj;rw[hg];simp
 obtain⟨g,hg⟩:=na Xy M.βθ h1 (Y9 _);have RP:∀b,b<(H θ).length->(H θ')[b]? =(H θ)[b]? :=λb hb=>by rw[hg,YT hb]
 have hdom:∀b e,m b=some e->b<(H θ).length:=M.hr.cK;refine⟨ZL M.βθ h1,h2,M.low,λj hj=>ZQ (M.high j hj) h1,Xy,hlen,⟨?_,?_,?_,M.hr.fX,M.hr.lt⟩,?_,?_,?_,⟨M.grow.ext,fF hlen (Zw _) (Y9 _),?_,?_,M.grow.size,M.grow.os,M.grow.out,M.grow.tape,M.grow.frame⟩,M.size,M.yE,M.yD⟩
 ·intro b e hb;have:=hdom b e hb;rw[hg];simp;omega
 ·intro b e k hb hk;exact M.hr.dR b e k hb (by rwa [RP b (hdom b e hb)]at hk)
 ·intro b1 b2 e1 e2 k1 k2 hne a1 a2 hk1 RJ hcb;exact M.hr.sep b1 b2 e1 e2 k1 k2 hne a1 a2 (by rwa [RP b1 (hdom _ _ a1)]at hk1) (by rwa [RP b2 (hdom _ _ a2)]at RJ) hcb
 ·intro j hj hs b hb hb';by_cases hx:j<θ
  ·exact M.Nd j hx hs b hb hb'
  ·cases SQ:m b with
   |none=>rfl
   |some e=>
    exact Kh
 ·intro i hi hi' b e k hb SQ hk;rw[RP b (hdom b e SQ)]at hk;by_cases hx:i<=θ
  ·exact M.jj i hi hx b e k hb SQ hk
  ·have a2:=fF hlen (i:=θ) (j:=i) Om Om;exact(M.jj θ M.βθ (Y9 _) b e k (hdom b e SQ) SQ hk).mono a2
 ·intro j hj WU b b' e e' hb Sf hb' SQ Vy;by_cases hx:j<θ
  ·exact M.apart j hj hx b b' e e' hb Sf hb' SQ Vy
  ·exact Kh
 ·intro b e hb SQ;obtain⟨ho,hc⟩:=M.grow.new b e hb SQ;refine⟨ho,hc.imp id ?_⟩;rintro⟨b0,e0,c1,c2,c3,c4,c5⟩;refine⟨b0,e0,c1,c2,c3,c4,?_⟩;have d0:b0<(H θ).length:=by
   cases hx:m0 b0 with
   |none=>rw[hx]at c1;cases c1
   |some e0'=>
    have:b0<(H 0).length:=by
     cases ht:(H 0)[b0]? with
     |none=>unfold ez at c4;rw[ht]at c4;cases c4
     |some k=>exact(YQ.1 ht).1
    exact ZQ this (fF hlen (Zw _) h1)
  unfold ez at c5 ⊢;rw[RP b0 d0];exact c5
 ·intro b hb ht;refine M.grow.tl b hb ?_;unfold ez at ht ⊢
  rwa [RP b (ZQ hb (fF hlen (Zw _) h1))]at ht
end
def gR(ta:Array Value)(d:Option Nat)(cv:Value):Array Value:=
 match d with
 |some d=>ta.setIfInBounds d cv
 |none=>ta
def e9(ta:Array Value)(d:Option Nat)(cv:Value):(gR ta d cv).size=ta.size:=by cases d<;>simp[gR]
def dD{ta d cv t}(h:d≠some t):(gR ta d cv).getD t undef=ta.getD t undef:=by
 cases d with
 |none=>rfl
 |some d=>
  have hne:d≠t:=λx=>h (by rw[x])
  simp[gR,ZK,aaB hne]
def xR{ts d v t}(h:d≠some t):(put ts d v).getD t az=ts.getD t az:=by
 cases d with
 |none=>rfl
 |some d=>
  have hne:d≠t:=λx=>h (by rw[x])
  simp[put,List.getD,Zc hne]
def lF{m ts ta d v cv}(hs:ta.size=ts.length)(hv:VR m v cv):VR m ((put ts (some d) v).getD d az) ((gR ta (some d) cv).getD d undef):=by
 by_cases h:d<ts.length
 ·have h':d<ta.size:=Om
  simp only[put,gR,List.getD,ZK];rw[Zd h,aae h'];exact hv
 ·have h':¬d<ta.size:=Om
  simp only[put,gR,List.getD,ZK];rw[aaR (by simp;omega),aas (by simp;omega)];exact jV m
def mark(S:Nat->Bool)(i:Nat):Nat->Bool:=λj=>if j=i then true else S j
section
variable {P:Program}{l:List bI}{T:Nat->TS}{H:Nat->ah}{m0 m m1:b9}{w0 w w1:World}{S:Nat->Bool}{β θ i:Nat}{ta:Array Value}
def sJ.cut(M:sJ P l T H m0 w0 S β θ m ta w)(hG:P.globals.size<=(H 0).length)(hi:β<=i)(hi':i<=θ):HR P (m.dJ (H i).length) (H i) w:=by
 obtain⟨g,hg⟩:=na M.quiet hi hi' (Y9 _);have hr:HR P m (H i++g) w:=by rw[<-hg];exact M.hr
 refine hr.dJ (ZL hG (fF M.len (Zw _) hi')) ?_;intro b e k hb SQ hk;exact M.jj i hi hi' b e k hb SQ (by rw[hg,YT hb];exact hk)
def sJ.Gj(M:sJ P l T H m0 w0 S β θ m ta w)(hG:P.globals.size<=(H 0).length)(hi:β<=i)(hi':i<θ)(hS:S i=false){io}(hio:l[i]? =some io)
  (hr1:HR P m1 (H (i+1)) w1) (gext:∀b,b<(H i).length->m1 b=(m.dJ (H i).length) b) (hnew0:∀b e,(H i).length<=b->m1 b=some e->e.own=true/\w0.heap.size<=e.cb/\∀b' e',m b' =some e'->e'.cb≠e.cb)
  (hfr:∀x,x<w.heap.size->(∀b e,(m.dJ (H i).length) b=some e->e.own=true->e.cb≠x)->(∀b e,(H i).length<=b->m1 b=some e->e.cb≠x)->w1.heap[x]? =w.heap[x]?)
  (ep:w.heap.size<=w1.heap.size) (hos:w1.os=w.os) (hout:w1.output=w.output) (htape:w1.tape=w.tape) {v}{cv}(hv:VR m1 v cv) (hTi:T (i+1)=put (T i) io.dst v) (hTl:(T i).length=(T 0).length)
  (huniq:∀j o d,j≠i->l[j]? =some o->o.dst=some d->io.dst≠some d):sJ P l T H m0 w0 (mark S i) β θ (m1.patch m (H (i+1)).length) (gR ta io.dst cv) w1:=by
 have Tp:∀a b,a<=b->b<=θ->(H a).length<=(H b).length:=λa b hab hb=>fF M.len hab hb
 have hi1:=M.len i hi';have hi2:=Tp (i+1) θ Om (Y9 _);have h0i:=Tp 0 i Om Om;obtain⟨gi,hgi⟩:=M.quiet i hi hi';obtain⟨gt,UX⟩:=na M.quiet (show β<=i+1 by omega) (show i+1<=θ by omega) (Y9 _);have f3:∀b,b<(H (i+1)).length->(m1.patch m (H (i+1)).length) b=m1 b:=λb hb=>by unfold b9.patch;rw[Zb hb]
 have f1:∀b,b<(H i).length->(m1.patch m (H (i+1)).length) b=m b:=λb hb=>by
  rw[f3 b Om,gext b hb];unfold b9.dJ;rw[Zb hb]
 have f2:∀b,(H (i+1)).length<=b->(m1.patch m (H (i+1)).length) b=m b:=λb hb=>by unfold b9.patch;rw[Y6 Om]
 have fgap:∀b,(H i).length<=b->b<(H (i+1)).length->m b=none:=M.Nd i hi' hS;have Uh:m.le (m1.patch m (H (i+1)).length):=λb e hb=>by
  by_cases h1:b<(H i).length
  ·rw[f1 b h1];exact hb
  ·by_cases h2:b<(H (i+1)).length
   ·rw[fgap b Om h2]at hb;cases hb
   ·rw[f2 b Om];exact hb
 have m1le:m1.le (m1.patch m (H (i+1)).length):=λb e hb=>by rw[f3 b (hr1.cK b e hb)];exact hb
 have hnew:∀b e,(H i).length<=b->b<(H (i+1)).length->(m1.patch m (H (i+1)).length) b=some e->e.own=true/\w0.heap.size<=e.cb/\∀b' e',m b' =some e'->e'.cb≠e.cb:=λb e hb hb' hm=>by
  rw[f3 b hb']at hm;exact hnew0 b e hb hm
 have hold:∀b e,m b=some e->e.cb<w.heap.size:=M.hr.lt;have hframe:∀b e,(H (i+1)).length<=b->m b=some e->w1.heap[e.cb]? =w.heap[e.cb]? :=λb e hb hm=>by
  refine hfr e.cb (hold b e hm) ?_ (λb0 e0 h0 h1 hcb=>(hnew0 b0 e0 h0 h1).2.2 b e hm hcb.symm);intro b0 e0 h0 ho hcb;have d0:b0<(H i).length:=by
   unfold b9.dJ at h0;split at h0
   ·assumption
   ·cases h0
  obtain⟨j,j1,j2,j3,j4⟩:=vY (H:=H) (i:=i+1) (θ-(i+1)) hb (by rw[show i+1+(θ-(i+1))=θ from by omega];exact M.hr.cK b e hm);have hj:=Tp i j Om Om;exact M.apart j Om Om b b0 e e0 j3 j4 (λx=>by omega) hm (b9.fi m _ _ _ h0) hcb.symm
 have RP:∀b,b<(H (i+1)).length->(H θ)[b]? =(H (i+1))[b]? :=λb hb=>by rw[UX,YT hb]
 have RW:∀b e,(m1.patch m (H (i+1)).length) b=some e->((H i).length<=b/\b<(H (i+1)).length/\m1 b=some e)\/(¬((H i).length<=b/\b<(H (i+1)).length)/\m b=some e):=λb e hb=>by
  by_cases h1:b<(H i).length
  ·rw[f1 b h1]at hb;exact .inr ⟨Om,hb⟩
  ·by_cases h2:b<(H (i+1)).length
   ·rw[f3 b h2]at hb;exact .inl ⟨Om,h2,hb⟩
   ·rw[f2 b Om]at hb;exact .inr ⟨Om,hb⟩
 have hHR:HR P (m1.patch m (H (i+1)).length) (H θ) w1:=by
  refine⟨?_,?_,?_,?_,?_⟩
  ·intro b e hb;rcases RW b e hb with⟨_,h2,_⟩|⟨_,h2⟩
   ·omega
   ·exact M.hr.cK b e h2
  ·intro b e k hb hk;by_cases h2:b<(H (i+1)).length
   ·rw[f3 b h2]at hb;exact(hr1.dR b e k hb (by rwa [RP b h2]at hk)).mono m1le
   ·rw[f2 b Om]at hb;exact((M.hr.dR b e k hb hk).mono Uh).heap (hframe b e Om hb)
  ·intro b1 b2 e1 e2 k1 k2 hne Sf Su hk1 RJ hcb;rcases RW b1 e1 Sf with⟨a1,a2,a3⟩|⟨a1,a2⟩
   ·rcases RW b2 e2 Su with⟨c1,c2,c3⟩|⟨c1,c2⟩
    ·exact hr1.sep b1 b2 e1 e2 k1 k2 hne a3 c3 (by rwa [RP b1 a2]at hk1) (by rwa [RP b2 c2]at RJ) hcb
    ·exact absurd hcb.symm ((hnew b1 e1 a1 a2 Sf).2.2 b2 e2 c2)
   ·rcases RW b2 e2 Su with⟨c1,c2,c3⟩|⟨c1,c2⟩
    ·exact absurd hcb ((hnew b2 e2 c1 c2 Su).2.2 b1 e1 a2)
    ·exact M.hr.sep b1 b2 e1 e2 k1 k2 hne a2 c2 hk1 RJ hcb
  ·intro g hg;obtain⟨e,he,hx⟩:=M.hr.fX g hg;exact⟨e,Uh _ _ he,hx⟩
  ·intro b e hb;rcases RW b e hb with⟨_,_,h3⟩|⟨_,h2⟩
   ·exact hr1.lt b e h3
   ·exact ZQ (hold b e h2) ep
 refine⟨M.βθ,M.θn,?_,?_,M.quiet,M.len,hHR,?_,?_,?_,?_,by rw[e9];exact M.size,?_,?_⟩
 ·intro j hj;unfold mark;split
  ·rfl
  ·exact M.low j hj
 ·intro j hj;unfold mark at hj;split at hj
  ·omega
  ·exact M.high j hj
 ·intro j hj hs b hb hb';unfold mark at hs;split at hs
  ·cases hs
  rename_i hji;by_cases h1:b<(H i).length
  ·rw[f1 b h1];exact M.Nd j hj hs b hb hb'
  ·by_cases h2:b<(H (i+1)).length
   ·exact Kq
   ·rw[f2 b Om];exact M.Nd j hj hs b hb hb'
 ·intro i2 hi2' XE b e k hb SQ hk;rcases RW b e SQ with⟨a1,a2,a3⟩|⟨_,a2⟩
  ·have hk':(H (i+1))[b]? =some k:=by rwa [RP b a2]at hk
   refine((hr1.dR b e k a3 hk').jj hr1.cK).mono ?_;by_cases hlt:i2<i+1
   ·have:=Tp i2 i Om Om;omega
   ·exact Tp (i+1) i2 Om XE
  ·exact M.jj i2 hi2' XE b e k hb a2 hk
 ·intro j hj WU b b' e e' hb Sf hb' SQ Vy;rcases RW b e SQ with⟨a1,a2,a3⟩|⟨a1,a2⟩
  ·rcases RW b' e' Vy with⟨c1,c2,c3⟩|⟨c1,c2⟩
   ·exfalso;by_cases hji:j=i
    ·subst hji;exact hb' ⟨c1,c2⟩
    ·exact Kq
   ·exactλhcb=>(hnew b e a1 a2 SQ).2.2 b' e' c2 hcb.symm
  ·rcases RW b' e' Vy with⟨c1,c2,c3⟩|⟨c1,c2⟩
   ·exact(hnew b' e' c1 c2 Vy).2.2 b e a2
   ·exact M.apart j hj WU b b' e e' hb Sf hb' a2 c2
 ·refine⟨λb hb=>(f1 b Om).trans (M.grow.ext b hb),M.grow.len,?_,M.grow.tl,ZL M.grow.size ep,hos.trans M.grow.os,hout.trans M.grow.out,htape.trans M.grow.tape,?_⟩
  ·intro b e hb SQ;rcases RW b e SQ with⟨a1,a2,_⟩|⟨_,a2⟩
   ·obtain⟨ho,hc⟩:=hnew b e a1 a2 SQ;exact⟨ho,.inl hc.1⟩
   ·exact M.grow.new b e hb a2
  ·intro x hx hno;refine(hfr x (ZQ hx M.grow.size) ?_ (λb e hb hm hcb=>by have:=(hnew0 b e hb hm).2.1;omega)).trans (M.grow.frame x hx hno);intro b e hb ho hcb;have SQ:=b9.fi m _ _ _ hb;by_cases h1:b<(H 0).length
   ·exact hno b e (by rw[<-M.grow.ext b h1];exact SQ) ho hcb
   ·obtain⟨_,hc⟩:=M.grow.new b e Om SQ;rcases hc with hc|⟨b0,e0,c1,c2,c3,_⟩
    ·omega
    ·exact hno b0 e0 c1 c3 (c2.trans hcb)
 ·intro d hd;exact Qw
 ·intro d j o hj hs ho;by_cases hji:j=i
  ·subst hji;rw[hio]at hj;cases hj;rw[hTi,ho];have h1:m1.le ((m1.patch m (H (j+1)).length).dJ (H (j+1)).length):=λb e hb=>by
    have:=hr1.cK b e hb;unfold b9.dJ;rw[Zb this,f3 b this];exact hb
   exact JJ
  ·exact z51
def sJ.next(M:sJ P l T H m0 w0 S β θ m ta w)(hG:P.globals.size<=(H 0).length)(hi:β<=i)(hi':i<θ)(hS:S i=false){io}(hio:l[i]? =some io)
  (hr1:HR P m1 (H (i+1)) w1) (g1:Grow (m.dJ (H i).length) (H i) w m1 (H (i+1)) w1) {v}{cv}(hv:VR m1 v cv) (hTi:T (i+1)=put (T i) io.dst v) (hTl:(T i).length=(T 0).length)
  (huniq:∀j o d,j≠i->l[j]? =some o->o.dst=some d->io.dst≠some d):sJ P l T H m0 w0 (mark S i) β θ (m1.patch m (H (i+1)).length) (gR ta io.dst cv) w1:=by
 obtain⟨gi,hgi⟩:=M.quiet i hi hi';refine M.Gj hG hi hi' hS hio hr1 g1.ext (λb e hb hm=>?_) (λx hx h1 _=>g1.frame x hx h1) g1.size g1.os g1.out g1.tape hv hTi hTl huniq;obtain⟨ho,hc⟩:=g1.new b e hb hm;have Tg:w.heap.size<=e.cb:=by
  rcases hc with hc|⟨b0,e0,c1,_,_,c4,c5⟩
  ·exact hc
  ·have d0:b0<(H i).length:=by
    unfold b9.dJ at c1;split at c1
    ·assumption
    ·cases c1
   unfold ez at c4 c5;rw[hgi,YT d0]at c5;rw[c5]at c4;cases c4
 exact⟨ho,ZL M.grow.size Tg,λb' e' hb'=>by have:=M.hr.lt b' e' hb';omega⟩
def sJ.jump(M:sJ P l T H m0 w0 S β i m ta w)(hd0:∀b e,m0 b=some e->b<(H 0).length)(hall:∀j,j<i->S j=true)(hil:i<l.length){io}(hio:l[i]? =some io)
  (hr1:HR P m1 (H (i+1)) w1) (g1:Grow (m.dJ (H i).length) (H i) w m1 (H (i+1)) w1) {v}{cv}(hv:VR m1 v cv) (hTi:T (i+1)=put (T i) io.dst v) (hTl:(T i).length=(T 0).length)
  (huniq:∀j o d,j≠i->l[j]? =some o->o.dst=some d->io.dst≠some d):sJ P l T H m0 w0 (mark S i) (i+1) (i+1) m1 (gR ta io.dst cv) w1:=by
 have hm:m.dJ (H i).length=m:=by
  funext b;unfold b9.dJ;split
  ·rfl
  ·cases hb:m b with
   |none=>rfl
   |some e=>exact absurd (M.hr.cK b e hb) (by assumption)
 rw[hm]at g1;have Uh:m.le m1:=g1.le M.hr.cK;refine⟨Y9 _,hil,?_,?_,λj hj WU=>absurd hj Om,?_,hr1,?_,?_,λj hj WU=>absurd hj Om,M.grow.trans g1 hd0,by rw[e9];exact M.size,?_,?_⟩
 ·intro j hj;unfold mark;split
  ·rfl
  ·exact hall j Om
 ·intro j hj;unfold mark at hj;split at hj
  ·omega
  ·have:=M.high j hj;omega
 ·intro j hj;by_cases hji:j=i
  ·subst hji;exact g1.len
  ·exact M.len j Om
 ·intro j hj hs;unfold mark at hs;split at hs
  ·cases hs
  ·rw[hall j Om]at hs;cases hs
 ·intro i2 hi2 hi2' b e k hb SQ hk;have:i2=i+1:=Om
  subst this;exact(hr1.dR b e k SQ hk).jj hr1.cK
 ·intro d hd;exact Qw
 ·intro d j o hj hs ho;by_cases hji:j=i
  ·subst hji;rw[hio]at hj;cases hj;rw[hTi,ho];have h1:m1.le (m1.dJ (H (j+1)).length):=λb e hb=>by
    have:=hr1.cK b e hb;unfold b9.dJ;rw[Zb this];exact hb
   exact JJ
  ·exact z51
end
section
variable {P:Program}{m m':b9}{h g h':ah}{w w' w0:World}
theorem qV:∀(l c pre:List AV),c.length=l.length->fK (pre++c) pre.length l=pre++l
 |[],c,pre,h=>by
  exact JG
 |x::l,[],pre,h=>by simp at h
 |x::l,y::c,pre,h=>by
  have e1:(pre++y::c).set pre.length x=(pre++[x])++c:=by
   exact z152
  have e2:pre.length+1=(pre++[x]).length:=Si
  show fK ((pre++y::c).set pre.length x) (pre.length+1) l=_;rw[e1,e2,qV l c (pre++[x]) (by simpa using h),YR];rfl
def Grow.forget(gr:Grow m h w m' (h++g) w'):Grow m h w (m'.dJ h.length) h w' where
 ext:=λb hb=>by unfold b9.dJ;rw[Zb hb];exact gr.ext b hb
 len:=Y9 _
 new:=λb e hb he=>by unfold b9.dJ at he;rw[Y6 Om]at he;cases he
 tl:=λb hb ht=>ht
 size:=gr.size
 os:=gr.os
 out:=gr.out
 tape:=gr.tape
 frame:=gr.frame
def HR.forget(hr:HR P m h w)(hr':HR P m' (h++g) w')(gr:Grow m h w m' (h++g) w'):HR P (m'.dJ h.length) h w':=
 hr'.dJ hr.Gt λb e k hb SQ hk=>(hr.dR b e k (by rw[<-gr.ext b hb];exact SQ) hk).jj hr.cK
def HR.MN(hr:HR P m h w){cb cc}{el:TypeId}{fz}(hb:w.heap[cb]? =some (.cells cc el fz))(hfz:∀i,i<cc.size->¬(fz.1<=i/\i<fz.2))(hout:∀b e,m b=some e->e.cb≠cb)
  {c}{d}(hc:d+c.length=cc.size) (hv:∀(i:Nat) (x:AV),c[i]? =some x->x.one=true/\∃v,cc[d+i]? =some v/\VR m x v):HR P (m.add h.length ⟨cb,d,cc.size,true⟩) (h++[.cells c true false]) w:=by
 have SO:m h.length=none:=by
  exact z53
 have hle:m.le (m.add h.length ⟨cb,d,cc.size,true⟩):=b9.rQ _ SO;have RW:∀b e,(m.add h.length ⟨cb,d,cc.size,true⟩) b=some e->(b=h.length/\e=⟨cb,d,cc.size,true⟩)\/(b<h.length/\m b=some e):=λb e Th=>by
  exact Qz
 refine⟨λb e Th=>?_,λb e k Th hk=>?_,λb1 b2 e1 e2 k1 k2 hne h1 h2 hk1 RJ hcb=>?_,λg hg=>?_,λb e Th=>?_⟩
 ·rw[YP];rcases RW b e Th with⟨rfl,_⟩|⟨hlt,_⟩
  ·simp
  ·simp;omega
 ·rcases RW b e Th with⟨rfl,rfl⟩|⟨hlt,hm⟩
  ·rw[Y7 (Y9 _),Z2]at hk;cases hk;refine⟨cc,el,fz,hb,⟨by show d+_<=_;omega,by show d+_<=cc.size;omega,rfl⟩,λi x hx=>?_,λ_=>⟨rfl,hfz⟩,λ_=>⟨rfl,λ_=>by show cc.size=d+c.length;omega⟩⟩;obtain⟨ho,v,h1,h2⟩:=hv i x hx;exact⟨ho,v,h1,VR.mono hle _ _ h2⟩
  ·rw[YT hlt]at hk;exact(hr.dR b e k hm hk).mono hle
 ·exact QO
 ·obtain⟨e,he,hx⟩:=hr.fX g hg;exact⟨e,hle _ _ he,hx⟩
 ·rcases RW b e Th with⟨_,rfl⟩|⟨_,hm⟩
  ·exact(Ze.1 hb).1
  ·exact hr.lt b e hm
def CL{x}(h:yd x=true):x.one=true:=by cases x<;>first|rfl|cases h
def EY{x v}(h:yd x=true)(hv:VR m x v)(m':b9):VR m' x v:=by
 cases x<;>first|exact hv|cases h
def kQ(m:b9)(w0 w:World)(zc:List AV)(cv:Value):Prop:=
 ∃(cb d:Nat) (cc:Array Value) (el:TypeId) (fz:Nat×Nat),cv=.pointer (some ⟨cb,d,none⟩)/\w.heap[cb]? =some (.cells cc el fz)/\d+zc.length=cc.size/\(∀i,i<cc.size->¬(fz.1<=i/\i<fz.2))/\
  (∀(i:Nat) (x:AV),zc[i]? =some x->x.one=true/\∃v,cc[d+i]? =some v/\∀m:b9,VR m x v)/\w0.heap.size<=cb/\∀b e,m b=some e->e.cb≠cb
def kQ.move{zc cv}(p:kQ m w0 w zc cv)(hh:∀cb d,cv=.pointer (some ⟨cb,d,none⟩)->cb<w.heap.size->(∀b e,m b=some e->e.cb≠cb)->w'.heap[cb]? =w.heap[cb]?)
  (hm:∀cb d,cv=.pointer (some ⟨cb,d,none⟩)->cb<w.heap.size->(∀b e,m b=some e->e.cb≠cb)->∀b e,m' b=some e->e.cb≠cb):kQ m' w0 w' zc cv:=by
 obtain⟨cb,d,cc,el,fz,h1,h2,h3,h4,h5,h6,h7⟩:=p;have hlt:cb<w.heap.size:=(Ze.1 h2).1;exact⟨cb,d,cc,el,fz,h1,by rw[hh cb d h1 hlt h7];exact h2,h3,h4,h5,h6,hm cb d h1 hlt h7⟩
def kQ.grow{zc cv}(p:kQ m w0 w zc cv)(gr:Grow (m.dJ h.length) h w m' h' w'):kQ m' w0 w' zc cv/\kQ (m'.patch m h'.length) w0 w' zc cv:=by
 have hh:∀cb d,cv=.pointer (some ⟨cb,d,none⟩)->cb<w.heap.size->(∀b e,m b=some e->e.cb≠cb)->w'.heap[cb]? =w.heap[cb]? :=λcb d _ hlt h7=>gr.frame cb hlt λb e he _=>h7 b e (b9.fi _ _ _ _ he)
 have hnew:∀cb,cb<w.heap.size->(∀b e,m b=some e->e.cb≠cb)->∀b e,m' b=some e->e.cb≠cb:=λcb hlt h7 b e he=>by
  by_cases hb:b<h.length
  ·rw[gr.ext b hb]at he;exact h7 b e (b9.fi _ _ _ _ he)
  ·obtain⟨_,hc⟩:=gr.new b e Om he;rcases hc with hc|⟨b0,e0,c1,c2,_⟩
   ·omega
   ·rw[<-c2];exact h7 b0 e0 (b9.fi _ _ _ _ c1)
 refine⟨p.move hh λcb d _ hlt h7=>hnew cb hlt h7,p.move hh λcb d _ hlt h7 b e he=>?_⟩;unfold b9.patch at he;split at he
 ·exact hnew cb hlt h7 b e he
 ·exact h7 b e he
end
structure cw(ops:Array Oper)(l:List bI)(k s t:Nat)(z:AV)(n:Nat)(x:cX):Prop where
 ks:k<s
 hk:l[k]? =some {dst:=some t,k:=.box (.c z),gd:=none,q:=true}
 hs:l[s]? =some {dst:=none,k:=.store n (.t t) x,gd:=none,q:=true}
 zn:z.cells.length=n
 zc:z.cells.all yd=true
 xt:∀u,x=.t u->u≠t/\fA ops s u=true
 lt:fA ops s t=true
 only:∀j,j<ops.size->j≠s->fA ops j t=false
def nK{o n t x}(h:lS o=some (n,t,x)):o={dst:=none,k:=.store n (.t t) x,gd:=none,q:=true}:=by
 obtain⟨d,k,gd,q⟩:=o;unfold lS at h;exact Ko
def yh{o t z}(h:tH o=some (t,z)):o={dst:=some t,k:=.box (.c z),gd:=none,q:=true}:=by
 obtain⟨d,k,gd,q⟩:=o;unfold tH at h;exact Ko
def pR{ops l k s}(hks:k<s)(h:pq ops l k s=true):∃t z n x,cw ops l k s t z n x:=by
 unfold pq at h;split at h
 case h_2=>cases h
 rename_i t z n t' x h1 h2;obtain⟨a,ha,hb⟩:=Z1.1 h1;obtain⟨b,Sf,Su⟩:=Z1.1 h2;have e1:=yh hb;have e2:=nK Su;subst e1;subst e2;simp only[Zx,beq_iff_eq,Zy,Z8,aaG,aak]at h;obtain⟨⟨⟨⟨⟨rfl,q2⟩,q3⟩,q4⟩,q5⟩,q6⟩:=h;refine⟨t,z,n,x,hks,ha,Sf,q2,Zy.2 q3,λu hu=>?_,q5,λj hj hne=>(q6 j hj).resolve_left hne⟩;subst hu;simp only[Zx,bne_iff_ne,ne_eq]at q4;exact q4
def cw.ok{ops l k s t z n x}(p:cw ops l k s t z n x):pq ops l k s=true:=by
 unfold pq;rw[p.hk,p.hs];simp only[Option.bind_some,tH,lS,Zx,beq_iff_eq,Zy,Z8,aaG,aak];refine⟨⟨⟨⟨⟨trivial,p.zn⟩,Zy.1 p.zc⟩,?_⟩,p.lt⟩,λj hj=>?_⟩
 ·cases x with
  |t u=>simp only[Zx,bne_iff_ne,ne_eq];exact p.xt u rfl
  |_=>rfl
 ·by_cases hne:j=s
  ·exact .inl hne
  ·exact .inr (p.only j hj hne)
def HL:bI:={dst:=none,k:=.cA (.c (.bool false)),gd:=none,q:=true}
theorem wb{ops l}:∀{r}{i j},(p7 ops l i r)[j]? =(r[j]?).map (tz ops l (i+j))
 |[],i,j=>by simp[p7]
 |o::r,i,0=>by simp[p7]
 |o::r,i,j+1=>by
  show(p7 ops l (i+1) r)[j]? =_;rw[wb,show i+1+j=i+(j+1) by omega];simp
theorem wa{ops l}:∀{r}{i},(p7 ops l i r).length=r.length
 |[],_=>rfl
 |o::r,i=>by simp[p7,wa]
def xX{ops l}(hl:l.length=ops.size){j o}(ho:l[j]? =some o):
  (∃k t z n x,cw ops l k j t z n x/\tz ops l j o={dst:=some t,k:=.oE n x,gd:=none,q:=true})\/
  (∃s t z n x,cw ops l j s t z n x/\tz ops l j o=HL)\/
  (tz ops l j o=o/\(∀k t z n x,¬cw ops l k j t z n x)/\(∀s t z n x,¬cw ops l j s t z n x)):=by
 unfold tz;split
 ·rename_i n t x bU;have e1:=nK bU;have RY:∀s t z n x,¬cw ops l j s t z n x:=λs t' z n' x' p=>by
   have:=p.hk;rw[ho,e1]at this;cases this
  split
  ·rename_i k hk;unfold O4 at hk;have h1:=abm hk;have h2:=Z8.1 (List.mem_of_find?_eq_some hk);obtain⟨t',z,n',x',p⟩:=pR h2 h1;have:=p.hs;rw[ho,e1]at this;cases this;exact .inl ⟨k,_,z,_,_,p,rfl⟩
  ·rename_i hk;refine .inr (.inr ⟨rfl,λk t' z n' x' p=>?_,RY⟩);unfold O4 at hk;exact List.find?_eq_none.1 hk k (Z8.2 p.ks) p.ok
 ·rename_i bU;have hns:∀k t z n x,¬cw ops l k j t z n x:=λk t' z n' x' p=>by
   have:=p.hs;rw[ho]at this;cases this;simp[lS]at bU
  split
  ·rename_i y RF;split
   ·rename_i s hs;unfold N2 at hs;have h1:=abm hs;simp only[Zx,ZJ]at h1;obtain⟨t',z,n',x',p⟩:=pR h1.1 h1.2;exact .inr (.inl ⟨s,t',z,n',x',p,rfl⟩)
   ·rename_i hs;refine .inr (.inr ⟨rfl,hns,λs t' z n' x' p=>?_⟩);unfold N2 at hs;refine List.find?_eq_none.1 hs s (Z8.2 ((YQ.1 p.hs).1)) ?_;simp only[Zx,ZJ];exact⟨p.ks,p.ok⟩
  ·rename_i RF;refine .inr (.inr ⟨rfl,hns,λs t' z n' x' p=>?_⟩);have:=p.hk;rw[ho]at this;cases this;simp[tH]at RF
def pG(v v':Value):Prop:=∀cb d VW d',v=.pointer (some ⟨cb,d,none⟩)->v' =.pointer (some ⟨VW,d',none⟩)->cb≠VW
theorem pG.symm{v v'}(h:pG v v'):pG v' v:=λcb d VW d' h1 h2 e=>h VW d' cb d h2 h1 e.symm
structure pK(ops:Array Oper)(l:List bI)(w0:World)(S:Nat->Bool)(ta tmps:Array Value)(m:b9)(w:World):Prop where
 size:tmps.size=ta.size
 ag:∀d,(∀k s z n x,cw ops l k s d z n x->S k=true->S s=false->False)->tmps.getD d undef=ta.getD d undef
 pd:∀k s t z n x,cw ops l k s t z n x->S k=true->S s=false->kQ m w0 w z.cells (tmps.getD t undef)
 dj:∀k s t z n x k' s' t' z' n' x',cw ops l k s t z n x->cw ops l k' s' t' z' n' x'->S k=true->S s=false->S k' =true->S s' =false->t≠t'->pG (tmps.getD t undef) (tmps.getD t' undef)
section
variable {ops:Array Oper}{l:List bI}{w0 w w':World}{S:Nat->Bool}{ta tmps:Array Value}{m m':b9}
def jq{ta d cv}(h:d<ta.size):(gR ta (some d) cv).getD d undef=cv:=by
 simp only[gR,ZK];rw[aae h];rfl
def xS{d cv t}(hs:tmps.size=ta.size)(h:tmps.getD t undef=ta.getD t undef):(gR tmps d cv).getD t undef=(gR ta d cv).getD t undef:=by
 by_cases hd:d=some t
 ·subst hd;by_cases ht:t<ta.size
  ·rw[jq ht,jq Om]
  ·simp only[gR,ZK];rw[aas (by simp;omega),aas (by simp;omega)]
 ·rw[dD hd,dD hd];exact h
def pK.other(I:pK ops l w0 S ta tmps m w){i d cv}(h1:∀k t z n x,¬cw ops l k i t z n x)(h2:∀s t z n x,¬cw ops l i s t z n x)(hd:∀k s t z n x,cw ops l k s t z n x->d≠some t)
  (hp:∀zc cv,kQ m w0 w zc cv->kQ m' w0 w' zc cv):pK ops l w0 (mark S i) (gR ta d cv) (gR tmps d cv) m' w' where
 size:=by rw[e9,e9];exact I.size
 ag:=λt ht=>xS I.size (I.ag t λk s z n x p hk hs=>ht k s z n x p (by unfold mark;split<;>first|rfl|exact hk) (by
  unfold mark;split
  ·rename_i e;subst e;exact absurd p (h1 _ _ _ _ _)
  ·exact hs))
 pd:=λk s t z n x p hk hs=>by
  have hki:k≠i:=λe=>h2 _ _ _ _ _ (e▸p)
  have hsi:s≠i:=λe=>h1 _ _ _ _ _ (e▸p)
  unfold mark at hk hs;rw[Y6 hki]at hk;rw[Y6 hsi]at hs;rw[dD (hd _ _ _ _ _ _ p)];exact hp _ _ (I.pd k s t z n x p hk hs)
 dj:=λk s t z n x k' s' t' z' n' x' p p' hk hs hk' RH hne=>by
  have hki:k≠i:=λe=>h2 _ _ _ _ _ (e▸p)
  have hsi:s≠i:=λe=>h1 _ _ _ _ _ (e▸p)
  have hki':k'≠i:=λe=>h2 _ _ _ _ _ (e▸p')
  have hsi':s'≠i:=λe=>h1 _ _ _ _ _ (e▸p')
  unfold mark at hk hs hk' RH;rw[Y6 hki]at hk;rw[Y6 hsi]at hs;rw[Y6 hki']at hk';rw[Y6 hsi']at RH;rw[dD (hd _ _ _ _ _ _ p),dD (hd _ _ _ _ _ _ p')];exact I.dj _ _ _ _ _ _ _ _ _ _ _ _ p p' hk hs hk' RH hne
def Di(ops:Array Oper)(l:List bI):Prop:=∀k s t z n x k' s' t' z' n' x',cw ops l k s t z n x->cw ops l k' s' t' z' n' x'->(t=t'->k=k'/\s=s')/\(k=k'->t=t')/\(s=s'->t=t')/\k≠s'
def pK.make(U:Di ops l)(I:pK ops l w0 S ta tmps m w){k s t n z x cv}(p0:cw ops l k s t z n x)(ht:t<tmps.size)(hss:S s=false)
  (hnew:kQ m' w0 w' z.cells cv) (hfar:∀cb d,cv=.pointer (some ⟨cb,d,none⟩)->w.heap.size<=cb) (hp:∀zc cv,kQ m w0 w zc cv->kQ m' w0 w' zc cv):pK ops l w0 (mark S k) ta (gR tmps (some t) cv) m' w' where
 size:=by rw[e9];exact I.size
 ag:=λd hd=>by
  by_cases hdt:d=t
  ·subst hdt;exact(hd k s z n x p0 (by simp[mark]) (by
    have:s≠k:=Nat.ne_of_gt p0.ks;simp only[mark,Y6 this];exact hss)).elim
  ·rw[dD (λe=>hdt (ZU e).symm)];refine I.ag d λk' s' z' n' x' p hk hs=>hd k' s' z' n' x' p (by unfold mark;split<;>first|rfl|exact hk) ?_
   have:s'≠k:=λe=>((U _ _ _ _ _ _ _ _ _ _ _ _ p0 p).2.2.2 e.symm)
   simp only[mark,Y6 this];exact hs
 pd:=λk' s' t' z' n' x' p hk hs=>by
  by_cases hkk:k' =k
  ·have e:=(U _ _ _ _ _ _ _ _ _ _ _ _ p0 p).2.1 hkk.symm;subst e;subst hkk;have hz:=p0.hk.symm.trans p.hk;have hz:z=z':=by cases hz;rfl
   subst hz;rw[jq ht];exact hnew
  ·have hsk:s'≠k:=λe=>((U _ _ _ _ _ _ _ _ _ _ _ _ p0 p).2.2.2 e.symm)
   unfold mark at hk hs;rw[Y6 hkk]at hk;rw[Y6 hsk]at hs;have hne:t≠t':=λe=>hkk ((U _ _ _ _ _ _ _ _ _ _ _ _ p0 p).1 e).1.symm
   rw[dD (λe=>hne (ZU e))];exact hp _ _ (I.pd _ _ _ _ _ _ p hk hs)
 dj:=λk1 s1 t1 z1 n1 x1 k2 s2 t2 z2 n2 x2 p1 p2 hk1 TD RJ Se hne=>by
  have hold:∀k' s' t' z' n' x',cw ops l k' s' t' z' n' x'->k'≠k->mark S k k' =true->mark S k s' =false->t≠t'/\S k' =true/\S s' =false/\(gR tmps (some t) cv).getD t' undef=tmps.getD t' undef:=λk' s' t' z' n' x' p hkk hk hs=>by
   have hsk:s'≠k:=λe=>((U _ _ _ _ _ _ _ _ _ _ _ _ p0 p).2.2.2 e.symm)
   unfold mark at hk hs;rw[Y6 hkk]at hk;rw[Y6 hsk]at hs;have hne:t≠t':=λe=>hkk ((U _ _ _ _ _ _ _ _ _ _ _ _ p0 p).1 e).1.symm
   exact⟨hne,hk,hs,dD (λe=>hne (ZU e))⟩
  have hfar':∀k' s' t' z' n' x',cw ops l k' s' t' z' n' x'->S k' =true->S s' =false->pG cv (tmps.getD t' undef):=λk' s' t' z' n' x' p hk hs cb1 d1 cb2 d2 e1 e2=>by
   obtain⟨cb,d,cc,el,fz,q1,q2,_⟩:=I.pd _ _ _ _ _ _ p hk hs;rw[q1]at e2;cases e2;have:=hfar cb1 d1 e1;have:=(Ze.1 q2).1;omega
  by_cases h1:k1=k
  ·have e1:=(U _ _ _ _ _ _ _ _ _ _ _ _ p0 p1).2.1 h1.symm;by_cases h2:k2=k
   ·exact absurd (e1.symm.trans ((U _ _ _ _ _ _ _ _ _ _ _ _ p0 p2).2.1 h2.symm)) hne
   ·obtain⟨a1,a2,a3,a4⟩:=hold _ _ _ _ _ _ p2 h2 RJ Se;rw[a4,<-e1,jq ht];exact hfar' _ _ _ _ _ _ p2 a2 a3
  ·obtain⟨b1,b2,b3,b4⟩:=hold _ _ _ _ _ _ p1 h1 hk1 TD;by_cases h2:k2=k
   ·have e2:=(U _ _ _ _ _ _ _ _ _ _ _ _ p0 p2).2.1 h2.symm;rw[b4,<-e2,jq ht];exact(hfar' _ _ _ _ _ _ p1 b2 b3).symm
   ·obtain⟨a1,a2,a3,a4⟩:=hold _ _ _ _ _ _ p2 h2 RJ Se;rw[a4,b4];exact I.dj _ _ _ _ _ _ _ _ _ _ _ _ p1 p2 b2 b3 a2 a3 hne
def pK.fill(U:Di ops l)(I:pK ops l w0 S ta tmps m w){k s t n z x}(p0:cw ops l k s t z n x)(ht:t<tmps.size)
  (hp:∀zc cv,pG cv (tmps.getD t undef)->kQ m w0 w zc cv->kQ m' w0 w' zc cv) (hk:S k=true) (hs:S s=false):pK ops l w0 (mark S s) (gR ta (some t) (tmps.getD t undef)) tmps m' w':=by
 have hold:∀k' s' t' z' n' x',cw ops l k' s' t' z' n' x'->mark S s k' =true->mark S s s' =false->t≠t'/\S k' =true/\S s' =false:=λk' s' t' z' n' x' p hk' RH=>by
  have h1:k'≠s:=(U _ _ _ _ _ _ _ _ _ _ _ _ p p0).2.2.2;have h2:s'≠s:=λe=>by simp[mark,e]at RH
  unfold mark at hk' RH;rw[Y6 h1]at hk';rw[Y6 h2]at RH;exact⟨λe=>h2 ((U _ _ _ _ _ _ _ _ _ _ _ _ p p0).1 e.symm).2,hk',RH⟩
 refine⟨by rw[e9];exact I.size,λd hd=>?_,λk' s' t' z' n' x' p hk' RH=>?_,λk1 s1 t1 z1 n1 x1 k2 s2 t2 z2 n2 x2 p1 p2 hk1 TD RJ Se hne=>?_⟩
 ·by_cases hdt:d=t
  ·subst hdt;rw[jq (by rw[<-I.size];exact ht)]
  ·rw[dD (λe=>hdt (ZU e).symm)];refine I.ag d λk' s' z' n' x' p hk' RH=>hd k' s' z' n' x' p (by unfold mark;split<;>first|rfl|exact hk') ?_
   have h2:s'≠s:=λe=>hdt ((U _ _ _ _ _ _ _ _ _ _ _ _ p p0).2.2.1 e)
   simp only[mark,Y6 h2];exact RH
 ·obtain⟨a1,a2,a3⟩:=hold _ _ _ _ _ _ p hk' RH;exact hp _ _ (I.dj _ _ _ _ _ _ _ _ _ _ _ _ p p0 a2 a3 hk hs (aam a1)) (I.pd _ _ _ _ _ _ p a2 a3)
 ·obtain⟨a1,a2,a3⟩:=hold _ _ _ _ _ _ p1 hk1 TD;obtain⟨b1,b2,b3⟩:=hold _ _ _ _ _ _ p2 RJ Se;exact I.dj _ _ _ _ _ _ _ _ _ _ _ _ p1 p2 a2 a3 b2 b3 hne
end
def cO{M ops}(h:lV M ops=true){i j x y}(hij:i<j)(hx:ops[i]? =some x)(hy:ops[j]? =some y):
  (∀d,x.dst=some d->y.dst≠some d/\(d∈y.looksAt ops->ahead M i j=true))/\(∀d,y.dst=some d->d∈x.looksAt ops->ahead M i j=true):=by
 have hj:j<ops.size:=(Ze.1 hy).1;unfold lV at h;rw[Zy]at h;have h1:=h j (Z8.2 hj);rw[Zy]at h1;have h2:=h1 i (Z8.2 hij);rw[hx,hy]at h2;simp only[Zx]at h2;obtain⟨h3,h4⟩:=h2;constructor
 ·intro d hd;rw[hd]at h3;simp only[Zx,bne_iff_ne,ne_eq,aaG,aak,List.contains_eq_mem,aaJ]at h3;exact⟨h3.1,λhl=>h3.2.resolve_left (λhx=>hx hl)⟩
 ·intro d hd hl;rw[hd]at h4;simp only[aaG,aak,List.contains_eq_mem,aaJ]at h4;exact h4.resolve_left (λhx=>hx hl)
def om{M ops}(h:kJ M ops=true){j o}(ho:ops[j]? =some o):
  (∀e∈o.after,Region.binds .any e=true->e.on<j)/\(∀i,i<ops.size->ahead M i j=true->∃e∈o.after,Region.binds .any e=true/\(e.on=i\/ahead M i e.on=true)):=by
 have hj:j<ops.size:=(Ze.1 ho).1;unfold kJ at h;rw[Zy]at h;have h1:=h j (Z8.2 hj);rw[ho]at h1;simp only[Zx]at h1;obtain⟨h2,h3⟩:=h1;constructor
 ·intro e he hb;rw[Zy]at h2;have:=h2 e (by simpa using he);simp only[hb,Zg,aa5,ZJ]at this;exact this
 ·intro i hi ha;rw[Zy]at h3;have:=h3 i (Z8.2 hi);simp only[ha,Zg,aa5,aaj,Zx,aaG,beq_iff_eq]at this;obtain⟨e,he,hb,hor⟩:=this;exact⟨e,by simpa using he,hb,hor⟩
def oI{M n j}(h:gL M n j=true){i}(hi:i<n)(hne:i≠j):(i<j->ahead M i j=true)/\(j<i->ahead M j i=true):=by
 unfold gL at h;rw[Zy]at h;have h1:=h i (Z8.2 hi);simp only[aaG,beq_iff_eq]at h1;have h2:=h1.resolve_left hne;constructor
 ·intro hlt;rwa [Zb hlt]at h2
 ·intro hlt;rwa [Y6 Om]at h2
theorem uJ{T:Nat->TS}{t:Nat}{a:Nat}:∀k,(∀j,a<=j->j<a+k->∃d v,T (j+1)=put (T j) d v/\d≠some t)->(T (a+k)).getD t az=(T a).getD t az
 | 0,_=>rfl
 |k+1,h=>by
  obtain⟨d,v,h1,h2⟩:=h (a+k) Om Om;rw[show a+(k+1)=a+k+1 from by omega,h1,xR h2];exact uJ k λj h3 h4=>h j h3 Om
def yV{listed:Array Bool}{i:Nat}(hi:i<listed.size):(λj=>(listed.setIfInBounds i true).getD j false)=mark (λj=>listed.getD j false) i:=by
 funext j;unfold mark;exact c6 hi
def jo{ops listed}(hs:listed.size=ops.size){i}:i∈Region.ready .any ops listed↔∃o,ops[i]? =some o/\listed.getD i false=false/\∀e∈o.after,Region.binds .any e=true->listed.getD e.on false=true:=by
 unfold Region.ready;simp only[aaa,Z8,Zx,aak];constructor
 ·rintro⟨hi,hl,ha⟩;have ho:ops[i]? =some ops[i]:=ZO hi;refine⟨ops[i],ho,?_,?_⟩
  ·exact z109
  ·rw[ho]at ha;simp only[aaO,aa6,Array.all_eq_true_iff_forall_mem,aaG,aak]at ha;intro e he hb;exact(ha e he).resolve_left (by simp[hb])
 ·rintro⟨o,ho,hl,ha⟩;have hi:i<ops.size:=(Ze.1 ho).1;refine⟨hi,?_,?_⟩
  ·exact z109
  ·rw[ho];simp only[aaO,aa6,Array.all_eq_true_iff_forall_mem,aaG,aak];intro e he;cases hb:Region.binds .any e with
   |true=>exact .inr (ha e he hb)
   |false=>exact .inl rfl
def lZ{M ops}(he:kJ M ops=true){listed}(hs:listed.size=ops.size)(hr:Region.ready .any ops listed=[]):∀i,i<ops.size->listed.getD i false=true:=by
 intro i
 induction i using Nat.strongRecOn with
 |_ i ih=>
  intro hi;cases hl:listed.getD i false with
  |true=>rfl
  |false=>
   have:i∈Region.ready .any ops listed:=by
    have ho:ops[i]? =some ops[i]:=ZO hi;refine(jo hs).2 ⟨ops[i],ho,hl,λe hee hb=>?_⟩;have:=(om he ho).1 e hee hb;exact ih e.on this Om
   rw[hr]at this;cases this
def l9{ops listed}(hs:listed.size=ops.size)(h:∀i,i<ops.size->listed.getD i false=true):Region.ready .any ops listed=[]:=by
 cases hr:Region.ready .any ops listed with
 |nil=>rfl
 |cons x xs=>
  have:x∈Region.ready .any ops listed:=by rw[hr];simp
  obtain⟨o,ho,hl,_⟩:=(jo hs).1 this;rw[h x (Ze.1 ho).1]at hl;cases hl
def vm{P:Program}(hmix:P.follows .mixedOrders=true){ops:Array Oper}{l:List bI}(hc:cM P ops true=some l){ts ts':TS}{h h':ah}(hs:yr P l ts h ts' h'){m:b9}{a:Act}{w:World}
  (st:St P m ts h a w) (ro:Option Nat) (Q:Exit->Act->World->Prop) (hQ:∀m' a' w',St P m' ts' h' a' w'->Grow m h w m' h' w'->a'.defers=a.defers->Q .normal a' w') (id:Nat):
  (Code.region id ops true).wpIn (Fd ro) 0 P Q a w:=by
 refine wpIn_region_any hmix ?_;obtain⟨T,H,rfl,rfl,rfl,rfl,hrow⟩:=hs.row;simp only[cM,Zi]at hc;split at hc
 case isFalse=>cases hc
 rename_i hok;simp only[Zx]at hok;obtain⟨hed,hsl⟩:=hok;obtain⟨l0,hc,hl⟩:=Zk.1 hc;obtain⟨R2,RP⟩:=gf hc;simp only[aa4]at R2;have hlen:l.length=ops.size:=by rw[<-hl,wa,R2]
 have hget0:∀j o,ops[j]? =some o->∃io,l0[j]? =some io/\bT P ops (!gL (Region.before ops) ops.size j) o=some io:=λj o ho=>by
  obtain⟨y,h1,h2⟩:=RP j o (by simpa using ho);exact⟨y,h1,by rwa [ZN]at h2⟩
 have Uw:∀j io,l0[j]? =some io->∃o,ops[j]? =some o/\bT P ops (!gL (Region.before ops) ops.size j) o=some io:=λj io hj=>by
  have hlt:j<ops.size:=by have:=(YQ.1 hj).1;omega
  have ho:ops[j]? =some ops[j]:=ZO hlt;obtain⟨io',h1,h2⟩:=hget0 j _ ho;rw[hj]at h1;cases h1;exact⟨_,ho,h2⟩
 have Xa:∀(j:Nat) (io:bI),l[j]? =some io->(∃k t z n x,cw ops l0 k j t z n x/\io={dst:=some t,k:=.oE n x,gd:=none,q:=true})\/(∃s t z n x,cw ops l0 j s t z n x/\io=HL)\/
   ((∃o,ops[j]? =some o/\bT P ops (!gL (Region.before ops) ops.size j) o=some io)/\(∀k t z n x,¬cw ops l0 k j t z n x)/\(∀s t z n x,¬cw ops l0 j s t z n x)):=λj io hj=>by
  rw[<-hl,wb,ZN]at hj;obtain⟨io0,h0,rfl⟩:=Zk.1 hj;rcases xX R2 h0 with⟨k,t,z,n,x,p,e⟩|⟨s,t,z,n,x,p,e⟩|⟨e,n1,n2⟩
  ·exact .inl ⟨k,t,z,n,x,p,e⟩
  ·exact .inr (.inl ⟨s,t,z,n,x,p,e⟩)
  ·rw[e];exact .inr (.inr ⟨Uw j io0 h0,n1,n2⟩)
 have hdU:∀(i j:Nat) (oi oj:Oper) (d:Nat),ops[i]? =some oi->ops[j]? =some oj->oi.dst=some d->oj.dst=some d->i=j:=λi j oi oj d hi hj h1 h2=>by
  by_cases hlt:i<j
  ·exact absurd h2 ((cO hsl hlt hi hj).1 d h1).1
  ·by_cases UX:j<i
   ·exact absurd h1 ((cO hsl UX hj hi).1 d h2).1
   ·omega
 have Yq:∀{k s t:Nat}{z:AV}{n:Nat}{x:cX},cw ops l0 k s t z n x->∃o,ops[k]? =some o/\o.dst=some t/\bT P ops (!gL (Region.before ops) ops.size k) o=some {dst:=some t,k:=.box (.c z),gd:=none,q:=true}:=λp=>by
  obtain⟨o,h1,h2⟩:=Uw _ _ p.hk;exact⟨o,h1,(dw h2).1.symm,h2⟩
 have hps:∀{k s t:Nat}{z:AV}{n:Nat}{x:cX},cw ops l0 k s t z n x->∃o,ops[s]? =some o/\o.dst=none/\bT P ops (!gL (Region.before ops) ops.size s) o=some {dst:=none,k:=.store n (.t t) x,gd:=none,q:=true}:=λp=>by
  obtain⟨o,h1,h2⟩:=Uw _ _ p.hs;exact⟨o,h1,(dw h2).1.symm,h2⟩
 have hlooks:∀{j t:Nat}{o:Oper},ops[j]? =some o->fA ops j t=true->t∈o.looksAt ops:=λho h=>by
  unfold fA at h;rw[ho]at h
  simpa using h
 have WI:∀{j t:Nat}{o:Oper},ops[j]? =some o->t∈o.looksAt ops->fA ops j t=true:=λho h=>by
  unfold fA;rw[ho]
  simpa using h
 have ep:∀{j:Nat}{o:Oper},ops[j]? =some o->j<ops.size:=λho=>(Ze.1 ho).1
 have U:Di ops l0:=λk s t z n x k' s' t' z' n' x' p p'=>by
  refine⟨λe=>?_,λe=>?_,λe=>?_,λe=>?_⟩
  ·subst e;obtain⟨o,h1,h2,_⟩:=Yq p;obtain⟨o',h1',h2',_⟩:=Yq p';refine⟨hdU _ _ _ _ _ h1 h1' h2 h2',?_⟩;by_cases hs:s=s'
   ·exact hs
   ·obtain⟨os,TD,_⟩:=hps p';have:=p.only s' (ep TD) (aam hs);rw[p'.lt]at this;cases this
  ·subst e;have:=p.hk.symm.trans p'.hk;cases this;rfl
  ·subst e;have:=p.hs.symm.trans p'.hs;cases this;rfl
  ·subst e;have:=p.hk.symm.trans p'.hs;cases this
 have hpt:∀{i:Nat}{o:Oper}{t:Nat},ops[i]? =some o->t∈o.looksAt ops->∀k s z n x,cw ops l0 k s t z n x->i=s:=λ{i o t} ho ht k s z n x p=>by
  by_cases hi:i=s
  ·exact hi
  ·have:=p.only _ (ep ho) hi;rw[WI ho ht]at this;cases this
 have SV:∀(j:Nat) (io:bI) (d:Nat),l[j]? =some io->io.dst=some d->(∃o,ops[j]? =some o/\o.dst=some d/\(∀k t z n x,¬cw ops l0 k j t z n x)/\(∀s t z n x,¬cw ops l0 j s t z n x))\/(∃k z n x,cw ops l0 k j d z n x):=λj io d hj hd=>by
  rcases Xa j io hj with⟨k,t,z,n,x,p,e⟩|⟨s,t,z,n,x,p,e⟩|⟨⟨o,h1,h2⟩,n1,n2⟩
  ·rw[e]at hd;cases hd;exact .inr ⟨k,z,n,x,p⟩
  ·rw[e]at hd;cases hd
  ·exact .inl ⟨o,h1,by rw[<- (dw h2).1];exact hd,n1,n2⟩
 have Tr:∀j io,l[j]? =some io->∃v,T (j+1)=put (T j) io.dst v:=λj io hj=>(hrow.step j io hj).1.put
 have hTl:∀j,j<=l.length->(T j).length=(T 0).length:=by
  intro j
  induction j with
  |zero=>intro _;rfl
  |succ j ih=>
   intro hj;exact z59
 have hG:P.globals.size<=(H 0).length:=st.hr.Gt;have huniq:∀(i:Nat) (io:bI),l[i]? =some io->∀(j:Nat) (o:bI) (d:Nat),j≠i->l[j]? =some o->o.dst=some d->io.dst≠some d:=by
  intro i io hi j o d hne hj hd Sh;rcases SV j o d hj hd with⟨oj,a1,a2,a3,a4⟩|⟨k,z,n,x,p⟩
  ·rcases SV i io d hi Sh with⟨oi,b1,b2,b3,b4⟩|⟨k',z',n',x',p'⟩
   ·exact hne (hdU _ _ _ _ _ a1 b1 a2 b2)
   ·obtain⟨ok,h1,h2,_⟩:=Yq p';have e:=hdU _ _ _ _ _ a1 h1 a2 h2;subst e;exact a4 _ _ _ _ _ p'
  ·rcases SV i io d hi Sh with⟨oi,b1,b2,b3,b4⟩|⟨k',z',n',x',p'⟩
   ·obtain⟨ok,h1,h2,_⟩:=Yq p;have e:=hdU _ _ _ _ _ b1 h1 b2 h2;subst e;exact b4 _ _ _ _ _ p
   ·exact hne ((U _ _ _ _ _ _ _ _ _ _ _ _ p p').1 rfl).2
 have RX:∀a b t,a<=b->b<=l.length->(∀(j:Nat) (o:bI),a<=j->j<b->l[j]? =some o->o.dst≠some t)->(T b).getD t az=(T a).getD t az:=by
  intro a b t hab hb hno;have:=uJ (T:=T) (t:=t) (a:=a) (b-a) (λj h1 h2=>by
   have hj:l[j]? =some (l[j]'Om):=YU Om;obtain⟨v,hv⟩:=Tr j _ hj;exact⟨_,v,hv,hno j _ h1 Om hj⟩)
  rwa [show a+(b-a)=b from by omega]at this
 have hqt:∀(j:Nat) (io:bI),l[j]? =some io->gL (Region.before ops) ops.size j=false->io.q=true:=λj io hj hb=>by
  rcases Xa j io hj with⟨k,t,z,n,x,p,e⟩|⟨s,t,z,n,x,p,e⟩|⟨⟨o,h1,h2⟩,n1,n2⟩
  ·rw[e]
  ·rw[e];rfl
  ·rw[(dw h2).2,hb];rfl
 have hdone:∀(listed:Array Bool) (β θ:Nat) (m1:b9) (ta:Array Value) (a1:Act) (w1:World),(∀i,i<ops.size->listed.getD i false=true)->
   sJ P l T H m w (λj=>listed.getD j false) β θ m1 ta w1->pK ops l0 w (λj=>listed.getD j false) ta a1.tmps m1 w1->a1.defers=a.defers->Q .normal a1 w1:=by
  intro listed β θ m1 ta a1 w1 hall M I hd;have hθ:θ=l.length:=by
   have h1:=M.θn;by_cases hz:l.length=0
   ·omega
   ·have:=M.high (l.length-1) (hall _ Om);omega
  subst hθ;refine hQ m1 a1 w1 ⟨M.hr,cI.iA ?_ ?_⟩ M.grow hd
  ·have:=M.size;have:=I.size;have:=hTl l.length (Y9 _);simp;omega
  ·intro t x hx;have hlt:=(YQ.1 hx).1;have Sk:t<a1.tmps.size:=by have:=M.size;have:=I.size;have:=hTl l.length (Y9 _);omega
   have ex:(T l.length).getD t az=x:=by simp[List.getD,hx]
   have ey:a1.tmps.getD t undef=a1.tmps[t]:=by simp[ZK,ZO Sk]
   have eg:a1.tmps.getD t undef=ta.getD t undef:=I.ag t λk s z n x p _ hs=>by
    obtain⟨os,TD,_⟩:=hps p;rw[hall s (ep TD)]at hs;cases hs
   refine⟨a1.tmps[t],Si,?_⟩;rw[<-ex,<-ey,eg];by_cases hw:∃(j:Nat) (o:bI),l[j]? =some o/\o.dst=some t
   ·obtain⟨j,o,hj,ho⟩:=hw;have T6:=(YQ.1 hj).1;have h1:=M.yD t j o hj (hall j Om) ho;rw[RX (j+1) l.length t Om (Y9 _) (λk o' h2 h3 h4 h5=>huniq j o hj k o' t Om h4 h5 ho)];exact VR.mono (b9.fi _ _) _ _ h1
   ·rw[RX 0 l.length t Om (Y9 _) (λk o' _ _ h4 h5=>hw ⟨k,o',h4,h5⟩)];exact VR.mono (M.grow.le st.hr.cK) _ _ (M.yE t (λj o hj _ ho=>hw ⟨j,o,hj,ho⟩))
 have key:∀(fuel:Nat) (listed:Array Bool) (β θ:Nat) (m1:b9) (ta:Array Value) (a1:Act) (w1:World),listed.size=ops.size->qM listed ops.size<=fuel->
   (∀j x,listed.getD j false=true->x<ops.size->ahead (Region.before ops) x j=true->listed.getD x false=true)->
   sJ P l T H m w (λj=>listed.getD j false) β θ m1 ta w1->pK ops l0 w (λj=>listed.getD j false) ta a1.tmps m1 w1->a1.defers=a.defers->wpAnyIn (Fd ro) 0 P .any ops Q fuel listed a1 w1:=by
  intro fuel
  induction fuel with
  |zero=>
   intro listed β θ m1 ta a1 w1 R0 hu hcl M I hd;have hall:=lA ops.size (show qM listed ops.size=0 by omega);exact⟨l9 R0 hall,hdone listed β θ m1 ta a1 w1 hall M I hd⟩
  |succ fuel ih=>
   intro listed β θ m1 ta a1 w1 R0 hu hcl M I hd;refine⟨λhr=>hdone listed β θ m1 ta a1 w1 (lZ hed R0 hr) M I hd,λi hi=>?_⟩;obtain⟨o,ho,Ss,WY⟩:=(jo R0).1 hi;have hin:i<ops.size:=(Ze.1 ho).1;have hio:l[i]? =some (l[i]'Om):=YU Om;generalize l[i]'Om=io at hio;obtain⟨bU,hq⟩:=hrow.step i io hio;have hahead:∀x,x<ops.size->ahead (Region.before ops) x i=true->listed.getD x false=true:=λx hx ha=>by
    exact M8
   have TH:β<=i:=by
    by_cases hx:i<β
    ·have:=M.low i hx;simp only[Ss]at this;cases this
    ·omega
   have TR:∀j x,(listed.setIfInBounds i true).getD j false=true->x<ops.size->ahead (Region.before ops) x j=true->(listed.setIfInBounds i true).getD x false=true:=by
    intro j x hj hx ha;exact M7
   have Vp:qM (listed.setIfInBounds i true) ops.size<=fuel:=by
    exact z76
   have hslot:∀(β' θ':Nat),sJ P l T H m w (λj=>listed.getD j false) β' θ' m1 ta w1->i<=θ'->∀t,t∈o.looksAt ops->(∀k s z n x,¬cw ops l0 k s t z n x)->VR (m1.dJ (H i).length) ((T i).getD t az) (ta.getD t undef):=by
    intro β' θ' M' hi' t ht hnp;have h0i:=fF M'.len (Zw i) hi';by_cases hex:∃(x:Nat) (ox:bI),l[x]? =some ox/\listed.getD x false=true/\ox.dst=some t
    ·obtain⟨x,ox,hx,hxl,U4⟩:=hex;rcases SV x ox t hx U4 with⟨oo,Ul,Vk,_⟩|⟨k,z,n,y,p⟩
     ·have hxn:x<ops.size:=(Ze.1 Ul).1;have hxi:x<i:=by
       by_cases h1:x=i
       ·subst h1;rw[Ss]at hxl;cases hxl
       ·by_cases h2:x<i
        ·exact h2
        ·have h3:=(cO hsl (show i<x by omega) ho Ul).2 t Vk ht;have h4:=hcl x i hxl hin h3;rw[Ss]at h4;cases h4
      have h1:=M'.yD t x ox hx hxl U4;rw[RX (x+1) i t Om Om (λk o' h2 h3 h4 h5=>huniq x ox hx k o' t Om h4 h5 U4)];exact VR.mono (b9.zy _ (fF M'.len Om hi')) _ _ h1
     ·exact absurd p (hnp _ _ _ _ _)
    ·rw[RX 0 i t Om Om (λk o' h2 h3 h4 h5=>by
      rcases SV k o' t h4 h5 with⟨oo,Ul,Sh,_⟩|⟨k',z,n,y,p⟩
      ·have h6:=((cO hsl h3 Ul ho).1 t Sh).2 ht;exact hex ⟨k,o',h4,hahead k (Ze.1 Ul).1 h6,h5⟩
      ·exact hnp _ _ _ _ _ p)]
     refine VR.mono ?_ _ _ (M'.yE t (λj o hj hl Sh=>hex ⟨j,o,hj,hl,Sh⟩));intro b e hb;have:=st.hr.cK b e hb;unfold b9.dJ;rw[Zb Om];exact M'.grow.le st.hr.cK b e hb
   have YK:∀t,(∀k s z n x,¬cw ops l0 k s t z n x)->a1.tmps.getD t undef=ta.getD t undef:=λt hnp=>I.ag t λk s z n x p _ _=>hnp _ _ _ _ _ p
   have hTn:∀j,j<=l.length->a1.tmps.size=(T j).length:=λj hj=>by rw[I.size,M.size,hTl j hj]
   have Uk:io.q=true->∃θ',i<θ'/\sJ P l T H m w (λj=>listed.getD j false) β θ' m1 ta w1:=λT7=>by
    by_cases SS:i<θ
    ·exact⟨θ,SS,M⟩
    ·refine⟨i+1,Om,M.raise Om Om λj hj WU=>?_⟩;have T6:j<ops.size:=Om
     have YB:l[j]? =some (l[j]'Om):=YU Om;by_cases hji:j=i
     ·subst hji;rw[hio]at YB;exact hq T7
     ·have hjs:listed.getD j false=false:=by
       cases hx:listed.getD j false with
       |false=>rfl
       |true=>have:=M.high j hx;omega
      cases hb:gL (Region.before ops) ops.size j with
      |true=>
       have h1:=(oI hb hin (λx=>hji x.symm)).2 Om;have h2:=hahead j T6 h1;rw[hjs]at h2;cases h2
      |false=>exact(hrow.step j _ YB).2 (hqt j _ YB hb)
   have hih:∀(β2 XV:Nat) (m2:b9) (ta2:Array Value) (a2:Act) (w2:World),sJ P l T H m w (mark (λj=>listed.getD j false) i) β2 XV m2 ta2 w2->pK ops l0 w (mark (λj=>listed.getD j false) i) ta2 a2.tmps m2 w2->a2.defers=a1.defers->
     wpAnyIn (Fd ro) 0 P .any ops Q fuel (listed.setIfInBounds i true) a2 w2:=λβ2 XV m2 ta2 a2 w2 M2 I2 WZ=>
    ih (listed.setIfInBounds i true) β2 XV m2 ta2 a2 w2 (by simpa using R0) Vp TR (by rw[yV Om];exact M2) (by rw[yV Om];exact I2) (WZ.trans hd)
   rcases Xa i io hio with⟨k,t,z,n,x,p,e⟩|⟨s,t,z,n,x,p,e⟩|⟨⟨o',ho',RU⟩,n1,n2⟩
   ·
    subst e;obtain⟨os,hos,hosd,RU⟩:=hps p;rw[ho]at hos;cases hos;obtain⟨ok,Vt,Sj,_⟩:=Yq p;have Wf:listed.getD k false=true:=hahead k (ep Vt) (((cO hsl p.ks Vt ho).1 t Sj).2 (hlooks ho p.lt));have hpend:=I.pd _ _ _ _ _ _ p Wf Ss;obtain⟨cb,d,cc,el,fz,TQ,hheap,R1,hfz,hcon,Yh,hout⟩:=hpend;obtain⟨θ',SS,M'⟩:=Uk rfl;have TA:=M'.cut hG TH (aaS SS);obtain⟨X,hX1,hX2,UQ,YL,hTs⟩:∃X:List AV,X=(val (T i) x).cells/\(X.all AV.one=true/\X.length=n)/\t<(T i).length/\H (i+1)=H i++[.cells X true false]/\T (i+1)=put (T i) (some t) (.ptr (H i).length 0):=by
     generalize H (i+1)=H1 at bU;generalize T (i+1)=T1 at bU;cases bU with
     |run hw hb hs=>
      have hs:dx (.oE n x) (val (T i)) (H i)=some (_,_):=hs;simp only[dx]at hs;split at hs
      case isFalse=>cases hs
      rename_i R3;cases hs;exact⟨_,rfl,R3,hb,rfl,rfl⟩
     |skip hw=>exact absurd trivial hw
    have hr1:=TA.MN hheap hfz (λb e he=>hout b e (b9.fi _ _ _ _ he)) R1 (λj y hy=>by
     obtain⟨h1,v,h2,h3⟩:=hcon j y hy;exact⟨h1,v,h2,h3 _⟩)
    generalize hmc:(m1.dJ (H i).length).add (H i).length ⟨cb,d,cc.size,true⟩=mc at hr1;have WH:mc (H i).length=some ⟨cb,d,cc.size,true⟩:=by rw[<-hmc];simp[b9.add]
    have Vx:∀b,b≠(H i).length->mc b=(m1.dJ (H i).length) b:=λb hb=>by rw[<-hmc];unfold b9.add;rw[Y6 hb]
    have hmcl:(m1.dJ (H i).length).le mc:=λb e he=>by
     by_cases hb:b=(H i).length
     ·subst hb;have:=TA.cK _ _ he;omega
     ·rw[Vx b hb];exact he
    have UO:val (put (T i) (some t) (.ptr (H i).length 0)) x=val (T i) x:=by
     cases x with
     |t u=>
      have hut:=(p.xt u rfl).1;simp only[val];exact xR (λe=>hut (ZU e).symm)
     |_=>rfl
    have hvt:val (put (T i) (some t) (.ptr (H i).length 0)) (.t t)=.ptr (H i).length 0:=by
     simp only[val,put,List.getD];rw[Zd UQ];rfl
    have hzl:z.cells.length=X.length:=by rw[p.zn,hX2.2]
    have YA:dB P {dst:=none,k:=.store n (.t t) x,gd:=none,q:=true} (put (T i) (some t) (.ptr (H i).length 0)) (H i++[.cells z.cells true false]) (put (T i) (some t) (.ptr (H i).length 0)) (H (i+1)):=by
     refine dB.run (v:=az) trivial trivial ?_;show dx (.store n (.t t) x) _ _=some (az,H (i+1));simp only[dx,hvt,UO];rw[Y7 (Y9 _),Z2];show(if(val (T i) x).cells.length=n/\(val (T i) x).cells.all AV.one=true/\0+n<=z.cells.length then some (az,(H i++[ak.cells z.cells true false]).set (H i).length (.cells (fK z.cells 0 (val (T i) x).cells) true false))else none)=_;rw[<-hX1,Zb ⟨hX2.2,hX2.1,by rw[p.zn];omega⟩];have aT:=qV X z.cells [] hzl;rw[aaz,aaz,YX]at aT;rw[aT,ZV _ _ (Y9 _),Z2,YL];rfl
    refine fw ho RU hr1.gv hr1 (by rw[nf];exact hTn i Om) (λu hu=>?_) YA ro _ Q ?_
    ·by_cases hut:u=t
     ·subst hut;have:(put (T i) (some u) (AV.ptr (H i).length 0)).getD u az=.ptr (H i).length 0:=hvt;rw[this,TQ];exact⟨_,WH,by rw[ZN]⟩
     ·have hnp:∀k s z n x,¬cw ops l0 k s u z n x:=λk' s' z' n' x' p'=>by
       have e:=hpt ho hu _ _ _ _ _ p';exact hut ((U _ _ _ _ _ _ _ _ _ _ _ _ p' p).2.2.1 e.symm)
      rw[xR (λe=>hut (ZU e).symm),YK u hnp];exact VR.mono hmcl _ _ (hslot β θ' M' (aaS SS) u hu hnp)
    ·intro cv v m' w' _ _ hr' R6;have hlen1:(H i++[ak.cells z.cells true false]).length=(H i).length+1:=Si
     have VB:(H (i+1)).length=(H i).length+1:=by rw[YL];simp
     have Ys:∀b,b<(H i).length+1->m' b=mc b:=λb hb=>R6.ext b (by rw[hlen1];exact hb)
     have Yt:m' (H i).length=some ⟨cb,d,cc.size,true⟩:=by rw[Ys _ Om];exact WH
     have XA:∀b e,(H i).length<=b->m' b=some e->b=(H i).length/\e=⟨cb,d,cc.size,true⟩:=λb e hb he=>by
      have h1:=hr'.cK b e he;rw[VB]at h1;have:b=(H i).length:=Om
      subst this;rw[Yt]at he;cases he;exact⟨rfl,rfl⟩
     have M2:=M'.Gj hG TH SS Ss hio hr' (λb hb=>by rw[Ys b Om,Vx b Om])
      (λb e hb he=>by
       obtain⟨_,rfl⟩:=XA b e hb he;exact⟨rfl,Yh,λb' e' h=>hout b' e' h⟩)
      (λy hy h1 h2=>R6.frame y hy λb e he ho' hcb=>by
       by_cases hb:b=(H i).length
       ·subst hb;rw[WH]at he;cases he;exact h2 _ _ (Y9 _) Yt hcb
       ·rw[Vx b hb]at he;exact h1 b e he ho' hcb)
      R6.size R6.os R6.out R6.tape (v:=.ptr (H i).length 0) (cv:=a1.tmps.getD t undef) (by rw[TQ];exact⟨_,Yt,by rw[ZN]⟩) hTs (hTl i Om) (huniq i _ hio)
     have Yp:a1.put o.dst cv=a1:=by rw[hosd];rfl
     rw[Yp];refine hih _ _ _ _ a1 w' M2 (I.fill U p (by rw[hTn i Om];exact UQ) (λzc c hne q=>?_) Wf Ss) rfl;refine q.move (λVW d' hc hlt h7=>?_) (λVW d' hc hlt h7 b e he=>?_)
     ·refine R6.frame VW hlt λb e he _ hcb=>?_
      by_cases hb:b=(H i).length
      ·subst hb;rw[WH]at he;cases he;exact hne _ _ _ _ hc TQ hcb.symm
      ·rw[Vx b hb]at he;exact h7 b e (b9.fi _ _ _ _ he) hcb
     ·unfold b9.patch at he;split at he
      ·rename_i hb;by_cases hbl:b<(H i).length
       ·rw[Ys b Om,Vx b Om]at he;exact h7 b e (b9.fi _ _ _ _ he)
       ·obtain⟨_,rfl⟩:=XA b e Om he
        exactλhcb=>hne _ _ _ _ hc TQ hcb.symm
      ·exact h7 b e he
   ·
    subst e;obtain⟨ok,Vt,Sj,RU⟩:=Yq p;rw[ho]at Vt;cases Vt;obtain⟨os,hos,_⟩:=hps p;have hss:listed.getD s false=false:=by
     cases hx:listed.getD s false with
     |false=>rfl
     |true=>
      have:=hcl s i hx hin (((cO hsl p.ks ho hos).1 t Sj).2 (hlooks hos p.lt));rw[Ss]at this;cases this
    obtain⟨θ',SS,M'⟩:=Uk rfl;have TA:=M'.cut hG TH (aaS SS);have UQ:t<(T i).length:=by
     have hsl':s<l.length:=by rw[hlen];exact ep hos
     have TD:l[s]? =some l[s]:=YU hsl';have Se:=(hrow.step s _ TD).1;rcases Xa s _ TD with⟨k',t',z',n',x',p',e⟩|⟨s',t',z',n',x',p',e⟩|⟨_,n1,_⟩
     ·have e2:=(U _ _ _ _ _ _ _ _ _ _ _ _ p p').2.2.1 rfl;subst e2;rw[e]at Se;generalize H (s+1)=H1 at Se;generalize T (s+1)=T1 at Se;have:t<(T s).length:=by
       cases Se with
       |run hw hb hs=>exact hb
       |skip hw=>exact absurd trivial hw
      rw[hTl s Om]at this;rw[hTl i Om];exact this
     ·exact absurd rfl ((U _ _ _ _ _ _ _ _ _ _ _ _ p' p).2.2.2)
     ·exact absurd p (n1 _ _ _ _ _)
    have hHk:H (i+1)=H i/\T (i+1)=T i:=by
     generalize H (i+1)=H1 at bU;generalize T (i+1)=T1 at bU;cases bU with
     |run hw hb hs=>
      have hs:dx (.cA (.c (.bool false))) (val (T i)) (H i)=some (_,_):=hs;simp only[dx]at hs;cases hs;exact⟨rfl,rfl⟩
     |skip hw=>exact absurd trivial hw
    have YA:dB P {dst:=some t,k:=.box (.c z),gd:=none,q:=true} (T i) (H i) (put (T i) (some t) (.ptr (H i).length 0)) (H i++[.cells z.cells true false]):=by
     refine dB.run (v:=.ptr (H i).length 0) trivial trivial ?_;exact Zb (show(val (T i) (.c z)).cells.all AV.one=true from Zy.2 λy hy=>CL (Zy.1 p.zc y hy))
    refine fw ho RU TA.gv TA (hTn i Om) (λu hu=>?_) YA ro _ Q ?_
    ·have hnp:∀k s z n x,¬cw ops l0 k s u z n x:=λk' s' z' n' x' p'=>by
      have e:=hpt ho hu _ _ _ _ _ p';exact(U _ _ _ _ _ _ _ _ _ _ _ _ p p').2.2.2 e
     rw[YK u hnp];exact hslot β θ' M' (aaS SS) u hu hnp
    ·intro cv v m' w' Ti Tk hr' R6;have hv:v=.ptr (H i).length 0:=by
      rw[Sj]at Ti;have:=Zz (λl:TS=>l[t]?) Ti;simp only[put]at this;rw[Zd UQ,Zd UQ]at this;exact(ZU this).symm
     subst hv;obtain⟨e,he,TQ⟩:=Tk;obtain⟨cc,el,fz,Sf,Su,Ue,hb4,hb5⟩:=hr'.dR _ e _ he (by rw[Y7 (Y9 _),Z2];rfl);obtain⟨hown,hex⟩:=hb5 (.inl rfl);have hex:=hex rfl;obtain⟨_,hnew⟩:=R6.new _ e (Y9 _) he;have hfar:w1.heap.size<=e.cb:=by
      rcases hnew with hnew|⟨b0,e0,c1,_,_,c4,c5⟩
      ·exact hnew
      ·have:=TA.cK b0 e0 c1;unfold ez at c4 c5;rw[YT this]at c5;rw[c5]at c4;cases c4
     rw[ZN]at TQ;have U9:=TA.forget hr' R6;have Ur:=R6.forget;have M2:=M'.next hG TH SS Ss hio (m1:=m'.dJ (H i).length) (w1:=w') (by rw[hHk.1];exact U9) (by rw[hHk.1];exact Ur) (v:=.bool false) (cv:=.bool false) rfl (by rw[hHk.2];rfl) (hTl i Om) (huniq i _ hio);have hin2:∀b e',((m'.dJ (H i).length).patch m1 (H (i+1)).length) b=some e'->m1 b=some e':=λb e' h=>by
      unfold b9.patch at h;split at h
      ·have hbl:b<(H i).length:=by
        unfold b9.dJ at h;split at h
        ·assumption
        ·cases h
       rw[Ur.ext b hbl]at h;exact b9.fi _ _ _ _ h
      ·exact h
     have hp2:∀zc c,kQ m1 w w1 zc c->kQ ((m'.dJ (H i).length).patch m1 (H (i+1)).length) w w' zc c:=λzc c q=>q.move
      (λVW d' _ hlt h7=>R6.frame VW hlt λb e' h _=>h7 b e' (b9.fi _ _ _ _ h)) (λVW d' _ hlt h7 b e' h=>h7 b e' (hin2 b e' h))
     have Yp:(a1.put o.dst cv).tmps=gR a1.tmps (some t) cv:=by rw[Sj];rfl
     refine hih _ _ _ _ (a1.put o.dst cv) w' M2 ?_ (put_defers ..);rw[Yp];show pK ops l0 w _ (gR ta HL.dst _) _ _ _;refine I.make U p (by rw[hTn i Om];exact UQ) hss ?_ (λVW d' h=>?_) hp2
     ·refine⟨e.cb,e.d,cc,el,fz,TQ,Sf,Om,(hb4 hown).2,λj y hy=>?_,ZL M.grow.size hfar,λb e' h=>?_⟩
      ·obtain⟨h1,v,h2,h3⟩:=Ue j y hy;exact⟨h1,v,h2,EY (Zy.1 p.zc y (ZT hy)) h3⟩
      ·have:=M.hr.lt b e' (hin2 b e' h);omega
     ·rw[TQ]at h;cases h;exact hfar
   ·
    rw[ho]at ho';cases ho';obtain⟨YG,hioq⟩:=dw RU;have hnp:∀t,t∈o.looksAt ops->∀k s z n x,¬cw ops l0 k s t z n x:=λt ht k s z n x p=>by
     have:=hpt ho ht k s z n x p;subst this;exact n1 _ _ _ _ _ p
    have TL:∀k s t z n x,cw ops l0 k s t z n x->io.dst≠some t:=λk s t z n x p hx=>by
     obtain⟨ok,h1,h2,_⟩:=Yq p;have e:=hdU _ _ _ _ _ h1 ho h2 (by rw[<-YG];exact hx);subst e;exact n2 _ _ _ _ _ p
    have RI:∀(β' θ':Nat),sJ P l T H m w (λj=>listed.getD j false) β' θ' m1 ta w1->β'<=i->i<=θ'->
      (∀cv v m' w',T (i+1)=put (T i) io.dst v->VR m' v cv->HR P m' (H (i+1)) w'->Grow (m1.dJ (H i).length) (H i) w1 m' (H (i+1)) w'->∃β2 XV m2,sJ P l T H m w (mark (λj=>listed.getD j false) i) β2 XV m2 (gR ta io.dst cv) w'/\∀zc c,kQ m1 w w1 zc c->kQ m2 w w' zc c)->
      wpOpIn (Fd ro) 0 P ops Q i (wpAnyIn (Fd ro) 0 P .any ops Q fuel (listed.setIfInBounds i true)) a1 w1:=by
     intro β' θ' M' hb' hi' Vu;have TA:=M'.cut hG hb' hi';refine fw ho RU TA.gv TA (hTn i Om) (λt ht=>?_) bU ro _ Q ?_
     ·rw[YK t (hnp t ht)];exact hslot β' θ' M' hi' t ht (hnp t ht)
     ·intro cv v m' w' Ti Tk hr' R6;obtain⟨β2,XV,m2,M2,hp2⟩:=Vu cv v m' w' (by rw[YG];exact Ti) Tk hr' R6;have:(a1.put o.dst cv).tmps=gR a1.tmps io.dst cv:=by rw[YG];cases o.dst<;>rfl
      exact hih β2 XV m2 _ _ w' M2 (by rw[this];exact I.other n1 n2 TL hp2) (put_defers ..)
    by_cases T7:io.q=true
    ·obtain⟨θ',SS,M'⟩:=Uk T7;exact RI β θ' M' TH Om λcv v m' w' Ti Tk hr' R6=>⟨β,θ',_,M'.next hG TH SS Ss hio hr' R6 Tk Ti (hTl i Om) (huniq i io hio),λzc c q=>(q.grow R6).2⟩
    ·have hbar:gL (Region.before ops) ops.size i=true:=by
      rw[hioq]at T7
      simpa using T7
     have hall:∀j,j<i->listed.getD j false=true:=λj hj=>hahead j Om ((oI hbar (show j<ops.size by omega) Om).1 hj)
     by_cases SS:i<θ
     ·exact RI β θ M TH Om λcv v m' w' Ti Tk hr' R6=>⟨β,θ,_,M.next hG TH SS Ss hio hr' R6 Tk Ti (hTl i Om) (huniq i io hio),λzc c q=>(q.grow R6).2⟩
     ·have hθi:θ=i:=by
       by_cases hz:i=0
       ·omega
       ·have:=M.high (i-1) (hall _ Om);omega
      subst hθi;exact RI β θ M TH (Y9 _) λcv v m' w' Ti Tk hr' R6=>⟨θ+1,θ+1,m',M.jump st.hr.cK hall Om hio hr' R6 Tk Ti (hTl θ Om) (huniq θ io hio),λzc c q=>(q.grow R6).1⟩
 have RO:∀j,(Array.replicate ops.size false).getD j false=false:=λj=>by
  exact z70
 refine key ops.size (Array.replicate ops.size false) 0 0 m a.tmps a _ Si ?_ (λj x hj _ _=>by simp[RO j]at hj) ?_ ?_ rfl
 ·exact M9
 ·refine⟨Y9 _,Zw _,λj hj=>absurd hj Om,λj hj=>by simp[RO j]at hj,λj _ hj=>absurd hj Om,λj hj=>absurd hj Om,st.hr.drew,λj hj=>absurd hj Om,?_,λj _ hj=>absurd hj Om,
   (Grow.refl m _ w st.hr.cK).drew,?_,?_,?_⟩
  ·intro i hi hi' b e k hb SQ hk;have:i=0:=Om
   subst this;exact(st.hr.dR b e k SQ hk).jj st.hr.cK
  ·exact Du
  ·intro d _;exact nP st.ts d
  ·intro d j o _ hj _;simp only[RO j]at hj;cases hj
 ·exact⟨rfl,λ_ _=>rfl,λk s t z n x p hk=>by simp[RO k]at hk,λk s t z n x k' s' t' z' n' x' p p' hk=>by simp[RO k]at hk⟩
def HC{k}(hk:fu k=true){ρ h h' v}(hs:mP k ρ h v h'):h' =h/\∀g,mP k ρ g v g:=by
 cases k<;>first
  |(cases hk;done)
  |skip
 case conv c x=>
  cases c<;>first
   |(cases hk;done)
   |skip
  have hs:dx _ _ _=some (_,_):=hs;simp only[dx,kg]at hs;split at hs
  ·rename_i k n hx;cases hs;refine⟨rfl,λg=>?_⟩;show dx _ _ _=some (_,_);simp only[dx,kg,hx]
  ·cases hs
 case len lk x=>
  have e:lk≠.mp->∀g,zX lk g (ρ x)=zX lk h (ρ x):=λhl g=>by
   cases lk<;>first|exact absurd rfl hl|skip
   all_goals
    cases ρ x<;>first|rfl|(simp only[zX,reduceCtorEq,Zf];repeat' split)<;>rfl
  have hl:lk≠.mp:=λe=>by rw[e]at hk;cases hk
  have hs:dx _ _ _=some (_,_):=hs;simp only[dx]at hs;split at hs
  ·rename_i n hn;cases hs;refine⟨rfl,λg=>?_⟩;show dx _ _ _=some (_,_);simp only[dx,e hl g,hn]
  ·cases hs
 all_goals
  have hs:dx _ _ _=some (_,_):=hs;simp only[dx]at hs
  repeat' split at hs
  all_goals first
   |(cases hs;done)
   |(cases hs
     refine⟨rfl,λg=>?_⟩;show dx _ _ _=some (_,_);simp only[dx, *]
     done)
   |(cases hs
     refine⟨rfl,λg=>?_⟩;show dx _ _ _=some (_,_);simp[dx, *]
     done)
def xU{P o}(hk:fu o.k=true){ts ts' h h'}(hs:dB P o ts h ts' h'):h' =h/\∀g,dB P o ts g ts' g:=by
 cases hs with
 | @run v h' hw hb hs=>
  have RH:mP o.k (val ts) h v h':=by
   cases TM:o.k<;>rw[TM]at hs hk<;>first|exact hs|(cases hk;done)
  obtain⟨rfl,h2⟩:=HC hk RH;refine⟨rfl,λg=>.run hw hb ?_⟩;have:=h2 g;cases TM:o.k<;>rw[TM]at this hk<;>first|exact this|(cases hk;done)
 |skip hw=>exact⟨rfl,λg=>.skip hw⟩
def xQ{P o}(hk:cD o.k=true){ts ts' h h'}(hs:dB P o ts h ts' h'):h' =h:=by
 by_cases hp:fu o.k=true
 ·exact(xU hp hs).1
 ·cases TM:o.k with
  |load n a=>
   cases hs with
   |run hw hb hs=>
    rw[TM]at hs;have hs:dx (.load n a) _ _=some (_,_):=hs;simp only[dx]at hs
    repeat' split at hs
    all_goals first
     |(cases hs;done)
     |(cases hs;rfl)
   |skip hw=>rfl
  |_=>rw[TM]at hk hp;exact absurd hk hp
def Fu{P o}(hk:kN o=true){ts ts' h h'}(hs:dB P o ts h ts' h')(hq:o.q=true->∃g,h' =h++g):∃g,h' =h++g:=by
 by_cases hqq:o.q=true
 ·exact hq hqq
 have hk:C2 o.k=true:=by
  have:o.q=false:=by simpa using hqq
  simpa [kN,this]using hk
 cases hs with
 |run hw hb hs=>
  cases TM:o.k<;>rw[TM]at hk hs<;>first|(cases hk;done)|skip
  case bd es n z ps=>
   have hs:mP (.bd es n z ps) _ _ _ _:=hs;obtain⟨c,mu,tl,_,_,_,_,e⟩:=hs;exact⟨_,e⟩
  all_goals
   have hs:dx _ _ _=some (_,_):=hs;simp only[dx]at hs
   repeat' split at hs
   all_goals first
    |(cases hs;done)
    |(cases hs;exact⟨_,rfl⟩)
 |skip hw=>exact⟨[],Si⟩
def Cg{P o n a}(hk:o.k=.load n a){ts ts' h}(hs:dB P o ts h ts' h)(g:ah):dB P o ts (h++g) ts' (h++g):=by
 generalize hh:h=h2 at hs;cases hs with
 | @run v _ hw hb hs=>
  subst hh;refine .run hw (by rw[hk];trivial) ?_;rw[hk]at hs ⊢;have hs:dx (.load n a) (val ts) h=some (v,h):=hs;show dx (.load n a) (val ts) (h++g)=some (v,h++g);simp only[dx]at hs ⊢;cases hv:val ts a with
  |ptr b off=>
   rw[hv]at hs;simp only at hs ⊢;cases Su:h[b]? with
   |none=>rw[Su]at hs;cases hs
   |some k=>
    rw[YT (YQ.1 Su).1,Su];rw[Su]at hs;cases k with
    |cells c mu tl=>
     simp only at hs ⊢;cases n with
     |none=>
      simp only at hs ⊢;cases hc:c[off]? with
      |none=>rw[hc]at hs;cases hs
      |some x=>rw[hc]at hs;cases hs;rfl
     |some n=>
      simp only at hs ⊢;by_cases hlt:off+n<=c.length
      ·rw[Zb hlt]at hs ⊢;cases hs;rfl
      ·rw[Y6 hlt]at hs;cases hs
    |_=>cases hs
  |_=>rw[hv]at hs;cases hs
 |skip hw=>subst hh;exact .skip hw
def HR.BW{P m h w}(hr:HR P m h w)(g:ah):HR P m (h++g) w where
 cK:=λb e hb=>by have:=hr.cK b e hb;simp;omega
 dR:=λb e k hb hk=>hr.dR b e k hb (by rwa [YT (hr.cK b e hb)]at hk)
 sep:=λb1 b2 e1 e2 k1 k2 hne h1 h2 hk1 RJ hcb=>hr.sep b1 b2 e1 e2 k1 k2 hne h1 h2 (by rwa [YT (hr.cK b1 e1 h1)]at hk1) (by rwa [YT (hr.cK b2 e2 h2)]at RJ) hcb
 fX:=hr.fX
 lt:=hr.lt
def HR.HT{P m h g w}(hr:HR P m (h++g) w)(hd:∀b e,m b=some e->b<h.length):HR P m h w where
 cK:=hd
 dR:=λb e k hb hk=>hr.dR b e k hb (by rw[YT (hd b e hb)];exact hk)
 sep:=λb1 b2 e1 e2 k1 k2 hne h1 h2 hk1 RJ hcb=>hr.sep b1 b2 e1 e2 k1 k2 hne h1 h2 (by rw[YT (hd b1 e1 h1)];exact hk1) (by rw[YT (hd b2 e2 h2)];exact RJ) hcb
 fX:=hr.fX
 lt:=hr.lt
def jy{M l}(h:nX M l=true){i j x y}(hij:i<j)(hx:l[i]? =some x)(hy:l[j]? =some y)(px:fu x.k=false)(py:fu y.k=false)(lx:mK x=false)(ly:mK y=false)
  (hr:(cD x.k=false/\cD y.k=false)\/(cD x.k=false/\kN x=false)\/(cD y.k=false/\kN y=false)):ahead M i j=true:=by
 have hj:j<l.length:=(YQ.1 hy).1;unfold nX at h;rw[Zy]at h;have h1:=h j (Z8.2 hj);rw[Zy]at h1;have h2:=h1 i (Z8.2 hij);rw[hx,hy]at h2;simp only[px,py,lx,ly,aa5]at h2;rcases hr with⟨a,b⟩|⟨a,b⟩|⟨a,b⟩<;>simpa [a,b]using h2
theorem yY:∀{l}{i}{o},l[i]? =some o->Ci o=false->i<dK l
 |[],i,o,h,_=>by simp at h
 |x::r,i,o,h,hk=>by
  have hn:¬kF (x::r)=true:=λhall=>by
   have:=Zy.1 (Bool.and_eq_true_iff.1 hall).1 o (ZT h);rw[hk]at this;cases this
  rw[dK,Y6 hn];cases i with
  |zero=>omega
  |succ i=>have:=yY (l:=r) (i:=i) (by simpa using h) hk;omega
def pZ{M l}(h:nj M l=true){i j x y}(hx:l[i]? =some x)(lx:mK x=true)(hy:l[j]? =some y)(ky:cD y.k=false)(hj:dK l<=j):ahead M i j=true:=by
 unfold nj at h;rw[Zy]at h;have h1:=h i (Z8.2 (YQ.1 hx).1);rw[hx]at h1;simp only[lx,Zg,aa5,Zy,Z8]at h1;have h2:=h1 j (YQ.1 hy).1;rw[hy]at h2;have WU:¬j<dK l:=Om
 simpa [ky,WU]using h2
def ra{P cq}(hmix:P.follows .mixedOrders=true){ops l}(hed:kJ (Region.before ops) ops=true)(hsl:lV (Region.before ops) ops=true)
  (hc:eO (λ_ o=>bT P ops (sg cq o) o) ops.toList 0=some l) (hmo:nX (Region.before ops) l=true) {T}{H}(hrow:Row P l T H) (hstab:∀(i:Nat) (io:bI),l[i]? =some io->mK io=true->∀θ,θ<=dK l->dB P io (T i) (H θ) (T (i+1)) (H θ)) (hlate:∀(i j:Nat) (x y:bI),l[i]? =some x->mK x=true->l[j]? =some y->cD y.k=false->dK l<=j->ahead (Region.before ops) i j=true) {m}{a}{w}
  (st:St P m (T 0) (H 0) a w) (ro:Option Nat) (Q:Exit->Act->World->Prop) (hQ:∀m' a' w',St P m' (T l.length) (H l.length) a' w'->Grow m (H 0) w m' (H l.length) w'->a'.defers=a.defers->Q .normal a' w') (id:Nat):
  (Code.region id ops true).wpIn (Fd ro) 0 P Q a w:=by
 refine wpIn_region_any hmix ?_;obtain⟨R2,RP⟩:=gf hc;simp only[aa4]at R2;have VM:∀(j:Nat) (io:bI),l[j]? =some io->∃o,ops[j]? =some o/\bT P ops (sg cq o) o=some io:=λj io hj=>by
  exact NC
 have SV:∀(j:Nat) (io:bI) (d:Nat),l[j]? =some io->io.dst=some d->∃o,ops[j]? =some o/\o.dst=some d:=λj io d hj hd=>by
  exact Nt
 have huniq:∀(i j:Nat) (oi oj:bI) (d:Nat),l[i]? =some oi->l[j]? =some oj->oi.dst=some d->oj.dst=some d->i=j:=λi j oi oj d hi hj h1 h2=>by
  exact NF
 have Tr:∀(j:Nat) (io:bI),l[j]? =some io->∃v,T (j+1)=put (T j) io.dst v:=λj io hj=>(hrow.step j io hj).1.put
 have hTl:∀j,j<=l.length->(T j).length=(T 0).length:=by
  intro j
  induction j with
  |zero=>intro _;rfl
  |succ j ih=>
   intro hj;exact z59
 have RX:∀x y t,x<=y->y<=l.length->(∀(j:Nat) (o:bI),x<=j->j<y->l[j]? =some o->o.dst≠some t)->(T y).getD t az=(T x).getD t az:=by
  intro x y t hxy hy hno;exact QM
 have UA:∀(j:Nat) (io:bI),l[j]? =some io->cD io.k=true->H (j+1)=H j:=λj io hj hk=>xQ hk (hrow.step j io hj).1
 have UB:∀x k,x+k<=l.length->(∀(j:Nat) (o:bI),x<=j->j<x+k->l[j]? =some o->cD o.k=true)->H (x+k)=H x:=by
  intro x k
  induction k with
  |zero=>intro _ _;rfl
  |succ k ih=>
   intro hk hno;exact QI
 have XN:∀x k,x+k<=l.length->(∀(j:Nat) (o:bI),x<=j->j<x+k->l[j]? =some o->cD o.k=true\/kN o=true)->∃g,H (x+k)=H x++g:=by
  intro x k
  induction k with
  |zero=>intro _ _;exact⟨[],Si⟩
  |succ k ih=>
   intro hk hno;have hj:l[x+k]? =some (l[x+k]'Om):=YU Om;obtain⟨g,hg⟩:=ih Om λj o h1 h2 h3=>hno j o h1 Om h3
   rcases hno _ _ Om Om hj with h1|h1
   ·exact⟨g,by rw[show x+(k+1)=x+k+1 from by omega,UA _ _ hj h1,hg]⟩
   ·obtain⟨g2,VF⟩:=Fu h1 (hrow.step _ _ hj).1 (hrow.step _ _ hj).2;exact⟨g++g2,by rw[show x+(k+1)=x+k+1 from by omega,VF,hg,YR]⟩
 have UZ:∀x y,x<=l.length->y<=l.length->(∀(j:Nat) (o:bI),l[j]? =some o->cD o.k=false->(j<x↔j<y))->H x=H y:=by
  intro x y hx hy hno;exact QQ
 have hdone:∀(listed:Array Bool) (θ:Nat) (m1:b9) (a1:Act) (w1:World),(∀i,i<ops.size->listed.getD i false=true)->θ<=l.length->
   (∀(j:Nat) (o:bI),l[j]? =some o->cD o.k=false->(j<θ↔listed.getD j false=true))->HR P m1 (H θ) w1->Grow m (H 0) w m1 (H θ) w1->a1.tmps.size=(T 0).length->
   (∀(d:Nat),(∀(j:Nat) (o:bI),l[j]? =some o->listed.getD j false=true->o.dst≠some d)->VR m1 ((T 0).getD d az) (a1.tmps.getD d undef))->
   (∀(d j:Nat) (o:bI),l[j]? =some o->listed.getD j false=true->o.dst=some d->VR m1 ((T (j+1)).getD d az) (a1.tmps.getD d undef))->a1.defers=a.defers->Q .normal a1 w1:=by
  intro listed θ m1 a1 w1 hall hθ hS hr hg ep h1 h2 hd;have e:=UZ θ l.length hθ (Y9 _) λj o hj hk=>by
   have T6:=(YQ.1 hj).1;have:=(hS j o hj hk).2 (hall j Om);omega
  rw[e]at hr hg;refine hQ m1 a1 w1 ⟨hr,cI.iA ?_ ?_⟩ hg hd
  ·exact z145
  ·intro t x hx;exact QU
 have key:∀(fuel:Nat) (listed:Array Bool) (θ:Nat) (m1:b9) (a1:Act) (w1:World),listed.size=ops.size->qM listed ops.size<=fuel->
   (∀j x,listed.getD j false=true->x<ops.size->ahead (Region.before ops) x j=true->listed.getD x false=true)->θ<=l.length->(θ<=dK l\/∃(j:Nat) (o:bI),l[j]? =some o/\cD o.k=false/\dK l<=j/\j<θ)->
   (∀(j:Nat) (o:bI),l[j]? =some o->cD o.k=false->(j<θ↔listed.getD j false=true))->HR P m1 (H θ) w1->Grow m (H 0) w m1 (H θ) w1->a1.tmps.size=(T 0).length->
   (∀(d:Nat),(∀(j:Nat) (o:bI),l[j]? =some o->listed.getD j false=true->o.dst≠some d)->VR m1 ((T 0).getD d az) (a1.tmps.getD d undef))->
   (∀(d j:Nat) (o:bI),l[j]? =some o->listed.getD j false=true->o.dst=some d->VR m1 ((T (j+1)).getD d az) (a1.tmps.getD d undef))->a1.defers=a.defers->wpAnyIn (Fd ro) 0 P .any ops Q fuel listed a1 w1:=by
  intro fuel
  induction fuel with
  |zero=>
   intro listed θ m1 a1 w1 R0 hu hcl hθ hL hS hr hg ep h1 h2 hd;have hall:=lA ops.size (show qM listed ops.size=0 by omega);exact⟨l9 R0 hall,hdone listed θ m1 a1 w1 hall hθ hS hr hg ep h1 h2 hd⟩
  |succ fuel ih=>
   intro listed θ m1 a1 w1 R0 hu hcl hθ hL hS hr hg ep h1 h2 hd;refine⟨λhrn=>hdone listed θ m1 a1 w1 (lZ hed R0 hrn) hθ hS hr hg ep h1 h2 hd,λi hi=>?_⟩;obtain⟨o,ho,Ss,WY⟩:=(jo R0).1 hi;have hin:i<ops.size:=(Ze.1 ho).1;obtain⟨io,hio,RU⟩:=RP i o (by simpa using ho);obtain⟨bU,_⟩:=hrow.step i io hio;have hahead:∀x,x<ops.size->ahead (Region.before ops) x i=true->listed.getD x false=true:=λx hx ha=>by
    exact M8
   have TR:∀j x,(listed.setIfInBounds i true).getD j false=true->x<ops.size->ahead (Region.before ops) x j=true->(listed.setIfInBounds i true).getD x false=true:=by
    intro j x hj hx ha;exact M7
   have Vp:qM (listed.setIfInBounds i true) ops.size<=fuel:=by
    exact z76
   have hslot:∀t,t∈o.looksAt ops->VR m1 ((T i).getD t az) (a1.tmps.getD t undef):=by
    intro t ht;exact z12
   have hrp:∀{k:pf},cD k=false->fu k=false:=λ{k} hk=>by
    cases k<;>first|exact hk|(cases hk;done)
   have hld:∀{o:bI},cD o.k=false->mK o=false:=λ{o} hk=>by
    exact z162
   have hne:∀j,j≠i->(listed.setIfInBounds i true).getD j false=listed.getD j false:=λj hj=>by rw[c6 Om,Y6 hj]
   have Ww:cD io.k=true->∀(j:Nat) (o:bI),l[j]? =some o->cD o.k=false->(j<θ↔(listed.setIfInBounds i true).getD j false=true):=λTb j oj hj hk=>by
    have hji:j≠i:=λe=>by
     subst e;rw[hio]at hj;cases hj;rw[Tb]at hk;cases hk
    rw[hne j hji];exact hS j oj hj hk
   have R7:∃θ',θ'<=l.length/\(θ'<=dK l\/∃(j:Nat) (o:bI),l[j]? =some o/\cD o.k=false/\dK l<=j/\j<θ')/\(∀(j:Nat) (o:bI),l[j]? =some o->cD o.k=false->(j<θ'↔(listed.setIfInBounds i true).getD j false=true))/\∃hb h2,HR P m1 hb w1/\dB P io (T i) hb (T (i+1)) h2/\
     ∀m' w',HR P m' h2 w'->Grow m1 hb w1 m' h2 w'->HR P m' (H θ') w'/\Grow m1 (H θ) w1 m' (H θ') w':=by
    by_cases hp:fu io.k=true
    ·have Tb:cD io.k=true:=by cases TM:io.k<;>rw[TM]at hp<;>first|exact hp|(cases hp;done)
     exact⟨θ,hθ,hL,Ww Tb,H θ,H θ,hr,(xU hp bU).2 _,λm' w' a b=>⟨a,b⟩⟩
    ·have Xz:fu io.k=false:=by simpa using hp
     by_cases U7:mK io=true
     ·have Tb:cD io.k=true:=by
       cases TM:io.k<;>simp[mK,TM]at U7<;>rfl
      have hθc:θ<=dK l:=by
       rcases hL with h|⟨j,oj,h1,h2,h3,h4⟩
       ·exact h
       ·have e:=hcl j i ((hS j oj h1 h2).1 h4) hin (hlate i j io oj hio U7 h1 h2 h3);rw[Ss]at e;cases e
      exact⟨θ,hθ,hL,Ww Tb,H θ,H θ,hr,hstab i io hio U7 θ hθc,λm' w' a b=>⟨a,b⟩⟩
     have U7:mK io=false:=by simpa using U7
     by_cases Tb:cD io.k=true
     ·obtain⟨n,ad,TM⟩:∃n ad,io.k=.load n ad:=by
       cases TM:io.k with
       |load n ad=>exact⟨n,ad,rfl⟩
       |_=>rw[TM]at Tb hp;exact absurd Tb hp
      have hHh:∀(j:Nat) (o:bI),l[j]? =some o->cD o.k=false->kN o=false->(j<θ↔j<i):=λj oj hj hk RJ=>by
       have T6:=(YQ.1 hj).1;constructor
       ·intro VC;have TN:=(hS j oj hj hk).1 VC;by_cases e1:j=i
        ·exact GZ
        ·by_cases e2:j<i
         ·exact e2
         ·have e3:=jy hmo (show i<j by omega) hio hj Xz (hrp hk) U7 (hld hk) (.inr (.inr ⟨hk,RJ⟩));have e4:=hcl j i TN hin e3;rw[Ss]at e4;cases e4
       ·intro hji;exact(hS j oj hj hk).2 (hahead j Om (jy hmo hji hj hio (hrp hk) Xz (hld hk) U7 (.inr (.inl ⟨hk,RJ⟩))))
      have Uj:dB P io (T i) (H i) (T (i+1)) (H i):=by
       have e:=xQ Tb bU;rw[e]at bU;exact bU
      by_cases SS:i<=θ
      ·obtain⟨g,VF⟩:=XN i (θ-i) Om λj oj h1 h2 h3=>by
        exact z93
       rw[show i+(θ-i)=θ from by omega]at VF;refine⟨θ,hθ,hL,Ww Tb,H θ,H θ,hr,?_,λm' w' a b=>⟨a,b⟩⟩;rw[VF];exact Cg TM Uj g
      ·obtain⟨g,VF⟩:=XN θ (i-θ) Om λj oj h1 h2 h3=>by
        exact z93
       rw[show θ+(i-θ)=i from by omega]at VF;rw[VF]at Uj;refine⟨θ,hθ,hL,Ww Tb,H θ++g,H θ++g,hr.BW g,Uj,λm' w' a b=>?_⟩;have hm:m' =m1:=by
        funext z;by_cases hz:z<(H θ++g).length
        ·exact b.ext z hz
        ·have e1:m1 z=none:=by
          cases hx:m1 z with
          |none=>rfl
          |some e=>exact absurd ((hr.BW g).cK z e hx) hz
         have e2:m' z=none:=by
          cases hx:m' z with
          |none=>rfl
          |some e=>exact absurd (a.cK z e hx) hz
         rw[e1,e2]
       subst hm;exact⟨a.HT hr.cK,⟨λ_ _=>rfl,Y9 _,λz e hz hmz=>absurd (hr.cK z e hmz) Om,λ_ _ x=>x,b.size,b.os,b.out,b.tape,b.frame⟩⟩
     ·have Tm:cD io.k=false:=by simpa using Tb
      have hHi:H θ=H i:=UZ θ i hθ Om λj oj hj hk=>by
       have T6:=(YQ.1 hj).1;constructor
       ·intro VC;have TN:=(hS j oj hj hk).1 VC;by_cases e1:j=i
        ·exact GZ
        ·by_cases e2:j<i
         ·exact e2
         ·exact Qu
       ·intro hji;exact(hS j oj hj hk).2 (hahead j Om (jy hmo hji hj hio (hrp hk) Xz (hld hk) U7 (.inl ⟨hk,Tm⟩)))
      refine⟨i+1,Om,(by by_cases hc:i+1<=dK l;exact .inl hc;exact .inr ⟨i,io,hio,Tm,Om,Om⟩),λj oj hj hk=>?_,H θ,H (i+1),hr,by rw[hHi];exact bU,λm' w' a b=>⟨a,b⟩⟩;have T6:=(YQ.1 hj).1;by_cases e1:j=i
      ·subst e1;rw[c6 Om,Zb rfl];exact⟨λ_=>rfl,λ_=>by omega⟩
      ·rw[hne j e1];constructor
       ·intro hji;exact hahead j Om (jy hmo (show j<i by omega) hj hio (hrp hk) Xz (hld hk) U7 (.inl ⟨hk,Tm⟩))
       ·intro TN;by_cases e2:j<i
        ·omega
        ·exact Qu
   obtain⟨θ',Ye,Wj,hS',hb,h2',Wx,Uj,Tq⟩:=R7;refine fw ho RU Wx.gv Wx (by rw[ep,hTl i Om]) hslot Uj ro _ Q ?_;intro cv v' m' w' Ti Tk hrx hgx;obtain⟨hr',R6⟩:=Tq m' w' hrx hgx;have Sh:io.dst=o.dst:=(dw RU).1;have Uh:=R6.le hr.cK;have hlt:(listed.setIfInBounds i true).getD i false=true:=by rw[c6 Om,Zb rfl]
   have UP:(a1.put o.dst cv).tmps=gR a1.tmps o.dst cv:=by cases o.dst<;>rfl
   refine ih _ θ' m' (a1.put o.dst cv) w' (by simp[R0]) Vp TR Ye Wj hS' hr' (hg.trans R6 st.hr.cK) (by rw[UP,e9];exact ep) ?_ ?_ (by rw[put_defers];exact hd)
   ·intro d hdn;have TL:o.dst≠some d:=by rw[<-Sh];exact hdn i io hio hlt
    rw[UP,dD TL];refine VR.mono Uh _ _ (h1 d λj oj hj hl=>hdn j oj hj ?_);exact M4
   ·intro d j oj hj hl Uu;by_cases e1:j=i
    ·subst e1;rw[hio]at hj;cases hj;rw[Ti,UP,<-Sh,Uu];exact lF (by rw[ep,hTl j Om]) Tk
    ·have TL:o.dst≠some d:=λhx=>by
      exact G6
     rw[UP,dD TL];rw[hne j e1]at hl;exact VR.mono Uh _ _ (h2 d j oj hj hl Uu)
 have RO:∀j,(Array.replicate ops.size false).getD j false=false:=λj=>by
  exact z70
 refine key ops.size (Array.replicate ops.size false) 0 m a _ Si ?_ (λj x hj _ _=>by simp[RO j]at hj) (Zw _) (.inl (Zw _)) (λj oj hj hk=>⟨λhx=>absurd hx Om,λhx=>by simp[RO j]at hx⟩) st.hr.drew (Grow.refl m _ w st.hr.cK).drew ?_ (λd _=>nP st.ts d) (λd j o _ hj _=>by simp[RO j]at hj) rfl
 ·exact M9
 ·exact Du
section
variable {P:Program}{m m':b9}{h h':ah}{w w':World}
def vw{ops i o}(ho:ops[i]? =some o){q io}(hc:bT P ops q o=some io)(hgd0:io.gd=none){ts a v}
  (hg:GV P m) (hr:HR P m h w) (ht:∀t,t∈o.looksAt ops->VR m (ts.getD t az) (a.tmps.getD t undef)) (hs:pL P io.k (val ts) h v h') (ro:Option Nat) (K:Act->World->Prop) (Q:Exit->Act->World->Prop)
  (hn:∀cv m' w',VR m' v cv->HR P m' h' w'->Grow m h w m' h' w'->K (a.put o.dst cv) w'):wpOpIn (Fd ro) 0 P ops Q i K a w:=by
 unfold bT at hc;split at hc
 case h_2=>cases hc
 rename_i g U8;cases hc;have hg0:g=none:=hgd0;subst hg0;have hw:=qK (m:=m) (ts:=ts) (a:=a) U8 (λt b UX=>by cases UX);unfold wpOpIn;rw[ho];simp only;rw[Zb (hw.2 trivial)];simp only at hs;split at hs
 case isFalse=>exact absurd hs oM
 rename_i hgok;cases hk:dY P o with
 |none=>rw[hk]at hs;exact absurd hs oM
 |some k=>
  rw[hk]at hs;refine vv hk (λx hx x' RN=>?_) (λz=>rfl) hr hs ro K Q (λcv m' w' h1 h2 h3=>hn cv m' w' h1 h2 h3);exact QE
def Av{n x}(h:yd x=true):jj n x:=by
 cases x<;>first
  |(cases h;done)
  |skip
 case bool b=>exact⟨λ_=>none,_,(λ_ _ z=>by cases z),rfl⟩
 case int k b=>exact⟨λ_=>none,_,(λ_ _ z=>by cases z),rfl⟩
 case wR k b=>exact⟨λ_=>none,.float k b,(λ_ _ z=>by cases z),⟨b,rfl,.inl rfl⟩⟩
 case wy k a b=>exact⟨λ_=>none,.complex k a b,(λ_ _ z=>by cases z),⟨a,b,rfl,.inl rfl,.inl rfl⟩⟩
 all_goals exact⟨λ_=>none,_,(λ_ _ z=>by cases z),rfl⟩
def ye{n x}(h:jj n x):∀y∈x.cells,jj n y:=by
 obtain⟨ma,va,h1,h2⟩:=h;intro y hy;obtain⟨i,hi,rfl⟩:=aa1 hy;obtain⟨v,_,hv⟩:=h2.cells.get (YU hi);exact⟨ma,v,h1,hv⟩
theorem vd:∀{l c}{o}{x},x∈fK c o l->x∈c\/x∈l
 |[],c,o,x,h=>.inl h
 |y::l,c,o,x,h=>by
  have h:x∈fK (c.set o y) (o+1) l:=h;rcases vd h with h|h
  ·rcases aaE h with h|h
   ·exact .inl h
   ·exact .inr (by rw[h];simp)
  ·exact .inr (ZG _ h)
theorem rG{n}:∀{ps}{z c},(∀x∈z,jj n x)->(∀p∈ps,jj n p.2.2)->eI z ps=some c->∀x∈c,jj n x
 |[],z,c,hz,_,h,x,hx=>by cases h;exact hz x hx
 |(off,k,v)::r,z,c,hz,hp,h,x,hx=>by
  rw[eI]at h;split at h
  ·refine rG (λy hy=>?_) (λp hq=>hp p (ZG _ hq)) h x hx;rcases vd hy with hy|hy
   ·exact hz y hy
   ·exact ye (hp (off,k,v) Si) y hy
  ·cases h
theorem uR:∀{n}{z}{x},x∈dN n z->x∈z
 | 0,z,x,h=>by simp[dN]at h
 |n+1,z,x,h=>by
  have h:x∈z++dN n z:=h;rcases YZ.1 h with h|h
  ·exact h
  ·exact uR h
def B0(gr:Grow m h w m' h' w')(hd:∀b e,m b=some e->b<h.length){e k}(hk:k.live=true)(hb:BR P m w e k)(hout:∀b e',m b=some e'->e'.cb≠e.cb):BR P m' w' e k/\∀b e',m' b=some e'->e'.cb≠e.cb:=by
 have hlt:=hb.lt hk;refine⟨(hb.heap (gr.frame e.cb hlt λb e' he _=>hout b e' he)).mono (gr.le hd),λb e' he=>?_⟩;by_cases hbl:b<h.length
 ·rw[gr.ext b hbl]at he;exact hout b e' he
 ·obtain⟨_,hc⟩:=gr.new b e' Om he;rcases hc with hc|⟨b0,e0,c1,c2,_⟩
  ·omega
  ·rw[<-c2];exact hout b0 e0 c1
def HR.yn(hr:HR P m h w){e k}(hk:k.live=true)(hb:BR P m w e k)(hout:∀b e',m b=some e'->e'.cb≠e.cb):HR P (m.add h.length e) (h++[k]) w:=by
 have SO:m h.length=none:=by
  exact z53
 have hle:m.le (m.add h.length e):=b9.rQ _ SO;have RW:∀b e',(m.add h.length e) b=some e'->(b=h.length/\e' =e)\/(b<h.length/\m b=some e'):=λb e' Th=>by
  exact Qz
 refine⟨λb e' Th=>?_,λb e' k' Th hk'=>?_,λb1 b2 e1 e2 k1 k2 hne h1 h2 hk1 RJ hcb=>?_,λg hg=>?_,λb e' Th=>?_⟩
 ·rw[YP];rcases RW b e' Th with⟨rfl,_⟩|⟨hlt,_⟩
  ·simp
  ·simp;omega
 ·rcases RW b e' Th with⟨rfl,rfl⟩|⟨hlt,hm⟩
  ·rw[Y7 (Y9 _),Z2]at hk';cases hk';exact hb.mono hle
  ·rw[YT hlt]at hk';exact(hr.dR b e' k' hm hk').mono hle
 ·exact QO
 ·obtain⟨e',he,hx⟩:=hr.fX g hg;exact⟨e',hle _ _ he,hx⟩
 ·rcases RW b e' Th with⟨_,rfl⟩|⟨_,hm⟩
  ·exact hb.lt hk
  ·exact hr.lt b e' hm
def Grow.yn{m0 h0 w0}(gr:Grow m0 h0 w0 m h w)(hd0:∀b e,m0 b=some e->b<h0.length)(hd:∀b e,m b=some e->b<h.length){e k}(ho:e.own=true)(hlt:w0.heap.size<=e.cb):Grow m0 h0 w0 (m.add h.length e) (h++[k]) w where
 ext:=λb hb=>by
  have:b≠h.length:=by have:=gr.len;omega
  show(if b=h.length then some e else m b)=_;rw[Y6 this];exact gr.ext b hb
 len:=by rw[YP];have:=gr.len;omega
 new:=λb e' hb he=>by
  unfold b9.add at he;by_cases hx:b=h.length
  ·rw[Zb hx]at he;cases he;exact⟨ho,.inl hlt⟩
  ·rw[Y6 hx]at he;obtain⟨h1,hc⟩:=gr.new b e' hb he;refine⟨h1,?_⟩;rcases hc with hc|⟨b0,e0,c1,c2,c3,c4,c5⟩
   ·exact .inl hc
   ·have:=hd0 _ _ c1;exact .inr ⟨b0,e0,c1,c2,c3,c4,by rw[fC (by have:=gr.len;omega)];exact c5⟩
 tl:=λb hb ht=>by
  rw[fC (by have:=gr.len;omega)]at ht;exact gr.tl b hb ht
 size:=gr.size
 os:=gr.os
 out:=gr.out
 tape:=gr.tape
 frame:=gr.frame
end
def pT{M l f}(h:rq M l f=true){i j x y}(hij:i<j)(hx:l[i]? =some x)(hy:l[j]? =some y)(px:fu x.k=false)(py:fu y.k=false)(lx:mK x=false)(ly:mK y=false)(hj:j≠f):ahead M i j=true:=by
 have T6:j<l.length:=(YQ.1 hy).1;unfold rq at h;rw[Zy]at h;have h1:=h j (Z8.2 T6);rw[Zy]at h1;have h2:=h1 i (Z8.2 hij);rw[hx,hy]at h2
 simpa [px,py,lx,ly,hj]using h2
structure Rz(ops:Array Oper)(l:List bI)(f df es n:Nat)(z:List AV)(ps:List (Nat×cX))(q:Bool):Prop where
 hf:l[f]? =some {dst:=some df,k:=.bd es n z ps,gd:=none,q:=q}
 hz:∀x∈z,yd x=true
 hp:∀p∈ps,∃u,p.2=.t u/\fA ops f u=true
 hr:∀j o,l[j]? =some o->cD o.k=true->(fu o.k=true\/mK o=true)/\fA ops j df=false
def xY{ops l f}(h:wi ops l f=true):∃df es n z ps q,Rz ops l f df es n z ps q:=by
 unfold wi at h;split at h
 case h_2=>cases h
 rename_i d es n z ps q hf;simp only[Zx,Zy,Z8]at h;obtain⟨⟨h1,h2⟩,h3⟩:=h;refine⟨d,es,n,z,ps,q,hf,h1,λp hp=>?_,λj o hj hk=>?_⟩
 ·have:=h2 p hp;split at this
  ·rename_i u hu;exact⟨u,hu,this⟩
  ·cases this
 ·have:=h3 j (YQ.1 hj).1;rw[hj]at this;simp only[hk,Zg,aa5,Zx,aaG,aak]at this;exact this
structure kR(P:Program)(l:List bI)(f df:Nat)(k:ak)(T:Nat->TS)(H:Nat->ah)(m:b9)(w:World)(listed:Array Bool)(θ:Nat)(m1:b9)(tm:Array Value)(w1:World):Prop where
 hθ:θ<=l.length
 hL:θ<=dK l\/∃(j:Nat) (o:bI),l[j]? =some o/\cD o.k=false/\j≠f/\dK l<=j/\j<θ
 hS:∀(j:Nat) (o:bI),l[j]? =some o->cD o.k=false->j≠f->(j<θ↔listed.getD j false=true)
 hf:f<θ->listed.getD f false=true
 hr:HR P m1 (H θ) w1
 hg:Grow m (H 0) w m1 (H θ) w1
 ep:tm.size=(T 0).length
 h1:∀(d:Nat),(∀(j:Nat) (o:bI),l[j]? =some o->listed.getD j false=true->o.dst≠some d)->VR m1 ((T 0).getD d az) (tm.getD d undef)
 h2:∀(d j:Nat) (o:bI),l[j]? =some o->listed.getD j false=true->o.dst=some d->(j=f->f<θ)->VR m1 ((T (j+1)).getD d az) (tm.getD d undef)
 pd:listed.getD f false=true->θ<=f->∃e:sK,BR P m1 w1 e k/\e.own=true/\w.heap.size<=e.cb/\(∀b e',m1 b=some e'->e'.cb≠e.cb)/\∀m':b9,m1.le m'->m' (H f).length=some e->VR m' ((T (f+1)).getD df az) (tm.getD df undef)
def xP{P cq f}(hmix:P.follows .mixedOrders=true){ops l}(hed:kJ (Region.before ops) ops=true)(hsl:lV (Region.before ops) ops=true)
  (hc:eO (λ_ o=>bT P ops (sg cq o) o) ops.toList 0=some l) (hfo:wi ops l f=true) (hmo:rq (Region.before ops) l f=true) {T}{H}(hrow:Row P l T H) (hstab:∀(i:Nat) (io:bI),l[i]? =some io->mK io=true->∀θ,θ<=dK l->dB P io (T i) (H θ) (T (i+1)) (H θ)) (hlate:∀(i j:Nat) (x y:bI),l[i]? =some x->mK x=true->l[j]? =some y->cD y.k=false->dK l<=j->ahead (Region.before ops) i j=true) {m}{a}{w}
  (st:St P m (T 0) (H 0) a w) (ro:Option Nat) (Q:Exit->Act->World->Prop) (hQ:∀m' a' w',St P m' (T l.length) (H l.length) a' w'->Grow m (H 0) w m' (H l.length) w'->a'.defers=a.defers->Q .normal a' w') (id:Nat):
  (Code.region id ops true).wpIn (Fd ro) 0 P Q a w:=by
 obtain⟨df,es,n,zz,ps,qf,F⟩:=xY hfo;refine wpIn_region_any hmix ?_;obtain⟨R2,RP⟩:=gf hc;simp only[aa4]at R2;have VM:∀(j:Nat) (io:bI),l[j]? =some io->∃o,ops[j]? =some o/\bT P ops (sg cq o) o=some io:=λj io hj=>by
  exact NC
 have SV:∀(j:Nat) (io:bI) (d:Nat),l[j]? =some io->io.dst=some d->∃o,ops[j]? =some o/\o.dst=some d:=λj io d hj hd=>by
  exact Nt
 have huniq:∀(i j:Nat) (oi oj:bI) (d:Nat),l[i]? =some oi->l[j]? =some oj->oi.dst=some d->oj.dst=some d->i=j:=λi j oi oj d hi hj h1 h2=>by
  exact NF
 have Tr:∀(j:Nat) (io:bI),l[j]? =some io->∃v,T (j+1)=put (T j) io.dst v:=λj io hj=>(hrow.step j io hj).1.put
 have hTl:∀j,j<=l.length->(T j).length=(T 0).length:=by
  intro j
  induction j with
  |zero=>intro _;rfl
  |succ j ih=>
   intro hj;exact z59
 have RX:∀x y t,x<=y->y<=l.length->(∀(j:Nat) (o:bI),x<=j->j<y->l[j]? =some o->o.dst≠some t)->(T y).getD t az=(T x).getD t az:=by
  intro x y t hxy hy hno;exact QM
 have UA:∀(j:Nat) (io:bI),l[j]? =some io->cD io.k=true->H (j+1)=H j:=λj io hj hk=>xQ hk (hrow.step j io hj).1
 have UB:∀x k,x+k<=l.length->(∀(j:Nat) (o:bI),x<=j->j<x+k->l[j]? =some o->cD o.k=true)->H (x+k)=H x:=by
  intro x k
  induction k with
  |zero=>intro _ _;rfl
  |succ k ih=>
   intro hk hno;exact QI
 have UZ:∀x y,x<=l.length->y<=l.length->(∀(j:Nat) (o:bI),l[j]? =some o->cD o.k=false->(j<x↔j<y))->H x=H y:=by
  intro x y hx hy hno;exact QQ
 have Sg:f<l.length:=(YQ.1 F.hf).1;obtain⟨cf,mu,tl,S4,hTf,hHf,hcf⟩:∃cf mu tl,eI (dN n zz) (ps.map λp=>(p.1,es,val (T f) p.2))=some cf/\T (f+1)=put (T f) (some df) (.slice (H f).length 0 n es)/\H (f+1)=H f++[.cells cf mu tl]/\∀g:ah,pL P (.bd es n zz ps) (val (T f)) g (.slice g.length 0 n es) (g++[.cells cf mu tl]):=by
  have Yk:=(hrow.step f _ F.hf).1;generalize hx:T (f+1)=tx at Yk;generalize hy:H (f+1)=hyy at Yk;cases Yk with
  |run hw hb hs=>
   have hs:mP (.bd es n zz ps) _ _ _ _:=hs;obtain⟨c,mu,tl,q1,q2,q3,rfl,rfl⟩:=hs;exact⟨c,mu,tl,q1,rfl,rfl,λg=>⟨c,mu,tl,q1,q2,q3,rfl,rfl⟩⟩
  |skip hw=>exact absurd trivial hw
 have Wf:(ak.cells cf mu tl).live=true:=rfl;have hrp:∀{k:pf},cD k=false->fu k=false:=λ{k} hk=>by
  cases k<;>first|exact hk|(cases hk;done)
 have hld:∀{o:bI},cD o.k=false->mK o=false:=λ{o} hk=>by
  exact z162
 have Xw:∀(listed:Array Bool) (θ:Nat) (m1:b9) (tm:Array Value) (w1:World),kR P l f df (.cells cf mu tl) T H m w listed θ m1 tm w1->listed.getD f false=true->θ<=f->(∀(j:Nat) (o:bI),l[j]? =some o->cD o.k=false->j<f->listed.getD j false=true)->
   ∃m2,kR P l f df (.cells cf mu tl) T H m w listed (f+1) m2 tm w1:=by
  intro listed θ m1 tm w1 I Yw Yd hall;have e:H θ=H f:=UZ θ f I.hθ Om λj oj hj hk=>by
   by_cases hjf:j=f
   ·subst hjf;omega
   ·constructor
    ·intro h;omega
    ·intro h;exact(I.hS j oj hj hk hjf).2 (hall j oj hj hk h)
  obtain⟨en,b1,b2,b3,b4,b5⟩:=I.pd Yw Yd;have hr:=I.hr;have hg:=I.hg;rw[e]at hr hg;have SO:m1 (H f).length=none:=by
   cases hx:m1 (H f).length with
   |none=>rfl
   |some y=>exact absurd (hr.cK _ _ hx) Om
  have Uh:m1.le (m1.add (H f).length en):=b9.rQ _ SO;refine⟨m1.add (H f).length en,⟨Om,.inl (by have:=yY F.hf rfl;omega),λj oj hj hk hjf=>?_,λ_=>Yw,by rw[hHf];exact hr.yn Wf b1 b4,by rw[hHf];exact hg.yn st.hr.cK hr.cK b2 b3,I.ep,λd hd=>VR.mono Uh _ _ (I.h1 d hd),λd j oj hj hl hd _=>?_,λ_ hx=>absurd hx Om⟩⟩
  ·constructor
   ·intro h;exact hall j oj hj hk Om
   ·intro h;have:=(I.hS j oj hj hk hjf).2 h;omega
  ·by_cases hjf:j=f
   ·subst hjf;rw[F.hf]at hj;cases hj;cases hd;exact b5 _ Uh (by simp[b9.add])
   ·exact VR.mono Uh _ _ (I.h2 d j oj hj hl hd λz=>absurd z hjf)
 have Tq:∀(listed:Array Bool) (θ:Nat) (m1:b9) (a1:Act) (w1:World),(∀i,i<ops.size->listed.getD i false=true)->kR P l f df (.cells cf mu tl) T H m w listed θ m1 a1.tmps w1->f<θ->a1.defers=a.defers->Q .normal a1 w1:=by
  intro listed θ m1 a1 w1 hall I hfθ hd;have e:=UZ θ l.length I.hθ (Y9 _) λj o hj hk=>by
   have T6:=(YQ.1 hj).1;by_cases hjf:j=f
   ·subst hjf;omega
   ·have:=(I.hS j o hj hk hjf).2 (hall j Om);omega
  have hr:=I.hr;have hg:=I.hg;rw[e]at hr hg;have ep:=I.ep;refine hQ m1 a1 w1 ⟨hr,cI.iA ?_ ?_⟩ hg hd
  ·exact z145
  ·intro t x hx;have hlt:=(YQ.1 hx).1;have Sk:t<a1.tmps.size:=by have:=hTl l.length (Y9 _);omega
   have ex:(T l.length).getD t az=x:=by simp[List.getD,hx]
   have ey:a1.tmps.getD t undef=a1.tmps[t]:=by simp[ZK,ZO Sk]
   refine⟨a1.tmps[t],Si,?_⟩;rw[<-ex,<-ey];by_cases hw:∃(j:Nat) (o:bI),l[j]? =some o/\o.dst=some t
   ·obtain⟨j,o,hj,ho⟩:=hw;have T6:=(YQ.1 hj).1;rw[RX (j+1) l.length t Om (Y9 _) (λk o' a2 a3 a4 a5=>by have:=huniq j k o o' t hj a4 ho a5;omega)];exact I.h2 t j o hj (hall j Om) ho λ_=>hfθ
   ·rw[RX 0 l.length t Om (Y9 _) (λk o' _ _ h4 h5=>hw ⟨k,o',h4,h5⟩)];exact I.h1 t λj o hj _ ho=>hw ⟨j,o,hj,ho⟩
 have hdone:∀(listed:Array Bool) (θ:Nat) (m1:b9) (a1:Act) (w1:World),(∀i,i<ops.size->listed.getD i false=true)->kR P l f df (.cells cf mu tl) T H m w listed θ m1 a1.tmps w1->a1.defers=a.defers->Q .normal a1 w1:=by
  intro listed θ m1 a1 w1 hall I hd;by_cases hfθ:f<θ
  ·exact Tq listed θ m1 a1 w1 hall I hfθ hd
  ·obtain⟨m2,I2⟩:=Xw listed θ m1 a1.tmps w1 I (hall f Om) Om λj o hj _ _=>hall j (by have:=(YQ.1 hj).1;omega)
   exact Tq listed (f+1) m2 a1 w1 hall I2 Om hd
 have key:∀(fuel:Nat) (listed:Array Bool) (θ:Nat) (m1:b9) (a1:Act) (w1:World),listed.size=ops.size->qM listed ops.size<=fuel->
   (∀j x,listed.getD j false=true->x<ops.size->ahead (Region.before ops) x j=true->listed.getD x false=true)->kR P l f df (.cells cf mu tl) T H m w listed θ m1 a1.tmps w1->a1.defers=a.defers->wpAnyIn (Fd ro) 0 P .any ops Q fuel listed a1 w1:=by
  intro fuel
  induction fuel with
  |zero=>
   intro listed θ m1 a1 w1 R0 hu hcl I hd;have hall:=lA ops.size (show qM listed ops.size=0 by omega);exact⟨l9 R0 hall,hdone listed θ m1 a1 w1 hall I hd⟩
  |succ fuel ih=>
   intro listed θ m1 a1 w1 R0 hu hcl I hd;refine⟨λhrn=>hdone listed θ m1 a1 w1 (lZ hed R0 hrn) I hd,λi hi=>?_⟩;obtain⟨o,ho,Ss,WY⟩:=(jo R0).1 hi;have hin:i<ops.size:=(Ze.1 ho).1;obtain⟨io,hio,RU⟩:=RP i o (by simpa using ho);have RU:bT P ops (sg cq o) o=some io:=RU;obtain⟨bU,_⟩:=hrow.step i io hio;have hahead:∀x,x<ops.size->ahead (Region.before ops) x i=true->listed.getD x false=true:=λx hx ha=>by
    exact M8
   have TR:∀j x,(listed.setIfInBounds i true).getD j false=true->x<ops.size->ahead (Region.before ops) x j=true->(listed.setIfInBounds i true).getD x false=true:=by
    intro j x hj hx ha;exact M7
   have Vp:qM (listed.setIfInBounds i true) ops.size<=fuel:=by
    exact z76
   have hne:∀j,j≠i->(listed.setIfInBounds i true).getD j false=listed.getD j false:=λj hj=>by rw[c6 Om,Y6 hj]
   have hlt:(listed.setIfInBounds i true).getD i false=true:=by rw[c6 Om,Zb rfl]
   have Sh:io.dst=o.dst:=(dw RU).1;have hslot:∀(θ:Nat) (m1:b9) (tm:Array Value) (w1:World),kR P l f df (.cells cf mu tl) T H m w listed θ m1 tm w1->(listed.getD f false=true->θ<=f->i<f\/fA ops i df=false)->∀t,t∈o.looksAt ops->VR m1 ((T i).getD t az) (tm.getD t undef):=by
    intro θ m1 tm w1 I hnp t ht;by_cases hex:∃(x:Nat) (ox:bI),l[x]? =some ox/\listed.getD x false=true/\ox.dst=some t
    ·obtain⟨x,ox,hx,hxl,U4⟩:=hex;obtain⟨oo,Ul,Vk⟩:=SV x ox t hx U4;have hxi:x<i:=by
      by_cases e1:x=i
      ·subst e1;rw[Ss]at hxl;cases hxl
      ·by_cases e2:x<i
       ·exact e2
       ·have e3:=(cO hsl (show i<x by omega) ho Ul).2 t Vk ht;have e4:=hcl x i hxl hin e3;rw[Ss]at e4;cases e4
     rw[RX (x+1) i t Om Om (λk o' a2 a3 a4 a5=>by have:=huniq x k ox o' t hx a4 U4 a5;omega)];refine I.h2 t x ox hx hxl U4 λhxf=>?_
     subst hxf;by_cases hh:x<θ
     ·exact hh
     ·rcases hnp hxl (by omega)with h|h
      ·omega
      ·rw[F.hf]at hx;cases hx;cases U4;unfold fA at h;rw[ho]at h;simp only at h;have:=List.contains_iff_mem.2 ht;rw[this]at h;cases h
    ·rw[RX 0 i t Om Om (λk o' e2 e3 e4 e5=>by
      obtain⟨oo,Ul,Sh⟩:=SV k o' t e4 e5;have h6:=((cO hsl e3 Ul ho).1 t Sh).2 ht;exact hex ⟨k,o',e4,hahead k (Ze.1 Ul).1 h6,e5⟩)]
     exact I.h1 t λj oj hj hl Sh=>hex ⟨j,oj,hj,hl,Sh⟩
   have hadv:i≠f->∀(θ θ':Nat) (m1 m':b9) (tm:Array Value) (w1 w':World) (cv:Value) (v':AV),kR P l f df (.cells cf mu tl) T H m w listed θ m1 tm w1->θ'<=l.length->(θ'<=dK l\/∃(j:Nat) (o:bI),l[j]? =some o/\cD o.k=false/\j≠f/\dK l<=j/\j<θ')->(∀(j:Nat) (o:bI),l[j]? =some o->cD o.k=false->j≠f->(j<θ'↔(listed.setIfInBounds i true).getD j false=true))->(f<θ'↔f<θ)->
     T (i+1)=put (T i) o.dst v'->VR m' v' cv->HR P m' (H θ') w'->Grow m1 (H θ) w1 m' (H θ') w'->kR P l f df (.cells cf mu tl) T H m w (listed.setIfInBounds i true) θ' m' (gR tm o.dst cv) w':=by
    intro UW θ θ' m1 m' tm w1 w' cv v' I Ye Wj hS' hff Ti Tk hr' R6;have Uh:=R6.le I.hr.cK;refine⟨Ye,Wj,hS',λh=>?_,hr',I.hg.trans R6 st.hr.cK,by rw[e9];exact I.ep,λd hdn=>?_,λd j oj hj hl Uu hjf=>?_,λYw Yd=>?_⟩
    ·rw[hne f (aam UW)];exact I.hf (hff.1 h)
    ·have TL:o.dst≠some d:=by rw[<-Sh];exact hdn i io hio hlt
     rw[dD TL];refine VR.mono Uh _ _ (I.h1 d λj oj hj hl=>hdn j oj hj ?_);exact M4
    ·by_cases e1:j=i
     ·subst e1;rw[hio]at hj;cases hj;rw[Ti,<-Sh,Uu];exact lF (by rw[I.ep,hTl j Om]) Tk
     ·have TL:o.dst≠some d:=λhx=>by
       exact G6
      rw[dD TL];rw[hne j e1]at hl;exact VR.mono Uh _ _ (I.h2 d j oj hj hl Uu λz=>hff.1 (hjf z))
    ·rw[hne f (aam UW)]at Yw;obtain⟨e,b1,b2,b3,b4,b5⟩:=I.pd Yw (by have:=hff.2;omega);obtain⟨c1,c2⟩:=B0 R6 I.hr.cK Wf b1 b4;have TL:o.dst≠some df:=λhx=>by
      rw[<-Sh]at hx;exact UW (huniq i f io _ df hio F.hf hx rfl)
     refine⟨e,c1,b2,b3,c2,λm2 We RS=>?_⟩;rw[dD TL];exact b5 m2 (b9.le_trans Uh We) RS
   have UP:∀cv,(a1.put o.dst cv).tmps=gR a1.tmps o.dst cv:=λcv=>by cases o.dst<;>rfl
   by_cases UW:i=f
   ·
    subst UW;rw[F.hf]at hio;cases hio;have Yd:θ<=i:=by
     by_cases hh:i<θ
     ·have:=I.hf hh;rw[Ss]at this;cases this
     ·omega
    refine vw ho RU rfl I.hr.gv I.hr (hslot θ m1 a1.tmps w1 I λh=>by rw[Ss]at h;cases h) (hcf (H θ)) ro _ Q ?_;intro cv m' w' hv hr' R6;have hclos:∀x∈cf,jj (H θ).length x:=rG (λx hx=>Av (F.hz x (uR hx))) (λp hp=>by
     obtain⟨q,hq,rfl⟩:=Zv.1 hp;obtain⟨u,hu,UT⟩:=F.hp q hq;have hu2:u∈o.looksAt ops:=by
      unfold fA at UT;rw[ho]at UT;exact List.contains_iff_mem.1 UT
     have:=hslot θ m1 a1.tmps w1 I (λh=>by rw[Ss]at h;cases h) u hu2;show jj _ (val (T i) q.2);rw[hu];exact⟨m1,_,I.hr.cK,this⟩) S4
    have hcb:qd (H θ).length (.cells cf mu tl):=λj x hx=>hclos x (ZT hx)
    have hup:m'.dJ (H θ).length=m1:=by
     funext b;unfold b9.dJ;by_cases hb:b<(H θ).length
     ·rw[Zb hb];exact R6.ext b hb
     ·rw[Y6 hb];cases hx:m1 b with
      |none=>rfl
      |some e=>exact absurd (I.hr.cK b e hx) hb
    have SY:=HR.forget I.hr hr' R6;have VF:=R6.forget;rw[hup]at SY VF;have Vo:=hv;rw[VR]at Vo;obtain⟨e,ca,cap,he,SN⟩:=Vo;have hb:=(hr'.dR _ e (.cells cf mu tl) he Si).cut hcb;rw[hup]at hb;obtain⟨ho1,hc⟩:=R6.new _ e (Y9 _) he;have hcbl:w1.heap.size<=e.cb:=by
     rcases hc with hc|⟨b0,e0,c1,c2,c3,c4,c5⟩
     ·exact hc
     ·rw[fC (I.hr.cK _ _ c1),c4]at c5;cases c5
    have Tz:o.dst=some df:=Sh.symm;refine ih _ θ m1 (a1.put o.dst cv) w' (by simp[R0]) Vp TR ?_ (by rw[put_defers];exact hd);rw[UP];refine⟨I.hθ,I.hL,λj oj hj hk hjf=>by rw[hne j hjf];exact I.hS j oj hj hk hjf,λh=>by omega,SY,I.hg.trans VF st.hr.cK,by rw[e9];exact I.ep,λd hdn=>?_,λd j oj hj hl Uu hjf=>?_,λ_ _=>⟨e,hb,ho1,ZL I.hg.size hcbl,λb e' Th=>by have:=I.hr.lt b e' Th;omega,λm2 We RS=>?_⟩⟩
    ·have TL:o.dst≠some d:=by rw[Tz];exact hdn i _ F.hf hlt
     rw[dD TL];refine I.h1 d λj oj hj hl=>hdn j oj hj ?_
     exact M4
    ·by_cases e1:j=i
     ·have:=hjf e1;omega
     ·have TL:o.dst≠some d:=λhx=>by
       rw[Tz]at hx;exact e1 (huniq j i oj _ d hj F.hf Uu hx)
      rw[dD TL];rw[hne j e1]at hl;exact I.h2 d j oj hj hl Uu hjf
    ·rw[hTf,Tz];exact lF (by rw[I.ep,hTl i Om]) (by rw[VR];exact⟨e,ca,cap,RS,SN⟩)
   by_cases Tb:cD io.k=true
   ·
    obtain⟨UR,T5⟩:=F.hr i io hio Tb;have Uj:dB P io (T i) (H θ) (T (i+1)) (H θ):=by
     rcases UR with hp|hp
     ·exact(xU hp bU).2 _
     ·refine hstab i io hio hp θ ?_;rcases I.hL with h|⟨j,oj,h1,h2,h5,h3,h4⟩
      ·exact h
      ·have e:=hcl j i ((I.hS j oj h1 h2 h5).1 h4) hin (hlate i j io oj hio hp h1 h2 h3);rw[Ss]at e;cases e
    refine fw ho RU I.hr.gv I.hr (by rw[I.ep,hTl i Om]) (hslot θ m1 a1.tmps w1 I λ_ _=>.inr T5) Uj ro _ Q ?_;intro cv v' m' w' Ti Tk hrx hgx;refine ih _ θ m' (a1.put o.dst cv) w' (by simp[R0]) Vp TR ?_ (by rw[put_defers];exact hd);rw[UP];refine hadv UW θ θ m1 m' a1.tmps w1 w' cv v' I I.hθ I.hL (λj oj hj hk hjf=>?_) Iff.rfl Ti Tk hrx hgx;have hji:j≠i:=λe=>by
     subst e;rw[hio]at hj;cases hj;rw[Tb]at hk;cases hk
    rw[hne j hji];exact I.hS j oj hj hk hjf
   ·have Tm:cD io.k=false:=by simpa using Tb
    have hheavy:∀(j:Nat) (oj:bI),l[j]? =some oj->cD oj.k=false->j<i->listed.getD j false=true:=λj oj hj hk hji=>
     hahead j (by have:=(YQ.1 hj).1;omega) (pT hmo hji hj hio (hrp hk) (hrp Tm) (hld hk) (hld Tm) UW)
    have hlate:∀(j:Nat) (oj:bI),l[j]? =some oj->cD oj.k=false->j≠f->i<j->listed.getD j false=false:=λj oj hj hk hjf hij=>by
     cases hx:listed.getD j false with
     |false=>rfl
     |true=>
      have e3:=pT hmo hij hio hj (hrp Tm) (hrp hk) (hld Tm) (hld hk) hjf;have e4:=hcl j i hx hin e3;rw[Ss]at e4;cases e4
    obtain⟨XW,m2,I1,hff⟩:∃XW m2,kR P l f df (.cells cf mu tl) T H m w listed XW m2 a1.tmps w1/\(f<XW↔f<i):=by
     by_cases hfi:f<i
     ·have Yw:=hheavy f _ F.hf rfl hfi;by_cases hfθ:f<θ
      ·exact⟨θ,m1,I,Om⟩
      ·obtain⟨m2,I2⟩:=Xw listed θ m1 a1.tmps w1 I Yw Om λj oj hj hk hjf=>hheavy j oj hj hk Om
       exact⟨f+1,m2,I2,Om⟩
     ·refine⟨θ,m1,I,⟨λh=>?_,λh=>absurd h hfi⟩⟩;have:=(I.hS i io hio Tm UW).1 Om;rw[Ss]at this;cases this
    have hHi:H XW=H i:=UZ XW i I1.hθ Om λj oj hj hk=>by
     by_cases hjf:j=f
     ·subst hjf;exact hff
     ·constructor
      ·intro VC;have TN:=(I1.hS j oj hj hk hjf).1 VC;by_cases e1:j=i
       ·exact GZ
       ·by_cases e2:j<i
        ·exact e2
        ·exact JT
      ·intro hji;exact(I1.hS j oj hj hk hjf).2 (hheavy j oj hj hk hji)
    refine fw ho RU I1.hr.gv I1.hr (by rw[I1.ep,hTl i Om]) (hslot XW m2 a1.tmps w1 I1 λ_ h2=>.inl Om) (by rw[hHi];exact bU) ro _ Q ?_;intro cv v' m' w' Ti Tk hrx hgx;refine ih _ (i+1) m' (a1.put o.dst cv) w' (by simp[R0]) Vp TR ?_ (by rw[put_defers];exact hd);rw[UP];refine hadv UW XW (i+1) m2 m' a1.tmps w1 w' cv v' I1 Om (by by_cases hc:i+1<=dK l;exact .inl hc;exact .inr ⟨i,io,hio,Tm,UW,Om,Om⟩) (λj oj hj hk hjf=>?_) Om Ti Tk hrx hgx;by_cases e1:j=i
    ·subst e1;exact⟨λ_=>hlt,λ_=>by omega⟩
    ·rw[hne j e1];constructor
     ·intro hji;exact hheavy j oj hj hk Om
     ·intro TN;by_cases e2:j<i
      ·omega
      ·exact JT
 have RO:∀j,(Array.replicate ops.size false).getD j false=false:=λj=>by
  exact z70
 refine key ops.size (Array.replicate ops.size false) 0 m a _ Si ?_ (λj x hj _ _=>by simp[RO j]at hj) ⟨Zw _,.inl (Zw _),(λj oj hj hk _=>⟨λhx=>absurd hx Om,λhx=>by simp[RO j]at hx⟩),(λhx=>absurd hx Om),st.hr.drew,(Grow.refl m _ w st.hr.cK).drew,?_,(λd _=>nP st.ts d),(λd j o _ hj _ _=>by simp[RO j]at hj),λhx=>by simp[RO f]at hx⟩ rfl
 ·exact M9
 ·exact Du
def dV{P ops draw c}(h:nB P ops draw=some c):
  (∃l,c=.ops l/\(cM P ops draw=some l\/(draw=true/\(∃l',cM P ops draw=some l')/\∃cq,eO (λ_ o=>bT P ops (sg cq o) o) ops.toList 0=some l/\nX (Region.before ops) l=true/\l.any mK=false)))\/
  (∃l,c=.sf l/\draw=true/\(∃l',cM P ops draw=some l')/\eO (λ_ o=>bT P ops false o) ops.toList 0=some l)\/
  (∃l,c=.mD l/\draw=true/\(∃l',cM P ops draw=some l')/\∃cq,eO (λ_ o=>bT P ops (sg cq o) o) ops.toList 0=some l/\(nX (Region.before ops) l=true\/∃f,wi ops l f=true/\rq (Region.before ops) l f=true)/\nj (Region.before ops) l=true):=by
 unfold nB at h;split at h
 ·cases h
 ·rename_i l hl;split at h
  ·rename_i hq;split at h
   ·rename_i l' l2 l3 RT hl2 Yx;split at h
    ·rename_i hm;rw[Zx,aak]at hm;cases h;exact .inl ⟨l',rfl,.inr ⟨hq.2,⟨l,hl⟩,0,RT,hm.1,hm.2⟩⟩
    ·split at h
     ·rename_i hm;rw[Zx,aak]at hm;cases h;exact .inl ⟨l2,rfl,.inr ⟨hq.2,⟨l,hl⟩,1,hl2,hm.1,hm.2⟩⟩
     ·split at h
      ·exact z49
      ·split at h
       ·split at h
        ·rename_i hm;rw[Zx,Zx]at hm;cases h;exact .inr (.inr ⟨l3,rfl,hq.2,⟨l,hl⟩,2,Yx,.inl hm.1.2,hm.2⟩)
        ·cases h;exact .inr (.inl ⟨l',rfl,hq.2,⟨l,hl⟩,RT⟩)
       ·split at h
        ·rename_i hm;rw[Zx]at hm;cases h;exact .inr (.inr ⟨l3,rfl,hq.2,⟨l,hl⟩,2,Yx,.inl hm.1,hm.2⟩)
        ·split at h
         ·exact z49
         ·cases h;exact .inl ⟨l,rfl,.inl hl⟩
   ·cases h
  ·cases h;exact .inl ⟨l,rfl,.inl hl⟩
def Marks(m:b9)(w:World)(lo:Nat)(ds:List Deferred):Prop:=
 ∃rs:List Nat,ds=rs.map (λr=>({target:=.collected r,args:=#[] }:Deferred))/\rs.Nodup/\∀r∈rs,lo<=r/\w.heap[r]? =some (.deferred (some []))/\∀b e,m b=some e->e.cb≠r
def Marks.nil(m:b9)(w:World)(lo:Nat):Marks m w lo []:=⟨[],rfl,Si,Si⟩
def Marks.grow{m m' h h' w w' lo ds}(k:Marks m w lo ds)(g:Grow m h w m' h' w')(hd:∀b e,m b=some e->b<h.length):Marks m' w' lo ds:=by
 obtain⟨rs,h1,h2,h3⟩:=k;refine⟨rs,h1,h2,λr hr=>?_⟩;obtain⟨a,b,c⟩:=h3 r hr;have hlt:r<w.heap.size:=(Ze.1 b).1;refine⟨a,?_,?_⟩
 ·rw[g.frame r hlt (λb e hb _=>c b e hb)];exact b
 ·intro b' e hb;by_cases hx:b'<h.length
  ·rw[g.ext b' hx]at hb;exact c b' e hb
  ·obtain⟨_,hc⟩:=g.new b' e Om hb;rcases hc with hc|⟨b0,e0,c1,c2,_⟩
   ·omega
   ·rw[<-c2];exact c b0 e0 c1
def Ev(P:Program)(ro:Option Nat)(c:ai)(ts:TS)(h:ah)(e:Ex)(ts':TS)(h':ah):Prop:=
 ∀cc,compile P cc=some c->∀(m:b9) (a:Act) (w:World) (lo:Nat),lo<=w.heap.size->St P m ts h a w->Marks m w lo a.defers->∀Q:Exit->Act->World->Prop,
  (∀m' a' w',St P m' ts' h' a' w'->Grow m h w m' h' w'->Marks m' w' lo a'.defers->Q e.CJ a' w')->cc.wpIn (Fd ro) 0 P Q a w
section
variable {P:Program}{b:Frame}{a:Act}{k:List Item}{cs:List Frame}{w:World}{Q:Exit->Act->World->Prop}{F:Fence}{n:Nat}
def gg{c}:step P (lone (b.atR a (.code (.scope c)::k)) cs w)=.next (lone (b.atR a (.code c:: .inScope c::k)) cs w):=
 step_lone_go (by simp[stepG,stepG.exec,Frame.atR])
def rY{c}:step P (lone (b.atR a (.inScope c::k)) cs w)=.next (lone (b.atR a k) cs w):=
 step_lone_go (by simp[stepG,stepG.exec,Frame.atR])
def noGoto(Q:Exit->Act->World->Prop):Exit->Act->World->Prop
 |.goto _,_,_=>False
 |e,a,w=>Q e a w
def wT{c}(h:c.wpIn F n P (noGoto Q) a w):(Code.scope c).wpIn F n P Q a w:=by
 intro b k cs hro hb hr;have h0:(lone (b.atR a (.code (.scope c)::k)) cs w).fenced P F:=fenced_calm hb hr rfl;obtain⟨e,VX,Vf,hq,Sz⟩:=h b (.inScope c::k) cs hro hb hr;cases e with
 |normal=>exact⟨.normal,VX,Vf,hq,.head h0 gg (StepsIn.trans Sz (.one (fenced_calm hb hr rfl) rY))⟩
 |exit id=>
  have hx:exitTo id (.inScope c::k)=exitTo id k:=by simp[exitTo]
  exact⟨.exit id,VX,Vf,hq,λk' hk=>.head h0 gg (Sz.1 k' (by rw[hx];exact hk)),
   λhr' hk=>let ⟨k₁,h1,h2⟩:=Sz.2 hr' (by rw[hx];exact hk);⟨k₁,h1,.head h0 gg h2⟩⟩
 |goto l=>exact hq.elim
 |ret=>exact⟨.ret,VX,Vf,hq,.of_steps (.one h0 gg) Sz⟩
 |panic ch=>exact⟨.panic ch,VX,Vf,hq,.of_steps (.one h0 gg) Sz⟩
 |outgrown=>exact⟨.outgrown,VX,Vf,hq,.of_steps (.one h0 gg) Sz⟩
end
section
variable {P:Program}{ro:Option Nat}{c x y:ai}{ts Tt ts':TS}{h h1 h':ah}{e:Ex}
def Ev.of (H:∀cc,(∀a,cc≠.scope a)->compile P cc=some c->∀(m:b9) (a:Act) (w:World) (lo:Nat),lo<=w.heap.size->St P m ts h a w->Marks m w lo a.defers->∀Q:Exit->Act->World->Prop,
  (∀m' a' w',St P m' ts' h' a' w'->Grow m h w m' h' w'->Marks m' w' lo a'.defers->Q e.CJ a' w')->cc.wpIn (Fd ro) 0 P Q a w):Ev P ro c ts h e ts' h':=by
 intro cc
 induction cc with
 |scope a ih=>
  intro hc m a w lo hlo st hm Q hQ;refine wT (ih (by simpa [compile]using hc) m a w lo hlo st hm _ λm' a' w' s g k=>?_);cases e<;>exact hQ m' a' w' s g k
 |_=>intro hc;exact H _ Si hc
theorem Ev.skip:Ev P ro .skip ts h .normal ts h:=by
 refine Ev.of λcc hns hc m a w lo hlo st hm Q hQ=>?_
 have hq:=hQ m a w st (Grow.refl m h w st.hr.cK) hm;cases cc with
 |skip=>exact wpIn_skip hq
 |label l=>exact wpIn_label hq
 |scope a=>exact absurd rfl (hns a)
 |region id ops draw=>rcases dV (by simpa only[compile]using hc)with⟨_,h1,_⟩|⟨_,h1,_⟩|⟨_,h1,_⟩<;>cases h1
 |block id a=>simp[compile]at hc
 |loop a=>simp[compile]at hc
 |_=>
  exact Ba
theorem Ev.exit{id}:Ev P ro (.exit id) ts h (.exit id) ts h:=by
 refine Ev.of λcc hns hc m a w lo hlo st hm Q hQ=>?_
 have hq:=hQ m a w st (Grow.refl m h w st.hr.cK) hm;cases cc with
 |exit Xr=>simp[compile]at hc;subst hc;exact wpIn_exit hq
 |scope a=>exact absurd rfl (hns a)
 |region id ops draw=>rcases dV (by simpa only[compile]using hc)with⟨_,h1,_⟩|⟨_,h1,_⟩|⟨_,h1,_⟩<;>cases h1
 |block id a=>simp[compile]at hc
 |loop a=>simp[compile]at hc
 |_=>
  exact Ba
theorem Ev.ret:Ev P ro .ret ts h .ret ts h:=by
 refine Ev.of λcc hns hc m a w lo hlo st hm Q hQ=>?_
 have hq:=hQ m a w st (Grow.refl m h w st.hr.cK) hm;cases cc with
 |ret=>exact wpIn_ret hq
 |scope a=>exact absurd rfl (hns a)
 |region id ops draw=>rcases dV (by simpa only[compile]using hc)with⟨_,h1,_⟩|⟨_,h1,_⟩|⟨_,h1,_⟩<;>cases h1
 |block id a=>simp[compile]at hc
 |loop a=>simp[compile]at hc
 |_=>
  exact Ba
theorem Ev.ops(hmix:P.follows .mixedOrders=true){l}(hs:yr P l ts h ts' h'):Ev P ro (.ops l) ts h .normal ts' h':=by
 refine Ev.of λcc hns hc m a w lo hlo st hm Q hQ=>?_
 cases cc with
 |region id ops draw=>
  rcases dV (by simpa only[compile]using hc)with⟨l',h1,hl⟩|⟨_,h1,_⟩|⟨_,h1,_⟩<;>cases h1
  rcases hl with hl|⟨hd,⟨l2,hl2⟩,cq,hz,hmo,hld⟩
  case inr=>
   subst hd;simp only[cM,Zi]at hl2;split at hl2
   case isFalse=>cases hl2
   rename_i Sj;simp only[Zx]at Sj;obtain⟨T,H,rfl,rfl,rfl,rfl,hrow⟩:=hs.row;rw[List.any_eq_false]at hld;exact ra hmix Sj.1 Sj.2 hz hmo hrow (λi io hio hl=>absurd hl (hld io (ZT hio))) (λi j x y hx hl=>absurd hl (hld x (ZT hx))) st ro Q (λm' a' w' s g d=>hQ m' a' w' s g (by rw[d];exact hm.grow g st.hr.cK)) id
  cases draw with
  |false=>exact xO hl hs st ro Q (λm' a' w' s g d=>hQ m' a' w' s g (by rw[d];exact hm.grow g st.hr.cK)) id
  |true=>exact vm hmix hl hs st ro Q (λm' a' w' s g d=>hQ m' a' w' s g (by rw[d];exact hm.grow g st.hr.cK)) id
 |scope a=>exact absurd rfl (hns a)
 |block id a=>simp[compile]at hc
 |loop a=>simp[compile]at hc
 |_=>
  exact Ba
theorem Ev.mD(hmix:P.follows .mixedOrders=true){l T H}(hrow:Row P l T H)(hstab:∀(i:Nat) (io:bI),l[i]? =some io->mK io=true->∀θ,θ<=dK l->dB P io (T i) (H θ) (T (i+1)) (H θ)):Ev P ro (.mD l) (T 0) (H 0) .normal (T l.length) (H l.length):=by
 refine Ev.of λcc hns hc m a w lo hlo st hm Q hQ=>?_
 cases cc with
 |region id ops draw=>
  rcases dV (by simpa only[compile]using hc)with⟨_,h1,_⟩|⟨_,h1,_⟩|⟨l',h1,hd,⟨l2,hl2⟩,cq,hz,hmo,hlo⟩<;>cases h1
  subst hd;simp only[cM,Zi]at hl2;split at hl2
  case isFalse=>cases hl2
  rename_i Sj;simp only[Zx]at Sj;rcases hmo with hmo|⟨f,U9,Ur⟩
  case inr=>exact xP hmix Sj.1 Sj.2 hz U9 Ur hrow hstab (λi j x y a1 a2 a3 a4 a5=>pZ hlo a1 a2 a3 a4 a5) st ro Q (λm' a' w' s g d=>hQ m' a' w' s g (by rw[d];exact hm.grow g st.hr.cK)) id
  exact ra hmix Sj.1 Sj.2 hz hmo hrow hstab (λi j x y a1 a2 a3 a4 a5=>pZ hlo a1 a2 a3 a4 a5) st ro Q (λm' a' w' s g d=>hQ m' a' w' s g (by rw[d];exact hm.grow g st.hr.cK)) id
 |scope a=>exact absurd rfl (hns a)
 |block id a=>simp[compile]at hc
 |loop a=>simp[compile]at hc
 |_=>
  exact Ba
theorem Ev.seq(hx:Ev P ro x ts h .normal Tt h1)(hy:Ev P ro y Tt h1 e ts' h'):Ev P ro (.seq x y) ts h e ts' h':=by
 refine Ev.of λcc hns hc m a w lo hlo st hm Q hQ=>?_
 cases cc with
 |seq ca cb=>
  simp only[compile]at hc;split at hc
  case h_2=>cases hc
  rename_i x' y' Sp hcb;cases hc;refine wpIn_seq (hx ca Sp m a w lo hlo st hm _ λm1 a1 w1 s1 g1 k1=>?_);exact hy cb hcb m1 a1 w1 lo (ZL hlo g1.size) s1 k1 Q λm2 a2 w2 s2 g2 k2=>hQ m2 a2 w2 s2 (g1.trans g2 st.hr.cK) k2
 |scope a=>exact absurd rfl (hns a)
 |region id ops draw=>rcases dV (by simpa only[compile]using hc)with⟨_,h1,_⟩|⟨_,h1,_⟩|⟨_,h1,_⟩<;>cases h1
 |block id a=>simp[compile]at hc
 |loop a=>simp[compile]at hc
 |_=>
  exact Ba
def Ev.vi(hx:Ev P ro x ts h e ts' h')(hne:e≠.normal):Ev P ro (.seq x y) ts h e ts' h':=by
 refine Ev.of λcc hns hc m a w lo hlo st hm Q hQ=>?_
 cases cc with
 |seq ca cb=>
  simp only[compile]at hc;split at hc
  case h_2=>cases hc
  rename_i x' y' Sp hcb;cases hc;refine wpIn_seq (hx ca Sp m a w lo hlo st hm _ λm1 a1 w1 s1 g1 k1=>?_);have:=hQ m1 a1 w1 s1 g1 k1;cases e<;>first|exact absurd rfl hne|exact this
 |scope a=>exact absurd rfl (hns a)
 |region id ops draw=>rcases dV (by simpa only[compile]using hc)with⟨_,h1,_⟩|⟨_,h1,_⟩|⟨_,h1,_⟩<;>cases h1
 |block id a=>simp[compile]at hc
 |loop a=>simp[compile]at hc
 |_=>
  exact Ba
def yR{o c}(hc:D9 o=some c):cS o=some c/\Nf P o=true:=by
 cases o<;>first|exact⟨hc,rfl⟩|cases hc
def B1{m a w}(st:St P m ts h a w){o c}(hc:D9 o=some c):VR m (val ts c) (a.eval o):=
 y6 st.hr.gv (yR (P:=P) hc).1 (yR (P:=P) hc).2 (λt _=>nP st.ts t)
theorem Ev.cond{c b}(hb:val ts c=.bool b)(hx:Ev P ro (if b then x else y) ts h e ts' h'):Ev P ro (.cond c x y) ts h e ts' h':=by
 refine Ev.of λcc hns hc m a w lo hlo st hm Q hQ=>?_
 cases cc with
 |cond o ca cb=>
  simp only[compile]at hc;split at hc
  case h_2=>cases hc
  rename_i c' x' y' hco Sp hcb;cases hc;have hv:=B1 st hco;rw[hb,VR]at hv;refine wpIn_cond hv ?_;cases b
  ·exact hx cb hcb m a w lo hlo st hm Q hQ
  ·exact hx ca Sp m a w lo hlo st hm Q hQ
 |scope a=>exact absurd rfl (hns a)
 |region id ops draw=>rcases dV (by simpa only[compile]using hc)with⟨_,h1,_⟩|⟨_,h1,_⟩|⟨_,h1,_⟩<;>cases h1
 |block id a=>simp[compile]at hc
 |loop a=>simp[compile]at hc
 |_=>
  exact Ba
def Ex.inBlock(id:Nat):Ex->Ex
 |.exit Xr=>if Xr=id then .normal else .exit Xr
 |e=>e
theorem Ev.block{id}(hx:Ev P ro x ts h e ts' h'):Ev P ro (.block id x) ts h (e.inBlock id) ts' h':=by
 refine Ev.of λcc hns hc m a w lo hlo st hm Q hQ=>?_
 cases cc with
 |block Xr ca=>
  simp only[compile,Zk,ai.block.injEq]at hc;obtain⟨x',Sp,rfl,rfl⟩:=hc;refine wpIn_block (hx ca Sp m a w lo hlo st hm _ λm' a' w' s g k=>?_);have:=hQ m' a' w' s g k;cases e with
  |normal=>exact this
  |ret=>exact this
  |exit i=>
   simp only[Ex.CJ,Exit.inBlock];simp only[Ex.inBlock]at this;split
   ·rename_i hi;rw[Zb hi]at this;exact this
   ·rename_i hi;rw[Y6 hi]at this;exact this
 |scope a=>exact absurd rfl (hns a)
 |region id ops draw=>rcases dV (by simpa only[compile]using hc)with⟨_,h1,_⟩|⟨_,h1,_⟩|⟨_,h1,_⟩<;>cases h1
 |loop a=>simp[compile]at hc
 |_=>
  exact Ba
inductive tM (P:Program) (ro:Option Nat) (x:ai):TS->ah->Ex->TS->ah->Prop
 |out {ts:TS}{h:ah}{e:Ex}{ts':TS}{h':ah}(hx:Ev P ro x ts h e ts' h') (hne:e≠.normal):tM P ro x ts h e ts' h'
 |more {ts:TS}{h:ah}{Tt:TS}{h1:ah}{e:Ex}{ts':TS}{h':ah}(hx:Ev P ro x ts h .normal Tt h1) (hr:tM P ro x Tt h1 e ts' h'):tM P ro x ts h e ts' h'
theorem Ev.loop(hl:tM P ro x ts h e ts' h'):Ev P ro (.loop x) ts h e ts' h':=by
 refine Ev.of λcc hns hc m a w lo hlo st hm Q hQ=>?_
 cases cc with
 |loop ca=>
  simp only[compile,Zk,ai.loop.injEq]at hc;obtain⟨x',Sp,rfl⟩:=hc;intro b k cs hro hb hr;have key:∀(m1:b9) (a1:Act) (w1:World),lo<=w1.heap.size->St P m1 ts h a1 w1->Marks m1 w1 lo a1.defers->(∀m' a' w',St P m' ts' h' a' w'->Grow m1 h w1 m' h' w'->Marks m' w' lo a'.defers->Q e.CJ a' w')->
    ∃e a' w',Q e a' w'/\ArrivesIn (Machine.fenced P (Fd ro)) P (lone (b.atR a1 (.code ca:: .inLoop ca::k)) cs w1) b k cs e a' w':=by
   clear hQ st hm hlo
   induction hl with
   |out hx hne=>
    rename_i ts h e ts' h';intro m1 a1 w1 hlo s1 k1 hQ;obtain⟨e1,a2,w2,hq,Sz⟩:=hx ca Sp m1 a1 w1 lo hlo s1 k1 (λe1 a1 w1=>e1≠.normal/\Q e1 a1 w1) (λm' a' w' s g k'=>⟨by cases e<;>first|exact absurd rfl hne|simp[Ex.CJ],hQ m' a' w' s g k'⟩) b (.inLoop ca::k) cs hro hb hr;exact⟨e1,a2,w2,hq.2,.pass (x:=.inLoop ca) rfl (λ_ _=>.inl hq.1) Sz⟩
   |more hx hr' ih=>
    intro m1 a1 w1 hlo s1 k1 hQ;obtain⟨e1,a2,w2,hq,Sz⟩:=hx ca Sp m1 a1 w1 lo hlo s1 k1 (λe1 a2 w2=>e1=.normal/\∃m2,St P m2 _ _ a2 w2/\Grow m1 _ w1 m2 _ w2/\Marks m2 w2 lo a2.defers) (λm' a' w' s g k'=>⟨rfl,m',s,g,k'⟩) b (.inLoop ca::k) cs hro hb hr;obtain⟨rfl,m2,s2,g2,k2⟩:=hq;obtain⟨e3,a3,w3,hq3,harr3⟩:=ih m2 a2 w2 (ZL hlo g2.size) s2 k2 (λm' a' w' s g k'=>hQ m' a' w' s (g2.trans g s1.hr.cK) k');exact⟨e3,a3,w3,hq3,.of_steps (StepsIn.trans Sz (.one (fenced_calm hb hr rfl) stepR_inLoop)) harr3⟩
  obtain⟨e',a',w',hq,Sz⟩:=key m a w hlo st hm hQ;exact⟨e',a',w',hq,.of_steps (.one (fenced_calm hb hr rfl) stepR_loop) Sz⟩
 |scope a=>exact absurd rfl (hns a)
 |region id ops draw=>rcases dV (by simpa only[compile]using hc)with⟨_,h1,_⟩|⟨_,h1,_⟩|⟨_,h1,_⟩<;>cases h1
 |block id a=>simp[compile]at hc
 |_=>
  exact Ba
end
def dz(ts:TS)(h:ah):Nat×Option (Option Nat)->Option AV
 |(t,none)=>some (ts.getD t az)
 |(a,some n)=>
  match dx (.load n (.c (ts.getD a az))) (val ts) h with
  |some (v,_)=>some v
  |none=>none
def je(ts:TS)(h:ah):List (Nat×Option (Option Nat))->Option (List AV)
 |[]=>some []
 |r::rs=>
  match dz ts h r,je ts h rs with
  |some v,some vs=>some (v::vs)
  |_,_=>none
def cQ(rs:List (Nat×Option (Option Nat)))(ts:TS)(h:ah):Option AV:=
 match je ts h rs with
 |some [v]=>some v
 |some l=>some (.dM l)
 |none=>none
def aR(nt:Nat)(args:List AV):TS:=args++List.replicate (nt-args.length) az
def Ex.leaves:Ex->Bool
 |.normal=>true
 |.ret=>true
 |_=>false
section
variable {P:Program}{m:b9}{h h':ah}{w:World}{v:AV}
def xF{ts a}(st:St P m ts h a w){r x}(hx:tT P r=some x)(hv:dz ts h x=some v):
  ∃cv,(match r with
   |.tmp t=>(pure (a.tmps.getD t undef):Sem Value)
   |.cell b t=>do loadVar t (<-asAddr (a.tmps.getD b undef))).run P w=.ok cv w/\VR m v cv:=by
 cases r with
 |tmp t=>cases hx;cases hv;exact⟨_,rfl,nP st.ts t⟩
 |cell b t=>
  simp only[tT,Zk]at hx;obtain⟨n,hn,rfl⟩:=hx;simp only[dz]at hv;split at hv
  case h_2=>cases hv
  rename_i v' h' hf;cases hv;obtain⟨cv,h1,h2,_⟩:=BG (P:=P) (ρ:=val ts) hn st.hr (a:=.c (ts.getD b az)) (nP st.ts b) hf;refine⟨cv,?_,h2⟩;simp only[dx,val]at hf;split at hf
  case h_2=>cases hf
  rename_i b' o' hb';have hs:=nP st.ts b;rw[hb',VR]at hs;obtain⟨e,_,he⟩:=hs;simp only[he]at h1 ⊢
  simpa [Instr.loadAt,Instr.sureAddr,asAddr]using h1
theorem pP{ts:TS}{a:Act}(st:St P m ts h a w):∀{rs:List ResultVar}{xs:List (Nat×Option (Option Nat))}{vs:List AV},rs.mapM (tT P)=some xs->je ts h xs=some vs->
  ∃Ud,(rs.mapM (m:=Sem) λ
   |.tmp t=>pure (a.tmps.getD t undef)
   |.cell b t=>do loadVar t (<-asAddr (a.tmps.getD b undef))).run P w=.ok Ud w/\cI m vs Ud
 |[],xs,vs,hx,hv=>by
  simp at hx;subst hx;cases hv;exact⟨[],rfl,bE.2 rfl⟩
 |r::rs,xs,vs,hx,hv=>by
  simp only[abh,aa2,abn]at hx;cases hr:tT P r with
  |none=>simp[hr]at hx
  |some x=>
   cases hrs:rs.mapM (tT P)with
   |none=>simp[hr,hrs]at hx
   |some xs'=>
    simp[hr,hrs]at hx;subst hx;simp only[je]at hv;split at hv
    case h_2=>cases hv
    rename_i v vs' h1 h2;cases hv;obtain⟨cv,hc,RK⟩:=xF st hr h1;obtain⟨Ud,TB,hvrs⟩:=pP st hrs h2;refine⟨cv::Ud,?_,aO.2 ⟨cv,Ud,rfl,RK,hvrs⟩⟩;rw[abh,Zj];have Tg:=hc;cases r<;>(simp only at Tg ⊢;rw[Tg];simp only[Y8,Zj,TB,ZB])
def vj{ts:TS}{a:Act}(st:St P m ts h a w){fn:Func}{xs:List (Nat×Option (Option Nat))}(hx:fn.results.toList.mapM (tT P)=some xs)(hv:cQ xs ts h=some v):
  ∃cv,(results fn a.tmps).run P w=.ok cv w/\VR m v cv:=by
 unfold cQ at hv;have key:∀{vs:List AV},je ts h xs=some vs->∃Ud:List Value,(results fn a.tmps).run P w=.ok (if h:Ud.length=1 then Ud[0]else .tuple ⟨Ud⟩) w/\cI m vs Ud:=by
  intro vs SH;obtain⟨Ud,h1,h2⟩:=pP st hx SH;refine⟨Ud,?_,h2⟩;unfold results;rw[Array.mapM_eq_mapM_toList,Zj];simp only[map_eq_pure_bind,Zj];have h1':=h1
  erw [h1']
  simp only[Y8,ZB];by_cases hc:Ud.length=1
  ·simp[hc]
  ·simp[hc]
 split at hv
 ·rename_i v' SH;cases hv;obtain⟨Ud,h1,h2⟩:=key SH;obtain⟨y,ys,rfl,hy,hys⟩:=aO.1 h2;rw[bE]at hys;subst hys;exact⟨y,by simpa using h1,hy⟩
 ·rename_i l hno SH;cases hv;obtain⟨Ud,h1,h2⟩:=key SH;have hlen:Ud.length≠1:=by
   rw[h2.length];intro hl;obtain⟨z,hz⟩:=List.length_eq_one_iff.1 hl;exact hno z hz
  rw[dif_neg hlen]at h1;exact⟨_,h1,⟨Ud,rfl,h2⟩⟩
 ·cases hv
theorem nZ{fn xs}(hx:fn.results.toList.mapM (tT P)=some xs){ts}(hv:cQ xs ts h' =some v){m0 h0 w0 lo}(hlo:w0.heap.size<=lo):
  ∀(ds:List Deferred) (m:b9) (a:Act) (w:World),St P m ts h' a w->Grow m0 h0 w0 m h' w->Marks m w lo ds->LeavesInM Fence.wide 0 P fn a.tmps (Rel P m0 h0 w0 v h') ds .returning w
 |[],m,a,w,st,g,_=>by
  obtain⟨cv,h1,h2⟩:=vj st hx hv;exact⟨cv,h1,cv,m,rfl,h2,st.hr,g⟩
 |d::ds,m,a,w,st,g,k=>by
  obtain⟨rs,h1,h2,h3⟩:=k;cases rs with
  |nil=>simp at h1
  |cons r rs=>
   simp only[ZP,List.cons.injEq]at h1;obtain⟨rfl,rfl⟩:=h1;obtain⟨hl,hh,hm⟩:=h3 r Si;have hoth:∀i,i≠r->(w.putObj r (.deferred none)).heap[i]? =w.heap[i]? :=λi hi=>World.putObj_heap_other hi
   refine⟨Si,.inl ⟨r,_,rfl,run_takeDeferred hh,?_⟩⟩;refine nZ hx hv hlo _ m a _ ⟨⟨st.hr.cK,λb e k hb hk=>(st.hr.dR b e k hb hk).heap (hoth _ (hm b e hb)),st.hr.sep,st.hr.fX,λb e hb=>by simpa using st.hr.lt b e hb⟩,st.ts⟩
    ⟨g.ext,g.len,g.new,g.tl,by simpa using g.size,g.os,g.out,g.tape,λi hi hno=>?_⟩ ⟨rs,rfl,(abp.1 h2).2,λr' hr'=>?_⟩
   ·rw[hoth i Om];exact g.frame i hi hno
   ·obtain⟨c1,c2,c3⟩:=h3 r' (ZG _ hr');refine⟨c1,?_,c3⟩;rw[hoth r' (λx=>(abp.1 h2).1 (x▸hr'))];exact c2
def gK{f A}(hA:bQ P f=some A):∃fn c,P.funcs[f]? =some fn/\fn.body=some c/\compile P c=some A.body/\fn.results.toList.mapM (tT P)=some A.rs/\fn.ntmps=A.nt/\(fn.name == "runtime.NumGoroutine")=false:=by
 unfold bQ at hA;split at hA
 case h_1=>cases hA
 rename_i fn hf;split at hA
 case h_1=>cases hA
 rename_i c hb;split at hA
 case h_2=>cases hA
 rename_i b rs hc hr;split at hA
 case isTrue=>cases hA
 rename_i hn;cases hA;exact⟨fn,c,hf,hb,hc,hr,rfl,by simpa using hn⟩
def lP.Lg{f A}(hA:bQ P f=some A){args e ts'}(hev:Ev P none A.body (aR A.nt args) h e ts' h')(he:e.leaves=true)(hv:cQ A.rs ts' h' =some v):lP P f args h v h':=by
 intro m w vs hr hargs;obtain⟨fn,c,hf,hb,hc,hres,hnt,_⟩:=gK hA;rw[<-callsIn_wide (n:=0)];refine callsIn_of_wp_marks hf hb trivial ?_;refine hev c hc m _ w w.heap.size (Y9 _) ⟨hr,?_⟩ (Marks.nil m w _) _ ?_
 ·have:((⟨vs⟩:Array Value)++Array.replicate (fn.ntmps-(⟨vs⟩:Array Value).size) undef).toList=vs++List.replicate (A.nt-args.length) undef:=by
   rw[hnt];simp[hargs.length]
  rw[this];refine cI.append hargs (cI.iA Si λi x hx=>?_);rw[List.getElem?_replicate]at hx ⊢;split at hx
  ·rename_i hlt;cases hx;rw[Zb hlt];exact⟨undef,rfl,jV m⟩
  ·cases hx
 ·intro m' a' w' s g k;have:=nZ hres hv (Y9 _) a'.defers m' a' w' s g k;cases e<;>first|exact this|cases he
def fh.yT{f A}(hA:bQ P f=some A){a c args}(hs:lP P f (a++args++c) h v h'):fh P (.func (.func f) a c) args h v h':=by
 intro m w cv vs hr hf hargs;rw[VR]at hf;obtain⟨f',a',c',rfl,hfn,ha,hc⟩:=hf;simp only[AP]at hfn;subst hfn;refine⟨_,λw=>rfl,?_⟩;obtain⟨fn,cc,hfn,hb,_,_,_,hn⟩:=gK hA;simp only[invoke];rw[kC hfn (by rw[hb];rfl) hn];show CallsIn Fence.wide 0 P f _ w _;rw[callsIn_wide];have:=hs m w (a'++vs++c') hr (cI.append (cI.append ha hargs) hc)
 simpa using this
def iW(P:Program)(u:TypeId)(name:String):Option FuncId:=
 match P.info? u,P.underlying u with
 |some i,some d=>
  match i.methods.find? (·.name==name)with
  |some m=>
   match m.path.toList,m.func,d with
   |[],some (_,false),.pointer _=>none
   |[],some (f,false),_=>some f
   |_,_,_=>none
  |none=>none
 |_,_=>none
def xB{u:TypeId}{name f}(hm:iW P u name=some f)(n:Nat)(v:Value)(w:World):(method (n+1) u v name).run P w=.ok (f,v) w:=by
 unfold iW at hm;split at hm
 case h_2=>cases hm
 rename_i i d hi hd;split at hm
 case h_2=>cases hm
 rename_i mm T8;split at hm
 case h_3=>cases hm
 case h_1=>cases hm
 rename_i f' hp hfn hnp;cases hm;have hti:(typeInfo u).run P w=.ok i w:=by simp[typeInfo,hi]
 rw[method];simp only[Zj,hti,Y8,T8,hp,follow,ZB,hfn];have Sc:∀wr,(receiverAt u (.val v) false wr).run P w=.ok v w:=by
  intro wr;unfold receiverAt;simp only[Zj,Zh hd,Y8];rfl
 simp only[Sc,Y8]
def fh.Ea{u:TypeId}{name f A}(hm:iW P u name=some f)(hA:bQ P f=some A){a args}(hs:lP P f (a::args) h v h'):fh P (.func (.method name) [] []) (.uM u a::args) h v h':=by
 intro m w cv vs hr hf hargs;rw[VR]at hf;obtain⟨f',a',c',rfl,hfn,ha,hc⟩:=hf;simp only[AP]at hfn;subst hfn;rw[bE]at ha hc;subst ha;subst hc;obtain⟨x,vs,rfl,hx,SH⟩:=aO.1 hargs;rw[VR]at hx;obtain⟨v',rfl,hx⟩:=hx;refine⟨_,λw=>rfl,?_⟩;obtain⟨fn,cc,hfn,hb,_,_,_,hn⟩:=gK hA;have e0:((#[]++(⟨.iface u v'::vs⟩:Array Value)):Array Value)[0]? =some (.iface u v'):=Si
 have e1:((#[]++(⟨.iface u v'::vs⟩:Array Value)):Array Value).extract 1 ((#[]++(⟨.iface u v'::vs⟩:Array Value)):Array Value).size=⟨vs⟩:=by
  apply abk;simp
 simp only[invoke,e0,e1,callMethod,Zj,program];have hmt:=xB hm (P.types.size+Made.depth-1) v' w;have hdep:0<Made.depth:=De
 have hne:P.types.size+Made.depth-1+1=P.types.size+Made.depth:=Om
 rw[hne]at hmt;show Dj P (Rel P m h w v h') ((Result.ok P w).andThen λa w'=>(Sem.run P (method (a.types.size+Made.depth) u v' name) w').andThen λa w'=>Sem.run P (callFunc a.fst (#[a.snd]++⟨vs⟩)) w');simp only[Y8,hmt];rw[kC hfn (by rw[hb];rfl) hn];show CallsIn Fence.wide 0 P f _ w _;rw[callsIn_wide];have:=hs m w (v'::vs) hr (aO.2 ⟨_,_,rfl,hx,SH⟩);have e2:(#[v']++(⟨vs⟩:Array Value))=⟨v'::vs⟩:=by apply abk;simp
 rw[e2];exact this
end
def setArgs:TS->List Nat->List AV->TS
 |ts,p::ps,v::vs=>setArgs (ts.set p v) ps vs
 |ts,_,_=>ts
section
variable {P:Program}{m:b9}{h h':ah}{w:World}{v:AV}
def HR.aside(hr:HR P m h w)(o:Obj):HR P m h (w.alloc o):=
 ⟨hr.cK,λb e k hb hk=>(hr.dR b e k hb hk).heap (Go.RowKit.Below.heap_alloc w o _ (hr.lt b e hb)),hr.sep,hr.fX,λb e hb=>by have:=hr.lt b e hb;simp;omega⟩
def Grow.aside(hr:HR P m h w)(o:Obj):Grow m h w m h (w.alloc o):=
 ⟨λ_ _=>rfl,Y9 _,λb e hb he=>absurd (hr.cK b e he) Om,λ_ _ h=>h,Si,rfl,rfl,rfl,λi hi _=>Go.RowKit.Below.heap_alloc w o i hi⟩
theorem pN:∀{ps}{args}{ts}{tmps}{vs},cI m ts tmps.toList->cI m args vs->cI m (setArgs ts ps args) ((ps.zip vs).foldl (λ(t:Array Value) (p:Nat×Value)=>t.setIfInBounds p.1 p.2) tmps).toList
 |[],_,_,_,_,ht,_=>by simpa [setArgs]using ht
 |p::ps,[],ts,tmps,vs,ht,ha=>by rw[bE]at ha;subst ha;simpa [setArgs]using ht
 |p::ps,x::args,ts,tmps,vs,ht,ha=>by
  obtain⟨y,ys,rfl,hy,hys⟩:=aO.1 ha;simp only[List.zip_cons_cons,abo,setArgs];exact pN (by rw[Array.toList_setIfInBounds];exact ht.set p hy) hys
theorem fh.yield{l ex ex2 ex4 e ts U1 ts3 tb tc ps pb pc asg body ab ac bb bc h2 h4 args st4}
  (hl:h[l]? =some (.loop .ready ex ts ps asg body)) (hlen:args.length=ps.length)
  (hasg:∀r,Ev P (some r) asg (setArgs ts ps args) h .normal U1 h2) (hl2:h2[l]? =some (.loop .ready ex2 tb pb ab bb))
  (hbody:∀r,Ev P (some r) body U1 (h2.set l (.loop .busy ex2 tb pb ab bb)) e ts3 h4) (hl4:h4[l]? =some (.loop st4 ex4 tc pc ac bc)):
  fh P (.func (.yield l) [] []) args h (.bool (decide (e=.normal))) (h4.set l (.loop (if e=.normal then .ready else .done) e tc pc ac bc)):=by
 intro m w cv vs hr hf hargs;rw[VR]at hf;obtain⟨f',a',c',rfl,hfn,ha,hc⟩:=hf;rw[bE]at ha hc;subst ha;subst hc;obtain⟨el,VJ,rfl⟩:=hfn;refine⟨_,λw=>rfl,?_⟩;obtain⟨hown,fn,tmps,SK,R9,df,hh,RG,Sp,hcb⟩:=hr.dR l el _ VJ hl;have hy:=run_yield (P:=P) (args:=(#[]++⟨vs⟩:Array Value)) hh (by simp[hargs.length,hlen]);simp only[invoke];rw[hy];show RoundIn Fence.wide 0 P el.cb fn _ SK R9 w _;refine roundIn_of_wpIn trivial ?_;have T0:cI m (setArgs ts ps args) (((⟨ps⟩:Array Tmp).zip (#[]++⟨vs⟩:Array Value)).foldl (λtmps (t,a)=>tmps.setIfInBounds t a) tmps).toList:=by
  have:=pN (ps:=ps) RG hargs;rw[<-Array.foldl_toList,Array.toList_zip]
  simpa using this
 refine hasg el.cb SK Sp m _ w w.heap.size (Y9 _) ⟨hr,T0⟩ (Marks.nil m w _) _ λm1 a1 w1 s1 g1 k1=>?_
 have WX:m1 l=some el:=by rw[g1.ext l (hr.cK _ _ VJ)];exact VJ
 obtain⟨_,fn2,Xk,XT,VV,df2,hh2,hts2,hca2,hcb2⟩:=s1.hr.dR l el _ WX hl2;refine⟨_,run_beginRound hh2 rfl,?_⟩;have hlt1:el.cb<w1.heap.size:=s1.hr.lt _ _ WX;obtain⟨SY,g2⟩:=jZ s1.hr (o:=.loop {state:=.busy,pending:=ex2.jump,fn:=fn2,tmps:=Xk,params:=⟨pb⟩,assign:=XT,body:=VV,defers:=df2}) WX hl2 rfl (k':=.loop .busy ex2 tb pb ab bb) (.inl rfl)
  ⟨hown,fn2,Xk,XT,VV,df2,World.putObj_heap_same hlt1,hts2,hca2,hcb2⟩
 refine hbody el.cb R9 hcb m1 a1 _ w.heap.size (ZL g1.size g2.size) ⟨SY,s1.ts⟩ (k1.grow g2 s1.hr.cK) _ λm2 a2 w3 s2 g3 k2=>?_
 have hl2':l<h2.length:=(YQ.1 hl2).1;have YF:m2 l=some el:=by rw[g3.ext l (by simpa using hl2')];exact WX
 obtain⟨_,fn4,Xj,XS,VU,df4,hh4,hts4,hca4,hcb4⟩:=s2.hr.dR l el _ YF hl4;have SR:el.cb<w3.heap.size:=s2.hr.lt _ _ YF;have fin:∀j:Option Code,j=e.jump->∃v w',(Instr.endRound el.cb j).run P w3=.ok v w'/\Rel P m h w (.bool (decide (e=.normal))) (h4.set l (.loop (if e=.normal then .ready else .done) e tc pc ac bc)) (.returned v) w':=by
  rintro j rfl;obtain⟨hr4,g4⟩:=jZ s2.hr (o:=.loop {state:=if e=.normal then .ready else .done,pending:=e.jump,fn:=fn4,tmps:=Xj,params:=⟨pc⟩,assign:=XS,body:=VU,defers:=df4}) YF hl4 rfl
   (k':=.loop (if e=.normal then .ready else .done) e tc pc ac bc) (.inl rfl) ⟨hown,fn4,Xj,XS,VU,df4,World.putObj_heap_same SR,hts4,hca4,hcb4⟩
  refine⟨_,_,run_endRound e.jump hh4,.bool (decide (e=.normal)),m2,?_,rfl,?_,?_⟩
  ·cases e<;>rfl
  ·have:(if e.jump.isNone=true then LoopState.ready else .done)=if e=.normal then .ready else .done:=by cases e<;>rfl
   simp only[this];exact hr4
  ·have:(if e.jump.isNone=true then LoopState.ready else .done)=if e=.normal then .ready else .done:=by cases e<;>rfl
   simp only[this];exact((g1.trans g2 hr.cK).trans g3 hr.cK).trans g4 hr.cK
 cases e with
 |normal=>exact fin none rfl
 |exit id=>exact fin (some (.exit id)) rfl
 |ret=>exact fin (some .ret) rfl
theorem Ev.fL{g ps ps' asg body asg' body' ts ts' f A a c h2 st ex}(hA:bQ P f=some A)(hg:val ts g=.func (.func f) a c)
  (hs:lP P f (a++[.func (.yield h.length) [] []]++c) (h++[.loop .ready .normal ts ps asg body]) v h2) (hl:h2[h.length]? =some (.loop st ex ts' ps' asg' body')) (bU:st≠.busy):
  Ev P none (.fL g ps asg body) ts h ex ts (h2.set h.length .dead):=by
 refine Ev.of λcc hns Vb m act w lo hlo s hm Q hQ=>?_
 cases cc with
 |rangeFunc og cps SK R9=>
  simp only[compile]at Vb;split at Vb
  case h_2=>cases Vb
  rename_i g' x' y' hgo Sp hcb;cases Vb;have hv:=B1 s hgo;rw[hg,VR]at hv;obtain⟨f',ca,Sr,hev,hfn,ha,hc⟩:=hv;simp only[AP]at hfn;subst hfn;obtain⟨W1,Uy⟩:∃W1,w.alloc (.deferred (some []))=W1:=⟨_,rfl⟩;have hsz1:W1.heap.size=w.heap.size+1:=by rw[<-Uy];simp
  have hr1:HR P m h W1:=by rw[<-Uy];exact s.hr.aside _
  have g1:Grow m h w m h W1:=by rw[<-Uy];exact Grow.aside s.hr _
  have Vd:W1.heap[w.heap.size]? =some (.deferred (some [])):=by rw[<-Uy];exact World.alloc_heap_new w _
  refine wpIn_rangeFunc λfn _=>?_
  obtain⟨rec,Sc⟩:∃rec:Loop,rec={state:=.ready,pending:=none,fn:=fn,tmps:=act.tmps,params:=cps,assign:=SK,body:=R9,defers:=w.heap.size}:=⟨_,rfl⟩;obtain⟨SY,g2⟩:=ki hr1 (.loop rec) (.loop .ready .normal ts cps.toList asg body) ⟨W1.heap.size,0,0,true⟩ rfl rfl (λm' hm'=>⟨rfl,fn,act.tmps,SK,R9,w.heap.size,by rw[Sc];exact World.alloc_heap_new W1 _,cI.mono hm' _ _ s.ts,Sp,hcb⟩);have hloc:(m.add h.length ⟨W1.heap.size,0,0,true⟩) h.length=some ⟨W1.heap.size,0,0,true⟩:=by simp[b9.add]
  have hle:m.le (m.add h.length ⟨W1.heap.size,0,0,true⟩):=g2.le s.hr.cK;have VI:=run_enterLoop_outer (P:=P) (w:=w) fn act.tmps cps SK R9;rw[Uy,<-Sc]at VI;obtain⟨ffn,fcode,hffn,hfb,_,_,_,YC⟩:=gK hA;have hmk:Marks (m.add h.length ⟨W1.heap.size,0,0,true⟩) (W1.alloc (.loop rec)) lo ([{target:=.collected w.heap.size,args:=#[] }]++act.defers):=by
   obtain⟨rs,k1,k2,k3⟩:=(hm.grow g1 s.hr.cK).grow g2 s.hr.cK;refine⟨w.heap.size::rs,by rw[k1];rfl,abp.2 ⟨λhin=>?_,k2⟩,λr hr'=>?_⟩
   ·obtain⟨rs0,j1,j2,j3⟩:=hm;have hrs:rs0=rs:=by
     have:rs0.map (λr=>({target:=.collected r,args:=#[] }:Deferred))=rs.map (λr=>({target:=.collected r,args:=#[] }:Deferred)):=by rw[<-j1,k1]
     exact List.map_inj_right (λx y hxy=>by simpa using hxy) |>.1 this
    subst hrs;have:=(Ze.1 (j3 _ hin).2.1).1;omega
   ·rcases ZC.1 hr' with rfl|hr'
    ·refine⟨hlo,(Go.RowKit.Below.heap_alloc W1 _ _ Om).trans Vd,λb e hb=>?_⟩;unfold b9.add at hb;split at hb
     ·cases hb;show W1.heap.size≠_;omega
     ·have:=s.hr.lt b e hb;omega
    ·exact k3 r hr'
  refine⟨w.heap.size+1,_,W1.alloc (.loop rec),{target:=.fn (.func f) ⟨Sr⟩,args:=⟨ca⟩++#[.func (.yield (w.heap.size+1)) #[] #[]] },W1.alloc (.loop rec),f,(⟨ca⟩++#[.func (.yield (w.heap.size+1)) #[] #[]])++⟨Sr⟩,W1.alloc (.loop rec),
   VI,?_,λ_ _=>trivial,?_,λhd=>by simp[Fd,Fence.wide]at hd,?_⟩
  ·have Vz:(#[Operand.const (.func (.yield (w.heap.size+1)) #[] #[])] :Array Operand).map act.eval=#[.func (.yield (w.heap.size+1)) #[] #[]]:=by simp[Act.eval]
   simp only[resolve,hev,rangeCall,Vz];rfl
  ·simp only[invoke];exact kC hffn (by rw[hfb];rfl) YC
  ·have hargs:cI (m.add h.length ⟨W1.heap.size,0,0,true⟩) (a++[.func (.yield h.length) [] []]++c) (ca++[.func (.yield (w.heap.size+1)) #[] #[]]++Sr):=by
    refine cI.append (cI.append (cI.mono hle _ _ ha) (aO.2 ⟨_,[],rfl,⟨_,[],[],rfl,⟨_,hloc,by rw[hsz1]⟩,rfl,rfl⟩,bE.2 rfl⟩)) (cI.mono hle _ _ hc)
   have Ub:=hs _ _ _ SY hargs;rw[<-callsIn_wide (n:=0)]at Ub;have YJ:CallsIn (Fd none) (0-1) P f ((⟨ca⟩++#[.func (.yield (w.heap.size+1)) #[] #[]])++⟨Sr⟩) (W1.alloc (.loop rec)) (Rel P (m.add h.length ⟨W1.heap.size,0,0,true⟩) (h++[.loop .ready .normal ts cps.toList asg body]) (W1.alloc (.loop rec)) v h2):=by
    have Sz:((⟨ca⟩++#[.func (.yield (w.heap.size+1)) #[] #[]])++⟨Sr⟩:Array Value)=⟨ca++[.func (.yield (w.heap.size+1)) #[] #[]]++Sr⟩:=by apply abk;simp
    rw[Sz];exact Ub
   refine YJ.mono ?_;rintro e3 w3 ⟨cv,m3,rfl,hv3,hr3,g3⟩;have XB:m3 h.length=some ⟨W1.heap.size,0,0,true⟩:=by rw[g3.ext h.length Si];exact hloc
   obtain⟨hown3,fn3,tmps3,casg3,YO,df3,hh3,_⟩:=hr3.dR h.length _ _ XB hl;simp only at hh3;have TP:=run_endLoop (P:=P) (l:=W1.heap.size) hh3 (by simpa using bU);obtain⟨hr4,g4⟩:=jZ hr3 (o:=.loop {state:=.exhausted,pending:=ex.jump,fn:=fn3,tmps:=tmps3,params:=⟨ps'⟩,assign:=casg3,body:=YO,defers:=df3}) XB hl rfl (k':=.dead) (.inr rfl) trivial;have Tq:=hQ m3 {act with defers:=[{target:=.collected w.heap.size,args:=#[] }]++act.defers} _ ⟨hr4,cI.mono ((g2.trans g3 s.hr.cK).le s.hr.cK) _ _ s.ts⟩ (((g1.trans g2 s.hr.cK).trans g3 s.hr.cK).trans g4 s.hr.cK) ((hmk.grow g3 SY.cK).grow g4 hr3.cK);refine⟨ex.jump,_,by rw[<-hsz1];exact TP,?_⟩
   cases ex with
   |normal=>exact Tq
   |exit id=>exact wpIn_exit Tq
   |ret=>exact wpIn_ret Tq
 |scope a=>exact absurd rfl (hns a)
 |region id ops draw=>rcases dV (by simpa only[compile]using Vb)with⟨_,h1,_⟩|⟨_,h1,_⟩|⟨_,h1,_⟩<;>cases h1
 |block id a=>simp[compile]at Vb
 |loop a=>simp[compile]at Vb
 |_=>
  simp only[compile]at Vb
  (repeat' split at Vb)
  all_goals cases Vb
end
inductive iT where
 |au
 |push (k:ak)
 |set (b:Nat) (k:ak)
 |nQ (b:Nat) (k k':ak)
 deriving Inhabited
def iT.app:iT->ah->ah
 |.au,h=>h
 |.push k,h=>h++[k]
 |.set b k,h=>h.set b k
 |.nQ b k k',h=>h.set b k++[k']
def fg(es:Nat)(G:Nat->Option ak):AV->Option (List AV×Nat)
 |.af=>some ([],0)
 |.slice b o n es'=>
  if es' =es then
   match G b with
   |some (.cells c _ _)=>if o+n*es<=c.length then some ((c.drop o).take (n*es),n)else none
   |_=>none
  else none
 |.str s=>if es=1 then some (s.map λb=>.int .u8 b.toNat,s.length)else none
 |_=>none
def jh(lk:LK)(G:Nat->Option ak):AV->Option Nat
 |.str s=>if lk=.st then some s.length else none
 |.slice _ _ n _=>if lk=.sl then some n else none
 |.af=>if lk=.sl then some 0 else none
 |.map r=>
  match G r with
  |some (.bf es)=>if lk=.mp then some es.length else none
  |_=>none
 |.db=>if lk=.mp then some 0 else none
 |_=>none
def mN(k:zv)(x:AV)(G:Nat->Option ak)(N0:Nat):Option (AV×iT):=
 match k with
 |.Jw k=>
  match x with
  |.int _ n=>some (.int k (k.wrap n),.au)
  |_=>none
 |.same=>
  match x with
  |.str s=>some (.str s,.au)
  |_=>none
 |.O6 k=>
  match x with
  |.int _ n=>some (.wR k (k.nearest n),.au)
  |_=>none
 |.Pn k=>
  match x with
  |.wR s b=>
   match (s.decode b).toInt .zero with
   |some n=>if Eg s b=false/\k.min<=n/\n<=k.max then some (.int k n,.au)else none
   |none=>none
  |_=>none
 |.Po k=>
  match x with
  |.wR s b=>if s=k then some (.wR k b,.au)else none
  |_=>none
 |.uM u=>some (.uM u x,.au)
 |.Nh=>
  match x with
  |.af=>some (.str [],.au)
  |.slice b o n es=>
   match fg 1 G (.slice b o n es)with
   |some (l,_)=>
    match l.mapM byteOf with
    |some r=>some (.str r,.au)
    |none=>none
   |none=>none
  |_=>none
 |.N4=>
  match x with
  |.str s=>some (.slice N0 0 s.length 1,.push (.cells (s.map λb=>.int .u8 b.toNat) true true))
  |_=>none
def nv(k:pf):(cX->AV)->(Nat->Option ak)->Nat->Option (AV×iT):=
 match k with
 |.cA x=>λρ G N0=>some (ρ x,.au)
 |.pick c a b=>λρ G N0=>
  match ρ c with
  |.bool t=>some (if t then ρ a else ρ b,.au)
  |_=>none
 |.box x=>λρ G N0=>if(ρ x).cells.all AV.one then some (.ptr N0 0,.push (.cells (ρ x).cells true false))else none
 |.oE n x=>λρ G N0=>if(ρ x).cells.all AV.one=true/\(ρ x).cells.length=n then some (.ptr N0 0,.push (.cells (ρ x).cells true false))else none
 |.build z ps=>λρ G N0=>
  match eI z (ps.map λp=>(p.1,p.2.1,ρ p.2.2))with
  |some c=>some (.agg c,.au)
  |none=>none
 |.load n a=>λρ G N0=>
  match ρ a with
  |.ptr b o=>
   match G b with
   |some (.cells c _ _)=>
    match n with
    |none=>
     match c[o]? with
     |some x=>some (x,.au)
     |none=>none
    |some n=>if o+n<=c.length then some (.agg ((c.drop o).take n),.au)else none
   |_=>none
  |_=>none
 |.store n a x=>λρ G N0=>
  match ρ a with
  |.ptr b o=>
   match G b with
   |some (.cells c true tl)=>
    if(ρ x).cells.length=n/\(ρ x).cells.all AV.one=true/\o+n<=c.length then some (az,.set b (.cells (fK c o (ρ x).cells) true tl))else none
   |_=>none
  |_=>none
 |.bP x=>λρ G N0=>
  match ρ x with
  |.ptr b o=>some (.ptr b o,.au)
  |.func (.func f) a c=>some (.func (.func f) a c,.au)
  |.func (.yield f) a c=>some (.func (.yield f) a c,.au)
  |.func (.methodOf t n) a c=>some (.func (.methodOf t n) a c,.au)
  |.func (.via t p f q) a c=>some (.func (.via t p f q) a c,.au)
  |_=>none
 |.bin op x y=>λρ G N0=>
  match eo op (ρ x) (ρ y)with
  |some v=>some (v,.au)
  |none=>none
 |.eqv neg t x y=>λρ G N0=>
  match pB t (ρ x) (ρ y)with
  |some b=>some (.bool (if neg then !b else b),.au)
  |none=>none
 |.un op x=>λρ G N0=>
  match wW op (ρ x)with
  |some v=>some (v,.au)
  |none=>none
 |.conv k x=>λρ G N0=>mN k (ρ x) G N0
 |.uc f a c=>λρ G N0=>some (.func f (a.map ρ) (c.map ρ),.au)
 |.mJ=>λρ G N0=>some (.map N0,.push (.bf []))
 |.vG es w z l c=>λρ G N0=>
  match ρ l,ρ c with
  |.int _ l,.int _ c=>
   if 0<=l/\l<=c/\(w:Int)*c<=2^48/\c<2^63 then some (.slice N0 0 l.toNat es,.push (.cells (dN l.toNat z) true true))else none
  |_,_=>none
 |.sl es x lo hi=>λρ G N0=>
  match ρ x with
  |.slice b o n es'=>
   if es' =es then
    match jk (lo.map ρ) (hi.map ρ) n with
    |some (l,h')=>some (.slice b (o+l*es) (h'-l) es,.au)
    |none=>none
   else none
  |.af=>
   match jk (lo.map ρ) (hi.map ρ) 0 with
   |some _=>some (.af,.au)
   |none=>none
  |_=>none
 |.Jt x lo hi=>λρ G N0=>
  match ρ x with
  |.str s=>
   match jk (lo.map ρ) (hi.map ρ) s.length with
   |some (l,h')=>some (.str ((s.drop l).take (h'-l)),.au)
   |none=>none
  |_=>none
 |.Nc k es x lo hi=>λρ G N0=>
  match ρ x with
  |.ptr b o=>
   match G b with
   |some (.cells c _ _)=>
    if o+k*es<=c.length then
     match jk (lo.map ρ) (hi.map ρ) k with
     |some (l,h')=>some (.slice b (o+l*es) (h'-l) es,.au)
     |none=>none
    else none
   |_=>none
  |_=>none
 |.aU off x=>λρ G N0=>
  match ρ x with
  |.ptr b o=>some (.ptr b (o+off),.au)
  |_=>none
 |.bD es x i=>λρ G N0=>
  match ρ x,ρ i with
  |.slice b o n es',.int _ i=>if es' =es/\0<=i/\i<n then some (.ptr b (o+i.toNat*es),.au)else none
  |_,_=>none
 |.si len es x i=>λρ G N0=>
  match ρ x,ρ i with
  |.ptr b o,.int _ i=>if 0<=i/\i<len then some (.ptr b (o+i.toNat*es),.au)else none
  |_,_=>none
 |.part n off x=>λρ G N0=>
  match ρ x with
  |.agg cs=>
   match n with
   |none=>
    match cs[off]? with
    |some v=>some (v,.au)
    |none=>none
   |some n=>some (.agg ((cs.drop off).take n),.au)
  |_=>none
 |.Jv len es n x i=>λρ G N0=>
  match ρ x,ρ i with
  |.agg cs,.int _ i=>
   if 0<=i/\i<len then
    match n with
    |none=>
     match cs[i.toNat*es]? with
     |some v=>some (v,.au)
     |none=>none
    |some n=>some (.agg ((cs.drop (i.toNat*es)).take n),.au)
   else none
  |_,_=>none
 |.Dp x i=>λρ G N0=>
  match ρ x,ρ i with
  |.str s,.int _ i=>
   if 0<=i then
    match s[i.toNat]? with
    |some b=>some (.int .u8 b.toNat,.au)
    |none=>none
   else none
  |_,_=>none
 |.look kk z ok m k=>λρ G N0=>
  match ρ m with
  |.db=>some (if ok then .dM [z,.bool false]else z,.au)
  |.map r=>
   match G r with
   |some (.bf es)=>
    match gY kk (ρ k) es with
    |some (some v)=>some (if ok then .dM [v,.bool true]else v,.au)
    |some none=>some (if ok then .dM [z,.bool false]else z,.au)
    |none=>none
   |_=>none
  |_=>none
 |.fE kk m k x=>λρ G N0=>
  match ρ m with
  |.map r=>
   match G r with
   |some (.bf es)=>
    match mC kk (ρ k) (ρ x) es with
    |some es'=>some (az,.set r (.bf es'))
    |none=>none
   |_=>none
  |_=>none
 |.BJ x=>λρ G N0=>
  match ρ x with
  |.str s=>some (.ptr N0 0,.push (.iter s 0))
  |_=>none
 |.rl x=>λρ G N0=>
  match ρ x with
  |.ptr b 0=>
   match G b with
   |some (.iter s pos)=>
    if pos<s.length then
     let d:=Utf8.decode ⟨⟨s⟩⟩ pos
     some (.dM [.bool true,.int .i64 pos,.int .i32 d.1],.set b (.iter s (pos+d.2)))
    else some (.dM [.bool false],.au)
   |_=>none
  |_=>none
 |.ext x i=>λρ G N0=>
  match ρ x with
  |.dM l=>
   match l[i]? with
   |some v=>some (v,.au)
   |none=>none
  |_=>none
 |.len lk x=>λρ G N0=>
  match jh lk G (ρ x)with
  |some n=>some (.int .i64 n,.au)
  |none=>none
 |.zW n=>λρ G N0=>some (.int .i64 n,.au)
 |.zb es x y=>λρ G N0=>
  match ρ x,fg es G (ρ y)with
  |.slice b o n es',some (ys,k)=>
   if es' =es then
    if min k n=0 then some (.int .i64 0,.au)
    else
     match G b with
     |some (.cells c true tl)=>if o+min k n*es<=c.length then some (.int .i64 (min k n:Nat),.set b (.cells (fK c o (ys.take (min k n*es))) true tl))else none
     |_=>none
   else none
  |.af,some _=>some (.int .i64 0,.au)
  |_,_=>none
 |.mx x l=>λρ G N0=>
  match iL pV (ρ x) (l.map ρ)with
  |some v=>some (v,.au)
  |none=>none
 |.mn x l=>λρ G N0=>
  match iL pU (ρ x) (l.map ρ)with
  |some v=>some (v,.au)
  |none=>none
 |_=>λρ G N0=>none
def pF(es w:Nat)(s y:AV)(G:Nat->Option ak)(N0:Nat):Option (AV×iT):=
 match fg es G y with
 |none=>none
 |some (ys,k)=>
  match s with
  |.af=>if k=0 then(if ys.isEmpty then some (.af,.au)else none)else if k*w<=2^46 then some (.slice N0 0 k es,.push (.cells ys true true))else none
  |.slice b o m es'=>
   if es' =es then
    if k=0 then(if ys.isEmpty then some (.slice b o m es,.au)else none)
    else if(m+k)*w<=2^46 then
     match G b with
     |some (.cells c true true)=>if o+m*es<=c.length then some (.slice N0 0 (m+k) es,.nQ b .dead (.cells ((c.drop o).take (m*es)++ys) true true))else none
     |some (.cells c false true)=>if o+m*es=c.length then some (.slice N0 0 (m+k) es,.nQ b (.cells c false false) (.cells (c.drop o++ys) false true))else none
     |some (.cells c true false)=>if o+m*es=c.length then some (.slice N0 0 (m+k) es,.push (.cells (c.drop o++ys) true true))else none
     |_=>none
    else none
   else none
  |_=>none
def stepT(k:pf):(cX->AV)->(Nat->Option ak)->Nat->Option (AV×iT):=
 match k with
 |.call _ _=>λ_ _ _=>none
 |.app es w x y=>λρ G N0=>pF es w (ρ x) (ρ y) G N0
 |.bd es n z ps=>λρ _ N0=>
  match eI (dN n z) (ps.map λp=>(p.1,es,ρ p.2))with
  |some c=>if c.all AV.one=true/\c.length=n*es then some (.slice N0 0 n es,.push (.cells c true (!Nat.beq n 0)))else none
  |none=>none
 |k=>nv k
def pC(es:Nat)(h:ah)(x:AV):fg es (λb=>h[b]?) x=cellsIn es h x:=by
 cases x<;>rfl
def Ej(lk:LK)(h:ah)(x:AV):jh lk (λb=>h[b]?) x=zX lk h x:=by
 cases x<;>rfl
def CH{k x h v e}(hs:mN k x (λb=>h[b]?) h.length=some (v,e)):kg k x h=some (v,e.app h):=by
 cases k<;>simp only[mN,pC]at hs<;>(repeat' split at hs)<;>first|(cases hs;done)|(cases hs;simp[kg,iT.app, *])
def Il{k ρ h v e}(hs:nv k ρ (λb=>h[b]?) h.length=some (v,e)):dx k ρ h=some (v,e.app h):=by
 cases k with
 |conv k x=>exact CH (k:=k) (x:=ρ x) hs
 |vG es w z l c=>
  simp only[nv]at hs;split at hs
  case h_2=>cases hs
  rename_i kl il kc ic hl hc;split at hs
  case isFalse=>cases hs
  rename_i R3;cases hs;simp only[dx,hl,hc];rw[Zb R3];rfl
 |_=>simp only[nv,pC,Ej]at hs<;>(repeat' split at hs)<;>first|(cases hs;done)|(cases hs;simp[dx,iT.app, *])
def nL{k ρ h v e}(hs:stepT k ρ (λb=>h[b]?) h.length=some (v,e)):mP k ρ h v (e.app h):=by
 have hf:∀k,nv k ρ (λb=>h[b]?) h.length=some (v,e)->dx k ρ h=some (v,e.app h):=λk hk=>Il hk
 cases k with
 |call f args=>cases hs
 |app es w x y=>
  simp only[stepT,pF,pC]at hs;show wO es w (ρ x) (ρ y) h v (e.app h);split at hs
  ·cases hs
  rename_i ys k hy;split at hs
  ·rename_i hx;rw[hx];split at hs
   ·rename_i hk;split at hs
    ·rename_i hys;cases hs;subst hk;exact .none (by rw[hy];cases ys<;>first|rfl|cases hys) (.inl rfl)
    ·cases hs
   ·split at hs
    ·rename_i hk hb;cases hs;exact .new ys k true hy Om hb rfl
    ·cases hs
  ·rename_i b o m es' hx;rw[hx];split at hs
   case isFalse=>cases hs
   rename_i hes;subst hes;split at hs
   ·rename_i hk;split at hs
    ·rename_i hys;cases hs;subst hk;exact .none (by rw[hy];cases ys<;>first|rfl|cases hys) (.inr ⟨b,o,m,rfl⟩)
    ·cases hs
   ·rename_i hk;split at hs
    case isFalse=>cases hs
    rename_i hb;split at hs
    ·rename_i c hc;split at hs
     case isFalse=>cases hs
     rename_i hl;cases hs;exact .over ys k b o m c true hy Om hb rfl hc hl
    ·rename_i c hc;split at hs
     case isFalse=>cases hs
     rename_i hl;cases hs;exact .on ys k b o m c false hy Om hb rfl hc hl
    ·rename_i c hc;split at hs
     case isFalse=>cases hs
     rename_i hl;cases hs;exact .full ys k b o m c hy Om hb rfl hc hl
    ·cases hs
  ·cases hs
 |bd es n z ps=>
  simp only[stepT]at hs;split at hs
  case h_2=>cases hs
  rename_i c hc;split at hs
  case isFalse=>cases hs
  rename_i R3;cases hs;exact⟨c,true,_,hc,R3.1,R3.2,rfl,rfl⟩
 |_=>exact hf _ hs
inductive Acc where
 |no
 |rd (b:Nat)
 |wr (b:Nat) (k:ak)
def Acc.dR:Acc->Option Nat
 |.no=>none
 |.rd b=>some b
 |.wr b _=>some b
def Acc.app(h:ah):Acc->ah
 |.wr b k=>h.set b k
 |_=>h
def zP{k}(hk:fu k=true){ρ G G' N N'}:stepT k ρ G N=stepT k ρ G' N':=by
 cases k<;>first|(cases hk;done)|rfl|skip
 case conv c x=>cases c<;>first|(cases hk;done)|rfl
 case len lk x=>
  have hl:lk≠.mp:=λe=>by rw[e]at hk;cases hk
  have e:jh lk G (ρ x)=jh lk G' (ρ x):=by
   cases lk<;>first|exact absurd rfl hl|skip
   all_goals
    cases ρ x<;>first|rfl|(simp only[jh,reduceCtorEq,Zf];repeat' split)<;>rfl
  simp only[stepT,nv,e]
def zV{n a ρ G G' N N' b o}(ha:ρ a=.ptr b o)(hb:G b=G' b):stepT (.load n a) ρ G N=stepT (.load n a) ρ G' N':=by
 simp only[stepT,nv,ha,hb]
def wZ{n a x ρ G G' N N' b o}(ha:ρ a=.ptr b o)(hb:G b=G' b):stepT (.store n a x) ρ G N=stepT (.store n a x) ρ G' N':=by
 simp only[stepT,nv,ha,hb]
def wM(o:bI)(ts:TS)(h:ah)(v:AV)(c:Acc):Prop:=
 (¬wanted o.gd ts/\c=.no/\v=az)\/wanted o.gd ts/\((fu o.k=true/\c=.no/\stepT o.k (val ts) (λz=>h[z]?) h.length=some (v,.au))\/
  (∃n a b off,o.k=.load n a/\val ts a=.ptr b off/\c=.rd b/\stepT o.k (val ts) (λz=>h[z]?) h.length=some (v,.au))\/
  (∃n a x b off k,o.k=.store n a x/\val ts a=.ptr b off/\c=.wr b k/\stepT o.k (val ts) (λz=>h[z]?) h.length=some (v,.set b k)))
theorem wM.run{P o ts h g v c}(hs:wM o ts h v c)(hb:∀b,c.dR=some b->g[b]? =h[b]?):dB P o ts g (put ts o.dst v) (c.app g):=by
 rcases hs with⟨hw,rfl,rfl⟩|⟨hw,hs⟩
 ·exact .skip hw
 rcases hs with⟨hp,rfl,hs⟩|⟨n,a,b,off,hk,ha,rfl,hs⟩|⟨n,a,x,b,off,k,hk,ha,rfl,hs⟩
 ·refine .run hw ?_ ?_
  ·cases hk:o.k<;>rw[hk]at hp<;>first|(cases hp;done)|trivial
  ·rw[zP hp (G':=λz=>g[z]?) (N':=g.length)]at hs;have:=nL hs;cases hk:o.k<;>rw[hk]at hp this<;>first|(cases hp;done)|exact this
 ·rw[hk]at hs;rw[zV ha (G':=λz=>g[z]?) (N':=g.length) (hb b rfl).symm]at hs;exact JM
 ·rw[hk]at hs;rw[wZ ha (G':=λz=>g[z]?) (N':=g.length) (hb b rfl).symm]at hs;exact JM
def AN:List bI->TS->ah->List Acc->TS->Prop
 |[],ts,_,cs,ts'=>cs=[]/\ts' =ts
 |o::r,ts,h,cs,ts'=>∃v c cs1,wM o ts h v c/\cs=c::cs1/\AN r (put ts o.dst v) h cs1 ts'
theorem AN.row{h}:∀{l}{ts ts'}{cs},AN l ts h cs ts'->∃T:Nat->TS,T 0=ts/\T l.length=ts'/\cs.length=l.length/\∀j o,l[j]? =some o->∃v c,cs[j]? =some c/\wM o (T j) h v c/\T (j+1)=put (T j) o.dst v
 |[],ts,ts',cs,hs=>by
  obtain⟨rfl,rfl⟩:=hs;exact⟨λ_=>ts',rfl,rfl,rfl,λj o ho=>by simp at ho⟩
 |o::r,ts,ts',cs,hs=>by
  obtain⟨v,c,cs1,bU,rfl,hr⟩:=hs;obtain⟨T,hT,Ti,hl,hrow⟩:=hr.row;refine⟨λi=>match i with| 0=>ts|i+1=>T i,rfl,Ti,by simp[hl],λj x hx=>?_⟩;cases j with
  |zero=>simp at hx;subst hx;exact⟨v,c,rfl,bU,hT⟩
  |succ j=>
   obtain⟨v',c',h1,h2,h3⟩:=hrow j x (by simpa using hx);exact⟨v',c',by simpa using h1,h2,h3⟩
def dP:ah->List Acc->ah
 |h,[]=>h
 |h,c::cs=>dP (c.app h) cs
def e8:List Acc->Prop
 |[]=>True
 |c::cs=>(∀b,c.dR=some b->∀x∈cs,x.dR=some b->∀k k',c=Acc.wr b k\/x=Acc.wr b k'->False)/\e8 cs
theorem e8.ne:∀{cs:List Acc},e8 cs->∀{i j b:Nat}{k:ak}{c:Acc},cs[i]? =some (.wr b k)->i≠j->cs[j]? =some c->c.dR≠some b
 |[],_,i,j,b,k,c,h1,_,_=>by simp at h1
 |x::xs,h,i,j,b,k,c,h1,hij,h2=>by
  intro hc;cases i with
  |zero=>
   simp at h1;subst h1;cases j with
   |zero=>exact hij rfl
   |succ j=>exact h.1 b rfl c (ZT (by simpa using h2)) hc k k (.inl rfl)
  |succ i=>
   cases j with
   |zero=>
    simp at h2;subst h2;exact h.1 b hc _ (ZT (by simpa using h1)) rfl k k (.inr rfl)
   |succ j=>exact e8.ne h.2 (i:=i) (j:=j) (by simpa using h1) Om (by simpa using h2) hc
def uy(h:ah)(c:Acc):(c.app h).length=h.length:=by cases c<;>simp[Acc.app]
def yl{h:ah}{c:Acc}{b:Nat}(hb:∀k,c=.wr b k->False):(c.app h)[b]? =h[b]? :=by
 cases c with
 |wr b' k=>
  have:b'≠b:=λe=>hb k (by rw[e])
  simp[Acc.app,Zc this]
 |_=>rfl
theorem pI:∀{cs:List Acc}{h:ah}{b:Nat},(∀(j:Nat) (k:ak),cs[j]? =some (Acc.wr b k)->False)->(dP h cs)[b]? =h[b]?
 |[],h,b,_=>rfl
 |c::cs,h,b,hb=>by
  rw[dP,pI (λj k hj=>hb (j+1) k (by simpa using hj))];exact yl λk hk=>hb 0 k (by simp[hk])
theorem tL:∀{cs:List Acc}{h:ah},e8 cs->∀{j b:Nat}{k:ak},b<h.length->cs[j]? =some (.wr b k)->(dP h cs)[b]? =some k
 |[],h,_,j,b,k,_,hj=>by simp at hj
 |c::cs,h,ho,j,b,k,hb,hj=>by
  cases j with
  |zero=>
   simp at hj;subst hj;rw[dP,pI (λj k' hj=>e8.ne ho (i:=0) (j:=j+1) (b:=b) (k:=k) rfl Om (by simpa using hj) rfl)];simp[Acc.app,hb]
  |succ j=>
   rw[dP];exact tL ho.2 (by rw[uy];exact hb) (by simpa using hj)
structure zq(h:ah)(cs:List Acc)(S:Nat->Bool)(g:ah):Prop where
 len:g.length=h.length
 wr:∀j b k,S j=true->cs[j]? =some (.wr b k)->g[b]? =some k
 ne:∀b,(∀j k,S j=true->cs[j]? =some (.wr b k)->False)->g[b]? =h[b]?
def zq.all{h g:ah}{cs:List Acc}{S:Nat->Bool}(H:zq h cs S g)(ho:e8 cs)(hS:∀j c,cs[j]? =some c->S j=true):g=dP h cs:=by
 apply abd
 intro b;by_cases hx:∃(j:Nat) (k:ak),cs[j]? =some (Acc.wr b k)
 ·obtain⟨j,k,hj⟩:=hx;have h1:=H.wr j b k (hS j _ hj) hj;have:b<h.length:=by rw[<-H.len];exact(YQ.1 h1).1
  rw[h1,tL ho this hj]
 ·rw[H.ne b λj k _ hj=>hx ⟨j,k,hj⟩,pI λj k hj=>hx ⟨j,k,hj⟩]
def tV{P:Program}(hmix:P.follows .mixedOrders=true){ops:Array Oper}{l:List bI}(hed:kJ (Region.before ops) ops=true)(hsl:lV (Region.before ops) ops=true)
  (hc:eO (λ_ o=>bT P ops false o) ops.toList 0=some l) {ts ts':TS}{h:ah}{cs:List Acc}(hs:AN l ts h cs ts') (hok:e8 cs) {m:b9}{a:Act}{w:World}
  (st:St P m ts h a w) (ro:Option Nat) (Q:Exit->Act->World->Prop) (hQ:∀m' a' w',St P m' ts' (dP h cs) a' w'->Grow m h w m' (dP h cs) w'->a'.defers=a.defers->Q .normal a' w') (id:Nat):
  (Code.region id ops true).wpIn (Fd ro) 0 P Q a w:=by
 refine wpIn_region_any hmix ?_;obtain⟨T,rfl,rfl,hcl0,hrow⟩:=hs.row;obtain⟨R2,RP⟩:=gf hc;simp only[aa4]at R2;have VM:∀(j:Nat) (io:bI),l[j]? =some io->∃o,ops[j]? =some o/\bT P ops false o=some io:=λj io hj=>by
  exact NC
 have SV:∀(j:Nat) (io:bI) (d:Nat),l[j]? =some io->io.dst=some d->∃o,ops[j]? =some o/\o.dst=some d:=λj io d hj hd=>by
  exact Nt
 have huniq:∀(i j:Nat) (oi oj:bI) (d:Nat),l[i]? =some oi->l[j]? =some oj->oi.dst=some d->oj.dst=some d->i=j:=λi j oi oj d hi hj h1 h2=>by
  exact NF
 have hTl:∀j,j<=l.length->(T j).length=(T 0).length:=by
  intro j
  induction j with
  |zero=>intro _;rfl
  |succ j ih=>
   intro hj;obtain⟨v,c,_,_,hv⟩:=hrow j _ (YU (show j<l.length by omega));rw[hv,nf];exact ih Om
 have RX:∀x y t,x<=y->y<=l.length->(∀(j:Nat) (o:bI),x<=j->j<y->l[j]? =some o->o.dst≠some t)->(T y).getD t az=(T x).getD t az:=by
  intro x y t hxy hy hno;have:=uJ (T:=T) (t:=t) (a:=x) (y-x) (λj h1 h2=>by
   have hj:l[j]? =some (l[j]'Om):=YU Om;obtain⟨v,c,_,_,hv⟩:=hrow j _ hj;exact⟨_,v,hv,hno j _ h1 Om hj⟩)
  rwa [show x+(y-x)=y from by omega]at this
 have hdone:∀(listed:Array Bool) (g:ah) (a1:Act) (w1:World),(∀i,i<ops.size->listed.getD i false=true)->zq h cs (λj=>listed.getD j false) g->HR P m g w1->Grow m h w m g w1->a1.tmps.size=(T 0).length->
   (∀(d:Nat),(∀(j:Nat) (o:bI),l[j]? =some o->listed.getD j false=true->o.dst≠some d)->VR m ((T 0).getD d az) (a1.tmps.getD d undef))->
   (∀(d j:Nat) (o:bI),l[j]? =some o->listed.getD j false=true->o.dst=some d->VR m ((T (j+1)).getD d az) (a1.tmps.getD d undef))->a1.defers=a.defers->Q .normal a1 w1:=by
  intro listed g a1 w1 hall H hr hg ep h1 h2 hd;have e:=H.all hok λj c hj=>hall j (by have:=(YQ.1 hj).1;omega)
  subst e;refine hQ m a1 w1 ⟨hr,cI.iA ?_ ?_⟩ hg hd
  ·exact z145
  ·intro t x hx;exact QU
 have key:∀(fuel:Nat) (listed:Array Bool) (g:ah) (a1:Act) (w1:World),listed.size=ops.size->qM listed ops.size<=fuel->
   (∀j x,listed.getD j false=true->x<ops.size->ahead (Region.before ops) x j=true->listed.getD x false=true)->
   zq h cs (λj=>listed.getD j false) g->HR P m g w1->Grow m h w m g w1->a1.tmps.size=(T 0).length->
   (∀(d:Nat),(∀(j:Nat) (o:bI),l[j]? =some o->listed.getD j false=true->o.dst≠some d)->VR m ((T 0).getD d az) (a1.tmps.getD d undef))->
   (∀(d j:Nat) (o:bI),l[j]? =some o->listed.getD j false=true->o.dst=some d->VR m ((T (j+1)).getD d az) (a1.tmps.getD d undef))->a1.defers=a.defers->wpAnyIn (Fd ro) 0 P .any ops Q fuel listed a1 w1:=by
  intro fuel
  induction fuel with
  |zero=>
   intro listed g a1 w1 R0 hu hcl H hr hg ep h1 h2 hd;have hall:=lA ops.size (show qM listed ops.size=0 by omega);exact⟨l9 R0 hall,hdone listed g a1 w1 hall H hr hg ep h1 h2 hd⟩
  |succ fuel ih=>
   intro listed g a1 w1 R0 hu hcl H hr hg ep h1 h2 hd;refine⟨λhrn=>hdone listed g a1 w1 (lZ hed R0 hrn) H hr hg ep h1 h2 hd,λi hi=>?_⟩;obtain⟨o,ho,Ss,WY⟩:=(jo R0).1 hi;have hin:i<ops.size:=(Ze.1 ho).1;obtain⟨io,hio,RU⟩:=RP i o (by simpa using ho);obtain⟨v,c,hci,bU,hTi⟩:=hrow i io hio;have hahead:∀x,x<ops.size->ahead (Region.before ops) x i=true->listed.getD x false=true:=λx hx ha=>by
    exact M8
   have TR:∀j x,(listed.setIfInBounds i true).getD j false=true->x<ops.size->ahead (Region.before ops) x j=true->(listed.setIfInBounds i true).getD x false=true:=by
    intro j x hj hx ha;exact M7
   have Vp:qM (listed.setIfInBounds i true) ops.size<=fuel:=by
    exact z76
   have hslot:∀t,t∈o.looksAt ops->VR m ((T i).getD t az) (a1.tmps.getD t undef):=by
    intro t ht;exact z12
   have Uc:∀b,c.dR=some b->g[b]? =h[b]? :=λb hb=>H.ne b λj k hj XD=>by
    by_cases e1:j=i
    ·subst e1
     try simp only at hj
     rw[Ss]at hj;cases hj
    ·exact e8.ne hok XD e1 hci hb
   refine fw ho RU hr.gv hr (by rw[ep,hTl i Om]) hslot (bU.run (P:=P) Uc) ro _ Q ?_;intro cv v' m' w' Ti Tk hr' R6;have Sh:io.dst=o.dst:=(dw RU).1;have hm:m' =m:=by
    funext b;by_cases hb:b<g.length
    ·exact R6.ext b hb
    ·have e1:m b=none:=by
      cases hx:m b with
      |none=>rfl
      |some e=>exact absurd (hr.cK b e hx) hb
     have e2:m' b=none:=by
      cases hx:m' b with
      |none=>rfl
      |some e=>exact absurd (by have:=hr'.cK b e hx;rwa [uy]at this) hb
     rw[e1,e2]
   subst hm;have hlt:(listed.setIfInBounds i true).getD i false=true:=by rw[c6 Om,Zb rfl]
   have hne:∀j,j≠i->(listed.setIfInBounds i true).getD j false=listed.getD j false:=λj hj=>by rw[c6 Om,Y6 hj]
   have UP:(a1.put o.dst cv).tmps=gR a1.tmps o.dst cv:=by cases o.dst<;>rfl
   refine ih _ (c.app g) (a1.put o.dst cv) w' (by simp[R0]) Vp TR ⟨by rw[uy];exact H.len,?_,?_⟩ hr' (hg.trans R6 st.hr.cK) (by rw[UP,e9];exact ep) ?_ ?_ (by rw[put_defers];exact hd)
   ·intro j b k hj XD
    try simp only at hj
    by_cases e1:j=i
    ·subst e1;rw[hci]at XD;cases XD;have:b<g.length:=by
      by_cases hb:b<g.length
      ·exact hb
      ·have e:=Uc b rfl;rcases bU with⟨_,h,_⟩|⟨_,hs3⟩
       ·cases h
       rcases hs3 with⟨_,h,_⟩|⟨_,_,_,_,_,_,h,_⟩|⟨n,aa,x,b',off,k',hk,ha,h,hs3⟩
       ·cases h
       ·cases h
       ·cases h;rw[hk]at hs3;rw[aaR Om]at e;simp only[stepT,nv,ha,<-e]at hs3;cases hs3
     simp[Acc.app,this]
    ·rw[hne j e1]at hj;rw[yl λk' hk'=>by
      subst hk';exact e8.ne hok XD e1 hci rfl]
     exact H.wr j b k hj XD
   ·intro b hb;rw[yl λk' hk'=>hb i k' hlt (by rw[hci,hk'])];exact H.ne b λj k hj XD=>by
     try simp only at hj
     exact hb j k (by
      show(listed.setIfInBounds i true).getD j false=true;by_cases e1:j=i
      ·subst e1;exact hlt
      ·rw[hne j e1];exact hj) XD
   ·intro d hdn;have TL:o.dst≠some d:=by rw[<-Sh];exact hdn i io hio hlt
    rw[UP,dD TL];refine h1 d λj oj hj hl=>hdn j oj hj ?_
    exact M4
   ·intro d j oj hj hl Uu;by_cases e1:j=i
    ·subst e1;rw[hio]at hj;cases hj;rw[hTi,UP,<-Sh,Uu];have hvv:put (T j) (some d) v=put (T j) (some d) v':=by
      have:=Ti;rw[<-Sh,Uu]at this;exact this
     rw[hvv];exact lF (by rw[ep,hTl j Om]) Tk
    ·have TL:o.dst≠some d:=λhx=>by
      exact G6
     rw[UP,dD TL];rw[hne j e1]at hl;exact h2 d j oj hj hl Uu
 have RO:∀j,(Array.replicate ops.size false).getD j false=false:=λj=>by
  exact z70
 refine key ops.size (Array.replicate ops.size false) h a _ Si ?_ (λj x hj _ _=>by simp[RO j]at hj) ⟨rfl,λj b k hj _=>by simp[RO j]at hj,λb _=>rfl⟩ st.hr.drew (Grow.refl m _ w st.hr.cK).drew ?_ (λd _=>nP st.ts d) (λd j o _ hj _=>by simp[RO j]at hj) rfl
 ·exact M9
 ·exact Du
theorem Ev.sf{P ro}(hmix:P.follows .mixedOrders=true){l ts ts' h cs}(hs:AN l ts h cs ts')(hok:e8 cs):Ev P ro (.sf l) ts h .normal ts' (dP h cs):=by
 refine Ev.of λcc hns hc m a w lo hlo st hm Q hQ=>?_
 cases cc with
 |region id ops draw=>
  rcases dV (by simpa only[compile]using hc)with⟨l',h1,hl⟩|⟨l',h1,hd,⟨l2,hl2⟩,hz⟩|⟨_,h1,_⟩<;>cases h1
  subst hd;simp only[cM,Zi]at hl2;split at hl2
  case isFalse=>cases hl2
  rename_i Sj;simp only[Zx]at Sj;exact tV hmix Sj.1 Sj.2 hz hs hok st ro Q (λm' a' w' s g d=>hQ m' a' w' s g (by rw[d];exact hm.grow g st.hr.cK)) id
 |scope a=>exact absurd rfl (hns a)
 |block id a=>simp[compile]at hc
 |loop a=>simp[compile]at hc
 |_=>
  exact Ba
def C8(cs:List Acc):Acc->List Acc
 |.no=>cs
 |c=>cs++[c]
def AH{cs c}(hc:c≠.no):C8 cs c=cs++[c]:=by cases c<;>first|exact absurd rfl hc|rfl
def AX(h:ah):List bI->TS->List Acc->(TS->List Acc->Prop)->Prop
 |[],ts,cs,K=>K ts cs
 |o::r,ts,cs,K=>∃v c,wM o ts h v c/\AX h r (put ts o.dst v) (C8 cs c) K
theorem pH:∀{a b c},(∀x∈b,x=Acc.no)->e8 (a++c)->e8 (a++b++c)
 |[],[],c,_,h=>h
 |[],x::b,c,hb,h=>by
  have hx:=hb x Si;subst hx;exact⟨λn hn=>by(cases hn),by simpa using pH (a:=[]) (b:=b) (λy hy=>hb y (ZG _ hy)) h⟩
 |x::a,b,c,hb,h=>by
  refine⟨λn hn y hy hyn k k' hk=>?_,pH (a:=a) hb h.2⟩;rcases YZ.1 hy with hy|hy
  ·rcases YZ.1 hy with hy|hy
   ·exact h.1 n hn y (YZ.2 (.inl hy)) hyn k k' hk
   ·rw[hb y hy]at hyn;cases hyn
  ·exact h.1 n hn y (YZ.2 (.inr hy)) hyn k k' hk
theorem AX.sound{h}:∀{l}{ts}{cs}{K},AX h l ts cs K->∃UK YN ts',AN l ts h UK ts'/\K ts' (cs++YN)/\(∀(a c:List Acc),e8 (a++YN++c)->e8 (a++UK++c))/\(∀g,dP g UK=dP g YN)
 |[],ts,cs,K,H=>⟨[],[],ts,⟨rfl,rfl⟩,by rw[Zr];exact H,λ_ _ h=>h,λ_=>rfl⟩
 |o::r,ts,cs,K,H=>by
  obtain⟨v,c,h1,H⟩:=H;obtain⟨UK,YN,ts',h2,h3,h4,h5⟩:=AX.sound (l:=r) H;by_cases hc:c=.no
  ·subst hc;refine⟨.no::UK,YN,ts',⟨v,.no,UK,h1,rfl,h2⟩,h3,λa d hd=>?_,λg=>h5 g⟩;have:=pH (a:=a) (b:=[.no]) (c:=UK++d) Si (by simpa using h4 a d hd)
   simpa using this
  ·rw[AH hc]at h3;refine⟨c::UK,c::YN,ts',⟨v,c,UK,h1,rfl,h2⟩,by simpa using h3,λa d hd=>?_,λg=>by rw[dP,dP,h5]⟩;have:=h4 (a++[c]) d (by simpa using hd)
   simpa using this
theorem AX.mono{h}:∀{l}{ts}{cs}{K K'},AX h l ts cs K->(∀ts' cs',K ts' cs'->K' ts' cs')->AX h l ts cs K'
 |[],ts,cs,K,K',H,hk=>hk _ _ H
 |o::r,ts,cs,K,K',H,hk=>by
  obtain⟨v,c,h1,H⟩:=H;exact⟨v,c,h1,AX.mono (l:=r) H hk⟩
end Go.Abs
