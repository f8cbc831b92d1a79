/- A part of the proof that HouseSessions holds. No condition. -/
import Derived.Test.YtgplmdgpmbegiaaGreatDoorSe2
import Derived.RangeFuncRecord
import Derived.Test.YtgplmdgpmbegiaaGreatDoorSe0
set_option maxHeartbeats 4000000
set_option linter.all false
open Nat (reduceAdd reduceMul reduceLeDiff reduceEqDiff)
namespace Go.Abs
def rq(listed:Array Bool):Nat->Nat
 | 0=>0
 |n+1=>rq listed n+(if listed.getD n false then 0 else 1)
def dw{listed:Array Bool}{i j:Nat}(hi:i<listed.size):(listed.setIfInBounds i true).getD j false=(if j=i then true else listed.getD j false):=by
 by_cases h:j=i
 ·subst h;simp[aaB,aa4 hi]
 ·rw[ZW h];simp[aaB,aby (abe h)]
theorem BQ{listed:Array Bool}{i:Nat}(hi:i<listed.size):∀n,n<=i->rq (listed.setIfInBounds i true) n=rq listed n
 | 0,_=>rfl
 |n+1,h=>by
  simp only[rq];rw[BQ hi n Om,dw hi,ZW (by omega:¬n=i)]
theorem BP{listed:Array Bool}{i:Nat}(hi:i<listed.size)(hn:listed.getD i false=false):∀n,i<n->rq (listed.setIfInBounds i true) n+1=rq listed n
 | 0,h=>absurd h Om
 |n+1,h=>by
  simp only[rq];rw[dw hi];by_cases e:n=i
  ·subst e;rw[BQ hi n (Z0 _),ZY rfl,hn];simp
  ·rw[ZW e];have:=BP hi hn n Om;omega
theorem lS{listed}:∀n,rq listed n=0->∀i,i<n->listed.getD i false=true
 | 0,_,i,hi=>absurd hi Om
 |n+1,h,i,hi=>by
  simp only[rq]at h;by_cases e:i=n
  ·subst e;cases hl:listed.getD i false with
   |true=>rfl
   |false=>rw[hl]at h;simp at h
  ·exact lS n Om i Om
def cw.dY(m:cw)(n:Nat):cw:=λb=>if b<n then m b else none
def cw.patch(m1 m:cw)(n:Nat):cw:=λb=>if b<n then m1 b else m b
mutual
theorem VR.cut{ma m n}(hd:∀b e,ma b=some e->b<n):∀(x:AV) (va v:Value),VR ma x va->VR m x v->VR (m.dY n) x v
 |.bool _,_,_,_,hv=>hv
 |.int _ _,_,_,_,hv=>hv
 |.yc _ _,_,_,_,hv=>hv
 |.xP _ _ _,_,_,_,hv=>hv
 |.str _,_,_,_,hv=>hv
 |.ptr b o,va,v,ha,hv=>by
  exact Lm
 |.nilPtr,_,_,_,hv=>hv
 |.slice b o n' es,va,v,ha,hv=>by
  rw[VR]at ha hv ⊢;obtain⟨e,_,_,he,_⟩:=ha;obtain⟨e',ca,cap,TG,hv⟩:=hv;exact⟨e',ca,cap,by unfold cw.dY;rw[ZY (hd _ _ he)];exact TG,hv⟩
 |.af,_,_,_,hv=>hv
 |.map r,va,v,ha,hv=>by
  exact Lm
 |.dF,_,_,_,hv=>hv
 |.func f a c,va,v,ha,hv=>by
  rw[VR]at ha hv ⊢;obtain⟨f1,a1,c1,_,V6,ha1,hc1⟩:=ha;obtain⟨f2,a2,c2,hv,Vf,ha2,Yv⟩:=hv;refine⟨f2,a2,c2,hv,?_,cQ.cut hd a _ _ ha1 ha2,cQ.cut hd c _ _ hc1 Yv⟩;cases f<;>simp only[BC]at V6 Vf ⊢<;>try exact Vf
  obtain⟨e,he,_⟩:=V6;obtain⟨e',TG,hg⟩:=Vf;exact⟨e',by unfold cw.dY;rw[ZY (hd _ _ he)];exact TG,hg⟩
 |.nilFunc,_,_,_,hv=>hv
 |.vB u a,va,v,ha,hv=>by
  rw[VR]at ha hv ⊢;obtain⟨v1,_,h1⟩:=ha;obtain⟨v2,hv,h2⟩:=hv;exact⟨v2,hv,VR.cut hd a _ _ h1 h2⟩
 |.la,_,_,_,hv=>hv
 |.agg l,va,v,ha,hv=>by
  exact Lb
 |.dz l,va,v,ha,hv=>by
  exact Lb
theorem cQ.cut{ma m n}(hd:∀b e,ma b=some e->b<n):∀(l:List AV) (va vs:List Value),cQ ma l va->cQ m l vs->cQ (m.dY n) l vs
 |[],_,_,_,hv=>hv
 |x::xs,va,vs,ha,hv=>by
  obtain⟨y1,ys1,_,a1,a2⟩:=aT.1 ha;obtain⟨y2,ys2,h,b1,b2⟩:=aT.1 hv;exact aT.2 ⟨y2,ys2,h,VR.cut hd x _ _ a1 b1,cQ.cut hd xs _ _ a2 b2⟩
end
def jI(n:Nat)(x:AV):Prop:=∃(ma:cw) (va:Value),(∀b e,ma b=some e->b<n)/\VR ma x va
def Nk(n:Nat)(l:List AV):Prop:=∃(ma:cw) (va:List Value),(∀b e,ma b=some e->b<n)/\cQ ma l va
def qH(n:Nat):an->Prop
 |.cells c _ _=>∀(i:Nat) (x:AV),c[i]? =some x->jI n x
 |.bu es=>∀(i:Nat) (p:AV×AV),es[i]? =some p->jI n p.1/\jI n p.2
 |.loop _ _ ts _ _ _=>Nk n ts
 |_=>True
def jI.mono{n k}(hnk:n<=k){x}(h:jI n x):jI k x:=by
 exact K7
theorem qH.mono{n k}(hnk:n<=k){x}(h:qH n x):qH k x:=by
 cases x with
 |cells c mu tl=>exactλi x hx=>(h i x hx).mono hnk
 |bu es=>exactλi p hp=>⟨(h i p hp).1.mono hnk,(h i p hp).2.mono hnk⟩
 |loop a b c d e f=>
  exact K7
 |_=>trivial
def BR.jI{P m w e k n}(h:BR P m w e k)(hd:∀b e,m b=some e->b<n):qH n k:=by
 cases k with
 |cells c mu tl=>
  obtain⟨cc,el,fz,_,_,h3,_⟩:=h;intro i x hx;obtain⟨_,v,_,hv⟩:=h3 i x hx;exact⟨m,v,hd,hv⟩
 |bu es=>
  obtain⟨_,UH,clock,_,_,h3⟩:=h;intro i p hp;obtain⟨q,_,h1,h2⟩:=h3 i p hp;exact⟨⟨m,_,hd,h1⟩,⟨m,_,hd,h2⟩⟩
 |loop st ex ts ps asg body=>
  obtain⟨_,fn,tmps,TD,S0,df,_,h2,_⟩:=h;exact⟨m,_,hd,h2⟩
 |_=>trivial
theorem BR.cut{P m w e k n}(h:BR P m w e k)(hc:qH n k):BR P (m.dY n) w e k:=by
 cases k with
 |cells c mu tl=>
  obtain⟨cc,el,fz,h1,h2,h3,h4⟩:=h;exact⟨cc,el,fz,h1,h2,λi x hx=>by
   obtain⟨ho,v,hv,hr⟩:=h3 i x hx;obtain⟨ma,va,hd,ha⟩:=hc i x hx;exact⟨ho,v,hv,VR.cut hd _ _ _ ha hr⟩,h4⟩
 |dead=>trivial
 |bu es=>
  obtain⟨ho,UH,clock,h1,h2,h3⟩:=h;exact⟨ho,UH,clock,h1,h2,λi p hp=>by
   obtain⟨q,hq,ha,hb⟩:=h3 i p hp;obtain⟨⟨ma,va,hd,X1⟩,⟨mb,vb,Td,hb'⟩⟩:=hc i p hp;exact⟨q,hq,VR.cut hd _ _ _ X1 ha,VR.cut Td _ _ _ hb' hb⟩⟩
 |iter s pos=>exact h
 |loop st ex ts ps asg body=>
  obtain⟨ho,fn,tmps,TD,S0,df,h1,h2,h3,h4⟩:=h;obtain⟨ma,va,hd,ha⟩:=hc;exact⟨ho,fn,tmps,TD,S0,df,h1,cQ.cut hd _ _ _ ha h2,h3,h4⟩
structure tn(P:Program)(l:List bN)(T:Nat->TS)(H:Nat->ah)(m0:cw)(w0:World)(S:Nat->Bool)(β θ:Nat)(m:cw)(ta:Array Value)(w:World):Prop where
 βθ:β<=θ
 θn:θ<=l.length
 low:∀j,j<β->S j=true
 high:∀j,S j=true->j<θ
 quiet:∀j,β<=j->j<θ->∃g,H (j+1)=H j++g
 len:∀j,j<θ->(H j).length<=(H (j+1)).length
 hr:HR P m (H θ) w
 N1:∀j,j<θ->S j=false->∀b,(H j).length<=b->b<(H (j+1)).length->m b=none
 jI:∀i,β<=i->i<=θ->∀b e k,b<(H i).length->m b=some e->(H θ)[b]? =some k->qH (H i).length k
 apart:∀j,β<=j->j<θ->∀b b' e e',(H j).length<=b->b<(H (j+1)).length->¬((H j).length<=b'/\b'<(H (j+1)).length)->m b=some e->m b' =some e'->e.cb≠e'.cb
 grow:Grow m0 (H 0) w0 m (H θ) w
 size:ta.size=(T 0).length
 zm:∀d,(∀j o,l[j]? =some o->S j=true->o.dst≠some d)->VR m0 ((T 0).getD d aA) (ta.getD d undef)
 zl:∀d j o,l[j]? =some o->S j=true->o.dst=some d->VR (m.dY (H (j+1)).length) ((T (j+1)).getD d aA) (ta.getD d undef)
theorem wM{H:Nat->ah}{θ:Nat}(h:∀j,j<θ->(H j).length<=(H (j+1)).length){i:Nat}:∀k,i+k<=θ->(H i).length<=(H (i+k)).length
 | 0,_=>Z0 _
 |k+1,hk=>aaz (wM h k Om) (h (i+k) Om)
def gh{H:Nat->ah}{θ:Nat}(h:∀j,j<θ->(H j).length<=(H (j+1)).length){i j:Nat}(hij:i<=j)(hj:j<=θ):(H i).length<=(H j).length:=by
 have:=wM h (i:=i) (j-i) Om
 rwa [show i+(j-i)=j from by omega]at this
theorem tL{H:Nat->ah}{β θ:Nat}(h:∀j,β<=j->j<θ->∃g,H (j+1)=H j++g){i:Nat}(hi:β<=i):∀k,i+k<=θ->∃g,H (i+k)=H i++g
 | 0,_=>⟨[],Si⟩
 |k+1,hk=>by
  obtain⟨g,hg⟩:=tL h hi k Om;obtain⟨g',SX⟩:=h (i+k) Om Om;exact⟨g++g',by rw[show i+(k+1)=i+k+1 from by omega,SX,hg,ZO]⟩
def nC{H:Nat->ah}{β θ:Nat}(h:∀j,β<=j->j<θ->∃g,H (j+1)=H j++g){i j:Nat}(hi:β<=i)(hij:i<=j)(hj:j<=θ):∃g,H j=H i++g:=by
 have:=tL h hi (j-i) Om
 rwa [show i+(j-i)=j from by omega]at this
theorem w7{H:Nat->ah}{i:Nat}:∀(k:Nat) {b:Nat},(H i).length<=b->b<(H (i+k)).length->∃j,i<=j/\j<i+k/\(H j).length<=b/\b<(H (j+1)).length
 | 0,b,h1,h2=>by simp at h2;omega
 |k+1,b,h1,h2=>by
  by_cases h:b<(H (i+k)).length
  ·obtain⟨j,a1,a2,a3⟩:=w7 k h1 h;exact⟨j,a1,Om,a3⟩
  ·exact⟨i+k,Om,Om,Om,by rw[show i+k+1=i+(k+1)from by omega];exact h2⟩
section
variable {P:Program}{m m1:cw}{h:ah}{w:World}
def cw.fN(m:cw)(n:Nat):(m.dY n).le m:=by
 intro b e hb;unfold cw.dY at hb;split at hb
 ·exact hb
 ·cases hb
def cw.Ay(m:cw){n k}(hnk:n<=k):(m.dY n).le (m.dY k):=by
 intro b e hb;unfold cw.dY at hb ⊢;split at hb
 ·rw[ZY Om];exact hb
 ·cases hb
theorem HR.dY{g}(hr:HR P m (h++g) w)(hgl:P.globals.size<=h.length)(hc:∀b e k,b<h.length->m b=some e->h[b]? =some k->qH h.length k):HR P (m.dY h.length) h w where
 cT:=λb e hb=>by unfold cw.dY at hb;split at hb<;>first|assumption|cases hb
 eO:=λb e k hb hk=>by
  unfold cw.dY at hb;split at hb
  case isFalse=>cases hb
  rename_i hlt;exact(hr.eO b e k hb (by rw[ZQ hlt];exact hk)).cut (hc b e k hlt hb hk)
 sep:=λb1 b2 e1 e2 k1 k2 hne h1 h2 hk1 Sy hcb=>by
  have d1:b1<h.length:=(ZM.1 hk1).1;have d2:b2<h.length:=(ZM.1 Sy).1;exact hr.sep b1 b2 e1 e2 k1 k2 hne (cw.fN m _ _ _ h1) (cw.fN m _ _ _ h2) (by rw[ZQ d1];exact hk1) (by rw[ZQ d2];exact Sy) hcb
 gS:=λg hg=>by
  obtain⟨e,he,hx⟩:=hr.gS g hg;exact⟨e,by unfold cw.dY;rw[ZY Om];exact he,hx⟩
 lt:=λb e hb=>hr.lt b e (cw.fN m _ _ _ hb)
def HR.He(hr:HR P m h w):P.globals.size<=h.length:=by
 by_cases hz:P.globals.size=0
 ·omega
 ·obtain⟨e,he,_⟩:=hr.gS (P.globals.size-1) Om;have:=hr.cT _ _ he;omega
variable {l:List bN}{T:Nat->TS}{H:Nat->ah}{m0:cw}{w0:World}{S:Nat->Bool}{β θ:Nat}{ta:Array Value}
def tn.raise(M:tn P l T H m0 w0 S β θ m ta w){θ':Nat}(h1:θ<=θ')(h2:θ'<=l.length)(hq:∀j,θ<=j->j<θ'->∃g,H (j+1)=H j++g):tn P l T H m0 w0 S β θ' m ta w:=by
 have Yj:∀j,β<=j->j<θ'->∃g,H (j+1)=H j++g:=λj hj XU=>by
  by_cases hx:j<θ
  ·exact M.quiet j hj hx
  ·exact hq j Om XU
 have hlen:∀j,j<θ'->(H j).length<=(H (j+1)).length:=λj hj=>by
  by_cases hx:j<θ
  ·exact M.len j hx
  ·obtain⟨g,hg⟩:=hq j Om hj;rw[hg];simp
 obtain⟨g,hg⟩:=nC Yj M.βθ h1 (Z0 _);have SG:∀b,b<(H θ).length->(H θ')[b]? =(H θ)[b]? :=λb hb=>by rw[hg,ZQ hb]
 have hdom:∀b e,m b=some e->b<(H θ).length:=M.hr.cT;refine⟨aaz M.βθ h1,h2,M.low,λj hj=>aaG (M.high j hj) h1,Yj,hlen,⟨?_,?_,?_,M.hr.gS,M.hr.lt⟩,?_,?_,?_,⟨M.grow.ext,gh hlen (aam _) (Z0 _),?_,?_,M.grow.size,M.grow.os,M.grow.out,M.grow.tape,M.grow.frame⟩,M.size,M.zm,M.zl⟩
 ·intro b e hb;have:=hdom b e hb;rw[hg];simp;omega
 ·intro b e k hb hk;exact M.hr.eO b e k hb (by rwa [SG b (hdom b e hb)]at hk)
 ·intro b1 b2 e1 e2 k1 k2 hne a1 a2 hk1 Sy hcb;exact M.hr.sep b1 b2 e1 e2 k1 k2 hne a1 a2 (by rwa [SG b1 (hdom _ _ a1)]at hk1) (by rwa [SG b2 (hdom _ _ a2)]at Sy) hcb
 ·intro j hj hs b hb hb';by_cases hx:j<θ
  ·exact M.N1 j hx hs b hb hb'
  ·cases TJ:m b with
   |none=>rfl
   |some e=>
    exact K2
 ·intro i hi hi' b e k hb TJ hk;rw[SG b (hdom b e TJ)]at hk;by_cases hx:i<=θ
  ·exact M.jI i hi hx b e k hb TJ hk
  ·have a2:=gh hlen (i:=θ) (j:=i) Om Om;exact(M.jI θ M.βθ (Z0 _) b e k (hdom b e TJ) TJ hk).mono a2
 ·intro j hj XU b b' e e' hb Ta hb' TJ Wz;by_cases hx:j<θ
  ·exact M.apart j hj hx b b' e e' hb Ta hb' TJ Wz
  ·exact K2
 ·intro b e hb TJ;obtain⟨ho,hc⟩:=M.grow.new b e hb TJ;refine⟨ho,hc.imp id ?_⟩;rintro⟨b0,e0,c1,c2,c3,c4,c5⟩;refine⟨b0,e0,c1,c2,c3,c4,?_⟩;have d0:b0<(H θ).length:=by
   cases hx:m0 b0 with
   |none=>rw[hx]at c1;cases c1
   |some e0'=>
    have:b0<(H 0).length:=by
     cases ht:(H 0)[b0]? with
     |none=>unfold fk at c4;rw[ht]at c4;cases c4
     |some k=>exact(ZM.1 ht).1
    exact aaG this (gh hlen (aam _) h1)
  unfold fk at c5 ⊢;rw[SG b0 d0];exact c5
 ·intro b hb ht;refine M.grow.tl b hb ?_;unfold fk at ht ⊢
  rwa [SG b (aaG hb (gh hlen (aam _) h1))]at ht
end
def iJ(ta:Array Value)(d:Option Nat)(cv:Value):Array Value:=
 match d with
 |some d=>ta.setIfInBounds d cv
 |none=>ta
def fK(ta:Array Value)(d:Option Nat)(cv:Value):(iJ ta d cv).size=ta.size:=by cases d<;>simp[iJ]
def dS{ta d cv t}(h:d≠some t):(iJ ta d cv).getD t undef=ta.getD t undef:=by
 cases d with
 |none=>rfl
 |some d=>
  have hne:d≠t:=λx=>h (by rw[x])
  simp[iJ,aaB,aby hne]
def yF{ts d v t}(h:d≠some t):(put ts d v).getD t aA=ts.getD t aA:=by
 cases d with
 |none=>rfl
 |some d=>
  have hne:d≠t:=λx=>h (by rw[x])
  simp[put,List.getD,Z4 hne]
def lV{m ts ta d v cv}(hs:ta.size=ts.length)(hv:VR m v cv):VR m ((put ts (some d) v).getD d aA) ((iJ ta (some d) cv).getD d undef):=by
 by_cases h:d<ts.length
 ·have h':d<ta.size:=Om
  simp only[put,iJ,List.getD,aaB];rw[Z8 h,aa4 h'];exact hv
 ·have h':¬d<ta.size:=Om
  simp only[put,iJ,List.getD,aaB];rw[abK (by simp;omega),abo (by simp;omega)];exact kL m
def mark(S:Nat->Bool)(i:Nat):Nat->Bool:=λj=>if j=i then true else S j
section
variable {P:Program}{l:List bN}{T:Nat->TS}{H:Nat->ah}{m0 m m1:cw}{w0 w w1:World}{S:Nat->Bool}{β θ i:Nat}{ta:Array Value}
def tn.cut(M:tn P l T H m0 w0 S β θ m ta w)(hG:P.globals.size<=(H 0).length)(hi:β<=i)(hi':i<=θ):HR P (m.dY (H i).length) (H i) w:=by
 obtain⟨g,hg⟩:=nC M.quiet hi hi' (Z0 _);have hr:HR P m (H i++g) w:=by rw[<-hg];exact M.hr
 refine hr.dY (aaz hG (gh M.len (aam _) hi')) ?_;intro b e k hb TJ hk;exact M.jI i hi hi' b e k hb TJ (by rw[hg,ZQ hb];exact hk)
def tn.G5(M:tn P l T H m0 w0 S β θ m ta w)(hG:P.globals.size<=(H 0).length)(hi:β<=i)(hi':i<θ)(hS:S i=false){io}(hio:l[i]? =some io)
  (hr1:HR P m1 (H (i+1)) w1) (gext:∀b,b<(H i).length->m1 b=(m.dY (H i).length) b) (hnew0:∀b e,(H i).length<=b->m1 b=some e->e.own=true/\w0.heap.size<=e.cb/\∀b' e',m b' =some e'->e'.cb≠e.cb)
  (hfr:∀x,x<w.heap.size->(∀b e,(m.dY (H i).length) b=some e->e.own=true->e.cb≠x)->(∀b e,(H i).length<=b->m1 b=some e->e.cb≠x)->w1.heap[x]? =w.heap[x]?)
  (fj:w.heap.size<=w1.heap.size) (hos:w1.os=w.os) (hout:w1.output=w.output) (htape:w1.tape=w.tape) {v}{cv}(hv:VR m1 v cv) (hTi:T (i+1)=put (T i) io.dst v) (hTl:(T i).length=(T 0).length)
  (huniq:∀j o d,j≠i->l[j]? =some o->o.dst=some d->io.dst≠some d):tn P l T H m0 w0 (mark S i) β θ (m1.patch m (H (i+1)).length) (iJ ta io.dst cv) w1:=by
 have T9:∀a b,a<=b->b<=θ->(H a).length<=(H b).length:=λa b hab hb=>gh M.len hab hb
 have hi1:=M.len i hi';have hi2:=T9 (i+1) θ Om (Z0 _);have h0i:=T9 0 i Om Om;obtain⟨gi,hgi⟩:=M.quiet i hi hi';obtain⟨gt,VP⟩:=nC M.quiet (show β<=i+1 by omega) (show i+1<=θ by omega) (Z0 _);have f3:∀b,b<(H (i+1)).length->(m1.patch m (H (i+1)).length) b=m1 b:=λb hb=>by unfold cw.patch;rw[ZY hb]
 have f1:∀b,b<(H i).length->(m1.patch m (H (i+1)).length) b=m b:=λb hb=>by
  rw[f3 b Om,gext b hb];unfold cw.dY;rw[ZY hb]
 have f2:∀b,(H (i+1)).length<=b->(m1.patch m (H (i+1)).length) b=m b:=λb hb=>by unfold cw.patch;rw[ZW Om]
 have fgap:∀b,(H i).length<=b->b<(H (i+1)).length->m b=none:=M.N1 i hi' hS;have U5:m.le (m1.patch m (H (i+1)).length):=λb e hb=>by
  by_cases h1:b<(H i).length
  ·rw[f1 b h1];exact hb
  ·by_cases h2:b<(H (i+1)).length
   ·rw[fgap b Om h2]at hb;cases hb
   ·rw[f2 b Om];exact hb
 have m1le:m1.le (m1.patch m (H (i+1)).length):=λb e hb=>by rw[f3 b (hr1.cT b e hb)];exact hb
 have hnew:∀b e,(H i).length<=b->b<(H (i+1)).length->(m1.patch m (H (i+1)).length) b=some e->e.own=true/\w0.heap.size<=e.cb/\∀b' e',m b' =some e'->e'.cb≠e.cb:=λb e hb hb' hm=>by
  rw[f3 b hb']at hm;exact hnew0 b e hb hm
 have hold:∀b e,m b=some e->e.cb<w.heap.size:=M.hr.lt;have hframe:∀b e,(H (i+1)).length<=b->m b=some e->w1.heap[e.cb]? =w.heap[e.cb]? :=λb e hb hm=>by
  refine hfr e.cb (hold b e hm) ?_ (λb0 e0 h0 h1 hcb=>(hnew0 b0 e0 h0 h1).2.2 b e hm hcb.symm);intro b0 e0 h0 ho hcb;have d0:b0<(H i).length:=by
   unfold cw.dY at h0;split at h0
   ·assumption
   ·cases h0
  obtain⟨j,j1,j2,j3,j4⟩:=w7 (H:=H) (i:=i+1) (θ-(i+1)) hb (by rw[show i+1+(θ-(i+1))=θ from by omega];exact M.hr.cT b e hm);have hj:=T9 i j Om Om;exact M.apart j Om Om b b0 e e0 j3 j4 (λx=>by omega) hm (cw.fN m _ _ _ h0) hcb.symm
 have SG:∀b,b<(H (i+1)).length->(H θ)[b]? =(H (i+1))[b]? :=λb hb=>by rw[VP,ZQ hb]
 have SM:∀b e,(m1.patch m (H (i+1)).length) b=some e->((H i).length<=b/\b<(H (i+1)).length/\m1 b=some e)\/(¬((H i).length<=b/\b<(H (i+1)).length)/\m b=some e):=λb e hb=>by
  by_cases h1:b<(H i).length
  ·rw[f1 b h1]at hb;exact .inr ⟨Om,hb⟩
  ·by_cases h2:b<(H (i+1)).length
   ·rw[f3 b h2]at hb;exact .inl ⟨Om,h2,hb⟩
   ·rw[f2 b Om]at hb;exact .inr ⟨Om,hb⟩
 have hHR:HR P (m1.patch m (H (i+1)).length) (H θ) w1:=by
  refine⟨?_,?_,?_,?_,?_⟩
  ·intro b e hb;rcases SM b e hb with⟨_,h2,_⟩|⟨_,h2⟩
   ·omega
   ·exact M.hr.cT b e h2
  ·intro b e k hb hk;by_cases h2:b<(H (i+1)).length
   ·rw[f3 b h2]at hb;exact(hr1.eO b e k hb (by rwa [SG b h2]at hk)).mono m1le
   ·rw[f2 b Om]at hb;exact((M.hr.eO b e k hb hk).mono U5).heap (hframe b e Om hb)
  ·intro b1 b2 e1 e2 k1 k2 hne Ta To hk1 Sy hcb;rcases SM b1 e1 Ta with⟨a1,a2,a3⟩|⟨a1,a2⟩
   ·rcases SM b2 e2 To with⟨c1,c2,c3⟩|⟨c1,c2⟩
    ·exact hr1.sep b1 b2 e1 e2 k1 k2 hne a3 c3 (by rwa [SG b1 a2]at hk1) (by rwa [SG b2 c2]at Sy) hcb
    ·exact absurd hcb.symm ((hnew b1 e1 a1 a2 Ta).2.2 b2 e2 c2)
   ·rcases SM b2 e2 To with⟨c1,c2,c3⟩|⟨c1,c2⟩
    ·exact absurd hcb ((hnew b2 e2 c1 c2 To).2.2 b1 e1 a2)
    ·exact M.hr.sep b1 b2 e1 e2 k1 k2 hne a2 c2 hk1 Sy hcb
  ·intro g hg;obtain⟨e,he,hx⟩:=M.hr.gS g hg;exact⟨e,U5 _ _ he,hx⟩
  ·intro b e hb;rcases SM b e hb with⟨_,_,h3⟩|⟨_,h2⟩
   ·exact hr1.lt b e h3
   ·exact aaG (hold b e h2) fj
 refine⟨M.βθ,M.θn,?_,?_,M.quiet,M.len,hHR,?_,?_,?_,?_,by rw[fK];exact M.size,?_,?_⟩
 ·intro j hj;unfold mark;split
  ·rfl
  ·exact M.low j hj
 ·intro j hj;unfold mark at hj;split at hj
  ·omega
  ·exact M.high j hj
 ·intro j hj hs b hb hb';unfold mark at hs;split at hs
  ·cases hs
  rename_i hji;by_cases h1:b<(H i).length
  ·rw[f1 b h1];exact M.N1 j hj hs b hb hb'
  ·by_cases h2:b<(H (i+1)).length
   ·exact Le
   ·rw[f2 b Om];exact M.N1 j hj hs b hb hb'
 ·intro i2 hi2' Yo b e k hb TJ hk;rcases SM b e TJ with⟨a1,a2,a3⟩|⟨_,a2⟩
  ·have hk':(H (i+1))[b]? =some k:=by rwa [SG b a2]at hk
   refine((hr1.eO b e k a3 hk').jI hr1.cT).mono ?_;by_cases hlt:i2<i+1
   ·have:=T9 i2 i Om Om;omega
   ·exact T9 (i+1) i2 Om Yo
  ·exact M.jI i2 hi2' Yo b e k hb a2 hk
 ·intro j hj XU b b' e e' hb Ta hb' TJ Wz;rcases SM b e TJ with⟨a1,a2,a3⟩|⟨a1,a2⟩
  ·rcases SM b' e' Wz with⟨c1,c2,c3⟩|⟨c1,c2⟩
   ·exfalso;by_cases hji:j=i
    ·subst hji;exact hb' ⟨c1,c2⟩
    ·exact Le
   ·exactλhcb=>(hnew b e a1 a2 TJ).2.2 b' e' c2 hcb.symm
  ·rcases SM b' e' Wz with⟨c1,c2,c3⟩|⟨c1,c2⟩
   ·exact(hnew b' e' c1 c2 Wz).2.2 b e a2
   ·exact M.apart j hj XU b b' e e' hb Ta hb' a2 c2
 ·refine⟨λb hb=>(f1 b Om).trans (M.grow.ext b hb),M.grow.len,?_,M.grow.tl,aaz M.grow.size fj,hos.trans M.grow.os,hout.trans M.grow.out,htape.trans M.grow.tape,?_⟩
  ·intro b e hb TJ;rcases SM b e TJ with⟨a1,a2,_⟩|⟨_,a2⟩
   ·obtain⟨ho,hc⟩:=hnew b e a1 a2 TJ;exact⟨ho,.inl hc.1⟩
   ·exact M.grow.new b e hb a2
  ·intro x hx hno;refine(hfr x (aaG hx M.grow.size) ?_ (λb e hb hm hcb=>by have:=(hnew0 b e hb hm).2.1;omega)).trans (M.grow.frame x hx hno);intro b e hb ho hcb;have TJ:=cw.fN m _ _ _ hb;by_cases h1:b<(H 0).length
   ·exact hno b e (by rw[<-M.grow.ext b h1];exact TJ) ho hcb
   ·obtain⟨_,hc⟩:=M.grow.new b e Om TJ;rcases hc with hc|⟨b0,e0,c1,c2,c3,_⟩
    ·omega
    ·exact hno b0 e0 c1 c3 (c2.trans hcb)
 ·intro d hd;exact Lp
 ·intro d j o hj hs ho;by_cases hji:j=i
  ·subst hji;rw[hio]at hj;cases hj;rw[hTi,ho];have h1:m1.le ((m1.patch m (H (j+1)).length).dY (H (j+1)).length):=λb e hb=>by
    have:=hr1.cT b e hb;unfold cw.dY;rw[ZY this,f3 b this];exact hb
   exact Kn
  ·exact Rl
def tn.next(M:tn P l T H m0 w0 S β θ m ta w)(hG:P.globals.size<=(H 0).length)(hi:β<=i)(hi':i<θ)(hS:S i=false){io}(hio:l[i]? =some io)
  (hr1:HR P m1 (H (i+1)) w1) (g1:Grow (m.dY (H i).length) (H i) w m1 (H (i+1)) w1) {v}{cv}(hv:VR m1 v cv) (hTi:T (i+1)=put (T i) io.dst v) (hTl:(T i).length=(T 0).length)
  (huniq:∀j o d,j≠i->l[j]? =some o->o.dst=some d->io.dst≠some d):tn P l T H m0 w0 (mark S i) β θ (m1.patch m (H (i+1)).length) (iJ ta io.dst cv) w1:=by
 obtain⟨gi,hgi⟩:=M.quiet i hi hi';refine M.G5 hG hi hi' hS hio hr1 g1.ext (λb e hb hm=>?_) (λx hx h1 _=>g1.frame x hx h1) g1.size g1.os g1.out g1.tape hv hTi hTl huniq;obtain⟨ho,hc⟩:=g1.new b e hb hm;have T2:w.heap.size<=e.cb:=by
  rcases hc with hc|⟨b0,e0,c1,_,_,c4,c5⟩
  ·exact hc
  ·have d0:b0<(H i).length:=by
    unfold cw.dY at c1;split at c1
    ·assumption
    ·cases c1
   unfold fk at c4 c5;rw[hgi,ZQ d0]at c5;rw[c5]at c4;cases c4
 exact⟨ho,aaz M.grow.size T2,λb' e' hb'=>by have:=M.hr.lt b' e' hb';omega⟩
def tn.jump(M:tn P l T H m0 w0 S β i m ta w)(hd0:∀b e,m0 b=some e->b<(H 0).length)(hall:∀j,j<i->S j=true)(hil:i<l.length){io}(hio:l[i]? =some io)
  (hr1:HR P m1 (H (i+1)) w1) (g1:Grow (m.dY (H i).length) (H i) w m1 (H (i+1)) w1) {v}{cv}(hv:VR m1 v cv) (hTi:T (i+1)=put (T i) io.dst v) (hTl:(T i).length=(T 0).length)
  (huniq:∀j o d,j≠i->l[j]? =some o->o.dst=some d->io.dst≠some d):tn P l T H m0 w0 (mark S i) (i+1) (i+1) m1 (iJ ta io.dst cv) w1:=by
 have hm:m.dY (H i).length=m:=by
  funext b;unfold cw.dY;split
  ·rfl
  ·cases hb:m b with
   |none=>rfl
   |some e=>exact absurd (M.hr.cT b e hb) (by assumption)
 rw[hm]at g1;have U5:m.le m1:=g1.le M.hr.cT;refine⟨Z0 _,hil,?_,?_,λj hj XU=>absurd hj Om,?_,hr1,?_,?_,λj hj XU=>absurd hj Om,M.grow.trans g1 hd0,by rw[fK];exact M.size,?_,?_⟩
 ·intro j hj;unfold mark;split
  ·rfl
  ·exact hall j Om
 ·intro j hj;unfold mark at hj;split at hj
  ·omega
  ·have:=M.high j hj;omega
 ·intro j hj;by_cases hji:j=i
  ·subst hji;exact g1.len
  ·exact M.len j Om
 ·intro j hj hs;unfold mark at hs;split at hs
  ·cases hs
  ·rw[hall j Om]at hs;cases hs
 ·intro i2 hi2 hi2' b e k hb TJ hk;have:i2=i+1:=Om
  subst this;exact(hr1.eO b e k TJ hk).jI hr1.cT
 ·intro d hd;exact Lp
 ·intro d j o hj hs ho;by_cases hji:j=i
  ·subst hji;rw[hio]at hj;cases hj;rw[hTi,ho];have h1:m1.le (m1.dY (H (j+1)).length):=λb e hb=>by
    have:=hr1.cT b e hb;unfold cw.dY;rw[ZY this];exact hb
   exact Kn
  ·exact Rl
end
section
variable {P:Program}{m m':cw}{h g h':ah}{w w' w0:World}
theorem rz:∀(l c pre:List AV),c.length=l.length->gu (pre++c) pre.length l=pre++l
 |[],c,pre,h=>by
  exact z222
 |x::l,[],pre,h=>by simp at h
 |x::l,y::c,pre,h=>by
  have e1:(pre++y::c).set pre.length x=(pre++[x])++c:=by
   exact KS
  have e2:pre.length+1=(pre++[x]).length:=Si
  show gu ((pre++y::c).set pre.length x) (pre.length+1) l=_;rw[e1,e2,rz l c (pre++[x]) (by simpa using h),ZO];rfl
def Grow.forget(gr:Grow m h w m' (h++g) w'):Grow m h w (m'.dY h.length) h w' where
 ext:=λb hb=>by unfold cw.dY;rw[ZY hb];exact gr.ext b hb
 len:=Z0 _
 new:=λb e hb he=>by unfold cw.dY at he;rw[ZW Om]at he;cases he
 tl:=λb hb ht=>ht
 size:=gr.size
 os:=gr.os
 out:=gr.out
 tape:=gr.tape
 frame:=gr.frame
def HR.forget(hr:HR P m h w)(hr':HR P m' (h++g) w')(gr:Grow m h w m' (h++g) w'):HR P (m'.dY h.length) h w':=
 hr'.dY hr.He λb e k hb TJ hk=>(hr.eO b e k (by rw[<-gr.ext b hb];exact TJ) hk).jI hr.cT
def HR.Nz(hr:HR P m h w){cb cc}{el:TypeId}{fz}(hb:w.heap[cb]? =some (.cells cc el fz))(hfz:∀i,i<cc.size->¬(fz.1<=i/\i<fz.2))(hout:∀b e,m b=some e->e.cb≠cb)
  {c}{d}(hc:d+c.length=cc.size) (hv:∀(i:Nat) (x:AV),c[i]? =some x->x.one=true/\∃v,cc[d+i]? =some v/\VR m x v):HR P (m.add h.length ⟨cb,d,cc.size,true⟩) (h++[.cells c true false]) w:=by
 have TI:m h.length=none:=by
  exact NT
 have hle:m.le (m.add h.length ⟨cb,d,cc.size,true⟩):=cw.sH _ TI;have SM:∀b e,(m.add h.length ⟨cb,d,cc.size,true⟩) b=some e->(b=h.length/\e=⟨cb,d,cc.size,true⟩)\/(b<h.length/\m b=some e):=λb e T3=>by
  exact z87
 refine⟨λb e T3=>?_,λb e k T3 hk=>?_,λb1 b2 e1 e2 k1 k2 hne h1 h2 hk1 Sy hcb=>?_,λg hg=>?_,λb e T3=>?_⟩
 ·rw[ZL];rcases SM b e T3 with⟨rfl,_⟩|⟨hlt,_⟩
  ·simp
  ·simp;omega
 ·rcases SM b e T3 with⟨rfl,rfl⟩|⟨hlt,hm⟩
  ·rw[Z1 (Z0 _),aaR]at hk;cases hk;refine⟨cc,el,fz,hb,⟨by show d+_<=_;omega,by show d+_<=cc.size;omega,rfl⟩,λi x hx=>?_,λ_=>⟨rfl,hfz⟩,λ_=>⟨rfl,λ_=>by show cc.size=d+c.length;omega⟩⟩;obtain⟨ho,v,h1,h2⟩:=hv i x hx;exact⟨ho,v,h1,VR.mono hle _ _ h2⟩
  ·rw[ZQ hlt]at hk;exact(hr.eO b e k hm hk).mono hle
 ·exact Rp
 ·obtain⟨e,he,hx⟩:=hr.gS g hg;exact⟨e,hle _ _ he,hx⟩
 ·rcases SM b e T3 with⟨_,rfl⟩|⟨_,hm⟩
  ·exact(aaa.1 hb).1
  ·exact hr.lt b e hm
def Dr{x}(h:yU x=true):x.one=true:=by cases x<;>first|rfl|cases h
def FD{x v}(h:yU x=true)(hv:VR m x v)(m':cw):VR m' x v:=by
 cases x<;>first|exact hv|cases h
def lG(m:cw)(w0 w:World)(zc:List AV)(cv:Value):Prop:=
 ∃(cb d:Nat) (cc:Array Value) (el:TypeId) (fz:Nat×Nat),cv=.pointer (some ⟨cb,d,none⟩)/\w.heap[cb]? =some (.cells cc el fz)/\d+zc.length=cc.size/\(∀i,i<cc.size->¬(fz.1<=i/\i<fz.2))/\
  (∀(i:Nat) (x:AV),zc[i]? =some x->x.one=true/\∃v,cc[d+i]? =some v/\∀m:cw,VR m x v)/\w0.heap.size<=cb/\∀b e,m b=some e->e.cb≠cb
def lG.move{zc cv}(p:lG m w0 w zc cv)(hh:∀cb d,cv=.pointer (some ⟨cb,d,none⟩)->cb<w.heap.size->(∀b e,m b=some e->e.cb≠cb)->w'.heap[cb]? =w.heap[cb]?)
  (hm:∀cb d,cv=.pointer (some ⟨cb,d,none⟩)->cb<w.heap.size->(∀b e,m b=some e->e.cb≠cb)->∀b e,m' b=some e->e.cb≠cb):lG m' w0 w' zc cv:=by
 obtain⟨cb,d,cc,el,fz,h1,h2,h3,h4,h5,h6,h7⟩:=p;have hlt:cb<w.heap.size:=(aaa.1 h2).1;exact⟨cb,d,cc,el,fz,h1,by rw[hh cb d h1 hlt h7];exact h2,h3,h4,h5,h6,hm cb d h1 hlt h7⟩
def lG.grow{zc cv}(p:lG m w0 w zc cv)(gr:Grow (m.dY h.length) h w m' h' w'):lG m' w0 w' zc cv/\lG (m'.patch m h'.length) w0 w' zc cv:=by
 have hh:∀cb d,cv=.pointer (some ⟨cb,d,none⟩)->cb<w.heap.size->(∀b e,m b=some e->e.cb≠cb)->w'.heap[cb]? =w.heap[cb]? :=λcb d _ hlt h7=>gr.frame cb hlt λb e he _=>h7 b e (cw.fN _ _ _ _ he)
 have hnew:∀cb,cb<w.heap.size->(∀b e,m b=some e->e.cb≠cb)->∀b e,m' b=some e->e.cb≠cb:=λcb hlt h7 b e he=>by
  by_cases hb:b<h.length
  ·rw[gr.ext b hb]at he;exact h7 b e (cw.fN _ _ _ _ he)
  ·obtain⟨_,hc⟩:=gr.new b e Om he;rcases hc with hc|⟨b0,e0,c1,c2,_⟩
   ·omega
   ·rw[<-c2];exact h7 b0 e0 (cw.fN _ _ _ _ c1)
 refine⟨p.move hh λcb d _ hlt h7=>hnew cb hlt h7,p.move hh λcb d _ hlt h7 b e he=>?_⟩;unfold cw.patch at he;split at he
 ·exact hnew cb hlt h7 b e he
 ·exact h7 b e he
end
structure cG(ops:Array Oper)(l:List bN)(k s t:Nat)(z:AV)(n:Nat)(x:dt):Prop where
 ks:k<s
 hk:l[k]? =some {dst:=some t,k:=.box (.c z),gd:=none,q:=true}
 hs:l[s]? =some {dst:=none,k:=.store n (.t t) x,gd:=none,q:=true}
 zn:z.cells.length=n
 zc:z.cells.all yU=true
 xt:∀u,x=.t u->u≠t/\fZ ops s u=true
 lt:fZ ops s t=true
 only:∀j,j<ops.size->j≠s->fZ ops j t=false
def nR{o n t x}(h:mz o=some (n,t,x)):o={dst:=none,k:=.store n (.t t) x,gd:=none,q:=true}:=by
 obtain⟨d,k,gd,q⟩:=o;unfold mz at h;exact Lc
def yY{o t z}(h:uj o=some (t,z)):o={dst:=some t,k:=.box (.c z),gd:=none,q:=true}:=by
 obtain⟨d,k,gd,q⟩:=o;unfold uj at h;exact Lc
def qp{ops l k s}(hks:k<s)(h:pP ops l k s=true):∃t z n x,cG ops l k s t z n x:=by
 unfold pP at h;split at h
 case h_2=>cases h
 rename_i t z n t' x h1 h2;obtain⟨a,ha,hb⟩:=aaS.1 h1;obtain⟨b,Ta,To⟩:=aaS.1 h2;have e1:=yY hb;have e2:=nR To;subst e1;subst e2;simp only[aaq,beq_iff_eq,aas,aaZ,abw,aa2]at h;obtain⟨⟨⟨⟨⟨rfl,q2⟩,q3⟩,q4⟩,q5⟩,q6⟩:=h;refine⟨t,z,n,x,hks,ha,Ta,q2,aas.2 q3,λu hu=>?_,q5,λj hj hne=>(q6 j hj).resolve_left hne⟩;subst hu;simp only[aaq,bne_iff_ne,ne_eq]at q4;exact q4
def cG.ok{ops l k s t z n x}(p:cG ops l k s t z n x):pP ops l k s=true:=by
 unfold pP;rw[p.hk,p.hs];simp only[Option.bind_some,uj,mz,aaq,beq_iff_eq,aas,aaZ,abw,aa2];refine⟨⟨⟨⟨⟨trivial,p.zn⟩,aas.1 p.zc⟩,?_⟩,p.lt⟩,λj hj=>?_⟩
 ·cases x with
  |t u=>simp only[aaq,bne_iff_ne,ne_eq];exact p.xt u rfl
  |_=>rfl
 ·by_cases hne:j=s
  ·exact .inl hne
  ·exact .inr (p.only j hj hne)
def Iy:bN:={dst:=none,k:=.bY (.c (.bool false)),gd:=none,q:=true}
theorem xA{ops l}:∀{r}{i j},(qA ops l i r)[j]? =(r[j]?).map (ud ops l (i+j))
 |[],i,j=>by simp[qA]
 |o::r,i,0=>by simp[qA]
 |o::r,i,j+1=>by
  show(qA ops l (i+1) r)[j]? =_;rw[xA,show i+1+j=i+(j+1) by omega];simp
theorem xz{ops l}:∀{r}{i},(qA ops l i r).length=r.length
 |[],_=>rfl
 |o::r,i=>by simp[qA,xz]
def yM{ops l}(hl:l.length=ops.size){j o}(ho:l[j]? =some o):
  (∃k t z n x,cG ops l k j t z n x/\ud ops l j o={dst:=some t,k:=.o8 n x,gd:=none,q:=true})\/
  (∃s t z n x,cG ops l j s t z n x/\ud ops l j o=Iy)\/
  (ud ops l j o=o/\(∀k t z n x,¬cG ops l k j t z n x)/\(∀s t z n x,¬cG ops l j s t z n x)):=by
 unfold ud;split
 ·rename_i n t x bP;have e1:=nR bP;have SK:∀s t z n x,¬cG ops l j s t z n x:=λs t' z n' x' p=>by
   have:=p.hk;rw[ho,e1]at this;cases this
  split
  ·rename_i k hk;unfold PM at hk;have h1:=acj hk;have h2:=aaZ.1 (List.mem_of_find?_eq_some hk);obtain⟨t',z,n',x',p⟩:=qp h2 h1;have:=p.hs;rw[ho,e1]at this;cases this;exact .inl ⟨k,_,z,_,_,p,rfl⟩
  ·rename_i hk;refine .inr (.inr ⟨rfl,λk t' z n' x' p=>?_,SK⟩);unfold PM at hk;exact List.find?_eq_none.1 hk k (aaZ.2 p.ks) p.ok
 ·rename_i bP;have hns:∀k t z n x,¬cG ops l k j t z n x:=λk t' z n' x' p=>by
   have:=p.hs;rw[ho]at this;cases this;simp[mz]at bP
  split
  ·rename_i y Su;split
   ·rename_i s hs;unfold ON at hs;have h1:=acj hs;simp only[aaq,aaA]at h1;obtain⟨t',z,n',x',p⟩:=qp h1.1 h1.2;exact .inr (.inl ⟨s,t',z,n',x',p,rfl⟩)
   ·rename_i hs;refine .inr (.inr ⟨rfl,hns,λs t' z n' x' p=>?_⟩);unfold ON at hs;refine List.find?_eq_none.1 hs s (aaZ.2 ((ZM.1 p.hs).1)) ?_;simp only[aaq,aaA];exact⟨p.ks,p.ok⟩
  ·rename_i Su;refine .inr (.inr ⟨rfl,hns,λs t' z n' x' p=>?_⟩);have:=p.hk;rw[ho]at this;cases this;simp[uj]at Su
def p7(v v':Value):Prop:=∀cb d Xk d',v=.pointer (some ⟨cb,d,none⟩)->v' =.pointer (some ⟨Xk,d',none⟩)->cb≠Xk
theorem p7.symm{v v'}(h:p7 v v'):p7 v' v:=λcb d Xk d' h1 h2 e=>h Xk d' cb d h2 h1 e.symm
structure qc(ops:Array Oper)(l:List bN)(w0:World)(S:Nat->Bool)(ta tmps:Array Value)(m:cw)(w:World):Prop where
 size:tmps.size=ta.size
 ag:∀d,(∀k s z n x,cG ops l k s d z n x->S k=true->S s=false->False)->tmps.getD d undef=ta.getD d undef
 pd:∀k s t z n x,cG ops l k s t z n x->S k=true->S s=false->lG m w0 w z.cells (tmps.getD t undef)
 dj:∀k s t z n x k' s' t' z' n' x',cG ops l k s t z n x->cG ops l k' s' t' z' n' x'->S k=true->S s=false->S k' =true->S s' =false->t≠t'->p7 (tmps.getD t undef) (tmps.getD t' undef)
section
variable {ops:Array Oper}{l:List bN}{w0 w w':World}{S:Nat->Bool}{ta tmps:Array Value}{m m':cw}
def jM{ta d cv}(h:d<ta.size):(iJ ta (some d) cv).getD d undef=cv:=by
 simp only[iJ,aaB];rw[aa4 h];rfl
def yG{d cv t}(hs:tmps.size=ta.size)(h:tmps.getD t undef=ta.getD t undef):(iJ tmps d cv).getD t undef=(iJ ta d cv).getD t undef:=by
 by_cases hd:d=some t
 ·subst hd;by_cases ht:t<ta.size
  ·rw[jM ht,jM Om]
  ·simp only[iJ,aaB];rw[abo (by simp;omega),abo (by simp;omega)]
 ·rw[dS hd,dS hd];exact h
def qc.other(I:qc ops l w0 S ta tmps m w){i d cv}(h1:∀k t z n x,¬cG ops l k i t z n x)(h2:∀s t z n x,¬cG ops l i s t z n x)(hd:∀k s t z n x,cG ops l k s t z n x->d≠some t)
  (hp:∀zc cv,lG m w0 w zc cv->lG m' w0 w' zc cv):qc ops l w0 (mark S i) (iJ ta d cv) (iJ tmps d cv) m' w' where
 size:=by rw[fK,fK];exact I.size
 ag:=λt ht=>yG I.size (I.ag t λk s z n x p hk hs=>ht k s z n x p (by unfold mark;split<;>first|rfl|exact hk) (by
  unfold mark;split
  ·rename_i e;subst e;exact absurd p (h1 _ _ _ _ _)
  ·exact hs))
 pd:=λk s t z n x p hk hs=>by
  have hki:k≠i:=λe=>h2 _ _ _ _ _ (e▸p)
  have hsi:s≠i:=λe=>h1 _ _ _ _ _ (e▸p)
  unfold mark at hk hs;rw[ZW hki]at hk;rw[ZW hsi]at hs;rw[dS (hd _ _ _ _ _ _ p)];exact hp _ _ (I.pd k s t z n x p hk hs)
 dj:=λk s t z n x k' s' t' z' n' x' p p' hk hs hk' Sx hne=>by
  have hki:k≠i:=λe=>h2 _ _ _ _ _ (e▸p)
  have hsi:s≠i:=λe=>h1 _ _ _ _ _ (e▸p)
  have hki':k'≠i:=λe=>h2 _ _ _ _ _ (e▸p')
  have hsi':s'≠i:=λe=>h1 _ _ _ _ _ (e▸p')
  unfold mark at hk hs hk' Sx;rw[ZW hki]at hk;rw[ZW hsi]at hs;rw[ZW hki']at hk';rw[ZW hsi']at Sx;rw[dS (hd _ _ _ _ _ _ p),dS (hd _ _ _ _ _ _ p')];exact I.dj _ _ _ _ _ _ _ _ _ _ _ _ p p' hk hs hk' Sx hne
def D3(ops:Array Oper)(l:List bN):Prop:=∀k s t z n x k' s' t' z' n' x',cG ops l k s t z n x->cG ops l k' s' t' z' n' x'->(t=t'->k=k'/\s=s')/\(k=k'->t=t')/\(s=s'->t=t')/\k≠s'
def qc.make(U:D3 ops l)(I:qc ops l w0 S ta tmps m w){k s t n z x cv}(p0:cG ops l k s t z n x)(ht:t<tmps.size)(hss:S s=false)
  (hnew:lG m' w0 w' z.cells cv) (hfar:∀cb d,cv=.pointer (some ⟨cb,d,none⟩)->w.heap.size<=cb) (hp:∀zc cv,lG m w0 w zc cv->lG m' w0 w' zc cv):qc ops l w0 (mark S k) ta (iJ tmps (some t) cv) m' w' where
 size:=by rw[fK];exact I.size
 ag:=λd hd=>by
  by_cases hdt:d=t
  ·subst hdt;exact(hd k s z n x p0 (by simp[mark]) (by
    have:s≠k:=Nat.ne_of_gt p0.ks;simp only[mark,ZW this];exact hss)).elim
  ·rw[dS (λe=>hdt (aaN e).symm)];refine I.ag d λk' s' z' n' x' p hk hs=>hd k' s' z' n' x' p (by unfold mark;split<;>first|rfl|exact hk) ?_
   have:s'≠k:=λe=>((U _ _ _ _ _ _ _ _ _ _ _ _ p0 p).2.2.2 e.symm)
   simp only[mark,ZW this];exact hs
 pd:=λk' s' t' z' n' x' p hk hs=>by
  by_cases hkk:k' =k
  ·have e:=(U _ _ _ _ _ _ _ _ _ _ _ _ p0 p).2.1 hkk.symm;subst e;subst hkk;have hz:=p0.hk.symm.trans p.hk;have hz:z=z':=by cases hz;rfl
   subst hz;rw[jM ht];exact hnew
  ·have hsk:s'≠k:=λe=>((U _ _ _ _ _ _ _ _ _ _ _ _ p0 p).2.2.2 e.symm)
   unfold mark at hk hs;rw[ZW hkk]at hk;rw[ZW hsk]at hs;have hne:t≠t':=λe=>hkk ((U _ _ _ _ _ _ _ _ _ _ _ _ p0 p).1 e).1.symm
   rw[dS (λe=>hne (aaN e))];exact hp _ _ (I.pd _ _ _ _ _ _ p hk hs)
 dj:=λk1 s1 t1 z1 n1 x1 k2 s2 t2 z2 n2 x2 p1 p2 hk1 T6 Sy Te hne=>by
  have hold:∀k' s' t' z' n' x',cG ops l k' s' t' z' n' x'->k'≠k->mark S k k' =true->mark S k s' =false->t≠t'/\S k' =true/\S s' =false/\(iJ tmps (some t) cv).getD t' undef=tmps.getD t' undef:=λk' s' t' z' n' x' p hkk hk hs=>by
   have hsk:s'≠k:=λe=>((U _ _ _ _ _ _ _ _ _ _ _ _ p0 p).2.2.2 e.symm)
   unfold mark at hk hs;rw[ZW hkk]at hk;rw[ZW hsk]at hs;have hne:t≠t':=λe=>hkk ((U _ _ _ _ _ _ _ _ _ _ _ _ p0 p).1 e).1.symm
   exact⟨hne,hk,hs,dS (λe=>hne (aaN e))⟩
  have hfar':∀k' s' t' z' n' x',cG ops l k' s' t' z' n' x'->S k' =true->S s' =false->p7 cv (tmps.getD t' undef):=λk' s' t' z' n' x' p hk hs cb1 d1 cb2 d2 e1 e2=>by
   obtain⟨cb,d,cc,el,fz,q1,q2,_⟩:=I.pd _ _ _ _ _ _ p hk hs;rw[q1]at e2;cases e2;have:=hfar cb1 d1 e1;have:=(aaa.1 q2).1;omega
  by_cases h1:k1=k
  ·have e1:=(U _ _ _ _ _ _ _ _ _ _ _ _ p0 p1).2.1 h1.symm;by_cases h2:k2=k
   ·exact absurd (e1.symm.trans ((U _ _ _ _ _ _ _ _ _ _ _ _ p0 p2).2.1 h2.symm)) hne
   ·obtain⟨a1,a2,a3,a4⟩:=hold _ _ _ _ _ _ p2 h2 Sy Te;rw[a4,<-e1,jM ht];exact hfar' _ _ _ _ _ _ p2 a2 a3
  ·obtain⟨b1,b2,b3,b4⟩:=hold _ _ _ _ _ _ p1 h1 hk1 T6;by_cases h2:k2=k
   ·have e2:=(U _ _ _ _ _ _ _ _ _ _ _ _ p0 p2).2.1 h2.symm;rw[b4,<-e2,jM ht];exact(hfar' _ _ _ _ _ _ p1 b2 b3).symm
   ·obtain⟨a1,a2,a3,a4⟩:=hold _ _ _ _ _ _ p2 h2 Sy Te;rw[a4,b4];exact I.dj _ _ _ _ _ _ _ _ _ _ _ _ p1 p2 b2 b3 a2 a3 hne
def qc.fill(U:D3 ops l)(I:qc ops l w0 S ta tmps m w){k s t n z x}(p0:cG ops l k s t z n x)(ht:t<tmps.size)
  (hp:∀zc cv,p7 cv (tmps.getD t undef)->lG m w0 w zc cv->lG m' w0 w' zc cv) (hk:S k=true) (hs:S s=false):qc ops l w0 (mark S s) (iJ ta (some t) (tmps.getD t undef)) tmps m' w':=by
 have hold:∀k' s' t' z' n' x',cG ops l k' s' t' z' n' x'->mark S s k' =true->mark S s s' =false->t≠t'/\S k' =true/\S s' =false:=λk' s' t' z' n' x' p hk' Sx=>by
  have h1:k'≠s:=(U _ _ _ _ _ _ _ _ _ _ _ _ p p0).2.2.2;have h2:s'≠s:=λe=>by simp[mark,e]at Sx
  unfold mark at hk' Sx;rw[ZW h1]at hk';rw[ZW h2]at Sx;exact⟨λe=>h2 ((U _ _ _ _ _ _ _ _ _ _ _ _ p p0).1 e.symm).2,hk',Sx⟩
 refine⟨by rw[fK];exact I.size,λd hd=>?_,λk' s' t' z' n' x' p hk' Sx=>?_,λk1 s1 t1 z1 n1 x1 k2 s2 t2 z2 n2 x2 p1 p2 hk1 T6 Sy Te hne=>?_⟩
 ·by_cases hdt:d=t
  ·subst hdt;rw[jM (by rw[<-I.size];exact ht)]
  ·rw[dS (λe=>hdt (aaN e).symm)];refine I.ag d λk' s' z' n' x' p hk' Sx=>hd k' s' z' n' x' p (by unfold mark;split<;>first|rfl|exact hk') ?_
   have h2:s'≠s:=λe=>hdt ((U _ _ _ _ _ _ _ _ _ _ _ _ p p0).2.2.1 e)
   simp only[mark,ZW h2];exact Sx
 ·obtain⟨a1,a2,a3⟩:=hold _ _ _ _ _ _ p hk' Sx;exact hp _ _ (I.dj _ _ _ _ _ _ _ _ _ _ _ _ p p0 a2 a3 hk hs (abe a1)) (I.pd _ _ _ _ _ _ p a2 a3)
 ·obtain⟨a1,a2,a3⟩:=hold _ _ _ _ _ _ p1 hk1 T6;obtain⟨b1,b2,b3⟩:=hold _ _ _ _ _ _ p2 Sy Te;exact I.dj _ _ _ _ _ _ _ _ _ _ _ _ p1 p2 a2 a3 b2 b3 hne
end
def cW{M ops}(h:mC M ops=true){i j x y}(hij:i<j)(hx:ops[i]? =some x)(hy:ops[j]? =some y):
  (∀d,x.dst=some d->y.dst≠some d/\(d∈y.looksAt ops->ahead M i j=true))/\(∀d,y.dst=some d->d∈x.looksAt ops->ahead M i j=true):=by
 have hj:j<ops.size:=(aaa.1 hy).1;unfold mC at h;rw[aas]at h;have h1:=h j (aaZ.2 hj);rw[aas]at h1;have h2:=h1 i (aaZ.2 hij);rw[hx,hy]at h2;simp only[aaq]at h2;obtain⟨h3,h4⟩:=h2;constructor
 ·intro d hd;rw[hd]at h3;simp only[aaq,bne_iff_ne,ne_eq,abw,aa2,List.contains_eq_mem,abv]at h3;exact⟨h3.1,λhl=>h3.2.resolve_left (λhx=>hx hl)⟩
 ·intro d hd hl;rw[hd]at h4;simp only[abw,aa2,List.contains_eq_mem,abv]at h4;exact h4.resolve_left (λhx=>hx hl)
def oT{M ops}(h:lz M ops=true){j o}(ho:ops[j]? =some o):
  (∀e∈o.after,Region.binds .any e=true->e.on<j)/\(∀i,i<ops.size->ahead M i j=true->∃e∈o.after,Region.binds .any e=true/\(e.on=i\/ahead M i e.on=true)):=by
 have hj:j<ops.size:=(aaa.1 ho).1;unfold lz at h;rw[aas]at h;have h1:=h j (aaZ.2 hj);rw[ho]at h1;simp only[aaq]at h1;obtain⟨h2,h3⟩:=h1;constructor
 ·intro e he hb;rw[aas]at h2;have:=h2 e (by simpa using he);simp only[hb,aad,abZ,aaA]at this;exact this
 ·intro i hi ha;rw[aas]at h3;have:=h3 i (aaZ.2 hi);simp only[ha,aad,abZ,abx,aaq,abw,beq_iff_eq]at this;obtain⟨e,he,hb,hor⟩:=this;exact⟨e,by simpa using he,hb,hor⟩
def pa{M n j}(h:iF M n j=true){i}(hi:i<n)(hne:i≠j):(i<j->ahead M i j=true)/\(j<i->ahead M j i=true):=by
 unfold iF at h;rw[aas]at h;have h1:=h i (aaZ.2 hi);simp only[abw,beq_iff_eq]at h1;have h2:=h1.resolve_left hne;constructor
 ·intro hlt;rwa [ZY hlt]at h2
 ·intro hlt;rwa [ZW Om]at h2
theorem vw{T:Nat->TS}{t:Nat}{a:Nat}:∀k,(∀j,a<=j->j<a+k->∃d v,T (j+1)=put (T j) d v/\d≠some t)->(T (a+k)).getD t aA=(T a).getD t aA
 | 0,_=>rfl
 |k+1,h=>by
  obtain⟨d,v,h1,h2⟩:=h (a+k) Om Om;rw[show a+(k+1)=a+k+1 from by omega,h1,yF h2];exact vw k λj h3 h4=>h j h3 Om
def zM{listed:Array Bool}{i:Nat}(hi:i<listed.size):(λj=>(listed.setIfInBounds i true).getD j false)=mark (λj=>listed.getD j false) i:=by
 funext j;unfold mark;exact dw hi
def jL{ops listed}(hs:listed.size=ops.size){i}:i∈Region.ready .any ops listed↔∃o,ops[i]? =some o/\listed.getD i false=false/\∀e∈o.after,Region.binds .any e=true->listed.getD e.on false=true:=by
 unfold Region.ready;simp only[aa3,aaZ,aaq,aa2];constructor
 ·rintro⟨hi,hl,ha⟩;have ho:ops[i]? =some ops[i]:=aaF hi;refine⟨ops[i],ho,?_,?_⟩
  ·exact z117
  ·rw[ho]at ha;simp only[abF,ab0,Array.all_eq_true_iff_forall_mem,abw,aa2]at ha;intro e he hb;exact(ha e he).resolve_left (by simp[hb])
 ·rintro⟨o,ho,hl,ha⟩;have hi:i<ops.size:=(aaa.1 ho).1;refine⟨hi,?_,?_⟩
  ·exact z117
  ·rw[ho];simp only[abF,ab0,Array.all_eq_true_iff_forall_mem,abw,aa2];intro e he;cases hb:Region.binds .any e with
   |true=>exact .inr (ha e he hb)
   |false=>exact .inl rfl
def mE{M ops}(he:lz M ops=true){listed}(hs:listed.size=ops.size)(hr:Region.ready .any ops listed=[]):∀i,i<ops.size->listed.getD i false=true:=by
 intro i
 induction i using Nat.strongRecOn with
 |_ i ih=>
  intro hi;cases hl:listed.getD i false with
  |true=>rfl
  |false=>
   have:i∈Region.ready .any ops listed:=by
    have ho:ops[i]? =some ops[i]:=aaF hi;refine(jL hs).2 ⟨ops[i],ho,hl,λe hee hb=>?_⟩;have:=(oT he ho).1 e hee hb;exact ih e.on this Om
   rw[hr]at this;cases this
def mF{ops listed}(hs:listed.size=ops.size)(h:∀i,i<ops.size->listed.getD i false=true):Region.ready .any ops listed=[]:=by
 cases hr:Region.ready .any ops listed with
 |nil=>rfl
 |cons x xs=>
  have:x∈Region.ready .any ops listed:=by rw[hr];simp
  obtain⟨o,ho,hl,_⟩:=(jL hs).1 this;rw[h x (aaa.1 ho).1]at hl;cases hl
def wk{P:Program}(hmix:P.follows .mixedOrders=true){ops:Array Oper}{l:List bN}(hc:cV P ops true=some l){ts ts':TS}{h h':ah}(hs:y8 P l ts h ts' h'){m:cw}{a:Act}{w:World}
  (st:St P m ts h a w) (ro:Option Nat) (Q:Exit->Act->World->Prop) (hQ:∀m' a' w',St P m' ts' h' a' w'->Grow m h w m' h' w'->a'.defers=a.defers->Q .normal a' w') (id:Nat):
  (Code.region id ops true).wpIn (Fd ro) 0 P Q a w:=by
 refine wpIn_region_any hmix ?_;obtain⟨T,H,rfl,rfl,rfl,rfl,hrow⟩:=hs.row;simp only[cV,Z7]at hc;split at hc
 case isFalse=>cases hc
 rename_i hok;simp only[aaq]at hok;obtain⟨hed,hsl⟩:=hok;obtain⟨l0,hc,hl⟩:=aag.1 hc;obtain⟨SQ,SG⟩:=gV hc;simp only[abY]at SQ;have hlen:l.length=ops.size:=by rw[<-hl,xz,SQ]
 have hget0:∀j o,ops[j]? =some o->∃io,l0[j]? =some io/\bV P ops (!iF (Region.before ops) ops.size j) o=some io:=λj o ho=>by
  obtain⟨y,h1,h2⟩:=SG j o (by simpa using ho);exact⟨y,h1,by rwa [aaD]at h2⟩
 have Vk:∀j io,l0[j]? =some io->∃o,ops[j]? =some o/\bV P ops (!iF (Region.before ops) ops.size j) o=some io:=λj io hj=>by
  have hlt:j<ops.size:=by have:=(ZM.1 hj).1;omega
  have ho:ops[j]? =some ops[j]:=aaF hlt;obtain⟨io',h1,h2⟩:=hget0 j _ ho;rw[hj]at h1;cases h1;exact⟨_,ho,h2⟩
 have XZ:∀(j:Nat) (io:bN),l[j]? =some io->(∃k t z n x,cG ops l0 k j t z n x/\io={dst:=some t,k:=.o8 n x,gd:=none,q:=true})\/(∃s t z n x,cG ops l0 j s t z n x/\io=Iy)\/
   ((∃o,ops[j]? =some o/\bV P ops (!iF (Region.before ops) ops.size j) o=some io)/\(∀k t z n x,¬cG ops l0 k j t z n x)/\(∀s t z n x,¬cG ops l0 j s t z n x)):=λj io hj=>by
  rw[<-hl,xA,aaD]at hj;obtain⟨io0,h0,rfl⟩:=aag.1 hj;rcases yM SQ h0 with⟨k,t,z,n,x,p,e⟩|⟨s,t,z,n,x,p,e⟩|⟨e,n1,n2⟩
  ·exact .inl ⟨k,t,z,n,x,p,e⟩
  ·exact .inr (.inl ⟨s,t,z,n,x,p,e⟩)
  ·rw[e];exact .inr (.inr ⟨Vk j io0 h0,n1,n2⟩)
 have hdU:∀(i j:Nat) (oi oj:Oper) (d:Nat),ops[i]? =some oi->ops[j]? =some oj->oi.dst=some d->oj.dst=some d->i=j:=λi j oi oj d hi hj h1 h2=>by
  by_cases hlt:i<j
  ·exact absurd h2 ((cW hsl hlt hi hj).1 d h1).1
  ·by_cases VP:j<i
   ·exact absurd h1 ((cW hsl VP hj hi).1 d h2).1
   ·omega
 have Zi:∀{k s t:Nat}{z:AV}{n:Nat}{x:dt},cG ops l0 k s t z n x->∃o,ops[k]? =some o/\o.dst=some t/\bV P ops (!iF (Region.before ops) ops.size k) o=some {dst:=some t,k:=.box (.c z),gd:=none,q:=true}:=λp=>by
  obtain⟨o,h1,h2⟩:=Vk _ _ p.hk;exact⟨o,h1,(dN h2).1.symm,h2⟩
 have hps:∀{k s t:Nat}{z:AV}{n:Nat}{x:dt},cG ops l0 k s t z n x->∃o,ops[s]? =some o/\o.dst=none/\bV P ops (!iF (Region.before ops) ops.size s) o=some {dst:=none,k:=.store n (.t t) x,gd:=none,q:=true}:=λp=>by
  obtain⟨o,h1,h2⟩:=Vk _ _ p.hs;exact⟨o,h1,(dN h2).1.symm,h2⟩
 have hlooks:∀{j t:Nat}{o:Oper},ops[j]? =some o->fZ ops j t=true->t∈o.looksAt ops:=λho h=>by
  unfold fZ at h;rw[ho]at h
  simpa using h
 have XR:∀{j t:Nat}{o:Oper},ops[j]? =some o->t∈o.looksAt ops->fZ ops j t=true:=λho h=>by
  unfold fZ;rw[ho]
  simpa using h
 have fj:∀{j:Nat}{o:Oper},ops[j]? =some o->j<ops.size:=λho=>(aaa.1 ho).1
 have U:D3 ops l0:=λk s t z n x k' s' t' z' n' x' p p'=>by
  refine⟨λe=>?_,λe=>?_,λe=>?_,λe=>?_⟩
  ·subst e;obtain⟨o,h1,h2,_⟩:=Zi p;obtain⟨o',h1',h2',_⟩:=Zi p';refine⟨hdU _ _ _ _ _ h1 h1' h2 h2',?_⟩;by_cases hs:s=s'
   ·exact hs
   ·obtain⟨os,T6,_⟩:=hps p';have:=p.only s' (fj T6) (abe hs);rw[p'.lt]at this;cases this
  ·subst e;have:=p.hk.symm.trans p'.hk;cases this;rfl
  ·subst e;have:=p.hs.symm.trans p'.hs;cases this;rfl
  ·subst e;have:=p.hk.symm.trans p'.hs;cases this
 have hpt:∀{i:Nat}{o:Oper}{t:Nat},ops[i]? =some o->t∈o.looksAt ops->∀k s z n x,cG ops l0 k s t z n x->i=s:=λ{i o t} ho ht k s z n x p=>by
  by_cases hi:i=s
  ·exact hi
  ·have:=p.only _ (fj ho) hi;rw[XR ho ht]at this;cases this
 have TO:∀(j:Nat) (io:bN) (d:Nat),l[j]? =some io->io.dst=some d->(∃o,ops[j]? =some o/\o.dst=some d/\(∀k t z n x,¬cG ops l0 k j t z n x)/\(∀s t z n x,¬cG ops l0 j s t z n x))\/(∃k z n x,cG ops l0 k j d z n x):=λj io d hj hd=>by
  rcases XZ j io hj with⟨k,t,z,n,x,p,e⟩|⟨s,t,z,n,x,p,e⟩|⟨⟨o,h1,h2⟩,n1,n2⟩
  ·rw[e]at hd;cases hd;exact .inr ⟨k,z,n,x,p⟩
  ·rw[e]at hd;cases hd
  ·exact .inl ⟨o,h1,by rw[<- (dN h2).1];exact hd,n1,n2⟩
 have Ud:∀j io,l[j]? =some io->∃v,T (j+1)=put (T j) io.dst v:=λj io hj=>(hrow.step j io hj).1.put
 have hTl:∀j,j<=l.length->(T j).length=(T 0).length:=by
  intro j
  induction j with
  |zero=>intro _;rfl
  |succ j ih=>
   intro hj;exact Of
 have hG:P.globals.size<=(H 0).length:=st.hr.He;have huniq:∀(i:Nat) (io:bN),l[i]? =some io->∀(j:Nat) (o:bN) (d:Nat),j≠i->l[j]? =some o->o.dst=some d->io.dst≠some d:=by
  intro i io hi j o d hne hj hd Td;rcases TO j o d hj hd with⟨oj,a1,a2,a3,a4⟩|⟨k,z,n,x,p⟩
  ·rcases TO i io d hi Td with⟨oi,b1,b2,b3,b4⟩|⟨k',z',n',x',p'⟩
   ·exact hne (hdU _ _ _ _ _ a1 b1 a2 b2)
   ·obtain⟨ok,h1,h2,_⟩:=Zi p';have e:=hdU _ _ _ _ _ a1 h1 a2 h2;subst e;exact a4 _ _ _ _ _ p'
  ·rcases TO i io d hi Td with⟨oi,b1,b2,b3,b4⟩|⟨k',z',n',x',p'⟩
   ·obtain⟨ok,h1,h2,_⟩:=Zi p;have e:=hdU _ _ _ _ _ b1 h1 b2 h2;subst e;exact b4 _ _ _ _ _ p
   ·exact hne ((U _ _ _ _ _ _ _ _ _ _ _ _ p p').1 rfl).2
 have SN:∀a b t,a<=b->b<=l.length->(∀(j:Nat) (o:bN),a<=j->j<b->l[j]? =some o->o.dst≠some t)->(T b).getD t aA=(T a).getD t aA:=by
  intro a b t hab hb hno;have:=vw (T:=T) (t:=t) (a:=a) (b-a) (λj h1 h2=>by
   have hj:l[j]? =some (l[j]'Om):=ZS Om;obtain⟨v,hv⟩:=Ud j _ hj;exact⟨_,v,hv,hno j _ h1 Om hj⟩)
  rwa [show a+(b-a)=b from by omega]at this
 have hqt:∀(j:Nat) (io:bN),l[j]? =some io->iF (Region.before ops) ops.size j=false->io.q=true:=λj io hj hb=>by
  rcases XZ j io hj with⟨k,t,z,n,x,p,e⟩|⟨s,t,z,n,x,p,e⟩|⟨⟨o,h1,h2⟩,n1,n2⟩
  ·rw[e]
  ·rw[e];rfl
  ·rw[(dN h2).2,hb];rfl
 have hdone:∀(listed:Array Bool) (β θ:Nat) (m1:cw) (ta:Array Value) (a1:Act) (w1:World),(∀i,i<ops.size->listed.getD i false=true)->
   tn P l T H m w (λj=>listed.getD j false) β θ m1 ta w1->qc ops l0 w (λj=>listed.getD j false) ta a1.tmps m1 w1->a1.defers=a.defers->Q .normal a1 w1:=by
  intro listed β θ m1 ta a1 w1 hall M I hd;have hθ:θ=l.length:=by
   have h1:=M.θn;by_cases hz:l.length=0
   ·omega
   ·have:=M.high (l.length-1) (hall _ Om);omega
  subst hθ;refine hQ m1 a1 w1 ⟨M.hr,cQ.iV ?_ ?_⟩ M.grow hd
  ·have:=M.size;have:=I.size;have:=hTl l.length (Z0 _);simp;omega
  ·intro t x hx;have hlt:=(ZM.1 hx).1;have SW:t<a1.tmps.size:=by have:=M.size;have:=I.size;have:=hTl l.length (Z0 _);omega
   have ex:(T l.length).getD t aA=x:=by simp[List.getD,hx]
   have ey:a1.tmps.getD t undef=a1.tmps[t]:=by simp[aaB,aaF SW]
   have eg:a1.tmps.getD t undef=ta.getD t undef:=I.ag t λk s z n x p _ hs=>by
    obtain⟨os,T6,_⟩:=hps p;rw[hall s (fj T6)]at hs;cases hs
   refine⟨a1.tmps[t],Si,?_⟩;rw[<-ex,<-ey,eg];by_cases hw:∃(j:Nat) (o:bN),l[j]? =some o/\o.dst=some t
   ·obtain⟨j,o,hj,ho⟩:=hw;have Vz:=(ZM.1 hj).1;have h1:=M.zl t j o hj (hall j Om) ho;rw[SN (j+1) l.length t Om (Z0 _) (λk o' h2 h3 h4 h5=>huniq j o hj k o' t Om h4 h5 ho)];exact VR.mono (cw.fN _ _) _ _ h1
   ·rw[SN 0 l.length t Om (Z0 _) (λk o' _ _ h4 h5=>hw ⟨k,o',h4,h5⟩)];exact VR.mono (M.grow.le st.hr.cT) _ _ (M.zm t (λj o hj _ ho=>hw ⟨j,o,hj,ho⟩))
 have key:∀(fuel:Nat) (listed:Array Bool) (β θ:Nat) (m1:cw) (ta:Array Value) (a1:Act) (w1:World),listed.size=ops.size->rq listed ops.size<=fuel->
   (∀j x,listed.getD j false=true->x<ops.size->ahead (Region.before ops) x j=true->listed.getD x false=true)->
   tn P l T H m w (λj=>listed.getD j false) β θ m1 ta w1->qc ops l0 w (λj=>listed.getD j false) ta a1.tmps m1 w1->a1.defers=a.defers->wpAnyIn (Fd ro) 0 P .any ops Q fuel listed a1 w1:=by
  intro fuel
  induction fuel with
  |zero=>
   intro listed β θ m1 ta a1 w1 SO hu hcl M I hd;have hall:=lS ops.size (show rq listed ops.size=0 by omega);exact⟨mF SO hall,hdone listed β θ m1 ta a1 w1 hall M I hd⟩
  |succ fuel ih=>
   intro listed β θ m1 ta a1 w1 SO hu hcl M I hd;refine⟨λhr=>hdone listed β θ m1 ta a1 w1 (mE hed SO hr) M I hd,λi hi=>?_⟩;obtain⟨o,ho,TL,XW⟩:=(jL SO).1 hi;have hin:i<ops.size:=(aaa.1 ho).1;have hio:l[i]? =some (l[i]'Om):=ZS Om;generalize l[i]'Om=io at hio;obtain⟨bP,hq⟩:=hrow.step i io hio;have hahead:∀x,x<ops.size->ahead (Region.before ops) x i=true->listed.getD x false=true:=λx hx ha=>by
    exact NV
   have Uu:β<=i:=by
    by_cases hx:i<β
    ·have:=M.low i hx;simp only[TL]at this;cases this
    ·omega
   have UE:∀j x,(listed.setIfInBounds i true).getD j false=true->x<ops.size->ahead (Region.before ops) x j=true->(listed.setIfInBounds i true).getD x false=true:=by
    intro j x hj hx ha;exact z40
   have Wl:rq (listed.setIfInBounds i true) ops.size<=fuel:=by
    exact NP
   have hslot:∀(β' θ':Nat),tn P l T H m w (λj=>listed.getD j false) β' θ' m1 ta w1->i<=θ'->∀t,t∈o.looksAt ops->(∀k s z n x,¬cG ops l0 k s t z n x)->VR (m1.dY (H i).length) ((T i).getD t aA) (ta.getD t undef):=by
    intro β' θ' M' hi' t ht hnp;have h0i:=gh M'.len (aam i) hi';by_cases hex:∃(x:Nat) (ox:bN),l[x]? =some ox/\listed.getD x false=true/\ox.dst=some t
    ·obtain⟨x,ox,hx,hxl,VX⟩:=hex;rcases TO x ox t hx VX with⟨oo,U9,Wi,_⟩|⟨k,z,n,y,p⟩
     ·have hxn:x<ops.size:=(aaa.1 U9).1;have hxi:x<i:=by
       by_cases h1:x=i
       ·subst h1;rw[TL]at hxl;cases hxl
       ·by_cases h2:x<i
        ·exact h2
        ·have h3:=(cW hsl (show i<x by omega) ho U9).2 t Wi ht;have h4:=hcl x i hxl hin h3;rw[TL]at h4;cases h4
      have h1:=M'.zl t x ox hx hxl VX;rw[SN (x+1) i t Om Om (λk o' h2 h3 h4 h5=>huniq x ox hx k o' t Om h4 h5 VX)];exact VR.mono (cw.Ay _ (gh M'.len Om hi')) _ _ h1
     ·exact absurd p (hnp _ _ _ _ _)
    ·rw[SN 0 i t Om Om (λk o' h2 h3 h4 h5=>by
      rcases TO k o' t h4 h5 with⟨oo,U9,Td,_⟩|⟨k',z,n,y,p⟩
      ·have h6:=((cW hsl h3 U9 ho).1 t Td).2 ht;exact hex ⟨k,o',h4,hahead k (aaa.1 U9).1 h6,h5⟩
      ·exact hnp _ _ _ _ _ p)]
     refine VR.mono ?_ _ _ (M'.zm t (λj o hj hl Td=>hex ⟨j,o,hj,hl,Td⟩));intro b e hb;have:=st.hr.cT b e hb;unfold cw.dY;rw[ZY Om];exact M'.grow.le st.hr.cT b e hb
   have ZF:∀t,(∀k s z n x,¬cG ops l0 k s t z n x)->a1.tmps.getD t undef=ta.getD t undef:=λt hnp=>I.ag t λk s z n x p _ _=>hnp _ _ _ _ _ p
   have hTn:∀j,j<=l.length->a1.tmps.size=(T j).length:=λj hj=>by rw[I.size,M.size,hTl j hj]
   have U8:io.q=true->∃θ',i<θ'/\tn P l T H m w (λj=>listed.getD j false) β θ' m1 ta w1:=λUR=>by
    by_cases TM:i<θ
    ·exact⟨θ,TM,M⟩
    ·refine⟨i+1,Om,M.raise Om Om λj hj XU=>?_⟩;have Vz:j<ops.size:=Om
     have Zw:l[j]? =some (l[j]'Om):=ZS Om;by_cases hji:j=i
     ·subst hji;rw[hio]at Zw;exact hq UR
     ·have hjs:listed.getD j false=false:=by
       cases hx:listed.getD j false with
       |false=>rfl
       |true=>have:=M.high j hx;omega
      cases hb:iF (Region.before ops) ops.size j with
      |true=>
       have h1:=(pa hb hin (λx=>hji x.symm)).2 Om;have h2:=hahead j Vz h1;rw[hjs]at h2;cases h2
      |false=>exact(hrow.step j _ Zw).2 (hqt j _ Zw hb)
   have hih:∀(β2 YI:Nat) (m2:cw) (ta2:Array Value) (a2:Act) (w2:World),tn P l T H m w (mark (λj=>listed.getD j false) i) β2 YI m2 ta2 w2->qc ops l0 w (mark (λj=>listed.getD j false) i) ta2 a2.tmps m2 w2->a2.defers=a1.defers->
     wpAnyIn (Fd ro) 0 P .any ops Q fuel (listed.setIfInBounds i true) a2 w2:=λβ2 YI m2 ta2 a2 w2 M2 I2 XX=>
    ih (listed.setIfInBounds i true) β2 YI m2 ta2 a2 w2 (by simpa using SO) Wl UE (by rw[zM Om];exact M2) (by rw[zM Om];exact I2) (XX.trans hd)
   rcases XZ i io hio with⟨k,t,z,n,x,p,e⟩|⟨s,t,z,n,x,p,e⟩|⟨⟨o',ho',SL⟩,n1,n2⟩
   ·
    subst e;obtain⟨os,hos,hosd,SL⟩:=hps p;rw[ho]at hos;cases hos;obtain⟨ok,Wu,Tg,_⟩:=Zi p;have Xw:listed.getD k false=true:=hahead k (fj Wu) (((cW hsl p.ks Wu ho).1 t Tg).2 (hlooks ho p.lt));have hpend:=I.pd _ _ _ _ _ _ p Xw TL;obtain⟨cb,d,cc,el,fz,UD,hheap,SP,hfz,hcon,Y8,hout⟩:=hpend;obtain⟨θ',TM,M'⟩:=U8 rfl;have Up:=M'.cut hG Uu (acg TM);obtain⟨X,hX1,hX2,VK,ZG,hTs⟩:∃X:List AV,X=(val (T i) x).cells/\(X.all AV.one=true/\X.length=n)/\t<(T i).length/\H (i+1)=H i++[.cells X true false]/\T (i+1)=put (T i) (some t) (.ptr (H i).length 0):=by
     generalize H (i+1)=H1 at bP;generalize T (i+1)=T1 at bP;cases bP with
     |run hw hb hs=>
      have hs:dP (.o8 n x) (val (T i)) (H i)=some (_,_):=hs;simp only[dP]at hs;split at hs
      case isFalse=>cases hs
      rename_i SR;cases hs;exact⟨_,rfl,SR,hb,rfl,rfl⟩
     |skip hw=>exact absurd trivial hw
    have hr1:=Up.Nz hheap hfz (λb e he=>hout b e (cw.fN _ _ _ _ he)) SP (λj y hy=>by
     obtain⟨h1,v,h2,h3⟩:=hcon j y hy;exact⟨h1,v,h2,h3 _⟩)
    generalize hmc:(m1.dY (H i).length).add (H i).length ⟨cb,d,cc.size,true⟩=mc at hr1;have XP:mc (H i).length=some ⟨cb,d,cc.size,true⟩:=by rw[<-hmc];simp[cw.add]
    have Wy:∀b,b≠(H i).length->mc b=(m1.dY (H i).length) b:=λb hb=>by rw[<-hmc];unfold cw.add;rw[ZW hb]
    have hmcl:(m1.dY (H i).length).le mc:=λb e he=>by
     by_cases hb:b=(H i).length
     ·subst hb;have:=Up.cT _ _ he;omega
     ·rw[Wy b hb];exact he
    have VI:val (put (T i) (some t) (.ptr (H i).length 0)) x=val (T i) x:=by
     cases x with
     |t u=>
      have hut:=(p.xt u rfl).1;simp only[val];exact yF (λe=>hut (aaN e).symm)
     |_=>rfl
    have hvt:val (put (T i) (some t) (.ptr (H i).length 0)) (.t t)=.ptr (H i).length 0:=by
     simp only[val,put,List.getD];rw[Z8 VK];rfl
    have hzl:z.cells.length=X.length:=by rw[p.zn,hX2.2]
    have Zv:dR P {dst:=none,k:=.store n (.t t) x,gd:=none,q:=true} (put (T i) (some t) (.ptr (H i).length 0)) (H i++[.cells z.cells true false]) (put (T i) (some t) (.ptr (H i).length 0)) (H (i+1)):=by
     refine dR.run (v:=aA) trivial trivial ?_;show dP (.store n (.t t) x) _ _=some (aA,H (i+1));simp only[dP,hvt,VI];rw[Z1 (Z0 _),aaR];show(if(val (T i) x).cells.length=n/\(val (T i) x).cells.all AV.one=true/\0+n<=z.cells.length then some (aA,(H i++[an.cells z.cells true false]).set (H i).length (.cells (gu z.cells 0 (val (T i) x).cells) true false))else none)=_;rw[<-hX1,ZY ⟨hX2.2,hX2.1,by rw[p.zn];omega⟩];have aR:=rz X z.cells [] hzl;rw[abg,abg,ZT]at aR;rw[aR,aaE _ _ (Z0 _),aaR,ZG];rfl
    refine fX ho SL hr1.gv hr1 (by rw[nD];exact hTn i Om) (λu hu=>?_) Zv ro _ Q ?_
    ·by_cases hut:u=t
     ·subst hut;have:(put (T i) (some u) (AV.ptr (H i).length 0)).getD u aA=.ptr (H i).length 0:=hvt;rw[this,UD];exact⟨_,XP,by rw[aaD]⟩
     ·have hnp:∀k s z n x,¬cG ops l0 k s u z n x:=λk' s' z' n' x' p'=>by
       have e:=hpt ho hu _ _ _ _ _ p';exact hut ((U _ _ _ _ _ _ _ _ _ _ _ _ p' p).2.2.1 e.symm)
      rw[yF (λe=>hut (aaN e).symm),ZF u hnp];exact VR.mono hmcl _ _ (hslot β θ' M' (acg TM) u hu hnp)
    ·intro cv v m' w' _ _ hr' SX;have hlen1:(H i++[an.cells z.cells true false]).length=(H i).length+1:=Si
     have WH:(H (i+1)).length=(H i).length+1:=by rw[ZG];simp
     have Zm:∀b,b<(H i).length+1->m' b=mc b:=λb hb=>SX.ext b (by rw[hlen1];exact hb)
     have Zo:m' (H i).length=some ⟨cb,d,cc.size,true⟩:=by rw[Zm _ Om];exact XP
     have Yl:∀b e,(H i).length<=b->m' b=some e->b=(H i).length/\e=⟨cb,d,cc.size,true⟩:=λb e hb he=>by
      have h1:=hr'.cT b e he;rw[WH]at h1;have:b=(H i).length:=Om
      subst this;rw[Zo]at he;cases he;exact⟨rfl,rfl⟩
     have M2:=M'.G5 hG Uu TM TL hio hr' (λb hb=>by rw[Zm b Om,Wy b Om])
      (λb e hb he=>by
       obtain⟨_,rfl⟩:=Yl b e hb he;exact⟨rfl,Y8,λb' e' h=>hout b' e' h⟩)
      (λy hy h1 h2=>SX.frame y hy λb e he ho' hcb=>by
       by_cases hb:b=(H i).length
       ·subst hb;rw[XP]at he;cases he;exact h2 _ _ (Z0 _) Zo hcb
       ·rw[Wy b hb]at he;exact h1 b e he ho' hcb)
      SX.size SX.os SX.out SX.tape (v:=.ptr (H i).length 0) (cv:=a1.tmps.getD t undef) (by rw[UD];exact⟨_,Zo,by rw[aaD]⟩) hTs (hTl i Om) (huniq i _ hio)
     have Zh:a1.put o.dst cv=a1:=by rw[hosd];rfl
     rw[Zh];refine hih _ _ _ _ a1 w' M2 (I.fill U p (by rw[hTn i Om];exact VK) (λzc c hne q=>?_) Xw TL) rfl;refine q.move (λXk d' hc hlt h7=>?_) (λXk d' hc hlt h7 b e he=>?_)
     ·refine SX.frame Xk hlt λb e he _ hcb=>?_
      by_cases hb:b=(H i).length
      ·subst hb;rw[XP]at he;cases he;exact hne _ _ _ _ hc UD hcb.symm
      ·rw[Wy b hb]at he;exact h7 b e (cw.fN _ _ _ _ he) hcb
     ·unfold cw.patch at he;split at he
      ·rename_i hb;by_cases hbl:b<(H i).length
       ·rw[Zm b Om,Wy b Om]at he;exact h7 b e (cw.fN _ _ _ _ he)
       ·obtain⟨_,rfl⟩:=Yl b e Om he
        exactλhcb=>hne _ _ _ _ hc UD hcb.symm
      ·exact h7 b e he
   ·
    subst e;obtain⟨ok,Wu,Tg,SL⟩:=Zi p;rw[ho]at Wu;cases Wu;obtain⟨os,hos,_⟩:=hps p;have hss:listed.getD s false=false:=by
     cases hx:listed.getD s false with
     |false=>rfl
     |true=>
      have:=hcl s i hx hin (((cW hsl p.ks ho hos).1 t Tg).2 (hlooks hos p.lt));rw[TL]at this;cases this
    obtain⟨θ',TM,M'⟩:=U8 rfl;have Up:=M'.cut hG Uu (acg TM);have VK:t<(T i).length:=by
     have hsl':s<l.length:=by rw[hlen];exact fj hos
     have T6:l[s]? =some l[s]:=ZS hsl';have Te:=(hrow.step s _ T6).1;rcases XZ s _ T6 with⟨k',t',z',n',x',p',e⟩|⟨s',t',z',n',x',p',e⟩|⟨_,n1,_⟩
     ·have e2:=(U _ _ _ _ _ _ _ _ _ _ _ _ p p').2.2.1 rfl;subst e2;rw[e]at Te;generalize H (s+1)=H1 at Te;generalize T (s+1)=T1 at Te;have:t<(T s).length:=by
       cases Te with
       |run hw hb hs=>exact hb
       |skip hw=>exact absurd trivial hw
      rw[hTl s Om]at this;rw[hTl i Om];exact this
     ·exact absurd rfl ((U _ _ _ _ _ _ _ _ _ _ _ _ p' p).2.2.2)
     ·exact absurd p (n1 _ _ _ _ _)
    have hHk:H (i+1)=H i/\T (i+1)=T i:=by
     generalize H (i+1)=H1 at bP;generalize T (i+1)=T1 at bP;cases bP with
     |run hw hb hs=>
      have hs:dP (.bY (.c (.bool false))) (val (T i)) (H i)=some (_,_):=hs;simp only[dP]at hs;cases hs;exact⟨rfl,rfl⟩
     |skip hw=>exact absurd trivial hw
    have Zv:dR P {dst:=some t,k:=.box (.c z),gd:=none,q:=true} (T i) (H i) (put (T i) (some t) (.ptr (H i).length 0)) (H i++[.cells z.cells true false]):=by
     refine dR.run (v:=.ptr (H i).length 0) trivial trivial ?_;exact ZY (show(val (T i) (.c z)).cells.all AV.one=true from aas.2 λy hy=>Dr (aas.1 p.zc y hy))
    refine fX ho SL Up.gv Up (hTn i Om) (λu hu=>?_) Zv ro _ Q ?_
    ·have hnp:∀k s z n x,¬cG ops l0 k s u z n x:=λk' s' z' n' x' p'=>by
      have e:=hpt ho hu _ _ _ _ _ p';exact(U _ _ _ _ _ _ _ _ _ _ _ _ p p').2.2.2 e
     rw[ZF u hnp];exact hslot β θ' M' (acg TM) u hu hnp
    ·intro cv v m' w' T4 Ul hr' SX;have hv:v=.ptr (H i).length 0:=by
      rw[Tg]at T4;have:=aan (λl:TS=>l[t]?) T4;simp only[put]at this;rw[Z8 VK,Z8 VK]at this;exact(aaN this).symm
     subst hv;obtain⟨e,he,UD⟩:=Ul;obtain⟨cc,el,fz,Ta,To,VS,hb4,hb5⟩:=hr'.eO _ e _ he (by rw[Z1 (Z0 _),aaR];rfl);obtain⟨hown,hex⟩:=hb5 (.inl rfl);have hex:=hex rfl;obtain⟨_,hnew⟩:=SX.new _ e (Z0 _) he;have hfar:w1.heap.size<=e.cb:=by
      rcases hnew with hnew|⟨b0,e0,c1,_,_,c4,c5⟩
      ·exact hnew
      ·have:=Up.cT b0 e0 c1;unfold fk at c4 c5;rw[ZQ this]at c5;rw[c5]at c4;cases c4
     rw[aaD]at UD;have V6:=Up.forget hr' SX;have Vf:=SX.forget;have M2:=M'.next hG Uu TM TL hio (m1:=m'.dY (H i).length) (w1:=w') (by rw[hHk.1];exact V6) (by rw[hHk.1];exact Vf) (v:=.bool false) (cv:=.bool false) rfl (by rw[hHk.2];rfl) (hTl i Om) (huniq i _ hio);have hin2:∀b e',((m'.dY (H i).length).patch m1 (H (i+1)).length) b=some e'->m1 b=some e':=λb e' h=>by
      unfold cw.patch at h;split at h
      ·have hbl:b<(H i).length:=by
        unfold cw.dY at h;split at h
        ·assumption
        ·cases h
       rw[Vf.ext b hbl]at h;exact cw.fN _ _ _ _ h
      ·exact h
     have hp2:∀zc c,lG m1 w w1 zc c->lG ((m'.dY (H i).length).patch m1 (H (i+1)).length) w w' zc c:=λzc c q=>q.move
      (λXk d' _ hlt h7=>SX.frame Xk hlt λb e' h _=>h7 b e' (cw.fN _ _ _ _ h)) (λXk d' _ hlt h7 b e' h=>h7 b e' (hin2 b e' h))
     have Zh:(a1.put o.dst cv).tmps=iJ a1.tmps (some t) cv:=by rw[Tg];rfl
     refine hih _ _ _ _ (a1.put o.dst cv) w' M2 ?_ (put_defers ..);rw[Zh];show qc ops l0 w _ (iJ ta Iy.dst _) _ _ _;refine I.make U p (by rw[hTn i Om];exact VK) hss ?_ (λXk d' h=>?_) hp2
     ·refine⟨e.cb,e.d,cc,el,fz,UD,Ta,Om,(hb4 hown).2,λj y hy=>?_,aaz M.grow.size hfar,λb e' h=>?_⟩
      ·obtain⟨h1,v,h2,h3⟩:=VS j y hy;exact⟨h1,v,h2,FD (aas.1 p.zc y (aaK hy)) h3⟩
      ·have:=M.hr.lt b e' (hin2 b e' h);omega
     ·rw[UD]at h;cases h;exact hfar
   ·
    rw[ho]at ho';cases ho';obtain⟨ZA,hioq⟩:=dN SL;have hnp:∀t,t∈o.looksAt ops->∀k s z n x,¬cG ops l0 k s t z n x:=λt ht k s z n x p=>by
     have:=hpt ho ht k s z n x p;subst this;exact n1 _ _ _ _ _ p
    have Uy:∀k s t z n x,cG ops l0 k s t z n x->io.dst≠some t:=λk s t z n x p hx=>by
     obtain⟨ok,h1,h2,_⟩:=Zi p;have e:=hdU _ _ _ _ _ h1 ho h2 (by rw[<-ZA];exact hx);subst e;exact n2 _ _ _ _ _ p
    have hop:∀(β' θ':Nat),tn P l T H m w (λj=>listed.getD j false) β' θ' m1 ta w1->β'<=i->i<=θ'->
      (∀cv v m' w',T (i+1)=put (T i) io.dst v->VR m' v cv->HR P m' (H (i+1)) w'->Grow (m1.dY (H i).length) (H i) w1 m' (H (i+1)) w'->∃β2 YI m2,tn P l T H m w (mark (λj=>listed.getD j false) i) β2 YI m2 (iJ ta io.dst cv) w'/\∀zc c,lG m1 w w1 zc c->lG m2 w w' zc c)->
      wpOpIn (Fd ro) 0 P ops Q i (wpAnyIn (Fd ro) 0 P .any ops Q fuel (listed.setIfInBounds i true)) a1 w1:=by
     intro β' θ' M' hb' hi' Wv;have Up:=M'.cut hG hb' hi';refine fX ho SL Up.gv Up (hTn i Om) (λt ht=>?_) bP ro _ Q ?_
     ·rw[ZF t (hnp t ht)];exact hslot β' θ' M' hi' t ht (hnp t ht)
     ·intro cv v m' w' T4 Ul hr' SX;obtain⟨β2,YI,m2,M2,hp2⟩:=Wv cv v m' w' (by rw[ZA];exact T4) Ul hr' SX;have:(a1.put o.dst cv).tmps=iJ a1.tmps io.dst cv:=by rw[ZA];cases o.dst<;>rfl
      exact hih β2 YI m2 _ _ w' M2 (by rw[this];exact I.other n1 n2 Uy hp2) (put_defers ..)
    by_cases UR:io.q=true
    ·obtain⟨θ',TM,M'⟩:=U8 UR;exact hop β θ' M' Uu Om λcv v m' w' T4 Ul hr' SX=>⟨β,θ',_,M'.next hG Uu TM TL hio hr' SX Ul T4 (hTl i Om) (huniq i io hio),λzc c q=>(q.grow SX).2⟩
    ·have hbar:iF (Region.before ops) ops.size i=true:=by
      rw[hioq]at UR
      simpa using UR
     have hall:∀j,j<i->listed.getD j false=true:=λj hj=>hahead j Om ((pa hbar (show j<ops.size by omega) Om).1 hj)
     by_cases TM:i<θ
     ·exact hop β θ M Uu Om λcv v m' w' T4 Ul hr' SX=>⟨β,θ,_,M.next hG Uu TM TL hio hr' SX Ul T4 (hTl i Om) (huniq i io hio),λzc c q=>(q.grow SX).2⟩
     ·have hθi:θ=i:=by
       by_cases hz:i=0
       ·omega
       ·have:=M.high (i-1) (hall _ Om);omega
      subst hθi;exact hop β θ M Uu (Z0 _) λcv v m' w' T4 Ul hr' SX=>⟨θ+1,θ+1,m',M.jump st.hr.cT hall Om hio hr' SX Ul T4 (hTl θ Om) (huniq θ io hio),λzc c q=>(q.grow SX).1⟩
 have SF:∀j,(Array.replicate ops.size false).getD j false=false:=λj=>by
  exact NR
 refine key ops.size (Array.replicate ops.size false) 0 0 m a.tmps a _ Si ?_ (λj x hj _ _=>by simp[SF j]at hj) ?_ ?_ rfl
 ·exact NW
 ·refine⟨Z0 _,aam _,λj hj=>absurd hj Om,λj hj=>by simp[SF j]at hj,λj _ hj=>absurd hj Om,λj hj=>absurd hj Om,st.hr.drew,λj hj=>absurd hj Om,?_,λj _ hj=>absurd hj Om,
   (Grow.refl m _ w st.hr.cT).drew,?_,?_,?_⟩
  ·intro i hi hi' b e k hb TJ hk;have:i=0:=Om
   subst this;exact(st.hr.eO b e k TJ hk).jI st.hr.cT
  ·exact z145
  ·intro d _;exact nV st.ts d
  ·intro d j o _ hj _;simp only[SF j]at hj;cases hj
 ·exact⟨rfl,λ_ _=>rfl,λk s t z n x p hk=>by simp[SF k]at hk,λk s t z n x k' s' t' z' n' x' p p' hk=>by simp[SF k]at hk⟩
def Io{k}(hk:fW k=true){ρ h h' v}(hs:ni k ρ h v h'):h' =h/\∀g,ni k ρ g v g:=by
 cases k<;>first
  |(cases hk;done)
  |skip
 case conv c x=>
  cases c<;>first
   |(cases hk;done)
   |skip
  have hs:dP _ _ _=some (_,_):=hs;simp only[dP,kX]at hs;split at hs
  ·rename_i k n hx;cases hs;refine⟨rfl,λg=>?_⟩;show dP _ _ _=some (_,_);simp only[dP,kX,hx]
  ·cases hs
 case len lk x=>
  have e:lk≠.mp->∀g,AS lk g (ρ x)=AS lk h (ρ x):=λhl g=>by
   cases lk<;>first|exact absurd rfl hl|skip
   all_goals
    cases ρ x<;>first|rfl|(simp only[AS,reduceCtorEq,Z3];repeat' split)<;>rfl
  have hl:lk≠.mp:=λe=>by rw[e]at hk;cases hk
  have hs:dP _ _ _=some (_,_):=hs;simp only[dP]at hs;split at hs
  ·rename_i n hn;cases hs;refine⟨rfl,λg=>?_⟩;show dP _ _ _=some (_,_);simp only[dP,e hl g,hn]
  ·cases hs
 all_goals
  have hs:dP _ _ _=some (_,_):=hs;simp only[dP]at hs
  repeat' split at hs
  all_goals first
   |(cases hs;done)
   |(cases hs
     refine⟨rfl,λg=>?_⟩;show dP _ _ _=some (_,_);simp only[dP, *]
     done)
   |(cases hs
     refine⟨rfl,λg=>?_⟩;show dP _ _ _=some (_,_);simp[dP, *]
     done)
def yH{P o}(hk:fW o.k=true){ts ts' h h'}(hs:dR P o ts h ts' h'):h' =h/\∀g,dR P o ts g ts' g:=by
 cases hs with
 | @run v h' hw hb hs=>
  have Sx:ni o.k (val ts) h v h':=by
   cases Uz:o.k<;>rw[Uz]at hs hk<;>first|exact hs|(cases hk;done)
  obtain⟨rfl,h2⟩:=Io hk Sx;refine⟨rfl,λg=>.run hw hb ?_⟩;have:=h2 g;cases Uz:o.k<;>rw[Uz]at this hk<;>first|exact this|(cases hk;done)
 |skip hw=>exact⟨rfl,λg=>.skip hw⟩
def yE{P o}(hk:cI o.k=true){ts ts' h h'}(hs:dR P o ts h ts' h'):h' =h:=by
 by_cases hp:fW o.k=true
 ·exact(yH hp hs).1
 ·cases Uz:o.k with
  |load n a=>
   cases hs with
   |run hw hb hs=>
    rw[Uz]at hs;have hs:dP (.load n a) _ _=some (_,_):=hs;simp only[dP]at hs
    repeat' split at hs
    all_goals first
     |(cases hs;done)
     |(cases hs;rfl)
   |skip hw=>rfl
  |_=>rw[Uz]at hk hp;exact absurd hk hp
def Gb{P o}(hk:lE o=true){ts ts' h h'}(hs:dR P o ts h ts' h')(hq:o.q=true->∃g,h' =h++g):∃g,h' =h++g:=by
 by_cases hqq:o.q=true
 ·exact hq hqq
 have hk:DN o.k=true:=by
  have:o.q=false:=by simpa using hqq
  simpa [lE,this]using hk
 cases hs with
 |run hw hb hs=>
  cases Uz:o.k<;>rw[Uz]at hk hs<;>first|(cases hk;done)|skip
  case bh es n z ps=>
   have hs:ni (.bh es n z ps) _ _ _ _:=hs;obtain⟨c,mu,tl,_,_,_,_,e⟩:=hs;exact⟨_,e⟩
  all_goals
   have hs:dP _ _ _=some (_,_):=hs;simp only[dP]at hs
   repeat' split at hs
   all_goals first
    |(cases hs;done)
    |(cases hs;exact⟨_,rfl⟩)
 |skip hw=>exact⟨[],Si⟩
def CZ{P o n a}(hk:o.k=.load n a){ts ts' h}(hs:dR P o ts h ts' h)(g:ah):dR P o ts (h++g) ts' (h++g):=by
 generalize hh:h=h2 at hs;cases hs with
 | @run v _ hw hb hs=>
  subst hh;refine .run hw (by rw[hk];trivial) ?_;rw[hk]at hs ⊢;have hs:dP (.load n a) (val ts) h=some (v,h):=hs;show dP (.load n a) (val ts) (h++g)=some (v,h++g);simp only[dP]at hs ⊢;cases hv:val ts a with
  |ptr b off=>
   rw[hv]at hs;simp only at hs ⊢;cases To:h[b]? with
   |none=>rw[To]at hs;cases hs
   |some k=>
    rw[ZQ (ZM.1 To).1,To];rw[To]at hs;cases k with
    |cells c mu tl=>
     simp only at hs ⊢;cases n with
     |none=>
      simp only at hs ⊢;cases hc:c[off]? with
      |none=>rw[hc]at hs;cases hs
      |some x=>rw[hc]at hs;cases hs;rfl
     |some n=>
      simp only at hs ⊢;by_cases hlt:off+n<=c.length
      ·rw[ZY hlt]at hs ⊢;cases hs;rfl
      ·rw[ZW hlt]at hs;cases hs
    |_=>cases hs
  |_=>rw[hv]at hs;cases hs
 |skip hw=>subst hh;exact .skip hw
def HR.CE{P m h w}(hr:HR P m h w)(g:ah):HR P m (h++g) w where
 cT:=λb e hb=>by have:=hr.cT b e hb;simp;omega
 eO:=λb e k hb hk=>hr.eO b e k hb (by rwa [ZQ (hr.cT b e hb)]at hk)
 sep:=λb1 b2 e1 e2 k1 k2 hne h1 h2 hk1 Sy hcb=>hr.sep b1 b2 e1 e2 k1 k2 hne h1 h2 (by rwa [ZQ (hr.cT b1 e1 h1)]at hk1) (by rwa [ZQ (hr.cT b2 e2 h2)]at Sy) hcb
 gS:=hr.gS
 lt:=hr.lt
def HR.IF{P m h g w}(hr:HR P m (h++g) w)(hd:∀b e,m b=some e->b<h.length):HR P m h w where
 cT:=hd
 eO:=λb e k hb hk=>hr.eO b e k hb (by rw[ZQ (hd b e hb)];exact hk)
 sep:=λb1 b2 e1 e2 k1 k2 hne h1 h2 hk1 Sy hcb=>hr.sep b1 b2 e1 e2 k1 k2 hne h1 h2 (by rw[ZQ (hd b1 e1 h1)];exact hk1) (by rw[ZQ (hd b2 e2 h2)];exact Sy) hcb
 gS:=hr.gS
 lt:=hr.lt
def jU{M l}(h:oE M l=true){i j x y}(hij:i<j)(hx:l[i]? =some x)(hy:l[j]? =some y)(px:fW x.k=false)(py:fW y.k=false)(lx:mZ x=false)(ly:mZ y=false)
  (hr:(cI x.k=false/\cI y.k=false)\/(cI x.k=false/\lE x=false)\/(cI y.k=false/\lE y=false)):ahead M i j=true:=by
 have hj:j<l.length:=(ZM.1 hy).1;unfold oE at h;rw[aas]at h;have h1:=h j (aaZ.2 hj);rw[aas]at h1;have h2:=h1 i (aaZ.2 hij);rw[hx,hy]at h2;simp only[px,py,lx,ly,abZ]at h2;rcases hr with⟨a,b⟩|⟨a,b⟩|⟨a,b⟩<;>simpa [a,b]using h2
theorem zQ:∀{l}{i}{o},l[i]? =some o->C0 o=false->i<dZ l
 |[],i,o,h,_=>by simp at h
 |x::r,i,o,h,hk=>by
  have hn:¬lh (x::r)=true:=λhall=>by
   have:=aas.1 (Bool.and_eq_true_iff.1 hall).1 o (aaK h);rw[hk]at this;cases this
  rw[dZ,ZW hn];cases i with
  |zero=>omega
  |succ i=>have:=zQ (l:=r) (i:=i) (by simpa using h) hk;omega
def qy{M l}(h:nH M l=true){i j x y}(hx:l[i]? =some x)(lx:mZ x=true)(hy:l[j]? =some y)(ky:cI y.k=false)(hj:dZ l<=j):ahead M i j=true:=by
 unfold nH at h;rw[aas]at h;have h1:=h i (aaZ.2 (ZM.1 hx).1);rw[hx]at h1;simp only[lx,aad,abZ,aas,aaZ]at h1;have h2:=h1 j (ZM.1 hy).1;rw[hy]at h2;have XU:¬j<dZ l:=Om
 simpa [ky,XU]using h2
def rH{P cq}(hmix:P.follows .mixedOrders=true){ops l}(hed:lz (Region.before ops) ops=true)(hsl:mC (Region.before ops) ops=true)
  (hc:fA (λ_ o=>bV P ops (td cq o) o) ops.toList 0=some l) (hmo:oE (Region.before ops) l=true) {T}{H}(hrow:Row P l T H) (hstab:∀(i:Nat) (io:bN),l[i]? =some io->mZ io=true->∀θ,θ<=dZ l->dR P io (T i) (H θ) (T (i+1)) (H θ)) (hlate:∀(i j:Nat) (x y:bN),l[i]? =some x->mZ x=true->l[j]? =some y->cI y.k=false->dZ l<=j->ahead (Region.before ops) i j=true) {m}{a}{w}
  (st:St P m (T 0) (H 0) a w) (ro:Option Nat) (Q:Exit->Act->World->Prop) (hQ:∀m' a' w',St P m' (T l.length) (H l.length) a' w'->Grow m (H 0) w m' (H l.length) w'->a'.defers=a.defers->Q .normal a' w') (id:Nat):
  (Code.region id ops true).wpIn (Fd ro) 0 P Q a w:=by
 refine wpIn_region_any hmix ?_;obtain⟨SQ,SG⟩:=gV hc;simp only[abY]at SQ;have Xa:∀(j:Nat) (io:bN),l[j]? =some io->∃o,ops[j]? =some o/\bV P ops (td cq o) o=some io:=λj io hj=>by
  exact z31
 have TO:∀(j:Nat) (io:bN) (d:Nat),l[j]? =some io->io.dst=some d->∃o,ops[j]? =some o/\o.dst=some d:=λj io d hj hd=>by
  exact z76
 have huniq:∀(i j:Nat) (oi oj:bN) (d:Nat),l[i]? =some oi->l[j]? =some oj->oi.dst=some d->oj.dst=some d->i=j:=λi j oi oj d hi hj h1 h2=>by
  exact z28
 have Ud:∀(j:Nat) (io:bN),l[j]? =some io->∃v,T (j+1)=put (T j) io.dst v:=λj io hj=>(hrow.step j io hj).1.put
 have hTl:∀j,j<=l.length->(T j).length=(T 0).length:=by
  intro j
  induction j with
  |zero=>intro _;rfl
  |succ j ih=>
   intro hj;exact Of
 have SN:∀x y t,x<=y->y<=l.length->(∀(j:Nat) (o:bN),x<=j->j<y->l[j]? =some o->o.dst≠some t)->(T y).getD t aA=(T x).getD t aA:=by
  intro x y t hxy hy hno;exact z49
 have Vn:∀(j:Nat) (io:bN),l[j]? =some io->cI io.k=true->H (j+1)=H j:=λj io hj hk=>yE hk (hrow.step j io hj).1
 have Vo:∀x k,x+k<=l.length->(∀(j:Nat) (o:bN),x<=j->j<x+k->l[j]? =some o->cI o.k=true)->H (x+k)=H x:=by
  intro x k
  induction k with
  |zero=>intro _ _;rfl
  |succ k ih=>
   intro hk hno;exact Rj
 have YA:∀x k,x+k<=l.length->(∀(j:Nat) (o:bN),x<=j->j<x+k->l[j]? =some o->cI o.k=true\/lE o=true)->∃g,H (x+k)=H x++g:=by
  intro x k
  induction k with
  |zero=>intro _ _;exact⟨[],Si⟩
  |succ k ih=>
   intro hk hno;have hj:l[x+k]? =some (l[x+k]'Om):=ZS Om;obtain⟨g,hg⟩:=ih Om λj o h1 h2 h3=>hno j o h1 Om h3
   rcases hno _ _ Om Om hj with h1|h1
   ·exact⟨g,by rw[show x+(k+1)=x+k+1 from by omega,Vn _ _ hj h1,hg]⟩
   ·obtain⟨g2,WT⟩:=Gb h1 (hrow.step _ _ hj).1 (hrow.step _ _ hj).2;exact⟨g++g2,by rw[show x+(k+1)=x+k+1 from by omega,WT,hg,ZO]⟩
 have VT:∀x y,x<=l.length->y<=l.length->(∀(j:Nat) (o:bN),l[j]? =some o->cI o.k=false->(j<x↔j<y))->H x=H y:=by
  intro x y hx hy hno;exact Rt
 have hdone:∀(listed:Array Bool) (θ:Nat) (m1:cw) (a1:Act) (w1:World),(∀i,i<ops.size->listed.getD i false=true)->θ<=l.length->
   (∀(j:Nat) (o:bN),l[j]? =some o->cI o.k=false->(j<θ↔listed.getD j false=true))->HR P m1 (H θ) w1->Grow m (H 0) w m1 (H θ) w1->a1.tmps.size=(T 0).length->
   (∀(d:Nat),(∀(j:Nat) (o:bN),l[j]? =some o->listed.getD j false=true->o.dst≠some d)->VR m1 ((T 0).getD d aA) (a1.tmps.getD d undef))->
   (∀(d j:Nat) (o:bN),l[j]? =some o->listed.getD j false=true->o.dst=some d->VR m1 ((T (j+1)).getD d aA) (a1.tmps.getD d undef))->a1.defers=a.defers->Q .normal a1 w1:=by
  intro listed θ m1 a1 w1 hall hθ hS hr hg fj h1 h2 hd;have e:=VT θ l.length hθ (Z0 _) λj o hj hk=>by
   have Vz:=(ZM.1 hj).1;have:=(hS j o hj hk).2 (hall j Om);omega
  rw[e]at hr hg;refine hQ m1 a1 w1 ⟨hr,cQ.iV ?_ ?_⟩ hg hd
  ·exact HI
  ·intro t x hx;exact Rz
 have key:∀(fuel:Nat) (listed:Array Bool) (θ:Nat) (m1:cw) (a1:Act) (w1:World),listed.size=ops.size->rq listed ops.size<=fuel->
   (∀j x,listed.getD j false=true->x<ops.size->ahead (Region.before ops) x j=true->listed.getD x false=true)->θ<=l.length->(θ<=dZ l\/∃(j:Nat) (o:bN),l[j]? =some o/\cI o.k=false/\dZ l<=j/\j<θ)->
   (∀(j:Nat) (o:bN),l[j]? =some o->cI o.k=false->(j<θ↔listed.getD j false=true))->HR P m1 (H θ) w1->Grow m (H 0) w m1 (H θ) w1->a1.tmps.size=(T 0).length->
   (∀(d:Nat),(∀(j:Nat) (o:bN),l[j]? =some o->listed.getD j false=true->o.dst≠some d)->VR m1 ((T 0).getD d aA) (a1.tmps.getD d undef))->
   (∀(d j:Nat) (o:bN),l[j]? =some o->listed.getD j false=true->o.dst=some d->VR m1 ((T (j+1)).getD d aA) (a1.tmps.getD d undef))->a1.defers=a.defers->wpAnyIn (Fd ro) 0 P .any ops Q fuel listed a1 w1:=by
  intro fuel
  induction fuel with
  |zero=>
   intro listed θ m1 a1 w1 SO hu hcl hθ hL hS hr hg fj h1 h2 hd;have hall:=lS ops.size (show rq listed ops.size=0 by omega);exact⟨mF SO hall,hdone listed θ m1 a1 w1 hall hθ hS hr hg fj h1 h2 hd⟩
  |succ fuel ih=>
   intro listed θ m1 a1 w1 SO hu hcl hθ hL hS hr hg fj h1 h2 hd;refine⟨λhrn=>hdone listed θ m1 a1 w1 (mE hed SO hrn) hθ hS hr hg fj h1 h2 hd,λi hi=>?_⟩;obtain⟨o,ho,TL,XW⟩:=(jL SO).1 hi;have hin:i<ops.size:=(aaa.1 ho).1;obtain⟨io,hio,SL⟩:=SG i o (by simpa using ho);obtain⟨bP,_⟩:=hrow.step i io hio;have hahead:∀x,x<ops.size->ahead (Region.before ops) x i=true->listed.getD x false=true:=λx hx ha=>by
    exact NV
   have UE:∀j x,(listed.setIfInBounds i true).getD j false=true->x<ops.size->ahead (Region.before ops) x j=true->(listed.setIfInBounds i true).getD x false=true:=by
    intro j x hj hx ha;exact z40
   have Wl:rq (listed.setIfInBounds i true) ops.size<=fuel:=by
    exact NP
   have hslot:∀t,t∈o.looksAt ops->VR m1 ((T i).getD t aA) (a1.tmps.getD t undef):=by
    intro t ht;exact z12
   have hrp:∀{k:pE},cI k=false->fW k=false:=λ{k} hk=>by
    cases k<;>first|exact hk|(cases hk;done)
   have hld:∀{o:bN},cI o.k=false->mZ o=false:=λ{o} hk=>by
    exact KM
   have hne:∀j,j≠i->(listed.setIfInBounds i true).getD j false=listed.getD j false:=λj hj=>by rw[dw Om,ZW hj]
   have XJ:cI io.k=true->∀(j:Nat) (o:bN),l[j]? =some o->cI o.k=false->(j<θ↔(listed.setIfInBounds i true).getD j false=true):=λTH j oj hj hk=>by
    have hji:j≠i:=λe=>by
     subst e;rw[hio]at hj;cases hj;rw[TH]at hk;cases hk
    rw[hne j hji];exact hS j oj hj hk
   have Tn:∃θ',θ'<=l.length/\(θ'<=dZ l\/∃(j:Nat) (o:bN),l[j]? =some o/\cI o.k=false/\dZ l<=j/\j<θ')/\(∀(j:Nat) (o:bN),l[j]? =some o->cI o.k=false->(j<θ'↔(listed.setIfInBounds i true).getD j false=true))/\∃hb h2,HR P m1 hb w1/\dR P io (T i) hb (T (i+1)) h2/\
     ∀m' w',HR P m' h2 w'->Grow m1 hb w1 m' h2 w'->HR P m' (H θ') w'/\Grow m1 (H θ) w1 m' (H θ') w':=by
    by_cases hp:fW io.k=true
    ·have TH:cI io.k=true:=by cases Uz:io.k<;>rw[Uz]at hp<;>first|exact hp|(cases hp;done)
     exact⟨θ,hθ,hL,XJ TH,H θ,H θ,hr,(yH hp bP).2 _,λm' w' a b=>⟨a,b⟩⟩
    ·have Yk:fW io.k=false:=by simpa using hp
     by_cases VZ:mZ io=true
     ·have TH:cI io.k=true:=by
       cases Uz:io.k<;>simp[mZ,Uz]at VZ<;>rfl
      have hθc:θ<=dZ l:=by
       rcases hL with h|⟨j,oj,h1,h2,h3,h4⟩
       ·exact h
       ·have e:=hcl j i ((hS j oj h1 h2).1 h4) hin (hlate i j io oj hio VZ h1 h2 h3);rw[TL]at e;cases e
      exact⟨θ,hθ,hL,XJ TH,H θ,H θ,hr,hstab i io hio VZ θ hθc,λm' w' a b=>⟨a,b⟩⟩
     have VZ:mZ io=false:=by simpa using VZ
     by_cases TH:cI io.k=true
     ·obtain⟨n,ad,Uz⟩:∃n ad,io.k=.load n ad:=by
       cases Uz:io.k with
       |load n ad=>exact⟨n,ad,rfl⟩
       |_=>rw[Uz]at TH hp;exact absurd TH hp
      have hHh:∀(j:Nat) (o:bN),l[j]? =some o->cI o.k=false->lE o=false->(j<θ↔j<i):=λj oj hj hk Sy=>by
       have Vz:=(ZM.1 hj).1;constructor
       ·intro WI;have UA:=(hS j oj hj hk).1 WI;by_cases e1:j=i
        ·exact HG
        ·by_cases e2:j<i
         ·exact e2
         ·have e3:=jU hmo (show i<j by omega) hio hj Yk (hrp hk) VZ (hld hk) (.inr (.inr ⟨hk,Sy⟩));have e4:=hcl j i UA hin e3;rw[TL]at e4;cases e4
       ·intro hji;exact(hS j oj hj hk).2 (hahead j Om (jU hmo hji hj hio (hrp hk) Yk (hld hk) VZ (.inr (.inl ⟨hk,Sy⟩))))
      have U7:dR P io (T i) (H i) (T (i+1)) (H i):=by
       have e:=yE TH bP;rw[e]at bP;exact bP
      by_cases TM:i<=θ
      ·obtain⟨g,WT⟩:=YA i (θ-i) Om λj oj h1 h2 h3=>by
        exact Q6
       rw[show i+(θ-i)=θ from by omega]at WT;refine⟨θ,hθ,hL,XJ TH,H θ,H θ,hr,?_,λm' w' a b=>⟨a,b⟩⟩;rw[WT];exact CZ Uz U7 g
      ·obtain⟨g,WT⟩:=YA θ (i-θ) Om λj oj h1 h2 h3=>by
        exact Q6
       rw[show θ+(i-θ)=i from by omega]at WT;rw[WT]at U7;refine⟨θ,hθ,hL,XJ TH,H θ++g,H θ++g,hr.CE g,U7,λm' w' a b=>?_⟩;have hm:m' =m1:=by
        funext z;by_cases hz:z<(H θ++g).length
        ·exact b.ext z hz
        ·have e1:m1 z=none:=by
          cases hx:m1 z with
          |none=>rfl
          |some e=>exact absurd ((hr.CE g).cT z e hx) hz
         have e2:m' z=none:=by
          cases hx:m' z with
          |none=>rfl
          |some e=>exact absurd (a.cT z e hx) hz
         rw[e1,e2]
       subst hm;exact⟨a.IF hr.cT,⟨λ_ _=>rfl,Z0 _,λz e hz hmz=>absurd (hr.cT z e hmz) Om,λ_ _ x=>x,b.size,b.os,b.out,b.tape,b.frame⟩⟩
     ·have T7:cI io.k=false:=by simpa using TH
      have hHi:H θ=H i:=VT θ i hθ Om λj oj hj hk=>by
       have Vz:=(ZM.1 hj).1;constructor
       ·intro WI;have UA:=(hS j oj hj hk).1 WI;by_cases e1:j=i
        ·exact HG
        ·by_cases e2:j<i
         ·exact e2
         ·exact Ln
       ·intro hji;exact(hS j oj hj hk).2 (hahead j Om (jU hmo hji hj hio (hrp hk) Yk (hld hk) VZ (.inl ⟨hk,T7⟩)))
      refine⟨i+1,Om,(by by_cases hc:i+1<=dZ l;exact .inl hc;exact .inr ⟨i,io,hio,T7,Om,Om⟩),λj oj hj hk=>?_,H θ,H (i+1),hr,by rw[hHi];exact bP,λm' w' a b=>⟨a,b⟩⟩;have Vz:=(ZM.1 hj).1;by_cases e1:j=i
      ·subst e1;rw[dw Om,ZY rfl];exact⟨λ_=>rfl,λ_=>by omega⟩
      ·rw[hne j e1];constructor
       ·intro hji;exact hahead j Om (jU hmo (show j<i by omega) hj hio (hrp hk) Yk (hld hk) VZ (.inl ⟨hk,T7⟩))
       ·intro UA;by_cases e2:j<i
        ·omega
        ·exact Ln
   obtain⟨θ',Y5,VC,hS',hb,h2',XK,U7,Ub⟩:=Tn;refine fX ho SL XK.gv XK (by rw[fj,hTl i Om]) hslot U7 ro _ Q ?_;intro cv v' m' w' T4 Ul hrx hgx;obtain⟨hr',SX⟩:=Ub m' w' hrx hgx;have Td:io.dst=o.dst:=(dN SL).1;have U5:=SX.le hr.cT;have hlt:(listed.setIfInBounds i true).getD i false=true:=by rw[dw Om,ZY rfl]
   have VJ:(a1.put o.dst cv).tmps=iJ a1.tmps o.dst cv:=by cases o.dst<;>rfl
   refine ih _ θ' m' (a1.put o.dst cv) w' (by simp[SO]) Wl UE Y5 VC hS' hr' (hg.trans SX st.hr.cT) (by rw[VJ,fK];exact fj) ?_ ?_ (by rw[put_defers];exact hd)
   ·intro d hdn;have Uy:o.dst≠some d:=by rw[<-Td];exact hdn i io hio hlt
    rw[VJ,dS Uy];refine VR.mono U5 _ _ (h1 d λj oj hj hl=>hdn j oj hj ?_);exact NQ
   ·intro d j oj hj hl VQ;by_cases e1:j=i
    ·subst e1;rw[hio]at hj;cases hj;rw[T4,VJ,<-Td,VQ];exact lV (by rw[fj,hTl j Om]) Ul
    ·have Uy:o.dst≠some d:=λhx=>by
      exact z131
     rw[VJ,dS Uy];rw[hne j e1]at hl;exact VR.mono U5 _ _ (h2 d j oj hj hl VQ)
 have SF:∀j,(Array.replicate ops.size false).getD j false=false:=λj=>by
  exact NR
 refine key ops.size (Array.replicate ops.size false) 0 m a _ Si ?_ (λj x hj _ _=>by simp[SF j]at hj) (aam _) (.inl (aam _)) (λj oj hj hk=>⟨λhx=>absurd hx Om,λhx=>by simp[SF j]at hx⟩) st.hr.drew (Grow.refl m _ w st.hr.cT).drew ?_ (λd _=>nV st.ts d) (λd j o _ hj _=>by simp[SF j]at hj) rfl
 ·exact NW
 ·exact z145
section
variable {P:Program}{m m':cw}{h h':ah}{w w':World}
def wy{ops i o}(ho:ops[i]? =some o){q io}(hc:bV P ops q o=some io)(hgd0:io.gd=none){ts a v}
  (hg:GV P m) (hr:HR P m h w) (ht:∀t,t∈o.looksAt ops->VR m (ts.getD t aA) (a.tmps.getD t undef)) (hs:qd P io.k (val ts) h v h') (ro:Option Nat) (K:Act->World->Prop) (Q:Exit->Act->World->Prop)
  (hn:∀cv m' w',VR m' v cv->HR P m' h' w'->Grow m h w m' h' w'->K (a.put o.dst cv) w'):wpOpIn (Fd ro) 0 P ops Q i K a w:=by
 unfold bV at hc;split at hc
 case h_2=>cases hc
 rename_i g V4;cases hc;have hg0:g=none:=hgd0;subst hg0;have hw:=rn (m:=m) (ts:=ts) (a:=a) V4 (λt b VP=>by cases VP);unfold wpOpIn;rw[ho];simp only;rw[ZY (hw.2 trivial)];simp only at hs;split at hs
 case isFalse=>exact absurd hs pe
 rename_i hgok;cases hk:fc P o with
 |none=>rw[hk]at hs;exact absurd hs pe
 |some k=>
  rw[hk]at hs;refine wv hk (λx hx x' SA=>?_) (λz=>rfl) hr hs ro K Q (λcv m' w' h1 h2 h3=>hn cv m' w' h1 h2 h3);exact Re
def Bh{n x}(h:yU x=true):jI n x:=by
 cases x<;>first
  |(cases h;done)
  |skip
 case bool b=>exact⟨λ_=>none,_,(λ_ _ z=>by cases z),rfl⟩
 case int k b=>exact⟨λ_=>none,_,(λ_ _ z=>by cases z),rfl⟩
 case yc k b=>exact⟨λ_=>none,.float k b,(λ_ _ z=>by cases z),⟨b,rfl,.inl rfl⟩⟩
 case xP k a b=>exact⟨λ_=>none,.complex k a b,(λ_ _ z=>by cases z),⟨a,b,rfl,.inl rfl,.inl rfl⟩⟩
 all_goals exact⟨λ_=>none,_,(λ_ _ z=>by cases z),rfl⟩
def yV{n x}(h:jI n x):∀y∈x.cells,jI n y:=by
 obtain⟨ma,va,h1,h2⟩:=h;intro y hy;obtain⟨i,hi,rfl⟩:=abV hy;obtain⟨v,_,hv⟩:=h2.cells.get (ZS hi);exact⟨ma,v,h1,hv⟩
theorem vO:∀{l c}{o}{x},x∈gu c o l->x∈c\/x∈l
 |[],c,o,x,h=>.inl h
 |y::l,c,o,x,h=>by
  have h:x∈gu (c.set o y) (o+1) l:=h;rcases vO h with h|h
  ·rcases abz h with h|h
   ·exact .inl h
   ·exact .inr (by rw[h];simp)
  ·exact .inr (aao _ h)
theorem sf{n}:∀{ps}{z c},(∀x∈z,jI n x)->(∀p∈ps,jI n p.2.2)->fy z ps=some c->∀x∈c,jI n x
 |[],z,c,hz,_,h,x,hx=>by cases h;exact hz x hx
 |(off,k,v)::r,z,c,hz,hp,h,x,hx=>by
  rw[fy]at h;split at h
  ·refine sf (λy hy=>?_) (λp hq=>hp p (aao _ hq)) h x hx;rcases vO hy with hy|hy
   ·exact hz y hy
   ·exact yV (hp (off,k,v) Si) y hy
  ·cases h
theorem vF:∀{n}{z}{x},x∈eC n z->x∈z
 | 0,z,x,h=>by simp[eC]at h
 |n+1,z,x,h=>by
  have h:x∈z++eC n z:=h;rcases ZX.1 h with h|h
  ·exact h
  ·exact vF h
def CI(gr:Grow m h w m' h' w')(hd:∀b e,m b=some e->b<h.length){e k}(hk:k.live=true)(hb:BR P m w e k)(hout:∀b e',m b=some e'->e'.cb≠e.cb):BR P m' w' e k/\∀b e',m' b=some e'->e'.cb≠e.cb:=by
 have hlt:=hb.lt hk;refine⟨(hb.heap (gr.frame e.cb hlt λb e' he _=>hout b e' he)).mono (gr.le hd),λb e' he=>?_⟩;by_cases hbl:b<h.length
 ·rw[gr.ext b hbl]at he;exact hout b e' he
 ·obtain⟨_,hc⟩:=gr.new b e' Om he;rcases hc with hc|⟨b0,e0,c1,c2,_⟩
  ·omega
  ·rw[<-c2];exact hout b0 e0 c1
def HR.y5(hr:HR P m h w){e k}(hk:k.live=true)(hb:BR P m w e k)(hout:∀b e',m b=some e'->e'.cb≠e.cb):HR P (m.add h.length e) (h++[k]) w:=by
 have TI:m h.length=none:=by
  exact NT
 have hle:m.le (m.add h.length e):=cw.sH _ TI;have SM:∀b e',(m.add h.length e) b=some e'->(b=h.length/\e' =e)\/(b<h.length/\m b=some e'):=λb e' T3=>by
  exact z87
 refine⟨λb e' T3=>?_,λb e' k' T3 hk'=>?_,λb1 b2 e1 e2 k1 k2 hne h1 h2 hk1 Sy hcb=>?_,λg hg=>?_,λb e' T3=>?_⟩
 ·rw[ZL];rcases SM b e' T3 with⟨rfl,_⟩|⟨hlt,_⟩
  ·simp
  ·simp;omega
 ·rcases SM b e' T3 with⟨rfl,rfl⟩|⟨hlt,hm⟩
  ·rw[Z1 (Z0 _),aaR]at hk';cases hk';exact hb.mono hle
  ·rw[ZQ hlt]at hk';exact(hr.eO b e' k' hm hk').mono hle
 ·exact Rp
 ·obtain⟨e',he,hx⟩:=hr.gS g hg;exact⟨e',hle _ _ he,hx⟩
 ·rcases SM b e' T3 with⟨_,rfl⟩|⟨_,hm⟩
  ·exact hb.lt hk
  ·exact hr.lt b e' hm
def Grow.y5{m0 h0 w0}(gr:Grow m0 h0 w0 m h w)(hd0:∀b e,m0 b=some e->b<h0.length)(hd:∀b e,m b=some e->b<h.length){e k}(ho:e.own=true)(hlt:w0.heap.size<=e.cb):Grow m0 h0 w0 (m.add h.length e) (h++[k]) w where
 ext:=λb hb=>by
  have:b≠h.length:=by have:=gr.len;omega
  show(if b=h.length then some e else m b)=_;rw[ZW this];exact gr.ext b hb
 len:=by rw[ZL];have:=gr.len;omega
 new:=λb e' hb he=>by
  unfold cw.add at he;by_cases hx:b=h.length
  ·rw[ZY hx]at he;cases he;exact⟨ho,.inl hlt⟩
  ·rw[ZW hx]at he;obtain⟨h1,hc⟩:=gr.new b e' hb he;refine⟨h1,?_⟩;rcases hc with hc|⟨b0,e0,c1,c2,c3,c4,c5⟩
   ·exact .inl hc
   ·have:=hd0 _ _ c1;exact .inr ⟨b0,e0,c1,c2,c3,c4,by rw[gg (by have:=gr.len;omega)];exact c5⟩
 tl:=λb hb ht=>by
  rw[gg (by have:=gr.len;omega)]at ht;exact gr.tl b hb ht
 size:=gr.size
 os:=gr.os
 out:=gr.out
 tape:=gr.tape
 frame:=gr.frame
end
def qt{M l f}(h:rN M l f=true){i j x y}(hij:i<j)(hx:l[i]? =some x)(hy:l[j]? =some y)(px:fW x.k=false)(py:fW y.k=false)(lx:mZ x=false)(ly:mZ y=false)(hj:j≠f):ahead M i j=true:=by
 have Vz:j<l.length:=(ZM.1 hy).1;unfold rN at h;rw[aas]at h;have h1:=h j (aaZ.2 Vz);rw[aas]at h1;have h2:=h1 i (aaZ.2 hij);rw[hx,hy]at h2
 simpa [px,py,lx,ly,hj]using h2
structure Sm(ops:Array Oper)(l:List bN)(f df es n:Nat)(z:List AV)(ps:List (Nat×dt))(q:Bool):Prop where
 hf:l[f]? =some {dst:=some df,k:=.bh es n z ps,gd:=none,q:=q}
 hz:∀x∈z,yU x=true
 hp:∀p∈ps,∃u,p.2=.t u/\fZ ops f u=true
 hr:∀j o,l[j]? =some o->cI o.k=true->(fW o.k=true\/mZ o=true)/\fZ ops j df=false
def yN{ops l f}(h:xD ops l f=true):∃df es n z ps q,Sm ops l f df es n z ps q:=by
 unfold xD at h;split at h
 case h_2=>cases h
 rename_i d es n z ps q hf;simp only[aaq,aas,aaZ]at h;obtain⟨⟨h1,h2⟩,h3⟩:=h;refine⟨d,es,n,z,ps,q,hf,h1,λp hp=>?_,λj o hj hk=>?_⟩
 ·have:=h2 p hp;split at this
  ·rename_i u hu;exact⟨u,hu,this⟩
  ·cases this
 ·have:=h3 j (ZM.1 hj).1;rw[hj]at this;simp only[hk,aad,abZ,aaq,abw,aa2]at this;exact this
structure lH(P:Program)(l:List bN)(f df:Nat)(k:an)(T:Nat->TS)(H:Nat->ah)(m:cw)(w:World)(listed:Array Bool)(θ:Nat)(m1:cw)(tm:Array Value)(w1:World):Prop where
 hθ:θ<=l.length
 hL:θ<=dZ l\/∃(j:Nat) (o:bN),l[j]? =some o/\cI o.k=false/\j≠f/\dZ l<=j/\j<θ
 hS:∀(j:Nat) (o:bN),l[j]? =some o->cI o.k=false->j≠f->(j<θ↔listed.getD j false=true)
 hf:f<θ->listed.getD f false=true
 hr:HR P m1 (H θ) w1
 hg:Grow m (H 0) w m1 (H θ) w1
 fj:tm.size=(T 0).length
 h1:∀(d:Nat),(∀(j:Nat) (o:bN),l[j]? =some o->listed.getD j false=true->o.dst≠some d)->VR m1 ((T 0).getD d aA) (tm.getD d undef)
 h2:∀(d j:Nat) (o:bN),l[j]? =some o->listed.getD j false=true->o.dst=some d->(j=f->f<θ)->VR m1 ((T (j+1)).getD d aA) (tm.getD d undef)
 pd:listed.getD f false=true->θ<=f->∃e:tq,BR P m1 w1 e k/\e.own=true/\w.heap.size<=e.cb/\(∀b e',m1 b=some e'->e'.cb≠e.cb)/\∀m':cw,m1.le m'->m' (H f).length=some e->VR m' ((T (f+1)).getD df aA) (tm.getD df undef)
def yC{P cq f}(hmix:P.follows .mixedOrders=true){ops l}(hed:lz (Region.before ops) ops=true)(hsl:mC (Region.before ops) ops=true)
  (hc:fA (λ_ o=>bV P ops (td cq o) o) ops.toList 0=some l) (hfo:xD ops l f=true) (hmo:rN (Region.before ops) l f=true) {T}{H}(hrow:Row P l T H) (hstab:∀(i:Nat) (io:bN),l[i]? =some io->mZ io=true->∀θ,θ<=dZ l->dR P io (T i) (H θ) (T (i+1)) (H θ)) (hlate:∀(i j:Nat) (x y:bN),l[i]? =some x->mZ x=true->l[j]? =some y->cI y.k=false->dZ l<=j->ahead (Region.before ops) i j=true) {m}{a}{w}
  (st:St P m (T 0) (H 0) a w) (ro:Option Nat) (Q:Exit->Act->World->Prop) (hQ:∀m' a' w',St P m' (T l.length) (H l.length) a' w'->Grow m (H 0) w m' (H l.length) w'->a'.defers=a.defers->Q .normal a' w') (id:Nat):
  (Code.region id ops true).wpIn (Fd ro) 0 P Q a w:=by
 obtain⟨df,es,n,zz,ps,qf,F⟩:=yN hfo;refine wpIn_region_any hmix ?_;obtain⟨SQ,SG⟩:=gV hc;simp only[abY]at SQ;have Xa:∀(j:Nat) (io:bN),l[j]? =some io->∃o,ops[j]? =some o/\bV P ops (td cq o) o=some io:=λj io hj=>by
  exact z31
 have TO:∀(j:Nat) (io:bN) (d:Nat),l[j]? =some io->io.dst=some d->∃o,ops[j]? =some o/\o.dst=some d:=λj io d hj hd=>by
  exact z76
 have huniq:∀(i j:Nat) (oi oj:bN) (d:Nat),l[i]? =some oi->l[j]? =some oj->oi.dst=some d->oj.dst=some d->i=j:=λi j oi oj d hi hj h1 h2=>by
  exact z28
 have Ud:∀(j:Nat) (io:bN),l[j]? =some io->∃v,T (j+1)=put (T j) io.dst v:=λj io hj=>(hrow.step j io hj).1.put
 have hTl:∀j,j<=l.length->(T j).length=(T 0).length:=by
  intro j
  induction j with
  |zero=>intro _;rfl
  |succ j ih=>
   intro hj;exact Of
 have SN:∀x y t,x<=y->y<=l.length->(∀(j:Nat) (o:bN),x<=j->j<y->l[j]? =some o->o.dst≠some t)->(T y).getD t aA=(T x).getD t aA:=by
  intro x y t hxy hy hno;exact z49
 have Vn:∀(j:Nat) (io:bN),l[j]? =some io->cI io.k=true->H (j+1)=H j:=λj io hj hk=>yE hk (hrow.step j io hj).1
 have Vo:∀x k,x+k<=l.length->(∀(j:Nat) (o:bN),x<=j->j<x+k->l[j]? =some o->cI o.k=true)->H (x+k)=H x:=by
  intro x k
  induction k with
  |zero=>intro _ _;rfl
  |succ k ih=>
   intro hk hno;exact Rj
 have VT:∀x y,x<=l.length->y<=l.length->(∀(j:Nat) (o:bN),l[j]? =some o->cI o.k=false->(j<x↔j<y))->H x=H y:=by
  intro x y hx hy hno;exact Rt
 have Tc:f<l.length:=(ZM.1 F.hf).1;obtain⟨cf,mu,tl,TT,hTf,hHf,hcf⟩:∃cf mu tl,fy (eC n zz) (ps.map λp=>(p.1,es,val (T f) p.2))=some cf/\T (f+1)=put (T f) (some df) (.slice (H f).length 0 n es)/\H (f+1)=H f++[.cells cf mu tl]/\∀g:ah,qd P (.bh es n zz ps) (val (T f)) g (.slice g.length 0 n es) (g++[.cells cf mu tl]):=by
  have Zc:=(hrow.step f _ F.hf).1;generalize hx:T (f+1)=tx at Zc;generalize hy:H (f+1)=hyy at Zc;cases Zc with
  |run hw hb hs=>
   have hs:ni (.bh es n zz ps) _ _ _ _:=hs;obtain⟨c,mu,tl,q1,q2,q3,rfl,rfl⟩:=hs;exact⟨c,mu,tl,q1,rfl,rfl,λg=>⟨c,mu,tl,q1,q2,q3,rfl,rfl⟩⟩
  |skip hw=>exact absurd trivial hw
 have Xw:(an.cells cf mu tl).live=true:=rfl;have hrp:∀{k:pE},cI k=false->fW k=false:=λ{k} hk=>by
  cases k<;>first|exact hk|(cases hk;done)
 have hld:∀{o:bN},cI o.k=false->mZ o=false:=λ{o} hk=>by
  exact KM
 have Yi:∀(listed:Array Bool) (θ:Nat) (m1:cw) (tm:Array Value) (w1:World),lH P l f df (.cells cf mu tl) T H m w listed θ m1 tm w1->listed.getD f false=true->θ<=f->(∀(j:Nat) (o:bN),l[j]? =some o->cI o.k=false->j<f->listed.getD j false=true)->
   ∃m2,lH P l f df (.cells cf mu tl) T H m w listed (f+1) m2 tm w1:=by
  intro listed θ m1 tm w1 I Zr YZ hall;have e:H θ=H f:=VT θ f I.hθ Om λj oj hj hk=>by
   by_cases hjf:j=f
   ·subst hjf;omega
   ·constructor
    ·intro h;omega
    ·intro h;exact(I.hS j oj hj hk hjf).2 (hall j oj hj hk h)
  obtain⟨en,b1,b2,b3,b4,b5⟩:=I.pd Zr YZ;have hr:=I.hr;have hg:=I.hg;rw[e]at hr hg;have TI:m1 (H f).length=none:=by
   cases hx:m1 (H f).length with
   |none=>rfl
   |some y=>exact absurd (hr.cT _ _ hx) Om
  have U5:m1.le (m1.add (H f).length en):=cw.sH _ TI;refine⟨m1.add (H f).length en,⟨Om,.inl (by have:=zQ F.hf rfl;omega),λj oj hj hk hjf=>?_,λ_=>Zr,by rw[hHf];exact hr.y5 Xw b1 b4,by rw[hHf];exact hg.y5 st.hr.cT hr.cT b2 b3,I.fj,λd hd=>VR.mono U5 _ _ (I.h1 d hd),λd j oj hj hl hd _=>?_,λ_ hx=>absurd hx Om⟩⟩
  ·constructor
   ·intro h;exact hall j oj hj hk Om
   ·intro h;have:=(I.hS j oj hj hk hjf).2 h;omega
  ·by_cases hjf:j=f
   ·subst hjf;rw[F.hf]at hj;cases hj;cases hd;exact b5 _ U5 (by simp[cw.add])
   ·exact VR.mono U5 _ _ (I.h2 d j oj hj hl hd λz=>absurd z hjf)
 have Ub:∀(listed:Array Bool) (θ:Nat) (m1:cw) (a1:Act) (w1:World),(∀i,i<ops.size->listed.getD i false=true)->lH P l f df (.cells cf mu tl) T H m w listed θ m1 a1.tmps w1->f<θ->a1.defers=a.defers->Q .normal a1 w1:=by
  intro listed θ m1 a1 w1 hall I hfθ hd;have e:=VT θ l.length I.hθ (Z0 _) λj o hj hk=>by
   have Vz:=(ZM.1 hj).1;by_cases hjf:j=f
   ·subst hjf;omega
   ·have:=(I.hS j o hj hk hjf).2 (hall j Om);omega
  have hr:=I.hr;have hg:=I.hg;rw[e]at hr hg;have fj:=I.fj;refine hQ m1 a1 w1 ⟨hr,cQ.iV ?_ ?_⟩ hg hd
  ·exact HI
  ·intro t x hx;have hlt:=(ZM.1 hx).1;have SW:t<a1.tmps.size:=by have:=hTl l.length (Z0 _);omega
   have ex:(T l.length).getD t aA=x:=by simp[List.getD,hx]
   have ey:a1.tmps.getD t undef=a1.tmps[t]:=by simp[aaB,aaF SW]
   refine⟨a1.tmps[t],Si,?_⟩;rw[<-ex,<-ey];by_cases hw:∃(j:Nat) (o:bN),l[j]? =some o/\o.dst=some t
   ·obtain⟨j,o,hj,ho⟩:=hw;have Vz:=(ZM.1 hj).1;rw[SN (j+1) l.length t Om (Z0 _) (λk o' a2 a3 a4 a5=>by have:=huniq j k o o' t hj a4 ho a5;omega)];exact I.h2 t j o hj (hall j Om) ho λ_=>hfθ
   ·rw[SN 0 l.length t Om (Z0 _) (λk o' _ _ h4 h5=>hw ⟨k,o',h4,h5⟩)];exact I.h1 t λj o hj _ ho=>hw ⟨j,o,hj,ho⟩
 have hdone:∀(listed:Array Bool) (θ:Nat) (m1:cw) (a1:Act) (w1:World),(∀i,i<ops.size->listed.getD i false=true)->lH P l f df (.cells cf mu tl) T H m w listed θ m1 a1.tmps w1->a1.defers=a.defers->Q .normal a1 w1:=by
  intro listed θ m1 a1 w1 hall I hd;by_cases hfθ:f<θ
  ·exact Ub listed θ m1 a1 w1 hall I hfθ hd
  ·obtain⟨m2,I2⟩:=Yi listed θ m1 a1.tmps w1 I (hall f Om) Om λj o hj _ _=>hall j (by have:=(ZM.1 hj).1;omega)
   exact Ub listed (f+1) m2 a1 w1 hall I2 Om hd
 have key:∀(fuel:Nat) (listed:Array Bool) (θ:Nat) (m1:cw) (a1:Act) (w1:World),listed.size=ops.size->rq listed ops.size<=fuel->
   (∀j x,listed.getD j false=true->x<ops.size->ahead (Region.before ops) x j=true->listed.getD x false=true)->lH P l f df (.cells cf mu tl) T H m w listed θ m1 a1.tmps w1->a1.defers=a.defers->wpAnyIn (Fd ro) 0 P .any ops Q fuel listed a1 w1:=by
  intro fuel
  induction fuel with
  |zero=>
   intro listed θ m1 a1 w1 SO hu hcl I hd;have hall:=lS ops.size (show rq listed ops.size=0 by omega);exact⟨mF SO hall,hdone listed θ m1 a1 w1 hall I hd⟩
  |succ fuel ih=>
   intro listed θ m1 a1 w1 SO hu hcl I hd;refine⟨λhrn=>hdone listed θ m1 a1 w1 (mE hed SO hrn) I hd,λi hi=>?_⟩;obtain⟨o,ho,TL,XW⟩:=(jL SO).1 hi;have hin:i<ops.size:=(aaa.1 ho).1;obtain⟨io,hio,SL⟩:=SG i o (by simpa using ho);have SL:bV P ops (td cq o) o=some io:=SL;obtain⟨bP,_⟩:=hrow.step i io hio;have hahead:∀x,x<ops.size->ahead (Region.before ops) x i=true->listed.getD x false=true:=λx hx ha=>by
    exact NV
   have UE:∀j x,(listed.setIfInBounds i true).getD j false=true->x<ops.size->ahead (Region.before ops) x j=true->(listed.setIfInBounds i true).getD x false=true:=by
    intro j x hj hx ha;exact z40
   have Wl:rq (listed.setIfInBounds i true) ops.size<=fuel:=by
    exact NP
   have hne:∀j,j≠i->(listed.setIfInBounds i true).getD j false=listed.getD j false:=λj hj=>by rw[dw Om,ZW hj]
   have hlt:(listed.setIfInBounds i true).getD i false=true:=by rw[dw Om,ZY rfl]
   have Td:io.dst=o.dst:=(dN SL).1;have hslot:∀(θ:Nat) (m1:cw) (tm:Array Value) (w1:World),lH P l f df (.cells cf mu tl) T H m w listed θ m1 tm w1->(listed.getD f false=true->θ<=f->i<f\/fZ ops i df=false)->∀t,t∈o.looksAt ops->VR m1 ((T i).getD t aA) (tm.getD t undef):=by
    intro θ m1 tm w1 I hnp t ht;by_cases hex:∃(x:Nat) (ox:bN),l[x]? =some ox/\listed.getD x false=true/\ox.dst=some t
    ·obtain⟨x,ox,hx,hxl,VX⟩:=hex;obtain⟨oo,U9,Wi⟩:=TO x ox t hx VX;have hxi:x<i:=by
      by_cases e1:x=i
      ·subst e1;rw[TL]at hxl;cases hxl
      ·by_cases e2:x<i
       ·exact e2
       ·have e3:=(cW hsl (show i<x by omega) ho U9).2 t Wi ht;have e4:=hcl x i hxl hin e3;rw[TL]at e4;cases e4
     rw[SN (x+1) i t Om Om (λk o' a2 a3 a4 a5=>by have:=huniq x k ox o' t hx a4 VX a5;omega)];refine I.h2 t x ox hx hxl VX λhxf=>?_
     subst hxf;by_cases hh:x<θ
     ·exact hh
     ·rcases hnp hxl (by omega)with h|h
      ·omega
      ·rw[F.hf]at hx;cases hx;cases VX;unfold fZ at h;rw[ho]at h;simp only at h;have:=List.contains_iff_mem.2 ht;rw[this]at h;cases h
    ·rw[SN 0 i t Om Om (λk o' e2 e3 e4 e5=>by
      obtain⟨oo,U9,Td⟩:=TO k o' t e4 e5;have h6:=((cW hsl e3 U9 ho).1 t Td).2 ht;exact hex ⟨k,o',e4,hahead k (aaa.1 U9).1 h6,e5⟩)]
     exact I.h1 t λj oj hj hl Td=>hex ⟨j,oj,hj,hl,Td⟩
   have hadv:i≠f->∀(θ θ':Nat) (m1 m':cw) (tm:Array Value) (w1 w':World) (cv:Value) (v':AV),lH P l f df (.cells cf mu tl) T H m w listed θ m1 tm w1->θ'<=l.length->(θ'<=dZ l\/∃(j:Nat) (o:bN),l[j]? =some o/\cI o.k=false/\j≠f/\dZ l<=j/\j<θ')->(∀(j:Nat) (o:bN),l[j]? =some o->cI o.k=false->j≠f->(j<θ'↔(listed.setIfInBounds i true).getD j false=true))->(f<θ'↔f<θ)->
     T (i+1)=put (T i) o.dst v'->VR m' v' cv->HR P m' (H θ') w'->Grow m1 (H θ) w1 m' (H θ') w'->lH P l f df (.cells cf mu tl) T H m w (listed.setIfInBounds i true) θ' m' (iJ tm o.dst cv) w':=by
    intro U1 θ θ' m1 m' tm w1 w' cv v' I Y5 VC hS' hff T4 Ul hr' SX;have U5:=SX.le I.hr.cT;refine⟨Y5,VC,hS',λh=>?_,hr',I.hg.trans SX st.hr.cT,by rw[fK];exact I.fj,λd hdn=>?_,λd j oj hj hl VQ hjf=>?_,λZr YZ=>?_⟩
    ·rw[hne f (abe U1)];exact I.hf (hff.1 h)
    ·have Uy:o.dst≠some d:=by rw[<-Td];exact hdn i io hio hlt
     rw[dS Uy];refine VR.mono U5 _ _ (I.h1 d λj oj hj hl=>hdn j oj hj ?_);exact NQ
    ·by_cases e1:j=i
     ·subst e1;rw[hio]at hj;cases hj;rw[T4,<-Td,VQ];exact lV (by rw[I.fj,hTl j Om]) Ul
     ·have Uy:o.dst≠some d:=λhx=>by
       exact z131
      rw[dS Uy];rw[hne j e1]at hl;exact VR.mono U5 _ _ (I.h2 d j oj hj hl VQ λz=>hff.1 (hjf z))
    ·rw[hne f (abe U1)]at Zr;obtain⟨e,b1,b2,b3,b4,b5⟩:=I.pd Zr (by have:=hff.2;omega);obtain⟨c1,c2⟩:=CI SX I.hr.cT Xw b1 b4;have Uy:o.dst≠some df:=λhx=>by
      rw[<-Td]at hx;exact U1 (huniq i f io _ df hio F.hf hx rfl)
     refine⟨e,c1,b2,b3,c2,λm2 Xu SJ=>?_⟩;rw[dS Uy];exact b5 m2 (cw.le_trans U5 Xu) SJ
   have VJ:∀cv,(a1.put o.dst cv).tmps=iJ a1.tmps o.dst cv:=λcv=>by cases o.dst<;>rfl
   by_cases U1:i=f
   ·
    subst U1;rw[F.hf]at hio;cases hio;have YZ:θ<=i:=by
     by_cases hh:i<θ
     ·have:=I.hf hh;rw[TL]at this;cases this
     ·omega
    refine wy ho SL rfl I.hr.gv I.hr (hslot θ m1 a1.tmps w1 I λh=>by rw[TL]at h;cases h) (hcf (H θ)) ro _ Q ?_;intro cv m' w' hv hr' SX;have hclos:∀x∈cf,jI (H θ).length x:=sf (λx hx=>Bh (F.hz x (vF hx))) (λp hp=>by
     obtain⟨q,hq,rfl⟩:=aal.1 hp;obtain⟨u,hu,XQ⟩:=F.hp q hq;have hu2:u∈o.looksAt ops:=by
      unfold fZ at XQ;rw[ho]at XQ;exact List.contains_iff_mem.1 XQ
     have:=hslot θ m1 a1.tmps w1 I (λh=>by rw[TL]at h;cases h) u hu2;show jI _ (val (T i) q.2);rw[hu];exact⟨m1,_,I.hr.cT,this⟩) TT
    have hcb:qH (H θ).length (.cells cf mu tl):=λj x hx=>hclos x (aaK hx)
    have hup:m'.dY (H θ).length=m1:=by
     funext b;unfold cw.dY;by_cases hb:b<(H θ).length
     ·rw[ZY hb];exact SX.ext b hb
     ·rw[ZW hb];cases hx:m1 b with
      |none=>rfl
      |some e=>exact absurd (I.hr.cT b e hx) hb
    have TQ:=HR.forget I.hr hr' SX;have WT:=SX.forget;rw[hup]at TQ WT;have Wk:=hv;rw[VR]at Wk;obtain⟨e,ca,cap,he,Tb⟩:=Wk;have hb:=(hr'.eO _ e (.cells cf mu tl) he Si).cut hcb;rw[hup]at hb;obtain⟨ho1,hc⟩:=SX.new _ e (Z0 _) he;have hcbl:w1.heap.size<=e.cb:=by
     rcases hc with hc|⟨b0,e0,c1,c2,c3,c4,c5⟩
     ·exact hc
     ·rw[gg (I.hr.cT _ _ c1),c4]at c5;cases c5
    have Uo:o.dst=some df:=Td.symm;refine ih _ θ m1 (a1.put o.dst cv) w' (by simp[SO]) Wl UE ?_ (by rw[put_defers];exact hd);rw[VJ];refine⟨I.hθ,I.hL,λj oj hj hk hjf=>by rw[hne j hjf];exact I.hS j oj hj hk hjf,λh=>by omega,TQ,I.hg.trans WT st.hr.cT,by rw[fK];exact I.fj,λd hdn=>?_,λd j oj hj hl VQ hjf=>?_,λ_ _=>⟨e,hb,ho1,aaz I.hg.size hcbl,λb e' T3=>by have:=I.hr.lt b e' T3;omega,λm2 Xu SJ=>?_⟩⟩
    ·have Uy:o.dst≠some d:=by rw[Uo];exact hdn i _ F.hf hlt
     rw[dS Uy];refine I.h1 d λj oj hj hl=>hdn j oj hj ?_
     exact NQ
    ·by_cases e1:j=i
     ·have:=hjf e1;omega
     ·have Uy:o.dst≠some d:=λhx=>by
       rw[Uo]at hx;exact e1 (huniq j i oj _ d hj F.hf VQ hx)
      rw[dS Uy];rw[hne j e1]at hl;exact I.h2 d j oj hj hl VQ hjf
    ·rw[hTf,Uo];exact lV (by rw[I.fj,hTl i Om]) (by rw[VR];exact⟨e,ca,cap,SJ,Tb⟩)
   by_cases TH:cI io.k=true
   ·
    obtain⟨Vv,Uf⟩:=F.hr i io hio TH;have U7:dR P io (T i) (H θ) (T (i+1)) (H θ):=by
     rcases Vv with hp|hp
     ·exact(yH hp bP).2 _
     ·refine hstab i io hio hp θ ?_;rcases I.hL with h|⟨j,oj,h1,h2,h5,h3,h4⟩
      ·exact h
      ·have e:=hcl j i ((I.hS j oj h1 h2 h5).1 h4) hin (hlate i j io oj hio hp h1 h2 h3);rw[TL]at e;cases e
    refine fX ho SL I.hr.gv I.hr (by rw[I.fj,hTl i Om]) (hslot θ m1 a1.tmps w1 I λ_ _=>.inr Uf) U7 ro _ Q ?_;intro cv v' m' w' T4 Ul hrx hgx;refine ih _ θ m' (a1.put o.dst cv) w' (by simp[SO]) Wl UE ?_ (by rw[put_defers];exact hd);rw[VJ];refine hadv U1 θ θ m1 m' a1.tmps w1 w' cv v' I I.hθ I.hL (λj oj hj hk hjf=>?_) Iff.rfl T4 Ul hrx hgx;have hji:j≠i:=λe=>by
     subst e;rw[hio]at hj;cases hj;rw[TH]at hk;cases hk
    rw[hne j hji];exact I.hS j oj hj hk hjf
   ·have T7:cI io.k=false:=by simpa using TH
    have hheavy:∀(j:Nat) (oj:bN),l[j]? =some oj->cI oj.k=false->j<i->listed.getD j false=true:=λj oj hj hk hji=>
     hahead j (by have:=(ZM.1 hj).1;omega) (qt hmo hji hj hio (hrp hk) (hrp T7) (hld hk) (hld T7) U1)
    have hlate:∀(j:Nat) (oj:bN),l[j]? =some oj->cI oj.k=false->j≠f->i<j->listed.getD j false=false:=λj oj hj hk hjf hij=>by
     cases hx:listed.getD j false with
     |false=>rfl
     |true=>
      have e3:=qt hmo hij hio hj (hrp T7) (hrp hk) (hld T7) (hld hk) hjf;have e4:=hcl j i hx hin e3;rw[TL]at e4;cases e4
    obtain⟨YJ,m2,I1,hff⟩:∃YJ m2,lH P l f df (.cells cf mu tl) T H m w listed YJ m2 a1.tmps w1/\(f<YJ↔f<i):=by
     by_cases hfi:f<i
     ·have Zr:=hheavy f _ F.hf rfl hfi;by_cases hfθ:f<θ
      ·exact⟨θ,m1,I,Om⟩
      ·obtain⟨m2,I2⟩:=Yi listed θ m1 a1.tmps w1 I Zr Om λj oj hj hk hjf=>hheavy j oj hj hk Om
       exact⟨f+1,m2,I2,Om⟩
     ·refine⟨θ,m1,I,⟨λh=>?_,λh=>absurd h hfi⟩⟩;have:=(I.hS i io hio T7 U1).1 Om;rw[TL]at this;cases this
    have hHi:H YJ=H i:=VT YJ i I1.hθ Om λj oj hj hk=>by
     by_cases hjf:j=f
     ·subst hjf;exact hff
     ·constructor
      ·intro WI;have UA:=(I1.hS j oj hj hk hjf).1 WI;by_cases e1:j=i
       ·exact HG
       ·by_cases e2:j<i
        ·exact e2
        ·exact Ky
      ·intro hji;exact(I1.hS j oj hj hk hjf).2 (hheavy j oj hj hk hji)
    refine fX ho SL I1.hr.gv I1.hr (by rw[I1.fj,hTl i Om]) (hslot YJ m2 a1.tmps w1 I1 λ_ h2=>.inl Om) (by rw[hHi];exact bP) ro _ Q ?_;intro cv v' m' w' T4 Ul hrx hgx;refine ih _ (i+1) m' (a1.put o.dst cv) w' (by simp[SO]) Wl UE ?_ (by rw[put_defers];exact hd);rw[VJ];refine hadv U1 YJ (i+1) m2 m' a1.tmps w1 w' cv v' I1 Om (by by_cases hc:i+1<=dZ l;exact .inl hc;exact .inr ⟨i,io,hio,T7,U1,Om,Om⟩) (λj oj hj hk hjf=>?_) Om T4 Ul hrx hgx;by_cases e1:j=i
    ·subst e1;exact⟨λ_=>hlt,λ_=>by omega⟩
    ·rw[hne j e1];constructor
     ·intro hji;exact hheavy j oj hj hk Om
     ·intro UA;by_cases e2:j<i
      ·omega
      ·exact Ky
 have SF:∀j,(Array.replicate ops.size false).getD j false=false:=λj=>by
  exact NR
 refine key ops.size (Array.replicate ops.size false) 0 m a _ Si ?_ (λj x hj _ _=>by simp[SF j]at hj) ⟨aam _,.inl (aam _),(λj oj hj hk _=>⟨λhx=>absurd hx Om,λhx=>by simp[SF j]at hx⟩),(λhx=>absurd hx Om),st.hr.drew,(Grow.refl m _ w st.hr.cT).drew,?_,(λd _=>nV st.ts d),(λd j o _ hj _ _=>by simp[SF j]at hj),λhx=>by simp[SF f]at hx⟩ rfl
 ·exact NW
 ·exact z145
def eU{P ops draw c}(h:nJ P ops draw=some c):
  (∃l,c=.ops l/\(cV P ops draw=some l\/(draw=true/\(∃l',cV P ops draw=some l')/\∃cq,fA (λ_ o=>bV P ops (td cq o) o) ops.toList 0=some l/\oE (Region.before ops) l=true/\l.any mZ=false)))\/
  (∃l,c=.sX l/\draw=true/\(∃l',cV P ops draw=some l')/\fA (λ_ o=>bV P ops false o) ops.toList 0=some l)\/
  (∃l,c=.mR l/\draw=true/\(∃l',cV P ops draw=some l')/\∃cq,fA (λ_ o=>bV P ops (td cq o) o) ops.toList 0=some l/\(oE (Region.before ops) l=true\/∃f,xD ops l f=true/\rN (Region.before ops) l f=true)/\nH (Region.before ops) l=true):=by
 unfold nJ at h;split at h
 ·cases h
 ·rename_i l hl;split at h
  ·rename_i hq;split at h
   ·rename_i l' l2 l3 SI hl2 Zt;split at h
    ·rename_i hm;rw[aaq,aa2]at hm;cases h;exact .inl ⟨l',rfl,.inr ⟨hq.2,⟨l,hl⟩,0,SI,hm.1,hm.2⟩⟩
    ·split at h
     ·rename_i hm;rw[aaq,aa2]at hm;cases h;exact .inl ⟨l2,rfl,.inr ⟨hq.2,⟨l,hl⟩,1,hl2,hm.1,hm.2⟩⟩
     ·split at h
      ·exact Rm
      ·split at h
       ·split at h
        ·rename_i hm;rw[aaq,aaq]at hm;cases h;exact .inr (.inr ⟨l3,rfl,hq.2,⟨l,hl⟩,2,Zt,.inl hm.1.2,hm.2⟩)
        ·cases h;exact .inr (.inl ⟨l',rfl,hq.2,⟨l,hl⟩,SI⟩)
       ·split at h
        ·rename_i hm;rw[aaq]at hm;cases h;exact .inr (.inr ⟨l3,rfl,hq.2,⟨l,hl⟩,2,Zt,.inl hm.1,hm.2⟩)
        ·split at h
         ·exact Rm
         ·cases h;exact .inl ⟨l,rfl,.inl hl⟩
   ·cases h
  ·cases h;exact .inl ⟨l,rfl,.inl hl⟩
def Marks(m:cw)(w:World)(lo:Nat)(ds:List Deferred):Prop:=
 ∃rs:List Nat,ds=rs.map (λr=>({target:=.collected r,args:=#[] }:Deferred))/\rs.Nodup/\∀r∈rs,lo<=r/\w.heap[r]? =some (.deferred (some []))/\∀b e,m b=some e->e.cb≠r
def Marks.nil(m:cw)(w:World)(lo:Nat):Marks m w lo []:=⟨[],rfl,Si,Si⟩
def Marks.grow{m m' h h' w w' lo ds}(k:Marks m w lo ds)(g:Grow m h w m' h' w')(hd:∀b e,m b=some e->b<h.length):Marks m' w' lo ds:=by
 obtain⟨rs,h1,h2,h3⟩:=k;refine⟨rs,h1,h2,λr hr=>?_⟩;obtain⟨a,b,c⟩:=h3 r hr;have hlt:r<w.heap.size:=(aaa.1 b).1;refine⟨a,?_,?_⟩
 ·rw[g.frame r hlt (λb e hb _=>c b e hb)];exact b
 ·intro b' e hb;by_cases hx:b'<h.length
  ·rw[g.ext b' hx]at hb;exact c b' e hb
  ·obtain⟨_,hc⟩:=g.new b' e Om hb;rcases hc with hc|⟨b0,e0,c1,c2,_⟩
   ·omega
   ·rw[<-c2];exact c b0 e0 c1
def Ev(P:Program)(ro:Option Nat)(c:ai)(ts:TS)(h:ah)(e:Ex)(ts':TS)(h':ah):Prop:=
 ∀cc,compile P cc=some c->∀(m:cw) (a:Act) (w:World) (lo:Nat),lo<=w.heap.size->St P m ts h a w->Marks m w lo a.defers->∀Q:Exit->Act->World->Prop,
  (∀m' a' w',St P m' ts' h' a' w'->Grow m h w m' h' w'->Marks m' w' lo a'.defers->Q e.Dq a' w')->cc.wpIn (Fd ro) 0 P Q a w
section
variable {P:Program}{b:Frame}{a:Act}{k:List Item}{cs:List Frame}{w:World}{Q:Exit->Act->World->Prop}{F:Fence}{n:Nat}
def gW{c}:step P (lone (b.atR a (.code (.scope c)::k)) cs w)=.next (lone (b.atR a (.code c:: .inScope c::k)) cs w):=
 step_lone_go (by simp[stepG,stepG.exec,Frame.atR])
def sR{c}:step P (lone (b.atR a (.inScope c::k)) cs w)=.next (lone (b.atR a k) cs w):=
 step_lone_go (by simp[stepG,stepG.exec,Frame.atR])
def noGoto(Q:Exit->Act->World->Prop):Exit->Act->World->Prop
 |.goto _,_,_=>False
 |e,a,w=>Q e a w
def ye{c}(h:c.wpIn F n P (noGoto Q) a w):(Code.scope c).wpIn F n P Q a w:=by
 intro b k cs hro hb hr;have h0:(lone (b.atR a (.code (.scope c)::k)) cs w).fenced P F:=fenced_calm hb hr rfl;obtain⟨e,Xl,We,hq,Tr⟩:=h b (.inScope c::k) cs hro hb hr;cases e with
 |normal=>exact⟨.normal,Xl,We,hq,.head h0 gW (StepsIn.trans Tr (.one (fenced_calm hb hr rfl) sR))⟩
 |exit id=>
  have hx:exitTo id (.inScope c::k)=exitTo id k:=by simp[exitTo]
  exact⟨.exit id,Xl,We,hq,λk' hk=>.head h0 gW (Tr.1 k' (by rw[hx];exact hk)),
   λhr' hk=>let ⟨k₁,h1,h2⟩:=Tr.2 hr' (by rw[hx];exact hk);⟨k₁,h1,.head h0 gW h2⟩⟩
 |goto l=>exact hq.elim
 |ret=>exact⟨.ret,Xl,We,hq,.of_steps (.one h0 gW) Tr⟩
 |panic ch=>exact⟨.panic ch,Xl,We,hq,.of_steps (.one h0 gW) Tr⟩
 |outgrown=>exact⟨.outgrown,Xl,We,hq,.of_steps (.one h0 gW) Tr⟩
end
section
variable {P:Program}{ro:Option Nat}{c x y:ai}{ts Ug ts':TS}{h h1 h':ah}{e:Ex}
def Ev.of (H:∀cc,(∀a,cc≠.scope a)->compile P cc=some c->∀(m:cw) (a:Act) (w:World) (lo:Nat),lo<=w.heap.size->St P m ts h a w->Marks m w lo a.defers->∀Q:Exit->Act->World->Prop,
  (∀m' a' w',St P m' ts' h' a' w'->Grow m h w m' h' w'->Marks m' w' lo a'.defers->Q e.Dq a' w')->cc.wpIn (Fd ro) 0 P Q a w):Ev P ro c ts h e ts' h':=by
 intro cc
 induction cc with
 |scope a ih=>
  intro hc m a w lo hlo st hm Q hQ;refine ye (ih (by simpa [compile]using hc) m a w lo hlo st hm _ λm' a' w' s g k=>?_);cases e<;>exact hQ m' a' w' s g k
 |_=>intro hc;exact H _ Si hc
theorem Ev.skip:Ev P ro .skip ts h .normal ts h:=by
 refine Ev.of λcc hns hc m a w lo hlo st hm Q hQ=>?_
 have hq:=hQ m a w st (Grow.refl m h w st.hr.cT) hm;cases cc with
 |skip=>exact wpIn_skip hq
 |label l=>exact wpIn_label hq
 |scope a=>exact absurd rfl (hns a)
 |region id ops draw=>rcases eU (by simpa only[compile]using hc)with⟨_,h1,_⟩|⟨_,h1,_⟩|⟨_,h1,_⟩<;>cases h1
 |block id a=>simp[compile]at hc
 |loop a=>simp[compile]at hc
 |_=>
  exact z24
theorem Ev.exit{id}:Ev P ro (.exit id) ts h (.exit id) ts h:=by
 refine Ev.of λcc hns hc m a w lo hlo st hm Q hQ=>?_
 have hq:=hQ m a w st (Grow.refl m h w st.hr.cT) hm;cases cc with
 |exit Yc=>simp[compile]at hc;subst hc;exact wpIn_exit hq
 |scope a=>exact absurd rfl (hns a)
 |region id ops draw=>rcases eU (by simpa only[compile]using hc)with⟨_,h1,_⟩|⟨_,h1,_⟩|⟨_,h1,_⟩<;>cases h1
 |block id a=>simp[compile]at hc
 |loop a=>simp[compile]at hc
 |_=>
  exact z24
theorem Ev.ret:Ev P ro .ret ts h .ret ts h:=by
 refine Ev.of λcc hns hc m a w lo hlo st hm Q hQ=>?_
 have hq:=hQ m a w st (Grow.refl m h w st.hr.cT) hm;cases cc with
 |ret=>exact wpIn_ret hq
 |scope a=>exact absurd rfl (hns a)
 |region id ops draw=>rcases eU (by simpa only[compile]using hc)with⟨_,h1,_⟩|⟨_,h1,_⟩|⟨_,h1,_⟩<;>cases h1
 |block id a=>simp[compile]at hc
 |loop a=>simp[compile]at hc
 |_=>
  exact z24
theorem Ev.ops(hmix:P.follows .mixedOrders=true){l}(hs:y8 P l ts h ts' h'):Ev P ro (.ops l) ts h .normal ts' h':=by
 refine Ev.of λcc hns hc m a w lo hlo st hm Q hQ=>?_
 cases cc with
 |region id ops draw=>
  rcases eU (by simpa only[compile]using hc)with⟨l',h1,hl⟩|⟨_,h1,_⟩|⟨_,h1,_⟩<;>cases h1
  rcases hl with hl|⟨hd,⟨l2,hl2⟩,cq,hz,hmo,hld⟩
  case inr=>
   subst hd;simp only[cV,Z7]at hl2;split at hl2
   case isFalse=>cases hl2
   rename_i Tg;simp only[aaq]at Tg;obtain⟨T,H,rfl,rfl,rfl,rfl,hrow⟩:=hs.row;rw[List.any_eq_false]at hld;exact rH hmix Tg.1 Tg.2 hz hmo hrow (λi io hio hl=>absurd hl (hld io (aaK hio))) (λi j x y hx hl=>absurd hl (hld x (aaK hx))) st ro Q (λm' a' w' s g d=>hQ m' a' w' s g (by rw[d];exact hm.grow g st.hr.cT)) id
  cases draw with
  |false=>exact yB hl hs st ro Q (λm' a' w' s g d=>hQ m' a' w' s g (by rw[d];exact hm.grow g st.hr.cT)) id
  |true=>exact wk hmix hl hs st ro Q (λm' a' w' s g d=>hQ m' a' w' s g (by rw[d];exact hm.grow g st.hr.cT)) id
 |scope a=>exact absurd rfl (hns a)
 |block id a=>simp[compile]at hc
 |loop a=>simp[compile]at hc
 |_=>
  exact z24
theorem Ev.mR(hmix:P.follows .mixedOrders=true){l T H}(hrow:Row P l T H)(hstab:∀(i:Nat) (io:bN),l[i]? =some io->mZ io=true->∀θ,θ<=dZ l->dR P io (T i) (H θ) (T (i+1)) (H θ)):Ev P ro (.mR l) (T 0) (H 0) .normal (T l.length) (H l.length):=by
 refine Ev.of λcc hns hc m a w lo hlo st hm Q hQ=>?_
 cases cc with
 |region id ops draw=>
  rcases eU (by simpa only[compile]using hc)with⟨_,h1,_⟩|⟨_,h1,_⟩|⟨l',h1,hd,⟨l2,hl2⟩,cq,hz,hmo,hlo⟩<;>cases h1
  subst hd;simp only[cV,Z7]at hl2;split at hl2
  case isFalse=>cases hl2
  rename_i Tg;simp only[aaq]at Tg;rcases hmo with hmo|⟨f,V6,Vf⟩
  case inr=>exact yC hmix Tg.1 Tg.2 hz V6 Vf hrow hstab (λi j x y a1 a2 a3 a4 a5=>qy hlo a1 a2 a3 a4 a5) st ro Q (λm' a' w' s g d=>hQ m' a' w' s g (by rw[d];exact hm.grow g st.hr.cT)) id
  exact rH hmix Tg.1 Tg.2 hz hmo hrow hstab (λi j x y a1 a2 a3 a4 a5=>qy hlo a1 a2 a3 a4 a5) st ro Q (λm' a' w' s g d=>hQ m' a' w' s g (by rw[d];exact hm.grow g st.hr.cT)) id
 |scope a=>exact absurd rfl (hns a)
 |block id a=>simp[compile]at hc
 |loop a=>simp[compile]at hc
 |_=>
  exact z24
theorem Ev.seq(hx:Ev P ro x ts h .normal Ug h1)(hy:Ev P ro y Ug h1 e ts' h'):Ev P ro (.seq x y) ts h e ts' h':=by
 refine Ev.of λcc hns hc m a w lo hlo st hm Q hQ=>?_
 cases cc with
 |seq ca cb=>
  simp only[compile]at hc;split at hc
  case h_2=>cases hc
  rename_i x' y' Tl hcb;cases hc;refine wpIn_seq (hx ca Tl m a w lo hlo st hm _ λm1 a1 w1 s1 g1 k1=>?_);exact hy cb hcb m1 a1 w1 lo (aaz hlo g1.size) s1 k1 Q λm2 a2 w2 s2 g2 k2=>hQ m2 a2 w2 s2 (g1.trans g2 st.hr.cT) k2
 |scope a=>exact absurd rfl (hns a)
 |region id ops draw=>rcases eU (by simpa only[compile]using hc)with⟨_,h1,_⟩|⟨_,h1,_⟩|⟨_,h1,_⟩<;>cases h1
 |block id a=>simp[compile]at hc
 |loop a=>simp[compile]at hc
 |_=>
  exact z24
def Ev.wb(hx:Ev P ro x ts h e ts' h')(hne:e≠.normal):Ev P ro (.seq x y) ts h e ts' h':=by
 refine Ev.of λcc hns hc m a w lo hlo st hm Q hQ=>?_
 cases cc with
 |seq ca cb=>
  simp only[compile]at hc;split at hc
  case h_2=>cases hc
  rename_i x' y' Tl hcb;cases hc;refine wpIn_seq (hx ca Tl m a w lo hlo st hm _ λm1 a1 w1 s1 g1 k1=>?_);have:=hQ m1 a1 w1 s1 g1 k1;cases e<;>first|exact absurd rfl hne|exact this
 |scope a=>exact absurd rfl (hns a)
 |region id ops draw=>rcases eU (by simpa only[compile]using hc)with⟨_,h1,_⟩|⟨_,h1,_⟩|⟨_,h1,_⟩<;>cases h1
 |block id a=>simp[compile]at hc
 |loop a=>simp[compile]at hc
 |_=>
  exact z24
def zH{o c}(hc:EU o=some c):dh o=some c/\N2 P o=true:=by
 cases o<;>first|exact⟨hc,rfl⟩|cases hc
def CL{m a w}(st:St P m ts h a w){o c}(hc:EU o=some c):VR m (val ts c) (a.eval o):=
 zY st.hr.gv (zH (P:=P) hc).1 (zH (P:=P) hc).2 (λt _=>nV st.ts t)
theorem Ev.cond{c b}(hb:val ts c=.bool b)(hx:Ev P ro (if b then x else y) ts h e ts' h'):Ev P ro (.cond c x y) ts h e ts' h':=by
 refine Ev.of λcc hns hc m a w lo hlo st hm Q hQ=>?_
 cases cc with
 |cond o ca cb=>
  simp only[compile]at hc;split at hc
  case h_2=>cases hc
  rename_i c' x' y' hco Tl hcb;cases hc;have hv:=CL st hco;rw[hb,VR]at hv;refine wpIn_cond hv ?_;cases b
  ·exact hx cb hcb m a w lo hlo st hm Q hQ
  ·exact hx ca Tl m a w lo hlo st hm Q hQ
 |scope a=>exact absurd rfl (hns a)
 |region id ops draw=>rcases eU (by simpa only[compile]using hc)with⟨_,h1,_⟩|⟨_,h1,_⟩|⟨_,h1,_⟩<;>cases h1
 |block id a=>simp[compile]at hc
 |loop a=>simp[compile]at hc
 |_=>
  exact z24
def Ex.inBlock(id:Nat):Ex->Ex
 |.exit Yc=>if Yc=id then .normal else .exit Yc
 |e=>e
theorem Ev.block{id}(hx:Ev P ro x ts h e ts' h'):Ev P ro (.block id x) ts h (e.inBlock id) ts' h':=by
 refine Ev.of λcc hns hc m a w lo hlo st hm Q hQ=>?_
 cases cc with
 |block Yc ca=>
  simp only[compile,aag,ai.block.injEq]at hc;obtain⟨x',Tl,rfl,rfl⟩:=hc;refine wpIn_block (hx ca Tl m a w lo hlo st hm _ λm' a' w' s g k=>?_);have:=hQ m' a' w' s g k;cases e with
  |normal=>exact this
  |ret=>exact this
  |exit i=>
   simp only[Ex.Dq,Exit.inBlock];simp only[Ex.inBlock]at this;split
   ·rename_i hi;rw[ZY hi]at this;exact this
   ·rename_i hi;rw[ZW hi]at this;exact this
 |scope a=>exact absurd rfl (hns a)
 |region id ops draw=>rcases eU (by simpa only[compile]using hc)with⟨_,h1,_⟩|⟨_,h1,_⟩|⟨_,h1,_⟩<;>cases h1
 |loop a=>simp[compile]at hc
 |_=>
  exact z24
inductive uu (P:Program) (ro:Option Nat) (x:ai):TS->ah->Ex->TS->ah->Prop
 |out {ts:TS}{h:ah}{e:Ex}{ts':TS}{h':ah}(hx:Ev P ro x ts h e ts' h') (hne:e≠.normal):uu P ro x ts h e ts' h'
 |more {ts:TS}{h:ah}{Ug:TS}{h1:ah}{e:Ex}{ts':TS}{h':ah}(hx:Ev P ro x ts h .normal Ug h1) (hr:uu P ro x Ug h1 e ts' h'):uu P ro x ts h e ts' h'
theorem Ev.loop(hl:uu P ro x ts h e ts' h'):Ev P ro (.loop x) ts h e ts' h':=by
 refine Ev.of λcc hns hc m a w lo hlo st hm Q hQ=>?_
 cases cc with
 |loop ca=>
  simp only[compile,aag,ai.loop.injEq]at hc;obtain⟨x',Tl,rfl⟩:=hc;intro b k cs hro hb hr;have key:∀(m1:cw) (a1:Act) (w1:World),lo<=w1.heap.size->St P m1 ts h a1 w1->Marks m1 w1 lo a1.defers->(∀m' a' w',St P m' ts' h' a' w'->Grow m1 h w1 m' h' w'->Marks m' w' lo a'.defers->Q e.Dq a' w')->
    ∃e a' w',Q e a' w'/\ArrivesIn (Machine.fenced P (Fd ro)) P (lone (b.atR a1 (.code ca:: .inLoop ca::k)) cs w1) b k cs e a' w':=by
   clear hQ st hm hlo
   induction hl with
   |out hx hne=>
    rename_i ts h e ts' h';intro m1 a1 w1 hlo s1 k1 hQ;obtain⟨e1,a2,w2,hq,Tr⟩:=hx ca Tl m1 a1 w1 lo hlo s1 k1 (λe1 a1 w1=>e1≠.normal/\Q e1 a1 w1) (λm' a' w' s g k'=>⟨by cases e<;>first|exact absurd rfl hne|simp[Ex.Dq],hQ m' a' w' s g k'⟩) b (.inLoop ca::k) cs hro hb hr;exact⟨e1,a2,w2,hq.2,.pass (x:=.inLoop ca) rfl (λ_ _=>.inl hq.1) Tr⟩
   |more hx hr' ih=>
    intro m1 a1 w1 hlo s1 k1 hQ;obtain⟨e1,a2,w2,hq,Tr⟩:=hx ca Tl m1 a1 w1 lo hlo s1 k1 (λe1 a2 w2=>e1=.normal/\∃m2,St P m2 _ _ a2 w2/\Grow m1 _ w1 m2 _ w2/\Marks m2 w2 lo a2.defers) (λm' a' w' s g k'=>⟨rfl,m',s,g,k'⟩) b (.inLoop ca::k) cs hro hb hr;obtain⟨rfl,m2,s2,g2,k2⟩:=hq;obtain⟨e3,a3,w3,hq3,harr3⟩:=ih m2 a2 w2 (aaz hlo g2.size) s2 k2 (λm' a' w' s g k'=>hQ m' a' w' s (g2.trans g s1.hr.cT) k');exact⟨e3,a3,w3,hq3,.of_steps (StepsIn.trans Tr (.one (fenced_calm hb hr rfl) stepR_inLoop)) harr3⟩
  obtain⟨e',a',w',hq,Tr⟩:=key m a w hlo st hm hQ;exact⟨e',a',w',hq,.of_steps (.one (fenced_calm hb hr rfl) stepR_loop) Tr⟩
 |scope a=>exact absurd rfl (hns a)
 |region id ops draw=>rcases eU (by simpa only[compile]using hc)with⟨_,h1,_⟩|⟨_,h1,_⟩|⟨_,h1,_⟩<;>cases h1
 |block id a=>simp[compile]at hc
 |_=>
  exact z24
end
def dI(ts:TS)(h:ah):Nat×Option (Option Nat)->Option AV
 |(t,none)=>some (ts.getD t aA)
 |(a,some n)=>
  match dP (.load n (.c (ts.getD a aA))) (val ts) h with
  |some (v,_)=>some v
  |none=>none
def je(ts:TS)(h:ah):List (Nat×Option (Option Nat))->Option (List AV)
 |[]=>some []
 |r::rs=>
  match dI ts h r,je ts h rs with
  |some v,some vs=>some (v::vs)
  |_,_=>none
def cR(rs:List (Nat×Option (Option Nat)))(ts:TS)(h:ah):Option AV:=
 match je ts h rs with
 |some [v]=>some v
 |some l=>some (.dz l)
 |none=>none
def aU(nt:Nat)(args:List AV):TS:=args++List.replicate (nt-args.length) aA
def Ex.leaves:Ex->Bool
 |.normal=>true
 |.ret=>true
 |_=>false
section
variable {P:Program}{m:cw}{h h':ah}{w:World}{v:AV}
def yr{ts a}(st:St P m ts h a w){r x}(hx:uF P r=some x)(hv:dI ts h x=some v):
  ∃cv,(match r with
   |.tmp t=>(pure (a.tmps.getD t undef):Sem Value)
   |.cell b t=>do loadVar t (<-asAddr (a.tmps.getD b undef))).run P w=.ok cv w/\VR m v cv:=by
 cases r with
 |tmp t=>cases hx;cases hv;exact⟨_,rfl,nV st.ts t⟩
 |cell b t=>
  simp only[uF,aag]at hx;obtain⟨n,hn,rfl⟩:=hx;simp only[dI]at hv;split at hv
  case h_2=>cases hv
  rename_i v' h' hf;cases hv;obtain⟨cv,h1,h2,_⟩:=Cl (P:=P) (ρ:=val ts) hn st.hr (a:=.c (ts.getD b aA)) (nV st.ts b) hf;refine⟨cv,?_,h2⟩;simp only[dP,val]at hf;split at hf
  case h_2=>cases hf
  rename_i b' o' hb';have hs:=nV st.ts b;rw[hb',VR]at hs;obtain⟨e,_,he⟩:=hs;simp only[he]at h1 ⊢
  simpa [Instr.loadAt,Instr.sureAddr,asAddr]using h1
theorem qm{ts:TS}{a:Act}(st:St P m ts h a w):∀{rs:List ResultVar}{xs:List (Nat×Option (Option Nat))}{vs:List AV},rs.mapM (uF P)=some xs->je ts h xs=some vs->
  ∃UY,(rs.mapM (m:=Sem) λ
   |.tmp t=>pure (a.tmps.getD t undef)
   |.cell b t=>do loadVar t (<-asAddr (a.tmps.getD b undef))).run P w=.ok UY w/\cQ m vs UY
 |[],xs,vs,hx,hv=>by
  simp at hx;subst hx;cases hv;exact⟨[],rfl,bE.2 rfl⟩
 |r::rs,xs,vs,hx,hv=>by
  simp only[aca,abW,ack]at hx;cases hr:uF P r with
  |none=>simp[hr]at hx
  |some x=>
   cases hrs:rs.mapM (uF P)with
   |none=>simp[hr,hrs]at hx
   |some xs'=>
    simp[hr,hrs]at hx;subst hx;simp only[je]at hv;split at hv
    case h_2=>cases hv
    rename_i v vs' h1 h2;cases hv;obtain⟨cv,hc,Sz⟩:=yr st hr h1;obtain⟨UY,U3,hvrs⟩:=qm st hrs h2;refine⟨cv::UY,?_,aT.2 ⟨cv,UY,rfl,Sz,hvrs⟩⟩;rw[aca,aae];have T2:=hc;cases r<;>(simp only at T2 ⊢;rw[T2];simp only[Z2,aae,U3,aat])
def wi{ts:TS}{a:Act}(st:St P m ts h a w){fn:Func}{xs:List (Nat×Option (Option Nat))}(hx:fn.results.toList.mapM (uF P)=some xs)(hv:cR xs ts h=some v):
  ∃cv,(results fn a.tmps).run P w=.ok cv w/\VR m v cv:=by
 unfold cR at hv;have key:∀{vs:List AV},je ts h xs=some vs->∃UY:List Value,(results fn a.tmps).run P w=.ok (if h:UY.length=1 then UY[0]else .tuple ⟨UY⟩) w/\cQ m vs UY:=by
  intro vs SU;obtain⟨UY,h1,h2⟩:=qm st hx SU;refine⟨UY,?_,h2⟩;unfold results;rw[Array.mapM_eq_mapM_toList,aae];simp only[map_eq_pure_bind,aae];have h1':=h1
  erw [h1']
  simp only[Z2,aat];by_cases hc:UY.length=1
  ·simp[hc]
  ·simp[hc]
 split at hv
 ·rename_i v' SU;cases hv;obtain⟨UY,h1,h2⟩:=key SU;obtain⟨y,ys,rfl,hy,hys⟩:=aT.1 h2;rw[bE]at hys;subst hys;exact⟨y,by simpa using h1,hy⟩
 ·rename_i l hno SU;cases hv;obtain⟨UY,h1,h2⟩:=key SU;have hlen:UY.length≠1:=by
   rw[h2.length];intro hl;obtain⟨z,hz⟩:=List.length_eq_one_iff.1 hl;exact hno z hz
  rw[dif_neg hlen]at h1;exact⟨_,h1,⟨UY,rfl,h2⟩⟩
 ·cases hv
theorem oI{fn xs}(hx:fn.results.toList.mapM (uF P)=some xs){ts}(hv:cR xs ts h' =some v){m0 h0 w0 lo}(hlo:w0.heap.size<=lo):
  ∀(ds:List Deferred) (m:cw) (a:Act) (w:World),St P m ts h' a w->Grow m0 h0 w0 m h' w->Marks m w lo ds->LeavesInM Fence.wide 0 P fn a.tmps (Rel P m0 h0 w0 v h') ds .returning w
 |[],m,a,w,st,g,_=>by
  obtain⟨cv,h1,h2⟩:=wi st hx hv;exact⟨cv,h1,cv,m,rfl,h2,st.hr,g⟩
 |d::ds,m,a,w,st,g,k=>by
  obtain⟨rs,h1,h2,h3⟩:=k;cases rs with
  |nil=>simp at h1
  |cons r rs=>
   simp only[aaJ,List.cons.injEq]at h1;obtain⟨rfl,rfl⟩:=h1;obtain⟨hl,hh,hm⟩:=h3 r Si;have hoth:∀i,i≠r->(w.putObj r (.deferred none)).heap[i]? =w.heap[i]? :=λi hi=>World.putObj_heap_other hi
   refine⟨Si,.inl ⟨r,_,rfl,run_takeDeferred hh,?_⟩⟩;refine oI hx hv hlo _ m a _ ⟨⟨st.hr.cT,λb e k hb hk=>(st.hr.eO b e k hb hk).heap (hoth _ (hm b e hb)),st.hr.sep,st.hr.gS,λb e hb=>by simpa using st.hr.lt b e hb⟩,st.ts⟩
    ⟨g.ext,g.len,g.new,g.tl,by simpa using g.size,g.os,g.out,g.tape,λi hi hno=>?_⟩ ⟨rs,rfl,(acm.1 h2).2,λr' hr'=>?_⟩
   ·rw[hoth i Om];exact g.frame i hi hno
   ·obtain⟨c1,c2,c3⟩:=h3 r' (aao _ hr');refine⟨c1,?_,c3⟩;rw[hoth r' (λx=>(acm.1 h2).1 (x▸hr'))];exact c2
def iE{f A}(hA:bU P f=some A):∃fn c,P.funcs[f]? =some fn/\fn.body=some c/\compile P c=some A.body/\fn.results.toList.mapM (uF P)=some A.rs/\fn.ntmps=A.nt/\(fn.name == "runtime.NumGoroutine")=false:=by
 unfold bU at hA;split at hA
 case h_1=>cases hA
 rename_i fn hf;split at hA
 case h_1=>cases hA
 rename_i c hb;split at hA
 case h_2=>cases hA
 rename_i b rs hc hr;split at hA
 case isTrue=>cases hA
 rename_i hn;cases hA;exact⟨fn,c,hf,hb,hc,hr,rfl,by simpa using hn⟩
def mw.Mc{f A}(hA:bU P f=some A){args e ts'}(hev:Ev P none A.body (aU A.nt args) h e ts' h')(he:e.leaves=true)(hv:cR A.rs ts' h' =some v):mw P f args h v h':=by
 intro m w vs hr hargs;obtain⟨fn,c,hf,hb,hc,hres,hnt,_⟩:=iE hA;rw[<-callsIn_wide (n:=0)];refine callsIn_of_wp_marks hf hb trivial ?_;refine hev c hc m _ w w.heap.size (Z0 _) ⟨hr,?_⟩ (Marks.nil m w _) _ ?_
 ·have:((⟨vs⟩:Array Value)++Array.replicate (fn.ntmps-(⟨vs⟩:Array Value).size) undef).toList=vs++List.replicate (A.nt-args.length) undef:=by
   rw[hnt];simp[hargs.length]
  rw[this];refine cQ.append hargs (cQ.iV Si λi x hx=>?_);rw[List.getElem?_replicate]at hx ⊢;split at hx
  ·rename_i hlt;cases hx;rw[ZY hlt];exact⟨undef,rfl,kL m⟩
  ·cases hx
 ·intro m' a' w' s g k;have:=oI hres hv (Z0 _) a'.defers m' a' w' s g k;cases e<;>first|exact this|cases he
def fM.zJ{f A}(hA:bU P f=some A){a c args}(hs:mw P f (a++args++c) h v h'):fM P (.func (.func f) a c) args h v h':=by
 intro m w cv vs hr hf hargs;rw[VR]at hf;obtain⟨f',a',c',rfl,hfn,ha,hc⟩:=hf;simp only[BC]at hfn;subst hfn;refine⟨_,λw=>rfl,?_⟩;obtain⟨fn,cc,hfn,hb,_,_,_,hn⟩:=iE hA;simp only[invoke];rw[k9 hfn (by rw[hb];rfl) hn];show CallsIn Fence.wide 0 P f _ w _;rw[callsIn_wide];have:=hs m w (a'++vs++c') hr (cQ.append (cQ.append ha hargs) hc)
 simpa using this
def jy(P:Program)(u:TypeId)(name:String):Option FuncId:=
 match P.info? u,P.underlying u with
 |some i,some d=>
  match i.methods.find? (·.name==name)with
  |some m=>
   match m.path.toList,m.func,d with
   |[],some (_,false),.pointer _=>none
   |[],some (f,false),_=>some f
   |_,_,_=>none
  |none=>none
 |_,_=>none
def yo{u:TypeId}{name f}(hm:jy P u name=some f)(n:Nat)(v:Value)(w:World):(method (n+1) u v name).run P w=.ok (f,v) w:=by
 unfold jy at hm;split at hm
 case h_2=>cases hm
 rename_i i d hi hd;split at hm
 case h_2=>cases hm
 rename_i mm US;split at hm
 case h_3=>cases hm
 case h_1=>cases hm
 rename_i f' hp hfn hnp;cases hm;have hti:(typeInfo u).run P w=.ok i w:=by simp[typeInfo,hi]
 rw[method];simp only[aae,hti,Z2,US,hp,follow,aat,hfn];have SD:∀wr,(receiverAt u (.val v) false wr).run P w=.ok v w:=by
  intro wr;unfold receiverAt;simp only[aae,aab hd,Z2];rfl
 simp only[SD,Z2]
def fM.EW{u:TypeId}{name f A}(hm:jy P u name=some f)(hA:bU P f=some A){a args}(hs:mw P f (a::args) h v h'):fM P (.func (.method name) [] []) (.vB u a::args) h v h':=by
 intro m w cv vs hr hf hargs;rw[VR]at hf;obtain⟨f',a',c',rfl,hfn,ha,hc⟩:=hf;simp only[BC]at hfn;subst hfn;rw[bE]at ha hc;subst ha;subst hc;obtain⟨x,vs,rfl,hx,SU⟩:=aT.1 hargs;rw[VR]at hx;obtain⟨v',rfl,hx⟩:=hx;refine⟨_,λw=>rfl,?_⟩;obtain⟨fn,cc,hfn,hb,_,_,_,hn⟩:=iE hA;have e0:((#[]++(⟨.iface u v'::vs⟩:Array Value)):Array Value)[0]? =some (.iface u v'):=Si
 have e1:((#[]++(⟨.iface u v'::vs⟩:Array Value)):Array Value).extract 1 ((#[]++(⟨.iface u v'::vs⟩:Array Value)):Array Value).size=⟨vs⟩:=by
  apply acf;simp
 simp only[invoke,e0,e1,callMethod,aae,program];have hmt:=yo hm (P.types.size+Made.depth-1) v' w;have hdep:0<Made.depth:=De
 have hne:P.types.size+Made.depth-1+1=P.types.size+Made.depth:=Om
 rw[hne]at hmt;show D4 P (Rel P m h w v h') ((Result.ok P w).andThen λa w'=>(Sem.run P (method (a.types.size+Made.depth) u v' name) w').andThen λa w'=>Sem.run P (callFunc a.fst (#[a.snd]++⟨vs⟩)) w');simp only[Z2,hmt];rw[k9 hfn (by rw[hb];rfl) hn];show CallsIn Fence.wide 0 P f _ w _;rw[callsIn_wide];have:=hs m w (v'::vs) hr (aT.2 ⟨_,_,rfl,hx,SU⟩);have e2:(#[v']++(⟨vs⟩:Array Value))=⟨v'::vs⟩:=by apply acf;simp
 rw[e2];exact this
end
def setArgs:TS->List Nat->List AV->TS
 |ts,p::ps,v::vs=>setArgs (ts.set p v) ps vs
 |ts,_,_=>ts
section
variable {P:Program}{m:cw}{h h':ah}{w:World}{v:AV}
def HR.aside(hr:HR P m h w)(o:Obj):HR P m h (w.alloc o):=
 ⟨hr.cT,λb e k hb hk=>(hr.eO b e k hb hk).heap (Go.RowKit.Below.heap_alloc w o _ (hr.lt b e hb)),hr.sep,hr.gS,λb e hb=>by have:=hr.lt b e hb;simp;omega⟩
def Grow.aside(hr:HR P m h w)(o:Obj):Grow m h w m h (w.alloc o):=
 ⟨λ_ _=>rfl,Z0 _,λb e hb he=>absurd (hr.cT b e he) Om,λ_ _ h=>h,Si,rfl,rfl,rfl,λi hi _=>Go.RowKit.Below.heap_alloc w o i hi⟩
theorem qj:∀{ps}{args}{ts}{tmps}{vs},cQ m ts tmps.toList->cQ m args vs->cQ m (setArgs ts ps args) ((ps.zip vs).foldl (λ(t:Array Value) (p:Nat×Value)=>t.setIfInBounds p.1 p.2) tmps).toList
 |[],_,_,_,_,ht,_=>by simpa [setArgs]using ht
 |p::ps,[],ts,tmps,vs,ht,ha=>by rw[bE]at ha;subst ha;simpa [setArgs]using ht
 |p::ps,x::args,ts,tmps,vs,ht,ha=>by
  obtain⟨y,ys,rfl,hy,hys⟩:=aT.1 ha;simp only[List.zip_cons_cons,ab4,setArgs];exact qj (by rw[Array.toList_setIfInBounds];exact ht.set p hy) hys
theorem fM.yield{l ex ex2 ex4 e ts VV ts3 tb tc ps pb pc asg body ab ac bb bc h2 h4 args st4}
  (hl:h[l]? =some (.loop .ready ex ts ps asg body)) (hlen:args.length=ps.length)
  (hasg:∀r,Ev P (some r) asg (setArgs ts ps args) h .normal VV h2) (hl2:h2[l]? =some (.loop .ready ex2 tb pb ab bb))
  (hbody:∀r,Ev P (some r) body VV (h2.set l (.loop .busy ex2 tb pb ab bb)) e ts3 h4) (hl4:h4[l]? =some (.loop st4 ex4 tc pc ac bc)):
  fM P (.func (.yield l) [] []) args h (.bool (decide (e=.normal))) (h4.set l (.loop (if e=.normal then .ready else .done) e tc pc ac bc)):=by
 intro m w cv vs hr hf hargs;rw[VR]at hf;obtain⟨f',a',c',rfl,hfn,ha,hc⟩:=hf;rw[bE]at ha hc;subst ha;subst hc;obtain⟨el,WZ,rfl⟩:=hfn;refine⟨_,λw=>rfl,?_⟩;obtain⟨hown,fn,tmps,TD,S0,df,hh,Sv,Tl,hcb⟩:=hr.eO l el _ WZ hl;have hy:=run_yield (P:=P) (args:=(#[]++⟨vs⟩:Array Value)) hh (by simp[hargs.length,hlen]);simp only[invoke];rw[hy];show RoundIn Fence.wide 0 P el.cb fn _ TD S0 w _;refine roundIn_of_wpIn trivial ?_;have UL:cQ m (setArgs ts ps args) (((⟨ps⟩:Array Tmp).zip (#[]++⟨vs⟩:Array Value)).foldl (λtmps (t,a)=>tmps.setIfInBounds t a) tmps).toList:=by
  have:=qj (ps:=ps) Sv hargs;rw[<-Array.foldl_toList,Array.toList_zip]
  simpa using this
 refine hasg el.cb TD Tl m _ w w.heap.size (Z0 _) ⟨hr,UL⟩ (Marks.nil m w _) _ λm1 a1 w1 s1 g1 k1=>?_
 have XV:m1 l=some el:=by rw[g1.ext l (hr.cT _ _ WZ)];exact WZ
 obtain⟨_,fn2,X7,YG,Xj,df2,hh2,hts2,hca2,hcb2⟩:=s1.hr.eO l el _ XV hl2;refine⟨_,run_beginRound hh2 rfl,?_⟩;have hlt1:el.cb<w1.heap.size:=s1.hr.lt _ _ XV;obtain⟨TQ,g2⟩:=kP s1.hr (o:=.loop {state:=.busy,pending:=ex2.jump,fn:=fn2,tmps:=X7,params:=⟨pb⟩,assign:=YG,body:=Xj,defers:=df2}) XV hl2 rfl (k':=.loop .busy ex2 tb pb ab bb) (.inl rfl)
  ⟨hown,fn2,X7,YG,Xj,df2,World.putObj_heap_same hlt1,hts2,hca2,hcb2⟩
 refine hbody el.cb S0 hcb m1 a1 _ w.heap.size (aaz g1.size g2.size) ⟨TQ,s1.ts⟩ (k1.grow g2 s1.hr.cT) _ λm2 a2 w3 s2 g3 k2=>?_
 have hl2':l<h2.length:=(ZM.1 hl2).1;have Zz:m2 l=some el:=by rw[g3.ext l (by simpa using hl2')];exact XV
 obtain⟨_,fn4,X6,YF,Xi,df4,hh4,hts4,hca4,hcb4⟩:=s2.hr.eO l el _ Zz hl4;have TK:el.cb<w3.heap.size:=s2.hr.lt _ _ Zz;have fin:∀j:Option Code,j=e.jump->∃v w',(Instr.endRound el.cb j).run P w3=.ok v w'/\Rel P m h w (.bool (decide (e=.normal))) (h4.set l (.loop (if e=.normal then .ready else .done) e tc pc ac bc)) (.returned v) w':=by
  rintro j rfl;obtain⟨hr4,g4⟩:=kP s2.hr (o:=.loop {state:=if e=.normal then .ready else .done,pending:=e.jump,fn:=fn4,tmps:=X6,params:=⟨pc⟩,assign:=YF,body:=Xi,defers:=df4}) Zz hl4 rfl
   (k':=.loop (if e=.normal then .ready else .done) e tc pc ac bc) (.inl rfl) ⟨hown,fn4,X6,YF,Xi,df4,World.putObj_heap_same TK,hts4,hca4,hcb4⟩
  refine⟨_,_,run_endRound e.jump hh4,.bool (decide (e=.normal)),m2,?_,rfl,?_,?_⟩
  ·cases e<;>rfl
  ·have:(if e.jump.isNone=true then LoopState.ready else .done)=if e=.normal then .ready else .done:=by cases e<;>rfl
   simp only[this];exact hr4
  ·have:(if e.jump.isNone=true then LoopState.ready else .done)=if e=.normal then .ready else .done:=by cases e<;>rfl
   simp only[this];exact((g1.trans g2 hr.cT).trans g3 hr.cT).trans g4 hr.cT
 cases e with
 |normal=>exact fin none rfl
 |exit id=>exact fin (some (.exit id)) rfl
 |ret=>exact fin (some .ret) rfl
theorem Ev.gx{g ps ps' asg body asg' body' ts ts' f A a c h2 st ex}(hA:bU P f=some A)(hg:val ts g=.func (.func f) a c)
  (hs:mw P f (a++[.func (.yield h.length) [] []]++c) (h++[.loop .ready .normal ts ps asg body]) v h2) (hl:h2[h.length]? =some (.loop st ex ts' ps' asg' body')) (bP:st≠.busy):
  Ev P none (.gx g ps asg body) ts h ex ts (h2.set h.length .dead):=by
 refine Ev.of λcc hns Wa m act w lo hlo s hm Q hQ=>?_
 cases cc with
 |rangeFunc og cps TD S0=>
  simp only[compile]at Wa;split at Wa
  case h_2=>cases Wa
  rename_i g' x' y' hgo Tl hcb;cases Wa;have hv:=CL s hgo;rw[hg,VR]at hv;obtain⟨f',ca,Tm,hev,hfn,ha,hc⟩:=hv;simp only[BC]at hfn;subst hfn;obtain⟨W1,UN⟩:∃W1,w.alloc (.deferred (some []))=W1:=⟨_,rfl⟩;have hsz1:W1.heap.size=w.heap.size+1:=by rw[<-UN];simp
  have hr1:HR P m h W1:=by rw[<-UN];exact s.hr.aside _
  have g1:Grow m h w m h W1:=by rw[<-UN];exact Grow.aside s.hr _
  have Yz:W1.heap[w.heap.size]? =some (.deferred (some [])):=by rw[<-UN];exact World.alloc_heap_new w _
  refine wpIn_rangeFunc λfn _=>?_
  obtain⟨rec,SD⟩:∃rec:Loop,rec={state:=.ready,pending:=none,fn:=fn,tmps:=act.tmps,params:=cps,assign:=TD,body:=S0,defers:=w.heap.size}:=⟨_,rfl⟩;obtain⟨TQ,g2⟩:=kZ hr1 (.loop rec) (.loop .ready .normal ts cps.toList asg body) ⟨W1.heap.size,0,0,true⟩ rfl rfl (λm' hm'=>⟨rfl,fn,act.tmps,TD,S0,w.heap.size,by rw[SD];exact World.alloc_heap_new W1 _,cQ.mono hm' _ _ s.ts,Tl,hcb⟩);have hloc:(m.add h.length ⟨W1.heap.size,0,0,true⟩) h.length=some ⟨W1.heap.size,0,0,true⟩:=by simp[cw.add]
  have hle:m.le (m.add h.length ⟨W1.heap.size,0,0,true⟩):=g2.le s.hr.cT;have WY:=run_enterLoop_outer (P:=P) (w:=w) fn act.tmps cps TD S0;rw[UN,<-SD]at WY;obtain⟨ffn,fcode,hffn,Ys,_,_,_,Zx⟩:=iE hA;have hmk:Marks (m.add h.length ⟨W1.heap.size,0,0,true⟩) (W1.alloc (.loop rec)) lo ([{target:=.collected w.heap.size,args:=#[] }]++act.defers):=by
   obtain⟨rs,k1,k2,k3⟩:=(hm.grow g1 s.hr.cT).grow g2 s.hr.cT;refine⟨w.heap.size::rs,by rw[k1];rfl,acm.2 ⟨λhin=>?_,k2⟩,λr hr'=>?_⟩
   ·obtain⟨rs0,j1,j2,j3⟩:=hm;have hrs:rs0=rs:=by
     have:rs0.map (λr=>({target:=.collected r,args:=#[] }:Deferred))=rs.map (λr=>({target:=.collected r,args:=#[] }:Deferred)):=by rw[<-j1,k1]
     exact List.map_inj_right (λx y hxy=>by simpa using hxy) |>.1 this
    subst hrs;have:=(aaa.1 (j3 _ hin).2.1).1;omega
   ·rcases aap.1 hr' with rfl|hr'
    ·refine⟨hlo,(Go.RowKit.Below.heap_alloc W1 _ _ Om).trans Yz,λb e hb=>?_⟩;unfold cw.add at hb;split at hb
     ·cases hb;show W1.heap.size≠_;omega
     ·have:=s.hr.lt b e hb;omega
    ·exact k3 r hr'
  refine⟨w.heap.size+1,_,W1.alloc (.loop rec),{target:=.fn (.func f) ⟨Tm⟩,args:=⟨ca⟩++#[.func (.yield (w.heap.size+1)) #[] #[]] },W1.alloc (.loop rec),f,(⟨ca⟩++#[.func (.yield (w.heap.size+1)) #[] #[]])++⟨Tm⟩,W1.alloc (.loop rec),
   WY,?_,λ_ _=>trivial,?_,λhd=>by simp[Fd,Fence.wide]at hd,?_⟩
  ·have WA:(#[Operand.const (.func (.yield (w.heap.size+1)) #[] #[])] :Array Operand).map act.eval=#[.func (.yield (w.heap.size+1)) #[] #[]]:=by simp[Act.eval]
   simp only[resolve,hev,rangeCall,WA];rfl
  ·simp only[invoke];exact k9 hffn (by rw[Ys];rfl) Zx
  ·have hargs:cQ (m.add h.length ⟨W1.heap.size,0,0,true⟩) (a++[.func (.yield h.length) [] []]++c) (ca++[.func (.yield (w.heap.size+1)) #[] #[]]++Tm):=by
    refine cQ.append (cQ.append (cQ.mono hle _ _ ha) (aT.2 ⟨_,[],rfl,⟨_,[],[],rfl,⟨_,hloc,by rw[hsz1]⟩,rfl,rfl⟩,bE.2 rfl⟩)) (cQ.mono hle _ _ hc)
   have UW:=hs _ _ _ TQ hargs;rw[<-callsIn_wide (n:=0)]at UW;have ZD:CallsIn (Fd none) (0-1) P f ((⟨ca⟩++#[.func (.yield (w.heap.size+1)) #[] #[]])++⟨Tm⟩) (W1.alloc (.loop rec)) (Rel P (m.add h.length ⟨W1.heap.size,0,0,true⟩) (h++[.loop .ready .normal ts cps.toList asg body]) (W1.alloc (.loop rec)) v h2):=by
    have Tr:((⟨ca⟩++#[.func (.yield (w.heap.size+1)) #[] #[]])++⟨Tm⟩:Array Value)=⟨ca++[.func (.yield (w.heap.size+1)) #[] #[]]++Tm⟩:=by apply acf;simp
    rw[Tr];exact UW
   refine ZD.mono ?_;rintro e3 w3 ⟨cv,m3,rfl,hv3,hr3,g3⟩;have Ym:m3 h.length=some ⟨W1.heap.size,0,0,true⟩:=by rw[g3.ext h.length Si];exact hloc
   obtain⟨hown3,fn3,tmps3,casg3,ZK,df3,hh3,_⟩:=hr3.eO h.length _ _ Ym hl;simp only at hh3;have UC:=run_endLoop (P:=P) (l:=W1.heap.size) hh3 (by simpa using bP);obtain⟨hr4,g4⟩:=kP hr3 (o:=.loop {state:=.exhausted,pending:=ex.jump,fn:=fn3,tmps:=tmps3,params:=⟨ps'⟩,assign:=casg3,body:=ZK,defers:=df3}) Ym hl rfl (k':=.dead) (.inr rfl) trivial;have Ub:=hQ m3 {act with defers:=[{target:=.collected w.heap.size,args:=#[] }]++act.defers} _ ⟨hr4,cQ.mono ((g2.trans g3 s.hr.cT).le s.hr.cT) _ _ s.ts⟩ (((g1.trans g2 s.hr.cT).trans g3 s.hr.cT).trans g4 s.hr.cT) ((hmk.grow g3 TQ.cT).grow g4 hr3.cT);refine⟨ex.jump,_,by rw[<-hsz1];exact UC,?_⟩
   cases ex with
   |normal=>exact Ub
   |exit id=>exact wpIn_exit Ub
   |ret=>exact wpIn_ret Ub
 |scope a=>exact absurd rfl (hns a)
 |region id ops draw=>rcases eU (by simpa only[compile]using Wa)with⟨_,h1,_⟩|⟨_,h1,_⟩|⟨_,h1,_⟩<;>cases h1
 |block id a=>simp[compile]at Wa
 |loop a=>simp[compile]at Wa
 |_=>
  simp only[compile]at Wa
  (repeat' split at Wa)
  all_goals cases Wa
end
inductive jv where
 |ar
 |push (k:an)
 |set (b:Nat) (k:an)
 |nX (b:Nat) (k k':an)
 deriving Inhabited
def jv.app:jv->ah->ah
 |.ar,h=>h
 |.push k,h=>h++[k]
 |.set b k,h=>h.set b k
 |.nX b k k',h=>h.set b k++[k']
def fL(es:Nat)(G:Nat->Option an):AV->Option (List AV×Nat)
 |.af=>some ([],0)
 |.slice b o n es'=>
  if es' =es then
   match G b with
   |some (.cells c _ _)=>if o+n*es<=c.length then some ((c.drop o).take (n*es),n)else none
   |_=>none
  else none
 |.str s=>if es=1 then some (s.map λb=>.int .u8 b.toNat,s.length)else none
 |_=>none
def j9(lk:LK)(G:Nat->Option an):AV->Option Nat
 |.str s=>if lk=.st then some s.length else none
 |.slice _ _ n _=>if lk=.sl then some n else none
 |.af=>if lk=.sl then some 0 else none
 |.map r=>
  match G r with
  |some (.bu es)=>if lk=.mp then some es.length else none
  |_=>none
 |.dF=>if lk=.mp then some 0 else none
 |_=>none
def ng(k:At)(x:AV)(G:Nat->Option an)(N0:Nat):Option (AV×jv):=
 match k with
 |.MQ k=>
  match x with
  |.int _ n=>some (.int k (k.wrap n),.ar)
  |_=>none
 |.same=>
  match x with
  |.str s=>some (.str s,.ar)
  |_=>none
 |.PO k=>
  match x with
  |.int _ n=>some (.yc k (k.nearest n),.ar)
  |_=>none
 |.P4 k=>
  match x with
  |.yc s b=>
   match (s.decode b).toInt .zero with
   |some n=>if E0 s b=false/\k.min<=n/\n<=k.max then some (.int k n,.ar)else none
   |none=>none
  |_=>none
 |.P5 k=>
  match x with
  |.yc s b=>if s=k then some (.yc k b,.ar)else none
  |_=>none
 |.vB u=>some (.vB u x,.ar)
 |.N3=>
  match x with
  |.af=>some (.str [],.ar)
  |.slice b o n es=>
   match fL 1 G (.slice b o n es)with
   |some (l,_)=>
    match l.mapM byteOf with
    |some r=>some (.str r,.ar)
    |none=>none
   |none=>none
  |_=>none
 |.OP=>
  match x with
  |.str s=>some (.slice N0 0 s.length 1,.push (.cells (s.map λb=>.int .u8 b.toNat) true true))
  |_=>none
def nI(k:pE):(dt->AV)->(Nat->Option an)->Nat->Option (AV×jv):=
 match k with
 |.bY x=>λρ G N0=>some (ρ x,.ar)
 |.pick c a b=>λρ G N0=>
  match ρ c with
  |.bool t=>some (if t then ρ a else ρ b,.ar)
  |_=>none
 |.box x=>λρ G N0=>if(ρ x).cells.all AV.one then some (.ptr N0 0,.push (.cells (ρ x).cells true false))else none
 |.o8 n x=>λρ G N0=>if(ρ x).cells.all AV.one=true/\(ρ x).cells.length=n then some (.ptr N0 0,.push (.cells (ρ x).cells true false))else none
 |.build z ps=>λρ G N0=>
  match fy z (ps.map λp=>(p.1,p.2.1,ρ p.2.2))with
  |some c=>some (.agg c,.ar)
  |none=>none
 |.load n a=>λρ G N0=>
  match ρ a with
  |.ptr b o=>
   match G b with
   |some (.cells c _ _)=>
    match n with
    |none=>
     match c[o]? with
     |some x=>some (x,.ar)
     |none=>none
    |some n=>if o+n<=c.length then some (.agg ((c.drop o).take n),.ar)else none
   |_=>none
  |_=>none
 |.store n a x=>λρ G N0=>
  match ρ a with
  |.ptr b o=>
   match G b with
   |some (.cells c true tl)=>
    if(ρ x).cells.length=n/\(ρ x).cells.all AV.one=true/\o+n<=c.length then some (aA,.set b (.cells (gu c o (ρ x).cells) true tl))else none
   |_=>none
  |_=>none
 |.bT x=>λρ G N0=>
  match ρ x with
  |.ptr b o=>some (.ptr b o,.ar)
  |.func (.func f) a c=>some (.func (.func f) a c,.ar)
  |.func (.yield f) a c=>some (.func (.yield f) a c,.ar)
  |.func (.methodOf t n) a c=>some (.func (.methodOf t n) a c,.ar)
  |.func (.via t p f q) a c=>some (.func (.via t p f q) a c,.ar)
  |_=>none
 |.bin op x y=>λρ G N0=>
  match fe op (ρ x) (ρ y)with
  |some v=>some (v,.ar)
  |none=>none
 |.eqv neg t x y=>λρ G N0=>
  match mS t (ρ x) (ρ y)with
  |some b=>some (.bool (if neg then !b else b),.ar)
  |none=>none
 |.un op x=>λρ G N0=>
  match yf op (ρ x)with
  |some v=>some (v,.ar)
  |none=>none
 |.conv k x=>λρ G N0=>ng k (ρ x) G N0
 |.uP f a c=>λρ G N0=>some (.func f (a.map ρ) (c.map ρ),.ar)
 |.oD=>λρ G N0=>some (.map N0,.push (.bu []))
 |.wI es w z l c=>λρ G N0=>
  match ρ l,ρ c with
  |.int _ l,.int _ c=>
   if 0<=l/\l<=c/\(w:Int)*c<=2^48/\c<2^63 then some (.slice N0 0 l.toNat es,.push (.cells (eC l.toNat z) true true))else none
  |_,_=>none
 |.sl es x lo hi=>λρ G N0=>
  match ρ x with
  |.slice b o n es'=>
   if es' =es then
    match ja (lo.map ρ) (hi.map ρ) n with
    |some (l,h')=>some (.slice b (o+l*es) (h'-l) es,.ar)
    |none=>none
   else none
  |.af=>
   match ja (lo.map ρ) (hi.map ρ) 0 with
   |some _=>some (.af,.ar)
   |none=>none
  |_=>none
 |.HW x lo hi=>λρ G N0=>
  match ρ x with
  |.str s=>
   match ja (lo.map ρ) (hi.map ρ) s.length with
   |some (l,h')=>some (.str ((s.drop l).take (h'-l)),.ar)
   |none=>none
  |_=>none
 |.NZ k es x lo hi=>λρ G N0=>
  match ρ x with
  |.ptr b o=>
   match G b with
   |some (.cells c _ _)=>
    if o+k*es<=c.length then
     match ja (lo.map ρ) (hi.map ρ) k with
     |some (l,h')=>some (.slice b (o+l*es) (h'-l) es,.ar)
     |none=>none
    else none
   |_=>none
  |_=>none
 |.bp off x=>λρ G N0=>
  match ρ x with
  |.ptr b o=>some (.ptr b (o+off),.ar)
  |_=>none
 |.bo es x i=>λρ G N0=>
  match ρ x,ρ i with
  |.slice b o n es',.int _ i=>if es' =es/\0<=i/\i<n then some (.ptr b (o+i.toNat*es),.ar)else none
  |_,_=>none
 |.te len es x i=>λρ G N0=>
  match ρ x,ρ i with
  |.ptr b o,.int _ i=>if 0<=i/\i<len then some (.ptr b (o+i.toNat*es),.ar)else none
  |_,_=>none
 |.part n off x=>λρ G N0=>
  match ρ x with
  |.agg cs=>
   match n with
   |none=>
    match cs[off]? with
    |some v=>some (v,.ar)
    |none=>none
   |some n=>some (.agg ((cs.drop off).take n),.ar)
  |_=>none
 |.J6 len es n x i=>λρ G N0=>
  match ρ x,ρ i with
  |.agg cs,.int _ i=>
   if 0<=i/\i<len then
    match n with
    |none=>
     match cs[i.toNat*es]? with
     |some v=>some (v,.ar)
     |none=>none
    |some n=>some (.agg ((cs.drop (i.toNat*es)).take n),.ar)
   else none
  |_,_=>none
 |.C5 x i=>λρ G N0=>
  match ρ x,ρ i with
  |.str s,.int _ i=>
   if 0<=i then
    match s[i.toNat]? with
    |some b=>some (.int .u8 b.toNat,.ar)
    |none=>none
   else none
  |_,_=>none
 |.look kk z ok m k=>λρ G N0=>
  match ρ m with
  |.dF=>some (if ok then .dz [z,.bool false]else z,.ar)
  |.map r=>
   match G r with
   |some (.bu es)=>
    match jW kk (ρ k) es with
    |some (some v)=>some (if ok then .dz [v,.bool true]else v,.ar)
    |some none=>some (if ok then .dz [z,.bool false]else z,.ar)
    |none=>none
   |_=>none
  |_=>none
 |.gy kk m k x=>λρ G N0=>
  match ρ m with
  |.map r=>
   match G r with
   |some (.bu es)=>
    match pK kk (ρ k) (ρ x) es with
    |some es'=>some (aA,.set r (.bu es'))
    |none=>none
   |_=>none
  |_=>none
 |.Cq x=>λρ G N0=>
  match ρ x with
  |.str s=>some (.ptr N0 0,.push (.iter s 0))
  |_=>none
 |.rL x=>λρ G N0=>
  match ρ x with
  |.ptr b 0=>
   match G b with
   |some (.iter s pos)=>
    if pos<s.length then
     let d:=Utf8.decode ⟨⟨s⟩⟩ pos
     some (.dz [.bool true,.int .i64 pos,.int .i32 d.1],.set b (.iter s (pos+d.2)))
    else some (.dz [.bool false],.ar)
   |_=>none
  |_=>none
 |.ext x i=>λρ G N0=>
  match ρ x with
  |.dz l=>
   match l[i]? with
   |some v=>some (v,.ar)
   |none=>none
  |_=>none
 |.len lk x=>λρ G N0=>
  match j9 lk G (ρ x)with
  |some n=>some (.int .i64 n,.ar)
  |none=>none
 |.AR n=>λρ G N0=>some (.int .i64 n,.ar)
 |.Ae es x y=>λρ G N0=>
  match ρ x,fL es G (ρ y)with
  |.slice b o n es',some (ys,k)=>
   if es' =es then
    if min k n=0 then some (.int .i64 0,.ar)
    else
     match G b with
     |some (.cells c true tl)=>if o+min k n*es<=c.length then some (.int .i64 (min k n:Nat),.set b (.cells (gu c o (ys.take (min k n*es))) true tl))else none
     |_=>none
   else none
  |.af,some _=>some (.int .i64 0,.ar)
  |_,_=>none
 |.mx x l=>λρ G N0=>
  match jm qv (ρ x) (l.map ρ)with
  |some v=>some (v,.ar)
  |none=>none
 |.mn x l=>λρ G N0=>
  match jm qu (ρ x) (l.map ρ)with
  |some v=>some (v,.ar)
  |none=>none
 |_=>λρ G N0=>none
def p6(es w:Nat)(s y:AV)(G:Nat->Option an)(N0:Nat):Option (AV×jv):=
 match fL es G y with
 |none=>none
 |some (ys,k)=>
  match s with
  |.af=>if k=0 then(if ys.isEmpty then some (.af,.ar)else none)else if k*w<=2^46 then some (.slice N0 0 k es,.push (.cells ys true true))else none
  |.slice b o m es'=>
   if es' =es then
    if k=0 then(if ys.isEmpty then some (.slice b o m es,.ar)else none)
    else if(m+k)*w<=2^46 then
     match G b with
     |some (.cells c true true)=>if o+m*es<=c.length then some (.slice N0 0 (m+k) es,.nX b .dead (.cells ((c.drop o).take (m*es)++ys) true true))else none
     |some (.cells c false true)=>if o+m*es=c.length then some (.slice N0 0 (m+k) es,.nX b (.cells c false false) (.cells (c.drop o++ys) false true))else none
     |some (.cells c true false)=>if o+m*es=c.length then some (.slice N0 0 (m+k) es,.push (.cells (c.drop o++ys) true true))else none
     |_=>none
    else none
   else none
  |_=>none
def stepT(k:pE):(dt->AV)->(Nat->Option an)->Nat->Option (AV×jv):=
 match k with
 |.call _ _=>λ_ _ _=>none
 |.app es w x y=>λρ G N0=>p6 es w (ρ x) (ρ y) G N0
 |.bh es n z ps=>λρ _ N0=>
  match fy (eC n z) (ps.map λp=>(p.1,es,ρ p.2))with
  |some c=>if c.all AV.one=true/\c.length=n*es then some (.slice N0 0 n es,.push (.cells c true (!Nat.beq n 0)))else none
  |none=>none
 |k=>nI k
def pX(es:Nat)(h:ah)(x:AV):fL es (λb=>h[b]?) x=cellsIn es h x:=by
 cases x<;>rfl
def E3(lk:LK)(h:ah)(x:AV):j9 lk (λb=>h[b]?) x=AS lk h x:=by
 cases x<;>rfl
def Dm{k x h v e}(hs:ng k x (λb=>h[b]?) h.length=some (v,e)):kX k x h=some (v,e.app h):=by
 cases k<;>simp only[ng,pX]at hs<;>(repeat' split at hs)<;>first|(cases hs;done)|(cases hs;simp[kX,jv.app, *])
def I4{k ρ h v e}(hs:nI k ρ (λb=>h[b]?) h.length=some (v,e)):dP k ρ h=some (v,e.app h):=by
 cases k with
 |conv k x=>exact Dm (k:=k) (x:=ρ x) hs
 |wI es w z l c=>
  simp only[nI]at hs;split at hs
  case h_2=>cases hs
  rename_i kl il kc ic hl hc;split at hs
  case isFalse=>cases hs
  rename_i SR;cases hs;simp only[dP,hl,hc];rw[ZY SR];rfl
 |_=>simp only[nI,pX,E3]at hs<;>(repeat' split at hs)<;>first|(cases hs;done)|(cases hs;simp[dP,jv.app, *])
def nS{k ρ h v e}(hs:stepT k ρ (λb=>h[b]?) h.length=some (v,e)):ni k ρ h v (e.app h):=by
 have hf:∀k,nI k ρ (λb=>h[b]?) h.length=some (v,e)->dP k ρ h=some (v,e.app h):=λk hk=>I4 hk
 cases k with
 |call f args=>cases hs
 |app es w x y=>
  simp only[stepT,p6,pX]at hs;show ya es w (ρ x) (ρ y) h v (e.app h);split at hs
  ·cases hs
  rename_i ys k hy;split at hs
  ·rename_i hx;rw[hx];split at hs
   ·rename_i hk;split at hs
    ·rename_i hys;cases hs;subst hk;exact .none (by rw[hy];cases ys<;>first|rfl|cases hys) (.inl rfl)
    ·cases hs
   ·split at hs
    ·rename_i hk hb;cases hs;exact .new ys k true hy Om hb rfl
    ·cases hs
  ·rename_i b o m es' hx;rw[hx];split at hs
   case isFalse=>cases hs
   rename_i hes;subst hes;split at hs
   ·rename_i hk;split at hs
    ·rename_i hys;cases hs;subst hk;exact .none (by rw[hy];cases ys<;>first|rfl|cases hys) (.inr ⟨b,o,m,rfl⟩)
    ·cases hs
   ·rename_i hk;split at hs
    case isFalse=>cases hs
    rename_i hb;split at hs
    ·rename_i c hc;split at hs
     case isFalse=>cases hs
     rename_i hl;cases hs;exact .over ys k b o m c true hy Om hb rfl hc hl
    ·rename_i c hc;split at hs
     case isFalse=>cases hs
     rename_i hl;cases hs;exact .on ys k b o m c false hy Om hb rfl hc hl
    ·rename_i c hc;split at hs
     case isFalse=>cases hs
     rename_i hl;cases hs;exact .full ys k b o m c hy Om hb rfl hc hl
    ·cases hs
  ·cases hs
 |bh es n z ps=>
  simp only[stepT]at hs;split at hs
  case h_2=>cases hs
  rename_i c hc;split at hs
  case isFalse=>cases hs
  rename_i SR;cases hs;exact⟨c,true,_,hc,SR.1,SR.2,rfl,rfl⟩
 |_=>exact hf _ hs
inductive Acc where
 |no
 |rd (b:Nat)
 |wr (b:Nat) (k:an)
def Acc.eO:Acc->Option Nat
 |.no=>none
 |.rd b=>some b
 |.wr b _=>some b
def Acc.app(h:ah):Acc->ah
 |.wr b k=>h.set b k
 |_=>h
def AL{k}(hk:fW k=true){ρ G G' N N'}:stepT k ρ G N=stepT k ρ G' N':=by
 cases k<;>first|(cases hk;done)|rfl|skip
 case conv c x=>cases c<;>first|(cases hk;done)|rfl
 case len lk x=>
  have hl:lk≠.mp:=λe=>by rw[e]at hk;cases hk
  have e:j9 lk G (ρ x)=j9 lk G' (ρ x):=by
   cases lk<;>first|exact absurd rfl hl|skip
   all_goals
    cases ρ x<;>first|rfl|(simp only[j9,reduceCtorEq,Z3];repeat' split)<;>rfl
  simp only[stepT,nI,e]
def AQ{n a ρ G G' N N' b o}(ha:ρ a=.ptr b o)(hb:G b=G' b):stepT (.load n a) ρ G N=stepT (.load n a) ρ G' N':=by
 simp only[stepT,nI,ha,hb]
def yg{n a x ρ G G' N N' b o}(ha:ρ a=.ptr b o)(hb:G b=G' b):stepT (.store n a x) ρ G N=stepT (.store n a x) ρ G' N':=by
 simp only[stepT,nI,ha,hb]
def x9(o:bN)(ts:TS)(h:ah)(v:AV)(c:Acc):Prop:=
 (¬wanted o.gd ts/\c=.no/\v=aA)\/wanted o.gd ts/\((fW o.k=true/\c=.no/\stepT o.k (val ts) (λz=>h[z]?) h.length=some (v,.ar))\/
  (∃n a b off,o.k=.load n a/\val ts a=.ptr b off/\c=.rd b/\stepT o.k (val ts) (λz=>h[z]?) h.length=some (v,.ar))\/
  (∃n a x b off k,o.k=.store n a x/\val ts a=.ptr b off/\c=.wr b k/\stepT o.k (val ts) (λz=>h[z]?) h.length=some (v,.set b k)))
theorem x9.run{P o ts h g v c}(hs:x9 o ts h v c)(hb:∀b,c.eO=some b->g[b]? =h[b]?):dR P o ts g (put ts o.dst v) (c.app g):=by
 rcases hs with⟨hw,rfl,rfl⟩|⟨hw,hs⟩
 ·exact .skip hw
 rcases hs with⟨hp,rfl,hs⟩|⟨n,a,b,off,hk,ha,rfl,hs⟩|⟨n,a,x,b,off,k,hk,ha,rfl,hs⟩
 ·refine .run hw ?_ ?_
  ·cases hk:o.k<;>rw[hk]at hp<;>first|(cases hp;done)|trivial
  ·rw[AL hp (G':=λz=>g[z]?) (N':=g.length)]at hs;have:=nS hs;cases hk:o.k<;>rw[hk]at hp this<;>first|(cases hp;done)|exact this
 ·rw[hk]at hs;rw[AQ ha (G':=λz=>g[z]?) (N':=g.length) (hb b rfl).symm]at hs;exact Kq
 ·rw[hk]at hs;rw[yg ha (G':=λz=>g[z]?) (N':=g.length) (hb b rfl).symm]at hs;exact Kq
def BA:List bN->TS->ah->List Acc->TS->Prop
 |[],ts,_,cs,ts'=>cs=[]/\ts' =ts
 |o::r,ts,h,cs,ts'=>∃v c cs1,x9 o ts h v c/\cs=c::cs1/\BA r (put ts o.dst v) h cs1 ts'
theorem BA.row{h}:∀{l}{ts ts'}{cs},BA l ts h cs ts'->∃T:Nat->TS,T 0=ts/\T l.length=ts'/\cs.length=l.length/\∀j o,l[j]? =some o->∃v c,cs[j]? =some c/\x9 o (T j) h v c/\T (j+1)=put (T j) o.dst v
 |[],ts,ts',cs,hs=>by
  obtain⟨rfl,rfl⟩:=hs;exact⟨λ_=>ts',rfl,rfl,rfl,λj o ho=>by simp at ho⟩
 |o::r,ts,ts',cs,hs=>by
  obtain⟨v,c,cs1,bP,rfl,hr⟩:=hs;obtain⟨T,hT,T4,hl,hrow⟩:=hr.row;refine⟨λi=>match i with| 0=>ts|i+1=>T i,rfl,T4,by simp[hl],λj x hx=>?_⟩;cases j with
  |zero=>simp at hx;subst hx;exact⟨v,c,rfl,bP,hT⟩
  |succ j=>
   obtain⟨v',c',h1,h2,h3⟩:=hrow j x (by simpa using hx);exact⟨v',c',by simpa using h1,h2,h3⟩
def eI:ah->List Acc->ah
 |h,[]=>h
 |h,c::cs=>eI (c.app h) cs
def fI:List Acc->Prop
 |[]=>True
 |c::cs=>(∀b,c.eO=some b->∀x∈cs,x.eO=some b->∀k k',c=Acc.wr b k\/x=Acc.wr b k'->False)/\fI cs
theorem fI.ne:∀{cs:List Acc},fI cs->∀{i j b:Nat}{k:an}{c:Acc},cs[i]? =some (.wr b k)->i≠j->cs[j]? =some c->c.eO≠some b
 |[],_,i,j,b,k,c,h1,_,_=>by simp at h1
 |x::xs,h,i,j,b,k,c,h1,hij,h2=>by
  intro hc;cases i with
  |zero=>
   simp at h1;subst h1;cases j with
   |zero=>exact hij rfl
   |succ j=>exact h.1 b rfl c (aaK (by simpa using h2)) hc k k (.inl rfl)
  |succ i=>
   cases j with
   |zero=>
    simp at h2;subst h2;exact h.1 b hc _ (aaK (by simpa using h1)) rfl k k (.inr rfl)
   |succ j=>exact fI.ne h.2 (i:=i) (j:=j) (by simpa using h1) Om (by simpa using h2) hc
def ve(h:ah)(c:Acc):(c.app h).length=h.length:=by cases c<;>simp[Acc.app]
def y4{h:ah}{c:Acc}{b:Nat}(hb:∀k,c=.wr b k->False):(c.app h)[b]? =h[b]? :=by
 cases c with
 |wr b' k=>
  have:b'≠b:=λe=>hb k (by rw[e])
  simp[Acc.app,Z4 this]
 |_=>rfl
theorem qa:∀{cs:List Acc}{h:ah}{b:Nat},(∀(j:Nat) (k:an),cs[j]? =some (Acc.wr b k)->False)->(eI h cs)[b]? =h[b]?
 |[],h,b,_=>rfl
 |c::cs,h,b,hb=>by
  rw[eI,qa (λj k hj=>hb (j+1) k (by simpa using hj))];exact y4 λk hk=>hb 0 k (by simp[hk])
theorem ur:∀{cs:List Acc}{h:ah},fI cs->∀{j b:Nat}{k:an},b<h.length->cs[j]? =some (.wr b k)->(eI h cs)[b]? =some k
 |[],h,_,j,b,k,_,hj=>by simp at hj
 |c::cs,h,ho,j,b,k,hb,hj=>by
  cases j with
  |zero=>
   simp at hj;subst hj;rw[eI,qa (λj k' hj=>fI.ne ho (i:=0) (j:=j+1) (b:=b) (k:=k) rfl Om (by simpa using hj) rfl)];simp[Acc.app,hb]
  |succ j=>
   rw[eI];exact ur ho.2 (by rw[ve];exact hb) (by simpa using hj)
structure Aq(h:ah)(cs:List Acc)(S:Nat->Bool)(g:ah):Prop where
 len:g.length=h.length
 wr:∀j b k,S j=true->cs[j]? =some (.wr b k)->g[b]? =some k
 ne:∀b,(∀j k,S j=true->cs[j]? =some (.wr b k)->False)->g[b]? =h[b]?
def Aq.all{h g:ah}{cs:List Acc}{S:Nat->Bool}(H:Aq h cs S g)(ho:fI cs)(hS:∀j c,cs[j]? =some c->S j=true):g=eI h cs:=by
 apply ab7
 intro b;by_cases hx:∃(j:Nat) (k:an),cs[j]? =some (Acc.wr b k)
 ·obtain⟨j,k,hj⟩:=hx;have h1:=H.wr j b k (hS j _ hj) hj;have:b<h.length:=by rw[<-H.len];exact(ZM.1 h1).1
  rw[h1,ur ho this hj]
 ·rw[H.ne b λj k _ hj=>hx ⟨j,k,hj⟩,qa λj k hj=>hx ⟨j,k,hj⟩]
def uG{P:Program}(hmix:P.follows .mixedOrders=true){ops:Array Oper}{l:List bN}(hed:lz (Region.before ops) ops=true)(hsl:mC (Region.before ops) ops=true)
  (hc:fA (λ_ o=>bV P ops false o) ops.toList 0=some l) {ts ts':TS}{h:ah}{cs:List Acc}(hs:BA l ts h cs ts') (hok:fI cs) {m:cw}{a:Act}{w:World}
  (st:St P m ts h a w) (ro:Option Nat) (Q:Exit->Act->World->Prop) (hQ:∀m' a' w',St P m' ts' (eI h cs) a' w'->Grow m h w m' (eI h cs) w'->a'.defers=a.defers->Q .normal a' w') (id:Nat):
  (Code.region id ops true).wpIn (Fd ro) 0 P Q a w:=by
 refine wpIn_region_any hmix ?_;obtain⟨T,rfl,rfl,hcl0,hrow⟩:=hs.row;obtain⟨SQ,SG⟩:=gV hc;simp only[abY]at SQ;have Xa:∀(j:Nat) (io:bN),l[j]? =some io->∃o,ops[j]? =some o/\bV P ops false o=some io:=λj io hj=>by
  exact z31
 have TO:∀(j:Nat) (io:bN) (d:Nat),l[j]? =some io->io.dst=some d->∃o,ops[j]? =some o/\o.dst=some d:=λj io d hj hd=>by
  exact z76
 have huniq:∀(i j:Nat) (oi oj:bN) (d:Nat),l[i]? =some oi->l[j]? =some oj->oi.dst=some d->oj.dst=some d->i=j:=λi j oi oj d hi hj h1 h2=>by
  exact z28
 have hTl:∀j,j<=l.length->(T j).length=(T 0).length:=by
  intro j
  induction j with
  |zero=>intro _;rfl
  |succ j ih=>
   intro hj;obtain⟨v,c,_,_,hv⟩:=hrow j _ (ZS (show j<l.length by omega));rw[hv,nD];exact ih Om
 have SN:∀x y t,x<=y->y<=l.length->(∀(j:Nat) (o:bN),x<=j->j<y->l[j]? =some o->o.dst≠some t)->(T y).getD t aA=(T x).getD t aA:=by
  intro x y t hxy hy hno;have:=vw (T:=T) (t:=t) (a:=x) (y-x) (λj h1 h2=>by
   have hj:l[j]? =some (l[j]'Om):=ZS Om;obtain⟨v,c,_,_,hv⟩:=hrow j _ hj;exact⟨_,v,hv,hno j _ h1 Om hj⟩)
  rwa [show x+(y-x)=y from by omega]at this
 have hdone:∀(listed:Array Bool) (g:ah) (a1:Act) (w1:World),(∀i,i<ops.size->listed.getD i false=true)->Aq h cs (λj=>listed.getD j false) g->HR P m g w1->Grow m h w m g w1->a1.tmps.size=(T 0).length->
   (∀(d:Nat),(∀(j:Nat) (o:bN),l[j]? =some o->listed.getD j false=true->o.dst≠some d)->VR m ((T 0).getD d aA) (a1.tmps.getD d undef))->
   (∀(d j:Nat) (o:bN),l[j]? =some o->listed.getD j false=true->o.dst=some d->VR m ((T (j+1)).getD d aA) (a1.tmps.getD d undef))->a1.defers=a.defers->Q .normal a1 w1:=by
  intro listed g a1 w1 hall H hr hg fj h1 h2 hd;have e:=H.all hok λj c hj=>hall j (by have:=(ZM.1 hj).1;omega)
  subst e;refine hQ m a1 w1 ⟨hr,cQ.iV ?_ ?_⟩ hg hd
  ·exact HI
  ·intro t x hx;exact Rz
 have key:∀(fuel:Nat) (listed:Array Bool) (g:ah) (a1:Act) (w1:World),listed.size=ops.size->rq listed ops.size<=fuel->
   (∀j x,listed.getD j false=true->x<ops.size->ahead (Region.before ops) x j=true->listed.getD x false=true)->
   Aq h cs (λj=>listed.getD j false) g->HR P m g w1->Grow m h w m g w1->a1.tmps.size=(T 0).length->
   (∀(d:Nat),(∀(j:Nat) (o:bN),l[j]? =some o->listed.getD j false=true->o.dst≠some d)->VR m ((T 0).getD d aA) (a1.tmps.getD d undef))->
   (∀(d j:Nat) (o:bN),l[j]? =some o->listed.getD j false=true->o.dst=some d->VR m ((T (j+1)).getD d aA) (a1.tmps.getD d undef))->a1.defers=a.defers->wpAnyIn (Fd ro) 0 P .any ops Q fuel listed a1 w1:=by
  intro fuel
  induction fuel with
  |zero=>
   intro listed g a1 w1 SO hu hcl H hr hg fj h1 h2 hd;have hall:=lS ops.size (show rq listed ops.size=0 by omega);exact⟨mF SO hall,hdone listed g a1 w1 hall H hr hg fj h1 h2 hd⟩
  |succ fuel ih=>
   intro listed g a1 w1 SO hu hcl H hr hg fj h1 h2 hd;refine⟨λhrn=>hdone listed g a1 w1 (mE hed SO hrn) H hr hg fj h1 h2 hd,λi hi=>?_⟩;obtain⟨o,ho,TL,XW⟩:=(jL SO).1 hi;have hin:i<ops.size:=(aaa.1 ho).1;obtain⟨io,hio,SL⟩:=SG i o (by simpa using ho);obtain⟨v,c,hci,bP,hTi⟩:=hrow i io hio;have hahead:∀x,x<ops.size->ahead (Region.before ops) x i=true->listed.getD x false=true:=λx hx ha=>by
    exact NV
   have UE:∀j x,(listed.setIfInBounds i true).getD j false=true->x<ops.size->ahead (Region.before ops) x j=true->(listed.setIfInBounds i true).getD x false=true:=by
    intro j x hj hx ha;exact z40
   have Wl:rq (listed.setIfInBounds i true) ops.size<=fuel:=by
    exact NP
   have hslot:∀t,t∈o.looksAt ops->VR m ((T i).getD t aA) (a1.tmps.getD t undef):=by
    intro t ht;exact z12
   have UX:∀b,c.eO=some b->g[b]? =h[b]? :=λb hb=>H.ne b λj k hj Yn=>by
    by_cases e1:j=i
    ·subst e1
     try simp only at hj
     rw[TL]at hj;cases hj
    ·exact fI.ne hok Yn e1 hci hb
   refine fX ho SL hr.gv hr (by rw[fj,hTl i Om]) hslot (bP.run (P:=P) UX) ro _ Q ?_;intro cv v' m' w' T4 Ul hr' SX;have Td:io.dst=o.dst:=(dN SL).1;have hm:m' =m:=by
    funext b;by_cases hb:b<g.length
    ·exact SX.ext b hb
    ·have e1:m b=none:=by
      cases hx:m b with
      |none=>rfl
      |some e=>exact absurd (hr.cT b e hx) hb
     have e2:m' b=none:=by
      cases hx:m' b with
      |none=>rfl
      |some e=>exact absurd (by have:=hr'.cT b e hx;rwa [ve]at this) hb
     rw[e1,e2]
   subst hm;have hlt:(listed.setIfInBounds i true).getD i false=true:=by rw[dw Om,ZY rfl]
   have hne:∀j,j≠i->(listed.setIfInBounds i true).getD j false=listed.getD j false:=λj hj=>by rw[dw Om,ZW hj]
   have VJ:(a1.put o.dst cv).tmps=iJ a1.tmps o.dst cv:=by cases o.dst<;>rfl
   refine ih _ (c.app g) (a1.put o.dst cv) w' (by simp[SO]) Wl UE ⟨by rw[ve];exact H.len,?_,?_⟩ hr' (hg.trans SX st.hr.cT) (by rw[VJ,fK];exact fj) ?_ ?_ (by rw[put_defers];exact hd)
   ·intro j b k hj Yn
    try simp only at hj
    by_cases e1:j=i
    ·subst e1;rw[hci]at Yn;cases Yn;have:b<g.length:=by
      by_cases hb:b<g.length
      ·exact hb
      ·have e:=UX b rfl;rcases bP with⟨_,h,_⟩|⟨_,hs3⟩
       ·cases h
       rcases hs3 with⟨_,h,_⟩|⟨_,_,_,_,_,_,h,_⟩|⟨n,aa,x,b',off,k',hk,ha,h,hs3⟩
       ·cases h
       ·cases h
       ·cases h;rw[hk]at hs3;rw[abK Om]at e;simp only[stepT,nI,ha,<-e]at hs3;cases hs3
     simp[Acc.app,this]
    ·rw[hne j e1]at hj;rw[y4 λk' hk'=>by
      subst hk';exact fI.ne hok Yn e1 hci rfl]
     exact H.wr j b k hj Yn
   ·intro b hb;rw[y4 λk' hk'=>hb i k' hlt (by rw[hci,hk'])];exact H.ne b λj k hj Yn=>by
     try simp only at hj
     exact hb j k (by
      show(listed.setIfInBounds i true).getD j false=true;by_cases e1:j=i
      ·subst e1;exact hlt
      ·rw[hne j e1];exact hj) Yn
   ·intro d hdn;have Uy:o.dst≠some d:=by rw[<-Td];exact hdn i io hio hlt
    rw[VJ,dS Uy];refine h1 d λj oj hj hl=>hdn j oj hj ?_
    exact NQ
   ·intro d j oj hj hl VQ;by_cases e1:j=i
    ·subst e1;rw[hio]at hj;cases hj;rw[hTi,VJ,<-Td,VQ];have hvv:put (T j) (some d) v=put (T j) (some d) v':=by
      have:=T4;rw[<-Td,VQ]at this;exact this
     rw[hvv];exact lV (by rw[fj,hTl j Om]) Ul
    ·have Uy:o.dst≠some d:=λhx=>by
      exact z131
     rw[VJ,dS Uy];rw[hne j e1]at hl;exact h2 d j oj hj hl VQ
 have SF:∀j,(Array.replicate ops.size false).getD j false=false:=λj=>by
  exact NR
 refine key ops.size (Array.replicate ops.size false) h a _ Si ?_ (λj x hj _ _=>by simp[SF j]at hj) ⟨rfl,λj b k hj _=>by simp[SF j]at hj,λb _=>rfl⟩ st.hr.drew (Grow.refl m _ w st.hr.cT).drew ?_ (λd _=>nV st.ts d) (λd j o _ hj _=>by simp[SF j]at hj) rfl
 ·exact NW
 ·exact z145
theorem Ev.sX{P ro}(hmix:P.follows .mixedOrders=true){l ts ts' h cs}(hs:BA l ts h cs ts')(hok:fI cs):Ev P ro (.sX l) ts h .normal ts' (eI h cs):=by
 refine Ev.of λcc hns hc m a w lo hlo st hm Q hQ=>?_
 cases cc with
 |region id ops draw=>
  rcases eU (by simpa only[compile]using hc)with⟨l',h1,hl⟩|⟨l',h1,hd,⟨l2,hl2⟩,hz⟩|⟨_,h1,_⟩<;>cases h1
  subst hd;simp only[cV,Z7]at hl2;split at hl2
  case isFalse=>cases hl2
  rename_i Tg;simp only[aaq]at Tg;exact uG hmix Tg.1 Tg.2 hz hs hok st ro Q (λm' a' w' s g d=>hQ m' a' w' s g (by rw[d];exact hm.grow g st.hr.cT)) id
 |scope a=>exact absurd rfl (hns a)
 |block id a=>simp[compile]at hc
 |loop a=>simp[compile]at hc
 |_=>
  exact z24
def DV(cs:List Acc):Acc->List Acc
 |.no=>cs
 |c=>cs++[c]
def Bt{cs c}(hc:c≠.no):DV cs c=cs++[c]:=by cases c<;>first|exact absurd rfl hc|rfl
def BI(h:ah):List bN->TS->List Acc->(TS->List Acc->Prop)->Prop
 |[],ts,cs,K=>K ts cs
 |o::r,ts,cs,K=>∃v c,x9 o ts h v c/\BI h r (put ts o.dst v) (DV cs c) K
theorem p9:∀{a b c},(∀x∈b,x=Acc.no)->fI (a++c)->fI (a++b++c)
 |[],[],c,_,h=>h
 |[],x::b,c,hb,h=>by
  have hx:=hb x Si;subst hx;exact⟨λn hn=>by(cases hn),by simpa using p9 (a:=[]) (b:=b) (λy hy=>hb y (aao _ hy)) h⟩
 |x::a,b,c,hb,h=>by
  refine⟨λn hn y hy hyn k k' hk=>?_,p9 (a:=a) hb h.2⟩;rcases ZX.1 hy with hy|hy
  ·rcases ZX.1 hy with hy|hy
   ·exact h.1 n hn y (ZX.2 (.inl hy)) hyn k k' hk
   ·rw[hb y hy]at hyn;cases hyn
  ·exact h.1 n hn y (ZX.2 (.inr hy)) hyn k k' hk
theorem BI.sound{h}:∀{l}{ts}{cs}{K},BI h l ts cs K->∃VD ZJ ts',BA l ts h VD ts'/\K ts' (cs++ZJ)/\(∀(a c:List Acc),fI (a++ZJ++c)->fI (a++VD++c))/\(∀g,eI g VD=eI g ZJ)
 |[],ts,cs,K,H=>⟨[],[],ts,⟨rfl,rfl⟩,by rw[aaf];exact H,λ_ _ h=>h,λ_=>rfl⟩
 |o::r,ts,cs,K,H=>by
  obtain⟨v,c,h1,H⟩:=H;obtain⟨VD,ZJ,ts',h2,h3,h4,h5⟩:=BI.sound (l:=r) H;by_cases hc:c=.no
  ·subst hc;refine⟨.no::VD,ZJ,ts',⟨v,.no,VD,h1,rfl,h2⟩,h3,λa d hd=>?_,λg=>h5 g⟩;have:=p9 (a:=a) (b:=[.no]) (c:=VD++d) Si (by simpa using h4 a d hd)
   simpa using this
  ·rw[Bt hc]at h3;refine⟨c::VD,c::ZJ,ts',⟨v,c,VD,h1,rfl,h2⟩,by simpa using h3,λa d hd=>?_,λg=>by rw[eI,eI,h5]⟩;have:=h4 (a++[c]) d (by simpa using hd)
   simpa using this
theorem BI.mono{h}:∀{l}{ts}{cs}{K K'},BI h l ts cs K->(∀ts' cs',K ts' cs'->K' ts' cs')->BI h l ts cs K'
 |[],ts,cs,K,K',H,hk=>hk _ _ H
 |o::r,ts,cs,K,K',H,hk=>by
  obtain⟨v,c,h1,H⟩:=H;exact⟨v,c,h1,BI.mono (l:=r) H hk⟩
end Go.Abs
