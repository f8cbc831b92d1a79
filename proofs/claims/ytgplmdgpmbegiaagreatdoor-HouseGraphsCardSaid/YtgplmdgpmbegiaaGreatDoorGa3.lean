/- A part of the proof that HouseGraphs holds. No condition. -/
import Derived.Test.YtgplmdgpmbegiaaGreatDoorGa2
import Derived.RangeFuncRecord
import Derived.Test.YtgplmdgpmbegiaaGreatDoorGa0
set_option maxHeartbeats 4000000
set_option linter.all false
namespace Go.Abs
def qP(listed:Array Bool):Nat->Nat
 | 0=>0
 |n+1=>qP listed n+(if listed.getD n false then 0 else 1)
def da{listed:Array Bool}{i j:Nat}(hi:i<listed.size):(listed.setIfInBounds i true).getD j false=(if j=i then true else listed.getD j false):=by
 by_cases h:j=i
 ·subst h;simp[YH,Ze hi]
 ·rw[X5 h];simp[YH,ZE (Zk h)]
theorem AX{listed:Array Bool}{i:Nat}(hi:i<listed.size):∀n,n<=i->qP (listed.setIfInBounds i true) n=qP listed n
 | 0,_=>rfl
 |n+1,h=>by
  simp only[qP];rw[AX hi n Om,da hi,X5 (by omega:¬n=i)]
theorem AU{listed:Array Bool}{i:Nat}(hi:i<listed.size)(hn:listed.getD i false=false):∀n,i<n->qP (listed.setIfInBounds i true) n+1=qP listed n
 | 0,h=>absurd h Om
 |n+1,h=>by
  simp only[qP];rw[da hi];by_cases e:n=i
  ·subst e;rw[AX hi n (X8 _),X9 rfl,hn];simp
  ·rw[X5 e];have:=AU hi hn n Om;omega
theorem lq{listed}:∀n,qP listed n=0->∀i,i<n->listed.getD i false=true
 | 0,_,i,hi=>absurd hi Om
 |n+1,h,i,hi=>by
  simp only[qP]at h;by_cases e:i=n
  ·subst e;cases hl:listed.getD i false with
   |true=>rfl
   |false=>rw[hl]at h;simp at h
  ·exact lq n Om i Om
def cp.dI(m:cp)(n:Nat):cp:=λb=>if b<n then m b else none
def cp.patch(m1 m:cp)(n:Nat):cp:=λb=>if b<n then m1 b else m b
mutual
theorem VR.cut{ma m n}(hd:∀b e,ma b=some e->b<n):∀(x:AV) (va v:Value),VR ma x va->VR m x v->VR (m.dI n) x v
 |.bool _,_,_,_,hv=>hv
 |.int _ _,_,_,_,hv=>hv
 |.wG _ _,_,_,_,hv=>hv
 |.wm _ _ _,_,_,_,hv=>hv
 |.str _,_,_,_,hv=>hv
 |.ptr b o,va,v,ha,hv=>by
  exact JW
 |.nilPtr,_,_,_,hv=>hv
 |.slice b o n' es,va,v,ha,hv=>by
  rw[VR]at ha hv ⊢;obtain⟨e,_,_,he,_⟩:=ha;obtain⟨e',ca,cap,RO,hv⟩:=hv;exact⟨e',ca,cap,by unfold cp.dI;rw[X9 (hd _ _ he)];exact RO,hv⟩
 |.af,_,_,_,hv=>hv
 |.map r,va,v,ha,hv=>by
  exact JW
 |.cY,_,_,_,hv=>hv
 |.func f a c,va,v,ha,hv=>by
  rw[VR]at ha hv ⊢;obtain⟨f1,a1,c1,_,Ue,ha1,hc1⟩:=ha;obtain⟨f2,a2,c2,hv,Tx,ha2,XM⟩:=hv;refine⟨f2,a2,c2,hv,?_,cL.cut hd a _ _ ha1 ha2,cL.cut hd c _ _ hc1 XM⟩;cases f<;>simp only[AF]at Ue Tx ⊢<;>try exact Tx
  obtain⟨e,he,_⟩:=Ue;obtain⟨e',RO,hg⟩:=Tx;exact⟨e',by unfold cp.dI;rw[X9 (hd _ _ he)];exact RO,hg⟩
 |.nilFunc,_,_,_,hv=>hv
 |.qn u a,va,v,ha,hv=>by
  rw[VR]at ha hv ⊢;obtain⟨v1,_,h1⟩:=ha;obtain⟨v2,hv,h2⟩:=hv;exact⟨v2,hv,VR.cut hd a _ _ h1 h2⟩
 |.km,_,_,_,hv=>hv
 |.agg l,va,v,ha,hv=>by
  exact z119
 |.dN l,va,v,ha,hv=>by
  exact z119
theorem cL.cut{ma m n}(hd:∀b e,ma b=some e->b<n):∀(l:List AV) (va vs:List Value),cL ma l va->cL m l vs->cL (m.dI n) l vs
 |[],_,_,_,hv=>hv
 |x::xs,va,vs,ha,hv=>by
  obtain⟨y1,ys1,_,a1,a2⟩:=aS.1 ha;obtain⟨y2,ys2,h,b1,b2⟩:=aS.1 hv;exact aS.2 ⟨y2,ys2,h,VR.cut hd x _ _ a1 b1,cL.cut hd xs _ _ a2 b2⟩
end
def iY(n:Nat)(x:AV):Prop:=∃(ma:cp) (va:Value),(∀b e,ma b=some e->b<n)/\VR ma x va
def LP(n:Nat)(l:List AV):Prop:=∃(ma:cp) (va:List Value),(∀b e,ma b=some e->b<n)/\cL ma l va
def qh(n:Nat):ak->Prop
 |.cells c _ _=>∀(i:Nat) (x:AV),c[i]? =some x->iY n x
 |.bo es=>∀(i:Nat) (p:AV×AV),es[i]? =some p->iY n p.1/\iY n p.2
 |.loop _ _ ts _ _ _=>LP n ts
 |_=>True
def iY.mono{n k}(hnk:n<=k){x}(h:iY n x):iY k x:=by
 exact JI
theorem qh.mono{n k}(hnk:n<=k){x}(h:qh n x):qh k x:=by
 cases x with
 |cells c mu tl=>exactλi x hx=>(h i x hx).mono hnk
 |bo es=>exactλi p hp=>⟨(h i p hp).1.mono hnk,(h i p hp).2.mono hnk⟩
 |loop a b c d e f=>
  exact JI
 |_=>trivial
def BR.iY{P m w e k n}(h:BR P m w e k)(hd:∀b e,m b=some e->b<n):qh n k:=by
 cases k with
 |cells c mu tl=>
  obtain⟨cc,el,fz,_,_,h3,_⟩:=h;intro i x hx;obtain⟨_,v,_,hv⟩:=h3 i x hx;exact⟨m,v,hd,hv⟩
 |bo es=>
  obtain⟨_,SX,clock,_,_,h3⟩:=h;intro i p hp;obtain⟨q,_,h1,h2⟩:=h3 i p hp;exact⟨⟨m,_,hd,h1⟩,⟨m,_,hd,h2⟩⟩
 |loop st ex ts ps asg body=>
  obtain⟨_,fn,tmps,RM,Rg,df,_,h2,_⟩:=h;exact⟨m,_,hd,h2⟩
 |_=>trivial
theorem BR.cut{P m w e k n}(h:BR P m w e k)(hc:qh n k):BR P (m.dI n) w e k:=by
 cases k with
 |cells c mu tl=>
  obtain⟨cc,el,fz,h1,h2,h3,h4⟩:=h;exact⟨cc,el,fz,h1,h2,λi x hx=>by
   obtain⟨ho,v,hv,hr⟩:=h3 i x hx;obtain⟨ma,va,hd,ha⟩:=hc i x hx;exact⟨ho,v,hv,VR.cut hd _ _ _ ha hr⟩,h4⟩
 |dead=>trivial
 |bo es=>
  obtain⟨ho,SX,clock,h1,h2,h3⟩:=h;exact⟨ho,SX,clock,h1,h2,λi p hp=>by
   obtain⟨q,hq,ha,hb⟩:=h3 i p hp;obtain⟨⟨ma,va,hd,VK⟩,⟨mb,vb,Rl,hb'⟩⟩:=hc i p hp;exact⟨q,hq,VR.cut hd _ _ _ VK ha,VR.cut Rl _ _ _ hb' hb⟩⟩
 |iter s pos=>exact h
 |loop st ex ts ps asg body=>
  obtain⟨ho,fn,tmps,RM,Rg,df,h1,h2,h3,h4⟩:=h;obtain⟨ma,va,hd,ha⟩:=hc;exact⟨ho,fn,tmps,RM,Rg,df,h1,cL.cut hd _ _ _ ha h2,h3,h4⟩
structure sJ(P:Program)(l:List bI)(T:Nat->TS)(H:Nat->ah)(m0:cp)(w0:World)(S:Nat->Bool)(β θ:Nat)(m:cp)(ta:Array Value)(w:World):Prop where
 βθ:β<=θ
 θn:θ<=l.length
 low:∀j,j<β->S j=true
 high:∀j,S j=true->j<θ
 quiet:∀j,β<=j->j<θ->∃g,H (j+1)=H j++g
 len:∀j,j<θ->(H j).length<=(H (j+1)).length
 hr:HR P m (H θ) w
 My:∀j,j<θ->S j=false->∀b,(H j).length<=b->b<(H (j+1)).length->m b=none
 iY:∀i,β<=i->i<=θ->∀b e k,b<(H i).length->m b=some e->(H θ)[b]? =some k->qh (H i).length k
 apart:∀j,β<=j->j<θ->∀b b' e e',(H j).length<=b->b<(H (j+1)).length->¬((H j).length<=b'/\b'<(H (j+1)).length)->m b=some e->m b' =some e'->e.cb≠e'.cb
 grow:Grow m0 (H 0) w0 m (H θ) w
 size:ta.size=(T 0).length
 yy:∀d,(∀j o,l[j]? =some o->S j=true->o.dst≠some d)->VR m0 ((T 0).getD d az) (ta.getD d undef)
 yx:∀d j o,l[j]? =some o->S j=true->o.dst=some d->VR (m.dI (H (j+1)).length) ((T (j+1)).getD d az) (ta.getD d undef)
theorem vC{H:Nat->ah}{θ:Nat}(h:∀j,j<θ->(H j).length<=(H (j+1)).length){i:Nat}:∀k,i+k<=θ->(H i).length<=(H (i+k)).length
 | 0,_=>X8 _
 |k+1,hk=>YI (vC h k Om) (h (i+k) Om)
def fH{H:Nat->ah}{θ:Nat}(h:∀j,j<θ->(H j).length<=(H (j+1)).length){i j:Nat}(hij:i<=j)(hj:j<=θ):(H i).length<=(H j).length:=by
 have:=vC h (i:=i) (j-i) Om
 rwa [show i+(j-i)=j from by omega]at this
theorem sX{H:Nat->ah}{β θ:Nat}(h:∀j,β<=j->j<θ->∃g,H (j+1)=H j++g){i:Nat}(hi:β<=i):∀k,i+k<=θ->∃g,H (i+k)=H i++g
 | 0,_=>⟨[],Si⟩
 |k+1,hk=>by
  obtain⟨g,hg⟩:=sX h hi k Om;obtain⟨g',Re⟩:=h (i+k) Om Om;exact⟨g++g',by rw[show i+(k+1)=i+k+1 from by omega,Re,hg,XV]⟩
def mX{H:Nat->ah}{β θ:Nat}(h:∀j,β<=j->j<θ->∃g,H (j+1)=H j++g){i j:Nat}(hi:β<=i)(hij:i<=j)(hj:j<=θ):∃g,H j=H i++g:=by
 have:=sX h hi (j-i) Om
 rwa [show i+(j-i)=j from by omega]at this
theorem vQ{H:Nat->ah}{i:Nat}:∀(k:Nat) {b:Nat},(H i).length<=b->b<(H (i+k)).length->∃j,i<=j/\j<i+k/\(H j).length<=b/\b<(H (j+1)).length
 | 0,b,h1,h2=>by simp at h2;omega
 |k+1,b,h1,h2=>by
  by_cases h:b<(H (i+k)).length
  ·obtain⟨j,a1,a2,a3⟩:=vQ k h1 h;exact⟨j,a1,Om,a3⟩
  ·exact⟨i+k,Om,Om,Om,by rw[show i+k+1=i+(k+1)from by omega];exact h2⟩
section
variable {P:Program}{m m1:cp}{h:ah}{w:World}
def cp.fh(m:cp)(n:Nat):(m.dI n).le m:=by
 intro b e hb;unfold cp.dI at hb;split at hb
 ·exact hb
 ·cases hb
def cp.zp(m:cp){n k}(hnk:n<=k):(m.dI n).le (m.dI k):=by
 intro b e hb;unfold cp.dI at hb ⊢;split at hb
 ·rw[X9 Om];exact hb
 ·cases hb
theorem HR.dI{g}(hr:HR P m (h++g) w)(hgl:P.globals.size<=h.length)(hc:∀b e k,b<h.length->m b=some e->h[b]? =some k->qh h.length k):HR P (m.dI h.length) h w where
 cN:=λb e hb=>by unfold cp.dI at hb;split at hb<;>first|assumption|cases hb
 dU:=λb e k hb hk=>by
  unfold cp.dI at hb;split at hb
  case isFalse=>cases hb
  rename_i hlt;exact(hr.dU b e k hb (by rw[XW hlt];exact hk)).cut (hc b e k hlt hb hk)
 sep:=λb1 b2 e1 e2 k1 k2 hne h1 h2 hk1 QS hcb=>by
  have d1:b1<h.length:=(XT.1 hk1).1;have d2:b2<h.length:=(XT.1 QS).1;exact hr.sep b1 b2 e1 e2 k1 k2 hne (cp.fh m _ _ _ h1) (cp.fh m _ _ _ h2) (by rw[XW d1];exact hk1) (by rw[XW d2];exact QS) hcb
 fZ:=λg hg=>by
  obtain⟨e,he,hx⟩:=hr.fZ g hg;exact⟨e,by unfold cp.dI;rw[X9 Om];exact he,hx⟩
 lt:=λb e hb=>hr.lt b e (cp.fh m _ _ _ hb)
def HR.F5(hr:HR P m h w):P.globals.size<=h.length:=by
 by_cases hz:P.globals.size=0
 ·omega
 ·obtain⟨e,he,_⟩:=hr.fZ (P.globals.size-1) Om;have:=hr.cN _ _ he;omega
variable {l:List bI}{T:Nat->TS}{H:Nat->ah}{m0:cp}{w0:World}{S:Nat->Bool}{β θ:Nat}{ta:Array Value}
def sJ.raise(M:sJ P l T H m0 w0 S β θ m ta w){θ':Nat}(h1:θ<=θ')(h2:θ'<=l.length)(hq:∀j,θ<=j->j<θ'->∃g,H (j+1)=H j++g):sJ P l T H m0 w0 S β θ' m ta w:=by
 have We:∀j,β<=j->j<θ'->∃g,H (j+1)=H j++g:=λj hj VE=>by
  by_cases hx:j<θ
  ·exact M.quiet j hj hx
  ·exact hq j Om VE
 have hlen:∀j,j<θ'->(H j).length<=(H (j+1)).length:=λj hj=>by
  by_cases hx:j<θ
  ·exact M.len j hx
  ·obtain⟨g,hg⟩:=hq j Om hj;rw[hg];simp
 obtain⟨g,hg⟩:=mX We M.βθ h1 (X8 _);have QY:∀b,b<(H θ).length->(H θ')[b]? =(H θ)[b]? :=λb hb=>by rw[hg,XW hb]
 have hdom:∀b e,m b=some e->b<(H θ).length:=M.hr.cN;refine⟨YI M.βθ h1,h2,M.low,λj hj=>YM (M.high j hj) h1,We,hlen,⟨?_,?_,?_,M.hr.fZ,M.hr.lt⟩,?_,?_,?_,⟨M.grow.ext,fH hlen (Yt _) (X8 _),?_,?_,M.grow.size,M.grow.os,M.grow.out,M.grow.tape,M.grow.frame⟩,M.size,M.yy,M.yx⟩
 ·intro b e hb;have:=hdom b e hb;rw[hg];simp;omega
 ·intro b e k hb hk;exact M.hr.dU b e k hb (by rwa [QY b (hdom b e hb)]at hk)
 ·intro b1 b2 e1 e2 k1 k2 hne a1 a2 hk1 QS hcb;exact M.hr.sep b1 b2 e1 e2 k1 k2 hne a1 a2 (by rwa [QY b1 (hdom _ _ a1)]at hk1) (by rwa [QY b2 (hdom _ _ a2)]at QS) hcb
 ·intro j hj hs b hb hb';by_cases hx:j<θ
  ·exact M.My j hx hs b hb hb'
  ·cases RS:m b with
   |none=>rfl
   |some e=>
    exact JF
 ·intro i hi hi' b e k hb RS hk;rw[QY b (hdom b e RS)]at hk;by_cases hx:i<=θ
  ·exact M.iY i hi hx b e k hb RS hk
  ·have a2:=fH hlen (i:=θ) (j:=i) Om Om;exact(M.iY θ M.βθ (X8 _) b e k (hdom b e RS) RS hk).mono a2
 ·intro j hj VE b b' e e' hb Rk hb' RS UD;by_cases hx:j<θ
  ·exact M.apart j hj hx b b' e e' hb Rk hb' RS UD
  ·exact JF
 ·intro b e hb RS;obtain⟨ho,hc⟩:=M.grow.new b e hb RS;refine⟨ho,hc.imp id ?_⟩;rintro⟨b0,e0,c1,c2,c3,c4,c5⟩;refine⟨b0,e0,c1,c2,c3,c4,?_⟩;have d0:b0<(H θ).length:=by
   cases hx:m0 b0 with
   |none=>rw[hx]at c1;cases c1
   |some e0'=>
    have:b0<(H 0).length:=by
     cases ht:(H 0)[b0]? with
     |none=>unfold eD at c4;rw[ht]at c4;cases c4
     |some k=>exact(XT.1 ht).1
    exact YM this (fH hlen (Yt _) h1)
  unfold eD at c5 ⊢;rw[QY b0 d0];exact c5
 ·intro b hb ht;refine M.grow.tl b hb ?_;unfold eD at ht ⊢
  rwa [QY b (YM hb (fH hlen (Yt _) h1))]at ht
end
def gR(ta:Array Value)(d:Option Nat)(cv:Value):Array Value:=
 match d with
 |some d=>ta.setIfInBounds d cv
 |none=>ta
def e8(ta:Array Value)(d:Option Nat)(cv:Value):(gR ta d cv).size=ta.size:=by cases d<;>simp[gR]
def dE{ta d cv t}(h:d≠some t):(gR ta d cv).getD t undef=ta.getD t undef:=by
 cases d with
 |none=>rfl
 |some d=>
  have hne:d≠t:=λx=>h (by rw[x])
  simp[gR,YH,ZE hne]
def xH{ts d v t}(h:d≠some t):(put ts d v).getD t az=ts.getD t az:=by
 cases d with
 |none=>rfl
 |some d=>
  have hne:d≠t:=λx=>h (by rw[x])
  simp[put,List.getD,Yc hne]
def lC{m ts ta d v cv}(hs:ta.size=ts.length)(hv:VR m v cv):VR m ((put ts (some d) v).getD d az) ((gR ta (some d) cv).getD d undef):=by
 by_cases h:d<ts.length
 ·have h':d<ta.size:=Om
  simp only[put,gR,List.getD,YH];rw[Yd h,Ze h'];exact hv
 ·have h':¬d<ta.size:=Om
  simp only[put,gR,List.getD,YH];rw[ZS (by simp;omega),Zt (by simp;omega)];exact jR m
def mark(S:Nat->Bool)(i:Nat):Nat->Bool:=λj=>if j=i then true else S j
section
variable {P:Program}{l:List bI}{T:Nat->TS}{H:Nat->ah}{m0 m m1:cp}{w0 w w1:World}{S:Nat->Bool}{β θ i:Nat}{ta:Array Value}
def sJ.cut(M:sJ P l T H m0 w0 S β θ m ta w)(hG:P.globals.size<=(H 0).length)(hi:β<=i)(hi':i<=θ):HR P (m.dI (H i).length) (H i) w:=by
 obtain⟨g,hg⟩:=mX M.quiet hi hi' (X8 _);have hr:HR P m (H i++g) w:=by rw[<-hg];exact M.hr
 refine hr.dI (YI hG (fH M.len (Yt _) hi')) ?_;intro b e k hb RS hk;exact M.iY i hi hi' b e k hb RS (by rw[hg,XW hb];exact hk)
def sJ.FW(M:sJ P l T H m0 w0 S β θ m ta w)(hG:P.globals.size<=(H 0).length)(hi:β<=i)(hi':i<θ)(hS:S i=false){io}(hio:l[i]? =some io)
  (hr1:HR P m1 (H (i+1)) w1) (gext:∀b,b<(H i).length->m1 b=(m.dI (H i).length) b) (hnew0:∀b e,(H i).length<=b->m1 b=some e->e.own=true/\w0.heap.size<=e.cb/\∀b' e',m b' =some e'->e'.cb≠e.cb)
  (hfr:∀x,x<w.heap.size->(∀b e,(m.dI (H i).length) b=some e->e.own=true->e.cb≠x)->(∀b e,(H i).length<=b->m1 b=some e->e.cb≠x)->w1.heap[x]? =w.heap[x]?)
  (eC:w.heap.size<=w1.heap.size) (hos:w1.os=w.os) (hout:w1.output=w.output) (htape:w1.tape=w.tape) {v}{cv}(hv:VR m1 v cv) (hTi:T (i+1)=put (T i) io.dst v) (hTl:(T i).length=(T 0).length)
  (huniq:∀j o d,j≠i->l[j]? =some o->o.dst=some d->io.dst≠some d):sJ P l T H m0 w0 (mark S i) β θ (m1.patch m (H (i+1)).length) (gR ta io.dst cv) w1:=by
 have Sl:∀a b,a<=b->b<=θ->(H a).length<=(H b).length:=λa b hab hb=>fH M.len hab hb
 have hi1:=M.len i hi';have hi2:=Sl (i+1) θ Om (X8 _);have h0i:=Sl 0 i Om Om;obtain⟨gi,hgi⟩:=M.quiet i hi hi';obtain⟨gt,T2⟩:=mX M.quiet (show β<=i+1 by omega) (show i+1<=θ by omega) (X8 _);have f3:∀b,b<(H (i+1)).length->(m1.patch m (H (i+1)).length) b=m1 b:=λb hb=>by unfold cp.patch;rw[X9 hb]
 have f1:∀b,b<(H i).length->(m1.patch m (H (i+1)).length) b=m b:=λb hb=>by
  rw[f3 b Om,gext b hb];unfold cp.dI;rw[X9 hb]
 have f2:∀b,(H (i+1)).length<=b->(m1.patch m (H (i+1)).length) b=m b:=λb hb=>by unfold cp.patch;rw[X5 Om]
 have fgap:∀b,(H i).length<=b->b<(H (i+1)).length->m b=none:=M.My i hi' hS;have Tm:m.le (m1.patch m (H (i+1)).length):=λb e hb=>by
  by_cases h1:b<(H i).length
  ·rw[f1 b h1];exact hb
  ·by_cases h2:b<(H (i+1)).length
   ·rw[fgap b Om h2]at hb;cases hb
   ·rw[f2 b Om];exact hb
 have m1le:m1.le (m1.patch m (H (i+1)).length):=λb e hb=>by rw[f3 b (hr1.cN b e hb)];exact hb
 have hnew:∀b e,(H i).length<=b->b<(H (i+1)).length->(m1.patch m (H (i+1)).length) b=some e->e.own=true/\w0.heap.size<=e.cb/\∀b' e',m b' =some e'->e'.cb≠e.cb:=λb e hb hb' hm=>by
  rw[f3 b hb']at hm;exact hnew0 b e hb hm
 have hold:∀b e,m b=some e->e.cb<w.heap.size:=M.hr.lt;have hframe:∀b e,(H (i+1)).length<=b->m b=some e->w1.heap[e.cb]? =w.heap[e.cb]? :=λb e hb hm=>by
  refine hfr e.cb (hold b e hm) ?_ (λb0 e0 h0 h1 hcb=>(hnew0 b0 e0 h0 h1).2.2 b e hm hcb.symm);intro b0 e0 h0 ho hcb;have d0:b0<(H i).length:=by
   unfold cp.dI at h0;split at h0
   ·assumption
   ·cases h0
  obtain⟨j,j1,j2,j3,j4⟩:=vQ (H:=H) (i:=i+1) (θ-(i+1)) hb (by rw[show i+1+(θ-(i+1))=θ from by omega];exact M.hr.cN b e hm);have hj:=Sl i j Om Om;exact M.apart j Om Om b b0 e e0 j3 j4 (λx=>by omega) hm (cp.fh m _ _ _ h0) hcb.symm
 have QY:∀b,b<(H (i+1)).length->(H θ)[b]? =(H (i+1))[b]? :=λb hb=>by rw[T2,XW hb]
 have Q3:∀b e,(m1.patch m (H (i+1)).length) b=some e->((H i).length<=b/\b<(H (i+1)).length/\m1 b=some e)\/(¬((H i).length<=b/\b<(H (i+1)).length)/\m b=some e):=λb e hb=>by
  by_cases h1:b<(H i).length
  ·rw[f1 b h1]at hb;exact .inr ⟨Om,hb⟩
  ·by_cases h2:b<(H (i+1)).length
   ·rw[f3 b h2]at hb;exact .inl ⟨Om,h2,hb⟩
   ·rw[f2 b Om]at hb;exact .inr ⟨Om,hb⟩
 have hHR:HR P (m1.patch m (H (i+1)).length) (H θ) w1:=by
  refine⟨?_,?_,?_,?_,?_⟩
  ·intro b e hb;rcases Q3 b e hb with⟨_,h2,_⟩|⟨_,h2⟩
   ·omega
   ·exact M.hr.cN b e h2
  ·intro b e k hb hk;by_cases h2:b<(H (i+1)).length
   ·rw[f3 b h2]at hb;exact(hr1.dU b e k hb (by rwa [QY b h2]at hk)).mono m1le
   ·rw[f2 b Om]at hb;exact((M.hr.dU b e k hb hk).mono Tm).heap (hframe b e Om hb)
  ·intro b1 b2 e1 e2 k1 k2 hne Rk Rx hk1 QS hcb;rcases Q3 b1 e1 Rk with⟨a1,a2,a3⟩|⟨a1,a2⟩
   ·rcases Q3 b2 e2 Rx with⟨c1,c2,c3⟩|⟨c1,c2⟩
    ·exact hr1.sep b1 b2 e1 e2 k1 k2 hne a3 c3 (by rwa [QY b1 a2]at hk1) (by rwa [QY b2 c2]at QS) hcb
    ·exact absurd hcb.symm ((hnew b1 e1 a1 a2 Rk).2.2 b2 e2 c2)
   ·rcases Q3 b2 e2 Rx with⟨c1,c2,c3⟩|⟨c1,c2⟩
    ·exact absurd hcb ((hnew b2 e2 c1 c2 Rx).2.2 b1 e1 a2)
    ·exact M.hr.sep b1 b2 e1 e2 k1 k2 hne a2 c2 hk1 QS hcb
  ·intro g hg;obtain⟨e,he,hx⟩:=M.hr.fZ g hg;exact⟨e,Tm _ _ he,hx⟩
  ·intro b e hb;rcases Q3 b e hb with⟨_,_,h3⟩|⟨_,h2⟩
   ·exact hr1.lt b e h3
   ·exact YM (hold b e h2) eC
 refine⟨M.βθ,M.θn,?_,?_,M.quiet,M.len,hHR,?_,?_,?_,?_,by rw[e8];exact M.size,?_,?_⟩
 ·intro j hj;unfold mark;split
  ·rfl
  ·exact M.low j hj
 ·intro j hj;unfold mark at hj;split at hj
  ·omega
  ·exact M.high j hj
 ·intro j hj hs b hb hb';unfold mark at hs;split at hs
  ·cases hs
  rename_i hji;by_cases h1:b<(H i).length
  ·rw[f1 b h1];exact M.My j hj hs b hb hb'
  ·by_cases h2:b<(H (i+1)).length
   ·exact JN
   ·rw[f2 b Om];exact M.My j hj hs b hb hb'
 ·intro i2 hi2' Wk b e k hb RS hk;rcases Q3 b e RS with⟨a1,a2,a3⟩|⟨_,a2⟩
  ·have hk':(H (i+1))[b]? =some k:=by rwa [QY b a2]at hk
   refine((hr1.dU b e k a3 hk').iY hr1.cN).mono ?_;by_cases hlt:i2<i+1
   ·have:=Sl i2 i Om Om;omega
   ·exact Sl (i+1) i2 Om Wk
  ·exact M.iY i2 hi2' Wk b e k hb a2 hk
 ·intro j hj VE b b' e e' hb Rk hb' RS UD;rcases Q3 b e RS with⟨a1,a2,a3⟩|⟨a1,a2⟩
  ·rcases Q3 b' e' UD with⟨c1,c2,c3⟩|⟨c1,c2⟩
   ·exfalso;by_cases hji:j=i
    ·subst hji;exact hb' ⟨c1,c2⟩
    ·exact JN
   ·exactλhcb=>(hnew b e a1 a2 RS).2.2 b' e' c2 hcb.symm
  ·rcases Q3 b' e' UD with⟨c1,c2,c3⟩|⟨c1,c2⟩
   ·exact(hnew b' e' c1 c2 UD).2.2 b e a2
   ·exact M.apart j hj VE b b' e e' hb Rk hb' a2 c2
 ·refine⟨λb hb=>(f1 b Om).trans (M.grow.ext b hb),M.grow.len,?_,M.grow.tl,YI M.grow.size eC,hos.trans M.grow.os,hout.trans M.grow.out,htape.trans M.grow.tape,?_⟩
  ·intro b e hb RS;rcases Q3 b e RS with⟨a1,a2,_⟩|⟨_,a2⟩
   ·obtain⟨ho,hc⟩:=hnew b e a1 a2 RS;exact⟨ho,.inl hc.1⟩
   ·exact M.grow.new b e hb a2
  ·intro x hx hno;refine(hfr x (YM hx M.grow.size) ?_ (λb e hb hm hcb=>by have:=(hnew0 b e hb hm).2.1;omega)).trans (M.grow.frame x hx hno);intro b e hb ho hcb;have RS:=cp.fh m _ _ _ hb;by_cases h1:b<(H 0).length
   ·exact hno b e (by rw[<-M.grow.ext b h1];exact RS) ho hcb
   ·obtain⟨_,hc⟩:=M.grow.new b e Om RS;rcases hc with hc|⟨b0,e0,c1,c2,c3,_⟩
    ·omega
    ·exact hno b0 e0 c1 c3 (c2.trans hcb)
 ·intro d hd;exact PC
 ·intro d j o hj hs ho;by_cases hji:j=i
  ·subst hji;rw[hio]at hj;cases hj;rw[hTi,ho];have h1:m1.le ((m1.patch m (H (j+1)).length).dI (H (j+1)).length):=λb e hb=>by
    have:=hr1.cN b e hb;unfold cp.dI;rw[X9 this,f3 b this];exact hb
   exact Jb
  ·exact PU
def sJ.next(M:sJ P l T H m0 w0 S β θ m ta w)(hG:P.globals.size<=(H 0).length)(hi:β<=i)(hi':i<θ)(hS:S i=false){io}(hio:l[i]? =some io)
  (hr1:HR P m1 (H (i+1)) w1) (g1:Grow (m.dI (H i).length) (H i) w m1 (H (i+1)) w1) {v}{cv}(hv:VR m1 v cv) (hTi:T (i+1)=put (T i) io.dst v) (hTl:(T i).length=(T 0).length)
  (huniq:∀j o d,j≠i->l[j]? =some o->o.dst=some d->io.dst≠some d):sJ P l T H m0 w0 (mark S i) β θ (m1.patch m (H (i+1)).length) (gR ta io.dst cv) w1:=by
 obtain⟨gi,hgi⟩:=M.quiet i hi hi';refine M.FW hG hi hi' hS hio hr1 g1.ext (λb e hb hm=>?_) (λx hx h1 _=>g1.frame x hx h1) g1.size g1.os g1.out g1.tape hv hTi hTl huniq;obtain⟨ho,hc⟩:=g1.new b e hb hm;have Sc:w.heap.size<=e.cb:=by
  rcases hc with hc|⟨b0,e0,c1,_,_,c4,c5⟩
  ·exact hc
  ·have d0:b0<(H i).length:=by
    unfold cp.dI at c1;split at c1
    ·assumption
    ·cases c1
   unfold eD at c4 c5;rw[hgi,XW d0]at c5;rw[c5]at c4;cases c4
 exact⟨ho,YI M.grow.size Sc,λb' e' hb'=>by have:=M.hr.lt b' e' hb';omega⟩
def sJ.jump(M:sJ P l T H m0 w0 S β i m ta w)(hd0:∀b e,m0 b=some e->b<(H 0).length)(hall:∀j,j<i->S j=true)(hil:i<l.length){io}(hio:l[i]? =some io)
  (hr1:HR P m1 (H (i+1)) w1) (g1:Grow (m.dI (H i).length) (H i) w m1 (H (i+1)) w1) {v}{cv}(hv:VR m1 v cv) (hTi:T (i+1)=put (T i) io.dst v) (hTl:(T i).length=(T 0).length)
  (huniq:∀j o d,j≠i->l[j]? =some o->o.dst=some d->io.dst≠some d):sJ P l T H m0 w0 (mark S i) (i+1) (i+1) m1 (gR ta io.dst cv) w1:=by
 have hm:m.dI (H i).length=m:=by
  funext b;unfold cp.dI;split
  ·rfl
  ·cases hb:m b with
   |none=>rfl
   |some e=>exact absurd (M.hr.cN b e hb) (by assumption)
 rw[hm]at g1;have Tm:m.le m1:=g1.le M.hr.cN;refine⟨X8 _,hil,?_,?_,λj hj VE=>absurd hj Om,?_,hr1,?_,?_,λj hj VE=>absurd hj Om,M.grow.trans g1 hd0,by rw[e8];exact M.size,?_,?_⟩
 ·intro j hj;unfold mark;split
  ·rfl
  ·exact hall j Om
 ·intro j hj;unfold mark at hj;split at hj
  ·omega
  ·have:=M.high j hj;omega
 ·intro j hj;by_cases hji:j=i
  ·subst hji;exact g1.len
  ·exact M.len j Om
 ·intro j hj hs;unfold mark at hs;split at hs
  ·cases hs
  ·rw[hall j Om]at hs;cases hs
 ·intro i2 hi2 hi2' b e k hb RS hk;have:i2=i+1:=Om
  subst this;exact(hr1.dU b e k RS hk).iY hr1.cN
 ·intro d hd;exact PC
 ·intro d j o hj hs ho;by_cases hji:j=i
  ·subst hji;rw[hio]at hj;cases hj;rw[hTi,ho];have h1:m1.le (m1.dI (H (j+1)).length):=λb e hb=>by
    have:=hr1.cN b e hb;unfold cp.dI;rw[X9 this];exact hb
   exact Jb
  ·exact PU
end
section
variable {P:Program}{m m':cp}{h g h':ah}{w w' w0:World}
theorem qY:∀(l c pre:List AV),c.length=l.length->fN (pre++c) pre.length l=pre++l
 |[],c,pre,h=>by
  exact I8
 |x::l,[],pre,h=>by simp at h
 |x::l,y::c,pre,h=>by
  have e1:(pre++y::c).set pre.length x=(pre++[x])++c:=by
   exact Jz
  have e2:pre.length+1=(pre++[x]).length:=Si
  show fN ((pre++y::c).set pre.length x) (pre.length+1) l=_;rw[e1,e2,qY l c (pre++[x]) (by simpa using h),XV];rfl
def Grow.forget(gr:Grow m h w m' (h++g) w'):Grow m h w (m'.dI h.length) h w' where
 ext:=λb hb=>by unfold cp.dI;rw[X9 hb];exact gr.ext b hb
 len:=X8 _
 new:=λb e hb he=>by unfold cp.dI at he;rw[X5 Om]at he;cases he
 tl:=λb hb ht=>ht
 size:=gr.size
 os:=gr.os
 out:=gr.out
 tape:=gr.tape
 frame:=gr.frame
def HR.forget(hr:HR P m h w)(hr':HR P m' (h++g) w')(gr:Grow m h w m' (h++g) w'):HR P (m'.dI h.length) h w':=
 hr'.dI hr.F5 λb e k hb RS hk=>(hr.dU b e k (by rw[<-gr.ext b hb];exact RS) hk).iY hr.cN
def HR.L8(hr:HR P m h w){cb cc}{el:TypeId}{fz}(hb:w.heap[cb]? =some (.cells cc el fz))(hfz:∀i,i<cc.size->¬(fz.1<=i/\i<fz.2))(hout:∀b e,m b=some e->e.cb≠cb)
  {c}{d}(hc:d+c.length=cc.size) (hv:∀(i:Nat) (x:AV),c[i]? =some x->x.one=true/\∃v,cc[d+i]? =some v/\VR m x v):HR P (m.add h.length ⟨cb,d,cc.size,true⟩) (h++[.cells c true false]) w:=by
 have RQ:m h.length=none:=by
  exact Ms
 have hle:m.le (m.add h.length ⟨cb,d,cc.size,true⟩):=cp.rO _ RQ;have Q3:∀b e,(m.add h.length ⟨cb,d,cc.size,true⟩) b=some e->(b=h.length/\e=⟨cb,d,cc.size,true⟩)\/(b<h.length/\m b=some e):=λb e Sd=>by
  exact PG
 refine⟨λb e Sd=>?_,λb e k Sd hk=>?_,λb1 b2 e1 e2 k1 k2 hne h1 h2 hk1 QS hcb=>?_,λg hg=>?_,λb e Sd=>?_⟩
 ·rw[XS];rcases Q3 b e Sd with⟨rfl,_⟩|⟨hlt,_⟩
  ·simp
  ·simp;omega
 ·rcases Q3 b e Sd with⟨rfl,rfl⟩|⟨hlt,hm⟩
  ·rw[X6 (X8 _),YY]at hk;cases hk;refine⟨cc,el,fz,hb,⟨by show d+_<=_;omega,by show d+_<=cc.size;omega,rfl⟩,λi x hx=>?_,λ_=>⟨rfl,hfz⟩,λ_=>⟨rfl,λ_=>by show cc.size=d+c.length;omega⟩⟩;obtain⟨ho,v,h1,h2⟩:=hv i x hx;exact⟨ho,v,h1,VR.mono hle _ _ h2⟩
  ·rw[XW hlt]at hk;exact(hr.dU b e k hm hk).mono hle
 ·exact PY
 ·obtain⟨e,he,hx⟩:=hr.fZ g hg;exact⟨e,hle _ _ he,hx⟩
 ·rcases Q3 b e Sd with⟨_,rfl⟩|⟨_,hm⟩
  ·exact(Ye.1 hb).1
  ·exact hr.lt b e hm
def Cz{x}(h:xX x=true):x.one=true:=by cases x<;>first|rfl|cases h
def Ez{x v}(h:xX x=true)(hv:VR m x v)(m':cp):VR m' x v:=by
 cases x<;>first|exact hv|cases h
def kH(m:cp)(w0 w:World)(zc:List AV)(cv:Value):Prop:=
 ∃(cb d:Nat) (cc:Array Value) (el:TypeId) (fz:Nat×Nat),cv=.pointer (some ⟨cb,d,none⟩)/\w.heap[cb]? =some (.cells cc el fz)/\d+zc.length=cc.size/\(∀i,i<cc.size->¬(fz.1<=i/\i<fz.2))/\
  (∀(i:Nat) (x:AV),zc[i]? =some x->x.one=true/\∃v,cc[d+i]? =some v/\∀m:cp,VR m x v)/\w0.heap.size<=cb/\∀b e,m b=some e->e.cb≠cb
def kH.move{zc cv}(p:kH m w0 w zc cv)(hh:∀cb d,cv=.pointer (some ⟨cb,d,none⟩)->cb<w.heap.size->(∀b e,m b=some e->e.cb≠cb)->w'.heap[cb]? =w.heap[cb]?)
  (hm:∀cb d,cv=.pointer (some ⟨cb,d,none⟩)->cb<w.heap.size->(∀b e,m b=some e->e.cb≠cb)->∀b e,m' b=some e->e.cb≠cb):kH m' w0 w' zc cv:=by
 obtain⟨cb,d,cc,el,fz,h1,h2,h3,h4,h5,h6,h7⟩:=p;have hlt:cb<w.heap.size:=(Ye.1 h2).1;exact⟨cb,d,cc,el,fz,h1,by rw[hh cb d h1 hlt h7];exact h2,h3,h4,h5,h6,hm cb d h1 hlt h7⟩
def kH.grow{zc cv}(p:kH m w0 w zc cv)(gr:Grow (m.dI h.length) h w m' h' w'):kH m' w0 w' zc cv/\kH (m'.patch m h'.length) w0 w' zc cv:=by
 have hh:∀cb d,cv=.pointer (some ⟨cb,d,none⟩)->cb<w.heap.size->(∀b e,m b=some e->e.cb≠cb)->w'.heap[cb]? =w.heap[cb]? :=λcb d _ hlt h7=>gr.frame cb hlt λb e he _=>h7 b e (cp.fh _ _ _ _ he)
 have hnew:∀cb,cb<w.heap.size->(∀b e,m b=some e->e.cb≠cb)->∀b e,m' b=some e->e.cb≠cb:=λcb hlt h7 b e he=>by
  by_cases hb:b<h.length
  ·rw[gr.ext b hb]at he;exact h7 b e (cp.fh _ _ _ _ he)
  ·obtain⟨_,hc⟩:=gr.new b e Om he;rcases hc with hc|⟨b0,e0,c1,c2,_⟩
   ·omega
   ·rw[<-c2];exact h7 b0 e0 (cp.fh _ _ _ _ c1)
 refine⟨p.move hh λcb d _ hlt h7=>hnew cb hlt h7,p.move hh λcb d _ hlt h7 b e he=>?_⟩;unfold cp.patch at he;split at he
 ·exact hnew cb hlt h7 b e he
 ·exact h7 b e he
end
structure cD(ops:Array Oper)(l:List bI)(k s t:Nat)(z:AV)(n:Nat)(x:c6):Prop where
 ks:k<s
 hk:l[k]? =some {dst:=some t,k:=.box (.c z),gd:=none,q:=true}
 hs:l[s]? =some {dst:=none,k:=.store n (.t t) x,gd:=none,q:=true}
 zn:z.cells.length=n
 zc:z.cells.all xX=true
 xt:∀u,x=.t u->u≠t/\fE ops s u=true
 lt:fE ops s t=true
 only:∀j,j<ops.size->j≠s->fE ops j t=false
def nJ{o n t x}(h:lU o=some (n,t,x)):o={dst:=none,k:=.store n (.t t) x,gd:=none,q:=true}:=by
 obtain⟨d,k,gd,q⟩:=o;unfold lU at h;exact z117
def ya{o t z}(h:tE o=some (t,z)):o={dst:=some t,k:=.box (.c z),gd:=none,q:=true}:=by
 obtain⟨d,k,gd,q⟩:=o;unfold tE at h;exact z117
def pT{ops l k s}(hks:k<s)(h:pn ops l k s=true):∃t z n x,cD ops l k s t z n x:=by
 unfold pn at h;split at h
 case h_2=>cases h
 rename_i t z n t' x h1 h2;obtain⟨a,ha,hb⟩:=YX.1 h1;obtain⟨b,Rk,Rx⟩:=YX.1 h2;have e1:=ya hb;have e2:=nJ Rx;subst e1;subst e2;simp only[Yv,beq_iff_eq,Yw,Y9,ZI,Zi]at h;obtain⟨⟨⟨⟨⟨rfl,q2⟩,q3⟩,q4⟩,q5⟩,q6⟩:=h;refine⟨t,z,n,x,hks,ha,Rk,q2,Yw.2 q3,λu hu=>?_,q5,λj hj hne=>(q6 j hj).resolve_left hne⟩;subst hu;simp only[Yv,bne_iff_ne,ne_eq]at q4;exact q4
def cD.ok{ops l k s t z n x}(p:cD ops l k s t z n x):pn ops l k s=true:=by
 unfold pn;rw[p.hk,p.hs];simp only[Option.bind_some,tE,lU,Yv,beq_iff_eq,Yw,Y9,ZI,Zi];refine⟨⟨⟨⟨⟨trivial,p.zn⟩,Yw.1 p.zc⟩,?_⟩,p.lt⟩,λj hj=>?_⟩
 ·cases x with
  |t u=>simp only[Yv,bne_iff_ne,ne_eq];exact p.xt u rfl
  |_=>rfl
 ·by_cases hne:j=s
  ·exact .inl hne
  ·exact .inr (p.only j hj hne)
def Hc:bI:={dst:=none,k:=.aI (.c (.bool false)),gd:=none,q:=true}
theorem vZ{ops l}:∀{r}{i j},(p9 ops l i r)[j]? =(r[j]?).map (tw ops l (i+j))
 |[],i,j=>by simp[p9]
 |o::r,i,0=>by simp[p9]
 |o::r,i,j+1=>by
  show(p9 ops l (i+1) r)[j]? =_;rw[vZ,show i+1+j=i+(j+1) by omega];simp
theorem vY{ops l}:∀{r}{i},(p9 ops l i r).length=r.length
 |[],_=>rfl
 |o::r,i=>by simp[p9,vY]
def xS{ops l}(hl:l.length=ops.size){j o}(ho:l[j]? =some o):
  (∃k t z n x,cD ops l k j t z n x/\tw ops l j o={dst:=some t,k:=.nw n x,gd:=none,q:=true})\/
  (∃s t z n x,cD ops l j s t z n x/\tw ops l j o=Hc)\/
  (tw ops l j o=o/\(∀k t z n x,¬cD ops l k j t z n x)/\(∀s t z n x,¬cD ops l j s t z n x)):=by
 unfold tw;split
 ·rename_i n t x bW;have e1:=nJ bW;have Q4:∀s t z n x,¬cD ops l j s t z n x:=λs t' z n' x' p=>by
   have:=p.hk;rw[ho,e1]at this;cases this
  split
  ·rename_i k hk;unfold Ob at hk;have h1:=aap hk;have h2:=Y9.1 (List.mem_of_find?_eq_some hk);obtain⟨t',z,n',x',p⟩:=pT h2 h1;have:=p.hs;rw[ho,e1]at this;cases this;exact .inl ⟨k,_,z,_,_,p,rfl⟩
  ·rename_i hk;refine .inr (.inr ⟨rfl,λk t' z n' x' p=>?_,Q4⟩);unfold Ob at hk;exact List.find?_eq_none.1 hk k (Y9.2 p.ks) p.ok
 ·rename_i bW;have hns:∀k t z n x,¬cD ops l k j t z n x:=λk t' z n' x' p=>by
   have:=p.hs;rw[ho]at this;cases this;simp[lU]at bW
  split
  ·rename_i y QO;split
   ·rename_i s hs;unfold Na at hs;have h1:=aap hs;simp only[Yv,YG]at h1;obtain⟨t',z,n',x',p⟩:=pT h1.1 h1.2;exact .inr (.inl ⟨s,t',z,n',x',p,rfl⟩)
   ·rename_i hs;refine .inr (.inr ⟨rfl,hns,λs t' z n' x' p=>?_⟩);unfold Na at hs;refine List.find?_eq_none.1 hs s (Y9.2 ((XT.1 p.hs).1)) ?_;simp only[Yv,YG];exact⟨p.ks,p.ok⟩
  ·rename_i QO;refine .inr (.inr ⟨rfl,hns,λs t' z n' x' p=>?_⟩);have:=p.hk;rw[ho]at this;cases this;simp[tE]at QO
def pG(v v':Value):Prop:=∀cb d UY d',v=.pointer (some ⟨cb,d,none⟩)->v' =.pointer (some ⟨UY,d',none⟩)->cb≠UY
theorem pG.symm{v v'}(h:pG v v'):pG v' v:=λcb d UY d' h1 h2 e=>h UY d' cb d h2 h1 e.symm
structure pK(ops:Array Oper)(l:List bI)(w0:World)(S:Nat->Bool)(ta tmps:Array Value)(m:cp)(w:World):Prop where
 size:tmps.size=ta.size
 ag:∀d,(∀k s z n x,cD ops l k s d z n x->S k=true->S s=false->False)->tmps.getD d undef=ta.getD d undef
 pd:∀k s t z n x,cD ops l k s t z n x->S k=true->S s=false->kH m w0 w z.cells (tmps.getD t undef)
 dj:∀k s t z n x k' s' t' z' n' x',cD ops l k s t z n x->cD ops l k' s' t' z' n' x'->S k=true->S s=false->S k' =true->S s' =false->t≠t'->pG (tmps.getD t undef) (tmps.getD t' undef)
section
variable {ops:Array Oper}{l:List bI}{w0 w w':World}{S:Nat->Bool}{ta tmps:Array Value}{m m':cp}
def jf{ta d cv}(h:d<ta.size):(gR ta (some d) cv).getD d undef=cv:=by
 simp only[gR,YH];rw[Ze h];rfl
def xI{d cv t}(hs:tmps.size=ta.size)(h:tmps.getD t undef=ta.getD t undef):(gR tmps d cv).getD t undef=(gR ta d cv).getD t undef:=by
 by_cases hd:d=some t
 ·subst hd;by_cases ht:t<ta.size
  ·rw[jf ht,jf Om]
  ·simp only[gR,YH];rw[Zt (by simp;omega),Zt (by simp;omega)]
 ·rw[dE hd,dE hd];exact h
def pK.other(I:pK ops l w0 S ta tmps m w){i d cv}(h1:∀k t z n x,¬cD ops l k i t z n x)(h2:∀s t z n x,¬cD ops l i s t z n x)(hd:∀k s t z n x,cD ops l k s t z n x->d≠some t)
  (hp:∀zc cv,kH m w0 w zc cv->kH m' w0 w' zc cv):pK ops l w0 (mark S i) (gR ta d cv) (gR tmps d cv) m' w' where
 size:=by rw[e8,e8];exact I.size
 ag:=λt ht=>xI I.size (I.ag t λk s z n x p hk hs=>ht k s z n x p (by unfold mark;split<;>first|rfl|exact hk) (by
  unfold mark;split
  ·rename_i e;subst e;exact absurd p (h1 _ _ _ _ _)
  ·exact hs))
 pd:=λk s t z n x p hk hs=>by
  have hki:k≠i:=λe=>h2 _ _ _ _ _ (e▸p)
  have hsi:s≠i:=λe=>h1 _ _ _ _ _ (e▸p)
  unfold mark at hk hs;rw[X5 hki]at hk;rw[X5 hsi]at hs;rw[dE (hd _ _ _ _ _ _ p)];exact hp _ _ (I.pd k s t z n x p hk hs)
 dj:=λk s t z n x k' s' t' z' n' x' p p' hk hs hk' QQ hne=>by
  have hki:k≠i:=λe=>h2 _ _ _ _ _ (e▸p)
  have hsi:s≠i:=λe=>h1 _ _ _ _ _ (e▸p)
  have hki':k'≠i:=λe=>h2 _ _ _ _ _ (e▸p')
  have hsi':s'≠i:=λe=>h1 _ _ _ _ _ (e▸p')
  unfold mark at hk hs hk' QQ;rw[X5 hki]at hk;rw[X5 hsi]at hs;rw[X5 hki']at hk';rw[X5 hsi']at QQ;rw[dE (hd _ _ _ _ _ _ p),dE (hd _ _ _ _ _ _ p')];exact I.dj _ _ _ _ _ _ _ _ _ _ _ _ p p' hk hs hk' QQ hne
def C4(ops:Array Oper)(l:List bI):Prop:=∀k s t z n x k' s' t' z' n' x',cD ops l k s t z n x->cD ops l k' s' t' z' n' x'->(t=t'->k=k'/\s=s')/\(k=k'->t=t')/\(s=s'->t=t')/\k≠s'
def pK.make(U:C4 ops l)(I:pK ops l w0 S ta tmps m w){k s t n z x cv}(p0:cD ops l k s t z n x)(ht:t<tmps.size)(hss:S s=false)
  (hnew:kH m' w0 w' z.cells cv) (hfar:∀cb d,cv=.pointer (some ⟨cb,d,none⟩)->w.heap.size<=cb) (hp:∀zc cv,kH m w0 w zc cv->kH m' w0 w' zc cv):pK ops l w0 (mark S k) ta (gR tmps (some t) cv) m' w' where
 size:=by rw[e8];exact I.size
 ag:=λd hd=>by
  by_cases hdt:d=t
  ·subst hdt;exact(hd k s z n x p0 (by simp[mark]) (by
    have:s≠k:=Nat.ne_of_gt p0.ks;simp only[mark,X5 this];exact hss)).elim
  ·rw[dE (λe=>hdt (YU e).symm)];refine I.ag d λk' s' z' n' x' p hk hs=>hd k' s' z' n' x' p (by unfold mark;split<;>first|rfl|exact hk) ?_
   have:s'≠k:=λe=>((U _ _ _ _ _ _ _ _ _ _ _ _ p0 p).2.2.2 e.symm)
   simp only[mark,X5 this];exact hs
 pd:=λk' s' t' z' n' x' p hk hs=>by
  by_cases hkk:k' =k
  ·have e:=(U _ _ _ _ _ _ _ _ _ _ _ _ p0 p).2.1 hkk.symm;subst e;subst hkk;have hz:=p0.hk.symm.trans p.hk;have hz:z=z':=by cases hz;rfl
   subst hz;rw[jf ht];exact hnew
  ·have hsk:s'≠k:=λe=>((U _ _ _ _ _ _ _ _ _ _ _ _ p0 p).2.2.2 e.symm)
   unfold mark at hk hs;rw[X5 hkk]at hk;rw[X5 hsk]at hs;have hne:t≠t':=λe=>hkk ((U _ _ _ _ _ _ _ _ _ _ _ _ p0 p).1 e).1.symm
   rw[dE (λe=>hne (YU e))];exact hp _ _ (I.pd _ _ _ _ _ _ p hk hs)
 dj:=λk1 s1 t1 z1 n1 x1 k2 s2 t2 z2 n2 x2 p1 p2 hk1 SF QS Rm hne=>by
  have hold:∀k' s' t' z' n' x',cD ops l k' s' t' z' n' x'->k'≠k->mark S k k' =true->mark S k s' =false->t≠t'/\S k' =true/\S s' =false/\(gR tmps (some t) cv).getD t' undef=tmps.getD t' undef:=λk' s' t' z' n' x' p hkk hk hs=>by
   have hsk:s'≠k:=λe=>((U _ _ _ _ _ _ _ _ _ _ _ _ p0 p).2.2.2 e.symm)
   unfold mark at hk hs;rw[X5 hkk]at hk;rw[X5 hsk]at hs;have hne:t≠t':=λe=>hkk ((U _ _ _ _ _ _ _ _ _ _ _ _ p0 p).1 e).1.symm
   exact⟨hne,hk,hs,dE (λe=>hne (YU e))⟩
  have hfar':∀k' s' t' z' n' x',cD ops l k' s' t' z' n' x'->S k' =true->S s' =false->pG cv (tmps.getD t' undef):=λk' s' t' z' n' x' p hk hs cb1 d1 cb2 d2 e1 e2=>by
   obtain⟨cb,d,cc,el,fz,q1,q2,_⟩:=I.pd _ _ _ _ _ _ p hk hs;rw[q1]at e2;cases e2;have:=hfar cb1 d1 e1;have:=(Ye.1 q2).1;omega
  by_cases h1:k1=k
  ·have e1:=(U _ _ _ _ _ _ _ _ _ _ _ _ p0 p1).2.1 h1.symm;by_cases h2:k2=k
   ·exact absurd (e1.symm.trans ((U _ _ _ _ _ _ _ _ _ _ _ _ p0 p2).2.1 h2.symm)) hne
   ·obtain⟨a1,a2,a3,a4⟩:=hold _ _ _ _ _ _ p2 h2 QS Rm;rw[a4,<-e1,jf ht];exact hfar' _ _ _ _ _ _ p2 a2 a3
  ·obtain⟨b1,b2,b3,b4⟩:=hold _ _ _ _ _ _ p1 h1 hk1 SF;by_cases h2:k2=k
   ·have e2:=(U _ _ _ _ _ _ _ _ _ _ _ _ p0 p2).2.1 h2.symm;rw[b4,<-e2,jf ht];exact(hfar' _ _ _ _ _ _ p1 b2 b3).symm
   ·obtain⟨a1,a2,a3,a4⟩:=hold _ _ _ _ _ _ p2 h2 QS Rm;rw[a4,b4];exact I.dj _ _ _ _ _ _ _ _ _ _ _ _ p1 p2 b2 b3 a2 a3 hne
def pK.fill(U:C4 ops l)(I:pK ops l w0 S ta tmps m w){k s t n z x}(p0:cD ops l k s t z n x)(ht:t<tmps.size)
  (hp:∀zc cv,pG cv (tmps.getD t undef)->kH m w0 w zc cv->kH m' w0 w' zc cv) (hk:S k=true) (hs:S s=false):pK ops l w0 (mark S s) (gR ta (some t) (tmps.getD t undef)) tmps m' w':=by
 have hold:∀k' s' t' z' n' x',cD ops l k' s' t' z' n' x'->mark S s k' =true->mark S s s' =false->t≠t'/\S k' =true/\S s' =false:=λk' s' t' z' n' x' p hk' QQ=>by
  have h1:k'≠s:=(U _ _ _ _ _ _ _ _ _ _ _ _ p p0).2.2.2;have h2:s'≠s:=λe=>by simp[mark,e]at QQ
  unfold mark at hk' QQ;rw[X5 h1]at hk';rw[X5 h2]at QQ;exact⟨λe=>h2 ((U _ _ _ _ _ _ _ _ _ _ _ _ p p0).1 e.symm).2,hk',QQ⟩
 refine⟨by rw[e8];exact I.size,λd hd=>?_,λk' s' t' z' n' x' p hk' QQ=>?_,λk1 s1 t1 z1 n1 x1 k2 s2 t2 z2 n2 x2 p1 p2 hk1 SF QS Rm hne=>?_⟩
 ·by_cases hdt:d=t
  ·subst hdt;rw[jf (by rw[<-I.size];exact ht)]
  ·rw[dE (λe=>hdt (YU e).symm)];refine I.ag d λk' s' z' n' x' p hk' QQ=>hd k' s' z' n' x' p (by unfold mark;split<;>first|rfl|exact hk') ?_
   have h2:s'≠s:=λe=>hdt ((U _ _ _ _ _ _ _ _ _ _ _ _ p p0).2.2.1 e)
   simp only[mark,X5 h2];exact QQ
 ·obtain⟨a1,a2,a3⟩:=hold _ _ _ _ _ _ p hk' QQ;exact hp _ _ (I.dj _ _ _ _ _ _ _ _ _ _ _ _ p p0 a2 a3 hk hs (Zk a1)) (I.pd _ _ _ _ _ _ p a2 a3)
 ·obtain⟨a1,a2,a3⟩:=hold _ _ _ _ _ _ p1 hk1 SF;obtain⟨b1,b2,b3⟩:=hold _ _ _ _ _ _ p2 QS Rm;exact I.dj _ _ _ _ _ _ _ _ _ _ _ _ p1 p2 a2 a3 b2 b3 hne
end
def cR{M ops}(h:lX M ops=true){i j x y}(hij:i<j)(hx:ops[i]? =some x)(hy:ops[j]? =some y):
  (∀d,x.dst=some d->y.dst≠some d/\(d∈y.looksAt ops->ahead M i j=true))/\(∀d,y.dst=some d->d∈x.looksAt ops->ahead M i j=true):=by
 have hj:j<ops.size:=(Ye.1 hy).1;unfold lX at h;rw[Yw]at h;have h1:=h j (Y9.2 hj);rw[Yw]at h1;have h2:=h1 i (Y9.2 hij);rw[hx,hy]at h2;simp only[Yv]at h2;obtain⟨h3,h4⟩:=h2;constructor
 ·intro d hd;rw[hd]at h3;simp only[Yv,bne_iff_ne,ne_eq,ZI,Zi,List.contains_eq_mem,ZK]at h3;exact⟨h3.1,λhl=>h3.2.resolve_left (λhx=>hx hl)⟩
 ·intro d hd hl;rw[hd]at h4;simp only[ZI,Zi,List.contains_eq_mem,ZK]at h4;exact h4.resolve_left (λhx=>hx hl)
def od{M ops}(h:kv M ops=true){j o}(ho:ops[j]? =some o):
  (∀e∈o.after,Region.binds .any e=true->e.on<j)/\(∀i,i<ops.size->ahead M i j=true->∃e∈o.after,Region.binds .any e=true/\(e.on=i\/ahead M i e.on=true)):=by
 have hj:j<ops.size:=(Ye.1 ho).1;unfold kv at h;rw[Yw]at h;have h1:=h j (Y9.2 hj);rw[ho]at h1;simp only[Yv]at h1;obtain⟨h2,h3⟩:=h1;constructor
 ·intro e he hb;rw[Yw]at h2;have:=h2 e (by simpa using he);simp only[hb,Yk,Z6,YG]at this;exact this
 ·intro i hi ha;rw[Yw]at h3;have:=h3 i (Y9.2 hi);simp only[ha,Yk,Z6,ZC,Yv,ZI,beq_iff_eq]at this;obtain⟨e,he,hb,hor⟩:=this;exact⟨e,by simpa using he,hb,hor⟩
def oD{M n j}(h:gM M n j=true){i}(hi:i<n)(hne:i≠j):(i<j->ahead M i j=true)/\(j<i->ahead M j i=true):=by
 unfold gM at h;rw[Yw]at h;have h1:=h i (Y9.2 hi);simp only[ZI,beq_iff_eq]at h1;have h2:=h1.resolve_left hne;constructor
 ·intro hlt;rwa [X9 hlt]at h2
 ·intro hlt;rwa [X5 Om]at h2
theorem uG{T:Nat->TS}{t:Nat}{a:Nat}:∀k,(∀j,a<=j->j<a+k->∃d v,T (j+1)=put (T j) d v/\d≠some t)->(T (a+k)).getD t az=(T a).getD t az
 | 0,_=>rfl
 |k+1,h=>by
  obtain⟨d,v,h1,h2⟩:=h (a+k) Om Om;rw[show a+(k+1)=a+k+1 from by omega,h1,xH h2];exact uG k λj h3 h4=>h j h3 Om
def yK{listed:Array Bool}{i:Nat}(hi:i<listed.size):(λj=>(listed.setIfInBounds i true).getD j false)=mark (λj=>listed.getD j false) i:=by
 funext j;unfold mark;exact da hi
def je{ops listed}(hs:listed.size=ops.size){i}:i∈Region.ready .any ops listed↔∃o,ops[i]? =some o/\listed.getD i false=false/\∀e∈o.after,Region.binds .any e=true->listed.getD e.on false=true:=by
 unfold Region.ready;simp only[Zd,Y9,Yv,Zi];constructor
 ·rintro⟨hi,hl,ha⟩;have ho:ops[i]? =some ops[i]:=YL hi;refine⟨ops[i],ho,?_,?_⟩
  ·exact JR
  ·rw[ho]at ha;simp only[ZP,Z8,ZW,ZI,Zi]at ha;intro e he hb;exact(ha e he).resolve_left (by simp[hb])
 ·rintro⟨o,ho,hl,ha⟩;have hi:i<ops.size:=(Ye.1 ho).1;refine⟨hi,?_,?_⟩
  ·exact JR
  ·rw[ho];simp only[ZP,Z8,ZW,ZI,Zi];intro e he;cases hb:Region.binds .any e with
   |true=>exact .inr (ha e he hb)
   |false=>exact .inl rfl
def l9{M ops}(he:kv M ops=true){listed}(hs:listed.size=ops.size)(hr:Region.ready .any ops listed=[]):∀i,i<ops.size->listed.getD i false=true:=by
 intro i
 induction i using Nat.strongRecOn with
 |_ i ih=>
  intro hi;cases hl:listed.getD i false with
  |true=>rfl
  |false=>
   have:i∈Region.ready .any ops listed:=by
    have ho:ops[i]? =some ops[i]:=YL hi;refine(je hs).2 ⟨ops[i],ho,hl,λe hee hb=>?_⟩;have:=(od he ho).1 e hee hb;exact ih e.on this Om
   rw[hr]at this;cases this
def mg{ops listed}(hs:listed.size=ops.size)(h:∀i,i<ops.size->listed.getD i false=true):Region.ready .any ops listed=[]:=by
 cases hr:Region.ready .any ops listed with
 |nil=>rfl
 |cons x xs=>
  have:x∈Region.ready .any ops listed:=by rw[hr];simp
  obtain⟨o,ho,hl,_⟩:=(je hs).1 this;rw[h x (Ye.1 ho).1]at hl;cases hl
def ve{P:Program}(hmix:P.follows .mixedOrders=true){ops:Array Oper}{l:List bI}(hc:cQ P ops true=some l){ts ts':TS}{h h':ah}(hs:yi P l ts h ts' h'){m:cp}{a:Act}{w:World}
  (st:St P m ts h a w) (ro:Option Nat) (Q:Exit->Act->World->Prop) (hQ:∀m' a' w',St P m' ts' h' a' w'->Grow m h w m' h' w'->a'.defers=a.defers->Q .normal a' w') (id:Nat):
  (Code.region id ops true).wpIn (Fd ro) 0 P Q a w:=by
 refine wpIn_region_any hmix ?_;obtain⟨T,H,rfl,rfl,rfl,rfl,hrow⟩:=hs.row;simp only[cQ,Yf]at hc;split at hc
 case isFalse=>cases hc
 rename_i hok;simp only[Yv]at hok;obtain⟨hed,hsl⟩:=hok;obtain⟨l0,hc,hl⟩:=Yj.1 hc;obtain⟨Q8,QY⟩:=gh hc;simp only[Z5]at Q8;have hlen:l.length=ops.size:=by rw[<-hl,vY,Q8]
 have hget0:∀j o,ops[j]? =some o->∃io,l0[j]? =some io/\bU P ops (!gM (Region.before ops) ops.size j) o=some io:=λj o ho=>by
  obtain⟨y,h1,h2⟩:=QY j o (by simpa using ho);exact⟨y,h1,by rwa [YJ]at h2⟩
 have TC:∀j io,l0[j]? =some io->∃o,ops[j]? =some o/\bU P ops (!gM (Region.before ops) ops.size j) o=some io:=λj io hj=>by
  have hlt:j<ops.size:=by have:=(XT.1 hj).1;omega
  have ho:ops[j]? =some ops[j]:=YL hlt;obtain⟨io',h1,h2⟩:=hget0 j _ ho;rw[hj]at h1;cases h1;exact⟨_,ho,h2⟩
 have VJ:∀(j:Nat) (io:bI),l[j]? =some io->(∃k t z n x,cD ops l0 k j t z n x/\io={dst:=some t,k:=.nw n x,gd:=none,q:=true})\/(∃s t z n x,cD ops l0 j s t z n x/\io=Hc)\/
   ((∃o,ops[j]? =some o/\bU P ops (!gM (Region.before ops) ops.size j) o=some io)/\(∀k t z n x,¬cD ops l0 k j t z n x)/\(∀s t z n x,¬cD ops l0 j s t z n x)):=λj io hj=>by
  rw[<-hl,vZ,YJ]at hj;obtain⟨io0,h0,rfl⟩:=Yj.1 hj;rcases xS Q8 h0 with⟨k,t,z,n,x,p,e⟩|⟨s,t,z,n,x,p,e⟩|⟨e,n1,n2⟩
  ·exact .inl ⟨k,t,z,n,x,p,e⟩
  ·exact .inr (.inl ⟨s,t,z,n,x,p,e⟩)
  ·rw[e];exact .inr (.inr ⟨TC j io0 h0,n1,n2⟩)
 have hdU:∀(i j:Nat) (oi oj:Oper) (d:Nat),ops[i]? =some oi->ops[j]? =some oj->oi.dst=some d->oj.dst=some d->i=j:=λi j oi oj d hi hj h1 h2=>by
  by_cases hlt:i<j
  ·exact absurd h2 ((cR hsl hlt hi hj).1 d h1).1
  ·by_cases T2:j<i
   ·exact absurd h1 ((cR hsl T2 hj hi).1 d h2).1
   ·omega
 have Xr:∀{k s t:Nat}{z:AV}{n:Nat}{x:c6},cD ops l0 k s t z n x->∃o,ops[k]? =some o/\o.dst=some t/\bU P ops (!gM (Region.before ops) ops.size k) o=some {dst:=some t,k:=.box (.c z),gd:=none,q:=true}:=λp=>by
  obtain⟨o,h1,h2⟩:=TC _ _ p.hk;exact⟨o,h1,(dy h2).1.symm,h2⟩
 have hps:∀{k s t:Nat}{z:AV}{n:Nat}{x:c6},cD ops l0 k s t z n x->∃o,ops[s]? =some o/\o.dst=none/\bU P ops (!gM (Region.before ops) ops.size s) o=some {dst:=none,k:=.store n (.t t) x,gd:=none,q:=true}:=λp=>by
  obtain⟨o,h1,h2⟩:=TC _ _ p.hs;exact⟨o,h1,(dy h2).1.symm,h2⟩
 have hlooks:∀{j t:Nat}{o:Oper},ops[j]? =some o->fE ops j t=true->t∈o.looksAt ops:=λho h=>by
  unfold fE at h;rw[ho]at h
  simpa using h
 have VA:∀{j t:Nat}{o:Oper},ops[j]? =some o->t∈o.looksAt ops->fE ops j t=true:=λho h=>by
  unfold fE;rw[ho]
  simpa using h
 have eC:∀{j:Nat}{o:Oper},ops[j]? =some o->j<ops.size:=λho=>(Ye.1 ho).1
 have U:C4 ops l0:=λk s t z n x k' s' t' z' n' x' p p'=>by
  refine⟨λe=>?_,λe=>?_,λe=>?_,λe=>?_⟩
  ·subst e;obtain⟨o,h1,h2,_⟩:=Xr p;obtain⟨o',h1',h2',_⟩:=Xr p';refine⟨hdU _ _ _ _ _ h1 h1' h2 h2',?_⟩;by_cases hs:s=s'
   ·exact hs
   ·obtain⟨os,SF,_⟩:=hps p';have:=p.only s' (eC SF) (Zk hs);rw[p'.lt]at this;cases this
  ·subst e;have:=p.hk.symm.trans p'.hk;cases this;rfl
  ·subst e;have:=p.hs.symm.trans p'.hs;cases this;rfl
  ·subst e;have:=p.hk.symm.trans p'.hs;cases this
 have hpt:∀{i:Nat}{o:Oper}{t:Nat},ops[i]? =some o->t∈o.looksAt ops->∀k s z n x,cD ops l0 k s t z n x->i=s:=λ{i o t} ho ht k s z n x p=>by
  by_cases hi:i=s
  ·exact hi
  ·have:=p.only _ (eC ho) hi;rw[VA ho ht]at this;cases this
 have RY:∀(j:Nat) (io:bI) (d:Nat),l[j]? =some io->io.dst=some d->(∃o,ops[j]? =some o/\o.dst=some d/\(∀k t z n x,¬cD ops l0 k j t z n x)/\(∀s t z n x,¬cD ops l0 j s t z n x))\/(∃k z n x,cD ops l0 k j d z n x):=λj io d hj hd=>by
  rcases VJ j io hj with⟨k,t,z,n,x,p,e⟩|⟨s,t,z,n,x,p,e⟩|⟨⟨o,h1,h2⟩,n1,n2⟩
  ·rw[e]at hd;cases hd;exact .inr ⟨k,z,n,x,p⟩
  ·rw[e]at hd;cases hd
  ·exact .inl ⟨o,h1,by rw[<- (dy h2).1];exact hd,n1,n2⟩
 have Sp:∀j io,l[j]? =some io->∃v,T (j+1)=put (T j) io.dst v:=λj io hj=>(hrow.step j io hj).1.put
 have hTl:∀j,j<=l.length->(T j).length=(T 0).length:=by
  intro j
  induction j with
  |zero=>intro _;rfl
  |succ j ih=>
   intro hj;exact MH
 have hG:P.globals.size<=(H 0).length:=st.hr.F5;have huniq:∀(i:Nat) (io:bI),l[i]? =some io->∀(j:Nat) (o:bI) (d:Nat),j≠i->l[j]? =some o->o.dst=some d->io.dst≠some d:=by
  intro i io hi j o d hne hj hd Rl;rcases RY j o d hj hd with⟨oj,a1,a2,a3,a4⟩|⟨k,z,n,x,p⟩
  ·rcases RY i io d hi Rl with⟨oi,b1,b2,b3,b4⟩|⟨k',z',n',x',p'⟩
   ·exact hne (hdU _ _ _ _ _ a1 b1 a2 b2)
   ·obtain⟨ok,h1,h2,_⟩:=Xr p';have e:=hdU _ _ _ _ _ a1 h1 a2 h2;subst e;exact a4 _ _ _ _ _ p'
  ·rcases RY i io d hi Rl with⟨oi,b1,b2,b3,b4⟩|⟨k',z',n',x',p'⟩
   ·obtain⟨ok,h1,h2,_⟩:=Xr p;have e:=hdU _ _ _ _ _ b1 h1 b2 h2;subst e;exact b4 _ _ _ _ _ p
   ·exact hne ((U _ _ _ _ _ _ _ _ _ _ _ _ p p').1 rfl).2
 have Q5:∀a b t,a<=b->b<=l.length->(∀(j:Nat) (o:bI),a<=j->j<b->l[j]? =some o->o.dst≠some t)->(T b).getD t az=(T a).getD t az:=by
  intro a b t hab hb hno;have:=uG (T:=T) (t:=t) (a:=a) (b-a) (λj h1 h2=>by
   have hj:l[j]? =some (l[j]'Om):=XY Om;obtain⟨v,hv⟩:=Sp j _ hj;exact⟨_,v,hv,hno j _ h1 Om hj⟩)
  rwa [show a+(b-a)=b from by omega]at this
 have hqt:∀(j:Nat) (io:bI),l[j]? =some io->gM (Region.before ops) ops.size j=false->io.q=true:=λj io hj hb=>by
  rcases VJ j io hj with⟨k,t,z,n,x,p,e⟩|⟨s,t,z,n,x,p,e⟩|⟨⟨o,h1,h2⟩,n1,n2⟩
  ·rw[e]
  ·rw[e];rfl
  ·rw[(dy h2).2,hb];rfl
 have hdone:∀(listed:Array Bool) (β θ:Nat) (m1:cp) (ta:Array Value) (a1:Act) (w1:World),(∀i,i<ops.size->listed.getD i false=true)->
   sJ P l T H m w (λj=>listed.getD j false) β θ m1 ta w1->pK ops l0 w (λj=>listed.getD j false) ta a1.tmps m1 w1->a1.defers=a.defers->Q .normal a1 w1:=by
  intro listed β θ m1 ta a1 w1 hall M I hd;have hθ:θ=l.length:=by
   have h1:=M.θn;by_cases hz:l.length=0
   ·omega
   ·have:=M.high (l.length-1) (hall _ Om);omega
  subst hθ;refine hQ m1 a1 w1 ⟨M.hr,cL.gZ ?_ ?_⟩ M.grow hd
  ·have:=M.size;have:=I.size;have:=hTl l.length (X8 _);simp;omega
  ·intro t x hx;have hlt:=(XT.1 hx).1;have Rd:t<a1.tmps.size:=by have:=M.size;have:=I.size;have:=hTl l.length (X8 _);omega
   have ex:(T l.length).getD t az=x:=by simp[List.getD,hx]
   have ey:a1.tmps.getD t undef=a1.tmps[t]:=by simp[YH,YL Rd]
   have eg:a1.tmps.getD t undef=ta.getD t undef:=I.ag t λk s z n x p _ hs=>by
    obtain⟨os,SF,_⟩:=hps p;rw[hall s (eC SF)]at hs;cases hs
   refine⟨a1.tmps[t],Si,?_⟩;rw[<-ex,<-ey,eg];by_cases hw:∃(j:Nat) (o:bI),l[j]? =some o/\o.dst=some t
   ·obtain⟨j,o,hj,ho⟩:=hw;have Ta:=(XT.1 hj).1;have h1:=M.yx t j o hj (hall j Om) ho;rw[Q5 (j+1) l.length t Om (X8 _) (λk o' h2 h3 h4 h5=>huniq j o hj k o' t Om h4 h5 ho)];exact VR.mono (cp.fh _ _) _ _ h1
   ·rw[Q5 0 l.length t Om (X8 _) (λk o' _ _ h4 h5=>hw ⟨k,o',h4,h5⟩)];exact VR.mono (M.grow.le st.hr.cN) _ _ (M.yy t (λj o hj _ ho=>hw ⟨j,o,hj,ho⟩))
 have key:∀(fuel:Nat) (listed:Array Bool) (β θ:Nat) (m1:cp) (ta:Array Value) (a1:Act) (w1:World),listed.size=ops.size->qP listed ops.size<=fuel->
   (∀j x,listed.getD j false=true->x<ops.size->ahead (Region.before ops) x j=true->listed.getD x false=true)->
   sJ P l T H m w (λj=>listed.getD j false) β θ m1 ta w1->pK ops l0 w (λj=>listed.getD j false) ta a1.tmps m1 w1->a1.defers=a.defers->wpAnyIn (Fd ro) 0 P .any ops Q fuel listed a1 w1:=by
  intro fuel
  induction fuel with
  |zero=>
   intro listed β θ m1 ta a1 w1 Q6 hu hcl M I hd;have hall:=lq ops.size (show qP listed ops.size=0 by omega);exact⟨mg Q6 hall,hdone listed β θ m1 ta a1 w1 hall M I hd⟩
  |succ fuel ih=>
   intro listed β θ m1 ta a1 w1 Q6 hu hcl M I hd;refine⟨λhr=>hdone listed β θ m1 ta a1 w1 (l9 hed Q6 hr) M I hd,λi hi=>?_⟩;obtain⟨o,ho,RU,VG⟩:=(je Q6).1 hi;have hin:i<ops.size:=(Ye.1 ho).1;have hio:l[i]? =some (l[i]'Om):=XY Om;generalize l[i]'Om=io at hio;obtain⟨bW,hq⟩:=hrow.step i io hio;have hahead:∀x,x<ops.size->ahead (Region.before ops) x i=true->listed.getD x false=true:=λx hx ha=>by
    exact Mu
   have SH:β<=i:=by
    by_cases hx:i<β
    ·have:=M.low i hx;simp only[RU]at this;cases this
    ·omega
   have SR:∀j x,(listed.setIfInBounds i true).getD j false=true->x<ops.size->ahead (Region.before ops) x j=true->(listed.setIfInBounds i true).getD x false=true:=by
    intro j x hj hx ha;exact z40
   have Ut:qP (listed.setIfInBounds i true) ops.size<=fuel:=by
    exact z80
   have hslot:∀(β' θ':Nat),sJ P l T H m w (λj=>listed.getD j false) β' θ' m1 ta w1->i<=θ'->∀t,t∈o.looksAt ops->(∀k s z n x,¬cD ops l0 k s t z n x)->VR (m1.dI (H i).length) ((T i).getD t az) (ta.getD t undef):=by
    intro β' θ' M' hi' t ht hnp;have h0i:=fH M'.len (Yt i) hi';by_cases hex:∃(x:Nat) (ox:bI),l[x]? =some ox/\listed.getD x false=true/\ox.dst=some t
    ·obtain⟨x,ox,hx,hxl,T9⟩:=hex;rcases RY x ox t hx T9 with⟨oo,Tr,Uo,_⟩|⟨k,z,n,y,p⟩
     ·have hxn:x<ops.size:=(Ye.1 Tr).1;have hxi:x<i:=by
       by_cases h1:x=i
       ·subst h1;rw[RU]at hxl;cases hxl
       ·by_cases h2:x<i
        ·exact h2
        ·have h3:=(cR hsl (show i<x by omega) ho Tr).2 t Uo ht;have h4:=hcl x i hxl hin h3;rw[RU]at h4;cases h4
      have h1:=M'.yx t x ox hx hxl T9;rw[Q5 (x+1) i t Om Om (λk o' h2 h3 h4 h5=>huniq x ox hx k o' t Om h4 h5 T9)];exact VR.mono (cp.zp _ (fH M'.len Om hi')) _ _ h1
     ·exact absurd p (hnp _ _ _ _ _)
    ·rw[Q5 0 i t Om Om (λk o' h2 h3 h4 h5=>by
      rcases RY k o' t h4 h5 with⟨oo,Tr,Rl,_⟩|⟨k',z,n,y,p⟩
      ·have h6:=((cR hsl h3 Tr ho).1 t Rl).2 ht;exact hex ⟨k,o',h4,hahead k (Ye.1 Tr).1 h6,h5⟩
      ·exact hnp _ _ _ _ _ p)]
     refine VR.mono ?_ _ _ (M'.yy t (λj o hj hl Rl=>hex ⟨j,o,hj,hl,Rl⟩));intro b e hb;have:=st.hr.cN b e hb;unfold cp.dI;rw[X9 Om];exact M'.grow.le st.hr.cN b e hb
   have XN:∀t,(∀k s z n x,¬cD ops l0 k s t z n x)->a1.tmps.getD t undef=ta.getD t undef:=λt hnp=>I.ag t λk s z n x p _ _=>hnp _ _ _ _ _ p
   have hTn:∀j,j<=l.length->a1.tmps.size=(T j).length:=λj hj=>by rw[I.size,M.size,hTl j hj]
   have Tq:io.q=true->∃θ',i<θ'/\sJ P l T H m w (λj=>listed.getD j false) β θ' m1 ta w1:=λTb=>by
    by_cases RW:i<θ
    ·exact⟨θ,RW,M⟩
    ·refine⟨i+1,Om,M.raise Om Om λj hj VE=>?_⟩;have Ta:j<ops.size:=Om
     have XD:l[j]? =some (l[j]'Om):=XY Om;by_cases hji:j=i
     ·subst hji;rw[hio]at XD;exact hq Tb
     ·have hjs:listed.getD j false=false:=by
       cases hx:listed.getD j false with
       |false=>rfl
       |true=>have:=M.high j hx;omega
      cases hb:gM (Region.before ops) ops.size j with
      |true=>
       have h1:=(oD hb hin (λx=>hji x.symm)).2 Om;have h2:=hahead j Ta h1;rw[hjs]at h2;cases h2
      |false=>exact(hrow.step j _ XD).2 (hqt j _ XD hb)
   have hih:∀(β2 WD:Nat) (m2:cp) (ta2:Array Value) (a2:Act) (w2:World),sJ P l T H m w (mark (λj=>listed.getD j false) i) β2 WD m2 ta2 w2->pK ops l0 w (mark (λj=>listed.getD j false) i) ta2 a2.tmps m2 w2->a2.defers=a1.defers->
     wpAnyIn (Fd ro) 0 P .any ops Q fuel (listed.setIfInBounds i true) a2 w2:=λβ2 WD m2 ta2 a2 w2 M2 I2 VH=>
    ih (listed.setIfInBounds i true) β2 WD m2 ta2 a2 w2 (by simpa using Q6) Ut SR (by rw[yK Om];exact M2) (by rw[yK Om];exact I2) (VH.trans hd)
   rcases VJ i io hio with⟨k,t,z,n,x,p,e⟩|⟨s,t,z,n,x,p,e⟩|⟨⟨o',ho',Q2⟩,n1,n2⟩
   ·
    subst e;obtain⟨os,hos,hosd,Q2⟩:=hps p;rw[ho]at hos;cases hos;obtain⟨ok,Ux,Ro,_⟩:=Xr p;have Ve:listed.getD k false=true:=hahead k (eC Ux) (((cR hsl p.ks Ux ho).1 t Ro).2 (hlooks ho p.lt));have hpend:=I.pd _ _ _ _ _ _ p Ve RU;obtain⟨cb,d,cc,el,fz,SQ,hheap,Q7,hfz,hcon,Xj,hout⟩:=hpend;obtain⟨θ',RW,M'⟩:=Tq rfl;have SC:=M'.cut hG SH (aan RW);obtain⟨X,hX1,hX2,TV,XO,hTs⟩:∃X:List AV,X=(val (T i) x).cells/\(X.all AV.one=true/\X.length=n)/\t<(T i).length/\H (i+1)=H i++[.cells X true false]/\T (i+1)=put (T i) (some t) (.ptr (H i).length 0):=by
     generalize H (i+1)=H1 at bW;generalize T (i+1)=T1 at bW;cases bW with
     |run hw hb hs=>
      have hs:dA (.nw n x) (val (T i)) (H i)=some (_,_):=hs;simp only[dA]at hs;split at hs
      case isFalse=>cases hs
      rename_i Q9;cases hs;exact⟨_,rfl,Q9,hb,rfl,rfl⟩
     |skip hw=>exact absurd trivial hw
    have hr1:=SC.L8 hheap hfz (λb e he=>hout b e (cp.fh _ _ _ _ he)) Q7 (λj y hy=>by
     obtain⟨h1,v,h2,h3⟩:=hcon j y hy;exact⟨h1,v,h2,h3 _⟩)
    generalize hmc:(m1.dI (H i).length).add (H i).length ⟨cb,d,cc.size,true⟩=mc at hr1;have Vy:mc (H i).length=some ⟨cb,d,cc.size,true⟩:=by rw[<-hmc];simp[cp.add]
    have UC:∀b,b≠(H i).length->mc b=(m1.dI (H i).length) b:=λb hb=>by rw[<-hmc];unfold cp.add;rw[X5 hb]
    have hmcl:(m1.dI (H i).length).le mc:=λb e he=>by
     by_cases hb:b=(H i).length
     ·subst hb;have:=SC.cN _ _ he;omega
     ·rw[UC b hb];exact he
    have TT:val (put (T i) (some t) (.ptr (H i).length 0)) x=val (T i) x:=by
     cases x with
     |t u=>
      have hut:=(p.xt u rfl).1;simp only[val];exact xH (λe=>hut (YU e).symm)
     |_=>rfl
    have hvt:val (put (T i) (some t) (.ptr (H i).length 0)) (.t t)=.ptr (H i).length 0:=by
     simp only[val,put,List.getD];rw[Yd TV];rfl
    have hzl:z.cells.length=X.length:=by rw[p.zn,hX2.2]
    have XC:dD P {dst:=none,k:=.store n (.t t) x,gd:=none,q:=true} (put (T i) (some t) (.ptr (H i).length 0)) (H i++[.cells z.cells true false]) (put (T i) (some t) (.ptr (H i).length 0)) (H (i+1)):=by
     refine dD.run (v:=az) trivial trivial ?_;show dA (.store n (.t t) x) _ _=some (az,H (i+1));simp only[dA,hvt,TT];rw[X6 (X8 _),YY];show(if(val (T i) x).cells.length=n/\(val (T i) x).cells.all AV.one=true/\0+n<=z.cells.length then some (az,(H i++[ak.cells z.cells true false]).set (H i).length (.cells (fN z.cells 0 (val (T i) x).cells) true false))else none)=_;rw[<-hX1,X9 ⟨hX2.2,hX2.1,by rw[p.zn];omega⟩];have aT:=qY X z.cells [] hzl;rw[ZB,ZB,X1]at aT;rw[aT,YP _ _ (X8 _),YY,XO];rfl
    refine fB ho Q2 hr1.gv hr1 (by rw[mY];exact hTn i Om) (λu hu=>?_) XC ro _ Q ?_
    ·by_cases hut:u=t
     ·subst hut;have:(put (T i) (some u) (AV.ptr (H i).length 0)).getD u az=.ptr (H i).length 0:=hvt;rw[this,SQ];exact⟨_,Vy,by rw[YJ]⟩
     ·have hnp:∀k s z n x,¬cD ops l0 k s u z n x:=λk' s' z' n' x' p'=>by
       have e:=hpt ho hu _ _ _ _ _ p';exact hut ((U _ _ _ _ _ _ _ _ _ _ _ _ p' p).2.2.1 e.symm)
      rw[xH (λe=>hut (YU e).symm),XN u hnp];exact VR.mono hmcl _ _ (hslot β θ' M' (aan RW) u hu hnp)
    ·intro cv v m' w' _ _ hr' Re;have hlen1:(H i++[ak.cells z.cells true false]).length=(H i).length+1:=Si
     have UG:(H (i+1)).length=(H i).length+1:=by rw[XO];simp
     have Xt:∀b,b<(H i).length+1->m' b=mc b:=λb hb=>Re.ext b (by rw[hlen1];exact hb)
     have Xu:m' (H i).length=some ⟨cb,d,cc.size,true⟩:=by rw[Xt _ Om];exact Vy
     have Wg:∀b e,(H i).length<=b->m' b=some e->b=(H i).length/\e=⟨cb,d,cc.size,true⟩:=λb e hb he=>by
      have h1:=hr'.cN b e he;rw[UG]at h1;have:b=(H i).length:=Om
      subst this;rw[Xu]at he;cases he;exact⟨rfl,rfl⟩
     have M2:=M'.FW hG SH RW RU hio hr' (λb hb=>by rw[Xt b Om,UC b Om])
      (λb e hb he=>by
       obtain⟨_,rfl⟩:=Wg b e hb he;exact⟨rfl,Xj,λb' e' h=>hout b' e' h⟩)
      (λy hy h1 h2=>Re.frame y hy λb e he ho' hcb=>by
       by_cases hb:b=(H i).length
       ·subst hb;rw[Vy]at he;cases he;exact h2 _ _ (X8 _) Xu hcb
       ·rw[UC b hb]at he;exact h1 b e he ho' hcb)
      Re.size Re.os Re.out Re.tape (v:=.ptr (H i).length 0) (cv:=a1.tmps.getD t undef) (by rw[SQ];exact⟨_,Xu,by rw[YJ]⟩) hTs (hTl i Om) (huniq i _ hio)
     have Xq:a1.put o.dst cv=a1:=by rw[hosd];rfl
     rw[Xq];refine hih _ _ _ _ a1 w' M2 (I.fill U p (by rw[hTn i Om];exact TV) (λzc c hne q=>?_) Ve RU) rfl;refine q.move (λUY d' hc hlt h7=>?_) (λUY d' hc hlt h7 b e he=>?_)
     ·refine Re.frame UY hlt λb e he _ hcb=>?_
      by_cases hb:b=(H i).length
      ·subst hb;rw[Vy]at he;cases he;exact hne _ _ _ _ hc SQ hcb.symm
      ·rw[UC b hb]at he;exact h7 b e (cp.fh _ _ _ _ he) hcb
     ·unfold cp.patch at he;split at he
      ·rename_i hb;by_cases hbl:b<(H i).length
       ·rw[Xt b Om,UC b Om]at he;exact h7 b e (cp.fh _ _ _ _ he)
       ·obtain⟨_,rfl⟩:=Wg b e Om he
        exactλhcb=>hne _ _ _ _ hc SQ hcb.symm
      ·exact h7 b e he
   ·
    subst e;obtain⟨ok,Ux,Ro,Q2⟩:=Xr p;rw[ho]at Ux;cases Ux;obtain⟨os,hos,_⟩:=hps p;have hss:listed.getD s false=false:=by
     cases hx:listed.getD s false with
     |false=>rfl
     |true=>
      have:=hcl s i hx hin (((cR hsl p.ks ho hos).1 t Ro).2 (hlooks hos p.lt));rw[RU]at this;cases this
    obtain⟨θ',RW,M'⟩:=Tq rfl;have SC:=M'.cut hG SH (aan RW);have TV:t<(T i).length:=by
     have hsl':s<l.length:=by rw[hlen];exact eC hos
     have SF:l[s]? =some l[s]:=XY hsl';have Rm:=(hrow.step s _ SF).1;rcases VJ s _ SF with⟨k',t',z',n',x',p',e⟩|⟨s',t',z',n',x',p',e⟩|⟨_,n1,_⟩
     ·have e2:=(U _ _ _ _ _ _ _ _ _ _ _ _ p p').2.2.1 rfl;subst e2;rw[e]at Rm;generalize H (s+1)=H1 at Rm;generalize T (s+1)=T1 at Rm;have:t<(T s).length:=by
       cases Rm with
       |run hw hb hs=>exact hb
       |skip hw=>exact absurd trivial hw
      rw[hTl s Om]at this;rw[hTl i Om];exact this
     ·exact absurd rfl ((U _ _ _ _ _ _ _ _ _ _ _ _ p' p).2.2.2)
     ·exact absurd p (n1 _ _ _ _ _)
    have hHk:H (i+1)=H i/\T (i+1)=T i:=by
     generalize H (i+1)=H1 at bW;generalize T (i+1)=T1 at bW;cases bW with
     |run hw hb hs=>
      have hs:dA (.aI (.c (.bool false))) (val (T i)) (H i)=some (_,_):=hs;simp only[dA]at hs;cases hs;exact⟨rfl,rfl⟩
     |skip hw=>exact absurd trivial hw
    have XC:dD P {dst:=some t,k:=.box (.c z),gd:=none,q:=true} (T i) (H i) (put (T i) (some t) (.ptr (H i).length 0)) (H i++[.cells z.cells true false]):=by
     refine dD.run (v:=.ptr (H i).length 0) trivial trivial ?_;exact X9 (show(val (T i) (.c z)).cells.all AV.one=true from Yw.2 λy hy=>Cz (Yw.1 p.zc y hy))
    refine fB ho Q2 SC.gv SC (hTn i Om) (λu hu=>?_) XC ro _ Q ?_
    ·have hnp:∀k s z n x,¬cD ops l0 k s u z n x:=λk' s' z' n' x' p'=>by
      have e:=hpt ho hu _ _ _ _ _ p';exact(U _ _ _ _ _ _ _ _ _ _ _ _ p p').2.2.2 e
     rw[XN u hnp];exact hslot β θ' M' (aan RW) u hu hnp
    ·intro cv v m' w' Se Sy hr' Re;have hv:v=.ptr (H i).length 0:=by
      rw[Ro]at Se;have:=Yx (λl:TS=>l[t]?) Se;simp only[put]at this;rw[Yd TV,Yd TV]at this;exact(YU this).symm
     subst hv;obtain⟨e,he,SQ⟩:=Sy;obtain⟨cc,el,fz,Rk,Rx,T3,hb4,hb5⟩:=hr'.dU _ e _ he (by rw[X6 (X8 _),YY];rfl);obtain⟨hown,hex⟩:=hb5 (.inl rfl);have hex:=hex rfl;obtain⟨_,hnew⟩:=Re.new _ e (X8 _) he;have hfar:w1.heap.size<=e.cb:=by
      rcases hnew with hnew|⟨b0,e0,c1,_,_,c4,c5⟩
      ·exact hnew
      ·have:=SC.cN b0 e0 c1;unfold eD at c4 c5;rw[XW this]at c5;rw[c5]at c4;cases c4
     rw[YJ]at SQ;have Ue:=SC.forget hr' Re;have Tx:=Re.forget;have M2:=M'.next hG SH RW RU hio (m1:=m'.dI (H i).length) (w1:=w') (by rw[hHk.1];exact Ue) (by rw[hHk.1];exact Tx) (v:=.bool false) (cv:=.bool false) rfl (by rw[hHk.2];rfl) (hTl i Om) (huniq i _ hio);have hin2:∀b e',((m'.dI (H i).length).patch m1 (H (i+1)).length) b=some e'->m1 b=some e':=λb e' h=>by
      unfold cp.patch at h;split at h
      ·have hbl:b<(H i).length:=by
        unfold cp.dI at h;split at h
        ·assumption
        ·cases h
       rw[Tx.ext b hbl]at h;exact cp.fh _ _ _ _ h
      ·exact h
     have hp2:∀zc c,kH m1 w w1 zc c->kH ((m'.dI (H i).length).patch m1 (H (i+1)).length) w w' zc c:=λzc c q=>q.move
      (λUY d' _ hlt h7=>Re.frame UY hlt λb e' h _=>h7 b e' (cp.fh _ _ _ _ h)) (λUY d' _ hlt h7 b e' h=>h7 b e' (hin2 b e' h))
     have Xq:(a1.put o.dst cv).tmps=gR a1.tmps (some t) cv:=by rw[Ro];rfl
     refine hih _ _ _ _ (a1.put o.dst cv) w' M2 ?_ (put_defers ..);rw[Xq];show pK ops l0 w _ (gR ta Hc.dst _) _ _ _;refine I.make U p (by rw[hTn i Om];exact TV) hss ?_ (λUY d' h=>?_) hp2
     ·refine⟨e.cb,e.d,cc,el,fz,SQ,Rk,Om,(hb4 hown).2,λj y hy=>?_,YI M.grow.size hfar,λb e' h=>?_⟩
      ·obtain⟨h1,v,h2,h3⟩:=T3 j y hy;exact⟨h1,v,h2,Ez (Yw.1 p.zc y (YO hy)) h3⟩
      ·have:=M.hr.lt b e' (hin2 b e' h);omega
     ·rw[SQ]at h;cases h;exact hfar
   ·
    rw[ho]at ho';cases ho';obtain⟨XJ,hioq⟩:=dy Q2;have hnp:∀t,t∈o.looksAt ops->∀k s z n x,¬cD ops l0 k s t z n x:=λt ht k s z n x p=>by
     have:=hpt ho ht k s z n x p;subst this;exact n1 _ _ _ _ _ p
    have SL:∀k s t z n x,cD ops l0 k s t z n x->io.dst≠some t:=λk s t z n x p hx=>by
     obtain⟨ok,h1,h2,_⟩:=Xr p;have e:=hdU _ _ _ _ _ h1 ho h2 (by rw[<-XJ];exact hx);subst e;exact n2 _ _ _ _ _ p
    have QR:∀(β' θ':Nat),sJ P l T H m w (λj=>listed.getD j false) β' θ' m1 ta w1->β'<=i->i<=θ'->
      (∀cv v m' w',T (i+1)=put (T i) io.dst v->VR m' v cv->HR P m' (H (i+1)) w'->Grow (m1.dI (H i).length) (H i) w1 m' (H (i+1)) w'->∃β2 WD m2,sJ P l T H m w (mark (λj=>listed.getD j false) i) β2 WD m2 (gR ta io.dst cv) w'/\∀zc c,kH m1 w w1 zc c->kH m2 w w' zc c)->
      wpOpIn (Fd ro) 0 P ops Q i (wpAnyIn (Fd ro) 0 P .any ops Q fuel (listed.setIfInBounds i true)) a1 w1:=by
     intro β' θ' M' hb' hi' Uz;have SC:=M'.cut hG hb' hi';refine fB ho Q2 SC.gv SC (hTn i Om) (λt ht=>?_) bW ro _ Q ?_
     ·rw[XN t (hnp t ht)];exact hslot β' θ' M' hi' t ht (hnp t ht)
     ·intro cv v m' w' Se Sy hr' Re;obtain⟨β2,WD,m2,M2,hp2⟩:=Uz cv v m' w' (by rw[XJ];exact Se) Sy hr' Re;have:(a1.put o.dst cv).tmps=gR a1.tmps io.dst cv:=by rw[XJ];cases o.dst<;>rfl
      exact hih β2 WD m2 _ _ w' M2 (by rw[this];exact I.other n1 n2 SL hp2) (put_defers ..)
    by_cases Tb:io.q=true
    ·obtain⟨θ',RW,M'⟩:=Tq Tb;exact QR β θ' M' SH Om λcv v m' w' Se Sy hr' Re=>⟨β,θ',_,M'.next hG SH RW RU hio hr' Re Sy Se (hTl i Om) (huniq i io hio),λzc c q=>(q.grow Re).2⟩
    ·have hbar:gM (Region.before ops) ops.size i=true:=by
      rw[hioq]at Tb
      simpa using Tb
     have hall:∀j,j<i->listed.getD j false=true:=λj hj=>hahead j Om ((oD hbar (show j<ops.size by omega) Om).1 hj)
     by_cases RW:i<θ
     ·exact QR β θ M SH Om λcv v m' w' Se Sy hr' Re=>⟨β,θ,_,M.next hG SH RW RU hio hr' Re Sy Se (hTl i Om) (huniq i io hio),λzc c q=>(q.grow Re).2⟩
     ·have hθi:θ=i:=by
       by_cases hz:i=0
       ·omega
       ·have:=M.high (i-1) (hall _ Om);omega
      subst hθi;exact QR β θ M SH (X8 _) λcv v m' w' Se Sy hr' Re=>⟨θ+1,θ+1,m',M.jump st.hr.cN hall Om hio hr' Re Sy Se (hTl θ Om) (huniq θ io hio),λzc c q=>(q.grow Re).1⟩
 have QX:∀j,(Array.replicate ops.size false).getD j false=false:=λj=>by
  exact Mo
 refine key ops.size (Array.replicate ops.size false) 0 0 m a.tmps a _ Si ?_ (λj x hj _ _=>by simp[QX j]at hj) ?_ ?_ rfl
 ·exact z24
 ·refine⟨X8 _,Yt _,λj hj=>absurd hj Om,λj hj=>by simp[QX j]at hj,λj _ hj=>absurd hj Om,λj hj=>absurd hj Om,st.hr.drew,λj hj=>absurd hj Om,?_,λj _ hj=>absurd hj Om,
   (Grow.refl m _ w st.hr.cN).drew,?_,?_,?_⟩
  ·intro i hi hi' b e k hb RS hk;have:i=0:=Om
   subst this;exact(st.hr.dU b e k RS hk).iY st.hr.cN
  ·exact Db
  ·intro d _;exact nO st.ts d
  ·intro d j o _ hj _;simp only[QX j]at hj;cases hj
 ·exact⟨rfl,λ_ _=>rfl,λk s t z n x p hk=>by simp[QX k]at hk,λk s t z n x k' s' t' z' n' x' p p' hk=>by simp[QX k]at hk⟩
def G4{k}(hk:fA k=true){ρ h h' v}(hs:mM k ρ h v h'):h' =h/\∀g,mM k ρ g v g:=by
 cases k<;>first
  |(cases hk;done)
  |skip
 case conv c x=>
  cases c<;>first
   |(cases hk;done)
   |skip
  have hs:dA _ _ _=some (_,_):=hs;simp only[dA,j8]at hs;split at hs
  ·rename_i k n hx;cases hs;refine⟨rfl,λg=>?_⟩;show dA _ _ _=some (_,_);simp only[dA,j8,hx]
  ·cases hs
 case len lk x=>
  have e:lk≠.mp->∀g,zN lk g (ρ x)=zN lk h (ρ x):=λhl g=>by
   cases lk<;>first|exact absurd rfl hl|skip
   all_goals
    cases ρ x<;>first|rfl|(simp only[zN,reduceCtorEq,Yb];repeat' split)<;>rfl
  have hl:lk≠.mp:=λe=>by rw[e]at hk;cases hk
  have hs:dA _ _ _=some (_,_):=hs;simp only[dA]at hs;split at hs
  ·rename_i n hn;cases hs;refine⟨rfl,λg=>?_⟩;show dA _ _ _=some (_,_);simp only[dA,e hl g,hn]
  ·cases hs
 all_goals
  have hs:dA _ _ _=some (_,_):=hs;simp only[dA]at hs
  repeat' split at hs
  all_goals first
   |(cases hs;done)
   |(cases hs
     refine⟨rfl,λg=>?_⟩;show dA _ _ _=some (_,_);simp only[dA, *]
     done)
   |(cases hs
     refine⟨rfl,λg=>?_⟩;show dA _ _ _=some (_,_);simp[dA, *]
     done)
def xJ{P o}(hk:fA o.k=true){ts ts' h h'}(hs:dD P o ts h ts' h'):h' =h/\∀g,dD P o ts g ts' g:=by
 cases hs with
 | @run v h' hw hb hs=>
  have QQ:mM o.k (val ts) h v h':=by
   cases SM:o.k<;>rw[SM]at hs hk<;>first|exact hs|(cases hk;done)
  obtain⟨rfl,h2⟩:=G4 hk QQ;refine⟨rfl,λg=>.run hw hb ?_⟩;have:=h2 g;cases SM:o.k<;>rw[SM]at this hk<;>first|exact this|(cases hk;done)
 |skip hw=>exact⟨rfl,λg=>.skip hw⟩
def xG{P o}(hk:cG o.k=true){ts ts' h h'}(hs:dD P o ts h ts' h'):h' =h:=by
 by_cases hp:fA o.k=true
 ·exact(xJ hp hs).1
 ·cases SM:o.k with
  |load n a=>
   cases hs with
   |run hw hb hs=>
    rw[SM]at hs;have hs:dA (.load n a) _ _=some (_,_):=hs;simp only[dA]at hs
    repeat' split at hs
    all_goals first
     |(cases hs;done)
     |(cases hs;rfl)
   |skip hw=>rfl
  |_=>rw[SM]at hk hp;exact absurd hk hp
def E4{P o}(hk:kF o=true){ts ts' h h'}(hs:dD P o ts h ts' h')(hq:o.q=true->∃g,h' =h++g):∃g,h' =h++g:=by
 by_cases hqq:o.q=true
 ·exact hq hqq
 have hk:CP o.k=true:=by
  have:o.q=false:=by simpa using hqq
  simpa [kF,this]using hk
 cases hs with
 |run hw hb hs=>
  cases SM:o.k<;>rw[SM]at hk hs<;>first|(cases hk;done)|skip
  case aF es n z ps=>
   have hs:mM (.aF es n z ps) _ _ _ _:=hs;obtain⟨c,mu,tl,_,_,_,_,e⟩:=hs;exact⟨_,e⟩
  all_goals
   have hs:dA _ _ _=some (_,_):=hs;simp only[dA]at hs
   repeat' split at hs
   all_goals first
    |(cases hs;done)
    |(cases hs;exact⟨_,rfl⟩)
 |skip hw=>exact⟨[],Si⟩
def B6{P o n a}(hk:o.k=.load n a){ts ts' h}(hs:dD P o ts h ts' h)(g:ah):dD P o ts (h++g) ts' (h++g):=by
 generalize hh:h=h2 at hs;cases hs with
 | @run v _ hw hb hs=>
  subst hh;refine .run hw (by rw[hk];trivial) ?_;rw[hk]at hs ⊢;have hs:dA (.load n a) (val ts) h=some (v,h):=hs;show dA (.load n a) (val ts) (h++g)=some (v,h++g);simp only[dA]at hs ⊢;cases hv:val ts a with
  |ptr b off=>
   rw[hv]at hs;simp only at hs ⊢;cases Rx:h[b]? with
   |none=>rw[Rx]at hs;cases hs
   |some k=>
    rw[XW (XT.1 Rx).1,Rx];rw[Rx]at hs;cases k with
    |cells c mu tl=>
     simp only at hs ⊢;cases n with
     |none=>
      simp only at hs ⊢;cases hc:c[off]? with
      |none=>rw[hc]at hs;cases hs
      |some x=>rw[hc]at hs;cases hs;rfl
     |some n=>
      simp only at hs ⊢;by_cases hlt:off+n<=c.length
      ·rw[X9 hlt]at hs ⊢;cases hs;rfl
      ·rw[X5 hlt]at hs;cases hs
    |_=>cases hs
  |_=>rw[hv]at hs;cases hs
 |skip hw=>subst hh;exact .skip hw
def HR.BM{P m h w}(hr:HR P m h w)(g:ah):HR P m (h++g) w where
 cN:=λb e hb=>by have:=hr.cN b e hb;simp;omega
 dU:=λb e k hb hk=>hr.dU b e k hb (by rwa [XW (hr.cN b e hb)]at hk)
 sep:=λb1 b2 e1 e2 k1 k2 hne h1 h2 hk1 QS hcb=>hr.sep b1 b2 e1 e2 k1 k2 hne h1 h2 (by rwa [XW (hr.cN b1 e1 h1)]at hk1) (by rwa [XW (hr.cN b2 e2 h2)]at QS) hcb
 fZ:=hr.fZ
 lt:=hr.lt
def HR.Hj{P m h g w}(hr:HR P m (h++g) w)(hd:∀b e,m b=some e->b<h.length):HR P m h w where
 cN:=hd
 dU:=λb e k hb hk=>hr.dU b e k hb (by rw[XW (hd b e hb)];exact hk)
 sep:=λb1 b2 e1 e2 k1 k2 hne h1 h2 hk1 QS hcb=>hr.sep b1 b2 e1 e2 k1 k2 hne h1 h2 (by rw[XW (hd b1 e1 h1)];exact hk1) (by rw[XW (hd b2 e2 h2)];exact QS) hcb
 fZ:=hr.fZ
 lt:=hr.lt
def jn{M l}(h:nX M l=true){i j x y}(hij:i<j)(hx:l[i]? =some x)(hy:l[j]? =some y)(px:fA x.k=false)(py:fA y.k=false)(lx:mI x=false)(ly:mI y=false)
  (hr:(cG x.k=false/\cG y.k=false)\/(cG x.k=false/\kF x=false)\/(cG y.k=false/\kF y=false)):ahead M i j=true:=by
 have hj:j<l.length:=(XT.1 hy).1;unfold nX at h;rw[Yw]at h;have h1:=h j (Y9.2 hj);rw[Yw]at h1;have h2:=h1 i (Y9.2 hij);rw[hx,hy]at h2;simp only[px,py,lx,ly,Z6]at h2;rcases hr with⟨a,b⟩|⟨a,b⟩|⟨a,b⟩<;>simpa [a,b]using h2
theorem yO:∀{l}{i}{o},l[i]? =some o->B7 o=false->i<dK l
 |[],i,o,h,_=>by simp at h
 |x::r,i,o,h,hk=>by
  have hn:¬ko (x::r)=true:=λhall=>by
   have:=Yw.1 (Bool.and_eq_true_iff.1 hall).1 o (YO h);rw[hk]at this;cases this
  rw[dK,X5 hn];cases i with
  |zero=>omega
  |succ i=>have:=yO (l:=r) (i:=i) (by simpa using h) hk;omega
def p7{M l}(h:ng M l=true){i j x y}(hx:l[i]? =some x)(lx:mI x=true)(hy:l[j]? =some y)(ky:cG y.k=false)(hj:dK l<=j):ahead M i j=true:=by
 unfold ng at h;rw[Yw]at h;have h1:=h i (Y9.2 (XT.1 hx).1);rw[hx]at h1;simp only[lx,Yk,Z6,Yw,Y9]at h1;have h2:=h1 j (XT.1 hy).1;rw[hy]at h2;have VE:¬j<dK l:=Om
 simpa [ky,VE]using h2
def rh{P cq}(hmix:P.follows .mixedOrders=true){ops l}(hed:kv (Region.before ops) ops=true)(hsl:lX (Region.before ops) ops=true)
  (hc:eO (λ_ o=>bU P ops (sj cq o) o) ops.toList 0=some l) (hmo:nX (Region.before ops) l=true) {T}{H}(hrow:Row P l T H) (hstab:∀(i:Nat) (io:bI),l[i]? =some io->mI io=true->∀θ,θ<=dK l->dD P io (T i) (H θ) (T (i+1)) (H θ)) (hlate:∀(i j:Nat) (x y:bI),l[i]? =some x->mI x=true->l[j]? =some y->cG y.k=false->dK l<=j->ahead (Region.before ops) i j=true) {m}{a}{w}
  (st:St P m (T 0) (H 0) a w) (ro:Option Nat) (Q:Exit->Act->World->Prop) (hQ:∀m' a' w',St P m' (T l.length) (H l.length) a' w'->Grow m (H 0) w m' (H l.length) w'->a'.defers=a.defers->Q .normal a' w') (id:Nat):
  (Code.region id ops true).wpIn (Fd ro) 0 P Q a w:=by
 refine wpIn_region_any hmix ?_;obtain⟨Q8,QY⟩:=gh hc;simp only[Z5]at Q8;have UQ:∀(j:Nat) (io:bI),l[j]? =some io->∃o,ops[j]? =some o/\bU P ops (sj cq o) o=some io:=λj io hj=>by
  exact MN
 have RY:∀(j:Nat) (io:bI) (d:Nat),l[j]? =some io->io.dst=some d->∃o,ops[j]? =some o/\o.dst=some d:=λj io d hj hd=>by
  exact z76
 have huniq:∀(i j:Nat) (oi oj:bI) (d:Nat),l[i]? =some oi->l[j]? =some oj->oi.dst=some d->oj.dst=some d->i=j:=λi j oi oj d hi hj h1 h2=>by
  exact MP
 have Sp:∀(j:Nat) (io:bI),l[j]? =some io->∃v,T (j+1)=put (T j) io.dst v:=λj io hj=>(hrow.step j io hj).1.put
 have hTl:∀j,j<=l.length->(T j).length=(T 0).length:=by
  intro j
  induction j with
  |zero=>intro _;rfl
  |succ j ih=>
   intro hj;exact MH
 have Q5:∀x y t,x<=y->y<=l.length->(∀(j:Nat) (o:bI),x<=j->j<y->l[j]? =some o->o.dst≠some t)->(T y).getD t az=(T x).getD t az:=by
  intro x y t hxy hy hno;exact PW
 have TG:∀(j:Nat) (io:bI),l[j]? =some io->cG io.k=true->H (j+1)=H j:=λj io hj hk=>xG hk (hrow.step j io hj).1
 have TH:∀x k,x+k<=l.length->(∀(j:Nat) (o:bI),x<=j->j<x+k->l[j]? =some o->cG o.k=true)->H (x+k)=H x:=by
  intro x k
  induction k with
  |zero=>intro _ _;rfl
  |succ k ih=>
   intro hk hno;exact PS
 have Wu:∀x k,x+k<=l.length->(∀(j:Nat) (o:bI),x<=j->j<x+k->l[j]? =some o->cG o.k=true\/kF o=true)->∃g,H (x+k)=H x++g:=by
  intro x k
  induction k with
  |zero=>intro _ _;exact⟨[],Si⟩
  |succ k ih=>
   intro hk hno;have hj:l[x+k]? =some (l[x+k]'Om):=XY Om;obtain⟨g,hg⟩:=ih Om λj o h1 h2 h3=>hno j o h1 Om h3
   rcases hno _ _ Om Om hj with h1|h1
   ·exact⟨g,by rw[show x+(k+1)=x+k+1 from by omega,TG _ _ hj h1,hg]⟩
   ·obtain⟨g2,UK⟩:=E4 h1 (hrow.step _ _ hj).1 (hrow.step _ _ hj).2;exact⟨g++g2,by rw[show x+(k+1)=x+k+1 from by omega,UK,hg,XV]⟩
 have T5:∀x y,x<=l.length->y<=l.length->(∀(j:Nat) (o:bI),l[j]? =some o->cG o.k=false->(j<x↔j<y))->H x=H y:=by
  intro x y hx hy hno;exact P1
 have hdone:∀(listed:Array Bool) (θ:Nat) (m1:cp) (a1:Act) (w1:World),(∀i,i<ops.size->listed.getD i false=true)->θ<=l.length->
   (∀(j:Nat) (o:bI),l[j]? =some o->cG o.k=false->(j<θ↔listed.getD j false=true))->HR P m1 (H θ) w1->Grow m (H 0) w m1 (H θ) w1->a1.tmps.size=(T 0).length->
   (∀(d:Nat),(∀(j:Nat) (o:bI),l[j]? =some o->listed.getD j false=true->o.dst≠some d)->VR m1 ((T 0).getD d az) (a1.tmps.getD d undef))->
   (∀(d j:Nat) (o:bI),l[j]? =some o->listed.getD j false=true->o.dst=some d->VR m1 ((T (j+1)).getD d az) (a1.tmps.getD d undef))->a1.defers=a.defers->Q .normal a1 w1:=by
  intro listed θ m1 a1 w1 hall hθ hS hr hg eC h1 h2 hd;have e:=T5 θ l.length hθ (X8 _) λj o hj hk=>by
   have Ta:=(XT.1 hj).1;have:=(hS j o hj hk).2 (hall j Om);omega
  rw[e]at hr hg;refine hQ m1 a1 w1 ⟨hr,cL.gZ ?_ ?_⟩ hg hd
  ·exact GB
  ·intro t x hx;exact P6
 have key:∀(fuel:Nat) (listed:Array Bool) (θ:Nat) (m1:cp) (a1:Act) (w1:World),listed.size=ops.size->qP listed ops.size<=fuel->
   (∀j x,listed.getD j false=true->x<ops.size->ahead (Region.before ops) x j=true->listed.getD x false=true)->θ<=l.length->(θ<=dK l\/∃(j:Nat) (o:bI),l[j]? =some o/\cG o.k=false/\dK l<=j/\j<θ)->
   (∀(j:Nat) (o:bI),l[j]? =some o->cG o.k=false->(j<θ↔listed.getD j false=true))->HR P m1 (H θ) w1->Grow m (H 0) w m1 (H θ) w1->a1.tmps.size=(T 0).length->
   (∀(d:Nat),(∀(j:Nat) (o:bI),l[j]? =some o->listed.getD j false=true->o.dst≠some d)->VR m1 ((T 0).getD d az) (a1.tmps.getD d undef))->
   (∀(d j:Nat) (o:bI),l[j]? =some o->listed.getD j false=true->o.dst=some d->VR m1 ((T (j+1)).getD d az) (a1.tmps.getD d undef))->a1.defers=a.defers->wpAnyIn (Fd ro) 0 P .any ops Q fuel listed a1 w1:=by
  intro fuel
  induction fuel with
  |zero=>
   intro listed θ m1 a1 w1 Q6 hu hcl hθ hL hS hr hg eC h1 h2 hd;have hall:=lq ops.size (show qP listed ops.size=0 by omega);exact⟨mg Q6 hall,hdone listed θ m1 a1 w1 hall hθ hS hr hg eC h1 h2 hd⟩
  |succ fuel ih=>
   intro listed θ m1 a1 w1 Q6 hu hcl hθ hL hS hr hg eC h1 h2 hd;refine⟨λhrn=>hdone listed θ m1 a1 w1 (l9 hed Q6 hrn) hθ hS hr hg eC h1 h2 hd,λi hi=>?_⟩;obtain⟨o,ho,RU,VG⟩:=(je Q6).1 hi;have hin:i<ops.size:=(Ye.1 ho).1;obtain⟨io,hio,Q2⟩:=QY i o (by simpa using ho);obtain⟨bW,_⟩:=hrow.step i io hio;have hahead:∀x,x<ops.size->ahead (Region.before ops) x i=true->listed.getD x false=true:=λx hx ha=>by
    exact Mu
   have SR:∀j x,(listed.setIfInBounds i true).getD j false=true->x<ops.size->ahead (Region.before ops) x j=true->(listed.setIfInBounds i true).getD x false=true:=by
    intro j x hj hx ha;exact z40
   have Ut:qP (listed.setIfInBounds i true) ops.size<=fuel:=by
    exact z80
   have hslot:∀t,t∈o.looksAt ops->VR m1 ((T i).getD t az) (a1.tmps.getD t undef):=by
    intro t ht;exact z12
   have hrp:∀{k:o6},cG k=false->fA k=false:=λ{k} hk=>by
    cases k<;>first|exact hk|(cases hk;done)
   have hld:∀{o:bI},cG o.k=false->mI o=false:=λ{o} hk=>by
    exact z160
   have hne:∀j,j≠i->(listed.setIfInBounds i true).getD j false=listed.getD j false:=λj hj=>by rw[da Om,X5 hj]
   have Vs:cG io.k=true->∀(j:Nat) (o:bI),l[j]? =some o->cG o.k=false->(j<θ↔(listed.setIfInBounds i true).getD j false=true):=λR7 j oj hj hk=>by
    have hji:j≠i:=λe=>by
     subst e;rw[hio]at hj;cases hj;rw[R7]at hk;cases hk
    rw[hne j hji];exact hS j oj hj hk
   have Rw:∃θ',θ'<=l.length/\(θ'<=dK l\/∃(j:Nat) (o:bI),l[j]? =some o/\cG o.k=false/\dK l<=j/\j<θ')/\(∀(j:Nat) (o:bI),l[j]? =some o->cG o.k=false->(j<θ'↔(listed.setIfInBounds i true).getD j false=true))/\∃hb h2,HR P m1 hb w1/\dD P io (T i) hb (T (i+1)) h2/\
     ∀m' w',HR P m' h2 w'->Grow m1 hb w1 m' h2 w'->HR P m' (H θ') w'/\Grow m1 (H θ) w1 m' (H θ') w':=by
    by_cases hp:fA io.k=true
    ·have R7:cG io.k=true:=by cases SM:io.k<;>rw[SM]at hp<;>first|exact hp|(cases hp;done)
     exact⟨θ,hθ,hL,Vs R7,H θ,H θ,hr,(xJ hp bW).2 _,λm' w' a b=>⟨a,b⟩⟩
    ·have Wf:fA io.k=false:=by simpa using hp
     by_cases Uc:mI io=true
     ·have R7:cG io.k=true:=by
       cases SM:io.k<;>simp[mI,SM]at Uc<;>rfl
      have hθc:θ<=dK l:=by
       rcases hL with h|⟨j,oj,h1,h2,h3,h4⟩
       ·exact h
       ·have e:=hcl j i ((hS j oj h1 h2).1 h4) hin (hlate i j io oj hio Uc h1 h2 h3);rw[RU]at e;cases e
      exact⟨θ,hθ,hL,Vs R7,H θ,H θ,hr,hstab i io hio Uc θ hθc,λm' w' a b=>⟨a,b⟩⟩
     have Uc:mI io=false:=by simpa using Uc
     by_cases R7:cG io.k=true
     ·obtain⟨n,ad,SM⟩:∃n ad,io.k=.load n ad:=by
       cases SM:io.k with
       |load n ad=>exact⟨n,ad,rfl⟩
       |_=>rw[SM]at R7 hp;exact absurd R7 hp
      have hHh:∀(j:Nat) (o:bI),l[j]? =some o->cG o.k=false->kF o=false->(j<θ↔j<i):=λj oj hj hk QS=>by
       have Ta:=(XT.1 hj).1;constructor
       ·intro UH;have SN:=(hS j oj hj hk).1 UH;by_cases e1:j=i
        ·exact Gx
        ·by_cases e2:j<i
         ·exact e2
         ·have e3:=jn hmo (show i<j by omega) hio hj Wf (hrp hk) Uc (hld hk) (.inr (.inr ⟨hk,QS⟩));have e4:=hcl j i SN hin e3;rw[RU]at e4;cases e4
       ·intro hji;exact(hS j oj hj hk).2 (hahead j Om (jn hmo hji hj hio (hrp hk) Wf (hld hk) Uc (.inr (.inl ⟨hk,QS⟩))))
      have Tp:dD P io (T i) (H i) (T (i+1)) (H i):=by
       have e:=xG R7 bW;rw[e]at bW;exact bW
      by_cases RW:i<=θ
      ·obtain⟨g,UK⟩:=Wu i (θ-i) Om λj oj h1 h2 h3=>by
        exact PD
       rw[show i+(θ-i)=θ from by omega]at UK;refine⟨θ,hθ,hL,Vs R7,H θ,H θ,hr,?_,λm' w' a b=>⟨a,b⟩⟩;rw[UK];exact B6 SM Tp g
      ·obtain⟨g,UK⟩:=Wu θ (i-θ) Om λj oj h1 h2 h3=>by
        exact PD
       rw[show θ+(i-θ)=i from by omega]at UK;rw[UK]at Tp;refine⟨θ,hθ,hL,Vs R7,H θ++g,H θ++g,hr.BM g,Tp,λm' w' a b=>?_⟩;have hm:m' =m1:=by
        funext z;by_cases hz:z<(H θ++g).length
        ·exact b.ext z hz
        ·have e1:m1 z=none:=by
          cases hx:m1 z with
          |none=>rfl
          |some e=>exact absurd ((hr.BM g).cN z e hx) hz
         have e2:m' z=none:=by
          cases hx:m' z with
          |none=>rfl
          |some e=>exact absurd (a.cN z e hx) hz
         rw[e1,e2]
       subst hm;exact⟨a.Hj hr.cN,⟨λ_ _=>rfl,X8 _,λz e hz hmz=>absurd (hr.cN z e hmz) Om,λ_ _ x=>x,b.size,b.os,b.out,b.tape,b.frame⟩⟩
     ·have Sh:cG io.k=false:=by simpa using R7
      have hHi:H θ=H i:=T5 θ i hθ Om λj oj hj hk=>by
       have Ta:=(XT.1 hj).1;constructor
       ·intro UH;have SN:=(hS j oj hj hk).1 UH;by_cases e1:j=i
        ·exact Gx
        ·by_cases e2:j<i
         ·exact e2
         ·exact JX
       ·intro hji;exact(hS j oj hj hk).2 (hahead j Om (jn hmo hji hj hio (hrp hk) Wf (hld hk) Uc (.inl ⟨hk,Sh⟩)))
      refine⟨i+1,Om,(by by_cases hc:i+1<=dK l;exact .inl hc;exact .inr ⟨i,io,hio,Sh,Om,Om⟩),λj oj hj hk=>?_,H θ,H (i+1),hr,by rw[hHi];exact bW,λm' w' a b=>⟨a,b⟩⟩;have Ta:=(XT.1 hj).1;by_cases e1:j=i
      ·subst e1;rw[da Om,X9 rfl];exact⟨λ_=>rfl,λ_=>by omega⟩
      ·rw[hne j e1];constructor
       ·intro hji;exact hahead j Om (jn hmo (show j<i by omega) hj hio (hrp hk) Wf (hld hk) Uc (.inl ⟨hk,Sh⟩))
       ·intro SN;by_cases e2:j<i
        ·omega
        ·exact JX
   obtain⟨θ',Xg,Vi,hS',hb,h2',Vt,Tp,So⟩:=Rw;refine fB ho Q2 Vt.gv Vt (by rw[eC,hTl i Om]) hslot Tp ro _ Q ?_;intro cv v' m' w' Se Sy hrx hgx;obtain⟨hr',Re⟩:=So m' w' hrx hgx;have Rl:io.dst=o.dst:=(dy Q2).1;have Tm:=Re.le hr.cN;have hlt:(listed.setIfInBounds i true).getD i false=true:=by rw[da Om,X9 rfl]
   have TU:(a1.put o.dst cv).tmps=gR a1.tmps o.dst cv:=by cases o.dst<;>rfl
   refine ih _ θ' m' (a1.put o.dst cv) w' (by simp[Q6]) Ut SR Xg Vi hS' hr' (hg.trans Re st.hr.cN) (by rw[TU,e8];exact eC) ?_ ?_ (by rw[put_defers];exact hd)
   ·intro d hdn;have SL:o.dst≠some d:=by rw[<-Rl];exact hdn i io hio hlt
    rw[TU,dE SL];refine VR.mono Tm _ _ (h1 d λj oj hj hl=>hdn j oj hj ?_);exact Mn
   ·intro d j oj hj hl TA;by_cases e1:j=i
    ·subst e1;rw[hio]at hj;cases hj;rw[Se,TU,<-Rl,TA];exact lC (by rw[eC,hTl j Om]) Sy
    ·have SL:o.dst≠some d:=λhx=>by
      exact z124
     rw[TU,dE SL];rw[hne j e1]at hl;exact VR.mono Tm _ _ (h2 d j oj hj hl TA)
 have QX:∀j,(Array.replicate ops.size false).getD j false=false:=λj=>by
  exact Mo
 refine key ops.size (Array.replicate ops.size false) 0 m a _ Si ?_ (λj x hj _ _=>by simp[QX j]at hj) (Yt _) (.inl (Yt _)) (λj oj hj hk=>⟨λhx=>absurd hx Om,λhx=>by simp[QX j]at hx⟩) st.hr.drew (Grow.refl m _ w st.hr.cN).drew ?_ (λd _=>nO st.ts d) (λd j o _ hj _=>by simp[QX j]at hj) rfl
 ·exact z24
 ·exact Db
section
variable {P:Program}{m m':cp}{h h':ah}{w w':World}
def vm{ops i o}(ho:ops[i]? =some o){q io}(hc:bU P ops q o=some io)(hgd0:io.gd=none){ts a v}
  (hg:GV P m) (hr:HR P m h w) (ht:∀t,t∈o.looksAt ops->VR m (ts.getD t az) (a.tmps.getD t undef)) (hs:pL P io.k (val ts) h v h') (ro:Option Nat) (K:Act->World->Prop) (Q:Exit->Act->World->Prop)
  (hn:∀cv m' w',VR m' v cv->HR P m' h' w'->Grow m h w m' h' w'->K (a.put o.dst cv) w'):wpOpIn (Fd ro) 0 P ops Q i K a w:=by
 unfold bU at hc;split at hc
 case h_2=>cases hc
 rename_i g Ud;cases hc;have hg0:g=none:=hgd0;subst hg0;have hw:=qN (m:=m) (ts:=ts) (a:=a) Ud (λt b T2=>by cases T2);unfold wpOpIn;rw[ho];simp only;rw[X9 (hw.2 trivial)];simp only at hs;split at hs
 case isFalse=>exact absurd hs oE
 rename_i XE;cases hk:ee P o with
 |none=>rw[hk]at hs;exact absurd hs oE
 |some k=>
  rw[hk]at hs;refine vk hk (λx hx x' QV=>?_) (λz=>rfl) hr hs ro K Q (λcv m' w' h1 h2 h3=>hn cv m' w' h1 h2 h3);exact PO
def Al{n x}(h:xX x=true):iY n x:=by
 cases x<;>first
  |(cases h;done)
  |skip
 case bool b=>exact⟨λ_=>none,_,(λ_ _ z=>by cases z),rfl⟩
 case int k b=>exact⟨λ_=>none,_,(λ_ _ z=>by cases z),rfl⟩
 case wG k b=>exact⟨λ_=>none,.float k b,(λ_ _ z=>by cases z),⟨b,rfl,.inl rfl⟩⟩
 case wm k a b=>exact⟨λ_=>none,.complex k a b,(λ_ _ z=>by cases z),⟨a,b,rfl,.inl rfl,.inl rfl⟩⟩
 all_goals exact⟨λ_=>none,_,(λ_ _ z=>by cases z),rfl⟩
def xY{n x}(h:iY n x):∀y∈x.cells,iY n y:=by
 obtain⟨ma,va,h1,h2⟩:=h;intro y hy;obtain⟨i,hi,rfl⟩:=Z2 hy;obtain⟨v,_,hv⟩:=h2.cells.get (XY hi);exact⟨ma,v,h1,hv⟩
theorem uU:∀{l c}{o}{x},x∈fN c o l->x∈c\/x∈l
 |[],c,o,x,h=>.inl h
 |y::l,c,o,x,h=>by
  have h:x∈fN (c.set o y) (o+1) l:=h;rcases uU h with h|h
  ·rcases ZG h with h|h
   ·exact .inl h
   ·exact .inr (by rw[h];simp)
  ·exact .inr (YB _ h)
theorem rG{n}:∀{ps}{z c},(∀x∈z,iY n x)->(∀p∈ps,iY n p.2.2)->eM z ps=some c->∀x∈c,iY n x
 |[],z,c,hz,_,h,x,hx=>by cases h;exact hz x hx
 |(off,k,v)::r,z,c,hz,hp,h,x,hx=>by
  rw[eM]at h;split at h
  ·refine rG (λy hy=>?_) (λp hq=>hp p (YB _ hq)) h x hx;rcases uU hy with hy|hy
   ·exact hz y hy
   ·exact xY (hp (off,k,v) Si) y hy
  ·cases h
theorem uM:∀{n}{z}{x},x∈dP n z->x∈z
 | 0,z,x,h=>by simp[dP]at h
 |n+1,z,x,h=>by
  have h:x∈z++dP n z:=h;rcases X3.1 h with h|h
  ·exact h
  ·exact uM h
def BQ(gr:Grow m h w m' h' w')(hd:∀b e,m b=some e->b<h.length){e k}(hk:k.live=true)(hb:BR P m w e k)(hout:∀b e',m b=some e'->e'.cb≠e.cb):BR P m' w' e k/\∀b e',m' b=some e'->e'.cb≠e.cb:=by
 have hlt:=hb.lt hk;refine⟨(hb.heap (gr.frame e.cb hlt λb e' he _=>hout b e' he)).mono (gr.le hd),λb e' he=>?_⟩;by_cases hbl:b<h.length
 ·rw[gr.ext b hbl]at he;exact hout b e' he
 ·obtain⟨_,hc⟩:=gr.new b e' Om he;rcases hc with hc|⟨b0,e0,c1,c2,_⟩
  ·omega
  ·rw[<-c2];exact hout b0 e0 c1
def HR.ye(hr:HR P m h w){e k}(hk:k.live=true)(hb:BR P m w e k)(hout:∀b e',m b=some e'->e'.cb≠e.cb):HR P (m.add h.length e) (h++[k]) w:=by
 have RQ:m h.length=none:=by
  exact Ms
 have hle:m.le (m.add h.length e):=cp.rO _ RQ;have Q3:∀b e',(m.add h.length e) b=some e'->(b=h.length/\e' =e)\/(b<h.length/\m b=some e'):=λb e' Sd=>by
  exact PG
 refine⟨λb e' Sd=>?_,λb e' k' Sd hk'=>?_,λb1 b2 e1 e2 k1 k2 hne h1 h2 hk1 QS hcb=>?_,λg hg=>?_,λb e' Sd=>?_⟩
 ·rw[XS];rcases Q3 b e' Sd with⟨rfl,_⟩|⟨hlt,_⟩
  ·simp
  ·simp;omega
 ·rcases Q3 b e' Sd with⟨rfl,rfl⟩|⟨hlt,hm⟩
  ·rw[X6 (X8 _),YY]at hk';cases hk';exact hb.mono hle
  ·rw[XW hlt]at hk';exact(hr.dU b e' k' hm hk').mono hle
 ·exact PY
 ·obtain⟨e',he,hx⟩:=hr.fZ g hg;exact⟨e',hle _ _ he,hx⟩
 ·rcases Q3 b e' Sd with⟨_,rfl⟩|⟨_,hm⟩
  ·exact hb.lt hk
  ·exact hr.lt b e' hm
def Grow.ye{m0 h0 w0}(gr:Grow m0 h0 w0 m h w)(hd0:∀b e,m0 b=some e->b<h0.length)(hd:∀b e,m b=some e->b<h.length){e k}(ho:e.own=true)(hlt:w0.heap.size<=e.cb):Grow m0 h0 w0 (m.add h.length e) (h++[k]) w where
 ext:=λb hb=>by
  have:b≠h.length:=by have:=gr.len;omega
  show(if b=h.length then some e else m b)=_;rw[X5 this];exact gr.ext b hb
 len:=by rw[XS];have:=gr.len;omega
 new:=λb e' hb he=>by
  unfold cp.add at he;by_cases hx:b=h.length
  ·rw[X9 hx]at he;cases he;exact⟨ho,.inl hlt⟩
  ·rw[X5 hx]at he;obtain⟨h1,hc⟩:=gr.new b e' hb he;refine⟨h1,?_⟩;rcases hc with hc|⟨b0,e0,c1,c2,c3,c4,c5⟩
   ·exact .inl hc
   ·have:=hd0 _ _ c1;exact .inr ⟨b0,e0,c1,c2,c3,c4,by rw[fG (by have:=gr.len;omega)];exact c5⟩
 tl:=λb hb ht=>by
  rw[fG (by have:=gr.len;omega)]at ht;exact gr.tl b hb ht
 size:=gr.size
 os:=gr.os
 out:=gr.out
 tape:=gr.tape
 frame:=gr.frame
end
def pV{M l f}(h:rp M l f=true){i j x y}(hij:i<j)(hx:l[i]? =some x)(hy:l[j]? =some y)(px:fA x.k=false)(py:fA y.k=false)(lx:mI x=false)(ly:mI y=false)(hj:j≠f):ahead M i j=true:=by
 have Ta:j<l.length:=(XT.1 hy).1;unfold rp at h;rw[Yw]at h;have h1:=h j (Y9.2 Ta);rw[Yw]at h1;have h2:=h1 i (Y9.2 hij);rw[hx,hy]at h2
 simpa [px,py,lx,ly,hj]using h2
structure QL(ops:Array Oper)(l:List bI)(f df es n:Nat)(z:List AV)(ps:List (Nat×c6))(q:Bool):Prop where
 hf:l[f]? =some {dst:=some df,k:=.aF es n z ps,gd:=none,q:=q}
 hz:∀x∈z,xX x=true
 hp:∀p∈ps,∃u,p.2=.t u/\fE ops f u=true
 hr:∀j o,l[j]? =some o->cG o.k=true->(fA o.k=true\/mI o=true)/\fE ops j df=false
def xU{ops l f}(h:wa ops l f=true):∃df es n z ps q,QL ops l f df es n z ps q:=by
 unfold wa at h;split at h
 case h_2=>cases h
 rename_i d es n z ps q hf;simp only[Yv,Yw,Y9]at h;obtain⟨⟨h1,h2⟩,h3⟩:=h;refine⟨d,es,n,z,ps,q,hf,h1,λp hp=>?_,λj o hj hk=>?_⟩
 ·have:=h2 p hp;split at this
  ·rename_i u hu;exact⟨u,hu,this⟩
  ·cases this
 ·have:=h3 j (XT.1 hj).1;rw[hj]at this;simp only[hk,Yk,Z6,Yv,ZI,Zi]at this;exact this
structure kJ(P:Program)(l:List bI)(f df:Nat)(k:ak)(T:Nat->TS)(H:Nat->ah)(m:cp)(w:World)(listed:Array Bool)(θ:Nat)(m1:cp)(tm:Array Value)(w1:World):Prop where
 hθ:θ<=l.length
 hL:θ<=dK l\/∃(j:Nat) (o:bI),l[j]? =some o/\cG o.k=false/\j≠f/\dK l<=j/\j<θ
 hS:∀(j:Nat) (o:bI),l[j]? =some o->cG o.k=false->j≠f->(j<θ↔listed.getD j false=true)
 hf:f<θ->listed.getD f false=true
 hr:HR P m1 (H θ) w1
 hg:Grow m (H 0) w m1 (H θ) w1
 eC:tm.size=(T 0).length
 h1:∀(d:Nat),(∀(j:Nat) (o:bI),l[j]? =some o->listed.getD j false=true->o.dst≠some d)->VR m1 ((T 0).getD d az) (tm.getD d undef)
 h2:∀(d j:Nat) (o:bI),l[j]? =some o->listed.getD j false=true->o.dst=some d->(j=f->f<θ)->VR m1 ((T (j+1)).getD d az) (tm.getD d undef)
 pd:listed.getD f false=true->θ<=f->∃e:sK,BR P m1 w1 e k/\e.own=true/\w.heap.size<=e.cb/\(∀b e',m1 b=some e'->e'.cb≠e.cb)/\∀m':cp,m1.le m'->m' (H f).length=some e->VR m' ((T (f+1)).getD df az) (tm.getD df undef)
def xF{P cq f}(hmix:P.follows .mixedOrders=true){ops l}(hed:kv (Region.before ops) ops=true)(hsl:lX (Region.before ops) ops=true)
  (hc:eO (λ_ o=>bU P ops (sj cq o) o) ops.toList 0=some l) (hfo:wa ops l f=true) (hmo:rp (Region.before ops) l f=true) {T}{H}(hrow:Row P l T H) (hstab:∀(i:Nat) (io:bI),l[i]? =some io->mI io=true->∀θ,θ<=dK l->dD P io (T i) (H θ) (T (i+1)) (H θ)) (hlate:∀(i j:Nat) (x y:bI),l[i]? =some x->mI x=true->l[j]? =some y->cG y.k=false->dK l<=j->ahead (Region.before ops) i j=true) {m}{a}{w}
  (st:St P m (T 0) (H 0) a w) (ro:Option Nat) (Q:Exit->Act->World->Prop) (hQ:∀m' a' w',St P m' (T l.length) (H l.length) a' w'->Grow m (H 0) w m' (H l.length) w'->a'.defers=a.defers->Q .normal a' w') (id:Nat):
  (Code.region id ops true).wpIn (Fd ro) 0 P Q a w:=by
 obtain⟨df,es,n,zz,ps,qf,F⟩:=xU hfo;refine wpIn_region_any hmix ?_;obtain⟨Q8,QY⟩:=gh hc;simp only[Z5]at Q8;have UQ:∀(j:Nat) (io:bI),l[j]? =some io->∃o,ops[j]? =some o/\bU P ops (sj cq o) o=some io:=λj io hj=>by
  exact MN
 have RY:∀(j:Nat) (io:bI) (d:Nat),l[j]? =some io->io.dst=some d->∃o,ops[j]? =some o/\o.dst=some d:=λj io d hj hd=>by
  exact z76
 have huniq:∀(i j:Nat) (oi oj:bI) (d:Nat),l[i]? =some oi->l[j]? =some oj->oi.dst=some d->oj.dst=some d->i=j:=λi j oi oj d hi hj h1 h2=>by
  exact MP
 have Sp:∀(j:Nat) (io:bI),l[j]? =some io->∃v,T (j+1)=put (T j) io.dst v:=λj io hj=>(hrow.step j io hj).1.put
 have hTl:∀j,j<=l.length->(T j).length=(T 0).length:=by
  intro j
  induction j with
  |zero=>intro _;rfl
  |succ j ih=>
   intro hj;exact MH
 have Q5:∀x y t,x<=y->y<=l.length->(∀(j:Nat) (o:bI),x<=j->j<y->l[j]? =some o->o.dst≠some t)->(T y).getD t az=(T x).getD t az:=by
  intro x y t hxy hy hno;exact PW
 have TG:∀(j:Nat) (io:bI),l[j]? =some io->cG io.k=true->H (j+1)=H j:=λj io hj hk=>xG hk (hrow.step j io hj).1
 have TH:∀x k,x+k<=l.length->(∀(j:Nat) (o:bI),x<=j->j<x+k->l[j]? =some o->cG o.k=true)->H (x+k)=H x:=by
  intro x k
  induction k with
  |zero=>intro _ _;rfl
  |succ k ih=>
   intro hk hno;exact PS
 have T5:∀x y,x<=l.length->y<=l.length->(∀(j:Nat) (o:bI),l[j]? =some o->cG o.k=false->(j<x↔j<y))->H x=H y:=by
  intro x y hx hy hno;exact P1
 have Rn:f<l.length:=(XT.1 F.hf).1;obtain⟨cf,mu,tl,R5,hTf,hHf,hcf⟩:∃cf mu tl,eM (dP n zz) (ps.map λp=>(p.1,es,val (T f) p.2))=some cf/\T (f+1)=put (T f) (some df) (.slice (H f).length 0 n es)/\H (f+1)=H f++[.cells cf mu tl]/\∀g:ah,pL P (.aF es n zz ps) (val (T f)) g (.slice g.length 0 n es) (g++[.cells cf mu tl]):=by
  have Xm:=(hrow.step f _ F.hf).1;generalize hx:T (f+1)=tx at Xm;generalize hy:H (f+1)=hyy at Xm;cases Xm with
  |run hw hb hs=>
   have hs:mM (.aF es n zz ps) _ _ _ _:=hs;obtain⟨c,mu,tl,q1,q2,q3,rfl,rfl⟩:=hs;exact⟨c,mu,tl,q1,rfl,rfl,λg=>⟨c,mu,tl,q1,q2,q3,rfl,rfl⟩⟩
  |skip hw=>exact absurd trivial hw
 have Ve:(ak.cells cf mu tl).live=true:=rfl;have hrp:∀{k:o6},cG k=false->fA k=false:=λ{k} hk=>by
  cases k<;>first|exact hk|(cases hk;done)
 have hld:∀{o:bI},cG o.k=false->mI o=false:=λ{o} hk=>by
  exact z160
 have Wd:∀(listed:Array Bool) (θ:Nat) (m1:cp) (tm:Array Value) (w1:World),kJ P l f df (.cells cf mu tl) T H m w listed θ m1 tm w1->listed.getD f false=true->θ<=f->(∀(j:Nat) (o:bI),l[j]? =some o->cG o.k=false->j<f->listed.getD j false=true)->
   ∃m2,kJ P l f df (.cells cf mu tl) T H m w listed (f+1) m2 tm w1:=by
  intro listed θ m1 tm w1 I Xy Xf hall;have e:H θ=H f:=T5 θ f I.hθ Om λj oj hj hk=>by
   by_cases hjf:j=f
   ·subst hjf;omega
   ·constructor
    ·intro h;omega
    ·intro h;exact(I.hS j oj hj hk hjf).2 (hall j oj hj hk h)
  obtain⟨en,b1,b2,b3,b4,b5⟩:=I.pd Xy Xf;have hr:=I.hr;have hg:=I.hg;rw[e]at hr hg;have RQ:m1 (H f).length=none:=by
   cases hx:m1 (H f).length with
   |none=>rfl
   |some y=>exact absurd (hr.cN _ _ hx) Om
  have Tm:m1.le (m1.add (H f).length en):=cp.rO _ RQ;refine⟨m1.add (H f).length en,⟨Om,.inl (by have:=yO F.hf rfl;omega),λj oj hj hk hjf=>?_,λ_=>Xy,by rw[hHf];exact hr.ye Ve b1 b4,by rw[hHf];exact hg.ye st.hr.cN hr.cN b2 b3,I.eC,λd hd=>VR.mono Tm _ _ (I.h1 d hd),λd j oj hj hl hd _=>?_,λ_ hx=>absurd hx Om⟩⟩
  ·constructor
   ·intro h;exact hall j oj hj hk Om
   ·intro h;have:=(I.hS j oj hj hk hjf).2 h;omega
  ·by_cases hjf:j=f
   ·subst hjf;rw[F.hf]at hj;cases hj;cases hd;exact b5 _ Tm (by simp[cp.add])
   ·exact VR.mono Tm _ _ (I.h2 d j oj hj hl hd λz=>absurd z hjf)
 have So:∀(listed:Array Bool) (θ:Nat) (m1:cp) (a1:Act) (w1:World),(∀i,i<ops.size->listed.getD i false=true)->kJ P l f df (.cells cf mu tl) T H m w listed θ m1 a1.tmps w1->f<θ->a1.defers=a.defers->Q .normal a1 w1:=by
  intro listed θ m1 a1 w1 hall I hfθ hd;have e:=T5 θ l.length I.hθ (X8 _) λj o hj hk=>by
   have Ta:=(XT.1 hj).1;by_cases hjf:j=f
   ·subst hjf;omega
   ·have:=(I.hS j o hj hk hjf).2 (hall j Om);omega
  have hr:=I.hr;have hg:=I.hg;rw[e]at hr hg;have eC:=I.eC;refine hQ m1 a1 w1 ⟨hr,cL.gZ ?_ ?_⟩ hg hd
  ·exact GB
  ·intro t x hx;have hlt:=(XT.1 hx).1;have Rd:t<a1.tmps.size:=by have:=hTl l.length (X8 _);omega
   have ex:(T l.length).getD t az=x:=by simp[List.getD,hx]
   have ey:a1.tmps.getD t undef=a1.tmps[t]:=by simp[YH,YL Rd]
   refine⟨a1.tmps[t],Si,?_⟩;rw[<-ex,<-ey];by_cases hw:∃(j:Nat) (o:bI),l[j]? =some o/\o.dst=some t
   ·obtain⟨j,o,hj,ho⟩:=hw;have Ta:=(XT.1 hj).1;rw[Q5 (j+1) l.length t Om (X8 _) (λk o' a2 a3 a4 a5=>by have:=huniq j k o o' t hj a4 ho a5;omega)];exact I.h2 t j o hj (hall j Om) ho λ_=>hfθ
   ·rw[Q5 0 l.length t Om (X8 _) (λk o' _ _ h4 h5=>hw ⟨k,o',h4,h5⟩)];exact I.h1 t λj o hj _ ho=>hw ⟨j,o,hj,ho⟩
 have hdone:∀(listed:Array Bool) (θ:Nat) (m1:cp) (a1:Act) (w1:World),(∀i,i<ops.size->listed.getD i false=true)->kJ P l f df (.cells cf mu tl) T H m w listed θ m1 a1.tmps w1->a1.defers=a.defers->Q .normal a1 w1:=by
  intro listed θ m1 a1 w1 hall I hd;by_cases hfθ:f<θ
  ·exact So listed θ m1 a1 w1 hall I hfθ hd
  ·obtain⟨m2,I2⟩:=Wd listed θ m1 a1.tmps w1 I (hall f Om) Om λj o hj _ _=>hall j (by have:=(XT.1 hj).1;omega)
   exact So listed (f+1) m2 a1 w1 hall I2 Om hd
 have key:∀(fuel:Nat) (listed:Array Bool) (θ:Nat) (m1:cp) (a1:Act) (w1:World),listed.size=ops.size->qP listed ops.size<=fuel->
   (∀j x,listed.getD j false=true->x<ops.size->ahead (Region.before ops) x j=true->listed.getD x false=true)->kJ P l f df (.cells cf mu tl) T H m w listed θ m1 a1.tmps w1->a1.defers=a.defers->wpAnyIn (Fd ro) 0 P .any ops Q fuel listed a1 w1:=by
  intro fuel
  induction fuel with
  |zero=>
   intro listed θ m1 a1 w1 Q6 hu hcl I hd;have hall:=lq ops.size (show qP listed ops.size=0 by omega);exact⟨mg Q6 hall,hdone listed θ m1 a1 w1 hall I hd⟩
  |succ fuel ih=>
   intro listed θ m1 a1 w1 Q6 hu hcl I hd;refine⟨λhrn=>hdone listed θ m1 a1 w1 (l9 hed Q6 hrn) I hd,λi hi=>?_⟩;obtain⟨o,ho,RU,VG⟩:=(je Q6).1 hi;have hin:i<ops.size:=(Ye.1 ho).1;obtain⟨io,hio,Q2⟩:=QY i o (by simpa using ho);have Q2:bU P ops (sj cq o) o=some io:=Q2;obtain⟨bW,_⟩:=hrow.step i io hio;have hahead:∀x,x<ops.size->ahead (Region.before ops) x i=true->listed.getD x false=true:=λx hx ha=>by
    exact Mu
   have SR:∀j x,(listed.setIfInBounds i true).getD j false=true->x<ops.size->ahead (Region.before ops) x j=true->(listed.setIfInBounds i true).getD x false=true:=by
    intro j x hj hx ha;exact z40
   have Ut:qP (listed.setIfInBounds i true) ops.size<=fuel:=by
    exact z80
   have hne:∀j,j≠i->(listed.setIfInBounds i true).getD j false=listed.getD j false:=λj hj=>by rw[da Om,X5 hj]
   have hlt:(listed.setIfInBounds i true).getD i false=true:=by rw[da Om,X9 rfl]
   have Rl:io.dst=o.dst:=(dy Q2).1;have hslot:∀(θ:Nat) (m1:cp) (tm:Array Value) (w1:World),kJ P l f df (.cells cf mu tl) T H m w listed θ m1 tm w1->(listed.getD f false=true->θ<=f->i<f\/fE ops i df=false)->∀t,t∈o.looksAt ops->VR m1 ((T i).getD t az) (tm.getD t undef):=by
    intro θ m1 tm w1 I hnp t ht;by_cases hex:∃(x:Nat) (ox:bI),l[x]? =some ox/\listed.getD x false=true/\ox.dst=some t
    ·obtain⟨x,ox,hx,hxl,T9⟩:=hex;obtain⟨oo,Tr,Uo⟩:=RY x ox t hx T9;have hxi:x<i:=by
      by_cases e1:x=i
      ·subst e1;rw[RU]at hxl;cases hxl
      ·by_cases e2:x<i
       ·exact e2
       ·have e3:=(cR hsl (show i<x by omega) ho Tr).2 t Uo ht;have e4:=hcl x i hxl hin e3;rw[RU]at e4;cases e4
     rw[Q5 (x+1) i t Om Om (λk o' a2 a3 a4 a5=>by have:=huniq x k ox o' t hx a4 T9 a5;omega)];refine I.h2 t x ox hx hxl T9 λhxf=>?_
     subst hxf;by_cases hh:x<θ
     ·exact hh
     ·rcases hnp hxl (by omega)with h|h
      ·omega
      ·rw[F.hf]at hx;cases hx;cases T9;unfold fE at h;rw[ho]at h;simp only at h;have:=List.contains_iff_mem.2 ht;rw[this]at h;cases h
    ·rw[Q5 0 i t Om Om (λk o' e2 e3 e4 e5=>by
      obtain⟨oo,Tr,Rl⟩:=RY k o' t e4 e5;have h6:=((cR hsl e3 Tr ho).1 t Rl).2 ht;exact hex ⟨k,o',e4,hahead k (Ye.1 Tr).1 h6,e5⟩)]
     exact I.h1 t λj oj hj hl Rl=>hex ⟨j,oj,hj,hl,Rl⟩
   have hadv:i≠f->∀(θ θ':Nat) (m1 m':cp) (tm:Array Value) (w1 w':World) (cv:Value) (v':AV),kJ P l f df (.cells cf mu tl) T H m w listed θ m1 tm w1->θ'<=l.length->(θ'<=dK l\/∃(j:Nat) (o:bI),l[j]? =some o/\cG o.k=false/\j≠f/\dK l<=j/\j<θ')->(∀(j:Nat) (o:bI),l[j]? =some o->cG o.k=false->j≠f->(j<θ'↔(listed.setIfInBounds i true).getD j false=true))->(f<θ'↔f<θ)->
     T (i+1)=put (T i) o.dst v'->VR m' v' cv->HR P m' (H θ') w'->Grow m1 (H θ) w1 m' (H θ') w'->kJ P l f df (.cells cf mu tl) T H m w (listed.setIfInBounds i true) θ' m' (gR tm o.dst cv) w':=by
    intro T0 θ θ' m1 m' tm w1 w' cv v' I Xg Vi hS' hff Se Sy hr' Re;have Tm:=Re.le I.hr.cN;refine⟨Xg,Vi,hS',λh=>?_,hr',I.hg.trans Re st.hr.cN,by rw[e8];exact I.eC,λd hdn=>?_,λd j oj hj hl TA hjf=>?_,λXy Xf=>?_⟩
    ·rw[hne f (Zk T0)];exact I.hf (hff.1 h)
    ·have SL:o.dst≠some d:=by rw[<-Rl];exact hdn i io hio hlt
     rw[dE SL];refine VR.mono Tm _ _ (I.h1 d λj oj hj hl=>hdn j oj hj ?_);exact Mn
    ·by_cases e1:j=i
     ·subst e1;rw[hio]at hj;cases hj;rw[Se,<-Rl,TA];exact lC (by rw[I.eC,hTl j Om]) Sy
     ·have SL:o.dst≠some d:=λhx=>by
       exact z124
      rw[dE SL];rw[hne j e1]at hl;exact VR.mono Tm _ _ (I.h2 d j oj hj hl TA λz=>hff.1 (hjf z))
    ·rw[hne f (Zk T0)]at Xy;obtain⟨e,b1,b2,b3,b4,b5⟩:=I.pd Xy (by have:=hff.2;omega);obtain⟨c1,c2⟩:=BQ Re I.hr.cN Ve b1 b4;have SL:o.dst≠some df:=λhx=>by
      rw[<-Rl]at hx;exact T0 (huniq i f io _ df hio F.hf hx rfl)
     refine⟨e,c1,b2,b3,c2,λm2 Vd Q0=>?_⟩;rw[dE SL];exact b5 m2 (cp.le_trans Tm Vd) Q0
   have TU:∀cv,(a1.put o.dst cv).tmps=gR a1.tmps o.dst cv:=λcv=>by cases o.dst<;>rfl
   by_cases T0:i=f
   ·
    subst T0;rw[F.hf]at hio;cases hio;have Xf:θ<=i:=by
     by_cases hh:i<θ
     ·have:=I.hf hh;rw[RU]at this;cases this
     ·omega
    refine vm ho Q2 rfl I.hr.gv I.hr (hslot θ m1 a1.tmps w1 I λh=>by rw[RU]at h;cases h) (hcf (H θ)) ro _ Q ?_;intro cv m' w' hv hr' Re;have hclos:∀x∈cf,iY (H θ).length x:=rG (λx hx=>Al (F.hz x (uM hx))) (λp hp=>by
     obtain⟨q,hq,rfl⟩:=Ys.1 hp;obtain⟨u,hu,Vz⟩:=F.hp q hq;have hu2:u∈o.looksAt ops:=by
      unfold fE at Vz;rw[ho]at Vz;exact List.contains_iff_mem.1 Vz
     have:=hslot θ m1 a1.tmps w1 I (λh=>by rw[RU]at h;cases h) u hu2;show iY _ (val (T i) q.2);rw[hu];exact⟨m1,_,I.hr.cN,this⟩) R5
    have hcb:qh (H θ).length (.cells cf mu tl):=λj x hx=>hclos x (YO hx)
    have hup:m'.dI (H θ).length=m1:=by
     funext b;unfold cp.dI;by_cases hb:b<(H θ).length
     ·rw[X9 hb];exact Re.ext b hb
     ·rw[X5 hb];cases hx:m1 b with
      |none=>rfl
      |some e=>exact absurd (I.hr.cN b e hx) hb
    have R1:=HR.forget I.hr hr' Re;have UK:=Re.forget;rw[hup]at R1 UK;have Us:=hv;rw[VR]at Us;obtain⟨e,ca,cap,he,RP⟩:=Us;have hb:=(hr'.dU _ e (.cells cf mu tl) he Si).cut hcb;rw[hup]at hb;obtain⟨ho1,hc⟩:=Re.new _ e (X8 _) he;have hcbl:w1.heap.size<=e.cb:=by
     rcases hc with hc|⟨b0,e0,c1,c2,c3,c4,c5⟩
     ·exact hc
     ·rw[fG (I.hr.cN _ _ c1),c4]at c5;cases c5
    have SB:o.dst=some df:=Rl.symm;refine ih _ θ m1 (a1.put o.dst cv) w' (by simp[Q6]) Ut SR ?_ (by rw[put_defers];exact hd);rw[TU];refine⟨I.hθ,I.hL,λj oj hj hk hjf=>by rw[hne j hjf];exact I.hS j oj hj hk hjf,λh=>by omega,R1,I.hg.trans UK st.hr.cN,by rw[e8];exact I.eC,λd hdn=>?_,λd j oj hj hl TA hjf=>?_,λ_ _=>⟨e,hb,ho1,YI I.hg.size hcbl,λb e' Sd=>by have:=I.hr.lt b e' Sd;omega,λm2 Vd Q0=>?_⟩⟩
    ·have SL:o.dst≠some d:=by rw[SB];exact hdn i _ F.hf hlt
     rw[dE SL];refine I.h1 d λj oj hj hl=>hdn j oj hj ?_
     exact Mn
    ·by_cases e1:j=i
     ·have:=hjf e1;omega
     ·have SL:o.dst≠some d:=λhx=>by
       rw[SB]at hx;exact e1 (huniq j i oj _ d hj F.hf TA hx)
      rw[dE SL];rw[hne j e1]at hl;exact I.h2 d j oj hj hl TA hjf
    ·rw[hTf,SB];exact lC (by rw[I.eC,hTl i Om]) (by rw[VR];exact⟨e,ca,cap,Q0,RP⟩)
   by_cases R7:cG io.k=true
   ·
    obtain⟨TW,S9⟩:=F.hr i io hio R7;have Tp:dD P io (T i) (H θ) (T (i+1)) (H θ):=by
     rcases TW with hp|hp
     ·exact(xJ hp bW).2 _
     ·refine hstab i io hio hp θ ?_;rcases I.hL with h|⟨j,oj,h1,h2,h5,h3,h4⟩
      ·exact h
      ·have e:=hcl j i ((I.hS j oj h1 h2 h5).1 h4) hin (hlate i j io oj hio hp h1 h2 h3);rw[RU]at e;cases e
    refine fB ho Q2 I.hr.gv I.hr (by rw[I.eC,hTl i Om]) (hslot θ m1 a1.tmps w1 I λ_ _=>.inr S9) Tp ro _ Q ?_;intro cv v' m' w' Se Sy hrx hgx;refine ih _ θ m' (a1.put o.dst cv) w' (by simp[Q6]) Ut SR ?_ (by rw[put_defers];exact hd);rw[TU];refine hadv T0 θ θ m1 m' a1.tmps w1 w' cv v' I I.hθ I.hL (λj oj hj hk hjf=>?_) Iff.rfl Se Sy hrx hgx;have hji:j≠i:=λe=>by
     subst e;rw[hio]at hj;cases hj;rw[R7]at hk;cases hk
    rw[hne j hji];exact I.hS j oj hj hk hjf
   ·have Sh:cG io.k=false:=by simpa using R7
    have hheavy:∀(j:Nat) (oj:bI),l[j]? =some oj->cG oj.k=false->j<i->listed.getD j false=true:=λj oj hj hk hji=>
     hahead j (by have:=(XT.1 hj).1;omega) (pV hmo hji hj hio (hrp hk) (hrp Sh) (hld hk) (hld Sh) T0)
    have hlate:∀(j:Nat) (oj:bI),l[j]? =some oj->cG oj.k=false->j≠f->i<j->listed.getD j false=false:=λj oj hj hk hjf hij=>by
     cases hx:listed.getD j false with
     |false=>rfl
     |true=>
      have e3:=pV hmo hij hio hj (hrp Sh) (hrp hk) (hld Sh) (hld hk) hjf;have e4:=hcl j i hx hin e3;rw[RU]at e4;cases e4
    obtain⟨WH,m2,I1,hff⟩:∃WH m2,kJ P l f df (.cells cf mu tl) T H m w listed WH m2 a1.tmps w1/\(f<WH↔f<i):=by
     by_cases hfi:f<i
     ·have Xy:=hheavy f _ F.hf rfl hfi;by_cases hfθ:f<θ
      ·exact⟨θ,m1,I,Om⟩
      ·obtain⟨m2,I2⟩:=Wd listed θ m1 a1.tmps w1 I Xy Om λj oj hj hk hjf=>hheavy j oj hj hk Om
       exact⟨f+1,m2,I2,Om⟩
     ·refine⟨θ,m1,I,⟨λh=>?_,λh=>absurd h hfi⟩⟩;have:=(I.hS i io hio Sh T0).1 Om;rw[RU]at this;cases this
    have hHi:H WH=H i:=T5 WH i I1.hθ Om λj oj hj hk=>by
     by_cases hjf:j=f
     ·subst hjf;exact hff
     ·constructor
      ·intro UH;have SN:=(I1.hS j oj hj hk hjf).1 UH;by_cases e1:j=i
       ·exact Gx
       ·by_cases e2:j<i
        ·exact e2
        ·exact Jk
      ·intro hji;exact(I1.hS j oj hj hk hjf).2 (hheavy j oj hj hk hji)
    refine fB ho Q2 I1.hr.gv I1.hr (by rw[I1.eC,hTl i Om]) (hslot WH m2 a1.tmps w1 I1 λ_ h2=>.inl Om) (by rw[hHi];exact bW) ro _ Q ?_;intro cv v' m' w' Se Sy hrx hgx;refine ih _ (i+1) m' (a1.put o.dst cv) w' (by simp[Q6]) Ut SR ?_ (by rw[put_defers];exact hd);rw[TU];refine hadv T0 WH (i+1) m2 m' a1.tmps w1 w' cv v' I1 Om (by by_cases hc:i+1<=dK l;exact .inl hc;exact .inr ⟨i,io,hio,Sh,T0,Om,Om⟩) (λj oj hj hk hjf=>?_) Om Se Sy hrx hgx;by_cases e1:j=i
    ·subst e1;exact⟨λ_=>hlt,λ_=>by omega⟩
    ·rw[hne j e1];constructor
     ·intro hji;exact hheavy j oj hj hk Om
     ·intro SN;by_cases e2:j<i
      ·omega
      ·exact Jk
 have QX:∀j,(Array.replicate ops.size false).getD j false=false:=λj=>by
  exact Mo
 refine key ops.size (Array.replicate ops.size false) 0 m a _ Si ?_ (λj x hj _ _=>by simp[QX j]at hj) ⟨Yt _,.inl (Yt _),(λj oj hj hk _=>⟨λhx=>absurd hx Om,λhx=>by simp[QX j]at hx⟩),(λhx=>absurd hx Om),st.hr.drew,(Grow.refl m _ w st.hr.cN).drew,?_,(λd _=>nO st.ts d),(λd j o _ hj _ _=>by simp[QX j]at hj),λhx=>by simp[QX f]at hx⟩ rfl
 ·exact z24
 ·exact Db
def dY{P ops draw c}(h:nv P ops draw=some c):
  (∃l,c=.ops l/\(cQ P ops draw=some l\/(draw=true/\(∃l',cQ P ops draw=some l')/\∃cq,eO (λ_ o=>bU P ops (sj cq o) o) ops.toList 0=some l/\nX (Region.before ops) l=true/\l.any mI=false)))\/
  (∃l,c=.sf l/\draw=true/\(∃l',cQ P ops draw=some l')/\eO (λ_ o=>bU P ops false o) ops.toList 0=some l)\/
  (∃l,c=.lD l/\draw=true/\(∃l',cQ P ops draw=some l')/\∃cq,eO (λ_ o=>bU P ops (sj cq o) o) ops.toList 0=some l/\(nX (Region.before ops) l=true\/∃f,wa ops l f=true/\rp (Region.before ops) l f=true)/\ng (Region.before ops) l=true):=by
 unfold nv at h;split at h
 ·cases h
 ·rename_i l hl;split at h
  ·rename_i hq;split at h
   ·rename_i l' l2 l3 Q1 hl2 Xz;split at h
    ·rename_i hm;rw[Yv,Zi]at hm;cases h;exact .inl ⟨l',rfl,.inr ⟨hq.2,⟨l,hl⟩,0,Q1,hm.1,hm.2⟩⟩
    ·split at h
     ·rename_i hm;rw[Yv,Zi]at hm;cases h;exact .inl ⟨l2,rfl,.inr ⟨hq.2,⟨l,hl⟩,1,hl2,hm.1,hm.2⟩⟩
     ·split at h
      ·exact PV
      ·split at h
       ·split at h
        ·rename_i hm;rw[Yv,Yv]at hm;cases h;exact .inr (.inr ⟨l3,rfl,hq.2,⟨l,hl⟩,2,Xz,.inl hm.1.2,hm.2⟩)
        ·cases h;exact .inr (.inl ⟨l',rfl,hq.2,⟨l,hl⟩,Q1⟩)
       ·split at h
        ·rename_i hm;rw[Yv]at hm;cases h;exact .inr (.inr ⟨l3,rfl,hq.2,⟨l,hl⟩,2,Xz,.inl hm.1,hm.2⟩)
        ·split at h
         ·exact PV
         ·cases h;exact .inl ⟨l,rfl,.inl hl⟩
   ·cases h
  ·cases h;exact .inl ⟨l,rfl,.inl hl⟩
def Marks(m:cp)(w:World)(lo:Nat)(ds:List Deferred):Prop:=
 ∃rs:List Nat,ds=rs.map (λr=>({target:=.collected r,args:=#[] }:Deferred))/\rs.Nodup/\∀r∈rs,lo<=r/\w.heap[r]? =some (.deferred (some []))/\∀b e,m b=some e->e.cb≠r
def Marks.nil(m:cp)(w:World)(lo:Nat):Marks m w lo []:=⟨[],rfl,Si,Si⟩
def Marks.grow{m m' h h' w w' lo ds}(k:Marks m w lo ds)(g:Grow m h w m' h' w')(hd:∀b e,m b=some e->b<h.length):Marks m' w' lo ds:=by
 obtain⟨rs,h1,h2,h3⟩:=k;refine⟨rs,h1,h2,λr hr=>?_⟩;obtain⟨a,b,c⟩:=h3 r hr;have hlt:r<w.heap.size:=(Ye.1 b).1;refine⟨a,?_,?_⟩
 ·rw[g.frame r hlt (λb e hb _=>c b e hb)];exact b
 ·intro b' e hb;by_cases hx:b'<h.length
  ·rw[g.ext b' hx]at hb;exact c b' e hb
  ·obtain⟨_,hc⟩:=g.new b' e Om hb;rcases hc with hc|⟨b0,e0,c1,c2,_⟩
   ·omega
   ·rw[<-c2];exact c b0 e0 c1
def Ev(P:Program)(ro:Option Nat)(c:ai)(ts:TS)(h:ah)(e:Ex)(ts':TS)(h':ah):Prop:=
 ∀cc,compile P cc=some c->∀(m:cp) (a:Act) (w:World) (lo:Nat),lo<=w.heap.size->St P m ts h a w->Marks m w lo a.defers->∀Q:Exit->Act->World->Prop,
  (∀m' a' w',St P m' ts' h' a' w'->Grow m h w m' h' w'->Marks m' w' lo a'.defers->Q e.Cy a' w')->cc.wpIn (Fd ro) 0 P Q a w
section
variable {P:Program}{b:Frame}{a:Act}{k:List Item}{cs:List Frame}{w:World}{Q:Exit->Act->World->Prop}{F:Fence}{n:Nat}
def gj{c}:step P (lone (b.atR a (.code (.scope c)::k)) cs w)=.next (lone (b.atR a (.code c:: .inScope c::k)) cs w):=
 step_lone_go (by simp[stepG,stepG.exec,Frame.atR])
def rX{c}:step P (lone (b.atR a (.inScope c::k)) cs w)=.next (lone (b.atR a k) cs w):=
 step_lone_go (by simp[stepG,stepG.exec,Frame.atR])
def noGoto(Q:Exit->Act->World->Prop):Exit->Act->World->Prop
 |.goto _,_,_=>False
 |e,a,w=>Q e a w
def wK{c}(h:c.wpIn F n P (noGoto Q) a w):(Code.scope c).wpIn F n P Q a w:=by
 intro b k cs hro hb hr;have h0:(lone (b.atR a (.code (.scope c)::k)) cs w).fenced P F:=fenced_calm hb hr rfl;obtain⟨e,UZ,Uk,hq,RC⟩:=h b (.inScope c::k) cs hro hb hr;cases e with
 |normal=>exact⟨.normal,UZ,Uk,hq,.head h0 gj (StepsIn.trans RC (.one (fenced_calm hb hr rfl) rX))⟩
 |exit id=>
  have hx:exitTo id (.inScope c::k)=exitTo id k:=by simp[exitTo]
  exact⟨.exit id,UZ,Uk,hq,λk' hk=>.head h0 gj (RC.1 k' (by rw[hx];exact hk)),
   λhr' hk=>let ⟨k₁,h1,h2⟩:=RC.2 hr' (by rw[hx];exact hk);⟨k₁,h1,.head h0 gj h2⟩⟩
 |goto l=>exact hq.elim
 |ret=>exact⟨.ret,UZ,Uk,hq,.of_steps (.one h0 gj) RC⟩
 |panic ch=>exact⟨.panic ch,UZ,Uk,hq,.of_steps (.one h0 gj) RC⟩
 |outgrown=>exact⟨.outgrown,UZ,Uk,hq,.of_steps (.one h0 gj) RC⟩
end
section
variable {P:Program}{ro:Option Nat}{c x y:ai}{ts Ss ts':TS}{h h1 h':ah}{e:Ex}
def Ev.of (H:∀cc,(∀a,cc≠.scope a)->compile P cc=some c->∀(m:cp) (a:Act) (w:World) (lo:Nat),lo<=w.heap.size->St P m ts h a w->Marks m w lo a.defers->∀Q:Exit->Act->World->Prop,
  (∀m' a' w',St P m' ts' h' a' w'->Grow m h w m' h' w'->Marks m' w' lo a'.defers->Q e.Cy a' w')->cc.wpIn (Fd ro) 0 P Q a w):Ev P ro c ts h e ts' h':=by
 intro cc
 induction cc with
 |scope a ih=>
  intro hc m a w lo hlo st hm Q hQ;refine wK (ih (by simpa [compile]using hc) m a w lo hlo st hm _ λm' a' w' s g k=>?_);cases e<;>exact hQ m' a' w' s g k
 |_=>intro hc;exact H _ Si hc
theorem Ev.skip:Ev P ro .skip ts h .normal ts h:=by
 refine Ev.of λcc hns hc m a w lo hlo st hm Q hQ=>?_
 have hq:=hQ m a w st (Grow.refl m h w st.hr.cN) hm;cases cc with
 |skip=>exact wpIn_skip hq
 |label l=>exact wpIn_label hq
 |scope a=>exact absurd rfl (hns a)
 |region id ops draw=>rcases dY (by simpa only[compile]using hc)with⟨_,h1,_⟩|⟨_,h1,_⟩|⟨_,h1,_⟩<;>cases h1
 |block id a=>simp[compile]at hc
 |loop a=>simp[compile]at hc
 |_=>
  exact AR
theorem Ev.exit{id}:Ev P ro (.exit id) ts h (.exit id) ts h:=by
 refine Ev.of λcc hns hc m a w lo hlo st hm Q hQ=>?_
 have hq:=hQ m a w st (Grow.refl m h w st.hr.cN) hm;cases cc with
 |exit V6=>simp[compile]at hc;subst hc;exact wpIn_exit hq
 |scope a=>exact absurd rfl (hns a)
 |region id ops draw=>rcases dY (by simpa only[compile]using hc)with⟨_,h1,_⟩|⟨_,h1,_⟩|⟨_,h1,_⟩<;>cases h1
 |block id a=>simp[compile]at hc
 |loop a=>simp[compile]at hc
 |_=>
  exact AR
theorem Ev.ret:Ev P ro .ret ts h .ret ts h:=by
 refine Ev.of λcc hns hc m a w lo hlo st hm Q hQ=>?_
 have hq:=hQ m a w st (Grow.refl m h w st.hr.cN) hm;cases cc with
 |ret=>exact wpIn_ret hq
 |scope a=>exact absurd rfl (hns a)
 |region id ops draw=>rcases dY (by simpa only[compile]using hc)with⟨_,h1,_⟩|⟨_,h1,_⟩|⟨_,h1,_⟩<;>cases h1
 |block id a=>simp[compile]at hc
 |loop a=>simp[compile]at hc
 |_=>
  exact AR
theorem Ev.ops(hmix:P.follows .mixedOrders=true){l}(hs:yi P l ts h ts' h'):Ev P ro (.ops l) ts h .normal ts' h':=by
 refine Ev.of λcc hns hc m a w lo hlo st hm Q hQ=>?_
 cases cc with
 |region id ops draw=>
  rcases dY (by simpa only[compile]using hc)with⟨l',h1,hl⟩|⟨_,h1,_⟩|⟨_,h1,_⟩<;>cases h1
  rcases hl with hl|⟨hd,⟨l2,hl2⟩,cq,hz,hmo,hld⟩
  case inr=>
   subst hd;simp only[cQ,Yf]at hl2;split at hl2
   case isFalse=>cases hl2
   rename_i Ro;simp only[Yv]at Ro;obtain⟨T,H,rfl,rfl,rfl,rfl,hrow⟩:=hs.row;rw[List.any_eq_false]at hld;exact rh hmix Ro.1 Ro.2 hz hmo hrow (λi io hio hl=>absurd hl (hld io (YO hio))) (λi j x y hx hl=>absurd hl (hld x (YO hx))) st ro Q (λm' a' w' s g d=>hQ m' a' w' s g (by rw[d];exact hm.grow g st.hr.cN)) id
  cases draw with
  |false=>exact xE hl hs st ro Q (λm' a' w' s g d=>hQ m' a' w' s g (by rw[d];exact hm.grow g st.hr.cN)) id
  |true=>exact ve hmix hl hs st ro Q (λm' a' w' s g d=>hQ m' a' w' s g (by rw[d];exact hm.grow g st.hr.cN)) id
 |scope a=>exact absurd rfl (hns a)
 |block id a=>simp[compile]at hc
 |loop a=>simp[compile]at hc
 |_=>
  exact AR
theorem Ev.lD(hmix:P.follows .mixedOrders=true){l T H}(hrow:Row P l T H)(hstab:∀(i:Nat) (io:bI),l[i]? =some io->mI io=true->∀θ,θ<=dK l->dD P io (T i) (H θ) (T (i+1)) (H θ)):Ev P ro (.lD l) (T 0) (H 0) .normal (T l.length) (H l.length):=by
 refine Ev.of λcc hns hc m a w lo hlo st hm Q hQ=>?_
 cases cc with
 |region id ops draw=>
  rcases dY (by simpa only[compile]using hc)with⟨_,h1,_⟩|⟨_,h1,_⟩|⟨l',h1,hd,⟨l2,hl2⟩,cq,hz,hmo,hlo⟩<;>cases h1
  subst hd;simp only[cQ,Yf]at hl2;split at hl2
  case isFalse=>cases hl2
  rename_i Ro;simp only[Yv]at Ro;rcases hmo with hmo|⟨f,Ue,Tx⟩
  case inr=>exact xF hmix Ro.1 Ro.2 hz Ue Tx hrow hstab (λi j x y a1 a2 a3 a4 a5=>p7 hlo a1 a2 a3 a4 a5) st ro Q (λm' a' w' s g d=>hQ m' a' w' s g (by rw[d];exact hm.grow g st.hr.cN)) id
  exact rh hmix Ro.1 Ro.2 hz hmo hrow hstab (λi j x y a1 a2 a3 a4 a5=>p7 hlo a1 a2 a3 a4 a5) st ro Q (λm' a' w' s g d=>hQ m' a' w' s g (by rw[d];exact hm.grow g st.hr.cN)) id
 |scope a=>exact absurd rfl (hns a)
 |block id a=>simp[compile]at hc
 |loop a=>simp[compile]at hc
 |_=>
  exact AR
theorem Ev.seq(hx:Ev P ro x ts h .normal Ss h1)(hy:Ev P ro y Ss h1 e ts' h'):Ev P ro (.seq x y) ts h e ts' h':=by
 refine Ev.of λcc hns hc m a w lo hlo st hm Q hQ=>?_
 cases cc with
 |seq ca cb=>
  simp only[compile]at hc;split at hc
  case h_2=>cases hc
  rename_i x' y' Ru hcb;cases hc;refine wpIn_seq (hx ca Ru m a w lo hlo st hm _ λm1 a1 w1 s1 g1 k1=>?_);exact hy cb hcb m1 a1 w1 lo (YI hlo g1.size) s1 k1 Q λm2 a2 w2 s2 g2 k2=>hQ m2 a2 w2 s2 (g1.trans g2 st.hr.cN) k2
 |scope a=>exact absurd rfl (hns a)
 |region id ops draw=>rcases dY (by simpa only[compile]using hc)with⟨_,h1,_⟩|⟨_,h1,_⟩|⟨_,h1,_⟩<;>cases h1
 |block id a=>simp[compile]at hc
 |loop a=>simp[compile]at hc
 |_=>
  exact AR
def Ev.uY(hx:Ev P ro x ts h e ts' h')(hne:e≠.normal):Ev P ro (.seq x y) ts h e ts' h':=by
 refine Ev.of λcc hns hc m a w lo hlo st hm Q hQ=>?_
 cases cc with
 |seq ca cb=>
  simp only[compile]at hc;split at hc
  case h_2=>cases hc
  rename_i x' y' Ru hcb;cases hc;refine wpIn_seq (hx ca Ru m a w lo hlo st hm _ λm1 a1 w1 s1 g1 k1=>?_);have:=hQ m1 a1 w1 s1 g1 k1;cases e<;>first|exact absurd rfl hne|exact this
 |scope a=>exact absurd rfl (hns a)
 |region id ops draw=>rcases dY (by simpa only[compile]using hc)with⟨_,h1,_⟩|⟨_,h1,_⟩|⟨_,h1,_⟩<;>cases h1
 |block id a=>simp[compile]at hc
 |loop a=>simp[compile]at hc
 |_=>
  exact AR
def yG{o c}(hc:DT o=some c):cX o=some c/\Mz P o=true:=by
 cases o<;>first|exact⟨hc,rfl⟩|cases hc
def BT{m a w}(st:St P m ts h a w){o c}(hc:DT o=some c):VR m (val ts c) (a.eval o):=
 yY st.hr.gv (yG (P:=P) hc).1 (yG (P:=P) hc).2 (λt _=>nO st.ts t)
theorem Ev.cond{c b}(hb:val ts c=.bool b)(hx:Ev P ro (if b then x else y) ts h e ts' h'):Ev P ro (.cond c x y) ts h e ts' h':=by
 refine Ev.of λcc hns hc m a w lo hlo st hm Q hQ=>?_
 cases cc with
 |cond o ca cb=>
  simp only[compile]at hc;split at hc
  case h_2=>cases hc
  rename_i c' x' y' hco Ru hcb;cases hc;have hv:=BT st hco;rw[hb,VR]at hv;refine wpIn_cond hv ?_;cases b
  ·exact hx cb hcb m a w lo hlo st hm Q hQ
  ·exact hx ca Ru m a w lo hlo st hm Q hQ
 |scope a=>exact absurd rfl (hns a)
 |region id ops draw=>rcases dY (by simpa only[compile]using hc)with⟨_,h1,_⟩|⟨_,h1,_⟩|⟨_,h1,_⟩<;>cases h1
 |block id a=>simp[compile]at hc
 |loop a=>simp[compile]at hc
 |_=>
  exact AR
def Ex.inBlock(id:Nat):Ex->Ex
 |.exit V6=>if V6=id then .normal else .exit V6
 |e=>e
theorem Ev.block{id}(hx:Ev P ro x ts h e ts' h'):Ev P ro (.block id x) ts h (e.inBlock id) ts' h':=by
 refine Ev.of λcc hns hc m a w lo hlo st hm Q hQ=>?_
 cases cc with
 |block V6 ca=>
  simp only[compile,Yj,ai.block.injEq]at hc;obtain⟨x',Ru,rfl,rfl⟩:=hc;refine wpIn_block (hx ca Ru m a w lo hlo st hm _ λm' a' w' s g k=>?_);have:=hQ m' a' w' s g k;cases e with
  |normal=>exact this
  |ret=>exact this
  |exit i=>
   simp only[Ex.Cy,Exit.inBlock];simp only[Ex.inBlock]at this;split
   ·rename_i hi;rw[X9 hi]at this;exact this
   ·rename_i hi;rw[X5 hi]at this;exact this
 |scope a=>exact absurd rfl (hns a)
 |region id ops draw=>rcases dY (by simpa only[compile]using hc)with⟨_,h1,_⟩|⟨_,h1,_⟩|⟨_,h1,_⟩<;>cases h1
 |loop a=>simp[compile]at hc
 |_=>
  exact AR
inductive tJ (P:Program) (ro:Option Nat) (x:ai):TS->ah->Ex->TS->ah->Prop
 |out {ts:TS}{h:ah}{e:Ex}{ts':TS}{h':ah}(hx:Ev P ro x ts h e ts' h') (hne:e≠.normal):tJ P ro x ts h e ts' h'
 |more {ts:TS}{h:ah}{Ss:TS}{h1:ah}{e:Ex}{ts':TS}{h':ah}(hx:Ev P ro x ts h .normal Ss h1) (hr:tJ P ro x Ss h1 e ts' h'):tJ P ro x ts h e ts' h'
theorem Ev.loop(hl:tJ P ro x ts h e ts' h'):Ev P ro (.loop x) ts h e ts' h':=by
 refine Ev.of λcc hns hc m a w lo hlo st hm Q hQ=>?_
 cases cc with
 |loop ca=>
  simp only[compile,Yj,ai.loop.injEq]at hc;obtain⟨x',Ru,rfl⟩:=hc;intro b k cs hro hb hr;have key:∀(m1:cp) (a1:Act) (w1:World),lo<=w1.heap.size->St P m1 ts h a1 w1->Marks m1 w1 lo a1.defers->(∀m' a' w',St P m' ts' h' a' w'->Grow m1 h w1 m' h' w'->Marks m' w' lo a'.defers->Q e.Cy a' w')->
    ∃e a' w',Q e a' w'/\ArrivesIn (Machine.fenced P (Fd ro)) P (lone (b.atR a1 (.code ca:: .inLoop ca::k)) cs w1) b k cs e a' w':=by
   clear hQ st hm hlo
   induction hl with
   |out hx hne=>
    rename_i ts h e ts' h';intro m1 a1 w1 hlo s1 k1 hQ;obtain⟨e1,a2,w2,hq,RC⟩:=hx ca Ru m1 a1 w1 lo hlo s1 k1 (λe1 a1 w1=>e1≠.normal/\Q e1 a1 w1) (λm' a' w' s g k'=>⟨by cases e<;>first|exact absurd rfl hne|simp[Ex.Cy],hQ m' a' w' s g k'⟩) b (.inLoop ca::k) cs hro hb hr;exact⟨e1,a2,w2,hq.2,.pass (x:=.inLoop ca) rfl (λ_ _=>.inl hq.1) RC⟩
   |more hx hr' ih=>
    intro m1 a1 w1 hlo s1 k1 hQ;obtain⟨e1,a2,w2,hq,RC⟩:=hx ca Ru m1 a1 w1 lo hlo s1 k1 (λe1 a2 w2=>e1=.normal/\∃m2,St P m2 _ _ a2 w2/\Grow m1 _ w1 m2 _ w2/\Marks m2 w2 lo a2.defers) (λm' a' w' s g k'=>⟨rfl,m',s,g,k'⟩) b (.inLoop ca::k) cs hro hb hr;obtain⟨rfl,m2,s2,g2,k2⟩:=hq;obtain⟨e3,a3,w3,hq3,harr3⟩:=ih m2 a2 w2 (YI hlo g2.size) s2 k2 (λm' a' w' s g k'=>hQ m' a' w' s (g2.trans g s1.hr.cN) k');exact⟨e3,a3,w3,hq3,.of_steps (StepsIn.trans RC (.one (fenced_calm hb hr rfl) stepR_inLoop)) harr3⟩
  obtain⟨e',a',w',hq,RC⟩:=key m a w hlo st hm hQ;exact⟨e',a',w',hq,.of_steps (.one (fenced_calm hb hr rfl) stepR_loop) RC⟩
 |scope a=>exact absurd rfl (hns a)
 |region id ops draw=>rcases dY (by simpa only[compile]using hc)with⟨_,h1,_⟩|⟨_,h1,_⟩|⟨_,h1,_⟩<;>cases h1
 |block id a=>simp[compile]at hc
 |_=>
  exact AR
end
def dB(ts:TS)(h:ah):Nat×Option (Option Nat)->Option AV
 |(t,none)=>some (ts.getD t az)
 |(a,some n)=>
  match dA (.load n (.c (ts.getD a az))) (val ts) h with
  |some (v,_)=>some v
  |none=>none
def iS(ts:TS)(h:ah):List (Nat×Option (Option Nat))->Option (List AV)
 |[]=>some []
 |r::rs=>
  match dB ts h r,iS ts h rs with
  |some v,some vs=>some (v::vs)
  |_,_=>none
def cT(rs:List (Nat×Option (Option Nat)))(ts:TS)(h:ah):Option AV:=
 match iS ts h rs with
 |some [v]=>some v
 |some l=>some (.dN l)
 |none=>none
def aU(nt:Nat)(args:List AV):TS:=args++List.replicate (nt-args.length) az
def Ex.leaves:Ex->Bool
 |.normal=>true
 |.ret=>true
 |_=>false
section
variable {P:Program}{m:cp}{h h':ah}{w:World}{v:AV}
def w7{ts a}(st:St P m ts h a w){r x}(hx:tQ P r=some x)(hv:dB ts h x=some v):
  ∃cv,(match r with
   |.tmp t=>(pure (a.tmps.getD t undef):Sem Value)
   |.cell b t=>do loadVar t (<-asAddr (a.tmps.getD b undef))).run P w=.ok cv w/\VR m v cv:=by
 cases r with
 |tmp t=>cases hx;cases hv;exact⟨_,rfl,nO st.ts t⟩
 |cell b t=>
  simp only[tQ,Yj]at hx;obtain⟨n,hn,rfl⟩:=hx;simp only[dB]at hv;split at hv
  case h_2=>cases hv
  rename_i v' h' hf;cases hv;obtain⟨cv,h1,h2,_⟩:=Bz (P:=P) (ρ:=val ts) hn st.hr (a:=.c (ts.getD b az)) (nO st.ts b) hf;refine⟨cv,?_,h2⟩;simp only[dA,val]at hf;split at hf
  case h_2=>cases hf
  rename_i b' o' hb';have hs:=nO st.ts b;rw[hb',VR]at hs;obtain⟨e,_,he⟩:=hs;simp only[he]at h1 ⊢
  simpa [Instr.loadAt,Instr.sureAddr,asAddr]using h1
theorem pR{ts:TS}{a:Act}(st:St P m ts h a w):∀{rs:List ResultVar}{xs:List (Nat×Option (Option Nat))}{vs:List AV},rs.mapM (tQ P)=some xs->iS ts h xs=some vs->
  ∃Th,(rs.mapM (m:=Sem) λ
   |.tmp t=>pure (a.tmps.getD t undef)
   |.cell b t=>do loadVar t (<-asAddr (a.tmps.getD b undef))).run P w=.ok Th w/\cL m vs Th
 |[],xs,vs,hx,hv=>by
  simp at hx;subst hx;cases hv;exact⟨[],rfl,bD.2 rfl⟩
 |r::rs,xs,vs,hx,hv=>by
  simp only[aaj,Z3,aar]at hx;cases hr:tQ P r with
  |none=>simp[hr]at hx
  |some x=>
   cases hrs:rs.mapM (tQ P)with
   |none=>simp[hr,hrs]at hx
   |some xs'=>
    simp[hr,hrs]at hx;subst hx;simp only[iS]at hv;split at hv
    case h_2=>cases hv
    rename_i v vs' h1 h2;cases hv;obtain⟨cv,hc,QT⟩:=w7 st hr h1;obtain⟨Th,Ti,hvrs⟩:=pR st hrs h2;refine⟨cv::Th,?_,aS.2 ⟨cv,Th,rfl,QT,hvrs⟩⟩;rw[aaj,Yh];have Sc:=hc;cases r<;>(simp only at Sc ⊢;rw[Sc];simp only[X7,Yh,Ti,Yy])
def vc{ts:TS}{a:Act}(st:St P m ts h a w){fn:Func}{xs:List (Nat×Option (Option Nat))}(hx:fn.results.toList.mapM (tQ P)=some xs)(hv:cT xs ts h=some v):
  ∃cv,(results fn a.tmps).run P w=.ok cv w/\VR m v cv:=by
 unfold cT at hv;have key:∀{vs:List AV},iS ts h xs=some vs->∃Th:List Value,(results fn a.tmps).run P w=.ok (if h:Th.length=1 then Th[0]else .tuple ⟨Th⟩) w/\cL m vs Th:=by
  intro vs RJ;obtain⟨Th,h1,h2⟩:=pR st hx RJ;refine⟨Th,?_,h2⟩;unfold results;rw[Array.mapM_eq_mapM_toList,Yh];simp only[map_eq_pure_bind,Yh];have h1':=h1
  erw [h1']
  simp only[X7,Yy];by_cases hc:Th.length=1
  ·simp[hc]
  ·simp[hc]
 split at hv
 ·rename_i v' RJ;cases hv;obtain⟨Th,h1,h2⟩:=key RJ;obtain⟨y,ys,rfl,hy,hys⟩:=aS.1 h2;rw[bD]at hys;subst hys;exact⟨y,by simpa using h1,hy⟩
 ·rename_i l hno RJ;cases hv;obtain⟨Th,h1,h2⟩:=key RJ;have hlen:Th.length≠1:=by
   rw[h2.length];intro hl;obtain⟨z,hz⟩:=List.length_eq_one_iff.1 hl;exact hno z hz
  rw[dif_neg hlen]at h1;exact⟨_,h1,⟨Th,rfl,h2⟩⟩
 ·cases hv
theorem nY{fn xs}(hx:fn.results.toList.mapM (tQ P)=some xs){ts}(hv:cT xs ts h' =some v){m0 h0 w0 lo}(hlo:w0.heap.size<=lo):
  ∀(ds:List Deferred) (m:cp) (a:Act) (w:World),St P m ts h' a w->Grow m0 h0 w0 m h' w->Marks m w lo ds->LeavesInM Fence.wide 0 P fn a.tmps (Rel P m0 h0 w0 v h') ds .returning w
 |[],m,a,w,st,g,_=>by
  obtain⟨cv,h1,h2⟩:=vc st hx hv;exact⟨cv,h1,cv,m,rfl,h2,st.hr,g⟩
 |d::ds,m,a,w,st,g,k=>by
  obtain⟨rs,h1,h2,h3⟩:=k;cases rs with
  |nil=>simp at h1
  |cons r rs=>
   simp only[YR,List.cons.injEq]at h1;obtain⟨rfl,rfl⟩:=h1;obtain⟨hl,hh,hm⟩:=h3 r Si;have hoth:∀i,i≠r->(w.putObj r (.deferred none)).heap[i]? =w.heap[i]? :=λi hi=>World.putObj_heap_other hi
   refine⟨Si,.inl ⟨r,_,rfl,run_takeDeferred hh,?_⟩⟩;refine nY hx hv hlo _ m a _ ⟨⟨st.hr.cN,λb e k hb hk=>(st.hr.dU b e k hb hk).heap (hoth _ (hm b e hb)),st.hr.sep,st.hr.fZ,λb e hb=>by simpa using st.hr.lt b e hb⟩,st.ts⟩
    ⟨g.ext,g.len,g.new,g.tl,by simpa using g.size,g.os,g.out,g.tape,λi hi hno=>?_⟩ ⟨rs,rfl,(aat.1 h2).2,λr' hr'=>?_⟩
   ·rw[hoth i Om];exact g.frame i hi hno
   ·obtain⟨c1,c2,c3⟩:=h3 r' (YB _ hr');refine⟨c1,?_,c3⟩;rw[hoth r' (λx=>(aat.1 h2).1 (x▸hr'))];exact c2
def gL{f A}(hA:bV P f=some A):∃fn c,P.funcs[f]? =some fn/\fn.body=some c/\compile P c=some A.body/\fn.results.toList.mapM (tQ P)=some A.rs/\fn.ntmps=A.nt/\(fn.name == "runtime.NumGoroutine")=false:=by
 unfold bV at hA;split at hA
 case h_1=>cases hA
 rename_i fn hf;split at hA
 case h_1=>cases hA
 rename_i c hb;split at hA
 case h_2=>cases hA
 rename_i b rs hc hr;split at hA
 case isTrue=>cases hA
 rename_i hn;cases hA;exact⟨fn,c,hf,hb,hc,hr,rfl,by simpa using hn⟩
def lR.KA{f A}(hA:bV P f=some A){args e ts'}(hev:Ev P none A.body (aU A.nt args) h e ts' h')(he:e.leaves=true)(hv:cT A.rs ts' h' =some v):lR P f args h v h':=by
 intro m w vs hr hargs;obtain⟨fn,c,hf,hb,hc,hres,hnt,_⟩:=gL hA;rw[<-callsIn_wide (n:=0)];refine callsIn_of_wp_marks hf hb trivial ?_;refine hev c hc m _ w w.heap.size (X8 _) ⟨hr,?_⟩ (Marks.nil m w _) _ ?_
 ·have:((⟨vs⟩:Array Value)++Array.replicate (fn.ntmps-(⟨vs⟩:Array Value).size) undef).toList=vs++List.replicate (A.nt-args.length) undef:=by
   rw[hnt];simp[hargs.length]
  rw[this];refine cL.append hargs (cL.gZ Si λi x hx=>?_);rw[List.getElem?_replicate]at hx ⊢;split at hx
  ·rename_i hlt;cases hx;rw[X9 hlt];exact⟨undef,rfl,jR m⟩
  ·cases hx
 ·intro m' a' w' s g k;have:=nY hres hv (X8 _) a'.defers m' a' w' s g k;cases e<;>first|exact this|cases he
def fg.yI{f A}(hA:bV P f=some A){a c args}(hs:lR P f (a++args++c) h v h'):fg P (.func (.func f) a c) args h v h':=by
 intro m w cv vs hr hf hargs;rw[VR]at hf;obtain⟨f',a',c',rfl,hfn,ha,hc⟩:=hf;simp only[AF]at hfn;subst hfn;refine⟨_,λw=>rfl,?_⟩;obtain⟨fn,cc,hfn,hb,_,_,_,hn⟩:=gL hA;simp only[invoke];rw[kj hfn (by rw[hb];rfl) hn];show CallsIn Fence.wide 0 P f _ w _;rw[callsIn_wide];have:=hs m w (a'++vs++c') hr (cL.append (cL.append ha hargs) hc)
 simpa using this
def iL(P:Program)(u:TypeId)(name:String):Option FuncId:=
 match P.info? u,P.underlying u with
 |some i,some d=>
  match i.methods.find? (·.name==name)with
  |some m=>
   match m.path.toList,m.func,d with
   |[],some (_,false),.pointer _=>none
   |[],some (f,false),_=>some f
   |_,_,_=>none
  |none=>none
 |_,_=>none
def wU{u:TypeId}{name f}(hm:iL P u name=some f)(n:Nat)(v:Value)(w:World):(method (n+1) u v name).run P w=.ok (f,v) w:=by
 unfold iL at hm;split at hm
 case h_2=>cases hm
 rename_i i d hi hd;split at hm
 case h_2=>cases hm
 rename_i mm Tc;split at hm
 case h_3=>cases hm
 case h_1=>cases hm
 rename_i f' hp hfn hnp;cases hm;have hti:(typeInfo u).run P w=.ok i w:=by simp[typeInfo,hi]
 rw[method];simp only[Yh,hti,X7,Tc,hp,follow,Yy,hfn];have Ri:∀wr,(receiverAt u (.val v) false wr).run P w=.ok v w:=by
  intro wr;unfold receiverAt;simp only[Yh,Yg hd,X7];rfl
 simp only[Ri,X7]
def fg.DU{u:TypeId}{name f A}(hm:iL P u name=some f)(hA:bV P f=some A){a args}(hs:lR P f (a::args) h v h'):fg P (.func (.method name) [] []) (.qn u a::args) h v h':=by
 intro m w cv vs hr hf hargs;rw[VR]at hf;obtain⟨f',a',c',rfl,hfn,ha,hc⟩:=hf;simp only[AF]at hfn;subst hfn;rw[bD]at ha hc;subst ha;subst hc;obtain⟨x,vs,rfl,hx,RJ⟩:=aS.1 hargs;rw[VR]at hx;obtain⟨v',rfl,hx⟩:=hx;refine⟨_,λw=>rfl,?_⟩;obtain⟨fn,cc,hfn,hb,_,_,_,hn⟩:=gL hA;have e0:((#[]++(⟨.iface u v'::vs⟩:Array Value)):Array Value)[0]? =some (.iface u v'):=Si
 have e1:((#[]++(⟨.iface u v'::vs⟩:Array Value)):Array Value).extract 1 ((#[]++(⟨.iface u v'::vs⟩:Array Value)):Array Value).size=⟨vs⟩:=by
  apply aam;simp
 simp only[invoke,e0,e1,callMethod,Yh,program];have hmt:=wU hm (P.types.size+Made.depth-1) v' w;have hdep:0<Made.depth:=De
 have hne:P.types.size+Made.depth-1+1=P.types.size+Made.depth:=Om
 rw[hne]at hmt;show C5 P (Rel P m h w v h') ((Result.ok P w).andThen λa w'=>(Sem.run P (method (a.types.size+Made.depth) u v' name) w').andThen λa w'=>Sem.run P (callFunc a.fst (#[a.snd]++⟨vs⟩)) w');simp only[X7,hmt];rw[kj hfn (by rw[hb];rfl) hn];show CallsIn Fence.wide 0 P f _ w _;rw[callsIn_wide];have:=hs m w (v'::vs) hr (aS.2 ⟨_,_,rfl,hx,RJ⟩);have e2:(#[v']++(⟨vs⟩:Array Value))=⟨v'::vs⟩:=by apply aam;simp
 rw[e2];exact this
end
def setArgs:TS->List Nat->List AV->TS
 |ts,p::ps,v::vs=>setArgs (ts.set p v) ps vs
 |ts,_,_=>ts
section
variable {P:Program}{m:cp}{h h':ah}{w:World}{v:AV}
def HR.aside(hr:HR P m h w)(o:Obj):HR P m h (w.alloc o):=
 ⟨hr.cN,λb e k hb hk=>(hr.dU b e k hb hk).heap (Go.RowKit.Below.heap_alloc w o _ (hr.lt b e hb)),hr.sep,hr.fZ,λb e hb=>by have:=hr.lt b e hb;simp;omega⟩
def Grow.aside(hr:HR P m h w)(o:Obj):Grow m h w m h (w.alloc o):=
 ⟨λ_ _=>rfl,X8 _,λb e hb he=>absurd (hr.cN b e he) Om,λ_ _ h=>h,Si,rfl,rfl,rfl,λi hi _=>Go.RowKit.Below.heap_alloc w o i hi⟩
theorem pP:∀{ps}{args}{ts}{tmps}{vs},cL m ts tmps.toList->cL m args vs->cL m (setArgs ts ps args) ((ps.zip vs).foldl (λ(t:Array Value) (p:Nat×Value)=>t.setIfInBounds p.1 p.2) tmps).toList
 |[],_,_,_,_,ht,_=>by simpa [setArgs]using ht
 |p::ps,[],ts,tmps,vs,ht,ha=>by rw[bD]at ha;subst ha;simpa [setArgs]using ht
 |p::ps,x::args,ts,tmps,vs,ht,ha=>by
  obtain⟨y,ys,rfl,hy,hys⟩:=aS.1 ha;simp only[List.zip_cons_cons,aas,setArgs];exact pP (by rw[Array.toList_setIfInBounds];exact ht.set p hy) hys
theorem fg.yield{l ex ex2 ex4 e ts T7 ts3 tb tc ps pb pc asg body ab ac bb bc h2 h4 args st4}
  (hl:h[l]? =some (.loop .ready ex ts ps asg body)) (hlen:args.length=ps.length)
  (hasg:∀r,Ev P (some r) asg (setArgs ts ps args) h .normal T7 h2) (hl2:h2[l]? =some (.loop .ready ex2 tb pb ab bb))
  (hbody:∀r,Ev P (some r) body T7 (h2.set l (.loop .busy ex2 tb pb ab bb)) e ts3 h4) (hl4:h4[l]? =some (.loop st4 ex4 tc pc ac bc)):
  fg P (.func (.yield l) [] []) args h (.bool (decide (e=.normal))) (h4.set l (.loop (if e=.normal then .ready else .done) e tc pc ac bc)):=by
 intro m w cv vs hr hf hargs;rw[VR]at hf;obtain⟨f',a',c',rfl,hfn,ha,hc⟩:=hf;rw[bD]at ha hc;subst ha;subst hc;obtain⟨el,UO,rfl⟩:=hfn;refine⟨_,λw=>rfl,?_⟩;obtain⟨hown,fn,tmps,RM,Rg,df,hh,QP,Ru,hcb⟩:=hr.dU l el _ UO hl;have hy:=run_yield (P:=P) (args:=(#[]++⟨vs⟩:Array Value)) hh (by simp[hargs.length,hlen]);simp only[invoke];rw[hy];show RoundIn Fence.wide 0 P el.cb fn _ RM Rg w _;refine roundIn_of_wpIn trivial ?_;have S2:cL m (setArgs ts ps args) (((⟨ps⟩:Array Tmp).zip (#[]++⟨vs⟩:Array Value)).foldl (λtmps (t,a)=>tmps.setIfInBounds t a) tmps).toList:=by
  have:=pP (ps:=ps) QP hargs;rw[<-Array.foldl_toList,Array.toList_zip]
  simpa using this
 refine hasg el.cb RM Ru m _ w w.heap.size (X8 _) ⟨hr,S2⟩ (Marks.nil m w _) _ λm1 a1 w1 s1 g1 k1=>?_
 have VF:m1 l=some el:=by rw[g1.ext l (hr.cN _ _ UO)];exact UO
 obtain⟨_,fn2,VX,Wz,UX,df2,hh2,hts2,hca2,hcb2⟩:=s1.hr.dU l el _ VF hl2;refine⟨_,run_beginRound hh2 rfl,?_⟩;have hlt1:el.cb<w1.heap.size:=s1.hr.lt _ _ VF;obtain⟨R1,g2⟩:=jU s1.hr (o:=.loop {state:=.busy,pending:=ex2.jump,fn:=fn2,tmps:=VX,params:=⟨pb⟩,assign:=Wz,body:=UX,defers:=df2}) VF hl2 rfl (k':=.loop .busy ex2 tb pb ab bb) (.inl rfl)
  ⟨hown,fn2,VX,Wz,UX,df2,World.putObj_heap_same hlt1,hts2,hca2,hcb2⟩
 refine hbody el.cb Rg hcb m1 a1 _ w.heap.size (YI g1.size g2.size) ⟨R1,s1.ts⟩ (k1.grow g2 s1.hr.cN) _ λm2 a2 w3 s2 g3 k2=>?_
 have hl2':l<h2.length:=(XT.1 hl2).1;have XI:m2 l=some el:=by rw[g3.ext l (by simpa using hl2')];exact VF
 obtain⟨_,fn4,VW,Wy,UW,df4,hh4,hts4,hca4,hcb4⟩:=s2.hr.dU l el _ XI hl4;have RT:el.cb<w3.heap.size:=s2.hr.lt _ _ XI;have fin:∀j:Option Code,j=e.jump->∃v w',(Instr.endRound el.cb j).run P w3=.ok v w'/\Rel P m h w (.bool (decide (e=.normal))) (h4.set l (.loop (if e=.normal then .ready else .done) e tc pc ac bc)) (.returned v) w':=by
  rintro j rfl;obtain⟨hr4,g4⟩:=jU s2.hr (o:=.loop {state:=if e=.normal then .ready else .done,pending:=e.jump,fn:=fn4,tmps:=VW,params:=⟨pc⟩,assign:=Wy,body:=UW,defers:=df4}) XI hl4 rfl
   (k':=.loop (if e=.normal then .ready else .done) e tc pc ac bc) (.inl rfl) ⟨hown,fn4,VW,Wy,UW,df4,World.putObj_heap_same RT,hts4,hca4,hcb4⟩
  refine⟨_,_,run_endRound e.jump hh4,.bool (decide (e=.normal)),m2,?_,rfl,?_,?_⟩
  ·cases e<;>rfl
  ·have:(if e.jump.isNone=true then LoopState.ready else .done)=if e=.normal then .ready else .done:=by cases e<;>rfl
   simp only[this];exact hr4
  ·have:(if e.jump.isNone=true then LoopState.ready else .done)=if e=.normal then .ready else .done:=by cases e<;>rfl
   simp only[this];exact((g1.trans g2 hr.cN).trans g3 hr.cN).trans g4 hr.cN
 cases e with
 |normal=>exact fin none rfl
 |exit id=>exact fin (some (.exit id)) rfl
 |ret=>exact fin (some .ret) rfl
theorem Ev.eQ{g ps ps' asg body asg' body' ts ts' f A a c h2 st ex}(hA:bV P f=some A)(hg:val ts g=.func (.func f) a c)
  (hs:lR P f (a++[.func (.yield h.length) [] []]++c) (h++[.loop .ready .normal ts ps asg body]) v h2) (hl:h2[h.length]? =some (.loop st ex ts' ps' asg' body')) (bW:st≠.busy):
  Ev P none (.eQ g ps asg body) ts h ex ts (h2.set h.length .dead):=by
 refine Ev.of λcc hns Ug m act w lo hlo s hm Q hQ=>?_
 cases cc with
 |rangeFunc og cps RM Rg=>
  simp only[compile]at Ug;split at Ug
  case h_2=>cases Ug
  rename_i g' x' y' hgo Ru hcb;cases Ug;have hv:=BT s hgo;rw[hg,VR]at hv;obtain⟨f',ca,Rv,hev,hfn,ha,hc⟩:=hv;simp only[AF]at hfn;subst hfn;obtain⟨W1,TE⟩:∃W1,w.alloc (.deferred (some []))=W1:=⟨_,rfl⟩;have hsz1:W1.heap.size=w.heap.size+1:=by rw[<-TE];simp
  have hr1:HR P m h W1:=by rw[<-TE];exact s.hr.aside _
  have g1:Grow m h w m h W1:=by rw[<-TE];exact Grow.aside s.hr _
  have Ui:W1.heap[w.heap.size]? =some (.deferred (some [])):=by rw[<-TE];exact World.alloc_heap_new w _
  refine wpIn_rangeFunc λfn _=>?_
  obtain⟨rec,Ri⟩:∃rec:Loop,rec={state:=.ready,pending:=none,fn:=fn,tmps:=act.tmps,params:=cps,assign:=RM,body:=Rg,defers:=w.heap.size}:=⟨_,rfl⟩;obtain⟨R1,g2⟩:=ka hr1 (.loop rec) (.loop .ready .normal ts cps.toList asg body) ⟨W1.heap.size,0,0,true⟩ rfl rfl (λm' hm'=>⟨rfl,fn,act.tmps,RM,Rg,w.heap.size,by rw[Ri];exact World.alloc_heap_new W1 _,cL.mono hm' _ _ s.ts,Ru,hcb⟩);have hloc:(m.add h.length ⟨W1.heap.size,0,0,true⟩) h.length=some ⟨W1.heap.size,0,0,true⟩:=by simp[cp.add]
  have hle:m.le (m.add h.length ⟨W1.heap.size,0,0,true⟩):=g2.le s.hr.cN;have UN:=run_enterLoop_outer (P:=P) (w:=w) fn act.tmps cps RM Rg;rw[TE,<-Ri]at UN;obtain⟨ffn,fcode,hffn,hfb,_,_,_,XF⟩:=gL hA;have hmk:Marks (m.add h.length ⟨W1.heap.size,0,0,true⟩) (W1.alloc (.loop rec)) lo ([{target:=.collected w.heap.size,args:=#[] }]++act.defers):=by
   obtain⟨rs,k1,k2,k3⟩:=(hm.grow g1 s.hr.cN).grow g2 s.hr.cN;refine⟨w.heap.size::rs,by rw[k1];rfl,aat.2 ⟨λhin=>?_,k2⟩,λr hr'=>?_⟩
   ·obtain⟨rs0,j1,j2,j3⟩:=hm;have hrs:rs0=rs:=by
     have:rs0.map (λr=>({target:=.collected r,args:=#[] }:Deferred))=rs.map (λr=>({target:=.collected r,args:=#[] }:Deferred)):=by rw[<-j1,k1]
     exact List.map_inj_right (λx y hxy=>by simpa using hxy) |>.1 this
    subst hrs;have:=(Ye.1 (j3 _ hin).2.1).1;omega
   ·rcases YA.1 hr' with rfl|hr'
    ·refine⟨hlo,(Go.RowKit.Below.heap_alloc W1 _ _ Om).trans Ui,λb e hb=>?_⟩;unfold cp.add at hb;split at hb
     ·cases hb;show W1.heap.size≠_;omega
     ·have:=s.hr.lt b e hb;omega
    ·exact k3 r hr'
  refine⟨w.heap.size+1,_,W1.alloc (.loop rec),{target:=.fn (.func f) ⟨Rv⟩,args:=⟨ca⟩++#[.func (.yield (w.heap.size+1)) #[] #[]] },W1.alloc (.loop rec),f,(⟨ca⟩++#[.func (.yield (w.heap.size+1)) #[] #[]])++⟨Rv⟩,W1.alloc (.loop rec),
   UN,?_,λ_ _=>trivial,?_,λhd=>by simp[Fd,Fence.wide]at hd,?_⟩
  ·have UE:(#[Operand.const (.func (.yield (w.heap.size+1)) #[] #[])] :Array Operand).map act.eval=#[.func (.yield (w.heap.size+1)) #[] #[]]:=by simp[Act.eval]
   simp only[resolve,hev,rangeCall,UE];rfl
  ·simp only[invoke];exact kj hffn (by rw[hfb];rfl) XF
  ·have hargs:cL (m.add h.length ⟨W1.heap.size,0,0,true⟩) (a++[.func (.yield h.length) [] []]++c) (ca++[.func (.yield (w.heap.size+1)) #[] #[]]++Rv):=by
    refine cL.append (cL.append (cL.mono hle _ _ ha) (aS.2 ⟨_,[],rfl,⟨_,[],[],rfl,⟨_,hloc,by rw[hsz1]⟩,rfl,rfl⟩,bD.2 rfl⟩)) (cL.mono hle _ _ hc)
   have Tf:=hs _ _ _ R1 hargs;rw[<-callsIn_wide (n:=0)]at Tf;have XL:CallsIn (Fd none) (0-1) P f ((⟨ca⟩++#[.func (.yield (w.heap.size+1)) #[] #[]])++⟨Rv⟩) (W1.alloc (.loop rec)) (Rel P (m.add h.length ⟨W1.heap.size,0,0,true⟩) (h++[.loop .ready .normal ts cps.toList asg body]) (W1.alloc (.loop rec)) v h2):=by
    have RC:((⟨ca⟩++#[.func (.yield (w.heap.size+1)) #[] #[]])++⟨Rv⟩:Array Value)=⟨ca++[.func (.yield (w.heap.size+1)) #[] #[]]++Rv⟩:=by apply aam;simp
    rw[RC];exact Tf
   refine XL.mono ?_;rintro e3 w3 ⟨cv,m3,rfl,hv3,hr3,g3⟩;have Wh:m3 h.length=some ⟨W1.heap.size,0,0,true⟩:=by rw[g3.ext h.length Si];exact hloc
   obtain⟨hown3,fn3,tmps3,casg3,XR,df3,hh3,_⟩:=hr3.dU h.length _ _ Wh hl;simp only at hh3;have SP:=run_endLoop (P:=P) (l:=W1.heap.size) hh3 (by simpa using bW);obtain⟨hr4,g4⟩:=jU hr3 (o:=.loop {state:=.exhausted,pending:=ex.jump,fn:=fn3,tmps:=tmps3,params:=⟨ps'⟩,assign:=casg3,body:=XR,defers:=df3}) Wh hl rfl (k':=.dead) (.inr rfl) trivial;have So:=hQ m3 {act with defers:=[{target:=.collected w.heap.size,args:=#[] }]++act.defers} _ ⟨hr4,cL.mono ((g2.trans g3 s.hr.cN).le s.hr.cN) _ _ s.ts⟩ (((g1.trans g2 s.hr.cN).trans g3 s.hr.cN).trans g4 s.hr.cN) ((hmk.grow g3 R1.cN).grow g4 hr3.cN);refine⟨ex.jump,_,by rw[<-hsz1];exact SP,?_⟩
   cases ex with
   |normal=>exact So
   |exit id=>exact wpIn_exit So
   |ret=>exact wpIn_ret So
 |scope a=>exact absurd rfl (hns a)
 |region id ops draw=>rcases dY (by simpa only[compile]using Ug)with⟨_,h1,_⟩|⟨_,h1,_⟩|⟨_,h1,_⟩<;>cases h1
 |block id a=>simp[compile]at Ug
 |loop a=>simp[compile]at Ug
 |_=>
  simp only[compile]at Ug
  (repeat' split at Ug)
  all_goals cases Ug
end
inductive iH where
 |au
 |push (k:ak)
 |set (b:Nat) (k:ak)
 |nP (b:Nat) (k k':ak)
 deriving Inhabited
def iH.app:iH->ah->ah
 |.au,h=>h
 |.push k,h=>h++[k]
 |.set b k,h=>h.set b k
 |.nP b k k',h=>h.set b k++[k']
def ff(es:Nat)(G:Nat->Option ak):AV->Option (List AV×Nat)
 |.af=>some ([],0)
 |.slice b o n es'=>
  if es' =es then
   match G b with
   |some (.cells c _ _)=>if o+n*es<=c.length then some ((c.drop o).take (n*es),n)else none
   |_=>none
  else none
 |.str s=>if es=1 then some (s.map λb=>.int .u8 b.toNat,s.length)else none
 |_=>none
def iV(lk:LK)(G:Nat->Option ak):AV->Option Nat
 |.str s=>if lk=.st then some s.length else none
 |.slice _ _ n _=>if lk=.sl then some n else none
 |.af=>if lk=.sl then some 0 else none
 |.map r=>
  match G r with
  |some (.bo es)=>if lk=.mp then some es.length else none
  |_=>none
 |.cY=>if lk=.mp then some 0 else none
 |_=>none
def mK(k:zj)(x:AV)(G:Nat->Option ak)(N0:Nat):Option (AV×iH):=
 match k with
 |.ub k=>
  match x with
  |.int _ n=>some (.int k (k.wrap n),.au)
  |_=>none
 |.same=>
  match x with
  |.str s=>some (.str s,.au)
  |_=>none
 |.Od k=>
  match x with
  |.int _ n=>some (.wG k (k.nearest n),.au)
  |_=>none
 |.Oy k=>
  match x with
  |.wG s b=>
   match (s.decode b).toInt .zero with
   |some n=>if DY s b=false/\k.min<=n/\n<=k.max then some (.int k n,.au)else none
   |none=>none
  |_=>none
 |.Oz k=>
  match x with
  |.wG s b=>if s=k then some (.wG k b,.au)else none
  |_=>none
 |.qn u=>some (.qn u x,.au)
 |.IW=>
  match x with
  |.af=>some (.str [],.au)
  |.slice b o n es=>
   match ff 1 G (.slice b o n es)with
   |some (l,_)=>
    match l.mapM byteOf with
    |some r=>some (.str r,.au)
    |none=>none
   |none=>none
  |_=>none
 |.Nc=>
  match x with
  |.str s=>some (.slice N0 0 s.length 1,.push (.cells (s.map λb=>.int .u8 b.toNat) true true))
  |_=>none
def ni(k:o6):(c6->AV)->(Nat->Option ak)->Nat->Option (AV×iH):=
 match k with
 |.aI x=>λρ G N0=>some (ρ x,.au)
 |.pick c a b=>λρ G N0=>
  match ρ c with
  |.bool t=>some (if t then ρ a else ρ b,.au)
  |_=>none
 |.box x=>λρ G N0=>if(ρ x).cells.all AV.one then some (.ptr N0 0,.push (.cells (ρ x).cells true false))else none
 |.nw n x=>λρ G N0=>if(ρ x).cells.all AV.one=true/\(ρ x).cells.length=n then some (.ptr N0 0,.push (.cells (ρ x).cells true false))else none
 |.build z ps=>λρ G N0=>
  match eM z (ps.map λp=>(p.1,p.2.1,ρ p.2.2))with
  |some c=>some (.agg c,.au)
  |none=>none
 |.load n a=>λρ G N0=>
  match ρ a with
  |.ptr b o=>
   match G b with
   |some (.cells c _ _)=>
    match n with
    |none=>
     match c[o]? with
     |some x=>some (x,.au)
     |none=>none
    |some n=>if o+n<=c.length then some (.agg ((c.drop o).take n),.au)else none
   |_=>none
  |_=>none
 |.store n a x=>λρ G N0=>
  match ρ a with
  |.ptr b o=>
   match G b with
   |some (.cells c true tl)=>
    if(ρ x).cells.length=n/\(ρ x).cells.all AV.one=true/\o+n<=c.length then some (az,.set b (.cells (fN c o (ρ x).cells) true tl))else none
   |_=>none
  |_=>none
 |.bz x=>λρ G N0=>
  match ρ x with
  |.ptr b o=>some (.ptr b o,.au)
  |.func (.func f) a c=>some (.func (.func f) a c,.au)
  |.func (.yield f) a c=>some (.func (.yield f) a c,.au)
  |.func (.methodOf t n) a c=>some (.func (.methodOf t n) a c,.au)
  |.func (.via t p f q) a c=>some (.func (.via t p f q) a c,.au)
  |_=>none
 |.bin op x y=>λρ G N0=>
  match ez op (ρ x) (ρ y)with
  |some v=>some (v,.au)
  |none=>none
 |.eqv neg t x y=>λρ G N0=>
  match pC t (ρ x) (ρ y)with
  |some b=>some (.bool (if neg then !b else b),.au)
  |none=>none
 |.un op x=>λρ G N0=>
  match wL op (ρ x)with
  |some v=>some (v,.au)
  |none=>none
 |.conv k x=>λρ G N0=>mK k (ρ x) G N0
 |.kY f a c=>λρ G N0=>some (.func f (a.map ρ) (c.map ρ),.au)
 |.lF=>λρ G N0=>some (.map N0,.push (.bo []))
 |.si es w z l c=>λρ G N0=>
  match ρ l,ρ c with
  |.int _ l,.int _ c=>
   if 0<=l/\l<=c/\(w:Int)*c<=2^48/\c<2^63 then some (.slice N0 0 l.toNat es,.push (.cells (dP l.toNat z) true true))else none
  |_,_=>none
 |.sl es x lo hi=>λρ G N0=>
  match ρ x with
  |.slice b o n es'=>
   if es' =es then
    match iZ (lo.map ρ) (hi.map ρ) n with
    |some (l,h')=>some (.slice b (o+l*es) (h'-l) es,.au)
    |none=>none
   else none
  |.af=>
   match iZ (lo.map ρ) (hi.map ρ) 0 with
   |some _=>some (.af,.au)
   |none=>none
  |_=>none
 |.pO x lo hi=>λρ G N0=>
  match ρ x with
  |.str s=>
   match iZ (lo.map ρ) (hi.map ρ) s.length with
   |some (l,h')=>some (.str ((s.drop l).take (h'-l)),.au)
   |none=>none
  |_=>none
 |.Mx k es x lo hi=>λρ G N0=>
  match ρ x with
  |.ptr b o=>
   match G b with
   |some (.cells c _ _)=>
    if o+k*es<=c.length then
     match iZ (lo.map ρ) (hi.map ρ) k with
     |some (l,h')=>some (.slice b (o+l*es) (h'-l) es,.au)
     |none=>none
    else none
   |_=>none
  |_=>none
 |.aR off x=>λρ G N0=>
  match ρ x with
  |.ptr b o=>some (.ptr b (o+off),.au)
  |_=>none
 |.bf es x i=>λρ G N0=>
  match ρ x,ρ i with
  |.slice b o n es',.int _ i=>if es' =es/\0<=i/\i<n then some (.ptr b (o+i.toNat*es),.au)else none
  |_,_=>none
 |.iX len es x i=>λρ G N0=>
  match ρ x,ρ i with
  |.ptr b o,.int _ i=>if 0<=i/\i<len then some (.ptr b (o+i.toNat*es),.au)else none
  |_,_=>none
 |.part n off x=>λρ G N0=>
  match ρ x with
  |.agg cs=>
   match n with
   |none=>
    match cs[off]? with
    |some v=>some (v,.au)
    |none=>none
   |some n=>some (.agg ((cs.drop off).take n),.au)
  |_=>none
 |.IU len es n x i=>λρ G N0=>
  match ρ x,ρ i with
  |.agg cs,.int _ i=>
   if 0<=i/\i<len then
    match n with
    |none=>
     match cs[i.toNat*es]? with
     |some v=>some (v,.au)
     |none=>none
    |some n=>some (.agg ((cs.drop (i.toNat*es)).take n),.au)
   else none
  |_,_=>none
 |.qm x i=>λρ G N0=>
  match ρ x,ρ i with
  |.str s,.int _ i=>
   if 0<=i then
    match s[i.toNat]? with
    |some b=>some (.int .u8 b.toNat,.au)
    |none=>none
   else none
  |_,_=>none
 |.look kk z ok m k=>λρ G N0=>
  match ρ m with
  |.cY=>some (if ok then .dN [z,.bool false]else z,.au)
  |.map r=>
   match G r with
   |some (.bo es)=>
    match jq kk (ρ k) es with
    |some (some v)=>some (if ok then .dN [v,.bool true]else v,.au)
    |some none=>some (if ok then .dN [z,.bool false]else z,.au)
    |none=>none
   |_=>none
  |_=>none
 |.fu kk m k x=>λρ G N0=>
  match ρ m with
  |.map r=>
   match G r with
   |some (.bo es)=>
    match pe kk (ρ k) (ρ x) es with
    |some es'=>some (az,.set r (.bo es'))
    |none=>none
   |_=>none
  |_=>none
 |.wX x=>λρ G N0=>
  match ρ x with
  |.str s=>some (.ptr N0 0,.push (.iter s 0))
  |_=>none
 |.nV x=>λρ G N0=>
  match ρ x with
  |.ptr b 0=>
   match G b with
   |some (.iter s pos)=>
    if pos<s.length then
     let d:=Utf8.decode ⟨⟨s⟩⟩ pos
     some (.dN [.bool true,.int .i64 pos,.int .i32 d.1],.set b (.iter s (pos+d.2)))
    else some (.dN [.bool false],.au)
   |_=>none
  |_=>none
 |.ext x i=>λρ G N0=>
  match ρ x with
  |.dN l=>
   match l[i]? with
   |some v=>some (v,.au)
   |none=>none
  |_=>none
 |.len lk x=>λρ G N0=>
  match iV lk G (ρ x)with
  |some n=>some (.int .i64 n,.au)
  |none=>none
 |.zM n=>λρ G N0=>some (.int .i64 n,.au)
 |.wI es x y=>λρ G N0=>
  match ρ x,ff es G (ρ y)with
  |.slice b o n es',some (ys,k)=>
   if es' =es then
    if min k n=0 then some (.int .i64 0,.au)
    else
     match G b with
     |some (.cells c true tl)=>if o+min k n*es<=c.length then some (.int .i64 (min k n:Nat),.set b (.cells (fN c o (ys.take (min k n*es))) true tl))else none
     |_=>none
   else none
  |.af,some _=>some (.int .i64 0,.au)
  |_,_=>none
 |.mx x l=>λρ G N0=>
  match iC pX (ρ x) (l.map ρ)with
  |some v=>some (v,.au)
  |none=>none
 |.mn x l=>λρ G N0=>
  match iC pW (ρ x) (l.map ρ)with
  |some v=>some (v,.au)
  |none=>none
 |_=>λρ G N0=>none
def pF(es w:Nat)(s y:AV)(G:Nat->Option ak)(N0:Nat):Option (AV×iH):=
 match ff es G y with
 |none=>none
 |some (ys,k)=>
  match s with
  |.af=>if k=0 then(if ys.isEmpty then some (.af,.au)else none)else if k*w<=2^46 then some (.slice N0 0 k es,.push (.cells ys true true))else none
  |.slice b o m es'=>
   if es' =es then
    if k=0 then(if ys.isEmpty then some (.slice b o m es,.au)else none)
    else if(m+k)*w<=2^46 then
     match G b with
     |some (.cells c true true)=>if o+m*es<=c.length then some (.slice N0 0 (m+k) es,.nP b .dead (.cells ((c.drop o).take (m*es)++ys) true true))else none
     |some (.cells c false true)=>if o+m*es=c.length then some (.slice N0 0 (m+k) es,.nP b (.cells c false false) (.cells (c.drop o++ys) false true))else none
     |some (.cells c true false)=>if o+m*es=c.length then some (.slice N0 0 (m+k) es,.push (.cells (c.drop o++ys) true true))else none
     |_=>none
    else none
   else none
  |_=>none
def stepT(k:o6):(c6->AV)->(Nat->Option ak)->Nat->Option (AV×iH):=
 match k with
 |.call _ _=>λ_ _ _=>none
 |.app es w x y=>λρ G N0=>pF es w (ρ x) (ρ y) G N0
 |.aF es n z ps=>λρ _ N0=>
  match eM (dP n z) (ps.map λp=>(p.1,es,ρ p.2))with
  |some c=>if c.all AV.one=true/\c.length=n*es then some (.slice N0 0 n es,.push (.cells c true (!Nat.beq n 0)))else none
  |none=>none
 |k=>ni k
def pD(es:Nat)(h:ah)(x:AV):ff es (λb=>h[b]?) x=cellsIn es h x:=by
 cases x<;>rfl
def D1(lk:LK)(h:ah)(x:AV):iV lk (λb=>h[b]?) x=zN lk h x:=by
 cases x<;>rfl
def Cv{k x h v e}(hs:mK k x (λb=>h[b]?) h.length=some (v,e)):j8 k x h=some (v,e.app h):=by
 cases k<;>simp only[mK,pD]at hs<;>(repeat' split at hs)<;>first|(cases hs;done)|(cases hs;simp[j8,iH.app, *])
def HI{k ρ h v e}(hs:ni k ρ (λb=>h[b]?) h.length=some (v,e)):dA k ρ h=some (v,e.app h):=by
 cases k with
 |conv k x=>exact Cv (k:=k) (x:=ρ x) hs
 |si es w z l c=>
  simp only[ni]at hs;split at hs
  case h_2=>cases hs
  rename_i kl il kc ic hl hc;split at hs
  case isFalse=>cases hs
  rename_i Q9;cases hs;simp only[dA,hl,hc];rw[X9 Q9];rfl
 |_=>simp only[ni,pD,D1]at hs<;>(repeat' split at hs)<;>first|(cases hs;done)|(cases hs;simp[dA,iH.app, *])
def nK{k ρ h v e}(hs:stepT k ρ (λb=>h[b]?) h.length=some (v,e)):mM k ρ h v (e.app h):=by
 have hf:∀k,ni k ρ (λb=>h[b]?) h.length=some (v,e)->dA k ρ h=some (v,e.app h):=λk hk=>HI hk
 cases k with
 |call f args=>cases hs
 |app es w x y=>
  simp only[stepT,pF,pD]at hs;show wE es w (ρ x) (ρ y) h v (e.app h);split at hs
  ·cases hs
  rename_i ys k hy;split at hs
  ·rename_i hx;rw[hx];split at hs
   ·rename_i hk;split at hs
    ·rename_i hys;cases hs;subst hk;exact .none (by rw[hy];cases ys<;>first|rfl|cases hys) (.inl rfl)
    ·cases hs
   ·split at hs
    ·rename_i hk hb;cases hs;exact .new ys k true hy Om hb rfl
    ·cases hs
  ·rename_i b o m es' hx;rw[hx];split at hs
   case isFalse=>cases hs
   rename_i hes;subst hes;split at hs
   ·rename_i hk;split at hs
    ·rename_i hys;cases hs;subst hk;exact .none (by rw[hy];cases ys<;>first|rfl|cases hys) (.inr ⟨b,o,m,rfl⟩)
    ·cases hs
   ·rename_i hk;split at hs
    case isFalse=>cases hs
    rename_i hb;split at hs
    ·rename_i c hc;split at hs
     case isFalse=>cases hs
     rename_i hl;cases hs;exact .over ys k b o m c true hy Om hb rfl hc hl
    ·rename_i c hc;split at hs
     case isFalse=>cases hs
     rename_i hl;cases hs;exact .on ys k b o m c false hy Om hb rfl hc hl
    ·rename_i c hc;split at hs
     case isFalse=>cases hs
     rename_i hl;cases hs;exact .full ys k b o m c hy Om hb rfl hc hl
    ·cases hs
  ·cases hs
 |aF es n z ps=>
  simp only[stepT]at hs;split at hs
  case h_2=>cases hs
  rename_i c hc;split at hs
  case isFalse=>cases hs
  rename_i Q9;cases hs;exact⟨c,true,_,hc,Q9.1,Q9.2,rfl,rfl⟩
 |_=>exact hf _ hs
inductive Acc where
 |no
 |rd (b:Nat)
 |wr (b:Nat) (k:ak)
def Acc.dU:Acc->Option Nat
 |.no=>none
 |.rd b=>some b
 |.wr b _=>some b
def Acc.app(h:ah):Acc->ah
 |.wr b k=>h.set b k
 |_=>h
def zF{k}(hk:fA k=true){ρ G G' N N'}:stepT k ρ G N=stepT k ρ G' N':=by
 cases k<;>first|(cases hk;done)|rfl|skip
 case conv c x=>cases c<;>first|(cases hk;done)|rfl
 case len lk x=>
  have hl:lk≠.mp:=λe=>by rw[e]at hk;cases hk
  have e:iV lk G (ρ x)=iV lk G' (ρ x):=by
   cases lk<;>first|exact absurd rfl hl|skip
   all_goals
    cases ρ x<;>first|rfl|(simp only[iV,reduceCtorEq,Yb];repeat' split)<;>rfl
  simp only[stepT,ni,e]
def zL{n a ρ G G' N N' b o}(ha:ρ a=.ptr b o)(hb:G b=G' b):stepT (.load n a) ρ G N=stepT (.load n a) ρ G' N':=by
 simp only[stepT,ni,ha,hb]
def wM{n a x ρ G G' N N' b o}(ha:ρ a=.ptr b o)(hb:G b=G' b):stepT (.store n a x) ρ G N=stepT (.store n a x) ρ G' N':=by
 simp only[stepT,ni,ha,hb]
def wD(o:bI)(ts:TS)(h:ah)(v:AV)(c:Acc):Prop:=
 (¬wanted o.gd ts/\c=.no/\v=az)\/wanted o.gd ts/\((fA o.k=true/\c=.no/\stepT o.k (val ts) (λz=>h[z]?) h.length=some (v,.au))\/
  (∃n a b off,o.k=.load n a/\val ts a=.ptr b off/\c=.rd b/\stepT o.k (val ts) (λz=>h[z]?) h.length=some (v,.au))\/
  (∃n a x b off k,o.k=.store n a x/\val ts a=.ptr b off/\c=.wr b k/\stepT o.k (val ts) (λz=>h[z]?) h.length=some (v,.set b k)))
theorem wD.run{P o ts h g v c}(hs:wD o ts h v c)(hb:∀b,c.dU=some b->g[b]? =h[b]?):dD P o ts g (put ts o.dst v) (c.app g):=by
 rcases hs with⟨hw,rfl,rfl⟩|⟨hw,hs⟩
 ·exact .skip hw
 rcases hs with⟨hp,rfl,hs⟩|⟨n,a,b,off,hk,ha,rfl,hs⟩|⟨n,a,x,b,off,k,hk,ha,rfl,hs⟩
 ·refine .run hw ?_ ?_
  ·cases hk:o.k<;>rw[hk]at hp<;>first|(cases hp;done)|trivial
  ·rw[zF hp (G':=λz=>g[z]?) (N':=g.length)]at hs;have:=nK hs;cases hk:o.k<;>rw[hk]at hp this<;>first|(cases hp;done)|exact this
 ·rw[hk]at hs;rw[zL ha (G':=λz=>g[z]?) (N':=g.length) (hb b rfl).symm]at hs;exact Jc
 ·rw[hk]at hs;rw[wM ha (G':=λz=>g[z]?) (N':=g.length) (hb b rfl).symm]at hs;exact Jc
def AD:List bI->TS->ah->List Acc->TS->Prop
 |[],ts,_,cs,ts'=>cs=[]/\ts' =ts
 |o::r,ts,h,cs,ts'=>∃v c cs1,wD o ts h v c/\cs=c::cs1/\AD r (put ts o.dst v) h cs1 ts'
theorem AD.row{h}:∀{l}{ts ts'}{cs},AD l ts h cs ts'->∃T:Nat->TS,T 0=ts/\T l.length=ts'/\cs.length=l.length/\∀j o,l[j]? =some o->∃v c,cs[j]? =some c/\wD o (T j) h v c/\T (j+1)=put (T j) o.dst v
 |[],ts,ts',cs,hs=>by
  obtain⟨rfl,rfl⟩:=hs;exact⟨λ_=>ts',rfl,rfl,rfl,λj o ho=>by simp at ho⟩
 |o::r,ts,ts',cs,hs=>by
  obtain⟨v,c,cs1,bW,rfl,hr⟩:=hs;obtain⟨T,hT,Se,hl,hrow⟩:=hr.row;refine⟨λi=>match i with| 0=>ts|i+1=>T i,rfl,Se,by simp[hl],λj x hx=>?_⟩;cases j with
  |zero=>simp at hx;subst hx;exact⟨v,c,rfl,bW,hT⟩
  |succ j=>
   obtain⟨v',c',h1,h2,h3⟩:=hrow j x (by simpa using hx);exact⟨v',c',by simpa using h1,h2,h3⟩
def dR:ah->List Acc->ah
 |h,[]=>h
 |h,c::cs=>dR (c.app h) cs
def eZ:List Acc->Prop
 |[]=>True
 |c::cs=>(∀b,c.dU=some b->∀x∈cs,x.dU=some b->∀k k',c=Acc.wr b k\/x=Acc.wr b k'->False)/\eZ cs
theorem eZ.ne:∀{cs:List Acc},eZ cs->∀{i j b:Nat}{k:ak}{c:Acc},cs[i]? =some (.wr b k)->i≠j->cs[j]? =some c->c.dU≠some b
 |[],_,i,j,b,k,c,h1,_,_=>by simp at h1
 |x::xs,h,i,j,b,k,c,h1,hij,h2=>by
  intro hc;cases i with
  |zero=>
   simp at h1;subst h1;cases j with
   |zero=>exact hij rfl
   |succ j=>exact h.1 b rfl c (YO (by simpa using h2)) hc k k (.inl rfl)
  |succ i=>
   cases j with
   |zero=>
    simp at h2;subst h2;exact h.1 b hc _ (YO (by simpa using h1)) rfl k k (.inr rfl)
   |succ j=>exact eZ.ne h.2 (i:=i) (j:=j) (by simpa using h1) Om (by simpa using h2) hc
def uu(h:ah)(c:Acc):(c.app h).length=h.length:=by cases c<;>simp[Acc.app]
def yc{h:ah}{c:Acc}{b:Nat}(hb:∀k,c=.wr b k->False):(c.app h)[b]? =h[b]? :=by
 cases c with
 |wr b' k=>
  have:b'≠b:=λe=>hb k (by rw[e])
  simp[Acc.app,Yc this]
 |_=>rfl
theorem pI:∀{cs:List Acc}{h:ah}{b:Nat},(∀(j:Nat) (k:ak),cs[j]? =some (Acc.wr b k)->False)->(dR h cs)[b]? =h[b]?
 |[],h,b,_=>rfl
 |c::cs,h,b,hb=>by
  rw[dR,pI (λj k hj=>hb (j+1) k (by simpa using hj))];exact yc λk hk=>hb 0 k (by simp[hk])
theorem tI:∀{cs:List Acc}{h:ah},eZ cs->∀{j b:Nat}{k:ak},b<h.length->cs[j]? =some (.wr b k)->(dR h cs)[b]? =some k
 |[],h,_,j,b,k,_,hj=>by simp at hj
 |c::cs,h,ho,j,b,k,hb,hj=>by
  cases j with
  |zero=>
   simp at hj;subst hj;rw[dR,pI (λj k' hj=>eZ.ne ho (i:=0) (j:=j+1) (b:=b) (k:=k) rfl Om (by simpa using hj) rfl)];simp[Acc.app,hb]
  |succ j=>
   rw[dR];exact tI ho.2 (by rw[uu];exact hb) (by simpa using hj)
structure zh(h:ah)(cs:List Acc)(S:Nat->Bool)(g:ah):Prop where
 len:g.length=h.length
 wr:∀j b k,S j=true->cs[j]? =some (.wr b k)->g[b]? =some k
 ne:∀b,(∀j k,S j=true->cs[j]? =some (.wr b k)->False)->g[b]? =h[b]?
def zh.all{h g:ah}{cs:List Acc}{S:Nat->Bool}(H:zh h cs S g)(ho:eZ cs)(hS:∀j c,cs[j]? =some c->S j=true):g=dR h cs:=by
 apply aag
 intro b;by_cases hx:∃(j:Nat) (k:ak),cs[j]? =some (Acc.wr b k)
 ·obtain⟨j,k,hj⟩:=hx;have h1:=H.wr j b k (hS j _ hj) hj;have:b<h.length:=by rw[<-H.len];exact(XT.1 h1).1
  rw[h1,tI ho this hj]
 ·rw[H.ne b λj k _ hj=>hx ⟨j,k,hj⟩,pI λj k hj=>hx ⟨j,k,hj⟩]
def tR{P:Program}(hmix:P.follows .mixedOrders=true){ops:Array Oper}{l:List bI}(hed:kv (Region.before ops) ops=true)(hsl:lX (Region.before ops) ops=true)
  (hc:eO (λ_ o=>bU P ops false o) ops.toList 0=some l) {ts ts':TS}{h:ah}{cs:List Acc}(hs:AD l ts h cs ts') (hok:eZ cs) {m:cp}{a:Act}{w:World}
  (st:St P m ts h a w) (ro:Option Nat) (Q:Exit->Act->World->Prop) (hQ:∀m' a' w',St P m' ts' (dR h cs) a' w'->Grow m h w m' (dR h cs) w'->a'.defers=a.defers->Q .normal a' w') (id:Nat):
  (Code.region id ops true).wpIn (Fd ro) 0 P Q a w:=by
 refine wpIn_region_any hmix ?_;obtain⟨T,rfl,rfl,hcl0,hrow⟩:=hs.row;obtain⟨Q8,QY⟩:=gh hc;simp only[Z5]at Q8;have UQ:∀(j:Nat) (io:bI),l[j]? =some io->∃o,ops[j]? =some o/\bU P ops false o=some io:=λj io hj=>by
  exact MN
 have RY:∀(j:Nat) (io:bI) (d:Nat),l[j]? =some io->io.dst=some d->∃o,ops[j]? =some o/\o.dst=some d:=λj io d hj hd=>by
  exact z76
 have huniq:∀(i j:Nat) (oi oj:bI) (d:Nat),l[i]? =some oi->l[j]? =some oj->oi.dst=some d->oj.dst=some d->i=j:=λi j oi oj d hi hj h1 h2=>by
  exact MP
 have hTl:∀j,j<=l.length->(T j).length=(T 0).length:=by
  intro j
  induction j with
  |zero=>intro _;rfl
  |succ j ih=>
   intro hj;obtain⟨v,c,_,_,hv⟩:=hrow j _ (XY (show j<l.length by omega));rw[hv,mY];exact ih Om
 have Q5:∀x y t,x<=y->y<=l.length->(∀(j:Nat) (o:bI),x<=j->j<y->l[j]? =some o->o.dst≠some t)->(T y).getD t az=(T x).getD t az:=by
  intro x y t hxy hy hno;have:=uG (T:=T) (t:=t) (a:=x) (y-x) (λj h1 h2=>by
   have hj:l[j]? =some (l[j]'Om):=XY Om;obtain⟨v,c,_,_,hv⟩:=hrow j _ hj;exact⟨_,v,hv,hno j _ h1 Om hj⟩)
  rwa [show x+(y-x)=y from by omega]at this
 have hdone:∀(listed:Array Bool) (g:ah) (a1:Act) (w1:World),(∀i,i<ops.size->listed.getD i false=true)->zh h cs (λj=>listed.getD j false) g->HR P m g w1->Grow m h w m g w1->a1.tmps.size=(T 0).length->
   (∀(d:Nat),(∀(j:Nat) (o:bI),l[j]? =some o->listed.getD j false=true->o.dst≠some d)->VR m ((T 0).getD d az) (a1.tmps.getD d undef))->
   (∀(d j:Nat) (o:bI),l[j]? =some o->listed.getD j false=true->o.dst=some d->VR m ((T (j+1)).getD d az) (a1.tmps.getD d undef))->a1.defers=a.defers->Q .normal a1 w1:=by
  intro listed g a1 w1 hall H hr hg eC h1 h2 hd;have e:=H.all hok λj c hj=>hall j (by have:=(XT.1 hj).1;omega)
  subst e;refine hQ m a1 w1 ⟨hr,cL.gZ ?_ ?_⟩ hg hd
  ·exact GB
  ·intro t x hx;exact P6
 have key:∀(fuel:Nat) (listed:Array Bool) (g:ah) (a1:Act) (w1:World),listed.size=ops.size->qP listed ops.size<=fuel->
   (∀j x,listed.getD j false=true->x<ops.size->ahead (Region.before ops) x j=true->listed.getD x false=true)->
   zh h cs (λj=>listed.getD j false) g->HR P m g w1->Grow m h w m g w1->a1.tmps.size=(T 0).length->
   (∀(d:Nat),(∀(j:Nat) (o:bI),l[j]? =some o->listed.getD j false=true->o.dst≠some d)->VR m ((T 0).getD d az) (a1.tmps.getD d undef))->
   (∀(d j:Nat) (o:bI),l[j]? =some o->listed.getD j false=true->o.dst=some d->VR m ((T (j+1)).getD d az) (a1.tmps.getD d undef))->a1.defers=a.defers->wpAnyIn (Fd ro) 0 P .any ops Q fuel listed a1 w1:=by
  intro fuel
  induction fuel with
  |zero=>
   intro listed g a1 w1 Q6 hu hcl H hr hg eC h1 h2 hd;have hall:=lq ops.size (show qP listed ops.size=0 by omega);exact⟨mg Q6 hall,hdone listed g a1 w1 hall H hr hg eC h1 h2 hd⟩
  |succ fuel ih=>
   intro listed g a1 w1 Q6 hu hcl H hr hg eC h1 h2 hd;refine⟨λhrn=>hdone listed g a1 w1 (l9 hed Q6 hrn) H hr hg eC h1 h2 hd,λi hi=>?_⟩;obtain⟨o,ho,RU,VG⟩:=(je Q6).1 hi;have hin:i<ops.size:=(Ye.1 ho).1;obtain⟨io,hio,Q2⟩:=QY i o (by simpa using ho);obtain⟨v,c,hci,bW,hTi⟩:=hrow i io hio;have hahead:∀x,x<ops.size->ahead (Region.before ops) x i=true->listed.getD x false=true:=λx hx ha=>by
    exact Mu
   have SR:∀j x,(listed.setIfInBounds i true).getD j false=true->x<ops.size->ahead (Region.before ops) x j=true->(listed.setIfInBounds i true).getD x false=true:=by
    intro j x hj hx ha;exact z40
   have Ut:qP (listed.setIfInBounds i true) ops.size<=fuel:=by
    exact z80
   have hslot:∀t,t∈o.looksAt ops->VR m ((T i).getD t az) (a1.tmps.getD t undef):=by
    intro t ht;exact z12
   have Tg:∀b,c.dU=some b->g[b]? =h[b]? :=λb hb=>H.ne b λj k hj Wj=>by
    by_cases e1:j=i
    ·subst e1
     try simp only at hj
     rw[RU]at hj;cases hj
    ·exact eZ.ne hok Wj e1 hci hb
   refine fB ho Q2 hr.gv hr (by rw[eC,hTl i Om]) hslot (bW.run (P:=P) Tg) ro _ Q ?_;intro cv v' m' w' Se Sy hr' Re;have Rl:io.dst=o.dst:=(dy Q2).1;have hm:m' =m:=by
    funext b;by_cases hb:b<g.length
    ·exact Re.ext b hb
    ·have e1:m b=none:=by
      cases hx:m b with
      |none=>rfl
      |some e=>exact absurd (hr.cN b e hx) hb
     have e2:m' b=none:=by
      cases hx:m' b with
      |none=>rfl
      |some e=>exact absurd (by have:=hr'.cN b e hx;rwa [uu]at this) hb
     rw[e1,e2]
   subst hm;have hlt:(listed.setIfInBounds i true).getD i false=true:=by rw[da Om,X9 rfl]
   have hne:∀j,j≠i->(listed.setIfInBounds i true).getD j false=listed.getD j false:=λj hj=>by rw[da Om,X5 hj]
   have TU:(a1.put o.dst cv).tmps=gR a1.tmps o.dst cv:=by cases o.dst<;>rfl
   refine ih _ (c.app g) (a1.put o.dst cv) w' (by simp[Q6]) Ut SR ⟨by rw[uu];exact H.len,?_,?_⟩ hr' (hg.trans Re st.hr.cN) (by rw[TU,e8];exact eC) ?_ ?_ (by rw[put_defers];exact hd)
   ·intro j b k hj Wj
    try simp only at hj
    by_cases e1:j=i
    ·subst e1;rw[hci]at Wj;cases Wj;have:b<g.length:=by
      by_cases hb:b<g.length
      ·exact hb
      ·have e:=Tg b rfl;rcases bW with⟨_,h,_⟩|⟨_,hs3⟩
       ·cases h
       rcases hs3 with⟨_,h,_⟩|⟨_,_,_,_,_,_,h,_⟩|⟨n,aa,x,b',off,k',hk,ha,h,hs3⟩
       ·cases h
       ·cases h
       ·cases h;rw[hk]at hs3;rw[ZS Om]at e;simp only[stepT,ni,ha,<-e]at hs3;cases hs3
     simp[Acc.app,this]
    ·rw[hne j e1]at hj;rw[yc λk' hk'=>by
      subst hk';exact eZ.ne hok Wj e1 hci rfl]
     exact H.wr j b k hj Wj
   ·intro b hb;rw[yc λk' hk'=>hb i k' hlt (by rw[hci,hk'])];exact H.ne b λj k hj Wj=>by
     try simp only at hj
     exact hb j k (by
      show(listed.setIfInBounds i true).getD j false=true;by_cases e1:j=i
      ·subst e1;exact hlt
      ·rw[hne j e1];exact hj) Wj
   ·intro d hdn;have SL:o.dst≠some d:=by rw[<-Rl];exact hdn i io hio hlt
    rw[TU,dE SL];refine h1 d λj oj hj hl=>hdn j oj hj ?_
    exact Mn
   ·intro d j oj hj hl TA;by_cases e1:j=i
    ·subst e1;rw[hio]at hj;cases hj;rw[hTi,TU,<-Rl,TA];have hvv:put (T j) (some d) v=put (T j) (some d) v':=by
      have:=Se;rw[<-Rl,TA]at this;exact this
     rw[hvv];exact lC (by rw[eC,hTl j Om]) Sy
    ·have SL:o.dst≠some d:=λhx=>by
      exact z124
     rw[TU,dE SL];rw[hne j e1]at hl;exact h2 d j oj hj hl TA
 have QX:∀j,(Array.replicate ops.size false).getD j false=false:=λj=>by
  exact Mo
 refine key ops.size (Array.replicate ops.size false) h a _ Si ?_ (λj x hj _ _=>by simp[QX j]at hj) ⟨rfl,λj b k hj _=>by simp[QX j]at hj,λb _=>rfl⟩ st.hr.drew (Grow.refl m _ w st.hr.cN).drew ?_ (λd _=>nO st.ts d) (λd j o _ hj _=>by simp[QX j]at hj) rfl
 ·exact z24
 ·exact Db
theorem Ev.sf{P ro}(hmix:P.follows .mixedOrders=true){l ts ts' h cs}(hs:AD l ts h cs ts')(hok:eZ cs):Ev P ro (.sf l) ts h .normal ts' (dR h cs):=by
 refine Ev.of λcc hns hc m a w lo hlo st hm Q hQ=>?_
 cases cc with
 |region id ops draw=>
  rcases dY (by simpa only[compile]using hc)with⟨l',h1,hl⟩|⟨l',h1,hd,⟨l2,hl2⟩,hz⟩|⟨_,h1,_⟩<;>cases h1
  subst hd;simp only[cQ,Yf]at hl2;split at hl2
  case isFalse=>cases hl2
  rename_i Ro;simp only[Yv]at Ro;exact tR hmix Ro.1 Ro.2 hz hs hok st ro Q (λm' a' w' s g d=>hQ m' a' w' s g (by rw[d];exact hm.grow g st.hr.cN)) id
 |scope a=>exact absurd rfl (hns a)
 |block id a=>simp[compile]at hc
 |loop a=>simp[compile]at hc
 |_=>
  exact AR
def CV(cs:List Acc):Acc->List Acc
 |.no=>cs
 |c=>cs++[c]
def Aw{cs c}(hc:c≠.no):CV cs c=cs++[c]:=by cases c<;>first|exact absurd rfl hc|rfl
def AM(h:ah):List bI->TS->List Acc->(TS->List Acc->Prop)->Prop
 |[],ts,cs,K=>K ts cs
 |o::r,ts,cs,K=>∃v c,wD o ts h v c/\AM h r (put ts o.dst v) (CV cs c) K
theorem pH:∀{a b c},(∀x∈b,x=Acc.no)->eZ (a++c)->eZ (a++b++c)
 |[],[],c,_,h=>h
 |[],x::b,c,hb,h=>by
  have hx:=hb x Si;subst hx;exact⟨λn hn=>by(cases hn),by simpa using pH (a:=[]) (b:=b) (λy hy=>hb y (YB _ hy)) h⟩
 |x::a,b,c,hb,h=>by
  refine⟨λn hn y hy hyn k k' hk=>?_,pH (a:=a) hb h.2⟩;rcases X3.1 hy with hy|hy
  ·rcases X3.1 hy with hy|hy
   ·exact h.1 n hn y (X3.2 (.inl hy)) hyn k k' hk
   ·rw[hb y hy]at hyn;cases hyn
  ·exact h.1 n hn y (X3.2 (.inr hy)) hyn k k' hk
theorem AM.sound{h}:∀{l}{ts}{cs}{K},AM h l ts cs K->∃TQ XQ ts',AD l ts h TQ ts'/\K ts' (cs++XQ)/\(∀(a c:List Acc),eZ (a++XQ++c)->eZ (a++TQ++c))/\(∀g,dR g TQ=dR g XQ)
 |[],ts,cs,K,H=>⟨[],[],ts,⟨rfl,rfl⟩,by rw[Yo];exact H,λ_ _ h=>h,λ_=>rfl⟩
 |o::r,ts,cs,K,H=>by
  obtain⟨v,c,h1,H⟩:=H;obtain⟨TQ,XQ,ts',h2,h3,h4,h5⟩:=AM.sound (l:=r) H;by_cases hc:c=.no
  ·subst hc;refine⟨.no::TQ,XQ,ts',⟨v,.no,TQ,h1,rfl,h2⟩,h3,λa d hd=>?_,λg=>h5 g⟩;have:=pH (a:=a) (b:=[.no]) (c:=TQ++d) Si (by simpa using h4 a d hd)
   simpa using this
  ·rw[Aw hc]at h3;refine⟨c::TQ,c::XQ,ts',⟨v,c,TQ,h1,rfl,h2⟩,by simpa using h3,λa d hd=>?_,λg=>by rw[dR,dR,h5]⟩;have:=h4 (a++[c]) d (by simpa using hd)
   simpa using this
theorem AM.mono{h}:∀{l}{ts}{cs}{K K'},AM h l ts cs K->(∀ts' cs',K ts' cs'->K' ts' cs')->AM h l ts cs K'
 |[],ts,cs,K,K',H,hk=>hk _ _ H
 |o::r,ts,cs,K,K',H,hk=>by
  obtain⟨v,c,h1,H⟩:=H;exact⟨v,c,h1,AM.mono (l:=r) H hk⟩
end Go.Abs
