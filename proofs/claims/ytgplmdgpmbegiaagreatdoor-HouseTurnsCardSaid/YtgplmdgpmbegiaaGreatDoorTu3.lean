/- A part of the proof that HouseTurns holds. No condition. -/
import Derived.Test.YtgplmdgpmbegiaaGreatDoorTu2
import Derived.RangeFuncRecord
import Derived.Test.YtgplmdgpmbegiaaGreatDoorTu0
set_option maxHeartbeats 4000000
set_option linter.all false
namespace Go.Abs
def rq(listed:Array Bool):Nat->Nat
 | 0=>0
 |n+1=>rq listed n+(if listed.getD n false then 0 else 1)
def dh{listed:Array Bool}{i j:Nat}(hi:i<listed.size):(listed.setIfInBounds i true).getD j false=(if j=i then true else listed.getD j false):=by
 by_cases h:j=i
 ·subst h;simp[aaR,abm hi]
 ·rw[aab h];simp[aaR,abL (abo h)]
theorem BE{listed:Array Bool}{i:Nat}(hi:i<listed.size):∀n,n<=i->rq (listed.setIfInBounds i true) n=rq listed n
 | 0,_=>rfl
 |n+1,h=>by
  simp only[rq];rw[BE hi n Om,dh hi,aab (by omega:¬n=i)]
theorem BD{listed:Array Bool}{i:Nat}(hi:i<listed.size)(hn:listed.getD i false=false):∀n,i<n->rq (listed.setIfInBounds i true) n+1=rq listed n
 | 0,h=>absurd h Om
 |n+1,h=>by
  simp only[rq];rw[dh hi];by_cases e:n=i
  ·subst e;rw[BE hi n (aah _),aai rfl,hn];simp
  ·rw[aab e];have:=BD hi hn n Om;omega
theorem lM{listed}:∀n,rq listed n=0->∀i,i<n->listed.getD i false=true
 | 0,_,i,hi=>absurd hi Om
 |n+1,h,i,hi=>by
  simp only[rq]at h;by_cases e:i=n
  ·subst e;cases hl:listed.getD i false with
   |true=>rfl
   |false=>rw[hl]at h;simp at h
  ·exact lM n Om i Om
def cj.dQ(m:cj)(n:Nat):cj:=λb=>if b<n then m b else none
def cj.patch(m1 m:cj)(n:Nat):cj:=λb=>if b<n then m1 b else m b
mutual
theorem VR.cut{ma m n}(hd:∀b e,ma b=some e->b<n):∀(x:AV) (va v:Value),VR ma x va->VR m x v->VR (m.dQ n) x v
 |.bool _,_,_,_,hv=>hv
 |.int _ _,_,_,_,hv=>hv
 |.xS _ _,_,_,_,hv=>hv
 |.xE _ _ _,_,_,_,hv=>hv
 |.str _,_,_,_,hv=>hv
 |.ptr b o,va,v,ha,hv=>by
  exact K5
 |.nilPtr,_,_,_,hv=>hv
 |.slice b o n' es,va,v,ha,hv=>by
  rw[VR]at ha hv ⊢;obtain⟨e,_,_,he,_⟩:=ha;obtain⟨e',ca,cap,TP,hv⟩:=hv;exact⟨e',ca,cap,by unfold cj.dQ;rw[aai (hd _ _ he)];exact TP,hv⟩
 |.af,_,_,_,hv=>hv
 |.map r,va,v,ha,hv=>by
  exact K5
 |.dz,_,_,_,hv=>hv
 |.func f a c,va,v,ha,hv=>by
  rw[VR]at ha hv ⊢;obtain⟨f1,a1,c1,_,Wj,ha1,hc1⟩:=ha;obtain⟨f2,a2,c2,hv,Vw,ha2,ZT⟩:=hv;refine⟨f2,a2,c2,hv,?_,cL.cut hd a _ _ ha1 ha2,cL.cut hd c _ _ hc1 ZT⟩;cases f<;>simp only[Bm]at Wj Vw ⊢<;>try exact Vw
  obtain⟨e,he,_⟩:=Wj;obtain⟨e',TP,hg⟩:=Vw;exact⟨e',by unfold cj.dQ;rw[aai (hd _ _ he)];exact TP,hg⟩
 |.nilFunc,_,_,_,hv=>hv
 |.vk u a,va,v,ha,hv=>by
  rw[VR]at ha hv ⊢;obtain⟨v1,_,h1⟩:=ha;obtain⟨v2,hv,h2⟩:=hv;exact⟨v2,hv,VR.cut hd a _ _ h1 h2⟩
 |.kS,_,_,_,hv=>hv
 |.agg l,va,v,ha,hv=>by
  exact z124
 |.dW l,va,v,ha,hv=>by
  exact z124
theorem cL.cut{ma m n}(hd:∀b e,ma b=some e->b<n):∀(l:List AV) (va vs:List Value),cL ma l va->cL m l vs->cL (m.dQ n) l vs
 |[],_,_,_,hv=>hv
 |x::xs,va,vs,ha,hv=>by
  obtain⟨y1,ys1,_,a1,a2⟩:=aV.1 ha;obtain⟨y2,ys2,h,b1,b2⟩:=aV.1 hv;exact aV.2 ⟨y2,ys2,h,VR.cut hd x _ _ a1 b1,cL.cut hd xs _ _ a2 b2⟩
end
def js(n:Nat)(x:AV):Prop:=∃(ma:cj) (va:Value),(∀b e,ma b=some e->b<n)/\VR ma x va
def M6(n:Nat)(l:List AV):Prop:=∃(ma:cj) (va:List Value),(∀b e,ma b=some e->b<n)/\cL ma l va
def qK(n:Nat):ak->Prop
 |.cells c _ _=>∀(i:Nat) (x:AV),c[i]? =some x->js n x
 |.bA es=>∀(i:Nat) (p:AV×AV),es[i]? =some p->js n p.1/\js n p.2
 |.loop _ _ ts _ _ _=>M6 n ts
 |_=>True
def js.mono{n k}(hnk:n<=k){x}(h:js n x):js k x:=by
 exact z131
theorem qK.mono{n k}(hnk:n<=k){x}(h:qK n x):qK k x:=by
 cases x with
 |cells c mu tl=>exactλi x hx=>(h i x hx).mono hnk
 |bA es=>exactλi p hp=>⟨(h i p hp).1.mono hnk,(h i p hp).2.mono hnk⟩
 |loop a b c d e f=>
  exact z131
 |_=>trivial
def BR.js{P m w e k n}(h:BR P m w e k)(hd:∀b e,m b=some e->b<n):qK n k:=by
 cases k with
 |cells c mu tl=>
  obtain⟨cc,el,fz,_,_,h3,_⟩:=h;intro i x hx;obtain⟨_,v,_,hv⟩:=h3 i x hx;exact⟨m,v,hd,hv⟩
 |bA es=>
  obtain⟨_,UZ,clock,_,_,h3⟩:=h;intro i p hp;obtain⟨q,_,h1,h2⟩:=h3 i p hp;exact⟨⟨m,_,hd,h1⟩,⟨m,_,hd,h2⟩⟩
 |loop st ex ts ps asg body=>
  obtain⟨_,fn,tmps,TL,Tf,df,_,h2,_⟩:=h;exact⟨m,_,hd,h2⟩
 |_=>trivial
theorem BR.cut{P m w e k n}(h:BR P m w e k)(hc:qK n k):BR P (m.dQ n) w e k:=by
 cases k with
 |cells c mu tl=>
  obtain⟨cc,el,fz,h1,h2,h3,h4⟩:=h;exact⟨cc,el,fz,h1,h2,λi x hx=>by
   obtain⟨ho,v,hv,hr⟩:=h3 i x hx;obtain⟨ma,va,hd,ha⟩:=hc i x hx;exact⟨ho,v,hv,VR.cut hd _ _ _ ha hr⟩,h4⟩
 |dead=>trivial
 |bA es=>
  obtain⟨ho,UZ,clock,h1,h2,h3⟩:=h;exact⟨ho,UZ,clock,h1,h2,λi p hp=>by
   obtain⟨q,hq,ha,hb⟩:=h3 i p hp;obtain⟨⟨ma,va,hd,Yi⟩,⟨mb,vb,Tn,hb'⟩⟩:=hc i p hp;exact⟨q,hq,VR.cut hd _ _ _ Yi ha,VR.cut Tn _ _ _ hb' hb⟩⟩
 |iter s pos=>exact h
 |loop st ex ts ps asg body=>
  obtain⟨ho,fn,tmps,TL,Tf,df,h1,h2,h3,h4⟩:=h;obtain⟨ma,va,hd,ha⟩:=hc;exact⟨ho,fn,tmps,TL,Tf,df,h1,cL.cut hd _ _ _ ha h2,h3,h4⟩
structure tn(P:Program)(l:List bL)(T:Nat->TS)(H:Nat->ah)(m0:cj)(w0:World)(S:Nat->Bool)(β θ:Nat)(m:cj)(ta:Array Value)(w:World):Prop where
 βθ:β<=θ
 θn:θ<=l.length
 low:∀j,j<β->S j=true
 high:∀j,S j=true->j<θ
 quiet:∀j,β<=j->j<θ->∃g,H (j+1)=H j++g
 len:∀j,j<θ->(H j).length<=(H (j+1)).length
 hr:HR P m (H θ) w
 NL:∀j,j<θ->S j=false->∀b,(H j).length<=b->b<(H (j+1)).length->m b=none
 js:∀i,β<=i->i<=θ->∀b e k,b<(H i).length->m b=some e->(H θ)[b]? =some k->qK (H i).length k
 apart:∀j,β<=j->j<θ->∀b b' e e',(H j).length<=b->b<(H (j+1)).length->¬((H j).length<=b'/\b'<(H (j+1)).length)->m b=some e->m b' =some e'->e.cb≠e'.cb
 grow:Grow m0 (H 0) w0 m (H θ) w
 size:ta.size=(T 0).length
 y9:∀d,(∀j o,l[j]? =some o->S j=true->o.dst≠some d)->VR m0 ((T 0).getD d az) (ta.getD d undef)
 y8:∀d j o,l[j]? =some o->S j=true->o.dst=some d->VR (m.dQ (H (j+1)).length) ((T (j+1)).getD d az) (ta.getD d undef)
theorem wA{H:Nat->ah}{θ:Nat}(h:∀j,j<θ->(H j).length<=(H (j+1)).length){i:Nat}:∀k,i+k<=θ->(H i).length<=(H (i+k)).length
 | 0,_=>aah _
 |k+1,hk=>aaT (wA h k Om) (h (i+k) Om)
def fW{H:Nat->ah}{θ:Nat}(h:∀j,j<θ->(H j).length<=(H (j+1)).length){i j:Nat}(hij:i<=j)(hj:j<=θ):(H i).length<=(H j).length:=by
 have:=wA h (i:=i) (j-i) Om
 rwa [show i+(j-i)=j from by omega]at this
theorem tE{H:Nat->ah}{β θ:Nat}(h:∀j,β<=j->j<θ->∃g,H (j+1)=H j++g){i:Nat}(hi:β<=i):∀k,i+k<=θ->∃g,H (i+k)=H i++g
 | 0,_=>⟨[],Si⟩
 |k+1,hk=>by
  obtain⟨g,hg⟩:=tE h hi k Om;obtain⟨g',Tc⟩:=h (i+k) Om Om;exact⟨g++g',by rw[show i+(k+1)=i+k+1 from by omega,Tc,hg,Z4]⟩
def nF{H:Nat->ah}{β θ:Nat}(h:∀j,β<=j->j<θ->∃g,H (j+1)=H j++g){i j:Nat}(hi:β<=i)(hij:i<=j)(hj:j<=θ):∃g,H j=H i++g:=by
 have:=tE h hi (j-i) Om
 rwa [show i+(j-i)=j from by omega]at this
theorem wR{H:Nat->ah}{i:Nat}:∀(k:Nat) {b:Nat},(H i).length<=b->b<(H (i+k)).length->∃j,i<=j/\j<i+k/\(H j).length<=b/\b<(H (j+1)).length
 | 0,b,h1,h2=>by simp at h2;omega
 |k+1,b,h1,h2=>by
  by_cases h:b<(H (i+k)).length
  ·obtain⟨j,a1,a2,a3⟩:=wR k h1 h;exact⟨j,a1,Om,a3⟩
  ·exact⟨i+k,Om,Om,Om,by rw[show i+k+1=i+(k+1)from by omega];exact h2⟩
section
variable {P:Program}{m m1:cj}{h:ah}{w:World}
def cj.fJ(m:cj)(n:Nat):(m.dQ n).le m:=by
 intro b e hb;unfold cj.dQ at hb;split at hb
 ·exact hb
 ·cases hb
def cj.Af(m:cj){n k}(hnk:n<=k):(m.dQ n).le (m.dQ k):=by
 intro b e hb;unfold cj.dQ at hb ⊢;split at hb
 ·rw[aai Om];exact hb
 ·cases hb
theorem HR.dQ{g}(hr:HR P m (h++g) w)(hgl:P.globals.size<=h.length)(hc:∀b e k,b<h.length->m b=some e->h[b]? =some k->qK h.length k):HR P (m.dQ h.length) h w where
 cO:=λb e hb=>by unfold cj.dQ at hb;split at hb<;>first|assumption|cases hb
 ep:=λb e k hb hk=>by
  unfold cj.dQ at hb;split at hb
  case isFalse=>cases hb
  rename_i hlt;exact(hr.ep b e k hb (by rw[Z7 hlt];exact hk)).cut (hc b e k hlt hb hk)
 sep:=λb1 b2 e1 e2 k1 k2 hne h1 h2 hk1 SK hcb=>by
  have d1:b1<h.length:=(Z2.1 hk1).1;have d2:b2<h.length:=(Z2.1 SK).1;exact hr.sep b1 b2 e1 e2 k1 k2 hne (cj.fJ m _ _ _ h1) (cj.fJ m _ _ _ h2) (by rw[Z7 d1];exact hk1) (by rw[Z7 d2];exact SK) hcb
 gD:=λg hg=>by
  obtain⟨e,he,hx⟩:=hr.gD g hg;exact⟨e,by unfold cj.dQ;rw[aai Om];exact he,hx⟩
 lt:=λb e hb=>hr.lt b e (cj.fJ m _ _ _ hb)
def HR.G6(hr:HR P m h w):P.globals.size<=h.length:=by
 by_cases hz:P.globals.size=0
 ·omega
 ·obtain⟨e,he,_⟩:=hr.gD (P.globals.size-1) Om;have:=hr.cO _ _ he;omega
variable {l:List bL}{T:Nat->TS}{H:Nat->ah}{m0:cj}{w0:World}{S:Nat->Bool}{β θ:Nat}{ta:Array Value}
def tn.raise(M:tn P l T H m0 w0 S β θ m ta w){θ':Nat}(h1:θ<=θ')(h2:θ'<=l.length)(hq:∀j,θ<=j->j<θ'->∃g,H (j+1)=H j++g):tn P l T H m0 w0 S β θ' m ta w:=by
 have YF:∀j,β<=j->j<θ'->∃g,H (j+1)=H j++g:=λj hj Yb=>by
  by_cases hx:j<θ
  ·exact M.quiet j hj hx
  ·exact hq j Om Yb
 have hlen:∀j,j<θ'->(H j).length<=(H (j+1)).length:=λj hj=>by
  by_cases hx:j<θ
  ·exact M.len j hx
  ·obtain⟨g,hg⟩:=hq j Om hj;rw[hg];simp
 obtain⟨g,hg⟩:=nF YF M.βθ h1 (aah _);have SR:∀b,b<(H θ).length->(H θ')[b]? =(H θ)[b]? :=λb hb=>by rw[hg,Z7 hb]
 have hdom:∀b e,m b=some e->b<(H θ).length:=M.hr.cO;refine⟨aaT M.βθ h1,h2,M.low,λj hj=>aaY (M.high j hj) h1,YF,hlen,⟨?_,?_,?_,M.hr.gD,M.hr.lt⟩,?_,?_,?_,⟨M.grow.ext,fW hlen (aaC _) (aah _),?_,?_,M.grow.size,M.grow.os,M.grow.out,M.grow.tape,M.grow.frame⟩,M.size,M.y9,M.y8⟩
 ·intro b e hb;have:=hdom b e hb;rw[hg];simp;omega
 ·intro b e k hb hk;exact M.hr.ep b e k hb (by rwa [SR b (hdom b e hb)]at hk)
 ·intro b1 b2 e1 e2 k1 k2 hne a1 a2 hk1 SK hcb;exact M.hr.sep b1 b2 e1 e2 k1 k2 hne a1 a2 (by rwa [SR b1 (hdom _ _ a1)]at hk1) (by rwa [SR b2 (hdom _ _ a2)]at SK) hcb
 ·intro j hj hs b hb hb';by_cases hx:j<θ
  ·exact M.NL j hx hs b hb hb'
  ·cases TT:m b with
   |none=>rfl
   |some e=>
    exact z141
 ·intro i hi hi' b e k hb TT hk;rw[SR b (hdom b e TT)]at hk;by_cases hx:i<=θ
  ·exact M.js i hi hx b e k hb TT hk
  ·have a2:=fW hlen (i:=θ) (j:=i) Om Om;exact(M.js θ M.βθ (aah _) b e k (hdom b e TT) TT hk).mono a2
 ·intro j hj Yb b b' e e' hb Tm hb' TT WZ;by_cases hx:j<θ
  ·exact M.apart j hj hx b b' e e' hb Tm hb' TT WZ
  ·exact z141
 ·intro b e hb TT;obtain⟨ho,hc⟩:=M.grow.new b e hb TT;refine⟨ho,hc.imp id ?_⟩;rintro⟨b0,e0,c1,c2,c3,c4,c5⟩;refine⟨b0,e0,c1,c2,c3,c4,?_⟩;have d0:b0<(H θ).length:=by
   cases hx:m0 b0 with
   |none=>rw[hx]at c1;cases c1
   |some e0'=>
    have:b0<(H 0).length:=by
     cases ht:(H 0)[b0]? with
     |none=>unfold eZ at c4;rw[ht]at c4;cases c4
     |some k=>exact(Z2.1 ht).1
    exact aaY this (fW hlen (aaC _) h1)
  unfold eZ at c5 ⊢;rw[SR b0 d0];exact c5
 ·intro b hb ht;refine M.grow.tl b hb ?_;unfold eZ at ht ⊢
  rwa [SR b (aaY hb (fW hlen (aaC _) h1))]at ht
end
def iE(ta:Array Value)(d:Option Nat)(cv:Value):Array Value:=
 match d with
 |some d=>ta.setIfInBounds d cv
 |none=>ta
def fA(ta:Array Value)(d:Option Nat)(cv:Value):(iE ta d cv).size=ta.size:=by cases d<;>simp[iE]
def dO{ta d cv t}(h:d≠some t):(iE ta d cv).getD t undef=ta.getD t undef:=by
 cases d with
 |none=>rfl
 |some d=>
  have hne:d≠t:=λx=>h (by rw[x])
  simp[iE,aaR,abL hne]
def yw{ts d v t}(h:d≠some t):(put ts d v).getD t az=ts.getD t az:=by
 cases d with
 |none=>rfl
 |some d=>
  have hne:d≠t:=λx=>h (by rw[x])
  simp[put,List.getD,aaj hne]
def lU{m ts ta d v cv}(hs:ta.size=ts.length)(hv:VR m v cv):VR m ((put ts (some d) v).getD d az) ((iE ta (some d) cv).getD d undef):=by
 by_cases h:d<ts.length
 ·have h':d<ta.size:=Om
  simp only[put,iE,List.getD,aaR];rw[aak h,abm h'];exact hv
 ·have h':¬d<ta.size:=Om
  simp only[put,iE,List.getD,aaR];rw[abX (by simp;omega),abz (by simp;omega)];exact ko m
def mark(S:Nat->Bool)(i:Nat):Nat->Bool:=λj=>if j=i then true else S j
section
variable {P:Program}{l:List bL}{T:Nat->TS}{H:Nat->ah}{m0 m m1:cj}{w0 w w1:World}{S:Nat->Bool}{β θ i:Nat}{ta:Array Value}
def tn.cut(M:tn P l T H m0 w0 S β θ m ta w)(hG:P.globals.size<=(H 0).length)(hi:β<=i)(hi':i<=θ):HR P (m.dQ (H i).length) (H i) w:=by
 obtain⟨g,hg⟩:=nF M.quiet hi hi' (aah _);have hr:HR P m (H i++g) w:=by rw[<-hg];exact M.hr
 refine hr.dQ (aaT hG (fW M.len (aaC _) hi')) ?_;intro b e k hb TT hk;exact M.js i hi hi' b e k hb TT (by rw[hg,Z7 hb];exact hk)
def tn.GY(M:tn P l T H m0 w0 S β θ m ta w)(hG:P.globals.size<=(H 0).length)(hi:β<=i)(hi':i<θ)(hS:S i=false){io}(hio:l[i]? =some io)
  (hr1:HR P m1 (H (i+1)) w1) (gext:∀b,b<(H i).length->m1 b=(m.dQ (H i).length) b) (hnew0:∀b e,(H i).length<=b->m1 b=some e->e.own=true/\w0.heap.size<=e.cb/\∀b' e',m b' =some e'->e'.cb≠e.cb)
  (hfr:∀x,x<w.heap.size->(∀b e,(m.dQ (H i).length) b=some e->e.own=true->e.cb≠x)->(∀b e,(H i).length<=b->m1 b=some e->e.cb≠x)->w1.heap[x]? =w.heap[x]?)
  (eQ:w.heap.size<=w1.heap.size) (hos:w1.os=w.os) (hout:w1.output=w.output) (htape:w1.tape=w.tape) {v}{cv}(hv:VR m1 v cv) (hTi:T (i+1)=put (T i) io.dst v) (hTl:(T i).length=(T 0).length)
  (huniq:∀j o d,j≠i->l[j]? =some o->o.dst=some d->io.dst≠some d):tn P l T H m0 w0 (mark S i) β θ (m1.patch m (H (i+1)).length) (iE ta io.dst cv) w1:=by
 have Ur:∀a b,a<=b->b<=θ->(H a).length<=(H b).length:=λa b hab hb=>fW M.len hab hb
 have hi1:=M.len i hi';have hi2:=Ur (i+1) θ Om (aah _);have h0i:=Ur 0 i Om Om;obtain⟨gi,hgi⟩:=M.quiet i hi hi';obtain⟨gt,V3⟩:=nF M.quiet (show β<=i+1 by omega) (show i+1<=θ by omega) (aah _);have f3:∀b,b<(H (i+1)).length->(m1.patch m (H (i+1)).length) b=m1 b:=λb hb=>by unfold cj.patch;rw[aai hb]
 have f1:∀b,b<(H i).length->(m1.patch m (H (i+1)).length) b=m b:=λb hb=>by
  rw[f3 b Om,gext b hb];unfold cj.dQ;rw[aai hb]
 have f2:∀b,(H (i+1)).length<=b->(m1.patch m (H (i+1)).length) b=m b:=λb hb=>by unfold cj.patch;rw[aab Om]
 have fgap:∀b,(H i).length<=b->b<(H (i+1)).length->m b=none:=M.NL i hi' hS;have Vk:m.le (m1.patch m (H (i+1)).length):=λb e hb=>by
  by_cases h1:b<(H i).length
  ·rw[f1 b h1];exact hb
  ·by_cases h2:b<(H (i+1)).length
   ·rw[fgap b Om h2]at hb;cases hb
   ·rw[f2 b Om];exact hb
 have m1le:m1.le (m1.patch m (H (i+1)).length):=λb e hb=>by rw[f3 b (hr1.cO b e hb)];exact hb
 have hnew:∀b e,(H i).length<=b->b<(H (i+1)).length->(m1.patch m (H (i+1)).length) b=some e->e.own=true/\w0.heap.size<=e.cb/\∀b' e',m b' =some e'->e'.cb≠e.cb:=λb e hb hb' hm=>by
  rw[f3 b hb']at hm;exact hnew0 b e hb hm
 have hold:∀b e,m b=some e->e.cb<w.heap.size:=M.hr.lt;have hframe:∀b e,(H (i+1)).length<=b->m b=some e->w1.heap[e.cb]? =w.heap[e.cb]? :=λb e hb hm=>by
  refine hfr e.cb (hold b e hm) ?_ (λb0 e0 h0 h1 hcb=>(hnew0 b0 e0 h0 h1).2.2 b e hm hcb.symm);intro b0 e0 h0 ho hcb;have d0:b0<(H i).length:=by
   unfold cj.dQ at h0;split at h0
   ·assumption
   ·cases h0
  obtain⟨j,j1,j2,j3,j4⟩:=wR (H:=H) (i:=i+1) (θ-(i+1)) hb (by rw[show i+1+(θ-(i+1))=θ from by omega];exact M.hr.cO b e hm);have hj:=Ur i j Om Om;exact M.apart j Om Om b b0 e e0 j3 j4 (λx=>by omega) hm (cj.fJ m _ _ _ h0) hcb.symm
 have SR:∀b,b<(H (i+1)).length->(H θ)[b]? =(H (i+1))[b]? :=λb hb=>by rw[V3,Z7 hb]
 have SW:∀b e,(m1.patch m (H (i+1)).length) b=some e->((H i).length<=b/\b<(H (i+1)).length/\m1 b=some e)\/(¬((H i).length<=b/\b<(H (i+1)).length)/\m b=some e):=λb e hb=>by
  by_cases h1:b<(H i).length
  ·rw[f1 b h1]at hb;exact .inr ⟨Om,hb⟩
  ·by_cases h2:b<(H (i+1)).length
   ·rw[f3 b h2]at hb;exact .inl ⟨Om,h2,hb⟩
   ·rw[f2 b Om]at hb;exact .inr ⟨Om,hb⟩
 have hHR:HR P (m1.patch m (H (i+1)).length) (H θ) w1:=by
  refine⟨?_,?_,?_,?_,?_⟩
  ·intro b e hb;rcases SW b e hb with⟨_,h2,_⟩|⟨_,h2⟩
   ·omega
   ·exact M.hr.cO b e h2
  ·intro b e k hb hk;by_cases h2:b<(H (i+1)).length
   ·rw[f3 b h2]at hb;exact(hr1.ep b e k hb (by rwa [SR b h2]at hk)).mono m1le
   ·rw[f2 b Om]at hb;exact((M.hr.ep b e k hb hk).mono Vk).heap (hframe b e Om hb)
  ·intro b1 b2 e1 e2 k1 k2 hne Tm Tx hk1 SK hcb;rcases SW b1 e1 Tm with⟨a1,a2,a3⟩|⟨a1,a2⟩
   ·rcases SW b2 e2 Tx with⟨c1,c2,c3⟩|⟨c1,c2⟩
    ·exact hr1.sep b1 b2 e1 e2 k1 k2 hne a3 c3 (by rwa [SR b1 a2]at hk1) (by rwa [SR b2 c2]at SK) hcb
    ·exact absurd hcb.symm ((hnew b1 e1 a1 a2 Tm).2.2 b2 e2 c2)
   ·rcases SW b2 e2 Tx with⟨c1,c2,c3⟩|⟨c1,c2⟩
    ·exact absurd hcb ((hnew b2 e2 c1 c2 Tx).2.2 b1 e1 a2)
    ·exact M.hr.sep b1 b2 e1 e2 k1 k2 hne a2 c2 hk1 SK hcb
  ·intro g hg;obtain⟨e,he,hx⟩:=M.hr.gD g hg;exact⟨e,Vk _ _ he,hx⟩
  ·intro b e hb;rcases SW b e hb with⟨_,_,h3⟩|⟨_,h2⟩
   ·exact hr1.lt b e h3
   ·exact aaY (hold b e h2) eQ
 refine⟨M.βθ,M.θn,?_,?_,M.quiet,M.len,hHR,?_,?_,?_,?_,by rw[fA];exact M.size,?_,?_⟩
 ·intro j hj;unfold mark;split
  ·rfl
  ·exact M.low j hj
 ·intro j hj;unfold mark at hj;split at hj
  ·omega
  ·exact M.high j hj
 ·intro j hj hs b hb hb';unfold mark at hs;split at hs
  ·cases hs
  rename_i hji;by_cases h1:b<(H i).length
  ·rw[f1 b h1];exact M.NL j hj hs b hb hb'
  ·by_cases h2:b<(H (i+1)).length
   ·exact z119
   ·rw[f2 b Om];exact M.NL j hj hs b hb hb'
 ·intro i2 hi2' YM b e k hb TT hk;rcases SW b e TT with⟨a1,a2,a3⟩|⟨_,a2⟩
  ·have hk':(H (i+1))[b]? =some k:=by rwa [SR b a2]at hk
   refine((hr1.ep b e k a3 hk').js hr1.cO).mono ?_;by_cases hlt:i2<i+1
   ·have:=Ur i2 i Om Om;omega
   ·exact Ur (i+1) i2 Om YM
  ·exact M.js i2 hi2' YM b e k hb a2 hk
 ·intro j hj Yb b b' e e' hb Tm hb' TT WZ;rcases SW b e TT with⟨a1,a2,a3⟩|⟨a1,a2⟩
  ·rcases SW b' e' WZ with⟨c1,c2,c3⟩|⟨c1,c2⟩
   ·exfalso;by_cases hji:j=i
    ·subst hji;exact hb' ⟨c1,c2⟩
    ·exact z119
   ·exactλhcb=>(hnew b e a1 a2 TT).2.2 b' e' c2 hcb.symm
  ·rcases SW b' e' WZ with⟨c1,c2,c3⟩|⟨c1,c2⟩
   ·exact(hnew b' e' c1 c2 WZ).2.2 b e a2
   ·exact M.apart j hj Yb b b' e e' hb Tm hb' a2 c2
 ·refine⟨λb hb=>(f1 b Om).trans (M.grow.ext b hb),M.grow.len,?_,M.grow.tl,aaT M.grow.size eQ,hos.trans M.grow.os,hout.trans M.grow.out,htape.trans M.grow.tape,?_⟩
  ·intro b e hb TT;rcases SW b e TT with⟨a1,a2,_⟩|⟨_,a2⟩
   ·obtain⟨ho,hc⟩:=hnew b e a1 a2 TT;exact⟨ho,.inl hc.1⟩
   ·exact M.grow.new b e hb a2
  ·intro x hx hno;refine(hfr x (aaY hx M.grow.size) ?_ (λb e hb hm hcb=>by have:=(hnew0 b e hb hm).2.1;omega)).trans (M.grow.frame x hx hno);intro b e hb ho hcb;have TT:=cj.fJ m _ _ _ hb;by_cases h1:b<(H 0).length
   ·exact hno b e (by rw[<-M.grow.ext b h1];exact TT) ho hcb
   ·obtain⟨_,hc⟩:=M.grow.new b e Om TT;rcases hc with hc|⟨b0,e0,c1,c2,c3,_⟩
    ·omega
    ·exact hno b0 e0 c1 c3 (c2.trans hcb)
 ·intro d hd;exact K8
 ·intro d j o hj hs ho;by_cases hji:j=i
  ·subst hji;rw[hio]at hj;cases hj;rw[hTi,ho];have h1:m1.le ((m1.patch m (H (j+1)).length).dQ (H (j+1)).length):=λb e hb=>by
    have:=hr1.cO b e hb;unfold cj.dQ;rw[aai this,f3 b this];exact hb
   exact z206
  ·exact Rr
def tn.next(M:tn P l T H m0 w0 S β θ m ta w)(hG:P.globals.size<=(H 0).length)(hi:β<=i)(hi':i<θ)(hS:S i=false){io}(hio:l[i]? =some io)
  (hr1:HR P m1 (H (i+1)) w1) (g1:Grow (m.dQ (H i).length) (H i) w m1 (H (i+1)) w1) {v}{cv}(hv:VR m1 v cv) (hTi:T (i+1)=put (T i) io.dst v) (hTl:(T i).length=(T 0).length)
  (huniq:∀j o d,j≠i->l[j]? =some o->o.dst=some d->io.dst≠some d):tn P l T H m0 w0 (mark S i) β θ (m1.patch m (H (i+1)).length) (iE ta io.dst cv) w1:=by
 obtain⟨gi,hgi⟩:=M.quiet i hi hi';refine M.GY hG hi hi' hS hio hr1 g1.ext (λb e hb hm=>?_) (λx hx h1 _=>g1.frame x hx h1) g1.size g1.os g1.out g1.tape hv hTi hTl huniq;obtain⟨ho,hc⟩:=g1.new b e hb hm;have Uh:w.heap.size<=e.cb:=by
  rcases hc with hc|⟨b0,e0,c1,_,_,c4,c5⟩
  ·exact hc
  ·have d0:b0<(H i).length:=by
    unfold cj.dQ at c1;split at c1
    ·assumption
    ·cases c1
   unfold eZ at c4 c5;rw[hgi,Z7 d0]at c5;rw[c5]at c4;cases c4
 exact⟨ho,aaT M.grow.size Uh,λb' e' hb'=>by have:=M.hr.lt b' e' hb';omega⟩
def tn.jump(M:tn P l T H m0 w0 S β i m ta w)(hd0:∀b e,m0 b=some e->b<(H 0).length)(hall:∀j,j<i->S j=true)(hil:i<l.length){io}(hio:l[i]? =some io)
  (hr1:HR P m1 (H (i+1)) w1) (g1:Grow (m.dQ (H i).length) (H i) w m1 (H (i+1)) w1) {v}{cv}(hv:VR m1 v cv) (hTi:T (i+1)=put (T i) io.dst v) (hTl:(T i).length=(T 0).length)
  (huniq:∀j o d,j≠i->l[j]? =some o->o.dst=some d->io.dst≠some d):tn P l T H m0 w0 (mark S i) (i+1) (i+1) m1 (iE ta io.dst cv) w1:=by
 have hm:m.dQ (H i).length=m:=by
  funext b;unfold cj.dQ;split
  ·rfl
  ·cases hb:m b with
   |none=>rfl
   |some e=>exact absurd (M.hr.cO b e hb) (by assumption)
 rw[hm]at g1;have Vk:m.le m1:=g1.le M.hr.cO;refine⟨aah _,hil,?_,?_,λj hj Yb=>absurd hj Om,?_,hr1,?_,?_,λj hj Yb=>absurd hj Om,M.grow.trans g1 hd0,by rw[fA];exact M.size,?_,?_⟩
 ·intro j hj;unfold mark;split
  ·rfl
  ·exact hall j Om
 ·intro j hj;unfold mark at hj;split at hj
  ·omega
  ·have:=M.high j hj;omega
 ·intro j hj;by_cases hji:j=i
  ·subst hji;exact g1.len
  ·exact M.len j Om
 ·intro j hj hs;unfold mark at hs;split at hs
  ·cases hs
  ·rw[hall j Om]at hs;cases hs
 ·intro i2 hi2 hi2' b e k hb TT hk;have:i2=i+1:=Om
  subst this;exact(hr1.ep b e k TT hk).js hr1.cO
 ·intro d hd;exact K8
 ·intro d j o hj hs ho;by_cases hji:j=i
  ·subst hji;rw[hio]at hj;cases hj;rw[hTi,ho];have h1:m1.le (m1.dQ (H (j+1)).length):=λb e hb=>by
    have:=hr1.cO b e hb;unfold cj.dQ;rw[aai this];exact hb
   exact z206
  ·exact Rr
end
section
variable {P:Program}{m m':cj}{h g h':ah}{w w' w0:World}
theorem rA:∀(l c pre:List AV),c.length=l.length->gf (pre++c) pre.length l=pre++l
 |[],c,pre,h=>by
  exact Kb
 |x::l,[],pre,h=>by simp at h
 |x::l,y::c,pre,h=>by
  have e1:(pre++y::c).set pre.length x=(pre++[x])++c:=by
   exact z157
  have e2:pre.length+1=(pre++[x]).length:=Si
  show gf ((pre++y::c).set pre.length x) (pre.length+1) l=_;rw[e1,e2,rA l c (pre++[x]) (by simpa using h),Z4];rfl
def Grow.forget(gr:Grow m h w m' (h++g) w'):Grow m h w (m'.dQ h.length) h w' where
 ext:=λb hb=>by unfold cj.dQ;rw[aai hb];exact gr.ext b hb
 len:=aah _
 new:=λb e hb he=>by unfold cj.dQ at he;rw[aab Om]at he;cases he
 tl:=λb hb ht=>ht
 size:=gr.size
 os:=gr.os
 out:=gr.out
 tape:=gr.tape
 frame:=gr.frame
def HR.forget(hr:HR P m h w)(hr':HR P m' (h++g) w')(gr:Grow m h w m' (h++g) w'):HR P (m'.dQ h.length) h w':=
 hr'.dQ hr.G6 λb e k hb TT hk=>(hr.ep b e k (by rw[<-gr.ext b hb];exact TT) hk).js hr.cO
def HR.Nk(hr:HR P m h w){cb cc}{el:TypeId}{fz}(hb:w.heap[cb]? =some (.cells cc el fz))(hfz:∀i,i<cc.size->¬(fz.1<=i/\i<fz.2))(hout:∀b e,m b=some e->e.cb≠cb)
  {c}{d}(hc:d+c.length=cc.size) (hv:∀(i:Nat) (x:AV),c[i]? =some x->x.one=true/\∃v,cc[d+i]? =some v/\VR m x v):HR P (m.add h.length ⟨cb,d,cc.size,true⟩) (h++[.cells c true false]) w:=by
 have TR:m h.length=none:=by
  exact ND
 have hle:m.le (m.add h.length ⟨cb,d,cc.size,true⟩):=cj.sN _ TR;have SW:∀b e,(m.add h.length ⟨cb,d,cc.size,true⟩) b=some e->(b=h.length/\e=⟨cb,d,cc.size,true⟩)\/(b<h.length/\m b=some e):=λb e Ui=>by
  exact Rd
 refine⟨λb e Ui=>?_,λb e k Ui hk=>?_,λb1 b2 e1 e2 k1 k2 hne h1 h2 hk1 SK hcb=>?_,λg hg=>?_,λb e Ui=>?_⟩
 ·rw[Z1];rcases SW b e Ui with⟨rfl,_⟩|⟨hlt,_⟩
  ·simp
  ·simp;omega
 ·rcases SW b e Ui with⟨rfl,rfl⟩|⟨hlt,hm⟩
  ·rw[aaf (aah _),abb]at hk;cases hk;refine⟨cc,el,fz,hb,⟨by show d+_<=_;omega,by show d+_<=cc.size;omega,rfl⟩,λi x hx=>?_,λ_=>⟨rfl,hfz⟩,λ_=>⟨rfl,λ_=>by show cc.size=d+c.length;omega⟩⟩;obtain⟨ho,v,h1,h2⟩:=hv i x hx;exact⟨ho,v,h1,VR.mono hle _ _ h2⟩
  ·rw[Z7 hlt]at hk;exact(hr.ep b e k hm hk).mono hle
 ·exact Rw
 ·obtain⟨e,he,hx⟩:=hr.gD g hg;exact⟨e,hle _ _ he,hx⟩
 ·rcases SW b e Ui with⟨_,rfl⟩|⟨_,hm⟩
  ·exact(aap.1 hb).1
  ·exact hr.lt b e hm
def Dq{x}(h:yI x=true):x.one=true:=by cases x<;>first|rfl|cases h
def Fz{x v}(h:yI x=true)(hv:VR m x v)(m':cj):VR m' x v:=by
 cases x<;>first|exact hv|cases h
def lA(m:cj)(w0 w:World)(zc:List AV)(cv:Value):Prop:=
 ∃(cb d:Nat) (cc:Array Value) (el:TypeId) (fz:Nat×Nat),cv=.pointer (some ⟨cb,d,none⟩)/\w.heap[cb]? =some (.cells cc el fz)/\d+zc.length=cc.size/\(∀i,i<cc.size->¬(fz.1<=i/\i<fz.2))/\
  (∀(i:Nat) (x:AV),zc[i]? =some x->x.one=true/\∃v,cc[d+i]? =some v/\∀m:cj,VR m x v)/\w0.heap.size<=cb/\∀b e,m b=some e->e.cb≠cb
def lA.move{zc cv}(p:lA m w0 w zc cv)(hh:∀cb d,cv=.pointer (some ⟨cb,d,none⟩)->cb<w.heap.size->(∀b e,m b=some e->e.cb≠cb)->w'.heap[cb]? =w.heap[cb]?)
  (hm:∀cb d,cv=.pointer (some ⟨cb,d,none⟩)->cb<w.heap.size->(∀b e,m b=some e->e.cb≠cb)->∀b e,m' b=some e->e.cb≠cb):lA m' w0 w' zc cv:=by
 obtain⟨cb,d,cc,el,fz,h1,h2,h3,h4,h5,h6,h7⟩:=p;have hlt:cb<w.heap.size:=(aap.1 h2).1;exact⟨cb,d,cc,el,fz,h1,by rw[hh cb d h1 hlt h7];exact h2,h3,h4,h5,h6,hm cb d h1 hlt h7⟩
def lA.grow{zc cv}(p:lA m w0 w zc cv)(gr:Grow (m.dQ h.length) h w m' h' w'):lA m' w0 w' zc cv/\lA (m'.patch m h'.length) w0 w' zc cv:=by
 have hh:∀cb d,cv=.pointer (some ⟨cb,d,none⟩)->cb<w.heap.size->(∀b e,m b=some e->e.cb≠cb)->w'.heap[cb]? =w.heap[cb]? :=λcb d _ hlt h7=>gr.frame cb hlt λb e he _=>h7 b e (cj.fJ _ _ _ _ he)
 have hnew:∀cb,cb<w.heap.size->(∀b e,m b=some e->e.cb≠cb)->∀b e,m' b=some e->e.cb≠cb:=λcb hlt h7 b e he=>by
  by_cases hb:b<h.length
  ·rw[gr.ext b hb]at he;exact h7 b e (cj.fJ _ _ _ _ he)
  ·obtain⟨_,hc⟩:=gr.new b e Om he;rcases hc with hc|⟨b0,e0,c1,c2,_⟩
   ·omega
   ·rw[<-c2];exact h7 b0 e0 (cj.fJ _ _ _ _ c1)
 refine⟨p.move hh λcb d _ hlt h7=>hnew cb hlt h7,p.move hh λcb d _ hlt h7 b e he=>?_⟩;unfold cj.patch at he;split at he
 ·exact hnew cb hlt h7 b e he
 ·exact h7 b e he
end
structure cE(ops:Array Oper)(l:List bL)(k s t:Nat)(z:AV)(n:Nat)(x:c7):Prop where
 ks:k<s
 hk:l[k]? =some {dst:=some t,k:=.box (.c z),gd:=none,q:=true}
 hs:l[s]? =some {dst:=none,k:=.store n (.t t) x,gd:=none,q:=true}
 zn:z.cells.length=n
 zc:z.cells.all yI=true
 xt:∀u,x=.t u->u≠t/\fT ops s u=true
 lt:fT ops s t=true
 only:∀j,j<ops.size->j≠s->fT ops j t=false
def nY{o n t x}(h:mA o=some (n,t,x)):o={dst:=none,k:=.store n (.t t) x,gd:=none,q:=true}:=by
 obtain⟨d,k,gd,q⟩:=o;unfold mA at h;exact KT
def yM{o t z}(h:uc o=some (t,z)):o={dst:=some t,k:=.box (.c z),gd:=none,q:=true}:=by
 obtain⟨d,k,gd,q⟩:=o;unfold uc at h;exact KT
def qt{ops l k s}(hks:k<s)(h:pT ops l k s=true):∃t z n x,cE ops l k s t z n x:=by
 unfold pT at h;split at h
 case h_2=>cases h
 rename_i t z n t' x h1 h2;obtain⟨a,ha,hb⟩:=aba.1 h1;obtain⟨b,Tm,Tx⟩:=aba.1 h2;have e1:=yM hb;have e2:=nY Tx;subst e1;subst e2;simp only[aaD,beq_iff_eq,aaE,abh,abP,abr]at h;obtain⟨⟨⟨⟨⟨rfl,q2⟩,q3⟩,q4⟩,q5⟩,q6⟩:=h;refine⟨t,z,n,x,hks,ha,Tm,q2,aaE.2 q3,λu hu=>?_,q5,λj hj hne=>(q6 j hj).resolve_left hne⟩;subst hu;simp only[aaD,bne_iff_ne,ne_eq]at q4;exact q4
def cE.ok{ops l k s t z n x}(p:cE ops l k s t z n x):pT ops l k s=true:=by
 unfold pT;rw[p.hk,p.hs];simp only[Option.bind_some,uc,mA,aaD,beq_iff_eq,aaE,abh,abP,abr];refine⟨⟨⟨⟨⟨trivial,p.zn⟩,aaE.1 p.zc⟩,?_⟩,p.lt⟩,λj hj=>?_⟩
 ·cases x with
  |t u=>simp only[aaD,bne_iff_ne,ne_eq];exact p.xt u rfl
  |_=>rfl
 ·by_cases hne:j=s
  ·exact .inl hne
  ·exact .inr (p.only j hj hne)
def Iq:bL:={dst:=none,k:=.bV (.c (.bool false)),gd:=none,q:=true}
theorem wX{ops l}:∀{r}{i j},(qC ops l i r)[j]? =(r[j]?).map (tV ops l (i+j))
 |[],i,j=>by simp[qC]
 |o::r,i,0=>by simp[qC]
 |o::r,i,j+1=>by
  show(qC ops l (i+1) r)[j]? =_;rw[wX,show i+1+j=i+(j+1) by omega];simp
theorem wW{ops l}:∀{r}{i},(qC ops l i r).length=r.length
 |[],_=>rfl
 |o::r,i=>by simp[qC,wW]
def yB{ops l}(hl:l.length=ops.size){j o}(ho:l[j]? =some o):
  (∃k t z n x,cE ops l k j t z n x/\tV ops l j o={dst:=some t,k:=.mq n x,gd:=none,q:=true})\/
  (∃s t z n x,cE ops l j s t z n x/\tV ops l j o=Iq)\/
  (tV ops l j o=o/\(∀k t z n x,¬cE ops l k j t z n x)/\(∀s t z n x,¬cE ops l j s t z n x)):=by
 unfold tV;split
 ·rename_i n t x bY;have e1:=nY bY;have SY:∀s t z n x,¬cE ops l j s t z n x:=λs t' z n' x' p=>by
   have:=p.hk;rw[ho,e1]at this;cases this
  split
  ·rename_i k hk;unfold PS at hk;have h1:=acA hk;have h2:=abh.1 (List.mem_of_find?_eq_some hk);obtain⟨t',z,n',x',p⟩:=qt h2 h1;have:=p.hs;rw[ho,e1]at this;cases this;exact .inl ⟨k,_,z,_,_,p,rfl⟩
  ·rename_i hk;refine .inr (.inr ⟨rfl,λk t' z n' x' p=>?_,SY⟩);unfold PS at hk;exact List.find?_eq_none.1 hk k (abh.2 p.ks) p.ok
 ·rename_i bY;have hns:∀k t z n x,¬cE ops l k j t z n x:=λk t' z n' x' p=>by
   have:=p.hs;rw[ho]at this;cases this;simp[mA]at bY
  split
  ·rename_i y SG;split
   ·rename_i s hs;unfold OK at hs;have h1:=acA hs;simp only[aaD,aaK]at h1;obtain⟨t',z,n',x',p⟩:=qt h1.1 h1.2;exact .inr (.inl ⟨s,t',z,n',x',p,rfl⟩)
   ·rename_i hs;refine .inr (.inr ⟨rfl,hns,λs t' z n' x' p=>?_⟩);unfold OK at hs;refine List.find?_eq_none.1 hs s (abh.2 ((Z2.1 p.hs).1)) ?_;simp only[aaD,aaK];exact⟨p.ks,p.ok⟩
  ·rename_i SG;refine .inr (.inr ⟨rfl,hns,λs t' z n' x' p=>?_⟩);have:=p.hk;rw[ho]at this;cases this;simp[uc]at SG
def qc(v v':Value):Prop:=∀cb d Xt d',v=.pointer (some ⟨cb,d,none⟩)->v' =.pointer (some ⟨Xt,d',none⟩)->cb≠Xt
theorem qc.symm{v v'}(h:qc v v'):qc v' v:=λcb d Xt d' h1 h2 e=>h Xt d' cb d h2 h1 e.symm
structure qk(ops:Array Oper)(l:List bL)(w0:World)(S:Nat->Bool)(ta tmps:Array Value)(m:cj)(w:World):Prop where
 size:tmps.size=ta.size
 ag:∀d,(∀k s z n x,cE ops l k s d z n x->S k=true->S s=false->False)->tmps.getD d undef=ta.getD d undef
 pd:∀k s t z n x,cE ops l k s t z n x->S k=true->S s=false->lA m w0 w z.cells (tmps.getD t undef)
 dj:∀k s t z n x k' s' t' z' n' x',cE ops l k s t z n x->cE ops l k' s' t' z' n' x'->S k=true->S s=false->S k' =true->S s' =false->t≠t'->qc (tmps.getD t undef) (tmps.getD t' undef)
section
variable {ops:Array Oper}{l:List bL}{w0 w w':World}{S:Nat->Bool}{ta tmps:Array Value}{m m':cj}
def jB{ta d cv}(h:d<ta.size):(iE ta (some d) cv).getD d undef=cv:=by
 simp only[iE,aaR];rw[abm h];rfl
def yx{d cv t}(hs:tmps.size=ta.size)(h:tmps.getD t undef=ta.getD t undef):(iE tmps d cv).getD t undef=(iE ta d cv).getD t undef:=by
 by_cases hd:d=some t
 ·subst hd;by_cases ht:t<ta.size
  ·rw[jB ht,jB Om]
  ·simp only[iE,aaR];rw[abz (by simp;omega),abz (by simp;omega)]
 ·rw[dO hd,dO hd];exact h
def qk.other(I:qk ops l w0 S ta tmps m w){i d cv}(h1:∀k t z n x,¬cE ops l k i t z n x)(h2:∀s t z n x,¬cE ops l i s t z n x)(hd:∀k s t z n x,cE ops l k s t z n x->d≠some t)
  (hp:∀zc cv,lA m w0 w zc cv->lA m' w0 w' zc cv):qk ops l w0 (mark S i) (iE ta d cv) (iE tmps d cv) m' w' where
 size:=by rw[fA,fA];exact I.size
 ag:=λt ht=>yx I.size (I.ag t λk s z n x p hk hs=>ht k s z n x p (by unfold mark;split<;>first|rfl|exact hk) (by
  unfold mark;split
  ·rename_i e;subst e;exact absurd p (h1 _ _ _ _ _)
  ·exact hs))
 pd:=λk s t z n x p hk hs=>by
  have hki:k≠i:=λe=>h2 _ _ _ _ _ (e▸p)
  have hsi:s≠i:=λe=>h1 _ _ _ _ _ (e▸p)
  unfold mark at hk hs;rw[aab hki]at hk;rw[aab hsi]at hs;rw[dO (hd _ _ _ _ _ _ p)];exact hp _ _ (I.pd k s t z n x p hk hs)
 dj:=λk s t z n x k' s' t' z' n' x' p p' hk hs hk' SI hne=>by
  have hki:k≠i:=λe=>h2 _ _ _ _ _ (e▸p)
  have hsi:s≠i:=λe=>h1 _ _ _ _ _ (e▸p)
  have hki':k'≠i:=λe=>h2 _ _ _ _ _ (e▸p')
  have hsi':s'≠i:=λe=>h1 _ _ _ _ _ (e▸p')
  unfold mark at hk hs hk' SI;rw[aab hki]at hk;rw[aab hsi]at hs;rw[aab hki']at hk';rw[aab hsi']at SI;rw[dO (hd _ _ _ _ _ _ p),dO (hd _ _ _ _ _ _ p')];exact I.dj _ _ _ _ _ _ _ _ _ _ _ _ p p' hk hs hk' SI hne
def DW(ops:Array Oper)(l:List bL):Prop:=∀k s t z n x k' s' t' z' n' x',cE ops l k s t z n x->cE ops l k' s' t' z' n' x'->(t=t'->k=k'/\s=s')/\(k=k'->t=t')/\(s=s'->t=t')/\k≠s'
def qk.make(U:DW ops l)(I:qk ops l w0 S ta tmps m w){k s t n z x cv}(p0:cE ops l k s t z n x)(ht:t<tmps.size)(hss:S s=false)
  (hnew:lA m' w0 w' z.cells cv) (hfar:∀cb d,cv=.pointer (some ⟨cb,d,none⟩)->w.heap.size<=cb) (hp:∀zc cv,lA m w0 w zc cv->lA m' w0 w' zc cv):qk ops l w0 (mark S k) ta (iE tmps (some t) cv) m' w' where
 size:=by rw[fA];exact I.size
 ag:=λd hd=>by
  by_cases hdt:d=t
  ·subst hdt;exact(hd k s z n x p0 (by simp[mark]) (by
    have:s≠k:=Nat.ne_of_gt p0.ks;simp only[mark,aab this];exact hss)).elim
  ·rw[dO (λe=>hdt (aa0 e).symm)];refine I.ag d λk' s' z' n' x' p hk hs=>hd k' s' z' n' x' p (by unfold mark;split<;>first|rfl|exact hk) ?_
   have:s'≠k:=λe=>((U _ _ _ _ _ _ _ _ _ _ _ _ p0 p).2.2.2 e.symm)
   simp only[mark,aab this];exact hs
 pd:=λk' s' t' z' n' x' p hk hs=>by
  by_cases hkk:k' =k
  ·have e:=(U _ _ _ _ _ _ _ _ _ _ _ _ p0 p).2.1 hkk.symm;subst e;subst hkk;have hz:=p0.hk.symm.trans p.hk;have hz:z=z':=by cases hz;rfl
   subst hz;rw[jB ht];exact hnew
  ·have hsk:s'≠k:=λe=>((U _ _ _ _ _ _ _ _ _ _ _ _ p0 p).2.2.2 e.symm)
   unfold mark at hk hs;rw[aab hkk]at hk;rw[aab hsk]at hs;have hne:t≠t':=λe=>hkk ((U _ _ _ _ _ _ _ _ _ _ _ _ p0 p).1 e).1.symm
   rw[dO (λe=>hne (aa0 e))];exact hp _ _ (I.pd _ _ _ _ _ _ p hk hs)
 dj:=λk1 s1 t1 z1 n1 x1 k2 s2 t2 z2 n2 x2 p1 p2 hk1 UI SK To hne=>by
  have hold:∀k' s' t' z' n' x',cE ops l k' s' t' z' n' x'->k'≠k->mark S k k' =true->mark S k s' =false->t≠t'/\S k' =true/\S s' =false/\(iE tmps (some t) cv).getD t' undef=tmps.getD t' undef:=λk' s' t' z' n' x' p hkk hk hs=>by
   have hsk:s'≠k:=λe=>((U _ _ _ _ _ _ _ _ _ _ _ _ p0 p).2.2.2 e.symm)
   unfold mark at hk hs;rw[aab hkk]at hk;rw[aab hsk]at hs;have hne:t≠t':=λe=>hkk ((U _ _ _ _ _ _ _ _ _ _ _ _ p0 p).1 e).1.symm
   exact⟨hne,hk,hs,dO (λe=>hne (aa0 e))⟩
  have hfar':∀k' s' t' z' n' x',cE ops l k' s' t' z' n' x'->S k' =true->S s' =false->qc cv (tmps.getD t' undef):=λk' s' t' z' n' x' p hk hs cb1 d1 cb2 d2 e1 e2=>by
   obtain⟨cb,d,cc,el,fz,q1,q2,_⟩:=I.pd _ _ _ _ _ _ p hk hs;rw[q1]at e2;cases e2;have:=hfar cb1 d1 e1;have:=(aap.1 q2).1;omega
  by_cases h1:k1=k
  ·have e1:=(U _ _ _ _ _ _ _ _ _ _ _ _ p0 p1).2.1 h1.symm;by_cases h2:k2=k
   ·exact absurd (e1.symm.trans ((U _ _ _ _ _ _ _ _ _ _ _ _ p0 p2).2.1 h2.symm)) hne
   ·obtain⟨a1,a2,a3,a4⟩:=hold _ _ _ _ _ _ p2 h2 SK To;rw[a4,<-e1,jB ht];exact hfar' _ _ _ _ _ _ p2 a2 a3
  ·obtain⟨b1,b2,b3,b4⟩:=hold _ _ _ _ _ _ p1 h1 hk1 UI;by_cases h2:k2=k
   ·have e2:=(U _ _ _ _ _ _ _ _ _ _ _ _ p0 p2).2.1 h2.symm;rw[b4,<-e2,jB ht];exact(hfar' _ _ _ _ _ _ p1 b2 b3).symm
   ·obtain⟨a1,a2,a3,a4⟩:=hold _ _ _ _ _ _ p2 h2 SK To;rw[a4,b4];exact I.dj _ _ _ _ _ _ _ _ _ _ _ _ p1 p2 b2 b3 a2 a3 hne
def qk.fill(U:DW ops l)(I:qk ops l w0 S ta tmps m w){k s t n z x}(p0:cE ops l k s t z n x)(ht:t<tmps.size)
  (hp:∀zc cv,qc cv (tmps.getD t undef)->lA m w0 w zc cv->lA m' w0 w' zc cv) (hk:S k=true) (hs:S s=false):qk ops l w0 (mark S s) (iE ta (some t) (tmps.getD t undef)) tmps m' w':=by
 have hold:∀k' s' t' z' n' x',cE ops l k' s' t' z' n' x'->mark S s k' =true->mark S s s' =false->t≠t'/\S k' =true/\S s' =false:=λk' s' t' z' n' x' p hk' SI=>by
  have h1:k'≠s:=(U _ _ _ _ _ _ _ _ _ _ _ _ p p0).2.2.2;have h2:s'≠s:=λe=>by simp[mark,e]at SI
  unfold mark at hk' SI;rw[aab h1]at hk';rw[aab h2]at SI;exact⟨λe=>h2 ((U _ _ _ _ _ _ _ _ _ _ _ _ p p0).1 e.symm).2,hk',SI⟩
 refine⟨by rw[fA];exact I.size,λd hd=>?_,λk' s' t' z' n' x' p hk' SI=>?_,λk1 s1 t1 z1 n1 x1 k2 s2 t2 z2 n2 x2 p1 p2 hk1 UI SK To hne=>?_⟩
 ·by_cases hdt:d=t
  ·subst hdt;rw[jB (by rw[<-I.size];exact ht)]
  ·rw[dO (λe=>hdt (aa0 e).symm)];refine I.ag d λk' s' z' n' x' p hk' SI=>hd k' s' z' n' x' p (by unfold mark;split<;>first|rfl|exact hk') ?_
   have h2:s'≠s:=λe=>hdt ((U _ _ _ _ _ _ _ _ _ _ _ _ p p0).2.2.1 e)
   simp only[mark,aab h2];exact SI
 ·obtain⟨a1,a2,a3⟩:=hold _ _ _ _ _ _ p hk' SI;exact hp _ _ (I.dj _ _ _ _ _ _ _ _ _ _ _ _ p p0 a2 a3 hk hs (abo a1)) (I.pd _ _ _ _ _ _ p a2 a3)
 ·obtain⟨a1,a2,a3⟩:=hold _ _ _ _ _ _ p1 hk1 UI;obtain⟨b1,b2,b3⟩:=hold _ _ _ _ _ _ p2 SK To;exact I.dj _ _ _ _ _ _ _ _ _ _ _ _ p1 p2 a2 a3 b2 b3 hne
end
def cR{M ops}(h:mC M ops=true){i j x y}(hij:i<j)(hx:ops[i]? =some x)(hy:ops[j]? =some y):
  (∀d,x.dst=some d->y.dst≠some d/\(d∈y.looksAt ops->ahead M i j=true))/\(∀d,y.dst=some d->d∈x.looksAt ops->ahead M i j=true):=by
 have hj:j<ops.size:=(aap.1 hy).1;unfold mC at h;rw[aaE]at h;have h1:=h j (abh.2 hj);rw[aaE]at h1;have h2:=h1 i (abh.2 hij);rw[hx,hy]at h2;simp only[aaD]at h2;obtain⟨h3,h4⟩:=h2;constructor
 ·intro d hd;rw[hd]at h3;simp only[aaD,bne_iff_ne,ne_eq,abP,abr,List.contains_eq_mem,abl]at h3;exact⟨h3.1,λhl=>h3.2.resolve_left (λhx=>hx hl)⟩
 ·intro d hd hl;rw[hd]at h4;simp only[abP,abr,List.contains_eq_mem,abl]at h4;exact h4.resolve_left (λhx=>hx hl)
def o9{M ops}(h:kY M ops=true){j o}(ho:ops[j]? =some o):
  (∀e∈o.after,Region.binds .any e=true->e.on<j)/\(∀i,i<ops.size->ahead M i j=true->∃e∈o.after,Region.binds .any e=true/\(e.on=i\/ahead M i e.on=true)):=by
 have hj:j<ops.size:=(aap.1 ho).1;unfold kY at h;rw[aaE]at h;have h1:=h j (abh.2 hj);rw[ho]at h1;simp only[aaD]at h1;obtain⟨h2,h3⟩:=h1;constructor
 ·intro e he hb;rw[aaE]at h2;have:=h2 e (by simpa using he);simp only[hb,aar,acf,aaK]at this;exact this
 ·intro i hi ha;rw[aaE]at h3;have:=h3 i (abh.2 hi);simp only[ha,aar,acf,abx,aaD,abP,beq_iff_eq]at this;obtain⟨e,he,hb,hor⟩:=this;exact⟨e,by simpa using he,hb,hor⟩
def pg{M n j}(h:iw M n j=true){i}(hi:i<n)(hne:i≠j):(i<j->ahead M i j=true)/\(j<i->ahead M j i=true):=by
 unfold iw at h;rw[aaE]at h;have h1:=h i (abh.2 hi);simp only[abP,beq_iff_eq]at h1;have h2:=h1.resolve_left hne;constructor
 ·intro hlt;rwa [aai hlt]at h2
 ·intro hlt;rwa [aab Om]at h2
theorem vg{T:Nat->TS}{t:Nat}{a:Nat}:∀k,(∀j,a<=j->j<a+k->∃d v,T (j+1)=put (T j) d v/\d≠some t)->(T (a+k)).getD t az=(T a).getD t az
 | 0,_=>rfl
 |k+1,h=>by
  obtain⟨d,v,h1,h2⟩:=h (a+k) Om Om;rw[show a+(k+1)=a+k+1 from by omega,h1,yw h2];exact vg k λj h3 h4=>h j h3 Om
def zu{listed:Array Bool}{i:Nat}(hi:i<listed.size):(λj=>(listed.setIfInBounds i true).getD j false)=mark (λj=>listed.getD j false) i:=by
 funext j;unfold mark;exact dh hi
def jA{ops listed}(hs:listed.size=ops.size){i}:i∈Region.ready .any ops listed↔∃o,ops[i]? =some o/\listed.getD i false=false/\∀e∈o.after,Region.binds .any e=true->listed.getD e.on false=true:=by
 unfold Region.ready;simp only[aa6,abh,aaD,abr];constructor
 ·rintro⟨hi,hl,ha⟩;have ho:ops[i]? =some ops[i]:=aaV hi;refine⟨ops[i],ho,?_,?_⟩
  ·exact KX
  ·rw[ho]at ha;simp only[abT,acg,Array.all_eq_true_iff_forall_mem,abP,abr]at ha;intro e he hb;exact(ha e he).resolve_left (by simp[hb])
 ·rintro⟨o,ho,hl,ha⟩;have hi:i<ops.size:=(aap.1 ho).1;refine⟨hi,?_,?_⟩
  ·exact KX
  ·rw[ho];simp only[abT,acg,Array.all_eq_true_iff_forall_mem,abP,abr];intro e he;cases hb:Region.binds .any e with
   |true=>exact .inr (ha e he hb)
   |false=>exact .inl rfl
def mE{M ops}(he:kY M ops=true){listed}(hs:listed.size=ops.size)(hr:Region.ready .any ops listed=[]):∀i,i<ops.size->listed.getD i false=true:=by
 intro i
 induction i using Nat.strongRecOn with
 |_ i ih=>
  intro hi;cases hl:listed.getD i false with
  |true=>rfl
  |false=>
   have:i∈Region.ready .any ops listed:=by
    have ho:ops[i]? =some ops[i]:=aaV hi;refine(jA hs).2 ⟨ops[i],ho,hl,λe hee hb=>?_⟩;have:=(o9 he ho).1 e hee hb;exact ih e.on this Om
   rw[hr]at this;cases this
def mF{ops listed}(hs:listed.size=ops.size)(h:∀i,i<ops.size->listed.getD i false=true):Region.ready .any ops listed=[]:=by
 cases hr:Region.ready .any ops listed with
 |nil=>rfl
 |cons x xs=>
  have:x∈Region.ready .any ops listed:=by rw[hr];simp
  obtain⟨o,ho,hl,_⟩:=(jA hs).1 this;rw[h x (aap.1 ho).1]at hl;cases hl
def vU{P:Program}(hmix:P.follows .mixedOrders=true){ops:Array Oper}{l:List bL}(hc:cQ P ops true=some l){ts ts':TS}{h h':ah}(hs:yV P l ts h ts' h'){m:cj}{a:Act}{w:World}
  (st:St P m ts h a w) (ro:Option Nat) (Q:Exit->Act->World->Prop) (hQ:∀m' a' w',St P m' ts' h' a' w'->Grow m h w m' h' w'->a'.defers=a.defers->Q .normal a' w') (id:Nat):
  (Code.region id ops true).wpIn (Fd ro) 0 P Q a w:=by
 refine wpIn_region_any hmix ?_;obtain⟨T,H,rfl,rfl,rfl,rfl,hrow⟩:=hs.row;simp only[cQ,aan]at hc;split at hc
 case isFalse=>cases hc
 rename_i hok;simp only[aaD]at hok;obtain⟨hed,hsl⟩:=hok;obtain⟨l0,hc,hl⟩:=aav.1 hc;obtain⟨S2,SR⟩:=gG hc;simp only[ace]at S2;have hlen:l.length=ops.size:=by rw[<-hl,wW,S2]
 have hget0:∀j o,ops[j]? =some o->∃io,l0[j]? =some io/\bX P ops (!iw (Region.before ops) ops.size j) o=some io:=λj o ho=>by
  obtain⟨y,h1,h2⟩:=SR j o (by simpa using ho);exact⟨y,h1,by rwa [aaP]at h2⟩
 have VB:∀j io,l0[j]? =some io->∃o,ops[j]? =some o/\bX P ops (!iw (Region.before ops) ops.size j) o=some io:=λj io hj=>by
  have hlt:j<ops.size:=by have:=(Z2.1 hj).1;omega
  have ho:ops[j]? =some ops[j]:=aaV hlt;obtain⟨io',h1,h2⟩:=hget0 j _ ho;rw[hj]at h1;cases h1;exact⟨_,ho,h2⟩
 have Yh:∀(j:Nat) (io:bL),l[j]? =some io->(∃k t z n x,cE ops l0 k j t z n x/\io={dst:=some t,k:=.mq n x,gd:=none,q:=true})\/(∃s t z n x,cE ops l0 j s t z n x/\io=Iq)\/
   ((∃o,ops[j]? =some o/\bX P ops (!iw (Region.before ops) ops.size j) o=some io)/\(∀k t z n x,¬cE ops l0 k j t z n x)/\(∀s t z n x,¬cE ops l0 j s t z n x)):=λj io hj=>by
  rw[<-hl,wX,aaP]at hj;obtain⟨io0,h0,rfl⟩:=aav.1 hj;rcases yB S2 h0 with⟨k,t,z,n,x,p,e⟩|⟨s,t,z,n,x,p,e⟩|⟨e,n1,n2⟩
  ·exact .inl ⟨k,t,z,n,x,p,e⟩
  ·exact .inr (.inl ⟨s,t,z,n,x,p,e⟩)
  ·rw[e];exact .inr (.inr ⟨VB j io0 h0,n1,n2⟩)
 have hdU:∀(i j:Nat) (oi oj:Oper) (d:Nat),ops[i]? =some oi->ops[j]? =some oj->oi.dst=some d->oj.dst=some d->i=j:=λi j oi oj d hi hj h1 h2=>by
  by_cases hlt:i<j
  ·exact absurd h2 ((cR hsl hlt hi hj).1 d h1).1
  ·by_cases V3:j<i
   ·exact absurd h1 ((cR hsl V3 hj hi).1 d h2).1
   ·omega
 have Zz:∀{k s t:Nat}{z:AV}{n:Nat}{x:c7},cE ops l0 k s t z n x->∃o,ops[k]? =some o/\o.dst=some t/\bX P ops (!iw (Region.before ops) ops.size k) o=some {dst:=some t,k:=.box (.c z),gd:=none,q:=true}:=λp=>by
  obtain⟨o,h1,h2⟩:=VB _ _ p.hk;exact⟨o,h1,(dE h2).1.symm,h2⟩
 have hps:∀{k s t:Nat}{z:AV}{n:Nat}{x:c7},cE ops l0 k s t z n x->∃o,ops[s]? =some o/\o.dst=none/\bX P ops (!iw (Region.before ops) ops.size s) o=some {dst:=none,k:=.store n (.t t) x,gd:=none,q:=true}:=λp=>by
  obtain⟨o,h1,h2⟩:=VB _ _ p.hs;exact⟨o,h1,(dE h2).1.symm,h2⟩
 have hlooks:∀{j t:Nat}{o:Oper},ops[j]? =some o->fT ops j t=true->t∈o.looksAt ops:=λho h=>by
  unfold fT at h;rw[ho]at h
  simpa using h
 have X7:∀{j t:Nat}{o:Oper},ops[j]? =some o->t∈o.looksAt ops->fT ops j t=true:=λho h=>by
  unfold fT;rw[ho]
  simpa using h
 have eQ:∀{j:Nat}{o:Oper},ops[j]? =some o->j<ops.size:=λho=>(aap.1 ho).1
 have U:DW ops l0:=λk s t z n x k' s' t' z' n' x' p p'=>by
  refine⟨λe=>?_,λe=>?_,λe=>?_,λe=>?_⟩
  ·subst e;obtain⟨o,h1,h2,_⟩:=Zz p;obtain⟨o',h1',h2',_⟩:=Zz p';refine⟨hdU _ _ _ _ _ h1 h1' h2 h2',?_⟩;by_cases hs:s=s'
   ·exact hs
   ·obtain⟨os,UI,_⟩:=hps p';have:=p.only s' (eQ UI) (abo hs);rw[p'.lt]at this;cases this
  ·subst e;have:=p.hk.symm.trans p'.hk;cases this;rfl
  ·subst e;have:=p.hs.symm.trans p'.hs;cases this;rfl
  ·subst e;have:=p.hk.symm.trans p'.hs;cases this
 have hpt:∀{i:Nat}{o:Oper}{t:Nat},ops[i]? =some o->t∈o.looksAt ops->∀k s z n x,cE ops l0 k s t z n x->i=s:=λ{i o t} ho ht k s z n x p=>by
  by_cases hi:i=s
  ·exact hi
  ·have:=p.only _ (eQ ho) hi;rw[X7 ho ht]at this;cases this
 have TZ:∀(j:Nat) (io:bL) (d:Nat),l[j]? =some io->io.dst=some d->(∃o,ops[j]? =some o/\o.dst=some d/\(∀k t z n x,¬cE ops l0 k j t z n x)/\(∀s t z n x,¬cE ops l0 j s t z n x))\/(∃k z n x,cE ops l0 k j d z n x):=λj io d hj hd=>by
  rcases Yh j io hj with⟨k,t,z,n,x,p,e⟩|⟨s,t,z,n,x,p,e⟩|⟨⟨o,h1,h2⟩,n1,n2⟩
  ·rw[e]at hd;cases hd;exact .inr ⟨k,z,n,x,p⟩
  ·rw[e]at hd;cases hd
  ·exact .inl ⟨o,h1,by rw[<- (dE h2).1];exact hd,n1,n2⟩
 have Uu:∀j io,l[j]? =some io->∃v,T (j+1)=put (T j) io.dst v:=λj io hj=>(hrow.step j io hj).1.put
 have hTl:∀j,j<=l.length->(T j).length=(T 0).length:=by
  intro j
  induction j with
  |zero=>intro _;rfl
  |succ j ih=>
   intro hj;exact NY
 have hG:P.globals.size<=(H 0).length:=st.hr.G6;have huniq:∀(i:Nat) (io:bL),l[i]? =some io->∀(j:Nat) (o:bL) (d:Nat),j≠i->l[j]? =some o->o.dst=some d->io.dst≠some d:=by
  intro i io hi j o d hne hj hd Tn;rcases TZ j o d hj hd with⟨oj,a1,a2,a3,a4⟩|⟨k,z,n,x,p⟩
  ·rcases TZ i io d hi Tn with⟨oi,b1,b2,b3,b4⟩|⟨k',z',n',x',p'⟩
   ·exact hne (hdU _ _ _ _ _ a1 b1 a2 b2)
   ·obtain⟨ok,h1,h2,_⟩:=Zz p';have e:=hdU _ _ _ _ _ a1 h1 a2 h2;subst e;exact a4 _ _ _ _ _ p'
  ·rcases TZ i io d hi Tn with⟨oi,b1,b2,b3,b4⟩|⟨k',z',n',x',p'⟩
   ·obtain⟨ok,h1,h2,_⟩:=Zz p;have e:=hdU _ _ _ _ _ b1 h1 b2 h2;subst e;exact b4 _ _ _ _ _ p
   ·exact hne ((U _ _ _ _ _ _ _ _ _ _ _ _ p p').1 rfl).2
 have SX:∀a b t,a<=b->b<=l.length->(∀(j:Nat) (o:bL),a<=j->j<b->l[j]? =some o->o.dst≠some t)->(T b).getD t az=(T a).getD t az:=by
  intro a b t hab hb hno;have:=vg (T:=T) (t:=t) (a:=a) (b-a) (λj h1 h2=>by
   have hj:l[j]? =some (l[j]'Om):=Z6 Om;obtain⟨v,hv⟩:=Uu j _ hj;exact⟨_,v,hv,hno j _ h1 Om hj⟩)
  rwa [show a+(b-a)=b from by omega]at this
 have hqt:∀(j:Nat) (io:bL),l[j]? =some io->iw (Region.before ops) ops.size j=false->io.q=true:=λj io hj hb=>by
  rcases Yh j io hj with⟨k,t,z,n,x,p,e⟩|⟨s,t,z,n,x,p,e⟩|⟨⟨o,h1,h2⟩,n1,n2⟩
  ·rw[e]
  ·rw[e];rfl
  ·rw[(dE h2).2,hb];rfl
 have hdone:∀(listed:Array Bool) (β θ:Nat) (m1:cj) (ta:Array Value) (a1:Act) (w1:World),(∀i,i<ops.size->listed.getD i false=true)->
   tn P l T H m w (λj=>listed.getD j false) β θ m1 ta w1->qk ops l0 w (λj=>listed.getD j false) ta a1.tmps m1 w1->a1.defers=a.defers->Q .normal a1 w1:=by
  intro listed β θ m1 ta a1 w1 hall M I hd;have hθ:θ=l.length:=by
   have h1:=M.θn;by_cases hz:l.length=0
   ·omega
   ·have:=M.high (l.length-1) (hall _ Om);omega
  subst hθ;refine hQ m1 a1 w1 ⟨M.hr,cL.iL ?_ ?_⟩ M.grow hd
  ·have:=M.size;have:=I.size;have:=hTl l.length (aah _);simp;omega
  ·intro t x hx;have hlt:=(Z2.1 hx).1;have Th:t<a1.tmps.size:=by have:=M.size;have:=I.size;have:=hTl l.length (aah _);omega
   have ex:(T l.length).getD t az=x:=by simp[List.getD,hx]
   have ey:a1.tmps.getD t undef=a1.tmps[t]:=by simp[aaR,aaV Th]
   have eg:a1.tmps.getD t undef=ta.getD t undef:=I.ag t λk s z n x p _ hs=>by
    obtain⟨os,UI,_⟩:=hps p;rw[hall s (eQ UI)]at hs;cases hs
   refine⟨a1.tmps[t],Si,?_⟩;rw[<-ex,<-ey,eg];by_cases hw:∃(j:Nat) (o:bL),l[j]? =some o/\o.dst=some t
   ·obtain⟨j,o,hj,ho⟩:=hw;have U9:=(Z2.1 hj).1;have h1:=M.y8 t j o hj (hall j Om) ho;rw[SX (j+1) l.length t Om (aah _) (λk o' h2 h3 h4 h5=>huniq j o hj k o' t Om h4 h5 ho)];exact VR.mono (cj.fJ _ _) _ _ h1
   ·rw[SX 0 l.length t Om (aah _) (λk o' _ _ h4 h5=>hw ⟨k,o',h4,h5⟩)];exact VR.mono (M.grow.le st.hr.cO) _ _ (M.y9 t (λj o hj _ ho=>hw ⟨j,o,hj,ho⟩))
 have key:∀(fuel:Nat) (listed:Array Bool) (β θ:Nat) (m1:cj) (ta:Array Value) (a1:Act) (w1:World),listed.size=ops.size->rq listed ops.size<=fuel->
   (∀j x,listed.getD j false=true->x<ops.size->ahead (Region.before ops) x j=true->listed.getD x false=true)->
   tn P l T H m w (λj=>listed.getD j false) β θ m1 ta w1->qk ops l0 w (λj=>listed.getD j false) ta a1.tmps m1 w1->a1.defers=a.defers->wpAnyIn (Fd ro) 0 P .any ops Q fuel listed a1 w1:=by
  intro fuel
  induction fuel with
  |zero=>
   intro listed β θ m1 ta a1 w1 SZ hu hcl M I hd;have hall:=lM ops.size (show rq listed ops.size=0 by omega);exact⟨mF SZ hall,hdone listed β θ m1 ta a1 w1 hall M I hd⟩
  |succ fuel ih=>
   intro listed β θ m1 ta a1 w1 SZ hu hcl M I hd;refine⟨λhr=>hdone listed β θ m1 ta a1 w1 (mE hed SZ hr) M I hd,λi hi=>?_⟩;obtain⟨o,ho,TV,Ye⟩:=(jA SZ).1 hi;have hin:i<ops.size:=(aap.1 ho).1;have hio:l[i]? =some (l[i]'Om):=Z6 Om;generalize l[i]'Om=io at hio;obtain⟨bY,hq⟩:=hrow.step i io hio;have hahead:∀x,x<ops.size->ahead (Region.before ops) x i=true->listed.getD x false=true:=λx hx ha=>by
    exact z37
   have UK:β<=i:=by
    by_cases hx:i<β
    ·have:=M.low i hx;simp only[TV]at this;cases this
    ·omega
   have UU:∀j x,(listed.setIfInBounds i true).getD j false=true->x<ops.size->ahead (Region.before ops) x j=true->(listed.setIfInBounds i true).getD x false=true:=by
    intro j x hj hx ha;exact NG
   have WH:rq (listed.setIfInBounds i true) ops.size<=fuel:=by
    exact NB
   have hslot:∀(β' θ':Nat),tn P l T H m w (λj=>listed.getD j false) β' θ' m1 ta w1->i<=θ'->∀t,t∈o.looksAt ops->(∀k s z n x,¬cE ops l0 k s t z n x)->VR (m1.dQ (H i).length) ((T i).getD t az) (ta.getD t undef):=by
    intro β' θ' M' hi' t ht hnp;have h0i:=fW M'.len (aaC i) hi';by_cases hex:∃(x:Nat) (ox:bL),l[x]? =some ox/\listed.getD x false=true/\ox.dst=some t
    ·obtain⟨x,ox,hx,hxl,Wd⟩:=hex;rcases TZ x ox t hx Wd with⟨oo,Vo,Wx,_⟩|⟨k,z,n,y,p⟩
     ·have hxn:x<ops.size:=(aap.1 Vo).1;have hxi:x<i:=by
       by_cases h1:x=i
       ·subst h1;rw[TV]at hxl;cases hxl
       ·by_cases h2:x<i
        ·exact h2
        ·have h3:=(cR hsl (show i<x by omega) ho Vo).2 t Wx ht;have h4:=hcl x i hxl hin h3;rw[TV]at h4;cases h4
      have h1:=M'.y8 t x ox hx hxl Wd;rw[SX (x+1) i t Om Om (λk o' h2 h3 h4 h5=>huniq x ox hx k o' t Om h4 h5 Wd)];exact VR.mono (cj.Af _ (fW M'.len Om hi')) _ _ h1
     ·exact absurd p (hnp _ _ _ _ _)
    ·rw[SX 0 i t Om Om (λk o' h2 h3 h4 h5=>by
      rcases TZ k o' t h4 h5 with⟨oo,Vo,Tn,_⟩|⟨k',z,n,y,p⟩
      ·have h6:=((cR hsl h3 Vo ho).1 t Tn).2 ht;exact hex ⟨k,o',h4,hahead k (aap.1 Vo).1 h6,h5⟩
      ·exact hnp _ _ _ _ _ p)]
     refine VR.mono ?_ _ _ (M'.y9 t (λj o hj hl Tn=>hex ⟨j,o,hj,hl,Tn⟩));intro b e hb;have:=st.hr.cO b e hb;unfold cj.dQ;rw[aai Om];exact M'.grow.le st.hr.cO b e hb
   have ZU:∀t,(∀k s z n x,¬cE ops l0 k s t z n x)->a1.tmps.getD t undef=ta.getD t undef:=λt hnp=>I.ag t λk s z n x p _ _=>hnp _ _ _ _ _ p
   have hTn:∀j,j<=l.length->a1.tmps.size=(T j).length:=λj hj=>by rw[I.size,M.size,hTl j hj]
   have Vn:io.q=true->∃θ',i<θ'/\tn P l T H m w (λj=>listed.getD j false) β θ' m1 ta w1:=λVa=>by
    by_cases TW:i<θ
    ·exact⟨θ,TW,M⟩
    ·refine⟨i+1,Om,M.raise Om Om λj hj Yb=>?_⟩;have U9:j<ops.size:=Om
     have ZK:l[j]? =some (l[j]'Om):=Z6 Om;by_cases hji:j=i
     ·subst hji;rw[hio]at ZK;exact hq Va
     ·have hjs:listed.getD j false=false:=by
       cases hx:listed.getD j false with
       |false=>rfl
       |true=>have:=M.high j hx;omega
      cases hb:iw (Region.before ops) ops.size j with
      |true=>
       have h1:=(pg hb hin (λx=>hji x.symm)).2 Om;have h2:=hahead j U9 h1;rw[hjs]at h2;cases h2
      |false=>exact(hrow.step j _ ZK).2 (hqt j _ ZK hb)
   have hih:∀(β2 Y6:Nat) (m2:cj) (ta2:Array Value) (a2:Act) (w2:World),tn P l T H m w (mark (λj=>listed.getD j false) i) β2 Y6 m2 ta2 w2->qk ops l0 w (mark (λj=>listed.getD j false) i) ta2 a2.tmps m2 w2->a2.defers=a1.defers->
     wpAnyIn (Fd ro) 0 P .any ops Q fuel (listed.setIfInBounds i true) a2 w2:=λβ2 Y6 m2 ta2 a2 w2 M2 I2 Yf=>
    ih (listed.setIfInBounds i true) β2 Y6 m2 ta2 a2 w2 (by simpa using SZ) WH UU (by rw[zu Om];exact M2) (by rw[zu Om];exact I2) (Yf.trans hd)
   rcases Yh i io hio with⟨k,t,z,n,x,p,e⟩|⟨s,t,z,n,x,p,e⟩|⟨⟨o',ho',SV⟩,n1,n2⟩
   ·
    subst e;obtain⟨os,hos,hosd,SV⟩:=hps p;rw[ho]at hos;cases hos;obtain⟨ok,WT,Tq,_⟩:=Zz p;have XK:listed.getD k false=true:=hahead k (eQ WT) (((cR hsl p.ks WT ho).1 t Tq).2 (hlooks ho p.lt));have hpend:=I.pd _ _ _ _ _ _ p XK TV;obtain⟨cb,d,cc,el,fz,UT,hheap,S0,hfz,hcon,Zq,hout⟩:=hpend;obtain⟨θ',TW,M'⟩:=Vn rfl;have UG:=M'.cut hG UK (acp TW);obtain⟨X,hX1,hX2,VV,ZX,hTs⟩:∃X:List AV,X=(val (T i) x).cells/\(X.all AV.one=true/\X.length=n)/\t<(T i).length/\H (i+1)=H i++[.cells X true false]/\T (i+1)=put (T i) (some t) (.ptr (H i).length 0):=by
     generalize H (i+1)=H1 at bY;generalize T (i+1)=T1 at bY;cases bY with
     |run hw hb hs=>
      have hs:dI (.mq n x) (val (T i)) (H i)=some (_,_):=hs;simp only[dI]at hs;split at hs
      case isFalse=>cases hs
      rename_i S3;cases hs;exact⟨_,rfl,S3,hb,rfl,rfl⟩
     |skip hw=>exact absurd trivial hw
    have hr1:=UG.Nk hheap hfz (λb e he=>hout b e (cj.fJ _ _ _ _ he)) S0 (λj y hy=>by
     obtain⟨h1,v,h2,h3⟩:=hcon j y hy;exact⟨h1,v,h2,h3 _⟩)
    generalize hmc:(m1.dQ (H i).length).add (H i).length ⟨cb,d,cc.size,true⟩=mc at hr1;have X6:mc (H i).length=some ⟨cb,d,cc.size,true⟩:=by rw[<-hmc];simp[cj.add]
    have WY:∀b,b≠(H i).length->mc b=(m1.dQ (H i).length) b:=λb hb=>by rw[<-hmc];unfold cj.add;rw[aab hb]
    have hmcl:(m1.dQ (H i).length).le mc:=λb e he=>by
     by_cases hb:b=(H i).length
     ·subst hb;have:=UG.cO _ _ he;omega
     ·rw[WY b hb];exact he
    have VT:val (put (T i) (some t) (.ptr (H i).length 0)) x=val (T i) x:=by
     cases x with
     |t u=>
      have hut:=(p.xt u rfl).1;simp only[val];exact yw (λe=>hut (aa0 e).symm)
     |_=>rfl
    have hvt:val (put (T i) (some t) (.ptr (H i).length 0)) (.t t)=.ptr (H i).length 0:=by
     simp only[val,put,List.getD];rw[aak VV];rfl
    have hzl:z.cells.length=X.length:=by rw[p.zn,hX2.2]
    have ZJ:dL P {dst:=none,k:=.store n (.t t) x,gd:=none,q:=true} (put (T i) (some t) (.ptr (H i).length 0)) (H i++[.cells z.cells true false]) (put (T i) (some t) (.ptr (H i).length 0)) (H (i+1)):=by
     refine dL.run (v:=az) trivial trivial ?_;show dI (.store n (.t t) x) _ _=some (az,H (i+1));simp only[dI,hvt,VT];rw[aaf (aah _),abb];show(if(val (T i) x).cells.length=n/\(val (T i) x).cells.all AV.one=true/\0+n<=z.cells.length then some (az,(H i++[ak.cells z.cells true false]).set (H i).length (.cells (gf z.cells 0 (val (T i) x).cells) true false))else none)=_;rw[<-hX1,aai ⟨hX2.2,hX2.1,by rw[p.zn];omega⟩];have aT:=rA X z.cells [] hzl;rw[abI,abI,Z9]at aT;rw[aT,aa1 _ _ (aah _),abb,ZX];rfl
    refine fP ho SV hr1.gv hr1 (by rw[nG];exact hTn i Om) (λu hu=>?_) ZJ ro _ Q ?_
    ·by_cases hut:u=t
     ·subst hut;have:(put (T i) (some u) (AV.ptr (H i).length 0)).getD u az=.ptr (H i).length 0:=hvt;rw[this,UT];exact⟨_,X6,by rw[aaP]⟩
     ·have hnp:∀k s z n x,¬cE ops l0 k s u z n x:=λk' s' z' n' x' p'=>by
       have e:=hpt ho hu _ _ _ _ _ p';exact hut ((U _ _ _ _ _ _ _ _ _ _ _ _ p' p).2.2.1 e.symm)
      rw[yw (λe=>hut (aa0 e).symm),ZU u hnp];exact VR.mono hmcl _ _ (hslot β θ' M' (acp TW) u hu hnp)
    ·intro cv v m' w' _ _ hr' Tc;have hlen1:(H i++[ak.cells z.cells true false]).length=(H i).length+1:=Si
     have Xb:(H (i+1)).length=(H i).length+1:=by rw[ZX];simp
     have ZB:∀b,b<(H i).length+1->m' b=mc b:=λb hb=>Tc.ext b (by rw[hlen1];exact hb)
     have ZC:m' (H i).length=some ⟨cb,d,cc.size,true⟩:=by rw[ZB _ Om];exact X6
     have YH:∀b e,(H i).length<=b->m' b=some e->b=(H i).length/\e=⟨cb,d,cc.size,true⟩:=λb e hb he=>by
      have h1:=hr'.cO b e he;rw[Xb]at h1;have:b=(H i).length:=Om
      subst this;rw[ZC]at he;cases he;exact⟨rfl,rfl⟩
     have M2:=M'.GY hG UK TW TV hio hr' (λb hb=>by rw[ZB b Om,WY b Om])
      (λb e hb he=>by
       obtain⟨_,rfl⟩:=YH b e hb he;exact⟨rfl,Zq,λb' e' h=>hout b' e' h⟩)
      (λy hy h1 h2=>Tc.frame y hy λb e he ho' hcb=>by
       by_cases hb:b=(H i).length
       ·subst hb;rw[X6]at he;cases he;exact h2 _ _ (aah _) ZC hcb
       ·rw[WY b hb]at he;exact h1 b e he ho' hcb)
      Tc.size Tc.os Tc.out Tc.tape (v:=.ptr (H i).length 0) (cv:=a1.tmps.getD t undef) (by rw[UT];exact⟨_,ZC,by rw[aaP]⟩) hTs (hTl i Om) (huniq i _ hio)
     have Zy:a1.put o.dst cv=a1:=by rw[hosd];rfl
     rw[Zy];refine hih _ _ _ _ a1 w' M2 (I.fill U p (by rw[hTn i Om];exact VV) (λzc c hne q=>?_) XK TV) rfl;refine q.move (λXt d' hc hlt h7=>?_) (λXt d' hc hlt h7 b e he=>?_)
     ·refine Tc.frame Xt hlt λb e he _ hcb=>?_
      by_cases hb:b=(H i).length
      ·subst hb;rw[X6]at he;cases he;exact hne _ _ _ _ hc UT hcb.symm
      ·rw[WY b hb]at he;exact h7 b e (cj.fJ _ _ _ _ he) hcb
     ·unfold cj.patch at he;split at he
      ·rename_i hb;by_cases hbl:b<(H i).length
       ·rw[ZB b Om,WY b Om]at he;exact h7 b e (cj.fJ _ _ _ _ he)
       ·obtain⟨_,rfl⟩:=YH b e Om he
        exactλhcb=>hne _ _ _ _ hc UT hcb.symm
      ·exact h7 b e he
   ·
    subst e;obtain⟨ok,WT,Tq,SV⟩:=Zz p;rw[ho]at WT;cases WT;obtain⟨os,hos,_⟩:=hps p;have hss:listed.getD s false=false:=by
     cases hx:listed.getD s false with
     |false=>rfl
     |true=>
      have:=hcl s i hx hin (((cR hsl p.ks ho hos).1 t Tq).2 (hlooks hos p.lt));rw[TV]at this;cases this
    obtain⟨θ',TW,M'⟩:=Vn rfl;have UG:=M'.cut hG UK (acp TW);have VV:t<(T i).length:=by
     have hsl':s<l.length:=by rw[hlen];exact eQ hos
     have UI:l[s]? =some l[s]:=Z6 hsl';have To:=(hrow.step s _ UI).1;rcases Yh s _ UI with⟨k',t',z',n',x',p',e⟩|⟨s',t',z',n',x',p',e⟩|⟨_,n1,_⟩
     ·have e2:=(U _ _ _ _ _ _ _ _ _ _ _ _ p p').2.2.1 rfl;subst e2;rw[e]at To;generalize H (s+1)=H1 at To;generalize T (s+1)=T1 at To;have:t<(T s).length:=by
       cases To with
       |run hw hb hs=>exact hb
       |skip hw=>exact absurd trivial hw
      rw[hTl s Om]at this;rw[hTl i Om];exact this
     ·exact absurd rfl ((U _ _ _ _ _ _ _ _ _ _ _ _ p' p).2.2.2)
     ·exact absurd p (n1 _ _ _ _ _)
    have hHk:H (i+1)=H i/\T (i+1)=T i:=by
     generalize H (i+1)=H1 at bY;generalize T (i+1)=T1 at bY;cases bY with
     |run hw hb hs=>
      have hs:dI (.bV (.c (.bool false))) (val (T i)) (H i)=some (_,_):=hs;simp only[dI]at hs;cases hs;exact⟨rfl,rfl⟩
     |skip hw=>exact absurd trivial hw
    have ZJ:dL P {dst:=some t,k:=.box (.c z),gd:=none,q:=true} (T i) (H i) (put (T i) (some t) (.ptr (H i).length 0)) (H i++[.cells z.cells true false]):=by
     refine dL.run (v:=.ptr (H i).length 0) trivial trivial ?_;exact aai (show(val (T i) (.c z)).cells.all AV.one=true from aaE.2 λy hy=>Dq (aaE.1 p.zc y hy))
    refine fP ho SV UG.gv UG (hTn i Om) (λu hu=>?_) ZJ ro _ Q ?_
    ·have hnp:∀k s z n x,¬cE ops l0 k s u z n x:=λk' s' z' n' x' p'=>by
      have e:=hpt ho hu _ _ _ _ _ p';exact(U _ _ _ _ _ _ _ _ _ _ _ _ p p').2.2.2 e
     rw[ZU u hnp];exact hslot β θ' M' (acp TW) u hu hnp
    ·intro cv v m' w' Uj Um hr' Tc;have hv:v=.ptr (H i).length 0:=by
      rw[Tq]at Uj;have:=aax (λl:TS=>l[t]?) Uj;simp only[put]at this;rw[aak VV,aak VV]at this;exact(aa0 this).symm
     subst hv;obtain⟨e,he,UT⟩:=Um;obtain⟨cc,el,fz,Tm,Tx,Vh,hb4,hb5⟩:=hr'.ep _ e _ he (by rw[aaf (aah _),abb];rfl);obtain⟨hown,hex⟩:=hb5 (.inl rfl);have hex:=hex rfl;obtain⟨_,hnew⟩:=Tc.new _ e (aah _) he;have hfar:w1.heap.size<=e.cb:=by
      rcases hnew with hnew|⟨b0,e0,c1,_,_,c4,c5⟩
      ·exact hnew
      ·have:=UG.cO b0 e0 c1;unfold eZ at c4 c5;rw[Z7 this]at c5;rw[c5]at c4;cases c4
     rw[aaP]at UT;have Wj:=UG.forget hr' Tc;have Vw:=Tc.forget;have M2:=M'.next hG UK TW TV hio (m1:=m'.dQ (H i).length) (w1:=w') (by rw[hHk.1];exact Wj) (by rw[hHk.1];exact Vw) (v:=.bool false) (cv:=.bool false) rfl (by rw[hHk.2];rfl) (hTl i Om) (huniq i _ hio);have hin2:∀b e',((m'.dQ (H i).length).patch m1 (H (i+1)).length) b=some e'->m1 b=some e':=λb e' h=>by
      unfold cj.patch at h;split at h
      ·have hbl:b<(H i).length:=by
        unfold cj.dQ at h;split at h
        ·assumption
        ·cases h
       rw[Vw.ext b hbl]at h;exact cj.fJ _ _ _ _ h
      ·exact h
     have hp2:∀zc c,lA m1 w w1 zc c->lA ((m'.dQ (H i).length).patch m1 (H (i+1)).length) w w' zc c:=λzc c q=>q.move
      (λXt d' _ hlt h7=>Tc.frame Xt hlt λb e' h _=>h7 b e' (cj.fJ _ _ _ _ h)) (λXt d' _ hlt h7 b e' h=>h7 b e' (hin2 b e' h))
     have Zy:(a1.put o.dst cv).tmps=iE a1.tmps (some t) cv:=by rw[Tq];rfl
     refine hih _ _ _ _ (a1.put o.dst cv) w' M2 ?_ (put_defers ..);rw[Zy];show qk ops l0 w _ (iE ta Iq.dst _) _ _ _;refine I.make U p (by rw[hTn i Om];exact VV) hss ?_ (λXt d' h=>?_) hp2
     ·refine⟨e.cb,e.d,cc,el,fz,UT,Tm,Om,(hb4 hown).2,λj y hy=>?_,aaT M.grow.size hfar,λb e' h=>?_⟩
      ·obtain⟨h1,v,h2,h3⟩:=Vh j y hy;exact⟨h1,v,h2,Fz (aaE.1 p.zc y (aaW hy)) h3⟩
      ·have:=M.hr.lt b e' (hin2 b e' h);omega
     ·rw[UT]at h;cases h;exact hfar
   ·
    rw[ho]at ho';cases ho';obtain⟨ZP,hioq⟩:=dE SV;have hnp:∀t,t∈o.looksAt ops->∀k s z n x,¬cE ops l0 k s t z n x:=λt ht k s z n x p=>by
     have:=hpt ho ht k s z n x p;subst this;exact n1 _ _ _ _ _ p
    have UO:∀k s t z n x,cE ops l0 k s t z n x->io.dst≠some t:=λk s t z n x p hx=>by
     obtain⟨ok,h1,h2,_⟩:=Zz p;have e:=hdU _ _ _ _ _ h1 ho h2 (by rw[<-ZP];exact hx);subst e;exact n2 _ _ _ _ _ p
    have SJ:∀(β' θ':Nat),tn P l T H m w (λj=>listed.getD j false) β' θ' m1 ta w1->β'<=i->i<=θ'->
      (∀cv v m' w',T (i+1)=put (T i) io.dst v->VR m' v cv->HR P m' (H (i+1)) w'->Grow (m1.dQ (H i).length) (H i) w1 m' (H (i+1)) w'->∃β2 Y6 m2,tn P l T H m w (mark (λj=>listed.getD j false) i) β2 Y6 m2 (iE ta io.dst cv) w'/\∀zc c,lA m1 w w1 zc c->lA m2 w w' zc c)->
      wpOpIn (Fd ro) 0 P ops Q i (wpAnyIn (Fd ro) 0 P .any ops Q fuel (listed.setIfInBounds i true)) a1 w1:=by
     intro β' θ' M' hb' hi' WU;have UG:=M'.cut hG hb' hi';refine fP ho SV UG.gv UG (hTn i Om) (λt ht=>?_) bY ro _ Q ?_
     ·rw[ZU t (hnp t ht)];exact hslot β' θ' M' hi' t ht (hnp t ht)
     ·intro cv v m' w' Uj Um hr' Tc;obtain⟨β2,Y6,m2,M2,hp2⟩:=WU cv v m' w' (by rw[ZP];exact Uj) Um hr' Tc;have:(a1.put o.dst cv).tmps=iE a1.tmps io.dst cv:=by rw[ZP];cases o.dst<;>rfl
      exact hih β2 Y6 m2 _ _ w' M2 (by rw[this];exact I.other n1 n2 UO hp2) (put_defers ..)
    by_cases Va:io.q=true
    ·obtain⟨θ',TW,M'⟩:=Vn Va;exact SJ β θ' M' UK Om λcv v m' w' Uj Um hr' Tc=>⟨β,θ',_,M'.next hG UK TW TV hio hr' Tc Um Uj (hTl i Om) (huniq i io hio),λzc c q=>(q.grow Tc).2⟩
    ·have hbar:iw (Region.before ops) ops.size i=true:=by
      rw[hioq]at Va
      simpa using Va
     have hall:∀j,j<i->listed.getD j false=true:=λj hj=>hahead j Om ((pg hbar (show j<ops.size by omega) Om).1 hj)
     by_cases TW:i<θ
     ·exact SJ β θ M UK Om λcv v m' w' Uj Um hr' Tc=>⟨β,θ,_,M.next hG UK TW TV hio hr' Tc Um Uj (hTl i Om) (huniq i io hio),λzc c q=>(q.grow Tc).2⟩
     ·have hθi:θ=i:=by
       by_cases hz:i=0
       ·omega
       ·have:=M.high (i-1) (hall _ Om);omega
      subst hθi;exact SJ β θ M UK (aah _) λcv v m' w' Uj Um hr' Tc=>⟨θ+1,θ+1,m',M.jump st.hr.cO hall Om hio hr' Tc Um Uj (hTl θ Om) (huniq θ io hio),λzc c q=>(q.grow Tc).1⟩
 have SQ:∀j,(Array.replicate ops.size false).getD j false=false:=λj=>by
  exact z75
 refine key ops.size (Array.replicate ops.size false) 0 0 m a.tmps a _ Si ?_ (λj x hj _ _=>by simp[SQ j]at hj) ?_ ?_ rfl
 ·exact NH
 ·refine⟨aah _,aaC _,λj hj=>absurd hj Om,λj hj=>by simp[SQ j]at hj,λj _ hj=>absurd hj Om,λj hj=>absurd hj Om,st.hr.drew,λj hj=>absurd hj Om,?_,λj _ hj=>absurd hj Om,
   (Grow.refl m _ w st.hr.cO).drew,?_,?_,?_⟩
  ·intro i hi hi' b e k hb TT hk;have:i=0:=Om
   subst this;exact(st.hr.ep b e k TT hk).js st.hr.cO
  ·exact D6
  ·intro d _;exact n8 st.ts d
  ·intro d j o _ hj _;simp only[SQ j]at hj;cases hj
 ·exact⟨rfl,λ_ _=>rfl,λk s t z n x p hk=>by simp[SQ k]at hk,λk s t z n x k' s' t' z' n' x' p p' hk=>by simp[SQ k]at hk⟩
def Ih{k}(hk:fO k=true){ρ h h' v}(hs:nv k ρ h v h'):h' =h/\∀g,nv k ρ g v g:=by
 cases k<;>first
  |(cases hk;done)
  |skip
 case conv c x=>
  cases c<;>first
   |(cases hk;done)
   |skip
  have hs:dI _ _ _=some (_,_):=hs;simp only[dI,kJ]at hs;split at hs
  ·rename_i k n hx;cases hs;refine⟨rfl,λg=>?_⟩;show dI _ _ _=some (_,_);simp only[dI,kJ,hx]
  ·cases hs
 case len lk x=>
  have e:lk≠.mp->∀g,AG lk g (ρ x)=AG lk h (ρ x):=λhl g=>by
   cases lk<;>first|exact absurd rfl hl|skip
   all_goals
    cases ρ x<;>first|rfl|(simp only[AG,reduceCtorEq,aal];repeat' split)<;>rfl
  have hl:lk≠.mp:=λe=>by rw[e]at hk;cases hk
  have hs:dI _ _ _=some (_,_):=hs;simp only[dI]at hs;split at hs
  ·rename_i n hn;cases hs;refine⟨rfl,λg=>?_⟩;show dI _ _ _=some (_,_);simp only[dI,e hl g,hn]
  ·cases hs
 all_goals
  have hs:dI _ _ _=some (_,_):=hs;simp only[dI]at hs
  repeat' split at hs
  all_goals first
   |(cases hs;done)
   |(cases hs
     refine⟨rfl,λg=>?_⟩;show dI _ _ _=some (_,_);simp only[dI, *]
     done)
   |(cases hs
     refine⟨rfl,λg=>?_⟩;show dI _ _ _=some (_,_);simp[dI, *]
     done)
def yy{P o}(hk:fO o.k=true){ts ts' h h'}(hs:dL P o ts h ts' h'):h' =h/\∀g,dL P o ts g ts' g:=by
 cases hs with
 | @run v h' hw hb hs=>
  have SI:nv o.k (val ts) h v h':=by
   cases UP:o.k<;>rw[UP]at hs hk<;>first|exact hs|(cases hk;done)
  obtain⟨rfl,h2⟩:=Ih hk SI;refine⟨rfl,λg=>.run hw hb ?_⟩;have:=h2 g;cases UP:o.k<;>rw[UP]at this hk<;>first|exact this|(cases hk;done)
 |skip hw=>exact⟨rfl,λg=>.skip hw⟩
def yv{P o}(hk:cG o.k=true){ts ts' h h'}(hs:dL P o ts h ts' h'):h' =h:=by
 by_cases hp:fO o.k=true
 ·exact(yy hp hs).1
 ·cases UP:o.k with
  |load n a=>
   cases hs with
   |run hw hb hs=>
    rw[UP]at hs;have hs:dI (.load n a) _ _=some (_,_):=hs;simp only[dI]at hs
    repeat' split at hs
    all_goals first
     |(cases hs;done)
     |(cases hs;rfl)
   |skip hw=>rfl
  |_=>rw[UP]at hk hp;exact absurd hk hp
def F5{P o}(hk:lh o=true){ts ts' h h'}(hs:dL P o ts h ts' h')(hq:o.q=true->∃g,h' =h++g):∃g,h' =h++g:=by
 by_cases hqq:o.q=true
 ·exact hq hqq
 have hk:DG o.k=true:=by
  have:o.q=false:=by simpa using hqq
  simpa [lh,this]using hk
 cases hs with
 |run hw hb hs=>
  cases UP:o.k<;>rw[UP]at hk hs<;>first|(cases hk;done)|skip
  case bo es n z ps=>
   have hs:nv (.bo es n z ps) _ _ _ _:=hs;obtain⟨c,mu,tl,_,_,_,_,e⟩:=hs;exact⟨_,e⟩
  all_goals
   have hs:dI _ _ _=some (_,_):=hs;simp only[dI]at hs
   repeat' split at hs
   all_goals first
    |(cases hs;done)
    |(cases hs;exact⟨_,rfl⟩)
 |skip hw=>exact⟨[],Si⟩
def CZ{P o n a}(hk:o.k=.load n a){ts ts' h}(hs:dL P o ts h ts' h)(g:ah):dL P o ts (h++g) ts' (h++g):=by
 generalize hh:h=h2 at hs;cases hs with
 | @run v _ hw hb hs=>
  subst hh;refine .run hw (by rw[hk];trivial) ?_;rw[hk]at hs ⊢;have hs:dI (.load n a) (val ts) h=some (v,h):=hs;show dI (.load n a) (val ts) (h++g)=some (v,h++g);simp only[dI]at hs ⊢;cases hv:val ts a with
  |ptr b off=>
   rw[hv]at hs;simp only at hs ⊢;cases Tx:h[b]? with
   |none=>rw[Tx]at hs;cases hs
   |some k=>
    rw[Z7 (Z2.1 Tx).1,Tx];rw[Tx]at hs;cases k with
    |cells c mu tl=>
     simp only at hs ⊢;cases n with
     |none=>
      simp only at hs ⊢;cases hc:c[off]? with
      |none=>rw[hc]at hs;cases hs
      |some x=>rw[hc]at hs;cases hs;rfl
     |some n=>
      simp only at hs ⊢;by_cases hlt:off+n<=c.length
      ·rw[aai hlt]at hs ⊢;cases hs;rfl
      ·rw[aab hlt]at hs;cases hs
    |_=>cases hs
  |_=>rw[hv]at hs;cases hs
 |skip hw=>subst hh;exact .skip hw
def HR.CF{P m h w}(hr:HR P m h w)(g:ah):HR P m (h++g) w where
 cO:=λb e hb=>by have:=hr.cO b e hb;simp;omega
 ep:=λb e k hb hk=>hr.ep b e k hb (by rwa [Z7 (hr.cO b e hb)]at hk)
 sep:=λb1 b2 e1 e2 k1 k2 hne h1 h2 hk1 SK hcb=>hr.sep b1 b2 e1 e2 k1 k2 hne h1 h2 (by rwa [Z7 (hr.cO b1 e1 h1)]at hk1) (by rwa [Z7 (hr.cO b2 e2 h2)]at SK) hcb
 gD:=hr.gD
 lt:=hr.lt
def HR.Iy{P m h g w}(hr:HR P m (h++g) w)(hd:∀b e,m b=some e->b<h.length):HR P m h w where
 cO:=hd
 ep:=λb e k hb hk=>hr.ep b e k hb (by rw[Z7 (hd b e hb)];exact hk)
 sep:=λb1 b2 e1 e2 k1 k2 hne h1 h2 hk1 SK hcb=>hr.sep b1 b2 e1 e2 k1 k2 hne h1 h2 (by rw[Z7 (hd b1 e1 h1)];exact hk1) (by rw[Z7 (hd b2 e2 h2)];exact SK) hcb
 gD:=hr.gD
 lt:=hr.lt
def jM{M l}(h:oQ M l=true){i j x y}(hij:i<j)(hx:l[i]? =some x)(hy:l[j]? =some y)(px:fO x.k=false)(py:fO y.k=false)(lx:nf x=false)(ly:nf y=false)
  (hr:(cG x.k=false/\cG y.k=false)\/(cG x.k=false/\lh x=false)\/(cG y.k=false/\lh y=false)):ahead M i j=true:=by
 have hj:j<l.length:=(Z2.1 hy).1;unfold oQ at h;rw[aaE]at h;have h1:=h j (abh.2 hj);rw[aaE]at h1;have h2:=h1 i (abh.2 hij);rw[hx,hy]at h2;simp only[px,py,lx,ly,acf]at h2;rcases hr with⟨a,b⟩|⟨a,b⟩|⟨a,b⟩<;>simpa [a,b]using h2
theorem zy:∀{l}{i}{o},l[i]? =some o->C0 o=false->i<dS l
 |[],i,o,h,_=>by simp at h
 |x::r,i,o,h,hk=>by
  have hn:¬kV (x::r)=true:=λhall=>by
   have:=aaE.1 (Bool.and_eq_true_iff.1 hall).1 o (aaW h);rw[hk]at this;cases this
  rw[dS,aab hn];cases i with
  |zero=>omega
  |succ i=>have:=zy (l:=r) (i:=i) (by simpa using h) hk;omega
def qA{M l}(h:nK M l=true){i j x y}(hx:l[i]? =some x)(lx:nf x=true)(hy:l[j]? =some y)(ky:cG y.k=false)(hj:dS l<=j):ahead M i j=true:=by
 unfold nK at h;rw[aaE]at h;have h1:=h i (abh.2 (Z2.1 hx).1);rw[hx]at h1;simp only[lx,aar,acf,aaE,abh]at h1;have h2:=h1 j (Z2.1 hy).1;rw[hy]at h2;have Yb:¬j<dS l:=Om
 simpa [ky,Yb]using h2
def rL{P cq}(hmix:P.follows .mixedOrders=true){ops l}(hed:kY (Region.before ops) ops=true)(hsl:mC (Region.before ops) ops=true)
  (hc:fj (λ_ o=>bX P ops (td cq o) o) ops.toList 0=some l) (hmo:oQ (Region.before ops) l=true) {T}{H}(hrow:Row P l T H) (hstab:∀(i:Nat) (io:bL),l[i]? =some io->nf io=true->∀θ,θ<=dS l->dL P io (T i) (H θ) (T (i+1)) (H θ)) (hlate:∀(i j:Nat) (x y:bL),l[i]? =some x->nf x=true->l[j]? =some y->cG y.k=false->dS l<=j->ahead (Region.before ops) i j=true) {m}{a}{w}
  (st:St P m (T 0) (H 0) a w) (ro:Option Nat) (Q:Exit->Act->World->Prop) (hQ:∀m' a' w',St P m' (T l.length) (H l.length) a' w'->Grow m (H 0) w m' (H l.length) w'->a'.defers=a.defers->Q .normal a' w') (id:Nat):
  (Code.region id ops true).wpIn (Fd ro) 0 P Q a w:=by
 refine wpIn_region_any hmix ?_;obtain⟨S2,SR⟩:=gG hc;simp only[ace]at S2;have Xm:∀(j:Nat) (io:bL),l[j]? =some io->∃o,ops[j]? =some o/\bX P ops (td cq o) o=some io:=λj io hj=>by
  exact N5
 have TZ:∀(j:Nat) (io:bL) (d:Nat),l[j]? =some io->io.dst=some d->∃o,ops[j]? =some o/\o.dst=some d:=λj io d hj hd=>by
  exact NV
 have huniq:∀(i j:Nat) (oi oj:bL) (d:Nat),l[i]? =some oi->l[j]? =some oj->oi.dst=some d->oj.dst=some d->i=j:=λi j oi oj d hi hj h1 h2=>by
  exact N7
 have Uu:∀(j:Nat) (io:bL),l[j]? =some io->∃v,T (j+1)=put (T j) io.dst v:=λj io hj=>(hrow.step j io hj).1.put
 have hTl:∀j,j<=l.length->(T j).length=(T 0).length:=by
  intro j
  induction j with
  |zero=>intro _;rfl
  |succ j ih=>
   intro hj;exact NY
 have SX:∀x y t,x<=y->y<=l.length->(∀(j:Nat) (o:bL),x<=j->j<y->l[j]? =some o->o.dst≠some t)->(T y).getD t az=(T x).getD t az:=by
  intro x y t hxy hy hno;exact Ru
 have VD:∀(j:Nat) (io:bL),l[j]? =some io->cG io.k=true->H (j+1)=H j:=λj io hj hk=>yv hk (hrow.step j io hj).1
 have VE:∀x k,x+k<=l.length->(∀(j:Nat) (o:bL),x<=j->j<x+k->l[j]? =some o->cG o.k=true)->H (x+k)=H x:=by
  intro x k
  induction k with
  |zero=>intro _ _;rfl
  |succ k ih=>
   intro hk hno;exact Rp
 have YU:∀x k,x+k<=l.length->(∀(j:Nat) (o:bL),x<=j->j<x+k->l[j]? =some o->cG o.k=true\/lh o=true)->∃g,H (x+k)=H x++g:=by
  intro x k
  induction k with
  |zero=>intro _ _;exact⟨[],Si⟩
  |succ k ih=>
   intro hk hno;have hj:l[x+k]? =some (l[x+k]'Om):=Z6 Om;obtain⟨g,hg⟩:=ih Om λj o h1 h2 h3=>hno j o h1 Om h3
   rcases hno _ _ Om Om hj with h1|h1
   ·exact⟨g,by rw[show x+(k+1)=x+k+1 from by omega,VD _ _ hj h1,hg]⟩
   ·obtain⟨g2,Xg⟩:=F5 h1 (hrow.step _ _ hj).1 (hrow.step _ _ hj).2;exact⟨g++g2,by rw[show x+(k+1)=x+k+1 from by omega,Xg,hg,Z4]⟩
 have V6:∀x y,x<=l.length->y<=l.length->(∀(j:Nat) (o:bL),l[j]? =some o->cG o.k=false->(j<x↔j<y))->H x=H y:=by
  intro x y hx hy hno;exact Ry
 have hdone:∀(listed:Array Bool) (θ:Nat) (m1:cj) (a1:Act) (w1:World),(∀i,i<ops.size->listed.getD i false=true)->θ<=l.length->
   (∀(j:Nat) (o:bL),l[j]? =some o->cG o.k=false->(j<θ↔listed.getD j false=true))->HR P m1 (H θ) w1->Grow m (H 0) w m1 (H θ) w1->a1.tmps.size=(T 0).length->
   (∀(d:Nat),(∀(j:Nat) (o:bL),l[j]? =some o->listed.getD j false=true->o.dst≠some d)->VR m1 ((T 0).getD d az) (a1.tmps.getD d undef))->
   (∀(d j:Nat) (o:bL),l[j]? =some o->listed.getD j false=true->o.dst=some d->VR m1 ((T (j+1)).getD d az) (a1.tmps.getD d undef))->a1.defers=a.defers->Q .normal a1 w1:=by
  intro listed θ m1 a1 w1 hall hθ hS hr hg eQ h1 h2 hd;have e:=V6 θ l.length hθ (aah _) λj o hj hk=>by
   have U9:=(Z2.1 hj).1;have:=(hS j o hj hk).2 (hall j Om);omega
  rw[e]at hr hg;refine hQ m1 a1 w1 ⟨hr,cL.iL ?_ ?_⟩ hg hd
  ·exact HG
  ·intro t x hx;exact RG
 have key:∀(fuel:Nat) (listed:Array Bool) (θ:Nat) (m1:cj) (a1:Act) (w1:World),listed.size=ops.size->rq listed ops.size<=fuel->
   (∀j x,listed.getD j false=true->x<ops.size->ahead (Region.before ops) x j=true->listed.getD x false=true)->θ<=l.length->(θ<=dS l\/∃(j:Nat) (o:bL),l[j]? =some o/\cG o.k=false/\dS l<=j/\j<θ)->
   (∀(j:Nat) (o:bL),l[j]? =some o->cG o.k=false->(j<θ↔listed.getD j false=true))->HR P m1 (H θ) w1->Grow m (H 0) w m1 (H θ) w1->a1.tmps.size=(T 0).length->
   (∀(d:Nat),(∀(j:Nat) (o:bL),l[j]? =some o->listed.getD j false=true->o.dst≠some d)->VR m1 ((T 0).getD d az) (a1.tmps.getD d undef))->
   (∀(d j:Nat) (o:bL),l[j]? =some o->listed.getD j false=true->o.dst=some d->VR m1 ((T (j+1)).getD d az) (a1.tmps.getD d undef))->a1.defers=a.defers->wpAnyIn (Fd ro) 0 P .any ops Q fuel listed a1 w1:=by
  intro fuel
  induction fuel with
  |zero=>
   intro listed θ m1 a1 w1 SZ hu hcl hθ hL hS hr hg eQ h1 h2 hd;have hall:=lM ops.size (show rq listed ops.size=0 by omega);exact⟨mF SZ hall,hdone listed θ m1 a1 w1 hall hθ hS hr hg eQ h1 h2 hd⟩
  |succ fuel ih=>
   intro listed θ m1 a1 w1 SZ hu hcl hθ hL hS hr hg eQ h1 h2 hd;refine⟨λhrn=>hdone listed θ m1 a1 w1 (mE hed SZ hrn) hθ hS hr hg eQ h1 h2 hd,λi hi=>?_⟩;obtain⟨o,ho,TV,Ye⟩:=(jA SZ).1 hi;have hin:i<ops.size:=(aap.1 ho).1;obtain⟨io,hio,SV⟩:=SR i o (by simpa using ho);obtain⟨bY,_⟩:=hrow.step i io hio;have hahead:∀x,x<ops.size->ahead (Region.before ops) x i=true->listed.getD x false=true:=λx hx ha=>by
    exact z37
   have UU:∀j x,(listed.setIfInBounds i true).getD j false=true->x<ops.size->ahead (Region.before ops) x j=true->(listed.setIfInBounds i true).getD x false=true:=by
    intro j x hj hx ha;exact NG
   have WH:rq (listed.setIfInBounds i true) ops.size<=fuel:=by
    exact NB
   have hslot:∀t,t∈o.looksAt ops->VR m1 ((T i).getD t az) (a1.tmps.getD t undef):=by
    intro t ht;exact z12
   have hrp:∀{k:pI},cG k=false->fO k=false:=λ{k} hk=>by
    cases k<;>first|exact hk|(cases hk;done)
   have hld:∀{o:bL},cG o.k=false->nf o=false:=λ{o} hk=>by
    exact z167
   have hne:∀j,j≠i->(listed.setIfInBounds i true).getD j false=listed.getD j false:=λj hj=>by rw[dh Om,aab hj]
   have XZ:cG io.k=true->∀(j:Nat) (o:bL),l[j]? =some o->cG o.k=false->(j<θ↔(listed.setIfInBounds i true).getD j false=true):=λUb j oj hj hk=>by
    have hji:j≠i:=λe=>by
     subst e;rw[hio]at hj;cases hj;rw[Ub]at hk;cases hk
    rw[hne j hji];exact hS j oj hj hk
   have Tw:∃θ',θ'<=l.length/\(θ'<=dS l\/∃(j:Nat) (o:bL),l[j]? =some o/\cG o.k=false/\dS l<=j/\j<θ')/\(∀(j:Nat) (o:bL),l[j]? =some o->cG o.k=false->(j<θ'↔(listed.setIfInBounds i true).getD j false=true))/\∃hb h2,HR P m1 hb w1/\dL P io (T i) hb (T (i+1)) h2/\
     ∀m' w',HR P m' h2 w'->Grow m1 hb w1 m' h2 w'->HR P m' (H θ') w'/\Grow m1 (H θ) w1 m' (H θ') w':=by
    by_cases hp:fO io.k=true
    ·have Ub:cG io.k=true:=by cases UP:io.k<;>rw[UP]at hp<;>first|exact hp|(cases hp;done)
     exact⟨θ,hθ,hL,XZ Ub,H θ,H θ,hr,(yy hp bY).2 _,λm' w' a b=>⟨a,b⟩⟩
    ·have YG:fO io.k=false:=by simpa using hp
     by_cases Wh:nf io=true
     ·have Ub:cG io.k=true:=by
       cases UP:io.k<;>simp[nf,UP]at Wh<;>rfl
      have hθc:θ<=dS l:=by
       rcases hL with h|⟨j,oj,h1,h2,h3,h4⟩
       ·exact h
       ·have e:=hcl j i ((hS j oj h1 h2).1 h4) hin (hlate i j io oj hio Wh h1 h2 h3);rw[TV]at e;cases e
      exact⟨θ,hθ,hL,XZ Ub,H θ,H θ,hr,hstab i io hio Wh θ hθc,λm' w' a b=>⟨a,b⟩⟩
     have Wh:nf io=false:=by simpa using Wh
     by_cases Ub:cG io.k=true
     ·obtain⟨n,ad,UP⟩:∃n ad,io.k=.load n ad:=by
       cases UP:io.k with
       |load n ad=>exact⟨n,ad,rfl⟩
       |_=>rw[UP]at Ub hp;exact absurd Ub hp
      have hHh:∀(j:Nat) (o:bL),l[j]? =some o->cG o.k=false->lh o=false->(j<θ↔j<i):=λj oj hj hk SK=>by
       have U9:=(Z2.1 hj).1;constructor
       ·intro Xd;have UQ:=(hS j oj hj hk).1 Xd;by_cases e1:j=i
        ·exact HE
        ·by_cases e2:j<i
         ·exact e2
         ·have e3:=jM hmo (show i<j by omega) hio hj YG (hrp hk) Wh (hld hk) (.inr (.inr ⟨hk,SK⟩));have e4:=hcl j i UQ hin e3;rw[TV]at e4;cases e4
       ·intro hji;exact(hS j oj hj hk).2 (hahead j Om (jM hmo hji hj hio (hrp hk) YG (hld hk) Wh (.inr (.inl ⟨hk,SK⟩))))
      have Vm:dL P io (T i) (H i) (T (i+1)) (H i):=by
       have e:=yv Ub bY;rw[e]at bY;exact bY
      by_cases TW:i<=θ
      ·obtain⟨g,Xg⟩:=YU i (θ-i) Om λj oj h1 h2 h3=>by
        exact Q9
       rw[show i+(θ-i)=θ from by omega]at Xg;refine⟨θ,hθ,hL,XZ Ub,H θ,H θ,hr,?_,λm' w' a b=>⟨a,b⟩⟩;rw[Xg];exact CZ UP Vm g
      ·obtain⟨g,Xg⟩:=YU θ (i-θ) Om λj oj h1 h2 h3=>by
        exact Q9
       rw[show θ+(i-θ)=i from by omega]at Xg;rw[Xg]at Vm;refine⟨θ,hθ,hL,XZ Ub,H θ++g,H θ++g,hr.CF g,Vm,λm' w' a b=>?_⟩;have hm:m' =m1:=by
        funext z;by_cases hz:z<(H θ++g).length
        ·exact b.ext z hz
        ·have e1:m1 z=none:=by
          cases hx:m1 z with
          |none=>rfl
          |some e=>exact absurd ((hr.CF g).cO z e hx) hz
         have e2:m' z=none:=by
          cases hx:m' z with
          |none=>rfl
          |some e=>exact absurd (a.cO z e hx) hz
         rw[e1,e2]
       subst hm;exact⟨a.Iy hr.cO,⟨λ_ _=>rfl,aah _,λz e hz hmz=>absurd (hr.cO z e hmz) Om,λ_ _ x=>x,b.size,b.os,b.out,b.tape,b.frame⟩⟩
     ·have Uo:cG io.k=false:=by simpa using Ub
      have hHi:H θ=H i:=V6 θ i hθ Om λj oj hj hk=>by
       have U9:=(Z2.1 hj).1;constructor
       ·intro Xd;have UQ:=(hS j oj hj hk).1 Xd;by_cases e1:j=i
        ·exact HE
        ·by_cases e2:j<i
         ·exact e2
         ·exact K6
       ·intro hji;exact(hS j oj hj hk).2 (hahead j Om (jM hmo hji hj hio (hrp hk) YG (hld hk) Wh (.inl ⟨hk,Uo⟩)))
      refine⟨i+1,Om,(by by_cases hc:i+1<=dS l;exact .inl hc;exact .inr ⟨i,io,hio,Uo,Om,Om⟩),λj oj hj hk=>?_,H θ,H (i+1),hr,by rw[hHi];exact bY,λm' w' a b=>⟨a,b⟩⟩;have U9:=(Z2.1 hj).1;by_cases e1:j=i
      ·subst e1;rw[dh Om,aai rfl];exact⟨λ_=>rfl,λ_=>by omega⟩
      ·rw[hne j e1];constructor
       ·intro hji;exact hahead j Om (jM hmo (show j<i by omega) hj hio (hrp hk) YG (hld hk) Wh (.inl ⟨hk,Uo⟩))
       ·intro UQ;by_cases e2:j<i
        ·omega
        ·exact K6
   obtain⟨θ',Zo,XO,hS',hb,h2',X1,Vm,Ut⟩:=Tw;refine fP ho SV X1.gv X1 (by rw[eQ,hTl i Om]) hslot Vm ro _ Q ?_;intro cv v' m' w' Uj Um hrx hgx;obtain⟨hr',Tc⟩:=Ut m' w' hrx hgx;have Tn:io.dst=o.dst:=(dE SV).1;have Vk:=Tc.le hr.cO;have hlt:(listed.setIfInBounds i true).getD i false=true:=by rw[dh Om,aai rfl]
   have VU:(a1.put o.dst cv).tmps=iE a1.tmps o.dst cv:=by cases o.dst<;>rfl
   refine ih _ θ' m' (a1.put o.dst cv) w' (by simp[SZ]) WH UU Zo XO hS' hr' (hg.trans Tc st.hr.cO) (by rw[VU,fA];exact eQ) ?_ ?_ (by rw[put_defers];exact hd)
   ·intro d hdn;have UO:o.dst≠some d:=by rw[<-Tn];exact hdn i io hio hlt
    rw[VU,dO UO];refine VR.mono Vk _ _ (h1 d λj oj hj hl=>hdn j oj hj ?_);exact NC
   ·intro d j oj hj hl Vz;by_cases e1:j=i
    ·subst e1;rw[hio]at hj;cases hj;rw[Uj,VU,<-Tn,Vz];exact lU (by rw[eQ,hTl j Om]) Um
    ·have UO:o.dst≠some d:=λhx=>by
      exact HJ
     rw[VU,dO UO];rw[hne j e1]at hl;exact VR.mono Vk _ _ (h2 d j oj hj hl Vz)
 have SQ:∀j,(Array.replicate ops.size false).getD j false=false:=λj=>by
  exact z75
 refine key ops.size (Array.replicate ops.size false) 0 m a _ Si ?_ (λj x hj _ _=>by simp[SQ j]at hj) (aaC _) (.inl (aaC _)) (λj oj hj hk=>⟨λhx=>absurd hx Om,λhx=>by simp[SQ j]at hx⟩) st.hr.drew (Grow.refl m _ w st.hr.cO).drew ?_ (λd _=>n8 st.ts d) (λd j o _ hj _=>by simp[SQ j]at hj) rfl
 ·exact NH
 ·exact D6
section
variable {P:Program}{m m':cj}{h h':ah}{w w':World}
def v7{ops i o}(ho:ops[i]? =some o){q io}(hc:bX P ops q o=some io)(hgd0:io.gd=none){ts a v}
  (hg:GV P m) (hr:HR P m h w) (ht:∀t,t∈o.looksAt ops->VR m (ts.getD t az) (a.tmps.getD t undef)) (hs:ql P io.k (val ts) h v h') (ro:Option Nat) (K:Act->World->Prop) (Q:Exit->Act->World->Prop)
  (hn:∀cv m' w',VR m' v cv->HR P m' h' w'->Grow m h w m' h' w'->K (a.put o.dst cv) w'):wpOpIn (Fd ro) 0 P ops Q i K a w:=by
 unfold bX at hc;split at hc
 case h_2=>cases hc
 rename_i g Wi;cases hc;have hg0:g=none:=hgd0;subst hg0;have hw:=rn (m:=m) (ts:=ts) (a:=a) Wi (λt b V3=>by cases V3);unfold wpOpIn;rw[ho];simp only;rw[aai (hw.2 trivial)];simp only at hs;split at hs
 case isFalse=>exact absurd hs ph
 rename_i hgok;cases hk:eO P o with
 |none=>rw[hk]at hs;exact absurd hs ph
 |some k=>
  rw[hk]at hs;refine vZ hk (λx hx x' SO=>?_) (λz=>rfl) hr hs ro K Q (λcv m' w' h1 h2 h3=>hn cv m' w' h1 h2 h3);exact Rl
def AS{n x}(h:yI x=true):js n x:=by
 cases x<;>first
  |(cases h;done)
  |skip
 case bool b=>exact⟨λ_=>none,_,(λ_ _ z=>by cases z),rfl⟩
 case int k b=>exact⟨λ_=>none,_,(λ_ _ z=>by cases z),rfl⟩
 case xS k b=>exact⟨λ_=>none,.float k b,(λ_ _ z=>by cases z),⟨b,rfl,.inl rfl⟩⟩
 case xE k a b=>exact⟨λ_=>none,.complex k a b,(λ_ _ z=>by cases z),⟨a,b,rfl,.inl rfl,.inl rfl⟩⟩
 all_goals exact⟨λ_=>none,_,(λ_ _ z=>by cases z),rfl⟩
def yJ{n x}(h:js n x):∀y∈x.cells,js n y:=by
 obtain⟨ma,va,h1,h2⟩:=h;intro y hy;obtain⟨i,hi,rfl⟩:=aca hy;obtain⟨v,_,hv⟩:=h2.cells.get (Z6 hi);exact⟨ma,v,h1,hv⟩
theorem vJ:∀{l c}{o}{x},x∈gf c o l->x∈c\/x∈l
 |[],c,o,x,h=>.inl h
 |y::l,c,o,x,h=>by
  have h:x∈gf (c.set o y) (o+1) l:=h;rcases vJ h with h|h
  ·rcases abO h with h|h
   ·exact .inl h
   ·exact .inr (by rw[h];simp)
  ·exact .inr (aaH _ h)
theorem sF{n}:∀{ps}{z c},(∀x∈z,js n x)->(∀p∈ps,js n p.2.2)->fi z ps=some c->∀x∈c,js n x
 |[],z,c,hz,_,h,x,hx=>by cases h;exact hz x hx
 |(off,k,v)::r,z,c,hz,hp,h,x,hx=>by
  rw[fi]at h;split at h
  ·refine sF (λy hy=>?_) (λp hq=>hp p (aaH _ hq)) h x hx;rcases vJ hy with hy|hy
   ·exact hz y hy
   ·exact yJ (hp (off,k,v) Si) y hy
  ·cases h
theorem vu:∀{n}{z}{x},x∈dY n z->x∈z
 | 0,z,x,h=>by simp[dY]at h
 |n+1,z,x,h=>by
  have h:x∈z++dY n z:=h;rcases aac.1 h with h|h
  ·exact h
  ·exact vu h
def CJ(gr:Grow m h w m' h' w')(hd:∀b e,m b=some e->b<h.length){e k}(hk:k.live=true)(hb:BR P m w e k)(hout:∀b e',m b=some e'->e'.cb≠e.cb):BR P m' w' e k/\∀b e',m' b=some e'->e'.cb≠e.cb:=by
 have hlt:=hb.lt hk;refine⟨(hb.heap (gr.frame e.cb hlt λb e' he _=>hout b e' he)).mono (gr.le hd),λb e' he=>?_⟩;by_cases hbl:b<h.length
 ·rw[gr.ext b hbl]at he;exact hout b e' he
 ·obtain⟨_,hc⟩:=gr.new b e' Om he;rcases hc with hc|⟨b0,e0,c1,c2,_⟩
  ·omega
  ·rw[<-c2];exact hout b0 e0 c1
def HR.yR(hr:HR P m h w){e k}(hk:k.live=true)(hb:BR P m w e k)(hout:∀b e',m b=some e'->e'.cb≠e.cb):HR P (m.add h.length e) (h++[k]) w:=by
 have TR:m h.length=none:=by
  exact ND
 have hle:m.le (m.add h.length e):=cj.sN _ TR;have SW:∀b e',(m.add h.length e) b=some e'->(b=h.length/\e' =e)\/(b<h.length/\m b=some e'):=λb e' Ui=>by
  exact Rd
 refine⟨λb e' Ui=>?_,λb e' k' Ui hk'=>?_,λb1 b2 e1 e2 k1 k2 hne h1 h2 hk1 SK hcb=>?_,λg hg=>?_,λb e' Ui=>?_⟩
 ·rw[Z1];rcases SW b e' Ui with⟨rfl,_⟩|⟨hlt,_⟩
  ·simp
  ·simp;omega
 ·rcases SW b e' Ui with⟨rfl,rfl⟩|⟨hlt,hm⟩
  ·rw[aaf (aah _),abb]at hk';cases hk';exact hb.mono hle
  ·rw[Z7 hlt]at hk';exact(hr.ep b e' k' hm hk').mono hle
 ·exact Rw
 ·obtain⟨e',he,hx⟩:=hr.gD g hg;exact⟨e',hle _ _ he,hx⟩
 ·rcases SW b e' Ui with⟨_,rfl⟩|⟨_,hm⟩
  ·exact hb.lt hk
  ·exact hr.lt b e' hm
def Grow.yR{m0 h0 w0}(gr:Grow m0 h0 w0 m h w)(hd0:∀b e,m0 b=some e->b<h0.length)(hd:∀b e,m b=some e->b<h.length){e k}(ho:e.own=true)(hlt:w0.heap.size<=e.cb):Grow m0 h0 w0 (m.add h.length e) (h++[k]) w where
 ext:=λb hb=>by
  have:b≠h.length:=by have:=gr.len;omega
  show(if b=h.length then some e else m b)=_;rw[aab this];exact gr.ext b hb
 len:=by rw[Z1];have:=gr.len;omega
 new:=λb e' hb he=>by
  unfold cj.add at he;by_cases hx:b=h.length
  ·rw[aai hx]at he;cases he;exact⟨ho,.inl hlt⟩
  ·rw[aab hx]at he;obtain⟨h1,hc⟩:=gr.new b e' hb he;refine⟨h1,?_⟩;rcases hc with hc|⟨b0,e0,c1,c2,c3,c4,c5⟩
   ·exact .inl hc
   ·have:=hd0 _ _ c1;exact .inr ⟨b0,e0,c1,c2,c3,c4,by rw[fV (by have:=gr.len;omega)];exact c5⟩
 tl:=λb hb ht=>by
  rw[fV (by have:=gr.len;omega)]at ht;exact gr.tl b hb ht
 size:=gr.size
 os:=gr.os
 out:=gr.out
 tape:=gr.tape
 frame:=gr.frame
end
def qv{M l f}(h:rV M l f=true){i j x y}(hij:i<j)(hx:l[i]? =some x)(hy:l[j]? =some y)(px:fO x.k=false)(py:fO y.k=false)(lx:nf x=false)(ly:nf y=false)(hj:j≠f):ahead M i j=true:=by
 have U9:j<l.length:=(Z2.1 hy).1;unfold rV at h;rw[aaE]at h;have h1:=h j (abh.2 U9);rw[aaE]at h1;have h2:=h1 i (abh.2 hij);rw[hx,hy]at h2
 simpa [px,py,lx,ly,hj]using h2
structure SD(ops:Array Oper)(l:List bL)(f df es n:Nat)(z:List AV)(ps:List (Nat×c7))(q:Bool):Prop where
 hf:l[f]? =some {dst:=some df,k:=.bo es n z ps,gd:=none,q:=q}
 hz:∀x∈z,yI x=true
 hp:∀p∈ps,∃u,p.2=.t u/\fT ops f u=true
 hr:∀j o,l[j]? =some o->cG o.k=true->(fO o.k=true\/nf o=true)/\fT ops j df=false
def yD{ops l f}(h:w7 ops l f=true):∃df es n z ps q,SD ops l f df es n z ps q:=by
 unfold w7 at h;split at h
 case h_2=>cases h
 rename_i d es n z ps q hf;simp only[aaD,aaE,abh]at h;obtain⟨⟨h1,h2⟩,h3⟩:=h;refine⟨d,es,n,z,ps,q,hf,h1,λp hp=>?_,λj o hj hk=>?_⟩
 ·have:=h2 p hp;split at this
  ·rename_i u hu;exact⟨u,hu,this⟩
  ·cases this
 ·have:=h3 j (Z2.1 hj).1;rw[hj]at this;simp only[hk,aar,acf,aaD,abP,abr]at this;exact this
structure lB(P:Program)(l:List bL)(f df:Nat)(k:ak)(T:Nat->TS)(H:Nat->ah)(m:cj)(w:World)(listed:Array Bool)(θ:Nat)(m1:cj)(tm:Array Value)(w1:World):Prop where
 hθ:θ<=l.length
 hL:θ<=dS l\/∃(j:Nat) (o:bL),l[j]? =some o/\cG o.k=false/\j≠f/\dS l<=j/\j<θ
 hS:∀(j:Nat) (o:bL),l[j]? =some o->cG o.k=false->j≠f->(j<θ↔listed.getD j false=true)
 hf:f<θ->listed.getD f false=true
 hr:HR P m1 (H θ) w1
 hg:Grow m (H 0) w m1 (H θ) w1
 eQ:tm.size=(T 0).length
 h1:∀(d:Nat),(∀(j:Nat) (o:bL),l[j]? =some o->listed.getD j false=true->o.dst≠some d)->VR m1 ((T 0).getD d az) (tm.getD d undef)
 h2:∀(d j:Nat) (o:bL),l[j]? =some o->listed.getD j false=true->o.dst=some d->(j=f->f<θ)->VR m1 ((T (j+1)).getD d az) (tm.getD d undef)
 pd:listed.getD f false=true->θ<=f->∃e:tq,BR P m1 w1 e k/\e.own=true/\w.heap.size<=e.cb/\(∀b e',m1 b=some e'->e'.cb≠e.cb)/\∀m':cj,m1.le m'->m' (H f).length=some e->VR m' ((T (f+1)).getD df az) (tm.getD df undef)
def yu{P cq f}(hmix:P.follows .mixedOrders=true){ops l}(hed:kY (Region.before ops) ops=true)(hsl:mC (Region.before ops) ops=true)
  (hc:fj (λ_ o=>bX P ops (td cq o) o) ops.toList 0=some l) (hfo:w7 ops l f=true) (hmo:rV (Region.before ops) l f=true) {T}{H}(hrow:Row P l T H) (hstab:∀(i:Nat) (io:bL),l[i]? =some io->nf io=true->∀θ,θ<=dS l->dL P io (T i) (H θ) (T (i+1)) (H θ)) (hlate:∀(i j:Nat) (x y:bL),l[i]? =some x->nf x=true->l[j]? =some y->cG y.k=false->dS l<=j->ahead (Region.before ops) i j=true) {m}{a}{w}
  (st:St P m (T 0) (H 0) a w) (ro:Option Nat) (Q:Exit->Act->World->Prop) (hQ:∀m' a' w',St P m' (T l.length) (H l.length) a' w'->Grow m (H 0) w m' (H l.length) w'->a'.defers=a.defers->Q .normal a' w') (id:Nat):
  (Code.region id ops true).wpIn (Fd ro) 0 P Q a w:=by
 obtain⟨df,es,n,zz,ps,qf,F⟩:=yD hfo;refine wpIn_region_any hmix ?_;obtain⟨S2,SR⟩:=gG hc;simp only[ace]at S2;have Xm:∀(j:Nat) (io:bL),l[j]? =some io->∃o,ops[j]? =some o/\bX P ops (td cq o) o=some io:=λj io hj=>by
  exact N5
 have TZ:∀(j:Nat) (io:bL) (d:Nat),l[j]? =some io->io.dst=some d->∃o,ops[j]? =some o/\o.dst=some d:=λj io d hj hd=>by
  exact NV
 have huniq:∀(i j:Nat) (oi oj:bL) (d:Nat),l[i]? =some oi->l[j]? =some oj->oi.dst=some d->oj.dst=some d->i=j:=λi j oi oj d hi hj h1 h2=>by
  exact N7
 have Uu:∀(j:Nat) (io:bL),l[j]? =some io->∃v,T (j+1)=put (T j) io.dst v:=λj io hj=>(hrow.step j io hj).1.put
 have hTl:∀j,j<=l.length->(T j).length=(T 0).length:=by
  intro j
  induction j with
  |zero=>intro _;rfl
  |succ j ih=>
   intro hj;exact NY
 have SX:∀x y t,x<=y->y<=l.length->(∀(j:Nat) (o:bL),x<=j->j<y->l[j]? =some o->o.dst≠some t)->(T y).getD t az=(T x).getD t az:=by
  intro x y t hxy hy hno;exact Ru
 have VD:∀(j:Nat) (io:bL),l[j]? =some io->cG io.k=true->H (j+1)=H j:=λj io hj hk=>yv hk (hrow.step j io hj).1
 have VE:∀x k,x+k<=l.length->(∀(j:Nat) (o:bL),x<=j->j<x+k->l[j]? =some o->cG o.k=true)->H (x+k)=H x:=by
  intro x k
  induction k with
  |zero=>intro _ _;rfl
  |succ k ih=>
   intro hk hno;exact Rp
 have V6:∀x y,x<=l.length->y<=l.length->(∀(j:Nat) (o:bL),l[j]? =some o->cG o.k=false->(j<x↔j<y))->H x=H y:=by
  intro x y hx hy hno;exact Ry
 have Tg:f<l.length:=(Z2.1 F.hf).1;obtain⟨cf,mu,tl,T8,hTf,hHf,hcf⟩:∃cf mu tl,fi (dY n zz) (ps.map λp=>(p.1,es,val (T f) p.2))=some cf/\T (f+1)=put (T f) (some df) (.slice (H f).length 0 n es)/\H (f+1)=H f++[.cells cf mu tl]/\∀g:ah,ql P (.bo es n zz ps) (val (T f)) g (.slice g.length 0 n es) (g++[.cells cf mu tl]):=by
  have Zu:=(hrow.step f _ F.hf).1;generalize hx:T (f+1)=tx at Zu;generalize hy:H (f+1)=hyy at Zu;cases Zu with
  |run hw hb hs=>
   have hs:nv (.bo es n zz ps) _ _ _ _:=hs;obtain⟨c,mu,tl,q1,q2,q3,rfl,rfl⟩:=hs;exact⟨c,mu,tl,q1,rfl,rfl,λg=>⟨c,mu,tl,q1,q2,q3,rfl,rfl⟩⟩
  |skip hw=>exact absurd trivial hw
 have XK:(ak.cells cf mu tl).live=true:=rfl;have hrp:∀{k:pI},cG k=false->fO k=false:=λ{k} hk=>by
  cases k<;>first|exact hk|(cases hk;done)
 have hld:∀{o:bL},cG o.k=false->nf o=false:=λ{o} hk=>by
  exact z167
 have YE:∀(listed:Array Bool) (θ:Nat) (m1:cj) (tm:Array Value) (w1:World),lB P l f df (.cells cf mu tl) T H m w listed θ m1 tm w1->listed.getD f false=true->θ<=f->(∀(j:Nat) (o:bL),l[j]? =some o->cG o.k=false->j<f->listed.getD j false=true)->
   ∃m2,lB P l f df (.cells cf mu tl) T H m w listed (f+1) m2 tm w1:=by
  intro listed θ m1 tm w1 I ZF Zm hall;have e:H θ=H f:=V6 θ f I.hθ Om λj oj hj hk=>by
   by_cases hjf:j=f
   ·subst hjf;omega
   ·constructor
    ·intro h;omega
    ·intro h;exact(I.hS j oj hj hk hjf).2 (hall j oj hj hk h)
  obtain⟨en,b1,b2,b3,b4,b5⟩:=I.pd ZF Zm;have hr:=I.hr;have hg:=I.hg;rw[e]at hr hg;have TR:m1 (H f).length=none:=by
   cases hx:m1 (H f).length with
   |none=>rfl
   |some y=>exact absurd (hr.cO _ _ hx) Om
  have Vk:m1.le (m1.add (H f).length en):=cj.sN _ TR;refine⟨m1.add (H f).length en,⟨Om,.inl (by have:=zy F.hf rfl;omega),λj oj hj hk hjf=>?_,λ_=>ZF,by rw[hHf];exact hr.yR XK b1 b4,by rw[hHf];exact hg.yR st.hr.cO hr.cO b2 b3,I.eQ,λd hd=>VR.mono Vk _ _ (I.h1 d hd),λd j oj hj hl hd _=>?_,λ_ hx=>absurd hx Om⟩⟩
  ·constructor
   ·intro h;exact hall j oj hj hk Om
   ·intro h;have:=(I.hS j oj hj hk hjf).2 h;omega
  ·by_cases hjf:j=f
   ·subst hjf;rw[F.hf]at hj;cases hj;cases hd;exact b5 _ Vk (by simp[cj.add])
   ·exact VR.mono Vk _ _ (I.h2 d j oj hj hl hd λz=>absurd z hjf)
 have Ut:∀(listed:Array Bool) (θ:Nat) (m1:cj) (a1:Act) (w1:World),(∀i,i<ops.size->listed.getD i false=true)->lB P l f df (.cells cf mu tl) T H m w listed θ m1 a1.tmps w1->f<θ->a1.defers=a.defers->Q .normal a1 w1:=by
  intro listed θ m1 a1 w1 hall I hfθ hd;have e:=V6 θ l.length I.hθ (aah _) λj o hj hk=>by
   have U9:=(Z2.1 hj).1;by_cases hjf:j=f
   ·subst hjf;omega
   ·have:=(I.hS j o hj hk hjf).2 (hall j Om);omega
  have hr:=I.hr;have hg:=I.hg;rw[e]at hr hg;have eQ:=I.eQ;refine hQ m1 a1 w1 ⟨hr,cL.iL ?_ ?_⟩ hg hd
  ·exact HG
  ·intro t x hx;have hlt:=(Z2.1 hx).1;have Th:t<a1.tmps.size:=by have:=hTl l.length (aah _);omega
   have ex:(T l.length).getD t az=x:=by simp[List.getD,hx]
   have ey:a1.tmps.getD t undef=a1.tmps[t]:=by simp[aaR,aaV Th]
   refine⟨a1.tmps[t],Si,?_⟩;rw[<-ex,<-ey];by_cases hw:∃(j:Nat) (o:bL),l[j]? =some o/\o.dst=some t
   ·obtain⟨j,o,hj,ho⟩:=hw;have U9:=(Z2.1 hj).1;rw[SX (j+1) l.length t Om (aah _) (λk o' a2 a3 a4 a5=>by have:=huniq j k o o' t hj a4 ho a5;omega)];exact I.h2 t j o hj (hall j Om) ho λ_=>hfθ
   ·rw[SX 0 l.length t Om (aah _) (λk o' _ _ h4 h5=>hw ⟨k,o',h4,h5⟩)];exact I.h1 t λj o hj _ ho=>hw ⟨j,o,hj,ho⟩
 have hdone:∀(listed:Array Bool) (θ:Nat) (m1:cj) (a1:Act) (w1:World),(∀i,i<ops.size->listed.getD i false=true)->lB P l f df (.cells cf mu tl) T H m w listed θ m1 a1.tmps w1->a1.defers=a.defers->Q .normal a1 w1:=by
  intro listed θ m1 a1 w1 hall I hd;by_cases hfθ:f<θ
  ·exact Ut listed θ m1 a1 w1 hall I hfθ hd
  ·obtain⟨m2,I2⟩:=YE listed θ m1 a1.tmps w1 I (hall f Om) Om λj o hj _ _=>hall j (by have:=(Z2.1 hj).1;omega)
   exact Ut listed (f+1) m2 a1 w1 hall I2 Om hd
 have key:∀(fuel:Nat) (listed:Array Bool) (θ:Nat) (m1:cj) (a1:Act) (w1:World),listed.size=ops.size->rq listed ops.size<=fuel->
   (∀j x,listed.getD j false=true->x<ops.size->ahead (Region.before ops) x j=true->listed.getD x false=true)->lB P l f df (.cells cf mu tl) T H m w listed θ m1 a1.tmps w1->a1.defers=a.defers->wpAnyIn (Fd ro) 0 P .any ops Q fuel listed a1 w1:=by
  intro fuel
  induction fuel with
  |zero=>
   intro listed θ m1 a1 w1 SZ hu hcl I hd;have hall:=lM ops.size (show rq listed ops.size=0 by omega);exact⟨mF SZ hall,hdone listed θ m1 a1 w1 hall I hd⟩
  |succ fuel ih=>
   intro listed θ m1 a1 w1 SZ hu hcl I hd;refine⟨λhrn=>hdone listed θ m1 a1 w1 (mE hed SZ hrn) I hd,λi hi=>?_⟩;obtain⟨o,ho,TV,Ye⟩:=(jA SZ).1 hi;have hin:i<ops.size:=(aap.1 ho).1;obtain⟨io,hio,SV⟩:=SR i o (by simpa using ho);have SV:bX P ops (td cq o) o=some io:=SV;obtain⟨bY,_⟩:=hrow.step i io hio;have hahead:∀x,x<ops.size->ahead (Region.before ops) x i=true->listed.getD x false=true:=λx hx ha=>by
    exact z37
   have UU:∀j x,(listed.setIfInBounds i true).getD j false=true->x<ops.size->ahead (Region.before ops) x j=true->(listed.setIfInBounds i true).getD x false=true:=by
    intro j x hj hx ha;exact NG
   have WH:rq (listed.setIfInBounds i true) ops.size<=fuel:=by
    exact NB
   have hne:∀j,j≠i->(listed.setIfInBounds i true).getD j false=listed.getD j false:=λj hj=>by rw[dh Om,aab hj]
   have hlt:(listed.setIfInBounds i true).getD i false=true:=by rw[dh Om,aai rfl]
   have Tn:io.dst=o.dst:=(dE SV).1;have hslot:∀(θ:Nat) (m1:cj) (tm:Array Value) (w1:World),lB P l f df (.cells cf mu tl) T H m w listed θ m1 tm w1->(listed.getD f false=true->θ<=f->i<f\/fT ops i df=false)->∀t,t∈o.looksAt ops->VR m1 ((T i).getD t az) (tm.getD t undef):=by
    intro θ m1 tm w1 I hnp t ht;by_cases hex:∃(x:Nat) (ox:bL),l[x]? =some ox/\listed.getD x false=true/\ox.dst=some t
    ·obtain⟨x,ox,hx,hxl,Wd⟩:=hex;obtain⟨oo,Vo,Wx⟩:=TZ x ox t hx Wd;have hxi:x<i:=by
      by_cases e1:x=i
      ·subst e1;rw[TV]at hxl;cases hxl
      ·by_cases e2:x<i
       ·exact e2
       ·have e3:=(cR hsl (show i<x by omega) ho Vo).2 t Wx ht;have e4:=hcl x i hxl hin e3;rw[TV]at e4;cases e4
     rw[SX (x+1) i t Om Om (λk o' a2 a3 a4 a5=>by have:=huniq x k ox o' t hx a4 Wd a5;omega)];refine I.h2 t x ox hx hxl Wd λhxf=>?_
     subst hxf;by_cases hh:x<θ
     ·exact hh
     ·rcases hnp hxl (by omega)with h|h
      ·omega
      ·rw[F.hf]at hx;cases hx;cases Wd;unfold fT at h;rw[ho]at h;simp only at h;have:=List.contains_iff_mem.2 ht;rw[this]at h;cases h
    ·rw[SX 0 i t Om Om (λk o' e2 e3 e4 e5=>by
      obtain⟨oo,Vo,Tn⟩:=TZ k o' t e4 e5;have h6:=((cR hsl e3 Vo ho).1 t Tn).2 ht;exact hex ⟨k,o',e4,hahead k (aap.1 Vo).1 h6,e5⟩)]
     exact I.h1 t λj oj hj hl Tn=>hex ⟨j,oj,hj,hl,Tn⟩
   have hadv:i≠f->∀(θ θ':Nat) (m1 m':cj) (tm:Array Value) (w1 w':World) (cv:Value) (v':AV),lB P l f df (.cells cf mu tl) T H m w listed θ m1 tm w1->θ'<=l.length->(θ'<=dS l\/∃(j:Nat) (o:bL),l[j]? =some o/\cG o.k=false/\j≠f/\dS l<=j/\j<θ')->(∀(j:Nat) (o:bL),l[j]? =some o->cG o.k=false->j≠f->(j<θ'↔(listed.setIfInBounds i true).getD j false=true))->(f<θ'↔f<θ)->
     T (i+1)=put (T i) o.dst v'->VR m' v' cv->HR P m' (H θ') w'->Grow m1 (H θ) w1 m' (H θ') w'->lB P l f df (.cells cf mu tl) T H m w (listed.setIfInBounds i true) θ' m' (iE tm o.dst cv) w':=by
    intro VZ θ θ' m1 m' tm w1 w' cv v' I Zo XO hS' hff Uj Um hr' Tc;have Vk:=Tc.le I.hr.cO;refine⟨Zo,XO,hS',λh=>?_,hr',I.hg.trans Tc st.hr.cO,by rw[fA];exact I.eQ,λd hdn=>?_,λd j oj hj hl Vz hjf=>?_,λZF Zm=>?_⟩
    ·rw[hne f (abo VZ)];exact I.hf (hff.1 h)
    ·have UO:o.dst≠some d:=by rw[<-Tn];exact hdn i io hio hlt
     rw[dO UO];refine VR.mono Vk _ _ (I.h1 d λj oj hj hl=>hdn j oj hj ?_);exact NC
    ·by_cases e1:j=i
     ·subst e1;rw[hio]at hj;cases hj;rw[Uj,<-Tn,Vz];exact lU (by rw[I.eQ,hTl j Om]) Um
     ·have UO:o.dst≠some d:=λhx=>by
       exact HJ
      rw[dO UO];rw[hne j e1]at hl;exact VR.mono Vk _ _ (I.h2 d j oj hj hl Vz λz=>hff.1 (hjf z))
    ·rw[hne f (abo VZ)]at ZF;obtain⟨e,b1,b2,b3,b4,b5⟩:=I.pd ZF (by have:=hff.2;omega);obtain⟨c1,c2⟩:=CJ Tc I.hr.cO XK b1 b4;have UO:o.dst≠some df:=λhx=>by
      rw[<-Tn]at hx;exact VZ (huniq i f io _ df hio F.hf hx rfl)
     refine⟨e,c1,b2,b3,c2,λm2 XJ SU=>?_⟩;rw[dO UO];exact b5 m2 (cj.le_trans Vk XJ) SU
   have VU:∀cv,(a1.put o.dst cv).tmps=iE a1.tmps o.dst cv:=λcv=>by cases o.dst<;>rfl
   by_cases VZ:i=f
   ·
    subst VZ;rw[F.hf]at hio;cases hio;have Zm:θ<=i:=by
     by_cases hh:i<θ
     ·have:=I.hf hh;rw[TV]at this;cases this
     ·omega
    refine v7 ho SV rfl I.hr.gv I.hr (hslot θ m1 a1.tmps w1 I λh=>by rw[TV]at h;cases h) (hcf (H θ)) ro _ Q ?_;intro cv m' w' hv hr' Tc;have hclos:∀x∈cf,js (H θ).length x:=sF (λx hx=>AS (F.hz x (vu hx))) (λp hp=>by
     obtain⟨q,hq,rfl⟩:=aaA.1 hp;obtain⟨u,hu,TO⟩:=F.hp q hq;have hu2:u∈o.looksAt ops:=by
      unfold fT at TO;rw[ho]at TO;exact List.contains_iff_mem.1 TO
     have:=hslot θ m1 a1.tmps w1 I (λh=>by rw[TV]at h;cases h) u hu2;show js _ (val (T i) q.2);rw[hu];exact⟨m1,_,I.hr.cO,this⟩) T8
    have hcb:qK (H θ).length (.cells cf mu tl):=λj x hx=>hclos x (aaW hx)
    have hup:m'.dQ (H θ).length=m1:=by
     funext b;unfold cj.dQ;by_cases hb:b<(H θ).length
     ·rw[aai hb];exact Tc.ext b hb
     ·rw[aab hb];cases hx:m1 b with
      |none=>rfl
      |some e=>exact absurd (I.hr.cO b e hx) hb
    have T4:=HR.forget I.hr hr' Tc;have Xg:=Tc.forget;rw[hup]at T4 Xg;have WD:=hv;rw[VR]at WD;obtain⟨e,ca,cap,he,TQ⟩:=WD;have hb:=(hr'.ep _ e (.cells cf mu tl) he Si).cut hcb;rw[hup]at hb;obtain⟨ho1,hc⟩:=Tc.new _ e (aah _) he;have hcbl:w1.heap.size<=e.cb:=by
     rcases hc with hc|⟨b0,e0,c1,c2,c3,c4,c5⟩
     ·exact hc
     ·rw[fV (I.hr.cO _ _ c1),c4]at c5;cases c5
    have UF:o.dst=some df:=Tn.symm;refine ih _ θ m1 (a1.put o.dst cv) w' (by simp[SZ]) WH UU ?_ (by rw[put_defers];exact hd);rw[VU];refine⟨I.hθ,I.hL,λj oj hj hk hjf=>by rw[hne j hjf];exact I.hS j oj hj hk hjf,λh=>by omega,T4,I.hg.trans Xg st.hr.cO,by rw[fA];exact I.eQ,λd hdn=>?_,λd j oj hj hl Vz hjf=>?_,λ_ _=>⟨e,hb,ho1,aaT I.hg.size hcbl,λb e' Ui=>by have:=I.hr.lt b e' Ui;omega,λm2 XJ SU=>?_⟩⟩
    ·have UO:o.dst≠some d:=by rw[UF];exact hdn i _ F.hf hlt
     rw[dO UO];refine I.h1 d λj oj hj hl=>hdn j oj hj ?_
     exact NC
    ·by_cases e1:j=i
     ·have:=hjf e1;omega
     ·have UO:o.dst≠some d:=λhx=>by
       rw[UF]at hx;exact e1 (huniq j i oj _ d hj F.hf Vz hx)
      rw[dO UO];rw[hne j e1]at hl;exact I.h2 d j oj hj hl Vz hjf
    ·rw[hTf,UF];exact lU (by rw[I.eQ,hTl i Om]) (by rw[VR];exact⟨e,ca,cap,SU,TQ⟩)
   by_cases Ub:cG io.k=true
   ·
    obtain⟨VW,U8⟩:=F.hr i io hio Ub;have Vm:dL P io (T i) (H θ) (T (i+1)) (H θ):=by
     rcases VW with hp|hp
     ·exact(yy hp bY).2 _
     ·refine hstab i io hio hp θ ?_;rcases I.hL with h|⟨j,oj,h1,h2,h5,h3,h4⟩
      ·exact h
      ·have e:=hcl j i ((I.hS j oj h1 h2 h5).1 h4) hin (hlate i j io oj hio hp h1 h2 h3);rw[TV]at e;cases e
    refine fP ho SV I.hr.gv I.hr (by rw[I.eQ,hTl i Om]) (hslot θ m1 a1.tmps w1 I λ_ _=>.inr U8) Vm ro _ Q ?_;intro cv v' m' w' Uj Um hrx hgx;refine ih _ θ m' (a1.put o.dst cv) w' (by simp[SZ]) WH UU ?_ (by rw[put_defers];exact hd);rw[VU];refine hadv VZ θ θ m1 m' a1.tmps w1 w' cv v' I I.hθ I.hL (λj oj hj hk hjf=>?_) Iff.rfl Uj Um hrx hgx;have hji:j≠i:=λe=>by
     subst e;rw[hio]at hj;cases hj;rw[Ub]at hk;cases hk
    rw[hne j hji];exact I.hS j oj hj hk hjf
   ·have Uo:cG io.k=false:=by simpa using Ub
    have hheavy:∀(j:Nat) (oj:bL),l[j]? =some oj->cG oj.k=false->j<i->listed.getD j false=true:=λj oj hj hk hji=>
     hahead j (by have:=(Z2.1 hj).1;omega) (qv hmo hji hj hio (hrp hk) (hrp Uo) (hld hk) (hld Uo) VZ)
    have hlate:∀(j:Nat) (oj:bL),l[j]? =some oj->cG oj.k=false->j≠f->i<j->listed.getD j false=false:=λj oj hj hk hjf hij=>by
     cases hx:listed.getD j false with
     |false=>rfl
     |true=>
      have e3:=qv hmo hij hio hj (hrp Uo) (hrp hk) (hld Uo) (hld hk) hjf;have e4:=hcl j i hx hin e3;rw[TV]at e4;cases e4
    obtain⟨Y7,m2,I1,hff⟩:∃Y7 m2,lB P l f df (.cells cf mu tl) T H m w listed Y7 m2 a1.tmps w1/\(f<Y7↔f<i):=by
     by_cases hfi:f<i
     ·have ZF:=hheavy f _ F.hf rfl hfi;by_cases hfθ:f<θ
      ·exact⟨θ,m1,I,Om⟩
      ·obtain⟨m2,I2⟩:=YE listed θ m1 a1.tmps w1 I ZF Om λj oj hj hk hjf=>hheavy j oj hj hk Om
       exact⟨f+1,m2,I2,Om⟩
     ·refine⟨θ,m1,I,⟨λh=>?_,λh=>absurd h hfi⟩⟩;have:=(I.hS i io hio Uo VZ).1 Om;rw[TV]at this;cases this
    have hHi:H Y7=H i:=V6 Y7 i I1.hθ Om λj oj hj hk=>by
     by_cases hjf:j=f
     ·subst hjf;exact hff
     ·constructor
      ·intro Xd;have UQ:=(I1.hS j oj hj hk hjf).1 Xd;by_cases e1:j=i
       ·exact HE
       ·by_cases e2:j<i
        ·exact e2
        ·exact Kn
      ·intro hji;exact(I1.hS j oj hj hk hjf).2 (hheavy j oj hj hk hji)
    refine fP ho SV I1.hr.gv I1.hr (by rw[I1.eQ,hTl i Om]) (hslot Y7 m2 a1.tmps w1 I1 λ_ h2=>.inl Om) (by rw[hHi];exact bY) ro _ Q ?_;intro cv v' m' w' Uj Um hrx hgx;refine ih _ (i+1) m' (a1.put o.dst cv) w' (by simp[SZ]) WH UU ?_ (by rw[put_defers];exact hd);rw[VU];refine hadv VZ Y7 (i+1) m2 m' a1.tmps w1 w' cv v' I1 Om (by by_cases hc:i+1<=dS l;exact .inl hc;exact .inr ⟨i,io,hio,Uo,VZ,Om,Om⟩) (λj oj hj hk hjf=>?_) Om Uj Um hrx hgx;by_cases e1:j=i
    ·subst e1;exact⟨λ_=>hlt,λ_=>by omega⟩
    ·rw[hne j e1];constructor
     ·intro hji;exact hheavy j oj hj hk Om
     ·intro UQ;by_cases e2:j<i
      ·omega
      ·exact Kn
 have SQ:∀j,(Array.replicate ops.size false).getD j false=false:=λj=>by
  exact z75
 refine key ops.size (Array.replicate ops.size false) 0 m a _ Si ?_ (λj x hj _ _=>by simp[SQ j]at hj) ⟨aaC _,.inl (aaC _),(λj oj hj hk _=>⟨λhx=>absurd hx Om,λhx=>by simp[SQ j]at hx⟩),(λhx=>absurd hx Om),st.hr.drew,(Grow.refl m _ w st.hr.cO).drew,?_,(λd _=>n8 st.ts d),(λd j o _ hj _ _=>by simp[SQ j]at hj),λhx=>by simp[SQ f]at hx⟩ rfl
 ·exact NH
 ·exact D6
def eI{P ops draw c}(h:nP P ops draw=some c):
  (∃l,c=.ops l/\(cQ P ops draw=some l\/(draw=true/\(∃l',cQ P ops draw=some l')/\∃cq,fj (λ_ o=>bX P ops (td cq o) o) ops.toList 0=some l/\oQ (Region.before ops) l=true/\l.any nf=false)))\/
  (∃l,c=.s9 l/\draw=true/\(∃l',cQ P ops draw=some l')/\fj (λ_ o=>bX P ops false o) ops.toList 0=some l)\/
  (∃l,c=.mP l/\draw=true/\(∃l',cQ P ops draw=some l')/\∃cq,fj (λ_ o=>bX P ops (td cq o) o) ops.toList 0=some l/\(oQ (Region.before ops) l=true\/∃f,w7 ops l f=true/\rV (Region.before ops) l f=true)/\nK (Region.before ops) l=true):=by
 unfold nP at h;split at h
 ·cases h
 ·rename_i l hl;split at h
  ·rename_i hq;split at h
   ·rename_i l' l2 l3 SP hl2 ZG;split at h
    ·rename_i hm;rw[aaD,abr]at hm;cases h;exact .inl ⟨l',rfl,.inr ⟨hq.2,⟨l,hl⟩,0,SP,hm.1,hm.2⟩⟩
    ·split at h
     ·rename_i hm;rw[aaD,abr]at hm;cases h;exact .inl ⟨l2,rfl,.inr ⟨hq.2,⟨l,hl⟩,1,hl2,hm.1,hm.2⟩⟩
     ·split at h
      ·exact z53
      ·split at h
       ·split at h
        ·rename_i hm;rw[aaD,aaD]at hm;cases h;exact .inr (.inr ⟨l3,rfl,hq.2,⟨l,hl⟩,2,ZG,.inl hm.1.2,hm.2⟩)
        ·cases h;exact .inr (.inl ⟨l',rfl,hq.2,⟨l,hl⟩,SP⟩)
       ·split at h
        ·rename_i hm;rw[aaD]at hm;cases h;exact .inr (.inr ⟨l3,rfl,hq.2,⟨l,hl⟩,2,ZG,.inl hm.1,hm.2⟩)
        ·split at h
         ·exact z53
         ·cases h;exact .inl ⟨l,rfl,.inl hl⟩
   ·cases h
  ·cases h;exact .inl ⟨l,rfl,.inl hl⟩
def Marks(m:cj)(w:World)(lo:Nat)(ds:List Deferred):Prop:=
 ∃rs:List Nat,ds=rs.map (λr=>({target:=.collected r,args:=#[] }:Deferred))/\rs.Nodup/\∀r∈rs,lo<=r/\w.heap[r]? =some (.deferred (some []))/\∀b e,m b=some e->e.cb≠r
def Marks.nil(m:cj)(w:World)(lo:Nat):Marks m w lo []:=⟨[],rfl,Si,Si⟩
def Marks.grow{m m' h h' w w' lo ds}(k:Marks m w lo ds)(g:Grow m h w m' h' w')(hd:∀b e,m b=some e->b<h.length):Marks m' w' lo ds:=by
 obtain⟨rs,h1,h2,h3⟩:=k;refine⟨rs,h1,h2,λr hr=>?_⟩;obtain⟨a,b,c⟩:=h3 r hr;have hlt:r<w.heap.size:=(aap.1 b).1;refine⟨a,?_,?_⟩
 ·rw[g.frame r hlt (λb e hb _=>c b e hb)];exact b
 ·intro b' e hb;by_cases hx:b'<h.length
  ·rw[g.ext b' hx]at hb;exact c b' e hb
  ·obtain⟨_,hc⟩:=g.new b' e Om hb;rcases hc with hc|⟨b0,e0,c1,c2,_⟩
   ·omega
   ·rw[<-c2];exact c b0 e0 c1
def Ev(P:Program)(ro:Option Nat)(c:ai)(ts:TS)(h:ah)(e:Ex)(ts':TS)(h':ah):Prop:=
 ∀cc,compile P cc=some c->∀(m:cj) (a:Act) (w:World) (lo:Nat),lo<=w.heap.size->St P m ts h a w->Marks m w lo a.defers->∀Q:Exit->Act->World->Prop,
  (∀m' a' w',St P m' ts' h' a' w'->Grow m h w m' h' w'->Marks m' w' lo a'.defers->Q e.Dp a' w')->cc.wpIn (Fd ro) 0 P Q a w
section
variable {P:Program}{b:Frame}{a:Act}{k:List Item}{cs:List Frame}{w:World}{Q:Exit->Act->World->Prop}{F:Fence}{n:Nat}
def gI{c}:step P (lone (b.atR a (.code (.scope c)::k)) cs w)=.next (lone (b.atR a (.code c:: .inScope c::k)) cs w):=
 step_lone_go (by simp[stepG,stepG.exec,Frame.atR])
def sW{c}:step P (lone (b.atR a (.inScope c::k)) cs w)=.next (lone (b.atR a k) cs w):=
 step_lone_go (by simp[stepG,stepG.exec,Frame.atR])
def noGoto(Q:Exit->Act->World->Prop):Exit->Act->World->Prop
 |.goto _,_,_=>False
 |e,a,w=>Q e a w
def xV{c}(h:c.wpIn F n P (noGoto Q) a w):(Code.scope c).wpIn F n P Q a w:=by
 intro b k cs hro hb hr;have h0:(lone (b.atR a (.code (.scope c)::k)) cs w).fenced P F:=fenced_calm hb hr rfl;obtain⟨e,Xu,Wq,hq,TB⟩:=h b (.inScope c::k) cs hro hb hr;cases e with
 |normal=>exact⟨.normal,Xu,Wq,hq,.head h0 gI (StepsIn.trans TB (.one (fenced_calm hb hr rfl) sW))⟩
 |exit id=>
  have hx:exitTo id (.inScope c::k)=exitTo id k:=by simp[exitTo]
  exact⟨.exit id,Xu,Wq,hq,λk' hk=>.head h0 gI (TB.1 k' (by rw[hx];exact hk)),
   λhr' hk=>let ⟨k₁,h1,h2⟩:=TB.2 hr' (by rw[hx];exact hk);⟨k₁,h1,.head h0 gI h2⟩⟩
 |goto l=>exact hq.elim
 |ret=>exact⟨.ret,Xu,Wq,hq,.of_steps (.one h0 gI) TB⟩
 |panic ch=>exact⟨.panic ch,Xu,Wq,hq,.of_steps (.one h0 gI) TB⟩
 |outgrown=>exact⟨.outgrown,Xu,Wq,hq,.of_steps (.one h0 gI) TB⟩
end
section
variable {P:Program}{ro:Option Nat}{c x y:ai}{ts Uy ts':TS}{h h1 h':ah}{e:Ex}
def Ev.of (H:∀cc,(∀a,cc≠.scope a)->compile P cc=some c->∀(m:cj) (a:Act) (w:World) (lo:Nat),lo<=w.heap.size->St P m ts h a w->Marks m w lo a.defers->∀Q:Exit->Act->World->Prop,
  (∀m' a' w',St P m' ts' h' a' w'->Grow m h w m' h' w'->Marks m' w' lo a'.defers->Q e.Dp a' w')->cc.wpIn (Fd ro) 0 P Q a w):Ev P ro c ts h e ts' h':=by
 intro cc
 induction cc with
 |scope a ih=>
  intro hc m a w lo hlo st hm Q hQ;refine xV (ih (by simpa [compile]using hc) m a w lo hlo st hm _ λm' a' w' s g k=>?_);cases e<;>exact hQ m' a' w' s g k
 |_=>intro hc;exact H _ Si hc
theorem Ev.skip:Ev P ro .skip ts h .normal ts h:=by
 refine Ev.of λcc hns hc m a w lo hlo st hm Q hQ=>?_
 have hq:=hQ m a w st (Grow.refl m h w st.hr.cO) hm;cases cc with
 |skip=>exact wpIn_skip hq
 |label l=>exact wpIn_label hq
 |scope a=>exact absurd rfl (hns a)
 |region id ops draw=>rcases eI (by simpa only[compile]using hc)with⟨_,h1,_⟩|⟨_,h1,_⟩|⟨_,h1,_⟩<;>cases h1
 |block id a=>simp[compile]at hc
 |loop a=>simp[compile]at hc
 |_=>
  exact BA
theorem Ev.exit{id}:Ev P ro (.exit id) ts h (.exit id) ts h:=by
 refine Ev.of λcc hns hc m a w lo hlo st hm Q hQ=>?_
 have hq:=hQ m a w st (Grow.refl m h w st.hr.cO) hm;cases cc with
 |exit Yx=>simp[compile]at hc;subst hc;exact wpIn_exit hq
 |scope a=>exact absurd rfl (hns a)
 |region id ops draw=>rcases eI (by simpa only[compile]using hc)with⟨_,h1,_⟩|⟨_,h1,_⟩|⟨_,h1,_⟩<;>cases h1
 |block id a=>simp[compile]at hc
 |loop a=>simp[compile]at hc
 |_=>
  exact BA
theorem Ev.ret:Ev P ro .ret ts h .ret ts h:=by
 refine Ev.of λcc hns hc m a w lo hlo st hm Q hQ=>?_
 have hq:=hQ m a w st (Grow.refl m h w st.hr.cO) hm;cases cc with
 |ret=>exact wpIn_ret hq
 |scope a=>exact absurd rfl (hns a)
 |region id ops draw=>rcases eI (by simpa only[compile]using hc)with⟨_,h1,_⟩|⟨_,h1,_⟩|⟨_,h1,_⟩<;>cases h1
 |block id a=>simp[compile]at hc
 |loop a=>simp[compile]at hc
 |_=>
  exact BA
theorem Ev.ops(hmix:P.follows .mixedOrders=true){l}(hs:yV P l ts h ts' h'):Ev P ro (.ops l) ts h .normal ts' h':=by
 refine Ev.of λcc hns hc m a w lo hlo st hm Q hQ=>?_
 cases cc with
 |region id ops draw=>
  rcases eI (by simpa only[compile]using hc)with⟨l',h1,hl⟩|⟨_,h1,_⟩|⟨_,h1,_⟩<;>cases h1
  rcases hl with hl|⟨hd,⟨l2,hl2⟩,cq,hz,hmo,hld⟩
  case inr=>
   subst hd;simp only[cQ,aan]at hl2;split at hl2
   case isFalse=>cases hl2
   rename_i Tq;simp only[aaD]at Tq;obtain⟨T,H,rfl,rfl,rfl,rfl,hrow⟩:=hs.row;rw[List.any_eq_false]at hld;exact rL hmix Tq.1 Tq.2 hz hmo hrow (λi io hio hl=>absurd hl (hld io (aaW hio))) (λi j x y hx hl=>absurd hl (hld x (aaW hx))) st ro Q (λm' a' w' s g d=>hQ m' a' w' s g (by rw[d];exact hm.grow g st.hr.cO)) id
  cases draw with
  |false=>exact yt hl hs st ro Q (λm' a' w' s g d=>hQ m' a' w' s g (by rw[d];exact hm.grow g st.hr.cO)) id
  |true=>exact vU hmix hl hs st ro Q (λm' a' w' s g d=>hQ m' a' w' s g (by rw[d];exact hm.grow g st.hr.cO)) id
 |scope a=>exact absurd rfl (hns a)
 |block id a=>simp[compile]at hc
 |loop a=>simp[compile]at hc
 |_=>
  exact BA
theorem Ev.mP(hmix:P.follows .mixedOrders=true){l T H}(hrow:Row P l T H)(hstab:∀(i:Nat) (io:bL),l[i]? =some io->nf io=true->∀θ,θ<=dS l->dL P io (T i) (H θ) (T (i+1)) (H θ)):Ev P ro (.mP l) (T 0) (H 0) .normal (T l.length) (H l.length):=by
 refine Ev.of λcc hns hc m a w lo hlo st hm Q hQ=>?_
 cases cc with
 |region id ops draw=>
  rcases eI (by simpa only[compile]using hc)with⟨_,h1,_⟩|⟨_,h1,_⟩|⟨l',h1,hd,⟨l2,hl2⟩,cq,hz,hmo,hlo⟩<;>cases h1
  subst hd;simp only[cQ,aan]at hl2;split at hl2
  case isFalse=>cases hl2
  rename_i Tq;simp only[aaD]at Tq;rcases hmo with hmo|⟨f,Wj,Vw⟩
  case inr=>exact yu hmix Tq.1 Tq.2 hz Wj Vw hrow hstab (λi j x y a1 a2 a3 a4 a5=>qA hlo a1 a2 a3 a4 a5) st ro Q (λm' a' w' s g d=>hQ m' a' w' s g (by rw[d];exact hm.grow g st.hr.cO)) id
  exact rL hmix Tq.1 Tq.2 hz hmo hrow hstab (λi j x y a1 a2 a3 a4 a5=>qA hlo a1 a2 a3 a4 a5) st ro Q (λm' a' w' s g d=>hQ m' a' w' s g (by rw[d];exact hm.grow g st.hr.cO)) id
 |scope a=>exact absurd rfl (hns a)
 |block id a=>simp[compile]at hc
 |loop a=>simp[compile]at hc
 |_=>
  exact BA
theorem Ev.seq(hx:Ev P ro x ts h .normal Uy h1)(hy:Ev P ro y Uy h1 e ts' h'):Ev P ro (.seq x y) ts h e ts' h':=by
 refine Ev.of λcc hns hc m a w lo hlo st hm Q hQ=>?_
 cases cc with
 |seq ca cb=>
  simp only[compile]at hc;split at hc
  case h_2=>cases hc
  rename_i x' y' Tt hcb;cases hc;refine wpIn_seq (hx ca Tt m a w lo hlo st hm _ λm1 a1 w1 s1 g1 k1=>?_);exact hy cb hcb m1 a1 w1 lo (aaT hlo g1.size) s1 k1 Q λm2 a2 w2 s2 g2 k2=>hQ m2 a2 w2 s2 (g1.trans g2 st.hr.cO) k2
 |scope a=>exact absurd rfl (hns a)
 |region id ops draw=>rcases eI (by simpa only[compile]using hc)with⟨_,h1,_⟩|⟨_,h1,_⟩|⟨_,h1,_⟩<;>cases h1
 |block id a=>simp[compile]at hc
 |loop a=>simp[compile]at hc
 |_=>
  exact BA
def Ev.vO(hx:Ev P ro x ts h e ts' h')(hne:e≠.normal):Ev P ro (.seq x y) ts h e ts' h':=by
 refine Ev.of λcc hns hc m a w lo hlo st hm Q hQ=>?_
 cases cc with
 |seq ca cb=>
  simp only[compile]at hc;split at hc
  case h_2=>cases hc
  rename_i x' y' Tt hcb;cases hc;refine wpIn_seq (hx ca Tt m a w lo hlo st hm _ λm1 a1 w1 s1 g1 k1=>?_);have:=hQ m1 a1 w1 s1 g1 k1;cases e<;>first|exact absurd rfl hne|exact this
 |scope a=>exact absurd rfl (hns a)
 |region id ops draw=>rcases eI (by simpa only[compile]using hc)with⟨_,h1,_⟩|⟨_,h1,_⟩|⟨_,h1,_⟩<;>cases h1
 |block id a=>simp[compile]at hc
 |loop a=>simp[compile]at hc
 |_=>
  exact BA
def zm{o c}(hc:EN o=some c):cU o=some c/\NM P o=true:=by
 cases o<;>first|exact⟨hc,rfl⟩|cases hc
def CL{m a w}(st:St P m ts h a w){o c}(hc:EN o=some c):VR m (val ts c) (a.eval o):=
 zF st.hr.gv (zm (P:=P) hc).1 (zm (P:=P) hc).2 (λt _=>n8 st.ts t)
theorem Ev.cond{c b}(hb:val ts c=.bool b)(hx:Ev P ro (if b then x else y) ts h e ts' h'):Ev P ro (.cond c x y) ts h e ts' h':=by
 refine Ev.of λcc hns hc m a w lo hlo st hm Q hQ=>?_
 cases cc with
 |cond o ca cb=>
  simp only[compile]at hc;split at hc
  case h_2=>cases hc
  rename_i c' x' y' hco Tt hcb;cases hc;have hv:=CL st hco;rw[hb,VR]at hv;refine wpIn_cond hv ?_;cases b
  ·exact hx cb hcb m a w lo hlo st hm Q hQ
  ·exact hx ca Tt m a w lo hlo st hm Q hQ
 |scope a=>exact absurd rfl (hns a)
 |region id ops draw=>rcases eI (by simpa only[compile]using hc)with⟨_,h1,_⟩|⟨_,h1,_⟩|⟨_,h1,_⟩<;>cases h1
 |block id a=>simp[compile]at hc
 |loop a=>simp[compile]at hc
 |_=>
  exact BA
def Ex.inBlock(id:Nat):Ex->Ex
 |.exit Yx=>if Yx=id then .normal else .exit Yx
 |e=>e
theorem Ev.block{id}(hx:Ev P ro x ts h e ts' h'):Ev P ro (.block id x) ts h (e.inBlock id) ts' h':=by
 refine Ev.of λcc hns hc m a w lo hlo st hm Q hQ=>?_
 cases cc with
 |block Yx ca=>
  simp only[compile,aav,ai.block.injEq]at hc;obtain⟨x',Tt,rfl,rfl⟩:=hc;refine wpIn_block (hx ca Tt m a w lo hlo st hm _ λm' a' w' s g k=>?_);have:=hQ m' a' w' s g k;cases e with
  |normal=>exact this
  |ret=>exact this
  |exit i=>
   simp only[Ex.Dp,Exit.inBlock];simp only[Ex.inBlock]at this;split
   ·rename_i hi;rw[aai hi]at this;exact this
   ·rename_i hi;rw[aab hi]at this;exact this
 |scope a=>exact absurd rfl (hns a)
 |region id ops draw=>rcases eI (by simpa only[compile]using hc)with⟨_,h1,_⟩|⟨_,h1,_⟩|⟨_,h1,_⟩<;>cases h1
 |loop a=>simp[compile]at hc
 |_=>
  exact BA
inductive uh (P:Program) (ro:Option Nat) (x:ai):TS->ah->Ex->TS->ah->Prop
 |out {ts:TS}{h:ah}{e:Ex}{ts':TS}{h':ah}(hx:Ev P ro x ts h e ts' h') (hne:e≠.normal):uh P ro x ts h e ts' h'
 |more {ts:TS}{h:ah}{Uy:TS}{h1:ah}{e:Ex}{ts':TS}{h':ah}(hx:Ev P ro x ts h .normal Uy h1) (hr:uh P ro x Uy h1 e ts' h'):uh P ro x ts h e ts' h'
theorem Ev.loop(hl:uh P ro x ts h e ts' h'):Ev P ro (.loop x) ts h e ts' h':=by
 refine Ev.of λcc hns hc m a w lo hlo st hm Q hQ=>?_
 cases cc with
 |loop ca=>
  simp only[compile,aav,ai.loop.injEq]at hc;obtain⟨x',Tt,rfl⟩:=hc;intro b k cs hro hb hr;have key:∀(m1:cj) (a1:Act) (w1:World),lo<=w1.heap.size->St P m1 ts h a1 w1->Marks m1 w1 lo a1.defers->(∀m' a' w',St P m' ts' h' a' w'->Grow m1 h w1 m' h' w'->Marks m' w' lo a'.defers->Q e.Dp a' w')->
    ∃e a' w',Q e a' w'/\ArrivesIn (Machine.fenced P (Fd ro)) P (lone (b.atR a1 (.code ca:: .inLoop ca::k)) cs w1) b k cs e a' w':=by
   clear hQ st hm hlo
   induction hl with
   |out hx hne=>
    rename_i ts h e ts' h';intro m1 a1 w1 hlo s1 k1 hQ;obtain⟨e1,a2,w2,hq,TB⟩:=hx ca Tt m1 a1 w1 lo hlo s1 k1 (λe1 a1 w1=>e1≠.normal/\Q e1 a1 w1) (λm' a' w' s g k'=>⟨by cases e<;>first|exact absurd rfl hne|simp[Ex.Dp],hQ m' a' w' s g k'⟩) b (.inLoop ca::k) cs hro hb hr;exact⟨e1,a2,w2,hq.2,.pass (x:=.inLoop ca) rfl (λ_ _=>.inl hq.1) TB⟩
   |more hx hr' ih=>
    intro m1 a1 w1 hlo s1 k1 hQ;obtain⟨e1,a2,w2,hq,TB⟩:=hx ca Tt m1 a1 w1 lo hlo s1 k1 (λe1 a2 w2=>e1=.normal/\∃m2,St P m2 _ _ a2 w2/\Grow m1 _ w1 m2 _ w2/\Marks m2 w2 lo a2.defers) (λm' a' w' s g k'=>⟨rfl,m',s,g,k'⟩) b (.inLoop ca::k) cs hro hb hr;obtain⟨rfl,m2,s2,g2,k2⟩:=hq;obtain⟨e3,a3,w3,hq3,harr3⟩:=ih m2 a2 w2 (aaT hlo g2.size) s2 k2 (λm' a' w' s g k'=>hQ m' a' w' s (g2.trans g s1.hr.cO) k');exact⟨e3,a3,w3,hq3,.of_steps (StepsIn.trans TB (.one (fenced_calm hb hr rfl) stepR_inLoop)) harr3⟩
  obtain⟨e',a',w',hq,TB⟩:=key m a w hlo st hm hQ;exact⟨e',a',w',hq,.of_steps (.one (fenced_calm hb hr rfl) stepR_loop) TB⟩
 |scope a=>exact absurd rfl (hns a)
 |region id ops draw=>rcases eI (by simpa only[compile]using hc)with⟨_,h1,_⟩|⟨_,h1,_⟩|⟨_,h1,_⟩<;>cases h1
 |block id a=>simp[compile]at hc
 |_=>
  exact BA
end
def dJ(ts:TS)(h:ah):Nat×Option (Option Nat)->Option AV
 |(t,none)=>some (ts.getD t az)
 |(a,some n)=>
  match dI (.load n (.c (ts.getD a az))) (val ts) h with
  |some (v,_)=>some v
  |none=>none
def jm(ts:TS)(h:ah):List (Nat×Option (Option Nat))->Option (List AV)
 |[]=>some []
 |r::rs=>
  match dJ ts h r,jm ts h rs with
  |some v,some vs=>some (v::vs)
  |_,_=>none
def cT(rs:List (Nat×Option (Option Nat)))(ts:TS)(h:ah):Option AV:=
 match jm ts h rs with
 |some [v]=>some v
 |some l=>some (.dW l)
 |none=>none
def aW(nt:Nat)(args:List AV):TS:=args++List.replicate (nt-args.length) az
def Ex.leaves:Ex->Bool
 |.normal=>true
 |.ret=>true
 |_=>false
section
variable {P:Program}{m:cj}{h h':ah}{w:World}{v:AV}
def yj{ts a}(st:St P m ts h a w){r x}(hx:uw P r=some x)(hv:dJ ts h x=some v):
  ∃cv,(match r with
   |.tmp t=>(pure (a.tmps.getD t undef):Sem Value)
   |.cell b t=>do loadVar t (<-asAddr (a.tmps.getD b undef))).run P w=.ok cv w/\VR m v cv:=by
 cases r with
 |tmp t=>cases hx;cases hv;exact⟨_,rfl,n8 st.ts t⟩
 |cell b t=>
  simp only[uw,aav]at hx;obtain⟨n,hn,rfl⟩:=hx;simp only[dJ]at hv;split at hv
  case h_2=>cases hv
  rename_i v' h' hf;cases hv;obtain⟨cv,h1,h2,_⟩:=Cn (P:=P) (ρ:=val ts) hn st.hr (a:=.c (ts.getD b az)) (n8 st.ts b) hf;refine⟨cv,?_,h2⟩;simp only[dI,val]at hf;split at hf
  case h_2=>cases hf
  rename_i b' o' hb';have hs:=n8 st.ts b;rw[hb',VR]at hs;obtain⟨e,_,he⟩:=hs;simp only[he]at h1 ⊢
  simpa [Instr.loadAt,Instr.sureAddr,asAddr]using h1
theorem qp{ts:TS}{a:Act}(st:St P m ts h a w):∀{rs:List ResultVar}{xs:List (Nat×Option (Option Nat))}{vs:List AV},rs.mapM (uw P)=some xs->jm ts h xs=some vs->
  ∃Vg,(rs.mapM (m:=Sem) λ
   |.tmp t=>pure (a.tmps.getD t undef)
   |.cell b t=>do loadVar t (<-asAddr (a.tmps.getD b undef))).run P w=.ok Vg w/\cL m vs Vg
 |[],xs,vs,hx,hv=>by
  simp at hx;subst hx;cases hv;exact⟨[],rfl,bG.2 rfl⟩
 |r::rs,xs,vs,hx,hv=>by
  simp only[acw,acb,acB]at hx;cases hr:uw P r with
  |none=>simp[hr]at hx
  |some x=>
   cases hrs:rs.mapM (uw P)with
   |none=>simp[hr,hrs]at hx
   |some xs'=>
    simp[hr,hrs]at hx;subst hx;simp only[jm]at hv;split at hv
    case h_2=>cases hv
    rename_i v vs' h1 h2;cases hv;obtain⟨cv,hc,SL⟩:=yj st hr h1;obtain⟨Vg,Uw,hvrs⟩:=qp st hrs h2;refine⟨cv::Vg,?_,aV.2 ⟨cv,Vg,rfl,SL,hvrs⟩⟩;rw[acw,aat];have Uh:=hc;cases r<;>(simp only at Uh ⊢;rw[Uh];simp only[aag,aat,Uw,aaG])
def vR{ts:TS}{a:Act}(st:St P m ts h a w){fn:Func}{xs:List (Nat×Option (Option Nat))}(hx:fn.results.toList.mapM (uw P)=some xs)(hv:cT xs ts h=some v):
  ∃cv,(results fn a.tmps).run P w=.ok cv w/\VR m v cv:=by
 unfold cT at hv;have key:∀{vs:List AV},jm ts h xs=some vs->∃Vg:List Value,(results fn a.tmps).run P w=.ok (if h:Vg.length=1 then Vg[0]else .tuple ⟨Vg⟩) w/\cL m vs Vg:=by
  intro vs TI;obtain⟨Vg,h1,h2⟩:=qp st hx TI;refine⟨Vg,?_,h2⟩;unfold results;rw[Array.mapM_eq_mapM_toList,aat];simp only[map_eq_pure_bind,aat];have h1':=h1
  erw [h1']
  simp only[aag,aaG];by_cases hc:Vg.length=1
  ·simp[hc]
  ·simp[hc]
 split at hv
 ·rename_i v' TI;cases hv;obtain⟨Vg,h1,h2⟩:=key TI;obtain⟨y,ys,rfl,hy,hys⟩:=aV.1 h2;rw[bG]at hys;subst hys;exact⟨y,by simpa using h1,hy⟩
 ·rename_i l hno TI;cases hv;obtain⟨Vg,h1,h2⟩:=key TI;have hlen:Vg.length≠1:=by
   rw[h2.length];intro hl;obtain⟨z,hz⟩:=List.length_eq_one_iff.1 hl;exact hno z hz
  rw[dif_neg hlen]at h1;exact⟨_,h1,⟨Vg,rfl,h2⟩⟩
 ·cases hv
theorem oR{fn xs}(hx:fn.results.toList.mapM (uw P)=some xs){ts}(hv:cT xs ts h' =some v){m0 h0 w0 lo}(hlo:w0.heap.size<=lo):
  ∀(ds:List Deferred) (m:cj) (a:Act) (w:World),St P m ts h' a w->Grow m0 h0 w0 m h' w->Marks m w lo ds->LeavesInM Fence.wide 0 P fn a.tmps (Rel P m0 h0 w0 v h') ds .returning w
 |[],m,a,w,st,g,_=>by
  obtain⟨cv,h1,h2⟩:=vR st hx hv;exact⟨cv,h1,cv,m,rfl,h2,st.hr,g⟩
 |d::ds,m,a,w,st,g,k=>by
  obtain⟨rs,h1,h2,h3⟩:=k;cases rs with
  |nil=>simp at h1
  |cons r rs=>
   simp only[aaX,List.cons.injEq]at h1;obtain⟨rfl,rfl⟩:=h1;obtain⟨hl,hh,hm⟩:=h3 r Si;have hoth:∀i,i≠r->(w.putObj r (.deferred none)).heap[i]? =w.heap[i]? :=λi hi=>World.putObj_heap_other hi
   refine⟨Si,.inl ⟨r,_,rfl,run_takeDeferred hh,?_⟩⟩;refine oR hx hv hlo _ m a _ ⟨⟨st.hr.cO,λb e k hb hk=>(st.hr.ep b e k hb hk).heap (hoth _ (hm b e hb)),st.hr.sep,st.hr.gD,λb e hb=>by simpa using st.hr.lt b e hb⟩,st.ts⟩
    ⟨g.ext,g.len,g.new,g.tl,by simpa using g.size,g.os,g.out,g.tape,λi hi hno=>?_⟩ ⟨rs,rfl,(ab6.1 h2).2,λr' hr'=>?_⟩
   ·rw[hoth i Om];exact g.frame i hi hno
   ·obtain⟨c1,c2,c3⟩:=h3 r' (aaH _ hr');refine⟨c1,?_,c3⟩;rw[hoth r' (λx=>(ab6.1 h2).1 (x▸hr'))];exact c2
def iu{f A}(hA:bT P f=some A):∃fn c,P.funcs[f]? =some fn/\fn.body=some c/\compile P c=some A.body/\fn.results.toList.mapM (uw P)=some A.rs/\fn.ntmps=A.nt/\(fn.name == "runtime.NumGoroutine")=false:=by
 unfold bT at hA;split at hA
 case h_1=>cases hA
 rename_i fn hf;split at hA
 case h_1=>cases hA
 rename_i c hb;split at hA
 case h_2=>cases hA
 rename_i b rs hc hr;split at hA
 case isTrue=>cases hA
 rename_i hn;cases hA;exact⟨fn,c,hf,hb,hc,hr,rfl,by simpa using hn⟩
def my.LX{f A}(hA:bT P f=some A){args e ts'}(hev:Ev P none A.body (aW A.nt args) h e ts' h')(he:e.leaves=true)(hv:cT A.rs ts' h' =some v):my P f args h v h':=by
 intro m w vs hr hargs;obtain⟨fn,c,hf,hb,hc,hres,hnt,_⟩:=iu hA;rw[<-callsIn_wide (n:=0)];refine callsIn_of_wp_marks hf hb trivial ?_;refine hev c hc m _ w w.heap.size (aah _) ⟨hr,?_⟩ (Marks.nil m w _) _ ?_
 ·have:((⟨vs⟩:Array Value)++Array.replicate (fn.ntmps-(⟨vs⟩:Array Value).size) undef).toList=vs++List.replicate (A.nt-args.length) undef:=by
   rw[hnt];simp[hargs.length]
  rw[this];refine cL.append hargs (cL.iL Si λi x hx=>?_);rw[List.getElem?_replicate]at hx ⊢;split at hx
  ·rename_i hlt;cases hx;rw[aai hlt];exact⟨undef,rfl,ko m⟩
  ·cases hx
 ·intro m' a' w' s g k;have:=oR hres hv (aah _) a'.defers m' a' w' s g k;cases e<;>first|exact this|cases he
def fI.zp{f A}(hA:bT P f=some A){a c args}(hs:my P f (a++args++c) h v h'):fI P (.func (.func f) a c) args h v h':=by
 intro m w cv vs hr hf hargs;rw[VR]at hf;obtain⟨f',a',c',rfl,hfn,ha,hc⟩:=hf;simp only[Bm]at hfn;subst hfn;refine⟨_,λw=>rfl,?_⟩;obtain⟨fn,cc,hfn,hb,_,_,_,hn⟩:=iu hA;simp only[invoke];rw[kR hfn (by rw[hb];rfl) hn];show CallsIn Fence.wide 0 P f _ w _;rw[callsIn_wide];have:=hs m w (a'++vs++c') hr (cL.append (cL.append ha hargs) hc)
 simpa using this
def jf(P:Program)(u:TypeId)(name:String):Option FuncId:=
 match P.info? u,P.underlying u with
 |some i,some d=>
  match i.methods.find? (·.name==name)with
  |some m=>
   match m.path.toList,m.func,d with
   |[],some (_,false),.pointer _=>none
   |[],some (f,false),_=>some f
   |_,_,_=>none
  |none=>none
 |_,_=>none
def yf{u:TypeId}{name f}(hm:jf P u name=some f)(n:Nat)(v:Value)(w:World):(method (n+1) u v name).run P w=.ok (f,v) w:=by
 unfold jf at hm;split at hm
 case h_2=>cases hm
 rename_i i d hi hd;split at hm
 case h_2=>cases hm
 rename_i mm Vb;split at hm
 case h_3=>cases hm
 case h_1=>cases hm
 rename_i f' hp hfn hnp;cases hm;have hti:(typeInfo u).run P w=.ok i w:=by simp[typeInfo,hi]
 rw[method];simp only[aat,hti,aag,Vb,hp,follow,aaG,hfn];have Tk:∀wr,(receiverAt u (.val v) false wr).run P w=.ok v w:=by
  intro wr;unfold receiverAt;simp only[aat,aas hd,aag];rfl
 simp only[Tk,aag]
def fI.EO{u:TypeId}{name f A}(hm:jf P u name=some f)(hA:bT P f=some A){a args}(hs:my P f (a::args) h v h'):fI P (.func (.method name) [] []) (.vk u a::args) h v h':=by
 intro m w cv vs hr hf hargs;rw[VR]at hf;obtain⟨f',a',c',rfl,hfn,ha,hc⟩:=hf;simp only[Bm]at hfn;subst hfn;rw[bG]at ha hc;subst ha;subst hc;obtain⟨x,vs,rfl,hx,TI⟩:=aV.1 hargs;rw[VR]at hx;obtain⟨v',rfl,hx⟩:=hx;refine⟨_,λw=>rfl,?_⟩;obtain⟨fn,cc,hfn,hb,_,_,_,hn⟩:=iu hA;have e0:((#[]++(⟨.iface u v'::vs⟩:Array Value)):Array Value)[0]? =some (.iface u v'):=Si
 have e1:((#[]++(⟨.iface u v'::vs⟩:Array Value)):Array Value).extract 1 ((#[]++(⟨.iface u v'::vs⟩:Array Value)):Array Value).size=⟨vs⟩:=by
  apply acz;simp
 simp only[invoke,e0,e1,callMethod,aat,program];have hmt:=yf hm (P.types.size+Made.depth-1) v' w;have hdep:0<Made.depth:=De
 have hne:P.types.size+Made.depth-1+1=P.types.size+Made.depth:=Om
 rw[hne]at hmt;show DY P (Rel P m h w v h') ((Result.ok P w).andThen λa w'=>(Sem.run P (method (a.types.size+Made.depth) u v' name) w').andThen λa w'=>Sem.run P (callFunc a.fst (#[a.snd]++⟨vs⟩)) w');simp only[aag,hmt];rw[kR hfn (by rw[hb];rfl) hn];show CallsIn Fence.wide 0 P f _ w _;rw[callsIn_wide];have:=hs m w (v'::vs) hr (aV.2 ⟨_,_,rfl,hx,TI⟩);have e2:(#[v']++(⟨vs⟩:Array Value))=⟨v'::vs⟩:=by apply acz;simp
 rw[e2];exact this
end
def setArgs:TS->List Nat->List AV->TS
 |ts,p::ps,v::vs=>setArgs (ts.set p v) ps vs
 |ts,_,_=>ts
section
variable {P:Program}{m:cj}{h h':ah}{w:World}{v:AV}
def HR.aside(hr:HR P m h w)(o:Obj):HR P m h (w.alloc o):=
 ⟨hr.cO,λb e k hb hk=>(hr.ep b e k hb hk).heap (Go.RowKit.Below.heap_alloc w o _ (hr.lt b e hb)),hr.sep,hr.gD,λb e hb=>by have:=hr.lt b e hb;simp;omega⟩
def Grow.aside(hr:HR P m h w)(o:Obj):Grow m h w m h (w.alloc o):=
 ⟨λ_ _=>rfl,aah _,λb e hb he=>absurd (hr.cO b e he) Om,λ_ _ h=>h,Si,rfl,rfl,rfl,λi hi _=>Go.RowKit.Below.heap_alloc w o i hi⟩
theorem qn:∀{ps}{args}{ts}{tmps}{vs},cL m ts tmps.toList->cL m args vs->cL m (setArgs ts ps args) ((ps.zip vs).foldl (λ(t:Array Value) (p:Nat×Value)=>t.setIfInBounds p.1 p.2) tmps).toList
 |[],_,_,_,_,ht,_=>by simpa [setArgs]using ht
 |p::ps,[],ts,tmps,vs,ht,ha=>by rw[bG]at ha;subst ha;simpa [setArgs]using ht
 |p::ps,x::args,ts,tmps,vs,ht,ha=>by
  obtain⟨y,ys,rfl,hy,hys⟩:=aV.1 ha;simp only[List.zip_cons_cons,ab5,setArgs];exact qn (by rw[Array.toList_setIfInBounds];exact ht.set p hy) hys
theorem fI.yield{l ex ex2 ex4 e ts Wb ts3 tb tc ps pb pc asg body ab ac bb bc h2 h4 args st4}
  (hl:h[l]? =some (.loop .ready ex ts ps asg body)) (hlen:args.length=ps.length)
  (hasg:∀r,Ev P (some r) asg (setArgs ts ps args) h .normal Wb h2) (hl2:h2[l]? =some (.loop .ready ex2 tb pb ab bb))
  (hbody:∀r,Ev P (some r) body Wb (h2.set l (.loop .busy ex2 tb pb ab bb)) e ts3 h4) (hl4:h4[l]? =some (.loop st4 ex4 tc pc ac bc)):
  fI P (.func (.yield l) [] []) args h (.bool (decide (e=.normal))) (h4.set l (.loop (if e=.normal then .ready else .done) e tc pc ac bc)):=by
 intro m w cv vs hr hf hargs;rw[VR]at hf;obtain⟨f',a',c',rfl,hfn,ha,hc⟩:=hf;rw[bG]at ha hc;subst ha;subst hc;obtain⟨el,Wk,rfl⟩:=hfn;refine⟨_,λw=>rfl,?_⟩;obtain⟨hown,fn,tmps,TL,Tf,df,hh,SH,Tt,hcb⟩:=hr.ep l el _ Wk hl;have hy:=run_yield (P:=P) (args:=(#[]++⟨vs⟩:Array Value)) hh (by simp[hargs.length,hlen]);simp only[invoke];rw[hy];show RoundIn Fence.wide 0 P el.cb fn _ TL Tf w _;refine roundIn_of_wpIn trivial ?_;have U4:cL m (setArgs ts ps args) (((⟨ps⟩:Array Tmp).zip (#[]++⟨vs⟩:Array Value)).foldl (λtmps (t,a)=>tmps.setIfInBounds t a) tmps).toList:=by
  have:=qn (ps:=ps) SH hargs;rw[<-Array.foldl_toList,Array.toList_zip]
  simpa using this
 refine hasg el.cb TL Tt m _ w w.heap.size (aah _) ⟨hr,U4⟩ (Marks.nil m w _) _ λm1 a1 w1 s1 g1 k1=>?_
 have Yd:m1 l=some el:=by rw[g1.ext l (hr.cO _ _ Wk)];exact Wk
 obtain⟨_,fn2,Yr,YZ,Xs,df2,hh2,hts2,hca2,hcb2⟩:=s1.hr.ep l el _ Yd hl2;refine⟨_,run_beginRound hh2 rfl,?_⟩;have hlt1:el.cb<w1.heap.size:=s1.hr.lt _ _ Yd;obtain⟨T4,g2⟩:=kB s1.hr (o:=.loop {state:=.busy,pending:=ex2.jump,fn:=fn2,tmps:=Yr,params:=⟨pb⟩,assign:=YZ,body:=Xs,defers:=df2}) Yd hl2 rfl (k':=.loop .busy ex2 tb pb ab bb) (.inl rfl)
  ⟨hown,fn2,Yr,YZ,Xs,df2,World.putObj_heap_same hlt1,hts2,hca2,hcb2⟩
 refine hbody el.cb Tf hcb m1 a1 _ w.heap.size (aaT g1.size g2.size) ⟨T4,s1.ts⟩ (k1.grow g2 s1.hr.cO) _ λm2 a2 w3 s2 g3 k2=>?_
 have hl2':l<h2.length:=(Z2.1 hl2).1;have ZO:m2 l=some el:=by rw[g3.ext l (by simpa using hl2')];exact Yd
 obtain⟨_,fn4,Yq,YY,Xr,df4,hh4,hts4,hca4,hcb4⟩:=s2.hr.ep l el _ ZO hl4;have TU:el.cb<w3.heap.size:=s2.hr.lt _ _ ZO;have fin:∀j:Option Code,j=e.jump->∃v w',(Instr.endRound el.cb j).run P w3=.ok v w'/\Rel P m h w (.bool (decide (e=.normal))) (h4.set l (.loop (if e=.normal then .ready else .done) e tc pc ac bc)) (.returned v) w':=by
  rintro j rfl;obtain⟨hr4,g4⟩:=kB s2.hr (o:=.loop {state:=if e=.normal then .ready else .done,pending:=e.jump,fn:=fn4,tmps:=Yq,params:=⟨pc⟩,assign:=YY,body:=Xr,defers:=df4}) ZO hl4 rfl
   (k':=.loop (if e=.normal then .ready else .done) e tc pc ac bc) (.inl rfl) ⟨hown,fn4,Yq,YY,Xr,df4,World.putObj_heap_same TU,hts4,hca4,hcb4⟩
  refine⟨_,_,run_endRound e.jump hh4,.bool (decide (e=.normal)),m2,?_,rfl,?_,?_⟩
  ·cases e<;>rfl
  ·have:(if e.jump.isNone=true then LoopState.ready else .done)=if e=.normal then .ready else .done:=by cases e<;>rfl
   simp only[this];exact hr4
  ·have:(if e.jump.isNone=true then LoopState.ready else .done)=if e=.normal then .ready else .done:=by cases e<;>rfl
   simp only[this];exact((g1.trans g2 hr.cO).trans g3 hr.cO).trans g4 hr.cO
 cases e with
 |normal=>exact fin none rfl
 |exit id=>exact fin (some (.exit id)) rfl
 |ret=>exact fin (some .ret) rfl
theorem Ev.gg{g ps ps' asg body asg' body' ts ts' f A a c h2 st ex}(hA:bT P f=some A)(hg:val ts g=.func (.func f) a c)
  (hs:my P f (a++[.func (.yield h.length) [] []]++c) (h++[.loop .ready .normal ts ps asg body]) v h2) (hl:h2[h.length]? =some (.loop st ex ts' ps' asg' body')) (bY:st≠.busy):
  Ev P none (.gg g ps asg body) ts h ex ts (h2.set h.length .dead):=by
 refine Ev.of λcc hns Wm m act w lo hlo s hm Q hQ=>?_
 cases cc with
 |rangeFunc og cps TL Tf=>
  simp only[compile]at Wm;split at Wm
  case h_2=>cases Wm
  rename_i g' x' y' hgo Tt hcb;cases Wm;have hv:=CL s hgo;rw[hg,VR]at hv;obtain⟨f',ca,Tu,hev,hfn,ha,hc⟩:=hv;simp only[Bm]at hfn;subst hfn;obtain⟨W1,Ux⟩:∃W1,w.alloc (.deferred (some []))=W1:=⟨_,rfl⟩;have hsz1:W1.heap.size=w.heap.size+1:=by rw[<-Ux];simp
  have hr1:HR P m h W1:=by rw[<-Ux];exact s.hr.aside _
  have g1:Grow m h w m h W1:=by rw[<-Ux];exact Grow.aside s.hr _
  have U7:W1.heap[w.heap.size]? =some (.deferred (some [])):=by rw[<-Ux];exact World.alloc_heap_new w _
  refine wpIn_rangeFunc λfn _=>?_
  obtain⟨rec,Tk⟩:∃rec:Loop,rec={state:=.ready,pending:=none,fn:=fn,tmps:=act.tmps,params:=cps,assign:=TL,body:=Tf,defers:=w.heap.size}:=⟨_,rfl⟩;obtain⟨T4,g2⟩:=kL hr1 (.loop rec) (.loop .ready .normal ts cps.toList asg body) ⟨W1.heap.size,0,0,true⟩ rfl rfl (λm' hm'=>⟨rfl,fn,act.tmps,TL,Tf,w.heap.size,by rw[Tk];exact World.alloc_heap_new W1 _,cL.mono hm' _ _ s.ts,Tt,hcb⟩);have hloc:(m.add h.length ⟨W1.heap.size,0,0,true⟩) h.length=some ⟨W1.heap.size,0,0,true⟩:=by simp[cj.add]
  have hle:m.le (m.add h.length ⟨W1.heap.size,0,0,true⟩):=g2.le s.hr.cO;have Xk:=run_enterLoop_outer (P:=P) (w:=w) fn act.tmps cps TL Tf;rw[Ux,<-Tk]at Xk;obtain⟨ffn,fcode,hffn,hfb,_,_,_,ZL⟩:=iu hA;have hmk:Marks (m.add h.length ⟨W1.heap.size,0,0,true⟩) (W1.alloc (.loop rec)) lo ([{target:=.collected w.heap.size,args:=#[] }]++act.defers):=by
   obtain⟨rs,k1,k2,k3⟩:=(hm.grow g1 s.hr.cO).grow g2 s.hr.cO;refine⟨w.heap.size::rs,by rw[k1];rfl,ab6.2 ⟨λhin=>?_,k2⟩,λr hr'=>?_⟩
   ·obtain⟨rs0,j1,j2,j3⟩:=hm;have hrs:rs0=rs:=by
     have:rs0.map (λr=>({target:=.collected r,args:=#[] }:Deferred))=rs.map (λr=>({target:=.collected r,args:=#[] }:Deferred)):=by rw[<-j1,k1]
     exact List.map_inj_right (λx y hxy=>by simpa using hxy) |>.1 this
    subst hrs;have:=(aap.1 (j3 _ hin).2.1).1;omega
   ·rcases aaJ.1 hr' with rfl|hr'
    ·refine⟨hlo,(Go.RowKit.Below.heap_alloc W1 _ _ Om).trans U7,λb e hb=>?_⟩;unfold cj.add at hb;split at hb
     ·cases hb;show W1.heap.size≠_;omega
     ·have:=s.hr.lt b e hb;omega
    ·exact k3 r hr'
  refine⟨w.heap.size+1,_,W1.alloc (.loop rec),{target:=.fn (.func f) ⟨Tu⟩,args:=⟨ca⟩++#[.func (.yield (w.heap.size+1)) #[] #[]] },W1.alloc (.loop rec),f,(⟨ca⟩++#[.func (.yield (w.heap.size+1)) #[] #[]])++⟨Tu⟩,W1.alloc (.loop rec),
   Xk,?_,λ_ _=>trivial,?_,λhd=>by simp[Fd,Fence.wide]at hd,?_⟩
  ·have W9:(#[Operand.const (.func (.yield (w.heap.size+1)) #[] #[])] :Array Operand).map act.eval=#[.func (.yield (w.heap.size+1)) #[] #[]]:=by simp[Act.eval]
   simp only[resolve,hev,rangeCall,W9];rfl
  ·simp only[invoke];exact kR hffn (by rw[hfb];rfl) ZL
  ·have hargs:cL (m.add h.length ⟨W1.heap.size,0,0,true⟩) (a++[.func (.yield h.length) [] []]++c) (ca++[.func (.yield (w.heap.size+1)) #[] #[]]++Tu):=by
    refine cL.append (cL.append (cL.mono hle _ _ ha) (aV.2 ⟨_,[],rfl,⟨_,[],[],rfl,⟨_,hloc,by rw[hsz1]⟩,rfl,rfl⟩,bG.2 rfl⟩)) (cL.mono hle _ _ hc)
   have Ve:=hs _ _ _ T4 hargs;rw[<-callsIn_wide (n:=0)]at Ve;have ZS:CallsIn (Fd none) (0-1) P f ((⟨ca⟩++#[.func (.yield (w.heap.size+1)) #[] #[]])++⟨Tu⟩) (W1.alloc (.loop rec)) (Rel P (m.add h.length ⟨W1.heap.size,0,0,true⟩) (h++[.loop .ready .normal ts cps.toList asg body]) (W1.alloc (.loop rec)) v h2):=by
    have TB:((⟨ca⟩++#[.func (.yield (w.heap.size+1)) #[] #[]])++⟨Tu⟩:Array Value)=⟨ca++[.func (.yield (w.heap.size+1)) #[] #[]]++Tu⟩:=by apply acz;simp
    rw[TB];exact Ve
   refine ZS.mono ?_;rintro e3 w3 ⟨cv,m3,rfl,hv3,hr3,g3⟩;have YI:m3 h.length=some ⟨W1.heap.size,0,0,true⟩:=by rw[g3.ext h.length Si];exact hloc
   obtain⟨hown3,fn3,tmps3,casg3,Z0,df3,hh3,_⟩:=hr3.ep h.length _ _ YI hl;simp only at hh3;have US:=run_endLoop (P:=P) (l:=W1.heap.size) hh3 (by simpa using bY);obtain⟨hr4,g4⟩:=kB hr3 (o:=.loop {state:=.exhausted,pending:=ex.jump,fn:=fn3,tmps:=tmps3,params:=⟨ps'⟩,assign:=casg3,body:=Z0,defers:=df3}) YI hl rfl (k':=.dead) (.inr rfl) trivial;have Ut:=hQ m3 {act with defers:=[{target:=.collected w.heap.size,args:=#[] }]++act.defers} _ ⟨hr4,cL.mono ((g2.trans g3 s.hr.cO).le s.hr.cO) _ _ s.ts⟩ (((g1.trans g2 s.hr.cO).trans g3 s.hr.cO).trans g4 s.hr.cO) ((hmk.grow g3 T4.cO).grow g4 hr3.cO);refine⟨ex.jump,_,by rw[<-hsz1];exact US,?_⟩
   cases ex with
   |normal=>exact Ut
   |exit id=>exact wpIn_exit Ut
   |ret=>exact wpIn_ret Ut
 |scope a=>exact absurd rfl (hns a)
 |region id ops draw=>rcases eI (by simpa only[compile]using Wm)with⟨_,h1,_⟩|⟨_,h1,_⟩|⟨_,h1,_⟩<;>cases h1
 |block id a=>simp[compile]at Wm
 |loop a=>simp[compile]at Wm
 |_=>
  simp only[compile]at Wm
  (repeat' split at Wm)
  all_goals cases Wm
end
inductive jd where
 |ar
 |push (k:ak)
 |set (b:Nat) (k:ak)
 |oa (b:Nat) (k k':ak)
 deriving Inhabited
def jd.app:jd->ah->ah
 |.ar,h=>h
 |.push k,h=>h++[k]
 |.set b k,h=>h.set b k
 |.oa b k k',h=>h.set b k++[k']
def fG(es:Nat)(G:Nat->Option ak):AV->Option (List AV×Nat)
 |.af=>some ([],0)
 |.slice b o n es'=>
  if es' =es then
   match G b with
   |some (.cells c _ _)=>if o+n*es<=c.length then some ((c.drop o).take (n*es),n)else none
   |_=>none
  else none
 |.str s=>if es=1 then some (s.map λb=>.int .u8 b.toNat,s.length)else none
 |_=>none
def ja(lk:LK)(G:Nat->Option ak):AV->Option Nat
 |.str s=>if lk=.st then some s.length else none
 |.slice _ _ n _=>if lk=.sl then some n else none
 |.af=>if lk=.sl then some 0 else none
 |.map r=>
  match G r with
  |some (.bA es)=>if lk=.mp then some es.length else none
  |_=>none
 |.dz=>if lk=.mp then some 0 else none
 |_=>none
def ni(k:Aa)(x:AV)(G:Nat->Option ak)(N0:Nat):Option (AV×jd):=
 match k with
 |.ME k=>
  match x with
  |.int _ n=>some (.int k (k.wrap n),.ar)
  |_=>none
 |.same=>
  match x with
  |.str s=>some (.str s,.ar)
  |_=>none
 |.PU k=>
  match x with
  |.int _ n=>some (.xS k (k.nearest n),.ar)
  |_=>none
 |.P9 k=>
  match x with
  |.xS s b=>
   match (s.decode b).toInt .zero with
   |some n=>if EW s b=false/\k.min<=n/\n<=k.max then some (.int k n,.ar)else none
   |none=>none
  |_=>none
 |.Qa k=>
  match x with
  |.xS s b=>if s=k then some (.xS k b,.ar)else none
  |_=>none
 |.vk u=>some (.vk u x,.ar)
 |.NO=>
  match x with
  |.af=>some (.str [],.ar)
  |.slice b o n es=>
   match fG 1 G (.slice b o n es)with
   |some (l,_)=>
    match l.mapM byteOf with
    |some r=>some (.str r,.ar)
    |none=>none
   |none=>none
  |_=>none
 |.OM=>
  match x with
  |.str s=>some (.slice N0 0 s.length 1,.push (.cells (s.map λb=>.int .u8 b.toNat) true true))
  |_=>none
def nM(k:pI):(c7->AV)->(Nat->Option ak)->Nat->Option (AV×jd):=
 match k with
 |.bV x=>λρ G N0=>some (ρ x,.ar)
 |.pick c a b=>λρ G N0=>
  match ρ c with
  |.bool t=>some (if t then ρ a else ρ b,.ar)
  |_=>none
 |.box x=>λρ G N0=>if(ρ x).cells.all AV.one then some (.ptr N0 0,.push (.cells (ρ x).cells true false))else none
 |.mq n x=>λρ G N0=>if(ρ x).cells.all AV.one=true/\(ρ x).cells.length=n then some (.ptr N0 0,.push (.cells (ρ x).cells true false))else none
 |.build z ps=>λρ G N0=>
  match fi z (ps.map λp=>(p.1,p.2.1,ρ p.2.2))with
  |some c=>some (.agg c,.ar)
  |none=>none
 |.load n a=>λρ G N0=>
  match ρ a with
  |.ptr b o=>
   match G b with
   |some (.cells c _ _)=>
    match n with
    |none=>
     match c[o]? with
     |some x=>some (x,.ar)
     |none=>none
    |some n=>if o+n<=c.length then some (.agg ((c.drop o).take n),.ar)else none
   |_=>none
  |_=>none
 |.store n a x=>λρ G N0=>
  match ρ a with
  |.ptr b o=>
   match G b with
   |some (.cells c true tl)=>
    if(ρ x).cells.length=n/\(ρ x).cells.all AV.one=true/\o+n<=c.length then some (az,.set b (.cells (gf c o (ρ x).cells) true tl))else none
   |_=>none
  |_=>none
 |.bS x=>λρ G N0=>
  match ρ x with
  |.ptr b o=>some (.ptr b o,.ar)
  |.func (.func f) a c=>some (.func (.func f) a c,.ar)
  |.func (.yield f) a c=>some (.func (.yield f) a c,.ar)
  |.func (.methodOf t n) a c=>some (.func (.methodOf t n) a c,.ar)
  |.func (.via t p f q) a c=>some (.func (.via t p f q) a c,.ar)
  |_=>none
 |.bin op x y=>λρ G N0=>
  match eV op (ρ x) (ρ y)with
  |some v=>some (v,.ar)
  |none=>none
 |.eqv neg t x y=>λρ G N0=>
  match mQ t (ρ x) (ρ y)with
  |some b=>some (.bool (if neg then !b else b),.ar)
  |none=>none
 |.un op x=>λρ G N0=>
  match xW op (ρ x)with
  |some v=>some (v,.ar)
  |none=>none
 |.conv k x=>λρ G N0=>ni k (ρ x) G N0
 |.uH f a c=>λρ G N0=>some (.func f (a.map ρ) (c.map ρ),.ar)
 |.oP=>λρ G N0=>some (.map N0,.push (.bA []))
 |.wo es w z l c=>λρ G N0=>
  match ρ l,ρ c with
  |.int _ l,.int _ c=>
   if 0<=l/\l<=c/\(w:Int)*c<=2^48/\c<2^63 then some (.slice N0 0 l.toNat es,.push (.cells (dY l.toNat z) true true))else none
  |_,_=>none
 |.sl es x lo hi=>λρ G N0=>
  match ρ x with
  |.slice b o n es'=>
   if es' =es then
    match ju (lo.map ρ) (hi.map ρ) n with
    |some (l,h')=>some (.slice b (o+l*es) (h'-l) es,.ar)
    |none=>none
   else none
  |.af=>
   match ju (lo.map ρ) (hi.map ρ) 0 with
   |some _=>some (.af,.ar)
   |none=>none
  |_=>none
 |.JW x lo hi=>λρ G N0=>
  match ρ x with
  |.str s=>
   match ju (lo.map ρ) (hi.map ρ) s.length with
   |some (l,h')=>some (.str ((s.drop l).take (h'-l)),.ar)
   |none=>none
  |_=>none
 |.NK k es x lo hi=>λρ G N0=>
  match ρ x with
  |.ptr b o=>
   match G b with
   |some (.cells c _ _)=>
    if o+k*es<=c.length then
     match ju (lo.map ρ) (hi.map ρ) k with
     |some (l,h')=>some (.slice b (o+l*es) (h'-l) es,.ar)
     |none=>none
    else none
   |_=>none
  |_=>none
 |.aP off x=>λρ G N0=>
  match ρ x with
  |.ptr b o=>some (.ptr b (o+off),.ar)
  |_=>none
 |.bp es x i=>λρ G N0=>
  match ρ x,ρ i with
  |.slice b o n es',.int _ i=>if es' =es/\0<=i/\i<n then some (.ptr b (o+i.toNat*es),.ar)else none
  |_,_=>none
 |.te len es x i=>λρ G N0=>
  match ρ x,ρ i with
  |.ptr b o,.int _ i=>if 0<=i/\i<len then some (.ptr b (o+i.toNat*es),.ar)else none
  |_,_=>none
 |.part n off x=>λρ G N0=>
  match ρ x with
  |.agg cs=>
   match n with
   |none=>
    match cs[off]? with
    |some v=>some (v,.ar)
    |none=>none
   |some n=>some (.agg ((cs.drop off).take n),.ar)
  |_=>none
 |.JY len es n x i=>λρ G N0=>
  match ρ x,ρ i with
  |.agg cs,.int _ i=>
   if 0<=i/\i<len then
    match n with
    |none=>
     match cs[i.toNat*es]? with
     |some v=>some (v,.ar)
     |none=>none
    |some n=>some (.agg ((cs.drop (i.toNat*es)).take n),.ar)
   else none
  |_,_=>none
 |.D2 x i=>λρ G N0=>
  match ρ x,ρ i with
  |.str s,.int _ i=>
   if 0<=i then
    match s[i.toNat]? with
    |some b=>some (.int .u8 b.toNat,.ar)
    |none=>none
   else none
  |_,_=>none
 |.look kk z ok m k=>λρ G N0=>
  match ρ m with
  |.dz=>some (if ok then .dW [z,.bool false]else z,.ar)
  |.map r=>
   match G r with
   |some (.bA es)=>
    match jO kk (ρ k) es with
    |some (some v)=>some (if ok then .dW [v,.bool true]else v,.ar)
    |some none=>some (if ok then .dW [z,.bool false]else z,.ar)
    |none=>none
   |_=>none
  |_=>none
 |.gh kk m k x=>λρ G N0=>
  match ρ m with
  |.map r=>
   match G r with
   |some (.bA es)=>
    match pM kk (ρ k) (ρ x) es with
    |some es'=>some (az,.set r (.bA es'))
    |none=>none
   |_=>none
  |_=>none
 |.Cr x=>λρ G N0=>
  match ρ x with
  |.str s=>some (.ptr N0 0,.push (.iter s 0))
  |_=>none
 |.rR x=>λρ G N0=>
  match ρ x with
  |.ptr b 0=>
   match G b with
   |some (.iter s pos)=>
    if pos<s.length then
     let d:=Utf8.decode ⟨⟨s⟩⟩ pos
     some (.dW [.bool true,.int .i64 pos,.int .i32 d.1],.set b (.iter s (pos+d.2)))
    else some (.dW [.bool false],.ar)
   |_=>none
  |_=>none
 |.ext x i=>λρ G N0=>
  match ρ x with
  |.dW l=>
   match l[i]? with
   |some v=>some (v,.ar)
   |none=>none
  |_=>none
 |.len lk x=>λρ G N0=>
  match ja lk G (ρ x)with
  |some n=>some (.int .i64 n,.ar)
  |none=>none
 |.AF n=>λρ G N0=>some (.int .i64 n,.ar)
 |.zK es x y=>λρ G N0=>
  match ρ x,fG es G (ρ y)with
  |.slice b o n es',some (ys,k)=>
   if es' =es then
    if min k n=0 then some (.int .i64 0,.ar)
    else
     match G b with
     |some (.cells c true tl)=>if o+min k n*es<=c.length then some (.int .i64 (min k n:Nat),.set b (.cells (gf c o (ys.take (min k n*es))) true tl))else none
     |_=>none
   else none
  |.af,some _=>some (.int .i64 0,.ar)
  |_,_=>none
 |.mx x l=>λρ G N0=>
  match iW qx (ρ x) (l.map ρ)with
  |some v=>some (v,.ar)
  |none=>none
 |.mn x l=>λρ G N0=>
  match iW qw (ρ x) (l.map ρ)with
  |some v=>some (v,.ar)
  |none=>none
 |_=>λρ G N0=>none
def qb(es w:Nat)(s y:AV)(G:Nat->Option ak)(N0:Nat):Option (AV×jd):=
 match fG es G y with
 |none=>none
 |some (ys,k)=>
  match s with
  |.af=>if k=0 then(if ys.isEmpty then some (.af,.ar)else none)else if k*w<=2^46 then some (.slice N0 0 k es,.push (.cells ys true true))else none
  |.slice b o m es'=>
   if es' =es then
    if k=0 then(if ys.isEmpty then some (.slice b o m es,.ar)else none)
    else if(m+k)*w<=2^46 then
     match G b with
     |some (.cells c true true)=>if o+m*es<=c.length then some (.slice N0 0 (m+k) es,.oa b .dead (.cells ((c.drop o).take (m*es)++ys) true true))else none
     |some (.cells c false true)=>if o+m*es=c.length then some (.slice N0 0 (m+k) es,.oa b (.cells c false false) (.cells (c.drop o++ys) false true))else none
     |some (.cells c true false)=>if o+m*es=c.length then some (.slice N0 0 (m+k) es,.push (.cells (c.drop o++ys) true true))else none
     |_=>none
    else none
   else none
  |_=>none
def stepT(k:pI):(c7->AV)->(Nat->Option ak)->Nat->Option (AV×jd):=
 match k with
 |.call _ _=>λ_ _ _=>none
 |.app es w x y=>λρ G N0=>qb es w (ρ x) (ρ y) G N0
 |.bo es n z ps=>λρ _ N0=>
  match fi (dY n z) (ps.map λp=>(p.1,es,ρ p.2))with
  |some c=>if c.all AV.one=true/\c.length=n*es then some (.slice N0 0 n es,.push (.cells c true (!Nat.beq n 0)))else none
  |none=>none
 |k=>nM k
def p7(es:Nat)(h:ah)(x:AV):fG es (λb=>h[b]?) x=cellsIn es h x:=by
 cases x<;>rfl
def EZ(lk:LK)(h:ah)(x:AV):ja lk (λb=>h[b]?) x=AG lk h x:=by
 cases x<;>rfl
def Dl{k x h v e}(hs:ni k x (λb=>h[b]?) h.length=some (v,e)):kJ k x h=some (v,e.app h):=by
 cases k<;>simp only[ni,p7]at hs<;>(repeat' split at hs)<;>first|(cases hs;done)|(cases hs;simp[kJ,jd.app, *])
def IV{k ρ h v e}(hs:nM k ρ (λb=>h[b]?) h.length=some (v,e)):dI k ρ h=some (v,e.app h):=by
 cases k with
 |conv k x=>exact Dl (k:=k) (x:=ρ x) hs
 |wo es w z l c=>
  simp only[nM]at hs;split at hs
  case h_2=>cases hs
  rename_i kl il kc ic hl hc;split at hs
  case isFalse=>cases hs
  rename_i S3;cases hs;simp only[dI,hl,hc];rw[aai S3];rfl
 |_=>simp only[nM,p7,EZ]at hs<;>(repeat' split at hs)<;>first|(cases hs;done)|(cases hs;simp[dI,jd.app, *])
def nZ{k ρ h v e}(hs:stepT k ρ (λb=>h[b]?) h.length=some (v,e)):nv k ρ h v (e.app h):=by
 have hf:∀k,nM k ρ (λb=>h[b]?) h.length=some (v,e)->dI k ρ h=some (v,e.app h):=λk hk=>IV hk
 cases k with
 |call f args=>cases hs
 |app es w x y=>
  simp only[stepT,qb,p7]at hs;show xQ es w (ρ x) (ρ y) h v (e.app h);split at hs
  ·cases hs
  rename_i ys k hy;split at hs
  ·rename_i hx;rw[hx];split at hs
   ·rename_i hk;split at hs
    ·rename_i hys;cases hs;subst hk;exact .none (by rw[hy];cases ys<;>first|rfl|cases hys) (.inl rfl)
    ·cases hs
   ·split at hs
    ·rename_i hk hb;cases hs;exact .new ys k true hy Om hb rfl
    ·cases hs
  ·rename_i b o m es' hx;rw[hx];split at hs
   case isFalse=>cases hs
   rename_i hes;subst hes;split at hs
   ·rename_i hk;split at hs
    ·rename_i hys;cases hs;subst hk;exact .none (by rw[hy];cases ys<;>first|rfl|cases hys) (.inr ⟨b,o,m,rfl⟩)
    ·cases hs
   ·rename_i hk;split at hs
    case isFalse=>cases hs
    rename_i hb;split at hs
    ·rename_i c hc;split at hs
     case isFalse=>cases hs
     rename_i hl;cases hs;exact .over ys k b o m c true hy Om hb rfl hc hl
    ·rename_i c hc;split at hs
     case isFalse=>cases hs
     rename_i hl;cases hs;exact .on ys k b o m c false hy Om hb rfl hc hl
    ·rename_i c hc;split at hs
     case isFalse=>cases hs
     rename_i hl;cases hs;exact .full ys k b o m c hy Om hb rfl hc hl
    ·cases hs
  ·cases hs
 |bo es n z ps=>
  simp only[stepT]at hs;split at hs
  case h_2=>cases hs
  rename_i c hc;split at hs
  case isFalse=>cases hs
  rename_i S3;cases hs;exact⟨c,true,_,hc,S3.1,S3.2,rfl,rfl⟩
 |_=>exact hf _ hs
inductive Acc where
 |no
 |rd (b:Nat)
 |wr (b:Nat) (k:ak)
def Acc.ep:Acc->Option Nat
 |.no=>none
 |.rd b=>some b
 |.wr b _=>some b
def Acc.app(h:ah):Acc->ah
 |.wr b k=>h.set b k
 |_=>h
def Aw{k}(hk:fO k=true){ρ G G' N N'}:stepT k ρ G N=stepT k ρ G' N':=by
 cases k<;>first|(cases hk;done)|rfl|skip
 case conv c x=>cases c<;>first|(cases hk;done)|rfl
 case len lk x=>
  have hl:lk≠.mp:=λe=>by rw[e]at hk;cases hk
  have e:ja lk G (ρ x)=ja lk G' (ρ x):=by
   cases lk<;>first|exact absurd rfl hl|skip
   all_goals
    cases ρ x<;>first|rfl|(simp only[ja,reduceCtorEq,aal];repeat' split)<;>rfl
  simp only[stepT,nM,e]
def AE{n a ρ G G' N N' b o}(ha:ρ a=.ptr b o)(hb:G b=G' b):stepT (.load n a) ρ G N=stepT (.load n a) ρ G' N':=by
 simp only[stepT,nM,ha,hb]
def x6{n a x ρ G G' N N' b o}(ha:ρ a=.ptr b o)(hb:G b=G' b):stepT (.store n a x) ρ G N=stepT (.store n a x) ρ G' N':=by
 simp only[stepT,nM,ha,hb]
def xP(o:bL)(ts:TS)(h:ah)(v:AV)(c:Acc):Prop:=
 (¬wanted o.gd ts/\c=.no/\v=az)\/wanted o.gd ts/\((fO o.k=true/\c=.no/\stepT o.k (val ts) (λz=>h[z]?) h.length=some (v,.ar))\/
  (∃n a b off,o.k=.load n a/\val ts a=.ptr b off/\c=.rd b/\stepT o.k (val ts) (λz=>h[z]?) h.length=some (v,.ar))\/
  (∃n a x b off k,o.k=.store n a x/\val ts a=.ptr b off/\c=.wr b k/\stepT o.k (val ts) (λz=>h[z]?) h.length=some (v,.set b k)))
theorem xP.run{P o ts h g v c}(hs:xP o ts h v c)(hb:∀b,c.ep=some b->g[b]? =h[b]?):dL P o ts g (put ts o.dst v) (c.app g):=by
 rcases hs with⟨hw,rfl,rfl⟩|⟨hw,hs⟩
 ·exact .skip hw
 rcases hs with⟨hp,rfl,hs⟩|⟨n,a,b,off,hk,ha,rfl,hs⟩|⟨n,a,x,b,off,k,hk,ha,rfl,hs⟩
 ·refine .run hw ?_ ?_
  ·cases hk:o.k<;>rw[hk]at hp<;>first|(cases hp;done)|trivial
  ·rw[Aw hp (G':=λz=>g[z]?) (N':=g.length)]at hs;have:=nZ hs;cases hk:o.k<;>rw[hk]at hp this<;>first|(cases hp;done)|exact this
 ·rw[hk]at hs;rw[AE ha (G':=λz=>g[z]?) (N':=g.length) (hb b rfl).symm]at hs;exact Kh
 ·rw[hk]at hs;rw[x6 ha (G':=λz=>g[z]?) (N':=g.length) (hb b rfl).symm]at hs;exact Kh
def Bk:List bL->TS->ah->List Acc->TS->Prop
 |[],ts,_,cs,ts'=>cs=[]/\ts' =ts
 |o::r,ts,h,cs,ts'=>∃v c cs1,xP o ts h v c/\cs=c::cs1/\Bk r (put ts o.dst v) h cs1 ts'
theorem Bk.row{h}:∀{l}{ts ts'}{cs},Bk l ts h cs ts'->∃T:Nat->TS,T 0=ts/\T l.length=ts'/\cs.length=l.length/\∀j o,l[j]? =some o->∃v c,cs[j]? =some c/\xP o (T j) h v c/\T (j+1)=put (T j) o.dst v
 |[],ts,ts',cs,hs=>by
  obtain⟨rfl,rfl⟩:=hs;exact⟨λ_=>ts',rfl,rfl,rfl,λj o ho=>by simp at ho⟩
 |o::r,ts,ts',cs,hs=>by
  obtain⟨v,c,cs1,bY,rfl,hr⟩:=hs;obtain⟨T,hT,Uj,hl,hrow⟩:=hr.row;refine⟨λi=>match i with| 0=>ts|i+1=>T i,rfl,Uj,by simp[hl],λj x hx=>?_⟩;cases j with
  |zero=>simp at hx;subst hx;exact⟨v,c,rfl,bY,hT⟩
  |succ j=>
   obtain⟨v',c',h1,h2,h3⟩:=hrow j x (by simpa using hx);exact⟨v',c',by simpa using h1,h2,h3⟩
def ee:ah->List Acc->ah
 |h,[]=>h
 |h,c::cs=>ee (c.app h) cs
def fy:List Acc->Prop
 |[]=>True
 |c::cs=>(∀b,c.ep=some b->∀x∈cs,x.ep=some b->∀k k',c=Acc.wr b k\/x=Acc.wr b k'->False)/\fy cs
theorem fy.ne:∀{cs:List Acc},fy cs->∀{i j b:Nat}{k:ak}{c:Acc},cs[i]? =some (.wr b k)->i≠j->cs[j]? =some c->c.ep≠some b
 |[],_,i,j,b,k,c,h1,_,_=>by simp at h1
 |x::xs,h,i,j,b,k,c,h1,hij,h2=>by
  intro hc;cases i with
  |zero=>
   simp at h1;subst h1;cases j with
   |zero=>exact hij rfl
   |succ j=>exact h.1 b rfl c (aaW (by simpa using h2)) hc k k (.inl rfl)
  |succ i=>
   cases j with
   |zero=>
    simp at h2;subst h2;exact h.1 b hc _ (aaW (by simpa using h1)) rfl k k (.inr rfl)
   |succ j=>exact fy.ne h.2 (i:=i) (j:=j) (by simpa using h1) Om (by simpa using h2) hc
def uS(h:ah)(c:Acc):(c.app h).length=h.length:=by cases c<;>simp[Acc.app]
def yP{h:ah}{c:Acc}{b:Nat}(hb:∀k,c=.wr b k->False):(c.app h)[b]? =h[b]? :=by
 cases c with
 |wr b' k=>
  have:b'≠b:=λe=>hb k (by rw[e])
  simp[Acc.app,aaj this]
 |_=>rfl
theorem qe:∀{cs:List Acc}{h:ah}{b:Nat},(∀(j:Nat) (k:ak),cs[j]? =some (Acc.wr b k)->False)->(ee h cs)[b]? =h[b]?
 |[],h,b,_=>rfl
 |c::cs,h,b,hb=>by
  rw[ee,qe (λj k hj=>hb (j+1) k (by simpa using hj))];exact yP λk hk=>hb 0 k (by simp[hk])
theorem ug:∀{cs:List Acc}{h:ah},fy cs->∀{j b:Nat}{k:ak},b<h.length->cs[j]? =some (.wr b k)->(ee h cs)[b]? =some k
 |[],h,_,j,b,k,_,hj=>by simp at hj
 |c::cs,h,ho,j,b,k,hb,hj=>by
  cases j with
  |zero=>
   simp at hj;subst hj;rw[ee,qe (λj k' hj=>fy.ne ho (i:=0) (j:=j+1) (b:=b) (k:=k) rfl Om (by simpa using hj) rfl)];simp[Acc.app,hb]
  |succ j=>
   rw[ee];exact ug ho.2 (by rw[uS];exact hb) (by simpa using hj)
structure zX(h:ah)(cs:List Acc)(S:Nat->Bool)(g:ah):Prop where
 len:g.length=h.length
 wr:∀j b k,S j=true->cs[j]? =some (.wr b k)->g[b]? =some k
 ne:∀b,(∀j k,S j=true->cs[j]? =some (.wr b k)->False)->g[b]? =h[b]?
def zX.all{h g:ah}{cs:List Acc}{S:Nat->Bool}(H:zX h cs S g)(ho:fy cs)(hS:∀j c,cs[j]? =some c->S j=true):g=ee h cs:=by
 apply acr
 intro b;by_cases hx:∃(j:Nat) (k:ak),cs[j]? =some (Acc.wr b k)
 ·obtain⟨j,k,hj⟩:=hx;have h1:=H.wr j b k (hS j _ hj) hj;have:b<h.length:=by rw[<-H.len];exact(Z2.1 h1).1
  rw[h1,ug ho this hj]
 ·rw[H.ne b λj k _ hj=>hx ⟨j,k,hj⟩,qe λj k hj=>hx ⟨j,k,hj⟩]
def uz{P:Program}(hmix:P.follows .mixedOrders=true){ops:Array Oper}{l:List bL}(hed:kY (Region.before ops) ops=true)(hsl:mC (Region.before ops) ops=true)
  (hc:fj (λ_ o=>bX P ops false o) ops.toList 0=some l) {ts ts':TS}{h:ah}{cs:List Acc}(hs:Bk l ts h cs ts') (hok:fy cs) {m:cj}{a:Act}{w:World}
  (st:St P m ts h a w) (ro:Option Nat) (Q:Exit->Act->World->Prop) (hQ:∀m' a' w',St P m' ts' (ee h cs) a' w'->Grow m h w m' (ee h cs) w'->a'.defers=a.defers->Q .normal a' w') (id:Nat):
  (Code.region id ops true).wpIn (Fd ro) 0 P Q a w:=by
 refine wpIn_region_any hmix ?_;obtain⟨T,rfl,rfl,hcl0,hrow⟩:=hs.row;obtain⟨S2,SR⟩:=gG hc;simp only[ace]at S2;have Xm:∀(j:Nat) (io:bL),l[j]? =some io->∃o,ops[j]? =some o/\bX P ops false o=some io:=λj io hj=>by
  exact N5
 have TZ:∀(j:Nat) (io:bL) (d:Nat),l[j]? =some io->io.dst=some d->∃o,ops[j]? =some o/\o.dst=some d:=λj io d hj hd=>by
  exact NV
 have huniq:∀(i j:Nat) (oi oj:bL) (d:Nat),l[i]? =some oi->l[j]? =some oj->oi.dst=some d->oj.dst=some d->i=j:=λi j oi oj d hi hj h1 h2=>by
  exact N7
 have hTl:∀j,j<=l.length->(T j).length=(T 0).length:=by
  intro j
  induction j with
  |zero=>intro _;rfl
  |succ j ih=>
   intro hj;obtain⟨v,c,_,_,hv⟩:=hrow j _ (Z6 (show j<l.length by omega));rw[hv,nG];exact ih Om
 have SX:∀x y t,x<=y->y<=l.length->(∀(j:Nat) (o:bL),x<=j->j<y->l[j]? =some o->o.dst≠some t)->(T y).getD t az=(T x).getD t az:=by
  intro x y t hxy hy hno;have:=vg (T:=T) (t:=t) (a:=x) (y-x) (λj h1 h2=>by
   have hj:l[j]? =some (l[j]'Om):=Z6 Om;obtain⟨v,c,_,_,hv⟩:=hrow j _ hj;exact⟨_,v,hv,hno j _ h1 Om hj⟩)
  rwa [show x+(y-x)=y from by omega]at this
 have hdone:∀(listed:Array Bool) (g:ah) (a1:Act) (w1:World),(∀i,i<ops.size->listed.getD i false=true)->zX h cs (λj=>listed.getD j false) g->HR P m g w1->Grow m h w m g w1->a1.tmps.size=(T 0).length->
   (∀(d:Nat),(∀(j:Nat) (o:bL),l[j]? =some o->listed.getD j false=true->o.dst≠some d)->VR m ((T 0).getD d az) (a1.tmps.getD d undef))->
   (∀(d j:Nat) (o:bL),l[j]? =some o->listed.getD j false=true->o.dst=some d->VR m ((T (j+1)).getD d az) (a1.tmps.getD d undef))->a1.defers=a.defers->Q .normal a1 w1:=by
  intro listed g a1 w1 hall H hr hg eQ h1 h2 hd;have e:=H.all hok λj c hj=>hall j (by have:=(Z2.1 hj).1;omega)
  subst e;refine hQ m a1 w1 ⟨hr,cL.iL ?_ ?_⟩ hg hd
  ·exact HG
  ·intro t x hx;exact RG
 have key:∀(fuel:Nat) (listed:Array Bool) (g:ah) (a1:Act) (w1:World),listed.size=ops.size->rq listed ops.size<=fuel->
   (∀j x,listed.getD j false=true->x<ops.size->ahead (Region.before ops) x j=true->listed.getD x false=true)->
   zX h cs (λj=>listed.getD j false) g->HR P m g w1->Grow m h w m g w1->a1.tmps.size=(T 0).length->
   (∀(d:Nat),(∀(j:Nat) (o:bL),l[j]? =some o->listed.getD j false=true->o.dst≠some d)->VR m ((T 0).getD d az) (a1.tmps.getD d undef))->
   (∀(d j:Nat) (o:bL),l[j]? =some o->listed.getD j false=true->o.dst=some d->VR m ((T (j+1)).getD d az) (a1.tmps.getD d undef))->a1.defers=a.defers->wpAnyIn (Fd ro) 0 P .any ops Q fuel listed a1 w1:=by
  intro fuel
  induction fuel with
  |zero=>
   intro listed g a1 w1 SZ hu hcl H hr hg eQ h1 h2 hd;have hall:=lM ops.size (show rq listed ops.size=0 by omega);exact⟨mF SZ hall,hdone listed g a1 w1 hall H hr hg eQ h1 h2 hd⟩
  |succ fuel ih=>
   intro listed g a1 w1 SZ hu hcl H hr hg eQ h1 h2 hd;refine⟨λhrn=>hdone listed g a1 w1 (mE hed SZ hrn) H hr hg eQ h1 h2 hd,λi hi=>?_⟩;obtain⟨o,ho,TV,Ye⟩:=(jA SZ).1 hi;have hin:i<ops.size:=(aap.1 ho).1;obtain⟨io,hio,SV⟩:=SR i o (by simpa using ho);obtain⟨v,c,hci,bY,hTi⟩:=hrow i io hio;have hahead:∀x,x<ops.size->ahead (Region.before ops) x i=true->listed.getD x false=true:=λx hx ha=>by
    exact z37
   have UU:∀j x,(listed.setIfInBounds i true).getD j false=true->x<ops.size->ahead (Region.before ops) x j=true->(listed.setIfInBounds i true).getD x false=true:=by
    intro j x hj hx ha;exact NG
   have WH:rq (listed.setIfInBounds i true) ops.size<=fuel:=by
    exact NB
   have hslot:∀t,t∈o.looksAt ops->VR m ((T i).getD t az) (a1.tmps.getD t undef):=by
    intro t ht;exact z12
   have Vf:∀b,c.ep=some b->g[b]? =h[b]? :=λb hb=>H.ne b λj k hj YL=>by
    by_cases e1:j=i
    ·subst e1
     try simp only at hj
     rw[TV]at hj;cases hj
    ·exact fy.ne hok YL e1 hci hb
   refine fP ho SV hr.gv hr (by rw[eQ,hTl i Om]) hslot (bY.run (P:=P) Vf) ro _ Q ?_;intro cv v' m' w' Uj Um hr' Tc;have Tn:io.dst=o.dst:=(dE SV).1;have hm:m' =m:=by
    funext b;by_cases hb:b<g.length
    ·exact Tc.ext b hb
    ·have e1:m b=none:=by
      cases hx:m b with
      |none=>rfl
      |some e=>exact absurd (hr.cO b e hx) hb
     have e2:m' b=none:=by
      cases hx:m' b with
      |none=>rfl
      |some e=>exact absurd (by have:=hr'.cO b e hx;rwa [uS]at this) hb
     rw[e1,e2]
   subst hm;have hlt:(listed.setIfInBounds i true).getD i false=true:=by rw[dh Om,aai rfl]
   have hne:∀j,j≠i->(listed.setIfInBounds i true).getD j false=listed.getD j false:=λj hj=>by rw[dh Om,aab hj]
   have VU:(a1.put o.dst cv).tmps=iE a1.tmps o.dst cv:=by cases o.dst<;>rfl
   refine ih _ (c.app g) (a1.put o.dst cv) w' (by simp[SZ]) WH UU ⟨by rw[uS];exact H.len,?_,?_⟩ hr' (hg.trans Tc st.hr.cO) (by rw[VU,fA];exact eQ) ?_ ?_ (by rw[put_defers];exact hd)
   ·intro j b k hj YL
    try simp only at hj
    by_cases e1:j=i
    ·subst e1;rw[hci]at YL;cases YL;have:b<g.length:=by
      by_cases hb:b<g.length
      ·exact hb
      ·have e:=Vf b rfl;rcases bY with⟨_,h,_⟩|⟨_,hs3⟩
       ·cases h
       rcases hs3 with⟨_,h,_⟩|⟨_,_,_,_,_,_,h,_⟩|⟨n,aa,x,b',off,k',hk,ha,h,hs3⟩
       ·cases h
       ·cases h
       ·cases h;rw[hk]at hs3;rw[abX Om]at e;simp only[stepT,nM,ha,<-e]at hs3;cases hs3
     simp[Acc.app,this]
    ·rw[hne j e1]at hj;rw[yP λk' hk'=>by
      subst hk';exact fy.ne hok YL e1 hci rfl]
     exact H.wr j b k hj YL
   ·intro b hb;rw[yP λk' hk'=>hb i k' hlt (by rw[hci,hk'])];exact H.ne b λj k hj YL=>by
     try simp only at hj
     exact hb j k (by
      show(listed.setIfInBounds i true).getD j false=true;by_cases e1:j=i
      ·subst e1;exact hlt
      ·rw[hne j e1];exact hj) YL
   ·intro d hdn;have UO:o.dst≠some d:=by rw[<-Tn];exact hdn i io hio hlt
    rw[VU,dO UO];refine h1 d λj oj hj hl=>hdn j oj hj ?_
    exact NC
   ·intro d j oj hj hl Vz;by_cases e1:j=i
    ·subst e1;rw[hio]at hj;cases hj;rw[hTi,VU,<-Tn,Vz];have hvv:put (T j) (some d) v=put (T j) (some d) v':=by
      have:=Uj;rw[<-Tn,Vz]at this;exact this
     rw[hvv];exact lU (by rw[eQ,hTl j Om]) Um
    ·have UO:o.dst≠some d:=λhx=>by
      exact HJ
     rw[VU,dO UO];rw[hne j e1]at hl;exact h2 d j oj hj hl Vz
 have SQ:∀j,(Array.replicate ops.size false).getD j false=false:=λj=>by
  exact z75
 refine key ops.size (Array.replicate ops.size false) h a _ Si ?_ (λj x hj _ _=>by simp[SQ j]at hj) ⟨rfl,λj b k hj _=>by simp[SQ j]at hj,λb _=>rfl⟩ st.hr.drew (Grow.refl m _ w st.hr.cO).drew ?_ (λd _=>n8 st.ts d) (λd j o _ hj _=>by simp[SQ j]at hj) rfl
 ·exact NH
 ·exact D6
theorem Ev.s9{P ro}(hmix:P.follows .mixedOrders=true){l ts ts' h cs}(hs:Bk l ts h cs ts')(hok:fy cs):Ev P ro (.s9 l) ts h .normal ts' (ee h cs):=by
 refine Ev.of λcc hns hc m a w lo hlo st hm Q hQ=>?_
 cases cc with
 |region id ops draw=>
  rcases eI (by simpa only[compile]using hc)with⟨l',h1,hl⟩|⟨l',h1,hd,⟨l2,hl2⟩,hz⟩|⟨_,h1,_⟩<;>cases h1
  subst hd;simp only[cQ,aan]at hl2;split at hl2
  case isFalse=>cases hl2
  rename_i Tq;simp only[aaD]at Tq;exact uz hmix Tq.1 Tq.2 hz hs hok st ro Q (λm' a' w' s g d=>hQ m' a' w' s g (by rw[d];exact hm.grow g st.hr.cO)) id
 |scope a=>exact absurd rfl (hns a)
 |block id a=>simp[compile]at hc
 |loop a=>simp[compile]at hc
 |_=>
  exact BA
def DN(cs:List Acc):Acc->List Acc
 |.no=>cs
 |c=>cs++[c]
def Be{cs c}(hc:c≠.no):DN cs c=cs++[c]:=by cases c<;>first|exact absurd rfl hc|rfl
def Bu(h:ah):List bL->TS->List Acc->(TS->List Acc->Prop)->Prop
 |[],ts,cs,K=>K ts cs
 |o::r,ts,cs,K=>∃v c,xP o ts h v c/\Bu h r (put ts o.dst v) (DN cs c) K
theorem qd:∀{a b c},(∀x∈b,x=Acc.no)->fy (a++c)->fy (a++b++c)
 |[],[],c,_,h=>h
 |[],x::b,c,hb,h=>by
  have hx:=hb x Si;subst hx;exact⟨λn hn=>by(cases hn),by simpa using qd (a:=[]) (b:=b) (λy hy=>hb y (aaH _ hy)) h⟩
 |x::a,b,c,hb,h=>by
  refine⟨λn hn y hy hyn k k' hk=>?_,qd (a:=a) hb h.2⟩;rcases aac.1 hy with hy|hy
  ·rcases aac.1 hy with hy|hy
   ·exact h.1 n hn y (aac.2 (.inl hy)) hyn k k' hk
   ·rw[hb y hy]at hyn;cases hyn
  ·exact h.1 n hn y (aac.2 (.inr hy)) hyn k k' hk
theorem Bu.sound{h}:∀{l}{ts}{cs}{K},Bu h l ts cs K->∃VO ZZ ts',Bk l ts h VO ts'/\K ts' (cs++ZZ)/\(∀(a c:List Acc),fy (a++ZZ++c)->fy (a++VO++c))/\(∀g,ee g VO=ee g ZZ)
 |[],ts,cs,K,H=>⟨[],[],ts,⟨rfl,rfl⟩,by rw[aaw];exact H,λ_ _ h=>h,λ_=>rfl⟩
 |o::r,ts,cs,K,H=>by
  obtain⟨v,c,h1,H⟩:=H;obtain⟨VO,ZZ,ts',h2,h3,h4,h5⟩:=Bu.sound (l:=r) H;by_cases hc:c=.no
  ·subst hc;refine⟨.no::VO,ZZ,ts',⟨v,.no,VO,h1,rfl,h2⟩,h3,λa d hd=>?_,λg=>h5 g⟩;have:=qd (a:=a) (b:=[.no]) (c:=VO++d) Si (by simpa using h4 a d hd)
   simpa using this
  ·rw[Be hc]at h3;refine⟨c::VO,c::ZZ,ts',⟨v,c,VO,h1,rfl,h2⟩,by simpa using h3,λa d hd=>?_,λg=>by rw[ee,ee,h5]⟩;have:=h4 (a++[c]) d (by simpa using hd)
   simpa using this
theorem Bu.mono{h}:∀{l}{ts}{cs}{K K'},Bu h l ts cs K->(∀ts' cs',K ts' cs'->K' ts' cs')->Bu h l ts cs K'
 |[],ts,cs,K,K',H,hk=>hk _ _ H
 |o::r,ts,cs,K,K',H,hk=>by
  obtain⟨v,c,h1,H⟩:=H;exact⟨v,c,h1,Bu.mono (l:=r) H hk⟩
end Go.Abs
