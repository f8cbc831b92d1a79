/- A part of the proof that HouseLogs holds. No condition. -/
import Derived.Test.YtgplmdgpmbegiaaGreatDoorLo2
import Derived.RangeFuncRecord
import Derived.Test.YtgplmdgpmbegiaaGreatDoorLo0
set_option maxHeartbeats 4000000
set_option linter.all false
namespace Go.Abs
def oX(listed:Array Bool):Nat->Nat
 | 0=>0
 |n+1=>oX listed n+(if listed.getD n false then 0 else 1)
def cM{listed:Array Bool}{i j:Nat}(hi:i<listed.size):(listed.setIfInBounds i true).getD j false=(if j=i then true else listed.getD j false):=by
 by_cases h:j=i
 ·subst h;simp[UW,Vt hi]
 ·rw[Ur h];simp[UW,VX (Wy h)]
theorem zj{listed:Array Bool}{i:Nat}(hi:i<listed.size):∀n,n<=i->oX (listed.setIfInBounds i true) n=oX listed n
 | 0,_=>rfl
 |n+1,h=>by
  simp only[oX];rw[zj hi n Om,cM hi,Ur (by omega:¬n=i)]
theorem zi{listed:Array Bool}{i:Nat}(hi:i<listed.size)(hn:listed.getD i false=false):∀n,i<n->oX (listed.setIfInBounds i true) n+1=oX listed n
 | 0,h=>absurd h Om
 |n+1,h=>by
  simp only[oX];rw[cM hi];by_cases e:n=i
  ·subst e;rw[zj hi n (Uq _),Ut rfl,hn];simp
  ·rw[Ur e];have:=zi hi hn n Om;omega
theorem jR{listed}:∀n,oX listed n=0->∀i,i<n->listed.getD i false=true
 | 0,_,i,hi=>absurd hi Om
 |n+1,h,i,hi=>by
  simp only[oX]at h;by_cases e:i=n
  ·subst e;cases hl:listed.getD i false with
   |true=>rfl
   |false=>rw[hl]at h;simp at h
  ·exact jR n Om i Om
def bH.da(m:bH)(n:Nat):bH:=λb=>if b<n then m b else none
def bH.patch(m1 m:bH)(n:Nat):bH:=λb=>if b<n then m1 b else m b
mutual
theorem VR.cut{ma m n}(hd:∀b e,ma b=some e->b<n):∀(x:AV) (va v:Value),VR ma x va->VR m x v->VR (m.da n) x v
 |.bool _,_,_,_,hv=>hv
 |.int _ _,_,_,_,hv=>hv
 |.uS _ _,_,_,_,hv=>hv
 |.uE _ _ _,_,_,_,hv=>hv
 |.str _,_,_,_,hv=>hv
 |.ptr b o,va,v,ha,hv=>by
  exact M9
 |.nilPtr,_,_,_,hv=>hv
 |.slice b o n' es,va,v,ha,hv=>by
  rw[VR]at ha hv ⊢;obtain⟨e,_,_,he,_⟩:=ha;obtain⟨e',ca,cap,Pd,hv⟩:=hv;exact⟨e',ca,cap,by unfold bH.da;rw[Ut (hd _ _ he)];exact Pd,hv⟩
 |.ah,_,_,_,hv=>hv
 |.map r,va,v,ha,hv=>by
  exact M9
 |.cQ,_,_,_,hv=>hv
 |.func f a c,va,v,ha,hv=>by
  rw[VR]at ha hv ⊢;obtain⟨f1,a1,c1,_,Re,ha1,hc1⟩:=ha;obtain⟨f2,a2,c2,hv,QA,ha2,S7⟩:=hv;refine⟨f2,a2,c2,hv,?_,cw.cut hd a _ _ ha1 ha2,cw.cut hd c _ _ hc1 S7⟩;cases f<;>simp only[y0]at Re QA ⊢<;>try exact QA
  obtain⟨e,he,_⟩:=Re;obtain⟨e',Pd,hg⟩:=QA;exact⟨e',by unfold bH.da;rw[Ut (hd _ _ he)];exact Pd,hg⟩
 |.nilFunc,_,_,_,hv=>hv
 |.sN u a,va,v,ha,hv=>by
  rw[VR]at ha hv ⊢;obtain⟨v1,_,h1⟩:=ha;obtain⟨v2,hv,h2⟩:=hv;exact⟨v2,hv,VR.cut hd a _ _ h1 h2⟩
 |.ju,_,_,_,hv=>hv
 |.agg l,va,v,ha,hv=>by
  exact MY
 |.dt l,va,v,ha,hv=>by
  exact MY
theorem cw.cut{ma m n}(hd:∀b e,ma b=some e->b<n):∀(l:List AV) (va vs:List Value),cw ma l va->cw m l vs->cw (m.da n) l vs
 |[],_,_,_,hv=>hv
 |x::xs,va,vs,ha,hv=>by
  obtain⟨y1,ys1,_,a1,a2⟩:=aF.1 ha;obtain⟨y2,ys2,h,b1,b2⟩:=aF.1 hv;exact aF.2 ⟨y2,ys2,h,VR.cut hd x _ _ a1 b1,cw.cut hd xs _ _ a2 b2⟩
end
def gT(n:Nat)(x:AV):Prop:=∃(ma:bH) (va:Value),(∀b e,ma b=some e->b<n)/\VR ma x va
def JP(n:Nat)(l:List AV):Prop:=∃(ma:bH) (va:List Value),(∀b e,ma b=some e->b<n)/\cw ma l va
def oh(n:Nat):ai->Prop
 |.cells c _ _=>∀(i:Nat) (x:AV),c[i]? =some x->gT n x
 |.aN es=>∀(i:Nat) (p:AV×AV),es[i]? =some p->gT n p.1/\gT n p.2
 |.loop _ _ ts _ _ _=>JP n ts
 |_=>True
def gT.mono{n k}(hnk:n<=k){x}(h:gT n x):gT k x:=by
 exact Ic
theorem oh.mono{n k}(hnk:n<=k){x}(h:oh n x):oh k x:=by
 cases x with
 |cells c mu tl=>exactλi x hx=>(h i x hx).mono hnk
 |aN es=>exactλi p hp=>⟨(h i p hp).1.mono hnk,(h i p hp).2.mono hnk⟩
 |loop a b c d e f=>
  exact Ic
 |_=>trivial
def BR.gT{P m w e k n}(h:BR P m w e k)(hd:∀b e,m b=some e->b<n):oh n k:=by
 cases k with
 |cells c mu tl=>
  obtain⟨cc,el,fz,_,_,h3,_⟩:=h;intro i x hx;obtain⟨_,v,_,hv⟩:=h3 i x hx;exact⟨m,v,hd,hv⟩
 |aN es=>
  obtain⟨_,P8,clock,_,_,h3⟩:=h;intro i p hp;obtain⟨q,_,h1,h2⟩:=h3 i p hp;exact⟨⟨m,_,hd,h1⟩,⟨m,_,hd,h2⟩⟩
 |loop st ex ts ps asg body=>
  obtain⟨_,fn,tmps,Pb,OM,df,_,h2,_⟩:=h;exact⟨m,_,hd,h2⟩
 |_=>trivial
theorem BR.cut{P m w e k n}(h:BR P m w e k)(hc:oh n k):BR P (m.da n) w e k:=by
 cases k with
 |cells c mu tl=>
  obtain⟨cc,el,fz,h1,h2,h3,h4⟩:=h;exact⟨cc,el,fz,h1,h2,λi x hx=>by
   obtain⟨ho,v,hv,hr⟩:=h3 i x hx;obtain⟨ma,va,hd,ha⟩:=hc i x hx;exact⟨ho,v,hv,VR.cut hd _ _ _ ha hr⟩,h4⟩
 |dead=>trivial
 |aN es=>
  obtain⟨ho,P8,clock,h1,h2,h3⟩:=h;exact⟨ho,P8,clock,h1,h2,λi p hp=>by
   obtain⟨q,hq,ha,hb⟩:=h3 i p hp;obtain⟨⟨ma,va,hd,SA⟩,⟨mb,vb,OR,hb'⟩⟩:=hc i p hp;exact⟨q,hq,VR.cut hd _ _ _ SA ha,VR.cut OR _ _ _ hb' hb⟩⟩
 |iter s pos=>exact h
 |loop st ex ts ps asg body=>
  obtain⟨ho,fn,tmps,Pb,OM,df,h1,h2,h3,h4⟩:=h;obtain⟨ma,va,hd,ha⟩:=hc;exact⟨ho,fn,tmps,Pb,OM,df,h1,cw.cut hd _ _ _ ha h2,h3,h4⟩
structure qm(P:Program)(l:List bo)(T:Nat->TS)(H:Nat->af)(m0:bH)(w0:World)(S:Nat->Bool)(β θ:Nat)(m:bH)(ta:Array Value)(w:World):Prop where
 βθ:β<=θ
 θn:θ<=l.length
 low:∀j,j<β->S j=true
 high:∀j,S j=true->j<θ
 quiet:∀j,β<=j->j<θ->∃g,H (j+1)=H j++g
 len:∀j,j<θ->(H j).length<=(H (j+1)).length
 hr:HR P m (H θ) w
 Kp:∀j,j<θ->S j=false->∀b,(H j).length<=b->b<(H (j+1)).length->m b=none
 gT:∀i,β<=i->i<=θ->∀b e k,b<(H i).length->m b=some e->(H θ)[b]? =some k->oh (H i).length k
 apart:∀j,β<=j->j<θ->∀b b' e e',(H j).length<=b->b<(H (j+1)).length->¬((H j).length<=b'/\b'<(H (j+1)).length)->m b=some e->m b' =some e'->e.cb≠e'.cb
 grow:Grow m0 (H 0) w0 m (H θ) w
 size:ta.size=(T 0).length
 wD:∀d,(∀j o,l[j]? =some o->S j=true->o.dst≠some d)->VR m0 ((T 0).getD d au) (ta.getD d undef)
 wC:∀d j o,l[j]? =some o->S j=true->o.dst=some d->VR (m.da (H (j+1)).length) ((T (j+1)).getD d au) (ta.getD d undef)
theorem tR{H:Nat->af}{θ:Nat}(h:∀j,j<θ->(H j).length<=(H (j+1)).length){i:Nat}:∀k,i+k<=θ->(H i).length<=(H (i+k)).length
 | 0,_=>Uq _
 |k+1,hk=>Vk (tR h k Om) (h (i+k) Om)
def fi{H:Nat->af}{θ:Nat}(h:∀j,j<θ->(H j).length<=(H (j+1)).length){i j:Nat}(hij:i<=j)(hj:j<=θ):(H i).length<=(H j).length:=by
 have:=tR h (i:=i) (j-i) Om
 rwa [show i+(j-i)=j from by omega]at this
theorem qE{H:Nat->af}{β θ:Nat}(h:∀j,β<=j->j<θ->∃g,H (j+1)=H j++g){i:Nat}(hi:β<=i):∀k,i+k<=θ->∃g,H (i+k)=H i++g
 | 0,_=>⟨[],Si⟩
 |k+1,hk=>by
  obtain⟨g,hg⟩:=qE h hi k Om;obtain⟨g',OG⟩:=h (i+k) Om Om;exact⟨g++g',by rw[show i+(k+1)=i+k+1 from by omega,OG,hg,Uf]⟩
def la{H:Nat->af}{β θ:Nat}(h:∀j,β<=j->j<θ->∃g,H (j+1)=H j++g){i j:Nat}(hi:β<=i)(hij:i<=j)(hj:j<=θ):∃g,H j=H i++g:=by
 have:=qE h hi (j-i) Om
 rwa [show i+(j-i)=j from by omega]at this
theorem uh{H:Nat->af}{i:Nat}:∀(k:Nat) {b:Nat},(H i).length<=b->b<(H (i+k)).length->∃j,i<=j/\j<i+k/\(H j).length<=b/\b<(H (j+1)).length
 | 0,b,h1,h2=>by simp at h2;omega
 |k+1,b,h1,h2=>by
  by_cases h:b<(H (i+k)).length
  ·obtain⟨j,a1,a2,a3⟩:=uh k h1 h;exact⟨j,a1,Om,a3⟩
  ·exact⟨i+k,Om,Om,Om,by rw[show i+k+1=i+(k+1)from by omega];exact h2⟩
section
variable {P:Program}{m m1:bH}{h:af}{w:World}
def bH.eI(m:bH)(n:Nat):(m.da n).le m:=by
 intro b e hb;unfold bH.da at hb;split at hb
 ·exact hb
 ·cases hb
def bH.x8(m:bH){n k}(hnk:n<=k):(m.da n).le (m.da k):=by
 intro b e hb;unfold bH.da at hb ⊢;split at hb
 ·rw[Ut Om];exact hb
 ·cases hb
theorem HR.da{g}(hr:HR P m (h++g) w)(hgl:P.globals.size<=h.length)(hc:∀b e k,b<h.length->m b=some e->h[b]? =some k->oh h.length k):HR P (m.da h.length) h w where
 cD:=λb e hb=>by unfold bH.da at hb;split at hb<;>first|assumption|cases hb
 dU:=λb e k hb hk=>by
  unfold bH.da at hb;split at hb
  case isFalse=>cases hb
  rename_i hlt;exact(hr.dU b e k hb (by rw[Ug hlt];exact hk)).cut (hc b e k hlt hb hk)
 sep:=λb1 b2 e1 e2 k1 k2 hne h1 h2 hk1 Oi hcb=>by
  have d1:b1<h.length:=(Ue.1 hk1).1;have d2:b2<h.length:=(Ue.1 Oi).1;exact hr.sep b1 b2 e1 e2 k1 k2 hne (bH.eI m _ _ _ h1) (bH.eI m _ _ _ h2) (by rw[Ug d1];exact hk1) (by rw[Ug d2];exact Oi) hcb
 fG:=λg hg=>by
  obtain⟨e,he,hx⟩:=hr.fG g hg;exact⟨e,by unfold bH.da;rw[Ut Om];exact he,hx⟩
 lt:=λb e hb=>hr.lt b e (bH.eI m _ _ _ hb)
def HR.EH(hr:HR P m h w):P.globals.size<=h.length:=by
 by_cases hz:P.globals.size=0
 ·omega
 ·obtain⟨e,he,_⟩:=hr.fG (P.globals.size-1) Om;have:=hr.cD _ _ he;omega
variable {l:List bo}{T:Nat->TS}{H:Nat->af}{m0:bH}{w0:World}{S:Nat->Bool}{β θ:Nat}{ta:Array Value}
def qm.raise(M:qm P l T H m0 w0 S β θ m ta w){θ':Nat}(h1:θ<=θ')(h2:θ'<=l.length)(hq:∀j,θ<=j->j<θ'->∃g,H (j+1)=H j++g):qm P l T H m0 w0 S β θ' m ta w:=by
 have SR:∀j,β<=j->j<θ'->∃g,H (j+1)=H j++g:=λj hj Sr=>by
  by_cases hx:j<θ
  ·exact M.quiet j hj hx
  ·exact hq j Om Sr
 have hlen:∀j,j<θ'->(H j).length<=(H (j+1)).length:=λj hj=>by
  by_cases hx:j<θ
  ·exact M.len j hx
  ·obtain⟨g,hg⟩:=hq j Om hj;rw[hg];simp
 obtain⟨g,hg⟩:=la SR M.βθ h1 (Uq _);have Ov:∀b,b<(H θ).length->(H θ')[b]? =(H θ)[b]? :=λb hb=>by rw[hg,Ug hb]
 have hdom:∀b e,m b=some e->b<(H θ).length:=M.hr.cD;refine⟨Vk M.βθ h1,h2,M.low,λj hj=>Vg (M.high j hj) h1,SR,hlen,⟨?_,?_,?_,M.hr.fG,M.hr.lt⟩,?_,?_,?_,⟨M.grow.ext,fi hlen (UK _) (Uq _),?_,?_,M.grow.size,M.grow.os,M.grow.out,M.grow.tape,M.grow.frame⟩,M.size,M.wD,M.wC⟩
 ·intro b e hb;have:=hdom b e hb;rw[hg];simp;omega
 ·intro b e k hb hk;exact M.hr.dU b e k hb (by rwa [Ov b (hdom b e hb)]at hk)
 ·intro b1 b2 e1 e2 k1 k2 hne a1 a2 hk1 Oi hcb;exact M.hr.sep b1 b2 e1 e2 k1 k2 hne a1 a2 (by rwa [Ov b1 (hdom _ _ a1)]at hk1) (by rwa [Ov b2 (hdom _ _ a2)]at Oi) hcb
 ·intro j hj hs b hb hb';by_cases hx:j<θ
  ·exact M.Kp j hx hs b hb hb'
  ·cases Pg:m b with
   |none=>rfl
   |some e=>
    exact H9
 ·intro i hi hi' b e k hb Pg hk;rw[Ov b (hdom b e Pg)]at hk;by_cases hx:i<=θ
  ·exact M.gT i hi hx b e k hb Pg hk
  ·have a2:=fi hlen (i:=θ) (j:=i) Om Om;exact(M.gT θ M.βθ (Uq _) b e k (hdom b e Pg) Pg hk).mono a2
 ·intro j hj Sr b b' e e' hb O7 hb' Pg RD;by_cases hx:j<θ
  ·exact M.apart j hj hx b b' e e' hb O7 hb' Pg RD
  ·exact H9
 ·intro b e hb Pg;obtain⟨ho,hc⟩:=M.grow.new b e hb Pg;refine⟨ho,hc.imp id ?_⟩;rintro⟨b0,e0,c1,c2,c3,c4,c5⟩;refine⟨b0,e0,c1,c2,c3,c4,?_⟩;have d0:b0<(H θ).length:=by
   cases hx:m0 b0 with
   |none=>rw[hx]at c1;cases c1
   |some e0'=>
    have:b0<(H 0).length:=by
     cases ht:(H 0)[b0]? with
     |none=>unfold dP at c4;rw[ht]at c4;cases c4
     |some k=>exact(Ue.1 ht).1
    exact Vg this (fi hlen (UK _) h1)
  unfold dP at c5 ⊢;rw[Ov b0 d0];exact c5
 ·intro b hb ht;refine M.grow.tl b hb ?_;unfold dP at ht ⊢
  rwa [Ov b (Vg hb (fi hlen (UK _) h1))]at ht
end
def fY(ta:Array Value)(d:Option Nat)(cv:Value):Array Value:=
 match d with
 |some d=>ta.setIfInBounds d cv
 |none=>ta
def ep(ta:Array Value)(d:Option Nat)(cv:Value):(fY ta d cv).size=ta.size:=by cases d<;>simp[fY]
def cZ{ta d cv t}(h:d≠some t):(fY ta d cv).getD t undef=ta.getD t undef:=by
 cases d with
 |none=>rfl
 |some d=>
  have hne:d≠t:=λx=>h (by rw[x])
  simp[fY,UW,VX hne]
def vG{ts d v t}(h:d≠some t):(put ts d v).getD t au=ts.getD t au:=by
 cases d with
 |none=>rfl
 |some d=>
  have hne:d≠t:=λx=>h (by rw[x])
  simp[put,List.getD,U1 hne]
def jV{m ts ta d v cv}(hs:ta.size=ts.length)(hv:VR m v cv):VR m ((put ts (some d) v).getD d au) ((fY ta (some d) cv).getD d undef):=by
 by_cases h:d<ts.length
 ·have h':d<ta.size:=Om
  simp only[put,fY,List.getD,UW];rw[UY h,Vt h'];exact hv
 ·have h':¬d<ta.size:=Om
  simp only[put,fY,List.getD,UW];rw[Wc (by simp;omega),VP (by simp;omega)];exact iV m
def mark(S:Nat->Bool)(i:Nat):Nat->Bool:=λj=>if j=i then true else S j
section
variable {P:Program}{l:List bo}{T:Nat->TS}{H:Nat->af}{m0 m m1:bH}{w0 w w1:World}{S:Nat->Bool}{β θ i:Nat}{ta:Array Value}
def qm.cut(M:qm P l T H m0 w0 S β θ m ta w)(hG:P.globals.size<=(H 0).length)(hi:β<=i)(hi':i<=θ):HR P (m.da (H i).length) (H i) w:=by
 obtain⟨g,hg⟩:=la M.quiet hi hi' (Uq _);have hr:HR P m (H i++g) w:=by rw[<-hg];exact M.hr
 refine hr.da (Vk hG (fi M.len (UK _) hi')) ?_;intro b e k hb Pg hk;exact M.gT i hi hi' b e k hb Pg (by rw[hg,Ug hb];exact hk)
def qm.Ew(M:qm P l T H m0 w0 S β θ m ta w)(hG:P.globals.size<=(H 0).length)(hi:β<=i)(hi':i<θ)(hS:S i=false){io}(hio:l[i]? =some io)
  (hr1:HR P m1 (H (i+1)) w1) (gext:∀b,b<(H i).length->m1 b=(m.da (H i).length) b) (hnew0:∀b e,(H i).length<=b->m1 b=some e->e.own=true/\w0.heap.size<=e.cb/\∀b' e',m b' =some e'->e'.cb≠e.cb)
  (hfr:∀x,x<w.heap.size->(∀b e,(m.da (H i).length) b=some e->e.own=true->e.cb≠x)->(∀b e,(H i).length<=b->m1 b=some e->e.cb≠x)->w1.heap[x]? =w.heap[x]?)
  (dO:w.heap.size<=w1.heap.size) (hos:w1.os=w.os) (hout:w1.output=w.output) (htape:w1.tape=w.tape) {v}{cv}(hv:VR m1 v cv) (hTi:T (i+1)=put (T i) io.dst v) (hTl:(T i).length=(T 0).length)
  (huniq:∀j o d,j≠i->l[j]? =some o->o.dst=some d->io.dst≠some d):qm P l T H m0 w0 (mark S i) β θ (m1.patch m (H (i+1)).length) (fY ta io.dst cv) w1:=by
 have PE:∀a b,a<=b->b<=θ->(H a).length<=(H b).length:=λa b hab hb=>fi M.len hab hb
 have hi1:=M.len i hi';have hi2:=PE (i+1) θ Om (Uq _);have h0i:=PE 0 i Om Om;obtain⟨gi,hgi⟩:=M.quiet i hi hi';obtain⟨gt,Q0⟩:=la M.quiet (show β<=i+1 by omega) (show i+1<=θ by omega) (Uq _);have f3:∀b,b<(H (i+1)).length->(m1.patch m (H (i+1)).length) b=m1 b:=λb hb=>by unfold bH.patch;rw[Ut hb]
 have f1:∀b,b<(H i).length->(m1.patch m (H (i+1)).length) b=m b:=λb hb=>by
  rw[f3 b Om,gext b hb];unfold bH.da;rw[Ut hb]
 have f2:∀b,(H (i+1)).length<=b->(m1.patch m (H (i+1)).length) b=m b:=λb hb=>by unfold bH.patch;rw[Ur Om]
 have fgap:∀b,(H i).length<=b->b<(H (i+1)).length->m b=none:=M.Kp i hi' hS;have Qq:m.le (m1.patch m (H (i+1)).length):=λb e hb=>by
  by_cases h1:b<(H i).length
  ·rw[f1 b h1];exact hb
  ·by_cases h2:b<(H (i+1)).length
   ·rw[fgap b Om h2]at hb;cases hb
   ·rw[f2 b Om];exact hb
 have m1le:m1.le (m1.patch m (H (i+1)).length):=λb e hb=>by rw[f3 b (hr1.cD b e hb)];exact hb
 have hnew:∀b e,(H i).length<=b->b<(H (i+1)).length->(m1.patch m (H (i+1)).length) b=some e->e.own=true/\w0.heap.size<=e.cb/\∀b' e',m b' =some e'->e'.cb≠e.cb:=λb e hb hb' hm=>by
  rw[f3 b hb']at hm;exact hnew0 b e hb hm
 have hold:∀b e,m b=some e->e.cb<w.heap.size:=M.hr.lt;have hframe:∀b e,(H (i+1)).length<=b->m b=some e->w1.heap[e.cb]? =w.heap[e.cb]? :=λb e hb hm=>by
  refine hfr e.cb (hold b e hm) ?_ (λb0 e0 h0 h1 hcb=>(hnew0 b0 e0 h0 h1).2.2 b e hm hcb.symm);intro b0 e0 h0 ho hcb;have d0:b0<(H i).length:=by
   unfold bH.da at h0;split at h0
   ·assumption
   ·cases h0
  obtain⟨j,j1,j2,j3,j4⟩:=uh (H:=H) (i:=i+1) (θ-(i+1)) hb (by rw[show i+1+(θ-(i+1))=θ from by omega];exact M.hr.cD b e hm);have hj:=PE i j Om Om;exact M.apart j Om Om b b0 e e0 j3 j4 (λx=>by omega) hm (bH.eI m _ _ _ h0) hcb.symm
 have Ov:∀b,b<(H (i+1)).length->(H θ)[b]? =(H (i+1))[b]? :=λb hb=>by rw[Q0,Ug hb]
 have Oz:∀b e,(m1.patch m (H (i+1)).length) b=some e->((H i).length<=b/\b<(H (i+1)).length/\m1 b=some e)\/(¬((H i).length<=b/\b<(H (i+1)).length)/\m b=some e):=λb e hb=>by
  by_cases h1:b<(H i).length
  ·rw[f1 b h1]at hb;exact .inr ⟨Om,hb⟩
  ·by_cases h2:b<(H (i+1)).length
   ·rw[f3 b h2]at hb;exact .inl ⟨Om,h2,hb⟩
   ·rw[f2 b Om]at hb;exact .inr ⟨Om,hb⟩
 have hHR:HR P (m1.patch m (H (i+1)).length) (H θ) w1:=by
  refine⟨?_,?_,?_,?_,?_⟩
  ·intro b e hb;rcases Oz b e hb with⟨_,h2,_⟩|⟨_,h2⟩
   ·omega
   ·exact M.hr.cD b e h2
  ·intro b e k hb hk;by_cases h2:b<(H (i+1)).length
   ·rw[f3 b h2]at hb;exact(hr1.dU b e k hb (by rwa [Ov b h2]at hk)).mono m1le
   ·rw[f2 b Om]at hb;exact((M.hr.dU b e k hb hk).mono Qq).heap (hframe b e Om hb)
  ·intro b1 b2 e1 e2 k1 k2 hne O7 O0 hk1 Oi hcb;rcases Oz b1 e1 O7 with⟨a1,a2,a3⟩|⟨a1,a2⟩
   ·rcases Oz b2 e2 O0 with⟨c1,c2,c3⟩|⟨c1,c2⟩
    ·exact hr1.sep b1 b2 e1 e2 k1 k2 hne a3 c3 (by rwa [Ov b1 a2]at hk1) (by rwa [Ov b2 c2]at Oi) hcb
    ·exact absurd hcb.symm ((hnew b1 e1 a1 a2 O7).2.2 b2 e2 c2)
   ·rcases Oz b2 e2 O0 with⟨c1,c2,c3⟩|⟨c1,c2⟩
    ·exact absurd hcb ((hnew b2 e2 c1 c2 O0).2.2 b1 e1 a2)
    ·exact M.hr.sep b1 b2 e1 e2 k1 k2 hne a2 c2 hk1 Oi hcb
  ·intro g hg;obtain⟨e,he,hx⟩:=M.hr.fG g hg;exact⟨e,Qq _ _ he,hx⟩
  ·intro b e hb;rcases Oz b e hb with⟨_,_,h3⟩|⟨_,h2⟩
   ·exact hr1.lt b e h3
   ·exact Vg (hold b e h2) dO
 refine⟨M.βθ,M.θn,?_,?_,M.quiet,M.len,hHR,?_,?_,?_,?_,by rw[ep];exact M.size,?_,?_⟩
 ·intro j hj;unfold mark;split
  ·rfl
  ·exact M.low j hj
 ·intro j hj;unfold mark at hj;split at hj
  ·omega
  ·exact M.high j hj
 ·intro j hj hs b hb hb';unfold mark at hs;split at hs
  ·cases hs
  rename_i hji;by_cases h1:b<(H i).length
  ·rw[f1 b h1];exact M.Kp j hj hs b hb hb'
  ·by_cases h2:b<(H (i+1)).length
   ·exact M0
   ·rw[f2 b Om];exact M.Kp j hj hs b hb hb'
 ·intro i2 hi2' SZ b e k hb Pg hk;rcases Oz b e Pg with⟨a1,a2,a3⟩|⟨_,a2⟩
  ·have hk':(H (i+1))[b]? =some k:=by rwa [Ov b a2]at hk
   refine((hr1.dU b e k a3 hk').gT hr1.cD).mono ?_;by_cases hlt:i2<i+1
   ·have:=PE i2 i Om Om;omega
   ·exact PE (i+1) i2 Om SZ
  ·exact M.gT i2 hi2' SZ b e k hb a2 hk
 ·intro j hj Sr b b' e e' hb O7 hb' Pg RD;rcases Oz b e Pg with⟨a1,a2,a3⟩|⟨a1,a2⟩
  ·rcases Oz b' e' RD with⟨c1,c2,c3⟩|⟨c1,c2⟩
   ·exfalso;by_cases hji:j=i
    ·subst hji;exact hb' ⟨c1,c2⟩
    ·exact M0
   ·exactλhcb=>(hnew b e a1 a2 Pg).2.2 b' e' c2 hcb.symm
  ·rcases Oz b' e' RD with⟨c1,c2,c3⟩|⟨c1,c2⟩
   ·exact(hnew b' e' c1 c2 RD).2.2 b e a2
   ·exact M.apart j hj Sr b b' e e' hb O7 hb' a2 c2
 ·refine⟨λb hb=>(f1 b Om).trans (M.grow.ext b hb),M.grow.len,?_,M.grow.tl,Vk M.grow.size dO,hos.trans M.grow.os,hout.trans M.grow.out,htape.trans M.grow.tape,?_⟩
  ·intro b e hb Pg;rcases Oz b e Pg with⟨a1,a2,_⟩|⟨_,a2⟩
   ·obtain⟨ho,hc⟩:=hnew b e a1 a2 Pg;exact⟨ho,.inl hc.1⟩
   ·exact M.grow.new b e hb a2
  ·intro x hx hno;refine(hfr x (Vg hx M.grow.size) ?_ (λb e hb hm hcb=>by have:=(hnew0 b e hb hm).2.1;omega)).trans (M.grow.frame x hx hno);intro b e hb ho hcb;have Pg:=bH.eI m _ _ _ hb;by_cases h1:b<(H 0).length
   ·exact hno b e (by rw[<-M.grow.ext b h1];exact Pg) ho hcb
   ·obtain⟨_,hc⟩:=M.grow.new b e Om Pg;rcases hc with hc|⟨b0,e0,c1,c2,c3,_⟩
    ·omega
    ·exact hno b0 e0 c1 c3 (c2.trans hcb)
 ·intro d hd;exact z75
 ·intro d j o hj hs ho;by_cases hji:j=i
  ·subst hji;rw[hio]at hj;cases hj;rw[hTi,ho];have h1:m1.le ((m1.patch m (H (j+1)).length).da (H (j+1)).length):=λb e hb=>by
    have:=hr1.cD b e hb;unfold bH.da;rw[Ut this,f3 b this];exact hb
   exact Hz
  ·exact Nq
def qm.next(M:qm P l T H m0 w0 S β θ m ta w)(hG:P.globals.size<=(H 0).length)(hi:β<=i)(hi':i<θ)(hS:S i=false){io}(hio:l[i]? =some io)
  (hr1:HR P m1 (H (i+1)) w1) (g1:Grow (m.da (H i).length) (H i) w m1 (H (i+1)) w1) {v}{cv}(hv:VR m1 v cv) (hTi:T (i+1)=put (T i) io.dst v) (hTl:(T i).length=(T 0).length)
  (huniq:∀j o d,j≠i->l[j]? =some o->o.dst=some d->io.dst≠some d):qm P l T H m0 w0 (mark S i) β θ (m1.patch m (H (i+1)).length) (fY ta io.dst cv) w1:=by
 obtain⟨gi,hgi⟩:=M.quiet i hi hi';refine M.Ew hG hi hi' hS hio hr1 g1.ext (λb e hb hm=>?_) (λx hx h1 _=>g1.frame x hx h1) g1.size g1.os g1.out g1.tape hv hTi hTl huniq;obtain⟨ho,hc⟩:=g1.new b e hb hm;have Py:w.heap.size<=e.cb:=by
  rcases hc with hc|⟨b0,e0,c1,_,_,c4,c5⟩
  ·exact hc
  ·have d0:b0<(H i).length:=by
    unfold bH.da at c1;split at c1
    ·assumption
    ·cases c1
   unfold dP at c4 c5;rw[hgi,Ug d0]at c5;rw[c5]at c4;cases c4
 exact⟨ho,Vk M.grow.size Py,λb' e' hb'=>by have:=M.hr.lt b' e' hb';omega⟩
def qm.jump(M:qm P l T H m0 w0 S β i m ta w)(hd0:∀b e,m0 b=some e->b<(H 0).length)(hall:∀j,j<i->S j=true)(hil:i<l.length){io}(hio:l[i]? =some io)
  (hr1:HR P m1 (H (i+1)) w1) (g1:Grow (m.da (H i).length) (H i) w m1 (H (i+1)) w1) {v}{cv}(hv:VR m1 v cv) (hTi:T (i+1)=put (T i) io.dst v) (hTl:(T i).length=(T 0).length)
  (huniq:∀j o d,j≠i->l[j]? =some o->o.dst=some d->io.dst≠some d):qm P l T H m0 w0 (mark S i) (i+1) (i+1) m1 (fY ta io.dst cv) w1:=by
 have hm:m.da (H i).length=m:=by
  funext b;unfold bH.da;split
  ·rfl
  ·cases hb:m b with
   |none=>rfl
   |some e=>exact absurd (M.hr.cD b e hb) (by assumption)
 rw[hm]at g1;have Qq:m.le m1:=g1.le M.hr.cD;refine⟨Uq _,hil,?_,?_,λj hj Sr=>absurd hj Om,?_,hr1,?_,?_,λj hj Sr=>absurd hj Om,M.grow.trans g1 hd0,by rw[ep];exact M.size,?_,?_⟩
 ·intro j hj;unfold mark;split
  ·rfl
  ·exact hall j Om
 ·intro j hj;unfold mark at hj;split at hj
  ·omega
  ·have:=M.high j hj;omega
 ·intro j hj;by_cases hji:j=i
  ·subst hji;exact g1.len
  ·exact M.len j Om
 ·intro j hj hs;unfold mark at hs;split at hs
  ·cases hs
  ·rw[hall j Om]at hs;cases hs
 ·intro i2 hi2 hi2' b e k hb Pg hk;have:i2=i+1:=Om
  subst this;exact(hr1.dU b e k Pg hk).gT hr1.cD
 ·intro d hd;exact z75
 ·intro d j o hj hs ho;by_cases hji:j=i
  ·subst hji;rw[hio]at hj;cases hj;rw[hTi,ho];have h1:m1.le (m1.da (H (j+1)).length):=λb e hb=>by
    have:=hr1.cD b e hb;unfold bH.da;rw[Ut this];exact hb
   exact Hz
  ·exact Nq
end
section
variable {P:Program}{m m':bH}{h g h':af}{w w' w0:World}
theorem o9:∀(l c pre:List AV),c.length=l.length->fq (pre++c) pre.length l=pre++l
 |[],c,pre,h=>by
  exact z175
 |x::l,[],pre,h=>by simp at h
 |x::l,y::c,pre,h=>by
  have e1:(pre++y::c).set pre.length x=(pre++[x])++c:=by
   exact HU
  have e2:pre.length+1=(pre++[x]).length:=Si
  show fq ((pre++y::c).set pre.length x) (pre.length+1) l=_;rw[e1,e2,o9 l c (pre++[x]) (by simpa using h),Uf];rfl
def Grow.forget(gr:Grow m h w m' (h++g) w'):Grow m h w (m'.da h.length) h w' where
 ext:=λb hb=>by unfold bH.da;rw[Ut hb];exact gr.ext b hb
 len:=Uq _
 new:=λb e hb he=>by unfold bH.da at he;rw[Ur Om]at he;cases he
 tl:=λb hb ht=>ht
 size:=gr.size
 os:=gr.os
 out:=gr.out
 tape:=gr.tape
 frame:=gr.frame
def HR.forget(hr:HR P m h w)(hr':HR P m' (h++g) w')(gr:Grow m h w m' (h++g) w'):HR P (m'.da h.length) h w':=
 hr'.da hr.EH λb e k hb Pg hk=>(hr.dU b e k (by rw[<-gr.ext b hb];exact Pg) hk).gT hr.cD
def HR.J1(hr:HR P m h w){cb cc}{el:TypeId}{fz}(hb:w.heap[cb]? =some (.cells cc el fz))(hfz:∀i,i<cc.size->¬(fz.1<=i/\i<fz.2))(hout:∀b e,m b=some e->e.cb≠cb)
  {c}{d}(hc:d+c.length=cc.size) (hv:∀(i:Nat) (x:AV),c[i]? =some x->x.one=true/\∃v,cc[d+i]? =some v/\VR m x v):HR P (m.add h.length ⟨cb,d,cc.size,true⟩) (h++[.cells c true false]) w:=by
 have Pf:m h.length=none:=by
  exact Kl
 have hle:m.le (m.add h.length ⟨cb,d,cc.size,true⟩):=bH.pZ _ Pf;have Oz:∀b e,(m.add h.length ⟨cb,d,cc.size,true⟩) b=some e->(b=h.length/\e=⟨cb,d,cc.size,true⟩)\/(b<h.length/\m b=some e):=λb e Pz=>by
  exact Ng
 refine⟨λb e Pz=>?_,λb e k Pz hk=>?_,λb1 b2 e1 e2 k1 k2 hne h1 h2 hk1 Oi hcb=>?_,λg hg=>?_,λb e Pz=>?_⟩
 ·rw[Ud];rcases Oz b e Pz with⟨rfl,_⟩|⟨hlt,_⟩
  ·simp
  ·simp;omega
 ·rcases Oz b e Pz with⟨rfl,rfl⟩|⟨hlt,hm⟩
  ·rw[Un (Uq _),Vb]at hk;cases hk;refine⟨cc,el,fz,hb,⟨by show d+_<=_;omega,by show d+_<=cc.size;omega,rfl⟩,λi x hx=>?_,λ_=>⟨rfl,hfz⟩,λ_=>⟨rfl,λ_=>by show cc.size=d+c.length;omega⟩⟩;obtain⟨ho,v,h1,h2⟩:=hv i x hx;exact⟨ho,v,h1,VR.mono hle _ _ h2⟩
  ·rw[Ug hlt]at hk;exact(hr.dU b e k hm hk).mono hle
 ·exact Nu
 ·obtain⟨e,he,hx⟩:=hr.fG g hg;exact⟨e,hle _ _ he,hx⟩
 ·rcases Oz b e Pz with⟨_,rfl⟩|⟨_,hm⟩
  ·exact(Uu.1 hb).1
  ·exact hr.lt b e hm
def Bf{x}(h:vV x=true):x.one=true:=by cases x<;>first|rfl|cases h
def Db{x v}(h:vV x=true)(hv:VR m x v)(m':bH):VR m' x v:=by
 cases x<;>first|exact hv|cases h
def jG(m:bH)(w0 w:World)(zc:List AV)(cv:Value):Prop:=
 ∃(cb d:Nat) (cc:Array Value) (el:TypeId) (fz:Nat×Nat),cv=.pointer (some ⟨cb,d,none⟩)/\w.heap[cb]? =some (.cells cc el fz)/\d+zc.length=cc.size/\(∀i,i<cc.size->¬(fz.1<=i/\i<fz.2))/\
  (∀(i:Nat) (x:AV),zc[i]? =some x->x.one=true/\∃v,cc[d+i]? =some v/\∀m:bH,VR m x v)/\w0.heap.size<=cb/\∀b e,m b=some e->e.cb≠cb
def jG.move{zc cv}(p:jG m w0 w zc cv)(hh:∀cb d,cv=.pointer (some ⟨cb,d,none⟩)->cb<w.heap.size->(∀b e,m b=some e->e.cb≠cb)->w'.heap[cb]? =w.heap[cb]?)
  (hm:∀cb d,cv=.pointer (some ⟨cb,d,none⟩)->cb<w.heap.size->(∀b e,m b=some e->e.cb≠cb)->∀b e,m' b=some e->e.cb≠cb):jG m' w0 w' zc cv:=by
 obtain⟨cb,d,cc,el,fz,h1,h2,h3,h4,h5,h6,h7⟩:=p;have hlt:cb<w.heap.size:=(Uu.1 h2).1;exact⟨cb,d,cc,el,fz,h1,by rw[hh cb d h1 hlt h7];exact h2,h3,h4,h5,h6,hm cb d h1 hlt h7⟩
def jG.grow{zc cv}(p:jG m w0 w zc cv)(gr:Grow (m.da h.length) h w m' h' w'):jG m' w0 w' zc cv/\jG (m'.patch m h'.length) w0 w' zc cv:=by
 have hh:∀cb d,cv=.pointer (some ⟨cb,d,none⟩)->cb<w.heap.size->(∀b e,m b=some e->e.cb≠cb)->w'.heap[cb]? =w.heap[cb]? :=λcb d _ hlt h7=>gr.frame cb hlt λb e he _=>h7 b e (bH.eI _ _ _ _ he)
 have hnew:∀cb,cb<w.heap.size->(∀b e,m b=some e->e.cb≠cb)->∀b e,m' b=some e->e.cb≠cb:=λcb hlt h7 b e he=>by
  by_cases hb:b<h.length
  ·rw[gr.ext b hb]at he;exact h7 b e (bH.eI _ _ _ _ he)
  ·obtain⟨_,hc⟩:=gr.new b e Om he;rcases hc with hc|⟨b0,e0,c1,c2,_⟩
   ·omega
   ·rw[<-c2];exact h7 b0 e0 (bH.eI _ _ _ _ c1)
 refine⟨p.move hh λcb d _ hlt h7=>hnew cb hlt h7,p.move hh λcb d _ hlt h7 b e he=>?_⟩;unfold bH.patch at he;split at he
 ·exact hnew cb hlt h7 b e he
 ·exact h7 b e he
end
structure bR(ops:Array Oper)(l:List bo)(k s t:Nat)(z:AV)(n:Nat)(x:cK):Prop where
 ks:k<s
 hk:l[k]? =some {dst:=some t,k:=.box (.c z),gd:=none,q:=true}
 hs:l[s]? =some {dst:=none,k:=.store n (.t t) x,gd:=none,q:=true}
 zn:z.cells.length=n
 zc:z.cells.all vV=true
 xt:∀u,x=.t u->u≠t/\fc ops s u=true
 lt:fc ops s t=true
 only:∀j,j<ops.size->j≠s->fc ops j t=false
def lJ{o n t x}(h:ki o=some (n,t,x)):o={dst:=none,k:=.store n (.t t) x,gd:=none,q:=true}:=by
 obtain⟨d,k,gd,q⟩:=o;unfold ki at h;exact z91
def vZ{o t z}(h:rl o=some (t,z)):o={dst:=some t,k:=.box (.c z),gd:=none,q:=true}:=by
 obtain⟨d,k,gd,q⟩:=o;unfold rl at h;exact z91
def nU{ops l k s}(hks:k<s)(h:nh ops l k s=true):∃t z n x,bR ops l k s t z n x:=by
 unfold nh at h;split at h
 case h_2=>cases h
 rename_i t z n t' x h1 h2;obtain⟨a,ha,hb⟩:=Ve.1 h1;obtain⟨b,O7,O0⟩:=Ve.1 h2;have e1:=vZ hb;have e2:=lJ O0;subst e1;subst e2;simp only[UH,beq_iff_eq,UJ,Vo,VW,Vs]at h;obtain⟨⟨⟨⟨⟨rfl,q2⟩,q3⟩,q4⟩,q5⟩,q6⟩:=h;refine⟨t,z,n,x,hks,ha,O7,q2,UJ.2 q3,λu hu=>?_,q5,λj hj hne=>(q6 j hj).resolve_left hne⟩;subst hu;simp only[UH,bne_iff_ne,ne_eq]at q4;exact q4
def bR.ok{ops l k s t z n x}(p:bR ops l k s t z n x):nh ops l k s=true:=by
 unfold nh;rw[p.hk,p.hs];simp only[Option.bind_some,rl,ki,UH,beq_iff_eq,UJ,Vo,VW,Vs];refine⟨⟨⟨⟨⟨trivial,p.zn⟩,UJ.1 p.zc⟩,?_⟩,p.lt⟩,λj hj=>?_⟩
 ·cases x with
  |t u=>simp only[UH,bne_iff_ne,ne_eq];exact p.xt u rfl
  |_=>rfl
 ·by_cases hne:j=s
  ·exact .inl hne
  ·exact .inr (p.only j hj hne)
def FO:bo:={dst:=none,k:=.dq (.c (.bool false)),gd:=none,q:=true}
theorem uo{ops l}:∀{r}{i j},(n8 ops l i r)[j]? =(r[j]?).map (ra ops l (i+j))
 |[],i,j=>by simp[n8]
 |o::r,i,0=>by simp[n8]
 |o::r,i,j+1=>by
  show(n8 ops l (i+1) r)[j]? =_;rw[uo,show i+1+j=i+(j+1) by omega];simp
theorem um{ops l}:∀{r}{i},(n8 ops l i r).length=r.length
 |[],_=>rfl
 |o::r,i=>by simp[n8,um]
def vP{ops l}(hl:l.length=ops.size){j o}(ho:l[j]? =some o):
  (∃k t z n x,bR ops l k j t z n x/\ra ops l j o={dst:=some t,k:=.mD n x,gd:=none,q:=true})\/
  (∃s t z n x,bR ops l j s t z n x/\ra ops l j o=FO)\/
  (ra ops l j o=o/\(∀k t z n x,¬bR ops l k j t z n x)/\(∀s t z n x,¬bR ops l j s t z n x)):=by
 unfold ra;split
 ·rename_i n t x bE;have e1:=lJ bE;have OH:∀s t z n x,¬bR ops l j s t z n x:=λs t' z n' x' p=>by
   have:=p.hk;rw[ho,e1]at this;cases this
  split
  ·rename_i k hk;unfold LJ at hk;have h1:=W7 hk;have h2:=Vo.1 (List.mem_of_find?_eq_some hk);obtain⟨t',z,n',x',p⟩:=nU h2 h1;have:=p.hs;rw[ho,e1]at this;cases this;exact .inl ⟨k,_,z,_,_,p,rfl⟩
  ·rename_i hk;refine .inr (.inr ⟨rfl,λk t' z n' x' p=>?_,OH⟩);unfold LJ at hk;exact List.find?_eq_none.1 hk k (Vo.2 p.ks) p.ok
 ·rename_i bE;have hns:∀k t z n x,¬bR ops l k j t z n x:=λk t' z n' x' p=>by
   have:=p.hs;rw[ho]at this;cases this;simp[ki]at bE
  split
  ·rename_i y Oj;split
   ·rename_i s hs;unfold K3 at hs;have h1:=W7 hs;simp only[UH,UT]at h1;obtain⟨t',z,n',x',p⟩:=nU h1.1 h1.2;exact .inr (.inl ⟨s,t',z,n',x',p,rfl⟩)
   ·rename_i hs;refine .inr (.inr ⟨rfl,hns,λs t' z n' x' p=>?_⟩);unfold K3 at hs;refine List.find?_eq_none.1 hs s (Vo.2 ((Ue.1 p.hs).1)) ?_;simp only[UH,UT];exact⟨p.ks,p.ok⟩
  ·rename_i Oj;refine .inr (.inr ⟨rfl,hns,λs t' z n' x' p=>?_⟩);have:=p.hk;rw[ho]at this;cases this;simp[rl]at Oj
def nF(v v':Value):Prop:=∀cb d RX d',v=.pointer (some ⟨cb,d,none⟩)->v' =.pointer (some ⟨RX,d',none⟩)->cb≠RX
theorem nF.symm{v v'}(h:nF v v'):nF v' v:=λcb d RX d' h1 h2 e=>h RX d' cb d h2 h1 e.symm
structure nK(ops:Array Oper)(l:List bo)(w0:World)(S:Nat->Bool)(ta tmps:Array Value)(m:bH)(w:World):Prop where
 size:tmps.size=ta.size
 ag:∀d,(∀k s z n x,bR ops l k s d z n x->S k=true->S s=false->False)->tmps.getD d undef=ta.getD d undef
 pd:∀k s t z n x,bR ops l k s t z n x->S k=true->S s=false->jG m w0 w z.cells (tmps.getD t undef)
 dj:∀k s t z n x k' s' t' z' n' x',bR ops l k s t z n x->bR ops l k' s' t' z' n' x'->S k=true->S s=false->S k' =true->S s' =false->t≠t'->nF (tmps.getD t undef) (tmps.getD t' undef)
section
variable {ops:Array Oper}{l:List bo}{w0 w w':World}{S:Nat->Bool}{ta tmps:Array Value}{m m':bH}
def gY{ta d cv}(h:d<ta.size):(fY ta (some d) cv).getD d undef=cv:=by
 simp only[fY,UW];rw[Vt h];rfl
def vH{d cv t}(hs:tmps.size=ta.size)(h:tmps.getD t undef=ta.getD t undef):(fY tmps d cv).getD t undef=(fY ta d cv).getD t undef:=by
 by_cases hd:d=some t
 ·subst hd;by_cases ht:t<ta.size
  ·rw[gY ht,gY Om]
  ·simp only[fY,UW];rw[VP (by simp;omega),VP (by simp;omega)]
 ·rw[cZ hd,cZ hd];exact h
def nK.other(I:nK ops l w0 S ta tmps m w){i d cv}(h1:∀k t z n x,¬bR ops l k i t z n x)(h2:∀s t z n x,¬bR ops l i s t z n x)(hd:∀k s t z n x,bR ops l k s t z n x->d≠some t)
  (hp:∀zc cv,jG m w0 w zc cv->jG m' w0 w' zc cv):nK ops l w0 (mark S i) (fY ta d cv) (fY tmps d cv) m' w' where
 size:=by rw[ep,ep];exact I.size
 ag:=λt ht=>vH I.size (I.ag t λk s z n x p hk hs=>ht k s z n x p (by unfold mark;split<;>first|rfl|exact hk) (by
  unfold mark;split
  ·rename_i e;subst e;exact absurd p (h1 _ _ _ _ _)
  ·exact hs))
 pd:=λk s t z n x p hk hs=>by
  have hki:k≠i:=λe=>h2 _ _ _ _ _ (e▸p)
  have hsi:s≠i:=λe=>h1 _ _ _ _ _ (e▸p)
  unfold mark at hk hs;rw[Ur hki]at hk;rw[Ur hsi]at hs;rw[cZ (hd _ _ _ _ _ _ p)];exact hp _ _ (I.pd k s t z n x p hk hs)
 dj:=λk s t z n x k' s' t' z' n' x' p p' hk hs hk' On hne=>by
  have hki:k≠i:=λe=>h2 _ _ _ _ _ (e▸p)
  have hsi:s≠i:=λe=>h1 _ _ _ _ _ (e▸p)
  have hki':k'≠i:=λe=>h2 _ _ _ _ _ (e▸p')
  have hsi':s'≠i:=λe=>h1 _ _ _ _ _ (e▸p')
  unfold mark at hk hs hk' On;rw[Ur hki]at hk;rw[Ur hsi]at hs;rw[Ur hki']at hk';rw[Ur hsi']at On;rw[cZ (hd _ _ _ _ _ _ p),cZ (hd _ _ _ _ _ _ p')];exact I.dj _ _ _ _ _ _ _ _ _ _ _ _ p p' hk hs hk' On hne
def BH(ops:Array Oper)(l:List bo):Prop:=∀k s t z n x k' s' t' z' n' x',bR ops l k s t z n x->bR ops l k' s' t' z' n' x'->(t=t'->k=k'/\s=s')/\(k=k'->t=t')/\(s=s'->t=t')/\k≠s'
def nK.make(U:BH ops l)(I:nK ops l w0 S ta tmps m w){k s t n z x cv}(p0:bR ops l k s t z n x)(ht:t<tmps.size)(hss:S s=false)
  (hnew:jG m' w0 w' z.cells cv) (hfar:∀cb d,cv=.pointer (some ⟨cb,d,none⟩)->w.heap.size<=cb) (hp:∀zc cv,jG m w0 w zc cv->jG m' w0 w' zc cv):nK ops l w0 (mark S k) ta (fY tmps (some t) cv) m' w' where
 size:=by rw[ep];exact I.size
 ag:=λd hd=>by
  by_cases hdt:d=t
  ·subst hdt;exact(hd k s z n x p0 (by simp[mark]) (by
    have:s≠k:=Nat.ne_of_gt p0.ks;simp only[mark,Ur this];exact hss)).elim
  ·rw[cZ (λe=>hdt (Vc e).symm)];refine I.ag d λk' s' z' n' x' p hk hs=>hd k' s' z' n' x' p (by unfold mark;split<;>first|rfl|exact hk) ?_
   have:s'≠k:=λe=>((U _ _ _ _ _ _ _ _ _ _ _ _ p0 p).2.2.2 e.symm)
   simp only[mark,Ur this];exact hs
 pd:=λk' s' t' z' n' x' p hk hs=>by
  by_cases hkk:k' =k
  ·have e:=(U _ _ _ _ _ _ _ _ _ _ _ _ p0 p).2.1 hkk.symm;subst e;subst hkk;have hz:=p0.hk.symm.trans p.hk;have hz:z=z':=by cases hz;rfl
   subst hz;rw[gY ht];exact hnew
  ·have hsk:s'≠k:=λe=>((U _ _ _ _ _ _ _ _ _ _ _ _ p0 p).2.2.2 e.symm)
   unfold mark at hk hs;rw[Ur hkk]at hk;rw[Ur hsk]at hs;have hne:t≠t':=λe=>hkk ((U _ _ _ _ _ _ _ _ _ _ _ _ p0 p).1 e).1.symm
   rw[cZ (λe=>hne (Vc e))];exact hp _ _ (I.pd _ _ _ _ _ _ p hk hs)
 dj:=λk1 s1 t1 z1 n1 x1 k2 s2 t2 z2 n2 x2 p1 p2 hk1 PS Oi OX hne=>by
  have hold:∀k' s' t' z' n' x',bR ops l k' s' t' z' n' x'->k'≠k->mark S k k' =true->mark S k s' =false->t≠t'/\S k' =true/\S s' =false/\(fY tmps (some t) cv).getD t' undef=tmps.getD t' undef:=λk' s' t' z' n' x' p hkk hk hs=>by
   have hsk:s'≠k:=λe=>((U _ _ _ _ _ _ _ _ _ _ _ _ p0 p).2.2.2 e.symm)
   unfold mark at hk hs;rw[Ur hkk]at hk;rw[Ur hsk]at hs;have hne:t≠t':=λe=>hkk ((U _ _ _ _ _ _ _ _ _ _ _ _ p0 p).1 e).1.symm
   exact⟨hne,hk,hs,cZ (λe=>hne (Vc e))⟩
  have hfar':∀k' s' t' z' n' x',bR ops l k' s' t' z' n' x'->S k' =true->S s' =false->nF cv (tmps.getD t' undef):=λk' s' t' z' n' x' p hk hs cb1 d1 cb2 d2 e1 e2=>by
   obtain⟨cb,d,cc,el,fz,q1,q2,_⟩:=I.pd _ _ _ _ _ _ p hk hs;rw[q1]at e2;cases e2;have:=hfar cb1 d1 e1;have:=(Uu.1 q2).1;omega
  by_cases h1:k1=k
  ·have e1:=(U _ _ _ _ _ _ _ _ _ _ _ _ p0 p1).2.1 h1.symm;by_cases h2:k2=k
   ·exact absurd (e1.symm.trans ((U _ _ _ _ _ _ _ _ _ _ _ _ p0 p2).2.1 h2.symm)) hne
   ·obtain⟨a1,a2,a3,a4⟩:=hold _ _ _ _ _ _ p2 h2 Oi OX;rw[a4,<-e1,gY ht];exact hfar' _ _ _ _ _ _ p2 a2 a3
  ·obtain⟨b1,b2,b3,b4⟩:=hold _ _ _ _ _ _ p1 h1 hk1 PS;by_cases h2:k2=k
   ·have e2:=(U _ _ _ _ _ _ _ _ _ _ _ _ p0 p2).2.1 h2.symm;rw[b4,<-e2,gY ht];exact(hfar' _ _ _ _ _ _ p1 b2 b3).symm
   ·obtain⟨a1,a2,a3,a4⟩:=hold _ _ _ _ _ _ p2 h2 Oi OX;rw[a4,b4];exact I.dj _ _ _ _ _ _ _ _ _ _ _ _ p1 p2 b2 b3 a2 a3 hne
def nK.fill(U:BH ops l)(I:nK ops l w0 S ta tmps m w){k s t n z x}(p0:bR ops l k s t z n x)(ht:t<tmps.size)
  (hp:∀zc cv,nF cv (tmps.getD t undef)->jG m w0 w zc cv->jG m' w0 w' zc cv) (hk:S k=true) (hs:S s=false):nK ops l w0 (mark S s) (fY ta (some t) (tmps.getD t undef)) tmps m' w':=by
 have hold:∀k' s' t' z' n' x',bR ops l k' s' t' z' n' x'->mark S s k' =true->mark S s s' =false->t≠t'/\S k' =true/\S s' =false:=λk' s' t' z' n' x' p hk' On=>by
  have h1:k'≠s:=(U _ _ _ _ _ _ _ _ _ _ _ _ p p0).2.2.2;have h2:s'≠s:=λe=>by simp[mark,e]at On
  unfold mark at hk' On;rw[Ur h1]at hk';rw[Ur h2]at On;exact⟨λe=>h2 ((U _ _ _ _ _ _ _ _ _ _ _ _ p p0).1 e.symm).2,hk',On⟩
 refine⟨by rw[ep];exact I.size,λd hd=>?_,λk' s' t' z' n' x' p hk' On=>?_,λk1 s1 t1 z1 n1 x1 k2 s2 t2 z2 n2 x2 p1 p2 hk1 PS Oi OX hne=>?_⟩
 ·by_cases hdt:d=t
  ·subst hdt;rw[gY (by rw[<-I.size];exact ht)]
  ·rw[cZ (λe=>hdt (Vc e).symm)];refine I.ag d λk' s' z' n' x' p hk' On=>hd k' s' z' n' x' p (by unfold mark;split<;>first|rfl|exact hk') ?_
   have h2:s'≠s:=λe=>hdt ((U _ _ _ _ _ _ _ _ _ _ _ _ p p0).2.2.1 e)
   simp only[mark,Ur h2];exact On
 ·obtain⟨a1,a2,a3⟩:=hold _ _ _ _ _ _ p hk' On;exact hp _ _ (I.dj _ _ _ _ _ _ _ _ _ _ _ _ p p0 a2 a3 hk hs (Wy a1)) (I.pd _ _ _ _ _ _ p a2 a3)
 ·obtain⟨a1,a2,a3⟩:=hold _ _ _ _ _ _ p1 hk1 PS;obtain⟨b1,b2,b3⟩:=hold _ _ _ _ _ _ p2 Oi OX;exact I.dj _ _ _ _ _ _ _ _ _ _ _ _ p1 p2 a2 a3 b2 b3 hne
end
def cG{M ops}(h:kj M ops=true){i j x y}(hij:i<j)(hx:ops[i]? =some x)(hy:ops[j]? =some y):
  (∀d,x.dst=some d->y.dst≠some d/\(d∈y.looksAt ops->ahead M i j=true))/\(∀d,y.dst=some d->d∈x.looksAt ops->ahead M i j=true):=by
 have hj:j<ops.size:=(Uu.1 hy).1;unfold kj at h;rw[UJ]at h;have h1:=h j (Vo.2 hj);rw[UJ]at h1;have h2:=h1 i (Vo.2 hij);rw[hx,hy]at h2;simp only[UH]at h2;obtain⟨h3,h4⟩:=h2;constructor
 ·intro d hd;rw[hd]at h3;simp only[UH,bne_iff_ne,ne_eq,VW,Vs,List.contains_eq_mem,VV]at h3;exact⟨h3.1,λhl=>h3.2.resolve_left (λhx=>hx hl)⟩
 ·intro d hd hl;rw[hd]at h4;simp only[VW,Vs,List.contains_eq_mem,VV]at h4;exact h4.resolve_left (λhx=>hx hl)
def mw{M ops}(h:jA M ops=true){j o}(ho:ops[j]? =some o):
  (∀e∈o.after,Region.binds .any e=true->e.on<j)/\(∀i,i<ops.size->ahead M i j=true->∃e∈o.after,Region.binds .any e=true/\(e.on=i\/ahead M i e.on=true)):=by
 have hj:j<ops.size:=(Uu.1 ho).1;unfold jA at h;rw[UJ]at h;have h1:=h j (Vo.2 hj);rw[ho]at h1;simp only[UH]at h1;obtain⟨h2,h3⟩:=h1;constructor
 ·intro e he hb;rw[UJ]at h2;have:=h2 e (by simpa using he);simp only[hb,UA,Wr,UT]at this;exact this
 ·intro i hi ha;rw[UJ]at h3;have:=h3 i (Vo.2 hi);simp only[ha,UA,Wr,Wu,UH,VW,beq_iff_eq]at this;obtain⟨e,he,hb,hor⟩:=this;exact⟨e,by simpa using he,hb,hor⟩
def mF{M n j}(h:fU M n j=true){i}(hi:i<n)(hne:i≠j):(i<j->ahead M i j=true)/\(j<i->ahead M j i=true):=by
 unfold fU at h;rw[UJ]at h;have h1:=h i (Vo.2 hi);simp only[VW,beq_iff_eq]at h1;have h2:=h1.resolve_left hne;constructor
 ·intro hlt;rwa [Ut hlt]at h2
 ·intro hlt;rwa [Ur Om]at h2
theorem sK{T:Nat->TS}{t:Nat}{a:Nat}:∀k,(∀j,a<=j->j<a+k->∃d v,T (j+1)=put (T j) d v/\d≠some t)->(T (a+k)).getD t au=(T a).getD t au
 | 0,_=>rfl
 |k+1,h=>by
  obtain⟨d,v,h1,h2⟩:=h (a+k) Om Om;rw[show a+(k+1)=a+k+1 from by omega,h1,vG h2];exact sK k λj h3 h4=>h j h3 Om
def wS{listed:Array Bool}{i:Nat}(hi:i<listed.size):(λj=>(listed.setIfInBounds i true).getD j false)=mark (λj=>listed.getD j false) i:=by
 funext j;unfold mark;exact cM hi
def gX{ops listed}(hs:listed.size=ops.size){i}:i∈Region.ready .any ops listed↔∃o,ops[i]? =some o/\listed.getD i false=false/\∀e∈o.after,Region.binds .any e=true->listed.getD e.on false=true:=by
 unfold Region.ready;simp only[VQ,Vo,UH,Vs];constructor
 ·rintro⟨hi,hl,ha⟩;have ho:ops[i]? =some ops[i]:=UZ hi;refine⟨ops[i],ho,?_,?_⟩
  ·exact M3
  ·rw[ho]at ha;simp only[V6,Wt,Array.all_eq_true_iff_forall_mem,VW,Vs]at ha;intro e he hb;exact(ha e he).resolve_left (by simp[hb])
 ·rintro⟨o,ho,hl,ha⟩;have hi:i<ops.size:=(Uu.1 ho).1;refine⟨hi,?_,?_⟩
  ·exact M3
  ·rw[ho];simp only[V6,Wt,Array.all_eq_true_iff_forall_mem,VW,Vs];intro e he;cases hb:Region.binds .any e with
   |true=>exact .inr (ha e he hb)
   |false=>exact .inl rfl
def ko{M ops}(he:jA M ops=true){listed}(hs:listed.size=ops.size)(hr:Region.ready .any ops listed=[]):∀i,i<ops.size->listed.getD i false=true:=by
 intro i
 induction i using Nat.strongRecOn with
 |_ i ih=>
  intro hi;cases hl:listed.getD i false with
  |true=>rfl
  |false=>
   have:i∈Region.ready .any ops listed:=by
    have ho:ops[i]? =some ops[i]:=UZ hi;refine(gX hs).2 ⟨ops[i],ho,hl,λe hee hb=>?_⟩;have:=(mw he ho).1 e hee hb;exact ih e.on this Om
   rw[hr]at this;cases this
def kr{ops listed}(hs:listed.size=ops.size)(h:∀i,i<ops.size->listed.getD i false=true):Region.ready .any ops listed=[]:=by
 cases hr:Region.ready .any ops listed with
 |nil=>rfl
 |cons x xs=>
  have:x∈Region.ready .any ops listed:=by rw[hr];simp
  obtain⟨o,ho,hl,_⟩:=(gX hs).1 this;rw[h x (Uu.1 ho).1]at hl;cases hl
def tj{P:Program}(hmix:P.follows .mixedOrders=true){ops:Array Oper}{l:List bo}(hc:cF P ops true=some l){ts ts':TS}{h h':af}(hs:wj P l ts h ts' h'){m:bH}{a:Act}{w:World}
  (st:St P m ts h a w) (ro:Option Nat) (Q:Exit->Act->World->Prop) (hQ:∀m' a' w',St P m' ts' h' a' w'->Grow m h w m' h' w'->a'.defers=a.defers->Q .normal a' w') (id:Nat):
  (Code.region id ops true).wpIn (Fd ro) 0 P Q a w:=by
 refine wpIn_region_any hmix ?_;obtain⟨T,H,rfl,rfl,rfl,rfl,hrow⟩:=hs.row;simp only[cF,UD]at hc;split at hc
 case isFalse=>cases hc
 rename_i hok;simp only[UH]at hok;obtain⟨hed,hsl⟩:=hok;obtain⟨l0,hc,hl⟩:=Uz.1 hc;obtain⟨OE,Ov⟩:=fJ hc;simp only[Wq]at OE;have hlen:l.length=ops.size:=by rw[<-hl,um,OE]
 have hget0:∀j o,ops[j]? =some o->∃io,l0[j]? =some io/\bx P ops (!fU (Region.before ops) ops.size j) o=some io:=λj o ho=>by
  obtain⟨y,h1,h2⟩:=Ov j o (by simpa using ho);exact⟨y,h1,by rwa [UX]at h2⟩
 have QG:∀j io,l0[j]? =some io->∃o,ops[j]? =some o/\bx P ops (!fU (Region.before ops) ops.size j) o=some io:=λj io hj=>by
  have hlt:j<ops.size:=by have:=(Ue.1 hj).1;omega
  have ho:ops[j]? =some ops[j]:=UZ hlt;obtain⟨io',h1,h2⟩:=hget0 j _ ho;rw[hj]at h1;cases h1;exact⟨_,ho,h2⟩
 have Sy:∀(j:Nat) (io:bo),l[j]? =some io->(∃k t z n x,bR ops l0 k j t z n x/\io={dst:=some t,k:=.mD n x,gd:=none,q:=true})\/(∃s t z n x,bR ops l0 j s t z n x/\io=FO)\/
   ((∃o,ops[j]? =some o/\bx P ops (!fU (Region.before ops) ops.size j) o=some io)/\(∀k t z n x,¬bR ops l0 k j t z n x)/\(∀s t z n x,¬bR ops l0 j s t z n x)):=λj io hj=>by
  rw[<-hl,uo,UX]at hj;obtain⟨io0,h0,rfl⟩:=Uz.1 hj;rcases vP OE h0 with⟨k,t,z,n,x,p,e⟩|⟨s,t,z,n,x,p,e⟩|⟨e,n1,n2⟩
  ·exact .inl ⟨k,t,z,n,x,p,e⟩
  ·exact .inr (.inl ⟨s,t,z,n,x,p,e⟩)
  ·rw[e];exact .inr (.inr ⟨QG j io0 h0,n1,n2⟩)
 have hdU:∀(i j:Nat) (oi oj:Oper) (d:Nat),ops[i]? =some oi->ops[j]? =some oj->oi.dst=some d->oj.dst=some d->i=j:=λi j oi oj d hi hj h1 h2=>by
  by_cases hlt:i<j
  ·exact absurd h2 ((cG hsl hlt hi hj).1 d h1).1
  ·by_cases Q0:j<i
   ·exact absurd h1 ((cG hsl Q0 hj hi).1 d h2).1
   ·omega
 have TL:∀{k s t:Nat}{z:AV}{n:Nat}{x:cK},bR ops l0 k s t z n x->∃o,ops[k]? =some o/\o.dst=some t/\bx P ops (!fU (Region.before ops) ops.size k) o=some {dst:=some t,k:=.box (.c z),gd:=none,q:=true}:=λp=>by
  obtain⟨o,h1,h2⟩:=QG _ _ p.hk;exact⟨o,h1,(cU h2).1.symm,h2⟩
 have hps:∀{k s t:Nat}{z:AV}{n:Nat}{x:cK},bR ops l0 k s t z n x->∃o,ops[s]? =some o/\o.dst=none/\bx P ops (!fU (Region.before ops) ops.size s) o=some {dst:=none,k:=.store n (.t t) x,gd:=none,q:=true}:=λp=>by
  obtain⟨o,h1,h2⟩:=QG _ _ p.hs;exact⟨o,h1,(cU h2).1.symm,h2⟩
 have hlooks:∀{j t:Nat}{o:Oper},ops[j]? =some o->fc ops j t=true->t∈o.looksAt ops:=λho h=>by
  unfold fc at h;rw[ho]at h
  simpa using h
 have Sp:∀{j t:Nat}{o:Oper},ops[j]? =some o->t∈o.looksAt ops->fc ops j t=true:=λho h=>by
  unfold fc;rw[ho]
  simpa using h
 have dO:∀{j:Nat}{o:Oper},ops[j]? =some o->j<ops.size:=λho=>(Uu.1 ho).1
 have U:BH ops l0:=λk s t z n x k' s' t' z' n' x' p p'=>by
  refine⟨λe=>?_,λe=>?_,λe=>?_,λe=>?_⟩
  ·subst e;obtain⟨o,h1,h2,_⟩:=TL p;obtain⟨o',h1',h2',_⟩:=TL p';refine⟨hdU _ _ _ _ _ h1 h1' h2 h2',?_⟩;by_cases hs:s=s'
   ·exact hs
   ·obtain⟨os,PS,_⟩:=hps p';have:=p.only s' (dO PS) (Wy hs);rw[p'.lt]at this;cases this
  ·subst e;have:=p.hk.symm.trans p'.hk;cases this;rfl
  ·subst e;have:=p.hs.symm.trans p'.hs;cases this;rfl
  ·subst e;have:=p.hk.symm.trans p'.hs;cases this
 have hpt:∀{i:Nat}{o:Oper}{t:Nat},ops[i]? =some o->t∈o.looksAt ops->∀k s z n x,bR ops l0 k s t z n x->i=s:=λ{i o t} ho ht k s z n x p=>by
  by_cases hi:i=s
  ·exact hi
  ·have:=p.only _ (dO ho) hi;rw[Sp ho ht]at this;cases this
 have Pm:∀(j:Nat) (io:bo) (d:Nat),l[j]? =some io->io.dst=some d->(∃o,ops[j]? =some o/\o.dst=some d/\(∀k t z n x,¬bR ops l0 k j t z n x)/\(∀s t z n x,¬bR ops l0 j s t z n x))\/(∃k z n x,bR ops l0 k j d z n x):=λj io d hj hd=>by
  rcases Sy j io hj with⟨k,t,z,n,x,p,e⟩|⟨s,t,z,n,x,p,e⟩|⟨⟨o,h1,h2⟩,n1,n2⟩
  ·rw[e]at hd;cases hd;exact .inr ⟨k,z,n,x,p⟩
  ·rw[e]at hd;cases hd
  ·exact .inl ⟨o,h1,by rw[<- (cU h2).1];exact hd,n1,n2⟩
 have PG:∀j io,l[j]? =some io->∃v,T (j+1)=put (T j) io.dst v:=λj io hj=>(hrow.step j io hj).1.put
 have hTl:∀j,j<=l.length->(T j).length=(T 0).length:=by
  intro j
  induction j with
  |zero=>intro _;rfl
  |succ j ih=>
   intro hj;exact KC
 have hG:P.globals.size<=(H 0).length:=st.hr.EH;have huniq:∀(i:Nat) (io:bo),l[i]? =some io->∀(j:Nat) (o:bo) (d:Nat),j≠i->l[j]? =some o->o.dst=some d->io.dst≠some d:=by
  intro i io hi j o d hne hj hd OR;rcases Pm j o d hj hd with⟨oj,a1,a2,a3,a4⟩|⟨k,z,n,x,p⟩
  ·rcases Pm i io d hi OR with⟨oi,b1,b2,b3,b4⟩|⟨k',z',n',x',p'⟩
   ·exact hne (hdU _ _ _ _ _ a1 b1 a2 b2)
   ·obtain⟨ok,h1,h2,_⟩:=TL p';have e:=hdU _ _ _ _ _ a1 h1 a2 h2;subst e;exact a4 _ _ _ _ _ p'
  ·rcases Pm i io d hi OR with⟨oi,b1,b2,b3,b4⟩|⟨k',z',n',x',p'⟩
   ·obtain⟨ok,h1,h2,_⟩:=TL p;have e:=hdU _ _ _ _ _ b1 h1 b2 h2;subst e;exact b4 _ _ _ _ _ p
   ·exact hne ((U _ _ _ _ _ _ _ _ _ _ _ _ p p').1 rfl).2
 have OA:∀a b t,a<=b->b<=l.length->(∀(j:Nat) (o:bo),a<=j->j<b->l[j]? =some o->o.dst≠some t)->(T b).getD t au=(T a).getD t au:=by
  intro a b t hab hb hno;have:=sK (T:=T) (t:=t) (a:=a) (b-a) (λj h1 h2=>by
   have hj:l[j]? =some (l[j]'Om):=Uj Om;obtain⟨v,hv⟩:=PG j _ hj;exact⟨_,v,hv,hno j _ h1 Om hj⟩)
  rwa [show a+(b-a)=b from by omega]at this
 have hqt:∀(j:Nat) (io:bo),l[j]? =some io->fU (Region.before ops) ops.size j=false->io.q=true:=λj io hj hb=>by
  rcases Sy j io hj with⟨k,t,z,n,x,p,e⟩|⟨s,t,z,n,x,p,e⟩|⟨⟨o,h1,h2⟩,n1,n2⟩
  ·rw[e]
  ·rw[e];rfl
  ·rw[(cU h2).2,hb];rfl
 have hdone:∀(listed:Array Bool) (β θ:Nat) (m1:bH) (ta:Array Value) (a1:Act) (w1:World),(∀i,i<ops.size->listed.getD i false=true)->
   qm P l T H m w (λj=>listed.getD j false) β θ m1 ta w1->nK ops l0 w (λj=>listed.getD j false) ta a1.tmps m1 w1->a1.defers=a.defers->Q .normal a1 w1:=by
  intro listed β θ m1 ta a1 w1 hall M I hd;have hθ:θ=l.length:=by
   have h1:=M.θn;by_cases hz:l.length=0
   ·omega
   ·have:=M.high (l.length-1) (hall _ Om);omega
  subst hθ;refine hQ m1 a1 w1 ⟨M.hr,cw.gf ?_ ?_⟩ M.grow hd
  ·have:=M.size;have:=I.size;have:=hTl l.length (Uq _);simp;omega
  ·intro t x hx;have hlt:=(Ue.1 hx).1;have O3:t<a1.tmps.size:=by have:=M.size;have:=I.size;have:=hTl l.length (Uq _);omega
   have ex:(T l.length).getD t au=x:=by simp[List.getD,hx]
   have ey:a1.tmps.getD t undef=a1.tmps[t]:=by simp[UW,UZ O3]
   have eg:a1.tmps.getD t undef=ta.getD t undef:=I.ag t λk s z n x p _ hs=>by
    obtain⟨os,PS,_⟩:=hps p;rw[hall s (dO PS)]at hs;cases hs
   refine⟨a1.tmps[t],Si,?_⟩;rw[<-ex,<-ey,eg];by_cases hw:∃(j:Nat) (o:bo),l[j]? =some o/\o.dst=some t
   ·obtain⟨j,o,hj,ho⟩:=hw;have QP:=(Ue.1 hj).1;have h1:=M.wC t j o hj (hall j Om) ho;rw[OA (j+1) l.length t Om (Uq _) (λk o' h2 h3 h4 h5=>huniq j o hj k o' t Om h4 h5 ho)];exact VR.mono (bH.eI _ _) _ _ h1
   ·rw[OA 0 l.length t Om (Uq _) (λk o' _ _ h4 h5=>hw ⟨k,o',h4,h5⟩)];exact VR.mono (M.grow.le st.hr.cD) _ _ (M.wD t (λj o hj _ ho=>hw ⟨j,o,hj,ho⟩))
 have key:∀(fuel:Nat) (listed:Array Bool) (β θ:Nat) (m1:bH) (ta:Array Value) (a1:Act) (w1:World),listed.size=ops.size->oX listed ops.size<=fuel->
   (∀j x,listed.getD j false=true->x<ops.size->ahead (Region.before ops) x j=true->listed.getD x false=true)->
   qm P l T H m w (λj=>listed.getD j false) β θ m1 ta w1->nK ops l0 w (λj=>listed.getD j false) ta a1.tmps m1 w1->a1.defers=a.defers->wpAnyIn (Fd ro) 0 P .any ops Q fuel listed a1 w1:=by
  intro fuel
  induction fuel with
  |zero=>
   intro listed β θ m1 ta a1 w1 OB hu hcl M I hd;have hall:=jR ops.size (show oX listed ops.size=0 by omega);exact⟨kr OB hall,hdone listed β θ m1 ta a1 w1 hall M I hd⟩
  |succ fuel ih=>
   intro listed β θ m1 ta a1 w1 OB hu hcl M I hd;refine⟨λhr=>hdone listed β θ m1 ta a1 w1 (ko hed OB hr) M I hd,λi hi=>?_⟩;obtain⟨o,ho,Ph,Su⟩:=(gX OB).1 hi;have hin:i<ops.size:=(Uu.1 ho).1;have hio:l[i]? =some (l[i]'Om):=Uj Om;generalize l[i]'Om=io at hio;obtain⟨bE,hq⟩:=hrow.step i io hio;have hahead:∀x,x<ops.size->ahead (Region.before ops) x i=true->listed.getD x false=true:=λx hx ha=>by
    exact z28
   have PU:β<=i:=by
    by_cases hx:i<β
    ·have:=M.low i hx;simp only[Ph]at this;cases this
    ·omega
   have P5:∀j x,(listed.setIfInBounds i true).getD j false=true->x<ops.size->ahead (Region.before ops) x j=true->(listed.setIfInBounds i true).getD x false=true:=by
    intro j x hj hx ha;exact Km
   have Rr:oX (listed.setIfInBounds i true) ops.size<=fuel:=by
    exact Kh
   have hslot:∀(β' θ':Nat),qm P l T H m w (λj=>listed.getD j false) β' θ' m1 ta w1->i<=θ'->∀t,t∈o.looksAt ops->(∀k s z n x,¬bR ops l0 k s t z n x)->VR (m1.da (H i).length) ((T i).getD t au) (ta.getD t undef):=by
    intro β' θ' M' hi' t ht hnp;have h0i:=fi M'.len (UK i) hi';by_cases hex:∃(x:Nat) (ox:bo),l[x]? =some ox/\listed.getD x false=true/\ox.dst=some t
    ·obtain⟨x,ox,hx,hxl,Q6⟩:=hex;rcases Pm x ox t hx Q6 with⟨oo,Qv,Rn,_⟩|⟨k,z,n,y,p⟩
     ·have hxn:x<ops.size:=(Uu.1 Qv).1;have hxi:x<i:=by
       by_cases h1:x=i
       ·subst h1;rw[Ph]at hxl;cases hxl
       ·by_cases h2:x<i
        ·exact h2
        ·have h3:=(cG hsl (show i<x by omega) ho Qv).2 t Rn ht;have h4:=hcl x i hxl hin h3;rw[Ph]at h4;cases h4
      have h1:=M'.wC t x ox hx hxl Q6;rw[OA (x+1) i t Om Om (λk o' h2 h3 h4 h5=>huniq x ox hx k o' t Om h4 h5 Q6)];exact VR.mono (bH.x8 _ (fi M'.len Om hi')) _ _ h1
     ·exact absurd p (hnp _ _ _ _ _)
    ·rw[OA 0 i t Om Om (λk o' h2 h3 h4 h5=>by
      rcases Pm k o' t h4 h5 with⟨oo,Qv,OR,_⟩|⟨k',z,n,y,p⟩
      ·have h6:=((cG hsl h3 Qv ho).1 t OR).2 ht;exact hex ⟨k,o',h4,hahead k (Uu.1 Qv).1 h6,h5⟩
      ·exact hnp _ _ _ _ _ p)]
     refine VR.mono ?_ _ _ (M'.wD t (λj o hj hl OR=>hex ⟨j,o,hj,hl,OR⟩));intro b e hb;have:=st.hr.cD b e hb;unfold bH.da;rw[Ut Om];exact M'.grow.le st.hr.cD b e hb
   have T6:∀t,(∀k s z n x,¬bR ops l0 k s t z n x)->a1.tmps.getD t undef=ta.getD t undef:=λt hnp=>I.ag t λk s z n x p _ _=>hnp _ _ _ _ _ p
   have hTn:∀j,j<=l.length->a1.tmps.size=(T j).length:=λj hj=>by rw[I.size,M.size,hTl j hj]
   have Qu:io.q=true->∃θ',i<θ'/\qm P l T H m w (λj=>listed.getD j false) β θ' m1 ta w1:=λQf=>by
    by_cases Pj:i<θ
    ·exact⟨θ,Pj,M⟩
    ·refine⟨i+1,Om,M.raise Om Om λj hj Sr=>?_⟩;have QP:j<ops.size:=Om
     have TW:l[j]? =some (l[j]'Om):=Uj Om;by_cases hji:j=i
     ·subst hji;rw[hio]at TW;exact hq Qf
     ·have hjs:listed.getD j false=false:=by
       cases hx:listed.getD j false with
       |false=>rfl
       |true=>have:=M.high j hx;omega
      cases hb:fU (Region.before ops) ops.size j with
      |true=>
       have h1:=(mF hb hin (λx=>hji x.symm)).2 Om;have h2:=hahead j QP h1;rw[hjs]at h2;cases h2
      |false=>exact(hrow.step j _ TW).2 (hqt j _ TW hb)
   have hih:∀(β2 Th:Nat) (m2:bH) (ta2:Array Value) (a2:Act) (w2:World),qm P l T H m w (mark (λj=>listed.getD j false) i) β2 Th m2 ta2 w2->nK ops l0 w (mark (λj=>listed.getD j false) i) ta2 a2.tmps m2 w2->a2.defers=a1.defers->
     wpAnyIn (Fd ro) 0 P .any ops Q fuel (listed.setIfInBounds i true) a2 w2:=λβ2 Th m2 ta2 a2 w2 M2 I2 Sv=>
    ih (listed.setIfInBounds i true) β2 Th m2 ta2 a2 w2 (by simpa using OB) Rr P5 (by rw[wS Om];exact M2) (by rw[wS Om];exact I2) (Sv.trans hd)
   rcases Sy i io hio with⟨k,t,z,n,x,p,e⟩|⟨s,t,z,n,x,p,e⟩|⟨⟨o',ho',Oy⟩,n1,n2⟩
   ·
    subst e;obtain⟨os,hos,hosd,Oy⟩:=hps p;rw[ho]at hos;cases hos;obtain⟨ok,Rw,OT,_⟩:=TL p;have R5:listed.getD k false=true:=hahead k (dO Rw) (((cG hsl p.ks Rw ho).1 t OT).2 (hlooks ho p.lt));have hpend:=I.pd _ _ _ _ _ _ p R5 Ph;obtain⟨cb,d,cc,el,fz,P4,hheap,OC,hfz,hcon,TA,hout⟩:=hpend;obtain⟨θ',Pj,M'⟩:=Qu rfl;have PQ:=M'.cut hG PU (Nat.le_of_lt Pj);obtain⟨X,hX1,hX2,QX,T9,hTs⟩:∃X:List AV,X=(val (T i) x).cells/\(X.all AV.one=true/\X.length=n)/\t<(T i).length/\H (i+1)=H i++[.cells X true false]/\T (i+1)=put (T i) (some t) (.ptr (H i).length 0):=by
     generalize H (i+1)=H1 at bE;generalize T (i+1)=T1 at bE;cases bE with
     |run hw hb hs=>
      have hs:cV (.mD n x) (val (T i)) (H i)=some (_,_):=hs;simp only[cV]at hs;split at hs
      case isFalse=>cases hs
      rename_i OF;cases hs;exact⟨_,rfl,OF,hb,rfl,rfl⟩
     |skip hw=>exact absurd trivial hw
    have hr1:=PQ.J1 hheap hfz (λb e he=>hout b e (bH.eI _ _ _ _ he)) OC (λj y hy=>by
     obtain⟨h1,v,h2,h3⟩:=hcon j y hy;exact⟨h1,v,h2,h3 _⟩)
    generalize hmc:(m1.da (H i).length).add (H i).length ⟨cb,d,cc.size,true⟩=mc at hr1;have Sm:mc (H i).length=some ⟨cb,d,cc.size,true⟩:=by rw[<-hmc];simp[bH.add]
    have RC:∀b,b≠(H i).length->mc b=(m1.da (H i).length) b:=λb hb=>by rw[<-hmc];unfold bH.add;rw[Ur hb]
    have hmcl:(m1.da (H i).length).le mc:=λb e he=>by
     by_cases hb:b=(H i).length
     ·subst hb;have:=PQ.cD _ _ he;omega
     ·rw[RC b hb];exact he
    have QV:val (put (T i) (some t) (.ptr (H i).length 0)) x=val (T i) x:=by
     cases x with
     |t u=>
      have hut:=(p.xt u rfl).1;simp only[val];exact vG (λe=>hut (Vc e).symm)
     |_=>rfl
    have hvt:val (put (T i) (some t) (.ptr (H i).length 0)) (.t t)=.ptr (H i).length 0:=by
     simp only[val,put,List.getD];rw[UY QX];rfl
    have hzl:z.cells.length=X.length:=by rw[p.zn,hX2.2]
    have TV:cY P {dst:=none,k:=.store n (.t t) x,gd:=none,q:=true} (put (T i) (some t) (.ptr (H i).length 0)) (H i++[.cells z.cells true false]) (put (T i) (some t) (.ptr (H i).length 0)) (H (i+1)):=by
     refine cY.run (v:=au) trivial trivial ?_;show cV (.store n (.t t) x) _ _=some (au,H (i+1));simp only[cV,hvt,QV];rw[Un (Uq _),Vb];show(if(val (T i) x).cells.length=n/\(val (T i) x).cells.all AV.one=true/\0+n<=z.cells.length then some (au,(H i++[ai.cells z.cells true false]).set (H i).length (.cells (fq z.cells 0 (val (T i) x).cells) true false))else none)=_;rw[<-hX1,Ut ⟨hX2.2,hX2.1,by rw[p.zn];omega⟩];have aR:=o9 X z.cells [] hzl;rw[VD,VD,Ul]at aR;rw[aR,U0 _ _ (Uq _),Vb,T9];rfl
    refine eZ ho Oy hr1.gv hr1 (by rw[lh];exact hTn i Om) (λu hu=>?_) TV ro _ Q ?_
    ·by_cases hut:u=t
     ·subst hut;have:(put (T i) (some u) (AV.ptr (H i).length 0)).getD u au=.ptr (H i).length 0:=hvt;rw[this,P4];exact⟨_,Sm,by rw[UX]⟩
     ·have hnp:∀k s z n x,¬bR ops l0 k s u z n x:=λk' s' z' n' x' p'=>by
       have e:=hpt ho hu _ _ _ _ _ p';exact hut ((U _ _ _ _ _ _ _ _ _ _ _ _ p' p).2.2.1 e.symm)
      rw[vG (λe=>hut (Vc e).symm),T6 u hnp];exact VR.mono hmcl _ _ (hslot β θ' M' (Nat.le_of_lt Pj) u hu hnp)
    ·intro cv v m' w' _ _ hr' OG;have hlen1:(H i++[ai.cells z.cells true false]).length=(H i).length+1:=Si
     have RF:(H (i+1)).length=(H i).length+1:=by rw[T9];simp
     have TP:∀b,b<(H i).length+1->m' b=mc b:=λb hb=>OG.ext b (by rw[hlen1];exact hb)
     have TQ:m' (H i).length=some ⟨cb,d,cc.size,true⟩:=by rw[TP _ Om];exact Sm
     have SU:∀b e,(H i).length<=b->m' b=some e->b=(H i).length/\e=⟨cb,d,cc.size,true⟩:=λb e hb he=>by
      have h1:=hr'.cD b e he;rw[RF]at h1;have:b=(H i).length:=Om
      subst this;rw[TQ]at he;cases he;exact⟨rfl,rfl⟩
     have M2:=M'.Ew hG PU Pj Ph hio hr' (λb hb=>by rw[TP b Om,RC b Om])
      (λb e hb he=>by
       obtain⟨_,rfl⟩:=SU b e hb he;exact⟨rfl,TA,λb' e' h=>hout b' e' h⟩)
      (λy hy h1 h2=>OG.frame y hy λb e he ho' hcb=>by
       by_cases hb:b=(H i).length
       ·subst hb;rw[Sm]at he;cases he;exact h2 _ _ (Uq _) TQ hcb
       ·rw[RC b hb]at he;exact h1 b e he ho' hcb)
      OG.size OG.os OG.out OG.tape (v:=.ptr (H i).length 0) (cv:=a1.tmps.getD t undef) (by rw[P4];exact⟨_,TQ,by rw[UX]⟩) hTs (hTl i Om) (huniq i _ hio)
     have TK:a1.put o.dst cv=a1:=by rw[hosd];rfl
     rw[TK];refine hih _ _ _ _ a1 w' M2 (I.fill U p (by rw[hTn i Om];exact QX) (λzc c hne q=>?_) R5 Ph) rfl;refine q.move (λRX d' hc hlt h7=>?_) (λRX d' hc hlt h7 b e he=>?_)
     ·refine OG.frame RX hlt λb e he _ hcb=>?_
      by_cases hb:b=(H i).length
      ·subst hb;rw[Sm]at he;cases he;exact hne _ _ _ _ hc P4 hcb.symm
      ·rw[RC b hb]at he;exact h7 b e (bH.eI _ _ _ _ he) hcb
     ·unfold bH.patch at he;split at he
      ·rename_i hb;by_cases hbl:b<(H i).length
       ·rw[TP b Om,RC b Om]at he;exact h7 b e (bH.eI _ _ _ _ he)
       ·obtain⟨_,rfl⟩:=SU b e Om he
        exactλhcb=>hne _ _ _ _ hc P4 hcb.symm
      ·exact h7 b e he
   ·
    subst e;obtain⟨ok,Rw,OT,Oy⟩:=TL p;rw[ho]at Rw;cases Rw;obtain⟨os,hos,_⟩:=hps p;have hss:listed.getD s false=false:=by
     cases hx:listed.getD s false with
     |false=>rfl
     |true=>
      have:=hcl s i hx hin (((cG hsl p.ks ho hos).1 t OT).2 (hlooks hos p.lt));rw[Ph]at this;cases this
    obtain⟨θ',Pj,M'⟩:=Qu rfl;have PQ:=M'.cut hG PU (Nat.le_of_lt Pj);have QX:t<(T i).length:=by
     have hsl':s<l.length:=by rw[hlen];exact dO hos
     have PS:l[s]? =some l[s]:=Uj hsl';have OX:=(hrow.step s _ PS).1;rcases Sy s _ PS with⟨k',t',z',n',x',p',e⟩|⟨s',t',z',n',x',p',e⟩|⟨_,n1,_⟩
     ·have e2:=(U _ _ _ _ _ _ _ _ _ _ _ _ p p').2.2.1 rfl;subst e2;rw[e]at OX;generalize H (s+1)=H1 at OX;generalize T (s+1)=T1 at OX;have:t<(T s).length:=by
       cases OX with
       |run hw hb hs=>exact hb
       |skip hw=>exact absurd trivial hw
      rw[hTl s Om]at this;rw[hTl i Om];exact this
     ·exact absurd rfl ((U _ _ _ _ _ _ _ _ _ _ _ _ p' p).2.2.2)
     ·exact absurd p (n1 _ _ _ _ _)
    have hHk:H (i+1)=H i/\T (i+1)=T i:=by
     generalize H (i+1)=H1 at bE;generalize T (i+1)=T1 at bE;cases bE with
     |run hw hb hs=>
      have hs:cV (.dq (.c (.bool false))) (val (T i)) (H i)=some (_,_):=hs;simp only[cV]at hs;cases hs;exact⟨rfl,rfl⟩
     |skip hw=>exact absurd trivial hw
    have TV:cY P {dst:=some t,k:=.box (.c z),gd:=none,q:=true} (T i) (H i) (put (T i) (some t) (.ptr (H i).length 0)) (H i++[.cells z.cells true false]):=by
     refine cY.run (v:=.ptr (H i).length 0) trivial trivial ?_;exact Ut (show(val (T i) (.c z)).cells.all AV.one=true from UJ.2 λy hy=>Bf (UJ.1 p.zc y hy))
    refine eZ ho Oy PQ.gv PQ (hTn i Om) (λu hu=>?_) TV ro _ Q ?_
    ·have hnp:∀k s z n x,¬bR ops l0 k s u z n x:=λk' s' z' n' x' p'=>by
      have e:=hpt ho hu _ _ _ _ _ p';exact(U _ _ _ _ _ _ _ _ _ _ _ _ p p').2.2.2 e
     rw[T6 u hnp];exact hslot β θ' M' (Nat.le_of_lt Pj) u hu hnp
    ·intro cv v m' w' PA PK hr' OG;have hv:v=.ptr (H i).length 0:=by
      rw[OT]at PA;have:=UM (λl:TS=>l[t]?) PA;simp only[put]at this;rw[UY QX,UY QX]at this;exact(Vc this).symm
     subst hv;obtain⟨e,he,P4⟩:=PK;obtain⟨cc,el,fz,O7,O0,hb3,hb4,hb5⟩:=hr'.dU _ e _ he (by rw[Un (Uq _),Vb];rfl);obtain⟨hown,hex⟩:=hb5 (.inl rfl);have hex:=hex rfl;obtain⟨_,hnew⟩:=OG.new _ e (Uq _) he;have hfar:w1.heap.size<=e.cb:=by
      rcases hnew with hnew|⟨b0,e0,c1,_,_,c4,c5⟩
      ·exact hnew
      ·have:=PQ.cD b0 e0 c1;unfold dP at c4 c5;rw[Ug this]at c5;rw[c5]at c4;cases c4
     rw[UX]at P4;have Re:=PQ.forget hr' OG;have QA:=OG.forget;have M2:=M'.next hG PU Pj Ph hio (m1:=m'.da (H i).length) (w1:=w') (by rw[hHk.1];exact Re) (by rw[hHk.1];exact QA) (v:=.bool false) (cv:=.bool false) rfl (by rw[hHk.2];rfl) (hTl i Om) (huniq i _ hio);have hin2:∀b e',((m'.da (H i).length).patch m1 (H (i+1)).length) b=some e'->m1 b=some e':=λb e' h=>by
      unfold bH.patch at h;split at h
      ·have hbl:b<(H i).length:=by
        unfold bH.da at h;split at h
        ·assumption
        ·cases h
       rw[QA.ext b hbl]at h;exact bH.eI _ _ _ _ h
      ·exact h
     have hp2:∀zc c,jG m1 w w1 zc c->jG ((m'.da (H i).length).patch m1 (H (i+1)).length) w w' zc c:=λzc c q=>q.move
      (λRX d' _ hlt h7=>OG.frame RX hlt λb e' h _=>h7 b e' (bH.eI _ _ _ _ h)) (λRX d' _ hlt h7 b e' h=>h7 b e' (hin2 b e' h))
     have TK:(a1.put o.dst cv).tmps=fY a1.tmps (some t) cv:=by rw[OT];rfl
     refine hih _ _ _ _ (a1.put o.dst cv) w' M2 ?_ (put_defers ..);rw[TK];show nK ops l0 w _ (fY ta FO.dst _) _ _ _;refine I.make U p (by rw[hTn i Om];exact QX) hss ?_ (λRX d' h=>?_) hp2
     ·refine⟨e.cb,e.d,cc,el,fz,P4,O7,Om,(hb4 hown).2,λj y hy=>?_,Vk M.grow.size hfar,λb e' h=>?_⟩
      ·obtain⟨h1,v,h2,h3⟩:=hb3 j y hy;exact⟨h1,v,h2,Db (UJ.1 p.zc y (U5 hy)) h3⟩
      ·have:=M.hr.lt b e' (hin2 b e' h);omega
     ·rw[P4]at h;cases h;exact hfar
   ·
    rw[ho]at ho';cases ho';obtain⟨T3,hioq⟩:=cU Oy;have hnp:∀t,t∈o.looksAt ops->∀k s z n x,¬bR ops l0 k s t z n x:=λt ht k s z n x p=>by
     have:=hpt ho ht k s z n x p;subst this;exact n1 _ _ _ _ _ p
    have PX:∀k s t z n x,bR ops l0 k s t z n x->io.dst≠some t:=λk s t z n x p hx=>by
     obtain⟨ok,h1,h2,_⟩:=TL p;have e:=hdU _ _ _ _ _ h1 ho h2 (by rw[<-T3];exact hx);subst e;exact n2 _ _ _ _ _ p
    have Oh:∀(β' θ':Nat),qm P l T H m w (λj=>listed.getD j false) β' θ' m1 ta w1->β'<=i->i<=θ'->
      (∀cv v m' w',T (i+1)=put (T i) io.dst v->VR m' v cv->HR P m' (H (i+1)) w'->Grow (m1.da (H i).length) (H i) w1 m' (H (i+1)) w'->∃β2 Th m2,qm P l T H m w (mark (λj=>listed.getD j false) i) β2 Th m2 (fY ta io.dst cv) w'/\∀zc c,jG m1 w w1 zc c->jG m2 w w' zc c)->
      wpOpIn (Fd ro) 0 P ops Q i (wpAnyIn (Fd ro) 0 P .any ops Q fuel (listed.setIfInBounds i true)) a1 w1:=by
     intro β' θ' M' hb' hi' Rx;have PQ:=M'.cut hG hb' hi';refine eZ ho Oy PQ.gv PQ (hTn i Om) (λt ht=>?_) bE ro _ Q ?_
     ·rw[T6 t (hnp t ht)];exact hslot β' θ' M' hi' t ht (hnp t ht)
     ·intro cv v m' w' PA PK hr' OG;obtain⟨β2,Th,m2,M2,hp2⟩:=Rx cv v m' w' (by rw[T3];exact PA) PK hr' OG;have:(a1.put o.dst cv).tmps=fY a1.tmps io.dst cv:=by rw[T3];cases o.dst<;>rfl
      exact hih β2 Th m2 _ _ w' M2 (by rw[this];exact I.other n1 n2 PX hp2) (put_defers ..)
    by_cases Qf:io.q=true
    ·obtain⟨θ',Pj,M'⟩:=Qu Qf;exact Oh β θ' M' PU Om λcv v m' w' PA PK hr' OG=>⟨β,θ',_,M'.next hG PU Pj Ph hio hr' OG PK PA (hTl i Om) (huniq i io hio),λzc c q=>(q.grow OG).2⟩
    ·have hbar:fU (Region.before ops) ops.size i=true:=by
      rw[hioq]at Qf
      simpa using Qf
     have hall:∀j,j<i->listed.getD j false=true:=λj hj=>hahead j Om ((mF hbar (show j<ops.size by omega) Om).1 hj)
     by_cases Pj:i<θ
     ·exact Oh β θ M PU Om λcv v m' w' PA PK hr' OG=>⟨β,θ,_,M.next hG PU Pj Ph hio hr' OG PK PA (hTl i Om) (huniq i io hio),λzc c q=>(q.grow OG).2⟩
     ·have hθi:θ=i:=by
       by_cases hz:i=0
       ·omega
       ·have:=M.high (i-1) (hall _ Om);omega
      subst hθi;exact Oh β θ M PU (Uq _) λcv v m' w' PA PK hr' OG=>⟨θ+1,θ+1,m',M.jump st.hr.cD hall Om hio hr' OG PK PA (hTl θ Om) (huniq θ io hio),λzc c q=>(q.grow OG).1⟩
 have Ou:∀j,(Array.replicate ops.size false).getD j false=false:=λj=>by
  exact Kj
 refine key ops.size (Array.replicate ops.size false) 0 0 m a.tmps a _ Si ?_ (λj x hj _ _=>by simp[Ou j]at hj) ?_ ?_ rfl
 ·exact Kn
 ·refine⟨Uq _,UK _,λj hj=>absurd hj Om,λj hj=>by simp[Ou j]at hj,λj _ hj=>absurd hj Om,λj hj=>absurd hj Om,st.hr.drew,λj hj=>absurd hj Om,?_,λj _ hj=>absurd hj Om,
   (Grow.refl m _ w st.hr.cD).drew,?_,?_,?_⟩
  ·intro i hi hi' b e k hb Pg hk;have:i=0:=Om
   subst this;exact(st.hr.dU b e k Pg hk).gT st.hr.cD
  ·exact z109
  ·intro d _;exact lN st.ts d
  ·intro d j o _ hj _;simp only[Ou j]at hj;cases hj
 ·exact⟨rfl,λ_ _=>rfl,λk s t z n x p hk=>by simp[Ou k]at hk,λk s t z n x k' s' t' z' n' x' p p' hk=>by simp[Ou k]at hk⟩
def FF{k}(hk:eV k=true){ρ h h' v}(hs:kX k ρ h v h'):h' =h/\∀g,kX k ρ g v g:=by
 cases k<;>first
  |(cases hk;done)
  |skip
 case conv c x=>
  cases c<;>first
   |(cases hk;done)
   |skip
  have hs:cV _ _ _=some (_,_):=hs;simp only[cV,jl]at hs;split at hs
  ·rename_i k n hx;cases hs;refine⟨rfl,λg=>?_⟩;show cV _ _ _=some (_,_);simp only[cV,jl,hx]
  ·cases hs
 case len lk x=>
  have e:lk≠.mp->∀g,yq lk g (ρ x)=yq lk h (ρ x):=λhl g=>by
   cases lk<;>first|exact absurd rfl hl|skip
   all_goals
    cases ρ x<;>first|rfl|(simp only[yq,reduceCtorEq,UC];repeat' split)<;>rfl
  have hl:lk≠.mp:=λe=>by rw[e]at hk;cases hk
  have hs:cV _ _ _=some (_,_):=hs;simp only[cV]at hs;split at hs
  ·rename_i n hn;cases hs;refine⟨rfl,λg=>?_⟩;show cV _ _ _=some (_,_);simp only[cV,e hl g,hn]
  ·cases hs
 all_goals
  have hs:cV _ _ _=some (_,_):=hs;simp only[cV]at hs
  repeat' split at hs
  all_goals first
   |(cases hs;done)
   |(cases hs
     refine⟨rfl,λg=>?_⟩;show cV _ _ _=some (_,_);simp only[cV, *]
     done)
   |(cases hs
     refine⟨rfl,λg=>?_⟩;show cV _ _ _=some (_,_);simp[cV, *]
     done)
def vI{P o}(hk:eV o.k=true){ts ts' h h'}(hs:cY P o ts h ts' h'):h' =h/\∀g,cY P o ts g ts' g:=by
 cases hs with
 | @run v h' hw hb hs=>
  have On:kX o.k (val ts) h v h':=by
   cases P0:o.k<;>rw[P0]at hs hk<;>first|exact hs|(cases hk;done)
  obtain⟨rfl,h2⟩:=FF hk On;refine⟨rfl,λg=>.run hw hb ?_⟩;have:=h2 g;cases P0:o.k<;>rw[P0]at this hk<;>first|exact this|(cases hk;done)
 |skip hw=>exact⟨rfl,λg=>.skip hw⟩
def vF{P o}(hk:bX o.k=true){ts ts' h h'}(hs:cY P o ts h ts' h'):h' =h:=by
 by_cases hp:eV o.k=true
 ·exact(vI hp hs).1
 ·cases P0:o.k with
  |load n a=>
   cases hs with
   |run hw hb hs=>
    rw[P0]at hs;have hs:cV (.load n a) _ _=some (_,_):=hs;simp only[cV]at hs
    repeat' split at hs
    all_goals first
     |(cases hs;done)
     |(cases hs;rfl)
   |skip hw=>rfl
  |_=>rw[P0]at hk hp;exact absurd hk hp
def DF{P o}(hk:jE o=true){ts ts' h h'}(hs:cY P o ts h ts' h')(hq:o.q=true->∃g,h' =h++g):∃g,h' =h++g:=by
 by_cases hqq:o.q=true
 ·exact hq hqq
 have hk:Bu o.k=true:=by
  have:o.q=false:=by simpa using hqq
  simpa [jE,this]using hk
 cases hs with
 |run hw hb hs=>
  cases P0:o.k<;>rw[P0]at hk hs<;>first|(cases hk;done)|skip
  case aY es n z ps=>
   have hs:kX (.aY es n z ps) _ _ _ _:=hs;obtain⟨c,mu,tl,_,_,_,_,e⟩:=hs;exact⟨_,e⟩
  all_goals
   have hs:cV _ _ _=some (_,_):=hs;simp only[cV]at hs
   repeat' split at hs
   all_goals first
    |(cases hs;done)
    |(cases hs;exact⟨_,rfl⟩)
 |skip hw=>exact⟨[],Si⟩
def AD{P o n a}(hk:o.k=.load n a){ts ts' h}(hs:cY P o ts h ts' h)(g:af):cY P o ts (h++g) ts' (h++g):=by
 generalize hh:h=h2 at hs;cases hs with
 | @run v _ hw hb hs=>
  subst hh;refine .run hw (by rw[hk];trivial) ?_;rw[hk]at hs ⊢;have hs:cV (.load n a) (val ts) h=some (v,h):=hs;show cV (.load n a) (val ts) (h++g)=some (v,h++g);simp only[cV]at hs ⊢;cases hv:val ts a with
  |ptr b off=>
   rw[hv]at hs;simp only at hs ⊢;cases O0:h[b]? with
   |none=>rw[O0]at hs;cases hs
   |some k=>
    rw[Ug (Ue.1 O0).1,O0];rw[O0]at hs;cases k with
    |cells c mu tl=>
     simp only at hs ⊢;cases n with
     |none=>
      simp only at hs ⊢;cases hc:c[off]? with
      |none=>rw[hc]at hs;cases hs
      |some x=>rw[hc]at hs;cases hs;rfl
     |some n=>
      simp only at hs ⊢;by_cases hlt:off+n<=c.length
      ·rw[Ut hlt]at hs ⊢;cases hs;rfl
      ·rw[Ur hlt]at hs;cases hs
    |_=>cases hs
  |_=>rw[hv]at hs;cases hs
 |skip hw=>subst hh;exact .skip hw
def HR.Ah{P m h w}(hr:HR P m h w)(g:af):HR P m (h++g) w where
 cD:=λb e hb=>by have:=hr.cD b e hb;simp;omega
 dU:=λb e k hb hk=>hr.dU b e k hb (by rwa [Ug (hr.cD b e hb)]at hk)
 sep:=λb1 b2 e1 e2 k1 k2 hne h1 h2 hk1 Oi hcb=>hr.sep b1 b2 e1 e2 k1 k2 hne h1 h2 (by rwa [Ug (hr.cD b1 e1 h1)]at hk1) (by rwa [Ug (hr.cD b2 e2 h2)]at Oi) hcb
 fG:=hr.fG
 lt:=hr.lt
def HR.F0{P m h g w}(hr:HR P m (h++g) w)(hd:∀b e,m b=some e->b<h.length):HR P m h w where
 cD:=hd
 dU:=λb e k hb hk=>hr.dU b e k hb (by rw[Ug (hd b e hb)];exact hk)
 sep:=λb1 b2 e1 e2 k1 k2 hne h1 h2 hk1 Oi hcb=>hr.sep b1 b2 e1 e2 k1 k2 hne h1 h2 (by rw[Ug (hd b1 e1 h1)];exact hk1) (by rw[Ug (hd b2 e2 h2)];exact Oi) hcb
 fG:=hr.fG
 lt:=hr.lt
def iq{M l}(h:mh M l=true){i j x y}(hij:i<j)(hx:l[i]? =some x)(hy:l[j]? =some y)(px:eV x.k=false)(py:eV y.k=false)(lx:kR x=false)(ly:kR y=false)
  (hr:(bX x.k=false/\bX y.k=false)\/(bX x.k=false/\jE x=false)\/(bX y.k=false/\jE y=false)):ahead M i j=true:=by
 have hj:j<l.length:=(Ue.1 hy).1;unfold mh at h;rw[UJ]at h;have h1:=h j (Vo.2 hj);rw[UJ]at h1;have h2:=h1 i (Vo.2 hij);rw[hx,hy]at h2;simp only[px,py,lx,ly,Wr]at h2;rcases hr with⟨a,b⟩|⟨a,b⟩|⟨a,b⟩<;>simpa [a,b]using h2
theorem wX:∀{l}{i}{o},l[i]? =some o->AF o=false->i<de l
 |[],i,o,h,_=>by simp at h
 |x::r,i,o,h,hk=>by
  have hn:¬jv (x::r)=true:=λhall=>by
   have:=UJ.1 (Bool.and_eq_true_iff.1 hall).1 o (U5 h);rw[hk]at this;cases this
  rw[de,Ur hn];cases i with
  |zero=>omega
  |succ i=>have:=wX (l:=r) (i:=i) (by simpa using h) hk;omega
def n6{M l}(h:lu M l=true){i j x y}(hx:l[i]? =some x)(lx:kR x=true)(hy:l[j]? =some y)(ky:bX y.k=false)(hj:de l<=j):ahead M i j=true:=by
 unfold lu at h;rw[UJ]at h;have h1:=h i (Vo.2 (Ue.1 hx).1);rw[hx]at h1;simp only[lx,UA,Wr,UJ,Vo]at h1;have h2:=h1 j (Ue.1 hy).1;rw[hy]at h2;have Sr:¬j<de l:=Om
 simpa [ky,Sr]using h2
def po{P cq}(hmix:P.follows .mixedOrders=true){ops l}(hed:jA (Region.before ops) ops=true)(hsl:kj (Region.before ops) ops=true)
  (hc:dX (λ_ o=>bx P ops (qe cq o) o) ops.toList 0=some l) (hmo:mh (Region.before ops) l=true) {T}{H}(hrow:Row P l T H) (hstab:∀(i:Nat) (io:bo),l[i]? =some io->kR io=true->∀θ,θ<=de l->cY P io (T i) (H θ) (T (i+1)) (H θ)) (hlate:∀(i j:Nat) (x y:bo),l[i]? =some x->kR x=true->l[j]? =some y->bX y.k=false->de l<=j->ahead (Region.before ops) i j=true) {m}{a}{w}
  (st:St P m (T 0) (H 0) a w) (ro:Option Nat) (Q:Exit->Act->World->Prop) (hQ:∀m' a' w',St P m' (T l.length) (H l.length) a' w'->Grow m (H 0) w m' (H l.length) w'->a'.defers=a.defers->Q .normal a' w') (id:Nat):
  (Code.region id ops true).wpIn (Fd ro) 0 P Q a w:=by
 refine wpIn_region_any hmix ?_;obtain⟨OE,Ov⟩:=fJ hc;simp only[Wq]at OE;have RO:∀(j:Nat) (io:bo),l[j]? =some io->∃o,ops[j]? =some o/\bx P ops (qe cq o) o=some io:=λj io hj=>by
  exact KI
 have Pm:∀(j:Nat) (io:bo) (d:Nat),l[j]? =some io->io.dst=some d->∃o,ops[j]? =some o/\o.dst=some d:=λj io d hj hd=>by
  exact KA
 have huniq:∀(i j:Nat) (oi oj:bo) (d:Nat),l[i]? =some oi->l[j]? =some oj->oi.dst=some d->oj.dst=some d->i=j:=λi j oi oj d hi hj h1 h2=>by
  exact KK
 have PG:∀(j:Nat) (io:bo),l[j]? =some io->∃v,T (j+1)=put (T j) io.dst v:=λj io hj=>(hrow.step j io hj).1.put
 have hTl:∀j,j<=l.length->(T j).length=(T 0).length:=by
  intro j
  induction j with
  |zero=>intro _;rfl
  |succ j ih=>
   intro hj;exact KC
 have OA:∀x y t,x<=y->y<=l.length->(∀(j:Nat) (o:bo),x<=j->j<y->l[j]? =some o->o.dst≠some t)->(T y).getD t au=(T x).getD t au:=by
  intro x y t hxy hy hno;exact Ns
 have QI:∀(j:Nat) (io:bo),l[j]? =some io->bX io.k=true->H (j+1)=H j:=λj io hj hk=>vF hk (hrow.step j io hj).1
 have QJ:∀x k,x+k<=l.length->(∀(j:Nat) (o:bo),x<=j->j<x+k->l[j]? =some o->bX o.k=true)->H (x+k)=H x:=by
  intro x k
  induction k with
  |zero=>intro _ _;rfl
  |succ k ih=>
   intro hk hno;exact z46
 have Tc:∀x k,x+k<=l.length->(∀(j:Nat) (o:bo),x<=j->j<x+k->l[j]? =some o->bX o.k=true\/jE o=true)->∃g,H (x+k)=H x++g:=by
  intro x k
  induction k with
  |zero=>intro _ _;exact⟨[],Si⟩
  |succ k ih=>
   intro hk hno;have hj:l[x+k]? =some (l[x+k]'Om):=Uj Om;obtain⟨g,hg⟩:=ih Om λj o h1 h2 h3=>hno j o h1 Om h3
   rcases hno _ _ Om Om hj with h1|h1
   ·exact⟨g,by rw[show x+(k+1)=x+k+1 from by omega,QI _ _ hj h1,hg]⟩
   ·obtain⟨g2,RJ⟩:=DF h1 (hrow.step _ _ hj).1 (hrow.step _ _ hj).2;exact⟨g++g2,by rw[show x+(k+1)=x+k+1 from by omega,RJ,hg,Uf]⟩
 have Q2:∀x y,x<=l.length->y<=l.length->(∀(j:Nat) (o:bo),l[j]? =some o->bX o.k=false->(j<x↔j<y))->H x=H y:=by
  intro x y hx hy hno;exact Nw
 have hdone:∀(listed:Array Bool) (θ:Nat) (m1:bH) (a1:Act) (w1:World),(∀i,i<ops.size->listed.getD i false=true)->θ<=l.length->
   (∀(j:Nat) (o:bo),l[j]? =some o->bX o.k=false->(j<θ↔listed.getD j false=true))->HR P m1 (H θ) w1->Grow m (H 0) w m1 (H θ) w1->a1.tmps.size=(T 0).length->
   (∀(d:Nat),(∀(j:Nat) (o:bo),l[j]? =some o->listed.getD j false=true->o.dst≠some d)->VR m1 ((T 0).getD d au) (a1.tmps.getD d undef))->
   (∀(d j:Nat) (o:bo),l[j]? =some o->listed.getD j false=true->o.dst=some d->VR m1 ((T (j+1)).getD d au) (a1.tmps.getD d undef))->a1.defers=a.defers->Q .normal a1 w1:=by
  intro listed θ m1 a1 w1 hall hθ hS hr hg dO h1 h2 hd;have e:=Q2 θ l.length hθ (Uq _) λj o hj hk=>by
   have QP:=(Ue.1 hj).1;have:=(hS j o hj hk).2 (hall j Om);omega
  rw[e]at hr hg;refine hQ m1 a1 w1 ⟨hr,cw.gf ?_ ?_⟩ hg hd
  ·exact E8
  ·intro t x hx;exact NA
 have key:∀(fuel:Nat) (listed:Array Bool) (θ:Nat) (m1:bH) (a1:Act) (w1:World),listed.size=ops.size->oX listed ops.size<=fuel->
   (∀j x,listed.getD j false=true->x<ops.size->ahead (Region.before ops) x j=true->listed.getD x false=true)->θ<=l.length->(θ<=de l\/∃(j:Nat) (o:bo),l[j]? =some o/\bX o.k=false/\de l<=j/\j<θ)->
   (∀(j:Nat) (o:bo),l[j]? =some o->bX o.k=false->(j<θ↔listed.getD j false=true))->HR P m1 (H θ) w1->Grow m (H 0) w m1 (H θ) w1->a1.tmps.size=(T 0).length->
   (∀(d:Nat),(∀(j:Nat) (o:bo),l[j]? =some o->listed.getD j false=true->o.dst≠some d)->VR m1 ((T 0).getD d au) (a1.tmps.getD d undef))->
   (∀(d j:Nat) (o:bo),l[j]? =some o->listed.getD j false=true->o.dst=some d->VR m1 ((T (j+1)).getD d au) (a1.tmps.getD d undef))->a1.defers=a.defers->wpAnyIn (Fd ro) 0 P .any ops Q fuel listed a1 w1:=by
  intro fuel
  induction fuel with
  |zero=>
   intro listed θ m1 a1 w1 OB hu hcl hθ hL hS hr hg dO h1 h2 hd;have hall:=jR ops.size (show oX listed ops.size=0 by omega);exact⟨kr OB hall,hdone listed θ m1 a1 w1 hall hθ hS hr hg dO h1 h2 hd⟩
  |succ fuel ih=>
   intro listed θ m1 a1 w1 OB hu hcl hθ hL hS hr hg dO h1 h2 hd;refine⟨λhrn=>hdone listed θ m1 a1 w1 (ko hed OB hrn) hθ hS hr hg dO h1 h2 hd,λi hi=>?_⟩;obtain⟨o,ho,Ph,Su⟩:=(gX OB).1 hi;have hin:i<ops.size:=(Uu.1 ho).1;obtain⟨io,hio,Oy⟩:=Ov i o (by simpa using ho);obtain⟨bE,_⟩:=hrow.step i io hio;have hahead:∀x,x<ops.size->ahead (Region.before ops) x i=true->listed.getD x false=true:=λx hx ha=>by
    exact z28
   have P5:∀j x,(listed.setIfInBounds i true).getD j false=true->x<ops.size->ahead (Region.before ops) x j=true->(listed.setIfInBounds i true).getD x false=true:=by
    intro j x hj hx ha;exact Km
   have Rr:oX (listed.setIfInBounds i true) ops.size<=fuel:=by
    exact Kh
   have hslot:∀t,t∈o.looksAt ops->VR m1 ((T i).getD t au) (a1.tmps.getD t undef):=by
    intro t ht;exact NB
   have hrp:∀{k:mU},bX k=false->eV k=false:=λ{k} hk=>by
    cases k<;>first|exact hk|(cases hk;done)
   have hld:∀{o:bo},bX o.k=false->kR o=false:=λ{o} hk=>by
    exact HO
   have hne:∀j,j≠i->(listed.setIfInBounds i true).getD j false=listed.getD j false:=λj hj=>by rw[cM Om,Ur hj]
   have Sf:bX io.k=true->∀(j:Nat) (o:bo),l[j]? =some o->bX o.k=false->(j<θ↔(listed.setIfInBounds i true).getD j false=true):=λPe j oj hj hk=>by
    have hji:j≠i:=λe=>by
     subst e;rw[hio]at hj;cases hj;rw[Pe]at hk;cases hk
    rw[hne j hji];exact hS j oj hj hk
   have OZ:∃θ',θ'<=l.length/\(θ'<=de l\/∃(j:Nat) (o:bo),l[j]? =some o/\bX o.k=false/\de l<=j/\j<θ')/\(∀(j:Nat) (o:bo),l[j]? =some o->bX o.k=false->(j<θ'↔(listed.setIfInBounds i true).getD j false=true))/\∃hb h2,HR P m1 hb w1/\cY P io (T i) hb (T (i+1)) h2/\
     ∀m' w',HR P m' h2 w'->Grow m1 hb w1 m' h2 w'->HR P m' (H θ') w'/\Grow m1 (H θ) w1 m' (H θ') w':=by
    by_cases hp:eV io.k=true
    ·have Pe:bX io.k=true:=by cases P0:io.k<;>rw[P0]at hp<;>first|exact hp|(cases hp;done)
     exact⟨θ,hθ,hL,Sf Pe,H θ,H θ,hr,(vI hp bE).2 _,λm' w' a b=>⟨a,b⟩⟩
    ·have SS:eV io.k=false:=by simpa using hp
     by_cases Rb:kR io=true
     ·have Pe:bX io.k=true:=by
       cases P0:io.k<;>simp[kR,P0]at Rb<;>rfl
      have hθc:θ<=de l:=by
       rcases hL with h|⟨j,oj,h1,h2,h3,h4⟩
       ·exact h
       ·have e:=hcl j i ((hS j oj h1 h2).1 h4) hin (hlate i j io oj hio Rb h1 h2 h3);rw[Ph]at e;cases e
      exact⟨θ,hθ,hL,Sf Pe,H θ,H θ,hr,hstab i io hio Rb θ hθc,λm' w' a b=>⟨a,b⟩⟩
     have Rb:kR io=false:=by simpa using Rb
     by_cases Pe:bX io.k=true
     ·obtain⟨n,ad,P0⟩:∃n ad,io.k=.load n ad:=by
       cases P0:io.k with
       |load n ad=>exact⟨n,ad,rfl⟩
       |_=>rw[P0]at Pe hp;exact absurd Pe hp
      have hHh:∀(j:Nat) (o:bo),l[j]? =some o->bX o.k=false->jE o=false->(j<θ↔j<i):=λj oj hj hk Oi=>by
       have QP:=(Ue.1 hj).1;constructor
       ·intro RG;have P2:=(hS j oj hj hk).1 RG;by_cases e1:j=i
        ·exact E5
        ·by_cases e2:j<i
         ·exact e2
         ·have e3:=iq hmo (show i<j by omega) hio hj SS (hrp hk) Rb (hld hk) (.inr (.inr ⟨hk,Oi⟩));have e4:=hcl j i P2 hin e3;rw[Ph]at e4;cases e4
       ·intro hji;exact(hS j oj hj hk).2 (hahead j Om (iq hmo hji hj hio (hrp hk) SS (hld hk) Rb (.inr (.inl ⟨hk,Oi⟩))))
      have Qt:cY P io (T i) (H i) (T (i+1)) (H i):=by
       have e:=vF Pe bE;rw[e]at bE;exact bE
      by_cases Pj:i<=θ
      ·obtain⟨g,RJ⟩:=Tc i (θ-i) Om λj oj h1 h2 h3=>by
        exact z72
       rw[show i+(θ-i)=θ from by omega]at RJ;refine⟨θ,hθ,hL,Sf Pe,H θ,H θ,hr,?_,λm' w' a b=>⟨a,b⟩⟩;rw[RJ];exact AD P0 Qt g
      ·obtain⟨g,RJ⟩:=Tc θ (i-θ) Om λj oj h1 h2 h3=>by
        exact z72
       rw[show θ+(i-θ)=i from by omega]at RJ;rw[RJ]at Qt;refine⟨θ,hθ,hL,Sf Pe,H θ++g,H θ++g,hr.Ah g,Qt,λm' w' a b=>?_⟩;have hm:m' =m1:=by
        funext z;by_cases hz:z<(H θ++g).length
        ·exact b.ext z hz
        ·have e1:m1 z=none:=by
          cases hx:m1 z with
          |none=>rfl
          |some e=>exact absurd ((hr.Ah g).cD z e hx) hz
         have e2:m' z=none:=by
          cases hx:m' z with
          |none=>rfl
          |some e=>exact absurd (a.cD z e hx) hz
         rw[e1,e2]
       subst hm;exact⟨a.F0 hr.cD,⟨λ_ _=>rfl,Uq _,λz e hz hmz=>absurd (hr.cD z e hmz) Om,λ_ _ x=>x,b.size,b.os,b.out,b.tape,b.frame⟩⟩
     ·have PC:bX io.k=false:=by simpa using Pe
      have hHi:H θ=H i:=Q2 θ i hθ Om λj oj hj hk=>by
       have QP:=(Ue.1 hj).1;constructor
       ·intro RG;have P2:=(hS j oj hj hk).1 RG;by_cases e1:j=i
        ·exact E5
        ·by_cases e2:j<i
         ·exact e2
         ·exact Na
       ·intro hji;exact(hS j oj hj hk).2 (hahead j Om (iq hmo hji hj hio (hrp hk) SS (hld hk) Rb (.inl ⟨hk,PC⟩)))
      refine⟨i+1,Om,(by by_cases hc:i+1<=de l;exact .inl hc;exact .inr ⟨i,io,hio,PC,Om,Om⟩),λj oj hj hk=>?_,H θ,H (i+1),hr,by rw[hHi];exact bE,λm' w' a b=>⟨a,b⟩⟩;have QP:=(Ue.1 hj).1;by_cases e1:j=i
      ·subst e1;rw[cM Om,Ut rfl];exact⟨λ_=>rfl,λ_=>by omega⟩
      ·rw[hne j e1];constructor
       ·intro hji;exact hahead j Om (iq hmo (show j<i by omega) hj hio (hrp hk) SS (hld hk) Rb (.inl ⟨hk,PC⟩))
       ·intro P2;by_cases e2:j<i
        ·omega
        ·exact Na
   obtain⟨θ',Ty,R7,hS',hb,h2',R1,Qt,PF⟩:=OZ;refine eZ ho Oy R1.gv R1 (by rw[dO,hTl i Om]) hslot Qt ro _ Q ?_;intro cv v' m' w' PA PK hrx hgx;obtain⟨hr',OG⟩:=PF m' w' hrx hgx;have OR:io.dst=o.dst:=(cU Oy).1;have Qq:=OG.le hr.cD;have hlt:(listed.setIfInBounds i true).getD i false=true:=by rw[cM Om,Ut rfl]
   have QW:(a1.put o.dst cv).tmps=fY a1.tmps o.dst cv:=by cases o.dst<;>rfl
   refine ih _ θ' m' (a1.put o.dst cv) w' (by simp[OB]) Rr P5 Ty R7 hS' hr' (hg.trans OG st.hr.cD) (by rw[QW,ep];exact dO) ?_ ?_ (by rw[put_defers];exact hd)
   ·intro d hdn;have PX:o.dst≠some d:=by rw[<-OR];exact hdn i io hio hlt
    rw[QW,cZ PX];refine VR.mono Qq _ _ (h1 d λj oj hj hl=>hdn j oj hj ?_);exact Ki
   ·intro d j oj hj hl QD;by_cases e1:j=i
    ·subst e1;rw[hio]at hj;cases hj;rw[PA,QW,<-OR,QD];exact jV (by rw[dO,hTl j Om]) PK
    ·have PX:o.dst≠some d:=λhx=>by
      exact Ky
     rw[QW,cZ PX];rw[hne j e1]at hl;exact VR.mono Qq _ _ (h2 d j oj hj hl QD)
 have Ou:∀j,(Array.replicate ops.size false).getD j false=false:=λj=>by
  exact Kj
 refine key ops.size (Array.replicate ops.size false) 0 m a _ Si ?_ (λj x hj _ _=>by simp[Ou j]at hj) (UK _) (.inl (UK _)) (λj oj hj hk=>⟨λhx=>absurd hx Om,λhx=>by simp[Ou j]at hx⟩) st.hr.drew (Grow.refl m _ w st.hr.cD).drew ?_ (λd _=>lN st.ts d) (λd j o _ hj _=>by simp[Ou j]at hj) rfl
 ·exact Kn
 ·exact z109
section
variable {P:Program}{m m':bH}{h h':af}{w w':World}
def tB{ops i o}(ho:ops[i]? =some o){q io}(hc:bx P ops q o=some io)(hgd0:io.gd=none){ts a v}
  (hg:GV P m) (hr:HR P m h w) (ht:∀t,t∈o.looksAt ops->VR m (ts.getD t au) (a.tmps.getD t undef)) (hs:nL P io.k (val ts) h v h') (ro:Option Nat) (K:Act->World->Prop) (Q:Exit->Act->World->Prop)
  (hn:∀cv m' w',VR m' v cv->HR P m' h' w'->Grow m h w m' h' w'->K (a.put o.dst cv) w'):wpOpIn (Fd ro) 0 P ops Q i K a w:=by
 unfold bx at hc;split at hc
 case h_2=>cases hc
 rename_i g Rd;cases hc;have hg0:g=none:=hgd0;subst hg0;have hw:=oT (m:=m) (ts:=ts) (a:=a) Rd (λt b Q0=>by cases Q0);unfold wpOpIn;rw[ho];simp only;rw[Ut (hw.2 trivial)];simp only at hs;split at hs
 case isFalse=>exact absurd hs mG
 rename_i hgok;cases hk:dJ P o with
 |none=>rw[hk]at hs;exact absurd hs mG
 |some k=>
  rw[hk]at hs;refine tA hk (λx hx x' Oo=>?_) (λz=>rfl) hr hs ro K Q (λcv m' w' h1 h2 h3=>hn cv m' w' h1 h2 h3);exact Nl
def yG{n x}(h:vV x=true):gT n x:=by
 cases x<;>first
  |(cases h;done)
  |skip
 case bool b=>exact⟨λ_=>none,_,(λ_ _ z=>by cases z),rfl⟩
 case int k b=>exact⟨λ_=>none,_,(λ_ _ z=>by cases z),rfl⟩
 case uS k b=>exact⟨λ_=>none,.float k b,(λ_ _ z=>by cases z),⟨b,rfl,.inl rfl⟩⟩
 case uE k a b=>exact⟨λ_=>none,.complex k a b,(λ_ _ z=>by cases z),⟨a,b,rfl,.inl rfl,.inl rfl⟩⟩
 all_goals exact⟨λ_=>none,_,(λ_ _ z=>by cases z),rfl⟩
def vW{n x}(h:gT n x):∀y∈x.cells,gT n y:=by
 obtain⟨ma,va,h1,h2⟩:=h;intro y hy;obtain⟨i,hi,rfl⟩:=WW hy;obtain⟨v,_,hv⟩:=h2.cells.get (Uj hi);exact⟨ma,v,h1,hv⟩
theorem sY:∀{l c}{o}{x},x∈fq c o l->x∈c\/x∈l
 |[],c,o,x,h=>.inl h
 |y::l,c,o,x,h=>by
  have h:x∈fq (c.set o y) (o+1) l:=h;rcases sY h with h|h
  ·rcases Wg h with h|h
   ·exact .inl h
   ·exact .inr (by rw[h];simp)
  ·exact .inr (UL _ h)
theorem pQ{n}:∀{ps}{z c},(∀x∈z,gT n x)->(∀p∈ps,gT n p.2.2)->dW z ps=some c->∀x∈c,gT n x
 |[],z,c,hz,_,h,x,hx=>by cases h;exact hz x hx
 |(off,k,v)::r,z,c,hz,hp,h,x,hx=>by
  rw[dW]at h;split at h
  ·refine pQ (λy hy=>?_) (λp hq=>hp p (UL _ hq)) h x hx;rcases sY hy with hy|hy
   ·exact hz y hy
   ·exact vW (hp (off,k,v) Si) y hy
  ·cases h
theorem sQ:∀{n}{z}{x},x∈du n z->x∈z
 | 0,z,x,h=>by simp[du]at h
 |n+1,z,x,h=>by
  have h:x∈z++du n z:=h;rcases Um.1 h with h|h
  ·exact h
  ·exact sQ h
def Ak(gr:Grow m h w m' h' w')(hd:∀b e,m b=some e->b<h.length){e k}(hk:k.live=true)(hb:BR P m w e k)(hout:∀b e',m b=some e'->e'.cb≠e.cb):BR P m' w' e k/\∀b e',m' b=some e'->e'.cb≠e.cb:=by
 have hlt:=hb.lt hk;refine⟨(hb.heap (gr.frame e.cb hlt λb e' he _=>hout b e' he)).mono (gr.le hd),λb e' he=>?_⟩;by_cases hbl:b<h.length
 ·rw[gr.ext b hbl]at he;exact hout b e' he
 ·obtain⟨_,hc⟩:=gr.new b e' Om he;rcases hc with hc|⟨b0,e0,c1,c2,_⟩
  ·omega
  ·rw[<-c2];exact hout b0 e0 c1
def HR.wg(hr:HR P m h w){e k}(hk:k.live=true)(hb:BR P m w e k)(hout:∀b e',m b=some e'->e'.cb≠e.cb):HR P (m.add h.length e) (h++[k]) w:=by
 have Pf:m h.length=none:=by
  exact Kl
 have hle:m.le (m.add h.length e):=bH.pZ _ Pf;have Oz:∀b e',(m.add h.length e) b=some e'->(b=h.length/\e' =e)\/(b<h.length/\m b=some e'):=λb e' Pz=>by
  exact Ng
 refine⟨λb e' Pz=>?_,λb e' k' Pz hk'=>?_,λb1 b2 e1 e2 k1 k2 hne h1 h2 hk1 Oi hcb=>?_,λg hg=>?_,λb e' Pz=>?_⟩
 ·rw[Ud];rcases Oz b e' Pz with⟨rfl,_⟩|⟨hlt,_⟩
  ·simp
  ·simp;omega
 ·rcases Oz b e' Pz with⟨rfl,rfl⟩|⟨hlt,hm⟩
  ·rw[Un (Uq _),Vb]at hk';cases hk';exact hb.mono hle
  ·rw[Ug hlt]at hk';exact(hr.dU b e' k' hm hk').mono hle
 ·exact Nu
 ·obtain⟨e',he,hx⟩:=hr.fG g hg;exact⟨e',hle _ _ he,hx⟩
 ·rcases Oz b e' Pz with⟨_,rfl⟩|⟨_,hm⟩
  ·exact hb.lt hk
  ·exact hr.lt b e' hm
def Grow.wg{m0 h0 w0}(gr:Grow m0 h0 w0 m h w)(hd0:∀b e,m0 b=some e->b<h0.length)(hd:∀b e,m b=some e->b<h.length){e k}(ho:e.own=true)(hlt:w0.heap.size<=e.cb):Grow m0 h0 w0 (m.add h.length e) (h++[k]) w where
 ext:=λb hb=>by
  have:b≠h.length:=by have:=gr.len;omega
  show(if b=h.length then some e else m b)=_;rw[Ur this];exact gr.ext b hb
 len:=by rw[Ud];have:=gr.len;omega
 new:=λb e' hb he=>by
  unfold bH.add at he;by_cases hx:b=h.length
  ·rw[Ut hx]at he;cases he;exact⟨ho,.inl hlt⟩
  ·rw[Ur hx]at he;obtain⟨h1,hc⟩:=gr.new b e' hb he;refine⟨h1,?_⟩;rcases hc with hc|⟨b0,e0,c1,c2,c3,c4,c5⟩
   ·exact .inl hc
   ·have:=hd0 _ _ c1;exact .inr ⟨b0,e0,c1,c2,c3,c4,by rw[fg (by have:=gr.len;omega)];exact c5⟩
 tl:=λb hb ht=>by
  rw[fg (by have:=gr.len;omega)]at ht;exact gr.tl b hb ht
 size:=gr.size
 os:=gr.os
 out:=gr.out
 tape:=gr.tape
 frame:=gr.frame
end
def nV{M l f}(h:pD M l f=true){i j x y}(hij:i<j)(hx:l[i]? =some x)(hy:l[j]? =some y)(px:eV x.k=false)(py:eV y.k=false)(lx:kR x=false)(ly:kR y=false)(hj:j≠f):ahead M i j=true:=by
 have QP:j<l.length:=(Ue.1 hy).1;unfold pD at h;rw[UJ]at h;have h1:=h j (Vo.2 QP);rw[UJ]at h1;have h2:=h1 i (Vo.2 hij);rw[hx,hy]at h2
 simpa [px,py,lx,ly,hj]using h2
structure Oc(ops:Array Oper)(l:List bo)(f df es n:Nat)(z:List AV)(ps:List (Nat×cK))(q:Bool):Prop where
 hf:l[f]? =some {dst:=some df,k:=.aY es n z ps,gd:=none,q:=q}
 hz:∀x∈z,vV x=true
 hp:∀p∈ps,∃u,p.2=.t u/\fc ops f u=true
 hr:∀j o,l[j]? =some o->bX o.k=true->(eV o.k=true\/kR o=true)/\fc ops j df=false
def vQ{ops l f}(h:uu ops l f=true):∃df es n z ps q,Oc ops l f df es n z ps q:=by
 unfold uu at h;split at h
 case h_2=>cases h
 rename_i d es n z ps q hf;simp only[UH,UJ,Vo]at h;obtain⟨⟨h1,h2⟩,h3⟩:=h;refine⟨d,es,n,z,ps,q,hf,h1,λp hp=>?_,λj o hj hk=>?_⟩
 ·have:=h2 p hp;split at this
  ·rename_i u hu;exact⟨u,hu,this⟩
  ·cases this
 ·have:=h3 j (Ue.1 hj).1;rw[hj]at this;simp only[hk,UA,Wr,UH,VW,Vs]at this;exact this
structure jI(P:Program)(l:List bo)(f df:Nat)(k:ai)(T:Nat->TS)(H:Nat->af)(m:bH)(w:World)(listed:Array Bool)(θ:Nat)(m1:bH)(tm:Array Value)(w1:World):Prop where
 hθ:θ<=l.length
 hL:θ<=de l\/∃(j:Nat) (o:bo),l[j]? =some o/\bX o.k=false/\j≠f/\de l<=j/\j<θ
 hS:∀(j:Nat) (o:bo),l[j]? =some o->bX o.k=false->j≠f->(j<θ↔listed.getD j false=true)
 hf:f<θ->listed.getD f false=true
 hr:HR P m1 (H θ) w1
 hg:Grow m (H 0) w m1 (H θ) w1
 dO:tm.size=(T 0).length
 h1:∀(d:Nat),(∀(j:Nat) (o:bo),l[j]? =some o->listed.getD j false=true->o.dst≠some d)->VR m1 ((T 0).getD d au) (tm.getD d undef)
 h2:∀(d j:Nat) (o:bo),l[j]? =some o->listed.getD j false=true->o.dst=some d->(j=f->f<θ)->VR m1 ((T (j+1)).getD d au) (tm.getD d undef)
 pd:listed.getD f false=true->θ<=f->∃e:qn,BR P m1 w1 e k/\e.own=true/\w.heap.size<=e.cb/\(∀b e',m1 b=some e'->e'.cb≠e.cb)/\∀m':bH,m1.le m'->m' (H f).length=some e->VR m' ((T (f+1)).getD df au) (tm.getD df undef)
def vC{P cq f}(hmix:P.follows .mixedOrders=true){ops l}(hed:jA (Region.before ops) ops=true)(hsl:kj (Region.before ops) ops=true)
  (hc:dX (λ_ o=>bx P ops (qe cq o) o) ops.toList 0=some l) (hfo:uu ops l f=true) (hmo:pD (Region.before ops) l f=true) {T}{H}(hrow:Row P l T H) (hstab:∀(i:Nat) (io:bo),l[i]? =some io->kR io=true->∀θ,θ<=de l->cY P io (T i) (H θ) (T (i+1)) (H θ)) (hlate:∀(i j:Nat) (x y:bo),l[i]? =some x->kR x=true->l[j]? =some y->bX y.k=false->de l<=j->ahead (Region.before ops) i j=true) {m}{a}{w}
  (st:St P m (T 0) (H 0) a w) (ro:Option Nat) (Q:Exit->Act->World->Prop) (hQ:∀m' a' w',St P m' (T l.length) (H l.length) a' w'->Grow m (H 0) w m' (H l.length) w'->a'.defers=a.defers->Q .normal a' w') (id:Nat):
  (Code.region id ops true).wpIn (Fd ro) 0 P Q a w:=by
 obtain⟨df,es,n,zz,ps,qf,F⟩:=vQ hfo;refine wpIn_region_any hmix ?_;obtain⟨OE,Ov⟩:=fJ hc;simp only[Wq]at OE;have RO:∀(j:Nat) (io:bo),l[j]? =some io->∃o,ops[j]? =some o/\bx P ops (qe cq o) o=some io:=λj io hj=>by
  exact KI
 have Pm:∀(j:Nat) (io:bo) (d:Nat),l[j]? =some io->io.dst=some d->∃o,ops[j]? =some o/\o.dst=some d:=λj io d hj hd=>by
  exact KA
 have huniq:∀(i j:Nat) (oi oj:bo) (d:Nat),l[i]? =some oi->l[j]? =some oj->oi.dst=some d->oj.dst=some d->i=j:=λi j oi oj d hi hj h1 h2=>by
  exact KK
 have PG:∀(j:Nat) (io:bo),l[j]? =some io->∃v,T (j+1)=put (T j) io.dst v:=λj io hj=>(hrow.step j io hj).1.put
 have hTl:∀j,j<=l.length->(T j).length=(T 0).length:=by
  intro j
  induction j with
  |zero=>intro _;rfl
  |succ j ih=>
   intro hj;exact KC
 have OA:∀x y t,x<=y->y<=l.length->(∀(j:Nat) (o:bo),x<=j->j<y->l[j]? =some o->o.dst≠some t)->(T y).getD t au=(T x).getD t au:=by
  intro x y t hxy hy hno;exact Ns
 have QI:∀(j:Nat) (io:bo),l[j]? =some io->bX io.k=true->H (j+1)=H j:=λj io hj hk=>vF hk (hrow.step j io hj).1
 have QJ:∀x k,x+k<=l.length->(∀(j:Nat) (o:bo),x<=j->j<x+k->l[j]? =some o->bX o.k=true)->H (x+k)=H x:=by
  intro x k
  induction k with
  |zero=>intro _ _;rfl
  |succ k ih=>
   intro hk hno;exact z46
 have Q2:∀x y,x<=l.length->y<=l.length->(∀(j:Nat) (o:bo),l[j]? =some o->bX o.k=false->(j<x↔j<y))->H x=H y:=by
  intro x y hx hy hno;exact Nw
 have O1:f<l.length:=(Ue.1 F.hf).1;obtain⟨cf,mu,tl,Pr,hTf,hHf,hcf⟩:∃cf mu tl,dW (du n zz) (ps.map λp=>(p.1,es,val (T f) p.2))=some cf/\T (f+1)=put (T f) (some df) (.slice (H f).length 0 n es)/\H (f+1)=H f++[.cells cf mu tl]/\∀g:af,nL P (.aY es n zz ps) (val (T f)) g (.slice g.length 0 n es) (g++[.cells cf mu tl]):=by
  have TD:=(hrow.step f _ F.hf).1;generalize hx:T (f+1)=tx at TD;generalize hy:H (f+1)=hyy at TD;cases TD with
  |run hw hb hs=>
   have hs:kX (.aY es n zz ps) _ _ _ _:=hs;obtain⟨c,mu,tl,q1,q2,q3,rfl,rfl⟩:=hs;exact⟨c,mu,tl,q1,rfl,rfl,λg=>⟨c,mu,tl,q1,q2,q3,rfl,rfl⟩⟩
  |skip hw=>exact absurd trivial hw
 have R5:(ai.cells cf mu tl).live=true:=rfl;have hrp:∀{k:mU},bX k=false->eV k=false:=λ{k} hk=>by
  cases k<;>first|exact hk|(cases hk;done)
 have hld:∀{o:bo},bX o.k=false->kR o=false:=λ{o} hk=>by
  exact HO
 have SP:∀(listed:Array Bool) (θ:Nat) (m1:bH) (tm:Array Value) (w1:World),jI P l f df (.cells cf mu tl) T H m w listed θ m1 tm w1->listed.getD f false=true->θ<=f->(∀(j:Nat) (o:bo),l[j]? =some o->bX o.k=false->j<f->listed.getD j false=true)->
   ∃m2,jI P l f df (.cells cf mu tl) T H m w listed (f+1) m2 tm w1:=by
  intro listed θ m1 tm w1 I TU Tx hall;have e:H θ=H f:=Q2 θ f I.hθ Om λj oj hj hk=>by
   by_cases hjf:j=f
   ·subst hjf;omega
   ·constructor
    ·intro h;omega
    ·intro h;exact(I.hS j oj hj hk hjf).2 (hall j oj hj hk h)
  obtain⟨en,b1,b2,b3,b4,b5⟩:=I.pd TU Tx;have hr:=I.hr;have hg:=I.hg;rw[e]at hr hg;have Pf:m1 (H f).length=none:=by
   cases hx:m1 (H f).length with
   |none=>rfl
   |some y=>exact absurd (hr.cD _ _ hx) Om
  have Qq:m1.le (m1.add (H f).length en):=bH.pZ _ Pf;refine⟨m1.add (H f).length en,⟨Om,.inl (by have:=wX F.hf rfl;omega),λj oj hj hk hjf=>?_,λ_=>TU,by rw[hHf];exact hr.wg R5 b1 b4,by rw[hHf];exact hg.wg st.hr.cD hr.cD b2 b3,I.dO,λd hd=>VR.mono Qq _ _ (I.h1 d hd),λd j oj hj hl hd _=>?_,λ_ hx=>absurd hx Om⟩⟩
  ·constructor
   ·intro h;exact hall j oj hj hk Om
   ·intro h;have:=(I.hS j oj hj hk hjf).2 h;omega
  ·by_cases hjf:j=f
   ·subst hjf;rw[F.hf]at hj;cases hj;cases hd;exact b5 _ Qq (by simp[bH.add])
   ·exact VR.mono Qq _ _ (I.h2 d j oj hj hl hd λz=>absurd z hjf)
 have PF:∀(listed:Array Bool) (θ:Nat) (m1:bH) (a1:Act) (w1:World),(∀i,i<ops.size->listed.getD i false=true)->jI P l f df (.cells cf mu tl) T H m w listed θ m1 a1.tmps w1->f<θ->a1.defers=a.defers->Q .normal a1 w1:=by
  intro listed θ m1 a1 w1 hall I hfθ hd;have e:=Q2 θ l.length I.hθ (Uq _) λj o hj hk=>by
   have QP:=(Ue.1 hj).1;by_cases hjf:j=f
   ·subst hjf;omega
   ·have:=(I.hS j o hj hk hjf).2 (hall j Om);omega
  have hr:=I.hr;have hg:=I.hg;rw[e]at hr hg;have dO:=I.dO;refine hQ m1 a1 w1 ⟨hr,cw.gf ?_ ?_⟩ hg hd
  ·exact E8
  ·intro t x hx;have hlt:=(Ue.1 hx).1;have O3:t<a1.tmps.size:=by have:=hTl l.length (Uq _);omega
   have ex:(T l.length).getD t au=x:=by simp[List.getD,hx]
   have ey:a1.tmps.getD t undef=a1.tmps[t]:=by simp[UW,UZ O3]
   refine⟨a1.tmps[t],Si,?_⟩;rw[<-ex,<-ey];by_cases hw:∃(j:Nat) (o:bo),l[j]? =some o/\o.dst=some t
   ·obtain⟨j,o,hj,ho⟩:=hw;have QP:=(Ue.1 hj).1;rw[OA (j+1) l.length t Om (Uq _) (λk o' a2 a3 a4 a5=>by have:=huniq j k o o' t hj a4 ho a5;omega)];exact I.h2 t j o hj (hall j Om) ho λ_=>hfθ
   ·rw[OA 0 l.length t Om (Uq _) (λk o' _ _ h4 h5=>hw ⟨k,o',h4,h5⟩)];exact I.h1 t λj o hj _ ho=>hw ⟨j,o,hj,ho⟩
 have hdone:∀(listed:Array Bool) (θ:Nat) (m1:bH) (a1:Act) (w1:World),(∀i,i<ops.size->listed.getD i false=true)->jI P l f df (.cells cf mu tl) T H m w listed θ m1 a1.tmps w1->a1.defers=a.defers->Q .normal a1 w1:=by
  intro listed θ m1 a1 w1 hall I hd;by_cases hfθ:f<θ
  ·exact PF listed θ m1 a1 w1 hall I hfθ hd
  ·obtain⟨m2,I2⟩:=SP listed θ m1 a1.tmps w1 I (hall f Om) Om λj o hj _ _=>hall j (by have:=(Ue.1 hj).1;omega)
   exact PF listed (f+1) m2 a1 w1 hall I2 Om hd
 have key:∀(fuel:Nat) (listed:Array Bool) (θ:Nat) (m1:bH) (a1:Act) (w1:World),listed.size=ops.size->oX listed ops.size<=fuel->
   (∀j x,listed.getD j false=true->x<ops.size->ahead (Region.before ops) x j=true->listed.getD x false=true)->jI P l f df (.cells cf mu tl) T H m w listed θ m1 a1.tmps w1->a1.defers=a.defers->wpAnyIn (Fd ro) 0 P .any ops Q fuel listed a1 w1:=by
  intro fuel
  induction fuel with
  |zero=>
   intro listed θ m1 a1 w1 OB hu hcl I hd;have hall:=jR ops.size (show oX listed ops.size=0 by omega);exact⟨kr OB hall,hdone listed θ m1 a1 w1 hall I hd⟩
  |succ fuel ih=>
   intro listed θ m1 a1 w1 OB hu hcl I hd;refine⟨λhrn=>hdone listed θ m1 a1 w1 (ko hed OB hrn) I hd,λi hi=>?_⟩;obtain⟨o,ho,Ph,Su⟩:=(gX OB).1 hi;have hin:i<ops.size:=(Uu.1 ho).1;obtain⟨io,hio,Oy⟩:=Ov i o (by simpa using ho);have Oy:bx P ops (qe cq o) o=some io:=Oy;obtain⟨bE,_⟩:=hrow.step i io hio;have hahead:∀x,x<ops.size->ahead (Region.before ops) x i=true->listed.getD x false=true:=λx hx ha=>by
    exact z28
   have P5:∀j x,(listed.setIfInBounds i true).getD j false=true->x<ops.size->ahead (Region.before ops) x j=true->(listed.setIfInBounds i true).getD x false=true:=by
    intro j x hj hx ha;exact Km
   have Rr:oX (listed.setIfInBounds i true) ops.size<=fuel:=by
    exact Kh
   have hne:∀j,j≠i->(listed.setIfInBounds i true).getD j false=listed.getD j false:=λj hj=>by rw[cM Om,Ur hj]
   have hlt:(listed.setIfInBounds i true).getD i false=true:=by rw[cM Om,Ut rfl]
   have OR:io.dst=o.dst:=(cU Oy).1;have hslot:∀(θ:Nat) (m1:bH) (tm:Array Value) (w1:World),jI P l f df (.cells cf mu tl) T H m w listed θ m1 tm w1->(listed.getD f false=true->θ<=f->i<f\/fc ops i df=false)->∀t,t∈o.looksAt ops->VR m1 ((T i).getD t au) (tm.getD t undef):=by
    intro θ m1 tm w1 I hnp t ht;by_cases hex:∃(x:Nat) (ox:bo),l[x]? =some ox/\listed.getD x false=true/\ox.dst=some t
    ·obtain⟨x,ox,hx,hxl,Q6⟩:=hex;obtain⟨oo,Qv,Rn⟩:=Pm x ox t hx Q6;have hxi:x<i:=by
      by_cases e1:x=i
      ·subst e1;rw[Ph]at hxl;cases hxl
      ·by_cases e2:x<i
       ·exact e2
       ·have e3:=(cG hsl (show i<x by omega) ho Qv).2 t Rn ht;have e4:=hcl x i hxl hin e3;rw[Ph]at e4;cases e4
     rw[OA (x+1) i t Om Om (λk o' a2 a3 a4 a5=>by have:=huniq x k ox o' t hx a4 Q6 a5;omega)];refine I.h2 t x ox hx hxl Q6 λhxf=>?_
     subst hxf;by_cases hh:x<θ
     ·exact hh
     ·rcases hnp hxl (by omega)with h|h
      ·omega
      ·rw[F.hf]at hx;cases hx;cases Q6;unfold fc at h;rw[ho]at h;simp only at h;have:=List.contains_iff_mem.2 ht;rw[this]at h;cases h
    ·rw[OA 0 i t Om Om (λk o' e2 e3 e4 e5=>by
      obtain⟨oo,Qv,OR⟩:=Pm k o' t e4 e5;have h6:=((cG hsl e3 Qv ho).1 t OR).2 ht;exact hex ⟨k,o',e4,hahead k (Uu.1 Qv).1 h6,e5⟩)]
     exact I.h1 t λj oj hj hl OR=>hex ⟨j,oj,hj,hl,OR⟩
   have hadv:i≠f->∀(θ θ':Nat) (m1 m':bH) (tm:Array Value) (w1 w':World) (cv:Value) (v':AV),jI P l f df (.cells cf mu tl) T H m w listed θ m1 tm w1->θ'<=l.length->(θ'<=de l\/∃(j:Nat) (o:bo),l[j]? =some o/\bX o.k=false/\j≠f/\de l<=j/\j<θ')->(∀(j:Nat) (o:bo),l[j]? =some o->bX o.k=false->j≠f->(j<θ'↔(listed.setIfInBounds i true).getD j false=true))->(f<θ'↔f<θ)->
     T (i+1)=put (T i) o.dst v'->VR m' v' cv->HR P m' (H θ') w'->Grow m1 (H θ) w1 m' (H θ') w'->jI P l f df (.cells cf mu tl) T H m w (listed.setIfInBounds i true) θ' m' (fY tm o.dst cv) w':=by
    intro Qo θ θ' m1 m' tm w1 w' cv v' I Ty R7 hS' hff PA PK hr' OG;have Qq:=OG.le I.hr.cD;refine⟨Ty,R7,hS',λh=>?_,hr',I.hg.trans OG st.hr.cD,by rw[ep];exact I.dO,λd hdn=>?_,λd j oj hj hl QD hjf=>?_,λTU Tx=>?_⟩
    ·rw[hne f (Wy Qo)];exact I.hf (hff.1 h)
    ·have PX:o.dst≠some d:=by rw[<-OR];exact hdn i io hio hlt
     rw[cZ PX];refine VR.mono Qq _ _ (I.h1 d λj oj hj hl=>hdn j oj hj ?_);exact Ki
    ·by_cases e1:j=i
     ·subst e1;rw[hio]at hj;cases hj;rw[PA,<-OR,QD];exact jV (by rw[I.dO,hTl j Om]) PK
     ·have PX:o.dst≠some d:=λhx=>by
       exact Ky
      rw[cZ PX];rw[hne j e1]at hl;exact VR.mono Qq _ _ (I.h2 d j oj hj hl QD λz=>hff.1 (hjf z))
    ·rw[hne f (Wy Qo)]at TU;obtain⟨e,b1,b2,b3,b4,b5⟩:=I.pd TU (by have:=hff.2;omega);obtain⟨c1,c2⟩:=Ak OG I.hr.cD R5 b1 b4;have PX:o.dst≠some df:=λhx=>by
      rw[<-OR]at hx;exact Qo (huniq i f io _ df hio F.hf hx rfl)
     refine⟨e,c1,b2,b3,c2,λm2 R4 OD=>?_⟩;rw[cZ PX];exact b5 m2 (bH.le_trans Qq R4) OD
   have QW:∀cv,(a1.put o.dst cv).tmps=fY a1.tmps o.dst cv:=λcv=>by cases o.dst<;>rfl
   by_cases Qo:i=f
   ·
    subst Qo;rw[F.hf]at hio;cases hio;have Tx:θ<=i:=by
     by_cases hh:i<θ
     ·have:=I.hf hh;rw[Ph]at this;cases this
     ·omega
    refine tB ho Oy rfl I.hr.gv I.hr (hslot θ m1 a1.tmps w1 I λh=>by rw[Ph]at h;cases h) (hcf (H θ)) ro _ Q ?_;intro cv m' w' hv hr' OG;have hclos:∀x∈cf,gT (H θ).length x:=pQ (λx hx=>yG (F.hz x (sQ hx))) (λp hp=>by
     obtain⟨q,hq,rfl⟩:=UI.1 hp;obtain⟨u,hu,So⟩:=F.hp q hq;have hu2:u∈o.looksAt ops:=by
      unfold fc at So;rw[ho]at So;exact List.contains_iff_mem.1 So
     have:=hslot θ m1 a1.tmps w1 I (λh=>by rw[Ph]at h;cases h) u hu2;show gT _ (val (T i) q.2);rw[hu];exact⟨m1,_,I.hr.cD,this⟩) Pr
    have hcb:oh (H θ).length (.cells cf mu tl):=λj x hx=>hclos x (U5 hx)
    have hup:m'.da (H θ).length=m1:=by
     funext b;unfold bH.da;by_cases hb:b<(H θ).length
     ·rw[Ut hb];exact OG.ext b hb
     ·rw[Ur hb];cases hx:m1 b with
      |none=>rfl
      |some e=>exact absurd (I.hr.cD b e hx) hb
    have PW:=HR.forget I.hr hr' OG;have RJ:=OG.forget;rw[hup]at PW RJ;have Rq:=hv;rw[VR]at Rq;obtain⟨e,ca,cap,he,OO⟩:=Rq;have hb:=(hr'.dU _ e (.cells cf mu tl) he Si).cut hcb;rw[hup]at hb;obtain⟨ho1,hc⟩:=OG.new _ e (Uq _) he;have hcbl:w1.heap.size<=e.cb:=by
     rcases hc with hc|⟨b0,e0,c1,c2,c3,c4,c5⟩
     ·exact hc
     ·rw[fg (I.hr.cD _ _ c1),c4]at c5;cases c5
    have PO:o.dst=some df:=OR.symm;refine ih _ θ m1 (a1.put o.dst cv) w' (by simp[OB]) Rr P5 ?_ (by rw[put_defers];exact hd);rw[QW];refine⟨I.hθ,I.hL,λj oj hj hk hjf=>by rw[hne j hjf];exact I.hS j oj hj hk hjf,λh=>by omega,PW,I.hg.trans RJ st.hr.cD,by rw[ep];exact I.dO,λd hdn=>?_,λd j oj hj hl QD hjf=>?_,λ_ _=>⟨e,hb,ho1,Vk I.hg.size hcbl,λb e' Pz=>by have:=I.hr.lt b e' Pz;omega,λm2 R4 OD=>?_⟩⟩
    ·have PX:o.dst≠some d:=by rw[PO];exact hdn i _ F.hf hlt
     rw[cZ PX];refine I.h1 d λj oj hj hl=>hdn j oj hj ?_
     exact Ki
    ·by_cases e1:j=i
     ·have:=hjf e1;omega
     ·have PX:o.dst≠some d:=λhx=>by
       rw[PO]at hx;exact e1 (huniq j i oj _ d hj F.hf QD hx)
      rw[cZ PX];rw[hne j e1]at hl;exact I.h2 d j oj hj hl QD hjf
    ·rw[hTf,PO];exact jV (by rw[I.dO,hTl i Om]) (by rw[VR];exact⟨e,ca,cap,OD,OO⟩)
   by_cases Pe:bX io.k=true
   ·
    obtain⟨QM,PM⟩:=F.hr i io hio Pe;have Qt:cY P io (T i) (H θ) (T (i+1)) (H θ):=by
     rcases QM with hp|hp
     ·exact(vI hp bE).2 _
     ·refine hstab i io hio hp θ ?_;rcases I.hL with h|⟨j,oj,h1,h2,h5,h3,h4⟩
      ·exact h
      ·have e:=hcl j i ((I.hS j oj h1 h2 h5).1 h4) hin (hlate i j io oj hio hp h1 h2 h3);rw[Ph]at e;cases e
    refine eZ ho Oy I.hr.gv I.hr (by rw[I.dO,hTl i Om]) (hslot θ m1 a1.tmps w1 I λ_ _=>.inr PM) Qt ro _ Q ?_;intro cv v' m' w' PA PK hrx hgx;refine ih _ θ m' (a1.put o.dst cv) w' (by simp[OB]) Rr P5 ?_ (by rw[put_defers];exact hd);rw[QW];refine hadv Qo θ θ m1 m' a1.tmps w1 w' cv v' I I.hθ I.hL (λj oj hj hk hjf=>?_) Iff.rfl PA PK hrx hgx;have hji:j≠i:=λe=>by
     subst e;rw[hio]at hj;cases hj;rw[Pe]at hk;cases hk
    rw[hne j hji];exact I.hS j oj hj hk hjf
   ·have PC:bX io.k=false:=by simpa using Pe
    have hheavy:∀(j:Nat) (oj:bo),l[j]? =some oj->bX oj.k=false->j<i->listed.getD j false=true:=λj oj hj hk hji=>
     hahead j (by have:=(Ue.1 hj).1;omega) (nV hmo hji hj hio (hrp hk) (hrp PC) (hld hk) (hld PC) Qo)
    have hlate:∀(j:Nat) (oj:bo),l[j]? =some oj->bX oj.k=false->j≠f->i<j->listed.getD j false=false:=λj oj hj hk hjf hij=>by
     cases hx:listed.getD j false with
     |false=>rfl
     |true=>
      have e3:=nV hmo hij hio hj (hrp PC) (hrp hk) (hld PC) (hld hk) hjf;have e4:=hcl j i hx hin e3;rw[Ph]at e4;cases e4
    obtain⟨Ti,m2,I1,hff⟩:∃Ti m2,jI P l f df (.cells cf mu tl) T H m w listed Ti m2 a1.tmps w1/\(f<Ti↔f<i):=by
     by_cases hfi:f<i
     ·have TU:=hheavy f _ F.hf rfl hfi;by_cases hfθ:f<θ
      ·exact⟨θ,m1,I,Om⟩
      ·obtain⟨m2,I2⟩:=SP listed θ m1 a1.tmps w1 I TU Om λj oj hj hk hjf=>hheavy j oj hj hk Om
       exact⟨f+1,m2,I2,Om⟩
     ·refine⟨θ,m1,I,⟨λh=>?_,λh=>absurd h hfi⟩⟩;have:=(I.hS i io hio PC Qo).1 Om;rw[Ph]at this;cases this
    have hHi:H Ti=H i:=Q2 Ti i I1.hθ Om λj oj hj hk=>by
     by_cases hjf:j=f
     ·subst hjf;exact hff
     ·constructor
      ·intro RG;have P2:=(I1.hS j oj hj hk hjf).1 RG;by_cases e1:j=i
       ·exact E5
       ·by_cases e2:j<i
        ·exact e2
        ·exact z156
      ·intro hji;exact(I1.hS j oj hj hk hjf).2 (hheavy j oj hj hk hji)
    refine eZ ho Oy I1.hr.gv I1.hr (by rw[I1.dO,hTl i Om]) (hslot Ti m2 a1.tmps w1 I1 λ_ h2=>.inl Om) (by rw[hHi];exact bE) ro _ Q ?_;intro cv v' m' w' PA PK hrx hgx;refine ih _ (i+1) m' (a1.put o.dst cv) w' (by simp[OB]) Rr P5 ?_ (by rw[put_defers];exact hd);rw[QW];refine hadv Qo Ti (i+1) m2 m' a1.tmps w1 w' cv v' I1 Om (by by_cases hc:i+1<=de l;exact .inl hc;exact .inr ⟨i,io,hio,PC,Qo,Om,Om⟩) (λj oj hj hk hjf=>?_) Om PA PK hrx hgx;by_cases e1:j=i
    ·subst e1;exact⟨λ_=>hlt,λ_=>by omega⟩
    ·rw[hne j e1];constructor
     ·intro hji;exact hheavy j oj hj hk Om
     ·intro P2;by_cases e2:j<i
      ·omega
      ·exact z156
 have Ou:∀j,(Array.replicate ops.size false).getD j false=false:=λj=>by
  exact Kj
 refine key ops.size (Array.replicate ops.size false) 0 m a _ Si ?_ (λj x hj _ _=>by simp[Ou j]at hj) ⟨UK _,.inl (UK _),(λj oj hj hk _=>⟨λhx=>absurd hx Om,λhx=>by simp[Ou j]at hx⟩),(λhx=>absurd hx Om),st.hr.drew,(Grow.refl m _ w st.hr.cD).drew,?_,(λd _=>lN st.ts d),(λd j o _ hj _ _=>by simp[Ou j]at hj),λhx=>by simp[Ou f]at hx⟩ rfl
 ·exact Kn
 ·exact z109
def dE{P ops draw c}(h:lB P ops draw=some c):
  (∃l,c=.ops l/\(cF P ops draw=some l\/(draw=true/\(∃l',cF P ops draw=some l')/\∃cq,dX (λ_ o=>bx P ops (qe cq o) o) ops.toList 0=some l/\mh (Region.before ops) l=true/\l.any kR=false)))\/
  (∃l,c=.qd l/\draw=true/\(∃l',cF P ops draw=some l')/\dX (λ_ o=>bx P ops false o) ops.toList 0=some l)\/
  (∃l,c=.lX l/\draw=true/\(∃l',cF P ops draw=some l')/\∃cq,dX (λ_ o=>bx P ops (qe cq o) o) ops.toList 0=some l/\(mh (Region.before ops) l=true\/∃f,uu ops l f=true/\pD (Region.before ops) l f=true)/\lu (Region.before ops) l=true):=by
 unfold lB at h;split at h
 ·cases h
 ·rename_i l hl;split at h
  ·rename_i hq;split at h
   ·rename_i l' l2 l3 OJ hl2 hl3;split at h
    ·rename_i hm;rw[UH,Vs]at hm;cases h;exact .inl ⟨l',rfl,.inr ⟨hq.2,⟨l,hl⟩,0,OJ,hm.1,hm.2⟩⟩
    ·split at h
     ·rename_i hm;rw[UH,Vs]at hm;cases h;exact .inl ⟨l2,rfl,.inr ⟨hq.2,⟨l,hl⟩,1,hl2,hm.1,hm.2⟩⟩
     ·split at h
      ·exact z40
      ·split at h
       ·split at h
        ·rename_i hm;rw[UH,UH]at hm;cases h;exact .inr (.inr ⟨l3,rfl,hq.2,⟨l,hl⟩,2,hl3,.inl hm.1.2,hm.2⟩)
        ·cases h;exact .inr (.inl ⟨l',rfl,hq.2,⟨l,hl⟩,OJ⟩)
       ·split at h
        ·rename_i hm;rw[UH]at hm;cases h;exact .inr (.inr ⟨l3,rfl,hq.2,⟨l,hl⟩,2,hl3,.inl hm.1,hm.2⟩)
        ·split at h
         ·exact z40
         ·cases h;exact .inl ⟨l,rfl,.inl hl⟩
   ·cases h
  ·cases h;exact .inl ⟨l,rfl,.inl hl⟩
def Marks(m:bH)(w:World)(lo:Nat)(ds:List Deferred):Prop:=
 ∃rs:List Nat,ds=rs.map (λr=>({target:=.collected r,args:=#[] }:Deferred))/\rs.Nodup/\∀r∈rs,lo<=r/\w.heap[r]? =some (.deferred (some []))/\∀b e,m b=some e->e.cb≠r
def Marks.nil(m:bH)(w:World)(lo:Nat):Marks m w lo []:=⟨[],rfl,Si,Si⟩
def Marks.grow{m m' h h' w w' lo ds}(k:Marks m w lo ds)(g:Grow m h w m' h' w')(hd:∀b e,m b=some e->b<h.length):Marks m' w' lo ds:=by
 obtain⟨rs,h1,h2,h3⟩:=k;refine⟨rs,h1,h2,λr hr=>?_⟩;obtain⟨a,b,c⟩:=h3 r hr;have hlt:r<w.heap.size:=(Uu.1 b).1;refine⟨a,?_,?_⟩
 ·rw[g.frame r hlt (λb e hb _=>c b e hb)];exact b
 ·intro b' e hb;by_cases hx:b'<h.length
  ·rw[g.ext b' hx]at hb;exact c b' e hb
  ·obtain⟨_,hc⟩:=g.new b' e Om hb;rcases hc with hc|⟨b0,e0,c1,c2,_⟩
   ·omega
   ·rw[<-c2];exact c b0 e0 c1
def Ev(P:Program)(ro:Option Nat)(c:an)(ts:TS)(h:af)(e:Ex)(ts':TS)(h':af):Prop:=
 ∀cc,compile P cc=some c->∀(m:bH) (a:Act) (w:World) (lo:Nat),lo<=w.heap.size->St P m ts h a w->Marks m w lo a.defers->∀Q:Exit->Act->World->Prop,
  (∀m' a' w',St P m' ts' h' a' w'->Grow m h w m' h' w'->Marks m' w' lo a'.defers->Q e.Be a' w')->cc.wpIn (Fd ro) 0 P Q a w
section
variable {P:Program}{b:Frame}{a:Act}{k:List Item}{cs:List Frame}{w:World}{Q:Exit->Act->World->Prop}{F:Fence}{n:Nat}
def fK{c}:step P (lone (b.atR a (.code (.scope c)::k)) cs w)=.next (lone (b.atR a (.code c:: .inScope c::k)) cs w):=
 step_lone_go (by simp[stepG,stepG.exec,Frame.atR])
def qa{c}:step P (lone (b.atR a (.inScope c::k)) cs w)=.next (lone (b.atR a k) cs w):=
 step_lone_go (by simp[stepG,stepG.exec,Frame.atR])
def noGoto(Q:Exit->Act->World->Prop):Exit->Act->World->Prop
 |.goto _,_,_=>False
 |e,a,w=>Q e a w
def uV{c}(h:c.wpIn F n P (noGoto Q) a w):(Code.scope c).wpIn F n P Q a w:=by
 intro b k cs hro hb hr;have h0:(lone (b.atR a (.code (.scope c)::k)) cs w).fenced P F:=fenced_calm hb hr rfl;obtain⟨e,RY,Ri,hq,O4⟩:=h b (.inScope c::k) cs hro hb hr;cases e with
 |normal=>exact⟨.normal,RY,Ri,hq,.head h0 fK (StepsIn.trans O4 (.one (fenced_calm hb hr rfl) qa))⟩
 |exit id=>
  have hx:exitTo id (.inScope c::k)=exitTo id k:=by simp[exitTo]
  exact⟨.exit id,RY,Ri,hq,λk' hk=>.head h0 fK (O4.1 k' (by rw[hx];exact hk)),
   λhr' hk=>let ⟨k₁,h1,h2⟩:=O4.2 hr' (by rw[hx];exact hk);⟨k₁,h1,.head h0 fK h2⟩⟩
 |goto l=>exact hq.elim
 |ret=>exact⟨.ret,RY,Ri,hq,.of_steps (.one h0 fK) O4⟩
 |panic ch=>exact⟨.panic ch,RY,Ri,hq,.of_steps (.one h0 fK) O4⟩
 |outgrown=>exact⟨.outgrown,RY,Ri,hq,.of_steps (.one h0 fK) O4⟩
end
section
variable {P:Program}{ro:Option Nat}{c x y:an}{ts PJ ts':TS}{h h1 h':af}{e:Ex}
def Ev.of (H:∀cc,(∀a,cc≠.scope a)->compile P cc=some c->∀(m:bH) (a:Act) (w:World) (lo:Nat),lo<=w.heap.size->St P m ts h a w->Marks m w lo a.defers->∀Q:Exit->Act->World->Prop,
  (∀m' a' w',St P m' ts' h' a' w'->Grow m h w m' h' w'->Marks m' w' lo a'.defers->Q e.Be a' w')->cc.wpIn (Fd ro) 0 P Q a w):Ev P ro c ts h e ts' h':=by
 intro cc
 induction cc with
 |scope a ih=>
  intro hc m a w lo hlo st hm Q hQ;refine uV (ih (by simpa [compile]using hc) m a w lo hlo st hm _ λm' a' w' s g k=>?_);cases e<;>exact hQ m' a' w' s g k
 |_=>intro hc;exact H _ Si hc
theorem Ev.skip:Ev P ro .skip ts h .normal ts h:=by
 refine Ev.of λcc hns hc m a w lo hlo st hm Q hQ=>?_
 have hq:=hQ m a w st (Grow.refl m h w st.hr.cD) hm;cases cc with
 |skip=>exact wpIn_skip hq
 |label l=>exact wpIn_label hq
 |scope a=>exact absurd rfl (hns a)
 |region id ops draw=>rcases dE (by simpa only[compile]using hc)with⟨_,h1,_⟩|⟨_,h1,_⟩|⟨_,h1,_⟩<;>cases h1
 |block id a=>simp[compile]at hc
 |loop a=>simp[compile]at hc
 |_=>
  exact ze
theorem Ev.exit{id}:Ev P ro (.exit id) ts h (.exit id) ts h:=by
 refine Ev.of λcc hns hc m a w lo hlo st hm Q hQ=>?_
 have hq:=hQ m a w st (Grow.refl m h w st.hr.cD) hm;cases cc with
 |exit SK=>simp[compile]at hc;subst hc;exact wpIn_exit hq
 |scope a=>exact absurd rfl (hns a)
 |region id ops draw=>rcases dE (by simpa only[compile]using hc)with⟨_,h1,_⟩|⟨_,h1,_⟩|⟨_,h1,_⟩<;>cases h1
 |block id a=>simp[compile]at hc
 |loop a=>simp[compile]at hc
 |_=>
  exact ze
theorem Ev.ret:Ev P ro .ret ts h .ret ts h:=by
 refine Ev.of λcc hns hc m a w lo hlo st hm Q hQ=>?_
 have hq:=hQ m a w st (Grow.refl m h w st.hr.cD) hm;cases cc with
 |ret=>exact wpIn_ret hq
 |scope a=>exact absurd rfl (hns a)
 |region id ops draw=>rcases dE (by simpa only[compile]using hc)with⟨_,h1,_⟩|⟨_,h1,_⟩|⟨_,h1,_⟩<;>cases h1
 |block id a=>simp[compile]at hc
 |loop a=>simp[compile]at hc
 |_=>
  exact ze
theorem Ev.ops(hmix:P.follows .mixedOrders=true){l}(hs:wj P l ts h ts' h'):Ev P ro (.ops l) ts h .normal ts' h':=by
 refine Ev.of λcc hns hc m a w lo hlo st hm Q hQ=>?_
 cases cc with
 |region id ops draw=>
  rcases dE (by simpa only[compile]using hc)with⟨l',h1,hl⟩|⟨_,h1,_⟩|⟨_,h1,_⟩<;>cases h1
  rcases hl with hl|⟨hd,⟨l2,hl2⟩,cq,hz,hmo,hld⟩
  case inr=>
   subst hd;simp only[cF,UD]at hl2;split at hl2
   case isFalse=>cases hl2
   rename_i OT;simp only[UH]at OT;obtain⟨T,H,rfl,rfl,rfl,rfl,hrow⟩:=hs.row;rw[List.any_eq_false]at hld;exact po hmix OT.1 OT.2 hz hmo hrow (λi io hio hl=>absurd hl (hld io (U5 hio))) (λi j x y hx hl=>absurd hl (hld x (U5 hx))) st ro Q (λm' a' w' s g d=>hQ m' a' w' s g (by rw[d];exact hm.grow g st.hr.cD)) id
  cases draw with
  |false=>exact vB hl hs st ro Q (λm' a' w' s g d=>hQ m' a' w' s g (by rw[d];exact hm.grow g st.hr.cD)) id
  |true=>exact tj hmix hl hs st ro Q (λm' a' w' s g d=>hQ m' a' w' s g (by rw[d];exact hm.grow g st.hr.cD)) id
 |scope a=>exact absurd rfl (hns a)
 |block id a=>simp[compile]at hc
 |loop a=>simp[compile]at hc
 |_=>
  exact ze
theorem Ev.lX(hmix:P.follows .mixedOrders=true){l T H}(hrow:Row P l T H)(hstab:∀(i:Nat) (io:bo),l[i]? =some io->kR io=true->∀θ,θ<=de l->cY P io (T i) (H θ) (T (i+1)) (H θ)):Ev P ro (.lX l) (T 0) (H 0) .normal (T l.length) (H l.length):=by
 refine Ev.of λcc hns hc m a w lo hlo st hm Q hQ=>?_
 cases cc with
 |region id ops draw=>
  rcases dE (by simpa only[compile]using hc)with⟨_,h1,_⟩|⟨_,h1,_⟩|⟨l',h1,hd,⟨l2,hl2⟩,cq,hz,hmo,hlo⟩<;>cases h1
  subst hd;simp only[cF,UD]at hl2;split at hl2
  case isFalse=>cases hl2
  rename_i OT;simp only[UH]at OT;rcases hmo with hmo|⟨f,Re,QA⟩
  case inr=>exact vC hmix OT.1 OT.2 hz Re QA hrow hstab (λi j x y a1 a2 a3 a4 a5=>n6 hlo a1 a2 a3 a4 a5) st ro Q (λm' a' w' s g d=>hQ m' a' w' s g (by rw[d];exact hm.grow g st.hr.cD)) id
  exact po hmix OT.1 OT.2 hz hmo hrow hstab (λi j x y a1 a2 a3 a4 a5=>n6 hlo a1 a2 a3 a4 a5) st ro Q (λm' a' w' s g d=>hQ m' a' w' s g (by rw[d];exact hm.grow g st.hr.cD)) id
 |scope a=>exact absurd rfl (hns a)
 |block id a=>simp[compile]at hc
 |loop a=>simp[compile]at hc
 |_=>
  exact ze
theorem Ev.seq(hx:Ev P ro x ts h .normal PJ h1)(hy:Ev P ro y PJ h1 e ts' h'):Ev P ro (.seq x y) ts h e ts' h':=by
 refine Ev.of λcc hns hc m a w lo hlo st hm Q hQ=>?_
 cases cc with
 |seq ca cb=>
  simp only[compile]at hc;split at hc
  case h_2=>cases hc
  rename_i x' y' OW hcb;cases hc;refine wpIn_seq (hx ca OW m a w lo hlo st hm _ λm1 a1 w1 s1 g1 k1=>?_);exact hy cb hcb m1 a1 w1 lo (Vk hlo g1.size) s1 k1 Q λm2 a2 w2 s2 g2 k2=>hQ m2 a2 w2 s2 (g1.trans g2 st.hr.cD) k2
 |scope a=>exact absurd rfl (hns a)
 |region id ops draw=>rcases dE (by simpa only[compile]using hc)with⟨_,h1,_⟩|⟨_,h1,_⟩|⟨_,h1,_⟩<;>cases h1
 |block id a=>simp[compile]at hc
 |loop a=>simp[compile]at hc
 |_=>
  exact ze
def Ev.td(hx:Ev P ro x ts h e ts' h')(hne:e≠.normal):Ev P ro (.seq x y) ts h e ts' h':=by
 refine Ev.of λcc hns hc m a w lo hlo st hm Q hQ=>?_
 cases cc with
 |seq ca cb=>
  simp only[compile]at hc;split at hc
  case h_2=>cases hc
  rename_i x' y' OW hcb;cases hc;refine wpIn_seq (hx ca OW m a w lo hlo st hm _ λm1 a1 w1 s1 g1 k1=>?_);have:=hQ m1 a1 w1 s1 g1 k1;cases e<;>first|exact absurd rfl hne|exact this
 |scope a=>exact absurd rfl (hns a)
 |region id ops draw=>rcases dE (by simpa only[compile]using hc)with⟨_,h1,_⟩|⟨_,h1,_⟩|⟨_,h1,_⟩<;>cases h1
 |block id a=>simp[compile]at hc
 |loop a=>simp[compile]at hc
 |_=>
  exact ze
def wN{o c}(hc:Cd o=some c):cJ o=some c/\Kq P o=true:=by
 cases o<;>first|exact⟨hc,rfl⟩|cases hc
def Am{m a w}(st:St P m ts h a w){o c}(hc:Cd o=some c):VR m (val ts c) (a.eval o):=
 xz st.hr.gv (wN (P:=P) hc).1 (wN (P:=P) hc).2 (λt _=>lN st.ts t)
theorem Ev.cond{c b}(hb:val ts c=.bool b)(hx:Ev P ro (if b then x else y) ts h e ts' h'):Ev P ro (.cond c x y) ts h e ts' h':=by
 refine Ev.of λcc hns hc m a w lo hlo st hm Q hQ=>?_
 cases cc with
 |cond o ca cb=>
  simp only[compile]at hc;split at hc
  case h_2=>cases hc
  rename_i c' x' y' hco OW hcb;cases hc;have hv:=Am st hco;rw[hb,VR]at hv;refine wpIn_cond hv ?_;cases b
  ·exact hx cb hcb m a w lo hlo st hm Q hQ
  ·exact hx ca OW m a w lo hlo st hm Q hQ
 |scope a=>exact absurd rfl (hns a)
 |region id ops draw=>rcases dE (by simpa only[compile]using hc)with⟨_,h1,_⟩|⟨_,h1,_⟩|⟨_,h1,_⟩<;>cases h1
 |block id a=>simp[compile]at hc
 |loop a=>simp[compile]at hc
 |_=>
  exact ze
def Ex.inBlock(id:Nat):Ex->Ex
 |.exit SK=>if SK=id then .normal else .exit SK
 |e=>e
theorem Ev.block{id}(hx:Ev P ro x ts h e ts' h'):Ev P ro (.block id x) ts h (e.inBlock id) ts' h':=by
 refine Ev.of λcc hns hc m a w lo hlo st hm Q hQ=>?_
 cases cc with
 |block SK ca=>
  simp only[compile,Uz,an.block.injEq]at hc;obtain⟨x',OW,rfl,rfl⟩:=hc;refine wpIn_block (hx ca OW m a w lo hlo st hm _ λm' a' w' s g k=>?_);have:=hQ m' a' w' s g k;cases e with
  |normal=>exact this
  |ret=>exact this
  |exit i=>
   simp only[Ex.Be,Exit.inBlock];simp only[Ex.inBlock]at this;split
   ·rename_i hi;rw[Ut hi]at this;exact this
   ·rename_i hi;rw[Ur hi]at this;exact this
 |scope a=>exact absurd rfl (hns a)
 |region id ops draw=>rcases dE (by simpa only[compile]using hc)with⟨_,h1,_⟩|⟨_,h1,_⟩|⟨_,h1,_⟩<;>cases h1
 |loop a=>simp[compile]at hc
 |_=>
  exact ze
inductive ry (P:Program) (ro:Option Nat) (x:an):TS->af->Ex->TS->af->Prop
 |out {ts:TS}{h:af}{e:Ex}{ts':TS}{h':af}(hx:Ev P ro x ts h e ts' h') (hne:e≠.normal):ry P ro x ts h e ts' h'
 |more {ts:TS}{h:af}{PJ:TS}{h1:af}{e:Ex}{ts':TS}{h':af}(hx:Ev P ro x ts h .normal PJ h1) (hr:ry P ro x PJ h1 e ts' h'):ry P ro x ts h e ts' h'
theorem Ev.loop(hl:ry P ro x ts h e ts' h'):Ev P ro (.loop x) ts h e ts' h':=by
 refine Ev.of λcc hns hc m a w lo hlo st hm Q hQ=>?_
 cases cc with
 |loop ca=>
  simp only[compile,Uz,an.loop.injEq]at hc;obtain⟨x',OW,rfl⟩:=hc;intro b k cs hro hb hr;have key:∀(m1:bH) (a1:Act) (w1:World),lo<=w1.heap.size->St P m1 ts h a1 w1->Marks m1 w1 lo a1.defers->(∀m' a' w',St P m' ts' h' a' w'->Grow m1 h w1 m' h' w'->Marks m' w' lo a'.defers->Q e.Be a' w')->
    ∃e a' w',Q e a' w'/\ArrivesIn (Machine.fenced P (Fd ro)) P (lone (b.atR a1 (.code ca:: .inLoop ca::k)) cs w1) b k cs e a' w':=by
   clear hQ st hm hlo
   induction hl with
   |out hx hne=>
    rename_i ts h e ts' h';intro m1 a1 w1 hlo s1 k1 hQ;obtain⟨e1,a2,w2,hq,O4⟩:=hx ca OW m1 a1 w1 lo hlo s1 k1 (λe1 a1 w1=>e1≠.normal/\Q e1 a1 w1) (λm' a' w' s g k'=>⟨by cases e<;>first|exact absurd rfl hne|simp[Ex.Be],hQ m' a' w' s g k'⟩) b (.inLoop ca::k) cs hro hb hr;exact⟨e1,a2,w2,hq.2,.pass (x:=.inLoop ca) rfl (λ_ _=>.inl hq.1) O4⟩
   |more hx hr' ih=>
    intro m1 a1 w1 hlo s1 k1 hQ;obtain⟨e1,a2,w2,hq,O4⟩:=hx ca OW m1 a1 w1 lo hlo s1 k1 (λe1 a2 w2=>e1=.normal/\∃m2,St P m2 _ _ a2 w2/\Grow m1 _ w1 m2 _ w2/\Marks m2 w2 lo a2.defers) (λm' a' w' s g k'=>⟨rfl,m',s,g,k'⟩) b (.inLoop ca::k) cs hro hb hr;obtain⟨rfl,m2,s2,g2,k2⟩:=hq;obtain⟨e3,a3,w3,hq3,harr3⟩:=ih m2 a2 w2 (Vk hlo g2.size) s2 k2 (λm' a' w' s g k'=>hQ m' a' w' s (g2.trans g s1.hr.cD) k');exact⟨e3,a3,w3,hq3,.of_steps (StepsIn.trans O4 (.one (fenced_calm hb hr rfl) stepR_inLoop)) harr3⟩
  obtain⟨e',a',w',hq,O4⟩:=key m a w hlo st hm hQ;exact⟨e',a',w',hq,.of_steps (.one (fenced_calm hb hr rfl) stepR_loop) O4⟩
 |scope a=>exact absurd rfl (hns a)
 |region id ops draw=>rcases dE (by simpa only[compile]using hc)with⟨_,h1,_⟩|⟨_,h1,_⟩|⟨_,h1,_⟩<;>cases h1
 |block id a=>simp[compile]at hc
 |_=>
  exact ze
end
def ez(ts:TS)(h:af):Nat×Option (Option Nat)->Option AV
 |(t,none)=>some (ts.getD t au)
 |(a,some n)=>
  match cV (.load n (.c (ts.getD a au))) (val ts) h with
  |some (v,_)=>some v
  |none=>none
def iG(ts:TS)(h:af):List (Nat×Option (Option Nat))->Option (List AV)
 |[]=>some []
 |r::rs=>
  match ez ts h r,iG ts h rs with
  |some v,some vs=>some (v::vs)
  |_,_=>none
def cL(rs:List (Nat×Option (Option Nat)))(ts:TS)(h:af):Option AV:=
 match iG ts h rs with
 |some [v]=>some v
 |some l=>some (.dt l)
 |none=>none
def aQ(nt:Nat)(args:List AV):TS:=args++List.replicate (nt-args.length) au
def Ex.leaves:Ex->Bool
 |.normal=>true
 |.ret=>true
 |_=>false
section
variable {P:Program}{m:bH}{h h':af}{w:World}{v:AV}
def vm{ts a}(st:St P m ts h a w){r x}(hx:rL P r=some x)(hv:ez ts h x=some v):
  ∃cv,(match r with
   |.tmp t=>(pure (a.tmps.getD t undef):Sem Value)
   |.cell b t=>do loadVar t (<-asAddr (a.tmps.getD b undef))).run P w=.ok cv w/\VR m v cv:=by
 cases r with
 |tmp t=>cases hx;cases hv;exact⟨_,rfl,lN st.ts t⟩
 |cell b t=>
  simp only[rL,Uz]at hx;obtain⟨n,hn,rfl⟩:=hx;simp only[ez]at hv;split at hv
  case h_2=>cases hv
  rename_i v' h' hf;cases hv;obtain⟨cv,h1,h2,_⟩:=zP (P:=P) (ρ:=val ts) hn st.hr (a:=.c (ts.getD b au)) (lN st.ts b) hf;refine⟨cv,?_,h2⟩;simp only[cV,val]at hf;split at hf
  case h_2=>cases hf
  rename_i b' o' hb';have hs:=lN st.ts b;rw[hb',VR]at hs;obtain⟨e,_,he⟩:=hs;simp only[he]at h1 ⊢
  simpa [Instr.loadAt,Instr.sureAddr,asAddr]using h1
theorem nR{ts:TS}{a:Act}(st:St P m ts h a w):∀{rs:List ResultVar}{xs:List (Nat×Option (Option Nat))}{vs:List AV},rs.mapM (rL P)=some xs->iG ts h xs=some vs->
  ∃Ql,(rs.mapM (m:=Sem) λ
   |.tmp t=>pure (a.tmps.getD t undef)
   |.cell b t=>do loadVar t (<-asAddr (a.tmps.getD b undef))).run P w=.ok Ql w/\cw m vs Ql
 |[],xs,vs,hx,hv=>by
  simp at hx;subst hx;cases hv;exact⟨[],rfl,aT.2 rfl⟩
 |r::rs,xs,vs,hx,hv=>by
  simp only[WT,Wo,W8]at hx;cases hr:rL P r with
  |none=>simp[hr]at hx
  |some x=>
   cases hrs:rs.mapM (rL P)with
   |none=>simp[hr,hrs]at hx
   |some xs'=>
    simp[hr,hrs]at hx;subst hx;simp only[iG]at hv;split at hv
    case h_2=>cases hv
    rename_i v vs' h1 h2;cases hv;obtain⟨cv,hc,Ok⟩:=vm st hr h1;obtain⟨Ql,Qp,hvrs⟩:=nR st hrs h2;refine⟨cv::Ql,?_,aF.2 ⟨cv,Ql,rfl,Ok,hvrs⟩⟩;rw[WT,Uy];have Py:=hc;cases r<;>(simp only at Py ⊢;rw[Py];simp only[Uo,Uy,Qp,UN])
def th{ts:TS}{a:Act}(st:St P m ts h a w){fn:Func}{xs:List (Nat×Option (Option Nat))}(hx:fn.results.toList.mapM (rL P)=some xs)(hv:cL xs ts h=some v):
  ∃cv,(results fn a.tmps).run P w=.ok cv w/\VR m v cv:=by
 unfold cL at hv;have key:∀{vs:List AV},iG ts h xs=some vs->∃Ql:List Value,(results fn a.tmps).run P w=.ok (if h:Ql.length=1 then Ql[0]else .tuple ⟨Ql⟩) w/\cw m vs Ql:=by
  intro vs OI;obtain⟨Ql,h1,h2⟩:=nR st hx OI;refine⟨Ql,?_,h2⟩;unfold results;rw[Array.mapM_eq_mapM_toList,Uy];simp only[map_eq_pure_bind,Uy];have h1':=h1
  erw [h1']
  simp only[Uo,UN];by_cases hc:Ql.length=1
  ·simp[hc]
  ·simp[hc]
 split at hv
 ·rename_i v' OI;cases hv;obtain⟨Ql,h1,h2⟩:=key OI;obtain⟨y,ys,rfl,hy,hys⟩:=aF.1 h2;rw[aT]at hys;subst hys;exact⟨y,by simpa using h1,hy⟩
 ·rename_i l hno OI;cases hv;obtain⟨Ql,h1,h2⟩:=key OI;have hlen:Ql.length≠1:=by
   rw[h2.length];intro hl;obtain⟨z,hz⟩:=List.length_eq_one_iff.1 hl;exact hno z hz
  rw[dif_neg hlen]at h1;exact⟨_,h1,⟨Ql,rfl,h2⟩⟩
 ·cases hv
theorem mj{fn xs}(hx:fn.results.toList.mapM (rL P)=some xs){ts}(hv:cL xs ts h' =some v){m0 h0 w0 lo}(hlo:w0.heap.size<=lo):
  ∀(ds:List Deferred) (m:bH) (a:Act) (w:World),St P m ts h' a w->Grow m0 h0 w0 m h' w->Marks m w lo ds->LeavesInM Fence.wide 0 P fn a.tmps (Rel P m0 h0 w0 v h') ds .returning w
 |[],m,a,w,st,g,_=>by
  obtain⟨cv,h1,h2⟩:=th st hx hv;exact⟨cv,h1,cv,m,rfl,h2,st.hr,g⟩
 |d::ds,m,a,w,st,g,k=>by
  obtain⟨rs,h1,h2,h3⟩:=k;cases rs with
  |nil=>simp at h1
  |cons r rs=>
   simp only[Vl,List.cons.injEq]at h1;obtain⟨rfl,rfl⟩:=h1;obtain⟨hl,hh,hm⟩:=h3 r Si;have hoth:∀i,i≠r->(w.putObj r (.deferred none)).heap[i]? =w.heap[i]? :=λi hi=>World.putObj_heap_other hi
   refine⟨Si,.inl ⟨r,_,rfl,run_takeDeferred hh,?_⟩⟩;refine mj hx hv hlo _ m a _ ⟨⟨st.hr.cD,λb e k hb hk=>(st.hr.dU b e k hb hk).heap (hoth _ (hm b e hb)),st.hr.sep,st.hr.fG,λb e hb=>by simpa using st.hr.lt b e hb⟩,st.ts⟩
    ⟨g.ext,g.len,g.new,g.tl,by simpa using g.size,g.os,g.out,g.tape,λi hi hno=>?_⟩ ⟨rs,rfl,(Xa.1 h2).2,λr' hr'=>?_⟩
   ·rw[hoth i Om];exact g.frame i hi hno
   ·obtain⟨c1,c2,c3⟩:=h3 r' (UL _ hr');refine⟨c1,?_,c3⟩;rw[hoth r' (λx=>(Xa.1 h2).1 (x▸hr'))];exact c2
def fT{f A}(hA:bz P f=some A):∃fn c,P.funcs[f]? =some fn/\fn.body=some c/\compile P c=some A.body/\fn.results.toList.mapM (rL P)=some A.rs/\fn.ntmps=A.nt/\(fn.name == "runtime.NumGoroutine")=false:=by
 unfold bz at hA;split at hA
 case h_1=>cases hA
 rename_i fn hf;split at hA
 case h_1=>cases hA
 rename_i c hb;split at hA
 case h_2=>cases hA
 rename_i b rs hc hr;split at hA
 case isTrue=>cases hA
 rename_i hn;cases hA;exact⟨fn,c,hf,hb,hc,hr,rfl,by simpa using hn⟩
def ke.IM{f A}(hA:bz P f=some A){args e ts'}(hev:Ev P none A.body (aQ A.nt args) h e ts' h')(he:e.leaves=true)(hv:cL A.rs ts' h' =some v):ke P f args h v h':=by
 intro m w vs hr hargs;obtain⟨fn,c,hf,hb,hc,hres,hnt,_⟩:=fT hA;rw[<-callsIn_wide (n:=0)];refine callsIn_of_wp_marks hf hb trivial ?_;refine hev c hc m _ w w.heap.size (Uq _) ⟨hr,?_⟩ (Marks.nil m w _) _ ?_
 ·have:((⟨vs⟩:Array Value)++Array.replicate (fn.ntmps-(⟨vs⟩:Array Value).size) undef).toList=vs++List.replicate (A.nt-args.length) undef:=by
   rw[hnt];simp[hargs.length]
  rw[this];refine cw.append hargs (cw.gf Si λi x hx=>?_);rw[List.getElem?_replicate]at hx ⊢;split at hx
  ·rename_i hlt;cases hx;rw[Ut hlt];exact⟨undef,rfl,iV m⟩
  ·cases hx
 ·intro m' a' w' s g k;have:=mj hres hv (Uq _) a'.defers m' a' w' s g k;cases e<;>first|exact this|cases he
def eG.wP{f A}(hA:bz P f=some A){a c args}(hs:ke P f (a++args++c) h v h'):eG P (.func (.func f) a c) args h v h':=by
 intro m w cv vs hr hf hargs;rw[VR]at hf;obtain⟨f',a',c',rfl,hfn,ha,hc⟩:=hf;simp only[y0]at hfn;subst hfn;refine⟨_,λw=>rfl,?_⟩;obtain⟨fn,cc,hfn,hb,_,_,_,hn⟩:=fT hA;simp only[invoke];rw[jt hfn (by rw[hb];rfl) hn];show CallsIn Fence.wide 0 P f _ w _;rw[callsIn_wide];have:=hs m w (a'++vs++c') hr (cw.append (cw.append ha hargs) hc)
 simpa using this
def gM(P:Program)(u:TypeId)(name:String):Option FuncId:=
 match P.info? u,P.underlying u with
 |some i,some d=>
  match i.methods.find? (·.name==name)with
  |some m=>
   match m.path.toList,m.func,d with
   |[],some (_,false),.pointer _=>none
   |[],some (f,false),_=>some f
   |_,_,_=>none
  |none=>none
 |_,_=>none
def vj{u:TypeId}{name f}(hm:gM P u name=some f)(n:Nat)(v:Value)(w:World):(method (n+1) u v name).run P w=.ok (f,v) w:=by
 unfold gM at hm;split at hm
 case h_2=>cases hm
 rename_i i d hi hd;split at hm
 case h_2=>cases hm
 rename_i mm Qg;split at hm
 case h_3=>cases hm
 case h_1=>cases hm
 rename_i f' hp hfn hnp;cases hm;have hti:(typeInfo u).run P w=.ok i w:=by simp[typeInfo,hi]
 rw[method];simp only[Uy,hti,Uo,Qg,hp,follow,UN,hfn];have Oq:∀wr,(receiverAt u (.val v) false wr).run P w=.ok v w:=by
  intro wr;unfold receiverAt;simp only[Uy,Ux hd,Uo];rfl
 simp only[Oq,Uo]
def eG.Ce{u:TypeId}{name f A}(hm:gM P u name=some f)(hA:bz P f=some A){a args}(hs:ke P f (a::args) h v h'):eG P (.func (.method name) [] []) (.sN u a::args) h v h':=by
 intro m w cv vs hr hf hargs;rw[VR]at hf;obtain⟨f',a',c',rfl,hfn,ha,hc⟩:=hf;simp only[y0]at hfn;subst hfn;rw[aT]at ha hc;subst ha;subst hc;obtain⟨x,vs,rfl,hx,OI⟩:=aF.1 hargs;rw[VR]at hx;obtain⟨v',rfl,hx⟩:=hx;refine⟨_,λw=>rfl,?_⟩;obtain⟨fn,cc,hfn,hb,_,_,_,hn⟩:=fT hA;have e0:((#[]++(⟨.iface u v'::vs⟩:Array Value)):Array Value)[0]? =some (.iface u v'):=Si
 have e1:((#[]++(⟨.iface u v'::vs⟩:Array Value)):Array Value).extract 1 ((#[]++(⟨.iface u v'::vs⟩:Array Value)):Array Value).size=⟨vs⟩:=by
  apply WZ;simp
 simp only[invoke,e0,e1,callMethod,Uy,program];have hmt:=vj hm (P.types.size+Made.depth-1) v' w;have hdep:0<Made.depth:=De
 have hne:P.types.size+Made.depth-1+1=P.types.size+Made.depth:=Om
 rw[hne]at hmt;show BI P (Rel P m h w v h') ((Result.ok P w).andThen λa w'=>(Sem.run P (method (a.types.size+Made.depth) u v' name) w').andThen λa w'=>Sem.run P (callFunc a.fst (#[a.snd]++⟨vs⟩)) w');simp only[Uo,hmt];rw[jt hfn (by rw[hb];rfl) hn];show CallsIn Fence.wide 0 P f _ w _;rw[callsIn_wide];have:=hs m w (v'::vs) hr (aF.2 ⟨_,_,rfl,hx,OI⟩);have e2:(#[v']++(⟨vs⟩:Array Value))=⟨v'::vs⟩:=by apply WZ;simp
 rw[e2];exact this
end
def setArgs:TS->List Nat->List AV->TS
 |ts,p::ps,v::vs=>setArgs (ts.set p v) ps vs
 |ts,_,_=>ts
section
variable {P:Program}{m:bH}{h h':af}{w:World}{v:AV}
def HR.aside(hr:HR P m h w)(o:Obj):HR P m h (w.alloc o):=
 ⟨hr.cD,λb e k hb hk=>(hr.dU b e k hb hk).heap (Go.RowKit.Below.heap_alloc w o _ (hr.lt b e hb)),hr.sep,hr.fG,λb e hb=>by have:=hr.lt b e hb;simp;omega⟩
def Grow.aside(hr:HR P m h w)(o:Obj):Grow m h w m h (w.alloc o):=
 ⟨λ_ _=>rfl,Uq _,λb e hb he=>absurd (hr.cD b e he) Om,λ_ _ h=>h,Si,rfl,rfl,rfl,λi hi _=>Go.RowKit.Below.heap_alloc w o i hi⟩
theorem nP:∀{ps}{args}{ts}{tmps}{vs},cw m ts tmps.toList->cw m args vs->cw m (setArgs ts ps args) ((ps.zip vs).foldl (λ(t:Array Value) (p:Nat×Value)=>t.setIfInBounds p.1 p.2) tmps).toList
 |[],_,_,_,_,ht,_=>by simpa [setArgs]using ht
 |p::ps,[],ts,tmps,vs,ht,ha=>by rw[aT]at ha;subst ha;simpa [setArgs]using ht
 |p::ps,x::args,ts,tmps,vs,ht,ha=>by
  obtain⟨y,ys,rfl,hy,hys⟩:=aF.1 ha;simp only[List.zip_cons_cons,W9,setArgs];exact nP (by rw[Array.toList_setIfInBounds];exact ht.set p hy) hys
theorem eG.yield{l ex ex2 ex4 e ts Q4 ts3 tb tc ps pb pc asg body ab ac bb bc h2 h4 args st4}
  (hl:h[l]? =some (.loop .ready ex ts ps asg body)) (hlen:args.length=ps.length)
  (hasg:∀r,Ev P (some r) asg (setArgs ts ps args) h .normal Q4 h2) (hl2:h2[l]? =some (.loop .ready ex2 tb pb ab bb))
  (hbody:∀r,Ev P (some r) body Q4 (h2.set l (.loop .busy ex2 tb pb ab bb)) e ts3 h4) (hl4:h4[l]? =some (.loop st4 ex4 tc pc ac bc)):
  eG P (.func (.yield l) [] []) args h (.bool (decide (e=.normal))) (h4.set l (.loop (if e=.normal then .ready else .done) e tc pc ac bc)):=by
 intro m w cv vs hr hf hargs;rw[VR]at hf;obtain⟨f',a',c',rfl,hfn,ha,hc⟩:=hf;rw[aT]at ha hc;subst ha;subst hc;obtain⟨el,T2,rfl⟩:=hfn;refine⟨_,λw=>rfl,?_⟩;obtain⟨hown,fn,tmps,Pb,OM,df,hh,Ol,OW,hcb⟩:=hr.dU l el _ T2 hl;have hy:=run_yield (P:=P) (args:=(#[]++⟨vs⟩:Array Value)) hh (by simp[hargs.length,hlen]);simp only[invoke];rw[hy];show RoundIn Fence.wide 0 P el.cb fn _ Pb OM w _;refine roundIn_of_wpIn trivial ?_;have Qd:cw m (setArgs ts ps args) (((⟨ps⟩:Array Tmp).zip (#[]++⟨vs⟩:Array Value)).foldl (λtmps (t,a)=>tmps.setIfInBounds t a) tmps).toList:=by
  have:=nP (ps:=ps) Ol hargs;rw[<-Array.foldl_toList,Array.toList_zip]
  simpa using this
 refine hasg el.cb Pb OW m _ w w.heap.size (Uq _) ⟨hr,Qd⟩ (Marks.nil m w _) _ λm1 a1 w1 s1 g1 k1=>?_
 have Ss:m1 l=some el:=by rw[g1.ext l (hr.cD _ _ T2)];exact T2
 obtain⟨_,fn2,SG,Tf,RW,df2,hh2,hts2,hca2,hcb2⟩:=s1.hr.dU l el _ Ss hl2;refine⟨_,run_beginRound hh2 rfl,?_⟩;have hlt1:el.cb<w1.heap.size:=s1.hr.lt _ _ Ss;obtain⟨PW,g2⟩:=jc s1.hr (o:=.loop {state:=.busy,pending:=ex2.jump,fn:=fn2,tmps:=SG,params:=⟨pb⟩,assign:=Tf,body:=RW,defers:=df2}) Ss hl2 rfl (k':=.loop .busy ex2 tb pb ab bb) (.inl rfl)
  ⟨hown,fn2,SG,Tf,RW,df2,World.putObj_heap_same hlt1,hts2,hca2,hcb2⟩
 refine hbody el.cb OM hcb m1 a1 _ w.heap.size (Vk g1.size g2.size) ⟨PW,s1.ts⟩ (k1.grow g2 s1.hr.cD) _ λm2 a2 w3 s2 g3 k2=>?_
 have hl2':l<h2.length:=(Ue.1 hl2).1;have T0:m2 l=some el:=by rw[g3.ext l (by simpa using hl2')];exact Ss
 obtain⟨_,fn4,SF,Te,RU,df4,hh4,hts4,hca4,hcb4⟩:=s2.hr.dU l el _ T0 hl4;have Qy:el.cb<w3.heap.size:=s2.hr.lt _ _ T0;have fin:∀j:Option Code,j=e.jump->∃v w',(Instr.endRound el.cb j).run P w3=.ok v w'/\Rel P m h w (.bool (decide (e=.normal))) (h4.set l (.loop (if e=.normal then .ready else .done) e tc pc ac bc)) (.returned v) w':=by
  rintro j rfl;obtain⟨hr4,g4⟩:=jc s2.hr (o:=.loop {state:=if e=.normal then .ready else .done,pending:=e.jump,fn:=fn4,tmps:=SF,params:=⟨pc⟩,assign:=Te,body:=RU,defers:=df4}) T0 hl4 rfl
   (k':=.loop (if e=.normal then .ready else .done) e tc pc ac bc) (.inl rfl) ⟨hown,fn4,SF,Te,RU,df4,World.putObj_heap_same Qy,hts4,hca4,hcb4⟩
  refine⟨_,_,run_endRound e.jump hh4,.bool (decide (e=.normal)),m2,?_,rfl,?_,?_⟩
  ·cases e<;>rfl
  ·have:(if e.jump.isNone=true then LoopState.ready else .done)=if e=.normal then .ready else .done:=by cases e<;>rfl
   simp only[this];exact hr4
  ·have:(if e.jump.isNone=true then LoopState.ready else .done)=if e=.normal then .ready else .done:=by cases e<;>rfl
   simp only[this];exact((g1.trans g2 hr.cD).trans g3 hr.cD).trans g4 hr.cD
 cases e with
 |normal=>exact fin none rfl
 |exit id=>exact fin (some (.exit id)) rfl
 |ret=>exact fin (some .ret) rfl
theorem Ev.ft{g ps ps' asg body asg' body' ts ts' f A a c h2 st ex}(hA:bz P f=some A)(hg:val ts g=.func (.func f) a c)
  (hs:ke P f (a++[.func (.yield h.length) [] []]++c) (h++[.loop .ready .normal ts ps asg body]) v h2) (hl:h2[h.length]? =some (.loop st ex ts' ps' asg' body')) (bE:st≠.busy):
  Ev P none (.ft g ps asg body) ts h ex ts (h2.set h.length .dead):=by
 refine Ev.of λcc hns Rg m act w lo hlo s hm Q hQ=>?_
 cases cc with
 |rangeFunc og cps Pb OM=>
  simp only[compile]at Rg;split at Rg
  case h_2=>cases Rg
  rename_i g' x' y' hgo OW hcb;cases Rg;have hv:=Am s hgo;rw[hg,VR]at hv;obtain⟨f',ca,OY,hev,hfn,ha,hc⟩:=hv;simp only[y0]at hfn;subst hfn;obtain⟨W1,hW1⟩:∃W1,w.alloc (.deferred (some []))=W1:=⟨_,rfl⟩;have hsz1:W1.heap.size=w.heap.size+1:=by rw[<-hW1];simp
  have hr1:HR P m h W1:=by rw[<-hW1];exact s.hr.aside _
  have g1:Grow m h w m h W1:=by rw[<-hW1];exact Grow.aside s.hr _
  have hK1:W1.heap[w.heap.size]? =some (.deferred (some [])):=by rw[<-hW1];exact World.alloc_heap_new w _
  refine wpIn_rangeFunc λfn _=>?_
  obtain⟨rec,Oq⟩:∃rec:Loop,rec={state:=.ready,pending:=none,fn:=fn,tmps:=act.tmps,params:=cps,assign:=Pb,body:=OM,defers:=w.heap.size}:=⟨_,rfl⟩;obtain⟨PW,g2⟩:=jn hr1 (.loop rec) (.loop .ready .normal ts cps.toList asg body) ⟨W1.heap.size,0,0,true⟩ rfl rfl (λm' hm'=>⟨rfl,fn,act.tmps,Pb,OM,w.heap.size,by rw[Oq];exact World.alloc_heap_new W1 _,cw.mono hm' _ _ s.ts,OW,hcb⟩);have hloc:(m.add h.length ⟨W1.heap.size,0,0,true⟩) h.length=some ⟨W1.heap.size,0,0,true⟩:=by simp[bH.add]
  have hle:m.le (m.add h.length ⟨W1.heap.size,0,0,true⟩):=g2.le s.hr.cD;have RL:=run_enterLoop_outer (P:=P) (w:=w) fn act.tmps cps Pb OM;rw[hW1,<-Oq]at RL;obtain⟨ffn,fcode,hffn,S3,_,_,_,TX⟩:=fT hA;have hmk:Marks (m.add h.length ⟨W1.heap.size,0,0,true⟩) (W1.alloc (.loop rec)) lo ([{target:=.collected w.heap.size,args:=#[] }]++act.defers):=by
   obtain⟨rs,k1,k2,k3⟩:=(hm.grow g1 s.hr.cD).grow g2 s.hr.cD;refine⟨w.heap.size::rs,by rw[k1];rfl,Xa.2 ⟨λhin=>?_,k2⟩,λr hr'=>?_⟩
   ·obtain⟨rs0,j1,j2,j3⟩:=hm;have hrs:rs0=rs:=by
     have:rs0.map (λr=>({target:=.collected r,args:=#[] }:Deferred))=rs.map (λr=>({target:=.collected r,args:=#[] }:Deferred)):=by rw[<-j1,k1]
     exact List.map_inj_right (λx y hxy=>by simpa using hxy) |>.1 this
    subst hrs;have:=(Uu.1 (j3 _ hin).2.1).1;omega
   ·rcases UR.1 hr' with rfl|hr'
    ·refine⟨hlo,(Go.RowKit.Below.heap_alloc W1 _ _ Om).trans hK1,λb e hb=>?_⟩;unfold bH.add at hb;split at hb
     ·cases hb;show W1.heap.size≠_;omega
     ·have:=s.hr.lt b e hb;omega
    ·exact k3 r hr'
  refine⟨w.heap.size+1,_,W1.alloc (.loop rec),{target:=.fn (.func f) ⟨OY⟩,args:=⟨ca⟩++#[.func (.yield (w.heap.size+1)) #[] #[]] },W1.alloc (.loop rec),f,(⟨ca⟩++#[.func (.yield (w.heap.size+1)) #[] #[]])++⟨OY⟩,W1.alloc (.loop rec),
   RL,?_,λ_ _=>trivial,?_,λhd=>by simp[Fd,Fence.wide]at hd,?_⟩
  ·have Qw:(#[Operand.const (.func (.yield (w.heap.size+1)) #[] #[])] :Array Operand).map act.eval=#[.func (.yield (w.heap.size+1)) #[] #[]]:=by simp[Act.eval]
   simp only[resolve,hev,rangeCall,Qw];rfl
  ·simp only[invoke];exact jt hffn (by rw[S3];rfl) TX
  ·have hargs:cw (m.add h.length ⟨W1.heap.size,0,0,true⟩) (a++[.func (.yield h.length) [] []]++c) (ca++[.func (.yield (w.heap.size+1)) #[] #[]]++OY):=by
    refine cw.append (cw.append (cw.mono hle _ _ ha) (aF.2 ⟨_,[],rfl,⟨_,[],[],rfl,⟨_,hloc,by rw[hsz1]⟩,rfl,rfl⟩,aT.2 rfl⟩)) (cw.mono hle _ _ hc)
   have Qj:=hs _ _ _ PW hargs;rw[<-callsIn_wide (n:=0)]at Qj;have T5:CallsIn (Fd none) (0-1) P f ((⟨ca⟩++#[.func (.yield (w.heap.size+1)) #[] #[]])++⟨OY⟩) (W1.alloc (.loop rec)) (Rel P (m.add h.length ⟨W1.heap.size,0,0,true⟩) (h++[.loop .ready .normal ts cps.toList asg body]) (W1.alloc (.loop rec)) v h2):=by
    have O4:((⟨ca⟩++#[.func (.yield (w.heap.size+1)) #[] #[]])++⟨OY⟩:Array Value)=⟨ca++[.func (.yield (w.heap.size+1)) #[] #[]]++OY⟩:=by apply WZ;simp
    rw[O4];exact Qj
   refine T5.mono ?_;rintro e3 w3 ⟨cv,m3,rfl,hv3,hr3,g3⟩;have SV:m3 h.length=some ⟨W1.heap.size,0,0,true⟩:=by rw[g3.ext h.length Si];exact hloc
   obtain⟨hown3,fn3,tmps3,casg3,Uc,df3,hh3,_⟩:=hr3.dU h.length _ _ SV hl;simp only at hh3;have P3:=run_endLoop (P:=P) (l:=W1.heap.size) hh3 (by simpa using bE);obtain⟨hr4,g4⟩:=jc hr3 (o:=.loop {state:=.exhausted,pending:=ex.jump,fn:=fn3,tmps:=tmps3,params:=⟨ps'⟩,assign:=casg3,body:=Uc,defers:=df3}) SV hl rfl (k':=.dead) (.inr rfl) trivial;have PF:=hQ m3 {act with defers:=[{target:=.collected w.heap.size,args:=#[] }]++act.defers} _ ⟨hr4,cw.mono ((g2.trans g3 s.hr.cD).le s.hr.cD) _ _ s.ts⟩ (((g1.trans g2 s.hr.cD).trans g3 s.hr.cD).trans g4 s.hr.cD) ((hmk.grow g3 PW.cD).grow g4 hr3.cD);refine⟨ex.jump,_,by rw[<-hsz1];exact P3,?_⟩
   cases ex with
   |normal=>exact PF
   |exit id=>exact wpIn_exit PF
   |ret=>exact wpIn_ret PF
 |scope a=>exact absurd rfl (hns a)
 |region id ops draw=>rcases dE (by simpa only[compile]using Rg)with⟨_,h1,_⟩|⟨_,h1,_⟩|⟨_,h1,_⟩<;>cases h1
 |block id a=>simp[compile]at Rg
 |loop a=>simp[compile]at Rg
 |_=>
  simp only[compile]at Rg
  (repeat' split at Rg)
  all_goals cases Rg
end
inductive gL where
 |ar
 |push (k:ai)
 |set (b:Nat) (k:ai)
 |lO (b:Nat) (k k':ai)
 deriving Inhabited
def gL.app:gL->af->af
 |.ar,h=>h
 |.push k,h=>h++[k]
 |.set b k,h=>h.set b k
 |.lO b k k',h=>h.set b k++[k']
def eE(es:Nat)(G:Nat->Option ai):AV->Option (List AV×Nat)
 |.ah=>some ([],0)
 |.slice b o n es'=>
  if es' =es then
   match G b with
   |some (.cells c _ _)=>if o+n*es<=c.length then some ((c.drop o).take (n*es),n)else none
   |_=>none
  else none
 |.str s=>if es=1 then some (s.map λb=>.int .u8 b.toNat,s.length)else none
 |_=>none
def iC(lk:LK)(G:Nat->Option ai):AV->Option Nat
 |.str s=>if lk=.st then some s.length else none
 |.slice _ _ n _=>if lk=.sl then some n else none
 |.ah=>if lk=.sl then some 0 else none
 |.map r=>
  match G r with
  |some (.aN es)=>if lk=.mp then some es.length else none
  |_=>none
 |.cQ=>if lk=.mp then some 0 else none
 |_=>none
def kU(k:xZ)(x:AV)(G:Nat->Option ai)(N0:Nat):Option (AV×gL):=
 match k with
 |.Js k=>
  match x with
  |.int _ n=>some (.int k (k.wrap n),.ar)
  |_=>none
 |.same=>
  match x with
  |.str s=>some (.str s,.ar)
  |_=>none
 |.LM k=>
  match x with
  |.int _ n=>some (.uS k (k.nearest n),.ar)
  |_=>none
 |.L8 k=>
  match x with
  |.uS s b=>
   match (s.decode b).toInt .zero with
   |some n=>if Cn s b=false/\k.min<=n/\n<=k.max then some (.int k n,.ar)else none
   |none=>none
  |_=>none
 |.L9 k=>
  match x with
  |.uS s b=>if s=k then some (.uS k b,.ar)else none
  |_=>none
 |.sN u=>some (.sN u x,.ar)
 |.Ks=>
  match x with
  |.ah=>some (.str [],.ar)
  |.slice b o n es=>
   match eE 1 G (.slice b o n es)with
   |some (l,_)=>
    match l.mapM byteOf with
    |some r=>some (.str r,.ar)
    |none=>none
   |none=>none
  |_=>none
 |.K5=>
  match x with
  |.str s=>some (.slice N0 0 s.length 1,.push (.cells (s.map λb=>.int .u8 b.toNat) true true))
  |_=>none
def lz(k:mU):(cK->AV)->(Nat->Option ai)->Nat->Option (AV×gL):=
 match k with
 |.dq x=>λρ G N0=>some (ρ x,.ar)
 |.pick c a b=>λρ G N0=>
  match ρ c with
  |.bool t=>some (if t then ρ a else ρ b,.ar)
  |_=>none
 |.box x=>λρ G N0=>if(ρ x).cells.all AV.one then some (.ptr N0 0,.push (.cells (ρ x).cells true false))else none
 |.mD n x=>λρ G N0=>if(ρ x).cells.all AV.one=true/\(ρ x).cells.length=n then some (.ptr N0 0,.push (.cells (ρ x).cells true false))else none
 |.build z ps=>λρ G N0=>
  match dW z (ps.map λp=>(p.1,p.2.1,ρ p.2.2))with
  |some c=>some (.agg c,.ar)
  |none=>none
 |.load n a=>λρ G N0=>
  match ρ a with
  |.ptr b o=>
   match G b with
   |some (.cells c _ _)=>
    match n with
    |none=>
     match c[o]? with
     |some x=>some (x,.ar)
     |none=>none
    |some n=>if o+n<=c.length then some (.agg ((c.drop o).take n),.ar)else none
   |_=>none
  |_=>none
 |.store n a x=>λρ G N0=>
  match ρ a with
  |.ptr b o=>
   match G b with
   |some (.cells c true tl)=>
    if(ρ x).cells.length=n/\(ρ x).cells.all AV.one=true/\o+n<=c.length then some (au,.set b (.cells (fq c o (ρ x).cells) true tl))else none
   |_=>none
  |_=>none
 |.bu x=>λρ G N0=>
  match ρ x with
  |.ptr b o=>some (.ptr b o,.ar)
  |.func (.func f) a c=>some (.func (.func f) a c,.ar)
  |.func (.yield f) a c=>some (.func (.yield f) a c,.ar)
  |.func (.methodOf t n) a c=>some (.func (.methodOf t n) a c,.ar)
  |.func (.via t p f q) a c=>some (.func (.via t p f q) a c,.ar)
  |_=>none
 |.bin op x y=>λρ G N0=>
  match dM op (ρ x) (ρ y)with
  |some v=>some (v,.ar)
  |none=>none
 |.eqv neg t x y=>λρ G N0=>
  match nw t (ρ x) (ρ y)with
  |some b=>some (.bool (if neg then !b else b),.ar)
  |none=>none
 |.un op x=>λρ G N0=>
  match uW op (ρ x)with
  |some v=>some (v,.ar)
  |none=>none
 |.conv k x=>λρ G N0=>kU k (ρ x) G N0
 |.rV f a c=>λρ G N0=>some (.func f (a.map ρ) (c.map ρ),.ar)
 |.mg=>λρ G N0=>some (.map N0,.push (.aN []))
 |.tL es w z l c=>λρ G N0=>
  match ρ l,ρ c with
  |.int _ l,.int _ c=>
   if 0<=l/\l<=c/\(w:Int)*c<=2^48/\c<2^63 then some (.slice N0 0 l.toNat es,.push (.cells (du l.toNat z) true true))else none
  |_,_=>none
 |.sl es x lo hi=>λρ G N0=>
  match ρ x with
  |.slice b o n es'=>
   if es' =es then
    match gx (lo.map ρ) (hi.map ρ) n with
    |some (l,h')=>some (.slice b (o+l*es) (h'-l) es,.ar)
    |none=>none
   else none
  |.ah=>
   match gx (lo.map ρ) (hi.map ρ) 0 with
   |some _=>some (.ah,.ar)
   |none=>none
  |_=>none
 |.Fk x lo hi=>λρ G N0=>
  match ρ x with
  |.str s=>
   match gx (lo.map ρ) (hi.map ρ) s.length with
   |some (l,h')=>some (.str ((s.drop l).take (h'-l)),.ar)
   |none=>none
  |_=>none
 |.Ko k es x lo hi=>λρ G N0=>
  match ρ x with
  |.ptr b o=>
   match G b with
   |some (.cells c _ _)=>
    if o+k*es<=c.length then
     match gx (lo.map ρ) (hi.map ρ) k with
     |some (l,h')=>some (.slice b (o+l*es) (h'-l) es,.ar)
     |none=>none
    else none
   |_=>none
  |_=>none
 |.bP off x=>λρ G N0=>
  match ρ x with
  |.ptr b o=>some (.ptr b (o+off),.ar)
  |_=>none
 |.bT es x i=>λρ G N0=>
  match ρ x,ρ i with
  |.slice b o n es',.int _ i=>if es' =es/\0<=i/\i<n then some (.ptr b (o+i.toNat*es),.ar)else none
  |_,_=>none
 |.qg len es x i=>λρ G N0=>
  match ρ x,ρ i with
  |.ptr b o,.int _ i=>if 0<=i/\i<len then some (.ptr b (o+i.toNat*es),.ar)else none
  |_,_=>none
 |.part n off x=>λρ G N0=>
  match ρ x with
  |.agg cs=>
   match n with
   |none=>
    match cs[off]? with
    |some v=>some (v,.ar)
    |none=>none
   |some n=>some (.agg ((cs.drop off).take n),.ar)
  |_=>none
 |.Hr len es n x i=>λρ G N0=>
  match ρ x,ρ i with
  |.agg cs,.int _ i=>
   if 0<=i/\i<len then
    match n with
    |none=>
     match cs[i.toNat*es]? with
     |some v=>some (v,.ar)
     |none=>none
    |some n=>some (.agg ((cs.drop (i.toNat*es)).take n),.ar)
   else none
  |_,_=>none
 |.Gj x i=>λρ G N0=>
  match ρ x,ρ i with
  |.str s,.int _ i=>
   if 0<=i then
    match s[i.toNat]? with
    |some b=>some (.int .u8 b.toNat,.ar)
    |none=>none
   else none
  |_,_=>none
 |.look kk z ok m k=>λρ G N0=>
  match ρ m with
  |.cQ=>some (if ok then .dt [z,.bool false]else z,.ar)
  |.map r=>
   match G r with
   |some (.aN es)=>
    match iw kk (ρ k) es with
    |some (some v)=>some (if ok then .dt [v,.bool true]else v,.ar)
    |some none=>some (if ok then .dt [z,.bool false]else z,.ar)
    |none=>none
   |_=>none
  |_=>none
 |.fu kk m k x=>λρ G N0=>
  match ρ m with
  |.map r=>
   match G r with
   |some (.aN es)=>
    match mZ kk (ρ k) (ρ x) es with
    |some es'=>some (au,.set r (.aN es'))
    |none=>none
   |_=>none
  |_=>none
 |.zS x=>λρ G N0=>
  match ρ x with
  |.str s=>some (.ptr N0 0,.push (.iter s 0))
  |_=>none
 |.pz x=>λρ G N0=>
  match ρ x with
  |.ptr b 0=>
   match G b with
   |some (.iter s pos)=>
    if pos<s.length then
     let d:=Utf8.decode ⟨⟨s⟩⟩ pos
     some (.dt [.bool true,.int .i64 pos,.int .i32 d.1],.set b (.iter s (pos+d.2)))
    else some (.dt [.bool false],.ar)
   |_=>none
  |_=>none
 |.ext x i=>λρ G N0=>
  match ρ x with
  |.dt l=>
   match l[i]? with
   |some v=>some (v,.ar)
   |none=>none
  |_=>none
 |.len lk x=>λρ G N0=>
  match iC lk G (ρ x)with
  |some n=>some (.int .i64 n,.ar)
  |none=>none
 |.yp n=>λρ G N0=>some (.int .i64 n,.ar)
 |.xH es x y=>λρ G N0=>
  match ρ x,eE es G (ρ y)with
  |.slice b o n es',some (ys,k)=>
   if es' =es then
    if min k n=0 then some (.int .i64 0,.ar)
    else
     match G b with
     |some (.cells c true tl)=>if o+min k n*es<=c.length then some (.int .i64 (min k n:Nat),.set b (.cells (fq c o (ys.take (min k n*es))) true tl))else none
     |_=>none
   else none
  |.ah,some _=>some (.int .i64 0,.ar)
  |_,_=>none
 |.mx x l=>λρ G N0=>
  match gu nX (ρ x) (l.map ρ)with
  |some v=>some (v,.ar)
  |none=>none
 |.mn x l=>λρ G N0=>
  match gu nW (ρ x) (l.map ρ)with
  |some v=>some (v,.ar)
  |none=>none
 |_=>λρ G N0=>none
def nE(es w:Nat)(s y:AV)(G:Nat->Option ai)(N0:Nat):Option (AV×gL):=
 match eE es G y with
 |none=>none
 |some (ys,k)=>
  match s with
  |.ah=>if k=0 then(if ys.isEmpty then some (.ah,.ar)else none)else if k*w<=2^46 then some (.slice N0 0 k es,.push (.cells ys true true))else none
  |.slice b o m es'=>
   if es' =es then
    if k=0 then(if ys.isEmpty then some (.slice b o m es,.ar)else none)
    else if(m+k)*w<=2^46 then
     match G b with
     |some (.cells c true true)=>if o+m*es<=c.length then some (.slice N0 0 (m+k) es,.lO b .dead (.cells ((c.drop o).take (m*es)++ys) true true))else none
     |some (.cells c false true)=>if o+m*es=c.length then some (.slice N0 0 (m+k) es,.lO b (.cells c false false) (.cells (c.drop o++ys) false true))else none
     |some (.cells c true false)=>if o+m*es=c.length then some (.slice N0 0 (m+k) es,.push (.cells (c.drop o++ys) true true))else none
     |_=>none
    else none
   else none
  |_=>none
def stepT(k:mU):(cK->AV)->(Nat->Option ai)->Nat->Option (AV×gL):=
 match k with
 |.call _ _=>λ_ _ _=>none
 |.app es w x y=>λρ G N0=>nE es w (ρ x) (ρ y) G N0
 |.aY es n z ps=>λρ _ N0=>
  match dW (du n z) (ps.map λp=>(p.1,es,ρ p.2))with
  |some c=>if c.all AV.one=true/\c.length=n*es then some (.slice N0 0 n es,.push (.cells c true (!Nat.beq n 0)))else none
  |none=>none
 |k=>lz k
def nC(es:Nat)(h:af)(x:AV):eE es (λb=>h[b]?) x=cellsIn es h x:=by
 cases x<;>rfl
def CD(lk:LK)(h:af)(x:AV):iC lk (λb=>h[b]?) x=yq lk h x:=by
 cases x<;>rfl
def Bc{k x h v e}(hs:kU k x (λb=>h[b]?) h.length=some (v,e)):jl k x h=some (v,e.app h):=by
 cases k<;>simp only[kU,nC]at hs<;>(repeat' split at hs)<;>first|(cases hs;done)|(cases hs;simp[jl,gL.app, *])
def Gn{k ρ h v e}(hs:lz k ρ (λb=>h[b]?) h.length=some (v,e)):cV k ρ h=some (v,e.app h):=by
 cases k with
 |conv k x=>exact Bc (k:=k) (x:=ρ x) hs
 |tL es w z l c=>
  simp only[lz]at hs;split at hs
  case h_2=>cases hs
  rename_i kl il kc ic hl hc;split at hs
  case isFalse=>cases hs
  rename_i OF;cases hs;simp only[cV,hl,hc];rw[Ut OF];rfl
 |_=>simp only[lz,nC,CD]at hs<;>(repeat' split at hs)<;>first|(cases hs;done)|(cases hs;simp[cV,gL.app, *])
def lL{k ρ h v e}(hs:stepT k ρ (λb=>h[b]?) h.length=some (v,e)):kX k ρ h v (e.app h):=by
 have hf:∀k,lz k ρ (λb=>h[b]?) h.length=some (v,e)->cV k ρ h=some (v,e.app h):=λk hk=>Gn hk
 cases k with
 |call f args=>cases hs
 |app es w x y=>
  simp only[stepT,nE,nC]at hs;show uN es w (ρ x) (ρ y) h v (e.app h);split at hs
  ·cases hs
  rename_i ys k hy;split at hs
  ·rename_i hx;rw[hx];split at hs
   ·rename_i hk;split at hs
    ·rename_i hys;cases hs;subst hk;exact .none (by rw[hy];cases ys<;>first|rfl|cases hys) (.inl rfl)
    ·cases hs
   ·split at hs
    ·rename_i hk hb;cases hs;exact .new ys k true hy Om hb rfl
    ·cases hs
  ·rename_i b o m es' hx;rw[hx];split at hs
   case isFalse=>cases hs
   rename_i hes;subst hes;split at hs
   ·rename_i hk;split at hs
    ·rename_i hys;cases hs;subst hk;exact .none (by rw[hy];cases ys<;>first|rfl|cases hys) (.inr ⟨b,o,m,rfl⟩)
    ·cases hs
   ·rename_i hk;split at hs
    case isFalse=>cases hs
    rename_i hb;split at hs
    ·rename_i c hc;split at hs
     case isFalse=>cases hs
     rename_i hl;cases hs;exact .over ys k b o m c true hy Om hb rfl hc hl
    ·rename_i c hc;split at hs
     case isFalse=>cases hs
     rename_i hl;cases hs;exact .on ys k b o m c false hy Om hb rfl hc hl
    ·rename_i c hc;split at hs
     case isFalse=>cases hs
     rename_i hl;cases hs;exact .full ys k b o m c hy Om hb rfl hc hl
    ·cases hs
  ·cases hs
 |aY es n z ps=>
  simp only[stepT]at hs;split at hs
  case h_2=>cases hs
  rename_i c hc;split at hs
  case isFalse=>cases hs
  rename_i OF;cases hs;exact⟨c,true,_,hc,OF.1,OF.2,rfl,rfl⟩
 |_=>exact hf _ hs
inductive Acc where
 |no
 |rd (b:Nat)
 |wr (b:Nat) (k:ai)
def Acc.dU:Acc->Option Nat
 |.no=>none
 |.rd b=>some b
 |.wr b _=>some b
def Acc.app(h:af):Acc->af
 |.wr b k=>h.set b k
 |_=>h
def yi{k}(hk:eV k=true){ρ G G' N N'}:stepT k ρ G N=stepT k ρ G' N':=by
 cases k<;>first|(cases hk;done)|rfl|skip
 case conv c x=>cases c<;>first|(cases hk;done)|rfl
 case len lk x=>
  have hl:lk≠.mp:=λe=>by rw[e]at hk;cases hk
  have e:iC lk G (ρ x)=iC lk G' (ρ x):=by
   cases lk<;>first|exact absurd rfl hl|skip
   all_goals
    cases ρ x<;>first|rfl|(simp only[iC,reduceCtorEq,UC];repeat' split)<;>rfl
  simp only[stepT,lz,e]
def yo{n a ρ G G' N N' b o}(ha:ρ a=.ptr b o)(hb:G b=G' b):stepT (.load n a) ρ G N=stepT (.load n a) ρ G' N':=by
 simp only[stepT,lz,ha,hb]
def uX{n a x ρ G G' N N' b o}(ha:ρ a=.ptr b o)(hb:G b=G' b):stepT (.store n a x) ρ G N=stepT (.store n a x) ρ G' N':=by
 simp only[stepT,lz,ha,hb]
def uM(o:bo)(ts:TS)(h:af)(v:AV)(c:Acc):Prop:=
 (¬wanted o.gd ts/\c=.no/\v=au)\/wanted o.gd ts/\((eV o.k=true/\c=.no/\stepT o.k (val ts) (λz=>h[z]?) h.length=some (v,.ar))\/
  (∃n a b off,o.k=.load n a/\val ts a=.ptr b off/\c=.rd b/\stepT o.k (val ts) (λz=>h[z]?) h.length=some (v,.ar))\/
  (∃n a x b off k,o.k=.store n a x/\val ts a=.ptr b off/\c=.wr b k/\stepT o.k (val ts) (λz=>h[z]?) h.length=some (v,.set b k)))
theorem uM.run{P o ts h g v c}(hs:uM o ts h v c)(hb:∀b,c.dU=some b->g[b]? =h[b]?):cY P o ts g (put ts o.dst v) (c.app g):=by
 rcases hs with⟨hw,rfl,rfl⟩|⟨hw,hs⟩
 ·exact .skip hw
 rcases hs with⟨hp,rfl,hs⟩|⟨n,a,b,off,hk,ha,rfl,hs⟩|⟨n,a,x,b,off,k,hk,ha,rfl,hs⟩
 ·refine .run hw ?_ ?_
  ·cases hk:o.k<;>rw[hk]at hp<;>first|(cases hp;done)|trivial
  ·rw[yi hp (G':=λz=>g[z]?) (N':=g.length)]at hs;have:=lL hs;cases hk:o.k<;>rw[hk]at hp this<;>first|(cases hp;done)|exact this
 ·rw[hk]at hs;rw[yo ha (G':=λz=>g[z]?) (N':=g.length) (hb b rfl).symm]at hs;exact HB
 ·rw[hk]at hs;rw[uX ha (G':=λz=>g[z]?) (N':=g.length) (hb b rfl).symm]at hs;exact HB
def yY:List bo->TS->af->List Acc->TS->Prop
 |[],ts,_,cs,ts'=>cs=[]/\ts' =ts
 |o::r,ts,h,cs,ts'=>∃v c cs1,uM o ts h v c/\cs=c::cs1/\yY r (put ts o.dst v) h cs1 ts'
theorem yY.row{h}:∀{l}{ts ts'}{cs},yY l ts h cs ts'->∃T:Nat->TS,T 0=ts/\T l.length=ts'/\cs.length=l.length/\∀j o,l[j]? =some o->∃v c,cs[j]? =some c/\uM o (T j) h v c/\T (j+1)=put (T j) o.dst v
 |[],ts,ts',cs,hs=>by
  obtain⟨rfl,rfl⟩:=hs;exact⟨λ_=>ts',rfl,rfl,rfl,λj o ho=>by simp at ho⟩
 |o::r,ts,ts',cs,hs=>by
  obtain⟨v,c,cs1,bE,rfl,hr⟩:=hs;obtain⟨T,hT,PA,hl,hrow⟩:=hr.row;refine⟨λi=>match i with| 0=>ts|i+1=>T i,rfl,PA,by simp[hl],λj x hx=>?_⟩;cases j with
  |zero=>simp at hx;subst hx;exact⟨v,c,rfl,bE,hT⟩
  |succ j=>
   obtain⟨v',c',h1,h2,h3⟩:=hrow j x (by simpa using hx);exact⟨v',c',by simpa using h1,h2,h3⟩
def dz:af->List Acc->af
 |h,[]=>h
 |h,c::cs=>dz (c.app h) cs
def ef:List Acc->Prop
 |[]=>True
 |c::cs=>(∀b,c.dU=some b->∀x∈cs,x.dU=some b->∀k k',c=Acc.wr b k\/x=Acc.wr b k'->False)/\ef cs
theorem ef.ne:∀{cs:List Acc},ef cs->∀{i j b:Nat}{k:ai}{c:Acc},cs[i]? =some (.wr b k)->i≠j->cs[j]? =some c->c.dU≠some b
 |[],_,i,j,b,k,c,h1,_,_=>by simp at h1
 |x::xs,h,i,j,b,k,c,h1,hij,h2=>by
  intro hc;cases i with
  |zero=>
   simp at h1;subst h1;cases j with
   |zero=>exact hij rfl
   |succ j=>exact h.1 b rfl c (U5 (by simpa using h2)) hc k k (.inl rfl)
  |succ i=>
   cases j with
   |zero=>
    simp at h2;subst h2;exact h.1 b hc _ (U5 (by simpa using h1)) rfl k k (.inr rfl)
   |succ j=>exact ef.ne h.2 (i:=i) (j:=j) (by simpa using h1) Om (by simpa using h2) hc
def sg(h:af)(c:Acc):(c.app h).length=h.length:=by cases c<;>simp[Acc.app]
def wa{h:af}{c:Acc}{b:Nat}(hb:∀k,c=.wr b k->False):(c.app h)[b]? =h[b]? :=by
 cases c with
 |wr b' k=>
  have:b'≠b:=λe=>hb k (by rw[e])
  simp[Acc.app,U1 this]
 |_=>rfl
theorem nH:∀{cs:List Acc}{h:af}{b:Nat},(∀(j:Nat) (k:ai),cs[j]? =some (Acc.wr b k)->False)->(dz h cs)[b]? =h[b]?
 |[],h,b,_=>rfl
 |c::cs,h,b,hb=>by
  rw[dz,nH (λj k hj=>hb (j+1) k (by simpa using hj))];exact wa λk hk=>hb 0 k (by simp[hk])
theorem rr:∀{cs:List Acc}{h:af},ef cs->∀{j b:Nat}{k:ai},b<h.length->cs[j]? =some (.wr b k)->(dz h cs)[b]? =some k
 |[],h,_,j,b,k,_,hj=>by simp at hj
 |c::cs,h,ho,j,b,k,hb,hj=>by
  cases j with
  |zero=>
   simp at hj;subst hj;rw[dz,nH (λj k' hj=>ef.ne ho (i:=0) (j:=j+1) (b:=b) (k:=k) rfl Om (by simpa using hj) rfl)];simp[Acc.app,hb]
  |succ j=>
   rw[dz];exact rr ho.2 (by rw[sg];exact hb) (by simpa using hj)
structure xW(h:af)(cs:List Acc)(S:Nat->Bool)(g:af):Prop where
 len:g.length=h.length
 wr:∀j b k,S j=true->cs[j]? =some (.wr b k)->g[b]? =some k
 ne:∀b,(∀j k,S j=true->cs[j]? =some (.wr b k)->False)->g[b]? =h[b]?
def xW.all{h g:af}{cs:List Acc}{S:Nat->Bool}(H:xW h cs S g)(ho:ef cs)(hS:∀j c,cs[j]? =some c->S j=true):g=dz h cs:=by
 apply WI
 intro b;by_cases hx:∃(j:Nat) (k:ai),cs[j]? =some (Acc.wr b k)
 ·obtain⟨j,k,hj⟩:=hx;have h1:=H.wr j b k (hS j _ hj) hj;have:b<h.length:=by rw[<-H.len];exact(Ue.1 h1).1
  rw[h1,rr ho this hj]
 ·rw[H.ne b λj k _ hj=>hx ⟨j,k,hj⟩,nH λj k hj=>hx ⟨j,k,hj⟩]
def rM{P:Program}(hmix:P.follows .mixedOrders=true){ops:Array Oper}{l:List bo}(hed:jA (Region.before ops) ops=true)(hsl:kj (Region.before ops) ops=true)
  (hc:dX (λ_ o=>bx P ops false o) ops.toList 0=some l) {ts ts':TS}{h:af}{cs:List Acc}(hs:yY l ts h cs ts') (hok:ef cs) {m:bH}{a:Act}{w:World}
  (st:St P m ts h a w) (ro:Option Nat) (Q:Exit->Act->World->Prop) (hQ:∀m' a' w',St P m' ts' (dz h cs) a' w'->Grow m h w m' (dz h cs) w'->a'.defers=a.defers->Q .normal a' w') (id:Nat):
  (Code.region id ops true).wpIn (Fd ro) 0 P Q a w:=by
 refine wpIn_region_any hmix ?_;obtain⟨T,rfl,rfl,hcl0,hrow⟩:=hs.row;obtain⟨OE,Ov⟩:=fJ hc;simp only[Wq]at OE;have RO:∀(j:Nat) (io:bo),l[j]? =some io->∃o,ops[j]? =some o/\bx P ops false o=some io:=λj io hj=>by
  exact KI
 have Pm:∀(j:Nat) (io:bo) (d:Nat),l[j]? =some io->io.dst=some d->∃o,ops[j]? =some o/\o.dst=some d:=λj io d hj hd=>by
  exact KA
 have huniq:∀(i j:Nat) (oi oj:bo) (d:Nat),l[i]? =some oi->l[j]? =some oj->oi.dst=some d->oj.dst=some d->i=j:=λi j oi oj d hi hj h1 h2=>by
  exact KK
 have hTl:∀j,j<=l.length->(T j).length=(T 0).length:=by
  intro j
  induction j with
  |zero=>intro _;rfl
  |succ j ih=>
   intro hj;obtain⟨v,c,_,_,hv⟩:=hrow j _ (Uj (show j<l.length by omega));rw[hv,lh];exact ih Om
 have OA:∀x y t,x<=y->y<=l.length->(∀(j:Nat) (o:bo),x<=j->j<y->l[j]? =some o->o.dst≠some t)->(T y).getD t au=(T x).getD t au:=by
  intro x y t hxy hy hno;have:=sK (T:=T) (t:=t) (a:=x) (y-x) (λj h1 h2=>by
   have hj:l[j]? =some (l[j]'Om):=Uj Om;obtain⟨v,c,_,_,hv⟩:=hrow j _ hj;exact⟨_,v,hv,hno j _ h1 Om hj⟩)
  rwa [show x+(y-x)=y from by omega]at this
 have hdone:∀(listed:Array Bool) (g:af) (a1:Act) (w1:World),(∀i,i<ops.size->listed.getD i false=true)->xW h cs (λj=>listed.getD j false) g->HR P m g w1->Grow m h w m g w1->a1.tmps.size=(T 0).length->
   (∀(d:Nat),(∀(j:Nat) (o:bo),l[j]? =some o->listed.getD j false=true->o.dst≠some d)->VR m ((T 0).getD d au) (a1.tmps.getD d undef))->
   (∀(d j:Nat) (o:bo),l[j]? =some o->listed.getD j false=true->o.dst=some d->VR m ((T (j+1)).getD d au) (a1.tmps.getD d undef))->a1.defers=a.defers->Q .normal a1 w1:=by
  intro listed g a1 w1 hall H hr hg dO h1 h2 hd;have e:=H.all hok λj c hj=>hall j (by have:=(Ue.1 hj).1;omega)
  subst e;refine hQ m a1 w1 ⟨hr,cw.gf ?_ ?_⟩ hg hd
  ·exact E8
  ·intro t x hx;exact NA
 have key:∀(fuel:Nat) (listed:Array Bool) (g:af) (a1:Act) (w1:World),listed.size=ops.size->oX listed ops.size<=fuel->
   (∀j x,listed.getD j false=true->x<ops.size->ahead (Region.before ops) x j=true->listed.getD x false=true)->
   xW h cs (λj=>listed.getD j false) g->HR P m g w1->Grow m h w m g w1->a1.tmps.size=(T 0).length->
   (∀(d:Nat),(∀(j:Nat) (o:bo),l[j]? =some o->listed.getD j false=true->o.dst≠some d)->VR m ((T 0).getD d au) (a1.tmps.getD d undef))->
   (∀(d j:Nat) (o:bo),l[j]? =some o->listed.getD j false=true->o.dst=some d->VR m ((T (j+1)).getD d au) (a1.tmps.getD d undef))->a1.defers=a.defers->wpAnyIn (Fd ro) 0 P .any ops Q fuel listed a1 w1:=by
  intro fuel
  induction fuel with
  |zero=>
   intro listed g a1 w1 OB hu hcl H hr hg dO h1 h2 hd;have hall:=jR ops.size (show oX listed ops.size=0 by omega);exact⟨kr OB hall,hdone listed g a1 w1 hall H hr hg dO h1 h2 hd⟩
  |succ fuel ih=>
   intro listed g a1 w1 OB hu hcl H hr hg dO h1 h2 hd;refine⟨λhrn=>hdone listed g a1 w1 (ko hed OB hrn) H hr hg dO h1 h2 hd,λi hi=>?_⟩;obtain⟨o,ho,Ph,Su⟩:=(gX OB).1 hi;have hin:i<ops.size:=(Uu.1 ho).1;obtain⟨io,hio,Oy⟩:=Ov i o (by simpa using ho);obtain⟨v,c,hci,bE,hTi⟩:=hrow i io hio;have hahead:∀x,x<ops.size->ahead (Region.before ops) x i=true->listed.getD x false=true:=λx hx ha=>by
    exact z28
   have P5:∀j x,(listed.setIfInBounds i true).getD j false=true->x<ops.size->ahead (Region.before ops) x j=true->(listed.setIfInBounds i true).getD x false=true:=by
    intro j x hj hx ha;exact Km
   have Rr:oX (listed.setIfInBounds i true) ops.size<=fuel:=by
    exact Kh
   have hslot:∀t,t∈o.looksAt ops->VR m ((T i).getD t au) (a1.tmps.getD t undef):=by
    intro t ht;exact NB
   have Qk:∀b,c.dU=some b->g[b]? =h[b]? :=λb hb=>H.ne b λj k hj SY=>by
    by_cases e1:j=i
    ·subst e1
     try simp only at hj
     rw[Ph]at hj;cases hj
    ·exact ef.ne hok SY e1 hci hb
   refine eZ ho Oy hr.gv hr (by rw[dO,hTl i Om]) hslot (bE.run (P:=P) Qk) ro _ Q ?_;intro cv v' m' w' PA PK hr' OG;have OR:io.dst=o.dst:=(cU Oy).1;have hm:m' =m:=by
    funext b;by_cases hb:b<g.length
    ·exact OG.ext b hb
    ·have e1:m b=none:=by
      cases hx:m b with
      |none=>rfl
      |some e=>exact absurd (hr.cD b e hx) hb
     have e2:m' b=none:=by
      cases hx:m' b with
      |none=>rfl
      |some e=>exact absurd (by have:=hr'.cD b e hx;rwa [sg]at this) hb
     rw[e1,e2]
   subst hm;have hlt:(listed.setIfInBounds i true).getD i false=true:=by rw[cM Om,Ut rfl]
   have hne:∀j,j≠i->(listed.setIfInBounds i true).getD j false=listed.getD j false:=λj hj=>by rw[cM Om,Ur hj]
   have QW:(a1.put o.dst cv).tmps=fY a1.tmps o.dst cv:=by cases o.dst<;>rfl
   refine ih _ (c.app g) (a1.put o.dst cv) w' (by simp[OB]) Rr P5 ⟨by rw[sg];exact H.len,?_,?_⟩ hr' (hg.trans OG st.hr.cD) (by rw[QW,ep];exact dO) ?_ ?_ (by rw[put_defers];exact hd)
   ·intro j b k hj SY
    try simp only at hj
    by_cases e1:j=i
    ·subst e1;rw[hci]at SY;cases SY;have:b<g.length:=by
      by_cases hb:b<g.length
      ·exact hb
      ·have e:=Qk b rfl;rcases bE with⟨_,h,_⟩|⟨_,hs3⟩
       ·cases h
       rcases hs3 with⟨_,h,_⟩|⟨_,_,_,_,_,_,h,_⟩|⟨n,aa,x,b',off,k',hk,ha,h,hs3⟩
       ·cases h
       ·cases h
       ·cases h;rw[hk]at hs3;rw[Wc Om]at e;simp only[stepT,lz,ha,<-e]at hs3;cases hs3
     simp[Acc.app,this]
    ·rw[hne j e1]at hj;rw[wa λk' hk'=>by
      subst hk';exact ef.ne hok SY e1 hci rfl]
     exact H.wr j b k hj SY
   ·intro b hb;rw[wa λk' hk'=>hb i k' hlt (by rw[hci,hk'])];exact H.ne b λj k hj SY=>by
     try simp only at hj
     exact hb j k (by
      show(listed.setIfInBounds i true).getD j false=true;by_cases e1:j=i
      ·subst e1;exact hlt
      ·rw[hne j e1];exact hj) SY
   ·intro d hdn;have PX:o.dst≠some d:=by rw[<-OR];exact hdn i io hio hlt
    rw[QW,cZ PX];refine h1 d λj oj hj hl=>hdn j oj hj ?_
    exact Ki
   ·intro d j oj hj hl QD;by_cases e1:j=i
    ·subst e1;rw[hio]at hj;cases hj;rw[hTi,QW,<-OR,QD];have hvv:put (T j) (some d) v=put (T j) (some d) v':=by
      have:=PA;rw[<-OR,QD]at this;exact this
     rw[hvv];exact jV (by rw[dO,hTl j Om]) PK
    ·have PX:o.dst≠some d:=λhx=>by
      exact Ky
     rw[QW,cZ PX];rw[hne j e1]at hl;exact h2 d j oj hj hl QD
 have Ou:∀j,(Array.replicate ops.size false).getD j false=false:=λj=>by
  exact Kj
 refine key ops.size (Array.replicate ops.size false) h a _ Si ?_ (λj x hj _ _=>by simp[Ou j]at hj) ⟨rfl,λj b k hj _=>by simp[Ou j]at hj,λb _=>rfl⟩ st.hr.drew (Grow.refl m _ w st.hr.cD).drew ?_ (λd _=>lN st.ts d) (λd j o _ hj _=>by simp[Ou j]at hj) rfl
 ·exact Kn
 ·exact z109
theorem Ev.qd{P ro}(hmix:P.follows .mixedOrders=true){l ts ts' h cs}(hs:yY l ts h cs ts')(hok:ef cs):Ev P ro (.qd l) ts h .normal ts' (dz h cs):=by
 refine Ev.of λcc hns hc m a w lo hlo st hm Q hQ=>?_
 cases cc with
 |region id ops draw=>
  rcases dE (by simpa only[compile]using hc)with⟨l',h1,hl⟩|⟨l',h1,hd,⟨l2,hl2⟩,hz⟩|⟨_,h1,_⟩<;>cases h1
  subst hd;simp only[cF,UD]at hl2;split at hl2
  case isFalse=>cases hl2
  rename_i OT;simp only[UH]at OT;exact rM hmix OT.1 OT.2 hz hs hok st ro Q (λm' a' w' s g d=>hQ m' a' w' s g (by rw[d];exact hm.grow g st.hr.cD)) id
 |scope a=>exact absurd rfl (hns a)
 |block id a=>simp[compile]at hc
 |loop a=>simp[compile]at hc
 |_=>
  exact ze
def Bz(cs:List Acc):Acc->List Acc
 |.no=>cs
 |c=>cs++[c]
def yQ{cs c}(hc:c≠.no):Bz cs c=cs++[c]:=by cases c<;>first|exact absurd rfl hc|rfl
def y8(h:af):List bo->TS->List Acc->(TS->List Acc->Prop)->Prop
 |[],ts,cs,K=>K ts cs
 |o::r,ts,cs,K=>∃v c,uM o ts h v c/\y8 h r (put ts o.dst v) (Bz cs c) K
theorem nG:∀{a b c},(∀x∈b,x=Acc.no)->ef (a++c)->ef (a++b++c)
 |[],[],c,_,h=>h
 |[],x::b,c,hb,h=>by
  have hx:=hb x Si;subst hx;exact⟨λn hn=>by(cases hn),by simpa using nG (a:=[]) (b:=b) (λy hy=>hb y (UL _ hy)) h⟩
 |x::a,b,c,hb,h=>by
  refine⟨λn hn y hy hyn k k' hk=>?_,nG (a:=a) hb h.2⟩;rcases Um.1 hy with hy|hy
  ·rcases Um.1 hy with hy|hy
   ·exact h.1 n hn y (Um.2 (.inl hy)) hyn k k' hk
   ·rw[hb y hy]at hyn;cases hyn
  ·exact h.1 n hn y (Um.2 (.inr hy)) hyn k k' hk
theorem y8.sound{h}:∀{l}{ts}{cs}{K},y8 h l ts cs K->∃QR Ub ts',yY l ts h QR ts'/\K ts' (cs++Ub)/\(∀(a c:List Acc),ef (a++Ub++c)->ef (a++QR++c))/\(∀g,dz g QR=dz g Ub)
 |[],ts,cs,K,H=>⟨[],[],ts,⟨rfl,rfl⟩,by rw[UE];exact H,λ_ _ h=>h,λ_=>rfl⟩
 |o::r,ts,cs,K,H=>by
  obtain⟨v,c,h1,H⟩:=H;obtain⟨QR,Ub,ts',h2,h3,h4,h5⟩:=y8.sound (l:=r) H;by_cases hc:c=.no
  ·subst hc;refine⟨.no::QR,Ub,ts',⟨v,.no,QR,h1,rfl,h2⟩,h3,λa d hd=>?_,λg=>h5 g⟩;have:=nG (a:=a) (b:=[.no]) (c:=QR++d) Si (by simpa using h4 a d hd)
   simpa using this
  ·rw[yQ hc]at h3;refine⟨c::QR,c::Ub,ts',⟨v,c,QR,h1,rfl,h2⟩,by simpa using h3,λa d hd=>?_,λg=>by rw[dz,dz,h5]⟩;have:=h4 (a++[c]) d (by simpa using hd)
   simpa using this
theorem y8.mono{h}:∀{l}{ts}{cs}{K K'},y8 h l ts cs K->(∀ts' cs',K ts' cs'->K' ts' cs')->y8 h l ts cs K'
 |[],ts,cs,K,K',H,hk=>hk _ _ H
 |o::r,ts,cs,K,K',H,hk=>by
  obtain⟨v,c,h1,H⟩:=H;exact⟨v,c,h1,y8.mono (l:=r) H hk⟩
end Go.Abs
