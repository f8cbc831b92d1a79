/- A part of the proof that HouseDigests holds. No condition. -/
import Derived.Test.YtgplmdgpmbegiaaGreatDoorDg2
import Derived.RangeFuncRecord
import Derived.Test.YtgplmdgpmbegiaaGreatDoorDg0
set_option maxHeartbeats 4000000
set_option linter.all false
open Nat (reduceAdd reduceMul reduceLeDiff reduceEqDiff)
namespace Go.Abs
def oD(listed:Array Bool):Nat->Nat
 | 0=>0
 |n+1=>oD listed n+(if listed.getD n false then 0 else 1)
def cE{listed:Array Bool}{i j:Nat}(hi:i<listed.size):(listed.setIfInBounds i true).getD j false=(if j=i then true else listed.getD j false):=by
 by_cases h:j=i
 ·subst h;simp[TX,Uv hi]
 ·rw[Tt h];simp[TX,US (Vl h)]
theorem yL{listed:Array Bool}{i:Nat}(hi:i<listed.size):∀n,n<=i->oD (listed.setIfInBounds i true) n=oD listed n
 | 0,_=>rfl
 |n+1,h=>by
  simp only[oD];rw[yL hi n Om,cE hi,Tt (by omega:¬n=i)]
theorem yK{listed:Array Bool}{i:Nat}(hi:i<listed.size)(hn:listed.getD i false=false):∀n,i<n->oD (listed.setIfInBounds i true) n+1=oD listed n
 | 0,h=>absurd h Om
 |n+1,h=>by
  simp only[oD];rw[cE hi];by_cases e:n=i
  ·subst e;rw[yL hi n (Ts _),Ty rfl,hn];simp
  ·rw[Tt e];have:=yK hi hn n Om;omega
theorem jz{listed}:∀n,oD listed n=0->∀i,i<n->listed.getD i false=true
 | 0,_,i,hi=>absurd hi Om
 |n+1,h,i,hi=>by
  simp only[oD]at h;by_cases e:i=n
  ·subst e;cases hl:listed.getD i false with
   |true=>rfl
   |false=>rw[hl]at h;simp at h
  ·exact jz n Om i Om
def bA.cU(m:bA)(n:Nat):bA:=λb=>if b<n then m b else none
def bA.patch(m1 m:bA)(n:Nat):bA:=λb=>if b<n then m1 b else m b
mutual
theorem VR.cut{ma m n}(hd:∀b e,ma b=some e->b<n):∀(x:AV) (va v:Value),VR ma x va->VR m x v->VR (m.cU n) x v
 |.bool _,_,_,_,hv=>hv
 |.int _ _,_,_,_,hv=>hv
 |.ug _ _,_,_,_,hv=>hv
 |.tU _ _ _,_,_,_,hv=>hv
 |.str _,_,_,_,hv=>hv
 |.ptr b o,va,v,ha,hv=>by
  exact MA
 |.nilPtr,_,_,_,hv=>hv
 |.slice b o n' es,va,v,ha,hv=>by
  rw[VR]at ha hv ⊢;obtain⟨e,_,_,he,_⟩:=ha;obtain⟨e',ca,cap,Ox,hv⟩:=hv;exact⟨e',ca,cap,by unfold bA.cU;rw[Ty (hd _ _ he)];exact Ox,hv⟩
 |.ah,_,_,_,hv=>hv
 |.map r,va,v,ha,hv=>by
  exact MA
 |.cH,_,_,_,hv=>hv
 |.func f a c,va,v,ha,hv=>by
  rw[VR]at ha hv ⊢;obtain⟨f1,a1,c1,_,Qw,ha1,hc1⟩:=ha;obtain⟨f2,a2,c2,hv,PB,ha2,S7⟩:=hv;refine⟨f2,a2,c2,hv,?_,bY.cut hd a _ _ ha1 ha2,bY.cut hd c _ _ hc1 S7⟩;cases f<;>simp only[yv]at Qw PB ⊢<;>try exact PB
  obtain⟨e,he,_⟩:=Qw;obtain⟨e',Ox,hg⟩:=PB;exact⟨e',by unfold bA.cU;rw[Ty (hd _ _ he)];exact Ox,hg⟩
 |.nilFunc,_,_,_,hv=>hv
 |.rZ u a,va,v,ha,hv=>by
  rw[VR]at ha hv ⊢;obtain⟨v1,_,h1⟩:=ha;obtain⟨v2,hv,h2⟩:=hv;exact⟨v2,hv,VR.cut hd a _ _ h1 h2⟩
 |.iU,_,_,_,hv=>hv
 |.agg l,va,v,ha,hv=>by
  exact Ms
 |.dh l,va,v,ha,hv=>by
  exact Ms
theorem bY.cut{ma m n}(hd:∀b e,ma b=some e->b<n):∀(l:List AV) (va vs:List Value),bY ma l va->bY m l vs->bY (m.cU n) l vs
 |[],_,_,_,hv=>hv
 |x::xs,va,vs,ha,hv=>by
  obtain⟨y1,ys1,_,a1,a2⟩:=aF.1 ha;obtain⟨y2,ys2,h,b1,b2⟩:=aF.1 hv;exact aF.2 ⟨y2,ys2,h,VR.cut hd x _ _ a1 b1,bY.cut hd xs _ _ a2 b2⟩
end
def gh(n:Nat)(x:AV):Prop:=∃(ma:bA) (va:Value),(∀b e,ma b=some e->b<n)/\VR ma x va
def Jd(n:Nat)(l:List AV):Prop:=∃(ma:bA) (va:List Value),(∀b e,ma b=some e->b<n)/\bY ma l va
def nS(n:Nat):ai->Prop
 |.cells c _ _=>∀(i:Nat) (x:AV),c[i]? =some x->gh n x
 |.aK es=>∀(i:Nat) (p:AV×AV),es[i]? =some p->gh n p.1/\gh n p.2
 |.loop _ _ ts _ _ _=>Jd n ts
 |_=>True
def gh.mono{n k}(hnk:n<=k){x}(h:gh n x):gh k x:=by
 exact Mo
theorem nS.mono{n k}(hnk:n<=k){x}(h:nS n x):nS k x:=by
 cases x with
 |cells c mu tl=>exactλi x hx=>(h i x hx).mono hnk
 |aK es=>exactλi p hp=>⟨(h i p hp).1.mono hnk,(h i p hp).2.mono hnk⟩
 |loop a b c d e f=>
  exact Mo
 |_=>trivial
def BR.gh{P m w e k n}(h:BR P m w e k)(hd:∀b e,m b=some e->b<n):nS n k:=by
 cases k with
 |cells c mu tl=>
  obtain⟨cc,el,fz,_,_,h3,_⟩:=h;intro i x hx;obtain⟨_,v,_,hv⟩:=h3 i x hx;exact⟨m,v,hd,hv⟩
 |aK es=>
  obtain⟨_,Pp,clock,_,_,h3⟩:=h;intro i p hp;obtain⟨q,_,h1,h2⟩:=h3 i p hp;exact⟨⟨m,_,hd,h1⟩,⟨m,_,hd,h2⟩⟩
 |loop st ex ts ps asg body=>
  obtain⟨_,fn,tmps,Ov,N3,df,_,h2,_⟩:=h;exact⟨m,_,hd,h2⟩
 |_=>trivial
theorem BR.cut{P m w e k n}(h:BR P m w e k)(hc:nS n k):BR P (m.cU n) w e k:=by
 cases k with
 |cells c mu tl=>
  obtain⟨cc,el,fz,h1,h2,h3,h4⟩:=h;exact⟨cc,el,fz,h1,h2,λi x hx=>by
   obtain⟨ho,v,hv,hr⟩:=h3 i x hx;obtain⟨ma,va,hd,ha⟩:=hc i x hx;exact⟨ho,v,hv,VR.cut hd _ _ _ ha hr⟩,h4⟩
 |dead=>trivial
 |aK es=>
  obtain⟨ho,Pp,clock,h1,h2,h3⟩:=h;exact⟨ho,Pp,clock,h1,h2,λi p hp=>by
   obtain⟨q,hq,ha,hb⟩:=h3 i p hp;obtain⟨⟨ma,va,hd,RL⟩,⟨mb,vb,N6,hb'⟩⟩:=hc i p hp;exact⟨q,hq,VR.cut hd _ _ _ RL ha,VR.cut N6 _ _ _ hb' hb⟩⟩
 |iter s pos=>exact h
 |loop st ex ts ps asg body=>
  obtain⟨ho,fn,tmps,Ov,N3,df,h1,h2,h3,h4⟩:=h;obtain⟨ma,va,hd,ha⟩:=hc;exact⟨ho,fn,tmps,Ov,N3,df,h1,bY.cut hd _ _ _ ha h2,h3,h4⟩
structure qb(P:Program)(l:List aZ)(T:Nat->TS)(H:Nat->af)(m0:bA)(w0:World)(S:Nat->Bool)(β θ:Nat)(m:bA)(ta:Array Value)(w:World):Prop where
 βθ:β<=θ
 θn:θ<=l.length
 low:∀j,j<β->S j=true
 high:∀j,S j=true->j<θ
 quiet:∀j,β<=j->j<θ->∃g,H (j+1)=H j++g
 len:∀j,j<θ->(H j).length<=(H (j+1)).length
 hr:HR P m (H θ) w
 JJ:∀j,j<θ->S j=false->∀b,(H j).length<=b->b<(H (j+1)).length->m b=none
 gh:∀i,β<=i->i<=θ->∀b e k,b<(H i).length->m b=some e->(H θ)[b]? =some k->nS (H i).length k
 apart:∀j,β<=j->j<θ->∀b b' e e',(H j).length<=b->b<(H (j+1)).length->¬((H j).length<=b'/\b'<(H (j+1)).length)->m b=some e->m b' =some e'->e.cb≠e'.cb
 grow:Grow m0 (H 0) w0 m (H θ) w
 size:ta.size=(T 0).length
 vP:∀d,(∀j o,l[j]? =some o->S j=true->o.dst≠some d)->VR m0 ((T 0).getD d ar) (ta.getD d undef)
 vO:∀d j o,l[j]? =some o->S j=true->o.dst=some d->VR (m.cU (H (j+1)).length) ((T (j+1)).getD d ar) (ta.getD d undef)
theorem tu{H:Nat->af}{θ:Nat}(h:∀j,j<θ->(H j).length<=(H (j+1)).length){i:Nat}:∀k,i+k<=θ->(H i).length<=(H (i+k)).length
 | 0,_=>Ts _
 |k+1,hk=>Ur (tu h k Om) (h (i+k) Om)
def eI{H:Nat->af}{θ:Nat}(h:∀j,j<θ->(H j).length<=(H (j+1)).length){i j:Nat}(hij:i<=j)(hj:j<=θ):(H i).length<=(H j).length:=by
 have:=tu h (i:=i) (j-i) Om
 rwa [show i+(j-i)=j from by omega]at this
theorem qp{H:Nat->af}{β θ:Nat}(h:∀j,β<=j->j<θ->∃g,H (j+1)=H j++g){i:Nat}(hi:β<=i):∀k,i+k<=θ->∃g,H (i+k)=H i++g
 | 0,_=>⟨[],Si⟩
 |k+1,hk=>by
  obtain⟨g,hg⟩:=qp h hi k Om;obtain⟨g',NY⟩:=h (i+k) Om Om;exact⟨g++g',by rw[show i+(k+1)=i+k+1 from by omega,NY,hg,Ti]⟩
def kN{H:Nat->af}{β θ:Nat}(h:∀j,β<=j->j<θ->∃g,H (j+1)=H j++g){i j:Nat}(hi:β<=i)(hij:i<=j)(hj:j<=θ):∃g,H j=H i++g:=by
 have:=qp h hi (j-i) Om
 rwa [show i+(j-i)=j from by omega]at this
theorem tE{H:Nat->af}{i:Nat}:∀(k:Nat) {b:Nat},(H i).length<=b->b<(H (i+k)).length->∃j,i<=j/\j<i+k/\(H j).length<=b/\b<(H (j+1)).length
 | 0,b,h1,h2=>by simp at h2;omega
 |k+1,b,h1,h2=>by
  by_cases h:b<(H (i+k)).length
  ·obtain⟨j,a1,a2,a3⟩:=tE k h1 h;exact⟨j,a1,Om,a3⟩
  ·exact⟨i+k,Om,Om,Om,by rw[show i+k+1=i+(k+1)from by omega];exact h2⟩
section
variable {P:Program}{m m1:bA}{h:af}{w:World}
def bA.dQ(m:bA)(n:Nat):(m.cU n).le m:=by
 intro b e hb;unfold bA.cU at hb;split at hb
 ·exact hb
 ·cases hb
def bA.xB(m:bA){n k}(hnk:n<=k):(m.cU n).le (m.cU k):=by
 intro b e hb;unfold bA.cU at hb ⊢;split at hb
 ·rw[Ty Om];exact hb
 ·cases hb
theorem HR.cU{g}(hr:HR P m (h++g) w)(hgl:P.globals.size<=h.length)(hc:∀b e k,b<h.length->m b=some e->h[b]? =some k->nS h.length k):HR P (m.cU h.length) h w where
 bZ:=λb e hb=>by unfold bA.cU at hb;split at hb<;>first|assumption|cases hb
 dx:=λb e k hb hk=>by
  unfold bA.cU at hb;split at hb
  case isFalse=>cases hb
  rename_i hlt;exact(hr.dx b e k hb (by rw[Tj hlt];exact hk)).cut (hc b e k hlt hb hk)
 sep:=λb1 b2 e1 e2 k1 k2 hne h1 h2 hk1 NG hcb=>by
  have d1:b1<h.length:=(Th.1 hk1).1;have d2:b2<h.length:=(Th.1 NG).1;exact hr.sep b1 b2 e1 e2 k1 k2 hne (bA.dQ m _ _ _ h1) (bA.dQ m _ _ _ h2) (by rw[Tj d1];exact hk1) (by rw[Tj d2];exact NG) hcb
 eZ:=λg hg=>by
  obtain⟨e,he,hx⟩:=hr.eZ g hg;exact⟨e,by unfold bA.cU;rw[Ty Om];exact he,hx⟩
 lt:=λb e hb=>hr.lt b e (bA.dQ m _ _ _ hb)
def HR.DN(hr:HR P m h w):P.globals.size<=h.length:=by
 by_cases hz:P.globals.size=0
 ·omega
 ·obtain⟨e,he,_⟩:=hr.eZ (P.globals.size-1) Om;have:=hr.bZ _ _ he;omega
variable {l:List aZ}{T:Nat->TS}{H:Nat->af}{m0:bA}{w0:World}{S:Nat->Bool}{β θ:Nat}{ta:Array Value}
def qb.raise(M:qb P l T H m0 w0 S β θ m ta w){θ':Nat}(h1:θ<=θ')(h2:θ'<=l.length)(hq:∀j,θ<=j->j<θ'->∃g,H (j+1)=H j++g):qb P l T H m0 w0 S β θ' m ta w:=by
 have R5:∀j,β<=j->j<θ'->∃g,H (j+1)=H j++g:=λj hj RF=>by
  by_cases hx:j<θ
  ·exact M.quiet j hj hx
  ·exact hq j Om RF
 have hlen:∀j,j<θ'->(H j).length<=(H (j+1)).length:=λj hj=>by
  by_cases hx:j<θ
  ·exact M.len j hx
  ·obtain⟨g,hg⟩:=hq j Om hj;rw[hg];simp
 obtain⟨g,hg⟩:=kN R5 M.βθ h1 (Ts _);have NO:∀b,b<(H θ).length->(H θ')[b]? =(H θ)[b]? :=λb hb=>by rw[hg,Tj hb]
 have hdom:∀b e,m b=some e->b<(H θ).length:=M.hr.bZ;refine⟨Ur M.βθ h1,h2,M.low,λj hj=>Uh (M.high j hj) h1,R5,hlen,⟨?_,?_,?_,M.hr.eZ,M.hr.lt⟩,?_,?_,?_,⟨M.grow.ext,eI hlen (TJ _) (Ts _),?_,?_,M.grow.size,M.grow.os,M.grow.out,M.grow.tape,M.grow.frame⟩,M.size,M.vP,M.vO⟩
 ·intro b e hb;have:=hdom b e hb;rw[hg];simp;omega
 ·intro b e k hb hk;exact M.hr.dx b e k hb (by rwa [NO b (hdom b e hb)]at hk)
 ·intro b1 b2 e1 e2 k1 k2 hne a1 a2 hk1 NG hcb;exact M.hr.sep b1 b2 e1 e2 k1 k2 hne a1 a2 (by rwa [NO b1 (hdom _ _ a1)]at hk1) (by rwa [NO b2 (hdom _ _ a2)]at NG) hcb
 ·intro j hj hs b hb hb';by_cases hx:j<θ
  ·exact M.JJ j hx hs b hb hb'
  ·cases OB:m b with
   |none=>rfl
   |some e=>
    exact Hf
 ·intro i hi hi' b e k hb OB hk;rw[NO b (hdom b e OB)]at hk;by_cases hx:i<=θ
  ·exact M.gh i hi hx b e k hb OB hk
  ·have a2:=eI hlen (i:=θ) (j:=i) Om Om;exact(M.gh θ M.βθ (Ts _) b e k (hdom b e OB) OB hk).mono a2
 ·intro j hj RF b b' e e' hb On hb' OB QN;by_cases hx:j<θ
  ·exact M.apart j hj hx b b' e e' hb On hb' OB QN
  ·exact Hf
 ·intro b e hb OB;obtain⟨ho,hc⟩:=M.grow.new b e hb OB;refine⟨ho,hc.imp id ?_⟩;rintro⟨b0,e0,c1,c2,c3,c4,c5⟩;refine⟨b0,e0,c1,c2,c3,c4,?_⟩;have d0:b0<(H θ).length:=by
   cases hx:m0 b0 with
   |none=>rw[hx]at c1;cases c1
   |some e0'=>
    have:b0<(H 0).length:=by
     cases ht:(H 0)[b0]? with
     |none=>unfold dt at c4;rw[ht]at c4;cases c4
     |some k=>exact(Th.1 ht).1
    exact Uh this (eI hlen (TJ _) h1)
  unfold dt at c5 ⊢;rw[NO b0 d0];exact c5
 ·intro b hb ht;refine M.grow.tl b hb ?_;unfold dt at ht ⊢
  rwa [NO b (Uh hb (eI hlen (TJ _) h1))]at ht
end
def fB(ta:Array Value)(d:Option Nat)(cv:Value):Array Value:=
 match d with
 |some d=>ta.setIfInBounds d cv
 |none=>ta
def dK(ta:Array Value)(d:Option Nat)(cv:Value):(fB ta d cv).size=ta.size:=by cases d<;>simp[fB]
def cR{ta d cv t}(h:d≠some t):(fB ta d cv).getD t undef=ta.getD t undef:=by
 cases d with
 |none=>rfl
 |some d=>
  have hne:d≠t:=λx=>h (by rw[x])
  simp[fB,TX,US hne]
def uM{ts d v t}(h:d≠some t):(put ts d v).getD t ar=ts.getD t ar:=by
 cases d with
 |none=>rfl
 |some d=>
  have hne:d≠t:=λx=>h (by rw[x])
  simp[put,List.getD,Ua hne]
def jD{m ts ta d v cv}(hs:ta.size=ts.length)(hv:VR m v cv):VR m ((put ts (some d) v).getD d ar) ((fB ta (some d) cv).getD d undef):=by
 by_cases h:d<ts.length
 ·have h':d<ta.size:=Om
  simp only[put,fB,List.getD,TX];rw[T2 h,Uv h'];exact hv
 ·have h':¬d<ta.size:=Om
  simp only[put,fB,List.getD,TX];rw[U6 (by simp;omega),UJ (by simp;omega)];exact iv m
def mark(S:Nat->Bool)(i:Nat):Nat->Bool:=λj=>if j=i then true else S j
section
variable {P:Program}{l:List aZ}{T:Nat->TS}{H:Nat->af}{m0 m m1:bA}{w0 w w1:World}{S:Nat->Bool}{β θ i:Nat}{ta:Array Value}
def qb.cut(M:qb P l T H m0 w0 S β θ m ta w)(hG:P.globals.size<=(H 0).length)(hi:β<=i)(hi':i<=θ):HR P (m.cU (H i).length) (H i) w:=by
 obtain⟨g,hg⟩:=kN M.quiet hi hi' (Ts _);have hr:HR P m (H i++g) w:=by rw[<-hg];exact M.hr
 refine hr.cU (Ur hG (eI M.len (TJ _) hi')) ?_;intro b e k hb OB hk;exact M.gh i hi hi' b e k hb OB (by rw[hg,Tj hb];exact hk)
def qb.DF(M:qb P l T H m0 w0 S β θ m ta w)(hG:P.globals.size<=(H 0).length)(hi:β<=i)(hi':i<θ)(hS:S i=false){io}(hio:l[i]? =some io)
  (hr1:HR P m1 (H (i+1)) w1) (gext:∀b,b<(H i).length->m1 b=(m.cU (H i).length) b) (hnew0:∀b e,(H i).length<=b->m1 b=some e->e.own=true/\w0.heap.size<=e.cb/\∀b' e',m b' =some e'->e'.cb≠e.cb)
  (hfr:∀x,x<w.heap.size->(∀b e,(m.cU (H i).length) b=some e->e.own=true->e.cb≠x)->(∀b e,(H i).length<=b->m1 b=some e->e.cb≠x)->w1.heap[x]? =w.heap[x]?)
  (dq:w.heap.size<=w1.heap.size) (hos:w1.os=w.os) (hout:w1.output=w.output) (htape:w1.tape=w.tape) {v}{cv}(hv:VR m1 v cv) (hTi:T (i+1)=put (T i) io.dst v) (hTl:(T i).length=(T 0).length)
  (huniq:∀j o d,j≠i->l[j]? =some o->o.dst=some d->io.dst≠some d):qb P l T H m0 w0 (mark S i) β θ (m1.patch m (H (i+1)).length) (fB ta io.dst cv) w1:=by
 have OY:∀a b,a<=b->b<=θ->(H a).length<=(H b).length:=λa b hab hb=>eI M.len hab hb
 have hi1:=M.len i hi';have hi2:=OY (i+1) θ Om (Ts _);have h0i:=OY 0 i Om Om;obtain⟨gi,hgi⟩:=M.quiet i hi hi';obtain⟨gt,Qk⟩:=kN M.quiet (show β<=i+1 by omega) (show i+1<=θ by omega) (Ts _);have f3:∀b,b<(H (i+1)).length->(m1.patch m (H (i+1)).length) b=m1 b:=λb hb=>by unfold bA.patch;rw[Ty hb]
 have f1:∀b,b<(H i).length->(m1.patch m (H (i+1)).length) b=m b:=λb hb=>by
  rw[f3 b Om,gext b hb];unfold bA.cU;rw[Ty hb]
 have f2:∀b,(H (i+1)).length<=b->(m1.patch m (H (i+1)).length) b=m b:=λb hb=>by unfold bA.patch;rw[Tt Om]
 have fgap:∀b,(H i).length<=b->b<(H (i+1)).length->m b=none:=M.JJ i hi' hS;have PL:m.le (m1.patch m (H (i+1)).length):=λb e hb=>by
  by_cases h1:b<(H i).length
  ·rw[f1 b h1];exact hb
  ·by_cases h2:b<(H (i+1)).length
   ·rw[fgap b Om h2]at hb;cases hb
   ·rw[f2 b Om];exact hb
 have m1le:m1.le (m1.patch m (H (i+1)).length):=λb e hb=>by rw[f3 b (hr1.bZ b e hb)];exact hb
 have hnew:∀b e,(H i).length<=b->b<(H (i+1)).length->(m1.patch m (H (i+1)).length) b=some e->e.own=true/\w0.heap.size<=e.cb/\∀b' e',m b' =some e'->e'.cb≠e.cb:=λb e hb hb' hm=>by
  rw[f3 b hb']at hm;exact hnew0 b e hb hm
 have hold:∀b e,m b=some e->e.cb<w.heap.size:=M.hr.lt;have hframe:∀b e,(H (i+1)).length<=b->m b=some e->w1.heap[e.cb]? =w.heap[e.cb]? :=λb e hb hm=>by
  refine hfr e.cb (hold b e hm) ?_ (λb0 e0 h0 h1 hcb=>(hnew0 b0 e0 h0 h1).2.2 b e hm hcb.symm);intro b0 e0 h0 ho hcb;have d0:b0<(H i).length:=by
   unfold bA.cU at h0;split at h0
   ·assumption
   ·cases h0
  obtain⟨j,j1,j2,j3,j4⟩:=tE (H:=H) (i:=i+1) (θ-(i+1)) hb (by rw[show i+1+(θ-(i+1))=θ from by omega];exact M.hr.bZ b e hm);have hj:=OY i j Om Om;exact M.apart j Om Om b b0 e e0 j3 j4 (λx=>by omega) hm (bA.dQ m _ _ _ h0) hcb.symm
 have NO:∀b,b<(H (i+1)).length->(H θ)[b]? =(H (i+1))[b]? :=λb hb=>by rw[Qk,Tj hb]
 have NR:∀b e,(m1.patch m (H (i+1)).length) b=some e->((H i).length<=b/\b<(H (i+1)).length/\m1 b=some e)\/(¬((H i).length<=b/\b<(H (i+1)).length)/\m b=some e):=λb e hb=>by
  by_cases h1:b<(H i).length
  ·rw[f1 b h1]at hb;exact .inr ⟨Om,hb⟩
  ·by_cases h2:b<(H (i+1)).length
   ·rw[f3 b h2]at hb;exact .inl ⟨Om,h2,hb⟩
   ·rw[f2 b Om]at hb;exact .inr ⟨Om,hb⟩
 have hHR:HR P (m1.patch m (H (i+1)).length) (H θ) w1:=by
  refine⟨?_,?_,?_,?_,?_⟩
  ·intro b e hb;rcases NR b e hb with⟨_,h2,_⟩|⟨_,h2⟩
   ·omega
   ·exact M.hr.bZ b e h2
  ·intro b e k hb hk;by_cases h2:b<(H (i+1)).length
   ·rw[f3 b h2]at hb;exact(hr1.dx b e k hb (by rwa [NO b h2]at hk)).mono m1le
   ·rw[f2 b Om]at hb;exact((M.hr.dx b e k hb hk).mono PL).heap (hframe b e Om hb)
  ·intro b1 b2 e1 e2 k1 k2 hne On Ol hk1 NG hcb;rcases NR b1 e1 On with⟨a1,a2,a3⟩|⟨a1,a2⟩
   ·rcases NR b2 e2 Ol with⟨c1,c2,c3⟩|⟨c1,c2⟩
    ·exact hr1.sep b1 b2 e1 e2 k1 k2 hne a3 c3 (by rwa [NO b1 a2]at hk1) (by rwa [NO b2 c2]at NG) hcb
    ·exact absurd hcb.symm ((hnew b1 e1 a1 a2 On).2.2 b2 e2 c2)
   ·rcases NR b2 e2 Ol with⟨c1,c2,c3⟩|⟨c1,c2⟩
    ·exact absurd hcb ((hnew b2 e2 c1 c2 Ol).2.2 b1 e1 a2)
    ·exact M.hr.sep b1 b2 e1 e2 k1 k2 hne a2 c2 hk1 NG hcb
  ·intro g hg;obtain⟨e,he,hx⟩:=M.hr.eZ g hg;exact⟨e,PL _ _ he,hx⟩
  ·intro b e hb;rcases NR b e hb with⟨_,_,h3⟩|⟨_,h2⟩
   ·exact hr1.lt b e h3
   ·exact Uh (hold b e h2) dq
 refine⟨M.βθ,M.θn,?_,?_,M.quiet,M.len,hHR,?_,?_,?_,?_,by rw[dK];exact M.size,?_,?_⟩
 ·intro j hj;unfold mark;split
  ·rfl
  ·exact M.low j hj
 ·intro j hj;unfold mark at hj;split at hj
  ·omega
  ·exact M.high j hj
 ·intro j hj hs b hb hb';unfold mark at hs;split at hs
  ·cases hs
  rename_i hji;by_cases h1:b<(H i).length
  ·rw[f1 b h1];exact M.JJ j hj hs b hb hb'
  ·by_cases h2:b<(H (i+1)).length
   ·exact z85
   ·rw[f2 b Om];exact M.JJ j hj hs b hb hb'
 ·intro i2 hi2' Sc b e k hb OB hk;rcases NR b e OB with⟨a1,a2,a3⟩|⟨_,a2⟩
  ·have hk':(H (i+1))[b]? =some k:=by rwa [NO b a2]at hk
   refine((hr1.dx b e k a3 hk').gh hr1.bZ).mono ?_;by_cases hlt:i2<i+1
   ·have:=OY i2 i Om Om;omega
   ·exact OY (i+1) i2 Om Sc
  ·exact M.gh i2 hi2' Sc b e k hb a2 hk
 ·intro j hj RF b b' e e' hb On hb' OB QN;rcases NR b e OB with⟨a1,a2,a3⟩|⟨a1,a2⟩
  ·rcases NR b' e' QN with⟨c1,c2,c3⟩|⟨c1,c2⟩
   ·exfalso;by_cases hji:j=i
    ·subst hji;exact hb' ⟨c1,c2⟩
    ·exact z85
   ·exactλhcb=>(hnew b e a1 a2 OB).2.2 b' e' c2 hcb.symm
  ·rcases NR b' e' QN with⟨c1,c2,c3⟩|⟨c1,c2⟩
   ·exact(hnew b' e' c1 c2 QN).2.2 b e a2
   ·exact M.apart j hj RF b b' e e' hb On hb' a2 c2
 ·refine⟨λb hb=>(f1 b Om).trans (M.grow.ext b hb),M.grow.len,?_,M.grow.tl,Ur M.grow.size dq,hos.trans M.grow.os,hout.trans M.grow.out,htape.trans M.grow.tape,?_⟩
  ·intro b e hb OB;rcases NR b e OB with⟨a1,a2,_⟩|⟨_,a2⟩
   ·obtain⟨ho,hc⟩:=hnew b e a1 a2 OB;exact⟨ho,.inl hc.1⟩
   ·exact M.grow.new b e hb a2
  ·intro x hx hno;refine(hfr x (Uh hx M.grow.size) ?_ (λb e hb hm hcb=>by have:=(hnew0 b e hb hm).2.1;omega)).trans (M.grow.frame x hx hno);intro b e hb ho hcb;have OB:=bA.dQ m _ _ _ hb;by_cases h1:b<(H 0).length
   ·exact hno b e (by rw[<-M.grow.ext b h1];exact OB) ho hcb
   ·obtain⟨_,hc⟩:=M.grow.new b e Om OB;rcases hc with hc|⟨b0,e0,c1,c2,c3,_⟩
    ·omega
    ·exact hno b0 e0 c1 c3 (c2.trans hcb)
 ·intro d hd;exact MC
 ·intro d j o hj hs ho;by_cases hji:j=i
  ·subst hji;rw[hio]at hj;cases hj;rw[hTi,ho];have h1:m1.le ((m1.patch m (H (j+1)).length).cU (H (j+1)).length):=λb e hb=>by
    have:=hr1.bZ b e hb;unfold bA.cU;rw[Ty this,f3 b this];exact hb
   exact z160
  ·exact MO
def qb.next(M:qb P l T H m0 w0 S β θ m ta w)(hG:P.globals.size<=(H 0).length)(hi:β<=i)(hi':i<θ)(hS:S i=false){io}(hio:l[i]? =some io)
  (hr1:HR P m1 (H (i+1)) w1) (g1:Grow (m.cU (H i).length) (H i) w m1 (H (i+1)) w1) {v}{cv}(hv:VR m1 v cv) (hTi:T (i+1)=put (T i) io.dst v) (hTl:(T i).length=(T 0).length)
  (huniq:∀j o d,j≠i->l[j]? =some o->o.dst=some d->io.dst≠some d):qb P l T H m0 w0 (mark S i) β θ (m1.patch m (H (i+1)).length) (fB ta io.dst cv) w1:=by
 obtain⟨gi,hgi⟩:=M.quiet i hi hi';refine M.DF hG hi hi' hS hio hr1 g1.ext (λb e hb hm=>?_) (λx hx h1 _=>g1.frame x hx h1) g1.size g1.os g1.out g1.tape hv hTi hTl huniq;obtain⟨ho,hc⟩:=g1.new b e hb hm;have OR:w.heap.size<=e.cb:=by
  rcases hc with hc|⟨b0,e0,c1,_,_,c4,c5⟩
  ·exact hc
  ·have d0:b0<(H i).length:=by
    unfold bA.cU at c1;split at c1
    ·assumption
    ·cases c1
   unfold dt at c4 c5;rw[hgi,Tj d0]at c5;rw[c5]at c4;cases c4
 exact⟨ho,Ur M.grow.size OR,λb' e' hb'=>by have:=M.hr.lt b' e' hb';omega⟩
def qb.jump(M:qb P l T H m0 w0 S β i m ta w)(hd0:∀b e,m0 b=some e->b<(H 0).length)(hall:∀j,j<i->S j=true)(hil:i<l.length){io}(hio:l[i]? =some io)
  (hr1:HR P m1 (H (i+1)) w1) (g1:Grow (m.cU (H i).length) (H i) w m1 (H (i+1)) w1) {v}{cv}(hv:VR m1 v cv) (hTi:T (i+1)=put (T i) io.dst v) (hTl:(T i).length=(T 0).length)
  (huniq:∀j o d,j≠i->l[j]? =some o->o.dst=some d->io.dst≠some d):qb P l T H m0 w0 (mark S i) (i+1) (i+1) m1 (fB ta io.dst cv) w1:=by
 have hm:m.cU (H i).length=m:=by
  funext b;unfold bA.cU;split
  ·rfl
  ·cases hb:m b with
   |none=>rfl
   |some e=>exact absurd (M.hr.bZ b e hb) (by assumption)
 rw[hm]at g1;have PL:m.le m1:=g1.le M.hr.bZ;refine⟨Ts _,hil,?_,?_,λj hj RF=>absurd hj Om,?_,hr1,?_,?_,λj hj RF=>absurd hj Om,M.grow.trans g1 hd0,by rw[dK];exact M.size,?_,?_⟩
 ·intro j hj;unfold mark;split
  ·rfl
  ·exact hall j Om
 ·intro j hj;unfold mark at hj;split at hj
  ·omega
  ·have:=M.high j hj;omega
 ·intro j hj;by_cases hji:j=i
  ·subst hji;exact g1.len
  ·exact M.len j Om
 ·intro j hj hs;unfold mark at hs;split at hs
  ·cases hs
  ·rw[hall j Om]at hs;cases hs
 ·intro i2 hi2 hi2' b e k hb OB hk;have:i2=i+1:=Om
  subst this;exact(hr1.dx b e k OB hk).gh hr1.bZ
 ·intro d hd;exact MC
 ·intro d j o hj hs ho;by_cases hji:j=i
  ·subst hji;rw[hio]at hj;cases hj;rw[hTi,ho];have h1:m1.le (m1.cU (H (j+1)).length):=λb e hb=>by
    have:=hr1.bZ b e hb;unfold bA.cU;rw[Ty this];exact hb
   exact z160
  ·exact MO
end
section
variable {P:Program}{m m':bA}{h g h':af}{w w' w0:World}
theorem oN:∀(l c pre:List AV),c.length=l.length->eJ (pre++c) pre.length l=pre++l
 |[],c,pre,h=>by
  exact GJ
 |x::l,[],pre,h=>by simp at h
 |x::l,y::c,pre,h=>by
  have e1:(pre++y::c).set pre.length x=(pre++[x])++c:=by
   exact G8
  have e2:pre.length+1=(pre++[x]).length:=Si
  show eJ ((pre++y::c).set pre.length x) (pre.length+1) l=_;rw[e1,e2,oN l c (pre++[x]) (by simpa using h),Ti];rfl
def Grow.forget(gr:Grow m h w m' (h++g) w'):Grow m h w (m'.cU h.length) h w' where
 ext:=λb hb=>by unfold bA.cU;rw[Ty hb];exact gr.ext b hb
 len:=Ts _
 new:=λb e hb he=>by unfold bA.cU at he;rw[Tt Om]at he;cases he
 tl:=λb hb ht=>ht
 size:=gr.size
 os:=gr.os
 out:=gr.out
 tape:=gr.tape
 frame:=gr.frame
def HR.forget(hr:HR P m h w)(hr':HR P m' (h++g) w')(gr:Grow m h w m' (h++g) w'):HR P (m'.cU h.length) h w':=
 hr'.cU hr.DN λb e k hb OB hk=>(hr.dx b e k (by rw[<-gr.ext b hb];exact OB) hk).gh hr.bZ
def HR.Jp(hr:HR P m h w){cb cc}{el:TypeId}{fz}(hb:w.heap[cb]? =some (.cells cc el fz))(hfz:∀i,i<cc.size->¬(fz.1<=i/\i<fz.2))(hout:∀b e,m b=some e->e.cb≠cb)
  {c}{d}(hc:d+c.length=cc.size) (hv:∀(i:Nat) (x:AV),c[i]? =some x->x.one=true/\∃v,cc[d+i]? =some v/\VR m x v):HR P (m.add h.length ⟨cb,d,cc.size,true⟩) (h++[.cells c true false]) w:=by
 have OA:m h.length=none:=by
  exact JF
 have hle:m.le (m.add h.length ⟨cb,d,cc.size,true⟩):=bA.pK _ OA;have NR:∀b e,(m.add h.length ⟨cb,d,cc.size,true⟩) b=some e->(b=h.length/\e=⟨cb,d,cc.size,true⟩)\/(b<h.length/\m b=some e):=λb e OS=>by
  exact MG
 refine⟨λb e OS=>?_,λb e k OS hk=>?_,λb1 b2 e1 e2 k1 k2 hne h1 h2 hk1 NG hcb=>?_,λg hg=>?_,λb e OS=>?_⟩
 ·rw[Tg];rcases NR b e OS with⟨rfl,_⟩|⟨hlt,_⟩
  ·simp
  ·simp;omega
 ·rcases NR b e OS with⟨rfl,rfl⟩|⟨hlt,hm⟩
  ·rw[To (Ts _),Uf]at hk;cases hk;refine⟨cc,el,fz,hb,⟨by show d+_<=_;omega,by show d+_<=cc.size;omega,rfl⟩,λi x hx=>?_,λ_=>⟨rfl,hfz⟩,λ_=>⟨rfl,λ_=>by show cc.size=d+c.length;omega⟩⟩;obtain⟨ho,v,h1,h2⟩:=hv i x hx;exact⟨ho,v,h1,VR.mono hle _ _ h2⟩
  ·rw[Tj hlt]at hk;exact(hr.dx b e k hm hk).mono hle
 ·exact MS
 ·obtain⟨e,he,hx⟩:=hr.eZ g hg;exact⟨e,hle _ _ he,hx⟩
 ·rcases NR b e OS with⟨_,rfl⟩|⟨_,hm⟩
  ·exact(Tw.1 hb).1
  ·exact hr.lt b e hm
def Aq{x}(h:vk x=true):x.one=true:=by cases x<;>first|rfl|cases h
def Ck{x v}(h:vk x=true)(hv:VR m x v)(m':bA):VR m' x v:=by
 cases x<;>first|exact hv|cases h
def jn(m:bA)(w0 w:World)(zc:List AV)(cv:Value):Prop:=
 ∃(cb d:Nat) (cc:Array Value) (el:TypeId) (fz:Nat×Nat),cv=.pointer (some ⟨cb,d,none⟩)/\w.heap[cb]? =some (.cells cc el fz)/\d+zc.length=cc.size/\(∀i,i<cc.size->¬(fz.1<=i/\i<fz.2))/\
  (∀(i:Nat) (x:AV),zc[i]? =some x->x.one=true/\∃v,cc[d+i]? =some v/\∀m:bA,VR m x v)/\w0.heap.size<=cb/\∀b e,m b=some e->e.cb≠cb
def jn.move{zc cv}(p:jn m w0 w zc cv)(hh:∀cb d,cv=.pointer (some ⟨cb,d,none⟩)->cb<w.heap.size->(∀b e,m b=some e->e.cb≠cb)->w'.heap[cb]? =w.heap[cb]?)
  (hm:∀cb d,cv=.pointer (some ⟨cb,d,none⟩)->cb<w.heap.size->(∀b e,m b=some e->e.cb≠cb)->∀b e,m' b=some e->e.cb≠cb):jn m' w0 w' zc cv:=by
 obtain⟨cb,d,cc,el,fz,h1,h2,h3,h4,h5,h6,h7⟩:=p;have hlt:cb<w.heap.size:=(Tw.1 h2).1;exact⟨cb,d,cc,el,fz,h1,by rw[hh cb d h1 hlt h7];exact h2,h3,h4,h5,h6,hm cb d h1 hlt h7⟩
def jn.grow{zc cv}(p:jn m w0 w zc cv)(gr:Grow (m.cU h.length) h w m' h' w'):jn m' w0 w' zc cv/\jn (m'.patch m h'.length) w0 w' zc cv:=by
 have hh:∀cb d,cv=.pointer (some ⟨cb,d,none⟩)->cb<w.heap.size->(∀b e,m b=some e->e.cb≠cb)->w'.heap[cb]? =w.heap[cb]? :=λcb d _ hlt h7=>gr.frame cb hlt λb e he _=>h7 b e (bA.dQ _ _ _ _ he)
 have hnew:∀cb,cb<w.heap.size->(∀b e,m b=some e->e.cb≠cb)->∀b e,m' b=some e->e.cb≠cb:=λcb hlt h7 b e he=>by
  by_cases hb:b<h.length
  ·rw[gr.ext b hb]at he;exact h7 b e (bA.dQ _ _ _ _ he)
  ·obtain⟨_,hc⟩:=gr.new b e Om he;rcases hc with hc|⟨b0,e0,c1,c2,_⟩
   ·omega
   ·rw[<-c2];exact h7 b0 e0 (bA.dQ _ _ _ _ c1)
 refine⟨p.move hh λcb d _ hlt h7=>hnew cb hlt h7,p.move hh λcb d _ hlt h7 b e he=>?_⟩;unfold bA.patch at he;split at he
 ·exact hnew cb hlt h7 b e he
 ·exact h7 b e he
end
structure bH(ops:Array Oper)(l:List aZ)(k s t:Nat)(z:AV)(n:Nat)(x:cC):Prop where
 ks:k<s
 hk:l[k]? =some {dst:=some t,k:=.box (.c z),gd:=none,q:=true}
 hs:l[s]? =some {dst:=none,k:=.store n (.t t) x,gd:=none,q:=true}
 zn:z.cells.length=n
 zc:z.cells.all vk=true
 xt:∀u,x=.t u->u≠t/\ep ops s u=true
 lt:ep ops s t=true
 only:∀j,j<ops.size->j≠s->ep ops j t=false
def ll{o n t x}(h:jU o=some (n,t,x)):o={dst:=none,k:=.store n (.t t) x,gd:=none,q:=true}:=by
 obtain⟨d,k,gd,q⟩:=o;unfold jU at h;exact z87
def vu{o t z}(h:qP o=some (t,z)):o={dst:=some t,k:=.box (.c z),gd:=none,q:=true}:=by
 obtain⟨d,k,gd,q⟩:=o;unfold qP at h;exact z87
def nE{ops l k s}(hks:k<s)(h:mO ops l k s=true):∃t z n x,bH ops l k s t z n x:=by
 unfold mO at h;split at h
 case h_2=>cases h
 rename_i t z n t' x h1 h2;obtain⟨a,ha,hb⟩:=Ue.1 h1;obtain⟨b,On,Ol⟩:=Ue.1 h2;have e1:=vu hb;have e2:=ll Ol;subst e1;subst e2;simp only[TL,beq_iff_eq,TM,Ud,UU,UC]at h;obtain⟨⟨⟨⟨⟨rfl,q2⟩,q3⟩,q4⟩,q5⟩,q6⟩:=h;refine⟨t,z,n,x,hks,ha,On,q2,TM.2 q3,λu hu=>?_,q5,λj hj hne=>(q6 j hj).resolve_left hne⟩;subst hu;simp only[TL,bne_iff_ne,ne_eq]at q4;exact q4
def bH.ok{ops l k s t z n x}(p:bH ops l k s t z n x):mO ops l k s=true:=by
 unfold mO;rw[p.hk,p.hs];simp only[Option.bind_some,qP,jU,TL,beq_iff_eq,TM,Ud,UU,UC];refine⟨⟨⟨⟨⟨trivial,p.zn⟩,TM.1 p.zc⟩,?_⟩,p.lt⟩,λj hj=>?_⟩
 ·cases x with
  |t u=>simp only[TL,bne_iff_ne,ne_eq];exact p.xt u rfl
  |_=>rfl
 ·by_cases hne:j=s
  ·exact .inl hne
  ·exact .inr (p.only j hj hne)
def ES:aZ:={dst:=none,k:=.dw (.c (.bool false)),gd:=none,q:=true}
theorem tJ{ops l}:∀{r}{i j},(nM ops l i r)[j]? =(r[j]?).map (qJ ops l (i+j))
 |[],i,j=>by simp[nM]
 |o::r,i,0=>by simp[nM]
 |o::r,i,j+1=>by
  show(nM ops l (i+1) r)[j]? =_;rw[tJ,show i+1+j=i+(j+1) by omega];simp
theorem tI{ops l}:∀{r}{i},(nM ops l i r).length=r.length
 |[],_=>rfl
 |o::r,i=>by simp[nM,tI]
def uT{ops l}(hl:l.length=ops.size){j o}(ho:l[j]? =some o):
  (∃k t z n x,bH ops l k j t z n x/\qJ ops l j o={dst:=some t,k:=.lX n x,gd:=none,q:=true})\/
  (∃s t z n x,bH ops l j s t z n x/\qJ ops l j o=ES)\/
  (qJ ops l j o=o/\(∀k t z n x,¬bH ops l k j t z n x)/\(∀s t z n x,¬bH ops l j s t z n x)):=by
 unfold qJ;split
 ·rename_i n t x bp;have e1:=ll bp;have NZ:∀s t z n x,¬bH ops l j s t z n x:=λs t' z n' x' p=>by
   have:=p.hk;rw[ho,e1]at this;cases this
  split
  ·rename_i k hk;unfold Lb at hk;have h1:=VF hk;have h2:=Ud.1 (List.mem_of_find?_eq_some hk);obtain⟨t',z,n',x',p⟩:=nE h2 h1;have:=p.hs;rw[ho,e1]at this;cases this;exact .inl ⟨k,_,z,_,_,p,rfl⟩
  ·rename_i hk;refine .inr (.inr ⟨rfl,λk t' z n' x' p=>?_,NZ⟩);unfold Lb at hk;exact List.find?_eq_none.1 hk k (Ud.2 p.ks) p.ok
 ·rename_i bp;have hns:∀k t z n x,¬bH ops l k j t z n x:=λk t' z n' x' p=>by
   have:=p.hs;rw[ho]at this;cases this;simp[jU]at bp
  split
  ·rename_i y NJ;split
   ·rename_i s hs;unfold Kx at hs;have h1:=VF hs;simp only[TL,T3]at h1;obtain⟨t',z,n',x',p⟩:=nE h1.1 h1.2;exact .inr (.inl ⟨s,t',z,n',x',p,rfl⟩)
   ·rename_i hs;refine .inr (.inr ⟨rfl,hns,λs t' z n' x' p=>?_⟩);unfold Kx at hs;refine List.find?_eq_none.1 hs s (Ud.2 ((Th.1 p.hs).1)) ?_;simp only[TL,T3];exact⟨p.ks,p.ok⟩
  ·rename_i NJ;refine .inr (.inr ⟨rfl,hns,λs t' z n' x' p=>?_⟩);have:=p.hk;rw[ho]at this;cases this;simp[qP]at NJ
def nf(v v':Value):Prop:=∀cb d Q6 d',v=.pointer (some ⟨cb,d,none⟩)->v' =.pointer (some ⟨Q6,d',none⟩)->cb≠Q6
theorem nf.symm{v v'}(h:nf v v'):nf v' v:=λcb d Q6 d' h1 h2 e=>h Q6 d' cb d h2 h1 e.symm
structure nj(ops:Array Oper)(l:List aZ)(w0:World)(S:Nat->Bool)(ta tmps:Array Value)(m:bA)(w:World):Prop where
 size:tmps.size=ta.size
 ag:∀d,(∀k s z n x,bH ops l k s d z n x->S k=true->S s=false->False)->tmps.getD d undef=ta.getD d undef
 pd:∀k s t z n x,bH ops l k s t z n x->S k=true->S s=false->jn m w0 w z.cells (tmps.getD t undef)
 dj:∀k s t z n x k' s' t' z' n' x',bH ops l k s t z n x->bH ops l k' s' t' z' n' x'->S k=true->S s=false->S k' =true->S s' =false->t≠t'->nf (tmps.getD t undef) (tmps.getD t' undef)
section
variable {ops:Array Oper}{l:List aZ}{w0 w w':World}{S:Nat->Bool}{ta tmps:Array Value}{m m':bA}
def gq{ta d cv}(h:d<ta.size):(fB ta (some d) cv).getD d undef=cv:=by
 simp only[fB,TX];rw[Uv h];rfl
def uN{d cv t}(hs:tmps.size=ta.size)(h:tmps.getD t undef=ta.getD t undef):(fB tmps d cv).getD t undef=(fB ta d cv).getD t undef:=by
 by_cases hd:d=some t
 ·subst hd;by_cases ht:t<ta.size
  ·rw[gq ht,gq Om]
  ·simp only[fB,TX];rw[UJ (by simp;omega),UJ (by simp;omega)]
 ·rw[cR hd,cR hd];exact h
def nj.other(I:nj ops l w0 S ta tmps m w){i d cv}(h1:∀k t z n x,¬bH ops l k i t z n x)(h2:∀s t z n x,¬bH ops l i s t z n x)(hd:∀k s t z n x,bH ops l k s t z n x->d≠some t)
  (hp:∀zc cv,jn m w0 w zc cv->jn m' w0 w' zc cv):nj ops l w0 (mark S i) (fB ta d cv) (fB tmps d cv) m' w' where
 size:=by rw[dK,dK];exact I.size
 ag:=λt ht=>uN I.size (I.ag t λk s z n x p hk hs=>ht k s z n x p (by unfold mark;split<;>first|rfl|exact hk) (by
  unfold mark;split
  ·rename_i e;subst e;exact absurd p (h1 _ _ _ _ _)
  ·exact hs))
 pd:=λk s t z n x p hk hs=>by
  have R9:k≠i:=λe=>h2 _ _ _ _ _ (e▸p)
  have hsi:s≠i:=λe=>h1 _ _ _ _ _ (e▸p)
  unfold mark at hk hs;rw[Tt R9]at hk;rw[Tt hsi]at hs;rw[cR (hd _ _ _ _ _ _ p)];exact hp _ _ (I.pd k s t z n x p hk hs)
 dj:=λk s t z n x k' s' t' z' n' x' p p' hk hs hk' NI hne=>by
  have R9:k≠i:=λe=>h2 _ _ _ _ _ (e▸p)
  have hsi:s≠i:=λe=>h1 _ _ _ _ _ (e▸p)
  have hki':k'≠i:=λe=>h2 _ _ _ _ _ (e▸p')
  have hsi':s'≠i:=λe=>h1 _ _ _ _ _ (e▸p')
  unfold mark at hk hs hk' NI;rw[Tt R9]at hk;rw[Tt hsi]at hs;rw[Tt hki']at hk';rw[Tt hsi']at NI;rw[cR (hd _ _ _ _ _ _ p),cR (hd _ _ _ _ _ _ p')];exact I.dj _ _ _ _ _ _ _ _ _ _ _ _ p p' hk hs hk' NI hne
def AX(ops:Array Oper)(l:List aZ):Prop:=∀k s t z n x k' s' t' z' n' x',bH ops l k s t z n x->bH ops l k' s' t' z' n' x'->(t=t'->k=k'/\s=s')/\(k=k'->t=t')/\(s=s'->t=t')/\k≠s'
def nj.make(U:AX ops l)(I:nj ops l w0 S ta tmps m w){k s t n z x cv}(p0:bH ops l k s t z n x)(ht:t<tmps.size)(hss:S s=false)
  (hnew:jn m' w0 w' z.cells cv) (hfar:∀cb d,cv=.pointer (some ⟨cb,d,none⟩)->w.heap.size<=cb) (hp:∀zc cv,jn m w0 w zc cv->jn m' w0 w' zc cv):nj ops l w0 (mark S k) ta (fB tmps (some t) cv) m' w' where
 size:=by rw[dK];exact I.size
 ag:=λd hd=>by
  by_cases hdt:d=t
  ·subst hdt;exact(hd k s z n x p0 (by simp[mark]) (by
    have:s≠k:=Nat.ne_of_gt p0.ks;simp only[mark,Tt this];exact hss)).elim
  ·rw[cR (λe=>hdt (Ug e).symm)];refine I.ag d λk' s' z' n' x' p hk hs=>hd k' s' z' n' x' p (by unfold mark;split<;>first|rfl|exact hk) ?_
   have:s'≠k:=λe=>((U _ _ _ _ _ _ _ _ _ _ _ _ p0 p).2.2.2 e.symm)
   simp only[mark,Tt this];exact hs
 pd:=λk' s' t' z' n' x' p hk hs=>by
  by_cases hkk:k' =k
  ·have e:=(U _ _ _ _ _ _ _ _ _ _ _ _ p0 p).2.1 hkk.symm;subst e;subst hkk;have hz:=p0.hk.symm.trans p.hk;have hz:z=z':=by cases hz;rfl
   subst hz;rw[gq ht];exact hnew
  ·have hsk:s'≠k:=λe=>((U _ _ _ _ _ _ _ _ _ _ _ _ p0 p).2.2.2 e.symm)
   unfold mark at hk hs;rw[Tt hkk]at hk;rw[Tt hsk]at hs;have hne:t≠t':=λe=>hkk ((U _ _ _ _ _ _ _ _ _ _ _ _ p0 p).1 e).1.symm
   rw[cR (λe=>hne (Ug e))];exact hp _ _ (I.pd _ _ _ _ _ _ p hk hs)
 dj:=λk1 s1 t1 z1 n1 x1 k2 s2 t2 z2 n2 x2 p1 p2 hk1 O9 NG Ob hne=>by
  have hold:∀k' s' t' z' n' x',bH ops l k' s' t' z' n' x'->k'≠k->mark S k k' =true->mark S k s' =false->t≠t'/\S k' =true/\S s' =false/\(fB tmps (some t) cv).getD t' undef=tmps.getD t' undef:=λk' s' t' z' n' x' p hkk hk hs=>by
   have hsk:s'≠k:=λe=>((U _ _ _ _ _ _ _ _ _ _ _ _ p0 p).2.2.2 e.symm)
   unfold mark at hk hs;rw[Tt hkk]at hk;rw[Tt hsk]at hs;have hne:t≠t':=λe=>hkk ((U _ _ _ _ _ _ _ _ _ _ _ _ p0 p).1 e).1.symm
   exact⟨hne,hk,hs,cR (λe=>hne (Ug e))⟩
  have hfar':∀k' s' t' z' n' x',bH ops l k' s' t' z' n' x'->S k' =true->S s' =false->nf cv (tmps.getD t' undef):=λk' s' t' z' n' x' p hk hs cb1 d1 cb2 d2 e1 e2=>by
   obtain⟨cb,d,cc,el,fz,q1,q2,_⟩:=I.pd _ _ _ _ _ _ p hk hs;rw[q1]at e2;cases e2;have:=hfar cb1 d1 e1;have:=(Tw.1 q2).1;omega
  by_cases h1:k1=k
  ·have e1:=(U _ _ _ _ _ _ _ _ _ _ _ _ p0 p1).2.1 h1.symm;by_cases h2:k2=k
   ·exact absurd (e1.symm.trans ((U _ _ _ _ _ _ _ _ _ _ _ _ p0 p2).2.1 h2.symm)) hne
   ·obtain⟨a1,a2,a3,a4⟩:=hold _ _ _ _ _ _ p2 h2 NG Ob;rw[a4,<-e1,gq ht];exact hfar' _ _ _ _ _ _ p2 a2 a3
  ·obtain⟨b1,b2,b3,b4⟩:=hold _ _ _ _ _ _ p1 h1 hk1 O9;by_cases h2:k2=k
   ·have e2:=(U _ _ _ _ _ _ _ _ _ _ _ _ p0 p2).2.1 h2.symm;rw[b4,<-e2,gq ht];exact(hfar' _ _ _ _ _ _ p1 b2 b3).symm
   ·obtain⟨a1,a2,a3,a4⟩:=hold _ _ _ _ _ _ p2 h2 NG Ob;rw[a4,b4];exact I.dj _ _ _ _ _ _ _ _ _ _ _ _ p1 p2 b2 b3 a2 a3 hne
def nj.fill(U:AX ops l)(I:nj ops l w0 S ta tmps m w){k s t n z x}(p0:bH ops l k s t z n x)(ht:t<tmps.size)
  (hp:∀zc cv,nf cv (tmps.getD t undef)->jn m w0 w zc cv->jn m' w0 w' zc cv) (hk:S k=true) (hs:S s=false):nj ops l w0 (mark S s) (fB ta (some t) (tmps.getD t undef)) tmps m' w':=by
 have hold:∀k' s' t' z' n' x',bH ops l k' s' t' z' n' x'->mark S s k' =true->mark S s s' =false->t≠t'/\S k' =true/\S s' =false:=λk' s' t' z' n' x' p hk' NI=>by
  have h1:k'≠s:=(U _ _ _ _ _ _ _ _ _ _ _ _ p p0).2.2.2;have h2:s'≠s:=λe=>by simp[mark,e]at NI
  unfold mark at hk' NI;rw[Tt h1]at hk';rw[Tt h2]at NI;exact⟨λe=>h2 ((U _ _ _ _ _ _ _ _ _ _ _ _ p p0).1 e.symm).2,hk',NI⟩
 refine⟨by rw[dK];exact I.size,λd hd=>?_,λk' s' t' z' n' x' p hk' NI=>?_,λk1 s1 t1 z1 n1 x1 k2 s2 t2 z2 n2 x2 p1 p2 hk1 O9 NG Ob hne=>?_⟩
 ·by_cases hdt:d=t
  ·subst hdt;rw[gq (by rw[<-I.size];exact ht)]
  ·rw[cR (λe=>hdt (Ug e).symm)];refine I.ag d λk' s' z' n' x' p hk' NI=>hd k' s' z' n' x' p (by unfold mark;split<;>first|rfl|exact hk') ?_
   have h2:s'≠s:=λe=>hdt ((U _ _ _ _ _ _ _ _ _ _ _ _ p p0).2.2.1 e)
   simp only[mark,Tt h2];exact NI
 ·obtain⟨a1,a2,a3⟩:=hold _ _ _ _ _ _ p hk' NI;exact hp _ _ (I.dj _ _ _ _ _ _ _ _ _ _ _ _ p p0 a2 a3 hk hs (Vl a1)) (I.pd _ _ _ _ _ _ p a2 a3)
 ·obtain⟨a1,a2,a3⟩:=hold _ _ _ _ _ _ p1 hk1 O9;obtain⟨b1,b2,b3⟩:=hold _ _ _ _ _ _ p2 NG Ob;exact I.dj _ _ _ _ _ _ _ _ _ _ _ _ p1 p2 a2 a3 b2 b3 hne
end
def cj{M ops}(h:jV M ops=true){i j x y}(hij:i<j)(hx:ops[i]? =some x)(hy:ops[j]? =some y):
  (∀d,x.dst=some d->y.dst≠some d/\(d∈y.looksAt ops->ahead M i j=true))/\(∀d,y.dst=some d->d∈x.looksAt ops->ahead M i j=true):=by
 have hj:j<ops.size:=(Tw.1 hy).1;unfold jV at h;rw[TM]at h;have h1:=h j (Ud.2 hj);rw[TM]at h1;have h2:=h1 i (Ud.2 hij);rw[hx,hy]at h2;simp only[TL]at h2;obtain⟨h3,h4⟩:=h2;constructor
 ·intro d hd;rw[hd]at h3;simp only[TL,bne_iff_ne,ne_eq,UU,UC,List.contains_eq_mem,UY]at h3;exact⟨h3.1,λhl=>h3.2.resolve_left (λhx=>hx hl)⟩
 ·intro d hd hl;rw[hd]at h4;simp only[UU,UC,List.contains_eq_mem,UY]at h4;exact h4.resolve_left (λhx=>hx hl)
def lT{M ops}(h:jd M ops=true){j o}(ho:ops[j]? =some o):
  (∀e∈o.after,Region.binds .any e=true->e.on<j)/\(∀i,i<ops.size->ahead M i j=true->∃e∈o.after,Region.binds .any e=true/\(e.on=i\/ahead M i e.on=true)):=by
 have hj:j<ops.size:=(Tw.1 ho).1;unfold jd at h;rw[TM]at h;have h1:=h j (Ud.2 hj);rw[ho]at h1;simp only[TL]at h1;obtain⟨h2,h3⟩:=h1;constructor
 ·intro e he hb;rw[TM]at h2;have:=h2 e (by simpa using he);simp only[hb,TU,Vi,T3]at this;exact this
 ·intro i hi ha;rw[TM]at h3;have:=h3 i (Ud.2 hi);simp only[ha,TU,Vi,UR,TL,UU,beq_iff_eq]at this;obtain⟨e,he,hb,hor⟩:=this;exact⟨e,by simpa using he,hb,hor⟩
def lZ{M n j}(h:fw M n j=true){i}(hi:i<n)(hne:i≠j):(i<j->ahead M i j=true)/\(j<i->ahead M j i=true):=by
 unfold fw at h;rw[TM]at h;have h1:=h i (Ud.2 hi);simp only[UU,beq_iff_eq]at h1;have h2:=h1.resolve_left hne;constructor
 ·intro hlt;rwa [Ty hlt]at h2
 ·intro hlt;rwa [Tt Om]at h2
theorem rW{T:Nat->TS}{t:Nat}{a:Nat}:∀k,(∀j,a<=j->j<a+k->∃d v,T (j+1)=put (T j) d v/\d≠some t)->(T (a+k)).getD t ar=(T a).getD t ar
 | 0,_=>rfl
 |k+1,h=>by
  obtain⟨d,v,h1,h2⟩:=h (a+k) Om Om;rw[show a+(k+1)=a+k+1 from by omega,h1,uM h2];exact rW k λj h3 h4=>h j h3 Om
def wi{listed:Array Bool}{i:Nat}(hi:i<listed.size):(λj=>(listed.setIfInBounds i true).getD j false)=mark (λj=>listed.getD j false) i:=by
 funext j;unfold mark;exact cE hi
def gp{ops listed}(hs:listed.size=ops.size){i}:i∈Region.ready .any ops listed↔∃o,ops[i]? =some o/\listed.getD i false=false/\∀e∈o.after,Region.binds .any e=true->listed.getD e.on false=true:=by
 unfold Region.ready;simp only[UK,Ud,TL,UC];constructor
 ·rintro⟨hi,hl,ha⟩;have ho:ops[i]? =some ops[i]:=T4 hi;refine⟨ops[i],ho,?_,?_⟩
  ·exact Mx
  ·rw[ho]at ha;simp only[U4,Vk,Array.all_eq_true_iff_forall_mem,UU,UC]at ha;intro e he hb;exact(ha e he).resolve_left (by simp[hb])
 ·rintro⟨o,ho,hl,ha⟩;have hi:i<ops.size:=(Tw.1 ho).1;refine⟨hi,?_,?_⟩
  ·exact Mx
  ·rw[ho];simp only[U4,Vk,Array.all_eq_true_iff_forall_mem,UU,UC];intro e he;cases hb:Region.binds .any e with
   |true=>exact .inr (ha e he hb)
   |false=>exact .inl rfl
def jX{M ops}(he:jd M ops=true){listed}(hs:listed.size=ops.size)(hr:Region.ready .any ops listed=[]):∀i,i<ops.size->listed.getD i false=true:=by
 intro i
 induction i using Nat.strongRecOn with
 |_ i ih=>
  intro hi;cases hl:listed.getD i false with
  |true=>rfl
  |false=>
   have:i∈Region.ready .any ops listed:=by
    have ho:ops[i]? =some ops[i]:=T4 hi;refine(gp hs).2 ⟨ops[i],ho,hl,λe hee hb=>?_⟩;have:=(lT he ho).1 e hee hb;exact ih e.on this Om
   rw[hr]at this;cases this
def jY{ops listed}(hs:listed.size=ops.size)(h:∀i,i<ops.size->listed.getD i false=true):Region.ready .any ops listed=[]:=by
 cases hr:Region.ready .any ops listed with
 |nil=>rfl
 |cons x xs=>
  have:x∈Region.ready .any ops listed:=by rw[hr];simp
  obtain⟨o,ho,hl,_⟩:=(gp hs).1 this;rw[h x (Tw.1 ho).1]at hl;cases hl
def sS{P:Program}(hmix:P.follows .mixedOrders=true){ops:Array Oper}{l:List aZ}(hc:cg P ops true=some l){ts ts':TS}{h h':af}(hs:vD P l ts h ts' h'){m:bA}{a:Act}{w:World}
  (st:St P m ts h a w) (ro:Option Nat) (Q:Exit->Act->World->Prop) (hQ:∀m' a' w',St P m' ts' h' a' w'->Grow m h w m' h' w'->a'.defers=a.defers->Q .normal a' w') (id:Nat):
  (Code.region id ops true).wpIn (Fd ro) 0 P Q a w:=by
 refine wpIn_region_any hmix ?_;obtain⟨T,H,rfl,rfl,rfl,rfl,hrow⟩:=hs.row;simp only[cg,TQ]at hc;split at hc
 case isFalse=>cases hc
 rename_i hok;simp only[TL]at hok;obtain⟨hed,hsl⟩:=hok;obtain⟨l0,hc,hl⟩:=TB.1 hc;obtain⟨NW,NO⟩:=fc hc;simp only[Vh]at NW;have hlen:l.length=ops.size:=by rw[<-hl,tI,NW]
 have hget0:∀j o,ops[j]? =some o->∃io,l0[j]? =some io/\bj P ops (!fw (Region.before ops) ops.size j) o=some io:=λj o ho=>by
  obtain⟨y,h1,h2⟩:=NO j o (by simpa using ho);exact⟨y,h1,by rwa [TZ]at h2⟩
 have P0:∀j io,l0[j]? =some io->∃o,ops[j]? =some o/\bj P ops (!fw (Region.before ops) ops.size j) o=some io:=λj io hj=>by
  have hlt:j<ops.size:=by have:=(Th.1 hj).1;omega
  have ho:ops[j]? =some ops[j]:=T4 hlt;obtain⟨io',h1,h2⟩:=hget0 j _ ho;rw[hj]at h1;cases h1;exact⟨_,ho,h2⟩
 have RJ:∀(j:Nat) (io:aZ),l[j]? =some io->(∃k t z n x,bH ops l0 k j t z n x/\io={dst:=some t,k:=.lX n x,gd:=none,q:=true})\/(∃s t z n x,bH ops l0 j s t z n x/\io=ES)\/
   ((∃o,ops[j]? =some o/\bj P ops (!fw (Region.before ops) ops.size j) o=some io)/\(∀k t z n x,¬bH ops l0 k j t z n x)/\(∀s t z n x,¬bH ops l0 j s t z n x)):=λj io hj=>by
  rw[<-hl,tJ,TZ]at hj;obtain⟨io0,h0,rfl⟩:=TB.1 hj;rcases uT NW h0 with⟨k,t,z,n,x,p,e⟩|⟨s,t,z,n,x,p,e⟩|⟨e,n1,n2⟩
  ·exact .inl ⟨k,t,z,n,x,p,e⟩
  ·exact .inr (.inl ⟨s,t,z,n,x,p,e⟩)
  ·rw[e];exact .inr (.inr ⟨P0 j io0 h0,n1,n2⟩)
 have hdU:∀(i j:Nat) (oi oj:Oper) (d:Nat),ops[i]? =some oi->ops[j]? =some oj->oi.dst=some d->oj.dst=some d->i=j:=λi j oi oj d hi hj h1 h2=>by
  by_cases hlt:i<j
  ·exact absurd h2 ((cj hsl hlt hi hj).1 d h1).1
  ·by_cases Qk:j<i
   ·exact absurd h1 ((cj hsl Qk hj hi).1 d h2).1
   ·omega
 have SP:∀{k s t:Nat}{z:AV}{n:Nat}{x:cC},bH ops l0 k s t z n x->∃o,ops[k]? =some o/\o.dst=some t/\bj P ops (!fw (Region.before ops) ops.size k) o=some {dst:=some t,k:=.box (.c z),gd:=none,q:=true}:=λp=>by
  obtain⟨o,h1,h2⟩:=P0 _ _ p.hk;exact⟨o,h1,(cM h2).1.symm,h2⟩
 have hps:∀{k s t:Nat}{z:AV}{n:Nat}{x:cC},bH ops l0 k s t z n x->∃o,ops[s]? =some o/\o.dst=none/\bj P ops (!fw (Region.before ops) ops.size s) o=some {dst:=none,k:=.store n (.t t) x,gd:=none,q:=true}:=λp=>by
  obtain⟨o,h1,h2⟩:=P0 _ _ p.hs;exact⟨o,h1,(cM h2).1.symm,h2⟩
 have hlooks:∀{j t:Nat}{o:Oper},ops[j]? =some o->ep ops j t=true->t∈o.looksAt ops:=λho h=>by
  unfold ep at h;rw[ho]at h
  simpa using h
 have RE:∀{j t:Nat}{o:Oper},ops[j]? =some o->t∈o.looksAt ops->ep ops j t=true:=λho h=>by
  unfold ep;rw[ho]
  simpa using h
 have dq:∀{j:Nat}{o:Oper},ops[j]? =some o->j<ops.size:=λho=>(Tw.1 ho).1
 have U:AX ops l0:=λk s t z n x k' s' t' z' n' x' p p'=>by
  refine⟨λe=>?_,λe=>?_,λe=>?_,λe=>?_⟩
  ·subst e;obtain⟨o,h1,h2,_⟩:=SP p;obtain⟨o',h1',h2',_⟩:=SP p';refine⟨hdU _ _ _ _ _ h1 h1' h2 h2',?_⟩;by_cases hs:s=s'
   ·exact hs
   ·obtain⟨os,O9,_⟩:=hps p';have:=p.only s' (dq O9) (Vl hs);rw[p'.lt]at this;cases this
  ·subst e;have:=p.hk.symm.trans p'.hk;cases this;rfl
  ·subst e;have:=p.hs.symm.trans p'.hs;cases this;rfl
  ·subst e;have:=p.hk.symm.trans p'.hs;cases this
 have hpt:∀{i:Nat}{o:Oper}{t:Nat},ops[i]? =some o->t∈o.looksAt ops->∀k s z n x,bH ops l0 k s t z n x->i=s:=λ{i o t} ho ht k s z n x p=>by
  by_cases hi:i=s
  ·exact hi
  ·have:=p.only _ (dq ho) hi;rw[RE ho ht]at this;cases this
 have OF:∀(j:Nat) (io:aZ) (d:Nat),l[j]? =some io->io.dst=some d->(∃o,ops[j]? =some o/\o.dst=some d/\(∀k t z n x,¬bH ops l0 k j t z n x)/\(∀s t z n x,¬bH ops l0 j s t z n x))\/(∃k z n x,bH ops l0 k j d z n x):=λj io d hj hd=>by
  rcases RJ j io hj with⟨k,t,z,n,x,p,e⟩|⟨s,t,z,n,x,p,e⟩|⟨⟨o,h1,h2⟩,n1,n2⟩
  ·rw[e]at hd;cases hd;exact .inr ⟨k,z,n,x,p⟩
  ·rw[e]at hd;cases hd
  ·exact .inl ⟨o,h1,by rw[<- (cM h2).1];exact hd,n1,n2⟩
 have O0:∀j io,l[j]? =some io->∃v,T (j+1)=put (T j) io.dst v:=λj io hj=>(hrow.step j io hj).1.put
 have hTl:∀j,j<=l.length->(T j).length=(T 0).length:=by
  intro j
  induction j with
  |zero=>intro _;rfl
  |succ j ih=>
   intro hj;exact J0
 have hG:P.globals.size<=(H 0).length:=st.hr.DN;have huniq:∀(i:Nat) (io:aZ),l[i]? =some io->∀(j:Nat) (o:aZ) (d:Nat),j≠i->l[j]? =some o->o.dst=some d->io.dst≠some d:=by
  intro i io hi j o d hne hj hd N6;rcases OF j o d hj hd with⟨oj,a1,a2,a3,a4⟩|⟨k,z,n,x,p⟩
  ·rcases OF i io d hi N6 with⟨oi,b1,b2,b3,b4⟩|⟨k',z',n',x',p'⟩
   ·exact hne (hdU _ _ _ _ _ a1 b1 a2 b2)
   ·obtain⟨ok,h1,h2,_⟩:=SP p';have e:=hdU _ _ _ _ _ a1 h1 a2 h2;subst e;exact a4 _ _ _ _ _ p'
  ·rcases OF i io d hi N6 with⟨oi,b1,b2,b3,b4⟩|⟨k',z',n',x',p'⟩
   ·obtain⟨ok,h1,h2,_⟩:=SP p;have e:=hdU _ _ _ _ _ b1 h1 b2 h2;subst e;exact b4 _ _ _ _ _ p
   ·exact hne ((U _ _ _ _ _ _ _ _ _ _ _ _ p p').1 rfl).2
 have NS:∀a b t,a<=b->b<=l.length->(∀(j:Nat) (o:aZ),a<=j->j<b->l[j]? =some o->o.dst≠some t)->(T b).getD t ar=(T a).getD t ar:=by
  intro a b t hab hb hno;have:=rW (T:=T) (t:=t) (a:=a) (b-a) (λj h1 h2=>by
   have hj:l[j]? =some (l[j]'Om):=Tk Om;obtain⟨v,hv⟩:=O0 j _ hj;exact⟨_,v,hv,hno j _ h1 Om hj⟩)
  rwa [show a+(b-a)=b from by omega]at this
 have hqt:∀(j:Nat) (io:aZ),l[j]? =some io->fw (Region.before ops) ops.size j=false->io.q=true:=λj io hj hb=>by
  rcases RJ j io hj with⟨k,t,z,n,x,p,e⟩|⟨s,t,z,n,x,p,e⟩|⟨⟨o,h1,h2⟩,n1,n2⟩
  ·rw[e]
  ·rw[e];rfl
  ·rw[(cM h2).2,hb];rfl
 have hdone:∀(listed:Array Bool) (β θ:Nat) (m1:bA) (ta:Array Value) (a1:Act) (w1:World),(∀i,i<ops.size->listed.getD i false=true)->
   qb P l T H m w (λj=>listed.getD j false) β θ m1 ta w1->nj ops l0 w (λj=>listed.getD j false) ta a1.tmps m1 w1->a1.defers=a.defers->Q .normal a1 w1:=by
  intro listed β θ m1 ta a1 w1 hall M I hd;have hθ:θ=l.length:=by
   have h1:=M.θn;by_cases hz:l.length=0
   ·omega
   ·have:=M.high (l.length-1) (hall _ Om);omega
  subst hθ;refine hQ m1 a1 w1 ⟨M.hr,bY.fF ?_ ?_⟩ M.grow hd
  ·have:=M.size;have:=I.size;have:=hTl l.length (Ts _);simp;omega
  ·intro t x hx;have hlt:=(Th.1 hx).1;have Oh:t<a1.tmps.size:=by have:=M.size;have:=I.size;have:=hTl l.length (Ts _);omega
   have ex:(T l.length).getD t ar=x:=by simp[List.getD,hx]
   have ey:a1.tmps.getD t undef=a1.tmps[t]:=by simp[TX,T4 Oh]
   have eg:a1.tmps.getD t undef=ta.getD t undef:=I.ag t λk s z n x p _ hs=>by
    obtain⟨os,O9,_⟩:=hps p;rw[hall s (dq O9)]at hs;cases hs
   refine⟨a1.tmps[t],Si,?_⟩;rw[<-ex,<-ey,eg];by_cases hw:∃(j:Nat) (o:aZ),l[j]? =some o/\o.dst=some t
   ·obtain⟨j,o,hj,ho⟩:=hw;have QU:=(Th.1 hj).1;have h1:=M.vO t j o hj (hall j Om) ho;rw[NS (j+1) l.length t Om (Ts _) (λk o' h2 h3 h4 h5=>huniq j o hj k o' t Om h4 h5 ho)];exact VR.mono (bA.dQ _ _) _ _ h1
   ·rw[NS 0 l.length t Om (Ts _) (λk o' _ _ h4 h5=>hw ⟨k,o',h4,h5⟩)];exact VR.mono (M.grow.le st.hr.bZ) _ _ (M.vP t (λj o hj _ ho=>hw ⟨j,o,hj,ho⟩))
 have key:∀(fuel:Nat) (listed:Array Bool) (β θ:Nat) (m1:bA) (ta:Array Value) (a1:Act) (w1:World),listed.size=ops.size->oD listed ops.size<=fuel->
   (∀j x,listed.getD j false=true->x<ops.size->ahead (Region.before ops) x j=true->listed.getD x false=true)->
   qb P l T H m w (λj=>listed.getD j false) β θ m1 ta w1->nj ops l0 w (λj=>listed.getD j false) ta a1.tmps m1 w1->a1.defers=a.defers->wpAnyIn (Fd ro) 0 P .any ops Q fuel listed a1 w1:=by
  intro fuel
  induction fuel with
  |zero=>
   intro listed β θ m1 ta a1 w1 NT hu hcl M I hd;have hall:=jz ops.size (show oD listed ops.size=0 by omega);exact⟨jY NT hall,hdone listed β θ m1 ta a1 w1 hall M I hd⟩
  |succ fuel ih=>
   intro listed β θ m1 ta a1 w1 NT hu hcl M I hd;refine⟨λhr=>hdone listed β θ m1 ta a1 w1 (jX hed NT hr) M I hd,λi hi=>?_⟩;obtain⟨o,ho,OC,RH⟩:=(gp NT).1 hi;have hin:i<ops.size:=(Tw.1 ho).1;have hio:l[i]? =some (l[i]'Om):=Tk Om;generalize l[i]'Om=io at hio;obtain⟨bp,hq⟩:=hrow.step i io hio;have hahead:∀x,x<ops.size->ahead (Region.before ops) x i=true->listed.getD x false=true:=λx hx ha=>by
    exact z28
   have Pb:β<=i:=by
    by_cases hx:i<β
    ·have:=M.low i hx;simp only[OC]at this;cases this
    ·omega
   have Pm:∀j x,(listed.setIfInBounds i true).getD j false=true->x<ops.size->ahead (Region.before ops) x j=true->(listed.setIfInBounds i true).getD x false=true:=by
    intro j x hj hx ha;exact JG
   have QF:oD (listed.setIfInBounds i true) ops.size<=fuel:=by
    exact JC
   have hslot:∀(β' θ':Nat),qb P l T H m w (λj=>listed.getD j false) β' θ' m1 ta w1->i<=θ'->∀t,t∈o.looksAt ops->(∀k s z n x,¬bH ops l0 k s t z n x)->VR (m1.cU (H i).length) ((T i).getD t ar) (ta.getD t undef):=by
    intro β' θ' M' hi' t ht hnp;have h0i:=eI M'.len (TJ i) hi';by_cases hex:∃(x:Nat) (ox:aZ),l[x]? =some ox/\listed.getD x false=true/\ox.dst=some t
    ·obtain⟨x,ox,hx,hxl,Qr⟩:=hex;rcases OF x ox t hx Qr with⟨oo,PT,QB,_⟩|⟨k,z,n,y,p⟩
     ·have hxn:x<ops.size:=(Tw.1 PT).1;have hxi:x<i:=by
       by_cases h1:x=i
       ·subst h1;rw[OC]at hxl;cases hxl
       ·by_cases h2:x<i
        ·exact h2
        ·have h3:=(cj hsl (show i<x by omega) ho PT).2 t QB ht;have h4:=hcl x i hxl hin h3;rw[OC]at h4;cases h4
      have h1:=M'.vO t x ox hx hxl Qr;rw[NS (x+1) i t Om Om (λk o' h2 h3 h4 h5=>huniq x ox hx k o' t Om h4 h5 Qr)];exact VR.mono (bA.xB _ (eI M'.len Om hi')) _ _ h1
     ·exact absurd p (hnp _ _ _ _ _)
    ·rw[NS 0 i t Om Om (λk o' h2 h3 h4 h5=>by
      rcases OF k o' t h4 h5 with⟨oo,PT,N6,_⟩|⟨k',z,n,y,p⟩
      ·have h6:=((cj hsl h3 PT ho).1 t N6).2 ht;exact hex ⟨k,o',h4,hahead k (Tw.1 PT).1 h6,h5⟩
      ·exact hnp _ _ _ _ _ p)]
     refine VR.mono ?_ _ _ (M'.vP t (λj o hj hl N6=>hex ⟨j,o,hj,hl,N6⟩));intro b e hb;have:=st.hr.bZ b e hb;unfold bA.cU;rw[Ty Om];exact M'.grow.le st.hr.bZ b e hb
   have S8:∀t,(∀k s z n x,¬bH ops l0 k s t z n x)->a1.tmps.getD t undef=ta.getD t undef:=λt hnp=>I.ag t λk s z n x p _ _=>hnp _ _ _ _ _ p
   have hTn:∀j,j<=l.length->a1.tmps.size=(T j).length:=λj hj=>by rw[I.size,M.size,hTl j hj]
   have PS:io.q=true->∃θ',i<θ'/\qb P l T H m w (λj=>listed.getD j false) β θ' m1 ta w1:=λPy=>by
    by_cases OD:i<θ
    ·exact⟨θ,OD,M⟩
    ·refine⟨i+1,Om,M.raise Om Om λj hj RF=>?_⟩;have QU:j<ops.size:=Om
     have SZ:l[j]? =some (l[j]'Om):=Tk Om;by_cases hji:j=i
     ·subst hji;rw[hio]at SZ;exact hq Py
     ·have hjs:listed.getD j false=false:=by
       cases hx:listed.getD j false with
       |false=>rfl
       |true=>have:=M.high j hx;omega
      cases hb:fw (Region.before ops) ops.size j with
      |true=>
       have h1:=(lZ hb hin (λx=>hji x.symm)).2 Om;have h2:=hahead j QU h1;rw[hjs]at h2;cases h2
      |false=>exact(hrow.step j _ SZ).2 (hqt j _ SZ hb)
   have hih:∀(β2 Sx:Nat) (m2:bA) (ta2:Array Value) (a2:Act) (w2:World),qb P l T H m w (mark (λj=>listed.getD j false) i) β2 Sx m2 ta2 w2->nj ops l0 w (mark (λj=>listed.getD j false) i) ta2 a2.tmps m2 w2->a2.defers=a1.defers->
     wpAnyIn (Fd ro) 0 P .any ops Q fuel (listed.setIfInBounds i true) a2 w2:=λβ2 Sx m2 ta2 a2 w2 M2 I2 hd2=>
    ih (listed.setIfInBounds i true) β2 Sx m2 ta2 a2 w2 (by simpa using NT) QF Pm (by rw[wi Om];exact M2) (by rw[wi Om];exact I2) (hd2.trans hd)
   rcases RJ i io hio with⟨k,t,z,n,x,p,e⟩|⟨s,t,z,n,x,p,e⟩|⟨⟨o',ho',NQ⟩,n1,n2⟩
   ·
    subst e;obtain⟨os,hos,hosd,NQ⟩:=hps p;rw[ho]at hos;cases hos;obtain⟨ok,QI,N7,_⟩:=SP p;have Rh:listed.getD k false=true:=hahead k (dq QI) (((cj hsl p.ks QI ho).1 t N7).2 (hlooks ho p.lt));have hpend:=I.pd _ _ _ _ _ _ p Rh OC;obtain⟨cb,d,cc,el,fz,Pk,hheap,NU,hfz,hcon,SG,hout⟩:=hpend;obtain⟨θ',OD,M'⟩:=PS rfl;have O7:=M'.cut hG Pb (Nat.le_of_lt OD);obtain⟨X,hX1,hX2,Qf,Tb,hTs⟩:∃X:List AV,X=(val (T i) x).cells/\(X.all AV.one=true/\X.length=n)/\t<(T i).length/\H (i+1)=H i++[.cells X true false]/\T (i+1)=put (T i) (some t) (.ptr (H i).length 0):=by
     generalize H (i+1)=H1 at bp;generalize T (i+1)=T1 at bp;cases bp with
     |run hw hb hs=>
      have hs:cN (.lX n x) (val (T i)) (H i)=some (_,_):=hs;simp only[cN]at hs;split at hs
      case isFalse=>cases hs
      rename_i NX;cases hs;exact⟨_,rfl,NX,hb,rfl,rfl⟩
     |skip hw=>exact absurd trivial hw
    have hr1:=O7.Jp hheap hfz (λb e he=>hout b e (bA.dQ _ _ _ _ he)) NU (λj y hy=>by
     obtain⟨h1,v,h2,h3⟩:=hcon j y hy;exact⟨h1,v,h2,h3 _⟩)
    generalize hmc:(m1.cU (H i).length).add (H i).length ⟨cb,d,cc.size,true⟩=mc at hr1;have RC:mc (H i).length=some ⟨cb,d,cc.size,true⟩:=by rw[<-hmc];simp[bA.add]
    have QM:∀b,b≠(H i).length->mc b=(m1.cU (H i).length) b:=λb hb=>by rw[<-hmc];unfold bA.add;rw[Tt hb]
    have hmcl:(m1.cU (H i).length).le mc:=λb e he=>by
     by_cases hb:b=(H i).length
     ·subst hb;have:=O7.bZ _ _ he;omega
     ·rw[QM b hb];exact he
    have Qd:val (put (T i) (some t) (.ptr (H i).length 0)) x=val (T i) x:=by
     cases x with
     |t u=>
      have hut:=(p.xt u rfl).1;simp only[val];exact uM (λe=>hut (Ug e).symm)
     |_=>rfl
    have hvt:val (put (T i) (some t) (.ptr (H i).length 0)) (.t t)=.ptr (H i).length 0:=by
     simp only[val,put,List.getD];rw[T2 Qf];rfl
    have hzl:z.cells.length=X.length:=by rw[p.zn,hX2.2]
    have SY:cQ P {dst:=none,k:=.store n (.t t) x,gd:=none,q:=true} (put (T i) (some t) (.ptr (H i).length 0)) (H i++[.cells z.cells true false]) (put (T i) (some t) (.ptr (H i).length 0)) (H (i+1)):=by
     refine cQ.run (v:=ar) trivial trivial ?_;show cN (.store n (.t t) x) _ _=some (ar,H (i+1));simp only[cN,hvt,Qd];rw[To (Ts _),Uf];show(if(val (T i) x).cells.length=n/\(val (T i) x).cells.all AV.one=true/\0+n<=z.cells.length then some (ar,(H i++[ai.cells z.cells true false]).set (H i).length (.cells (eJ z.cells 0 (val (T i) x).cells) true false))else none)=_;rw[<-hX1,Ty ⟨hX2.2,hX2.1,by rw[p.zn];omega⟩];have bo:=oN X z.cells [] hzl;rw[UP,UP,Tr]at bo;rw[bo,Ub _ _ (Ts _),Uf,Tb];rfl
    refine ee ho NQ hr1.gv hr1 (by rw[kO];exact hTn i Om) (λu hu=>?_) SY ro _ Q ?_
    ·by_cases hut:u=t
     ·subst hut;have:(put (T i) (some u) (AV.ptr (H i).length 0)).getD u ar=.ptr (H i).length 0:=hvt;rw[this,Pk];exact⟨_,RC,by rw[TZ]⟩
     ·have hnp:∀k s z n x,¬bH ops l0 k s u z n x:=λk' s' z' n' x' p'=>by
       have e:=hpt ho hu _ _ _ _ _ p';exact hut ((U _ _ _ _ _ _ _ _ _ _ _ _ p' p).2.2.1 e.symm)
      rw[uM (λe=>hut (Ug e).symm),S8 u hnp];exact VR.mono hmcl _ _ (hslot β θ' M' (Nat.le_of_lt OD) u hu hnp)
    ·intro cv v m' w' _ _ hr' NY;have hlen1:(H i++[ai.cells z.cells true false]).length=(H i).length+1:=Si
     have QS:(H (i+1)).length=(H i).length+1:=by rw[Tb];simp
     have SS:∀b,b<(H i).length+1->m' b=mc b:=λb hb=>NY.ext b (by rw[hlen1];exact hb)
     have SU:m' (H i).length=some ⟨cb,d,cc.size,true⟩:=by rw[SS _ Om];exact RC
     have R7:∀b e,(H i).length<=b->m' b=some e->b=(H i).length/\e=⟨cb,d,cc.size,true⟩:=λb e hb he=>by
      have h1:=hr'.bZ b e he;rw[QS]at h1;have:b=(H i).length:=Om
      subst this;rw[SU]at he;cases he;exact⟨rfl,rfl⟩
     have M2:=M'.DF hG Pb OD OC hio hr' (λb hb=>by rw[SS b Om,QM b Om])
      (λb e hb he=>by
       obtain⟨_,rfl⟩:=R7 b e hb he;exact⟨rfl,SG,λb' e' h=>hout b' e' h⟩)
      (λy hy h1 h2=>NY.frame y hy λb e he ho' hcb=>by
       by_cases hb:b=(H i).length
       ·subst hb;rw[RC]at he;cases he;exact h2 _ _ (Ts _) SU hcb
       ·rw[QM b hb]at he;exact h1 b e he ho' hcb)
      NY.size NY.os NY.out NY.tape (v:=.ptr (H i).length 0) (cv:=a1.tmps.getD t undef) (by rw[Pk];exact⟨_,SU,by rw[TZ]⟩) hTs (hTl i Om) (huniq i _ hio)
     have SN:a1.put o.dst cv=a1:=by rw[hosd];rfl
     rw[SN];refine hih _ _ _ _ a1 w' M2 (I.fill U p (by rw[hTn i Om];exact Qf) (λzc c hne q=>?_) Rh OC) rfl;refine q.move (λQ6 d' hc hlt h7=>?_) (λQ6 d' hc hlt h7 b e he=>?_)
     ·refine NY.frame Q6 hlt λb e he _ hcb=>?_
      by_cases hb:b=(H i).length
      ·subst hb;rw[RC]at he;cases he;exact hne _ _ _ _ hc Pk hcb.symm
      ·rw[QM b hb]at he;exact h7 b e (bA.dQ _ _ _ _ he) hcb
     ·unfold bA.patch at he;split at he
      ·rename_i hb;by_cases hbl:b<(H i).length
       ·rw[SS b Om,QM b Om]at he;exact h7 b e (bA.dQ _ _ _ _ he)
       ·obtain⟨_,rfl⟩:=R7 b e Om he
        exactλhcb=>hne _ _ _ _ hc Pk hcb.symm
      ·exact h7 b e he
   ·
    subst e;obtain⟨ok,QI,N7,NQ⟩:=SP p;rw[ho]at QI;cases QI;obtain⟨os,hos,_⟩:=hps p;have hss:listed.getD s false=false:=by
     cases hx:listed.getD s false with
     |false=>rfl
     |true=>
      have:=hcl s i hx hin (((cj hsl p.ks ho hos).1 t N7).2 (hlooks hos p.lt));rw[OC]at this;cases this
    obtain⟨θ',OD,M'⟩:=PS rfl;have O7:=M'.cut hG Pb (Nat.le_of_lt OD);have Qf:t<(T i).length:=by
     have hsl':s<l.length:=by rw[hlen];exact dq hos
     have O9:l[s]? =some l[s]:=Tk hsl';have Ob:=(hrow.step s _ O9).1;rcases RJ s _ O9 with⟨k',t',z',n',x',p',e⟩|⟨s',t',z',n',x',p',e⟩|⟨_,n1,_⟩
     ·have e2:=(U _ _ _ _ _ _ _ _ _ _ _ _ p p').2.2.1 rfl;subst e2;rw[e]at Ob;generalize H (s+1)=H1 at Ob;generalize T (s+1)=T1 at Ob;have:t<(T s).length:=by
       cases Ob with
       |run hw hb hs=>exact hb
       |skip hw=>exact absurd trivial hw
      rw[hTl s Om]at this;rw[hTl i Om];exact this
     ·exact absurd rfl ((U _ _ _ _ _ _ _ _ _ _ _ _ p' p).2.2.2)
     ·exact absurd p (n1 _ _ _ _ _)
    have hHk:H (i+1)=H i/\T (i+1)=T i:=by
     generalize H (i+1)=H1 at bp;generalize T (i+1)=T1 at bp;cases bp with
     |run hw hb hs=>
      have hs:cN (.dw (.c (.bool false))) (val (T i)) (H i)=some (_,_):=hs;simp only[cN]at hs;cases hs;exact⟨rfl,rfl⟩
     |skip hw=>exact absurd trivial hw
    have SY:cQ P {dst:=some t,k:=.box (.c z),gd:=none,q:=true} (T i) (H i) (put (T i) (some t) (.ptr (H i).length 0)) (H i++[.cells z.cells true false]):=by
     refine cQ.run (v:=.ptr (H i).length 0) trivial trivial ?_;exact Ty (show(val (T i) (.c z)).cells.all AV.one=true from TM.2 λy hy=>Aq (TM.1 p.zc y hy))
    refine ee ho NQ O7.gv O7 (hTn i Om) (λu hu=>?_) SY ro _ Q ?_
    ·have hnp:∀k s z n x,¬bH ops l0 k s u z n x:=λk' s' z' n' x' p'=>by
      have e:=hpt ho hu _ _ _ _ _ p';exact(U _ _ _ _ _ _ _ _ _ _ _ _ p p').2.2.2 e
     rw[S8 u hnp];exact hslot β θ' M' (Nat.le_of_lt OD) u hu hnp
    ·intro cv v m' w' OT OV hr' NY;have hv:v=.ptr (H i).length 0:=by
      rw[N7]at OT;have:=TO (λl:TS=>l[t]?) OT;simp only[put]at this;rw[T2 Qf,T2 Qf]at this;exact(Ug this).symm
     subst hv;obtain⟨e,he,Pk⟩:=OV;obtain⟨cc,el,fz,On,Ol,hb3,hb4,hb5⟩:=hr'.dx _ e _ he (by rw[To (Ts _),Uf];rfl);obtain⟨hown,hex⟩:=hb5 (.inl rfl);have hex:=hex rfl;obtain⟨_,hnew⟩:=NY.new _ e (Ts _) he;have hfar:w1.heap.size<=e.cb:=by
      rcases hnew with hnew|⟨b0,e0,c1,_,_,c4,c5⟩
      ·exact hnew
      ·have:=O7.bZ b0 e0 c1;unfold dt at c4 c5;rw[Tj this]at c5;rw[c5]at c4;cases c4
     rw[TZ]at Pk;have Qw:=O7.forget hr' NY;have PB:=NY.forget;have M2:=M'.next hG Pb OD OC hio (m1:=m'.cU (H i).length) (w1:=w') (by rw[hHk.1];exact Qw) (by rw[hHk.1];exact PB) (v:=.bool false) (cv:=.bool false) rfl (by rw[hHk.2];rfl) (hTl i Om) (huniq i _ hio);have hin2:∀b e',((m'.cU (H i).length).patch m1 (H (i+1)).length) b=some e'->m1 b=some e':=λb e' h=>by
      unfold bA.patch at h;split at h
      ·have hbl:b<(H i).length:=by
        unfold bA.cU at h;split at h
        ·assumption
        ·cases h
       rw[PB.ext b hbl]at h;exact bA.dQ _ _ _ _ h
      ·exact h
     have hp2:∀zc c,jn m1 w w1 zc c->jn ((m'.cU (H i).length).patch m1 (H (i+1)).length) w w' zc c:=λzc c q=>q.move
      (λQ6 d' _ hlt h7=>NY.frame Q6 hlt λb e' h _=>h7 b e' (bA.dQ _ _ _ _ h)) (λQ6 d' _ hlt h7 b e' h=>h7 b e' (hin2 b e' h))
     have SN:(a1.put o.dst cv).tmps=fB a1.tmps (some t) cv:=by rw[N7];rfl
     refine hih _ _ _ _ (a1.put o.dst cv) w' M2 ?_ (put_defers ..);rw[SN];show nj ops l0 w _ (fB ta ES.dst _) _ _ _;refine I.make U p (by rw[hTn i Om];exact Qf) hss ?_ (λQ6 d' h=>?_) hp2
     ·refine⟨e.cb,e.d,cc,el,fz,Pk,On,Om,(hb4 hown).2,λj y hy=>?_,Ur M.grow.size hfar,λb e' h=>?_⟩
      ·obtain⟨h1,v,h2,h3⟩:=hb3 j y hy;exact⟨h1,v,h2,Ck (TM.1 p.zc y (T6 hy)) h3⟩
      ·have:=M.hr.lt b e' (hin2 b e' h);omega
     ·rw[Pk]at h;cases h;exact hfar
   ·
    rw[ho]at ho';cases ho';obtain⟨S4,hioq⟩:=cM NQ;have hnp:∀t,t∈o.looksAt ops->∀k s z n x,¬bH ops l0 k s t z n x:=λt ht k s z n x p=>by
     have:=hpt ho ht k s z n x p;subst this;exact n1 _ _ _ _ _ p
    have Pe:∀k s t z n x,bH ops l0 k s t z n x->io.dst≠some t:=λk s t z n x p hx=>by
     obtain⟨ok,h1,h2,_⟩:=SP p;have e:=hdU _ _ _ _ _ h1 ho h2 (by rw[<-S4];exact hx);subst e;exact n2 _ _ _ _ _ p
    have NF:∀(β' θ':Nat),qb P l T H m w (λj=>listed.getD j false) β' θ' m1 ta w1->β'<=i->i<=θ'->
      (∀cv v m' w',T (i+1)=put (T i) io.dst v->VR m' v cv->HR P m' (H (i+1)) w'->Grow (m1.cU (H i).length) (H i) w1 m' (H (i+1)) w'->∃β2 Sx m2,qb P l T H m w (mark (λj=>listed.getD j false) i) β2 Sx m2 (fB ta io.dst cv) w'/\∀zc c,jn m1 w w1 zc c->jn m2 w w' zc c)->
      wpOpIn (Fd ro) 0 P ops Q i (wpAnyIn (Fd ro) 0 P .any ops Q fuel (listed.setIfInBounds i true)) a1 w1:=by
     intro β' θ' M' hb' hi' QJ;have O7:=M'.cut hG hb' hi';refine ee ho NQ O7.gv O7 (hTn i Om) (λt ht=>?_) bp ro _ Q ?_
     ·rw[S8 t (hnp t ht)];exact hslot β' θ' M' hi' t ht (hnp t ht)
     ·intro cv v m' w' OT OV hr' NY;obtain⟨β2,Sx,m2,M2,hp2⟩:=QJ cv v m' w' (by rw[S4];exact OT) OV hr' NY;have:(a1.put o.dst cv).tmps=fB a1.tmps io.dst cv:=by rw[S4];cases o.dst<;>rfl
      exact hih β2 Sx m2 _ _ w' M2 (by rw[this];exact I.other n1 n2 Pe hp2) (put_defers ..)
    by_cases Py:io.q=true
    ·obtain⟨θ',OD,M'⟩:=PS Py;exact NF β θ' M' Pb Om λcv v m' w' OT OV hr' NY=>⟨β,θ',_,M'.next hG Pb OD OC hio hr' NY OV OT (hTl i Om) (huniq i io hio),λzc c q=>(q.grow NY).2⟩
    ·have hbar:fw (Region.before ops) ops.size i=true:=by
      rw[hioq]at Py
      simpa using Py
     have hall:∀j,j<i->listed.getD j false=true:=λj hj=>hahead j Om ((lZ hbar (show j<ops.size by omega) Om).1 hj)
     by_cases OD:i<θ
     ·exact NF β θ M Pb Om λcv v m' w' OT OV hr' NY=>⟨β,θ,_,M.next hG Pb OD OC hio hr' NY OV OT (hTl i Om) (huniq i io hio),λzc c q=>(q.grow NY).2⟩
     ·have hθi:θ=i:=by
       by_cases hz:i=0
       ·omega
       ·have:=M.high (i-1) (hall _ Om);omega
      subst hθi;exact NF β θ M Pb (Ts _) λcv v m' w' OT OV hr' NY=>⟨θ+1,θ+1,m',M.jump st.hr.bZ hall Om hio hr' NY OV OT (hTl θ Om) (huniq θ io hio),λzc c q=>(q.grow NY).1⟩
 have NN:∀j,(Array.replicate ops.size false).getD j false=false:=λj=>by
  exact JE
 refine key ops.size (Array.replicate ops.size false) 0 0 m a.tmps a _ Si ?_ (λj x hj _ _=>by simp[NN j]at hj) ?_ ?_ rfl
 ·exact JH
 ·refine⟨Ts _,TJ _,λj hj=>absurd hj Om,λj hj=>by simp[NN j]at hj,λj _ hj=>absurd hj Om,λj hj=>absurd hj Om,st.hr.drew,λj hj=>absurd hj Om,?_,λj _ hj=>absurd hj Om,
   (Grow.refl m _ w st.hr.bZ).drew,?_,?_,?_⟩
  ·intro i hi hi' b e k hb OB hk;have:i=0:=Om
   subst this;exact(st.hr.dx b e k OB hk).gh st.hr.bZ
  ·exact z105
  ·intro d _;exact lA st.ts d
  ·intro d j o _ hj _;simp only[NN j]at hj;cases hj
 ·exact⟨rfl,λ_ _=>rfl,λk s t z n x p hk=>by simp[NN k]at hk,λk s t z n x k' s' t' z' n' x' p p' hk=>by simp[NN k]at hk⟩
def EK{k}(hk:ec k=true){ρ h h' v}(hs:kI k ρ h v h'):h' =h/\∀g,kI k ρ g v g:=by
 cases k<;>first
  |(cases hk;done)
  |skip
 case conv c x=>
  cases c<;>first
   |(cases hk;done)
   |skip
  have hs:cN _ _ _=some (_,_):=hs;simp only[cN,iI]at hs;split at hs
  ·rename_i k n hx;cases hs;refine⟨rfl,λg=>?_⟩;show cN _ _ _=some (_,_);simp only[cN,iI,hx]
  ·cases hs
 case len lk x=>
  have e:lk≠.mp->∀g,xS lk g (ρ x)=xS lk h (ρ x):=λhl g=>by
   cases lk<;>first|exact absurd rfl hl|skip
   all_goals
    cases ρ x<;>first|rfl|(simp only[xS,reduceCtorEq,TT];repeat' split)<;>rfl
  have hl:lk≠.mp:=λe=>by rw[e]at hk;cases hk
  have hs:cN _ _ _=some (_,_):=hs;simp only[cN]at hs;split at hs
  ·rename_i n hn;cases hs;refine⟨rfl,λg=>?_⟩;show cN _ _ _=some (_,_);simp only[cN,e hl g,hn]
  ·cases hs
 all_goals
  have hs:cN _ _ _=some (_,_):=hs;simp only[cN]at hs
  repeat' split at hs
  all_goals first
   |(cases hs;done)
   |(cases hs
     refine⟨rfl,λg=>?_⟩;show cN _ _ _=some (_,_);simp only[cN, *]
     done)
   |(cases hs
     refine⟨rfl,λg=>?_⟩;show cN _ _ _=some (_,_);simp[cN, *]
     done)
def uO{P o}(hk:ec o.k=true){ts ts' h h'}(hs:cQ P o ts h ts' h'):h' =h/\∀g,cQ P o ts g ts' g:=by
 cases hs with
 | @run v h' hw hb hs=>
  have NI:kI o.k (val ts) h v h':=by
   cases Pg:o.k<;>rw[Pg]at hs hk<;>first|exact hs|(cases hk;done)
  obtain⟨rfl,h2⟩:=EK hk NI;refine⟨rfl,λg=>.run hw hb ?_⟩;have:=h2 g;cases Pg:o.k<;>rw[Pg]at this hk<;>first|exact this|(cases hk;done)
 |skip hw=>exact⟨rfl,λg=>.skip hw⟩
def uL{P o}(hk:bO o.k=true){ts ts' h h'}(hs:cQ P o ts h ts' h'):h' =h:=by
 by_cases hp:ec o.k=true
 ·exact(uO hp hs).1
 ·cases Pg:o.k with
  |load n a=>
   cases hs with
   |run hw hb hs=>
    rw[Pg]at hs;have hs:cN (.load n a) _ _=some (_,_):=hs;simp only[cN]at hs
    repeat' split at hs
    all_goals first
     |(cases hs;done)
     |(cases hs;rfl)
   |skip hw=>rfl
  |_=>rw[Pg]at hk hp;exact absurd hk hp
def CN{P o}(hk:jk o=true){ts ts' h h'}(hs:cQ P o ts h ts' h')(hq:o.q=true->∃g,h' =h++g):∃g,h' =h++g:=by
 by_cases hqq:o.q=true
 ·exact hq hqq
 have hk:AF o.k=true:=by
  have:o.q=false:=by simpa using hqq
  simpa [jk,this]using hk
 cases hs with
 |run hw hb hs=>
  cases Pg:o.k<;>rw[Pg]at hk hs<;>first|(cases hk;done)|skip
  case aD es n z ps=>
   have hs:kI (.aD es n z ps) _ _ _ _:=hs;obtain⟨c,mu,tl,_,_,_,_,e⟩:=hs;exact⟨_,e⟩
  all_goals
   have hs:cN _ _ _=some (_,_):=hs;simp only[cN]at hs
   repeat' split at hs
   all_goals first
    |(cases hs;done)
    |(cases hs;exact⟨_,rfl⟩)
 |skip hw=>exact⟨[],Si⟩
def zO{P o n a}(hk:o.k=.load n a){ts ts' h}(hs:cQ P o ts h ts' h)(g:af):cQ P o ts (h++g) ts' (h++g):=by
 generalize hh:h=h2 at hs;cases hs with
 | @run v _ hw hb hs=>
  subst hh;refine .run hw (by rw[hk];trivial) ?_;rw[hk]at hs ⊢;have hs:cN (.load n a) (val ts) h=some (v,h):=hs;show cN (.load n a) (val ts) (h++g)=some (v,h++g);simp only[cN]at hs ⊢;cases hv:val ts a with
  |ptr b off=>
   rw[hv]at hs;simp only at hs ⊢;cases Ol:h[b]? with
   |none=>rw[Ol]at hs;cases hs
   |some k=>
    rw[Tj (Th.1 Ol).1,Ol];rw[Ol]at hs;cases k with
    |cells c mu tl=>
     simp only at hs ⊢;cases n with
     |none=>
      simp only at hs ⊢;cases hc:c[off]? with
      |none=>rw[hc]at hs;cases hs
      |some x=>rw[hc]at hs;cases hs;rfl
     |some n=>
      simp only at hs ⊢;by_cases hlt:off+n<=c.length
      ·rw[Ty hlt]at hs ⊢;cases hs;rfl
      ·rw[Tt hlt]at hs;cases hs
    |_=>cases hs
  |_=>rw[hv]at hs;cases hs
 |skip hw=>subst hh;exact .skip hw
def HR.zw{P m h w}(hr:HR P m h w)(g:af):HR P m (h++g) w where
 bZ:=λb e hb=>by have:=hr.bZ b e hb;simp;omega
 dx:=λb e k hb hk=>hr.dx b e k hb (by rwa [Tj (hr.bZ b e hb)]at hk)
 sep:=λb1 b2 e1 e2 k1 k2 hne h1 h2 hk1 NG hcb=>hr.sep b1 b2 e1 e2 k1 k2 hne h1 h2 (by rwa [Tj (hr.bZ b1 e1 h1)]at hk1) (by rwa [Tj (hr.bZ b2 e2 h2)]at NG) hcb
 eZ:=hr.eZ
 lt:=hr.lt
def HR.E2{P m h g w}(hr:HR P m (h++g) w)(hd:∀b e,m b=some e->b<h.length):HR P m h w where
 bZ:=hd
 dx:=λb e k hb hk=>hr.dx b e k hb (by rw[Tj (hd b e hb)];exact hk)
 sep:=λb1 b2 e1 e2 k1 k2 hne h1 h2 hk1 NG hcb=>hr.sep b1 b2 e1 e2 k1 k2 hne h1 h2 (by rw[Tj (hd b1 e1 h1)];exact hk1) (by rw[Tj (hd b2 e2 h2)];exact NG) hcb
 eZ:=hr.eZ
 lt:=hr.lt
def gD{M l}(h:lM M l=true){i j x y}(hij:i<j)(hx:l[i]? =some x)(hy:l[j]? =some y)(px:ec x.k=false)(py:ec y.k=false)(lx:kC x=false)(ly:kC y=false)
  (hr:(bO x.k=false/\bO y.k=false)\/(bO x.k=false/\jk x=false)\/(bO y.k=false/\jk y=false)):ahead M i j=true:=by
 have hj:j<l.length:=(Th.1 hy).1;unfold lM at h;rw[TM]at h;have h1:=h j (Ud.2 hj);rw[TM]at h1;have h2:=h1 i (Ud.2 hij);rw[hx,hy]at h2;simp only[px,py,lx,ly,Vi]at h2;rcases hr with⟨a,b⟩|⟨a,b⟩|⟨a,b⟩<;>simpa [a,b]using h2
theorem wo:∀{l}{i}{o},l[i]? =some o->zP o=false->i<cV l
 |[],i,o,h,_=>by simp at h
 |x::r,i,o,h,hk=>by
  have hn:¬iW (x::r)=true:=λhall=>by
   have:=TM.1 (Bool.and_eq_true_iff.1 hall).1 o (T6 h);rw[hk]at this;cases this
  rw[cV,Tt hn];cases i with
  |zero=>omega
  |succ i=>have:=wo (l:=r) (i:=i) (by simpa using h) hk;omega
def nK{M l}(h:kU M l=true){i j x y}(hx:l[i]? =some x)(lx:kC x=true)(hy:l[j]? =some y)(ky:bO y.k=false)(hj:cV l<=j):ahead M i j=true:=by
 unfold kU at h;rw[TM]at h;have h1:=h i (Ud.2 (Th.1 hx).1);rw[hx]at h1;simp only[lx,TU,Vi,TM,Ud]at h1;have h2:=h1 j (Th.1 hy).1;rw[hy]at h2;have RF:¬j<cV l:=Om
 simpa [ky,RF]using h2
def oX{P cq}(hmix:P.follows .mixedOrders=true){ops l}(hed:jd (Region.before ops) ops=true)(hsl:jV (Region.before ops) ops=true)
  (hc:dC (λ_ o=>bj P ops (pY cq o) o) ops.toList 0=some l) (hmo:lM (Region.before ops) l=true) {T}{H}(hrow:Row P l T H) (hstab:∀(i:Nat) (io:aZ),l[i]? =some io->kC io=true->∀θ,θ<=cV l->cQ P io (T i) (H θ) (T (i+1)) (H θ)) (hlate:∀(i j:Nat) (x y:aZ),l[i]? =some x->kC x=true->l[j]? =some y->bO y.k=false->cV l<=j->ahead (Region.before ops) i j=true) {m}{a}{w}
  (st:St P m (T 0) (H 0) a w) (ro:Option Nat) (Q:Exit->Act->World->Prop) (hQ:∀m' a' w',St P m' (T l.length) (H l.length) a' w'->Grow m (H 0) w m' (H l.length) w'->a'.defers=a.defers->Q .normal a' w') (id:Nat):
  (Code.region id ops true).wpIn (Fd ro) 0 P Q a w:=by
 refine wpIn_region_any hmix ?_;obtain⟨NW,NO⟩:=fc hc;simp only[Vh]at NW;have Q0:∀(j:Nat) (io:aZ),l[j]? =some io->∃o,ops[j]? =some o/\bj P ops (pY cq o) o=some io:=λj io hj=>by
  exact z24
 have OF:∀(j:Nat) (io:aZ) (d:Nat),l[j]? =some io->io.dst=some d->∃o,ops[j]? =some o/\o.dst=some d:=λj io d hj hd=>by
  exact z59
 have huniq:∀(i j:Nat) (oi oj:aZ) (d:Nat),l[i]? =some oi->l[j]? =some oj->oi.dst=some d->oj.dst=some d->i=j:=λi j oi oj d hi hj h1 h2=>by
  exact z21
 have O0:∀(j:Nat) (io:aZ),l[j]? =some io->∃v,T (j+1)=put (T j) io.dst v:=λj io hj=>(hrow.step j io hj).1.put
 have hTl:∀j,j<=l.length->(T j).length=(T 0).length:=by
  intro j
  induction j with
  |zero=>intro _;rfl
  |succ j ih=>
   intro hj;exact J0
 have NS:∀x y t,x<=y->y<=l.length->(∀(j:Nat) (o:aZ),x<=j->j<y->l[j]? =some o->o.dst≠some t)->(T y).getD t ar=(T x).getD t ar:=by
  intro x y t hxy hy hno;exact MQ
 have P3:∀(j:Nat) (io:aZ),l[j]? =some io->bO io.k=true->H (j+1)=H j:=λj io hj hk=>uL hk (hrow.step j io hj).1
 have P4:∀x k,x+k<=l.length->(∀(j:Nat) (o:aZ),x<=j->j<x+k->l[j]? =some o->bO o.k=true)->H (x+k)=H x:=by
  intro x k
  induction k with
  |zero=>intro _ _;rfl
  |succ k ih=>
   intro hk hno;exact z46
 have So:∀x k,x+k<=l.length->(∀(j:Nat) (o:aZ),x<=j->j<x+k->l[j]? =some o->bO o.k=true\/jk o=true)->∃g,H (x+k)=H x++g:=by
  intro x k
  induction k with
  |zero=>intro _ _;exact⟨[],Si⟩
  |succ k ih=>
   intro hk hno;have hj:l[x+k]? =some (l[x+k]'Om):=Tk Om;obtain⟨g,hg⟩:=ih Om λj o h1 h2 h3=>hno j o h1 Om h3
   rcases hno _ _ Om Om hj with h1|h1
   ·exact⟨g,by rw[show x+(k+1)=x+k+1 from by omega,P3 _ _ hj h1,hg]⟩
   ·obtain⟨g2,Qv⟩:=CN h1 (hrow.step _ _ hj).1 (hrow.step _ _ hj).2;exact⟨g++g2,by rw[show x+(k+1)=x+k+1 from by omega,Qv,hg,Ti]⟩
 have Qn:∀x y,x<=l.length->y<=l.length->(∀(j:Nat) (o:aZ),l[j]? =some o->bO o.k=false->(j<x↔j<y))->H x=H y:=by
  intro x y hx hy hno;exact MU
 have hdone:∀(listed:Array Bool) (θ:Nat) (m1:bA) (a1:Act) (w1:World),(∀i,i<ops.size->listed.getD i false=true)->θ<=l.length->
   (∀(j:Nat) (o:aZ),l[j]? =some o->bO o.k=false->(j<θ↔listed.getD j false=true))->HR P m1 (H θ) w1->Grow m (H 0) w m1 (H θ) w1->a1.tmps.size=(T 0).length->
   (∀(d:Nat),(∀(j:Nat) (o:aZ),l[j]? =some o->listed.getD j false=true->o.dst≠some d)->VR m1 ((T 0).getD d ar) (a1.tmps.getD d undef))->
   (∀(d j:Nat) (o:aZ),l[j]? =some o->listed.getD j false=true->o.dst=some d->VR m1 ((T (j+1)).getD d ar) (a1.tmps.getD d undef))->a1.defers=a.defers->Q .normal a1 w1:=by
  intro listed θ m1 a1 w1 hall hθ hS hr hg dq h1 h2 hd;have e:=Qn θ l.length hθ (Ts _) λj o hj hk=>by
   have QU:=(Th.1 hj).1;have:=(hS j o hj hk).2 (hall j Om);omega
  rw[e]at hr hg;refine hQ m1 a1 w1 ⟨hr,bY.fF ?_ ?_⟩ hg hd
  ·exact Eg
  ·intro t x hx;exact MZ
 have key:∀(fuel:Nat) (listed:Array Bool) (θ:Nat) (m1:bA) (a1:Act) (w1:World),listed.size=ops.size->oD listed ops.size<=fuel->
   (∀j x,listed.getD j false=true->x<ops.size->ahead (Region.before ops) x j=true->listed.getD x false=true)->θ<=l.length->(θ<=cV l\/∃(j:Nat) (o:aZ),l[j]? =some o/\bO o.k=false/\cV l<=j/\j<θ)->
   (∀(j:Nat) (o:aZ),l[j]? =some o->bO o.k=false->(j<θ↔listed.getD j false=true))->HR P m1 (H θ) w1->Grow m (H 0) w m1 (H θ) w1->a1.tmps.size=(T 0).length->
   (∀(d:Nat),(∀(j:Nat) (o:aZ),l[j]? =some o->listed.getD j false=true->o.dst≠some d)->VR m1 ((T 0).getD d ar) (a1.tmps.getD d undef))->
   (∀(d j:Nat) (o:aZ),l[j]? =some o->listed.getD j false=true->o.dst=some d->VR m1 ((T (j+1)).getD d ar) (a1.tmps.getD d undef))->a1.defers=a.defers->wpAnyIn (Fd ro) 0 P .any ops Q fuel listed a1 w1:=by
  intro fuel
  induction fuel with
  |zero=>
   intro listed θ m1 a1 w1 NT hu hcl hθ hL hS hr hg dq h1 h2 hd;have hall:=jz ops.size (show oD listed ops.size=0 by omega);exact⟨jY NT hall,hdone listed θ m1 a1 w1 hall hθ hS hr hg dq h1 h2 hd⟩
  |succ fuel ih=>
   intro listed θ m1 a1 w1 NT hu hcl hθ hL hS hr hg dq h1 h2 hd;refine⟨λhrn=>hdone listed θ m1 a1 w1 (jX hed NT hrn) hθ hS hr hg dq h1 h2 hd,λi hi=>?_⟩;obtain⟨o,ho,OC,RH⟩:=(gp NT).1 hi;have hin:i<ops.size:=(Tw.1 ho).1;obtain⟨io,hio,NQ⟩:=NO i o (by simpa using ho);obtain⟨bp,_⟩:=hrow.step i io hio;have hahead:∀x,x<ops.size->ahead (Region.before ops) x i=true->listed.getD x false=true:=λx hx ha=>by
    exact z28
   have Pm:∀j x,(listed.setIfInBounds i true).getD j false=true->x<ops.size->ahead (Region.before ops) x j=true->(listed.setIfInBounds i true).getD x false=true:=by
    intro j x hj hx ha;exact JG
   have QF:oD (listed.setIfInBounds i true) ops.size<=fuel:=by
    exact JC
   have hslot:∀t,t∈o.looksAt ops->VR m1 ((T i).getD t ar) (a1.tmps.getD t undef):=by
    intro t ht;exact M0
   have hrp:∀{k:mD},bO k=false->ec k=false:=λ{k} hk=>by
    cases k<;>first|exact hk|(cases hk;done)
   have hld:∀{o:aZ},bO o.k=false->kC o=false:=λ{o} hk=>by
    exact z127
   have hne:∀j,j≠i->(listed.setIfInBounds i true).getD j false=listed.getD j false:=λj hj=>by rw[cE Om,Tt hj]
   have Rt:bO io.k=true->∀(j:Nat) (o:aZ),l[j]? =some o->bO o.k=false->(j<θ↔(listed.setIfInBounds i true).getD j false=true):=λON j oj hj hk=>by
    have hji:j≠i:=λe=>by
     subst e;rw[hio]at hj;cases hj;rw[ON]at hk;cases hk
    rw[hne j hji];exact hS j oj hj hk
   have Od:∃θ',θ'<=l.length/\(θ'<=cV l\/∃(j:Nat) (o:aZ),l[j]? =some o/\bO o.k=false/\cV l<=j/\j<θ')/\(∀(j:Nat) (o:aZ),l[j]? =some o->bO o.k=false->(j<θ'↔(listed.setIfInBounds i true).getD j false=true))/\∃hb h2,HR P m1 hb w1/\cQ P io (T i) hb (T (i+1)) h2/\
     ∀m' w',HR P m' h2 w'->Grow m1 hb w1 m' h2 w'->HR P m' (H θ') w'/\Grow m1 (H θ) w1 m' (H θ') w':=by
    by_cases hp:ec io.k=true
    ·have ON:bO io.k=true:=by cases Pg:io.k<;>rw[Pg]at hp<;>first|exact hp|(cases hp;done)
     exact⟨θ,hθ,hL,Rt ON,H θ,H θ,hr,(uO hp bp).2 _,λm' w' a b=>⟨a,b⟩⟩
    ·have R6:ec io.k=false:=by simpa using hp
     by_cases Px:kC io=true
     ·have ON:bO io.k=true:=by
       cases Pg:io.k<;>simp[kC,Pg]at Px<;>rfl
      have hθc:θ<=cV l:=by
       rcases hL with h|⟨j,oj,h1,h2,h3,h4⟩
       ·exact h
       ·have e:=hcl j i ((hS j oj h1 h2).1 h4) hin (hlate i j io oj hio Px h1 h2 h3);rw[OC]at e;cases e
      exact⟨θ,hθ,hL,Rt ON,H θ,H θ,hr,hstab i io hio Px θ hθc,λm' w' a b=>⟨a,b⟩⟩
     have Px:kC io=false:=by simpa using Px
     by_cases ON:bO io.k=true
     ·obtain⟨n,ad,Pg⟩:∃n ad,io.k=.load n ad:=by
       cases Pg:io.k with
       |load n ad=>exact⟨n,ad,rfl⟩
       |_=>rw[Pg]at ON hp;exact absurd ON hp
      have hHh:∀(j:Nat) (o:aZ),l[j]? =some o->bO o.k=false->jk o=false->(j<θ↔j<i):=λj oj hj hk NG=>by
       have QU:=(Th.1 hj).1;constructor
       ·intro QT;have Ph:=(hS j oj hj hk).1 QT;by_cases e1:j=i
        ·exact z148
        ·by_cases e2:j<i
         ·exact e2
         ·have e3:=gD hmo (show i<j by omega) hio hj R6 (hrp hk) Px (hld hk) (.inr (.inr ⟨hk,NG⟩));have e4:=hcl j i Ph hin e3;rw[OC]at e4;cases e4
       ·intro hji;exact(hS j oj hj hk).2 (hahead j Om (gD hmo hji hj hio (hrp hk) R6 (hld hk) Px (.inr (.inl ⟨hk,NG⟩))))
      have PQ:cQ P io (T i) (H i) (T (i+1)) (H i):=by
       have e:=uL ON bp;rw[e]at bp;exact bp
      by_cases OD:i<=θ
      ·obtain⟨g,Qv⟩:=So i (θ-i) Om λj oj h1 h2 h3=>by
        exact z70
       rw[show i+(θ-i)=θ from by omega]at Qv;refine⟨θ,hθ,hL,Rt ON,H θ,H θ,hr,?_,λm' w' a b=>⟨a,b⟩⟩;rw[Qv];exact zO Pg PQ g
      ·obtain⟨g,Qv⟩:=So θ (i-θ) Om λj oj h1 h2 h3=>by
        exact z70
       rw[show θ+(i-θ)=i from by omega]at Qv;rw[Qv]at PQ;refine⟨θ,hθ,hL,Rt ON,H θ++g,H θ++g,hr.zw g,PQ,λm' w' a b=>?_⟩;have hm:m' =m1:=by
        funext z;by_cases hz:z<(H θ++g).length
        ·exact b.ext z hz
        ·have e1:m1 z=none:=by
          cases hx:m1 z with
          |none=>rfl
          |some e=>exact absurd ((hr.zw g).bZ z e hx) hz
         have e2:m' z=none:=by
          cases hx:m' z with
          |none=>rfl
          |some e=>exact absurd (a.bZ z e hx) hz
         rw[e1,e2]
       subst hm;exact⟨a.E2 hr.bZ,⟨λ_ _=>rfl,Ts _,λz e hz hmz=>absurd (hr.bZ z e hmz) Om,λ_ _ x=>x,b.size,b.os,b.out,b.tape,b.frame⟩⟩
     ·have OW:bO io.k=false:=by simpa using ON
      have hHi:H θ=H i:=Qn θ i hθ Om λj oj hj hk=>by
       have QU:=(Th.1 hj).1;constructor
       ·intro QT;have Ph:=(hS j oj hj hk).1 QT;by_cases e1:j=i
        ·exact z148
        ·by_cases e2:j<i
         ·exact e2
         ·exact MB
       ·intro hji;exact(hS j oj hj hk).2 (hahead j Om (gD hmo hji hj hio (hrp hk) R6 (hld hk) Px (.inl ⟨hk,OW⟩)))
      refine⟨i+1,Om,(by by_cases hc:i+1<=cV l;exact .inl hc;exact .inr ⟨i,io,hio,OW,Om,Om⟩),λj oj hj hk=>?_,H θ,H (i+1),hr,by rw[hHi];exact bp,λm' w' a b=>⟨a,b⟩⟩;have QU:=(Th.1 hj).1;by_cases e1:j=i
      ·subst e1;rw[cE Om,Ty rfl];exact⟨λ_=>rfl,λ_=>by omega⟩
      ·rw[hne j e1];constructor
       ·intro hji;exact hahead j Om (gD hmo (show j<i by omega) hj hio (hrp hk) R6 (hld hk) Px (.inl ⟨hk,OW⟩))
       ·intro Ph;by_cases e2:j<i
        ·omega
        ·exact MB
   obtain⟨θ',SE,Rl,hS',hb,h2',Ru,PQ,OZ⟩:=Od;refine ee ho NQ Ru.gv Ru (by rw[dq,hTl i Om]) hslot PQ ro _ Q ?_;intro cv v' m' w' OT OV hrx hgx;obtain⟨hr',NY⟩:=OZ m' w' hrx hgx;have N6:io.dst=o.dst:=(cM NQ).1;have PL:=NY.le hr.bZ;have hlt:(listed.setIfInBounds i true).getD i false=true:=by rw[cE Om,Ty rfl]
   have Qe:(a1.put o.dst cv).tmps=fB a1.tmps o.dst cv:=by cases o.dst<;>rfl
   refine ih _ θ' m' (a1.put o.dst cv) w' (by simp[NT]) QF Pm SE Rl hS' hr' (hg.trans NY st.hr.bZ) (by rw[Qe,dK];exact dq) ?_ ?_ (by rw[put_defers];exact hd)
   ·intro d hdn;have Pe:o.dst≠some d:=by rw[<-N6];exact hdn i io hio hlt
    rw[Qe,cR Pe];refine VR.mono PL _ _ (h1 d λj oj hj hl=>hdn j oj hj ?_);exact JD
   ·intro d j oj hj hl Ql;by_cases e1:j=i
    ·subst e1;rw[hio]at hj;cases hj;rw[OT,Qe,<-N6,Ql];exact jD (by rw[dq,hTl j Om]) OV
    ·have Pe:o.dst≠some d:=λhx=>by
      exact JT
     rw[Qe,cR Pe];rw[hne j e1]at hl;exact VR.mono PL _ _ (h2 d j oj hj hl Ql)
 have NN:∀j,(Array.replicate ops.size false).getD j false=false:=λj=>by
  exact JE
 refine key ops.size (Array.replicate ops.size false) 0 m a _ Si ?_ (λj x hj _ _=>by simp[NN j]at hj) (TJ _) (.inl (TJ _)) (λj oj hj hk=>⟨λhx=>absurd hx Om,λhx=>by simp[NN j]at hx⟩) st.hr.drew (Grow.refl m _ w st.hr.bZ).drew ?_ (λd _=>lA st.ts d) (λd j o _ hj _=>by simp[NN j]at hj) rfl
 ·exact JH
 ·exact z105
section
variable {P:Program}{m m':bA}{h h':af}{w w':World}
def s8{ops i o}(ho:ops[i]? =some o){q io}(hc:bj P ops q o=some io)(hgd0:io.gd=none){ts a v}
  (hg:GV P m) (hr:HR P m h w) (ht:∀t,t∈o.looksAt ops->VR m (ts.getD t ar) (a.tmps.getD t undef)) (hs:nn P io.k (val ts) h v h') (ro:Option Nat) (K:Act->World->Prop) (Q:Exit->Act->World->Prop)
  (hn:∀cv m' w',VR m' v cv->HR P m' h' w'->Grow m h w m' h' w'->K (a.put o.dst cv) w'):wpOpIn (Fd ro) 0 P ops Q i K a w:=by
 unfold bj at hc;split at hc
 case h_2=>cases hc
 rename_i g Pz;cases hc;have hg0:g=none:=hgd0;subst hg0;have hw:=oB (m:=m) (ts:=ts) (a:=a) Pz (λt b Qk=>by cases Qk);unfold wpOpIn;rw[ho];simp only;rw[Ty (hw.2 trivial)];simp only at hs;split at hs
 case isFalse=>exact absurd hs l9
 rename_i hgok;cases hk:de P o with
 |none=>rw[hk]at hs;exact absurd hs l9
 |some k=>
  rw[hk]at hs;refine sZ hk (λx hx x' NL=>?_) (λz=>rfl) hr hs ro K Q (λcv m' w' h1 h2 h3=>hn cv m' w' h1 h2 h3);exact z51
def yd{n x}(h:vk x=true):gh n x:=by
 cases x<;>first
  |(cases h;done)
  |skip
 case bool b=>exact⟨λ_=>none,_,(λ_ _ z=>by cases z),rfl⟩
 case int k b=>exact⟨λ_=>none,_,(λ_ _ z=>by cases z),rfl⟩
 case ug k b=>exact⟨λ_=>none,.float k b,(λ_ _ z=>by cases z),⟨b,rfl,.inl rfl⟩⟩
 case tU k a b=>exact⟨λ_=>none,.complex k a b,(λ_ _ z=>by cases z),⟨a,b,rfl,.inl rfl,.inl rfl⟩⟩
 all_goals exact⟨λ_=>none,_,(λ_ _ z=>by cases z),rfl⟩
def vm{n x}(h:gh n x):∀y∈x.cells,gh n y:=by
 obtain⟨ma,va,h1,h2⟩:=h;intro y hy;obtain⟨i,hi,rfl⟩:=VA hy;obtain⟨v,_,hv⟩:=h2.cells.get (Tk hi);exact⟨ma,v,h1,hv⟩
theorem sF:∀{l c}{o}{x},x∈eJ c o l->x∈c\/x∈l
 |[],c,o,x,h=>.inl h
 |y::l,c,o,x,h=>by
  have h:x∈eJ (c.set o y) (o+1) l:=h;rcases sF h with h|h
  ·rcases Va h with h|h
   ·exact .inl h
   ·exact .inr (by rw[h];simp)
  ·exact .inr (TK _ h)
theorem pz{n}:∀{ps}{z c},(∀x∈z,gh n x)->(∀p∈ps,gh n p.2.2)->dA z ps=some c->∀x∈c,gh n x
 |[],z,c,hz,_,h,x,hx=>by cases h;exact hz x hx
 |(off,k,v)::r,z,c,hz,hp,h,x,hx=>by
  rw[dA]at h;split at h
  ·refine pz (λy hy=>?_) (λp hq=>hp p (TK _ hq)) h x hx;rcases sF hy with hy|hy
   ·exact hz y hy
   ·exact vm (hp (off,k,v) Si) y hy
  ·cases h
theorem sd:∀{n}{z}{x},x∈cZ n z->x∈z
 | 0,z,x,h=>by simp[cZ]at h
 |n+1,z,x,h=>by
  have h:x∈z++cZ n z:=h;rcases Tn.1 h with h|h
  ·exact h
  ·exact sd h
def zB(gr:Grow m h w m' h' w')(hd:∀b e,m b=some e->b<h.length){e k}(hk:k.live=true)(hb:BR P m w e k)(hout:∀b e',m b=some e'->e'.cb≠e.cb):BR P m' w' e k/\∀b e',m' b=some e'->e'.cb≠e.cb:=by
 have hlt:=hb.lt hk;refine⟨(hb.heap (gr.frame e.cb hlt λb e' he _=>hout b e' he)).mono (gr.le hd),λb e' he=>?_⟩;by_cases hbl:b<h.length
 ·rw[gr.ext b hbl]at he;exact hout b e' he
 ·obtain⟨_,hc⟩:=gr.new b e' Om he;rcases hc with hc|⟨b0,e0,c1,c2,_⟩
  ·omega
  ·rw[<-c2];exact hout b0 e0 c1
def HR.vA(hr:HR P m h w){e k}(hk:k.live=true)(hb:BR P m w e k)(hout:∀b e',m b=some e'->e'.cb≠e.cb):HR P (m.add h.length e) (h++[k]) w:=by
 have OA:m h.length=none:=by
  exact JF
 have hle:m.le (m.add h.length e):=bA.pK _ OA;have NR:∀b e',(m.add h.length e) b=some e'->(b=h.length/\e' =e)\/(b<h.length/\m b=some e'):=λb e' OS=>by
  exact MG
 refine⟨λb e' OS=>?_,λb e' k' OS hk'=>?_,λb1 b2 e1 e2 k1 k2 hne h1 h2 hk1 NG hcb=>?_,λg hg=>?_,λb e' OS=>?_⟩
 ·rw[Tg];rcases NR b e' OS with⟨rfl,_⟩|⟨hlt,_⟩
  ·simp
  ·simp;omega
 ·rcases NR b e' OS with⟨rfl,rfl⟩|⟨hlt,hm⟩
  ·rw[To (Ts _),Uf]at hk';cases hk';exact hb.mono hle
  ·rw[Tj hlt]at hk';exact(hr.dx b e' k' hm hk').mono hle
 ·exact MS
 ·obtain⟨e',he,hx⟩:=hr.eZ g hg;exact⟨e',hle _ _ he,hx⟩
 ·rcases NR b e' OS with⟨_,rfl⟩|⟨_,hm⟩
  ·exact hb.lt hk
  ·exact hr.lt b e' hm
def Grow.vA{m0 h0 w0}(gr:Grow m0 h0 w0 m h w)(hd0:∀b e,m0 b=some e->b<h0.length)(hd:∀b e,m b=some e->b<h.length){e k}(ho:e.own=true)(hlt:w0.heap.size<=e.cb):Grow m0 h0 w0 (m.add h.length e) (h++[k]) w where
 ext:=λb hb=>by
  have:b≠h.length:=by have:=gr.len;omega
  show(if b=h.length then some e else m b)=_;rw[Tt this];exact gr.ext b hb
 len:=by rw[Tg];have:=gr.len;omega
 new:=λb e' hb he=>by
  unfold bA.add at he;by_cases hx:b=h.length
  ·rw[Ty hx]at he;cases he;exact⟨ho,.inl hlt⟩
  ·rw[Tt hx]at he;obtain⟨h1,hc⟩:=gr.new b e' hb he;refine⟨h1,?_⟩;rcases hc with hc|⟨b0,e0,c1,c2,c3,c4,c5⟩
   ·exact .inl hc
   ·have:=hd0 _ _ c1;exact .inr ⟨b0,e0,c1,c2,c3,c4,by rw[eE (by have:=gr.len;omega)];exact c5⟩
 tl:=λb hb ht=>by
  rw[eE (by have:=gr.len;omega)]at ht;exact gr.tl b hb ht
 size:=gr.size
 os:=gr.os
 out:=gr.out
 tape:=gr.tape
 frame:=gr.frame
end
def nF{M l f}(h:pf M l f=true){i j x y}(hij:i<j)(hx:l[i]? =some x)(hy:l[j]? =some y)(px:ec x.k=false)(py:ec y.k=false)(lx:kC x=false)(ly:kC y=false)(hj:j≠f):ahead M i j=true:=by
 have QU:j<l.length:=(Th.1 hy).1;unfold pf at h;rw[TM]at h;have h1:=h j (Ud.2 QU);rw[TM]at h1;have h2:=h1 i (Ud.2 hij);rw[hx,hy]at h2
 simpa [px,py,lx,ly,hj]using h2
structure NB(ops:Array Oper)(l:List aZ)(f df es n:Nat)(z:List AV)(ps:List (Nat×cC))(q:Bool):Prop where
 hf:l[f]? =some {dst:=some df,k:=.aD es n z ps,gd:=none,q:=q}
 hz:∀x∈z,vk x=true
 hp:∀p∈ps,∃u,p.2=.t u/\ep ops f u=true
 hr:∀j o,l[j]? =some o->bO o.k=true->(ec o.k=true\/kC o=true)/\ep ops j df=false
def uU{ops l f}(h:tM ops l f=true):∃df es n z ps q,NB ops l f df es n z ps q:=by
 unfold tM at h;split at h
 case h_2=>cases h
 rename_i d es n z ps q hf;simp only[TL,TM,Ud]at h;obtain⟨⟨h1,h2⟩,h3⟩:=h;refine⟨d,es,n,z,ps,q,hf,h1,λp hp=>?_,λj o hj hk=>?_⟩
 ·have:=h2 p hp;split at this
  ·rename_i u hu;exact⟨u,hu,this⟩
  ·cases this
 ·have:=h3 j (Th.1 hj).1;rw[hj]at this;simp only[hk,TU,Vi,TL,UU,UC]at this;exact this
structure jq(P:Program)(l:List aZ)(f df:Nat)(k:ai)(T:Nat->TS)(H:Nat->af)(m:bA)(w:World)(listed:Array Bool)(θ:Nat)(m1:bA)(tm:Array Value)(w1:World):Prop where
 hθ:θ<=l.length
 hL:θ<=cV l\/∃(j:Nat) (o:aZ),l[j]? =some o/\bO o.k=false/\j≠f/\cV l<=j/\j<θ
 hS:∀(j:Nat) (o:aZ),l[j]? =some o->bO o.k=false->j≠f->(j<θ↔listed.getD j false=true)
 hf:f<θ->listed.getD f false=true
 hr:HR P m1 (H θ) w1
 hg:Grow m (H 0) w m1 (H θ) w1
 dq:tm.size=(T 0).length
 h1:∀(d:Nat),(∀(j:Nat) (o:aZ),l[j]? =some o->listed.getD j false=true->o.dst≠some d)->VR m1 ((T 0).getD d ar) (tm.getD d undef)
 h2:∀(d j:Nat) (o:aZ),l[j]? =some o->listed.getD j false=true->o.dst=some d->(j=f->f<θ)->VR m1 ((T (j+1)).getD d ar) (tm.getD d undef)
 pd:listed.getD f false=true->θ<=f->∃e:qc,BR P m1 w1 e k/\e.own=true/\w.heap.size<=e.cb/\(∀b e',m1 b=some e'->e'.cb≠e.cb)/\∀m':bA,m1.le m'->m' (H f).length=some e->VR m' ((T (f+1)).getD df ar) (tm.getD df undef)
def uK{P cq f}(hmix:P.follows .mixedOrders=true){ops l}(hed:jd (Region.before ops) ops=true)(hsl:jV (Region.before ops) ops=true)
  (hc:dC (λ_ o=>bj P ops (pY cq o) o) ops.toList 0=some l) (hfo:tM ops l f=true) (hmo:pf (Region.before ops) l f=true) {T}{H}(hrow:Row P l T H) (hstab:∀(i:Nat) (io:aZ),l[i]? =some io->kC io=true->∀θ,θ<=cV l->cQ P io (T i) (H θ) (T (i+1)) (H θ)) (hlate:∀(i j:Nat) (x y:aZ),l[i]? =some x->kC x=true->l[j]? =some y->bO y.k=false->cV l<=j->ahead (Region.before ops) i j=true) {m}{a}{w}
  (st:St P m (T 0) (H 0) a w) (ro:Option Nat) (Q:Exit->Act->World->Prop) (hQ:∀m' a' w',St P m' (T l.length) (H l.length) a' w'->Grow m (H 0) w m' (H l.length) w'->a'.defers=a.defers->Q .normal a' w') (id:Nat):
  (Code.region id ops true).wpIn (Fd ro) 0 P Q a w:=by
 obtain⟨df,es,n,zz,ps,qf,F⟩:=uU hfo;refine wpIn_region_any hmix ?_;obtain⟨NW,NO⟩:=fc hc;simp only[Vh]at NW;have Q0:∀(j:Nat) (io:aZ),l[j]? =some io->∃o,ops[j]? =some o/\bj P ops (pY cq o) o=some io:=λj io hj=>by
  exact z24
 have OF:∀(j:Nat) (io:aZ) (d:Nat),l[j]? =some io->io.dst=some d->∃o,ops[j]? =some o/\o.dst=some d:=λj io d hj hd=>by
  exact z59
 have huniq:∀(i j:Nat) (oi oj:aZ) (d:Nat),l[i]? =some oi->l[j]? =some oj->oi.dst=some d->oj.dst=some d->i=j:=λi j oi oj d hi hj h1 h2=>by
  exact z21
 have O0:∀(j:Nat) (io:aZ),l[j]? =some io->∃v,T (j+1)=put (T j) io.dst v:=λj io hj=>(hrow.step j io hj).1.put
 have hTl:∀j,j<=l.length->(T j).length=(T 0).length:=by
  intro j
  induction j with
  |zero=>intro _;rfl
  |succ j ih=>
   intro hj;exact J0
 have NS:∀x y t,x<=y->y<=l.length->(∀(j:Nat) (o:aZ),x<=j->j<y->l[j]? =some o->o.dst≠some t)->(T y).getD t ar=(T x).getD t ar:=by
  intro x y t hxy hy hno;exact MQ
 have P3:∀(j:Nat) (io:aZ),l[j]? =some io->bO io.k=true->H (j+1)=H j:=λj io hj hk=>uL hk (hrow.step j io hj).1
 have P4:∀x k,x+k<=l.length->(∀(j:Nat) (o:aZ),x<=j->j<x+k->l[j]? =some o->bO o.k=true)->H (x+k)=H x:=by
  intro x k
  induction k with
  |zero=>intro _ _;rfl
  |succ k ih=>
   intro hk hno;exact z46
 have Qn:∀x y,x<=l.length->y<=l.length->(∀(j:Nat) (o:aZ),l[j]? =some o->bO o.k=false->(j<x↔j<y))->H x=H y:=by
  intro x y hx hy hno;exact MU
 have Of:f<l.length:=(Th.1 F.hf).1;obtain⟨cf,mu,tl,OL,hTf,hHf,hcf⟩:∃cf mu tl,dA (cZ n zz) (ps.map λp=>(p.1,es,val (T f) p.2))=some cf/\T (f+1)=put (T f) (some df) (.slice (H f).length 0 n es)/\H (f+1)=H f++[.cells cf mu tl]/\∀g:af,nn P (.aD es n zz ps) (val (T f)) g (.slice g.length 0 n es) (g++[.cells cf mu tl]):=by
  have SJ:=(hrow.step f _ F.hf).1;generalize hx:T (f+1)=tx at SJ;generalize hy:H (f+1)=hyy at SJ;cases SJ with
  |run hw hb hs=>
   have hs:kI (.aD es n zz ps) _ _ _ _:=hs;obtain⟨c,mu,tl,q1,q2,q3,rfl,rfl⟩:=hs;exact⟨c,mu,tl,q1,rfl,rfl,λg=>⟨c,mu,tl,q1,q2,q3,rfl,rfl⟩⟩
  |skip hw=>exact absurd trivial hw
 have Rh:(ai.cells cf mu tl).live=true:=rfl;have hrp:∀{k:mD},bO k=false->ec k=false:=λ{k} hk=>by
  cases k<;>first|exact hk|(cases hk;done)
 have hld:∀{o:aZ},bO o.k=false->kC o=false:=λ{o} hk=>by
  exact z127
 have R4:∀(listed:Array Bool) (θ:Nat) (m1:bA) (tm:Array Value) (w1:World),jq P l f df (.cells cf mu tl) T H m w listed θ m1 tm w1->listed.getD f false=true->θ<=f->(∀(j:Nat) (o:aZ),l[j]? =some o->bO o.k=false->j<f->listed.getD j false=true)->
   ∃m2,jq P l f df (.cells cf mu tl) T H m w listed (f+1) m2 tm w1:=by
  intro listed θ m1 tm w1 I SX SD hall;have e:H θ=H f:=Qn θ f I.hθ Om λj oj hj hk=>by
   by_cases hjf:j=f
   ·subst hjf;omega
   ·constructor
    ·intro h;omega
    ·intro h;exact(I.hS j oj hj hk hjf).2 (hall j oj hj hk h)
  obtain⟨en,b1,b2,b3,b4,b5⟩:=I.pd SX SD;have hr:=I.hr;have hg:=I.hg;rw[e]at hr hg;have OA:m1 (H f).length=none:=by
   cases hx:m1 (H f).length with
   |none=>rfl
   |some y=>exact absurd (hr.bZ _ _ hx) Om
  have PL:m1.le (m1.add (H f).length en):=bA.pK _ OA;refine⟨m1.add (H f).length en,⟨Om,.inl (by have:=wo F.hf rfl;omega),λj oj hj hk hjf=>?_,λ_=>SX,by rw[hHf];exact hr.vA Rh b1 b4,by rw[hHf];exact hg.vA st.hr.bZ hr.bZ b2 b3,I.dq,λd hd=>VR.mono PL _ _ (I.h1 d hd),λd j oj hj hl hd _=>?_,λ_ hx=>absurd hx Om⟩⟩
  ·constructor
   ·intro h;exact hall j oj hj hk Om
   ·intro h;have:=(I.hS j oj hj hk hjf).2 h;omega
  ·by_cases hjf:j=f
   ·subst hjf;rw[F.hf]at hj;cases hj;cases hd;exact b5 _ PL (by simp[bA.add])
   ·exact VR.mono PL _ _ (I.h2 d j oj hj hl hd λz=>absurd z hjf)
 have OZ:∀(listed:Array Bool) (θ:Nat) (m1:bA) (a1:Act) (w1:World),(∀i,i<ops.size->listed.getD i false=true)->jq P l f df (.cells cf mu tl) T H m w listed θ m1 a1.tmps w1->f<θ->a1.defers=a.defers->Q .normal a1 w1:=by
  intro listed θ m1 a1 w1 hall I hfθ hd;have e:=Qn θ l.length I.hθ (Ts _) λj o hj hk=>by
   have QU:=(Th.1 hj).1;by_cases hjf:j=f
   ·subst hjf;omega
   ·have:=(I.hS j o hj hk hjf).2 (hall j Om);omega
  have hr:=I.hr;have hg:=I.hg;rw[e]at hr hg;have dq:=I.dq;refine hQ m1 a1 w1 ⟨hr,bY.fF ?_ ?_⟩ hg hd
  ·exact Eg
  ·intro t x hx;have hlt:=(Th.1 hx).1;have Oh:t<a1.tmps.size:=by have:=hTl l.length (Ts _);omega
   have ex:(T l.length).getD t ar=x:=by simp[List.getD,hx]
   have ey:a1.tmps.getD t undef=a1.tmps[t]:=by simp[TX,T4 Oh]
   refine⟨a1.tmps[t],Si,?_⟩;rw[<-ex,<-ey];by_cases hw:∃(j:Nat) (o:aZ),l[j]? =some o/\o.dst=some t
   ·obtain⟨j,o,hj,ho⟩:=hw;have QU:=(Th.1 hj).1;rw[NS (j+1) l.length t Om (Ts _) (λk o' a2 a3 a4 a5=>by have:=huniq j k o o' t hj a4 ho a5;omega)];exact I.h2 t j o hj (hall j Om) ho λ_=>hfθ
   ·rw[NS 0 l.length t Om (Ts _) (λk o' _ _ h4 h5=>hw ⟨k,o',h4,h5⟩)];exact I.h1 t λj o hj _ ho=>hw ⟨j,o,hj,ho⟩
 have hdone:∀(listed:Array Bool) (θ:Nat) (m1:bA) (a1:Act) (w1:World),(∀i,i<ops.size->listed.getD i false=true)->jq P l f df (.cells cf mu tl) T H m w listed θ m1 a1.tmps w1->a1.defers=a.defers->Q .normal a1 w1:=by
  intro listed θ m1 a1 w1 hall I hd;by_cases hfθ:f<θ
  ·exact OZ listed θ m1 a1 w1 hall I hfθ hd
  ·obtain⟨m2,I2⟩:=R4 listed θ m1 a1.tmps w1 I (hall f Om) Om λj o hj _ _=>hall j (by have:=(Th.1 hj).1;omega)
   exact OZ listed (f+1) m2 a1 w1 hall I2 Om hd
 have key:∀(fuel:Nat) (listed:Array Bool) (θ:Nat) (m1:bA) (a1:Act) (w1:World),listed.size=ops.size->oD listed ops.size<=fuel->
   (∀j x,listed.getD j false=true->x<ops.size->ahead (Region.before ops) x j=true->listed.getD x false=true)->jq P l f df (.cells cf mu tl) T H m w listed θ m1 a1.tmps w1->a1.defers=a.defers->wpAnyIn (Fd ro) 0 P .any ops Q fuel listed a1 w1:=by
  intro fuel
  induction fuel with
  |zero=>
   intro listed θ m1 a1 w1 NT hu hcl I hd;have hall:=jz ops.size (show oD listed ops.size=0 by omega);exact⟨jY NT hall,hdone listed θ m1 a1 w1 hall I hd⟩
  |succ fuel ih=>
   intro listed θ m1 a1 w1 NT hu hcl I hd;refine⟨λhrn=>hdone listed θ m1 a1 w1 (jX hed NT hrn) I hd,λi hi=>?_⟩;obtain⟨o,ho,OC,RH⟩:=(gp NT).1 hi;have hin:i<ops.size:=(Tw.1 ho).1;obtain⟨io,hio,NQ⟩:=NO i o (by simpa using ho);have NQ:bj P ops (pY cq o) o=some io:=NQ;obtain⟨bp,_⟩:=hrow.step i io hio;have hahead:∀x,x<ops.size->ahead (Region.before ops) x i=true->listed.getD x false=true:=λx hx ha=>by
    exact z28
   have Pm:∀j x,(listed.setIfInBounds i true).getD j false=true->x<ops.size->ahead (Region.before ops) x j=true->(listed.setIfInBounds i true).getD x false=true:=by
    intro j x hj hx ha;exact JG
   have QF:oD (listed.setIfInBounds i true) ops.size<=fuel:=by
    exact JC
   have hne:∀j,j≠i->(listed.setIfInBounds i true).getD j false=listed.getD j false:=λj hj=>by rw[cE Om,Tt hj]
   have hlt:(listed.setIfInBounds i true).getD i false=true:=by rw[cE Om,Ty rfl]
   have N6:io.dst=o.dst:=(cM NQ).1;have hslot:∀(θ:Nat) (m1:bA) (tm:Array Value) (w1:World),jq P l f df (.cells cf mu tl) T H m w listed θ m1 tm w1->(listed.getD f false=true->θ<=f->i<f\/ep ops i df=false)->∀t,t∈o.looksAt ops->VR m1 ((T i).getD t ar) (tm.getD t undef):=by
    intro θ m1 tm w1 I hnp t ht;by_cases hex:∃(x:Nat) (ox:aZ),l[x]? =some ox/\listed.getD x false=true/\ox.dst=some t
    ·obtain⟨x,ox,hx,hxl,Qr⟩:=hex;obtain⟨oo,PT,QB⟩:=OF x ox t hx Qr;have hxi:x<i:=by
      by_cases e1:x=i
      ·subst e1;rw[OC]at hxl;cases hxl
      ·by_cases e2:x<i
       ·exact e2
       ·have e3:=(cj hsl (show i<x by omega) ho PT).2 t QB ht;have e4:=hcl x i hxl hin e3;rw[OC]at e4;cases e4
     rw[NS (x+1) i t Om Om (λk o' a2 a3 a4 a5=>by have:=huniq x k ox o' t hx a4 Qr a5;omega)];refine I.h2 t x ox hx hxl Qr λhxf=>?_
     subst hxf;by_cases hh:x<θ
     ·exact hh
     ·rcases hnp hxl (by omega)with h|h
      ·omega
      ·rw[F.hf]at hx;cases hx;cases Qr;unfold ep at h;rw[ho]at h;simp only at h;have:=List.contains_iff_mem.2 ht;rw[this]at h;cases h
    ·rw[NS 0 i t Om Om (λk o' e2 e3 e4 e5=>by
      obtain⟨oo,PT,N6⟩:=OF k o' t e4 e5;have h6:=((cj hsl e3 PT ho).1 t N6).2 ht;exact hex ⟨k,o',e4,hahead k (Tw.1 PT).1 h6,e5⟩)]
     exact I.h1 t λj oj hj hl N6=>hex ⟨j,oj,hj,hl,N6⟩
   have hadv:i≠f->∀(θ θ':Nat) (m1 m':bA) (tm:Array Value) (w1 w':World) (cv:Value) (v':AV),jq P l f df (.cells cf mu tl) T H m w listed θ m1 tm w1->θ'<=l.length->(θ'<=cV l\/∃(j:Nat) (o:aZ),l[j]? =some o/\bO o.k=false/\j≠f/\cV l<=j/\j<θ')->(∀(j:Nat) (o:aZ),l[j]? =some o->bO o.k=false->j≠f->(j<θ'↔(listed.setIfInBounds i true).getD j false=true))->(f<θ'↔f<θ)->
     T (i+1)=put (T i) o.dst v'->VR m' v' cv->HR P m' (H θ') w'->Grow m1 (H θ) w1 m' (H θ') w'->jq P l f df (.cells cf mu tl) T H m w (listed.setIfInBounds i true) θ' m' (fB tm o.dst cv) w':=by
    intro Qj θ θ' m1 m' tm w1 w' cv v' I SE Rl hS' hff OT OV hr' NY;have PL:=NY.le I.hr.bZ;refine⟨SE,Rl,hS',λh=>?_,hr',I.hg.trans NY st.hr.bZ,by rw[dK];exact I.dq,λd hdn=>?_,λd j oj hj hl Ql hjf=>?_,λSX SD=>?_⟩
    ·rw[hne f (Vl Qj)];exact I.hf (hff.1 h)
    ·have Pe:o.dst≠some d:=by rw[<-N6];exact hdn i io hio hlt
     rw[cR Pe];refine VR.mono PL _ _ (I.h1 d λj oj hj hl=>hdn j oj hj ?_);exact JD
    ·by_cases e1:j=i
     ·subst e1;rw[hio]at hj;cases hj;rw[OT,<-N6,Ql];exact jD (by rw[I.dq,hTl j Om]) OV
     ·have Pe:o.dst≠some d:=λhx=>by
       exact JT
      rw[cR Pe];rw[hne j e1]at hl;exact VR.mono PL _ _ (I.h2 d j oj hj hl Ql λz=>hff.1 (hjf z))
    ·rw[hne f (Vl Qj)]at SX;obtain⟨e,b1,b2,b3,b4,b5⟩:=I.pd SX (by have:=hff.2;omega);obtain⟨c1,c2⟩:=zB NY I.hr.bZ Rh b1 b4;have Pe:o.dst≠some df:=λhx=>by
      rw[<-N6]at hx;exact Qj (huniq i f io _ df hio F.hf hx rfl)
     refine⟨e,c1,b2,b3,c2,λm2 Rf NV=>?_⟩;rw[cR Pe];exact b5 m2 (bA.le_trans PL Rf) NV
   have Qe:∀cv,(a1.put o.dst cv).tmps=fB a1.tmps o.dst cv:=λcv=>by cases o.dst<;>rfl
   by_cases Qj:i=f
   ·
    subst Qj;rw[F.hf]at hio;cases hio;have SD:θ<=i:=by
     by_cases hh:i<θ
     ·have:=I.hf hh;rw[OC]at this;cases this
     ·omega
    refine s8 ho NQ rfl I.hr.gv I.hr (hslot θ m1 a1.tmps w1 I λh=>by rw[OC]at h;cases h) (hcf (H θ)) ro _ Q ?_;intro cv m' w' hv hr' NY;have hclos:∀x∈cf,gh (H θ).length x:=pz (λx hx=>yd (F.hz x (sd hx))) (λp hp=>by
     obtain⟨q,hq,rfl⟩:=TI.1 hp;obtain⟨u,hu,RD⟩:=F.hp q hq;have hu2:u∈o.looksAt ops:=by
      unfold ep at RD;rw[ho]at RD;exact List.contains_iff_mem.1 RD
     have:=hslot θ m1 a1.tmps w1 I (λh=>by rw[OC]at h;cases h) u hu2;show gh _ (val (T i) q.2);rw[hu];exact⟨m1,_,I.hr.bZ,this⟩) OL
    have hcb:nS (H θ).length (.cells cf mu tl):=λj x hx=>hclos x (T6 hx)
    have hup:m'.cU (H θ).length=m1:=by
     funext b;unfold bA.cU;by_cases hb:b<(H θ).length
     ·rw[Ty hb];exact NY.ext b hb
     ·rw[Tt hb];cases hx:m1 b with
      |none=>rfl
      |some e=>exact absurd (I.hr.bZ b e hx) hb
    have Pd:=HR.forget I.hr hr' NY;have Qv:=NY.forget;rw[hup]at Pd Qv;have QE:=hv;rw[VR]at QE;obtain⟨e,ca,cap,he,Oz⟩:=QE;have hb:=(hr'.dx _ e (.cells cf mu tl) he Si).cut hcb;rw[hup]at hb;obtain⟨ho1,hc⟩:=NY.new _ e (Ts _) he;have hcbl:w1.heap.size<=e.cb:=by
     rcases hc with hc|⟨b0,e0,c1,c2,c3,c4,c5⟩
     ·exact hc
     ·rw[eE (I.hr.bZ _ _ c1),c4]at c5;cases c5
    have O6:o.dst=some df:=N6.symm;refine ih _ θ m1 (a1.put o.dst cv) w' (by simp[NT]) QF Pm ?_ (by rw[put_defers];exact hd);rw[Qe];refine⟨I.hθ,I.hL,λj oj hj hk hjf=>by rw[hne j hjf];exact I.hS j oj hj hk hjf,λh=>by omega,Pd,I.hg.trans Qv st.hr.bZ,by rw[dK];exact I.dq,λd hdn=>?_,λd j oj hj hl Ql hjf=>?_,λ_ _=>⟨e,hb,ho1,Ur I.hg.size hcbl,λb e' OS=>by have:=I.hr.lt b e' OS;omega,λm2 Rf NV=>?_⟩⟩
    ·have Pe:o.dst≠some d:=by rw[O6];exact hdn i _ F.hf hlt
     rw[cR Pe];refine I.h1 d λj oj hj hl=>hdn j oj hj ?_
     exact JD
    ·by_cases e1:j=i
     ·have:=hjf e1;omega
     ·have Pe:o.dst≠some d:=λhx=>by
       rw[O6]at hx;exact e1 (huniq j i oj _ d hj F.hf Ql hx)
      rw[cR Pe];rw[hne j e1]at hl;exact I.h2 d j oj hj hl Ql hjf
    ·rw[hTf,O6];exact jD (by rw[I.dq,hTl i Om]) (by rw[VR];exact⟨e,ca,cap,NV,Oz⟩)
   by_cases ON:bO io.k=true
   ·
    obtain⟨Qg,PJ⟩:=F.hr i io hio ON;have PQ:cQ P io (T i) (H θ) (T (i+1)) (H θ):=by
     rcases Qg with hp|hp
     ·exact(uO hp bp).2 _
     ·refine hstab i io hio hp θ ?_;rcases I.hL with h|⟨j,oj,h1,h2,h5,h3,h4⟩
      ·exact h
      ·have e:=hcl j i ((I.hS j oj h1 h2 h5).1 h4) hin (hlate i j io oj hio hp h1 h2 h3);rw[OC]at e;cases e
    refine ee ho NQ I.hr.gv I.hr (by rw[I.dq,hTl i Om]) (hslot θ m1 a1.tmps w1 I λ_ _=>.inr PJ) PQ ro _ Q ?_;intro cv v' m' w' OT OV hrx hgx;refine ih _ θ m' (a1.put o.dst cv) w' (by simp[NT]) QF Pm ?_ (by rw[put_defers];exact hd);rw[Qe];refine hadv Qj θ θ m1 m' a1.tmps w1 w' cv v' I I.hθ I.hL (λj oj hj hk hjf=>?_) Iff.rfl OT OV hrx hgx;have hji:j≠i:=λe=>by
     subst e;rw[hio]at hj;cases hj;rw[ON]at hk;cases hk
    rw[hne j hji];exact I.hS j oj hj hk hjf
   ·have OW:bO io.k=false:=by simpa using ON
    have hheavy:∀(j:Nat) (oj:aZ),l[j]? =some oj->bO oj.k=false->j<i->listed.getD j false=true:=λj oj hj hk hji=>
     hahead j (by have:=(Th.1 hj).1;omega) (nF hmo hji hj hio (hrp hk) (hrp OW) (hld hk) (hld OW) Qj)
    have hlate:∀(j:Nat) (oj:aZ),l[j]? =some oj->bO oj.k=false->j≠f->i<j->listed.getD j false=false:=λj oj hj hk hjf hij=>by
     cases hx:listed.getD j false with
     |false=>rfl
     |true=>
      have e3:=nF hmo hij hio hj (hrp OW) (hrp hk) (hld OW) (hld hk) hjf;have e4:=hcl j i hx hin e3;rw[OC]at e4;cases e4
    obtain⟨Sy,m2,I1,hff⟩:∃Sy m2,jq P l f df (.cells cf mu tl) T H m w listed Sy m2 a1.tmps w1/\(f<Sy↔f<i):=by
     by_cases hfi:f<i
     ·have SX:=hheavy f _ F.hf rfl hfi;by_cases hfθ:f<θ
      ·exact⟨θ,m1,I,Om⟩
      ·obtain⟨m2,I2⟩:=R4 listed θ m1 a1.tmps w1 I SX Om λj oj hj hk hjf=>hheavy j oj hj hk Om
       exact⟨f+1,m2,I2,Om⟩
     ·refine⟨θ,m1,I,⟨λh=>?_,λh=>absurd h hfi⟩⟩;have:=(I.hS i io hio OW Qj).1 Om;rw[OC]at this;cases this
    have hHi:H Sy=H i:=Qn Sy i I1.hθ Om λj oj hj hk=>by
     by_cases hjf:j=f
     ·subst hjf;exact hff
     ·constructor
      ·intro QT;have Ph:=(I1.hS j oj hj hk hjf).1 QT;by_cases e1:j=i
       ·exact z148
       ·by_cases e2:j<i
        ·exact e2
        ·exact z146
      ·intro hji;exact(I1.hS j oj hj hk hjf).2 (hheavy j oj hj hk hji)
    refine ee ho NQ I1.hr.gv I1.hr (by rw[I1.dq,hTl i Om]) (hslot Sy m2 a1.tmps w1 I1 λ_ h2=>.inl Om) (by rw[hHi];exact bp) ro _ Q ?_;intro cv v' m' w' OT OV hrx hgx;refine ih _ (i+1) m' (a1.put o.dst cv) w' (by simp[NT]) QF Pm ?_ (by rw[put_defers];exact hd);rw[Qe];refine hadv Qj Sy (i+1) m2 m' a1.tmps w1 w' cv v' I1 Om (by by_cases hc:i+1<=cV l;exact .inl hc;exact .inr ⟨i,io,hio,OW,Qj,Om,Om⟩) (λj oj hj hk hjf=>?_) Om OT OV hrx hgx;by_cases e1:j=i
    ·subst e1;exact⟨λ_=>hlt,λ_=>by omega⟩
    ·rw[hne j e1];constructor
     ·intro hji;exact hheavy j oj hj hk Om
     ·intro Ph;by_cases e2:j<i
      ·omega
      ·exact z146
 have NN:∀j,(Array.replicate ops.size false).getD j false=false:=λj=>by
  exact JE
 refine key ops.size (Array.replicate ops.size false) 0 m a _ Si ?_ (λj x hj _ _=>by simp[NN j]at hj) ⟨TJ _,.inl (TJ _),(λj oj hj hk _=>⟨λhx=>absurd hx Om,λhx=>by simp[NN j]at hx⟩),(λhx=>absurd hx Om),st.hr.drew,(Grow.refl m _ w st.hr.bZ).drew,?_,(λd _=>lA st.ts d),(λd j o _ hj _ _=>by simp[NN j]at hj),λhx=>by simp[NN f]at hx⟩ rfl
 ·exact JH
 ·exact z105
def da{P ops draw c}(h:k5 P ops draw=some c):
  (∃l,c=.ops l/\(cg P ops draw=some l\/(draw=true/\(∃l',cg P ops draw=some l')/\∃cq,dC (λ_ o=>bj P ops (pY cq o) o) ops.toList 0=some l/\lM (Region.before ops) l=true/\l.any kC=false)))\/
  (∃l,c=.pX l/\draw=true/\(∃l',cg P ops draw=some l')/\dC (λ_ o=>bj P ops false o) ops.toList 0=some l)\/
  (∃l,c=.lI l/\draw=true/\(∃l',cg P ops draw=some l')/\∃cq,dC (λ_ o=>bj P ops (pY cq o) o) ops.toList 0=some l/\(lM (Region.before ops) l=true\/∃f,tM ops l f=true/\pf (Region.before ops) l f=true)/\kU (Region.before ops) l=true):=by
 unfold k5 at h;split at h
 ·cases h
 ·rename_i l hl;split at h
  ·rename_i hq;split at h
   ·rename_i l' l2 l3 N1 hl2 Rg;split at h
    ·rename_i hm;rw[TL,UC]at hm;cases h;exact .inl ⟨l',rfl,.inr ⟨hq.2,⟨l,hl⟩,0,N1,hm.1,hm.2⟩⟩
    ·split at h
     ·rename_i hm;rw[TL,UC]at hm;cases h;exact .inl ⟨l2,rfl,.inr ⟨hq.2,⟨l,hl⟩,1,hl2,hm.1,hm.2⟩⟩
     ·split at h
      ·exact z40
      ·split at h
       ·split at h
        ·rename_i hm;rw[TL,TL]at hm;cases h;exact .inr (.inr ⟨l3,rfl,hq.2,⟨l,hl⟩,2,Rg,.inl hm.1.2,hm.2⟩)
        ·cases h;exact .inr (.inl ⟨l',rfl,hq.2,⟨l,hl⟩,N1⟩)
       ·split at h
        ·rename_i hm;rw[TL]at hm;cases h;exact .inr (.inr ⟨l3,rfl,hq.2,⟨l,hl⟩,2,Rg,.inl hm.1,hm.2⟩)
        ·split at h
         ·exact z40
         ·cases h;exact .inl ⟨l,rfl,.inl hl⟩
   ·cases h
  ·cases h;exact .inl ⟨l,rfl,.inl hl⟩
def Marks(m:bA)(w:World)(lo:Nat)(ds:List Deferred):Prop:=
 ∃rs:List Nat,ds=rs.map (λr=>({target:=.collected r,args:=#[] }:Deferred))/\rs.Nodup/\∀r∈rs,lo<=r/\w.heap[r]? =some (.deferred (some []))/\∀b e,m b=some e->e.cb≠r
def Marks.nil(m:bA)(w:World)(lo:Nat):Marks m w lo []:=⟨[],rfl,Si,Si⟩
def Marks.grow{m m' h h' w w' lo ds}(k:Marks m w lo ds)(g:Grow m h w m' h' w')(hd:∀b e,m b=some e->b<h.length):Marks m' w' lo ds:=by
 obtain⟨rs,h1,h2,h3⟩:=k;refine⟨rs,h1,h2,λr hr=>?_⟩;obtain⟨a,b,c⟩:=h3 r hr;have hlt:r<w.heap.size:=(Tw.1 b).1;refine⟨a,?_,?_⟩
 ·rw[g.frame r hlt (λb e hb _=>c b e hb)];exact b
 ·intro b' e hb;by_cases hx:b'<h.length
  ·rw[g.ext b' hx]at hb;exact c b' e hb
  ·obtain⟨_,hc⟩:=g.new b' e Om hb;rcases hc with hc|⟨b0,e0,c1,c2,_⟩
   ·omega
   ·rw[<-c2];exact c b0 e0 c1
def Ev(P:Program)(ro:Option Nat)(c:aj)(ts:TS)(h:af)(e:Ex)(ts':TS)(h':af):Prop:=
 ∀cc,compile P cc=some c->∀(m:bA) (a:Act) (w:World) (lo:Nat),lo<=w.heap.size->St P m ts h a w->Marks m w lo a.defers->∀Q:Exit->Act->World->Prop,
  (∀m' a' w',St P m' ts' h' a' w'->Grow m h w m' h' w'->Marks m' w' lo a'.defers->Q e.Ap a' w')->cc.wpIn (Fd ro) 0 P Q a w
section
variable {P:Program}{b:Frame}{a:Act}{k:List Item}{cs:List Frame}{w:World}{Q:Exit->Act->World->Prop}{F:Fence}{n:Nat}
def fe{c}:step P (lone (b.atR a (.code (.scope c)::k)) cs w)=.next (lone (b.atR a (.code c:: .inScope c::k)) cs w):=
 step_lone_go (by simp[stepG,stepG.exec,Frame.atR])
def pS{c}:step P (lone (b.atR a (.inScope c::k)) cs w)=.next (lone (b.atR a k) cs w):=
 step_lone_go (by simp[stepG,stepG.exec,Frame.atR])
def noGoto(Q:Exit->Act->World->Prop):Exit->Act->World->Prop
 |.goto _,_,_=>False
 |e,a,w=>Q e a w
def uk{c}(h:c.wpIn F n P (noGoto Q) a w):(Code.scope c).wpIn F n P Q a w:=by
 intro b k cs hro hb hr;have h0:(lone (b.atR a (.code (.scope c)::k)) cs w).fenced P F:=fenced_calm hb hr rfl;obtain⟨e,Q7,QA,hq,Oi⟩:=h b (.inScope c::k) cs hro hb hr;cases e with
 |normal=>exact⟨.normal,Q7,QA,hq,.head h0 fe (StepsIn.trans Oi (.one (fenced_calm hb hr rfl) pS))⟩
 |exit id=>
  have hx:exitTo id (.inScope c::k)=exitTo id k:=by simp[exitTo]
  exact⟨.exit id,Q7,QA,hq,λk' hk=>.head h0 fe (Oi.1 k' (by rw[hx];exact hk)),
   λhr' hk=>let ⟨k₁,h1,h2⟩:=Oi.2 hr' (by rw[hx];exact hk);⟨k₁,h1,.head h0 fe h2⟩⟩
 |goto l=>exact hq.elim
 |ret=>exact⟨.ret,Q7,QA,hq,.of_steps (.one h0 fe) Oi⟩
 |panic ch=>exact⟨.panic ch,Q7,QA,hq,.of_steps (.one h0 fe) Oi⟩
 |outgrown=>exact⟨.outgrown,Q7,QA,hq,.of_steps (.one h0 fe) Oi⟩
end
section
variable {P:Program}{ro:Option Nat}{c x y:aj}{ts O3 ts':TS}{h h1 h':af}{e:Ex}
def Ev.of (H:∀cc,(∀a,cc≠.scope a)->compile P cc=some c->∀(m:bA) (a:Act) (w:World) (lo:Nat),lo<=w.heap.size->St P m ts h a w->Marks m w lo a.defers->∀Q:Exit->Act->World->Prop,
  (∀m' a' w',St P m' ts' h' a' w'->Grow m h w m' h' w'->Marks m' w' lo a'.defers->Q e.Ap a' w')->cc.wpIn (Fd ro) 0 P Q a w):Ev P ro c ts h e ts' h':=by
 intro cc
 induction cc with
 |scope a ih=>
  intro hc m a w lo hlo st hm Q hQ;refine uk (ih (by simpa [compile]using hc) m a w lo hlo st hm _ λm' a' w' s g k=>?_);cases e<;>exact hQ m' a' w' s g k
 |_=>intro hc;exact H _ Si hc
theorem Ev.skip:Ev P ro .skip ts h .normal ts h:=by
 refine Ev.of λcc hns hc m a w lo hlo st hm Q hQ=>?_
 have hq:=hQ m a w st (Grow.refl m h w st.hr.bZ) hm;cases cc with
 |skip=>exact wpIn_skip hq
 |label l=>exact wpIn_label hq
 |scope a=>exact absurd rfl (hns a)
 |region id ops draw=>rcases da (by simpa only[compile]using hc)with⟨_,h1,_⟩|⟨_,h1,_⟩|⟨_,h1,_⟩<;>cases h1
 |block id a=>simp[compile]at hc
 |loop a=>simp[compile]at hc
 |_=>
  exact yH
theorem Ev.exit{id}:Ev P ro (.exit id) ts h (.exit id) ts h:=by
 refine Ev.of λcc hns hc m a w lo hlo st hm Q hQ=>?_
 have hq:=hQ m a w st (Grow.refl m h w st.hr.bZ) hm;cases cc with
 |exit RX=>simp[compile]at hc;subst hc;exact wpIn_exit hq
 |scope a=>exact absurd rfl (hns a)
 |region id ops draw=>rcases da (by simpa only[compile]using hc)with⟨_,h1,_⟩|⟨_,h1,_⟩|⟨_,h1,_⟩<;>cases h1
 |block id a=>simp[compile]at hc
 |loop a=>simp[compile]at hc
 |_=>
  exact yH
theorem Ev.ret:Ev P ro .ret ts h .ret ts h:=by
 refine Ev.of λcc hns hc m a w lo hlo st hm Q hQ=>?_
 have hq:=hQ m a w st (Grow.refl m h w st.hr.bZ) hm;cases cc with
 |ret=>exact wpIn_ret hq
 |scope a=>exact absurd rfl (hns a)
 |region id ops draw=>rcases da (by simpa only[compile]using hc)with⟨_,h1,_⟩|⟨_,h1,_⟩|⟨_,h1,_⟩<;>cases h1
 |block id a=>simp[compile]at hc
 |loop a=>simp[compile]at hc
 |_=>
  exact yH
theorem Ev.ops(hmix:P.follows .mixedOrders=true){l}(hs:vD P l ts h ts' h'):Ev P ro (.ops l) ts h .normal ts' h':=by
 refine Ev.of λcc hns hc m a w lo hlo st hm Q hQ=>?_
 cases cc with
 |region id ops draw=>
  rcases da (by simpa only[compile]using hc)with⟨l',h1,hl⟩|⟨_,h1,_⟩|⟨_,h1,_⟩<;>cases h1
  rcases hl with hl|⟨hd,⟨l2,hl2⟩,cq,hz,hmo,hld⟩
  case inr=>
   subst hd;simp only[cg,TQ]at hl2;split at hl2
   case isFalse=>cases hl2
   rename_i N7;simp only[TL]at N7;obtain⟨T,H,rfl,rfl,rfl,rfl,hrow⟩:=hs.row;rw[List.any_eq_false]at hld;exact oX hmix N7.1 N7.2 hz hmo hrow (λi io hio hl=>absurd hl (hld io (T6 hio))) (λi j x y hx hl=>absurd hl (hld x (T6 hx))) st ro Q (λm' a' w' s g d=>hQ m' a' w' s g (by rw[d];exact hm.grow g st.hr.bZ)) id
  cases draw with
  |false=>exact uJ hl hs st ro Q (λm' a' w' s g d=>hQ m' a' w' s g (by rw[d];exact hm.grow g st.hr.bZ)) id
  |true=>exact sS hmix hl hs st ro Q (λm' a' w' s g d=>hQ m' a' w' s g (by rw[d];exact hm.grow g st.hr.bZ)) id
 |scope a=>exact absurd rfl (hns a)
 |block id a=>simp[compile]at hc
 |loop a=>simp[compile]at hc
 |_=>
  exact yH
theorem Ev.lI(hmix:P.follows .mixedOrders=true){l T H}(hrow:Row P l T H)(hstab:∀(i:Nat) (io:aZ),l[i]? =some io->kC io=true->∀θ,θ<=cV l->cQ P io (T i) (H θ) (T (i+1)) (H θ)):Ev P ro (.lI l) (T 0) (H 0) .normal (T l.length) (H l.length):=by
 refine Ev.of λcc hns hc m a w lo hlo st hm Q hQ=>?_
 cases cc with
 |region id ops draw=>
  rcases da (by simpa only[compile]using hc)with⟨_,h1,_⟩|⟨_,h1,_⟩|⟨l',h1,hd,⟨l2,hl2⟩,cq,hz,hmo,hlo⟩<;>cases h1
  subst hd;simp only[cg,TQ]at hl2;split at hl2
  case isFalse=>cases hl2
  rename_i N7;simp only[TL]at N7;rcases hmo with hmo|⟨f,Qw,PB⟩
  case inr=>exact uK hmix N7.1 N7.2 hz Qw PB hrow hstab (λi j x y a1 a2 a3 a4 a5=>nK hlo a1 a2 a3 a4 a5) st ro Q (λm' a' w' s g d=>hQ m' a' w' s g (by rw[d];exact hm.grow g st.hr.bZ)) id
  exact oX hmix N7.1 N7.2 hz hmo hrow hstab (λi j x y a1 a2 a3 a4 a5=>nK hlo a1 a2 a3 a4 a5) st ro Q (λm' a' w' s g d=>hQ m' a' w' s g (by rw[d];exact hm.grow g st.hr.bZ)) id
 |scope a=>exact absurd rfl (hns a)
 |block id a=>simp[compile]at hc
 |loop a=>simp[compile]at hc
 |_=>
  exact yH
theorem Ev.seq(hx:Ev P ro x ts h .normal O3 h1)(hy:Ev P ro y O3 h1 e ts' h'):Ev P ro (.seq x y) ts h e ts' h':=by
 refine Ev.of λcc hns hc m a w lo hlo st hm Q hQ=>?_
 cases cc with
 |seq ca cb=>
  simp only[compile]at hc;split at hc
  case h_2=>cases hc
  rename_i x' y' Oa hcb;cases hc;refine wpIn_seq (hx ca Oa m a w lo hlo st hm _ λm1 a1 w1 s1 g1 k1=>?_);exact hy cb hcb m1 a1 w1 lo (Ur hlo g1.size) s1 k1 Q λm2 a2 w2 s2 g2 k2=>hQ m2 a2 w2 s2 (g1.trans g2 st.hr.bZ) k2
 |scope a=>exact absurd rfl (hns a)
 |region id ops draw=>rcases da (by simpa only[compile]using hc)with⟨_,h1,_⟩|⟨_,h1,_⟩|⟨_,h1,_⟩<;>cases h1
 |block id a=>simp[compile]at hc
 |loop a=>simp[compile]at hc
 |_=>
  exact yH
def Ev.sJ(hx:Ev P ro x ts h e ts' h')(hne:e≠.normal):Ev P ro (.seq x y) ts h e ts' h':=by
 refine Ev.of λcc hns hc m a w lo hlo st hm Q hQ=>?_
 cases cc with
 |seq ca cb=>
  simp only[compile]at hc;split at hc
  case h_2=>cases hc
  rename_i x' y' Oa hcb;cases hc;refine wpIn_seq (hx ca Oa m a w lo hlo st hm _ λm1 a1 w1 s1 g1 k1=>?_);have:=hQ m1 a1 w1 s1 g1 k1;cases e<;>first|exact absurd rfl hne|exact this
 |scope a=>exact absurd rfl (hns a)
 |region id ops draw=>rcases da (by simpa only[compile]using hc)with⟨_,h1,_⟩|⟨_,h1,_⟩|⟨_,h1,_⟩<;>cases h1
 |block id a=>simp[compile]at hc
 |loop a=>simp[compile]at hc
 |_=>
  exact yH
def v8{o c}(hc:BC o=some c):cw o=some c/\JK P o=true:=by
 cases o<;>first|exact⟨hc,rfl⟩|cases hc
def zD{m a w}(st:St P m ts h a w){o c}(hc:BC o=some c):VR m (val ts c) (a.eval o):=
 wB st.hr.gv (v8 (P:=P) hc).1 (v8 (P:=P) hc).2 (λt _=>lA st.ts t)
theorem Ev.cond{c b}(hb:val ts c=.bool b)(hx:Ev P ro (if b then x else y) ts h e ts' h'):Ev P ro (.cond c x y) ts h e ts' h':=by
 refine Ev.of λcc hns hc m a w lo hlo st hm Q hQ=>?_
 cases cc with
 |cond o ca cb=>
  simp only[compile]at hc;split at hc
  case h_2=>cases hc
  rename_i c' x' y' hco Oa hcb;cases hc;have hv:=zD st hco;rw[hb,VR]at hv;refine wpIn_cond hv ?_;cases b
  ·exact hx cb hcb m a w lo hlo st hm Q hQ
  ·exact hx ca Oa m a w lo hlo st hm Q hQ
 |scope a=>exact absurd rfl (hns a)
 |region id ops draw=>rcases da (by simpa only[compile]using hc)with⟨_,h1,_⟩|⟨_,h1,_⟩|⟨_,h1,_⟩<;>cases h1
 |block id a=>simp[compile]at hc
 |loop a=>simp[compile]at hc
 |_=>
  exact yH
def Ex.inBlock(id:Nat):Ex->Ex
 |.exit RX=>if RX=id then .normal else .exit RX
 |e=>e
theorem Ev.block{id}(hx:Ev P ro x ts h e ts' h'):Ev P ro (.block id x) ts h (e.inBlock id) ts' h':=by
 refine Ev.of λcc hns hc m a w lo hlo st hm Q hQ=>?_
 cases cc with
 |block RX ca=>
  simp only[compile,TB,aj.block.injEq]at hc;obtain⟨x',Oa,rfl,rfl⟩:=hc;refine wpIn_block (hx ca Oa m a w lo hlo st hm _ λm' a' w' s g k=>?_);have:=hQ m' a' w' s g k;cases e with
  |normal=>exact this
  |ret=>exact this
  |exit i=>
   simp only[Ex.Ap,Exit.inBlock];simp only[Ex.inBlock]at this;split
   ·rename_i hi;rw[Ty hi]at this;exact this
   ·rename_i hi;rw[Tt hi]at this;exact this
 |scope a=>exact absurd rfl (hns a)
 |region id ops draw=>rcases da (by simpa only[compile]using hc)with⟨_,h1,_⟩|⟨_,h1,_⟩|⟨_,h1,_⟩<;>cases h1
 |loop a=>simp[compile]at hc
 |_=>
  exact yH
inductive qV (P:Program) (ro:Option Nat) (x:aj):TS->af->Ex->TS->af->Prop
 |out {ts:TS}{h:af}{e:Ex}{ts':TS}{h':af}(hx:Ev P ro x ts h e ts' h') (hne:e≠.normal):qV P ro x ts h e ts' h'
 |more {ts:TS}{h:af}{O3:TS}{h1:af}{e:Ex}{ts':TS}{h':af}(hx:Ev P ro x ts h .normal O3 h1) (hr:qV P ro x O3 h1 e ts' h'):qV P ro x ts h e ts' h'
theorem Ev.loop(hl:qV P ro x ts h e ts' h'):Ev P ro (.loop x) ts h e ts' h':=by
 refine Ev.of λcc hns hc m a w lo hlo st hm Q hQ=>?_
 cases cc with
 |loop ca=>
  simp only[compile,TB,aj.loop.injEq]at hc;obtain⟨x',Oa,rfl⟩:=hc;intro b k cs hro hb hr;have key:∀(m1:bA) (a1:Act) (w1:World),lo<=w1.heap.size->St P m1 ts h a1 w1->Marks m1 w1 lo a1.defers->(∀m' a' w',St P m' ts' h' a' w'->Grow m1 h w1 m' h' w'->Marks m' w' lo a'.defers->Q e.Ap a' w')->
    ∃e a' w',Q e a' w'/\ArrivesIn (Machine.fenced P (Fd ro)) P (lone (b.atR a1 (.code ca:: .inLoop ca::k)) cs w1) b k cs e a' w':=by
   clear hQ st hm hlo
   induction hl with
   |out hx hne=>
    rename_i ts h e ts' h';intro m1 a1 w1 hlo s1 k1 hQ;obtain⟨e1,a2,w2,hq,Oi⟩:=hx ca Oa m1 a1 w1 lo hlo s1 k1 (λe1 a1 w1=>e1≠.normal/\Q e1 a1 w1) (λm' a' w' s g k'=>⟨by cases e<;>first|exact absurd rfl hne|simp[Ex.Ap],hQ m' a' w' s g k'⟩) b (.inLoop ca::k) cs hro hb hr;exact⟨e1,a2,w2,hq.2,.pass (x:=.inLoop ca) rfl (λ_ _=>.inl hq.1) Oi⟩
   |more hx hr' ih=>
    intro m1 a1 w1 hlo s1 k1 hQ;obtain⟨e1,a2,w2,hq,Oi⟩:=hx ca Oa m1 a1 w1 lo hlo s1 k1 (λe1 a2 w2=>e1=.normal/\∃m2,St P m2 _ _ a2 w2/\Grow m1 _ w1 m2 _ w2/\Marks m2 w2 lo a2.defers) (λm' a' w' s g k'=>⟨rfl,m',s,g,k'⟩) b (.inLoop ca::k) cs hro hb hr;obtain⟨rfl,m2,s2,g2,k2⟩:=hq;obtain⟨e3,a3,w3,hq3,harr3⟩:=ih m2 a2 w2 (Ur hlo g2.size) s2 k2 (λm' a' w' s g k'=>hQ m' a' w' s (g2.trans g s1.hr.bZ) k');exact⟨e3,a3,w3,hq3,.of_steps (StepsIn.trans Oi (.one (fenced_calm hb hr rfl) stepR_inLoop)) harr3⟩
  obtain⟨e',a',w',hq,Oi⟩:=key m a w hlo st hm hQ;exact⟨e',a',w',hq,.of_steps (.one (fenced_calm hb hr rfl) stepR_loop) Oi⟩
 |scope a=>exact absurd rfl (hns a)
 |region id ops draw=>rcases da (by simpa only[compile]using hc)with⟨_,h1,_⟩|⟨_,h1,_⟩|⟨_,h1,_⟩<;>cases h1
 |block id a=>simp[compile]at hc
 |_=>
  exact yH
end
def dL(ts:TS)(h:af):Nat×Option (Option Nat)->Option AV
 |(t,none)=>some (ts.getD t ar)
 |(a,some n)=>
  match cN (.load n (.c (ts.getD a ar))) (val ts) h with
  |some (v,_)=>some v
  |none=>none
def gP(ts:TS)(h:af):List (Nat×Option (Option Nat))->Option (List AV)
 |[]=>some []
 |r::rs=>
  match dL ts h r,gP ts h rs with
  |some v,some vs=>some (v::vs)
  |_,_=>none
def cD(rs:List (Nat×Option (Option Nat)))(ts:TS)(h:af):Option AV:=
 match gP ts h rs with
 |some [v]=>some v
 |some l=>some (.dh l)
 |none=>none
def aM(nt:Nat)(args:List AV):TS:=args++List.replicate (nt-args.length) ar
def Ex.leaves:Ex->Bool
 |.normal=>true
 |.ret=>true
 |_=>false
section
variable {P:Program}{m:bA}{h h':af}{w:World}{v:AV}
def uA{ts a}(st:St P m ts h a w){r x}(hx:rk P r=some x)(hv:dL ts h x=some v):
  ∃cv,(match r with
   |.tmp t=>(pure (a.tmps.getD t undef):Sem Value)
   |.cell b t=>do loadVar t (<-asAddr (a.tmps.getD b undef))).run P w=.ok cv w/\VR m v cv:=by
 cases r with
 |tmp t=>cases hx;cases hv;exact⟨_,rfl,lA st.ts t⟩
 |cell b t=>
  simp only[rk,TB]at hx;obtain⟨n,hn,rfl⟩:=hx;simp only[dL]at hv;split at hv
  case h_2=>cases hv
  rename_i v' h' hf;cases hv;obtain⟨cv,h1,h2,_⟩:=zh (P:=P) (ρ:=val ts) hn st.hr (a:=.c (ts.getD b ar)) (lA st.ts b) hf;refine⟨cv,?_,h2⟩;simp only[cN,val]at hf;split at hf
  case h_2=>cases hf
  rename_i b' o' hb';have hs:=lA st.ts b;rw[hb',VR]at hs;obtain⟨e,_,he⟩:=hs;simp only[he]at h1 ⊢
  simpa [Instr.loadAt,Instr.sureAddr,asAddr]using h1
theorem nB{ts:TS}{a:Act}(st:St P m ts h a w):∀{rs:List ResultVar}{xs:List (Nat×Option (Option Nat))}{vs:List AV},rs.mapM (rk P)=some xs->gP ts h xs=some vs->
  ∃PG,(rs.mapM (m:=Sem) λ
   |.tmp t=>pure (a.tmps.getD t undef)
   |.cell b t=>do loadVar t (<-asAddr (a.tmps.getD b undef))).run P w=.ok PG w/\bY m vs PG
 |[],xs,vs,hx,hv=>by
  simp at hx;subst hx;cases hv;exact⟨[],rfl,aP.2 rfl⟩
 |r::rs,xs,vs,hx,hv=>by
  simp only[Vx,Ve,VG]at hx;cases hr:rk P r with
  |none=>simp[hr]at hx
  |some x=>
   cases hrs:rs.mapM (rk P)with
   |none=>simp[hr,hrs]at hx
   |some xs'=>
    simp[hr,hrs]at hx;subst hx;simp only[gP]at hv;split at hv
    case h_2=>cases hv
    rename_i v vs' h1 h2;cases hv;obtain⟨cv,hc,NH⟩:=uA st hr h1;obtain⟨PG,PK,hvrs⟩:=nB st hrs h2;refine⟨cv::PG,?_,aF.2 ⟨cv,PG,rfl,NH,hvrs⟩⟩;rw[Vx,TA];have OR:=hc;cases r<;>(simp only at OR ⊢;rw[OR];simp only[Tp,TA,PK,TN])
def sQ{ts:TS}{a:Act}(st:St P m ts h a w){fn:Func}{xs:List (Nat×Option (Option Nat))}(hx:fn.results.toList.mapM (rk P)=some xs)(hv:cD xs ts h=some v):
  ∃cv,(results fn a.tmps).run P w=.ok cv w/\VR m v cv:=by
 unfold cD at hv;have key:∀{vs:List AV},gP ts h xs=some vs->∃PG:List Value,(results fn a.tmps).run P w=.ok (if h:PG.length=1 then PG[0]else .tuple ⟨PG⟩) w/\bY m vs PG:=by
  intro vs Oq;obtain⟨PG,h1,h2⟩:=nB st hx Oq;refine⟨PG,?_,h2⟩;unfold results;rw[Array.mapM_eq_mapM_toList,TA];simp only[map_eq_pure_bind,TA];have h1':=h1
  erw [h1']
  simp only[Tp,TN];by_cases hc:PG.length=1
  ·simp[hc]
  ·simp[hc]
 split at hv
 ·rename_i v' Oq;cases hv;obtain⟨PG,h1,h2⟩:=key Oq;obtain⟨y,ys,rfl,hy,hys⟩:=aF.1 h2;rw[aP]at hys;subst hys;exact⟨y,by simpa using h1,hy⟩
 ·rename_i l hno Oq;cases hv;obtain⟨PG,h1,h2⟩:=key Oq;have hlen:PG.length≠1:=by
   rw[h2.length];intro hl;obtain⟨z,hz⟩:=List.length_eq_one_iff.1 hl;exact hno z hz
  rw[dif_neg hlen]at h1;exact⟨_,h1,⟨PG,rfl,h2⟩⟩
 ·cases hv
theorem lN{fn xs}(hx:fn.results.toList.mapM (rk P)=some xs){ts}(hv:cD xs ts h' =some v){m0 h0 w0 lo}(hlo:w0.heap.size<=lo):
  ∀(ds:List Deferred) (m:bA) (a:Act) (w:World),St P m ts h' a w->Grow m0 h0 w0 m h' w->Marks m w lo ds->LeavesInM Fence.wide 0 P fn a.tmps (Rel P m0 h0 w0 v h') ds .returning w
 |[],m,a,w,st,g,_=>by
  obtain⟨cv,h1,h2⟩:=sQ st hx hv;exact⟨cv,h1,cv,m,rfl,h2,st.hr,g⟩
 |d::ds,m,a,w,st,g,k=>by
  obtain⟨rs,h1,h2,h3⟩:=k;cases rs with
  |nil=>simp at h1
  |cons r rs=>
   simp only[Un,List.cons.injEq]at h1;obtain⟨rfl,rfl⟩:=h1;obtain⟨hl,hh,hm⟩:=h3 r Si;have hoth:∀i,i≠r->(w.putObj r (.deferred none)).heap[i]? =w.heap[i]? :=λi hi=>World.putObj_heap_other hi
   refine⟨Si,.inl ⟨r,_,rfl,run_takeDeferred hh,?_⟩⟩;refine lN hx hv hlo _ m a _ ⟨⟨st.hr.bZ,λb e k hb hk=>(st.hr.dx b e k hb hk).heap (hoth _ (hm b e hb)),st.hr.sep,st.hr.eZ,λb e hb=>by simpa using st.hr.lt b e hb⟩,st.ts⟩
    ⟨g.ext,g.len,g.new,g.tl,by simpa using g.size,g.os,g.out,g.tape,λi hi hno=>?_⟩ ⟨rs,rfl,(VH.1 h2).2,λr' hr'=>?_⟩
   ·rw[hoth i Om];exact g.frame i hi hno
   ·obtain⟨c1,c2,c3⟩:=h3 r' (TK _ hr');refine⟨c1,?_,c3⟩;rw[hoth r' (λx=>(VH.1 h2).1 (x▸hr'))];exact c2
def fu{f A}(hA:bf P f=some A):∃fn c,P.funcs[f]? =some fn/\fn.body=some c/\compile P c=some A.body/\fn.results.toList.mapM (rk P)=some A.rs/\fn.ntmps=A.nt/\(fn.name == "runtime.NumGoroutine")=false:=by
 unfold bf at hA;split at hA
 case h_1=>cases hA
 rename_i fn hf;split at hA
 case h_1=>cases hA
 rename_i c hb;split at hA
 case h_2=>cases hA
 rename_i b rs hc hr;split at hA
 case isTrue=>cases hA
 rename_i hn;cases hA;exact⟨fn,c,hf,hb,hc,hr,rfl,by simpa using hn⟩
def jR.HZ{f A}(hA:bf P f=some A){args e ts'}(hev:Ev P none A.body (aM A.nt args) h e ts' h')(he:e.leaves=true)(hv:cD A.rs ts' h' =some v):jR P f args h v h':=by
 intro m w vs hr hargs;obtain⟨fn,c,hf,hb,hc,hres,hnt,_⟩:=fu hA;rw[<-callsIn_wide (n:=0)];refine callsIn_of_wp_marks hf hb trivial ?_;refine hev c hc m _ w w.heap.size (Ts _) ⟨hr,?_⟩ (Marks.nil m w _) _ ?_
 ·have:((⟨vs⟩:Array Value)++Array.replicate (fn.ntmps-(⟨vs⟩:Array Value).size) undef).toList=vs++List.replicate (A.nt-args.length) undef:=by
   rw[hnt];simp[hargs.length]
  rw[this];refine bY.append hargs (bY.fF Si λi x hx=>?_);rw[List.getElem?_replicate]at hx ⊢;split at hx
  ·rename_i hlt;cases hx;rw[Ty hlt];exact⟨undef,rfl,iv m⟩
  ·cases hx
 ·intro m' a' w' s g k;have:=lN hres hv (Ts _) a'.defers m' a' w' s g k;cases e<;>first|exact this|cases he
def dP.wb{f A}(hA:bf P f=some A){a c args}(hs:jR P f (a++args++c) h v h'):dP P (.func (.func f) a c) args h v h':=by
 intro m w cv vs hr hf hargs;rw[VR]at hf;obtain⟨f',a',c',rfl,hfn,ha,hc⟩:=hf;simp only[yv]at hfn;subst hfn;refine⟨_,λw=>rfl,?_⟩;obtain⟨fn,cc,hfn,hb,_,_,_,hn⟩:=fu hA;simp only[invoke];rw[iT hfn (by rw[hb];rfl) hn];show CallsIn Fence.wide 0 P f _ w _;rw[callsIn_wide];have:=hs m w (a'++vs++c') hr (bY.append (bY.append ha hargs) hc)
 simpa using this
def fS(P:Program)(u:TypeId)(name:String):Option FuncId:=
 match P.info? u,P.underlying u with
 |some i,some d=>
  match i.methods.find? (·.name==name)with
  |some m=>
   match m.path.toList,m.func,d with
   |[],some (_,false),.pointer _=>none
   |[],some (f,false),_=>some f
   |_,_,_=>none
  |none=>none
 |_,_=>none
def uy{u:TypeId}{name f}(hm:fS P u name=some f)(n:Nat)(v:Value)(w:World):(method (n+1) u v name).run P w=.ok (f,v) w:=by
 unfold fS at hm;split at hm
 case h_2=>cases hm
 rename_i i d hi hd;split at hm
 case h_2=>cases hm
 rename_i mm PA;split at hm
 case h_3=>cases hm
 case h_1=>cases hm
 rename_i f' hp hfn hnp;cases hm;have hti:(typeInfo u).run P w=.ok i w:=by simp[typeInfo,hi]
 rw[method];simp only[TA,hti,Tp,PA,hp,follow,TN,hfn];have N4:∀wr,(receiverAt u (.val v) false wr).run P w=.ok v w:=by
  intro wr;unfold receiverAt;simp only[TA,Tz hd,Tp];rfl
 simp only[N4,Tp]
def dP.BD{u:TypeId}{name f A}(hm:fS P u name=some f)(hA:bf P f=some A){a args}(hs:jR P f (a::args) h v h'):dP P (.func (.method name) [] []) (.rZ u a::args) h v h':=by
 intro m w cv vs hr hf hargs;rw[VR]at hf;obtain⟨f',a',c',rfl,hfn,ha,hc⟩:=hf;simp only[yv]at hfn;subst hfn;rw[aP]at ha hc;subst ha;subst hc;obtain⟨x,vs,rfl,hx,Oq⟩:=aF.1 hargs;rw[VR]at hx;obtain⟨v',rfl,hx⟩:=hx;refine⟨_,λw=>rfl,?_⟩;obtain⟨fn,cc,hfn,hb,_,_,_,hn⟩:=fu hA;have e0:((#[]++(⟨.iface u v'::vs⟩:Array Value)):Array Value)[0]? =some (.iface u v'):=Si
 have e1:((#[]++(⟨.iface u v'::vs⟩:Array Value)):Array Value).extract 1 ((#[]++(⟨.iface u v'::vs⟩:Array Value)):Array Value).size=⟨vs⟩:=by
  apply VD;simp
 simp only[invoke,e0,e1,callMethod,TA,program];have hmt:=uy hm (P.types.size+Made.depth-1) v' w;have hdep:0<Made.depth:=De
 have hne:P.types.size+Made.depth-1+1=P.types.size+Made.depth:=Om
 rw[hne]at hmt;show AY P (Rel P m h w v h') ((Result.ok P w).andThen λa w'=>(Sem.run P (method (a.types.size+Made.depth) u v' name) w').andThen λa w'=>Sem.run P (callFunc a.fst (#[a.snd]++⟨vs⟩)) w');simp only[Tp,hmt];rw[iT hfn (by rw[hb];rfl) hn];show CallsIn Fence.wide 0 P f _ w _;rw[callsIn_wide];have:=hs m w (v'::vs) hr (aF.2 ⟨_,_,rfl,hx,Oq⟩);have e2:(#[v']++(⟨vs⟩:Array Value))=⟨v'::vs⟩:=by apply VD;simp
 rw[e2];exact this
end
def setArgs:TS->List Nat->List AV->TS
 |ts,p::ps,v::vs=>setArgs (ts.set p v) ps vs
 |ts,_,_=>ts
section
variable {P:Program}{m:bA}{h h':af}{w:World}{v:AV}
def HR.aside(hr:HR P m h w)(o:Obj):HR P m h (w.alloc o):=
 ⟨hr.bZ,λb e k hb hk=>(hr.dx b e k hb hk).heap (Go.RowKit.Below.heap_alloc w o _ (hr.lt b e hb)),hr.sep,hr.eZ,λb e hb=>by have:=hr.lt b e hb;simp;omega⟩
def Grow.aside(hr:HR P m h w)(o:Obj):Grow m h w m h (w.alloc o):=
 ⟨λ_ _=>rfl,Ts _,λb e hb he=>absurd (hr.bZ b e he) Om,λ_ _ h=>h,Si,rfl,rfl,rfl,λi hi _=>Go.RowKit.Below.heap_alloc w o i hi⟩
theorem nw:∀{ps}{args}{ts}{tmps}{vs},bY m ts tmps.toList->bY m args vs->bY m (setArgs ts ps args) ((ps.zip vs).foldl (λ(t:Array Value) (p:Nat×Value)=>t.setIfInBounds p.1 p.2) tmps).toList
 |[],_,_,_,_,ht,_=>by simpa [setArgs]using ht
 |p::ps,[],ts,tmps,vs,ht,ha=>by rw[aP]at ha;subst ha;simpa [setArgs]using ht
 |p::ps,x::args,ts,tmps,vs,ht,ha=>by
  obtain⟨y,ys,rfl,hy,hys⟩:=aF.1 ha;simp only[List.zip_cons_cons,List.foldl_cons,setArgs];exact nw (by rw[Array.toList_setIfInBounds];exact ht.set p hy) hys
theorem dP.yield{l ex ex2 ex4 e ts Qp ts3 tb tc ps pb pc asg body ab ac bb bc h2 h4 args Kq}
  (hl:h[l]? =some (.loop .ready ex ts ps asg body)) (hlen:args.length=ps.length)
  (hasg:∀r,Ev P (some r) asg (setArgs ts ps args) h .normal Qp h2) (hl2:h2[l]? =some (.loop .ready ex2 tb pb ab bb))
  (hbody:∀r,Ev P (some r) body Qp (h2.set l (.loop .busy ex2 tb pb ab bb)) e ts3 h4) (hl4:h4[l]? =some (.loop Kq ex4 tc pc ac bc)):
  dP P (.func (.yield l) [] []) args h (.bool (decide (e=.normal))) (h4.set l (.loop (if e=.normal then .ready else .done) e tc pc ac bc)):=by
 intro m w cv vs hr hf hargs;rw[VR]at hf;obtain⟨f',a',c',rfl,hfn,ha,hc⟩:=hf;rw[aP]at ha hc;subst ha;subst hc;obtain⟨el,Sg,rfl⟩:=hfn;refine⟨_,λw=>rfl,?_⟩;obtain⟨hown,fn,tmps,Ov,N3,df,hh,NK,Oa,hcb⟩:=hr.dx l el _ Sg hl;have hy:=run_yield (P:=P) (args:=(#[]++⟨vs⟩:Array Value)) hh (by simp[hargs.length,hlen]);simp only[invoke];rw[hy];show RoundIn Fence.wide 0 P el.cb fn _ Ov N3 w _;refine roundIn_of_wpIn trivial ?_;have Pu:bY m (setArgs ts ps args) (((⟨ps⟩:Array Tmp).zip (#[]++⟨vs⟩:Array Value)).foldl (λtmps (t,a)=>tmps.setIfInBounds t a) tmps).toList:=by
  have:=nw (ps:=ps) NK hargs;rw[<-Array.foldl_toList,Array.toList_zip]
  simpa using this
 refine hasg el.cb Ov Oa m _ w w.heap.size (Ts _) ⟨hr,Pu⟩ (Marks.nil m w _) _ λm1 a1 w1 s1 g1 k1=>?_
 have RG:m1 l=some el:=by rw[g1.ext l (hr.bZ _ _ Sg)];exact Sg
 obtain⟨_,fn2,RQ,Su,Q5,df2,hh2,hts2,hca2,hcb2⟩:=s1.hr.dx l el _ RG hl2;refine⟨_,run_beginRound hh2 rfl,?_⟩;have hlt1:el.cb<w1.heap.size:=s1.hr.lt _ _ RG;obtain⟨Pd,g2⟩:=iA s1.hr (o:=.loop {state:=.busy,pending:=ex2.jump,fn:=fn2,tmps:=RQ,params:=⟨pb⟩,assign:=Su,body:=Q5,defers:=df2}) RG hl2 rfl (k':=.loop .busy ex2 tb pb ab bb) (.inl rfl)
  ⟨hown,fn2,RQ,Su,Q5,df2,World.putObj_heap_same hlt1,hts2,hca2,hcb2⟩
 refine hbody el.cb N3 hcb m1 a1 _ w.heap.size (Ur g1.size g2.size) ⟨Pd,s1.ts⟩ (k1.grow g2 s1.hr.bZ) _ λm2 a2 w3 s2 g3 k2=>?_
 have hl2':l<h2.length:=(Th.1 hl2).1;have S3:m2 l=some el:=by rw[g3.ext l (by simpa using hl2')];exact RG
 obtain⟨_,fn4,RP,Sr,Q4,df4,hh4,hts4,hca4,hcb4⟩:=s2.hr.dx l el _ S3 hl4;have PV:el.cb<w3.heap.size:=s2.hr.lt _ _ S3;have fin:∀j:Option Code,j=e.jump->∃v w',(Instr.endRound el.cb j).run P w3=.ok v w'/\Rel P m h w (.bool (decide (e=.normal))) (h4.set l (.loop (if e=.normal then .ready else .done) e tc pc ac bc)) (.returned v) w':=by
  rintro j rfl;obtain⟨hr4,g4⟩:=iA s2.hr (o:=.loop {state:=if e=.normal then .ready else .done,pending:=e.jump,fn:=fn4,tmps:=RP,params:=⟨pc⟩,assign:=Sr,body:=Q4,defers:=df4}) S3 hl4 rfl
   (k':=.loop (if e=.normal then .ready else .done) e tc pc ac bc) (.inl rfl) ⟨hown,fn4,RP,Sr,Q4,df4,World.putObj_heap_same PV,hts4,hca4,hcb4⟩
  refine⟨_,_,run_endRound e.jump hh4,.bool (decide (e=.normal)),m2,?_,rfl,?_,?_⟩
  ·cases e<;>rfl
  ·have:(if e.jump.isNone=true then LoopState.ready else .done)=if e=.normal then .ready else .done:=by cases e<;>rfl
   simp only[this];exact hr4
  ·have:(if e.jump.isNone=true then LoopState.ready else .done)=if e=.normal then .ready else .done:=by cases e<;>rfl
   simp only[this];exact((g1.trans g2 hr.bZ).trans g3 hr.bZ).trans g4 hr.bZ
 cases e with
 |normal=>exact fin none rfl
 |exit id=>exact fin (some (.exit id)) rfl
 |ret=>exact fin (some .ret) rfl
theorem Ev.eM{g ps ps' asg body asg' body' ts ts' f A a c h2 st ex}(hA:bf P f=some A)(hg:val ts g=.func (.func f) a c)
  (hs:jR P f (a++[.func (.yield h.length) [] []]++c) (h++[.loop .ready .normal ts ps asg body]) v h2) (hl:h2[h.length]? =some (.loop st ex ts' ps' asg' body')) (bp:st≠.busy):
  Ev P none (.eM g ps asg body) ts h ex ts (h2.set h.length .dead):=by
 refine Ev.of λcc hns Qy m act w lo hlo s hm Q hQ=>?_
 cases cc with
 |rangeFunc og cps Ov N3=>
  simp only[compile]at Qy;split at Qy
  case h_2=>cases Qy
  rename_i g' x' y' hgo Oa hcb;cases Qy;have hv:=zD s hgo;rw[hg,VR]at hv;obtain⟨f',ca,Oc,hev,hfn,ha,hc⟩:=hv;simp only[yv]at hfn;subst hfn;obtain⟨W1,P1⟩:∃W1,w.alloc (.deferred (some []))=W1:=⟨_,rfl⟩;have hsz1:W1.heap.size=w.heap.size+1:=by rw[<-P1];simp
  have hr1:HR P m h W1:=by rw[<-P1];exact s.hr.aside _
  have g1:Grow m h w m h W1:=by rw[<-P1];exact Grow.aside s.hr _
  have hK1:W1.heap[w.heap.size]? =some (.deferred (some [])):=by rw[<-P1];exact World.alloc_heap_new w _
  refine wpIn_rangeFunc λfn _=>?_
  obtain⟨rec,N4⟩:∃rec:Loop,rec={state:=.ready,pending:=none,fn:=fn,tmps:=act.tmps,params:=cps,assign:=Ov,body:=N3,defers:=w.heap.size}:=⟨_,rfl⟩;obtain⟨Pd,g2⟩:=iK hr1 (.loop rec) (.loop .ready .normal ts cps.toList asg body) ⟨W1.heap.size,0,0,true⟩ rfl rfl (λm' hm'=>⟨rfl,fn,act.tmps,Ov,N3,w.heap.size,by rw[N4];exact World.alloc_heap_new W1 _,bY.mono hm' _ _ s.ts,Oa,hcb⟩);have hloc:(m.add h.length ⟨W1.heap.size,0,0,true⟩) h.length=some ⟨W1.heap.size,0,0,true⟩:=by simp[bA.add]
  have hle:m.le (m.add h.length ⟨W1.heap.size,0,0,true⟩):=g2.le s.hr.bZ;have QY:=run_enterLoop_outer (P:=P) (w:=w) fn act.tmps cps Ov N3;rw[P1,<-N4]at QY;obtain⟨ffn,fcode,hffn,hfb,_,_,_,S0⟩:=fu hA;have hmk:Marks (m.add h.length ⟨W1.heap.size,0,0,true⟩) (W1.alloc (.loop rec)) lo ([{target:=.collected w.heap.size,args:=#[] }]++act.defers):=by
   obtain⟨rs,k1,k2,k3⟩:=(hm.grow g1 s.hr.bZ).grow g2 s.hr.bZ;refine⟨w.heap.size::rs,by rw[k1];rfl,VH.2 ⟨λhin=>?_,k2⟩,λr hr'=>?_⟩
   ·obtain⟨rs0,j1,j2,j3⟩:=hm;have hrs:rs0=rs:=by
     have:rs0.map (λr=>({target:=.collected r,args:=#[] }:Deferred))=rs.map (λr=>({target:=.collected r,args:=#[] }:Deferred)):=by rw[<-j1,k1]
     exact List.map_inj_right (λx y hxy=>by simpa using hxy) |>.1 this
    subst hrs;have:=(Tw.1 (j3 _ hin).2.1).1;omega
   ·rcases TP.1 hr' with rfl|hr'
    ·refine⟨hlo,(Go.RowKit.Below.heap_alloc W1 _ _ Om).trans hK1,λb e hb=>?_⟩;unfold bA.add at hb;split at hb
     ·cases hb;show W1.heap.size≠_;omega
     ·have:=s.hr.lt b e hb;omega
    ·exact k3 r hr'
  refine⟨w.heap.size+1,_,W1.alloc (.loop rec),{target:=.fn (.func f) ⟨Oc⟩,args:=⟨ca⟩++#[.func (.yield (w.heap.size+1)) #[] #[]] },W1.alloc (.loop rec),f,(⟨ca⟩++#[.func (.yield (w.heap.size+1)) #[] #[]])++⟨Oc⟩,W1.alloc (.loop rec),
   QY,?_,λ_ _=>trivial,?_,λhd=>by simp[Fd,Fence.wide]at hd,?_⟩
  ·have QO:(#[Operand.const (.func (.yield (w.heap.size+1)) #[] #[])] :Array Operand).map act.eval=#[.func (.yield (w.heap.size+1)) #[] #[]]:=by simp[Act.eval]
   simp only[resolve,hev,rangeCall,QO];rfl
  ·simp only[invoke];exact iT hffn (by rw[hfb];rfl) S0
  ·have hargs:bY (m.add h.length ⟨W1.heap.size,0,0,true⟩) (a++[.func (.yield h.length) [] []]++c) (ca++[.func (.yield (w.heap.size+1)) #[] #[]]++Oc):=by
    refine bY.append (bY.append (bY.mono hle _ _ ha) (aF.2 ⟨_,[],rfl,⟨_,[],[],rfl,⟨_,hloc,by rw[hsz1]⟩,rfl,rfl⟩,aP.2 rfl⟩)) (bY.mono hle _ _ hc)
   have PE:=hs _ _ _ Pd hargs;rw[<-callsIn_wide (n:=0)]at PE;have S6:CallsIn (Fd none) (0-1) P f ((⟨ca⟩++#[.func (.yield (w.heap.size+1)) #[] #[]])++⟨Oc⟩) (W1.alloc (.loop rec)) (Rel P (m.add h.length ⟨W1.heap.size,0,0,true⟩) (h++[.loop .ready .normal ts cps.toList asg body]) (W1.alloc (.loop rec)) v h2):=by
    have Oi:((⟨ca⟩++#[.func (.yield (w.heap.size+1)) #[] #[]])++⟨Oc⟩:Array Value)=⟨ca++[.func (.yield (w.heap.size+1)) #[] #[]]++Oc⟩:=by apply VD;simp
    rw[Oi];exact PE
   refine S6.mono ?_;rintro e3 w3 ⟨cv,m3,rfl,hv3,hr3,g3⟩;have R8:m3 h.length=some ⟨W1.heap.size,0,0,true⟩:=by rw[g3.ext h.length Si];exact hloc
   obtain⟨hown3,fn3,tmps3,casg3,Tf,df3,hh3,_⟩:=hr3.dx h.length _ _ R8 hl;simp only at hh3;have Pj:=run_endLoop (P:=P) (l:=W1.heap.size) hh3 (by simpa using bp);obtain⟨hr4,g4⟩:=iA hr3 (o:=.loop {state:=.exhausted,pending:=ex.jump,fn:=fn3,tmps:=tmps3,params:=⟨ps'⟩,assign:=casg3,body:=Tf,defers:=df3}) R8 hl rfl (k':=.dead) (.inr rfl) trivial;have OZ:=hQ m3 {act with defers:=[{target:=.collected w.heap.size,args:=#[] }]++act.defers} _ ⟨hr4,bY.mono ((g2.trans g3 s.hr.bZ).le s.hr.bZ) _ _ s.ts⟩ (((g1.trans g2 s.hr.bZ).trans g3 s.hr.bZ).trans g4 s.hr.bZ) ((hmk.grow g3 Pd.bZ).grow g4 hr3.bZ);refine⟨ex.jump,_,by rw[<-hsz1];exact Pj,?_⟩
   cases ex with
   |normal=>exact OZ
   |exit id=>exact wpIn_exit OZ
   |ret=>exact wpIn_ret OZ
 |scope a=>exact absurd rfl (hns a)
 |region id ops draw=>rcases da (by simpa only[compile]using Qy)with⟨_,h1,_⟩|⟨_,h1,_⟩|⟨_,h1,_⟩<;>cases h1
 |block id a=>simp[compile]at Qy
 |loop a=>simp[compile]at Qy
 |_=>
  simp only[compile]at Qy
  (repeat' split at Qy)
  all_goals cases Qy
end
inductive fR where
 |aq
 |push (k:ai)
 |set (b:Nat) (k:ai)
 |lB (b:Nat) (k k':ai)
 deriving Inhabited
def fR.app:fR->af->af
 |.aq,h=>h
 |.push k,h=>h++[k]
 |.set b k,h=>h.set b k
 |.lB b k k',h=>h.set b k++[k']
def dO(es:Nat)(G:Nat->Option ai):AV->Option (List AV×Nat)
 |.ah=>some ([],0)
 |.slice b o n es'=>
  if es' =es then
   match G b with
   |some (.cells c _ _)=>if o+n*es<=c.length then some ((c.drop o).take (n*es),n)else none
   |_=>none
  else none
 |.str s=>if es=1 then some (s.map λb=>.int .u8 b.toNat,s.length)else none
 |_=>none
def gZ(lk:LK)(G:Nat->Option ai):AV->Option Nat
 |.str s=>if lk=.st then some s.length else none
 |.slice _ _ n _=>if lk=.sl then some n else none
 |.ah=>if lk=.sl then some 0 else none
 |.map r=>
  match G r with
  |some (.aK es)=>if lk=.mp then some es.length else none
  |_=>none
 |.cH=>if lk=.mp then some 0 else none
 |_=>none
def kF(k:xy)(x:AV)(G:Nat->Option ai)(N0:Nat):Option (AV×fR):=
 match k with
 |.Fo k=>
  match x with
  |.int _ n=>some (.int k (k.wrap n),.aq)
  |_=>none
 |.same=>
  match x with
  |.str s=>some (.str s,.aq)
  |_=>none
 |.Lc k=>
  match x with
  |.int _ n=>some (.ug k (k.nearest n),.aq)
  |_=>none
 |.Lt k=>
  match x with
  |.ug s b=>
   match (s.decode b).toInt .zero with
   |some n=>if BL s b=false/\k.min<=n/\n<=k.max then some (.int k n,.aq)else none
   |none=>none
  |_=>none
 |.Lu k=>
  match x with
  |.ug s b=>if s=k then some (.ug k b,.aq)else none
  |_=>none
 |.rZ u=>some (.rZ u x,.aq)
 |.JM=>
  match x with
  |.ah=>some (.str [],.aq)
  |.slice b o n es=>
   match dO 1 G (.slice b o n es)with
   |some (l,_)=>
    match l.mapM byteOf with
    |some r=>some (.str r,.aq)
    |none=>none
   |none=>none
  |_=>none
 |.Kz=>
  match x with
  |.str s=>some (.slice N0 0 s.length 1,.push (.cells (s.map λb=>.int .u8 b.toNat) true true))
  |_=>none
def kX(k:mD):(cC->AV)->(Nat->Option ai)->Nat->Option (AV×fR):=
 match k with
 |.dw x=>λρ G N0=>some (ρ x,.aq)
 |.pick c a b=>λρ G N0=>
  match ρ c with
  |.bool t=>some (if t then ρ a else ρ b,.aq)
  |_=>none
 |.box x=>λρ G N0=>if(ρ x).cells.all AV.one then some (.ptr N0 0,.push (.cells (ρ x).cells true false))else none
 |.lX n x=>λρ G N0=>if(ρ x).cells.all AV.one=true/\(ρ x).cells.length=n then some (.ptr N0 0,.push (.cells (ρ x).cells true false))else none
 |.build z ps=>λρ G N0=>
  match dA z (ps.map λp=>(p.1,p.2.1,ρ p.2.2))with
  |some c=>some (.agg c,.aq)
  |none=>none
 |.load n a=>λρ G N0=>
  match ρ a with
  |.ptr b o=>
   match G b with
   |some (.cells c _ _)=>
    match n with
    |none=>
     match c[o]? with
     |some x=>some (x,.aq)
     |none=>none
    |some n=>if o+n<=c.length then some (.agg ((c.drop o).take n),.aq)else none
   |_=>none
  |_=>none
 |.store n a x=>λρ G N0=>
  match ρ a with
  |.ptr b o=>
   match G b with
   |some (.cells c true tl)=>
    if(ρ x).cells.length=n/\(ρ x).cells.all AV.one=true/\o+n<=c.length then some (ar,.set b (.cells (eJ c o (ρ x).cells) true tl))else none
   |_=>none
  |_=>none
 |.bd x=>λρ G N0=>
  match ρ x with
  |.ptr b o=>some (.ptr b o,.aq)
  |.func (.func f) a c=>some (.func (.func f) a c,.aq)
  |.func (.yield f) a c=>some (.func (.yield f) a c,.aq)
  |.func (.methodOf t n) a c=>some (.func (.methodOf t n) a c,.aq)
  |.func (.via t p f q) a c=>some (.func (.via t p f q) a c,.aq)
  |_=>none
 |.bin op x y=>λρ G N0=>
  match dm op (ρ x) (ρ y)with
  |some v=>some (v,.aq)
  |none=>none
 |.eqv neg t x y=>λρ G N0=>
  match kY t (ρ x) (ρ y)with
  |some b=>some (.bool (if neg then !b else b),.aq)
  |none=>none
 |.un op x=>λρ G N0=>
  match um op (ρ x)with
  |some v=>some (v,.aq)
  |none=>none
 |.conv k x=>λρ G N0=>kF k (ρ x) G N0
 |.rv f a c=>λρ G N0=>some (.func f (a.map ρ) (c.map ρ),.aq)
 |.lL=>λρ G N0=>some (.map N0,.push (.aK []))
 |.tn es w z l c=>λρ G N0=>
  match ρ l,ρ c with
  |.int _ l,.int _ c=>
   if 0<=l/\l<=c/\(w:Int)*c<=2^48/\c<2^63 then some (.slice N0 0 l.toNat es,.push (.cells (cZ l.toNat z) true true))else none
  |_,_=>none
 |.sl es x lo hi=>λρ G N0=>
  match ρ x with
  |.slice b o n es'=>
   if es' =es then
    match gj (lo.map ρ) (hi.map ρ) n with
    |some (l,h')=>some (.slice b (o+l*es) (h'-l) es,.aq)
    |none=>none
   else none
  |.ah=>
   match gj (lo.map ρ) (hi.map ρ) 0 with
   |some _=>some (.ah,.aq)
   |none=>none
  |_=>none
 |.Gu x lo hi=>λρ G N0=>
  match ρ x with
  |.str s=>
   match gj (lo.map ρ) (hi.map ρ) s.length with
   |some (l,h')=>some (.str ((s.drop l).take (h'-l)),.aq)
   |none=>none
  |_=>none
 |.JI k es x lo hi=>λρ G N0=>
  match ρ x with
  |.ptr b o=>
   match G b with
   |some (.cells c _ _)=>
    if o+k*es<=c.length then
     match gj (lo.map ρ) (hi.map ρ) k with
     |some (l,h')=>some (.slice b (o+l*es) (h'-l) es,.aq)
     |none=>none
    else none
   |_=>none
  |_=>none
 |.bK off x=>λρ G N0=>
  match ρ x with
  |.ptr b o=>some (.ptr b (o+off),.aq)
  |_=>none
 |.bU es x i=>λρ G N0=>
  match ρ x,ρ i with
  |.slice b o n es',.int _ i=>if es' =es/\0<=i/\i<n then some (.ptr b (o+i.toNat*es),.aq)else none
  |_,_=>none
 |.pZ len es x i=>λρ G N0=>
  match ρ x,ρ i with
  |.ptr b o,.int _ i=>if 0<=i/\i<len then some (.ptr b (o+i.toNat*es),.aq)else none
  |_,_=>none
 |.part n off x=>λρ G N0=>
  match ρ x with
  |.agg cs=>
   match n with
   |none=>
    match cs[off]? with
    |some v=>some (v,.aq)
    |none=>none
   |some n=>some (.agg ((cs.drop off).take n),.aq)
  |_=>none
 |.Gx len es n x i=>λρ G N0=>
  match ρ x,ρ i with
  |.agg cs,.int _ i=>
   if 0<=i/\i<len then
    match n with
    |none=>
     match cs[i.toNat*es]? with
     |some v=>some (v,.aq)
     |none=>none
    |some n=>some (.agg ((cs.drop (i.toNat*es)).take n),.aq)
   else none
  |_,_=>none
 |.Gw x i=>λρ G N0=>
  match ρ x,ρ i with
  |.str s,.int _ i=>
   if 0<=i then
    match s[i.toNat]? with
    |some b=>some (.int .u8 b.toNat,.aq)
    |none=>none
   else none
  |_,_=>none
 |.look kk z ok m k=>λρ G N0=>
  match ρ m with
  |.cH=>some (if ok then .dh [z,.bool false]else z,.aq)
  |.map r=>
   match G r with
   |some (.aK es)=>
    match gF kk (ρ k) es with
    |some (some v)=>some (if ok then .dh [v,.bool true]else v,.aq)
    |some none=>some (if ok then .dh [z,.bool false]else z,.aq)
    |none=>none
   |_=>none
  |_=>none
 |.eO kk m k x=>λρ G N0=>
  match ρ m with
  |.map r=>
   match G r with
   |some (.aK es)=>
    match mI kk (ρ k) (ρ x) es with
    |some es'=>some (ar,.set r (.aK es'))
    |none=>none
   |_=>none
  |_=>none
 |.zk x=>λρ G N0=>
  match ρ x with
  |.str s=>some (.ptr N0 0,.push (.iter s 0))
  |_=>none
 |.o8 x=>λρ G N0=>
  match ρ x with
  |.ptr b 0=>
   match G b with
   |some (.iter s pos)=>
    if pos<s.length then
     let d:=Utf8.decode ⟨⟨s⟩⟩ pos
     some (.dh [.bool true,.int .i64 pos,.int .i32 d.1],.set b (.iter s (pos+d.2)))
    else some (.dh [.bool false],.aq)
   |_=>none
  |_=>none
 |.ext x i=>λρ G N0=>
  match ρ x with
  |.dh l=>
   match l[i]? with
   |some v=>some (v,.aq)
   |none=>none
  |_=>none
 |.len lk x=>λρ G N0=>
  match gZ lk G (ρ x)with
  |some n=>some (.int .i64 n,.aq)
  |none=>none
 |.xR n=>λρ G N0=>some (.int .i64 n,.aq)
 |.wL es x y=>λρ G N0=>
  match ρ x,dO es G (ρ y)with
  |.slice b o n es',some (ys,k)=>
   if es' =es then
    if min k n=0 then some (.int .i64 0,.aq)
    else
     match G b with
     |some (.cells c true tl)=>if o+min k n*es<=c.length then some (.int .i64 (min k n:Nat),.set b (.cells (eJ c o (ys.take (min k n*es))) true tl))else none
     |_=>none
   else none
  |.ah,some _=>some (.int .i64 0,.aq)
  |_,_=>none
 |.mx x l=>λρ G N0=>
  match fL nH (ρ x) (l.map ρ)with
  |some v=>some (v,.aq)
  |none=>none
 |.mn x l=>λρ G N0=>
  match fL nG (ρ x) (l.map ρ)with
  |some v=>some (v,.aq)
  |none=>none
 |_=>λρ G N0=>none
def na(es w:Nat)(s y:AV)(G:Nat->Option ai)(N0:Nat):Option (AV×fR):=
 match dO es G y with
 |none=>none
 |some (ys,k)=>
  match s with
  |.ah=>if k=0 then(if ys.isEmpty then some (.ah,.aq)else none)else if k*w<=2^46 then some (.slice N0 0 k es,.push (.cells ys true true))else none
  |.slice b o m es'=>
   if es' =es then
    if k=0 then(if ys.isEmpty then some (.slice b o m es,.aq)else none)
    else if(m+k)*w<=2^46 then
     match G b with
     |some (.cells c true true)=>if o+m*es<=c.length then some (.slice N0 0 (m+k) es,.lB b .dead (.cells ((c.drop o).take (m*es)++ys) true true))else none
     |some (.cells c false true)=>if o+m*es=c.length then some (.slice N0 0 (m+k) es,.lB b (.cells c false false) (.cells (c.drop o++ys) false true))else none
     |some (.cells c true false)=>if o+m*es=c.length then some (.slice N0 0 (m+k) es,.push (.cells (c.drop o++ys) true true))else none
     |_=>none
    else none
   else none
  |_=>none
def stepT(k:mD):(cC->AV)->(Nat->Option ai)->Nat->Option (AV×fR):=
 match k with
 |.call _ _=>λ_ _ _=>none
 |.app es w x y=>λρ G N0=>na es w (ρ x) (ρ y) G N0
 |.aD es n z ps=>λρ _ N0=>
  match dA (cZ n z) (ps.map λp=>(p.1,es,ρ p.2))with
  |some c=>if c.all AV.one=true/\c.length=n*es then some (.slice N0 0 n es,.push (.cells c true (!Nat.beq n 0)))else none
  |none=>none
 |k=>kX k
def mY(es:Nat)(h:af)(x:AV):dO es (λb=>h[b]?) x=cellsIn es h x:=by
 cases x<;>rfl
def BN(lk:LK)(h:af)(x:AV):gZ lk (λb=>h[b]?) x=xS lk h x:=by
 cases x<;>rfl
def An{k x h v e}(hs:kF k x (λb=>h[b]?) h.length=some (v,e)):iI k x h=some (v,e.app h):=by
 cases k<;>simp only[kF,mY]at hs<;>(repeat' split at hs)<;>first|(cases hs;done)|(cases hs;simp[iI,fR.app, *])
def Fq{k ρ h v e}(hs:kX k ρ (λb=>h[b]?) h.length=some (v,e)):cN k ρ h=some (v,e.app h):=by
 cases k with
 |conv k x=>exact An (k:=k) (x:=ρ x) hs
 |tn es w z l c=>
  simp only[kX]at hs;split at hs
  case h_2=>cases hs
  rename_i kl il kc ic hl hc;split at hs
  case isFalse=>cases hs
  rename_i NX;cases hs;simp only[cN,hl,hc];rw[Ty NX];rfl
 |_=>simp only[kX,mY,BN]at hs<;>(repeat' split at hs)<;>first|(cases hs;done)|(cases hs;simp[cN,fR.app, *])
def lu{k ρ h v e}(hs:stepT k ρ (λb=>h[b]?) h.length=some (v,e)):kI k ρ h v (e.app h):=by
 have hf:∀k,kX k ρ (λb=>h[b]?) h.length=some (v,e)->cN k ρ h=some (v,e.app h):=λk hk=>Fq hk
 cases k with
 |call f args=>cases hs
 |app es w x y=>
  simp only[stepT,na,mY]at hs;show ud es w (ρ x) (ρ y) h v (e.app h);split at hs
  ·cases hs
  rename_i ys k hy;split at hs
  ·rename_i hx;rw[hx];split at hs
   ·rename_i hk;split at hs
    ·rename_i hys;cases hs;subst hk;exact .none (by rw[hy];cases ys<;>first|rfl|cases hys) (.inl rfl)
    ·cases hs
   ·split at hs
    ·rename_i hk hb;cases hs;exact .new ys k true hy Om hb rfl
    ·cases hs
  ·rename_i b o m es' hx;rw[hx];split at hs
   case isFalse=>cases hs
   rename_i hes;subst hes;split at hs
   ·rename_i hk;split at hs
    ·rename_i hys;cases hs;subst hk;exact .none (by rw[hy];cases ys<;>first|rfl|cases hys) (.inr ⟨b,o,m,rfl⟩)
    ·cases hs
   ·rename_i hk;split at hs
    case isFalse=>cases hs
    rename_i hb;split at hs
    ·rename_i c hc;split at hs
     case isFalse=>cases hs
     rename_i hl;cases hs;exact .over ys k b o m c true hy Om hb rfl hc hl
    ·rename_i c hc;split at hs
     case isFalse=>cases hs
     rename_i hl;cases hs;exact .on ys k b o m c false hy Om hb rfl hc hl
    ·rename_i c hc;split at hs
     case isFalse=>cases hs
     rename_i hl;cases hs;exact .full ys k b o m c hy Om hb rfl hc hl
    ·cases hs
  ·cases hs
 |aD es n z ps=>
  simp only[stepT]at hs;split at hs
  case h_2=>cases hs
  rename_i c hc;split at hs
  case isFalse=>cases hs
  rename_i NX;cases hs;exact⟨c,true,_,hc,NX.1,NX.2,rfl,rfl⟩
 |_=>exact hf _ hs
inductive Acc where
 |no
 |rd (b:Nat)
 |wr (b:Nat) (k:ai)
def Acc.dx:Acc->Option Nat
 |.no=>none
 |.rd b=>some b
 |.wr b _=>some b
def Acc.app(h:af):Acc->af
 |.wr b k=>h.set b k
 |_=>h
def xK{k}(hk:ec k=true){ρ G G' N N'}:stepT k ρ G N=stepT k ρ G' N':=by
 cases k<;>first|(cases hk;done)|rfl|skip
 case conv c x=>cases c<;>first|(cases hk;done)|rfl
 case len lk x=>
  have hl:lk≠.mp:=λe=>by rw[e]at hk;cases hk
  have e:gZ lk G (ρ x)=gZ lk G' (ρ x):=by
   cases lk<;>first|exact absurd rfl hl|skip
   all_goals
    cases ρ x<;>first|rfl|(simp only[gZ,reduceCtorEq,TT];repeat' split)<;>rfl
  simp only[stepT,kX,e]
def xQ{n a ρ G G' N N' b o}(ha:ρ a=.ptr b o)(hb:G b=G' b):stepT (.load n a) ρ G N=stepT (.load n a) ρ G' N':=by
 simp only[stepT,kX,ha,hb]
def uo{n a x ρ G G' N N' b o}(ha:ρ a=.ptr b o)(hb:G b=G' b):stepT (.store n a x) ρ G N=stepT (.store n a x) ρ G' N':=by
 simp only[stepT,kX,ha,hb]
def uc(o:aZ)(ts:TS)(h:af)(v:AV)(c:Acc):Prop:=
 (¬wanted o.gd ts/\c=.no/\v=ar)\/wanted o.gd ts/\((ec o.k=true/\c=.no/\stepT o.k (val ts) (λz=>h[z]?) h.length=some (v,.aq))\/
  (∃n a b off,o.k=.load n a/\val ts a=.ptr b off/\c=.rd b/\stepT o.k (val ts) (λz=>h[z]?) h.length=some (v,.aq))\/
  (∃n a x b off k,o.k=.store n a x/\val ts a=.ptr b off/\c=.wr b k/\stepT o.k (val ts) (λz=>h[z]?) h.length=some (v,.set b k)))
theorem uc.run{P o ts h g v c}(hs:uc o ts h v c)(hb:∀b,c.dx=some b->g[b]? =h[b]?):cQ P o ts g (put ts o.dst v) (c.app g):=by
 rcases hs with⟨hw,rfl,rfl⟩|⟨hw,hs⟩
 ·exact .skip hw
 rcases hs with⟨hp,rfl,hs⟩|⟨n,a,b,off,hk,ha,rfl,hs⟩|⟨n,a,x,b,off,k,hk,ha,rfl,hs⟩
 ·refine .run hw ?_ ?_
  ·cases hk:o.k<;>rw[hk]at hp<;>first|(cases hp;done)|trivial
  ·rw[xK hp (G':=λz=>g[z]?) (N':=g.length)]at hs;have:=lu hs;cases hk:o.k<;>rw[hk]at hp this<;>first|(cases hp;done)|exact this
 ·rw[hk]at hs;rw[xQ ha (G':=λz=>g[z]?) (N':=g.length) (hb b rfl).symm]at hs;exact GL
 ·rw[hk]at hs;rw[uo ha (G':=λz=>g[z]?) (N':=g.length) (hb b rfl).symm]at hs;exact GL
def yt:List aZ->TS->af->List Acc->TS->Prop
 |[],ts,_,cs,ts'=>cs=[]/\ts' =ts
 |o::r,ts,h,cs,ts'=>∃v c cs1,uc o ts h v c/\cs=c::cs1/\yt r (put ts o.dst v) h cs1 ts'
theorem yt.row{h}:∀{l}{ts ts'}{cs},yt l ts h cs ts'->∃T:Nat->TS,T 0=ts/\T l.length=ts'/\cs.length=l.length/\∀j o,l[j]? =some o->∃v c,cs[j]? =some c/\uc o (T j) h v c/\T (j+1)=put (T j) o.dst v
 |[],ts,ts',cs,hs=>by
  obtain⟨rfl,rfl⟩:=hs;exact⟨λ_=>ts',rfl,rfl,rfl,λj o ho=>by simp at ho⟩
 |o::r,ts,ts',cs,hs=>by
  obtain⟨v,c,cs1,bp,rfl,hr⟩:=hs;obtain⟨T,hT,OT,hl,hrow⟩:=hr.row;refine⟨λi=>match i with| 0=>ts|i+1=>T i,rfl,OT,by simp[hl],λj x hx=>?_⟩;cases j with
  |zero=>simp at hx;subst hx;exact⟨v,c,rfl,bp,hT⟩
  |succ j=>
   obtain⟨v',c',h1,h2,h3⟩:=hrow j x (by simpa using hx);exact⟨v',c',by simpa using h1,h2,h3⟩
def c7:af->List Acc->af
 |h,[]=>h
 |h,c::cs=>c7 (c.app h) cs
def dJ:List Acc->Prop
 |[]=>True
 |c::cs=>(∀b,c.dx=some b->∀x∈cs,x.dx=some b->∀k k',c=Acc.wr b k\/x=Acc.wr b k'->False)/\dJ cs
theorem dJ.ne:∀{cs:List Acc},dJ cs->∀{i j b:Nat}{k:ai}{c:Acc},cs[i]? =some (.wr b k)->i≠j->cs[j]? =some c->c.dx≠some b
 |[],_,i,j,b,k,c,h1,_,_=>by simp at h1
 |x::xs,h,i,j,b,k,c,h1,hij,h2=>by
  intro hc;cases i with
  |zero=>
   simp at h1;subst h1;cases j with
   |zero=>exact hij rfl
   |succ j=>exact h.1 b rfl c (T6 (by simpa using h2)) hc k k (.inl rfl)
  |succ i=>
   cases j with
   |zero=>
    simp at h2;subst h2;exact h.1 b hc _ (T6 (by simpa using h1)) rfl k k (.inr rfl)
   |succ j=>exact dJ.ne h.2 (i:=i) (j:=j) (by simpa using h1) Om (by simpa using h2) hc
def rK(h:af)(c:Acc):(c.app h).length=h.length:=by cases c<;>simp[Acc.app]
def vw{h:af}{c:Acc}{b:Nat}(hb:∀k,c=.wr b k->False):(c.app h)[b]? =h[b]? :=by
 cases c with
 |wr b' k=>
  have:b'≠b:=λe=>hb k (by rw[e])
  simp[Acc.app,Ua this]
 |_=>rfl
theorem nh:∀{cs:List Acc}{h:af}{b:Nat},(∀(j:Nat) (k:ai),cs[j]? =some (Acc.wr b k)->False)->(c7 h cs)[b]? =h[b]?
 |[],h,b,_=>rfl
 |c::cs,h,b,hb=>by
  rw[c7,nh (λj k hj=>hb (j+1) k (by simpa using hj))];exact vw λk hk=>hb 0 k (by simp[hk])
theorem qT:∀{cs:List Acc}{h:af},dJ cs->∀{j b:Nat}{k:ai},b<h.length->cs[j]? =some (.wr b k)->(c7 h cs)[b]? =some k
 |[],h,_,j,b,k,_,hj=>by simp at hj
 |c::cs,h,ho,j,b,k,hb,hj=>by
  cases j with
  |zero=>
   simp at hj;subst hj;rw[c7,nh (λj k' hj=>dJ.ne ho (i:=0) (j:=j+1) (b:=b) (k:=k) rfl Om (by simpa using hj) rfl)];simp[Acc.app,hb]
  |succ j=>
   rw[c7];exact qT ho.2 (by rw[rK];exact hb) (by simpa using hj)
structure w8(h:af)(cs:List Acc)(S:Nat->Bool)(g:af):Prop where
 len:g.length=h.length
 wr:∀j b k,S j=true->cs[j]? =some (.wr b k)->g[b]? =some k
 ne:∀b,(∀j k,S j=true->cs[j]? =some (.wr b k)->False)->g[b]? =h[b]?
def w8.all{h g:af}{cs:List Acc}{S:Nat->Bool}(H:w8 h cs S g)(ho:dJ cs)(hS:∀j c,cs[j]? =some c->S j=true):g=c7 h cs:=by
 apply Vt
 intro b;by_cases hx:∃(j:Nat) (k:ai),cs[j]? =some (Acc.wr b k)
 ·obtain⟨j,k,hj⟩:=hx;have h1:=H.wr j b k (hS j _ hj) hj;have:b<h.length:=by rw[<-H.len];exact(Th.1 h1).1
  rw[h1,qT ho this hj]
 ·rw[H.ne b λj k _ hj=>hx ⟨j,k,hj⟩,nh λj k hj=>hx ⟨j,k,hj⟩]
def rl{P:Program}(hmix:P.follows .mixedOrders=true){ops:Array Oper}{l:List aZ}(hed:jd (Region.before ops) ops=true)(hsl:jV (Region.before ops) ops=true)
  (hc:dC (λ_ o=>bj P ops false o) ops.toList 0=some l) {ts ts':TS}{h:af}{cs:List Acc}(hs:yt l ts h cs ts') (hok:dJ cs) {m:bA}{a:Act}{w:World}
  (st:St P m ts h a w) (ro:Option Nat) (Q:Exit->Act->World->Prop) (hQ:∀m' a' w',St P m' ts' (c7 h cs) a' w'->Grow m h w m' (c7 h cs) w'->a'.defers=a.defers->Q .normal a' w') (id:Nat):
  (Code.region id ops true).wpIn (Fd ro) 0 P Q a w:=by
 refine wpIn_region_any hmix ?_;obtain⟨T,rfl,rfl,hcl0,hrow⟩:=hs.row;obtain⟨NW,NO⟩:=fc hc;simp only[Vh]at NW;have Q0:∀(j:Nat) (io:aZ),l[j]? =some io->∃o,ops[j]? =some o/\bj P ops false o=some io:=λj io hj=>by
  exact z24
 have OF:∀(j:Nat) (io:aZ) (d:Nat),l[j]? =some io->io.dst=some d->∃o,ops[j]? =some o/\o.dst=some d:=λj io d hj hd=>by
  exact z59
 have huniq:∀(i j:Nat) (oi oj:aZ) (d:Nat),l[i]? =some oi->l[j]? =some oj->oi.dst=some d->oj.dst=some d->i=j:=λi j oi oj d hi hj h1 h2=>by
  exact z21
 have hTl:∀j,j<=l.length->(T j).length=(T 0).length:=by
  intro j
  induction j with
  |zero=>intro _;rfl
  |succ j ih=>
   intro hj;obtain⟨v,c,_,_,hv⟩:=hrow j _ (Tk (show j<l.length by omega));rw[hv,kO];exact ih Om
 have NS:∀x y t,x<=y->y<=l.length->(∀(j:Nat) (o:aZ),x<=j->j<y->l[j]? =some o->o.dst≠some t)->(T y).getD t ar=(T x).getD t ar:=by
  intro x y t hxy hy hno;have:=rW (T:=T) (t:=t) (a:=x) (y-x) (λj h1 h2=>by
   have hj:l[j]? =some (l[j]'Om):=Tk Om;obtain⟨v,c,_,_,hv⟩:=hrow j _ hj;exact⟨_,v,hv,hno j _ h1 Om hj⟩)
  rwa [show x+(y-x)=y from by omega]at this
 have hdone:∀(listed:Array Bool) (g:af) (a1:Act) (w1:World),(∀i,i<ops.size->listed.getD i false=true)->w8 h cs (λj=>listed.getD j false) g->HR P m g w1->Grow m h w m g w1->a1.tmps.size=(T 0).length->
   (∀(d:Nat),(∀(j:Nat) (o:aZ),l[j]? =some o->listed.getD j false=true->o.dst≠some d)->VR m ((T 0).getD d ar) (a1.tmps.getD d undef))->
   (∀(d j:Nat) (o:aZ),l[j]? =some o->listed.getD j false=true->o.dst=some d->VR m ((T (j+1)).getD d ar) (a1.tmps.getD d undef))->a1.defers=a.defers->Q .normal a1 w1:=by
  intro listed g a1 w1 hall H hr hg dq h1 h2 hd;have e:=H.all hok λj c hj=>hall j (by have:=(Th.1 hj).1;omega)
  subst e;refine hQ m a1 w1 ⟨hr,bY.fF ?_ ?_⟩ hg hd
  ·exact Eg
  ·intro t x hx;exact MZ
 have key:∀(fuel:Nat) (listed:Array Bool) (g:af) (a1:Act) (w1:World),listed.size=ops.size->oD listed ops.size<=fuel->
   (∀j x,listed.getD j false=true->x<ops.size->ahead (Region.before ops) x j=true->listed.getD x false=true)->
   w8 h cs (λj=>listed.getD j false) g->HR P m g w1->Grow m h w m g w1->a1.tmps.size=(T 0).length->
   (∀(d:Nat),(∀(j:Nat) (o:aZ),l[j]? =some o->listed.getD j false=true->o.dst≠some d)->VR m ((T 0).getD d ar) (a1.tmps.getD d undef))->
   (∀(d j:Nat) (o:aZ),l[j]? =some o->listed.getD j false=true->o.dst=some d->VR m ((T (j+1)).getD d ar) (a1.tmps.getD d undef))->a1.defers=a.defers->wpAnyIn (Fd ro) 0 P .any ops Q fuel listed a1 w1:=by
  intro fuel
  induction fuel with
  |zero=>
   intro listed g a1 w1 NT hu hcl H hr hg dq h1 h2 hd;have hall:=jz ops.size (show oD listed ops.size=0 by omega);exact⟨jY NT hall,hdone listed g a1 w1 hall H hr hg dq h1 h2 hd⟩
  |succ fuel ih=>
   intro listed g a1 w1 NT hu hcl H hr hg dq h1 h2 hd;refine⟨λhrn=>hdone listed g a1 w1 (jX hed NT hrn) H hr hg dq h1 h2 hd,λi hi=>?_⟩;obtain⟨o,ho,OC,RH⟩:=(gp NT).1 hi;have hin:i<ops.size:=(Tw.1 ho).1;obtain⟨io,hio,NQ⟩:=NO i o (by simpa using ho);obtain⟨v,c,hci,bp,hTi⟩:=hrow i io hio;have hahead:∀x,x<ops.size->ahead (Region.before ops) x i=true->listed.getD x false=true:=λx hx ha=>by
    exact z28
   have Pm:∀j x,(listed.setIfInBounds i true).getD j false=true->x<ops.size->ahead (Region.before ops) x j=true->(listed.setIfInBounds i true).getD x false=true:=by
    intro j x hj hx ha;exact JG
   have QF:oD (listed.setIfInBounds i true) ops.size<=fuel:=by
    exact JC
   have hslot:∀t,t∈o.looksAt ops->VR m ((T i).getD t ar) (a1.tmps.getD t undef):=by
    intro t ht;exact M0
   have PF:∀b,c.dx=some b->g[b]? =h[b]? :=λb hb=>H.ne b λj k hj Sb=>by
    by_cases e1:j=i
    ·subst e1
     try simp only at hj
     rw[OC]at hj;cases hj
    ·exact dJ.ne hok Sb e1 hci hb
   refine ee ho NQ hr.gv hr (by rw[dq,hTl i Om]) hslot (bp.run (P:=P) PF) ro _ Q ?_;intro cv v' m' w' OT OV hr' NY;have N6:io.dst=o.dst:=(cM NQ).1;have hm:m' =m:=by
    funext b;by_cases hb:b<g.length
    ·exact NY.ext b hb
    ·have e1:m b=none:=by
      cases hx:m b with
      |none=>rfl
      |some e=>exact absurd (hr.bZ b e hx) hb
     have e2:m' b=none:=by
      cases hx:m' b with
      |none=>rfl
      |some e=>exact absurd (by have:=hr'.bZ b e hx;rwa [rK]at this) hb
     rw[e1,e2]
   subst hm;have hlt:(listed.setIfInBounds i true).getD i false=true:=by rw[cE Om,Ty rfl]
   have hne:∀j,j≠i->(listed.setIfInBounds i true).getD j false=listed.getD j false:=λj hj=>by rw[cE Om,Tt hj]
   have Qe:(a1.put o.dst cv).tmps=fB a1.tmps o.dst cv:=by cases o.dst<;>rfl
   refine ih _ (c.app g) (a1.put o.dst cv) w' (by simp[NT]) QF Pm ⟨by rw[rK];exact H.len,?_,?_⟩ hr' (hg.trans NY st.hr.bZ) (by rw[Qe,dK];exact dq) ?_ ?_ (by rw[put_defers];exact hd)
   ·intro j b k hj Sb
    try simp only at hj
    by_cases e1:j=i
    ·subst e1;rw[hci]at Sb;cases Sb;have:b<g.length:=by
      by_cases hb:b<g.length
      ·exact hb
      ·have e:=PF b rfl;rcases bp with⟨_,h,_⟩|⟨_,hs3⟩
       ·cases h
       rcases hs3 with⟨_,h,_⟩|⟨_,_,_,_,_,_,h,_⟩|⟨n,aa,x,b',off,k',hk,ha,h,hs3⟩
       ·cases h
       ·cases h
       ·cases h;rw[hk]at hs3;rw[U6 Om]at e;simp only[stepT,kX,ha,<-e]at hs3;cases hs3
     simp[Acc.app,this]
    ·rw[hne j e1]at hj;rw[vw λk' hk'=>by
      subst hk';exact dJ.ne hok Sb e1 hci rfl]
     exact H.wr j b k hj Sb
   ·intro b hb;rw[vw λk' hk'=>hb i k' hlt (by rw[hci,hk'])];exact H.ne b λj k hj Sb=>by
     try simp only at hj
     exact hb j k (by
      show(listed.setIfInBounds i true).getD j false=true;by_cases e1:j=i
      ·subst e1;exact hlt
      ·rw[hne j e1];exact hj) Sb
   ·intro d hdn;have Pe:o.dst≠some d:=by rw[<-N6];exact hdn i io hio hlt
    rw[Qe,cR Pe];refine h1 d λj oj hj hl=>hdn j oj hj ?_
    exact JD
   ·intro d j oj hj hl Ql;by_cases e1:j=i
    ·subst e1;rw[hio]at hj;cases hj;rw[hTi,Qe,<-N6,Ql];have hvv:put (T j) (some d) v=put (T j) (some d) v':=by
      have:=OT;rw[<-N6,Ql]at this;exact this
     rw[hvv];exact jD (by rw[dq,hTl j Om]) OV
    ·have Pe:o.dst≠some d:=λhx=>by
      exact JT
     rw[Qe,cR Pe];rw[hne j e1]at hl;exact h2 d j oj hj hl Ql
 have NN:∀j,(Array.replicate ops.size false).getD j false=false:=λj=>by
  exact JE
 refine key ops.size (Array.replicate ops.size false) h a _ Si ?_ (λj x hj _ _=>by simp[NN j]at hj) ⟨rfl,λj b k hj _=>by simp[NN j]at hj,λb _=>rfl⟩ st.hr.drew (Grow.refl m _ w st.hr.bZ).drew ?_ (λd _=>lA st.ts d) (λd j o _ hj _=>by simp[NN j]at hj) rfl
 ·exact JH
 ·exact z105
theorem Ev.pX{P ro}(hmix:P.follows .mixedOrders=true){l ts ts' h cs}(hs:yt l ts h cs ts')(hok:dJ cs):Ev P ro (.pX l) ts h .normal ts' (c7 h cs):=by
 refine Ev.of λcc hns hc m a w lo hlo st hm Q hQ=>?_
 cases cc with
 |region id ops draw=>
  rcases da (by simpa only[compile]using hc)with⟨l',h1,hl⟩|⟨l',h1,hd,⟨l2,hl2⟩,hz⟩|⟨_,h1,_⟩<;>cases h1
  subst hd;simp only[cg,TQ]at hl2;split at hl2
  case isFalse=>cases hl2
  rename_i N7;simp only[TL]at N7;exact rl hmix N7.1 N7.2 hz hs hok st ro Q (λm' a' w' s g d=>hQ m' a' w' s g (by rw[d];exact hm.grow g st.hr.bZ)) id
 |scope a=>exact absurd rfl (hns a)
 |block id a=>simp[compile]at hc
 |loop a=>simp[compile]at hc
 |_=>
  exact yH
def AL(cs:List Acc):Acc->List Acc
 |.no=>cs
 |c=>cs++[c]
def ym{cs c}(hc:c≠.no):AL cs c=cs++[c]:=by cases c<;>first|exact absurd rfl hc|rfl
def yB(h:af):List aZ->TS->List Acc->(TS->List Acc->Prop)->Prop
 |[],ts,cs,K=>K ts cs
 |o::r,ts,cs,K=>∃v c,uc o ts h v c/\yB h r (put ts o.dst v) (AL cs c) K
theorem ng:∀{a b c},(∀x∈b,x=Acc.no)->dJ (a++c)->dJ (a++b++c)
 |[],[],c,_,h=>h
 |[],x::b,c,hb,h=>by
  have hx:=hb x Si;subst hx;exact⟨λn hn=>by(cases hn),by simpa using ng (a:=[]) (b:=b) (λy hy=>hb y (TK _ hy)) h⟩
 |x::a,b,c,hb,h=>by
  refine⟨λn hn y hy hyn k k' hk=>?_,ng (a:=a) hb h.2⟩;rcases Tn.1 hy with hy|hy
  ·rcases Tn.1 hy with hy|hy
   ·exact h.1 n hn y (Tn.2 (.inl hy)) hyn k k' hk
   ·rw[hb y hy]at hyn;cases hyn
  ·exact h.1 n hn y (Tn.2 (.inr hy)) hyn k k' hk
theorem yB.sound{h}:∀{l}{ts}{cs}{K},yB h l ts cs K->∃Qa Te ts',yt l ts h Qa ts'/\K ts' (cs++Te)/\(∀(a c:List Acc),dJ (a++Te++c)->dJ (a++Qa++c))/\(∀g,c7 g Qa=c7 g Te)
 |[],ts,cs,K,H=>⟨[],[],ts,⟨rfl,rfl⟩,by rw[TH];exact H,λ_ _ h=>h,λ_=>rfl⟩
 |o::r,ts,cs,K,H=>by
  obtain⟨v,c,h1,H⟩:=H;obtain⟨Qa,Te,ts',h2,h3,h4,h5⟩:=yB.sound (l:=r) H;by_cases hc:c=.no
  ·subst hc;refine⟨.no::Qa,Te,ts',⟨v,.no,Qa,h1,rfl,h2⟩,h3,λa d hd=>?_,λg=>h5 g⟩;have:=ng (a:=a) (b:=[.no]) (c:=Qa++d) Si (by simpa using h4 a d hd)
   simpa using this
  ·rw[ym hc]at h3;refine⟨c::Qa,c::Te,ts',⟨v,c,Qa,h1,rfl,h2⟩,by simpa using h3,λa d hd=>?_,λg=>by rw[c7,c7,h5]⟩;have:=h4 (a++[c]) d (by simpa using hd)
   simpa using this
theorem yB.mono{h}:∀{l}{ts}{cs}{K K'},yB h l ts cs K->(∀ts' cs',K ts' cs'->K' ts' cs')->yB h l ts cs K'
 |[],ts,cs,K,K',H,hk=>hk _ _ H
 |o::r,ts,cs,K,K',H,hk=>by
  obtain⟨v,c,h1,H⟩:=H;exact⟨v,c,h1,yB.mono (l:=r) H hk⟩
end Go.Abs
