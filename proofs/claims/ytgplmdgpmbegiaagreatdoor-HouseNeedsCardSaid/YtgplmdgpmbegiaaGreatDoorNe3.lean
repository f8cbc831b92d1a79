/- A part of the proof that HouseNeeds holds. No condition. -/
import Derived.Test.YtgplmdgpmbegiaaGreatDoorNe2
import Derived.RangeFuncRecord
import Derived.Test.YtgplmdgpmbegiaaGreatDoorNe0
set_option maxHeartbeats 4000000
set_option linter.all false
namespace Go.Abs
def ra(listed:Array Bool):Nat->Nat
 | 0=>0
 |n+1=>ra listed n+(if listed.getD n false then 0 else 1)
def c8{listed:Array Bool}{i j:Nat}(hi:i<listed.size):(listed.setIfInBounds i true).getD j false=(if j=i then true else listed.getD j false):=by
 by_cases h:j=i
 ·subst h;simp[aas,aaV hi]
 ·rw[ZN h];simp[aas,abk (aa3 h)]
theorem BK{listed:Array Bool}{i:Nat}(hi:i<listed.size):∀n,n<=i->ra (listed.setIfInBounds i true) n=ra listed n
 | 0,_=>rfl
 |n+1,h=>by
  simp only[ra];rw[BK hi n Om,c8 hi,ZN (by omega:¬n=i)]
theorem BJ{listed:Array Bool}{i:Nat}(hi:i<listed.size)(hn:listed.getD i false=false):∀n,i<n->ra (listed.setIfInBounds i true) n+1=ra listed n
 | 0,h=>absurd h Om
 |n+1,h=>by
  simp only[ra];rw[c8 hi];by_cases e:n=i
  ·subst e;rw[BK hi n (ZO _),ZS rfl,hn];simp
  ·rw[ZN e];have:=BJ hi hn n Om;omega
theorem lH{listed}:∀n,ra listed n=0->∀i,i<n->listed.getD i false=true
 | 0,_,i,hi=>absurd hi Om
 |n+1,h,i,hi=>by
  simp only[ra]at h;by_cases e:i=n
  ·subst e;cases hl:listed.getD i false with
   |true=>rfl
   |false=>rw[hl]at h;simp at h
  ·exact lH n Om i Om
def bY.dG(m:bY)(n:Nat):bY:=λb=>if b<n then m b else none
def bY.patch(m1 m:bY)(n:Nat):bY:=λb=>if b<n then m1 b else m b
mutual
theorem VR.cut{ma m n}(hd:∀b e,ma b=some e->b<n):∀(x:AV) (va v:Value),VR ma x va->VR m x v->VR (m.dG n) x v
 |.bool _,_,_,_,hv=>hv
 |.int _ _,_,_,_,hv=>hv
 |.xH _ _,_,_,_,hv=>hv
 |.wX _ _ _,_,_,_,hv=>hv
 |.str _,_,_,_,hv=>hv
 |.ptr b o,va,v,ha,hv=>by
  exact Q7
 |.nilPtr,_,_,_,hv=>hv
 |.slice b o n' es,va,v,ha,hv=>by
  rw[VR]at ha hv ⊢;obtain⟨e,_,_,he,_⟩:=ha;obtain⟨e',ca,cap,TA,hv⟩:=hv;exact⟨e',ca,cap,by unfold bY.dG;rw[ZS (hd _ _ he)];exact TA,hv⟩
 |.af,_,_,_,hv=>hv
 |.map r,va,v,ha,hv=>by
  exact Q7
 |.dh,_,_,_,hv=>hv
 |.func f a c,va,v,ha,hv=>by
  rw[VR]at ha hv ⊢;obtain⟨f1,a1,c1,_,VT,ha1,hc1⟩:=ha;obtain⟨f2,a2,c2,hv,Vc,ha2,Zv⟩:=hv;refine⟨f2,a2,c2,hv,?_,cK.cut hd a _ _ ha1 ha2,cK.cut hd c _ _ hc1 Zv⟩;cases f<;>simp only[Bu]at VT Vc ⊢<;>try exact Vc
  obtain⟨e,he,_⟩:=VT;obtain⟨e',TA,hg⟩:=Vc;exact⟨e',by unfold bY.dG;rw[ZS (hd _ _ he)];exact TA,hg⟩
 |.nilFunc,_,_,_,hv=>hv
 |.uS u a,va,v,ha,hv=>by
  rw[VR]at ha hv ⊢;obtain⟨v1,_,h1⟩:=ha;obtain⟨v2,hv,h2⟩:=hv;exact⟨v2,hv,VR.cut hd a _ _ h1 h2⟩
 |.kN,_,_,_,hv=>hv
 |.agg l,va,v,ha,hv=>by
  exact KY
 |.dL l,va,v,ha,hv=>by
  exact KY
theorem cK.cut{ma m n}(hd:∀b e,ma b=some e->b<n):∀(l:List AV) (va vs:List Value),cK ma l va->cK m l vs->cK (m.dG n) l vs
 |[],_,_,_,hv=>hv
 |x::xs,va,vs,ha,hv=>by
  obtain⟨y1,ys1,_,a1,a2⟩:=aQ.1 ha;obtain⟨y2,ys2,h,b1,b2⟩:=aQ.1 hv;exact aQ.2 ⟨y2,ys2,h,VR.cut hd x _ _ a1 b1,cK.cut hd xs _ _ a2 b2⟩
end
def jf(n:Nat)(x:AV):Prop:=∃(ma:bY) (va:Value),(∀b e,ma b=some e->b<n)/\VR ma x va
def Nb(n:Nat)(l:List AV):Prop:=∃(ma:bY) (va:List Value),(∀b e,ma b=some e->b<n)/\cK ma l va
def qu(n:Nat):ak->Prop
 |.cells c _ _=>∀(i:Nat) (x:AV),c[i]? =some x->jf n x
 |.aR es=>∀(i:Nat) (p:AV×AV),es[i]? =some p->jf n p.1/\jf n p.2
 |.loop _ _ ts _ _ _=>Nb n ts
 |_=>True
def jf.mono{n k}(hnk:n<=k){x}(h:jf n x):jf k x:=by
 exact z124
theorem qu.mono{n k}(hnk:n<=k){x}(h:qu n x):qu k x:=by
 cases x with
 |cells c mu tl=>exactλi x hx=>(h i x hx).mono hnk
 |aR es=>exactλi p hp=>⟨(h i p hp).1.mono hnk,(h i p hp).2.mono hnk⟩
 |loop a b c d e f=>
  exact z124
 |_=>trivial
def BR.jf{P m w e k n}(h:BR P m w e k)(hd:∀b e,m b=some e->b<n):qu n k:=by
 cases k with
 |cells c mu tl=>
  obtain⟨cc,el,fz,_,_,h3,_⟩:=h;intro i x hx;obtain⟨_,v,_,hv⟩:=h3 i x hx;exact⟨m,v,hd,hv⟩
 |aR es=>
  obtain⟨_,UD,clock,_,_,h3⟩:=h;intro i p hp;obtain⟨q,_,h1,h2⟩:=h3 i p hp;exact⟨⟨m,_,hd,h1⟩,⟨m,_,hd,h2⟩⟩
 |loop st ex ts ps asg body=>
  obtain⟨_,fn,tmps,Ty,SY,df,_,h2,_⟩:=h;exact⟨m,_,hd,h2⟩
 |_=>trivial
theorem BR.cut{P m w e k n}(h:BR P m w e k)(hc:qu n k):BR P (m.dG n) w e k:=by
 cases k with
 |cells c mu tl=>
  obtain⟨cc,el,fz,h1,h2,h3,h4⟩:=h;exact⟨cc,el,fz,h1,h2,λi x hx=>by
   obtain⟨ho,v,hv,hr⟩:=h3 i x hx;obtain⟨ma,va,hd,ha⟩:=hc i x hx;exact⟨ho,v,hv,VR.cut hd _ _ _ ha hr⟩,h4⟩
 |dead=>trivial
 |aR es=>
  obtain⟨ho,UD,clock,h1,h2,h3⟩:=h;exact⟨ho,UD,clock,h1,h2,λi p hp=>by
   obtain⟨q,hq,ha,hb⟩:=h3 i p hp;obtain⟨⟨ma,va,hd,XS⟩,⟨mb,vb,Ta,hb'⟩⟩:=hc i p hp;exact⟨q,hq,VR.cut hd _ _ _ XS ha,VR.cut Ta _ _ _ hb' hb⟩⟩
 |iter s pos=>exact h
 |loop st ex ts ps asg body=>
  obtain⟨ho,fn,tmps,Ty,SY,df,h1,h2,h3,h4⟩:=h;obtain⟨ma,va,hd,ha⟩:=hc;exact⟨ho,fn,tmps,Ty,SY,df,h1,cK.cut hd _ _ _ ha h2,h3,h4⟩
structure sV(P:Program)(l:List bL)(T:Nat->TS)(H:Nat->ah)(m0:bY)(w0:World)(S:Nat->Bool)(β θ:Nat)(m:bY)(ta:Array Value)(w:World):Prop where
 βθ:β<=θ
 θn:θ<=l.length
 low:∀j,j<β->S j=true
 high:∀j,S j=true->j<θ
 quiet:∀j,β<=j->j<θ->∃g,H (j+1)=H j++g
 len:∀j,j<θ->(H j).length<=(H (j+1)).length
 hr:HR P m (H θ) w
 NQ:∀j,j<θ->S j=false->∀b,(H j).length<=b->b<(H (j+1)).length->m b=none
 jf:∀i,β<=i->i<=θ->∀b e k,b<(H i).length->m b=some e->(H θ)[b]? =some k->qu (H i).length k
 apart:∀j,β<=j->j<θ->∀b b' e e',(H j).length<=b->b<(H (j+1)).length->¬((H j).length<=b'/\b'<(H (j+1)).length)->m b=some e->m b' =some e'->e.cb≠e'.cb
 grow:Grow m0 (H 0) w0 m (H θ) w
 size:ta.size=(T 0).length
 yZ:∀d,(∀j o,l[j]? =some o->S j=true->o.dst≠some d)->VR m0 ((T 0).getD d az) (ta.getD d undef)
 yY:∀d j o,l[j]? =some o->S j=true->o.dst=some d->VR (m.dG (H (j+1)).length) ((T (j+1)).getD d az) (ta.getD d undef)
theorem wb{H:Nat->ah}{θ:Nat}(h:∀j,j<θ->(H j).length<=(H (j+1)).length){i:Nat}:∀k,i+k<=θ->(H i).length<=(H (i+k)).length
 | 0,_=>ZO _
 |k+1,hk=>aat (wb h k Om) (h (i+k) Om)
def fM{H:Nat->ah}{θ:Nat}(h:∀j,j<θ->(H j).length<=(H (j+1)).length){i j:Nat}(hij:i<=j)(hj:j<=θ):(H i).length<=(H j).length:=by
 have:=wb h (i:=i) (j-i) Om
 rwa [show i+(j-i)=j from by omega]at this
theorem tn{H:Nat->ah}{β θ:Nat}(h:∀j,β<=j->j<θ->∃g,H (j+1)=H j++g){i:Nat}(hi:β<=i):∀k,i+k<=θ->∃g,H (i+k)=H i++g
 | 0,_=>⟨[],Si⟩
 |k+1,hk=>by
  obtain⟨g,hg⟩:=tn h hi k Om;obtain⟨g',SV⟩:=h (i+k) Om Om;exact⟨g++g',by rw[show i+(k+1)=i+k+1 from by omega,SV,hg,ZE]⟩
def nw{H:Nat->ah}{β θ:Nat}(h:∀j,β<=j->j<θ->∃g,H (j+1)=H j++g){i j:Nat}(hi:β<=i)(hij:i<=j)(hj:j<=θ):∃g,H j=H i++g:=by
 have:=tn h hi (j-i) Om
 rwa [show i+(j-i)=j from by omega]at this
theorem wE{H:Nat->ah}{i:Nat}:∀(k:Nat) {b:Nat},(H i).length<=b->b<(H (i+k)).length->∃j,i<=j/\j<i+k/\(H j).length<=b/\b<(H (j+1)).length
 | 0,b,h1,h2=>by simp at h2;omega
 |k+1,b,h1,h2=>by
  by_cases h:b<(H (i+k)).length
  ·obtain⟨j,a1,a2,a3⟩:=wE k h1 h;exact⟨j,a1,Om,a3⟩
  ·exact⟨i+k,Om,Om,Om,by rw[show i+k+1=i+(k+1)from by omega];exact h2⟩
section
variable {P:Program}{m m1:bY}{h:ah}{w:World}
def bY.fw(m:bY)(n:Nat):(m.dG n).le m:=by
 intro b e hb;unfold bY.dG at hb;split at hb
 ·exact hb
 ·cases hb
def bY.Ai(m:bY){n k}(hnk:n<=k):(m.dG n).le (m.dG k):=by
 intro b e hb;unfold bY.dG at hb ⊢;split at hb
 ·rw[ZS Om];exact hb
 ·cases hb
theorem HR.dG{g}(hr:HR P m (h++g) w)(hgl:P.globals.size<=h.length)(hc:∀b e k,b<h.length->m b=some e->h[b]? =some k->qu h.length k):HR P (m.dG h.length) h w where
 cN:=λb e hb=>by unfold bY.dG at hb;split at hb<;>first|assumption|cases hb
 dU:=λb e k hb hk=>by
  unfold bY.dG at hb;split at hb
  case isFalse=>cases hb
  rename_i hlt;exact(hr.dU b e k hb (by rw[ZF hlt];exact hk)).cut (hc b e k hlt hb hk)
 sep:=λb1 b2 e1 e2 k1 k2 hne h1 h2 hk1 Sz hcb=>by
  have d1:b1<h.length:=(ZC.1 hk1).1;have d2:b2<h.length:=(ZC.1 Sz).1;exact hr.sep b1 b2 e1 e2 k1 k2 hne (bY.fw m _ _ _ h1) (bY.fw m _ _ _ h2) (by rw[ZF d1];exact hk1) (by rw[ZF d2];exact Sz) hcb
 gu:=λg hg=>by
  obtain⟨e,he,hx⟩:=hr.gu g hg;exact⟨e,by unfold bY.dG;rw[ZS Om];exact he,hx⟩
 lt:=λb e hb=>hr.lt b e (bY.fw m _ _ _ hb)
def HR.Hg(hr:HR P m h w):P.globals.size<=h.length:=by
 by_cases hz:P.globals.size=0
 ·omega
 ·obtain⟨e,he,_⟩:=hr.gu (P.globals.size-1) Om;have:=hr.cN _ _ he;omega
variable {l:List bL}{T:Nat->TS}{H:Nat->ah}{m0:bY}{w0:World}{S:Nat->Bool}{β θ:Nat}{ta:Array Value}
def sV.raise(M:sV P l T H m0 w0 S β θ m ta w){θ':Nat}(h1:θ<=θ')(h2:θ'<=l.length)(hq:∀j,θ<=j->j<θ'->∃g,H (j+1)=H j++g):sV P l T H m0 w0 S β θ' m ta w:=by
 have Yf:∀j,β<=j->j<θ'->∃g,H (j+1)=H j++g:=λj hj XM=>by
  by_cases hx:j<θ
  ·exact M.quiet j hj hx
  ·exact hq j Om XM
 have hlen:∀j,j<θ'->(H j).length<=(H (j+1)).length:=λj hj=>by
  by_cases hx:j<θ
  ·exact M.len j hx
  ·obtain⟨g,hg⟩:=hq j Om hj;rw[hg];simp
 obtain⟨g,hg⟩:=nw Yf M.βθ h1 (ZO _);have SF:∀b,b<(H θ).length->(H θ')[b]? =(H θ)[b]? :=λb hb=>by rw[hg,ZF hb]
 have hdom:∀b e,m b=some e->b<(H θ).length:=M.hr.cN;refine⟨aat M.βθ h1,h2,M.low,λj hj=>aax (M.high j hj) h1,Yf,hlen,⟨?_,?_,?_,M.hr.gu,M.hr.lt⟩,?_,?_,?_,⟨M.grow.ext,fM hlen (aac _) (ZO _),?_,?_,M.grow.size,M.grow.os,M.grow.out,M.grow.tape,M.grow.frame⟩,M.size,M.yZ,M.yY⟩
 ·intro b e hb;have:=hdom b e hb;rw[hg];simp;omega
 ·intro b e k hb hk;exact M.hr.dU b e k hb (by rwa [SF b (hdom b e hb)]at hk)
 ·intro b1 b2 e1 e2 k1 k2 hne a1 a2 hk1 Sz hcb;exact M.hr.sep b1 b2 e1 e2 k1 k2 hne a1 a2 (by rwa [SF b1 (hdom _ _ a1)]at hk1) (by rwa [SF b2 (hdom _ _ a2)]at Sz) hcb
 ·intro j hj hs b hb hb';by_cases hx:j<θ
  ·exact M.NQ j hx hs b hb hb'
  ·cases TD:m b with
   |none=>rfl
   |some e=>
    exact KS
 ·intro i hi hi' b e k hb TD hk;rw[SF b (hdom b e TD)]at hk;by_cases hx:i<=θ
  ·exact M.jf i hi hx b e k hb TD hk
  ·have a2:=fM hlen (i:=θ) (j:=i) Om Om;exact(M.jf θ M.βθ (ZO _) b e k (hdom b e TD) TD hk).mono a2
 ·intro j hj XM b b' e e' hb S9 hb' TD Wm;by_cases hx:j<θ
  ·exact M.apart j hj hx b b' e e' hb S9 hb' TD Wm
  ·exact KS
 ·intro b e hb TD;obtain⟨ho,hc⟩:=M.grow.new b e hb TD;refine⟨ho,hc.imp id ?_⟩;rintro⟨b0,e0,c1,c2,c3,c4,c5⟩;refine⟨b0,e0,c1,c2,c3,c4,?_⟩;have d0:b0<(H θ).length:=by
   cases hx:m0 b0 with
   |none=>rw[hx]at c1;cases c1
   |some e0'=>
    have:b0<(H 0).length:=by
     cases ht:(H 0)[b0]? with
     |none=>unfold eI at c4;rw[ht]at c4;cases c4
     |some k=>exact(ZC.1 ht).1
    exact aax this (fM hlen (aac _) h1)
  unfold eI at c5 ⊢;rw[SF b0 d0];exact c5
 ·intro b hb ht;refine M.grow.tl b hb ?_;unfold eI at ht ⊢
  rwa [SF b (aax hb (fM hlen (aac _) h1))]at ht
end
def gS(ta:Array Value)(d:Option Nat)(cv:Value):Array Value:=
 match d with
 |some d=>ta.setIfInBounds d cv
 |none=>ta
def fh(ta:Array Value)(d:Option Nat)(cv:Value):(gS ta d cv).size=ta.size:=by cases d<;>simp[gS]
def dC{ta d cv t}(h:d≠some t):(gS ta d cv).getD t undef=ta.getD t undef:=by
 cases d with
 |none=>rfl
 |some d=>
  have hne:d≠t:=λx=>h (by rw[x])
  simp[gS,aas,abk hne]
def yk{ts d v t}(h:d≠some t):(put ts d v).getD t az=ts.getD t az:=by
 cases d with
 |none=>rfl
 |some d=>
  have hne:d≠t:=λx=>h (by rw[x])
  simp[put,List.getD,ZV hne]
def lM{m ts ta d v cv}(hs:ta.size=ts.length)(hv:VR m v cv):VR m ((put ts (some d) v).getD d az) ((gS ta (some d) cv).getD d undef):=by
 by_cases h:d<ts.length
 ·have h':d<ta.size:=Om
  simp only[put,gS,List.getD,aas];rw[ZU h,aaV h'];exact hv
 ·have h':¬d<ta.size:=Om
  simp only[put,gS,List.getD,aas];rw[abf (by simp;omega),aba (by simp;omega)];exact j5 m
def mark(S:Nat->Bool)(i:Nat):Nat->Bool:=λj=>if j=i then true else S j
section
variable {P:Program}{l:List bL}{T:Nat->TS}{H:Nat->ah}{m0 m m1:bY}{w0 w w1:World}{S:Nat->Bool}{β θ i:Nat}{ta:Array Value}
def sV.cut(M:sV P l T H m0 w0 S β θ m ta w)(hG:P.globals.size<=(H 0).length)(hi:β<=i)(hi':i<=θ):HR P (m.dG (H i).length) (H i) w:=by
 obtain⟨g,hg⟩:=nw M.quiet hi hi' (ZO _);have hr:HR P m (H i++g) w:=by rw[<-hg];exact M.hr
 refine hr.dG (aat hG (fM M.len (aac _) hi')) ?_;intro b e k hb TD hk;exact M.jf i hi hi' b e k hb TD (by rw[hg,ZF hb];exact hk)
def sV.G7(M:sV P l T H m0 w0 S β θ m ta w)(hG:P.globals.size<=(H 0).length)(hi:β<=i)(hi':i<θ)(hS:S i=false){io}(hio:l[i]? =some io)
  (hr1:HR P m1 (H (i+1)) w1) (gext:∀b,b<(H i).length->m1 b=(m.dG (H i).length) b) (hnew0:∀b e,(H i).length<=b->m1 b=some e->e.own=true/\w0.heap.size<=e.cb/\∀b' e',m b' =some e'->e'.cb≠e.cb)
  (hfr:∀x,x<w.heap.size->(∀b e,(m.dG (H i).length) b=some e->e.own=true->e.cb≠x)->(∀b e,(H i).length<=b->m1 b=some e->e.cb≠x)->w1.heap[x]? =w.heap[x]?)
  (eG:w.heap.size<=w1.heap.size) (hos:w1.os=w.os) (hout:w1.output=w.output) (htape:w1.tape=w.tape) {v}{cv}(hv:VR m1 v cv) (hTi:T (i+1)=put (T i) io.dst v) (hTl:(T i).length=(T 0).length)
  (huniq:∀j o d,j≠i->l[j]? =some o->o.dst=some d->io.dst≠some d):sV P l T H m0 w0 (mark S i) β θ (m1.patch m (H (i+1)).length) (gS ta io.dst cv) w1:=by
 have T7:∀a b,a<=b->b<=θ->(H a).length<=(H b).length:=λa b hab hb=>fM M.len hab hb
 have hi1:=M.len i hi';have hi2:=T7 (i+1) θ Om (ZO _);have h0i:=T7 0 i Om Om;obtain⟨gi,hgi⟩:=M.quiet i hi hi';obtain⟨gt,VD⟩:=nw M.quiet (show β<=i+1 by omega) (show i+1<=θ by omega) (ZO _);have f3:∀b,b<(H (i+1)).length->(m1.patch m (H (i+1)).length) b=m1 b:=λb hb=>by unfold bY.patch;rw[ZS hb]
 have f1:∀b,b<(H i).length->(m1.patch m (H (i+1)).length) b=m b:=λb hb=>by
  rw[f3 b Om,gext b hb];unfold bY.dG;rw[ZS hb]
 have f2:∀b,(H (i+1)).length<=b->(m1.patch m (H (i+1)).length) b=m b:=λb hb=>by unfold bY.patch;rw[ZN Om]
 have fgap:∀b,(H i).length<=b->b<(H (i+1)).length->m b=none:=M.NQ i hi' hS;have UZ:m.le (m1.patch m (H (i+1)).length):=λb e hb=>by
  by_cases h1:b<(H i).length
  ·rw[f1 b h1];exact hb
  ·by_cases h2:b<(H (i+1)).length
   ·rw[fgap b Om h2]at hb;cases hb
   ·rw[f2 b Om];exact hb
 have m1le:m1.le (m1.patch m (H (i+1)).length):=λb e hb=>by rw[f3 b (hr1.cN b e hb)];exact hb
 have hnew:∀b e,(H i).length<=b->b<(H (i+1)).length->(m1.patch m (H (i+1)).length) b=some e->e.own=true/\w0.heap.size<=e.cb/\∀b' e',m b' =some e'->e'.cb≠e.cb:=λb e hb hb' hm=>by
  rw[f3 b hb']at hm;exact hnew0 b e hb hm
 have hold:∀b e,m b=some e->e.cb<w.heap.size:=M.hr.lt;have hframe:∀b e,(H (i+1)).length<=b->m b=some e->w1.heap[e.cb]? =w.heap[e.cb]? :=λb e hb hm=>by
  refine hfr e.cb (hold b e hm) ?_ (λb0 e0 h0 h1 hcb=>(hnew0 b0 e0 h0 h1).2.2 b e hm hcb.symm);intro b0 e0 h0 ho hcb;have d0:b0<(H i).length:=by
   unfold bY.dG at h0;split at h0
   ·assumption
   ·cases h0
  obtain⟨j,j1,j2,j3,j4⟩:=wE (H:=H) (i:=i+1) (θ-(i+1)) hb (by rw[show i+1+(θ-(i+1))=θ from by omega];exact M.hr.cN b e hm);have hj:=T7 i j Om Om;exact M.apart j Om Om b b0 e e0 j3 j4 (λx=>by omega) hm (bY.fw m _ _ _ h0) hcb.symm
 have SF:∀b,b<(H (i+1)).length->(H θ)[b]? =(H (i+1))[b]? :=λb hb=>by rw[VD,ZF hb]
 have SK:∀b e,(m1.patch m (H (i+1)).length) b=some e->((H i).length<=b/\b<(H (i+1)).length/\m1 b=some e)\/(¬((H i).length<=b/\b<(H (i+1)).length)/\m b=some e):=λb e hb=>by
  by_cases h1:b<(H i).length
  ·rw[f1 b h1]at hb;exact .inr ⟨Om,hb⟩
  ·by_cases h2:b<(H (i+1)).length
   ·rw[f3 b h2]at hb;exact .inl ⟨Om,h2,hb⟩
   ·rw[f2 b Om]at hb;exact .inr ⟨Om,hb⟩
 have hHR:HR P (m1.patch m (H (i+1)).length) (H θ) w1:=by
  refine⟨?_,?_,?_,?_,?_⟩
  ·intro b e hb;rcases SK b e hb with⟨_,h2,_⟩|⟨_,h2⟩
   ·omega
   ·exact M.hr.cN b e h2
  ·intro b e k hb hk;by_cases h2:b<(H (i+1)).length
   ·rw[f3 b h2]at hb;exact(hr1.dU b e k hb (by rwa [SF b h2]at hk)).mono m1le
   ·rw[f2 b Om]at hb;exact((M.hr.dU b e k hb hk).mono UZ).heap (hframe b e Om hb)
  ·intro b1 b2 e1 e2 k1 k2 hne S9 Tk hk1 Sz hcb;rcases SK b1 e1 S9 with⟨a1,a2,a3⟩|⟨a1,a2⟩
   ·rcases SK b2 e2 Tk with⟨c1,c2,c3⟩|⟨c1,c2⟩
    ·exact hr1.sep b1 b2 e1 e2 k1 k2 hne a3 c3 (by rwa [SF b1 a2]at hk1) (by rwa [SF b2 c2]at Sz) hcb
    ·exact absurd hcb.symm ((hnew b1 e1 a1 a2 S9).2.2 b2 e2 c2)
   ·rcases SK b2 e2 Tk with⟨c1,c2,c3⟩|⟨c1,c2⟩
    ·exact absurd hcb ((hnew b2 e2 c1 c2 Tk).2.2 b1 e1 a2)
    ·exact M.hr.sep b1 b2 e1 e2 k1 k2 hne a2 c2 hk1 Sz hcb
  ·intro g hg;obtain⟨e,he,hx⟩:=M.hr.gu g hg;exact⟨e,UZ _ _ he,hx⟩
  ·intro b e hb;rcases SK b e hb with⟨_,_,h3⟩|⟨_,h2⟩
   ·exact hr1.lt b e h3
   ·exact aax (hold b e h2) eG
 refine⟨M.βθ,M.θn,?_,?_,M.quiet,M.len,hHR,?_,?_,?_,?_,by rw[fh];exact M.size,?_,?_⟩
 ·intro j hj;unfold mark;split
  ·rfl
  ·exact M.low j hj
 ·intro j hj;unfold mark at hj;split at hj
  ·omega
  ·exact M.high j hj
 ·intro j hj hs b hb hb';unfold mark at hs;split at hs
  ·cases hs
  rename_i hji;by_cases h1:b<(H i).length
  ·rw[f1 b h1];exact M.NQ j hj hs b hb hb'
  ·by_cases h2:b<(H (i+1)).length
   ·exact K3
   ·rw[f2 b Om];exact M.NQ j hj hs b hb hb'
 ·intro i2 hi2' Yl b e k hb TD hk;rcases SK b e TD with⟨a1,a2,a3⟩|⟨_,a2⟩
  ·have hk':(H (i+1))[b]? =some k:=by rwa [SF b a2]at hk
   refine((hr1.dU b e k a3 hk').jf hr1.cN).mono ?_;by_cases hlt:i2<i+1
   ·have:=T7 i2 i Om Om;omega
   ·exact T7 (i+1) i2 Om Yl
  ·exact M.jf i2 hi2' Yl b e k hb a2 hk
 ·intro j hj XM b b' e e' hb S9 hb' TD Wm;rcases SK b e TD with⟨a1,a2,a3⟩|⟨a1,a2⟩
  ·rcases SK b' e' Wm with⟨c1,c2,c3⟩|⟨c1,c2⟩
   ·exfalso;by_cases hji:j=i
    ·subst hji;exact hb' ⟨c1,c2⟩
    ·exact K3
   ·exactλhcb=>(hnew b e a1 a2 TD).2.2 b' e' c2 hcb.symm
  ·rcases SK b' e' Wm with⟨c1,c2,c3⟩|⟨c1,c2⟩
   ·exact(hnew b' e' c1 c2 Wm).2.2 b e a2
   ·exact M.apart j hj XM b b' e e' hb S9 hb' a2 c2
 ·refine⟨λb hb=>(f1 b Om).trans (M.grow.ext b hb),M.grow.len,?_,M.grow.tl,aat M.grow.size eG,hos.trans M.grow.os,hout.trans M.grow.out,htape.trans M.grow.tape,?_⟩
  ·intro b e hb TD;rcases SK b e TD with⟨a1,a2,_⟩|⟨_,a2⟩
   ·obtain⟨ho,hc⟩:=hnew b e a1 a2 TD;exact⟨ho,.inl hc.1⟩
   ·exact M.grow.new b e hb a2
  ·intro x hx hno;refine(hfr x (aax hx M.grow.size) ?_ (λb e hb hm hcb=>by have:=(hnew0 b e hb hm).2.1;omega)).trans (M.grow.frame x hx hno);intro b e hb ho hcb;have TD:=bY.fw m _ _ _ hb;by_cases h1:b<(H 0).length
   ·exact hno b e (by rw[<-M.grow.ext b h1];exact TD) ho hcb
   ·obtain⟨_,hc⟩:=M.grow.new b e Om TD;rcases hc with hc|⟨b0,e0,c1,c2,c3,_⟩
    ·omega
    ·exact hno b0 e0 c1 c3 (c2.trans hcb)
 ·intro d hd;exact z93
 ·intro d j o hj hs ho;by_cases hji:j=i
  ·subst hji;rw[hio]at hj;cases hj;rw[hTi,ho];have h1:m1.le ((m1.patch m (H (j+1)).length).dG (H (j+1)).length):=λb e hb=>by
    have:=hr1.cN b e hb;unfold bY.dG;rw[ZS this,f3 b this];exact hb
   exact z198
  ·exact Rn
def sV.next(M:sV P l T H m0 w0 S β θ m ta w)(hG:P.globals.size<=(H 0).length)(hi:β<=i)(hi':i<θ)(hS:S i=false){io}(hio:l[i]? =some io)
  (hr1:HR P m1 (H (i+1)) w1) (g1:Grow (m.dG (H i).length) (H i) w m1 (H (i+1)) w1) {v}{cv}(hv:VR m1 v cv) (hTi:T (i+1)=put (T i) io.dst v) (hTl:(T i).length=(T 0).length)
  (huniq:∀j o d,j≠i->l[j]? =some o->o.dst=some d->io.dst≠some d):sV P l T H m0 w0 (mark S i) β θ (m1.patch m (H (i+1)).length) (gS ta io.dst cv) w1:=by
 obtain⟨gi,hgi⟩:=M.quiet i hi hi';refine M.G7 hG hi hi' hS hio hr1 g1.ext (λb e hb hm=>?_) (λx hx h1 _=>g1.frame x hx h1) g1.size g1.os g1.out g1.tape hv hTi hTl huniq;obtain⟨ho,hc⟩:=g1.new b e hb hm;have TX:w.heap.size<=e.cb:=by
  rcases hc with hc|⟨b0,e0,c1,_,_,c4,c5⟩
  ·exact hc
  ·have d0:b0<(H i).length:=by
    unfold bY.dG at c1;split at c1
    ·assumption
    ·cases c1
   unfold eI at c4 c5;rw[hgi,ZF d0]at c5;rw[c5]at c4;cases c4
 exact⟨ho,aat M.grow.size TX,λb' e' hb'=>by have:=M.hr.lt b' e' hb';omega⟩
def sV.jump(M:sV P l T H m0 w0 S β i m ta w)(hd0:∀b e,m0 b=some e->b<(H 0).length)(hall:∀j,j<i->S j=true)(hil:i<l.length){io}(hio:l[i]? =some io)
  (hr1:HR P m1 (H (i+1)) w1) (g1:Grow (m.dG (H i).length) (H i) w m1 (H (i+1)) w1) {v}{cv}(hv:VR m1 v cv) (hTi:T (i+1)=put (T i) io.dst v) (hTl:(T i).length=(T 0).length)
  (huniq:∀j o d,j≠i->l[j]? =some o->o.dst=some d->io.dst≠some d):sV P l T H m0 w0 (mark S i) (i+1) (i+1) m1 (gS ta io.dst cv) w1:=by
 have hm:m.dG (H i).length=m:=by
  funext b;unfold bY.dG;split
  ·rfl
  ·cases hb:m b with
   |none=>rfl
   |some e=>exact absurd (M.hr.cN b e hb) (by assumption)
 rw[hm]at g1;have UZ:m.le m1:=g1.le M.hr.cN;refine⟨ZO _,hil,?_,?_,λj hj XM=>absurd hj Om,?_,hr1,?_,?_,λj hj XM=>absurd hj Om,M.grow.trans g1 hd0,by rw[fh];exact M.size,?_,?_⟩
 ·intro j hj;unfold mark;split
  ·rfl
  ·exact hall j Om
 ·intro j hj;unfold mark at hj;split at hj
  ·omega
  ·have:=M.high j hj;omega
 ·intro j hj;by_cases hji:j=i
  ·subst hji;exact g1.len
  ·exact M.len j Om
 ·intro j hj hs;unfold mark at hs;split at hs
  ·cases hs
  ·rw[hall j Om]at hs;cases hs
 ·intro i2 hi2 hi2' b e k hb TD hk;have:i2=i+1:=Om
  subst this;exact(hr1.dU b e k TD hk).jf hr1.cN
 ·intro d hd;exact z93
 ·intro d j o hj hs ho;by_cases hji:j=i
  ·subst hji;rw[hio]at hj;cases hj;rw[hTi,ho];have h1:m1.le (m1.dG (H (j+1)).length):=λb e hb=>by
    have:=hr1.cN b e hb;unfold bY.dG;rw[ZS this];exact hb
   exact z198
  ·exact Rn
end
section
variable {P:Program}{m m':bY}{h g h':ah}{w w' w0:World}
theorem rn:∀(l c pre:List AV),c.length=l.length->fU (pre++c) pre.length l=pre++l
 |[],c,pre,h=>by
  exact z203
 |x::l,[],pre,h=>by simp at h
 |x::l,y::c,pre,h=>by
  have e1:(pre++y::c).set pre.length x=(pre++[x])++c:=by
   exact KM
  have e2:pre.length+1=(pre++[x]).length:=Si
  show fU ((pre++y::c).set pre.length x) (pre.length+1) l=_;rw[e1,e2,rn l c (pre++[x]) (by simpa using h),ZE];rfl
def Grow.forget(gr:Grow m h w m' (h++g) w'):Grow m h w (m'.dG h.length) h w' where
 ext:=λb hb=>by unfold bY.dG;rw[ZS hb];exact gr.ext b hb
 len:=ZO _
 new:=λb e hb he=>by unfold bY.dG at he;rw[ZN Om]at he;cases he
 tl:=λb hb ht=>ht
 size:=gr.size
 os:=gr.os
 out:=gr.out
 tape:=gr.tape
 frame:=gr.frame
def HR.forget(hr:HR P m h w)(hr':HR P m' (h++g) w')(gr:Grow m h w m' (h++g) w'):HR P (m'.dG h.length) h w':=
 hr'.dG hr.Hg λb e k hb TD hk=>(hr.dU b e k (by rw[<-gr.ext b hb];exact TD) hk).jf hr.cN
def HR.Nq(hr:HR P m h w){cb cc}{el:TypeId}{fz}(hb:w.heap[cb]? =some (.cells cc el fz))(hfz:∀i,i<cc.size->¬(fz.1<=i/\i<fz.2))(hout:∀b e,m b=some e->e.cb≠cb)
  {c}{d}(hc:d+c.length=cc.size) (hv:∀(i:Nat) (x:AV),c[i]? =some x->x.one=true/\∃v,cc[d+i]? =some v/\VR m x v):HR P (m.add h.length ⟨cb,d,cc.size,true⟩) (h++[.cells c true false]) w:=by
 have TC:m h.length=none:=by
  exact NI
 have hle:m.le (m.add h.length ⟨cb,d,cc.size,true⟩):=bY.si _ TC;have SK:∀b e,(m.add h.length ⟨cb,d,cc.size,true⟩) b=some e->(b=h.length/\e=⟨cb,d,cc.size,true⟩)\/(b<h.length/\m b=some e):=λb e TZ=>by
  exact Rf
 refine⟨λb e TZ=>?_,λb e k TZ hk=>?_,λb1 b2 e1 e2 k1 k2 hne h1 h2 hk1 Sz hcb=>?_,λg hg=>?_,λb e TZ=>?_⟩
 ·rw[ZB];rcases SK b e TZ with⟨rfl,_⟩|⟨hlt,_⟩
  ·simp
  ·simp;omega
 ·rcases SK b e TZ with⟨rfl,rfl⟩|⟨hlt,hm⟩
  ·rw[ZP (ZO _),aaG]at hk;cases hk;refine⟨cc,el,fz,hb,⟨by show d+_<=_;omega,by show d+_<=cc.size;omega,rfl⟩,λi x hx=>?_,λ_=>⟨rfl,hfz⟩,λ_=>⟨rfl,λ_=>by show cc.size=d+c.length;omega⟩⟩;obtain⟨ho,v,h1,h2⟩:=hv i x hx;exact⟨ho,v,h1,VR.mono hle _ _ h2⟩
  ·rw[ZF hlt]at hk;exact(hr.dU b e k hm hk).mono hle
 ·exact Rr
 ·obtain⟨e,he,hx⟩:=hr.gu g hg;exact⟨e,hle _ _ he,hx⟩
 ·rcases SK b e TZ with⟨_,rfl⟩|⟨_,hm⟩
  ·exact(ZX.1 hb).1
  ·exact hr.lt b e hm
def Dw{x}(h:yz x=true):x.one=true:=by cases x<;>first|rfl|cases h
def FK{x v}(h:yz x=true)(hv:VR m x v)(m':bY):VR m' x v:=by
 cases x<;>first|exact hv|cases h
def k5(m:bY)(w0 w:World)(zc:List AV)(cv:Value):Prop:=
 ∃(cb d:Nat) (cc:Array Value) (el:TypeId) (fz:Nat×Nat),cv=.pointer (some ⟨cb,d,none⟩)/\w.heap[cb]? =some (.cells cc el fz)/\d+zc.length=cc.size/\(∀i,i<cc.size->¬(fz.1<=i/\i<fz.2))/\
  (∀(i:Nat) (x:AV),zc[i]? =some x->x.one=true/\∃v,cc[d+i]? =some v/\∀m:bY,VR m x v)/\w0.heap.size<=cb/\∀b e,m b=some e->e.cb≠cb
def k5.move{zc cv}(p:k5 m w0 w zc cv)(hh:∀cb d,cv=.pointer (some ⟨cb,d,none⟩)->cb<w.heap.size->(∀b e,m b=some e->e.cb≠cb)->w'.heap[cb]? =w.heap[cb]?)
  (hm:∀cb d,cv=.pointer (some ⟨cb,d,none⟩)->cb<w.heap.size->(∀b e,m b=some e->e.cb≠cb)->∀b e,m' b=some e->e.cb≠cb):k5 m' w0 w' zc cv:=by
 obtain⟨cb,d,cc,el,fz,h1,h2,h3,h4,h5,h6,h7⟩:=p;have hlt:cb<w.heap.size:=(ZX.1 h2).1;exact⟨cb,d,cc,el,fz,h1,by rw[hh cb d h1 hlt h7];exact h2,h3,h4,h5,h6,hm cb d h1 hlt h7⟩
def k5.grow{zc cv}(p:k5 m w0 w zc cv)(gr:Grow (m.dG h.length) h w m' h' w'):k5 m' w0 w' zc cv/\k5 (m'.patch m h'.length) w0 w' zc cv:=by
 have hh:∀cb d,cv=.pointer (some ⟨cb,d,none⟩)->cb<w.heap.size->(∀b e,m b=some e->e.cb≠cb)->w'.heap[cb]? =w.heap[cb]? :=λcb d _ hlt h7=>gr.frame cb hlt λb e he _=>h7 b e (bY.fw _ _ _ _ he)
 have hnew:∀cb,cb<w.heap.size->(∀b e,m b=some e->e.cb≠cb)->∀b e,m' b=some e->e.cb≠cb:=λcb hlt h7 b e he=>by
  by_cases hb:b<h.length
  ·rw[gr.ext b hb]at he;exact h7 b e (bY.fw _ _ _ _ he)
  ·obtain⟨_,hc⟩:=gr.new b e Om he;rcases hc with hc|⟨b0,e0,c1,c2,_⟩
   ·omega
   ·rw[<-c2];exact h7 b0 e0 (bY.fw _ _ _ _ c1)
 refine⟨p.move hh λcb d _ hlt h7=>hnew cb hlt h7,p.move hh λcb d _ hlt h7 b e he=>?_⟩;unfold bY.patch at he;split at he
 ·exact hnew cb hlt h7 b e he
 ·exact h7 b e he
end
structure cw(ops:Array Oper)(l:List bL)(k s t:Nat)(z:AV)(n:Nat)(x:cZ):Prop where
 ks:k<s
 hk:l[k]? =some {dst:=some t,k:=.box (.c z),gd:=none,q:=true}
 hs:l[s]? =some {dst:=none,k:=.store n (.t t) x,gd:=none,q:=true}
 zn:z.cells.length=n
 zc:z.cells.all yz=true
 xt:∀u,x=.t u->u≠t/\fG ops s u=true
 lt:fG ops s t=true
 only:∀j,j<ops.size->j≠s->fG ops j t=false
def nU{o n t x}(h:mh o=some (n,t,x)):o={dst:=none,k:=.store n (.t t) x,gd:=none,q:=true}:=by
 obtain⟨d,k,gd,q⟩:=o;unfold mh at h;exact KZ
def yD{o t z}(h:tO o=some (t,z)):o={dst:=some t,k:=.box (.c z),gd:=none,q:=true}:=by
 obtain⟨d,k,gd,q⟩:=o;unfold tO at h;exact KZ
def qa{ops l k s}(hks:k<s)(h:pG ops l k s=true):∃t z n x,cw ops l k s t z n x:=by
 unfold pG at h;split at h
 case h_2=>cases h
 rename_i t z n t' x h1 h2;obtain⟨a,ha,hb⟩:=aaI.1 h1;obtain⟨b,S9,Tk⟩:=aaI.1 h2;have e1:=yD hb;have e2:=nU Tk;subst e1;subst e2;simp only[aad,beq_iff_eq,aae,aaP,abo,aaZ]at h;obtain⟨⟨⟨⟨⟨rfl,q2⟩,q3⟩,q4⟩,q5⟩,q6⟩:=h;refine⟨t,z,n,x,hks,ha,S9,q2,aae.2 q3,λu hu=>?_,q5,λj hj hne=>(q6 j hj).resolve_left hne⟩;subst hu;simp only[aad,bne_iff_ne,ne_eq]at q4;exact q4
def cw.ok{ops l k s t z n x}(p:cw ops l k s t z n x):pG ops l k s=true:=by
 unfold pG;rw[p.hk,p.hs];simp only[Option.bind_some,tO,mh,aad,beq_iff_eq,aae,aaP,abo,aaZ];refine⟨⟨⟨⟨⟨trivial,p.zn⟩,aae.1 p.zc⟩,?_⟩,p.lt⟩,λj hj=>?_⟩
 ·cases x with
  |t u=>simp only[aad,bne_iff_ne,ne_eq];exact p.xt u rfl
  |_=>rfl
 ·by_cases hne:j=s
  ·exact .inl hne
  ·exact .inr (p.only j hj hne)
def Iv:bL:={dst:=none,k:=.cg (.c (.bool false)),gd:=none,q:=true}
theorem wK{ops l}:∀{r}{i j},(qn ops l i r)[j]? =(r[j]?).map (tH ops l (i+j))
 |[],i,j=>by simp[qn]
 |o::r,i,0=>by simp[qn]
 |o::r,i,j+1=>by
  show(qn ops l (i+1) r)[j]? =_;rw[wK,show i+1+j=i+(j+1) by omega];simp
theorem wJ{ops l}:∀{r}{i},(qn ops l i r).length=r.length
 |[],_=>rfl
 |o::r,i=>by simp[qn,wJ]
def yv{ops l}(hl:l.length=ops.size){j o}(ho:l[j]? =some o):
  (∃k t z n x,cw ops l k j t z n x/\tH ops l j o={dst:=some t,k:=.oX n x,gd:=none,q:=true})\/
  (∃s t z n x,cw ops l j s t z n x/\tH ops l j o=Iv)\/
  (tH ops l j o=o/\(∀k t z n x,¬cw ops l k j t z n x)/\(∀s t z n x,¬cw ops l j s t z n x)):=by
 unfold tH;split
 ·rename_i n t x bS;have e1:=nU bS;have SM:∀s t z n x,¬cw ops l j s t z n x:=λs t' z n' x' p=>by
   have:=p.hk;rw[ho,e1]at this;cases this
  split
  ·rename_i k hk;unfold PN at hk;have h1:=ab7 hk;have h2:=aaP.1 (List.mem_of_find?_eq_some hk);obtain⟨t',z,n',x',p⟩:=qa h2 h1;have:=p.hs;rw[ho,e1]at this;cases this;exact .inl ⟨k,_,z,_,_,p,rfl⟩
  ·rename_i hk;refine .inr (.inr ⟨rfl,λk t' z n' x' p=>?_,SM⟩);unfold PN at hk;exact List.find?_eq_none.1 hk k (aaP.2 p.ks) p.ok
 ·rename_i bS;have hns:∀k t z n x,¬cw ops l k j t z n x:=λk t' z n' x' p=>by
   have:=p.hs;rw[ho]at this;cases this;simp[mh]at bS
  split
  ·rename_i y Su;split
   ·rename_i s hs;unfold OD at hs;have h1:=ab7 hs;simp only[aad,aah]at h1;obtain⟨t',z,n',x',p⟩:=qa h1.1 h1.2;exact .inr (.inl ⟨s,t',z,n',x',p,rfl⟩)
   ·rename_i hs;refine .inr (.inr ⟨rfl,hns,λs t' z n' x' p=>?_⟩);unfold OD at hs;refine List.find?_eq_none.1 hs s (aaP.2 ((ZC.1 p.hs).1)) ?_;simp only[aad,aah];exact⟨p.ks,p.ok⟩
  ·rename_i Su;refine .inr (.inr ⟨rfl,hns,λs t' z n' x' p=>?_⟩);have:=p.hk;rw[ho]at this;cases this;simp[tO]at Su
def pS(v v':Value):Prop:=∀cb d WZ d',v=.pointer (some ⟨cb,d,none⟩)->v' =.pointer (some ⟨WZ,d',none⟩)->cb≠WZ
theorem pS.symm{v v'}(h:pS v v'):pS v' v:=λcb d WZ d' h1 h2 e=>h WZ d' cb d h2 h1 e.symm
structure pW(ops:Array Oper)(l:List bL)(w0:World)(S:Nat->Bool)(ta tmps:Array Value)(m:bY)(w:World):Prop where
 size:tmps.size=ta.size
 ag:∀d,(∀k s z n x,cw ops l k s d z n x->S k=true->S s=false->False)->tmps.getD d undef=ta.getD d undef
 pd:∀k s t z n x,cw ops l k s t z n x->S k=true->S s=false->k5 m w0 w z.cells (tmps.getD t undef)
 dj:∀k s t z n x k' s' t' z' n' x',cw ops l k s t z n x->cw ops l k' s' t' z' n' x'->S k=true->S s=false->S k' =true->S s' =false->t≠t'->pS (tmps.getD t undef) (tmps.getD t' undef)
section
variable {ops:Array Oper}{l:List bL}{w0 w w':World}{S:Nat->Bool}{ta tmps:Array Value}{m m':bY}
def jl{ta d cv}(h:d<ta.size):(gS ta (some d) cv).getD d undef=cv:=by
 simp only[gS,aas];rw[aaV h];rfl
def yl{d cv t}(hs:tmps.size=ta.size)(h:tmps.getD t undef=ta.getD t undef):(gS tmps d cv).getD t undef=(gS ta d cv).getD t undef:=by
 by_cases hd:d=some t
 ·subst hd;by_cases ht:t<ta.size
  ·rw[jl ht,jl Om]
  ·simp only[gS,aas];rw[aba (by simp;omega),aba (by simp;omega)]
 ·rw[dC hd,dC hd];exact h
def pW.other(I:pW ops l w0 S ta tmps m w){i d cv}(h1:∀k t z n x,¬cw ops l k i t z n x)(h2:∀s t z n x,¬cw ops l i s t z n x)(hd:∀k s t z n x,cw ops l k s t z n x->d≠some t)
  (hp:∀zc cv,k5 m w0 w zc cv->k5 m' w0 w' zc cv):pW ops l w0 (mark S i) (gS ta d cv) (gS tmps d cv) m' w' where
 size:=by rw[fh,fh];exact I.size
 ag:=λt ht=>yl I.size (I.ag t λk s z n x p hk hs=>ht k s z n x p (by unfold mark;split<;>first|rfl|exact hk) (by
  unfold mark;split
  ·rename_i e;subst e;exact absurd p (h1 _ _ _ _ _)
  ·exact hs))
 pd:=λk s t z n x p hk hs=>by
  have hki:k≠i:=λe=>h2 _ _ _ _ _ (e▸p)
  have hsi:s≠i:=λe=>h1 _ _ _ _ _ (e▸p)
  unfold mark at hk hs;rw[ZN hki]at hk;rw[ZN hsi]at hs;rw[dC (hd _ _ _ _ _ _ p)];exact hp _ _ (I.pd k s t z n x p hk hs)
 dj:=λk s t z n x k' s' t' z' n' x' p p' hk hs hk' Sx hne=>by
  have hki:k≠i:=λe=>h2 _ _ _ _ _ (e▸p)
  have hsi:s≠i:=λe=>h1 _ _ _ _ _ (e▸p)
  have hki':k'≠i:=λe=>h2 _ _ _ _ _ (e▸p')
  have hsi':s'≠i:=λe=>h1 _ _ _ _ _ (e▸p')
  unfold mark at hk hs hk' Sx;rw[ZN hki]at hk;rw[ZN hsi]at hs;rw[ZN hki']at hk';rw[ZN hsi']at Sx;rw[dC (hd _ _ _ _ _ _ p),dC (hd _ _ _ _ _ _ p')];exact I.dj _ _ _ _ _ _ _ _ _ _ _ _ p p' hk hs hk' Sx hne
def D1(ops:Array Oper)(l:List bL):Prop:=∀k s t z n x k' s' t' z' n' x',cw ops l k s t z n x->cw ops l k' s' t' z' n' x'->(t=t'->k=k'/\s=s')/\(k=k'->t=t')/\(s=s'->t=t')/\k≠s'
def pW.make(U:D1 ops l)(I:pW ops l w0 S ta tmps m w){k s t n z x cv}(p0:cw ops l k s t z n x)(ht:t<tmps.size)(hss:S s=false)
  (hnew:k5 m' w0 w' z.cells cv) (hfar:∀cb d,cv=.pointer (some ⟨cb,d,none⟩)->w.heap.size<=cb) (hp:∀zc cv,k5 m w0 w zc cv->k5 m' w0 w' zc cv):pW ops l w0 (mark S k) ta (gS tmps (some t) cv) m' w' where
 size:=by rw[fh];exact I.size
 ag:=λd hd=>by
  by_cases hdt:d=t
  ·subst hdt;exact(hd k s z n x p0 (by simp[mark]) (by
    have:s≠k:=Nat.ne_of_gt p0.ks;simp only[mark,ZN this];exact hss)).elim
  ·rw[dC (λe=>hdt (aaE e).symm)];refine I.ag d λk' s' z' n' x' p hk hs=>hd k' s' z' n' x' p (by unfold mark;split<;>first|rfl|exact hk) ?_
   have:s'≠k:=λe=>((U _ _ _ _ _ _ _ _ _ _ _ _ p0 p).2.2.2 e.symm)
   simp only[mark,ZN this];exact hs
 pd:=λk' s' t' z' n' x' p hk hs=>by
  by_cases hkk:k' =k
  ·have e:=(U _ _ _ _ _ _ _ _ _ _ _ _ p0 p).2.1 hkk.symm;subst e;subst hkk;have hz:=p0.hk.symm.trans p.hk;have hz:z=z':=by cases hz;rfl
   subst hz;rw[jl ht];exact hnew
  ·have hsk:s'≠k:=λe=>((U _ _ _ _ _ _ _ _ _ _ _ _ p0 p).2.2.2 e.symm)
   unfold mark at hk hs;rw[ZN hkk]at hk;rw[ZN hsk]at hs;have hne:t≠t':=λe=>hkk ((U _ _ _ _ _ _ _ _ _ _ _ _ p0 p).1 e).1.symm
   rw[dC (λe=>hne (aaE e))];exact hp _ _ (I.pd _ _ _ _ _ _ p hk hs)
 dj:=λk1 s1 t1 z1 n1 x1 k2 s2 t2 z2 n2 x2 p1 p2 hk1 Um Sz Tb hne=>by
  have hold:∀k' s' t' z' n' x',cw ops l k' s' t' z' n' x'->k'≠k->mark S k k' =true->mark S k s' =false->t≠t'/\S k' =true/\S s' =false/\(gS tmps (some t) cv).getD t' undef=tmps.getD t' undef:=λk' s' t' z' n' x' p hkk hk hs=>by
   have hsk:s'≠k:=λe=>((U _ _ _ _ _ _ _ _ _ _ _ _ p0 p).2.2.2 e.symm)
   unfold mark at hk hs;rw[ZN hkk]at hk;rw[ZN hsk]at hs;have hne:t≠t':=λe=>hkk ((U _ _ _ _ _ _ _ _ _ _ _ _ p0 p).1 e).1.symm
   exact⟨hne,hk,hs,dC (λe=>hne (aaE e))⟩
  have hfar':∀k' s' t' z' n' x',cw ops l k' s' t' z' n' x'->S k' =true->S s' =false->pS cv (tmps.getD t' undef):=λk' s' t' z' n' x' p hk hs cb1 d1 cb2 d2 e1 e2=>by
   obtain⟨cb,d,cc,el,fz,q1,q2,_⟩:=I.pd _ _ _ _ _ _ p hk hs;rw[q1]at e2;cases e2;have:=hfar cb1 d1 e1;have:=(ZX.1 q2).1;omega
  by_cases h1:k1=k
  ·have e1:=(U _ _ _ _ _ _ _ _ _ _ _ _ p0 p1).2.1 h1.symm;by_cases h2:k2=k
   ·exact absurd (e1.symm.trans ((U _ _ _ _ _ _ _ _ _ _ _ _ p0 p2).2.1 h2.symm)) hne
   ·obtain⟨a1,a2,a3,a4⟩:=hold _ _ _ _ _ _ p2 h2 Sz Tb;rw[a4,<-e1,jl ht];exact hfar' _ _ _ _ _ _ p2 a2 a3
  ·obtain⟨b1,b2,b3,b4⟩:=hold _ _ _ _ _ _ p1 h1 hk1 Um;by_cases h2:k2=k
   ·have e2:=(U _ _ _ _ _ _ _ _ _ _ _ _ p0 p2).2.1 h2.symm;rw[b4,<-e2,jl ht];exact(hfar' _ _ _ _ _ _ p1 b2 b3).symm
   ·obtain⟨a1,a2,a3,a4⟩:=hold _ _ _ _ _ _ p2 h2 Sz Tb;rw[a4,b4];exact I.dj _ _ _ _ _ _ _ _ _ _ _ _ p1 p2 b2 b3 a2 a3 hne
def pW.fill(U:D1 ops l)(I:pW ops l w0 S ta tmps m w){k s t n z x}(p0:cw ops l k s t z n x)(ht:t<tmps.size)
  (hp:∀zc cv,pS cv (tmps.getD t undef)->k5 m w0 w zc cv->k5 m' w0 w' zc cv) (hk:S k=true) (hs:S s=false):pW ops l w0 (mark S s) (gS ta (some t) (tmps.getD t undef)) tmps m' w':=by
 have hold:∀k' s' t' z' n' x',cw ops l k' s' t' z' n' x'->mark S s k' =true->mark S s s' =false->t≠t'/\S k' =true/\S s' =false:=λk' s' t' z' n' x' p hk' Sx=>by
  have h1:k'≠s:=(U _ _ _ _ _ _ _ _ _ _ _ _ p p0).2.2.2;have h2:s'≠s:=λe=>by simp[mark,e]at Sx
  unfold mark at hk' Sx;rw[ZN h1]at hk';rw[ZN h2]at Sx;exact⟨λe=>h2 ((U _ _ _ _ _ _ _ _ _ _ _ _ p p0).1 e.symm).2,hk',Sx⟩
 refine⟨by rw[fh];exact I.size,λd hd=>?_,λk' s' t' z' n' x' p hk' Sx=>?_,λk1 s1 t1 z1 n1 x1 k2 s2 t2 z2 n2 x2 p1 p2 hk1 Um Sz Tb hne=>?_⟩
 ·by_cases hdt:d=t
  ·subst hdt;rw[jl (by rw[<-I.size];exact ht)]
  ·rw[dC (λe=>hdt (aaE e).symm)];refine I.ag d λk' s' z' n' x' p hk' Sx=>hd k' s' z' n' x' p (by unfold mark;split<;>first|rfl|exact hk') ?_
   have h2:s'≠s:=λe=>hdt ((U _ _ _ _ _ _ _ _ _ _ _ _ p p0).2.2.1 e)
   simp only[mark,ZN h2];exact Sx
 ·obtain⟨a1,a2,a3⟩:=hold _ _ _ _ _ _ p hk' Sx;exact hp _ _ (I.dj _ _ _ _ _ _ _ _ _ _ _ _ p p0 a2 a3 hk hs (aa3 a1)) (I.pd _ _ _ _ _ _ p a2 a3)
 ·obtain⟨a1,a2,a3⟩:=hold _ _ _ _ _ _ p1 hk1 Um;obtain⟨b1,b2,b3⟩:=hold _ _ _ _ _ _ p2 Sz Tb;exact I.dj _ _ _ _ _ _ _ _ _ _ _ _ p1 p2 a2 a3 b2 b3 hne
end
def cR{M ops}(h:mi M ops=true){i j x y}(hij:i<j)(hx:ops[i]? =some x)(hy:ops[j]? =some y):
  (∀d,x.dst=some d->y.dst≠some d/\(d∈y.looksAt ops->ahead M i j=true))/\(∀d,y.dst=some d->d∈x.looksAt ops->ahead M i j=true):=by
 have hj:j<ops.size:=(ZX.1 hy).1;unfold mi at h;rw[aae]at h;have h1:=h j (aaP.2 hj);rw[aae]at h1;have h2:=h1 i (aaP.2 hij);rw[hx,hy]at h2;simp only[aad]at h2;obtain⟨h3,h4⟩:=h2;constructor
 ·intro d hd;rw[hd]at h3;simp only[aad,bne_iff_ne,ne_eq,abo,aaZ,List.contains_eq_mem,abp]at h3;exact⟨h3.1,λhl=>h3.2.resolve_left (λhx=>hx hl)⟩
 ·intro d hd hl;rw[hd]at h4;simp only[abo,aaZ,List.contains_eq_mem,abp]at h4;exact h4.resolve_left (λhx=>hx hl)
def oR{M ops}(h:kS M ops=true){j o}(ho:ops[j]? =some o):
  (∀e∈o.after,Region.binds .any e=true->e.on<j)/\(∀i,i<ops.size->ahead M i j=true->∃e∈o.after,Region.binds .any e=true/\(e.on=i\/ahead M i e.on=true)):=by
 have hj:j<ops.size:=(ZX.1 ho).1;unfold kS at h;rw[aae]at h;have h1:=h j (aaP.2 hj);rw[ho]at h1;simp only[aad]at h1;obtain⟨h2,h3⟩:=h1;constructor
 ·intro e he hb;rw[aae]at h2;have:=h2 e (by simpa using he);simp only[hb,Z7,abO,aah]at this;exact this
 ·intro i hi ha;rw[aae]at h3;have:=h3 i (aaP.2 hi);simp only[ha,Z7,abO,aaY,aad,abo,beq_iff_eq]at this;obtain⟨e,he,hb,hor⟩:=this;exact⟨e,by simpa using he,hb,hor⟩
def o6{M n j}(h:gO M n j=true){i}(hi:i<n)(hne:i≠j):(i<j->ahead M i j=true)/\(j<i->ahead M j i=true):=by
 unfold gO at h;rw[aae]at h;have h1:=h i (aaP.2 hi);simp only[abo,beq_iff_eq]at h1;have h2:=h1.resolve_left hne;constructor
 ·intro hlt;rwa [ZS hlt]at h2
 ·intro hlt;rwa [ZN Om]at h2
theorem uO{T:Nat->TS}{t:Nat}{a:Nat}:∀k,(∀j,a<=j->j<a+k->∃d v,T (j+1)=put (T j) d v/\d≠some t)->(T (a+k)).getD t az=(T a).getD t az
 | 0,_=>rfl
 |k+1,h=>by
  obtain⟨d,v,h1,h2⟩:=h (a+k) Om Om;rw[show a+(k+1)=a+k+1 from by omega,h1,yk h2];exact uO k λj h3 h4=>h j h3 Om
def zt{listed:Array Bool}{i:Nat}(hi:i<listed.size):(λj=>(listed.setIfInBounds i true).getD j false)=mark (λj=>listed.getD j false) i:=by
 funext j;unfold mark;exact c8 hi
def jk{ops listed}(hs:listed.size=ops.size){i}:i∈Region.ready .any ops listed↔∃o,ops[i]? =some o/\listed.getD i false=false/\∀e∈o.after,Region.binds .any e=true->listed.getD e.on false=true:=by
 unfold Region.ready;simp only[aaq,aaP,aad,aaZ];constructor
 ·rintro⟨hi,hl,ha⟩;have ho:ops[i]? =some ops[i]:=aaw hi;refine⟨ops[i],ho,?_,?_⟩
  ·exact z107
  ·rw[ho]at ha;simp only[abv,abP,Array.all_eq_true_iff_forall_mem,abo,aaZ]at ha;intro e he hb;exact(ha e he).resolve_left (by simp[hb])
 ·rintro⟨o,ho,hl,ha⟩;have hi:i<ops.size:=(ZX.1 ho).1;refine⟨hi,?_,?_⟩
  ·exact z107
  ·rw[ho];simp only[abv,abP,Array.all_eq_true_iff_forall_mem,abo,aaZ];intro e he;cases hb:Region.binds .any e with
   |true=>exact .inr (ha e he hb)
   |false=>exact .inl rfl
def mv{M ops}(he:kS M ops=true){listed}(hs:listed.size=ops.size)(hr:Region.ready .any ops listed=[]):∀i,i<ops.size->listed.getD i false=true:=by
 intro i
 induction i using Nat.strongRecOn with
 |_ i ih=>
  intro hi;cases hl:listed.getD i false with
  |true=>rfl
  |false=>
   have:i∈Region.ready .any ops listed:=by
    have ho:ops[i]? =some ops[i]:=aaw hi;refine(jk hs).2 ⟨ops[i],ho,hl,λe hee hb=>?_⟩;have:=(oR he ho).1 e hee hb;exact ih e.on this Om
   rw[hr]at this;cases this
def mw{ops listed}(hs:listed.size=ops.size)(h:∀i,i<ops.size->listed.getD i false=true):Region.ready .any ops listed=[]:=by
 cases hr:Region.ready .any ops listed with
 |nil=>rfl
 |cons x xs=>
  have:x∈Region.ready .any ops listed:=by rw[hr];simp
  obtain⟨o,ho,hl,_⟩:=(jk hs).1 this;rw[h x (ZX.1 ho).1]at hl;cases hl
def vB{P:Program}(hmix:P.follows .mixedOrders=true){ops:Array Oper}{l:List bL}(hc:cP P ops true=some l){ts ts':TS}{h h':ah}(hs:yK P l ts h ts' h'){m:bY}{a:Act}{w:World}
  (st:St P m ts h a w) (ro:Option Nat) (Q:Exit->Act->World->Prop) (hQ:∀m' a' w',St P m' ts' h' a' w'->Grow m h w m' h' w'->a'.defers=a.defers->Q .normal a' w') (id:Nat):
  (Code.region id ops true).wpIn (Fd ro) 0 P Q a w:=by
 refine wpIn_region_any hmix ?_;obtain⟨T,H,rfl,rfl,rfl,rfl,hrow⟩:=hs.row;simp only[cP,Z1]at hc;split at hc
 case isFalse=>cases hc
 rename_i hok;simp only[aad]at hok;obtain⟨hed,hsl⟩:=hok;obtain⟨l0,hc,hl⟩:=Z2.1 hc;obtain⟨SP,SF⟩:=gy hc;simp only[abN]at SP;have hlen:l.length=ops.size:=by rw[<-hl,wJ,SP]
 have hget0:∀j o,ops[j]? =some o->∃io,l0[j]? =some io/\bU P ops (!gO (Region.before ops) ops.size j) o=some io:=λj o ho=>by
  obtain⟨y,h1,h2⟩:=SF j o (by simpa using ho);exact⟨y,h1,by rwa [aau]at h2⟩
 have Vh:∀j io,l0[j]? =some io->∃o,ops[j]? =some o/\bU P ops (!gO (Region.before ops) ops.size j) o=some io:=λj io hj=>by
  have hlt:j<ops.size:=by have:=(ZC.1 hj).1;omega
  have ho:ops[j]? =some ops[j]:=aaw hlt;obtain⟨io',h1,h2⟩:=hget0 j _ ho;rw[hj]at h1;cases h1;exact⟨_,ho,h2⟩
 have XR:∀(j:Nat) (io:bL),l[j]? =some io->(∃k t z n x,cw ops l0 k j t z n x/\io={dst:=some t,k:=.oX n x,gd:=none,q:=true})\/(∃s t z n x,cw ops l0 j s t z n x/\io=Iv)\/
   ((∃o,ops[j]? =some o/\bU P ops (!gO (Region.before ops) ops.size j) o=some io)/\(∀k t z n x,¬cw ops l0 k j t z n x)/\(∀s t z n x,¬cw ops l0 j s t z n x)):=λj io hj=>by
  rw[<-hl,wK,aau]at hj;obtain⟨io0,h0,rfl⟩:=Z2.1 hj;rcases yv SP h0 with⟨k,t,z,n,x,p,e⟩|⟨s,t,z,n,x,p,e⟩|⟨e,n1,n2⟩
  ·exact .inl ⟨k,t,z,n,x,p,e⟩
  ·exact .inr (.inl ⟨s,t,z,n,x,p,e⟩)
  ·rw[e];exact .inr (.inr ⟨Vh j io0 h0,n1,n2⟩)
 have hdU:∀(i j:Nat) (oi oj:Oper) (d:Nat),ops[i]? =some oi->ops[j]? =some oj->oi.dst=some d->oj.dst=some d->i=j:=λi j oi oj d hi hj h1 h2=>by
  by_cases hlt:i<j
  ·exact absurd h2 ((cR hsl hlt hi hj).1 d h1).1
  ·by_cases VD:j<i
   ·exact absurd h1 ((cR hsl VD hj hi).1 d h2).1
   ·omega
 have Za:∀{k s t:Nat}{z:AV}{n:Nat}{x:cZ},cw ops l0 k s t z n x->∃o,ops[k]? =some o/\o.dst=some t/\bU P ops (!gO (Region.before ops) ops.size k) o=some {dst:=some t,k:=.box (.c z),gd:=none,q:=true}:=λp=>by
  obtain⟨o,h1,h2⟩:=Vh _ _ p.hk;exact⟨o,h1,(dw h2).1.symm,h2⟩
 have hps:∀{k s t:Nat}{z:AV}{n:Nat}{x:cZ},cw ops l0 k s t z n x->∃o,ops[s]? =some o/\o.dst=none/\bU P ops (!gO (Region.before ops) ops.size s) o=some {dst:=none,k:=.store n (.t t) x,gd:=none,q:=true}:=λp=>by
  obtain⟨o,h1,h2⟩:=Vh _ _ p.hs;exact⟨o,h1,(dw h2).1.symm,h2⟩
 have hlooks:∀{j t:Nat}{o:Oper},ops[j]? =some o->fG ops j t=true->t∈o.looksAt ops:=λho h=>by
  unfold fG at h;rw[ho]at h
  simpa using h
 have XJ:∀{j t:Nat}{o:Oper},ops[j]? =some o->t∈o.looksAt ops->fG ops j t=true:=λho h=>by
  unfold fG;rw[ho]
  simpa using h
 have eG:∀{j:Nat}{o:Oper},ops[j]? =some o->j<ops.size:=λho=>(ZX.1 ho).1
 have U:D1 ops l0:=λk s t z n x k' s' t' z' n' x' p p'=>by
  refine⟨λe=>?_,λe=>?_,λe=>?_,λe=>?_⟩
  ·subst e;obtain⟨o,h1,h2,_⟩:=Za p;obtain⟨o',h1',h2',_⟩:=Za p';refine⟨hdU _ _ _ _ _ h1 h1' h2 h2',?_⟩;by_cases hs:s=s'
   ·exact hs
   ·obtain⟨os,Um,_⟩:=hps p';have:=p.only s' (eG Um) (aa3 hs);rw[p'.lt]at this;cases this
  ·subst e;have:=p.hk.symm.trans p'.hk;cases this;rfl
  ·subst e;have:=p.hs.symm.trans p'.hs;cases this;rfl
  ·subst e;have:=p.hk.symm.trans p'.hs;cases this
 have hpt:∀{i:Nat}{o:Oper}{t:Nat},ops[i]? =some o->t∈o.looksAt ops->∀k s z n x,cw ops l0 k s t z n x->i=s:=λ{i o t} ho ht k s z n x p=>by
  by_cases hi:i=s
  ·exact hi
  ·have:=p.only _ (eG ho) hi;rw[XJ ho ht]at this;cases this
 have TI:∀(j:Nat) (io:bL) (d:Nat),l[j]? =some io->io.dst=some d->(∃o,ops[j]? =some o/\o.dst=some d/\(∀k t z n x,¬cw ops l0 k j t z n x)/\(∀s t z n x,¬cw ops l0 j s t z n x))\/(∃k z n x,cw ops l0 k j d z n x):=λj io d hj hd=>by
  rcases XR j io hj with⟨k,t,z,n,x,p,e⟩|⟨s,t,z,n,x,p,e⟩|⟨⟨o,h1,h2⟩,n1,n2⟩
  ·rw[e]at hd;cases hd;exact .inr ⟨k,z,n,x,p⟩
  ·rw[e]at hd;cases hd
  ·exact .inl ⟨o,h1,by rw[<- (dw h2).1];exact hd,n1,n2⟩
 have Ua:∀j io,l[j]? =some io->∃v,T (j+1)=put (T j) io.dst v:=λj io hj=>(hrow.step j io hj).1.put
 have hTl:∀j,j<=l.length->(T j).length=(T 0).length:=by
  intro j
  induction j with
  |zero=>intro _;rfl
  |succ j ih=>
   intro hj;exact N5
 have hG:P.globals.size<=(H 0).length:=st.hr.Hg;have huniq:∀(i:Nat) (io:bL),l[i]? =some io->∀(j:Nat) (o:bL) (d:Nat),j≠i->l[j]? =some o->o.dst=some d->io.dst≠some d:=by
  intro i io hi j o d hne hj hd Ta;rcases TI j o d hj hd with⟨oj,a1,a2,a3,a4⟩|⟨k,z,n,x,p⟩
  ·rcases TI i io d hi Ta with⟨oi,b1,b2,b3,b4⟩|⟨k',z',n',x',p'⟩
   ·exact hne (hdU _ _ _ _ _ a1 b1 a2 b2)
   ·obtain⟨ok,h1,h2,_⟩:=Za p';have e:=hdU _ _ _ _ _ a1 h1 a2 h2;subst e;exact a4 _ _ _ _ _ p'
  ·rcases TI i io d hi Ta with⟨oi,b1,b2,b3,b4⟩|⟨k',z',n',x',p'⟩
   ·obtain⟨ok,h1,h2,_⟩:=Za p;have e:=hdU _ _ _ _ _ b1 h1 b2 h2;subst e;exact b4 _ _ _ _ _ p
   ·exact hne ((U _ _ _ _ _ _ _ _ _ _ _ _ p p').1 rfl).2
 have SL:∀a b t,a<=b->b<=l.length->(∀(j:Nat) (o:bL),a<=j->j<b->l[j]? =some o->o.dst≠some t)->(T b).getD t az=(T a).getD t az:=by
  intro a b t hab hb hno;have:=uO (T:=T) (t:=t) (a:=a) (b-a) (λj h1 h2=>by
   have hj:l[j]? =some (l[j]'Om):=ZH Om;obtain⟨v,hv⟩:=Ua j _ hj;exact⟨_,v,hv,hno j _ h1 Om hj⟩)
  rwa [show a+(b-a)=b from by omega]at this
 have hqt:∀(j:Nat) (io:bL),l[j]? =some io->gO (Region.before ops) ops.size j=false->io.q=true:=λj io hj hb=>by
  rcases XR j io hj with⟨k,t,z,n,x,p,e⟩|⟨s,t,z,n,x,p,e⟩|⟨⟨o,h1,h2⟩,n1,n2⟩
  ·rw[e]
  ·rw[e];rfl
  ·rw[(dw h2).2,hb];rfl
 have hdone:∀(listed:Array Bool) (β θ:Nat) (m1:bY) (ta:Array Value) (a1:Act) (w1:World),(∀i,i<ops.size->listed.getD i false=true)->
   sV P l T H m w (λj=>listed.getD j false) β θ m1 ta w1->pW ops l0 w (λj=>listed.getD j false) ta a1.tmps m1 w1->a1.defers=a.defers->Q .normal a1 w1:=by
  intro listed β θ m1 ta a1 w1 hall M I hd;have hθ:θ=l.length:=by
   have h1:=M.θn;by_cases hz:l.length=0
   ·omega
   ·have:=M.high (l.length-1) (hall _ Om);omega
  subst hθ;refine hQ m1 a1 w1 ⟨M.hr,cK.iu ?_ ?_⟩ M.grow hd
  ·have:=M.size;have:=I.size;have:=hTl l.length (ZO _);simp;omega
  ·intro t x hx;have hlt:=(ZC.1 hx).1;have Td:t<a1.tmps.size:=by have:=M.size;have:=I.size;have:=hTl l.length (ZO _);omega
   have ex:(T l.length).getD t az=x:=by simp[List.getD,hx]
   have ey:a1.tmps.getD t undef=a1.tmps[t]:=by simp[aas,aaw Td]
   have eg:a1.tmps.getD t undef=ta.getD t undef:=I.ag t λk s z n x p _ hs=>by
    obtain⟨os,Um,_⟩:=hps p;rw[hall s (eG Um)]at hs;cases hs
   refine⟨a1.tmps[t],Si,?_⟩;rw[<-ex,<-ey,eg];by_cases hw:∃(j:Nat) (o:bL),l[j]? =some o/\o.dst=some t
   ·obtain⟨j,o,hj,ho⟩:=hw;have Uv:=(ZC.1 hj).1;have h1:=M.yY t j o hj (hall j Om) ho;rw[SL (j+1) l.length t Om (ZO _) (λk o' h2 h3 h4 h5=>huniq j o hj k o' t Om h4 h5 ho)];exact VR.mono (bY.fw _ _) _ _ h1
   ·rw[SL 0 l.length t Om (ZO _) (λk o' _ _ h4 h5=>hw ⟨k,o',h4,h5⟩)];exact VR.mono (M.grow.le st.hr.cN) _ _ (M.yZ t (λj o hj _ ho=>hw ⟨j,o,hj,ho⟩))
 have key:∀(fuel:Nat) (listed:Array Bool) (β θ:Nat) (m1:bY) (ta:Array Value) (a1:Act) (w1:World),listed.size=ops.size->ra listed ops.size<=fuel->
   (∀j x,listed.getD j false=true->x<ops.size->ahead (Region.before ops) x j=true->listed.getD x false=true)->
   sV P l T H m w (λj=>listed.getD j false) β θ m1 ta w1->pW ops l0 w (λj=>listed.getD j false) ta a1.tmps m1 w1->a1.defers=a.defers->wpAnyIn (Fd ro) 0 P .any ops Q fuel listed a1 w1:=by
  intro fuel
  induction fuel with
  |zero=>
   intro listed β θ m1 ta a1 w1 SN hu hcl M I hd;have hall:=lH ops.size (show ra listed ops.size=0 by omega);exact⟨mw SN hall,hdone listed β θ m1 ta a1 w1 hall M I hd⟩
  |succ fuel ih=>
   intro listed β θ m1 ta a1 w1 SN hu hcl M I hd;refine⟨λhr=>hdone listed β θ m1 ta a1 w1 (mv hed SN hr) M I hd,λi hi=>?_⟩;obtain⟨o,ho,TF,XO⟩:=(jk SN).1 hi;have hin:i<ops.size:=(ZX.1 ho).1;have hio:l[i]? =some (l[i]'Om):=ZH Om;generalize l[i]'Om=io at hio;obtain⟨bS,hq⟩:=hrow.step i io hio;have hahead:∀x,x<ops.size->ahead (Region.before ops) x i=true->listed.getD x false=true:=λx hx ha=>by
    exact NL
   have Up:β<=i:=by
    by_cases hx:i<β
    ·have:=M.low i hx;simp only[TF]at this;cases this
    ·omega
   have Uz:∀j x,(listed.setIfInBounds i true).getD j false=true->x<ops.size->ahead (Region.before ops) x j=true->(listed.setIfInBounds i true).getD x false=true:=by
    intro j x hj hx ha;exact z40
   have Wd:ra (listed.setIfInBounds i true) ops.size<=fuel:=by
    exact NF
   have hslot:∀(β' θ':Nat),sV P l T H m w (λj=>listed.getD j false) β' θ' m1 ta w1->i<=θ'->∀t,t∈o.looksAt ops->(∀k s z n x,¬cw ops l0 k s t z n x)->VR (m1.dG (H i).length) ((T i).getD t az) (ta.getD t undef):=by
    intro β' θ' M' hi' t ht hnp;have h0i:=fM M'.len (aac i) hi';by_cases hex:∃(x:Nat) (ox:bL),l[x]? =some ox/\listed.getD x false=true/\ox.dst=some t
    ·obtain⟨x,ox,hx,hxl,VK⟩:=hex;rcases TI x ox t hx VK with⟨oo,U6,V6,_⟩|⟨k,z,n,y,p⟩
     ·have hxn:x<ops.size:=(ZX.1 U6).1;have hxi:x<i:=by
       by_cases h1:x=i
       ·subst h1;rw[TF]at hxl;cases hxl
       ·by_cases h2:x<i
        ·exact h2
        ·have h3:=(cR hsl (show i<x by omega) ho U6).2 t V6 ht;have h4:=hcl x i hxl hin h3;rw[TF]at h4;cases h4
      have h1:=M'.yY t x ox hx hxl VK;rw[SL (x+1) i t Om Om (λk o' h2 h3 h4 h5=>huniq x ox hx k o' t Om h4 h5 VK)];exact VR.mono (bY.Ai _ (fM M'.len Om hi')) _ _ h1
     ·exact absurd p (hnp _ _ _ _ _)
    ·rw[SL 0 i t Om Om (λk o' h2 h3 h4 h5=>by
      rcases TI k o' t h4 h5 with⟨oo,U6,Ta,_⟩|⟨k',z,n,y,p⟩
      ·have h6:=((cR hsl h3 U6 ho).1 t Ta).2 ht;exact hex ⟨k,o',h4,hahead k (ZX.1 U6).1 h6,h5⟩
      ·exact hnp _ _ _ _ _ p)]
     refine VR.mono ?_ _ _ (M'.yZ t (λj o hj hl Ta=>hex ⟨j,o,hj,hl,Ta⟩));intro b e hb;have:=st.hr.cN b e hb;unfold bY.dG;rw[ZS Om];exact M'.grow.le st.hr.cN b e hb
   have Zw:∀t,(∀k s z n x,¬cw ops l0 k s t z n x)->a1.tmps.getD t undef=ta.getD t undef:=λt hnp=>I.ag t λk s z n x p _ _=>hnp _ _ _ _ _ p
   have hTn:∀j,j<=l.length->a1.tmps.size=(T j).length:=λj hj=>by rw[I.size,M.size,hTl j hj]
   have U4:io.q=true->∃θ',i<θ'/\sV P l T H m w (λj=>listed.getD j false) β θ' m1 ta w1:=λUN=>by
    by_cases TG:i<θ
    ·exact⟨θ,TG,M⟩
    ·refine⟨i+1,Om,M.raise Om Om λj hj XM=>?_⟩;have Uv:j<ops.size:=Om
     have Zl:l[j]? =some (l[j]'Om):=ZH Om;by_cases hji:j=i
     ·subst hji;rw[hio]at Zl;exact hq UN
     ·have hjs:listed.getD j false=false:=by
       cases hx:listed.getD j false with
       |false=>rfl
       |true=>have:=M.high j hx;omega
      cases hb:gO (Region.before ops) ops.size j with
      |true=>
       have h1:=(o6 hb hin (λx=>hji x.symm)).2 Om;have h2:=hahead j Uv h1;rw[hjs]at h2;cases h2
      |false=>exact(hrow.step j _ Zl).2 (hqt j _ Zl hb)
   have hih:∀(β2 YC:Nat) (m2:bY) (ta2:Array Value) (a2:Act) (w2:World),sV P l T H m w (mark (λj=>listed.getD j false) i) β2 YC m2 ta2 w2->pW ops l0 w (mark (λj=>listed.getD j false) i) ta2 a2.tmps m2 w2->a2.defers=a1.defers->
     wpAnyIn (Fd ro) 0 P .any ops Q fuel (listed.setIfInBounds i true) a2 w2:=λβ2 YC m2 ta2 a2 w2 M2 I2 XP=>
    ih (listed.setIfInBounds i true) β2 YC m2 ta2 a2 w2 (by simpa using SN) Wd Uz (by rw[zt Om];exact M2) (by rw[zt Om];exact I2) (XP.trans hd)
   rcases XR i io hio with⟨k,t,z,n,x,p,e⟩|⟨s,t,z,n,x,p,e⟩|⟨⟨o',ho',SJ⟩,n1,n2⟩
   ·
    subst e;obtain⟨os,hos,hosd,SJ⟩:=hps p;rw[ho]at hos;cases hos;obtain⟨ok,Wg,Tc,_⟩:=Za p;have Xm:listed.getD k false=true:=hahead k (eG Wg) (((cR hsl p.ks Wg ho).1 t Tc).2 (hlooks ho p.lt));have hpend:=I.pd _ _ _ _ _ _ p Xm TF;obtain⟨cb,d,cc,el,fz,Uy,hheap,SO,hfz,hcon,YX,hout⟩:=hpend;obtain⟨θ',TG,M'⟩:=U4 rfl;have Uk:=M'.cut hG Up (ab5 TG);obtain⟨X,hX1,hX2,Vz,Zx,hTs⟩:∃X:List AV,X=(val (T i) x).cells/\(X.all AV.one=true/\X.length=n)/\t<(T i).length/\H (i+1)=H i++[.cells X true false]/\T (i+1)=put (T i) (some t) (.ptr (H i).length 0):=by
     generalize H (i+1)=H1 at bS;generalize T (i+1)=T1 at bS;cases bS with
     |run hw hb hs=>
      have hs:dx (.oX n x) (val (T i)) (H i)=some (_,_):=hs;simp only[dx]at hs;split at hs
      case isFalse=>cases hs
      rename_i SQ;cases hs;exact⟨_,rfl,SQ,hb,rfl,rfl⟩
     |skip hw=>exact absurd trivial hw
    have hr1:=Uk.Nq hheap hfz (λb e he=>hout b e (bY.fw _ _ _ _ he)) SO (λj y hy=>by
     obtain⟨h1,v,h2,h3⟩:=hcon j y hy;exact⟨h1,v,h2,h3 _⟩)
    generalize hmc:(m1.dG (H i).length).add (H i).length ⟨cb,d,cc.size,true⟩=mc at hr1;have XH:mc (H i).length=some ⟨cb,d,cc.size,true⟩:=by rw[<-hmc];simp[bY.add]
    have Wl:∀b,b≠(H i).length->mc b=(m1.dG (H i).length) b:=λb hb=>by rw[<-hmc];unfold bY.add;rw[ZN hb]
    have hmcl:(m1.dG (H i).length).le mc:=λb e he=>by
     by_cases hb:b=(H i).length
     ·subst hb;have:=Uk.cN _ _ he;omega
     ·rw[Wl b hb];exact he
    have Vx:val (put (T i) (some t) (.ptr (H i).length 0)) x=val (T i) x:=by
     cases x with
     |t u=>
      have hut:=(p.xt u rfl).1;simp only[val];exact yk (λe=>hut (aaE e).symm)
     |_=>rfl
    have hvt:val (put (T i) (some t) (.ptr (H i).length 0)) (.t t)=.ptr (H i).length 0:=by
     simp only[val,put,List.getD];rw[ZU Vz];rfl
    have hzl:z.cells.length=X.length:=by rw[p.zn,hX2.2]
    have Zk:dB P {dst:=none,k:=.store n (.t t) x,gd:=none,q:=true} (put (T i) (some t) (.ptr (H i).length 0)) (H i++[.cells z.cells true false]) (put (T i) (some t) (.ptr (H i).length 0)) (H (i+1)):=by
     refine dB.run (v:=az) trivial trivial ?_;show dx (.store n (.t t) x) _ _=some (az,H (i+1));simp only[dx,hvt,Vx];rw[ZP (ZO _),aaG];show(if(val (T i) x).cells.length=n/\(val (T i) x).cells.all AV.one=true/\0+n<=z.cells.length then some (az,(H i++[ak.cells z.cells true false]).set (H i).length (.cells (fU z.cells 0 (val (T i) x).cells) true false))else none)=_;rw[<-hX1,ZS ⟨hX2.2,hX2.1,by rw[p.zn];omega⟩];have aW:=rn X z.cells [] hzl;rw[abi,abi,ZJ]at aW;rw[aW,aaA _ _ (ZO _),aaG,Zx];rfl
    refine fD ho SJ hr1.gv hr1 (by rw[nA];exact hTn i Om) (λu hu=>?_) Zk ro _ Q ?_
    ·by_cases hut:u=t
     ·subst hut;have:(put (T i) (some u) (AV.ptr (H i).length 0)).getD u az=.ptr (H i).length 0:=hvt;rw[this,Uy];exact⟨_,XH,by rw[aau]⟩
     ·have hnp:∀k s z n x,¬cw ops l0 k s u z n x:=λk' s' z' n' x' p'=>by
       have e:=hpt ho hu _ _ _ _ _ p';exact hut ((U _ _ _ _ _ _ _ _ _ _ _ _ p' p).2.2.1 e.symm)
      rw[yk (λe=>hut (aaE e).symm),Zw u hnp];exact VR.mono hmcl _ _ (hslot β θ' M' (ab5 TG) u hu hnp)
    ·intro cv v m' w' _ _ hr' SV;have hlen1:(H i++[ak.cells z.cells true false]).length=(H i).length+1:=Si
     have Wr:(H (i+1)).length=(H i).length+1:=by rw[Zx];simp
     have Zc:∀b,b<(H i).length+1->m' b=mc b:=λb hb=>SV.ext b (by rw[hlen1];exact hb)
     have Zd:m' (H i).length=some ⟨cb,d,cc.size,true⟩:=by rw[Zc _ Om];exact XH
     have Yh:∀b e,(H i).length<=b->m' b=some e->b=(H i).length/\e=⟨cb,d,cc.size,true⟩:=λb e hb he=>by
      have h1:=hr'.cN b e he;rw[Wr]at h1;have:b=(H i).length:=Om
      subst this;rw[Zd]at he;cases he;exact⟨rfl,rfl⟩
     have M2:=M'.G7 hG Up TG TF hio hr' (λb hb=>by rw[Zc b Om,Wl b Om])
      (λb e hb he=>by
       obtain⟨_,rfl⟩:=Yh b e hb he;exact⟨rfl,YX,λb' e' h=>hout b' e' h⟩)
      (λy hy h1 h2=>SV.frame y hy λb e he ho' hcb=>by
       by_cases hb:b=(H i).length
       ·subst hb;rw[XH]at he;cases he;exact h2 _ _ (ZO _) Zd hcb
       ·rw[Wl b hb]at he;exact h1 b e he ho' hcb)
      SV.size SV.os SV.out SV.tape (v:=.ptr (H i).length 0) (cv:=a1.tmps.getD t undef) (by rw[Uy];exact⟨_,Zd,by rw[aau]⟩) hTs (hTl i Om) (huniq i _ hio)
     have Y9:a1.put o.dst cv=a1:=by rw[hosd];rfl
     rw[Y9];refine hih _ _ _ _ a1 w' M2 (I.fill U p (by rw[hTn i Om];exact Vz) (λzc c hne q=>?_) Xm TF) rfl;refine q.move (λWZ d' hc hlt h7=>?_) (λWZ d' hc hlt h7 b e he=>?_)
     ·refine SV.frame WZ hlt λb e he _ hcb=>?_
      by_cases hb:b=(H i).length
      ·subst hb;rw[XH]at he;cases he;exact hne _ _ _ _ hc Uy hcb.symm
      ·rw[Wl b hb]at he;exact h7 b e (bY.fw _ _ _ _ he) hcb
     ·unfold bY.patch at he;split at he
      ·rename_i hb;by_cases hbl:b<(H i).length
       ·rw[Zc b Om,Wl b Om]at he;exact h7 b e (bY.fw _ _ _ _ he)
       ·obtain⟨_,rfl⟩:=Yh b e Om he
        exactλhcb=>hne _ _ _ _ hc Uy hcb.symm
      ·exact h7 b e he
   ·
    subst e;obtain⟨ok,Wg,Tc,SJ⟩:=Za p;rw[ho]at Wg;cases Wg;obtain⟨os,hos,_⟩:=hps p;have hss:listed.getD s false=false:=by
     cases hx:listed.getD s false with
     |false=>rfl
     |true=>
      have:=hcl s i hx hin (((cR hsl p.ks ho hos).1 t Tc).2 (hlooks hos p.lt));rw[TF]at this;cases this
    obtain⟨θ',TG,M'⟩:=U4 rfl;have Uk:=M'.cut hG Up (ab5 TG);have Vz:t<(T i).length:=by
     have hsl':s<l.length:=by rw[hlen];exact eG hos
     have Um:l[s]? =some l[s]:=ZH hsl';have Tb:=(hrow.step s _ Um).1;rcases XR s _ Um with⟨k',t',z',n',x',p',e⟩|⟨s',t',z',n',x',p',e⟩|⟨_,n1,_⟩
     ·have e2:=(U _ _ _ _ _ _ _ _ _ _ _ _ p p').2.2.1 rfl;subst e2;rw[e]at Tb;generalize H (s+1)=H1 at Tb;generalize T (s+1)=T1 at Tb;have:t<(T s).length:=by
       cases Tb with
       |run hw hb hs=>exact hb
       |skip hw=>exact absurd trivial hw
      rw[hTl s Om]at this;rw[hTl i Om];exact this
     ·exact absurd rfl ((U _ _ _ _ _ _ _ _ _ _ _ _ p' p).2.2.2)
     ·exact absurd p (n1 _ _ _ _ _)
    have hHk:H (i+1)=H i/\T (i+1)=T i:=by
     generalize H (i+1)=H1 at bS;generalize T (i+1)=T1 at bS;cases bS with
     |run hw hb hs=>
      have hs:dx (.cg (.c (.bool false))) (val (T i)) (H i)=some (_,_):=hs;simp only[dx]at hs;cases hs;exact⟨rfl,rfl⟩
     |skip hw=>exact absurd trivial hw
    have Zk:dB P {dst:=some t,k:=.box (.c z),gd:=none,q:=true} (T i) (H i) (put (T i) (some t) (.ptr (H i).length 0)) (H i++[.cells z.cells true false]):=by
     refine dB.run (v:=.ptr (H i).length 0) trivial trivial ?_;exact ZS (show(val (T i) (.c z)).cells.all AV.one=true from aae.2 λy hy=>Dw (aae.1 p.zc y hy))
    refine fD ho SJ Uk.gv Uk (hTn i Om) (λu hu=>?_) Zk ro _ Q ?_
    ·have hnp:∀k s z n x,¬cw ops l0 k s u z n x:=λk' s' z' n' x' p'=>by
      have e:=hpt ho hu _ _ _ _ _ p';exact(U _ _ _ _ _ _ _ _ _ _ _ _ p p').2.2.2 e
     rw[Zw u hnp];exact hslot β θ' M' (ab5 TG) u hu hnp
    ·intro cv v m' w' T0 T3 hr' SV;have hv:v=.ptr (H i).length 0:=by
      rw[Tc]at T0;have:=aai (λl:TS=>l[t]?) T0;simp only[put]at this;rw[ZU Vz,ZU Vz]at this;exact(aaE this).symm
     subst hv;obtain⟨e,he,Uy⟩:=T3;obtain⟨cc,el,fz,S9,Tk,VE,hb4,hb5⟩:=hr'.dU _ e _ he (by rw[ZP (ZO _),aaG];rfl);obtain⟨hown,hex⟩:=hb5 (.inl rfl);have hex:=hex rfl;obtain⟨_,hnew⟩:=SV.new _ e (ZO _) he;have hfar:w1.heap.size<=e.cb:=by
      rcases hnew with hnew|⟨b0,e0,c1,_,_,c4,c5⟩
      ·exact hnew
      ·have:=Uk.cN b0 e0 c1;unfold eI at c4 c5;rw[ZF this]at c5;rw[c5]at c4;cases c4
     rw[aau]at Uy;have VT:=Uk.forget hr' SV;have Vc:=SV.forget;have M2:=M'.next hG Up TG TF hio (m1:=m'.dG (H i).length) (w1:=w') (by rw[hHk.1];exact VT) (by rw[hHk.1];exact Vc) (v:=.bool false) (cv:=.bool false) rfl (by rw[hHk.2];rfl) (hTl i Om) (huniq i _ hio);have hin2:∀b e',((m'.dG (H i).length).patch m1 (H (i+1)).length) b=some e'->m1 b=some e':=λb e' h=>by
      unfold bY.patch at h;split at h
      ·have hbl:b<(H i).length:=by
        unfold bY.dG at h;split at h
        ·assumption
        ·cases h
       rw[Vc.ext b hbl]at h;exact bY.fw _ _ _ _ h
      ·exact h
     have hp2:∀zc c,k5 m1 w w1 zc c->k5 ((m'.dG (H i).length).patch m1 (H (i+1)).length) w w' zc c:=λzc c q=>q.move
      (λWZ d' _ hlt h7=>SV.frame WZ hlt λb e' h _=>h7 b e' (bY.fw _ _ _ _ h)) (λWZ d' _ hlt h7 b e' h=>h7 b e' (hin2 b e' h))
     have Y9:(a1.put o.dst cv).tmps=gS a1.tmps (some t) cv:=by rw[Tc];rfl
     refine hih _ _ _ _ (a1.put o.dst cv) w' M2 ?_ (put_defers ..);rw[Y9];show pW ops l0 w _ (gS ta Iv.dst _) _ _ _;refine I.make U p (by rw[hTn i Om];exact Vz) hss ?_ (λWZ d' h=>?_) hp2
     ·refine⟨e.cb,e.d,cc,el,fz,Uy,S9,Om,(hb4 hown).2,λj y hy=>?_,aat M.grow.size hfar,λb e' h=>?_⟩
      ·obtain⟨h1,v,h2,h3⟩:=VE j y hy;exact⟨h1,v,h2,FK (aae.1 p.zc y (aaz hy)) h3⟩
      ·have:=M.hr.lt b e' (hin2 b e' h);omega
     ·rw[Uy]at h;cases h;exact hfar
   ·
    rw[ho]at ho';cases ho';obtain⟨Zr,hioq⟩:=dw SJ;have hnp:∀t,t∈o.looksAt ops->∀k s z n x,¬cw ops l0 k s t z n x:=λt ht k s z n x p=>by
     have:=hpt ho ht k s z n x p;subst this;exact n1 _ _ _ _ _ p
    have Uh:∀k s t z n x,cw ops l0 k s t z n x->io.dst≠some t:=λk s t z n x p hx=>by
     obtain⟨ok,h1,h2,_⟩:=Za p;have e:=hdU _ _ _ _ _ h1 ho h2 (by rw[<-Zr];exact hx);subst e;exact n2 _ _ _ _ _ p
    have Sy:∀(β' θ':Nat),sV P l T H m w (λj=>listed.getD j false) β' θ' m1 ta w1->β'<=i->i<=θ'->
      (∀cv v m' w',T (i+1)=put (T i) io.dst v->VR m' v cv->HR P m' (H (i+1)) w'->Grow (m1.dG (H i).length) (H i) w1 m' (H (i+1)) w'->∃β2 YC m2,sV P l T H m w (mark (λj=>listed.getD j false) i) β2 YC m2 (gS ta io.dst cv) w'/\∀zc c,k5 m1 w w1 zc c->k5 m2 w w' zc c)->
      wpOpIn (Fd ro) 0 P ops Q i (wpAnyIn (Fd ro) 0 P .any ops Q fuel (listed.setIfInBounds i true)) a1 w1:=by
     intro β' θ' M' hb' hi' Wi;have Uk:=M'.cut hG hb' hi';refine fD ho SJ Uk.gv Uk (hTn i Om) (λt ht=>?_) bS ro _ Q ?_
     ·rw[Zw t (hnp t ht)];exact hslot β' θ' M' hi' t ht (hnp t ht)
     ·intro cv v m' w' T0 T3 hr' SV;obtain⟨β2,YC,m2,M2,hp2⟩:=Wi cv v m' w' (by rw[Zr];exact T0) T3 hr' SV;have:(a1.put o.dst cv).tmps=gS a1.tmps io.dst cv:=by rw[Zr];cases o.dst<;>rfl
      exact hih β2 YC m2 _ _ w' M2 (by rw[this];exact I.other n1 n2 Uh hp2) (put_defers ..)
    by_cases UN:io.q=true
    ·obtain⟨θ',TG,M'⟩:=U4 UN;exact Sy β θ' M' Up Om λcv v m' w' T0 T3 hr' SV=>⟨β,θ',_,M'.next hG Up TG TF hio hr' SV T3 T0 (hTl i Om) (huniq i io hio),λzc c q=>(q.grow SV).2⟩
    ·have hbar:gO (Region.before ops) ops.size i=true:=by
      rw[hioq]at UN
      simpa using UN
     have hall:∀j,j<i->listed.getD j false=true:=λj hj=>hahead j Om ((o6 hbar (show j<ops.size by omega) Om).1 hj)
     by_cases TG:i<θ
     ·exact Sy β θ M Up Om λcv v m' w' T0 T3 hr' SV=>⟨β,θ,_,M.next hG Up TG TF hio hr' SV T3 T0 (hTl i Om) (huniq i io hio),λzc c q=>(q.grow SV).2⟩
     ·have hθi:θ=i:=by
       by_cases hz:i=0
       ·omega
       ·have:=M.high (i-1) (hall _ Om);omega
      subst hθi;exact Sy β θ M Up (ZO _) λcv v m' w' T0 T3 hr' SV=>⟨θ+1,θ+1,m',M.jump st.hr.cN hall Om hio hr' SV T3 T0 (hTl θ Om) (huniq θ io hio),λzc c q=>(q.grow SV).1⟩
 have SE:∀j,(Array.replicate ops.size false).getD j false=false:=λj=>by
  exact NG
 refine key ops.size (Array.replicate ops.size false) 0 0 m a.tmps a _ Si ?_ (λj x hj _ _=>by simp[SE j]at hj) ?_ ?_ rfl
 ·exact NM
 ·refine⟨ZO _,aac _,λj hj=>absurd hj Om,λj hj=>by simp[SE j]at hj,λj _ hj=>absurd hj Om,λj hj=>absurd hj Om,st.hr.drew,λj hj=>absurd hj Om,?_,λj _ hj=>absurd hj Om,
   (Grow.refl m _ w st.hr.cN).drew,?_,?_,?_⟩
  ·intro i hi hi' b e k hb TD hk;have:i=0:=Om
   subst this;exact(st.hr.dU b e k TD hk).jf st.hr.cN
  ·exact Ef
  ·intro d _;exact nY st.ts d
  ·intro d j o _ hj _;simp only[SE j]at hj;cases hj
 ·exact⟨rfl,λ_ _=>rfl,λk s t z n x p hk=>by simp[SE k]at hk,λk s t z n x k' s' t' z' n' x' p p' hk=>by simp[SE k]at hk⟩
def Il{k}(hk:fC k=true){ρ h h' v}(hs:mY k ρ h v h'):h' =h/\∀g,mY k ρ g v g:=by
 cases k<;>first
  |(cases hk;done)
  |skip
 case conv c x=>
  cases c<;>first
   |(cases hk;done)
   |skip
  have hs:dx _ _ _=some (_,_):=hs;simp only[dx,ku]at hs;split at hs
  ·rename_i k n hx;cases hs;refine⟨rfl,λg=>?_⟩;show dx _ _ _=some (_,_);simp only[dx,ku,hx]
  ·cases hs
 case len lk x=>
  have e:lk≠.mp->∀g,AK lk g (ρ x)=AK lk h (ρ x):=λhl g=>by
   cases lk<;>first|exact absurd rfl hl|skip
   all_goals
    cases ρ x<;>first|rfl|(simp only[AK,reduceCtorEq,ZY];repeat' split)<;>rfl
  have hl:lk≠.mp:=λe=>by rw[e]at hk;cases hk
  have hs:dx _ _ _=some (_,_):=hs;simp only[dx]at hs;split at hs
  ·rename_i n hn;cases hs;refine⟨rfl,λg=>?_⟩;show dx _ _ _=some (_,_);simp only[dx,e hl g,hn]
  ·cases hs
 all_goals
  have hs:dx _ _ _=some (_,_):=hs;simp only[dx]at hs
  repeat' split at hs
  all_goals first
   |(cases hs;done)
   |(cases hs
     refine⟨rfl,λg=>?_⟩;show dx _ _ _=some (_,_);simp only[dx, *]
     done)
   |(cases hs
     refine⟨rfl,λg=>?_⟩;show dx _ _ _=some (_,_);simp[dx, *]
     done)
def ym{P o}(hk:fC o.k=true){ts ts' h h'}(hs:dB P o ts h ts' h'):h' =h/\∀g,dB P o ts g ts' g:=by
 cases hs with
 | @run v h' hw hb hs=>
  have Sx:mY o.k (val ts) h v h':=by
   cases Ut:o.k<;>rw[Ut]at hs hk<;>first|exact hs|(cases hk;done)
  obtain⟨rfl,h2⟩:=Il hk Sx;refine⟨rfl,λg=>.run hw hb ?_⟩;have:=h2 g;cases Ut:o.k<;>rw[Ut]at this hk<;>first|exact this|(cases hk;done)
 |skip hw=>exact⟨rfl,λg=>.skip hw⟩
def yj{P o}(hk:cE o.k=true){ts ts' h h'}(hs:dB P o ts h ts' h'):h' =h:=by
 by_cases hp:fC o.k=true
 ·exact(ym hp hs).1
 ·cases Ut:o.k with
  |load n a=>
   cases hs with
   |run hw hb hs=>
    rw[Ut]at hs;have hs:dx (.load n a) _ _=some (_,_):=hs;simp only[dx]at hs
    repeat' split at hs
    all_goals first
     |(cases hs;done)
     |(cases hs;rfl)
   |skip hw=>rfl
  |_=>rw[Ut]at hk hp;exact absurd hk hp
def Gg{P o}(hk:kW o=true){ts ts' h h'}(hs:dB P o ts h ts' h')(hq:o.q=true->∃g,h' =h++g):∃g,h' =h++g:=by
 by_cases hqq:o.q=true
 ·exact hq hqq
 have hk:DM o.k=true:=by
  have:o.q=false:=by simpa using hqq
  simpa [kW,this]using hk
 cases hs with
 |run hw hb hs=>
  cases Ut:o.k<;>rw[Ut]at hk hs<;>first|(cases hk;done)|skip
  case ba es n z ps=>
   have hs:mY (.ba es n z ps) _ _ _ _:=hs;obtain⟨c,mu,tl,_,_,_,_,e⟩:=hs;exact⟨_,e⟩
  all_goals
   have hs:dx _ _ _=some (_,_):=hs;simp only[dx]at hs
   repeat' split at hs
   all_goals first
    |(cases hs;done)
    |(cases hs;exact⟨_,rfl⟩)
 |skip hw=>exact⟨[],Si⟩
def C2{P o n a}(hk:o.k=.load n a){ts ts' h}(hs:dB P o ts h ts' h)(g:ah):dB P o ts (h++g) ts' (h++g):=by
 generalize hh:h=h2 at hs;cases hs with
 | @run v _ hw hb hs=>
  subst hh;refine .run hw (by rw[hk];trivial) ?_;rw[hk]at hs ⊢;have hs:dx (.load n a) (val ts) h=some (v,h):=hs;show dx (.load n a) (val ts) (h++g)=some (v,h++g);simp only[dx]at hs ⊢;cases hv:val ts a with
  |ptr b off=>
   rw[hv]at hs;simp only at hs ⊢;cases Tk:h[b]? with
   |none=>rw[Tk]at hs;cases hs
   |some k=>
    rw[ZF (ZC.1 Tk).1,Tk];rw[Tk]at hs;cases k with
    |cells c mu tl=>
     simp only at hs ⊢;cases n with
     |none=>
      simp only at hs ⊢;cases hc:c[off]? with
      |none=>rw[hc]at hs;cases hs
      |some x=>rw[hc]at hs;cases hs;rfl
     |some n=>
      simp only at hs ⊢;by_cases hlt:off+n<=c.length
      ·rw[ZS hlt]at hs ⊢;cases hs;rfl
      ·rw[ZN hlt]at hs;cases hs
    |_=>cases hs
  |_=>rw[hv]at hs;cases hs
 |skip hw=>subst hh;exact .skip hw
def HR.Cw{P m h w}(hr:HR P m h w)(g:ah):HR P m (h++g) w where
 cN:=λb e hb=>by have:=hr.cN b e hb;simp;omega
 dU:=λb e k hb hk=>hr.dU b e k hb (by rwa [ZF (hr.cN b e hb)]at hk)
 sep:=λb1 b2 e1 e2 k1 k2 hne h1 h2 hk1 Sz hcb=>hr.sep b1 b2 e1 e2 k1 k2 hne h1 h2 (by rwa [ZF (hr.cN b1 e1 h1)]at hk1) (by rwa [ZF (hr.cN b2 e2 h2)]at Sz) hcb
 gu:=hr.gu
 lt:=hr.lt
def HR.ID{P m h g w}(hr:HR P m (h++g) w)(hd:∀b e,m b=some e->b<h.length):HR P m h w where
 cN:=hd
 dU:=λb e k hb hk=>hr.dU b e k hb (by rw[ZF (hd b e hb)];exact hk)
 sep:=λb1 b2 e1 e2 k1 k2 hne h1 h2 hk1 Sz hcb=>hr.sep b1 b2 e1 e2 k1 k2 hne h1 h2 (by rw[ZF (hd b1 e1 h1)];exact hk1) (by rw[ZF (hd b2 e2 h2)];exact Sz) hcb
 gu:=hr.gu
 lt:=hr.lt
def jt{M l}(h:oz M l=true){i j x y}(hij:i<j)(hx:l[i]? =some x)(hy:l[j]? =some y)(px:fC x.k=false)(py:fC y.k=false)(lx:mR x=false)(ly:mR y=false)
  (hr:(cE x.k=false/\cE y.k=false)\/(cE x.k=false/\kW x=false)\/(cE y.k=false/\kW y=false)):ahead M i j=true:=by
 have hj:j<l.length:=(ZC.1 hy).1;unfold oz at h;rw[aae]at h;have h1:=h j (aaP.2 hj);rw[aae]at h1;have h2:=h1 i (aaP.2 hij);rw[hx,hy]at h2;simp only[px,py,lx,ly,abO]at h2;rcases hr with⟨a,b⟩|⟨a,b⟩|⟨a,b⟩<;>simpa [a,b]using h2
theorem zw:∀{l}{i}{o},l[i]? =some o->C3 o=false->i<dI l
 |[],i,o,h,_=>by simp at h
 |x::r,i,o,h,hk=>by
  have hn:¬kO (x::r)=true:=λhall=>by
   have:=aae.1 (Bool.and_eq_true_iff.1 hall).1 o (aaz h);rw[hk]at this;cases this
  rw[dI,ZN hn];cases i with
  |zero=>omega
  |succ i=>have:=zw (l:=r) (i:=i) (by simpa using h) hk;omega
def ql{M l}(h:nG M l=true){i j x y}(hx:l[i]? =some x)(lx:mR x=true)(hy:l[j]? =some y)(ky:cE y.k=false)(hj:dI l<=j):ahead M i j=true:=by
 unfold nG at h;rw[aae]at h;have h1:=h i (aaP.2 (ZC.1 hx).1);rw[hx]at h1;simp only[lx,Z7,abO,aae,aaP]at h1;have h2:=h1 j (ZC.1 hy).1;rw[hy]at h2;have XM:¬j<dI l:=Om
 simpa [ky,XM]using h2
def ry{P cq}(hmix:P.follows .mixedOrders=true){ops l}(hed:kS (Region.before ops) ops=true)(hsl:mi (Region.before ops) ops=true)
  (hc:eU (λ_ o=>bU P ops (sM cq o) o) ops.toList 0=some l) (hmo:oz (Region.before ops) l=true) {T}{H}(hrow:Row P l T H) (hstab:∀(i:Nat) (io:bL),l[i]? =some io->mR io=true->∀θ,θ<=dI l->dB P io (T i) (H θ) (T (i+1)) (H θ)) (hlate:∀(i j:Nat) (x y:bL),l[i]? =some x->mR x=true->l[j]? =some y->cE y.k=false->dI l<=j->ahead (Region.before ops) i j=true) {m}{a}{w}
  (st:St P m (T 0) (H 0) a w) (ro:Option Nat) (Q:Exit->Act->World->Prop) (hQ:∀m' a' w',St P m' (T l.length) (H l.length) a' w'->Grow m (H 0) w m' (H l.length) w'->a'.defers=a.defers->Q .normal a' w') (id:Nat):
  (Code.region id ops true).wpIn (Fd ro) 0 P Q a w:=by
 refine wpIn_region_any hmix ?_;obtain⟨SP,SF⟩:=gy hc;simp only[abN]at SP;have WI:∀(j:Nat) (io:bL),l[j]? =some io->∃o,ops[j]? =some o/\bU P ops (sM cq o) o=some io:=λj io hj=>by
  exact Ob
 have TI:∀(j:Nat) (io:bL) (d:Nat),l[j]? =some io->io.dst=some d->∃o,ops[j]? =some o/\o.dst=some d:=λj io d hj hd=>by
  exact N2
 have huniq:∀(i j:Nat) (oi oj:bL) (d:Nat),l[i]? =some oi->l[j]? =some oj->oi.dst=some d->oj.dst=some d->i=j:=λi j oi oj d hi hj h1 h2=>by
  exact Oe
 have Ua:∀(j:Nat) (io:bL),l[j]? =some io->∃v,T (j+1)=put (T j) io.dst v:=λj io hj=>(hrow.step j io hj).1.put
 have hTl:∀j,j<=l.length->(T j).length=(T 0).length:=by
  intro j
  induction j with
  |zero=>intro _;rfl
  |succ j ih=>
   intro hj;exact N5
 have SL:∀x y t,x<=y->y<=l.length->(∀(j:Nat) (o:bL),x<=j->j<y->l[j]? =some o->o.dst≠some t)->(T y).getD t az=(T x).getD t az:=by
  intro x y t hxy hy hno;exact Rp
 have Vk:∀(j:Nat) (io:bL),l[j]? =some io->cE io.k=true->H (j+1)=H j:=λj io hj hk=>yj hk (hrow.step j io hj).1
 have Vl:∀x k,x+k<=l.length->(∀(j:Nat) (o:bL),x<=j->j<x+k->l[j]? =some o->cE o.k=true)->H (x+k)=H x:=by
  intro x k
  induction k with
  |zero=>intro _ _;rfl
  |succ k ih=>
   intro hk hno;exact z59
 have Yv:∀x k,x+k<=l.length->(∀(j:Nat) (o:bL),x<=j->j<x+k->l[j]? =some o->cE o.k=true\/kW o=true)->∃g,H (x+k)=H x++g:=by
  intro x k
  induction k with
  |zero=>intro _ _;exact⟨[],Si⟩
  |succ k ih=>
   intro hk hno;have hj:l[x+k]? =some (l[x+k]'Om):=ZH Om;obtain⟨g,hg⟩:=ih Om λj o h1 h2 h3=>hno j o h1 Om h3
   rcases hno _ _ Om Om hj with h1|h1
   ·exact⟨g,by rw[show x+(k+1)=x+k+1 from by omega,Vk _ _ hj h1,hg]⟩
   ·obtain⟨g2,Wx⟩:=Gg h1 (hrow.step _ _ hj).1 (hrow.step _ _ hj).2;exact⟨g++g2,by rw[show x+(k+1)=x+k+1 from by omega,Wx,hg,ZE]⟩
 have VG:∀x y,x<=l.length->y<=l.length->(∀(j:Nat) (o:bL),l[j]? =some o->cE o.k=false->(j<x↔j<y))->H x=H y:=by
  intro x y hx hy hno;exact Rv
 have hdone:∀(listed:Array Bool) (θ:Nat) (m1:bY) (a1:Act) (w1:World),(∀i,i<ops.size->listed.getD i false=true)->θ<=l.length->
   (∀(j:Nat) (o:bL),l[j]? =some o->cE o.k=false->(j<θ↔listed.getD j false=true))->HR P m1 (H θ) w1->Grow m (H 0) w m1 (H θ) w1->a1.tmps.size=(T 0).length->
   (∀(d:Nat),(∀(j:Nat) (o:bL),l[j]? =some o->listed.getD j false=true->o.dst≠some d)->VR m1 ((T 0).getD d az) (a1.tmps.getD d undef))->
   (∀(d j:Nat) (o:bL),l[j]? =some o->listed.getD j false=true->o.dst=some d->VR m1 ((T (j+1)).getD d az) (a1.tmps.getD d undef))->a1.defers=a.defers->Q .normal a1 w1:=by
  intro listed θ m1 a1 w1 hall hθ hS hr hg eG h1 h2 hd;have e:=VG θ l.length hθ (ZO _) λj o hj hk=>by
   have Uv:=(ZC.1 hj).1;have:=(hS j o hj hk).2 (hall j Om);omega
  rw[e]at hr hg;refine hQ m1 a1 w1 ⟨hr,cK.iu ?_ ?_⟩ hg hd
  ·exact z143
  ·intro t x hx;exact Rz
 have key:∀(fuel:Nat) (listed:Array Bool) (θ:Nat) (m1:bY) (a1:Act) (w1:World),listed.size=ops.size->ra listed ops.size<=fuel->
   (∀j x,listed.getD j false=true->x<ops.size->ahead (Region.before ops) x j=true->listed.getD x false=true)->θ<=l.length->(θ<=dI l\/∃(j:Nat) (o:bL),l[j]? =some o/\cE o.k=false/\dI l<=j/\j<θ)->
   (∀(j:Nat) (o:bL),l[j]? =some o->cE o.k=false->(j<θ↔listed.getD j false=true))->HR P m1 (H θ) w1->Grow m (H 0) w m1 (H θ) w1->a1.tmps.size=(T 0).length->
   (∀(d:Nat),(∀(j:Nat) (o:bL),l[j]? =some o->listed.getD j false=true->o.dst≠some d)->VR m1 ((T 0).getD d az) (a1.tmps.getD d undef))->
   (∀(d j:Nat) (o:bL),l[j]? =some o->listed.getD j false=true->o.dst=some d->VR m1 ((T (j+1)).getD d az) (a1.tmps.getD d undef))->a1.defers=a.defers->wpAnyIn (Fd ro) 0 P .any ops Q fuel listed a1 w1:=by
  intro fuel
  induction fuel with
  |zero=>
   intro listed θ m1 a1 w1 SN hu hcl hθ hL hS hr hg eG h1 h2 hd;have hall:=lH ops.size (show ra listed ops.size=0 by omega);exact⟨mw SN hall,hdone listed θ m1 a1 w1 hall hθ hS hr hg eG h1 h2 hd⟩
  |succ fuel ih=>
   intro listed θ m1 a1 w1 SN hu hcl hθ hL hS hr hg eG h1 h2 hd;refine⟨λhrn=>hdone listed θ m1 a1 w1 (mv hed SN hrn) hθ hS hr hg eG h1 h2 hd,λi hi=>?_⟩;obtain⟨o,ho,TF,XO⟩:=(jk SN).1 hi;have hin:i<ops.size:=(ZX.1 ho).1;obtain⟨io,hio,SJ⟩:=SF i o (by simpa using ho);obtain⟨bS,_⟩:=hrow.step i io hio;have hahead:∀x,x<ops.size->ahead (Region.before ops) x i=true->listed.getD x false=true:=λx hx ha=>by
    exact NL
   have Uz:∀j x,(listed.setIfInBounds i true).getD j false=true->x<ops.size->ahead (Region.before ops) x j=true->(listed.setIfInBounds i true).getD x false=true:=by
    intro j x hj hx ha;exact z40
   have Wd:ra (listed.setIfInBounds i true) ops.size<=fuel:=by
    exact NF
   have hslot:∀t,t∈o.looksAt ops->VR m1 ((T i).getD t az) (a1.tmps.getD t undef):=by
    intro t ht;exact z12
   have hrp:∀{k:pv},cE k=false->fC k=false:=λ{k} hk=>by
    cases k<;>first|exact hk|(cases hk;done)
   have hld:∀{o:bL},cE o.k=false->mR o=false:=λ{o} hk=>by
    exact KI
   have hne:∀j,j≠i->(listed.setIfInBounds i true).getD j false=listed.getD j false:=λj hj=>by rw[c8 Om,ZN hj]
   have XB:cE io.k=true->∀(j:Nat) (o:bL),l[j]? =some o->cE o.k=false->(j<θ↔(listed.setIfInBounds i true).getD j false=true):=λTR j oj hj hk=>by
    have hji:j≠i:=λe=>by
     subst e;rw[hio]at hj;cases hj;rw[TR]at hk;cases hk
    rw[hne j hji];exact hS j oj hj hk
   have SW:∃θ',θ'<=l.length/\(θ'<=dI l\/∃(j:Nat) (o:bL),l[j]? =some o/\cE o.k=false/\dI l<=j/\j<θ')/\(∀(j:Nat) (o:bL),l[j]? =some o->cE o.k=false->(j<θ'↔(listed.setIfInBounds i true).getD j false=true))/\∃hb h2,HR P m1 hb w1/\dB P io (T i) hb (T (i+1)) h2/\
     ∀m' w',HR P m' h2 w'->Grow m1 hb w1 m' h2 w'->HR P m' (H θ') w'/\Grow m1 (H θ) w1 m' (H θ') w':=by
    by_cases hp:fC io.k=true
    ·have TR:cE io.k=true:=by cases Ut:io.k<;>rw[Ut]at hp<;>first|exact hp|(cases hp;done)
     exact⟨θ,hθ,hL,XB TR,H θ,H θ,hr,(ym hp bS).2 _,λm' w' a b=>⟨a,b⟩⟩
    ·have Yg:fC io.k=false:=by simpa using hp
     by_cases VQ:mR io=true
     ·have TR:cE io.k=true:=by
       cases Ut:io.k<;>simp[mR,Ut]at VQ<;>rfl
      have hθc:θ<=dI l:=by
       rcases hL with h|⟨j,oj,h1,h2,h3,h4⟩
       ·exact h
       ·have e:=hcl j i ((hS j oj h1 h2).1 h4) hin (hlate i j io oj hio VQ h1 h2 h3);rw[TF]at e;cases e
      exact⟨θ,hθ,hL,XB TR,H θ,H θ,hr,hstab i io hio VQ θ hθc,λm' w' a b=>⟨a,b⟩⟩
     have VQ:mR io=false:=by simpa using VQ
     by_cases TR:cE io.k=true
     ·obtain⟨n,ad,Ut⟩:∃n ad,io.k=.load n ad:=by
       cases Ut:io.k with
       |load n ad=>exact⟨n,ad,rfl⟩
       |_=>rw[Ut]at TR hp;exact absurd TR hp
      have hHh:∀(j:Nat) (o:bL),l[j]? =some o->cE o.k=false->kW o=false->(j<θ↔j<i):=λj oj hj hk Sz=>by
       have Uv:=(ZC.1 hj).1;constructor
       ·intro Wu;have Uu:=(hS j oj hj hk).1 Wu;by_cases e1:j=i
        ·exact HI
        ·by_cases e2:j<i
         ·exact e2
         ·have e3:=jt hmo (show i<j by omega) hio hj Yg (hrp hk) VQ (hld hk) (.inr (.inr ⟨hk,Sz⟩));have e4:=hcl j i Uu hin e3;rw[TF]at e4;cases e4
       ·intro hji;exact(hS j oj hj hk).2 (hahead j Om (jt hmo hji hj hio (hrp hk) Yg (hld hk) VQ (.inr (.inl ⟨hk,Sz⟩))))
      have U3:dB P io (T i) (H i) (T (i+1)) (H i):=by
       have e:=yj TR bS;rw[e]at bS;exact bS
      by_cases TG:i<=θ
      ·obtain⟨g,Wx⟩:=Yv i (θ-i) Om λj oj h1 h2 h3=>by
        exact Ra
       rw[show i+(θ-i)=θ from by omega]at Wx;refine⟨θ,hθ,hL,XB TR,H θ,H θ,hr,?_,λm' w' a b=>⟨a,b⟩⟩;rw[Wx];exact C2 Ut U3 g
      ·obtain⟨g,Wx⟩:=Yv θ (i-θ) Om λj oj h1 h2 h3=>by
        exact Ra
       rw[show θ+(i-θ)=i from by omega]at Wx;rw[Wx]at U3;refine⟨θ,hθ,hL,XB TR,H θ++g,H θ++g,hr.Cw g,U3,λm' w' a b=>?_⟩;have hm:m' =m1:=by
        funext z;by_cases hz:z<(H θ++g).length
        ·exact b.ext z hz
        ·have e1:m1 z=none:=by
          cases hx:m1 z with
          |none=>rfl
          |some e=>exact absurd ((hr.Cw g).cN z e hx) hz
         have e2:m' z=none:=by
          cases hx:m' z with
          |none=>rfl
          |some e=>exact absurd (a.cN z e hx) hz
         rw[e1,e2]
       subst hm;exact⟨a.ID hr.cN,⟨λ_ _=>rfl,ZO _,λz e hz hmz=>absurd (hr.cN z e hmz) Om,λ_ _ x=>x,b.size,b.os,b.out,b.tape,b.frame⟩⟩
     ·have T5:cE io.k=false:=by simpa using TR
      have hHi:H θ=H i:=VG θ i hθ Om λj oj hj hk=>by
       have Uv:=(ZC.1 hj).1;constructor
       ·intro Wu;have Uu:=(hS j oj hj hk).1 Wu;by_cases e1:j=i
        ·exact HI
        ·by_cases e2:j<i
         ·exact e2
         ·exact Q8
       ·intro hji;exact(hS j oj hj hk).2 (hahead j Om (jt hmo hji hj hio (hrp hk) Yg (hld hk) VQ (.inl ⟨hk,T5⟩)))
      refine⟨i+1,Om,(by by_cases hc:i+1<=dI l;exact .inl hc;exact .inr ⟨i,io,hio,T5,Om,Om⟩),λj oj hj hk=>?_,H θ,H (i+1),hr,by rw[hHi];exact bS,λm' w' a b=>⟨a,b⟩⟩;have Uv:=(ZC.1 hj).1;by_cases e1:j=i
      ·subst e1;rw[c8 Om,ZS rfl];exact⟨λ_=>rfl,λ_=>by omega⟩
      ·rw[hne j e1];constructor
       ·intro hji;exact hahead j Om (jt hmo (show j<i by omega) hj hio (hrp hk) Yg (hld hk) VQ (.inl ⟨hk,T5⟩))
       ·intro Uu;by_cases e2:j<i
        ·omega
        ·exact Q8
   obtain⟨θ',YT,Xq,hS',hb,h2',XC,U3,T9⟩:=SW;refine fD ho SJ XC.gv XC (by rw[eG,hTl i Om]) hslot U3 ro _ Q ?_;intro cv v' m' w' T0 T3 hrx hgx;obtain⟨hr',SV⟩:=T9 m' w' hrx hgx;have Ta:io.dst=o.dst:=(dw SJ).1;have UZ:=SV.le hr.cN;have hlt:(listed.setIfInBounds i true).getD i false=true:=by rw[c8 Om,ZS rfl]
   have Vy:(a1.put o.dst cv).tmps=gS a1.tmps o.dst cv:=by cases o.dst<;>rfl
   refine ih _ θ' m' (a1.put o.dst cv) w' (by simp[SN]) Wd Uz YT Xq hS' hr' (hg.trans SV st.hr.cN) (by rw[Vy,fh];exact eG) ?_ ?_ (by rw[put_defers];exact hd)
   ·intro d hdn;have Uh:o.dst≠some d:=by rw[<-Ta];exact hdn i io hio hlt
    rw[Vy,dC Uh];refine VR.mono UZ _ _ (h1 d λj oj hj hl=>hdn j oj hj ?_);exact z76
   ·intro d j oj hj hl Vf;by_cases e1:j=i
    ·subst e1;rw[hio]at hj;cases hj;rw[T0,Vy,<-Ta,Vf];exact lM (by rw[eG,hTl j Om]) T3
    ·have Uh:o.dst≠some d:=λhx=>by
      exact HQ
     rw[Vy,dC Uh];rw[hne j e1]at hl;exact VR.mono UZ _ _ (h2 d j oj hj hl Vf)
 have SE:∀j,(Array.replicate ops.size false).getD j false=false:=λj=>by
  exact NG
 refine key ops.size (Array.replicate ops.size false) 0 m a _ Si ?_ (λj x hj _ _=>by simp[SE j]at hj) (aac _) (.inl (aac _)) (λj oj hj hk=>⟨λhx=>absurd hx Om,λhx=>by simp[SE j]at hx⟩) st.hr.drew (Grow.refl m _ w st.hr.cN).drew ?_ (λd _=>nY st.ts d) (λd j o _ hj _=>by simp[SE j]at hj) rfl
 ·exact NM
 ·exact Ef
section
variable {P:Program}{m m':bY}{h h':ah}{w w':World}
def vJ{ops i o}(ho:ops[i]? =some o){q io}(hc:bU P ops q o=some io)(hgd0:io.gd=none){ts a v}
  (hg:GV P m) (hr:HR P m h w) (ht:∀t,t∈o.looksAt ops->VR m (ts.getD t az) (a.tmps.getD t undef)) (hs:pX P io.k (val ts) h v h') (ro:Option Nat) (K:Act->World->Prop) (Q:Exit->Act->World->Prop)
  (hn:∀cv m' w',VR m' v cv->HR P m' h' w'->Grow m h w m' h' w'->K (a.put o.dst cv) w'):wpOpIn (Fd ro) 0 P ops Q i K a w:=by
 unfold bU at hc;split at hc
 case h_2=>cases hc
 rename_i g VS;cases hc;have hg0:g=none:=hgd0;subst hg0;have hw:=qZ (m:=m) (ts:=ts) (a:=a) VS (λt b VD=>by cases VD);unfold wpOpIn;rw[ho];simp only;rw[ZS (hw.2 trivial)];simp only at hs;split at hs
 case isFalse=>exact absurd hs o7
 rename_i hgok;cases hk:ep P o with
 |none=>rw[hk]at hs;exact absurd hs o7
 |some k=>
  rw[hk]at hs;refine vI hk (λx hx x' SC=>?_) (λz=>rfl) hr hs ro K Q (λcv m' w' h1 h2 h3=>hn cv m' w' h1 h2 h3);exact Ri
def Bb{n x}(h:yz x=true):jf n x:=by
 cases x<;>first
  |(cases h;done)
  |skip
 case bool b=>exact⟨λ_=>none,_,(λ_ _ z=>by cases z),rfl⟩
 case int k b=>exact⟨λ_=>none,_,(λ_ _ z=>by cases z),rfl⟩
 case xH k b=>exact⟨λ_=>none,.float k b,(λ_ _ z=>by cases z),⟨b,rfl,.inl rfl⟩⟩
 case wX k a b=>exact⟨λ_=>none,.complex k a b,(λ_ _ z=>by cases z),⟨a,b,rfl,.inl rfl,.inl rfl⟩⟩
 all_goals exact⟨λ_=>none,_,(λ_ _ z=>by cases z),rfl⟩
def yA{n x}(h:jf n x):∀y∈x.cells,jf n y:=by
 obtain⟨ma,va,h1,h2⟩:=h;intro y hy;obtain⟨i,hi,rfl⟩:=abt hy;obtain⟨v,_,hv⟩:=h2.cells.get (ZH hi);exact⟨ma,v,h1,hv⟩
theorem vp:∀{l c}{o}{x},x∈fU c o l->x∈c\/x∈l
 |[],c,o,x,h=>.inl h
 |y::l,c,o,x,h=>by
  have h:x∈fU (c.set o y) (o+1) l:=h;rcases vp h with h|h
  ·rcases aaQ h with h|h
   ·exact .inl h
   ·exact .inr (by rw[h];simp)
  ·exact .inr (Z8 _ h)
theorem rV{n}:∀{ps}{z c},(∀x∈z,jf n x)->(∀p∈ps,jf n p.2.2)->eT z ps=some c->∀x∈c,jf n x
 |[],z,c,hz,_,h,x,hx=>by cases h;exact hz x hx
 |(off,k,v)::r,z,c,hz,hp,h,x,hx=>by
  rw[eT]at h;split at h
  ·refine rV (λy hy=>?_) (λp hq=>hp p (Z8 _ hq)) h x hx;rcases vp hy with hy|hy
   ·exact hz y hy
   ·exact yA (hp (off,k,v) Si) y hy
  ·cases h
theorem uY:∀{n}{z}{x},x∈dO n z->x∈z
 | 0,z,x,h=>by simp[dO]at h
 |n+1,z,x,h=>by
  have h:x∈z++dO n z:=h;rcases ZK.1 h with h|h
  ·exact h
  ·exact uY h
def CB(gr:Grow m h w m' h' w')(hd:∀b e,m b=some e->b<h.length){e k}(hk:k.live=true)(hb:BR P m w e k)(hout:∀b e',m b=some e'->e'.cb≠e.cb):BR P m' w' e k/\∀b e',m' b=some e'->e'.cb≠e.cb:=by
 have hlt:=hb.lt hk;refine⟨(hb.heap (gr.frame e.cb hlt λb e' he _=>hout b e' he)).mono (gr.le hd),λb e' he=>?_⟩;by_cases hbl:b<h.length
 ·rw[gr.ext b hbl]at he;exact hout b e' he
 ·obtain⟨_,hc⟩:=gr.new b e' Om he;rcases hc with hc|⟨b0,e0,c1,c2,_⟩
  ·omega
  ·rw[<-c2];exact hout b0 e0 c1
def HR.yH(hr:HR P m h w){e k}(hk:k.live=true)(hb:BR P m w e k)(hout:∀b e',m b=some e'->e'.cb≠e.cb):HR P (m.add h.length e) (h++[k]) w:=by
 have TC:m h.length=none:=by
  exact NI
 have hle:m.le (m.add h.length e):=bY.si _ TC;have SK:∀b e',(m.add h.length e) b=some e'->(b=h.length/\e' =e)\/(b<h.length/\m b=some e'):=λb e' TZ=>by
  exact Rf
 refine⟨λb e' TZ=>?_,λb e' k' TZ hk'=>?_,λb1 b2 e1 e2 k1 k2 hne h1 h2 hk1 Sz hcb=>?_,λg hg=>?_,λb e' TZ=>?_⟩
 ·rw[ZB];rcases SK b e' TZ with⟨rfl,_⟩|⟨hlt,_⟩
  ·simp
  ·simp;omega
 ·rcases SK b e' TZ with⟨rfl,rfl⟩|⟨hlt,hm⟩
  ·rw[ZP (ZO _),aaG]at hk';cases hk';exact hb.mono hle
  ·rw[ZF hlt]at hk';exact(hr.dU b e' k' hm hk').mono hle
 ·exact Rr
 ·obtain⟨e',he,hx⟩:=hr.gu g hg;exact⟨e',hle _ _ he,hx⟩
 ·rcases SK b e' TZ with⟨_,rfl⟩|⟨_,hm⟩
  ·exact hb.lt hk
  ·exact hr.lt b e' hm
def Grow.yH{m0 h0 w0}(gr:Grow m0 h0 w0 m h w)(hd0:∀b e,m0 b=some e->b<h0.length)(hd:∀b e,m b=some e->b<h.length){e k}(ho:e.own=true)(hlt:w0.heap.size<=e.cb):Grow m0 h0 w0 (m.add h.length e) (h++[k]) w where
 ext:=λb hb=>by
  have:b≠h.length:=by have:=gr.len;omega
  show(if b=h.length then some e else m b)=_;rw[ZN this];exact gr.ext b hb
 len:=by rw[ZB];have:=gr.len;omega
 new:=λb e' hb he=>by
  unfold bY.add at he;by_cases hx:b=h.length
  ·rw[ZS hx]at he;cases he;exact⟨ho,.inl hlt⟩
  ·rw[ZN hx]at he;obtain⟨h1,hc⟩:=gr.new b e' hb he;refine⟨h1,?_⟩;rcases hc with hc|⟨b0,e0,c1,c2,c3,c4,c5⟩
   ·exact .inl hc
   ·have:=hd0 _ _ c1;exact .inr ⟨b0,e0,c1,c2,c3,c4,by rw[fK (by have:=gr.len;omega)];exact c5⟩
 tl:=λb hb ht=>by
  rw[fK (by have:=gr.len;omega)]at ht;exact gr.tl b hb ht
 size:=gr.size
 os:=gr.os
 out:=gr.out
 tape:=gr.tape
 frame:=gr.frame
end
def qd{M l f}(h:rI M l f=true){i j x y}(hij:i<j)(hx:l[i]? =some x)(hy:l[j]? =some y)(px:fC x.k=false)(py:fC y.k=false)(lx:mR x=false)(ly:mR y=false)(hj:j≠f):ahead M i j=true:=by
 have Uv:j<l.length:=(ZC.1 hy).1;unfold rI at h;rw[aae]at h;have h1:=h j (aaP.2 Uv);rw[aae]at h1;have h2:=h1 i (aaP.2 hij);rw[hx,hy]at h2
 simpa [px,py,lx,ly,hj]using h2
structure Sp(ops:Array Oper)(l:List bL)(f df es n:Nat)(z:List AV)(ps:List (Nat×cZ))(q:Bool):Prop where
 hf:l[f]? =some {dst:=some df,k:=.ba es n z ps,gd:=none,q:=q}
 hz:∀x∈z,yz x=true
 hp:∀p∈ps,∃u,p.2=.t u/\fG ops f u=true
 hr:∀j o,l[j]? =some o->cE o.k=true->(fC o.k=true\/mR o=true)/\fG ops j df=false
def yw{ops l f}(h:wO ops l f=true):∃df es n z ps q,Sp ops l f df es n z ps q:=by
 unfold wO at h;split at h
 case h_2=>cases h
 rename_i d es n z ps q hf;simp only[aad,aae,aaP]at h;obtain⟨⟨h1,h2⟩,h3⟩:=h;refine⟨d,es,n,z,ps,q,hf,h1,λp hp=>?_,λj o hj hk=>?_⟩
 ·have:=h2 p hp;split at this
  ·rename_i u hu;exact⟨u,hu,this⟩
  ·cases this
 ·have:=h3 j (ZC.1 hj).1;rw[hj]at this;simp only[hk,Z7,abO,aad,abo,aaZ]at this;exact this
structure k8(P:Program)(l:List bL)(f df:Nat)(k:ak)(T:Nat->TS)(H:Nat->ah)(m:bY)(w:World)(listed:Array Bool)(θ:Nat)(m1:bY)(tm:Array Value)(w1:World):Prop where
 hθ:θ<=l.length
 hL:θ<=dI l\/∃(j:Nat) (o:bL),l[j]? =some o/\cE o.k=false/\j≠f/\dI l<=j/\j<θ
 hS:∀(j:Nat) (o:bL),l[j]? =some o->cE o.k=false->j≠f->(j<θ↔listed.getD j false=true)
 hf:f<θ->listed.getD f false=true
 hr:HR P m1 (H θ) w1
 hg:Grow m (H 0) w m1 (H θ) w1
 eG:tm.size=(T 0).length
 h1:∀(d:Nat),(∀(j:Nat) (o:bL),l[j]? =some o->listed.getD j false=true->o.dst≠some d)->VR m1 ((T 0).getD d az) (tm.getD d undef)
 h2:∀(d j:Nat) (o:bL),l[j]? =some o->listed.getD j false=true->o.dst=some d->(j=f->f<θ)->VR m1 ((T (j+1)).getD d az) (tm.getD d undef)
 pd:listed.getD f false=true->θ<=f->∃e:sW,BR P m1 w1 e k/\e.own=true/\w.heap.size<=e.cb/\(∀b e',m1 b=some e'->e'.cb≠e.cb)/\∀m':bY,m1.le m'->m' (H f).length=some e->VR m' ((T (f+1)).getD df az) (tm.getD df undef)
def yi{P cq f}(hmix:P.follows .mixedOrders=true){ops l}(hed:kS (Region.before ops) ops=true)(hsl:mi (Region.before ops) ops=true)
  (hc:eU (λ_ o=>bU P ops (sM cq o) o) ops.toList 0=some l) (hfo:wO ops l f=true) (hmo:rI (Region.before ops) l f=true) {T}{H}(hrow:Row P l T H) (hstab:∀(i:Nat) (io:bL),l[i]? =some io->mR io=true->∀θ,θ<=dI l->dB P io (T i) (H θ) (T (i+1)) (H θ)) (hlate:∀(i j:Nat) (x y:bL),l[i]? =some x->mR x=true->l[j]? =some y->cE y.k=false->dI l<=j->ahead (Region.before ops) i j=true) {m}{a}{w}
  (st:St P m (T 0) (H 0) a w) (ro:Option Nat) (Q:Exit->Act->World->Prop) (hQ:∀m' a' w',St P m' (T l.length) (H l.length) a' w'->Grow m (H 0) w m' (H l.length) w'->a'.defers=a.defers->Q .normal a' w') (id:Nat):
  (Code.region id ops true).wpIn (Fd ro) 0 P Q a w:=by
 obtain⟨df,es,n,zz,ps,qf,F⟩:=yw hfo;refine wpIn_region_any hmix ?_;obtain⟨SP,SF⟩:=gy hc;simp only[abN]at SP;have WI:∀(j:Nat) (io:bL),l[j]? =some io->∃o,ops[j]? =some o/\bU P ops (sM cq o) o=some io:=λj io hj=>by
  exact Ob
 have TI:∀(j:Nat) (io:bL) (d:Nat),l[j]? =some io->io.dst=some d->∃o,ops[j]? =some o/\o.dst=some d:=λj io d hj hd=>by
  exact N2
 have huniq:∀(i j:Nat) (oi oj:bL) (d:Nat),l[i]? =some oi->l[j]? =some oj->oi.dst=some d->oj.dst=some d->i=j:=λi j oi oj d hi hj h1 h2=>by
  exact Oe
 have Ua:∀(j:Nat) (io:bL),l[j]? =some io->∃v,T (j+1)=put (T j) io.dst v:=λj io hj=>(hrow.step j io hj).1.put
 have hTl:∀j,j<=l.length->(T j).length=(T 0).length:=by
  intro j
  induction j with
  |zero=>intro _;rfl
  |succ j ih=>
   intro hj;exact N5
 have SL:∀x y t,x<=y->y<=l.length->(∀(j:Nat) (o:bL),x<=j->j<y->l[j]? =some o->o.dst≠some t)->(T y).getD t az=(T x).getD t az:=by
  intro x y t hxy hy hno;exact Rp
 have Vk:∀(j:Nat) (io:bL),l[j]? =some io->cE io.k=true->H (j+1)=H j:=λj io hj hk=>yj hk (hrow.step j io hj).1
 have Vl:∀x k,x+k<=l.length->(∀(j:Nat) (o:bL),x<=j->j<x+k->l[j]? =some o->cE o.k=true)->H (x+k)=H x:=by
  intro x k
  induction k with
  |zero=>intro _ _;rfl
  |succ k ih=>
   intro hk hno;exact z59
 have VG:∀x y,x<=l.length->y<=l.length->(∀(j:Nat) (o:bL),l[j]? =some o->cE o.k=false->(j<x↔j<y))->H x=H y:=by
  intro x y hx hy hno;exact Rv
 have S4:f<l.length:=(ZC.1 F.hf).1;obtain⟨cf,mu,tl,TO,hTf,hHf,hcf⟩:∃cf mu tl,eT (dO n zz) (ps.map λp=>(p.1,es,val (T f) p.2))=some cf/\T (f+1)=put (T f) (some df) (.slice (H f).length 0 n es)/\H (f+1)=H f++[.cells cf mu tl]/\∀g:ah,pX P (.ba es n zz ps) (val (T f)) g (.slice g.length 0 n es) (g++[.cells cf mu tl]):=by
  have Y5:=(hrow.step f _ F.hf).1;generalize hx:T (f+1)=tx at Y5;generalize hy:H (f+1)=hyy at Y5;cases Y5 with
  |run hw hb hs=>
   have hs:mY (.ba es n zz ps) _ _ _ _:=hs;obtain⟨c,mu,tl,q1,q2,q3,rfl,rfl⟩:=hs;exact⟨c,mu,tl,q1,rfl,rfl,λg=>⟨c,mu,tl,q1,q2,q3,rfl,rfl⟩⟩
  |skip hw=>exact absurd trivial hw
 have Xm:(ak.cells cf mu tl).live=true:=rfl;have hrp:∀{k:pv},cE k=false->fC k=false:=λ{k} hk=>by
  cases k<;>first|exact hk|(cases hk;done)
 have hld:∀{o:bL},cE o.k=false->mR o=false:=λ{o} hk=>by
  exact KI
 have Ye:∀(listed:Array Bool) (θ:Nat) (m1:bY) (tm:Array Value) (w1:World),k8 P l f df (.cells cf mu tl) T H m w listed θ m1 tm w1->listed.getD f false=true->θ<=f->(∀(j:Nat) (o:bL),l[j]? =some o->cE o.k=false->j<f->listed.getD j false=true)->
   ∃m2,k8 P l f df (.cells cf mu tl) T H m w listed (f+1) m2 tm w1:=by
  intro listed θ m1 tm w1 I Zg YS hall;have e:H θ=H f:=VG θ f I.hθ Om λj oj hj hk=>by
   by_cases hjf:j=f
   ·subst hjf;omega
   ·constructor
    ·intro h;omega
    ·intro h;exact(I.hS j oj hj hk hjf).2 (hall j oj hj hk h)
  obtain⟨en,b1,b2,b3,b4,b5⟩:=I.pd Zg YS;have hr:=I.hr;have hg:=I.hg;rw[e]at hr hg;have TC:m1 (H f).length=none:=by
   cases hx:m1 (H f).length with
   |none=>rfl
   |some y=>exact absurd (hr.cN _ _ hx) Om
  have UZ:m1.le (m1.add (H f).length en):=bY.si _ TC;refine⟨m1.add (H f).length en,⟨Om,.inl (by have:=zw F.hf rfl;omega),λj oj hj hk hjf=>?_,λ_=>Zg,by rw[hHf];exact hr.yH Xm b1 b4,by rw[hHf];exact hg.yH st.hr.cN hr.cN b2 b3,I.eG,λd hd=>VR.mono UZ _ _ (I.h1 d hd),λd j oj hj hl hd _=>?_,λ_ hx=>absurd hx Om⟩⟩
  ·constructor
   ·intro h;exact hall j oj hj hk Om
   ·intro h;have:=(I.hS j oj hj hk hjf).2 h;omega
  ·by_cases hjf:j=f
   ·subst hjf;rw[F.hf]at hj;cases hj;cases hd;exact b5 _ UZ (by simp[bY.add])
   ·exact VR.mono UZ _ _ (I.h2 d j oj hj hl hd λz=>absurd z hjf)
 have T9:∀(listed:Array Bool) (θ:Nat) (m1:bY) (a1:Act) (w1:World),(∀i,i<ops.size->listed.getD i false=true)->k8 P l f df (.cells cf mu tl) T H m w listed θ m1 a1.tmps w1->f<θ->a1.defers=a.defers->Q .normal a1 w1:=by
  intro listed θ m1 a1 w1 hall I hfθ hd;have e:=VG θ l.length I.hθ (ZO _) λj o hj hk=>by
   have Uv:=(ZC.1 hj).1;by_cases hjf:j=f
   ·subst hjf;omega
   ·have:=(I.hS j o hj hk hjf).2 (hall j Om);omega
  have hr:=I.hr;have hg:=I.hg;rw[e]at hr hg;have eG:=I.eG;refine hQ m1 a1 w1 ⟨hr,cK.iu ?_ ?_⟩ hg hd
  ·exact z143
  ·intro t x hx;have hlt:=(ZC.1 hx).1;have Td:t<a1.tmps.size:=by have:=hTl l.length (ZO _);omega
   have ex:(T l.length).getD t az=x:=by simp[List.getD,hx]
   have ey:a1.tmps.getD t undef=a1.tmps[t]:=by simp[aas,aaw Td]
   refine⟨a1.tmps[t],Si,?_⟩;rw[<-ex,<-ey];by_cases hw:∃(j:Nat) (o:bL),l[j]? =some o/\o.dst=some t
   ·obtain⟨j,o,hj,ho⟩:=hw;have Uv:=(ZC.1 hj).1;rw[SL (j+1) l.length t Om (ZO _) (λk o' a2 a3 a4 a5=>by have:=huniq j k o o' t hj a4 ho a5;omega)];exact I.h2 t j o hj (hall j Om) ho λ_=>hfθ
   ·rw[SL 0 l.length t Om (ZO _) (λk o' _ _ h4 h5=>hw ⟨k,o',h4,h5⟩)];exact I.h1 t λj o hj _ ho=>hw ⟨j,o,hj,ho⟩
 have hdone:∀(listed:Array Bool) (θ:Nat) (m1:bY) (a1:Act) (w1:World),(∀i,i<ops.size->listed.getD i false=true)->k8 P l f df (.cells cf mu tl) T H m w listed θ m1 a1.tmps w1->a1.defers=a.defers->Q .normal a1 w1:=by
  intro listed θ m1 a1 w1 hall I hd;by_cases hfθ:f<θ
  ·exact T9 listed θ m1 a1 w1 hall I hfθ hd
  ·obtain⟨m2,I2⟩:=Ye listed θ m1 a1.tmps w1 I (hall f Om) Om λj o hj _ _=>hall j (by have:=(ZC.1 hj).1;omega)
   exact T9 listed (f+1) m2 a1 w1 hall I2 Om hd
 have key:∀(fuel:Nat) (listed:Array Bool) (θ:Nat) (m1:bY) (a1:Act) (w1:World),listed.size=ops.size->ra listed ops.size<=fuel->
   (∀j x,listed.getD j false=true->x<ops.size->ahead (Region.before ops) x j=true->listed.getD x false=true)->k8 P l f df (.cells cf mu tl) T H m w listed θ m1 a1.tmps w1->a1.defers=a.defers->wpAnyIn (Fd ro) 0 P .any ops Q fuel listed a1 w1:=by
  intro fuel
  induction fuel with
  |zero=>
   intro listed θ m1 a1 w1 SN hu hcl I hd;have hall:=lH ops.size (show ra listed ops.size=0 by omega);exact⟨mw SN hall,hdone listed θ m1 a1 w1 hall I hd⟩
  |succ fuel ih=>
   intro listed θ m1 a1 w1 SN hu hcl I hd;refine⟨λhrn=>hdone listed θ m1 a1 w1 (mv hed SN hrn) I hd,λi hi=>?_⟩;obtain⟨o,ho,TF,XO⟩:=(jk SN).1 hi;have hin:i<ops.size:=(ZX.1 ho).1;obtain⟨io,hio,SJ⟩:=SF i o (by simpa using ho);have SJ:bU P ops (sM cq o) o=some io:=SJ;obtain⟨bS,_⟩:=hrow.step i io hio;have hahead:∀x,x<ops.size->ahead (Region.before ops) x i=true->listed.getD x false=true:=λx hx ha=>by
    exact NL
   have Uz:∀j x,(listed.setIfInBounds i true).getD j false=true->x<ops.size->ahead (Region.before ops) x j=true->(listed.setIfInBounds i true).getD x false=true:=by
    intro j x hj hx ha;exact z40
   have Wd:ra (listed.setIfInBounds i true) ops.size<=fuel:=by
    exact NF
   have hne:∀j,j≠i->(listed.setIfInBounds i true).getD j false=listed.getD j false:=λj hj=>by rw[c8 Om,ZN hj]
   have hlt:(listed.setIfInBounds i true).getD i false=true:=by rw[c8 Om,ZS rfl]
   have Ta:io.dst=o.dst:=(dw SJ).1;have hslot:∀(θ:Nat) (m1:bY) (tm:Array Value) (w1:World),k8 P l f df (.cells cf mu tl) T H m w listed θ m1 tm w1->(listed.getD f false=true->θ<=f->i<f\/fG ops i df=false)->∀t,t∈o.looksAt ops->VR m1 ((T i).getD t az) (tm.getD t undef):=by
    intro θ m1 tm w1 I hnp t ht;by_cases hex:∃(x:Nat) (ox:bL),l[x]? =some ox/\listed.getD x false=true/\ox.dst=some t
    ·obtain⟨x,ox,hx,hxl,VK⟩:=hex;obtain⟨oo,U6,V6⟩:=TI x ox t hx VK;have hxi:x<i:=by
      by_cases e1:x=i
      ·subst e1;rw[TF]at hxl;cases hxl
      ·by_cases e2:x<i
       ·exact e2
       ·have e3:=(cR hsl (show i<x by omega) ho U6).2 t V6 ht;have e4:=hcl x i hxl hin e3;rw[TF]at e4;cases e4
     rw[SL (x+1) i t Om Om (λk o' a2 a3 a4 a5=>by have:=huniq x k ox o' t hx a4 VK a5;omega)];refine I.h2 t x ox hx hxl VK λhxf=>?_
     subst hxf;by_cases hh:x<θ
     ·exact hh
     ·rcases hnp hxl (by omega)with h|h
      ·omega
      ·rw[F.hf]at hx;cases hx;cases VK;unfold fG at h;rw[ho]at h;simp only at h;have:=List.contains_iff_mem.2 ht;rw[this]at h;cases h
    ·rw[SL 0 i t Om Om (λk o' e2 e3 e4 e5=>by
      obtain⟨oo,U6,Ta⟩:=TI k o' t e4 e5;have h6:=((cR hsl e3 U6 ho).1 t Ta).2 ht;exact hex ⟨k,o',e4,hahead k (ZX.1 U6).1 h6,e5⟩)]
     exact I.h1 t λj oj hj hl Ta=>hex ⟨j,oj,hj,hl,Ta⟩
   have hadv:i≠f->∀(θ θ':Nat) (m1 m':bY) (tm:Array Value) (w1 w':World) (cv:Value) (v':AV),k8 P l f df (.cells cf mu tl) T H m w listed θ m1 tm w1->θ'<=l.length->(θ'<=dI l\/∃(j:Nat) (o:bL),l[j]? =some o/\cE o.k=false/\j≠f/\dI l<=j/\j<θ')->(∀(j:Nat) (o:bL),l[j]? =some o->cE o.k=false->j≠f->(j<θ'↔(listed.setIfInBounds i true).getD j false=true))->(f<θ'↔f<θ)->
     T (i+1)=put (T i) o.dst v'->VR m' v' cv->HR P m' (H θ') w'->Grow m1 (H θ) w1 m' (H θ') w'->k8 P l f df (.cells cf mu tl) T H m w (listed.setIfInBounds i true) θ' m' (gS tm o.dst cv) w':=by
    intro VC θ θ' m1 m' tm w1 w' cv v' I YT Xq hS' hff T0 T3 hr' SV;have UZ:=SV.le I.hr.cN;refine⟨YT,Xq,hS',λh=>?_,hr',I.hg.trans SV st.hr.cN,by rw[fh];exact I.eG,λd hdn=>?_,λd j oj hj hl Vf hjf=>?_,λZg YS=>?_⟩
    ·rw[hne f (aa3 VC)];exact I.hf (hff.1 h)
    ·have Uh:o.dst≠some d:=by rw[<-Ta];exact hdn i io hio hlt
     rw[dC Uh];refine VR.mono UZ _ _ (I.h1 d λj oj hj hl=>hdn j oj hj ?_);exact z76
    ·by_cases e1:j=i
     ·subst e1;rw[hio]at hj;cases hj;rw[T0,<-Ta,Vf];exact lM (by rw[I.eG,hTl j Om]) T3
     ·have Uh:o.dst≠some d:=λhx=>by
       exact HQ
      rw[dC Uh];rw[hne j e1]at hl;exact VR.mono UZ _ _ (I.h2 d j oj hj hl Vf λz=>hff.1 (hjf z))
    ·rw[hne f (aa3 VC)]at Zg;obtain⟨e,b1,b2,b3,b4,b5⟩:=I.pd Zg (by have:=hff.2;omega);obtain⟨c1,c2⟩:=CB SV I.hr.cN Xm b1 b4;have Uh:o.dst≠some df:=λhx=>by
      rw[<-Ta]at hx;exact VC (huniq i f io _ df hio F.hf hx rfl)
     refine⟨e,c1,b2,b3,c2,λm2 Xl SH=>?_⟩;rw[dC Uh];exact b5 m2 (bY.le_trans UZ Xl) SH
   have Vy:∀cv,(a1.put o.dst cv).tmps=gS a1.tmps o.dst cv:=λcv=>by cases o.dst<;>rfl
   by_cases VC:i=f
   ·
    subst VC;rw[F.hf]at hio;cases hio;have YS:θ<=i:=by
     by_cases hh:i<θ
     ·have:=I.hf hh;rw[TF]at this;cases this
     ·omega
    refine vJ ho SJ rfl I.hr.gv I.hr (hslot θ m1 a1.tmps w1 I λh=>by rw[TF]at h;cases h) (hcf (H θ)) ro _ Q ?_;intro cv m' w' hv hr' SV;have hclos:∀x∈cf,jf (H θ).length x:=rV (λx hx=>Bb (F.hz x (uY hx))) (λp hp=>by
     obtain⟨q,hq,rfl⟩:=Z3.1 hp;obtain⟨u,hu,XI⟩:=F.hp q hq;have hu2:u∈o.looksAt ops:=by
      unfold fG at XI;rw[ho]at XI;exact List.contains_iff_mem.1 XI
     have:=hslot θ m1 a1.tmps w1 I (λh=>by rw[TF]at h;cases h) u hu2;show jf _ (val (T i) q.2);rw[hu];exact⟨m1,_,I.hr.cN,this⟩) TO
    have hcb:qu (H θ).length (.cells cf mu tl):=λj x hx=>hclos x (aaz hx)
    have hup:m'.dG (H θ).length=m1:=by
     funext b;unfold bY.dG;by_cases hb:b<(H θ).length
     ·rw[ZS hb];exact SV.ext b hb
     ·rw[ZN hb];cases hx:m1 b with
      |none=>rfl
      |some e=>exact absurd (I.hr.cN b e hx) hb
    have TK:=HR.forget I.hr hr' SV;have Wx:=SV.forget;rw[hup]at TK Wx;have Wc:=hv;rw[VR]at Wc;obtain⟨e,ca,cap,he,TB⟩:=Wc;have hb:=(hr'.dU _ e (.cells cf mu tl) he Si).cut hcb;rw[hup]at hb;obtain⟨ho1,hc⟩:=SV.new _ e (ZO _) he;have hcbl:w1.heap.size<=e.cb:=by
     rcases hc with hc|⟨b0,e0,c1,c2,c3,c4,c5⟩
     ·exact hc
     ·rw[fK (I.hr.cN _ _ c1),c4]at c5;cases c5
    have Uj:o.dst=some df:=Ta.symm;refine ih _ θ m1 (a1.put o.dst cv) w' (by simp[SN]) Wd Uz ?_ (by rw[put_defers];exact hd);rw[Vy];refine⟨I.hθ,I.hL,λj oj hj hk hjf=>by rw[hne j hjf];exact I.hS j oj hj hk hjf,λh=>by omega,TK,I.hg.trans Wx st.hr.cN,by rw[fh];exact I.eG,λd hdn=>?_,λd j oj hj hl Vf hjf=>?_,λ_ _=>⟨e,hb,ho1,aat I.hg.size hcbl,λb e' TZ=>by have:=I.hr.lt b e' TZ;omega,λm2 Xl SH=>?_⟩⟩
    ·have Uh:o.dst≠some d:=by rw[Uj];exact hdn i _ F.hf hlt
     rw[dC Uh];refine I.h1 d λj oj hj hl=>hdn j oj hj ?_
     exact z76
    ·by_cases e1:j=i
     ·have:=hjf e1;omega
     ·have Uh:o.dst≠some d:=λhx=>by
       rw[Uj]at hx;exact e1 (huniq j i oj _ d hj F.hf Vf hx)
      rw[dC Uh];rw[hne j e1]at hl;exact I.h2 d j oj hj hl Vf hjf
    ·rw[hTf,Uj];exact lM (by rw[I.eG,hTl i Om]) (by rw[VR];exact⟨e,ca,cap,SH,TB⟩)
   by_cases TR:cE io.k=true
   ·
    obtain⟨U5,UM⟩:=F.hr i io hio TR;have U3:dB P io (T i) (H θ) (T (i+1)) (H θ):=by
     rcases U5 with hp|hp
     ·exact(ym hp bS).2 _
     ·refine hstab i io hio hp θ ?_;rcases I.hL with h|⟨j,oj,h1,h2,h5,h3,h4⟩
      ·exact h
      ·have e:=hcl j i ((I.hS j oj h1 h2 h5).1 h4) hin (hlate i j io oj hio hp h1 h2 h3);rw[TF]at e;cases e
    refine fD ho SJ I.hr.gv I.hr (by rw[I.eG,hTl i Om]) (hslot θ m1 a1.tmps w1 I λ_ _=>.inr UM) U3 ro _ Q ?_;intro cv v' m' w' T0 T3 hrx hgx;refine ih _ θ m' (a1.put o.dst cv) w' (by simp[SN]) Wd Uz ?_ (by rw[put_defers];exact hd);rw[Vy];refine hadv VC θ θ m1 m' a1.tmps w1 w' cv v' I I.hθ I.hL (λj oj hj hk hjf=>?_) Iff.rfl T0 T3 hrx hgx;have hji:j≠i:=λe=>by
     subst e;rw[hio]at hj;cases hj;rw[TR]at hk;cases hk
    rw[hne j hji];exact I.hS j oj hj hk hjf
   ·have T5:cE io.k=false:=by simpa using TR
    have hheavy:∀(j:Nat) (oj:bL),l[j]? =some oj->cE oj.k=false->j<i->listed.getD j false=true:=λj oj hj hk hji=>
     hahead j (by have:=(ZC.1 hj).1;omega) (qd hmo hji hj hio (hrp hk) (hrp T5) (hld hk) (hld T5) VC)
    have hlate:∀(j:Nat) (oj:bL),l[j]? =some oj->cE oj.k=false->j≠f->i<j->listed.getD j false=false:=λj oj hj hk hjf hij=>by
     cases hx:listed.getD j false with
     |false=>rfl
     |true=>
      have e3:=qd hmo hij hio hj (hrp T5) (hrp hk) (hld T5) (hld hk) hjf;have e4:=hcl j i hx hin e3;rw[TF]at e4;cases e4
    obtain⟨YD,m2,I1,hff⟩:∃YD m2,k8 P l f df (.cells cf mu tl) T H m w listed YD m2 a1.tmps w1/\(f<YD↔f<i):=by
     by_cases hfi:f<i
     ·have Zg:=hheavy f _ F.hf rfl hfi;by_cases hfθ:f<θ
      ·exact⟨θ,m1,I,Om⟩
      ·obtain⟨m2,I2⟩:=Ye listed θ m1 a1.tmps w1 I Zg Om λj oj hj hk hjf=>hheavy j oj hj hk Om
       exact⟨f+1,m2,I2,Om⟩
     ·refine⟨θ,m1,I,⟨λh=>?_,λh=>absurd h hfi⟩⟩;have:=(I.hS i io hio T5 VC).1 Om;rw[TF]at this;cases this
    have hHi:H YD=H i:=VG YD i I1.hθ Om λj oj hj hk=>by
     by_cases hjf:j=f
     ·subst hjf;exact hff
     ·constructor
      ·intro Wu;have Uu:=(I1.hS j oj hj hk hjf).1 Wu;by_cases e1:j=i
       ·exact HI
       ·by_cases e2:j<i
        ·exact e2
        ·exact z182
      ·intro hji;exact(I1.hS j oj hj hk hjf).2 (hheavy j oj hj hk hji)
    refine fD ho SJ I1.hr.gv I1.hr (by rw[I1.eG,hTl i Om]) (hslot YD m2 a1.tmps w1 I1 λ_ h2=>.inl Om) (by rw[hHi];exact bS) ro _ Q ?_;intro cv v' m' w' T0 T3 hrx hgx;refine ih _ (i+1) m' (a1.put o.dst cv) w' (by simp[SN]) Wd Uz ?_ (by rw[put_defers];exact hd);rw[Vy];refine hadv VC YD (i+1) m2 m' a1.tmps w1 w' cv v' I1 Om (by by_cases hc:i+1<=dI l;exact .inl hc;exact .inr ⟨i,io,hio,T5,VC,Om,Om⟩) (λj oj hj hk hjf=>?_) Om T0 T3 hrx hgx;by_cases e1:j=i
    ·subst e1;exact⟨λ_=>hlt,λ_=>by omega⟩
    ·rw[hne j e1];constructor
     ·intro hji;exact hheavy j oj hj hk Om
     ·intro Uu;by_cases e2:j<i
      ·omega
      ·exact z182
 have SE:∀j,(Array.replicate ops.size false).getD j false=false:=λj=>by
  exact NG
 refine key ops.size (Array.replicate ops.size false) 0 m a _ Si ?_ (λj x hj _ _=>by simp[SE j]at hj) ⟨aac _,.inl (aac _),(λj oj hj hk _=>⟨λhx=>absurd hx Om,λhx=>by simp[SE j]at hx⟩),(λhx=>absurd hx Om),st.hr.drew,(Grow.refl m _ w st.hr.cN).drew,?_,(λd _=>nY st.ts d),(λd j o _ hj _ _=>by simp[SE j]at hj),λhx=>by simp[SE f]at hx⟩ rfl
 ·exact NM
 ·exact Ef
def ee{P ops draw c}(h:nK P ops draw=some c):
  (∃l,c=.ops l/\(cP P ops draw=some l\/(draw=true/\(∃l',cP P ops draw=some l')/\∃cq,eU (λ_ o=>bU P ops (sM cq o) o) ops.toList 0=some l/\oz (Region.before ops) l=true/\l.any mR=false)))\/
  (∃l,c=.sL l/\draw=true/\(∃l',cP P ops draw=some l')/\eU (λ_ o=>bU P ops false o) ops.toList 0=some l)\/
  (∃l,c=.mM l/\draw=true/\(∃l',cP P ops draw=some l')/\∃cq,eU (λ_ o=>bU P ops (sM cq o) o) ops.toList 0=some l/\(oz (Region.before ops) l=true\/∃f,wO ops l f=true/\rI (Region.before ops) l f=true)/\nG (Region.before ops) l=true):=by
 unfold nK at h;split at h
 ·cases h
 ·rename_i l hl;split at h
  ·rename_i hq;split at h
   ·rename_i l' l2 l3 SI hl2 Zh;split at h
    ·rename_i hm;rw[aad,aaZ]at hm;cases h;exact .inl ⟨l',rfl,.inr ⟨hq.2,⟨l,hl⟩,0,SI,hm.1,hm.2⟩⟩
    ·split at h
     ·rename_i hm;rw[aad,aaZ]at hm;cases h;exact .inl ⟨l2,rfl,.inr ⟨hq.2,⟨l,hl⟩,1,hl2,hm.1,hm.2⟩⟩
     ·split at h
      ·exact Ro
      ·split at h
       ·split at h
        ·rename_i hm;rw[aad,aad]at hm;cases h;exact .inr (.inr ⟨l3,rfl,hq.2,⟨l,hl⟩,2,Zh,.inl hm.1.2,hm.2⟩)
        ·cases h;exact .inr (.inl ⟨l',rfl,hq.2,⟨l,hl⟩,SI⟩)
       ·split at h
        ·rename_i hm;rw[aad]at hm;cases h;exact .inr (.inr ⟨l3,rfl,hq.2,⟨l,hl⟩,2,Zh,.inl hm.1,hm.2⟩)
        ·split at h
         ·exact Ro
         ·cases h;exact .inl ⟨l,rfl,.inl hl⟩
   ·cases h
  ·cases h;exact .inl ⟨l,rfl,.inl hl⟩
def Marks(m:bY)(w:World)(lo:Nat)(ds:List Deferred):Prop:=
 ∃rs:List Nat,ds=rs.map (λr=>({target:=.collected r,args:=#[] }:Deferred))/\rs.Nodup/\∀r∈rs,lo<=r/\w.heap[r]? =some (.deferred (some []))/\∀b e,m b=some e->e.cb≠r
def Marks.nil(m:bY)(w:World)(lo:Nat):Marks m w lo []:=⟨[],rfl,Si,Si⟩
def Marks.grow{m m' h h' w w' lo ds}(k:Marks m w lo ds)(g:Grow m h w m' h' w')(hd:∀b e,m b=some e->b<h.length):Marks m' w' lo ds:=by
 obtain⟨rs,h1,h2,h3⟩:=k;refine⟨rs,h1,h2,λr hr=>?_⟩;obtain⟨a,b,c⟩:=h3 r hr;have hlt:r<w.heap.size:=(ZX.1 b).1;refine⟨a,?_,?_⟩
 ·rw[g.frame r hlt (λb e hb _=>c b e hb)];exact b
 ·intro b' e hb;by_cases hx:b'<h.length
  ·rw[g.ext b' hx]at hb;exact c b' e hb
  ·obtain⟨_,hc⟩:=g.new b' e Om hb;rcases hc with hc|⟨b0,e0,c1,c2,_⟩
   ·omega
   ·rw[<-c2];exact c b0 e0 c1
def Ev(P:Program)(ro:Option Nat)(c:ai)(ts:TS)(h:ah)(e:Ex)(ts':TS)(h':ah):Prop:=
 ∀cc,compile P cc=some c->∀(m:bY) (a:Act) (w:World) (lo:Nat),lo<=w.heap.size->St P m ts h a w->Marks m w lo a.defers->∀Q:Exit->Act->World->Prop,
  (∀m' a' w',St P m' ts' h' a' w'->Grow m h w m' h' w'->Marks m' w' lo a'.defers->Q e.Dv a' w')->cc.wpIn (Fd ro) 0 P Q a w
section
variable {P:Program}{b:Frame}{a:Act}{k:List Item}{cs:List Frame}{w:World}{Q:Exit->Act->World->Prop}{F:Fence}{n:Nat}
def gB{c}:step P (lone (b.atR a (.code (.scope c)::k)) cs w)=.next (lone (b.atR a (.code c:: .inScope c::k)) cs w):=
 step_lone_go (by simp[stepG,stepG.exec,Frame.atR])
def sI{c}:step P (lone (b.atR a (.inScope c::k)) cs w)=.next (lone (b.atR a k) cs w):=
 step_lone_go (by simp[stepG,stepG.exec,Frame.atR])
def noGoto(Q:Exit->Act->World->Prop):Exit->Act->World->Prop
 |.goto _,_,_=>False
 |e,a,w=>Q e a w
def xK{c}(h:c.wpIn F n P (noGoto Q) a w):(Code.scope c).wpIn F n P Q a w:=by
 intro b k cs hro hb hr;have h0:(lone (b.atR a (.code (.scope c)::k)) cs w).fenced P F:=fenced_calm hb hr rfl;obtain⟨e,W9,VZ,hq,Tn⟩:=h b (.inScope c::k) cs hro hb hr;cases e with
 |normal=>exact⟨.normal,W9,VZ,hq,.head h0 gB (StepsIn.trans Tn (.one (fenced_calm hb hr rfl) sI))⟩
 |exit id=>
  have hx:exitTo id (.inScope c::k)=exitTo id k:=by simp[exitTo]
  exact⟨.exit id,W9,VZ,hq,λk' hk=>.head h0 gB (Tn.1 k' (by rw[hx];exact hk)),
   λhr' hk=>let ⟨k₁,h1,h2⟩:=Tn.2 hr' (by rw[hx];exact hk);⟨k₁,h1,.head h0 gB h2⟩⟩
 |goto l=>exact hq.elim
 |ret=>exact⟨.ret,W9,VZ,hq,.of_steps (.one h0 gB) Tn⟩
 |panic ch=>exact⟨.panic ch,W9,VZ,hq,.of_steps (.one h0 gB) Tn⟩
 |outgrown=>exact⟨.outgrown,W9,VZ,hq,.of_steps (.one h0 gB) Tn⟩
end
section
variable {P:Program}{ro:Option Nat}{c x y:ai}{ts Uc ts':TS}{h h1 h':ah}{e:Ex}
def Ev.of (H:∀cc,(∀a,cc≠.scope a)->compile P cc=some c->∀(m:bY) (a:Act) (w:World) (lo:Nat),lo<=w.heap.size->St P m ts h a w->Marks m w lo a.defers->∀Q:Exit->Act->World->Prop,
  (∀m' a' w',St P m' ts' h' a' w'->Grow m h w m' h' w'->Marks m' w' lo a'.defers->Q e.Dv a' w')->cc.wpIn (Fd ro) 0 P Q a w):Ev P ro c ts h e ts' h':=by
 intro cc
 induction cc with
 |scope a ih=>
  intro hc m a w lo hlo st hm Q hQ;refine xK (ih (by simpa [compile]using hc) m a w lo hlo st hm _ λm' a' w' s g k=>?_);cases e<;>exact hQ m' a' w' s g k
 |_=>intro hc;exact H _ Si hc
theorem Ev.skip:Ev P ro .skip ts h .normal ts h:=by
 refine Ev.of λcc hns hc m a w lo hlo st hm Q hQ=>?_
 have hq:=hQ m a w st (Grow.refl m h w st.hr.cN) hm;cases cc with
 |skip=>exact wpIn_skip hq
 |label l=>exact wpIn_label hq
 |scope a=>exact absurd rfl (hns a)
 |region id ops draw=>rcases ee (by simpa only[compile]using hc)with⟨_,h1,_⟩|⟨_,h1,_⟩|⟨_,h1,_⟩<;>cases h1
 |block id a=>simp[compile]at hc
 |loop a=>simp[compile]at hc
 |_=>
  exact BH
theorem Ev.exit{id}:Ev P ro (.exit id) ts h (.exit id) ts h:=by
 refine Ev.of λcc hns hc m a w lo hlo st hm Q hQ=>?_
 have hq:=hQ m a w st (Grow.refl m h w st.hr.cN) hm;cases cc with
 |exit X9=>simp[compile]at hc;subst hc;exact wpIn_exit hq
 |scope a=>exact absurd rfl (hns a)
 |region id ops draw=>rcases ee (by simpa only[compile]using hc)with⟨_,h1,_⟩|⟨_,h1,_⟩|⟨_,h1,_⟩<;>cases h1
 |block id a=>simp[compile]at hc
 |loop a=>simp[compile]at hc
 |_=>
  exact BH
theorem Ev.ret:Ev P ro .ret ts h .ret ts h:=by
 refine Ev.of λcc hns hc m a w lo hlo st hm Q hQ=>?_
 have hq:=hQ m a w st (Grow.refl m h w st.hr.cN) hm;cases cc with
 |ret=>exact wpIn_ret hq
 |scope a=>exact absurd rfl (hns a)
 |region id ops draw=>rcases ee (by simpa only[compile]using hc)with⟨_,h1,_⟩|⟨_,h1,_⟩|⟨_,h1,_⟩<;>cases h1
 |block id a=>simp[compile]at hc
 |loop a=>simp[compile]at hc
 |_=>
  exact BH
theorem Ev.ops(hmix:P.follows .mixedOrders=true){l}(hs:yK P l ts h ts' h'):Ev P ro (.ops l) ts h .normal ts' h':=by
 refine Ev.of λcc hns hc m a w lo hlo st hm Q hQ=>?_
 cases cc with
 |region id ops draw=>
  rcases ee (by simpa only[compile]using hc)with⟨l',h1,hl⟩|⟨_,h1,_⟩|⟨_,h1,_⟩<;>cases h1
  rcases hl with hl|⟨hd,⟨l2,hl2⟩,cq,hz,hmo,hld⟩
  case inr=>
   subst hd;simp only[cP,Z1]at hl2;split at hl2
   case isFalse=>cases hl2
   rename_i Tc;simp only[aad]at Tc;obtain⟨T,H,rfl,rfl,rfl,rfl,hrow⟩:=hs.row;rw[List.any_eq_false]at hld;exact ry hmix Tc.1 Tc.2 hz hmo hrow (λi io hio hl=>absurd hl (hld io (aaz hio))) (λi j x y hx hl=>absurd hl (hld x (aaz hx))) st ro Q (λm' a' w' s g d=>hQ m' a' w' s g (by rw[d];exact hm.grow g st.hr.cN)) id
  cases draw with
  |false=>exact yh hl hs st ro Q (λm' a' w' s g d=>hQ m' a' w' s g (by rw[d];exact hm.grow g st.hr.cN)) id
  |true=>exact vB hmix hl hs st ro Q (λm' a' w' s g d=>hQ m' a' w' s g (by rw[d];exact hm.grow g st.hr.cN)) id
 |scope a=>exact absurd rfl (hns a)
 |block id a=>simp[compile]at hc
 |loop a=>simp[compile]at hc
 |_=>
  exact BH
theorem Ev.mM(hmix:P.follows .mixedOrders=true){l T H}(hrow:Row P l T H)(hstab:∀(i:Nat) (io:bL),l[i]? =some io->mR io=true->∀θ,θ<=dI l->dB P io (T i) (H θ) (T (i+1)) (H θ)):Ev P ro (.mM l) (T 0) (H 0) .normal (T l.length) (H l.length):=by
 refine Ev.of λcc hns hc m a w lo hlo st hm Q hQ=>?_
 cases cc with
 |region id ops draw=>
  rcases ee (by simpa only[compile]using hc)with⟨_,h1,_⟩|⟨_,h1,_⟩|⟨l',h1,hd,⟨l2,hl2⟩,cq,hz,hmo,hlo⟩<;>cases h1
  subst hd;simp only[cP,Z1]at hl2;split at hl2
  case isFalse=>cases hl2
  rename_i Tc;simp only[aad]at Tc;rcases hmo with hmo|⟨f,VT,Vc⟩
  case inr=>exact yi hmix Tc.1 Tc.2 hz VT Vc hrow hstab (λi j x y a1 a2 a3 a4 a5=>ql hlo a1 a2 a3 a4 a5) st ro Q (λm' a' w' s g d=>hQ m' a' w' s g (by rw[d];exact hm.grow g st.hr.cN)) id
  exact ry hmix Tc.1 Tc.2 hz hmo hrow hstab (λi j x y a1 a2 a3 a4 a5=>ql hlo a1 a2 a3 a4 a5) st ro Q (λm' a' w' s g d=>hQ m' a' w' s g (by rw[d];exact hm.grow g st.hr.cN)) id
 |scope a=>exact absurd rfl (hns a)
 |block id a=>simp[compile]at hc
 |loop a=>simp[compile]at hc
 |_=>
  exact BH
theorem Ev.seq(hx:Ev P ro x ts h .normal Uc h1)(hy:Ev P ro y Uc h1 e ts' h'):Ev P ro (.seq x y) ts h e ts' h':=by
 refine Ev.of λcc hns hc m a w lo hlo st hm Q hQ=>?_
 cases cc with
 |seq ca cb=>
  simp only[compile]at hc;split at hc
  case h_2=>cases hc
  rename_i x' y' Ti hcb;cases hc;refine wpIn_seq (hx ca Ti m a w lo hlo st hm _ λm1 a1 w1 s1 g1 k1=>?_);exact hy cb hcb m1 a1 w1 lo (aat hlo g1.size) s1 k1 Q λm2 a2 w2 s2 g2 k2=>hQ m2 a2 w2 s2 (g1.trans g2 st.hr.cN) k2
 |scope a=>exact absurd rfl (hns a)
 |region id ops draw=>rcases ee (by simpa only[compile]using hc)with⟨_,h1,_⟩|⟨_,h1,_⟩|⟨_,h1,_⟩<;>cases h1
 |block id a=>simp[compile]at hc
 |loop a=>simp[compile]at hc
 |_=>
  exact BH
def Ev.vv(hx:Ev P ro x ts h e ts' h')(hne:e≠.normal):Ev P ro (.seq x y) ts h e ts' h':=by
 refine Ev.of λcc hns hc m a w lo hlo st hm Q hQ=>?_
 cases cc with
 |seq ca cb=>
  simp only[compile]at hc;split at hc
  case h_2=>cases hc
  rename_i x' y' Ti hcb;cases hc;refine wpIn_seq (hx ca Ti m a w lo hlo st hm _ λm1 a1 w1 s1 g1 k1=>?_);have:=hQ m1 a1 w1 s1 g1 k1;cases e<;>first|exact absurd rfl hne|exact this
 |scope a=>exact absurd rfl (hns a)
 |region id ops draw=>rcases ee (by simpa only[compile]using hc)with⟨_,h1,_⟩|⟨_,h1,_⟩|⟨_,h1,_⟩<;>cases h1
 |block id a=>simp[compile]at hc
 |loop a=>simp[compile]at hc
 |_=>
  exact BH
def zh{o c}(hc:EW o=some c):cV o=some c/\NR P o=true:=by
 cases o<;>first|exact⟨hc,rfl⟩|cases hc
def CC{m a w}(st:St P m ts h a w){o c}(hc:EW o=some c):VR m (val ts c) (a.eval o):=
 zE st.hr.gv (zh (P:=P) hc).1 (zh (P:=P) hc).2 (λt _=>nY st.ts t)
theorem Ev.cond{c b}(hb:val ts c=.bool b)(hx:Ev P ro (if b then x else y) ts h e ts' h'):Ev P ro (.cond c x y) ts h e ts' h':=by
 refine Ev.of λcc hns hc m a w lo hlo st hm Q hQ=>?_
 cases cc with
 |cond o ca cb=>
  simp only[compile]at hc;split at hc
  case h_2=>cases hc
  rename_i c' x' y' hco Ti hcb;cases hc;have hv:=CC st hco;rw[hb,VR]at hv;refine wpIn_cond hv ?_;cases b
  ·exact hx cb hcb m a w lo hlo st hm Q hQ
  ·exact hx ca Ti m a w lo hlo st hm Q hQ
 |scope a=>exact absurd rfl (hns a)
 |region id ops draw=>rcases ee (by simpa only[compile]using hc)with⟨_,h1,_⟩|⟨_,h1,_⟩|⟨_,h1,_⟩<;>cases h1
 |block id a=>simp[compile]at hc
 |loop a=>simp[compile]at hc
 |_=>
  exact BH
def Ex.inBlock(id:Nat):Ex->Ex
 |.exit X9=>if X9=id then .normal else .exit X9
 |e=>e
theorem Ev.block{id}(hx:Ev P ro x ts h e ts' h'):Ev P ro (.block id x) ts h (e.inBlock id) ts' h':=by
 refine Ev.of λcc hns hc m a w lo hlo st hm Q hQ=>?_
 cases cc with
 |block X9 ca=>
  simp only[compile,Z2,ai.block.injEq]at hc;obtain⟨x',Ti,rfl,rfl⟩:=hc;refine wpIn_block (hx ca Ti m a w lo hlo st hm _ λm' a' w' s g k=>?_);have:=hQ m' a' w' s g k;cases e with
  |normal=>exact this
  |ret=>exact this
  |exit i=>
   simp only[Ex.Dv,Exit.inBlock];simp only[Ex.inBlock]at this;split
   ·rename_i hi;rw[ZS hi]at this;exact this
   ·rename_i hi;rw[ZN hi]at this;exact this
 |scope a=>exact absurd rfl (hns a)
 |region id ops draw=>rcases ee (by simpa only[compile]using hc)with⟨_,h1,_⟩|⟨_,h1,_⟩|⟨_,h1,_⟩<;>cases h1
 |loop a=>simp[compile]at hc
 |_=>
  exact BH
inductive tT (P:Program) (ro:Option Nat) (x:ai):TS->ah->Ex->TS->ah->Prop
 |out {ts:TS}{h:ah}{e:Ex}{ts':TS}{h':ah}(hx:Ev P ro x ts h e ts' h') (hne:e≠.normal):tT P ro x ts h e ts' h'
 |more {ts:TS}{h:ah}{Uc:TS}{h1:ah}{e:Ex}{ts':TS}{h':ah}(hx:Ev P ro x ts h .normal Uc h1) (hr:tT P ro x Uc h1 e ts' h'):tT P ro x ts h e ts' h'
theorem Ev.loop(hl:tT P ro x ts h e ts' h'):Ev P ro (.loop x) ts h e ts' h':=by
 refine Ev.of λcc hns hc m a w lo hlo st hm Q hQ=>?_
 cases cc with
 |loop ca=>
  simp only[compile,Z2,ai.loop.injEq]at hc;obtain⟨x',Ti,rfl⟩:=hc;intro b k cs hro hb hr;have key:∀(m1:bY) (a1:Act) (w1:World),lo<=w1.heap.size->St P m1 ts h a1 w1->Marks m1 w1 lo a1.defers->(∀m' a' w',St P m' ts' h' a' w'->Grow m1 h w1 m' h' w'->Marks m' w' lo a'.defers->Q e.Dv a' w')->
    ∃e a' w',Q e a' w'/\ArrivesIn (Machine.fenced P (Fd ro)) P (lone (b.atR a1 (.code ca:: .inLoop ca::k)) cs w1) b k cs e a' w':=by
   clear hQ st hm hlo
   induction hl with
   |out hx hne=>
    rename_i ts h e ts' h';intro m1 a1 w1 hlo s1 k1 hQ;obtain⟨e1,a2,w2,hq,Tn⟩:=hx ca Ti m1 a1 w1 lo hlo s1 k1 (λe1 a1 w1=>e1≠.normal/\Q e1 a1 w1) (λm' a' w' s g k'=>⟨by cases e<;>first|exact absurd rfl hne|simp[Ex.Dv],hQ m' a' w' s g k'⟩) b (.inLoop ca::k) cs hro hb hr;exact⟨e1,a2,w2,hq.2,.pass (x:=.inLoop ca) rfl (λ_ _=>.inl hq.1) Tn⟩
   |more hx hr' ih=>
    intro m1 a1 w1 hlo s1 k1 hQ;obtain⟨e1,a2,w2,hq,Tn⟩:=hx ca Ti m1 a1 w1 lo hlo s1 k1 (λe1 a2 w2=>e1=.normal/\∃m2,St P m2 _ _ a2 w2/\Grow m1 _ w1 m2 _ w2/\Marks m2 w2 lo a2.defers) (λm' a' w' s g k'=>⟨rfl,m',s,g,k'⟩) b (.inLoop ca::k) cs hro hb hr;obtain⟨rfl,m2,s2,g2,k2⟩:=hq;obtain⟨e3,a3,w3,hq3,harr3⟩:=ih m2 a2 w2 (aat hlo g2.size) s2 k2 (λm' a' w' s g k'=>hQ m' a' w' s (g2.trans g s1.hr.cN) k');exact⟨e3,a3,w3,hq3,.of_steps (StepsIn.trans Tn (.one (fenced_calm hb hr rfl) stepR_inLoop)) harr3⟩
  obtain⟨e',a',w',hq,Tn⟩:=key m a w hlo st hm hQ;exact⟨e',a',w',hq,.of_steps (.one (fenced_calm hb hr rfl) stepR_loop) Tn⟩
 |scope a=>exact absurd rfl (hns a)
 |region id ops draw=>rcases ee (by simpa only[compile]using hc)with⟨_,h1,_⟩|⟨_,h1,_⟩|⟨_,h1,_⟩<;>cases h1
 |block id a=>simp[compile]at hc
 |_=>
  exact BH
end
def dy(ts:TS)(h:ah):Nat×Option (Option Nat)->Option AV
 |(t,none)=>some (ts.getD t az)
 |(a,some n)=>
  match dx (.load n (.c (ts.getD a az))) (val ts) h with
  |some (v,_)=>some v
  |none=>none
def iY(ts:TS)(h:ah):List (Nat×Option (Option Nat))->Option (List AV)
 |[]=>some []
 |r::rs=>
  match dy ts h r,iY ts h rs with
  |some v,some vs=>some (v::vs)
  |_,_=>none
def cU(rs:List (Nat×Option (Option Nat)))(ts:TS)(h:ah):Option AV:=
 match iY ts h rs with
 |some [v]=>some v
 |some l=>some (.dL l)
 |none=>none
def aT(nt:Nat)(args:List AV):TS:=args++List.replicate (nt-args.length) az
def Ex.leaves:Ex->Bool
 |.normal=>true
 |.ret=>true
 |_=>false
section
variable {P:Program}{m:bY}{h h':ah}{w:World}{v:AV}
def xZ{ts a}(st:St P m ts h a w){r x}(hx:ua P r=some x)(hv:dy ts h x=some v):
  ∃cv,(match r with
   |.tmp t=>(pure (a.tmps.getD t undef):Sem Value)
   |.cell b t=>do loadVar t (<-asAddr (a.tmps.getD b undef))).run P w=.ok cv w/\VR m v cv:=by
 cases r with
 |tmp t=>cases hx;cases hv;exact⟨_,rfl,nY st.ts t⟩
 |cell b t=>
  simp only[ua,Z2]at hx;obtain⟨n,hn,rfl⟩:=hx;simp only[dy]at hv;split at hv
  case h_2=>cases hv
  rename_i v' h' hf;cases hv;obtain⟨cv,h1,h2,_⟩:=Cg (P:=P) (ρ:=val ts) hn st.hr (a:=.c (ts.getD b az)) (nY st.ts b) hf;refine⟨cv,?_,h2⟩;simp only[dx,val]at hf;split at hf
  case h_2=>cases hf
  rename_i b' o' hb';have hs:=nY st.ts b;rw[hb',VR]at hs;obtain⟨e,_,he⟩:=hs;simp only[he]at h1 ⊢
  simpa [Instr.loadAt,Instr.sureAddr,asAddr]using h1
theorem p8{ts:TS}{a:Act}(st:St P m ts h a w):∀{rs:List ResultVar}{xs:List (Nat×Option (Option Nat))}{vs:List AV},rs.mapM (ua P)=some xs->iY ts h xs=some vs->
  ∃UT,(rs.mapM (m:=Sem) λ
   |.tmp t=>pure (a.tmps.getD t undef)
   |.cell b t=>do loadVar t (<-asAddr (a.tmps.getD b undef))).run P w=.ok UT w/\cK m vs UT
 |[],xs,vs,hx,hv=>by
  simp at hx;subst hx;cases hv;exact⟨[],rfl,bB.2 rfl⟩
 |r::rs,xs,vs,hx,hv=>by
  simp only[ab2,abL,ab9]at hx;cases hr:ua P r with
  |none=>simp[hr]at hx
  |some x=>
   cases hrs:rs.mapM (ua P)with
   |none=>simp[hr,hrs]at hx
   |some xs'=>
    simp[hr,hrs]at hx;subst hx;simp only[iY]at hv;split at hv
    case h_2=>cases hv
    rename_i v vs' h1 h2;cases hv;obtain⟨cv,hc,SA⟩:=xZ st hr h1;obtain⟨UT,UW,hvrs⟩:=p8 st hrs h2;refine⟨cv::UT,?_,aQ.2 ⟨cv,UT,rfl,SA,hvrs⟩⟩;rw[ab2,Z0];have TX:=hc;cases r<;>(simp only at TX ⊢;rw[TX];simp only[ZQ,Z0,UW,aak])
def vz{ts:TS}{a:Act}(st:St P m ts h a w){fn:Func}{xs:List (Nat×Option (Option Nat))}(hx:fn.results.toList.mapM (ua P)=some xs)(hv:cU xs ts h=some v):
  ∃cv,(results fn a.tmps).run P w=.ok cv w/\VR m v cv:=by
 unfold cU at hv;have key:∀{vs:List AV},iY ts h xs=some vs->∃UT:List Value,(results fn a.tmps).run P w=.ok (if h:UT.length=1 then UT[0]else .tuple ⟨UT⟩) w/\cK m vs UT:=by
  intro vs Tu;obtain⟨UT,h1,h2⟩:=p8 st hx Tu;refine⟨UT,?_,h2⟩;unfold results;rw[Array.mapM_eq_mapM_toList,Z0];simp only[map_eq_pure_bind,Z0];have h1':=h1
  erw [h1']
  simp only[ZQ,aak];by_cases hc:UT.length=1
  ·simp[hc]
  ·simp[hc]
 split at hv
 ·rename_i v' Tu;cases hv;obtain⟨UT,h1,h2⟩:=key Tu;obtain⟨y,ys,rfl,hy,hys⟩:=aQ.1 h2;rw[bB]at hys;subst hys;exact⟨y,by simpa using h1,hy⟩
 ·rename_i l hno Tu;cases hv;obtain⟨UT,h1,h2⟩:=key Tu;have hlen:UT.length≠1:=by
   rw[h2.length];intro hl;obtain⟨z,hz⟩:=List.length_eq_one_iff.1 hl;exact hno z hz
  rw[dif_neg hlen]at h1;exact⟨_,h1,⟨UT,rfl,h2⟩⟩
 ·cases hv
theorem oD{fn xs}(hx:fn.results.toList.mapM (ua P)=some xs){ts}(hv:cU xs ts h' =some v){m0 h0 w0 lo}(hlo:w0.heap.size<=lo):
  ∀(ds:List Deferred) (m:bY) (a:Act) (w:World),St P m ts h' a w->Grow m0 h0 w0 m h' w->Marks m w lo ds->LeavesInM Fence.wide 0 P fn a.tmps (Rel P m0 h0 w0 v h') ds .returning w
 |[],m,a,w,st,g,_=>by
  obtain⟨cv,h1,h2⟩:=vz st hx hv;exact⟨cv,h1,cv,m,rfl,h2,st.hr,g⟩
 |d::ds,m,a,w,st,g,k=>by
  obtain⟨rs,h1,h2,h3⟩:=k;cases rs with
  |nil=>simp at h1
  |cons r rs=>
   simp only[aar,List.cons.injEq]at h1;obtain⟨rfl,rfl⟩:=h1;obtain⟨hl,hh,hm⟩:=h3 r Si;have hoth:∀i,i≠r->(w.putObj r (.deferred none)).heap[i]? =w.heap[i]? :=λi hi=>World.putObj_heap_other hi
   refine⟨Si,.inl ⟨r,_,rfl,run_takeDeferred hh,?_⟩⟩;refine oD hx hv hlo _ m a _ ⟨⟨st.hr.cN,λb e k hb hk=>(st.hr.dU b e k hb hk).heap (hoth _ (hm b e hb)),st.hr.sep,st.hr.gu,λb e hb=>by simpa using st.hr.lt b e hb⟩,st.ts⟩
    ⟨g.ext,g.len,g.new,g.tl,by simpa using g.size,g.os,g.out,g.tape,λi hi hno=>?_⟩ ⟨rs,rfl,(abX.1 h2).2,λr' hr'=>?_⟩
   ·rw[hoth i Om];exact g.frame i hi hno
   ·obtain⟨c1,c2,c3⟩:=h3 r' (Z8 _ hr');refine⟨c1,?_,c3⟩;rw[hoth r' (λx=>(abX.1 h2).1 (x▸hr'))];exact c2
def gN{f A}(hA:bR P f=some A):∃fn c,P.funcs[f]? =some fn/\fn.body=some c/\compile P c=some A.body/\fn.results.toList.mapM (ua P)=some A.rs/\fn.ntmps=A.nt/\(fn.name == "runtime.NumGoroutine")=false:=by
 unfold bR at hA;split at hA
 case h_1=>cases hA
 rename_i fn hf;split at hA
 case h_1=>cases hA
 rename_i c hb;split at hA
 case h_2=>cases hA
 rename_i b rs hc hr;split at hA
 case isTrue=>cases hA
 rename_i hn;cases hA;exact⟨fn,c,hf,hb,hc,hr,rfl,by simpa using hn⟩
def l9.LU{f A}(hA:bR P f=some A){args e ts'}(hev:Ev P none A.body (aT A.nt args) h e ts' h')(he:e.leaves=true)(hv:cU A.rs ts' h' =some v):l9 P f args h v h':=by
 intro m w vs hr hargs;obtain⟨fn,c,hf,hb,hc,hres,hnt,_⟩:=gN hA;rw[<-callsIn_wide (n:=0)];refine callsIn_of_wp_marks hf hb trivial ?_;refine hev c hc m _ w w.heap.size (ZO _) ⟨hr,?_⟩ (Marks.nil m w _) _ ?_
 ·have:((⟨vs⟩:Array Value)++Array.replicate (fn.ntmps-(⟨vs⟩:Array Value).size) undef).toList=vs++List.replicate (A.nt-args.length) undef:=by
   rw[hnt];simp[hargs.length]
  rw[this];refine cK.append hargs (cK.iu Si λi x hx=>?_);rw[List.getElem?_replicate]at hx ⊢;split at hx
  ·rename_i hlt;cases hx;rw[ZS hlt];exact⟨undef,rfl,j5 m⟩
  ·cases hx
 ·intro m' a' w' s g k;have:=oD hres hv (ZO _) a'.defers m' a' w' s g k;cases e<;>first|exact this|cases he
def fu.zk{f A}(hA:bR P f=some A){a c args}(hs:l9 P f (a++args++c) h v h'):fu P (.func (.func f) a c) args h v h':=by
 intro m w cv vs hr hf hargs;rw[VR]at hf;obtain⟨f',a',c',rfl,hfn,ha,hc⟩:=hf;simp only[Bu]at hfn;subst hfn;refine⟨_,λw=>rfl,?_⟩;obtain⟨fn,cc,hfn,hb,_,_,_,hn⟩:=gN hA;simp only[invoke];rw[kL hfn (by rw[hb];rfl) hn];show CallsIn Fence.wide 0 P f _ w _;rw[callsIn_wide];have:=hs m w (a'++vs++c') hr (cK.append (cK.append ha hargs) hc)
 simpa using this
def iT(P:Program)(u:TypeId)(name:String):Option FuncId:=
 match P.info? u,P.underlying u with
 |some i,some d=>
  match i.methods.find? (·.name==name)with
  |some m=>
   match m.path.toList,m.func,d with
   |[],some (_,false),.pointer _=>none
   |[],some (f,false),_=>some f
   |_,_,_=>none
  |none=>none
 |_,_=>none
def xV{u:TypeId}{name f}(hm:iT P u name=some f)(n:Nat)(v:Value)(w:World):(method (n+1) u v name).run P w=.ok (f,v) w:=by
 unfold iT at hm;split at hm
 case h_2=>cases hm
 rename_i i d hi hd;split at hm
 case h_2=>cases hm
 rename_i mm UO;split at hm
 case h_3=>cases hm
 case h_1=>cases hm
 rename_i f' hp hfn hnp;cases hm;have hti:(typeInfo u).run P w=.ok i w:=by simp[typeInfo,hi]
 rw[method];simp only[Z0,hti,ZQ,UO,hp,follow,aak,hfn];have S2:∀wr,(receiverAt u (.val v) false wr).run P w=.ok v w:=by
  intro wr;unfold receiverAt;simp only[Z0,ZZ hd,ZQ];rfl
 simp only[S2,ZQ]
def fu.EY{u:TypeId}{name f A}(hm:iT P u name=some f)(hA:bR P f=some A){a args}(hs:l9 P f (a::args) h v h'):fu P (.func (.method name) [] []) (.uS u a::args) h v h':=by
 intro m w cv vs hr hf hargs;rw[VR]at hf;obtain⟨f',a',c',rfl,hfn,ha,hc⟩:=hf;simp only[Bu]at hfn;subst hfn;rw[bB]at ha hc;subst ha;subst hc;obtain⟨x,vs,rfl,hx,Tu⟩:=aQ.1 hargs;rw[VR]at hx;obtain⟨v',rfl,hx⟩:=hx;refine⟨_,λw=>rfl,?_⟩;obtain⟨fn,cc,hfn,hb,_,_,_,hn⟩:=gN hA;have e0:((#[]++(⟨.iface u v'::vs⟩:Array Value)):Array Value)[0]? =some (.iface u v'):=Si
 have e1:((#[]++(⟨.iface u v'::vs⟩:Array Value)):Array Value).extract 1 ((#[]++(⟨.iface u v'::vs⟩:Array Value)):Array Value).size=⟨vs⟩:=by
  apply ab4;simp
 simp only[invoke,e0,e1,callMethod,Z0,program];have hmt:=xV hm (P.types.size+Made.depth-1) v' w;have hdep:0<Made.depth:=De
 have hne:P.types.size+Made.depth-1+1=P.types.size+Made.depth:=Om
 rw[hne]at hmt;show D7 P (Rel P m h w v h') ((Result.ok P w).andThen λa w'=>(Sem.run P (method (a.types.size+Made.depth) u v' name) w').andThen λa w'=>Sem.run P (callFunc a.fst (#[a.snd]++⟨vs⟩)) w');simp only[ZQ,hmt];rw[kL hfn (by rw[hb];rfl) hn];show CallsIn Fence.wide 0 P f _ w _;rw[callsIn_wide];have:=hs m w (v'::vs) hr (aQ.2 ⟨_,_,rfl,hx,Tu⟩);have e2:(#[v']++(⟨vs⟩:Array Value))=⟨v'::vs⟩:=by apply ab4;simp
 rw[e2];exact this
end
def setArgs:TS->List Nat->List AV->TS
 |ts,p::ps,v::vs=>setArgs (ts.set p v) ps vs
 |ts,_,_=>ts
section
variable {P:Program}{m:bY}{h h':ah}{w:World}{v:AV}
def HR.aside(hr:HR P m h w)(o:Obj):HR P m h (w.alloc o):=
 ⟨hr.cN,λb e k hb hk=>(hr.dU b e k hb hk).heap (Go.RowKit.Below.heap_alloc w o _ (hr.lt b e hb)),hr.sep,hr.gu,λb e hb=>by have:=hr.lt b e hb;simp;omega⟩
def Grow.aside(hr:HR P m h w)(o:Obj):Grow m h w m h (w.alloc o):=
 ⟨λ_ _=>rfl,ZO _,λb e hb he=>absurd (hr.cN b e he) Om,λ_ _ h=>h,Si,rfl,rfl,rfl,λi hi _=>Go.RowKit.Below.heap_alloc w o i hi⟩
theorem p6:∀{ps}{args}{ts}{tmps}{vs},cK m ts tmps.toList->cK m args vs->cK m (setArgs ts ps args) ((ps.zip vs).foldl (λ(t:Array Value) (p:Nat×Value)=>t.setIfInBounds p.1 p.2) tmps).toList
 |[],_,_,_,_,ht,_=>by simpa [setArgs]using ht
 |p::ps,[],ts,tmps,vs,ht,ha=>by rw[bB]at ha;subst ha;simpa [setArgs]using ht
 |p::ps,x::args,ts,tmps,vs,ht,ha=>by
  obtain⟨y,ys,rfl,hy,hys⟩:=aQ.1 ha;simp only[List.zip_cons_cons,abV,setArgs];exact p6 (by rw[Array.toList_setIfInBounds];exact ht.set p hy) hys
theorem fu.yield{l ex ex2 ex4 e ts VI ts3 tb tc ps pb pc asg body ab ac bb bc h2 h4 args st4}
  (hl:h[l]? =some (.loop .ready ex ts ps asg body)) (hlen:args.length=ps.length)
  (hasg:∀r,Ev P (some r) asg (setArgs ts ps args) h .normal VI h2) (hl2:h2[l]? =some (.loop .ready ex2 tb pb ab bb))
  (hbody:∀r,Ev P (some r) body VI (h2.set l (.loop .busy ex2 tb pb ab bb)) e ts3 h4) (hl4:h4[l]? =some (.loop st4 ex4 tc pc ac bc)):
  fu P (.func (.yield l) [] []) args h (.bool (decide (e=.normal))) (h4.set l (.loop (if e=.normal then .ready else .done) e tc pc ac bc)):=by
 intro m w cv vs hr hf hargs;rw[VR]at hf;obtain⟨f',a',c',rfl,hfn,ha,hc⟩:=hf;rw[bB]at ha hc;subst ha;subst hc;obtain⟨el,WD,rfl⟩:=hfn;refine⟨_,λw=>rfl,?_⟩;obtain⟨hown,fn,tmps,Ty,SY,df,hh,Sv,Ti,hcb⟩:=hr.dU l el _ WD hl;have hy:=run_yield (P:=P) (args:=(#[]++⟨vs⟩:Array Value)) hh (by simp[hargs.length,hlen]);simp only[invoke];rw[hy];show RoundIn Fence.wide 0 P el.cb fn _ Ty SY w _;refine roundIn_of_wpIn trivial ?_;have UH:cK m (setArgs ts ps args) (((⟨ps⟩:Array Tmp).zip (#[]++⟨vs⟩:Array Value)).foldl (λtmps (t,a)=>tmps.setIfInBounds t a) tmps).toList:=by
  have:=p6 (ps:=ps) Sv hargs;rw[<-Array.foldl_toList,Array.toList_zip]
  simpa using this
 refine hasg el.cb Ty Ti m _ w w.heap.size (ZO _) ⟨hr,UH⟩ (Marks.nil m w _) _ λm1 a1 w1 s1 g1 k1=>?_
 have XN:m1 l=some el:=by rw[g1.ext l (hr.cN _ _ WD)];exact WD
 obtain⟨_,fn2,X1,YA,WY,df2,hh2,hts2,hca2,hcb2⟩:=s1.hr.dU l el _ XN hl2;refine⟨_,run_beginRound hh2 rfl,?_⟩;have hlt1:el.cb<w1.heap.size:=s1.hr.lt _ _ XN;obtain⟨TK,g2⟩:=j9 s1.hr (o:=.loop {state:=.busy,pending:=ex2.jump,fn:=fn2,tmps:=X1,params:=⟨pb⟩,assign:=YA,body:=WY,defers:=df2}) XN hl2 rfl (k':=.loop .busy ex2 tb pb ab bb) (.inl rfl)
  ⟨hown,fn2,X1,YA,WY,df2,World.putObj_heap_same hlt1,hts2,hca2,hcb2⟩
 refine hbody el.cb SY hcb m1 a1 _ w.heap.size (aat g1.size g2.size) ⟨TK,s1.ts⟩ (k1.grow g2 s1.hr.cN) _ λm2 a2 w3 s2 g3 k2=>?_
 have hl2':l<h2.length:=(ZC.1 hl2).1;have Zq:m2 l=some el:=by rw[g3.ext l (by simpa using hl2')];exact XN
 obtain⟨_,fn4,XZ,Yz,WX,df4,hh4,hts4,hca4,hcb4⟩:=s2.hr.dU l el _ Zq hl4;have TE:el.cb<w3.heap.size:=s2.hr.lt _ _ Zq;have fin:∀j:Option Code,j=e.jump->∃v w',(Instr.endRound el.cb j).run P w3=.ok v w'/\Rel P m h w (.bool (decide (e=.normal))) (h4.set l (.loop (if e=.normal then .ready else .done) e tc pc ac bc)) (.returned v) w':=by
  rintro j rfl;obtain⟨hr4,g4⟩:=j9 s2.hr (o:=.loop {state:=if e=.normal then .ready else .done,pending:=e.jump,fn:=fn4,tmps:=XZ,params:=⟨pc⟩,assign:=Yz,body:=WX,defers:=df4}) Zq hl4 rfl
   (k':=.loop (if e=.normal then .ready else .done) e tc pc ac bc) (.inl rfl) ⟨hown,fn4,XZ,Yz,WX,df4,World.putObj_heap_same TE,hts4,hca4,hcb4⟩
  refine⟨_,_,run_endRound e.jump hh4,.bool (decide (e=.normal)),m2,?_,rfl,?_,?_⟩
  ·cases e<;>rfl
  ·have:(if e.jump.isNone=true then LoopState.ready else .done)=if e=.normal then .ready else .done:=by cases e<;>rfl
   simp only[this];exact hr4
  ·have:(if e.jump.isNone=true then LoopState.ready else .done)=if e=.normal then .ready else .done:=by cases e<;>rfl
   simp only[this];exact((g1.trans g2 hr.cN).trans g3 hr.cN).trans g4 hr.cN
 cases e with
 |normal=>exact fin none rfl
 |exit id=>exact fin (some (.exit id)) rfl
 |ret=>exact fin (some .ret) rfl
theorem Ev.fW{g ps ps' asg body asg' body' ts ts' f A a c h2 st ex}(hA:bR P f=some A)(hg:val ts g=.func (.func f) a c)
  (hs:l9 P f (a++[.func (.yield h.length) [] []]++c) (h++[.loop .ready .normal ts ps asg body]) v h2) (hl:h2[h.length]? =some (.loop st ex ts' ps' asg' body')) (bS:st≠.busy):
  Ev P none (.fW g ps asg body) ts h ex ts (h2.set h.length .dead):=by
 refine Ev.of λcc hns VV m act w lo hlo s hm Q hQ=>?_
 cases cc with
 |rangeFunc og cps Ty SY=>
  simp only[compile]at VV;split at VV
  case h_2=>cases VV
  rename_i g' x' y' hgo Ti hcb;cases VV;have hv:=CC s hgo;rw[hg,VR]at hv;obtain⟨f',ca,Tj,hev,hfn,ha,hc⟩:=hv;simp only[Bu]at hfn;subst hfn;obtain⟨W1,Uo⟩:∃W1,w.alloc (.deferred (some []))=W1:=⟨_,rfl⟩;have hsz1:W1.heap.size=w.heap.size+1:=by rw[<-Uo];simp
  have hr1:HR P m h W1:=by rw[<-Uo];exact s.hr.aside _
  have g1:Grow m h w m h W1:=by rw[<-Uo];exact Grow.aside s.hr _
  have Yu:W1.heap[w.heap.size]? =some (.deferred (some [])):=by rw[<-Uo];exact World.alloc_heap_new w _
  refine wpIn_rangeFunc λfn _=>?_
  obtain⟨rec,S2⟩:∃rec:Loop,rec={state:=.ready,pending:=none,fn:=fn,tmps:=act.tmps,params:=cps,assign:=Ty,body:=SY,defers:=w.heap.size}:=⟨_,rfl⟩;obtain⟨TK,g2⟩:=kC hr1 (.loop rec) (.loop .ready .normal ts cps.toList asg body) ⟨W1.heap.size,0,0,true⟩ rfl rfl (λm' hm'=>⟨rfl,fn,act.tmps,Ty,SY,w.heap.size,by rw[S2];exact World.alloc_heap_new W1 _,cK.mono hm' _ _ s.ts,Ti,hcb⟩);have hloc:(m.add h.length ⟨W1.heap.size,0,0,true⟩) h.length=some ⟨W1.heap.size,0,0,true⟩:=by simp[bY.add]
  have hle:m.le (m.add h.length ⟨W1.heap.size,0,0,true⟩):=g2.le s.hr.cN;have WA:=run_enterLoop_outer (P:=P) (w:=w) fn act.tmps cps Ty SY;rw[Uo,<-S2]at WA;obtain⟨ffn,fcode,hffn,hfb,_,_,_,Zm⟩:=gN hA;have hmk:Marks (m.add h.length ⟨W1.heap.size,0,0,true⟩) (W1.alloc (.loop rec)) lo ([{target:=.collected w.heap.size,args:=#[] }]++act.defers):=by
   obtain⟨rs,k1,k2,k3⟩:=(hm.grow g1 s.hr.cN).grow g2 s.hr.cN;refine⟨w.heap.size::rs,by rw[k1];rfl,abX.2 ⟨λhin=>?_,k2⟩,λr hr'=>?_⟩
   ·obtain⟨rs0,j1,j2,j3⟩:=hm;have hrs:rs0=rs:=by
     have:rs0.map (λr=>({target:=.collected r,args:=#[] }:Deferred))=rs.map (λr=>({target:=.collected r,args:=#[] }:Deferred)):=by rw[<-j1,k1]
     exact List.map_inj_right (λx y hxy=>by simpa using hxy) |>.1 this
    subst hrs;have:=(ZX.1 (j3 _ hin).2.1).1;omega
   ·rcases aag.1 hr' with rfl|hr'
    ·refine⟨hlo,(Go.RowKit.Below.heap_alloc W1 _ _ Om).trans Yu,λb e hb=>?_⟩;unfold bY.add at hb;split at hb
     ·cases hb;show W1.heap.size≠_;omega
     ·have:=s.hr.lt b e hb;omega
    ·exact k3 r hr'
  refine⟨w.heap.size+1,_,W1.alloc (.loop rec),{target:=.fn (.func f) ⟨Tj⟩,args:=⟨ca⟩++#[.func (.yield (w.heap.size+1)) #[] #[]] },W1.alloc (.loop rec),f,(⟨ca⟩++#[.func (.yield (w.heap.size+1)) #[] #[]])++⟨Tj⟩,W1.alloc (.loop rec),
   WA,?_,λ_ _=>trivial,?_,λhd=>by simp[Fd,Fence.wide]at hd,?_⟩
  ·have Wo:(#[Operand.const (.func (.yield (w.heap.size+1)) #[] #[])] :Array Operand).map act.eval=#[.func (.yield (w.heap.size+1)) #[] #[]]:=by simp[Act.eval]
   simp only[resolve,hev,rangeCall,Wo];rfl
  ·simp only[invoke];exact kL hffn (by rw[hfb];rfl) Zm
  ·have hargs:cK (m.add h.length ⟨W1.heap.size,0,0,true⟩) (a++[.func (.yield h.length) [] []]++c) (ca++[.func (.yield (w.heap.size+1)) #[] #[]]++Tj):=by
    refine cK.append (cK.append (cK.mono hle _ _ ha) (aQ.2 ⟨_,[],rfl,⟨_,[],[],rfl,⟨_,hloc,by rw[hsz1]⟩,rfl,rfl⟩,bB.2 rfl⟩)) (cK.mono hle _ _ hc)
   have UR:=hs _ _ _ TK hargs;rw[<-callsIn_wide (n:=0)]at UR;have Zu:CallsIn (Fd none) (0-1) P f ((⟨ca⟩++#[.func (.yield (w.heap.size+1)) #[] #[]])++⟨Tj⟩) (W1.alloc (.loop rec)) (Rel P (m.add h.length ⟨W1.heap.size,0,0,true⟩) (h++[.loop .ready .normal ts cps.toList asg body]) (W1.alloc (.loop rec)) v h2):=by
    have Tn:((⟨ca⟩++#[.func (.yield (w.heap.size+1)) #[] #[]])++⟨Tj⟩:Array Value)=⟨ca++[.func (.yield (w.heap.size+1)) #[] #[]]++Tj⟩:=by apply ab4;simp
    rw[Tn];exact UR
   refine Zu.mono ?_;rintro e3 w3 ⟨cv,m3,rfl,hv3,hr3,g3⟩;have Yi:m3 h.length=some ⟨W1.heap.size,0,0,true⟩:=by rw[g3.ext h.length Si];exact hloc
   obtain⟨hown3,fn3,tmps3,casg3,ZA,df3,hh3,_⟩:=hr3.dU h.length _ _ Yi hl;simp only at hh3;have Ux:=run_endLoop (P:=P) (l:=W1.heap.size) hh3 (by simpa using bS);obtain⟨hr4,g4⟩:=j9 hr3 (o:=.loop {state:=.exhausted,pending:=ex.jump,fn:=fn3,tmps:=tmps3,params:=⟨ps'⟩,assign:=casg3,body:=ZA,defers:=df3}) Yi hl rfl (k':=.dead) (.inr rfl) trivial;have T9:=hQ m3 {act with defers:=[{target:=.collected w.heap.size,args:=#[] }]++act.defers} _ ⟨hr4,cK.mono ((g2.trans g3 s.hr.cN).le s.hr.cN) _ _ s.ts⟩ (((g1.trans g2 s.hr.cN).trans g3 s.hr.cN).trans g4 s.hr.cN) ((hmk.grow g3 TK.cN).grow g4 hr3.cN);refine⟨ex.jump,_,by rw[<-hsz1];exact Ux,?_⟩
   cases ex with
   |normal=>exact T9
   |exit id=>exact wpIn_exit T9
   |ret=>exact wpIn_ret T9
 |scope a=>exact absurd rfl (hns a)
 |region id ops draw=>rcases ee (by simpa only[compile]using VV)with⟨_,h1,_⟩|⟨_,h1,_⟩|⟨_,h1,_⟩<;>cases h1
 |block id a=>simp[compile]at VV
 |loop a=>simp[compile]at VV
 |_=>
  simp only[compile]at VV
  (repeat' split at VV)
  all_goals cases VV
end
inductive iR where
 |ay
 |push (k:ak)
 |set (b:Nat) (k:ak)
 |nZ (b:Nat) (k k':ak)
 deriving Inhabited
def iR.app:iR->ah->ah
 |.ay,h=>h
 |.push k,h=>h++[k]
 |.set b k,h=>h.set b k
 |.nZ b k k',h=>h.set b k++[k']
def fq(es:Nat)(G:Nat->Option ak):AV->Option (List AV×Nat)
 |.af=>some ([],0)
 |.slice b o n es'=>
  if es' =es then
   match G b with
   |some (.cells c _ _)=>if o+n*es<=c.length then some ((c.drop o).take (n*es),n)else none
   |_=>none
  else none
 |.str s=>if es=1 then some (s.map λb=>.int .u8 b.toNat,s.length)else none
 |_=>none
def ju(lk:LK)(G:Nat->Option ak):AV->Option Nat
 |.str s=>if lk=.st then some s.length else none
 |.slice _ _ n _=>if lk=.sl then some n else none
 |.af=>if lk=.sl then some 0 else none
 |.map r=>
  match G r with
  |some (.aR es)=>if lk=.mp then some es.length else none
  |_=>none
 |.dh=>if lk=.mp then some 0 else none
 |_=>none
def mU(k:Aa)(x:AV)(G:Nat->Option ak)(N0:Nat):Option (AV×iR):=
 match k with
 |.MJ k=>
  match x with
  |.int _ n=>some (.int k (k.wrap n),.ay)
  |_=>none
 |.same=>
  match x with
  |.str s=>some (.str s,.ay)
  |_=>none
 |.PQ k=>
  match x with
  |.int _ n=>some (.xH k (k.nearest n),.ay)
  |_=>none
 |.P5 k=>
  match x with
  |.xH s b=>
   match (s.decode b).toInt .zero with
   |some n=>if E9 s b=false/\k.min<=n/\n<=k.max then some (.int k n,.ay)else none
   |none=>none
  |_=>none
 |.P6 k=>
  match x with
  |.xH s b=>if s=k then some (.xH k b,.ay)else none
  |_=>none
 |.uS u=>some (.uS u x,.ay)
 |.NS=>
  match x with
  |.af=>some (.str [],.ay)
  |.slice b o n es=>
   match fq 1 G (.slice b o n es)with
   |some (l,_)=>
    match l.mapM byteOf with
    |some r=>some (.str r,.ay)
    |none=>none
   |none=>none
  |_=>none
 |.OF=>
  match x with
  |.str s=>some (.slice N0 0 s.length 1,.push (.cells (s.map λb=>.int .u8 b.toNat) true true))
  |_=>none
def nI(k:pv):(cZ->AV)->(Nat->Option ak)->Nat->Option (AV×iR):=
 match k with
 |.cg x=>λρ G N0=>some (ρ x,.ay)
 |.pick c a b=>λρ G N0=>
  match ρ c with
  |.bool t=>some (if t then ρ a else ρ b,.ay)
  |_=>none
 |.box x=>λρ G N0=>if(ρ x).cells.all AV.one then some (.ptr N0 0,.push (.cells (ρ x).cells true false))else none
 |.oX n x=>λρ G N0=>if(ρ x).cells.all AV.one=true/\(ρ x).cells.length=n then some (.ptr N0 0,.push (.cells (ρ x).cells true false))else none
 |.build z ps=>λρ G N0=>
  match eT z (ps.map λp=>(p.1,p.2.1,ρ p.2.2))with
  |some c=>some (.agg c,.ay)
  |none=>none
 |.load n a=>λρ G N0=>
  match ρ a with
  |.ptr b o=>
   match G b with
   |some (.cells c _ _)=>
    match n with
    |none=>
     match c[o]? with
     |some x=>some (x,.ay)
     |none=>none
    |some n=>if o+n<=c.length then some (.agg ((c.drop o).take n),.ay)else none
   |_=>none
  |_=>none
 |.store n a x=>λρ G N0=>
  match ρ a with
  |.ptr b o=>
   match G b with
   |some (.cells c true tl)=>
    if(ρ x).cells.length=n/\(ρ x).cells.all AV.one=true/\o+n<=c.length then some (az,.set b (.cells (fU c o (ρ x).cells) true tl))else none
   |_=>none
  |_=>none
 |.bQ x=>λρ G N0=>
  match ρ x with
  |.ptr b o=>some (.ptr b o,.ay)
  |.func (.func f) a c=>some (.func (.func f) a c,.ay)
  |.func (.yield f) a c=>some (.func (.yield f) a c,.ay)
  |.func (.methodOf t n) a c=>some (.func (.methodOf t n) a c,.ay)
  |.func (.via t p f q) a c=>some (.func (.via t p f q) a c,.ay)
  |_=>none
 |.bin op x y=>λρ G N0=>
  match eF op (ρ x) (ρ y)with
  |some v=>some (v,.ay)
  |none=>none
 |.eqv neg t x y=>λρ G N0=>
  match oQ t (ρ x) (ρ y)with
  |some b=>some (.bool (if neg then !b else b),.ay)
  |none=>none
 |.un op x=>λρ G N0=>
  match xL op (ρ x)with
  |some v=>some (v,.ay)
  |none=>none
 |.conv k x=>λρ G N0=>mU k (ρ x) G N0
 |.uk f a c=>λρ G N0=>some (.func f (a.map ρ) (c.map ρ),.ay)
 |.lu=>λρ G N0=>some (.map N0,.push (.aR []))
 |.vY es w z l c=>λρ G N0=>
  match ρ l,ρ c with
  |.int _ l,.int _ c=>
   if 0<=l/\l<=c/\(w:Int)*c<=2^48/\c<2^63 then some (.slice N0 0 l.toNat es,.push (.cells (dO l.toNat z) true true))else none
  |_,_=>none
 |.sl es x lo hi=>λρ G N0=>
  match ρ x with
  |.slice b o n es'=>
   if es' =es then
    match jg (lo.map ρ) (hi.map ρ) n with
    |some (l,h')=>some (.slice b (o+l*es) (h'-l) es,.ay)
    |none=>none
   else none
  |.af=>
   match jg (lo.map ρ) (hi.map ρ) 0 with
   |some _=>some (.af,.ay)
   |none=>none
  |_=>none
 |.J5 x lo hi=>λρ G N0=>
  match ρ x with
  |.str s=>
   match jg (lo.map ρ) (hi.map ρ) s.length with
   |some (l,h')=>some (.str ((s.drop l).take (h'-l)),.ay)
   |none=>none
  |_=>none
 |.NP k es x lo hi=>λρ G N0=>
  match ρ x with
  |.ptr b o=>
   match G b with
   |some (.cells c _ _)=>
    if o+k*es<=c.length then
     match jg (lo.map ρ) (hi.map ρ) k with
     |some (l,h')=>some (.slice b (o+l*es) (h'-l) es,.ay)
     |none=>none
    else none
   |_=>none
  |_=>none
 |.bu off x=>λρ G N0=>
  match ρ x with
  |.ptr b o=>some (.ptr b (o+off),.ay)
  |_=>none
 |.bG es x i=>λρ G N0=>
  match ρ x,ρ i with
  |.slice b o n es',.int _ i=>if es' =es/\0<=i/\i<n then some (.ptr b (o+i.toNat*es),.ay)else none
  |_,_=>none
 |.sN len es x i=>λρ G N0=>
  match ρ x,ρ i with
  |.ptr b o,.int _ i=>if 0<=i/\i<len then some (.ptr b (o+i.toNat*es),.ay)else none
  |_,_=>none
 |.part n off x=>λρ G N0=>
  match ρ x with
  |.agg cs=>
   match n with
   |none=>
    match cs[off]? with
    |some v=>some (v,.ay)
    |none=>none
   |some n=>some (.agg ((cs.drop off).take n),.ay)
  |_=>none
 |.J7 len es n x i=>λρ G N0=>
  match ρ x,ρ i with
  |.agg cs,.int _ i=>
   if 0<=i/\i<len then
    match n with
    |none=>
     match cs[i.toNat*es]? with
     |some v=>some (v,.ay)
     |none=>none
    |some n=>some (.agg ((cs.drop (i.toNat*es)).take n),.ay)
   else none
  |_,_=>none
 |.Ea x i=>λρ G N0=>
  match ρ x,ρ i with
  |.str s,.int _ i=>
   if 0<=i then
    match s[i.toNat]? with
    |some b=>some (.int .u8 b.toNat,.ay)
    |none=>none
   else none
  |_,_=>none
 |.look kk z ok m k=>λρ G N0=>
  match ρ m with
  |.dh=>some (if ok then .dL [z,.bool false]else z,.ay)
  |.map r=>
   match G r with
   |some (.aR es)=>
    match hO kk (ρ k) es with
    |some (some v)=>some (if ok then .dL [v,.bool true]else v,.ay)
    |some none=>some (if ok then .dL [z,.bool false]else z,.ay)
    |none=>none
   |_=>none
  |_=>none
 |.fj kk m k x=>λρ G N0=>
  match ρ m with
  |.map r=>
   match G r with
   |some (.aR es)=>
    match mL kk (ρ k) (ρ x) es with
    |some es'=>some (az,.set r (.aR es'))
    |none=>none
   |_=>none
  |_=>none
 |.Cj x=>λρ G N0=>
  match ρ x with
  |.str s=>some (.ptr N0 0,.push (.iter s 0))
  |_=>none
 |.rE x=>λρ G N0=>
  match ρ x with
  |.ptr b 0=>
   match G b with
   |some (.iter s pos)=>
    if pos<s.length then
     let d:=Utf8.decode ⟨⟨s⟩⟩ pos
     some (.dL [.bool true,.int .i64 pos,.int .i32 d.1],.set b (.iter s (pos+d.2)))
    else some (.dL [.bool false],.ay)
   |_=>none
  |_=>none
 |.ext x i=>λρ G N0=>
  match ρ x with
  |.dL l=>
   match l[i]? with
   |some v=>some (v,.ay)
   |none=>none
  |_=>none
 |.len lk x=>λρ G N0=>
  match ju lk G (ρ x)with
  |some n=>some (.int .i64 n,.ay)
  |none=>none
 |.AJ n=>λρ G N0=>some (.int .i64 n,.ay)
 |.zL es x y=>λρ G N0=>
  match ρ x,fq es G (ρ y)with
  |.slice b o n es',some (ys,k)=>
   if es' =es then
    if min k n=0 then some (.int .i64 0,.ay)
    else
     match G b with
     |some (.cells c true tl)=>if o+min k n*es<=c.length then some (.int .i64 (min k n:Nat),.set b (.cells (fU c o (ys.take (min k n*es))) true tl))else none
     |_=>none
   else none
  |.af,some _=>some (.int .i64 0,.ay)
  |_,_=>none
 |.mx x l=>λρ G N0=>
  match iH qh (ρ x) (l.map ρ)with
  |some v=>some (v,.ay)
  |none=>none
 |.mn x l=>λρ G N0=>
  match iH qe (ρ x) (l.map ρ)with
  |some v=>some (v,.ay)
  |none=>none
 |_=>λρ G N0=>none
def pR(es w:Nat)(s y:AV)(G:Nat->Option ak)(N0:Nat):Option (AV×iR):=
 match fq es G y with
 |none=>none
 |some (ys,k)=>
  match s with
  |.af=>if k=0 then(if ys.isEmpty then some (.af,.ay)else none)else if k*w<=2^46 then some (.slice N0 0 k es,.push (.cells ys true true))else none
  |.slice b o m es'=>
   if es' =es then
    if k=0 then(if ys.isEmpty then some (.slice b o m es,.ay)else none)
    else if(m+k)*w<=2^46 then
     match G b with
     |some (.cells c true true)=>if o+m*es<=c.length then some (.slice N0 0 (m+k) es,.nZ b .dead (.cells ((c.drop o).take (m*es)++ys) true true))else none
     |some (.cells c false true)=>if o+m*es=c.length then some (.slice N0 0 (m+k) es,.nZ b (.cells c false false) (.cells (c.drop o++ys) false true))else none
     |some (.cells c true false)=>if o+m*es=c.length then some (.slice N0 0 (m+k) es,.push (.cells (c.drop o++ys) true true))else none
     |_=>none
    else none
   else none
  |_=>none
def stepT(k:pv):(cZ->AV)->(Nat->Option ak)->Nat->Option (AV×iR):=
 match k with
 |.call _ _=>λ_ _ _=>none
 |.app es w x y=>λρ G N0=>pR es w (ρ x) (ρ y) G N0
 |.ba es n z ps=>λρ _ N0=>
  match eT (dO n z) (ps.map λp=>(p.1,es,ρ p.2))with
  |some c=>if c.all AV.one=true/\c.length=n*es then some (.slice N0 0 n es,.push (.cells c true (!Nat.beq n 0)))else none
  |none=>none
 |k=>nI k
def pN(es:Nat)(h:ah)(x:AV):fq es (λb=>h[b]?) x=cellsIn es h x:=by
 cases x<;>rfl
def Fc(lk:LK)(h:ah)(x:AV):ju lk (λb=>h[b]?) x=AK lk h x:=by
 cases x<;>rfl
def Dt{k x h v e}(hs:mU k x (λb=>h[b]?) h.length=some (v,e)):ku k x h=some (v,e.app h):=by
 cases k<;>simp only[mU,pN]at hs<;>(repeat' split at hs)<;>first|(cases hs;done)|(cases hs;simp[ku,iR.app, *])
def I3{k ρ h v e}(hs:nI k ρ (λb=>h[b]?) h.length=some (v,e)):dx k ρ h=some (v,e.app h):=by
 cases k with
 |conv k x=>exact Dt (k:=k) (x:=ρ x) hs
 |vY es w z l c=>
  simp only[nI]at hs;split at hs
  case h_2=>cases hs
  rename_i kl il kc ic hl hc;split at hs
  case isFalse=>cases hs
  rename_i SQ;cases hs;simp only[dx,hl,hc];rw[ZS SQ];rfl
 |_=>simp only[nI,pN,Fc]at hs<;>(repeat' split at hs)<;>first|(cases hs;done)|(cases hs;simp[dx,iR.app, *])
def nV{k ρ h v e}(hs:stepT k ρ (λb=>h[b]?) h.length=some (v,e)):mY k ρ h v (e.app h):=by
 have hf:∀k,nI k ρ (λb=>h[b]?) h.length=some (v,e)->dx k ρ h=some (v,e.app h):=λk hk=>I3 hk
 cases k with
 |call f args=>cases hs
 |app es w x y=>
  simp only[stepT,pR,pN]at hs;show xE es w (ρ x) (ρ y) h v (e.app h);split at hs
  ·cases hs
  rename_i ys k hy;split at hs
  ·rename_i hx;rw[hx];split at hs
   ·rename_i hk;split at hs
    ·rename_i hys;cases hs;subst hk;exact .none (by rw[hy];cases ys<;>first|rfl|cases hys) (.inl rfl)
    ·cases hs
   ·split at hs
    ·rename_i hk hb;cases hs;exact .new ys k true hy Om hb rfl
    ·cases hs
  ·rename_i b o m es' hx;rw[hx];split at hs
   case isFalse=>cases hs
   rename_i hes;subst hes;split at hs
   ·rename_i hk;split at hs
    ·rename_i hys;cases hs;subst hk;exact .none (by rw[hy];cases ys<;>first|rfl|cases hys) (.inr ⟨b,o,m,rfl⟩)
    ·cases hs
   ·rename_i hk;split at hs
    case isFalse=>cases hs
    rename_i hb;split at hs
    ·rename_i c hc;split at hs
     case isFalse=>cases hs
     rename_i hl;cases hs;exact .over ys k b o m c true hy Om hb rfl hc hl
    ·rename_i c hc;split at hs
     case isFalse=>cases hs
     rename_i hl;cases hs;exact .on ys k b o m c false hy Om hb rfl hc hl
    ·rename_i c hc;split at hs
     case isFalse=>cases hs
     rename_i hl;cases hs;exact .full ys k b o m c hy Om hb rfl hc hl
    ·cases hs
  ·cases hs
 |ba es n z ps=>
  simp only[stepT]at hs;split at hs
  case h_2=>cases hs
  rename_i c hc;split at hs
  case isFalse=>cases hs
  rename_i SQ;cases hs;exact⟨c,true,_,hc,SQ.1,SQ.2,rfl,rfl⟩
 |_=>exact hf _ hs
inductive Acc where
 |no
 |rd (b:Nat)
 |wr (b:Nat) (k:ak)
def Acc.dU:Acc->Option Nat
 |.no=>none
 |.rd b=>some b
 |.wr b _=>some b
def Acc.app(h:ah):Acc->ah
 |.wr b k=>h.set b k
 |_=>h
def Av{k}(hk:fC k=true){ρ G G' N N'}:stepT k ρ G N=stepT k ρ G' N':=by
 cases k<;>first|(cases hk;done)|rfl|skip
 case conv c x=>cases c<;>first|(cases hk;done)|rfl
 case len lk x=>
  have hl:lk≠.mp:=λe=>by rw[e]at hk;cases hk
  have e:ju lk G (ρ x)=ju lk G' (ρ x):=by
   cases lk<;>first|exact absurd rfl hl|skip
   all_goals
    cases ρ x<;>first|rfl|(simp only[ju,reduceCtorEq,ZY];repeat' split)<;>rfl
  simp only[stepT,nI,e]
def AI{n a ρ G G' N N' b o}(ha:ρ a=.ptr b o)(hb:G b=G' b):stepT (.load n a) ρ G N=stepT (.load n a) ρ G' N':=by
 simp only[stepT,nI,ha,hb]
def xN{n a x ρ G G' N N' b o}(ha:ρ a=.ptr b o)(hb:G b=G' b):stepT (.store n a x) ρ G N=stepT (.store n a x) ρ G' N':=by
 simp only[stepT,nI,ha,hb]
def xD(o:bL)(ts:TS)(h:ah)(v:AV)(c:Acc):Prop:=
 (¬wanted o.gd ts/\c=.no/\v=az)\/wanted o.gd ts/\((fC o.k=true/\c=.no/\stepT o.k (val ts) (λz=>h[z]?) h.length=some (v,.ay))\/
  (∃n a b off,o.k=.load n a/\val ts a=.ptr b off/\c=.rd b/\stepT o.k (val ts) (λz=>h[z]?) h.length=some (v,.ay))\/
  (∃n a x b off k,o.k=.store n a x/\val ts a=.ptr b off/\c=.wr b k/\stepT o.k (val ts) (λz=>h[z]?) h.length=some (v,.set b k)))
theorem xD.run{P o ts h g v c}(hs:xD o ts h v c)(hb:∀b,c.dU=some b->g[b]? =h[b]?):dB P o ts g (put ts o.dst v) (c.app g):=by
 rcases hs with⟨hw,rfl,rfl⟩|⟨hw,hs⟩
 ·exact .skip hw
 rcases hs with⟨hp,rfl,hs⟩|⟨n,a,b,off,hk,ha,rfl,hs⟩|⟨n,a,x,b,off,k,hk,ha,rfl,hs⟩
 ·refine .run hw ?_ ?_
  ·cases hk:o.k<;>rw[hk]at hp<;>first|(cases hp;done)|trivial
  ·rw[Av hp (G':=λz=>g[z]?) (N':=g.length)]at hs;have:=nV hs;cases hk:o.k<;>rw[hk]at hp this<;>first|(cases hp;done)|exact this
 ·rw[hk]at hs;rw[AI ha (G':=λz=>g[z]?) (N':=g.length) (hb b rfl).symm]at hs;exact z193
 ·rw[hk]at hs;rw[xN ha (G':=λz=>g[z]?) (N':=g.length) (hb b rfl).symm]at hs;exact z193
def Bs:List bL->TS->ah->List Acc->TS->Prop
 |[],ts,_,cs,ts'=>cs=[]/\ts' =ts
 |o::r,ts,h,cs,ts'=>∃v c cs1,xD o ts h v c/\cs=c::cs1/\Bs r (put ts o.dst v) h cs1 ts'
theorem Bs.row{h}:∀{l}{ts ts'}{cs},Bs l ts h cs ts'->∃T:Nat->TS,T 0=ts/\T l.length=ts'/\cs.length=l.length/\∀j o,l[j]? =some o->∃v c,cs[j]? =some c/\xD o (T j) h v c/\T (j+1)=put (T j) o.dst v
 |[],ts,ts',cs,hs=>by
  obtain⟨rfl,rfl⟩:=hs;exact⟨λ_=>ts',rfl,rfl,rfl,λj o ho=>by simp at ho⟩
 |o::r,ts,ts',cs,hs=>by
  obtain⟨v,c,cs1,bS,rfl,hr⟩:=hs;obtain⟨T,hT,T0,hl,hrow⟩:=hr.row;refine⟨λi=>match i with| 0=>ts|i+1=>T i,rfl,T0,by simp[hl],λj x hx=>?_⟩;cases j with
  |zero=>simp at hx;subst hx;exact⟨v,c,rfl,bS,hT⟩
  |succ j=>
   obtain⟨v',c',h1,h2,h3⟩:=hrow j x (by simpa using hx);exact⟨v',c',by simpa using h1,h2,h3⟩
def dS:ah->List Acc->ah
 |h,[]=>h
 |h,c::cs=>dS (c.app h) cs
def fg:List Acc->Prop
 |[]=>True
 |c::cs=>(∀b,c.dU=some b->∀x∈cs,x.dU=some b->∀k k',c=Acc.wr b k\/x=Acc.wr b k'->False)/\fg cs
theorem fg.ne:∀{cs:List Acc},fg cs->∀{i j b:Nat}{k:ak}{c:Acc},cs[i]? =some (.wr b k)->i≠j->cs[j]? =some c->c.dU≠some b
 |[],_,i,j,b,k,c,h1,_,_=>by simp at h1
 |x::xs,h,i,j,b,k,c,h1,hij,h2=>by
  intro hc;cases i with
  |zero=>
   simp at h1;subst h1;cases j with
   |zero=>exact hij rfl
   |succ j=>exact h.1 b rfl c (aaz (by simpa using h2)) hc k k (.inl rfl)
  |succ i=>
   cases j with
   |zero=>
    simp at h2;subst h2;exact h.1 b hc _ (aaz (by simpa using h1)) rfl k k (.inr rfl)
   |succ j=>exact fg.ne h.2 (i:=i) (j:=j) (by simpa using h1) Om (by simpa using h2) hc
def uC(h:ah)(c:Acc):(c.app h).length=h.length:=by cases c<;>simp[Acc.app]
def yF{h:ah}{c:Acc}{b:Nat}(hb:∀k,c=.wr b k->False):(c.app h)[b]? =h[b]? :=by
 cases c with
 |wr b' k=>
  have:b'≠b:=λe=>hb k (by rw[e])
  simp[Acc.app,ZV this]
 |_=>rfl
theorem pU:∀{cs:List Acc}{h:ah}{b:Nat},(∀(j:Nat) (k:ak),cs[j]? =some (Acc.wr b k)->False)->(dS h cs)[b]? =h[b]?
 |[],h,b,_=>rfl
 |c::cs,h,b,hb=>by
  rw[dS,pU (λj k hj=>hb (j+1) k (by simpa using hj))];exact yF λk hk=>hb 0 k (by simp[hk])
theorem tS:∀{cs:List Acc}{h:ah},fg cs->∀{j b:Nat}{k:ak},b<h.length->cs[j]? =some (.wr b k)->(dS h cs)[b]? =some k
 |[],h,_,j,b,k,_,hj=>by simp at hj
 |c::cs,h,ho,j,b,k,hb,hj=>by
  cases j with
  |zero=>
   simp at hj;subst hj;rw[dS,pU (λj k' hj=>fg.ne ho (i:=0) (j:=j+1) (b:=b) (k:=k) rfl Om (by simpa using hj) rfl)];simp[Acc.app,hb]
  |succ j=>
   rw[dS];exact tS ho.2 (by rw[uC];exact hb) (by simpa using hj)
structure zY(h:ah)(cs:List Acc)(S:Nat->Bool)(g:ah):Prop where
 len:g.length=h.length
 wr:∀j b k,S j=true->cs[j]? =some (.wr b k)->g[b]? =some k
 ne:∀b,(∀j k,S j=true->cs[j]? =some (.wr b k)->False)->g[b]? =h[b]?
def zY.all{h g:ah}{cs:List Acc}{S:Nat->Bool}(H:zY h cs S g)(ho:fg cs)(hS:∀j c,cs[j]? =some c->S j=true):g=dS h cs:=by
 apply abZ
 intro b;by_cases hx:∃(j:Nat) (k:ak),cs[j]? =some (Acc.wr b k)
 ·obtain⟨j,k,hj⟩:=hx;have h1:=H.wr j b k (hS j _ hj) hj;have:b<h.length:=by rw[<-H.len];exact(ZC.1 h1).1
  rw[h1,tS ho this hj]
 ·rw[H.ne b λj k _ hj=>hx ⟨j,k,hj⟩,pU λj k hj=>hx ⟨j,k,hj⟩]
def uc{P:Program}(hmix:P.follows .mixedOrders=true){ops:Array Oper}{l:List bL}(hed:kS (Region.before ops) ops=true)(hsl:mi (Region.before ops) ops=true)
  (hc:eU (λ_ o=>bU P ops false o) ops.toList 0=some l) {ts ts':TS}{h:ah}{cs:List Acc}(hs:Bs l ts h cs ts') (hok:fg cs) {m:bY}{a:Act}{w:World}
  (st:St P m ts h a w) (ro:Option Nat) (Q:Exit->Act->World->Prop) (hQ:∀m' a' w',St P m' ts' (dS h cs) a' w'->Grow m h w m' (dS h cs) w'->a'.defers=a.defers->Q .normal a' w') (id:Nat):
  (Code.region id ops true).wpIn (Fd ro) 0 P Q a w:=by
 refine wpIn_region_any hmix ?_;obtain⟨T,rfl,rfl,hcl0,hrow⟩:=hs.row;obtain⟨SP,SF⟩:=gy hc;simp only[abN]at SP;have WI:∀(j:Nat) (io:bL),l[j]? =some io->∃o,ops[j]? =some o/\bU P ops false o=some io:=λj io hj=>by
  exact Ob
 have TI:∀(j:Nat) (io:bL) (d:Nat),l[j]? =some io->io.dst=some d->∃o,ops[j]? =some o/\o.dst=some d:=λj io d hj hd=>by
  exact N2
 have huniq:∀(i j:Nat) (oi oj:bL) (d:Nat),l[i]? =some oi->l[j]? =some oj->oi.dst=some d->oj.dst=some d->i=j:=λi j oi oj d hi hj h1 h2=>by
  exact Oe
 have hTl:∀j,j<=l.length->(T j).length=(T 0).length:=by
  intro j
  induction j with
  |zero=>intro _;rfl
  |succ j ih=>
   intro hj;obtain⟨v,c,_,_,hv⟩:=hrow j _ (ZH (show j<l.length by omega));rw[hv,nA];exact ih Om
 have SL:∀x y t,x<=y->y<=l.length->(∀(j:Nat) (o:bL),x<=j->j<y->l[j]? =some o->o.dst≠some t)->(T y).getD t az=(T x).getD t az:=by
  intro x y t hxy hy hno;have:=uO (T:=T) (t:=t) (a:=x) (y-x) (λj h1 h2=>by
   have hj:l[j]? =some (l[j]'Om):=ZH Om;obtain⟨v,c,_,_,hv⟩:=hrow j _ hj;exact⟨_,v,hv,hno j _ h1 Om hj⟩)
  rwa [show x+(y-x)=y from by omega]at this
 have hdone:∀(listed:Array Bool) (g:ah) (a1:Act) (w1:World),(∀i,i<ops.size->listed.getD i false=true)->zY h cs (λj=>listed.getD j false) g->HR P m g w1->Grow m h w m g w1->a1.tmps.size=(T 0).length->
   (∀(d:Nat),(∀(j:Nat) (o:bL),l[j]? =some o->listed.getD j false=true->o.dst≠some d)->VR m ((T 0).getD d az) (a1.tmps.getD d undef))->
   (∀(d j:Nat) (o:bL),l[j]? =some o->listed.getD j false=true->o.dst=some d->VR m ((T (j+1)).getD d az) (a1.tmps.getD d undef))->a1.defers=a.defers->Q .normal a1 w1:=by
  intro listed g a1 w1 hall H hr hg eG h1 h2 hd;have e:=H.all hok λj c hj=>hall j (by have:=(ZC.1 hj).1;omega)
  subst e;refine hQ m a1 w1 ⟨hr,cK.iu ?_ ?_⟩ hg hd
  ·exact z143
  ·intro t x hx;exact Rz
 have key:∀(fuel:Nat) (listed:Array Bool) (g:ah) (a1:Act) (w1:World),listed.size=ops.size->ra listed ops.size<=fuel->
   (∀j x,listed.getD j false=true->x<ops.size->ahead (Region.before ops) x j=true->listed.getD x false=true)->
   zY h cs (λj=>listed.getD j false) g->HR P m g w1->Grow m h w m g w1->a1.tmps.size=(T 0).length->
   (∀(d:Nat),(∀(j:Nat) (o:bL),l[j]? =some o->listed.getD j false=true->o.dst≠some d)->VR m ((T 0).getD d az) (a1.tmps.getD d undef))->
   (∀(d j:Nat) (o:bL),l[j]? =some o->listed.getD j false=true->o.dst=some d->VR m ((T (j+1)).getD d az) (a1.tmps.getD d undef))->a1.defers=a.defers->wpAnyIn (Fd ro) 0 P .any ops Q fuel listed a1 w1:=by
  intro fuel
  induction fuel with
  |zero=>
   intro listed g a1 w1 SN hu hcl H hr hg eG h1 h2 hd;have hall:=lH ops.size (show ra listed ops.size=0 by omega);exact⟨mw SN hall,hdone listed g a1 w1 hall H hr hg eG h1 h2 hd⟩
  |succ fuel ih=>
   intro listed g a1 w1 SN hu hcl H hr hg eG h1 h2 hd;refine⟨λhrn=>hdone listed g a1 w1 (mv hed SN hrn) H hr hg eG h1 h2 hd,λi hi=>?_⟩;obtain⟨o,ho,TF,XO⟩:=(jk SN).1 hi;have hin:i<ops.size:=(ZX.1 ho).1;obtain⟨io,hio,SJ⟩:=SF i o (by simpa using ho);obtain⟨v,c,hci,bS,hTi⟩:=hrow i io hio;have hahead:∀x,x<ops.size->ahead (Region.before ops) x i=true->listed.getD x false=true:=λx hx ha=>by
    exact NL
   have Uz:∀j x,(listed.setIfInBounds i true).getD j false=true->x<ops.size->ahead (Region.before ops) x j=true->(listed.setIfInBounds i true).getD x false=true:=by
    intro j x hj hx ha;exact z40
   have Wd:ra (listed.setIfInBounds i true) ops.size<=fuel:=by
    exact NF
   have hslot:∀t,t∈o.looksAt ops->VR m ((T i).getD t az) (a1.tmps.getD t undef):=by
    intro t ht;exact z12
   have US:∀b,c.dU=some b->g[b]? =h[b]? :=λb hb=>H.ne b λj k hj Yk=>by
    by_cases e1:j=i
    ·subst e1
     try simp only at hj
     rw[TF]at hj;cases hj
    ·exact fg.ne hok Yk e1 hci hb
   refine fD ho SJ hr.gv hr (by rw[eG,hTl i Om]) hslot (bS.run (P:=P) US) ro _ Q ?_;intro cv v' m' w' T0 T3 hr' SV;have Ta:io.dst=o.dst:=(dw SJ).1;have hm:m' =m:=by
    funext b;by_cases hb:b<g.length
    ·exact SV.ext b hb
    ·have e1:m b=none:=by
      cases hx:m b with
      |none=>rfl
      |some e=>exact absurd (hr.cN b e hx) hb
     have e2:m' b=none:=by
      cases hx:m' b with
      |none=>rfl
      |some e=>exact absurd (by have:=hr'.cN b e hx;rwa [uC]at this) hb
     rw[e1,e2]
   subst hm;have hlt:(listed.setIfInBounds i true).getD i false=true:=by rw[c8 Om,ZS rfl]
   have hne:∀j,j≠i->(listed.setIfInBounds i true).getD j false=listed.getD j false:=λj hj=>by rw[c8 Om,ZN hj]
   have Vy:(a1.put o.dst cv).tmps=gS a1.tmps o.dst cv:=by cases o.dst<;>rfl
   refine ih _ (c.app g) (a1.put o.dst cv) w' (by simp[SN]) Wd Uz ⟨by rw[uC];exact H.len,?_,?_⟩ hr' (hg.trans SV st.hr.cN) (by rw[Vy,fh];exact eG) ?_ ?_ (by rw[put_defers];exact hd)
   ·intro j b k hj Yk
    try simp only at hj
    by_cases e1:j=i
    ·subst e1;rw[hci]at Yk;cases Yk;have:b<g.length:=by
      by_cases hb:b<g.length
      ·exact hb
      ·have e:=US b rfl;rcases bS with⟨_,h,_⟩|⟨_,hs3⟩
       ·cases h
       rcases hs3 with⟨_,h,_⟩|⟨_,_,_,_,_,_,h,_⟩|⟨n,aa,x,b',off,k',hk,ha,h,hs3⟩
       ·cases h
       ·cases h
       ·cases h;rw[hk]at hs3;rw[abf Om]at e;simp only[stepT,nI,ha,<-e]at hs3;cases hs3
     simp[Acc.app,this]
    ·rw[hne j e1]at hj;rw[yF λk' hk'=>by
      subst hk';exact fg.ne hok Yk e1 hci rfl]
     exact H.wr j b k hj Yk
   ·intro b hb;rw[yF λk' hk'=>hb i k' hlt (by rw[hci,hk'])];exact H.ne b λj k hj Yk=>by
     try simp only at hj
     exact hb j k (by
      show(listed.setIfInBounds i true).getD j false=true;by_cases e1:j=i
      ·subst e1;exact hlt
      ·rw[hne j e1];exact hj) Yk
   ·intro d hdn;have Uh:o.dst≠some d:=by rw[<-Ta];exact hdn i io hio hlt
    rw[Vy,dC Uh];refine h1 d λj oj hj hl=>hdn j oj hj ?_
    exact z76
   ·intro d j oj hj hl Vf;by_cases e1:j=i
    ·subst e1;rw[hio]at hj;cases hj;rw[hTi,Vy,<-Ta,Vf];have hvv:put (T j) (some d) v=put (T j) (some d) v':=by
      have:=T0;rw[<-Ta,Vf]at this;exact this
     rw[hvv];exact lM (by rw[eG,hTl j Om]) T3
    ·have Uh:o.dst≠some d:=λhx=>by
      exact HQ
     rw[Vy,dC Uh];rw[hne j e1]at hl;exact h2 d j oj hj hl Vf
 have SE:∀j,(Array.replicate ops.size false).getD j false=false:=λj=>by
  exact NG
 refine key ops.size (Array.replicate ops.size false) h a _ Si ?_ (λj x hj _ _=>by simp[SE j]at hj) ⟨rfl,λj b k hj _=>by simp[SE j]at hj,λb _=>rfl⟩ st.hr.drew (Grow.refl m _ w st.hr.cN).drew ?_ (λd _=>nY st.ts d) (λd j o _ hj _=>by simp[SE j]at hj) rfl
 ·exact NM
 ·exact Ef
theorem Ev.sL{P ro}(hmix:P.follows .mixedOrders=true){l ts ts' h cs}(hs:Bs l ts h cs ts')(hok:fg cs):Ev P ro (.sL l) ts h .normal ts' (dS h cs):=by
 refine Ev.of λcc hns hc m a w lo hlo st hm Q hQ=>?_
 cases cc with
 |region id ops draw=>
  rcases ee (by simpa only[compile]using hc)with⟨l',h1,hl⟩|⟨l',h1,hd,⟨l2,hl2⟩,hz⟩|⟨_,h1,_⟩<;>cases h1
  subst hd;simp only[cP,Z1]at hl2;split at hl2
  case isFalse=>cases hl2
  rename_i Tc;simp only[aad]at Tc;exact uc hmix Tc.1 Tc.2 hz hs hok st ro Q (λm' a' w' s g d=>hQ m' a' w' s g (by rw[d];exact hm.grow g st.hr.cN)) id
 |scope a=>exact absurd rfl (hns a)
 |block id a=>simp[compile]at hc
 |loop a=>simp[compile]at hc
 |_=>
  exact BH
def DS(cs:List Acc):Acc->List Acc
 |.no=>cs
 |c=>cs++[c]
def Bm{cs c}(hc:c≠.no):DS cs c=cs++[c]:=by cases c<;>first|exact absurd rfl hc|rfl
def BC(h:ah):List bL->TS->List Acc->(TS->List Acc->Prop)->Prop
 |[],ts,cs,K=>K ts cs
 |o::r,ts,cs,K=>∃v c,xD o ts h v c/\BC h r (put ts o.dst v) (DS cs c) K
theorem pT:∀{a b c},(∀x∈b,x=Acc.no)->fg (a++c)->fg (a++b++c)
 |[],[],c,_,h=>h
 |[],x::b,c,hb,h=>by
  have hx:=hb x Si;subst hx;exact⟨λn hn=>by(cases hn),by simpa using pT (a:=[]) (b:=b) (λy hy=>hb y (Z8 _ hy)) h⟩
 |x::a,b,c,hb,h=>by
  refine⟨λn hn y hy hyn k k' hk=>?_,pT (a:=a) hb h.2⟩;rcases ZK.1 hy with hy|hy
  ·rcases ZK.1 hy with hy|hy
   ·exact h.1 n hn y (ZK.2 (.inl hy)) hyn k k' hk
   ·rw[hb y hy]at hyn;cases hyn
  ·exact h.1 n hn y (ZK.2 (.inr hy)) hyn k k' hk
theorem BC.sound{h}:∀{l}{ts}{cs}{K},BC h l ts cs K->∃Vu Zz ts',Bs l ts h Vu ts'/\K ts' (cs++Zz)/\(∀(a c:List Acc),fg (a++Zz++c)->fg (a++Vu++c))/\(∀g,dS g Vu=dS g Zz)
 |[],ts,cs,K,H=>⟨[],[],ts,⟨rfl,rfl⟩,by rw[Z6];exact H,λ_ _ h=>h,λ_=>rfl⟩
 |o::r,ts,cs,K,H=>by
  obtain⟨v,c,h1,H⟩:=H;obtain⟨Vu,Zz,ts',h2,h3,h4,h5⟩:=BC.sound (l:=r) H;by_cases hc:c=.no
  ·subst hc;refine⟨.no::Vu,Zz,ts',⟨v,.no,Vu,h1,rfl,h2⟩,h3,λa d hd=>?_,λg=>h5 g⟩;have:=pT (a:=a) (b:=[.no]) (c:=Vu++d) Si (by simpa using h4 a d hd)
   simpa using this
  ·rw[Bm hc]at h3;refine⟨c::Vu,c::Zz,ts',⟨v,c,Vu,h1,rfl,h2⟩,by simpa using h3,λa d hd=>?_,λg=>by rw[dS,dS,h5]⟩;have:=h4 (a++[c]) d (by simpa using hd)
   simpa using this
theorem BC.mono{h}:∀{l}{ts}{cs}{K K'},BC h l ts cs K->(∀ts' cs',K ts' cs'->K' ts' cs')->BC h l ts cs K'
 |[],ts,cs,K,K',H,hk=>hk _ _ H
 |o::r,ts,cs,K,K',H,hk=>by
  obtain⟨v,c,h1,H⟩:=H;exact⟨v,c,h1,BC.mono (l:=r) H hk⟩
end Go.Abs
