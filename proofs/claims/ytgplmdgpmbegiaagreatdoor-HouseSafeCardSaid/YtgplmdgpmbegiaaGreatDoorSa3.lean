/- A part of the proof that HouseSafe holds. No condition. -/
import Derived.Test.YtgplmdgpmbegiaaGreatDoorSa2
import Derived.RangeFuncRecord
import Derived.Test.YtgplmdgpmbegiaaGreatDoorSa0
set_option maxHeartbeats 4000000
set_option linter.all false
namespace Go.Abs
def qt(listed:Array Bool):Nat→Nat
 | 0=>0
 | n+1=>qt listed n+ (if listed.getD n false then 0 else 1)
def cZ{listed:Array Bool}{i j:Nat}(hi:i < listed.size): (listed.setIfInBounds i true).getD j false= (if j=i then true else listed.getD j false):=by
 by_cases h:j=i
 ·subst h;simp[Yh,YJ hi]
 ·rw[XG h];simp[Yh,Zb (YP h)]
theorem Aj{listed:Array Bool}{i:Nat}(hi:i < listed.size):∀n,n≤i→qt (listed.setIfInBounds i true) n=qt listed n
 | 0,_=>rfl
 | n+1,h=>by
  simp only[qt];rw[Aj hi n Om,cZ hi,XG (by omega:¬n=i)]
theorem Ai{listed:Array Bool}{i:Nat}(hi:i < listed.size)(hn:listed.getD i false=false):∀n,i < n→qt (listed.setIfInBounds i true) n+1=qt listed n
 | 0,h=>absurd h Om
 | n+1,h=>by
  simp only[qt];rw[cZ hi];by_cases e:n=i
  ·subst e;rw[Aj hi n (XH _),XI rfl,hn];simp
  ·rw[XG e];have:=Ai hi hn n Om;omega
theorem kQ{listed}:∀n,qt listed n=0→∀i,i < n→listed.getD i false=true
 | 0,_,i,hi=>absurd hi Om
 | n+1,h,i,hi=>by
  simp only[qt]at h;by_cases e:i=n
  ·subst e;cases hl:listed.getD i false with
   | true=>rfl
   | false=>rw[hl]at h;simp at h
  ·exact kQ n Om i Om
def bY.dB(m:bY)(n:Nat):bY:=fun b=>if b < n then m b else none
def bY.patch(m1 m:bY)(n:Nat):bY:=fun b=>if b < n then m1 b else m b
mutual
theorem VR.cut{ma m n}(hd:∀b e,ma b=some e→b < n):∀ (x:AV) (va v:Value),VR ma x va→VR m x v→VR (m.dB n) x v
 | .bool _,_,_,_,hv=>hv
 | .int _ _,_,_,_,hv=>hv
 | .vT _ _,_,_,_,hv=>hv
 | .vF _ _ _,_,_,_,hv=>hv
 | .str _,_,_,_,hv=>hv
 | .ptr b o,va,v,ha,hv=>by
  exact O7
 | .nilPtr,_,_,_,hv=>hv
 | .slice b o n' es,va,v,ha,hv=>by
  rw[VR]at ha hv ⊢;obtain⟨e,_,_,he,_⟩:=ha;obtain⟨e',ca,cap,Rj,hv⟩:=hv;exact⟨e',ca,cap,by unfold bY.dB;rw[XI (hd _ _ he)];exact Rj,hv⟩
 | .af,_,_,_,hv=>hv
 | .map r,va,v,ha,hv=>by
  exact O7
 | .cR,_,_,_,hv=>hv
 | .func f a c,va,v,ha,hv=>by
  rw[VR]at ha hv ⊢;obtain⟨f1,a1,c1,_,TK,ha1,hc1⟩:=ha;obtain⟨f2,a2,c2,hv,SY,ha2,Xl⟩:=hv;refine⟨f2,a2,c2,hv,?_,cH.cut hd a _ _ ha1 ha2,cH.cut hd c _ _ hc1 Xl⟩;cases f<;>simp only[zT]at TK SY ⊢<;>try exact SY
  obtain⟨e,he,_⟩:=TK;obtain⟨e',Rj,hg⟩:=SY;exact⟨e',by unfold bY.dB;rw[XI (hd _ _ he)];exact Rj,hg⟩
 | .nilFunc,_,_,_,hv=>hv
 | .pW u a,va,v,ha,hv=>by
  rw[VR]at ha hv ⊢;obtain⟨v1,_,h1⟩:=ha;obtain⟨v2,hv,h2⟩:=hv;exact⟨v2,hv,VR.cut hd a _ _ h1 h2⟩
 | .jY,_,_,_,hv=>hv
 | .agg l,va,v,ha,hv=>by
  exact Jp
 | .dJ l,va,v,ha,hv=>by
  exact Jp
theorem cH.cut{ma m n}(hd:∀b e,ma b=some e→b < n):∀ (l:List AV) (va vs:List Value),cH ma l va→cH m l vs→cH (m.dB n) l vs
 | [],_,_,_,hv=>hv
 | x::xs,va,vs,ha,hv=>by
  obtain⟨y1,ys1,_,a1,a2⟩:=aS.1 ha;obtain⟨y2,ys2,h,b1,b2⟩:=aS.1 hv;exact aS.2 ⟨y2,ys2,h,VR.cut hd x _ _ a1 b1,cH.cut hd xs _ _ a2 b2⟩
end
def iN(n:Nat)(x:AV):Prop:=∃ (ma:bY) (va:Value),(∀b e,ma b=some e→b < n)∧VR ma x va
def Lg(n:Nat)(l:List AV):Prop:=∃ (ma:bY) (va:List Value),(∀b e,ma b=some e→b < n)∧cH ma l va
def pR(n:Nat):aq→Prop
 | .cells c _ _=>∀ (i:Nat) (x:AV),c[i]? =some x→iN n x
 | .bn es=>∀ (i:Nat) (p:AV×AV),es[i]? =some p→iN n p.1∧iN n p.2
 | .loop _ _ ts _ _ _=>Lg n ts
 | _=>True
def iN.mono{n k}(hnk:n≤k){x}(h:iN n x):iN k x:=by
 exact Jm
theorem pR.mono{n k}(hnk:n≤k){x}(h:pR n x):pR k x:=by
 cases x with
 | cells c mu tl=>exact fun i x hx=>(h i x hx).mono hnk
 | bn es=>exact fun i p hp=>⟨(h i p hp).1.mono hnk,(h i p hp).2.mono hnk⟩
 | loop a b c d e f=>
  exact Jm
 | _=>trivial
def BR.iN{P m w e k n}(h:BR P m w e k)(hd:∀b e,m b=some e→b < n):pR n k:=by
 cases k with
 | cells c mu tl=>
  obtain⟨cc,el,fz,_,_,h3,_⟩:=h;intro i x hx;obtain⟨_,v,_,hv⟩:=h3 i x hx;exact⟨m,v,hd,hv⟩
 | bn es=>
  obtain⟨_,Ss,clock,_,_,h3⟩:=h;intro i p hp;obtain⟨q,_,h1,h2⟩:=h3 i p hp;exact⟨⟨m,_,hd,h1⟩,⟨m,_,hd,h2⟩⟩
 | loop st ex ts ps asg body=>
  obtain⟨_,fn,tmps,Rh,QN,df,_,h2,_⟩:=h;exact⟨m,_,hd,h2⟩
 | _=>trivial
theorem BR.cut{P m w e k n}(h:BR P m w e k)(hc:pR n k):BR P (m.dB n) w e k:=by
 cases k with
 | cells c mu tl=>
  obtain⟨cc,el,fz,h1,h2,h3,h4⟩:=h;exact⟨cc,el,fz,h1,h2,fun i x hx=>by
   obtain⟨ho,v,hv,hr⟩:=h3 i x hx;obtain⟨ma,va,hd,ha⟩:=hc i x hx;exact⟨ho,v,hv,VR.cut hd _ _ _ ha hr⟩,h4⟩
 | dead=>trivial
 | bn es=>
  obtain⟨ho,Ss,clock,h1,h2,h3⟩:=h;exact⟨ho,Ss,clock,h1,h2,fun i p hp=>by
   obtain⟨q,hq,ha,hb⟩:=h3 i p hp;obtain⟨⟨ma,va,hd,Vl⟩,⟨mb,vb,QU,hb'⟩⟩:=hc i p hp;exact⟨q,hq,VR.cut hd _ _ _ Vl ha,VR.cut QU _ _ _ hb' hb⟩⟩
 | iter s pos=>exact h
 | loop st ex ts ps asg body=>
  obtain⟨ho,fn,tmps,Rh,QN,df,h1,h2,h3,h4⟩:=h;obtain⟨ma,va,hd,ha⟩:=hc;exact⟨ho,fn,tmps,Rh,QN,df,h1,cH.cut hd _ _ _ ha h2,h3,h4⟩
structure rP(P:Program)(l:List bJ)(T:Nat→TS)(H:Nat→ah)(m0:bY)(w0:World)(S:Nat→Bool)(β θ:Nat)(m:bY)(ta:Array Value)(w:World):Prop where
 βθ:β≤θ
 θn:θ≤l.length
 low:∀j,j < β→S j=true
 high:∀j,S j=true→j < θ
 quiet:∀j,β≤j→j < θ→∃g,H (j+1)=H j++g
 len:∀j,j < θ→(H j).length≤(H (j+1)).length
 hr:HR P m (H θ) w
 LW:∀j,j < θ→S j=false→∀b,(H j).length≤b→b < (H (j+1)).length→m b=none
 iN:∀i,β≤i→i≤θ→∀b e k,b < (H i).length→m b=some e→(H θ)[b]? =some k→pR (H i).length k
 apart:∀j,β≤j→j < θ→∀b b' e e',(H j).length≤b→b < (H (j+1)).length→¬ ((H j).length≤b'∧b' < (H (j+1)).length)→m b=some e→m b' =some e'→e.cb≠e'.cb
 grow:Grow m0 (H 0) w0 m (H θ) w
 size:ta.size= (T 0).length
 xX:∀d,(∀j o,l[j]? =some o→S j=true→o.dst≠some d)→VR m0 ((T 0).getD d aB) (ta.getD d undef)
 xW:∀d j o,l[j]? =some o→S j=true→o.dst=some d→VR (m.dB (H (j+1)).length) ((T (j+1)).getD d aB) (ta.getD d undef)
theorem uT{H:Nat→ah}{θ:Nat}(h:∀j,j < θ→(H j).length≤(H (j+1)).length){i:Nat}:∀k,i+k≤θ→(H i).length≤(H (i+k)).length
 | 0,_=>XH _
 | k+1,hk=>Yi (uT h k Om) (h (i+k) Om)
def fu{H:Nat→ah}{θ:Nat}(h:∀j,j < θ→(H j).length≤(H (j+1)).length){i j:Nat}(hij:i≤j)(hj:j≤θ): (H i).length≤(H j).length:=by
 have:=uT h (i:=i) (j - i) Om
 rwa [show i+ (j - i)=j from by omega]at this
theorem sf{H:Nat→ah}{β θ:Nat}(h:∀j,β≤j→j < θ→∃g,H (j+1)=H j++g){i:Nat}(hi:β≤i):∀k,i+k≤θ→∃g,H (i+k)=H i++g
 | 0,_=>⟨[],Si⟩
 | k+1,hk=>by
  obtain⟨g,hg⟩:=sf h hi k Om;obtain⟨g',QL⟩:=h (i+k) Om Om;exact⟨g++g',by rw[show i+ (k+1)=i+k+1 from by omega,QL,hg,Xt]⟩
def mF{H:Nat→ah}{β θ:Nat}(h:∀j,β≤j→j < θ→∃g,H (j+1)=H j++g){i j:Nat}(hi:β≤i)(hij:i≤j)(hj:j≤θ):∃g,H j=H i++g:=by
 have:=sf h hi (j - i) Om
 rwa [show i+ (j - i)=j from by omega]at this
theorem vj{H:Nat→ah}{i:Nat}:∀ (k:Nat) {b:Nat},(H i).length≤b→b < (H (i+k)).length→∃j,i≤j∧j < i+k∧(H j).length≤b∧b < (H (j+1)).length
 | 0,b,h1,h2=>by simp at h2;omega
 | k+1,b,h1,h2=>by
  by_cases h:b < (H (i+k)).length
  ·obtain⟨j,a1,a2,a3⟩:=vj k h1 h;exact⟨j,a1,Om,a3⟩
  ·exact⟨i+k,Om,Om,Om,by rw[show i+k+1=i+ (k+1)from by omega];exact h2⟩
section
variable {P:Program} {m m1:bY} {h:ah} {w:World}
def bY.eV(m:bY)(n:Nat): (m.dB n).le m:=by
 intro b e hb;unfold bY.dB at hb;split at hb
 ·exact hb
 ·cases hb
def bY.yQ(m:bY){n k}(hnk:n≤k): (m.dB n).le (m.dB k):=by
 intro b e hb;unfold bY.dB at hb ⊢;split at hb
 ·rw[XI Om];exact hb
 ·cases hb
theorem HR.dB{g}(hr:HR P m (h++g) w)(hgl:P.globals.size≤h.length)(hc:∀b e k,b < h.length→m b=some e→h[b]? =some k→pR h.length k):HR P (m.dB h.length) h w where
 cI:=fun b e hb=>by unfold bY.dB at hb;split at hb<;>first| assumption| cases hb
 dN:=fun b e k hb hk=>by
  unfold bY.dB at hb;split at hb
  case isFalse=>cases hb
  rename_i hlt;exact(hr.dN b e k hb (by rw[Xv hlt];exact hk)).cut (hc b e k hlt hb hk)
 sep:=fun b1 b2 e1 e2 k1 k2 hne h1 h2 hk1 Qq hcb=>by
  have d1:b1 < h.length:=(Xr.1 hk1).1;have d2:b2 < h.length:=(Xr.1 Qq).1;exact hr.sep b1 b2 e1 e2 k1 k2 hne (bY.eV m _ _ _ h1) (bY.eV m _ _ _ h2) (by rw[Xv d1];exact hk1) (by rw[Xv d2];exact Qq) hcb
 fN:=fun g hg=>by
  obtain⟨e,he,hx⟩:=hr.fN g hg;exact⟨e,by unfold bY.dB;rw[XI Om];exact he,hx⟩
 lt:=fun b e hb=>hr.lt b e (bY.eV m _ _ _ hb)
def HR.FB(hr:HR P m h w):P.globals.size≤h.length:=by
 by_cases hz:P.globals.size=0
 ·omega
 ·obtain⟨e,he,_⟩:=hr.fN (P.globals.size - 1) Om;have:=hr.cI _ _ he;omega
variable {l:List bJ} {T:Nat→TS} {H:Nat→ah} {m0:bY} {w0:World} {S:Nat→Bool} {β θ:Nat} {ta:Array Value}
def rP.raise(M:rP P l T H m0 w0 S β θ m ta w){θ':Nat}(h1:θ≤θ')(h2:θ'≤l.length)(hq:∀j,θ≤j→j < θ'→∃g,H (j+1)=H j++g):rP P l T H m0 w0 S β θ' m ta w:=by
 have VG:∀j,β≤j→j < θ'→∃g,H (j+1)=H j++g:=fun j hj Ve=>by
  by_cases hx:j < θ
  ·exact M.quiet j hj hx
  ·exact hq j Om Ve
 have hlen:∀j,j < θ'→(H j).length≤(H (j+1)).length:=fun j hj=>by
  by_cases hx:j < θ
  ·exact M.len j hx
  ·obtain⟨g,hg⟩:=hq j Om hj;rw[hg];simp
 obtain⟨g,hg⟩:=mF VG M.βθ h1 (XH _);have Qw:∀b,b < (H θ).length→(H θ')[b]? = (H θ)[b]? :=fun b hb=>by rw[hg,Xv hb]
 have hdom:∀b e,m b=some e→b < (H θ).length:=M.hr.cI;refine⟨Yi M.βθ h1,h2,M.low,fun j hj=>Ym (M.high j hj) h1,VG,hlen,⟨?_,?_,?_,M.hr.fN,M.hr.lt⟩,?_,?_,?_,⟨M.grow.ext,fu hlen (X3 _) (XH _),?_,?_,M.grow.size,M.grow.os,M.grow.out,M.grow.tape,M.grow.frame⟩,M.size,M.xX,M.xW⟩
 ·intro b e hb;have:=hdom b e hb;rw[hg];simp;omega
 ·intro b e k hb hk;exact M.hr.dN b e k hb (by rwa [Qw b (hdom b e hb)]at hk)
 ·intro b1 b2 e1 e2 k1 k2 hne a1 a2 hk1 Qq hcb;exact M.hr.sep b1 b2 e1 e2 k1 k2 hne a1 a2 (by rwa [Qw b1 (hdom _ _ a1)]at hk1) (by rwa [Qw b2 (hdom _ _ a2)]at Qq) hcb
 ·intro j hj hs b hb hb';by_cases hx:j < θ
  ·exact M.LW j hx hs b hb hb'
  ·cases Rm:m b with
   | none=>rfl
   | some e=>
    exact z130
 ·intro i hi hi' b e k hb Rm hk;rw[Qw b (hdom b e Rm)]at hk;by_cases hx:i≤θ
  ·exact M.iN i hi hx b e k hb Rm hk
  ·have a2:=fu hlen (i:=θ) (j:=i) Om Om;exact(M.iN θ M.βθ (XH _) b e k (hdom b e Rm) Rm hk).mono a2
 ·intro j hj Ve b b' e e' hb QS hb' Rm Uc;by_cases hx:j < θ
  ·exact M.apart j hj hx b b' e e' hb QS hb' Rm Uc
  ·exact z130
 ·intro b e hb Rm;obtain⟨ho,hc⟩:=M.grow.new b e hb Rm;refine⟨ho,hc.imp id ?_⟩;rintro⟨b0,e0,c1,c2,c3,c4,c5⟩;refine⟨b0,e0,c1,c2,c3,c4,?_⟩;have d0:b0 < (H θ).length:=by
   cases hx:m0 b0 with
   | none=>rw[hx]at c1;cases c1
   | some e0'=>
    have:b0 < (H 0).length:=by
     cases ht: (H 0)[b0]? with
     | none=>unfold dY at c4;rw[ht]at c4;cases c4
     | some k=>exact(Xr.1 ht).1
    exact Ym this (fu hlen (X3 _) h1)
  unfold dY at c5 ⊢;rw[Qw b0 d0];exact c5
 ·intro b hb ht;refine M.grow.tl b hb ?_;unfold dY at ht ⊢
  rwa [Qw b (Ym hb (fu hlen (X3 _) h1))]at ht
end
def gD(ta:Array Value)(d:Option Nat)(cv:Value):Array Value:=
 match d with
 | some d=>ta.setIfInBounds d cv
 | none=>ta
def eP(ta:Array Value)(d:Option Nat)(cv:Value): (gD ta d cv).size=ta.size:=by cases d<;>simp[gD]
def dy{ta d cv t}(h:d≠some t): (gD ta d cv).getD t undef=ta.getD t undef:=by
 cases d with
 | none=>rfl
 | some d=>
  have hne:d≠t:=fun x=>h (by rw[x])
  simp[gD,Yh,Zb hne]
def wM{ts d v t}(h:d≠some t): (put ts d v).getD t aB=ts.getD t aB:=by
 cases d with
 | none=>rfl
 | some d=>
  have hne:d≠t:=fun x=>h (by rw[x])
  simp[put,List.getD,XK hne]
def kW{m ts ta d v cv}(hs:ta.size=ts.length)(hv:VR m v cv):VR m ((put ts (some d) v).getD d aB) ((gD ta (some d) cv).getD d undef):=by
 by_cases h:d < ts.length
 ·have h':d < ta.size:=Om
  simp only[put,gD,List.getD,Yh];rw[XL h,YJ h'];exact hv
 ·have h':¬d < ta.size:=Om
  simp only[put,gD,List.getD,Yh];rw[Zt (by simp;omega),YW (by simp;omega)];exact jG m
def mark(S:Nat→Bool)(i:Nat):Nat→Bool:=fun j=>if j=i then true else S j
section
variable {P:Program} {l:List bJ} {T:Nat→TS} {H:Nat→ah} {m0 m m1:bY} {w0 w w1:World} {S:Nat→Bool} {β θ i:Nat} {ta:Array Value}
def rP.cut(M:rP P l T H m0 w0 S β θ m ta w)(hG:P.globals.size≤(H 0).length)(hi:β≤i)(hi':i≤θ):HR P (m.dB (H i).length) (H i) w:=by
 obtain⟨g,hg⟩:=mF M.quiet hi hi' (XH _);have hr:HR P m (H i++g) w:=by rw[←hg];exact M.hr
 refine hr.dB (Yi hG (fu M.len (X3 _) hi')) ?_;intro b e k hb Rm hk;exact M.iN i hi hi' b e k hb Rm (by rw[hg,Xv hb];exact hk)
def rP.Fs(M:rP P l T H m0 w0 S β θ m ta w)(hG:P.globals.size≤(H 0).length)(hi:β≤i)(hi':i < θ)(hS:S i=false){io}(hio:l[i]? =some io)
  (hr1:HR P m1 (H (i+1)) w1) (gext:∀b,b < (H i).length→m1 b= (m.dB (H i).length) b) (hnew0:∀b e,(H i).length≤b→m1 b=some e→e.own=true∧w0.heap.size≤e.cb∧∀b' e',m b' =some e'→e'.cb≠e.cb)
  (hfr:∀x,x < w.heap.size→(∀b e,(m.dB (H i).length) b=some e→e.own=true→e.cb≠x)→(∀b e,(H i).length≤b→m1 b=some e→e.cb≠x)→w1.heap[x]? =w.heap[x]?)
  (dX:w.heap.size≤w1.heap.size) (hos:w1.os=w.os) (hout:w1.output=w.output) (htape:w1.tape=w.tape) {v} {cv} (hv:VR m1 v cv) (hTi:T (i+1)=put (T i) io.dst v) (hTl: (T i).length= (T 0).length)
  (huniq:∀j o d,j≠i→l[j]? =some o→o.dst=some d→io.dst≠some d):rP P l T H m0 w0 (mark S i) β θ (m1.patch m (H (i+1)).length) (gD ta io.dst cv) w1:=by
 have RQ:∀a b,a≤b→b≤θ→(H a).length≤(H b).length:=fun a b hab hb=>fu M.len hab hb
 have hi1:=M.len i hi';have hi2:=RQ (i+1) θ Om (XH _);have h0i:=RQ 0 i Om Om;obtain⟨gi,hgi⟩:=M.quiet i hi hi';obtain⟨gt,Ty⟩:=mF M.quiet (show β≤i+1 by omega) (show i+1≤θ by omega) (XH _);have f3:∀b,b < (H (i+1)).length→(m1.patch m (H (i+1)).length) b=m1 b:=fun b hb=>by unfold bY.patch;rw[XI hb]
 have f1:∀b,b < (H i).length→(m1.patch m (H (i+1)).length) b=m b:=fun b hb=>by
  rw[f3 b Om,gext b hb];unfold bY.dB;rw[XI hb]
 have f2:∀b,(H (i+1)).length≤b→(m1.patch m (H (i+1)).length) b=m b:=fun b hb=>by unfold bY.patch;rw[XG Om]
 have fgap:∀b,(H i).length≤b→b < (H (i+1)).length→m b=none:=M.LW i hi' hS;have SN:m.le (m1.patch m (H (i+1)).length):=fun b e hb=>by
  by_cases h1:b < (H i).length
  ·rw[f1 b h1];exact hb
  ·by_cases h2:b < (H (i+1)).length
   ·rw[fgap b Om h2]at hb;cases hb
   ·rw[f2 b Om];exact hb
 have m1le:m1.le (m1.patch m (H (i+1)).length):=fun b e hb=>by rw[f3 b (hr1.cI b e hb)];exact hb
 have hnew:∀b e,(H i).length≤b→b < (H (i+1)).length→(m1.patch m (H (i+1)).length) b=some e→e.own=true∧w0.heap.size≤e.cb∧∀b' e',m b' =some e'→e'.cb≠e.cb:=fun b e hb hb' hm=>by
  rw[f3 b hb']at hm;exact hnew0 b e hb hm
 have hold:∀b e,m b=some e→e.cb < w.heap.size:=M.hr.lt;have hframe:∀b e,(H (i+1)).length≤b→m b=some e→w1.heap[e.cb]? =w.heap[e.cb]? :=fun b e hb hm=>by
  refine hfr e.cb (hold b e hm) ?_ (fun b0 e0 h0 h1 hcb=>(hnew0 b0 e0 h0 h1).2.2 b e hm hcb.symm);intro b0 e0 h0 ho hcb;have d0:b0 < (H i).length:=by
   unfold bY.dB at h0;split at h0
   ·assumption
   ·cases h0
  obtain⟨j,j1,j2,j3,j4⟩:=vj (H:=H) (i:=i+1) (θ - (i+1)) hb (by rw[show i+1+ (θ - (i+1))=θ from by omega];exact M.hr.cI b e hm);have hj:=RQ i j Om Om;exact M.apart j Om Om b b0 e e0 j3 j4 (fun x=>by omega) hm (bY.eV m _ _ _ h0) hcb.symm
 have Qw:∀b,b < (H (i+1)).length→(H θ)[b]? = (H (i+1))[b]? :=fun b hb=>by rw[Ty,Xv hb]
 have QB:∀b e,(m1.patch m (H (i+1)).length) b=some e→((H i).length≤b∧b < (H (i+1)).length∧m1 b=some e)∨(¬ ((H i).length≤b∧b < (H (i+1)).length)∧m b=some e):=fun b e hb=>by
  by_cases h1:b < (H i).length
  ·rw[f1 b h1]at hb;exact .inr ⟨Om,hb⟩
  ·by_cases h2:b < (H (i+1)).length
   ·rw[f3 b h2]at hb;exact .inl ⟨Om,h2,hb⟩
   ·rw[f2 b Om]at hb;exact .inr ⟨Om,hb⟩
 have hHR:HR P (m1.patch m (H (i+1)).length) (H θ) w1:=by
  refine⟨?_,?_,?_,?_,?_⟩
  ·intro b e hb;rcases QB b e hb with⟨_,h2,_⟩| ⟨_,h2⟩
   ·omega
   ·exact M.hr.cI b e h2
  ·intro b e k hb hk;by_cases h2:b < (H (i+1)).length
   ·rw[f3 b h2]at hb;exact(hr1.dN b e k hb (by rwa [Qw b h2]at hk)).mono m1le
   ·rw[f2 b Om]at hb;exact((M.hr.dN b e k hb hk).mono SN).heap (hframe b e Om hb)
  ·intro b1 b2 e1 e2 k1 k2 hne QS Q4 hk1 Qq hcb;rcases QB b1 e1 QS with⟨a1,a2,a3⟩| ⟨a1,a2⟩
   ·rcases QB b2 e2 Q4 with⟨c1,c2,c3⟩| ⟨c1,c2⟩
    ·exact hr1.sep b1 b2 e1 e2 k1 k2 hne a3 c3 (by rwa [Qw b1 a2]at hk1) (by rwa [Qw b2 c2]at Qq) hcb
    ·exact absurd hcb.symm ((hnew b1 e1 a1 a2 QS).2.2 b2 e2 c2)
   ·rcases QB b2 e2 Q4 with⟨c1,c2,c3⟩| ⟨c1,c2⟩
    ·exact absurd hcb ((hnew b2 e2 c1 c2 Q4).2.2 b1 e1 a2)
    ·exact M.hr.sep b1 b2 e1 e2 k1 k2 hne a2 c2 hk1 Qq hcb
  ·intro g hg;obtain⟨e,he,hx⟩:=M.hr.fN g hg;exact⟨e,SN _ _ he,hx⟩
  ·intro b e hb;rcases QB b e hb with⟨_,_,h3⟩| ⟨_,h2⟩
   ·exact hr1.lt b e h3
   ·exact Ym (hold b e h2) dX
 refine⟨M.βθ,M.θn,?_,?_,M.quiet,M.len,hHR,?_,?_,?_,?_,by rw[eP];exact M.size,?_,?_⟩
 ·intro j hj;unfold mark;split
  ·rfl
  ·exact M.low j hj
 ·intro j hj;unfold mark at hj;split at hj
  ·omega
  ·exact M.high j hj
 ·intro j hj hs b hb hb';unfold mark at hs;split at hs
  ·cases hs
  rename_i hji;by_cases h1:b < (H i).length
  ·rw[f1 b h1];exact M.LW j hj hs b hb hb'
  ·by_cases h2:b < (H (i+1)).length
   ·exact Js
   ·rw[f2 b Om];exact M.LW j hj hs b hb hb'
 ·intro i2 hi2' VO b e k hb Rm hk;rcases QB b e Rm with⟨a1,a2,a3⟩| ⟨_,a2⟩
  ·have hk': (H (i+1))[b]? =some k:=by rwa [Qw b a2]at hk
   refine((hr1.dN b e k a3 hk').iN hr1.cI).mono ?_;by_cases hlt:i2 < i+1
   ·have:=RQ i2 i Om Om;omega
   ·exact RQ (i+1) i2 Om VO
  ·exact M.iN i2 hi2' VO b e k hb a2 hk
 ·intro j hj Ve b b' e e' hb QS hb' Rm Uc;rcases QB b e Rm with⟨a1,a2,a3⟩| ⟨a1,a2⟩
  ·rcases QB b' e' Uc with⟨c1,c2,c3⟩| ⟨c1,c2⟩
   ·exfalso;by_cases hji:j=i
    ·subst hji;exact hb' ⟨c1,c2⟩
    ·exact Js
   ·exact fun hcb=>(hnew b e a1 a2 Rm).2.2 b' e' c2 hcb.symm
  ·rcases QB b' e' Uc with⟨c1,c2,c3⟩| ⟨c1,c2⟩
   ·exact(hnew b' e' c1 c2 Uc).2.2 b e a2
   ·exact M.apart j hj Ve b b' e e' hb QS hb' a2 c2
 ·refine⟨fun b hb=>(f1 b Om).trans (M.grow.ext b hb),M.grow.len,?_,M.grow.tl,Yi M.grow.size dX,hos.trans M.grow.os,hout.trans M.grow.out,htape.trans M.grow.tape,?_⟩
  ·intro b e hb Rm;rcases QB b e Rm with⟨a1,a2,_⟩| ⟨_,a2⟩
   ·obtain⟨ho,hc⟩:=hnew b e a1 a2 Rm;exact⟨ho,.inl hc.1⟩
   ·exact M.grow.new b e hb a2
  ·intro x hx hno;refine(hfr x (Ym hx M.grow.size) ?_ (fun b e hb hm hcb=>by have:=(hnew0 b e hb hm).2.1;omega)).trans (M.grow.frame x hx hno);intro b e hb ho hcb;have Rm:=bY.eV m _ _ _ hb;by_cases h1:b < (H 0).length
   ·exact hno b e (by rw[←M.grow.ext b h1];exact Rm) ho hcb
   ·obtain⟨_,hc⟩:=M.grow.new b e Om Rm;rcases hc with hc| ⟨b0,e0,c1,c2,c3,_⟩
    ·omega
    ·exact hno b0 e0 c1 c3 (c2.trans hcb)
 ·intro d hd;exact z93
 ·intro d j o hj hs ho;by_cases hji:j=i
  ·subst hji;rw[hio]at hj;cases hj;rw[hTi,ho];have h1:m1.le ((m1.patch m (H (j+1)).length).dB (H (j+1)).length):=fun b e hb=>by
    have:=hr1.cI b e hb;unfold bY.dB;rw[XI this,f3 b this];exact hb
   exact IG
  ·exact z51
def rP.next(M:rP P l T H m0 w0 S β θ m ta w)(hG:P.globals.size≤(H 0).length)(hi:β≤i)(hi':i < θ)(hS:S i=false){io}(hio:l[i]? =some io)
  (hr1:HR P m1 (H (i+1)) w1) (g1:Grow (m.dB (H i).length) (H i) w m1 (H (i+1)) w1) {v} {cv} (hv:VR m1 v cv) (hTi:T (i+1)=put (T i) io.dst v) (hTl: (T i).length= (T 0).length)
  (huniq:∀j o d,j≠i→l[j]? =some o→o.dst=some d→io.dst≠some d):rP P l T H m0 w0 (mark S i) β θ (m1.patch m (H (i+1)).length) (gD ta io.dst cv) w1:=by
 obtain⟨gi,hgi⟩:=M.quiet i hi hi';refine M.Fs hG hi hi' hS hio hr1 g1.ext (fun b e hb hm=>?_) (fun x hx h1 _=>g1.frame x hx h1) g1.size g1.os g1.out g1.tape hv hTi hTl huniq;obtain⟨ho,hc⟩:=g1.new b e hb hm;have RI:w.heap.size≤e.cb:=by
  rcases hc with hc| ⟨b0,e0,c1,_,_,c4,c5⟩
  ·exact hc
  ·have d0:b0 < (H i).length:=by
    unfold bY.dB at c1;split at c1
    ·assumption
    ·cases c1
   unfold dY at c4 c5;rw[hgi,Xv d0]at c5;rw[c5]at c4;cases c4
 exact⟨ho,Yi M.grow.size RI,fun b' e' hb'=>by have:=M.hr.lt b' e' hb';omega⟩
def rP.jump(M:rP P l T H m0 w0 S β i m ta w)(hd0:∀b e,m0 b=some e→b < (H 0).length)(hall:∀j,j < i→S j=true)(hil:i < l.length){io}(hio:l[i]? =some io)
  (hr1:HR P m1 (H (i+1)) w1) (g1:Grow (m.dB (H i).length) (H i) w m1 (H (i+1)) w1) {v} {cv} (hv:VR m1 v cv) (hTi:T (i+1)=put (T i) io.dst v) (hTl: (T i).length= (T 0).length)
  (huniq:∀j o d,j≠i→l[j]? =some o→o.dst=some d→io.dst≠some d):rP P l T H m0 w0 (mark S i) (i+1) (i+1) m1 (gD ta io.dst cv) w1:=by
 have hm:m.dB (H i).length=m:=by
  funext b;unfold bY.dB;split
  ·rfl
  ·cases hb:m b with
   | none=>rfl
   | some e=>exact absurd (M.hr.cI b e hb) (by assumption)
 rw[hm]at g1;have SN:m.le m1:=g1.le M.hr.cI;refine⟨XH _,hil,?_,?_,fun j hj Ve=>absurd hj Om,?_,hr1,?_,?_,fun j hj Ve=>absurd hj Om,M.grow.trans g1 hd0,by rw[eP];exact M.size,?_,?_⟩
 ·intro j hj;unfold mark;split
  ·rfl
  ·exact hall j Om
 ·intro j hj;unfold mark at hj;split at hj
  ·omega
  ·have:=M.high j hj;omega
 ·intro j hj;by_cases hji:j=i
  ·subst hji;exact g1.len
  ·exact M.len j Om
 ·intro j hj hs;unfold mark at hs;split at hs
  ·cases hs
  ·rw[hall j Om]at hs;cases hs
 ·intro i2 hi2 hi2' b e k hb Rm hk;have:i2=i+1:=Om
  subst this;exact(hr1.dN b e k Rm hk).iN hr1.cI
 ·intro d hd;exact z93
 ·intro d j o hj hs ho;by_cases hji:j=i
  ·subst hji;rw[hio]at hj;cases hj;rw[hTi,ho];have h1:m1.le (m1.dB (H (j+1)).length):=fun b e hb=>by
    have:=hr1.cI b e hb;unfold bY.dB;rw[XI this];exact hb
   exact IG
  ·exact z51
end
section
variable {P:Program} {m m':bY} {h g h':ah} {w w' w0:World}
theorem qA:∀ (l c pre:List AV),c.length=l.length→fB (pre++c) pre.length l=pre++l
 | [],c,pre,h=>by
  exact ID
 | x::l,[],pre,h=>by simp at h
 | x::l,y::c,pre,h=>by
  have e1: (pre++y::c).set pre.length x= (pre++ [x])++c:=by
   exact z146
  have e2:pre.length+1= (pre++ [x]).length:=Si
  show fB ((pre++y::c).set pre.length x) (pre.length+1) l=_;rw[e1,e2,qA l c (pre++ [x]) (by simpa using h),Xt];rfl
def Grow.forget(gr:Grow m h w m' (h++g) w'):Grow m h w (m'.dB h.length) h w' where
 ext:=fun b hb=>by unfold bY.dB;rw[XI hb];exact gr.ext b hb
 len:=XH _
 new:=fun b e hb he=>by unfold bY.dB at he;rw[XG Om]at he;cases he
 tl:=fun b hb ht=>ht
 size:=gr.size
 os:=gr.os
 out:=gr.out
 tape:=gr.tape
 frame:=gr.frame
def HR.forget(hr:HR P m h w)(hr':HR P m' (h++g) w')(gr:Grow m h w m' (h++g) w'):HR P (m'.dB h.length) h w':=
 hr'.dB hr.FB fun b e k hb Rm hk=>(hr.dN b e k (by rw[←gr.ext b hb];exact Rm) hk).iN hr.cI
def HR.Lv(hr:HR P m h w){cb cc}{el:TypeId}{fz}(hb:w.heap[cb]? =some (.cells cc el fz))(hfz:∀i,i < cc.size→¬ (fz.1≤i∧i < fz.2))(hout:∀b e,m b=some e→e.cb≠cb)
  {c} {d} (hc:d+c.length=cc.size) (hv:∀ (i:Nat) (x:AV),c[i]? =some x→x.one=true∧∃v,cc[d+i]? =some v∧VR m x v):HR P (m.add h.length ⟨cb,d,cc.size,true⟩) (h++ [.cells c true false]) w:=by
 have Rl:m h.length=none:=by
  exact z53
 have hle:m.le (m.add h.length ⟨cb,d,cc.size,true⟩):=bY.rp _ Rl;have QB:∀b e,(m.add h.length ⟨cb,d,cc.size,true⟩) b=some e→(b=h.length∧e= ⟨cb,d,cc.size,true⟩)∨(b < h.length∧m b=some e):=fun b e RJ=>by
  exact Pf
 refine⟨fun b e RJ=>?_,fun b e k RJ hk=>?_,fun b1 b2 e1 e2 k1 k2 hne h1 h2 hk1 Qq hcb=>?_,fun g hg=>?_,fun b e RJ=>?_⟩
 ·rw[Xs];rcases QB b e RJ with⟨rfl,_⟩| ⟨hlt,_⟩
  ·simp
  ·simp;omega
 ·rcases QB b e RJ with⟨rfl,rfl⟩| ⟨hlt,hm⟩
  ·rw[XE (XH _),Yy]at hk;cases hk;refine⟨cc,el,fz,hb,⟨by show d+_≤_;omega,by show d+_≤cc.size;omega,rfl⟩,fun i x hx=>?_,fun _=>⟨rfl,hfz⟩,fun _=>⟨rfl,fun _=>by show cc.size=d+c.length;omega⟩⟩;obtain⟨ho,v,h1,h2⟩:=hv i x hx;exact⟨ho,v,h1,VR.mono hle _ _ h2⟩
  ·rw[Xv hlt]at hk;exact(hr.dN b e k hm hk).mono hle
 ·exact Px
 ·obtain⟨e,he,hx⟩:=hr.fN g hg;exact⟨e,hle _ _ he,hx⟩
 ·rcases QB b e RJ with⟨_,rfl⟩| ⟨_,hm⟩
  ·exact(XM.1 hb).1
  ·exact hr.lt b e hm
def BY{x}(h:w7 x=true):x.one=true:=by cases x<;>first| rfl| cases h
def D5{x v}(h:w7 x=true)(hv:VR m x v)(m':bY):VR m' x v:=by
 cases x<;>first| exact hv| cases h
def kh(m:bY)(w0 w:World)(zc:List AV)(cv:Value):Prop:=
 ∃ (cb d:Nat) (cc:Array Value) (el:TypeId) (fz:Nat×Nat),cv= .pointer (some ⟨cb,d,none⟩)∧w.heap[cb]? =some (.cells cc el fz)∧d+zc.length=cc.size∧(∀i,i < cc.size→¬ (fz.1≤i∧i < fz.2))∧
  (∀ (i:Nat) (x:AV),zc[i]? =some x→x.one=true∧∃v,cc[d+i]? =some v∧∀m:bY,VR m x v)∧w0.heap.size≤cb∧∀b e,m b=some e→e.cb≠cb
def kh.move{zc cv}(p:kh m w0 w zc cv)(hh:∀cb d,cv= .pointer (some ⟨cb,d,none⟩)→cb < w.heap.size→(∀b e,m b=some e→e.cb≠cb)→w'.heap[cb]? =w.heap[cb]?)
  (hm:∀cb d,cv= .pointer (some ⟨cb,d,none⟩)→cb < w.heap.size→(∀b e,m b=some e→e.cb≠cb)→∀b e,m' b=some e→e.cb≠cb):kh m' w0 w' zc cv:=by
 obtain⟨cb,d,cc,el,fz,h1,h2,h3,h4,h5,h6,h7⟩:=p;have hlt:cb < w.heap.size:=(XM.1 h2).1;exact⟨cb,d,cc,el,fz,h1,by rw[hh cb d h1 hlt h7];exact h2,h3,h4,h5,h6,hm cb d h1 hlt h7⟩
def kh.grow{zc cv}(p:kh m w0 w zc cv)(gr:Grow (m.dB h.length) h w m' h' w'):kh m' w0 w' zc cv∧kh (m'.patch m h'.length) w0 w' zc cv:=by
 have hh:∀cb d,cv= .pointer (some ⟨cb,d,none⟩)→cb < w.heap.size→(∀b e,m b=some e→e.cb≠cb)→w'.heap[cb]? =w.heap[cb]? :=fun cb d _ hlt h7=>gr.frame cb hlt fun b e he _=>h7 b e (bY.eV _ _ _ _ he)
 have hnew:∀cb,cb < w.heap.size→(∀b e,m b=some e→e.cb≠cb)→∀b e,m' b=some e→e.cb≠cb:=fun cb hlt h7 b e he=>by
  by_cases hb:b < h.length
  ·rw[gr.ext b hb]at he;exact h7 b e (bY.eV _ _ _ _ he)
  ·obtain⟨_,hc⟩:=gr.new b e Om he;rcases hc with hc| ⟨b0,e0,c1,c2,_⟩
   ·omega
   ·rw[←c2];exact h7 b0 e0 (bY.eV _ _ _ _ c1)
 refine⟨p.move hh fun cb d _ hlt h7=>hnew cb hlt h7,p.move hh fun cb d _ hlt h7 b e he=>?_⟩;unfold bY.patch at he;split at he
 ·exact hnew cb hlt h7 b e he
 ·exact h7 b e he
end
structure cA(ops:Array Oper)(l:List bJ)(k s t:Nat)(z:AV)(n:Nat)(x:cW):Prop where
 ks:k < s
 hk:l[k]? =some { dst:=some t,k:=.box (.c z),gd:=none,q:=true }
 hs:l[s]? =some { dst:=none,k:=.store n (.t t) x,gd:=none,q:=true }
 zn:z.cells.length=n
 zc:z.cells.all w7=true
 xt:∀u,x= .t u→u≠t∧fj ops s u=true
 lt:fj ops s t=true
 only:∀j,j < ops.size→j≠s→fj ops j t=false
def nh{o n t x}(h:lC o=some (n,t,x)):o={ dst:=none,k:=.store n (.t t) x,gd:=none,q:=true }:=by
 obtain⟨d,k,gd,q⟩:=o;unfold lC at h;exact Jq
def xA{o t z}(h:sV o=some (t,z)):o={ dst:=some t,k:=.box (.c z),gd:=none,q:=true }:=by
 obtain⟨d,k,gd,q⟩:=o;unfold sV at h;exact Jq
def pB{ops l k s}(hks:k < s)(h:oP ops l k s=true):∃t z n x,cA ops l k s t z n x:=by
 unfold oP at h;split at h
 case h_2=>cases h
 rename_i t z n t' x h1 h2;obtain⟨a,ha,hb⟩:=Yx.1 h1;obtain⟨b,QS,Q4⟩:=Yx.1 h2;have e1:=xA hb;have e2:=nh Q4;subst e1;subst e2;simp only[X4,beq_iff_eq,X5,YE,Zg,YN]at h;obtain⟨⟨⟨⟨⟨rfl,q2⟩,q3⟩,q4⟩,q5⟩,q6⟩:=h;refine⟨t,z,n,x,hks,ha,QS,q2,X5.2 q3,fun u hu=>?_,q5,fun j hj hne=>(q6 j hj).resolve_left hne⟩;subst hu;simp only[X4,bne_iff_ne,ne_eq]at q4;exact q4
def cA.ok{ops l k s t z n x}(p:cA ops l k s t z n x):oP ops l k s=true:=by
 unfold oP;rw[p.hk,p.hs];simp only[Option.bind_some,sV,lC,X4,beq_iff_eq,X5,YE,Zg,YN];refine⟨⟨⟨⟨⟨trivial,p.zn⟩,X5.1 p.zc⟩,?_⟩,p.lt⟩,fun j hj=>?_⟩
 ·cases x with
  | t u=>simp only[X4,bne_iff_ne,ne_eq];exact p.xt u rfl
  | _=>rfl
 ·by_cases hne:j=s
  ·exact .inl hne
  ·exact .inr (p.only j hj hne)
def GL:bJ:={ dst:=none,k:=.aI (.c (.bool false)),gd:=none,q:=true }
theorem vt{ops l}:∀{r} {i j},(pL ops l i r)[j]? = (r[j]?).map (sO ops l (i+j))
 | [],i,j=>by simp[pL]
 | o::r,i,0=>by simp[pL]
 | o::r,i,j+1=>by
  show(pL ops l (i+1) r)[j]? =_;rw[vt,show i+1+j=i+ (j+1) by omega];simp
theorem vq{ops l}:∀{r} {i},(pL ops l i r).length=r.length
 | [],_=>rfl
 | o::r,i=>by simp[pL,vq]
def wU{ops l}(hl:l.length=ops.size){j o}(ho:l[j]? =some o):
  (∃k t z n x,cA ops l k j t z n x∧sO ops l j o={ dst:=some t,k:=.mQ n x,gd:=none,q:=true })∨
  (∃s t z n x,cA ops l j s t z n x∧sO ops l j o=GL)∨
  (sO ops l j o=o∧(∀k t z n x,¬cA ops l k j t z n x)∧(∀s t z n x,¬cA ops l j s t z n x)):=by
 unfold sO;split
 ·rename_i n t x bS;have e1:=nh bS;have QD:∀s t z n x,¬cA ops l j s t z n x:=fun s t' z n' x' p=>by
   have:=p.hk;rw[ho,e1]at this;cases this
  split
  ·rename_i k hk;unfold NK at hk;have h1:=Z0 hk;have h2:=YE.1 (List.mem_of_find?_eq_some hk);obtain⟨t',z,n',x',p⟩:=pB h2 h1;have:=p.hs;rw[ho,e1]at this;cases this;exact .inl ⟨k,_,z,_,_,p,rfl⟩
  ·rename_i hk;refine .inr (.inr ⟨rfl,fun k t' z n' x' p=>?_,QD⟩);unfold NK at hk;exact List.find?_eq_none.1 hk k (YE.2 p.ks) p.ok
 ·rename_i bS;have hns:∀k t z n x,¬cA ops l k j t z n x:=fun k t' z n' x' p=>by
   have:=p.hs;rw[ho]at this;cases this;simp[lC]at bS
  split
  ·rename_i y Qm;split
   ·rename_i s hs;unfold MJ at hs;have h1:=Z0 hs;simp only[X4,Yg]at h1;obtain⟨t',z,n',x',p⟩:=pB h1.1 h1.2;exact .inr (.inl ⟨s,t',z,n',x',p,rfl⟩)
   ·rename_i hs;refine .inr (.inr ⟨rfl,hns,fun s t' z n' x' p=>?_⟩);unfold MJ at hs;refine List.find?_eq_none.1 hs s (YE.2 ((Xr.1 p.hs).1)) ?_;simp only[X4,Yg];exact⟨p.ks,p.ok⟩
  ·rename_i Qm;refine .inr (.inr ⟨rfl,hns,fun s t' z n' x' p=>?_⟩);have:=p.hk;rw[ho]at this;cases this;simp[sV]at Qm
def pe(v v':Value):Prop:=∀cb d Ux d',v= .pointer (some ⟨cb,d,none⟩)→v' = .pointer (some ⟨Ux,d',none⟩)→cb≠Ux
theorem pe.symm{v v'}(h:pe v v'):pe v' v:=fun cb d Ux d' h1 h2 e=>h Ux d' cb d h2 h1 e.symm
structure pk(ops:Array Oper)(l:List bJ)(w0:World)(S:Nat→Bool)(ta tmps:Array Value)(m:bY)(w:World):Prop where
 size:tmps.size=ta.size
 ag:∀d,(∀k s z n x,cA ops l k s d z n x→S k=true→S s=false→False)→tmps.getD d undef=ta.getD d undef
 pd:∀k s t z n x,cA ops l k s t z n x→S k=true→S s=false→kh m w0 w z.cells (tmps.getD t undef)
 dj:∀k s t z n x k' s' t' z' n' x',cA ops l k s t z n x→cA ops l k' s' t' z' n' x'→S k=true→S s=false→S k' =true→S s' =false→t≠t'→pe (tmps.getD t undef) (tmps.getD t' undef)
section
variable {ops:Array Oper} {l:List bJ} {w0 w w':World} {S:Nat→Bool} {ta tmps:Array Value} {m m':bY}
def iT{ta d cv}(h:d < ta.size): (gD ta (some d) cv).getD d undef=cv:=by
 simp only[gD,Yh];rw[YJ h];rfl
def wO{d cv t}(hs:tmps.size=ta.size)(h:tmps.getD t undef=ta.getD t undef): (gD tmps d cv).getD t undef= (gD ta d cv).getD t undef:=by
 by_cases hd:d=some t
 ·subst hd;by_cases ht:t < ta.size
  ·rw[iT ht,iT Om]
  ·simp only[gD,Yh];rw[YW (by simp;omega),YW (by simp;omega)]
 ·rw[dy hd,dy hd];exact h
def pk.other(I:pk ops l w0 S ta tmps m w){i d cv}(h1:∀k t z n x,¬cA ops l k i t z n x)(h2:∀s t z n x,¬cA ops l i s t z n x)(hd:∀k s t z n x,cA ops l k s t z n x→d≠some t)
  (hp:∀zc cv,kh m w0 w zc cv→kh m' w0 w' zc cv):pk ops l w0 (mark S i) (gD ta d cv) (gD tmps d cv) m' w' where
 size:=by rw[eP,eP];exact I.size
 ag:=fun t ht=>wO I.size (I.ag t fun k s z n x p hk hs=>ht k s z n x p (by unfold mark;split<;>first| rfl| exact hk) (by
  unfold mark;split
  ·rename_i e;subst e;exact absurd p (h1 _ _ _ _ _)
  ·exact hs))
 pd:=fun k s t z n x p hk hs=>by
  have hki:k≠i:=fun e=>h2 _ _ _ _ _ (e▸p)
  have hsi:s≠i:=fun e=>h1 _ _ _ _ _ (e▸p)
  unfold mark at hk hs;rw[XG hki]at hk;rw[XG hsi]at hs;rw[dy (hd _ _ _ _ _ _ p)];exact hp _ _ (I.pd k s t z n x p hk hs)
 dj:=fun k s t z n x k' s' t' z' n' x' p p' hk hs hk' Qo hne=>by
  have hki:k≠i:=fun e=>h2 _ _ _ _ _ (e▸p)
  have hsi:s≠i:=fun e=>h1 _ _ _ _ _ (e▸p)
  have hki':k'≠i:=fun e=>h2 _ _ _ _ _ (e▸p')
  have hsi':s'≠i:=fun e=>h1 _ _ _ _ _ (e▸p')
  unfold mark at hk hs hk' Qo;rw[XG hki]at hk;rw[XG hsi]at hs;rw[XG hki']at hk';rw[XG hsi']at Qo;rw[dy (hd _ _ _ _ _ _ p),dy (hd _ _ _ _ _ _ p')];exact I.dj _ _ _ _ _ _ _ _ _ _ _ _ p p' hk hs hk' Qo hne
def Cs(ops:Array Oper)(l:List bJ):Prop:=∀k s t z n x k' s' t' z' n' x',cA ops l k s t z n x→cA ops l k' s' t' z' n' x'→(t=t'→k=k'∧s=s')∧(k=k'→t=t')∧(s=s'→t=t')∧k≠s'
def pk.make(U:Cs ops l)(I:pk ops l w0 S ta tmps m w){k s t n z x cv}(p0:cA ops l k s t z n x)(ht:t < tmps.size)(hss:S s=false)
  (hnew:kh m' w0 w' z.cells cv) (hfar:∀cb d,cv= .pointer (some ⟨cb,d,none⟩)→w.heap.size≤cb) (hp:∀zc cv,kh m w0 w zc cv→kh m' w0 w' zc cv):pk ops l w0 (mark S k) ta (gD tmps (some t) cv) m' w' where
 size:=by rw[eP];exact I.size
 ag:=fun d hd=>by
  by_cases hdt:d=t
  ·subst hdt;exact(hd k s z n x p0 (by simp[mark]) (by
    have:s≠k:=Nat.ne_of_gt p0.ks;simp only[mark,XG this];exact hss)).elim
  ·rw[dy (fun e=>hdt (Yu e).symm)];refine I.ag d fun k' s' z' n' x' p hk hs=>hd k' s' z' n' x' p (by unfold mark;split<;>first| rfl| exact hk) ?_
   have:s'≠k:=fun e=>((U _ _ _ _ _ _ _ _ _ _ _ _ p0 p).2.2.2 e.symm)
   simp only[mark,XG this];exact hs
 pd:=fun k' s' t' z' n' x' p hk hs=>by
  by_cases hkk:k' =k
  ·have e:=(U _ _ _ _ _ _ _ _ _ _ _ _ p0 p).2.1 hkk.symm;subst e;subst hkk;have hz:=p0.hk.symm.trans p.hk;have hz:z=z':=by cases hz;rfl
   subst hz;rw[iT ht];exact hnew
  ·have hsk:s'≠k:=fun e=>((U _ _ _ _ _ _ _ _ _ _ _ _ p0 p).2.2.2 e.symm)
   unfold mark at hk hs;rw[XG hkk]at hk;rw[XG hsk]at hs;have hne:t≠t':=fun e=>hkk ((U _ _ _ _ _ _ _ _ _ _ _ _ p0 p).1 e).1.symm
   rw[dy (fun e=>hne (Yu e))];exact hp _ _ (I.pd _ _ _ _ _ _ p hk hs)
 dj:=fun k1 s1 t1 z1 n1 x1 k2 s2 t2 z2 n2 x2 p1 p2 hk1 R8 Qq QV hne=>by
  have hold:∀k' s' t' z' n' x',cA ops l k' s' t' z' n' x'→k'≠k→mark S k k' =true→mark S k s' =false→t≠t'∧S k' =true∧S s' =false∧(gD tmps (some t) cv).getD t' undef=tmps.getD t' undef:=fun k' s' t' z' n' x' p hkk hk hs=>by
   have hsk:s'≠k:=fun e=>((U _ _ _ _ _ _ _ _ _ _ _ _ p0 p).2.2.2 e.symm)
   unfold mark at hk hs;rw[XG hkk]at hk;rw[XG hsk]at hs;have hne:t≠t':=fun e=>hkk ((U _ _ _ _ _ _ _ _ _ _ _ _ p0 p).1 e).1.symm
   exact⟨hne,hk,hs,dy (fun e=>hne (Yu e))⟩
  have hfar':∀k' s' t' z' n' x',cA ops l k' s' t' z' n' x'→S k' =true→S s' =false→pe cv (tmps.getD t' undef):=fun k' s' t' z' n' x' p hk hs cb1 d1 cb2 d2 e1 e2=>by
   obtain⟨cb,d,cc,el,fz,q1,q2,_⟩:=I.pd _ _ _ _ _ _ p hk hs;rw[q1]at e2;cases e2;have:=hfar cb1 d1 e1;have:=(XM.1 q2).1;omega
  by_cases h1:k1=k
  ·have e1:=(U _ _ _ _ _ _ _ _ _ _ _ _ p0 p1).2.1 h1.symm;by_cases h2:k2=k
   ·exact absurd (e1.symm.trans ((U _ _ _ _ _ _ _ _ _ _ _ _ p0 p2).2.1 h2.symm)) hne
   ·obtain⟨a1,a2,a3,a4⟩:=hold _ _ _ _ _ _ p2 h2 Qq QV;rw[a4,←e1,iT ht];exact hfar' _ _ _ _ _ _ p2 a2 a3
  ·obtain⟨b1,b2,b3,b4⟩:=hold _ _ _ _ _ _ p1 h1 hk1 R8;by_cases h2:k2=k
   ·have e2:=(U _ _ _ _ _ _ _ _ _ _ _ _ p0 p2).2.1 h2.symm;rw[b4,←e2,iT ht];exact(hfar' _ _ _ _ _ _ p1 b2 b3).symm
   ·obtain⟨a1,a2,a3,a4⟩:=hold _ _ _ _ _ _ p2 h2 Qq QV;rw[a4,b4];exact I.dj _ _ _ _ _ _ _ _ _ _ _ _ p1 p2 b2 b3 a2 a3 hne
def pk.fill(U:Cs ops l)(I:pk ops l w0 S ta tmps m w){k s t n z x}(p0:cA ops l k s t z n x)(ht:t < tmps.size)
  (hp:∀zc cv,pe cv (tmps.getD t undef)→kh m w0 w zc cv→kh m' w0 w' zc cv) (hk:S k=true) (hs:S s=false):pk ops l w0 (mark S s) (gD ta (some t) (tmps.getD t undef)) tmps m' w':=by
 have hold:∀k' s' t' z' n' x',cA ops l k' s' t' z' n' x'→mark S s k' =true→mark S s s' =false→t≠t'∧S k' =true∧S s' =false:=fun k' s' t' z' n' x' p hk' Qo=>by
  have h1:k'≠s:=(U _ _ _ _ _ _ _ _ _ _ _ _ p p0).2.2.2;have h2:s'≠s:=fun e=>by simp[mark,e]at Qo
  unfold mark at hk' Qo;rw[XG h1]at hk';rw[XG h2]at Qo;exact⟨fun e=>h2 ((U _ _ _ _ _ _ _ _ _ _ _ _ p p0).1 e.symm).2,hk',Qo⟩
 refine⟨by rw[eP];exact I.size,fun d hd=>?_,fun k' s' t' z' n' x' p hk' Qo=>?_,fun k1 s1 t1 z1 n1 x1 k2 s2 t2 z2 n2 x2 p1 p2 hk1 R8 Qq QV hne=>?_⟩
 ·by_cases hdt:d=t
  ·subst hdt;rw[iT (by rw[←I.size];exact ht)]
  ·rw[dy (fun e=>hdt (Yu e).symm)];refine I.ag d fun k' s' z' n' x' p hk' Qo=>hd k' s' z' n' x' p (by unfold mark;split<;>first| rfl| exact hk') ?_
   have h2:s'≠s:=fun e=>hdt ((U _ _ _ _ _ _ _ _ _ _ _ _ p p0).2.2.1 e)
   simp only[mark,XG h2];exact Qo
 ·obtain⟨a1,a2,a3⟩:=hold _ _ _ _ _ _ p hk' Qo;exact hp _ _ (I.dj _ _ _ _ _ _ _ _ _ _ _ _ p p0 a2 a3 hk hs (YP a1)) (I.pd _ _ _ _ _ _ p a2 a3)
 ·obtain⟨a1,a2,a3⟩:=hold _ _ _ _ _ _ p1 hk1 R8;obtain⟨b1,b2,b3⟩:=hold _ _ _ _ _ _ p2 Qq QV;exact I.dj _ _ _ _ _ _ _ _ _ _ _ _ p1 p2 a2 a3 b2 b3 hne
end
def cL{M ops}(h:lE M ops=true){i j x y}(hij:i < j)(hx:ops[i]? =some x)(hy:ops[j]? =some y):
  (∀d,x.dst=some d→y.dst≠some d∧(d∈y.looksAt ops→ahead M i j=true))∧(∀d,y.dst=some d→d∈x.looksAt ops→ahead M i j=true):=by
 have hj:j < ops.size:=(XM.1 hy).1;unfold lE at h;rw[X5]at h;have h1:=h j (YE.2 hj);rw[X5]at h1;have h2:=h1 i (YE.2 hij);rw[hx,hy]at h2;simp only[X4]at h2;obtain⟨h3,h4⟩:=h2;constructor
 ·intro d hd;rw[hd]at h3;simp only[X4,bne_iff_ne,ne_eq,Zg,YN,List.contains_eq_mem,Zj]at h3;exact⟨h3.1,fun hl=>h3.2.resolve_left (fun hx=>hx hl)⟩
 ·intro d hd hl;rw[hd]at h4;simp only[Zg,YN,List.contains_eq_mem,Zj]at h4;exact h4.resolve_left (fun hx=>hx hl)
def nR{M ops}(h:j7 M ops=true){j o}(ho:ops[j]? =some o):
  (∀e∈o.after,Region.binds .any e=true→e.on < j)∧(∀i,i < ops.size→ahead M i j=true→∃e∈o.after,Region.binds .any e=true∧(e.on=i∨ahead M i e.on=true)):=by
 have hj:j < ops.size:=(XM.1 ho).1;unfold j7 at h;rw[X5]at h;have h1:=h j (YE.2 hj);rw[ho]at h1;simp only[X4]at h1;obtain⟨h2,h3⟩:=h1;constructor
 ·intro e he hb;rw[X5]at h2;have:=h2 e (by simpa using he);simp only[hb,XW,ZI,Yg]at this;exact this
 ·intro i hi ha;rw[X5]at h3;have:=h3 i (YE.2 hi);simp only[ha,XW,ZI,Y9,X4,Zg,beq_iff_eq]at this;obtain⟨e,he,hb,hor⟩:=this;exact⟨e,by simpa using he,hb,hor⟩
def nV{M n j}(h:gx M n j=true){i}(hi:i < n)(hne:i≠j): (i < j→ahead M i j=true)∧(j < i→ahead M j i=true):=by
 unfold gx at h;rw[X5]at h;have h1:=h i (YE.2 hi);simp only[Zg,beq_iff_eq]at h1;have h2:=h1.resolve_left hne;constructor
 ·intro hlt;rwa [XI hlt]at h2
 ·intro hlt;rwa [XG Om]at h2
theorem ub{T:Nat→TS}{t:Nat}{a:Nat}:∀k,(∀j,a≤j→j < a+k→∃d v,T (j+1)=put (T j) d v∧d≠some t)→(T (a+k)).getD t aB= (T a).getD t aB
 | 0,_=>rfl
 | k+1,h=>by
  obtain⟨d,v,h1,h2⟩:=h (a+k) Om Om;rw[show a+ (k+1)=a+k+1 from by omega,h1,wM h2];exact ub k fun j h3 h4=>h j h3 Om
def yi{listed:Array Bool}{i:Nat}(hi:i < listed.size): (fun j=>(listed.setIfInBounds i true).getD j false)=mark (fun j=>listed.getD j false) i:=by
 funext j;unfold mark;exact cZ hi
def iS{ops listed}(hs:listed.size=ops.size){i}:i∈Region.ready .any ops listed↔∃o,ops[i]? =some o∧listed.getD i false=false∧∀e∈o.after,Region.binds .any e=true→listed.getD e.on false=true:=by
 unfold Region.ready;simp only[YI,YE,X4,YN];constructor
 ·rintro⟨hi,hl,ha⟩;have ho:ops[i]? =some ops[i]:=Yl hi;refine⟨ops[i],ho,?_,?_⟩
  ·exact z107
  ·rw[ho]at ha;simp only[Zp,ZJ,Zx,Zg,YN]at ha;intro e he hb;exact(ha e he).resolve_left (by simp[hb])
 ·rintro⟨o,ho,hl,ha⟩;have hi:i < ops.size:=(XM.1 ho).1;refine⟨hi,?_,?_⟩
  ·exact z107
  ·rw[ho];simp only[Zp,ZJ,Zx,Zg,YN];intro e he;cases hb:Region.binds .any e with
   | true=>exact .inr (ha e he hb)
   | false=>exact .inl rfl
def lG{M ops}(he:j7 M ops=true){listed}(hs:listed.size=ops.size)(hr:Region.ready .any ops listed= []):∀i,i < ops.size→listed.getD i false=true:=by
 intro i
 induction i using Nat.strongRecOn with
 | _ i ih=>
  intro hi;cases hl:listed.getD i false with
  | true=>rfl
  | false=>
   have:i∈Region.ready .any ops listed:=by
    have ho:ops[i]? =some ops[i]:=Yl hi;refine(iS hs).2 ⟨ops[i],ho,hl,fun e hee hb=>?_⟩;have:=(nR he ho).1 e hee hb;exact ih e.on this Om
   rw[hr]at this;cases this
def lH{ops listed}(hs:listed.size=ops.size)(h:∀i,i < ops.size→listed.getD i false=true):Region.ready .any ops listed= []:=by
 cases hr:Region.ready .any ops listed with
 | nil=>rfl
 | cons x xs=>
  have:x∈Region.ready .any ops listed:=by rw[hr];simp
  obtain⟨o,ho,hl,_⟩:=(iS hs).1 this;rw[h x (XM.1 ho).1]at hl;cases hl
def uD{P:Program}(hmix:P.follows .mixedOrders=true){ops:Array Oper}{l:List bJ}(hc:cK P ops true=some l){ts ts':TS}{h h':ah}(hs:xH P l ts h ts' h'){m:bY}{a:Act}{w:World}
  (st:St P m ts h a w) (ro:Option Nat) (Q:Exit→Act→World→Prop) (hQ:∀m' a' w',St P m' ts' h' a' w'→Grow m h w m' h' w'→a'.defers=a.defers→Q .normal a' w') (id:Nat):
  (Code.region id ops true).wpIn (Fd ro) 0 P Q a w:=by
 refine wpIn_region_any hmix ?_;obtain⟨T,H,rfl,rfl,rfl,rfl,hrow⟩:=hs.row;simp only[cK,XR]at hc;split at hc
 case isFalse=>cases hc
 rename_i hok;simp only[X4]at hok;obtain⟨hed,hsl⟩:=hok;obtain⟨l0,hc,hl⟩:=XQ.1 hc;obtain⟨QG,Qw⟩:=fQ hc;simp only[ZH]at QG;have hlen:l.length=ops.size:=by rw[←hl,vq,QG]
 have hget0:∀j o,ops[j]? =some o→∃io,l0[j]? =some io∧bQ P ops (!gx (Region.before ops) ops.size j) o=some io:=fun j o ho=>by
  obtain⟨y,h1,h2⟩:=Qw j o (by simpa using ho);exact⟨y,h1,by rwa [Yk]at h2⟩
 have S4:∀j io,l0[j]? =some io→∃o,ops[j]? =some o∧bQ P ops (!gx (Region.before ops) ops.size j) o=some io:=fun j io hj=>by
  have hlt:j < ops.size:=by have:=(Xr.1 hj).1;omega
  have ho:ops[j]? =some ops[j]:=Yl hlt;obtain⟨io',h1,h2⟩:=hget0 j _ ho;rw[hj]at h1;cases h1;exact⟨_,ho,h2⟩
 have Vk:∀ (j:Nat) (io:bJ),l[j]? =some io→(∃k t z n x,cA ops l0 k j t z n x∧io={ dst:=some t,k:=.mQ n x,gd:=none,q:=true })∨(∃s t z n x,cA ops l0 j s t z n x∧io=GL)∨
   ((∃o,ops[j]? =some o∧bQ P ops (!gx (Region.before ops) ops.size j) o=some io)∧(∀k t z n x,¬cA ops l0 k j t z n x)∧(∀s t z n x,¬cA ops l0 j s t z n x)):=fun j io hj=>by
  rw[←hl,vt,Yk]at hj;obtain⟨io0,h0,rfl⟩:=XQ.1 hj;rcases wU QG h0 with⟨k,t,z,n,x,p,e⟩| ⟨s,t,z,n,x,p,e⟩| ⟨e,n1,n2⟩
  ·exact .inl ⟨k,t,z,n,x,p,e⟩
  ·exact .inr (.inl ⟨s,t,z,n,x,p,e⟩)
  ·rw[e];exact .inr (.inr ⟨S4 j io0 h0,n1,n2⟩)
 have hdU:∀ (i j:Nat) (oi oj:Oper) (d:Nat),ops[i]? =some oi→ops[j]? =some oj→oi.dst=some d→oj.dst=some d→i=j:=fun i j oi oj d hi hj h1 h2=>by
  by_cases hlt:i < j
  ·exact absurd h2 ((cL hsl hlt hi hj).1 d h1).1
  ·by_cases Ty:j < i
   ·exact absurd h1 ((cL hsl Ty hj hi).1 d h2).1
   ·omega
 have WJ:∀{k s t:Nat} {z:AV} {n:Nat} {x:cW},cA ops l0 k s t z n x→∃o,ops[k]? =some o∧o.dst=some t∧bQ P ops (!gx (Region.before ops) ops.size k) o=some { dst:=some t,k:=.box (.c z),gd:=none,q:=true }:=fun p=>by
  obtain⟨o,h1,h2⟩:=S4 _ _ p.hk;exact⟨o,h1,(dm h2).1.symm,h2⟩
 have hps:∀{k s t:Nat} {z:AV} {n:Nat} {x:cW},cA ops l0 k s t z n x→∃o,ops[s]? =some o∧o.dst=none∧bQ P ops (!gx (Region.before ops) ops.size s) o=some { dst:=none,k:=.store n (.t t) x,gd:=none,q:=true }:=fun p=>by
  obtain⟨o,h1,h2⟩:=S4 _ _ p.hs;exact⟨o,h1,(dm h2).1.symm,h2⟩
 have hlooks:∀{j t:Nat} {o:Oper},ops[j]? =some o→fj ops j t=true→t∈o.looksAt ops:=fun ho h=>by
  unfold fj at h;rw[ho]at h
  simpa using h
 have Va:∀{j t:Nat} {o:Oper},ops[j]? =some o→t∈o.looksAt ops→fj ops j t=true:=fun ho h=>by
  unfold fj;rw[ho]
  simpa using h
 have dX:∀{j:Nat} {o:Oper},ops[j]? =some o→j < ops.size:=fun ho=>(XM.1 ho).1
 have U:Cs ops l0:=fun k s t z n x k' s' t' z' n' x' p p'=>by
  refine⟨fun e=>?_,fun e=>?_,fun e=>?_,fun e=>?_⟩
  ·subst e;obtain⟨o,h1,h2,_⟩:=WJ p;obtain⟨o',h1',h2',_⟩:=WJ p';refine⟨hdU _ _ _ _ _ h1 h1' h2 h2',?_⟩;by_cases hs:s=s'
   ·exact hs
   ·obtain⟨os,R8,_⟩:=hps p';have:=p.only s' (dX R8) (YP hs);rw[p'.lt]at this;cases this
  ·subst e;have:=p.hk.symm.trans p'.hk;cases this;rfl
  ·subst e;have:=p.hs.symm.trans p'.hs;cases this;rfl
  ·subst e;have:=p.hk.symm.trans p'.hs;cases this
 have hpt:∀{i:Nat} {o:Oper} {t:Nat},ops[i]? =some o→t∈o.looksAt ops→∀k s z n x,cA ops l0 k s t z n x→i=s:=fun {i o t} ho ht k s z n x p=>by
  by_cases hi:i=s
  ·exact hi
  ·have:=p.only _ (dX ho) hi;rw[Va ho ht]at this;cases this
 have Rr:∀ (j:Nat) (io:bJ) (d:Nat),l[j]? =some io→io.dst=some d→(∃o,ops[j]? =some o∧o.dst=some d∧(∀k t z n x,¬cA ops l0 k j t z n x)∧(∀s t z n x,¬cA ops l0 j s t z n x))∨(∃k z n x,cA ops l0 k j d z n x):=fun j io d hj hd=>by
  rcases Vk j io hj with⟨k,t,z,n,x,p,e⟩| ⟨s,t,z,n,x,p,e⟩| ⟨⟨o,h1,h2⟩,n1,n2⟩
  ·rw[e]at hd;cases hd;exact .inr ⟨k,z,n,x,p⟩
  ·rw[e]at hd;cases hd
  ·exact .inl ⟨o,h1,by rw[← (dm h2).1];exact hd,n1,n2⟩
 have RU:∀j io,l[j]? =some io→∃v,T (j+1)=put (T j) io.dst v:=fun j io hj=>(hrow.step j io hj).1.put
 have hTl:∀j,j≤l.length→(T j).length= (T 0).length:=by
  intro j
  induction j with
  | zero=>intro _;rfl
  | succ j ih=>
   intro hj;exact z59
 have hG:P.globals.size≤(H 0).length:=st.hr.FB;have huniq:∀ (i:Nat) (io:bJ),l[i]? =some io→∀ (j:Nat) (o:bJ) (d:Nat),j≠i→l[j]? =some o→o.dst=some d→io.dst≠some d:=by
  intro i io hi j o d hne hj hd QU;rcases Rr j o d hj hd with⟨oj,a1,a2,a3,a4⟩| ⟨k,z,n,x,p⟩
  ·rcases Rr i io d hi QU with⟨oi,b1,b2,b3,b4⟩| ⟨k',z',n',x',p'⟩
   ·exact hne (hdU _ _ _ _ _ a1 b1 a2 b2)
   ·obtain⟨ok,h1,h2,_⟩:=WJ p';have e:=hdU _ _ _ _ _ a1 h1 a2 h2;subst e;exact a4 _ _ _ _ _ p'
  ·rcases Rr i io d hi QU with⟨oi,b1,b2,b3,b4⟩| ⟨k',z',n',x',p'⟩
   ·obtain⟨ok,h1,h2,_⟩:=WJ p;have e:=hdU _ _ _ _ _ b1 h1 b2 h2;subst e;exact b4 _ _ _ _ _ p
   ·exact hne ((U _ _ _ _ _ _ _ _ _ _ _ _ p p').1 rfl).2
 have QC:∀a b t,a≤b→b≤l.length→(∀ (j:Nat) (o:bJ),a≤j→j < b→l[j]? =some o→o.dst≠some t)→(T b).getD t aB= (T a).getD t aB:=by
  intro a b t hab hb hno;have:=ub (T:=T) (t:=t) (a:=a) (b - a) (fun j h1 h2=>by
   have hj:l[j]? =some (l[j]'Om):=Xw Om;obtain⟨v,hv⟩:=RU j _ hj;exact⟨_,v,hv,hno j _ h1 Om hj⟩)
  rwa [show a+ (b - a)=b from by omega]at this
 have hqt:∀ (j:Nat) (io:bJ),l[j]? =some io→gx (Region.before ops) ops.size j=false→io.q=true:=fun j io hj hb=>by
  rcases Vk j io hj with⟨k,t,z,n,x,p,e⟩| ⟨s,t,z,n,x,p,e⟩| ⟨⟨o,h1,h2⟩,n1,n2⟩
  ·rw[e]
  ·rw[e];rfl
  ·rw[(dm h2).2,hb];rfl
 have hdone:∀ (listed:Array Bool) (β θ:Nat) (m1:bY) (ta:Array Value) (a1:Act) (w1:World),(∀i,i < ops.size→listed.getD i false=true)→
   rP P l T H m w (fun j=>listed.getD j false) β θ m1 ta w1→pk ops l0 w (fun j=>listed.getD j false) ta a1.tmps m1 w1→a1.defers=a.defers→Q .normal a1 w1:=by
  intro listed β θ m1 ta a1 w1 hall M I hd;have hθ:θ=l.length:=by
   have h1:=M.θn;by_cases hz:l.length=0
   ·omega
   ·have:=M.high (l.length - 1) (hall _ Om);omega
  subst hθ;refine hQ m1 a1 w1 ⟨M.hr,cH.gL ?_ ?_⟩ M.grow hd
  ·have:=M.size;have:=I.size;have:=hTl l.length (XH _);simp;omega
  ·intro t x hx;have hlt:=(Xr.1 hx).1;have QX:t < a1.tmps.size:=by have:=M.size;have:=I.size;have:=hTl l.length (XH _);omega
   have ex: (T l.length).getD t aB=x:=by simp[List.getD,hx]
   have ey:a1.tmps.getD t undef=a1.tmps[t]:=by simp[Yh,Yl QX]
   have eg:a1.tmps.getD t undef=ta.getD t undef:=I.ag t fun k s z n x p _ hs=>by
    obtain⟨os,R8,_⟩:=hps p;rw[hall s (dX R8)]at hs;cases hs
   refine⟨a1.tmps[t],Si,?_⟩;rw[←ex,←ey,eg];by_cases hw:∃ (j:Nat) (o:bJ),l[j]? =some o∧o.dst=some t
   ·obtain⟨j,o,hj,ho⟩:=hw;have SC:=(Xr.1 hj).1;have h1:=M.xW t j o hj (hall j Om) ho;rw[QC (j+1) l.length t Om (XH _) (fun k o' h2 h3 h4 h5=>huniq j o hj k o' t Om h4 h5 ho)];exact VR.mono (bY.eV _ _) _ _ h1
   ·rw[QC 0 l.length t Om (XH _) (fun k o' _ _ h4 h5=>hw ⟨k,o',h4,h5⟩)];exact VR.mono (M.grow.le st.hr.cI) _ _ (M.xX t (fun j o hj _ ho=>hw ⟨j,o,hj,ho⟩))
 have key:∀ (fuel:Nat) (listed:Array Bool) (β θ:Nat) (m1:bY) (ta:Array Value) (a1:Act) (w1:World),listed.size=ops.size→qt listed ops.size≤fuel→
   (∀j x,listed.getD j false=true→x < ops.size→ahead (Region.before ops) x j=true→listed.getD x false=true)→
   rP P l T H m w (fun j=>listed.getD j false) β θ m1 ta w1→pk ops l0 w (fun j=>listed.getD j false) ta a1.tmps m1 w1→a1.defers=a.defers→wpAnyIn (Fd ro) 0 P .any ops Q fuel listed a1 w1:=by
  intro fuel
  induction fuel with
  | zero=>
   intro listed β θ m1 ta a1 w1 QE hu hcl M I hd;have hall:=kQ ops.size (show qt listed ops.size=0 by omega);exact⟨lH QE hall,hdone listed β θ m1 ta a1 w1 hall M I hd⟩
  | succ fuel ih=>
   intro listed β θ m1 ta a1 w1 QE hu hcl M I hd;refine⟨fun hr=>hdone listed β θ m1 ta a1 w1 (lG hed QE hr) M I hd,fun i hi=>?_⟩;obtain⟨o,ho,Ro,Vh⟩:=(iS QE).1 hi;have hin:i < ops.size:=(XM.1 ho).1;have hio:l[i]? =some (l[i]'Om):=Xw Om;generalize l[i]'Om=io at hio;obtain⟨bS,hq⟩:=hrow.step i io hio;have hahead:∀x,x < ops.size→ahead (Region.before ops) x i=true→listed.getD x false=true:=fun x hx ha=>by
    exact LP
   have Sa:β≤i:=by
    by_cases hx:i < β
    ·have:=M.low i hx;simp only[Ro]at this;cases this
    ·omega
   have Sl:∀j x,(listed.setIfInBounds i true).getD j false=true→x < ops.size→ahead (Region.before ops) x j=true→(listed.setIfInBounds i true).getD x false=true:=by
    intro j x hj hx ha;exact LO
   have T3:qt (listed.setIfInBounds i true) ops.size≤fuel:=by
    exact z76
   have hslot:∀ (β' θ':Nat),rP P l T H m w (fun j=>listed.getD j false) β' θ' m1 ta w1→i≤θ'→∀t,t∈o.looksAt ops→(∀k s z n x,¬cA ops l0 k s t z n x)→VR (m1.dB (H i).length) ((T i).getD t aB) (ta.getD t undef):=by
    intro β' θ' M' hi' t ht hnp;have h0i:=fu M'.len (X3 i) hi';by_cases hex:∃ (x:Nat) (ox:bJ),l[x]? =some ox∧listed.getD x false=true∧ox.dst=some t
    ·obtain⟨x,ox,hx,hxl,TF⟩:=hex;rcases Rr x ox t hx TF with⟨oo,SR,TW,_⟩| ⟨k,z,n,y,p⟩
     ·have hxn:x < ops.size:=(XM.1 SR).1;have hxi:x < i:=by
       by_cases h1:x=i
       ·subst h1;rw[Ro]at hxl;cases hxl
       ·by_cases h2:x < i
        ·exact h2
        ·have h3:=(cL hsl (show i < x by omega) ho SR).2 t TW ht;have h4:=hcl x i hxl hin h3;rw[Ro]at h4;cases h4
      have h1:=M'.xW t x ox hx hxl TF;rw[QC (x+1) i t Om Om (fun k o' h2 h3 h4 h5=>huniq x ox hx k o' t Om h4 h5 TF)];exact VR.mono (bY.yQ _ (fu M'.len Om hi')) _ _ h1
     ·exact absurd p (hnp _ _ _ _ _)
    ·rw[QC 0 i t Om Om (fun k o' h2 h3 h4 h5=>by
      rcases Rr k o' t h4 h5 with⟨oo,SR,QU,_⟩| ⟨k',z,n,y,p⟩
      ·have h6:=((cL hsl h3 SR ho).1 t QU).2 ht;exact hex ⟨k,o',h4,hahead k (XM.1 SR).1 h6,h5⟩
      ·exact hnp _ _ _ _ _ p)]
     refine VR.mono ?_ _ _ (M'.xX t (fun j o hj hl QU=>hex ⟨j,o,hj,hl,QU⟩));intro b e hb;have:=st.hr.cI b e hb;unfold bY.dB;rw[XI Om];exact M'.grow.le st.hr.cI b e hb
   have Xm:∀t,(∀k s z n x,¬cA ops l0 k s t z n x)→a1.tmps.getD t undef=ta.getD t undef:=fun t hnp=>I.ag t fun k s z n x p _ _=>hnp _ _ _ _ _ p
   have hTn:∀j,j≤l.length→a1.tmps.size= (T j).length:=fun j hj=>by rw[I.size,M.size,hTl j hj]
   have SQ:io.q=true→∃θ',i < θ'∧rP P l T H m w (fun j=>listed.getD j false) β θ' m1 ta w1:=fun SD=>by
    by_cases Rp:i < θ
    ·exact⟨θ,Rp,M⟩
    ·refine⟨i+1,Om,M.raise Om Om fun j hj Ve=>?_⟩;have SC:j < ops.size:=Om
     have Xc:l[j]? =some (l[j]'Om):=Xw Om;by_cases hji:j=i
     ·subst hji;rw[hio]at Xc;exact hq SD
     ·have hjs:listed.getD j false=false:=by
       cases hx:listed.getD j false with
       | false=>rfl
       | true=>have:=M.high j hx;omega
      cases hb:gx (Region.before ops) ops.size j with
      | true=>
       have h1:=(nV hb hin (fun x=>hji x.symm)).2 Om;have h2:=hahead j SC h1;rw[hjs]at h2;cases h2
      | false=>exact(hrow.step j _ Xc).2 (hqt j _ Xc hb)
   have hih:∀ (β2 V9:Nat) (m2:bY) (ta2:Array Value) (a2:Act) (w2:World),rP P l T H m w (mark (fun j=>listed.getD j false) i) β2 V9 m2 ta2 w2→pk ops l0 w (mark (fun j=>listed.getD j false) i) ta2 a2.tmps m2 w2→a2.defers=a1.defers→
     wpAnyIn (Fd ro) 0 P .any ops Q fuel (listed.setIfInBounds i true) a2 w2:=fun β2 V9 m2 ta2 a2 w2 M2 I2 Vi=>
    ih (listed.setIfInBounds i true) β2 V9 m2 ta2 a2 w2 (by simpa using QE) T3 Sl (by rw[yi Om];exact M2) (by rw[yi Om];exact I2) (Vi.trans hd)
   rcases Vk i io hio with⟨k,t,z,n,x,p,e⟩| ⟨s,t,z,n,x,p,e⟩| ⟨⟨o',ho',QA⟩,n1,n2⟩
   ·
    subst e;obtain⟨os,hos,hosd,QA⟩:=hps p;rw[ho]at hos;cases hos;obtain⟨ok,T7,QW,_⟩:=WJ p;have UL:listed.getD k false=true:=hahead k (dX T7) (((cL hsl p.ks T7 ho).1 t QW).2 (hlooks ho p.lt));have hpend:=I.pd _ _ _ _ _ _ p UL Ro;obtain⟨cb,d,cc,el,fz,Sk,hheap,QF,hfz,hcon,Ww,hout⟩:=hpend;obtain⟨θ',Rp,M'⟩:=SQ rfl;have R6:=M'.cut hG Sa (ZY Rp);obtain⟨X,hX1,hX2,Ts,Xn,hTs⟩:∃X:List AV,X= (val (T i) x).cells∧(X.all AV.one=true∧X.length=n)∧t < (T i).length∧H (i+1)=H i++ [.cells X true false]∧T (i+1)=put (T i) (some t) (.ptr (H i).length 0):=by
     generalize H (i+1)=H1 at bS;generalize T (i+1)=T1 at bS;cases bS with
     | run hw hb hs=>
      have hs:dt (.mQ n x) (val (T i)) (H i)=some (_,_):=hs;simp only[dt]at hs;split at hs
      case isFalse=>cases hs
      rename_i QH;cases hs;exact⟨_,rfl,QH,hb,rfl,rfl⟩
     | skip hw=>exact absurd trivial hw
    have hr1:=R6.Lv hheap hfz (fun b e he=>hout b e (bY.eV _ _ _ _ he)) QF (fun j y hy=>by
     obtain⟨h1,v,h2,h3⟩:=hcon j y hy;exact⟨h1,v,h2,h3 _⟩)
    generalize hmc: (m1.dB (H i).length).add (H i).length ⟨cb,d,cc.size,true⟩=mc at hr1;have U8:mc (H i).length=some ⟨cb,d,cc.size,true⟩:=by rw[←hmc];simp[bY.add]
    have Ub:∀b,b≠(H i).length→mc b= (m1.dB (H i).length) b:=fun b hb=>by rw[←hmc];unfold bY.add;rw[XG hb]
    have hmcl: (m1.dB (H i).length).le mc:=fun b e he=>by
     by_cases hb:b= (H i).length
     ·subst hb;have:=R6.cI _ _ he;omega
     ·rw[Ub b hb];exact he
    have Tq:val (put (T i) (some t) (.ptr (H i).length 0)) x=val (T i) x:=by
     cases x with
     | t u=>
      have hut:=(p.xt u rfl).1;simp only[val];exact wM (fun e=>hut (Yu e).symm)
     | _=>rfl
    have hvt:val (put (T i) (some t) (.ptr (H i).length 0)) (.t t)= .ptr (H i).length 0:=by
     simp only[val,put,List.getD];rw[XL Ts];rfl
    have hzl:z.cells.length=X.length:=by rw[p.zn,hX2.2]
    have Xb:dx P { dst:=none,k:=.store n (.t t) x,gd:=none,q:=true } (put (T i) (some t) (.ptr (H i).length 0)) (H i++ [.cells z.cells true false]) (put (T i) (some t) (.ptr (H i).length 0)) (H (i+1)):=by
     refine dx.run (v:=aB) trivial trivial ?_;show dt (.store n (.t t) x) _ _=some (aB,H (i+1));simp only[dt,hvt,Tq];rw[XE (XH _),Yy];show(if(val (T i) x).cells.length=n∧(val (T i) x).cells.all AV.one=true∧0+n≤z.cells.length then some (aB,(H i++ [aq.cells z.cells true false]).set (H i).length (.cells (fB z.cells 0 (val (T i) x).cells) true false))else none)=_;rw[←hX1,XI ⟨hX2.2,hX2.1,by rw[p.zn];omega⟩];have bd:=qA X z.cells [] hzl;rw[Y8,Y8,XA]at bd;rw[bd,Yp _ _ (XH _),Yy,Xn];rfl
    refine fg ho QA hr1.gv hr1 (by rw[mG];exact hTn i Om) (fun u hu=>?_) Xb ro _ Q ?_
    ·by_cases hut:u=t
     ·subst hut;have: (put (T i) (some u) (AV.ptr (H i).length 0)).getD u aB= .ptr (H i).length 0:=hvt;rw[this,Sk];exact⟨_,U8,by rw[Yk]⟩
     ·have hnp:∀k s z n x,¬cA ops l0 k s u z n x:=fun k' s' z' n' x' p'=>by
       have e:=hpt ho hu _ _ _ _ _ p';exact hut ((U _ _ _ _ _ _ _ _ _ _ _ _ p' p).2.2.1 e.symm)
      rw[wM (fun e=>hut (Yu e).symm),Xm u hnp];exact VR.mono hmcl _ _ (hslot β θ' M' (ZY Rp) u hu hnp)
    ·intro cv v m' w' _ _ hr' QL;have hlen1: (H i++ [aq.cells z.cells true false]).length= (H i).length+1:=Si
     have Uf: (H (i+1)).length= (H i).length+1:=by rw[Xn];simp
     have WT:∀b,b < (H i).length+1→m' b=mc b:=fun b hb=>QL.ext b (by rw[hlen1];exact hb)
     have WU:m' (H i).length=some ⟨cb,d,cc.size,true⟩:=by rw[WT _ Om];exact U8
     have VI:∀b e,(H i).length≤b→m' b=some e→b= (H i).length∧e= ⟨cb,d,cc.size,true⟩:=fun b e hb he=>by
      have h1:=hr'.cI b e he;rw[Uf]at h1;have:b= (H i).length:=Om
      subst this;rw[WU]at he;cases he;exact⟨rfl,rfl⟩
     have M2:=M'.Fs hG Sa Rp Ro hio hr' (fun b hb=>by rw[WT b Om,Ub b Om])
      (fun b e hb he=>by
       obtain⟨_,rfl⟩:=VI b e hb he;exact⟨rfl,Ww,fun b' e' h=>hout b' e' h⟩)
      (fun y hy h1 h2=>QL.frame y hy fun b e he ho' hcb=>by
       by_cases hb:b= (H i).length
       ·subst hb;rw[U8]at he;cases he;exact h2 _ _ (XH _) WU hcb
       ·rw[Ub b hb]at he;exact h1 b e he ho' hcb)
      QL.size QL.os QL.out QL.tape (v:=.ptr (H i).length 0) (cv:=a1.tmps.getD t undef) (by rw[Sk];exact⟨_,WU,by rw[Yk]⟩) hTs (hTl i Om) (huniq i _ hio)
     have WI:a1.put o.dst cv=a1:=by rw[hosd];rfl
     rw[WI];refine hih _ _ _ _ a1 w' M2 (I.fill U p (by rw[hTn i Om];exact Ts) (fun zc c hne q=>?_) UL Ro) rfl;refine q.move (fun Ux d' hc hlt h7=>?_) (fun Ux d' hc hlt h7 b e he=>?_)
     ·refine QL.frame Ux hlt fun b e he _ hcb=>?_
      by_cases hb:b= (H i).length
      ·subst hb;rw[U8]at he;cases he;exact hne _ _ _ _ hc Sk hcb.symm
      ·rw[Ub b hb]at he;exact h7 b e (bY.eV _ _ _ _ he) hcb
     ·unfold bY.patch at he;split at he
      ·rename_i hb;by_cases hbl:b < (H i).length
       ·rw[WT b Om,Ub b Om]at he;exact h7 b e (bY.eV _ _ _ _ he)
       ·obtain⟨_,rfl⟩:=VI b e Om he;exact fun hcb=>hne _ _ _ _ hc Sk hcb.symm
      ·exact h7 b e he
   ·
    subst e;obtain⟨ok,T7,QW,QA⟩:=WJ p;rw[ho]at T7;cases T7;obtain⟨os,hos,_⟩:=hps p;have hss:listed.getD s false=false:=by
     cases hx:listed.getD s false with
     | false=>rfl
     | true=>
      have:=hcl s i hx hin (((cL hsl p.ks ho hos).1 t QW).2 (hlooks hos p.lt));rw[Ro]at this;cases this
    obtain⟨θ',Rp,M'⟩:=SQ rfl;have R6:=M'.cut hG Sa (ZY Rp);have Ts:t < (T i).length:=by
     have hsl':s < l.length:=by rw[hlen];exact dX hos
     have R8:l[s]? =some l[s]:=Xw hsl';have QV:=(hrow.step s _ R8).1;rcases Vk s _ R8 with⟨k',t',z',n',x',p',e⟩| ⟨s',t',z',n',x',p',e⟩| ⟨_,n1,_⟩
     ·have e2:=(U _ _ _ _ _ _ _ _ _ _ _ _ p p').2.2.1 rfl;subst e2;rw[e]at QV;generalize H (s+1)=H1 at QV;generalize T (s+1)=T1 at QV;have:t < (T s).length:=by
       cases QV with
       | run hw hb hs=>exact hb
       | skip hw=>exact absurd trivial hw
      rw[hTl s Om]at this;rw[hTl i Om];exact this
     ·exact absurd rfl ((U _ _ _ _ _ _ _ _ _ _ _ _ p' p).2.2.2)
     ·exact absurd p (n1 _ _ _ _ _)
    have hHk:H (i+1)=H i∧T (i+1)=T i:=by
     generalize H (i+1)=H1 at bS;generalize T (i+1)=T1 at bS;cases bS with
     | run hw hb hs=>
      have hs:dt (.aI (.c (.bool false))) (val (T i)) (H i)=some (_,_):=hs;simp only[dt]at hs;cases hs;exact⟨rfl,rfl⟩
     | skip hw=>exact absurd trivial hw
    have Xb:dx P { dst:=some t,k:=.box (.c z),gd:=none,q:=true } (T i) (H i) (put (T i) (some t) (.ptr (H i).length 0)) (H i++ [.cells z.cells true false]):=by
     refine dx.run (v:=.ptr (H i).length 0) trivial trivial ?_;exact XI (show(val (T i) (.c z)).cells.all AV.one=true from X5.2 fun y hy=>BY (X5.1 p.zc y hy))
    refine fg ho QA R6.gv R6 (hTn i Om) (fun u hu=>?_) Xb ro _ Q ?_
    ·have hnp:∀k s z n x,¬cA ops l0 k s u z n x:=fun k' s' z' n' x' p'=>by
      have e:=hpt ho hu _ _ _ _ _ p';exact(U _ _ _ _ _ _ _ _ _ _ _ _ p p').2.2.2 e
     rw[Xm u hnp];exact hslot β θ' M' (ZY Rp) u hu hnp
    ·intro cv v m' w' RK R2 hr' QL;have hv:v= .ptr (H i).length 0:=by
      rw[QW]at RK;have:=X6 (fun l:TS=>l[t]?) RK;simp only[put]at this;rw[XL Ts,XL Ts]at this;exact(Yu this).symm
     subst hv;obtain⟨e,he,Sk⟩:=R2;obtain⟨cc,el,fz,QS,Q4,Tz,hb4,hb5⟩:=hr'.dN _ e _ he (by rw[XE (XH _),Yy];rfl);obtain⟨hown,hex⟩:=hb5 (.inl rfl);have hex:=hex rfl;obtain⟨_,hnew⟩:=QL.new _ e (XH _) he;have hfar:w1.heap.size≤e.cb:=by
      rcases hnew with hnew| ⟨b0,e0,c1,_,_,c4,c5⟩
      ·exact hnew
      ·have:=R6.cI b0 e0 c1;unfold dY at c4 c5;rw[Xv this]at c5;rw[c5]at c4;cases c4
     rw[Yk]at Sk;have TK:=R6.forget hr' QL;have SY:=QL.forget;have M2:=M'.next hG Sa Rp Ro hio (m1:=m'.dB (H i).length) (w1:=w') (by rw[hHk.1];exact TK) (by rw[hHk.1];exact SY) (v:=.bool false) (cv:=.bool false) rfl (by rw[hHk.2];rfl) (hTl i Om) (huniq i _ hio);have hin2:∀b e',((m'.dB (H i).length).patch m1 (H (i+1)).length) b=some e'→m1 b=some e':=fun b e' h=>by
      unfold bY.patch at h;split at h
      ·have hbl:b < (H i).length:=by
        unfold bY.dB at h;split at h
        ·assumption
        ·cases h
       rw[SY.ext b hbl]at h;exact bY.eV _ _ _ _ h
      ·exact h
     have hp2:∀zc c,kh m1 w w1 zc c→kh ((m'.dB (H i).length).patch m1 (H (i+1)).length) w w' zc c:=fun zc c q=>q.move
      (fun Ux d' _ hlt h7=>QL.frame Ux hlt fun b e' h _=>h7 b e' (bY.eV _ _ _ _ h)) (fun Ux d' _ hlt h7 b e' h=>h7 b e' (hin2 b e' h))
     have WI: (a1.put o.dst cv).tmps=gD a1.tmps (some t) cv:=by rw[QW];rfl
     refine hih _ _ _ _ (a1.put o.dst cv) w' M2 ?_ (put_defers ..);rw[WI];show pk ops l0 w _ (gD ta GL.dst _) _ _ _;refine I.make U p (by rw[hTn i Om];exact Ts) hss ?_ (fun Ux d' h=>?_) hp2
     ·refine⟨e.cb,e.d,cc,el,fz,Sk,QS,Om,(hb4 hown).2,fun j y hy=>?_,Yi M.grow.size hfar,fun b e' h=>?_⟩
      ·obtain⟨h1,v,h2,h3⟩:=Tz j y hy;exact⟨h1,v,h2,D5 (X5.1 p.zc y (Yo hy)) h3⟩
      ·have:=M.hr.lt b e' (hin2 b e' h);omega
     ·rw[Sk]at h;cases h;exact hfar
   ·
    rw[ho]at ho';cases ho';obtain⟨Xi,hioq⟩:=dm QA;have hnp:∀t,t∈o.looksAt ops→∀k s z n x,¬cA ops l0 k s t z n x:=fun t ht k s z n x p=>by
     have:=hpt ho ht k s z n x p;subst this;exact n1 _ _ _ _ _ p
    have Se:∀k s t z n x,cA ops l0 k s t z n x→io.dst≠some t:=fun k s t z n x p hx=>by
     obtain⟨ok,h1,h2,_⟩:=WJ p;have e:=hdU _ _ _ _ _ h1 ho h2 (by rw[←Xi];exact hx);subst e;exact n2 _ _ _ _ _ p
    have Qp:∀ (β' θ':Nat),rP P l T H m w (fun j=>listed.getD j false) β' θ' m1 ta w1→β'≤i→i≤θ'→
      (∀cv v m' w',T (i+1)=put (T i) io.dst v→VR m' v cv→HR P m' (H (i+1)) w'→Grow (m1.dB (H i).length) (H i) w1 m' (H (i+1)) w'→∃β2 V9 m2,rP P l T H m w (mark (fun j=>listed.getD j false) i) β2 V9 m2 (gD ta io.dst cv) w'∧∀zc c,kh m1 w w1 zc c→kh m2 w w' zc c)→
      wpOpIn (Fd ro) 0 P ops Q i (wpAnyIn (Fd ro) 0 P .any ops Q fuel (listed.setIfInBounds i true)) a1 w1:=by
     intro β' θ' M' hb' hi' T8;have R6:=M'.cut hG hb' hi';refine fg ho QA R6.gv R6 (hTn i Om) (fun t ht=>?_) bS ro _ Q ?_
     ·rw[Xm t (hnp t ht)];exact hslot β' θ' M' hi' t ht (hnp t ht)
     ·intro cv v m' w' RK R2 hr' QL;obtain⟨β2,V9,m2,M2,hp2⟩:=T8 cv v m' w' (by rw[Xi];exact RK) R2 hr' QL;have: (a1.put o.dst cv).tmps=gD a1.tmps io.dst cv:=by rw[Xi];cases o.dst<;>rfl
      exact hih β2 V9 m2 _ _ w' M2 (by rw[this];exact I.other n1 n2 Se hp2) (put_defers ..)
    by_cases SD:io.q=true
    ·obtain⟨θ',Rp,M'⟩:=SQ SD;exact Qp β θ' M' Sa Om fun cv v m' w' RK R2 hr' QL=>⟨β,θ',_,M'.next hG Sa Rp Ro hio hr' QL R2 RK (hTl i Om) (huniq i io hio),fun zc c q=>(q.grow QL).2⟩
    ·have hbar:gx (Region.before ops) ops.size i=true:=by
      rw[hioq]at SD
      simpa using SD
     have hall:∀j,j < i→listed.getD j false=true:=fun j hj=>hahead j Om ((nV hbar (show j < ops.size by omega) Om).1 hj)
     by_cases Rp:i < θ
     ·exact Qp β θ M Sa Om fun cv v m' w' RK R2 hr' QL=>⟨β,θ,_,M.next hG Sa Rp Ro hio hr' QL R2 RK (hTl i Om) (huniq i io hio),fun zc c q=>(q.grow QL).2⟩
     ·have hθi:θ=i:=by
       by_cases hz:i=0
       ·omega
       ·have:=M.high (i - 1) (hall _ Om);omega
      subst hθi;exact Qp β θ M Sa (XH _) fun cv v m' w' RK R2 hr' QL=>⟨θ+1,θ+1,m',M.jump st.hr.cI hall Om hio hr' QL R2 RK (hTl θ Om) (huniq θ io hio),fun zc c q=>(q.grow QL).1⟩
 have Qv:∀j,(Array.replicate ops.size false).getD j false=false:=fun j=>by
  exact z70
 refine key ops.size (Array.replicate ops.size false) 0 0 m a.tmps a _ Si ?_ (fun j x hj _ _=>by simp[Qv j]at hj) ?_ ?_ rfl
 ·exact LR
 ·refine⟨XH _,X3 _,fun j hj=>absurd hj Om,fun j hj=>by simp[Qv j]at hj,fun j _ hj=>absurd hj Om,fun j hj=>absurd hj Om,st.hr.drew,fun j hj=>absurd hj Om,?_,fun j _ hj=>absurd hj Om,
   (Grow.refl m _ w st.hr.cI).drew,?_,?_,?_⟩
  ·intro i hi hi' b e k hb Rm hk;have:i=0:=Om
   subst this;exact(st.hr.dN b e k Rm hk).iN st.hr.cI
  ·exact z131
  ·intro d _;exact nv st.ts d
  ·intro d j o _ hj _;simp only[Qv j]at hj;cases hj
 ·exact⟨rfl,fun _ _=>rfl,fun k s t z n x p hk=>by simp[Qv k]at hk,fun k s t z n x k' s' t' z' n' x' p p' hk=>by simp[Qv k]at hk⟩
def GC{k}(hk:ff k=true){ρ h h' v}(hs:mq k ρ h v h'):h' =h∧∀g,mq k ρ g v g:=by
 cases k<;>first
  | (cases hk;done)
  | skip
 case conv c x=>
  cases c<;>first
   | (cases hk;done)
   | skip
  have hs:dt _ _ _=some (_,_):=hs;simp only[dt,jQ]at hs;split at hs
  ·rename_i k n hx;cases hs;refine⟨rfl,fun g=>?_⟩;show dt _ _ _=some (_,_);simp only[dt,jQ,hx]
  ·cases hs
 case len lk x=>
  have e:lk≠.mp→∀g,zj lk g (ρ x)=zj lk h (ρ x):=fun hl g=>by
   cases lk<;>first| exact absurd rfl hl| skip
   all_goals
    cases ρ x<;>first| rfl| (simp only[zj,reduceCtorEq,XO];repeat' split)<;>rfl
  have hl:lk≠.mp:=fun e=>by rw[e]at hk;cases hk
  have hs:dt _ _ _=some (_,_):=hs;simp only[dt]at hs;split at hs
  ·rename_i n hn;cases hs;refine⟨rfl,fun g=>?_⟩;show dt _ _ _=some (_,_);simp only[dt,e hl g,hn]
  ·cases hs
 all_goals
  have hs:dt _ _ _=some (_,_):=hs;simp only[dt]at hs
  repeat' split at hs
  all_goals first
   | (cases hs;done)
   | (cases hs
      refine⟨rfl,fun g=>?_⟩;show dt _ _ _=some (_,_);simp only[dt, *]
      done)
   | (cases hs
      refine⟨rfl,fun g=>?_⟩;show dt _ _ _=some (_,_);simp[dt, *]
      done)
def wP{P o}(hk:ff o.k=true){ts ts' h h'}(hs:dx P o ts h ts' h'):h' =h∧∀g,dx P o ts g ts' g:=by
 cases hs with
 | @run v h' hw hb hs=>
  have Qo:mq o.k (val ts) h v h':=by
   cases Sf:o.k<;>rw[Sf]at hs hk<;>first| exact hs| (cases hk;done)
  obtain⟨rfl,h2⟩:=GC hk Qo;refine⟨rfl,fun g=>.run hw hb ?_⟩;have:=h2 g;cases Sf:o.k<;>rw[Sf]at this hk<;>first| exact this| (cases hk;done)
 | skip hw=>exact⟨rfl,fun g=>.skip hw⟩
def wL{P o}(hk:cD o.k=true){ts ts' h h'}(hs:dx P o ts h ts' h'):h' =h:=by
 by_cases hp:ff o.k=true
 ·exact(wP hp hs).1
 ·cases Sf:o.k with
  | load n a=>
   cases hs with
   | run hw hb hs=>
    rw[Sf]at hs;have hs:dt (.load n a) _ _=some (_,_):=hs;simp only[dt]at hs
    repeat' split at hs
    all_goals first
     | (cases hs;done)
     | (cases hs;rfl)
   | skip hw=>rfl
  | _=>rw[Sf]at hk hp;exact absurd hk hp
def EB{P o}(hk:kf o=true){ts ts' h h'}(hs:dx P o ts h ts' h')(hq:o.q=true→∃g,h' =h++g):∃g,h' =h++g:=by
 by_cases hqq:o.q=true
 ·exact hq hqq
 have hk:Cd o.k=true:=by
  have:o.q=false:=by simpa using hqq
  simpa [kf,this]using hk
 cases hs with
 | run hw hb hs=>
  cases Sf:o.k<;>rw[Sf]at hk hs<;>first| (cases hk;done)| skip
  case aG es n z ps=>
   have hs:mq (.aG es n z ps) _ _ _ _:=hs;obtain⟨c,mu,tl,_,_,_,_,e⟩:=hs;exact⟨_,e⟩
  all_goals
   have hs:dt _ _ _=some (_,_):=hs;simp only[dt]at hs
   repeat' split at hs
   all_goals first
    | (cases hs;done)
    | (cases hs;exact⟨_,rfl⟩)
 | skip hw=>exact⟨[],Si⟩
def Bx{P o n a}(hk:o.k= .load n a){ts ts' h}(hs:dx P o ts h ts' h)(g:ah):dx P o ts (h++g) ts' (h++g):=by
 generalize hh:h=h2 at hs;cases hs with
 | @run v _ hw hb hs=>
  subst hh;refine .run hw (by rw[hk];trivial) ?_;rw[hk]at hs ⊢;have hs:dt (.load n a) (val ts) h=some (v,h):=hs;show dt (.load n a) (val ts) (h++g)=some (v,h++g);simp only[dt]at hs ⊢;cases hv:val ts a with
  | ptr b off=>
   rw[hv]at hs;simp only at hs ⊢;cases Q4:h[b]? with
   | none=>rw[Q4]at hs;cases hs
   | some k=>
    rw[Xv (Xr.1 Q4).1,Q4];rw[Q4]at hs;cases k with
    | cells c mu tl=>
     simp only at hs ⊢;cases n with
     | none=>
      simp only at hs ⊢;cases hc:c[off]? with
      | none=>rw[hc]at hs;cases hs
      | some x=>rw[hc]at hs;cases hs;rfl
     | some n=>
      simp only at hs ⊢;by_cases hlt:off+n≤c.length
      ·rw[XI hlt]at hs ⊢;cases hs;rfl
      ·rw[XG hlt]at hs;cases hs
    | _=>cases hs
  | _=>rw[hv]at hs;cases hs
 | skip hw=>subst hh;exact .skip hw
def HR.Bf{P m h w}(hr:HR P m h w)(g:ah):HR P m (h++g) w where
 cI:=fun b e hb=>by have:=hr.cI b e hb;simp;omega
 dN:=fun b e k hb hk=>hr.dN b e k hb (by rwa [Xv (hr.cI b e hb)]at hk)
 sep:=fun b1 b2 e1 e2 k1 k2 hne h1 h2 hk1 Qq hcb=>hr.sep b1 b2 e1 e2 k1 k2 hne h1 h2 (by rwa [Xv (hr.cI b1 e1 h1)]at hk1) (by rwa [Xv (hr.cI b2 e2 h2)]at Qq) hcb
 fN:=hr.fN
 lt:=hr.lt
def HR.GS{P m h g w}(hr:HR P m (h++g) w)(hd:∀b e,m b=some e→b < h.length):HR P m h w where
 cI:=hd
 dN:=fun b e k hb hk=>hr.dN b e k hb (by rw[Xv (hd b e hb)];exact hk)
 sep:=fun b1 b2 e1 e2 k1 k2 hne h1 h2 hk1 Qq hcb=>hr.sep b1 b2 e1 e2 k1 k2 hne h1 h2 (by rw[Xv (hd b1 e1 h1)];exact hk1) (by rw[Xv (hd b2 e2 h2)];exact Qq) hcb
 fN:=hr.fN
 lt:=hr.lt
def ja{M l}(h:nH M l=true){i j x y}(hij:i < j)(hx:l[i]? =some x)(hy:l[j]? =some y)(px:ff x.k=false)(py:ff y.k=false)(lx:l9 x=false)(ly:l9 y=false)
  (hr: (cD x.k=false∧cD y.k=false)∨(cD x.k=false∧kf x=false)∨(cD y.k=false∧kf y=false)):ahead M i j=true:=by
 have hj:j < l.length:=(Xr.1 hy).1;unfold nH at h;rw[X5]at h;have h1:=h j (YE.2 hj);rw[X5]at h1;have h2:=h1 i (YE.2 hij);rw[hx,hy]at h2;simp only[px,py,lx,ly,ZI]at h2;rcases hr with⟨a,b⟩| ⟨a,b⟩| ⟨a,b⟩<;>simpa [a,b]using h2
theorem yl:∀{l} {i} {o},l[i]? =some o→Bz o=false→i < dC l
 | [],i,o,h,_=>by simp at h
 | x::r,i,o,h,hk=>by
  have hn:¬jZ (x::r)=true:=fun hall=>by
   have:=X5.1 (Bool.and_eq_true_iff.1 hall).1 o (Yo h);rw[hk]at this;cases this
  rw[dC,XG hn];cases i with
  | zero=>omega
  | succ i=>have:=yl (l:=r) (i:=i) (by simpa using h) hk;omega
def pJ{M l}(h:mK M l=true){i j x y}(hx:l[i]? =some x)(lx:l9 x=true)(hy:l[j]? =some y)(ky:cD y.k=false)(hj:dC l≤j):ahead M i j=true:=by
 unfold mK at h;rw[X5]at h;have h1:=h i (YE.2 (Xr.1 hx).1);rw[hx]at h1;simp only[lx,XW,ZI,X5,YE]at h1;have h2:=h1 j (Xr.1 hy).1;rw[hy]at h2;have Ve:¬j < dC l:=Om
 simpa [ky,Ve]using h2
def qG{P cq}(hmix:P.follows .mixedOrders=true){ops l}(hed:j7 (Region.before ops) ops=true)(hsl:lE (Region.before ops) ops=true)
  (hc:ep (fun _ o=>bQ P ops (rI cq o) o) ops.toList 0=some l) (hmo:nH (Region.before ops) l=true) {T} {H} (hrow:Row P l T H) (hstab:∀ (i:Nat) (io:bJ),l[i]? =some io→l9 io=true→∀θ,θ≤dC l→dx P io (T i) (H θ) (T (i+1)) (H θ)) (hlate:∀ (i j:Nat) (x y:bJ),l[i]? =some x→l9 x=true→l[j]? =some y→cD y.k=false→dC l≤j→ahead (Region.before ops) i j=true) {m} {a} {w}
  (st:St P m (T 0) (H 0) a w) (ro:Option Nat) (Q:Exit→Act→World→Prop) (hQ:∀m' a' w',St P m' (T l.length) (H l.length) a' w'→Grow m (H 0) w m' (H l.length) w'→a'.defers=a.defers→Q .normal a' w') (id:Nat):
  (Code.region id ops true).wpIn (Fd ro) 0 P Q a w:=by
 refine wpIn_region_any hmix ?_;obtain⟨QG,Qw⟩:=fQ hc;simp only[ZH]at QG;have Up:∀ (j:Nat) (io:bJ),l[j]? =some io→∃o,ops[j]? =some o∧bQ P ops (rI cq o) o=some io:=fun j io hj=>by
  exact Ml
 have Rr:∀ (j:Nat) (io:bJ) (d:Nat),l[j]? =some io→io.dst=some d→∃o,ops[j]? =some o∧o.dst=some d:=fun j io d hj hd=>by
  exact Mc
 have huniq:∀ (i j:Nat) (oi oj:bJ) (d:Nat),l[i]? =some oi→l[j]? =some oj→oi.dst=some d→oj.dst=some d→i=j:=fun i j oi oj d hi hj h1 h2=>by
  exact Mn
 have RU:∀ (j:Nat) (io:bJ),l[j]? =some io→∃v,T (j+1)=put (T j) io.dst v:=fun j io hj=>(hrow.step j io hj).1.put
 have hTl:∀j,j≤l.length→(T j).length= (T 0).length:=by
  intro j
  induction j with
  | zero=>intro _;rfl
  | succ j ih=>
   intro hj;exact z59
 have QC:∀x y t,x≤y→y≤l.length→(∀ (j:Nat) (o:bJ),x≤j→j < y→l[j]? =some o→o.dst≠some t)→(T y).getD t aB= (T x).getD t aB:=by
  intro x y t hxy hy hno;exact Pu
 have Tc:∀ (j:Nat) (io:bJ),l[j]? =some io→cD io.k=true→H (j+1)=H j:=fun j io hj hk=>wL hk (hrow.step j io hj).1
 have Td:∀x k,x+k≤l.length→(∀ (j:Nat) (o:bJ),x≤j→j < x+k→l[j]? =some o→cD o.k=true)→H (x+k)=H x:=by
  intro x k
  induction k with
  | zero=>intro _ _;rfl
  | succ k ih=>
   intro hk hno;exact Pq
 have VX:∀x k,x+k≤l.length→(∀ (j:Nat) (o:bJ),x≤j→j < x+k→l[j]? =some o→cD o.k=true∨kf o=true)→∃g,H (x+k)=H x++g:=by
  intro x k
  induction k with
  | zero=>intro _ _;exact⟨[],Si⟩
  | succ k ih=>
   intro hk hno;have hj:l[x+k]? =some (l[x+k]'Om):=Xw Om;obtain⟨g,hg⟩:=ih Om fun j o h1 h2 h3=>hno j o h1 Om h3
   rcases hno _ _ Om Om hj with h1| h1
   ·exact⟨g,by rw[show x+ (k+1)=x+k+1 from by omega,Tc _ _ hj h1,hg]⟩
   ·obtain⟨g2,Uj⟩:=EB h1 (hrow.step _ _ hj).1 (hrow.step _ _ hj).2;exact⟨g++g2,by rw[show x+ (k+1)=x+k+1 from by omega,Uj,hg,Xt]⟩
 have TB:∀x y,x≤l.length→y≤l.length→(∀ (j:Nat) (o:bJ),l[j]? =some o→cD o.k=false→(j < x↔j < y))→H x=H y:=by
  intro x y hx hy hno;exact Pz
 have hdone:∀ (listed:Array Bool) (θ:Nat) (m1:bY) (a1:Act) (w1:World),(∀i,i < ops.size→listed.getD i false=true)→θ≤l.length→
   (∀ (j:Nat) (o:bJ),l[j]? =some o→cD o.k=false→(j < θ↔listed.getD j false=true))→HR P m1 (H θ) w1→Grow m (H 0) w m1 (H θ) w1→a1.tmps.size= (T 0).length→
   (∀ (d:Nat),(∀ (j:Nat) (o:bJ),l[j]? =some o→listed.getD j false=true→o.dst≠some d)→VR m1 ((T 0).getD d aB) (a1.tmps.getD d undef))→
   (∀ (d j:Nat) (o:bJ),l[j]? =some o→listed.getD j false=true→o.dst=some d→VR m1 ((T (j+1)).getD d aB) (a1.tmps.getD d undef))→a1.defers=a.defers→Q .normal a1 w1:=by
  intro listed θ m1 a1 w1 hall hθ hS hr hg dX h1 h2 hd;have e:=TB θ l.length hθ (XH _) fun j o hj hk=>by
   have SC:=(Xr.1 hj).1;have:=(hS j o hj hk).2 (hall j Om);omega
  rw[e]at hr hg;refine hQ m1 a1 w1 ⟨hr,cH.gL ?_ ?_⟩ hg hd
  ·exact F5
  ·intro t x hx;exact PD
 have key:∀ (fuel:Nat) (listed:Array Bool) (θ:Nat) (m1:bY) (a1:Act) (w1:World),listed.size=ops.size→qt listed ops.size≤fuel→
   (∀j x,listed.getD j false=true→x < ops.size→ahead (Region.before ops) x j=true→listed.getD x false=true)→θ≤l.length→(θ≤dC l∨∃ (j:Nat) (o:bJ),l[j]? =some o∧cD o.k=false∧dC l≤j∧j < θ)→
   (∀ (j:Nat) (o:bJ),l[j]? =some o→cD o.k=false→(j < θ↔listed.getD j false=true))→HR P m1 (H θ) w1→Grow m (H 0) w m1 (H θ) w1→a1.tmps.size= (T 0).length→
   (∀ (d:Nat),(∀ (j:Nat) (o:bJ),l[j]? =some o→listed.getD j false=true→o.dst≠some d)→VR m1 ((T 0).getD d aB) (a1.tmps.getD d undef))→
   (∀ (d j:Nat) (o:bJ),l[j]? =some o→listed.getD j false=true→o.dst=some d→VR m1 ((T (j+1)).getD d aB) (a1.tmps.getD d undef))→a1.defers=a.defers→wpAnyIn (Fd ro) 0 P .any ops Q fuel listed a1 w1:=by
  intro fuel
  induction fuel with
  | zero=>
   intro listed θ m1 a1 w1 QE hu hcl hθ hL hS hr hg dX h1 h2 hd;have hall:=kQ ops.size (show qt listed ops.size=0 by omega);exact⟨lH QE hall,hdone listed θ m1 a1 w1 hall hθ hS hr hg dX h1 h2 hd⟩
  | succ fuel ih=>
   intro listed θ m1 a1 w1 QE hu hcl hθ hL hS hr hg dX h1 h2 hd;refine⟨fun hrn=>hdone listed θ m1 a1 w1 (lG hed QE hrn) hθ hS hr hg dX h1 h2 hd,fun i hi=>?_⟩;obtain⟨o,ho,Ro,Vh⟩:=(iS QE).1 hi;have hin:i < ops.size:=(XM.1 ho).1;obtain⟨io,hio,QA⟩:=Qw i o (by simpa using ho);obtain⟨bS,_⟩:=hrow.step i io hio;have hahead:∀x,x < ops.size→ahead (Region.before ops) x i=true→listed.getD x false=true:=fun x hx ha=>by
    exact LP
   have Sl:∀j x,(listed.setIfInBounds i true).getD j false=true→x < ops.size→ahead (Region.before ops) x j=true→(listed.setIfInBounds i true).getD x false=true:=by
    intro j x hj hx ha;exact LO
   have T3:qt (listed.setIfInBounds i true) ops.size≤fuel:=by
    exact z76
   have hslot:∀t,t∈o.looksAt ops→VR m1 ((T i).getD t aB) (a1.tmps.getD t undef):=by
    intro t ht;exact z12
   have hrp:∀{k:oA},cD k=false→ff k=false:=fun {k} hk=>by
    cases k<;>first| exact hk| (cases hk;done)
   have hld:∀{o:bJ},cD o.k=false→l9 o=false:=fun {o} hk=>by
    exact z156
   have hne:∀j,j≠i→(listed.setIfInBounds i true).getD j false=listed.getD j false:=fun j hj=>by rw[cZ Om,XG hj]
   have U1:cD io.k=true→∀ (j:Nat) (o:bJ),l[j]? =some o→cD o.k=false→(j < θ↔(listed.setIfInBounds i true).getD j false=true):=fun RD j oj hj hk=>by
    have hji:j≠i:=fun e=>by
     subst e;rw[hio]at hj;cases hj;rw[RD]at hk;cases hk
    rw[hne j hji];exact hS j oj hj hk
   have Q3:∃θ',θ'≤l.length∧(θ'≤dC l∨∃ (j:Nat) (o:bJ),l[j]? =some o∧cD o.k=false∧dC l≤j∧j < θ')∧(∀ (j:Nat) (o:bJ),l[j]? =some o→cD o.k=false→(j < θ'↔(listed.setIfInBounds i true).getD j false=true))∧∃hb h2,HR P m1 hb w1∧dx P io (T i) hb (T (i+1)) h2∧
     ∀m' w',HR P m' h2 w'→Grow m1 hb w1 m' h2 w'→HR P m' (H θ') w'∧Grow m1 (H θ) w1 m' (H θ') w':=by
    by_cases hp:ff io.k=true
    ·have RD:cD io.k=true:=by cases Sf:io.k<;>rw[Sf]at hp<;>first| exact hp| (cases hp;done)
     exact⟨θ,hθ,hL,U1 RD,H θ,H θ,hr,(wP hp bS).2 _,fun m' w' a b=>⟨a,b⟩⟩
    ·have VH:ff io.k=false:=by simpa using hp
     by_cases TI:l9 io=true
     ·have RD:cD io.k=true:=by
       cases Sf:io.k<;>simp[l9,Sf]at TI<;>rfl
      have hθc:θ≤dC l:=by
       rcases hL with h| ⟨j,oj,h1,h2,h3,h4⟩
       ·exact h
       ·have e:=hcl j i ((hS j oj h1 h2).1 h4) hin (hlate i j io oj hio TI h1 h2 h3);rw[Ro]at e;cases e
      exact⟨θ,hθ,hL,U1 RD,H θ,H θ,hr,hstab i io hio TI θ hθc,fun m' w' a b=>⟨a,b⟩⟩
     have TI:l9 io=false:=by simpa using TI
     by_cases RD:cD io.k=true
     ·obtain⟨n,ad,Sf⟩:∃n ad,io.k= .load n ad:=by
       cases Sf:io.k with
       | load n ad=>exact⟨n,ad,rfl⟩
       | _=>rw[Sf]at RD hp;exact absurd RD hp
      have hHh:∀ (j:Nat) (o:bJ),l[j]? =some o→cD o.k=false→kf o=false→(j < θ↔j < i):=fun j oj hj hk Qq=>by
       have SC:=(Xr.1 hj).1;constructor
       ·intro Ug;have Sg:=(hS j oj hj hk).1 Ug;by_cases e1:j=i
        ·exact F4
        ·by_cases e2:j < i
         ·exact e2
         ·have e3:=ja hmo (show i < j by omega) hio hj VH (hrp hk) TI (hld hk) (.inr (.inr ⟨hk,Qq⟩));have e4:=hcl j i Sg hin e3;rw[Ro]at e4;cases e4
       ·intro hji;exact(hS j oj hj hk).2 (hahead j Om (ja hmo hji hj hio (hrp hk) VH (hld hk) TI (.inr (.inl ⟨hk,Qq⟩))))
      have SP:dx P io (T i) (H i) (T (i+1)) (H i):=by
       have e:=wL RD bS;rw[e]at bS;exact bS
      by_cases Rp:i≤θ
      ·obtain⟨g,Uj⟩:=VX i (θ - i) Om fun j oj h1 h2 h3=>by
        exact Pa
       rw[show i+ (θ - i)=θ from by omega]at Uj;refine⟨θ,hθ,hL,U1 RD,H θ,H θ,hr,?_,fun m' w' a b=>⟨a,b⟩⟩;rw[Uj];exact Bx Sf SP g
      ·obtain⟨g,Uj⟩:=VX θ (i - θ) Om fun j oj h1 h2 h3=>by
        exact Pa
       rw[show θ+ (i - θ)=i from by omega]at Uj;rw[Uj]at SP;refine⟨θ,hθ,hL,U1 RD,H θ++g,H θ++g,hr.Bf g,SP,fun m' w' a b=>?_⟩;have hm:m' =m1:=by
        funext z;by_cases hz:z < (H θ++g).length
        ·exact b.ext z hz
        ·have e1:m1 z=none:=by
          cases hx:m1 z with
          | none=>rfl
          | some e=>exact absurd ((hr.Bf g).cI z e hx) hz
         have e2:m' z=none:=by
          cases hx:m' z with
          | none=>rfl
          | some e=>exact absurd (a.cI z e hx) hz
         rw[e1,e2]
       subst hm;exact⟨a.GS hr.cI,⟨fun _ _=>rfl,XH _,fun z e hz hmz=>absurd (hr.cI z e hmz) Om,fun _ _ x=>x,b.size,b.os,b.out,b.tape,b.frame⟩⟩
     ·have RN:cD io.k=false:=by simpa using RD
      have hHi:H θ=H i:=TB θ i hθ Om fun j oj hj hk=>by
       have SC:=(Xr.1 hj).1;constructor
       ·intro Ug;have Sg:=(hS j oj hj hk).1 Ug;by_cases e1:j=i
        ·exact F4
        ·by_cases e2:j < i
         ·exact e2
         ·exact O8
       ·intro hji;exact(hS j oj hj hk).2 (hahead j Om (ja hmo hji hj hio (hrp hk) VH (hld hk) TI (.inl ⟨hk,RN⟩)))
      refine⟨i+1,Om,(by by_cases hc:i+1≤dC l;exact .inl hc;exact .inr ⟨i,io,hio,RN,Om,Om⟩),fun j oj hj hk=>?_,H θ,H (i+1),hr,by rw[hHi];exact bS,fun m' w' a b=>⟨a,b⟩⟩;have SC:=(Xr.1 hj).1;by_cases e1:j=i
      ·subst e1;rw[cZ Om,XI rfl];exact⟨fun _=>rfl,fun _=>by omega⟩
      ·rw[hne j e1];constructor
       ·intro hji;exact hahead j Om (ja hmo (show j < i by omega) hj hio (hrp hk) VH (hld hk) TI (.inl ⟨hk,RN⟩))
       ·intro Sg;by_cases e2:j < i
        ·omega
        ·exact O8
   obtain⟨θ',Wt,UP,hS',hb,h2',U3,SP,RT⟩:=Q3;refine fg ho QA U3.gv U3 (by rw[dX,hTl i Om]) hslot SP ro _ Q ?_;intro cv v' m' w' RK R2 hrx hgx;obtain⟨hr',QL⟩:=RT m' w' hrx hgx;have QU:io.dst=o.dst:=(dm QA).1;have SN:=QL.le hr.cI;have hlt: (listed.setIfInBounds i true).getD i false=true:=by rw[cZ Om,XI rfl]
   have Tr: (a1.put o.dst cv).tmps=gD a1.tmps o.dst cv:=by cases o.dst<;>rfl
   refine ih _ θ' m' (a1.put o.dst cv) w' (by simp[QE]) T3 Sl Wt UP hS' hr' (hg.trans QL st.hr.cI) (by rw[Tr,eP];exact dX) ?_ ?_ (by rw[put_defers];exact hd)
   ·intro d hdn;have Se:o.dst≠some d:=by rw[←QU];exact hdn i io hio hlt
    rw[Tr,dy Se];refine VR.mono SN _ _ (h1 d fun j oj hj hl=>hdn j oj hj ?_);exact LL
   ·intro d j oj hj hl S2;by_cases e1:j=i
    ·subst e1;rw[hio]at hj;cases hj;rw[RK,Tr,←QU,S2];exact kW (by rw[dX,hTl j Om]) R2
    ·have Se:o.dst≠some d:=fun hx=>by
      exact F9
     rw[Tr,dy Se];rw[hne j e1]at hl;exact VR.mono SN _ _ (h2 d j oj hj hl S2)
 have Qv:∀j,(Array.replicate ops.size false).getD j false=false:=fun j=>by
  exact z70
 refine key ops.size (Array.replicate ops.size false) 0 m a _ Si ?_ (fun j x hj _ _=>by simp[Qv j]at hj) (X3 _) (.inl (X3 _)) (fun j oj hj hk=>⟨fun hx=>absurd hx Om,fun hx=>by simp[Qv j]at hx⟩) st.hr.drew (Grow.refl m _ w st.hr.cI).drew ?_ (fun d _=>nv st.ts d) (fun d j o _ hj _=>by simp[Qv j]at hj) rfl
 ·exact LR
 ·exact z131
section
variable {P:Program} {m m':bY} {h h':ah} {w w':World}
def uJ{ops i o}(ho:ops[i]? =some o){q io}(hc:bQ P ops q o=some io)(hgd0:io.gd=none){ts a v}
  (hg:GV P m) (hr:HR P m h w) (ht:∀t,t∈o.looksAt ops→VR m (ts.getD t aB) (a.tmps.getD t undef)) (hs:pn P io.k (val ts) h v h') (ro:Option Nat) (K:Act→World→Prop) (Q:Exit→Act→World→Prop)
  (hn:∀cv m' w',VR m' v cv→HR P m' h' w'→Grow m h w m' h' w'→K (a.put o.dst cv) w'):wpOpIn (Fd ro) 0 P ops Q i K a w:=by
 unfold bQ at hc;split at hc
 case h_2=>cases hc
 rename_i g TJ;cases hc;have hg0:g=none:=hgd0;subst hg0;have hw:=qp (m:=m) (ts:=ts) (a:=a) TJ (fun t b Ty=>by cases Ty);unfold wpOpIn;rw[ho];simp only;rw[XI (hw.2 trivial)];simp only at hs;split at hs
 case isFalse=>exact absurd hs nW
 rename_i Xd;cases hk:dV P o with
 | none=>rw[hk]at hs;exact absurd hs nW
 | some k=>
  rw[hk]at hs;refine uI hk (fun x hx x' Qt=>?_) (fun z=>rfl) hr hs ro K Q (fun cv m' w' h1 h2 h3=>hn cv m' w' h1 h2 h3);exact Pn
def zA{n x}(h:w7 x=true):iN n x:=by
 cases x<;>first
  | (cases h;done)
  | skip
 case bool b=>exact⟨fun _=>none,_,(fun _ _ z=>by cases z),rfl⟩
 case int k b=>exact⟨fun _=>none,_,(fun _ _ z=>by cases z),rfl⟩
 case vT k b=>exact⟨fun _=>none,.float k b,(fun _ _ z=>by cases z),⟨b,rfl,.inl rfl⟩⟩
 case vF k a b=>exact⟨fun _=>none,.complex k a b,(fun _ _ z=>by cases z),⟨a,b,rfl,.inl rfl,.inl rfl⟩⟩
 all_goals exact⟨fun _=>none,_,(fun _ _ z=>by cases z),rfl⟩
def w8{n x}(h:iN n x):∀y∈x.cells,iN n y:=by
 obtain⟨ma,va,h1,h2⟩:=h;intro y hy;obtain⟨i,hi,rfl⟩:=ZE hy;obtain⟨v,_,hv⟩:=h2.cells.get (Xw hi);exact⟨ma,v,h1,hv⟩
theorem uu:∀{l c} {o} {x},x∈fB c o l→x∈c∨x∈l
 | [],c,o,x,h=>.inl h
 | y::l,c,o,x,h=>by
  have h:x∈fB (c.set o y) (o+1) l:=h;rcases uu h with h| h
  ·rcases Zd h with h| h
   ·exact .inl h
   ·exact .inr (by rw[h];simp)
  ·exact .inr (Yb _ h)
theorem rf{n}:∀{ps} {z c},(∀x∈z,iN n x)→(∀p∈ps,iN n p.2.2)→eo z ps=some c→∀x∈c,iN n x
 | [],z,c,hz,_,h,x,hx=>by cases h;exact hz x hx
 | (off,k,v)::r,z,c,hz,hp,h,x,hx=>by
  rw[eo]at h;split at h
  ·refine rf (fun y hy=>?_) (fun p hq=>hp p (Yb _ hq)) h x hx;rcases uu hy with hy| hy
   ·exact hz y hy
   ·exact w8 (hp (off,k,v) Si) y hy
  ·cases h
theorem uh:∀{n} {z} {x},x∈dI n z→x∈z
 | 0,z,x,h=>by simp[dI]at h
 | n+1,z,x,h=>by
  have h:x∈z++dI n z:=h;rcases XC.1 h with h| h
  ·exact h
  ·exact uh h
def Bj(gr:Grow m h w m' h' w')(hd:∀b e,m b=some e→b < h.length){e k}(hk:k.live=true)(hb:BR P m w e k)(hout:∀b e',m b=some e'→e'.cb≠e.cb):BR P m' w' e k∧∀b e',m' b=some e'→e'.cb≠e.cb:=by
 have hlt:=hb.lt hk;refine⟨(hb.heap (gr.frame e.cb hlt fun b e' he _=>hout b e' he)).mono (gr.le hd),fun b e' he=>?_⟩;by_cases hbl:b < h.length
 ·rw[gr.ext b hbl]at he;exact hout b e' he
 ·obtain⟨_,hc⟩:=gr.new b e' Om he;rcases hc with hc| ⟨b0,e0,c1,c2,_⟩
  ·omega
  ·rw[←c2];exact hout b0 e0 c1
def HR.xE(hr:HR P m h w){e k}(hk:k.live=true)(hb:BR P m w e k)(hout:∀b e',m b=some e'→e'.cb≠e.cb):HR P (m.add h.length e) (h++ [k]) w:=by
 have Rl:m h.length=none:=by
  exact z53
 have hle:m.le (m.add h.length e):=bY.rp _ Rl;have QB:∀b e',(m.add h.length e) b=some e'→(b=h.length∧e' =e)∨(b < h.length∧m b=some e'):=fun b e' RJ=>by
  exact Pf
 refine⟨fun b e' RJ=>?_,fun b e' k' RJ hk'=>?_,fun b1 b2 e1 e2 k1 k2 hne h1 h2 hk1 Qq hcb=>?_,fun g hg=>?_,fun b e' RJ=>?_⟩
 ·rw[Xs];rcases QB b e' RJ with⟨rfl,_⟩| ⟨hlt,_⟩
  ·simp
  ·simp;omega
 ·rcases QB b e' RJ with⟨rfl,rfl⟩| ⟨hlt,hm⟩
  ·rw[XE (XH _),Yy]at hk';cases hk';exact hb.mono hle
  ·rw[Xv hlt]at hk';exact(hr.dN b e' k' hm hk').mono hle
 ·exact Px
 ·obtain⟨e',he,hx⟩:=hr.fN g hg;exact⟨e',hle _ _ he,hx⟩
 ·rcases QB b e' RJ with⟨_,rfl⟩| ⟨_,hm⟩
  ·exact hb.lt hk
  ·exact hr.lt b e' hm
def Grow.xE{m0 h0 w0}(gr:Grow m0 h0 w0 m h w)(hd0:∀b e,m0 b=some e→b < h0.length)(hd:∀b e,m b=some e→b < h.length){e k}(ho:e.own=true)(hlt:w0.heap.size≤e.cb):Grow m0 h0 w0 (m.add h.length e) (h++ [k]) w where
 ext:=fun b hb=>by
  have:b≠h.length:=by have:=gr.len;omega
  show(if b=h.length then some e else m b)=_;rw[XG this];exact gr.ext b hb
 len:=by rw[Xs];have:=gr.len;omega
 new:=fun b e' hb he=>by
  unfold bY.add at he;by_cases hx:b=h.length
  ·rw[XI hx]at he;cases he;exact⟨ho,.inl hlt⟩
  ·rw[XG hx]at he;obtain⟨h1,hc⟩:=gr.new b e' hb he;refine⟨h1,?_⟩;rcases hc with hc| ⟨b0,e0,c1,c2,c3,c4,c5⟩
   ·exact .inl hc
   ·have:=hd0 _ _ c1;exact .inr ⟨b0,e0,c1,c2,c3,c4,by rw[fq (by have:=gr.len;omega)];exact c5⟩
 tl:=fun b hb ht=>by
  rw[fq (by have:=gr.len;omega)]at ht;exact gr.tl b hb ht
 size:=gr.size
 os:=gr.os
 out:=gr.out
 tape:=gr.tape
 frame:=gr.frame
end
def pD{M l f}(h:qO M l f=true){i j x y}(hij:i < j)(hx:l[i]? =some x)(hy:l[j]? =some y)(px:ff x.k=false)(py:ff y.k=false)(lx:l9 x=false)(ly:l9 y=false)(hj:j≠f):ahead M i j=true:=by
 have SC:j < l.length:=(Xr.1 hy).1;unfold qO at h;rw[X5]at h;have h1:=h j (YE.2 SC);rw[X5]at h1;have h2:=h1 i (YE.2 hij);rw[hx,hy]at h2
 simpa [px,py,lx,ly,hj]using h2
structure Qi(ops:Array Oper)(l:List bJ)(f df es n:Nat)(z:List AV)(ps:List (Nat×cW))(q:Bool):Prop where
 hf:l[f]? =some { dst:=some df,k:=.aG es n z ps,gd:=none,q:=q }
 hz:∀x∈z,w7 x=true
 hp:∀p∈ps,∃u,p.2= .t u∧fj ops f u=true
 hr:∀j o,l[j]? =some o→cD o.k=true→(ff o.k=true∨l9 o=true)∧fj ops j df=false
def wW{ops l f}(h:vw ops l f=true):∃df es n z ps q,Qi ops l f df es n z ps q:=by
 unfold vw at h;split at h
 case h_2=>cases h
 rename_i d es n z ps q hf;simp only[X4,X5,YE]at h;obtain⟨⟨h1,h2⟩,h3⟩:=h;refine⟨d,es,n,z,ps,q,hf,h1,fun p hp=>?_,fun j o hj hk=>?_⟩
 ·have:=h2 p hp;split at this
  ·rename_i u hu;exact⟨u,hu,this⟩
  ·cases this
 ·have:=h3 j (Xr.1 hj).1;rw[hj]at this;simp only[hk,XW,ZI,X4,Zg,YN]at this;exact this
structure kj(P:Program)(l:List bJ)(f df:Nat)(k:aq)(T:Nat→TS)(H:Nat→ah)(m:bY)(w:World)(listed:Array Bool)(θ:Nat)(m1:bY)(tm:Array Value)(w1:World):Prop where
 hθ:θ≤l.length
 hL:θ≤dC l∨∃ (j:Nat) (o:bJ),l[j]? =some o∧cD o.k=false∧j≠f∧dC l≤j∧j < θ
 hS:∀ (j:Nat) (o:bJ),l[j]? =some o→cD o.k=false→j≠f→(j < θ↔listed.getD j false=true)
 hf:f < θ→listed.getD f false=true
 hr:HR P m1 (H θ) w1
 hg:Grow m (H 0) w m1 (H θ) w1
 dX:tm.size= (T 0).length
 h1:∀ (d:Nat),(∀ (j:Nat) (o:bJ),l[j]? =some o→listed.getD j false=true→o.dst≠some d)→VR m1 ((T 0).getD d aB) (tm.getD d undef)
 h2:∀ (d j:Nat) (o:bJ),l[j]? =some o→listed.getD j false=true→o.dst=some d→(j=f→f < θ)→VR m1 ((T (j+1)).getD d aB) (tm.getD d undef)
 pd:listed.getD f false=true→θ≤f→∃e:rQ,BR P m1 w1 e k∧e.own=true∧w.heap.size≤e.cb∧(∀b e',m1 b=some e'→e'.cb≠e.cb)∧∀m':bY,m1.le m'→m' (H f).length=some e→VR m' ((T (f+1)).getD df aB) (tm.getD df undef)
def wK{P cq f}(hmix:P.follows .mixedOrders=true){ops l}(hed:j7 (Region.before ops) ops=true)(hsl:lE (Region.before ops) ops=true)
  (hc:ep (fun _ o=>bQ P ops (rI cq o) o) ops.toList 0=some l) (hfo:vw ops l f=true) (hmo:qO (Region.before ops) l f=true) {T} {H} (hrow:Row P l T H) (hstab:∀ (i:Nat) (io:bJ),l[i]? =some io→l9 io=true→∀θ,θ≤dC l→dx P io (T i) (H θ) (T (i+1)) (H θ)) (hlate:∀ (i j:Nat) (x y:bJ),l[i]? =some x→l9 x=true→l[j]? =some y→cD y.k=false→dC l≤j→ahead (Region.before ops) i j=true) {m} {a} {w}
  (st:St P m (T 0) (H 0) a w) (ro:Option Nat) (Q:Exit→Act→World→Prop) (hQ:∀m' a' w',St P m' (T l.length) (H l.length) a' w'→Grow m (H 0) w m' (H l.length) w'→a'.defers=a.defers→Q .normal a' w') (id:Nat):
  (Code.region id ops true).wpIn (Fd ro) 0 P Q a w:=by
 obtain⟨df,es,n,zz,ps,qf,F⟩:=wW hfo;refine wpIn_region_any hmix ?_;obtain⟨QG,Qw⟩:=fQ hc;simp only[ZH]at QG;have Up:∀ (j:Nat) (io:bJ),l[j]? =some io→∃o,ops[j]? =some o∧bQ P ops (rI cq o) o=some io:=fun j io hj=>by
  exact Ml
 have Rr:∀ (j:Nat) (io:bJ) (d:Nat),l[j]? =some io→io.dst=some d→∃o,ops[j]? =some o∧o.dst=some d:=fun j io d hj hd=>by
  exact Mc
 have huniq:∀ (i j:Nat) (oi oj:bJ) (d:Nat),l[i]? =some oi→l[j]? =some oj→oi.dst=some d→oj.dst=some d→i=j:=fun i j oi oj d hi hj h1 h2=>by
  exact Mn
 have RU:∀ (j:Nat) (io:bJ),l[j]? =some io→∃v,T (j+1)=put (T j) io.dst v:=fun j io hj=>(hrow.step j io hj).1.put
 have hTl:∀j,j≤l.length→(T j).length= (T 0).length:=by
  intro j
  induction j with
  | zero=>intro _;rfl
  | succ j ih=>
   intro hj;exact z59
 have QC:∀x y t,x≤y→y≤l.length→(∀ (j:Nat) (o:bJ),x≤j→j < y→l[j]? =some o→o.dst≠some t)→(T y).getD t aB= (T x).getD t aB:=by
  intro x y t hxy hy hno;exact Pu
 have Tc:∀ (j:Nat) (io:bJ),l[j]? =some io→cD io.k=true→H (j+1)=H j:=fun j io hj hk=>wL hk (hrow.step j io hj).1
 have Td:∀x k,x+k≤l.length→(∀ (j:Nat) (o:bJ),x≤j→j < x+k→l[j]? =some o→cD o.k=true)→H (x+k)=H x:=by
  intro x k
  induction k with
  | zero=>intro _ _;rfl
  | succ k ih=>
   intro hk hno;exact Pq
 have TB:∀x y,x≤l.length→y≤l.length→(∀ (j:Nat) (o:bJ),l[j]? =some o→cD o.k=false→(j < x↔j < y))→H x=H y:=by
  intro x y hx hy hno;exact Pz
 have QT:f < l.length:=(Xr.1 F.hf).1;obtain⟨cf,mu,tl,Rz,hTf,hHf,hcf⟩:∃cf mu tl,eo (dI n zz) (ps.map fun p=>(p.1,es,val (T f) p.2))=some cf∧T (f+1)=put (T f) (some df) (.slice (H f).length 0 n es)∧H (f+1)=H f++ [.cells cf mu tl]∧∀g:ah,pn P (.aG es n zz ps) (val (T f)) g (.slice g.length 0 n es) (g++ [.cells cf mu tl]):=by
  have Wz:=(hrow.step f _ F.hf).1;generalize hx:T (f+1)=tx at Wz;generalize hy:H (f+1)=hyy at Wz;cases Wz with
  | run hw hb hs=>
   have hs:mq (.aG es n zz ps) _ _ _ _:=hs;obtain⟨c,mu,tl,q1,q2,q3,rfl,rfl⟩:=hs;exact⟨c,mu,tl,q1,rfl,rfl,fun g=>⟨c,mu,tl,q1,q2,q3,rfl,rfl⟩⟩
  | skip hw=>exact absurd trivial hw
 have UL: (aq.cells cf mu tl).live=true:=rfl;have hrp:∀{k:oA},cD k=false→ff k=false:=fun {k} hk=>by
  cases k<;>first| exact hk| (cases hk;done)
 have hld:∀{o:bJ},cD o.k=false→l9 o=false:=fun {o} hk=>by
  exact z156
 have VF:∀ (listed:Array Bool) (θ:Nat) (m1:bY) (tm:Array Value) (w1:World),kj P l f df (.cells cf mu tl) T H m w listed θ m1 tm w1→listed.getD f false=true→θ≤f→(∀ (j:Nat) (o:bJ),l[j]? =some o→cD o.k=false→j < f→listed.getD j false=true)→
   ∃m2,kj P l f df (.cells cf mu tl) T H m w listed (f+1) m2 tm w1:=by
  intro listed θ m1 tm w1 I WY Wr hall;have e:H θ=H f:=TB θ f I.hθ Om fun j oj hj hk=>by
   by_cases hjf:j=f
   ·subst hjf;omega
   ·constructor
    ·intro h;omega
    ·intro h;exact(I.hS j oj hj hk hjf).2 (hall j oj hj hk h)
  obtain⟨en,b1,b2,b3,b4,b5⟩:=I.pd WY Wr;have hr:=I.hr;have hg:=I.hg;rw[e]at hr hg;have Rl:m1 (H f).length=none:=by
   cases hx:m1 (H f).length with
   | none=>rfl
   | some y=>exact absurd (hr.cI _ _ hx) Om
  have SN:m1.le (m1.add (H f).length en):=bY.rp _ Rl;refine⟨m1.add (H f).length en,⟨Om,.inl (by have:=yl F.hf rfl;omega),fun j oj hj hk hjf=>?_,fun _=>WY,by rw[hHf];exact hr.xE UL b1 b4,by rw[hHf];exact hg.xE st.hr.cI hr.cI b2 b3,I.dX,fun d hd=>VR.mono SN _ _ (I.h1 d hd),fun d j oj hj hl hd _=>?_,fun _ hx=>absurd hx Om⟩⟩
  ·constructor
   ·intro h;exact hall j oj hj hk Om
   ·intro h;have:=(I.hS j oj hj hk hjf).2 h;omega
  ·by_cases hjf:j=f
   ·subst hjf;rw[F.hf]at hj;cases hj;cases hd;exact b5 _ SN (by simp[bY.add])
   ·exact VR.mono SN _ _ (I.h2 d j oj hj hl hd fun z=>absurd z hjf)
 have RT:∀ (listed:Array Bool) (θ:Nat) (m1:bY) (a1:Act) (w1:World),(∀i,i < ops.size→listed.getD i false=true)→kj P l f df (.cells cf mu tl) T H m w listed θ m1 a1.tmps w1→f < θ→a1.defers=a.defers→Q .normal a1 w1:=by
  intro listed θ m1 a1 w1 hall I hfθ hd;have e:=TB θ l.length I.hθ (XH _) fun j o hj hk=>by
   have SC:=(Xr.1 hj).1;by_cases hjf:j=f
   ·subst hjf;omega
   ·have:=(I.hS j o hj hk hjf).2 (hall j Om);omega
  have hr:=I.hr;have hg:=I.hg;rw[e]at hr hg;have dX:=I.dX;refine hQ m1 a1 w1 ⟨hr,cH.gL ?_ ?_⟩ hg hd
  ·exact F5
  ·intro t x hx;have hlt:=(Xr.1 hx).1;have QX:t < a1.tmps.size:=by have:=hTl l.length (XH _);omega
   have ex: (T l.length).getD t aB=x:=by simp[List.getD,hx]
   have ey:a1.tmps.getD t undef=a1.tmps[t]:=by simp[Yh,Yl QX]
   refine⟨a1.tmps[t],Si,?_⟩;rw[←ex,←ey];by_cases hw:∃ (j:Nat) (o:bJ),l[j]? =some o∧o.dst=some t
   ·obtain⟨j,o,hj,ho⟩:=hw;have SC:=(Xr.1 hj).1;rw[QC (j+1) l.length t Om (XH _) (fun k o' a2 a3 a4 a5=>by have:=huniq j k o o' t hj a4 ho a5;omega)];exact I.h2 t j o hj (hall j Om) ho fun _=>hfθ
   ·rw[QC 0 l.length t Om (XH _) (fun k o' _ _ h4 h5=>hw ⟨k,o',h4,h5⟩)];exact I.h1 t fun j o hj _ ho=>hw ⟨j,o,hj,ho⟩
 have hdone:∀ (listed:Array Bool) (θ:Nat) (m1:bY) (a1:Act) (w1:World),(∀i,i < ops.size→listed.getD i false=true)→kj P l f df (.cells cf mu tl) T H m w listed θ m1 a1.tmps w1→a1.defers=a.defers→Q .normal a1 w1:=by
  intro listed θ m1 a1 w1 hall I hd;by_cases hfθ:f < θ
  ·exact RT listed θ m1 a1 w1 hall I hfθ hd
  ·obtain⟨m2,I2⟩:=VF listed θ m1 a1.tmps w1 I (hall f Om) Om fun j o hj _ _=>hall j (by have:=(Xr.1 hj).1;omega)
   exact RT listed (f+1) m2 a1 w1 hall I2 Om hd
 have key:∀ (fuel:Nat) (listed:Array Bool) (θ:Nat) (m1:bY) (a1:Act) (w1:World),listed.size=ops.size→qt listed ops.size≤fuel→
   (∀j x,listed.getD j false=true→x < ops.size→ahead (Region.before ops) x j=true→listed.getD x false=true)→kj P l f df (.cells cf mu tl) T H m w listed θ m1 a1.tmps w1→a1.defers=a.defers→wpAnyIn (Fd ro) 0 P .any ops Q fuel listed a1 w1:=by
  intro fuel
  induction fuel with
  | zero=>
   intro listed θ m1 a1 w1 QE hu hcl I hd;have hall:=kQ ops.size (show qt listed ops.size=0 by omega);exact⟨lH QE hall,hdone listed θ m1 a1 w1 hall I hd⟩
  | succ fuel ih=>
   intro listed θ m1 a1 w1 QE hu hcl I hd;refine⟨fun hrn=>hdone listed θ m1 a1 w1 (lG hed QE hrn) I hd,fun i hi=>?_⟩;obtain⟨o,ho,Ro,Vh⟩:=(iS QE).1 hi;have hin:i < ops.size:=(XM.1 ho).1;obtain⟨io,hio,QA⟩:=Qw i o (by simpa using ho);have QA:bQ P ops (rI cq o) o=some io:=QA;obtain⟨bS,_⟩:=hrow.step i io hio;have hahead:∀x,x < ops.size→ahead (Region.before ops) x i=true→listed.getD x false=true:=fun x hx ha=>by
    exact LP
   have Sl:∀j x,(listed.setIfInBounds i true).getD j false=true→x < ops.size→ahead (Region.before ops) x j=true→(listed.setIfInBounds i true).getD x false=true:=by
    intro j x hj hx ha;exact LO
   have T3:qt (listed.setIfInBounds i true) ops.size≤fuel:=by
    exact z76
   have hne:∀j,j≠i→(listed.setIfInBounds i true).getD j false=listed.getD j false:=fun j hj=>by rw[cZ Om,XG hj]
   have hlt: (listed.setIfInBounds i true).getD i false=true:=by rw[cZ Om,XI rfl]
   have QU:io.dst=o.dst:=(dm QA).1;have hslot:∀ (θ:Nat) (m1:bY) (tm:Array Value) (w1:World),kj P l f df (.cells cf mu tl) T H m w listed θ m1 tm w1→(listed.getD f false=true→θ≤f→i < f∨fj ops i df=false)→∀t,t∈o.looksAt ops→VR m1 ((T i).getD t aB) (tm.getD t undef):=by
    intro θ m1 tm w1 I hnp t ht;by_cases hex:∃ (x:Nat) (ox:bJ),l[x]? =some ox∧listed.getD x false=true∧ox.dst=some t
    ·obtain⟨x,ox,hx,hxl,TF⟩:=hex;obtain⟨oo,SR,TW⟩:=Rr x ox t hx TF;have hxi:x < i:=by
      by_cases e1:x=i
      ·subst e1;rw[Ro]at hxl;cases hxl
      ·by_cases e2:x < i
       ·exact e2
       ·have e3:=(cL hsl (show i < x by omega) ho SR).2 t TW ht;have e4:=hcl x i hxl hin e3;rw[Ro]at e4;cases e4
     rw[QC (x+1) i t Om Om (fun k o' a2 a3 a4 a5=>by have:=huniq x k ox o' t hx a4 TF a5;omega)];refine I.h2 t x ox hx hxl TF fun hxf=>?_
     subst hxf;by_cases hh:x < θ
     ·exact hh
     ·rcases hnp hxl (by omega)with h| h
      ·omega
      ·rw[F.hf]at hx;cases hx;cases TF;unfold fj at h;rw[ho]at h;simp only at h;have:=List.contains_iff_mem.2 ht;rw[this]at h;cases h
    ·rw[QC 0 i t Om Om (fun k o' e2 e3 e4 e5=>by
      obtain⟨oo,SR,QU⟩:=Rr k o' t e4 e5;have h6:=((cL hsl e3 SR ho).1 t QU).2 ht;exact hex ⟨k,o',e4,hahead k (XM.1 SR).1 h6,e5⟩)]
     exact I.h1 t fun j oj hj hl QU=>hex ⟨j,oj,hj,hl,QU⟩
   have hadv:i≠f→∀ (θ θ':Nat) (m1 m':bY) (tm:Array Value) (w1 w':World) (cv:Value) (v':AV),kj P l f df (.cells cf mu tl) T H m w listed θ m1 tm w1→θ'≤l.length→(θ'≤dC l∨∃ (j:Nat) (o:bJ),l[j]? =some o∧cD o.k=false∧j≠f∧dC l≤j∧j < θ')→(∀ (j:Nat) (o:bJ),l[j]? =some o→cD o.k=false→j≠f→(j < θ'↔(listed.setIfInBounds i true).getD j false=true))→(f < θ'↔f < θ)→
     T (i+1)=put (T i) o.dst v'→VR m' v' cv→HR P m' (H θ') w'→Grow m1 (H θ) w1 m' (H θ') w'→kj P l f df (.cells cf mu tl) T H m w (listed.setIfInBounds i true) θ' m' (gD tm o.dst cv) w':=by
    intro Tx θ θ' m1 m' tm w1 w' cv v' I Wt UP hS' hff RK R2 hr' QL;have SN:=QL.le I.hr.cI;refine⟨Wt,UP,hS',fun h=>?_,hr',I.hg.trans QL st.hr.cI,by rw[eP];exact I.dX,fun d hdn=>?_,fun d j oj hj hl S2 hjf=>?_,fun WY Wr=>?_⟩
    ·rw[hne f (YP Tx)];exact I.hf (hff.1 h)
    ·have Se:o.dst≠some d:=by rw[←QU];exact hdn i io hio hlt
     rw[dy Se];refine VR.mono SN _ _ (I.h1 d fun j oj hj hl=>hdn j oj hj ?_);exact LL
    ·by_cases e1:j=i
     ·subst e1;rw[hio]at hj;cases hj;rw[RK,←QU,S2];exact kW (by rw[I.dX,hTl j Om]) R2
     ·have Se:o.dst≠some d:=fun hx=>by
       exact F9
      rw[dy Se];rw[hne j e1]at hl;exact VR.mono SN _ _ (I.h2 d j oj hj hl S2 fun z=>hff.1 (hjf z))
    ·rw[hne f (YP Tx)]at WY;obtain⟨e,b1,b2,b3,b4,b5⟩:=I.pd WY (by have:=hff.2;omega);obtain⟨c1,c2⟩:=Bj QL I.hr.cI UL b1 b4;have Se:o.dst≠some df:=fun hx=>by
      rw[←QU]at hx;exact Tx (huniq i f io _ df hio F.hf hx rfl)
     refine⟨e,c1,b2,b3,c2,fun m2 UK Qy=>?_⟩;rw[dy Se];exact b5 m2 (bY.le_trans SN UK) Qy
   have Tr:∀cv,(a1.put o.dst cv).tmps=gD a1.tmps o.dst cv:=fun cv=>by cases o.dst<;>rfl
   by_cases Tx:i=f
   ·
    subst Tx;rw[F.hf]at hio;cases hio;have Wr:θ≤i:=by
     by_cases hh:i < θ
     ·have:=I.hf hh;rw[Ro]at this;cases this
     ·omega
    refine uJ ho QA rfl I.hr.gv I.hr (hslot θ m1 a1.tmps w1 I fun h=>by rw[Ro]at h;cases h) (hcf (H θ)) ro _ Q ?_;intro cv m' w' hv hr' QL;have hclos:∀x∈cf,iN (H θ).length x:=rf (fun x hx=>zA (F.hz x (uh hx))) (fun p hp=>by
     obtain⟨q,hq,rfl⟩:=X2.1 hp;obtain⟨u,hu,U9⟩:=F.hp q hq;have hu2:u∈o.looksAt ops:=by
      unfold fj at U9;rw[ho]at U9;exact List.contains_iff_mem.1 U9
     have:=hslot θ m1 a1.tmps w1 I (fun h=>by rw[Ro]at h;cases h) u hu2;show iN _ (val (T i) q.2);rw[hu];exact⟨m1,_,I.hr.cI,this⟩) Rz
    have hcb:pR (H θ).length (.cells cf mu tl):=fun j x hx=>hclos x (Yo hx)
    have hup:m'.dB (H θ).length=m1:=by
     funext b;unfold bY.dB;by_cases hb:b < (H θ).length
     ·rw[XI hb];exact QL.ext b hb
     ·rw[XG hb];cases hx:m1 b with
      | none=>rfl
      | some e=>exact absurd (I.hr.cI b e hx) hb
    have Rv:=HR.forget I.hr hr' QL;have Uj:=QL.forget;rw[hup]at Rv Uj;have T2:=hv;rw[VR]at T2;obtain⟨e,ca,cap,he,Rk⟩:=T2;have hb:=(hr'.dN _ e (.cells cf mu tl) he Si).cut hcb;rw[hup]at hb;obtain⟨ho1,hc⟩:=QL.new _ e (XH _) he;have hcbl:w1.heap.size≤e.cb:=by
     rcases hc with hc| ⟨b0,e0,c1,c2,c3,c4,c5⟩
     ·exact hc
     ·rw[fq (I.hr.cI _ _ c1),c4]at c5;cases c5
    have R5:o.dst=some df:=QU.symm;refine ih _ θ m1 (a1.put o.dst cv) w' (by simp[QE]) T3 Sl ?_ (by rw[put_defers];exact hd);rw[Tr];refine⟨I.hθ,I.hL,fun j oj hj hk hjf=>by rw[hne j hjf];exact I.hS j oj hj hk hjf,fun h=>by omega,Rv,I.hg.trans Uj st.hr.cI,by rw[eP];exact I.dX,fun d hdn=>?_,fun d j oj hj hl S2 hjf=>?_,fun _ _=>⟨e,hb,ho1,Yi I.hg.size hcbl,fun b e' RJ=>by have:=I.hr.lt b e' RJ;omega,fun m2 UK Qy=>?_⟩⟩
    ·have Se:o.dst≠some d:=by rw[R5];exact hdn i _ F.hf hlt
     rw[dy Se];refine I.h1 d fun j oj hj hl=>hdn j oj hj ?_
     exact LL
    ·by_cases e1:j=i
     ·have:=hjf e1;omega
     ·have Se:o.dst≠some d:=fun hx=>by
       rw[R5]at hx;exact e1 (huniq j i oj _ d hj F.hf S2 hx)
      rw[dy Se];rw[hne j e1]at hl;exact I.h2 d j oj hj hl S2 hjf
    ·rw[hTf,R5];exact kW (by rw[I.dX,hTl i Om]) (by rw[VR];exact⟨e,ca,cap,Qy,Rk⟩)
   by_cases RD:cD io.k=true
   ·
    obtain⟨Tt,SB⟩:=F.hr i io hio RD;have SP:dx P io (T i) (H θ) (T (i+1)) (H θ):=by
     rcases Tt with hp| hp
     ·exact(wP hp bS).2 _
     ·refine hstab i io hio hp θ ?_;rcases I.hL with h| ⟨j,oj,h1,h2,h5,h3,h4⟩
      ·exact h
      ·have e:=hcl j i ((I.hS j oj h1 h2 h5).1 h4) hin (hlate i j io oj hio hp h1 h2 h3);rw[Ro]at e;cases e
    refine fg ho QA I.hr.gv I.hr (by rw[I.dX,hTl i Om]) (hslot θ m1 a1.tmps w1 I fun _ _=>.inr SB) SP ro _ Q ?_;intro cv v' m' w' RK R2 hrx hgx;refine ih _ θ m' (a1.put o.dst cv) w' (by simp[QE]) T3 Sl ?_ (by rw[put_defers];exact hd);rw[Tr];refine hadv Tx θ θ m1 m' a1.tmps w1 w' cv v' I I.hθ I.hL (fun j oj hj hk hjf=>?_) Iff.rfl RK R2 hrx hgx;have hji:j≠i:=fun e=>by
     subst e;rw[hio]at hj;cases hj;rw[RD]at hk;cases hk
    rw[hne j hji];exact I.hS j oj hj hk hjf
   ·have RN:cD io.k=false:=by simpa using RD
    have hheavy:∀ (j:Nat) (oj:bJ),l[j]? =some oj→cD oj.k=false→j < i→listed.getD j false=true:=fun j oj hj hk hji=>
     hahead j (by have:=(Xr.1 hj).1;omega) (pD hmo hji hj hio (hrp hk) (hrp RN) (hld hk) (hld RN) Tx)
    have hlate:∀ (j:Nat) (oj:bJ),l[j]? =some oj→cD oj.k=false→j≠f→i < j→listed.getD j false=false:=fun j oj hj hk hjf hij=>by
     cases hx:listed.getD j false with
     | false=>rfl
     | true=>
      have e3:=pD hmo hij hio hj (hrp RN) (hrp hk) (hld RN) (hld hk) hjf;have e4:=hcl j i hx hin e3;rw[Ro]at e4;cases e4
    obtain⟨Wa,m2,I1,hff⟩:∃Wa m2,kj P l f df (.cells cf mu tl) T H m w listed Wa m2 a1.tmps w1∧(f < Wa↔f < i):=by
     by_cases hfi:f < i
     ·have WY:=hheavy f _ F.hf rfl hfi;by_cases hfθ:f < θ
      ·exact⟨θ,m1,I,Om⟩
      ·obtain⟨m2,I2⟩:=VF listed θ m1 a1.tmps w1 I WY Om fun j oj hj hk hjf=>hheavy j oj hj hk Om
       exact⟨f+1,m2,I2,Om⟩
     ·refine⟨θ,m1,I,⟨fun h=>?_,fun h=>absurd h hfi⟩⟩;have:=(I.hS i io hio RN Tx).1 Om;rw[Ro]at this;cases this
    have hHi:H Wa=H i:=TB Wa i I1.hθ Om fun j oj hj hk=>by
     by_cases hjf:j=f
     ·subst hjf;exact hff
     ·constructor
      ·intro Ug;have Sg:=(I1.hS j oj hj hk hjf).1 Ug;by_cases e1:j=i
       ·exact F4
       ·by_cases e2:j < i
        ·exact e2
        ·exact IU
      ·intro hji;exact(I1.hS j oj hj hk hjf).2 (hheavy j oj hj hk hji)
    refine fg ho QA I1.hr.gv I1.hr (by rw[I1.dX,hTl i Om]) (hslot Wa m2 a1.tmps w1 I1 fun _ h2=>.inl Om) (by rw[hHi];exact bS) ro _ Q ?_;intro cv v' m' w' RK R2 hrx hgx;refine ih _ (i+1) m' (a1.put o.dst cv) w' (by simp[QE]) T3 Sl ?_ (by rw[put_defers];exact hd);rw[Tr];refine hadv Tx Wa (i+1) m2 m' a1.tmps w1 w' cv v' I1 Om (by by_cases hc:i+1≤dC l;exact .inl hc;exact .inr ⟨i,io,hio,RN,Tx,Om,Om⟩) (fun j oj hj hk hjf=>?_) Om RK R2 hrx hgx;by_cases e1:j=i
    ·subst e1;exact⟨fun _=>hlt,fun _=>by omega⟩
    ·rw[hne j e1];constructor
     ·intro hji;exact hheavy j oj hj hk Om
     ·intro Sg;by_cases e2:j < i
      ·omega
      ·exact IU
 have Qv:∀j,(Array.replicate ops.size false).getD j false=false:=fun j=>by
  exact z70
 refine key ops.size (Array.replicate ops.size false) 0 m a _ Si ?_ (fun j x hj _ _=>by simp[Qv j]at hj) ⟨X3 _,.inl (X3 _),(fun j oj hj hk _=>⟨fun hx=>absurd hx Om,fun hx=>by simp[Qv j]at hx⟩),(fun hx=>absurd hx Om),st.hr.drew,(Grow.refl m _ w st.hr.cI).drew,?_,(fun d _=>nv st.ts d),(fun d j o _ hj _ _=>by simp[Qv j]at hj),fun hx=>by simp[Qv f]at hx⟩ rfl
 ·exact LR
 ·exact z131
def dR{P ops draw c}(h:mP P ops draw=some c):
  (∃l,c= .ops l∧(cK P ops draw=some l∨(draw=true∧(∃l',cK P ops draw=some l')∧∃cq,ep (fun _ o=>bQ P ops (rI cq o) o) ops.toList 0=some l∧nH (Region.before ops) l=true∧l.any l9=false)))∨
  (∃l,c= .rF l∧draw=true∧(∃l',cK P ops draw=some l')∧ep (fun _ o=>bQ P ops false o) ops.toList 0=some l)∨
  (∃l,c= .kX l∧draw=true∧(∃l',cK P ops draw=some l')∧∃cq,ep (fun _ o=>bQ P ops (rI cq o) o) ops.toList 0=some l∧(nH (Region.before ops) l=true∨∃f,vw ops l f=true∧qO (Region.before ops) l f=true)∧mK (Region.before ops) l=true):=by
 unfold mP at h;split at h
 ·cases h
 ·rename_i l hl;split at h
  ·rename_i hq;split at h
   ·rename_i l' l2 l3 Qz hl2 WZ;split at h
    ·rename_i hm;rw[X4,YN]at hm;cases h;exact .inl ⟨l',rfl,.inr ⟨hq.2,⟨l,hl⟩,0,Qz,hm.1,hm.2⟩⟩
    ·split at h
     ·rename_i hm;rw[X4,YN]at hm;cases h;exact .inl ⟨l2,rfl,.inr ⟨hq.2,⟨l,hl⟩,1,hl2,hm.1,hm.2⟩⟩
     ·split at h
      ·exact z49
      ·split at h
       ·split at h
        ·rename_i hm;rw[X4,X4]at hm;cases h;exact .inr (.inr ⟨l3,rfl,hq.2,⟨l,hl⟩,2,WZ,.inl hm.1.2,hm.2⟩)
        ·cases h;exact .inr (.inl ⟨l',rfl,hq.2,⟨l,hl⟩,Qz⟩)
       ·split at h
        ·rename_i hm;rw[X4]at hm;cases h;exact .inr (.inr ⟨l3,rfl,hq.2,⟨l,hl⟩,2,WZ,.inl hm.1,hm.2⟩)
        ·split at h
         ·exact z49
         ·cases h;exact .inl ⟨l,rfl,.inl hl⟩
   ·cases h
  ·cases h;exact .inl ⟨l,rfl,.inl hl⟩
def Marks(m:bY)(w:World)(lo:Nat)(ds:List Deferred):Prop:=
 ∃rs:List Nat,ds=rs.map (fun r=>({ target:=.collected r,args:=#[] }:Deferred))∧rs.Nodup∧∀r∈rs,lo≤r∧w.heap[r]? =some (.deferred (some []))∧∀b e,m b=some e→e.cb≠r
def Marks.nil(m:bY)(w:World)(lo:Nat):Marks m w lo []:=⟨[],rfl,Si,Si⟩
def Marks.grow{m m' h h' w w' lo ds}(k:Marks m w lo ds)(g:Grow m h w m' h' w')(hd:∀b e,m b=some e→b < h.length):Marks m' w' lo ds:=by
 obtain⟨rs,h1,h2,h3⟩:=k;refine⟨rs,h1,h2,fun r hr=>?_⟩;obtain⟨a,b,c⟩:=h3 r hr;have hlt:r < w.heap.size:=(XM.1 b).1;refine⟨a,?_,?_⟩
 ·rw[g.frame r hlt (fun b e hb _=>c b e hb)];exact b
 ·intro b' e hb;by_cases hx:b' < h.length
  ·rw[g.ext b' hx]at hb;exact c b' e hb
  ·obtain⟨_,hc⟩:=g.new b' e Om hb;rcases hc with hc| ⟨b0,e0,c1,c2,_⟩
   ·omega
   ·rw[←c2];exact c b0 e0 c1
def Ev(P:Program)(ro:Option Nat)(c:aj)(ts:TS)(h:ah)(e:Ex)(ts':TS)(h':ah):Prop:=
 ∀cc,compile P cc=some c→∀ (m:bY) (a:Act) (w:World) (lo:Nat),lo≤w.heap.size→St P m ts h a w→Marks m w lo a.defers→∀Q:Exit→Act→World→Prop,
  (∀m' a' w',St P m' ts' h' a' w'→Grow m h w m' h' w'→Marks m' w' lo a'.defers→Q e.BX a' w')→cc.wpIn (Fd ro) 0 P Q a w
section
variable {P:Program} {b:Frame} {a:Act} {k:List Item} {cs:List Frame} {w:World} {Q:Exit→Act→World→Prop} {F:Fence} {n:Nat}
def fR{c}:step P (lone (b.atR a (.code (.scope c)::k)) cs w)= .next (lone (b.atR a (.code c:: .inScope c::k)) cs w):=
 step_lone_go (by simp[stepG,stepG.exec,Frame.atR])
def rB{c}:step P (lone (b.atR a (.inScope c::k)) cs w)= .next (lone (b.atR a k) cs w):=
 step_lone_go (by simp[stepG,stepG.exec,Frame.atR])
def noGoto(Q:Exit→Act→World→Prop):Exit→Act→World→Prop
 | .goto _,_,_=>False
 | e,a,w=>Q e a w
def vW{c}(h:c.wpIn F n P (noGoto Q) a w): (Code.scope c).wpIn F n P Q a w:=by
 intro b k cs hro hb hr;have h0: (lone (b.atR a (.code (.scope c)::k)) cs w).fenced P F:=fenced_calm hb hr rfl;obtain⟨e,Uy,TQ,hq,Q7⟩:=h b (.inScope c::k) cs hro hb hr;cases e with
 | normal=>exact⟨.normal,Uy,TQ,hq,.head h0 fR (StepsIn.trans Q7 (.one (fenced_calm hb hr rfl) rB))⟩
 | exit id=>
  have hx:exitTo id (.inScope c::k)=exitTo id k:=by simp[exitTo]
  exact⟨.exit id,Uy,TQ,hq,fun k' hk=>.head h0 fR (Q7.1 k' (by rw[hx];exact hk)),
   fun hr' hk=>let ⟨k₁,h1,h2⟩:=Q7.2 hr' (by rw[hx];exact hk);⟨k₁,h1,.head h0 fR h2⟩⟩
 | goto l=>exact hq.elim
 | ret=>exact⟨.ret,Uy,TQ,hq,.of_steps (.one h0 fR) Q7⟩
 | panic ch=>exact⟨.panic ch,Uy,TQ,hq,.of_steps (.one h0 fR) Q7⟩
 | outgrown=>exact⟨.outgrown,Uy,TQ,hq,.of_steps (.one h0 fR) Q7⟩
end
section
variable {P:Program} {ro:Option Nat} {c x y:aj} {ts RY ts':TS} {h h1 h':ah} {e:Ex}
def Ev.of (H:∀cc,(∀a,cc≠.scope a)→compile P cc=some c→∀ (m:bY) (a:Act) (w:World) (lo:Nat),lo≤w.heap.size→St P m ts h a w→Marks m w lo a.defers→∀Q:Exit→Act→World→Prop,
  (∀m' a' w',St P m' ts' h' a' w'→Grow m h w m' h' w'→Marks m' w' lo a'.defers→Q e.BX a' w')→cc.wpIn (Fd ro) 0 P Q a w):Ev P ro c ts h e ts' h':=by
 intro cc
 induction cc with
 | scope a ih=>
  intro hc m a w lo hlo st hm Q hQ;refine vW (ih (by simpa [compile]using hc) m a w lo hlo st hm _ fun m' a' w' s g k=>?_);cases e<;>exact hQ m' a' w' s g k
 | _=>intro hc;exact H _ Si hc
theorem Ev.skip:Ev P ro .skip ts h .normal ts h:=by
 refine Ev.of fun cc hns hc m a w lo hlo st hm Q hQ=>?_
 have hq:=hQ m a w st (Grow.refl m h w st.hr.cI) hm;cases cc with
 | skip=>exact wpIn_skip hq
 | label l=>exact wpIn_label hq
 | scope a=>exact absurd rfl (hns a)
 | region id ops draw=>rcases dR (by simpa only[compile]using hc)with⟨_,h1,_⟩| ⟨_,h1,_⟩| ⟨_,h1,_⟩<;>cases h1
 | block id a=>simp[compile]at hc
 | loop a=>simp[compile]at hc
 | _=>
  exact Af
theorem Ev.exit{id}:Ev P ro (.exit id) ts h (.exit id) ts h:=by
 refine Ev.of fun cc hns hc m a w lo hlo st hm Q hQ=>?_
 have hq:=hQ m a w st (Grow.refl m h w st.hr.cI) hm;cases cc with
 | exit VA=>simp[compile]at hc;subst hc;exact wpIn_exit hq
 | scope a=>exact absurd rfl (hns a)
 | region id ops draw=>rcases dR (by simpa only[compile]using hc)with⟨_,h1,_⟩| ⟨_,h1,_⟩| ⟨_,h1,_⟩<;>cases h1
 | block id a=>simp[compile]at hc
 | loop a=>simp[compile]at hc
 | _=>
  exact Af
theorem Ev.ret:Ev P ro .ret ts h .ret ts h:=by
 refine Ev.of fun cc hns hc m a w lo hlo st hm Q hQ=>?_
 have hq:=hQ m a w st (Grow.refl m h w st.hr.cI) hm;cases cc with
 | ret=>exact wpIn_ret hq
 | scope a=>exact absurd rfl (hns a)
 | region id ops draw=>rcases dR (by simpa only[compile]using hc)with⟨_,h1,_⟩| ⟨_,h1,_⟩| ⟨_,h1,_⟩<;>cases h1
 | block id a=>simp[compile]at hc
 | loop a=>simp[compile]at hc
 | _=>
  exact Af
theorem Ev.ops(hmix:P.follows .mixedOrders=true){l}(hs:xH P l ts h ts' h'):Ev P ro (.ops l) ts h .normal ts' h':=by
 refine Ev.of fun cc hns hc m a w lo hlo st hm Q hQ=>?_
 cases cc with
 | region id ops draw=>
  rcases dR (by simpa only[compile]using hc)with⟨l',h1,hl⟩| ⟨_,h1,_⟩| ⟨_,h1,_⟩<;>cases h1
  rcases hl with hl| ⟨hd,⟨l2,hl2⟩,cq,hz,hmo,hld⟩
  case inr=>
   subst hd;simp only[cK,XR]at hl2;split at hl2
   case isFalse=>cases hl2
   rename_i QW;simp only[X4]at QW;obtain⟨T,H,rfl,rfl,rfl,rfl,hrow⟩:=hs.row;rw[List.any_eq_false]at hld;exact qG hmix QW.1 QW.2 hz hmo hrow (fun i io hio hl=>absurd hl (hld io (Yo hio))) (fun i j x y hx hl=>absurd hl (hld x (Yo hx))) st ro Q (fun m' a' w' s g d=>hQ m' a' w' s g (by rw[d];exact hm.grow g st.hr.cI)) id
  cases draw with
  | false=>exact wJ hl hs st ro Q (fun m' a' w' s g d=>hQ m' a' w' s g (by rw[d];exact hm.grow g st.hr.cI)) id
  | true=>exact uD hmix hl hs st ro Q (fun m' a' w' s g d=>hQ m' a' w' s g (by rw[d];exact hm.grow g st.hr.cI)) id
 | scope a=>exact absurd rfl (hns a)
 | block id a=>simp[compile]at hc
 | loop a=>simp[compile]at hc
 | _=>
  exact Af
theorem Ev.kX(hmix:P.follows .mixedOrders=true){l T H}(hrow:Row P l T H)(hstab:∀ (i:Nat) (io:bJ),l[i]? =some io→l9 io=true→∀θ,θ≤dC l→dx P io (T i) (H θ) (T (i+1)) (H θ)):Ev P ro (.kX l) (T 0) (H 0) .normal (T l.length) (H l.length):=by
 refine Ev.of fun cc hns hc m a w lo hlo st hm Q hQ=>?_
 cases cc with
 | region id ops draw=>
  rcases dR (by simpa only[compile]using hc)with⟨_,h1,_⟩| ⟨_,h1,_⟩| ⟨l',h1,hd,⟨l2,hl2⟩,cq,hz,hmo,hlo⟩<;>cases h1
  subst hd;simp only[cK,XR]at hl2;split at hl2
  case isFalse=>cases hl2
  rename_i QW;simp only[X4]at QW;rcases hmo with hmo| ⟨f,TK,SY⟩
  case inr=>exact wK hmix QW.1 QW.2 hz TK SY hrow hstab (fun i j x y a1 a2 a3 a4 a5=>pJ hlo a1 a2 a3 a4 a5) st ro Q (fun m' a' w' s g d=>hQ m' a' w' s g (by rw[d];exact hm.grow g st.hr.cI)) id
  exact qG hmix QW.1 QW.2 hz hmo hrow hstab (fun i j x y a1 a2 a3 a4 a5=>pJ hlo a1 a2 a3 a4 a5) st ro Q (fun m' a' w' s g d=>hQ m' a' w' s g (by rw[d];exact hm.grow g st.hr.cI)) id
 | scope a=>exact absurd rfl (hns a)
 | block id a=>simp[compile]at hc
 | loop a=>simp[compile]at hc
 | _=>
  exact Af
theorem Ev.seq(hx:Ev P ro x ts h .normal RY h1)(hy:Ev P ro y RY h1 e ts' h'):Ev P ro (.seq x y) ts h e ts' h':=by
 refine Ev.of fun cc hns hc m a w lo hlo st hm Q hQ=>?_
 cases cc with
 | seq ca cb=>
  simp only[compile]at hc;split at hc
  case h_2=>cases hc
  rename_i x' y' Q1 hcb;cases hc;refine wpIn_seq (hx ca Q1 m a w lo hlo st hm _ fun m1 a1 w1 s1 g1 k1=>?_);exact hy cb hcb m1 a1 w1 lo (Yi hlo g1.size) s1 k1 Q fun m2 a2 w2 s2 g2 k2=>hQ m2 a2 w2 s2 (g1.trans g2 st.hr.cI) k2
 | scope a=>exact absurd rfl (hns a)
 | region id ops draw=>rcases dR (by simpa only[compile]using hc)with⟨_,h1,_⟩| ⟨_,h1,_⟩| ⟨_,h1,_⟩<;>cases h1
 | block id a=>simp[compile]at hc
 | loop a=>simp[compile]at hc
 | _=>
  exact Af
def Ev.uy(hx:Ev P ro x ts h e ts' h')(hne:e≠.normal):Ev P ro (.seq x y) ts h e ts' h':=by
 refine Ev.of fun cc hns hc m a w lo hlo st hm Q hQ=>?_
 cases cc with
 | seq ca cb=>
  simp only[compile]at hc;split at hc
  case h_2=>cases hc
  rename_i x' y' Q1 hcb;cases hc;refine wpIn_seq (hx ca Q1 m a w lo hlo st hm _ fun m1 a1 w1 s1 g1 k1=>?_);have:=hQ m1 a1 w1 s1 g1 k1;cases e<;>first| exact absurd rfl hne| exact this
 | scope a=>exact absurd rfl (hns a)
 | region id ops draw=>rcases dR (by simpa only[compile]using hc)with⟨_,h1,_⟩| ⟨_,h1,_⟩| ⟨_,h1,_⟩<;>cases h1
 | block id a=>simp[compile]at hc
 | loop a=>simp[compile]at hc
 | _=>
  exact Af
def yd{o c}(hc:Ds o=some c):cQ o=some c∧LX P o=true:=by
 cases o<;>first| exact⟨hc,rfl⟩| cases hc
def Bk{m a w}(st:St P m ts h a w){o c}(hc:Ds o=some c):VR m (val ts c) (a.eval o):=
 yt st.hr.gv (yd (P:=P) hc).1 (yd (P:=P) hc).2 (fun t _=>nv st.ts t)
theorem Ev.cond{c b}(hb:val ts c= .bool b)(hx:Ev P ro (if b then x else y) ts h e ts' h'):Ev P ro (.cond c x y) ts h e ts' h':=by
 refine Ev.of fun cc hns hc m a w lo hlo st hm Q hQ=>?_
 cases cc with
 | cond o ca cb=>
  simp only[compile]at hc;split at hc
  case h_2=>cases hc
  rename_i c' x' y' hco Q1 hcb;cases hc;have hv:=Bk st hco;rw[hb,VR]at hv;refine wpIn_cond hv ?_;cases b
  ·exact hx cb hcb m a w lo hlo st hm Q hQ
  ·exact hx ca Q1 m a w lo hlo st hm Q hQ
 | scope a=>exact absurd rfl (hns a)
 | region id ops draw=>rcases dR (by simpa only[compile]using hc)with⟨_,h1,_⟩| ⟨_,h1,_⟩| ⟨_,h1,_⟩<;>cases h1
 | block id a=>simp[compile]at hc
 | loop a=>simp[compile]at hc
 | _=>
  exact Af
def Ex.inBlock(id:Nat):Ex→Ex
 | .exit VA=>if VA=id then .normal else .exit VA
 | e=>e
theorem Ev.block{id}(hx:Ev P ro x ts h e ts' h'):Ev P ro (.block id x) ts h (e.inBlock id) ts' h':=by
 refine Ev.of fun cc hns hc m a w lo hlo st hm Q hQ=>?_
 cases cc with
 | block VA ca=>
  simp only[compile,XQ,aj.block.injEq]at hc;obtain⟨x',Q1,rfl,rfl⟩:=hc;refine wpIn_block (hx ca Q1 m a w lo hlo st hm _ fun m' a' w' s g k=>?_);have:=hQ m' a' w' s g k;cases e with
  | normal=>exact this
  | ret=>exact this
  | exit i=>
   simp only[Ex.BX,Exit.inBlock];simp only[Ex.inBlock]at this;split
   ·rename_i hi;rw[XI hi]at this;exact this
   ·rename_i hi;rw[XG hi]at this;exact this
 | scope a=>exact absurd rfl (hns a)
 | region id ops draw=>rcases dR (by simpa only[compile]using hc)with⟨_,h1,_⟩| ⟨_,h1,_⟩| ⟨_,h1,_⟩<;>cases h1
 | loop a=>simp[compile]at hc
 | _=>
  exact Af
inductive td (P:Program) (ro:Option Nat) (x:aj):TS→ah→Ex→TS→ah→Prop
 | out {ts:TS} {h:ah} {e:Ex} {ts':TS} {h':ah} (hx:Ev P ro x ts h e ts' h') (hne:e≠.normal):td P ro x ts h e ts' h'
 | more {ts:TS} {h:ah} {RY:TS} {h1:ah} {e:Ex} {ts':TS} {h':ah} (hx:Ev P ro x ts h .normal RY h1) (hr:td P ro x RY h1 e ts' h'):td P ro x ts h e ts' h'
theorem Ev.loop(hl:td P ro x ts h e ts' h'):Ev P ro (.loop x) ts h e ts' h':=by
 refine Ev.of fun cc hns hc m a w lo hlo st hm Q hQ=>?_
 cases cc with
 | loop ca=>
  simp only[compile,XQ,aj.loop.injEq]at hc;obtain⟨x',Q1,rfl⟩:=hc;intro b k cs hro hb hr;have key:∀ (m1:bY) (a1:Act) (w1:World),lo≤w1.heap.size→St P m1 ts h a1 w1→Marks m1 w1 lo a1.defers→(∀m' a' w',St P m' ts' h' a' w'→Grow m1 h w1 m' h' w'→Marks m' w' lo a'.defers→Q e.BX a' w')→
    ∃e a' w',Q e a' w'∧ArrivesIn (Machine.fenced P (Fd ro)) P (lone (b.atR a1 (.code ca:: .inLoop ca::k)) cs w1) b k cs e a' w':=by
   clear hQ st hm hlo
   induction hl with
   | out hx hne=>
    rename_i ts h e ts' h';intro m1 a1 w1 hlo s1 k1 hQ;obtain⟨e1,a2,w2,hq,Q7⟩:=hx ca Q1 m1 a1 w1 lo hlo s1 k1 (fun e1 a1 w1=>e1≠.normal∧Q e1 a1 w1) (fun m' a' w' s g k'=>⟨by cases e<;>first| exact absurd rfl hne| simp[Ex.BX],hQ m' a' w' s g k'⟩) b (.inLoop ca::k) cs hro hb hr;exact⟨e1,a2,w2,hq.2,.pass (x:=.inLoop ca) rfl (fun _ _=>.inl hq.1) Q7⟩
   | more hx hr' ih=>
    intro m1 a1 w1 hlo s1 k1 hQ;obtain⟨e1,a2,w2,hq,Q7⟩:=hx ca Q1 m1 a1 w1 lo hlo s1 k1 (fun e1 a2 w2=>e1= .normal∧∃m2,St P m2 _ _ a2 w2∧Grow m1 _ w1 m2 _ w2∧Marks m2 w2 lo a2.defers) (fun m' a' w' s g k'=>⟨rfl,m',s,g,k'⟩) b (.inLoop ca::k) cs hro hb hr;obtain⟨rfl,m2,s2,g2,k2⟩:=hq;obtain⟨e3,a3,w3,hq3,harr3⟩:=ih m2 a2 w2 (Yi hlo g2.size) s2 k2 (fun m' a' w' s g k'=>hQ m' a' w' s (g2.trans g s1.hr.cI) k');exact⟨e3,a3,w3,hq3,.of_steps (StepsIn.trans Q7 (.one (fenced_calm hb hr rfl) stepR_inLoop)) harr3⟩
  obtain⟨e',a',w',hq,Q7⟩:=key m a w hlo st hm hQ;exact⟨e',a',w',hq,.of_steps (.one (fenced_calm hb hr rfl) stepR_loop) Q7⟩
 | scope a=>exact absurd rfl (hns a)
 | region id ops draw=>rcases dR (by simpa only[compile]using hc)with⟨_,h1,_⟩| ⟨_,h1,_⟩| ⟨_,h1,_⟩<;>cases h1
 | block id a=>simp[compile]at hc
 | _=>
  exact Af
end
def du(ts:TS)(h:ah):Nat×Option (Option Nat)→Option AV
 | (t,none)=>some (ts.getD t aB)
 | (a,some n)=>
  match dt (.load n (.c (ts.getD a aB))) (val ts) h with
  | some (v,_)=>some v
  | none=>none
def iI(ts:TS)(h:ah):List (Nat×Option (Option Nat))→Option (List AV)
 | []=>some []
 | r::rs=>
  match du ts h r,iI ts h rs with
  | some v,some vs=>some (v::vs)
  | _,_=>none
def cN(rs:List (Nat×Option (Option Nat)))(ts:TS)(h:ah):Option AV:=
 match iI ts h rs with
 | some [v]=>some v
 | some l=>some (.dJ l)
 | none=>none
def aT(nt:Nat)(args:List AV):TS:=args++List.replicate (nt - args.length) aB
def Ex.leaves:Ex→Bool
 | .normal=>true
 | .ret=>true
 | _=>false
section
variable {P:Program} {m:bY} {h h':ah} {w:World} {v:AV}
def wy{ts a}(st:St P m ts h a w){r x}(hx:tr P r=some x)(hv:du ts h x=some v):
  ∃cv,(match r with
   | .tmp t=>(pure (a.tmps.getD t undef):Sem Value)
   | .cell b t=>do loadVar t (←asAddr (a.tmps.getD b undef))).run P w= .ok cv w∧VR m v cv:=by
 cases r with
 | tmp t=>cases hx;cases hv;exact⟨_,rfl,nv st.ts t⟩
 | cell b t=>
  simp only[tr,XQ]at hx;obtain⟨n,hn,rfl⟩:=hx;simp only[du]at hv;split at hv
  case h_2=>cases hv
  rename_i v' h' hf;cases hv;obtain⟨cv,h1,h2,_⟩:=AR (P:=P) (ρ:=val ts) hn st.hr (a:=.c (ts.getD b aB)) (nv st.ts b) hf;refine⟨cv,?_,h2⟩;simp only[dt,val]at hf;split at hf
  case h_2=>cases hf
  rename_i b' o' hb';have hs:=nv st.ts b;rw[hb',VR]at hs;obtain⟨e,_,he⟩:=hs;simp only[he]at h1 ⊢
  simpa [Instr.loadAt,Instr.sureAddr,asAddr]using h1
theorem pz{ts:TS}{a:Act}(st:St P m ts h a w):∀{rs:List ResultVar} {xs:List (Nat×Option (Option Nat))} {vs:List AV},rs.mapM (tr P)=some xs→iI ts h xs=some vs→
  ∃SJ,(rs.mapM (m:=Sem) fun
   | .tmp t=>pure (a.tmps.getD t undef)
   | .cell b t=>do loadVar t (←asAddr (a.tmps.getD b undef))).run P w= .ok SJ w∧cH m vs SJ
 | [],xs,vs,hx,hv=>by
  simp at hx;subst hx;cases hv;exact⟨[],rfl,bC.2 rfl⟩
 | r::rs,xs,vs,hx,hv=>by
  simp only[ZU,ZF,Z1]at hx;cases hr:tr P r with
  | none=>simp[hr]at hx
  | some x=>
   cases hrs:rs.mapM (tr P)with
   | none=>simp[hr,hrs]at hx
   | some xs'=>
    simp[hr,hrs]at hx;subst hx;simp only[iI]at hv;split at hv
    case h_2=>cases hv
    rename_i v vs' h1 h2;cases hv;obtain⟨cv,hc,Qr⟩:=wy st hr h1;obtain⟨SJ,SK,hvrs⟩:=pz st hrs h2;refine⟨cv::SJ,?_,aS.2 ⟨cv,SJ,rfl,Qr,hvrs⟩⟩;rw[ZU,XP];have RI:=hc;cases r<;>(simp only at RI ⊢;rw[RI];simp only[XF,XP,SK,X7])
def uB{ts:TS}{a:Act}(st:St P m ts h a w){fn:Func}{xs:List (Nat×Option (Option Nat))}(hx:fn.results.toList.mapM (tr P)=some xs)(hv:cN xs ts h=some v):
  ∃cv,(results fn a.tmps).run P w= .ok cv w∧VR m v cv:=by
 unfold cN at hv;have key:∀{vs:List AV},iI ts h xs=some vs→∃SJ:List Value,(results fn a.tmps).run P w= .ok (if h:SJ.length=1 then SJ[0]else .tuple ⟨SJ⟩) w∧cH m vs SJ:=by
  intro vs Re;obtain⟨SJ,h1,h2⟩:=pz st hx Re;refine⟨SJ,?_,h2⟩;unfold results;rw[Array.mapM_eq_mapM_toList,XP];simp only[map_eq_pure_bind,XP];have h1':=h1
  erw [h1']
  simp only[XF,X7];by_cases hc:SJ.length=1
  ·simp[hc]
  ·simp[hc]
 split at hv
 ·rename_i v' Re;cases hv;obtain⟨SJ,h1,h2⟩:=key Re;obtain⟨y,ys,rfl,hy,hys⟩:=aS.1 h2;rw[bC]at hys;subst hys;exact⟨y,by simpa using h1,hy⟩
 ·rename_i l hno Re;cases hv;obtain⟨SJ,h1,h2⟩:=key Re;have hlen:SJ.length≠1:=by
   rw[h2.length];intro hl;obtain⟨z,hz⟩:=List.length_eq_one_iff.1 hl;exact hno z hz
  rw[dif_neg hlen]at h1;exact⟨_,h1,⟨SJ,rfl,h2⟩⟩
 ·cases hv
theorem nI{fn xs}(hx:fn.results.toList.mapM (tr P)=some xs){ts}(hv:cN xs ts h' =some v){m0 h0 w0 lo}(hlo:w0.heap.size≤lo):
  ∀ (ds:List Deferred) (m:bY) (a:Act) (w:World),St P m ts h' a w→Grow m0 h0 w0 m h' w→Marks m w lo ds→LeavesInM Fence.wide 0 P fn a.tmps (Rel P m0 h0 w0 v h') ds .returning w
 | [],m,a,w,st,g,_=>by
  obtain⟨cv,h1,h2⟩:=uB st hx hv;exact⟨cv,h1,cv,m,rfl,h2,st.hr,g⟩
 | d::ds,m,a,w,st,g,k=>by
  obtain⟨rs,h1,h2,h3⟩:=k;cases rs with
  | nil=>simp at h1
  | cons r rs=>
   simp only[Yr,List.cons.injEq]at h1;obtain⟨rfl,rfl⟩:=h1;obtain⟨hl,hh,hm⟩:=h3 r Si;have hoth:∀i,i≠r→(w.putObj r (.deferred none)).heap[i]? =w.heap[i]? :=fun i hi=>World.putObj_heap_other hi
   refine⟨Si,.inl ⟨r,_,rfl,run_takeDeferred hh,?_⟩⟩;refine nI hx hv hlo _ m a _ ⟨⟨st.hr.cI,fun b e k hb hk=>(st.hr.dN b e k hb hk).heap (hoth _ (hm b e hb)),st.hr.sep,st.hr.fN,fun b e hb=>by simpa using st.hr.lt b e hb⟩,st.ts⟩
    ⟨g.ext,g.len,g.new,g.tl,by simpa using g.size,g.os,g.out,g.tape,fun i hi hno=>?_⟩ ⟨rs,rfl,(Z3.1 h2).2,fun r' hr'=>?_⟩
   ·rw[hoth i Om];exact g.frame i hi hno
   ·obtain⟨c1,c2,c3⟩:=h3 r' (Yb _ hr');refine⟨c1,?_,c3⟩;rw[hoth r' (fun x=>(Z3.1 h2).1 (x▸hr'))];exact c2
def gu{f A}(hA:ai P f=some A):∃fn c,P.funcs[f]? =some fn∧fn.body=some c∧compile P c=some A.body∧fn.results.toList.mapM (tr P)=some A.rs∧fn.ntmps=A.nt∧(fn.name== "runtime.NumGoroutine")=false:=by
 unfold ai at hA;split at hA
 case h_1=>cases hA
 rename_i fn hf;split at hA
 case h_1=>cases hA
 rename_i c hb;split at hA
 case h_2=>cases hA
 rename_i b rs hc hr;split at hA
 case isTrue=>cases hA
 rename_i hn;cases hA;exact⟨fn,c,hf,hb,hc,hr,rfl,by simpa using hn⟩
def lA.J8{f A}(hA:ai P f=some A){args e ts'}(hev:Ev P none A.body (aT A.nt args) h e ts' h')(he:e.leaves=true)(hv:cN A.rs ts' h' =some v):lA P f args h v h':=by
 intro m w vs hr hargs;obtain⟨fn,c,hf,hb,hc,hres,hnt,_⟩:=gu hA;rw[←callsIn_wide (n:=0)];refine callsIn_of_wp_marks hf hb trivial ?_;refine hev c hc m _ w w.heap.size (XH _) ⟨hr,?_⟩ (Marks.nil m w _) _ ?_
 ·have: ((⟨vs⟩:Array Value)++Array.replicate (fn.ntmps - (⟨vs⟩:Array Value).size) undef).toList=vs++List.replicate (A.nt - args.length) undef:=by
   rw[hnt];simp[hargs.length]
  rw[this];refine cH.append hargs (cH.gL Si fun i x hx=>?_);rw[List.getElem?_replicate]at hx ⊢;split at hx
  ·rename_i hlt;cases hx;rw[XI hlt];exact⟨undef,rfl,jG m⟩
  ·cases hx
 ·intro m' a' w' s g k;have:=nI hres hv (XH _) a'.defers m' a' w' s g k;cases e<;>first| exact this| cases he
def eU.yf{f A}(hA:ai P f=some A){a c args}(hs:lA P f (a++args++c) h v h'):eU P (.func (.func f) a c) args h v h':=by
 intro m w cv vs hr hf hargs;rw[VR]at hf;obtain⟨f',a',c',rfl,hfn,ha,hc⟩:=hf;simp only[zT]at hfn;subst hfn;refine⟨_,fun w=>rfl,?_⟩;obtain⟨fn,cc,hfn,hb,_,_,_,hn⟩:=gu hA;simp only[invoke];rw[jX hfn (by rw[hb];rfl) hn];show CallsIn Fence.wide 0 P f _ w _;rw[callsIn_wide];have:=hs m w (a'++vs++c') hr (cH.append (cH.append ha hargs) hc)
 simpa using this
def iw(P:Program)(u:TypeId)(name:String):Option FuncId:=
 match P.info? u,P.underlying u with
 | some i,some d=>
  match i.methods.find? (·.name==name)with
  | some m=>
   match m.path.toList,m.func,d with
   | [],some (_,false),.pointer _=>none
   | [],some (f,false),_=>some f
   | _,_,_=>none
  | none=>none
 | _,_=>none
def wm{u:TypeId}{name f}(hm:iw P u name=some f)(n:Nat)(v:Value)(w:World): (method (n+1) u v name).run P w= .ok (f,v) w:=by
 unfold iw at hm;split at hm
 case h_2=>cases hm
 rename_i i d hi hd;split at hm
 case h_2=>cases hm
 rename_i mm SE;split at hm
 case h_3=>cases hm
 case h_1=>cases hm
 rename_i f' hp hfn hnp;cases hm;have hti: (typeInfo u).run P w= .ok i w:=by simp[typeInfo,hi]
 rw[method];simp only[XP,hti,XF,SE,hp,follow,X7,hfn];have QQ:∀wr,(receiverAt u (.val v) false wr).run P w= .ok v w:=by
  intro wr;unfold receiverAt;simp only[XP,XN hd,XF];rfl
 simp only[QQ,XF]
def eU.Dt{u:TypeId}{name f A}(hm:iw P u name=some f)(hA:ai P f=some A){a args}(hs:lA P f (a::args) h v h'):eU P (.func (.method name) [] []) (.pW u a::args) h v h':=by
 intro m w cv vs hr hf hargs;rw[VR]at hf;obtain⟨f',a',c',rfl,hfn,ha,hc⟩:=hf;simp only[zT]at hfn;subst hfn;rw[bC]at ha hc;subst ha;subst hc;obtain⟨x,vs,rfl,hx,Re⟩:=aS.1 hargs;rw[VR]at hx;obtain⟨v',rfl,hx⟩:=hx;refine⟨_,fun w=>rfl,?_⟩;obtain⟨fn,cc,hfn,hb,_,_,_,hn⟩:=gu hA;have e0: ((#[]++ (⟨.iface u v'::vs⟩:Array Value)):Array Value)[0]? =some (.iface u v'):=Si
 have e1: ((#[]++ (⟨.iface u v'::vs⟩:Array Value)):Array Value).extract 1 ((#[]++ (⟨.iface u v'::vs⟩:Array Value)):Array Value).size= ⟨vs⟩:=by
  apply ZX;simp
 simp only[invoke,e0,e1,callMethod,XP,program];have hmt:=wm hm (P.types.size+Made.depth - 1) v' w;have hdep:0 < Made.depth:=De
 have hne:P.types.size+Made.depth - 1+1=P.types.size+Made.depth:=Om
 rw[hne]at hmt;show Ct P (Rel P m h w v h') ((Result.ok P w).andThen fun a w'=>(Sem.run P (method (a.types.size+Made.depth) u v' name) w').andThen fun a w'=>Sem.run P (callFunc a.fst (#[a.snd]++ ⟨vs⟩)) w');simp only[XF,hmt];rw[jX hfn (by rw[hb];rfl) hn];show CallsIn Fence.wide 0 P f _ w _;rw[callsIn_wide];have:=hs m w (v'::vs) hr (aS.2 ⟨_,_,rfl,hx,Re⟩);have e2: (#[v']++ (⟨vs⟩:Array Value))= ⟨v'::vs⟩:=by apply ZX;simp
 rw[e2];exact this
end
def setArgs:TS→List Nat→List AV→TS
 | ts,p::ps,v::vs=>setArgs (ts.set p v) ps vs
 | ts,_,_=>ts
section
variable {P:Program} {m:bY} {h h':ah} {w:World} {v:AV}
def HR.aside(hr:HR P m h w)(o:Obj):HR P m h (w.alloc o):=
 ⟨hr.cI,fun b e k hb hk=>(hr.dN b e k hb hk).heap (Go.RowKit.Below.heap_alloc w o _ (hr.lt b e hb)),hr.sep,hr.fN,fun b e hb=>by have:=hr.lt b e hb;simp;omega⟩
def Grow.aside(hr:HR P m h w)(o:Obj):Grow m h w m h (w.alloc o):=
 ⟨fun _ _=>rfl,XH _,fun b e hb he=>absurd (hr.cI b e he) Om,fun _ _ h=>h,Si,rfl,rfl,rfl,fun i hi _=>Go.RowKit.Below.heap_alloc w o i hi⟩
theorem pt:∀{ps} {args} {ts} {tmps} {vs},cH m ts tmps.toList→cH m args vs→cH m (setArgs ts ps args) ((ps.zip vs).foldl (fun(t:Array Value) (p:Nat×Value)=>t.setIfInBounds p.1 p.2) tmps).toList
 | [],_,_,_,_,ht,_=>by simpa [setArgs]using ht
 | p::ps,[],ts,tmps,vs,ht,ha=>by rw[bC]at ha;subst ha;simpa [setArgs]using ht
 | p::ps,x::args,ts,tmps,vs,ht,ha=>by
  obtain⟨y,ys,rfl,hy,hys⟩:=aS.1 ha;simp only[List.zip_cons_cons,Z2,setArgs];exact pt (by rw[Array.toList_setIfInBounds];exact ht.set p hy) hys
theorem eU.yield{l ex ex2 ex4 e ts TD ts3 tb tc ps pb pc asg body ab ac bb bc h2 h4 args st4}
  (hl:h[l]? =some (.loop .ready ex ts ps asg body)) (hlen:args.length=ps.length)
  (hasg:∀r,Ev P (some r) asg (setArgs ts ps args) h .normal TD h2) (hl2:h2[l]? =some (.loop .ready ex2 tb pb ab bb))
  (hbody:∀r,Ev P (some r) body TD (h2.set l (.loop .busy ex2 tb pb ab bb)) e ts3 h4) (hl4:h4[l]? =some (.loop st4 ex4 tc pc ac bc)):
  eU P (.func (.yield l) [] []) args h (.bool (decide (e= .normal))) (h4.set l (.loop (if e= .normal then .ready else .done) e tc pc ac bc)):=by
 intro m w cv vs hr hf hargs;rw[VR]at hf;obtain⟨f',a',c',rfl,hfn,ha,hc⟩:=hf;rw[bC]at ha hc;subst ha;subst hc;obtain⟨el,Un,rfl⟩:=hfn;refine⟨_,fun w=>rfl,?_⟩;obtain⟨hown,fn,tmps,Rh,QN,df,hh,Qn,Q1,hcb⟩:=hr.dN l el _ Un hl;have hy:=run_yield (P:=P) (args:=(#[]++ ⟨vs⟩:Array Value)) hh (by simp[hargs.length,hlen]);simp only[invoke];rw[hy];show RoundIn Fence.wide 0 P el.cb fn _ Rh QN w _;refine roundIn_of_wpIn trivial ?_;have Sy:cH m (setArgs ts ps args) (((⟨ps⟩:Array Tmp).zip (#[]++ ⟨vs⟩:Array Value)).foldl (fun tmps (t,a)=>tmps.setIfInBounds t a) tmps).toList:=by
  have:=pt (ps:=ps) Qn hargs;rw[←Array.foldl_toList,Array.toList_zip]
  simpa using this
 refine hasg el.cb Rh Q1 m _ w w.heap.size (XH _) ⟨hr,Sy⟩ (Marks.nil m w _) _ fun m1 a1 w1 s1 g1 k1=>?_
 have Vg:m1 l=some el:=by rw[g1.ext l (hr.cI _ _ Un)];exact Un
 obtain⟨_,fn2,Vt,V5,Uw,df2,hh2,hts2,hca2,hcb2⟩:=s1.hr.dN l el _ Vg hl2;refine⟨_,run_beginRound hh2 rfl,?_⟩;have hlt1:el.cb < w1.heap.size:=s1.hr.lt _ _ Vg;obtain⟨Rv,g2⟩:=jJ s1.hr (o:=.loop { state:=.busy,pending:=ex2.jump,fn:=fn2,tmps:=Vt,params:=⟨pb⟩,assign:=V5,body:=Uw,defers:=df2 }) Vg hl2 rfl (k':=.loop .busy ex2 tb pb ab bb) (.inl rfl)
  ⟨hown,fn2,Vt,V5,Uw,df2,World.putObj_heap_same hlt1,hts2,hca2,hcb2⟩
 refine hbody el.cb QN hcb m1 a1 _ w.heap.size (Yi g1.size g2.size) ⟨Rv,s1.ts⟩ (k1.grow g2 s1.hr.cI) _ fun m2 a2 w3 s2 g3 k2=>?_
 have hl2':l < h2.length:=(Xr.1 hl2).1;have Xh:m2 l=some el:=by rw[g3.ext l (by simpa using hl2')];exact Vg
 obtain⟨_,fn4,Vs,V4,Uv,df4,hh4,hts4,hca4,hcb4⟩:=s2.hr.dN l el _ Xh hl4;have Rn:el.cb < w3.heap.size:=s2.hr.lt _ _ Xh;have fin:∀j:Option Code,j=e.jump→∃v w',(Instr.endRound el.cb j).run P w3= .ok v w'∧Rel P m h w (.bool (decide (e= .normal))) (h4.set l (.loop (if e= .normal then .ready else .done) e tc pc ac bc)) (.returned v) w':=by
  rintro j rfl;obtain⟨hr4,g4⟩:=jJ s2.hr (o:=.loop { state:=if e= .normal then .ready else .done,pending:=e.jump,fn:=fn4,tmps:=Vs,params:=⟨pc⟩,assign:=V4,body:=Uv,defers:=df4 }) Xh hl4 rfl
   (k':=.loop (if e= .normal then .ready else .done) e tc pc ac bc) (.inl rfl) ⟨hown,fn4,Vs,V4,Uv,df4,World.putObj_heap_same Rn,hts4,hca4,hcb4⟩
  refine⟨_,_,run_endRound e.jump hh4,.bool (decide (e= .normal)),m2,?_,rfl,?_,?_⟩
  ·cases e<;>rfl
  ·have: (if e.jump.isNone=true then LoopState.ready else .done)=if e= .normal then .ready else .done:=by cases e<;>rfl
   simp only[this];exact hr4
  ·have: (if e.jump.isNone=true then LoopState.ready else .done)=if e= .normal then .ready else .done:=by cases e<;>rfl
   simp only[this];exact((g1.trans g2 hr.cI).trans g3 hr.cI).trans g4 hr.cI
 cases e with
 | normal=>exact fin none rfl
 | exit id=>exact fin (some (.exit id)) rfl
 | ret=>exact fin (some .ret) rfl
theorem Ev.eA{g ps ps' asg body asg' body' ts ts' f A a c h2 st ex}(hA:ai P f=some A)(hg:val ts g= .func (.func f) a c)
  (hs:lA P f (a++ [.func (.yield h.length) [] []]++c) (h++ [.loop .ready .normal ts ps asg body]) v h2) (hl:h2[h.length]? =some (.loop st ex ts' ps' asg' body')) (bS:st≠.busy):
  Ev P none (.eA g ps asg body) ts h ex ts (h2.set h.length .dead):=by
 refine Ev.of fun cc hns TM m act w lo hlo s hm Q hQ=>?_
 cases cc with
 | rangeFunc og cps Rh QN=>
  simp only[compile]at TM;split at TM
  case h_2=>cases TM
  rename_i g' x' y' hgo Q1 hcb;cases TM;have hv:=Bk s hgo;rw[hg,VR]at hv;obtain⟨f',ca,Q2,hev,hfn,ha,hc⟩:=hv;simp only[zT]at hfn;subst hfn;obtain⟨W1,Ta⟩:∃W1,w.alloc (.deferred (some []))=W1:=⟨_,rfl⟩;have hsz1:W1.heap.size=w.heap.size+1:=by rw[←Ta];simp
  have hr1:HR P m h W1:=by rw[←Ta];exact s.hr.aside _
  have g1:Grow m h w m h W1:=by rw[←Ta];exact Grow.aside s.hr _
  have TO:W1.heap[w.heap.size]? =some (.deferred (some [])):=by rw[←Ta];exact World.alloc_heap_new w _
  refine wpIn_rangeFunc fun fn _=>?_
  obtain⟨rec,QQ⟩:∃rec:Loop,rec={ state:=.ready,pending:=none,fn:=fn,tmps:=act.tmps,params:=cps,assign:=Rh,body:=QN,defers:=w.heap.size }:=⟨_,rfl⟩;obtain⟨Rv,g2⟩:=jS hr1 (.loop rec) (.loop .ready .normal ts cps.toList asg body) ⟨W1.heap.size,0,0,true⟩ rfl rfl (fun m' hm'=>⟨rfl,fn,act.tmps,Rh,QN,w.heap.size,by rw[QQ];exact World.alloc_heap_new W1 _,cH.mono hm' _ _ s.ts,Q1,hcb⟩);have hloc: (m.add h.length ⟨W1.heap.size,0,0,true⟩) h.length=some ⟨W1.heap.size,0,0,true⟩:=by simp[bY.add]
  have hle:m.le (m.add h.length ⟨W1.heap.size,0,0,true⟩):=g2.le s.hr.cI;have Um:=run_enterLoop_outer (P:=P) (w:=w) fn act.tmps cps Rh QN;rw[Ta,←QQ]at Um;obtain⟨ffn,fcode,hffn,hfb,_,_,_,Xe⟩:=gu hA;have hmk:Marks (m.add h.length ⟨W1.heap.size,0,0,true⟩) (W1.alloc (.loop rec)) lo ([{ target:=.collected w.heap.size,args:=#[] }]++act.defers):=by
   obtain⟨rs,k1,k2,k3⟩:=(hm.grow g1 s.hr.cI).grow g2 s.hr.cI;refine⟨w.heap.size::rs,by rw[k1];rfl,Z3.2 ⟨fun hin=>?_,k2⟩,fun r hr'=>?_⟩
   ·obtain⟨rs0,j1,j2,j3⟩:=hm;have hrs:rs0=rs:=by
     have:rs0.map (fun r=>({ target:=.collected r,args:=#[] }:Deferred))=rs.map (fun r=>({ target:=.collected r,args:=#[] }:Deferred)):=by rw[←j1,k1]
     exact List.map_inj_right (fun x y hxy=>by simpa using hxy) |>.1 this
    subst hrs;have:=(XM.1 (j3 _ hin).2.1).1;omega
   ·rcases X9.1 hr' with rfl| hr'
    ·refine⟨hlo,(Go.RowKit.Below.heap_alloc W1 _ _ Om).trans TO,fun b e hb=>?_⟩;unfold bY.add at hb;split at hb
     ·cases hb;show W1.heap.size≠_;omega
     ·have:=s.hr.lt b e hb;omega
    ·exact k3 r hr'
  refine⟨w.heap.size+1,_,W1.alloc (.loop rec),{ target:=.fn (.func f) ⟨Q2⟩,args:=⟨ca⟩++#[.func (.yield (w.heap.size+1)) #[] #[]] },W1.alloc (.loop rec),f,(⟨ca⟩++#[.func (.yield (w.heap.size+1)) #[] #[]])++ ⟨Q2⟩,W1.alloc (.loop rec),
   Um,?_,fun _ _=>trivial,?_,fun hd=>by simp[Fd,Fence.wide]at hd,?_⟩
  ·have Ud: (#[Operand.const (.func (.yield (w.heap.size+1)) #[] #[])] :Array Operand).map act.eval=#[.func (.yield (w.heap.size+1)) #[] #[]]:=by simp[Act.eval]
   simp only[resolve,hev,rangeCall,Ud];rfl
  ·simp only[invoke];exact jX hffn (by rw[hfb];rfl) Xe
  ·have hargs:cH (m.add h.length ⟨W1.heap.size,0,0,true⟩) (a++ [.func (.yield h.length) [] []]++c) (ca++ [.func (.yield (w.heap.size+1)) #[] #[]]++Q2):=by
    refine cH.append (cH.append (cH.mono hle _ _ ha) (aS.2 ⟨_,[],rfl,⟨_,[],[],rfl,⟨_,hloc,by rw[hsz1]⟩,rfl,rfl⟩,bC.2 rfl⟩)) (cH.mono hle _ _ hc)
   have SH:=hs _ _ _ Rv hargs;rw[←callsIn_wide (n:=0)]at SH;have Xk:CallsIn (Fd none) (0 - 1) P f ((⟨ca⟩++#[.func (.yield (w.heap.size+1)) #[] #[]])++ ⟨Q2⟩) (W1.alloc (.loop rec)) (Rel P (m.add h.length ⟨W1.heap.size,0,0,true⟩) (h++ [.loop .ready .normal ts cps.toList asg body]) (W1.alloc (.loop rec)) v h2):=by
    have Q7: ((⟨ca⟩++#[.func (.yield (w.heap.size+1)) #[] #[]])++ ⟨Q2⟩:Array Value)= ⟨ca++ [.func (.yield (w.heap.size+1)) #[] #[]]++Q2⟩:=by apply ZX;simp
    rw[Q7];exact SH
   refine Xk.mono ?_;rintro e3 w3 ⟨cv,m3,rfl,hv3,hr3,g3⟩;have VJ:m3 h.length=some ⟨W1.heap.size,0,0,true⟩:=by rw[g3.ext h.length Si];exact hloc
   obtain⟨hown3,fn3,tmps3,casg3,Xq,df3,hh3,_⟩:=hr3.dN h.length _ _ VJ hl;simp only at hh3;have Sj:=run_endLoop (P:=P) (l:=W1.heap.size) hh3 (by simpa using bS);obtain⟨hr4,g4⟩:=jJ hr3 (o:=.loop { state:=.exhausted,pending:=ex.jump,fn:=fn3,tmps:=tmps3,params:=⟨ps'⟩,assign:=casg3,body:=Xq,defers:=df3 }) VJ hl rfl (k':=.dead) (.inr rfl) trivial;have RT:=hQ m3 { act with defers:=[{ target:=.collected w.heap.size,args:=#[] }]++act.defers } _ ⟨hr4,cH.mono ((g2.trans g3 s.hr.cI).le s.hr.cI) _ _ s.ts⟩ (((g1.trans g2 s.hr.cI).trans g3 s.hr.cI).trans g4 s.hr.cI) ((hmk.grow g3 Rv.cI).grow g4 hr3.cI);refine⟨ex.jump,_,by rw[←hsz1];exact Sj,?_⟩
   cases ex with
   | normal=>exact RT
   | exit id=>exact wpIn_exit RT
   | ret=>exact wpIn_ret RT
 | scope a=>exact absurd rfl (hns a)
 | region id ops draw=>rcases dR (by simpa only[compile]using TM)with⟨_,h1,_⟩| ⟨_,h1,_⟩| ⟨_,h1,_⟩<;>cases h1
 | block id a=>simp[compile]at TM
 | loop a=>simp[compile]at TM
 | _=>
  simp only[compile]at TM
  (repeat' split at TM)
  all_goals cases TM
end
inductive ia where
 | az
 | push (k:aq)
 | set (b:Nat) (k:aq)
 | nw (b:Nat) (k k':aq)
 deriving Inhabited
def ia.app:ia→ah→ah
 | .az,h=>h
 | .push k,h=>h++ [k]
 | .set b k,h=>h.set b k
 | .nw b k k',h=>h.set b k++ [k']
def eT(es:Nat)(G:Nat→Option aq):AV→Option (List AV×Nat)
 | .af=>some ([],0)
 | .slice b o n es'=>
  if es' =es then
   match G b with
   | some (.cells c _ _)=>if o+n * es≤c.length then some ((c.drop o).take (n * es),n)else none
   | _=>none
  else none
 | .str s=>if es=1 then some (s.map fun b=>.int .u8 b.toNat,s.length)else none
 | _=>none
def iL(lk:LK)(G:Nat→Option aq):AV→Option Nat
 | .str s=>if lk= .st then some s.length else none
 | .slice _ _ n _=>if lk= .sl then some n else none
 | .af=>if lk= .sl then some 0 else none
 | .map r=>
  match G r with
  | some (.bn es)=>if lk= .mp then some es.length else none
  | _=>none
 | .cR=>if lk= .mp then some 0 else none
 | _=>none
def mi(k:yL)(x:AV)(G:Nat→Option aq)(N0:Nat):Option (AV×ia):=
 match k with
 | .tE k=>
  match x with
  | .int _ n=>some (.int k (k.wrap n),.az)
  | _=>none
 | .same=>
  match x with
  | .str s=>some (.str s,.az)
  | _=>none
 | .NM k=>
  match x with
  | .int _ n=>some (.vT k (k.nearest n),.az)
  | _=>none
 | .N2 k=>
  match x with
  | .vT s b=>
   match (s.decode b).toInt .zero with
   | some n=>if Dw s b=false∧k.min≤n∧n≤k.max then some (.int k n,.az)else none
   | none=>none
  | _=>none
 | .N3 k=>
  match x with
  | .vT s b=>if s=k then some (.vT k b,.az)else none
  | _=>none
 | .pW u=>some (.pW u x,.az)
 | .Iv=>
  match x with
  | .af=>some (.str [],.az)
  | .slice b o n es=>
   match eT 1 G (.slice b o n es)with
   | some (l,_)=>
    match l.mapM byteOf with
    | some r=>some (.str r,.az)
    | none=>none
   | none=>none
  | _=>none
 | .ML=>
  match x with
  | .str s=>some (.slice N0 0 s.length 1,.push (.cells (s.map fun b=>.int .u8 b.toNat) true true))
  | _=>none
def mM(k:oA): (cW→AV)→(Nat→Option aq)→Nat→Option (AV×ia):=
 match k with
 | .aI x=>fun ρ G N0=>some (ρ x,.az)
 | .pick c a b=>fun ρ G N0=>
  match ρ c with
  | .bool t=>some (if t then ρ a else ρ b,.az)
  | _=>none
 | .box x=>fun ρ G N0=>if(ρ x).cells.all AV.one then some (.ptr N0 0,.push (.cells (ρ x).cells true false))else none
 | .mQ n x=>fun ρ G N0=>if(ρ x).cells.all AV.one=true∧(ρ x).cells.length=n then some (.ptr N0 0,.push (.cells (ρ x).cells true false))else none
 | .build z ps=>fun ρ G N0=>
  match eo z (ps.map fun p=>(p.1,p.2.1,ρ p.2.2))with
  | some c=>some (.agg c,.az)
  | none=>none
 | .load n a=>fun ρ G N0=>
  match ρ a with
  | .ptr b o=>
   match G b with
   | some (.cells c _ _)=>
    match n with
    | none=>
     match c[o]? with
     | some x=>some (x,.az)
     | none=>none
    | some n=>if o+n≤c.length then some (.agg ((c.drop o).take n),.az)else none
   | _=>none
  | _=>none
 | .store n a x=>fun ρ G N0=>
  match ρ a with
  | .ptr b o=>
   match G b with
   | some (.cells c true tl)=>
    if(ρ x).cells.length=n∧(ρ x).cells.all AV.one=true∧o+n≤c.length then some (aB,.set b (.cells (fB c o (ρ x).cells) true tl))else none
   | _=>none
  | _=>none
 | .bt x=>fun ρ G N0=>
  match ρ x with
  | .ptr b o=>some (.ptr b o,.az)
  | .func (.func f) a c=>some (.func (.func f) a c,.az)
  | .func (.yield f) a c=>some (.func (.yield f) a c,.az)
  | .func (.methodOf t n) a c=>some (.func (.methodOf t n) a c,.az)
  | .func (.via t p f q) a c=>some (.func (.via t p f q) a c,.az)
  | _=>none
 | .bin op x y=>fun ρ G N0=>
  match dW op (ρ x) (ρ y)with
  | some v=>some (v,.az)
  | none=>none
 | .eqv neg t x y=>fun ρ G N0=>
  match o6 t (ρ x) (ρ y)with
  | some b=>some (.bool (if neg then !b else b),.az)
  | none=>none
 | .un op x=>fun ρ G N0=>
  match vX op (ρ x)with
  | some v=>some (v,.az)
  | none=>none
 | .conv k x=>fun ρ G N0=>mi k (ρ x) G N0
 | .kH f a c=>fun ρ G N0=>some (.func f (a.map ρ) (c.map ρ),.az)
 | .kZ=>fun ρ G N0=>some (.map N0,.push (.bn []))
 | .rH es w z l c=>fun ρ G N0=>
  match ρ l,ρ c with
  | .int _ l,.int _ c=>
   if 0≤l∧l≤c∧(w:Int) * c≤2^48∧c < 2^63 then some (.slice N0 0 l.toNat es,.push (.cells (dI l.toNat z) true true))else none
  | _,_=>none
 | .sl es x lo hi=>fun ρ G N0=>
  match ρ x with
  | .slice b o n es'=>
   if es' =es then
    match iO (lo.map ρ) (hi.map ρ) n with
    | some (l,h')=>some (.slice b (o+l * es) (h' - l) es,.az)
    | none=>none
   else none
  | .af=>
   match iO (lo.map ρ) (hi.map ρ) 0 with
   | some _=>some (.af,.az)
   | none=>none
  | _=>none
 | .pr x lo hi=>fun ρ G N0=>
  match ρ x with
  | .str s=>
   match iO (lo.map ρ) (hi.map ρ) s.length with
   | some (l,h')=>some (.str ((s.drop l).take (h' - l)),.az)
   | none=>none
  | _=>none
 | .LV k es x lo hi=>fun ρ G N0=>
  match ρ x with
  | .ptr b o=>
   match G b with
   | some (.cells c _ _)=>
    if o+k * es≤c.length then
     match iO (lo.map ρ) (hi.map ρ) k with
     | some (l,h')=>some (.slice b (o+l * es) (h' - l) es,.az)
     | none=>none
    else none
   | _=>none
  | _=>none
 | .aR off x=>fun ρ G N0=>
  match ρ x with
  | .ptr b o=>some (.ptr b (o+off),.az)
  | _=>none
 | .ba es x i=>fun ρ G N0=>
  match ρ x,ρ i with
  | .slice b o n es',.int _ i=>if es' =es∧0≤i∧i < n then some (.ptr b (o+i.toNat * es),.az)else none
  | _,_=>none
 | .rJ len es x i=>fun ρ G N0=>
  match ρ x,ρ i with
  | .ptr b o,.int _ i=>if 0≤i∧i < len then some (.ptr b (o+i.toNat * es),.az)else none
  | _,_=>none
 | .part n off x=>fun ρ G N0=>
  match ρ x with
  | .agg cs=>
   match n with
   | none=>
    match cs[off]? with
    | some v=>some (v,.az)
    | none=>none
   | some n=>some (.agg ((cs.drop off).take n),.az)
  | _=>none
 | .It len es n x i=>fun ρ G N0=>
  match ρ x,ρ i with
  | .agg cs,.int _ i=>
   if 0≤i∧i < len then
    match n with
    | none=>
     match cs[i.toNat * es]? with
     | some v=>some (v,.az)
     | none=>none
    | some n=>some (.agg ((cs.drop (i.toNat * es)).take n),.az)
   else none
  | _,_=>none
 | .pV x i=>fun ρ G N0=>
  match ρ x,ρ i with
  | .str s,.int _ i=>
   if 0≤i then
    match s[i.toNat]? with
    | some b=>some (.int .u8 b.toNat,.az)
    | none=>none
   else none
  | _,_=>none
 | .look kk z ok m k=>fun ρ G N0=>
  match ρ m with
  | .cR=>some (if ok then .dJ [z,.bool false]else z,.az)
  | .map r=>
   match G r with
   | some (.bn es)=>
    match jd kk (ρ k) es with
    | some (some v)=>some (if ok then .dJ [v,.bool true]else v,.az)
    | some none=>some (if ok then .dJ [z,.bool false]else z,.az)
    | none=>none
   | _=>none
  | _=>none
 | .e9 kk m k x=>fun ρ G N0=>
  match ρ m with
  | .map r=>
   match G r with
   | some (.bn es)=>
    match oG kk (ρ k) (ρ x) es with
    | some es'=>some (aB,.set r (.bn es'))
    | none=>none
   | _=>none
  | _=>none
 | .wq x=>fun ρ G N0=>
  match ρ x with
  | .str s=>some (.ptr N0 0,.push (.iter s 0))
  | _=>none
 | .nF x=>fun ρ G N0=>
  match ρ x with
  | .ptr b 0=>
   match G b with
   | some (.iter s pos)=>
    if pos < s.length then
     let d:=Utf8.decode ⟨⟨s⟩⟩ pos
     some (.dJ [.bool true,.int .i64 pos,.int .i32 d.1],.set b (.iter s (pos+d.2)))
    else some (.dJ [.bool false],.az)
   | _=>none
  | _=>none
 | .ext x i=>fun ρ G N0=>
  match ρ x with
  | .dJ l=>
   match l[i]? with
   | some v=>some (v,.az)
   | none=>none
  | _=>none
 | .len lk x=>fun ρ G N0=>
  match iL lk G (ρ x)with
  | some n=>some (.int .i64 n,.az)
  | none=>none
 | .zi n=>fun ρ G N0=>some (.int .i64 n,.az)
 | .vU es x y=>fun ρ G N0=>
  match ρ x,eT es G (ρ y)with
  | .slice b o n es',some (ys,k)=>
   if es' =es then
    if min k n=0 then some (.int .i64 0,.az)
    else
     match G b with
     | some (.cells c true tl)=>if o+min k n * es≤c.length then some (.int .i64 (min k n:Nat),.set b (.cells (fB c o (ys.take (min k n * es))) true tl))else none
     | _=>none
   else none
  | .af,some _=>some (.int .i64 0,.az)
  | _,_=>none
 | .mx x l=>fun ρ G N0=>
  match gY pF (ρ x) (l.map ρ)with
  | some v=>some (v,.az)
  | none=>none
 | .mn x l=>fun ρ G N0=>
  match gY pE (ρ x) (l.map ρ)with
  | some v=>some (v,.az)
  | none=>none
 | _=>fun ρ G N0=>none
def pa(es w:Nat)(s y:AV)(G:Nat→Option aq)(N0:Nat):Option (AV×ia):=
 match eT es G y with
 | none=>none
 | some (ys,k)=>
  match s with
  | .af=>if k=0 then(if ys.isEmpty then some (.af,.az)else none)else if k * w≤2^46 then some (.slice N0 0 k es,.push (.cells ys true true))else none
  | .slice b o m es'=>
   if es' =es then
    if k=0 then(if ys.isEmpty then some (.slice b o m es,.az)else none)
    else if(m+k) * w≤2^46 then
     match G b with
     | some (.cells c true true)=>if o+m * es≤c.length then some (.slice N0 0 (m+k) es,.nw b .dead (.cells ((c.drop o).take (m * es)++ys) true true))else none
     | some (.cells c false true)=>if o+m * es=c.length then some (.slice N0 0 (m+k) es,.nw b (.cells c false false) (.cells (c.drop o++ys) false true))else none
     | some (.cells c true false)=>if o+m * es=c.length then some (.slice N0 0 (m+k) es,.push (.cells (c.drop o++ys) true true))else none
     | _=>none
    else none
   else none
  | _=>none
def stepT(k:oA): (cW→AV)→(Nat→Option aq)→Nat→Option (AV×ia):=
 match k with
 | .call _ _=>fun _ _ _=>none
 | .app es w x y=>fun ρ G N0=>pa es w (ρ x) (ρ y) G N0
 | .aG es n z ps=>fun ρ _ N0=>
  match eo (dI n z) (ps.map fun p=>(p.1,es,ρ p.2))with
  | some c=>if c.all AV.one=true∧c.length=n * es then some (.slice N0 0 n es,.push (.cells c true (!Nat.beq n 0)))else none
  | none=>none
 | k=>mM k
def o7(es:Nat)(h:ah)(x:AV):eT es (fun b=>h[b]?) x=cellsIn es h x:=by
 cases x<;>rfl
def Dz(lk:LK)(h:ah)(x:AV):iL lk (fun b=>h[b]?) x=zj lk h x:=by
 cases x<;>rfl
def BV{k x h v e}(hs:mi k x (fun b=>h[b]?) h.length=some (v,e)):jQ k x h=some (v,e.app h):=by
 cases k<;>simp only[mi,o7]at hs<;>(repeat' split at hs)<;>first| (cases hs;done)| (cases hs;simp[jQ,ia.app, *])
def Hh{k ρ h v e}(hs:mM k ρ (fun b=>h[b]?) h.length=some (v,e)):dt k ρ h=some (v,e.app h):=by
 cases k with
 | conv k x=>exact BV (k:=k) (x:=ρ x) hs
 | rH es w z l c=>
  simp only[mM]at hs;split at hs
  case h_2=>cases hs
  rename_i kl il kc ic hl hc;split at hs
  case isFalse=>cases hs
  rename_i QH;cases hs;simp only[dt,hl,hc];rw[XI QH];rfl
 | _=>simp only[mM,o7,Dz]at hs<;>(repeat' split at hs)<;>first| (cases hs;done)| (cases hs;simp[dt,ia.app, *])
def ni{k ρ h v e}(hs:stepT k ρ (fun b=>h[b]?) h.length=some (v,e)):mq k ρ h v (e.app h):=by
 have hf:∀k,mM k ρ (fun b=>h[b]?) h.length=some (v,e)→dt k ρ h=some (v,e.app h):=fun k hk=>Hh hk
 cases k with
 | call f args=>cases hs
 | app es w x y=>
  simp only[stepT,pa,o7]at hs;show vQ es w (ρ x) (ρ y) h v (e.app h);split at hs
  ·cases hs
  rename_i ys k hy;split at hs
  ·rename_i hx;rw[hx];split at hs
   ·rename_i hk;split at hs
    ·rename_i hys;cases hs;subst hk;exact .none (by rw[hy];cases ys<;>first| rfl| cases hys) (.inl rfl)
    ·cases hs
   ·split at hs
    ·rename_i hk hb;cases hs;exact .new ys k true hy Om hb rfl
    ·cases hs
  ·rename_i b o m es' hx;rw[hx];split at hs
   case isFalse=>cases hs
   rename_i hes;subst hes;split at hs
   ·rename_i hk;split at hs
    ·rename_i hys;cases hs;subst hk;exact .none (by rw[hy];cases ys<;>first| rfl| cases hys) (.inr ⟨b,o,m,rfl⟩)
    ·cases hs
   ·rename_i hk;split at hs
    case isFalse=>cases hs
    rename_i hb;split at hs
    ·rename_i c hc;split at hs
     case isFalse=>cases hs
     rename_i hl;cases hs;exact .over ys k b o m c true hy Om hb rfl hc hl
    ·rename_i c hc;split at hs
     case isFalse=>cases hs
     rename_i hl;cases hs;exact .on ys k b o m c false hy Om hb rfl hc hl
    ·rename_i c hc;split at hs
     case isFalse=>cases hs
     rename_i hl;cases hs;exact .full ys k b o m c hy Om hb rfl hc hl
    ·cases hs
  ·cases hs
 | aG es n z ps=>
  simp only[stepT]at hs;split at hs
  case h_2=>cases hs
  rename_i c hc;split at hs
  case isFalse=>cases hs
  rename_i QH;cases hs;exact⟨c,true,_,hc,QH.1,QH.2,rfl,rfl⟩
 | _=>exact hf _ hs
inductive Acc where
 | no
 | rd (b:Nat)
 | wr (b:Nat) (k:aq)
def Acc.dN:Acc→Option Nat
 | .no=>none
 | .rd b=>some b
 | .wr b _=>some b
def Acc.app(h:ah):Acc→ah
 | .wr b k=>h.set b k
 | _=>h
def y9{k}(hk:ff k=true){ρ G G' N N'}:stepT k ρ G N=stepT k ρ G' N':=by
 cases k<;>first| (cases hk;done)| rfl| skip
 case conv c x=>cases c<;>first| (cases hk;done)| rfl
 case len lk x=>
  have hl:lk≠.mp:=fun e=>by rw[e]at hk;cases hk
  have e:iL lk G (ρ x)=iL lk G' (ρ x):=by
   cases lk<;>first| exact absurd rfl hl| skip
   all_goals
    cases ρ x<;>first| rfl| (simp only[iL,reduceCtorEq,XO];repeat' split)<;>rfl
  simp only[stepT,mM,e]
def zh{n a ρ G G' N N' b o}(ha:ρ a= .ptr b o)(hb:G b=G' b):stepT (.load n a) ρ G N=stepT (.load n a) ρ G' N':=by
 simp only[stepT,mM,ha,hb]
def vZ{n a x ρ G G' N N' b o}(ha:ρ a= .ptr b o)(hb:G b=G' b):stepT (.store n a x) ρ G N=stepT (.store n a x) ρ G' N':=by
 simp only[stepT,mM,ha,hb]
def vP(o:bJ)(ts:TS)(h:ah)(v:AV)(c:Acc):Prop:=
 (¬wanted o.gd ts∧c= .no∧v=aB)∨wanted o.gd ts∧((ff o.k=true∧c= .no∧stepT o.k (val ts) (fun z=>h[z]?) h.length=some (v,.az))∨
  (∃n a b off,o.k= .load n a∧val ts a= .ptr b off∧c= .rd b∧stepT o.k (val ts) (fun z=>h[z]?) h.length=some (v,.az))∨
  (∃n a x b off k,o.k= .store n a x∧val ts a= .ptr b off∧c= .wr b k∧stepT o.k (val ts) (fun z=>h[z]?) h.length=some (v,.set b k)))
theorem vP.run{P o ts h g v c}(hs:vP o ts h v c)(hb:∀b,c.dN=some b→g[b]? =h[b]?):dx P o ts g (put ts o.dst v) (c.app g):=by
 rcases hs with⟨hw,rfl,rfl⟩| ⟨hw,hs⟩
 ·exact .skip hw
 rcases hs with⟨hp,rfl,hs⟩| ⟨n,a,b,off,hk,ha,rfl,hs⟩| ⟨n,a,x,b,off,k,hk,ha,rfl,hs⟩
 ·refine .run hw ?_ ?_
  ·cases hk:o.k<;>rw[hk]at hp<;>first| (cases hp;done)| trivial
  ·rw[y9 hp (G':=fun z=>g[z]?) (N':=g.length)]at hs;have:=ni hs;cases hk:o.k<;>rw[hk]at hp this<;>first| (cases hp;done)| exact this
 ·rw[hk]at hs;rw[zh ha (G':=fun z=>g[z]?) (N':=g.length) (hb b rfl).symm]at hs;exact IK
 ·rw[hk]at hs;rw[vZ ha (G':=fun z=>g[z]?) (N':=g.length) (hb b rfl).symm]at hs;exact IK
def zR:List bJ→TS→ah→List Acc→TS→Prop
 | [],ts,_,cs,ts'=>cs= []∧ts' =ts
 | o::r,ts,h,cs,ts'=>∃v c cs1,vP o ts h v c∧cs=c::cs1∧zR r (put ts o.dst v) h cs1 ts'
theorem zR.row{h}:∀{l} {ts ts'} {cs},zR l ts h cs ts'→∃T:Nat→TS,T 0=ts∧T l.length=ts'∧cs.length=l.length∧∀j o,l[j]? =some o→∃v c,cs[j]? =some c∧vP o (T j) h v c∧T (j+1)=put (T j) o.dst v
 | [],ts,ts',cs,hs=>by
  obtain⟨rfl,rfl⟩:=hs;exact⟨fun _=>ts',rfl,rfl,rfl,fun j o ho=>by simp at ho⟩
 | o::r,ts,ts',cs,hs=>by
  obtain⟨v,c,cs1,bS,rfl,hr⟩:=hs;obtain⟨T,hT,RK,hl,hrow⟩:=hr.row;refine⟨fun i=>match i with| 0=>ts| i+1=>T i,rfl,RK,by simp[hl],fun j x hx=>?_⟩;cases j with
  | zero=>simp at hx;subst hx;exact⟨v,c,rfl,bS,hT⟩
  | succ j=>
   obtain⟨v',c',h1,h2,h3⟩:=hrow j x (by simpa using hx);exact⟨v',c',by simpa using h1,h2,h3⟩
def dL:ah→List Acc→ah
 | h,[]=>h
 | h,c::cs=>dL (c.app h) cs
def eO:List Acc→Prop
 | []=>True
 | c::cs=>(∀b,c.dN=some b→∀x∈cs,x.dN=some b→∀k k',c=Acc.wr b k∨x=Acc.wr b k'→False)∧eO cs
theorem eO.ne:∀{cs:List Acc},eO cs→∀{i j b:Nat} {k:aq} {c:Acc},cs[i]? =some (.wr b k)→i≠j→cs[j]? =some c→c.dN≠some b
 | [],_,i,j,b,k,c,h1,_,_=>by simp at h1
 | x::xs,h,i,j,b,k,c,h1,hij,h2=>by
  intro hc;cases i with
  | zero=>
   simp at h1;subst h1;cases j with
   | zero=>exact hij rfl
   | succ j=>exact h.1 b rfl c (Yo (by simpa using h2)) hc k k (.inl rfl)
  | succ i=>
   cases j with
   | zero=>
    simp at h2;subst h2;exact h.1 b hc _ (Yo (by simpa using h1)) rfl k k (.inr rfl)
   | succ j=>exact eO.ne h.2 (i:=i) (j:=j) (by simpa using h1) Om (by simpa using h2) hc
def tP(h:ah)(c:Acc): (c.app h).length=h.length:=by cases c<;>simp[Acc.app]
def xC{h:ah}{c:Acc}{b:Nat}(hb:∀k,c= .wr b k→False): (c.app h)[b]? =h[b]? :=by
 cases c with
 | wr b' k=>
  have:b'≠b:=fun e=>hb k (by rw[e])
  simp[Acc.app,XK this]
 | _=>rfl
theorem pg:∀{cs:List Acc} {h:ah} {b:Nat},(∀ (j:Nat) (k:aq),cs[j]? =some (Acc.wr b k)→False)→(dL h cs)[b]? =h[b]?
 | [],h,b,_=>rfl
 | c::cs,h,b,hb=>by
  rw[dL,pg (fun j k hj=>hb (j+1) k (by simpa using hj))];exact xC fun k hk=>hb 0 k (by simp[hk])
theorem s9:∀{cs:List Acc} {h:ah},eO cs→∀{j b:Nat} {k:aq},b < h.length→cs[j]? =some (.wr b k)→(dL h cs)[b]? =some k
 | [],h,_,j,b,k,_,hj=>by simp at hj
 | c::cs,h,ho,j,b,k,hb,hj=>by
  cases j with
  | zero=>
   simp at hj;subst hj;rw[dL,pg (fun j k' hj=>eO.ne ho (i:=0) (j:=j+1) (b:=b) (k:=k) rfl Om (by simpa using hj) rfl)];simp[Acc.app,hb]
  | succ j=>
   rw[dL];exact s9 ho.2 (by rw[tP];exact hb) (by simpa using hj)
structure yJ(h:ah)(cs:List Acc)(S:Nat→Bool)(g:ah):Prop where
 len:g.length=h.length
 wr:∀j b k,S j=true→cs[j]? =some (.wr b k)→g[b]? =some k
 ne:∀b,(∀j k,S j=true→cs[j]? =some (.wr b k)→False)→g[b]? =h[b]?
def yJ.all{h g:ah}{cs:List Acc}{S:Nat→Bool}(H:yJ h cs S g)(ho:eO cs)(hS:∀j c,cs[j]? =some c→S j=true):g=dL h cs:=by
 apply ZR
 intro b;by_cases hx:∃ (j:Nat) (k:aq),cs[j]? =some (Acc.wr b k)
 ·obtain⟨j,k,hj⟩:=hx;have h1:=H.wr j b k (hS j _ hj) hj;have:b < h.length:=by rw[←H.len];exact(Xr.1 h1).1
  rw[h1,s9 ho this hj]
 ·rw[H.ne b fun j k _ hj=>hx ⟨j,k,hj⟩,pg fun j k hj=>hx ⟨j,k,hj⟩]
def tt{P:Program}(hmix:P.follows .mixedOrders=true){ops:Array Oper}{l:List bJ}(hed:j7 (Region.before ops) ops=true)(hsl:lE (Region.before ops) ops=true)
  (hc:ep (fun _ o=>bQ P ops false o) ops.toList 0=some l) {ts ts':TS} {h:ah} {cs:List Acc} (hs:zR l ts h cs ts') (hok:eO cs) {m:bY} {a:Act} {w:World}
  (st:St P m ts h a w) (ro:Option Nat) (Q:Exit→Act→World→Prop) (hQ:∀m' a' w',St P m' ts' (dL h cs) a' w'→Grow m h w m' (dL h cs) w'→a'.defers=a.defers→Q .normal a' w') (id:Nat):
  (Code.region id ops true).wpIn (Fd ro) 0 P Q a w:=by
 refine wpIn_region_any hmix ?_;obtain⟨T,rfl,rfl,hcl0,hrow⟩:=hs.row;obtain⟨QG,Qw⟩:=fQ hc;simp only[ZH]at QG;have Up:∀ (j:Nat) (io:bJ),l[j]? =some io→∃o,ops[j]? =some o∧bQ P ops false o=some io:=fun j io hj=>by
  exact Ml
 have Rr:∀ (j:Nat) (io:bJ) (d:Nat),l[j]? =some io→io.dst=some d→∃o,ops[j]? =some o∧o.dst=some d:=fun j io d hj hd=>by
  exact Mc
 have huniq:∀ (i j:Nat) (oi oj:bJ) (d:Nat),l[i]? =some oi→l[j]? =some oj→oi.dst=some d→oj.dst=some d→i=j:=fun i j oi oj d hi hj h1 h2=>by
  exact Mn
 have hTl:∀j,j≤l.length→(T j).length= (T 0).length:=by
  intro j
  induction j with
  | zero=>intro _;rfl
  | succ j ih=>
   intro hj;obtain⟨v,c,_,_,hv⟩:=hrow j _ (Xw (show j < l.length by omega));rw[hv,mG];exact ih Om
 have QC:∀x y t,x≤y→y≤l.length→(∀ (j:Nat) (o:bJ),x≤j→j < y→l[j]? =some o→o.dst≠some t)→(T y).getD t aB= (T x).getD t aB:=by
  intro x y t hxy hy hno;have:=ub (T:=T) (t:=t) (a:=x) (y - x) (fun j h1 h2=>by
   have hj:l[j]? =some (l[j]'Om):=Xw Om;obtain⟨v,c,_,_,hv⟩:=hrow j _ hj;exact⟨_,v,hv,hno j _ h1 Om hj⟩)
  rwa [show x+ (y - x)=y from by omega]at this
 have hdone:∀ (listed:Array Bool) (g:ah) (a1:Act) (w1:World),(∀i,i < ops.size→listed.getD i false=true)→yJ h cs (fun j=>listed.getD j false) g→HR P m g w1→Grow m h w m g w1→a1.tmps.size= (T 0).length→
   (∀ (d:Nat),(∀ (j:Nat) (o:bJ),l[j]? =some o→listed.getD j false=true→o.dst≠some d)→VR m ((T 0).getD d aB) (a1.tmps.getD d undef))→
   (∀ (d j:Nat) (o:bJ),l[j]? =some o→listed.getD j false=true→o.dst=some d→VR m ((T (j+1)).getD d aB) (a1.tmps.getD d undef))→a1.defers=a.defers→Q .normal a1 w1:=by
  intro listed g a1 w1 hall H hr hg dX h1 h2 hd;have e:=H.all hok fun j c hj=>hall j (by have:=(Xr.1 hj).1;omega)
  subst e;refine hQ m a1 w1 ⟨hr,cH.gL ?_ ?_⟩ hg hd
  ·exact F5
  ·intro t x hx;exact PD
 have key:∀ (fuel:Nat) (listed:Array Bool) (g:ah) (a1:Act) (w1:World),listed.size=ops.size→qt listed ops.size≤fuel→
   (∀j x,listed.getD j false=true→x < ops.size→ahead (Region.before ops) x j=true→listed.getD x false=true)→
   yJ h cs (fun j=>listed.getD j false) g→HR P m g w1→Grow m h w m g w1→a1.tmps.size= (T 0).length→
   (∀ (d:Nat),(∀ (j:Nat) (o:bJ),l[j]? =some o→listed.getD j false=true→o.dst≠some d)→VR m ((T 0).getD d aB) (a1.tmps.getD d undef))→
   (∀ (d j:Nat) (o:bJ),l[j]? =some o→listed.getD j false=true→o.dst=some d→VR m ((T (j+1)).getD d aB) (a1.tmps.getD d undef))→a1.defers=a.defers→wpAnyIn (Fd ro) 0 P .any ops Q fuel listed a1 w1:=by
  intro fuel
  induction fuel with
  | zero=>
   intro listed g a1 w1 QE hu hcl H hr hg dX h1 h2 hd;have hall:=kQ ops.size (show qt listed ops.size=0 by omega);exact⟨lH QE hall,hdone listed g a1 w1 hall H hr hg dX h1 h2 hd⟩
  | succ fuel ih=>
   intro listed g a1 w1 QE hu hcl H hr hg dX h1 h2 hd;refine⟨fun hrn=>hdone listed g a1 w1 (lG hed QE hrn) H hr hg dX h1 h2 hd,fun i hi=>?_⟩;obtain⟨o,ho,Ro,Vh⟩:=(iS QE).1 hi;have hin:i < ops.size:=(XM.1 ho).1;obtain⟨io,hio,QA⟩:=Qw i o (by simpa using ho);obtain⟨v,c,hci,bS,hTi⟩:=hrow i io hio;have hahead:∀x,x < ops.size→ahead (Region.before ops) x i=true→listed.getD x false=true:=fun x hx ha=>by
    exact LP
   have Sl:∀j x,(listed.setIfInBounds i true).getD j false=true→x < ops.size→ahead (Region.before ops) x j=true→(listed.setIfInBounds i true).getD x false=true:=by
    intro j x hj hx ha;exact LO
   have T3:qt (listed.setIfInBounds i true) ops.size≤fuel:=by
    exact z76
   have hslot:∀t,t∈o.looksAt ops→VR m ((T i).getD t aB) (a1.tmps.getD t undef):=by
    intro t ht;exact z12
   have SI:∀b,c.dN=some b→g[b]? =h[b]? :=fun b hb=>H.ne b fun j k hj VM=>by
    by_cases e1:j=i
    ·subst e1
     try simp only at hj
     rw[Ro]at hj;cases hj
    ·exact eO.ne hok VM e1 hci hb
   refine fg ho QA hr.gv hr (by rw[dX,hTl i Om]) hslot (bS.run (P:=P) SI) ro _ Q ?_;intro cv v' m' w' RK R2 hr' QL;have QU:io.dst=o.dst:=(dm QA).1;have hm:m' =m:=by
    funext b;by_cases hb:b < g.length
    ·exact QL.ext b hb
    ·have e1:m b=none:=by
      cases hx:m b with
      | none=>rfl
      | some e=>exact absurd (hr.cI b e hx) hb
     have e2:m' b=none:=by
      cases hx:m' b with
      | none=>rfl
      | some e=>exact absurd (by have:=hr'.cI b e hx;rwa [tP]at this) hb
     rw[e1,e2]
   subst hm;have hlt: (listed.setIfInBounds i true).getD i false=true:=by rw[cZ Om,XI rfl]
   have hne:∀j,j≠i→(listed.setIfInBounds i true).getD j false=listed.getD j false:=fun j hj=>by rw[cZ Om,XG hj]
   have Tr: (a1.put o.dst cv).tmps=gD a1.tmps o.dst cv:=by cases o.dst<;>rfl
   refine ih _ (c.app g) (a1.put o.dst cv) w' (by simp[QE]) T3 Sl ⟨by rw[tP];exact H.len,?_,?_⟩ hr' (hg.trans QL st.hr.cI) (by rw[Tr,eP];exact dX) ?_ ?_ (by rw[put_defers];exact hd)
   ·intro j b k hj VM
    try simp only at hj
    by_cases e1:j=i
    ·subst e1;rw[hci]at VM;cases VM;have:b < g.length:=by
      by_cases hb:b < g.length
      ·exact hb
      ·have e:=SI b rfl;rcases bS with⟨_,h,_⟩| ⟨_,hs3⟩
       ·cases h
       rcases hs3 with⟨_,h,_⟩| ⟨_,_,_,_,_,_,h,_⟩| ⟨n,aa,x,b',off,k',hk,ha,h,hs3⟩
       ·cases h
       ·cases h
       ·cases h;rw[hk]at hs3;rw[Zt Om]at e;simp only[stepT,mM,ha,←e]at hs3;cases hs3
     simp[Acc.app,this]
    ·rw[hne j e1]at hj;rw[xC fun k' hk'=>by
      subst hk';exact eO.ne hok VM e1 hci rfl]
     exact H.wr j b k hj VM
   ·intro b hb;rw[xC fun k' hk'=>hb i k' hlt (by rw[hci,hk'])];exact H.ne b fun j k hj VM=>by
     try simp only at hj
     exact hb j k (by
      show(listed.setIfInBounds i true).getD j false=true;by_cases e1:j=i
      ·subst e1;exact hlt
      ·rw[hne j e1];exact hj) VM
   ·intro d hdn;have Se:o.dst≠some d:=by rw[←QU];exact hdn i io hio hlt
    rw[Tr,dy Se];refine h1 d fun j oj hj hl=>hdn j oj hj ?_
    exact LL
   ·intro d j oj hj hl S2;by_cases e1:j=i
    ·subst e1;rw[hio]at hj;cases hj;rw[hTi,Tr,←QU,S2];have hvv:put (T j) (some d) v=put (T j) (some d) v':=by
      have:=RK;rw[←QU,S2]at this;exact this
     rw[hvv];exact kW (by rw[dX,hTl j Om]) R2
    ·have Se:o.dst≠some d:=fun hx=>by
      exact F9
     rw[Tr,dy Se];rw[hne j e1]at hl;exact h2 d j oj hj hl S2
 have Qv:∀j,(Array.replicate ops.size false).getD j false=false:=fun j=>by
  exact z70
 refine key ops.size (Array.replicate ops.size false) h a _ Si ?_ (fun j x hj _ _=>by simp[Qv j]at hj) ⟨rfl,fun j b k hj _=>by simp[Qv j]at hj,fun b _=>rfl⟩ st.hr.drew (Grow.refl m _ w st.hr.cI).drew ?_ (fun d _=>nv st.ts d) (fun d j o _ hj _=>by simp[Qv j]at hj) rfl
 ·exact LR
 ·exact z131
theorem Ev.rF{P ro}(hmix:P.follows .mixedOrders=true){l ts ts' h cs}(hs:zR l ts h cs ts')(hok:eO cs):Ev P ro (.rF l) ts h .normal ts' (dL h cs):=by
 refine Ev.of fun cc hns hc m a w lo hlo st hm Q hQ=>?_
 cases cc with
 | region id ops draw=>
  rcases dR (by simpa only[compile]using hc)with⟨l',h1,hl⟩| ⟨l',h1,hd,⟨l2,hl2⟩,hz⟩| ⟨_,h1,_⟩<;>cases h1
  subst hd;simp only[cK,XR]at hl2;split at hl2
  case isFalse=>cases hl2
  rename_i QW;simp only[X4]at QW;exact tt hmix QW.1 QW.2 hz hs hok st ro Q (fun m' a' w' s g d=>hQ m' a' w' s g (by rw[d];exact hm.grow g st.hr.cI)) id
 | scope a=>exact absurd rfl (hns a)
 | block id a=>simp[compile]at hc
 | loop a=>simp[compile]at hc
 | _=>
  exact Af
def Ci(cs:List Acc):Acc→List Acc
 | .no=>cs
 | c=>cs++ [c]
def zL{cs c}(hc:c≠.no):Ci cs c=cs++ [c]:=by cases c<;>first| exact absurd rfl hc| rfl
def zZ(h:ah):List bJ→TS→List Acc→(TS→List Acc→Prop)→Prop
 | [],ts,cs,K=>K ts cs
 | o::r,ts,cs,K=>∃v c,vP o ts h v c∧zZ h r (put ts o.dst v) (Ci cs c) K
theorem pf:∀{a b c},(∀x∈b,x=Acc.no)→eO (a++c)→eO (a++b++c)
 | [],[],c,_,h=>h
 | [],x::b,c,hb,h=>by
  have hx:=hb x Si;subst hx;exact⟨fun n hn=>by(cases hn),by simpa using pf (a:=[]) (b:=b) (fun y hy=>hb y (Yb _ hy)) h⟩
 | x::a,b,c,hb,h=>by
  refine⟨fun n hn y hy hyn k k' hk=>?_,pf (a:=a) hb h.2⟩;rcases XC.1 hy with hy| hy
  ·rcases XC.1 hy with hy| hy
   ·exact h.1 n hn y (XC.2 (.inl hy)) hyn k k' hk
   ·rw[hb y hy]at hyn;cases hyn
  ·exact h.1 n hn y (XC.2 (.inr hy)) hyn k k' hk
theorem zZ.sound{h}:∀{l} {ts} {cs} {K},zZ h l ts cs K→∃Tm Xp ts',zR l ts h Tm ts'∧K ts' (cs++Xp)∧(∀ (a c:List Acc),eO (a++Xp++c)→eO (a++Tm++c))∧(∀g,dL g Tm=dL g Xp)
 | [],ts,cs,K,H=>⟨[],[],ts,⟨rfl,rfl⟩,by rw[XU];exact H,fun _ _ h=>h,fun _=>rfl⟩
 | o::r,ts,cs,K,H=>by
  obtain⟨v,c,h1,H⟩:=H;obtain⟨Tm,Xp,ts',h2,h3,h4,h5⟩:=zZ.sound (l:=r) H;by_cases hc:c= .no
  ·subst hc;refine⟨.no::Tm,Xp,ts',⟨v,.no,Tm,h1,rfl,h2⟩,h3,fun a d hd=>?_,fun g=>h5 g⟩;have:=pf (a:=a) (b:=[.no]) (c:=Tm++d) Si (by simpa using h4 a d hd)
   simpa using this
  ·rw[zL hc]at h3;refine⟨c::Tm,c::Xp,ts',⟨v,c,Tm,h1,rfl,h2⟩,by simpa using h3,fun a d hd=>?_,fun g=>by rw[dL,dL,h5]⟩;have:=h4 (a++ [c]) d (by simpa using hd)
   simpa using this
theorem zZ.mono{h}:∀{l} {ts} {cs} {K K'},zZ h l ts cs K→(∀ts' cs',K ts' cs'→K' ts' cs')→zZ h l ts cs K'
 | [],ts,cs,K,K',H,hk=>hk _ _ H
 | o::r,ts,cs,K,K',H,hk=>by
  obtain⟨v,c,h1,H⟩:=H;exact⟨v,c,h1,zZ.mono (l:=r) H hk⟩
end Go.Abs
