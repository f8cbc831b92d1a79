/- A part of the proof that HouseStories holds. No condition. -/
import Derived.Test.YtgplmdgpmbegiaaGreatDoorSt2
import Derived.RangeFuncRecord
import Derived.Test.YtgplmdgpmbegiaaGreatDoorSt0
set_option maxHeartbeats 4000000
set_option linter.all false
namespace Go.Abs
def qG(listed:Array Bool):Nat→Nat
 | 0=>0
 | n+1=>qG listed n+ (if listed.getD n false then 0 else 1)
def cZ{listed:Array Bool}{i j:Nat}(hi:i < listed.size): (listed.setIfInBounds i true).getD j false= (if j=i then true else listed.getD j false):=by
 by_cases h:j=i
 ·subst h;simp[YP,Zm hi]
 ·rw[Yd h];simp[YP,ZL (Zv h)]
theorem AS{listed:Array Bool}{i:Nat}(hi:i < listed.size):∀n,n≤i→qG (listed.setIfInBounds i true) n=qG listed n
 | 0,_=>rfl
 | n+1,h=>by
  simp only[qG];rw[AS hi n Om,cZ hi,Yd (by omega:¬n=i)]
theorem AR{listed:Array Bool}{i:Nat}(hi:i < listed.size)(hn:listed.getD i false=false):∀n,i < n→qG (listed.setIfInBounds i true) n+1=qG listed n
 | 0,h=>absurd h Om
 | n+1,h=>by
  simp only[qG];rw[cZ hi];by_cases e:n=i
  ·subst e;rw[AS hi n (Yg _),Yh rfl,hn];simp
  ·rw[Yd e];have:=AR hi hn n Om;omega
theorem kZ{listed}:∀n,qG listed n=0→∀i,i < n→listed.getD i false=true
 | 0,_,i,hi=>absurd hi Om
 | n+1,h,i,hi=>by
  simp only[qG]at h;by_cases e:i=n
  ·subst e;cases hl:listed.getD i false with
   | true=>rfl
   | false=>rw[hl]at h;simp at h
  ·exact kZ n Om i Om
def bY.dC(m:bY)(n:Nat):bY:=fun b=>if b < n then m b else none
def bY.patch(m1 m:bY)(n:Nat):bY:=fun b=>if b < n then m1 b else m b
mutual
theorem VR.cut{ma m n}(hd:∀b e,ma b=some e→b < n):∀ (x:AV) (va v:Value),VR ma x va→VR m x v→VR (m.dC n) x v
 | .bool _,_,_,_,hv=>hv
 | .int _ _,_,_,_,hv=>hv
 | .wG _ _,_,_,_,hv=>hv
 | .wk _ _ _,_,_,_,hv=>hv
 | .str _,_,_,_,hv=>hv
 | .ptr b o,va,v,ha,hv=>by
  exact J6
 | .nilPtr,_,_,_,hv=>hv
 | .slice b o n' es,va,v,ha,hv=>by
  rw[VR]at ha hv ⊢;obtain⟨e,_,_,he,_⟩:=ha;obtain⟨e',ca,cap,RX,hv⟩:=hv;exact⟨e',ca,cap,by unfold bY.dC;rw[Yh (hd _ _ he)];exact RX,hv⟩
 | .af,_,_,_,hv=>hv
 | .map r,va,v,ha,hv=>by
  exact J6
 | .cQ,_,_,_,hv=>hv
 | .func f a c,va,v,ha,hv=>by
  rw[VR]at ha hv ⊢;obtain⟨f1,a1,c1,_,Um,ha1,hc1⟩:=ha;obtain⟨f2,a2,c2,hv,TE,ha2,XU⟩:=hv;refine⟨f2,a2,c2,hv,?_,cH.cut hd a _ _ ha1 ha2,cH.cut hd c _ _ hc1 XU⟩;cases f<;>simp only[AE]at Um TE ⊢<;>try exact TE
  obtain⟨e,he,_⟩:=Um;obtain⟨e',RX,hg⟩:=TE;exact⟨e',by unfold bY.dC;rw[Yh (hd _ _ he)];exact RX,hg⟩
 | .nilFunc,_,_,_,hv=>hv
 | .qh u a,va,v,ha,hv=>by
  rw[VR]at ha hv ⊢;obtain⟨v1,_,h1⟩:=ha;obtain⟨v2,hv,h2⟩:=hv;exact⟨v2,hv,VR.cut hd a _ _ h1 h2⟩
 | .kf,_,_,_,hv=>hv
 | .agg l,va,v,ha,hv=>by
  exact z119
 | .dL l,va,v,ha,hv=>by
  exact z119
theorem cH.cut{ma m n}(hd:∀b e,ma b=some e→b < n):∀ (l:List AV) (va vs:List Value),cH ma l va→cH m l vs→cH (m.dC n) l vs
 | [],_,_,_,hv=>hv
 | x::xs,va,vs,ha,hv=>by
  obtain⟨y1,ys1,_,a1,a2⟩:=aR.1 ha;obtain⟨y2,ys2,h,b1,b2⟩:=aR.1 hv;exact aR.2 ⟨y2,ys2,h,VR.cut hd x _ _ a1 b1,cH.cut hd xs _ _ a2 b2⟩
end
def iQ(n:Nat)(x:AV):Prop:=∃ (ma:bY) (va:Value),(∀b e,ma b=some e→b < n)∧VR ma x va
def LU(n:Nat)(l:List AV):Prop:=∃ (ma:bY) (va:List Value),(∀b e,ma b=some e→b < n)∧cH ma l va
def qb(n:Nat):ak→Prop
 | .cells c _ _=>∀ (i:Nat) (x:AV),c[i]? =some x→iQ n x
 | .bn es=>∀ (i:Nat) (p:AV×AV),es[i]? =some p→iQ n p.1∧iQ n p.2
 | .loop _ _ ts _ _ _=>LU n ts
 | _=>True
def iQ.mono{n k}(hnk:n≤k){x}(h:iQ n x):iQ k x:=by
 exact z127
theorem qb.mono{n k}(hnk:n≤k){x}(h:qb n x):qb k x:=by
 cases x with
 | cells c mu tl=>exact fun i x hx=>(h i x hx).mono hnk
 | bn es=>exact fun i p hp=>⟨(h i p hp).1.mono hnk,(h i p hp).2.mono hnk⟩
 | loop a b c d e f=>
  exact z127
 | _=>trivial
def BR.iQ{P m w e k n}(h:BR P m w e k)(hd:∀b e,m b=some e→b < n):qb n k:=by
 cases k with
 | cells c mu tl=>
  obtain⟨cc,el,fz,_,_,h3,_⟩:=h;intro i x hx;obtain⟨_,v,_,hv⟩:=h3 i x hx;exact⟨m,v,hd,hv⟩
 | bn es=>
  obtain⟨_,S3,clock,_,_,h3⟩:=h;intro i p hp;obtain⟨q,_,h1,h2⟩:=h3 i p hp;exact⟨⟨m,_,hd,h1⟩,⟨m,_,hd,h2⟩⟩
 | loop st ex ts ps asg body=>
  obtain⟨_,fn,tmps,RU,Rl,df,_,h2,_⟩:=h;exact⟨m,_,hd,h2⟩
 | _=>trivial
theorem BR.cut{P m w e k n}(h:BR P m w e k)(hc:qb n k):BR P (m.dC n) w e k:=by
 cases k with
 | cells c mu tl=>
  obtain⟨cc,el,fz,h1,h2,h3,h4⟩:=h;exact⟨cc,el,fz,h1,h2,fun i x hx=>by
   obtain⟨ho,v,hv,hr⟩:=h3 i x hx;obtain⟨ma,va,hd,ha⟩:=hc i x hx;exact⟨ho,v,hv,VR.cut hd _ _ _ ha hr⟩,h4⟩
 | dead=>trivial
 | bn es=>
  obtain⟨ho,S3,clock,h1,h2,h3⟩:=h;exact⟨ho,S3,clock,h1,h2,fun i p hp=>by
   obtain⟨q,hq,ha,hb⟩:=h3 i p hp;obtain⟨⟨ma,va,hd,VV⟩,⟨mb,vb,Rr,hb'⟩⟩:=hc i p hp;exact⟨q,hq,VR.cut hd _ _ _ VV ha,VR.cut Rr _ _ _ hb' hb⟩⟩
 | iter s pos=>exact h
 | loop st ex ts ps asg body=>
  obtain⟨ho,fn,tmps,RU,Rl,df,h1,h2,h3,h4⟩:=h;obtain⟨ma,va,hd,ha⟩:=hc;exact⟨ho,fn,tmps,RU,Rl,df,h1,cH.cut hd _ _ _ ha h2,h3,h4⟩
structure sH(P:Program)(l:List bJ)(T:Nat→TS)(H:Nat→ah)(m0:bY)(w0:World)(S:Nat→Bool)(β θ:Nat)(m:bY)(ta:Array Value)(w:World):Prop where
 βθ:β≤θ
 θn:θ≤l.length
 low:∀j,j < β→S j=true
 high:∀j,S j=true→j < θ
 quiet:∀j,β≤j→j < θ→∃g,H (j+1)=H j++g
 len:∀j,j < θ→(H j).length≤(H (j+1)).length
 hr:HR P m (H θ) w
 MA:∀j,j < θ→S j=false→∀b,(H j).length≤b→b < (H (j+1)).length→m b=none
 iQ:∀i,β≤i→i≤θ→∀b e k,b < (H i).length→m b=some e→(H θ)[b]? =some k→qb (H i).length k
 apart:∀j,β≤j→j < θ→∀b b' e e',(H j).length≤b→b < (H (j+1)).length→¬ ((H j).length≤b'∧b' < (H (j+1)).length)→m b=some e→m b' =some e'→e.cb≠e'.cb
 grow:Grow m0 (H 0) w0 m (H θ) w
 size:ta.size= (T 0).length
 yG:∀d,(∀j o,l[j]? =some o→S j=true→o.dst≠some d)→VR m0 ((T 0).getD d aA) (ta.getD d undef)
 yF:∀d j o,l[j]? =some o→S j=true→o.dst=some d→VR (m.dC (H (j+1)).length) ((T (j+1)).getD d aA) (ta.getD d undef)
theorem vF{H:Nat→ah}{θ:Nat}(h:∀j,j < θ→(H j).length≤(H (j+1)).length){i:Nat}:∀k,i+k≤θ→(H i).length≤(H (i+k)).length
 | 0,_=>Yg _
 | k+1,hk=>YQ (vF h k Om) (h (i+k) Om)
def fB{H:Nat→ah}{θ:Nat}(h:∀j,j < θ→(H j).length≤(H (j+1)).length){i j:Nat}(hij:i≤j)(hj:j≤θ): (H i).length≤(H j).length:=by
 have:=vF h (i:=i) (j - i) Om
 rwa [show i+ (j - i)=j from by omega]at this
theorem sV{H:Nat→ah}{β θ:Nat}(h:∀j,β≤j→j < θ→∃g,H (j+1)=H j++g){i:Nat}(hi:β≤i):∀k,i+k≤θ→∃g,H (i+k)=H i++g
 | 0,_=>⟨[],Si⟩
 | k+1,hk=>by
  obtain⟨g,hg⟩:=sV h hi k Om;obtain⟨g',Rj⟩:=h (i+k) Om Om;exact⟨g++g',by rw[show i+ (k+1)=i+k+1 from by omega,Rj,hg,X4]⟩
def mQ{H:Nat→ah}{β θ:Nat}(h:∀j,β≤j→j < θ→∃g,H (j+1)=H j++g){i j:Nat}(hi:β≤i)(hij:i≤j)(hj:j≤θ):∃g,H j=H i++g:=by
 have:=sV h hi (j - i) Om
 rwa [show i+ (j - i)=j from by omega]at this
theorem vT{H:Nat→ah}{i:Nat}:∀ (k:Nat) {b:Nat},(H i).length≤b→b < (H (i+k)).length→∃j,i≤j∧j < i+k∧(H j).length≤b∧b < (H (j+1)).length
 | 0,b,h1,h2=>by simp at h2;omega
 | k+1,b,h1,h2=>by
  by_cases h:b < (H (i+k)).length
  ·obtain⟨j,a1,a2,a3⟩:=vT k h1 h;exact⟨j,a1,Om,a3⟩
  ·exact⟨i+k,Om,Om,Om,by rw[show i+k+1=i+ (k+1)from by omega];exact h2⟩
section
variable {P:Program} {m m1:bY} {h:ah} {w:World}
def bY.fh(m:bY)(n:Nat): (m.dC n).le m:=by
 intro b e hb;unfold bY.dC at hb;split at hb
 ·exact hb
 ·cases hb
def bY.zA(m:bY){n k}(hnk:n≤k): (m.dC n).le (m.dC k):=by
 intro b e hb;unfold bY.dC at hb ⊢;split at hb
 ·rw[Yh Om];exact hb
 ·cases hb
theorem HR.dC{g}(hr:HR P m (h++g) w)(hgl:P.globals.size≤h.length)(hc:∀b e k,b < h.length→m b=some e→h[b]? =some k→qb h.length k):HR P (m.dC h.length) h w where
 cI:=fun b e hb=>by unfold bY.dC at hb;split at hb<;>first| assumption| cases hb
 dP:=fun b e k hb hk=>by
  unfold bY.dC at hb;split at hb
  case isFalse=>cases hb
  rename_i hlt;exact(hr.dP b e k hb (by rw[X5 hlt];exact hk)).cut (hc b e k hlt hb hk)
 sep:=fun b1 b2 e1 e2 k1 k2 hne h1 h2 hk1 QY hcb=>by
  have d1:b1 < h.length:=(X1.1 hk1).1;have d2:b2 < h.length:=(X1.1 QY).1;exact hr.sep b1 b2 e1 e2 k1 k2 hne (bY.fh m _ _ _ h1) (bY.fh m _ _ _ h2) (by rw[X5 d1];exact hk1) (by rw[X5 d2];exact QY) hcb
 fV:=fun g hg=>by
  obtain⟨e,he,hx⟩:=hr.fV g hg;exact⟨e,by unfold bY.dC;rw[Yh Om];exact he,hx⟩
 lt:=fun b e hb=>hr.lt b e (bY.fh m _ _ _ hb)
def HR.Gf(hr:HR P m h w):P.globals.size≤h.length:=by
 by_cases hz:P.globals.size=0
 ·omega
 ·obtain⟨e,he,_⟩:=hr.fV (P.globals.size - 1) Om;have:=hr.cI _ _ he;omega
variable {l:List bJ} {T:Nat→TS} {H:Nat→ah} {m0:bY} {w0:World} {S:Nat→Bool} {β θ:Nat} {ta:Array Value}
def sH.raise(M:sH P l T H m0 w0 S β θ m ta w){θ':Nat}(h1:θ≤θ')(h2:θ'≤l.length)(hq:∀j,θ≤j→j < θ'→∃g,H (j+1)=H j++g):sH P l T H m0 w0 S β θ' m ta w:=by
 have Wk:∀j,β≤j→j < θ'→∃g,H (j+1)=H j++g:=fun j hj VO=>by
  by_cases hx:j < θ
  ·exact M.quiet j hj hx
  ·exact hq j Om VO
 have hlen:∀j,j < θ'→(H j).length≤(H (j+1)).length:=fun j hj=>by
  by_cases hx:j < θ
  ·exact M.len j hx
  ·obtain⟨g,hg⟩:=hq j Om hj;rw[hg];simp
 obtain⟨g,hg⟩:=mQ Wk M.βθ h1 (Yg _);have Q4:∀b,b < (H θ).length→(H θ')[b]? = (H θ)[b]? :=fun b hb=>by rw[hg,X5 hb]
 have hdom:∀b e,m b=some e→b < (H θ).length:=M.hr.cI;refine⟨YQ M.βθ h1,h2,M.low,fun j hj=>YU (M.high j hj) h1,Wk,hlen,⟨?_,?_,?_,M.hr.fV,M.hr.lt⟩,?_,?_,?_,⟨M.grow.ext,fB hlen (YB _) (Yg _),?_,?_,M.grow.size,M.grow.os,M.grow.out,M.grow.tape,M.grow.frame⟩,M.size,M.yG,M.yF⟩
 ·intro b e hb;have:=hdom b e hb;rw[hg];simp;omega
 ·intro b e k hb hk;exact M.hr.dP b e k hb (by rwa [Q4 b (hdom b e hb)]at hk)
 ·intro b1 b2 e1 e2 k1 k2 hne a1 a2 hk1 QY hcb;exact M.hr.sep b1 b2 e1 e2 k1 k2 hne a1 a2 (by rwa [Q4 b1 (hdom _ _ a1)]at hk1) (by rwa [Q4 b2 (hdom _ _ a2)]at QY) hcb
 ·intro j hj hs b hb hb';by_cases hx:j < θ
  ·exact M.MA j hx hs b hb hb'
  ·cases R0:m b with
   | none=>rfl
   | some e=>
    exact JQ
 ·intro i hi hi' b e k hb R0 hk;rw[Q4 b (hdom b e R0)]at hk;by_cases hx:i≤θ
  ·exact M.iQ i hi hx b e k hb R0 hk
  ·have a2:=fB hlen (i:=θ) (j:=i) Om Om;exact(M.iQ θ M.βθ (Yg _) b e k (hdom b e R0) R0 hk).mono a2
 ·intro j hj VO b b' e e' hb Rq hb' R0 UM;by_cases hx:j < θ
  ·exact M.apart j hj hx b b' e e' hb Rq hb' R0 UM
  ·exact JQ
 ·intro b e hb R0;obtain⟨ho,hc⟩:=M.grow.new b e hb R0;refine⟨ho,hc.imp id ?_⟩;rintro⟨b0,e0,c1,c2,c3,c4,c5⟩;refine⟨b0,e0,c1,c2,c3,c4,?_⟩;have d0:b0 < (H θ).length:=by
   cases hx:m0 b0 with
   | none=>rw[hx]at c1;cases c1
   | some e0'=>
    have:b0 < (H 0).length:=by
     cases ht: (H 0)[b0]? with
     | none=>unfold eo at c4;rw[ht]at c4;cases c4
     | some k=>exact(X1.1 ht).1
    exact YU this (fB hlen (YB _) h1)
  unfold eo at c5 ⊢;rw[Q4 b0 d0];exact c5
 ·intro b hb ht;refine M.grow.tl b hb ?_;unfold eo at ht ⊢
  rwa [Q4 b (YU hb (fB hlen (YB _) h1))]at ht
end
def gG(ta:Array Value)(d:Option Nat)(cv:Value):Array Value:=
 match d with
 | some d=>ta.setIfInBounds d cv
 | none=>ta
def eV(ta:Array Value)(d:Option Nat)(cv:Value): (gG ta d cv).size=ta.size:=by cases d<;>simp[gG]
def dy{ta d cv t}(h:d≠some t): (gG ta d cv).getD t undef=ta.getD t undef:=by
 cases d with
 | none=>rfl
 | some d=>
  have hne:d≠t:=fun x=>h (by rw[x])
  simp[gG,YP,ZL hne]
def xU{ts d v t}(h:d≠some t): (put ts d v).getD t aA=ts.getD t aA:=by
 cases d with
 | none=>rfl
 | some d=>
  have hne:d≠t:=fun x=>h (by rw[x])
  simp[put,List.getD,Yj hne]
def lu{m ts ta d v cv}(hs:ta.size=ts.length)(hv:VR m v cv):VR m ((put ts (some d) v).getD d aA) ((gG ta (some d) cv).getD d undef):=by
 by_cases h:d < ts.length
 ·have h':d < ta.size:=Om
  simp only[put,gG,List.getD,YP];rw[Yl h,Zm h'];exact hv
 ·have h':¬d < ta.size:=Om
  simp only[put,gG,List.getD,YP];rw[Z1 (by simp;omega),ZC (by simp;omega)];exact jK m
def mark(S:Nat→Bool)(i:Nat):Nat→Bool:=fun j=>if j=i then true else S j
section
variable {P:Program} {l:List bJ} {T:Nat→TS} {H:Nat→ah} {m0 m m1:bY} {w0 w w1:World} {S:Nat→Bool} {β θ i:Nat} {ta:Array Value}
def sH.cut(M:sH P l T H m0 w0 S β θ m ta w)(hG:P.globals.size≤(H 0).length)(hi:β≤i)(hi':i≤θ):HR P (m.dC (H i).length) (H i) w:=by
 obtain⟨g,hg⟩:=mQ M.quiet hi hi' (Yg _);have hr:HR P m (H i++g) w:=by rw[←hg];exact M.hr
 refine hr.dC (YQ hG (fB M.len (YB _) hi')) ?_;intro b e k hb R0 hk;exact M.iQ i hi hi' b e k hb R0 (by rw[hg,X5 hb];exact hk)
def sH.F6(M:sH P l T H m0 w0 S β θ m ta w)(hG:P.globals.size≤(H 0).length)(hi:β≤i)(hi':i < θ)(hS:S i=false){io}(hio:l[i]? =some io)
  (hr1:HR P m1 (H (i+1)) w1) (gext:∀b,b < (H i).length→m1 b= (m.dC (H i).length) b) (hnew0:∀b e,(H i).length≤b→m1 b=some e→e.own=true∧w0.heap.size≤e.cb∧∀b' e',m b' =some e'→e'.cb≠e.cb)
  (hfr:∀x,x < w.heap.size→(∀b e,(m.dC (H i).length) b=some e→e.own=true→e.cb≠x)→(∀b e,(H i).length≤b→m1 b=some e→e.cb≠x)→w1.heap[x]? =w.heap[x]?)
  (dZ:w.heap.size≤w1.heap.size) (hos:w1.os=w.os) (hout:w1.output=w.output) (htape:w1.tape=w.tape) {v} {cv} (hv:VR m1 v cv) (hTi:T (i+1)=put (T i) io.dst v) (hTl: (T i).length= (T 0).length)
  (huniq:∀j o d,j≠i→l[j]? =some o→o.dst=some d→io.dst≠some d):sH P l T H m0 w0 (mark S i) β θ (m1.patch m (H (i+1)).length) (gG ta io.dst cv) w1:=by
 have Ss:∀a b,a≤b→b≤θ→(H a).length≤(H b).length:=fun a b hab hb=>fB M.len hab hb
 have hi1:=M.len i hi';have hi2:=Ss (i+1) θ Om (Yg _);have h0i:=Ss 0 i Om Om;obtain⟨gi,hgi⟩:=M.quiet i hi hi';obtain⟨gt,Ua⟩:=mQ M.quiet (show β≤i+1 by omega) (show i+1≤θ by omega) (Yg _);have f3:∀b,b < (H (i+1)).length→(m1.patch m (H (i+1)).length) b=m1 b:=fun b hb=>by unfold bY.patch;rw[Yh hb]
 have f1:∀b,b < (H i).length→(m1.patch m (H (i+1)).length) b=m b:=fun b hb=>by
  rw[f3 b Om,gext b hb];unfold bY.dC;rw[Yh hb]
 have f2:∀b,(H (i+1)).length≤b→(m1.patch m (H (i+1)).length) b=m b:=fun b hb=>by unfold bY.patch;rw[Yd Om]
 have fgap:∀b,(H i).length≤b→b < (H (i+1)).length→m b=none:=M.MA i hi' hS;have Ts:m.le (m1.patch m (H (i+1)).length):=fun b e hb=>by
  by_cases h1:b < (H i).length
  ·rw[f1 b h1];exact hb
  ·by_cases h2:b < (H (i+1)).length
   ·rw[fgap b Om h2]at hb;cases hb
   ·rw[f2 b Om];exact hb
 have m1le:m1.le (m1.patch m (H (i+1)).length):=fun b e hb=>by rw[f3 b (hr1.cI b e hb)];exact hb
 have hnew:∀b e,(H i).length≤b→b < (H (i+1)).length→(m1.patch m (H (i+1)).length) b=some e→e.own=true∧w0.heap.size≤e.cb∧∀b' e',m b' =some e'→e'.cb≠e.cb:=fun b e hb hb' hm=>by
  rw[f3 b hb']at hm;exact hnew0 b e hb hm
 have hold:∀b e,m b=some e→e.cb < w.heap.size:=M.hr.lt;have hframe:∀b e,(H (i+1)).length≤b→m b=some e→w1.heap[e.cb]? =w.heap[e.cb]? :=fun b e hb hm=>by
  refine hfr e.cb (hold b e hm) ?_ (fun b0 e0 h0 h1 hcb=>(hnew0 b0 e0 h0 h1).2.2 b e hm hcb.symm);intro b0 e0 h0 ho hcb;have d0:b0 < (H i).length:=by
   unfold bY.dC at h0;split at h0
   ·assumption
   ·cases h0
  obtain⟨j,j1,j2,j3,j4⟩:=vT (H:=H) (i:=i+1) (θ - (i+1)) hb (by rw[show i+1+ (θ - (i+1))=θ from by omega];exact M.hr.cI b e hm);have hj:=Ss i j Om Om;exact M.apart j Om Om b b0 e e0 j3 j4 (fun x=>by omega) hm (bY.fh m _ _ _ h0) hcb.symm
 have Q4:∀b,b < (H (i+1)).length→(H θ)[b]? = (H (i+1))[b]? :=fun b hb=>by rw[Ua,X5 hb]
 have Q9:∀b e,(m1.patch m (H (i+1)).length) b=some e→((H i).length≤b∧b < (H (i+1)).length∧m1 b=some e)∨(¬ ((H i).length≤b∧b < (H (i+1)).length)∧m b=some e):=fun b e hb=>by
  by_cases h1:b < (H i).length
  ·rw[f1 b h1]at hb;exact .inr ⟨Om,hb⟩
  ·by_cases h2:b < (H (i+1)).length
   ·rw[f3 b h2]at hb;exact .inl ⟨Om,h2,hb⟩
   ·rw[f2 b Om]at hb;exact .inr ⟨Om,hb⟩
 have hHR:HR P (m1.patch m (H (i+1)).length) (H θ) w1:=by
  refine⟨?_,?_,?_,?_,?_⟩
  ·intro b e hb;rcases Q9 b e hb with⟨_,h2,_⟩| ⟨_,h2⟩
   ·omega
   ·exact M.hr.cI b e h2
  ·intro b e k hb hk;by_cases h2:b < (H (i+1)).length
   ·rw[f3 b h2]at hb;exact(hr1.dP b e k hb (by rwa [Q4 b h2]at hk)).mono m1le
   ·rw[f2 b Om]at hb;exact((M.hr.dP b e k hb hk).mono Ts).heap (hframe b e Om hb)
  ·intro b1 b2 e1 e2 k1 k2 hne Rq RG hk1 QY hcb;rcases Q9 b1 e1 Rq with⟨a1,a2,a3⟩| ⟨a1,a2⟩
   ·rcases Q9 b2 e2 RG with⟨c1,c2,c3⟩| ⟨c1,c2⟩
    ·exact hr1.sep b1 b2 e1 e2 k1 k2 hne a3 c3 (by rwa [Q4 b1 a2]at hk1) (by rwa [Q4 b2 c2]at QY) hcb
    ·exact absurd hcb.symm ((hnew b1 e1 a1 a2 Rq).2.2 b2 e2 c2)
   ·rcases Q9 b2 e2 RG with⟨c1,c2,c3⟩| ⟨c1,c2⟩
    ·exact absurd hcb ((hnew b2 e2 c1 c2 RG).2.2 b1 e1 a2)
    ·exact M.hr.sep b1 b2 e1 e2 k1 k2 hne a2 c2 hk1 QY hcb
  ·intro g hg;obtain⟨e,he,hx⟩:=M.hr.fV g hg;exact⟨e,Ts _ _ he,hx⟩
  ·intro b e hb;rcases Q9 b e hb with⟨_,_,h3⟩| ⟨_,h2⟩
   ·exact hr1.lt b e h3
   ·exact YU (hold b e h2) dZ
 refine⟨M.βθ,M.θn,?_,?_,M.quiet,M.len,hHR,?_,?_,?_,?_,by rw[eV];exact M.size,?_,?_⟩
 ·intro j hj;unfold mark;split
  ·rfl
  ·exact M.low j hj
 ·intro j hj;unfold mark at hj;split at hj
  ·omega
  ·exact M.high j hj
 ·intro j hj hs b hb hb';unfold mark at hs;split at hs
  ·cases hs
  rename_i hji;by_cases h1:b < (H i).length
  ·rw[f1 b h1];exact M.MA j hj hs b hb hb'
  ·by_cases h2:b < (H (i+1)).length
   ·exact JW
   ·rw[f2 b Om];exact M.MA j hj hs b hb hb'
 ·intro i2 hi2' Wr b e k hb R0 hk;rcases Q9 b e R0 with⟨a1,a2,a3⟩| ⟨_,a2⟩
  ·have hk': (H (i+1))[b]? =some k:=by rwa [Q4 b a2]at hk
   refine((hr1.dP b e k a3 hk').iQ hr1.cI).mono ?_;by_cases hlt:i2 < i+1
   ·have:=Ss i2 i Om Om;omega
   ·exact Ss (i+1) i2 Om Wr
  ·exact M.iQ i2 hi2' Wr b e k hb a2 hk
 ·intro j hj VO b b' e e' hb Rq hb' R0 UM;rcases Q9 b e R0 with⟨a1,a2,a3⟩| ⟨a1,a2⟩
  ·rcases Q9 b' e' UM with⟨c1,c2,c3⟩| ⟨c1,c2⟩
   ·exfalso;by_cases hji:j=i
    ·subst hji;exact hb' ⟨c1,c2⟩
    ·exact JW
   ·exact fun hcb=>(hnew b e a1 a2 R0).2.2 b' e' c2 hcb.symm
  ·rcases Q9 b' e' UM with⟨c1,c2,c3⟩| ⟨c1,c2⟩
   ·exact(hnew b' e' c1 c2 UM).2.2 b e a2
   ·exact M.apart j hj VO b b' e e' hb Rq hb' a2 c2
 ·refine⟨fun b hb=>(f1 b Om).trans (M.grow.ext b hb),M.grow.len,?_,M.grow.tl,YQ M.grow.size dZ,hos.trans M.grow.os,hout.trans M.grow.out,htape.trans M.grow.tape,?_⟩
  ·intro b e hb R0;rcases Q9 b e R0 with⟨a1,a2,_⟩| ⟨_,a2⟩
   ·obtain⟨ho,hc⟩:=hnew b e a1 a2 R0;exact⟨ho,.inl hc.1⟩
   ·exact M.grow.new b e hb a2
  ·intro x hx hno;refine(hfr x (YU hx M.grow.size) ?_ (fun b e hb hm hcb=>by have:=(hnew0 b e hb hm).2.1;omega)).trans (M.grow.frame x hx hno);intro b e hb ho hcb;have R0:=bY.fh m _ _ _ hb;by_cases h1:b < (H 0).length
   ·exact hno b e (by rw[←M.grow.ext b h1];exact R0) ho hcb
   ·obtain⟨_,hc⟩:=M.grow.new b e Om R0;rcases hc with hc| ⟨b0,e0,c1,c2,c3,_⟩
    ·omega
    ·exact hno b0 e0 c1 c3 (c2.trans hcb)
 ·intro d hd;exact PH
 ·intro d j o hj hs ho;by_cases hji:j=i
  ·subst hji;rw[hio]at hj;cases hj;rw[hTi,ho];have h1:m1.le ((m1.patch m (H (j+1)).length).dC (H (j+1)).length):=fun b e hb=>by
    have:=hr1.cI b e hb;unfold bY.dC;rw[Yh this,f3 b this];exact hb
   exact z198
  ·exact P0
def sH.next(M:sH P l T H m0 w0 S β θ m ta w)(hG:P.globals.size≤(H 0).length)(hi:β≤i)(hi':i < θ)(hS:S i=false){io}(hio:l[i]? =some io)
  (hr1:HR P m1 (H (i+1)) w1) (g1:Grow (m.dC (H i).length) (H i) w m1 (H (i+1)) w1) {v} {cv} (hv:VR m1 v cv) (hTi:T (i+1)=put (T i) io.dst v) (hTl: (T i).length= (T 0).length)
  (huniq:∀j o d,j≠i→l[j]? =some o→o.dst=some d→io.dst≠some d):sH P l T H m0 w0 (mark S i) β θ (m1.patch m (H (i+1)).length) (gG ta io.dst cv) w1:=by
 obtain⟨gi,hgi⟩:=M.quiet i hi hi';refine M.F6 hG hi hi' hS hio hr1 g1.ext (fun b e hb hm=>?_) (fun x hx h1 _=>g1.frame x hx h1) g1.size g1.os g1.out g1.tape hv hTi hTl huniq;obtain⟨ho,hc⟩:=g1.new b e hb hm;have Sk:w.heap.size≤e.cb:=by
  rcases hc with hc| ⟨b0,e0,c1,_,_,c4,c5⟩
  ·exact hc
  ·have d0:b0 < (H i).length:=by
    unfold bY.dC at c1;split at c1
    ·assumption
    ·cases c1
   unfold eo at c4 c5;rw[hgi,X5 d0]at c5;rw[c5]at c4;cases c4
 exact⟨ho,YQ M.grow.size Sk,fun b' e' hb'=>by have:=M.hr.lt b' e' hb';omega⟩
def sH.jump(M:sH P l T H m0 w0 S β i m ta w)(hd0:∀b e,m0 b=some e→b < (H 0).length)(hall:∀j,j < i→S j=true)(hil:i < l.length){io}(hio:l[i]? =some io)
  (hr1:HR P m1 (H (i+1)) w1) (g1:Grow (m.dC (H i).length) (H i) w m1 (H (i+1)) w1) {v} {cv} (hv:VR m1 v cv) (hTi:T (i+1)=put (T i) io.dst v) (hTl: (T i).length= (T 0).length)
  (huniq:∀j o d,j≠i→l[j]? =some o→o.dst=some d→io.dst≠some d):sH P l T H m0 w0 (mark S i) (i+1) (i+1) m1 (gG ta io.dst cv) w1:=by
 have hm:m.dC (H i).length=m:=by
  funext b;unfold bY.dC;split
  ·rfl
  ·cases hb:m b with
   | none=>rfl
   | some e=>exact absurd (M.hr.cI b e hb) (by assumption)
 rw[hm]at g1;have Ts:m.le m1:=g1.le M.hr.cI;refine⟨Yg _,hil,?_,?_,fun j hj VO=>absurd hj Om,?_,hr1,?_,?_,fun j hj VO=>absurd hj Om,M.grow.trans g1 hd0,by rw[eV];exact M.size,?_,?_⟩
 ·intro j hj;unfold mark;split
  ·rfl
  ·exact hall j Om
 ·intro j hj;unfold mark at hj;split at hj
  ·omega
  ·have:=M.high j hj;omega
 ·intro j hj;by_cases hji:j=i
  ·subst hji;exact g1.len
  ·exact M.len j Om
 ·intro j hj hs;unfold mark at hs;split at hs
  ·cases hs
  ·rw[hall j Om]at hs;cases hs
 ·intro i2 hi2 hi2' b e k hb R0 hk;have:i2=i+1:=Om
  subst this;exact(hr1.dP b e k R0 hk).iQ hr1.cI
 ·intro d hd;exact PH
 ·intro d j o hj hs ho;by_cases hji:j=i
  ·subst hji;rw[hio]at hj;cases hj;rw[hTi,ho];have h1:m1.le (m1.dC (H (j+1)).length):=fun b e hb=>by
    have:=hr1.cI b e hb;unfold bY.dC;rw[Yh this];exact hb
   exact z198
  ·exact P0
end
section
variable {P:Program} {m m':bY} {h g h':ah} {w w' w0:World}
theorem qT:∀ (l c pre:List AV),c.length=l.length→fI (pre++c) pre.length l=pre++l
 | [],c,pre,h=>by
  exact z203
 | x::l,[],pre,h=>by simp at h
 | x::l,y::c,pre,h=>by
  have e1: (pre++y::c).set pre.length x= (pre++ [x])++c:=by
   exact JL
  have e2:pre.length+1= (pre++ [x]).length:=Si
  show fI ((pre++y::c).set pre.length x) (pre.length+1) l=_;rw[e1,e2,qT l c (pre++ [x]) (by simpa using h),X4];rfl
def Grow.forget(gr:Grow m h w m' (h++g) w'):Grow m h w (m'.dC h.length) h w' where
 ext:=fun b hb=>by unfold bY.dC;rw[Yh hb];exact gr.ext b hb
 len:=Yg _
 new:=fun b e hb he=>by unfold bY.dC at he;rw[Yd Om]at he;cases he
 tl:=fun b hb ht=>ht
 size:=gr.size
 os:=gr.os
 out:=gr.out
 tape:=gr.tape
 frame:=gr.frame
def HR.forget(hr:HR P m h w)(hr':HR P m' (h++g) w')(gr:Grow m h w m' (h++g) w'):HR P (m'.dC h.length) h w':=
 hr'.dC hr.Gf fun b e k hb R0 hk=>(hr.dP b e k (by rw[←gr.ext b hb];exact R0) hk).iQ hr.cI
def HR.Mb(hr:HR P m h w){cb cc}{el:TypeId}{fz}(hb:w.heap[cb]? =some (.cells cc el fz))(hfz:∀i,i < cc.size→¬ (fz.1≤i∧i < fz.2))(hout:∀b e,m b=some e→e.cb≠cb)
  {c} {d} (hc:d+c.length=cc.size) (hv:∀ (i:Nat) (x:AV),c[i]? =some x→x.one=true∧∃v,cc[d+i]? =some v∧VR m x v):HR P (m.add h.length ⟨cb,d,cc.size,true⟩) (h++ [.cells c true false]) w:=by
 have RZ:m h.length=none:=by
  exact Mt
 have hle:m.le (m.add h.length ⟨cb,d,cc.size,true⟩):=bY.rM _ RZ;have Q9:∀b e,(m.add h.length ⟨cb,d,cc.size,true⟩) b=some e→(b=h.length∧e= ⟨cb,d,cc.size,true⟩)∨(b < h.length∧m b=some e):=fun b e Sl=>by
  exact PM
 refine⟨fun b e Sl=>?_,fun b e k Sl hk=>?_,fun b1 b2 e1 e2 k1 k2 hne h1 h2 hk1 QY hcb=>?_,fun g hg=>?_,fun b e Sl=>?_⟩
 ·rw[X2];rcases Q9 b e Sl with⟨rfl,_⟩| ⟨hlt,_⟩
  ·simp
  ·simp;omega
 ·rcases Q9 b e Sl with⟨rfl,rfl⟩| ⟨hlt,hm⟩
  ·rw[Ye (Yg _),Zb]at hk;cases hk;refine⟨cc,el,fz,hb,⟨by show d+_≤_;omega,by show d+_≤cc.size;omega,rfl⟩,fun i x hx=>?_,fun _=>⟨rfl,hfz⟩,fun _=>⟨rfl,fun _=>by show cc.size=d+c.length;omega⟩⟩;obtain⟨ho,v,h1,h2⟩:=hv i x hx;exact⟨ho,v,h1,VR.mono hle _ _ h2⟩
  ·rw[X5 hlt]at hk;exact(hr.dP b e k hm hk).mono hle
 ·exact P4
 ·obtain⟨e,he,hx⟩:=hr.fV g hg;exact⟨e,hle _ _ he,hx⟩
 ·rcases Q9 b e Sl with⟨_,rfl⟩| ⟨_,hm⟩
  ·exact(Ym.1 hb).1
  ·exact hr.lt b e hm
def CC{x}(h:ye x=true):x.one=true:=by cases x<;>first| rfl| cases h
def EH{x v}(h:ye x=true)(hv:VR m x v)(m':bY):VR m' x v:=by
 cases x<;>first| exact hv| cases h
def kF(m:bY)(w0 w:World)(zc:List AV)(cv:Value):Prop:=
 ∃ (cb d:Nat) (cc:Array Value) (el:TypeId) (fz:Nat×Nat),cv= .pointer (some ⟨cb,d,none⟩)∧w.heap[cb]? =some (.cells cc el fz)∧d+zc.length=cc.size∧(∀i,i < cc.size→¬ (fz.1≤i∧i < fz.2))∧
  (∀ (i:Nat) (x:AV),zc[i]? =some x→x.one=true∧∃v,cc[d+i]? =some v∧∀m:bY,VR m x v)∧w0.heap.size≤cb∧∀b e,m b=some e→e.cb≠cb
def kF.move{zc cv}(p:kF m w0 w zc cv)(hh:∀cb d,cv= .pointer (some ⟨cb,d,none⟩)→cb < w.heap.size→(∀b e,m b=some e→e.cb≠cb)→w'.heap[cb]? =w.heap[cb]?)
  (hm:∀cb d,cv= .pointer (some ⟨cb,d,none⟩)→cb < w.heap.size→(∀b e,m b=some e→e.cb≠cb)→∀b e,m' b=some e→e.cb≠cb):kF m' w0 w' zc cv:=by
 obtain⟨cb,d,cc,el,fz,h1,h2,h3,h4,h5,h6,h7⟩:=p;have hlt:cb < w.heap.size:=(Ym.1 h2).1;exact⟨cb,d,cc,el,fz,h1,by rw[hh cb d h1 hlt h7];exact h2,h3,h4,h5,h6,hm cb d h1 hlt h7⟩
def kF.grow{zc cv}(p:kF m w0 w zc cv)(gr:Grow (m.dC h.length) h w m' h' w'):kF m' w0 w' zc cv∧kF (m'.patch m h'.length) w0 w' zc cv:=by
 have hh:∀cb d,cv= .pointer (some ⟨cb,d,none⟩)→cb < w.heap.size→(∀b e,m b=some e→e.cb≠cb)→w'.heap[cb]? =w.heap[cb]? :=fun cb d _ hlt h7=>gr.frame cb hlt fun b e he _=>h7 b e (bY.fh _ _ _ _ he)
 have hnew:∀cb,cb < w.heap.size→(∀b e,m b=some e→e.cb≠cb)→∀b e,m' b=some e→e.cb≠cb:=fun cb hlt h7 b e he=>by
  by_cases hb:b < h.length
  ·rw[gr.ext b hb]at he;exact h7 b e (bY.fh _ _ _ _ he)
  ·obtain⟨_,hc⟩:=gr.new b e Om he;rcases hc with hc| ⟨b0,e0,c1,c2,_⟩
   ·omega
   ·rw[←c2];exact h7 b0 e0 (bY.fh _ _ _ _ c1)
 refine⟨p.move hh fun cb d _ hlt h7=>hnew cb hlt h7,p.move hh fun cb d _ hlt h7 b e he=>?_⟩;unfold bY.patch at he;split at he
 ·exact hnew cb hlt h7 b e he
 ·exact h7 b e he
end
structure cA(ops:Array Oper)(l:List bJ)(k s t:Nat)(z:AV)(n:Nat)(x:cT):Prop where
 ks:k < s
 hk:l[k]? =some { dst:=some t,k:=.box (.c z),gd:=none,q:=true }
 hs:l[s]? =some { dst:=none,k:=.store n (.t t) x,gd:=none,q:=true }
 zn:z.cells.length=n
 zc:z.cells.all ye=true
 xt:∀u,x= .t u→u≠t∧fx ops s u=true
 lt:fx ops s t=true
 only:∀j,j < ops.size→j≠s→fx ops j t=false
def nF{o n t x}(h:lQ o=some (n,t,x)):o={ dst:=none,k:=.store n (.t t) x,gd:=none,q:=true }:=by
 obtain⟨d,k,gd,q⟩:=o;unfold lQ at h;exact z117
def yi{o t z}(h:tC o=some (t,z)):o={ dst:=some t,k:=.box (.c z),gd:=none,q:=true }:=by
 obtain⟨d,k,gd,q⟩:=o;unfold tC at h;exact z117
def pQ{ops l k s}(hks:k < s)(h:pf ops l k s=true):∃t z n x,cA ops l k s t z n x:=by
 unfold pf at h;split at h
 case h_2=>cases h
 rename_i t z n t' x h1 h2;obtain⟨a,ha,hb⟩:=Za.1 h1;obtain⟨b,Rq,RG⟩:=Za.1 h2;have e1:=yi hb;have e2:=nF RG;subst e1;subst e2;simp only[YD,beq_iff_eq,YE,Zh,ZQ,Zt]at h;obtain⟨⟨⟨⟨⟨rfl,q2⟩,q3⟩,q4⟩,q5⟩,q6⟩:=h;refine⟨t,z,n,x,hks,ha,Rq,q2,YE.2 q3,fun u hu=>?_,q5,fun j hj hne=>(q6 j hj).resolve_left hne⟩;subst hu;simp only[YD,bne_iff_ne,ne_eq]at q4;exact q4
def cA.ok{ops l k s t z n x}(p:cA ops l k s t z n x):pf ops l k s=true:=by
 unfold pf;rw[p.hk,p.hs];simp only[Option.bind_some,tC,lQ,YD,beq_iff_eq,YE,Zh,ZQ,Zt];refine⟨⟨⟨⟨⟨trivial,p.zn⟩,YE.1 p.zc⟩,?_⟩,p.lt⟩,fun j hj=>?_⟩
 ·cases x with
  | t u=>simp only[YD,bne_iff_ne,ne_eq];exact p.xt u rfl
  | _=>rfl
 ·by_cases hne:j=s
  ·exact .inl hne
  ·exact .inr (p.only j hj hne)
def Hr:bJ:={ dst:=none,k:=.aF (.c (.bool false)),gd:=none,q:=true }
theorem vY{ops l}:∀{r} {i j},(pZ ops l i r)[j]? = (r[j]?).map (tu ops l (i+j))
 | [],i,j=>by simp[pZ]
 | o::r,i,0=>by simp[pZ]
 | o::r,i,j+1=>by
  show(pZ ops l (i+1) r)[j]? =_;rw[vY,show i+1+j=i+ (j+1) by omega];simp
theorem vX{ops l}:∀{r} {i},(pZ ops l i r).length=r.length
 | [],_=>rfl
 | o::r,i=>by simp[pZ,vX]
def x9{ops l}(hl:l.length=ops.size){j o}(ho:l[j]? =some o):
  (∃k t z n x,cA ops l k j t z n x∧tu ops l j o={ dst:=some t,k:=.nh n x,gd:=none,q:=true })∨
  (∃s t z n x,cA ops l j s t z n x∧tu ops l j o=Hr)∨
  (tu ops l j o=o∧(∀k t z n x,¬cA ops l k j t z n x)∧(∀s t z n x,¬cA ops l j s t z n x)):=by
 unfold tu;split
 ·rename_i n t x bS;have e1:=nF bS;have Rb:∀s t z n x,¬cA ops l j s t z n x:=fun s t' z n' x' p=>by
   have:=p.hk;rw[ho,e1]at this;cases this
  split
  ·rename_i k hk;unfold Oi at hk;have h1:=aaz hk;have h2:=Zh.1 (List.mem_of_find?_eq_some hk);obtain⟨t',z,n',x',p⟩:=pQ h2 h1;have:=p.hs;rw[ho,e1]at this;cases this;exact .inl ⟨k,_,z,_,_,p,rfl⟩
  ·rename_i hk;refine .inr (.inr ⟨rfl,fun k t' z n' x' p=>?_,Rb⟩);unfold Oi at hk;exact List.find?_eq_none.1 hk k (Zh.2 p.ks) p.ok
 ·rename_i bS;have hns:∀k t z n x,¬cA ops l k j t z n x:=fun k t' z n' x' p=>by
   have:=p.hs;rw[ho]at this;cases this;simp[lQ]at bS
  split
  ·rename_i y QU;split
   ·rename_i s hs;unfold Ni at hs;have h1:=aaz hs;simp only[YD,YO]at h1;obtain⟨t',z,n',x',p⟩:=pQ h1.1 h1.2;exact .inr (.inl ⟨s,t',z,n',x',p,rfl⟩)
   ·rename_i hs;refine .inr (.inr ⟨rfl,hns,fun s t' z n' x' p=>?_⟩);unfold Ni at hs;refine List.find?_eq_none.1 hs s (Zh.2 ((X1.1 p.hs).1)) ?_;simp only[YD,YO];exact⟨p.ks,p.ok⟩
  ·rename_i QU;refine .inr (.inr ⟨rfl,hns,fun s t' z n' x' p=>?_⟩);have:=p.hk;rw[ho]at this;cases this;simp[tC]at QU
def pD(v v':Value):Prop:=∀cb d U9 d',v= .pointer (some ⟨cb,d,none⟩)→v' = .pointer (some ⟨U9,d',none⟩)→cb≠U9
theorem pD.symm{v v'}(h:pD v v'):pD v' v:=fun cb d U9 d' h1 h2 e=>h U9 d' cb d h2 h1 e.symm
structure pG(ops:Array Oper)(l:List bJ)(w0:World)(S:Nat→Bool)(ta tmps:Array Value)(m:bY)(w:World):Prop where
 size:tmps.size=ta.size
 ag:∀d,(∀k s z n x,cA ops l k s d z n x→S k=true→S s=false→False)→tmps.getD d undef=ta.getD d undef
 pd:∀k s t z n x,cA ops l k s t z n x→S k=true→S s=false→kF m w0 w z.cells (tmps.getD t undef)
 dj:∀k s t z n x k' s' t' z' n' x',cA ops l k s t z n x→cA ops l k' s' t' z' n' x'→S k=true→S s=false→S k' =true→S s' =false→t≠t'→pD (tmps.getD t undef) (tmps.getD t' undef)
section
variable {ops:Array Oper} {l:List bJ} {w0 w w':World} {S:Nat→Bool} {ta tmps:Array Value} {m m':bY}
def iW{ta d cv}(h:d < ta.size): (gG ta (some d) cv).getD d undef=cv:=by
 simp only[gG,YP];rw[Zm h];rfl
def xV{d cv t}(hs:tmps.size=ta.size)(h:tmps.getD t undef=ta.getD t undef): (gG tmps d cv).getD t undef= (gG ta d cv).getD t undef:=by
 by_cases hd:d=some t
 ·subst hd;by_cases ht:t < ta.size
  ·rw[iW ht,iW Om]
  ·simp only[gG,YP];rw[ZC (by simp;omega),ZC (by simp;omega)]
 ·rw[dy hd,dy hd];exact h
def pG.other(I:pG ops l w0 S ta tmps m w){i d cv}(h1:∀k t z n x,¬cA ops l k i t z n x)(h2:∀s t z n x,¬cA ops l i s t z n x)(hd:∀k s t z n x,cA ops l k s t z n x→d≠some t)
  (hp:∀zc cv,kF m w0 w zc cv→kF m' w0 w' zc cv):pG ops l w0 (mark S i) (gG ta d cv) (gG tmps d cv) m' w' where
 size:=by rw[eV,eV];exact I.size
 ag:=fun t ht=>xV I.size (I.ag t fun k s z n x p hk hs=>ht k s z n x p (by unfold mark;split<;>first| rfl| exact hk) (by
  unfold mark;split
  ·rename_i e;subst e;exact absurd p (h1 _ _ _ _ _)
  ·exact hs))
 pd:=fun k s t z n x p hk hs=>by
  have hki:k≠i:=fun e=>h2 _ _ _ _ _ (e▸p)
  have hsi:s≠i:=fun e=>h1 _ _ _ _ _ (e▸p)
  unfold mark at hk hs;rw[Yd hki]at hk;rw[Yd hsi]at hs;rw[dy (hd _ _ _ _ _ _ p)];exact hp _ _ (I.pd k s t z n x p hk hs)
 dj:=fun k s t z n x k' s' t' z' n' x' p p' hk hs hk' QW hne=>by
  have hki:k≠i:=fun e=>h2 _ _ _ _ _ (e▸p)
  have hsi:s≠i:=fun e=>h1 _ _ _ _ _ (e▸p)
  have hki':k'≠i:=fun e=>h2 _ _ _ _ _ (e▸p')
  have hsi':s'≠i:=fun e=>h1 _ _ _ _ _ (e▸p')
  unfold mark at hk hs hk' QW;rw[Yd hki]at hk;rw[Yd hsi]at hs;rw[Yd hki']at hk';rw[Yd hsi']at QW;rw[dy (hd _ _ _ _ _ _ p),dy (hd _ _ _ _ _ _ p')];exact I.dj _ _ _ _ _ _ _ _ _ _ _ _ p p' hk hs hk' QW hne
def C9(ops:Array Oper)(l:List bJ):Prop:=∀k s t z n x k' s' t' z' n' x',cA ops l k s t z n x→cA ops l k' s' t' z' n' x'→(t=t'→k=k'∧s=s')∧(k=k'→t=t')∧(s=s'→t=t')∧k≠s'
def pG.make(U:C9 ops l)(I:pG ops l w0 S ta tmps m w){k s t n z x cv}(p0:cA ops l k s t z n x)(ht:t < tmps.size)(hss:S s=false)
  (hnew:kF m' w0 w' z.cells cv) (hfar:∀cb d,cv= .pointer (some ⟨cb,d,none⟩)→w.heap.size≤cb) (hp:∀zc cv,kF m w0 w zc cv→kF m' w0 w' zc cv):pG ops l w0 (mark S k) ta (gG tmps (some t) cv) m' w' where
 size:=by rw[eV];exact I.size
 ag:=fun d hd=>by
  by_cases hdt:d=t
  ·subst hdt;exact(hd k s z n x p0 (by simp[mark]) (by
    have:s≠k:=Nat.ne_of_gt p0.ks;simp only[mark,Yd this];exact hss)).elim
  ·rw[dy (fun e=>hdt (Y6 e).symm)];refine I.ag d fun k' s' z' n' x' p hk hs=>hd k' s' z' n' x' p (by unfold mark;split<;>first| rfl| exact hk) ?_
   have:s'≠k:=fun e=>((U _ _ _ _ _ _ _ _ _ _ _ _ p0 p).2.2.2 e.symm)
   simp only[mark,Yd this];exact hs
 pd:=fun k' s' t' z' n' x' p hk hs=>by
  by_cases hkk:k' =k
  ·have e:=(U _ _ _ _ _ _ _ _ _ _ _ _ p0 p).2.1 hkk.symm;subst e;subst hkk;have hz:=p0.hk.symm.trans p.hk;have hz:z=z':=by cases hz;rfl
   subst hz;rw[iW ht];exact hnew
  ·have hsk:s'≠k:=fun e=>((U _ _ _ _ _ _ _ _ _ _ _ _ p0 p).2.2.2 e.symm)
   unfold mark at hk hs;rw[Yd hkk]at hk;rw[Yd hsk]at hs;have hne:t≠t':=fun e=>hkk ((U _ _ _ _ _ _ _ _ _ _ _ _ p0 p).1 e).1.symm
   rw[dy (fun e=>hne (Y6 e))];exact hp _ _ (I.pd _ _ _ _ _ _ p hk hs)
 dj:=fun k1 s1 t1 z1 n1 x1 k2 s2 t2 z2 n2 x2 p1 p2 hk1 SJ QY Rt hne=>by
  have hold:∀k' s' t' z' n' x',cA ops l k' s' t' z' n' x'→k'≠k→mark S k k' =true→mark S k s' =false→t≠t'∧S k' =true∧S s' =false∧(gG tmps (some t) cv).getD t' undef=tmps.getD t' undef:=fun k' s' t' z' n' x' p hkk hk hs=>by
   have hsk:s'≠k:=fun e=>((U _ _ _ _ _ _ _ _ _ _ _ _ p0 p).2.2.2 e.symm)
   unfold mark at hk hs;rw[Yd hkk]at hk;rw[Yd hsk]at hs;have hne:t≠t':=fun e=>hkk ((U _ _ _ _ _ _ _ _ _ _ _ _ p0 p).1 e).1.symm
   exact⟨hne,hk,hs,dy (fun e=>hne (Y6 e))⟩
  have hfar':∀k' s' t' z' n' x',cA ops l k' s' t' z' n' x'→S k' =true→S s' =false→pD cv (tmps.getD t' undef):=fun k' s' t' z' n' x' p hk hs cb1 d1 cb2 d2 e1 e2=>by
   obtain⟨cb,d,cc,el,fz,q1,q2,_⟩:=I.pd _ _ _ _ _ _ p hk hs;rw[q1]at e2;cases e2;have:=hfar cb1 d1 e1;have:=(Ym.1 q2).1;omega
  by_cases h1:k1=k
  ·have e1:=(U _ _ _ _ _ _ _ _ _ _ _ _ p0 p1).2.1 h1.symm;by_cases h2:k2=k
   ·exact absurd (e1.symm.trans ((U _ _ _ _ _ _ _ _ _ _ _ _ p0 p2).2.1 h2.symm)) hne
   ·obtain⟨a1,a2,a3,a4⟩:=hold _ _ _ _ _ _ p2 h2 QY Rt;rw[a4,←e1,iW ht];exact hfar' _ _ _ _ _ _ p2 a2 a3
  ·obtain⟨b1,b2,b3,b4⟩:=hold _ _ _ _ _ _ p1 h1 hk1 SJ;by_cases h2:k2=k
   ·have e2:=(U _ _ _ _ _ _ _ _ _ _ _ _ p0 p2).2.1 h2.symm;rw[b4,←e2,iW ht];exact(hfar' _ _ _ _ _ _ p1 b2 b3).symm
   ·obtain⟨a1,a2,a3,a4⟩:=hold _ _ _ _ _ _ p2 h2 QY Rt;rw[a4,b4];exact I.dj _ _ _ _ _ _ _ _ _ _ _ _ p1 p2 b2 b3 a2 a3 hne
def pG.fill(U:C9 ops l)(I:pG ops l w0 S ta tmps m w){k s t n z x}(p0:cA ops l k s t z n x)(ht:t < tmps.size)
  (hp:∀zc cv,pD cv (tmps.getD t undef)→kF m w0 w zc cv→kF m' w0 w' zc cv) (hk:S k=true) (hs:S s=false):pG ops l w0 (mark S s) (gG ta (some t) (tmps.getD t undef)) tmps m' w':=by
 have hold:∀k' s' t' z' n' x',cA ops l k' s' t' z' n' x'→mark S s k' =true→mark S s s' =false→t≠t'∧S k' =true∧S s' =false:=fun k' s' t' z' n' x' p hk' QW=>by
  have h1:k'≠s:=(U _ _ _ _ _ _ _ _ _ _ _ _ p p0).2.2.2;have h2:s'≠s:=fun e=>by simp[mark,e]at QW
  unfold mark at hk' QW;rw[Yd h1]at hk';rw[Yd h2]at QW;exact⟨fun e=>h2 ((U _ _ _ _ _ _ _ _ _ _ _ _ p p0).1 e.symm).2,hk',QW⟩
 refine⟨by rw[eV];exact I.size,fun d hd=>?_,fun k' s' t' z' n' x' p hk' QW=>?_,fun k1 s1 t1 z1 n1 x1 k2 s2 t2 z2 n2 x2 p1 p2 hk1 SJ QY Rt hne=>?_⟩
 ·by_cases hdt:d=t
  ·subst hdt;rw[iW (by rw[←I.size];exact ht)]
  ·rw[dy (fun e=>hdt (Y6 e).symm)];refine I.ag d fun k' s' z' n' x' p hk' QW=>hd k' s' z' n' x' p (by unfold mark;split<;>first| rfl| exact hk') ?_
   have h2:s'≠s:=fun e=>hdt ((U _ _ _ _ _ _ _ _ _ _ _ _ p p0).2.2.1 e)
   simp only[mark,Yd h2];exact QW
 ·obtain⟨a1,a2,a3⟩:=hold _ _ _ _ _ _ p hk' QW;exact hp _ _ (I.dj _ _ _ _ _ _ _ _ _ _ _ _ p p0 a2 a3 hk hs (Zv a1)) (I.pd _ _ _ _ _ _ p a2 a3)
 ·obtain⟨a1,a2,a3⟩:=hold _ _ _ _ _ _ p1 hk1 SJ;obtain⟨b1,b2,b3⟩:=hold _ _ _ _ _ _ p2 QY Rt;exact I.dj _ _ _ _ _ _ _ _ _ _ _ _ p1 p2 a2 a3 b2 b3 hne
end
def cL{M ops}(h:lR M ops=true){i j x y}(hij:i < j)(hx:ops[i]? =some x)(hy:ops[j]? =some y):
  (∀d,x.dst=some d→y.dst≠some d∧(d∈y.looksAt ops→ahead M i j=true))∧(∀d,y.dst=some d→d∈x.looksAt ops→ahead M i j=true):=by
 have hj:j < ops.size:=(Ym.1 hy).1;unfold lR at h;rw[YE]at h;have h1:=h j (Zh.2 hj);rw[YE]at h1;have h2:=h1 i (Zh.2 hij);rw[hx,hy]at h2;simp only[YD]at h2;obtain⟨h3,h4⟩:=h2;constructor
 ·intro d hd;rw[hd]at h3;simp only[YD,bne_iff_ne,ne_eq,ZQ,Zt,List.contains_eq_mem,ZT]at h3;exact⟨h3.1,fun hl=>h3.2.resolve_left (fun hx=>hx hl)⟩
 ·intro d hd hl;rw[hd]at h4;simp only[ZQ,Zt,List.contains_eq_mem,ZT]at h4;exact h4.resolve_left (fun hx=>hx hl)
def n8{M ops}(h:km M ops=true){j o}(ho:ops[j]? =some o):
  (∀e∈o.after,Region.binds .any e=true→e.on < j)∧(∀i,i < ops.size→ahead M i j=true→∃e∈o.after,Region.binds .any e=true∧(e.on=i∨ahead M i e.on=true)):=by
 have hj:j < ops.size:=(Ym.1 ho).1;unfold km at h;rw[YE]at h;have h1:=h j (Zh.2 hj);rw[ho]at h1;simp only[YD]at h1;obtain⟨h2,h3⟩:=h1;constructor
 ·intro e he hb;rw[YE]at h2;have:=h2 e (by simpa using he);simp only[hb,Yw,aah,YO]at this;exact this
 ·intro i hi ha;rw[YE]at h3;have:=h3 i (Zh.2 hi);simp only[ha,Yw,aah,ZE,YD,ZQ,beq_iff_eq]at this;obtain⟨e,he,hb,hor⟩:=this;exact⟨e,by simpa using he,hb,hor⟩
def om{M n j}(h:gC M n j=true){i}(hi:i < n)(hne:i≠j): (i < j→ahead M i j=true)∧(j < i→ahead M j i=true):=by
 unfold gC at h;rw[YE]at h;have h1:=h i (Zh.2 hi);simp only[ZQ,beq_iff_eq]at h1;have h2:=h1.resolve_left hne;constructor
 ·intro hlt;rwa [Yh hlt]at h2
 ·intro hlt;rwa [Yd Om]at h2
theorem uF{T:Nat→TS}{t:Nat}{a:Nat}:∀k,(∀j,a≤j→j < a+k→∃d v,T (j+1)=put (T j) d v∧d≠some t)→(T (a+k)).getD t aA= (T a).getD t aA
 | 0,_=>rfl
 | k+1,h=>by
  obtain⟨d,v,h1,h2⟩:=h (a+k) Om Om;rw[show a+ (k+1)=a+k+1 from by omega,h1,xU h2];exact uF k fun j h3 h4=>h j h3 Om
def yU{listed:Array Bool}{i:Nat}(hi:i < listed.size): (fun j=>(listed.setIfInBounds i true).getD j false)=mark (fun j=>listed.getD j false) i:=by
 funext j;unfold mark;exact cZ hi
def iV{ops listed}(hs:listed.size=ops.size){i}:i∈Region.ready .any ops listed↔∃o,ops[i]? =some o∧listed.getD i false=false∧∀e∈o.after,Region.binds .any e=true→listed.getD e.on false=true:=by
 unfold Region.ready;simp only[Zk,Zh,YD,Zt];constructor
 ·rintro⟨hi,hl,ha⟩;have ho:ops[i]? =some ops[i]:=YT hi;refine⟨ops[i],ho,?_,?_⟩
  ·exact J0
  ·rw[ho]at ha;simp only[ZY,aaj,Z5,ZQ,Zt]at ha;intro e he hb;exact(ha e he).resolve_left (by simp[hb])
 ·rintro⟨o,ho,hl,ha⟩;have hi:i < ops.size:=(Ym.1 ho).1;refine⟨hi,?_,?_⟩
  ·exact J0
  ·rw[ho];simp only[ZY,aaj,Z5,ZQ,Zt];intro e he;cases hb:Region.binds .any e with
   | true=>exact .inr (ha e he hb)
   | false=>exact .inl rfl
def lT{M ops}(he:km M ops=true){listed}(hs:listed.size=ops.size)(hr:Region.ready .any ops listed= []):∀i,i < ops.size→listed.getD i false=true:=by
 intro i
 induction i using Nat.strongRecOn with
 | _ i ih=>
  intro hi;cases hl:listed.getD i false with
  | true=>rfl
  | false=>
   have:i∈Region.ready .any ops listed:=by
    have ho:ops[i]? =some ops[i]:=YT hi;refine(iV hs).2 ⟨ops[i],ho,hl,fun e hee hb=>?_⟩;have:=(n8 he ho).1 e hee hb;exact ih e.on this Om
   rw[hr]at this;cases this
def lU{ops listed}(hs:listed.size=ops.size)(h:∀i,i < ops.size→listed.getD i false=true):Region.ready .any ops listed= []:=by
 cases hr:Region.ready .any ops listed with
 | nil=>rfl
 | cons x xs=>
  have:x∈Region.ready .any ops listed:=by rw[hr];simp
  obtain⟨o,ho,hl,_⟩:=(iV hs).1 this;rw[h x (Ym.1 ho).1]at hl;cases hl
def vi{P:Program}(hmix:P.follows .mixedOrders=true){ops:Array Oper}{l:List bJ}(hc:cK P ops true=some l){ts ts':TS}{h h':ah}(hs:yp P l ts h ts' h'){m:bY}{a:Act}{w:World}
  (st:St P m ts h a w) (ro:Option Nat) (Q:Exit→Act→World→Prop) (hQ:∀m' a' w',St P m' ts' h' a' w'→Grow m h w m' h' w'→a'.defers=a.defers→Q .normal a' w') (id:Nat):
  (Code.region id ops true).wpIn (Fd ro) 0 P Q a w:=by
 refine wpIn_region_any hmix ?_;obtain⟨T,H,rfl,rfl,rfl,rfl,hrow⟩:=hs.row;simp only[cK,Ys]at hc;split at hc
 case isFalse=>cases hc
 rename_i hok;simp only[YD]at hok;obtain⟨hed,hsl⟩:=hok;obtain⟨l0,hc,hl⟩:=Yr.1 hc;obtain⟨Re,Q4⟩:=fX hc;simp only[aag]at Re;have hlen:l.length=ops.size:=by rw[←hl,vX,Re]
 have hget0:∀j o,ops[j]? =some o→∃io,l0[j]? =some io∧bP P ops (!gC (Region.before ops) ops.size j) o=some io:=fun j o ho=>by
  obtain⟨y,h1,h2⟩:=Q4 j o (by simpa using ho);exact⟨y,h1,by rwa [YR]at h2⟩
 have TJ:∀j io,l0[j]? =some io→∃o,ops[j]? =some o∧bP P ops (!gC (Region.before ops) ops.size j) o=some io:=fun j io hj=>by
  have hlt:j < ops.size:=by have:=(X1.1 hj).1;omega
  have ho:ops[j]? =some ops[j]:=YT hlt;obtain⟨io',h1,h2⟩:=hget0 j _ ho;rw[hj]at h1;cases h1;exact⟨_,ho,h2⟩
 have VU:∀ (j:Nat) (io:bJ),l[j]? =some io→(∃k t z n x,cA ops l0 k j t z n x∧io={ dst:=some t,k:=.nh n x,gd:=none,q:=true })∨(∃s t z n x,cA ops l0 j s t z n x∧io=Hr)∨
   ((∃o,ops[j]? =some o∧bP P ops (!gC (Region.before ops) ops.size j) o=some io)∧(∀k t z n x,¬cA ops l0 k j t z n x)∧(∀s t z n x,¬cA ops l0 j s t z n x)):=fun j io hj=>by
  rw[←hl,vY,YR]at hj;obtain⟨io0,h0,rfl⟩:=Yr.1 hj;rcases x9 Re h0 with⟨k,t,z,n,x,p,e⟩| ⟨s,t,z,n,x,p,e⟩| ⟨e,n1,n2⟩
  ·exact .inl ⟨k,t,z,n,x,p,e⟩
  ·exact .inr (.inl ⟨s,t,z,n,x,p,e⟩)
  ·rw[e];exact .inr (.inr ⟨TJ j io0 h0,n1,n2⟩)
 have hdU:∀ (i j:Nat) (oi oj:Oper) (d:Nat),ops[i]? =some oi→ops[j]? =some oj→oi.dst=some d→oj.dst=some d→i=j:=fun i j oi oj d hi hj h1 h2=>by
  by_cases hlt:i < j
  ·exact absurd h2 ((cL hsl hlt hi hj).1 d h1).1
  ·by_cases Ua:j < i
   ·exact absurd h1 ((cL hsl Ua hj hi).1 d h2).1
   ·omega
 have XA:∀{k s t:Nat} {z:AV} {n:Nat} {x:cT},cA ops l0 k s t z n x→∃o,ops[k]? =some o∧o.dst=some t∧bP P ops (!gC (Region.before ops) ops.size k) o=some { dst:=some t,k:=.box (.c z),gd:=none,q:=true }:=fun p=>by
  obtain⟨o,h1,h2⟩:=TJ _ _ p.hk;exact⟨o,h1,(dm h2).1.symm,h2⟩
 have hps:∀{k s t:Nat} {z:AV} {n:Nat} {x:cT},cA ops l0 k s t z n x→∃o,ops[s]? =some o∧o.dst=none∧bP P ops (!gC (Region.before ops) ops.size s) o=some { dst:=none,k:=.store n (.t t) x,gd:=none,q:=true }:=fun p=>by
  obtain⟨o,h1,h2⟩:=TJ _ _ p.hs;exact⟨o,h1,(dm h2).1.symm,h2⟩
 have hlooks:∀{j t:Nat} {o:Oper},ops[j]? =some o→fx ops j t=true→t∈o.looksAt ops:=fun ho h=>by
  unfold fx at h;rw[ho]at h
  simpa using h
 have VI:∀{j t:Nat} {o:Oper},ops[j]? =some o→t∈o.looksAt ops→fx ops j t=true:=fun ho h=>by
  unfold fx;rw[ho]
  simpa using h
 have dZ:∀{j:Nat} {o:Oper},ops[j]? =some o→j < ops.size:=fun ho=>(Ym.1 ho).1
 have U:C9 ops l0:=fun k s t z n x k' s' t' z' n' x' p p'=>by
  refine⟨fun e=>?_,fun e=>?_,fun e=>?_,fun e=>?_⟩
  ·subst e;obtain⟨o,h1,h2,_⟩:=XA p;obtain⟨o',h1',h2',_⟩:=XA p';refine⟨hdU _ _ _ _ _ h1 h1' h2 h2',?_⟩;by_cases hs:s=s'
   ·exact hs
   ·obtain⟨os,SJ,_⟩:=hps p';have:=p.only s' (dZ SJ) (Zv hs);rw[p'.lt]at this;cases this
  ·subst e;have:=p.hk.symm.trans p'.hk;cases this;rfl
  ·subst e;have:=p.hs.symm.trans p'.hs;cases this;rfl
  ·subst e;have:=p.hk.symm.trans p'.hs;cases this
 have hpt:∀{i:Nat} {o:Oper} {t:Nat},ops[i]? =some o→t∈o.looksAt ops→∀k s z n x,cA ops l0 k s t z n x→i=s:=fun {i o t} ho ht k s z n x p=>by
  by_cases hi:i=s
  ·exact hi
  ·have:=p.only _ (dZ ho) hi;rw[VI ho ht]at this;cases this
 have R5:∀ (j:Nat) (io:bJ) (d:Nat),l[j]? =some io→io.dst=some d→(∃o,ops[j]? =some o∧o.dst=some d∧(∀k t z n x,¬cA ops l0 k j t z n x)∧(∀s t z n x,¬cA ops l0 j s t z n x))∨(∃k z n x,cA ops l0 k j d z n x):=fun j io d hj hd=>by
  rcases VU j io hj with⟨k,t,z,n,x,p,e⟩| ⟨s,t,z,n,x,p,e⟩| ⟨⟨o,h1,h2⟩,n1,n2⟩
  ·rw[e]at hd;cases hd;exact .inr ⟨k,z,n,x,p⟩
  ·rw[e]at hd;cases hd
  ·exact .inl ⟨o,h1,by rw[← (dm h2).1];exact hd,n1,n2⟩
 have Sx:∀j io,l[j]? =some io→∃v,T (j+1)=put (T j) io.dst v:=fun j io hj=>(hrow.step j io hj).1.put
 have hTl:∀j,j≤l.length→(T j).length= (T 0).length:=by
  intro j
  induction j with
  | zero=>intro _;rfl
  | succ j ih=>
   intro hj;exact MN
 have hG:P.globals.size≤(H 0).length:=st.hr.Gf;have huniq:∀ (i:Nat) (io:bJ),l[i]? =some io→∀ (j:Nat) (o:bJ) (d:Nat),j≠i→l[j]? =some o→o.dst=some d→io.dst≠some d:=by
  intro i io hi j o d hne hj hd Rr;rcases R5 j o d hj hd with⟨oj,a1,a2,a3,a4⟩| ⟨k,z,n,x,p⟩
  ·rcases R5 i io d hi Rr with⟨oi,b1,b2,b3,b4⟩| ⟨k',z',n',x',p'⟩
   ·exact hne (hdU _ _ _ _ _ a1 b1 a2 b2)
   ·obtain⟨ok,h1,h2,_⟩:=XA p';have e:=hdU _ _ _ _ _ a1 h1 a2 h2;subst e;exact a4 _ _ _ _ _ p'
  ·rcases R5 i io d hi Rr with⟨oi,b1,b2,b3,b4⟩| ⟨k',z',n',x',p'⟩
   ·obtain⟨ok,h1,h2,_⟩:=XA p;have e:=hdU _ _ _ _ _ b1 h1 b2 h2;subst e;exact b4 _ _ _ _ _ p
   ·exact hne ((U _ _ _ _ _ _ _ _ _ _ _ _ p p').1 rfl).2
 have Ra:∀a b t,a≤b→b≤l.length→(∀ (j:Nat) (o:bJ),a≤j→j < b→l[j]? =some o→o.dst≠some t)→(T b).getD t aA= (T a).getD t aA:=by
  intro a b t hab hb hno;have:=uF (T:=T) (t:=t) (a:=a) (b - a) (fun j h1 h2=>by
   have hj:l[j]? =some (l[j]'Om):=X6 Om;obtain⟨v,hv⟩:=Sx j _ hj;exact⟨_,v,hv,hno j _ h1 Om hj⟩)
  rwa [show a+ (b - a)=b from by omega]at this
 have hqt:∀ (j:Nat) (io:bJ),l[j]? =some io→gC (Region.before ops) ops.size j=false→io.q=true:=fun j io hj hb=>by
  rcases VU j io hj with⟨k,t,z,n,x,p,e⟩| ⟨s,t,z,n,x,p,e⟩| ⟨⟨o,h1,h2⟩,n1,n2⟩
  ·rw[e]
  ·rw[e];rfl
  ·rw[(dm h2).2,hb];rfl
 have hdone:∀ (listed:Array Bool) (β θ:Nat) (m1:bY) (ta:Array Value) (a1:Act) (w1:World),(∀i,i < ops.size→listed.getD i false=true)→
   sH P l T H m w (fun j=>listed.getD j false) β θ m1 ta w1→pG ops l0 w (fun j=>listed.getD j false) ta a1.tmps m1 w1→a1.defers=a.defers→Q .normal a1 w1:=by
  intro listed β θ m1 ta a1 w1 hall M I hd;have hθ:θ=l.length:=by
   have h1:=M.θn;by_cases hz:l.length=0
   ·omega
   ·have:=M.high (l.length - 1) (hall _ Om);omega
  subst hθ;refine hQ m1 a1 w1 ⟨M.hr,cH.gO ?_ ?_⟩ M.grow hd
  ·have:=M.size;have:=I.size;have:=hTl l.length (Yg _);simp;omega
  ·intro t x hx;have hlt:=(X1.1 hx).1;have Rm:t < a1.tmps.size:=by have:=M.size;have:=I.size;have:=hTl l.length (Yg _);omega
   have ex: (T l.length).getD t aA=x:=by simp[List.getD,hx]
   have ey:a1.tmps.getD t undef=a1.tmps[t]:=by simp[YP,YT Rm]
   have eg:a1.tmps.getD t undef=ta.getD t undef:=I.ag t fun k s z n x p _ hs=>by
    obtain⟨os,SJ,_⟩:=hps p;rw[hall s (dZ SJ)]at hs;cases hs
   refine⟨a1.tmps[t],Si,?_⟩;rw[←ex,←ey,eg];by_cases hw:∃ (j:Nat) (o:bJ),l[j]? =some o∧o.dst=some t
   ·obtain⟨j,o,hj,ho⟩:=hw;have Tg:=(X1.1 hj).1;have h1:=M.yF t j o hj (hall j Om) ho;rw[Ra (j+1) l.length t Om (Yg _) (fun k o' h2 h3 h4 h5=>huniq j o hj k o' t Om h4 h5 ho)];exact VR.mono (bY.fh _ _) _ _ h1
   ·rw[Ra 0 l.length t Om (Yg _) (fun k o' _ _ h4 h5=>hw ⟨k,o',h4,h5⟩)];exact VR.mono (M.grow.le st.hr.cI) _ _ (M.yG t (fun j o hj _ ho=>hw ⟨j,o,hj,ho⟩))
 have key:∀ (fuel:Nat) (listed:Array Bool) (β θ:Nat) (m1:bY) (ta:Array Value) (a1:Act) (w1:World),listed.size=ops.size→qG listed ops.size≤fuel→
   (∀j x,listed.getD j false=true→x < ops.size→ahead (Region.before ops) x j=true→listed.getD x false=true)→
   sH P l T H m w (fun j=>listed.getD j false) β θ m1 ta w1→pG ops l0 w (fun j=>listed.getD j false) ta a1.tmps m1 w1→a1.defers=a.defers→wpAnyIn (Fd ro) 0 P .any ops Q fuel listed a1 w1:=by
  intro fuel
  induction fuel with
  | zero=>
   intro listed β θ m1 ta a1 w1 Rc hu hcl M I hd;have hall:=kZ ops.size (show qG listed ops.size=0 by omega);exact⟨lU Rc hall,hdone listed β θ m1 ta a1 w1 hall M I hd⟩
  | succ fuel ih=>
   intro listed β θ m1 ta a1 w1 Rc hu hcl M I hd;refine⟨fun hr=>hdone listed β θ m1 ta a1 w1 (lT hed Rc hr) M I hd,fun i hi=>?_⟩;obtain⟨o,ho,R2,VQ⟩:=(iV Rc).1 hi;have hin:i < ops.size:=(Ym.1 ho).1;have hio:l[i]? =some (l[i]'Om):=X6 Om;generalize l[i]'Om=io at hio;obtain⟨bS,hq⟩:=hrow.step i io hio;have hahead:∀x,x < ops.size→ahead (Region.before ops) x i=true→listed.getD x false=true:=fun x hx ha=>by
    exact z37
   have SL:β≤i:=by
    by_cases hx:i < β
    ·have:=M.low i hx;simp only[R2]at this;cases this
    ·omega
   have SX:∀j x,(listed.setIfInBounds i true).getD j false=true→x < ops.size→ahead (Region.before ops) x j=true→(listed.setIfInBounds i true).getD x false=true:=by
    intro j x hj hx ha;exact Mv
   have UB:qG (listed.setIfInBounds i true) ops.size≤fuel:=by
    exact z80
   have hslot:∀ (β' θ':Nat),sH P l T H m w (fun j=>listed.getD j false) β' θ' m1 ta w1→i≤θ'→∀t,t∈o.looksAt ops→(∀k s z n x,¬cA ops l0 k s t z n x)→VR (m1.dC (H i).length) ((T i).getD t aA) (ta.getD t undef):=by
    intro β' θ' M' hi' t ht hnp;have h0i:=fB M'.len (YB i) hi';by_cases hex:∃ (x:Nat) (ox:bJ),l[x]? =some ox∧listed.getD x false=true∧ox.dst=some t
    ·obtain⟨x,ox,hx,hxl,Uh⟩:=hex;rcases R5 x ox t hx Uh with⟨oo,Tx,Uw,_⟩| ⟨k,z,n,y,p⟩
     ·have hxn:x < ops.size:=(Ym.1 Tx).1;have hxi:x < i:=by
       by_cases h1:x=i
       ·subst h1;rw[R2]at hxl;cases hxl
       ·by_cases h2:x < i
        ·exact h2
        ·have h3:=(cL hsl (show i < x by omega) ho Tx).2 t Uw ht;have h4:=hcl x i hxl hin h3;rw[R2]at h4;cases h4
      have h1:=M'.yF t x ox hx hxl Uh;rw[Ra (x+1) i t Om Om (fun k o' h2 h3 h4 h5=>huniq x ox hx k o' t Om h4 h5 Uh)];exact VR.mono (bY.zA _ (fB M'.len Om hi')) _ _ h1
     ·exact absurd p (hnp _ _ _ _ _)
    ·rw[Ra 0 i t Om Om (fun k o' h2 h3 h4 h5=>by
      rcases R5 k o' t h4 h5 with⟨oo,Tx,Rr,_⟩| ⟨k',z,n,y,p⟩
      ·have h6:=((cL hsl h3 Tx ho).1 t Rr).2 ht;exact hex ⟨k,o',h4,hahead k (Ym.1 Tx).1 h6,h5⟩
      ·exact hnp _ _ _ _ _ p)]
     refine VR.mono ?_ _ _ (M'.yG t (fun j o hj hl Rr=>hex ⟨j,o,hj,hl,Rr⟩));intro b e hb;have:=st.hr.cI b e hb;unfold bY.dC;rw[Yh Om];exact M'.grow.le st.hr.cI b e hb
   have XV:∀t,(∀k s z n x,¬cA ops l0 k s t z n x)→a1.tmps.getD t undef=ta.getD t undef:=fun t hnp=>I.ag t fun k s z n x p _ _=>hnp _ _ _ _ _ p
   have hTn:∀j,j≤l.length→a1.tmps.size= (T j).length:=fun j hj=>by rw[I.size,M.size,hTl j hj]
   have Tw:io.q=true→∃θ',i < θ'∧sH P l T H m w (fun j=>listed.getD j false) β θ' m1 ta w1:=fun Th=>by
    by_cases R3:i < θ
    ·exact⟨θ,R3,M⟩
    ·refine⟨i+1,Om,M.raise Om Om fun j hj VO=>?_⟩;have Tg:j < ops.size:=Om
     have XL:l[j]? =some (l[j]'Om):=X6 Om;by_cases hji:j=i
     ·subst hji;rw[hio]at XL;exact hq Th
     ·have hjs:listed.getD j false=false:=by
       cases hx:listed.getD j false with
       | false=>rfl
       | true=>have:=M.high j hx;omega
      cases hb:gC (Region.before ops) ops.size j with
      | true=>
       have h1:=(om hb hin (fun x=>hji x.symm)).2 Om;have h2:=hahead j Tg h1;rw[hjs]at h2;cases h2
      | false=>exact(hrow.step j _ XL).2 (hqt j _ XL hb)
   have hih:∀ (β2 WU:Nat) (m2:bY) (ta2:Array Value) (a2:Act) (w2:World),sH P l T H m w (mark (fun j=>listed.getD j false) i) β2 WU m2 ta2 w2→pG ops l0 w (mark (fun j=>listed.getD j false) i) ta2 a2.tmps m2 w2→a2.defers=a1.defers→
     wpAnyIn (Fd ro) 0 P .any ops Q fuel (listed.setIfInBounds i true) a2 w2:=fun β2 WU m2 ta2 a2 w2 M2 I2 VS=>
    ih (listed.setIfInBounds i true) β2 WU m2 ta2 a2 w2 (by simpa using Rc) UB SX (by rw[yU Om];exact M2) (by rw[yU Om];exact I2) (VS.trans hd)
   rcases VU i io hio with⟨k,t,z,n,x,p,e⟩| ⟨s,t,z,n,x,p,e⟩| ⟨⟨o',ho',Q8⟩,n1,n2⟩
   ·
    subst e;obtain⟨os,hos,hosd,Q8⟩:=hps p;rw[ho]at hos;cases hos;obtain⟨ok,UF,Rv,_⟩:=XA p;have Vn:listed.getD k false=true:=hahead k (dZ UF) (((cL hsl p.ks UF ho).1 t Rv).2 (hlooks ho p.lt));have hpend:=I.pd _ _ _ _ _ _ p Vn R2;obtain⟨cb,d,cc,el,fz,SW,hheap,Rd,hfz,hcon,Xr,hout⟩:=hpend;obtain⟨θ',R3,M'⟩:=Tw rfl;have SH:=M'.cut hG SL (aax R3);obtain⟨X,hX1,hX2,T5,XW,hTs⟩:∃X:List AV,X= (val (T i) x).cells∧(X.all AV.one=true∧X.length=n)∧t < (T i).length∧H (i+1)=H i++ [.cells X true false]∧T (i+1)=put (T i) (some t) (.ptr (H i).length 0):=by
     generalize H (i+1)=H1 at bS;generalize T (i+1)=T1 at bS;cases bS with
     | run hw hb hs=>
      have hs:dt (.nh n x) (val (T i)) (H i)=some (_,_):=hs;simp only[dt]at hs;split at hs
      case isFalse=>cases hs
      rename_i Rf;cases hs;exact⟨_,rfl,Rf,hb,rfl,rfl⟩
     | skip hw=>exact absurd trivial hw
    have hr1:=SH.Mb hheap hfz (fun b e he=>hout b e (bY.fh _ _ _ _ he)) Rd (fun j y hy=>by
     obtain⟨h1,v,h2,h3⟩:=hcon j y hy;exact⟨h1,v,h2,h3 _⟩)
    generalize hmc: (m1.dC (H i).length).add (H i).length ⟨cb,d,cc.size,true⟩=mc at hr1;have VG:mc (H i).length=some ⟨cb,d,cc.size,true⟩:=by rw[←hmc];simp[bY.add]
    have UL:∀b,b≠(H i).length→mc b= (m1.dC (H i).length) b:=fun b hb=>by rw[←hmc];unfold bY.add;rw[Yd hb]
    have hmcl: (m1.dC (H i).length).le mc:=fun b e he=>by
     by_cases hb:b= (H i).length
     ·subst hb;have:=SH.cI _ _ he;omega
     ·rw[UL b hb];exact he
    have T3:val (put (T i) (some t) (.ptr (H i).length 0)) x=val (T i) x:=by
     cases x with
     | t u=>
      have hut:=(p.xt u rfl).1;simp only[val];exact xU (fun e=>hut (Y6 e).symm)
     | _=>rfl
    have hvt:val (put (T i) (some t) (.ptr (H i).length 0)) (.t t)= .ptr (H i).length 0:=by
     simp only[val,put,List.getD];rw[Yl T5];rfl
    have hzl:z.cells.length=X.length:=by rw[p.zn,hX2.2]
    have XK:dx P { dst:=none,k:=.store n (.t t) x,gd:=none,q:=true } (put (T i) (some t) (.ptr (H i).length 0)) (H i++ [.cells z.cells true false]) (put (T i) (some t) (.ptr (H i).length 0)) (H (i+1)):=by
     refine dx.run (v:=aA) trivial trivial ?_;show dt (.store n (.t t) x) _ _=some (aA,H (i+1));simp only[dt,hvt,T3];rw[Ye (Yg _),Zb];show(if(val (T i) x).cells.length=n∧(val (T i) x).cells.all AV.one=true∧0+n≤z.cells.length then some (aA,(H i++ [ak.cells z.cells true false]).set (H i).length (.cells (fI z.cells 0 (val (T i) x).cells) true false))else none)=_;rw[←hX1,Yh ⟨hX2.2,hX2.1,by rw[p.zn];omega⟩];have bd:=qT X z.cells [] hzl;rw[ZJ,ZJ,X9]at bd;rw[bd,YX _ _ (Yg _),Zb,XW];rfl
    refine fq ho Q8 hr1.gv hr1 (by rw[mR];exact hTn i Om) (fun u hu=>?_) XK ro _ Q ?_
    ·by_cases hut:u=t
     ·subst hut;have: (put (T i) (some u) (AV.ptr (H i).length 0)).getD u aA= .ptr (H i).length 0:=hvt;rw[this,SW];exact⟨_,VG,by rw[YR]⟩
     ·have hnp:∀k s z n x,¬cA ops l0 k s u z n x:=fun k' s' z' n' x' p'=>by
       have e:=hpt ho hu _ _ _ _ _ p';exact hut ((U _ _ _ _ _ _ _ _ _ _ _ _ p' p).2.2.1 e.symm)
      rw[xU (fun e=>hut (Y6 e).symm),XV u hnp];exact VR.mono hmcl _ _ (hslot β θ' M' (aax R3) u hu hnp)
    ·intro cv v m' w' _ _ hr' Rj;have hlen1: (H i++ [ak.cells z.cells true false]).length= (H i).length+1:=Si
     have UP: (H (i+1)).length= (H i).length+1:=by rw[XW];simp
     have XC:∀b,b < (H i).length+1→m' b=mc b:=fun b hb=>Rj.ext b (by rw[hlen1];exact hb)
     have XD:m' (H i).length=some ⟨cb,d,cc.size,true⟩:=by rw[XC _ Om];exact VG
     have Wm:∀b e,(H i).length≤b→m' b=some e→b= (H i).length∧e= ⟨cb,d,cc.size,true⟩:=fun b e hb he=>by
      have h1:=hr'.cI b e he;rw[UP]at h1;have:b= (H i).length:=Om
      subst this;rw[XD]at he;cases he;exact⟨rfl,rfl⟩
     have M2:=M'.F6 hG SL R3 R2 hio hr' (fun b hb=>by rw[XC b Om,UL b Om])
      (fun b e hb he=>by
       obtain⟨_,rfl⟩:=Wm b e hb he;exact⟨rfl,Xr,fun b' e' h=>hout b' e' h⟩)
      (fun y hy h1 h2=>Rj.frame y hy fun b e he ho' hcb=>by
       by_cases hb:b= (H i).length
       ·subst hb;rw[VG]at he;cases he;exact h2 _ _ (Yg _) XD hcb
       ·rw[UL b hb]at he;exact h1 b e he ho' hcb)
      Rj.size Rj.os Rj.out Rj.tape (v:=.ptr (H i).length 0) (cv:=a1.tmps.getD t undef) (by rw[SW];exact⟨_,XD,by rw[YR]⟩) hTs (hTl i Om) (huniq i _ hio)
     have Xz:a1.put o.dst cv=a1:=by rw[hosd];rfl
     rw[Xz];refine hih _ _ _ _ a1 w' M2 (I.fill U p (by rw[hTn i Om];exact T5) (fun zc c hne q=>?_) Vn R2) rfl;refine q.move (fun U9 d' hc hlt h7=>?_) (fun U9 d' hc hlt h7 b e he=>?_)
     ·refine Rj.frame U9 hlt fun b e he _ hcb=>?_
      by_cases hb:b= (H i).length
      ·subst hb;rw[VG]at he;cases he;exact hne _ _ _ _ hc SW hcb.symm
      ·rw[UL b hb]at he;exact h7 b e (bY.fh _ _ _ _ he) hcb
     ·unfold bY.patch at he;split at he
      ·rename_i hb;by_cases hbl:b < (H i).length
       ·rw[XC b Om,UL b Om]at he;exact h7 b e (bY.fh _ _ _ _ he)
       ·obtain⟨_,rfl⟩:=Wm b e Om he;exact fun hcb=>hne _ _ _ _ hc SW hcb.symm
      ·exact h7 b e he
   ·
    subst e;obtain⟨ok,UF,Rv,Q8⟩:=XA p;rw[ho]at UF;cases UF;obtain⟨os,hos,_⟩:=hps p;have hss:listed.getD s false=false:=by
     cases hx:listed.getD s false with
     | false=>rfl
     | true=>
      have:=hcl s i hx hin (((cL hsl p.ks ho hos).1 t Rv).2 (hlooks hos p.lt));rw[R2]at this;cases this
    obtain⟨θ',R3,M'⟩:=Tw rfl;have SH:=M'.cut hG SL (aax R3);have T5:t < (T i).length:=by
     have hsl':s < l.length:=by rw[hlen];exact dZ hos
     have SJ:l[s]? =some l[s]:=X6 hsl';have Rt:=(hrow.step s _ SJ).1;rcases VU s _ SJ with⟨k',t',z',n',x',p',e⟩| ⟨s',t',z',n',x',p',e⟩| ⟨_,n1,_⟩
     ·have e2:=(U _ _ _ _ _ _ _ _ _ _ _ _ p p').2.2.1 rfl;subst e2;rw[e]at Rt;generalize H (s+1)=H1 at Rt;generalize T (s+1)=T1 at Rt;have:t < (T s).length:=by
       cases Rt with
       | run hw hb hs=>exact hb
       | skip hw=>exact absurd trivial hw
      rw[hTl s Om]at this;rw[hTl i Om];exact this
     ·exact absurd rfl ((U _ _ _ _ _ _ _ _ _ _ _ _ p' p).2.2.2)
     ·exact absurd p (n1 _ _ _ _ _)
    have hHk:H (i+1)=H i∧T (i+1)=T i:=by
     generalize H (i+1)=H1 at bS;generalize T (i+1)=T1 at bS;cases bS with
     | run hw hb hs=>
      have hs:dt (.aF (.c (.bool false))) (val (T i)) (H i)=some (_,_):=hs;simp only[dt]at hs;cases hs;exact⟨rfl,rfl⟩
     | skip hw=>exact absurd trivial hw
    have XK:dx P { dst:=some t,k:=.box (.c z),gd:=none,q:=true } (T i) (H i) (put (T i) (some t) (.ptr (H i).length 0)) (H i++ [.cells z.cells true false]):=by
     refine dx.run (v:=.ptr (H i).length 0) trivial trivial ?_;exact Yh (show(val (T i) (.c z)).cells.all AV.one=true from YE.2 fun y hy=>CC (YE.1 p.zc y hy))
    refine fq ho Q8 SH.gv SH (hTn i Om) (fun u hu=>?_) XK ro _ Q ?_
    ·have hnp:∀k s z n x,¬cA ops l0 k s u z n x:=fun k' s' z' n' x' p'=>by
      have e:=hpt ho hu _ _ _ _ _ p';exact(U _ _ _ _ _ _ _ _ _ _ _ _ p p').2.2.2 e
     rw[XV u hnp];exact hslot β θ' M' (aax R3) u hu hnp
    ·intro cv v m' w' Sm SD hr' Rj;have hv:v= .ptr (H i).length 0:=by
      rw[Rv]at Sm;have:=YC (fun l:TS=>l[t]?) Sm;simp only[put]at this;rw[Yl T5,Yl T5]at this;exact(Y6 this).symm
     subst hv;obtain⟨e,he,SW⟩:=SD;obtain⟨cc,el,fz,Rq,RG,Ub,hb4,hb5⟩:=hr'.dP _ e _ he (by rw[Ye (Yg _),Zb];rfl);obtain⟨hown,hex⟩:=hb5 (.inl rfl);have hex:=hex rfl;obtain⟨_,hnew⟩:=Rj.new _ e (Yg _) he;have hfar:w1.heap.size≤e.cb:=by
      rcases hnew with hnew| ⟨b0,e0,c1,_,_,c4,c5⟩
      ·exact hnew
      ·have:=SH.cI b0 e0 c1;unfold eo at c4 c5;rw[X5 this]at c5;rw[c5]at c4;cases c4
     rw[YR]at SW;have Um:=SH.forget hr' Rj;have TE:=Rj.forget;have M2:=M'.next hG SL R3 R2 hio (m1:=m'.dC (H i).length) (w1:=w') (by rw[hHk.1];exact Um) (by rw[hHk.1];exact TE) (v:=.bool false) (cv:=.bool false) rfl (by rw[hHk.2];rfl) (hTl i Om) (huniq i _ hio);have hin2:∀b e',((m'.dC (H i).length).patch m1 (H (i+1)).length) b=some e'→m1 b=some e':=fun b e' h=>by
      unfold bY.patch at h;split at h
      ·have hbl:b < (H i).length:=by
        unfold bY.dC at h;split at h
        ·assumption
        ·cases h
       rw[TE.ext b hbl]at h;exact bY.fh _ _ _ _ h
      ·exact h
     have hp2:∀zc c,kF m1 w w1 zc c→kF ((m'.dC (H i).length).patch m1 (H (i+1)).length) w w' zc c:=fun zc c q=>q.move
      (fun U9 d' _ hlt h7=>Rj.frame U9 hlt fun b e' h _=>h7 b e' (bY.fh _ _ _ _ h)) (fun U9 d' _ hlt h7 b e' h=>h7 b e' (hin2 b e' h))
     have Xz: (a1.put o.dst cv).tmps=gG a1.tmps (some t) cv:=by rw[Rv];rfl
     refine hih _ _ _ _ (a1.put o.dst cv) w' M2 ?_ (put_defers ..);rw[Xz];show pG ops l0 w _ (gG ta Hr.dst _) _ _ _;refine I.make U p (by rw[hTn i Om];exact T5) hss ?_ (fun U9 d' h=>?_) hp2
     ·refine⟨e.cb,e.d,cc,el,fz,SW,Rq,Om,(hb4 hown).2,fun j y hy=>?_,YQ M.grow.size hfar,fun b e' h=>?_⟩
      ·obtain⟨h1,v,h2,h3⟩:=Ub j y hy;exact⟨h1,v,h2,EH (YE.1 p.zc y (YW hy)) h3⟩
      ·have:=M.hr.lt b e' (hin2 b e' h);omega
     ·rw[SW]at h;cases h;exact hfar
   ·
    rw[ho]at ho';cases ho';obtain⟨XR,hioq⟩:=dm Q8;have hnp:∀t,t∈o.looksAt ops→∀k s z n x,¬cA ops l0 k s t z n x:=fun t ht k s z n x p=>by
     have:=hpt ho ht k s z n x p;subst this;exact n1 _ _ _ _ _ p
    have SQ:∀k s t z n x,cA ops l0 k s t z n x→io.dst≠some t:=fun k s t z n x p hx=>by
     obtain⟨ok,h1,h2,_⟩:=XA p;have e:=hdU _ _ _ _ _ h1 ho h2 (by rw[←XR];exact hx);subst e;exact n2 _ _ _ _ _ p
    have QX:∀ (β' θ':Nat),sH P l T H m w (fun j=>listed.getD j false) β' θ' m1 ta w1→β'≤i→i≤θ'→
      (∀cv v m' w',T (i+1)=put (T i) io.dst v→VR m' v cv→HR P m' (H (i+1)) w'→Grow (m1.dC (H i).length) (H i) w1 m' (H (i+1)) w'→∃β2 WU m2,sH P l T H m w (mark (fun j=>listed.getD j false) i) β2 WU m2 (gG ta io.dst cv) w'∧∀zc c,kF m1 w w1 zc c→kF m2 w w' zc c)→
      wpOpIn (Fd ro) 0 P ops Q i (wpAnyIn (Fd ro) 0 P .any ops Q fuel (listed.setIfInBounds i true)) a1 w1:=by
     intro β' θ' M' hb' hi' UI;have SH:=M'.cut hG hb' hi';refine fq ho Q8 SH.gv SH (hTn i Om) (fun t ht=>?_) bS ro _ Q ?_
     ·rw[XV t (hnp t ht)];exact hslot β' θ' M' hi' t ht (hnp t ht)
     ·intro cv v m' w' Sm SD hr' Rj;obtain⟨β2,WU,m2,M2,hp2⟩:=UI cv v m' w' (by rw[XR];exact Sm) SD hr' Rj;have: (a1.put o.dst cv).tmps=gG a1.tmps io.dst cv:=by rw[XR];cases o.dst<;>rfl
      exact hih β2 WU m2 _ _ w' M2 (by rw[this];exact I.other n1 n2 SQ hp2) (put_defers ..)
    by_cases Th:io.q=true
    ·obtain⟨θ',R3,M'⟩:=Tw Th;exact QX β θ' M' SL Om fun cv v m' w' Sm SD hr' Rj=>⟨β,θ',_,M'.next hG SL R3 R2 hio hr' Rj SD Sm (hTl i Om) (huniq i io hio),fun zc c q=>(q.grow Rj).2⟩
    ·have hbar:gC (Region.before ops) ops.size i=true:=by
      rw[hioq]at Th
      simpa using Th
     have hall:∀j,j < i→listed.getD j false=true:=fun j hj=>hahead j Om ((om hbar (show j < ops.size by omega) Om).1 hj)
     by_cases R3:i < θ
     ·exact QX β θ M SL Om fun cv v m' w' Sm SD hr' Rj=>⟨β,θ,_,M.next hG SL R3 R2 hio hr' Rj SD Sm (hTl i Om) (huniq i io hio),fun zc c q=>(q.grow Rj).2⟩
     ·have hθi:θ=i:=by
       by_cases hz:i=0
       ·omega
       ·have:=M.high (i - 1) (hall _ Om);omega
      subst hθi;exact QX β θ M SL (Yg _) fun cv v m' w' Sm SD hr' Rj=>⟨θ+1,θ+1,m',M.jump st.hr.cI hall Om hio hr' Rj SD Sm (hTl θ Om) (huniq θ io hio),fun zc c q=>(q.grow Rj).1⟩
 have Q3:∀j,(Array.replicate ops.size false).getD j false=false:=fun j=>by
  exact Mr
 refine key ops.size (Array.replicate ops.size false) 0 0 m a.tmps a _ Si ?_ (fun j x hj _ _=>by simp[Q3 j]at hj) ?_ ?_ rfl
 ·exact Mw
 ·refine⟨Yg _,YB _,fun j hj=>absurd hj Om,fun j hj=>by simp[Q3 j]at hj,fun j _ hj=>absurd hj Om,fun j hj=>absurd hj Om,st.hr.drew,fun j hj=>absurd hj Om,?_,fun j _ hj=>absurd hj Om,
   (Grow.refl m _ w st.hr.cI).drew,?_,?_,?_⟩
  ·intro i hi hi' b e k hb R0 hk;have:i=0:=Om
   subst this;exact(st.hr.dP b e k R0 hk).iQ st.hr.cI
  ·exact Di
  ·intro d _;exact nJ st.ts d
  ·intro d j o _ hj _;simp only[Q3 j]at hj;cases hj
 ·exact⟨rfl,fun _ _=>rfl,fun k s t z n x p hk=>by simp[Q3 k]at hk,fun k s t z n x k' s' t' z' n' x' p p' hk=>by simp[Q3 k]at hk⟩
def Hi{k}(hk:fp k=true){ρ h h' v}(hs:mI k ρ h v h'):h' =h∧∀g,mI k ρ g v g:=by
 cases k<;>first
  | (cases hk;done)
  | skip
 case conv c x=>
  cases c<;>first
   | (cases hk;done)
   | skip
  have hs:dt _ _ _=some (_,_):=hs;simp only[dt,jX]at hs;split at hs
  ·rename_i k n hx;cases hs;refine⟨rfl,fun g=>?_⟩;show dt _ _ _=some (_,_);simp only[dt,jX,hx]
  ·cases hs
 case len lk x=>
  have e:lk≠.mp→∀g,zX lk g (ρ x)=zX lk h (ρ x):=fun hl g=>by
   cases lk<;>first| exact absurd rfl hl| skip
   all_goals
    cases ρ x<;>first| rfl| (simp only[zX,reduceCtorEq,Yo];repeat' split)<;>rfl
  have hl:lk≠.mp:=fun e=>by rw[e]at hk;cases hk
  have hs:dt _ _ _=some (_,_):=hs;simp only[dt]at hs;split at hs
  ·rename_i n hn;cases hs;refine⟨rfl,fun g=>?_⟩;show dt _ _ _=some (_,_);simp only[dt,e hl g,hn]
  ·cases hs
 all_goals
  have hs:dt _ _ _=some (_,_):=hs;simp only[dt]at hs
  repeat' split at hs
  all_goals first
   | (cases hs;done)
   | (cases hs
      refine⟨rfl,fun g=>?_⟩;show dt _ _ _=some (_,_);simp only[dt, *]
      done)
   | (cases hs
      refine⟨rfl,fun g=>?_⟩;show dt _ _ _=some (_,_);simp[dt, *]
      done)
def xW{P o}(hk:fp o.k=true){ts ts' h h'}(hs:dx P o ts h ts' h'):h' =h∧∀g,dx P o ts g ts' g:=by
 cases hs with
 | @run v h' hw hb hs=>
  have QW:mI o.k (val ts) h v h':=by
   cases SR:o.k<;>rw[SR]at hs hk<;>first| exact hs| (cases hk;done)
  obtain⟨rfl,h2⟩:=Hi hk QW;refine⟨rfl,fun g=>.run hw hb ?_⟩;have:=h2 g;cases SR:o.k<;>rw[SR]at this hk<;>first| exact this| (cases hk;done)
 | skip hw=>exact⟨rfl,fun g=>.skip hw⟩
def xS{P o}(hk:cC o.k=true){ts ts' h h'}(hs:dx P o ts h ts' h'):h' =h:=by
 by_cases hp:fp o.k=true
 ·exact(xW hp hs).1
 ·cases SR:o.k with
  | load n a=>
   cases hs with
   | run hw hb hs=>
    rw[SR]at hs;have hs:dt (.load n a) _ _=some (_,_):=hs;simp only[dt]at hs
    repeat' split at hs
    all_goals first
     | (cases hs;done)
     | (cases hs;rfl)
   | skip hw=>rfl
  | _=>rw[SR]at hk hp;exact absurd hk hp
def Fe{P o}(hk:kB o=true){ts ts' h h'}(hs:dx P o ts h ts' h')(hq:o.q=true→∃g,h' =h++g):∃g,h' =h++g:=by
 by_cases hqq:o.q=true
 ·exact hq hqq
 have hk:CU o.k=true:=by
  have:o.q=false:=by simpa using hqq
  simpa [kB,this]using hk
 cases hs with
 | run hw hb hs=>
  cases SR:o.k<;>rw[SR]at hk hs<;>first| (cases hk;done)| skip
  case aE es n z ps=>
   have hs:mI (.aE es n z ps) _ _ _ _:=hs;obtain⟨c,mu,tl,_,_,_,_,e⟩:=hs;exact⟨_,e⟩
  all_goals
   have hs:dt _ _ _=some (_,_):=hs;simp only[dt]at hs
   repeat' split at hs
   all_goals first
    | (cases hs;done)
    | (cases hs;exact⟨_,rfl⟩)
 | skip hw=>exact⟨[],Si⟩
def B8{P o n a}(hk:o.k= .load n a){ts ts' h}(hs:dx P o ts h ts' h)(g:ah):dx P o ts (h++g) ts' (h++g):=by
 generalize hh:h=h2 at hs;cases hs with
 | @run v _ hw hb hs=>
  subst hh;refine .run hw (by rw[hk];trivial) ?_;rw[hk]at hs ⊢;have hs:dt (.load n a) (val ts) h=some (v,h):=hs;show dt (.load n a) (val ts) (h++g)=some (v,h++g);simp only[dt]at hs ⊢;cases hv:val ts a with
  | ptr b off=>
   rw[hv]at hs;simp only at hs ⊢;cases RG:h[b]? with
   | none=>rw[RG]at hs;cases hs
   | some k=>
    rw[X5 (X1.1 RG).1,RG];rw[RG]at hs;cases k with
    | cells c mu tl=>
     simp only at hs ⊢;cases n with
     | none=>
      simp only at hs ⊢;cases hc:c[off]? with
      | none=>rw[hc]at hs;cases hs
      | some x=>rw[hc]at hs;cases hs;rfl
     | some n=>
      simp only at hs ⊢;by_cases hlt:off+n≤c.length
      ·rw[Yh hlt]at hs ⊢;cases hs;rfl
      ·rw[Yd hlt]at hs;cases hs
    | _=>cases hs
  | _=>rw[hv]at hs;cases hs
 | skip hw=>subst hh;exact .skip hw
def HR.BQ{P m h w}(hr:HR P m h w)(g:ah):HR P m (h++g) w where
 cI:=fun b e hb=>by have:=hr.cI b e hb;simp;omega
 dP:=fun b e k hb hk=>hr.dP b e k hb (by rwa [X5 (hr.cI b e hb)]at hk)
 sep:=fun b1 b2 e1 e2 k1 k2 hne h1 h2 hk1 QY hcb=>hr.sep b1 b2 e1 e2 k1 k2 hne h1 h2 (by rwa [X5 (hr.cI b1 e1 h1)]at hk1) (by rwa [X5 (hr.cI b2 e2 h2)]at QY) hcb
 fV:=hr.fV
 lt:=hr.lt
def HR.Hz{P m h g w}(hr:HR P m (h++g) w)(hd:∀b e,m b=some e→b < h.length):HR P m h w where
 cI:=hd
 dP:=fun b e k hb hk=>hr.dP b e k hb (by rw[X5 (hd b e hb)];exact hk)
 sep:=fun b1 b2 e1 e2 k1 k2 hne h1 h2 hk1 QY hcb=>hr.sep b1 b2 e1 e2 k1 k2 hne h1 h2 (by rw[X5 (hd b1 e1 h1)];exact hk1) (by rw[X5 (hd b2 e2 h2)];exact QY) hcb
 fV:=hr.fV
 lt:=hr.lt
def je{M l}(h:nU M l=true){i j x y}(hij:i < j)(hx:l[i]? =some x)(hy:l[j]? =some y)(px:fp x.k=false)(py:fp y.k=false)(lx:mD x=false)(ly:mD y=false)
  (hr: (cC x.k=false∧cC y.k=false)∨(cC x.k=false∧kB x=false)∨(cC y.k=false∧kB y=false)):ahead M i j=true:=by
 have hj:j < l.length:=(X1.1 hy).1;unfold nU at h;rw[YE]at h;have h1:=h j (Zh.2 hj);rw[YE]at h1;have h2:=h1 i (Zh.2 hij);rw[hx,hy]at h2;simp only[px,py,lx,ly,aah]at h2;rcases hr with⟨a,b⟩| ⟨a,b⟩| ⟨a,b⟩<;>simpa [a,b]using h2
theorem yX:∀{l} {i} {o},l[i]? =some o→B9 o=false→i < dD l
 | [],i,o,h,_=>by simp at h
 | x::r,i,o,h,hk=>by
  have hn:¬kg (x::r)=true:=fun hall=>by
   have:=YE.1 (Bool.and_eq_true_iff.1 hall).1 o (YW h);rw[hk]at this;cases this
  rw[dD,Yd hn];cases i with
  | zero=>omega
  | succ i=>have:=yX (l:=r) (i:=i) (by simpa using h) hk;omega
def pX{M l}(h:mX M l=true){i j x y}(hx:l[i]? =some x)(lx:mD x=true)(hy:l[j]? =some y)(ky:cC y.k=false)(hj:dD l≤j):ahead M i j=true:=by
 unfold mX at h;rw[YE]at h;have h1:=h i (Zh.2 (X1.1 hx).1);rw[hx]at h1;simp only[lx,Yw,aah,YE,Zh]at h1;have h2:=h1 j (X1.1 hy).1;rw[hy]at h2;have VO:¬j < dD l:=Om
 simpa [ky,VO]using h2
def qY{P cq}(hmix:P.follows .mixedOrders=true){ops l}(hed:km (Region.before ops) ops=true)(hsl:lR (Region.before ops) ops=true)
  (hc:eG (fun _ o=>bP P ops (si cq o) o) ops.toList 0=some l) (hmo:nU (Region.before ops) l=true) {T} {H} (hrow:Row P l T H) (hstab:∀ (i:Nat) (io:bJ),l[i]? =some io→mD io=true→∀θ,θ≤dD l→dx P io (T i) (H θ) (T (i+1)) (H θ)) (hlate:∀ (i j:Nat) (x y:bJ),l[i]? =some x→mD x=true→l[j]? =some y→cC y.k=false→dD l≤j→ahead (Region.before ops) i j=true) {m} {a} {w}
  (st:St P m (T 0) (H 0) a w) (ro:Option Nat) (Q:Exit→Act→World→Prop) (hQ:∀m' a' w',St P m' (T l.length) (H l.length) a' w'→Grow m (H 0) w m' (H l.length) w'→a'.defers=a.defers→Q .normal a' w') (id:Nat):
  (Code.region id ops true).wpIn (Fd ro) 0 P Q a w:=by
 refine wpIn_region_any hmix ?_;obtain⟨Re,Q4⟩:=fX hc;simp only[aag]at Re;have U0:∀ (j:Nat) (io:bJ),l[j]? =some io→∃o,ops[j]? =some o∧bP P ops (si cq o) o=some io:=fun j io hj=>by
  exact MT
 have R5:∀ (j:Nat) (io:bJ) (d:Nat),l[j]? =some io→io.dst=some d→∃o,ops[j]? =some o∧o.dst=some d:=fun j io d hj hd=>by
  exact z76
 have huniq:∀ (i j:Nat) (oi oj:bJ) (d:Nat),l[i]? =some oi→l[j]? =some oj→oi.dst=some d→oj.dst=some d→i=j:=fun i j oi oj d hi hj h1 h2=>by
  exact MV
 have Sx:∀ (j:Nat) (io:bJ),l[j]? =some io→∃v,T (j+1)=put (T j) io.dst v:=fun j io hj=>(hrow.step j io hj).1.put
 have hTl:∀j,j≤l.length→(T j).length= (T 0).length:=by
  intro j
  induction j with
  | zero=>intro _;rfl
  | succ j ih=>
   intro hj;exact MN
 have Ra:∀x y t,x≤y→y≤l.length→(∀ (j:Nat) (o:bJ),x≤j→j < y→l[j]? =some o→o.dst≠some t)→(T y).getD t aA= (T x).getD t aA:=by
  intro x y t hxy hy hno;exact P2
 have TN:∀ (j:Nat) (io:bJ),l[j]? =some io→cC io.k=true→H (j+1)=H j:=fun j io hj hk=>xS hk (hrow.step j io hj).1
 have TO:∀x k,x+k≤l.length→(∀ (j:Nat) (o:bJ),x≤j→j < x+k→l[j]? =some o→cC o.k=true)→H (x+k)=H x:=by
  intro x k
  induction k with
  | zero=>intro _ _;rfl
  | succ k ih=>
   intro hk hno;exact PX
 have WA:∀x k,x+k≤l.length→(∀ (j:Nat) (o:bJ),x≤j→j < x+k→l[j]? =some o→cC o.k=true∨kB o=true)→∃g,H (x+k)=H x++g:=by
  intro x k
  induction k with
  | zero=>intro _ _;exact⟨[],Si⟩
  | succ k ih=>
   intro hk hno;have hj:l[x+k]? =some (l[x+k]'Om):=X6 Om;obtain⟨g,hg⟩:=ih Om fun j o h1 h2 h3=>hno j o h1 Om h3
   rcases hno _ _ Om Om hj with h1| h1
   ·exact⟨g,by rw[show x+ (k+1)=x+k+1 from by omega,TN _ _ hj h1,hg]⟩
   ·obtain⟨g2,UT⟩:=Fe h1 (hrow.step _ _ hj).1 (hrow.step _ _ hj).2;exact⟨g++g2,by rw[show x+ (k+1)=x+k+1 from by omega,UT,hg,X4]⟩
 have Ud:∀x y,x≤l.length→y≤l.length→(∀ (j:Nat) (o:bJ),l[j]? =some o→cC o.k=false→(j < x↔j < y))→H x=H y:=by
  intro x y hx hy hno;exact P6
 have hdone:∀ (listed:Array Bool) (θ:Nat) (m1:bY) (a1:Act) (w1:World),(∀i,i < ops.size→listed.getD i false=true)→θ≤l.length→
   (∀ (j:Nat) (o:bJ),l[j]? =some o→cC o.k=false→(j < θ↔listed.getD j false=true))→HR P m1 (H θ) w1→Grow m (H 0) w m1 (H θ) w1→a1.tmps.size= (T 0).length→
   (∀ (d:Nat),(∀ (j:Nat) (o:bJ),l[j]? =some o→listed.getD j false=true→o.dst≠some d)→VR m1 ((T 0).getD d aA) (a1.tmps.getD d undef))→
   (∀ (d j:Nat) (o:bJ),l[j]? =some o→listed.getD j false=true→o.dst=some d→VR m1 ((T (j+1)).getD d aA) (a1.tmps.getD d undef))→a1.defers=a.defers→Q .normal a1 w1:=by
  intro listed θ m1 a1 w1 hall hθ hS hr hg dZ h1 h2 hd;have e:=Ud θ l.length hθ (Yg _) fun j o hj hk=>by
   have Tg:=(X1.1 hj).1;have:=(hS j o hj hk).2 (hall j Om);omega
  rw[e]at hr hg;refine hQ m1 a1 w1 ⟨hr,cH.gO ?_ ?_⟩ hg hd
  ·exact z145
  ·intro t x hx;exact Qd
 have key:∀ (fuel:Nat) (listed:Array Bool) (θ:Nat) (m1:bY) (a1:Act) (w1:World),listed.size=ops.size→qG listed ops.size≤fuel→
   (∀j x,listed.getD j false=true→x < ops.size→ahead (Region.before ops) x j=true→listed.getD x false=true)→θ≤l.length→(θ≤dD l∨∃ (j:Nat) (o:bJ),l[j]? =some o∧cC o.k=false∧dD l≤j∧j < θ)→
   (∀ (j:Nat) (o:bJ),l[j]? =some o→cC o.k=false→(j < θ↔listed.getD j false=true))→HR P m1 (H θ) w1→Grow m (H 0) w m1 (H θ) w1→a1.tmps.size= (T 0).length→
   (∀ (d:Nat),(∀ (j:Nat) (o:bJ),l[j]? =some o→listed.getD j false=true→o.dst≠some d)→VR m1 ((T 0).getD d aA) (a1.tmps.getD d undef))→
   (∀ (d j:Nat) (o:bJ),l[j]? =some o→listed.getD j false=true→o.dst=some d→VR m1 ((T (j+1)).getD d aA) (a1.tmps.getD d undef))→a1.defers=a.defers→wpAnyIn (Fd ro) 0 P .any ops Q fuel listed a1 w1:=by
  intro fuel
  induction fuel with
  | zero=>
   intro listed θ m1 a1 w1 Rc hu hcl hθ hL hS hr hg dZ h1 h2 hd;have hall:=kZ ops.size (show qG listed ops.size=0 by omega);exact⟨lU Rc hall,hdone listed θ m1 a1 w1 hall hθ hS hr hg dZ h1 h2 hd⟩
  | succ fuel ih=>
   intro listed θ m1 a1 w1 Rc hu hcl hθ hL hS hr hg dZ h1 h2 hd;refine⟨fun hrn=>hdone listed θ m1 a1 w1 (lT hed Rc hrn) hθ hS hr hg dZ h1 h2 hd,fun i hi=>?_⟩;obtain⟨o,ho,R2,VQ⟩:=(iV Rc).1 hi;have hin:i < ops.size:=(Ym.1 ho).1;obtain⟨io,hio,Q8⟩:=Q4 i o (by simpa using ho);obtain⟨bS,_⟩:=hrow.step i io hio;have hahead:∀x,x < ops.size→ahead (Region.before ops) x i=true→listed.getD x false=true:=fun x hx ha=>by
    exact z37
   have SX:∀j x,(listed.setIfInBounds i true).getD j false=true→x < ops.size→ahead (Region.before ops) x j=true→(listed.setIfInBounds i true).getD x false=true:=by
    intro j x hj hx ha;exact Mv
   have UB:qG (listed.setIfInBounds i true) ops.size≤fuel:=by
    exact z80
   have hslot:∀t,t∈o.looksAt ops→VR m1 ((T i).getD t aA) (a1.tmps.getD t undef):=by
    intro t ht;exact Qf
   have hrp:∀{k:oZ},cC k=false→fp k=false:=fun {k} hk=>by
    cases k<;>first| exact hk| (cases hk;done)
   have hld:∀{o:bJ},cC o.k=false→mD o=false:=fun {o} hk=>by
    exact JH
   have hne:∀j,j≠i→(listed.setIfInBounds i true).getD j false=listed.getD j false:=fun j hj=>by rw[cZ Om,Yd hj]
   have VA:cC io.k=true→∀ (j:Nat) (o:bJ),l[j]? =some o→cC o.k=false→(j < θ↔(listed.setIfInBounds i true).getD j false=true):=fun Se j oj hj hk=>by
    have hji:j≠i:=fun e=>by
     subst e;rw[hio]at hj;cases hj;rw[Se]at hk;cases hk
    rw[hne j hji];exact hS j oj hj hk
   have RF:∃θ',θ'≤l.length∧(θ'≤dD l∨∃ (j:Nat) (o:bJ),l[j]? =some o∧cC o.k=false∧dD l≤j∧j < θ')∧(∀ (j:Nat) (o:bJ),l[j]? =some o→cC o.k=false→(j < θ'↔(listed.setIfInBounds i true).getD j false=true))∧∃hb h2,HR P m1 hb w1∧dx P io (T i) hb (T (i+1)) h2∧
     ∀m' w',HR P m' h2 w'→Grow m1 hb w1 m' h2 w'→HR P m' (H θ') w'∧Grow m1 (H θ) w1 m' (H θ') w':=by
    by_cases hp:fp io.k=true
    ·have Se:cC io.k=true:=by cases SR:io.k<;>rw[SR]at hp<;>first| exact hp| (cases hp;done)
     exact⟨θ,hθ,hL,VA Se,H θ,H θ,hr,(xW hp bS).2 _,fun m' w' a b=>⟨a,b⟩⟩
    ·have Wl:fp io.k=false:=by simpa using hp
     by_cases Uk:mD io=true
     ·have Se:cC io.k=true:=by
       cases SR:io.k<;>simp[mD,SR]at Uk<;>rfl
      have hθc:θ≤dD l:=by
       rcases hL with h| ⟨j,oj,h1,h2,h3,h4⟩
       ·exact h
       ·have e:=hcl j i ((hS j oj h1 h2).1 h4) hin (hlate i j io oj hio Uk h1 h2 h3);rw[R2]at e;cases e
      exact⟨θ,hθ,hL,VA Se,H θ,H θ,hr,hstab i io hio Uk θ hθc,fun m' w' a b=>⟨a,b⟩⟩
     have Uk:mD io=false:=by simpa using Uk
     by_cases Se:cC io.k=true
     ·obtain⟨n,ad,SR⟩:∃n ad,io.k= .load n ad:=by
       cases SR:io.k with
       | load n ad=>exact⟨n,ad,rfl⟩
       | _=>rw[SR]at Se hp;exact absurd Se hp
      have hHh:∀ (j:Nat) (o:bJ),l[j]? =some o→cC o.k=false→kB o=false→(j < θ↔j < i):=fun j oj hj hk QY=>by
       have Tg:=(X1.1 hj).1;constructor
       ·intro UQ;have SS:=(hS j oj hj hk).1 UQ;by_cases e1:j=i
        ·exact GJ
        ·by_cases e2:j < i
         ·exact e2
         ·have e3:=je hmo (show i < j by omega) hio hj Wl (hrp hk) Uk (hld hk) (.inr (.inr ⟨hk,QY⟩));have e4:=hcl j i SS hin e3;rw[R2]at e4;cases e4
       ·intro hji;exact(hS j oj hj hk).2 (hahead j Om (je hmo hji hj hio (hrp hk) Wl (hld hk) Uk (.inr (.inl ⟨hk,QY⟩))))
      have Tu:dx P io (T i) (H i) (T (i+1)) (H i):=by
       have e:=xS Se bS;rw[e]at bS;exact bS
      by_cases R3:i≤θ
      ·obtain⟨g,UT⟩:=WA i (θ - i) Om fun j oj h1 h2 h3=>by
        exact PI
       rw[show i+ (θ - i)=θ from by omega]at UT;refine⟨θ,hθ,hL,VA Se,H θ,H θ,hr,?_,fun m' w' a b=>⟨a,b⟩⟩;rw[UT];exact B8 SR Tu g
      ·obtain⟨g,UT⟩:=WA θ (i - θ) Om fun j oj h1 h2 h3=>by
        exact PI
       rw[show θ+ (i - θ)=i from by omega]at UT;rw[UT]at Tu;refine⟨θ,hθ,hL,VA Se,H θ++g,H θ++g,hr.BQ g,Tu,fun m' w' a b=>?_⟩;have hm:m' =m1:=by
        funext z;by_cases hz:z < (H θ++g).length
        ·exact b.ext z hz
        ·have e1:m1 z=none:=by
          cases hx:m1 z with
          | none=>rfl
          | some e=>exact absurd ((hr.BQ g).cI z e hx) hz
         have e2:m' z=none:=by
          cases hx:m' z with
          | none=>rfl
          | some e=>exact absurd (a.cI z e hx) hz
         rw[e1,e2]
       subst hm;exact⟨a.Hz hr.cI,⟨fun _ _=>rfl,Yg _,fun z e hz hmz=>absurd (hr.cI z e hmz) Om,fun _ _ x=>x,b.size,b.os,b.out,b.tape,b.frame⟩⟩
     ·have Sp:cC io.k=false:=by simpa using Se
      have hHi:H θ=H i:=Ud θ i hθ Om fun j oj hj hk=>by
       have Tg:=(X1.1 hj).1;constructor
       ·intro UQ;have SS:=(hS j oj hj hk).1 UQ;by_cases e1:j=i
        ·exact GJ
        ·by_cases e2:j < i
         ·exact e2
         ·exact PF
       ·intro hji;exact(hS j oj hj hk).2 (hahead j Om (je hmo hji hj hio (hrp hk) Wl (hld hk) Uk (.inl ⟨hk,Sp⟩)))
      refine⟨i+1,Om,(by by_cases hc:i+1≤dD l;exact .inl hc;exact .inr ⟨i,io,hio,Sp,Om,Om⟩),fun j oj hj hk=>?_,H θ,H (i+1),hr,by rw[hHi];exact bS,fun m' w' a b=>⟨a,b⟩⟩;have Tg:=(X1.1 hj).1;by_cases e1:j=i
      ·subst e1;rw[cZ Om,Yh rfl];exact⟨fun _=>rfl,fun _=>by omega⟩
      ·rw[hne j e1];constructor
       ·intro hji;exact hahead j Om (je hmo (show j < i by omega) hj hio (hrp hk) Wl (hld hk) Uk (.inl ⟨hk,Sp⟩))
       ·intro SS;by_cases e2:j < i
        ·omega
        ·exact PF
   obtain⟨θ',Xm,hL',hS',hb,h2',VB,Tu,Sv⟩:=RF;refine fq ho Q8 VB.gv VB (by rw[dZ,hTl i Om]) hslot Tu ro _ Q ?_;intro cv v' m' w' Sm SD hrx hgx;obtain⟨hr',Rj⟩:=Sv m' w' hrx hgx;have Rr:io.dst=o.dst:=(dm Q8).1;have Ts:=Rj.le hr.cI;have hlt: (listed.setIfInBounds i true).getD i false=true:=by rw[cZ Om,Yh rfl]
   have T4: (a1.put o.dst cv).tmps=gG a1.tmps o.dst cv:=by cases o.dst<;>rfl
   refine ih _ θ' m' (a1.put o.dst cv) w' (by simp[Rc]) UB SX Xm hL' hS' hr' (hg.trans Rj st.hr.cI) (by rw[T4,eV];exact dZ) ?_ ?_ (by rw[put_defers];exact hd)
   ·intro d hdn;have SQ:o.dst≠some d:=by rw[←Rr];exact hdn i io hio hlt
    rw[T4,dy SQ];refine VR.mono Ts _ _ (h1 d fun j oj hj hl=>hdn j oj hj ?_);exact Mq
   ·intro d j oj hj hl TH;by_cases e1:j=i
    ·subst e1;rw[hio]at hj;cases hj;rw[Sm,T4,←Rr,TH];exact lu (by rw[dZ,hTl j Om]) SD
    ·have SQ:o.dst≠some d:=fun hx=>by
      exact z124
     rw[T4,dy SQ];rw[hne j e1]at hl;exact VR.mono Ts _ _ (h2 d j oj hj hl TH)
 have Q3:∀j,(Array.replicate ops.size false).getD j false=false:=fun j=>by
  exact Mr
 refine key ops.size (Array.replicate ops.size false) 0 m a _ Si ?_ (fun j x hj _ _=>by simp[Q3 j]at hj) (YB _) (.inl (YB _)) (fun j oj hj hk=>⟨fun hx=>absurd hx Om,fun hx=>by simp[Q3 j]at hx⟩) st.hr.drew (Grow.refl m _ w st.hr.cI).drew ?_ (fun d _=>nJ st.ts d) (fun d j o _ hj _=>by simp[Q3 j]at hj) rfl
 ·exact Mw
 ·exact Di
section
variable {P:Program} {m m':bY} {h h':ah} {w w':World}
def vt{ops i o}(ho:ops[i]? =some o){q io}(hc:bP P ops q o=some io)(hgd0:io.gd=none){ts a v}
  (hg:GV P m) (hr:HR P m h w) (ht:∀t,t∈o.looksAt ops→VR m (ts.getD t aA) (a.tmps.getD t undef)) (hs:pH P io.k (val ts) h v h') (ro:Option Nat) (K:Act→World→Prop) (Q:Exit→Act→World→Prop)
  (hn:∀cv m' w',VR m' v cv→HR P m' h' w'→Grow m h w m' h' w'→K (a.put o.dst cv) w'):wpOpIn (Fd ro) 0 P ops Q i K a w:=by
 unfold bP at hc;split at hc
 case h_2=>cases hc
 rename_i g Ul;cases hc;have hg0:g=none:=hgd0;subst hg0;have hw:=qD (m:=m) (ts:=ts) (a:=a) Ul (fun t b Ua=>by cases Ua);unfold wpOpIn;rw[ho];simp only;rw[Yh (hw.2 trivial)];simp only at hs;split at hs
 case isFalse=>exact absurd hs oz
 rename_i XM;cases hk:dX P o with
 | none=>rw[hk]at hs;exact absurd hs oz
 | some k=>
  rw[hk]at hs;refine vq hk (fun x hx x' Q2=>?_) (fun z=>rfl) hr hs ro K Q (fun cv m' w' h1 h2 h3=>hn cv m' w' h1 h2 h3);exact PU
def Ak{n x}(h:ye x=true):iQ n x:=by
 cases x<;>first
  | (cases h;done)
  | skip
 case bool b=>exact⟨fun _=>none,_,(fun _ _ z=>by cases z),rfl⟩
 case int k b=>exact⟨fun _=>none,_,(fun _ _ z=>by cases z),rfl⟩
 case wG k b=>exact⟨fun _=>none,.float k b,(fun _ _ z=>by cases z),⟨b,rfl,.inl rfl⟩⟩
 case wk k a b=>exact⟨fun _=>none,.complex k a b,(fun _ _ z=>by cases z),⟨a,b,rfl,.inl rfl,.inl rfl⟩⟩
 all_goals exact⟨fun _=>none,_,(fun _ _ z=>by cases z),rfl⟩
def yf{n x}(h:iQ n x):∀y∈x.cells,iQ n y:=by
 obtain⟨ma,va,h1,h2⟩:=h;intro y hy;obtain⟨i,hi,rfl⟩:=aad hy;obtain⟨v,_,hv⟩:=h2.cells.get (X6 hi);exact⟨ma,v,h1,hv⟩
theorem uW:∀{l c} {o} {x},x∈fI c o l→x∈c∨x∈l
 | [],c,o,x,h=>.inl h
 | y::l,c,o,x,h=>by
  have h:x∈fI (c.set o y) (o+1) l:=h;rcases uW h with h| h
  ·rcases ZO h with h| h
   ·exact .inl h
   ·exact .inr (by rw[h];simp)
  ·exact .inr (YI _ h)
theorem rD{n}:∀{ps} {z c},(∀x∈z,iQ n x)→(∀p∈ps,iQ n p.2.2)→eF z ps=some c→∀x∈c,iQ n x
 | [],z,c,hz,_,h,x,hx=>by cases h;exact hz x hx
 | (off,k,v)::r,z,c,hz,hp,h,x,hx=>by
  rw[eF]at h;split at h
  ·refine rD (fun y hy=>?_) (fun p hq=>hp p (YI _ hq)) h x hx;rcases uW hy with hy| hy
   ·exact hz y hy
   ·exact yf (hp (off,k,v) Si) y hy
  ·cases h
theorem uL:∀{n} {z} {x},x∈dK n z→x∈z
 | 0,z,x,h=>by simp[dK]at h
 | n+1,z,x,h=>by
  have h:x∈z++dK n z:=h;rcases Yb.1 h with h| h
  ·exact h
  ·exact uL h
def BV(gr:Grow m h w m' h' w')(hd:∀b e,m b=some e→b < h.length){e k}(hk:k.live=true)(hb:BR P m w e k)(hout:∀b e',m b=some e'→e'.cb≠e.cb):BR P m' w' e k∧∀b e',m' b=some e'→e'.cb≠e.cb:=by
 have hlt:=hb.lt hk;refine⟨(hb.heap (gr.frame e.cb hlt fun b e' he _=>hout b e' he)).mono (gr.le hd),fun b e' he=>?_⟩;by_cases hbl:b < h.length
 ·rw[gr.ext b hbl]at he;exact hout b e' he
 ·obtain⟨_,hc⟩:=gr.new b e' Om he;rcases hc with hc| ⟨b0,e0,c1,c2,_⟩
  ·omega
  ·rw[←c2];exact hout b0 e0 c1
def HR.ym(hr:HR P m h w){e k}(hk:k.live=true)(hb:BR P m w e k)(hout:∀b e',m b=some e'→e'.cb≠e.cb):HR P (m.add h.length e) (h++ [k]) w:=by
 have RZ:m h.length=none:=by
  exact Mt
 have hle:m.le (m.add h.length e):=bY.rM _ RZ;have Q9:∀b e',(m.add h.length e) b=some e'→(b=h.length∧e' =e)∨(b < h.length∧m b=some e'):=fun b e' Sl=>by
  exact PM
 refine⟨fun b e' Sl=>?_,fun b e' k' Sl hk'=>?_,fun b1 b2 e1 e2 k1 k2 hne h1 h2 hk1 QY hcb=>?_,fun g hg=>?_,fun b e' Sl=>?_⟩
 ·rw[X2];rcases Q9 b e' Sl with⟨rfl,_⟩| ⟨hlt,_⟩
  ·simp
  ·simp;omega
 ·rcases Q9 b e' Sl with⟨rfl,rfl⟩| ⟨hlt,hm⟩
  ·rw[Ye (Yg _),Zb]at hk';cases hk';exact hb.mono hle
  ·rw[X5 hlt]at hk';exact(hr.dP b e' k' hm hk').mono hle
 ·exact P4
 ·obtain⟨e',he,hx⟩:=hr.fV g hg;exact⟨e',hle _ _ he,hx⟩
 ·rcases Q9 b e' Sl with⟨_,rfl⟩| ⟨_,hm⟩
  ·exact hb.lt hk
  ·exact hr.lt b e' hm
def Grow.ym{m0 h0 w0}(gr:Grow m0 h0 w0 m h w)(hd0:∀b e,m0 b=some e→b < h0.length)(hd:∀b e,m b=some e→b < h.length){e k}(ho:e.own=true)(hlt:w0.heap.size≤e.cb):Grow m0 h0 w0 (m.add h.length e) (h++ [k]) w where
 ext:=fun b hb=>by
  have:b≠h.length:=by have:=gr.len;omega
  show(if b=h.length then some e else m b)=_;rw[Yd this];exact gr.ext b hb
 len:=by rw[X2];have:=gr.len;omega
 new:=fun b e' hb he=>by
  unfold bY.add at he;by_cases hx:b=h.length
  ·rw[Yh hx]at he;cases he;exact⟨ho,.inl hlt⟩
  ·rw[Yd hx]at he;obtain⟨h1,hc⟩:=gr.new b e' hb he;refine⟨h1,?_⟩;rcases hc with hc| ⟨b0,e0,c1,c2,c3,c4,c5⟩
   ·exact .inl hc
   ·have:=hd0 _ _ c1;exact .inr ⟨b0,e0,c1,c2,c3,c4,by rw[fA (by have:=gr.len;omega)];exact c5⟩
 tl:=fun b hb ht=>by
  rw[fA (by have:=gr.len;omega)]at ht;exact gr.tl b hb ht
 size:=gr.size
 os:=gr.os
 out:=gr.out
 tape:=gr.tape
 frame:=gr.frame
end
def pS{M l f}(h:rl M l f=true){i j x y}(hij:i < j)(hx:l[i]? =some x)(hy:l[j]? =some y)(px:fp x.k=false)(py:fp y.k=false)(lx:mD x=false)(ly:mD y=false)(hj:j≠f):ahead M i j=true:=by
 have Tg:j < l.length:=(X1.1 hy).1;unfold rl at h;rw[YE]at h;have h1:=h j (Zh.2 Tg);rw[YE]at h1;have h2:=h1 i (Zh.2 hij);rw[hx,hy]at h2
 simpa [px,py,lx,ly,hj]using h2
structure QR(ops:Array Oper)(l:List bJ)(f df es n:Nat)(z:List AV)(ps:List (Nat×cT))(q:Bool):Prop where
 hf:l[f]? =some { dst:=some df,k:=.aE es n z ps,gd:=none,q:=q }
 hz:∀x∈z,ye x=true
 hp:∀p∈ps,∃u,p.2= .t u∧fx ops f u=true
 hr:∀j o,l[j]? =some o→cC o.k=true→(fp o.k=true∨mD o=true)∧fx ops j df=false
def ya{ops l f}(h:v8 ops l f=true):∃df es n z ps q,QR ops l f df es n z ps q:=by
 unfold v8 at h;split at h
 case h_2=>cases h
 rename_i d es n z ps q hf;simp only[YD,YE,Zh]at h;obtain⟨⟨h1,h2⟩,h3⟩:=h;refine⟨d,es,n,z,ps,q,hf,h1,fun p hp=>?_,fun j o hj hk=>?_⟩
 ·have:=h2 p hp;split at this
  ·rename_i u hu;exact⟨u,hu,this⟩
  ·cases this
 ·have:=h3 j (X1.1 hj).1;rw[hj]at this;simp only[hk,Yw,aah,YD,ZQ,Zt]at this;exact this
structure kG(P:Program)(l:List bJ)(f df:Nat)(k:ak)(T:Nat→TS)(H:Nat→ah)(m:bY)(w:World)(listed:Array Bool)(θ:Nat)(m1:bY)(tm:Array Value)(w1:World):Prop where
 hθ:θ≤l.length
 hL:θ≤dD l∨∃ (j:Nat) (o:bJ),l[j]? =some o∧cC o.k=false∧j≠f∧dD l≤j∧j < θ
 hS:∀ (j:Nat) (o:bJ),l[j]? =some o→cC o.k=false→j≠f→(j < θ↔listed.getD j false=true)
 hf:f < θ→listed.getD f false=true
 hr:HR P m1 (H θ) w1
 hg:Grow m (H 0) w m1 (H θ) w1
 dZ:tm.size= (T 0).length
 h1:∀ (d:Nat),(∀ (j:Nat) (o:bJ),l[j]? =some o→listed.getD j false=true→o.dst≠some d)→VR m1 ((T 0).getD d aA) (tm.getD d undef)
 h2:∀ (d j:Nat) (o:bJ),l[j]? =some o→listed.getD j false=true→o.dst=some d→(j=f→f < θ)→VR m1 ((T (j+1)).getD d aA) (tm.getD d undef)
 pd:listed.getD f false=true→θ≤f→∃e:sI,BR P m1 w1 e k∧e.own=true∧w.heap.size≤e.cb∧(∀b e',m1 b=some e'→e'.cb≠e.cb)∧∀m':bY,m1.le m'→m' (H f).length=some e→VR m' ((T (f+1)).getD df aA) (tm.getD df undef)
def xR{P cq f}(hmix:P.follows .mixedOrders=true){ops l}(hed:km (Region.before ops) ops=true)(hsl:lR (Region.before ops) ops=true)
  (hc:eG (fun _ o=>bP P ops (si cq o) o) ops.toList 0=some l) (hfo:v8 ops l f=true) (hmo:rl (Region.before ops) l f=true) {T} {H} (hrow:Row P l T H) (hstab:∀ (i:Nat) (io:bJ),l[i]? =some io→mD io=true→∀θ,θ≤dD l→dx P io (T i) (H θ) (T (i+1)) (H θ)) (hlate:∀ (i j:Nat) (x y:bJ),l[i]? =some x→mD x=true→l[j]? =some y→cC y.k=false→dD l≤j→ahead (Region.before ops) i j=true) {m} {a} {w}
  (st:St P m (T 0) (H 0) a w) (ro:Option Nat) (Q:Exit→Act→World→Prop) (hQ:∀m' a' w',St P m' (T l.length) (H l.length) a' w'→Grow m (H 0) w m' (H l.length) w'→a'.defers=a.defers→Q .normal a' w') (id:Nat):
  (Code.region id ops true).wpIn (Fd ro) 0 P Q a w:=by
 obtain⟨df,es,n,zz,ps,qf,F⟩:=ya hfo;refine wpIn_region_any hmix ?_;obtain⟨Re,Q4⟩:=fX hc;simp only[aag]at Re;have U0:∀ (j:Nat) (io:bJ),l[j]? =some io→∃o,ops[j]? =some o∧bP P ops (si cq o) o=some io:=fun j io hj=>by
  exact MT
 have R5:∀ (j:Nat) (io:bJ) (d:Nat),l[j]? =some io→io.dst=some d→∃o,ops[j]? =some o∧o.dst=some d:=fun j io d hj hd=>by
  exact z76
 have huniq:∀ (i j:Nat) (oi oj:bJ) (d:Nat),l[i]? =some oi→l[j]? =some oj→oi.dst=some d→oj.dst=some d→i=j:=fun i j oi oj d hi hj h1 h2=>by
  exact MV
 have Sx:∀ (j:Nat) (io:bJ),l[j]? =some io→∃v,T (j+1)=put (T j) io.dst v:=fun j io hj=>(hrow.step j io hj).1.put
 have hTl:∀j,j≤l.length→(T j).length= (T 0).length:=by
  intro j
  induction j with
  | zero=>intro _;rfl
  | succ j ih=>
   intro hj;exact MN
 have Ra:∀x y t,x≤y→y≤l.length→(∀ (j:Nat) (o:bJ),x≤j→j < y→l[j]? =some o→o.dst≠some t)→(T y).getD t aA= (T x).getD t aA:=by
  intro x y t hxy hy hno;exact P2
 have TN:∀ (j:Nat) (io:bJ),l[j]? =some io→cC io.k=true→H (j+1)=H j:=fun j io hj hk=>xS hk (hrow.step j io hj).1
 have TO:∀x k,x+k≤l.length→(∀ (j:Nat) (o:bJ),x≤j→j < x+k→l[j]? =some o→cC o.k=true)→H (x+k)=H x:=by
  intro x k
  induction k with
  | zero=>intro _ _;rfl
  | succ k ih=>
   intro hk hno;exact PX
 have Ud:∀x y,x≤l.length→y≤l.length→(∀ (j:Nat) (o:bJ),l[j]? =some o→cC o.k=false→(j < x↔j < y))→H x=H y:=by
  intro x y hx hy hno;exact P6
 have Ru:f < l.length:=(X1.1 F.hf).1;obtain⟨cf,mu,tl,Sb,hTf,hHf,hcf⟩:∃cf mu tl,eF (dK n zz) (ps.map fun p=>(p.1,es,val (T f) p.2))=some cf∧T (f+1)=put (T f) (some df) (.slice (H f).length 0 n es)∧H (f+1)=H f++ [.cells cf mu tl]∧∀g:ah,pH P (.aE es n zz ps) (val (T f)) g (.slice g.length 0 n es) (g++ [.cells cf mu tl]):=by
  have Xu:=(hrow.step f _ F.hf).1;generalize hx:T (f+1)=tx at Xu;generalize hy:H (f+1)=hyy at Xu;cases Xu with
  | run hw hb hs=>
   have hs:mI (.aE es n zz ps) _ _ _ _:=hs;obtain⟨c,mu,tl,q1,q2,q3,rfl,rfl⟩:=hs;exact⟨c,mu,tl,q1,rfl,rfl,fun g=>⟨c,mu,tl,q1,q2,q3,rfl,rfl⟩⟩
  | skip hw=>exact absurd trivial hw
 have Vn: (ak.cells cf mu tl).live=true:=rfl;have hrp:∀{k:oZ},cC k=false→fp k=false:=fun {k} hk=>by
  cases k<;>first| exact hk| (cases hk;done)
 have hld:∀{o:bJ},cC o.k=false→mD o=false:=fun {o} hk=>by
  exact JH
 have Wj:∀ (listed:Array Bool) (θ:Nat) (m1:bY) (tm:Array Value) (w1:World),kG P l f df (.cells cf mu tl) T H m w listed θ m1 tm w1→listed.getD f false=true→θ≤f→(∀ (j:Nat) (o:bJ),l[j]? =some o→cC o.k=false→j < f→listed.getD j false=true)→
   ∃m2,kG P l f df (.cells cf mu tl) T H m w listed (f+1) m2 tm w1:=by
  intro listed θ m1 tm w1 I XG Xl hall;have e:H θ=H f:=Ud θ f I.hθ Om fun j oj hj hk=>by
   by_cases hjf:j=f
   ·subst hjf;omega
   ·constructor
    ·intro h;omega
    ·intro h;exact(I.hS j oj hj hk hjf).2 (hall j oj hj hk h)
  obtain⟨en,b1,b2,b3,b4,b5⟩:=I.pd XG Xl;have hr:=I.hr;have hg:=I.hg;rw[e]at hr hg;have RZ:m1 (H f).length=none:=by
   cases hx:m1 (H f).length with
   | none=>rfl
   | some y=>exact absurd (hr.cI _ _ hx) Om
  have Ts:m1.le (m1.add (H f).length en):=bY.rM _ RZ;refine⟨m1.add (H f).length en,⟨Om,.inl (by have:=yX F.hf rfl;omega),fun j oj hj hk hjf=>?_,fun _=>XG,by rw[hHf];exact hr.ym Vn b1 b4,by rw[hHf];exact hg.ym st.hr.cI hr.cI b2 b3,I.dZ,fun d hd=>VR.mono Ts _ _ (I.h1 d hd),fun d j oj hj hl hd _=>?_,fun _ hx=>absurd hx Om⟩⟩
  ·constructor
   ·intro h;exact hall j oj hj hk Om
   ·intro h;have:=(I.hS j oj hj hk hjf).2 h;omega
  ·by_cases hjf:j=f
   ·subst hjf;rw[F.hf]at hj;cases hj;cases hd;exact b5 _ Ts (by simp[bY.add])
   ·exact VR.mono Ts _ _ (I.h2 d j oj hj hl hd fun z=>absurd z hjf)
 have Sv:∀ (listed:Array Bool) (θ:Nat) (m1:bY) (a1:Act) (w1:World),(∀i,i < ops.size→listed.getD i false=true)→kG P l f df (.cells cf mu tl) T H m w listed θ m1 a1.tmps w1→f < θ→a1.defers=a.defers→Q .normal a1 w1:=by
  intro listed θ m1 a1 w1 hall I hfθ hd;have e:=Ud θ l.length I.hθ (Yg _) fun j o hj hk=>by
   have Tg:=(X1.1 hj).1;by_cases hjf:j=f
   ·subst hjf;omega
   ·have:=(I.hS j o hj hk hjf).2 (hall j Om);omega
  have hr:=I.hr;have hg:=I.hg;rw[e]at hr hg;have dZ:=I.dZ;refine hQ m1 a1 w1 ⟨hr,cH.gO ?_ ?_⟩ hg hd
  ·exact z145
  ·intro t x hx;have hlt:=(X1.1 hx).1;have Rm:t < a1.tmps.size:=by have:=hTl l.length (Yg _);omega
   have ex: (T l.length).getD t aA=x:=by simp[List.getD,hx]
   have ey:a1.tmps.getD t undef=a1.tmps[t]:=by simp[YP,YT Rm]
   refine⟨a1.tmps[t],Si,?_⟩;rw[←ex,←ey];by_cases hw:∃ (j:Nat) (o:bJ),l[j]? =some o∧o.dst=some t
   ·obtain⟨j,o,hj,ho⟩:=hw;have Tg:=(X1.1 hj).1;rw[Ra (j+1) l.length t Om (Yg _) (fun k o' a2 a3 a4 a5=>by have:=huniq j k o o' t hj a4 ho a5;omega)];exact I.h2 t j o hj (hall j Om) ho fun _=>hfθ
   ·rw[Ra 0 l.length t Om (Yg _) (fun k o' _ _ h4 h5=>hw ⟨k,o',h4,h5⟩)];exact I.h1 t fun j o hj _ ho=>hw ⟨j,o,hj,ho⟩
 have hdone:∀ (listed:Array Bool) (θ:Nat) (m1:bY) (a1:Act) (w1:World),(∀i,i < ops.size→listed.getD i false=true)→kG P l f df (.cells cf mu tl) T H m w listed θ m1 a1.tmps w1→a1.defers=a.defers→Q .normal a1 w1:=by
  intro listed θ m1 a1 w1 hall I hd;by_cases hfθ:f < θ
  ·exact Sv listed θ m1 a1 w1 hall I hfθ hd
  ·obtain⟨m2,I2⟩:=Wj listed θ m1 a1.tmps w1 I (hall f Om) Om fun j o hj _ _=>hall j (by have:=(X1.1 hj).1;omega)
   exact Sv listed (f+1) m2 a1 w1 hall I2 Om hd
 have key:∀ (fuel:Nat) (listed:Array Bool) (θ:Nat) (m1:bY) (a1:Act) (w1:World),listed.size=ops.size→qG listed ops.size≤fuel→
   (∀j x,listed.getD j false=true→x < ops.size→ahead (Region.before ops) x j=true→listed.getD x false=true)→kG P l f df (.cells cf mu tl) T H m w listed θ m1 a1.tmps w1→a1.defers=a.defers→wpAnyIn (Fd ro) 0 P .any ops Q fuel listed a1 w1:=by
  intro fuel
  induction fuel with
  | zero=>
   intro listed θ m1 a1 w1 Rc hu hcl I hd;have hall:=kZ ops.size (show qG listed ops.size=0 by omega);exact⟨lU Rc hall,hdone listed θ m1 a1 w1 hall I hd⟩
  | succ fuel ih=>
   intro listed θ m1 a1 w1 Rc hu hcl I hd;refine⟨fun hrn=>hdone listed θ m1 a1 w1 (lT hed Rc hrn) I hd,fun i hi=>?_⟩;obtain⟨o,ho,R2,VQ⟩:=(iV Rc).1 hi;have hin:i < ops.size:=(Ym.1 ho).1;obtain⟨io,hio,Q8⟩:=Q4 i o (by simpa using ho);have Q8:bP P ops (si cq o) o=some io:=Q8;obtain⟨bS,_⟩:=hrow.step i io hio;have hahead:∀x,x < ops.size→ahead (Region.before ops) x i=true→listed.getD x false=true:=fun x hx ha=>by
    exact z37
   have SX:∀j x,(listed.setIfInBounds i true).getD j false=true→x < ops.size→ahead (Region.before ops) x j=true→(listed.setIfInBounds i true).getD x false=true:=by
    intro j x hj hx ha;exact Mv
   have UB:qG (listed.setIfInBounds i true) ops.size≤fuel:=by
    exact z80
   have hne:∀j,j≠i→(listed.setIfInBounds i true).getD j false=listed.getD j false:=fun j hj=>by rw[cZ Om,Yd hj]
   have hlt: (listed.setIfInBounds i true).getD i false=true:=by rw[cZ Om,Yh rfl]
   have Rr:io.dst=o.dst:=(dm Q8).1;have hslot:∀ (θ:Nat) (m1:bY) (tm:Array Value) (w1:World),kG P l f df (.cells cf mu tl) T H m w listed θ m1 tm w1→(listed.getD f false=true→θ≤f→i < f∨fx ops i df=false)→∀t,t∈o.looksAt ops→VR m1 ((T i).getD t aA) (tm.getD t undef):=by
    intro θ m1 tm w1 I hnp t ht;by_cases hex:∃ (x:Nat) (ox:bJ),l[x]? =some ox∧listed.getD x false=true∧ox.dst=some t
    ·obtain⟨x,ox,hx,hxl,Uh⟩:=hex;obtain⟨oo,Tx,Uw⟩:=R5 x ox t hx Uh;have hxi:x < i:=by
      by_cases e1:x=i
      ·subst e1;rw[R2]at hxl;cases hxl
      ·by_cases e2:x < i
       ·exact e2
       ·have e3:=(cL hsl (show i < x by omega) ho Tx).2 t Uw ht;have e4:=hcl x i hxl hin e3;rw[R2]at e4;cases e4
     rw[Ra (x+1) i t Om Om (fun k o' a2 a3 a4 a5=>by have:=huniq x k ox o' t hx a4 Uh a5;omega)];refine I.h2 t x ox hx hxl Uh fun hxf=>?_
     subst hxf;by_cases hh:x < θ
     ·exact hh
     ·rcases hnp hxl (by omega)with h| h
      ·omega
      ·rw[F.hf]at hx;cases hx;cases Uh;unfold fx at h;rw[ho]at h;simp only at h;have:=List.contains_iff_mem.2 ht;rw[this]at h;cases h
    ·rw[Ra 0 i t Om Om (fun k o' e2 e3 e4 e5=>by
      obtain⟨oo,Tx,Rr⟩:=R5 k o' t e4 e5;have h6:=((cL hsl e3 Tx ho).1 t Rr).2 ht;exact hex ⟨k,o',e4,hahead k (Ym.1 Tx).1 h6,e5⟩)]
     exact I.h1 t fun j oj hj hl Rr=>hex ⟨j,oj,hj,hl,Rr⟩
   have hadv:i≠f→∀ (θ θ':Nat) (m1 m':bY) (tm:Array Value) (w1 w':World) (cv:Value) (v':AV),kG P l f df (.cells cf mu tl) T H m w listed θ m1 tm w1→θ'≤l.length→(θ'≤dD l∨∃ (j:Nat) (o:bJ),l[j]? =some o∧cC o.k=false∧j≠f∧dD l≤j∧j < θ')→(∀ (j:Nat) (o:bJ),l[j]? =some o→cC o.k=false→j≠f→(j < θ'↔(listed.setIfInBounds i true).getD j false=true))→(f < θ'↔f < θ)→
     T (i+1)=put (T i) o.dst v'→VR m' v' cv→HR P m' (H θ') w'→Grow m1 (H θ) w1 m' (H θ') w'→kG P l f df (.cells cf mu tl) T H m w (listed.setIfInBounds i true) θ' m' (gG tm o.dst cv) w':=by
    intro T9 θ θ' m1 m' tm w1 w' cv v' I Xm hL' hS' hff Sm SD hr' Rj;have Ts:=Rj.le I.hr.cI;refine⟨Xm,hL',hS',fun h=>?_,hr',I.hg.trans Rj st.hr.cI,by rw[eV];exact I.dZ,fun d hdn=>?_,fun d j oj hj hl TH hjf=>?_,fun XG Xl=>?_⟩
    ·rw[hne f (Zv T9)];exact I.hf (hff.1 h)
    ·have SQ:o.dst≠some d:=by rw[←Rr];exact hdn i io hio hlt
     rw[dy SQ];refine VR.mono Ts _ _ (I.h1 d fun j oj hj hl=>hdn j oj hj ?_);exact Mq
    ·by_cases e1:j=i
     ·subst e1;rw[hio]at hj;cases hj;rw[Sm,←Rr,TH];exact lu (by rw[I.dZ,hTl j Om]) SD
     ·have SQ:o.dst≠some d:=fun hx=>by
       exact z124
      rw[dy SQ];rw[hne j e1]at hl;exact VR.mono Ts _ _ (I.h2 d j oj hj hl TH fun z=>hff.1 (hjf z))
    ·rw[hne f (Zv T9)]at XG;obtain⟨e,b1,b2,b3,b4,b5⟩:=I.pd XG (by have:=hff.2;omega);obtain⟨c1,c2⟩:=BV Rj I.hr.cI Vn b1 b4;have SQ:o.dst≠some df:=fun hx=>by
      rw[←Rr]at hx;exact T9 (huniq i f io _ df hio F.hf hx rfl)
     refine⟨e,c1,b2,b3,c2,fun m2 Vm Q6=>?_⟩;rw[dy SQ];exact b5 m2 (bY.le_trans Ts Vm) Q6
   have T4:∀cv,(a1.put o.dst cv).tmps=gG a1.tmps o.dst cv:=fun cv=>by cases o.dst<;>rfl
   by_cases T9:i=f
   ·
    subst T9;rw[F.hf]at hio;cases hio;have Xl:θ≤i:=by
     by_cases hh:i < θ
     ·have:=I.hf hh;rw[R2]at this;cases this
     ·omega
    refine vt ho Q8 rfl I.hr.gv I.hr (hslot θ m1 a1.tmps w1 I fun h=>by rw[R2]at h;cases h) (hcf (H θ)) ro _ Q ?_;intro cv m' w' hv hr' Rj;have hclos:∀x∈cf,iQ (H θ).length x:=rD (fun x hx=>Ak (F.hz x (uL hx))) (fun p hp=>by
     obtain⟨q,hq,rfl⟩:=YA.1 hp;obtain⟨u,hu,VH⟩:=F.hp q hq;have hu2:u∈o.looksAt ops:=by
      unfold fx at VH;rw[ho]at VH;exact List.contains_iff_mem.1 VH
     have:=hslot θ m1 a1.tmps w1 I (fun h=>by rw[R2]at h;cases h) u hu2;show iQ _ (val (T i) q.2);rw[hu];exact⟨m1,_,I.hr.cI,this⟩) Sb
    have hcb:qb (H θ).length (.cells cf mu tl):=fun j x hx=>hclos x (YW hx)
    have hup:m'.dC (H θ).length=m1:=by
     funext b;unfold bY.dC;by_cases hb:b < (H θ).length
     ·rw[Yh hb];exact Rj.ext b hb
     ·rw[Yd hb];cases hx:m1 b with
      | none=>rfl
      | some e=>exact absurd (I.hr.cI b e hx) hb
    have R7:=HR.forget I.hr hr' Rj;have UT:=Rj.forget;rw[hup]at R7 UT;have UA:=hv;rw[VR]at UA;obtain⟨e,ca,cap,he,RY⟩:=UA;have hb:=(hr'.dP _ e (.cells cf mu tl) he Si).cut hcb;rw[hup]at hb;obtain⟨ho1,hc⟩:=Rj.new _ e (Yg _) he;have hcbl:w1.heap.size≤e.cb:=by
     rcases hc with hc| ⟨b0,e0,c1,c2,c3,c4,c5⟩
     ·exact hc
     ·rw[fA (I.hr.cI _ _ c1),c4]at c5;cases c5
    have SG:o.dst=some df:=Rr.symm;refine ih _ θ m1 (a1.put o.dst cv) w' (by simp[Rc]) UB SX ?_ (by rw[put_defers];exact hd);rw[T4];refine⟨I.hθ,I.hL,fun j oj hj hk hjf=>by rw[hne j hjf];exact I.hS j oj hj hk hjf,fun h=>by omega,R7,I.hg.trans UT st.hr.cI,by rw[eV];exact I.dZ,fun d hdn=>?_,fun d j oj hj hl TH hjf=>?_,fun _ _=>⟨e,hb,ho1,YQ I.hg.size hcbl,fun b e' Sl=>by have:=I.hr.lt b e' Sl;omega,fun m2 Vm Q6=>?_⟩⟩
    ·have SQ:o.dst≠some d:=by rw[SG];exact hdn i _ F.hf hlt
     rw[dy SQ];refine I.h1 d fun j oj hj hl=>hdn j oj hj ?_
     exact Mq
    ·by_cases e1:j=i
     ·have:=hjf e1;omega
     ·have SQ:o.dst≠some d:=fun hx=>by
       rw[SG]at hx;exact e1 (huniq j i oj _ d hj F.hf TH hx)
      rw[dy SQ];rw[hne j e1]at hl;exact I.h2 d j oj hj hl TH hjf
    ·rw[hTf,SG];exact lu (by rw[I.dZ,hTl i Om]) (by rw[VR];exact⟨e,ca,cap,Q6,RY⟩)
   by_cases Se:cC io.k=true
   ·
    obtain⟨T6,Tf⟩:=F.hr i io hio Se;have Tu:dx P io (T i) (H θ) (T (i+1)) (H θ):=by
     rcases T6 with hp| hp
     ·exact(xW hp bS).2 _
     ·refine hstab i io hio hp θ ?_;rcases I.hL with h| ⟨j,oj,h1,h2,h5,h3,h4⟩
      ·exact h
      ·have e:=hcl j i ((I.hS j oj h1 h2 h5).1 h4) hin (hlate i j io oj hio hp h1 h2 h3);rw[R2]at e;cases e
    refine fq ho Q8 I.hr.gv I.hr (by rw[I.dZ,hTl i Om]) (hslot θ m1 a1.tmps w1 I fun _ _=>.inr Tf) Tu ro _ Q ?_;intro cv v' m' w' Sm SD hrx hgx;refine ih _ θ m' (a1.put o.dst cv) w' (by simp[Rc]) UB SX ?_ (by rw[put_defers];exact hd);rw[T4];refine hadv T9 θ θ m1 m' a1.tmps w1 w' cv v' I I.hθ I.hL (fun j oj hj hk hjf=>?_) Iff.rfl Sm SD hrx hgx;have hji:j≠i:=fun e=>by
     subst e;rw[hio]at hj;cases hj;rw[Se]at hk;cases hk
    rw[hne j hji];exact I.hS j oj hj hk hjf
   ·have Sp:cC io.k=false:=by simpa using Se
    have hheavy:∀ (j:Nat) (oj:bJ),l[j]? =some oj→cC oj.k=false→j < i→listed.getD j false=true:=fun j oj hj hk hji=>
     hahead j (by have:=(X1.1 hj).1;omega) (pS hmo hji hj hio (hrp hk) (hrp Sp) (hld hk) (hld Sp) T9)
    have hlate:∀ (j:Nat) (oj:bJ),l[j]? =some oj→cC oj.k=false→j≠f→i < j→listed.getD j false=false:=fun j oj hj hk hjf hij=>by
     cases hx:listed.getD j false with
     | false=>rfl
     | true=>
      have e3:=pS hmo hij hio hj (hrp Sp) (hrp hk) (hld Sp) (hld hk) hjf;have e4:=hcl j i hx hin e3;rw[R2]at e4;cases e4
    obtain⟨WW,m2,I1,hff⟩:∃WW m2,kG P l f df (.cells cf mu tl) T H m w listed WW m2 a1.tmps w1∧(f < WW↔f < i):=by
     by_cases hfi:f < i
     ·have XG:=hheavy f _ F.hf rfl hfi;by_cases hfθ:f < θ
      ·exact⟨θ,m1,I,Om⟩
      ·obtain⟨m2,I2⟩:=Wj listed θ m1 a1.tmps w1 I XG Om fun j oj hj hk hjf=>hheavy j oj hj hk Om
       exact⟨f+1,m2,I2,Om⟩
     ·refine⟨θ,m1,I,⟨fun h=>?_,fun h=>absurd h hfi⟩⟩;have:=(I.hS i io hio Sp T9).1 Om;rw[R2]at this;cases this
    have hHi:H WW=H i:=Ud WW i I1.hθ Om fun j oj hj hk=>by
     by_cases hjf:j=f
     ·subst hjf;exact hff
     ·constructor
      ·intro UQ;have SS:=(I1.hS j oj hj hk hjf).1 UQ;by_cases e1:j=i
       ·exact GJ
       ·by_cases e2:j < i
        ·exact e2
        ·exact z182
      ·intro hji;exact(I1.hS j oj hj hk hjf).2 (hheavy j oj hj hk hji)
    refine fq ho Q8 I1.hr.gv I1.hr (by rw[I1.dZ,hTl i Om]) (hslot WW m2 a1.tmps w1 I1 fun _ h2=>.inl Om) (by rw[hHi];exact bS) ro _ Q ?_;intro cv v' m' w' Sm SD hrx hgx;refine ih _ (i+1) m' (a1.put o.dst cv) w' (by simp[Rc]) UB SX ?_ (by rw[put_defers];exact hd);rw[T4];refine hadv T9 WW (i+1) m2 m' a1.tmps w1 w' cv v' I1 Om (by by_cases hc:i+1≤dD l;exact .inl hc;exact .inr ⟨i,io,hio,Sp,T9,Om,Om⟩) (fun j oj hj hk hjf=>?_) Om Sm SD hrx hgx;by_cases e1:j=i
    ·subst e1;exact⟨fun _=>hlt,fun _=>by omega⟩
    ·rw[hne j e1];constructor
     ·intro hji;exact hheavy j oj hj hk Om
     ·intro SS;by_cases e2:j < i
      ·omega
      ·exact z182
 have Q3:∀j,(Array.replicate ops.size false).getD j false=false:=fun j=>by
  exact Mr
 refine key ops.size (Array.replicate ops.size false) 0 m a _ Si ?_ (fun j x hj _ _=>by simp[Q3 j]at hj) ⟨YB _,.inl (YB _),(fun j oj hj hk _=>⟨fun hx=>absurd hx Om,fun hx=>by simp[Q3 j]at hx⟩),(fun hx=>absurd hx Om),st.hr.drew,(Grow.refl m _ w st.hr.cI).drew,?_,(fun d _=>nJ st.ts d),(fun d j o _ hj _ _=>by simp[Q3 j]at hj),fun hx=>by simp[Q3 f]at hx⟩ rfl
 ·exact Mw
 ·exact Di
def dU{P ops draw c}(h:ng P ops draw=some c):
  (∃l,c= .ops l∧(cK P ops draw=some l∨(draw=true∧(∃l',cK P ops draw=some l')∧∃cq,eG (fun _ o=>bP P ops (si cq o) o) ops.toList 0=some l∧nU (Region.before ops) l=true∧l.any mD=false)))∨
  (∃l,c= .sf l∧draw=true∧(∃l',cK P ops draw=some l')∧eG (fun _ o=>bP P ops false o) ops.toList 0=some l)∨
  (∃l,c= .lC l∧draw=true∧(∃l',cK P ops draw=some l')∧∃cq,eG (fun _ o=>bP P ops (si cq o) o) ops.toList 0=some l∧(nU (Region.before ops) l=true∨∃f,v8 ops l f=true∧rl (Region.before ops) l f=true)∧mX (Region.before ops) l=true):=by
 unfold ng at h;split at h
 ·cases h
 ·rename_i l hl;split at h
  ·rename_i hq;split at h
   ·rename_i l' l2 l3 Q7 hl2 XH;split at h
    ·rename_i hm;rw[YD,Zt]at hm;cases h;exact .inl ⟨l',rfl,.inr ⟨hq.2,⟨l,hl⟩,0,Q7,hm.1,hm.2⟩⟩
    ·split at h
     ·rename_i hm;rw[YD,Zt]at hm;cases h;exact .inl ⟨l2,rfl,.inr ⟨hq.2,⟨l,hl⟩,1,hl2,hm.1,hm.2⟩⟩
     ·split at h
      ·exact P1
      ·split at h
       ·split at h
        ·rename_i hm;rw[YD,YD]at hm;cases h;exact .inr (.inr ⟨l3,rfl,hq.2,⟨l,hl⟩,2,XH,.inl hm.1.2,hm.2⟩)
        ·cases h;exact .inr (.inl ⟨l',rfl,hq.2,⟨l,hl⟩,Q7⟩)
       ·split at h
        ·rename_i hm;rw[YD]at hm;cases h;exact .inr (.inr ⟨l3,rfl,hq.2,⟨l,hl⟩,2,XH,.inl hm.1,hm.2⟩)
        ·split at h
         ·exact P1
         ·cases h;exact .inl ⟨l,rfl,.inl hl⟩
   ·cases h
  ·cases h;exact .inl ⟨l,rfl,.inl hl⟩
def Marks(m:bY)(w:World)(lo:Nat)(ds:List Deferred):Prop:=
 ∃rs:List Nat,ds=rs.map (fun r=>({ target:=.collected r,args:=#[] }:Deferred))∧rs.Nodup∧∀r∈rs,lo≤r∧w.heap[r]? =some (.deferred (some []))∧∀b e,m b=some e→e.cb≠r
def Marks.nil(m:bY)(w:World)(lo:Nat):Marks m w lo []:=⟨[],rfl,Si,Si⟩
def Marks.grow{m m' h h' w w' lo ds}(k:Marks m w lo ds)(g:Grow m h w m' h' w')(hd:∀b e,m b=some e→b < h.length):Marks m' w' lo ds:=by
 obtain⟨rs,h1,h2,h3⟩:=k;refine⟨rs,h1,h2,fun r hr=>?_⟩;obtain⟨a,b,c⟩:=h3 r hr;have hlt:r < w.heap.size:=(Ym.1 b).1;refine⟨a,?_,?_⟩
 ·rw[g.frame r hlt (fun b e hb _=>c b e hb)];exact b
 ·intro b' e hb;by_cases hx:b' < h.length
  ·rw[g.ext b' hx]at hb;exact c b' e hb
  ·obtain⟨_,hc⟩:=g.new b' e Om hb;rcases hc with hc| ⟨b0,e0,c1,c2,_⟩
   ·omega
   ·rw[←c2];exact c b0 e0 c1
def Ev(P:Program)(ro:Option Nat)(c:ai)(ts:TS)(h:ah)(e:Ex)(ts':TS)(h':ah):Prop:=
 ∀cc,compile P cc=some c→∀ (m:bY) (a:Act) (w:World) (lo:Nat),lo≤w.heap.size→St P m ts h a w→Marks m w lo a.defers→∀Q:Exit→Act→World→Prop,
  (∀m' a' w',St P m' ts' h' a' w'→Grow m h w m' h' w'→Marks m' w' lo a'.defers→Q e.CB a' w')→cc.wpIn (Fd ro) 0 P Q a w
section
variable {P:Program} {b:Frame} {a:Act} {k:List Item} {cs:List Frame} {w:World} {Q:Exit→Act→World→Prop} {F:Fence} {n:Nat}
def fY{c}:step P (lone (b.atR a (.code (.scope c)::k)) cs w)= .next (lone (b.atR a (.code c:: .inScope c::k)) cs w):=
 step_lone_go (by simp[stepG,stepG.exec,Frame.atR])
def rZ{c}:step P (lone (b.atR a (.inScope c::k)) cs w)= .next (lone (b.atR a k) cs w):=
 step_lone_go (by simp[stepG,stepG.exec,Frame.atR])
def noGoto(Q:Exit→Act→World→Prop):Exit→Act→World→Prop
 | .goto _,_,_=>False
 | e,a,w=>Q e a w
def wK{c}(h:c.wpIn F n P (noGoto Q) a w): (Code.scope c).wpIn F n P Q a w:=by
 intro b k cs hro hb hr;have h0: (lone (b.atR a (.code (.scope c)::k)) cs w).fenced P F:=fenced_calm hb hr rfl;obtain⟨e,Va,Us,hq,RJ⟩:=h b (.inScope c::k) cs hro hb hr;cases e with
 | normal=>exact⟨.normal,Va,Us,hq,.head h0 fY (StepsIn.trans RJ (.one (fenced_calm hb hr rfl) rZ))⟩
 | exit id=>
  have hx:exitTo id (.inScope c::k)=exitTo id k:=by simp[exitTo]
  exact⟨.exit id,Va,Us,hq,fun k' hk=>.head h0 fY (RJ.1 k' (by rw[hx];exact hk)),
   fun hr' hk=>let ⟨k₁,h1,h2⟩:=RJ.2 hr' (by rw[hx];exact hk);⟨k₁,h1,.head h0 fY h2⟩⟩
 | goto l=>exact hq.elim
 | ret=>exact⟨.ret,Va,Us,hq,.of_steps (.one h0 fY) RJ⟩
 | panic ch=>exact⟨.panic ch,Va,Us,hq,.of_steps (.one h0 fY) RJ⟩
 | outgrown=>exact⟨.outgrown,Va,Us,hq,.of_steps (.one h0 fY) RJ⟩
end
section
variable {P:Program} {ro:Option Nat} {c x y:ai} {ts Sz ts':TS} {h h1 h':ah} {e:Ex}
def Ev.of (H:∀cc,(∀a,cc≠.scope a)→compile P cc=some c→∀ (m:bY) (a:Act) (w:World) (lo:Nat),lo≤w.heap.size→St P m ts h a w→Marks m w lo a.defers→∀Q:Exit→Act→World→Prop,
  (∀m' a' w',St P m' ts' h' a' w'→Grow m h w m' h' w'→Marks m' w' lo a'.defers→Q e.CB a' w')→cc.wpIn (Fd ro) 0 P Q a w):Ev P ro c ts h e ts' h':=by
 intro cc
 induction cc with
 | scope a ih=>
  intro hc m a w lo hlo st hm Q hQ;refine wK (ih (by simpa [compile]using hc) m a w lo hlo st hm _ fun m' a' w' s g k=>?_);cases e<;>exact hQ m' a' w' s g k
 | _=>intro hc;exact H _ Si hc
theorem Ev.skip:Ev P ro .skip ts h .normal ts h:=by
 refine Ev.of fun cc hns hc m a w lo hlo st hm Q hQ=>?_
 have hq:=hQ m a w st (Grow.refl m h w st.hr.cI) hm;cases cc with
 | skip=>exact wpIn_skip hq
 | label l=>exact wpIn_label hq
 | scope a=>exact absurd rfl (hns a)
 | region id ops draw=>rcases dU (by simpa only[compile]using hc)with⟨_,h1,_⟩| ⟨_,h1,_⟩| ⟨_,h1,_⟩<;>cases h1
 | block id a=>simp[compile]at hc
 | loop a=>simp[compile]at hc
 | _=>
  exact AP
theorem Ev.exit{id}:Ev P ro (.exit id) ts h (.exit id) ts h:=by
 refine Ev.of fun cc hns hc m a w lo hlo st hm Q hQ=>?_
 have hq:=hQ m a w st (Grow.refl m h w st.hr.cI) hm;cases cc with
 | exit We=>simp[compile]at hc;subst hc;exact wpIn_exit hq
 | scope a=>exact absurd rfl (hns a)
 | region id ops draw=>rcases dU (by simpa only[compile]using hc)with⟨_,h1,_⟩| ⟨_,h1,_⟩| ⟨_,h1,_⟩<;>cases h1
 | block id a=>simp[compile]at hc
 | loop a=>simp[compile]at hc
 | _=>
  exact AP
theorem Ev.ret:Ev P ro .ret ts h .ret ts h:=by
 refine Ev.of fun cc hns hc m a w lo hlo st hm Q hQ=>?_
 have hq:=hQ m a w st (Grow.refl m h w st.hr.cI) hm;cases cc with
 | ret=>exact wpIn_ret hq
 | scope a=>exact absurd rfl (hns a)
 | region id ops draw=>rcases dU (by simpa only[compile]using hc)with⟨_,h1,_⟩| ⟨_,h1,_⟩| ⟨_,h1,_⟩<;>cases h1
 | block id a=>simp[compile]at hc
 | loop a=>simp[compile]at hc
 | _=>
  exact AP
theorem Ev.ops(hmix:P.follows .mixedOrders=true){l}(hs:yp P l ts h ts' h'):Ev P ro (.ops l) ts h .normal ts' h':=by
 refine Ev.of fun cc hns hc m a w lo hlo st hm Q hQ=>?_
 cases cc with
 | region id ops draw=>
  rcases dU (by simpa only[compile]using hc)with⟨l',h1,hl⟩| ⟨_,h1,_⟩| ⟨_,h1,_⟩<;>cases h1
  rcases hl with hl| ⟨hd,⟨l2,hl2⟩,cq,hz,hmo,hld⟩
  case inr=>
   subst hd;simp only[cK,Ys]at hl2;split at hl2
   case isFalse=>cases hl2
   rename_i Rv;simp only[YD]at Rv;obtain⟨T,H,rfl,rfl,rfl,rfl,hrow⟩:=hs.row;rw[List.any_eq_false]at hld;exact qY hmix Rv.1 Rv.2 hz hmo hrow (fun i io hio hl=>absurd hl (hld io (YW hio))) (fun i j x y hx hl=>absurd hl (hld x (YW hx))) st ro Q (fun m' a' w' s g d=>hQ m' a' w' s g (by rw[d];exact hm.grow g st.hr.cI)) id
  cases draw with
  | false=>exact xQ hl hs st ro Q (fun m' a' w' s g d=>hQ m' a' w' s g (by rw[d];exact hm.grow g st.hr.cI)) id
  | true=>exact vi hmix hl hs st ro Q (fun m' a' w' s g d=>hQ m' a' w' s g (by rw[d];exact hm.grow g st.hr.cI)) id
 | scope a=>exact absurd rfl (hns a)
 | block id a=>simp[compile]at hc
 | loop a=>simp[compile]at hc
 | _=>
  exact AP
theorem Ev.lC(hmix:P.follows .mixedOrders=true){l T H}(hrow:Row P l T H)(hstab:∀ (i:Nat) (io:bJ),l[i]? =some io→mD io=true→∀θ,θ≤dD l→dx P io (T i) (H θ) (T (i+1)) (H θ)):Ev P ro (.lC l) (T 0) (H 0) .normal (T l.length) (H l.length):=by
 refine Ev.of fun cc hns hc m a w lo hlo st hm Q hQ=>?_
 cases cc with
 | region id ops draw=>
  rcases dU (by simpa only[compile]using hc)with⟨_,h1,_⟩| ⟨_,h1,_⟩| ⟨l',h1,hd,⟨l2,hl2⟩,cq,hz,hmo,hlo⟩<;>cases h1
  subst hd;simp only[cK,Ys]at hl2;split at hl2
  case isFalse=>cases hl2
  rename_i Rv;simp only[YD]at Rv;rcases hmo with hmo| ⟨f,Um,TE⟩
  case inr=>exact xR hmix Rv.1 Rv.2 hz Um TE hrow hstab (fun i j x y a1 a2 a3 a4 a5=>pX hlo a1 a2 a3 a4 a5) st ro Q (fun m' a' w' s g d=>hQ m' a' w' s g (by rw[d];exact hm.grow g st.hr.cI)) id
  exact qY hmix Rv.1 Rv.2 hz hmo hrow hstab (fun i j x y a1 a2 a3 a4 a5=>pX hlo a1 a2 a3 a4 a5) st ro Q (fun m' a' w' s g d=>hQ m' a' w' s g (by rw[d];exact hm.grow g st.hr.cI)) id
 | scope a=>exact absurd rfl (hns a)
 | block id a=>simp[compile]at hc
 | loop a=>simp[compile]at hc
 | _=>
  exact AP
theorem Ev.seq(hx:Ev P ro x ts h .normal Sz h1)(hy:Ev P ro y Sz h1 e ts' h'):Ev P ro (.seq x y) ts h e ts' h':=by
 refine Ev.of fun cc hns hc m a w lo hlo st hm Q hQ=>?_
 cases cc with
 | seq ca cb=>
  simp only[compile]at hc;split at hc
  case h_2=>cases hc
  rename_i x' y' RD hcb;cases hc;refine wpIn_seq (hx ca RD m a w lo hlo st hm _ fun m1 a1 w1 s1 g1 k1=>?_);exact hy cb hcb m1 a1 w1 lo (YQ hlo g1.size) s1 k1 Q fun m2 a2 w2 s2 g2 k2=>hQ m2 a2 w2 s2 (g1.trans g2 st.hr.cI) k2
 | scope a=>exact absurd rfl (hns a)
 | region id ops draw=>rcases dU (by simpa only[compile]using hc)with⟨_,h1,_⟩| ⟨_,h1,_⟩| ⟨_,h1,_⟩<;>cases h1
 | block id a=>simp[compile]at hc
 | loop a=>simp[compile]at hc
 | _=>
  exact AP
def Ev.vc(hx:Ev P ro x ts h e ts' h')(hne:e≠.normal):Ev P ro (.seq x y) ts h e ts' h':=by
 refine Ev.of fun cc hns hc m a w lo hlo st hm Q hQ=>?_
 cases cc with
 | seq ca cb=>
  simp only[compile]at hc;split at hc
  case h_2=>cases hc
  rename_i x' y' RD hcb;cases hc;refine wpIn_seq (hx ca RD m a w lo hlo st hm _ fun m1 a1 w1 s1 g1 k1=>?_);have:=hQ m1 a1 w1 s1 g1 k1;cases e<;>first| exact absurd rfl hne| exact this
 | scope a=>exact absurd rfl (hns a)
 | region id ops draw=>rcases dU (by simpa only[compile]using hc)with⟨_,h1,_⟩| ⟨_,h1,_⟩| ⟨_,h1,_⟩<;>cases h1
 | block id a=>simp[compile]at hc
 | loop a=>simp[compile]at hc
 | _=>
  exact AP
def yP{o c}(hc:D0 o=some c):cP o=some c∧MB P o=true:=by
 cases o<;>first| exact⟨hc,rfl⟩| cases hc
def BW{m a w}(st:St P m ts h a w){o c}(hc:D0 o=some c):VR m (val ts c) (a.eval o):=
 y7 st.hr.gv (yP (P:=P) hc).1 (yP (P:=P) hc).2 (fun t _=>nJ st.ts t)
theorem Ev.cond{c b}(hb:val ts c= .bool b)(hx:Ev P ro (if b then x else y) ts h e ts' h'):Ev P ro (.cond c x y) ts h e ts' h':=by
 refine Ev.of fun cc hns hc m a w lo hlo st hm Q hQ=>?_
 cases cc with
 | cond o ca cb=>
  simp only[compile]at hc;split at hc
  case h_2=>cases hc
  rename_i c' x' y' hco RD hcb;cases hc;have hv:=BW st hco;rw[hb,VR]at hv;refine wpIn_cond hv ?_;cases b
  ·exact hx cb hcb m a w lo hlo st hm Q hQ
  ·exact hx ca RD m a w lo hlo st hm Q hQ
 | scope a=>exact absurd rfl (hns a)
 | region id ops draw=>rcases dU (by simpa only[compile]using hc)with⟨_,h1,_⟩| ⟨_,h1,_⟩| ⟨_,h1,_⟩<;>cases h1
 | block id a=>simp[compile]at hc
 | loop a=>simp[compile]at hc
 | _=>
  exact AP
def Ex.inBlock(id:Nat):Ex→Ex
 | .exit We=>if We=id then .normal else .exit We
 | e=>e
theorem Ev.block{id}(hx:Ev P ro x ts h e ts' h'):Ev P ro (.block id x) ts h (e.inBlock id) ts' h':=by
 refine Ev.of fun cc hns hc m a w lo hlo st hm Q hQ=>?_
 cases cc with
 | block We ca=>
  simp only[compile,Yr,ai.block.injEq]at hc;obtain⟨x',RD,rfl,rfl⟩:=hc;refine wpIn_block (hx ca RD m a w lo hlo st hm _ fun m' a' w' s g k=>?_);have:=hQ m' a' w' s g k;cases e with
  | normal=>exact this
  | ret=>exact this
  | exit i=>
   simp only[Ex.CB,Exit.inBlock];simp only[Ex.inBlock]at this;split
   ·rename_i hi;rw[Yh hi]at this;exact this
   ·rename_i hi;rw[Yd hi]at this;exact this
 | scope a=>exact absurd rfl (hns a)
 | region id ops draw=>rcases dU (by simpa only[compile]using hc)with⟨_,h1,_⟩| ⟨_,h1,_⟩| ⟨_,h1,_⟩<;>cases h1
 | loop a=>simp[compile]at hc
 | _=>
  exact AP
inductive tH (P:Program) (ro:Option Nat) (x:ai):TS→ah→Ex→TS→ah→Prop
 | out {ts:TS} {h:ah} {e:Ex} {ts':TS} {h':ah} (hx:Ev P ro x ts h e ts' h') (hne:e≠.normal):tH P ro x ts h e ts' h'
 | more {ts:TS} {h:ah} {Sz:TS} {h1:ah} {e:Ex} {ts':TS} {h':ah} (hx:Ev P ro x ts h .normal Sz h1) (hr:tH P ro x Sz h1 e ts' h'):tH P ro x ts h e ts' h'
theorem Ev.loop(hl:tH P ro x ts h e ts' h'):Ev P ro (.loop x) ts h e ts' h':=by
 refine Ev.of fun cc hns hc m a w lo hlo st hm Q hQ=>?_
 cases cc with
 | loop ca=>
  simp only[compile,Yr,ai.loop.injEq]at hc;obtain⟨x',RD,rfl⟩:=hc;intro b k cs hro hb hr;have key:∀ (m1:bY) (a1:Act) (w1:World),lo≤w1.heap.size→St P m1 ts h a1 w1→Marks m1 w1 lo a1.defers→(∀m' a' w',St P m' ts' h' a' w'→Grow m1 h w1 m' h' w'→Marks m' w' lo a'.defers→Q e.CB a' w')→
    ∃e a' w',Q e a' w'∧ArrivesIn (Machine.fenced P (Fd ro)) P (lone (b.atR a1 (.code ca:: .inLoop ca::k)) cs w1) b k cs e a' w':=by
   clear hQ st hm hlo
   induction hl with
   | out hx hne=>
    rename_i ts h e ts' h';intro m1 a1 w1 hlo s1 k1 hQ;obtain⟨e1,a2,w2,hq,RJ⟩:=hx ca RD m1 a1 w1 lo hlo s1 k1 (fun e1 a1 w1=>e1≠.normal∧Q e1 a1 w1) (fun m' a' w' s g k'=>⟨by cases e<;>first| exact absurd rfl hne| simp[Ex.CB],hQ m' a' w' s g k'⟩) b (.inLoop ca::k) cs hro hb hr;exact⟨e1,a2,w2,hq.2,.pass (x:=.inLoop ca) rfl (fun _ _=>.inl hq.1) RJ⟩
   | more hx hr' ih=>
    intro m1 a1 w1 hlo s1 k1 hQ;obtain⟨e1,a2,w2,hq,RJ⟩:=hx ca RD m1 a1 w1 lo hlo s1 k1 (fun e1 a2 w2=>e1= .normal∧∃m2,St P m2 _ _ a2 w2∧Grow m1 _ w1 m2 _ w2∧Marks m2 w2 lo a2.defers) (fun m' a' w' s g k'=>⟨rfl,m',s,g,k'⟩) b (.inLoop ca::k) cs hro hb hr;obtain⟨rfl,m2,s2,g2,k2⟩:=hq;obtain⟨e3,a3,w3,hq3,harr3⟩:=ih m2 a2 w2 (YQ hlo g2.size) s2 k2 (fun m' a' w' s g k'=>hQ m' a' w' s (g2.trans g s1.hr.cI) k');exact⟨e3,a3,w3,hq3,.of_steps (StepsIn.trans RJ (.one (fenced_calm hb hr rfl) stepR_inLoop)) harr3⟩
  obtain⟨e',a',w',hq,RJ⟩:=key m a w hlo st hm hQ;exact⟨e',a',w',hq,.of_steps (.one (fenced_calm hb hr rfl) stepR_loop) RJ⟩
 | scope a=>exact absurd rfl (hns a)
 | region id ops draw=>rcases dU (by simpa only[compile]using hc)with⟨_,h1,_⟩| ⟨_,h1,_⟩| ⟨_,h1,_⟩<;>cases h1
 | block id a=>simp[compile]at hc
 | _=>
  exact AP
end
def du(ts:TS)(h:ah):Nat×Option (Option Nat)→Option AV
 | (t,none)=>some (ts.getD t aA)
 | (a,some n)=>
  match dt (.load n (.c (ts.getD a aA))) (val ts) h with
  | some (v,_)=>some v
  | none=>none
def iL(ts:TS)(h:ah):List (Nat×Option (Option Nat))→Option (List AV)
 | []=>some []
 | r::rs=>
  match du ts h r,iL ts h rs with
  | some v,some vs=>some (v::vs)
  | _,_=>none
def cO(rs:List (Nat×Option (Option Nat)))(ts:TS)(h:ah):Option AV:=
 match iL ts h rs with
 | some [v]=>some v
 | some l=>some (.dL l)
 | none=>none
def aU(nt:Nat)(args:List AV):TS:=args++List.replicate (nt - args.length) aA
def Ex.leaves:Ex→Bool
 | .normal=>true
 | .ret=>true
 | _=>false
section
variable {P:Program} {m:bY} {h h':ah} {w:World} {v:AV}
def xG{ts a}(st:St P m ts h a w){r x}(hx:tS P r=some x)(hv:du ts h x=some v):
  ∃cv,(match r with
   | .tmp t=>(pure (a.tmps.getD t undef):Sem Value)
   | .cell b t=>do loadVar t (←asAddr (a.tmps.getD b undef))).run P w= .ok cv w∧VR m v cv:=by
 cases r with
 | tmp t=>cases hx;cases hv;exact⟨_,rfl,nJ st.ts t⟩
 | cell b t=>
  simp only[tS,Yr]at hx;obtain⟨n,hn,rfl⟩:=hx;simp only[du]at hv;split at hv
  case h_2=>cases hv
  rename_i v' h' hf;cases hv;obtain⟨cv,h1,h2,_⟩:=BB (P:=P) (ρ:=val ts) hn st.hr (a:=.c (ts.getD b aA)) (nJ st.ts b) hf;refine⟨cv,?_,h2⟩;simp only[dt,val]at hf;split at hf
  case h_2=>cases hf
  rename_i b' o' hb';have hs:=nJ st.ts b;rw[hb',VR]at hs;obtain⟨e,_,he⟩:=hs;simp only[he]at h1 ⊢
  simpa [Instr.loadAt,Instr.sureAddr,asAddr]using h1
theorem pO{ts:TS}{a:Act}(st:St P m ts h a w):∀{rs:List ResultVar} {xs:List (Nat×Option (Option Nat))} {vs:List AV},rs.mapM (tS P)=some xs→iL ts h xs=some vs→
  ∃Tn,(rs.mapM (m:=Sem) fun
   | .tmp t=>pure (a.tmps.getD t undef)
   | .cell b t=>do loadVar t (←asAddr (a.tmps.getD b undef))).run P w= .ok Tn w∧cH m vs Tn
 | [],xs,vs,hx,hv=>by
  simp at hx;subst hx;cases hv;exact⟨[],rfl,bB.2 rfl⟩
 | r::rs,xs,vs,hx,hv=>by
  simp only[aat,aae,aaA]at hx;cases hr:tS P r with
  | none=>simp[hr]at hx
  | some x=>
   cases hrs:rs.mapM (tS P)with
   | none=>simp[hr,hrs]at hx
   | some xs'=>
    simp[hr,hrs]at hx;subst hx;simp only[iL]at hv;split at hv
    case h_2=>cases hv
    rename_i v vs' h1 h2;cases hv;obtain⟨cv,hc,QZ⟩:=xG st hr h1;obtain⟨Tn,Tp,hvrs⟩:=pO st hrs h2;refine⟨cv::Tn,?_,aR.2 ⟨cv,Tn,rfl,QZ,hvrs⟩⟩;rw[aat,Yq];have Sk:=hc;cases r<;>(simp only at Sk ⊢;rw[Sk];simp only[Yf,Yq,Tp,YG])
def ve{ts:TS}{a:Act}(st:St P m ts h a w){fn:Func}{xs:List (Nat×Option (Option Nat))}(hx:fn.results.toList.mapM (tS P)=some xs)(hv:cO xs ts h=some v):
  ∃cv,(results fn a.tmps).run P w= .ok cv w∧VR m v cv:=by
 unfold cO at hv;have key:∀{vs:List AV},iL ts h xs=some vs→∃Tn:List Value,(results fn a.tmps).run P w= .ok (if h:Tn.length=1 then Tn[0]else .tuple ⟨Tn⟩) w∧cH m vs Tn:=by
  intro vs RQ;obtain⟨Tn,h1,h2⟩:=pO st hx RQ;refine⟨Tn,?_,h2⟩;unfold results;rw[Array.mapM_eq_mapM_toList,Yq];simp only[map_eq_pure_bind,Yq];have h1':=h1
  erw [h1']
  simp only[Yf,YG];by_cases hc:Tn.length=1
  ·simp[hc]
  ·simp[hc]
 split at hv
 ·rename_i v' RQ;cases hv;obtain⟨Tn,h1,h2⟩:=key RQ;obtain⟨y,ys,rfl,hy,hys⟩:=aR.1 h2;rw[bB]at hys;subst hys;exact⟨y,by simpa using h1,hy⟩
 ·rename_i l hno RQ;cases hv;obtain⟨Tn,h1,h2⟩:=key RQ;have hlen:Tn.length≠1:=by
   rw[h2.length];intro hl;obtain⟨z,hz⟩:=List.length_eq_one_iff.1 hl;exact hno z hz
  rw[dif_neg hlen]at h1;exact⟨_,h1,⟨Tn,rfl,h2⟩⟩
 ·cases hv
theorem nV{fn xs}(hx:fn.results.toList.mapM (tS P)=some xs){ts}(hv:cO xs ts h' =some v){m0 h0 w0 lo}(hlo:w0.heap.size≤lo):
  ∀ (ds:List Deferred) (m:bY) (a:Act) (w:World),St P m ts h' a w→Grow m0 h0 w0 m h' w→Marks m w lo ds→LeavesInM Fence.wide 0 P fn a.tmps (Rel P m0 h0 w0 v h') ds .returning w
 | [],m,a,w,st,g,_=>by
  obtain⟨cv,h1,h2⟩:=ve st hx hv;exact⟨cv,h1,cv,m,rfl,h2,st.hr,g⟩
 | d::ds,m,a,w,st,g,k=>by
  obtain⟨rs,h1,h2,h3⟩:=k;cases rs with
  | nil=>simp at h1
  | cons r rs=>
   simp only[YY,List.cons.injEq]at h1;obtain⟨rfl,rfl⟩:=h1;obtain⟨hl,hh,hm⟩:=h3 r Si;have hoth:∀i,i≠r→(w.putObj r (.deferred none)).heap[i]? =w.heap[i]? :=fun i hi=>World.putObj_heap_other hi
   refine⟨Si,.inl ⟨r,_,rfl,run_takeDeferred hh,?_⟩⟩;refine nV hx hv hlo _ m a _ ⟨⟨st.hr.cI,fun b e k hb hk=>(st.hr.dP b e k hb hk).heap (hoth _ (hm b e hb)),st.hr.sep,st.hr.fV,fun b e hb=>by simpa using st.hr.lt b e hb⟩,st.ts⟩
    ⟨g.ext,g.len,g.new,g.tl,by simpa using g.size,g.os,g.out,g.tape,fun i hi hno=>?_⟩ ⟨rs,rfl,(aaB.1 h2).2,fun r' hr'=>?_⟩
   ·rw[hoth i Om];exact g.frame i hi hno
   ·obtain⟨c1,c2,c3⟩:=h3 r' (YI _ hr');refine⟨c1,?_,c3⟩;rw[hoth r' (fun x=>(aaB.1 h2).1 (x▸hr'))];exact c2
def gB{f A}(hA:bQ P f=some A):∃fn c,P.funcs[f]? =some fn∧fn.body=some c∧compile P c=some A.body∧fn.results.toList.mapM (tS P)=some A.rs∧fn.ntmps=A.nt∧(fn.name== "runtime.NumGoroutine")=false:=by
 unfold bQ at hA;split at hA
 case h_1=>cases hA
 rename_i fn hf;split at hA
 case h_1=>cases hA
 rename_i c hb;split at hA
 case h_2=>cases hA
 rename_i b rs hc hr;split at hA
 case isTrue=>cases hA
 rename_i hn;cases hA;exact⟨fn,c,hf,hb,hc,hr,rfl,by simpa using hn⟩
def lO.KH{f A}(hA:bQ P f=some A){args e ts'}(hev:Ev P none A.body (aU A.nt args) h e ts' h')(he:e.leaves=true)(hv:cO A.rs ts' h' =some v):lO P f args h v h':=by
 intro m w vs hr hargs;obtain⟨fn,c,hf,hb,hc,hres,hnt,_⟩:=gB hA;rw[←callsIn_wide (n:=0)];refine callsIn_of_wp_marks hf hb trivial ?_;refine hev c hc m _ w w.heap.size (Yg _) ⟨hr,?_⟩ (Marks.nil m w _) _ ?_
 ·have: ((⟨vs⟩:Array Value)++Array.replicate (fn.ntmps - (⟨vs⟩:Array Value).size) undef).toList=vs++List.replicate (A.nt - args.length) undef:=by
   rw[hnt];simp[hargs.length]
  rw[this];refine cH.append hargs (cH.gO Si fun i x hx=>?_);rw[List.getElem?_replicate]at hx ⊢;split at hx
  ·rename_i hlt;cases hx;rw[Yh hlt];exact⟨undef,rfl,jK m⟩
  ·cases hx
 ·intro m' a' w' s g k;have:=nV hres hv (Yg _) a'.defers m' a' w' s g k;cases e<;>first| exact this| cases he
def fg.yR{f A}(hA:bQ P f=some A){a c args}(hs:lO P f (a++args++c) h v h'):fg P (.func (.func f) a c) args h v h':=by
 intro m w cv vs hr hf hargs;rw[VR]at hf;obtain⟨f',a',c',rfl,hfn,ha,hc⟩:=hf;simp only[AE]at hfn;subst hfn;refine⟨_,fun w=>rfl,?_⟩;obtain⟨fn,cc,hfn,hb,_,_,_,hn⟩:=gB hA;simp only[invoke];rw[ka hfn (by rw[hb];rfl) hn];show CallsIn Fence.wide 0 P f _ w _;rw[callsIn_wide];have:=hs m w (a'++vs++c') hr (cH.append (cH.append ha hargs) hc)
 simpa using this
def iD(P:Program)(u:TypeId)(name:String):Option FuncId:=
 match P.info? u,P.underlying u with
 | some i,some d=>
  match i.methods.find? (·.name==name)with
  | some m=>
   match m.path.toList,m.func,d with
   | [],some (_,false),.pointer _=>none
   | [],some (f,false),_=>some f
   | _,_,_=>none
  | none=>none
 | _,_=>none
def xB{u:TypeId}{name f}(hm:iD P u name=some f)(n:Nat)(v:Value)(w:World): (method (n+1) u v name).run P w= .ok (f,v) w:=by
 unfold iD at hm;split at hm
 case h_2=>cases hm
 rename_i i d hi hd;split at hm
 case h_2=>cases hm
 rename_i mm Ti;split at hm
 case h_3=>cases hm
 case h_1=>cases hm
 rename_i f' hp hfn hnp;cases hm;have hti: (typeInfo u).run P w= .ok i w:=by simp[typeInfo,hi]
 rw[method];simp only[Yq,hti,Yf,Ti,hp,follow,YG,hfn];have Ro:∀wr,(receiverAt u (.val v) false wr).run P w= .ok v w:=by
  intro wr;unfold receiverAt;simp only[Yq,Yn hd,Yf];rfl
 simp only[Ro,Yf]
def fg.D1{u:TypeId}{name f A}(hm:iD P u name=some f)(hA:bQ P f=some A){a args}(hs:lO P f (a::args) h v h'):fg P (.func (.method name) [] []) (.qh u a::args) h v h':=by
 intro m w cv vs hr hf hargs;rw[VR]at hf;obtain⟨f',a',c',rfl,hfn,ha,hc⟩:=hf;simp only[AE]at hfn;subst hfn;rw[bB]at ha hc;subst ha;subst hc;obtain⟨x,vs,rfl,hx,RQ⟩:=aR.1 hargs;rw[VR]at hx;obtain⟨v',rfl,hx⟩:=hx;refine⟨_,fun w=>rfl,?_⟩;obtain⟨fn,cc,hfn,hb,_,_,_,hn⟩:=gB hA;have e0: ((#[]++ (⟨.iface u v'::vs⟩:Array Value)):Array Value)[0]? =some (.iface u v'):=Si
 have e1: ((#[]++ (⟨.iface u v'::vs⟩:Array Value)):Array Value).extract 1 ((#[]++ (⟨.iface u v'::vs⟩:Array Value)):Array Value).size= ⟨vs⟩:=by
  apply aaw;simp
 simp only[invoke,e0,e1,callMethod,Yq,program];have hmt:=xB hm (P.types.size+Made.depth - 1) v' w;have hdep:0 < Made.depth:=De
 have hne:P.types.size+Made.depth - 1+1=P.types.size+Made.depth:=Om
 rw[hne]at hmt;show Da P (Rel P m h w v h') ((Result.ok P w).andThen fun a w'=>(Sem.run P (method (a.types.size+Made.depth) u v' name) w').andThen fun a w'=>Sem.run P (callFunc a.fst (#[a.snd]++ ⟨vs⟩)) w');simp only[Yf,hmt];rw[ka hfn (by rw[hb];rfl) hn];show CallsIn Fence.wide 0 P f _ w _;rw[callsIn_wide];have:=hs m w (v'::vs) hr (aR.2 ⟨_,_,rfl,hx,RQ⟩);have e2: (#[v']++ (⟨vs⟩:Array Value))= ⟨v'::vs⟩:=by apply aaw;simp
 rw[e2];exact this
end
def setArgs:TS→List Nat→List AV→TS
 | ts,p::ps,v::vs=>setArgs (ts.set p v) ps vs
 | ts,_,_=>ts
section
variable {P:Program} {m:bY} {h h':ah} {w:World} {v:AV}
def HR.aside(hr:HR P m h w)(o:Obj):HR P m h (w.alloc o):=
 ⟨hr.cI,fun b e k hb hk=>(hr.dP b e k hb hk).heap (Go.RowKit.Below.heap_alloc w o _ (hr.lt b e hb)),hr.sep,hr.fV,fun b e hb=>by have:=hr.lt b e hb;simp;omega⟩
def Grow.aside(hr:HR P m h w)(o:Obj):Grow m h w m h (w.alloc o):=
 ⟨fun _ _=>rfl,Yg _,fun b e hb he=>absurd (hr.cI b e he) Om,fun _ _ h=>h,Si,rfl,rfl,rfl,fun i hi _=>Go.RowKit.Below.heap_alloc w o i hi⟩
theorem pM:∀{ps} {args} {ts} {tmps} {vs},cH m ts tmps.toList→cH m args vs→cH m (setArgs ts ps args) ((ps.zip vs).foldl (fun(t:Array Value) (p:Nat×Value)=>t.setIfInBounds p.1 p.2) tmps).toList
 | [],_,_,_,_,ht,_=>by simpa [setArgs]using ht
 | p::ps,[],ts,tmps,vs,ht,ha=>by rw[bB]at ha;subst ha;simpa [setArgs]using ht
 | p::ps,x::args,ts,tmps,vs,ht,ha=>by
  obtain⟨y,ys,rfl,hy,hys⟩:=aR.1 ha;simp only[List.zip_cons_cons,Z9,setArgs];exact pM (by rw[Array.toList_setIfInBounds];exact ht.set p hy) hys
theorem fg.yield{l ex ex2 ex4 e ts Uf ts3 tb tc ps pb pc asg body ab ac bb bc h2 h4 args st4}
  (hl:h[l]? =some (.loop .ready ex ts ps asg body)) (hlen:args.length=ps.length)
  (hasg:∀r,Ev P (some r) asg (setArgs ts ps args) h .normal Uf h2) (hl2:h2[l]? =some (.loop .ready ex2 tb pb ab bb))
  (hbody:∀r,Ev P (some r) body Uf (h2.set l (.loop .busy ex2 tb pb ab bb)) e ts3 h4) (hl4:h4[l]? =some (.loop st4 ex4 tc pc ac bc)):
  fg P (.func (.yield l) [] []) args h (.bool (decide (e= .normal))) (h4.set l (.loop (if e= .normal then .ready else .done) e tc pc ac bc)):=by
 intro m w cv vs hr hf hargs;rw[VR]at hf;obtain⟨f',a',c',rfl,hfn,ha,hc⟩:=hf;rw[bB]at ha hc;subst ha;subst hc;obtain⟨el,UY,rfl⟩:=hfn;refine⟨_,fun w=>rfl,?_⟩;obtain⟨hown,fn,tmps,RU,Rl,df,hh,QV,RD,hcb⟩:=hr.dP l el _ UY hl;have hy:=run_yield (P:=P) (args:=(#[]++ ⟨vs⟩:Array Value)) hh (by simp[hargs.length,hlen]);simp only[invoke];rw[hy];show RoundIn Fence.wide 0 P el.cb fn _ RU Rl w _;refine roundIn_of_wpIn trivial ?_;have Tb:cH m (setArgs ts ps args) (((⟨ps⟩:Array Tmp).zip (#[]++ ⟨vs⟩:Array Value)).foldl (fun tmps (t,a)=>tmps.setIfInBounds t a) tmps).toList:=by
  have:=pM (ps:=ps) QV hargs;rw[←Array.foldl_toList,Array.toList_zip]
  simpa using this
 refine hasg el.cb RU RD m _ w w.heap.size (Yg _) ⟨hr,Tb⟩ (Marks.nil m w _) _ fun m1 a1 w1 s1 g1 k1=>?_
 have VP:m1 l=some el:=by rw[g1.ext l (hr.cI _ _ UY)];exact UY
 obtain⟨_,fn2,V6,WN,U8,df2,hh2,hts2,hca2,hcb2⟩:=s1.hr.dP l el _ VP hl2;refine⟨_,run_beginRound hh2 rfl,?_⟩;have hlt1:el.cb < w1.heap.size:=s1.hr.lt _ _ VP;obtain⟨R7,g2⟩:=jN s1.hr (o:=.loop { state:=.busy,pending:=ex2.jump,fn:=fn2,tmps:=V6,params:=⟨pb⟩,assign:=WN,body:=U8,defers:=df2 }) VP hl2 rfl (k':=.loop .busy ex2 tb pb ab bb) (.inl rfl)
  ⟨hown,fn2,V6,WN,U8,df2,World.putObj_heap_same hlt1,hts2,hca2,hcb2⟩
 refine hbody el.cb Rl hcb m1 a1 _ w.heap.size (YQ g1.size g2.size) ⟨R7,s1.ts⟩ (k1.grow g2 s1.hr.cI) _ fun m2 a2 w3 s2 g3 k2=>?_
 have hl2':l < h2.length:=(X1.1 hl2).1;have XQ:m2 l=some el:=by rw[g3.ext l (by simpa using hl2')];exact VP
 obtain⟨_,fn4,V5,WJ,U7,df4,hh4,hts4,hca4,hcb4⟩:=s2.hr.dP l el _ XQ hl4;have R1:el.cb < w3.heap.size:=s2.hr.lt _ _ XQ;have fin:∀j:Option Code,j=e.jump→∃v w',(Instr.endRound el.cb j).run P w3= .ok v w'∧Rel P m h w (.bool (decide (e= .normal))) (h4.set l (.loop (if e= .normal then .ready else .done) e tc pc ac bc)) (.returned v) w':=by
  rintro j rfl;obtain⟨hr4,g4⟩:=jN s2.hr (o:=.loop { state:=if e= .normal then .ready else .done,pending:=e.jump,fn:=fn4,tmps:=V5,params:=⟨pc⟩,assign:=WJ,body:=U7,defers:=df4 }) XQ hl4 rfl
   (k':=.loop (if e= .normal then .ready else .done) e tc pc ac bc) (.inl rfl) ⟨hown,fn4,V5,WJ,U7,df4,World.putObj_heap_same R1,hts4,hca4,hcb4⟩
  refine⟨_,_,run_endRound e.jump hh4,.bool (decide (e= .normal)),m2,?_,rfl,?_,?_⟩
  ·cases e<;>rfl
  ·have: (if e.jump.isNone=true then LoopState.ready else .done)=if e= .normal then .ready else .done:=by cases e<;>rfl
   simp only[this];exact hr4
  ·have: (if e.jump.isNone=true then LoopState.ready else .done)=if e= .normal then .ready else .done:=by cases e<;>rfl
   simp only[this];exact((g1.trans g2 hr.cI).trans g3 hr.cI).trans g4 hr.cI
 cases e with
 | normal=>exact fin none rfl
 | exit id=>exact fin (some (.exit id)) rfl
 | ret=>exact fin (some .ret) rfl
theorem Ev.eJ{g ps ps' asg body asg' body' ts ts' f A a c h2 st ex}(hA:bQ P f=some A)(hg:val ts g= .func (.func f) a c)
  (hs:lO P f (a++ [.func (.yield h.length) [] []]++c) (h++ [.loop .ready .normal ts ps asg body]) v h2) (hl:h2[h.length]? =some (.loop st ex ts' ps' asg' body')) (bS:st≠.busy):
  Ev P none (.eJ g ps asg body) ts h ex ts (h2.set h.length .dead):=by
 refine Ev.of fun cc hns Uo m act w lo hlo s hm Q hQ=>?_
 cases cc with
 | rangeFunc og cps RU Rl=>
  simp only[compile]at Uo;split at Uo
  case h_2=>cases Uo
  rename_i g' x' y' hgo RD hcb;cases Uo;have hv:=BW s hgo;rw[hg,VR]at hv;obtain⟨f',ca,RE,hev,hfn,ha,hc⟩:=hv;simp only[AE]at hfn;subst hfn;obtain⟨W1,TL⟩:∃W1,w.alloc (.deferred (some []))=W1:=⟨_,rfl⟩;have hsz1:W1.heap.size=w.heap.size+1:=by rw[←TL];simp
  have hr1:HR P m h W1:=by rw[←TL];exact s.hr.aside _
  have g1:Grow m h w m h W1:=by rw[←TL];exact Grow.aside s.hr _
  have Uq:W1.heap[w.heap.size]? =some (.deferred (some [])):=by rw[←TL];exact World.alloc_heap_new w _
  refine wpIn_rangeFunc fun fn _=>?_
  obtain⟨rec,Ro⟩:∃rec:Loop,rec={ state:=.ready,pending:=none,fn:=fn,tmps:=act.tmps,params:=cps,assign:=RU,body:=Rl,defers:=w.heap.size }:=⟨_,rfl⟩;obtain⟨R7,g2⟩:=jZ hr1 (.loop rec) (.loop .ready .normal ts cps.toList asg body) ⟨W1.heap.size,0,0,true⟩ rfl rfl (fun m' hm'=>⟨rfl,fn,act.tmps,RU,Rl,w.heap.size,by rw[Ro];exact World.alloc_heap_new W1 _,cH.mono hm' _ _ s.ts,RD,hcb⟩);have hloc: (m.add h.length ⟨W1.heap.size,0,0,true⟩) h.length=some ⟨W1.heap.size,0,0,true⟩:=by simp[bY.add]
  have hle:m.le (m.add h.length ⟨W1.heap.size,0,0,true⟩):=g2.le s.hr.cI;have UX:=run_enterLoop_outer (P:=P) (w:=w) fn act.tmps cps RU Rl;rw[TL,←Ro]at UX;obtain⟨ffn,fcode,hffn,hfb,_,_,_,XN⟩:=gB hA;have hmk:Marks (m.add h.length ⟨W1.heap.size,0,0,true⟩) (W1.alloc (.loop rec)) lo ([{ target:=.collected w.heap.size,args:=#[] }]++act.defers):=by
   obtain⟨rs,k1,k2,k3⟩:=(hm.grow g1 s.hr.cI).grow g2 s.hr.cI;refine⟨w.heap.size::rs,by rw[k1];rfl,aaB.2 ⟨fun hin=>?_,k2⟩,fun r hr'=>?_⟩
   ·obtain⟨rs0,j1,j2,j3⟩:=hm;have hrs:rs0=rs:=by
     have:rs0.map (fun r=>({ target:=.collected r,args:=#[] }:Deferred))=rs.map (fun r=>({ target:=.collected r,args:=#[] }:Deferred)):=by rw[←j1,k1]
     exact List.map_inj_right (fun x y hxy=>by simpa using hxy) |>.1 this
    subst hrs;have:=(Ym.1 (j3 _ hin).2.1).1;omega
   ·rcases YH.1 hr' with rfl| hr'
    ·refine⟨hlo,(Go.RowKit.Below.heap_alloc W1 _ _ Om).trans Uq,fun b e hb=>?_⟩;unfold bY.add at hb;split at hb
     ·cases hb;show W1.heap.size≠_;omega
     ·have:=s.hr.lt b e hb;omega
    ·exact k3 r hr'
  refine⟨w.heap.size+1,_,W1.alloc (.loop rec),{ target:=.fn (.func f) ⟨RE⟩,args:=⟨ca⟩++#[.func (.yield (w.heap.size+1)) #[] #[]] },W1.alloc (.loop rec),f,(⟨ca⟩++#[.func (.yield (w.heap.size+1)) #[] #[]])++ ⟨RE⟩,W1.alloc (.loop rec),
   UX,?_,fun _ _=>trivial,?_,fun hd=>by simp[Fd,Fence.wide]at hd,?_⟩
  ·have UN: (#[Operand.const (.func (.yield (w.heap.size+1)) #[] #[])] :Array Operand).map act.eval=#[.func (.yield (w.heap.size+1)) #[] #[]]:=by simp[Act.eval]
   simp only[resolve,hev,rangeCall,UN];rfl
  ·simp only[invoke];exact ka hffn (by rw[hfb];rfl) XN
  ·have hargs:cH (m.add h.length ⟨W1.heap.size,0,0,true⟩) (a++ [.func (.yield h.length) [] []]++c) (ca++ [.func (.yield (w.heap.size+1)) #[] #[]]++RE):=by
    refine cH.append (cH.append (cH.mono hle _ _ ha) (aR.2 ⟨_,[],rfl,⟨_,[],[],rfl,⟨_,hloc,by rw[hsz1]⟩,rfl,rfl⟩,bB.2 rfl⟩)) (cH.mono hle _ _ hc)
   have Tl:=hs _ _ _ R7 hargs;rw[←callsIn_wide (n:=0)]at Tl;have XT:CallsIn (Fd none) (0 - 1) P f ((⟨ca⟩++#[.func (.yield (w.heap.size+1)) #[] #[]])++ ⟨RE⟩) (W1.alloc (.loop rec)) (Rel P (m.add h.length ⟨W1.heap.size,0,0,true⟩) (h++ [.loop .ready .normal ts cps.toList asg body]) (W1.alloc (.loop rec)) v h2):=by
    have RJ: ((⟨ca⟩++#[.func (.yield (w.heap.size+1)) #[] #[]])++ ⟨RE⟩:Array Value)= ⟨ca++ [.func (.yield (w.heap.size+1)) #[] #[]]++RE⟩:=by apply aaw;simp
    rw[RJ];exact Tl
   refine XT.mono ?_;rintro e3 w3 ⟨cv,m3,rfl,hv3,hr3,g3⟩;have Wo:m3 h.length=some ⟨W1.heap.size,0,0,true⟩:=by rw[g3.ext h.length Si];exact hloc
   obtain⟨hown3,fn3,tmps3,casg3,XZ,df3,hh3,_⟩:=hr3.dP h.length _ _ Wo hl;simp only at hh3;have SV:=run_endLoop (P:=P) (l:=W1.heap.size) hh3 (by simpa using bS);obtain⟨hr4,g4⟩:=jN hr3 (o:=.loop { state:=.exhausted,pending:=ex.jump,fn:=fn3,tmps:=tmps3,params:=⟨ps'⟩,assign:=casg3,body:=XZ,defers:=df3 }) Wo hl rfl (k':=.dead) (.inr rfl) trivial;have Sv:=hQ m3 { act with defers:=[{ target:=.collected w.heap.size,args:=#[] }]++act.defers } _ ⟨hr4,cH.mono ((g2.trans g3 s.hr.cI).le s.hr.cI) _ _ s.ts⟩ (((g1.trans g2 s.hr.cI).trans g3 s.hr.cI).trans g4 s.hr.cI) ((hmk.grow g3 R7.cI).grow g4 hr3.cI);refine⟨ex.jump,_,by rw[←hsz1];exact SV,?_⟩
   cases ex with
   | normal=>exact Sv
   | exit id=>exact wpIn_exit Sv
   | ret=>exact wpIn_ret Sv
 | scope a=>exact absurd rfl (hns a)
 | region id ops draw=>rcases dU (by simpa only[compile]using Uo)with⟨_,h1,_⟩| ⟨_,h1,_⟩| ⟨_,h1,_⟩<;>cases h1
 | block id a=>simp[compile]at Uo
 | loop a=>simp[compile]at Uo
 | _=>
  simp only[compile]at Uo
  (repeat' split at Uo)
  all_goals cases Uo
end
inductive iA where
 | au
 | push (k:ak)
 | set (b:Nat) (k:ak)
 | nK (b:Nat) (k k':ak)
 deriving Inhabited
def iA.app:iA→ah→ah
 | .au,h=>h
 | .push k,h=>h++ [k]
 | .set b k,h=>h.set b k
 | .nK b k k',h=>h.set b k++ [k']
def ff(es:Nat)(G:Nat→Option ak):AV→Option (List AV×Nat)
 | .af=>some ([],0)
 | .slice b o n es'=>
  if es' =es then
   match G b with
   | some (.cells c _ _)=>if o+n * es≤c.length then some ((c.drop o).take (n * es),n)else none
   | _=>none
  else none
 | .str s=>if es=1 then some (s.map fun b=>.int .u8 b.toNat,s.length)else none
 | _=>none
def iO(lk:LK)(G:Nat→Option ak):AV→Option Nat
 | .str s=>if lk= .st then some s.length else none
 | .slice _ _ n _=>if lk= .sl then some n else none
 | .af=>if lk= .sl then some 0 else none
 | .map r=>
  match G r with
  | some (.bn es)=>if lk= .mp then some es.length else none
  | _=>none
 | .cQ=>if lk= .mp then some 0 else none
 | _=>none
def mG(k:zu)(x:AV)(G:Nat→Option ak)(N0:Nat):Option (AV×iA):=
 match k with
 | .uc k=>
  match x with
  | .int _ n=>some (.int k (k.wrap n),.au)
  | _=>none
 | .same=>
  match x with
  | .str s=>some (.str s,.au)
  | _=>none
 | .Ok k=>
  match x with
  | .int _ n=>some (.wG k (k.nearest n),.au)
  | _=>none
 | .OE k=>
  match x with
  | .wG s b=>
   match (s.decode b).toInt .zero with
   | some n=>if D5 s b=false∧k.min≤n∧n≤k.max then some (.int k n,.au)else none
   | none=>none
  | _=>none
 | .OF k=>
  match x with
  | .wG s b=>if s=k then some (.wG k b,.au)else none
  | _=>none
 | .qh u=>some (.qh u x,.au)
 | .I8=>
  match x with
  | .af=>some (.str [],.au)
  | .slice b o n es=>
   match ff 1 G (.slice b o n es)with
   | some (l,_)=>
    match l.mapM byteOf with
    | some r=>some (.str r,.au)
    | none=>none
   | none=>none
  | _=>none
 | .Nk=>
  match x with
  | .str s=>some (.slice N0 0 s.length 1,.push (.cells (s.map fun b=>.int .u8 b.toNat) true true))
  | _=>none
def mZ(k:oZ): (cT→AV)→(Nat→Option ak)→Nat→Option (AV×iA):=
 match k with
 | .aF x=>fun ρ G N0=>some (ρ x,.au)
 | .pick c a b=>fun ρ G N0=>
  match ρ c with
  | .bool t=>some (if t then ρ a else ρ b,.au)
  | _=>none
 | .box x=>fun ρ G N0=>if(ρ x).cells.all AV.one then some (.ptr N0 0,.push (.cells (ρ x).cells true false))else none
 | .nh n x=>fun ρ G N0=>if(ρ x).cells.all AV.one=true∧(ρ x).cells.length=n then some (.ptr N0 0,.push (.cells (ρ x).cells true false))else none
 | .build z ps=>fun ρ G N0=>
  match eF z (ps.map fun p=>(p.1,p.2.1,ρ p.2.2))with
  | some c=>some (.agg c,.au)
  | none=>none
 | .load n a=>fun ρ G N0=>
  match ρ a with
  | .ptr b o=>
   match G b with
   | some (.cells c _ _)=>
    match n with
    | none=>
     match c[o]? with
     | some x=>some (x,.au)
     | none=>none
    | some n=>if o+n≤c.length then some (.agg ((c.drop o).take n),.au)else none
   | _=>none
  | _=>none
 | .store n a x=>fun ρ G N0=>
  match ρ a with
  | .ptr b o=>
   match G b with
   | some (.cells c true tl)=>
    if(ρ x).cells.length=n∧(ρ x).cells.all AV.one=true∧o+n≤c.length then some (aA,.set b (.cells (fI c o (ρ x).cells) true tl))else none
   | _=>none
  | _=>none
 | .bt x=>fun ρ G N0=>
  match ρ x with
  | .ptr b o=>some (.ptr b o,.au)
  | .func (.func f) a c=>some (.func (.func f) a c,.au)
  | .func (.yield f) a c=>some (.func (.yield f) a c,.au)
  | .func (.methodOf t n) a c=>some (.func (.methodOf t n) a c,.au)
  | .func (.via t p f q) a c=>some (.func (.via t p f q) a c,.au)
  | _=>none
 | .bin op x y=>fun ρ G N0=>
  match dY op (ρ x) (ρ y)with
  | some v=>some (v,.au)
  | none=>none
 | .eqv neg t x y=>fun ρ G N0=>
  match pr t (ρ x) (ρ y)with
  | some b=>some (.bool (if neg then !b else b),.au)
  | none=>none
 | .un op x=>fun ρ G N0=>
  match wL op (ρ x)with
  | some v=>some (v,.au)
  | none=>none
 | .conv k x=>fun ρ G N0=>mG k (ρ x) G N0
 | .kQ f a c=>fun ρ G N0=>some (.func f (a.map ρ) (c.map ρ),.au)
 | .lE=>fun ρ G N0=>some (.map N0,.push (.bn []))
 | .sg es w z l c=>fun ρ G N0=>
  match ρ l,ρ c with
  | .int _ l,.int _ c=>
   if 0≤l∧l≤c∧(w:Int) * c≤2^48∧c < 2^63 then some (.slice N0 0 l.toNat es,.push (.cells (dK l.toNat z) true true))else none
  | _,_=>none
 | .sl es x lo hi=>fun ρ G N0=>
  match ρ x with
  | .slice b o n es'=>
   if es' =es then
    match iR (lo.map ρ) (hi.map ρ) n with
    | some (l,h')=>some (.slice b (o+l * es) (h' - l) es,.au)
    | none=>none
   else none
  | .af=>
   match iR (lo.map ρ) (hi.map ρ) 0 with
   | some _=>some (.af,.au)
   | none=>none
  | _=>none
 | .pL x lo hi=>fun ρ G N0=>
  match ρ x with
  | .str s=>
   match iR (lo.map ρ) (hi.map ρ) s.length with
   | some (l,h')=>some (.str ((s.drop l).take (h' - l)),.au)
   | none=>none
  | _=>none
 | .Mz k es x lo hi=>fun ρ G N0=>
  match ρ x with
  | .ptr b o=>
   match G b with
   | some (.cells c _ _)=>
    if o+k * es≤c.length then
     match iR (lo.map ρ) (hi.map ρ) k with
     | some (l,h')=>some (.slice b (o+l * es) (h' - l) es,.au)
     | none=>none
    else none
   | _=>none
  | _=>none
 | .aP off x=>fun ρ G N0=>
  match ρ x with
  | .ptr b o=>some (.ptr b (o+off),.au)
  | _=>none
 | .aS es x i=>fun ρ G N0=>
  match ρ x,ρ i with
  | .slice b o n es',.int _ i=>if es' =es∧0≤i∧i < n then some (.ptr b (o+i.toNat * es),.au)else none
  | _,_=>none
 | .sj len es x i=>fun ρ G N0=>
  match ρ x,ρ i with
  | .ptr b o,.int _ i=>if 0≤i∧i < len then some (.ptr b (o+i.toNat * es),.au)else none
  | _,_=>none
 | .part n off x=>fun ρ G N0=>
  match ρ x with
  | .agg cs=>
   match n with
   | none=>
    match cs[off]? with
    | some v=>some (v,.au)
    | none=>none
   | some n=>some (.agg ((cs.drop off).take n),.au)
  | _=>none
 | .I6 len es n x i=>fun ρ G N0=>
  match ρ x,ρ i with
  | .agg cs,.int _ i=>
   if 0≤i∧i < len then
    match n with
    | none=>
     match cs[i.toNat * es]? with
     | some v=>some (v,.au)
     | none=>none
    | some n=>some (.agg ((cs.drop (i.toNat * es)).take n),.au)
   else none
  | _,_=>none
 | .qe x i=>fun ρ G N0=>
  match ρ x,ρ i with
  | .str s,.int _ i=>
   if 0≤i then
    match s[i.toNat]? with
    | some b=>some (.int .u8 b.toNat,.au)
    | none=>none
   else none
  | _,_=>none
 | .look kk z ok m k=>fun ρ G N0=>
  match ρ m with
  | .cQ=>some (if ok then .dL [z,.bool false]else z,.au)
  | .map r=>
   match G r with
   | some (.bn es)=>
    match jg kk (ρ k) es with
    | some (some v)=>some (if ok then .dL [v,.bool true]else v,.au)
    | some none=>some (if ok then .dL [z,.bool false]else z,.au)
    | none=>none
   | _=>none
  | _=>none
 | .fj kk m k x=>fun ρ G N0=>
  match ρ m with
  | .map r=>
   match G r with
   | some (.bn es)=>
    match o7 kk (ρ k) (ρ x) es with
    | some es'=>some (aA,.set r (.bn es'))
    | none=>none
   | _=>none
  | _=>none
 | .xD x=>fun ρ G N0=>
  match ρ x with
  | .str s=>some (.ptr N0 0,.push (.iter s 0))
  | _=>none
 | .nS x=>fun ρ G N0=>
  match ρ x with
  | .ptr b 0=>
   match G b with
   | some (.iter s pos)=>
    if pos < s.length then
     let d:=Utf8.decode ⟨⟨s⟩⟩ pos
     some (.dL [.bool true,.int .i64 pos,.int .i32 d.1],.set b (.iter s (pos+d.2)))
    else some (.dL [.bool false],.au)
   | _=>none
  | _=>none
 | .ext x i=>fun ρ G N0=>
  match ρ x with
  | .dL l=>
   match l[i]? with
   | some v=>some (v,.au)
   | none=>none
  | _=>none
 | .len lk x=>fun ρ G N0=>
  match iO lk G (ρ x)with
  | some n=>some (.int .i64 n,.au)
  | none=>none
 | .zW n=>fun ρ G N0=>some (.int .i64 n,.au)
 | .wI es x y=>fun ρ G N0=>
  match ρ x,ff es G (ρ y)with
  | .slice b o n es',some (ys,k)=>
   if es' =es then
    if min k n=0 then some (.int .i64 0,.au)
    else
     match G b with
     | some (.cells c true tl)=>if o+min k n * es≤c.length then some (.int .i64 (min k n:Nat),.set b (.cells (fI c o (ys.take (min k n * es))) true tl))else none
     | _=>none
   else none
  | .af,some _=>some (.int .i64 0,.au)
  | _,_=>none
 | .mx x l=>fun ρ G N0=>
  match gZ pU (ρ x) (l.map ρ)with
  | some v=>some (v,.au)
  | none=>none
 | .mn x l=>fun ρ G N0=>
  match gZ pT (ρ x) (l.map ρ)with
  | some v=>some (v,.au)
  | none=>none
 | _=>fun ρ G N0=>none
def pB(es w:Nat)(s y:AV)(G:Nat→Option ak)(N0:Nat):Option (AV×iA):=
 match ff es G y with
 | none=>none
 | some (ys,k)=>
  match s with
  | .af=>if k=0 then(if ys.isEmpty then some (.af,.au)else none)else if k * w≤2^46 then some (.slice N0 0 k es,.push (.cells ys true true))else none
  | .slice b o m es'=>
   if es' =es then
    if k=0 then(if ys.isEmpty then some (.slice b o m es,.au)else none)
    else if(m+k) * w≤2^46 then
     match G b with
     | some (.cells c true true)=>if o+m * es≤c.length then some (.slice N0 0 (m+k) es,.nK b .dead (.cells ((c.drop o).take (m * es)++ys) true true))else none
     | some (.cells c false true)=>if o+m * es=c.length then some (.slice N0 0 (m+k) es,.nK b (.cells c false false) (.cells (c.drop o++ys) false true))else none
     | some (.cells c true false)=>if o+m * es=c.length then some (.slice N0 0 (m+k) es,.push (.cells (c.drop o++ys) true true))else none
     | _=>none
    else none
   else none
  | _=>none
def stepT(k:oZ): (cT→AV)→(Nat→Option ak)→Nat→Option (AV×iA):=
 match k with
 | .call _ _=>fun _ _ _=>none
 | .app es w x y=>fun ρ G N0=>pB es w (ρ x) (ρ y) G N0
 | .aE es n z ps=>fun ρ _ N0=>
  match eF (dK n z) (ps.map fun p=>(p.1,es,ρ p.2))with
  | some c=>if c.all AV.one=true∧c.length=n * es then some (.slice N0 0 n es,.push (.cells c true (!Nat.beq n 0)))else none
  | none=>none
 | k=>mZ k
def pt(es:Nat)(h:ah)(x:AV):ff es (fun b=>h[b]?) x=cellsIn es h x:=by
 cases x<;>rfl
def D8(lk:LK)(h:ah)(x:AV):iO lk (fun b=>h[b]?) x=zX lk h x:=by
 cases x<;>rfl
def Cz{k x h v e}(hs:mG k x (fun b=>h[b]?) h.length=some (v,e)):jX k x h=some (v,e.app h):=by
 cases k<;>simp only[mG,pt]at hs<;>(repeat' split at hs)<;>first| (cases hs;done)| (cases hs;simp[jX,iA.app, *])
def HX{k ρ h v e}(hs:mZ k ρ (fun b=>h[b]?) h.length=some (v,e)):dt k ρ h=some (v,e.app h):=by
 cases k with
 | conv k x=>exact Cz (k:=k) (x:=ρ x) hs
 | sg es w z l c=>
  simp only[mZ]at hs;split at hs
  case h_2=>cases hs
  rename_i kl il kc ic hl hc;split at hs
  case isFalse=>cases hs
  rename_i Rf;cases hs;simp only[dt,hl,hc];rw[Yh Rf];rfl
 | _=>simp only[mZ,pt,D8]at hs<;>(repeat' split at hs)<;>first| (cases hs;done)| (cases hs;simp[dt,iA.app, *])
def nG{k ρ h v e}(hs:stepT k ρ (fun b=>h[b]?) h.length=some (v,e)):mI k ρ h v (e.app h):=by
 have hf:∀k,mZ k ρ (fun b=>h[b]?) h.length=some (v,e)→dt k ρ h=some (v,e.app h):=fun k hk=>HX hk
 cases k with
 | call f args=>cases hs
 | app es w x y=>
  simp only[stepT,pB,pt]at hs;show wE es w (ρ x) (ρ y) h v (e.app h);split at hs
  ·cases hs
  rename_i ys k hy;split at hs
  ·rename_i hx;rw[hx];split at hs
   ·rename_i hk;split at hs
    ·rename_i hys;cases hs;subst hk;exact .none (by rw[hy];cases ys<;>first| rfl| cases hys) (.inl rfl)
    ·cases hs
   ·split at hs
    ·rename_i hk hb;cases hs;exact .new ys k true hy Om hb rfl
    ·cases hs
  ·rename_i b o m es' hx;rw[hx];split at hs
   case isFalse=>cases hs
   rename_i hes;subst hes;split at hs
   ·rename_i hk;split at hs
    ·rename_i hys;cases hs;subst hk;exact .none (by rw[hy];cases ys<;>first| rfl| cases hys) (.inr ⟨b,o,m,rfl⟩)
    ·cases hs
   ·rename_i hk;split at hs
    case isFalse=>cases hs
    rename_i hb;split at hs
    ·rename_i c hc;split at hs
     case isFalse=>cases hs
     rename_i hl;cases hs;exact .over ys k b o m c true hy Om hb rfl hc hl
    ·rename_i c hc;split at hs
     case isFalse=>cases hs
     rename_i hl;cases hs;exact .on ys k b o m c false hy Om hb rfl hc hl
    ·rename_i c hc;split at hs
     case isFalse=>cases hs
     rename_i hl;cases hs;exact .full ys k b o m c hy Om hb rfl hc hl
    ·cases hs
  ·cases hs
 | aE es n z ps=>
  simp only[stepT]at hs;split at hs
  case h_2=>cases hs
  rename_i c hc;split at hs
  case isFalse=>cases hs
  rename_i Rf;cases hs;exact⟨c,true,_,hc,Rf.1,Rf.2,rfl,rfl⟩
 | _=>exact hf _ hs
inductive Acc where
 | no
 | rd (b:Nat)
 | wr (b:Nat) (k:ak)
def Acc.dP:Acc→Option Nat
 | .no=>none
 | .rd b=>some b
 | .wr b _=>some b
def Acc.app(h:ah):Acc→ah
 | .wr b k=>h.set b k
 | _=>h
def zP{k}(hk:fp k=true){ρ G G' N N'}:stepT k ρ G N=stepT k ρ G' N':=by
 cases k<;>first| (cases hk;done)| rfl| skip
 case conv c x=>cases c<;>first| (cases hk;done)| rfl
 case len lk x=>
  have hl:lk≠.mp:=fun e=>by rw[e]at hk;cases hk
  have e:iO lk G (ρ x)=iO lk G' (ρ x):=by
   cases lk<;>first| exact absurd rfl hl| skip
   all_goals
    cases ρ x<;>first| rfl| (simp only[iO,reduceCtorEq,Yo];repeat' split)<;>rfl
  simp only[stepT,mZ,e]
def zV{n a ρ G G' N N' b o}(ha:ρ a= .ptr b o)(hb:G b=G' b):stepT (.load n a) ρ G N=stepT (.load n a) ρ G' N':=by
 simp only[stepT,mZ,ha,hb]
def wZ{n a x ρ G G' N N' b o}(ha:ρ a= .ptr b o)(hb:G b=G' b):stepT (.store n a x) ρ G N=stepT (.store n a x) ρ G' N':=by
 simp only[stepT,mZ,ha,hb]
def wD(o:bJ)(ts:TS)(h:ah)(v:AV)(c:Acc):Prop:=
 (¬wanted o.gd ts∧c= .no∧v=aA)∨wanted o.gd ts∧((fp o.k=true∧c= .no∧stepT o.k (val ts) (fun z=>h[z]?) h.length=some (v,.au))∨
  (∃n a b off,o.k= .load n a∧val ts a= .ptr b off∧c= .rd b∧stepT o.k (val ts) (fun z=>h[z]?) h.length=some (v,.au))∨
  (∃n a x b off k,o.k= .store n a x∧val ts a= .ptr b off∧c= .wr b k∧stepT o.k (val ts) (fun z=>h[z]?) h.length=some (v,.set b k)))
theorem wD.run{P o ts h g v c}(hs:wD o ts h v c)(hb:∀b,c.dP=some b→g[b]? =h[b]?):dx P o ts g (put ts o.dst v) (c.app g):=by
 rcases hs with⟨hw,rfl,rfl⟩| ⟨hw,hs⟩
 ·exact .skip hw
 rcases hs with⟨hp,rfl,hs⟩| ⟨n,a,b,off,hk,ha,rfl,hs⟩| ⟨n,a,x,b,off,k,hk,ha,rfl,hs⟩
 ·refine .run hw ?_ ?_
  ·cases hk:o.k<;>rw[hk]at hp<;>first| (cases hp;done)| trivial
  ·rw[zP hp (G':=fun z=>g[z]?) (N':=g.length)]at hs;have:=nG hs;cases hk:o.k<;>rw[hk]at hp this<;>first| (cases hp;done)| exact this
 ·rw[hk]at hs;rw[zV ha (G':=fun z=>g[z]?) (N':=g.length) (hb b rfl).symm]at hs;exact z193
 ·rw[hk]at hs;rw[wZ ha (G':=fun z=>g[z]?) (N':=g.length) (hb b rfl).symm]at hs;exact z193
def AB:List bJ→TS→ah→List Acc→TS→Prop
 | [],ts,_,cs,ts'=>cs= []∧ts' =ts
 | o::r,ts,h,cs,ts'=>∃v c cs1,wD o ts h v c∧cs=c::cs1∧AB r (put ts o.dst v) h cs1 ts'
theorem AB.row{h}:∀{l} {ts ts'} {cs},AB l ts h cs ts'→∃T:Nat→TS,T 0=ts∧T l.length=ts'∧cs.length=l.length∧∀j o,l[j]? =some o→∃v c,cs[j]? =some c∧wD o (T j) h v c∧T (j+1)=put (T j) o.dst v
 | [],ts,ts',cs,hs=>by
  obtain⟨rfl,rfl⟩:=hs;exact⟨fun _=>ts',rfl,rfl,rfl,fun j o ho=>by simp at ho⟩
 | o::r,ts,ts',cs,hs=>by
  obtain⟨v,c,cs1,bS,rfl,hr⟩:=hs;obtain⟨T,hT,Sm,hl,hrow⟩:=hr.row;refine⟨fun i=>match i with| 0=>ts| i+1=>T i,rfl,Sm,by simp[hl],fun j x hx=>?_⟩;cases j with
  | zero=>simp at hx;subst hx;exact⟨v,c,rfl,bS,hT⟩
  | succ j=>
   obtain⟨v',c',h1,h2,h3⟩:=hrow j x (by simpa using hx);exact⟨v',c',by simpa using h1,h2,h3⟩
def dN:ah→List Acc→ah
 | h,[]=>h
 | h,c::cs=>dN (c.app h) cs
def eU:List Acc→Prop
 | []=>True
 | c::cs=>(∀b,c.dP=some b→∀x∈cs,x.dP=some b→∀k k',c=Acc.wr b k∨x=Acc.wr b k'→False)∧eU cs
theorem eU.ne:∀{cs:List Acc},eU cs→∀{i j b:Nat} {k:ak} {c:Acc},cs[i]? =some (.wr b k)→i≠j→cs[j]? =some c→c.dP≠some b
 | [],_,i,j,b,k,c,h1,_,_=>by simp at h1
 | x::xs,h,i,j,b,k,c,h1,hij,h2=>by
  intro hc;cases i with
  | zero=>
   simp at h1;subst h1;cases j with
   | zero=>exact hij rfl
   | succ j=>exact h.1 b rfl c (YW (by simpa using h2)) hc k k (.inl rfl)
  | succ i=>
   cases j with
   | zero=>
    simp at h2;subst h2;exact h.1 b hc _ (YW (by simpa using h1)) rfl k k (.inr rfl)
   | succ j=>exact eU.ne h.2 (i:=i) (j:=j) (by simpa using h1) Om (by simpa using h2) hc
def ur(h:ah)(c:Acc): (c.app h).length=h.length:=by cases c<;>simp[Acc.app]
def yk{h:ah}{c:Acc}{b:Nat}(hb:∀k,c= .wr b k→False): (c.app h)[b]? =h[b]? :=by
 cases c with
 | wr b' k=>
  have:b'≠b:=fun e=>hb k (by rw[e])
  simp[Acc.app,Yj this]
 | _=>rfl
theorem pF:∀{cs:List Acc} {h:ah} {b:Nat},(∀ (j:Nat) (k:ak),cs[j]? =some (Acc.wr b k)→False)→(dN h cs)[b]? =h[b]?
 | [],h,b,_=>rfl
 | c::cs,h,b,hb=>by
  rw[dN,pF (fun j k hj=>hb (j+1) k (by simpa using hj))];exact yk fun k hk=>hb 0 k (by simp[hk])
theorem tG:∀{cs:List Acc} {h:ah},eU cs→∀{j b:Nat} {k:ak},b < h.length→cs[j]? =some (.wr b k)→(dN h cs)[b]? =some k
 | [],h,_,j,b,k,_,hj=>by simp at hj
 | c::cs,h,ho,j,b,k,hb,hj=>by
  cases j with
  | zero=>
   simp at hj;subst hj;rw[dN,pF (fun j k' hj=>eU.ne ho (i:=0) (j:=j+1) (b:=b) (k:=k) rfl Om (by simpa using hj) rfl)];simp[Acc.app,hb]
  | succ j=>
   rw[dN];exact tG ho.2 (by rw[ur];exact hb) (by simpa using hj)
structure zq(h:ah)(cs:List Acc)(S:Nat→Bool)(g:ah):Prop where
 len:g.length=h.length
 wr:∀j b k,S j=true→cs[j]? =some (.wr b k)→g[b]? =some k
 ne:∀b,(∀j k,S j=true→cs[j]? =some (.wr b k)→False)→g[b]? =h[b]?
def zq.all{h g:ah}{cs:List Acc}{S:Nat→Bool}(H:zq h cs S g)(ho:eU cs)(hS:∀j c,cs[j]? =some c→S j=true):g=dN h cs:=by
 apply aar
 intro b;by_cases hx:∃ (j:Nat) (k:ak),cs[j]? =some (Acc.wr b k)
 ·obtain⟨j,k,hj⟩:=hx;have h1:=H.wr j b k (hS j _ hj) hj;have:b < h.length:=by rw[←H.len];exact(X1.1 h1).1
  rw[h1,tG ho this hj]
 ·rw[H.ne b fun j k _ hj=>hx ⟨j,k,hj⟩,pF fun j k hj=>hx ⟨j,k,hj⟩]
def tT{P:Program}(hmix:P.follows .mixedOrders=true){ops:Array Oper}{l:List bJ}(hed:km (Region.before ops) ops=true)(hsl:lR (Region.before ops) ops=true)
  (hc:eG (fun _ o=>bP P ops false o) ops.toList 0=some l) {ts ts':TS} {h:ah} {cs:List Acc} (hs:AB l ts h cs ts') (hok:eU cs) {m:bY} {a:Act} {w:World}
  (st:St P m ts h a w) (ro:Option Nat) (Q:Exit→Act→World→Prop) (hQ:∀m' a' w',St P m' ts' (dN h cs) a' w'→Grow m h w m' (dN h cs) w'→a'.defers=a.defers→Q .normal a' w') (id:Nat):
  (Code.region id ops true).wpIn (Fd ro) 0 P Q a w:=by
 refine wpIn_region_any hmix ?_;obtain⟨T,rfl,rfl,hcl0,hrow⟩:=hs.row;obtain⟨Re,Q4⟩:=fX hc;simp only[aag]at Re;have U0:∀ (j:Nat) (io:bJ),l[j]? =some io→∃o,ops[j]? =some o∧bP P ops false o=some io:=fun j io hj=>by
  exact MT
 have R5:∀ (j:Nat) (io:bJ) (d:Nat),l[j]? =some io→io.dst=some d→∃o,ops[j]? =some o∧o.dst=some d:=fun j io d hj hd=>by
  exact z76
 have huniq:∀ (i j:Nat) (oi oj:bJ) (d:Nat),l[i]? =some oi→l[j]? =some oj→oi.dst=some d→oj.dst=some d→i=j:=fun i j oi oj d hi hj h1 h2=>by
  exact MV
 have hTl:∀j,j≤l.length→(T j).length= (T 0).length:=by
  intro j
  induction j with
  | zero=>intro _;rfl
  | succ j ih=>
   intro hj;obtain⟨v,c,_,_,hv⟩:=hrow j _ (X6 (show j < l.length by omega));rw[hv,mR];exact ih Om
 have Ra:∀x y t,x≤y→y≤l.length→(∀ (j:Nat) (o:bJ),x≤j→j < y→l[j]? =some o→o.dst≠some t)→(T y).getD t aA= (T x).getD t aA:=by
  intro x y t hxy hy hno;have:=uF (T:=T) (t:=t) (a:=x) (y - x) (fun j h1 h2=>by
   have hj:l[j]? =some (l[j]'Om):=X6 Om;obtain⟨v,c,_,_,hv⟩:=hrow j _ hj;exact⟨_,v,hv,hno j _ h1 Om hj⟩)
  rwa [show x+ (y - x)=y from by omega]at this
 have hdone:∀ (listed:Array Bool) (g:ah) (a1:Act) (w1:World),(∀i,i < ops.size→listed.getD i false=true)→zq h cs (fun j=>listed.getD j false) g→HR P m g w1→Grow m h w m g w1→a1.tmps.size= (T 0).length→
   (∀ (d:Nat),(∀ (j:Nat) (o:bJ),l[j]? =some o→listed.getD j false=true→o.dst≠some d)→VR m ((T 0).getD d aA) (a1.tmps.getD d undef))→
   (∀ (d j:Nat) (o:bJ),l[j]? =some o→listed.getD j false=true→o.dst=some d→VR m ((T (j+1)).getD d aA) (a1.tmps.getD d undef))→a1.defers=a.defers→Q .normal a1 w1:=by
  intro listed g a1 w1 hall H hr hg dZ h1 h2 hd;have e:=H.all hok fun j c hj=>hall j (by have:=(X1.1 hj).1;omega)
  subst e;refine hQ m a1 w1 ⟨hr,cH.gO ?_ ?_⟩ hg hd
  ·exact z145
  ·intro t x hx;exact Qd
 have key:∀ (fuel:Nat) (listed:Array Bool) (g:ah) (a1:Act) (w1:World),listed.size=ops.size→qG listed ops.size≤fuel→
   (∀j x,listed.getD j false=true→x < ops.size→ahead (Region.before ops) x j=true→listed.getD x false=true)→
   zq h cs (fun j=>listed.getD j false) g→HR P m g w1→Grow m h w m g w1→a1.tmps.size= (T 0).length→
   (∀ (d:Nat),(∀ (j:Nat) (o:bJ),l[j]? =some o→listed.getD j false=true→o.dst≠some d)→VR m ((T 0).getD d aA) (a1.tmps.getD d undef))→
   (∀ (d j:Nat) (o:bJ),l[j]? =some o→listed.getD j false=true→o.dst=some d→VR m ((T (j+1)).getD d aA) (a1.tmps.getD d undef))→a1.defers=a.defers→wpAnyIn (Fd ro) 0 P .any ops Q fuel listed a1 w1:=by
  intro fuel
  induction fuel with
  | zero=>
   intro listed g a1 w1 Rc hu hcl H hr hg dZ h1 h2 hd;have hall:=kZ ops.size (show qG listed ops.size=0 by omega);exact⟨lU Rc hall,hdone listed g a1 w1 hall H hr hg dZ h1 h2 hd⟩
  | succ fuel ih=>
   intro listed g a1 w1 Rc hu hcl H hr hg dZ h1 h2 hd;refine⟨fun hrn=>hdone listed g a1 w1 (lT hed Rc hrn) H hr hg dZ h1 h2 hd,fun i hi=>?_⟩;obtain⟨o,ho,R2,VQ⟩:=(iV Rc).1 hi;have hin:i < ops.size:=(Ym.1 ho).1;obtain⟨io,hio,Q8⟩:=Q4 i o (by simpa using ho);obtain⟨v,c,hci,bS,hTi⟩:=hrow i io hio;have hahead:∀x,x < ops.size→ahead (Region.before ops) x i=true→listed.getD x false=true:=fun x hx ha=>by
    exact z37
   have SX:∀j x,(listed.setIfInBounds i true).getD j false=true→x < ops.size→ahead (Region.before ops) x j=true→(listed.setIfInBounds i true).getD x false=true:=by
    intro j x hj hx ha;exact Mv
   have UB:qG (listed.setIfInBounds i true) ops.size≤fuel:=by
    exact z80
   have hslot:∀t,t∈o.looksAt ops→VR m ((T i).getD t aA) (a1.tmps.getD t undef):=by
    intro t ht;exact Qf
   have Tm:∀b,c.dP=some b→g[b]? =h[b]? :=fun b hb=>H.ne b fun j k hj Wq=>by
    by_cases e1:j=i
    ·subst e1
     try simp only at hj
     rw[R2]at hj;cases hj
    ·exact eU.ne hok Wq e1 hci hb
   refine fq ho Q8 hr.gv hr (by rw[dZ,hTl i Om]) hslot (bS.run (P:=P) Tm) ro _ Q ?_;intro cv v' m' w' Sm SD hr' Rj;have Rr:io.dst=o.dst:=(dm Q8).1;have hm:m' =m:=by
    funext b;by_cases hb:b < g.length
    ·exact Rj.ext b hb
    ·have e1:m b=none:=by
      cases hx:m b with
      | none=>rfl
      | some e=>exact absurd (hr.cI b e hx) hb
     have e2:m' b=none:=by
      cases hx:m' b with
      | none=>rfl
      | some e=>exact absurd (by have:=hr'.cI b e hx;rwa [ur]at this) hb
     rw[e1,e2]
   subst hm;have hlt: (listed.setIfInBounds i true).getD i false=true:=by rw[cZ Om,Yh rfl]
   have hne:∀j,j≠i→(listed.setIfInBounds i true).getD j false=listed.getD j false:=fun j hj=>by rw[cZ Om,Yd hj]
   have T4: (a1.put o.dst cv).tmps=gG a1.tmps o.dst cv:=by cases o.dst<;>rfl
   refine ih _ (c.app g) (a1.put o.dst cv) w' (by simp[Rc]) UB SX ⟨by rw[ur];exact H.len,?_,?_⟩ hr' (hg.trans Rj st.hr.cI) (by rw[T4,eV];exact dZ) ?_ ?_ (by rw[put_defers];exact hd)
   ·intro j b k hj Wq
    try simp only at hj
    by_cases e1:j=i
    ·subst e1;rw[hci]at Wq;cases Wq;have:b < g.length:=by
      by_cases hb:b < g.length
      ·exact hb
      ·have e:=Tm b rfl;rcases bS with⟨_,h,_⟩| ⟨_,hs3⟩
       ·cases h
       rcases hs3 with⟨_,h,_⟩| ⟨_,_,_,_,_,_,h,_⟩| ⟨n,aa,x,b',off,k',hk,ha,h,hs3⟩
       ·cases h
       ·cases h
       ·cases h;rw[hk]at hs3;rw[Z1 Om]at e;simp only[stepT,mZ,ha,←e]at hs3;cases hs3
     simp[Acc.app,this]
    ·rw[hne j e1]at hj;rw[yk fun k' hk'=>by
      subst hk';exact eU.ne hok Wq e1 hci rfl]
     exact H.wr j b k hj Wq
   ·intro b hb;rw[yk fun k' hk'=>hb i k' hlt (by rw[hci,hk'])];exact H.ne b fun j k hj Wq=>by
     try simp only at hj
     exact hb j k (by
      show(listed.setIfInBounds i true).getD j false=true;by_cases e1:j=i
      ·subst e1;exact hlt
      ·rw[hne j e1];exact hj) Wq
   ·intro d hdn;have SQ:o.dst≠some d:=by rw[←Rr];exact hdn i io hio hlt
    rw[T4,dy SQ];refine h1 d fun j oj hj hl=>hdn j oj hj ?_
    exact Mq
   ·intro d j oj hj hl TH;by_cases e1:j=i
    ·subst e1;rw[hio]at hj;cases hj;rw[hTi,T4,←Rr,TH];have hvv:put (T j) (some d) v=put (T j) (some d) v':=by
      have:=Sm;rw[←Rr,TH]at this;exact this
     rw[hvv];exact lu (by rw[dZ,hTl j Om]) SD
    ·have SQ:o.dst≠some d:=fun hx=>by
      exact z124
     rw[T4,dy SQ];rw[hne j e1]at hl;exact h2 d j oj hj hl TH
 have Q3:∀j,(Array.replicate ops.size false).getD j false=false:=fun j=>by
  exact Mr
 refine key ops.size (Array.replicate ops.size false) h a _ Si ?_ (fun j x hj _ _=>by simp[Q3 j]at hj) ⟨rfl,fun j b k hj _=>by simp[Q3 j]at hj,fun b _=>rfl⟩ st.hr.drew (Grow.refl m _ w st.hr.cI).drew ?_ (fun d _=>nJ st.ts d) (fun d j o _ hj _=>by simp[Q3 j]at hj) rfl
 ·exact Mw
 ·exact Di
theorem Ev.sf{P ro}(hmix:P.follows .mixedOrders=true){l ts ts' h cs}(hs:AB l ts h cs ts')(hok:eU cs):Ev P ro (.sf l) ts h .normal ts' (dN h cs):=by
 refine Ev.of fun cc hns hc m a w lo hlo st hm Q hQ=>?_
 cases cc with
 | region id ops draw=>
  rcases dU (by simpa only[compile]using hc)with⟨l',h1,hl⟩| ⟨l',h1,hd,⟨l2,hl2⟩,hz⟩| ⟨_,h1,_⟩<;>cases h1
  subst hd;simp only[cK,Ys]at hl2;split at hl2
  case isFalse=>cases hl2
  rename_i Rv;simp only[YD]at Rv;exact tT hmix Rv.1 Rv.2 hz hs hok st ro Q (fun m' a' w' s g d=>hQ m' a' w' s g (by rw[d];exact hm.grow g st.hr.cI)) id
 | scope a=>exact absurd rfl (hns a)
 | block id a=>simp[compile]at hc
 | loop a=>simp[compile]at hc
 | _=>
  exact AP
def C0(cs:List Acc):Acc→List Acc
 | .no=>cs
 | c=>cs++ [c]
def Av{cs c}(hc:c≠.no):C0 cs c=cs++ [c]:=by cases c<;>first| exact absurd rfl hc| rfl
def AK(h:ah):List bJ→TS→List Acc→(TS→List Acc→Prop)→Prop
 | [],ts,cs,K=>K ts cs
 | o::r,ts,cs,K=>∃v c,wD o ts h v c∧AK h r (put ts o.dst v) (C0 cs c) K
theorem pE:∀{a b c},(∀x∈b,x=Acc.no)→eU (a++c)→eU (a++b++c)
 | [],[],c,_,h=>h
 | [],x::b,c,hb,h=>by
  have hx:=hb x Si;subst hx;exact⟨fun n hn=>by(cases hn),by simpa using pE (a:=[]) (b:=b) (fun y hy=>hb y (YI _ hy)) h⟩
 | x::a,b,c,hb,h=>by
  refine⟨fun n hn y hy hyn k k' hk=>?_,pE (a:=a) hb h.2⟩;rcases Yb.1 hy with hy| hy
  ·rcases Yb.1 hy with hy| hy
   ·exact h.1 n hn y (Yb.2 (.inl hy)) hyn k k' hk
   ·rw[hb y hy]at hyn;cases hyn
  ·exact h.1 n hn y (Yb.2 (.inr hy)) hyn k k' hk
theorem AK.sound{h}:∀{l} {ts} {cs} {K},AK h l ts cs K→∃TX XY ts',AB l ts h TX ts'∧K ts' (cs++XY)∧(∀ (a c:List Acc),eU (a++XY++c)→eU (a++TX++c))∧(∀g,dN g TX=dN g XY)
 | [],ts,cs,K,H=>⟨[],[],ts,⟨rfl,rfl⟩,by rw[Yu];exact H,fun _ _ h=>h,fun _=>rfl⟩
 | o::r,ts,cs,K,H=>by
  obtain⟨v,c,h1,H⟩:=H;obtain⟨TX,XY,ts',h2,h3,h4,h5⟩:=AK.sound (l:=r) H;by_cases hc:c= .no
  ·subst hc;refine⟨.no::TX,XY,ts',⟨v,.no,TX,h1,rfl,h2⟩,h3,fun a d hd=>?_,fun g=>h5 g⟩;have:=pE (a:=a) (b:=[.no]) (c:=TX++d) Si (by simpa using h4 a d hd)
   simpa using this
  ·rw[Av hc]at h3;refine⟨c::TX,c::XY,ts',⟨v,c,TX,h1,rfl,h2⟩,by simpa using h3,fun a d hd=>?_,fun g=>by rw[dN,dN,h5]⟩;have:=h4 (a++ [c]) d (by simpa using hd)
   simpa using this
theorem AK.mono{h}:∀{l} {ts} {cs} {K K'},AK h l ts cs K→(∀ts' cs',K ts' cs'→K' ts' cs')→AK h l ts cs K'
 | [],ts,cs,K,K',H,hk=>hk _ _ H
 | o::r,ts,cs,K,K',H,hk=>by
  obtain⟨v,c,h1,H⟩:=H;exact⟨v,c,h1,AK.mono (l:=r) H hk⟩
end Go.Abs
