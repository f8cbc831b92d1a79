/- A part of the proof that HouseLogs holds. No condition. -/
import Derived.Test.YtgplmdgpmbegiaaGreatDoorLo6
import Derived.Test.YtgplmdgpmbegiaaGreatDoorLo0
set_option maxHeartbeats 4000000
set_option linter.all false
open Nat (reduceAdd reduceMul reduceLeDiff reduceEqDiff)
namespace Go.Abs
theorem aZ.row{h x}(o:aZ h x):x.row.all AV.one=true:=by
 simp only[EV.row,Bw,Bv,An,Eu,o.n.one,o.v.one,Bool.and_self]
def aZ.box{h x}(o:aZ h x){N}:nD (.agg x.row) N=some (.ptr N 0,.push (.b x.row)):=by
 have:(AV.agg x.row).cells=x.row:=rfl;simp only[nD,this,o.row,UD]
def gF{x:EV}:x.row[0]? =some (.i x.ev.num):=rfl
def fH{x:EV}:x.row[1]? =some (.str x.ev.kind):=rfl
def bD{x:EV}:x.row[2]? =some x.sn:=rfl
def bY{x:EV}:x.row[3]? =some x.sv:=rfl
def vS{x:EV}:x.row[4]? =some (.str x.ev.text):=rfl
def bW{x:EV}{mu tl:Bool}:dI (some 5) 0 (.cells x.row mu tl)=some (.agg x.row,.ar):=rfl
def kB(d:Kd):(jh d).one=true:=by cases d<;>rfl
def j6(d:Kd):(nj d).one=true:=by cases d<;>rfl
def vR{l:List (By)}:aO (l.map λs=>bB (!dG s) 8)=if l.any (λs=>!dG s)then 8 else 0:=by
 induction l with
 |nil=>rfl
 |cons a l ih=>
  rw[Vl,aO,ih,List.any_cons,bB];cases h:dG a<;>simp
def oa{l:List Int}:aO (l.map λn=>bn n 0 999999999)=if l.any (λn=>decide (bn n 0 999999999≠0))then 3 else 0:=by
 induction l with
 |nil=>rfl
 |cons a l ih=>
  rw[Vl,aO,ih,List.any_cons];by_cases h:bn a 0 999999999=0
  ·simp[h]
  ·have h3:bn a 0 999999999=3:=by unfold bn at h ⊢;split<;>simp_all
   simp[h3]
def wJ{n lo hi}(h:bn n lo hi≠0):bn n lo hi=3:=by unfold bn at h ⊢;split<;>simp_all
set_option maxRecDepth 10000
attribute [local irreducible] WP WC WE WB WR WF WL WG fo
section
variable {P:Program}(T:eF P) {h:af}
include T
def r131(s:By):ak P 131 [.str s] h (λv _=>v=.i (bB (!dG s) 8)):=by
 refine .of T.mix T.c131 ?_;unfold fn131 gA;refine Wn ?_;refine WF.ce T.c132 (r132 T s) λg1=>?_
 refine Wn ?_;refine WF.ce T.c85 (r85 T _ _) λg2=>?_
 exact Wn Tv
def r133(n:Int):ak P 133 [.i n] h (λv _=>v=.i (bn n 0 999999999)):=by
 refine .of T.mix T.c133 ?_;unfold fn133 gA;refine Wn ?_;refine WF.ce T.c94 (r94 T _ _ _) λg1=>?_
 exact Wn Tv
def r67{x:EV}(o:aZ h x)(hl:x.ev.names.length<=2^40/\x.ev.ba.length<=2^40):ak P 67 [.agg x.row] h (λv _=>v=.i (dK x.ev)):=by
 refine .jP 53 T.mix T.c67 ?_;intro ts hlen t0;unfold fn67 gA;have Oj:=@aZ.box _ _ o;refine Rs (A3 t0 @Oj @gF) ?_;refine WF.ce T.c94 (r94 T _ _ _) λg1=>?_
 by_cases h0:bn x.ev.num 1 1000=0
 case neg=>
  have e0:decide (bn x.ev.num 1 1000≠0)=true:=Uk h0;refine Rs (A2 t0 e0) ?_;rw[dK,Ut h0];exact UM (AV.int .i64) (wJ h0)
 have e0:decide (bn x.ev.num 1 1000≠0)=false:=Uh (λz=>z h0);refine Rs (A2 t0 e0) ?_;refine WF.res T.c90 (r90 T) ?_;rintro _ g2 ⟨vf,rfl,hk⟩;have lk:∀{z:AV},gk .s z true (.map (h++[ai.b x.row]++g1).length) (.str x.ev.kind) (λb=>(h++[ai.b x.row]++g1++g2)[b]?)=jY z true ((eC x.ev.kind).map vf):=hk.look;cases hd:eC x.ev.kind with
 |none=>
  rw[hd]at lk;have OU:∀{z:AV},_=some (AV.dt [z,.bool false],gL.ar):=@lk;refine Rs (A6 t0 @fH @bA @OU @gE @UF) ?_;rw[dK,Ur (by simpa using h0),hd]
 |some d=>
  rw[hd]at lk;have OU:∀{z:AV},_=some (AV.dt [vf d,.bool true],gL.ar):=@lk;obtain⟨rs,a,hv,hr,ha,hab⟩:=(hk.k d).ex;rw[hv]at OU;have hlr:=hr.aS;have c1:=kB d;have c2:=j6 d;have c3:=hr.one;refine Rs (Ec t0 @fH @bD @bY @bA @OU @UA @c1 @c2 @c3 @ha @hlr o.n.aS o.v.aS) ?_;have esh:dK x.ev=if x.ev.names.length≠(aC d).length\/x.ev.ba.length≠a8 d then 2 else aO [aO (x.ev.names.map λs=>bB (!dG s) 8),aO (x.ev.ba.map λn=>bn n 0 999999999),bB (decide (x.ev.text≠[])) 1]:=by
   rw[dK,Ur (by simpa using h0),hd,vR,oa];simp only;split
   ·rfl
   cases x.ev.names.any (λs=>!dG s)with
   |true=>rfl
   |false=>
    cases x.ev.ba.any (λn=>decide (bn n 0 999999999≠0))with
    |true=>rfl
    |false=>by_cases ht:x.ev.text=[]<;>simp[aO,bB,ht]
  rw[esh];by_cases h1:x.ev.names.length=(aC d).length/\x.ev.ba.length=a8 d
  case neg=>
   have e1:(!(decide ((x.ev.names.length:Int)=((aC d).length:Int))&&(decide ((x.ev.ba.length:Int)=(a8 d:Int))&&true)))=true:=by
    by_cases q1:x.ev.names.length=(aC d).length
    ·have q2:¬x.ev.ba.length=a8 d:=λz=>h1 ⟨q1,z⟩
     have q3:¬(x.ev.ba.length:Int)=(a8 d:Int):=Om
     simp[q3]
    ·have q3:¬(x.ev.names.length:Int)=((aC d).length:Int):=Om
     simp[q3]
   rw[e1,Ut Om];exact Rs t0 Tv
  have e1:(!(decide ((x.ev.names.length:Int)=((aC d).length:Int))&&(decide ((x.ev.ba.length:Int)=(a8 d:Int))&&true)))=false:=by
   rw[h1.1,h1.2];simp
  rw[e1,Ur Om];refine Rs (A3 t0 @bD @bY) ?_;refine WF.res T.c130 (r130 T (o.n.ext Xx) hl.1 (λs=>bB (!dG s) 8) (λs _ k _=>aV.of (a:=[]) (c:=[]) T.c131 (r131 T s))) ?_;rintro s6 g6 hf6;refine Rs (A3 t0 @bD @bY) ?_;refine WF.res T.c92 (r92 T (o.v.ext Xx) hl.2 (λn=>bn n 0 999999999) (λn _ k _=>aV.of (a:=[]) (c:=[]) T.c133 (r133 T n))) ?_;rintro s7 g7 hf7;refine Rs (A3 t0 @bD @bY) ?_;refine WF.ce T.c74 (r74 T (hf6.aM.ext Xx) (by simp;omega)) λg8=>?_
  refine Rs t0 ?_;refine WF.ce T.c74 (r74 T (hf7.aM.ext Xx) (by simp;omega)) λg9=>?_
  refine Rs (A2 t0 @vS) ?_;refine WF.ce T.c85 (r85 T _ _) λg10=>?_
  refine Rs t0 ?_;refine WF.ce T.c74 (r74 T (bN [_,_,_]) Si) λg11=>?_
  refine Rs t0 ?_;exact⟨Xx,trivial⟩
end
def NH:List AV:=[.str iL,.str iL,.str iL,.str kC,.str kC,.str mq,.str mq,.str mq]
def Gl(h:af):Prop:=∃mu tl,h[0]? =some (.cells NH mu tl)
def Gl.ext{h k}(o:Gl h)(e:Ext h k):Gl k:=by obtain⟨mu,tl,h1⟩:=o;exact⟨mu,tl,e.some h1⟩
structure Cx(h:af)(V:RV)(x:EV)(d:Kd):Prop where
 o:aG h V
 w:ka V.aD
 e:aZ h x
 we:uT x.ev d
 nk:MJ V.aD x.ev d
def Cx.nm{h V x d}(c:Cx h V x d){i:Nat}(hi:i<(aC d).length):bh 1 x.sn (.i (i:Int))=some (eO x.sn 1 i,.ar)/\∀{k},Ext h k->aq none (eO x.sn 1 i) (λb=>k[b]?)=some (.str (bt x.ev i),.ar):=by
 have hi':i<x.ev.names.length:=by rw[c.we.nl];exact hi
 refine⟨c.e.n.fx hi',λ{k} e=>?_⟩;have:bt x.ev i=x.ev.names[i]:=by rw[bt,UQ,Uj hi'];rfl
 rw[this];exact c.e.n.kK hi' rfl e
theorem Cx.vl{h V x d}(c:Cx h V x d){i:Nat}(hi:i<a8 d):bh 1 x.sv (.i (i:Int))=some (eO x.sv 1 i,.ar)/\(∀{k},Ext h k->aq none (eO x.sv 1 i) (λb=>k[b]?)=some (.i (cC x.ev i),.ar))/\0<=cC x.ev i/\cC x.ev i<=999999999:=by
 have hi':i<x.ev.ba.length:=by rw[c.we.vl];exact hi
 have:cC x.ev i=x.ev.ba[i]:=by rw[cC,UQ,Uj hi'];rfl
 refine⟨c.e.v.fx hi',λ{k} e=>?_,c.we.vr _ (rB hi')⟩;rw[this];exact c.e.v.kK hi' rfl e
theorem Cx.ext{h k V x d}(c:Cx h V x d)(e:Ext h k):Cx k V x d:=⟨c.o.ext e,c.w,c.e.ext e,c.we,c.nk⟩
def dw{c e l}(he:e≠0):aO (bB c e::l)=if c=true then e else aO l:=by
 cases c<;>simp[aO,bB,he]
def rZ{a b c l}:aO (bn a b c::l)=if bn a b c≠0 then 3 else aO l:=by
 by_cases h:bn a b c=0
 ·simp[aO,h]
 ·simp[aO,h,wJ h]
section
variable {P:Program}(T:eF P) {h:af}
include T
def r148{V x}(c:Cx h V x .line):ak P 148 [.agg V.row,.agg x.row] h (λv _=>v=.i (dA V.aD x.ev .line)):=by
 refine .eQ 17 T.mix T.c148 ?_;intro ts hlen t0 t1;unfold fn148 gA;have Oj:=@aG.box _ _ c.o;have hex:=@aZ.box _ _ c.e;have i1:bh 1 x.sv (.i 1)=_:=(c.vl (i:=1) De).1;have d1:=@(c.vl (i:=1) De).2.1;refine Rs (A7 t0 t1 @Oj @hex @bY @i1 @d1) ?_;refine WF.ce T.c94 (r94 T _ _ _) λg1=>?_
 refine Rs (A4 t0 t1 @ph c.o.i0.aS) ?_;refine WF.ce T.c85 (r85 T _ _) λg2=>?_
 refine Rs (A2 t0 t1) ?_;refine WF.ce T.c74 (r74 T (bN [_,_]) Si) λg3=>?_
 refine Rs (A2 t0 t1) ?_;rw[rZ,dw De,dA];congr 2;simp only[UT,aO];congr 1;exact propext ⟨λz=>(by have:V.aD.lines.length=V.lines.length:=rfl;omega),λz=>(by have:V.aD.lines.length=V.lines.length:=rfl;omega)⟩
def r151{V x}(c:Cx h V x .tape):ak P 151 [.agg V.row,.agg x.row] h (λv _=>v=.i (dA V.aD x.ev .tape)):=by
 refine .eQ 23 T.mix T.c151 ?_;intro ts hlen t0 t1;unfold fn151;have Oj:=@aG.box _ _ c.o;have hex:=@aZ.box _ _ c.e;have i0:bh 1 x.sv (.i 0)=_:=(c.vl (i:=0) De).1;have d0:=@(c.vl (i:=0) De).2.1;have i1:bh 1 x.sv (.i 1)=_:=(c.vl (i:=1) De).1;have d1:=@(c.vl (i:=1) De).2.1;have q0:=(c.vl (i:=0) De).2.2;have q1:=(c.vl (i:=1) De).2.2;have hw:IntKind.i64.wrap (cC x.ev 0+cC x.ev 1)=cC x.ev 0+cC x.ev 1:=aH Om Om;refine Rs (uO t0 t1 @Oj @hex @bY @i0 @d0 @i1 @d1 @hw) ?_;refine WF.ce T.c85 (r85 T _ _) λg1=>?_
 refine Rs (A4 t0 t1 @tg c.o.i1.aS) ?_;refine WF.ce T.c85 (r85 T _ _) λg2=>?_
 refine Rs (A2 t0 t1) ?_;refine WF.ce T.c74 (r74 T (bN [_,_]) Si) λg3=>?_
 refine Rs (A2 t0 t1) ?_;rw[dw De,dw De,dA];congr 1;simp only[UT,aO];have e:((16:Int)<=(V.aK.length:Int))=(16<=V.aD.aK.length):=propext ⟨λz=>(by have:V.aD.aK.length=V.aK.length:=rfl;omega),λz=>(by have:V.aD.aK.length=V.aK.length:=rfl;omega)⟩;simp only[e]
def r241{V x n d}(c:Cx h V x d)(hd:0<a8 d)(hn:n∈kZ V.aD):ak P 241 [.agg V.row,.agg x.row,.str n] h (λv _=>v=.i (bB (!nS V.aD (cC x.ev 0) n) 30)):=by
 refine .uP 17 T.mix T.c241 ?_;intro ts hlen t0 t1 t2;unfold fn241 gA;have Oj:=@aG.box _ _ c.o;have hex:=@aZ.box _ _ c.e;have i0:bh 1 x.sv (.i 0)=_:=(c.vl (i:=0) hd).1;have d0:=@(c.vl (i:=0) hd).2.1;refine Rs (A6 t0 t1 t2 @Oj @hex @bM) ?_;refine WF.ce T.c134 (r134 T (c.o.ext Xx) c.w.len hn) λg1=>?_
 refine Rs (A6 t0 t1 t2 @bY @i0 @d0) ?_;refine WF.ce T.c135 (r135 T _ _) λg2=>?_
 refine Rs (A3 t0 t1 t2) ?_;refine WF.ce T.c85 (r85 T _ _) λg3=>?_
 refine Rs (A3 t0 t1 t2) ?_;rfl
def r155{V x}(c:Cx h V x .iY):ak P 155 [.agg V.row,.agg x.row] h (λv _=>v=.i (dA V.aD x.ev .iY)):=by
 refine .eQ 27 T.mix T.c155 ?_;intro ts hlen t0 t1;unfold fn155;have Oj:=@aG.box _ _ c.o;have hex:=@aZ.box _ _ c.e;have i1:bh 1 x.sn (.i 1)=_:=(c.nm (i:=1) De).1;have d1:=@(c.nm (i:=1) De).2;have i2:bh 1 x.sn (.i 2)=_:=(c.nm (i:=2) De).1;have d2:=@(c.nm (i:=2) De).2;have k1:bt x.ev 1∈jQ V.aD:=c.nk.kn 1 0 rfl;have k2:bt x.ev 2∈kZ V.aD:=c.nk.kn 2 1 rfl;refine Rs (A8 t0 t1 @Oj @hex @bM @bD @i1 @d1) ?_;refine WF.ce T.c205 (r205 T (c.o.ext Xx) c.w.len k1) λg1=>?_
 unfold cp;refine Rs (A2 t0 t1) ?_;refine WF.ce T.c85 (r85 T _ _) λg2=>?_
 refine Rs (A7 t0 t1 @bM @bW @bD @i2 @d2) ?_;refine WF.ce T.c241 (r241 T (c.ext Xx) De k2) λg3=>?_
 refine Rs (A4 t0 t1 @jU c.o.i2.aS) ?_;refine WF.ce T.c85 (r85 T _ _) λg4=>?_
 refine Rs (A2 t0 t1) ?_;refine WF.ce T.c74 (r74 T (bN [_,_,_]) Si) λg5=>?_
 refine Rs (A2 t0 t1) ?_;rw[dw De,dw De,dw De,dA];simp only[UT,aO];have e:((64:Int)<=(V.ao.length:Int))=(64<=V.aD.ao.length):=by
  have:V.aD.ao.length=V.ao.length:=by simp[RV.aD]
  exact E9
 simp only[e]
end
def zt{R a b}(ha:a∈kZ R)(hb:b∈kZ R):(decide ((jJ R a).name=(jJ R b).name)&&(decide ((jJ R a).last=(jJ R b).last)&&true))=decide (a=b):=by
 have e1:(jJ R a).name=a:=gg ha;have e2:(jJ R b).name=b:=gg hb;by_cases h:a=b
 ·subst h;simp
 ·rw[e1,e2];simp[h]
section
variable {P:Program}(T:eF P) {h:af}
include T
def r157{V x}(c:Cx h V x .copy):ak P 157 [.agg V.row,.agg x.row] h (λv _=>v=.i (dA V.aD x.ev .copy)):=by
 refine .eQ 35 T.mix T.c157 ?_;intro ts hlen t0 t1;unfold fn157;have Oj:=@aG.box _ _ c.o;have hex:=@aZ.box _ _ c.e;have i0:bh 1 x.sn (.i 0)=_:=(c.nm (i:=0) De).1;have d0:=@(c.nm (i:=0) De).2;have i1:bh 1 x.sn (.i 1)=_:=(c.nm (i:=1) De).1;have d1:=@(c.nm (i:=1) De).2;have k0:bt x.ev 0∈kZ V.aD:=c.nk.kn 0 1 rfl;have k1:bt x.ev 1∈kZ V.aD:=c.nk.kn 1 1 rfl;refine Rs (A8 t0 t1 @Oj @hex @bM @bD @i0 @d0) ?_;refine WF.ce T.c134 (r134 T (c.o.ext Xx) c.w.len k0) λg1=>?_
 refine Rs (A6 t0 t1 @bM @bD @i1 @d1) ?_;refine WF.ce T.c134 (r134 T (c.o.ext Xx) c.w.len k1) λg2=>?_
 unfold eP;refine Rs (A2 t0 t1) ?_;refine WF.ce T.c85 (r85 T _ _) λg3=>?_
 rw[zt k0 k1];have n0:(jJ V.aD (bt x.ev 0)).name=bt x.ev 0:=gg k0;have n1:(jJ V.aD (bt x.ev 1)).name=bt x.ev 1:=gg k1;refine Rs (A6 t0 t1 @bM @bW @n0 @n1) ?_;refine WF.ce T.c241 (r241 T (c.ext Xx) De k0) λg4=>?_
 refine Rs (A6 t0 t1 @bM @bW @n0 @n1) ?_;refine WF.ce T.c241 (r241 T (c.ext Xx) De k1) λg5=>?_
 refine Rs (A2 t0 t1) ?_;refine WF.ce T.c74 (r74 T (bN [_,_,_]) Si) λg6=>?_
 refine Rs (A2 t0 t1) ?_;rw[dw De,dw De,dw De,dA];simp only[UT,aO];exact⟨Xx,trivial⟩
def r161{V x}(o:aG h V)(e:aZ h x):ak P 161 [.agg V.row,.agg x.row] h (λv _=>v=.i (bB (decide (32<=V.aD.aJ.length)) 5)):=by
 refine .eQ 10 T.mix T.c161 ?_;intro ts hlen t0 t1;unfold fn161 gA;have Oj:=@aG.box _ _ o;have hex:=@aZ.box _ _ e;refine Rs (A6 t0 t1 @Oj @hex @kQ o.i3.aS) ?_;refine WF.ce T.c85 (r85 T _ _) λg1=>?_
 refine Rs (A2 t0 t1) ?_;have e:decide ((32:Int)<=(V.aJ.length:Int))=decide (32<=V.aD.aJ.length):=by
  have:V.aD.aJ.length=V.aJ.length:=by simp[RV.aD]
  rw[Wb];omega
 rw[e]
def r244{V x d}(c:Cx h V x d)(hd:0<a8 d){y}(hm:y∈V.ao){b b'}(hb:h[b]? =some (.b V.row))(hb':h[b']? =some (.b x.row)):
  ak P 244 [.agg (bg y),.ptr b 0,.ptr b' 0] h (λv _=>v=.bool (!jK V.aD y.1 (cC x.ev 0))):=by
 refine .uP 13 T.mix T.c244 ?_;intro ts hlen t0 t1 t2;unfold fn244 gA;have oy:=(c.o.e2 y hm).one;have lb:∀{k:af}{n:Option Nat}{a:Nat},Ext h k->aq n (.ptr b a) (λz=>k[z]?)=dI n a (.b V.row):=λe=>az (e.some hb)
 have lc:∀{k:af}{n:Option Nat}{a:Nat},Ext h k->aq n (.ptr b' a) (λz=>k[z]?)=dI n a (.b x.row):=λe=>az (e.some hb')
 have i0:bh 1 x.sv (.i 0)=_:=(c.vl (i:=0) hd).1;have d0:=@(c.vl (i:=0) hd).2.1;have hsf:=λ(k:af) (e:Ext h k)=>r76 T (c.o.ext e) c.w.len ((c.o.e2 y hm).ext e) (c.w.AN.sh y hm).2 (c.w.AN.sh y hm).1 (cC x.ev 0)
 unfold bg at t0 hsf;refine Rs (uO t0 t1 t2 @oy @lb @lc @bM @bY @i0 @d0) ?_;refine WF.ce T.c76 (hsf _ Xx) λg1=>?_
 exact Ed
def r159{V x}(c:Cx h V x .accept):ak P 159 [.agg V.row,.agg x.row] h (λv _=>v=.i (dA V.aD x.ev .accept)):=by
 refine .eQ 36 T.mix T.c159 ?_;intro ts hlen t0 t1;unfold fn159;have Oj:=@aG.box _ _ c.o;have hex:=@aZ.box _ _ c.e;have i0:bh 1 x.sn (.i 0)=_:=(c.nm (i:=0) De).1;have d0:=@(c.nm (i:=0) De).2;have k0:bt x.ev 0∈jQ V.aD:=c.nk.kn 0 0 rfl;refine Rs (A8 t0 t1 @Oj @hex @bM @bD @i0 @d0) ?_;refine WF.ce T.c205 (r205 T (c.o.ext Xx) c.w.len k0) λg1=>?_
 unfold cp;refine Rs (A6 t0 t1 @bM @bD @i0 @d0) ?_;refine WF.res T.c206 (r206 T (c.o.ext Xx) c.w.len _) ?_;rintro s2 g2 OX;refine Rs (A2 t0 t1) ?_;have hin:∀y∈V.ao.filter (λy=>decide (y.1.line=bt x.ev 0)),y∈V.ao:=λy hy=>(VQ.1 hy).1
 have O1:(V.ao.filter (λy=>decide (y.1.line=bt x.ev 0))).length<=V.ao.length:=U7 _ _;have PZ:=c.w.len.l2;refine WF.res T.c243 (r243 T (OX.ext Xx) Om (λy=>!jK V.aD y.1 (cC x.ev 0)) (λy hy k e=>aV.of (a:=[]) (c:=[.ptr h.length 0,.ptr (h++[ai.b V.row]).length 0]) T.c244 (r244 T (c.ext (Ext.trans Xx e)) De (hin y hy) (e.some ?_) (e.some ?_)))) ?_
 ·exact sd
 ·exact qk
 rintro _ g3 rfl;refine Rs (A2 t0 t1) ?_;refine WF.ce T.c85 (r85 T _ _) λg4=>?_
 have hl2:=OX.aS;refine Rs (A3 t0 t1 @hl2) ?_;refine WF.ce T.c85 (r85 T _ _) λg5=>?_
 refine Rs (A2 t0 t1) ?_;refine WF.ce T.c85 (r85 T _ _) λg6=>?_
 refine Rs (A2 t0 t1) ?_;refine WF.ce T.c74 (r74 T (bN [_,_,_]) Si) λg7=>?_
 refine Rs (A2 t0 t1) ?_;rw[dw De,dw De,dw De,dA];have e1:(Cg V.aD (bt x.ev 0))=(V.ao.filter (λy=>decide (y.1.line=bt x.ev 0))).map Prod.fst:=by
  show List.filter _ (List.map Prod.fst V.ao)=_;rw[WA];rfl
 rw[e1,Uv,List.any_map];simp only[UT,aO];refine⟨Xx,?_⟩;rfl
def r163{V x}(c:Cx h V x .iP)(gl:Gl h):ak P 163 [.agg V.row,.agg x.row] h (λv _=>v=.i (dA V.aD x.ev .iP)):=by
 refine .eQ 35 T.mix T.c163 ?_;intro ts hlen t0 t1;unfold fn163;have Oj:=@aG.box _ _ c.o;have hex:=@aZ.box _ _ c.e;have i1:bh 1 x.sn (.i 1)=_:=(c.nm (i:=1) De).1;have d1:=@(c.nm (i:=1) De).2;have j1:bh 1 x.sv (.i 1)=_:=(c.vl (i:=1) De).1;have f1:=@(c.vl (i:=1) De).2.1;have k1:bt x.ev 1∈jX V.aD:=c.nk.kn 1 3 rfl;obtain⟨gmu,gtl,hg0⟩:=gl;rw[dA];by_cases hn:1<=cC x.ev 1/\cC x.ev 1<=4
 case neg=>
  have hr:bn (cC x.ev 1) 1 4≠0:=by unfold bn;rw[Ut Om];decide
  rw[Ut hr];by_cases ha:cC x.ev 1<1
  ·have q1:decide (cC x.ev 1<1)=true:=Uk ha;exact Rs (A8 t0 t1 @Oj @hex @bY @j1 @f1 q1) Tv
  ·have q1:decide (cC x.ev 1<1)=false:=Uh ha;have q2:decide (4<cC x.ev 1)=true:=Uk Om;exact Rs (A9 t0 t1 @Oj @hex @bY @j1 @f1 q1 q2) Tv
 have hr:¬bn (cC x.ev 1) 1 4≠0:=by unfold bn;rw[Ur Om];decide
 rw[Ur hr];have q1:decide (cC x.ev 1<1)=false:=Uh Om;have q2:decide (4<cC x.ev 1)=false:=Uh Om;have hw:IntKind.i64.wrap (cC x.ev 1-1)=cC x.ev 1-1:=aH Om Om;have a1:kS 4 2 (.ptr 0 0) (.i (cC x.ev 1-1))=some (.ptr 0 ((cC x.ev 1-1).toNat*2)):=by simp only[kS];rw[Ut Om,UX]
 have a2:kS 2 1 (.ptr 0 ((cC x.ev 1-1).toNat*2)) (.i 0)=some (.ptr 0 ((cC x.ev 1-1).toNat*2)):=by simp[kS]
 have lg:∀{k:af},Ext h k->aq none (.ptr 0 ((cC x.ev 1-1).toNat*2)) (λb=>k[b]?)=some (.str (zu (cC x.ev 1)),.ar):=by
  intro k e;exact Nc
 refine Rs (Hk t0 t1 @Oj @hex @bD @bY @j1 @f1 q1 q2 @bM @i1 @d1) ?_;refine WF.res T.c245 (r245 T (c.o.ext Xx) c.w.len k1) ?_;rintro _ g1 ⟨y,hy,Rm,rfl⟩;unfold aP;refine Rs (A6 t0 t1 @hw @a1 @a2 @lg) ?_;refine WF.ce T.c85 (r85 T _ _) λg2=>?_
 refine Rs (A4 t0 t1 @bM @bW) ?_;refine WF.ce T.c161 (r161 T (c.o.ext Xx) (c.e.ext Xx)) λg3=>?_
 refine Rs (A2 t0 t1) ?_;refine WF.ce T.c74 (r74 T (bN [_,_]) Si) λg4=>?_
 refine Rs (A2 t0 t1) ?_;rw[dw De,dw De,Rm];simp only[UT,aO]
def r165{V x}(c:Cx h V x .merge):ak P 165 [.agg V.row,.agg x.row] h (λv _=>v=.i (dA V.aD x.ev .merge)):=by
 refine .eQ 36 T.mix T.c165 ?_;intro ts hlen t0 t1;unfold fn165;have Oj:=@aG.box _ _ c.o;have hex:=@aZ.box _ _ c.e;have i1:bh 1 x.sn (.i 1)=_:=(c.nm (i:=1) De).1;have d1:=@(c.nm (i:=1) De).2;have i2:bh 1 x.sn (.i 2)=_:=(c.nm (i:=2) De).1;have d2:=@(c.nm (i:=2) De).2;have k1:bt x.ev 1∈jX V.aD:=c.nk.kn 1 3 rfl;have k2:bt x.ev 2∈jX V.aD:=c.nk.kn 2 3 rfl;refine Rs (A9 t0 t1 @Oj @hex @bD @i1 @d1 @i2 @d2) ?_;refine WF.ce T.c85 (r85 T _ _) λg1=>?_
 refine Rs (A6 t0 t1 @bM @bD @i1 @d1) ?_;refine WF.res T.c245 (r245 T (c.o.ext Xx) c.w.len k1) ?_;rintro _ g2 ⟨y,hy,Rm,rfl⟩;unfold aP;refine Rs (A6 t0 t1 @bM @bD @i2 @d2) ?_;refine WF.res T.c245 (r245 T (c.o.ext Xx) c.w.len k2) ?_;rintro _ g3 ⟨z,hz,hz1,rfl⟩;unfold aP;refine Rs (A2 t0 t1) ?_;refine WF.ce T.c85 (r85 T _ _) λg4=>?_
 refine Rs (A4 t0 t1 @bM @bW) ?_;refine WF.ce T.c161 (r161 T (c.o.ext Xx) (c.e.ext Xx)) λg5=>?_
 refine Rs (A2 t0 t1) ?_;refine WF.ce T.c74 (r74 T (bN [_,_,_]) Si) λg6=>?_
 refine Rs (A2 t0 t1) ?_;rw[dw De,dw De,dw De,dA,Rm,hz1];simp only[UT,aO]
def r247(y:jO):ak P 247 [.agg (cp y)] h (λv _=>v=.bool (!y.acc)):=by
 refine .of T.mix T.c247 ?_;unfold fn247 gA cp;exact Wn Tv
def r167{V x}(c:Cx h V x .run):ak P 167 [.agg V.row,.agg x.row] h (λv _=>v=.i (dA V.aD x.ev .run)):=by
 refine .eQ 27 T.mix T.c167 ?_;intro ts hlen t0 t1;unfold fn167 gA;have Oj:=@aG.box _ _ c.o;have hex:=@aZ.box _ _ c.e;have i1:bh 1 x.sn (.i 1)=_:=(c.nm (i:=1) De).1;have d1:=@(c.nm (i:=1) De).2;have j1:bh 1 x.sv (.i 1)=_:=(c.vl (i:=1) De).1;have f1:=@(c.vl (i:=1) De).2.1;have hin:∀y∈V.aJ,y.1.bF.length<2^30:=λy hy=>by have:=(c.w.md y.1 (UP hy)).2.1;omega
 refine Rs (A8 t0 t1 @Oj @hex @bM @bD @i1 @d1) ?_;refine WF.res T.c122 (r122 T (c.o.ext Xx) c.w.len hin _) ?_;rintro s1 g1 PS;have hsl:(jT V.aD (bt x.ev 1)).length<=V.lines.length:=U7 _ _;have PZ:=c.w.len.l0;refine Rs (A2 t0 t1) ?_;refine WF.ce T.c246 (r246 T PS Om (λy=>!y.acc) (λy hy k e=>aV.of (a:=[]) (c:=[]) T.c247 (r247 T y))) λg2=>?_
 refine Rs (A2 t0 t1) ?_;refine WF.ce T.c85 (r85 T _ _) λg3=>?_
 refine Rs (A5 t0 t1 @bY @j1 @f1) ?_;refine WF.ce T.c94 (r94 T _ _ _) λg4=>?_
 refine Rs (A4 t0 t1 @qA c.o.i4.aS) ?_;refine WF.ce T.c85 (r85 T _ _) λg5=>?_
 refine Rs (A2 t0 t1) ?_;refine WF.ce T.c74 (r74 T (bN [_,_,_]) Si) λg6=>?_
 refine Rs (A2 t0 t1) ?_;rw[dw De,rZ,dw De,dA];simp only[UT,aO];have e:((16:Int)<=(V.aI.length:Int))=(16<=V.aD.aI.length):=by
  have:V.aD.aI.length=V.aI.length:=by simp[RV.aD]
  exact E9
 simp only[e]
end
theorem qR:∀{l m}{i},dC (l++m) i=dC l i++dC m (i+l.length)
 |[],m,i=>by simp[dC]
 |x::l,m,i=>by
  have e:i+1+l.length=i+(x::l).length:=by simp;omega
  rw[Vp,dC,dC,qR,e];split<;>simp
theorem ku:∀{l}{i},(dC l i).length<=l.length
 |[],i=>by simp[dC]
 |x::l,i=>by
  have:=ku (l:=l) (i:=i+1);rw[dC];split<;>simp<;>omega
section
variable {P:Program}(T:eF P) {h:af}
include T
def r125{x}(hx:aB h x.2 1 (x.1.b9.map aE))(hl:x.1.b9.length<2^30)(hs:∀s∈x.1.b9,-1<=s):ak P 125 [.agg (bS x)] h (λv h'=>aB h' v 1 ((dC x.1.b9 0).map aE)):=by
 refine .jP 23 T.mix T.c125 ?_;intro ts hlen t0;unfold fn125 gA;have ox:=hx.one;unfold bS at t0;refine Rs (A3 t0 @ox hx.aS) ?_;obtain⟨H0,Rh⟩:∃H0,H0=h++[ai.b [AV.str x.1.name,.str x.1.mod,x.2]]:=⟨_,rfl⟩;have e0:Ext h H0:=by rw[Rh];exact Xx
 have lb:∀{k n a},Ext H0 k->aq n (.ptr h.length a) (λz=>k[z]?)=dI n a (.b [AV.str x.1.name,.str x.1.mod,x.2]):=λ{_ _ _} e=>az (e.some (by rw[Rh];exact bO))
 rw[<-Rh];refine WL.inv T.mix (λn ts h'=>∃(k:Nat) (out:AV),k<=x.1.b9.length/\n=x.1.b9.length-k/\Ext H0 h'/\Fr H0.length h' out 1 ((dC (x.1.b9.take k) 0).map aE)/\
   ts.length=23/\slot ts 1=.ptr h.length 0/\slot ts 3=out/\slot ts 7=.i x.1.b9.length/\slot ts 8=.i k) x.1.b9.length
  ⟨0,.ah,Om,rfl,Ext.refl _,.nil,Sn,(Sq t0),(Sq t0),(Sq t0),iR⟩ ?_
 rintro _ ts _ ⟨k,out,hk',rfl,⟨g,rfl⟩,hfr,hlen,t1,t3,t7,t8⟩;by_cases hlt:k<x.1.b9.length
 ·have e3:=gh hlt;have ix:=hx.fx (kk:=.i64) hlt;have ld:∀{k':af},Ext H0 k'->aq none (eO x.2 1 k) (λb=>k'[b]?)=some (.i x.1.b9[k],.ar):=λ{k'} e=>hx.kK hlt rfl (e0.trans e)
  have e5:=wrapN (n:=k) Om;have OK:dC (x.1.b9.take (k+1)) 0=dC (x.1.b9.take k) 0++(if x.1.b9[k]<0 then [(k:Int)]else []):=by
   rw[U9,Uj hlt,qR];simp only[Option.toList_some,dC,UX,U6];rw[V5 Om]
  have hsk:=hs _ (UB hlt);by_cases hn:x.1.b9[k]= -1
  ·have q:decide (x.1.b9[k]= -1)=true:=Uk hn;rw[Ut Om]at OK;refine Rs (A9 t1 t3 t7 t8 e3 @lb ix @ld q) ?_;have PZ:=ku (l:=x.1.b9.take k) (i:=0);refine WR.gj (h0:=H0) (cs:=(dC (x.1.b9.take k) 0).map aE) (ys:=[aE (k:Int)]) (hfr.app _) (Fr.push (N:=0) (UK _) [aE (k:Int)] Si).aM De Si (by simp only[Uv,U6,Ui,Ul]at PZ ⊢;omega) Xx ?_;intro g' OJ hff hkp;have hrow:(dC (x.1.b9.take k) 0).map aE++[aE (k:Int)]=(dC (x.1.b9.take (k+1)) 0).map aE:=by rw[OK,Up];rfl
   rw[hrow]at hff;rw[hrow];refine Rs (A5 t1 t3 t7 t8 e5) ?_;exact⟨_,Om,k+1,_,Om,rfl,hff,rfl,rfl⟩
  ·have q:decide (x.1.b9[k]= -1)=false:=Uh hn;rw[Ur Om,UE]at OK;rw[<-OK]at hfr;refine Rs (uO t1 t3 t7 t8 e3 @lb ix @ld q e5) ?_;exact⟨_,Om,k+1,_,Om,rfl,hfr,rfl,rfl⟩
 ·have e3:=gG hlt;have e4:k=x.1.b9.length:=Om
  rw[e4,UU]at hfr;have:=hfr.aM;refine Rs (A5 t1 t3 t7 t8 e3) ?_;exact⟨e0.trans Xx,this⟩
def r249{V x d}(c:Cx h V x d)(hd:1<a8 d)(h0:0<(aC d).length)(k0:bt x.ev 0∈iT V.aD):ak P 249 [.agg V.row,.agg x.row] h (λv _=>v=.i (nB V.aD x.ev)):=by
 refine .eQ 28 T.mix T.c249 ?_;intro ts hlen t0 t1;unfold fn249;have Oj:=@aG.box _ _ c.o;have hex:=@aZ.box _ _ c.e;have i0:bh 1 x.sn (.i 0)=_:=(c.nm (i:=0) h0).1;have d0:=@(c.nm (i:=0) h0).2;have j1:bh 1 x.sv (.i 1)=_:=(c.vl (i:=1) hd).1;have f1:=@(c.vl (i:=1) hd).2.1;have q1:=(c.vl (i:=1) hd).2.2;refine Rs (A8 t0 t1 @Oj @hex @bM @bD @i0 @d0) ?_;refine WF.ce T.c251 (r251 T (c.o.ext Xx) c.w.len _) λg1=>?_
 refine Rs (A2 t0 t1) ?_;refine WF.ce T.c85 (r85 T _ _) λg2=>?_
 refine Rs (A9 t0 t1 @bY @j1 @f1 @bM @bD @i0 @d0) ?_;refine WF.res T.c124 (r124 T (c.o.ext Xx) c.w.len k0) ?_;rintro _ g3 ⟨y,hy,Rm,rfl⟩;have Qa:=(c.o.e4 y hy).aS;have QL:=(c.w.jb y.1 (UP hy)).2;have hw:IntKind.i64.wrap ((y.1.b9.length:Int)-1)=(y.1.b9.length:Int)-1:=aH Om Om;unfold bS;refine Rs (A4 t0 t1 @Qa @hw) ?_;refine WF.ce T.c94 (r94 T _ _ _) λg4=>?_
 refine Rs (A2 t0 t1) ?_;refine WF.ce T.c74 (r74 T (bN [_,_]) Si) λg5=>?_
 refine Rs (A2 t0 t1) ?_;rw[dw De,rZ,nB,<-Rm];have e:(bn (cC x.ev 1) 0 ((y.1.b9.length:Int)-1)≠0)=((y.1.b9.length:Int)<=cC x.ev 1):=by
  unfold bn;refine propext ⟨λz=>?_,λz=>?_⟩
  ·split at z
   ·omega
   ·exact absurd rfl z
  ·rw[Ut Om];decide
 simp only[e,aO]
def r169{V x}(c:Cx h V x .iW):ak P 169 [.agg V.row,.agg x.row] h (λv _=>v=.i (dA V.aD x.ev .iW)):=by
 refine .eQ 27 T.mix T.c169 ?_;intro ts hlen t0 t1;unfold fn169 gA;have Oj:=@aG.box _ _ c.o;have hex:=@aZ.box _ _ c.e;have i0:bh 1 x.sn (.i 0)=_:=(c.nm (i:=0) De).1;have d0:=@(c.nm (i:=0) De).2;have j1:bh 1 x.sv (.i 1)=_:=(c.vl (i:=1) De).1;have f1:=@(c.vl (i:=1) De).2.1;have q1:=(c.vl (i:=1) De).2.2;have k0:bt x.ev 0∈iT V.aD:=c.nk.kn 0 4 rfl;refine Rs (A6 t0 t1 @Oj @hex @bM @bW) ?_;refine WF.ce T.c249 (r249 T (c.ext Xx) De De k0) λg1=>?_
 by_cases hb:nB V.aD x.ev=0
 case neg=>
  exact MV
 have e1:decide (nB V.aD x.ev≠0)=false:=Uh (λz=>z hb);refine Rs (A7 t0 t1 e1 @bM @bD @i0 @d0) ?_;refine WF.res T.c124 (r124 T (c.o.ext Xx) c.w.len k0) ?_;rintro _ g2 ⟨y,hy,Rm,rfl⟩;have QL:=(c.w.jb y.1 (UP hy)).2;have hlt:(cC x.ev 1).toNat<y.1.b9.length:=by
  exact HN
 have ev1:cC x.ev 1=((cC x.ev 1).toNat:Int):=Om
 have iy:bh 1 y.2 (.i (cC x.ev 1))=some (eO y.2 1 (cC x.ev 1).toNat,.ar):=by
  rw[ev1];exact(c.o.e4 y hy).fx hlt
 have hsm:jS V.aD x.ev=y.1.b9[(cC x.ev 1).toNat]:=by
  exact z130
 have ly:∀{k:af},Ext h k->aq none (eO y.2 1 (cC x.ev 1).toNat) (λb=>k[b]?)=some (.i (jS V.aD x.ev),.ar):=λ{k} e=>by
  rw[hsm];exact(c.o.e4 y hy).kK hlt rfl e
 have hsb:=QL.2.2 _ (UB hlt);rw[<-hsm]at hsb;unfold bS;refine Rs (A7 t0 t1 @bY @j1 @f1 @iy @ly) ?_;refine WF.ce T.c85 (r85 T _ _) λg3=>?_
 refine Rs (A2 t0 t1) ?_;rw[dA,Ur (λz=>z hb),bB];have e2:(decide (jS V.aD x.ev≠-1)=true)=(0<=jS V.aD x.ev):=by
  exact z138
 simp only[e2]
def r171{V x}(c:Cx h V x .fail):ak P 171 [.agg V.row,.agg x.row] h (λv _=>v=.i (dA V.aD x.ev .fail)):=by
 refine .eQ 27 T.mix T.c171 ?_;intro ts hlen t0 t1;unfold fn171;have Oj:=@aG.box _ _ c.o;have hex:=@aZ.box _ _ c.e;have i0:bh 1 x.sn (.i 0)=_:=(c.nm (i:=0) De).1;have d0:=@(c.nm (i:=0) De).2;have j1:bh 1 x.sv (.i 1)=_:=(c.vl (i:=1) De).1;have f1:=@(c.vl (i:=1) De).2.1;have q1:=(c.vl (i:=1) De).2.2;have k0:bt x.ev 0∈iT V.aD:=c.nk.kn 0 4 rfl;refine Rs (A6 t0 t1 @Oj @hex @bM @bW) ?_;refine WF.ce T.c249 (r249 T (c.ext Xx) De De k0) λg1=>?_
 by_cases hb:nB V.aD x.ev=0
 case neg=>
  exact MV
 have e1:decide (nB V.aD x.ev≠0)=false:=Uh (λz=>z hb);refine Rs (A7 t0 t1 e1 @bM @bD @i0 @d0) ?_;refine WF.res T.c124 (r124 T (c.o.ext Xx) c.w.len k0) ?_;rintro _ g2 ⟨y,hy,Rm,rfl⟩;have QL:=(c.w.jb y.1 (UP hy)).2;have hlt:(cC x.ev 1).toNat<y.1.b9.length:=by
  exact HN
 have ev1:cC x.ev 1=((cC x.ev 1).toNat:Int):=Om
 have iy:bh 1 y.2 (.i (cC x.ev 1))=some (eO y.2 1 (cC x.ev 1).toNat,.ar):=by
  rw[ev1];exact(c.o.e4 y hy).fx hlt
 have hsm:jS V.aD x.ev=y.1.b9[(cC x.ev 1).toNat]:=by
  exact z130
 have ly:∀{k:af},Ext h k->aq none (eO y.2 1 (cC x.ev 1).toNat) (λb=>k[b]?)=some (.i (jS V.aD x.ev),.ar):=λ{k} e=>by
  rw[hsm];exact(c.o.e4 y hy).kK hlt rfl e
 have hsb:=QL.2.2 _ (UB hlt);rw[<-hsm]at hsb;unfold bS;refine Rs (A7 t0 t1 @bY @j1 @f1 @iy @ly) ?_;refine WF.ce T.c85 (r85 T _ _) λg3=>?_
 refine Rs (A2 t0 t1) ?_;rw[dA,Ur (λz=>z hb),bB];have e2:(decide (jS V.aD x.ev= -1)=true)=(jS V.aD x.ev<0):=by
  exact z138
 simp only[e2]
def r173{V x}(c:Cx h V x .jd):ak P 173 [.agg V.row,.agg x.row] h (λv _=>v=.i (dA V.aD x.ev .jd)):=by
 refine .eQ 31 T.mix T.c173 ?_;intro ts hlen t0 t1;unfold fn173;have Oj:=@aG.box _ _ c.o;have hex:=@aZ.box _ _ c.e;have i1:bh 1 x.sn (.i 1)=_:=(c.nm (i:=1) De).1;have d1:=@(c.nm (i:=1) De).2;have k1:bt x.ev 1∈iT V.aD:=c.nk.kn 1 4 rfl;refine Rs (A8 t0 t1 @Oj @hex @bM @bD @i1 @d1) ?_;refine WF.res T.c124 (r124 T (c.o.ext Xx) c.w.len k1) ?_;rintro _ g1 ⟨y,hy,Rm,rfl⟩;have QL:=(c.w.jb y.1 (UP hy)).2;refine Rs (A2 t0 t1) ?_;refine WF.res T.c125 (r125 T (x:=y) ((c.o.e4 y hy).ext Xx) Om (λs hs=>(QL.2.2 s hs).1)) ?_;rintro s2 g2 OX;have hl2:=OX.aS;refine Rs (A6 t0 t1 @bM @bD @i1 @d1) ?_
 refine WF.ce T.c251 (r251 T (c.o.ext Xx) c.w.len _) λg3=>?_
 refine Rs (A2 t0 t1) ?_;refine WF.ce T.c85 (r85 T _ _) λg4=>?_
 refine Rs (A3 t0 t1 @hl2) ?_;refine WF.ce T.c85 (r85 T _ _) λg5=>?_
 refine Rs (A4 t0 t1 @lS c.o.i5.aS) ?_;refine WF.ce T.c85 (r85 T _ _) λg6=>?_
 refine Rs (A2 t0 t1) ?_;refine WF.ce T.c74 (r74 T (bN [_,_,_]) Si) λg7=>?_
 refine Rs (A2 t0 t1) ?_;rw[dw De,dw De,dw De,dA,<-Rm];have e1:(decide ((0:Int)<((dC y.1.b9 0).length:Int))=true)=(dC y.1.b9 0≠[]):=by
  rw[UT];refine propext ⟨λz e=>by rw[e]at z;simp at z,λz=>by have:=VU.2 z;omega⟩
 have e2:(decide ((16:Int)<=(V.aU.length:Int))=true)=(16<=V.aD.aU.length):=by
  rw[UT];have:V.aD.aU.length=V.aU.length:=rfl;exact E9
 simp only[e1,e2,aO];exact⟨Xx,trivial⟩
def r175{V x}(c:Cx h V x .rel):ak P 175 [.agg V.row,.agg x.row] h (λv _=>v=.i (dA V.aD x.ev .rel)):=by
 refine .eQ 13 T.mix T.c175 ?_;intro ts hlen t0 t1;unfold fn175 gA;have Oj:=@aG.box _ _ c.o;have hex:=@aZ.box _ _ c.e;have i0:bh 1 x.sn (.i 0)=_:=(c.nm (i:=0) De).1;have d0:=@(c.nm (i:=0) De).2;have k0:bt x.ev 0∈lF V.aD:=c.nk.kn 0 5 rfl;refine Rs (A8 t0 t1 @Oj @hex @bM @bD @i0 @d0) ?_;refine WF.ce T.c218 (r218 T (c.o.ext Xx) c.w.len k0) λg1=>?_
 unfold dN;refine Rs (A2 t0 t1) ?_;refine WF.ce T.c85 (r85 T _ _) λg2=>?_
 refine Rs (A2 t0 t1) ?_;rw[dA,bB]
def MB{V x d}(hd:d≠.fW)(c:Cx h V x d)(gl:Gl h):aV P (jh d) [.agg V.row,.agg x.row] h (λv _=>v=.i (dA V.aD x.ev d)):=by
 cases d with
 |fW=>exact absurd rfl hd
 |line=>exact aV.of (a:=[]) (c:=[]) T.c148 (r148 T c)
 |tape=>exact aV.of (a:=[]) (c:=[]) T.c151 (r151 T c)
 |iY=>exact aV.of (a:=[]) (c:=[]) T.c155 (r155 T c)
 |copy=>exact aV.of (a:=[]) (c:=[]) T.c157 (r157 T c)
 |accept=>exact aV.of (a:=[]) (c:=[]) T.c159 (r159 T c)
 |source=>
  refine aV.of (a:=[]) (c:=[]) T.c161 ((r161 T c.o c.e).mono λv g hv=>?_);rw[hv,dA,bB];simp only[UT]
 |iP=>exact aV.of (a:=[]) (c:=[]) T.c163 (r163 T c gl)
 |merge=>exact aV.of (a:=[]) (c:=[]) T.c165 (r165 T c)
 |run=>exact aV.of (a:=[]) (c:=[]) T.c167 (r167 T c)
 |iW=>exact aV.of (a:=[]) (c:=[]) T.c169 (r169 T c)
 |fail=>exact aV.of (a:=[]) (c:=[]) T.c171 (r171 T c)
 |jd=>exact aV.of (a:=[]) (c:=[]) T.c173 (r173 T c)
 |rel=>exact aV.of (a:=[]) (c:=[]) T.c175 (r175 T c)
end
def gR{l1 l2:List (Option Nat)}{a y:Option Nat}(h:y∈l1\/y∈l2):y∈l1++a::l2:=by rcases h with h|h<;>simp[h]
def tM{l1 l2:List (Option Nat)}{a y:Option Nat}(h:y∈l1++a::l2):y∈l1\/y=a\/y∈l2:=by simpa using h
def kg.vA{l1 l2 a x}(h:kg (l1++a::l2))(hx:∀i,x=some i->a=some i\/((∀y∈l1,y≠some i)/\∀y∈l2,y≠some i)):kg (l1++x::l2):=by
 obtain⟨h1,h2,h3⟩:=Vq.1 h;obtain⟨h4,h5⟩:=Vx.1 h2;refine Vq.2 ⟨h1,Vx.2 ⟨λy hy b hb=>?_,h5⟩,λy hy z hz b hb=>?_⟩
 ·rcases hx b hb with ha|⟨_,ha⟩
  ·exact h4 y hy b ha
  ·exact ha y hy
 ·rcases UR.1 hz with rfl|hz
  ·intro e;rcases hx b e with ha|⟨ha,_⟩
   ·exact h3 y hy a Si b hb ha
   ·exact ha y hy hb
  ·exact h3 y hy z (UL _ hz) b hb
def kg.ins{l1 l2 x}(h:kg (l1++l2))(hx:∀i,x=some i->(∀y∈l1,y≠some i)/\∀y∈l2,y≠some i):kg (l1++x::l2):=by
 obtain⟨h1,h2,h3⟩:=Vq.1 h;refine Vq.2 ⟨h1,Vx.2 ⟨λy hy b hb=>(hx b hb).2 y hy,h2⟩,λy hy z hz b hb=>?_⟩;rcases UR.1 hz with rfl|hz
 ·exactλe=>(hx b e).1 y hy hb
 ·exact h3 y hy z hz b hb
structure bG(N:Nat)(h:af)(b:Nat)(V:RV):Prop where
 o:dm N h V
 hN:N<=b
 m:h[b]? =some (.b V.row)
 ne:some b∉V.bl
def bG.lt{N h b V}(r:bG N h b V):b<h.length:=(Ue.1 r.m).1
theorem bG.app{N h b V}(r:bG N h b V)(g:af):bG N (h++g) b V:=⟨r.o.app g,r.hN,(Ext.app g (Ext.refl h)).some r.m,r.ne⟩
section
variable {N b:Nat}{h k:af}{V:RV}
def bG.NF(r:bG N h b V){s:AV}{L:List jO}(hs:Fr N k s 3 (L.map cp))(hn:∀i,sB s=some i->sB V.s0=some i\/h.length<=i)(hm:k[b]? =some (.cells {V with lines:=L,s0:=s}.row true false))
  (hk:∀i,i<h.length->sB V.s0≠some i->i≠b->k[i]? =h[i]?):bG N k b {V with lines:=L,s0:=s}:=by
 have hd:V.bl=[]++sB V.s0:: ([sB V.s1,sB V.s2,sB V.s3,sB V.s4,sB V.s5]++(V.ao.map λx=>sB x.2)++(V.aJ.map λx=>sB x.2)++(V.aI.map λx=>sB x.2)):=rfl;have hin:∀i,some i∈V.bl->N<=i/\i<h.length:=λi hi=>r.o.dU hi
 have Pp:=r.o.di;rw[hd]at Pp;have ar:∀i,(some i∈[]\/some i∈([sB V.s1,sB V.s2,sB V.s3,sB V.s4,sB V.s5]++(V.ao.map λx=>sB x.2)++(V.aJ.map λx=>sB x.2)++(V.aI.map λx=>sB x.2)))->k[i]? =h[i]? :=λi hi=>by
  exact z6
 have own:dm N k {V with lines:=L,s0:=s}:=by
  refine⟨hs,(r.o.i1.ay λi hi=>ar i (.inr (by rw[<-hi];simp))),(r.o.i2.ay λi hi=>ar i (.inr (by rw[<-hi];simp))),(r.o.i3.ay λi hi=>ar i (.inr (by rw[<-hi];simp))),(r.o.i4.ay λi hi=>ar i (.inr (by rw[<-hi];simp))),(r.o.i5.ay λi hi=>ar i (.inr (by rw[<-hi];simp))),(λx hx=>(r.o.e2 x hx).ay λi hi=>ar i (.inr (by rw[<-hi];simp only[Um,UI];exact .inl (.inl (.inr ⟨x,hx,rfl⟩))))),(λx hx=>(r.o.e3 x hx).ay λi hi=>ar i (.inr (by rw[<-hi];simp only[Um,UI];exact .inl (.inr ⟨x,hx,rfl⟩)))),(λx hx=>(r.o.e4 x hx).ay λi hi=>ar i (.inr (by rw[<-hi];simp only[Um,UI];exact .inr ⟨x,hx,rfl⟩))),?_⟩;have hx:∀i,sB s=some i->sB V.s0=some i\/((∀y∈[],y≠some i)/\∀y∈([sB V.s1,sB V.s2,sB V.s3,sB V.s4,sB V.s5]++(V.ao.map λx=>sB x.2)++(V.aJ.map λx=>sB x.2)++(V.aI.map λx=>sB x.2)),y≠some i):=λi hi=>by
   exact z8
  exact Pp.vA hx
 refine⟨own,r.hN,hm,λhb=>?_⟩;have hbl:=r.lt;have Qe:=r.ne;rw[hd]at Qe;have e:{V with lines:=L,s0:=s}.bl=[]++sB s:: ([sB V.s1,sB V.s2,sB V.s3,sB V.s4,sB V.s5]++(V.ao.map λx=>sB x.2)++(V.aJ.map λx=>sB x.2)++(V.aI.map λx=>sB x.2)):=rfl;exact z24
def bG.NW(r:bG N h b V){s:AV}{L:List uU}(hs:Fr N k s 2 (L.map eP))(hn:∀i,sB s=some i->sB V.s1=some i\/h.length<=i)(hm:k[b]? =some (.cells {V with aK:=L,s1:=s}.row true false))
  (hk:∀i,i<h.length->sB V.s1≠some i->i≠b->k[i]? =h[i]?):bG N k b {V with aK:=L,s1:=s}:=by
 have hd:V.bl=[sB V.s0]++sB V.s1:: ([sB V.s2,sB V.s3,sB V.s4,sB V.s5]++(V.ao.map λx=>sB x.2)++(V.aJ.map λx=>sB x.2)++(V.aI.map λx=>sB x.2)):=rfl;have hin:∀i,some i∈V.bl->N<=i/\i<h.length:=λi hi=>r.o.dU hi
 have Pp:=r.o.di;rw[hd]at Pp;have ar:∀i,(some i∈[sB V.s0]\/some i∈([sB V.s2,sB V.s3,sB V.s4,sB V.s5]++(V.ao.map λx=>sB x.2)++(V.aJ.map λx=>sB x.2)++(V.aI.map λx=>sB x.2)))->k[i]? =h[i]? :=λi hi=>by
  exact z6
 have own:dm N k {V with aK:=L,s1:=s}:=by
  refine⟨(r.o.i0.ay λi hi=>ar i (.inl (by rw[<-hi];simp))),hs,(r.o.i2.ay λi hi=>ar i (.inr (by rw[<-hi];simp))),(r.o.i3.ay λi hi=>ar i (.inr (by rw[<-hi];simp))),(r.o.i4.ay λi hi=>ar i (.inr (by rw[<-hi];simp))),(r.o.i5.ay λi hi=>ar i (.inr (by rw[<-hi];simp))),(λx hx=>(r.o.e2 x hx).ay λi hi=>ar i (.inr (by rw[<-hi];simp only[Um,UI];exact .inl (.inl (.inr ⟨x,hx,rfl⟩))))),(λx hx=>(r.o.e3 x hx).ay λi hi=>ar i (.inr (by rw[<-hi];simp only[Um,UI];exact .inl (.inr ⟨x,hx,rfl⟩)))),(λx hx=>(r.o.e4 x hx).ay λi hi=>ar i (.inr (by rw[<-hi];simp only[Um,UI];exact .inr ⟨x,hx,rfl⟩))),?_⟩;have hx:∀i,sB s=some i->sB V.s1=some i\/((∀y∈[sB V.s0],y≠some i)/\∀y∈([sB V.s2,sB V.s3,sB V.s4,sB V.s5]++(V.ao.map λx=>sB x.2)++(V.aJ.map λx=>sB x.2)++(V.aI.map λx=>sB x.2)),y≠some i):=λi hi=>by
   exact z8
  exact Pp.vA hx
 refine⟨own,r.hN,hm,λhb=>?_⟩;have hbl:=r.lt;have Qe:=r.ne;rw[hd]at Qe;have e:{V with aK:=L,s1:=s}.bl=[sB V.s0]++sB s:: ([sB V.s2,sB V.s3,sB V.s4,sB V.s5]++(V.ao.map λx=>sB x.2)++(V.aJ.map λx=>sB x.2)++(V.aI.map λx=>sB x.2)):=rfl;exact z24
def bG.NV(r:bG N h b V){s t:AV}{y:kM}(hs:Fr N k s 3 ((V.ao++[(y,t)]).map bg))(ht:Fr N k t 1 (y.aK.map al))(hn:∀i,sB s=some i->sB V.s2=some i\/h.length<=i)(hnt:∀i,sB t=some i->h.length<=i/\sB s≠some i)
  (hm:k[b]? =some (.cells {V with ao:=V.ao++[(y,t)],s2:=s}.row true false))
  (hk:∀i,i<h.length->sB V.s2≠some i->i≠b->k[i]? =h[i]?):bG N k b {V with ao:=V.ao++[(y,t)],s2:=s}:=by
 have hd:V.bl=[sB V.s0,sB V.s1]++sB V.s2:: ([sB V.s3,sB V.s4,sB V.s5]++(V.ao.map λx=>sB x.2)++(V.aJ.map λx=>sB x.2)++(V.aI.map λx=>sB x.2)):=rfl;have hin:∀i,some i∈V.bl->N<=i/\i<h.length:=λi hi=>r.o.dU hi
 have Pp:=r.o.di;rw[hd]at Pp;have ar:∀i,(some i∈[sB V.s0,sB V.s1]\/some i∈([sB V.s3,sB V.s4,sB V.s5]++(V.ao.map λx=>sB x.2)++(V.aJ.map λx=>sB x.2)++(V.aI.map λx=>sB x.2)))->k[i]? =h[i]? :=λi hi=>by
  exact z6
 have own:dm N k {V with ao:=V.ao++[(y,t)],s2:=s}:=by
  refine⟨(r.o.i0.ay λi hi=>ar i (.inl (by rw[<-hi];simp))),(r.o.i1.ay λi hi=>ar i (.inl (by rw[<-hi];simp))),hs,(r.o.i3.ay λi hi=>ar i (.inr (by rw[<-hi];simp))),(r.o.i4.ay λi hi=>ar i (.inr (by rw[<-hi];simp))),(r.o.i5.ay λi hi=>ar i (.inr (by rw[<-hi];simp))),(λx hx=>by
   rcases Um.1 hx with hx|hx
   ·exact(r.o.e2 x hx).ay λi hi=>ar i (.inr (by rw[<-hi];simp only[Um,UI];exact .inl (.inl (.inr ⟨x,hx,rfl⟩))))
   ·rw[Uw]at hx;subst hx;exact ht),(λx hx=>(r.o.e3 x hx).ay λi hi=>ar i (.inr (by rw[<-hi];simp only[Um,UI];exact .inl (.inr ⟨x,hx,rfl⟩)))),(λx hx=>(r.o.e4 x hx).ay λi hi=>ar i (.inr (by rw[<-hi];simp only[Um,UI];exact .inr ⟨x,hx,rfl⟩))),?_⟩
  have hx:∀i,sB s=some i->sB V.s2=some i\/((∀y∈[sB V.s0,sB V.s1],y≠some i)/\∀y∈([sB V.s3,sB V.s4,sB V.s5]++(V.ao.map λx=>sB x.2)++(V.aJ.map λx=>sB x.2)++(V.aI.map λx=>sB x.2)),y≠some i):=λi hi=>by
   exact z8
  have h1:=Pp.vA hx;have h2:kg (([sB V.s0,sB V.s1,sB s,sB V.s3,sB V.s4,sB V.s5]++(V.ao.map λx=>sB x.2))++((V.aJ.map λx=>sB x.2)++(V.aI.map λx=>sB x.2))):=by
   have:[sB V.s0,sB V.s1]++sB s:: ([sB V.s3,sB V.s4,sB V.s5]++(V.ao.map λx=>sB x.2)++(V.aJ.map λx=>sB x.2)++(V.aI.map λx=>sB x.2))=([sB V.s0,sB V.s1,sB s,sB V.s3,sB V.s4,sB V.s5]++(V.ao.map λx=>sB x.2))++((V.aJ.map λx=>sB x.2)++(V.aI.map λx=>sB x.2)):=Si
   rw[<-this];exact h1
  have h3:=h2.ins (x:=sB t) (λi hi=>by
   obtain⟨n1,n2⟩:=hnt i hi;refine⟨λy hy e=>?_,λy hy e=>?_⟩
   ·exact KH
   ·subst e;have:=(hin i (by rw[hd];simp only[Um,UR,Vh,V3]at hy ⊢<;>grind)).2;omega)
  have:{V with ao:=V.ao++[(y,t)],s2:=s}.bl=([sB V.s0,sB V.s1,sB s,sB V.s3,sB V.s4,sB V.s5]++(V.ao.map λx=>sB x.2))++sB t:: ((V.aJ.map λx=>sB x.2)++(V.aI.map λx=>sB x.2)):=by
   simp[RV.bl]
  rw[this];exact h3
 exact z9
def bG.NU(r:bG N h b V){s t:AV}{y:jH}(hs:Fr N k s 4 ((V.aJ++[(y,t)]).map aP))(ht:Fr N k t 1 (y.bF.map al))(hn:∀i,sB s=some i->sB V.s3=some i\/h.length<=i)(hnt:∀i,sB t=some i->h.length<=i/\sB s≠some i)
  (hm:k[b]? =some (.cells {V with aJ:=V.aJ++[(y,t)],s3:=s}.row true false))
  (hk:∀i,i<h.length->sB V.s3≠some i->i≠b->k[i]? =h[i]?):bG N k b {V with aJ:=V.aJ++[(y,t)],s3:=s}:=by
 have hd:V.bl=[sB V.s0,sB V.s1,sB V.s2]++sB V.s3:: ([sB V.s4,sB V.s5]++(V.ao.map λx=>sB x.2)++(V.aJ.map λx=>sB x.2)++(V.aI.map λx=>sB x.2)):=rfl;have hin:∀i,some i∈V.bl->N<=i/\i<h.length:=λi hi=>r.o.dU hi
 have Pp:=r.o.di;rw[hd]at Pp;have ar:∀i,(some i∈[sB V.s0,sB V.s1,sB V.s2]\/some i∈([sB V.s4,sB V.s5]++(V.ao.map λx=>sB x.2)++(V.aJ.map λx=>sB x.2)++(V.aI.map λx=>sB x.2)))->k[i]? =h[i]? :=λi hi=>by
  exact z6
 have own:dm N k {V with aJ:=V.aJ++[(y,t)],s3:=s}:=by
  refine⟨(r.o.i0.ay λi hi=>ar i (.inl (by rw[<-hi];simp))),(r.o.i1.ay λi hi=>ar i (.inl (by rw[<-hi];simp))),(r.o.i2.ay λi hi=>ar i (.inl (by rw[<-hi];simp))),hs,(r.o.i4.ay λi hi=>ar i (.inr (by rw[<-hi];simp))),(r.o.i5.ay λi hi=>ar i (.inr (by rw[<-hi];simp))),(λx hx=>(r.o.e2 x hx).ay λi hi=>ar i (.inr (by rw[<-hi];simp only[Um,UI];exact .inl (.inl (.inr ⟨x,hx,rfl⟩))))),(λx hx=>by
   rcases Um.1 hx with hx|hx
   ·exact(r.o.e3 x hx).ay λi hi=>ar i (.inr (by rw[<-hi];simp only[Um,UI];exact .inl (.inr ⟨x,hx,rfl⟩)))
   ·rw[Uw]at hx;subst hx;exact ht),(λx hx=>(r.o.e4 x hx).ay λi hi=>ar i (.inr (by rw[<-hi];simp only[Um,UI];exact .inr ⟨x,hx,rfl⟩))),?_⟩
  have hx:∀i,sB s=some i->sB V.s3=some i\/((∀y∈[sB V.s0,sB V.s1,sB V.s2],y≠some i)/\∀y∈([sB V.s4,sB V.s5]++(V.ao.map λx=>sB x.2)++(V.aJ.map λx=>sB x.2)++(V.aI.map λx=>sB x.2)),y≠some i):=λi hi=>by
   exact z8
  have h1:=Pp.vA hx;have h2:kg (([sB V.s0,sB V.s1,sB V.s2,sB s,sB V.s4,sB V.s5]++(V.ao.map λx=>sB x.2)++(V.aJ.map λx=>sB x.2))++((V.aI.map λx=>sB x.2))):=by
   have:[sB V.s0,sB V.s1,sB V.s2]++sB s:: ([sB V.s4,sB V.s5]++(V.ao.map λx=>sB x.2)++(V.aJ.map λx=>sB x.2)++(V.aI.map λx=>sB x.2))=([sB V.s0,sB V.s1,sB V.s2,sB s,sB V.s4,sB V.s5]++(V.ao.map λx=>sB x.2)++(V.aJ.map λx=>sB x.2))++((V.aI.map λx=>sB x.2)):=Si
   rw[<-this];exact h1
  have h3:=h2.ins (x:=sB t) (λi hi=>by
   obtain⟨n1,n2⟩:=hnt i hi;refine⟨λy hy e=>?_,λy hy e=>?_⟩
   ·exact KH
   ·subst e;have:=(hin i (by rw[hd];simp only[Um,UR,Vh,V3]at hy ⊢<;>grind)).2;omega)
  have:{V with aJ:=V.aJ++[(y,t)],s3:=s}.bl=([sB V.s0,sB V.s1,sB V.s2,sB s,sB V.s4,sB V.s5]++(V.ao.map λx=>sB x.2)++(V.aJ.map λx=>sB x.2))++sB t:: ((V.aI.map λx=>sB x.2)):=by
   simp[RV.bl]
  rw[this];exact h3
 exact z9
def bG.NT(r:bG N h b V){s t:AV}{y:mV}(hs:Fr N k s 3 ((V.aI++[(y,t)]).map bS))(ht:Fr N k t 1 (y.b9.map aE))(hn:∀i,sB s=some i->sB V.s4=some i\/h.length<=i)(hnt:∀i,sB t=some i->h.length<=i/\sB s≠some i)
  (hm:k[b]? =some (.cells {V with aI:=V.aI++[(y,t)],s4:=s}.row true false))
  (hk:∀i,i<h.length->sB V.s4≠some i->i≠b->k[i]? =h[i]?):bG N k b {V with aI:=V.aI++[(y,t)],s4:=s}:=by
 have hd:V.bl=[sB V.s0,sB V.s1,sB V.s2,sB V.s3]++sB V.s4:: ([sB V.s5]++(V.ao.map λx=>sB x.2)++(V.aJ.map λx=>sB x.2)++(V.aI.map λx=>sB x.2)):=rfl;have hin:∀i,some i∈V.bl->N<=i/\i<h.length:=λi hi=>r.o.dU hi
 have Pp:=r.o.di;rw[hd]at Pp;have ar:∀i,(some i∈[sB V.s0,sB V.s1,sB V.s2,sB V.s3]\/some i∈([sB V.s5]++(V.ao.map λx=>sB x.2)++(V.aJ.map λx=>sB x.2)++(V.aI.map λx=>sB x.2)))->k[i]? =h[i]? :=λi hi=>by
  exact z6
 have own:dm N k {V with aI:=V.aI++[(y,t)],s4:=s}:=by
  refine⟨(r.o.i0.ay λi hi=>ar i (.inl (by rw[<-hi];simp))),(r.o.i1.ay λi hi=>ar i (.inl (by rw[<-hi];simp))),(r.o.i2.ay λi hi=>ar i (.inl (by rw[<-hi];simp))),(r.o.i3.ay λi hi=>ar i (.inl (by rw[<-hi];simp))),hs,(r.o.i5.ay λi hi=>ar i (.inr (by rw[<-hi];simp))),(λx hx=>(r.o.e2 x hx).ay λi hi=>ar i (.inr (by rw[<-hi];simp only[Um,UI];exact .inl (.inl (.inr ⟨x,hx,rfl⟩))))),(λx hx=>(r.o.e3 x hx).ay λi hi=>ar i (.inr (by rw[<-hi];simp only[Um,UI];exact .inl (.inr ⟨x,hx,rfl⟩)))),(λx hx=>by
   rcases Um.1 hx with hx|hx
   ·exact(r.o.e4 x hx).ay λi hi=>ar i (.inr (by rw[<-hi];simp only[Um,UI];exact .inr ⟨x,hx,rfl⟩))
   ·rw[Uw]at hx;subst hx;exact ht),?_⟩
  have hx:∀i,sB s=some i->sB V.s4=some i\/((∀y∈[sB V.s0,sB V.s1,sB V.s2,sB V.s3],y≠some i)/\∀y∈([sB V.s5]++(V.ao.map λx=>sB x.2)++(V.aJ.map λx=>sB x.2)++(V.aI.map λx=>sB x.2)),y≠some i):=λi hi=>by
   exact z8
  have h1:=Pp.vA hx;have h2:kg (([sB V.s0,sB V.s1,sB V.s2,sB V.s3,sB s,sB V.s5]++(V.ao.map λx=>sB x.2)++(V.aJ.map λx=>sB x.2)++(V.aI.map λx=>sB x.2))++([])):=by
   have:[sB V.s0,sB V.s1,sB V.s2,sB V.s3]++sB s:: ([sB V.s5]++(V.ao.map λx=>sB x.2)++(V.aJ.map λx=>sB x.2)++(V.aI.map λx=>sB x.2))=([sB V.s0,sB V.s1,sB V.s2,sB V.s3,sB s,sB V.s5]++(V.ao.map λx=>sB x.2)++(V.aJ.map λx=>sB x.2)++(V.aI.map λx=>sB x.2))++([]):=Si
   rw[<-this];exact h1
  have h3:=h2.ins (x:=sB t) (λi hi=>by
   obtain⟨n1,n2⟩:=hnt i hi;refine⟨λy hy e=>?_,λy hy e=>?_⟩
   ·exact KH
   ·subst e;have:=(hin i (by rw[hd];simp only[Um,UR,Vh,V3]at hy ⊢<;>grind)).2;omega)
  have:{V with aI:=V.aI++[(y,t)],s4:=s}.bl=([sB V.s0,sB V.s1,sB V.s2,sB V.s3,sB s,sB V.s5]++(V.ao.map λx=>sB x.2)++(V.aJ.map λx=>sB x.2)++(V.aI.map λx=>sB x.2))++sB t:: ([]):=by
   simp[RV.bl]
  rw[this];exact h3
 exact z9
def bG.ND(r:bG N h b V){s:AV}{L:List rv}(hs:Fr N k s 4 (L.map dN))(hn:∀i,sB s=some i->sB V.s5=some i\/h.length<=i)(hm:k[b]? =some (.cells {V with aU:=L,s5:=s}.row true false))
  (hk:∀i,i<h.length->sB V.s5≠some i->i≠b->k[i]? =h[i]?):bG N k b {V with aU:=L,s5:=s}:=by
 have hd:V.bl=[sB V.s0,sB V.s1,sB V.s2,sB V.s3,sB V.s4]++sB V.s5:: ([]++(V.ao.map λx=>sB x.2)++(V.aJ.map λx=>sB x.2)++(V.aI.map λx=>sB x.2)):=rfl;have hin:∀i,some i∈V.bl->N<=i/\i<h.length:=λi hi=>r.o.dU hi
 have Pp:=r.o.di;rw[hd]at Pp;have ar:∀i,(some i∈[sB V.s0,sB V.s1,sB V.s2,sB V.s3,sB V.s4]\/some i∈([]++(V.ao.map λx=>sB x.2)++(V.aJ.map λx=>sB x.2)++(V.aI.map λx=>sB x.2)))->k[i]? =h[i]? :=λi hi=>by
  exact z6
 have own:dm N k {V with aU:=L,s5:=s}:=by
  refine⟨(r.o.i0.ay λi hi=>ar i (.inl (by rw[<-hi];simp))),(r.o.i1.ay λi hi=>ar i (.inl (by rw[<-hi];simp))),(r.o.i2.ay λi hi=>ar i (.inl (by rw[<-hi];simp))),(r.o.i3.ay λi hi=>ar i (.inl (by rw[<-hi];simp))),(r.o.i4.ay λi hi=>ar i (.inl (by rw[<-hi];simp))),hs,(λx hx=>(r.o.e2 x hx).ay λi hi=>ar i (.inr (by rw[<-hi];simp only[Um,UI];exact .inl (.inl (.inr ⟨x,hx,rfl⟩))))),(λx hx=>(r.o.e3 x hx).ay λi hi=>ar i (.inr (by rw[<-hi];simp only[Um,UI];exact .inl (.inr ⟨x,hx,rfl⟩)))),(λx hx=>(r.o.e4 x hx).ay λi hi=>ar i (.inr (by rw[<-hi];simp only[Um,UI];exact .inr ⟨x,hx,rfl⟩))),?_⟩;have hx:∀i,sB s=some i->sB V.s5=some i\/((∀y∈[sB V.s0,sB V.s1,sB V.s2,sB V.s3,sB V.s4],y≠some i)/\∀y∈([]++(V.ao.map λx=>sB x.2)++(V.aJ.map λx=>sB x.2)++(V.aI.map λx=>sB x.2)),y≠some i):=λi hi=>by
   exact z8
  exact Pp.vA hx
 refine⟨own,r.hN,hm,λhb=>?_⟩;have hbl:=r.lt;have Qe:=r.ne;rw[hd]at Qe;have e:{V with aU:=L,s5:=s}.bl=[sB V.s0,sB V.s1,sB V.s2,sB V.s3,sB V.s4]++sB s:: ([]++(V.ao.map λx=>sB x.2)++(V.aJ.map λx=>sB x.2)++(V.aI.map λx=>sB x.2)):=rfl;exact z24
end
def rz(B:af)(b:Nat)(V:RV)(e:fp)(d:Kd)(k:af):Prop:=∃g' V',k=B++g'/\bG B.length (B++g') b V'/\V'.aD=fZ V.aD e d
def gy{B g:af}{b i:Nat}{V:RV}{v:AV}(hb:(B++g)[b]? =some (.b V.row))(hv:v.one=true)(hi:i<7):bC 1 (.ptr b i) v (λz=>(B++g)[z]?)=some (au,.set b (.b (V.row.set i v))):=by
 rw[bp hb];exact fC hv (by show i+1<=7;omega)
def lC{B g:af}{b:Nat}{V:RV}(X:ai)(hN:B.length<=b)(hb:(B++g)[b]? =some (.b V.row)):(B++g).set b X=B++g.set (b-B.length) X/\(B++g.set (b-B.length) X)[b]? =some X/\∀i,i≠b->(B++g.set (b-B.length) X)[i]? =(B++g)[i]? :=by
 have h1:(B++g).set b X=B++g.set (b-B.length) X:=U0 _ _ hN;refine⟨h1,?_,λi hi=>?_⟩
 ·rw[<-h1,UY (Ue.1 hb).1]
 ·rw[<-h1,U1 (Wy hi)]
def ee{ts h}:cL [] ts h=some (.dt []):=rfl
section
variable {B g g':af}{b:Nat}{V:RV}{e:fp}{d:Kd}
def JH(r:bG B.length (B++g) b V){s:AV}{L:List jO}(hff:Fr B.length (B++g') s 3 (L.map cp))(hb':∀i,sB s=some i->sB V.s0=some i\/(B++g).length<=i)(hk1:∀i,i<(B++g).length->sB V.s0≠some i->(B++g')[i]? =(B++g)[i]?)
  (hreg:{V with lines:=L,s0:=s}.aD=fZ V.aD e d):rz B b V e d ((B++g').set b (.b (V.row.set 1 s))):=by
 have hbl:=r.lt;have OH:sB V.s0≠some b:=λz=>r.ne (by rw[<-z];simp[RV.bl])
 have mB:(B++g')[b]? =some (.b V.row):=(hk1 b hbl OH).trans r.m;obtain⟨h1,h2,h3⟩:=lC (.b (V.row.set 1 s)) r.hN mB;have hsb:∀i,sB s=some i->i≠b:=λi hi z=>by
  exact Hn
 exact⟨_,_,h1,r.NF (hff.ay λi hi=>h3 i (hsb i hi)) hb' h2 (λi hi hne OH=>(h3 i OH).trans (hk1 i hi hne)),hreg⟩
def JG(r:bG B.length (B++g) b V){s:AV}{L:List uU}(hff:Fr B.length (B++g') s 2 (L.map eP))(hb':∀i,sB s=some i->sB V.s1=some i\/(B++g).length<=i)(hk1:∀i,i<(B++g).length->sB V.s1≠some i->(B++g')[i]? =(B++g)[i]?)
  (hreg:{V with aK:=L,s1:=s}.aD=fZ V.aD e d):rz B b V e d ((B++g').set b (.b (V.row.set 2 s))):=by
 have hbl:=r.lt;have OH:sB V.s1≠some b:=λz=>r.ne (by rw[<-z];simp[RV.bl])
 have mB:(B++g')[b]? =some (.b V.row):=(hk1 b hbl OH).trans r.m;obtain⟨h1,h2,h3⟩:=lC (.b (V.row.set 2 s)) r.hN mB;have hsb:∀i,sB s=some i->i≠b:=λi hi z=>by
  exact Hn
 exact⟨_,_,h1,r.NW (hff.ay λi hi=>h3 i (hsb i hi)) hb' h2 (λi hi hne OH=>(h3 i OH).trans (hk1 i hi hne)),hreg⟩
def JF(r:bG B.length (B++g) b V){s t:AV}{y:kM}(hff:Fr B.length (B++g') s 3 ((V.ao++[(y,t)]).map bg))(ht:Fr B.length (B++g') t 1 (y.aK.map al))(hb':∀i,sB s=some i->sB V.s2=some i\/(B++g).length<=i)(hk1:∀i,i<(B++g).length->sB V.s2≠some i->(B++g')[i]? =(B++g)[i]?)(hnt:∀i,sB t=some i->(B++g).length<=i/\sB s≠some i)
  (hreg:{V with ao:=V.ao++[(y,t)],s2:=s}.aD=fZ V.aD e d):rz B b V e d ((B++g').set b (.b (V.row.set 3 s))):=by
 have hbl:=r.lt;have OH:sB V.s2≠some b:=λz=>r.ne (by rw[<-z];simp[RV.bl])
 have mB:(B++g')[b]? =some (.b V.row):=(hk1 b hbl OH).trans r.m;obtain⟨h1,h2,h3⟩:=lC (.b (V.row.set 3 s)) r.hN mB;have hsb:∀i,sB s=some i->i≠b:=λi hi z=>by
  exact Hn
 have htb:∀i,sB t=some i->i≠b:=λi hi z=>by
  exact z171
 exact⟨_,_,h1,r.NV (hff.ay λi hi=>h3 i (hsb i hi)) (ht.ay λi hi=>h3 i (htb i hi)) hb' hnt h2 (λi hi hne OH=>(h3 i OH).trans (hk1 i hi hne)),hreg⟩
def EK(r:bG B.length (B++g) b V){s t:AV}{y:jH}(hff:Fr B.length (B++g') s 4 ((V.aJ++[(y,t)]).map aP))(ht:Fr B.length (B++g') t 1 (y.bF.map al))(hb':∀i,sB s=some i->sB V.s3=some i\/(B++g).length<=i)(hk1:∀i,i<(B++g).length->sB V.s3≠some i->(B++g')[i]? =(B++g)[i]?)(hnt:∀i,sB t=some i->(B++g).length<=i/\sB s≠some i)
  (hreg:{V with aJ:=V.aJ++[(y,t)],s3:=s}.aD=fZ V.aD e d):rz B b V e d ((B++g').set b (.b (V.row.set 4 s))):=by
 have hbl:=r.lt;have OH:sB V.s3≠some b:=λz=>r.ne (by rw[<-z];simp[RV.bl])
 have mB:(B++g')[b]? =some (.b V.row):=(hk1 b hbl OH).trans r.m;obtain⟨h1,h2,h3⟩:=lC (.b (V.row.set 4 s)) r.hN mB;have hsb:∀i,sB s=some i->i≠b:=λi hi z=>by
  exact Hn
 have htb:∀i,sB t=some i->i≠b:=λi hi z=>by
  exact z171
 exact⟨_,_,h1,r.NU (hff.ay λi hi=>h3 i (hsb i hi)) (ht.ay λi hi=>h3 i (htb i hi)) hb' hnt h2 (λi hi hne OH=>(h3 i OH).trans (hk1 i hi hne)),hreg⟩
def JE(r:bG B.length (B++g) b V){s t:AV}{y:mV}(hff:Fr B.length (B++g') s 3 ((V.aI++[(y,t)]).map bS))(ht:Fr B.length (B++g') t 1 (y.b9.map aE))(hb':∀i,sB s=some i->sB V.s4=some i\/(B++g).length<=i)(hk1:∀i,i<(B++g).length->sB V.s4≠some i->(B++g')[i]? =(B++g)[i]?)(hnt:∀i,sB t=some i->(B++g).length<=i/\sB s≠some i)
  (hreg:{V with aI:=V.aI++[(y,t)],s4:=s}.aD=fZ V.aD e d):rz B b V e d ((B++g').set b (.b (V.row.set 5 s))):=by
 have hbl:=r.lt;have OH:sB V.s4≠some b:=λz=>r.ne (by rw[<-z];simp[RV.bl])
 have mB:(B++g')[b]? =some (.b V.row):=(hk1 b hbl OH).trans r.m;obtain⟨h1,h2,h3⟩:=lC (.b (V.row.set 5 s)) r.hN mB;have hsb:∀i,sB s=some i->i≠b:=λi hi z=>by
  exact Hn
 have htb:∀i,sB t=some i->i≠b:=λi hi z=>by
  exact z171
 exact⟨_,_,h1,r.NT (hff.ay λi hi=>h3 i (hsb i hi)) (ht.ay λi hi=>h3 i (htb i hi)) hb' hnt h2 (λi hi hne OH=>(h3 i OH).trans (hk1 i hi hne)),hreg⟩
def JD(r:bG B.length (B++g) b V){s:AV}{L:List rv}(hff:Fr B.length (B++g') s 4 (L.map dN))(hb':∀i,sB s=some i->sB V.s5=some i\/(B++g).length<=i)(hk1:∀i,i<(B++g).length->sB V.s5≠some i->(B++g')[i]? =(B++g)[i]?)
  (hreg:{V with aU:=L,s5:=s}.aD=fZ V.aD e d):rz B b V e d ((B++g').set b (.b (V.row.set 6 s))):=by
 have hbl:=r.lt;have OH:sB V.s5≠some b:=λz=>r.ne (by rw[<-z];simp[RV.bl])
 have mB:(B++g')[b]? =some (.b V.row):=(hk1 b hbl OH).trans r.m;obtain⟨h1,h2,h3⟩:=lC (.b (V.row.set 6 s)) r.hN mB;have hsb:∀i,sB s=some i->i≠b:=λi hi z=>by
  exact Hn
 exact⟨_,_,h1,r.ND (hff.ay λi hi=>h3 i (hsb i hi)) hb' h2 (λi hi hne OH=>(h3 i OH).trans (hk1 i hi hne)),hreg⟩
end
section
variable {P:Program}(T:eF P) {B g:af}{b:Nat}{V:RV}{x:EV}
include T
def L7(r:bG B.length (B++g) b V)(c:Cx (B++g) V x .line):c9 P 149 [.ptr b 0,.agg x.row] (B++g) (λ_ k=>rz B b V x.ev .line k):=by
 refine .eQ 22 T.mix T.c149 ?_;intro ts hlen t0 t1;unfold fn149;have hex:=@aZ.box _ _ c.e;have lb:=@jg _ _ _ r.m;have i0:bh 1 x.sn (.i 0)=_:=(c.nm (i:=0) De).1;have d0:=@(c.nm (i:=0) De).2;have j1:bh 1 x.sv (.i 1)=_:=(c.vl (i:=1) De).1;have f1:=@(c.vl (i:=1) De).2.1;have q1:=(c.vl (i:=1) De).2.2;obtain⟨y,hy⟩:∃y:jO,y=⟨bt x.ev 0,cC x.ev 1,false⟩:=⟨_,rfl⟩;have Qs:cp y=[.str (bt x.ev 0),.i (cC x.ev 1),.bool false]:=by rw[hy];rfl
 refine Rs (y9 t0 t1 @hex @lb @ph @bD @bY @i0 @d0 @j1 @f1) ?_;rw[<-Qs];refine WR.gj (h0:=B) (cs:=V.lines.map cp) (ys:=[cp y]) (((r.o.i0).app _).app _) (Fr.push (N:=0) (UK _) [cp y] (by simp[cp])).aM De Si (by have:=c.w.len.l0;simp;omega) Xx ?_;intro g' OJ hff hkp;have hrow:V.lines.map cp++[cp y]=(V.lines++[y]).map cp:=by rw[Up];rfl
 rw[hrow]at hff;rw[hrow];have hbl:=r.lt;have OH:sB V.s0≠some b:=λe=>r.ne (by rw[<-e];simp[RV.bl])
 have hk1:∀i,i<(B++g).length->sB V.s0≠some i->(B++g')[i]? =(B++g)[i]? :=λi hi hne=>by
  exact Ho
 have mB:(B++g')[b]? =some (.b V.row):=(hk1 b hbl OH).trans r.m;have QS:=λ(b' o n e:Nat)=>gy (i:=1) (v:=.slice b' o n e) mB rfl De
 refine Rs (A4 t0 t1 @QS @ee) ?_;exact JH r hff (λi hi=>by cases hi;exact .inr (by simp only[Ud];omega)) hk1 (by rw[hy];rfl)
def L5(r:bG B.length (B++g) b V)(c:Cx (B++g) V x .tape):c9 P 152 [.ptr b 0,.agg x.row] (B++g) (λ_ k=>rz B b V x.ev .tape k):=by
 refine .eQ 27 T.mix T.c152 ?_;intro ts hlen t0 t1;unfold fn152;have hex:=@aZ.box _ _ c.e;have lb:=@jg _ _ _ r.m;have i0:bh 1 x.sn (.i 0)=_:=(c.nm (i:=0) De).1;have d0:=@(c.nm (i:=0) De).2;have j0:bh 1 x.sv (.i 0)=_:=(c.vl (i:=0) De).1;have f0:=@(c.vl (i:=0) De).2.1;have q0:=(c.vl (i:=0) De).2.2;have j1:bh 1 x.sv (.i 1)=_:=(c.vl (i:=1) De).1;have f1:=@(c.vl (i:=1) De).2.1;have q1:=(c.vl (i:=1) De).2.2;have hw:IntKind.i64.wrap (cC x.ev 0+cC x.ev 1)=cC x.ev 0+cC x.ev 1:=aH Om Om;obtain⟨y,hy⟩:∃y:uU,y=⟨bt x.ev 0,cC x.ev 0+cC x.ev 1⟩:=⟨_,rfl⟩
 have Qs:eP y=[.str (bt x.ev 0),.i (cC x.ev 0+cC x.ev 1)]:=by rw[hy];rfl
 refine Rs (Ec t0 t1 @hex @lb @tg @bD @bY @hw @i0 @d0 @j0 @f0 @j1 @f1) ?_;rw[<-Qs];refine WR.gj (h0:=B) (cs:=V.aK.map eP) (ys:=[eP y]) (((r.o.i1).app _).app _) (Fr.push (N:=0) (UK _) [eP y] (by simp[eP])).aM De Si (by have:=c.w.len.l1;simp;omega) Xx ?_;intro g' OJ hff hkp;have hrow:V.aK.map eP++[eP y]=(V.aK++[y]).map eP:=by rw[Up];rfl
 rw[hrow]at hff;rw[hrow];have hbl:=r.lt;have OH:sB V.s1≠some b:=λe=>r.ne (by rw[<-e];simp[RV.bl])
 have hk1:∀i,i<(B++g).length->sB V.s1≠some i->(B++g')[i]? =(B++g)[i]? :=λi hi hne=>by
  exact Ho
 have mB:(B++g')[b]? =some (.b V.row):=(hk1 b hbl OH).trans r.m;have QS:=λ(b' o n e:Nat)=>gy (i:=2) (v:=.slice b' o n e) mB rfl De
 refine Rs (A4 t0 t1 @QS @ee) ?_;exact JG r hff (λi hi=>by cases hi;exact .inr (by simp only[Ud];omega)) hk1 (by rw[hy];rfl)
end
theorem xC:∀(l:List Int) (x:Int),(∀s∈l,-1<=s/\s<=999999999)->-16777213<x->x<16777213->-16777213<l.foldl (λx s=>(257*x+s).tmod 16777213) x/\l.foldl (λx s=>(257*x+s).tmod 16777213) x<16777213
 |[],x,_,h1,h2=>⟨h1,h2⟩
 |s::l,x,hs,h1,h2=>by
  have hb:-16777213<(257*x+s).tmod 16777213/\(257*x+s).tmod 16777213<16777213:=by
   constructor
   ·have:=Int.lt_tmod_of_pos (257*x+s) (show(0:Int)<16777213 by decide);exact this
   ·exact Int.tmod_lt_of_pos _ De
  exact xC l _ (λt ht=>hs t (UL _ ht)) hb.1 hb.2
section
variable {P:Program}(T:eF P) {h:af}
include T
def r95{s l}(hs:aB h s 1 (l.map aE))(hl:l.length<2^30)(hb:∀s∈l,-1<=s/\s<=999999999):ak P 95 [s] h (λv _=>v=.i (jN l)):=by
 refine .jP 19 T.mix T.c95 ?_;intro ts hlen t0;unfold fn95 gA;refine Rs (A2 t0 hs.aS) ?_;refine WL.inv T.mix (λn ts h'=>∃k:Nat,k<=l.length/\n=l.length-k/\h' =h/\ts.length=19/\slot ts 3=.i (jN (l.take k))/\slot ts 6=s/\slot ts 7=.i l.length/\slot ts 8=.i k) l.length
  ⟨0,Om,rfl,rfl,Sn,iR,(Sq t0),(Sq t0),iR⟩ ?_
 rintro _ ts _ ⟨k,hk,rfl,rfl,hlen,t3,t6,t7,t8⟩;by_cases hlt:k<l.length
 ·have e3:=gh hlt;have ix:=hs.fx (kk:=.i64) hlt;have ld:=hs.kK (i:=k) (x:=.i l[k]) hlt rfl (Ext.refl _);have e5:=wrapN (n:=k) Om;have hd:=xC (l.take k) 1 (λs hs=>hb s (Vi hs)) De De;have PM:=hb _ (UB hlt);have OR:-16777213<jN (l.take k)/\jN (l.take k)<16777213:=hd;have w1:IntKind.i64.wrap (257*jN (l.take k))=257*jN (l.take k):=aH Om Om;have w2:IntKind.i64.wrap (257*jN (l.take k)+l[k])=257*jN (l.take k)+l[k]:=aH Om Om;have er:=oE (k:=.i64) (a:=257*jN (l.take k)+l[k]) (b:=16777213) De;have OK:jN (l.take (k+1))=(257*jN (l.take k)+l[k]).tmod 16777213:=by
   rw[U9,Uj hlt,jN,List.foldl_append];rfl
  rw[<-OK]at er;refine Rs (y9 t3 t6 t7 t8 e3 ix @ld @w1 @w2 @er e5) ?_;exact⟨_,Om,k+1,Om,rfl,rfl,rfl⟩
 ·have e3:=gG hlt;have e4:k=l.length:=Om
  rw[e4,UU]at t3;exact Rs (A5 t3 t6 t7 t8 e3) Tv
end
section
variable {P:Program}(T:eF P) {B g:af}{b:Nat}{V:RV}{x:EV}
include T
def L0(r:bG B.length (B++g) b V)(c:Cx (B++g) V x .iY):c9 P 156 [.ptr b 0,.agg x.row] (B++g) (λ_ k=>rz B b V x.ev .iY k):=by
 refine .eQ 27 T.mix T.c156 ?_;intro ts hlen t0 t1;unfold fn156;have hex:=@aZ.box _ _ c.e;have lb:=@jg _ _ _ r.m;have i0:bh 1 x.sn (.i 0)=_:=(c.nm (i:=0) De).1;have d0:=@(c.nm (i:=0) De).2;have i1:bh 1 x.sn (.i 1)=_:=(c.nm (i:=1) De).1;have d1:=@(c.nm (i:=1) De).2;have i2:bh 1 x.sn (.i 2)=_:=(c.nm (i:=2) De).1;have d2:=@(c.nm (i:=2) De).2;obtain⟨y,hy⟩:∃y:kM,y=⟨bt x.ev 0,bt x.ev 1,[bt x.ev 2]⟩:=⟨_,rfl⟩;obtain⟨t,ht⟩:∃t,t=AV.slice (B++g++[ai.b x.row]).length 0 1 1:=⟨_,rfl⟩;have Px:Fr (B++g).length (B++g++[ai.b x.row]++[ai.cells [.str (bt x.ev 2)] true true]) t 1 (y.aK.map al):=by
  rw[ht,hy];exact(Fr.push (h:=B++g++[ai.b x.row]) (N:=(B++g).length) Si [al (bt x.ev 2)] (by simp[al]))
 have Qs:bg (y,t)=[.str (bt x.ev 0),.str (bt x.ev 1),t]:=by rw[hy];rfl
 refine Rs (Hk t0 t1 @hex @lb @jU @bD @bY @i0 @d0 @i1 @d1 @i2 @d2) ?_;rw[<-ht];have ot:=Px.aM.one;refine Rs (A7 t0 t1 @ot @lb @jU @bD @bY) ?_;rw[<-Qs];refine WR.gj (h0:=B) (cs:=V.ao.map bg) (ys:=[bg (y,t)]) ((((r.o.i2).app _).app _).app _) (Fr.push (N:=0) (UK _) [bg (y,t)] (by simp[bg])).aM De Si (by have:=c.w.len.l2;simp;omega) Xx ?_;intro g' OJ hff hkp;have hrow:V.ao.map bg++[bg (y,t)]=(V.ao++[(y,t)]).map bg:=by rw[Up];rfl
 rw[hrow]at hff;rw[hrow];have hbl:=r.lt;have OH:sB V.s2≠some b:=λe=>r.ne (by rw[<-e];simp[RV.bl])
 have hk1:∀i,i<(B++g).length->sB V.s2≠some i->(B++g')[i]? =(B++g)[i]? :=λi hi hne=>by
  exact Ho
 have mB:(B++g')[b]? =some (.b V.row):=(hk1 b hbl OH).trans r.m;have QS:=λ(b' o n e:Nat)=>gy (i:=3) (v:=.slice b' o n e) mB rfl De
 refine Rs (A4 t0 t1 @QS @ee) ?_;refine JF r hff ?_ (λi hi=>by cases hi;exact .inr (by simp only[Ud];omega)) hk1 ?_ ?_
 ·exact(((Px.app _).ay λi hi=>hkp i (by have:=(Px.bL hi).2;simp only[Ud]at this ⊢;omega) (λb0 o n e he z=>by
   have h1:=(Px.bL hi).1;have h2:=(r.o.i2.bL (show sB V.s2=some i by rw[he,z];rfl)).2;omega)).low Si)
 ·intro i hi;exact z31
 ·rw[hy];simp[RV.aD,fZ]
def LX(r:bG B.length (B++g) b V)(c:Cx (B++g) V x .source):c9 P 162 [.ptr b 0,.agg x.row] (B++g) (λ_ k=>rz B b V x.ev .source k):=by
 refine .eQ 22 T.mix T.c162 ?_;intro ts hlen t0 t1;unfold fn162;have hex:=@aZ.box _ _ c.e;have lb:=@jg _ _ _ r.m;have i0:bh 1 x.sn (.i 0)=_:=(c.nm (i:=0) De).1;have d0:=@(c.nm (i:=0) De).2;have i1:bh 1 x.sn (.i 1)=_:=(c.nm (i:=1) De).1;have d1:=@(c.nm (i:=1) De).2;obtain⟨y,hy⟩:∃y:jH,y=⟨bt x.ev 0,iL,bt x.ev 1,[]⟩:=⟨_,rfl⟩;obtain⟨t,ht⟩:∃t,t=AV.ah:=⟨_,rfl⟩;have Qs:aP (y,t)=[.str (bt x.ev 0),.str [115,104,111,116,115],.str (bt x.ev 1),.ah]:=by rw[hy,ht];rfl
 refine Rs (y9 t0 t1 @hex @lb @kQ @bD @bY @i0 @d0 @i1 @d1) ?_;rw[<-Qs];refine WR.gj (h0:=B) (cs:=V.aJ.map aP) (ys:=[aP (y,t)]) (((r.o.i3).app _).app _) (Fr.push (N:=0) (UK _) [aP (y,t)] (by simp[aP])).aM De Si (by have:=c.w.len.l3;simp;omega) Xx ?_;intro g' OJ hff hkp;have hrow:V.aJ.map aP++[aP (y,t)]=(V.aJ++[(y,t)]).map aP:=by rw[Up];rfl
 rw[hrow]at hff;rw[hrow];have hbl:=r.lt;have OH:sB V.s3≠some b:=λe=>r.ne (by rw[<-e];simp[RV.bl])
 have hk1:∀i,i<(B++g).length->sB V.s3≠some i->(B++g')[i]? =(B++g)[i]? :=λi hi hne=>by
  exact Ho
 have mB:(B++g')[b]? =some (.b V.row):=(hk1 b hbl OH).trans r.m;have QS:=λ(b' o n e:Nat)=>gy (i:=4) (v:=.slice b' o n e) mB rfl De
 refine Rs (A4 t0 t1 @QS @ee) ?_;refine EK r hff ?_ (λi hi=>by cases hi;exact .inr (by simp only[Ud];omega)) hk1 ?_ ?_
 ·rw[ht,hy];exact .nil
 ·intro i hi;rw[ht]at hi;cases hi
 ·rw[hy];simp[RV.aD,fZ]
def LW(r:bG B.length (B++g) b V)(c:Cx (B++g) V x .iP)(hc:dA V.aD x.ev .iP=0)(gl:Gl (B++g)):c9 P 164 [.ptr b 0,.agg x.row] (B++g) (λ_ k=>rz B b V x.ev .iP k):=by
 refine .eQ 30 T.mix T.c164 ?_;intro ts hlen t0 t1;unfold fn164;have hex:=@aZ.box _ _ c.e;have lb:=@jg _ _ _ r.m;have i0:bh 1 x.sn (.i 0)=_:=(c.nm (i:=0) De).1;have d0:=@(c.nm (i:=0) De).2;have j1:bh 1 x.sv (.i 1)=_:=(c.vl (i:=1) De).1;have f1:=@(c.vl (i:=1) De).2.1;have q1:=(c.vl (i:=1) De).2.2;obtain⟨gmu,gtl,hg0⟩:=gl;have hn:1<=cC x.ev 1/\cC x.ev 1<=4:=by
  rw[dA]at hc;split at hc
  ·cases hc
  case isFalse hr=>exact hP hr
 have hw:IntKind.i64.wrap (cC x.ev 1-1)=cC x.ev 1-1:=aH Om Om;have a1:kS 4 2 (.ptr 0 0) (.i (cC x.ev 1-1))=some (.ptr 0 ((cC x.ev 1-1).toNat*2)):=by simp only[kS];rw[Ut Om,UX]
 have a2:kS 2 1 (.ptr 0 ((cC x.ev 1-1).toNat*2)) (.i 1)=some (.ptr 0 ((cC x.ev 1-1).toNat*2+1)):=by simp[kS]
 have lg:∀{k:af},Ext (B++g) k->aq none (.ptr 0 ((cC x.ev 1-1).toNat*2+1)) (λb=>k[b]?)=some (.str (rY (cC x.ev 1)),.ar):=by
  intro k e;exact Nc
 have Q9:1<=x.ev.names.length:=by rw[c.we.nl];decide
 have hnl2:x.ev.names.length<=3:=by rw[c.we.nl];decide
 obtain⟨s',es',On⟩:=c.e.n.Iw (lo:=some (.i 1)) (hi:=none) (mE (k:=1) Q9);have et:List.take (x.ev.names.length-1) (List.drop 1 x.ev.names)=x.ev.names.drop 1:=UO Si;rw[et]at On;obtain⟨y,hy⟩:∃y:jH,y=⟨bt x.ev 0,rY (cC x.ev 1),[],x.ev.names.drop 1⟩:=⟨_,rfl⟩;refine Rs (Kw t0 t1 @hex @lb @kQ @bD @bY @hw @a1 @a2 @lg @es' @i0 @d0 @j1 @f1) ?_;refine WF.res T.c177 (r177 T (On.ext Xx) (by simp;omega)) ?_;rintro t g1 Px;have Qs:aP (y,t)=[.str (bt x.ev 0),.str (rY (cC x.ev 1)),.str [],t]:=by rw[hy];rfl
 have Px:Fr (B++g).length (B++g++[ai.b x.row]++g1) t 1 (y.bF.map al):=by rw[hy];exact Px.low Si
 have ot:=Px.aM.one;refine Rs (A3 t0 t1 @ot) ?_;rw[<-Qs];refine WR.gj (h0:=B) (cs:=V.aJ.map aP) (ys:=[aP (y,t)]) ((((r.o.i3).app _).app _).app _) (Fr.push (N:=0) (UK _) [aP (y,t)] (by simp[aP])).aM De Si (by have:=c.w.len.l3;simp;omega) Xx ?_;intro g' OJ hff hkp;exact z7
def LV(r:bG B.length (B++g) b V)(c:Cx (B++g) V x .merge):c9 P 166 [.ptr b 0,.agg x.row] (B++g) (λ_ k=>rz B b V x.ev .merge k):=by
 refine .eQ 31 T.mix T.c166 ?_;intro ts hlen t0 t1;unfold fn166;have hex:=@aZ.box _ _ c.e;have lb:=@jg _ _ _ r.m;have i0:bh 1 x.sn (.i 0)=_:=(c.nm (i:=0) De).1;have d0:=@(c.nm (i:=0) De).2;have i1:bh 1 x.sn (.i 1)=_:=(c.nm (i:=1) De).1;have d1:=@(c.nm (i:=1) De).2;have Q9:1<=x.ev.names.length:=by rw[c.we.nl];decide
 have hnl2:x.ev.names.length<=3:=by rw[c.we.nl];decide
 obtain⟨s',es',On⟩:=c.e.n.Iw (lo:=some (.i 1)) (hi:=none) (mE (k:=1) Q9);have et:List.take (x.ev.names.length-1) (List.drop 1 x.ev.names)=x.ev.names.drop 1:=UO Si;rw[et]at On;have k1:bt x.ev 1∈jX V.aD:=c.nk.kn 1 3 rfl;refine Rs (Hl t0 t1 @hex @lb @kQ @bM @bD @bY @i0 @d0 @i1 @d1) ?_;refine WF.res T.c245 (r245 T (c.o.ext Xx) c.w.len k1) ?_;rintro _ g1 ⟨z,hz,hz1,rfl⟩;unfold aP;obtain⟨y,hy⟩:∃y:jH,y=⟨bt x.ev 0,(tK V.aD (bt x.ev 1)).gives,[],x.ev.names.drop 1⟩:=⟨_,rfl⟩;refine Rs (A5 t0 t1 @lb @bD @es') ?_;refine WF.res T.c177 (r177 T (On.ext Xx) (by simp;omega)) ?_;rintro t g2 Px;have Qs:aP (y,t)=[.str (bt x.ev 0),.str z.1.gives,.str [],t]:=by rw[hy,hz1];rfl
 have Px:Fr (B++g).length (B++g++[ai.b x.row]++g1++g2) t 1 (y.bF.map al):=by rw[hy];exact Px.low (by simp only[Ud];omega)
 have ot:=Px.aM.one;refine Rs (A3 t0 t1 @ot) ?_;rw[<-Qs];refine WR.gj (h0:=B) (cs:=V.aJ.map aP) (ys:=[aP (y,t)]) (((((r.o.i3).app _).app _).app _).app _) (Fr.push (N:=0) (UK _) [aP (y,t)] (by simp[aP])).aM De Si (by have:=c.w.len.l3;simp;omega) Xx ?_;intro g' OJ hff hkp;exact z7
def LP(r:bG B.length (B++g) b V)(c:Cx (B++g) V x .jd):c9 P 174 [.ptr b 0,.agg x.row] (B++g) (λ_ k=>rz B b V x.ev .jd k):=by
 refine .eQ 32 T.mix T.c174 ?_;intro ts hlen t0 t1;unfold fn174;have hex:=@aZ.box _ _ c.e;have lb:=@jg _ _ _ r.m;have i0:bh 1 x.sn (.i 0)=_:=(c.nm (i:=0) De).1;have d0:=@(c.nm (i:=0) De).2;have i1:bh 1 x.sn (.i 1)=_:=(c.nm (i:=1) De).1;have d1:=@(c.nm (i:=1) De).2;have k1:bt x.ev 1∈iT V.aD:=c.nk.kn 1 4 rfl;refine Rs (Hl t0 t1 @hex @lb @lS @bM @bD @bY @i0 @d0 @i1 @d1) ?_;refine WF.res T.c124 (r124 T (c.o.ext Xx) c.w.len k1) ?_;rintro _ g1 ⟨z,hz,hz1,rfl⟩;have hzb:=(c.w.jb z.1 (UP hz)).2;unfold bS;refine Rs (A2 t0 t1) ?_;refine WF.ce T.c95 (r95 T ((c.o.e4 z hz).ext Xx) Om hzb.2.2) λg2=>?_
 obtain⟨y,hy⟩:∃y:rv,y=⟨bt x.ev 0,bt x.ev 1,jN (iD V.aD (bt x.ev 1)).b9,false⟩:=⟨_,rfl⟩;have Qs:dN y=[.str (bt x.ev 0),.str (bt x.ev 1),.i (jN z.1.b9),.bool false]:=by rw[hy,hz1];rfl
 refine Rs (A2 t0 t1) ?_;rw[<-Qs];refine WR.gj (h0:=B) (cs:=V.aU.map dN) (ys:=[dN y]) (((((r.o.i5).app _).app _).app _).app _) (Fr.push (N:=0) (UK _) [dN y] (by simp[dN])).aM De Si (by have:=c.w.len.l5;simp;omega) Xx ?_;intro g' OJ hff hkp;have hrow:V.aU.map dN++[dN y]=(V.aU++[y]).map dN:=by rw[Up];rfl
 rw[hrow]at hff;rw[hrow];have hbl:=r.lt;have OH:sB V.s5≠some b:=λe=>r.ne (by rw[<-e];simp[RV.bl])
 have hk1:∀i,i<(B++g).length->sB V.s5≠some i->(B++g')[i]? =(B++g)[i]? :=λi hi hne=>by
  exact Ho
 have mB:(B++g')[b]? =some (.b V.row):=(hk1 b hbl OH).trans r.m;have QS:=λ(b' o n e:Nat)=>gy (i:=6) (v:=.slice b' o n e) mB rfl De
 refine Rs (A4 t0 t1 @QS @ee) ?_;exact JD r hff (λi hi=>by cases hi;exact .inr (by simp only[Ud];omega)) hk1 (by rw[hy];rfl)
end
def bG.NQ{N b h k V}(r:bG N h b V){i}(hi:i<V.aI.length){y}(hy:y.name=V.aI[i].1.name/\y.mod=V.aI[i].1.mod)(hf:Fr N k V.aI[i].2 1 (y.b9.map aE))
  (hk:∀j,j<h.length->sB V.aI[i].2≠some j->k[j]? =h[j]?):bG N k b {V with aI:=V.aI.set i (y,V.aI[i].2) }:=by
 have hin:∀j,some j∈V.bl->N<=j/\j<h.length:=λj hj=>r.o.dU hj
 have hbl:{V with aI:=V.aI.set i (y,V.aI[i].2) }.bl=V.bl:=by
  simp only[RV.bl,List.map_set];congr 1;have:sB V.aI[i].2=(V.aI.map λx=>sB x.2)[i]'(by simpa using hi):=Si
  rw[this];exact Wx _
 obtain⟨h1,h2,h3⟩:=Vq.1 (show kg (([sB V.s0,sB V.s1,sB V.s2,sB V.s3,sB V.s4,sB V.s5]++(V.ao.map λx=>sB x.2)++(V.aJ.map λx=>sB x.2))++(V.aI.map λx=>sB x.2))from r.o.di);have PY:sB V.aI[i].2∈V.aI.map λx=>sB x.2:=UP (f:=λx:mV×AV=>sB x.2) (UB hi)
 have kA:∀j,some j∈([sB V.s0,sB V.s1,sB V.s2,sB V.s3,sB V.s4,sB V.s5]++(V.ao.map λx=>sB x.2)++(V.aJ.map λx=>sB x.2))->k[j]? =h[j]? :=λj hj=>
  hk j (hin j (by rw[RV.bl];exact Um.2 (.inl hj))).2 (h3 _ hj _ PY j rfl)
 have k6:∀j,some j∈[sB V.s0,sB V.s1,sB V.s2,sB V.s3,sB V.s4,sB V.s5]->k[j]? =h[j]? :=λj hj=>kA j (by simp only[Um];exact .inl (.inl hj))
 have hrow:(V.aI.set i (y,V.aI[i].2)).map bS=V.aI.map bS:=by
  rw[List.map_set];have:bS (y,V.aI[i].2)=(V.aI.map bS)[i]'(by simpa using hi):=by simp[bS,hy.1,hy.2]
  rw[this];exact Wx _
 have own:dm N k {V with aI:=V.aI.set i (y,V.aI[i].2) }:=by
  refine⟨r.o.i0.ay λj hj=>k6 j (by rw[<-hj];simp),r.o.i1.ay λj hj=>k6 j (by rw[<-hj];simp),r.o.i2.ay λj hj=>k6 j (by rw[<-hj];simp),r.o.i3.ay λj hj=>k6 j (by rw[<-hj];simp),?_,r.o.i5.ay λj hj=>k6 j (by rw[<-hj];simp),?_,?_,?_,?_⟩
  ·show Fr N k V.s4 3 ((V.aI.set i (y,V.aI[i].2)).map bS);rw[hrow];exact r.o.i4.ay λj hj=>k6 j (by rw[<-hj];simp)
  ·exactλx hx=>(r.o.e2 x hx).ay λj hj=>kA j (by rw[<-hj];simp only[Um,UI];exact .inl (.inr ⟨x,hx,rfl⟩))
  ·exactλx hx=>(r.o.e3 x hx).ay λj hj=>kA j (by rw[<-hj];simp only[Um,UI];exact .inr ⟨x,hx,rfl⟩)
  ·intro x hx;obtain⟨n,hn,rfl⟩:=WW hx;have R3:n<V.aI.length:=by simpa using hn
   by_cases hni:n=i
   ·subst hni;simp only[WD];exact hf
   ·simp only[WY (Wy hni)];refine(r.o.e4 _ (UB R3)).ay λj hj=>hk j ?_ λe=>?_
    ·exact((r.o.e4 _ (UB R3)).bL hj).2
    ·have e1:(V.aI.map λx=>sB x.2)[n]'(by simpa using R3)=some j:=by simpa using hj
     have e2:(V.aI.map λx=>sB x.2)[i]'(by simpa using hi)=some j:=by simpa using e
     rcases Nat.lt_or_gt_of_ne hni with hlt|hlt
     ·exact List.pairwise_iff_getElem.1 h2 n i (by simpa using R3) (by simpa using hi) hlt j e1 e2
     ·exact List.pairwise_iff_getElem.1 h2 i n (by simpa using hi) (by simpa using R3) hlt j e2 e1
  ·show kg {V with aI:=V.aI.set i (y,V.aI[i].2) }.bl;rw[hbl];exact r.o.di
 refine⟨own,r.hN,?_,by rw[hbl];exact r.ne⟩;have:sB V.aI[i].2≠some b:=λe=>r.ne (by rw[<-e,RV.bl];exact Um.2 (.inr PY))
 exact(hk b r.lt this).trans r.m
section
variable {P:Program}(T:eF P) {B g:af}{b:Nat}{V:RV}{x:EV}
include T
def LY(r:bG B.length (B++g) b V)(c:Cx (B++g) V x .accept):c9 P 160 [.ptr b 0,.agg x.row] (B++g) (λ_ k=>rz B b V x.ev .accept k):=by
 refine .eQ 19 T.mix T.c160 ?_;intro ts hlen t0 t1;unfold fn160 wA;have hex:=@aZ.box _ _ c.e;have lb:=@jg _ _ _ r.m;have i0:bh 1 x.sn (.i 0)=_:=(c.nm (i:=0) De).1;have d0:=@(c.nm (i:=0) De).2;have hn:bt x.ev 0∈jQ V.aD:=c.nk.kn 0 0 rfl;have hlt:bJ (jQ V.aD) (bt x.ev 0)<V.lines.length:=by have:=eM hn;simpa [jQ,RV.aD]using this
 have ei:eD (λy:jO=>decide (y.name=bt x.ev 0)) V.lines=(bJ (jQ V.aD) (bt x.ev 0):Int):=jx (f:=jO.name) hn;have ix:bh 3 V.s0 (.i (bJ (jQ V.aD) (bt x.ev 0):Int))=some (eO V.s0 3 (bJ (jQ V.aD) (bt x.ev 0)),.ar):=c.o.i0.fx hlt;have sp:fP V.aD (bt x.ev 0)=V.lines[bJ (jQ V.aD) (bt x.ev 0)]:=fR hn;refine Rs (A8 t0 t1 @hex @lb @ph @bD @i0 @d0) ?_;refine WF.ce T.c142 (r142 T (c.o.i0.ext Xx) (by have:=c.w.len.l0;omega) _) λg1=>?_
 rw[ei];refine Rs (A3 t0 t1 ix) ?_;rw[Uf B g,Uf B];refine WR.tu (h0:=B) (x':={V.lines[bJ (jQ V.aD) (bt x.ev 0)]with acc:=true}) (by rw[<-Uf,<-Uf];exact(r.o.i0.app _).app _) hlt De rfl rfl ?_;intro g' OJ hff hkp;have hbl:=r.lt;have OH:sB V.s0≠some b:=λe=>r.ne (by rw[<-e];simp[RV.bl])
 have hk1:∀i,i<(B++g).length->sB V.s0≠some i->(B++g')[i]? =(B++g)[i]? :=λi hi hne=>by
  rw[hkp i (λb0 o n e he z=>hne (by rw[he,z];rfl)),<-Uf,<-Uf];exact KE
 refine Rs (A3 t0 t1 @ee) ?_;refine⟨g',{V with lines:=V.lines.set (bJ (jQ V.aD) (bt x.ev 0)) {V.lines[bJ (jQ V.aD) (bt x.ev 0)]with acc:=true},s0:=V.s0},rfl,r.NF hff (λi hi=>.inl hi) ((hk1 b hbl OH).trans r.m) (λi hi h1 _=>hk1 i hi h1),?_⟩;simp only[fZ,sp];rfl
def LO(r:bG B.length (B++g) b V)(c:Cx (B++g) V x .rel):c9 P 176 [.ptr b 0,.agg x.row] (B++g) (λ_ k=>rz B b V x.ev .rel k):=by
 refine .eQ 19 T.mix T.c176 ?_;intro ts hlen t0 t1;unfold fn176 wA;have hex:=@aZ.box _ _ c.e;have lb:=@jg _ _ _ r.m;have i0:bh 1 x.sn (.i 0)=_:=(c.nm (i:=0) De).1;have d0:=@(c.nm (i:=0) De).2;have hn:bt x.ev 0∈lF V.aD:=c.nk.kn 0 5 rfl;have hlt:bJ (lF V.aD) (bt x.ev 0)<V.aU.length:=by have:=eM hn;simpa [lF,RV.aD]using this
 have ei:eD (λy:rv=>decide (y.name=bt x.ev 0)) V.aU=(bJ (lF V.aD) (bt x.ev 0):Int):=jx (f:=rv.name) hn;have ix:bh 4 V.s5 (.i (bJ (lF V.aD) (bt x.ev 0):Int))=some (eO V.s5 4 (bJ (lF V.aD) (bt x.ev 0)),.ar):=c.o.i5.fx hlt;have sp:lV V.aD (bt x.ev 0)=V.aU[bJ (lF V.aD) (bt x.ev 0)]:=fR hn;refine Rs (A8 t0 t1 @hex @lb @lS @bD @i0 @d0) ?_;refine WF.ce T.c146 (r146 T (c.o.i5.ext Xx) (by have:=c.w.len.l5;omega) _) λg1=>?_
 rw[ei];refine Rs (A3 t0 t1 ix) ?_;rw[Uf B g,Uf B];refine WR.tu (h0:=B) (x':={V.aU[bJ (lF V.aD) (bt x.ev 0)]with rel:=true}) (by rw[<-Uf,<-Uf];exact(r.o.i5.app _).app _) hlt De rfl rfl ?_;intro g' OJ hff hkp;have hbl:=r.lt;have OH:sB V.s5≠some b:=λe=>r.ne (by rw[<-e];simp[RV.bl])
 have hk1:∀i,i<(B++g).length->sB V.s5≠some i->(B++g')[i]? =(B++g)[i]? :=λi hi hne=>by
  rw[hkp i (λb0 o n e he z=>hne (by rw[he,z];rfl)),<-Uf,<-Uf];exact KE
 refine Rs (A3 t0 t1 @ee) ?_;refine⟨g',{V with aU:=V.aU.set (bJ (lF V.aD) (bt x.ev 0)) {V.aU[bJ (lF V.aD) (bt x.ev 0)]with rel:=true},s5:=V.s5},rfl,r.ND hff (λi hi=>.inl hi) ((hk1 b hbl OH).trans r.m) (λi hi h1 _=>hk1 i hi h1),?_⟩;simp only[fZ,sp];rfl
def JA(r:bG B.length (B++g) b V){d}(c:Cx (B++g) V x d)(hd:1<a8 d)(h0:0<(aC d).length)(hn:bt x.ev 0∈iT V.aD)(hlt1:cC x.ev 1<(iD V.aD (bt x.ev 0)).b9.length)(s:Int):
  c9 P 250 [.ptr b 0,.agg x.row,.i s] (B++g) (λ_ k=>∃g' V',k=B++g'/\bG B.length (B++g') b V'/\V'.aD={V.aD with aI:=pa V.aD x.ev s}):=by
 refine .uP 28 T.mix T.c250 ?_;intro ts hlen t0 t1 t2;unfold fn250;have hex:=@aZ.box _ _ c.e;have lb:=@jg _ _ _ r.m;have i0:bh 1 x.sn (.i 0)=_:=(c.nm (i:=0) h0).1;have d0:=@(c.nm (i:=0) h0).2;have j1:bh 1 x.sv (.i 1)=_:=(c.vl (i:=1) hd).1;have f1:=@(c.vl (i:=1) hd).2.1;have q1:=(c.vl (i:=1) hd).2.2;have hlt:bJ (iT V.aD) (bt x.ev 0)<V.aI.length:=by have:=eM hn;simpa [iT,RV.aD]using this
 have ei:eD (λy:mV×AV=>decide (y.1.name=bt x.ev 0)) V.aI=(bJ (iT V.aD) (bt x.ev 0):Int):=(jx (f:=λy:mV×AV=>y.1.name) (by rw[<-jW];exact hn)).trans (by rw[jW]);have ix:bh 3 V.s4 (.i (bJ (iT V.aD) (bt x.ev 0):Int))=some (eO V.s4 3 (bJ (iT V.aD) (bt x.ev 0)),.ar):=c.o.i4.fx hlt;have sp:(V.aI[bJ (iT V.aD) (bt x.ev 0)]).1=iD V.aD (bt x.ev 0):=by
  have:=fR (f:=mV.name) (l:=V.aD.aI) (n:=bt x.ev 0) (d:=Aq) hn;rw[show iD V.aD (bt x.ev 0)=_ from this];exact BN
 obtain⟨p,hp⟩:∃p,p=bJ (iT V.aD) (bt x.ev 0):=⟨_,rfl⟩;rw[<-hp]at ei ix;have hlt:p<V.aI.length:=by rw[hp];exact hlt
 have sp:V.aI[p].1=iD V.aD (bt x.ev 0):=by rw[<-sp];congr 2
 have l2:∀{k:af},Ext (B++g) k->aq none (rk V.s4 3 p 2) (λb=>k[b]?)=some (V.aI[p].2,.ar):=λ{k} e=>c.o.i4.uR hlt rfl e
 have oj:=r.o.e4 _ (UB hlt);have hsl:(cC x.ev 1).toNat<V.aI[p].1.b9.length:=by rw[sp];omega
 have ev1:cC x.ev 1=((cC x.ev 1).toNat:Int):=Om
 have iy:bh 1 V.aI[p].2 (.i (cC x.ev 1))=some (eO V.aI[p].2 1 (cC x.ev 1).toNat,.ar):=by
  rw[ev1];exact oj.aM.fx hsl
 refine Rs (A9 t0 t1 t2 @hex @lb @qA @bD @i0 @d0) ?_;refine WF.ce T.c145 (r145 T (c.o.i4.ext Xx) c.o.hX.2.2 (by have:=c.w.len.l4;omega) _) λg1=>?_
 rw[ei];refine Rs (A9 t0 t1 t2 ix @l2 @bY @j1 @f1 @iy) ?_;rw[Uf B g,Uf B];have T2:eO V.aI[p].2 1 (cC x.ev 1).toNat=rk V.aI[p].2 1 (cC x.ev 1).toNat 0:=rfl;rw[T2];refine WR.tu (h0:=B) (x':=s) (row:=aE) (L:=V.aI[p].1.b9) (by rw[<-Uf,<-Uf];exact(oj.app _).app _) hsl De rfl rfl ?_;intro g' OJ hff hkp;have hk1:∀i,i<(B++g).length->sB V.aI[p].2≠some i->(B++g')[i]? =(B++g)[i]? :=λi hi hne=>by
  rw[hkp i (λb0 o n e he z=>hne (by rw[he,z];rfl)),<-Uf,<-Uf];exact KE
 refine Rs (A4 t0 t1 t2 @ee) ?_;refine⟨g',{V with aI:=V.aI.set p ({V.aI[p].1 with b9:=V.aI[p].1.b9.set (cC x.ev 1).toNat s},V.aI[p].2) },rfl,r.NQ hlt ⟨rfl,rfl⟩ hff hk1,?_⟩;have e:pa V.aD x.ev s=(V.aI.set p ({V.aI[p].1 with b9:=V.aI[p].1.b9.set (cC x.ev 1).toNat s},V.aI[p].2)).map Prod.fst:=by
  rw[pa,<-hp,<-sp,List.map_set];rfl
 rw[e];rfl
def LS(r:bG B.length (B++g) b V)(c:Cx (B++g) V x .iW)(hc:dA V.aD x.ev .iW=0):c9 P 170 [.ptr b 0,.agg x.row] (B++g) (λ_ k=>rz B b V x.ev .iW k):=by
 refine .eQ 11 T.mix T.c170 ?_;intro ts hlen t0 t1;unfold fn170 gA;have hex:=@aZ.box _ _ c.e;have j2:bh 1 x.sv (.i 2)=_:=(c.vl (i:=2) De).1;have f2:=@(c.vl (i:=2) De).2.1;have k0:bt x.ev 0∈iT V.aD:=c.nk.kn 0 4 rfl;have hlt:cC x.ev 1<(iD V.aD (bt x.ev 0)).b9.length:=by
  exact Nj
 refine Rs (A7 t0 t1 @hex @bW @bY @j2 @f2) ?_;rw[Uf B g];refine WF.gen T.c250 (JA T (B:=B) (by rw[<-Uf];exact r.app _) (by rw[<-Uf];exact c.ext Xx) De De k0 hlt (cC x.ev 2)) ?_;rintro _ _ ⟨g',V',rfl,h1,h2⟩;exact z160
def LR(r:bG B.length (B++g) b V)(c:Cx (B++g) V x .fail)(hc:dA V.aD x.ev .fail=0):c9 P 172 [.ptr b 0,.agg x.row] (B++g) (λ_ k=>rz B b V x.ev .fail k):=by
 refine .eQ 7 T.mix T.c172 ?_;intro ts hlen t0 t1;unfold fn172 gA;have hex:=@aZ.box _ _ c.e;have k0:bt x.ev 0∈iT V.aD:=c.nk.kn 0 4 rfl;have hlt:cC x.ev 1<(iD V.aD (bt x.ev 0)).b9.length:=by
  exact Nj
 refine Rs (A4 t0 t1 @hex @bW) ?_;rw[Uf B g];refine WF.gen T.c250 (JA T (B:=B) (by rw[<-Uf];exact r.app _) (by rw[<-Uf];exact c.ext Xx) De De k0 hlt (-1)) ?_;rintro _ _ ⟨g',V',rfl,h1,h2⟩;exact z160
end
def vc{k:Nat}(hk:k<=32):dM .and (.int .u64 (k:Int)) (.int .u64 4294967295)=some (.int .u64 (k:Int))/\dM .shr (.int .u64 (k:Int)) (.int .u64 32)=some (.int .u64 0):=by
 have:k=0\/k=1\/k=2\/k=3\/k=4\/k=5\/k=6\/k=7\/k=8\/k=9\/k=10\/k=11\/k=12\/k=13\/k=14\/k=15\/k=16\/k=17\/k=18\/k=19\/k=20\/k=21\/k=22\/k=23\/k=24\/k=25\/k=26\/k=27\/k=28\/k=29\/k=30\/k=31\/k=32:=Om
 rcases this with rfl|rfl|rfl|rfl|rfl|rfl|rfl|rfl|rfl|rfl|rfl|rfl|rfl|rfl|rfl|rfl|rfl|rfl|rfl|rfl|rfl|rfl|rfl|rfl|rfl|rfl|rfl|rfl|rfl|rfl|rfl|rfl|rfl<;>exact⟨rfl,rfl⟩
def x6:dM .and (.int .u64 0) (.int .u64 4294967295)=some (.int .u64 0)/\dM .shr (.int .u64 0) (.int .u64 32)=some (.int .u64 0):=⟨rfl,rfl⟩
def Ao:dM .and (.int .u64 1) (.int .u64 4294967295)=some (.int .u64 1)/\dM .shr (.int .u64 1) (.int .u64 32)=some (.int .u64 0):=⟨rfl,rfl⟩
def GM{x y:cK}{ρ:cK->AV}{h:af}{b o n m N:Nat}{c:List AV}{tl:Bool}(hx:ρ x=.slice b o n 1)(hy:ρ y=.slice b 0 m 1)(hb:h[b]? =some (.cells c true tl))(hn:o+n<=c.length)(hm:m<=c.length)(h0:0<min m n):
  stepT (.xH 1 x y) ρ (λz=>h[z]?) N=some (.i (min m n:Nat),.set b (.cells (fq c o (c.take (min m n))) true tl)):=by
 have hc:eE 1 (λz=>h[z]?) (ρ y)=some (c.take m,m):=by
  rw[hy];simp only[eE,UD,hb,UX,Wp,VI];rw[Ut hm]
 have e:stepT (.xH 1 x y) ρ (λz=>h[z]?) N=(match ρ x,eE 1 (λz=>h[z]?) (ρ y)with
  |.slice b o n es',some (ys,k)=>
   if es' =1 then
    if min k n=0 then some (.i 0,.ar)
    else
     match h[b]? with
     |some (.cells c true tl)=>if o+min k n*1<=c.length then some (.i (min k n:Nat),.set b (.cells (fq c o (ys.take (min k n*1))) true tl))else none
     |_=>none
   else none
  |.ah,some _=>some (.i 0,.ar)
  |_,_=>none):=rfl
 rw[e,hc,hx];simp only[UD,hb,Wp];rw[Ur Om,Ut Om,List.take_take,V5 (Nat.min_le_left _ _)]
def C9{x y ρ h b n N c v tl}(hx:ρ x=.slice b 0 n 1)(hy:aB h (ρ y) 1 [[v]])(hb:h[b]? =some (.cells c true tl))(hn:c.length=n)(h0:0<n):
  stepT (.xH 1 x y) ρ (λz=>h[z]?) N=some (.i 1,.set b (.cells (c.set 0 v) true tl)):=by
 have hc:=hy.eE;have e:stepT (.xH 1 x y) ρ (λz=>h[z]?) N=(match ρ x,eE 1 (λz=>h[z]?) (ρ y)with
  |.slice b o n es',some (ys,k)=>
   if es' =1 then
    if min k n=0 then some (.i 0,.ar)
    else
     match h[b]? with
     |some (.cells c true tl)=>if o+min k n*1<=c.length then some (.i (min k n:Nat),.set b (.cells (fq c o (ys.take (min k n*1))) true tl))else none
     |_=>none
   else none
  |.ah,some _=>some (.i 0,.ar)
  |_,_=>none):=rfl
 have hm:min 1 n=1:=Om
 rw[e,hc,hx];simp only[UD,hb,Us,hm,Wp];rw[Ur De,Ut Om];rfl
def zF{v z c m k}(hm:c+m<=k):fq (List.replicate c v++List.replicate (k-c) z) c (List.replicate m v)=List.replicate (c+m) v++List.replicate (k-(c+m)) z:=by
 induction m generalizing c with
 |zero=>rfl
 |succ m ih=>
  rw[VT,nf];have hk:k-c=(k-(c+1))+1:=Om
  have e:(List.replicate c v++List.replicate (k-c) z).set c v=List.replicate (c+1) v++List.replicate (k-(c+1)) z:=by
   rw[U0 _ _ Si,Vn,Vb,hk,VT,List.set_cons_zero,List.replicate_succ',Uf];rfl
  rw[e,ih Om];congr 2<;>omega
def zv{v z:AV}{c m k:Nat}(hm:m<=c):(List.replicate c v++List.replicate (k-c) z).take m=List.replicate m v:=by
 rw[List.take_append_of_le_length (by simpa using hm),List.take_replicate,V5 hm]
section
variable {P:Program}(T:eF P) {h:af}
include T
def r286{k:Nat}(hk:k<=32):ak P 286 [.int .u64 1,.int .u64 (k:Int)] h (λv _=>v=.dt [.int .u64 0,.int .u64 (k:Int)]):=by
 refine .eQ 51 T.mix T.c286 ?_;intro ts hlen t0 t1;unfold fn286 gA;obtain⟨a1,a2⟩:=vc hk;obtain⟨b1,b2⟩:=x6;obtain⟨c1,c2⟩:=Ao;have w1:IntKind.u64.wrap (1*(k:Int))=(k:Int):=by rw[Int.one_mul];exact wm Om Om
 have w2:IntKind.u64.wrap (0*(k:Int))=0:=by rw[Int.zero_mul];rfl
 have w3:IntKind.u64.wrap (0+0)=0:=rfl;have w4:IntKind.u64.wrap (1*0)=0:=rfl;have w5:IntKind.u64.wrap (0*0)=0:=rfl;exact Rs (Hk t0 t1 @a1 @a2 @b1 @b2 @c1 @c2 @w1 @w2 @w3 @w4 @w5) Tv
def r267{k:Nat}(hk:k<=32):ak P 267 [.int .u64 1,.int .u64 (k:Int)] h (λv _=>v=.dt [.int .u64 0,.int .u64 (k:Int)]):=by
 refine .eQ 30 T.mix T.c267 ?_;intro ts hlen t0 t1;unfold fn267 gA;refine Rs (A2 t0 t1) ?_;refine WF.ce T.c286 (r286 T hk) λg1=>?_
 exact Rs (A2 t0 t1) Tv
def r248{s:AV}(hs:aB h s 1 (([-1] :List Int).map aE)){k:Nat}(hk:k<=32)(hk0:0<k):ak P 248 [s,.i (k:Int)] h (λv h'=>Fr h.length h' v 1 ((List.replicate k (-1:Int)).map aE)):=by
 refine .eQ 48 T.mix T.c248 ?_;intro ts hlen t0 t1;unfold fn248 gA;have q0:decide ((k:Int)<0)=false:=Uh Om;have Rc:=λG=>hs.aS G
 have c1:IntKind.u64.wrap ((([-1] :List Int).length:Nat):Int)=1:=rfl;have c2:IntKind.u64.wrap (k:Int)=(k:Int):=wm Om Om;have q1:decide ((0:Int)<0)=false:=rfl;have q2:decide ((9223372036854775807:Int)<(k:Int))=false:=Uh Om;have c3:IntKind.i64.wrap (k:Int)=(k:Int):=aH Om Om;have mk:∀{N:Nat},qP 1 8 [AV.i 0] (.i (k:Int)) (.i (k:Int)) N=some (.slice N 0 k 1,.push (.cells (du k [AV.i 0]) true true)):=l9 Om Om;refine Rs (A6 t0 t1 q0 @Rc @c1 @c2) ?_;refine WF.ce T.c267 (r267 T hk) λg1=>?_
 refine Rs (A6 t0 t1 q1 q2 @c3 @mk) ?_;rw[C9 (b:=(h++g1).length) (n:=k) (v:=.i (-1)) (c:=du k [AV.i 0]) (tl:=true)]
 rotate_left
 ·exact(Sq t0)
 ·have:aB (h++g1++[ai.cells (du k [AV.i 0]) true true]) s 1 [[AV.i (-1)]]:=hs.ext Xx;refine Zs t0 ?_;exact this
 ·exact bO
 ·rw[kh,Wh];simp
 ·exact hk0
 have hz:(du k [AV.i 0]).set 0 (.i (-1))=List.replicate 1 (AV.i (-1))++List.replicate (k-1) (AV.i 0):=by
  rw[kh,Wh];obtain⟨n,rfl⟩:∃n,k=n+1:=⟨k-1,Om⟩;rw[VT,List.set_cons_zero];rfl
 rw[hz];refine Rs (A2 t0 t1) ?_;obtain⟨b0,PR⟩:∃b0,b0=(h++g1).length:=⟨_,rfl⟩;rw[<-PR];have hN:h.length<=b0:=by rw[PR];simp
 refine WL.inv T.mix (λn ts h'=>∃c:Nat,1<=c/\c<=k/\n=k-c/\h' =h++g1++[ai.cells (List.replicate c (AV.i (-1))++List.replicate (k-c) (AV.i 0)) true true]/\ts.length=48/\slot ts 7=.slice b0 0 k 1/\slot ts 8=.i (c:Int)) (k-1)
  ⟨1,Om,Om,rfl,rfl,Sn,(Sq t0),iR⟩ ?_
 rintro _ ts _ ⟨c,h1,h2,rfl,rfl,hlen,t7,t8⟩;have hb:(h++g1++[ai.cells (List.replicate c (AV.i (-1))++List.replicate (k-c) (AV.i 0)) true true])[b0]? =some (.cells (List.replicate c (AV.i (-1))++List.replicate (k-c) (AV.i 0)) true true):=by rw[PR];exact bO
 have hln:∀G:Nat->Option ai,iC .sl G (.slice b0 0 k 1)=some k:=λ_=>rfl
 by_cases hlt:c<k
 ·have e3:decide ((c:Int)<(k:Int))=true:=Uk Om;have s1:y4 1 (.slice b0 0 k 1) (some (.i (c:Int))) none=some (.slice b0 c (k-c) 1,.ar):=by
   simp only[y4,UD,mE (kk:=.i64) h2,Wp,UX]
  have s2:y4 1 (.slice b0 0 k 1) none (some (.i (c:Int)))=some (.slice b0 0 c 1,.ar):=by
   simp only[y4,UD,kH (kk:=.i64) h2,Wp,UX,Nat.sub_zero]
  refine Rs (A6 t7 t8 @hln e3 @s1 @s2) ?_;rw[GM (b:=b0) (o:=c) (n:=k-c) (m:=c) (c:=List.replicate c (AV.i (-1))++List.replicate (k-c) (AV.i 0)) (tl:=true)]
  rotate_left
  ·exact(Sq t7)
  ·exact(Sq t7)
  ·exact hb
  ·exact HK
  ·exact HK
  ·omega
  rw[zv (Nat.min_le_left _ _),zF Om];have bE:∀X:ai,(h++g1++[ai.cells (List.replicate c (AV.i (-1))++List.replicate (k-c) (AV.i 0)) true true]).set b0 X=h++g1++[X]:=λX=>by rw[PR];exact zE
  have hw:IntKind.i64.wrap ((c:Int)+((min c (k-c):Nat):Int))=((c+min c (k-c):Nat):Int):=by rw[aH Om Om];rfl
  refine Rs (A4 t7 t8 @bE @hw) ?_;exact⟨_,Om,c+min c (k-c),Om,Om,rfl,rfl,rfl⟩
 ·have e3:decide ((c:Int)<(k:Int))=false:=Uh Om;have e4:c=k:=Om
  refine Rs (A4 t7 t8 @hln e3) ?_;have O1:(List.replicate c (AV.i (-1))++List.replicate (k-c) (AV.i 0))=((List.replicate k (-1:Int)).map aE).flatten:=by
   rw[e4,Vb,WX,UE,List.map_replicate,Wh]
  have hlr:((List.replicate k (-1:Int)).map aE).length=k:=Si
  rw[O1]at hb;have:=Fr.mk (N:=h.length) (es:=1) (cs:=(List.replicate k (-1:Int)).map aE) (b:=b0) (tl:=true) hN hb Si;rw[hlr]at this;rw[O1];exact this
end
section
variable {P:Program}(T:eF P) {B g:af}{b:Nat}{V:RV}{x:EV}
include T
def LU(r:bG B.length (B++g) b V)(c:Cx (B++g) V x .run)(hc:dA V.aD x.ev .run=0):c9 P 168 [.ptr b 0,.agg x.row] (B++g) (λ_ k=>rz B b V x.ev .run k):=by
 refine .eQ 28 T.mix T.c168 ?_;intro ts hlen t0 t1;unfold fn168;have hex:=@aZ.box _ _ c.e;have lb:=@jg _ _ _ r.m;have i0:bh 1 x.sn (.i 0)=_:=(c.nm (i:=0) De).1;have d0:=@(c.nm (i:=0) De).2;have i1:bh 1 x.sn (.i 1)=_:=(c.nm (i:=1) De).1;have d1:=@(c.nm (i:=1) De).2;have j1:bh 1 x.sv (.i 1)=_:=(c.vl (i:=1) De).1;have f1:=@(c.vl (i:=1) De).2.1;have q1:=(c.vl (i:=1) De).2.2;have hn:1<=cC x.ev 1/\cC x.ev 1<=32:=by
  rw[dA]at hc;split at hc
  ·cases hc
  split at hc
  ·cases hc
  case isFalse hr=>exact hP hr
 obtain⟨k,hk⟩:∃k:Nat,cC x.ev 1=(k:Int):=⟨(cC x.ev 1).toNat,Om⟩;rw[hk]at f1;obtain⟨y,hy⟩:∃y:mV,y=⟨bt x.ev 0,bt x.ev 1,List.replicate k (-1)⟩:=⟨_,rfl⟩;refine Rs (Hk t0 t1 @hex @lb @qA @bD @bY @i0 @d0 @i1 @d1 @j1 @f1) ?_;refine WF.res T.c248 (r248 T (s:=.slice (B++g++[ai.b x.row]).length 0 1 1) (k:=k) (bN [-1]) Om Om) ?_;rintro t g1 Px;have Qs:bS (y,t)=[.str (bt x.ev 0),.str (bt x.ev 1),t]:=by rw[hy];rfl
 have Px:Fr (B++g).length (B++g++[ai.b x.row]++[ai.cells [AV.i (-1)] true true]++g1) t 1 (y.b9.map aE):=by rw[hy];exact Px.low (by simp only[Ud,Us];omega)
 have ot:=Px.aM.one;refine Rs (A3 t0 t1 @ot) ?_;rw[<-Qs];refine WR.gj (h0:=B) (cs:=V.aI.map bS) (ys:=[bS (y,t)]) (((((r.o.i4).app _).app _).app _).app _) (Fr.push (N:=0) (UK _) [bS (y,t)] (by simp[bS])).aM De Si (by have:=c.w.len.l4;simp;omega) Xx ?_;intro g' OJ hff hkp;have hrow:V.aI.map bS++[bS (y,t)]=(V.aI++[(y,t)]).map bS:=by rw[Up];rfl
 rw[hrow]at hff;rw[hrow];have hbl:=r.lt;have OH:sB V.s4≠some b:=λe=>r.ne (by rw[<-e];simp[RV.bl])
 have hk1:∀i,i<(B++g).length->sB V.s4≠some i->(B++g')[i]? =(B++g)[i]? :=λi hi hne=>by
  exact Ho
 have mB:(B++g')[b]? =some (.b V.row):=(hk1 b hbl OH).trans r.m;have QS:=λ(b' o n e:Nat)=>gy (i:=5) (v:=.slice b' o n e) mB rfl De
 refine Rs (A4 t0 t1 @QS @ee) ?_;refine JE r hff ?_ (λi hi=>by cases hi;exact .inr (by simp only[Ud,Us];omega)) hk1 ?_ ?_
 ·refine Fr.low (N:=(B++g).length) ((show Fr (B++g).length _ t 1 _ from Px.app _).ay λi hi=>hkp i ?_ (λb0 o n e he z=>?_)) Si
  ·have:=(Px.bL hi).2;simp only[Ud,Us]at this ⊢;omega
  ·have h1:=(Px.bL hi).1;have h2:=(r.o.i4.bL (show sB V.s4=some i by rw[he,z];rfl)).2;omega
 ·intro i hi;exact z31
 ·have e:(cC x.ev 1).toNat=k:=Om
  rw[hy];simp[RV.aD,fZ,e]
end
end Go.Abs
namespace Go.Abs
section
variable {P:Program}{ro:Option Nat->Prop}{ks:List Kt}{ts:TS}{h:af}{Q:Ex->TS->af->Prop}{S:af->Prop}{K:TS->af->Prop}{l:List bo}
def xU(S:af->Prop)(H:WM P S l ts h (kq P ro ks Q .normal)):WC P ro (.lX l) ks ts h Q:=⟨S,H⟩
def fL{o}(hS:S h)(hl:kR o=false)(hn:jv (o::l)=false)(H:WP P cB [o] [] ts h (λ_ PJ h1=>WM P S l PJ h1 K)):WM P S (o::l) ts h K:=⟨hS,.inr ⟨hn,.inr ⟨hl,H⟩⟩⟩
def xR{o}(hS:S h)(hl:jv (o::l)=true)(H:WP P ro (o::l) ks ts h Q):WM P S (o::l) ts h (kq P ro ks Q .normal):=⟨hS,.inl ⟨hl,H⟩⟩
def ru{n a d v}(hS:S h)(hv:∀g,S g->aq n (val ts a) (λb=>g[b]?)=some (v,.ar))(H:WM P S l (put ts d v) h K)(hn:jv (({dst:=d,k:=.load n a,gd:=none,q:=true}:bo)::l)=false:=by rfl):WM P S ({dst:=d,k:=.load n a,gd:=none,q:=true} ::l) ts h K:=by
 refine⟨hS,.inr ⟨hn,.inl ⟨rfl,v,λg hg=>?_,H⟩⟩⟩;refine cY.run trivial ?_ ?_
 ·cases d<;>trivial
 ·have h1:stepT (.load n a) (val ts) (λb=>g[b]?) g.length=some (v,.ar):=hv g hg;exact lL h1
end
def bG.NP{N b h k V}(r:bG N h b V){i}(hi:i<V.ao.length){y t}(hs:Fr N k V.s2 3 ((V.ao.set i (y,t)).map bg))(ht:Fr N k t 1 (y.aK.map al))(hnt:∀j,sB t=some j->h.length<=j)
  (hk:∀j,j<h.length->sB V.s2≠some j->sB V.ao[i].2≠some j->k[j]? =h[j]?):bG N k b {V with ao:=V.ao.set i (y,t) }:=by
 have hin:∀j,some j∈V.bl->N<=j/\j<h.length:=λj hj=>r.o.dU hj
 let l1:List (Option Nat):=[sB V.s0,sB V.s1,sB V.s2,sB V.s3,sB V.s4,sB V.s5]++(V.ao.take i).map λx=>sB x.2
 let l2:List (Option Nat):=(V.ao.drop (i+1)).map (λx=>sB x.2)++(V.aJ.map λx=>sB x.2)++(V.aI.map λx=>sB x.2)
 have hV:V.bl=l1++sB V.ao[i].2::l2:=by
  have e:V.ao=V.ao.take i++V.ao[i]::V.ao.drop (i+1):=by rw[<-VC hi,U8]
  have e2:(V.ao.map λx=>sB x.2)=(V.ao.take i).map (λx=>sB x.2)++sB V.ao[i].2:: (V.ao.drop (i+1)).map (λx=>sB x.2):=by
   conv=>lhs;rw[e]
   simp only[Up,Vl]
  exact HD
 have T7:{V with ao:=V.ao.set i (y,t) }.bl=l1++sB t::l2:=by
  have e2:((V.ao.set i (y,t)).map λx=>sB x.2)=(V.ao.take i).map (λx=>sB x.2)++sB t:: (V.ao.drop (i+1)).map (λx=>sB x.2):=by
   rw[List.set_eq_take_append_cons_drop,Ut hi];simp only[Up,Vl]
  exact HD
 have Pp:=r.o.di;rw[hV]at Pp;obtain⟨h1,h2,h3⟩:=Vq.1 Pp;have h4:=Vx.1 h2;have nti:∀j,some j∈l1\/some j∈l2->sB V.ao[i].2≠some j:=λj hj e=>by
  rcases hj with hj|hj
  ·exact h3 _ hj _ Si j rfl e
  ·exact h4.1 _ hj j e rfl
 have hlt:∀j,some j∈l1\/some j∈l2->j<h.length:=λj hj=>(hin j (by rw[hV];exact gR hj)).2
 have ns2:∀j,(some j∈[sB V.s0,sB V.s1]\/some j∈[sB V.s3,sB V.s4,sB V.s5]++((V.ao.map λx=>sB x.2)++(V.aJ.map λx=>sB x.2)++(V.aI.map λx=>sB x.2)))->sB V.s2≠some j:=λj hj e=>by
  have Sv:kg ([sB V.s0,sB V.s1]++sB V.s2:: ([sB V.s3,sB V.s4,sB V.s5]++((V.ao.map λx=>sB x.2)++(V.aJ.map λx=>sB x.2)++(V.aI.map λx=>sB x.2)))):=by
   have:=r.o.di;simp only[RV.bl]at this
   simpa using this
  obtain⟨a1,a2,a3⟩:=Vq.1 Sv;rcases hj with hj|hj
  ·exact a3 _ hj _ Si j rfl e
  ·exact(Vx.1 a2).1 _ hj j e rfl
 have kp:∀j,(some j∈l1\/some j∈l2)->sB V.s2≠some j->k[j]? =h[j]? :=λj hj hn=>hk j (hlt j hj) hn (nti j hj)
 have own:dm N k {V with ao:=V.ao.set i (y,t) }:=by
  refine⟨r.o.i0.ay λj hj=>kp j (.inl (by rw[<-hj];simp[l1])) (ns2 j (.inl (by rw[<-hj];simp))),r.o.i1.ay λj hj=>kp j (.inl (by rw[<-hj];simp[l1])) (ns2 j (.inl (by rw[<-hj];simp))),hs,
   r.o.i3.ay λj hj=>kp j (.inl (by rw[<-hj];simp[l1])) (ns2 j (.inr (by rw[<-hj];simp))),r.o.i4.ay λj hj=>kp j (.inl (by rw[<-hj];simp[l1])) (ns2 j (.inr (by rw[<-hj];simp))),r.o.i5.ay λj hj=>kp j (.inl (by rw[<-hj];simp[l1])) (ns2 j (.inr (by rw[<-hj];simp))),?_,?_,?_,?_⟩
  ·intro x hx;obtain⟨n,hn,rfl⟩:=WW hx;have R3:n<V.ao.length:=by simpa using hn
   by_cases hni:n=i
   ·subst hni;simp only[WD];exact ht
   ·simp only[WY (Wy hni)];refine(r.o.e2 _ (UB R3)).ay λj hj=>kp j ?_ (ns2 j (.inr ?_))
    ·rcases Nat.lt_or_gt_of_ne hni with hlt|hlt
     ·left
      refine Um.2 (.inr (UI.2 ⟨V.ao[n],?_,hj⟩));exact List.mem_take_iff_getElem.2 ⟨n,Om,rfl⟩
     ·right
      simp only[l2,Um];refine .inl (.inl (UI.2 ⟨V.ao[n],?_,hj⟩));exact List.mem_drop_iff_getElem.2 ⟨n-(i+1),Om,by congr 1;omega⟩
    ·simp only[Um];exact .inr (.inl (.inl (UI.2 ⟨V.ao[n],UB R3,hj⟩)))
  ·intro x hx;refine(r.o.e3 x hx).ay λj hj=>kp j (.inr ?_) (ns2 j (.inr ?_))
   ·simp only[l2,Um];exact .inl (.inr (UI.2 ⟨x,hx,hj⟩))
   ·simp only[Um];exact .inr (.inl (.inr (UI.2 ⟨x,hx,hj⟩)))
  ·intro x hx;refine(r.o.e4 x hx).ay λj hj=>kp j (.inr ?_) (ns2 j (.inr ?_))
   ·simp only[l2,Um];exact .inr (UI.2 ⟨x,hx,hj⟩)
   ·simp only[Um];exact .inr (.inr (UI.2 ⟨x,hx,hj⟩))
  ·show kg {V with ao:=V.ao.set i (y,t) }.bl;rw[T7];refine Pp.vA λj hj=>.inr ⟨λz hz e=>?_,λz hz e=>?_⟩
   ·subst e;have:=hlt j (.inl hz);have:=hnt j hj;omega
   ·subst e;have:=hlt j (.inr hz);have:=hnt j hj;omega
 have hne:=r.ne;rw[hV]at hne;refine⟨own,r.hN,?_,λhb=>?_⟩
 ·have n1:sB V.s2≠some b:=λe=>hne (gR (.inl (by rw[<-e];simp[l1])))
  have n2:sB V.ao[i].2≠some b:=λe=>hne (by rw[e];simp)
  exact(hk b r.lt n1 n2).trans r.m
 ·rw[T7]at hb;rcases tM hb with z|z|z
  ·exact hne (gR (.inl z))
  ·have:=hnt b z.symm;have:=r.lt;omega
  ·exact hne (gR (.inr z))
set_option maxRecDepth 10000
attribute [local irreducible] WP WC WE WB WR WF WL WG fo
section
variable {P:Program}(T:eF P) {h:af}
include T
def r266{L s}(hs:aB h s 1 (L.map al))(hl:L.length<2^63)(n:By):ak P 266 [s,.str n] h (λv _=>v=.i (eD (λy=>decide (n=y)) L)):=by
 refine .eQ 19 T.mix T.c266 ?_;intro ts hlen t0 t1;unfold fn266 gA;refine Rs (A3 t0 t1 hs.aS) ?_;refine WL.inv T.mix (λm ts h'=>∃k:Nat,k<=L.length/\m=L.length-k/\h' =h/\L.findIdx? (λy=>decide (n=y))=((L.drop k).findIdx? (λy=>decide (n=y))).map (· +k)/\ts.length=19/\slot ts 0=s/\slot ts 1=.str n/\slot ts 7=.i L.length/\slot ts 8=.i k) L.length
  ⟨0,Om,rfl,rfl,Si,Sn,(Sq t0),(Sq t1),(Sq t0),iR⟩ ?_
 rintro _ ts _ ⟨k,hk,rfl,rfl,hi,hlen,t0,t1,t7,t8⟩;by_cases hlt:k<L.length
 ·have hd:L.drop k=L[k]::L.drop (k+1):=Si
  have e3:=gh hlt;have ix:=hs.fx (kk:=.i64) hlt;have ld:=hs.kK (i:=k) (x:=.str L[k]) hlt rfl (Ext.refl _);have e5:=wrapN (n:=k) Om;by_cases hp:n=L[k]
  ·have q:decide (n=L[k])=true:=Uk hp;refine Rs (A8 t0 t1 t7 t8 e3 ix @ld q) ?_;rw[eD,hi,hd,List.findIdx?_cons,q];simp
  ·have q:decide (n=L[k])=false:=Uh hp;refine Rs (A9 t0 t1 t7 t8 e3 ix @ld q e5) ?_;refine⟨_,?_,k+1,Om,rfl,?_,rfl⟩
   ·omega
   ·rw[hi,hd,List.findIdx?_cons,q];simp only[U3,UC,Option.map_map];congr 1;funext i;simp only[Function.comp];omega
 ·have e3:=gG hlt;have e4:k=L.length:=Om
  refine Rs (A5 t0 t1 t7 t8 e3) ?_;rw[eD,hi,e4,Vr];rfl
def r242{L:List (By)}{s:AV}(hs:aB h s 1 (L.map al))(hl:L.length<2^63)(n:By):ak P 242 [s,.str n] h (λv _=>v=.bool (decide (n∈L))):=by
 refine .eQ 9 T.mix T.c242 ?_;intro ts hlen t0 t1;unfold fn242 gA;refine Rs (A2 t0 t1) ?_;refine WF.ce T.c266 (r266 T hs hl n) λg1=>?_
 refine Rs (A2 t0 t1) ?_;rw[mo];congr 1;rw[Bool.eq_iff_iff];simp[Wu]
end
attribute [local irreducible] WM
section
variable {P:Program}(T:eF P) {B g:af}{b:Nat}{V:RV}{x:EV}
include T
def LZ(r:bG B.length (B++g) b V)(c:Cx (B++g) V x .copy):c9 P 158 [.ptr b 0,.agg x.row] (B++g) (λ_ k=>rz B b V x.ev .copy k):=by
 refine .eQ 50 T.mix T.c158 ?_;intro ts hlen t0 t1;unfold fn158;have hex:=@aZ.box _ _ c.e;have lb:=@jg _ _ _ r.m;have i0:bh 1 x.sn (.i 0)=_:=(c.nm (i:=0) De).1;have d0:=@(c.nm (i:=0) De).2;have i1:bh 1 x.sn (.i 1)=_:=(c.nm (i:=1) De).1;have d1:=@(c.nm (i:=1) De).2;have PZ:V.ao.length<=64:=by have:=c.w.l2;simpa [RV.aD]using this
 have htp:∀y∈V.ao,y.1.aK.length<2^30:=λy hy=>(c.w.AN.sh y hy).2
 refine Rs (y9 t0 t1 @hex @lb @jU @bD @i0 @d0 @i1 @d1 c.o.i2.aS) ?_;obtain⟨a,ha⟩:∃a,a=bt x.ev 0:=⟨_,rfl⟩;obtain⟨z,hz⟩:∃z,z=bt x.ev 1:=⟨_,rfl⟩;rw[<-ha,<-hz];refine WL.inv T.mix (λn ts h'=>∃(k:Nat) (g':af) (U:RV),k<=V.ao.length/\n=V.ao.length-k/\h' =B++g'/\bG B.length (B++g') b U/\U.s2=V.s2/\U.ao.length=V.ao.length/\
   {U.aD with ao:=V.aD.ao} =V.aD/\(∀i (hi:i<U.ao.length) (hi':i<V.ao.length),(U.ao[i]).1=if i<k then nA a z (V.ao[i]).1 else(V.ao[i]).1)/\
   ts.length=50/\slot ts 0=.ptr b 0/\slot ts 4=.str a/\slot ts 5=.str z/\slot ts 19=V.s2/\slot ts 20=.i V.ao.length/\slot ts 21=.i k) V.ao.length
  ⟨0,g++[ai.b x.row],V,Om,rfl,by rw[Uf],by rw[<-Uf];exact r.app _,rfl,rfl,rfl,λi hi hi'=>by rw[Ur Om],Sn,(Sq t0),(Sq t0),(Sq t0),(Sq t0),(Sq t0),iR⟩ ?_
 clear t0 t1 hlen i0 d0 i1 d1 hex lb;clear ts;rintro _ ts _ ⟨k,g',U,hk,rfl,rfl,rU,OX,T8,hreg,hU,hlen,t0,t4,t5,t19,t20,t21⟩;by_cases hlt:k<V.ao.length
 ·have hlU:k<U.ao.length:=Om
  have e3:=gh hlt;have e5:=wrapN (n:=k) Om;have oU:=rU.o.ok;have ix:bh 3 V.s2 (.i (k:Int))=some (eO V.s2 3 k,.ar):=by rw[<-OX];exact oU.i2.fx hlU
  have ld:∀{k':af},Ext (B++g') k'->aq (some 3) (eO V.s2 3 k) (λb=>k'[b]?)=some (.agg (bg U.ao[k]),.ar):=λ{k'} e=>by rw[<-OX];exact oU.i2.mY hlU e
  have PI:U.ao[k]∈U.ao:=UB _;have hx1:(U.ao[k]).1=(V.ao[k]).1:=by rw[hU k hlU hlt,Ur Om]
  have hxl:(U.ao[k]).1.aK.length<2^30:=by rw[hx1];exact htp _ (UB _)
  have hfx:=rU.o.e2 _ PI;have next:∀(U2:RV),U2.ao.length=V.ao.length->(∀i (hi:i<U2.ao.length) (hi':i<U.ao.length),(U2.ao[i]).1=if i=k then nA a z (U.ao[i]).1 else(U.ao[i]).1)->
    ∀i (hi:i<U2.ao.length) (hi':i<V.ao.length),(U2.ao[i]).1=if i<k+1 then nA a z (V.ao[i]).1 else(V.ao[i]).1:=by
   intro U2 a3 a5 i hi hi';rw[a5 i hi Om,hU i Om hi'];by_cases QZ:i=k
   ·subst QZ;rw[Ut rfl,Ur Om,Ut Om]
   ·rw[Ur QZ];exact H8
  obtain⟨y,hy⟩:∃y,y=U.ao[k]:=⟨_,rfl⟩;rw[<-hy]at ld hfx hxl;have oy:=hfx.aM.one;unfold bg at ld;refine Rs (uO t0 t4 t5 t19 t20 t21 e3 ix @ld @oy) ?_;refine WF.ce T.c242 (r242 T (hfx.aM.ext Xx) Om a) λg1=>?_
  by_cases h1:a∈y.1.aK
  case neg=>
   have q1:decide (a∈y.1.aK)=false:=Uh h1;rw[q1];refine Rs (A7 t0 t4 t5 t19 t20 t21 e5) ?_;have Pu:B++g'++[ai.b [AV.str y.1.name,.str y.1.line,y.2]]++g1=B++(g'++[ai.b [AV.str y.1.name,.str y.1.line,y.2]]++g1):=by simp only[Uf]
   refine⟨_,Om,k+1,_,U,Om,rfl,Pu,by rw[<-Pu];exact(rU.app _).app _,OX,T8,hreg,next U T8 (λi hi hi'=>?_),rfl⟩;split
   ·rename_i QZ;subst QZ;rw[<-hy,nA,Ur (λw=>h1 w.1)]
   ·rfl
  have q1:decide (a∈y.1.aK)=true:=Uk h1;rw[q1];refine Rs (A6 t0 t4 t5 t19 t20 t21) ?_;refine WF.ce T.c242 (r242 T (hfx.aM.ext Xx) Om z) λg2=>?_
  by_cases h2:z∈y.1.aK
  ·have q2:decide (z∈y.1.aK)=true:=Uk h2;rw[q2];refine Rs (A8 t0 t4 t5 t19 t20 t21 @UA e5) ?_;have Pu:B++g'++[ai.b [AV.str y.1.name,.str y.1.line,y.2]]++g1++g2=B++(g'++[ai.b [AV.str y.1.name,.str y.1.line,y.2]]++g1++g2):=by simp only[Uf]
   refine⟨_,Om,k+1,_,U,Om,rfl,Pu,by rw[<-Pu];exact((rU.app _).app _).app _,OX,T8,hreg,next U T8 (λi hi hi'=>?_),rfl⟩;split
   ·rename_i QZ;subst QZ;rw[<-hy,nA,Ur (λw=>w.2 h2)]
   ·rfl
  have q2:decide (z∈y.1.aK)=false:=Uh h2;rw[q2];refine Rs (A7 t0 t4 t5 t19 t20 t21 @UF) ?_;obtain⟨xb,hxb⟩:∃xb,xb=(B++g').length:=⟨_,rfl⟩;obtain⟨G,hG⟩:∃G,G=g'++[ai.b [AV.str y.1.name,.str y.1.line,y.2]]++g1++g2:=⟨_,rfl⟩;have Pu:B++g'++[ai.b [AV.str y.1.name,.str y.1.line,y.2]]++g1++g2=B++G:=by rw[hG];simp only[Uf]
  have hex:Ext (B++g') (B++G):=by rw[<-Pu];exact Xx
  have mx:(B++G)[xb]? =some (.b [AV.str y.1.name,.str y.1.line,y.2]):=by
   rw[<-Pu,hxb,Uf _ g1,Ug Si,Un Om];simp
  have mb:(B++G)[b]? =some (.b U.row):=hex.some rU.m;have hfx2:Fr B.length (B++G) y.2 1 (y.1.aK.map al):=by rw[<-Pu];exact((hfx.app _).app _).app _
  have hs22:Fr B.length (B++G) V.s2 3 (U.ao.map bg):=by rw[<-Pu,<-OX];exact((rU.o.i2.app _).app _).app _
  rw[Pu,<-hxb];refine xU (λh=>h[b]? =some (.b U.row)/\h[xb]? =some (.b [AV.str y.1.name,.str y.1.line,y.2])) ?_;have hS:(λh:af=>h[b]? =some (.b U.row)/\h[xb]? =some (.b [AV.str y.1.name,.str y.1.line,y.2])) (B++G):=⟨mb,mx⟩;refine fL hS rfl rfl ?_;refine Rs t0 ?_;refine fL hS rfl rfl ?_;refine Rs t0 ?_;refine fL hS rfl rfl ?_;refine Rs t0 ?_;refine ru hS (v:=V.s2) (λg hg=>?_) ?_
  ·simp only[aL,aR,bd,bf,reduceAdd,reduceMul,reduceLeDiff,reduceEqDiff,bj,hlen,UC,UD,t0,az hg.1,jU,OX]
  refine Rs t0 ?_;refine fL hS rfl rfl ?_;refine Rs t0 ?_;refine fL hS rfl rfl ?_;refine Rs t0 ?_;refine ru hS (v:=y.2) (λg hg=>?_) ?_
  ·simp only[aL,aR,bd,bf,reduceAdd,reduceMul,reduceLeDiff,reduceEqDiff,bj,hlen,UC,UD,t0,az hg.2]
  refine Rs t0 ?_;refine fL hS rfl rfl ?_;refine Rs (A2 t0 t5) ?_;obtain⟨zr,hzr⟩:∃zr,zr=al z:=⟨_,rfl⟩;have hS2:(λh:af=>h[b]? =some (.b U.row)/\h[xb]? =some (.b [AV.str y.1.name,.str y.1.line,y.2])) (B++G++[ai.cells [.str z] true true]):=⟨(Ext.app _ (Ext.refl _)).some mb,(Ext.app _ (Ext.refl _)).some mx⟩;have hxlt:xb<(B++G).length:=by
   rw[<-Pu,hxb];simp only[Ud,Ui,Ul];omega
  refine fL hS rfl rfl ?_;refine Rs t0 ?_;refine fL hS2 rfl rfl ?_;refine Rs t0 ?_;refine WR.gj (h0:=B) (cs:=y.1.aK.map al) (ys:=[al z]) (hfx2.app _) (Fr.push (N:=0) (UK _) [al z] (by simp[al])).aM De Si (by simp only[Uv,Ui,Ul];omega) (by rw[Uf];exact⟨_,rfl⟩) ?_;intro g3 hl3 hff hkp;have hrow:y.1.aK.map al++[al z]=(y.1.aK++[z]).map al:=by rw[Up];rfl
  rw[hrow]at hff;rw[hrow];obtain⟨t',ht'⟩:∃t',t' =AV.slice (B++G++[ai.cells [.str z] true true]).length 0 ((y.1.aK++[z]).map al).length 1:=⟨_,rfl⟩;rw[<-ht']at hff;rw[<-ht'];have o1:t'.one=true:=by rw[ht'];rfl
  have hGl:(B++g').length<=(B++G).length:=hex.len;have hty:sB t' =some (B++G++[ai.cells [.str z] true true]).length:=by rw[ht'];rfl
  have hbl:=rU.lt;have QL:sB y.2≠some b:=λe=>rU.ne (by rw[<-e,RV.bl,hy];simp only[Um,UI];exact .inl (.inl (.inr ⟨_,PI,rfl⟩)))
  have Qa:∀i,sB y.2=some i->i<xb:=λi hi=>by rw[hxb];exact(hfx.bL hi).2
  have hk3:∀i,i<(B++G).length->sB y.2≠some i->(B++g3)[i]? =(B++G)[i]? :=λi hi hne=>by
   rw[hkp i (by simp only[Ud]at hi ⊢;omega) (λb0 o n e he z=>hne (by rw[he,z];rfl)),Ug hi]
  have hS3:(λh:af=>h[b]? =some (.b U.row)/\h[xb]? =some (.b [AV.str y.1.name,.str y.1.line,y.2])) (B++g3):=
   ⟨(hk3 b Om QL).trans mb,(hk3 xb hxlt (λe=>by have:=Qa _ e;omega)).trans mx⟩
  have hsy:∀j,sB V.s2=some j->sB y.2≠some j:=λj hj e=>by
   have Sv:kg ([sB U.s0,sB U.s1]++sB U.s2:: ([sB U.s3,sB U.s4,sB U.s5]++((U.ao.map λx=>sB x.2)++(U.aJ.map λx=>sB x.2)++(U.aI.map λx=>sB x.2)))):=by
    have:=rU.o.di;simp only[RV.bl]at this
    simpa using this
   obtain⟨_,a2,_⟩:=Vq.1 Sv;refine(Vx.1 a2).1 (sB y.2) ?_ j (by rw[OX];exact hj) e;simp only[Um,UI];exact .inr (.inl (.inl ⟨_,PI,by rw[<-hy]⟩))
  have hs23:Fr B.length (B++g3) V.s2 3 (U.ao.map bg):=hs22.ay λi hi=>hk3 i (hs22.bL hi).2 (hsy i hi)
  refine Rs t0 ?_;refine xR hS3 rfl ?_;refine Rs (A3 t0 ix @o1) ?_;have hkU:k<U.ao.length:=hlU;refine WR.tu (h0:=B) (x':=(⟨y.1.name,y.1.line,y.1.aK++[z]⟩,t')) (row:=bg) hs23 hlU De o1 (by rw[<-hy];rfl) ?_;intro g4 hl4 hff4 hkp4;have hk4:∀i,i<(B++g').length->sB V.s2≠some i->sB y.2≠some i->(B++g4)[i]? =(B++g')[i]? :=λi hi n1 n2=>by
   rw[hkp4 i (λb0 o n e he z=>n1 (by rw[he,z];rfl)),hk3 i Om n2];exact hex.get hi
  have nb2:sB V.s2≠some b:=λe=>rU.ne (by rw[<-e,<-OX];simp[RV.bl])
  have ht4:Fr B.length (B++g4) t' 1 ((y.1.aK++[z]).map al):=hff.ay λi hi=>by
   rw[hty]at hi;cases hi;refine hkp4 _ (λb0 o n e he zz=>?_);have:=(rU.o.i2.bL (show sB U.s2=some b0 by rw[OX,he];rfl)).2;have h3:(B++g').length<=(B++G++[ai.cells [.str z] true true]).length:=by simp only[Ud]at hGl ⊢;omega
   omega
  refine Rs (A7 t0 t4 t5 t19 t20 t21 e5) ?_;refine⟨_,Om,k+1,g4,{U with ao:=U.ao.set k (⟨y.1.name,y.1.line,y.1.aK++[z]⟩,t') },Om,rfl,rfl,rU.NP hlU (by rw[OX];exact hff4) ht4 (λj hj=>?_) (λj hj n1 n2=>hk4 j hj (by rw[<-OX];exact n1) (by rw[hy];exact n2)),OX,(by simp only[VA];exact T8),hreg,next _ (by simp only[VA];exact T8) (λi hi hi'=>?_),rfl⟩
  ·rw[hty]at hj;cases hj;simp only[Ud]at hGl ⊢;omega
  ·by_cases QZ:i=k
   ·subst QZ;simp only[WD,UD];rw[<-hy,nA,Ut ⟨h1,h2⟩]
   ·rw[Ur QZ];simp only[WY (Wy QZ)]
 ·have e3:decide ((k:Int)<V.ao.length)=false:=Uh Om;have e4:k=V.ao.length:=Om
  refine Rs (A8 t0 t4 t5 t19 t20 t21 e3 @ee) ?_;refine⟨g',U,rfl,rU,?_⟩;have hsh:U.aD.ao=V.aD.ao.map (nA a z):=by
   refine List.ext_getElem (by simp[RV.aD,T8]) λi h1 h2=>?_
   have hi:i<U.ao.length:=by simpa [RV.aD]using h1
   have:=hU i hi Om;rw[Ut Om]at this
   simpa [RV.aD]using this
  have heq:∀A C:gB,{A with ao:=C.ao} =C->A={C with ao:=A.ao}:=by
   intro A C h;cases A;cases C;simp_all
  have:=heq _ _ hreg;rw[this,hsh,fZ,ha,hz]
end
def HV.now(V:HV):RV:=V.cI.getLastD RV.zero
def HV.iI(V:HV):V.now.aD=V.bE.now:=by
 rw[HV.now,HV.bE,kf.now];show _=(V.cI.map RV.aD).getLastD gB.zero;rw[Vu,Vu,List.getLast?_map];cases V.cI.getLast? <;>rfl
structure xX(h:af)(b:Nat)(V:HV):Prop where
 hb:h[b]? =some (.b [V.se,V.sc,V.sr])
 ie:aB h V.se 5 (V.cS.map EV.row)
 ic:aB h V.sc 5 (V.ff.map EV.row)
 ig:aB h V.sr 7 (V.cI.map RV.row)
 ae:∀x∈V.cS,aZ h x
 ac:∀x∈V.ff,aZ h x
 ag:∀x∈V.cI,aG h x
theorem xX.ext{h k b V}(o:xX h b V)(e:Ext h k):xX k b V:=
 ⟨e.some o.hb,o.ie.ext e,o.ic.ext e,o.ig.ext e,λx hx=>(o.ae x hx).ext e,λx hx=>(o.ac x hx).ext e,λx hx=>(o.ag x hx).ext e⟩
def bZ.rd{N h b V}(o:bZ N h b V):xX h b V:=
 ⟨o.hb,o.oe.aM,o.oc.aM,o.og.aM,λx hx=>(o.ae x hx).sub (mS.gQ _ _),λx hx=>(o.ac x hx).sub (mS.gQ _ _),λx hx=>(o.ag x hx).sub (mS.gQ _ _)⟩
theorem xX.now{h b V}(o:xX h b V):aG h V.now:=by
 rw[HV.now,Vu];cases hx:V.cI.getLast? with
 |none=>exact aG.zero
 |some R=>exact o.ag R (List.mem_of_getLast? hx)
def aG.st{h V}(o:aG h V){b a0 a1 a2 a3 a4 a5 a6 tl}:jq 7 0 (.agg V.row) b (.cells [a0,a1,a2,a3,a4,a5,a6] true tl)=some (au,.set b (.cells V.row true tl)):=by
 refine(rI (l:=V.row) rfl o.row (by show 0+7<=7;omega)).trans ?_;rfl
def aZ.st{h x}(o:aZ h x){b a0 a1 a2 a3 a4 tl}:jq 5 0 (.agg x.row) b (.cells [a0,a1,a2,a3,a4] true tl)=some (au,.set b (.cells x.row true tl)):=by
 refine(rI (l:=x.row) rfl o.row (by show 0+5<=5;omega)).trans ?_;rfl
def Gi{e d}(hd:d≠.fW):e.kind=bw d↔p9 e=d:=by
 rw[p9];constructor
 ·intro h;rw[h,kv];rfl
 ·intro h;cases hk:eC e.kind with
  |none=>rw[hk]at h;exact absurd h.symm hd
  |some c=>rw[hk]at h;cases h;exact fj hk
structure kW(H:kf):Prop where
 rg:∀R∈H.cI,ka R
 ln:H.cI.length=H.ff.length
 le:H.ff.length<=H.cS.length
 ev:∀e∈H.cS,∃d,uT e d
 cn:∀e∈H.ff,∃d,uT e d
theorem kW.zero:kW kf.zero:=by
 refine⟨?_,rfl,Uq _,?_,?_⟩
 all_goals intro x hx;cases hx
theorem kW.now{H}(w:kW H):ka H.now:=by
 rw[kf.now,Vu];cases hx:H.cI.getLast? with
 |none=>exact ka.zero
 |some R=>exact w.rg R (List.mem_of_getLast? hx)
section
variable {P:Program}(T:eF P)
include T
def D1{B g b V x d ro ks ts Q dd l}(hd:d≠.fW)(r:bG B.length (B++g) b V)(c:Cx (B++g) V x d)(hc:dA V.aD x.ev d=0)(gl:Gl (B++g))
  (K:∀v h',rz B b V x.ev d h'->WP P ro l ks (put ts dd v) h' Q):WF P ro false (nj d) [.ptr b 0,.agg x.row] dd l ks ts (B++g) Q:=by
 cases d with
 |fW=>exact absurd rfl hd
 |line=>exact WF.gen (a:=[]) (c:=[]) T.c149 (L7 T r c) K
 |tape=>exact WF.gen (a:=[]) (c:=[]) T.c152 (L5 T r c) K
 |iY=>exact WF.gen (a:=[]) (c:=[]) T.c156 (L0 T r c) K
 |copy=>exact WF.gen (a:=[]) (c:=[]) T.c158 (LZ T r c) K
 |accept=>exact WF.gen (a:=[]) (c:=[]) T.c160 (LY T r c) K
 |source=>exact WF.gen (a:=[]) (c:=[]) T.c162 (LX T r c) K
 |iP=>exact WF.gen (a:=[]) (c:=[]) T.c164 (LW T r c hc gl) K
 |merge=>exact WF.gen (a:=[]) (c:=[]) T.c166 (LV T r c) K
 |run=>exact WF.gen (a:=[]) (c:=[]) T.c168 (LU T r c hc) K
 |iW=>exact WF.gen (a:=[]) (c:=[]) T.c170 (LS T r c hc) K
 |fail=>exact WF.gen (a:=[]) (c:=[]) T.c172 (LR T r c hc) K
 |jd=>exact WF.gen (a:=[]) (c:=[]) T.c174 (LP T r c) K
 |rel=>exact WF.gen (a:=[]) (c:=[]) T.c176 (LO T r c) K
variable {h:af}
def r79{V b}(o:xX h b V)(hl:V.cI.length<=1000):ak P 79 [.ptr b 0] h (λv _=>v=.agg V.now.row):=by
 refine .jP 20 T.mix T.c79 ?_;intro ts hlen t0;unfold fn79 gA;have hb:=o.hb;have lb:=@jg _ _ _ hb;refine Rs (A3 t0 @lb o.ig.aS) ?_;rcases List.eq_nil_or_concat V.cI with hn|⟨L,R,hn⟩
 ·have OE:V.cI.length=0:=by rw[hn];rfl
  have e1:decide ((0:Int)<(V.cI.length:Int))=false:=Uh Om;refine Rs (A2 t0 e1) ?_;rw[HV.now,hn];rfl
 ·have hlenR:V.cI.length=L.length+1:=by rw[hn];simp
  have e1:decide ((0:Int)<(V.cI.length:Int))=true:=Uk Om;have e2:IntKind.i64.wrap ((V.cI.length:Int)-1)=(L.length:Int):=by rw[aH Om Om];omega
  have Tb:L.length<V.cI.length:=Om
  have ix:=o.ig.fx (kk:=.i64) Tb;have ld:∀{k':af},Ext h k'->_:=λ{k'} e=>o.ig.mY Tb e
  have hR:V.cI[L.length]=R:=by simp only[hn];simp
  rw[hR]at ld;have st:=@aG.st h R (o.ag R (by rw[hn];simp));refine Rs (A8 t0 e1 e2 @lb ix @ld @st @bM) ?_;rw[HV.now,hn];simp
def r116{V b x d}(o:xX h b V)(w:kW V.bE)(hl:V.cS.length<=1000)(ox:aZ h x)(wx:uT x.ev d)(gl:Gl h):
  ak P 116 [.ptr b 0,.agg x.row] h (λv _=>v=.i (mH V.bE x.ev)):=by
 have hcl:V.ff.length<=V.cS.length:=by have:=w.le;simpa [HV.bE]using this
 have Po:V.cI.length=V.ff.length:=by have:=w.ln;simpa [HV.bE]using this
 refine .eQ 106 T.mix T.c116 ?_;intro ts hlen t0 t1;unfold fn116;have hb:=o.hb;have lb:=@jg _ _ _ hb;have hex:=@aZ.box _ _ ox;have ew:IntKind.i64.wrap ((V.cS.length:Int)+1)=(V.cS.length:Int)+1:=aH Om Om;by_cases h1:x.ev.num=(V.cS.length:Int)+1
 case neg=>
  have q1:decide (x.ev.num≠(V.cS.length:Int)+1)=true:=Uk h1;refine Rs (A8 t0 t1 @lb @hex @gF o.ie.aS @ew q1) ?_;rw[mH,Ut (by simpa [HV.bE]using h1)]
 have q1:decide (x.ev.num≠(V.cS.length:Int)+1)=false:=Uh (λz=>z h1);have P1:p9 x.ev=d:=by rw[p9,wx.kd];rfl
 rw[mH,Ur (by simpa [HV.bE]using h1),P1];by_cases h2:d=.fW
 ·have q2:decide (x.ev.kind=[117,110,100,111])=true:=Uk (by rw[fj wx.kd,h2];rfl);rw[Ut h2];refine Rs (y9 t0 t1 @lb @hex @gF @fH o.ie.aS o.ic.aS @ew q1 q2) ?_;rcases List.eq_nil_or_concat V.ff with hn|⟨L,c,hn⟩
  ·have OE:V.ff.length=0:=by rw[hn];rfl
   have e1:decide ((V.ff.length:Int)=0)=true:=Uk Om;refine Rs (A2 t0 e1) ?_;simp only[HV.bE,hn];rfl
  ·have hlenR:V.ff.length=L.length+1:=by rw[hn];simp
   have e1:decide ((V.ff.length:Int)=0)=false:=Uh Om;have e2:IntKind.i64.wrap ((V.ff.length:Int)-1)=(L.length:Int):=by rw[aH Om Om];omega
   have Tb:L.length<V.ff.length:=Om
   have ix:=o.ic.fx (kk:=.i64) Tb;have hR:V.ff[L.length]=c:=by simp only[hn];simp
   have lf:∀{k':af},Ext h k'->aq none (rk V.sc 5 L.length 1) (λb=>k'[b]?)=some (.str c.ev.kind,.ar):=λ{k'} e=>by
    refine o.ic.uR Tb ?_ e;rw[hR];rfl
   refine Rs (A6 t0 e1 e2 @lb ix @lf) ?_;refine WF.ce T.c85 (r85 T _ _) λg1=>?_
   refine Rs t0 ?_;have e3:decide (c.ev.kind=[114,101,108,101,97,115,101])=decide (p9 c.ev=.rel):=Wb.2 (Gi (d:=.rel) De);have e4:V.bE.ff.getLast? =some c.ev:=by simp[HV.bE,hn]
   rw[e3,e4];by_cases h5:p9 c.ev=.rel<;>simp[bB,h5]
 have q2:decide (x.ev.kind=[117,110,100,111])=false:=Uh λz=>h2 (by
  have:=wx.kd;rw[z]at this;exact(Vc ((kv .fW).symm.trans this)).symm)
 rw[Ur h2,<-V.iI];have wn:ka V.now.aD:=by rw[V.iI];exact w.now
 have on:=o.now;have ltk:0<a8 d:=by cases d<;>first|exact absurd rfl h2|decide
 have Pc:0<x.ev.ba.length:=by rw[wx.vl];exact ltk
 have oB:bh 1 x.sv (.i 0)=some (eO x.sv 1 0,.ar):=ox.v.oB Pc;have ev0:cC x.ev 0=x.ev.ba[0]:=by rw[cC,UQ,Uj Pc];rfl
 have ld0:∀{k':af},Ext h k'->aq none (eO x.sv 1 0) (λb=>k'[b]?)=some (.i (cC x.ev 0),.ar):=λ{k'} e=>by
  rw[ev0];exact ox.v.kK Pc rfl e
 refine Rs (y9 t0 t1 @lb @hex @gF @fH o.ie.aS o.ic.aS @ew q1 q2) ?_;refine WF.ce T.c79 (r79 T (o.ext Xx) Om) λg1=>?_
 have st:=@aG.st h V.now on;rw[r0];by_cases h3:cC x.ev 0<V.now.aD.tick
 ·have q3:decide (cC x.ev 0<V.now.tick)=true:=Uk h3;refine Rs (A8 t0 t1 @st @wH @bY @oB @ld0 q3) ?_;rw[Ut h3]
 have q3:decide (cC x.ev 0<V.now.tick)=false:=Uh h3;rw[Ur h3];refine Rs (A8 t0 t1 @st @wH @bY @oB @ld0 q3) ?_;refine WF.res T.c90 (r90 T) ?_;rintro _ g2 ⟨vf,rfl,hk⟩;obtain⟨H,hH⟩:∃H,H=h++[ai.b x.row]++g1++[ai.b V.now.row]:=⟨_,rfl⟩;obtain⟨eb,heb⟩:∃eb,eb=h.length:=⟨_,rfl⟩;obtain⟨rb,R1⟩:∃rb,rb=(h++[ai.b x.row]++g1).length:=⟨_,rfl⟩;have mr:(H++g2)[rb]? =some (.b V.now.row):=by rw[hH,R1];exact(Ext.app _ (Ext.refl _)).some bO
 have me:(H++g2)[eb]? =some (.b x.row):=by rw[hH,heb];exact(show Ext (h++[ai.b x.row]) _ from Xx).some bO
 rw[<-hH]at hk ⊢;rw[<-heb,<-R1];have lk:∀{z:AV},gk .s z false (.map H.length) (.str x.ev.kind) (λb=>(H++g2)[b]?)=jY z false ((eC x.ev.kind).map vf):=hk.look;rw[wx.kd]at lk;have OU:∀{z:AV},_=some (vf d,gL.ar):=@lk;obtain⟨rs,a,hv,hr,ha,hab⟩:=(hk.k d).ex;rw[hv]at OU;have c1:=kB d;have c2:=j6 d;have c3:=hr.one;have le:=@jg _ _ _ me;have lr:=@jg _ _ _ mr;refine Rs (Hl t0 t1 @le @fH @bA @OU @c1 @c2 @c3 @ha hr.aS @gE) ?_;obtain⟨L,hL⟩:∃L,L=aC d:=⟨_,rfl⟩;have Q9:x.ev.names.length=L.length:=by rw[hL];exact wx.nl
 have Tb:L.length<=3:=by rw[hL];cases d<;>decide
 have hL6:∀r∈L,r.1<6:=by rw[hL];cases d<;>decide
 rw[<-hL]at hr ⊢;obtain⟨kb,hkb⟩:∃kb,kb=(H++g2).length:=⟨_,rfl⟩;have hex:Ext h (H++g2):=by rw[hH];exact Xx
 have QU:Ext (H++g2) (H++g2++[ai.b [rs,.i (a8 d:Int),jh d,nj d,a]]):=Xx;have mk:(H++g2++[ai.b [rs,.i (a8 d:Int),jh d,nj d,a]])[kb]? =some (.b [rs,.i (a8 d:Int),jh d,nj d,a]):=by rw[hkb];exact bO
 obtain⟨H2,RT⟩:∃H2,H2=H++g2++[ai.b [rs,.i (a8 d:Int),jh d,nj d,a]]:=⟨_,rfl⟩;rw[<-RT]at mk QU;have hx3:Ext h H2:=hex.trans QU;have lk:=@jg _ _ _ mk;rw[<-RT,<-hkb];have Rc:∀(i:Nat) (hi:i<L.length),bh 1 x.sn (.i (i:Int))=some (eO x.sn 1 i,.ar):=λi hi=>ox.n.fx Om
 have hld:∀(i:Nat) (hi:i<L.length) (k':af),Ext h k'->aq none (eO x.sn 1 i) (λb=>k'[b]?)=some (.str (bt x.ev i),.ar):=λi hi k' e=>by
  have hi':i<x.ev.names.length:=Om
  have:bt x.ev i=x.ev.names[i]:=by rw[bt,UQ,Uj hi'];rfl
  rw[this];exact ox.n.kK hi' rfl e
 refine WL.inv T.mix (λm ts h'=>∃k:Nat,k<=L.length/\m=L.length-k/\Ext H2 h'/\rC V.now.aD x.ev L 0=rC V.now.aD x.ev (L.drop k) k/\ts.length=106/\slot ts 3=.ptr eb 0/\slot ts 6=.ptr rb 0/\slot ts 7=.ptr kb 0/\slot ts 56=rs/\slot ts 57=.i L.length/\slot ts 58=.i k) L.length
  ⟨0,Om,rfl,.refl _,rfl,Sn,Sw,Sw,Sw,Sw,Sw,iR⟩ ?_
 clear t0 t1 hlen lb hb hex le lr;clear ts;rintro _ ts h' ⟨k,hk,rfl,Qb,hu,hlen,t3,t6,t7,t56,t57,t58⟩;have le:∀{k' n a},Ext h' k'->aq n (.ptr eb a) (λz=>k'[z]?)=dI n a (.b x.row):=λ{_ _ _} e=>az (((QU.trans Qb).trans e).some me)
 have lr:∀{k' n a},Ext h' k'->aq n (.ptr rb a) (λz=>k'[z]?)=dI n a (.b V.now.row):=λ{_ _ _} e=>az (((QU.trans Qb).trans e).some mr)
 by_cases hlt:k<L.length
 ·have e3:=gh hlt;have e5:=wrapN (n:=k) Om;have ix:=hr.fx (kk:=.i64) hlt;have ld:∀{k'},Ext h' k'->aq (some 2) (eO rs 2 k) (λb=>k'[b]?)=some (.agg (fy L[k]),.ar):=λ{k'} e=>hr.mY hlt ((QU.trans Qb).trans e)
  have iy:=Rc k hlt;have ly:∀{k'},Ext h' k'->aq none (eO x.sn 1 k) (λb=>k'[b]?)=some (.str (bt x.ev k),.ar):=λ{k'} e=>hld k hlt k' ((hx3.trans Qb).trans e)
  have hd:L.drop k=L[k]::L.drop (k+1):=Si
  obtain⟨r,TJ⟩:∃r,r=L[k]:=⟨_,rfl⟩;have hr6:r.1<6:=by rw[TJ];exact hL6 _ (UB _)
  rw[hd,<-TJ,rC]at hu;rw[<-TJ,fy]at ld;cases PW:r.2 with
  |false=>
   rw[PW]at ld hu;refine Rs (uO t3 t6 t7 t56 t57 t58 e3 ix @ld e5) ?_;exact HF
  |true=>
   rw[PW]at ld hu;refine Rs (Kx t3 t6 t7 t56 t57 t58 e3 ix @ld @iy @ly @le @lr @bM @bD) ?_;refine WF.ce T.c86 (r86 T ((on.ext (hx3.trans Qb)).ext Xx) wn.len hr6 _) λg3=>?_
   cases hh:fk V.now.aD r.1 (bt x.ev k)with
   |true=>
    rw[hh]at hu;refine Rs (A8 t3 t6 t7 t56 t57 t58 @UA e5) ?_;exact HF
   |false=>
    rw[hh]at hu;have hu1:rC V.now.aD x.ev L 0=true:=by rw[hu];rfl
    refine Rs (A7 t3 t6 t7 t56 t57 t58 @UF) ?_;refine⟨(hx3.trans Qb).trans Xx,?_⟩;have e6:pv d V.now.aD x.ev=10:=by rw[pv,<-hL,Ut hu1]
    rw[e6,Ut De]
 ·have e3:=gG hlt;have e4:k=L.length:=Om
  have Q8:rC V.now.aD x.ev L 0=false:=by rw[hu,e4,Vr];rfl
  have lk2:∀{k' n a'},Ext h' k'->aq n (.ptr kb a') (λz=>k'[z]?)=dI n a' (.b [rs,.i (a8 d:Int),jh d,nj d,a]):=λ{_ _ _} e=>lk (Qb.trans e)
  refine Rs (A9 t3 t6 t7 t56 t57 t58 e3 @lk2 hr.aS) ?_;have hrH:aB h' rs 2 (L.map fy):=hr.ext (QU.trans Qb);refine WL.inv T.mix (λm ts SD=>∃k:Nat,k<=L.length/\m=L.length-k/\Ext h' SD/\rF V.now.aD x.ev L 0=rF V.now.aD x.ev (L.drop k) k/\ts.length=106/\slot ts 3=.ptr eb 0/\slot ts 6=.ptr rb 0/\slot ts 7=.ptr kb 0/\slot ts 79=rs/\slot ts 80=.i L.length/\slot ts 81=.i k) L.length
   ⟨0,Om,rfl,.refl _,rfl,Sn,(Sq t3),(Sq t6),(Sq t7),Sw,Sw,iR⟩ ?_
  clear t3 t6 t7 t56 t57 t58 hlen le lr lk2 e3 e4 hu lk;clear hlt hk ts k;rintro _ ts SD ⟨k,hk,rfl,Sc,hu,hlen,t3,t6,t7,t79,t80,t81⟩;have le:∀{k' n a},Ext SD k'->aq n (.ptr eb a) (λz=>k'[z]?)=dI n a (.b x.row):=λ{_ _ _} e=>az ((((QU.trans Qb).trans Sc).trans e).some me)
  have lr:∀{k' n a},Ext SD k'->aq n (.ptr rb a) (λz=>k'[z]?)=dI n a (.b V.now.row):=λ{_ _ _} e=>az ((((QU.trans Qb).trans Sc).trans e).some mr)
  have lk2:∀{k' n a'},Ext SD k'->aq n (.ptr kb a') (λz=>k'[z]?)=dI n a' (.b [rs,.i (a8 d:Int),jh d,nj d,a]):=λ{_ _ _} e=>az (((Qb.trans Sc).trans e).some mk)
  by_cases hlt:k<L.length
  ·have e3:=gh hlt;have e5:=wrapN (n:=k) Om;have ix:=hr.fx (kk:=.i64) hlt;have ld:∀{k'},Ext SD k'->aq (some 2) (eO rs 2 k) (λb=>k'[b]?)=some (.agg (fy L[k]),.ar):=λ{k'} e=>hrH.mY hlt (Sc.trans e)
   have iy:=Rc k hlt;have ly:∀{k'},Ext SD k'->aq none (eO x.sn 1 k) (λb=>k'[b]?)=some (.str (bt x.ev k),.ar):=λ{k'} e=>hld k hlt k' (((hx3.trans Qb).trans Sc).trans e)
   have hd:L.drop k=L[k]::L.drop (k+1):=Si
   obtain⟨r,TJ⟩:∃r,r=L[k]:=⟨_,rfl⟩;have hr6:r.1<6:=by rw[TJ];exact hL6 _ (UB _)
   rw[hd,<-TJ,rF]at hu;rw[<-TJ,fy]at ld;cases PW:r.2 with
   |true=>
    rw[PW]at ld hu;refine Rs (y9 t3 t6 t7 t79 t80 t81 e3 ix @ld e5 @UA) ?_;exact z154
   |false=>
    rw[PW]at ld hu;refine Rs (Kw t3 t6 t7 t79 t80 t81 e3 ix @ld @iy @ly @le @lr @bM @bD @UF) ?_;refine WF.ce T.c86 (r86 T ((on.ext ((hx3.trans Qb).trans Sc)).ext Xx) wn.len hr6 _) λg3=>?_
    cases hh:fk V.now.aD r.1 (bt x.ev k)with
    |false=>
     rw[hh]at hu;refine Rs (A7 t3 t6 t7 t79 t80 t81 e5) ?_;exact z154
    |true=>
     rw[hh]at hu;have hu1:rF V.now.aD x.ev L 0=true:=by rw[hu];rfl
     refine Rs (A6 t3 t6 t7 t79 t80 t81) ?_;refine⟨((hx3.trans Qb).trans Sc).trans Xx,?_⟩;have e6:pv d V.now.aD x.ev=9:=by rw[pv,<-hL,Ur (by rw[Q8];decide),Ut hu1]
     rw[e6,Ut De]
  ·have e3:=gG hlt;have e4:k=L.length:=Om
   have TA:rF V.now.aD x.ev L 0=false:=by rw[hu,e4,Vr];rfl
   have e6:pv d V.now.aD x.ev=0:=by rw[pv,<-hL,Ur (by rw[Q8];decide),Ur (by rw[TA];decide)]
   rw[e6,Ur De];have hxx:=(hx3.trans Qb).trans Sc;refine Rs (Hl t3 t6 t7 t79 t80 t81 e3 @lk2 @lr @le @bM @bW) ?_;refine WF.val (MB T h2 ⟨on.ext hxx,wn,ox.ext hxx,wx,Ar e6⟩ (gl.ext hxx)) ?_;rintro _ g4 rfl;refine Rs t3 ?_;exact⟨hxx.trans Xx,trivial⟩
end
def Hx(B h0:af)(b:Nat)(V:HV)(e:fp)(v:AV)(k:af):Prop:=∃g' V',k=B++g'/\v=.i (gK V.bE e)/\bZ B.length (B++g') b V'/\V'.bE=(if gK V.bE e=0 then p3 V.bE e else V.bE)/\(∀i,i<h0.length->some i∉V.ex b->(B++g')[i]? =h0[i]?)/\∀j,some j∈V'.ex b->some j∈V.ex b\/h0.length<=j
def Hx.no{B g g1 b V e}(o:bZ B.length (B++g) b V)(h:gK V.bE e≠0){n}(hn:n=gK V.bE e):Hx B (B++g) b V e (.i n) (B++g++g1):=
 ⟨g++g1,V,by rw[Uf],by rw[hn],by rw[<-Uf];exact o.app _,by rw[Ur h],λi hi _=>by rw[<-Uf,Ug hi],λj hj=>.inl hj⟩
def aZ.Df{h x}(o:aZ h x){M}:vY 5 1 (dW [.i 0,.str [],.ah,.ah,.str []] [(0,5,.agg x.row)]) M=some (.slice M 0 1 5,.push (.cells x.row true true)):=vX (c:=x.row) o.row rfl De
def aG.Df{h V}(o:aG h V){M}:vY 7 1 (dW [.i 0,.ah,.ah,.ah,.ah,.ah,.ah] [(0,7,.agg V.row)]) M=some (.slice M 0 1 7,.push (.cells V.row true true)):=vX (c:=V.row) o.row rfl De
theorem aZ.gQ{h x}(o:aZ h x){ex}(h1:∀j,sB x.sn=some j->some j∉ex)(h2:∀j,sB x.sv=some j->some j∉ex):aZ (Go.Abs.gQ ex h) x:=⟨o.n.gQ h1,o.v.gQ h2⟩
theorem aG.gQ{h V}(o:aG h V){ex}(hx:∀j,some j∈V.bl->some j∉ex):aG (Go.Abs.gQ ex h) V:=by
 have m6:∀x∈[sB V.s0,sB V.s1,sB V.s2,sB V.s3,sB V.s4,sB V.s5],x∈V.bl:=λx hx=>by simp only[RV.bl,Um];exact .inl (.inl (.inl hx))
 refine⟨o.i0.gQ λb hb=>hx b (hb▸m6 _ Si),o.i1.gQ λb hb=>hx b (hb▸m6 _ Si),o.i2.gQ λb hb=>hx b (hb▸m6 _ Si),o.i3.gQ λb hb=>hx b (hb▸m6 _ Si),o.i4.gQ λb hb=>hx b (hb▸m6 _ Si),o.i5.gQ λb hb=>hx b (hb▸m6 _ Si),
  λx hx1=>(o.e2 x hx1).gQ λb hb=>hx b ?_,λx hx1=>(o.e3 x hx1).gQ λb hb=>hx b ?_,λx hx1=>(o.e4 x hx1).gQ λb hb=>hx b ?_⟩
 ·simp only[RV.bl,Um,UI];exact .inl (.inl (.inr ⟨x,hx1,hb⟩))
 ·simp only[RV.bl,Um,UI];exact .inl (.inr ⟨x,hx1,hb⟩)
 ·simp only[RV.bl,Um,UI];exact .inr ⟨x,hx1,hb⟩
def pS{a b c d}:kg [a,b,c,d]↔(∀i,a=some i->b≠some i/\c≠some i/\d≠some i)/\(∀i,b=some i->c≠some i/\d≠some i)/\∀i,c=some i->d≠some i:=by
 simp only[kg,Vx,UR,Vh,V3,forall_eq_or_imp,forall_eq,List.Pairwise.nil,and_true,false_implies,implies_true];constructor
 ·rintro⟨⟨h1,h2,h3⟩,⟨h4,h5⟩,h6⟩;exact⟨λi hi=>⟨h1 i hi,h2 i hi,h3 i hi⟩,λi hi=>⟨h4 i hi,h5 i hi⟩,h6⟩
 ·rintro⟨h1,h2,h3⟩;exact⟨⟨λi hi=>(h1 i hi).1,λi hi=>(h1 i hi).2.1,λi hi=>(h1 i hi).2.2⟩,⟨λi hi=>(h2 i hi).1,λi hi=>(h2 i hi).2⟩,h3⟩
def Cc{B h:af}(hl:B.length<=h.length)(hk:∀i,i<B.length->h[i]? =B[i]?):∃g,h=B++g:=by
 refine⟨h.drop B.length,WI λi=>?_⟩;by_cases hi:i<B.length
 ·rw[hk i hi,Ug hi]
 ·exact H5
def s9{B h:af}{b:Nat}{X:ai}(hN:B.length<=b)(hh:∃g,h=B++g):∃g,h.set b X=B++g:=by
 obtain⟨g,rfl⟩:=hh;exact⟨_,U0 _ _ hN⟩
def bG.tk{B g b V}(r:bG B.length (B++g) b V)(t:Int):∃g',(B++g).set b (.b (V.row.set 0 (.i t)))=B++g'/\bG B.length (B++g') b {V with tick:=t}:=by
 obtain⟨h1,h2,h3⟩:=lC (.b (V.row.set 0 (.i t))) r.hN r.m;refine⟨_,h1,?_,r.hN,h2,r.ne⟩;have:=r.o.ar (k:=B++g.set (b-B.length) (.b (V.row.set 0 (.i t)))) λi hi=>h3 i λe=>r.ne (e▸hi)
 exact⟨this.i0,this.i1,this.i2,this.i3,this.i4,this.i5,this.e2,this.e3,this.e4,this.di⟩
section
variable {N b:Nat}{h h':af}{V:HV}
def bZ.lt(o:bZ N h b V):b<h.length:=(Ue.1 o.hb).1
def bZ.AY(o:bZ N h b V){j}(hj:some j∈V.ex b):j<h.length:=by
 simp only[HV.ex,UR,Vh,V3,UG]at hj;rcases hj with hj|hj|hj|hj
 ·rw[hj];exact o.lt
 ·exact(o.oe.bL hj.symm).2
 ·exact(o.oc.bL hj.symm).2
 ·exact(o.og.bL hj.symm).2
def bZ.NR(o:bZ N h b V){s' x'}(hk:∀i,i<h.length->sB V.se≠some i->i≠b->h'[i]? =h[i]?)(hs:Ow N h' s' 5 ((V.cS++[x']).map EV.row))(hb:h'[b]? =some (.b [s',V.sc,V.sr]))
  (hn:∀i,sB s' =some i->h.length<=i) (hx:aZ (gQ (V.ex b) h) x'):bZ N h' b {V with cS:=V.cS++[x'],se:=s'}:=by
 obtain⟨d1,d2,d3⟩:=pS.1 o.di;have hbl:=o.lt;have hsub:mS (gQ (V.ex b) h) (gQ ({V with cS:=V.cS++[x'],se:=s'}.ex b) h'):=by
  refine oA (λi hi hne=>hk i hi (λe=>hne (by simp[HV.ex,e])) (λe=>hne (by simp[HV.ex,e]))) λi hi hm=>?_
  simp only[HV.ex,UR,Vh,V3,UG]at hm ⊢;rcases hm with hm|hm|hm|hm
  ·exact .inl hm
  ·have:=hn i hm.symm;omega
  ·exact .inr (.inr (.inl hm))
  ·exact .inr (.inr (.inr hm))
 refine⟨o.hN,hb,hs,o.oc.ay λi hi=>?_,o.og.ay λi hi=>?_,pS.2 ⟨λi hi=>?_,λi hi=>?_,d3⟩,λx hx1=>?_,λx hx1=>(o.ac x hx1).sub hsub,λx hx1=>(o.ag x hx1).sub hsub,o.lo⟩
 ·exact hk i (o.oc.bL hi).2 (λe=>(d2 i e).1 hi) (λe=>(d1 b rfl).2.1 (by rw[<-e];exact hi))
 ·exact hk i (o.og.bL hi).2 (λe=>(d2 i e).2 hi) (λe=>(d1 b rfl).2.2 (by rw[<-e];exact hi))
 ·cases hi;exact⟨λe=>by have:=hn b e;omega,(d1 b rfl).2⟩
 ·have h1:=hn i hi;exact⟨λe=>by have:=(o.oc.bL e).2;omega,λe=>by have:=(o.og.bL e).2;omega⟩
 ·rcases Um.1 hx1 with hx1|hx1
  ·exact(o.ae x hx1).sub hsub
  ·rw[Uw]at hx1;rw[hx1];exact hx.sub hsub
def bZ.NO(o:bZ N h b V){OP O5 n m}(hk:∀i,i<h.length->i≠b->h'[i]? =h[i]?)(hc:Ow N h' OP 5 ((V.ff.take n).map EV.row))(hr:Ow N h' O5 7 ((V.cI.take m).map RV.row))(hb:h'[b]? =some (.b [V.se,OP,O5]))
  (nc:sB OP=sB V.sc) (nr:sB O5=sB V.sr):bZ N h' b {V with ff:=V.ff.take n,cI:=V.cI.take m,sc:=OP,sr:=O5}:=by
 obtain⟨d1,d2,d3⟩:=pS.1 o.di;have he:{V with ff:=V.ff.take n,cI:=V.cI.take m,sc:=OP,sr:=O5}.ex b=V.ex b:=by simp only[HV.ex,nc,nr]
 have hsub:mS (gQ (V.ex b) h) (gQ ({V with ff:=V.ff.take n,cI:=V.cI.take m,sc:=OP,sr:=O5}.ex b) h'):=by
  rw[he];exact oA (λi hi hne=>hk i hi (λe=>hne (by simp[HV.ex,e]))) λi hi hm=>hm
 refine⟨o.hN,hb,o.oe.ay λi hi=>hk i (o.oe.bL hi).2 (λe=>(d1 b rfl).1 (by rw[<-e];exact hi)),hc,hr,by rw[he];exact o.di,λx hx1=>(o.ae x hx1).sub hsub,λx hx1=>(o.ac x (Vi hx1)).sub hsub,λx hx1=>(o.ag x (Vi hx1)).sub hsub,λx hx1=>o.lo x (Vi hx1)⟩
def bZ.NS(o:bZ N h b V){OP O5 x' R'}(hk:∀i,i<h.length->sB V.sc≠some i->sB V.sr≠some i->i≠b->h'[i]? =h[i]?)(hc:Ow N h' OP 5 ((V.ff++[x']).map EV.row))(hr:Ow N h' O5 7 ((V.cI++[R']).map RV.row))(hb:h'[b]? =some (.b [V.se,OP,O5]))
  (nc:∀i,sB OP=some i->h.length<=i) (nr:∀i,sB O5=some i->h.length<=i) (ncr:∀i,sB OP=some i->sB O5≠some i) (hx:aZ (gQ (V.ex b) h) x') (hR:aG (gQ (V.ex b) h) R') (hlo:∀j,some j∈R'.bl->N<=j):bZ N h' b {V with ff:=V.ff++[x'],cI:=V.cI++[R'],sc:=OP,sr:=O5}:=by
 obtain⟨d1,d2,d3⟩:=pS.1 o.di;have hbl:=o.lt;have hsub:mS (gQ (V.ex b) h) (gQ ({V with ff:=V.ff++[x'],cI:=V.cI++[R'],sc:=OP,sr:=O5}.ex b) h'):=by
  refine oA (λi hi hne=>hk i hi (λe=>hne (by simp[HV.ex,e])) (λe=>hne (by simp[HV.ex,e])) (λe=>hne (by simp[HV.ex,e]))) λi hi hm=>?_
  simp only[HV.ex,UR,Vh,V3,UG]at hm ⊢;rcases hm with hm|hm|hm|hm
  ·exact .inl hm
  ·exact .inr (.inl hm)
  ·have:=nc i hm.symm;omega
  ·have:=nr i hm.symm;omega
 refine⟨o.hN,hb,o.oe.ay λi hi=>?_,hc,hr,pS.2 ⟨λi hi=>?_,λi hi=>?_,ncr⟩,λx hx1=>(o.ae x hx1).sub hsub,λx hx1=>?_,λx hx1=>?_,λx hx1=>?_⟩
 ·exact hk i (o.oe.bL hi).2 (λe=>(d2 i hi).1 e) (λe=>(d2 i hi).2 e) (λe=>(d1 b rfl).1 (by rw[<-e];exact hi))
 ·cases hi;exact⟨(d1 b rfl).1,λe=>by have:=nc b e;omega,λe=>by have:=nr b e;omega⟩
 ·have h1:=(o.oe.bL hi).2;exact⟨λe=>by have:=nc i e;omega,λe=>by have:=nr i e;omega⟩
 ·rcases Um.1 hx1 with hx1|hx1
  ·exact(o.ac x hx1).sub hsub
  ·rw[Uw]at hx1;rw[hx1];exact hx.sub hsub
 ·rcases Um.1 hx1 with hx1|hx1
  ·exact(o.ag x hx1).sub hsub
  ·rw[Uw]at hx1;rw[hx1];exact hR.sub hsub
 ·rcases Um.1 hx1 with hx1|hx1
  ·exact o.lo x hx1
  ·rw[Uw]at hx1;rw[hx1];exact hlo
end
section
variable {P:Program}(T:eF P)
include T
def JB{B g:af}{V:HV}{b:Nat}{x:EV}(o:bZ B.length (B++g) b V)(w:kW V.bE)(hl:V.cS.length<1000)(ox:aZ (B++g) x)(hxl:x.ev.names.length<=2^40/\x.ev.ba.length<=2^40)(gl:Gl B):
  c9 P 112 [.ptr b 0,.agg x.row] (B++g) (λv k=>Hx B (B++g) b V x.ev v k):=by
 have hcl:V.ff.length<=V.cS.length:=by have:=w.le;simpa [HV.bE]using this
 have Po:V.cI.length=V.ff.length:=by have:=w.ln;simpa [HV.bE]using this
 refine .eQ 94 T.mix T.c112 ?_;intro ts hlen t0 t1;unfold fn112;have Oj:=@aZ.box _ _ ox;have gl':Gl (B++g):=gl.ext ⟨g,rfl⟩;refine Rs (A4 t0 t1 @Oj @bW) ?_;refine WF.ce T.c67 (r67 T (ox.ext Xx) hxl) λg1=>?_
 by_cases h1:dK x.ev=0
 case neg=>
  have q1:decide (dK x.ev≠0)=true:=Uk h1;refine Rs (A3 t0 t1 q1) ?_;have e:gK V.bE x.ev=dK x.ev:=by rw[gK,Ut h1]
  rw[Uf (B++g)];exact Hx.no o (by rw[e];exact h1) e.symm
 have q1:decide (dK x.ev≠0)=false:=Uh (λz=>z h1);obtain⟨d,wx⟩:=pT h1;have eb:gK V.bE x.ev=mH V.bE x.ev:=by rw[gK,Ur (λz=>z h1)]
 refine Rs (A4 t0 t1 q1 @bW) ?_;refine WF.ce T.c116 (r116 T (d:=d) (o.rd.ext Xx) w Om (ox.ext Xx) wx (gl'.ext Xx)) λg2=>?_
 by_cases h2:mH V.bE x.ev=0
 case neg=>
  have q2:decide (mH V.bE x.ev≠0)=true:=Uk h2;refine Rs (A3 t0 t1 q2) ?_;rw[Uf (B++g),Uf (B++g)];exact Hx.no o (by rw[eb];exact h2) eb.symm
 have q2:decide (mH V.bE x.ev≠0)=false:=Uh (λz=>z h2);rw[<-eb]at h2;refine Rs (A4 t0 t1 q2 @bW) ?_;refine WF.res T.c91 (r91 T x (ox.ext Xx) hxl) ?_;rintro _ g3 ⟨x',Oo,rfl,fn,fv⟩;have Rl:aZ _ x':=⟨by rw[Oo];exact fn.aM,by rw[Oo];exact fv.aM⟩;have st:∀{b':Nat},jq 5 0 (.agg x'.row) b' (.b x.row)=some (au,.set b' (.b x'.row)):=λ{_}=>Rl.st
 refine Rs (A3 t0 t1 @st) ?_;obtain⟨H,hH⟩:∃H,H=B++g++[ai.b x'.row]++g1++g2++g3:=⟨_,rfl⟩;have hHg:∃gH,H=B++gH:=⟨_,by rw[hH];simp only[Uf];rfl⟩;obtain⟨gH,hHB⟩:=hHg;have hex:Ext (B++g) H:=by rw[hH];exact Xx
 have oH:bZ B.length H b V:=by obtain⟨z,hz⟩:=hex;rw[hz];exact o.app z
 have ar:∀j,(B++g).length+1<=j->H[j]? =(B++g++[ai.b x.row]++g1++g2++g3)[j]? :=λj hj=>by
  rw[hH];simp only[Uf];have e:∀C:ai,(B++(g++([C]++(g1++(g2++g3)))))[j]? =(g1++(g2++g3))[j-B.length-g.length-1]? :=λC=>by
   simp only[Ud]at hj;rw[Un Om,Un Om,Un (by simp only[Us];omega)];rfl
  rw[e,e]
 obtain⟨N,hN⟩:∃N,N=(B++g).length:=⟨_,rfl⟩;have fnl:=λj (hj:sB x'.sn=some j)=>fn.bL hj
 have fvl:=λj (hj:sB x'.sv=some j)=>fv.bL hj
 have RS:H.length=(B++g++[ai.b x.row]++g1++g2++g3).length:=by rw[hH];simp only[Ud,Ui,Ul]
 have lnn:∀j,sB x'.sn=some j\/sB x'.sv=some j->(B++g).length+1<=j/\j<H.length:=λj hj=>by
  rw[RS];rcases hj with hj|hj
  ·have:=fnl j hj;exact z37
  ·have:=fvl j hj;exact z37
 have oxH:aZ H x':=⟨by rw[Oo];exact(fn.ay λj hj=>ar j (lnn j (.inl hj)).1).aM,by rw[Oo];exact(fv.ay λj hj=>ar j (lnn j (.inr hj)).1).aM⟩;have eH:H[N]? =some (.b x'.row):=by rw[hH,hN];exact(show Ext (B++g++[ai.b x'.row]) _ from Xx).some bO
 rw[<-hH,<-hN];have hb:=oH.hb;have lb:=@jg _ _ _ hb;have le:=@jg _ _ _ eH;have bs:=@aZ.Df _ _ oxH;have dH:=pS.1 oH.di;refine Rs (A6 t0 t1 @lb @le @bW @bs) ?_;refine WR.GZ (N:=B.length) (cs:=V.cS.map EV.row) (ys:=[x'.row]) (oH.app _).oe (Fr.push (N:=0) (UK _) [x'.row] (by intro y hy;rw[Uw]at hy;rw[hy];rfl)).aM (by rw[hHB];simp only[Ud];omega) De Si (by simp only[Uv,Ui,Ul];omega) ?_;intro h1 SW PS hk1;have hrow:V.cS.map EV.row++[x'.row]=(V.cS++[x']).map EV.row:=by rw[Up];rfl
 rw[hrow]at PS;rw[hrow];obtain⟨O2,TH⟩:∃O2,O2=AV.slice (H++[ai.cells x'.row true true]).length 0 ((V.cS++[x']).map EV.row).length 5:=⟨_,rfl⟩;rw[<-TH]at PS ⊢;have Sh:∀i,sB O2=some i->H.length+1=i:=λi hi=>by rw[TH]at hi;cases hi;simp
 have ose:O2.one=true:=by rw[TH];rfl
 have hk1':∀i,i<H.length->sB V.se≠some i->h1[i]? =H[i]? :=λi hi hne=>by rw[hk1 i (by simp;omega) hne,Ug hi]
 have hbl:=oH.lt;have OH:sB V.se≠some b:=(dH.1 b rfl).1;have O7:h1[b]? =some (.b [V.se,V.sc,V.sr]):=(hk1' b hbl OH).trans hb;have sb1:bC 1 (.ptr b 0) O2 (λz=>h1[z]?)=some (au,.set b (.b [O2,V.sc,V.sr])):=by
  rw[bp O7];exact fC ose Si
 refine Rs (A2 t0 @sb1) ?_;have hb1l:b<h1.length:=(Ue.1 O7).1;obtain⟨H1,hH1⟩:∃H1,H1=h1.set b (.b [O2,V.sc,V.sr]):=⟨_,rfl⟩;rw[<-hH1];have k1:∀i,i<H.length->sB V.se≠some i->i≠b->H1[i]? =H[i]? :=λi hi n1 n2=>by rw[hH1,U1 (Wy n2)];exact hk1' i hi n1
 have m1:H1[b]? =some (.b [O2,V.sc,V.sr]):=by rw[hH1,UY hb1l]
 have SJ:∀i,i<(B++g).length->some i∉V.ex b->H1[i]? =(B++g)[i]? :=λi hi hn=>by
  rw[k1 i (by rw[RS];simp only[Ud]at hi ⊢;omega) (λe=>hn (by rw[<-e];simp[HV.ex])) (λe=>hn (by rw[e];simp[HV.ex]))];obtain⟨z,hz⟩:=hex;rw[hz,Ug hi]
 have hB1:∃g',H1=B++g':=by
  have:=oH.hN;refine⟨H1.drop B.length,?_⟩;refine WI λi=>?_
  by_cases hi:i<B.length
  ·have e2:B.length<=H.length:=by rw[hHB];simp
   have n1:sB V.se≠some i:=λe=>by have:=(oH.oe.bL e).1;omega
   rw[k1 i Om n1 Om,hHB,Ug hi,Ug hi]
  ·exact H5
 have S4:∀j,some j∈V.ex b->j<(B++g).length:=λj hj=>o.AY hj
 have oxm:aZ (gQ (V.ex b) H) x':=oxH.gQ (λj hj hm=>by have:=(lnn j (.inl hj)).1;have:=S4 j hm;omega) (λj hj hm=>by have:=(lnn j (.inr hj)).1;have:=S4 j hm;omega);have Q5:bZ B.length H1 b {V with cS:=V.cS++[x'],se:=O2}:=oH.NR k1 (PS.ay λi hi=>by rw[hH1,U1 (by have:=Sh i hi;omega)]) m1 (λi hi=>by have:=Sh i hi;omega) oxm;clear PS hk1 hk1' sb1 hb1l;have owc:Ow B.length H1 V.sc 5 (V.ff.map EV.row):=Q5.oc;have owr:Ow B.length H1 V.sr 7 (V.cI.map RV.row):=Q5.og;obtain⟨V1,QH⟩:∃V1:HV,V1={V with cS:=V.cS++[x'],se:=O2}:=⟨_,rfl⟩;rw[<-QH]at Q5;have eN:H1[N]? =some (.b x'.row):=(k1 N (by rw[RS,hN];simp only[Ud,Ui];omega) (λe=>by have:=(o.oe.bL e).2;omega) (by have:=o.lt;omega)).trans eH
 have oxm1:aZ (gQ (V1.ex b) H1) x':=Q5.ae x' (by rw[QH];simp);have ox1:aZ H1 x':=oxm1.sub (mS.gQ _ _);obtain⟨gH1,hB1⟩:=hB1;have lb1:=@jg _ _ _ m1;have le1:=@jg _ _ _ eN;have hkx:x'.ev.kind=x.ev.kind:=by rw[Oo]
 have P1:p9 x.ev=d:=by rw[p9,wx.kd];rfl
 by_cases h5:d=.fW
 ·have q5:decide (x.ev.kind=[117,110,100,111])=true:=Uk (by rw[fj wx.kd,h5];rfl);refine Rs (A7 t0 @le1 @fH @hkx q5 @lb1 owc.aM.aS) ?_;have hne:V.ff≠[]:=λe=>by
   rw[eb,mH,P1,Ut h5,show V.bE.ff.getLast? =none by simp[HV.bE,e]]at h2;split at h2<;>exact absurd h2 De
  have hcp:0<V.ff.length:=VU.2 hne;have e2:IntKind.i64.wrap ((V.ff.length:Int)-1)=((V.ff.length-1:Nat):Int):=by rw[aH Om Om];omega
  obtain⟨OP,c1,c2,c3⟩:=owc.cut (n:=V.ff.length-1) Si (k:=.i64);obtain⟨O5,r1,r2,r3⟩:=owr.cut (n:=V.ff.length-1) (by simp;omega) (k:=.i64);refine Rs (A5 t0 e2 @lb1 @c1 @r1) ?_;have osc:OP.one=true:=c3.aM.one;have osr:O5.one=true:=r3.aM.one;have sA:bC 1 (.ptr b 1) OP (λz=>H1[z]?)=some (au,.set b (.b [O2,OP,V.sr])):=by
   rw[bp m1];exact fC osc Si
  have hbl1:b<H1.length:=Q5.lt;have m2:(H1.set b (.b [O2,OP,V.sr]))[b]? =some (.b [O2,OP,V.sr]):=UY hbl1;have sB2:bC 1 (.ptr b 2) O5 (λz=>(H1.set b (.b [O2,OP,V.sr]))[z]?)=some (au,.set b (.b [O2,OP,O5])):=by
   rw[bp m2];exact fC osr Si
  refine Rs (A3 t0 @sA @sB2) ?_;rw[List.set_set];obtain⟨gz,hz⟩:=s9 (X:=.b [O2,OP,O5]) Q5.hN ⟨_,hB1⟩;have kz:∀i,i≠b->(H1.set b (.b [O2,OP,O5]))[i]? =H1[i]? :=λi hi=>U1 (Wy hi)
  have d1:=pS.1 Q5.di;have d2:=pS.1 o.di;have hfr:∀i,i<(B++g).length->some i∉V.ex b->(B++gz)[i]? =(B++g)[i]? :=λi hi hn=>by
   rw[<-hz,kz i (λe=>hn (by rw[e];simp[HV.ex])),SJ i hi hn]
  refine⟨gz,{V1 with ff:=V1.ff.take (V.ff.length-1),cI:=V1.cI.take (V.ff.length-1),sc:=OP,sr:=O5},hz,by rw[h2],?_,?_,hfr,λj hj=>?_⟩
  ·rw[<-hz];subst QH;rw[<-List.map_take]at c3 r3;refine Q5.NO (λi _ hi=>kz i hi) (c3.ay λi hi=>kz i λe=>?_) (r3.ay λi hi=>kz i λe=>?_) (UY hbl1) c2 r2
   ·rw[c2]at hi;exact(d2.1 b rfl).2.1 (by rw[hi,e])
   ·rw[r2]at hi;exact(d2.1 b rfl).2.2 (by rw[hi,e])
  ·rw[Ut h2,p3,P1,Ut h5,QH];simp only[HV.bE,Up,List.map_take,Vl,Ww,Oo,List.dropLast_eq_take,Uv,Po]
  ·subst QH;simp only[HV.ex,UR,Vh,V3,UG]at hj ⊢;rcases hj with hj|hj|hj|hj
   ·exact .inl (.inl hj)
   ·have:=Sh j hj.symm;exact .inr (by rw[RS]at this;simp only[Ud]at this ⊢;omega)
   ·rw[c2]at hj;exact .inl (.inr (.inr (.inl hj)))
   ·rw[r2]at hj;exact .inl (.inr (.inr (.inr hj)))
 have q5:decide (x.ev.kind=[117,110,100,111])=false:=Uh λz=>h5 (by
  have:=wx.kd;rw[z]at this;exact(Vc ((kv .fW).symm.trans this)).symm)
 refine Rs (A5 t0 @le1 @fH @hkx q5) ?_;have hnow:V1.now=V.now:=by rw[QH];rfl
 have rd1:=Q5.rd;have wn:ka V1.now.aD:=by rw[hnow,V.iI];exact w.now
 refine WF.ce T.c79 (r79 T rd1 (by rw[QH];show V.cI.length<=1000;omega)) λg4=>?_
 refine Rs t0 ?_;refine WF.res T.c96 (r96 T (rd1.now.ext Xx) wn) ?_;rintro _ g5 ⟨VN,hVN,rfl,own⟩;have stN:∀{b':Nat}{a0 a1 a2 a3 a4 a5 a6:AV},jq 7 0 (.agg VN.row) b' (.b [a0,a1,a2,a3,a4,a5,a6])=some (au,.set b' (.b VN.row)):=λ{_ _ _ _ _ _ _ _}=>own.ok.st
 repeat (first|simp (config:={maxSteps:=1000000}) only[aL,aR,bd,bf,reduceAdd,reduceMul,reduceLeDiff,reduceEqDiff,bj,hlen,UC,UD,t0,stN]|simp (config:={maxSteps:=1000000}) (disch:=first|(simp only[Ud,Ui,Ul]<;>omega)|rfl|omega|fail) only[dZ,aL,aR,bd,bf,reduceAdd,reduceMul,reduceLeDiff,reduceEqDiff,bj,hlen,UC,UD,t0,stN])
 refine WF.res T.c90 (r90 T) ?_;rintro _ g6 ⟨vf,rfl,hk⟩;obtain⟨hx3,RI⟩:∃z,z=H1++g4++g5++[ai.b VN.row]:=⟨_,rfl⟩;rw[<-RI]at hk ⊢;have lk:∀{z:AV},gk .s z false (.map hx3.length) (.str x.ev.kind) (λb=>(hx3++g6)[b]?)=jY z false ((eC x.ev.kind).map vf):=hk.look;rw[wx.kd]at lk;have OU:∀{z:AV},_=some (vf d,gL.ar):=@lk;obtain⟨rs,a,hv,hr,ha,hab⟩:=(hk.k d).ex;rw[hv]at OU;have e1x:Ext H1 (hx3++g6):=by rw[RI];exact Xx
 have le2:∀{k n a},Ext (hx3++g6) k->aq n (.ptr N a) (λz=>k[z]?)=dI n a (.b x'.row):=λ{_ _ _} e=>le1 (e1x.trans e)
 have cd:=j6 d;obtain⟨rb,R1⟩:∃rb,rb=(H1++g4++g5).length:=⟨_,rfl⟩;rw[<-R1];refine Rs (A8 t0 @le2 @fH @hkx @bA @OU @cd @bW) ?_;have QB:r0 V.bE.now x.ev d=0:=by
  rw[eb,mH,P1,Ur h5]at h2;split at h2
  ·exact absurd h2 De
  ·exact h2
 have Pq:x.ev.num=(V.bE.cS.length:Int)+1:=by
  rw[eb,mH]at h2;split at h2
  ·exact absurd h2 De
  case isFalse hh=>exact VM.1 hh
 have hVR:VN.aD=V.bE.now:=by rw[hVN,hnow,V.iI]
 have OK:¬cC x.ev 0<V.bE.now.tick:=λz=>by rw[r0,Ut z]at QB;exact absurd QB De
 have Sk:pv d V.bE.now x.ev=0:=by
  rw[r0,Ur OK]at QB;split at QB
  case isTrue hh=>exact absurd QB hh
  case isFalse hh=>exact VM.1 hh
 have RM:dA V.bE.now x.ev d=0:=by rw[r0,Ur OK,Ur (by rw[Sk];decide)]at QB;exact QB
 obtain⟨G,hG⟩:=e1x;have hGl:H1.length<=rb/\rb<(H1++G).length:=by
  rw[<-hG,RI,R1];simp only[Ud,Ui,Ul];omega
 have rbk:bG H1.length (H1++G) rb VN:=by
  have:=(((own.app [ai.b VN.row]).app g6).low (M:=H1.length) Si);rw[<-RI,hG]at this;refine⟨this,hGl.1,?_,λhb'=>?_⟩
  ·rw[<-hG,RI,R1];exact(Ext.app _ (Ext.refl _)).some bO
  ·have:=(own.dU hb').2;omega
 have glG:Gl (H1++G):=(gl.ext ⟨_,hB1⟩).ext ⟨_,rfl⟩;have cx:Cx (H1++G) VN x' d:=⟨rbk.o.ok,by rw[hVN];exact wn,ox1.ext ⟨_,rfl⟩,by rw[Oo];exact wx,by rw[hVR,Oo];exact Ar Sk⟩;rw[hG];refine D1 T h5 rbk cx (by rw[hVR,Oo];exact RM) glG ?_;rintro _ _ ⟨g7,V7,rfl,r7,hr7⟩;have e17:Ext H1 (H1++g7):=⟨_,rfl⟩;have le3:∀{k n a},Ext (H1++g7) k->aq n (.ptr N a) (λz=>k[z]?)=dI n a (.b x'.row):=λ{_ _ _} e=>le1 (e17.trans e)
 have Pc:0<x'.ev.ba.length:=by rw[Oo,wx.vl];cases d<;>first|exact absurd rfl h5|decide
 have oB:bh 1 x'.sv (.i 0)=some (eO x'.sv 1 0,.ar):=ox1.v.oB Pc;have ld0:∀{k':af},Ext (H1++g7) k'->aq none (eO x'.sv 1 0) (λb=>k'[b]?)=some (.i (cC x.ev 0),.ar):=λ{k'} e=>by
  have ev0:cC x.ev 0=x'.ev.ba[0]:=by rw[<-Oo,cC,UQ,Uj Pc];rfl
  rw[ev0];exact ox1.v.kK Pc rfl (e17.trans e)
 have s7:bC 1 (.ptr rb 0) (.i (cC x.ev 0)) (λz=>(H1++g7)[z]?)=some (au,.set rb (.b (V7.row.set 0 (.i (cC x.ev 0))))):=gy r7.m rfl De;obtain⟨g8,hg8,r8⟩:=r7.tk (cC x.ev 0);refine Rs (A6 t0 @le3 @bY @oB @ld0 @s7) ?_;rw[hg8];obtain⟨V8,hV8⟩:∃V8:RV,V8={V7 with tick:=cC x.ev 0}:=⟨_,rfl⟩;rw[<-hV8]at r8;have hr8:V8.aD=Ch V.bE.now x.ev d:=by
  rw[hV8,Ch,<-hVR];have:fZ VN.aD x.ev d=V7.aD:=by rw[hr7,Oo]
  rw[this];rfl
 clear s7 le2 le3 ld0 OU lk hk;have oV2:bZ B.length (H1++g8) b V1:=Q5.app g8;have e18:Ext H1 (H1++g8):=⟨_,rfl⟩;have lb2:∀{k n a},Ext (H1++g8) k->aq n (.ptr b a) (λz=>k[z]?)=dI n a (.b [O2,V.sc,V.sr]):=λ{_ _ _} e=>lb1 (e18.trans e)
 have le2:∀{k n a},Ext (H1++g8) k->aq n (.ptr N a) (λz=>k[z]?)=dI n a (.b x'.row):=λ{_ _ _} e=>le1 (e18.trans e)
 have lr2:=@jg _ _ _ r8.m;have bs1:=@aZ.Df _ _ ox1;have bs2:=@aG.Df _ _ r8.o.ok;obtain⟨H2,RT⟩:∃H2,H2=H1++g8:=⟨_,rfl⟩;have m2:H2[b]? =some (.b [O2,V.sc,V.sr]):=by rw[RT];exact e18.some m1
 have e2:H2[N]? =some (.b x'.row):=by rw[RT];exact e18.some eN
 have r2m:H2[rb]? =some (.b V8.row):=by rw[RT];exact r8.m
 have hB2:∃g',H2=B++g':=⟨_,by rw[RT,hB1,Uf]⟩;rw[<-RT]at r8 oV2 ⊢;have Tu:Ow B.length H2 V.sc 5 (V.ff.map EV.row):=by have:=oV2.oc;rw[QH]at this;exact this
 have Sa:Ow B.length H2 V.sr 7 (V.cI.map RV.row):=by have:=oV2.og;rw[QH]at this;exact this
 have d1:=pS.1 Q5.di;have d1b:sB V.sc≠some b/\sB V.sr≠some b:=by have:=(d1.1 b rfl).2;rw[QH]at this;exact this
 have d1c:∀i,sB V.sc=some i->sB V.sr≠some i:=by have:=d1.2.2;rw[QH]at this;exact this
 have hBl:B.length<=H2.length:=by obtain⟨z,hz⟩:=hB2;rw[hz];simp
 refine xU (λh=>h[b]? =some (.b [O2,V.sc,V.sr])/\h[N]? =some (.b x'.row)/\h[rb]? =some (.b V8.row)) ?_;have hS:(λh:af=>h[b]? =some (.b [O2,V.sc,V.sr])/\h[N]? =some (.b x'.row)/\h[rb]? =some (.b V8.row)) H2:=⟨m2,e2,r2m⟩;refine fL hS rfl rfl ?_;refine Rs t0 ?_;refine fL hS rfl rfl ?_;refine Rs t0 ?_;refine fL hS rfl rfl ?_;refine Rs t0 ?_;refine fL hS rfl rfl ?_;refine Rs t0 ?_;refine fL hS rfl rfl ?_;refine Rs t0 ?_;refine ru hS (v:=V.sc) (λg hg=>?_) ?_
 ·exact M8
 refine Rs t0 ?_;refine ru hS (v:=.agg x'.row) (λg hg=>?_) ?_
 ·simp only[aL,aR,bd,bf,reduceAdd,reduceMul,reduceLeDiff,reduceEqDiff,bj,hlen,UC,UD,t0,az hg.2.1,bW]
 refine Rs t0 ?_;refine fL hS rfl rfl ?_;refine Rs (A2 t0 @bs1) ?_;have x3:Ext H2 (H2++[ai.cells x'.row true true]):=⟨_,rfl⟩;have hS3:(λh:af=>h[b]? =some (.b [O2,V.sc,V.sr])/\h[N]? =some (.b x'.row)/\h[rb]? =some (.b V8.row)) (H2++[ai.cells x'.row true true]):=⟨x3.some m2,x3.some e2,x3.some r2m⟩;refine fL hS3 rfl rfl ?_;refine Rs t0 ?_;refine WR.GZ (N:=B.length) (cs:=V.ff.map EV.row) (ys:=[x'.row]) (Tu.ay λi hi=>Ug (Tu.bL hi).2) (Fr.push (N:=0) (UK _) [x'.row] (by intro y hy;rw[Uw]at hy;rw[hy];rfl)).aM (by simp only[Ud];omega) De Si (by simp only[Uv,Ui,Ul];omega) ?_;intro h4 hl4 hs4 hk4
 have SO:V.ff.map EV.row++[x'.row]=(V.ff++[x']).map EV.row:=by rw[Up];rfl
 rw[SO]at hs4;rw[SO];obtain⟨OP,hsc⟩:∃OP,OP=AV.slice (H2++[ai.cells x'.row true true]).length 0 ((V.ff++[x']).map EV.row).length 5:=⟨_,rfl⟩;rw[<-hsc]at hs4 ⊢;have hl4':h4.length=H2.length+2:=by rw[hl4];simp
 have Sj:∀i,sB OP=some i->H2.length+1=i:=λi hi=>by rw[hsc]at hi;cases hi;simp
 have osc:OP.one=true:=by rw[hsc];rfl
 have k4:∀i,i<H2.length->sB V.sc≠some i->h4[i]? =H2[i]? :=λi hi hne=>by rw[hk4 i (by simp;omega) hne,Ug hi]
 have hNl:N<H2.length:=(Ue.1 e2).1;have Po:rb<H2.length:=(Ue.1 r2m).1;have hbl2:b<H2.length:=(Ue.1 m2).1;have SB:∀j,some j∈V.ex b->j<N:=λj hj=>by rw[hN];exact o.AY hj
 have ncN:sB V.sc≠some N:=λe=>by have:=SB N (by rw[<-e];simp[HV.ex]);omega
 have nrN:sB V.sr≠some N:=λe=>by have:=SB N (by rw[<-e];simp[HV.ex]);omega
 have hNr:N<rb:=by have:=(Ue.1 eN).1;omega
 have ncr:sB V.sc≠some rb:=λe=>by have:=SB rb (by rw[<-e];simp[HV.ex]);omega
 have nrr:sB V.sr≠some rb:=λe=>by have:=SB rb (by rw[<-e];simp[HV.ex]);omega
 have SC:(λh:af=>h[b]? =some (.b [O2,V.sc,V.sr])/\h[N]? =some (.b x'.row)/\h[rb]? =some (.b V8.row)) h4:=⟨(k4 b hbl2 d1b.1).trans m2,(k4 N hNl ncN).trans e2,(k4 rb Po ncr).trans r2m⟩;refine Rs t0 ?_;refine fL SC rfl rfl ?_;refine Rs t0 ?_;refine fL SC rfl rfl ?_;refine Rs t0 ?_;refine fL SC rfl rfl ?_;refine Rs t0 ?_;refine ru SC (v:=V.sr) (λg hg=>?_) ?_
 ·exact M8
 refine Rs t0 ?_;refine ru SC (v:=.agg V8.row) (λg hg=>?_) ?_
 ·simp only[aL,aR,bd,bf,reduceAdd,reduceMul,reduceLeDiff,reduceEqDiff,bj,hlen,UC,UD,t0,az hg.2.2,bM]
 refine Rs t0 ?_;refine fL SC rfl rfl ?_;refine Rs (A2 t0 @bs2) ?_;have x5:Ext h4 (h4++[ai.cells V8.row true true]):=⟨_,rfl⟩;have hS5:(λh:af=>h[b]? =some (.b [O2,V.sc,V.sr])/\h[N]? =some (.b x'.row)/\h[rb]? =some (.b V8.row)) (h4++[ai.cells V8.row true true]):=⟨x5.some SC.1,x5.some SC.2.1,x5.some SC.2.2⟩;have owr4:Ow B.length (h4++[ai.cells V8.row true true]) V.sr 7 (V.cI.map RV.row):=Sa.ay λi hi=>by
  have hil:=(Sa.bL hi).2;rw[Ug Om];exact k4 i hil λe=>d1c i e hi
 refine fL hS5 rfl rfl ?_;refine Rs t0 ?_;refine WR.GZ (N:=B.length) (cs:=V.cI.map RV.row) (ys:=[V8.row]) owr4 (Fr.push (N:=0) (UK _) [V8.row] (by intro y hy;rw[Uw]at hy;rw[hy];rfl)).aM (by simp only[Ud];omega) De Si (by simp only[Uv,Ui,Ul];omega) ?_;intro h6 hl6 hs6 hk6;have SN:V.cI.map RV.row++[V8.row]=(V.cI++[V8]).map RV.row:=by rw[Up];rfl
 rw[SN]at hs6;rw[SN];obtain⟨O5,hsr⟩:∃O5,O5=AV.slice (h4++[ai.cells V8.row true true]).length 0 ((V.cI++[V8]).map RV.row).length 7:=⟨_,rfl⟩;rw[<-hsr]at hs6 ⊢;have hl6':h6.length=H2.length+4:=by rw[hl6];simp;omega
 have Sg:∀i,sB O5=some i->H2.length+3=i:=λi hi=>by rw[hsr]at hi;cases hi;simp;omega
 have osr:O5.one=true:=by rw[hsr];rfl
 have k6:∀i,i<H2.length->sB V.sc≠some i->sB V.sr≠some i->h6[i]? =H2[i]? :=λi hi n1 n2=>by
  rw[hk6 i (by simp;omega) n2,Ug Om];exact k4 i hi n1
 have hS6:(λh:af=>h[b]? =some (.b [O2,V.sc,V.sr])/\h[N]? =some (.b x'.row)/\h[rb]? =some (.b V8.row)) h6:=⟨(k6 b hbl2 d1b.1 d1b.2).trans m2,(k6 N hNl ncN nrN).trans e2,(k6 rb Po ncr nrr).trans r2m⟩;refine Rs t0 ?_;refine xR hS6 rfl ?_;have m6:=hS6.1;have hb6:b<h6.length:=(Ue.1 m6).1;have sA:bC 1 (.ptr b 1) OP (λz=>h6[z]?)=some (au,.set b (.b [O2,OP,V.sr])):=by
  rw[bp m6];exact fC osc Si
 have m7:(h6.set b (.b [O2,OP,V.sr]))[b]? =some (.b [O2,OP,V.sr]):=UY hb6;have sB2:bC 1 (.ptr b 2) O5 (λz=>(h6.set b (.b [O2,OP,V.sr]))[z]?)=some (au,.set b (.b [O2,OP,O5])):=by
  rw[bp m7];exact fC osr Si
 refine Rs (A3 t0 @sA @sB2) ?_;rw[List.set_set];obtain⟨gB2,hgB2⟩:=hB2;obtain⟨gz,hz⟩:=s9 (X:=.b [O2,OP,O5]) oV2.hN (Cc (B:=B) (h:=h6) Om λi hi=>by
  rw[k6 i Om (λe=>by have:=(Tu.bL e).1;omega) (λe=>by have:=(Sa.bL e).1;omega),hgB2,Ug hi])
 have kz:∀i,i≠b->(h6.set b (.b [O2,OP,O5]))[i]? =h6[i]? :=λi hi=>U1 (Wy hi)
 have oxm2:aZ (gQ (V1.ex b) H2) x':=oV2.ae x' (by rw[QH];simp);have oR2:aG (gQ (V1.ex b) H2) V8:=r8.o.ok.gQ λj hj hm=>by
  have h1:=(r8.o.dU hj).1;have h2:=Q5.AY hm;omega
 have hBH1:B.length<=H1.length:=by rw[hB1];simp
 have fin:bZ B.length (h6.set b (.b [O2,OP,O5])) b {V1 with ff:=V1.ff++[x'],cI:=V1.cI++[V8],sc:=OP,sr:=O5}:=by
  subst QH;refine oV2.NS (λi hi n1 n2 nb=>(kz i nb).trans (k6 i hi n1 n2)) (hs4.ay λi hi=>?_) (hs6.ay λi hi=>kz i ?_) (UY hb6) (λi hi=>by have:=Sj i hi;omega) (λi hi=>by have:=Sg i hi;omega) (λi h1 h2=>by have:=Sj i h1;have:=Sg i h2;omega) oxm2 oR2 (λj hj=>Vk hBH1 (r8.o.dU hj).1)
  ·have h1:=Sj i hi;rw[kz i Om,hk6 i (by simp;omega) (λe=>by have:=(Sa.bL e).2;omega),Ug Om]
  ·have h1:=Sg i hi;omega
 have hfr:∀i,i<(B++g).length->some i∉V.ex b->(B++gz)[i]? =(B++g)[i]? :=λi hi hn=>by
  have hi1:=SJ i hi hn;have hil:i<H1.length:=by
   rw[Uj hi]at hi1;exact(Ue.1 hi1).1
  rw[<-hz,kz i (λe=>hn (by rw[e];simp[HV.ex])),k6 i (by rw[RT,Ud];omega) (λe=>hn (by rw[<-e];simp[HV.ex])) (λe=>hn (by rw[<-e];simp[HV.ex])),RT,Ug hil,hi1]
 have hlo:(B++g).length<=H.length:=by rw[RS];simp only[Ud];omega
 have hlo2:H.length<=H2.length:=by rw[RT,Ud,hH1,VA,SW];simp only[Ud];omega
 have hexn:∀j,some j∈HV.ex b {V1 with ff:=V1.ff++[x'],cI:=V1.cI++[V8],sc:=OP,sr:=O5}->some j∈V.ex b\/(B++g).length<=j:=λj hj=>by
  subst QH;simp only[HV.ex,UR,Vh,V3,UG]at hj ⊢;rcases hj with hj|hj|hj|hj
  ·exact .inl (.inl hj)
  ·have:=Sh j hj.symm;exact .inr Om
  ·have:=Sj j hj.symm;exact .inr Om
  ·have:=Sg j hj.symm;exact .inr Om
 refine⟨gz,_,hz,by rw[h2],by rw[<-hz];exact fin,?_,hfr,hexn⟩;rw[Ut h2,p3,P1,Ur h5,QH];simp only[HV.bE,Up,Vl,Ww,Oo,hr8]
end
def G2{H e}(h:mH H e=0):e.num=(H.cS.length:Int)+1/\(p9 e=.fW->H.ff≠[])/\(p9 e≠.fW->r0 H.now e (p9 e)=0):=by
 unfold mH at h;split at h
 ·exact absurd h De
 case isFalse h1=>
 refine⟨VM.1 h1,λhk hn=>?_,λhk=>by rw[Ur hk]at h;exact h⟩;rw[Ut hk,hn]at h;exact absurd h De
def GN{H e}(h:gK H e=0):dK e=0/\mH H e=0:=by
 unfold gK at h;split at h
 case isTrue h1=>exact absurd h h1
 case isFalse h1=>exact⟨VM.1 h1,h⟩
theorem uT.p9{e d}(w:uT e d):Go.Abs.p9 e=d:=by rw[Go.Abs.p9,w.kd];rfl
def kW.add{H e}(w:kW H)(h:gK H e=0):kW (p3 H e):=by
 obtain⟨h1,h2⟩:=GN h;obtain⟨d,we⟩:=pT h1;obtain⟨h3,h4,h5⟩:=G2 h2;have P1:=we.p9;unfold p3;split
 case isTrue hu=>
  have hl:=VU.2 (h4 hu);have e1:=w.ln;have e2:=w.le;refine⟨λR hR=>w.rg R ((List.dropLast_sublist _).mem hR),by simp[e1],?_,λx hx=>?_,λx hx=>w.cn x ((List.dropLast_sublist _).mem hx)⟩
  ·simp only[List.length_dropLast,Ud,Us];omega
  ·exact MX
 case isFalse hu=>
  have e1:=w.ln;have e2:=w.le;have hs:=h5 hu;rw[P1]at hs hu;refine⟨λR hR=>?_,by simp[e1],by simp only[Ud,Us];omega,λx hx=>?_,λx hx=>?_⟩
  ·rcases Um.1 hR with hR|hR
   ·exact w.rg R hR
   ·rw[Uw]at hR;rw[hR,P1];exact w.now.step we hu hs
  ·exact MX
  ·rcases Um.1 hx with hx|hx
   ·exact w.cn x hx
   ·rw[Uw]at hx;subst hx;exact⟨d,we⟩
def uJ{H e}:(p3 H e).cS.length=H.cS.length+1:=by
 unfold p3;split<;>simp
def Hw(h:af)(l:List fp)(v:AV)(k:af):Prop:=
 ∃p,v=.dt [p,.i (cO l).2.1,.i (cO l).2.2]/\((cO l).2.2≠0->p=.nilPtr)/\
  ((cO l).2.2=0->∃b V,p=.ptr b 0/\bZ h.length k b V/\V.bE=(cO l).1/\kW V.bE/\V.cS.length=l.length/\l.length<=1000)
structure D8(L:List EV):Prop where
 l:L.length<=2^30
 e:∀x∈L,x.ev.names.length<=2^30/\x.ev.ba.length<=2^30
section
variable {P:Program}(T:eF P) {h:af}
include T
def r78{L s}(o:fB h L s)(sh:D8 L)(gl:Gl h):ak P 78 [s] h (Hw h (L.map EV.ev)):=by
 have PZ:=sh.l;refine .jP 31 T.mix T.c78 ?_;intro ts hlen t0;unfold fn78 gA;by_cases h1:1000<L.length
 ·have q1:decide ((1000:Int)<(L.length:Int))=true:=Uk Om;refine Rs (A3 t0 o.sl.aS q1) ?_;have e:cO (L.map EV.ev)=(kf.zero,0,5):=by rw[cO,Ut (by simpa using h1)]
  unfold Hw;rw[e];exact⟨_,rfl,λ_=>rfl,λz=>absurd z De⟩
 have q1:decide ((1000:Int)<(L.length:Int))=false:=Uh Om;refine Rs (A3 t0 o.sl.aS q1) ?_;have e0:cO (L.map EV.ev)=tf kf.zero (L.map EV.ev) 0:=by rw[cO,Ur (by simpa using h1)]
 obtain⟨b,hb⟩:∃b,b=h.length:=⟨_,rfl⟩;rw[<-hb];refine WL.inv T.mix (λm ts h'=>∃(k:Nat) (g':af) (V:HV),k<=L.length/\m=L.length-k/\h' =h++g'/\bZ h.length (h++g') b V/\kW V.bE/\V.cS.length=k/\cO (L.map EV.ev)=tf V.bE ((L.drop k).map EV.ev) k/\ts.length=31/\slot ts 5=.ptr b 0/\slot ts 14=s/\slot ts 15=.i L.length/\slot ts 16=.i k) L.length
  ⟨0,[ai.b [AV.ah,.ah,.ah]],⟨[],[],[],.ah,.ah,.ah⟩,Om,rfl,rfl,⟨Om,by rw[hb];exact bO,.nil,.nil,.nil,pS.2 ⟨λ_ _=>⟨by simp[sB],by simp[sB],by simp[sB]⟩,λ_ z=>by simp[sB]at z,λ_ z=>by simp[sB]at z⟩,(λx hx=>by cases hx),(λx hx=>by cases hx),(λx hx=>by cases hx),(λx hx=>by cases hx)⟩,kW.zero,rfl,e0,Sn,Sw,(Sq t0),Sw,iR⟩ ?_
 rintro _ ts _ ⟨k,g',V,hk,rfl,rfl,oV,wV,hVl,Ot,hlen,t5,t14,t15,t16⟩;by_cases hlt:k<L.length
 ·have e3:=gh hlt;have e5:=wrapN (n:=k) Om;have ix:=o.sl.fx (kk:=.i64) hlt;have ld:∀{k'},Ext (h++g') k'->aq (some 5) (eO s 5 k) (λb=>k'[b]?)=some (.agg (EV.row L[k]),.ar):=λ{k'} e=>o.sl.mY hlt (Ext.trans (Ext.app g' (Ext.refl h)) e)
  obtain⟨x,hx⟩:∃x,x=L[k]:=⟨_,rfl⟩;have hm:x∈L:=by rw[hx];exact UB _
  have hd:L.drop k=x::L.drop (k+1):=by rw[hx];simp
  rw[<-hx]at ld;have ox:aZ (h++g') x:=(o.all x hm).ext ⟨_,rfl⟩;have st:∀{b':Nat}{a0 a1 a2 a3 a4:AV},jq 5 0 (.agg x.row) b' (.b [a0,a1,a2,a3,a4])=some (au,.set b' (.b x.row)):=λ{_ _ _ _ _ _}=>ox.st
  refine Rs (A9 t5 t14 t15 t16 e3 ix @ld @st @bW) ?_;rw[Uf h g'];rw[hd,Vl,tf]at Ot;refine WF.gen T.c112 (JB T (B:=h) (x:=x) (by rw[<-Uf];exact oV.app _) wV Om (by rw[<-Uf];exact ox.ext Xx) ⟨by have:=(sh.e x hm).1;omega,by have:=(sh.e x hm).2;omega⟩ gl) ?_;rintro _ _ ⟨g2,V2,rfl,rfl,o2,S8,-,-⟩;by_cases h2:gK V.bE x.ev=0
  ·have q2:decide (gK V.bE x.ev≠0)=false:=Uh (λz=>z h2);rw[Ut h2]at S8;rw[Ur (λz=>z h2)]at Ot;refine Rs (A6 t5 t14 t15 t16 q2 e5) ?_;refine⟨_,Om,k+1,g2,V2,Om,rfl,rfl,o2,by rw[S8];exact wV.add h2,?_,by rw[S8];exact Ot,rfl⟩;have:V2.bE.cS.length=V.bE.cS.length+1:=by rw[S8];exact uJ
   simpa [HV.bE,hVl]using this
  ·have q2:decide (gK V.bE x.ev≠0)=true:=Uk h2;rw[Ut h2]at Ot;refine Rs (A6 t5 t14 t15 t16 q2 e5) ?_;unfold Hw;rw[Ot];refine⟨_,?_,λ_=>rfl,λz=>absurd z h2⟩;simp
 ·have e3:=gG hlt;have e4:k=L.length:=Om
  have SQ:cO (L.map EV.ev)=(V.bE,0,0):=by rw[Ot,e4,Vr];rfl
  refine Rs (A5 t5 t14 t15 t16 e3) ?_;unfold Hw;rw[SQ];exact⟨_,rfl,λz=>absurd rfl z,λ_=>⟨b,V,rfl,oV,rfl,wV,by simp;omega,by simp;omega⟩⟩
end
def oZ(t:Int):Int:=bn t 0 999999999
def N4:decide ((0:Int)≠0)=false:=rfl
def je(l:List fp)(t:Nat)(n:By):gB×Int:=if(cO l).2.2≠0 then(gB.zero,(cO l).2.2)else((cO l).1.now,bB (!fk (cO l).1.now t n) 10)
def bZ.F3{N h b V}(o:bZ N h b V):∀j,some j∈V.now.bl->N<=j:=by
 rw[HV.now,Vu];cases hx:V.cI.getLast? with
 |none=>intro j hj;simp[RV.zero,RV.bl,sB]at hj
 |some R=>exact o.lo R (List.mem_of_getLast? hx)
def C2{h X:af}{A C:ai}{j:Nat}(hj:h.length+1<=j):(h++[A]++X)[j]? =(h++[C]++X)[j]? :=by
 exact Kz
section
variable {P:Program}(T:eF P) {h:af}
include T
def r75(t:Int):ak P 75 [.i t] h (λv _=>v=.i (oZ t)):=by
 refine .jP 5 T.mix T.c75 ?_;intro ts hlen t0;unfold fn75 gA;refine Rs t0 ?_;refine WF.ce T.c94 (r94 T _ _ _) λg1=>?_
 refine Rs t0 ?_;rfl
def Fz{l v k}(r:Hw h l v k)(he:(cO l).2.2≠0):v=.dt [.nilPtr,.i (cO l).2.1,.i (cO l).2.2]:=by
 have:=T.mix;obtain⟨p,rfl,h1,_⟩:=r;rw[h1 he]
def zT{l v k}(r:Hw h l v k)(he:(cO l).2.2=0):∃b V,v=.dt [.ptr b 0,.i 0,.i 0]/\bZ h.length k b V/\V.bE=(cO l).1/\kW V.bE/\V.cS.length=l.length/\l.length<=1000/\V.cI.length<=1000/\(cO l).2.1=0/\ka V.now.aD/\V.now.aD=(cO l).1.now/\aG k V.now/\∀j,some j∈V.now.bl->h.length<=j:=by
 have:=T.mix;obtain⟨p,rfl,_,h2⟩:=r;obtain⟨b,V,rfl,h3,h4,h5,h6,h7⟩:=h2 he;have hz:(cO l).2.1=0:=by
  revert he
  unfold cO;split
  ·intro _;rfl
  ·have key:∀(l:List fp) (H:kf) (i:Nat),(tf H l i).2.2=0->(tf H l i).2.1=0:=by
    intro l
    induction l with
    |nil=>intro H i _;rfl
    |cons e l ih=>
     intro H i;rw[tf];split
     case isTrue hb=>intro hc;exact absurd hc hb
     case isFalse hb=>exact ih _ _
   exact key l _ _
 have hr:V.cI.length<=1000:=by
  have e1:=h5.ln;have e2:=h5.le;exact MZ
 exact⟨b,V,by rw[hz,he],h3,h4,h5,h6,h7,hr,hz,by rw[V.iI];exact h5.now,by rw[V.iI,h4],h3.rd.now,h3.F3⟩
def r73{L:List EV}{s:AV}(o:fB h L s)(sh:D8 L)(gl:Gl h){t:Nat}(ht:t<6)(n:By):ak P 73 [s,.i t,.str n] h (λv k=>∃V:RV,v=.dt [.agg V.row,.i (je (L.map EV.ev) t n).2]/\V.aD=(je (L.map EV.ev) t n).1/\aG k V/\ka V.aD):=by
 refine .uP 31 T.mix T.c73 ?_;intro ts hlen t0 t1 t2;unfold fn73 gA;refine Rs (A3 t0 t1 t2) ?_;refine WF.res T.c78 (r78 T (o.ext Xx) sh (gl.ext Xx)) ?_;intro v g hv;by_cases he:(cO (L.map EV.ev)).2.2=0
 ·obtain⟨b,V,rfl,oV,hV,wV,_,_,hr,_,wn,hn,on,lo⟩:=zT T hv he;have st:=@aG.st _ _ on;refine Rs (A4 t0 t1 t2 @N4) ?_;refine WF.ce T.c79 (r79 T (oV.rd.ext Xx) hr) λg2=>?_
  refine Rs (A5 t0 t1 t2 @st @bM) ?_;refine WF.ce T.c86 (r86 T (on.ext Xx) wn.len ht _) λg3=>?_
  refine Rs (A4 t0 t1 t2 @bM) ?_;refine WF.ce T.c85 (r85 T _ _) λg4=>?_
  refine Rs (A5 t0 t1 t2 @st @bM) ?_;refine⟨V.now,?_,?_,?_,wn⟩
  ·rw[je,Ur (λz=>z he),hn]
  ·rw[je,Ur (λz=>z he),hn]
  ·refine(on.ar (k:=h++[ai.b V.now.row]++g) λj hj=>C2 (by have:=lo j hj;simpa using this)).ext Xx
 ·have PK:=Fz T hv he;subst PK;have q:decide ((cO (L.map EV.ev)).2.2≠0)=true:=Uk he;refine Rs (A4 t0 t1 t2 q) ?_;refine⟨RV.zero,?_,?_,aG.zero,ka.zero⟩
  ·rw[je,Ut he];rfl
  ·rw[je,Ut he];rfl
end
def FL{l t n}(h:(je l t n).2=0):(cO l).2.2=0/\(je l t n).1=(cO l).1.now/\n∈Hp (cO l).1.now t:=by
 unfold je at h ⊢;split at h
 case isTrue h1=>exact absurd h h1
 case isFalse h1=>
  rw[Ur h1];refine⟨VM.1 h1,rfl,?_⟩;by_cases hh:fk (cO l).1.now t n=true
  ·unfold fk at hh;exact VK hh
  ·have:fk (cO l).1.now t n=false:=by simpa using hh
   simp only[this,bB]at h;exact absurd h De
def te(l:List fp)(n:By)(t:Int):Bool×Int:=
 if aO [(je l 2 n).2,oZ t]≠0 then(false,aO [(je l 2 n).2,oZ t])else(jK (je l 2 n).1 (sX (je l 2 n).1 n) t,0)
def oz(l:List fp)(t:Int):List (By)×Int:=
 if aO [(cO l).2.2,oZ t]≠0 then([],aO [(cO l).2.2,oZ t])else(jo (cO l).1.now t,0)
def AQ{a b}(h:aO [a,b]=0):a=0/\b=0:=by
 simp only[aO]at h;split at h
 ·rename_i ha;split at h
  ·rename_i hb;exact⟨ha,hb⟩
  ·rename_i hb;exact absurd h hb
 ·rename_i ha;exact absurd h ha
section
variable {P:Program}(T:eF P) {h:af}
include T
def r16{L s}(o:fB h L s)(sh:D8 L)(gl:Gl h)(n:By)(t:Int):ak P 16 [s,.str n,.i t] h (λv _=>v=.dt [.bool (te (L.map EV.ev) n t).1,.i (te (L.map EV.ev) n t).2]):=by
 refine .uP 31 T.mix T.c16 ?_;intro ts hlen t0 t1 t2;unfold fn16 gA;refine Rs (A3 t0 t1 t2) ?_;refine WF.res T.c73 (r73 T (o.ext Xx) sh (gl.ext Xx) (t:=2) De n) ?_;rintro _ g ⟨V,rfl,hV,oV,wV⟩;have st:∀{b':Nat}{a0 a1 a2 a3 a4 a5 a6:AV},jq 7 0 (.agg V.row) b' (.b [a0,a1,a2,a3,a4,a5,a6])=some (au,.set b' (.b V.row)):=λ{_ _ _ _ _ _ _ _}=>oV.st
 refine Rs (A5 t0 t1 t2 @st @bM) ?_;refine WF.ce T.c75 (r75 T t) λg1=>?_
 refine Rs (A3 t0 t1 t2) ?_;refine WF.ce T.c74 (r74 T (bN [_,_]) Si) λg2=>?_
 obtain⟨f,hf⟩:∃f,f=aO [(je (L.map EV.ev) 2 n).2,oZ t]:=⟨_,rfl⟩;rw[<-hf,te,<-hf];by_cases h0:f=0
 case neg=>
  have q:decide (f≠0)=true:=Uk h0;rw[Ut h0];exact Rs (A4 t0 t1 t2 q) Tv
 have q:decide (f≠0)=false:=Uh (λz=>z h0);rw[Ur (λz=>z h0)];rw[hf]at h0;obtain⟨he,hne,hm⟩:=FL (AQ h0).1;rw[<-hne,<-hV]at hm;refine Rs (A5 t0 t1 t2 q @bM) ?_;refine WF.res T.c77 (r77 T (oV.ext Xx) wV.len hm) ?_;rintro _ g3 ⟨x,hx,QT,rfl⟩;refine Rs (A3 t0 t1 t2) ?_;refine WF.ce T.c76 (r76 T (oV.ext Xx) wV.len ((oV.e2 x hx).ext Xx) (wV.AN.sh x hx).2 (wV.AN.sh x hx).1 t) λg4=>?_
 refine Rs (A3 t0 t1 t2) ?_;rw[QT,hV]
def r17{L s}(o:fB h L s)(sh:D8 L)(gl:Gl h)(t:Int):ak P 17 [s,.i t] h (λv k=>∃s',v=.dt [s',.i (oz (L.map EV.ev) t).2]/\aB k s' 1 ((oz (L.map EV.ev) t).1.map al)):=by
 refine .eQ 28 T.mix T.c17 ?_;intro ts hlen t0 t1;unfold fn17 gA;refine Rs (A2 t0 t1) ?_;refine WF.res T.c78 (r78 T (o.ext Xx) sh (gl.ext Xx)) ?_;intro v g hv;obtain⟨p,hvp⟩:∃p,v=.dt [p,.i (cO (L.map EV.ev)).2.1,.i (cO (L.map EV.ev)).2.2]:=by obtain⟨p,h1,_⟩:=hv;exact⟨p,h1⟩
 rw[hvp];refine Rs (A2 t0 t1) ?_;refine WF.ce T.c75 (r75 T t) λg1=>?_
 refine Rs (A2 t0 t1) ?_;refine WF.ce T.c74 (r74 T (bN [_,_]) Si) λg2=>?_
 obtain⟨f,hf⟩:∃f,f=aO [(cO (L.map EV.ev)).2.2,oZ t]:=⟨_,rfl⟩;rw[<-hf,oz,<-hf];by_cases h0:f=0
 case neg=>
  have q:decide (f≠0)=true:=Uk h0;rw[Ut h0];refine Rs (A3 t0 t1 q) ?_;exact⟨_,rfl,.nil⟩
 have q:decide (f≠0)=false:=Uh (λz=>z h0);rw[Ur (λz=>z h0)];rw[hf]at h0;obtain⟨b,V,hvb,oV,hV,wV,T2,hle,hr,hz,wn,hn,on,lo⟩:=zT T hv (AQ h0).1;rw[hvp]at hvb;have hpb:p=.ptr b 0:=by injection hvb with h1;injection h1
 rw[hpb];refine Rs (A3 t0 t1 q) ?_;refine WF.ce T.c79 (r79 T (oV.rd.ext Xx) hr) λg3=>?_
 refine Rs (A2 t0 t1) ?_;refine WF.res T.c80 (r80 T (on.ext Xx) wn.len wn.AN t) ?_;rintro v4 g4 h4;refine Rs (A2 t0 t1) ?_;rw[hn]at h4;exact⟨_,rfl,h4⟩
def r219{x:kM×AV}(ox:x.2.one=true){S:List jO}{s:AV}(hs:aB h s 3 (S.map cp))(hl:S.length<2^63){b:Nat}(hb:h[b]? =some (.b [s])):
  ak P 219 [.agg (bg x),.ptr b 0] h (λv _=>v=.bool (decide (x.1.line∈S.map jO.name))):=by
 refine .eQ 9 T.mix T.c219 ?_;intro ts hlen t0 t1;unfold fn219 gA;have lb:∀{k:af}{n':Option Nat}{a:Nat},Ext h k->aq n' (.ptr b a) (λz=>k[z]?)=dI n' a (.b [s]):=λe=>az (e.some hb)
 unfold bg at t0;refine Rs (A4 t0 t1 @ox @lb) ?_;refine WF.ce T.c142 (r142 T (hs.ext Xx) hl _) λg1=>?_
 rw[show(λy:jO=>decide (y.name=x.1.line))=λy=>decide (jO.name y=x.1.line)from rfl];refine Rs (A2 t0 t1) ?_;rw[jy]
def r126{V:RV}(o:aG h V)(w:ka V.aD){p:By}(hp:p∈lF V.aD):ak P 126 [.agg V.row,.str p] h (λv h'=>aB h' v 1 ((qH V.aD p).map al)):=by
 refine .eQ 20 T.mix T.c126 ?_;intro ts hlen t0 t1;unfold fn126 gA;have Oj:=@aG.box _ _ o;have l:=w.len;have hpc:=gq (f:=rv.name) (l:=V.aD.aU) (n:=p) (d:=FT) hp;have hj:=(w.pc _ hpc).1;refine Rs (A4 t0 t1 @Oj @bM) ?_;refine WF.ce T.c218 (r218 T (o.ext Xx) l hp) λg1=>?_
 have pj:(dN (lV V.aD p))[1]? =some (.str (lV V.aD p).EF):=rfl;unfold dN;refine Rs (A3 t0 t1 @bM) ?_;refine WF.res T.c124 (r124 T (o.ext Xx) l hj) ?_;rintro _ g2 ⟨x,hx,QT,rfl⟩;unfold bS;refine Rs (A3 t0 t1 @bM) ?_;have hin:∀x∈V.aJ,x.1.bF.length<2^30:=λx hx=>by have:=(w.md x.1 (UP hx)).2.1;omega
 refine WF.res T.c122 (r122 T (o.ext Xx) l hin _) ?_;rintro v3 g3 h3;have ov:=h3.one;have hsl:(jT V.aD x.1.mod).length<2^30:=by
  have h1:(jT V.aD x.1.mod).length<=V.aD.lines.length:=by unfold jT;exact U7 _ _
  have:=w.l0;omega
 have sn:∀{N:Nat},jq 1 0 v3 N (.b [.ah])=some (au,.set N (.b [v3])):=λ{_}=>fC ov Si
 refine Rs (A6 t0 t1 @kQ @jU @ov @sn) ?_;refine WF.res T.c138 (r138 T (o.i2.ext Xx) o.hX.1 (by have:=l.l2;omega) (λy=>decide (y.1.line∈(jT V.aD x.1.mod).map jO.name)) (λy hy k e=>aV.of (a:=[]) T.c219 (r219 T (o.hX.1 y hy) (h3.ext (Ext.trans Xx e)) Om (e.some bO)))) ?_;rintro s4 g4 h4;have O1:(V.ao.filter λy=>decide (y.1.line∈(jT V.aD x.1.mod).map jO.name)).length<=V.ao.length:=U7 _ _;refine Rs (A2 t0 t1) ?_;refine WF.res T.c137 (r137 T h4.aM (λx hx=>o.hX.1 x ((VQ.1 hx).1)) (by have:=l.l2;omega) (λx=>x.1.name) (λx hx k e=>aV.of (a:=[]) (c:=[]) T.c140 (r140 T x (o.hX.1 x ((VQ.1 hx).1))))) ?_
 rintro s5 g5 h5;have:=h5.aM;refine Rs (A2 t0 t1) ?_;have e:qH V.aD p=(V.ao.filter λy=>decide (y.1.line∈(jT V.aD x.1.mod).map jO.name)).map λx=>x.1.name:=by
  rw[qH,<-QT];simp only[RV.aD,WA,Wl];rfl
 rw[e];exact this
def C5(l:List Int):Int×Int:=
 if aO [bB (decide (l.length=0)) 12,bB (decide (32<l.length)) 5]≠0 then(0,aO [bB (decide (l.length=0)) 12,bB (decide (32<l.length)) 5])
 else if aO (l.map λn=>bn n 0 999999999)≠0 then(0,aO (l.map λn=>bn n 0 999999999))else(jN l,0)
def r93(n:Int):ak P 93 [.i n] h (λv _=>v=.i (bn n 0 999999999)):=by
 refine .jP 5 T.mix T.c93 ?_;intro ts hlen t0;unfold fn93 Ik;refine Rs t0 ?_;refine WF.ce T.c94 (r94 T _ _ _) λg1=>?_
 exact Rs t0 Tv
def r27{s l}(hs:aB h s 1 (l.map aE))(hl:l.length<2^30):ak P 27 [s] h (λv _=>v=.dt [.i (C5 l).1,.i (C5 l).2]):=by
 refine .jP 27 T.mix T.c27 ?_;intro ts hlen t0;unfold fn27 gA;refine Rs (A2 t0 hs.aS) ?_;refine WF.ce T.c85 (r85 T _ _) λg1=>?_
 refine Rs (A2 t0 hs.aS) ?_;refine WF.ce T.c85 (r85 T _ _) λg2=>?_
 refine Rs t0 ?_;refine WF.ce T.c74 (r74 T (bN [_,_]) Si) λg3=>?_
 have e1:decide ((l.length:Int)=0)=decide (l.length=0):=Wb.2 Om;have e2:decide ((32:Int)<(l.length:Int))=decide (32<l.length):=Wb.2 Om;rw[e1,e2];obtain⟨f,hf⟩:∃f,f=aO [bB (decide (l.length=0)) 12,bB (decide (32<l.length)) 5]:=⟨_,rfl⟩;rw[<-hf,C5,<-hf];by_cases h0:f=0
 case neg=>
  have q:decide (f≠0)=true:=Uk h0;rw[Ut h0];exact Rs (A2 t0 q) Tv
 have q:decide (f≠0)=false:=Uh (λz=>z h0);rw[Ur (λz=>z h0)];refine Rs (A2 t0 q) ?_;refine WF.res T.c92 (r92 T (hs.ext Xx) Om (λn=>bn n 0 999999999) (λn _ k _=>aV.of (a:=[]) (c:=[]) T.c93 (r93 T n))) ?_;rintro s4 g4 hf4;refine Rs t0 ?_;refine WF.ce T.c74 (r74 T hf4.aM (by simp;omega)) λg5=>?_
 by_cases h1:aO (l.map λn=>bn n 0 999999999)=0
 case neg=>
  have q:decide (aO (l.map λn=>bn n 0 999999999)≠0)=true:=Uk h1;rw[Ut h1];exact Rs (A2 t0 q) Tv
 have q1:decide (aO (l.map λn=>bn n 0 999999999)≠0)=false:=Uh (λz=>z h1);rw[Ur (λz=>z h1)];have hb:∀n∈l,-1<=n/\n<=999999999:=λn hn=>by
  rw[oa]at h1;split at h1
  ·exact absurd h1 De
  case isFalse hh=>
   have:=hP (n:=n) (lo:=0) (hi:=999999999) λz=>hh (Wu.2 ⟨n,hn,by simpa using z⟩)
   omega
 refine Rs (A2 t0 q1) ?_;refine WF.ce T.c95 (r95 T (hs.ext Xx) hl hb) λg6=>?_
 exact Rs t0 Tv
end
def wQ(l:List fp)(n:By):List (By)×Int:=if(je l 3 n).2≠0 then([],(je l 3 n).2)else((tF (je l 3 n).1 n).map jH.name,0)
def C1{h X:af}{A A' R R':ai}{j:Nat}(hj:h.length+2<=j):(h++[A]++[R]++X)[j]? =(h++[A']++[R']++X)[j]? :=by
 exact Kz
def DE:an:=((fn213).body.tl).hd
def JW:an:=DE.tl.Gk
def MD:an:=(fn213).body.tl.tl
def JV:(fn213).body=.seq ((fn213).body.hd) (.seq (.seq DE.hd (.block 0 (.ft (.t 6) [7] JW.Ca JW.BJ))) MD):=rfl
section
variable {P:Program}(T:eF P) {h:af}
include T
def r213{f:FuncId}{A:aj}(hA:bz P f=some A){a c:List AV}{L:List (jH×AV)}{pre:af->Prop}(hi:IterM P f a c (L.map λx=>[.agg (aP x)]) pre)(ho:∀x∈L,x.2.one=true)(hl:L.length<=2^30)(hp:pre h)(hpe:∀k,Ext h k->pre k):
  ak P 213 [.ah,.func (.func f) a c] h (λv k=>aB k v 4 (L.map aP)):=by
 refine .of T.mix T.c213 ?_;obtain⟨ts,Ol⟩:∃ts,ts=aQ 13 [.ah,.func (.func f) a c]:=⟨_,rfl⟩;have hlen:ts.length=13:=by rw[Ol];rfl
 have t0:slot ts 0=.ah:=by rw[Ol];rfl
 have t1:slot ts 1=.func (.func f) a c:=by rw[Ol];rfl
 show WC P cB (fn213).body [] (aQ 13 [.ah,.func (.func f) a c]) h _;rw[<-Ol,JV];clear Ol;obtain⟨RR,Pa⟩:∃RR,RR=MD:=⟨_,rfl⟩;obtain⟨RA,Ta⟩:∃RA,RA=JW.Ca:=⟨_,rfl⟩;obtain⟨RB,S9⟩:∃RB,RB=JW.BJ:=⟨_,rfl⟩;rw[<-Pa,<-Ta,<-S9];unfold DE fn213 gA;simp only[an.tl,an.hd];refine Rs (A2 t0 t1) ?_;refine WC.iterM T.mix hA (a:=a) (c:=c) (Sq t0) hi (λy hy=>by obtain⟨z,_,rfl⟩:=UI.1 hy;rfl)
  (λmm i h' g=>∃sl:AV,h' =h++[ai.b [sl]]/\h'.length+1<=mm/\mm<=h'.length+1+g.length/\i<=L.length/\∀R:ai,Fr mm (h'++[R]++g) sl 4 ((L.take i).map aP)) (λ_ _ _=>False)
  (λg=>⟨.ah,rfl,Om,Uq _,UK _,λR=>.nil⟩)
  (λmm i h' g g' hI=>by
   obtain⟨sl,a1,a2,a3,a4,a5⟩:=hI;exact⟨sl,a1,a2,by rw[Ud];omega,a4,λR=>by rw[<-Uf];exact(a5 R).app _⟩)
  (λX=>hpe _ Xx) (λmm i h' g X OJ hI=>by obtain⟨sl,rfl,_⟩:=hI;exact hpe _ Xx) (λmm i hi' h' g R B OJ hI=>?_) (λe h' g OJ hI=>?_)
 ·obtain⟨sl,rfl,Ra,R4,hi0,hfr⟩:=hI;have hiL:i<L.length:=by simpa using hi'
  rw[Vz,Ta,S9];obtain⟨x,hx⟩:∃x,x=L[i]:=⟨_,rfl⟩;have ox:=ho x (by rw[hx];exact UB _);have OK:L.take (i+1)=L.take i++[x]:=by rw[hx,U9,Uj hiL];rfl
  rw[<-hx];unfold JW DE fn213 gA;simp only[an.tl,an.hd,an.Gk,an.Ca,an.BJ,setArgs,aP];refine Rs (A3 t0 t1 @ox) ?_;refine⟨_,g++[ai.b [AV.str x.1.name,.str x.1.gives,.str x.1.line,x.2]],by rw[<-Uf],OJ,?_⟩;rw[<-Uf];have lb:∀{Z:af}{n a},aq n (.ptr h.length a) (λz=>(h++[ai.b [sl]]++[B]++g++Z)[z]?)=dI n a (.b [sl]):=λ{_ _ _}=>az qk
  have lx:∀{n a},aq n (.ptr (h++[ai.b [sl]]++[R]++g).length a) (λz=>(h++[ai.b [sl]]++[B]++g++[ai.b [AV.str x.1.name,.str x.1.gives,.str x.1.line,x.2]])[z]?)=dI n a (.b [AV.str x.1.name,.str x.1.gives,.str x.1.line,x.2]):=λ{_ _}=>by
   have:(h++[ai.b [sl]]++[R]++g).length=(h++[ai.b [sl]]++[B]++g).length:=Si
   rw[this];exact az bO
  refine Rs (A5 t0 t1 @ox @lb @lx) ?_;obtain⟨gt,Q0⟩:∃gt,gt=g.take (mm-(h.length+2)):=⟨_,rfl⟩;have Sl:h.length+2<=mm/\mm<=h.length+2+g.length:=by
   simp only[Ud,Ui,Ul]at Ra R4;omega
  have hgl:gt.length=mm-(h.length+2):=by rw[Q0,U6];omega
  have hgs:g=gt++g.drop (mm-(h.length+2)):=by rw[Q0,U8]
  have h0l:(h++[ai.b [sl]]++[B]++gt).length=mm:=by
   exact HJ
  have hfs:Fr (h++[ai.b [sl]]++[B]++gt).length (h++[ai.b [sl]]++[B]++g++[ai.b [AV.str x.1.name,.str x.1.gives,.str x.1.line,x.2]]++[ai.cells [AV.str x.1.name,.str x.1.gives,.str x.1.line,x.2] true true]) sl 4 ((L.take i).map aP):=by
   rw[h0l];exact((hfr B).app _).app _
  have hext:Ext (h++[ai.b [sl]]++[B]++gt) (h++[ai.b [sl]]++[B]++g++[ai.b [AV.str x.1.name,.str x.1.gives,.str x.1.line,x.2]]++[ai.cells [AV.str x.1.name,.str x.1.gives,.str x.1.line,x.2] true true]):=by
   refine⟨g.drop (mm-(h.length+2))++[ai.b [AV.str x.1.name,.str x.1.gives,.str x.1.line,x.2]]++[ai.cells [AV.str x.1.name,.str x.1.gives,.str x.1.line,x.2] true true],?_⟩
   conv=>lhs;rw[hgs]
   simp only[Uf]
  refine WR.gj (h0:=h++[ai.b [sl]]++[B]++gt) (cs:=(L.take i).map aP) (ys:=[aP x]) hfs (Fr.push (N:=0) (UK _) [aP x] (by simp[aP])).aM De Si (by simp only[Uv,U6,Ui,Ul];omega) hext ?_;intro g' hlg hff hkp;have hrow:(L.take i).map aP++[aP x]=(L.take (i+1)).map aP:=by rw[OK,Up];rfl
  rw[hrow]at hff;rw[hrow];obtain⟨sn,OS⟩:∃sn,sn=AV.slice (h++[ai.b [sl]]++[B]++g++[ai.b [AV.str x.1.name,.str x.1.gives,.str x.1.line,x.2]]++[ai.cells [AV.str x.1.name,.str x.1.gives,.str x.1.line,x.2] true true]).length 0 ((L.take (i+1)).map aP).length 4:=⟨_,rfl⟩;rw[<-OS]at hff ⊢;have osn:sn.one=true:=by rw[OS];rfl
  have st:bC 1 (.ptr h.length 0) sn (λz=>(h++[ai.b [sl]]++[B]++gt++g')[z]?)=some (au,.set h.length (.b [sn])):=by
   have:(h++[ai.b [sl]]++[B]++gt++g')[h.length]? =some (.b [sl]):=qk;rw[bp this];exact fC osn Si
  refine Rs (A3 t0 t1 @st) ?_;refine⟨h++[ai.b [sn]],gt++g',by simp only[Uf],Si,λy hy=>?_,sn,rfl,by simp only[Ud,Ui,Ul];omega,?_,Om,λR'=>?_⟩
  ·have Qa:y<gt.length:=by
    simp only[Ud,Ui,Ul]at hy;omega
   rw[Ug Qa]
   conv=>rhs;rw[hgs]
   rw[Ug Qa]
  ·exact HJ
  ·rw[<-h0l];refine hff.ay λb hb=>?_
   have hbb:=(hff.bL hb).1;rw[h0l]at hbb;rw[Uf _ gt];exact C1 Om
 ·by_cases OQ:e=.normal
  case neg=>rw[Ur OQ]at hI;exact hI.elim
  subst OQ;rw[Ut rfl]at hI;obtain⟨mm,sl,rfl,_,_,_,hfr⟩:=hI;rw[Uv,UU]at hfr;rw[Pa];have hf:=(hfr ai.dead).aM;have lb:∀{n a},aq n (.ptr h.length a) (λz=>(h++[ai.b [sl]]++[ai.dead]++g)[z]?)=dI n a (.b [sl]):=λ{_ _}=>az yL
  unfold MD fn213 gA;simp only[an.tl,an.hd];refine Rs (A3 t0 t1 @lb) ?_;exact hf
def r118{f:FuncId}{A:aj}(hA:bz P f=some A){a c:List AV}{L:List (jH×AV)}{pre:af->Prop}(hi:IterM P f a c (L.map λx=>[.agg (aP x)]) pre)(ho:∀x∈L,x.2.one=true)(hl:L.length<=2^30)(hp:pre h)(hpe:∀k,Ext h k->pre k):
  ak P 118 [.func (.func f) a c] h (λv k=>aB k v 4 (L.map aP)):=by
 refine .jP 5 T.mix T.c118 ?_;intro ts hlen t0;unfold fn118 gA;refine Rs t0 ?_;refine WF.res T.c213 (r213 T hA hi ho hl hp hpe) ?_;rintro v g1 h1;refine Rs t0 ?_;exact h1
def r51{L:List EV}{s:AV}(o:fB h L s)(sh:D8 L)(gl:Gl h)(n:By):ak P 51 [s,.str n] h (λv k=>∃s',v=.dt [s',.i (wQ (L.map EV.ev) n).2]/\aB k s' 1 ((wQ (L.map EV.ev) n).1.map al)):=by
 refine .eQ 22 T.mix T.c51 ?_;intro ts hlen t0 t1;unfold fn51 gA;refine Rs (A2 t0 t1) ?_;refine WF.res T.c73 (r73 T (o.ext Xx) sh (gl.ext Xx) (t:=3) De n) ?_;rintro _ g ⟨V,rfl,hV,oV,wV⟩;have st:∀{b':Nat}{a0 a1 a2 a3 a4 a5 a6:AV},jq 7 0 (.agg V.row) b' (.b [a0,a1,a2,a3,a4,a5,a6])=some (au,.set b' (.b V.row)):=λ{_ _ _ _ _ _ _ _}=>oV.st
 rw[wQ];by_cases h0:(je (L.map EV.ev) 3 n).2=0
 case neg=>
  have q:decide ((je (L.map EV.ev) 3 n).2≠0)=true:=Uk h0;rw[Ut h0];refine Rs (A4 t0 t1 @st q) ?_;exact⟨_,rfl,.nil⟩
 have q:decide ((je (L.map EV.ev) 3 n).2≠0)=false:=Uh (λz=>z h0);rw[Ur (λz=>z h0)];refine Rs (A5 t0 t1 @st q @bM) ?_;have hin:∀x∈V.aJ,x.1.bF.length<2^30:=λx hx=>by have:=(wV.md x.1 (UP hx)).2.1;omega
 have ov1:∀x∈ia V n,x.2.one=true:=λx hx=>oV.hX.2.1 x (VQ.1 hx).1
 have Q9:(ia V n).length<=2^30:=by
  have h1:(ia V n).length<=V.aJ.length:=by unfold ia;exact U7 _ _
  have:=wV.len.l3;omega
 refine WF.res T.c119 (r119 T (oV.ext Xx) n) ?_;rintro _ g1 ⟨rfl,hp⟩;refine Rs (A2 t0 t1) ?_;refine WF.res T.c118 (r118 T T.c214 (a:=[]) (pL T wV.len hin n _ _) ov1 Q9 hp (λk e=>oq.ext hp e)) ?_;rintro v2 g2 h2;refine Rs (A2 t0 t1) ?_;refine WF.res T.c117 (r117 T h2 ov1 Om (λx=>x.1.name) (λx hx k _=>aV.of (a:=[]) (c:=[]) T.c120 (r120 T x (ov1 x hx)))) ?_;rintro v3 g3 h3;refine Rs (A2 t0 t1) ?_;refine⟨_,rfl,?_⟩;have:=h3.aM;rw[<-hV,<-qN,Wl (g:=jH.name)];exact this
end
structure xY(N:Nat)(h:af)(out:AV)(x:EV):Prop where
 n:Fr N h x.sn 1 (x.ev.names.map al)
 v:Fr N h x.sv 1 (x.ev.ba.map aE)
 dn:∀j,sB x.sn=some j->sB out≠some j
 dv:∀j,sB x.sv=some j->sB out≠some j
def xY.ok{N h out x}(o:xY N h out x):aZ h x:=⟨o.n.aM,o.v.aM⟩
theorem xY.app{N h out x}(o:xY N h out x)(g:af):xY N (h++g) out x:=⟨o.n.app g,o.v.app g,o.dn,o.dv⟩
def nI(n:By)(e:fp):Bool:=
 match CN (p9 e)with
 |none=>false
 |some 3=>true
 |some i=>decide (bt e i=n)
def IG(l:List fp):List fp:=l.mapIdx λi e=>{e with num:=(i:Int)+1}
def k5(l:List fp)(n:By):List fp×Int:=
 if aO [(cO l).2.2,bB (decide ((cO l).2.2=0) && !fk (cO l).1.now 0 n) 10]≠0 then([],aO [(cO l).2.2,bB (decide ((cO l).2.2=0) && !fk (cO l).1.now 0 n) 10])
 else(IG ((cO l).1.ff.filter (nI n)),0)
section
variable {P:Program}(T:eF P) {h:af}
include T
def r87{L s}(hs:fB h L s)(hl:L.length<=2^30)(hle:∀x∈L,x.ev.names.length<=2^30/\x.ev.ba.length<=2^30):
  ak P 87 [s,.func (.func 91) [] []] h (λv h'=>∃L':List EV,L'.map EV.ev=L.map EV.ev/\Fr h.length h' v 5 (L'.map EV.row)/\∀x∈L',xY h.length h' v x):=by
 refine .eQ 22 T.mix T.c87 ?_;intro ts hlen t0 t1;unfold fn87;refine Rs (A3 t0 t1 hs.sl.aS) ?_;refine WL.inv T.mix (λn ts h'=>∃(k:Nat) (out:AV) (L':List EV) (g:af),k<=L.length/\n=L.length-k/\h' =h++g/\L'.map EV.ev=(L.take k).map EV.ev/\Fr h.length (h++g) out 5 (L'.map EV.row)/\(∀x∈L',xY h.length (h++g) out x)/\
   ts.length=22/\slot ts 1=.func (.func 91) [] []/\slot ts 5=out/\slot ts 8=s/\slot ts 9=.i L.length/\slot ts 10=.i k) L.length
  ⟨0,.ah,[],[],Om,rfl,Si,rfl,.nil,(λx hx=>by cases hx),Sn,(Sq t1),Sw,(Sq t0),Sw,iR⟩ ?_
 rintro _ ts _ ⟨k,out,L',g,hk,rfl,rfl,hm,hfr,hin,hlen,t1,t5,t8,t9,t10⟩;have R7:L'.length=k:=by have:=UM List.length hm;simp at this;omega
 by_cases hlt:k<L.length
 ·have e3:=gh hlt;have e5:=wrapN (n:=k) Om;have ix:=hs.sl.fx (kk:=.i64) hlt;have ld:∀{k'},Ext (h++g) k'->aq (some 5) (eO s 5 k) (λb=>k'[b]?)=some (.agg (EV.row L[k]),.ar):=λ{k'} e=>hs.sl.mY hlt (Ext.trans Xx e)
  obtain⟨x,hx⟩:∃x,x=L[k]:=⟨_,rfl⟩;have Ra:x∈L:=by rw[hx];exact UB _
  have OK:L.take (k+1)=L.take k++[x]:=by rw[hx,U9,Uj hlt];rfl
  rw[<-hx]at ld;have ox:=hs.all x Ra;have st:∀{b':Nat}{a0 a1 a2 a3 a4:AV},jq 5 0 (.agg x.row) b' (.b [a0,a1,a2,a3,a4])=some (au,.set b' (.b x.row)):=λ{_ _ _ _ _ _}=>ox.st
  refine Rs (uO t1 t5 t8 t9 t10 e3 ix @ld @st @bW) ?_;refine WF.res T.c91 (r91 T x (ox.ext Xx) ⟨by have:=(hle x Ra).1;omega,by have:=(hle x Ra).2;omega⟩) ?_;rintro _ g1 ⟨x',Oo,rfl,fn,fv⟩;have Rl:aZ (h++g++[ai.b x.row]++g1) x':=⟨by rw[Oo];exact fn.aM,by rw[Oo];exact fv.aM⟩;have bs:=@aZ.Df _ _ Rl;refine Rs (A6 t1 t5 t8 t9 t10 @bs) ?_;refine WR.gj (h0:=h) (cs:=L'.map EV.row) (ys:=[x'.row]) (((hfr.app _).app _).app _) (Fr.push (N:=0) (UK _) [x'.row] (by intro y hy;rw[Uw]at hy;rw[hy];rfl)).aM De Si (by simp only[Uv,Ui,Ul];omega) Xx ?_;intro g' OJ hff hkp;have hrow:L'.map EV.row++[x'.row]=(L'++[x']).map EV.row:=by rw[Up];rfl
  rw[hrow]at hff;rw[hrow];obtain⟨sn,OS⟩:∃sn,sn=AV.slice (h++g++[ai.b x.row]++g1++[ai.cells x'.row true true]).length 0 ((L'++[x']).map EV.row).length 5:=⟨_,rfl⟩;rw[<-OS]at hff ⊢;have PL:∀i,sB sn=some i->(h++g++[ai.b x.row]++g1).length+1=i:=λi hi=>by rw[OS]at hi;cases hi;simp;omega
  have hout:∀b,sB out=some b->b<(h++g).length:=λb hb=>(hfr.bL hb).2
  have kp:∀i,i<(h++g++[ai.b x.row]++g1).length->sB out≠some i->(h++g')[i]? =(h++g++[ai.b x.row]++g1)[i]? :=λi hi hne=>by
   rw[hkp i (by rw[Ud];omega) (λb0 o n e he zz=>hne (by rw[he,zz];rfl)),Ug hi]
  refine Rs (A6 t1 t5 t8 t9 t10 e5) ?_;refine⟨_,Om,k+1,sn,L'++[x'],g',Om,rfl,rfl,?_,hff,λy hy=>?_,rfl,rfl⟩
  ·rw[Up,hm,OK,Up];simp[Oo]
  ·rcases Um.1 hy with hy|hy
   ·have oy:=hin y hy;have ln:=λj (hj:sB y.sn=some j)=>(oy.n.bL hj).2
    have lv:=λj (hj:sB y.sv=some j)=>(oy.v.bL hj).2
    refine⟨((oy.n.app [ai.b x.row]).app g1).ay λj hj=>kp j (by have:=ln j hj;simp only[Ud]at this ⊢;omega) (oy.dn j hj),((oy.v.app [ai.b x.row]).app g1).ay λj hj=>kp j (by have:=lv j hj;simp only[Ud]at this ⊢;omega) (oy.dv j hj),λj hj e=>?_,λj hj e=>?_⟩
    ·have h1:=ln j hj;have h2:=PL j e;simp only[Ud]at h1 h2;omega
    ·have h1:=lv j hj;have h2:=PL j e;simp only[Ud]at h1 h2;omega
   ·rw[Uw]at hy;subst hy;have ln:=λj (hj:sB y.sn=some j)=>fn.bL hj
    have lv:=λj (hj:sB y.sv=some j)=>fv.bL hj
    have en:(h++g++[ai.b x.row]).length=(h++g).length+1:=by rw[Ud];rfl
    rw[<-Oo]at fn fv;exact z12
 ·have e3:=gG hlt;have e4:k=L.length:=Om
  refine Rs (A6 t1 t5 t8 t9 t10 e3) ?_;rw[e4,UU]at hm;exact⟨L',hm,hfr,hin⟩
def r240{x}(ox:aZ h x){b i:Nat}(hb:h[b]? =some (.b [.i (i:Int)]))(hi:i<x.ev.names.length)(n:By):ak P 240 [.agg x.row,.str n,.ptr b 0] h (λv _=>v=.bool (decide (bt x.ev i=n))):=by
 refine .uP 13 T.mix T.c240 ?_;intro ts hlen t0 t1 t2;unfold fn240 gA;have Oj:=@aZ.box _ _ ox;have lb:∀{k:af}{n':Option Nat}{a:Nat},Ext h k->aq n' (.ptr b a) (λz=>k[z]?)=dI n' a (.b [.i (i:Int)]):=λe=>az (e.some hb)
 have ix:=ox.n.fx (kk:=.i64) hi;have ev:bt x.ev i=x.ev.names[i]:=by rw[bt,UQ,Uj hi];rfl
 have ld:∀{k':af},Ext h k'->aq none (eO x.sn 1 i) (λb=>k'[b]?)=some (.str (bt x.ev i),.ar):=λ{k'} e=>by
  rw[ev];exact ox.n.kK hi rfl e
 exact Rs (A8 t0 t1 t2 @Oj @lb @bD ix @ld) Tv
def r153{x}(ox:aZ h x)(n:By):ak P 153 [.agg x.row,.str n] h (λv _=>v=.bool true):=by
 refine .eQ 5 T.mix T.c153 ?_;intro ts hlen t0 t1;unfold fn153 gA;have Oj:=@aZ.box _ _ ox;exact Rs (A3 t0 t1 @Oj) Tv
def r89{x d}(ox:aZ h x)(wx:uT x.ev d){b n}(hb:h[b]? =some (.b [.str n])):ak P 89 [.agg x.row,.ptr b 0] h (λv _=>v=.bool (nI n x.ev)):=by
 refine .eQ 18 T.mix T.c89 ?_;intro ts hlen t0 t1;unfold fn89 gA;have Oj:=@aZ.box _ _ ox;have lb:∀{k:af}{n':Option Nat}{a:Nat},Ext h k->aq n' (.ptr b a) (λz=>k[z]?)=dI n' a (.b [.str n]):=λe=>az (e.some hb)
 refine Rs (A3 t0 t1 @Oj) ?_;refine WF.res T.c90 (r90 T) ?_;rintro _ g2 ⟨vf,rfl,hk⟩;have lk:∀{z:AV},gk .s z false (.map (h++[ai.b x.row]).length) (.str x.ev.kind) (λb=>(h++[ai.b x.row]++g2)[b]?)=jY z false ((eC x.ev.kind).map vf):=hk.look;rw[wx.kd]at lk;have OU:∀{z:AV},_=some (vf d,gL.ar):=@lk;obtain⟨rs,a,hv,hr,ha,hab⟩:=(hk.k d).ex;rw[hv]at OU;unfold nI;rw[wx.p9];unfold wk at hab;have Q9:=wx.nl;cases P1:CN d with
 |none=>
  rw[P1]at hab;have hab:a=.nilFunc:=hab;subst hab;have en:sa true (nw .ow .nilFunc .nilFunc)=some (.bool false):=rfl;exact Rs (A6 t0 t1 @fH @bA @OU @en) Tv
 |some i=>
  rw[P1]at hab;by_cases h3:i=3
  ·subst h3;have hab:a=.func (.func 153) [] []:=hab;subst hab;have en:∀{A C:List AV},sa true (nw .ow (.func (.func 153) A C) .nilFunc)=some (.bool true):=rfl;refine Rs (A8 t0 t1 @fH @bA @OU @en @bW @lb) ?_;refine WF.ce T.c153 (r153 T (ox.ext Xx) n) λg3=>?_
   exact Rs t0 Tv
  ·obtain⟨b3,rfl,hb3⟩:∃b',a=.func (.func 240) [] [.ptr b' 0]/\(h++[ai.b x.row]++g2)[b']? =some (.b [.i (i:Int)]):=by
    split at hab
    ·rename_i hz;cases hz
    ·rename_i hz;cases hz;exact absurd rfl h3
    ·rename_i hz;cases hz;exact hab
   have hil:i<x.ev.names.length:=by
    rw[Q9];cases d<;>simp[CN]at P1<;>first|(subst P1;decide)|exact absurd P1.symm h3
   have en:∀{A C:List AV},sa true (nw .ow (.func (.func 240) A C) .nilFunc)=some (.bool true):=rfl;refine Rs (A8 t0 t1 @fH @bA @OU @en @bW @lb) ?_;refine WF.ce T.c240 (a:=[]) (c:=[.ptr b3 0]) (r240 T (ox.ext Xx) (Ext.some Xx hb3) hil n) λg3=>?_
   exact Rs t0 Tv
def r26{L s}(o:fB h L s)(sh:D8 L)(gl:Gl h)(n:By):ak P 26 [s,.str n] h (λv k=>∃s' L',v=.dt [s',.i (k5 (L.map EV.ev) n).2]/\fB k L' s'/\L'.map EV.ev=(k5 (L.map EV.ev) n).1):=by
 refine .eQ 54 T.mix T.c26 ?_;intro ts hlen t0 t1;unfold fn26 gA;refine Rs (A2 t0 t1) ?_;refine WF.res T.c78 (r78 T (o.ext Xx) sh (gl.ext Xx)) ?_;intro v g hv;obtain⟨p,hvp⟩:∃p,v=.dt [p,.i (cO (L.map EV.ev)).2.1,.i (cO (L.map EV.ev)).2.2]:=by obtain⟨p,h1,_⟩:=hv;exact⟨p,h1⟩
 rw[hvp];by_cases he:(cO (L.map EV.ev)).2.2=0
 case neg=>
  have q:decide ((cO (L.map EV.ev)).2.2=0)=false:=Uh he;refine Rs (A3 t0 t1 q) ?_;refine WF.ce T.c85 (r85 T _ _) λg1=>?_
  refine Rs (A2 t0 t1) ?_;refine WF.ce T.c74 (r74 T (bN [_,_]) Si) λg2=>?_
  have e1:aO [(cO (L.map EV.ev)).2.2,bB false 10]=(cO (L.map EV.ev)).2.2:=by rw[aO,Ur he]
  have q2:decide ((cO (L.map EV.ev)).2.2≠0)=true:=Uk he;rw[e1];refine Rs (A3 t0 t1 q2) ?_;have e2:k5 (L.map EV.ev) n=([],(cO (L.map EV.ev)).2.2):=by
   rw[k5,q,We,e1,Ut he]
  rw[e2];exact z168
 obtain⟨b,V,hvb,oV,hV,wV,T2,hle,hr,hz,wn,hn,on,lo⟩:=zT T hv he;rw[hvp]at hvb;have hpb:p=.ptr b 0:=by injection hvb with h1;injection h1
 rw[hpb];have q:decide ((cO (L.map EV.ev)).2.2=0)=true:=Uk he;refine Rs (A3 t0 t1 q) ?_;refine WF.ce T.c79 (r79 T (oV.rd.ext Xx) hr) λg1=>?_
 refine Rs (A3 t0 t1 @bM) ?_;refine WF.ce T.c86 (r86 T (on.ext Xx) wn.len (t:=0) De _) λg2=>?_
 refine Rs (A2 t0 t1) ?_;refine WF.ce T.c85 (r85 T _ _) λg3=>?_
 refine Rs (A2 t0 t1) ?_;refine WF.ce T.c74 (r74 T (bN [_,_]) Si) λg4=>?_
 rw[hn];rw[k5,q,VS];obtain⟨f,hf⟩:∃f,f=aO [(cO (L.map EV.ev)).2.2,bB (!fk (cO (L.map EV.ev)).1.now 0 n) 10]:=⟨_,rfl⟩;rw[<-hf];by_cases h0:f=0
 case neg=>
  have q:decide (f≠0)=true:=Uk h0;rw[Ut h0];refine Rs (A3 t0 t1 q) ?_;exact z168
 have q2:decide (f≠0)=false:=Uh (λz=>z h0);rw[Ur (λz=>z h0)];obtain⟨Hs,T9⟩:∃Hs,Hs=h++[ai.b [AV.str n]]++g++g1++g2++g3++[ai.cells [AV.i (cO (L.map EV.ev)).2.2,.i (bB (!fk (cO (L.map EV.ev)).1.now 0 n) 10)] true true]++g4:=⟨_,rfl⟩;have oH:xX Hs b V:=by rw[T9];exact oV.rd.ext Xx
 have mn:Hs[h.length]? =some (.b [.str n]):=by rw[T9];exact(show Ext (h++[ai.b [AV.str n]]) _ from Xx).some bO
 rw[<-T9];have hb:=oH.hb;have lb:=@jg _ _ _ hb;have hcl:V.ff.length<=1000:=by
  have e1:=wV.le;have e2:V.bE.ff.length=V.ff.length:=by simp[HV.bE]
  have e3:V.bE.cS.length=V.cS.length:=by simp[HV.bE]
  have e4:(L.map EV.ev).length<=1000:=hle;omega
 have wc:∀x∈V.ff,∃d,uT x.ev d:=λx hx=>wV.cn x.ev (UP hx)
 have oone:∀x∈V.ff,x.sn.one=true/\x.sv.one=true:=λx hx=>⟨(oH.ac x hx).n.one,(oH.ac x hx).v.one⟩
 refine Rs (A4 t0 t1 q2 @lb) ?_;refine WF.res T.c88 (r88 T oH.ic oone Om (λx=>nI n x.ev) (λx hx k e=>by
  obtain⟨d,wx⟩:=wc x hx;exact aV.of (a:=[]) T.c89 (r89 T ((oH.ac x hx).ext e) wx (e.some mn)))) ?_
 rintro s5 g5 h5;refine Rs (A2 t0 t1) ?_;obtain⟨F,hF⟩:∃F,F=V.ff.filter λx=>nI n x.ev:=⟨_,rfl⟩
 rw[<-hF]at h5;have hFm:∀x∈F,x∈V.ff:=λx hx=>by rw[hF]at hx;exact(VQ.1 hx).1
 have hFl:F.length<=1000:=by have:F.length<=V.ff.length:=by(rw[hF];exact U7 _ _)
                             omega
 have oF:fB (Hs++g5) F s5:=⟨h5.aM,λx hx=>(oH.ac x (hFm x hx)).ext Xx⟩;refine WF.res T.c87 (r87 T oF Om (λx hx=>by
  obtain⟨d,wx⟩:=wc x (hFm x hx);have h1:=wx.nl;have h2:=wx.vl;have h3:(aC d).length<=3/\a8 d<=3:=by cases d<;>decide
  omega)) ?_
 rintro s6 g6 ⟨L6,hL6,f6,i6⟩;obtain⟨Hb,hHb⟩:∃Hb,Hb=Hs++g5:=⟨_,rfl⟩;rw[<-hHb]at f6 i6 ⊢;have hl6:L6.length=F.length:=by have:=UM List.length hL6;simpa using this
 refine Rs (A3 t0 t1 f6.aM.aS) ?_;refine WL.inv T.mix (λm ts h'=>∃(k:Nat) (g':af) (L':List EV),k<=L6.length/\m=L6.length-k/\h' =Hb++g'/\L'.length=L6.length/\(∀i (h1:i<L'.length) (h2:i<L6.length),(L'[i]).ev=if i<k then { (L6[i]).ev with num:=(i:Int)+1} else(L6[i]).ev)/\Fr Hb.length (Hb++g') s6 5 (L'.map EV.row)/\(∀x∈L',xY Hb.length (Hb++g') s6 x)/\
   ts.length=54/\slot ts 10=s6/\slot ts 41=s6/\slot ts 42=.i L6.length/\slot ts 43=.i k) L6.length
  ⟨0,g6,L6,Om,rfl,rfl,rfl,λi _ _=>by rw[Ur Om],f6,i6,Sn,Sw,Sw,Sw,iR⟩ ?_
 clear t0 t1 hlen lb;clear ts;rintro _ ts _ ⟨k,g',L',hk,rfl,rfl,hlL,hev,hfr,hin,hlen,t10,t41,t42,t43⟩;by_cases hlt:k<L6.length
 ·have e3:=gh hlt;have e5:=wrapN (n:=k) Om;have O3:k<L'.length:=Om
  have ix:=hfr.aM.fx (kk:=.i64) O3;refine Rs (A7 t10 t41 t42 t43 e3 e5 ix) ?_;obtain⟨x,hx⟩:∃x,x=L'[k]:=⟨_,rfl⟩;have PI:x∈L':=by rw[hx];exact UB _
  refine WR.tu (h0:=Hb) (x':={x with ev:={x.ev with num:=((k+1:Nat):Int) } }) hfr O3 De rfl (by rw[<-hx];rfl) ?_;intro g2 hlg hff hkp;have kp:∀j,sB s6≠some j->(Hb++g2)[j]? =(Hb++g')[j]? :=λj hj=>hkp j λb0 o n e he zz=>hj (by rw[he,zz];rfl)
  have SI:∀y:EV,xY Hb.length (Hb++g') s6 y->xY Hb.length (Hb++g2) s6 y:=λy oy=>⟨oy.n.ay λj hj=>kp j (oy.dn j hj),oy.v.ay λj hj=>kp j (oy.dv j hj),oy.dn,oy.dv⟩
  refine Rs (A5 t10 t41 t42 t43 e5) ?_;refine⟨_,Om,k+1,g2,L'.set k {x with ev:={x.ev with num:=((k+1:Nat):Int) } },Om,rfl,rfl,by rw[VA];exact hlL,λi h1 h2=>?_,hff,λy hy=>?_,rfl⟩
  ·by_cases QZ:i=k
   ·subst QZ;simp only[WD];rw[Ut Om];have:=hev i O3 h2;rw[Ur Om]at this;rw[hx,this];rfl
   ·simp only[WY (Wy QZ)];rw[hev i (by simpa using h1) h2];exact H8
  ·rcases Wg hy with hy|hy
   ·exact SI y (hin y hy)
   ·rw[hy];have:=SI x (hin x PI);exact⟨this.n,this.v,this.dn,this.dv⟩
 ·have e3:=gG hlt;have e4:k=L6.length:=Om
  refine Rs (A5 t10 t41 t42 t43 e3) ?_;refine⟨by rw[hHb,T9];exact Xx,s6,L',rfl,⟨hfr.aM,λx hx=>(hin x hx).ok⟩,?_⟩;have e6:(cO (L.map EV.ev)).1.ff.filter (nI n)=L6.map EV.ev:=by
   rw[hL6,hF,<-hV];show List.filter _ (V.ff.map EV.ev)=_;rw[WA];rfl
  rw[e6,IG];refine List.ext_getElem (by simp[hlL]) λi h1 h2=>?_
  have h1':i<L'.length:=by simpa using h1
  rw[Vz,hev i h1' Om,Ut Om,List.getElem_mapIdx,Vz]
end
end Go.Abs
