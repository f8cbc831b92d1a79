/- A part of the proof that HouseGraphs holds. No condition. -/
import Derived.Test.YtgplmdgpmbegiaaGreatDoorGa6
import Derived.Test.YtgplmdgpmbegiaaGreatDoorGa0
set_option maxHeartbeats 4000000
set_option linter.all false
open Nat (reduceAdd reduceMul reduceLeDiff reduceEqDiff)
namespace Go.Abs
theorem bt.row{h x}(o:bt h x):x.row.all AV.one=true:=by
 simp only[EV.row,CR,CQ,BU,FV,o.n.one,o.v.one,Bool.and_self]
def bt.box{h x}(o:bt h x){N}:oz (.agg x.row) N=some (.ptr N 0,.push (.b x.row)):=by
 have:(AV.agg x.row).cells=x.row:=rfl;simp only[oz,this,o.row,Yf]
def nj{x:EV}:x.row[0]? =some (.i x.ev.num):=rfl
def bB{x:EV}:x.row[1]? =some (.str x.ev.kind):=rfl
def aN{x:EV}:x.row[2]? =some x.sn:=rfl
def aY{x:EV}:x.row[3]? =some x.sv:=rfl
def xW{x:EV}:x.row[4]? =some (.str x.ev.text):=rfl
def cA{x:EV}{mu tl:Bool}:dJ (some 5) 0 (.cells x.row mu tl)=some (.agg x.row,.au):=rfl
def ml(d:Kd):(jY d).one=true:=by cases d<;>rfl
def lI(d:Kd):(pt d).one=true:=by cases d<;>rfl
def xV{l:List (By)}:bj (l.map λs=>bZ (!ed s) 8)=if l.any (λs=>!ed s)then 8 else 0:=by
 induction l with
 |nil=>rfl
 |cons a l ih=>
  rw[YR,bj,ih,aai,bZ];cases h:ed a<;>simp
def qb{l:List Int}:bj (l.map λn=>bE n 0 999999999)=if l.any (λn=>decide (bE n 0 999999999≠0))then 3 else 0:=by
 induction l with
 |nil=>rfl
 |cons a l ih=>
  rw[YR,bj,ih,aai];by_cases h:bE a 0 999999999=0
  ·simp[h]
  ·have h3:bE a 0 999999999=3:=by unfold bE at h ⊢;split<;>simp_all
   simp[h3]
def yD{n lo hi}(h:bE n lo hi≠0):bE n lo hi=3:=by unfold bE at h ⊢;split<;>simp_all
set_option maxRecDepth 10000
attribute [local irreducible] WP WC WE WB WR WF WL WG gg
section
variable {P:Program}(T:fI P) {h:ah}
include T
def r131(s:By):ay P 131 [.str s] h (λv _=>v=.i (bZ (!ed s) 8)):=by
 refine .of T.mix T.c131 ?_;unfold fn131;refine Wn ?_;refine WF.ce T.c132 (r132 T s) λg1=>?_
 refine Wn ?_;refine WF.ce T.c85 (r85 T _ _) λg2=>?_
 exact Wn Tv
def r133(n:Int):ay P 133 [.i n] h (λv _=>v=.i (bE n 0 999999999)):=by
 refine .of T.mix T.c133 ?_;unfold fn133 zq;refine Wn ?_;refine WF.ce T.c94 (r94 T _ _ _) λg1=>?_
 exact Wn Tv
def r67{x:EV}(o:bt h x)(hl:x.ev.names.length<=2^40/\x.ev.cE.length<=2^40):ay P 67 [.agg x.row] h (λv _=>v=.i (gV x.ev)):=by
 refine .kV 53 T.mix T.c67 ?_;intro ts hlen t0;unfold fn67;have QO:=@bt.box _ _ o;refine Rs (A3 t0 @QO @nj) ?_;refine WF.ce T.c94 (r94 T _ _ _) λg1=>?_
 by_cases h0:bE x.ev.num 1 1000=0
 case neg=>
  have e0:decide (bE x.ev.num 1 1000≠0)=true:=XZ h0;refine Rs (A2 t0 e0) ?_;rw[gV,X9 h0];exact Yx (AV.int .i64) (yD h0)
 have e0:decide (bE x.ev.num 1 1000≠0)=false:=XU (λz=>z h0);refine Rs (A2 t0 e0) ?_;refine WF.res T.c90 (r90 T) ?_;rintro _ g2 ⟨vf,rfl,hk⟩;have lk:∀{z:AV},iA .s z true (.map (h++[ak.b x.row]++g1).length) (.str x.ev.kind) (λb=>(h++[ak.b x.row]++g1++g2)[b]?)=lG z true ((gT x.ev.kind).map vf):=hk.look;cases hd:gT x.ev.kind with
 |none=>
  rw[hd]at lk;have Rp:∀{z:AV},_=some (AV.dN [z,.bool false],iH.au):=@lk;refine Rs (A6 t0 @bB @bX @Rp @iF @Yr) ?_;rw[gV,X5 (by simpa using h0),hd]
 |some d=>
  rw[hd]at lk;have Rp:∀{z:AV},_=some (AV.dN [vf d,.bool true],iH.au):=@lk;obtain⟨rs,a,hv,hr,ha,hab⟩:=(hk.k d).ex;rw[hv]at Rp;have hlr:=hr.aM;have c1:=ml d;have c2:=lI d;have c3:=hr.one;refine Rs (AH t0 @bB @aN @aY @bX @Rp @Yk @c1 @c2 @c3 @ha @hlr o.n.aM o.v.aM) ?_;have esh:gV x.ev=if x.ev.names.length≠(bM d).length\/x.ev.cE.length≠cF d then 2 else bj [bj (x.ev.names.map λs=>bZ (!ed s) 8),bj (x.ev.cE.map λn=>bE n 0 999999999),bZ (decide (x.ev.text≠[])) 1]:=by
   rw[gV,X5 (by simpa using h0),hd,xV,qb];simp only;split
   ·rfl
   cases x.ev.names.any (λs=>!ed s)with
   |true=>rfl
   |false=>
    cases x.ev.cE.any (λn=>decide (bE n 0 999999999≠0))with
    |true=>rfl
    |false=>by_cases ht:x.ev.text=[]<;>simp[bj,bZ,ht]
  rw[esh];by_cases h1:x.ev.names.length=(bM d).length/\x.ev.cE.length=cF d
  case neg=>
   have e1:(!(decide ((x.ev.names.length:Int)=((bM d).length:Int))&&(decide ((x.ev.cE.length:Int)=(cF d:Int))&&true)))=true:=by
    by_cases q1:x.ev.names.length=(bM d).length
    ·have q2:¬x.ev.cE.length=cF d:=λz=>h1 ⟨q1,z⟩
     have q3:¬(x.ev.cE.length:Int)=(cF d:Int):=Om
     simp[q3]
    ·have q3:¬(x.ev.names.length:Int)=((bM d).length:Int):=Om
     simp[q3]
   rw[e1,X9 Om];exact Rs t0 Tv
  have e1:(!(decide ((x.ev.names.length:Int)=((bM d).length:Int))&&(decide ((x.ev.cE.length:Int)=(cF d:Int))&&true)))=false:=by
   rw[h1.1,h1.2];simp
  rw[e1,X5 Om];refine Rs (A3 t0 @aN @aY) ?_;refine WF.res T.c130 (r130 T (o.n.ext Xx) hl.1 (λs=>bZ (!ed s) 8) (λs _ k _=>bF.of (a:=[]) (c:=[]) T.c131 (r131 T s))) ?_;rintro s6 g6 hf6;refine Rs (A3 t0 @aN @aY) ?_;refine WF.res T.c92 (r92 T (o.v.ext Xx) hl.2 (λn=>bE n 0 999999999) (λn _ k _=>bF.of (a:=[]) (c:=[]) T.c133 (r133 T n))) ?_;rintro s7 g7 hf7;refine Rs (A3 t0 @aN @aY) ?_;refine WF.ce T.c74 (r74 T (hf6.a8.ext Xx) (by simp;omega)) λg8=>?_
  refine Rs t0 ?_;refine WF.ce T.c74 (r74 T (hf7.a8.ext Xx) (by simp;omega)) λg9=>?_
  refine Rs (A2 t0 @xW) ?_;refine WF.ce T.c85 (r85 T _ _) λg10=>?_
  refine Rs t0 ?_;refine WF.ce T.c74 (r74 T (cg [_,_,_]) Si) λg11=>?_
  refine Rs t0 ?_;exact⟨Xx,trivial⟩
end
def Qf:List AV:=[.str dS,.str dS,.str dS,.str mq,.str mq,.str n8,.str n8,.str n8]
def Gl(h:ah):Prop:=∃mu tl,h[0]? =some (.cells Qf mu tl)
def Gl.ext{h k}(o:Gl h)(e:Ext h k):Gl k:=by obtain⟨mu,tl,h1⟩:=o;exact⟨mu,tl,e.some h1⟩
structure Cx(h:ah)(V:RV)(x:EV)(d:Kd):Prop where
 o:aC h V
 w:fk V.an
 e:bt h x
 we:kT x.ev d
 nk:sI V.an x.ev d
def Cx.nm{h V x d}(c:Cx h V x d){i:Nat}(hi:i<(bM d).length):aX 1 x.sn (.i (i:Int))=some (cW x.sn 1 i,.au)/\∀{k},Ext h k->ar none (cW x.sn 1 i) (λb=>k[b]?)=some (.str (aP x.ev i),.au):=by
 have hi':i<x.ev.names.length:=by rw[c.we.nl];exact hi
 refine⟨c.e.n.dM hi',λ{k} e=>?_⟩;have:aP x.ev i=x.ev.names[i]:=by rw[aP,YC,XY hi'];rfl
 rw[this];exact c.e.n.kS hi' rfl e
theorem Cx.vl{h V x d}(c:Cx h V x d){i:Nat}(hi:i<cF d):aX 1 x.sv (.i (i:Int))=some (cW x.sv 1 i,.au)/\(∀{k},Ext h k->ar none (cW x.sv 1 i) (λb=>k[b]?)=some (.i (bH x.ev i),.au))/\0<=bH x.ev i/\bH x.ev i<=999999999:=by
 have hi':i<x.ev.cE.length:=by rw[c.we.vl];exact hi
 have:bH x.ev i=x.ev.cE[i]:=by rw[bH,YC,XY hi'];rfl
 refine⟨c.e.v.dM hi',λ{k} e=>?_,c.we.vr _ (qu hi')⟩;rw[this];exact c.e.v.kS hi' rfl e
theorem Cx.ext{h k V x d}(c:Cx h V x d)(e:Ext h k):Cx k V x d:=⟨c.o.ext e,c.w,c.e.ext e,c.we,c.nk⟩
def dQ{c e l}(he:e≠0):bj (bZ c e::l)=if c=true then e else bj l:=by
 cases c<;>simp[bj,bZ,he]
def ui{a b c l}:bj (bE a b c::l)=if bE a b c≠0 then 3 else bj l:=by
 by_cases h:bE a b c=0
 ·simp[bj,h]
 ·simp[bj,h,yD h]
section
variable {P:Program}(T:fI P) {h:ah}
include T
def r148{V x}(c:Cx h V x .line):ay P 148 [.agg V.row,.agg x.row] h (λv _=>v=.i (bC V.an x.ev .line)):=by
 refine .eG 17 T.mix T.c148 ?_;intro ts hlen t0 t1;unfold fn148;have QO:=@aC.box _ _ c.o;have hex:=@bt.box _ _ c.e;have i1:aX 1 x.sv (.i 1)=_:=(c.vl (i:=1) De).1;have d1:=@(c.vl (i:=1) De).2.1;refine Rs (A7 t0 t1 @QO @hex @aY @i1 @d1) ?_;refine WF.ce T.c94 (r94 T _ _ _) λg1=>?_
 refine Rs (A4 t0 t1 @gk c.o.i0.aM) ?_;refine WF.ce T.c85 (r85 T _ _) λg2=>?_
 refine Rs (A2 t0 t1) ?_;refine WF.ce T.c74 (r74 T (cg [_,_]) Si) λg3=>?_
 refine Rs (A2 t0 t1) ?_;rw[ui,dQ De,bC];congr 2;simp only[YG,bj];congr 1;exact propext ⟨λz=>(by have:V.an.lines.length=V.lines.length:=rfl;omega),λz=>(by have:V.an.lines.length=V.lines.length:=rfl;omega)⟩
def r151{V x}(c:Cx h V x .tape):ay P 151 [.agg V.row,.agg x.row] h (λv _=>v=.i (bC V.an x.ev .tape)):=by
 refine .eG 23 T.mix T.c151 ?_;intro ts hlen t0 t1;unfold fn151;have QO:=@aC.box _ _ c.o;have hex:=@bt.box _ _ c.e;have i0:aX 1 x.sv (.i 0)=_:=(c.vl (i:=0) De).1;have d0:=@(c.vl (i:=0) De).2.1;have i1:aX 1 x.sv (.i 1)=_:=(c.vl (i:=1) De).1;have d1:=@(c.vl (i:=1) De).2.1;have q0:=(c.vl (i:=0) De).2.2;have q1:=(c.vl (i:=1) De).2.2;have hw:IntKind.i64.wrap (bH x.ev 0+bH x.ev 1)=bH x.ev 0+bH x.ev 1:=bw Om Om;refine Rs (o8 t0 t1 @QO @hex @aY @i0 @d0 @i1 @d1 @hw) ?_;refine WF.ce T.c85 (r85 T _ _) λg1=>?_
 refine Rs (A4 t0 t1 @lA c.o.i1.aM) ?_;refine WF.ce T.c85 (r85 T _ _) λg2=>?_
 refine Rs (A2 t0 t1) ?_;refine WF.ce T.c74 (r74 T (cg [_,_]) Si) λg3=>?_
 refine Rs (A2 t0 t1) ?_;rw[dQ De,dQ De,bC];congr 1;simp only[YG,bj];have e:((16:Int)<=(V.aJ.length:Int))=(16<=V.an.aJ.length):=propext ⟨λz=>(by have:V.an.aJ.length=V.aJ.length:=rfl;omega),λz=>(by have:V.an.aJ.length=V.aJ.length:=rfl;omega)⟩;simp only[e]
def r241{V x n d}(c:Cx h V x d)(hd:0<cF d)(hn:n∈jK V.an):ay P 241 [.agg V.row,.agg x.row,.str n] h (λv _=>v=.i (bZ (!jA V.an (bH x.ev 0) n) 30)):=by
 refine .nL 17 T.mix T.c241 ?_;intro ts hlen t0 t1 t2;unfold fn241;have QO:=@aC.box _ _ c.o;have hex:=@bt.box _ _ c.e;have i0:aX 1 x.sv (.i 0)=_:=(c.vl (i:=0) hd).1;have d0:=@(c.vl (i:=0) hd).2.1;refine Rs (A6 t0 t1 t2 @QO @hex @aE) ?_;refine WF.ce T.c134 (r134 T (c.o.ext Xx) c.w.len hn) λg1=>?_
 refine Rs (A6 t0 t1 t2 @aY @i0 @d0) ?_;refine WF.ce T.c135 (r135 T _ _) λg2=>?_
 refine Rs (A3 t0 t1 t2) ?_;refine WF.ce T.c85 (r85 T _ _) λg3=>?_
 refine Rs (A3 t0 t1 t2) ?_;rfl
def r155{V x}(c:Cx h V x .gA):ay P 155 [.agg V.row,.agg x.row] h (λv _=>v=.i (bC V.an x.ev .gA)):=by
 refine .eG 27 T.mix T.c155 ?_;intro ts hlen t0 t1;unfold fn155;have QO:=@aC.box _ _ c.o;have hex:=@bt.box _ _ c.e;have i1:aX 1 x.sn (.i 1)=_:=(c.nm (i:=1) De).1;have d1:=@(c.nm (i:=1) De).2;have i2:aX 1 x.sn (.i 2)=_:=(c.nm (i:=2) De).1;have d2:=@(c.nm (i:=2) De).2;have k1:aP x.ev 1∈gP V.an:=c.nk.kn 1 0 rfl;have k2:aP x.ev 2∈jK V.an:=c.nk.kn 2 1 rfl;refine Rs (A8 t0 t1 @QO @hex @aE @aN @i1 @d1) ?_;refine WF.ce T.c205 (r205 T (c.o.ext Xx) c.w.len k1) λg1=>?_
 unfold cB;refine Rs (A2 t0 t1) ?_;refine WF.ce T.c85 (r85 T _ _) λg2=>?_
 refine Rs (A7 t0 t1 @aE @cA @aN @i2 @d2) ?_;refine WF.ce T.c241 (r241 T (c.ext Xx) De k2) λg3=>?_
 refine Rs (A4 t0 t1 @fK c.o.i2.aM) ?_;refine WF.ce T.c85 (r85 T _ _) λg4=>?_
 refine Rs (A2 t0 t1) ?_;refine WF.ce T.c74 (r74 T (cg [_,_,_]) Si) λg5=>?_
 refine Rs (A2 t0 t1) ?_;rw[dQ De,dQ De,dQ De,bC];simp only[YG,bj];have e:((64:Int)<=(V.aj.length:Int))=(64<=V.an.aj.length):=by
  have:V.an.aj.length=V.aj.length:=by simp[RV.an]
  exact z127
 simp only[e]
end
def Be{R a b}(ha:a∈jK R)(hb:b∈jK R):(decide ((jz R a).name=(jz R b).name)&&(decide ((jz R a).last=(jz R b).last)&&true))=decide (a=b):=by
 have e1:(jz R a).name=a:=iu ha;have e2:(jz R b).name=b:=iu hb;by_cases h:a=b
 ·subst h;simp
 ·rw[e1,e2];simp[h]
section
variable {P:Program}(T:fI P) {h:ah}
include T
def r157{V x}(c:Cx h V x .copy):ay P 157 [.agg V.row,.agg x.row] h (λv _=>v=.i (bC V.an x.ev .copy)):=by
 refine .eG 35 T.mix T.c157 ?_;intro ts hlen t0 t1;unfold fn157;have QO:=@aC.box _ _ c.o;have hex:=@bt.box _ _ c.e;have i0:aX 1 x.sn (.i 0)=_:=(c.nm (i:=0) De).1;have d0:=@(c.nm (i:=0) De).2;have i1:aX 1 x.sn (.i 1)=_:=(c.nm (i:=1) De).1;have d1:=@(c.nm (i:=1) De).2;have k0:aP x.ev 0∈jK V.an:=c.nk.kn 0 1 rfl;have k1:aP x.ev 1∈jK V.an:=c.nk.kn 1 1 rfl;refine Rs (A8 t0 t1 @QO @hex @aE @aN @i0 @d0) ?_;refine WF.ce T.c134 (r134 T (c.o.ext Xx) c.w.len k0) λg1=>?_
 refine Rs (A6 t0 t1 @aE @aN @i1 @d1) ?_;refine WF.ce T.c134 (r134 T (c.o.ext Xx) c.w.len k1) λg2=>?_
 unfold dV;refine Rs (A2 t0 t1) ?_;refine WF.ce T.c85 (r85 T _ _) λg3=>?_
 rw[Be k0 k1];have n0:(jz V.an (aP x.ev 0)).name=aP x.ev 0:=iu k0;have n1:(jz V.an (aP x.ev 1)).name=aP x.ev 1:=iu k1;refine Rs (A6 t0 t1 @aE @cA @n0 @n1) ?_;refine WF.ce T.c241 (r241 T (c.ext Xx) De k0) λg4=>?_
 refine Rs (A6 t0 t1 @aE @cA @n0 @n1) ?_;refine WF.ce T.c241 (r241 T (c.ext Xx) De k1) λg5=>?_
 refine Rs (A2 t0 t1) ?_;refine WF.ce T.c74 (r74 T (cg [_,_,_]) Si) λg6=>?_
 refine Rs (A2 t0 t1) ?_;rw[dQ De,dQ De,dQ De,bC];simp only[YG,bj];exact⟨Xx,trivial⟩
def r161{V x}(o:aC h V)(e:bt h x):ay P 161 [.agg V.row,.agg x.row] h (λv _=>v=.i (bZ (decide (32<=V.an.aD.length)) 5)):=by
 refine .eG 10 T.mix T.c161 ?_;intro ts hlen t0 t1;unfold fn161;have QO:=@aC.box _ _ o;have hex:=@bt.box _ _ e;refine Rs (A6 t0 t1 @QO @hex @fS o.i3.aM) ?_;refine WF.ce T.c85 (r85 T _ _) λg1=>?_
 refine Rs (A2 t0 t1) ?_;have e:decide ((32:Int)<=(V.aD.length:Int))=decide (32<=V.an.aD.length):=by
  have:V.an.aD.length=V.aD.length:=by simp[RV.an]
  rw[ZJ];omega
 rw[e]
def r244{V x d}(c:Cx h V x d)(hd:0<cF d){y}(hm:y∈V.aj){b b'}(hb:h[b]? =some (.b V.row))(hb':h[b']? =some (.b x.row)):
  ay P 244 [.agg (bn y),.ptr b 0,.ptr b' 0] h (λv _=>v=.bool (!iI V.an y.1 (bH x.ev 0))):=by
 refine .nL 13 T.mix T.c244 ?_;intro ts hlen t0 t1 t2;unfold fn244;have oy:=(c.o.e2 y hm).one;have lb:∀{k:ah}{n:Option Nat}{a:Nat},Ext h k->ar n (.ptr b a) (λz=>k[z]?)=dJ n a (.b V.row):=λe=>aA (e.some hb)
 have lc:∀{k:ah}{n:Option Nat}{a:Nat},Ext h k->ar n (.ptr b' a) (λz=>k[z]?)=dJ n a (.b x.row):=λe=>aA (e.some hb')
 have i0:aX 1 x.sv (.i 0)=_:=(c.vl (i:=0) hd).1;have d0:=@(c.vl (i:=0) hd).2.1;have hsf:=λ(k:ah) (e:Ext h k)=>r76 T (c.o.ext e) c.w.len ((c.o.e2 y hm).ext e) (c.w.yT.sh y hm).2 (c.w.yT.sh y hm).1 (bH x.ev 0)
 unfold bn at t0 hsf;refine Rs (o8 t0 t1 t2 @oy @lb @lc @aE @aY @i0 @d0) ?_;refine WF.ce T.c76 (hsf _ Xx) λg1=>?_
 exact FE
def r159{V x}(c:Cx h V x .accept):ay P 159 [.agg V.row,.agg x.row] h (λv _=>v=.i (bC V.an x.ev .accept)):=by
 refine .eG 36 T.mix T.c159 ?_;intro ts hlen t0 t1;unfold fn159;have QO:=@aC.box _ _ c.o;have hex:=@bt.box _ _ c.e;have i0:aX 1 x.sn (.i 0)=_:=(c.nm (i:=0) De).1;have d0:=@(c.nm (i:=0) De).2;have k0:aP x.ev 0∈gP V.an:=c.nk.kn 0 0 rfl;refine Rs (A8 t0 t1 @QO @hex @aE @aN @i0 @d0) ?_;refine WF.ce T.c205 (r205 T (c.o.ext Xx) c.w.len k0) λg1=>?_
 unfold cB;refine Rs (A6 t0 t1 @aE @aN @i0 @d0) ?_;refine WF.res T.c206 (r206 T (c.o.ext Xx) c.w.len _) ?_;rintro s2 g2 Rm;refine Rs (A2 t0 t1) ?_;have hin:∀y∈V.aj.filter (λy=>decide (y.1.line=aP x.ev 0)),y∈V.aj:=λy hy=>(Zd.1 hy).1
 have Rn:(V.aj.filter (λy=>decide (y.1.line=aP x.ev 0))).length<=V.aj.length:=Yu _ _;have S4:=c.w.len.l2;refine WF.res T.c243 (r243 T (Rm.ext Xx) Om (λy=>!iI V.an y.1 (bH x.ev 0)) (λy hy k e=>bF.of (a:=[]) (c:=[.ptr h.length 0,.ptr (h++[ak.b V.row]).length 0]) T.c244 (r244 T (c.ext (Ext.trans Xx e)) De (hin y hy) (e.some ?_) (e.some ?_)))) ?_
 ·exact uq
 ·exact sG
 rintro _ g3 rfl;refine Rs (A2 t0 t1) ?_;refine WF.ce T.c85 (r85 T _ _) λg4=>?_
 have hl2:=Rm.aM;refine Rs (A3 t0 t1 @hl2) ?_;refine WF.ce T.c85 (r85 T _ _) λg5=>?_
 refine Rs (A2 t0 t1) ?_;refine WF.ce T.c85 (r85 T _ _) λg6=>?_
 refine Rs (A2 t0 t1) ?_;refine WF.ce T.c74 (r74 T (cg [_,_,_]) Si) λg7=>?_
 refine Rs (A2 t0 t1) ?_;rw[dQ De,dQ De,dQ De,bC];have e1:(zI V.an (aP x.ev 0))=(V.aj.filter (λy=>decide (y.1.line=aP x.ev 0))).map Prod.fst:=by
  show List.filter _ (List.map Prod.fst V.aj)=_;rw[ZZ];rfl
 rw[e1,X2,List.any_map];simp only[YG,bj];refine⟨Xx,?_⟩;rfl
def r163{V x}(c:Cx h V x .fY)(gl:Gl h):ay P 163 [.agg V.row,.agg x.row] h (λv _=>v=.i (bC V.an x.ev .fY)):=by
 refine .eG 35 T.mix T.c163 ?_;intro ts hlen t0 t1;unfold fn163;have QO:=@aC.box _ _ c.o;have hex:=@bt.box _ _ c.e;have i1:aX 1 x.sn (.i 1)=_:=(c.nm (i:=1) De).1;have d1:=@(c.nm (i:=1) De).2;have j1:aX 1 x.sv (.i 1)=_:=(c.vl (i:=1) De).1;have f1:=@(c.vl (i:=1) De).2.1;have k1:aP x.ev 1∈hO V.an:=c.nk.kn 1 3 rfl;obtain⟨gmu,gtl,hg0⟩:=gl;rw[bC];by_cases hn:1<=bH x.ev 1/\bH x.ev 1<=4
 case neg=>
  have hr:bE (bH x.ev 1) 1 4≠0:=by unfold bE;rw[X9 Om];decide
  rw[X9 hr];by_cases ha:bH x.ev 1<1
  ·have q1:decide (bH x.ev 1<1)=true:=XZ ha;exact Rs (A8 t0 t1 @QO @hex @aY @j1 @f1 q1) Tv
  ·have q1:decide (bH x.ev 1<1)=false:=XU ha;have q2:decide (4<bH x.ev 1)=true:=XZ Om;exact Rs (A9 t0 t1 @QO @hex @aY @j1 @f1 q1 q2) Tv
 have hr:¬bE (bH x.ev 1) 1 4≠0:=by unfold bE;rw[X5 Om];decide
 rw[X5 hr];have q1:decide (bH x.ev 1<1)=false:=XU Om;have q2:decide (4<bH x.ev 1)=false:=XU Om;have hw:IntKind.i64.wrap (bH x.ev 1-1)=bH x.ev 1-1:=bw Om Om;have a1:fj 4 2 (.ptr 0 0) (.i (bH x.ev 1-1))=some (.ptr 0 ((bH x.ev 1-1).toNat*2)):=by simp only[fj];rw[X9 Om,YJ]
 have a2:fj 2 1 (.ptr 0 ((bH x.ev 1-1).toNat*2)) (.i 0)=some (.ptr 0 ((bH x.ev 1-1).toNat*2)):=by simp[fj]
 have lg:∀{k:ah},Ext h k->ar none (.ptr 0 ((bH x.ev 1-1).toNat*2)) (λb=>k[b]?)=some (.str (mP (bH x.ev 1)),.au):=by
  intro k e;exact z93
 refine Rs (Gu t0 t1 @QO @hex @aN @aY @j1 @f1 q1 q2 @aE @i1 @d1) ?_;refine WF.res T.c245 (r245 T (c.o.ext Xx) c.w.len k1) ?_;rintro _ g1 ⟨y,hy,hy1,rfl⟩;unfold aV;refine Rs (A6 t0 t1 @hw @a1 @a2 @lg) ?_;refine WF.ce T.c85 (r85 T _ _) λg2=>?_
 refine Rs (A4 t0 t1 @aE @cA) ?_;refine WF.ce T.c161 (r161 T (c.o.ext Xx) (c.e.ext Xx)) λg3=>?_
 refine Rs (A2 t0 t1) ?_;refine WF.ce T.c74 (r74 T (cg [_,_]) Si) λg4=>?_
 refine Rs (A2 t0 t1) ?_;rw[dQ De,dQ De,hy1];simp only[YG,bj]
def r165{V x}(c:Cx h V x .merge):ay P 165 [.agg V.row,.agg x.row] h (λv _=>v=.i (bC V.an x.ev .merge)):=by
 refine .eG 36 T.mix T.c165 ?_;intro ts hlen t0 t1;unfold fn165;have QO:=@aC.box _ _ c.o;have hex:=@bt.box _ _ c.e;have i1:aX 1 x.sn (.i 1)=_:=(c.nm (i:=1) De).1;have d1:=@(c.nm (i:=1) De).2;have i2:aX 1 x.sn (.i 2)=_:=(c.nm (i:=2) De).1;have d2:=@(c.nm (i:=2) De).2;have k1:aP x.ev 1∈hO V.an:=c.nk.kn 1 3 rfl;have k2:aP x.ev 2∈hO V.an:=c.nk.kn 2 3 rfl;refine Rs (A9 t0 t1 @QO @hex @aN @i1 @d1 @i2 @d2) ?_;refine WF.ce T.c85 (r85 T _ _) λg1=>?_
 refine Rs (A6 t0 t1 @aE @aN @i1 @d1) ?_;refine WF.res T.c245 (r245 T (c.o.ext Xx) c.w.len k1) ?_;rintro _ g2 ⟨y,hy,hy1,rfl⟩;unfold aV;refine Rs (A6 t0 t1 @aE @aN @i2 @d2) ?_;refine WF.res T.c245 (r245 T (c.o.ext Xx) c.w.len k2) ?_;rintro _ g3 ⟨z,hz,hz1,rfl⟩;unfold aV;refine Rs (A2 t0 t1) ?_;refine WF.ce T.c85 (r85 T _ _) λg4=>?_
 refine Rs (A4 t0 t1 @aE @cA) ?_;refine WF.ce T.c161 (r161 T (c.o.ext Xx) (c.e.ext Xx)) λg5=>?_
 refine Rs (A2 t0 t1) ?_;refine WF.ce T.c74 (r74 T (cg [_,_,_]) Si) λg6=>?_
 refine Rs (A2 t0 t1) ?_;rw[dQ De,dQ De,dQ De,bC,hy1,hz1];simp only[YG,bj]
def r247(y:gN):ay P 247 [.agg (cB y)] h (λv _=>v=.bool (!y.acc)):=by
 refine .of T.mix T.c247 ?_;unfold fn247 cB;exact Wn Tv
def r167{V x}(c:Cx h V x .run):ay P 167 [.agg V.row,.agg x.row] h (λv _=>v=.i (bC V.an x.ev .run)):=by
 refine .eG 27 T.mix T.c167 ?_;intro ts hlen t0 t1;unfold fn167;have QO:=@aC.box _ _ c.o;have hex:=@bt.box _ _ c.e;have i1:aX 1 x.sn (.i 1)=_:=(c.nm (i:=1) De).1;have d1:=@(c.nm (i:=1) De).2;have j1:aX 1 x.sv (.i 1)=_:=(c.vl (i:=1) De).1;have f1:=@(c.vl (i:=1) De).2.1;have hin:∀y∈V.aD,y.1.bu.length<2^30:=λy hy=>by have:=(c.w.md y.1 (Ym hy)).2.1;omega
 refine Rs (A8 t0 t1 @QO @hex @aE @aN @i1 @d1) ?_;refine WF.res T.c122 (r122 T (c.o.ext Xx) c.w.len hin _) ?_;rintro s1 g1 SF;have hsl:(fq V.an (aP x.ev 1)).length<=V.lines.length:=Yu _ _;have S4:=c.w.len.l0;refine Rs (A2 t0 t1) ?_;refine WF.ce T.c246 (r246 T SF Om (λy=>!y.acc) (λy hy k e=>bF.of (a:=[]) (c:=[]) T.c247 (r247 T y))) λg2=>?_
 refine Rs (A2 t0 t1) ?_;refine WF.ce T.c85 (r85 T _ _) λg3=>?_
 refine Rs (A5 t0 t1 @aY @j1 @f1) ?_;refine WF.ce T.c94 (r94 T _ _ _) λg4=>?_
 refine Rs (A4 t0 t1 @fy c.o.i4.aM) ?_;refine WF.ce T.c85 (r85 T _ _) λg5=>?_
 refine Rs (A2 t0 t1) ?_;refine WF.ce T.c74 (r74 T (cg [_,_,_]) Si) λg6=>?_
 refine Rs (A2 t0 t1) ?_;rw[dQ De,ui,dQ De,bC];simp only[YG,bj];have e:((16:Int)<=(V.aG.length:Int))=(16<=V.an.aG.length):=by
  have:V.an.aG.length=V.aG.length:=by simp[RV.an]
  exact z127
 simp only[e]
end
theorem tj:∀{l m}{i},cJ (l++m) i=cJ l i++cJ m (i+l.length)
 |[],m,i=>by simp[cJ]
 |x::l,m,i=>by
  have e:i+1+l.length=i+(x::l).length:=by simp;omega
  rw[Zg,cJ,cJ,tj,e];split<;>simp
theorem jX:∀{l}{i},(cJ l i).length<=l.length
 |[],i=>by simp[cJ]
 |x::l,i=>by
  have:=jX (l:=l) (i:=i+1);rw[cJ];split<;>simp<;>omega
section
variable {P:Program}(T:fI P) {h:ah}
include T
def r125{x}(hx:aH h x.2 1 (x.1.bp.map aK))(hl:x.1.bp.length<2^30)(hs:∀s∈x.1.bp,-1<=s):ay P 125 [.agg (bK x)] h (λv h'=>aH h' v 1 ((cJ x.1.bp 0).map aK)):=by
 refine .kV 23 T.mix T.c125 ?_;intro ts hlen t0;unfold fn125;have ox:=hx.one;unfold bK at t0;refine Rs (A3 t0 @ox hx.aM) ?_;obtain⟨H0,Tl⟩:∃H0,H0=h++[ak.b [AV.str x.1.name,.str x.1.mod,x.2]]:=⟨_,rfl⟩;have e0:Ext h H0:=by rw[Tl];exact Xx
 have lb:∀{k n a},Ext H0 k->ar n (.ptr h.length a) (λz=>k[z]?)=dJ n a (.b [AV.str x.1.name,.str x.1.mod,x.2]):=λ{_ _ _} e=>aA (e.some (by rw[Tl];exact bh))
 rw[<-Tl];refine WL.inv T.mix (λn ts h'=>∃(k:Nat) (out:AV),k<=x.1.bp.length/\n=x.1.bp.length-k/\Ext H0 h'/\Fr H0.length h' out 1 ((cJ (x.1.bp.take k) 0).map aK)/\
   ts.length=23/\slot ts 1=.ptr h.length 0/\slot ts 3=out/\slot ts 7=.i x.1.bp.length/\slot ts 8=.i k) x.1.bp.length
  ⟨0,.af,Om,rfl,Ext.refl _,.nil,Sn,(Sq t0),(Sq t0),(Sq t0),iQ⟩ ?_
 rintro _ ts _ ⟨k,out,hk',rfl,⟨g,rfl⟩,hfr,hlen,t1,t3,t7,t8⟩;by_cases hlt:k<x.1.bp.length
 ·have e3:=fF hlt;have ix:=hx.dM (kk:=.i64) hlt;have ld:∀{k':ah},Ext H0 k'->ar none (cW x.2 1 k) (λb=>k'[b]?)=some (.i x.1.bp[k],.au):=λ{k'} e=>hx.kS hlt rfl (e0.trans e)
  have e5:=wrapN (n:=k) Om;have Rc:cJ (x.1.bp.take (k+1)) 0=cJ (x.1.bp.take k) 0++(if x.1.bp[k]<0 then [(k:Int)]else []):=by
   exact PE
  have hsk:=hs _ (Ya hlt);by_cases hn:x.1.bp[k]= -1
  ·have q:decide (x.1.bp[k]= -1)=true:=XZ hn;rw[X9 Om]at Rc;refine Rs (A9 t1 t3 t7 t8 e3 @lb ix @ld q) ?_;have S4:=jX (l:=x.1.bp.take k) (i:=0);refine WR.fQ (h0:=H0) (cs:=(cJ (x.1.bp.take k) 0).map aK) (ys:=[aK (k:Int)]) (hfr.app _) (Fr.push (N:=0) (Yt _) [aK (k:Int)] Si).a8 De Si (by simp only[X2,YQ,XX,X1]at S4 ⊢;omega) Xx ?_;intro g' Q1 hff hkp;have hrow:(cJ (x.1.bp.take k) 0).map aK++[aK (k:Int)]=(cJ (x.1.bp.take (k+1)) 0).map aK:=by rw[Rc,X4];rfl
   rw[hrow]at hff;rw[hrow];refine Rs (A5 t1 t3 t7 t8 e5) ?_;exact z49
  ·have q:decide (x.1.bp[k]= -1)=false:=XU hn;rw[X5 Om,Yo]at Rc;rw[<-Rc]at hfr;refine Rs (o8 t1 t3 t7 t8 e3 @lb ix @ld q e5) ?_;exact⟨_,Om,k+1,_,Om,rfl,hfr,rfl,rfl⟩
 ·have e3:=gK hlt;have e4:k=x.1.bp.length:=Om
  rw[e4,Yz]at hfr;have:=hfr.a8;refine Rs (A5 t1 t3 t7 t8 e3) ?_;exact⟨e0.trans Xx,this⟩
def r249{V x d}(c:Cx h V x d)(hd:1<cF d)(h0:0<(bM d).length)(k0:aP x.ev 0∈fM V.an):ay P 249 [.agg V.row,.agg x.row] h (λv _=>v=.i (jO V.an x.ev)):=by
 refine .eG 28 T.mix T.c249 ?_;intro ts hlen t0 t1;unfold fn249;have QO:=@aC.box _ _ c.o;have hex:=@bt.box _ _ c.e;have i0:aX 1 x.sn (.i 0)=_:=(c.nm (i:=0) h0).1;have d0:=@(c.nm (i:=0) h0).2;have j1:aX 1 x.sv (.i 1)=_:=(c.vl (i:=1) hd).1;have f1:=@(c.vl (i:=1) hd).2.1;have q1:=(c.vl (i:=1) hd).2.2;refine Rs (A8 t0 t1 @QO @hex @aE @aN @i0 @d0) ?_;refine WF.ce T.c251 (r251 T (c.o.ext Xx) c.w.len _) λg1=>?_
 refine Rs (A2 t0 t1) ?_;refine WF.ce T.c85 (r85 T _ _) λg2=>?_
 refine Rs (A9 t0 t1 @aY @j1 @f1 @aE @aN @i0 @d0) ?_;refine WF.res T.c124 (r124 T (c.o.ext Xx) c.w.len k0) ?_;rintro _ g3 ⟨y,hy,hy1,rfl⟩;have SE:=(c.o.e4 y hy).aM;have TK:=(c.w.jb y.1 (Ym hy)).2;have hw:IntKind.i64.wrap ((y.1.bp.length:Int)-1)=(y.1.bp.length:Int)-1:=bw Om Om;unfold bK;refine Rs (A4 t0 t1 @SE @hw) ?_;refine WF.ce T.c94 (r94 T _ _ _) λg4=>?_
 refine Rs (A2 t0 t1) ?_;refine WF.ce T.c74 (r74 T (cg [_,_]) Si) λg5=>?_
 refine Rs (A2 t0 t1) ?_;rw[dQ De,ui,jO,<-hy1];have e:(bE (bH x.ev 1) 0 ((y.1.bp.length:Int)-1)≠0)=((y.1.bp.length:Int)<=bH x.ev 1):=by
  unfold bE;refine propext ⟨λz=>?_,λz=>?_⟩
  ·split at z
   ·omega
   ·exact absurd rfl z
  ·rw[X9 Om];decide
 simp only[e,bj]
def r169{V x}(c:Cx h V x .fX):ay P 169 [.agg V.row,.agg x.row] h (λv _=>v=.i (bC V.an x.ev .fX)):=by
 refine .eG 27 T.mix T.c169 ?_;intro ts hlen t0 t1;unfold fn169;have QO:=@aC.box _ _ c.o;have hex:=@bt.box _ _ c.e;have i0:aX 1 x.sn (.i 0)=_:=(c.nm (i:=0) De).1;have d0:=@(c.nm (i:=0) De).2;have j1:aX 1 x.sv (.i 1)=_:=(c.vl (i:=1) De).1;have f1:=@(c.vl (i:=1) De).2.1;have q1:=(c.vl (i:=1) De).2.2;have k0:aP x.ev 0∈fM V.an:=c.nk.kn 0 4 rfl;refine Rs (A6 t0 t1 @QO @hex @aE @cA) ?_;refine WF.ce T.c249 (r249 T (c.ext Xx) De De k0) λg1=>?_
 by_cases hb:jO V.an x.ev=0
 case neg=>
  exact JK
 have e1:decide (jO V.an x.ev≠0)=false:=XU (λz=>z hb);refine Rs (A7 t0 t1 e1 @aE @aN @i0 @d0) ?_;refine WF.res T.c124 (r124 T (c.o.ext Xx) c.w.len k0) ?_;rintro _ g2 ⟨y,hy,hy1,rfl⟩;have TK:=(c.w.jb y.1 (Ym hy)).2;have hlt:(bH x.ev 1).toNat<y.1.bp.length:=by
  exact Jv
 have VT:bH x.ev 1=((bH x.ev 1).toNat:Int):=Om
 have iy:aX 1 y.2 (.i (bH x.ev 1))=some (cW y.2 1 (bH x.ev 1).toNat,.au):=by
  rw[VT];exact(c.o.e4 y hy).dM hlt
 have hsm:fJ V.an x.ev=y.1.bp[(bH x.ev 1).toNat]:=by
  exact z154
 have ly:∀{k:ah},Ext h k->ar none (cW y.2 1 (bH x.ev 1).toNat) (λb=>k[b]?)=some (.i (fJ V.an x.ev),.au):=λ{k} e=>by
  rw[hsm];exact(c.o.e4 y hy).kS hlt rfl e
 have hsb:=TK.2.2 _ (Ya hlt);rw[<-hsm]at hsb;unfold bK;refine Rs (A7 t0 t1 @aY @j1 @f1 @iy @ly) ?_;refine WF.ce T.c85 (r85 T _ _) λg3=>?_
 refine Rs (A2 t0 t1) ?_;rw[bC,X5 (λz=>z hb),bZ];have e2:(decide (fJ V.an x.ev≠-1)=true)=(0<=fJ V.an x.ev):=by
  exact z162
 simp only[e2]
def r171{V x}(c:Cx h V x .fail):ay P 171 [.agg V.row,.agg x.row] h (λv _=>v=.i (bC V.an x.ev .fail)):=by
 refine .eG 27 T.mix T.c171 ?_;intro ts hlen t0 t1;unfold fn171;have QO:=@aC.box _ _ c.o;have hex:=@bt.box _ _ c.e;have i0:aX 1 x.sn (.i 0)=_:=(c.nm (i:=0) De).1;have d0:=@(c.nm (i:=0) De).2;have j1:aX 1 x.sv (.i 1)=_:=(c.vl (i:=1) De).1;have f1:=@(c.vl (i:=1) De).2.1;have q1:=(c.vl (i:=1) De).2.2;have k0:aP x.ev 0∈fM V.an:=c.nk.kn 0 4 rfl;refine Rs (A6 t0 t1 @QO @hex @aE @cA) ?_;refine WF.ce T.c249 (r249 T (c.ext Xx) De De k0) λg1=>?_
 by_cases hb:jO V.an x.ev=0
 case neg=>
  exact JK
 have e1:decide (jO V.an x.ev≠0)=false:=XU (λz=>z hb);refine Rs (A7 t0 t1 e1 @aE @aN @i0 @d0) ?_;refine WF.res T.c124 (r124 T (c.o.ext Xx) c.w.len k0) ?_;rintro _ g2 ⟨y,hy,hy1,rfl⟩;have TK:=(c.w.jb y.1 (Ym hy)).2;have hlt:(bH x.ev 1).toNat<y.1.bp.length:=by
  exact Jv
 have VT:bH x.ev 1=((bH x.ev 1).toNat:Int):=Om
 have iy:aX 1 y.2 (.i (bH x.ev 1))=some (cW y.2 1 (bH x.ev 1).toNat,.au):=by
  rw[VT];exact(c.o.e4 y hy).dM hlt
 have hsm:fJ V.an x.ev=y.1.bp[(bH x.ev 1).toNat]:=by
  exact z154
 have ly:∀{k:ah},Ext h k->ar none (cW y.2 1 (bH x.ev 1).toNat) (λb=>k[b]?)=some (.i (fJ V.an x.ev),.au):=λ{k} e=>by
  rw[hsm];exact(c.o.e4 y hy).kS hlt rfl e
 have hsb:=TK.2.2 _ (Ya hlt);rw[<-hsm]at hsb;unfold bK;refine Rs (A7 t0 t1 @aY @j1 @f1 @iy @ly) ?_;refine WF.ce T.c85 (r85 T _ _) λg3=>?_
 refine Rs (A2 t0 t1) ?_;rw[bC,X5 (λz=>z hb),bZ];have e2:(decide (fJ V.an x.ev= -1)=true)=(fJ V.an x.ev<0):=by
  exact z162
 simp only[e2]
def r173{V x}(c:Cx h V x .gB):ay P 173 [.agg V.row,.agg x.row] h (λv _=>v=.i (bC V.an x.ev .gB)):=by
 refine .eG 31 T.mix T.c173 ?_;intro ts hlen t0 t1;unfold fn173;have QO:=@aC.box _ _ c.o;have hex:=@bt.box _ _ c.e;have i1:aX 1 x.sn (.i 1)=_:=(c.nm (i:=1) De).1;have d1:=@(c.nm (i:=1) De).2;have k1:aP x.ev 1∈fM V.an:=c.nk.kn 1 4 rfl;refine Rs (A8 t0 t1 @QO @hex @aE @aN @i1 @d1) ?_;refine WF.res T.c124 (r124 T (c.o.ext Xx) c.w.len k1) ?_;rintro _ g1 ⟨y,hy,hy1,rfl⟩;have TK:=(c.w.jb y.1 (Ym hy)).2;refine Rs (A2 t0 t1) ?_;refine WF.res T.c125 (r125 T (x:=y) ((c.o.e4 y hy).ext Xx) Om (λs hs=>(TK.2.2 s hs).1)) ?_;rintro s2 g2 Rm;have hl2:=Rm.aM;refine Rs (A6 t0 t1 @aE @aN @i1 @d1) ?_
 refine WF.ce T.c251 (r251 T (c.o.ext Xx) c.w.len _) λg3=>?_
 refine Rs (A2 t0 t1) ?_;refine WF.ce T.c85 (r85 T _ _) λg4=>?_
 refine Rs (A3 t0 t1 @hl2) ?_;refine WF.ce T.c85 (r85 T _ _) λg5=>?_
 refine Rs (A4 t0 t1 @gW c.o.i5.aM) ?_;refine WF.ce T.c85 (r85 T _ _) λg6=>?_
 refine Rs (A2 t0 t1) ?_;refine WF.ce T.c74 (r74 T (cg [_,_,_]) Si) λg7=>?_
 refine Rs (A2 t0 t1) ?_;rw[dQ De,dQ De,dQ De,bC,<-hy1];have e1:(decide ((0:Int)<((cJ y.1.bp 0).length:Int))=true)=(cJ y.1.bp 0≠[]):=by
  rw[YG];refine propext ⟨λz e=>by rw[e]at z;simp at z,λz=>by have:=ZR.2 z;omega⟩
 have e2:(decide ((16:Int)<=(V.aO.length:Int))=true)=(16<=V.an.aO.length):=by
  rw[YG];have:V.an.aO.length=V.aO.length:=rfl;exact z127
 simp only[e1,e2,bj];exact⟨Xx,trivial⟩
def r175{V x}(c:Cx h V x .rel):ay P 175 [.agg V.row,.agg x.row] h (λv _=>v=.i (bC V.an x.ev .rel)):=by
 refine .eG 13 T.mix T.c175 ?_;intro ts hlen t0 t1;unfold fn175;have QO:=@aC.box _ _ c.o;have hex:=@bt.box _ _ c.e;have i0:aX 1 x.sn (.i 0)=_:=(c.nm (i:=0) De).1;have d0:=@(c.nm (i:=0) De).2;have k0:aP x.ev 0∈jg V.an:=c.nk.kn 0 5 rfl;refine Rs (A8 t0 t1 @QO @hex @aE @aN @i0 @d0) ?_;refine WF.ce T.c218 (r218 T (c.o.ext Xx) c.w.len k0) λg1=>?_
 unfold dm;refine Rs (A2 t0 t1) ?_;refine WF.ce T.c85 (r85 T _ _) λg2=>?_
 refine Rs (A2 t0 t1) ?_;rw[bC,bZ]
def O2{V x d}(hd:d≠.fp)(c:Cx h V x d)(gl:Gl h):bF P (jY d) [.agg V.row,.agg x.row] h (λv _=>v=.i (bC V.an x.ev d)):=by
 cases d with
 |fp=>exact absurd rfl hd
 |line=>exact bF.of (a:=[]) (c:=[]) T.c148 (r148 T c)
 |tape=>exact bF.of (a:=[]) (c:=[]) T.c151 (r151 T c)
 |gA=>exact bF.of (a:=[]) (c:=[]) T.c155 (r155 T c)
 |copy=>exact bF.of (a:=[]) (c:=[]) T.c157 (r157 T c)
 |accept=>exact bF.of (a:=[]) (c:=[]) T.c159 (r159 T c)
 |source=>
  refine bF.of (a:=[]) (c:=[]) T.c161 ((r161 T c.o c.e).mono λv g hv=>?_);rw[hv,bC,bZ];simp only[YG]
 |fY=>exact bF.of (a:=[]) (c:=[]) T.c163 (r163 T c gl)
 |merge=>exact bF.of (a:=[]) (c:=[]) T.c165 (r165 T c)
 |run=>exact bF.of (a:=[]) (c:=[]) T.c167 (r167 T c)
 |fX=>exact bF.of (a:=[]) (c:=[]) T.c169 (r169 T c)
 |fail=>exact bF.of (a:=[]) (c:=[]) T.c171 (r171 T c)
 |gB=>exact bF.of (a:=[]) (c:=[]) T.c173 (r173 T c)
 |rel=>exact bF.of (a:=[]) (c:=[]) T.c175 (r175 T c)
end
def iU{l1 l2:List (Option Nat)}{a y:Option Nat}(h:y∈l1\/y∈l2):y∈l1++a::l2:=by rcases h with h|h<;>simp[h]
def vz{l1 l2:List (Option Nat)}{a y:Option Nat}(h:y∈l1++a::l2):y∈l1\/y=a\/y∈l2:=by simpa using h
def lh.xD{l1 l2 a x}(h:lh (l1++a::l2))(hx:∀i,x=some i->a=some i\/((∀y∈l1,y≠some i)/\∀y∈l2,y≠some i)):lh (l1++x::l2):=by
 obtain⟨h1,h2,h3⟩:=Zc.1 h;obtain⟨h4,h5⟩:=YV.1 h2;refine Zc.2 ⟨h1,YV.2 ⟨λy hy b hb=>?_,h5⟩,λy hy z hz b hb=>?_⟩
 ·rcases hx b hb with ha|⟨_,ha⟩
  ·exact h4 y hy b ha
  ·exact ha y hy
 ·rcases YA.1 hz with rfl|hz
  ·intro e;rcases hx b e with ha|⟨ha,_⟩
   ·exact h3 y hy a Si b hb ha
   ·exact ha y hy hb
  ·exact h3 y hy z (YB _ hz) b hb
def lh.ins{l1 l2 x}(h:lh (l1++l2))(hx:∀i,x=some i->(∀y∈l1,y≠some i)/\∀y∈l2,y≠some i):lh (l1++x::l2):=by
 obtain⟨h1,h2,h3⟩:=Zc.1 h;refine Zc.2 ⟨h1,YV.2 ⟨λy hy b hb=>(hx b hb).2 y hy,h2⟩,λy hy z hz b hb=>?_⟩;rcases YA.1 hz with rfl|hz
 ·exactλe=>(hx b e).1 y hy hb
 ·exact h3 y hy z hz b hb
structure b9(N:Nat)(h:ah)(b:Nat)(V:RV):Prop where
 o:cK N h V
 hN:N<=b
 m:h[b]? =some (.b V.row)
 ne:some b∉V.bl
def b9.lt{N h b V}(r:b9 N h b V):b<h.length:=(XT.1 r.m).1
theorem b9.app{N h b V}(r:b9 N h b V)(g:ah):b9 N (h++g) b V:=⟨r.o.app g,r.hN,(Ext.app g (Ext.refl h)).some r.m,r.ne⟩
section
variable {N b:Nat}{h k:ah}{V:RV}
def b9.Mw(r:b9 N h b V){s:AV}{L:List gN}(hs:Fr N k s 3 (L.map cB))(hn:∀i,sB s=some i->sB V.s0=some i\/h.length<=i)(hm:k[b]? =some (.cells {V with lines:=L,s0:=s}.row true false))
  (hk:∀i,i<h.length->sB V.s0≠some i->i≠b->k[i]? =h[i]?):b9 N k b {V with lines:=L,s0:=s}:=by
 have hd:V.bl=[]++sB V.s0:: ([sB V.s1,sB V.s2,sB V.s3,sB V.s4,sB V.s5]++(V.aj.map λx=>sB x.2)++(V.aD.map λx=>sB x.2)++(V.aG.map λx=>sB x.2)):=rfl;have hin:∀i,some i∈V.bl->N<=i/\i<h.length:=λi hi=>r.o.dU hi
 have RF:=r.o.di;rw[hd]at RF;have au:∀i,(some i∈[]\/some i∈([sB V.s1,sB V.s2,sB V.s3,sB V.s4,sB V.s5]++(V.aj.map λx=>sB x.2)++(V.aD.map λx=>sB x.2)++(V.aG.map λx=>sB x.2)))->k[i]? =h[i]? :=λi hi=>by
  exact z7
 have own:cK N k {V with lines:=L,s0:=s}:=by
  refine⟨hs,(r.o.i1.aB λi hi=>au i (.inr (by rw[<-hi];simp))),(r.o.i2.aB λi hi=>au i (.inr (by rw[<-hi];simp))),(r.o.i3.aB λi hi=>au i (.inr (by rw[<-hi];simp))),(r.o.i4.aB λi hi=>au i (.inr (by rw[<-hi];simp))),(r.o.i5.aB λi hi=>au i (.inr (by rw[<-hi];simp))),(λx hx=>(r.o.e2 x hx).aB λi hi=>au i (.inr (by rw[<-hi];simp only[X3,Ys];exact .inl (.inl (.inr ⟨x,hx,rfl⟩))))),(λx hx=>(r.o.e3 x hx).aB λi hi=>au i (.inr (by rw[<-hi];simp only[X3,Ys];exact .inl (.inr ⟨x,hx,rfl⟩)))),(λx hx=>(r.o.e4 x hx).aB λi hi=>au i (.inr (by rw[<-hi];simp only[X3,Ys];exact .inr ⟨x,hx,rfl⟩))),?_⟩;have hx:∀i,sB s=some i->sB V.s0=some i\/((∀y∈[],y≠some i)/\∀y∈([sB V.s1,sB V.s2,sB V.s3,sB V.s4,sB V.s5]++(V.aj.map λx=>sB x.2)++(V.aD.map λx=>sB x.2)++(V.aG.map λx=>sB x.2)),y≠some i):=λi hi=>by
   exact z9
  exact RF.xD hx
 refine⟨own,r.hN,hm,λhb=>?_⟩;have hbl:=r.lt;have S3:=r.ne;rw[hd]at S3;have e:{V with lines:=L,s0:=s}.bl=[]++sB s:: ([sB V.s1,sB V.s2,sB V.s3,sB V.s4,sB V.s5]++(V.aj.map λx=>sB x.2)++(V.aD.map λx=>sB x.2)++(V.aG.map λx=>sB x.2)):=rfl;exact MO
def b9.Qd(r:b9 N h b V){s:AV}{L:List rW}(hs:Fr N k s 2 (L.map dV))(hn:∀i,sB s=some i->sB V.s1=some i\/h.length<=i)(hm:k[b]? =some (.cells {V with aJ:=L,s1:=s}.row true false))
  (hk:∀i,i<h.length->sB V.s1≠some i->i≠b->k[i]? =h[i]?):b9 N k b {V with aJ:=L,s1:=s}:=by
 have hd:V.bl=[sB V.s0]++sB V.s1:: ([sB V.s2,sB V.s3,sB V.s4,sB V.s5]++(V.aj.map λx=>sB x.2)++(V.aD.map λx=>sB x.2)++(V.aG.map λx=>sB x.2)):=rfl;have hin:∀i,some i∈V.bl->N<=i/\i<h.length:=λi hi=>r.o.dU hi
 have RF:=r.o.di;rw[hd]at RF;have au:∀i,(some i∈[sB V.s0]\/some i∈([sB V.s2,sB V.s3,sB V.s4,sB V.s5]++(V.aj.map λx=>sB x.2)++(V.aD.map λx=>sB x.2)++(V.aG.map λx=>sB x.2)))->k[i]? =h[i]? :=λi hi=>by
  exact z7
 have own:cK N k {V with aJ:=L,s1:=s}:=by
  refine⟨(r.o.i0.aB λi hi=>au i (.inl (by rw[<-hi];simp))),hs,(r.o.i2.aB λi hi=>au i (.inr (by rw[<-hi];simp))),(r.o.i3.aB λi hi=>au i (.inr (by rw[<-hi];simp))),(r.o.i4.aB λi hi=>au i (.inr (by rw[<-hi];simp))),(r.o.i5.aB λi hi=>au i (.inr (by rw[<-hi];simp))),(λx hx=>(r.o.e2 x hx).aB λi hi=>au i (.inr (by rw[<-hi];simp only[X3,Ys];exact .inl (.inl (.inr ⟨x,hx,rfl⟩))))),(λx hx=>(r.o.e3 x hx).aB λi hi=>au i (.inr (by rw[<-hi];simp only[X3,Ys];exact .inl (.inr ⟨x,hx,rfl⟩)))),(λx hx=>(r.o.e4 x hx).aB λi hi=>au i (.inr (by rw[<-hi];simp only[X3,Ys];exact .inr ⟨x,hx,rfl⟩))),?_⟩;have hx:∀i,sB s=some i->sB V.s1=some i\/((∀y∈[sB V.s0],y≠some i)/\∀y∈([sB V.s2,sB V.s3,sB V.s4,sB V.s5]++(V.aj.map λx=>sB x.2)++(V.aD.map λx=>sB x.2)++(V.aG.map λx=>sB x.2)),y≠some i):=λi hi=>by
   exact z9
  exact RF.xD hx
 refine⟨own,r.hN,hm,λhb=>?_⟩;have hbl:=r.lt;have S3:=r.ne;rw[hd]at S3;have e:{V with aJ:=L,s1:=s}.bl=[sB V.s0]++sB s:: ([sB V.s2,sB V.s3,sB V.s4,sB V.s5]++(V.aj.map λx=>sB x.2)++(V.aD.map λx=>sB x.2)++(V.aG.map λx=>sB x.2)):=rfl;exact MO
def b9.Qc(r:b9 N h b V){s t:AV}{y:jP}(hs:Fr N k s 3 ((V.aj++[(y,t)]).map bn))(ht:Fr N k t 1 (y.aJ.map ao))(hn:∀i,sB s=some i->sB V.s2=some i\/h.length<=i)(hnt:∀i,sB t=some i->h.length<=i/\sB s≠some i)
  (hm:k[b]? =some (.cells {V with aj:=V.aj++[(y,t)],s2:=s}.row true false))
  (hk:∀i,i<h.length->sB V.s2≠some i->i≠b->k[i]? =h[i]?):b9 N k b {V with aj:=V.aj++[(y,t)],s2:=s}:=by
 have hd:V.bl=[sB V.s0,sB V.s1]++sB V.s2:: ([sB V.s3,sB V.s4,sB V.s5]++(V.aj.map λx=>sB x.2)++(V.aD.map λx=>sB x.2)++(V.aG.map λx=>sB x.2)):=rfl;have hin:∀i,some i∈V.bl->N<=i/\i<h.length:=λi hi=>r.o.dU hi
 have RF:=r.o.di;rw[hd]at RF;have au:∀i,(some i∈[sB V.s0,sB V.s1]\/some i∈([sB V.s3,sB V.s4,sB V.s5]++(V.aj.map λx=>sB x.2)++(V.aD.map λx=>sB x.2)++(V.aG.map λx=>sB x.2)))->k[i]? =h[i]? :=λi hi=>by
  exact z7
 have own:cK N k {V with aj:=V.aj++[(y,t)],s2:=s}:=by
  refine⟨(r.o.i0.aB λi hi=>au i (.inl (by rw[<-hi];simp))),(r.o.i1.aB λi hi=>au i (.inl (by rw[<-hi];simp))),hs,(r.o.i3.aB λi hi=>au i (.inr (by rw[<-hi];simp))),(r.o.i4.aB λi hi=>au i (.inr (by rw[<-hi];simp))),(r.o.i5.aB λi hi=>au i (.inr (by rw[<-hi];simp))),(λx hx=>by
   rcases X3.1 hx with hx|hx
   ·exact(r.o.e2 x hx).aB λi hi=>au i (.inr (by rw[<-hi];simp only[X3,Ys];exact .inl (.inl (.inr ⟨x,hx,rfl⟩))))
   ·rw[Yl]at hx;subst hx;exact ht),(λx hx=>(r.o.e3 x hx).aB λi hi=>au i (.inr (by rw[<-hi];simp only[X3,Ys];exact .inl (.inr ⟨x,hx,rfl⟩)))),(λx hx=>(r.o.e4 x hx).aB λi hi=>au i (.inr (by rw[<-hi];simp only[X3,Ys];exact .inr ⟨x,hx,rfl⟩))),?_⟩
  have hx:∀i,sB s=some i->sB V.s2=some i\/((∀y∈[sB V.s0,sB V.s1],y≠some i)/\∀y∈([sB V.s3,sB V.s4,sB V.s5]++(V.aj.map λx=>sB x.2)++(V.aD.map λx=>sB x.2)++(V.aG.map λx=>sB x.2)),y≠some i):=λi hi=>by
   exact z9
  have h1:=RF.xD hx;have h2:lh (([sB V.s0,sB V.s1,sB s,sB V.s3,sB V.s4,sB V.s5]++(V.aj.map λx=>sB x.2))++((V.aD.map λx=>sB x.2)++(V.aG.map λx=>sB x.2))):=by
   have:[sB V.s0,sB V.s1]++sB s:: ([sB V.s3,sB V.s4,sB V.s5]++(V.aj.map λx=>sB x.2)++(V.aD.map λx=>sB x.2)++(V.aG.map λx=>sB x.2))=([sB V.s0,sB V.s1,sB s,sB V.s3,sB V.s4,sB V.s5]++(V.aj.map λx=>sB x.2))++((V.aD.map λx=>sB x.2)++(V.aG.map λx=>sB x.2)):=Si
   rw[<-this];exact h1
  have h3:=h2.ins (x:=sB t) (λi hi=>by
   obtain⟨n1,n2⟩:=hnt i hi;refine⟨λy hy e=>?_,λy hy e=>?_⟩
   ·exact MM
   ·subst e;have:=(hin i (by rw[hd];simp only[X3,YA,YT,Zz]at hy ⊢<;>grind)).2;omega)
  have:{V with aj:=V.aj++[(y,t)],s2:=s}.bl=([sB V.s0,sB V.s1,sB s,sB V.s3,sB V.s4,sB V.s5]++(V.aj.map λx=>sB x.2))++sB t:: ((V.aD.map λx=>sB x.2)++(V.aG.map λx=>sB x.2)):=by
   simp[RV.bl]
  rw[this];exact h3
 exact MR
def b9.Qb(r:b9 N h b V){s t:AV}{y:gy}(hs:Fr N k s 4 ((V.aD++[(y,t)]).map aV))(ht:Fr N k t 1 (y.bu.map ao))(hn:∀i,sB s=some i->sB V.s3=some i\/h.length<=i)(hnt:∀i,sB t=some i->h.length<=i/\sB s≠some i)
  (hm:k[b]? =some (.cells {V with aD:=V.aD++[(y,t)],s3:=s}.row true false))
  (hk:∀i,i<h.length->sB V.s3≠some i->i≠b->k[i]? =h[i]?):b9 N k b {V with aD:=V.aD++[(y,t)],s3:=s}:=by
 have hd:V.bl=[sB V.s0,sB V.s1,sB V.s2]++sB V.s3:: ([sB V.s4,sB V.s5]++(V.aj.map λx=>sB x.2)++(V.aD.map λx=>sB x.2)++(V.aG.map λx=>sB x.2)):=rfl;have hin:∀i,some i∈V.bl->N<=i/\i<h.length:=λi hi=>r.o.dU hi
 have RF:=r.o.di;rw[hd]at RF;have au:∀i,(some i∈[sB V.s0,sB V.s1,sB V.s2]\/some i∈([sB V.s4,sB V.s5]++(V.aj.map λx=>sB x.2)++(V.aD.map λx=>sB x.2)++(V.aG.map λx=>sB x.2)))->k[i]? =h[i]? :=λi hi=>by
  exact z7
 have own:cK N k {V with aD:=V.aD++[(y,t)],s3:=s}:=by
  refine⟨(r.o.i0.aB λi hi=>au i (.inl (by rw[<-hi];simp))),(r.o.i1.aB λi hi=>au i (.inl (by rw[<-hi];simp))),(r.o.i2.aB λi hi=>au i (.inl (by rw[<-hi];simp))),hs,(r.o.i4.aB λi hi=>au i (.inr (by rw[<-hi];simp))),(r.o.i5.aB λi hi=>au i (.inr (by rw[<-hi];simp))),(λx hx=>(r.o.e2 x hx).aB λi hi=>au i (.inr (by rw[<-hi];simp only[X3,Ys];exact .inl (.inl (.inr ⟨x,hx,rfl⟩))))),(λx hx=>by
   rcases X3.1 hx with hx|hx
   ·exact(r.o.e3 x hx).aB λi hi=>au i (.inr (by rw[<-hi];simp only[X3,Ys];exact .inl (.inr ⟨x,hx,rfl⟩)))
   ·rw[Yl]at hx;subst hx;exact ht),(λx hx=>(r.o.e4 x hx).aB λi hi=>au i (.inr (by rw[<-hi];simp only[X3,Ys];exact .inr ⟨x,hx,rfl⟩))),?_⟩
  have hx:∀i,sB s=some i->sB V.s3=some i\/((∀y∈[sB V.s0,sB V.s1,sB V.s2],y≠some i)/\∀y∈([sB V.s4,sB V.s5]++(V.aj.map λx=>sB x.2)++(V.aD.map λx=>sB x.2)++(V.aG.map λx=>sB x.2)),y≠some i):=λi hi=>by
   exact z9
  have h1:=RF.xD hx;have h2:lh (([sB V.s0,sB V.s1,sB V.s2,sB s,sB V.s4,sB V.s5]++(V.aj.map λx=>sB x.2)++(V.aD.map λx=>sB x.2))++((V.aG.map λx=>sB x.2))):=by
   have:[sB V.s0,sB V.s1,sB V.s2]++sB s:: ([sB V.s4,sB V.s5]++(V.aj.map λx=>sB x.2)++(V.aD.map λx=>sB x.2)++(V.aG.map λx=>sB x.2))=([sB V.s0,sB V.s1,sB V.s2,sB s,sB V.s4,sB V.s5]++(V.aj.map λx=>sB x.2)++(V.aD.map λx=>sB x.2))++((V.aG.map λx=>sB x.2)):=Si
   rw[<-this];exact h1
  have h3:=h2.ins (x:=sB t) (λi hi=>by
   obtain⟨n1,n2⟩:=hnt i hi;refine⟨λy hy e=>?_,λy hy e=>?_⟩
   ·exact MM
   ·subst e;have:=(hin i (by rw[hd];simp only[X3,YA,YT,Zz]at hy ⊢<;>grind)).2;omega)
  have:{V with aD:=V.aD++[(y,t)],s3:=s}.bl=([sB V.s0,sB V.s1,sB V.s2,sB s,sB V.s4,sB V.s5]++(V.aj.map λx=>sB x.2)++(V.aD.map λx=>sB x.2))++sB t:: ((V.aG.map λx=>sB x.2)):=by
   simp[RV.bl]
  rw[this];exact h3
 exact MR
def b9.Qa(r:b9 N h b V){s t:AV}{y:jv}(hs:Fr N k s 3 ((V.aG++[(y,t)]).map bK))(ht:Fr N k t 1 (y.bp.map aK))(hn:∀i,sB s=some i->sB V.s4=some i\/h.length<=i)(hnt:∀i,sB t=some i->h.length<=i/\sB s≠some i)
  (hm:k[b]? =some (.cells {V with aG:=V.aG++[(y,t)],s4:=s}.row true false))
  (hk:∀i,i<h.length->sB V.s4≠some i->i≠b->k[i]? =h[i]?):b9 N k b {V with aG:=V.aG++[(y,t)],s4:=s}:=by
 have hd:V.bl=[sB V.s0,sB V.s1,sB V.s2,sB V.s3]++sB V.s4:: ([sB V.s5]++(V.aj.map λx=>sB x.2)++(V.aD.map λx=>sB x.2)++(V.aG.map λx=>sB x.2)):=rfl;have hin:∀i,some i∈V.bl->N<=i/\i<h.length:=λi hi=>r.o.dU hi
 have RF:=r.o.di;rw[hd]at RF;have au:∀i,(some i∈[sB V.s0,sB V.s1,sB V.s2,sB V.s3]\/some i∈([sB V.s5]++(V.aj.map λx=>sB x.2)++(V.aD.map λx=>sB x.2)++(V.aG.map λx=>sB x.2)))->k[i]? =h[i]? :=λi hi=>by
  exact z7
 have own:cK N k {V with aG:=V.aG++[(y,t)],s4:=s}:=by
  refine⟨(r.o.i0.aB λi hi=>au i (.inl (by rw[<-hi];simp))),(r.o.i1.aB λi hi=>au i (.inl (by rw[<-hi];simp))),(r.o.i2.aB λi hi=>au i (.inl (by rw[<-hi];simp))),(r.o.i3.aB λi hi=>au i (.inl (by rw[<-hi];simp))),hs,(r.o.i5.aB λi hi=>au i (.inr (by rw[<-hi];simp))),(λx hx=>(r.o.e2 x hx).aB λi hi=>au i (.inr (by rw[<-hi];simp only[X3,Ys];exact .inl (.inl (.inr ⟨x,hx,rfl⟩))))),(λx hx=>(r.o.e3 x hx).aB λi hi=>au i (.inr (by rw[<-hi];simp only[X3,Ys];exact .inl (.inr ⟨x,hx,rfl⟩)))),(λx hx=>by
   rcases X3.1 hx with hx|hx
   ·exact(r.o.e4 x hx).aB λi hi=>au i (.inr (by rw[<-hi];simp only[X3,Ys];exact .inr ⟨x,hx,rfl⟩))
   ·rw[Yl]at hx;subst hx;exact ht),?_⟩
  have hx:∀i,sB s=some i->sB V.s4=some i\/((∀y∈[sB V.s0,sB V.s1,sB V.s2,sB V.s3],y≠some i)/\∀y∈([sB V.s5]++(V.aj.map λx=>sB x.2)++(V.aD.map λx=>sB x.2)++(V.aG.map λx=>sB x.2)),y≠some i):=λi hi=>by
   exact z9
  have h1:=RF.xD hx;have h2:lh (([sB V.s0,sB V.s1,sB V.s2,sB V.s3,sB s,sB V.s5]++(V.aj.map λx=>sB x.2)++(V.aD.map λx=>sB x.2)++(V.aG.map λx=>sB x.2))++([])):=by
   have:[sB V.s0,sB V.s1,sB V.s2,sB V.s3]++sB s:: ([sB V.s5]++(V.aj.map λx=>sB x.2)++(V.aD.map λx=>sB x.2)++(V.aG.map λx=>sB x.2))=([sB V.s0,sB V.s1,sB V.s2,sB V.s3,sB s,sB V.s5]++(V.aj.map λx=>sB x.2)++(V.aD.map λx=>sB x.2)++(V.aG.map λx=>sB x.2))++([]):=Si
   rw[<-this];exact h1
  have h3:=h2.ins (x:=sB t) (λi hi=>by
   obtain⟨n1,n2⟩:=hnt i hi;refine⟨λy hy e=>?_,λy hy e=>?_⟩
   ·exact MM
   ·subst e;have:=(hin i (by rw[hd];simp only[X3,YA,YT,Zz]at hy ⊢<;>grind)).2;omega)
  have:{V with aG:=V.aG++[(y,t)],s4:=s}.bl=([sB V.s0,sB V.s1,sB V.s2,sB V.s3,sB s,sB V.s5]++(V.aj.map λx=>sB x.2)++(V.aD.map λx=>sB x.2)++(V.aG.map λx=>sB x.2))++sB t:: ([]):=by
   simp[RV.bl]
  rw[this];exact h3
 exact MR
def b9.Mv(r:b9 N h b V){s:AV}{L:List nE}(hs:Fr N k s 4 (L.map dm))(hn:∀i,sB s=some i->sB V.s5=some i\/h.length<=i)(hm:k[b]? =some (.cells {V with aO:=L,s5:=s}.row true false))
  (hk:∀i,i<h.length->sB V.s5≠some i->i≠b->k[i]? =h[i]?):b9 N k b {V with aO:=L,s5:=s}:=by
 have hd:V.bl=[sB V.s0,sB V.s1,sB V.s2,sB V.s3,sB V.s4]++sB V.s5:: ([]++(V.aj.map λx=>sB x.2)++(V.aD.map λx=>sB x.2)++(V.aG.map λx=>sB x.2)):=rfl;have hin:∀i,some i∈V.bl->N<=i/\i<h.length:=λi hi=>r.o.dU hi
 have RF:=r.o.di;rw[hd]at RF;have au:∀i,(some i∈[sB V.s0,sB V.s1,sB V.s2,sB V.s3,sB V.s4]\/some i∈([]++(V.aj.map λx=>sB x.2)++(V.aD.map λx=>sB x.2)++(V.aG.map λx=>sB x.2)))->k[i]? =h[i]? :=λi hi=>by
  exact z7
 have own:cK N k {V with aO:=L,s5:=s}:=by
  refine⟨(r.o.i0.aB λi hi=>au i (.inl (by rw[<-hi];simp))),(r.o.i1.aB λi hi=>au i (.inl (by rw[<-hi];simp))),(r.o.i2.aB λi hi=>au i (.inl (by rw[<-hi];simp))),(r.o.i3.aB λi hi=>au i (.inl (by rw[<-hi];simp))),(r.o.i4.aB λi hi=>au i (.inl (by rw[<-hi];simp))),hs,(λx hx=>(r.o.e2 x hx).aB λi hi=>au i (.inr (by rw[<-hi];simp only[X3,Ys];exact .inl (.inl (.inr ⟨x,hx,rfl⟩))))),(λx hx=>(r.o.e3 x hx).aB λi hi=>au i (.inr (by rw[<-hi];simp only[X3,Ys];exact .inl (.inr ⟨x,hx,rfl⟩)))),(λx hx=>(r.o.e4 x hx).aB λi hi=>au i (.inr (by rw[<-hi];simp only[X3,Ys];exact .inr ⟨x,hx,rfl⟩))),?_⟩;have hx:∀i,sB s=some i->sB V.s5=some i\/((∀y∈[sB V.s0,sB V.s1,sB V.s2,sB V.s3,sB V.s4],y≠some i)/\∀y∈([]++(V.aj.map λx=>sB x.2)++(V.aD.map λx=>sB x.2)++(V.aG.map λx=>sB x.2)),y≠some i):=λi hi=>by
   exact z9
  exact RF.xD hx
 refine⟨own,r.hN,hm,λhb=>?_⟩;have hbl:=r.lt;have S3:=r.ne;rw[hd]at S3;have e:{V with aO:=L,s5:=s}.bl=[sB V.s0,sB V.s1,sB V.s2,sB V.s3,sB V.s4]++sB s:: ([]++(V.aj.map λx=>sB x.2)++(V.aD.map λx=>sB x.2)++(V.aG.map λx=>sB x.2)):=rfl;exact MO
end
def tK(B:ah)(b:Nat)(V:RV)(e:gq)(d:Kd)(k:ah):Prop:=∃g' V',k=B++g'/\b9 B.length (B++g') b V'/\V'.an=dz V.an e d
def iD{B g:ah}{b i:Nat}{V:RV}{v:AV}(hb:(B++g)[b]? =some (.b V.row))(hv:v.one=true)(hi:i<7):aW 1 (.ptr b i) v (λz=>(B++g)[z]?)=some (az,.set b (.b (V.row.set i v))):=by
 rw[aL hb];exact bY hv (by show i+1<=7;omega)
def nA{B g:ah}{b:Nat}{V:RV}(X:ak)(hN:B.length<=b)(hb:(B++g)[b]? =some (.b V.row)):(B++g).set b X=B++g.set (b-B.length) X/\(B++g.set (b-B.length) X)[b]? =some X/\∀i,i≠b->(B++g.set (b-B.length) X)[i]? =(B++g)[i]? :=by
 have h1:(B++g).set b X=B++g.set (b-B.length) X:=YP _ _ hN;refine⟨h1,?_,λi hi=>?_⟩
 ·rw[<-h1,Yd (XT.1 hb).1]
 ·rw[<-h1,Yc (Zk hi)]
def eX{ts h}:cT [] ts h=some (.dN []):=rfl
section
variable {B g g':ah}{b:Nat}{V:RV}{e:gq}{d:Kd}
def LF(r:b9 B.length (B++g) b V){s:AV}{L:List gN}(hff:Fr B.length (B++g') s 3 (L.map cB))(hb':∀i,sB s=some i->sB V.s0=some i\/(B++g).length<=i)(hk1:∀i,i<(B++g).length->sB V.s0≠some i->(B++g')[i]? =(B++g)[i]?)
  (hreg:{V with lines:=L,s0:=s}.an=dz V.an e d):tK B b V e d ((B++g').set b (.b (V.row.set 1 s))):=by
 have hbl:=r.lt;have Q4:sB V.s0≠some b:=λz=>r.ne (by rw[<-z];simp[RV.bl])
 have mB:(B++g')[b]? =some (.b V.row):=(hk1 b hbl Q4).trans r.m;obtain⟨h1,h2,h3⟩:=nA (.b (V.row.set 1 s)) r.hN mB;have hsb:∀i,sB s=some i->i≠b:=λi hi z=>by
  exact IL
 exact⟨_,_,h1,r.Mw (hff.aB λi hi=>h3 i (hsb i hi)) hb' h2 (λi hi hne Q4=>(h3 i Q4).trans (hk1 i hi hne)),hreg⟩
def LD(r:b9 B.length (B++g) b V){s:AV}{L:List rW}(hff:Fr B.length (B++g') s 2 (L.map dV))(hb':∀i,sB s=some i->sB V.s1=some i\/(B++g).length<=i)(hk1:∀i,i<(B++g).length->sB V.s1≠some i->(B++g')[i]? =(B++g)[i]?)
  (hreg:{V with aJ:=L,s1:=s}.an=dz V.an e d):tK B b V e d ((B++g').set b (.b (V.row.set 2 s))):=by
 have hbl:=r.lt;have Q4:sB V.s1≠some b:=λz=>r.ne (by rw[<-z];simp[RV.bl])
 have mB:(B++g')[b]? =some (.b V.row):=(hk1 b hbl Q4).trans r.m;obtain⟨h1,h2,h3⟩:=nA (.b (V.row.set 2 s)) r.hN mB;have hsb:∀i,sB s=some i->i≠b:=λi hi z=>by
  exact IL
 exact⟨_,_,h1,r.Qd (hff.aB λi hi=>h3 i (hsb i hi)) hb' h2 (λi hi hne Q4=>(h3 i Q4).trans (hk1 i hi hne)),hreg⟩
def LC(r:b9 B.length (B++g) b V){s t:AV}{y:jP}(hff:Fr B.length (B++g') s 3 ((V.aj++[(y,t)]).map bn))(ht:Fr B.length (B++g') t 1 (y.aJ.map ao))(hb':∀i,sB s=some i->sB V.s2=some i\/(B++g).length<=i)(hk1:∀i,i<(B++g).length->sB V.s2≠some i->(B++g')[i]? =(B++g)[i]?)(hnt:∀i,sB t=some i->(B++g).length<=i/\sB s≠some i)
  (hreg:{V with aj:=V.aj++[(y,t)],s2:=s}.an=dz V.an e d):tK B b V e d ((B++g').set b (.b (V.row.set 3 s))):=by
 have hbl:=r.lt;have Q4:sB V.s2≠some b:=λz=>r.ne (by rw[<-z];simp[RV.bl])
 have mB:(B++g')[b]? =some (.b V.row):=(hk1 b hbl Q4).trans r.m;obtain⟨h1,h2,h3⟩:=nA (.b (V.row.set 3 s)) r.hN mB;have hsb:∀i,sB s=some i->i≠b:=λi hi z=>by
  exact IL
 have htb:∀i,sB t=some i->i≠b:=λi hi z=>by
  exact zm
 exact⟨_,_,h1,r.Qc (hff.aB λi hi=>h3 i (hsb i hi)) (ht.aB λi hi=>h3 i (htb i hi)) hb' hnt h2 (λi hi hne Q4=>(h3 i Q4).trans (hk1 i hi hne)),hreg⟩
def F8(r:b9 B.length (B++g) b V){s t:AV}{y:gy}(hff:Fr B.length (B++g') s 4 ((V.aD++[(y,t)]).map aV))(ht:Fr B.length (B++g') t 1 (y.bu.map ao))(hb':∀i,sB s=some i->sB V.s3=some i\/(B++g).length<=i)(hk1:∀i,i<(B++g).length->sB V.s3≠some i->(B++g')[i]? =(B++g)[i]?)(hnt:∀i,sB t=some i->(B++g).length<=i/\sB s≠some i)
  (hreg:{V with aD:=V.aD++[(y,t)],s3:=s}.an=dz V.an e d):tK B b V e d ((B++g').set b (.b (V.row.set 4 s))):=by
 have hbl:=r.lt;have Q4:sB V.s3≠some b:=λz=>r.ne (by rw[<-z];simp[RV.bl])
 have mB:(B++g')[b]? =some (.b V.row):=(hk1 b hbl Q4).trans r.m;obtain⟨h1,h2,h3⟩:=nA (.b (V.row.set 4 s)) r.hN mB;have hsb:∀i,sB s=some i->i≠b:=λi hi z=>by
  exact IL
 have htb:∀i,sB t=some i->i≠b:=λi hi z=>by
  exact zm
 exact⟨_,_,h1,r.Qb (hff.aB λi hi=>h3 i (hsb i hi)) (ht.aB λi hi=>h3 i (htb i hi)) hb' hnt h2 (λi hi hne Q4=>(h3 i Q4).trans (hk1 i hi hne)),hreg⟩
def LB(r:b9 B.length (B++g) b V){s t:AV}{y:jv}(hff:Fr B.length (B++g') s 3 ((V.aG++[(y,t)]).map bK))(ht:Fr B.length (B++g') t 1 (y.bp.map aK))(hb':∀i,sB s=some i->sB V.s4=some i\/(B++g).length<=i)(hk1:∀i,i<(B++g).length->sB V.s4≠some i->(B++g')[i]? =(B++g)[i]?)(hnt:∀i,sB t=some i->(B++g).length<=i/\sB s≠some i)
  (hreg:{V with aG:=V.aG++[(y,t)],s4:=s}.an=dz V.an e d):tK B b V e d ((B++g').set b (.b (V.row.set 5 s))):=by
 have hbl:=r.lt;have Q4:sB V.s4≠some b:=λz=>r.ne (by rw[<-z];simp[RV.bl])
 have mB:(B++g')[b]? =some (.b V.row):=(hk1 b hbl Q4).trans r.m;obtain⟨h1,h2,h3⟩:=nA (.b (V.row.set 5 s)) r.hN mB;have hsb:∀i,sB s=some i->i≠b:=λi hi z=>by
  exact IL
 have htb:∀i,sB t=some i->i≠b:=λi hi z=>by
  exact zm
 exact⟨_,_,h1,r.Qa (hff.aB λi hi=>h3 i (hsb i hi)) (ht.aB λi hi=>h3 i (htb i hi)) hb' hnt h2 (λi hi hne Q4=>(h3 i Q4).trans (hk1 i hi hne)),hreg⟩
def LA(r:b9 B.length (B++g) b V){s:AV}{L:List nE}(hff:Fr B.length (B++g') s 4 (L.map dm))(hb':∀i,sB s=some i->sB V.s5=some i\/(B++g).length<=i)(hk1:∀i,i<(B++g).length->sB V.s5≠some i->(B++g')[i]? =(B++g)[i]?)
  (hreg:{V with aO:=L,s5:=s}.an=dz V.an e d):tK B b V e d ((B++g').set b (.b (V.row.set 6 s))):=by
 have hbl:=r.lt;have Q4:sB V.s5≠some b:=λz=>r.ne (by rw[<-z];simp[RV.bl])
 have mB:(B++g')[b]? =some (.b V.row):=(hk1 b hbl Q4).trans r.m;obtain⟨h1,h2,h3⟩:=nA (.b (V.row.set 6 s)) r.hN mB;have hsb:∀i,sB s=some i->i≠b:=λi hi z=>by
  exact IL
 exact⟨_,_,h1,r.Mv (hff.aB λi hi=>h3 i (hsb i hi)) hb' h2 (λi hi hne Q4=>(h3 i Q4).trans (hk1 i hi hne)),hreg⟩
end
section
variable {P:Program}(T:fI P) {B g:ah}{b:Nat}{V:RV}{x:EV}
include T
def Ox(r:b9 B.length (B++g) b V)(c:Cx (B++g) V x .line):dq P 149 [.ptr b 0,.agg x.row] (B++g) (λ_ k=>tK B b V x.ev .line k):=by
 refine .eG 22 T.mix T.c149 ?_;intro ts hlen t0 t1;unfold fn149;have hex:=@bt.box _ _ c.e;have lb:=@e9 _ _ _ r.m;have i0:aX 1 x.sn (.i 0)=_:=(c.nm (i:=0) De).1;have d0:=@(c.nm (i:=0) De).2;have j1:aX 1 x.sv (.i 1)=_:=(c.vl (i:=1) De).1;have f1:=@(c.vl (i:=1) De).2.1;have q1:=(c.vl (i:=1) De).2.2;obtain⟨y,hy⟩:∃y:gN,y=⟨aP x.ev 0,bH x.ev 1,false⟩:=⟨_,rfl⟩;have Sx:cB y=[.str (aP x.ev 0),.i (bH x.ev 1),.bool false]:=by rw[hy];rfl
 refine Rs (pa t0 t1 @hex @lb @gk @aN @aY @i0 @d0 @j1 @f1) ?_;rw[<-Sx];refine WR.fQ (h0:=B) (cs:=V.lines.map cB) (ys:=[cB y]) (((r.o.i0).app _).app _) (Fr.push (N:=0) (Yt _) [cB y] (by simp[cB])).a8 De Si (by have:=c.w.len.l0;simp;omega) Xx ?_;intro g' Q1 hff hkp;have hrow:V.lines.map cB++[cB y]=(V.lines++[y]).map cB:=by rw[X4];rfl
 rw[hrow]at hff;rw[hrow];have hbl:=r.lt;have Q4:sB V.s0≠some b:=λe=>r.ne (by rw[<-e];simp[RV.bl])
 have hk1:∀i,i<(B++g).length->sB V.s0≠some i->(B++g')[i]? =(B++g)[i]? :=λi hi hne=>by
  exact IP
 have mB:(B++g')[b]? =some (.b V.row):=(hk1 b hbl Q4).trans r.m;have TR:=λ(b' o n e:Nat)=>iD (i:=1) (v:=.slice b' o n e) mB rfl De
 refine Rs (A4 t0 t1 @TR @eX) ?_;exact LF r hff (λi hi=>by cases hi;exact .inr (by simp only[XS];omega)) hk1 (by rw[hy];rfl)
def Ov(r:b9 B.length (B++g) b V)(c:Cx (B++g) V x .tape):dq P 152 [.ptr b 0,.agg x.row] (B++g) (λ_ k=>tK B b V x.ev .tape k):=by
 refine .eG 27 T.mix T.c152 ?_;intro ts hlen t0 t1;unfold fn152;have hex:=@bt.box _ _ c.e;have lb:=@e9 _ _ _ r.m;have i0:aX 1 x.sn (.i 0)=_:=(c.nm (i:=0) De).1;have d0:=@(c.nm (i:=0) De).2;have j0:aX 1 x.sv (.i 0)=_:=(c.vl (i:=0) De).1;have f0:=@(c.vl (i:=0) De).2.1;have q0:=(c.vl (i:=0) De).2.2;have j1:aX 1 x.sv (.i 1)=_:=(c.vl (i:=1) De).1;have f1:=@(c.vl (i:=1) De).2.1;have q1:=(c.vl (i:=1) De).2.2;have hw:IntKind.i64.wrap (bH x.ev 0+bH x.ev 1)=bH x.ev 0+bH x.ev 1:=bw Om Om;obtain⟨y,hy⟩:∃y:rW,y=⟨aP x.ev 0,bH x.ev 0+bH x.ev 1⟩:=⟨_,rfl⟩
 have Sx:dV y=[.str (aP x.ev 0),.i (bH x.ev 0+bH x.ev 1)]:=by rw[hy];rfl
 refine Rs (AH t0 t1 @hex @lb @lA @aN @aY @hw @i0 @d0 @j0 @f0 @j1 @f1) ?_;rw[<-Sx];refine WR.fQ (h0:=B) (cs:=V.aJ.map dV) (ys:=[dV y]) (((r.o.i1).app _).app _) (Fr.push (N:=0) (Yt _) [dV y] (by simp[dV])).a8 De Si (by have:=c.w.len.l1;simp;omega) Xx ?_;intro g' Q1 hff hkp;have hrow:V.aJ.map dV++[dV y]=(V.aJ++[y]).map dV:=by rw[X4];rfl
 rw[hrow]at hff;rw[hrow];have hbl:=r.lt;have Q4:sB V.s1≠some b:=λe=>r.ne (by rw[<-e];simp[RV.bl])
 have hk1:∀i,i<(B++g).length->sB V.s1≠some i->(B++g')[i]? =(B++g)[i]? :=λi hi hne=>by
  exact IP
 have mB:(B++g')[b]? =some (.b V.row):=(hk1 b hbl Q4).trans r.m;have TR:=λ(b' o n e:Nat)=>iD (i:=2) (v:=.slice b' o n e) mB rfl De
 refine Rs (A4 t0 t1 @TR @eX) ?_;exact LD r hff (λi hi=>by cases hi;exact .inr (by simp only[XS];omega)) hk1 (by rw[hy];rfl)
end
theorem um:∀(l:List Int) (x:Int),(∀s∈l,-1<=s/\s<=999999999)->-16777213<x->x<16777213->-16777213<l.foldl (λx s=>(257*x+s).tmod 16777213) x/\l.foldl (λx s=>(257*x+s).tmod 16777213) x<16777213
 |[],x,_,h1,h2=>⟨h1,h2⟩
 |s::l,x,hs,h1,h2=>by
  have hb:-16777213<(257*x+s).tmod 16777213/\(257*x+s).tmod 16777213<16777213:=by
   constructor
   ·have:=Int.lt_tmod_of_pos (257*x+s) (show(0:Int)<16777213 by decide);exact this
   ·exact Int.tmod_lt_of_pos _ De
  exact um l _ (λt ht=>hs t (YB _ ht)) hb.1 hb.2
section
variable {P:Program}(T:fI P) {h:ah}
include T
def r95{s l}(hs:aH h s 1 (l.map aK))(hl:l.length<2^30)(hb:∀s∈l,-1<=s/\s<=999999999):ay P 95 [s] h (λv _=>v=.i (ga l)):=by
 refine .kV 19 T.mix T.c95 ?_;intro ts hlen t0;unfold fn95;refine Rs (A2 t0 hs.aM) ?_;refine WL.inv T.mix (λn ts h'=>∃k:Nat,k<=l.length/\n=l.length-k/\h' =h/\ts.length=19/\slot ts 3=.i (ga (l.take k))/\slot ts 6=s/\slot ts 7=.i l.length/\slot ts 8=.i k) l.length
  ⟨0,Om,rfl,rfl,Sn,iQ,(Sq t0),(Sq t0),iQ⟩ ?_
 rintro _ ts _ ⟨k,hk,rfl,rfl,hlen,t3,t6,t7,t8⟩;by_cases hlt:k<l.length
 ·have e3:=fF hlt;have ix:=hs.dM (kk:=.i64) hlt;have ld:=hs.kS (i:=k) (x:=.i l[k]) hlt rfl (Ext.refl _);have e5:=wrapN (n:=k) Om;have hd:=um (l.take k) 1 (λs hs=>hb s (Y5 hs)) De De;have S9:=hb _ (Ya hlt);have Rl:-16777213<ga (l.take k)/\ga (l.take k)<16777213:=hd;have w1:IntKind.i64.wrap (257*ga (l.take k))=257*ga (l.take k):=bw Om Om;have w2:IntKind.i64.wrap (257*ga (l.take k)+l[k])=257*ga (l.take k)+l[k]:=bw Om Om;have er:=oA (k:=.i64) (a:=257*ga (l.take k)+l[k]) (b:=16777213) De;have Rc:ga (l.take (k+1))=(257*ga (l.take k)+l[k]).tmod 16777213:=by
   exact Jw
  rw[<-Rc]at er;refine Rs (pa t3 t6 t7 t8 e3 ix @ld @w1 @w2 @er e5) ?_;exact⟨_,Om,k+1,Om,rfl,rfl,rfl⟩
 ·have e3:=gK hlt;have e4:k=l.length:=Om
  rw[e4,Yz]at t3;exact Rs (A5 t3 t6 t7 t8 e3) Tv
end
section
variable {P:Program}(T:fI P) {B g:ah}{b:Nat}{V:RV}{x:EV}
include T
def Ou(r:b9 B.length (B++g) b V)(c:Cx (B++g) V x .gA):dq P 156 [.ptr b 0,.agg x.row] (B++g) (λ_ k=>tK B b V x.ev .gA k):=by
 refine .eG 27 T.mix T.c156 ?_;intro ts hlen t0 t1;unfold fn156;have hex:=@bt.box _ _ c.e;have lb:=@e9 _ _ _ r.m;have i0:aX 1 x.sn (.i 0)=_:=(c.nm (i:=0) De).1;have d0:=@(c.nm (i:=0) De).2;have i1:aX 1 x.sn (.i 1)=_:=(c.nm (i:=1) De).1;have d1:=@(c.nm (i:=1) De).2;have i2:aX 1 x.sn (.i 2)=_:=(c.nm (i:=2) De).1;have d2:=@(c.nm (i:=2) De).2;obtain⟨y,hy⟩:∃y:jP,y=⟨aP x.ev 0,aP x.ev 1,[aP x.ev 2]⟩:=⟨_,rfl⟩;obtain⟨t,ht⟩:∃t,t=AV.slice (B++g++[ak.b x.row]).length 0 1 1:=⟨_,rfl⟩;have RN:Fr (B++g).length (B++g++[ak.b x.row]++[ak.cells [.str (aP x.ev 2)] true true]) t 1 (y.aJ.map ao):=by
  rw[ht,hy];exact(Fr.push (h:=B++g++[ak.b x.row]) (N:=(B++g).length) Si [ao (aP x.ev 2)] (by simp[ao]))
 have Sx:bn (y,t)=[.str (aP x.ev 0),.str (aP x.ev 1),t]:=by rw[hy];rfl
 refine Rs (Gu t0 t1 @hex @lb @fK @aN @aY @i0 @d0 @i1 @d1 @i2 @d2) ?_;rw[<-ht];have ot:=RN.a8.one;refine Rs (A7 t0 t1 @ot @lb @fK @aN @aY) ?_;rw[<-Sx];refine WR.fQ (h0:=B) (cs:=V.aj.map bn) (ys:=[bn (y,t)]) ((((r.o.i2).app _).app _).app _) (Fr.push (N:=0) (Yt _) [bn (y,t)] (by simp[bn])).a8 De Si (by have:=c.w.len.l2;simp;omega) Xx ?_;intro g' Q1 hff hkp;have hrow:V.aj.map bn++[bn (y,t)]=(V.aj++[(y,t)]).map bn:=by rw[X4];rfl
 rw[hrow]at hff;rw[hrow];have hbl:=r.lt;have Q4:sB V.s2≠some b:=λe=>r.ne (by rw[<-e];simp[RV.bl])
 have hk1:∀i,i<(B++g).length->sB V.s2≠some i->(B++g')[i]? =(B++g)[i]? :=λi hi hne=>by
  exact IP
 have mB:(B++g')[b]? =some (.b V.row):=(hk1 b hbl Q4).trans r.m;have TR:=λ(b' o n e:Nat)=>iD (i:=3) (v:=.slice b' o n e) mB rfl De
 refine Rs (A4 t0 t1 @TR @eX) ?_;refine LC r hff ?_ (λi hi=>by cases hi;exact .inr (by simp only[XS];omega)) hk1 ?_ ?_
 ·exact(((RN.app _).aB λi hi=>hkp i (by have:=(RN.bQ hi).2;simp only[XS]at this ⊢;omega) (λb0 o n e he z=>by
   have h1:=(RN.bQ hi).1;have h2:=(r.o.i2.bQ (show sB V.s2=some i by rw[he,z];rfl)).2;omega)).low Si)
 ·intro i hi;exact PZ
 ·rw[hy];simp[RV.an,dz]
def Oo(r:b9 B.length (B++g) b V)(c:Cx (B++g) V x .source):dq P 162 [.ptr b 0,.agg x.row] (B++g) (λ_ k=>tK B b V x.ev .source k):=by
 refine .eG 22 T.mix T.c162 ?_;intro ts hlen t0 t1;unfold fn162;have hex:=@bt.box _ _ c.e;have lb:=@e9 _ _ _ r.m;have i0:aX 1 x.sn (.i 0)=_:=(c.nm (i:=0) De).1;have d0:=@(c.nm (i:=0) De).2;have i1:aX 1 x.sn (.i 1)=_:=(c.nm (i:=1) De).1;have d1:=@(c.nm (i:=1) De).2;obtain⟨y,hy⟩:∃y:gy,y=⟨aP x.ev 0,dS,aP x.ev 1,[]⟩:=⟨_,rfl⟩;obtain⟨t,ht⟩:∃t,t=AV.af:=⟨_,rfl⟩;have Sx:aV (y,t)=[.str (aP x.ev 0),.str [115,104,111,116,115],.str (aP x.ev 1),.af]:=by rw[hy,ht];rfl
 refine Rs (pa t0 t1 @hex @lb @fS @aN @aY @i0 @d0 @i1 @d1) ?_;rw[<-Sx];refine WR.fQ (h0:=B) (cs:=V.aD.map aV) (ys:=[aV (y,t)]) (((r.o.i3).app _).app _) (Fr.push (N:=0) (Yt _) [aV (y,t)] (by simp[aV])).a8 De Si (by have:=c.w.len.l3;simp;omega) Xx ?_;intro g' Q1 hff hkp;have hrow:V.aD.map aV++[aV (y,t)]=(V.aD++[(y,t)]).map aV:=by rw[X4];rfl
 rw[hrow]at hff;rw[hrow];have hbl:=r.lt;have Q4:sB V.s3≠some b:=λe=>r.ne (by rw[<-e];simp[RV.bl])
 have hk1:∀i,i<(B++g).length->sB V.s3≠some i->(B++g')[i]? =(B++g)[i]? :=λi hi hne=>by
  exact IP
 have mB:(B++g')[b]? =some (.b V.row):=(hk1 b hbl Q4).trans r.m;have TR:=λ(b' o n e:Nat)=>iD (i:=4) (v:=.slice b' o n e) mB rfl De
 refine Rs (A4 t0 t1 @TR @eX) ?_;refine F8 r hff ?_ (λi hi=>by cases hi;exact .inr (by simp only[XS];omega)) hk1 ?_ ?_
 ·rw[ht,hy];exact .nil
 ·intro i hi;rw[ht]at hi;cases hi
 ·rw[hy];simp[RV.an,dz]
def On(r:b9 B.length (B++g) b V)(c:Cx (B++g) V x .fY)(hc:bC V.an x.ev .fY=0)(gl:Gl (B++g)):dq P 164 [.ptr b 0,.agg x.row] (B++g) (λ_ k=>tK B b V x.ev .fY k):=by
 refine .eG 30 T.mix T.c164 ?_;intro ts hlen t0 t1;unfold fn164;have hex:=@bt.box _ _ c.e;have lb:=@e9 _ _ _ r.m;have i0:aX 1 x.sn (.i 0)=_:=(c.nm (i:=0) De).1;have d0:=@(c.nm (i:=0) De).2;have j1:aX 1 x.sv (.i 1)=_:=(c.vl (i:=1) De).1;have f1:=@(c.vl (i:=1) De).2.1;have q1:=(c.vl (i:=1) De).2.2;obtain⟨gmu,gtl,hg0⟩:=gl;have hn:1<=bH x.ev 1/\bH x.ev 1<=4:=by
  rw[bC]at hc;split at hc
  ·cases hc
  case isFalse hr=>exact iw hr
 have hw:IntKind.i64.wrap (bH x.ev 1-1)=bH x.ev 1-1:=bw Om Om;have a1:fj 4 2 (.ptr 0 0) (.i (bH x.ev 1-1))=some (.ptr 0 ((bH x.ev 1-1).toNat*2)):=by simp only[fj];rw[X9 Om,YJ]
 have a2:fj 2 1 (.ptr 0 ((bH x.ev 1-1).toNat*2)) (.i 1)=some (.ptr 0 ((bH x.ev 1-1).toNat*2+1)):=by simp[fj]
 have lg:∀{k:ah},Ext (B++g) k->ar none (.ptr 0 ((bH x.ev 1-1).toNat*2+1)) (λb=>k[b]?)=some (.str (jN (bH x.ev 1)),.au):=by
  intro k e;exact z93
 have hnl:1<=x.ev.names.length:=by rw[c.we.nl];decide
 have hnl2:x.ev.names.length<=3:=by rw[c.we.nl];decide
 obtain⟨s',es',QQ⟩:=c.e.n.FG (lo:=some (.i 1)) (hi:=none) (mA (k:=1) hnl);have et:List.take (x.ev.names.length-1) (List.drop 1 x.ev.names)=x.ev.names.drop 1:=YE Si;rw[et]at QQ;obtain⟨y,hy⟩:∃y:gy,y=⟨aP x.ev 0,jN (bH x.ev 1),[],x.ev.names.drop 1⟩:=⟨_,rfl⟩;refine Rs (AG t0 t1 @hex @lb @fS @aN @aY @hw @a1 @a2 @lg @es' @i0 @d0 @j1 @f1) ?_;refine WF.res T.c177 (r177 T (QQ.ext Xx) (by simp;omega)) ?_;rintro t g1 RN;have Sx:aV (y,t)=[.str (aP x.ev 0),.str (jN (bH x.ev 1)),.str [],t]:=by rw[hy];rfl
 have RN:Fr (B++g).length (B++g++[ak.b x.row]++g1) t 1 (y.bu.map ao):=by rw[hy];exact RN.low Si
 have ot:=RN.a8.one;refine Rs (A3 t0 t1 @ot) ?_;rw[<-Sx];refine WR.fQ (h0:=B) (cs:=V.aD.map aV) (ys:=[aV (y,t)]) ((((r.o.i3).app _).app _).app _) (Fr.push (N:=0) (Yt _) [aV (y,t)] (by simp[aV])).a8 De Si (by have:=c.w.len.l3;simp;omega) Xx ?_;intro g' Q1 hff hkp;exact z8
def Ol(r:b9 B.length (B++g) b V)(c:Cx (B++g) V x .merge):dq P 166 [.ptr b 0,.agg x.row] (B++g) (λ_ k=>tK B b V x.ev .merge k):=by
 refine .eG 31 T.mix T.c166 ?_;intro ts hlen t0 t1;unfold fn166;have hex:=@bt.box _ _ c.e;have lb:=@e9 _ _ _ r.m;have i0:aX 1 x.sn (.i 0)=_:=(c.nm (i:=0) De).1;have d0:=@(c.nm (i:=0) De).2;have i1:aX 1 x.sn (.i 1)=_:=(c.nm (i:=1) De).1;have d1:=@(c.nm (i:=1) De).2;have hnl:1<=x.ev.names.length:=by rw[c.we.nl];decide
 have hnl2:x.ev.names.length<=3:=by rw[c.we.nl];decide
 obtain⟨s',es',QQ⟩:=c.e.n.FG (lo:=some (.i 1)) (hi:=none) (mA (k:=1) hnl);have et:List.take (x.ev.names.length-1) (List.drop 1 x.ev.names)=x.ev.names.drop 1:=YE Si;rw[et]at QQ;have k1:aP x.ev 1∈hO V.an:=c.nk.kn 1 3 rfl;refine Rs (qt t0 t1 @hex @lb @fS @aE @aN @aY @i0 @d0 @i1 @d1) ?_;refine WF.res T.c245 (r245 T (c.o.ext Xx) c.w.len k1) ?_;rintro _ g1 ⟨z,hz,hz1,rfl⟩;unfold aV;obtain⟨y,hy⟩:∃y:gy,y=⟨aP x.ev 0,(gS V.an (aP x.ev 1)).gives,[],x.ev.names.drop 1⟩:=⟨_,rfl⟩;refine Rs (A5 t0 t1 @lb @aN @es') ?_;refine WF.res T.c177 (r177 T (QQ.ext Xx) (by simp;omega)) ?_;rintro t g2 RN;have Sx:aV (y,t)=[.str (aP x.ev 0),.str z.1.gives,.str [],t]:=by rw[hy,hz1];rfl
 have RN:Fr (B++g).length (B++g++[ak.b x.row]++g1++g2) t 1 (y.bu.map ao):=by rw[hy];exact RN.low (by simp only[XS];omega)
 have ot:=RN.a8.one;refine Rs (A3 t0 t1 @ot) ?_;rw[<-Sx];refine WR.fQ (h0:=B) (cs:=V.aD.map aV) (ys:=[aV (y,t)]) (((((r.o.i3).app _).app _).app _).app _) (Fr.push (N:=0) (Yt _) [aV (y,t)] (by simp[aV])).a8 De Si (by have:=c.w.len.l3;simp;omega) Xx ?_;intro g' Q1 hff hkp;exact z8
def Oh(r:b9 B.length (B++g) b V)(c:Cx (B++g) V x .gB):dq P 174 [.ptr b 0,.agg x.row] (B++g) (λ_ k=>tK B b V x.ev .gB k):=by
 refine .eG 32 T.mix T.c174 ?_;intro ts hlen t0 t1;unfold fn174;have hex:=@bt.box _ _ c.e;have lb:=@e9 _ _ _ r.m;have i0:aX 1 x.sn (.i 0)=_:=(c.nm (i:=0) De).1;have d0:=@(c.nm (i:=0) De).2;have i1:aX 1 x.sn (.i 1)=_:=(c.nm (i:=1) De).1;have d1:=@(c.nm (i:=1) De).2;have k1:aP x.ev 1∈fM V.an:=c.nk.kn 1 4 rfl;refine Rs (qt t0 t1 @hex @lb @gW @aE @aN @aY @i0 @d0 @i1 @d1) ?_;refine WF.res T.c124 (r124 T (c.o.ext Xx) c.w.len k1) ?_;rintro _ g1 ⟨z,hz,hz1,rfl⟩;have hzb:=(c.w.jb z.1 (Ym hz)).2;unfold bK;refine Rs (A2 t0 t1) ?_;refine WF.ce T.c95 (r95 T ((c.o.e4 z hz).ext Xx) Om hzb.2.2) λg2=>?_
 obtain⟨y,hy⟩:∃y:nE,y=⟨aP x.ev 0,aP x.ev 1,ga (eS V.an (aP x.ev 1)).bp,false⟩:=⟨_,rfl⟩;have Sx:dm y=[.str (aP x.ev 0),.str (aP x.ev 1),.i (ga z.1.bp),.bool false]:=by rw[hy,hz1];rfl
 refine Rs (A2 t0 t1) ?_;rw[<-Sx];refine WR.fQ (h0:=B) (cs:=V.aO.map dm) (ys:=[dm y]) (((((r.o.i5).app _).app _).app _).app _) (Fr.push (N:=0) (Yt _) [dm y] (by simp[dm])).a8 De Si (by have:=c.w.len.l5;simp;omega) Xx ?_;intro g' Q1 hff hkp;have hrow:V.aO.map dm++[dm y]=(V.aO++[y]).map dm:=by rw[X4];rfl
 rw[hrow]at hff;rw[hrow];have hbl:=r.lt;have Q4:sB V.s5≠some b:=λe=>r.ne (by rw[<-e];simp[RV.bl])
 have hk1:∀i,i<(B++g).length->sB V.s5≠some i->(B++g')[i]? =(B++g)[i]? :=λi hi hne=>by
  exact IP
 have mB:(B++g')[b]? =some (.b V.row):=(hk1 b hbl Q4).trans r.m;have TR:=λ(b' o n e:Nat)=>iD (i:=6) (v:=.slice b' o n e) mB rfl De
 refine Rs (A4 t0 t1 @TR @eX) ?_;exact LA r hff (λi hi=>by cases hi;exact .inr (by simp only[XS];omega)) hk1 (by rw[hy];rfl)
end
def b9.P9{N b h k V}(r:b9 N h b V){i}(hi:i<V.aG.length){y}(hy:y.name=V.aG[i].1.name/\y.mod=V.aG[i].1.mod)(hf:Fr N k V.aG[i].2 1 (y.bp.map aK))
  (hk:∀j,j<h.length->sB V.aG[i].2≠some j->k[j]? =h[j]?):b9 N k b {V with aG:=V.aG.set i (y,V.aG[i].2) }:=by
 have hin:∀j,some j∈V.bl->N<=j/\j<h.length:=λj hj=>r.o.dU hj
 have hbl:{V with aG:=V.aG.set i (y,V.aG[i].2) }.bl=V.bl:=by
  simp only[RV.bl,Z1];congr 1;have:sB V.aG[i].2=(V.aG.map λx=>sB x.2)[i]'(by simpa using hi):=Si
  exact Gy
 obtain⟨h1,h2,h3⟩:=Zc.1 (show lh (([sB V.s0,sB V.s1,sB V.s2,sB V.s3,sB V.s4,sB V.s5]++(V.aj.map λx=>sB x.2)++(V.aD.map λx=>sB x.2))++(V.aG.map λx=>sB x.2))from r.o.di);have Sm:sB V.aG[i].2∈V.aG.map λx=>sB x.2:=Ym (f:=λx:jv×AV=>sB x.2) (Ya hi)
 have kA:∀j,some j∈([sB V.s0,sB V.s1,sB V.s2,sB V.s3,sB V.s4,sB V.s5]++(V.aj.map λx=>sB x.2)++(V.aD.map λx=>sB x.2))->k[j]? =h[j]? :=λj hj=>
  hk j (hin j (by rw[RV.bl];exact X3.2 (.inl hj))).2 (h3 _ hj _ Sm j rfl)
 have k6:∀j,some j∈[sB V.s0,sB V.s1,sB V.s2,sB V.s3,sB V.s4,sB V.s5]->k[j]? =h[j]? :=λj hj=>kA j (by simp only[X3];exact .inl (.inl hj))
 have hrow:(V.aG.set i (y,V.aG[i].2)).map bK=V.aG.map bK:=by
  rw[Z1];have:bK (y,V.aG[i].2)=(V.aG.map bK)[i]'(by simpa using hi):=by simp[bK,hy.1,hy.2]
  exact Gy
 have own:cK N k {V with aG:=V.aG.set i (y,V.aG[i].2) }:=by
  refine⟨r.o.i0.aB λj hj=>k6 j (by rw[<-hj];simp),r.o.i1.aB λj hj=>k6 j (by rw[<-hj];simp),r.o.i2.aB λj hj=>k6 j (by rw[<-hj];simp),r.o.i3.aB λj hj=>k6 j (by rw[<-hj];simp),?_,r.o.i5.aB λj hj=>k6 j (by rw[<-hj];simp),?_,?_,?_,?_⟩
  ·show Fr N k V.s4 3 ((V.aG.set i (y,V.aG[i].2)).map bK);rw[hrow];exact r.o.i4.aB λj hj=>k6 j (by rw[<-hj];simp)
  ·exactλx hx=>(r.o.e2 x hx).aB λj hj=>kA j (by rw[<-hj];simp only[X3,Ys];exact .inl (.inr ⟨x,hx,rfl⟩))
  ·exactλx hx=>(r.o.e3 x hx).aB λj hj=>kA j (by rw[<-hj];simp only[X3,Ys];exact .inr ⟨x,hx,rfl⟩)
  ·intro x hx;obtain⟨n,hn,rfl⟩:=Z2 hx;have Vc:n<V.aG.length:=by simpa using hn
   by_cases hni:n=i
   ·subst hni;simp only[ZT];exact hf
   ·simp only[aak (Zk hni)];refine(r.o.e4 _ (Ya Vc)).aB λj hj=>hk j ?_ λe=>?_
    ·exact((r.o.e4 _ (Ya Vc)).bQ hj).2
    ·have e1:(V.aG.map λx=>sB x.2)[n]'(by simpa using Vc)=some j:=by simpa using hj
     have e2:(V.aG.map λx=>sB x.2)[i]'(by simpa using hi)=some j:=by simpa using e
     rcases Nat.lt_or_gt_of_ne hni with hlt|hlt
     ·exact List.pairwise_iff_getElem.1 h2 n i (by simpa using Vc) (by simpa using hi) hlt j e1 e2
     ·exact List.pairwise_iff_getElem.1 h2 i n (by simpa using hi) (by simpa using Vc) hlt j e2 e1
  ·show lh {V with aG:=V.aG.set i (y,V.aG[i].2) }.bl;rw[hbl];exact r.o.di
 refine⟨own,r.hN,?_,by rw[hbl];exact r.ne⟩;have:sB V.aG[i].2≠some b:=λe=>r.ne (by rw[<-e,RV.bl];exact X3.2 (.inr Sm))
 exact(hk b r.lt this).trans r.m
section
variable {P:Program}(T:fI P) {B g:ah}{b:Nat}{V:RV}{x:EV}
include T
def Oq(r:b9 B.length (B++g) b V)(c:Cx (B++g) V x .accept):dq P 160 [.ptr b 0,.agg x.row] (B++g) (λ_ k=>tK B b V x.ev .accept k):=by
 refine .eG 19 T.mix T.c160 ?_;intro ts hlen t0 t1;unfold fn160 yt;have hex:=@bt.box _ _ c.e;have lb:=@e9 _ _ _ r.m;have i0:aX 1 x.sn (.i 0)=_:=(c.nm (i:=0) De).1;have d0:=@(c.nm (i:=0) De).2;have hn:aP x.ev 0∈gP V.an:=c.nk.kn 0 0 rfl;have hlt:aZ (gP V.an) (aP x.ev 0)<V.lines.length:=by have:=cM hn;simpa [gP,RV.an]using this
 have ei:cP (λy:gN=>decide (y.name=aP x.ev 0)) V.lines=(aZ (gP V.an) (aP x.ev 0):Int):=ep (f:=gN.name) hn;have ix:aX 3 V.s0 (.i (aZ (gP V.an) (aP x.ev 0):Int))=some (cW V.s0 3 (aZ (gP V.an) (aP x.ev 0)),.au):=c.o.i0.dM hlt;have sp:dO V.an (aP x.ev 0)=V.lines[aZ (gP V.an) (aP x.ev 0)]:=cV hn;refine Rs (A8 t0 t1 @hex @lb @gk @aN @i0 @d0) ?_;refine WF.ce T.c142 (r142 T (c.o.i0.ext Xx) (by have:=c.w.len.l0;omega) _) λg1=>?_
 rw[ei];refine Rs (A3 t0 t1 ix) ?_;rw[XV B g,XV B];refine WR.vi (h0:=B) (x':={V.lines[aZ (gP V.an) (aP x.ev 0)]with acc:=true}) (by rw[<-XV,<-XV];exact(r.o.i0.app _).app _) hlt De rfl rfl ?_;intro g' Q1 hff hkp;have hbl:=r.lt;have Q4:sB V.s0≠some b:=λe=>r.ne (by rw[<-e];simp[RV.bl])
 have hk1:∀i,i<(B++g).length->sB V.s0≠some i->(B++g')[i]? =(B++g)[i]? :=λi hi hne=>by
  rw[hkp i (λb0 o n e he z=>hne (by rw[he,z];rfl)),<-XV,<-XV];exact MK
 refine Rs (A3 t0 t1 @eX) ?_;refine⟨g',{V with lines:=V.lines.set (aZ (gP V.an) (aP x.ev 0)) {V.lines[aZ (gP V.an) (aP x.ev 0)]with acc:=true},s0:=V.s0},rfl,r.Mw hff (λi hi=>.inl hi) ((hk1 b hbl Q4).trans r.m) (λi hi h1 _=>hk1 i hi h1),?_⟩;simp only[dz,sp];rfl
def Og(r:b9 B.length (B++g) b V)(c:Cx (B++g) V x .rel):dq P 176 [.ptr b 0,.agg x.row] (B++g) (λ_ k=>tK B b V x.ev .rel k):=by
 refine .eG 19 T.mix T.c176 ?_;intro ts hlen t0 t1;unfold fn176 yt;have hex:=@bt.box _ _ c.e;have lb:=@e9 _ _ _ r.m;have i0:aX 1 x.sn (.i 0)=_:=(c.nm (i:=0) De).1;have d0:=@(c.nm (i:=0) De).2;have hn:aP x.ev 0∈jg V.an:=c.nk.kn 0 5 rfl;have hlt:aZ (jg V.an) (aP x.ev 0)<V.aO.length:=by have:=cM hn;simpa [jg,RV.an]using this
 have ei:cP (λy:nE=>decide (y.name=aP x.ev 0)) V.aO=(aZ (jg V.an) (aP x.ev 0):Int):=ep (f:=nE.name) hn;have ix:aX 4 V.s5 (.i (aZ (jg V.an) (aP x.ev 0):Int))=some (cW V.s5 4 (aZ (jg V.an) (aP x.ev 0)),.au):=c.o.i5.dM hlt;have sp:gX V.an (aP x.ev 0)=V.aO[aZ (jg V.an) (aP x.ev 0)]:=cV hn;refine Rs (A8 t0 t1 @hex @lb @gW @aN @i0 @d0) ?_;refine WF.ce T.c146 (r146 T (c.o.i5.ext Xx) (by have:=c.w.len.l5;omega) _) λg1=>?_
 rw[ei];refine Rs (A3 t0 t1 ix) ?_;rw[XV B g,XV B];refine WR.vi (h0:=B) (x':={V.aO[aZ (jg V.an) (aP x.ev 0)]with rel:=true}) (by rw[<-XV,<-XV];exact(r.o.i5.app _).app _) hlt De rfl rfl ?_;intro g' Q1 hff hkp;have hbl:=r.lt;have Q4:sB V.s5≠some b:=λe=>r.ne (by rw[<-e];simp[RV.bl])
 have hk1:∀i,i<(B++g).length->sB V.s5≠some i->(B++g')[i]? =(B++g)[i]? :=λi hi hne=>by
  rw[hkp i (λb0 o n e he z=>hne (by rw[he,z];rfl)),<-XV,<-XV];exact MK
 refine Rs (A3 t0 t1 @eX) ?_;refine⟨g',{V with aO:=V.aO.set (aZ (jg V.an) (aP x.ev 0)) {V.aO[aZ (jg V.an) (aP x.ev 0)]with rel:=true},s5:=V.s5},rfl,r.Mv hff (λi hi=>.inl hi) ((hk1 b hbl Q4).trans r.m) (λi hi h1 _=>hk1 i hi h1),?_⟩;simp only[dz,sp];rfl
def Lx(r:b9 B.length (B++g) b V){d}(c:Cx (B++g) V x d)(hd:1<cF d)(h0:0<(bM d).length)(hn:aP x.ev 0∈fM V.an)(hlt1:bH x.ev 1<(eS V.an (aP x.ev 0)).bp.length)(s:Int):
  dq P 250 [.ptr b 0,.agg x.row,.i s] (B++g) (λ_ k=>∃g' V',k=B++g'/\b9 B.length (B++g') b V'/\V'.an={V.an with aG:=mT V.an x.ev s}):=by
 refine .nL 28 T.mix T.c250 ?_;intro ts hlen t0 t1 t2;unfold fn250;have hex:=@bt.box _ _ c.e;have lb:=@e9 _ _ _ r.m;have i0:aX 1 x.sn (.i 0)=_:=(c.nm (i:=0) h0).1;have d0:=@(c.nm (i:=0) h0).2;have j1:aX 1 x.sv (.i 1)=_:=(c.vl (i:=1) hd).1;have f1:=@(c.vl (i:=1) hd).2.1;have q1:=(c.vl (i:=1) hd).2.2;have hlt:aZ (fM V.an) (aP x.ev 0)<V.aG.length:=by have:=cM hn;simpa [fM,RV.an]using this
 have ei:cP (λy:jv×AV=>decide (y.1.name=aP x.ev 0)) V.aG=(aZ (fM V.an) (aP x.ev 0):Int):=(ep (f:=λy:jv×AV=>y.1.name) (by rw[<-eF];exact hn)).trans (by rw[eF]);have ix:aX 3 V.s4 (.i (aZ (fM V.an) (aP x.ev 0):Int))=some (cW V.s4 3 (aZ (fM V.an) (aP x.ev 0)),.au):=c.o.i4.dM hlt;have sp:(V.aG[aZ (fM V.an) (aP x.ev 0)]).1=eS V.an (aP x.ev 0):=by
  have:=cV (f:=jv.name) (l:=V.an.aG) (n:=aP x.ev 0) (d:=tU) hn;rw[show eS V.an (aP x.ev 0)=_ from this];exact Dc
 obtain⟨p,hp⟩:∃p,p=aZ (fM V.an) (aP x.ev 0):=⟨_,rfl⟩;rw[<-hp]at ei ix;have hlt:p<V.aG.length:=by rw[hp];exact hlt
 have sp:V.aG[p].1=eS V.an (aP x.ev 0):=by rw[<-sp];congr 2
 have l2:∀{k:ah},Ext (B++g) k->ar none (lK V.s4 3 p 2) (λb=>k[b]?)=some (V.aG[p].2,.au):=λ{k} e=>c.o.i4.pY hlt rfl e
 have oj:=r.o.e4 _ (Ya hlt);have hsl:(bH x.ev 1).toNat<V.aG[p].1.bp.length:=by rw[sp];omega
 have VT:bH x.ev 1=((bH x.ev 1).toNat:Int):=Om
 have iy:aX 1 V.aG[p].2 (.i (bH x.ev 1))=some (cW V.aG[p].2 1 (bH x.ev 1).toNat,.au):=by
  rw[VT];exact oj.a8.dM hsl
 refine Rs (A9 t0 t1 t2 @hex @lb @fy @aN @i0 @d0) ?_;refine WF.ce T.c145 (r145 T (c.o.i4.ext Xx) c.o.jl.2.2 (by have:=c.w.len.l4;omega) _) λg1=>?_
 rw[ei];refine Rs (A9 t0 t1 t2 ix @l2 @aY @j1 @f1 @iy) ?_;rw[XV B g,XV B];have UO:cW V.aG[p].2 1 (bH x.ev 1).toNat=lK V.aG[p].2 1 (bH x.ev 1).toNat 0:=rfl;rw[UO];refine WR.vi (h0:=B) (x':=s) (row:=aK) (L:=V.aG[p].1.bp) (by rw[<-XV,<-XV];exact(oj.app _).app _) hsl De rfl rfl ?_;intro g' Q1 hff hkp;have hk1:∀i,i<(B++g).length->sB V.aG[p].2≠some i->(B++g')[i]? =(B++g)[i]? :=λi hi hne=>by
  rw[hkp i (λb0 o n e he z=>hne (by rw[he,z];rfl)),<-XV,<-XV];exact MK
 refine Rs (A4 t0 t1 t2 @eX) ?_;refine⟨g',{V with aG:=V.aG.set p ({V.aG[p].1 with bp:=V.aG[p].1.bp.set (bH x.ev 1).toNat s},V.aG[p].2) },rfl,r.P9 hlt ⟨rfl,rfl⟩ hff hk1,?_⟩;have e:mT V.an x.ev s=(V.aG.set p ({V.aG[p].1 with bp:=V.aG[p].1.bp.set (bH x.ev 1).toNat s},V.aG[p].2)).map Prod.fst:=by
  rw[mT,<-hp,<-sp,Z1];rfl
 rw[e];rfl
def Oj(r:b9 B.length (B++g) b V)(c:Cx (B++g) V x .fX)(hc:bC V.an x.ev .fX=0):dq P 170 [.ptr b 0,.agg x.row] (B++g) (λ_ k=>tK B b V x.ev .fX k):=by
 refine .eG 11 T.mix T.c170 ?_;intro ts hlen t0 t1;unfold fn170;have hex:=@bt.box _ _ c.e;have j2:aX 1 x.sv (.i 2)=_:=(c.vl (i:=2) De).1;have f2:=@(c.vl (i:=2) De).2.1;have k0:aP x.ev 0∈fM V.an:=c.nk.kn 0 4 rfl;have hlt:bH x.ev 1<(eS V.an (aP x.ev 0)).bp.length:=by
  exact PK
 refine Rs (A7 t0 t1 @hex @cA @aY @j2 @f2) ?_;rw[XV B g];refine WF.gen T.c250 (Lx T (B:=B) (by rw[<-XV];exact r.app _) (by rw[<-XV];exact c.ext Xx) De De k0 hlt (bH x.ev 2)) ?_;rintro _ _ ⟨g',V',rfl,h1,h2⟩;exact Ji
def Oi(r:b9 B.length (B++g) b V)(c:Cx (B++g) V x .fail)(hc:bC V.an x.ev .fail=0):dq P 172 [.ptr b 0,.agg x.row] (B++g) (λ_ k=>tK B b V x.ev .fail k):=by
 refine .eG 7 T.mix T.c172 ?_;intro ts hlen t0 t1;unfold fn172;have hex:=@bt.box _ _ c.e;have k0:aP x.ev 0∈fM V.an:=c.nk.kn 0 4 rfl;have hlt:bH x.ev 1<(eS V.an (aP x.ev 0)).bp.length:=by
  exact PK
 refine Rs (A4 t0 t1 @hex @cA) ?_;rw[XV B g];refine WF.gen T.c250 (Lx T (B:=B) (by rw[<-XV];exact r.app _) (by rw[<-XV];exact c.ext Xx) De De k0 hlt (-1)) ?_;rintro _ _ ⟨g',V',rfl,h1,h2⟩;exact Ji
end
def wQ{k:Nat}(hk:k<=32):ez .and (.int .u64 (k:Int)) (.int .u64 4294967295)=some (.int .u64 (k:Int))/\ez .shr (.int .u64 (k:Int)) (.int .u64 32)=some (.int .u64 0):=by
 have:k=0\/k=1\/k=2\/k=3\/k=4\/k=5\/k=6\/k=7\/k=8\/k=9\/k=10\/k=11\/k=12\/k=13\/k=14\/k=15\/k=16\/k=17\/k=18\/k=19\/k=20\/k=21\/k=22\/k=23\/k=24\/k=25\/k=26\/k=27\/k=28\/k=29\/k=30\/k=31\/k=32:=Om
 rcases this with rfl|rfl|rfl|rfl|rfl|rfl|rfl|rfl|rfl|rfl|rfl|rfl|rfl|rfl|rfl|rfl|rfl|rfl|rfl|rfl|rfl|rfl|rfl|rfl|rfl|rfl|rfl|rfl|rfl|rfl|rfl|rfl|rfl<;>exact⟨rfl,rfl⟩
def zk:ez .and (.int .u64 0) (.int .u64 4294967295)=some (.int .u64 0)/\ez .shr (.int .u64 0) (.int .u64 32)=some (.int .u64 0):=⟨rfl,rfl⟩
def BV:ez .and (.int .u64 1) (.int .u64 4294967295)=some (.int .u64 1)/\ez .shr (.int .u64 1) (.int .u64 32)=some (.int .u64 0):=⟨rfl,rfl⟩
def H8{x y:c6}{ρ:c6->AV}{h:ah}{b o n m N:Nat}{c:List AV}{tl:Bool}(hx:ρ x=.slice b o n 1)(hy:ρ y=.slice b 0 m 1)(hb:h[b]? =some (.cells c true tl))(hn:o+n<=c.length)(hm:m<=c.length)(h0:0<min m n):
  stepT (.wI 1 x y) ρ (λz=>h[z]?) N=some (.i (min m n:Nat),.set b (.cells (fN c o (c.take (min m n))) true tl)):=by
 have hc:ff 1 (λz=>h[z]?) (ρ y)=some (c.take m,m):=by
  rw[hy];simp only[ff,Yf,hb,YJ,Z4,Zj];rw[X9 hm]
 have e:stepT (.wI 1 x y) ρ (λz=>h[z]?) N=(match ρ x,ff 1 (λz=>h[z]?) (ρ y)with
  |.slice b o n es',some (ys,k)=>
   if es' =1 then
    if min k n=0 then some (.i 0,.au)
    else
     match h[b]? with
     |some (.cells c true tl)=>if o+min k n*1<=c.length then some (.i (min k n:Nat),.set b (.cells (fN c o (ys.take (min k n*1))) true tl))else none
     |_=>none
   else none
  |.af,some _=>some (.i 0,.au)
  |_,_=>none):=rfl
 rw[e,hc,hx];simp only[Yf,hb,Z4];rw[X5 Om,X9 Om,List.take_take,ZN (Nat.min_le_left _ _)]
def Es{x y ρ h b n N c v tl}(hx:ρ x=.slice b 0 n 1)(hy:aH h (ρ y) 1 [[v]])(hb:h[b]? =some (.cells c true tl))(hn:c.length=n)(h0:0<n):
  stepT (.wI 1 x y) ρ (λz=>h[z]?) N=some (.i 1,.set b (.cells (c.set 0 v) true tl)):=by
 have hc:=hy.ff;have e:stepT (.wI 1 x y) ρ (λz=>h[z]?) N=(match ρ x,ff 1 (λz=>h[z]?) (ρ y)with
  |.slice b o n es',some (ys,k)=>
   if es' =1 then
    if min k n=0 then some (.i 0,.au)
    else
     match h[b]? with
     |some (.cells c true tl)=>if o+min k n*1<=c.length then some (.i (min k n:Nat),.set b (.cells (fN c o (ys.take (min k n*1))) true tl))else none
     |_=>none
   else none
  |.af,some _=>some (.i 0,.au)
  |_,_=>none):=rfl
 have hm:min 1 n=1:=Om
 rw[e,hc,hx];simp only[Yf,hb,Yn,hm,Z4];rw[X5 De,X9 Om];rfl
def Bo{v z c m k}(hm:c+m<=k):fN (List.replicate c v++List.replicate (k-c) z) c (List.replicate m v)=List.replicate (c+m) v++List.replicate (k-(c+m)) z:=by
 induction m generalizing c with
 |zero=>rfl
 |succ m ih=>
  rw[Zx,ph];have hk:k-c=(k-(c+1))+1:=Om
  have e:(List.replicate c v++List.replicate (k-c) z).set c v=List.replicate (c+1) v++List.replicate (k-(c+1)) z:=by
   rw[YP _ _ Si,Y6,YY,hk,Zx,List.set_cons_zero,List.replicate_succ',XV];rfl
  rw[e,ih Om];congr 2<;>omega
def Bf{v z:AV}{c m k:Nat}(hm:m<=c):(List.replicate c v++List.replicate (k-c) z).take m=List.replicate m v:=by
 rw[List.take_append_of_le_length (by simpa using hm),List.take_replicate,ZN hm]
section
variable {P:Program}(T:fI P) {h:ah}
include T
def r286{k:Nat}(hk:k<=32):ay P 286 [.int .u64 1,.int .u64 (k:Int)] h (λv _=>v=.dN [.int .u64 0,.int .u64 (k:Int)]):=by
 refine .eG 51 T.mix T.c286 ?_;intro ts hlen t0 t1;unfold fn286;obtain⟨a1,a2⟩:=wQ hk;obtain⟨b1,b2⟩:=zk;obtain⟨c1,c2⟩:=BV;have w1:IntKind.u64.wrap (1*(k:Int))=(k:Int):=by rw[Int.one_mul];exact yk Om Om
 have w2:IntKind.u64.wrap (0*(k:Int))=0:=by rw[Int.zero_mul];rfl
 have w3:IntKind.u64.wrap (0+0)=0:=rfl;have w4:IntKind.u64.wrap (1*0)=0:=rfl;have w5:IntKind.u64.wrap (0*0)=0:=rfl;exact Rs (Gu t0 t1 @a1 @a2 @b1 @b2 @c1 @c2 @w1 @w2 @w3 @w4 @w5) Tv
def r267{k:Nat}(hk:k<=32):ay P 267 [.int .u64 1,.int .u64 (k:Int)] h (λv _=>v=.dN [.int .u64 0,.int .u64 (k:Int)]):=by
 refine .eG 30 T.mix T.c267 ?_;intro ts hlen t0 t1;unfold fn267;refine Rs (A2 t0 t1) ?_;refine WF.ce T.c286 (r286 T hk) λg1=>?_
 exact Rs (A2 t0 t1) Tv
def r248{s:AV}(hs:aH h s 1 (([-1] :List Int).map aK)){k:Nat}(hk:k<=32)(hk0:0<k):ay P 248 [s,.i (k:Int)] h (λv h'=>Fr h.length h' v 1 ((List.replicate k (-1:Int)).map aK)):=by
 refine .eG 48 T.mix T.c248 ?_;intro ts hlen t0 t1;unfold fn248;have q0:decide ((k:Int)<0)=false:=XU Om;have TO:=λG=>hs.aM G
 have c1:IntKind.u64.wrap ((([-1] :List Int).length:Nat):Int)=1:=rfl;have c2:IntKind.u64.wrap (k:Int)=(k:Int):=yk Om Om;have q1:decide ((0:Int)<0)=false:=rfl;have q2:decide ((9223372036854775807:Int)<(k:Int))=false:=XU Om;have c3:IntKind.i64.wrap (k:Int)=(k:Int):=bw Om Om;have mk:∀{N:Nat},th 1 8 [AV.i 0] (.i (k:Int)) (.i (k:Int)) N=some (.slice N 0 k 1,.push (.cells (dP k [AV.i 0]) true true)):=nW Om Om;refine Rs (A6 t0 t1 q0 @TO @c1 @c2) ?_;refine WF.ce T.c267 (r267 T hk) λg1=>?_
 refine Rs (A6 t0 t1 q1 q2 @c3 @mk) ?_;rw[Es (b:=(h++g1).length) (n:=k) (v:=.i (-1)) (c:=dP k [AV.i 0]) (tl:=true)]
 rotate_left
 ·exact(Sq t0)
 ·have:aH (h++g1++[ak.cells (dP k [AV.i 0]) true true]) s 1 [[AV.i (-1)]]:=hs.ext Xx;refine Zs t0 ?_;exact this
 ·exact bh
 ·rw[lT,ZX];simp
 ·exact hk0
 have hz:(dP k [AV.i 0]).set 0 (.i (-1))=List.replicate 1 (AV.i (-1))++List.replicate (k-1) (AV.i 0):=by
  rw[lT,ZX];obtain⟨n,rfl⟩:∃n,k=n+1:=⟨k-1,Om⟩;rw[Zx,List.set_cons_zero];rfl
 rw[hz];refine Rs (A2 t0 t1) ?_;obtain⟨b0,R3⟩:∃b0,b0=(h++g1).length:=⟨_,rfl⟩;rw[<-R3];have hN:h.length<=b0:=by rw[R3];simp
 refine WL.inv T.mix (λn ts h'=>∃c:Nat,1<=c/\c<=k/\n=k-c/\h' =h++g1++[ak.cells (List.replicate c (AV.i (-1))++List.replicate (k-c) (AV.i 0)) true true]/\ts.length=48/\slot ts 7=.slice b0 0 k 1/\slot ts 8=.i (c:Int)) (k-1)
  ⟨1,Om,Om,rfl,rfl,Sn,(Sq t0),iQ⟩ ?_
 rintro _ ts _ ⟨c,h1,h2,rfl,rfl,hlen,t7,t8⟩;have hb:(h++g1++[ak.cells (List.replicate c (AV.i (-1))++List.replicate (k-c) (AV.i 0)) true true])[b0]? =some (.cells (List.replicate c (AV.i (-1))++List.replicate (k-c) (AV.i 0)) true true):=by rw[R3];exact bh
 have VB:∀G:Nat->Option ak,iV .sl G (.slice b0 0 k 1)=some k:=λ_=>rfl
 by_cases hlt:c<k
 ·have e3:decide ((c:Int)<(k:Int))=true:=XZ Om;have s1:AJ 1 (.slice b0 0 k 1) (some (.i (c:Int))) none=some (.slice b0 c (k-c) 1,.au):=by
   simp only[AJ,Yf,mA (kk:=.i64) h2,Z4,YJ]
  have s2:AJ 1 (.slice b0 0 k 1) none (some (.i (c:Int)))=some (.slice b0 0 c 1,.au):=by
   simp only[AJ,Yf,jH (kk:=.i64) h2,Z4,YJ,Nat.sub_zero]
  refine Rs (A6 t7 t8 @VB e3 @s1 @s2) ?_;rw[H8 (b:=b0) (o:=c) (n:=k-c) (m:=c) (c:=List.replicate c (AV.i (-1))++List.replicate (k-c) (AV.i 0)) (tl:=true)]
  rotate_left
  ·exact(Sq t7)
  ·exact(Sq t7)
  ·exact hb
  ·exact z167
  ·exact z167
  ·omega
  rw[Bf (Nat.min_le_left _ _),Bo Om];have bW:∀X:ak,(h++g1++[ak.cells (List.replicate c (AV.i (-1))++List.replicate (k-c) (AV.i 0)) true true]).set b0 X=h++g1++[X]:=λX=>by rw[R3];exact Bn
  have hw:IntKind.i64.wrap ((c:Int)+((min c (k-c):Nat):Int))=((c+min c (k-c):Nat):Int):=by rw[bw Om Om];rfl
  refine Rs (A4 t7 t8 @bW @hw) ?_;exact⟨_,Om,c+min c (k-c),Om,Om,rfl,rfl,rfl⟩
 ·have e3:decide ((c:Int)<(k:Int))=false:=XU Om;have e4:c=k:=Om
  refine Rs (A4 t7 t8 @VB e3) ?_;have Rn:(List.replicate c (AV.i (-1))++List.replicate (k-c) (AV.i 0))=((List.replicate k (-1:Int)).map aK).flatten:=by
   rw[e4,YY,aal,Yo,List.map_replicate,ZX]
  have hlr:((List.replicate k (-1:Int)).map aK).length=k:=Si
  rw[Rn]at hb;have:=Fr.mk (N:=h.length) (es:=1) (cs:=(List.replicate k (-1:Int)).map aK) (b:=b0) (tl:=true) hN hb Si;rw[hlr]at this;rw[Rn];exact this
end
section
variable {P:Program}(T:fI P) {B g:ah}{b:Nat}{V:RV}{x:EV}
include T
def Ok(r:b9 B.length (B++g) b V)(c:Cx (B++g) V x .run)(hc:bC V.an x.ev .run=0):dq P 168 [.ptr b 0,.agg x.row] (B++g) (λ_ k=>tK B b V x.ev .run k):=by
 refine .eG 28 T.mix T.c168 ?_;intro ts hlen t0 t1;unfold fn168;have hex:=@bt.box _ _ c.e;have lb:=@e9 _ _ _ r.m;have i0:aX 1 x.sn (.i 0)=_:=(c.nm (i:=0) De).1;have d0:=@(c.nm (i:=0) De).2;have i1:aX 1 x.sn (.i 1)=_:=(c.nm (i:=1) De).1;have d1:=@(c.nm (i:=1) De).2;have j1:aX 1 x.sv (.i 1)=_:=(c.vl (i:=1) De).1;have f1:=@(c.vl (i:=1) De).2.1;have q1:=(c.vl (i:=1) De).2.2;have hn:1<=bH x.ev 1/\bH x.ev 1<=32:=by
  rw[bC]at hc;split at hc
  ·cases hc
  split at hc
  ·cases hc
  case isFalse hr=>exact iw hr
 obtain⟨k,hk⟩:∃k:Nat,bH x.ev 1=(k:Int):=⟨(bH x.ev 1).toNat,Om⟩;rw[hk]at f1;obtain⟨y,hy⟩:∃y:jv,y=⟨aP x.ev 0,aP x.ev 1,List.replicate k (-1)⟩:=⟨_,rfl⟩;refine Rs (Gu t0 t1 @hex @lb @fy @aN @aY @i0 @d0 @i1 @d1 @j1 @f1) ?_;refine WF.res T.c248 (r248 T (s:=.slice (B++g++[ak.b x.row]).length 0 1 1) (k:=k) (cg [-1]) Om Om) ?_;rintro t g1 RN;have Sx:bK (y,t)=[.str (aP x.ev 0),.str (aP x.ev 1),t]:=by rw[hy];rfl
 have RN:Fr (B++g).length (B++g++[ak.b x.row]++[ak.cells [AV.i (-1)] true true]++g1) t 1 (y.bp.map aK):=by rw[hy];exact RN.low (by simp only[XS,Yn];omega)
 have ot:=RN.a8.one;refine Rs (A3 t0 t1 @ot) ?_;rw[<-Sx];refine WR.fQ (h0:=B) (cs:=V.aG.map bK) (ys:=[bK (y,t)]) (((((r.o.i4).app _).app _).app _).app _) (Fr.push (N:=0) (Yt _) [bK (y,t)] (by simp[bK])).a8 De Si (by have:=c.w.len.l4;simp;omega) Xx ?_;intro g' Q1 hff hkp;have hrow:V.aG.map bK++[bK (y,t)]=(V.aG++[(y,t)]).map bK:=by rw[X4];rfl
 rw[hrow]at hff;rw[hrow];have hbl:=r.lt;have Q4:sB V.s4≠some b:=λe=>r.ne (by rw[<-e];simp[RV.bl])
 have hk1:∀i,i<(B++g).length->sB V.s4≠some i->(B++g')[i]? =(B++g)[i]? :=λi hi hne=>by
  exact IP
 have mB:(B++g')[b]? =some (.b V.row):=(hk1 b hbl Q4).trans r.m;have TR:=λ(b' o n e:Nat)=>iD (i:=5) (v:=.slice b' o n e) mB rfl De
 refine Rs (A4 t0 t1 @TR @eX) ?_;refine LB r hff ?_ (λi hi=>by cases hi;exact .inr (by simp only[XS,Yn];omega)) hk1 ?_ ?_
 ·refine Fr.low (N:=(B++g).length) ((show Fr (B++g).length _ t 1 _ from RN.app _).aB λi hi=>hkp i ?_ (λb0 o n e he z=>?_)) Si
  ·have:=(RN.bQ hi).2;simp only[XS,Yn]at this ⊢;omega
  ·have h1:=(RN.bQ hi).1;have h2:=(r.o.i4.bQ (show sB V.s4=some i by rw[he,z];rfl)).2;omega
 ·intro i hi;exact PZ
 ·have e:(bH x.ev 1).toNat=k:=Om
  rw[hy];simp[RV.an,dz,e]
end
end Go.Abs
namespace Go.Abs
section
variable {P:Program}{ro:Option Nat->Prop}{ks:List Kt}{ts:TS}{h:ah}{Q:Ex->TS->ah->Prop}{S:ah->Prop}{K:TS->ah->Prop}{l:List bI}
def oX(S:ah->Prop)(H:WM P S l ts h (kq P ro ks Q .normal)):WC P ro (.lD l) ks ts h Q:=⟨S,H⟩
def de{o}(hS:S h)(hl:mI o=false)(hn:ko (o::l)=false)(H:WP P bT [o] [] ts h (λ_ Ss h1=>WM P S l Ss h1 K)):WM P S (o::l) ts h K:=⟨hS,.inr ⟨hn,.inr ⟨hl,H⟩⟩⟩
def oT{o}(hS:S h)(hl:ko (o::l)=true)(H:WP P ro (o::l) ks ts h Q):WM P S (o::l) ts h (kq P ro ks Q .normal):=⟨hS,.inl ⟨hl,H⟩⟩
def kU{n a d v}(hS:S h)(hv:∀g,S g->ar n (val ts a) (λb=>g[b]?)=some (v,.au))(H:WM P S l (put ts d v) h K)(hn:ko (({dst:=d,k:=.load n a,gd:=none,q:=true}:bI)::l)=false:=by rfl):WM P S ({dst:=d,k:=.load n a,gd:=none,q:=true} ::l) ts h K:=by
 refine⟨hS,.inr ⟨hn,.inl ⟨rfl,v,λg hg=>?_,H⟩⟩⟩;refine dD.run trivial ?_ ?_
 ·cases d<;>trivial
 ·have h1:stepT (.load n a) (val ts) (λb=>g[b]?) g.length=some (v,.au):=hv g hg;exact nK h1
end
def b9.P8{N b h k V}(r:b9 N h b V){i}(hi:i<V.aj.length){y t}(hs:Fr N k V.s2 3 ((V.aj.set i (y,t)).map bn))(ht:Fr N k t 1 (y.aJ.map ao))(hnt:∀j,sB t=some j->h.length<=j)
  (hk:∀j,j<h.length->sB V.s2≠some j->sB V.aj[i].2≠some j->k[j]? =h[j]?):b9 N k b {V with aj:=V.aj.set i (y,t) }:=by
 have hin:∀j,some j∈V.bl->N<=j/\j<h.length:=λj hj=>r.o.dU hj
 let l1:List (Option Nat):=[sB V.s0,sB V.s1,sB V.s2,sB V.s3,sB V.s4,sB V.s5]++(V.aj.take i).map λx=>sB x.2
 let l2:List (Option Nat):=(V.aj.drop (i+1)).map (λx=>sB x.2)++(V.aD.map λx=>sB x.2)++(V.aG.map λx=>sB x.2)
 have hV:V.bl=l1++sB V.aj[i].2::l2:=by
  have e:V.aj=V.aj.take i++V.aj[i]::V.aj.drop (i+1):=by rw[<-ZV hi,Zl]
  have e2:(V.aj.map λx=>sB x.2)=(V.aj.take i).map (λx=>sB x.2)++sB V.aj[i].2:: (V.aj.drop (i+1)).map (λx=>sB x.2):=by
   conv=>lhs;rw[e]
   simp only[X4,YR]
  exact Jf
 have VO:{V with aj:=V.aj.set i (y,t) }.bl=l1++sB t::l2:=by
  have e2:((V.aj.set i (y,t)).map λx=>sB x.2)=(V.aj.take i).map (λx=>sB x.2)++sB t:: (V.aj.drop (i+1)).map (λx=>sB x.2):=by
   rw[List.set_eq_take_append_cons_drop,X9 hi];simp only[X4,YR]
  exact Jf
 have RF:=r.o.di;rw[hV]at RF;obtain⟨h1,h2,h3⟩:=Zc.1 RF;have h4:=YV.1 h2;have nti:∀j,some j∈l1\/some j∈l2->sB V.aj[i].2≠some j:=λj hj e=>by
  rcases hj with hj|hj
  ·exact h3 _ hj _ Si j rfl e
  ·exact h4.1 _ hj j e rfl
 have hlt:∀j,some j∈l1\/some j∈l2->j<h.length:=λj hj=>(hin j (by rw[hV];exact iU hj)).2
 have ns2:∀j,(some j∈[sB V.s0,sB V.s1]\/some j∈[sB V.s3,sB V.s4,sB V.s5]++((V.aj.map λx=>sB x.2)++(V.aD.map λx=>sB x.2)++(V.aG.map λx=>sB x.2)))->sB V.s2≠some j:=λj hj e=>by
  have VH:lh ([sB V.s0,sB V.s1]++sB V.s2:: ([sB V.s3,sB V.s4,sB V.s5]++((V.aj.map λx=>sB x.2)++(V.aD.map λx=>sB x.2)++(V.aG.map λx=>sB x.2)))):=by
   have:=r.o.di;simp only[RV.bl]at this
   simpa using this
  obtain⟨a1,a2,a3⟩:=Zc.1 VH;rcases hj with hj|hj
  ·exact a3 _ hj _ Si j rfl e
  ·exact(YV.1 a2).1 _ hj j e rfl
 have kp:∀j,(some j∈l1\/some j∈l2)->sB V.s2≠some j->k[j]? =h[j]? :=λj hj hn=>hk j (hlt j hj) hn (nti j hj)
 have own:cK N k {V with aj:=V.aj.set i (y,t) }:=by
  refine⟨r.o.i0.aB λj hj=>kp j (.inl (by rw[<-hj];simp[l1])) (ns2 j (.inl (by rw[<-hj];simp))),r.o.i1.aB λj hj=>kp j (.inl (by rw[<-hj];simp[l1])) (ns2 j (.inl (by rw[<-hj];simp))),hs,
   r.o.i3.aB λj hj=>kp j (.inl (by rw[<-hj];simp[l1])) (ns2 j (.inr (by rw[<-hj];simp))),r.o.i4.aB λj hj=>kp j (.inl (by rw[<-hj];simp[l1])) (ns2 j (.inr (by rw[<-hj];simp))),r.o.i5.aB λj hj=>kp j (.inl (by rw[<-hj];simp[l1])) (ns2 j (.inr (by rw[<-hj];simp))),?_,?_,?_,?_⟩
  ·intro x hx;obtain⟨n,hn,rfl⟩:=Z2 hx;have Vc:n<V.aj.length:=by simpa using hn
   by_cases hni:n=i
   ·subst hni;simp only[ZT];exact ht
   ·simp only[aak (Zk hni)];refine(r.o.e2 _ (Ya Vc)).aB λj hj=>kp j ?_ (ns2 j (.inr ?_))
    ·rcases Nat.lt_or_gt_of_ne hni with hlt|hlt
     ·left
      refine X3.2 (.inr (Ys.2 ⟨V.aj[n],?_,hj⟩));exact List.mem_take_iff_getElem.2 ⟨n,Om,rfl⟩
     ·right
      simp only[l2,X3];refine .inl (.inl (Ys.2 ⟨V.aj[n],?_,hj⟩));exact List.mem_drop_iff_getElem.2 ⟨n-(i+1),Om,by congr 1;omega⟩
    ·simp only[X3];exact .inr (.inl (.inl (Ys.2 ⟨V.aj[n],Ya Vc,hj⟩)))
  ·intro x hx;refine(r.o.e3 x hx).aB λj hj=>kp j (.inr ?_) (ns2 j (.inr ?_))
   ·simp only[l2,X3];exact .inl (.inr (Ys.2 ⟨x,hx,hj⟩))
   ·simp only[X3];exact .inr (.inl (.inr (Ys.2 ⟨x,hx,hj⟩)))
  ·intro x hx;refine(r.o.e4 x hx).aB λj hj=>kp j (.inr ?_) (ns2 j (.inr ?_))
   ·simp only[l2,X3];exact .inr (Ys.2 ⟨x,hx,hj⟩)
   ·simp only[X3];exact .inr (.inr (Ys.2 ⟨x,hx,hj⟩))
  ·show lh {V with aj:=V.aj.set i (y,t) }.bl;rw[VO];refine RF.xD λj hj=>.inr ⟨λz hz e=>?_,λz hz e=>?_⟩
   ·subst e;have:=hlt j (.inl hz);have:=hnt j hj;omega
   ·subst e;have:=hlt j (.inr hz);have:=hnt j hj;omega
 have hne:=r.ne;rw[hV]at hne;refine⟨own,r.hN,?_,λhb=>?_⟩
 ·have n1:sB V.s2≠some b:=λe=>hne (iU (.inl (by rw[<-e];simp[l1])))
  have n2:sB V.aj[i].2≠some b:=λe=>hne (by rw[e];simp)
  exact(hk b r.lt n1 n2).trans r.m
 ·rw[VO]at hb;rcases vz hb with z|z|z
  ·exact hne (iU (.inl z))
  ·have:=hnt b z.symm;have:=r.lt;omega
  ·exact hne (iU (.inr z))
set_option maxRecDepth 10000
attribute [local irreducible] WP WC WE WB WR WF WL WG gg
section
variable {P:Program}(T:fI P) {h:ah}
include T
def r266{L s}(hs:aH h s 1 (L.map ao))(hl:L.length<2^63)(n:By):ay P 266 [s,.str n] h (λv _=>v=.i (cP (λy=>decide (n=y)) L)):=by
 refine .eG 19 T.mix T.c266 ?_;intro ts hlen t0 t1;unfold fn266;refine Rs (A3 t0 t1 hs.aM) ?_;refine WL.inv T.mix (λm ts h'=>∃k:Nat,k<=L.length/\m=L.length-k/\h' =h/\L.findIdx? (λy=>decide (n=y))=((L.drop k).findIdx? (λy=>decide (n=y))).map (· +k)/\ts.length=19/\slot ts 0=s/\slot ts 1=.str n/\slot ts 7=.i L.length/\slot ts 8=.i k) L.length
  ⟨0,Om,rfl,rfl,Si,Sn,(Sq t0),(Sq t1),(Sq t0),iQ⟩ ?_
 rintro _ ts _ ⟨k,hk,rfl,rfl,hi,hlen,t0,t1,t7,t8⟩;by_cases hlt:k<L.length
 ·have hd:L.drop k=L[k]::L.drop (k+1):=Si
  have e3:=fF hlt;have ix:=hs.dM (kk:=.i64) hlt;have ld:=hs.kS (i:=k) (x:=.str L[k]) hlt rfl (Ext.refl _);have e5:=wrapN (n:=k) Om;by_cases hp:n=L[k]
  ·have q:decide (n=L[k])=true:=XZ hp;refine Rs (A8 t0 t1 t7 t8 e3 ix @ld q) ?_;rw[cP,hi,hd,aab,q];simp
  ·have q:decide (n=L[k])=false:=XU hp;refine Rs (A9 t0 t1 t7 t8 e3 ix @ld q e5) ?_;refine⟨_,?_,k+1,Om,rfl,?_,rfl⟩
   ·omega
   ·rw[hi,hd,aab,q];exact P4
 ·have e3:=gK hlt;have e4:k=L.length:=Om
  refine Rs (A5 t0 t1 t7 t8 e3) ?_;rw[cP,hi,e4,YS];rfl
def r242{L:List (By)}{s:AV}(hs:aH h s 1 (L.map ao))(hl:L.length<2^63)(n:By):ay P 242 [s,.str n] h (λv _=>v=.bool (decide (n∈L))):=by
 refine .eG 9 T.mix T.c242 ?_;intro ts hlen t0 t1;unfold fn242 pN;refine Rs (A2 t0 t1) ?_;refine WF.ce T.c266 (r266 T hs hl n) λg1=>?_
 refine Rs (A2 t0 t1) ?_;rw[n7];congr 1;rw[Bool.eq_iff_iff];simp[ZC]
end
attribute [local irreducible] WM
section
variable {P:Program}(T:fI P) {B g:ah}{b:Nat}{V:RV}{x:EV}
include T
def Ot(r:b9 B.length (B++g) b V)(c:Cx (B++g) V x .copy):dq P 158 [.ptr b 0,.agg x.row] (B++g) (λ_ k=>tK B b V x.ev .copy k):=by
 refine .eG 50 T.mix T.c158 ?_;intro ts hlen t0 t1;unfold fn158;have hex:=@bt.box _ _ c.e;have lb:=@e9 _ _ _ r.m;have i0:aX 1 x.sn (.i 0)=_:=(c.nm (i:=0) De).1;have d0:=@(c.nm (i:=0) De).2;have i1:aX 1 x.sn (.i 1)=_:=(c.nm (i:=1) De).1;have d1:=@(c.nm (i:=1) De).2;have S4:V.aj.length<=64:=by have:=c.w.l2;simpa [RV.an]using this
 have htp:∀y∈V.aj,y.1.aJ.length<2^30:=λy hy=>(c.w.yT.sh y hy).2
 refine Rs (pa t0 t1 @hex @lb @fK @aN @i0 @d0 @i1 @d1 c.o.i2.aM) ?_;obtain⟨a,ha⟩:∃a,a=aP x.ev 0:=⟨_,rfl⟩;obtain⟨z,hz⟩:∃z,z=aP x.ev 1:=⟨_,rfl⟩;rw[<-ha,<-hz];refine WL.inv T.mix (λn ts h'=>∃(k:Nat) (g':ah) (U:RV),k<=V.aj.length/\n=V.aj.length-k/\h' =B++g'/\b9 B.length (B++g') b U/\U.s2=V.s2/\U.aj.length=V.aj.length/\
   {U.an with aj:=V.an.aj} =V.an/\(∀i (hi:i<U.aj.length) (hi':i<V.aj.length),(U.aj[i]).1=if i<k then kD a z (V.aj[i]).1 else(V.aj[i]).1)/\
   ts.length=50/\slot ts 0=.ptr b 0/\slot ts 4=.str a/\slot ts 5=.str z/\slot ts 19=V.s2/\slot ts 20=.i V.aj.length/\slot ts 21=.i k) V.aj.length
  ⟨0,g++[ak.b x.row],V,Om,rfl,by rw[XV],by rw[<-XV];exact r.app _,rfl,rfl,rfl,λi hi hi'=>by rw[X5 Om],Sn,(Sq t0),(Sq t0),(Sq t0),(Sq t0),(Sq t0),iQ⟩ ?_
 clear t0 t1 hlen i0 d0 i1 d1 hex lb;clear ts;rintro _ ts _ ⟨k,g',U,hk,rfl,rfl,rU,Rm,SW,hreg,hU,hlen,t0,t4,t5,t19,t20,t21⟩;by_cases hlt:k<V.aj.length
 ·have TZ:k<U.aj.length:=Om
  have e3:=fF hlt;have e5:=wrapN (n:=k) Om;have oU:=rU.o.ok;have ix:aX 3 V.s2 (.i (k:Int))=some (cW V.s2 3 k,.au):=by rw[<-Rm];exact oU.i2.dM TZ
  have ld:∀{k':ah},Ext (B++g') k'->ar (some 3) (cW V.s2 3 k) (λb=>k'[b]?)=some (.agg (bn U.aj[k]),.au):=λ{k'} e=>by rw[<-Rm];exact oU.i2.kR TZ e
  have R0:U.aj[k]∈U.aj:=Ya _;have hx1:(U.aj[k]).1=(V.aj[k]).1:=by rw[hU k TZ hlt,X5 Om]
  have hxl:(U.aj[k]).1.aJ.length<2^30:=by rw[hx1];exact htp _ (Ya _)
  have UL:=rU.o.e2 _ R0;have next:∀(U2:RV),U2.aj.length=V.aj.length->(∀i (hi:i<U2.aj.length) (hi':i<U.aj.length),(U2.aj[i]).1=if i=k then kD a z (U.aj[i]).1 else(U.aj[i]).1)->
    ∀i (hi:i<U2.aj.length) (hi':i<V.aj.length),(U2.aj[i]).1=if i<k+1 then kD a z (V.aj[i]).1 else(V.aj[i]).1:=by
   intro U2 a3 a5 i hi hi';exact PT
  obtain⟨y,hy⟩:∃y,y=U.aj[k]:=⟨_,rfl⟩;rw[<-hy]at ld UL hxl;have oy:=UL.a8.one;unfold bn at ld;refine Rs (o8 t0 t4 t5 t19 t20 t21 e3 ix @ld @oy) ?_;refine WF.ce T.c242 (r242 T (UL.a8.ext Xx) Om a) λg1=>?_
  by_cases h1:a∈y.1.aJ
  case neg=>
   have q1:decide (a∈y.1.aJ)=false:=XU h1;rw[q1];refine Rs (A7 t0 t4 t5 t19 t20 t21 e5) ?_;have Uh:B++g'++[ak.b [AV.str y.1.name,.str y.1.line,y.2]]++g1=B++(g'++[ak.b [AV.str y.1.name,.str y.1.line,y.2]]++g1):=by simp only[XV]
   refine⟨_,Om,k+1,_,U,Om,rfl,Uh,by rw[<-Uh];exact(rU.app _).app _,Rm,SW,hreg,next U SW (λi hi hi'=>?_),rfl⟩;split
   ·rename_i SO;subst SO;rw[<-hy,kD,X5 (λw=>h1 w.1)]
   ·rfl
  have q1:decide (a∈y.1.aJ)=true:=XZ h1;rw[q1];refine Rs (A6 t0 t4 t5 t19 t20 t21) ?_;refine WF.ce T.c242 (r242 T (UL.a8.ext Xx) Om z) λg2=>?_
  by_cases h2:z∈y.1.aJ
  ·have q2:decide (z∈y.1.aJ)=true:=XZ h2;rw[q2];refine Rs (A8 t0 t4 t5 t19 t20 t21 @Yk e5) ?_;have Uh:B++g'++[ak.b [AV.str y.1.name,.str y.1.line,y.2]]++g1++g2=B++(g'++[ak.b [AV.str y.1.name,.str y.1.line,y.2]]++g1++g2):=by simp only[XV]
   refine⟨_,Om,k+1,_,U,Om,rfl,Uh,by rw[<-Uh];exact((rU.app _).app _).app _,Rm,SW,hreg,next U SW (λi hi hi'=>?_),rfl⟩;split
   ·rename_i SO;subst SO;rw[<-hy,kD,X5 (λw=>w.2 h2)]
   ·rfl
  have q2:decide (z∈y.1.aJ)=false:=XU h2;rw[q2];refine Rs (A7 t0 t4 t5 t19 t20 t21 @Yr) ?_;obtain⟨xb,hxb⟩:∃xb,xb=(B++g').length:=⟨_,rfl⟩;obtain⟨G,hG⟩:∃G,G=g'++[ak.b [AV.str y.1.name,.str y.1.line,y.2]]++g1++g2:=⟨_,rfl⟩;have Uh:B++g'++[ak.b [AV.str y.1.name,.str y.1.line,y.2]]++g1++g2=B++G:=by rw[hG];simp only[XV]
  have hex:Ext (B++g') (B++G):=by rw[<-Uh];exact Xx
  have mx:(B++G)[xb]? =some (.b [AV.str y.1.name,.str y.1.line,y.2]):=by
   rw[<-Uh,hxb,XV _ g1,XW Si,X6 Om];simp
  have mb:(B++G)[b]? =some (.b U.row):=hex.some rU.m;have hfx2:Fr B.length (B++G) y.2 1 (y.1.aJ.map ao):=by rw[<-Uh];exact((UL.app _).app _).app _
  have hs22:Fr B.length (B++G) V.s2 3 (U.aj.map bn):=by rw[<-Uh,<-Rm];exact((rU.o.i2.app _).app _).app _
  rw[Uh,<-hxb];refine oX (λh=>h[b]? =some (.b U.row)/\h[xb]? =some (.b [AV.str y.1.name,.str y.1.line,y.2])) ?_;have hS:(λh:ah=>h[b]? =some (.b U.row)/\h[xb]? =some (.b [AV.str y.1.name,.str y.1.line,y.2])) (B++G):=⟨mb,mx⟩;refine de hS rfl rfl ?_;refine Rs t0 ?_;refine de hS rfl rfl ?_;refine Rs t0 ?_;refine de hS rfl rfl ?_;refine Rs t0 ?_;refine kU hS (v:=V.s2) (λg hg=>?_) ?_
  ·simp only[aQ,aT,ba,bd,reduceAdd,reduceMul,reduceLeDiff,reduceEqDiff,bg,hlen,Yb,Yf,t0,aA hg.1,fK,Rm]
  refine Rs t0 ?_;refine de hS rfl rfl ?_;refine Rs t0 ?_;refine de hS rfl rfl ?_;refine Rs t0 ?_;refine kU hS (v:=y.2) (λg hg=>?_) ?_
  ·simp only[aQ,aT,ba,bd,reduceAdd,reduceMul,reduceLeDiff,reduceEqDiff,bg,hlen,Yb,Yf,t0,aA hg.2]
  refine Rs t0 ?_;refine de hS rfl rfl ?_;refine Rs (A2 t0 t5) ?_;obtain⟨zr,hzr⟩:∃zr,zr=ao z:=⟨_,rfl⟩;have hS2:(λh:ah=>h[b]? =some (.b U.row)/\h[xb]? =some (.b [AV.str y.1.name,.str y.1.line,y.2])) (B++G++[ak.cells [.str z] true true]):=⟨(Ext.app _ (Ext.refl _)).some mb,(Ext.app _ (Ext.refl _)).some mx⟩;have hxlt:xb<(B++G).length:=by
   rw[<-Uh,hxb];simp only[XS,XX,X1];omega
  refine de hS rfl rfl ?_;refine Rs t0 ?_;refine de hS2 rfl rfl ?_;refine Rs t0 ?_;refine WR.fQ (h0:=B) (cs:=y.1.aJ.map ao) (ys:=[ao z]) (hfx2.app _) (Fr.push (N:=0) (Yt _) [ao z] (by simp[ao])).a8 De Si (by simp only[X2,XX,X1];omega) (by rw[XV];exact⟨_,rfl⟩) ?_;intro g3 Xz hff hkp;have hrow:y.1.aJ.map ao++[ao z]=(y.1.aJ++[z]).map ao:=by rw[X4];rfl
  rw[hrow]at hff;rw[hrow];obtain⟨t',ht'⟩:∃t',t' =AV.slice (B++G++[ak.cells [.str z] true true]).length 0 ((y.1.aJ++[z]).map ao).length 1:=⟨_,rfl⟩;rw[<-ht']at hff;rw[<-ht'];have o1:t'.one=true:=by rw[ht'];rfl
  have hGl:(B++g').length<=(B++G).length:=hex.len;have hty:sB t' =some (B++G++[ak.cells [.str z] true true]).length:=by rw[ht'];rfl
  have hbl:=rU.lt;have TK:sB y.2≠some b:=λe=>rU.ne (by rw[<-e,RV.bl,hy];simp only[X3,Ys];exact .inl (.inl (.inr ⟨_,R0,rfl⟩)))
  have SE:∀i,sB y.2=some i->i<xb:=λi hi=>by rw[hxb];exact(UL.bQ hi).2
  have hk3:∀i,i<(B++G).length->sB y.2≠some i->(B++g3)[i]? =(B++G)[i]? :=λi hi hne=>by
   rw[hkp i (by simp only[XS]at hi ⊢;omega) (λb0 o n e he z=>hne (by rw[he,z];rfl)),XW hi]
  have hS3:(λh:ah=>h[b]? =some (.b U.row)/\h[xb]? =some (.b [AV.str y.1.name,.str y.1.line,y.2])) (B++g3):=
   ⟨(hk3 b Om TK).trans mb,(hk3 xb hxlt (λe=>by have:=SE _ e;omega)).trans mx⟩
  have hsy:∀j,sB V.s2=some j->sB y.2≠some j:=λj hj e=>by
   have VH:lh ([sB U.s0,sB U.s1]++sB U.s2:: ([sB U.s3,sB U.s4,sB U.s5]++((U.aj.map λx=>sB x.2)++(U.aD.map λx=>sB x.2)++(U.aG.map λx=>sB x.2)))):=by
    have:=rU.o.di;simp only[RV.bl]at this
    simpa using this
   obtain⟨_,a2,_⟩:=Zc.1 VH;refine(YV.1 a2).1 (sB y.2) ?_ j (by rw[Rm];exact hj) e;simp only[X3,Ys];exact .inr (.inl (.inl ⟨_,R0,by rw[<-hy]⟩))
  have hs23:Fr B.length (B++g3) V.s2 3 (U.aj.map bn):=hs22.aB λi hi=>hk3 i (hs22.bQ hi).2 (hsy i hi)
  refine Rs t0 ?_;refine oT hS3 rfl ?_;refine Rs (A3 t0 ix @o1) ?_;have hkU:k<U.aj.length:=TZ;refine WR.vi (h0:=B) (x':=(⟨y.1.name,y.1.line,y.1.aJ++[z]⟩,t')) (row:=bn) hs23 TZ De o1 (by rw[<-hy];rfl) ?_;intro g4 hl4 hff4 hkp4;have hk4:∀i,i<(B++g').length->sB V.s2≠some i->sB y.2≠some i->(B++g4)[i]? =(B++g')[i]? :=λi hi n1 n2=>by
   rw[hkp4 i (λb0 o n e he z=>n1 (by rw[he,z];rfl)),hk3 i Om n2];exact hex.get hi
  have nb2:sB V.s2≠some b:=λe=>rU.ne (by rw[<-e,<-Rm];simp[RV.bl])
  have ht4:Fr B.length (B++g4) t' 1 ((y.1.aJ++[z]).map ao):=hff.aB λi hi=>by
   rw[hty]at hi;cases hi;refine hkp4 _ (λb0 o n e he zz=>?_);have:=(rU.o.i2.bQ (show sB U.s2=some b0 by rw[Rm,he];rfl)).2;have h3:(B++g').length<=(B++G++[ak.cells [.str z] true true]).length:=by simp only[XS]at hGl ⊢;omega
   omega
  refine Rs (A7 t0 t4 t5 t19 t20 t21 e5) ?_;refine⟨_,Om,k+1,g4,{U with aj:=U.aj.set k (⟨y.1.name,y.1.line,y.1.aJ++[z]⟩,t') },Om,rfl,rfl,rU.P8 TZ (by rw[Rm];exact hff4) ht4 (λj hj=>?_) (λj hj n1 n2=>hk4 j hj (by rw[<-Rm];exact n1) (by rw[hy];exact n2)),Rm,(by simp only[YD];exact SW),hreg,next _ (by simp only[YD];exact SW) (λi hi hi'=>?_),rfl⟩
  ·rw[hty]at hj;cases hj;simp only[XS]at hGl ⊢;omega
  ·by_cases SO:i=k
   ·subst SO;simp only[ZT,Yf];rw[<-hy,kD,X9 ⟨h1,h2⟩]
   ·exact z198
 ·have e3:decide ((k:Int)<V.aj.length)=false:=XU Om;have e4:k=V.aj.length:=Om
  refine Rs (A8 t0 t4 t5 t19 t20 t21 e3 @eX) ?_;refine⟨g',U,rfl,rU,?_⟩;exact z31
end
def HV.now(V:HV):RV:=V.cU.getLastD RV.zero
def HV.jC(V:HV):V.now.an=V.bW.now:=by
 rw[HV.now,HV.bW,kI.now];show _=(V.cU.map RV.an).getLastD gx.zero;rw[ZH,ZH,List.getLast?_map];cases V.cU.getLast? <;>rfl
structure zi(h:ah)(b:Nat)(V:HV):Prop where
 hb:h[b]? =some (.b [V.se,V.sc,V.sr])
 ie:aH h V.se 5 (V.dt.map EV.row)
 ic:aH h V.sc 5 (V.fw.map EV.row)
 ig:aH h V.sr 7 (V.cU.map RV.row)
 ae:∀x∈V.dt,bt h x
 ac:∀x∈V.fw,bt h x
 ag:∀x∈V.cU,aC h x
theorem zi.ext{h k b V}(o:zi h b V)(e:Ext h k):zi k b V:=
 ⟨e.some o.hb,o.ie.ext e,o.ic.ext e,o.ig.ext e,λx hx=>(o.ae x hx).ext e,λx hx=>(o.ac x hx).ext e,λx hx=>(o.ag x hx).ext e⟩
def cI.rd{N h b V}(o:cI N h b V):zi h b V:=
 ⟨o.hb,o.oe.a8,o.oc.a8,o.og.a8,λx hx=>(o.ae x hx).sub (jt.fL _ _),λx hx=>(o.ac x hx).sub (jt.fL _ _),λx hx=>(o.ag x hx).sub (jt.fL _ _)⟩
theorem zi.now{h b V}(o:zi h b V):aC h V.now:=by
 rw[HV.now,ZH];cases hx:V.cU.getLast? with
 |none=>exact aC.zero
 |some R=>exact o.ag R (List.mem_of_getLast? hx)
def aC.st{h V}(o:aC h V){b a0 a1 a2 a3 a4 a5 a6 tl}:kg 7 0 (.agg V.row) b (.cells [a0,a1,a2,a3,a4,a5,a6] true tl)=some (az,.set b (.cells V.row true tl)):=by
 refine(tO (l:=V.row) rfl o.row (by show 0+7<=7;omega)).trans ?_;rfl
def bt.st{h x}(o:bt h x){b a0 a1 a2 a3 a4 tl}:kg 5 0 (.agg x.row) b (.cells [a0,a1,a2,a3,a4] true tl)=some (az,.set b (.cells x.row true tl)):=by
 refine(tO (l:=x.row) rfl o.row (by show 0+5<=5;omega)).trans ?_;rfl
def HD{e d}(hd:d≠.fp):e.kind=bA d↔pv e=d:=by
 rw[pv];constructor
 ·intro h;rw[h,mi];rfl
 ·intro h;cases hk:gT e.kind with
  |none=>rw[hk]at h;exact absurd h.symm hd
  |some c=>rw[hk]at h;cases h;exact cC hk
structure lQ(H:kI):Prop where
 rg:∀R∈H.cU,fk R
 ln:H.cU.length=H.fw.length
 le:H.fw.length<=H.dt.length
 ev:∀e∈H.dt,∃d,kT e d
 cn:∀e∈H.fw,∃d,kT e d
theorem lQ.zero:lQ kI.zero:=by
 refine⟨?_,rfl,X8 _,?_,?_⟩
 all_goals intro x hx;cases hx
theorem lQ.now{H}(w:lQ H):fk H.now:=by
 rw[kI.now,ZH];cases hx:H.cU.getLast? with
 |none=>exact fk.zero
 |some R=>exact w.rg R (List.mem_of_getLast? hx)
section
variable {P:Program}(T:fI P)
include T
def Ft{B g b V x d ro ks ts Q dd l}(hd:d≠.fp)(r:b9 B.length (B++g) b V)(c:Cx (B++g) V x d)(hc:bC V.an x.ev d=0)(gl:Gl (B++g))
  (K:∀v h',tK B b V x.ev d h'->WP P ro l ks (put ts dd v) h' Q):WF P ro false (pt d) [.ptr b 0,.agg x.row] dd l ks ts (B++g) Q:=by
 cases d with
 |fp=>exact absurd rfl hd
 |line=>exact WF.gen (a:=[]) (c:=[]) T.c149 (Ox T r c) K
 |tape=>exact WF.gen (a:=[]) (c:=[]) T.c152 (Ov T r c) K
 |gA=>exact WF.gen (a:=[]) (c:=[]) T.c156 (Ou T r c) K
 |copy=>exact WF.gen (a:=[]) (c:=[]) T.c158 (Ot T r c) K
 |accept=>exact WF.gen (a:=[]) (c:=[]) T.c160 (Oq T r c) K
 |source=>exact WF.gen (a:=[]) (c:=[]) T.c162 (Oo T r c) K
 |fY=>exact WF.gen (a:=[]) (c:=[]) T.c164 (On T r c hc gl) K
 |merge=>exact WF.gen (a:=[]) (c:=[]) T.c166 (Ol T r c) K
 |run=>exact WF.gen (a:=[]) (c:=[]) T.c168 (Ok T r c hc) K
 |fX=>exact WF.gen (a:=[]) (c:=[]) T.c170 (Oj T r c hc) K
 |fail=>exact WF.gen (a:=[]) (c:=[]) T.c172 (Oi T r c hc) K
 |gB=>exact WF.gen (a:=[]) (c:=[]) T.c174 (Oh T r c) K
 |rel=>exact WF.gen (a:=[]) (c:=[]) T.c176 (Og T r c) K
variable {h:ah}
def r79{V b}(o:zi h b V)(hl:V.cU.length<=1000):ay P 79 [.ptr b 0] h (λv _=>v=.agg V.now.row):=by
 refine .kV 20 T.mix T.c79 ?_;intro ts hlen t0;unfold fn79;have hb:=o.hb;have lb:=@e9 _ _ _ hb;refine Rs (A3 t0 @lb o.ig.aM) ?_;rcases List.eq_nil_or_concat V.cU with hn|⟨L,R,hn⟩
 ·have Q8:V.cU.length=0:=by rw[hn];rfl
  have e1:decide ((0:Int)<(V.cU.length:Int))=false:=XU Om;refine Rs (A2 t0 e1) ?_;rw[HV.now,hn];rfl
 ·have hlenR:V.cU.length=L.length+1:=by rw[hn];simp
  have e1:decide ((0:Int)<(V.cU.length:Int))=true:=XZ Om;have e2:IntKind.i64.wrap ((V.cU.length:Int)-1)=(L.length:Int):=by rw[bw Om Om];omega
  have VQ:L.length<V.cU.length:=Om
  have ix:=o.ig.dM (kk:=.i64) VQ;have ld:∀{k':ah},Ext h k'->_:=λ{k'} e=>o.ig.kR VQ e
  have hR:V.cU[L.length]=R:=by simp only[hn];simp
  rw[hR]at ld;have st:=@aC.st h R (o.ag R (by rw[hn];simp));refine Rs (A8 t0 e1 e2 @lb ix @ld @st @aE) ?_;rw[HV.now,hn];simp
def r116{V b x d}(o:zi h b V)(w:lQ V.bW)(hl:V.dt.length<=1000)(ox:bt h x)(wx:kT x.ev d)(gl:Gl h):
  ay P 116 [.ptr b 0,.agg x.row] h (λv _=>v=.i (ke V.bW x.ev)):=by
 have hcl:V.fw.length<=V.dt.length:=by have:=w.le;simpa [HV.bW]using this
 have Sg:V.cU.length=V.fw.length:=by have:=w.ln;simpa [HV.bW]using this
 refine .eG 106 T.mix T.c116 ?_;intro ts hlen t0 t1;unfold fn116;have hb:=o.hb;have lb:=@e9 _ _ _ hb;have hex:=@bt.box _ _ ox;have ew:IntKind.i64.wrap ((V.dt.length:Int)+1)=(V.dt.length:Int)+1:=bw Om Om;by_cases h1:x.ev.num=(V.dt.length:Int)+1
 case neg=>
  have q1:decide (x.ev.num≠(V.dt.length:Int)+1)=true:=XZ h1;refine Rs (A8 t0 t1 @lb @hex @nj o.ie.aM @ew q1) ?_;rw[ke,X9 (by simpa [HV.bW]using h1)]
 have q1:decide (x.ev.num≠(V.dt.length:Int)+1)=false:=XU (λz=>z h1);have QW:pv x.ev=d:=by rw[pv,wx.kd];rfl
 rw[ke,X5 (by simpa [HV.bW]using h1),QW];by_cases h2:d=.fp
 ·have q2:decide (x.ev.kind=[117,110,100,111])=true:=XZ (by rw[cC wx.kd,h2];rfl);rw[X9 h2];refine Rs (pa t0 t1 @lb @hex @nj @bB o.ie.aM o.ic.aM @ew q1 q2) ?_;rcases List.eq_nil_or_concat V.fw with hn|⟨L,c,hn⟩
  ·have Q8:V.fw.length=0:=by rw[hn];rfl
   have e1:decide ((V.fw.length:Int)=0)=true:=XZ Om;refine Rs (A2 t0 e1) ?_;simp only[HV.bW,hn];rfl
  ·have hlenR:V.fw.length=L.length+1:=by rw[hn];simp
   have e1:decide ((V.fw.length:Int)=0)=false:=XU Om;have e2:IntKind.i64.wrap ((V.fw.length:Int)-1)=(L.length:Int):=by rw[bw Om Om];omega
   have VQ:L.length<V.fw.length:=Om
   have ix:=o.ic.dM (kk:=.i64) VQ;have hR:V.fw[L.length]=c:=by simp only[hn];simp
   have lf:∀{k':ah},Ext h k'->ar none (lK V.sc 5 L.length 1) (λb=>k'[b]?)=some (.str c.ev.kind,.au):=λ{k'} e=>by
    refine o.ic.pY VQ ?_ e;rw[hR];rfl
   refine Rs (A6 t0 e1 e2 @lb ix @lf) ?_;refine WF.ce T.c85 (r85 T _ _) λg1=>?_
   refine Rs t0 ?_;have e3:decide (c.ev.kind=[114,101,108,101,97,115,101])=decide (pv c.ev=.rel):=ZJ.2 (HD (d:=.rel) De);have e4:V.bW.fw.getLast? =some c.ev:=by simp[HV.bW,hn]
   rw[e3,e4];by_cases h5:pv c.ev=.rel<;>simp[bZ,h5]
 have q2:decide (x.ev.kind=[117,110,100,111])=false:=XU λz=>h2 (by
  have:=wx.kd;rw[z]at this;exact(YU ((mi .fp).symm.trans this)).symm)
 rw[X5 h2,<-V.jC];have wn:fk V.now.an:=by rw[V.jC];exact w.now
 have on:=o.now;have ltk:0<cF d:=by cases d<;>first|exact absurd rfl h2|decide
 have RE:0<x.ev.cE.length:=by rw[wx.vl];exact ltk
 have qz:aX 1 x.sv (.i 0)=some (cW x.sv 1 0,.au):=ox.v.qz RE;have ev0:bH x.ev 0=x.ev.cE[0]:=by rw[bH,YC,XY RE];rfl
 have ld0:∀{k':ah},Ext h k'->ar none (cW x.sv 1 0) (λb=>k'[b]?)=some (.i (bH x.ev 0),.au):=λ{k'} e=>by
  rw[ev0];exact ox.v.kS RE rfl e
 refine Rs (pa t0 t1 @lb @hex @nj @bB o.ie.aM o.ic.aM @ew q1 q2) ?_;refine WF.ce T.c79 (r79 T (o.ext Xx) Om) λg1=>?_
 have st:=@aC.st h V.now on;rw[jr];by_cases h3:bH x.ev 0<V.now.an.tick
 ·have q3:decide (bH x.ev 0<V.now.tick)=true:=XZ h3;refine Rs (A8 t0 t1 @st @sV @aY @qz @ld0 q3) ?_;rw[X9 h3]
 have q3:decide (bH x.ev 0<V.now.tick)=false:=XU h3;rw[X5 h3];refine Rs (A8 t0 t1 @st @sV @aY @qz @ld0 q3) ?_;refine WF.res T.c90 (r90 T) ?_;rintro _ g2 ⟨vf,rfl,hk⟩;obtain⟨H,hH⟩:∃H,H=h++[ak.b x.row]++g1++[ak.b V.now.row]:=⟨_,rfl⟩;obtain⟨eb,heb⟩:∃eb,eb=h.length:=⟨_,rfl⟩;obtain⟨rb,Vt⟩:∃rb,rb=(h++[ak.b x.row]++g1).length:=⟨_,rfl⟩;have mr:(H++g2)[rb]? =some (.b V.now.row):=by rw[hH,Vt];exact(Ext.app _ (Ext.refl _)).some bh
 have me:(H++g2)[eb]? =some (.b x.row):=by rw[hH,heb];exact(show Ext (h++[ak.b x.row]) _ from Xx).some bh
 rw[<-hH]at hk ⊢;rw[<-heb,<-Vt];have lk:∀{z:AV},iA .s z false (.map H.length) (.str x.ev.kind) (λb=>(H++g2)[b]?)=lG z false ((gT x.ev.kind).map vf):=hk.look;rw[wx.kd]at lk;have Rp:∀{z:AV},_=some (vf d,iH.au):=@lk;obtain⟨rs,a,hv,hr,ha,hab⟩:=(hk.k d).ex;rw[hv]at Rp;have c1:=ml d;have c2:=lI d;have c3:=hr.one;have le:=@e9 _ _ _ me;have lr:=@e9 _ _ _ mr;refine Rs (qt t0 t1 @le @bB @bX @Rp @c1 @c2 @c3 @ha hr.aM @iF) ?_;obtain⟨L,hL⟩:∃L,L=bM d:=⟨_,rfl⟩;have hnl:x.ev.names.length=L.length:=by rw[hL];exact wx.nl
 have VQ:L.length<=3:=by rw[hL];cases d<;>decide
 have Wt:∀r∈L,r.1<6:=by rw[hL];cases d<;>decide
 rw[<-hL]at hr ⊢;obtain⟨kb,hkb⟩:∃kb,kb=(H++g2).length:=⟨_,rfl⟩;have hex:Ext h (H++g2):=by rw[hH];exact Xx
 have hx2:Ext (H++g2) (H++g2++[ak.b [rs,.i (cF d:Int),jY d,pt d,a]]):=Xx;have mk:(H++g2++[ak.b [rs,.i (cF d:Int),jY d,pt d,a]])[kb]? =some (.b [rs,.i (cF d:Int),jY d,pt d,a]):=by rw[hkb];exact bh
 obtain⟨H2,UT⟩:∃H2,H2=H++g2++[ak.b [rs,.i (cF d:Int),jY d,pt d,a]]:=⟨_,rfl⟩;rw[<-UT]at mk hx2;have hx3:Ext h H2:=hex.trans hx2;have lk:=@e9 _ _ _ mk;rw[<-UT,<-hkb];have TO:∀(i:Nat) (hi:i<L.length),aX 1 x.sn (.i (i:Int))=some (cW x.sn 1 i,.au):=λi hi=>ox.n.dM Om
 have hld:∀(i:Nat) (hi:i<L.length) (k':ah),Ext h k'->ar none (cW x.sn 1 i) (λb=>k'[b]?)=some (.str (aP x.ev i),.au):=λi hi k' e=>by
  exact PJ
 refine WL.inv T.mix (λm ts h'=>∃k:Nat,k<=L.length/\m=L.length-k/\Ext H2 h'/\mO V.now.an x.ev L 0=mO V.now.an x.ev (L.drop k) k/\ts.length=106/\slot ts 3=.ptr eb 0/\slot ts 6=.ptr rb 0/\slot ts 7=.ptr kb 0/\slot ts 56=rs/\slot ts 57=.i L.length/\slot ts 58=.i k) L.length
  ⟨0,Om,rfl,.refl _,rfl,Sn,Sw,Sw,Sw,Sw,Sw,iQ⟩ ?_
 clear t0 t1 hlen lb hb hex le lr;clear ts;rintro _ ts h' ⟨k,hk,rfl,SZ,hu,hlen,t3,t6,t7,t56,t57,t58⟩;have le:∀{k' n a},Ext h' k'->ar n (.ptr eb a) (λz=>k'[z]?)=dJ n a (.b x.row):=λ{_ _ _} e=>aA (((hx2.trans SZ).trans e).some me)
 have lr:∀{k' n a},Ext h' k'->ar n (.ptr rb a) (λz=>k'[z]?)=dJ n a (.b V.now.row):=λ{_ _ _} e=>aA (((hx2.trans SZ).trans e).some mr)
 by_cases hlt:k<L.length
 ·have e3:=fF hlt;have e5:=wrapN (n:=k) Om;have ix:=hr.dM (kk:=.i64) hlt;have ld:∀{k'},Ext h' k'->ar (some 2) (cW rs 2 k) (λb=>k'[b]?)=some (.agg (fT L[k]),.au):=λ{k'} e=>hr.kR hlt ((hx2.trans SZ).trans e)
  have iy:=TO k hlt;have ly:∀{k'},Ext h' k'->ar none (cW x.sn 1 k) (λb=>k'[b]?)=some (.str (aP x.ev k),.au):=λ{k'} e=>hld k hlt k' ((hx3.trans SZ).trans e)
  have hd:L.drop k=L[k]::L.drop (k+1):=Si
  obtain⟨r,Uw⟩:∃r,r=L[k]:=⟨_,rfl⟩;have U9:r.1<6:=by rw[Uw];exact Wt _ (Ya _)
  rw[hd,<-Uw,mO]at hu;rw[<-Uw,fT]at ld;cases R1:r.2 with
  |false=>
   rw[R1]at ld hu;refine Rs (o8 t3 t6 t7 t56 t57 t58 e3 ix @ld e5) ?_;exact Jl
  |true=>
   rw[R1]at ld hu;refine Rs (C8 t3 t6 t7 t56 t57 t58 e3 ix @ld @iy @ly @le @lr @aE @aN) ?_;refine WF.ce T.c86 (r86 T ((on.ext (hx3.trans SZ)).ext Xx) wn.len U9 _) λg3=>?_
   cases hh:dw V.now.an r.1 (aP x.ev k)with
   |true=>
    rw[hh]at hu;refine Rs (A8 t3 t6 t7 t56 t57 t58 @Yk e5) ?_;exact Jl
   |false=>
    rw[hh]at hu;have hu1:mO V.now.an x.ev L 0=true:=by rw[hu];rfl
    refine Rs (A7 t3 t6 t7 t56 t57 t58 @Yr) ?_;refine⟨(hx3.trans SZ).trans Xx,?_⟩;have e6:kX d V.now.an x.ev=10:=by rw[kX,<-hL,X9 hu1]
    rw[e6,X9 De]
 ·have e3:=gK hlt;have e4:k=L.length:=Om
  have TL:mO V.now.an x.ev L 0=false:=by rw[hu,e4,YS];rfl
  have lk2:∀{k' n a'},Ext h' k'->ar n (.ptr kb a') (λz=>k'[z]?)=dJ n a' (.b [rs,.i (cF d:Int),jY d,pt d,a]):=λ{_ _ _} e=>lk (SZ.trans e)
  refine Rs (A9 t3 t6 t7 t56 t57 t58 e3 @lk2 hr.aM) ?_;have hrH:aH h' rs 2 (L.map fT):=hr.ext (hx2.trans SZ);refine WL.inv T.mix (λm ts VS=>∃k:Nat,k<=L.length/\m=L.length-k/\Ext h' VS/\qQ V.now.an x.ev L 0=qQ V.now.an x.ev (L.drop k) k/\ts.length=106/\slot ts 3=.ptr eb 0/\slot ts 6=.ptr rb 0/\slot ts 7=.ptr kb 0/\slot ts 79=rs/\slot ts 80=.i L.length/\slot ts 81=.i k) L.length
   ⟨0,Om,rfl,.refl _,rfl,Sn,(Sq t3),(Sq t6),(Sq t7),Sw,Sw,iQ⟩ ?_
  clear t3 t6 t7 t56 t57 t58 hlen le lr lk2 e3 e4 hu lk;clear hlt hk ts k;rintro _ ts VS ⟨k,hk,rfl,Vp,hu,hlen,t3,t6,t7,t79,t80,t81⟩;have le:∀{k' n a},Ext VS k'->ar n (.ptr eb a) (λz=>k'[z]?)=dJ n a (.b x.row):=λ{_ _ _} e=>aA ((((hx2.trans SZ).trans Vp).trans e).some me)
  have lr:∀{k' n a},Ext VS k'->ar n (.ptr rb a) (λz=>k'[z]?)=dJ n a (.b V.now.row):=λ{_ _ _} e=>aA ((((hx2.trans SZ).trans Vp).trans e).some mr)
  have lk2:∀{k' n a'},Ext VS k'->ar n (.ptr kb a') (λz=>k'[z]?)=dJ n a' (.b [rs,.i (cF d:Int),jY d,pt d,a]):=λ{_ _ _} e=>aA (((SZ.trans Vp).trans e).some mk)
  by_cases hlt:k<L.length
  ·have e3:=fF hlt;have e5:=wrapN (n:=k) Om;have ix:=hr.dM (kk:=.i64) hlt;have ld:∀{k'},Ext VS k'->ar (some 2) (cW rs 2 k) (λb=>k'[b]?)=some (.agg (fT L[k]),.au):=λ{k'} e=>hrH.kR hlt (Vp.trans e)
   have iy:=TO k hlt;have ly:∀{k'},Ext VS k'->ar none (cW x.sn 1 k) (λb=>k'[b]?)=some (.str (aP x.ev k),.au):=λ{k'} e=>hld k hlt k' (((hx3.trans SZ).trans Vp).trans e)
   have hd:L.drop k=L[k]::L.drop (k+1):=Si
   obtain⟨r,Uw⟩:∃r,r=L[k]:=⟨_,rfl⟩;have U9:r.1<6:=by rw[Uw];exact Wt _ (Ya _)
   rw[hd,<-Uw,qQ]at hu;rw[<-Uw,fT]at ld;cases R1:r.2 with
   |true=>
    rw[R1]at ld hu;refine Rs (pa t3 t6 t7 t79 t80 t81 e3 ix @ld e5 @Yk) ?_;exact Jm
   |false=>
    rw[R1]at ld hu;refine Rs (AG t3 t6 t7 t79 t80 t81 e3 ix @ld @iy @ly @le @lr @aE @aN @Yr) ?_;refine WF.ce T.c86 (r86 T ((on.ext ((hx3.trans SZ).trans Vp)).ext Xx) wn.len U9 _) λg3=>?_
    cases hh:dw V.now.an r.1 (aP x.ev k)with
    |false=>
     rw[hh]at hu;refine Rs (A7 t3 t6 t7 t79 t80 t81 e5) ?_;exact Jm
    |true=>
     rw[hh]at hu;have hu1:qQ V.now.an x.ev L 0=true:=by rw[hu];rfl
     refine Rs (A6 t3 t6 t7 t79 t80 t81) ?_;refine⟨((hx3.trans SZ).trans Vp).trans Xx,?_⟩;have e6:kX d V.now.an x.ev=9:=by rw[kX,<-hL,X5 (by rw[TL];decide),X9 hu1]
     rw[e6,X9 De]
  ·have e3:=gK hlt;have e4:k=L.length:=Om
   have Xj:qQ V.now.an x.ev L 0=false:=by rw[hu,e4,YS];rfl
   have e6:kX d V.now.an x.ev=0:=by rw[kX,<-hL,X5 (by rw[TL];decide),X5 (by rw[Xj];decide)]
   rw[e6,X5 De];have U5:=(hx3.trans SZ).trans Vp;refine Rs (qt t3 t6 t7 t79 t80 t81 e3 @lk2 @lr @le @aE @cA) ?_;refine WF.val (O2 T h2 ⟨on.ext U5,wn,ox.ext U5,wx,yJ e6⟩ (gl.ext U5)) ?_;rintro _ g4 rfl;refine Rs t3 ?_;exact⟨U5.trans Xx,trivial⟩
end
def I4(B h0:ah)(b:Nat)(V:HV)(e:gq)(v:AV)(k:ah):Prop:=∃g' V',k=B++g'/\v=.i (fU V.bW e)/\cI B.length (B++g') b V'/\V'.bW=(if fU V.bW e=0 then nC V.bW e else V.bW)/\(∀i,i<h0.length->some i∉V.ex b->(B++g')[i]? =h0[i]?)/\∀j,some j∈V'.ex b->some j∈V.ex b\/h0.length<=j
def I4.no{B g g1 b V e}(o:cI B.length (B++g) b V)(h:fU V.bW e≠0){n}(hn:n=fU V.bW e):I4 B (B++g) b V e (.i n) (B++g++g1):=
 ⟨g++g1,V,by rw[XV],by rw[hn],by rw[<-XV];exact o.app _,by rw[X5 h],λi hi _=>by rw[<-XV,XW hi],λj hj=>.inl hj⟩
def bt.Gk{h x}(o:bt h x){M}:x9 5 1 (eM [.i 0,.str [],.af,.af,.str []] [(0,5,.agg x.row)]) M=some (.slice M 0 1 5,.push (.cells x.row true true)):=x6 (c:=x.row) o.row rfl De
def aC.Gk{h V}(o:aC h V){M}:x9 7 1 (eM [.i 0,.af,.af,.af,.af,.af,.af] [(0,7,.agg V.row)]) M=some (.slice M 0 1 7,.push (.cells V.row true true)):=x6 (c:=V.row) o.row rfl De
theorem bt.fL{h x}(o:bt h x){ex}(h1:∀j,sB x.sn=some j->some j∉ex)(h2:∀j,sB x.sv=some j->some j∉ex):bt (Go.Abs.fL ex h) x:=⟨o.n.fL h1,o.v.fL h2⟩
theorem aC.fL{h V}(o:aC h V){ex}(hx:∀j,some j∈V.bl->some j∉ex):aC (Go.Abs.fL ex h) V:=by
 have m6:∀x∈[sB V.s0,sB V.s1,sB V.s2,sB V.s3,sB V.s4,sB V.s5],x∈V.bl:=λx hx=>by simp only[RV.bl,X3];exact .inl (.inl (.inl hx))
 refine⟨o.i0.fL λb hb=>hx b (hb▸m6 _ Si),o.i1.fL λb hb=>hx b (hb▸m6 _ Si),o.i2.fL λb hb=>hx b (hb▸m6 _ Si),o.i3.fL λb hb=>hx b (hb▸m6 _ Si),o.i4.fL λb hb=>hx b (hb▸m6 _ Si),o.i5.fL λb hb=>hx b (hb▸m6 _ Si),
  λx hx1=>(o.e2 x hx1).fL λb hb=>hx b ?_,λx hx1=>(o.e3 x hx1).fL λb hb=>hx b ?_,λx hx1=>(o.e4 x hx1).fL λb hb=>hx b ?_⟩
 ·simp only[RV.bl,X3,Ys];exact .inl (.inl (.inr ⟨x,hx1,hb⟩))
 ·simp only[RV.bl,X3,Ys];exact .inl (.inr ⟨x,hx1,hb⟩)
 ·simp only[RV.bl,X3,Ys];exact .inr ⟨x,hx1,hb⟩
def rH{a b c d}:lh [a,b,c,d]↔(∀i,a=some i->b≠some i/\c≠some i/\d≠some i)/\(∀i,b=some i->c≠some i/\d≠some i)/\∀i,c=some i->d≠some i:=by
 simp only[lh,YV,YA,YT,Zz,forall_eq_or_imp,forall_eq,List.Pairwise.nil,and_true,false_implies,implies_true];constructor
 ·rintro⟨⟨h1,h2,h3⟩,⟨h4,h5⟩,h6⟩;exact⟨λi hi=>⟨h1 i hi,h2 i hi,h3 i hi⟩,λi hi=>⟨h4 i hi,h5 i hi⟩,h6⟩
 ·rintro⟨h1,h2,h3⟩;exact⟨⟨λi hi=>(h1 i hi).1,λi hi=>(h1 i hi).2.1,λi hi=>(h1 i hi).2.2⟩,⟨λi hi=>(h2 i hi).1,λi hi=>(h2 i hi).2⟩,h3⟩
def DS{B h:ah}(hl:B.length<=h.length)(hk:∀i,i<B.length->h[i]? =B[i]?):∃g,h=B++g:=by
 refine⟨h.drop B.length,aag λi=>?_⟩;by_cases hi:i<B.length
 ·rw[hk i hi,XW hi]
 ·exact z138
def uX{B h:ah}{b:Nat}{X:ak}(hN:B.length<=b)(hh:∃g,h=B++g):∃g,h.set b X=B++g:=by
 obtain⟨g,rfl⟩:=hh;exact⟨_,YP _ _ hN⟩
def b9.tk{B g b V}(r:b9 B.length (B++g) b V)(t:Int):∃g',(B++g).set b (.b (V.row.set 0 (.i t)))=B++g'/\b9 B.length (B++g') b {V with tick:=t}:=by
 obtain⟨h1,h2,h3⟩:=nA (.b (V.row.set 0 (.i t))) r.hN r.m;refine⟨_,h1,?_,r.hN,h2,r.ne⟩;have:=r.o.au (k:=B++g.set (b-B.length) (.b (V.row.set 0 (.i t)))) λi hi=>h3 i λe=>r.ne (e▸hi)
 exact⟨this.i0,this.i1,this.i2,this.i3,this.i4,this.i5,this.e2,this.e3,this.e4,this.di⟩
section
variable {N b:Nat}{h h':ah}{V:HV}
def cI.lt(o:cI N h b V):b<h.length:=(XT.1 o.hb).1
def cI.Co(o:cI N h b V){j}(hj:some j∈V.ex b):j<h.length:=by
 simp only[HV.ex,YA,YT,Zz,Yq]at hj;rcases hj with hj|hj|hj|hj
 ·rw[hj];exact o.lt
 ·exact(o.oe.bQ hj.symm).2
 ·exact(o.oc.bQ hj.symm).2
 ·exact(o.og.bQ hj.symm).2
def cI.Qq(o:cI N h b V){s' x'}(hk:∀i,i<h.length->sB V.se≠some i->i≠b->h'[i]? =h[i]?)(hs:Ow N h' s' 5 ((V.dt++[x']).map EV.row))(hb:h'[b]? =some (.b [s',V.sc,V.sr]))
  (hn:∀i,sB s' =some i->h.length<=i) (hx:bt (fL (V.ex b) h) x'):cI N h' b {V with dt:=V.dt++[x'],se:=s'}:=by
 obtain⟨d1,d2,d3⟩:=rH.1 o.di;have hbl:=o.lt;have hsub:jt (fL (V.ex b) h) (fL ({V with dt:=V.dt++[x'],se:=s'}.ex b) h'):=by
  refine nI (λi hi hne=>hk i hi (λe=>hne (by simp[HV.ex,e])) (λe=>hne (by simp[HV.ex,e]))) λi hi hm=>?_
  simp only[HV.ex,YA,YT,Zz,Yq]at hm ⊢;rcases hm with hm|hm|hm|hm
  ·exact .inl hm
  ·have:=hn i hm.symm;omega
  ·exact .inr (.inr (.inl hm))
  ·exact .inr (.inr (.inr hm))
 refine⟨o.hN,hb,hs,o.oc.aB λi hi=>?_,o.og.aB λi hi=>?_,rH.2 ⟨λi hi=>?_,λi hi=>?_,d3⟩,λx hx1=>?_,λx hx1=>(o.ac x hx1).sub hsub,λx hx1=>(o.ag x hx1).sub hsub,o.lo⟩
 ·exact hk i (o.oc.bQ hi).2 (λe=>(d2 i e).1 hi) (λe=>(d1 b rfl).2.1 (by rw[<-e];exact hi))
 ·exact hk i (o.og.bQ hi).2 (λe=>(d2 i e).2 hi) (λe=>(d1 b rfl).2.2 (by rw[<-e];exact hi))
 ·cases hi;exact⟨λe=>by have:=hn b e;omega,(d1 b rfl).2⟩
 ·have h1:=hn i hi;exact⟨λe=>by have:=(o.oc.bQ e).2;omega,λe=>by have:=(o.og.bQ e).2;omega⟩
 ·rcases X3.1 hx1 with hx1|hx1
  ·exact(o.ae x hx1).sub hsub
  ·rw[Yl]at hx1;rw[hx1];exact hx.sub hsub
def cI.Qp(o:cI N h b V){Rj RD n m}(hk:∀i,i<h.length->i≠b->h'[i]? =h[i]?)(hc:Ow N h' Rj 5 ((V.fw.take n).map EV.row))(hr:Ow N h' RD 7 ((V.cU.take m).map RV.row))(hb:h'[b]? =some (.b [V.se,Rj,RD]))
  (nc:sB Rj=sB V.sc) (nr:sB RD=sB V.sr):cI N h' b {V with fw:=V.fw.take n,cU:=V.cU.take m,sc:=Rj,sr:=RD}:=by
 obtain⟨d1,d2,d3⟩:=rH.1 o.di;have he:{V with fw:=V.fw.take n,cU:=V.cU.take m,sc:=Rj,sr:=RD}.ex b=V.ex b:=by simp only[HV.ex,nc,nr]
 have hsub:jt (fL (V.ex b) h) (fL ({V with fw:=V.fw.take n,cU:=V.cU.take m,sc:=Rj,sr:=RD}.ex b) h'):=by
  rw[he];exact nI (λi hi hne=>hk i hi (λe=>hne (by simp[HV.ex,e]))) λi hi hm=>hm
 refine⟨o.hN,hb,o.oe.aB λi hi=>hk i (o.oe.bQ hi).2 (λe=>(d1 b rfl).1 (by rw[<-e];exact hi)),hc,hr,by rw[he];exact o.di,λx hx1=>(o.ae x hx1).sub hsub,λx hx1=>(o.ac x (Y5 hx1)).sub hsub,λx hx1=>(o.ag x (Y5 hx1)).sub hsub,λx hx1=>o.lo x (Y5 hx1)⟩
def cI.Qr(o:cI N h b V){Rj RD x' R'}(hk:∀i,i<h.length->sB V.sc≠some i->sB V.sr≠some i->i≠b->h'[i]? =h[i]?)(hc:Ow N h' Rj 5 ((V.fw++[x']).map EV.row))(hr:Ow N h' RD 7 ((V.cU++[R']).map RV.row))(hb:h'[b]? =some (.b [V.se,Rj,RD]))
  (nc:∀i,sB Rj=some i->h.length<=i) (nr:∀i,sB RD=some i->h.length<=i) (ncr:∀i,sB Rj=some i->sB RD≠some i) (hx:bt (fL (V.ex b) h) x') (hR:aC (fL (V.ex b) h) R') (hlo:∀j,some j∈R'.bl->N<=j):cI N h' b {V with fw:=V.fw++[x'],cU:=V.cU++[R'],sc:=Rj,sr:=RD}:=by
 obtain⟨d1,d2,d3⟩:=rH.1 o.di;have hbl:=o.lt;have hsub:jt (fL (V.ex b) h) (fL ({V with fw:=V.fw++[x'],cU:=V.cU++[R'],sc:=Rj,sr:=RD}.ex b) h'):=by
  refine nI (λi hi hne=>hk i hi (λe=>hne (by simp[HV.ex,e])) (λe=>hne (by simp[HV.ex,e])) (λe=>hne (by simp[HV.ex,e]))) λi hi hm=>?_
  simp only[HV.ex,YA,YT,Zz,Yq]at hm ⊢;rcases hm with hm|hm|hm|hm
  ·exact .inl hm
  ·exact .inr (.inl hm)
  ·have:=nc i hm.symm;omega
  ·have:=nr i hm.symm;omega
 refine⟨o.hN,hb,o.oe.aB λi hi=>?_,hc,hr,rH.2 ⟨λi hi=>?_,λi hi=>?_,ncr⟩,λx hx1=>(o.ae x hx1).sub hsub,λx hx1=>?_,λx hx1=>?_,λx hx1=>?_⟩
 ·exact hk i (o.oe.bQ hi).2 (λe=>(d2 i hi).1 e) (λe=>(d2 i hi).2 e) (λe=>(d1 b rfl).1 (by rw[<-e];exact hi))
 ·cases hi;exact⟨(d1 b rfl).1,λe=>by have:=nc b e;omega,λe=>by have:=nr b e;omega⟩
 ·have h1:=(o.oe.bQ hi).2;exact⟨λe=>by have:=nc i e;omega,λe=>by have:=nr i e;omega⟩
 ·rcases X3.1 hx1 with hx1|hx1
  ·exact(o.ac x hx1).sub hsub
  ·rw[Yl]at hx1;rw[hx1];exact hx.sub hsub
 ·rcases X3.1 hx1 with hx1|hx1
  ·exact(o.ag x hx1).sub hsub
  ·rw[Yl]at hx1;rw[hx1];exact hR.sub hsub
 ·rcases X3.1 hx1 with hx1|hx1
  ·exact o.lo x hx1
  ·rw[Yl]at hx1;rw[hx1];exact hlo
end
section
variable {P:Program}(T:fI P)
include T
def Ly{B g:ah}{V:HV}{b:Nat}{x:EV}(o:cI B.length (B++g) b V)(w:lQ V.bW)(hl:V.dt.length<1000)(ox:bt (B++g) x)(hxl:x.ev.names.length<=2^40/\x.ev.cE.length<=2^40)(gl:Gl B):
  dq P 112 [.ptr b 0,.agg x.row] (B++g) (λv k=>I4 B (B++g) b V x.ev v k):=by
 have hcl:V.fw.length<=V.dt.length:=by have:=w.le;simpa [HV.bW]using this
 have Sg:V.cU.length=V.fw.length:=by have:=w.ln;simpa [HV.bW]using this
 refine .eG 94 T.mix T.c112 ?_;intro ts hlen t0 t1;unfold fn112;have QO:=@bt.box _ _ ox;have gl':Gl (B++g):=gl.ext ⟨g,rfl⟩;refine Rs (A4 t0 t1 @QO @cA) ?_;refine WF.ce T.c67 (r67 T (ox.ext Xx) hxl) λg1=>?_
 by_cases h1:gV x.ev=0
 case neg=>
  have q1:decide (gV x.ev≠0)=true:=XZ h1;refine Rs (A3 t0 t1 q1) ?_;have e:fU V.bW x.ev=gV x.ev:=by rw[fU,X9 h1]
  rw[XV (B++g)];exact I4.no o (by rw[e];exact h1) e.symm
 have q1:decide (gV x.ev≠0)=false:=XU (λz=>z h1);obtain⟨d,wx⟩:=xZ h1;have eb:fU V.bW x.ev=ke V.bW x.ev:=by rw[fU,X5 (λz=>z h1)]
 refine Rs (A4 t0 t1 q1 @cA) ?_;refine WF.ce T.c116 (r116 T (d:=d) (o.rd.ext Xx) w Om (ox.ext Xx) wx (gl'.ext Xx)) λg2=>?_
 by_cases h2:ke V.bW x.ev=0
 case neg=>
  have q2:decide (ke V.bW x.ev≠0)=true:=XZ h2;refine Rs (A3 t0 t1 q2) ?_;rw[XV (B++g),XV (B++g)];exact I4.no o (by rw[eb];exact h2) eb.symm
 have q2:decide (ke V.bW x.ev≠0)=false:=XU (λz=>z h2);rw[<-eb]at h2;refine Rs (A4 t0 t1 q2 @cA) ?_;refine WF.res T.c91 (r91 T x (ox.ext Xx) hxl) ?_;rintro _ g3 ⟨x',QV,rfl,fn,fv⟩;have VZ:bt _ x':=⟨by rw[QV];exact fn.a8,by rw[QV];exact fv.a8⟩;have st:∀{b':Nat},kg 5 0 (.agg x'.row) b' (.b x.row)=some (az,.set b' (.b x'.row)):=λ{_}=>VZ.st
 refine Rs (A3 t0 t1 @st) ?_;obtain⟨H,hH⟩:∃H,H=B++g++[ak.b x'.row]++g1++g2++g3:=⟨_,rfl⟩;have hHg:∃gH,H=B++gH:=⟨_,by rw[hH];simp only[XV];rfl⟩;obtain⟨gH,hHB⟩:=hHg;have hex:Ext (B++g) H:=by rw[hH];exact Xx
 have oH:cI B.length H b V:=by obtain⟨z,hz⟩:=hex;rw[hz];exact o.app z
 have au:∀j,(B++g).length+1<=j->H[j]? =(B++g++[ak.b x.row]++g1++g2++g3)[j]? :=λj hj=>by
  rw[hH];simp only[XV];have e:∀C:ak,(B++(g++([C]++(g1++(g2++g3)))))[j]? =(g1++(g2++g3))[j-B.length-g.length-1]? :=λC=>by
   simp only[XS]at hj;rw[X6 Om,X6 Om,X6 (by simp only[Yn];omega)];rfl
  rw[e,e]
 obtain⟨N,hN⟩:∃N,N=(B++g).length:=⟨_,rfl⟩;have fnl:=λj (hj:sB x'.sn=some j)=>fn.bQ hj
 have fvl:=λj (hj:sB x'.sv=some j)=>fv.bQ hj
 have Uj:H.length=(B++g++[ak.b x.row]++g1++g2++g3).length:=by rw[hH];simp only[XS,XX,X1]
 have lnn:∀j,sB x'.sn=some j\/sB x'.sv=some j->(B++g).length+1<=j/\j<H.length:=λj hj=>by
  rw[Uj];rcases hj with hj|hj
  ·have:=fnl j hj;exact z46
  ·have:=fvl j hj;exact z46
 have oxH:bt H x':=⟨by rw[QV];exact(fn.aB λj hj=>au j (lnn j (.inl hj)).1).a8,by rw[QV];exact(fv.aB λj hj=>au j (lnn j (.inr hj)).1).a8⟩;have eH:H[N]? =some (.b x'.row):=by rw[hH,hN];exact(show Ext (B++g++[ak.b x'.row]) _ from Xx).some bh
 rw[<-hH,<-hN];have hb:=oH.hb;have lb:=@e9 _ _ _ hb;have le:=@e9 _ _ _ eH;have bs:=@bt.Gk _ _ oxH;have dH:=rH.1 oH.di;refine Rs (A6 t0 t1 @lb @le @cA @bs) ?_;refine WR.Io (N:=B.length) (cs:=V.dt.map EV.row) (ys:=[x'.row]) (oH.app _).oe (Fr.push (N:=0) (Yt _) [x'.row] (by intro y hy;rw[Yl]at hy;rw[hy];rfl)).a8 (by rw[hHB];simp only[XS];omega) De Si (by simp only[X2,XX,X1];omega) ?_;intro h1 VC SF hk1;have hrow:V.dt.map EV.row++[x'.row]=(V.dt++[x']).map EV.row:=by rw[X4];rfl
 rw[hrow]at SF;rw[hrow];obtain⟨Rz,Xp⟩:∃Rz,Rz=AV.slice (H++[ak.cells x'.row true true]).length 0 ((V.dt++[x']).map EV.row).length 5:=⟨_,rfl⟩;rw[<-Xp]at SF ⊢;have Vv:∀i,sB Rz=some i->H.length+1=i:=λi hi=>by rw[Xp]at hi;cases hi;simp
 have ose:Rz.one=true:=by rw[Xp];rfl
 have hk1':∀i,i<H.length->sB V.se≠some i->h1[i]? =H[i]? :=λi hi hne=>by rw[hk1 i (by simp;omega) hne,XW hi]
 have hbl:=oH.lt;have Q4:sB V.se≠some b:=(dH.1 b rfl).1;have Rk:h1[b]? =some (.b [V.se,V.sc,V.sr]):=(hk1' b hbl Q4).trans hb;have sb1:aW 1 (.ptr b 0) Rz (λz=>h1[z]?)=some (az,.set b (.b [Rz,V.sc,V.sr])):=by
  rw[aL Rk];exact bY ose Si
 refine Rs (A2 t0 @sb1) ?_;have hb1l:b<h1.length:=(XT.1 Rk).1;obtain⟨H1,Vk⟩:∃H1,H1=h1.set b (.b [Rz,V.sc,V.sr]):=⟨_,rfl⟩;rw[<-Vk];have k1:∀i,i<H.length->sB V.se≠some i->i≠b->H1[i]? =H[i]? :=λi hi n1 n2=>by rw[Vk,Yc (Zk n2)];exact hk1' i hi n1
 have m1:H1[b]? =some (.b [Rz,V.sc,V.sr]):=by rw[Vk,Yd hb1l]
 have V5:∀i,i<(B++g).length->some i∉V.ex b->H1[i]? =(B++g)[i]? :=λi hi hn=>by
  rw[k1 i (by rw[Uj];simp only[XS]at hi ⊢;omega) (λe=>hn (by rw[<-e];simp[HV.ex])) (λe=>hn (by rw[e];simp[HV.ex]))];obtain⟨z,hz⟩:=hex;rw[hz,XW hi]
 have hB1:∃g',H1=B++g':=by
  have:=oH.hN;refine⟨H1.drop B.length,?_⟩;refine aag λi=>?_
  by_cases hi:i<B.length
  ·have e2:B.length<=H.length:=by rw[hHB];simp
   have n1:sB V.se≠some i:=λe=>by have:=(oH.oe.bQ e).1;omega
   rw[k1 i Om n1 Om,hHB,XW hi,XW hi]
  ·exact z138
 have Wo:∀j,some j∈V.ex b->j<(B++g).length:=λj hj=>o.Co hj
 have oxm:bt (fL (V.ex b) H) x':=oxH.fL (λj hj hm=>by have:=(lnn j (.inl hj)).1;have:=Wo j hm;omega) (λj hj hm=>by have:=(lnn j (.inr hj)).1;have:=Wo j hm;omega);have T8:cI B.length H1 b {V with dt:=V.dt++[x'],se:=Rz}:=oH.Qq k1 (SF.aB λi hi=>by rw[Vk,Yc (by have:=Vv i hi;omega)]) m1 (λi hi=>by have:=Vv i hi;omega) oxm;clear SF hk1 hk1' sb1 hb1l;have owc:Ow B.length H1 V.sc 5 (V.fw.map EV.row):=T8.oc;have owr:Ow B.length H1 V.sr 7 (V.cU.map RV.row):=T8.og;obtain⟨V1,TF⟩:∃V1:HV,V1={V with dt:=V.dt++[x'],se:=Rz}:=⟨_,rfl⟩;rw[<-TF]at T8;have eN:H1[N]? =some (.b x'.row):=(k1 N (by rw[Uj,hN];simp only[XS,XX];omega) (λe=>by have:=(o.oe.bQ e).2;omega) (by have:=o.lt;omega)).trans eH
 have oxm1:bt (fL (V1.ex b) H1) x':=T8.ae x' (by rw[TF];simp);have ox1:bt H1 x':=oxm1.sub (jt.fL _ _);obtain⟨gH1,hB1⟩:=hB1;have lb1:=@e9 _ _ _ m1;have le1:=@e9 _ _ _ eN;have hkx:x'.ev.kind=x.ev.kind:=by rw[QV]
 have QW:pv x.ev=d:=by rw[pv,wx.kd];rfl
 by_cases h5:d=.fp
 ·have q5:decide (x.ev.kind=[117,110,100,111])=true:=XZ (by rw[cC wx.kd,h5];rfl);refine Rs (A7 t0 @le1 @bB @hkx q5 @lb1 owc.a8.aM) ?_;have hne:V.fw≠[]:=λe=>by
   rw[eb,ke,QW,X9 h5,show V.bW.fw.getLast? =none by simp[HV.bW,e]]at h2;split at h2<;>exact absurd h2 De
  have hcp:0<V.fw.length:=ZR.2 hne;have e2:IntKind.i64.wrap ((V.fw.length:Int)-1)=((V.fw.length-1:Nat):Int):=by rw[bw Om Om];omega
  obtain⟨Rj,c1,c2,c3⟩:=owc.cut (n:=V.fw.length-1) Si (k:=.i64);obtain⟨RD,r1,r2,r3⟩:=owr.cut (n:=V.fw.length-1) (by simp;omega) (k:=.i64);refine Rs (A5 t0 e2 @lb1 @c1 @r1) ?_;have osc:Rj.one=true:=c3.a8.one;have osr:RD.one=true:=r3.a8.one;have sA:aW 1 (.ptr b 1) Rj (λz=>H1[z]?)=some (az,.set b (.b [Rz,Rj,V.sr])):=by
   rw[aL m1];exact bY osc Si
  have hbl1:b<H1.length:=T8.lt;have m2:(H1.set b (.b [Rz,Rj,V.sr]))[b]? =some (.b [Rz,Rj,V.sr]):=Yd hbl1;have sB2:aW 1 (.ptr b 2) RD (λz=>(H1.set b (.b [Rz,Rj,V.sr]))[z]?)=some (az,.set b (.b [Rz,Rj,RD])):=by
   rw[aL m2];exact bY osr Si
  refine Rs (A3 t0 @sA @sB2) ?_;rw[List.set_set];obtain⟨gz,hz⟩:=uX (X:=.b [Rz,Rj,RD]) T8.hN ⟨_,hB1⟩;have kz:∀i,i≠b->(H1.set b (.b [Rz,Rj,RD]))[i]? =H1[i]? :=λi hi=>Yc (Zk hi)
  have d1:=rH.1 T8.di;have d2:=rH.1 o.di;have hfr:∀i,i<(B++g).length->some i∉V.ex b->(B++gz)[i]? =(B++g)[i]? :=λi hi hn=>by
   rw[<-hz,kz i (λe=>hn (by rw[e];simp[HV.ex])),V5 i hi hn]
  refine⟨gz,{V1 with fw:=V1.fw.take (V.fw.length-1),cU:=V1.cU.take (V.fw.length-1),sc:=Rj,sr:=RD},hz,by rw[h2],?_,?_,hfr,λj hj=>?_⟩
  ·rw[<-hz];subst TF;rw[<-List.map_take]at c3 r3;refine T8.Qp (λi _ hi=>kz i hi) (c3.aB λi hi=>kz i λe=>?_) (r3.aB λi hi=>kz i λe=>?_) (Yd hbl1) c2 r2
   ·rw[c2]at hi;exact(d2.1 b rfl).2.1 (by rw[hi,e])
   ·rw[r2]at hi;exact(d2.1 b rfl).2.2 (by rw[hi,e])
  ·rw[X9 h2,nC,QW,X9 h5,TF];simp only[HV.bW,X4,List.map_take,YR,ZM,QV,List.dropLast_eq_take,X2,Sg]
  ·subst TF;simp only[HV.ex,YA,YT,Zz,Yq]at hj ⊢;rcases hj with hj|hj|hj|hj
   ·exact .inl (.inl hj)
   ·have:=Vv j hj.symm;exact .inr (by rw[Uj]at this;simp only[XS]at this ⊢;omega)
   ·rw[c2]at hj;exact .inl (.inr (.inr (.inl hj)))
   ·rw[r2]at hj;exact .inl (.inr (.inr (.inr hj)))
 have q5:decide (x.ev.kind=[117,110,100,111])=false:=XU λz=>h5 (by
  have:=wx.kd;rw[z]at this;exact(YU ((mi .fp).symm.trans this)).symm)
 refine Rs (A5 t0 @le1 @bB @hkx q5) ?_;have hnow:V1.now=V.now:=by rw[TF];rfl
 have rd1:=T8.rd;have wn:fk V1.now.an:=by rw[hnow,V.jC];exact w.now
 refine WF.ce T.c79 (r79 T rd1 (by rw[TF];show V.cU.length<=1000;omega)) λg4=>?_
 refine Rs t0 ?_;refine WF.res T.c96 (r96 T (rd1.now.ext Xx) wn) ?_;rintro _ g5 ⟨VN,hVN,rfl,own⟩;have stN:∀{b':Nat}{a0 a1 a2 a3 a4 a5 a6:AV},kg 7 0 (.agg VN.row) b' (.b [a0,a1,a2,a3,a4,a5,a6])=some (az,.set b' (.b VN.row)):=λ{_ _ _ _ _ _ _ _}=>own.ok.st
 repeat (first|simp (config:={maxSteps:=1000000}) only[aQ,aT,ba,bd,reduceAdd,reduceMul,reduceLeDiff,reduceEqDiff,bg,hlen,Yb,Yf,t0,stN]|simp (config:={maxSteps:=1000000}) (disch:=first|(simp only[XS,XX,X1]<;>omega)|rfl|omega|fail) only[eo,aQ,aT,ba,bd,reduceAdd,reduceMul,reduceLeDiff,reduceEqDiff,bg,hlen,Yb,Yf,t0,stN])
 refine WF.res T.c90 (r90 T) ?_;rintro _ g6 ⟨vf,rfl,hk⟩;obtain⟨hx3,UJ⟩:∃z,z=H1++g4++g5++[ak.b VN.row]:=⟨_,rfl⟩;rw[<-UJ]at hk ⊢;have lk:∀{z:AV},iA .s z false (.map hx3.length) (.str x.ev.kind) (λb=>(hx3++g6)[b]?)=lG z false ((gT x.ev.kind).map vf):=hk.look;rw[wx.kd]at lk;have Rp:∀{z:AV},_=some (vf d,iH.au):=@lk;obtain⟨rs,a,hv,hr,ha,hab⟩:=(hk.k d).ex;rw[hv]at Rp;have e1x:Ext H1 (hx3++g6):=by rw[UJ];exact Xx
 have le2:∀{k n a},Ext (hx3++g6) k->ar n (.ptr N a) (λz=>k[z]?)=dJ n a (.b x'.row):=λ{_ _ _} e=>le1 (e1x.trans e)
 have cd:=lI d;obtain⟨rb,Vt⟩:∃rb,rb=(H1++g4++g5).length:=⟨_,rfl⟩;rw[<-Vt];refine Rs (A8 t0 @le2 @bB @hkx @bX @Rp @cd @cA) ?_;have Ty:jr V.bW.now x.ev d=0:=by
  rw[eb,ke,QW,X5 h5]at h2;split at h2
  ·exact absurd h2 De
  ·exact h2
 have Sz:x.ev.num=(V.bW.dt.length:Int)+1:=by
  rw[eb,ke]at h2;split at h2
  ·exact absurd h2 De
  case isFalse hh=>exact Zq.1 hh
 have hVR:VN.an=V.bW.now:=by rw[hVN,hnow,V.jC]
 have Rc:¬bH x.ev 0<V.bW.now.tick:=λz=>by rw[jr,X9 z]at Ty;exact absurd Ty De
 have Uy:kX d V.bW.now x.ev=0:=by
  rw[jr,X5 Rc]at Ty;split at Ty
  case isTrue hh=>exact absurd Ty hh
  case isFalse hh=>exact Zq.1 hh
 have R9:bC V.bW.now x.ev d=0:=by rw[jr,X5 Rc,X5 (by rw[Uy];decide)]at Ty;exact Ty
 obtain⟨G,hG⟩:=e1x;have hGl:H1.length<=rb/\rb<(H1++G).length:=by
  rw[<-hG,UJ,Vt];simp only[XS,XX,X1];omega
 have rbk:b9 H1.length (H1++G) rb VN:=by
  have:=(((own.app [ak.b VN.row]).app g6).low (M:=H1.length) Si);rw[<-UJ,hG]at this;refine⟨this,hGl.1,?_,λhb'=>?_⟩
  ·rw[<-hG,UJ,Vt];exact(Ext.app _ (Ext.refl _)).some bh
  ·have:=(own.dU hb').2;omega
 have glG:Gl (H1++G):=(gl.ext ⟨_,hB1⟩).ext ⟨_,rfl⟩;have cx:Cx (H1++G) VN x' d:=⟨rbk.o.ok,by rw[hVN];exact wn,ox1.ext ⟨_,rfl⟩,by rw[QV];exact wx,by rw[hVR,QV];exact yJ Uy⟩;rw[hG];refine Ft T h5 rbk cx (by rw[hVR,QV];exact R9) glG ?_;rintro _ _ ⟨g7,V7,rfl,r7,hr7⟩;have e17:Ext H1 (H1++g7):=⟨_,rfl⟩;have le3:∀{k n a},Ext (H1++g7) k->ar n (.ptr N a) (λz=>k[z]?)=dJ n a (.b x'.row):=λ{_ _ _} e=>le1 (e17.trans e)
 have RE:0<x'.ev.cE.length:=by rw[QV,wx.vl];cases d<;>first|exact absurd rfl h5|decide
 have qz:aX 1 x'.sv (.i 0)=some (cW x'.sv 1 0,.au):=ox1.v.qz RE;have ld0:∀{k':ah},Ext (H1++g7) k'->ar none (cW x'.sv 1 0) (λb=>k'[b]?)=some (.i (bH x.ev 0),.au):=λ{k'} e=>by
  have ev0:bH x.ev 0=x'.ev.cE[0]:=by rw[<-QV,bH,YC,XY RE];rfl
  rw[ev0];exact ox1.v.kS RE rfl (e17.trans e)
 have s7:aW 1 (.ptr rb 0) (.i (bH x.ev 0)) (λz=>(H1++g7)[z]?)=some (az,.set rb (.b (V7.row.set 0 (.i (bH x.ev 0))))):=iD r7.m rfl De;obtain⟨g8,hg8,r8⟩:=r7.tk (bH x.ev 0);refine Rs (A6 t0 @le3 @aY @qz @ld0 @s7) ?_;rw[hg8];obtain⟨V8,hV8⟩:∃V8:RV,V8={V7 with tick:=bH x.ev 0}:=⟨_,rfl⟩;rw[<-hV8]at r8;have hr8:V8.an=sg V.bW.now x.ev d:=by
  rw[hV8,sg,<-hVR];have:dz VN.an x.ev d=V7.an:=by rw[hr7,QV]
  rw[this];rfl
 clear s7 le2 le3 ld0 Rp lk hk;have oV2:cI B.length (H1++g8) b V1:=T8.app g8;have e18:Ext H1 (H1++g8):=⟨_,rfl⟩;have lb2:∀{k n a},Ext (H1++g8) k->ar n (.ptr b a) (λz=>k[z]?)=dJ n a (.b [Rz,V.sc,V.sr]):=λ{_ _ _} e=>lb1 (e18.trans e)
 have le2:∀{k n a},Ext (H1++g8) k->ar n (.ptr N a) (λz=>k[z]?)=dJ n a (.b x'.row):=λ{_ _ _} e=>le1 (e18.trans e)
 have lr2:=@e9 _ _ _ r8.m;have bs1:=@bt.Gk _ _ ox1;have bs2:=@aC.Gk _ _ r8.o.ok;obtain⟨H2,UT⟩:∃H2,H2=H1++g8:=⟨_,rfl⟩;have m2:H2[b]? =some (.b [Rz,V.sc,V.sr]):=by rw[UT];exact e18.some m1
 have e2:H2[N]? =some (.b x'.row):=by rw[UT];exact e18.some eN
 have r2m:H2[rb]? =some (.b V8.row):=by rw[UT];exact r8.m
 have hB2:∃g',H2=B++g':=⟨_,by rw[UT,hB1,XV]⟩;rw[<-UT]at r8 oV2 ⊢;have Xc:Ow B.length H2 V.sc 5 (V.fw.map EV.row):=by have:=oV2.oc;rw[TF]at this;exact this
 have Vn:Ow B.length H2 V.sr 7 (V.cU.map RV.row):=by have:=oV2.og;rw[TF]at this;exact this
 have d1:=rH.1 T8.di;have d1b:sB V.sc≠some b/\sB V.sr≠some b:=by have:=(d1.1 b rfl).2;rw[TF]at this;exact this
 have d1c:∀i,sB V.sc=some i->sB V.sr≠some i:=by have:=d1.2.2;rw[TF]at this;exact this
 have hBl:B.length<=H2.length:=by obtain⟨z,hz⟩:=hB2;rw[hz];simp
 refine oX (λh=>h[b]? =some (.b [Rz,V.sc,V.sr])/\h[N]? =some (.b x'.row)/\h[rb]? =some (.b V8.row)) ?_;have hS:(λh:ah=>h[b]? =some (.b [Rz,V.sc,V.sr])/\h[N]? =some (.b x'.row)/\h[rb]? =some (.b V8.row)) H2:=⟨m2,e2,r2m⟩;refine de hS rfl rfl ?_;refine Rs t0 ?_;refine de hS rfl rfl ?_;refine Rs t0 ?_;refine de hS rfl rfl ?_;refine Rs t0 ?_;refine de hS rfl rfl ?_;refine Rs t0 ?_;refine de hS rfl rfl ?_;refine Rs t0 ?_;refine kU hS (v:=V.sc) (λg hg=>?_) ?_
 ·exact JU
 refine Rs t0 ?_;refine kU hS (v:=.agg x'.row) (λg hg=>?_) ?_
 ·simp only[aQ,aT,ba,bd,reduceAdd,reduceMul,reduceLeDiff,reduceEqDiff,bg,hlen,Yb,Yf,t0,aA hg.2.1,cA]
 refine Rs t0 ?_;refine de hS rfl rfl ?_;refine Rs (A2 t0 @bs1) ?_;have x3:Ext H2 (H2++[ak.cells x'.row true true]):=⟨_,rfl⟩;have hS3:(λh:ah=>h[b]? =some (.b [Rz,V.sc,V.sr])/\h[N]? =some (.b x'.row)/\h[rb]? =some (.b V8.row)) (H2++[ak.cells x'.row true true]):=⟨x3.some m2,x3.some e2,x3.some r2m⟩;refine de hS3 rfl rfl ?_;refine Rs t0 ?_;refine WR.Io (N:=B.length) (cs:=V.fw.map EV.row) (ys:=[x'.row]) (Xc.aB λi hi=>XW (Xc.bQ hi).2) (Fr.push (N:=0) (Yt _) [x'.row] (by intro y hy;rw[Yl]at hy;rw[hy];rfl)).a8 (by simp only[XS];omega) De Si (by simp only[X2,XX,X1];omega) ?_;intro h4 hl4 hs4 hk4
 have Wc:V.fw.map EV.row++[x'.row]=(V.fw++[x']).map EV.row:=by rw[X4];rfl
 rw[Wc]at hs4;rw[Wc];obtain⟨Rj,hsc⟩:∃Rj,Rj=AV.slice (H2++[ak.cells x'.row true true]).length 0 ((V.fw++[x']).map EV.row).length 5:=⟨_,rfl⟩;rw[<-hsc]at hs4 ⊢;have hl4':h4.length=H2.length+2:=by rw[hl4];simp
 have Vw:∀i,sB Rj=some i->H2.length+1=i:=λi hi=>by rw[hsc]at hi;cases hi;simp
 have osc:Rj.one=true:=by rw[hsc];rfl
 have k4:∀i,i<H2.length->sB V.sc≠some i->h4[i]? =H2[i]? :=λi hi hne=>by rw[hk4 i (by simp;omega) hne,XW hi]
 have hNl:N<H2.length:=(XT.1 e2).1;have Sg:rb<H2.length:=(XT.1 r2m).1;have hbl2:b<H2.length:=(XT.1 m2).1;have VM:∀j,some j∈V.ex b->j<N:=λj hj=>by rw[hN];exact o.Co hj
 have ncN:sB V.sc≠some N:=λe=>by have:=VM N (by rw[<-e];simp[HV.ex]);omega
 have nrN:sB V.sr≠some N:=λe=>by have:=VM N (by rw[<-e];simp[HV.ex]);omega
 have hNr:N<rb:=by have:=(XT.1 eN).1;omega
 have ncr:sB V.sc≠some rb:=λe=>by have:=VM rb (by rw[<-e];simp[HV.ex]);omega
 have nrr:sB V.sr≠some rb:=λe=>by have:=VM rb (by rw[<-e];simp[HV.ex]);omega
 have VP:(λh:ah=>h[b]? =some (.b [Rz,V.sc,V.sr])/\h[N]? =some (.b x'.row)/\h[rb]? =some (.b V8.row)) h4:=⟨(k4 b hbl2 d1b.1).trans m2,(k4 N hNl ncN).trans e2,(k4 rb Sg ncr).trans r2m⟩;refine Rs t0 ?_;refine de VP rfl rfl ?_;refine Rs t0 ?_;refine de VP rfl rfl ?_;refine Rs t0 ?_;refine de VP rfl rfl ?_;refine Rs t0 ?_;refine kU VP (v:=V.sr) (λg hg=>?_) ?_
 ·exact JU
 refine Rs t0 ?_;refine kU VP (v:=.agg V8.row) (λg hg=>?_) ?_
 ·simp only[aQ,aT,ba,bd,reduceAdd,reduceMul,reduceLeDiff,reduceEqDiff,bg,hlen,Yb,Yf,t0,aA hg.2.2,aE]
 refine Rs t0 ?_;refine de VP rfl rfl ?_;refine Rs (A2 t0 @bs2) ?_;have x5:Ext h4 (h4++[ak.cells V8.row true true]):=⟨_,rfl⟩;have hS5:(λh:ah=>h[b]? =some (.b [Rz,V.sc,V.sr])/\h[N]? =some (.b x'.row)/\h[rb]? =some (.b V8.row)) (h4++[ak.cells V8.row true true]):=⟨x5.some VP.1,x5.some VP.2.1,x5.some VP.2.2⟩;have owr4:Ow B.length (h4++[ak.cells V8.row true true]) V.sr 7 (V.cU.map RV.row):=Vn.aB λi hi=>by
  have hil:=(Vn.bQ hi).2;rw[XW Om];exact k4 i hil λe=>d1c i e hi
 refine de hS5 rfl rfl ?_;refine Rs t0 ?_;refine WR.Io (N:=B.length) (cs:=V.cU.map RV.row) (ys:=[V8.row]) owr4 (Fr.push (N:=0) (Yt _) [V8.row] (by intro y hy;rw[Yl]at hy;rw[hy];rfl)).a8 (by simp only[XS];omega) De Si (by simp only[X2,XX,X1];omega) ?_;intro h6 hl6 hs6 hk6;have Wb:V.cU.map RV.row++[V8.row]=(V.cU++[V8]).map RV.row:=by rw[X4];rfl
 rw[Wb]at hs6;rw[Wb];obtain⟨RD,hsr⟩:∃RD,RD=AV.slice (h4++[ak.cells V8.row true true]).length 0 ((V.cU++[V8]).map RV.row).length 7:=⟨_,rfl⟩;rw[<-hsr]at hs6 ⊢;have hl6':h6.length=H2.length+4:=by rw[hl6];simp;omega
 have Vu:∀i,sB RD=some i->H2.length+3=i:=λi hi=>by rw[hsr]at hi;cases hi;simp;omega
 have osr:RD.one=true:=by rw[hsr];rfl
 have k6:∀i,i<H2.length->sB V.sc≠some i->sB V.sr≠some i->h6[i]? =H2[i]? :=λi hi n1 n2=>by
  rw[hk6 i (by simp;omega) n2,XW Om];exact k4 i hi n1
 have hS6:(λh:ah=>h[b]? =some (.b [Rz,V.sc,V.sr])/\h[N]? =some (.b x'.row)/\h[rb]? =some (.b V8.row)) h6:=⟨(k6 b hbl2 d1b.1 d1b.2).trans m2,(k6 N hNl ncN nrN).trans e2,(k6 rb Sg ncr nrr).trans r2m⟩;refine Rs t0 ?_;refine oT hS6 rfl ?_;have m6:=hS6.1;have hb6:b<h6.length:=(XT.1 m6).1;have sA:aW 1 (.ptr b 1) Rj (λz=>h6[z]?)=some (az,.set b (.b [Rz,Rj,V.sr])):=by
  rw[aL m6];exact bY osc Si
 have m7:(h6.set b (.b [Rz,Rj,V.sr]))[b]? =some (.b [Rz,Rj,V.sr]):=Yd hb6;have sB2:aW 1 (.ptr b 2) RD (λz=>(h6.set b (.b [Rz,Rj,V.sr]))[z]?)=some (az,.set b (.b [Rz,Rj,RD])):=by
  rw[aL m7];exact bY osr Si
 refine Rs (A3 t0 @sA @sB2) ?_;rw[List.set_set];obtain⟨gB2,hgB2⟩:=hB2;obtain⟨gz,hz⟩:=uX (X:=.b [Rz,Rj,RD]) oV2.hN (DS (B:=B) (h:=h6) Om λi hi=>by
  rw[k6 i Om (λe=>by have:=(Xc.bQ e).1;omega) (λe=>by have:=(Vn.bQ e).1;omega),hgB2,XW hi])
 have kz:∀i,i≠b->(h6.set b (.b [Rz,Rj,RD]))[i]? =h6[i]? :=λi hi=>Yc (Zk hi)
 have oxm2:bt (fL (V1.ex b) H2) x':=oV2.ae x' (by rw[TF];simp);have oR2:aC (fL (V1.ex b) H2) V8:=r8.o.ok.fL λj hj hm=>by
  have h1:=(r8.o.dU hj).1;have h2:=T8.Co hm;omega
 have hBH1:B.length<=H1.length:=by rw[hB1];simp
 have fin:cI B.length (h6.set b (.b [Rz,Rj,RD])) b {V1 with fw:=V1.fw++[x'],cU:=V1.cU++[V8],sc:=Rj,sr:=RD}:=by
  subst TF;refine oV2.Qr (λi hi n1 n2 nb=>(kz i nb).trans (k6 i hi n1 n2)) (hs4.aB λi hi=>?_) (hs6.aB λi hi=>kz i ?_) (Yd hb6) (λi hi=>by have:=Vw i hi;omega) (λi hi=>by have:=Vu i hi;omega) (λi h1 h2=>by have:=Vw i h1;have:=Vu i h2;omega) oxm2 oR2 (λj hj=>YI hBH1 (r8.o.dU hj).1)
  ·have h1:=Vw i hi;rw[kz i Om,hk6 i (by simp;omega) (λe=>by have:=(Vn.bQ e).2;omega),XW Om]
  ·have h1:=Vu i hi;omega
 have hfr:∀i,i<(B++g).length->some i∉V.ex b->(B++gz)[i]? =(B++g)[i]? :=λi hi hn=>by
  have hi1:=V5 i hi hn;have hil:i<H1.length:=by
   rw[XY hi]at hi1;exact(XT.1 hi1).1
  rw[<-hz,kz i (λe=>hn (by rw[e];simp[HV.ex])),k6 i (by rw[UT,XS];omega) (λe=>hn (by rw[<-e];simp[HV.ex])) (λe=>hn (by rw[<-e];simp[HV.ex])),UT,XW hil,hi1]
 have hlo:(B++g).length<=H.length:=by rw[Uj];simp only[XS];omega
 have hlo2:H.length<=H2.length:=by rw[UT,XS,Vk,YD,VC];simp only[XS];omega
 have hexn:∀j,some j∈HV.ex b {V1 with fw:=V1.fw++[x'],cU:=V1.cU++[V8],sc:=Rj,sr:=RD}->some j∈V.ex b\/(B++g).length<=j:=λj hj=>by
  subst TF;simp only[HV.ex,YA,YT,Zz,Yq]at hj ⊢;rcases hj with hj|hj|hj|hj
  ·exact .inl (.inl hj)
  ·have:=Vv j hj.symm;exact .inr Om
  ·have:=Vw j hj.symm;exact .inr Om
  ·have:=Vu j hj.symm;exact .inr Om
 refine⟨gz,_,hz,by rw[h2],by rw[<-hz];exact fin,?_,hfr,hexn⟩;rw[X9 h2,nC,QW,X5 h5,TF];simp only[HV.bW,X4,YR,ZM,QV,hr8]
end
def It{H e}(h:ke H e=0):e.num=(H.dt.length:Int)+1/\(pv e=.fp->H.fw≠[])/\(pv e≠.fp->jr H.now e (pv e)=0):=by
 unfold ke at h;split at h
 ·exact absurd h De
 case isFalse h1=>
 refine⟨Zq.1 h1,λhk hn=>?_,λhk=>by rw[X5 hk]at h;exact h⟩;rw[X9 hk,hn]at h;exact absurd h De
def Ic{H e}(h:fU H e=0):gV e=0/\ke H e=0:=by
 unfold fU at h;split at h
 case isTrue h1=>exact absurd h h1
 case isFalse h1=>exact⟨Zq.1 h1,h⟩
theorem kT.pv{e d}(w:kT e d):Go.Abs.pv e=d:=by rw[Go.Abs.pv,w.kd];rfl
def lQ.add{H e}(w:lQ H)(h:fU H e=0):lQ (nC H e):=by
 obtain⟨h1,h2⟩:=Ic h;obtain⟨d,we⟩:=xZ h1;obtain⟨h3,h4,h5⟩:=It h2;have QW:=we.pv;unfold nC;split
 case isTrue hu=>
  have hl:=ZR.2 (h4 hu);have e1:=w.ln;have e2:=w.le;refine⟨λR hR=>w.rg R ((List.dropLast_sublist _).mem hR),by simp[e1],?_,λx hx=>?_,λx hx=>w.cn x ((List.dropLast_sublist _).mem hx)⟩
  ·simp only[List.length_dropLast,XS,Yn];omega
  ·exact JM
 case isFalse hu=>
  have e1:=w.ln;have e2:=w.le;have hs:=h5 hu;rw[QW]at hs hu;refine⟨λR hR=>?_,by simp[e1],by simp only[XS,Yn];omega,λx hx=>?_,λx hx=>?_⟩
  ·rcases X3.1 hR with hR|hR
   ·exact w.rg R hR
   ·rw[Yl]at hR;rw[hR,QW];exact w.now.step we hu hs
  ·exact JM
  ·rcases X3.1 hx with hx|hx
   ·exact w.cn x hx
   ·rw[Yl]at hx;subst hx;exact⟨d,we⟩
def wA{H e}:(nC H e).dt.length=H.dt.length+1:=by
 unfold nC;split<;>simp
def IZ(h:ah)(l:List gq)(v:AV)(k:ah):Prop:=
 ∃p,v=.dN [p,.i (cj l).2.1,.i (cj l).2.2]/\((cj l).2.2≠0->p=.nilPtr)/\
  ((cj l).2.2=0->∃b V,p=.ptr b 0/\cI h.length k b V/\V.bW=(cj l).1/\lQ V.bW/\V.dt.length=l.length/\l.length<=1000)
structure yh(L:List EV):Prop where
 l:L.length<=2^30
 e:∀x∈L,x.ev.names.length<=2^30/\x.ev.cE.length<=2^30
section
variable {P:Program}(T:fI P) {h:ah}
include T
def r78{L s}(o:fo h L s)(sh:yh L)(gl:Gl h):ay P 78 [s] h (IZ h (L.map EV.ev)):=by
 have S4:=sh.l;refine .kV 31 T.mix T.c78 ?_;intro ts hlen t0;unfold fn78;by_cases h1:1000<L.length
 ·have q1:decide ((1000:Int)<(L.length:Int))=true:=XZ Om;refine Rs (A3 t0 o.sl.aM q1) ?_;have e:cj (L.map EV.ev)=(kI.zero,0,5):=by rw[cj,X9 (by simpa using h1)]
  unfold IZ;rw[e];exact⟨_,rfl,λ_=>rfl,λz=>absurd z De⟩
 have q1:decide ((1000:Int)<(L.length:Int))=false:=XU Om;refine Rs (A3 t0 o.sl.aM q1) ?_;have e0:cj (L.map EV.ev)=rZ kI.zero (L.map EV.ev) 0:=by rw[cj,X5 (by simpa using h1)]
 obtain⟨b,hb⟩:∃b,b=h.length:=⟨_,rfl⟩;rw[<-hb];refine WL.inv T.mix (λm ts h'=>∃(k:Nat) (g':ah) (V:HV),k<=L.length/\m=L.length-k/\h' =h++g'/\cI h.length (h++g') b V/\lQ V.bW/\V.dt.length=k/\cj (L.map EV.ev)=rZ V.bW ((L.drop k).map EV.ev) k/\ts.length=31/\slot ts 5=.ptr b 0/\slot ts 14=s/\slot ts 15=.i L.length/\slot ts 16=.i k) L.length
  ⟨0,[ak.b [AV.af,.af,.af]],⟨[],[],[],.af,.af,.af⟩,Om,rfl,rfl,⟨Om,by rw[hb];exact bh,.nil,.nil,.nil,rH.2 ⟨λ_ _=>⟨by simp[sB],by simp[sB],by simp[sB]⟩,λ_ z=>by simp[sB]at z,λ_ z=>by simp[sB]at z⟩,(λx hx=>by cases hx),(λx hx=>by cases hx),(λx hx=>by cases hx),(λx hx=>by cases hx)⟩,lQ.zero,rfl,e0,Sn,Sw,(Sq t0),Sw,iQ⟩ ?_
 rintro _ ts _ ⟨k,g',V,hk,rfl,rfl,oV,wV,hVl,QU,hlen,t5,t14,t15,t16⟩;by_cases hlt:k<L.length
 ·have e3:=fF hlt;have e5:=wrapN (n:=k) Om;have ix:=o.sl.dM (kk:=.i64) hlt;have ld:∀{k'},Ext (h++g') k'->ar (some 5) (cW s 5 k) (λb=>k'[b]?)=some (.agg (EV.row L[k]),.au):=λ{k'} e=>o.sl.kR hlt (Ext.trans (Ext.app g' (Ext.refl h)) e)
  obtain⟨x,hx⟩:∃x,x=L[k]:=⟨_,rfl⟩;have hm:x∈L:=by rw[hx];exact Ya _
  have hd:L.drop k=x::L.drop (k+1):=by rw[hx];simp
  rw[<-hx]at ld;have ox:bt (h++g') x:=(o.all x hm).ext ⟨_,rfl⟩;have st:∀{b':Nat}{a0 a1 a2 a3 a4:AV},kg 5 0 (.agg x.row) b' (.b [a0,a1,a2,a3,a4])=some (az,.set b' (.b x.row)):=λ{_ _ _ _ _ _}=>ox.st
  refine Rs (A9 t5 t14 t15 t16 e3 ix @ld @st @cA) ?_;rw[XV h g'];rw[hd,YR,rZ]at QU;refine WF.gen T.c112 (Ly T (B:=h) (x:=x) (by rw[<-XV];exact oV.app _) wV Om (by rw[<-XV];exact ox.ext Xx) ⟨by have:=(sh.e x hm).1;omega,by have:=(sh.e x hm).2;omega⟩ gl) ?_;rintro _ _ ⟨g2,V2,rfl,rfl,o2,hV2,-,-⟩;by_cases h2:fU V.bW x.ev=0
  ·have q2:decide (fU V.bW x.ev≠0)=false:=XU (λz=>z h2);rw[X9 h2]at hV2;rw[X5 (λz=>z h2)]at QU;refine Rs (A6 t5 t14 t15 t16 q2 e5) ?_;refine⟨_,Om,k+1,g2,V2,Om,rfl,rfl,o2,by rw[hV2];exact wV.add h2,?_,by rw[hV2];exact QU,rfl⟩;have:V2.bW.dt.length=V.bW.dt.length+1:=by rw[hV2];exact wA
   simpa [HV.bW,hVl]using this
  ·have q2:decide (fU V.bW x.ev≠0)=true:=XZ h2;rw[X9 h2]at QU;refine Rs (A6 t5 t14 t15 t16 q2 e5) ?_;unfold IZ;rw[QU];refine⟨_,?_,λ_=>rfl,λz=>absurd z h2⟩;simp
 ·have e3:=gK hlt;have e4:k=L.length:=Om
  have Ub:cj (L.map EV.ev)=(V.bW,0,0):=by rw[QU,e4,YS];rfl
  refine Rs (A5 t5 t14 t15 t16 e3) ?_;unfold IZ;rw[Ub];exact⟨_,rfl,λz=>absurd rfl z,λ_=>⟨b,V,rfl,oV,rfl,wV,by simp;omega,by simp;omega⟩⟩
end
def qR(t:Int):Int:=bE t 0 999999999
def QA:decide ((0:Int)≠0)=false:=rfl
def du(l:List gq)(t:Nat)(n:By):gx×Int:=if(cj l).2.2≠0 then(gx.zero,(cj l).2.2)else((cj l).1.now,bZ (!dw (cj l).1.now t n) 10)
def cI.Hn{N h b V}(o:cI N h b V):∀j,some j∈V.now.bl->N<=j:=by
 rw[HV.now,ZH];cases hx:V.cU.getLast? with
 |none=>intro j hj;simp[RV.zero,RV.bl,sB]at hj
 |some R=>exact o.lo R (List.mem_of_getLast? hx)
def yV{h X:ah}{A C:ak}{j:Nat}(hj:h.length+1<=j):(h++[A]++X)[j]? =(h++[C]++X)[j]? :=by
 exact MF
section
variable {P:Program}(T:fI P) {h:ah}
include T
def r75(t:Int):ay P 75 [.i t] h (λv _=>v=.i (qR t)):=by
 refine .kV 5 T.mix T.c75 ?_;intro ts hlen t0;unfold fn75 zq;refine Rs t0 ?_;refine WF.ce T.c94 (r94 T _ _ _) λg1=>?_
 refine Rs t0 ?_;rfl
def G1{l v k}(r:IZ h l v k)(he:(cj l).2.2≠0):v=.dN [.nilPtr,.i (cj l).2.1,.i (cj l).2.2]:=by
 have:=T.mix;obtain⟨p,rfl,h1,_⟩:=r;rw[h1 he]
def BC{l v k}(r:IZ h l v k)(he:(cj l).2.2=0):∃b V,v=.dN [.ptr b 0,.i 0,.i 0]/\cI h.length k b V/\V.bW=(cj l).1/\lQ V.bW/\V.dt.length=l.length/\l.length<=1000/\V.cU.length<=1000/\(cj l).2.1=0/\fk V.now.an/\V.now.an=(cj l).1.now/\aC k V.now/\∀j,some j∈V.now.bl->h.length<=j:=by
 have:=T.mix;obtain⟨p,rfl,_,h2⟩:=r;obtain⟨b,V,rfl,h3,h4,h5,h6,h7⟩:=h2 he;have hz:(cj l).2.1=0:=by
  revert he
  unfold cj;split
  ·intro _;rfl
  ·have key:∀(l:List gq) (H:kI) (i:Nat),(rZ H l i).2.2=0->(rZ H l i).2.1=0:=by
    intro l
    induction l with
    |nil=>intro H i _;rfl
    |cons e l ih=>
     intro H i;rw[rZ];split
     case isTrue hb=>intro hc;exact absurd hc hb
     case isFalse hb=>exact ih _ _
   exact key l _ _
 have hr:V.cU.length<=1000:=by
  have e1:=h5.ln;have e2:=h5.le;exact z116
 exact⟨b,V,by rw[hz,he],h3,h4,h5,h6,h7,hr,hz,by rw[V.jC];exact h5.now,by rw[V.jC,h4],h3.rd.now,h3.Hn⟩
def r73{L:List EV}{s:AV}(o:fo h L s)(sh:yh L)(gl:Gl h){t:Nat}(ht:t<6)(n:By):ay P 73 [s,.i t,.str n] h (λv k=>∃V:RV,v=.dN [.agg V.row,.i (du (L.map EV.ev) t n).2]/\V.an=(du (L.map EV.ev) t n).1/\aC k V/\fk V.an):=by
 refine .nL 31 T.mix T.c73 ?_;intro ts hlen t0 t1 t2;unfold fn73;refine Rs (A3 t0 t1 t2) ?_;refine WF.res T.c78 (r78 T (o.ext Xx) sh (gl.ext Xx)) ?_;intro v g hv;by_cases he:(cj (L.map EV.ev)).2.2=0
 ·obtain⟨b,V,rfl,oV,hV,wV,_,_,hr,_,wn,hn,on,lo⟩:=BC T hv he;have st:=@aC.st _ _ on;refine Rs (A4 t0 t1 t2 @QA) ?_;refine WF.ce T.c79 (r79 T (oV.rd.ext Xx) hr) λg2=>?_
  refine Rs (A5 t0 t1 t2 @st @aE) ?_;refine WF.ce T.c86 (r86 T (on.ext Xx) wn.len ht _) λg3=>?_
  refine Rs (A4 t0 t1 t2 @aE) ?_;refine WF.ce T.c85 (r85 T _ _) λg4=>?_
  refine Rs (A5 t0 t1 t2 @st @aE) ?_;refine⟨V.now,?_,?_,?_,wn⟩
  ·rw[du,X5 (λz=>z he),hn]
  ·rw[du,X5 (λz=>z he),hn]
  ·refine(on.au (k:=h++[ak.b V.now.row]++g) λj hj=>yV (by have:=lo j hj;simpa using this)).ext Xx
 ·have Sy:=G1 T hv he;subst Sy;have q:decide ((cj (L.map EV.ev)).2.2≠0)=true:=XZ he;refine Rs (A4 t0 t1 t2 q) ?_;refine⟨RV.zero,?_,?_,aC.zero,fk.zero⟩
  ·rw[du,X9 he];rfl
  ·rw[du,X9 he];rfl
end
def xL{l t n}(h:(du l t n).2=0):(cj l).2.2=0/\(du l t n).1=(cj l).1.now/\n∈IQ (cj l).1.now t:=by
 unfold du at h ⊢;split at h
 case isTrue h1=>exact absurd h h1
 case isFalse h1=>
  rw[X5 h1];refine⟨Zq.1 h1,rfl,?_⟩;by_cases hh:dw (cj l).1.now t n=true
  ·unfold dw at hh;exact Zb hh
  ·have:dw (cj l).1.now t n=false:=by simpa using hh
   simp only[this,bZ]at h;exact absurd h De
def uZ(l:List gq)(n:By)(t:Int):Bool×Int:=
 if bj [(du l 2 n).2,qR t]≠0 then(false,bj [(du l 2 n).2,qR t])else(iI (du l 2 n).1 (qX (du l 2 n).1 n) t,0)
def qv(l:List gq)(t:Int):List (By)×Int:=
 if bj [(cj l).2.2,qR t]≠0 then([],bj [(cj l).2.2,qR t])else(kf (cj l).1.now t,0)
def kQ(l:List gq)(n:By):List Int×Int:=if(du l 4 n).2≠0 then([],(du l 4 n).2)else(cJ (eS (du l 4 n).1 n).bp 0,0)
def ql(l:List gq)(n:By):List (By)×Int:=if(du l 3 n).2≠0 then([],(du l 3 n).2)else((fq (du l 3 n).1 n).map gN.name,0)
def Cj{a b}(h:bj [a,b]=0):a=0/\b=0:=by
 simp only[bj]at h;split at h
 ·rename_i ha;split at h
  ·rename_i hb;exact⟨ha,hb⟩
  ·rename_i hb;exact absurd h hb
 ·rename_i ha;exact absurd h ha
section
variable {P:Program}(T:fI P) {h:ah}
include T
def r16{L s}(o:fo h L s)(sh:yh L)(gl:Gl h)(n:By)(t:Int):ay P 16 [s,.str n,.i t] h (λv _=>v=.dN [.bool (uZ (L.map EV.ev) n t).1,.i (uZ (L.map EV.ev) n t).2]):=by
 refine .nL 31 T.mix T.c16 ?_;intro ts hlen t0 t1 t2;unfold fn16;refine Rs (A3 t0 t1 t2) ?_;refine WF.res T.c73 (r73 T (o.ext Xx) sh (gl.ext Xx) (t:=2) De n) ?_;rintro _ g ⟨V,rfl,hV,oV,wV⟩;have st:∀{b':Nat}{a0 a1 a2 a3 a4 a5 a6:AV},kg 7 0 (.agg V.row) b' (.b [a0,a1,a2,a3,a4,a5,a6])=some (az,.set b' (.b V.row)):=λ{_ _ _ _ _ _ _ _}=>oV.st
 refine Rs (A5 t0 t1 t2 @st @aE) ?_;refine WF.ce T.c75 (r75 T t) λg1=>?_
 refine Rs (A3 t0 t1 t2) ?_;refine WF.ce T.c74 (r74 T (cg [_,_]) Si) λg2=>?_
 obtain⟨f,hf⟩:∃f,f=bj [(du (L.map EV.ev) 2 n).2,qR t]:=⟨_,rfl⟩;rw[<-hf,uZ,<-hf];by_cases h0:f=0
 case neg=>
  have q:decide (f≠0)=true:=XZ h0;rw[X9 h0];exact Rs (A4 t0 t1 t2 q) Tv
 have q:decide (f≠0)=false:=XU (λz=>z h0);rw[X5 (λz=>z h0)];rw[hf]at h0;obtain⟨he,hne,hm⟩:=xL (Cj h0).1;rw[<-hne,<-hV]at hm;refine Rs (A5 t0 t1 t2 q @aE) ?_;refine WF.res T.c77 (r77 T (oV.ext Xx) wV.len hm) ?_;rintro _ g3 ⟨x,hx,To,rfl⟩;refine Rs (A3 t0 t1 t2) ?_;refine WF.ce T.c76 (r76 T (oV.ext Xx) wV.len ((oV.e2 x hx).ext Xx) (wV.yT.sh x hx).2 (wV.yT.sh x hx).1 t) λg4=>?_
 refine Rs (A3 t0 t1 t2) ?_;rw[To,hV]
def r17{L s}(o:fo h L s)(sh:yh L)(gl:Gl h)(t:Int):ay P 17 [s,.i t] h (λv k=>∃s',v=.dN [s',.i (qv (L.map EV.ev) t).2]/\aH k s' 1 ((qv (L.map EV.ev) t).1.map ao)):=by
 refine .eG 28 T.mix T.c17 ?_;intro ts hlen t0 t1;unfold fn17;refine Rs (A2 t0 t1) ?_;refine WF.res T.c78 (r78 T (o.ext Xx) sh (gl.ext Xx)) ?_;intro v g hv;obtain⟨p,hvp⟩:∃p,v=.dN [p,.i (cj (L.map EV.ev)).2.1,.i (cj (L.map EV.ev)).2.2]:=by obtain⟨p,h1,_⟩:=hv;exact⟨p,h1⟩
 rw[hvp];refine Rs (A2 t0 t1) ?_;refine WF.ce T.c75 (r75 T t) λg1=>?_
 refine Rs (A2 t0 t1) ?_;refine WF.ce T.c74 (r74 T (cg [_,_]) Si) λg2=>?_
 obtain⟨f,hf⟩:∃f,f=bj [(cj (L.map EV.ev)).2.2,qR t]:=⟨_,rfl⟩;rw[<-hf,qv,<-hf];by_cases h0:f=0
 case neg=>
  have q:decide (f≠0)=true:=XZ h0;rw[X9 h0];refine Rs (A3 t0 t1 q) ?_;exact⟨_,rfl,.nil⟩
 have q:decide (f≠0)=false:=XU (λz=>z h0);rw[X5 (λz=>z h0)];rw[hf]at h0;obtain⟨b,V,hvb,oV,hV,wV,UO,hle,hr,hz,wn,hn,on,lo⟩:=BC T hv (Cj h0).1;rw[hvp]at hvb;have hpb:p=.ptr b 0:=by injection hvb with h1;injection h1
 rw[hpb];refine Rs (A3 t0 t1 q) ?_;refine WF.ce T.c79 (r79 T (oV.rd.ext Xx) hr) λg3=>?_
 refine Rs (A2 t0 t1) ?_;refine WF.res T.c80 (r80 T (on.ext Xx) wn.len wn.yT t) ?_;rintro v4 g4 h4;refine Rs (A2 t0 t1) ?_;rw[hn]at h4;exact⟨_,rfl,h4⟩
def r53{L s}(o:fo h L s)(sh:yh L)(gl:Gl h)(n:By):ay P 53 [s,.str n] h (λv k=>∃s',v=.dN [s',.i (kQ (L.map EV.ev) n).2]/\aH k s' 1 ((kQ (L.map EV.ev) n).1.map aK)):=by
 refine .eG 21 T.mix T.c53 ?_;intro ts hlen t0 t1;unfold fn53;refine Rs (A2 t0 t1) ?_;refine WF.res T.c73 (r73 T (o.ext Xx) sh (gl.ext Xx) (t:=4) De n) ?_;rintro _ g ⟨V,rfl,hV,oV,wV⟩;have st:∀{b':Nat}{a0 a1 a2 a3 a4 a5 a6:AV},kg 7 0 (.agg V.row) b' (.b [a0,a1,a2,a3,a4,a5,a6])=some (az,.set b' (.b V.row)):=λ{_ _ _ _ _ _ _ _}=>oV.st
 rw[kQ];by_cases h0:(du (L.map EV.ev) 4 n).2=0
 case neg=>
  have q:decide ((du (L.map EV.ev) 4 n).2≠0)=true:=XZ h0;exact Mp
 have q:decide ((du (L.map EV.ev) 4 n).2≠0)=false:=XU (λz=>z h0);rw[X5 (λz=>z h0)];obtain⟨he,hne,hm⟩:=xL h0;rw[<-hne,<-hV]at hm;refine Rs (A5 t0 t1 @st q @aE) ?_;refine WF.res T.c124 (r124 T (oV.ext Xx) wV.len hm) ?_;rintro _ g3 ⟨x,hx,To,rfl⟩;have hj:=wV.jb x.1 (Ym hx);refine Rs (A2 t0 t1) ?_;refine WF.res T.c125 (r125 T ((oV.e4 x hx).ext Xx) Om (λs hs=>(hj.2.2.2 s hs).1)) ?_;rintro v4 g4 h4;refine Rs (A2 t0 t1) ?_;rw[To,hV]at h4;exact⟨_,rfl,h4⟩
def r52{L s}(o:fo h L s)(sh:yh L)(gl:Gl h)(n:By):ay P 52 [s,.str n] h (λv k=>∃s',v=.dN [s',.i (ql (L.map EV.ev) n).2]/\aH k s' 1 ((ql (L.map EV.ev) n).1.map ao)):=by
 refine .eG 21 T.mix T.c52 ?_;intro ts hlen t0 t1;unfold fn52;refine Rs (A2 t0 t1) ?_;refine WF.res T.c73 (r73 T (o.ext Xx) sh (gl.ext Xx) (t:=3) De n) ?_;rintro _ g ⟨V,rfl,hV,oV,wV⟩;have st:∀{b':Nat}{a0 a1 a2 a3 a4 a5 a6:AV},kg 7 0 (.agg V.row) b' (.b [a0,a1,a2,a3,a4,a5,a6])=some (az,.set b' (.b V.row)):=λ{_ _ _ _ _ _ _ _}=>oV.st
 rw[ql];by_cases h0:(du (L.map EV.ev) 3 n).2=0
 case neg=>
  have q:decide ((du (L.map EV.ev) 3 n).2≠0)=true:=XZ h0;exact Mp
 have q:decide ((du (L.map EV.ev) 3 n).2≠0)=false:=XU (λz=>z h0);rw[X5 (λz=>z h0)];refine Rs (A5 t0 t1 @st q @aE) ?_;have hin:∀x∈V.aD,x.1.bu.length<2^30:=λx hx=>by have:=(wV.md x.1 (Ym hx)).2.1;omega
 refine WF.res T.c122 (r122 T (oV.ext Xx) wV.len hin n) ?_;rintro v3 g3 h3;have hsl:(fq V.an n).length<=2^40:=by
  have h1:(fq V.an n).length<=V.an.lines.length:=by unfold fq;exact Yu _ _
  have:=wV.l0;omega
 refine Rs (A2 t0 t1) ?_;refine WF.res T.c121 (r121 T h3 hsl (λx=>x.name) (λx _ k _=>bF.of (a:=[]) (c:=[]) T.c123 (r123 T x))) ?_;rintro v4 g4 h4;refine Rs (A2 t0 t1) ?_;rw[hV]at h4;exact⟨_,rfl,h4.a8⟩
def r219{x:jP×AV}(ox:x.2.one=true){S:List gN}{s:AV}(hs:aH h s 3 (S.map cB))(hl:S.length<2^63){b:Nat}(hb:h[b]? =some (.b [s])):
  ay P 219 [.agg (bn x),.ptr b 0] h (λv _=>v=.bool (decide (x.1.line∈S.map gN.name))):=by
 refine .eG 9 T.mix T.c219 ?_;intro ts hlen t0 t1;unfold fn219;have lb:∀{k:ah}{n':Option Nat}{a:Nat},Ext h k->ar n' (.ptr b a) (λz=>k[z]?)=dJ n' a (.b [s]):=λe=>aA (e.some hb)
 unfold bn at t0;refine Rs (A4 t0 t1 @ox @lb) ?_;refine WF.ce T.c142 (r142 T (hs.ext Xx) hl _) λg1=>?_
 rw[show(λy:gN=>decide (y.name=x.1.line))=λy=>decide (gN.name y=x.1.line)from rfl];refine Rs (A2 t0 t1) ?_;rw[fi]
def r126{V:RV}(o:aC h V)(w:fk V.an){p:By}(hp:p∈jg V.an):ay P 126 [.agg V.row,.str p] h (λv h'=>aH h' v 1 ((iJ V.an p).map ao)):=by
 refine .eG 20 T.mix T.c126 ?_;intro ts hlen t0 t1;unfold fn126;have QO:=@aC.box _ _ o;have l:=w.len;have hpc:=gI (f:=nE.name) (l:=V.an.aO) (n:=p) (d:=Hd) hp;have hj:=(w.pc _ hpc).1;refine Rs (A4 t0 t1 @QO @aE) ?_;refine WF.ce T.c218 (r218 T (o.ext Xx) l hp) λg1=>?_
 have pj:(dm (gX V.an p))[1]? =some (.str (gX V.an p).yQ):=rfl;unfold dm;refine Rs (A3 t0 t1 @aE) ?_;refine WF.res T.c124 (r124 T (o.ext Xx) l hj) ?_;rintro _ g2 ⟨x,hx,To,rfl⟩;unfold bK;refine Rs (A3 t0 t1 @aE) ?_;have hin:∀x∈V.aD,x.1.bu.length<2^30:=λx hx=>by have:=(w.md x.1 (Ym hx)).2.1;omega
 refine WF.res T.c122 (r122 T (o.ext Xx) l hin _) ?_;rintro v3 g3 h3;have ov:=h3.one;have hsl:(fq V.an x.1.mod).length<2^30:=by
  have h1:(fq V.an x.1.mod).length<=V.an.lines.length:=by unfold fq;exact Yu _ _
  have:=w.l0;omega
 have sn:∀{N:Nat},kg 1 0 v3 N (.b [.af])=some (az,.set N (.b [v3])):=λ{_}=>bY ov Si
 refine Rs (A6 t0 t1 @fS @fK @ov @sn) ?_;refine WF.res T.c138 (r138 T (o.i2.ext Xx) o.jl.1 (by have:=l.l2;omega) (λy=>decide (y.1.line∈(fq V.an x.1.mod).map gN.name)) (λy hy k e=>bF.of (a:=[]) T.c219 (r219 T (o.jl.1 y hy) (h3.ext (Ext.trans Xx e)) Om (e.some bh)))) ?_;rintro s4 g4 h4;have Rn:(V.aj.filter λy=>decide (y.1.line∈(fq V.an x.1.mod).map gN.name)).length<=V.aj.length:=Yu _ _;refine Rs (A2 t0 t1) ?_;refine WF.res T.c137 (r137 T h4.a8 (λx hx=>o.jl.1 x ((Zd.1 hx).1)) (by have:=l.l2;omega) (λx=>x.1.name) (λx hx k e=>bF.of (a:=[]) (c:=[]) T.c140 (r140 T x (o.jl.1 x ((Zd.1 hx).1))))) ?_
 rintro s5 g5 h5;have:=h5.a8;refine Rs (A2 t0 t1) ?_;have e:iJ V.an p=(V.aj.filter λy=>decide (y.1.line∈(fq V.an x.1.mod).map gN.name)).map λx=>x.1.name:=by
  rw[iJ,<-To];simp only[RV.an,ZZ,ZD];rfl
 rw[e];exact this
def kP(l:List gq)(n:By):List (By)×Int:=if(du l 5 n).2≠0 then([],(du l 5 n).2)else(iJ (du l 5 n).1 n,0)
def r54{L s}(o:fo h L s)(sh:yh L)(gl:Gl h)(n:By):ay P 54 [s,.str n] h (λv k=>∃s',v=.dN [s',.i (kP (L.map EV.ev) n).2]/\aH k s' 1 ((kP (L.map EV.ev) n).1.map ao)):=by
 refine .eG 20 T.mix T.c54 ?_;intro ts hlen t0 t1;unfold fn54;refine Rs (A2 t0 t1) ?_;refine WF.res T.c73 (r73 T (o.ext Xx) sh (gl.ext Xx) (t:=5) De n) ?_;rintro _ g ⟨V,rfl,hV,oV,wV⟩;have st:∀{b':Nat}{a0 a1 a2 a3 a4 a5 a6:AV},kg 7 0 (.agg V.row) b' (.b [a0,a1,a2,a3,a4,a5,a6])=some (az,.set b' (.b V.row)):=λ{_ _ _ _ _ _ _ _}=>oV.st
 rw[kP];by_cases h0:(du (L.map EV.ev) 5 n).2=0
 case neg=>
  have q:decide ((du (L.map EV.ev) 5 n).2≠0)=true:=XZ h0;exact Mp
 have q:decide ((du (L.map EV.ev) 5 n).2≠0)=false:=XU (λz=>z h0);rw[X5 (λz=>z h0)];obtain⟨he,hne,hm⟩:=xL h0;rw[<-hne,<-hV]at hm;refine Rs (A5 t0 t1 @st q @aE) ?_;refine WF.res T.c126 (r126 T (oV.ext Xx) wV hm) ?_;rintro v4 g4 h4;refine Rs (A2 t0 t1) ?_;rw[hV]at h4;exact⟨_,rfl,h4⟩
def Eo(l:List Int):Int×Int:=
 if bj [bZ (decide (l.length=0)) 12,bZ (decide (32<l.length)) 5]≠0 then(0,bj [bZ (decide (l.length=0)) 12,bZ (decide (32<l.length)) 5])
 else if bj (l.map λn=>bE n 0 999999999)≠0 then(0,bj (l.map λn=>bE n 0 999999999))else(ga l,0)
def r93(n:Int):ay P 93 [.i n] h (λv _=>v=.i (bE n 0 999999999)):=by
 refine .kV 5 T.mix T.c93 ?_;intro ts hlen t0;unfold fn93 zq;refine Rs t0 ?_;refine WF.ce T.c94 (r94 T _ _ _) λg1=>?_
 exact Rs t0 Tv
def r27{s l}(hs:aH h s 1 (l.map aK))(hl:l.length<2^30):ay P 27 [s] h (λv _=>v=.dN [.i (Eo l).1,.i (Eo l).2]):=by
 refine .kV 27 T.mix T.c27 ?_;intro ts hlen t0;unfold fn27;refine Rs (A2 t0 hs.aM) ?_;refine WF.ce T.c85 (r85 T _ _) λg1=>?_
 refine Rs (A2 t0 hs.aM) ?_;refine WF.ce T.c85 (r85 T _ _) λg2=>?_
 refine Rs t0 ?_;refine WF.ce T.c74 (r74 T (cg [_,_]) Si) λg3=>?_
 have e1:decide ((l.length:Int)=0)=decide (l.length=0):=ZJ.2 Om;have e2:decide ((32:Int)<(l.length:Int))=decide (32<l.length):=ZJ.2 Om;rw[e1,e2];obtain⟨f,hf⟩:∃f,f=bj [bZ (decide (l.length=0)) 12,bZ (decide (32<l.length)) 5]:=⟨_,rfl⟩;rw[<-hf,Eo,<-hf];by_cases h0:f=0
 case neg=>
  have q:decide (f≠0)=true:=XZ h0;rw[X9 h0];exact Rs (A2 t0 q) Tv
 have q:decide (f≠0)=false:=XU (λz=>z h0);rw[X5 (λz=>z h0)];refine Rs (A2 t0 q) ?_;refine WF.res T.c92 (r92 T (hs.ext Xx) Om (λn=>bE n 0 999999999) (λn _ k _=>bF.of (a:=[]) (c:=[]) T.c93 (r93 T n))) ?_;rintro s4 g4 hf4;refine Rs t0 ?_;refine WF.ce T.c74 (r74 T hf4.a8 (by simp;omega)) λg5=>?_
 by_cases h1:bj (l.map λn=>bE n 0 999999999)=0
 case neg=>
  have q:decide (bj (l.map λn=>bE n 0 999999999)≠0)=true:=XZ h1;rw[X9 h1];exact Rs (A2 t0 q) Tv
 have q1:decide (bj (l.map λn=>bE n 0 999999999)≠0)=false:=XU (λz=>z h1);rw[X5 (λz=>z h1)];have hb:∀n∈l,-1<=n/\n<=999999999:=λn hn=>by
  rw[qb]at h1;split at h1
  ·exact absurd h1 De
  case isFalse hh=>
   have:=iw (n:=n) (lo:=0) (hi:=999999999) λz=>hh (ZC.2 ⟨n,hn,by simpa using z⟩)
   omega
 refine Rs (A2 t0 q1) ?_;refine WF.ce T.c95 (r95 T (hs.ext Xx) hl hb) λg6=>?_
 exact Rs t0 Tv
end
def jV(l:List gq)(n:By):List (By)×Int:=if(du l 3 n).2≠0 then([],(du l 3 n).2)else((jm (du l 3 n).1 n).map gy.name,0)
def El{h X:ah}{A A' R R':ak}{j:Nat}(hj:h.length+2<=j):(h++[A]++[R]++X)[j]? =(h++[A']++[R']++X)[j]? :=by
 exact MF
def E2:ai:=((fn213).body.tl).hd
def LY:ai:=E2.tl.HE
def Pd:ai:=(fn213).body.tl.tl
def LX:(fn213).body=.seq ((fn213).body.hd) (.seq (.seq E2.hd (.block 0 (.eQ (.t 6) [7] LY.DL LY.C7))) Pd):=rfl
section
variable {P:Program}(T:fI P) {h:ah}
include T
def r213{f:FuncId}{A:aq}(hA:bV P f=some A){a c:List AV}{L:List (gy×AV)}{pre:ah->Prop}(hi:IterM P f a c (L.map λx=>[.agg (aV x)]) pre)(ho:∀x∈L,x.2.one=true)(hl:L.length<=2^30)(hp:pre h)(hpe:∀k,Ext h k->pre k):
  ay P 213 [.af,.func (.func f) a c] h (λv k=>aH k v 4 (L.map aV)):=by
 refine .of T.mix T.c213 ?_;obtain⟨ts,QP⟩:∃ts,ts=aU 13 [.af,.func (.func f) a c]:=⟨_,rfl⟩;have hlen:ts.length=13:=by rw[QP];rfl
 have t0:slot ts 0=.af:=by rw[QP];rfl
 have t1:slot ts 1=.func (.func f) a c:=by rw[QP];rfl
 show WC P bT (fn213).body [] (aU 13 [.af,.func (.func f) a c]) h _;rw[<-QP,LX];clear QP;obtain⟨RR,RL⟩:∃RR,RR=Pd:=⟨_,rfl⟩;obtain⟨RA,Wr⟩:∃RA,RA=LY.DL:=⟨_,rfl⟩;obtain⟨RB,Wq⟩:∃RB,RB=LY.C7:=⟨_,rfl⟩;rw[<-RL,<-Wr,<-Wq];unfold E2 fn213;simp only[ai.tl,ai.hd];refine Rs (A2 t0 t1) ?_;refine WC.iterM T.mix hA (a:=a) (c:=c) (Sq t0) hi (λy hy=>by obtain⟨z,_,rfl⟩:=Ys.1 hy;rfl)
  (λmm i h' g=>∃sl:AV,h' =h++[ak.b [sl]]/\h'.length+1<=mm/\mm<=h'.length+1+g.length/\i<=L.length/\∀R:ak,Fr mm (h'++[R]++g) sl 4 ((L.take i).map aV)) (λ_ _ _=>False)
  (λg=>⟨.af,rfl,Om,X8 _,Yt _,λR=>.nil⟩)
  (λmm i h' g g' hI=>by
   obtain⟨sl,a1,a2,a3,a4,a5⟩:=hI;exact⟨sl,a1,a2,by rw[XS];omega,a4,λR=>by rw[<-XV];exact(a5 R).app _⟩)
  (λX=>hpe _ Xx) (λmm i h' g X Q1 hI=>by obtain⟨sl,rfl,_⟩:=hI;exact hpe _ Xx) (λmm i hi' h' g R B Q1 hI=>?_) (λe h' g Q1 hI=>?_)
 ·obtain⟨sl,rfl,SA,Vd,hi0,hfr⟩:=hI;have hiL:i<L.length:=by simpa using hi'
  rw[Y7,Wr,Wq];obtain⟨x,hx⟩:∃x,x=L[i]:=⟨_,rfl⟩;have ox:=ho x (by rw[hx];exact Ya _);have Rc:L.take (i+1)=L.take i++[x]:=by rw[hx,YF,XY hiL];rfl
  rw[<-hx];unfold LY E2 fn213;simp only[ai.tl,ai.hd,ai.HE,ai.DL,ai.C7,setArgs,aV];refine Rs (A3 t0 t1 @ox) ?_;refine⟨_,g++[ak.b [AV.str x.1.name,.str x.1.gives,.str x.1.line,x.2]],by rw[<-XV],Q1,?_⟩;rw[<-XV];have lb:∀{Z:ah}{n a},ar n (.ptr h.length a) (λz=>(h++[ak.b [sl]]++[B]++g++Z)[z]?)=dJ n a (.b [sl]):=λ{_ _ _}=>aA sG
  have lx:∀{n a},ar n (.ptr (h++[ak.b [sl]]++[R]++g).length a) (λz=>(h++[ak.b [sl]]++[B]++g++[ak.b [AV.str x.1.name,.str x.1.gives,.str x.1.line,x.2]])[z]?)=dJ n a (.b [AV.str x.1.name,.str x.1.gives,.str x.1.line,x.2]):=λ{_ _}=>by
   have:(h++[ak.b [sl]]++[R]++g).length=(h++[ak.b [sl]]++[B]++g).length:=Si
   rw[this];exact aA bh
  refine Rs (A5 t0 t1 @ox @lb @lx) ?_;obtain⟨gt,T2⟩:∃gt,gt=g.take (mm-(h.length+2)):=⟨_,rfl⟩;have Vx:h.length+2<=mm/\mm<=h.length+2+g.length:=by
   simp only[XS,XX,X1]at SA Vd;omega
  have hgl:gt.length=mm-(h.length+2):=by rw[T2,YQ];omega
  have hgs:g=gt++g.drop (mm-(h.length+2)):=by rw[T2,Zl]
  have h0l:(h++[ak.b [sl]]++[B]++gt).length=mm:=by
   exact Jq
  have hfs:Fr (h++[ak.b [sl]]++[B]++gt).length (h++[ak.b [sl]]++[B]++g++[ak.b [AV.str x.1.name,.str x.1.gives,.str x.1.line,x.2]]++[ak.cells [AV.str x.1.name,.str x.1.gives,.str x.1.line,x.2] true true]) sl 4 ((L.take i).map aV):=by
   rw[h0l];exact((hfr B).app _).app _
  have hext:Ext (h++[ak.b [sl]]++[B]++gt) (h++[ak.b [sl]]++[B]++g++[ak.b [AV.str x.1.name,.str x.1.gives,.str x.1.line,x.2]]++[ak.cells [AV.str x.1.name,.str x.1.gives,.str x.1.line,x.2] true true]):=by
   refine⟨g.drop (mm-(h.length+2))++[ak.b [AV.str x.1.name,.str x.1.gives,.str x.1.line,x.2]]++[ak.cells [AV.str x.1.name,.str x.1.gives,.str x.1.line,x.2] true true],?_⟩
   conv=>lhs;rw[hgs]
   simp only[XV]
  refine WR.fQ (h0:=h++[ak.b [sl]]++[B]++gt) (cs:=(L.take i).map aV) (ys:=[aV x]) hfs (Fr.push (N:=0) (Yt _) [aV x] (by simp[aV])).a8 De Si (by simp only[X2,YQ,XX,X1];omega) hext ?_;intro g' hlg hff hkp;have hrow:(L.take i).map aV++[aV x]=(L.take (i+1)).map aV:=by rw[Rc,X4];rfl
  rw[hrow]at hff;rw[hrow];obtain⟨sn,Ry⟩:∃sn,sn=AV.slice (h++[ak.b [sl]]++[B]++g++[ak.b [AV.str x.1.name,.str x.1.gives,.str x.1.line,x.2]]++[ak.cells [AV.str x.1.name,.str x.1.gives,.str x.1.line,x.2] true true]).length 0 ((L.take (i+1)).map aV).length 4:=⟨_,rfl⟩;rw[<-Ry]at hff ⊢;have osn:sn.one=true:=by rw[Ry];rfl
  have st:aW 1 (.ptr h.length 0) sn (λz=>(h++[ak.b [sl]]++[B]++gt++g')[z]?)=some (az,.set h.length (.b [sn])):=by
   have:(h++[ak.b [sl]]++[B]++gt++g')[h.length]? =some (.b [sl]):=sG;rw[aL this];exact bY osn Si
  refine Rs (A3 t0 t1 @st) ?_;refine⟨h++[ak.b [sn]],gt++g',by simp only[XV],Si,λy hy=>?_,sn,rfl,by simp only[XS,XX,X1];omega,?_,Om,λR'=>?_⟩
  ·have SE:y<gt.length:=by
    simp only[XS,XX,X1]at hy;omega
   rw[XW SE]
   conv=>rhs;rw[hgs]
   rw[XW SE]
  ·exact Jq
  ·rw[<-h0l];refine hff.aB λb hb=>?_
   have hbb:=(hff.bQ hb).1;rw[h0l]at hbb;rw[XV _ gt];exact El Om
 ·by_cases Rr:e=.normal
  case neg=>rw[X5 Rr]at hI;exact hI.elim
  subst Rr;rw[X9 rfl]at hI;obtain⟨mm,sl,rfl,_,_,_,hfr⟩:=hI;rw[X2,Yz]at hfr;rw[RL];have hf:=(hfr ak.dead).a8;have lb:∀{n a},ar n (.ptr h.length a) (λz=>(h++[ak.b [sl]]++[ak.dead]++g)[z]?)=dJ n a (.b [sl]):=λ{_ _}=>aA As
  unfold Pd fn213;simp only[ai.tl,ai.hd];refine Rs (A3 t0 t1 @lb) ?_;exact hf
def r118{f:FuncId}{A:aq}(hA:bV P f=some A){a c:List AV}{L:List (gy×AV)}{pre:ah->Prop}(hi:IterM P f a c (L.map λx=>[.agg (aV x)]) pre)(ho:∀x∈L,x.2.one=true)(hl:L.length<=2^30)(hp:pre h)(hpe:∀k,Ext h k->pre k):
  ay P 118 [.func (.func f) a c] h (λv k=>aH k v 4 (L.map aV)):=by
 refine .kV 5 T.mix T.c118 ?_;intro ts hlen t0;unfold fn118;refine Rs t0 ?_;refine WF.res T.c213 (r213 T hA hi ho hl hp hpe) ?_;rintro v g1 h1;refine Rs t0 ?_;exact h1
def r51{L:List EV}{s:AV}(o:fo h L s)(sh:yh L)(gl:Gl h)(n:By):ay P 51 [s,.str n] h (λv k=>∃s',v=.dN [s',.i (jV (L.map EV.ev) n).2]/\aH k s' 1 ((jV (L.map EV.ev) n).1.map ao)):=by
 refine .eG 22 T.mix T.c51 ?_;intro ts hlen t0 t1;unfold fn51;refine Rs (A2 t0 t1) ?_;refine WF.res T.c73 (r73 T (o.ext Xx) sh (gl.ext Xx) (t:=3) De n) ?_;rintro _ g ⟨V,rfl,hV,oV,wV⟩;have st:∀{b':Nat}{a0 a1 a2 a3 a4 a5 a6:AV},kg 7 0 (.agg V.row) b' (.b [a0,a1,a2,a3,a4,a5,a6])=some (az,.set b' (.b V.row)):=λ{_ _ _ _ _ _ _ _}=>oV.st
 rw[jV];by_cases h0:(du (L.map EV.ev) 3 n).2=0
 case neg=>
  have q:decide ((du (L.map EV.ev) 3 n).2≠0)=true:=XZ h0;exact Mp
 have q:decide ((du (L.map EV.ev) 3 n).2≠0)=false:=XU (λz=>z h0);rw[X5 (λz=>z h0)];refine Rs (A5 t0 t1 @st q @aE) ?_;have hin:∀x∈V.aD,x.1.bu.length<2^30:=λx hx=>by have:=(wV.md x.1 (Ym hx)).2.1;omega
 have ov1:∀x∈iK V n,x.2.one=true:=λx hx=>oV.jl.2.1 x (Zd.1 hx).1
 have hnl:(iK V n).length<=2^30:=by
  have h1:(iK V n).length<=V.aD.length:=by unfold iK;exact Yu _ _
  have:=wV.len.l3;omega
 refine WF.res T.c119 (r119 T (oV.ext Xx) n) ?_;rintro _ g1 ⟨rfl,hp⟩;refine Rs (A2 t0 t1) ?_;refine WF.res T.c118 (r118 T T.c214 (a:=[]) (rA T wV.len hin n _ _) ov1 hnl hp (λk e=>qk.ext hp e)) ?_;rintro v2 g2 h2;refine Rs (A2 t0 t1) ?_;refine WF.res T.c117 (r117 T h2 ov1 Om (λx=>x.1.name) (λx hx k _=>bF.of (a:=[]) (c:=[]) T.c120 (r120 T x (ov1 x hx)))) ?_;rintro v3 g3 h3;refine Rs (A2 t0 t1) ?_;refine⟨_,rfl,?_⟩;have:=h3.a8;rw[<-hV,<-pq,ZD (g:=gy.name)];exact this
end
structure AN(N:Nat)(h:ah)(out:AV)(x:EV):Prop where
 n:Fr N h x.sn 1 (x.ev.names.map ao)
 v:Fr N h x.sv 1 (x.ev.cE.map aK)
 dn:∀j,sB x.sn=some j->sB out≠some j
 dv:∀j,sB x.sv=some j->sB out≠some j
def AN.ok{N h out x}(o:AN N h out x):bt h x:=⟨o.n.a8,o.v.a8⟩
theorem AN.app{N h out x}(o:AN N h out x)(g:ah):AN N (h++g) out x:=⟨o.n.app g,o.v.app g,o.dn,o.dv⟩
def pJ(n:By)(e:gq):Bool:=
 match D9 (pv e)with
 |none=>false
 |some 3=>true
 |some i=>decide (aP e i=n)
def Ku(l:List gq):List gq:=l.mapIdx λi e=>{e with num:=(i:Int)+1}
def mR(l:List gq)(n:By):List gq×Int:=
 if bj [(cj l).2.2,bZ (decide ((cj l).2.2=0) && !dw (cj l).1.now 0 n) 10]≠0 then([],bj [(cj l).2.2,bZ (decide ((cj l).2.2=0) && !dw (cj l).1.now 0 n) 10])
 else(Ku ((cj l).1.fw.filter (pJ n)),0)
section
variable {P:Program}(T:fI P) {h:ah}
include T
def r87{L s}(hs:fo h L s)(hl:L.length<=2^30)(hle:∀x∈L,x.ev.names.length<=2^30/\x.ev.cE.length<=2^30):
  ay P 87 [s,.func (.func 91) [] []] h (λv h'=>∃L':List EV,L'.map EV.ev=L.map EV.ev/\Fr h.length h' v 5 (L'.map EV.row)/\∀x∈L',AN h.length h' v x):=by
 refine .eG 22 T.mix T.c87 ?_;intro ts hlen t0 t1;unfold fn87;refine Rs (A3 t0 t1 hs.sl.aM) ?_;refine WL.inv T.mix (λn ts h'=>∃(k:Nat) (out:AV) (L':List EV) (g:ah),k<=L.length/\n=L.length-k/\h' =h++g/\L'.map EV.ev=(L.take k).map EV.ev/\Fr h.length (h++g) out 5 (L'.map EV.row)/\(∀x∈L',AN h.length (h++g) out x)/\
   ts.length=22/\slot ts 1=.func (.func 91) [] []/\slot ts 5=out/\slot ts 8=s/\slot ts 9=.i L.length/\slot ts 10=.i k) L.length
  ⟨0,.af,[],[],Om,rfl,Si,rfl,.nil,(λx hx=>by cases hx),Sn,(Sq t1),Sw,(Sq t0),Sw,iQ⟩ ?_
 rintro _ ts _ ⟨k,out,L',g,hk,rfl,rfl,hm,hfr,hin,hlen,t1,t5,t8,t9,t10⟩;have Vi:L'.length=k:=by have:=Yx List.length hm;simp at this;omega
 by_cases hlt:k<L.length
 ·have e3:=fF hlt;have e5:=wrapN (n:=k) Om;have ix:=hs.sl.dM (kk:=.i64) hlt;have ld:∀{k'},Ext (h++g) k'->ar (some 5) (cW s 5 k) (λb=>k'[b]?)=some (.agg (EV.row L[k]),.au):=λ{k'} e=>hs.sl.kR hlt (Ext.trans Xx e)
  obtain⟨x,hx⟩:∃x,x=L[k]:=⟨_,rfl⟩;have SA:x∈L:=by rw[hx];exact Ya _
  have Rc:L.take (k+1)=L.take k++[x]:=by rw[hx,YF,XY hlt];rfl
  rw[<-hx]at ld;have ox:=hs.all x SA;have st:∀{b':Nat}{a0 a1 a2 a3 a4:AV},kg 5 0 (.agg x.row) b' (.b [a0,a1,a2,a3,a4])=some (az,.set b' (.b x.row)):=λ{_ _ _ _ _ _}=>ox.st
  refine Rs (o8 t1 t5 t8 t9 t10 e3 ix @ld @st @cA) ?_;refine WF.res T.c91 (r91 T x (ox.ext Xx) ⟨by have:=(hle x SA).1;omega,by have:=(hle x SA).2;omega⟩) ?_;rintro _ g1 ⟨x',QV,rfl,fn,fv⟩;have VZ:bt (h++g++[ak.b x.row]++g1) x':=⟨by rw[QV];exact fn.a8,by rw[QV];exact fv.a8⟩;have bs:=@bt.Gk _ _ VZ;refine Rs (A6 t1 t5 t8 t9 t10 @bs) ?_;refine WR.fQ (h0:=h) (cs:=L'.map EV.row) (ys:=[x'.row]) (((hfr.app _).app _).app _) (Fr.push (N:=0) (Yt _) [x'.row] (by intro y hy;rw[Yl]at hy;rw[hy];rfl)).a8 De Si (by simp only[X2,XX,X1];omega) Xx ?_;intro g' Q1 hff hkp;have hrow:L'.map EV.row++[x'.row]=(L'++[x']).map EV.row:=by rw[X4];rfl
  rw[hrow]at hff;rw[hrow];obtain⟨sn,Ry⟩:∃sn,sn=AV.slice (h++g++[ak.b x.row]++g1++[ak.cells x'.row true true]).length 0 ((L'++[x']).map EV.row).length 5:=⟨_,rfl⟩;rw[<-Ry]at hff ⊢;have Ts:∀i,sB sn=some i->(h++g++[ak.b x.row]++g1).length+1=i:=λi hi=>by rw[Ry]at hi;cases hi;simp;omega
  have hout:∀b,sB out=some b->b<(h++g).length:=λb hb=>(hfr.bQ hb).2
  have kp:∀i,i<(h++g++[ak.b x.row]++g1).length->sB out≠some i->(h++g')[i]? =(h++g++[ak.b x.row]++g1)[i]? :=λi hi hne=>by
   rw[hkp i (by rw[XS];omega) (λb0 o n e he zz=>hne (by rw[he,zz];rfl)),XW hi]
  refine Rs (A6 t1 t5 t8 t9 t10 e5) ?_;refine⟨_,Om,k+1,sn,L'++[x'],g',Om,rfl,rfl,?_,hff,λy hy=>?_,rfl,rfl⟩
  ·rw[X4,hm,Rc,X4];simp[QV]
  ·rcases X3.1 hy with hy|hy
   ·have oy:=hin y hy;have ln:=λj (hj:sB y.sn=some j)=>(oy.n.bQ hj).2
    have lv:=λj (hj:sB y.sv=some j)=>(oy.v.bQ hj).2
    refine⟨((oy.n.app [ak.b x.row]).app g1).aB λj hj=>kp j (by have:=ln j hj;simp only[XS]at this ⊢;omega) (oy.dn j hj),((oy.v.app [ak.b x.row]).app g1).aB λj hj=>kp j (by have:=lv j hj;simp only[XS]at this ⊢;omega) (oy.dv j hj),λj hj e=>?_,λj hj e=>?_⟩
    ·have h1:=ln j hj;have h2:=Ts j e;simp only[XS]at h1 h2;omega
    ·have h1:=lv j hj;have h2:=Ts j e;simp only[XS]at h1 h2;omega
   ·rw[Yl]at hy;subst hy;have ln:=λj (hj:sB y.sn=some j)=>fn.bQ hj
    have lv:=λj (hj:sB y.sv=some j)=>fv.bQ hj
    have en:(h++g++[ak.b x.row]).length=(h++g).length+1:=by rw[XS];rfl
    rw[<-QV]at fn fv;exact P2
 ·have e3:=gK hlt;have e4:k=L.length:=Om
  refine Rs (A6 t1 t5 t8 t9 t10 e3) ?_;rw[e4,Yz]at hm;exact⟨L',hm,hfr,hin⟩
def r240{x}(ox:bt h x){b i:Nat}(hb:h[b]? =some (.b [.i (i:Int)]))(hi:i<x.ev.names.length)(n:By):ay P 240 [.agg x.row,.str n,.ptr b 0] h (λv _=>v=.bool (decide (aP x.ev i=n))):=by
 refine .nL 13 T.mix T.c240 ?_;intro ts hlen t0 t1 t2;unfold fn240;have QO:=@bt.box _ _ ox;have lb:∀{k:ah}{n':Option Nat}{a:Nat},Ext h k->ar n' (.ptr b a) (λz=>k[z]?)=dJ n' a (.b [.i (i:Int)]):=λe=>aA (e.some hb)
 have ix:=ox.n.dM (kk:=.i64) hi;have ev:aP x.ev i=x.ev.names[i]:=by rw[aP,YC,XY hi];rfl
 have ld:∀{k':ah},Ext h k'->ar none (cW x.sn 1 i) (λb=>k'[b]?)=some (.str (aP x.ev i),.au):=λ{k'} e=>by
  rw[ev];exact ox.n.kS hi rfl e
 exact Rs (A8 t0 t1 t2 @QO @lb @aN ix @ld) Tv
def r153{x}(ox:bt h x)(n:By):ay P 153 [.agg x.row,.str n] h (λv _=>v=.bool true):=by
 refine .eG 5 T.mix T.c153 ?_;intro ts hlen t0 t1;unfold fn153;have QO:=@bt.box _ _ ox;exact Rs (A3 t0 t1 @QO) Tv
def r89{x d}(ox:bt h x)(wx:kT x.ev d){b n}(hb:h[b]? =some (.b [.str n])):ay P 89 [.agg x.row,.ptr b 0] h (λv _=>v=.bool (pJ n x.ev)):=by
 refine .eG 18 T.mix T.c89 ?_;intro ts hlen t0 t1;unfold fn89;have QO:=@bt.box _ _ ox;have lb:∀{k:ah}{n':Option Nat}{a:Nat},Ext h k->ar n' (.ptr b a) (λz=>k[z]?)=dJ n' a (.b [.str n]):=λe=>aA (e.some hb)
 refine Rs (A3 t0 t1 @QO) ?_;refine WF.res T.c90 (r90 T) ?_;rintro _ g2 ⟨vf,rfl,hk⟩;have lk:∀{z:AV},iA .s z false (.map (h++[ak.b x.row]).length) (.str x.ev.kind) (λb=>(h++[ak.b x.row]++g2)[b]?)=lG z false ((gT x.ev.kind).map vf):=hk.look;rw[wx.kd]at lk;have Rp:∀{z:AV},_=some (vf d,iH.au):=@lk;obtain⟨rs,a,hv,hr,ha,hab⟩:=(hk.k d).ex;rw[hv]at Rp;unfold pJ;rw[wx.pv];unfold yj at hab;have hnl:=wx.nl;cases QW:D9 d with
 |none=>
  rw[QW]at hab;have hab:a=.nilFunc:=hab;subst hab;have en:uk true (pC .po .nilFunc .nilFunc)=some (.bool false):=rfl;exact Rs (A6 t0 t1 @bB @bX @Rp @en) Tv
 |some i=>
  rw[QW]at hab;by_cases h3:i=3
  ·subst h3;have hab:a=.func (.func 153) [] []:=hab;subst hab;have en:∀{A C:List AV},uk true (pC .po (.func (.func 153) A C) .nilFunc)=some (.bool true):=rfl;refine Rs (A8 t0 t1 @bB @bX @Rp @en @cA @lb) ?_;refine WF.ce T.c153 (r153 T (ox.ext Xx) n) λg3=>?_
   exact Rs t0 Tv
  ·obtain⟨b3,rfl,T3⟩:∃b',a=.func (.func 240) [] [.ptr b' 0]/\(h++[ak.b x.row]++g2)[b']? =some (.b [.i (i:Int)]):=by
    split at hab
    ·rename_i hz;cases hz
    ·rename_i hz;cases hz;exact absurd rfl h3
    ·rename_i hz;cases hz;exact hab
   have hil:i<x.ev.names.length:=by
    rw[hnl];cases d<;>simp[D9]at QW<;>first|(subst QW;decide)|exact absurd QW.symm h3
   have en:∀{A C:List AV},uk true (pC .po (.func (.func 240) A C) .nilFunc)=some (.bool true):=rfl;refine Rs (A8 t0 t1 @bB @bX @Rp @en @cA @lb) ?_;refine WF.ce T.c240 (a:=[]) (c:=[.ptr b3 0]) (r240 T (ox.ext Xx) (Ext.some Xx T3) hil n) λg3=>?_
   exact Rs t0 Tv
def r26{L s}(o:fo h L s)(sh:yh L)(gl:Gl h)(n:By):ay P 26 [s,.str n] h (λv k=>∃s' L',v=.dN [s',.i (mR (L.map EV.ev) n).2]/\fo k L' s'/\L'.map EV.ev=(mR (L.map EV.ev) n).1):=by
 refine .eG 54 T.mix T.c26 ?_;intro ts hlen t0 t1;unfold fn26;refine Rs (A2 t0 t1) ?_;refine WF.res T.c78 (r78 T (o.ext Xx) sh (gl.ext Xx)) ?_;intro v g hv;obtain⟨p,hvp⟩:∃p,v=.dN [p,.i (cj (L.map EV.ev)).2.1,.i (cj (L.map EV.ev)).2.2]:=by obtain⟨p,h1,_⟩:=hv;exact⟨p,h1⟩
 rw[hvp];by_cases he:(cj (L.map EV.ev)).2.2=0
 case neg=>
  have q:decide ((cj (L.map EV.ev)).2.2=0)=false:=XU he;refine Rs (A3 t0 t1 q) ?_;refine WF.ce T.c85 (r85 T _ _) λg1=>?_
  refine Rs (A2 t0 t1) ?_;refine WF.ce T.c74 (r74 T (cg [_,_]) Si) λg2=>?_
  have e1:bj [(cj (L.map EV.ev)).2.2,bZ false 10]=(cj (L.map EV.ev)).2.2:=by rw[bj,X5 he]
  have q2:decide ((cj (L.map EV.ev)).2.2≠0)=true:=XZ he;rw[e1];refine Rs (A3 t0 t1 q2) ?_;have e2:mR (L.map EV.ev) n=([],(cj (L.map EV.ev)).2.2):=by
   rw[mR,q,aaa,e1,X9 he]
  rw[e2];exact z194
 obtain⟨b,V,hvb,oV,hV,wV,UO,hle,hr,hz,wn,hn,on,lo⟩:=BC T hv he;rw[hvp]at hvb;have hpb:p=.ptr b 0:=by injection hvb with h1;injection h1
 rw[hpb];have q:decide ((cj (L.map EV.ev)).2.2=0)=true:=XZ he;refine Rs (A3 t0 t1 q) ?_;refine WF.ce T.c79 (r79 T (oV.rd.ext Xx) hr) λg1=>?_
 refine Rs (A3 t0 t1 @aE) ?_;refine WF.ce T.c86 (r86 T (on.ext Xx) wn.len (t:=0) De _) λg2=>?_
 refine Rs (A2 t0 t1) ?_;refine WF.ce T.c85 (r85 T _ _) λg3=>?_
 refine Rs (A2 t0 t1) ?_;refine WF.ce T.c74 (r74 T (cg [_,_]) Si) λg4=>?_
 rw[hn];rw[mR,q,Zw];obtain⟨f,hf⟩:∃f,f=bj [(cj (L.map EV.ev)).2.2,bZ (!dw (cj (L.map EV.ev)).1.now 0 n) 10]:=⟨_,rfl⟩;rw[<-hf];by_cases h0:f=0
 case neg=>
  have q:decide (f≠0)=true:=XZ h0;rw[X9 h0];refine Rs (A3 t0 t1 q) ?_;exact z194
 have q2:decide (f≠0)=false:=XU (λz=>z h0);rw[X5 (λz=>z h0)];obtain⟨Hs,XO⟩:∃Hs,Hs=h++[ak.b [AV.str n]]++g++g1++g2++g3++[ak.cells [AV.i (cj (L.map EV.ev)).2.2,.i (bZ (!dw (cj (L.map EV.ev)).1.now 0 n) 10)] true true]++g4:=⟨_,rfl⟩;have oH:zi Hs b V:=by rw[XO];exact oV.rd.ext Xx
 have mn:Hs[h.length]? =some (.b [.str n]):=by rw[XO];exact(show Ext (h++[ak.b [AV.str n]]) _ from Xx).some bh
 rw[<-XO];have hb:=oH.hb;have lb:=@e9 _ _ _ hb;have hcl:V.fw.length<=1000:=by
  have e1:=wV.le;have e2:V.bW.fw.length=V.fw.length:=by simp[HV.bW]
  have e3:V.bW.dt.length=V.dt.length:=by simp[HV.bW]
  have e4:(L.map EV.ev).length<=1000:=hle;omega
 have wc:∀x∈V.fw,∃d,kT x.ev d:=λx hx=>wV.cn x.ev (Ym hx)
 have oone:∀x∈V.fw,x.sn.one=true/\x.sv.one=true:=λx hx=>⟨(oH.ac x hx).n.one,(oH.ac x hx).v.one⟩
 refine Rs (A4 t0 t1 q2 @lb) ?_;refine WF.res T.c88 (r88 T oH.ic oone Om (λx=>pJ n x.ev) (λx hx k e=>by
  obtain⟨d,wx⟩:=wc x hx;exact bF.of (a:=[]) T.c89 (r89 T ((oH.ac x hx).ext e) wx (e.some mn)))) ?_
 rintro s5 g5 h5;refine Rs (A2 t0 t1) ?_;obtain⟨F,hF⟩:∃F,F=V.fw.filter λx=>pJ n x.ev:=⟨_,rfl⟩
 rw[<-hF]at h5;have hFm:∀x∈F,x∈V.fw:=λx hx=>by rw[hF]at hx;exact(Zd.1 hx).1
 have hFl:F.length<=1000:=by have:F.length<=V.fw.length:=by(rw[hF];exact Yu _ _)
                             omega
 have oF:fo (Hs++g5) F s5:=⟨h5.a8,λx hx=>(oH.ac x (hFm x hx)).ext Xx⟩;refine WF.res T.c87 (r87 T oF Om (λx hx=>by
  obtain⟨d,wx⟩:=wc x (hFm x hx);have h1:=wx.nl;have h2:=wx.vl;have h3:(bM d).length<=3/\cF d<=3:=by cases d<;>decide
  omega)) ?_
 rintro s6 g6 ⟨L6,Wt,f6,i6⟩;obtain⟨Hb,hHb⟩:∃Hb,Hb=Hs++g5:=⟨_,rfl⟩;rw[<-hHb]at f6 i6 ⊢;have hl6:L6.length=F.length:=by have:=Yx List.length Wt;simpa using this
 refine Rs (A3 t0 t1 f6.a8.aM) ?_;refine WL.inv T.mix (λm ts h'=>∃(k:Nat) (g':ah) (L':List EV),k<=L6.length/\m=L6.length-k/\h' =Hb++g'/\L'.length=L6.length/\(∀i (h1:i<L'.length) (h2:i<L6.length),(L'[i]).ev=if i<k then { (L6[i]).ev with num:=(i:Int)+1} else(L6[i]).ev)/\Fr Hb.length (Hb++g') s6 5 (L'.map EV.row)/\(∀x∈L',AN Hb.length (Hb++g') s6 x)/\
   ts.length=54/\slot ts 10=s6/\slot ts 41=s6/\slot ts 42=.i L6.length/\slot ts 43=.i k) L6.length
  ⟨0,g6,L6,Om,rfl,rfl,rfl,λi _ _=>by rw[X5 Om],f6,i6,Sn,Sw,Sw,Sw,iQ⟩ ?_
 clear t0 t1 hlen lb;clear ts;rintro _ ts _ ⟨k,g',L',hk,rfl,rfl,hlL,hev,hfr,hin,hlen,t10,t41,t42,t43⟩;by_cases hlt:k<L6.length
 ·have e3:=fF hlt;have e5:=wrapN (n:=k) Om;have Rd:k<L'.length:=Om
  have ix:=hfr.a8.dM (kk:=.i64) Rd;refine Rs (A7 t10 t41 t42 t43 e3 e5 ix) ?_;obtain⟨x,hx⟩:∃x,x=L'[k]:=⟨_,rfl⟩;have R0:x∈L':=by rw[hx];exact Ya _
  refine WR.vi (h0:=Hb) (x':={x with ev:={x.ev with num:=((k+1:Nat):Int) } }) hfr Rd De rfl (by rw[<-hx];rfl) ?_;intro g2 hlg hff hkp;have kp:∀j,sB s6≠some j->(Hb++g2)[j]? =(Hb++g')[j]? :=λj hj=>hkp j λb0 o n e he zz=>hj (by rw[he,zz];rfl)
  have V4:∀y:EV,AN Hb.length (Hb++g') s6 y->AN Hb.length (Hb++g2) s6 y:=λy oy=>⟨oy.n.aB λj hj=>kp j (oy.dn j hj),oy.v.aB λj hj=>kp j (oy.dv j hj),oy.dn,oy.dv⟩
  refine Rs (A5 t10 t41 t42 t43 e5) ?_;refine⟨_,Om,k+1,g2,L'.set k {x with ev:={x.ev with num:=((k+1:Nat):Int) } },Om,rfl,rfl,by rw[YD];exact hlL,λi h1 h2=>?_,hff,λy hy=>?_,rfl⟩
  ·by_cases SO:i=k
   ·subst SO;simp only[ZT];rw[X9 Om];have:=hev i Rd h2;rw[X5 Om]at this;rw[hx,this];rfl
   ·simp only[aak (Zk SO)];rw[hev i (by simpa using h1) h2];by_cases hil:i<k
    ·rw[X9 hil,X9 Om]
    ·rw[X5 hil,X5 Om]
  ·rcases ZG hy with hy|hy
   ·exact V4 y (hin y hy)
   ·rw[hy];have:=V4 x (hin x R0);exact⟨this.n,this.v,this.dn,this.dv⟩
 ·have e3:=gK hlt;have e4:k=L6.length:=Om
  refine Rs (A5 t10 t41 t42 t43 e3) ?_;refine⟨by rw[hHb,XO];exact Xx,s6,L',rfl,⟨hfr.a8,λx hx=>(hin x hx).ok⟩,?_⟩;have e6:(cj (L.map EV.ev)).1.fw.filter (pJ n)=L6.map EV.ev:=by
   rw[Wt,hF,<-hV];show List.filter _ (V.fw.map EV.ev)=_;rw[ZZ];rfl
  rw[e6,Ku];refine List.ext_getElem (by simp[hlL]) λi h1 h2=>?_
  have h1':i<L'.length:=by simpa using h1
  rw[Y7,hev i h1' Om,X9 Om,List.getElem_mapIdx,Y7]
end
end Go.Abs
