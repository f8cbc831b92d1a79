/- A part of the proof that HouseEvents holds. No condition. -/
import Derived.Test.YtgplmdgpmbegiaaGreatDoorEv6
import Derived.Test.YtgplmdgpmbegiaaGreatDoorEv0
set_option maxHeartbeats 4000000
set_option linter.all false
open Nat (reduceAdd reduceMul reduceLeDiff reduceEqDiff)
namespace Go.Abs
theorem bh.row{h x}(o:bh h x):x.row.all AV.one=true:=by
 simp only[EV.row,CY,CX,B0,F4,o.n.one,o.v.one,Bool.and_self]
def bh.box{h x}(o:bh h x){N}:pE (.agg x.row) N=some (.ptr N 0,.push (.b x.row)):=by
 have:(AV.agg x.row).cells=x.row:=rfl;simp only[pE,this,o.row,Zk]
def nq{x:EV}:x.row[0]? =some (.i x.ev.num):=rfl
def bC{x:EV}:x.row[1]? =some (.str x.ev.kind):=rfl
def aN{x:EV}:x.row[2]? =some x.sn:=rfl
def bd{x:EV}:x.row[3]? =some x.sv:=rfl
def yg{x:EV}:x.row[4]? =some (.str x.ev.text):=rfl
def bR{x:EV}{mu tl:Bool}:dC (some 5) 0 (.cells x.row mu tl)=some (.agg x.row,.ar):=rfl
def lX(d:Kd):(j7 d).one=true:=by cases d<;>rfl
def lE(d:Kd):(pA d).one=true:=by cases d<;>rfl
def yb{l:List (By)}:aS (l.map λs=>bX (!ez s) 8)=if l.any (λs=>!ez s)then 8 else 0:=by
 induction l with
 |nil=>rfl
 |cons a l ih=>
  rw[ZX,aS,ih,abk,bX];cases h:ez a<;>simp
def qd{l:List Int}:aS (l.map λn=>bu n 0 999999999)=if l.any (λn=>decide (bu n 0 999999999≠0))then 3 else 0:=by
 induction l with
 |nil=>rfl
 |cons a l ih=>
  rw[ZX,aS,ih,abk];by_cases h:bu a 0 999999999=0
  ·simp[h]
  ·have h3:bu a 0 999999999=3:=by unfold bu at h ⊢;split<;>simp_all
   simp[h3]
def tW{n lo hi}(h:bu n lo hi≠0):bu n lo hi=3:=by unfold bu at h ⊢;split<;>simp_all
set_option maxRecDepth 10000
attribute [local irreducible] WP WC WE WB WR WF WL WG fR
section
variable {P:Program}(T:fA P) {h:ah}
include T
def r131(s:By):aA P 131 [.str s] h (λv _=>v=.i (bX (!ez s) 8)):=by
 refine .of T.mix T.c131 ?_;unfold fn131 gA;refine Wn ?_;refine WF.ce T.c132 (r132 T s) λg1=>?_
 refine Wn ?_;refine WF.ce T.c85 (r85 T _ _) λg2=>?_
 exact Wn Tv
def r133(n:Int):aA P 133 [.i n] h (λv _=>v=.i (bu n 0 999999999)):=by
 refine .of T.mix T.c133 ?_;unfold fn133 gA;refine Wn ?_;refine WF.ce T.c94 (r94 T _ _ _) λg1=>?_
 exact Wn Tv
def r67{x:EV}(o:bh h x)(hl:x.ev.names.length<=2^40/\x.ev.cB.length<=2^40):aA P 67 [.agg x.row] h (λv _=>v=.i (eG x.ev)):=by
 refine .kr 53 T.mix T.c67 ?_;intro ts hlen t0;unfold fn67 gA;have Rz:=@bh.box _ _ o;refine Rs (A3 t0 @Rz @nq) ?_;refine WF.ce T.c94 (r94 T _ _ _) λg1=>?_
 by_cases h0:bu x.ev.num 1 1000=0
 case neg=>
  have e0:decide (bu x.ev.num 1 1000≠0)=true:=Y5 h0;refine Rs (A2 t0 e0) ?_;rw[eG,Zh h0];exact Zv (AV.int .i64) (tW h0)
 have e0:decide (bu x.ev.num 1 1000≠0)=false:=YW (λz=>z h0);refine Rs (A2 t0 e0) ?_;refine WF.res T.c90 (r90 T) ?_;rintro _ g2 ⟨vf,rfl,hk⟩;have lk:∀{z:AV},iw .s z true (.map (h++[ak.b x.row]++g1).length) (.str x.ev.kind) (λb=>(h++[ak.b x.row]++g1++g2)[b]?)=lC z true ((gO x.ev.kind).map vf):=hk.look;cases hd:gO x.ev.kind with
 |none=>
  rw[hd]at lk;have Sh:∀{z:AV},_=some (AV.dL [z,.bool false],iI.ar):=@lk;refine Rs (A6 t0 @bC @bW @Sh @iG @Zz) ?_;rw[eG,Za (by simpa using h0),hd]
 |some d=>
  rw[hd]at lk;have Sh:∀{z:AV},_=some (AV.dL [vf d,.bool true],iI.ar):=@lk;obtain⟨rs,a,hv,hr,ha,hab⟩:=(hk.k d).ex;rw[hv]at Sh;have hlr:=hr.aH;have c1:=lX d;have c2:=lE d;have c3:=hr.one;refine Rs (zt t0 @bC @aN @bd @bW @Sh @Zw @c1 @c2 @c3 @ha @hlr o.n.aH o.v.aH) ?_;have esh:eG x.ev=if x.ev.names.length≠(bM d).length\/x.ev.cB.length≠cE d then 2 else aS [aS (x.ev.names.map λs=>bX (!ez s) 8),aS (x.ev.cB.map λn=>bu n 0 999999999),bX (decide (x.ev.text≠[])) 1]:=by
   rw[eG,Za (by simpa using h0),hd,yb,qd];simp only;split
   ·rfl
   cases x.ev.names.any (λs=>!ez s)with
   |true=>rfl
   |false=>
    cases x.ev.cB.any (λn=>decide (bu n 0 999999999≠0))with
    |true=>rfl
    |false=>by_cases ht:x.ev.text=[]<;>simp[aS,bX,ht]
  rw[esh];by_cases h1:x.ev.names.length=(bM d).length/\x.ev.cB.length=cE d
  case neg=>
   have e1:(!(decide ((x.ev.names.length:Int)=((bM d).length:Int))&&(decide ((x.ev.cB.length:Int)=(cE d:Int))&&true)))=true:=by
    by_cases q1:x.ev.names.length=(bM d).length
    ·have q2:¬x.ev.cB.length=cE d:=λz=>h1 ⟨q1,z⟩
     have q3:¬(x.ev.cB.length:Int)=(cE d:Int):=Om
     simp[q3]
    ·have q3:¬(x.ev.names.length:Int)=((bM d).length:Int):=Om
     simp[q3]
   rw[e1,Zh Om];exact Rs t0 Tv
  have e1:(!(decide ((x.ev.names.length:Int)=((bM d).length:Int))&&(decide ((x.ev.cB.length:Int)=(cE d:Int))&&true)))=false:=by
   rw[h1.1,h1.2];simp
  rw[e1,Za Om];refine Rs (A3 t0 @aN @bd) ?_;refine WF.res T.c130 (r130 T (o.n.ext Xx) hl.1 (λs=>bX (!ez s) 8) (λs _ k _=>bH.of (a:=[]) (c:=[]) T.c131 (r131 T s))) ?_;rintro s6 g6 hf6;refine Rs (A3 t0 @aN @bd) ?_;refine WF.res T.c92 (r92 T (o.v.ext Xx) hl.2 (λn=>bu n 0 999999999) (λn _ k _=>bH.of (a:=[]) (c:=[]) T.c133 (r133 T n))) ?_;rintro s7 g7 hf7;refine Rs (A3 t0 @aN @bd) ?_;refine WF.ce T.c74 (r74 T (hf6.aW.ext Xx) (by simp;omega)) λg8=>?_
  refine Rs t0 ?_;refine WF.ce T.c74 (r74 T (hf7.aW.ext Xx) (by simp;omega)) λg9=>?_
  refine Rs (A2 t0 @yg) ?_;refine WF.ce T.c85 (r85 T _ _) λg10=>?_
  refine Rs t0 ?_;refine WF.ce T.c74 (r74 T (cj [_,_,_]) Si) λg11=>?_
  refine Rs t0 ?_;exact⟨Xx,trivial⟩
end
def QN:List AV:=[.str dU,.str dU,.str dU,.str lZ,.str lZ,.str n7,.str n7,.str n7]
def Gl(h:ah):Prop:=∃mu tl,h[0]? =some (.cells QN mu tl)
def Gl.ext{h k}(o:Gl h)(e:Ext h k):Gl k:=by obtain⟨mu,tl,h1⟩:=o;exact⟨mu,tl,e.some h1⟩
structure Cx(h:ah)(V:RV)(x:EV)(d:Kd):Prop where
 o:aB h V
 w:ee V.an
 e:bh h x
 we:kj x.ev d
 nk:sI V.an x.ev d
def Cx.nm{h V x d}(c:Cx h V x d){i:Nat}(hi:i<(bM d).length):bf 1 x.sn (.i (i:Int))=some (cI x.sn 1 i,.ar)/\∀{k},Ext h k->ao none (cI x.sn 1 i) (λb=>k[b]?)=some (.str (aP x.ev i),.ar):=by
 have hi':i<x.ev.names.length:=by rw[c.we.nl];exact hi
 refine⟨c.e.n.c8 hi',λ{k} e=>?_⟩;have:aP x.ev i=x.ev.names[i]:=by rw[aP,ZK,YZ hi'];rfl
 rw[this];exact c.e.n.kS hi' rfl e
theorem Cx.vl{h V x d}(c:Cx h V x d){i:Nat}(hi:i<cE d):bf 1 x.sv (.i (i:Int))=some (cI x.sv 1 i,.ar)/\(∀{k},Ext h k->ao none (cI x.sv 1 i) (λb=>k[b]?)=some (.i (bF x.ev i),.ar))/\0<=bF x.ev i/\bF x.ev i<=999999999:=by
 have hi':i<x.ev.cB.length:=by rw[c.we.vl];exact hi
 have:bF x.ev i=x.ev.cB[i]:=by rw[bF,ZK,YZ hi'];rfl
 refine⟨c.e.v.c8 hi',λ{k} e=>?_,c.we.vr _ (qt hi')⟩;rw[this];exact c.e.v.kS hi' rfl e
theorem Cx.ext{h k V x d}(c:Cx h V x d)(e:Ext h k):Cx k V x d:=⟨c.o.ext e,c.w,c.e.ext e,c.we,c.nk⟩
def dQ{c e l}(he:e≠0):aS (bX c e::l)=if c=true then e else aS l:=by
 cases c<;>simp[aS,bX,he]
def uj{a b c l}:aS (bu a b c::l)=if bu a b c≠0 then 3 else aS l:=by
 by_cases h:bu a b c=0
 ·simp[aS,h]
 ·simp[aS,h,tW h]
section
variable {P:Program}(T:fA P) {h:ah}
include T
def r148{V x}(c:Cx h V x .line):aA P 148 [.agg V.row,.agg x.row] h (λv _=>v=.i (bD V.an x.ev .line)):=by
 refine .eF 17 T.mix T.c148 ?_;intro ts hlen t0 t1;unfold fn148 gA;have Rz:=@aB.box _ _ c.o;have hex:=@bh.box _ _ c.e;have i1:bf 1 x.sv (.i 1)=_:=(c.vl (i:=1) De).1;have d1:=@(c.vl (i:=1) De).2.1;refine Rs (A7 t0 t1 @Rz @hex @bd @i1 @d1) ?_;refine WF.ce T.c94 (r94 T _ _ _) λg1=>?_
 refine Rs (A4 t0 t1 @eP c.o.i0.aH) ?_;refine WF.ce T.c85 (r85 T _ _) λg2=>?_
 refine Rs (A2 t0 t1) ?_;refine WF.ce T.c74 (r74 T (cj [_,_]) Si) λg3=>?_
 refine Rs (A2 t0 t1) ?_;rw[uj,dQ De,bD];congr 2;simp only[ZO,aS];congr 1;exact propext ⟨λz=>(by have:V.an.lines.length=V.lines.length:=rfl;omega),λz=>(by have:V.an.lines.length=V.lines.length:=rfl;omega)⟩
def r151{V x}(c:Cx h V x .tape):aA P 151 [.agg V.row,.agg x.row] h (λv _=>v=.i (bD V.an x.ev .tape)):=by
 refine .eF 23 T.mix T.c151 ?_;intro ts hlen t0 t1;unfold fn151;have Rz:=@aB.box _ _ c.o;have hex:=@bh.box _ _ c.e;have i0:bf 1 x.sv (.i 0)=_:=(c.vl (i:=0) De).1;have d0:=@(c.vl (i:=0) De).2.1;have i1:bf 1 x.sv (.i 1)=_:=(c.vl (i:=1) De).1;have d1:=@(c.vl (i:=1) De).2.1;have q0:=(c.vl (i:=0) De).2.2;have q1:=(c.vl (i:=1) De).2.2;have hw:IntKind.i64.wrap (bF x.ev 0+bF x.ev 1)=bF x.ev 0+bF x.ev 1:=bz Om Om;refine Rs (o8 t0 t1 @Rz @hex @bd @i0 @d0 @i1 @d1 @hw) ?_;refine WF.ce T.c85 (r85 T _ _) λg1=>?_
 refine Rs (A4 t0 t1 @gR c.o.i1.aH) ?_;refine WF.ce T.c85 (r85 T _ _) λg2=>?_
 refine Rs (A2 t0 t1) ?_;refine WF.ce T.c74 (r74 T (cj [_,_]) Si) λg3=>?_
 refine Rs (A2 t0 t1) ?_;rw[dQ De,dQ De,bD];congr 1;simp only[ZO,aS];have e:((16:Int)<=(V.aE.length:Int))=(16<=V.an.aE.length):=propext ⟨λz=>(by have:V.an.aE.length=V.aE.length:=rfl;omega),λz=>(by have:V.an.aE.length=V.aE.length:=rfl;omega)⟩;simp only[e]
def r241{V x n d}(c:Cx h V x d)(hd:0<cE d)(hn:n∈jL V.an):aA P 241 [.agg V.row,.agg x.row,.str n] h (λv _=>v=.i (bX (!jB V.an (bF x.ev 0) n) 30)):=by
 refine .mS 17 T.mix T.c241 ?_;intro ts hlen t0 t1 t2;unfold fn241 gA;have Rz:=@aB.box _ _ c.o;have hex:=@bh.box _ _ c.e;have i0:bf 1 x.sv (.i 0)=_:=(c.vl (i:=0) hd).1;have d0:=@(c.vl (i:=0) hd).2.1;refine Rs (A6 t0 t1 t2 @Rz @hex @aG) ?_;refine WF.ce T.c134 (r134 T (c.o.ext Xx) c.w.len hn) λg1=>?_
 refine Rs (A6 t0 t1 t2 @bd @i0 @d0) ?_;refine WF.ce T.c135 (r135 T _ _) λg2=>?_
 refine Rs (A3 t0 t1 t2) ?_;refine WF.ce T.c85 (r85 T _ _) λg3=>?_
 refine Rs (A3 t0 t1 t2) ?_;rfl
def r155{V x}(c:Cx h V x .gq):aA P 155 [.agg V.row,.agg x.row] h (λv _=>v=.i (bD V.an x.ev .gq)):=by
 refine .eF 27 T.mix T.c155 ?_;intro ts hlen t0 t1;unfold fn155;have Rz:=@aB.box _ _ c.o;have hex:=@bh.box _ _ c.e;have i1:bf 1 x.sn (.i 1)=_:=(c.nm (i:=1) De).1;have d1:=@(c.nm (i:=1) De).2;have i2:bf 1 x.sn (.i 2)=_:=(c.nm (i:=2) De).1;have d2:=@(c.nm (i:=2) De).2;have k1:aP x.ev 1∈gJ V.an:=c.nk.kn 1 0 rfl;have k2:aP x.ev 2∈jL V.an:=c.nk.kn 2 1 rfl;refine Rs (A8 t0 t1 @Rz @hex @aG @aN @i1 @d1) ?_;refine WF.ce T.c205 (r205 T (c.o.ext Xx) c.w.len k1) λg1=>?_
 unfold bG;refine Rs (A2 t0 t1) ?_;refine WF.ce T.c85 (r85 T _ _) λg2=>?_
 refine Rs (A7 t0 t1 @aG @bR @aN @i2 @d2) ?_;refine WF.ce T.c241 (r241 T (c.ext Xx) De k2) λg3=>?_
 refine Rs (A4 t0 t1 @eo c.o.i2.aH) ?_;refine WF.ce T.c85 (r85 T _ _) λg4=>?_
 refine Rs (A2 t0 t1) ?_;refine WF.ce T.c74 (r74 T (cj [_,_,_]) Si) λg5=>?_
 refine Rs (A2 t0 t1) ?_;rw[dQ De,dQ De,dQ De,bD];simp only[ZO,aS];have e:((64:Int)<=(V.aj.length:Int))=(64<=V.an.aj.length):=by
  have:V.an.aj.length=V.aj.length:=by simp[RV.an]
  exact GS
 simp only[e]
end
def Bl{R a b}(ha:a∈jL R)(hb:b∈jL R):(decide ((jz R a).name=(jz R b).name)&&(decide ((jz R a).last=(jz R b).last)&&true))=decide (a=b):=by
 have e1:(jz R a).name=a:=gX ha;have e2:(jz R b).name=b:=gX hb;by_cases h:a=b
 ·subst h;simp
 ·rw[e1,e2];simp[h]
section
variable {P:Program}(T:fA P) {h:ah}
include T
def r157{V x}(c:Cx h V x .copy):aA P 157 [.agg V.row,.agg x.row] h (λv _=>v=.i (bD V.an x.ev .copy)):=by
 refine .eF 35 T.mix T.c157 ?_;intro ts hlen t0 t1;unfold fn157;have Rz:=@aB.box _ _ c.o;have hex:=@bh.box _ _ c.e;have i0:bf 1 x.sn (.i 0)=_:=(c.nm (i:=0) De).1;have d0:=@(c.nm (i:=0) De).2;have i1:bf 1 x.sn (.i 1)=_:=(c.nm (i:=1) De).1;have d1:=@(c.nm (i:=1) De).2;have k0:aP x.ev 0∈jL V.an:=c.nk.kn 0 1 rfl;have k1:aP x.ev 1∈jL V.an:=c.nk.kn 1 1 rfl;refine Rs (A8 t0 t1 @Rz @hex @aG @aN @i0 @d0) ?_;refine WF.ce T.c134 (r134 T (c.o.ext Xx) c.w.len k0) λg1=>?_
 refine Rs (A6 t0 t1 @aG @aN @i1 @d1) ?_;refine WF.ce T.c134 (r134 T (c.o.ext Xx) c.w.len k1) λg2=>?_
 unfold cp;refine Rs (A2 t0 t1) ?_;refine WF.ce T.c85 (r85 T _ _) λg3=>?_
 rw[Bl k0 k1];have n0:(jz V.an (aP x.ev 0)).name=aP x.ev 0:=gX k0;have n1:(jz V.an (aP x.ev 1)).name=aP x.ev 1:=gX k1;refine Rs (A6 t0 t1 @aG @bR @n0 @n1) ?_;refine WF.ce T.c241 (r241 T (c.ext Xx) De k0) λg4=>?_
 refine Rs (A6 t0 t1 @aG @bR @n0 @n1) ?_;refine WF.ce T.c241 (r241 T (c.ext Xx) De k1) λg5=>?_
 refine Rs (A2 t0 t1) ?_;refine WF.ce T.c74 (r74 T (cj [_,_,_]) Si) λg6=>?_
 refine Rs (A2 t0 t1) ?_;rw[dQ De,dQ De,dQ De,bD];simp only[ZO,aS];exact⟨Xx,trivial⟩
def r161{V x}(o:aB h V)(e:bh h x):aA P 161 [.agg V.row,.agg x.row] h (λv _=>v=.i (bX (decide (32<=V.an.aC.length)) 5)):=by
 refine .eF 10 T.mix T.c161 ?_;intro ts hlen t0 t1;unfold fn161 gA;have Rz:=@aB.box _ _ o;have hex:=@bh.box _ _ e;refine Rs (A6 t0 t1 @Rz @hex @eE o.i3.aH) ?_;refine WF.ce T.c85 (r85 T _ _) λg1=>?_
 refine Rs (A2 t0 t1) ?_;have e:decide ((32:Int)<=(V.aC.length:Int))=decide (32<=V.an.aC.length):=by
  have:V.an.aC.length=V.aC.length:=by simp[RV.an]
  rw[aaF];omega
 rw[e]
def r244{V x d}(c:Cx h V x d)(hd:0<cE d){y}(hm:y∈V.aj){b b'}(hb:h[b]? =some (.b V.row))(hb':h[b']? =some (.b x.row)):
  aA P 244 [.agg (aU y),.ptr b 0,.ptr b' 0] h (λv _=>v=.bool (!iJ V.an y.1 (bF x.ev 0))):=by
 refine .mS 13 T.mix T.c244 ?_;intro ts hlen t0 t1 t2;unfold fn244 gA;have oy:=(c.o.e2 y hm).one;have lb:∀{k:ah}{n:Option Nat}{a:Nat},Ext h k->ao n (.ptr b a) (λz=>k[z]?)=dC n a (.b V.row):=λe=>az (e.some hb)
 have lc:∀{k:ah}{n:Option Nat}{a:Nat},Ext h k->ao n (.ptr b' a) (λz=>k[z]?)=dC n a (.b x.row):=λe=>az (e.some hb')
 have i0:bf 1 x.sv (.i 0)=_:=(c.vl (i:=0) hd).1;have d0:=@(c.vl (i:=0) hd).2.1;have hsf:=λ(k:ah) (e:Ext h k)=>r76 T (c.o.ext e) c.w.len ((c.o.e2 y hm).ext e) (c.w.xZ.sh y hm).2 (c.w.xZ.sh y hm).1 (bF x.ev 0)
 unfold aU at t0 hsf;refine Rs (o8 t0 t1 t2 @oy @lb @lc @aG @bd @i0 @d0) ?_;refine WF.ce T.c76 (hsf _ Xx) λg1=>?_
 exact FL
def r159{V x}(c:Cx h V x .accept):aA P 159 [.agg V.row,.agg x.row] h (λv _=>v=.i (bD V.an x.ev .accept)):=by
 refine .eF 36 T.mix T.c159 ?_;intro ts hlen t0 t1;unfold fn159;have Rz:=@aB.box _ _ c.o;have hex:=@bh.box _ _ c.e;have i0:bf 1 x.sn (.i 0)=_:=(c.nm (i:=0) De).1;have d0:=@(c.nm (i:=0) De).2;have k0:aP x.ev 0∈gJ V.an:=c.nk.kn 0 0 rfl;refine Rs (A8 t0 t1 @Rz @hex @aG @aN @i0 @d0) ?_;refine WF.ce T.c205 (r205 T (c.o.ext Xx) c.w.len k0) λg1=>?_
 unfold bG;refine Rs (A6 t0 t1 @aG @aN @i0 @d0) ?_;refine WF.res T.c206 (r206 T (c.o.ext Xx) c.w.len _) ?_;rintro s2 g2 Sf;refine Rs (A2 t0 t1) ?_;have hin:∀y∈V.aj.filter (λy=>decide (y.1.line=aP x.ev 0)),y∈V.aj:=λy hy=>(aag.1 hy).1
 have R7:(V.aj.filter (λy=>decide (y.1.line=aP x.ev 0))).length<=V.aj.length:=ZM _ _;have T3:=c.w.len.l2;refine WF.res T.c243 (r243 T (Sf.ext Xx) Om (λy=>!iJ V.an y.1 (bF x.ev 0)) (λy hy k e=>bH.of (a:=[]) (c:=[.ptr h.length 0,.ptr (h++[ak.b V.row]).length 0]) T.c244 (r244 T (c.ext (Ext.trans Xx e)) De (hin y hy) (e.some ?_) (e.some ?_)))) ?_
 ·exact uv
 ·exact sG
 rintro _ g3 rfl;refine Rs (A2 t0 t1) ?_;refine WF.ce T.c85 (r85 T _ _) λg4=>?_
 have hl2:=Sf.aH;refine Rs (A3 t0 t1 @hl2) ?_;refine WF.ce T.c85 (r85 T _ _) λg5=>?_
 refine Rs (A2 t0 t1) ?_;refine WF.ce T.c85 (r85 T _ _) λg6=>?_
 refine Rs (A2 t0 t1) ?_;refine WF.ce T.c74 (r74 T (cj [_,_,_]) Si) λg7=>?_
 refine Rs (A2 t0 t1) ?_;rw[dQ De,dQ De,dQ De,bD];have e1:(zO V.an (aP x.ev 0))=(V.aj.filter (λy=>decide (y.1.line=aP x.ev 0))).map Prod.fst:=by
  show List.filter _ (List.map Prod.fst V.aj)=_;rw[aa1];rfl
 rw[e1,Y7,List.any_map];simp only[ZO,aS];refine⟨Xx,?_⟩;rfl
def r163{V x}(c:Cx h V x .fZ)(gl:Gl h):aA P 163 [.agg V.row,.agg x.row] h (λv _=>v=.i (bD V.an x.ev .fZ)):=by
 refine .eF 35 T.mix T.c163 ?_;intro ts hlen t0 t1;unfold fn163;have Rz:=@aB.box _ _ c.o;have hex:=@bh.box _ _ c.e;have i1:bf 1 x.sn (.i 1)=_:=(c.nm (i:=1) De).1;have d1:=@(c.nm (i:=1) De).2;have j1:bf 1 x.sv (.i 1)=_:=(c.vl (i:=1) De).1;have f1:=@(c.vl (i:=1) De).2.1;have k1:aP x.ev 1∈gV V.an:=c.nk.kn 1 3 rfl;obtain⟨gmu,gtl,hg0⟩:=gl;rw[bD];by_cases hn:1<=bF x.ev 1/\bF x.ev 1<=4
 case neg=>
  have hr:bu (bF x.ev 1) 1 4≠0:=by unfold bu;rw[Zh Om];decide
  rw[Zh hr];by_cases ha:bF x.ev 1<1
  ·have q1:decide (bF x.ev 1<1)=true:=Y5 ha;exact Rs (A8 t0 t1 @Rz @hex @bd @j1 @f1 q1) Tv
  ·have q1:decide (bF x.ev 1<1)=false:=YW ha;have q2:decide (4<bF x.ev 1)=true:=Y5 Om;exact Rs (A9 t0 t1 @Rz @hex @bd @j1 @f1 q1 q2) Tv
 have hr:¬bu (bF x.ev 1) 1 4≠0:=by unfold bu;rw[Za Om];decide
 rw[Za hr];have q1:decide (bF x.ev 1<1)=false:=YW Om;have q2:decide (4<bF x.ev 1)=false:=YW Om;have hw:IntKind.i64.wrap (bF x.ev 1-1)=bF x.ev 1-1:=bz Om Om;have a1:mH 4 2 (.ptr 0 0) (.i (bF x.ev 1-1))=some (.ptr 0 ((bF x.ev 1-1).toNat*2)):=by simp only[mH];rw[Zh Om,ZN]
 have a2:mH 2 1 (.ptr 0 ((bF x.ev 1-1).toNat*2)) (.i 0)=some (.ptr 0 ((bF x.ev 1-1).toNat*2)):=by simp[mH]
 have lg:∀{k:ah},Ext h k->ao none (.ptr 0 ((bF x.ev 1-1).toNat*2)) (λb=>k[b]?)=some (.str (mP (bF x.ev 1)),.ar):=by
  intro k e;exact Qe
 refine Rs (FK t0 t1 @Rz @hex @aN @bd @j1 @f1 q1 q2 @aG @i1 @d1) ?_;refine WF.res T.c245 (r245 T (c.o.ext Xx) c.w.len k1) ?_;rintro _ g1 ⟨y,hy,Vk,rfl⟩;unfold aM;refine Rs (A6 t0 t1 @hw @a1 @a2 @lg) ?_;refine WF.ce T.c85 (r85 T _ _) λg2=>?_
 refine Rs (A4 t0 t1 @aG @bR) ?_;refine WF.ce T.c161 (r161 T (c.o.ext Xx) (c.e.ext Xx)) λg3=>?_
 refine Rs (A2 t0 t1) ?_;refine WF.ce T.c74 (r74 T (cj [_,_]) Si) λg4=>?_
 refine Rs (A2 t0 t1) ?_;rw[dQ De,dQ De,Vk];simp only[ZO,aS]
def r165{V x}(c:Cx h V x .merge):aA P 165 [.agg V.row,.agg x.row] h (λv _=>v=.i (bD V.an x.ev .merge)):=by
 refine .eF 36 T.mix T.c165 ?_;intro ts hlen t0 t1;unfold fn165;have Rz:=@aB.box _ _ c.o;have hex:=@bh.box _ _ c.e;have i1:bf 1 x.sn (.i 1)=_:=(c.nm (i:=1) De).1;have d1:=@(c.nm (i:=1) De).2;have i2:bf 1 x.sn (.i 2)=_:=(c.nm (i:=2) De).1;have d2:=@(c.nm (i:=2) De).2;have k1:aP x.ev 1∈gV V.an:=c.nk.kn 1 3 rfl;have k2:aP x.ev 2∈gV V.an:=c.nk.kn 2 3 rfl;refine Rs (A9 t0 t1 @Rz @hex @aN @i1 @d1 @i2 @d2) ?_;refine WF.ce T.c85 (r85 T _ _) λg1=>?_
 refine Rs (A6 t0 t1 @aG @aN @i1 @d1) ?_;refine WF.res T.c245 (r245 T (c.o.ext Xx) c.w.len k1) ?_;rintro _ g2 ⟨y,hy,Vk,rfl⟩;unfold aM;refine Rs (A6 t0 t1 @aG @aN @i2 @d2) ?_;refine WF.res T.c245 (r245 T (c.o.ext Xx) c.w.len k2) ?_;rintro _ g3 ⟨z,hz,hz1,rfl⟩;unfold aM;refine Rs (A2 t0 t1) ?_;refine WF.ce T.c85 (r85 T _ _) λg4=>?_
 refine Rs (A4 t0 t1 @aG @bR) ?_;refine WF.ce T.c161 (r161 T (c.o.ext Xx) (c.e.ext Xx)) λg5=>?_
 refine Rs (A2 t0 t1) ?_;refine WF.ce T.c74 (r74 T (cj [_,_,_]) Si) λg6=>?_
 refine Rs (A2 t0 t1) ?_;rw[dQ De,dQ De,dQ De,bD,Vk,hz1];simp only[ZO,aS]
def r247(y:gZ):aA P 247 [.agg (bG y)] h (λv _=>v=.bool (!y.acc)):=by
 refine .of T.mix T.c247 ?_;unfold fn247 gA bG;exact Wn Tv
def r167{V x}(c:Cx h V x .run):aA P 167 [.agg V.row,.agg x.row] h (λv _=>v=.i (bD V.an x.ev .run)):=by
 refine .eF 27 T.mix T.c167 ?_;intro ts hlen t0 t1;unfold fn167 gA;have Rz:=@aB.box _ _ c.o;have hex:=@bh.box _ _ c.e;have i1:bf 1 x.sn (.i 1)=_:=(c.nm (i:=1) De).1;have d1:=@(c.nm (i:=1) De).2;have j1:bf 1 x.sv (.i 1)=_:=(c.vl (i:=1) De).1;have f1:=@(c.vl (i:=1) De).2.1;have hin:∀y∈V.aC,y.1.bo.length<2^30:=λy hy=>by have:=(c.w.md y.1 (Zu hy)).2.1;omega
 refine Rs (A8 t0 t1 @Rz @hex @aG @aN @i1 @d1) ?_;refine WF.res T.c122 (r122 T (c.o.ext Xx) c.w.len hin _) ?_;rintro s1 g1 Tr;have hsl:(iT V.an (aP x.ev 1)).length<=V.lines.length:=ZM _ _;have T3:=c.w.len.l0;refine Rs (A2 t0 t1) ?_;refine WF.ce T.c246 (r246 T Tr Om (λy=>!y.acc) (λy hy k e=>bH.of (a:=[]) (c:=[]) T.c247 (r247 T y))) λg2=>?_
 refine Rs (A2 t0 t1) ?_;refine WF.ce T.c85 (r85 T _ _) λg3=>?_
 refine Rs (A5 t0 t1 @bd @j1 @f1) ?_;refine WF.ce T.c94 (r94 T _ _ _) λg4=>?_
 refine Rs (A4 t0 t1 @eO c.o.i4.aH) ?_;refine WF.ce T.c85 (r85 T _ _) λg5=>?_
 refine Rs (A2 t0 t1) ?_;refine WF.ce T.c74 (r74 T (cj [_,_,_]) Si) λg6=>?_
 refine Rs (A2 t0 t1) ?_;rw[dQ De,uj,dQ De,bD];simp only[ZO,aS];have e:((16:Int)<=(V.aF.length:Int))=(16<=V.an.aF.length):=by
  have:V.an.aF.length=V.aF.length:=by simp[RV.an]
  exact GS
 simp only[e]
end
theorem tn:∀{l m}{i},cU (l++m) i=cU l i++cU m (i+l.length)
 |[],m,i=>by simp[cU]
 |x::l,m,i=>by
  have e:i+1+l.length=i+(x::l).length:=by simp;omega
  rw[aaa,cU,cU,tn,e];split<;>simp
theorem j6:∀{l}{i},(cU l i).length<=l.length
 |[],i=>by simp[cU]
 |x::l,i=>by
  have:=j6 (l:=l) (i:=i+1);rw[cU];split<;>simp<;>omega
section
variable {P:Program}(T:fA P) {h:ah}
include T
def r125{x}(hx:aK h x.2 1 (x.1.bt.map aL))(hl:x.1.bt.length<2^30)(hs:∀s∈x.1.bt,-1<=s):aA P 125 [.agg (bB x)] h (λv h'=>aK h' v 1 ((cU x.1.bt 0).map aL)):=by
 refine .kr 23 T.mix T.c125 ?_;intro ts hlen t0;unfold fn125 gA;have ox:=hx.one;unfold bB at t0;refine Rs (A3 t0 @ox hx.aH) ?_;obtain⟨H0,Ug⟩:∃H0,H0=h++[ak.b [AV.str x.1.name,.str x.1.mod,x.2]]:=⟨_,rfl⟩;have e0:Ext h H0:=by rw[Ug];exact Xx
 have lb:∀{k n a},Ext H0 k->ao n (.ptr h.length a) (λz=>k[z]?)=dC n a (.b [AV.str x.1.name,.str x.1.mod,x.2]):=λ{_ _ _} e=>az (e.some (by rw[Ug];exact a8))
 rw[<-Ug];refine WL.inv T.mix (λn ts h'=>∃(k:Nat) (out:AV),k<=x.1.bt.length/\n=x.1.bt.length-k/\Ext H0 h'/\Fr H0.length h' out 1 ((cU (x.1.bt.take k) 0).map aL)/\
   ts.length=23/\slot ts 1=.ptr h.length 0/\slot ts 3=out/\slot ts 7=.i x.1.bt.length/\slot ts 8=.i k) x.1.bt.length
  ⟨0,.af,Om,rfl,Ext.refl _,.nil,Sn,(Sq t0),(Sq t0),(Sq t0),fV⟩ ?_
 rintro _ ts _ ⟨k,out,hk',rfl,⟨g,rfl⟩,hfr,hlen,t1,t3,t7,t8⟩;by_cases hlt:k<x.1.bt.length
 ·have e3:=dM hlt;have ix:=hx.c8 (kk:=.i64) hlt;have ld:∀{k':ah},Ext H0 k'->ao none (cI x.2 1 k) (λb=>k'[b]?)=some (.i x.1.bt[k],.ar):=λ{k'} e=>hx.kS hlt rfl (e0.trans e)
  have e5:=wrapN (n:=k) Om;have RX:cU (x.1.bt.take (k+1)) 0=cU (x.1.bt.take k) 0++(if x.1.bt[k]<0 then [(k:Int)]else []):=by
   exact Qd
  have hsk:=hs _ (Zb hlt);by_cases hn:x.1.bt[k]= -1
  ·have q:decide (x.1.bt[k]= -1)=true:=Y5 hn;rw[Zh Om]at RX;refine Rs (A9 t1 t3 t7 t8 e3 @lb ix @ld q) ?_;have T3:=j6 (l:=x.1.bt.take k) (i:=0);refine WR.ff (h0:=H0) (cs:=(cU (x.1.bt.take k) 0).map aL) (ys:=[aL (k:Int)]) (hfr.app _) (Fr.push (N:=0) (ZA _) [aL (k:Int)] Si).aW De Si (by simp only[Y7,ZQ,YX,Y6]at T3 ⊢;omega) Xx ?_;intro g' RJ hff hkp;have hrow:(cU (x.1.bt.take k) 0).map aL++[aL (k:Int)]=(cU (x.1.bt.take (k+1)) 0).map aL:=by rw[RX,Y9];rfl
   rw[hrow]at hff;rw[hrow];refine Rs (A5 t1 t3 t7 t8 e5) ?_;exact I7
  ·have q:decide (x.1.bt[k]= -1)=false:=YW hn;rw[Za Om,Zr]at RX;rw[<-RX]at hfr;refine Rs (o8 t1 t3 t7 t8 e3 @lb ix @ld q e5) ?_;exact⟨_,Om,k+1,_,Om,rfl,hfr,rfl,rfl⟩
 ·have e3:=eC hlt;have e4:k=x.1.bt.length:=Om
  rw[e4,ZD]at hfr;have:=hfr.aW;refine Rs (A5 t1 t3 t7 t8 e3) ?_;exact⟨e0.trans Xx,this⟩
def r249{V x d}(c:Cx h V x d)(hd:1<cE d)(h0:0<(bM d).length)(k0:aP x.ev 0∈iO V.an):aA P 249 [.agg V.row,.agg x.row] h (λv _=>v=.i (jQ V.an x.ev)):=by
 refine .eF 28 T.mix T.c249 ?_;intro ts hlen t0 t1;unfold fn249;have Rz:=@aB.box _ _ c.o;have hex:=@bh.box _ _ c.e;have i0:bf 1 x.sn (.i 0)=_:=(c.nm (i:=0) h0).1;have d0:=@(c.nm (i:=0) h0).2;have j1:bf 1 x.sv (.i 1)=_:=(c.vl (i:=1) hd).1;have f1:=@(c.vl (i:=1) hd).2.1;have q1:=(c.vl (i:=1) hd).2.2;refine Rs (A8 t0 t1 @Rz @hex @aG @aN @i0 @d0) ?_;refine WF.ce T.c251 (r251 T (c.o.ext Xx) c.w.len _) λg1=>?_
 refine Rs (A2 t0 t1) ?_;refine WF.ce T.c85 (r85 T _ _) λg2=>?_
 refine Rs (A9 t0 t1 @bd @j1 @f1 @aG @aN @i0 @d0) ?_;refine WF.res T.c124 (r124 T (c.o.ext Xx) c.w.len k0) ?_;rintro _ g3 ⟨y,hy,Vk,rfl⟩;have TG:=(c.o.e4 y hy).aH;have UD:=(c.w.jb y.1 (Zu hy)).2;have hw:IntKind.i64.wrap ((y.1.bt.length:Int)-1)=(y.1.bt.length:Int)-1:=bz Om Om;unfold bB;refine Rs (A4 t0 t1 @TG @hw) ?_;refine WF.ce T.c94 (r94 T _ _ _) λg4=>?_
 refine Rs (A2 t0 t1) ?_;refine WF.ce T.c74 (r74 T (cj [_,_]) Si) λg5=>?_
 refine Rs (A2 t0 t1) ?_;rw[dQ De,uj,jQ,<-Vk];have e:(bu (bF x.ev 1) 0 ((y.1.bt.length:Int)-1)≠0)=((y.1.bt.length:Int)<=bF x.ev 1):=by
  unfold bu;refine propext ⟨λz=>?_,λz=>?_⟩
  ·split at z
   ·omega
   ·exact absurd rfl z
  ·rw[Zh Om];decide
 simp only[e,aS]
def r169{V x}(c:Cx h V x .fW):aA P 169 [.agg V.row,.agg x.row] h (λv _=>v=.i (bD V.an x.ev .fW)):=by
 refine .eF 27 T.mix T.c169 ?_;intro ts hlen t0 t1;unfold fn169 gA;have Rz:=@aB.box _ _ c.o;have hex:=@bh.box _ _ c.e;have i0:bf 1 x.sn (.i 0)=_:=(c.nm (i:=0) De).1;have d0:=@(c.nm (i:=0) De).2;have j1:bf 1 x.sv (.i 1)=_:=(c.vl (i:=1) De).1;have f1:=@(c.vl (i:=1) De).2.1;have q1:=(c.vl (i:=1) De).2.2;have k0:aP x.ev 0∈iO V.an:=c.nk.kn 0 4 rfl;refine Rs (A6 t0 t1 @Rz @hex @aG @bR) ?_;refine WF.ce T.c249 (r249 T (c.ext Xx) De De k0) λg1=>?_
 by_cases hb:jQ V.an x.ev=0
 case neg=>
  exact J1
 have e1:decide (jQ V.an x.ev≠0)=false:=YW (λz=>z hb);refine Rs (A7 t0 t1 e1 @aG @aN @i0 @d0) ?_;refine WF.res T.c124 (r124 T (c.o.ext Xx) c.w.len k0) ?_;rintro _ g2 ⟨y,hy,Vk,rfl⟩;have UD:=(c.w.jb y.1 (Zu hy)).2;have hlt:(bF x.ev 1).toNat<y.1.bt.length:=by
  exact JN
 have Xn:bF x.ev 1=((bF x.ev 1).toNat:Int):=Om
 have iy:bf 1 y.2 (.i (bF x.ev 1))=some (cI y.2 1 (bF x.ev 1).toNat,.ar):=by
  rw[Xn];exact(c.o.e4 y hy).c8 hlt
 have hsm:fK V.an x.ev=y.1.bt[(bF x.ev 1).toNat]:=by
  exact JQ
 have ly:∀{k:ah},Ext h k->ao none (cI y.2 1 (bF x.ev 1).toNat) (λb=>k[b]?)=some (.i (fK V.an x.ev),.ar):=λ{k} e=>by
  rw[hsm];exact(c.o.e4 y hy).kS hlt rfl e
 have hsb:=UD.2.2 _ (Zb hlt);rw[<-hsm]at hsb;unfold bB;refine Rs (A7 t0 t1 @bd @j1 @f1 @iy @ly) ?_;refine WF.ce T.c85 (r85 T _ _) λg3=>?_
 refine Rs (A2 t0 t1) ?_;rw[bD,Za (λz=>z hb),bX];have e2:(decide (fK V.an x.ev≠-1)=true)=(0<=fK V.an x.ev):=by
  exact JM
 simp only[e2]
def r171{V x}(c:Cx h V x .fail):aA P 171 [.agg V.row,.agg x.row] h (λv _=>v=.i (bD V.an x.ev .fail)):=by
 refine .eF 27 T.mix T.c171 ?_;intro ts hlen t0 t1;unfold fn171;have Rz:=@aB.box _ _ c.o;have hex:=@bh.box _ _ c.e;have i0:bf 1 x.sn (.i 0)=_:=(c.nm (i:=0) De).1;have d0:=@(c.nm (i:=0) De).2;have j1:bf 1 x.sv (.i 1)=_:=(c.vl (i:=1) De).1;have f1:=@(c.vl (i:=1) De).2.1;have q1:=(c.vl (i:=1) De).2.2;have k0:aP x.ev 0∈iO V.an:=c.nk.kn 0 4 rfl;refine Rs (A6 t0 t1 @Rz @hex @aG @bR) ?_;refine WF.ce T.c249 (r249 T (c.ext Xx) De De k0) λg1=>?_
 by_cases hb:jQ V.an x.ev=0
 case neg=>
  exact J1
 have e1:decide (jQ V.an x.ev≠0)=false:=YW (λz=>z hb);refine Rs (A7 t0 t1 e1 @aG @aN @i0 @d0) ?_;refine WF.res T.c124 (r124 T (c.o.ext Xx) c.w.len k0) ?_;rintro _ g2 ⟨y,hy,Vk,rfl⟩;have UD:=(c.w.jb y.1 (Zu hy)).2;have hlt:(bF x.ev 1).toNat<y.1.bt.length:=by
  exact JN
 have Xn:bF x.ev 1=((bF x.ev 1).toNat:Int):=Om
 have iy:bf 1 y.2 (.i (bF x.ev 1))=some (cI y.2 1 (bF x.ev 1).toNat,.ar):=by
  rw[Xn];exact(c.o.e4 y hy).c8 hlt
 have hsm:fK V.an x.ev=y.1.bt[(bF x.ev 1).toNat]:=by
  exact JQ
 have ly:∀{k:ah},Ext h k->ao none (cI y.2 1 (bF x.ev 1).toNat) (λb=>k[b]?)=some (.i (fK V.an x.ev),.ar):=λ{k} e=>by
  rw[hsm];exact(c.o.e4 y hy).kS hlt rfl e
 have hsb:=UD.2.2 _ (Zb hlt);rw[<-hsm]at hsb;unfold bB;refine Rs (A7 t0 t1 @bd @j1 @f1 @iy @ly) ?_;refine WF.ce T.c85 (r85 T _ _) λg3=>?_
 refine Rs (A2 t0 t1) ?_;rw[bD,Za (λz=>z hb),bX];have e2:(decide (fK V.an x.ev= -1)=true)=(fK V.an x.ev<0):=by
  exact JM
 simp only[e2]
def r173{V x}(c:Cx h V x .gu):aA P 173 [.agg V.row,.agg x.row] h (λv _=>v=.i (bD V.an x.ev .gu)):=by
 refine .eF 31 T.mix T.c173 ?_;intro ts hlen t0 t1;unfold fn173;have Rz:=@aB.box _ _ c.o;have hex:=@bh.box _ _ c.e;have i1:bf 1 x.sn (.i 1)=_:=(c.nm (i:=1) De).1;have d1:=@(c.nm (i:=1) De).2;have k1:aP x.ev 1∈iO V.an:=c.nk.kn 1 4 rfl;refine Rs (A8 t0 t1 @Rz @hex @aG @aN @i1 @d1) ?_;refine WF.res T.c124 (r124 T (c.o.ext Xx) c.w.len k1) ?_;rintro _ g1 ⟨y,hy,Vk,rfl⟩;have UD:=(c.w.jb y.1 (Zu hy)).2;refine Rs (A2 t0 t1) ?_;refine WF.res T.c125 (r125 T (x:=y) ((c.o.e4 y hy).ext Xx) Om (λs hs=>(UD.2.2 s hs).1)) ?_;rintro s2 g2 Sf;have hl2:=Sf.aH;refine Rs (A6 t0 t1 @aG @aN @i1 @d1) ?_
 refine WF.ce T.c251 (r251 T (c.o.ext Xx) c.w.len _) λg3=>?_
 refine Rs (A2 t0 t1) ?_;refine WF.ce T.c85 (r85 T _ _) λg4=>?_
 refine Rs (A3 t0 t1 @hl2) ?_;refine WF.ce T.c85 (r85 T _ _) λg5=>?_
 refine Rs (A4 t0 t1 @fy c.o.i5.aH) ?_;refine WF.ce T.c85 (r85 T _ _) λg6=>?_
 refine Rs (A2 t0 t1) ?_;refine WF.ce T.c74 (r74 T (cj [_,_,_]) Si) λg7=>?_
 refine Rs (A2 t0 t1) ?_;rw[dQ De,dQ De,dQ De,bD,<-Vk];have e1:(decide ((0:Int)<((cU y.1.bt 0).length:Int))=true)=(cU y.1.bt 0≠[]):=by
  rw[ZO];refine propext ⟨λz e=>by rw[e]at z;simp at z,λz=>by have:=aaU.2 z;omega⟩
 have e2:(decide ((16:Int)<=(V.aI.length:Int))=true)=(16<=V.an.aI.length):=by
  rw[ZO];have:V.an.aI.length=V.aI.length:=rfl;exact GS
 simp only[e1,e2,aS];exact⟨Xx,trivial⟩
def r175{V x}(c:Cx h V x .rel):aA P 175 [.agg V.row,.agg x.row] h (λv _=>v=.i (bD V.an x.ev .rel)):=by
 refine .eF 13 T.mix T.c175 ?_;intro ts hlen t0 t1;unfold fn175 gA;have Rz:=@aB.box _ _ c.o;have hex:=@bh.box _ _ c.e;have i0:bf 1 x.sn (.i 0)=_:=(c.nm (i:=0) De).1;have d0:=@(c.nm (i:=0) De).2;have k0:aP x.ev 0∈k5 V.an:=c.nk.kn 0 5 rfl;refine Rs (A8 t0 t1 @Rz @hex @aG @aN @i0 @d0) ?_;refine WF.ce T.c218 (r218 T (c.o.ext Xx) c.w.len k0) λg1=>?_
 unfold cw;refine Rs (A2 t0 t1) ?_;refine WF.ce T.c85 (r85 T _ _) λg2=>?_
 refine Rs (A2 t0 t1) ?_;rw[bD,bX]
def PD{V x d}(hd:d≠.eZ)(c:Cx h V x d)(gl:Gl h):bH P (j7 d) [.agg V.row,.agg x.row] h (λv _=>v=.i (bD V.an x.ev d)):=by
 cases d with
 |eZ=>exact absurd rfl hd
 |line=>exact bH.of (a:=[]) (c:=[]) T.c148 (r148 T c)
 |tape=>exact bH.of (a:=[]) (c:=[]) T.c151 (r151 T c)
 |gq=>exact bH.of (a:=[]) (c:=[]) T.c155 (r155 T c)
 |copy=>exact bH.of (a:=[]) (c:=[]) T.c157 (r157 T c)
 |accept=>exact bH.of (a:=[]) (c:=[]) T.c159 (r159 T c)
 |source=>
  refine bH.of (a:=[]) (c:=[]) T.c161 ((r161 T c.o c.e).mono λv g hv=>?_);rw[hv,bD,bX];simp only[ZO]
 |fZ=>exact bH.of (a:=[]) (c:=[]) T.c163 (r163 T c gl)
 |merge=>exact bH.of (a:=[]) (c:=[]) T.c165 (r165 T c)
 |run=>exact bH.of (a:=[]) (c:=[]) T.c167 (r167 T c)
 |fW=>exact bH.of (a:=[]) (c:=[]) T.c169 (r169 T c)
 |fail=>exact bH.of (a:=[]) (c:=[]) T.c171 (r171 T c)
 |gu=>exact bH.of (a:=[]) (c:=[]) T.c173 (r173 T c)
 |rel=>exact bH.of (a:=[]) (c:=[]) T.c175 (r175 T c)
end
def iW{l1 l2:List (Option Nat)}{a y:Option Nat}(h:y∈l1\/y∈l2):y∈l1++a::l2:=by rcases h with h|h<;>simp[h]
def vJ{l1 l2:List (Option Nat)}{a y:Option Nat}(h:y∈l1++a::l2):y∈l1\/y=a\/y∈l2:=by simpa using h
def k8.xP{l1 l2 a x}(h:k8 (l1++a::l2))(hx:∀i,x=some i->a=some i\/((∀y∈l1,y≠some i)/\∀y∈l2,y≠some i)):k8 (l1++x::l2):=by
 obtain⟨h1,h2,h3⟩:=aae.1 h;obtain⟨h4,h5⟩:=Z3.1 h2;refine aae.2 ⟨h1,Z3.2 ⟨λy hy b hb=>?_,h5⟩,λy hy z hz b hb=>?_⟩
 ·rcases hx b hb with ha|⟨_,ha⟩
  ·exact h4 y hy b ha
  ·exact ha y hy
 ·rcases ZG.1 hz with rfl|hz
  ·intro e;rcases hx b e with ha|⟨ha,_⟩
   ·exact h3 y hy a Si b hb ha
   ·exact ha y hy hb
  ·exact h3 y hy z (ZH _ hz) b hb
def k8.ins{l1 l2 x}(h:k8 (l1++l2))(hx:∀i,x=some i->(∀y∈l1,y≠some i)/\∀y∈l2,y≠some i):k8 (l1++x::l2):=by
 obtain⟨h1,h2,h3⟩:=aae.1 h;refine aae.2 ⟨h1,Z3.2 ⟨λy hy b hb=>(hx b hb).2 y hy,h2⟩,λy hy z hz b hb=>?_⟩;rcases ZG.1 hz with rfl|hz
 ·exactλe=>(hx b e).1 y hy hb
 ·exact h3 y hy z hz b hb
structure bY(N:Nat)(h:ah)(b:Nat)(V:RV):Prop where
 o:cJ N h V
 hN:N<=b
 m:h[b]? =some (.b V.row)
 ne:some b∉V.bl
def bY.lt{N h b V}(r:bY N h b V):b<h.length:=(YU.1 r.m).1
theorem bY.app{N h b V}(r:bY N h b V)(g:ah):bY N (h++g) b V:=⟨r.o.app g,r.hN,(Ext.app g (Ext.refl h)).some r.m,r.ne⟩
section
variable {N b:Nat}{h k:ah}{V:RV}
def bY.MN(r:bY N h b V){s:AV}{L:List gZ}(hs:Fr N k s 3 (L.map bG))(hn:∀i,sB s=some i->sB V.s0=some i\/h.length<=i)(hm:k[b]? =some (.cells {V with lines:=L,s0:=s}.row true false))
  (hk:∀i,i<h.length->sB V.s0≠some i->i≠b->k[i]? =h[i]?):bY N k b {V with lines:=L,s0:=s}:=by
 have hd:V.bl=[]++sB V.s0:: ([sB V.s1,sB V.s2,sB V.s3,sB V.s4,sB V.s5]++(V.aj.map λx=>sB x.2)++(V.aC.map λx=>sB x.2)++(V.aF.map λx=>sB x.2)):=rfl;have hin:∀i,some i∈V.bl->N<=i/\i<h.length:=λi hi=>r.o.dR hi
 have Sz:=r.o.di;rw[hd]at Sz;have ar:∀i,(some i∈[]\/some i∈([sB V.s1,sB V.s2,sB V.s3,sB V.s4,sB V.s5]++(V.aj.map λx=>sB x.2)++(V.aC.map λx=>sB x.2)++(V.aF.map λx=>sB x.2)))->k[i]? =h[i]? :=λi hi=>by
  exact z7
 have own:cJ N k {V with lines:=L,s0:=s}:=by
  refine⟨hs,(r.o.i1.aD λi hi=>ar i (.inr (by rw[<-hi];simp))),(r.o.i2.aD λi hi=>ar i (.inr (by rw[<-hi];simp))),(r.o.i3.aD λi hi=>ar i (.inr (by rw[<-hi];simp))),(r.o.i4.aD λi hi=>ar i (.inr (by rw[<-hi];simp))),(r.o.i5.aD λi hi=>ar i (.inr (by rw[<-hi];simp))),(λx hx=>(r.o.e2 x hx).aD λi hi=>ar i (.inr (by rw[<-hi];simp only[Y8,ZB];exact .inl (.inl (.inr ⟨x,hx,rfl⟩))))),(λx hx=>(r.o.e3 x hx).aD λi hi=>ar i (.inr (by rw[<-hi];simp only[Y8,ZB];exact .inl (.inr ⟨x,hx,rfl⟩)))),(λx hx=>(r.o.e4 x hx).aD λi hi=>ar i (.inr (by rw[<-hi];simp only[Y8,ZB];exact .inr ⟨x,hx,rfl⟩))),?_⟩;have hx:∀i,sB s=some i->sB V.s0=some i\/((∀y∈[],y≠some i)/\∀y∈([sB V.s1,sB V.s2,sB V.s3,sB V.s4,sB V.s5]++(V.aj.map λx=>sB x.2)++(V.aC.map λx=>sB x.2)++(V.aF.map λx=>sB x.2)),y≠some i):=λi hi=>by
   exact z9
  exact Sz.xP hx
 refine⟨own,r.hN,hm,λhb=>?_⟩;have hbl:=r.lt;have T0:=r.ne;rw[hd]at T0;have e:{V with lines:=L,s0:=s}.bl=[]++sB s:: ([sB V.s1,sB V.s2,sB V.s3,sB V.s4,sB V.s5]++(V.aj.map λx=>sB x.2)++(V.aC.map λx=>sB x.2)++(V.aF.map λx=>sB x.2)):=rfl;exact z31
def bY.QL(r:bY N h b V){s:AV}{L:List rX}(hs:Fr N k s 2 (L.map cp))(hn:∀i,sB s=some i->sB V.s1=some i\/h.length<=i)(hm:k[b]? =some (.cells {V with aE:=L,s1:=s}.row true false))
  (hk:∀i,i<h.length->sB V.s1≠some i->i≠b->k[i]? =h[i]?):bY N k b {V with aE:=L,s1:=s}:=by
 have hd:V.bl=[sB V.s0]++sB V.s1:: ([sB V.s2,sB V.s3,sB V.s4,sB V.s5]++(V.aj.map λx=>sB x.2)++(V.aC.map λx=>sB x.2)++(V.aF.map λx=>sB x.2)):=rfl;have hin:∀i,some i∈V.bl->N<=i/\i<h.length:=λi hi=>r.o.dR hi
 have Sz:=r.o.di;rw[hd]at Sz;have ar:∀i,(some i∈[sB V.s0]\/some i∈([sB V.s2,sB V.s3,sB V.s4,sB V.s5]++(V.aj.map λx=>sB x.2)++(V.aC.map λx=>sB x.2)++(V.aF.map λx=>sB x.2)))->k[i]? =h[i]? :=λi hi=>by
  exact z7
 have own:cJ N k {V with aE:=L,s1:=s}:=by
  refine⟨(r.o.i0.aD λi hi=>ar i (.inl (by rw[<-hi];simp))),hs,(r.o.i2.aD λi hi=>ar i (.inr (by rw[<-hi];simp))),(r.o.i3.aD λi hi=>ar i (.inr (by rw[<-hi];simp))),(r.o.i4.aD λi hi=>ar i (.inr (by rw[<-hi];simp))),(r.o.i5.aD λi hi=>ar i (.inr (by rw[<-hi];simp))),(λx hx=>(r.o.e2 x hx).aD λi hi=>ar i (.inr (by rw[<-hi];simp only[Y8,ZB];exact .inl (.inl (.inr ⟨x,hx,rfl⟩))))),(λx hx=>(r.o.e3 x hx).aD λi hi=>ar i (.inr (by rw[<-hi];simp only[Y8,ZB];exact .inl (.inr ⟨x,hx,rfl⟩)))),(λx hx=>(r.o.e4 x hx).aD λi hi=>ar i (.inr (by rw[<-hi];simp only[Y8,ZB];exact .inr ⟨x,hx,rfl⟩))),?_⟩;have hx:∀i,sB s=some i->sB V.s1=some i\/((∀y∈[sB V.s0],y≠some i)/\∀y∈([sB V.s2,sB V.s3,sB V.s4,sB V.s5]++(V.aj.map λx=>sB x.2)++(V.aC.map λx=>sB x.2)++(V.aF.map λx=>sB x.2)),y≠some i):=λi hi=>by
   exact z9
  exact Sz.xP hx
 refine⟨own,r.hN,hm,λhb=>?_⟩;have hbl:=r.lt;have T0:=r.ne;rw[hd]at T0;have e:{V with aE:=L,s1:=s}.bl=[sB V.s0]++sB s:: ([sB V.s2,sB V.s3,sB V.s4,sB V.s5]++(V.aj.map λx=>sB x.2)++(V.aC.map λx=>sB x.2)++(V.aF.map λx=>sB x.2)):=rfl;exact z31
def bY.QK(r:bY N h b V){s t:AV}{y:jR}(hs:Fr N k s 3 ((V.aj++[(y,t)]).map aU))(ht:Fr N k t 1 (y.aE.map aq))(hn:∀i,sB s=some i->sB V.s2=some i\/h.length<=i)(hnt:∀i,sB t=some i->h.length<=i/\sB s≠some i)
  (hm:k[b]? =some (.cells {V with aj:=V.aj++[(y,t)],s2:=s}.row true false))
  (hk:∀i,i<h.length->sB V.s2≠some i->i≠b->k[i]? =h[i]?):bY N k b {V with aj:=V.aj++[(y,t)],s2:=s}:=by
 have hd:V.bl=[sB V.s0,sB V.s1]++sB V.s2:: ([sB V.s3,sB V.s4,sB V.s5]++(V.aj.map λx=>sB x.2)++(V.aC.map λx=>sB x.2)++(V.aF.map λx=>sB x.2)):=rfl;have hin:∀i,some i∈V.bl->N<=i/\i<h.length:=λi hi=>r.o.dR hi
 have Sz:=r.o.di;rw[hd]at Sz;have ar:∀i,(some i∈[sB V.s0,sB V.s1]\/some i∈([sB V.s3,sB V.s4,sB V.s5]++(V.aj.map λx=>sB x.2)++(V.aC.map λx=>sB x.2)++(V.aF.map λx=>sB x.2)))->k[i]? =h[i]? :=λi hi=>by
  exact z7
 have own:cJ N k {V with aj:=V.aj++[(y,t)],s2:=s}:=by
  refine⟨(r.o.i0.aD λi hi=>ar i (.inl (by rw[<-hi];simp))),(r.o.i1.aD λi hi=>ar i (.inl (by rw[<-hi];simp))),hs,(r.o.i3.aD λi hi=>ar i (.inr (by rw[<-hi];simp))),(r.o.i4.aD λi hi=>ar i (.inr (by rw[<-hi];simp))),(r.o.i5.aD λi hi=>ar i (.inr (by rw[<-hi];simp))),(λx hx=>by
   rcases Y8.1 hx with hx|hx
   ·exact(r.o.e2 x hx).aD λi hi=>ar i (.inr (by rw[<-hi];simp only[Y8,ZB];exact .inl (.inl (.inr ⟨x,hx,rfl⟩))))
   ·rw[Zj]at hx;subst hx;exact ht),(λx hx=>(r.o.e3 x hx).aD λi hi=>ar i (.inr (by rw[<-hi];simp only[Y8,ZB];exact .inl (.inr ⟨x,hx,rfl⟩)))),(λx hx=>(r.o.e4 x hx).aD λi hi=>ar i (.inr (by rw[<-hi];simp only[Y8,ZB];exact .inr ⟨x,hx,rfl⟩))),?_⟩
  have hx:∀i,sB s=some i->sB V.s2=some i\/((∀y∈[sB V.s0,sB V.s1],y≠some i)/\∀y∈([sB V.s3,sB V.s4,sB V.s5]++(V.aj.map λx=>sB x.2)++(V.aC.map λx=>sB x.2)++(V.aF.map λx=>sB x.2)),y≠some i):=λi hi=>by
   exact z9
  have h1:=Sz.xP hx;have h2:k8 (([sB V.s0,sB V.s1,sB s,sB V.s3,sB V.s4,sB V.s5]++(V.aj.map λx=>sB x.2))++((V.aC.map λx=>sB x.2)++(V.aF.map λx=>sB x.2))):=by
   have:[sB V.s0,sB V.s1]++sB s:: ([sB V.s3,sB V.s4,sB V.s5]++(V.aj.map λx=>sB x.2)++(V.aC.map λx=>sB x.2)++(V.aF.map λx=>sB x.2))=([sB V.s0,sB V.s1,sB s,sB V.s3,sB V.s4,sB V.s5]++(V.aj.map λx=>sB x.2))++((V.aC.map λx=>sB x.2)++(V.aF.map λx=>sB x.2)):=Si
   rw[<-this];exact h1
  have h3:=h2.ins (x:=sB t) (λi hi=>by
   obtain⟨n1,n2⟩:=hnt i hi;refine⟨λy hy e=>?_,λy hy e=>?_⟩
   ·exact M8
   ·subst e;have:=(hin i (by rw[hd];simp only[Y8,ZG,Z0,aay]at hy ⊢<;>grind)).2;omega)
  have:{V with aj:=V.aj++[(y,t)],s2:=s}.bl=([sB V.s0,sB V.s1,sB s,sB V.s3,sB V.s4,sB V.s5]++(V.aj.map λx=>sB x.2))++sB t:: ((V.aC.map λx=>sB x.2)++(V.aF.map λx=>sB x.2)):=by
   simp[RV.bl]
  rw[this];exact h3
 exact Nc
def bY.QJ(r:bY N h b V){s t:AV}{y:gY}(hs:Fr N k s 4 ((V.aC++[(y,t)]).map aM))(ht:Fr N k t 1 (y.bo.map aq))(hn:∀i,sB s=some i->sB V.s3=some i\/h.length<=i)(hnt:∀i,sB t=some i->h.length<=i/\sB s≠some i)
  (hm:k[b]? =some (.cells {V with aC:=V.aC++[(y,t)],s3:=s}.row true false))
  (hk:∀i,i<h.length->sB V.s3≠some i->i≠b->k[i]? =h[i]?):bY N k b {V with aC:=V.aC++[(y,t)],s3:=s}:=by
 have hd:V.bl=[sB V.s0,sB V.s1,sB V.s2]++sB V.s3:: ([sB V.s4,sB V.s5]++(V.aj.map λx=>sB x.2)++(V.aC.map λx=>sB x.2)++(V.aF.map λx=>sB x.2)):=rfl;have hin:∀i,some i∈V.bl->N<=i/\i<h.length:=λi hi=>r.o.dR hi
 have Sz:=r.o.di;rw[hd]at Sz;have ar:∀i,(some i∈[sB V.s0,sB V.s1,sB V.s2]\/some i∈([sB V.s4,sB V.s5]++(V.aj.map λx=>sB x.2)++(V.aC.map λx=>sB x.2)++(V.aF.map λx=>sB x.2)))->k[i]? =h[i]? :=λi hi=>by
  exact z7
 have own:cJ N k {V with aC:=V.aC++[(y,t)],s3:=s}:=by
  refine⟨(r.o.i0.aD λi hi=>ar i (.inl (by rw[<-hi];simp))),(r.o.i1.aD λi hi=>ar i (.inl (by rw[<-hi];simp))),(r.o.i2.aD λi hi=>ar i (.inl (by rw[<-hi];simp))),hs,(r.o.i4.aD λi hi=>ar i (.inr (by rw[<-hi];simp))),(r.o.i5.aD λi hi=>ar i (.inr (by rw[<-hi];simp))),(λx hx=>(r.o.e2 x hx).aD λi hi=>ar i (.inr (by rw[<-hi];simp only[Y8,ZB];exact .inl (.inl (.inr ⟨x,hx,rfl⟩))))),(λx hx=>by
   rcases Y8.1 hx with hx|hx
   ·exact(r.o.e3 x hx).aD λi hi=>ar i (.inr (by rw[<-hi];simp only[Y8,ZB];exact .inl (.inr ⟨x,hx,rfl⟩)))
   ·rw[Zj]at hx;subst hx;exact ht),(λx hx=>(r.o.e4 x hx).aD λi hi=>ar i (.inr (by rw[<-hi];simp only[Y8,ZB];exact .inr ⟨x,hx,rfl⟩))),?_⟩
  have hx:∀i,sB s=some i->sB V.s3=some i\/((∀y∈[sB V.s0,sB V.s1,sB V.s2],y≠some i)/\∀y∈([sB V.s4,sB V.s5]++(V.aj.map λx=>sB x.2)++(V.aC.map λx=>sB x.2)++(V.aF.map λx=>sB x.2)),y≠some i):=λi hi=>by
   exact z9
  have h1:=Sz.xP hx;have h2:k8 (([sB V.s0,sB V.s1,sB V.s2,sB s,sB V.s4,sB V.s5]++(V.aj.map λx=>sB x.2)++(V.aC.map λx=>sB x.2))++((V.aF.map λx=>sB x.2))):=by
   have:[sB V.s0,sB V.s1,sB V.s2]++sB s:: ([sB V.s4,sB V.s5]++(V.aj.map λx=>sB x.2)++(V.aC.map λx=>sB x.2)++(V.aF.map λx=>sB x.2))=([sB V.s0,sB V.s1,sB V.s2,sB s,sB V.s4,sB V.s5]++(V.aj.map λx=>sB x.2)++(V.aC.map λx=>sB x.2))++((V.aF.map λx=>sB x.2)):=Si
   rw[<-this];exact h1
  have h3:=h2.ins (x:=sB t) (λi hi=>by
   obtain⟨n1,n2⟩:=hnt i hi;refine⟨λy hy e=>?_,λy hy e=>?_⟩
   ·exact M8
   ·subst e;have:=(hin i (by rw[hd];simp only[Y8,ZG,Z0,aay]at hy ⊢<;>grind)).2;omega)
  have:{V with aC:=V.aC++[(y,t)],s3:=s}.bl=([sB V.s0,sB V.s1,sB V.s2,sB s,sB V.s4,sB V.s5]++(V.aj.map λx=>sB x.2)++(V.aC.map λx=>sB x.2))++sB t:: ((V.aF.map λx=>sB x.2)):=by
   simp[RV.bl]
  rw[this];exact h3
 exact Nc
def bY.QI(r:bY N h b V){s t:AV}{y:kY}(hs:Fr N k s 3 ((V.aF++[(y,t)]).map bB))(ht:Fr N k t 1 (y.bt.map aL))(hn:∀i,sB s=some i->sB V.s4=some i\/h.length<=i)(hnt:∀i,sB t=some i->h.length<=i/\sB s≠some i)
  (hm:k[b]? =some (.cells {V with aF:=V.aF++[(y,t)],s4:=s}.row true false))
  (hk:∀i,i<h.length->sB V.s4≠some i->i≠b->k[i]? =h[i]?):bY N k b {V with aF:=V.aF++[(y,t)],s4:=s}:=by
 have hd:V.bl=[sB V.s0,sB V.s1,sB V.s2,sB V.s3]++sB V.s4:: ([sB V.s5]++(V.aj.map λx=>sB x.2)++(V.aC.map λx=>sB x.2)++(V.aF.map λx=>sB x.2)):=rfl;have hin:∀i,some i∈V.bl->N<=i/\i<h.length:=λi hi=>r.o.dR hi
 have Sz:=r.o.di;rw[hd]at Sz;have ar:∀i,(some i∈[sB V.s0,sB V.s1,sB V.s2,sB V.s3]\/some i∈([sB V.s5]++(V.aj.map λx=>sB x.2)++(V.aC.map λx=>sB x.2)++(V.aF.map λx=>sB x.2)))->k[i]? =h[i]? :=λi hi=>by
  exact z7
 have own:cJ N k {V with aF:=V.aF++[(y,t)],s4:=s}:=by
  refine⟨(r.o.i0.aD λi hi=>ar i (.inl (by rw[<-hi];simp))),(r.o.i1.aD λi hi=>ar i (.inl (by rw[<-hi];simp))),(r.o.i2.aD λi hi=>ar i (.inl (by rw[<-hi];simp))),(r.o.i3.aD λi hi=>ar i (.inl (by rw[<-hi];simp))),hs,(r.o.i5.aD λi hi=>ar i (.inr (by rw[<-hi];simp))),(λx hx=>(r.o.e2 x hx).aD λi hi=>ar i (.inr (by rw[<-hi];simp only[Y8,ZB];exact .inl (.inl (.inr ⟨x,hx,rfl⟩))))),(λx hx=>(r.o.e3 x hx).aD λi hi=>ar i (.inr (by rw[<-hi];simp only[Y8,ZB];exact .inl (.inr ⟨x,hx,rfl⟩)))),(λx hx=>by
   rcases Y8.1 hx with hx|hx
   ·exact(r.o.e4 x hx).aD λi hi=>ar i (.inr (by rw[<-hi];simp only[Y8,ZB];exact .inr ⟨x,hx,rfl⟩))
   ·rw[Zj]at hx;subst hx;exact ht),?_⟩
  have hx:∀i,sB s=some i->sB V.s4=some i\/((∀y∈[sB V.s0,sB V.s1,sB V.s2,sB V.s3],y≠some i)/\∀y∈([sB V.s5]++(V.aj.map λx=>sB x.2)++(V.aC.map λx=>sB x.2)++(V.aF.map λx=>sB x.2)),y≠some i):=λi hi=>by
   exact z9
  have h1:=Sz.xP hx;have h2:k8 (([sB V.s0,sB V.s1,sB V.s2,sB V.s3,sB s,sB V.s5]++(V.aj.map λx=>sB x.2)++(V.aC.map λx=>sB x.2)++(V.aF.map λx=>sB x.2))++([])):=by
   have:[sB V.s0,sB V.s1,sB V.s2,sB V.s3]++sB s:: ([sB V.s5]++(V.aj.map λx=>sB x.2)++(V.aC.map λx=>sB x.2)++(V.aF.map λx=>sB x.2))=([sB V.s0,sB V.s1,sB V.s2,sB V.s3,sB s,sB V.s5]++(V.aj.map λx=>sB x.2)++(V.aC.map λx=>sB x.2)++(V.aF.map λx=>sB x.2))++([]):=Si
   rw[<-this];exact h1
  have h3:=h2.ins (x:=sB t) (λi hi=>by
   obtain⟨n1,n2⟩:=hnt i hi;refine⟨λy hy e=>?_,λy hy e=>?_⟩
   ·exact M8
   ·subst e;have:=(hin i (by rw[hd];simp only[Y8,ZG,Z0,aay]at hy ⊢<;>grind)).2;omega)
  have:{V with aF:=V.aF++[(y,t)],s4:=s}.bl=([sB V.s0,sB V.s1,sB V.s2,sB V.s3,sB s,sB V.s5]++(V.aj.map λx=>sB x.2)++(V.aC.map λx=>sB x.2)++(V.aF.map λx=>sB x.2))++sB t:: ([]):=by
   simp[RV.bl]
  rw[this];exact h3
 exact Nc
def bY.MM(r:bY N h b V){s:AV}{L:List qm}(hs:Fr N k s 4 (L.map cw))(hn:∀i,sB s=some i->sB V.s5=some i\/h.length<=i)(hm:k[b]? =some (.cells {V with aI:=L,s5:=s}.row true false))
  (hk:∀i,i<h.length->sB V.s5≠some i->i≠b->k[i]? =h[i]?):bY N k b {V with aI:=L,s5:=s}:=by
 have hd:V.bl=[sB V.s0,sB V.s1,sB V.s2,sB V.s3,sB V.s4]++sB V.s5:: ([]++(V.aj.map λx=>sB x.2)++(V.aC.map λx=>sB x.2)++(V.aF.map λx=>sB x.2)):=rfl;have hin:∀i,some i∈V.bl->N<=i/\i<h.length:=λi hi=>r.o.dR hi
 have Sz:=r.o.di;rw[hd]at Sz;have ar:∀i,(some i∈[sB V.s0,sB V.s1,sB V.s2,sB V.s3,sB V.s4]\/some i∈([]++(V.aj.map λx=>sB x.2)++(V.aC.map λx=>sB x.2)++(V.aF.map λx=>sB x.2)))->k[i]? =h[i]? :=λi hi=>by
  exact z7
 have own:cJ N k {V with aI:=L,s5:=s}:=by
  refine⟨(r.o.i0.aD λi hi=>ar i (.inl (by rw[<-hi];simp))),(r.o.i1.aD λi hi=>ar i (.inl (by rw[<-hi];simp))),(r.o.i2.aD λi hi=>ar i (.inl (by rw[<-hi];simp))),(r.o.i3.aD λi hi=>ar i (.inl (by rw[<-hi];simp))),(r.o.i4.aD λi hi=>ar i (.inl (by rw[<-hi];simp))),hs,(λx hx=>(r.o.e2 x hx).aD λi hi=>ar i (.inr (by rw[<-hi];simp only[Y8,ZB];exact .inl (.inl (.inr ⟨x,hx,rfl⟩))))),(λx hx=>(r.o.e3 x hx).aD λi hi=>ar i (.inr (by rw[<-hi];simp only[Y8,ZB];exact .inl (.inr ⟨x,hx,rfl⟩)))),(λx hx=>(r.o.e4 x hx).aD λi hi=>ar i (.inr (by rw[<-hi];simp only[Y8,ZB];exact .inr ⟨x,hx,rfl⟩))),?_⟩;have hx:∀i,sB s=some i->sB V.s5=some i\/((∀y∈[sB V.s0,sB V.s1,sB V.s2,sB V.s3,sB V.s4],y≠some i)/\∀y∈([]++(V.aj.map λx=>sB x.2)++(V.aC.map λx=>sB x.2)++(V.aF.map λx=>sB x.2)),y≠some i):=λi hi=>by
   exact z9
  exact Sz.xP hx
 refine⟨own,r.hN,hm,λhb=>?_⟩;have hbl:=r.lt;have T0:=r.ne;rw[hd]at T0;have e:{V with aI:=L,s5:=s}.bl=[sB V.s0,sB V.s1,sB V.s2,sB V.s3,sB V.s4]++sB s:: ([]++(V.aj.map λx=>sB x.2)++(V.aC.map λx=>sB x.2)++(V.aF.map λx=>sB x.2)):=rfl;exact z31
end
def tN(B:ah)(b:Nat)(V:RV)(e:eD)(d:Kd)(k:ah):Prop:=∃g' V',k=B++g'/\bY B.length (B++g') b V'/\V'.an=du V.an e d
def iE{B g:ah}{b i:Nat}{V:RV}{v:AV}(hb:(B++g)[b]? =some (.b V.row))(hv:v.one=true)(hi:i<7):aT 1 (.ptr b i) v (λz=>(B++g)[z]?)=some (ay,.set b (.b (V.row.set i v))):=by
 rw[aJ hb];exact bO hv (by show i+1<=7;omega)
def nA{B g:ah}{b:Nat}{V:RV}(X:ak)(hN:B.length<=b)(hb:(B++g)[b]? =some (.b V.row)):(B++g).set b X=B++g.set (b-B.length) X/\(B++g.set (b-B.length) X)[b]? =some X/\∀i,i≠b->(B++g.set (b-B.length) X)[i]? =(B++g)[i]? :=by
 have h1:(B++g).set b X=B++g.set (b-B.length) X:=ZY _ _ hN;refine⟨h1,?_,λi hi=>?_⟩
 ·rw[<-h1,Zg (YU.1 hb).1]
 ·rw[<-h1,Zf (aai hi)]
def fi{ts h}:cQ [] ts h=some (.dL []):=rfl
section
variable {B g g':ah}{b:Nat}{V:RV}{e:eD}{d:Kd}
def L5(r:bY B.length (B++g) b V){s:AV}{L:List gZ}(hff:Fr B.length (B++g') s 3 (L.map bG))(hb':∀i,sB s=some i->sB V.s0=some i\/(B++g).length<=i)(hk1:∀i,i<(B++g).length->sB V.s0≠some i->(B++g')[i]? =(B++g)[i]?)
  (hreg:{V with lines:=L,s0:=s}.an=du V.an e d):tN B b V e d ((B++g').set b (.b (V.row.set 1 s))):=by
 have hbl:=r.lt;have RT:sB V.s0≠some b:=λz=>r.ne (by rw[<-z];simp[RV.bl])
 have mB:(B++g')[b]? =some (.b V.row):=(hk1 b hbl RT).trans r.m;obtain⟨h1,h2,h3⟩:=nA (.b (V.row.set 1 s)) r.hN mB;have hsb:∀i,sB s=some i->i≠b:=λi hi z=>by
  exact I6
 exact⟨_,_,h1,r.MN (hff.aD λi hi=>h3 i (hsb i hi)) hb' h2 (λi hi hne RT=>(h3 i RT).trans (hk1 i hi hne)),hreg⟩
def L1(r:bY B.length (B++g) b V){s:AV}{L:List rX}(hff:Fr B.length (B++g') s 2 (L.map cp))(hb':∀i,sB s=some i->sB V.s1=some i\/(B++g).length<=i)(hk1:∀i,i<(B++g).length->sB V.s1≠some i->(B++g')[i]? =(B++g)[i]?)
  (hreg:{V with aE:=L,s1:=s}.an=du V.an e d):tN B b V e d ((B++g').set b (.b (V.row.set 2 s))):=by
 have hbl:=r.lt;have RT:sB V.s1≠some b:=λz=>r.ne (by rw[<-z];simp[RV.bl])
 have mB:(B++g')[b]? =some (.b V.row):=(hk1 b hbl RT).trans r.m;obtain⟨h1,h2,h3⟩:=nA (.b (V.row.set 2 s)) r.hN mB;have hsb:∀i,sB s=some i->i≠b:=λi hi z=>by
  exact I6
 exact⟨_,_,h1,r.QL (hff.aD λi hi=>h3 i (hsb i hi)) hb' h2 (λi hi hne RT=>(h3 i RT).trans (hk1 i hi hne)),hreg⟩
def L0(r:bY B.length (B++g) b V){s t:AV}{y:jR}(hff:Fr B.length (B++g') s 3 ((V.aj++[(y,t)]).map aU))(ht:Fr B.length (B++g') t 1 (y.aE.map aq))(hb':∀i,sB s=some i->sB V.s2=some i\/(B++g).length<=i)(hk1:∀i,i<(B++g).length->sB V.s2≠some i->(B++g')[i]? =(B++g)[i]?)(hnt:∀i,sB t=some i->(B++g).length<=i/\sB s≠some i)
  (hreg:{V with aj:=V.aj++[(y,t)],s2:=s}.an=du V.an e d):tN B b V e d ((B++g').set b (.b (V.row.set 3 s))):=by
 have hbl:=r.lt;have RT:sB V.s2≠some b:=λz=>r.ne (by rw[<-z];simp[RV.bl])
 have mB:(B++g')[b]? =some (.b V.row):=(hk1 b hbl RT).trans r.m;obtain⟨h1,h2,h3⟩:=nA (.b (V.row.set 3 s)) r.hN mB;have hsb:∀i,sB s=some i->i≠b:=λi hi z=>by
  exact I6
 have htb:∀i,sB t=some i->i≠b:=λi hi z=>by
  exact z107
 exact⟨_,_,h1,r.QK (hff.aD λi hi=>h3 i (hsb i hi)) (ht.aD λi hi=>h3 i (htb i hi)) hb' hnt h2 (λi hi hne RT=>(h3 i RT).trans (hk1 i hi hne)),hreg⟩
def Gg(r:bY B.length (B++g) b V){s t:AV}{y:gY}(hff:Fr B.length (B++g') s 4 ((V.aC++[(y,t)]).map aM))(ht:Fr B.length (B++g') t 1 (y.bo.map aq))(hb':∀i,sB s=some i->sB V.s3=some i\/(B++g).length<=i)(hk1:∀i,i<(B++g).length->sB V.s3≠some i->(B++g')[i]? =(B++g)[i]?)(hnt:∀i,sB t=some i->(B++g).length<=i/\sB s≠some i)
  (hreg:{V with aC:=V.aC++[(y,t)],s3:=s}.an=du V.an e d):tN B b V e d ((B++g').set b (.b (V.row.set 4 s))):=by
 have hbl:=r.lt;have RT:sB V.s3≠some b:=λz=>r.ne (by rw[<-z];simp[RV.bl])
 have mB:(B++g')[b]? =some (.b V.row):=(hk1 b hbl RT).trans r.m;obtain⟨h1,h2,h3⟩:=nA (.b (V.row.set 4 s)) r.hN mB;have hsb:∀i,sB s=some i->i≠b:=λi hi z=>by
  exact I6
 have htb:∀i,sB t=some i->i≠b:=λi hi z=>by
  exact z107
 exact⟨_,_,h1,r.QJ (hff.aD λi hi=>h3 i (hsb i hi)) (ht.aD λi hi=>h3 i (htb i hi)) hb' hnt h2 (λi hi hne RT=>(h3 i RT).trans (hk1 i hi hne)),hreg⟩
def LZ(r:bY B.length (B++g) b V){s t:AV}{y:kY}(hff:Fr B.length (B++g') s 3 ((V.aF++[(y,t)]).map bB))(ht:Fr B.length (B++g') t 1 (y.bt.map aL))(hb':∀i,sB s=some i->sB V.s4=some i\/(B++g).length<=i)(hk1:∀i,i<(B++g).length->sB V.s4≠some i->(B++g')[i]? =(B++g)[i]?)(hnt:∀i,sB t=some i->(B++g).length<=i/\sB s≠some i)
  (hreg:{V with aF:=V.aF++[(y,t)],s4:=s}.an=du V.an e d):tN B b V e d ((B++g').set b (.b (V.row.set 5 s))):=by
 have hbl:=r.lt;have RT:sB V.s4≠some b:=λz=>r.ne (by rw[<-z];simp[RV.bl])
 have mB:(B++g')[b]? =some (.b V.row):=(hk1 b hbl RT).trans r.m;obtain⟨h1,h2,h3⟩:=nA (.b (V.row.set 5 s)) r.hN mB;have hsb:∀i,sB s=some i->i≠b:=λi hi z=>by
  exact I6
 have htb:∀i,sB t=some i->i≠b:=λi hi z=>by
  exact z107
 exact⟨_,_,h1,r.QI (hff.aD λi hi=>h3 i (hsb i hi)) (ht.aD λi hi=>h3 i (htb i hi)) hb' hnt h2 (λi hi hne RT=>(h3 i RT).trans (hk1 i hi hne)),hreg⟩
def LY(r:bY B.length (B++g) b V){s:AV}{L:List qm}(hff:Fr B.length (B++g') s 4 (L.map cw))(hb':∀i,sB s=some i->sB V.s5=some i\/(B++g).length<=i)(hk1:∀i,i<(B++g).length->sB V.s5≠some i->(B++g')[i]? =(B++g)[i]?)
  (hreg:{V with aI:=L,s5:=s}.an=du V.an e d):tN B b V e d ((B++g').set b (.b (V.row.set 6 s))):=by
 have hbl:=r.lt;have RT:sB V.s5≠some b:=λz=>r.ne (by rw[<-z];simp[RV.bl])
 have mB:(B++g')[b]? =some (.b V.row):=(hk1 b hbl RT).trans r.m;obtain⟨h1,h2,h3⟩:=nA (.b (V.row.set 6 s)) r.hN mB;have hsb:∀i,sB s=some i->i≠b:=λi hi z=>by
  exact I6
 exact⟨_,_,h1,r.MM (hff.aD λi hi=>h3 i (hsb i hi)) hb' h2 (λi hi hne RT=>(h3 i RT).trans (hk1 i hi hne)),hreg⟩
end
section
variable {P:Program}(T:fA P) {B g:ah}{b:Nat}{V:RV}{x:EV}
include T
def O4(r:bY B.length (B++g) b V)(c:Cx (B++g) V x .line):dh P 149 [.ptr b 0,.agg x.row] (B++g) (λ_ k=>tN B b V x.ev .line k):=by
 refine .eF 22 T.mix T.c149 ?_;intro ts hlen t0 t1;unfold fn149;have hex:=@bh.box _ _ c.e;have lb:=@dG _ _ _ r.m;have i0:bf 1 x.sn (.i 0)=_:=(c.nm (i:=0) De).1;have d0:=@(c.nm (i:=0) De).2;have j1:bf 1 x.sv (.i 1)=_:=(c.vl (i:=1) De).1;have f1:=@(c.vl (i:=1) De).2.1;have q1:=(c.vl (i:=1) De).2.2;obtain⟨y,hy⟩:∃y:gZ,y=⟨aP x.ev 0,bF x.ev 1,false⟩:=⟨_,rfl⟩;have SI:bG y=[.str (aP x.ev 0),.i (bF x.ev 1),.bool false]:=by rw[hy];rfl
 refine Rs (mN t0 t1 @hex @lb @eP @aN @bd @i0 @d0 @j1 @f1) ?_;rw[<-SI];refine WR.ff (h0:=B) (cs:=V.lines.map bG) (ys:=[bG y]) (((r.o.i0).app _).app _) (Fr.push (N:=0) (ZA _) [bG y] (by simp[bG])).aW De Si (by have:=c.w.len.l0;simp;omega) Xx ?_;intro g' RJ hff hkp;have hrow:V.lines.map bG++[bG y]=(V.lines++[y]).map bG:=by rw[Y9];rfl
 rw[hrow]at hff;rw[hrow];have hbl:=r.lt;have RT:sB V.s0≠some b:=λe=>r.ne (by rw[<-e];simp[RV.bl])
 have hk1:∀i,i<(B++g).length->sB V.s0≠some i->(B++g')[i]? =(B++g)[i]? :=λi hi hne=>by
  exact Jb
 have mB:(B++g')[b]? =some (.b V.row):=(hk1 b hbl RT).trans r.m;have UK:=λ(b' o n e:Nat)=>iE (i:=1) (v:=.slice b' o n e) mB rfl De
 refine Rs (A4 t0 t1 @UK @fi) ?_;exact L5 r hff (λi hi=>by cases hi;exact .inr (by simp only[YT];omega)) hk1 (by rw[hy];rfl)
def O3(r:bY B.length (B++g) b V)(c:Cx (B++g) V x .tape):dh P 152 [.ptr b 0,.agg x.row] (B++g) (λ_ k=>tN B b V x.ev .tape k):=by
 refine .eF 27 T.mix T.c152 ?_;intro ts hlen t0 t1;unfold fn152;have hex:=@bh.box _ _ c.e;have lb:=@dG _ _ _ r.m;have i0:bf 1 x.sn (.i 0)=_:=(c.nm (i:=0) De).1;have d0:=@(c.nm (i:=0) De).2;have j0:bf 1 x.sv (.i 0)=_:=(c.vl (i:=0) De).1;have f0:=@(c.vl (i:=0) De).2.1;have q0:=(c.vl (i:=0) De).2.2;have j1:bf 1 x.sv (.i 1)=_:=(c.vl (i:=1) De).1;have f1:=@(c.vl (i:=1) De).2.1;have q1:=(c.vl (i:=1) De).2.2;have hw:IntKind.i64.wrap (bF x.ev 0+bF x.ev 1)=bF x.ev 0+bF x.ev 1:=bz Om Om;obtain⟨y,hy⟩:∃y:rX,y=⟨aP x.ev 0,bF x.ev 0+bF x.ev 1⟩:=⟨_,rfl⟩
 have SI:cp y=[.str (aP x.ev 0),.i (bF x.ev 0+bF x.ev 1)]:=by rw[hy];rfl
 refine Rs (zt t0 t1 @hex @lb @gR @aN @bd @hw @i0 @d0 @j0 @f0 @j1 @f1) ?_;rw[<-SI];refine WR.ff (h0:=B) (cs:=V.aE.map cp) (ys:=[cp y]) (((r.o.i1).app _).app _) (Fr.push (N:=0) (ZA _) [cp y] (by simp[cp])).aW De Si (by have:=c.w.len.l1;simp;omega) Xx ?_;intro g' RJ hff hkp;have hrow:V.aE.map cp++[cp y]=(V.aE++[y]).map cp:=by rw[Y9];rfl
 rw[hrow]at hff;rw[hrow];have hbl:=r.lt;have RT:sB V.s1≠some b:=λe=>r.ne (by rw[<-e];simp[RV.bl])
 have hk1:∀i,i<(B++g).length->sB V.s1≠some i->(B++g')[i]? =(B++g)[i]? :=λi hi hne=>by
  exact Jb
 have mB:(B++g')[b]? =some (.b V.row):=(hk1 b hbl RT).trans r.m;have UK:=λ(b' o n e:Nat)=>iE (i:=2) (v:=.slice b' o n e) mB rfl De
 refine Rs (A4 t0 t1 @UK @fi) ?_;exact L1 r hff (λi hi=>by cases hi;exact .inr (by simp only[YT];omega)) hk1 (by rw[hy];rfl)
end
theorem ur:∀(l:List Int) (x:Int),(∀s∈l,-1<=s/\s<=999999999)->-16777213<x->x<16777213->-16777213<l.foldl (λx s=>(257*x+s).tmod 16777213) x/\l.foldl (λx s=>(257*x+s).tmod 16777213) x<16777213
 |[],x,_,h1,h2=>⟨h1,h2⟩
 |s::l,x,hs,h1,h2=>by
  have hb:-16777213<(257*x+s).tmod 16777213/\(257*x+s).tmod 16777213<16777213:=by
   constructor
   ·have:=Int.lt_tmod_of_pos (257*x+s) (show(0:Int)<16777213 by decide);exact this
   ·exact Int.tmod_lt_of_pos _ De
  exact ur l _ (λt ht=>hs t (ZH _ ht)) hb.1 hb.2
section
variable {P:Program}(T:fA P) {h:ah}
include T
def r95{s l}(hs:aK h s 1 (l.map aL))(hl:l.length<2^30)(hb:∀s∈l,-1<=s/\s<=999999999):aA P 95 [s] h (λv _=>v=.i (gf l)):=by
 refine .kr 19 T.mix T.c95 ?_;intro ts hlen t0;unfold fn95 gA;refine Rs (A2 t0 hs.aH) ?_;refine WL.inv T.mix (λn ts h'=>∃k:Nat,k<=l.length/\n=l.length-k/\h' =h/\ts.length=19/\slot ts 3=.i (gf (l.take k))/\slot ts 6=s/\slot ts 7=.i l.length/\slot ts 8=.i k) l.length
  ⟨0,Om,rfl,rfl,Sn,fV,(Sq t0),(Sq t0),fV⟩ ?_
 rintro _ ts _ ⟨k,hk,rfl,rfl,hlen,t3,t6,t7,t8⟩;by_cases hlt:k<l.length
 ·have e3:=dM hlt;have ix:=hs.c8 (kk:=.i64) hlt;have ld:=hs.kS (i:=k) (x:=.i l[k]) hlt rfl (Ext.refl _);have e5:=wrapN (n:=k) Om;have hd:=ur (l.take k) 1 (λs hs=>hb s (Z8 hs)) De De;have T4:=hb _ (Zb hlt);have Sd:-16777213<gf (l.take k)/\gf (l.take k)<16777213:=hd;have w1:IntKind.i64.wrap (257*gf (l.take k))=257*gf (l.take k):=bz Om Om;have w2:IntKind.i64.wrap (257*gf (l.take k)+l[k])=257*gf (l.take k)+l[k]:=bz Om Om;have er:=oh (k:=.i64) (a:=257*gf (l.take k)+l[k]) (b:=16777213) De;have RX:gf (l.take (k+1))=(257*gf (l.take k)+l[k]).tmod 16777213:=by
   exact z159
  rw[<-RX]at er;refine Rs (mN t3 t6 t7 t8 e3 ix @ld @w1 @w2 @er e5) ?_;exact⟨_,Om,k+1,Om,rfl,rfl,rfl⟩
 ·have e3:=eC hlt;have e4:k=l.length:=Om
  rw[e4,ZD]at t3;exact Rs (A5 t3 t6 t7 t8 e3) Tv
end
section
variable {P:Program}(T:fA P) {B g:ah}{b:Nat}{V:RV}{x:EV}
include T
def O2(r:bY B.length (B++g) b V)(c:Cx (B++g) V x .gq):dh P 156 [.ptr b 0,.agg x.row] (B++g) (λ_ k=>tN B b V x.ev .gq k):=by
 refine .eF 27 T.mix T.c156 ?_;intro ts hlen t0 t1;unfold fn156;have hex:=@bh.box _ _ c.e;have lb:=@dG _ _ _ r.m;have i0:bf 1 x.sn (.i 0)=_:=(c.nm (i:=0) De).1;have d0:=@(c.nm (i:=0) De).2;have i1:bf 1 x.sn (.i 1)=_:=(c.nm (i:=1) De).1;have d1:=@(c.nm (i:=1) De).2;have i2:bf 1 x.sn (.i 2)=_:=(c.nm (i:=2) De).1;have d2:=@(c.nm (i:=2) De).2;obtain⟨y,hy⟩:∃y:jR,y=⟨aP x.ev 0,aP x.ev 1,[aP x.ev 2]⟩:=⟨_,rfl⟩;obtain⟨t,ht⟩:∃t,t=AV.slice (B++g++[ak.b x.row]).length 0 1 1:=⟨_,rfl⟩;have SJ:Fr (B++g).length (B++g++[ak.b x.row]++[ak.cells [.str (aP x.ev 2)] true true]) t 1 (y.aE.map aq):=by
  rw[ht,hy];exact(Fr.push (h:=B++g++[ak.b x.row]) (N:=(B++g).length) Si [aq (aP x.ev 2)] (by simp[aq]))
 have SI:aU (y,t)=[.str (aP x.ev 0),.str (aP x.ev 1),t]:=by rw[hy];rfl
 refine Rs (FK t0 t1 @hex @lb @eo @aN @bd @i0 @d0 @i1 @d1 @i2 @d2) ?_;rw[<-ht];have ot:=SJ.aW.one;refine Rs (A7 t0 t1 @ot @lb @eo @aN @bd) ?_;rw[<-SI];refine WR.ff (h0:=B) (cs:=V.aj.map aU) (ys:=[aU (y,t)]) ((((r.o.i2).app _).app _).app _) (Fr.push (N:=0) (ZA _) [aU (y,t)] (by simp[aU])).aW De Si (by have:=c.w.len.l2;simp;omega) Xx ?_;intro g' RJ hff hkp;have hrow:V.aj.map aU++[aU (y,t)]=(V.aj++[(y,t)]).map aU:=by rw[Y9];rfl
 rw[hrow]at hff;rw[hrow];have hbl:=r.lt;have RT:sB V.s2≠some b:=λe=>r.ne (by rw[<-e];simp[RV.bl])
 have hk1:∀i,i<(B++g).length->sB V.s2≠some i->(B++g')[i]? =(B++g)[i]? :=λi hi hne=>by
  exact Jb
 have mB:(B++g')[b]? =some (.b V.row):=(hk1 b hbl RT).trans r.m;have UK:=λ(b' o n e:Nat)=>iE (i:=3) (v:=.slice b' o n e) mB rfl De
 refine Rs (A4 t0 t1 @UK @fi) ?_;refine L0 r hff ?_ (λi hi=>by cases hi;exact .inr (by simp only[YT];omega)) hk1 ?_ ?_
 ·exact(((SJ.app _).aD λi hi=>hkp i (by have:=(SJ.bP hi).2;simp only[YT]at this ⊢;omega) (λb0 o n e he z=>by
   have h1:=(SJ.bP hi).1;have h2:=(r.o.i2.bP (show sB V.s2=some i by rw[he,z];rfl)).2;omega)).low Si)
 ·intro i hi;exact z40
 ·rw[hy];simp[RV.an,du]
def OZ(r:bY B.length (B++g) b V)(c:Cx (B++g) V x .source):dh P 162 [.ptr b 0,.agg x.row] (B++g) (λ_ k=>tN B b V x.ev .source k):=by
 refine .eF 22 T.mix T.c162 ?_;intro ts hlen t0 t1;unfold fn162;have hex:=@bh.box _ _ c.e;have lb:=@dG _ _ _ r.m;have i0:bf 1 x.sn (.i 0)=_:=(c.nm (i:=0) De).1;have d0:=@(c.nm (i:=0) De).2;have i1:bf 1 x.sn (.i 1)=_:=(c.nm (i:=1) De).1;have d1:=@(c.nm (i:=1) De).2;obtain⟨y,hy⟩:∃y:gY,y=⟨aP x.ev 0,dU,aP x.ev 1,[]⟩:=⟨_,rfl⟩;obtain⟨t,ht⟩:∃t,t=AV.af:=⟨_,rfl⟩;have SI:aM (y,t)=[.str (aP x.ev 0),.str [115,104,111,116,115],.str (aP x.ev 1),.af]:=by rw[hy,ht];rfl
 refine Rs (mN t0 t1 @hex @lb @eE @aN @bd @i0 @d0 @i1 @d1) ?_;rw[<-SI];refine WR.ff (h0:=B) (cs:=V.aC.map aM) (ys:=[aM (y,t)]) (((r.o.i3).app _).app _) (Fr.push (N:=0) (ZA _) [aM (y,t)] (by simp[aM])).aW De Si (by have:=c.w.len.l3;simp;omega) Xx ?_;intro g' RJ hff hkp;have hrow:V.aC.map aM++[aM (y,t)]=(V.aC++[(y,t)]).map aM:=by rw[Y9];rfl
 rw[hrow]at hff;rw[hrow];have hbl:=r.lt;have RT:sB V.s3≠some b:=λe=>r.ne (by rw[<-e];simp[RV.bl])
 have hk1:∀i,i<(B++g).length->sB V.s3≠some i->(B++g')[i]? =(B++g)[i]? :=λi hi hne=>by
  exact Jb
 have mB:(B++g')[b]? =some (.b V.row):=(hk1 b hbl RT).trans r.m;have UK:=λ(b' o n e:Nat)=>iE (i:=4) (v:=.slice b' o n e) mB rfl De
 refine Rs (A4 t0 t1 @UK @fi) ?_;refine Gg r hff ?_ (λi hi=>by cases hi;exact .inr (by simp only[YT];omega)) hk1 ?_ ?_
 ·rw[ht,hy];exact .nil
 ·intro i hi;rw[ht]at hi;cases hi
 ·rw[hy];simp[RV.an,du]
def OY(r:bY B.length (B++g) b V)(c:Cx (B++g) V x .fZ)(hc:bD V.an x.ev .fZ=0)(gl:Gl (B++g)):dh P 164 [.ptr b 0,.agg x.row] (B++g) (λ_ k=>tN B b V x.ev .fZ k):=by
 refine .eF 30 T.mix T.c164 ?_;intro ts hlen t0 t1;unfold fn164;have hex:=@bh.box _ _ c.e;have lb:=@dG _ _ _ r.m;have i0:bf 1 x.sn (.i 0)=_:=(c.nm (i:=0) De).1;have d0:=@(c.nm (i:=0) De).2;have j1:bf 1 x.sv (.i 1)=_:=(c.vl (i:=1) De).1;have f1:=@(c.vl (i:=1) De).2.1;have q1:=(c.vl (i:=1) De).2.2;obtain⟨gmu,gtl,hg0⟩:=gl;have hn:1<=bF x.ev 1/\bF x.ev 1<=4:=by
  rw[bD]at hc;split at hc
  ·cases hc
  case isFalse hr=>exact hP hr
 have hw:IntKind.i64.wrap (bF x.ev 1-1)=bF x.ev 1-1:=bz Om Om;have a1:mH 4 2 (.ptr 0 0) (.i (bF x.ev 1-1))=some (.ptr 0 ((bF x.ev 1-1).toNat*2)):=by simp only[mH];rw[Zh Om,ZN]
 have a2:mH 2 1 (.ptr 0 ((bF x.ev 1-1).toNat*2)) (.i 1)=some (.ptr 0 ((bF x.ev 1-1).toNat*2+1)):=by simp[mH]
 have lg:∀{k:ah},Ext (B++g) k->ao none (.ptr 0 ((bF x.ev 1-1).toNat*2+1)) (λb=>k[b]?)=some (.str (jP (bF x.ev 1)),.ar):=by
  intro k e;exact Qe
 have hnl:1<=x.ev.names.length:=by rw[c.we.nl];decide
 have hnl2:x.ev.names.length<=3:=by rw[c.we.nl];decide
 obtain⟨s',es',RC⟩:=c.e.n.FP (lo:=some (.i 1)) (hi:=none) (ml (k:=1) hnl);have et:List.take (x.ev.names.length-1) (List.drop 1 x.ev.names)=x.ev.names.drop 1:=ZL Si;rw[et]at RC;obtain⟨y,hy⟩:∃y:gY,y=⟨aP x.ev 0,jP (bF x.ev 1),[],x.ev.names.drop 1⟩:=⟨_,rfl⟩;refine Rs (GH t0 t1 @hex @lb @eE @aN @bd @hw @a1 @a2 @lg @es' @i0 @d0 @j1 @f1) ?_;refine WF.res T.c177 (r177 T (RC.ext Xx) (by simp;omega)) ?_;rintro t g1 SJ;have SI:aM (y,t)=[.str (aP x.ev 0),.str (jP (bF x.ev 1)),.str [],t]:=by rw[hy];rfl
 have SJ:Fr (B++g).length (B++g++[ak.b x.row]++g1) t 1 (y.bo.map aq):=by rw[hy];exact SJ.low Si
 have ot:=SJ.aW.one;refine Rs (A3 t0 t1 @ot) ?_;rw[<-SI];refine WR.ff (h0:=B) (cs:=V.aC.map aM) (ys:=[aM (y,t)]) ((((r.o.i3).app _).app _).app _) (Fr.push (N:=0) (ZA _) [aM (y,t)] (by simp[aM])).aW De Si (by have:=c.w.len.l3;simp;omega) Xx ?_;intro g' RJ hff hkp;exact z8
def OX(r:bY B.length (B++g) b V)(c:Cx (B++g) V x .merge):dh P 166 [.ptr b 0,.agg x.row] (B++g) (λ_ k=>tN B b V x.ev .merge k):=by
 refine .eF 31 T.mix T.c166 ?_;intro ts hlen t0 t1;unfold fn166;have hex:=@bh.box _ _ c.e;have lb:=@dG _ _ _ r.m;have i0:bf 1 x.sn (.i 0)=_:=(c.nm (i:=0) De).1;have d0:=@(c.nm (i:=0) De).2;have i1:bf 1 x.sn (.i 1)=_:=(c.nm (i:=1) De).1;have d1:=@(c.nm (i:=1) De).2;have hnl:1<=x.ev.names.length:=by rw[c.we.nl];decide
 have hnl2:x.ev.names.length<=3:=by rw[c.we.nl];decide
 obtain⟨s',es',RC⟩:=c.e.n.FP (lo:=some (.i 1)) (hi:=none) (ml (k:=1) hnl);have et:List.take (x.ev.names.length-1) (List.drop 1 x.ev.names)=x.ev.names.drop 1:=ZL Si;rw[et]at RC;have k1:aP x.ev 1∈gV V.an:=c.nk.kn 1 3 rfl;refine Rs (pe t0 t1 @hex @lb @eE @aG @aN @bd @i0 @d0 @i1 @d1) ?_;refine WF.res T.c245 (r245 T (c.o.ext Xx) c.w.len k1) ?_;rintro _ g1 ⟨z,hz,hz1,rfl⟩;unfold aM;obtain⟨y,hy⟩:∃y:gY,y=⟨aP x.ev 0,(gN V.an (aP x.ev 1)).gives,[],x.ev.names.drop 1⟩:=⟨_,rfl⟩;refine Rs (A5 t0 t1 @lb @aN @es') ?_;refine WF.res T.c177 (r177 T (RC.ext Xx) (by simp;omega)) ?_;rintro t g2 SJ;have SI:aM (y,t)=[.str (aP x.ev 0),.str z.1.gives,.str [],t]:=by rw[hy,hz1];rfl
 have SJ:Fr (B++g).length (B++g++[ak.b x.row]++g1++g2) t 1 (y.bo.map aq):=by rw[hy];exact SJ.low (by simp only[YT];omega)
 have ot:=SJ.aW.one;refine Rs (A3 t0 t1 @ot) ?_;rw[<-SI];refine WR.ff (h0:=B) (cs:=V.aC.map aM) (ys:=[aM (y,t)]) (((((r.o.i3).app _).app _).app _).app _) (Fr.push (N:=0) (ZA _) [aM (y,t)] (by simp[aM])).aW De Si (by have:=c.w.len.l3;simp;omega) Xx ?_;intro g' RJ hff hkp;exact z8
def OT(r:bY B.length (B++g) b V)(c:Cx (B++g) V x .gu):dh P 174 [.ptr b 0,.agg x.row] (B++g) (λ_ k=>tN B b V x.ev .gu k):=by
 refine .eF 32 T.mix T.c174 ?_;intro ts hlen t0 t1;unfold fn174;have hex:=@bh.box _ _ c.e;have lb:=@dG _ _ _ r.m;have i0:bf 1 x.sn (.i 0)=_:=(c.nm (i:=0) De).1;have d0:=@(c.nm (i:=0) De).2;have i1:bf 1 x.sn (.i 1)=_:=(c.nm (i:=1) De).1;have d1:=@(c.nm (i:=1) De).2;have k1:aP x.ev 1∈iO V.an:=c.nk.kn 1 4 rfl;refine Rs (pe t0 t1 @hex @lb @fy @aG @aN @bd @i0 @d0 @i1 @d1) ?_;refine WF.res T.c124 (r124 T (c.o.ext Xx) c.w.len k1) ?_;rintro _ g1 ⟨z,hz,hz1,rfl⟩;have hzb:=(c.w.jb z.1 (Zu hz)).2;unfold bB;refine Rs (A2 t0 t1) ?_;refine WF.ce T.c95 (r95 T ((c.o.e4 z hz).ext Xx) Om hzb.2.2) λg2=>?_
 obtain⟨y,hy⟩:∃y:qm,y=⟨aP x.ev 0,aP x.ev 1,gf (gB V.an (aP x.ev 1)).bt,false⟩:=⟨_,rfl⟩;have SI:cw y=[.str (aP x.ev 0),.str (aP x.ev 1),.i (gf z.1.bt),.bool false]:=by rw[hy,hz1];rfl
 refine Rs (A2 t0 t1) ?_;rw[<-SI];refine WR.ff (h0:=B) (cs:=V.aI.map cw) (ys:=[cw y]) (((((r.o.i5).app _).app _).app _).app _) (Fr.push (N:=0) (ZA _) [cw y] (by simp[cw])).aW De Si (by have:=c.w.len.l5;simp;omega) Xx ?_;intro g' RJ hff hkp;have hrow:V.aI.map cw++[cw y]=(V.aI++[y]).map cw:=by rw[Y9];rfl
 rw[hrow]at hff;rw[hrow];have hbl:=r.lt;have RT:sB V.s5≠some b:=λe=>r.ne (by rw[<-e];simp[RV.bl])
 have hk1:∀i,i<(B++g).length->sB V.s5≠some i->(B++g')[i]? =(B++g)[i]? :=λi hi hne=>by
  exact Jb
 have mB:(B++g')[b]? =some (.b V.row):=(hk1 b hbl RT).trans r.m;have UK:=λ(b' o n e:Nat)=>iE (i:=6) (v:=.slice b' o n e) mB rfl De
 refine Rs (A4 t0 t1 @UK @fi) ?_;exact LY r hff (λi hi=>by cases hi;exact .inr (by simp only[YT];omega)) hk1 (by rw[hy];rfl)
end
def bY.QH{N b h k V}(r:bY N h b V){i}(hi:i<V.aF.length){y}(hy:y.name=V.aF[i].1.name/\y.mod=V.aF[i].1.mod)(hf:Fr N k V.aF[i].2 1 (y.bt.map aL))
  (hk:∀j,j<h.length->sB V.aF[i].2≠some j->k[j]? =h[j]?):bY N k b {V with aF:=V.aF.set i (y,V.aF[i].2) }:=by
 have hin:∀j,some j∈V.bl->N<=j/\j<h.length:=λj hj=>r.o.dR hj
 have hbl:{V with aF:=V.aF.set i (y,V.aF[i].2) }.bl=V.bl:=by
  simp only[RV.bl,aa3];congr 1;have:sB V.aF[i].2=(V.aF.map λx=>sB x.2)[i]'(by simpa using hi):=Si
  exact GL
 obtain⟨h1,h2,h3⟩:=aae.1 (show k8 (([sB V.s0,sB V.s1,sB V.s2,sB V.s3,sB V.s4,sB V.s5]++(V.aj.map λx=>sB x.2)++(V.aC.map λx=>sB x.2))++(V.aF.map λx=>sB x.2))from r.o.di);have Tn:sB V.aF[i].2∈V.aF.map λx=>sB x.2:=Zu (f:=λx:kY×AV=>sB x.2) (Zb hi)
 have kA:∀j,some j∈([sB V.s0,sB V.s1,sB V.s2,sB V.s3,sB V.s4,sB V.s5]++(V.aj.map λx=>sB x.2)++(V.aC.map λx=>sB x.2))->k[j]? =h[j]? :=λj hj=>
  hk j (hin j (by rw[RV.bl];exact Y8.2 (.inl hj))).2 (h3 _ hj _ Tn j rfl)
 have k6:∀j,some j∈[sB V.s0,sB V.s1,sB V.s2,sB V.s3,sB V.s4,sB V.s5]->k[j]? =h[j]? :=λj hj=>kA j (by simp only[Y8];exact .inl (.inl hj))
 have hrow:(V.aF.set i (y,V.aF[i].2)).map bB=V.aF.map bB:=by
  rw[aa3];have:bB (y,V.aF[i].2)=(V.aF.map bB)[i]'(by simpa using hi):=by simp[bB,hy.1,hy.2]
  exact GL
 have own:cJ N k {V with aF:=V.aF.set i (y,V.aF[i].2) }:=by
  refine⟨r.o.i0.aD λj hj=>k6 j (by rw[<-hj];simp),r.o.i1.aD λj hj=>k6 j (by rw[<-hj];simp),r.o.i2.aD λj hj=>k6 j (by rw[<-hj];simp),r.o.i3.aD λj hj=>k6 j (by rw[<-hj];simp),?_,r.o.i5.aD λj hj=>k6 j (by rw[<-hj];simp),?_,?_,?_,?_⟩
  ·show Fr N k V.s4 3 ((V.aF.set i (y,V.aF[i].2)).map bB);rw[hrow];exact r.o.i4.aD λj hj=>k6 j (by rw[<-hj];simp)
  ·exactλx hx=>(r.o.e2 x hx).aD λj hj=>kA j (by rw[<-hj];simp only[Y8,ZB];exact .inl (.inr ⟨x,hx,rfl⟩))
  ·exactλx hx=>(r.o.e3 x hx).aD λj hj=>kA j (by rw[<-hj];simp only[Y8,ZB];exact .inr ⟨x,hx,rfl⟩)
  ·intro x hx;obtain⟨n,hn,rfl⟩:=aa4 hx;have Wk:n<V.aF.length:=by simpa using hn
   by_cases hni:n=i
   ·subst hni;simp only[aaX];exact hf
   ·simp only[abo (aai hni)];refine(r.o.e4 _ (Zb Wk)).aD λj hj=>hk j ?_ λe=>?_
    ·exact((r.o.e4 _ (Zb Wk)).bP hj).2
    ·have e1:(V.aF.map λx=>sB x.2)[n]'(by simpa using Wk)=some j:=by simpa using hj
     have e2:(V.aF.map λx=>sB x.2)[i]'(by simpa using hi)=some j:=by simpa using e
     rcases Nat.lt_or_gt_of_ne hni with hlt|hlt
     ·exact List.pairwise_iff_getElem.1 h2 n i (by simpa using Wk) (by simpa using hi) hlt j e1 e2
     ·exact List.pairwise_iff_getElem.1 h2 i n (by simpa using hi) (by simpa using Wk) hlt j e2 e1
  ·show k8 {V with aF:=V.aF.set i (y,V.aF[i].2) }.bl;rw[hbl];exact r.o.di
 refine⟨own,r.hN,?_,by rw[hbl];exact r.ne⟩;have:sB V.aF[i].2≠some b:=λe=>r.ne (by rw[<-e,RV.bl];exact Y8.2 (.inr Tn))
 exact(hk b r.lt this).trans r.m
section
variable {P:Program}(T:fA P) {B g:ah}{b:Nat}{V:RV}{x:EV}
include T
def O0(r:bY B.length (B++g) b V)(c:Cx (B++g) V x .accept):dh P 160 [.ptr b 0,.agg x.row] (B++g) (λ_ k=>tN B b V x.ev .accept k):=by
 refine .eF 19 T.mix T.c160 ?_;intro ts hlen t0 t1;unfold fn160 yC;have hex:=@bh.box _ _ c.e;have lb:=@dG _ _ _ r.m;have i0:bf 1 x.sn (.i 0)=_:=(c.nm (i:=0) De).1;have d0:=@(c.nm (i:=0) De).2;have hn:aP x.ev 0∈gJ V.an:=c.nk.kn 0 0 rfl;have hlt:bp (gJ V.an) (aP x.ev 0)<V.lines.length:=by have:=cY hn;simpa [gJ,RV.an]using this
 have ei:de (λy:gZ=>decide (y.name=aP x.ev 0)) V.lines=(bp (gJ V.an) (aP x.ev 0):Int):=fo (f:=gZ.name) hn;have ix:bf 3 V.s0 (.i (bp (gJ V.an) (aP x.ev 0):Int))=some (cI V.s0 3 (bp (gJ V.an) (aP x.ev 0)),.ar):=c.o.i0.c8 hlt;have sp:dN V.an (aP x.ev 0)=V.lines[bp (gJ V.an) (aP x.ev 0)]:=dq hn;refine Rs (A8 t0 t1 @hex @lb @eP @aN @i0 @d0) ?_;refine WF.ce T.c142 (r142 T (c.o.i0.ext Xx) (by have:=c.w.len.l0;omega) _) λg1=>?_
 rw[ei];refine Rs (A3 t0 t1 ix) ?_;rw[YV B g,YV B];refine WR.vw (h0:=B) (x':={V.lines[bp (gJ V.an) (aP x.ev 0)]with acc:=true}) (by rw[<-YV,<-YV];exact(r.o.i0.app _).app _) hlt De rfl rfl ?_;intro g' RJ hff hkp;have hbl:=r.lt;have RT:sB V.s0≠some b:=λe=>r.ne (by rw[<-e];simp[RV.bl])
 have hk1:∀i,i<(B++g).length->sB V.s0≠some i->(B++g')[i]? =(B++g)[i]? :=λi hi hne=>by
  rw[hkp i (λb0 o n e he z=>hne (by rw[he,z];rfl)),<-YV,<-YV];exact z46
 refine Rs (A3 t0 t1 @fi) ?_;refine⟨g',{V with lines:=V.lines.set (bp (gJ V.an) (aP x.ev 0)) {V.lines[bp (gJ V.an) (aP x.ev 0)]with acc:=true},s0:=V.s0},rfl,r.MN hff (λi hi=>.inl hi) ((hk1 b hbl RT).trans r.m) (λi hi h1 _=>hk1 i hi h1),?_⟩;simp only[du,sp];rfl
def OS(r:bY B.length (B++g) b V)(c:Cx (B++g) V x .rel):dh P 176 [.ptr b 0,.agg x.row] (B++g) (λ_ k=>tN B b V x.ev .rel k):=by
 refine .eF 19 T.mix T.c176 ?_;intro ts hlen t0 t1;unfold fn176 yC;have hex:=@bh.box _ _ c.e;have lb:=@dG _ _ _ r.m;have i0:bf 1 x.sn (.i 0)=_:=(c.nm (i:=0) De).1;have d0:=@(c.nm (i:=0) De).2;have hn:aP x.ev 0∈k5 V.an:=c.nk.kn 0 5 rfl;have hlt:bp (k5 V.an) (aP x.ev 0)<V.aI.length:=by have:=cY hn;simpa [k5,RV.an]using this
 have ei:de (λy:qm=>decide (y.name=aP x.ev 0)) V.aI=(bp (k5 V.an) (aP x.ev 0):Int):=fo (f:=qm.name) hn;have ix:bf 4 V.s5 (.i (bp (k5 V.an) (aP x.ev 0):Int))=some (cI V.s5 4 (bp (k5 V.an) (aP x.ev 0)),.ar):=c.o.i5.c8 hlt;have sp:jX V.an (aP x.ev 0)=V.aI[bp (k5 V.an) (aP x.ev 0)]:=dq hn;refine Rs (A8 t0 t1 @hex @lb @fy @aN @i0 @d0) ?_;refine WF.ce T.c146 (r146 T (c.o.i5.ext Xx) (by have:=c.w.len.l5;omega) _) λg1=>?_
 rw[ei];refine Rs (A3 t0 t1 ix) ?_;rw[YV B g,YV B];refine WR.vw (h0:=B) (x':={V.aI[bp (k5 V.an) (aP x.ev 0)]with rel:=true}) (by rw[<-YV,<-YV];exact(r.o.i5.app _).app _) hlt De rfl rfl ?_;intro g' RJ hff hkp;have hbl:=r.lt;have RT:sB V.s5≠some b:=λe=>r.ne (by rw[<-e];simp[RV.bl])
 have hk1:∀i,i<(B++g).length->sB V.s5≠some i->(B++g')[i]? =(B++g)[i]? :=λi hi hne=>by
  rw[hkp i (λb0 o n e he z=>hne (by rw[he,z];rfl)),<-YV,<-YV];exact z46
 refine Rs (A3 t0 t1 @fi) ?_;refine⟨g',{V with aI:=V.aI.set (bp (k5 V.an) (aP x.ev 0)) {V.aI[bp (k5 V.an) (aP x.ev 0)]with rel:=true},s5:=V.s5},rfl,r.MM hff (λi hi=>.inl hi) ((hk1 b hbl RT).trans r.m) (λi hi h1 _=>hk1 i hi h1),?_⟩;simp only[du,sp];rfl
def LV(r:bY B.length (B++g) b V){d}(c:Cx (B++g) V x d)(hd:1<cE d)(h0:0<(bM d).length)(hn:aP x.ev 0∈iO V.an)(hlt1:bF x.ev 1<(gB V.an (aP x.ev 0)).bt.length)(s:Int):
  dh P 250 [.ptr b 0,.agg x.row,.i s] (B++g) (λ_ k=>∃g' V',k=B++g'/\bY B.length (B++g') b V'/\V'.an={V.an with aF:=mU V.an x.ev s}):=by
 refine .mS 28 T.mix T.c250 ?_;intro ts hlen t0 t1 t2;unfold fn250;have hex:=@bh.box _ _ c.e;have lb:=@dG _ _ _ r.m;have i0:bf 1 x.sn (.i 0)=_:=(c.nm (i:=0) h0).1;have d0:=@(c.nm (i:=0) h0).2;have j1:bf 1 x.sv (.i 1)=_:=(c.vl (i:=1) hd).1;have f1:=@(c.vl (i:=1) hd).2.1;have q1:=(c.vl (i:=1) hd).2.2;have hlt:bp (iO V.an) (aP x.ev 0)<V.aF.length:=by have:=cY hn;simpa [iO,RV.an]using this
 have ei:de (λy:kY×AV=>decide (y.1.name=aP x.ev 0)) V.aF=(bp (iO V.an) (aP x.ev 0):Int):=(fo (f:=λy:kY×AV=>y.1.name) (by rw[<-iu];exact hn)).trans (by rw[iu]);have ix:bf 3 V.s4 (.i (bp (iO V.an) (aP x.ev 0):Int))=some (cI V.s4 3 (bp (iO V.an) (aP x.ev 0)),.ar):=c.o.i4.c8 hlt;have sp:(V.aF[bp (iO V.an) (aP x.ev 0)]).1=gB V.an (aP x.ev 0):=by
  have:=dq (f:=kY.name) (l:=V.an.aF) (n:=aP x.ev 0) (d:=zP) hn;rw[show gB V.an (aP x.ev 0)=_ from this];exact z130
 obtain⟨p,hp⟩:∃p,p=bp (iO V.an) (aP x.ev 0):=⟨_,rfl⟩;rw[<-hp]at ei ix;have hlt:p<V.aF.length:=by rw[hp];exact hlt
 have sp:V.aF[p].1=gB V.an (aP x.ev 0):=by rw[<-sp];congr 2
 have l2:∀{k:ah},Ext (B++g) k->ao none (lH V.s4 3 p 2) (λb=>k[b]?)=some (V.aF[p].2,.ar):=λ{k} e=>c.o.i4.p6 hlt rfl e
 have oj:=r.o.e4 _ (Zb hlt);have hsl:(bF x.ev 1).toNat<V.aF[p].1.bt.length:=by rw[sp];omega
 have Xn:bF x.ev 1=((bF x.ev 1).toNat:Int):=Om
 have iy:bf 1 V.aF[p].2 (.i (bF x.ev 1))=some (cI V.aF[p].2 1 (bF x.ev 1).toNat,.ar):=by
  rw[Xn];exact oj.aW.c8 hsl
 refine Rs (A9 t0 t1 t2 @hex @lb @eO @aN @i0 @d0) ?_;refine WF.ce T.c145 (r145 T (c.o.i4.ext Xx) c.o.jl.2.2 (by have:=c.w.len.l4;omega) _) λg1=>?_
 rw[ei];refine Rs (A9 t0 t1 t2 ix @l2 @bd @j1 @f1 @iy) ?_;rw[YV B g,YV B];have UW:cI V.aF[p].2 1 (bF x.ev 1).toNat=lH V.aF[p].2 1 (bF x.ev 1).toNat 0:=rfl;rw[UW];refine WR.vw (h0:=B) (x':=s) (row:=aL) (L:=V.aF[p].1.bt) (by rw[<-YV,<-YV];exact(oj.app _).app _) hsl De rfl rfl ?_;intro g' RJ hff hkp;have hk1:∀i,i<(B++g).length->sB V.aF[p].2≠some i->(B++g')[i]? =(B++g)[i]? :=λi hi hne=>by
  rw[hkp i (λb0 o n e he z=>hne (by rw[he,z];rfl)),<-YV,<-YV];exact z46
 refine Rs (A4 t0 t1 t2 @fi) ?_;refine⟨g',{V with aF:=V.aF.set p ({V.aF[p].1 with bt:=V.aF[p].1.bt.set (bF x.ev 1).toNat s},V.aF[p].2) },rfl,r.QH hlt ⟨rfl,rfl⟩ hff hk1,?_⟩;have e:mU V.an x.ev s=(V.aF.set p ({V.aF[p].1 with bt:=V.aF[p].1.bt.set (bF x.ev 1).toNat s},V.aF[p].2)).map Prod.fst:=by
  rw[mU,<-hp,<-sp,aa3];rfl
 rw[e];rfl
def OV(r:bY B.length (B++g) b V)(c:Cx (B++g) V x .fW)(hc:bD V.an x.ev .fW=0):dh P 170 [.ptr b 0,.agg x.row] (B++g) (λ_ k=>tN B b V x.ev .fW k):=by
 refine .eF 11 T.mix T.c170 ?_;intro ts hlen t0 t1;unfold fn170 gA;have hex:=@bh.box _ _ c.e;have j2:bf 1 x.sv (.i 2)=_:=(c.vl (i:=2) De).1;have f2:=@(c.vl (i:=2) De).2.1;have k0:aP x.ev 0∈iO V.an:=c.nk.kn 0 4 rfl;have hlt:bF x.ev 1<(gB V.an (aP x.ev 0)).bt.length:=by
  exact Qj
 refine Rs (A7 t0 t1 @hex @bR @bd @j2 @f2) ?_;rw[YV B g];refine WF.gen T.c250 (LV T (B:=B) (by rw[<-YV];exact r.app _) (by rw[<-YV];exact c.ext Xx) De De k0 hlt (bF x.ev 2)) ?_;rintro _ _ ⟨g',V',rfl,h1,h2⟩;exact Jz
def OU(r:bY B.length (B++g) b V)(c:Cx (B++g) V x .fail)(hc:bD V.an x.ev .fail=0):dh P 172 [.ptr b 0,.agg x.row] (B++g) (λ_ k=>tN B b V x.ev .fail k):=by
 refine .eF 7 T.mix T.c172 ?_;intro ts hlen t0 t1;unfold fn172 gA;have hex:=@bh.box _ _ c.e;have k0:aP x.ev 0∈iO V.an:=c.nk.kn 0 4 rfl;have hlt:bF x.ev 1<(gB V.an (aP x.ev 0)).bt.length:=by
  exact Qj
 refine Rs (A4 t0 t1 @hex @bR) ?_;rw[YV B g];refine WF.gen T.c250 (LV T (B:=B) (by rw[<-YV];exact r.app _) (by rw[<-YV];exact c.ext Xx) De De k0 hlt (-1)) ?_;rintro _ _ ⟨g',V',rfl,h1,h2⟩;exact Jz
end
def xy{k:Nat}(hk:k<=32):eI .and (.int .u64 (k:Int)) (.int .u64 4294967295)=some (.int .u64 (k:Int))/\eI .shr (.int .u64 (k:Int)) (.int .u64 32)=some (.int .u64 0):=by
 have:k=0\/k=1\/k=2\/k=3\/k=4\/k=5\/k=6\/k=7\/k=8\/k=9\/k=10\/k=11\/k=12\/k=13\/k=14\/k=15\/k=16\/k=17\/k=18\/k=19\/k=20\/k=21\/k=22\/k=23\/k=24\/k=25\/k=26\/k=27\/k=28\/k=29\/k=30\/k=31\/k=32:=Om
 rcases this with rfl|rfl|rfl|rfl|rfl|rfl|rfl|rfl|rfl|rfl|rfl|rfl|rfl|rfl|rfl|rfl|rfl|rfl|rfl|rfl|rfl|rfl|rfl|rfl|rfl|rfl|rfl|rfl|rfl|rfl|rfl|rfl|rfl<;>exact⟨rfl,rfl⟩
def zu:eI .and (.int .u64 0) (.int .u64 4294967295)=some (.int .u64 0)/\eI .shr (.int .u64 0) (.int .u64 32)=some (.int .u64 0):=⟨rfl,rfl⟩
def B1:eI .and (.int .u64 1) (.int .u64 4294967295)=some (.int .u64 1)/\eI .shr (.int .u64 1) (.int .u64 32)=some (.int .u64 0):=⟨rfl,rfl⟩
def It{x y:cV}{ρ:cV->AV}{h:ah}{b o n m N:Nat}{c:List AV}{tl:Bool}(hx:ρ x=.slice b o n 1)(hy:ρ y=.slice b 0 m 1)(hb:h[b]? =some (.cells c true tl))(hn:o+n<=c.length)(hm:m<=c.length)(h0:0<min m n):
  stepT (.za 1 x y) ρ (λz=>h[z]?) N=some (.i (min m n:Nat),.set b (.cells (fM c o (c.take (min m n))) true tl)):=by
 have hc:fu 1 (λz=>h[z]?) (ρ y)=some (c.take m,m):=by
  rw[hy];simp only[fu,Zk,hb,ZN,aa6,aao];rw[Zh hm]
 have e:stepT (.za 1 x y) ρ (λz=>h[z]?) N=(match ρ x,fu 1 (λz=>h[z]?) (ρ y)with
  |.slice b o n es',some (ys,k)=>
   if es' =1 then
    if min k n=0 then some (.i 0,.ar)
    else
     match h[b]? with
     |some (.cells c true tl)=>if o+min k n*1<=c.length then some (.i (min k n:Nat),.set b (.cells (fM c o (ys.take (min k n*1))) true tl))else none
     |_=>none
   else none
  |.af,some _=>some (.i 0,.ar)
  |_,_=>none):=rfl
 rw[e,hc,hx];simp only[Zk,hb,aa6];rw[Za Om,Zh Om,List.take_take,aaQ (Nat.min_le_left _ _)]
def Ez{x y ρ h b n N c v tl}(hx:ρ x=.slice b 0 n 1)(hy:aK h (ρ y) 1 [[v]])(hb:h[b]? =some (.cells c true tl))(hn:c.length=n)(h0:0<n):
  stepT (.za 1 x y) ρ (λz=>h[z]?) N=some (.i 1,.set b (.cells (c.set 0 v) true tl)):=by
 have hc:=hy.fu;have e:stepT (.za 1 x y) ρ (λz=>h[z]?) N=(match ρ x,fu 1 (λz=>h[z]?) (ρ y)with
  |.slice b o n es',some (ys,k)=>
   if es' =1 then
    if min k n=0 then some (.i 0,.ar)
    else
     match h[b]? with
     |some (.cells c true tl)=>if o+min k n*1<=c.length then some (.i (min k n:Nat),.set b (.cells (fM c o (ys.take (min k n*1))) true tl))else none
     |_=>none
   else none
  |.af,some _=>some (.i 0,.ar)
  |_,_=>none):=rfl
 have hm:min 1 n=1:=Om
 rw[e,hc,hx];simp only[Zk,hb,Zt,hm,aa6];rw[Za De,Zh Om];rfl
def Bu{v z c m k}(hm:c+m<=k):fM (List.replicate c v++List.replicate (k-c) z) c (List.replicate m v)=List.replicate (c+m) v++List.replicate (k-(c+m)) z:=by
 induction m generalizing c with
 |zero=>rfl
 |succ m ih=>
  rw[aaw,pq];have hk:k-c=(k-(c+1))+1:=Om
  have e:(List.replicate c v++List.replicate (k-c) z).set c v=List.replicate (c+1) v++List.replicate (k-(c+1)) z:=by
   rw[ZY _ _ Si,Z9,Z6,hk,aaw,List.set_cons_zero,List.replicate_succ',YV];rfl
  rw[e,ih Om];congr 2<;>omega
def Bm{v z:AV}{c m k:Nat}(hm:m<=c):(List.replicate c v++List.replicate (k-c) z).take m=List.replicate m v:=by
 rw[List.take_append_of_le_length (by simpa using hm),List.take_replicate,aaQ hm]
section
variable {P:Program}(T:fA P) {h:ah}
include T
def r286{k:Nat}(hk:k<=32):aA P 286 [.int .u64 1,.int .u64 (k:Int)] h (λv _=>v=.dL [.int .u64 0,.int .u64 (k:Int)]):=by
 refine .eF 51 T.mix T.c286 ?_;intro ts hlen t0 t1;unfold fn286 gA;obtain⟨a1,a2⟩:=xy hk;obtain⟨b1,b2⟩:=zu;obtain⟨c1,c2⟩:=B1;have w1:IntKind.u64.wrap (1*(k:Int))=(k:Int):=by rw[Int.one_mul];exact yx Om Om
 have w2:IntKind.u64.wrap (0*(k:Int))=0:=by rw[Int.zero_mul];rfl
 have w3:IntKind.u64.wrap (0+0)=0:=rfl;have w4:IntKind.u64.wrap (1*0)=0:=rfl;have w5:IntKind.u64.wrap (0*0)=0:=rfl;exact Rs (FK t0 t1 @a1 @a2 @b1 @b2 @c1 @c2 @w1 @w2 @w3 @w4 @w5) Tv
def r267{k:Nat}(hk:k<=32):aA P 267 [.int .u64 1,.int .u64 (k:Int)] h (λv _=>v=.dL [.int .u64 0,.int .u64 (k:Int)]):=by
 refine .eF 30 T.mix T.c267 ?_;intro ts hlen t0 t1;unfold fn267 gA;refine Rs (A2 t0 t1) ?_;refine WF.ce T.c286 (r286 T hk) λg1=>?_
 exact Rs (A2 t0 t1) Tv
def r248{s:AV}(hs:aK h s 1 (([-1] :List Int).map aL)){k:Nat}(hk:k<=32)(hk0:0<k):aA P 248 [s,.i (k:Int)] h (λv h'=>Fr h.length h' v 1 ((List.replicate k (-1:Int)).map aL)):=by
 refine .eF 48 T.mix T.c248 ?_;intro ts hlen t0 t1;unfold fn248 gA;have q0:decide ((k:Int)<0)=false:=YW Om;have UH:=λG=>hs.aH G
 have c1:IntKind.u64.wrap ((([-1] :List Int).length:Nat):Int)=1:=rfl;have c2:IntKind.u64.wrap (k:Int)=(k:Int):=yx Om Om;have q1:decide ((0:Int)<0)=false:=rfl;have q2:decide ((9223372036854775807:Int)<(k:Int))=false:=YW Om;have c3:IntKind.i64.wrap (k:Int)=(k:Int):=bz Om Om;have mk:∀{N:Nat},ti 1 8 [AV.i 0] (.i (k:Int)) (.i (k:Int)) N=some (.slice N 0 k 1,.push (.cells (dO k [AV.i 0]) true true)):=nU Om Om;refine Rs (A6 t0 t1 q0 @UH @c1 @c2) ?_;refine WF.ce T.c267 (r267 T hk) λg1=>?_
 refine Rs (A6 t0 t1 q1 q2 @c3 @mk) ?_;rw[Ez (b:=(h++g1).length) (n:=k) (v:=.i (-1)) (c:=dO k [AV.i 0]) (tl:=true)]
 rotate_left
 ·exact(Sq t0)
 ·have:aK (h++g1++[ak.cells (dO k [AV.i 0]) true true]) s 1 [[AV.i (-1)]]:=hs.ext Xx;refine Zs t0 ?_;exact this
 ·exact a8
 ·rw[lO,aaZ];simp
 ·exact hk0
 have hz:(dO k [AV.i 0]).set 0 (.i (-1))=List.replicate 1 (AV.i (-1))++List.replicate (k-1) (AV.i 0):=by
  rw[lO,aaZ];obtain⟨n,rfl⟩:∃n,k=n+1:=⟨k-1,Om⟩;rw[aaw,List.set_cons_zero];rfl
 rw[hz];refine Rs (A2 t0 t1) ?_;obtain⟨b0,SZ⟩:∃b0,b0=(h++g1).length:=⟨_,rfl⟩;rw[<-SZ];have hN:h.length<=b0:=by rw[SZ];simp
 refine WL.inv T.mix (λn ts h'=>∃c:Nat,1<=c/\c<=k/\n=k-c/\h' =h++g1++[ak.cells (List.replicate c (AV.i (-1))++List.replicate (k-c) (AV.i 0)) true true]/\ts.length=48/\slot ts 7=.slice b0 0 k 1/\slot ts 8=.i (c:Int)) (k-1)
  ⟨1,Om,Om,rfl,rfl,Sn,(Sq t0),fV⟩ ?_
 rintro _ ts _ ⟨c,h1,h2,rfl,rfl,hlen,t7,t8⟩;have hb:(h++g1++[ak.cells (List.replicate c (AV.i (-1))++List.replicate (k-c) (AV.i 0)) true true])[b0]? =some (.cells (List.replicate c (AV.i (-1))++List.replicate (k-c) (AV.i 0)) true true):=by rw[SZ];exact a8
 have WZ:∀G:Nat->Option ak,jM .sl G (.slice b0 0 k 1)=some k:=λ_=>rfl
 by_cases hlt:c<k
 ·have e3:decide ((c:Int)<(k:Int))=true:=Y5 Om;have s1:AP 1 (.slice b0 0 k 1) (some (.i (c:Int))) none=some (.slice b0 c (k-c) 1,.ar):=by
   simp only[AP,Zk,ml (kk:=.i64) h2,aa6,ZN]
  have s2:AP 1 (.slice b0 0 k 1) none (some (.i (c:Int)))=some (.slice b0 0 c 1,.ar):=by
   simp only[AP,Zk,jI (kk:=.i64) h2,aa6,ZN,Nat.sub_zero]
  refine Rs (A6 t7 t8 @WZ e3 @s1 @s2) ?_;rw[It (b:=b0) (o:=c) (n:=k-c) (m:=c) (c:=List.replicate c (AV.i (-1))++List.replicate (k-c) (AV.i 0)) (tl:=true)]
  rotate_left
  ·exact(Sq t7)
  ·exact(Sq t7)
  ·exact hb
  ·exact z171
  ·exact z171
  ·omega
  rw[Bm (Nat.min_le_left _ _),Bu Om];have bV:∀X:ak,(h++g1++[ak.cells (List.replicate c (AV.i (-1))++List.replicate (k-c) (AV.i 0)) true true]).set b0 X=h++g1++[X]:=λX=>by rw[SZ];exact Bt
  have hw:IntKind.i64.wrap ((c:Int)+((min c (k-c):Nat):Int))=((c+min c (k-c):Nat):Int):=by rw[bz Om Om];rfl
  refine Rs (A4 t7 t8 @bV @hw) ?_;exact⟨_,Om,c+min c (k-c),Om,Om,rfl,rfl,rfl⟩
 ·have e3:decide ((c:Int)<(k:Int))=false:=YW Om;have e4:c=k:=Om
  refine Rs (A4 t7 t8 @WZ e3) ?_;have R7:(List.replicate c (AV.i (-1))++List.replicate (k-c) (AV.i 0))=((List.replicate k (-1:Int)).map aL).flatten:=by
   rw[e4,Z6,abp,Zr,List.map_replicate,aaZ]
  have hlr:((List.replicate k (-1:Int)).map aL).length=k:=Si
  rw[R7]at hb;have:=Fr.mk (N:=h.length) (es:=1) (cs:=(List.replicate k (-1:Int)).map aL) (b:=b0) (tl:=true) hN hb Si;rw[hlr]at this;rw[R7];exact this
end
section
variable {P:Program}(T:fA P) {B g:ah}{b:Nat}{V:RV}{x:EV}
include T
def OW(r:bY B.length (B++g) b V)(c:Cx (B++g) V x .run)(hc:bD V.an x.ev .run=0):dh P 168 [.ptr b 0,.agg x.row] (B++g) (λ_ k=>tN B b V x.ev .run k):=by
 refine .eF 28 T.mix T.c168 ?_;intro ts hlen t0 t1;unfold fn168;have hex:=@bh.box _ _ c.e;have lb:=@dG _ _ _ r.m;have i0:bf 1 x.sn (.i 0)=_:=(c.nm (i:=0) De).1;have d0:=@(c.nm (i:=0) De).2;have i1:bf 1 x.sn (.i 1)=_:=(c.nm (i:=1) De).1;have d1:=@(c.nm (i:=1) De).2;have j1:bf 1 x.sv (.i 1)=_:=(c.vl (i:=1) De).1;have f1:=@(c.vl (i:=1) De).2.1;have q1:=(c.vl (i:=1) De).2.2;have hn:1<=bF x.ev 1/\bF x.ev 1<=32:=by
  rw[bD]at hc;split at hc
  ·cases hc
  split at hc
  ·cases hc
  case isFalse hr=>exact hP hr
 obtain⟨k,hk⟩:∃k:Nat,bF x.ev 1=(k:Int):=⟨(bF x.ev 1).toNat,Om⟩;rw[hk]at f1;obtain⟨y,hy⟩:∃y:kY,y=⟨aP x.ev 0,aP x.ev 1,List.replicate k (-1)⟩:=⟨_,rfl⟩;refine Rs (FK t0 t1 @hex @lb @eO @aN @bd @i0 @d0 @i1 @d1 @j1 @f1) ?_;refine WF.res T.c248 (r248 T (s:=.slice (B++g++[ak.b x.row]).length 0 1 1) (k:=k) (cj [-1]) Om Om) ?_;rintro t g1 SJ;have SI:bB (y,t)=[.str (aP x.ev 0),.str (aP x.ev 1),t]:=by rw[hy];rfl
 have SJ:Fr (B++g).length (B++g++[ak.b x.row]++[ak.cells [AV.i (-1)] true true]++g1) t 1 (y.bt.map aL):=by rw[hy];exact SJ.low (by simp only[YT,Zt];omega)
 have ot:=SJ.aW.one;refine Rs (A3 t0 t1 @ot) ?_;rw[<-SI];refine WR.ff (h0:=B) (cs:=V.aF.map bB) (ys:=[bB (y,t)]) (((((r.o.i4).app _).app _).app _).app _) (Fr.push (N:=0) (ZA _) [bB (y,t)] (by simp[bB])).aW De Si (by have:=c.w.len.l4;simp;omega) Xx ?_;intro g' RJ hff hkp;have hrow:V.aF.map bB++[bB (y,t)]=(V.aF++[(y,t)]).map bB:=by rw[Y9];rfl
 rw[hrow]at hff;rw[hrow];have hbl:=r.lt;have RT:sB V.s4≠some b:=λe=>r.ne (by rw[<-e];simp[RV.bl])
 have hk1:∀i,i<(B++g).length->sB V.s4≠some i->(B++g')[i]? =(B++g)[i]? :=λi hi hne=>by
  exact Jb
 have mB:(B++g')[b]? =some (.b V.row):=(hk1 b hbl RT).trans r.m;have UK:=λ(b' o n e:Nat)=>iE (i:=5) (v:=.slice b' o n e) mB rfl De
 refine Rs (A4 t0 t1 @UK @fi) ?_;refine LZ r hff ?_ (λi hi=>by cases hi;exact .inr (by simp only[YT,Zt];omega)) hk1 ?_ ?_
 ·refine Fr.low (N:=(B++g).length) ((show Fr (B++g).length _ t 1 _ from SJ.app _).aD λi hi=>hkp i ?_ (λb0 o n e he z=>?_)) Si
  ·have:=(SJ.bP hi).2;simp only[YT,Zt]at this ⊢;omega
  ·have h1:=(SJ.bP hi).1;have h2:=(r.o.i4.bP (show sB V.s4=some i by rw[he,z];rfl)).2;omega
 ·intro i hi;exact z40
 ·have e:(bF x.ev 1).toNat=k:=Om
  rw[hy];simp[RV.an,du,e]
end
end Go.Abs
namespace Go.Abs
section
variable {P:Program}{ro:Option Nat->Prop}{ks:List Kt}{ts:TS}{h:ah}{Q:Ex->TS->ah->Prop}{S:ah->Prop}{K:TS->ah->Prop}{l:List bK}
def oT(S:ah->Prop)(H:WM P S l ts h (kq P ro ks Q .normal)):WC P ro (.my l) ks ts h Q:=⟨S,H⟩
def c9{o}(hS:S h)(hl:mG o=false)(hn:kD (o::l)=false)(H:WP P bJ [o] [] ts h (λ_ Ts h1=>WM P S l Ts h1 K)):WM P S (o::l) ts h K:=⟨hS,.inr ⟨hn,.inr ⟨hl,H⟩⟩⟩
def oS{o}(hS:S h)(hl:kD (o::l)=true)(H:WP P ro (o::l) ks ts h Q):WM P S (o::l) ts h (kq P ro ks Q .normal):=⟨hS,.inl ⟨hl,H⟩⟩
def kU{n a d v}(hS:S h)(hv:∀g,S g->ao n (val ts a) (λb=>g[b]?)=some (v,.ar))(H:WM P S l (put ts d v) h K)(hn:kD (({dst:=d,k:=.load n a,gd:=none,q:=true}:bK)::l)=false:=by rfl):WM P S ({dst:=d,k:=.load n a,gd:=none,q:=true} ::l) ts h K:=by
 refine⟨hS,.inr ⟨hn,.inl ⟨rfl,v,λg hg=>?_,H⟩⟩⟩;refine dB.run trivial ?_ ?_
 ·cases d<;>trivial
 ·have h1:stepT (.load n a) (val ts) (λb=>g[b]?) g.length=some (v,.ar):=hv g hg;exact nI h1
end
def bY.QG{N b h k V}(r:bY N h b V){i}(hi:i<V.aj.length){y t}(hs:Fr N k V.s2 3 ((V.aj.set i (y,t)).map aU))(ht:Fr N k t 1 (y.aE.map aq))(hnt:∀j,sB t=some j->h.length<=j)
  (hk:∀j,j<h.length->sB V.s2≠some j->sB V.aj[i].2≠some j->k[j]? =h[j]?):bY N k b {V with aj:=V.aj.set i (y,t) }:=by
 have hin:∀j,some j∈V.bl->N<=j/\j<h.length:=λj hj=>r.o.dR hj
 let l1:List (Option Nat):=[sB V.s0,sB V.s1,sB V.s2,sB V.s3,sB V.s4,sB V.s5]++(V.aj.take i).map λx=>sB x.2
 let l2:List (Option Nat):=(V.aj.drop (i+1)).map (λx=>sB x.2)++(V.aC.map λx=>sB x.2)++(V.aF.map λx=>sB x.2)
 have hV:V.bl=l1++sB V.aj[i].2::l2:=by
  have e:V.aj=V.aj.take i++V.aj[i]::V.aj.drop (i+1):=by rw[<-aaI hi,aal]
  have e2:(V.aj.map λx=>sB x.2)=(V.aj.take i).map (λx=>sB x.2)++sB V.aj[i].2:: (V.aj.drop (i+1)).map (λx=>sB x.2):=by
   conv=>lhs;rw[e]
   simp only[Y9,ZX]
  exact z193
 have Xj:{V with aj:=V.aj.set i (y,t) }.bl=l1++sB t::l2:=by
  have e2:((V.aj.set i (y,t)).map λx=>sB x.2)=(V.aj.take i).map (λx=>sB x.2)++sB t:: (V.aj.drop (i+1)).map (λx=>sB x.2):=by
   rw[List.set_eq_take_append_cons_drop,Zh hi];simp only[Y9,ZX]
  exact z193
 have Sz:=r.o.di;rw[hV]at Sz;obtain⟨h1,h2,h3⟩:=aae.1 Sz;have h4:=Z3.1 h2;have nti:∀j,some j∈l1\/some j∈l2->sB V.aj[i].2≠some j:=λj hj e=>by
  rcases hj with hj|hj
  ·exact h3 _ hj _ Si j rfl e
  ·exact h4.1 _ hj j e rfl
 have hlt:∀j,some j∈l1\/some j∈l2->j<h.length:=λj hj=>(hin j (by rw[hV];exact iW hj)).2
 have ns2:∀j,(some j∈[sB V.s0,sB V.s1]\/some j∈[sB V.s3,sB V.s4,sB V.s5]++((V.aj.map λx=>sB x.2)++(V.aC.map λx=>sB x.2)++(V.aF.map λx=>sB x.2)))->sB V.s2≠some j:=λj hj e=>by
  have Xe:k8 ([sB V.s0,sB V.s1]++sB V.s2:: ([sB V.s3,sB V.s4,sB V.s5]++((V.aj.map λx=>sB x.2)++(V.aC.map λx=>sB x.2)++(V.aF.map λx=>sB x.2)))):=by
   have:=r.o.di;simp only[RV.bl]at this
   simpa using this
  obtain⟨a1,a2,a3⟩:=aae.1 Xe;rcases hj with hj|hj
  ·exact a3 _ hj _ Si j rfl e
  ·exact(Z3.1 a2).1 _ hj j e rfl
 have kp:∀j,(some j∈l1\/some j∈l2)->sB V.s2≠some j->k[j]? =h[j]? :=λj hj hn=>hk j (hlt j hj) hn (nti j hj)
 have own:cJ N k {V with aj:=V.aj.set i (y,t) }:=by
  refine⟨r.o.i0.aD λj hj=>kp j (.inl (by rw[<-hj];simp[l1])) (ns2 j (.inl (by rw[<-hj];simp))),r.o.i1.aD λj hj=>kp j (.inl (by rw[<-hj];simp[l1])) (ns2 j (.inl (by rw[<-hj];simp))),hs,
   r.o.i3.aD λj hj=>kp j (.inl (by rw[<-hj];simp[l1])) (ns2 j (.inr (by rw[<-hj];simp))),r.o.i4.aD λj hj=>kp j (.inl (by rw[<-hj];simp[l1])) (ns2 j (.inr (by rw[<-hj];simp))),r.o.i5.aD λj hj=>kp j (.inl (by rw[<-hj];simp[l1])) (ns2 j (.inr (by rw[<-hj];simp))),?_,?_,?_,?_⟩
  ·intro x hx;obtain⟨n,hn,rfl⟩:=aa4 hx;have Wk:n<V.aj.length:=by simpa using hn
   by_cases hni:n=i
   ·subst hni;simp only[aaX];exact ht
   ·simp only[abo (aai hni)];refine(r.o.e2 _ (Zb Wk)).aD λj hj=>kp j ?_ (ns2 j (.inr ?_))
    ·rcases Nat.lt_or_gt_of_ne hni with hlt|hlt
     ·left
      refine Y8.2 (.inr (ZB.2 ⟨V.aj[n],?_,hj⟩));exact List.mem_take_iff_getElem.2 ⟨n,Om,rfl⟩
     ·right
      simp only[l2,Y8];refine .inl (.inl (ZB.2 ⟨V.aj[n],?_,hj⟩));exact List.mem_drop_iff_getElem.2 ⟨n-(i+1),Om,by congr 1;omega⟩
    ·simp only[Y8];exact .inr (.inl (.inl (ZB.2 ⟨V.aj[n],Zb Wk,hj⟩)))
  ·intro x hx;refine(r.o.e3 x hx).aD λj hj=>kp j (.inr ?_) (ns2 j (.inr ?_))
   ·simp only[l2,Y8];exact .inl (.inr (ZB.2 ⟨x,hx,hj⟩))
   ·simp only[Y8];exact .inr (.inl (.inr (ZB.2 ⟨x,hx,hj⟩)))
  ·intro x hx;refine(r.o.e4 x hx).aD λj hj=>kp j (.inr ?_) (ns2 j (.inr ?_))
   ·simp only[l2,Y8];exact .inr (ZB.2 ⟨x,hx,hj⟩)
   ·simp only[Y8];exact .inr (.inr (ZB.2 ⟨x,hx,hj⟩))
  ·show k8 {V with aj:=V.aj.set i (y,t) }.bl;rw[Xj];refine Sz.xP λj hj=>.inr ⟨λz hz e=>?_,λz hz e=>?_⟩
   ·subst e;have:=hlt j (.inl hz);have:=hnt j hj;omega
   ·subst e;have:=hlt j (.inr hz);have:=hnt j hj;omega
 have hne:=r.ne;rw[hV]at hne;refine⟨own,r.hN,?_,λhb=>?_⟩
 ·have n1:sB V.s2≠some b:=λe=>hne (iW (.inl (by rw[<-e];simp[l1])))
  have n2:sB V.aj[i].2≠some b:=λe=>hne (by rw[e];simp)
  exact(hk b r.lt n1 n2).trans r.m
 ·rw[Xj]at hb;rcases vJ hb with z|z|z
  ·exact hne (iW (.inl z))
  ·have:=hnt b z.symm;have:=r.lt;omega
  ·exact hne (iW (.inr z))
set_option maxRecDepth 10000
attribute [local irreducible] WP WC WE WB WR WF WL WG fR
section
variable {P:Program}(T:fA P) {h:ah}
include T
def r266{L s}(hs:aK h s 1 (L.map aq))(hl:L.length<2^63)(n:By):aA P 266 [s,.str n] h (λv _=>v=.i (de (λy=>decide (n=y)) L)):=by
 refine .eF 19 T.mix T.c266 ?_;intro ts hlen t0 t1;unfold fn266 gA;refine Rs (A3 t0 t1 hs.aH) ?_;refine WL.inv T.mix (λm ts h'=>∃k:Nat,k<=L.length/\m=L.length-k/\h' =h/\L.findIdx? (λy=>decide (n=y))=((L.drop k).findIdx? (λy=>decide (n=y))).map (· +k)/\ts.length=19/\slot ts 0=s/\slot ts 1=.str n/\slot ts 7=.i L.length/\slot ts 8=.i k) L.length
  ⟨0,Om,rfl,rfl,Si,Sn,(Sq t0),(Sq t1),(Sq t0),fV⟩ ?_
 rintro _ ts _ ⟨k,hk,rfl,rfl,hi,hlen,t0,t1,t7,t8⟩;by_cases hlt:k<L.length
 ·have hd:L.drop k=L[k]::L.drop (k+1):=Si
  have e3:=dM hlt;have ix:=hs.c8 (kk:=.i64) hlt;have ld:=hs.kS (i:=k) (x:=.str L[k]) hlt rfl (Ext.refl _);have e5:=wrapN (n:=k) Om;by_cases hp:n=L[k]
  ·have q:decide (n=L[k])=true:=Y5 hp;refine Rs (A8 t0 t1 t7 t8 e3 ix @ld q) ?_;rw[de,hi,hd,abd,q];simp
  ·have q:decide (n=L[k])=false:=YW hp;refine Rs (A9 t0 t1 t7 t8 e3 ix @ld q e5) ?_;refine⟨_,?_,k+1,Om,rfl,?_,rfl⟩
   ·omega
   ·rw[hi,hd,abd,q];exact QC
 ·have e3:=eC hlt;have e4:k=L.length:=Om
  refine Rs (A5 t0 t1 t7 t8 e3) ?_;rw[de,hi,e4,Z2];rfl
def r242{L:List (By)}{s:AV}(hs:aK h s 1 (L.map aq))(hl:L.length<2^63)(n:By):aA P 242 [s,.str n] h (λv _=>v=.bool (decide (n∈L))):=by
 refine .eF 9 T.mix T.c242 ?_;intro ts hlen t0 t1;unfold fn242 gA;refine Rs (A2 t0 t1) ?_;refine WF.ce T.c266 (r266 T hs hl n) λg1=>?_
 refine Rs (A2 t0 t1) ?_;rw[n6];congr 1;rw[Bool.eq_iff_iff];simp[aaD]
end
attribute [local irreducible] WM
section
variable {P:Program}(T:fA P) {B g:ah}{b:Nat}{V:RV}{x:EV}
include T
def O1(r:bY B.length (B++g) b V)(c:Cx (B++g) V x .copy):dh P 158 [.ptr b 0,.agg x.row] (B++g) (λ_ k=>tN B b V x.ev .copy k):=by
 refine .eF 50 T.mix T.c158 ?_;intro ts hlen t0 t1;unfold fn158;have hex:=@bh.box _ _ c.e;have lb:=@dG _ _ _ r.m;have i0:bf 1 x.sn (.i 0)=_:=(c.nm (i:=0) De).1;have d0:=@(c.nm (i:=0) De).2;have i1:bf 1 x.sn (.i 1)=_:=(c.nm (i:=1) De).1;have d1:=@(c.nm (i:=1) De).2;have T3:V.aj.length<=64:=by have:=c.w.l2;simpa [RV.an]using this
 have htp:∀y∈V.aj,y.1.aE.length<2^30:=λy hy=>(c.w.xZ.sh y hy).2
 refine Rs (mN t0 t1 @hex @lb @eo @aN @i0 @d0 @i1 @d1 c.o.i2.aH) ?_;obtain⟨a,ha⟩:∃a,a=aP x.ev 0:=⟨_,rfl⟩;obtain⟨z,hz⟩:∃z,z=aP x.ev 1:=⟨_,rfl⟩;rw[<-ha,<-hz];refine WL.inv T.mix (λn ts h'=>∃(k:Nat) (g':ah) (U:RV),k<=V.aj.length/\n=V.aj.length-k/\h' =B++g'/\bY B.length (B++g') b U/\U.s2=V.s2/\U.aj.length=V.aj.length/\
   {U.an with aj:=V.an.aj} =V.an/\(∀i (hi:i<U.aj.length) (hi':i<V.aj.length),(U.aj[i]).1=if i<k then kJ a z (V.aj[i]).1 else(V.aj[i]).1)/\
   ts.length=50/\slot ts 0=.ptr b 0/\slot ts 4=.str a/\slot ts 5=.str z/\slot ts 19=V.s2/\slot ts 20=.i V.aj.length/\slot ts 21=.i k) V.aj.length
  ⟨0,g++[ak.b x.row],V,Om,rfl,by rw[YV],by rw[<-YV];exact r.app _,rfl,rfl,rfl,λi hi hi'=>by rw[Za Om],Sn,(Sq t0),(Sq t0),(Sq t0),(Sq t0),(Sq t0),fV⟩ ?_
 clear t0 t1 hlen i0 d0 i1 d1 hex lb;clear ts;rintro _ ts _ ⟨k,g',U,hk,rfl,rfl,rU,Sf,TT,hreg,hU,hlen,t0,t4,t5,t19,t20,t21⟩;by_cases hlt:k<V.aj.length
 ·have US:k<U.aj.length:=Om
  have e3:=dM hlt;have e5:=wrapN (n:=k) Om;have oU:=rU.o.ok;have ix:bf 3 V.s2 (.i (k:Int))=some (cI V.s2 3 k,.ar):=by rw[<-Sf];exact oU.i2.c8 US
  have ld:∀{k':ah},Ext (B++g') k'->ao (some 3) (cI V.s2 3 k) (λb=>k'[b]?)=some (.agg (aU U.aj[k]),.ar):=λ{k'} e=>by rw[<-Sf];exact oU.i2.gS US e
  have R3:U.aj[k]∈U.aj:=Zb _;have hx1:(U.aj[k]).1=(V.aj[k]).1:=by rw[hU k US hlt,Za Om]
  have hxl:(U.aj[k]).1.aE.length<2^30:=by rw[hx1];exact htp _ (Zb _)
  have VO:=rU.o.e2 _ R3;have next:∀(U2:RV),U2.aj.length=V.aj.length->(∀i (hi:i<U2.aj.length) (hi':i<U.aj.length),(U2.aj[i]).1=if i=k then kJ a z (U.aj[i]).1 else(U.aj[i]).1)->
    ∀i (hi:i<U2.aj.length) (hi':i<V.aj.length),(U2.aj[i]).1=if i<k+1 then kJ a z (V.aj[i]).1 else(V.aj[i]).1:=by
   intro U2 a3 a5 i hi hi';exact z59
  obtain⟨y,hy⟩:∃y,y=U.aj[k]:=⟨_,rfl⟩;rw[<-hy]at ld VO hxl;have oy:=VO.aW.one;unfold aU at ld;refine Rs (o8 t0 t4 t5 t19 t20 t21 e3 ix @ld @oy) ?_;refine WF.ce T.c242 (r242 T (VO.aW.ext Xx) Om a) λg1=>?_
  by_cases h1:a∈y.1.aE
  case neg=>
   have q1:decide (a∈y.1.aE)=false:=YW h1;rw[q1];refine Rs (A7 t0 t4 t5 t19 t20 t21 e5) ?_;have Vd:B++g'++[ak.b [AV.str y.1.name,.str y.1.line,y.2]]++g1=B++(g'++[ak.b [AV.str y.1.name,.str y.1.line,y.2]]++g1):=by simp only[YV]
   refine⟨_,Om,k+1,_,U,Om,rfl,Vd,by rw[<-Vd];exact(rU.app _).app _,Sf,TT,hreg,next U TT (λi hi hi'=>?_),rfl⟩;split
   ·rename_i TL;subst TL;rw[<-hy,kJ,Za (λw=>h1 w.1)]
   ·rfl
  have q1:decide (a∈y.1.aE)=true:=Y5 h1;rw[q1];refine Rs (A6 t0 t4 t5 t19 t20 t21) ?_;refine WF.ce T.c242 (r242 T (VO.aW.ext Xx) Om z) λg2=>?_
  by_cases h2:z∈y.1.aE
  ·have q2:decide (z∈y.1.aE)=true:=Y5 h2;rw[q2];refine Rs (A8 t0 t4 t5 t19 t20 t21 @Zw e5) ?_;have Vd:B++g'++[ak.b [AV.str y.1.name,.str y.1.line,y.2]]++g1++g2=B++(g'++[ak.b [AV.str y.1.name,.str y.1.line,y.2]]++g1++g2):=by simp only[YV]
   refine⟨_,Om,k+1,_,U,Om,rfl,Vd,by rw[<-Vd];exact((rU.app _).app _).app _,Sf,TT,hreg,next U TT (λi hi hi'=>?_),rfl⟩;split
   ·rename_i TL;subst TL;rw[<-hy,kJ,Za (λw=>w.2 h2)]
   ·rfl
  have q2:decide (z∈y.1.aE)=false:=YW h2;rw[q2];refine Rs (A7 t0 t4 t5 t19 t20 t21 @Zz) ?_;obtain⟨xb,hxb⟩:∃xb,xb=(B++g').length:=⟨_,rfl⟩;obtain⟨G,hG⟩:∃G,G=g'++[ak.b [AV.str y.1.name,.str y.1.line,y.2]]++g1++g2:=⟨_,rfl⟩;have Vd:B++g'++[ak.b [AV.str y.1.name,.str y.1.line,y.2]]++g1++g2=B++G:=by rw[hG];simp only[YV]
  have hex:Ext (B++g') (B++G):=by rw[<-Vd];exact Xx
  have mx:(B++G)[xb]? =some (.b [AV.str y.1.name,.str y.1.line,y.2]):=by
   rw[<-Vd,hxb,YV _ g1,YY Si,Zd Om];simp
  have mb:(B++G)[b]? =some (.b U.row):=hex.some rU.m;have hfx2:Fr B.length (B++G) y.2 1 (y.1.aE.map aq):=by rw[<-Vd];exact((VO.app _).app _).app _
  have hs22:Fr B.length (B++G) V.s2 3 (U.aj.map aU):=by rw[<-Vd,<-Sf];exact((rU.o.i2.app _).app _).app _
  rw[Vd,<-hxb];refine oT (λh=>h[b]? =some (.b U.row)/\h[xb]? =some (.b [AV.str y.1.name,.str y.1.line,y.2])) ?_;have hS:(λh:ah=>h[b]? =some (.b U.row)/\h[xb]? =some (.b [AV.str y.1.name,.str y.1.line,y.2])) (B++G):=⟨mb,mx⟩;refine c9 hS rfl rfl ?_;refine Rs t0 ?_;refine c9 hS rfl rfl ?_;refine Rs t0 ?_;refine c9 hS rfl rfl ?_;refine Rs t0 ?_;refine kU hS (v:=V.s2) (λg hg=>?_) ?_
  ·simp only[aO,aQ,aY,aZ,reduceAdd,reduceMul,reduceLeDiff,reduceEqDiff,ba,hlen,Zi,Zk,t0,az hg.1,eo,Sf]
  refine Rs t0 ?_;refine c9 hS rfl rfl ?_;refine Rs t0 ?_;refine c9 hS rfl rfl ?_;refine Rs t0 ?_;refine kU hS (v:=y.2) (λg hg=>?_) ?_
  ·simp only[aO,aQ,aY,aZ,reduceAdd,reduceMul,reduceLeDiff,reduceEqDiff,ba,hlen,Zi,Zk,t0,az hg.2]
  refine Rs t0 ?_;refine c9 hS rfl rfl ?_;refine Rs (A2 t0 t5) ?_;obtain⟨zr,hzr⟩:∃zr,zr=aq z:=⟨_,rfl⟩;have hS2:(λh:ah=>h[b]? =some (.b U.row)/\h[xb]? =some (.b [AV.str y.1.name,.str y.1.line,y.2])) (B++G++[ak.cells [.str z] true true]):=⟨(Ext.app _ (Ext.refl _)).some mb,(Ext.app _ (Ext.refl _)).some mx⟩;have hxlt:xb<(B++G).length:=by
   rw[<-Vd,hxb];simp only[YT,YX,Y6];omega
  refine c9 hS rfl rfl ?_;refine Rs t0 ?_;refine c9 hS2 rfl rfl ?_;refine Rs t0 ?_;refine WR.ff (h0:=B) (cs:=y.1.aE.map aq) (ys:=[aq z]) (hfx2.app _) (Fr.push (N:=0) (ZA _) [aq z] (by simp[aq])).aW De Si (by simp only[Y7,YX,Y6];omega) (by rw[YV];exact⟨_,rfl⟩) ?_;intro g3 YB hff hkp;have hrow:y.1.aE.map aq++[aq z]=(y.1.aE++[z]).map aq:=by rw[Y9];rfl
  rw[hrow]at hff;rw[hrow];obtain⟨t',ht'⟩:∃t',t' =AV.slice (B++G++[ak.cells [.str z] true true]).length 0 ((y.1.aE++[z]).map aq).length 1:=⟨_,rfl⟩;rw[<-ht']at hff;rw[<-ht'];have o1:t'.one=true:=by rw[ht'];rfl
  have hGl:(B++g').length<=(B++G).length:=hex.len;have hty:sB t' =some (B++G++[ak.cells [.str z] true true]).length:=by rw[ht'];rfl
  have hbl:=rU.lt;have UD:sB y.2≠some b:=λe=>rU.ne (by rw[<-e,RV.bl,hy];simp only[Y8,ZB];exact .inl (.inl (.inr ⟨_,R3,rfl⟩)))
  have TG:∀i,sB y.2=some i->i<xb:=λi hi=>by rw[hxb];exact(VO.bP hi).2
  have hk3:∀i,i<(B++G).length->sB y.2≠some i->(B++g3)[i]? =(B++G)[i]? :=λi hi hne=>by
   rw[hkp i (by simp only[YT]at hi ⊢;omega) (λb0 o n e he z=>hne (by rw[he,z];rfl)),YY hi]
  have hS3:(λh:ah=>h[b]? =some (.b U.row)/\h[xb]? =some (.b [AV.str y.1.name,.str y.1.line,y.2])) (B++g3):=
   ⟨(hk3 b Om UD).trans mb,(hk3 xb hxlt (λe=>by have:=TG _ e;omega)).trans mx⟩
  have hsy:∀j,sB V.s2=some j->sB y.2≠some j:=λj hj e=>by
   have Xe:k8 ([sB U.s0,sB U.s1]++sB U.s2:: ([sB U.s3,sB U.s4,sB U.s5]++((U.aj.map λx=>sB x.2)++(U.aC.map λx=>sB x.2)++(U.aF.map λx=>sB x.2)))):=by
    have:=rU.o.di;simp only[RV.bl]at this
    simpa using this
   obtain⟨_,a2,_⟩:=aae.1 Xe;refine(Z3.1 a2).1 (sB y.2) ?_ j (by rw[Sf];exact hj) e;simp only[Y8,ZB];exact .inr (.inl (.inl ⟨_,R3,by rw[<-hy]⟩))
  have hs23:Fr B.length (B++g3) V.s2 3 (U.aj.map aU):=hs22.aD λi hi=>hk3 i (hs22.bP hi).2 (hsy i hi)
  refine Rs t0 ?_;refine oS hS3 rfl ?_;refine Rs (A3 t0 ix @o1) ?_;have hkU:k<U.aj.length:=US;refine WR.vw (h0:=B) (x':=(⟨y.1.name,y.1.line,y.1.aE++[z]⟩,t')) (row:=aU) hs23 US De o1 (by rw[<-hy];rfl) ?_;intro g4 hl4 hff4 hkp4;have hk4:∀i,i<(B++g').length->sB V.s2≠some i->sB y.2≠some i->(B++g4)[i]? =(B++g')[i]? :=λi hi n1 n2=>by
   rw[hkp4 i (λb0 o n e he z=>n1 (by rw[he,z];rfl)),hk3 i Om n2];exact hex.get hi
  have nb2:sB V.s2≠some b:=λe=>rU.ne (by rw[<-e,<-Sf];simp[RV.bl])
  have ht4:Fr B.length (B++g4) t' 1 ((y.1.aE++[z]).map aq):=hff.aD λi hi=>by
   rw[hty]at hi;cases hi;refine hkp4 _ (λb0 o n e he zz=>?_);have:=(rU.o.i2.bP (show sB U.s2=some b0 by rw[Sf,he];rfl)).2;have h3:(B++g').length<=(B++G++[ak.cells [.str z] true true]).length:=by simp only[YT]at hGl ⊢;omega
   omega
  refine Rs (A7 t0 t4 t5 t19 t20 t21 e5) ?_;refine⟨_,Om,k+1,g4,{U with aj:=U.aj.set k (⟨y.1.name,y.1.line,y.1.aE++[z]⟩,t') },Om,rfl,rfl,rU.QG US (by rw[Sf];exact hff4) ht4 (λj hj=>?_) (λj hj n1 n2=>hk4 j hj (by rw[<-Sf];exact n1) (by rw[hy];exact n2)),Sf,(by simp only[ZI];exact TT),hreg,next _ (by simp only[ZI];exact TT) (λi hi hi'=>?_),rfl⟩
  ·rw[hty]at hj;cases hj;simp only[YT]at hGl ⊢;omega
  ·by_cases TL:i=k
   ·subst TL;simp only[aaX,Zk];rw[<-hy,kJ,Zh ⟨h1,h2⟩]
   ·exact Jt
 ·have e3:decide ((k:Int)<V.aj.length)=false:=YW Om;have e4:k=V.aj.length:=Om
  refine Rs (A8 t0 t4 t5 t19 t20 t21 e3 @fi) ?_;refine⟨g',U,rfl,rU,?_⟩;exact QA
end
def HV.now(V:HV):RV:=V.cC.getLastD RV.zero
def HV.jD(V:HV):V.now.an=V.bV.now:=by
 rw[HV.now,HV.bV,iH.now];show _=(V.cC.map RV.an).getLastD dJ.zero;rw[aaK,aaK,List.getLast?_map];cases V.cC.getLast? <;>rfl
structure yv(h:ah)(b:Nat)(V:HV):Prop where
 hb:h[b]? =some (.b [V.se,V.sc,V.sr])
 ie:aK h V.se 5 (V.dm.map EV.row)
 ic:aK h V.sc 5 (V.fe.map EV.row)
 ig:aK h V.sr 7 (V.cC.map RV.row)
 ae:∀x∈V.dm,bh h x
 ac:∀x∈V.fe,bh h x
 ag:∀x∈V.cC,aB h x
theorem yv.ext{h k b V}(o:yv h b V)(e:Ext h k):yv k b V:=
 ⟨e.some o.hb,o.ie.ext e,o.ic.ext e,o.ig.ext e,λx hx=>(o.ae x hx).ext e,λx hx=>(o.ac x hx).ext e,λx hx=>(o.ag x hx).ext e⟩
def cH.rd{N h b V}(o:cH N h b V):yv h b V:=
 ⟨o.hb,o.oe.aW,o.oc.aW,o.og.aW,λx hx=>(o.ae x hx).sub (jr.fL _ _),λx hx=>(o.ac x hx).sub (jr.fL _ _),λx hx=>(o.ag x hx).sub (jr.fL _ _)⟩
theorem yv.now{h b V}(o:yv h b V):aB h V.now:=by
 rw[HV.now,aaK];cases hx:V.cC.getLast? with
 |none=>exact aB.zero
 |some R=>exact o.ag R (List.mem_of_getLast? hx)
def aB.st{h V}(o:aB h V){b a0 a1 a2 a3 a4 a5 a6 tl}:km 7 0 (.agg V.row) b (.cells [a0,a1,a2,a3,a4,a5,a6] true tl)=some (ay,.set b (.cells V.row true tl)):=by
 refine(tS (l:=V.row) rfl o.row (by show 0+7<=7;omega)).trans ?_;rfl
def bh.st{h x}(o:bh h x){b a0 a1 a2 a3 a4 tl}:km 5 0 (.agg x.row) b (.cells [a0,a1,a2,a3,a4] true tl)=some (ay,.set b (.cells x.row true tl)):=by
 refine(tS (l:=x.row) rfl o.row (by show 0+5<=5;omega)).trans ?_;rfl
def HX{e d}(hd:d≠.eZ):e.kind=bA d↔ju e=d:=by
 rw[ju];constructor
 ·intro h;rw[h,lV];rfl
 ·intro h;cases hk:gO e.kind with
  |none=>rw[hk]at h;exact absurd h.symm hd
  |some c=>rw[hk]at h;cases h;exact cA hk
structure kN(H:iH):Prop where
 rg:∀R∈H.cC,ee R
 ln:H.cC.length=H.fe.length
 le:H.fe.length<=H.dm.length
 ev:∀e∈H.dm,∃d,kj e d
 cn:∀e∈H.fe,∃d,kj e d
theorem kN.zero:kN iH.zero:=by
 refine⟨?_,rfl,Zc _,?_,?_⟩
 all_goals intro x hx;cases hx
theorem kN.now{H}(w:kN H):ee H.now:=by
 rw[iH.now,aaK];cases hx:H.cC.getLast? with
 |none=>exact ee.zero
 |some R=>exact w.rg R (List.mem_of_getLast? hx)
section
variable {P:Program}(T:fA P)
include T
def Fz{B g b V x d ro ks ts Q dd l}(hd:d≠.eZ)(r:bY B.length (B++g) b V)(c:Cx (B++g) V x d)(hc:bD V.an x.ev d=0)(gl:Gl (B++g))
  (K:∀v h',tN B b V x.ev d h'->WP P ro l ks (put ts dd v) h' Q):WF P ro false (pA d) [.ptr b 0,.agg x.row] dd l ks ts (B++g) Q:=by
 cases d with
 |eZ=>exact absurd rfl hd
 |line=>exact WF.gen (a:=[]) (c:=[]) T.c149 (O4 T r c) K
 |tape=>exact WF.gen (a:=[]) (c:=[]) T.c152 (O3 T r c) K
 |gq=>exact WF.gen (a:=[]) (c:=[]) T.c156 (O2 T r c) K
 |copy=>exact WF.gen (a:=[]) (c:=[]) T.c158 (O1 T r c) K
 |accept=>exact WF.gen (a:=[]) (c:=[]) T.c160 (O0 T r c) K
 |source=>exact WF.gen (a:=[]) (c:=[]) T.c162 (OZ T r c) K
 |fZ=>exact WF.gen (a:=[]) (c:=[]) T.c164 (OY T r c hc gl) K
 |merge=>exact WF.gen (a:=[]) (c:=[]) T.c166 (OX T r c) K
 |run=>exact WF.gen (a:=[]) (c:=[]) T.c168 (OW T r c hc) K
 |fW=>exact WF.gen (a:=[]) (c:=[]) T.c170 (OV T r c hc) K
 |fail=>exact WF.gen (a:=[]) (c:=[]) T.c172 (OU T r c hc) K
 |gu=>exact WF.gen (a:=[]) (c:=[]) T.c174 (OT T r c) K
 |rel=>exact WF.gen (a:=[]) (c:=[]) T.c176 (OS T r c) K
variable {h:ah}
def r79{V b}(o:yv h b V)(hl:V.cC.length<=1000):aA P 79 [.ptr b 0] h (λv _=>v=.agg V.now.row):=by
 refine .kr 20 T.mix T.c79 ?_;intro ts hlen t0;unfold fn79 gA;have hb:=o.hb;have lb:=@dG _ _ _ hb;refine Rs (A3 t0 @lb o.ig.aH) ?_;rcases List.eq_nil_or_concat V.cC with hn|⟨L,R,hn⟩
 ·have RY:V.cC.length=0:=by rw[hn];rfl
  have e1:decide ((0:Int)<(V.cC.length:Int))=false:=YW Om;refine Rs (A2 t0 e1) ?_;rw[HV.now,hn];rfl
 ·have hlenR:V.cC.length=L.length+1:=by rw[hn];simp
  have e1:decide ((0:Int)<(V.cC.length:Int))=true:=Y5 Om;have e2:IntKind.i64.wrap ((V.cC.length:Int)-1)=(L.length:Int):=by rw[bz Om Om];omega
  have Xl:L.length<V.cC.length:=Om
  have ix:=o.ig.c8 (kk:=.i64) Xl;have ld:∀{k':ah},Ext h k'->_:=λ{k'} e=>o.ig.gS Xl e
  have hR:V.cC[L.length]=R:=by simp only[hn];simp
  rw[hR]at ld;have st:=@aB.st h R (o.ag R (by rw[hn];simp));refine Rs (A8 t0 e1 e2 @lb ix @ld @st @aG) ?_;rw[HV.now,hn];simp
def r116{V b x d}(o:yv h b V)(w:kN V.bV)(hl:V.dm.length<=1000)(ox:bh h x)(wx:kj x.ev d)(gl:Gl h):
  aA P 116 [.ptr b 0,.agg x.row] h (λv _=>v=.i (jv V.bV x.ev)):=by
 have hcl:V.fe.length<=V.dm.length:=by have:=w.le;simpa [HV.bV]using this
 have Tj:V.cC.length=V.fe.length:=by have:=w.ln;simpa [HV.bV]using this
 refine .eF 106 T.mix T.c116 ?_;intro ts hlen t0 t1;unfold fn116;have hb:=o.hb;have lb:=@dG _ _ _ hb;have hex:=@bh.box _ _ ox;have ew:IntKind.i64.wrap ((V.dm.length:Int)+1)=(V.dm.length:Int)+1:=bz Om Om;by_cases h1:x.ev.num=(V.dm.length:Int)+1
 case neg=>
  have q1:decide (x.ev.num≠(V.dm.length:Int)+1)=true:=Y5 h1;refine Rs (A8 t0 t1 @lb @hex @nq o.ie.aH @ew q1) ?_;rw[jv,Zh (by simpa [HV.bV]using h1)]
 have q1:decide (x.ev.num≠(V.dm.length:Int)+1)=false:=YW (λz=>z h1);have RK:ju x.ev=d:=by rw[ju,wx.kd];rfl
 rw[jv,Za (by simpa [HV.bV]using h1),RK];by_cases h2:d=.eZ
 ·have q2:decide (x.ev.kind=[117,110,100,111])=true:=Y5 (by rw[cA wx.kd,h2];rfl);rw[Zh h2];refine Rs (mN t0 t1 @lb @hex @nq @bC o.ie.aH o.ic.aH @ew q1 q2) ?_;rcases List.eq_nil_or_concat V.fe with hn|⟨L,c,hn⟩
  ·have RY:V.fe.length=0:=by rw[hn];rfl
   have e1:decide ((V.fe.length:Int)=0)=true:=Y5 Om;refine Rs (A2 t0 e1) ?_;simp only[HV.bV,hn];rfl
  ·have hlenR:V.fe.length=L.length+1:=by rw[hn];simp
   have e1:decide ((V.fe.length:Int)=0)=false:=YW Om;have e2:IntKind.i64.wrap ((V.fe.length:Int)-1)=(L.length:Int):=by rw[bz Om Om];omega
   have Xl:L.length<V.fe.length:=Om
   have ix:=o.ic.c8 (kk:=.i64) Xl;have hR:V.fe[L.length]=c:=by simp only[hn];simp
   have lf:∀{k':ah},Ext h k'->ao none (lH V.sc 5 L.length 1) (λb=>k'[b]?)=some (.str c.ev.kind,.ar):=λ{k'} e=>by
    refine o.ic.p6 Xl ?_ e;rw[hR];rfl
   refine Rs (A6 t0 e1 e2 @lb ix @lf) ?_;refine WF.ce T.c85 (r85 T _ _) λg1=>?_
   refine Rs t0 ?_;have e3:decide (c.ev.kind=[114,101,108,101,97,115,101])=decide (ju c.ev=.rel):=aaF.2 (HX (d:=.rel) De);have e4:V.bV.fe.getLast? =some c.ev:=by simp[HV.bV,hn]
   rw[e3,e4];by_cases h5:ju c.ev=.rel<;>simp[bX,h5]
 have q2:decide (x.ev.kind=[117,110,100,111])=false:=YW λz=>h2 (by
  have:=wx.kd;rw[z]at this;exact(ZZ ((lV .eZ).symm.trans this)).symm)
 rw[Za h2,<-V.jD];have wn:ee V.now.an:=by rw[V.jD];exact w.now
 have on:=o.now;have ltk:0<cE d:=by cases d<;>first|exact absurd rfl h2|decide
 have Sy:0<x.ev.cB.length:=by rw[wx.vl];exact ltk
 have qx:bf 1 x.sv (.i 0)=some (cI x.sv 1 0,.ar):=ox.v.qx Sy;have ev0:bF x.ev 0=x.ev.cB[0]:=by rw[bF,ZK,YZ Sy];rfl
 have ld0:∀{k':ah},Ext h k'->ao none (cI x.sv 1 0) (λb=>k'[b]?)=some (.i (bF x.ev 0),.ar):=λ{k'} e=>by
  rw[ev0];exact ox.v.kS Sy rfl e
 refine Rs (mN t0 t1 @lb @hex @nq @bC o.ie.aH o.ic.aH @ew q1 q2) ?_;refine WF.ce T.c79 (r79 T (o.ext Xx) Om) λg1=>?_
 have st:=@aB.st h V.now on;rw[gQ];by_cases h3:bF x.ev 0<V.now.an.tick
 ·have q3:decide (bF x.ev 0<V.now.tick)=true:=Y5 h3;refine Rs (A8 t0 t1 @st @kR @bd @qx @ld0 q3) ?_;rw[Zh h3]
 have q3:decide (bF x.ev 0<V.now.tick)=false:=YW h3;rw[Za h3];refine Rs (A8 t0 t1 @st @kR @bd @qx @ld0 q3) ?_;refine WF.res T.c90 (r90 T) ?_;rintro _ g2 ⟨vf,rfl,hk⟩;obtain⟨H,hH⟩:∃H,H=h++[ak.b x.row]++g1++[ak.b V.now.row]:=⟨_,rfl⟩;obtain⟨eb,heb⟩:∃eb,eb=h.length:=⟨_,rfl⟩;obtain⟨rb,WJ⟩:∃rb,rb=(h++[ak.b x.row]++g1).length:=⟨_,rfl⟩;have mr:(H++g2)[rb]? =some (.b V.now.row):=by rw[hH,WJ];exact(Ext.app _ (Ext.refl _)).some a8
 have me:(H++g2)[eb]? =some (.b x.row):=by rw[hH,heb];exact(show Ext (h++[ak.b x.row]) _ from Xx).some a8
 rw[<-hH]at hk ⊢;rw[<-heb,<-WJ];have lk:∀{z:AV},iw .s z false (.map H.length) (.str x.ev.kind) (λb=>(H++g2)[b]?)=lC z false ((gO x.ev.kind).map vf):=hk.look;rw[wx.kd]at lk;have Sh:∀{z:AV},_=some (vf d,iI.ar):=@lk;obtain⟨rs,a,hv,hr,ha,hab⟩:=(hk.k d).ex;rw[hv]at Sh;have c1:=lX d;have c2:=lE d;have c3:=hr.one;have le:=@dG _ _ _ me;have lr:=@dG _ _ _ mr;refine Rs (pe t0 t1 @le @bC @bW @Sh @c1 @c2 @c3 @ha hr.aH @iG) ?_;obtain⟨L,hL⟩:∃L,L=bM d:=⟨_,rfl⟩;have hnl:x.ev.names.length=L.length:=by rw[hL];exact wx.nl
 have Xl:L.length<=3:=by rw[hL];cases d<;>decide
 have XQ:∀r∈L,r.1<6:=by rw[hL];cases d<;>decide
 rw[<-hL]at hr ⊢;obtain⟨kb,hkb⟩:∃kb,kb=(H++g2).length:=⟨_,rfl⟩;have hex:Ext h (H++g2):=by rw[hH];exact Xx
 have UM:Ext (H++g2) (H++g2++[ak.b [rs,.i (cE d:Int),j7 d,pA d,a]]):=Xx;have mk:(H++g2++[ak.b [rs,.i (cE d:Int),j7 d,pA d,a]])[kb]? =some (.b [rs,.i (cE d:Int),j7 d,pA d,a]):=by rw[hkb];exact a8
 obtain⟨H2,VW⟩:∃H2,H2=H++g2++[ak.b [rs,.i (cE d:Int),j7 d,pA d,a]]:=⟨_,rfl⟩;rw[<-VW]at mk UM;have hx3:Ext h H2:=hex.trans UM;have lk:=@dG _ _ _ mk;rw[<-VW,<-hkb];have UH:∀(i:Nat) (hi:i<L.length),bf 1 x.sn (.i (i:Int))=some (cI x.sn 1 i,.ar):=λi hi=>ox.n.c8 Om
 have hld:∀(i:Nat) (hi:i<L.length) (k':ah),Ext h k'->ao none (cI x.sn 1 i) (λb=>k'[b]?)=some (.str (aP x.ev i),.ar):=λi hi k' e=>by
  exact Qi
 refine WL.inv T.mix (λm ts h'=>∃k:Nat,k<=L.length/\m=L.length-k/\Ext H2 h'/\mO V.now.an x.ev L 0=mO V.now.an x.ev (L.drop k) k/\ts.length=106/\slot ts 3=.ptr eb 0/\slot ts 6=.ptr rb 0/\slot ts 7=.ptr kb 0/\slot ts 56=rs/\slot ts 57=.i L.length/\slot ts 58=.i k) L.length
  ⟨0,Om,rfl,.refl _,rfl,Sn,Sw,Sw,Sw,Sw,Sw,fV⟩ ?_
 clear t0 t1 hlen lb hb hex le lr;clear ts;rintro _ ts h' ⟨k,hk,rfl,TW,hu,hlen,t3,t6,t7,t56,t57,t58⟩;have le:∀{k' n a},Ext h' k'->ao n (.ptr eb a) (λz=>k'[z]?)=dC n a (.b x.row):=λ{_ _ _} e=>az (((UM.trans TW).trans e).some me)
 have lr:∀{k' n a},Ext h' k'->ao n (.ptr rb a) (λz=>k'[z]?)=dC n a (.b V.now.row):=λ{_ _ _} e=>az (((UM.trans TW).trans e).some mr)
 by_cases hlt:k<L.length
 ·have e3:=dM hlt;have e5:=wrapN (n:=k) Om;have ix:=hr.c8 (kk:=.i64) hlt;have ld:∀{k'},Ext h' k'->ao (some 2) (cI rs 2 k) (λb=>k'[b]?)=some (.agg (fS L[k]),.ar):=λ{k'} e=>hr.gS hlt ((UM.trans TW).trans e)
  have iy:=UH k hlt;have ly:∀{k'},Ext h' k'->ao none (cI x.sn 1 k) (λb=>k'[b]?)=some (.str (aP x.ev k),.ar):=λ{k'} e=>hld k hlt k' ((hx3.trans TW).trans e)
  have hd:L.drop k=L[k]::L.drop (k+1):=Si
  obtain⟨r,Vv⟩:∃r,r=L[k]:=⟨_,rfl⟩;have Wh:r.1<6:=by rw[Vv];exact XQ _ (Zb _)
  rw[hd,<-Vv,mO]at hu;rw[<-Vv,fS]at ld;cases SN:r.2 with
  |false=>
   rw[SN]at ld hu;refine Rs (o8 t3 t6 t7 t56 t57 t58 e3 ix @ld e5) ?_;exact JE
  |true=>
   rw[SN]at ld hu;refine Rs (AY t3 t6 t7 t56 t57 t58 e3 ix @ld @iy @ly @le @lr @aG @aN) ?_;refine WF.ce T.c86 (r86 T ((on.ext (hx3.trans TW)).ext Xx) wn.len Wh _) λg3=>?_
   cases hh:dX V.now.an r.1 (aP x.ev k)with
   |true=>
    rw[hh]at hu;refine Rs (A8 t3 t6 t7 t56 t57 t58 @Zw e5) ?_;exact JE
   |false=>
    rw[hh]at hu;have hu1:mO V.now.an x.ev L 0=true:=by rw[hu];rfl
    refine Rs (A7 t3 t6 t7 t56 t57 t58 @Zz) ?_;refine⟨(hx3.trans TW).trans Xx,?_⟩;have e6:kW d V.now.an x.ev=10:=by rw[kW,<-hL,Zh hu1]
    rw[e6,Zh De]
 ·have e3:=eC hlt;have e4:k=L.length:=Om
  have UE:mO V.now.an x.ev L 0=false:=by rw[hu,e4,Z2];rfl
  have lk2:∀{k' n a'},Ext h' k'->ao n (.ptr kb a') (λz=>k'[z]?)=dC n a' (.b [rs,.i (cE d:Int),j7 d,pA d,a]):=λ{_ _ _} e=>lk (TW.trans e)
  refine Rs (A9 t3 t6 t7 t56 t57 t58 e3 @lk2 hr.aH) ?_;have hrH:aK h' rs 2 (L.map fS):=hr.ext (UM.trans TW);refine WL.inv T.mix (λm ts Xm=>∃k:Nat,k<=L.length/\m=L.length-k/\Ext h' Xm/\qO V.now.an x.ev L 0=qO V.now.an x.ev (L.drop k) k/\ts.length=106/\slot ts 3=.ptr eb 0/\slot ts 6=.ptr rb 0/\slot ts 7=.ptr kb 0/\slot ts 79=rs/\slot ts 80=.i L.length/\slot ts 81=.i k) L.length
   ⟨0,Om,rfl,.refl _,rfl,Sn,(Sq t3),(Sq t6),(Sq t7),Sw,Sw,fV⟩ ?_
  clear t3 t6 t7 t56 t57 t58 hlen le lr lk2 e3 e4 hu lk;clear hlt hk ts k;rintro _ ts Xm ⟨k,hk,rfl,WA,hu,hlen,t3,t6,t7,t79,t80,t81⟩;have le:∀{k' n a},Ext Xm k'->ao n (.ptr eb a) (λz=>k'[z]?)=dC n a (.b x.row):=λ{_ _ _} e=>az ((((UM.trans TW).trans WA).trans e).some me)
  have lr:∀{k' n a},Ext Xm k'->ao n (.ptr rb a) (λz=>k'[z]?)=dC n a (.b V.now.row):=λ{_ _ _} e=>az ((((UM.trans TW).trans WA).trans e).some mr)
  have lk2:∀{k' n a'},Ext Xm k'->ao n (.ptr kb a') (λz=>k'[z]?)=dC n a' (.b [rs,.i (cE d:Int),j7 d,pA d,a]):=λ{_ _ _} e=>az (((TW.trans WA).trans e).some mk)
  by_cases hlt:k<L.length
  ·have e3:=dM hlt;have e5:=wrapN (n:=k) Om;have ix:=hr.c8 (kk:=.i64) hlt;have ld:∀{k'},Ext Xm k'->ao (some 2) (cI rs 2 k) (λb=>k'[b]?)=some (.agg (fS L[k]),.ar):=λ{k'} e=>hrH.gS hlt (WA.trans e)
   have iy:=UH k hlt;have ly:∀{k'},Ext Xm k'->ao none (cI x.sn 1 k) (λb=>k'[b]?)=some (.str (aP x.ev k),.ar):=λ{k'} e=>hld k hlt k' (((hx3.trans TW).trans WA).trans e)
   have hd:L.drop k=L[k]::L.drop (k+1):=Si
   obtain⟨r,Vv⟩:∃r,r=L[k]:=⟨_,rfl⟩;have Wh:r.1<6:=by rw[Vv];exact XQ _ (Zb _)
   rw[hd,<-Vv,qO]at hu;rw[<-Vv,fS]at ld;cases SN:r.2 with
   |true=>
    rw[SN]at ld hu;refine Rs (mN t3 t6 t7 t79 t80 t81 e3 ix @ld e5 @Zw) ?_;exact z183
   |false=>
    rw[SN]at ld hu;refine Rs (GH t3 t6 t7 t79 t80 t81 e3 ix @ld @iy @ly @le @lr @aG @aN @Zz) ?_;refine WF.ce T.c86 (r86 T ((on.ext ((hx3.trans TW).trans WA)).ext Xx) wn.len Wh _) λg3=>?_
    cases hh:dX V.now.an r.1 (aP x.ev k)with
    |false=>
     rw[hh]at hu;refine Rs (A7 t3 t6 t7 t79 t80 t81 e5) ?_;exact z183
    |true=>
     rw[hh]at hu;have hu1:qO V.now.an x.ev L 0=true:=by rw[hu];rfl
     refine Rs (A6 t3 t6 t7 t79 t80 t81) ?_;refine⟨((hx3.trans TW).trans WA).trans Xx,?_⟩;have e6:kW d V.now.an x.ev=9:=by rw[kW,<-hL,Za (by rw[UE];decide),Zh hu1]
     rw[e6,Zh De]
  ·have e3:=eC hlt;have e4:k=L.length:=Om
   have Yk:qO V.now.an x.ev L 0=false:=by rw[hu,e4,Z2];rfl
   have e6:kW d V.now.an x.ev=0:=by rw[kW,<-hL,Za (by rw[UE];decide),Za (by rw[Yk];decide)]
   rw[e6,Za De];have Wd:=(hx3.trans TW).trans WA;refine Rs (pe t3 t6 t7 t79 t80 t81 e3 @lk2 @lr @le @aG @bR) ?_;refine WF.val (PD T h2 ⟨on.ext Wd,wn,ox.ext Wd,wx,yS e6⟩ (gl.ext Wd)) ?_;rintro _ g4 rfl;refine Rs t3 ?_;exact⟨Wd.trans Xx,trivial⟩
end
def Jn(B h0:ah)(b:Nat)(V:HV)(e:eD)(v:AV)(k:ah):Prop:=∃g' V',k=B++g'/\v=.i (eS V.bV e)/\cH B.length (B++g') b V'/\V'.bV=(if eS V.bV e=0 then kM V.bV e else V.bV)/\(∀i,i<h0.length->some i∉V.ex b->(B++g')[i]? =h0[i]?)/\∀j,some j∈V'.ex b->some j∈V.ex b\/h0.length<=j
def Jn.no{B g g1 b V e}(o:cH B.length (B++g) b V)(h:eS V.bV e≠0){n}(hn:n=eS V.bV e):Jn B (B++g) b V e (.i n) (B++g++g1):=
 ⟨g++g1,V,by rw[YV],by rw[hn],by rw[<-YV];exact o.app _,by rw[Za h],λi hi _=>by rw[<-YV,YY hi],λj hj=>.inl hj⟩
def bh.Di{h x}(o:bh h x){M}:yl 5 1 (eV [.i 0,.str [],.af,.af,.str []] [(0,5,.agg x.row)]) M=some (.slice M 0 1 5,.push (.cells x.row true true)):=yk (c:=x.row) o.row rfl De
def aB.Di{h V}(o:aB h V){M}:yl 7 1 (eV [.i 0,.af,.af,.af,.af,.af,.af] [(0,7,.agg V.row)]) M=some (.slice M 0 1 7,.push (.cells V.row true true)):=yk (c:=V.row) o.row rfl De
theorem bh.fL{h x}(o:bh h x){ex}(h1:∀j,sB x.sn=some j->some j∉ex)(h2:∀j,sB x.sv=some j->some j∉ex):bh (Go.Abs.fL ex h) x:=⟨o.n.fL h1,o.v.fL h2⟩
theorem aB.fL{h V}(o:aB h V){ex}(hx:∀j,some j∈V.bl->some j∉ex):aB (Go.Abs.fL ex h) V:=by
 have m6:∀x∈[sB V.s0,sB V.s1,sB V.s2,sB V.s3,sB V.s4,sB V.s5],x∈V.bl:=λx hx=>by simp only[RV.bl,Y8];exact .inl (.inl (.inl hx))
 refine⟨o.i0.fL λb hb=>hx b (hb▸m6 _ Si),o.i1.fL λb hb=>hx b (hb▸m6 _ Si),o.i2.fL λb hb=>hx b (hb▸m6 _ Si),o.i3.fL λb hb=>hx b (hb▸m6 _ Si),o.i4.fL λb hb=>hx b (hb▸m6 _ Si),o.i5.fL λb hb=>hx b (hb▸m6 _ Si),
  λx hx1=>(o.e2 x hx1).fL λb hb=>hx b ?_,λx hx1=>(o.e3 x hx1).fL λb hb=>hx b ?_,λx hx1=>(o.e4 x hx1).fL λb hb=>hx b ?_⟩
 ·simp only[RV.bl,Y8,ZB];exact .inl (.inl (.inr ⟨x,hx1,hb⟩))
 ·simp only[RV.bl,Y8,ZB];exact .inl (.inr ⟨x,hx1,hb⟩)
 ·simp only[RV.bl,Y8,ZB];exact .inr ⟨x,hx1,hb⟩
def rG{a b c d}:k8 [a,b,c,d]↔(∀i,a=some i->b≠some i/\c≠some i/\d≠some i)/\(∀i,b=some i->c≠some i/\d≠some i)/\∀i,c=some i->d≠some i:=by
 simp only[k8,Z3,ZG,Z0,aay,forall_eq_or_imp,forall_eq,List.Pairwise.nil,and_true,false_implies,implies_true];constructor
 ·rintro⟨⟨h1,h2,h3⟩,⟨h4,h5⟩,h6⟩;exact⟨λi hi=>⟨h1 i hi,h2 i hi,h3 i hi⟩,λi hi=>⟨h4 i hi,h5 i hi⟩,h6⟩
 ·rintro⟨h1,h2,h3⟩;exact⟨⟨λi hi=>(h1 i hi).1,λi hi=>(h1 i hi).2.1,λi hi=>(h1 i hi).2.2⟩,⟨λi hi=>(h2 i hi).1,λi hi=>(h2 i hi).2⟩,h3⟩
def DW{B h:ah}(hl:B.length<=h.length)(hk:∀i,i<B.length->h[i]? =B[i]?):∃g,h=B++g:=by
 refine⟨h.drop B.length,abi λi=>?_⟩;by_cases hi:i<B.length
 ·rw[hk i hi,YY hi]
 ·exact z141
def vh{B h:ah}{b:Nat}{X:ak}(hN:B.length<=b)(hh:∃g,h=B++g):∃g,h.set b X=B++g:=by
 obtain⟨g,rfl⟩:=hh;exact⟨_,ZY _ _ hN⟩
def bY.tk{B g b V}(r:bY B.length (B++g) b V)(t:Int):∃g',(B++g).set b (.b (V.row.set 0 (.i t)))=B++g'/\bY B.length (B++g') b {V with tick:=t}:=by
 obtain⟨h1,h2,h3⟩:=nA (.b (V.row.set 0 (.i t))) r.hN r.m;refine⟨_,h1,?_,r.hN,h2,r.ne⟩;have:=r.o.ar (k:=B++g.set (b-B.length) (.b (V.row.set 0 (.i t)))) λi hi=>h3 i λe=>r.ne (e▸hi)
 exact⟨this.i0,this.i1,this.i2,this.i3,this.i4,this.i5,this.e2,this.e3,this.e4,this.di⟩
section
variable {N b:Nat}{h h':ah}{V:HV}
def cH.lt(o:cH N h b V):b<h.length:=(YU.1 o.hb).1
def cH.Cs(o:cH N h b V){j}(hj:some j∈V.ex b):j<h.length:=by
 simp only[HV.ex,ZG,Z0,aay,Zy]at hj;rcases hj with hj|hj|hj|hj
 ·rw[hj];exact o.lt
 ·exact(o.oe.bP hj.symm).2
 ·exact(o.oc.bP hj.symm).2
 ·exact(o.og.bP hj.symm).2
def cH.QZ(o:cH N h b V){s' x'}(hk:∀i,i<h.length->sB V.se≠some i->i≠b->h'[i]? =h[i]?)(hs:Ow N h' s' 5 ((V.dm++[x']).map EV.row))(hb:h'[b]? =some (.b [s',V.sc,V.sr]))
  (hn:∀i,sB s' =some i->h.length<=i) (hx:bh (fL (V.ex b) h) x'):cH N h' b {V with dm:=V.dm++[x'],se:=s'}:=by
 obtain⟨d1,d2,d3⟩:=rG.1 o.di;have hbl:=o.lt;have hsub:jr (fL (V.ex b) h) (fL ({V with dm:=V.dm++[x'],se:=s'}.ex b) h'):=by
  refine nG (λi hi hne=>hk i hi (λe=>hne (by simp[HV.ex,e])) (λe=>hne (by simp[HV.ex,e]))) λi hi hm=>?_
  simp only[HV.ex,ZG,Z0,aay,Zy]at hm ⊢;rcases hm with hm|hm|hm|hm
  ·exact .inl hm
  ·have:=hn i hm.symm;omega
  ·exact .inr (.inr (.inl hm))
  ·exact .inr (.inr (.inr hm))
 refine⟨o.hN,hb,hs,o.oc.aD λi hi=>?_,o.og.aD λi hi=>?_,rG.2 ⟨λi hi=>?_,λi hi=>?_,d3⟩,λx hx1=>?_,λx hx1=>(o.ac x hx1).sub hsub,λx hx1=>(o.ag x hx1).sub hsub,o.lo⟩
 ·exact hk i (o.oc.bP hi).2 (λe=>(d2 i e).1 hi) (λe=>(d1 b rfl).2.1 (by rw[<-e];exact hi))
 ·exact hk i (o.og.bP hi).2 (λe=>(d2 i e).2 hi) (λe=>(d1 b rfl).2.2 (by rw[<-e];exact hi))
 ·cases hi;exact⟨λe=>by have:=hn b e;omega,(d1 b rfl).2⟩
 ·have h1:=hn i hi;exact⟨λe=>by have:=(o.oc.bP e).2;omega,λe=>by have:=(o.og.bP e).2;omega⟩
 ·rcases Y8.1 hx1 with hx1|hx1
  ·exact(o.ae x hx1).sub hsub
  ·rw[Zj]at hx1;rw[hx1];exact hx.sub hsub
def cH.QY(o:cH N h b V){Sa Sx n m}(hk:∀i,i<h.length->i≠b->h'[i]? =h[i]?)(hc:Ow N h' Sa 5 ((V.fe.take n).map EV.row))(hr:Ow N h' Sx 7 ((V.cC.take m).map RV.row))(hb:h'[b]? =some (.b [V.se,Sa,Sx]))
  (nc:sB Sa=sB V.sc) (nr:sB Sx=sB V.sr):cH N h' b {V with fe:=V.fe.take n,cC:=V.cC.take m,sc:=Sa,sr:=Sx}:=by
 obtain⟨d1,d2,d3⟩:=rG.1 o.di;have he:{V with fe:=V.fe.take n,cC:=V.cC.take m,sc:=Sa,sr:=Sx}.ex b=V.ex b:=by simp only[HV.ex,nc,nr]
 have hsub:jr (fL (V.ex b) h) (fL ({V with fe:=V.fe.take n,cC:=V.cC.take m,sc:=Sa,sr:=Sx}.ex b) h'):=by
  rw[he];exact nG (λi hi hne=>hk i hi (λe=>hne (by simp[HV.ex,e]))) λi hi hm=>hm
 refine⟨o.hN,hb,o.oe.aD λi hi=>hk i (o.oe.bP hi).2 (λe=>(d1 b rfl).1 (by rw[<-e];exact hi)),hc,hr,by rw[he];exact o.di,λx hx1=>(o.ae x hx1).sub hsub,λx hx1=>(o.ac x (Z8 hx1)).sub hsub,λx hx1=>(o.ag x (Z8 hx1)).sub hsub,λx hx1=>o.lo x (Z8 hx1)⟩
def cH.Q0(o:cH N h b V){Sa Sx x' R'}(hk:∀i,i<h.length->sB V.sc≠some i->sB V.sr≠some i->i≠b->h'[i]? =h[i]?)(hc:Ow N h' Sa 5 ((V.fe++[x']).map EV.row))(hr:Ow N h' Sx 7 ((V.cC++[R']).map RV.row))(hb:h'[b]? =some (.b [V.se,Sa,Sx]))
  (nc:∀i,sB Sa=some i->h.length<=i) (nr:∀i,sB Sx=some i->h.length<=i) (ncr:∀i,sB Sa=some i->sB Sx≠some i) (hx:bh (fL (V.ex b) h) x') (hR:aB (fL (V.ex b) h) R') (hlo:∀j,some j∈R'.bl->N<=j):cH N h' b {V with fe:=V.fe++[x'],cC:=V.cC++[R'],sc:=Sa,sr:=Sx}:=by
 obtain⟨d1,d2,d3⟩:=rG.1 o.di;have hbl:=o.lt;have hsub:jr (fL (V.ex b) h) (fL ({V with fe:=V.fe++[x'],cC:=V.cC++[R'],sc:=Sa,sr:=Sx}.ex b) h'):=by
  refine nG (λi hi hne=>hk i hi (λe=>hne (by simp[HV.ex,e])) (λe=>hne (by simp[HV.ex,e])) (λe=>hne (by simp[HV.ex,e]))) λi hi hm=>?_
  simp only[HV.ex,ZG,Z0,aay,Zy]at hm ⊢;rcases hm with hm|hm|hm|hm
  ·exact .inl hm
  ·exact .inr (.inl hm)
  ·have:=nc i hm.symm;omega
  ·have:=nr i hm.symm;omega
 refine⟨o.hN,hb,o.oe.aD λi hi=>?_,hc,hr,rG.2 ⟨λi hi=>?_,λi hi=>?_,ncr⟩,λx hx1=>(o.ae x hx1).sub hsub,λx hx1=>?_,λx hx1=>?_,λx hx1=>?_⟩
 ·exact hk i (o.oe.bP hi).2 (λe=>(d2 i hi).1 e) (λe=>(d2 i hi).2 e) (λe=>(d1 b rfl).1 (by rw[<-e];exact hi))
 ·cases hi;exact⟨(d1 b rfl).1,λe=>by have:=nc b e;omega,λe=>by have:=nr b e;omega⟩
 ·have h1:=(o.oe.bP hi).2;exact⟨λe=>by have:=nc i e;omega,λe=>by have:=nr i e;omega⟩
 ·rcases Y8.1 hx1 with hx1|hx1
  ·exact(o.ac x hx1).sub hsub
  ·rw[Zj]at hx1;rw[hx1];exact hx.sub hsub
 ·rcases Y8.1 hx1 with hx1|hx1
  ·exact(o.ag x hx1).sub hsub
  ·rw[Zj]at hx1;rw[hx1];exact hR.sub hsub
 ·rcases Y8.1 hx1 with hx1|hx1
  ·exact o.lo x hx1
  ·rw[Zj]at hx1;rw[hx1];exact hlo
end
section
variable {P:Program}(T:fA P)
include T
def LW{B g:ah}{V:HV}{b:Nat}{x:EV}(o:cH B.length (B++g) b V)(w:kN V.bV)(hl:V.dm.length<1000)(ox:bh (B++g) x)(hxl:x.ev.names.length<=2^40/\x.ev.cB.length<=2^40)(gl:Gl B):
  dh P 112 [.ptr b 0,.agg x.row] (B++g) (λv k=>Jn B (B++g) b V x.ev v k):=by
 have hcl:V.fe.length<=V.dm.length:=by have:=w.le;simpa [HV.bV]using this
 have Tj:V.cC.length=V.fe.length:=by have:=w.ln;simpa [HV.bV]using this
 refine .eF 94 T.mix T.c112 ?_;intro ts hlen t0 t1;unfold fn112;have Rz:=@bh.box _ _ ox;have gl':Gl (B++g):=gl.ext ⟨g,rfl⟩;refine Rs (A4 t0 t1 @Rz @bR) ?_;refine WF.ce T.c67 (r67 T (ox.ext Xx) hxl) λg1=>?_
 by_cases h1:eG x.ev=0
 case neg=>
  have q1:decide (eG x.ev≠0)=true:=Y5 h1;refine Rs (A3 t0 t1 q1) ?_;have e:eS V.bV x.ev=eG x.ev:=by rw[eS,Zh h1]
  rw[YV (B++g)];exact Jn.no o (by rw[e];exact h1) e.symm
 have q1:decide (eG x.ev≠0)=false:=YW (λz=>z h1);obtain⟨d,wx⟩:=rJ h1;have eb:eS V.bV x.ev=jv V.bV x.ev:=by rw[eS,Za (λz=>z h1)]
 refine Rs (A4 t0 t1 q1 @bR) ?_;refine WF.ce T.c116 (r116 T (d:=d) (o.rd.ext Xx) w Om (ox.ext Xx) wx (gl'.ext Xx)) λg2=>?_
 by_cases h2:jv V.bV x.ev=0
 case neg=>
  have q2:decide (jv V.bV x.ev≠0)=true:=Y5 h2;refine Rs (A3 t0 t1 q2) ?_;rw[YV (B++g),YV (B++g)];exact Jn.no o (by rw[eb];exact h2) eb.symm
 have q2:decide (jv V.bV x.ev≠0)=false:=YW (λz=>z h2);rw[<-eb]at h2;refine Rs (A4 t0 t1 q2 @bR) ?_;refine WF.res T.c91 (r91 T x (ox.ext Xx) hxl) ?_;rintro _ g3 ⟨x',RI,rfl,fn,fv⟩;have Xq:bh _ x':=⟨by rw[RI];exact fn.aW,by rw[RI];exact fv.aW⟩;have st:∀{b':Nat},km 5 0 (.agg x'.row) b' (.b x.row)=some (ay,.set b' (.b x'.row)):=λ{_}=>Xq.st
 refine Rs (A3 t0 t1 @st) ?_;obtain⟨H,hH⟩:∃H,H=B++g++[ak.b x'.row]++g1++g2++g3:=⟨_,rfl⟩;have hHg:∃gH,H=B++gH:=⟨_,by rw[hH];simp only[YV];rfl⟩;obtain⟨gH,hHB⟩:=hHg;have hex:Ext (B++g) H:=by rw[hH];exact Xx
 have oH:cH B.length H b V:=by obtain⟨z,hz⟩:=hex;rw[hz];exact o.app z
 have ar:∀j,(B++g).length+1<=j->H[j]? =(B++g++[ak.b x.row]++g1++g2++g3)[j]? :=λj hj=>by
  rw[hH];simp only[YV];have e:∀C:ak,(B++(g++([C]++(g1++(g2++g3)))))[j]? =(g1++(g2++g3))[j-B.length-g.length-1]? :=λC=>by
   simp only[YT]at hj;rw[Zd Om,Zd Om,Zd (by simp only[Zt];omega)];rfl
  rw[e,e]
 obtain⟨N,hN⟩:∃N,N=(B++g).length:=⟨_,rfl⟩;have fnl:=λj (hj:sB x'.sn=some j)=>fn.bP hj
 have fvl:=λj (hj:sB x'.sv=some j)=>fv.bP hj
 have Vf:H.length=(B++g++[ak.b x.row]++g1++g2++g3).length:=by rw[hH];simp only[YT,YX,Y6]
 have lnn:∀j,sB x'.sn=some j\/sB x'.sv=some j->(B++g).length+1<=j/\j<H.length:=λj hj=>by
  rw[Vf];rcases hj with hj|hj
  ·have:=fnl j hj;exact Qv
  ·have:=fvl j hj;exact Qv
 have oxH:bh H x':=⟨by rw[RI];exact(fn.aD λj hj=>ar j (lnn j (.inl hj)).1).aW,by rw[RI];exact(fv.aD λj hj=>ar j (lnn j (.inr hj)).1).aW⟩;have eH:H[N]? =some (.b x'.row):=by rw[hH,hN];exact(show Ext (B++g++[ak.b x'.row]) _ from Xx).some a8
 rw[<-hH,<-hN];have hb:=oH.hb;have lb:=@dG _ _ _ hb;have le:=@dG _ _ _ eH;have bs:=@bh.Di _ _ oxH;have dH:=rG.1 oH.di;refine Rs (A6 t0 t1 @lb @le @bR @bs) ?_;refine WR.IG (N:=B.length) (cs:=V.dm.map EV.row) (ys:=[x'.row]) (oH.app _).oe (Fr.push (N:=0) (ZA _) [x'.row] (by intro y hy;rw[Zj]at hy;rw[hy];rfl)).aW (by rw[hHB];simp only[YT];omega) De Si (by simp only[Y7,YX,Y6];omega) ?_;intro h1 W9 Tr hk1;have hrow:V.dm.map EV.row++[x'.row]=(V.dm++[x']).map EV.row:=by rw[Y9];rfl
 rw[hrow]at Tr;rw[hrow];obtain⟨Su,Yr⟩:∃Su,Su=AV.slice (H++[ak.cells x'.row true true]).length 0 ((V.dm++[x']).map EV.row).length 5:=⟨_,rfl⟩;rw[<-Yr]at Tr ⊢;have WT:∀i,sB Su=some i->H.length+1=i:=λi hi=>by rw[Yr]at hi;cases hi;simp
 have ose:Su.one=true:=by rw[Yr];rfl
 have hk1':∀i,i<H.length->sB V.se≠some i->h1[i]? =H[i]? :=λi hi hne=>by rw[hk1 i (by simp;omega) hne,YY hi]
 have hbl:=oH.lt;have RT:sB V.se≠some b:=(dH.1 b rfl).1;have Sb:h1[b]? =some (.b [V.se,V.sc,V.sr]):=(hk1' b hbl RT).trans hb;have sb1:aT 1 (.ptr b 0) Su (λz=>h1[z]?)=some (ay,.set b (.b [Su,V.sc,V.sr])):=by
  rw[aJ Sb];exact bO ose Si
 refine Rs (A2 t0 @sb1) ?_;have hb1l:b<h1.length:=(YU.1 Sb).1;obtain⟨H1,Wu⟩:∃H1,H1=h1.set b (.b [Su,V.sc,V.sr]):=⟨_,rfl⟩;rw[<-Wu];have k1:∀i,i<H.length->sB V.se≠some i->i≠b->H1[i]? =H[i]? :=λi hi n1 n2=>by rw[Wu,Zf (aai n2)];exact hk1' i hi n1
 have m1:H1[b]? =some (.b [Su,V.sc,V.sr]):=by rw[Wu,Zg hb1l]
 have Xt:∀i,i<(B++g).length->some i∉V.ex b->H1[i]? =(B++g)[i]? :=λi hi hn=>by
  rw[k1 i (by rw[Vf];simp only[YT]at hi ⊢;omega) (λe=>hn (by rw[<-e];simp[HV.ex])) (λe=>hn (by rw[e];simp[HV.ex]))];obtain⟨z,hz⟩:=hex;rw[hz,YY hi]
 have hB1:∃g',H1=B++g':=by
  have:=oH.hN;refine⟨H1.drop B.length,?_⟩;refine abi λi=>?_
  by_cases hi:i<B.length
  ·have e2:B.length<=H.length:=by rw[hHB];simp
   have n1:sB V.se≠some i:=λe=>by have:=(oH.oe.bP e).1;omega
   rw[k1 i Om n1 Om,hHB,YY hi,YY hi]
  ·exact z141
 have XL:∀j,some j∈V.ex b->j<(B++g).length:=λj hj=>o.Cs hj
 have oxm:bh (fL (V.ex b) H) x':=oxH.fL (λj hj hm=>by have:=(lnn j (.inl hj)).1;have:=XL j hm;omega) (λj hj hm=>by have:=(lnn j (.inr hj)).1;have:=XL j hm;omega);have U3:cH B.length H1 b {V with dm:=V.dm++[x'],se:=Su}:=oH.QZ k1 (Tr.aD λi hi=>by rw[Wu,Zf (by have:=WT i hi;omega)]) m1 (λi hi=>by have:=WT i hi;omega) oxm;clear Tr hk1 hk1' sb1 hb1l;have owc:Ow B.length H1 V.sc 5 (V.fe.map EV.row):=U3.oc;have owr:Ow B.length H1 V.sr 7 (V.cC.map RV.row):=U3.og;obtain⟨V1,Ux⟩:∃V1:HV,V1={V with dm:=V.dm++[x'],se:=Su}:=⟨_,rfl⟩;rw[<-Ux]at U3;have eN:H1[N]? =some (.b x'.row):=(k1 N (by rw[Vf,hN];simp only[YT,YX];omega) (λe=>by have:=(o.oe.bP e).2;omega) (by have:=o.lt;omega)).trans eH
 have oxm1:bh (fL (V1.ex b) H1) x':=U3.ae x' (by rw[Ux];simp);have Tu:bh H1 x':=oxm1.sub (jr.fL _ _);obtain⟨gH1,hB1⟩:=hB1;have lb1:=@dG _ _ _ m1;have le1:=@dG _ _ _ eN;have hkx:x'.ev.kind=x.ev.kind:=by rw[RI]
 have RK:ju x.ev=d:=by rw[ju,wx.kd];rfl
 by_cases h5:d=.eZ
 ·have q5:decide (x.ev.kind=[117,110,100,111])=true:=Y5 (by rw[cA wx.kd,h5];rfl);refine Rs (A7 t0 @le1 @bC @hkx q5 @lb1 owc.aW.aH) ?_;have hne:V.fe≠[]:=λe=>by
   rw[eb,jv,RK,Zh h5,show V.bV.fe.getLast? =none by simp[HV.bV,e]]at h2;split at h2<;>exact absurd h2 De
  have hcp:0<V.fe.length:=aaU.2 hne;have e2:IntKind.i64.wrap ((V.fe.length:Int)-1)=((V.fe.length-1:Nat):Int):=by rw[bz Om Om];omega
  obtain⟨Sa,c1,c2,c3⟩:=owc.cut (n:=V.fe.length-1) Si (k:=.i64);obtain⟨Sx,r1,r2,r3⟩:=owr.cut (n:=V.fe.length-1) (by simp;omega) (k:=.i64);refine Rs (A5 t0 e2 @lb1 @c1 @r1) ?_;have osc:Sa.one=true:=c3.aW.one;have osr:Sx.one=true:=r3.aW.one;have sA:aT 1 (.ptr b 1) Sa (λz=>H1[z]?)=some (ay,.set b (.b [Su,Sa,V.sr])):=by
   rw[aJ m1];exact bO osc Si
  have hbl1:b<H1.length:=U3.lt;have m2:(H1.set b (.b [Su,Sa,V.sr]))[b]? =some (.b [Su,Sa,V.sr]):=Zg hbl1;have sB2:aT 1 (.ptr b 2) Sx (λz=>(H1.set b (.b [Su,Sa,V.sr]))[z]?)=some (ay,.set b (.b [Su,Sa,Sx])):=by
   rw[aJ m2];exact bO osr Si
  refine Rs (A3 t0 @sA @sB2) ?_;rw[List.set_set];obtain⟨gz,hz⟩:=vh (X:=.b [Su,Sa,Sx]) U3.hN ⟨_,hB1⟩;have kz:∀i,i≠b->(H1.set b (.b [Su,Sa,Sx]))[i]? =H1[i]? :=λi hi=>Zf (aai hi)
  have d1:=rG.1 U3.di;have d2:=rG.1 o.di;have hfr:∀i,i<(B++g).length->some i∉V.ex b->(B++gz)[i]? =(B++g)[i]? :=λi hi hn=>by
   rw[<-hz,kz i (λe=>hn (by rw[e];simp[HV.ex])),Xt i hi hn]
  refine⟨gz,{V1 with fe:=V1.fe.take (V.fe.length-1),cC:=V1.cC.take (V.fe.length-1),sc:=Sa,sr:=Sx},hz,by rw[h2],?_,?_,hfr,λj hj=>?_⟩
  ·rw[<-hz];subst Ux;rw[<-List.map_take]at c3 r3;refine U3.QY (λi _ hi=>kz i hi) (c3.aD λi hi=>kz i λe=>?_) (r3.aD λi hi=>kz i λe=>?_) (Zg hbl1) c2 r2
   ·rw[c2]at hi;exact(d2.1 b rfl).2.1 (by rw[hi,e])
   ·rw[r2]at hi;exact(d2.1 b rfl).2.2 (by rw[hi,e])
  ·rw[Zh h2,kM,RK,Zh h5,Ux];simp only[HV.bV,Y9,List.map_take,ZX,aaC,RI,List.dropLast_eq_take,Y7,Tj]
  ·subst Ux;simp only[HV.ex,ZG,Z0,aay,Zy]at hj ⊢;rcases hj with hj|hj|hj|hj
   ·exact .inl (.inl hj)
   ·have:=WT j hj.symm;exact .inr (by rw[Vf]at this;simp only[YT]at this ⊢;omega)
   ·rw[c2]at hj;exact .inl (.inr (.inr (.inl hj)))
   ·rw[r2]at hj;exact .inl (.inr (.inr (.inr hj)))
 have q5:decide (x.ev.kind=[117,110,100,111])=false:=YW λz=>h5 (by
  have:=wx.kd;rw[z]at this;exact(ZZ ((lV .eZ).symm.trans this)).symm)
 refine Rs (A5 t0 @le1 @bC @hkx q5) ?_;have Vx:V1.now=V.now:=by rw[Ux];rfl
 have rd1:=U3.rd;have wn:ee V1.now.an:=by rw[Vx,V.jD];exact w.now
 refine WF.ce T.c79 (r79 T rd1 (by rw[Ux];show V.cC.length<=1000;omega)) λg4=>?_
 refine Rs t0 ?_;refine WF.res T.c96 (r96 T (rd1.now.ext Xx) wn) ?_;rintro _ g5 ⟨VN,XN,rfl,own⟩;have stN:∀{b':Nat}{a0 a1 a2 a3 a4 a5 a6:AV},km 7 0 (.agg VN.row) b' (.b [a0,a1,a2,a3,a4,a5,a6])=some (ay,.set b' (.b VN.row)):=λ{_ _ _ _ _ _ _ _}=>own.ok.st
 repeat (first|simp (config:={maxSteps:=1000000}) only[aO,aQ,aY,aZ,reduceAdd,reduceMul,reduceLeDiff,reduceEqDiff,ba,hlen,Zi,Zk,t0,stN]|simp (config:={maxSteps:=1000000}) (disch:=first|(simp only[YT,YX,Y6]<;>omega)|rfl|omega|fail) only[dP,aO,aQ,aY,aZ,reduceAdd,reduceMul,reduceLeDiff,reduceEqDiff,ba,hlen,Zi,Zk,t0,stN])
 refine WF.res T.c90 (r90 T) ?_;rintro _ g6 ⟨vf,rfl,hk⟩;obtain⟨hx3,VK⟩:∃z,z=H1++g4++g5++[ak.b VN.row]:=⟨_,rfl⟩;rw[<-VK]at hk ⊢;have lk:∀{z:AV},iw .s z false (.map hx3.length) (.str x.ev.kind) (λb=>(hx3++g6)[b]?)=lC z false ((gO x.ev.kind).map vf):=hk.look;rw[wx.kd]at lk;have Sh:∀{z:AV},_=some (vf d,iI.ar):=@lk;obtain⟨rs,a,hv,hr,ha,hab⟩:=(hk.k d).ex;rw[hv]at Sh;have e1x:Ext H1 (hx3++g6):=by rw[VK];exact Xx
 have le2:∀{k n a},Ext (hx3++g6) k->ao n (.ptr N a) (λz=>k[z]?)=dC n a (.b x'.row):=λ{_ _ _} e=>le1 (e1x.trans e)
 have cd:=lE d;obtain⟨rb,WJ⟩:∃rb,rb=(H1++g4++g5).length:=⟨_,rfl⟩;rw[<-WJ];refine Rs (A8 t0 @le2 @bC @hkx @bW @Sh @cd @bR) ?_;have Ur:gQ V.bV.now x.ev d=0:=by
  rw[eb,jv,RK,Za h5]at h2;split at h2
  ·exact absurd h2 De
  ·exact h2
 have Tw:x.ev.num=(V.bV.dm.length:Int)+1:=by
  rw[eb,jv]at h2;split at h2
  ·exact absurd h2 De
  case isFalse hh=>exact aaP.1 hh
 have hVR:VN.an=V.bV.now:=by rw[XN,Vx,V.jD]
 have RX:¬bF x.ev 0<V.bV.now.tick:=λz=>by rw[gQ,Zh z]at Ur;exact absurd Ur De
 have Vy:kW d V.bV.now x.ev=0:=by
  rw[gQ,Za RX]at Ur;split at Ur
  case isTrue hh=>exact absurd Ur hh
  case isFalse hh=>exact aaP.1 hh
 have Ta:bD V.bV.now x.ev d=0:=by rw[gQ,Za RX,Za (by rw[Vy];decide)]at Ur;exact Ur
 obtain⟨G,hG⟩:=e1x;have hGl:H1.length<=rb/\rb<(H1++G).length:=by
  rw[<-hG,VK,WJ];simp only[YT,YX,Y6];omega
 have rbk:bY H1.length (H1++G) rb VN:=by
  have:=(((own.app [ak.b VN.row]).app g6).low (M:=H1.length) Si);rw[<-VK,hG]at this;refine⟨this,hGl.1,?_,λhb'=>?_⟩
  ·rw[<-hG,VK,WJ];exact(Ext.app _ (Ext.refl _)).some a8
  ·have:=(own.dR hb').2;omega
 have glG:Gl (H1++G):=(gl.ext ⟨_,hB1⟩).ext ⟨_,rfl⟩;have cx:Cx (H1++G) VN x' d:=⟨rbk.o.ok,by rw[XN];exact wn,Tu.ext ⟨_,rfl⟩,by rw[RI];exact wx,by rw[hVR,RI];exact yS Vy⟩;rw[hG];refine Fz T h5 rbk cx (by rw[hVR,RI];exact Ta) glG ?_;rintro _ _ ⟨g7,V7,rfl,r7,hr7⟩;have e17:Ext H1 (H1++g7):=⟨_,rfl⟩;have le3:∀{k n a},Ext (H1++g7) k->ao n (.ptr N a) (λz=>k[z]?)=dC n a (.b x'.row):=λ{_ _ _} e=>le1 (e17.trans e)
 have Sy:0<x'.ev.cB.length:=by rw[RI,wx.vl];cases d<;>first|exact absurd rfl h5|decide
 have qx:bf 1 x'.sv (.i 0)=some (cI x'.sv 1 0,.ar):=Tu.v.qx Sy;have ld0:∀{k':ah},Ext (H1++g7) k'->ao none (cI x'.sv 1 0) (λb=>k'[b]?)=some (.i (bF x.ev 0),.ar):=λ{k'} e=>by
  have ev0:bF x.ev 0=x'.ev.cB[0]:=by rw[<-RI,bF,ZK,YZ Sy];rfl
  rw[ev0];exact Tu.v.kS Sy rfl (e17.trans e)
 have s7:aT 1 (.ptr rb 0) (.i (bF x.ev 0)) (λz=>(H1++g7)[z]?)=some (ay,.set rb (.b (V7.row.set 0 (.i (bF x.ev 0))))):=iE r7.m rfl De;obtain⟨g8,hg8,r8⟩:=r7.tk (bF x.ev 0);refine Rs (A6 t0 @le3 @bd @qx @ld0 @s7) ?_;rw[hg8];obtain⟨V8,hV8⟩:∃V8:RV,V8={V7 with tick:=bF x.ev 0}:=⟨_,rfl⟩;rw[<-hV8]at r8;have hr8:V8.an=jZ V.bV.now x.ev d:=by
  rw[hV8,jZ,<-hVR];have:du VN.an x.ev d=V7.an:=by rw[hr7,RI]
  rw[this];rfl
 clear s7 le2 le3 ld0 Sh lk hk;have Wy:cH B.length (H1++g8) b V1:=U3.app g8;have e18:Ext H1 (H1++g8):=⟨_,rfl⟩;have lb2:∀{k n a},Ext (H1++g8) k->ao n (.ptr b a) (λz=>k[z]?)=dC n a (.b [Su,V.sc,V.sr]):=λ{_ _ _} e=>lb1 (e18.trans e)
 have le2:∀{k n a},Ext (H1++g8) k->ao n (.ptr N a) (λz=>k[z]?)=dC n a (.b x'.row):=λ{_ _ _} e=>le1 (e18.trans e)
 have lr2:=@dG _ _ _ r8.m;have bs1:=@bh.Di _ _ Tu;have bs2:=@aB.Di _ _ r8.o.ok;obtain⟨H2,VW⟩:∃H2,H2=H1++g8:=⟨_,rfl⟩;have m2:H2[b]? =some (.b [Su,V.sc,V.sr]):=by rw[VW];exact e18.some m1
 have e2:H2[N]? =some (.b x'.row):=by rw[VW];exact e18.some eN
 have r2m:H2[rb]? =some (.b V8.row):=by rw[VW];exact r8.m
 have hB2:∃g',H2=B++g':=⟨_,by rw[VW,hB1,YV]⟩;rw[<-VW]at r8 Wy ⊢;have Yd:Ow B.length H2 V.sc 5 (V.fe.map EV.row):=by have:=Wy.oc;rw[Ux]at this;exact this
 have Wx:Ow B.length H2 V.sr 7 (V.cC.map RV.row):=by have:=Wy.og;rw[Ux]at this;exact this
 have d1:=rG.1 U3.di;have d1b:sB V.sc≠some b/\sB V.sr≠some b:=by have:=(d1.1 b rfl).2;rw[Ux]at this;exact this
 have d1c:∀i,sB V.sc=some i->sB V.sr≠some i:=by have:=d1.2.2;rw[Ux]at this;exact this
 have hBl:B.length<=H2.length:=by obtain⟨z,hz⟩:=hB2;rw[hz];simp
 refine oT (λh=>h[b]? =some (.b [Su,V.sc,V.sr])/\h[N]? =some (.b x'.row)/\h[rb]? =some (.b V8.row)) ?_;have hS:(λh:ah=>h[b]? =some (.b [Su,V.sc,V.sr])/\h[N]? =some (.b x'.row)/\h[rb]? =some (.b V8.row)) H2:=⟨m2,e2,r2m⟩;refine c9 hS rfl rfl ?_;refine Rs t0 ?_;refine c9 hS rfl rfl ?_;refine Rs t0 ?_;refine c9 hS rfl rfl ?_;refine Rs t0 ?_;refine c9 hS rfl rfl ?_;refine Rs t0 ?_;refine c9 hS rfl rfl ?_;refine Rs t0 ?_;refine kU hS (v:=V.sc) (λg hg=>?_) ?_
 ·exact Kc
 refine Rs t0 ?_;refine kU hS (v:=.agg x'.row) (λg hg=>?_) ?_
 ·simp only[aO,aQ,aY,aZ,reduceAdd,reduceMul,reduceLeDiff,reduceEqDiff,ba,hlen,Zi,Zk,t0,az hg.2.1,bR]
 refine Rs t0 ?_;refine c9 hS rfl rfl ?_;refine Rs (A2 t0 @bs1) ?_;have x3:Ext H2 (H2++[ak.cells x'.row true true]):=⟨_,rfl⟩;have hS3:(λh:ah=>h[b]? =some (.b [Su,V.sc,V.sr])/\h[N]? =some (.b x'.row)/\h[rb]? =some (.b V8.row)) (H2++[ak.cells x'.row true true]):=⟨x3.some m2,x3.some e2,x3.some r2m⟩;refine c9 hS3 rfl rfl ?_;refine Rs t0 ?_;refine WR.IG (N:=B.length) (cs:=V.fe.map EV.row) (ys:=[x'.row]) (Yd.aD λi hi=>YY (Yd.bP hi).2) (Fr.push (N:=0) (ZA _) [x'.row] (by intro y hy;rw[Zj]at hy;rw[hy];rfl)).aW (by simp only[YT];omega) De Si (by simp only[Y7,YX,Y6];omega) ?_;intro h4 hl4 hs4 hk4
 have Xz:V.fe.map EV.row++[x'.row]=(V.fe++[x']).map EV.row:=by rw[Y9];rfl
 rw[Xz]at hs4;rw[Xz];obtain⟨Sa,hsc⟩:∃Sa,Sa=AV.slice (H2++[ak.cells x'.row true true]).length 0 ((V.fe++[x']).map EV.row).length 5:=⟨_,rfl⟩;rw[<-hsc]at hs4 ⊢;have hl4':h4.length=H2.length+2:=by rw[hl4];simp
 have WU:∀i,sB Sa=some i->H2.length+1=i:=λi hi=>by rw[hsc]at hi;cases hi;simp
 have osc:Sa.one=true:=by rw[hsc];rfl
 have k4:∀i,i<H2.length->sB V.sc≠some i->h4[i]? =H2[i]? :=λi hi hne=>by rw[hk4 i (by simp;omega) hne,YY hi]
 have hNl:N<H2.length:=(YU.1 e2).1;have Tj:rb<H2.length:=(YU.1 r2m).1;have hbl2:b<H2.length:=(YU.1 m2).1;have Xi:∀j,some j∈V.ex b->j<N:=λj hj=>by rw[hN];exact o.Cs hj
 have ncN:sB V.sc≠some N:=λe=>by have:=Xi N (by rw[<-e];simp[HV.ex]);omega
 have nrN:sB V.sr≠some N:=λe=>by have:=Xi N (by rw[<-e];simp[HV.ex]);omega
 have hNr:N<rb:=by have:=(YU.1 eN).1;omega
 have ncr:sB V.sc≠some rb:=λe=>by have:=Xi rb (by rw[<-e];simp[HV.ex]);omega
 have nrr:sB V.sr≠some rb:=λe=>by have:=Xi rb (by rw[<-e];simp[HV.ex]);omega
 have Xk:(λh:ah=>h[b]? =some (.b [Su,V.sc,V.sr])/\h[N]? =some (.b x'.row)/\h[rb]? =some (.b V8.row)) h4:=⟨(k4 b hbl2 d1b.1).trans m2,(k4 N hNl ncN).trans e2,(k4 rb Tj ncr).trans r2m⟩;refine Rs t0 ?_;refine c9 Xk rfl rfl ?_;refine Rs t0 ?_;refine c9 Xk rfl rfl ?_;refine Rs t0 ?_;refine c9 Xk rfl rfl ?_;refine Rs t0 ?_;refine kU Xk (v:=V.sr) (λg hg=>?_) ?_
 ·exact Kc
 refine Rs t0 ?_;refine kU Xk (v:=.agg V8.row) (λg hg=>?_) ?_
 ·simp only[aO,aQ,aY,aZ,reduceAdd,reduceMul,reduceLeDiff,reduceEqDiff,ba,hlen,Zi,Zk,t0,az hg.2.2,aG]
 refine Rs t0 ?_;refine c9 Xk rfl rfl ?_;refine Rs (A2 t0 @bs2) ?_;have x5:Ext h4 (h4++[ak.cells V8.row true true]):=⟨_,rfl⟩;have hS5:(λh:ah=>h[b]? =some (.b [Su,V.sc,V.sr])/\h[N]? =some (.b x'.row)/\h[rb]? =some (.b V8.row)) (h4++[ak.cells V8.row true true]):=⟨x5.some Xk.1,x5.some Xk.2.1,x5.some Xk.2.2⟩;have owr4:Ow B.length (h4++[ak.cells V8.row true true]) V.sr 7 (V.cC.map RV.row):=Wx.aD λi hi=>by
  have hil:=(Wx.bP hi).2;rw[YY Om];exact k4 i hil λe=>d1c i e hi
 refine c9 hS5 rfl rfl ?_;refine Rs t0 ?_;refine WR.IG (N:=B.length) (cs:=V.cC.map RV.row) (ys:=[V8.row]) owr4 (Fr.push (N:=0) (ZA _) [V8.row] (by intro y hy;rw[Zj]at hy;rw[hy];rfl)).aW (by simp only[YT];omega) De Si (by simp only[Y7,YX,Y6];omega) ?_;intro h6 hl6 hs6 hk6;have Xy:V.cC.map RV.row++[V8.row]=(V.cC++[V8]).map RV.row:=by rw[Y9];rfl
 rw[Xy]at hs6;rw[Xy];obtain⟨Sx,hsr⟩:∃Sx,Sx=AV.slice (h4++[ak.cells V8.row true true]).length 0 ((V.cC++[V8]).map RV.row).length 7:=⟨_,rfl⟩;rw[<-hsr]at hs6 ⊢;have hl6':h6.length=H2.length+4:=by rw[hl6];simp;omega
 have WN:∀i,sB Sx=some i->H2.length+3=i:=λi hi=>by rw[hsr]at hi;cases hi;simp;omega
 have osr:Sx.one=true:=by rw[hsr];rfl
 have k6:∀i,i<H2.length->sB V.sc≠some i->sB V.sr≠some i->h6[i]? =H2[i]? :=λi hi n1 n2=>by
  rw[hk6 i (by simp;omega) n2,YY Om];exact k4 i hi n1
 have hS6:(λh:ah=>h[b]? =some (.b [Su,V.sc,V.sr])/\h[N]? =some (.b x'.row)/\h[rb]? =some (.b V8.row)) h6:=⟨(k6 b hbl2 d1b.1 d1b.2).trans m2,(k6 N hNl ncN nrN).trans e2,(k6 rb Tj ncr nrr).trans r2m⟩;refine Rs t0 ?_;refine oS hS6 rfl ?_;have m6:=hS6.1;have hb6:b<h6.length:=(YU.1 m6).1;have sA:aT 1 (.ptr b 1) Sa (λz=>h6[z]?)=some (ay,.set b (.b [Su,Sa,V.sr])):=by
  rw[aJ m6];exact bO osc Si
 have m7:(h6.set b (.b [Su,Sa,V.sr]))[b]? =some (.b [Su,Sa,V.sr]):=Zg hb6;have sB2:aT 1 (.ptr b 2) Sx (λz=>(h6.set b (.b [Su,Sa,V.sr]))[z]?)=some (ay,.set b (.b [Su,Sa,Sx])):=by
  rw[aJ m7];exact bO osr Si
 refine Rs (A3 t0 @sA @sB2) ?_;rw[List.set_set];obtain⟨gB2,hgB2⟩:=hB2;obtain⟨gz,hz⟩:=vh (X:=.b [Su,Sa,Sx]) Wy.hN (DW (B:=B) (h:=h6) Om λi hi=>by
  rw[k6 i Om (λe=>by have:=(Yd.bP e).1;omega) (λe=>by have:=(Wx.bP e).1;omega),hgB2,YY hi])
 have kz:∀i,i≠b->(h6.set b (.b [Su,Sa,Sx]))[i]? =h6[i]? :=λi hi=>Zf (aai hi)
 have oxm2:bh (fL (V1.ex b) H2) x':=Wy.ae x' (by rw[Ux];simp);have oR2:aB (fL (V1.ex b) H2) V8:=r8.o.ok.fL λj hj hm=>by
  have h1:=(r8.o.dR hj).1;have h2:=U3.Cs hm;omega
 have hBH1:B.length<=H1.length:=by rw[hB1];simp
 have fin:cH B.length (h6.set b (.b [Su,Sa,Sx])) b {V1 with fe:=V1.fe++[x'],cC:=V1.cC++[V8],sc:=Sa,sr:=Sx}:=by
  subst Ux;refine Wy.Q0 (λi hi n1 n2 nb=>(kz i nb).trans (k6 i hi n1 n2)) (hs4.aD λi hi=>?_) (hs6.aD λi hi=>kz i ?_) (Zg hb6) (λi hi=>by have:=WU i hi;omega) (λi hi=>by have:=WN i hi;omega) (λi h1 h2=>by have:=WU i h1;have:=WN i h2;omega) oxm2 oR2 (λj hj=>ZR hBH1 (r8.o.dR hj).1)
  ·have h1:=WU i hi;rw[kz i Om,hk6 i (by simp;omega) (λe=>by have:=(Wx.bP e).2;omega),YY Om]
  ·have h1:=WN i hi;omega
 have hfr:∀i,i<(B++g).length->some i∉V.ex b->(B++gz)[i]? =(B++g)[i]? :=λi hi hn=>by
  have hi1:=Xt i hi hn;have hil:i<H1.length:=by
   rw[YZ hi]at hi1;exact(YU.1 hi1).1
  rw[<-hz,kz i (λe=>hn (by rw[e];simp[HV.ex])),k6 i (by rw[VW,YT];omega) (λe=>hn (by rw[<-e];simp[HV.ex])) (λe=>hn (by rw[<-e];simp[HV.ex])),VW,YY hil,hi1]
 have hlo:(B++g).length<=H.length:=by rw[Vf];simp only[YT];omega
 have hlo2:H.length<=H2.length:=by rw[VW,YT,Wu,ZI,W9];simp only[YT];omega
 have hexn:∀j,some j∈HV.ex b {V1 with fe:=V1.fe++[x'],cC:=V1.cC++[V8],sc:=Sa,sr:=Sx}->some j∈V.ex b\/(B++g).length<=j:=λj hj=>by
  subst Ux;simp only[HV.ex,ZG,Z0,aay,Zy]at hj ⊢;rcases hj with hj|hj|hj|hj
  ·exact .inl (.inl hj)
  ·have:=WT j hj.symm;exact .inr Om
  ·have:=WU j hj.symm;exact .inr Om
  ·have:=WN j hj.symm;exact .inr Om
 refine⟨gz,_,hz,by rw[h2],by rw[<-hz];exact fin,?_,hfr,hexn⟩;rw[Zh h2,kM,RK,Za h5,Ux];simp only[HV.bV,Y9,ZX,aaC,RI,hr8]
end
def C2{H e}(h:jv H e=0):e.num=(H.dm.length:Int)+1/\(ju e=.eZ->H.fe≠[])/\(ju e≠.eZ->gQ H.now e (ju e)=0):=by
 unfold jv at h;split at h
 ·exact absurd h De
 case isFalse h1=>
 refine⟨aaP.1 h1,λhk hn=>?_,λhk=>by rw[Za hk]at h;exact h⟩;rw[Zh hk,hn]at h;exact absurd h De
def CM{H e}(h:eS H e=0):eG e=0/\jv H e=0:=by
 unfold eS at h;split at h
 case isTrue h1=>exact absurd h h1
 case isFalse h1=>exact⟨aaP.1 h1,h⟩
theorem kj.ju{e d}(w:kj e d):Go.Abs.ju e=d:=by rw[Go.Abs.ju,w.kd];rfl
def kN.add{H e}(w:kN H)(h:eS H e=0):kN (kM H e):=by
 obtain⟨h1,h2⟩:=CM h;obtain⟨d,we⟩:=rJ h1;obtain⟨h3,h4,h5⟩:=C2 h2;have RK:=we.ju;unfold kM;split
 case isTrue hu=>
  have hl:=aaU.2 (h4 hu);have e1:=w.ln;have e2:=w.le;refine⟨λR hR=>w.rg R ((List.dropLast_sublist _).mem hR),by simp[e1],?_,λx hx=>?_,λx hx=>w.cn x ((List.dropLast_sublist _).mem hx)⟩
  ·simp only[List.length_dropLast,YT,Zt];omega
  ·exact J3
 case isFalse hu=>
  have e1:=w.ln;have e2:=w.le;have hs:=h5 hu;rw[RK]at hs hu;refine⟨λR hR=>?_,by simp[e1],by simp only[YT,Zt];omega,λx hx=>?_,λx hx=>?_⟩
  ·rcases Y8.1 hR with hR|hR
   ·exact w.rg R hR
   ·rw[Zj]at hR;rw[hR,RK];exact w.now.step we hu hs
  ·exact J3
  ·rcases Y8.1 hx with hx|hx
   ·exact w.cn x hx
   ·rw[Zj]at hx;subst hx;exact⟨d,we⟩
def wL{H e}:(kM H e).dm.length=H.dm.length+1:=by
 unfold kM;split<;>simp
def Jj(h:ah)(l:List eD)(v:AV)(k:ah):Prop:=
 ∃p,v=.dL [p,.i (bn l).2.1,.i (bn l).2.2]/\((bn l).2.2≠0->p=.nilPtr)/\
  ((bn l).2.2=0->∃b V,p=.ptr b 0/\cH h.length k b V/\V.bV=(bn l).1/\kN V.bV/\V.dm.length=l.length/\l.length<=1000)
structure uJ(L:List EV):Prop where
 l:L.length<=2^30
 e:∀x∈L,x.ev.names.length<=2^30/\x.ev.cB.length<=2^30
section
variable {P:Program}(T:fA P) {h:ah}
include T
def r78{L s}(o:dW h L s)(sh:uJ L)(gl:Gl h):aA P 78 [s] h (Jj h (L.map EV.ev)):=by
 have T3:=sh.l;refine .kr 31 T.mix T.c78 ?_;intro ts hlen t0;unfold fn78 gA;by_cases h1:1000<L.length
 ·have q1:decide ((1000:Int)<(L.length:Int))=true:=Y5 Om;refine Rs (A3 t0 o.sl.aH q1) ?_;have e:bn (L.map EV.ev)=(iH.zero,0,5):=by rw[bn,Zh (by simpa using h1)]
  unfold Jj;rw[e];exact⟨_,rfl,λ_=>rfl,λz=>absurd z De⟩
 have q1:decide ((1000:Int)<(L.length:Int))=false:=YW Om;refine Rs (A3 t0 o.sl.aH q1) ?_;have e0:bn (L.map EV.ev)=gL iH.zero (L.map EV.ev) 0:=by rw[bn,Za (by simpa using h1)]
 obtain⟨b,hb⟩:∃b,b=h.length:=⟨_,rfl⟩;rw[<-hb];refine WL.inv T.mix (λm ts h'=>∃(k:Nat) (g':ah) (V:HV),k<=L.length/\m=L.length-k/\h' =h++g'/\cH h.length (h++g') b V/\kN V.bV/\V.dm.length=k/\bn (L.map EV.ev)=gL V.bV ((L.drop k).map EV.ev) k/\ts.length=31/\slot ts 5=.ptr b 0/\slot ts 14=s/\slot ts 15=.i L.length/\slot ts 16=.i k) L.length
  ⟨0,[ak.b [AV.af,.af,.af]],⟨[],[],[],.af,.af,.af⟩,Om,rfl,rfl,⟨Om,by rw[hb];exact a8,.nil,.nil,.nil,rG.2 ⟨λ_ _=>⟨by simp[sB],by simp[sB],by simp[sB]⟩,λ_ z=>by simp[sB]at z,λ_ z=>by simp[sB]at z⟩,(λx hx=>by cases hx),(λx hx=>by cases hx),(λx hx=>by cases hx),(λx hx=>by cases hx)⟩,kN.zero,rfl,e0,Sn,Sw,(Sq t0),Sw,fV⟩ ?_
 rintro _ ts _ ⟨k,g',V,hk,rfl,rfl,oV,wV,hVl,RH,hlen,t5,t14,t15,t16⟩;by_cases hlt:k<L.length
 ·have e3:=dM hlt;have e5:=wrapN (n:=k) Om;have ix:=o.sl.c8 (kk:=.i64) hlt;have ld:∀{k'},Ext (h++g') k'->ao (some 5) (cI s 5 k) (λb=>k'[b]?)=some (.agg (EV.row L[k]),.ar):=λ{k'} e=>o.sl.gS hlt (Ext.trans (Ext.app g' (Ext.refl h)) e)
  obtain⟨x,hx⟩:∃x,x=L[k]:=⟨_,rfl⟩;have hm:x∈L:=by rw[hx];exact Zb _
  have hd:L.drop k=x::L.drop (k+1):=by rw[hx];simp
  rw[<-hx]at ld;have ox:bh (h++g') x:=(o.all x hm).ext ⟨_,rfl⟩;have st:∀{b':Nat}{a0 a1 a2 a3 a4:AV},km 5 0 (.agg x.row) b' (.b [a0,a1,a2,a3,a4])=some (ay,.set b' (.b x.row)):=λ{_ _ _ _ _ _}=>ox.st
  refine Rs (A9 t5 t14 t15 t16 e3 ix @ld @st @bR) ?_;rw[YV h g'];rw[hd,ZX,gL]at RH;refine WF.gen T.c112 (LW T (B:=h) (x:=x) (by rw[<-YV];exact oV.app _) wV Om (by rw[<-YV];exact ox.ext Xx) ⟨by have:=(sh.e x hm).1;omega,by have:=(sh.e x hm).2;omega⟩ gl) ?_;rintro _ _ ⟨g2,V2,rfl,rfl,o2,hV2,-,-⟩;by_cases h2:eS V.bV x.ev=0
  ·have q2:decide (eS V.bV x.ev≠0)=false:=YW (λz=>z h2);rw[Zh h2]at hV2;rw[Za (λz=>z h2)]at RH;refine Rs (A6 t5 t14 t15 t16 q2 e5) ?_;refine⟨_,Om,k+1,g2,V2,Om,rfl,rfl,o2,by rw[hV2];exact wV.add h2,?_,by rw[hV2];exact RH,rfl⟩;have:V2.bV.dm.length=V.bV.dm.length+1:=by rw[hV2];exact wL
   simpa [HV.bV,hVl]using this
  ·have q2:decide (eS V.bV x.ev≠0)=true:=Y5 h2;rw[Zh h2]at RH;refine Rs (A6 t5 t14 t15 t16 q2 e5) ?_;unfold Jj;rw[RH];refine⟨_,?_,λ_=>rfl,λz=>absurd z h2⟩;simp
 ·have e3:=eC hlt;have e4:k=L.length:=Om
  have U7:bn (L.map EV.ev)=(V.bV,0,0):=by rw[RH,e4,Z2];rfl
  refine Rs (A5 t5 t14 t15 t16 e3) ?_;unfold Jj;rw[U7];exact⟨_,rfl,λz=>absurd rfl z,λ_=>⟨b,V,rfl,oV,rfl,wV,by simp;omega,by simp;omega⟩⟩
end
def hO(t:Int):Int:=bu t 0 999999999
def QR:decide ((0:Int)≠0)=false:=rfl
def jY(l:List eD)(t:Nat)(n:By):dJ×Int:=if(bn l).2.2≠0 then(dJ.zero,(bn l).2.2)else((bn l).1.now,bX (!dX (bn l).1.now t n) 10)
def cH.HG{N h b V}(o:cH N h b V):∀j,some j∈V.now.bl->N<=j:=by
 rw[HV.now,aaK];cases hx:V.cC.getLast? with
 |none=>intro j hj;simp[RV.zero,RV.bl,sB]at hj
 |some R=>exact o.lo R (List.mem_of_getLast? hx)
def ug{h X:ah}{A C:ak}{j:Nat}(hj:h.length+1<=j):(h++[A]++X)[j]? =(h++[C]++X)[j]? :=by
 exact z80
section
variable {P:Program}(T:fA P) {h:ah}
include T
def r75(t:Int):aA P 75 [.i t] h (λv _=>v=.i (hO t)):=by
 refine .kr 5 T.mix T.c75 ?_;intro ts hlen t0;unfold fn75 gA;refine Rs t0 ?_;refine WF.ce T.c94 (r94 T _ _ _) λg1=>?_
 refine Rs t0 ?_;rfl
def BJ{l v k}(r:Jj h l v k)(he:(bn l).2.2≠0):v=.dL [.nilPtr,.i (bn l).2.1,.i (bn l).2.2]:=by
 have:=T.mix;obtain⟨p,rfl,h1,_⟩:=r;rw[h1 he]
def sU{l v k}(r:Jj h l v k)(he:(bn l).2.2=0):∃b V,v=.dL [.ptr b 0,.i 0,.i 0]/\cH h.length k b V/\V.bV=(bn l).1/\kN V.bV/\V.dm.length=l.length/\l.length<=1000/\V.cC.length<=1000/\(bn l).2.1=0/\ee V.now.an/\V.now.an=(bn l).1.now/\aB k V.now/\∀j,some j∈V.now.bl->h.length<=j:=by
 have:=T.mix;obtain⟨p,rfl,_,h2⟩:=r;obtain⟨b,V,rfl,h3,h4,h5,h6,h7⟩:=h2 he;have hz:(bn l).2.1=0:=by
  revert he
  unfold bn;split
  ·intro _;rfl
  ·have key:∀(l:List eD) (H:iH) (i:Nat),(gL H l i).2.2=0->(gL H l i).2.1=0:=by
    intro l
    induction l with
    |nil=>intro H i _;rfl
    |cons e l ih=>
     intro H i;rw[gL];split
     case isTrue hb=>intro hc;exact absurd hc hb
     case isFalse hb=>exact ih _ _
   exact key l _ _
 have hr:V.cC.length<=1000:=by
  have e1:=h5.ln;have e2:=h5.le;exact z116
 exact⟨b,V,by rw[hz,he],h3,h4,h5,h6,h7,hr,hz,by rw[V.jD];exact h5.now,by rw[V.jD,h4],h3.rd.now,h3.HG⟩
def r73{L:List EV}{s:AV}(o:dW h L s)(sh:uJ L)(gl:Gl h){t:Nat}(ht:t<6)(n:By):aA P 73 [s,.i t,.str n] h (λv k=>∃V:RV,v=.dL [.agg V.row,.i (jY (L.map EV.ev) t n).2]/\V.an=(jY (L.map EV.ev) t n).1/\aB k V/\ee V.an):=by
 refine .mS 31 T.mix T.c73 ?_;intro ts hlen t0 t1 t2;unfold fn73 gA;refine Rs (A3 t0 t1 t2) ?_;refine WF.res T.c78 (r78 T (o.ext Xx) sh (gl.ext Xx)) ?_;intro v g hv;by_cases he:(bn (L.map EV.ev)).2.2=0
 ·obtain⟨b,V,rfl,oV,hV,wV,_,_,hr,_,wn,hn,on,lo⟩:=sU T hv he;have st:=@aB.st _ _ on;refine Rs (A4 t0 t1 t2 @QR) ?_;refine WF.ce T.c79 (r79 T (oV.rd.ext Xx) hr) λg2=>?_
  refine Rs (A5 t0 t1 t2 @st @aG) ?_;refine WF.ce T.c86 (r86 T (on.ext Xx) wn.len ht _) λg3=>?_
  refine Rs (A4 t0 t1 t2 @aG) ?_;refine WF.ce T.c85 (r85 T _ _) λg4=>?_
  refine Rs (A5 t0 t1 t2 @st @aG) ?_;refine⟨V.now,?_,?_,?_,wn⟩
  ·rw[jY,Za (λz=>z he),hn]
  ·rw[jY,Za (λz=>z he),hn]
  ·refine(on.ar (k:=h++[ak.b V.now.row]++g) λj hj=>ug (by have:=lo j hj;simpa using this)).ext Xx
 ·have Ti:=BJ T hv he;subst Ti;have q:decide ((bn (L.map EV.ev)).2.2≠0)=true:=Y5 he;refine Rs (A4 t0 t1 t2 q) ?_;refine⟨RV.zero,?_,?_,aB.zero,ee.zero⟩
  ·rw[jY,Zh he];rfl
  ·rw[jY,Zh he];rfl
def r34{L s}(o:dW h L s)(sh:uJ L)(gl:Gl h):aA P 34 [s] h (λv k=>∃V:RV,v=.dL [.agg V.row,.i (bn (L.map EV.ev)).2.1,.i (bn (L.map EV.ev)).2.2]/\V.an=(bn (L.map EV.ev)).1.now/\aB k V/\ee V.an):=by
 refine .kr 22 T.mix T.c34 ?_;intro ts hlen t0;unfold fn34 gA;refine Rs t0 ?_;refine WF.res T.c78 (r78 T (o.ext Xx) sh (gl.ext Xx)) ?_;intro v g hv;by_cases he:(bn (L.map EV.ev)).2.2=0
 ·obtain⟨b,V,rfl,oV,hV,wV,_,_,hr,hz,wn,hn,on,lo⟩:=sU T hv he;refine Rs (A2 t0 @QR) ?_;refine WF.ce T.c79 (r79 T (oV.rd.ext Xx) hr) λg2=>?_
  refine Rs t0 ?_;refine WF.res T.c96 (r96 T (on.ext Xx) wn) ?_;rintro _ g3 ⟨VN,XN,rfl,own⟩;have st:∀{b':Nat}{a0 a1 a2 a3 a4 a5 a6:AV},km 7 0 (.agg VN.row) b' (.b [a0,a1,a2,a3,a4,a5,a6])=some (ay,.set b' (.b VN.row)):=λ{_ _ _ _ _ _ _ _}=>own.ok.st
  refine Rs (A3 t0 @st @aG) ?_;refine⟨VN,by rw[he,hz],by rw[XN,hn],?_,by rw[XN];exact wn⟩;have:=own.ok.ar (k:=h++[ak.b VN.row]++(g++g2++g3)) λj hj=>by
   have:=(own.dR hj).1;rw[show h++[ak.b [AV.int IntKind.i64 0,AV.af,AV.af,AV.af,AV.af,AV.af,AV.af]]++g++g2++g3=h++[ak.b [AV.int IntKind.i64 0,AV.af,AV.af,AV.af,AV.af,AV.af,AV.af]]++(g++g2++g3) by simp only[YV]];exact JT
  simpa only[YV]using this
 ·have Ti:=BJ T hv he;subst Ti;have q:decide ((bn (L.map EV.ev)).2.2≠0)=true:=Y5 he;refine Rs (A2 t0 q) ?_;have hz:(bn (L.map EV.ev)).1=iH.zero:=by
   revert he
   unfold bn;split
   ·intro _;rfl
   ·have key:∀(l:List eD) (H:iH) (i:Nat),(gL H l i).2.2≠0->(gL H l i).1=iH.zero:=by
     intro l
     induction l with
     |nil=>intro H i z;exact absurd rfl z
     |cons e l ih=>
      intro H i;rw[gL];split
      case isTrue hb=>intro _;rfl
      case isFalse hb=>exact ih _ _
    exact key _ _ _
  exact⟨RV.zero,rfl,by rw[hz];rfl,aB.zero,ee.zero⟩
def zj(l:List eD)(e:eD):Int:=
 if aS [(bn l).2.2,eG e,bX (decide (1000<=l.length)) 5]≠0 then aS [(bn l).2.2,eG e,bX (decide (1000<=l.length)) 5]else jv (bn l).1 e
def r48{L s}(o:dW h L s)(sh:uJ L)(gl:Gl h){x}(ox:bh h x)(hx:x.ev.names.length<=2^30/\x.ev.cB.length<=2^30):aA P 48 [s,.agg x.row] h (λv _=>v=.i (zj (L.map EV.ev) x.ev)):=by
 refine .eF 29 T.mix T.c48 ?_;intro ts hlen t0 t1;unfold fn48 gA;have Rz:=@bh.box _ _ ox;refine Rs (A3 t0 t1 @Rz) ?_;refine WF.res T.c78 (r78 T (o.ext Xx) sh (gl.ext Xx)) ?_;intro v g hv;obtain⟨p,Vp⟩:∃p,v=.dL [p,.i (bn (L.map EV.ev)).2.1,.i (bn (L.map EV.ev)).2.2]:=by obtain⟨p,h1,_⟩:=hv;exact⟨p,h1⟩
 rw[Vp];refine Rs (A3 t0 t1 @bR) ?_;refine WF.ce T.c67 (r67 T (ox.ext Xx) ⟨Om,Om⟩) λg1=>?_
 refine Rs (A3 t0 t1 o.sl.aH) ?_;refine WF.ce T.c85 (r85 T _ _) λg2=>?_
 refine Rs t0 ?_;refine WF.ce T.c74 (r74 T (cj [_,_,_]) Si) λg3=>?_
 have ed:decide ((1000:Int)<=(L.length:Int))=decide (1000<=(L.map EV.ev).length):=aaF.2 (by simp;omega);rw[ed];obtain⟨f,hf⟩:∃f,f=aS [(bn (L.map EV.ev)).2.2,eG x.ev,bX (decide (1000<=(L.map EV.ev).length)) 5]:=⟨_,rfl⟩;rw[<-hf,zj,<-hf];by_cases h0:f=0
 case neg=>
  have q:decide (f≠0)=true:=Y5 h0;refine Rs (A3 t0 t1 q) ?_;rw[Zh h0]
 have q:decide (f≠0)=false:=YW (λz=>z h0);rw[Za (λz=>z h0)];rw[hf]at h0;have f3:∀a b c:Int,aS [a,b,c]=0->a=0/\b=0:=λa b c hh=>by
  simp only[aS]at hh;split at hh
  ·rename_i ha;split at hh
   ·rename_i hb;exact⟨ha,hb⟩
   ·rename_i hb;exact absurd hh hb
  ·rename_i ha;exact absurd hh ha
 obtain⟨he,hc⟩:=f3 _ _ _ h0;obtain⟨b,V,Vq,oV,hV,wV,UW,hle,hr,hz,wn,hn,on,lo⟩:=sU T hv he;rw[Vp]at Vq;have Yu:p=.ptr b 0:=by injection Vq with h1;injection h1
 obtain⟨d,wx⟩:=rJ hc;rw[Yu];refine Rs (A4 t0 t1 q @bR) ?_;refine WF.ce T.c116 (r116 T (d:=d) (oV.rd.ext Xx) wV Om (ox.ext Xx) wx (gl.ext Xx)) λg4=>?_
 refine Rs (A2 t0 t1) ?_;rw[hV]
end
def Ht{l t n}(h:(jY l t n).2=0):(bn l).2.2=0/\(jY l t n).1=(bn l).1.now/\n∈Jc (bn l).1.now t:=by
 unfold jY at h ⊢;split at h
 case isTrue h1=>exact absurd h h1
 case isFalse h1=>
  rw[Za h1];refine⟨aaP.1 h1,rfl,?_⟩;by_cases hh:dX (bn l).1.now t n=true
  ·unfold dX at hh;exact aak hh
  ·have:dX (bn l).1.now t n=false:=by simpa using hh
   simp only[this,bX]at h;exact absurd h De
def vj(l:List eD)(n:By)(t:Int):Bool×Int:=
 if aS [(jY l 2 n).2,hO t]≠0 then(false,aS [(jY l 2 n).2,hO t])else(iJ (jY l 2 n).1 (qU (jY l 2 n).1 n) t,0)
def qu(l:List eD)(t:Int):List (By)×Int:=
 if aS [(bn l).2.2,hO t]≠0 then([],aS [(bn l).2.2,hO t])else(ko (bn l).1.now t,0)
def yc{a b}(h:aS [a,b]=0):a=0/\b=0:=by
 simp only[aS]at h;split at h
 ·rename_i ha;split at h
  ·rename_i hb;exact⟨ha,hb⟩
  ·rename_i hb;exact absurd h hb
 ·rename_i ha;exact absurd h ha
section
variable {P:Program}(T:fA P) {h:ah}
include T
def r16{L s}(o:dW h L s)(sh:uJ L)(gl:Gl h)(n:By)(t:Int):aA P 16 [s,.str n,.i t] h (λv _=>v=.dL [.bool (vj (L.map EV.ev) n t).1,.i (vj (L.map EV.ev) n t).2]):=by
 refine .mS 31 T.mix T.c16 ?_;intro ts hlen t0 t1 t2;unfold fn16 gA;refine Rs (A3 t0 t1 t2) ?_;refine WF.res T.c73 (r73 T (o.ext Xx) sh (gl.ext Xx) (t:=2) De n) ?_;rintro _ g ⟨V,rfl,hV,oV,wV⟩;have st:∀{b':Nat}{a0 a1 a2 a3 a4 a5 a6:AV},km 7 0 (.agg V.row) b' (.b [a0,a1,a2,a3,a4,a5,a6])=some (ay,.set b' (.b V.row)):=λ{_ _ _ _ _ _ _ _}=>oV.st
 refine Rs (A5 t0 t1 t2 @st @aG) ?_;refine WF.ce T.c75 (r75 T t) λg1=>?_
 refine Rs (A3 t0 t1 t2) ?_;refine WF.ce T.c74 (r74 T (cj [_,_]) Si) λg2=>?_
 obtain⟨f,hf⟩:∃f,f=aS [(jY (L.map EV.ev) 2 n).2,hO t]:=⟨_,rfl⟩;rw[<-hf,vj,<-hf];by_cases h0:f=0
 case neg=>
  have q:decide (f≠0)=true:=Y5 h0;rw[Zh h0];exact Rs (A4 t0 t1 t2 q) Tv
 have q:decide (f≠0)=false:=YW (λz=>z h0);rw[Za (λz=>z h0)];rw[hf]at h0;obtain⟨he,hne,hm⟩:=Ht (yc h0).1;rw[<-hne,<-hV]at hm;refine Rs (A5 t0 t1 t2 q @aG) ?_;refine WF.res T.c77 (r77 T (oV.ext Xx) wV.len hm) ?_;rintro _ g3 ⟨x,hx,UL,rfl⟩;refine Rs (A3 t0 t1 t2) ?_;refine WF.ce T.c76 (r76 T (oV.ext Xx) wV.len ((oV.e2 x hx).ext Xx) (wV.xZ.sh x hx).2 (wV.xZ.sh x hx).1 t) λg4=>?_
 refine Rs (A3 t0 t1 t2) ?_;rw[UL,hV]
def r17{L s}(o:dW h L s)(sh:uJ L)(gl:Gl h)(t:Int):aA P 17 [s,.i t] h (λv k=>∃s',v=.dL [s',.i (qu (L.map EV.ev) t).2]/\aK k s' 1 ((qu (L.map EV.ev) t).1.map aq)):=by
 refine .eF 28 T.mix T.c17 ?_;intro ts hlen t0 t1;unfold fn17 gA;refine Rs (A2 t0 t1) ?_;refine WF.res T.c78 (r78 T (o.ext Xx) sh (gl.ext Xx)) ?_;intro v g hv;obtain⟨p,Vp⟩:∃p,v=.dL [p,.i (bn (L.map EV.ev)).2.1,.i (bn (L.map EV.ev)).2.2]:=by obtain⟨p,h1,_⟩:=hv;exact⟨p,h1⟩
 rw[Vp];refine Rs (A2 t0 t1) ?_;refine WF.ce T.c75 (r75 T t) λg1=>?_
 refine Rs (A2 t0 t1) ?_;refine WF.ce T.c74 (r74 T (cj [_,_]) Si) λg2=>?_
 obtain⟨f,hf⟩:∃f,f=aS [(bn (L.map EV.ev)).2.2,hO t]:=⟨_,rfl⟩;rw[<-hf,qu,<-hf];by_cases h0:f=0
 case neg=>
  have q:decide (f≠0)=true:=Y5 h0;rw[Zh h0];refine Rs (A3 t0 t1 q) ?_;exact⟨_,rfl,.nil⟩
 have q:decide (f≠0)=false:=YW (λz=>z h0);rw[Za (λz=>z h0)];rw[hf]at h0;obtain⟨b,V,Vq,oV,hV,wV,UW,hle,hr,hz,wn,hn,on,lo⟩:=sU T hv (yc h0).1;rw[Vp]at Vq;have Yu:p=.ptr b 0:=by injection Vq with h1;injection h1
 rw[Yu];refine Rs (A3 t0 t1 q) ?_;refine WF.ce T.c79 (r79 T (oV.rd.ext Xx) hr) λg3=>?_
 refine Rs (A2 t0 t1) ?_;refine WF.res T.c80 (r80 T (on.ext Xx) wn.len wn.xZ t) ?_;rintro v4 g4 h4;refine Rs (A2 t0 t1) ?_;rw[hn]at h4;exact⟨_,rfl,h4⟩
def r219{x:jR×AV}(ox:x.2.one=true){S:List gZ}{s:AV}(hs:aK h s 3 (S.map bG))(hl:S.length<2^63){b:Nat}(hb:h[b]? =some (.b [s])):
  aA P 219 [.agg (aU x),.ptr b 0] h (λv _=>v=.bool (decide (x.1.line∈S.map gZ.name))):=by
 refine .eF 9 T.mix T.c219 ?_;intro ts hlen t0 t1;unfold fn219 gA;have lb:∀{k:ah}{n':Option Nat}{a:Nat},Ext h k->ao n' (.ptr b a) (λz=>k[z]?)=dC n' a (.b [s]):=λe=>az (e.some hb)
 unfold aU at t0;refine Rs (A4 t0 t1 @ox @lb) ?_;refine WF.ce T.c142 (r142 T (hs.ext Xx) hl _) λg1=>?_
 rw[show(λy:gZ=>decide (y.name=x.1.line))=λy=>decide (gZ.name y=x.1.line)from rfl];refine Rs (A2 t0 t1) ?_;rw[fJ]
def r126{V:RV}(o:aB h V)(w:ee V.an){p:By}(hp:p∈k5 V.an):aA P 126 [.agg V.row,.str p] h (λv h'=>aK h' v 1 ((sZ V.an p).map aq)):=by
 refine .eF 20 T.mix T.c126 ?_;intro ts hlen t0 t1;unfold fn126 gA;have Rz:=@aB.box _ _ o;have l:=w.len;have hpc:=iC (f:=qm.name) (l:=V.an.aI) (n:=p) (d:=Hx) hp;have hj:=(w.pc _ hpc).1;refine Rs (A4 t0 t1 @Rz @aG) ?_;refine WF.ce T.c218 (r218 T (o.ext Xx) l hp) λg1=>?_
 have pj:(cw (jX V.an p))[1]? =some (.str (jX V.an p).AS):=rfl;unfold cw;refine Rs (A3 t0 t1 @aG) ?_;refine WF.res T.c124 (r124 T (o.ext Xx) l hj) ?_;rintro _ g2 ⟨x,hx,UL,rfl⟩;unfold bB;refine Rs (A3 t0 t1 @aG) ?_;have hin:∀x∈V.aC,x.1.bo.length<2^30:=λx hx=>by have:=(w.md x.1 (Zu hx)).2.1;omega
 refine WF.res T.c122 (r122 T (o.ext Xx) l hin _) ?_;rintro v3 g3 h3;have ov:=h3.one;have hsl:(iT V.an x.1.mod).length<2^30:=by
  have h1:(iT V.an x.1.mod).length<=V.an.lines.length:=by unfold iT;exact ZM _ _
  have:=w.l0;omega
 have sn:∀{N:Nat},km 1 0 v3 N (.b [.af])=some (ay,.set N (.b [v3])):=λ{_}=>bO ov Si
 refine Rs (A6 t0 t1 @eE @eo @ov @sn) ?_;refine WF.res T.c138 (r138 T (o.i2.ext Xx) o.jl.1 (by have:=l.l2;omega) (λy=>decide (y.1.line∈(iT V.an x.1.mod).map gZ.name)) (λy hy k e=>bH.of (a:=[]) T.c219 (r219 T (o.jl.1 y hy) (h3.ext (Ext.trans Xx e)) Om (e.some a8)))) ?_;rintro s4 g4 h4;have R7:(V.aj.filter λy=>decide (y.1.line∈(iT V.an x.1.mod).map gZ.name)).length<=V.aj.length:=ZM _ _;refine Rs (A2 t0 t1) ?_;refine WF.res T.c137 (r137 T h4.aW (λx hx=>o.jl.1 x ((aag.1 hx).1)) (by have:=l.l2;omega) (λx=>x.1.name) (λx hx k e=>bH.of (a:=[]) (c:=[]) T.c140 (r140 T x (o.jl.1 x ((aag.1 hx).1))))) ?_
 rintro s5 g5 h5;have:=h5.aW;refine Rs (A2 t0 t1) ?_;have e:sZ V.an p=(V.aj.filter λy=>decide (y.1.line∈(iT V.an x.1.mod).map gZ.name)).map λx=>x.1.name:=by
  rw[sZ,<-UL];simp only[RV.an,aa1,aaE];rfl
 rw[e];exact this
def Ew(l:List Int):Int×Int:=
 if aS [bX (decide (l.length=0)) 12,bX (decide (32<l.length)) 5]≠0 then(0,aS [bX (decide (l.length=0)) 12,bX (decide (32<l.length)) 5])
 else if aS (l.map λn=>bu n 0 999999999)≠0 then(0,aS (l.map λn=>bu n 0 999999999))else(gf l,0)
def r93(n:Int):aA P 93 [.i n] h (λv _=>v=.i (bu n 0 999999999)):=by
 refine .kr 5 T.mix T.c93 ?_;intro ts hlen t0;unfold fn93 Km;refine Rs t0 ?_;refine WF.ce T.c94 (r94 T _ _ _) λg1=>?_
 exact Rs t0 Tv
def r27{s l}(hs:aK h s 1 (l.map aL))(hl:l.length<2^30):aA P 27 [s] h (λv _=>v=.dL [.i (Ew l).1,.i (Ew l).2]):=by
 refine .kr 27 T.mix T.c27 ?_;intro ts hlen t0;unfold fn27 gA;refine Rs (A2 t0 hs.aH) ?_;refine WF.ce T.c85 (r85 T _ _) λg1=>?_
 refine Rs (A2 t0 hs.aH) ?_;refine WF.ce T.c85 (r85 T _ _) λg2=>?_
 refine Rs t0 ?_;refine WF.ce T.c74 (r74 T (cj [_,_]) Si) λg3=>?_
 have e1:decide ((l.length:Int)=0)=decide (l.length=0):=aaF.2 Om;have e2:decide ((32:Int)<(l.length:Int))=decide (32<l.length):=aaF.2 Om;rw[e1,e2];obtain⟨f,hf⟩:∃f,f=aS [bX (decide (l.length=0)) 12,bX (decide (32<l.length)) 5]:=⟨_,rfl⟩;rw[<-hf,Ew,<-hf];by_cases h0:f=0
 case neg=>
  have q:decide (f≠0)=true:=Y5 h0;rw[Zh h0];exact Rs (A2 t0 q) Tv
 have q:decide (f≠0)=false:=YW (λz=>z h0);rw[Za (λz=>z h0)];refine Rs (A2 t0 q) ?_;refine WF.res T.c92 (r92 T (hs.ext Xx) Om (λn=>bu n 0 999999999) (λn _ k _=>bH.of (a:=[]) (c:=[]) T.c93 (r93 T n))) ?_;rintro s4 g4 XK;refine Rs t0 ?_;refine WF.ce T.c74 (r74 T XK.aW (by simp;omega)) λg5=>?_
 by_cases h1:aS (l.map λn=>bu n 0 999999999)=0
 case neg=>
  have q:decide (aS (l.map λn=>bu n 0 999999999)≠0)=true:=Y5 h1;rw[Zh h1];exact Rs (A2 t0 q) Tv
 have q1:decide (aS (l.map λn=>bu n 0 999999999)≠0)=false:=YW (λz=>z h1);rw[Za (λz=>z h1)];have hb:∀n∈l,-1<=n/\n<=999999999:=λn hn=>by
  rw[qd]at h1;split at h1
  ·exact absurd h1 De
  case isFalse hh=>
   have:=hP (n:=n) (lo:=0) (hi:=999999999) λz=>hh (aaD.2 ⟨n,hn,by simpa using z⟩)
   omega
 refine Rs (A2 t0 q1) ?_;refine WF.ce T.c95 (r95 T (hs.ext Xx) hl hb) λg6=>?_
 exact Rs t0 Tv
end
def tJ(l:List dJ)(t:Int):dJ:=l.foldl (λr x=>if x.tick<=t then x else r) dJ.zero
def kT(l:List eD)(t:Int):dJ×Int:=if aS [(bn l).2.2,hO t]≠0 then(dJ.zero,aS [(bn l).2.2,hO t])else(tJ (bn l).1.cC t,0)
def yT(l:List eD)(n:By):List (By)×Int:=if(jY l 3 n).2≠0 then([],(jY l 3 n).2)else((mF (jY l 3 n).1 n).map gY.name,0)
def Es{h X:ah}{A A' R R':ak}{j:Nat}(hj:h.length+2<=j):(h++[A]++[R]++X)[j]? =(h++[A']++[R']++X)[j]? :=by
 exact z80
def E7:ai:=((fn213).body.tl).hd
def Mn:ai:=E7.tl.HY
def PO:ai:=(fn213).body.tl.tl
def Mm:(fn213).body=.seq ((fn213).body.hd) (.seq (.seq E7.hd (.block 0 (.fN (.t 6) [7] Mn.DQ Mn.Dg))) PO):=rfl
section
variable {P:Program}(T:fA P) {h:ah}
include T
def r65{L s}(o:dW h L s)(sh:uJ L)(gl:Gl h)(t:Int):aA P 65 [s,.i t] h (λv k=>∃V:RV,v=.dL [.agg V.row,.i (kT (L.map EV.ev) t).2]/\V.an=(kT (L.map EV.ev) t).1/\aB k V/\ee V.an):=by
 refine .eF 45 T.mix T.c65 ?_;intro ts hlen t0 t1;unfold fn65 gA;refine Rs (A2 t0 t1) ?_;refine WF.res T.c78 (r78 T (o.ext Xx) sh (gl.ext Xx)) ?_;intro v g hv;obtain⟨p,Vp⟩:∃p,v=.dL [p,.i (bn (L.map EV.ev)).2.1,.i (bn (L.map EV.ev)).2.2]:=by obtain⟨p,h1,_⟩:=hv;exact⟨p,h1⟩
 rw[Vp];refine Rs (A2 t0 t1) ?_;refine WF.ce T.c75 (r75 T t) λg1=>?_
 refine Rs (A2 t0 t1) ?_;refine WF.ce T.c74 (r74 T (cj [_,_]) Si) λg2=>?_
 obtain⟨f,hf⟩:∃f,f=aS [(bn (L.map EV.ev)).2.2,hO t]:=⟨_,rfl⟩;rw[<-hf,kT,<-hf];by_cases h0:f=0
 case neg=>
  have q:decide (f≠0)=true:=Y5 h0;rw[Zh h0];refine Rs (A3 t0 t1 q) ?_;exact⟨RV.zero,rfl,rfl,aB.zero,ee.zero⟩
 have q:decide (f≠0)=false:=YW (λz=>z h0);rw[Za (λz=>z h0)];rw[hf]at h0;obtain⟨b,V,Vq,oV,hV,wV,UW,hle,hr,hz,wn,hn,on,lo⟩:=sU T hv (yc h0).1;rw[Vp]at Vq;have Yu:p=.ptr b 0:=by injection Vq with h1;injection h1
 rw[Yu];have oR:=oV.rd;obtain⟨X,hX⟩:∃X,X=g++g1++[ak.cells [AV.i (bn (L.map EV.ev)).2.2,.i (hO t)] true true]++g2:=⟨_,rfl⟩;obtain⟨Hr,hHr⟩:∃Hr,Hr=h++[ak.b [AV.i 0,.af,.af,.af,.af,.af,.af]]++g++g1++[ak.cells [AV.i (bn (L.map EV.ev)).2.2,.i (hO t)] true true]++g2:=⟨_,rfl⟩;have hHX:Hr=h++[ak.b [AV.i 0,.af,.af,.af,.af,.af,.af]]++X:=by rw[hHr,hX];simp only[YV]
 have oH:yv Hr b V:=by rw[hHr];exact oR.ext Xx
 rw[<-hHr];have hb:=oH.hb;have lb:=@dG _ _ _ hb;refine Rs (A5 t0 t1 q @lb oH.ig.aH) ?_;refine WL.inv T.mix (λm ts h'=>∃(k:Nat) (g':ah) (U:RV),k<=V.cC.length/\m=V.cC.length-k/\h' =Hr++[ak.b U.row]++g'/\aB Hr U/\ee U.an/\U.an=tJ ((V.cC.take k).map RV.an) t/\ts.length=45/\slot ts 1=.i t/\slot ts 4=.ptr h.length 0/\slot ts 10=.ptr Hr.length 0/\slot ts 31=V.sr/\slot ts 32=.i V.cC.length/\slot ts 33=.i k) V.cC.length
  ⟨0,[],RV.zero,Om,rfl,by simp only[Zr];rfl,aB.zero,ee.zero,rfl,Sn,(Sq t1),Sw,Sw,Sw,Sw,fV⟩ ?_
 clear t0 t1 hlen lb;clear ts;rintro _ ts _ ⟨k,g',U,hk,rfl,rfl,oU,wU,hU,hlen,t1,t4,t10,t31,t32,t33⟩;by_cases hlt:k<V.cC.length
 ·have e3:=dM hlt;have e5:=wrapN (n:=k) Om;have ix:=oH.ig.c8 (kk:=.i64) hlt;have ld:∀{k'},Ext (Hr++[ak.b U.row]++g') k'->ao (some 7) (cI V.sr 7 k) (λb=>k'[b]?)=some (.agg (RV.row V.cC[k]),.ar):=λ{k'} e=>oH.ig.gS hlt (Ext.trans Xx e)
  obtain⟨y,hy⟩:∃y,y=V.cC[k]:=⟨_,rfl⟩;have UC:y∈V.cC:=by rw[hy];exact Zb _
  have oy:=oH.ag y UC;have RX:V.cC.take (k+1)=V.cC.take k++[y]:=by rw[hy,ZJ,YZ hlt];rfl
  rw[<-hy]at ld;have st:∀{b':Nat}{a0 a1 a2 a3 a4 a5 a6:AV},km 7 0 (.agg y.row) b' (.b [a0,a1,a2,a3,a4,a5,a6])=some (ay,.set b' (.b y.row)):=λ{_ _ _ _ _ _ _ _}=>oy.st
  have eF:∀{b':Nat},km 7 0 (.agg y.row) b' (.b U.row)=some (ay,.set b' (.b y.row)):=λ{_}=>oy.st
  have hnew:tJ ((V.cC.take (k+1)).map RV.an) t=if y.an.tick<=t then y.an else U.an:=by
   rw[RX,Y9,tJ,aaO,hU];rfl
  by_cases hle:y.tick<=t
  ·have q:decide (y.tick<=t)=true:=Y5 hle;have lU:∀{Z:ah}{n a},ao n (.ptr Hr.length a) (λz=>(Hr++[ak.b U.row]++Z)[z]?)=dC n a (.b U.row):=λ{_ _ _}=>az (qp)
   refine Rs (AY t1 t4 t10 t31 t32 t33 e3 ix @ld @st @eF @kR @aG q e5) ?_;refine⟨_,Om,k+1,g'++[ak.b y.row],y,Om,rfl,by rw[<-YV],oy,wV.rg y.an (Zu UC),?_,rfl⟩;rw[hnew,Zh (show y.an.tick<=t from hle)]
  ·have q:decide (y.tick<=t)=false:=YW hle;refine Rs (zt t1 t4 t10 t31 t32 t33 e3 ix @ld @st @kR @aG q e5) ?_;refine⟨_,Om,k+1,g'++[ak.b y.row],U,Om,rfl,by rw[<-YV],oU,wU,?_,rfl⟩;rw[hnew,Za (show ¬y.an.tick<=t from hle)]
 ·have e3:=eC hlt;have e4:k=V.cC.length:=Om
  refine Rs (A8 t1 t4 t10 t31 t32 t33 e3 @aG) ?_;refine WF.res T.c96 (r96 T (oU.ext Xx) wU) ?_;rintro _ g3 ⟨VN,XN,rfl,own⟩;have st:∀{b':Nat}{a0 a1 a2 a3 a4 a5 a6:AV},km 7 0 (.agg VN.row) b' (.b [a0,a1,a2,a3,a4,a5,a6])=some (ay,.set b' (.b VN.row)):=λ{_ _ _ _ _ _ _ _}=>own.ok.st
  rw[hHX];refine Rs (A8 t1 t4 t10 t31 t32 t33 @st @aG) ?_;refine⟨VN,rfl,?_,?_,by rw[XN];exact wU⟩
  ·rw[XN,hU,e4,ZD,<-hV];rfl
  ·have:=own.ok.ar (k:=h++[ak.b VN.row]++(X++[ak.b U.row]++g'++g3)) λj hj=>by
    have:=(own.dR hj).1;rw[hHX,show h++[ak.b [AV.int IntKind.i64 0,AV.af,AV.af,AV.af,AV.af,AV.af,AV.af]]++X++[ak.b U.row]++g'++g3=h++[ak.b [AV.int IntKind.i64 0,AV.af,AV.af,AV.af,AV.af,AV.af,AV.af]]++(X++[ak.b U.row]++g'++g3) by simp only[YV]];rw[hHX]at this;exact JT
   simpa only[YV]using this
def r213{f:FuncId}{A:au}(hA:bS P f=some A){a c:List AV}{L:List (gY×AV)}{pre:ah->Prop}(hi:IterM P f a c (L.map λx=>[.agg (aM x)]) pre)(ho:∀x∈L,x.2.one=true)(hl:L.length<=2^30)(hp:pre h)(hpe:∀k,Ext h k->pre k):
  aA P 213 [.af,.func (.func f) a c] h (λv k=>aK k v 4 (L.map aM)):=by
 refine .of T.mix T.c213 ?_;obtain⟨ts,RD⟩:∃ts,ts=aV 13 [.af,.func (.func f) a c]:=⟨_,rfl⟩;have hlen:ts.length=13:=by rw[RD];rfl
 have t0:slot ts 0=.af:=by rw[RD];rfl
 have t1:slot ts 1=.func (.func f) a c:=by rw[RD];rfl
 show WC P bJ (fn213).body [] (aV 13 [.af,.func (.func f) a c]) h _;rw[<-RD,Mm];clear RD;obtain⟨RR,SG⟩:∃RR,RR=PO:=⟨_,rfl⟩;obtain⟨RA,XP⟩:∃RA,RA=Mn.DQ:=⟨_,rfl⟩;obtain⟨RB,XO⟩:∃RB,RB=Mn.Dg:=⟨_,rfl⟩;rw[<-SG,<-XP,<-XO];unfold E7 fn213 gA;simp only[ai.tl,ai.hd];refine Rs (A2 t0 t1) ?_;refine WC.iterM T.mix hA (a:=a) (c:=c) (Sq t0) hi (λy hy=>by obtain⟨z,_,rfl⟩:=ZB.1 hy;rfl)
  (λmm i h' g=>∃sl:AV,h' =h++[ak.b [sl]]/\h'.length+1<=mm/\mm<=h'.length+1+g.length/\i<=L.length/\∀R:ak,Fr mm (h'++[R]++g) sl 4 ((L.take i).map aM)) (λ_ _ _=>False)
  (λg=>⟨.af,rfl,Om,Zc _,ZA _,λR=>.nil⟩)
  (λmm i h' g g' hI=>by
   obtain⟨sl,a1,a2,a3,a4,a5⟩:=hI;exact⟨sl,a1,a2,by rw[YT];omega,a4,λR=>by rw[<-YV];exact(a5 R).app _⟩)
  (λX=>hpe _ Xx) (λmm i h' g X RJ hI=>by obtain⟨sl,rfl,_⟩:=hI;exact hpe _ Xx) (λmm i hi' h' g R B RJ hI=>?_) (λe h' g RJ hI=>?_)
 ·obtain⟨sl,rfl,Tx,Wl,hi0,hfr⟩:=hI;have hiL:i<L.length:=by simpa using hi'
  rw[aab,XP,XO];obtain⟨x,hx⟩:∃x,x=L[i]:=⟨_,rfl⟩;have ox:=ho x (by rw[hx];exact Zb _);have RX:L.take (i+1)=L.take i++[x]:=by rw[hx,ZJ,YZ hiL];rfl
  rw[<-hx];unfold Mn E7 fn213 gA;simp only[ai.tl,ai.hd,ai.HY,ai.DQ,ai.Dg,setArgs,aM];refine Rs (A3 t0 t1 @ox) ?_;refine⟨_,g++[ak.b [AV.str x.1.name,.str x.1.gives,.str x.1.line,x.2]],by rw[<-YV],RJ,?_⟩;rw[<-YV];have lb:∀{Z:ah}{n a},ao n (.ptr h.length a) (λz=>(h++[ak.b [sl]]++[B]++g++Z)[z]?)=dC n a (.b [sl]):=λ{_ _ _}=>az sG
  have lx:∀{n a},ao n (.ptr (h++[ak.b [sl]]++[R]++g).length a) (λz=>(h++[ak.b [sl]]++[B]++g++[ak.b [AV.str x.1.name,.str x.1.gives,.str x.1.line,x.2]])[z]?)=dC n a (.b [AV.str x.1.name,.str x.1.gives,.str x.1.line,x.2]):=λ{_ _}=>by
   have:(h++[ak.b [sl]]++[R]++g).length=(h++[ak.b [sl]]++[B]++g).length:=Si
   rw[this];exact az a8
  refine Rs (A5 t0 t1 @ox @lb @lx) ?_;obtain⟨gt,UU⟩:∃gt,gt=g.take (mm-(h.length+2)):=⟨_,rfl⟩;have WW:h.length+2<=mm/\mm<=h.length+2+g.length:=by
   simp only[YT,YX,Y6]at Tx Wl;omega
  have hgl:gt.length=mm-(h.length+2):=by rw[UU,ZQ];omega
  have hgs:g=gt++g.drop (mm-(h.length+2)):=by rw[UU,aal]
  have h0l:(h++[ak.b [sl]]++[B]++gt).length=mm:=by
   exact JJ
  have hfs:Fr (h++[ak.b [sl]]++[B]++gt).length (h++[ak.b [sl]]++[B]++g++[ak.b [AV.str x.1.name,.str x.1.gives,.str x.1.line,x.2]]++[ak.cells [AV.str x.1.name,.str x.1.gives,.str x.1.line,x.2] true true]) sl 4 ((L.take i).map aM):=by
   rw[h0l];exact((hfr B).app _).app _
  have hext:Ext (h++[ak.b [sl]]++[B]++gt) (h++[ak.b [sl]]++[B]++g++[ak.b [AV.str x.1.name,.str x.1.gives,.str x.1.line,x.2]]++[ak.cells [AV.str x.1.name,.str x.1.gives,.str x.1.line,x.2] true true]):=by
   refine⟨g.drop (mm-(h.length+2))++[ak.b [AV.str x.1.name,.str x.1.gives,.str x.1.line,x.2]]++[ak.cells [AV.str x.1.name,.str x.1.gives,.str x.1.line,x.2] true true],?_⟩
   conv=>lhs;rw[hgs]
   simp only[YV]
  refine WR.ff (h0:=h++[ak.b [sl]]++[B]++gt) (cs:=(L.take i).map aM) (ys:=[aM x]) hfs (Fr.push (N:=0) (ZA _) [aM x] (by simp[aM])).aW De Si (by simp only[Y7,ZQ,YX,Y6];omega) hext ?_;intro g' hlg hff hkp;have hrow:(L.take i).map aM++[aM x]=(L.take (i+1)).map aM:=by rw[RX,Y9];rfl
  rw[hrow]at hff;rw[hrow];obtain⟨sn,Sr⟩:∃sn,sn=AV.slice (h++[ak.b [sl]]++[B]++g++[ak.b [AV.str x.1.name,.str x.1.gives,.str x.1.line,x.2]]++[ak.cells [AV.str x.1.name,.str x.1.gives,.str x.1.line,x.2] true true]).length 0 ((L.take (i+1)).map aM).length 4:=⟨_,rfl⟩;rw[<-Sr]at hff ⊢;have osn:sn.one=true:=by rw[Sr];rfl
  have st:aT 1 (.ptr h.length 0) sn (λz=>(h++[ak.b [sl]]++[B]++gt++g')[z]?)=some (ay,.set h.length (.b [sn])):=by
   have:(h++[ak.b [sl]]++[B]++gt++g')[h.length]? =some (.b [sl]):=sG;rw[aJ this];exact bO osn Si
  refine Rs (A3 t0 t1 @st) ?_;refine⟨h++[ak.b [sn]],gt++g',by simp only[YV],Si,λy hy=>?_,sn,rfl,by simp only[YT,YX,Y6];omega,?_,Om,λR'=>?_⟩
  ·have TG:y<gt.length:=by
    simp only[YT,YX,Y6]at hy;omega
   rw[YY TG]
   conv=>rhs;rw[hgs]
   rw[YY TG]
  ·exact JJ
  ·rw[<-h0l];refine hff.aD λb hb=>?_
   have hbb:=(hff.bP hb).1;rw[h0l]at hbb;rw[YV _ gt];exact Es Om
 ·by_cases Sk:e=.normal
  case neg=>rw[Za Sk]at hI;exact hI.elim
  subst Sk;rw[Zh rfl]at hI;obtain⟨mm,sl,rfl,_,_,_,hfr⟩:=hI;rw[Y7,ZD]at hfr;rw[SG];have hf:=(hfr ak.dead).aW;have lb:∀{n a},ao n (.ptr h.length a) (λz=>(h++[ak.b [sl]]++[ak.dead]++g)[z]?)=dC n a (.b [sl]):=λ{_ _}=>az AA
  unfold PO fn213 gA;simp only[ai.tl,ai.hd];refine Rs (A3 t0 t1 @lb) ?_;exact hf
def r118{f:FuncId}{A:au}(hA:bS P f=some A){a c:List AV}{L:List (gY×AV)}{pre:ah->Prop}(hi:IterM P f a c (L.map λx=>[.agg (aM x)]) pre)(ho:∀x∈L,x.2.one=true)(hl:L.length<=2^30)(hp:pre h)(hpe:∀k,Ext h k->pre k):
  aA P 118 [.func (.func f) a c] h (λv k=>aK k v 4 (L.map aM)):=by
 refine .kr 5 T.mix T.c118 ?_;intro ts hlen t0;unfold fn118 gA;refine Rs t0 ?_;refine WF.res T.c213 (r213 T hA hi ho hl hp hpe) ?_;rintro v g1 h1;refine Rs t0 ?_;exact h1
def r51{L:List EV}{s:AV}(o:dW h L s)(sh:uJ L)(gl:Gl h)(n:By):aA P 51 [s,.str n] h (λv k=>∃s',v=.dL [s',.i (yT (L.map EV.ev) n).2]/\aK k s' 1 ((yT (L.map EV.ev) n).1.map aq)):=by
 refine .eF 22 T.mix T.c51 ?_;intro ts hlen t0 t1;unfold fn51 gA;refine Rs (A2 t0 t1) ?_;refine WF.res T.c73 (r73 T (o.ext Xx) sh (gl.ext Xx) (t:=3) De n) ?_;rintro _ g ⟨V,rfl,hV,oV,wV⟩;have st:∀{b':Nat}{a0 a1 a2 a3 a4 a5 a6:AV},km 7 0 (.agg V.row) b' (.b [a0,a1,a2,a3,a4,a5,a6])=some (ay,.set b' (.b V.row)):=λ{_ _ _ _ _ _ _ _}=>oV.st
 rw[yT];by_cases h0:(jY (L.map EV.ev) 3 n).2=0
 case neg=>
  have q:decide ((jY (L.map EV.ev) 3 n).2≠0)=true:=Y5 h0;rw[Zh h0];refine Rs (A4 t0 t1 @st q) ?_;exact⟨_,rfl,.nil⟩
 have q:decide ((jY (L.map EV.ev) 3 n).2≠0)=false:=YW (λz=>z h0);rw[Za (λz=>z h0)];refine Rs (A5 t0 t1 @st q @aG) ?_;have hin:∀x∈V.aC,x.1.bo.length<2^30:=λx hx=>by have:=(wV.md x.1 (Zu hx)).2.1;omega
 have ov1:∀x∈iK V n,x.2.one=true:=λx hx=>oV.jl.2.1 x (aag.1 hx).1
 have hnl:(iK V n).length<=2^30:=by
  have h1:(iK V n).length<=V.aC.length:=by unfold iK;exact ZM _ _
  have:=wV.len.l3;omega
 refine WF.res T.c119 (r119 T (oV.ext Xx) n) ?_;rintro _ g1 ⟨rfl,hp⟩;refine Rs (A2 t0 t1) ?_;refine WF.res T.c118 (r118 T T.c214 (a:=[]) (rz T wV.len hin n _ _) ov1 hnl hp (λk e=>qn.ext hp e)) ?_;rintro v2 g2 h2;refine Rs (A2 t0 t1) ?_;refine WF.res T.c117 (r117 T h2 ov1 Om (λx=>x.1.name) (λx hx k _=>bH.of (a:=[]) (c:=[]) T.c120 (r120 T x (ov1 x hx)))) ?_;rintro v3 g3 h3;refine Rs (A2 t0 t1) ?_;refine⟨_,rfl,?_⟩;have:=h3.aW;rw[<-hV,<-pv,aaE (g:=gY.name)];exact this
end
structure AX(N:Nat)(h:ah)(out:AV)(x:EV):Prop where
 n:Fr N h x.sn 1 (x.ev.names.map aq)
 v:Fr N h x.sv 1 (x.ev.cB.map aL)
 dn:∀j,sB x.sn=some j->sB out≠some j
 dv:∀j,sB x.sv=some j->sB out≠some j
def AX.ok{N h out x}(o:AX N h out x):bh h x:=⟨o.n.aW,o.v.aW⟩
theorem AX.app{N h out x}(o:AX N h out x)(g:ah):AX N (h++g) out x:=⟨o.n.app g,o.v.app g,o.dn,o.dv⟩
def pM(n:By)(e:eD):Bool:=
 match Ef (ju e)with
 |none=>false
 |some 3=>true
 |some i=>decide (aP e i=n)
def KN(l:List eD):List eD:=l.mapIdx λi e=>{e with num:=(i:Int)+1}
def mR(l:List eD)(n:By):List eD×Int:=
 if aS [(bn l).2.2,bX (decide ((bn l).2.2=0) && !dX (bn l).1.now 0 n) 10]≠0 then([],aS [(bn l).2.2,bX (decide ((bn l).2.2=0) && !dX (bn l).1.now 0 n) 10])
 else(KN ((bn l).1.fe.filter (pM n)),0)
section
variable {P:Program}(T:fA P) {h:ah}
include T
def r87{L s}(hs:dW h L s)(hl:L.length<=2^30)(hle:∀x∈L,x.ev.names.length<=2^30/\x.ev.cB.length<=2^30):
  aA P 87 [s,.func (.func 91) [] []] h (λv h'=>∃L':List EV,L'.map EV.ev=L.map EV.ev/\Fr h.length h' v 5 (L'.map EV.row)/\∀x∈L',AX h.length h' v x):=by
 refine .eF 22 T.mix T.c87 ?_;intro ts hlen t0 t1;unfold fn87;refine Rs (A3 t0 t1 hs.sl.aH) ?_;refine WL.inv T.mix (λn ts h'=>∃(k:Nat) (out:AV) (L':List EV) (g:ah),k<=L.length/\n=L.length-k/\h' =h++g/\L'.map EV.ev=(L.take k).map EV.ev/\Fr h.length (h++g) out 5 (L'.map EV.row)/\(∀x∈L',AX h.length (h++g) out x)/\
   ts.length=22/\slot ts 1=.func (.func 91) [] []/\slot ts 5=out/\slot ts 8=s/\slot ts 9=.i L.length/\slot ts 10=.i k) L.length
  ⟨0,.af,[],[],Om,rfl,Si,rfl,.nil,(λx hx=>by cases hx),Sn,(Sq t1),Sw,(Sq t0),Sw,fV⟩ ?_
 rintro _ ts _ ⟨k,out,L',g,hk,rfl,rfl,hm,hfr,hin,hlen,t1,t5,t8,t9,t10⟩;have Wr:L'.length=k:=by have:=Zv List.length hm;simp at this;omega
 by_cases hlt:k<L.length
 ·have e3:=dM hlt;have e5:=wrapN (n:=k) Om;have ix:=hs.sl.c8 (kk:=.i64) hlt;have ld:∀{k'},Ext (h++g) k'->ao (some 5) (cI s 5 k) (λb=>k'[b]?)=some (.agg (EV.row L[k]),.ar):=λ{k'} e=>hs.sl.gS hlt (Ext.trans Xx e)
  obtain⟨x,hx⟩:∃x,x=L[k]:=⟨_,rfl⟩;have Tx:x∈L:=by rw[hx];exact Zb _
  have RX:L.take (k+1)=L.take k++[x]:=by rw[hx,ZJ,YZ hlt];rfl
  rw[<-hx]at ld;have ox:=hs.all x Tx;have st:∀{b':Nat}{a0 a1 a2 a3 a4:AV},km 5 0 (.agg x.row) b' (.b [a0,a1,a2,a3,a4])=some (ay,.set b' (.b x.row)):=λ{_ _ _ _ _ _}=>ox.st
  refine Rs (o8 t1 t5 t8 t9 t10 e3 ix @ld @st @bR) ?_;refine WF.res T.c91 (r91 T x (ox.ext Xx) ⟨by have:=(hle x Tx).1;omega,by have:=(hle x Tx).2;omega⟩) ?_;rintro _ g1 ⟨x',RI,rfl,fn,fv⟩;have Xq:bh (h++g++[ak.b x.row]++g1) x':=⟨by rw[RI];exact fn.aW,by rw[RI];exact fv.aW⟩;have bs:=@bh.Di _ _ Xq;refine Rs (A6 t1 t5 t8 t9 t10 @bs) ?_;refine WR.ff (h0:=h) (cs:=L'.map EV.row) (ys:=[x'.row]) (((hfr.app _).app _).app _) (Fr.push (N:=0) (ZA _) [x'.row] (by intro y hy;rw[Zj]at hy;rw[hy];rfl)).aW De Si (by simp only[Y7,YX,Y6];omega) Xx ?_;intro g' RJ hff hkp;have hrow:L'.map EV.row++[x'.row]=(L'++[x']).map EV.row:=by rw[Y9];rfl
  rw[hrow]at hff;rw[hrow];obtain⟨sn,Sr⟩:∃sn,sn=AV.slice (h++g++[ak.b x.row]++g1++[ak.cells x'.row true true]).length 0 ((L'++[x']).map EV.row).length 5:=⟨_,rfl⟩;rw[<-Sr]at hff ⊢;have Um:∀i,sB sn=some i->(h++g++[ak.b x.row]++g1).length+1=i:=λi hi=>by rw[Sr]at hi;cases hi;simp;omega
  have hout:∀b,sB out=some b->b<(h++g).length:=λb hb=>(hfr.bP hb).2
  have kp:∀i,i<(h++g++[ak.b x.row]++g1).length->sB out≠some i->(h++g')[i]? =(h++g++[ak.b x.row]++g1)[i]? :=λi hi hne=>by
   rw[hkp i (by rw[YT];omega) (λb0 o n e he zz=>hne (by rw[he,zz];rfl)),YY hi]
  refine Rs (A6 t1 t5 t8 t9 t10 e5) ?_;refine⟨_,Om,k+1,sn,L'++[x'],g',Om,rfl,rfl,?_,hff,λy hy=>?_,rfl,rfl⟩
  ·rw[Y9,hm,RX,Y9];simp[RI]
  ·rcases Y8.1 hy with hy|hy
   ·have oy:=hin y hy;have ln:=λj (hj:sB y.sn=some j)=>(oy.n.bP hj).2
    have lv:=λj (hj:sB y.sv=some j)=>(oy.v.bP hj).2
    refine⟨((oy.n.app [ak.b x.row]).app g1).aD λj hj=>kp j (by have:=ln j hj;simp only[YT]at this ⊢;omega) (oy.dn j hj),((oy.v.app [ak.b x.row]).app g1).aD λj hj=>kp j (by have:=lv j hj;simp only[YT]at this ⊢;omega) (oy.dv j hj),λj hj e=>?_,λj hj e=>?_⟩
    ·have h1:=ln j hj;have h2:=Um j e;simp only[YT]at h1 h2;omega
    ·have h1:=lv j hj;have h2:=Um j e;simp only[YT]at h1 h2;omega
   ·rw[Zj]at hy;subst hy;have ln:=λj (hj:sB y.sn=some j)=>fn.bP hj
    have lv:=λj (hj:sB y.sv=some j)=>fv.bP hj
    have en:(h++g++[ak.b x.row]).length=(h++g).length+1:=by rw[YT];rfl
    rw[<-RI]at fn fv;exact Qz
 ·have e3:=eC hlt;have e4:k=L.length:=Om
  refine Rs (A6 t1 t5 t8 t9 t10 e3) ?_;rw[e4,ZD]at hm;exact⟨L',hm,hfr,hin⟩
def r240{x}(ox:bh h x){b i:Nat}(hb:h[b]? =some (.b [.i (i:Int)]))(hi:i<x.ev.names.length)(n:By):aA P 240 [.agg x.row,.str n,.ptr b 0] h (λv _=>v=.bool (decide (aP x.ev i=n))):=by
 refine .mS 13 T.mix T.c240 ?_;intro ts hlen t0 t1 t2;unfold fn240 gA;have Rz:=@bh.box _ _ ox;have lb:∀{k:ah}{n':Option Nat}{a:Nat},Ext h k->ao n' (.ptr b a) (λz=>k[z]?)=dC n' a (.b [.i (i:Int)]):=λe=>az (e.some hb)
 have ix:=ox.n.c8 (kk:=.i64) hi;have ev:aP x.ev i=x.ev.names[i]:=by rw[aP,ZK,YZ hi];rfl
 have ld:∀{k':ah},Ext h k'->ao none (cI x.sn 1 i) (λb=>k'[b]?)=some (.str (aP x.ev i),.ar):=λ{k'} e=>by
  rw[ev];exact ox.n.kS hi rfl e
 exact Rs (A8 t0 t1 t2 @Rz @lb @aN ix @ld) Tv
def r153{x}(ox:bh h x)(n:By):aA P 153 [.agg x.row,.str n] h (λv _=>v=.bool true):=by
 refine .eF 5 T.mix T.c153 ?_;intro ts hlen t0 t1;unfold fn153 gA;have Rz:=@bh.box _ _ ox;exact Rs (A3 t0 t1 @Rz) Tv
def r89{x d}(ox:bh h x)(wx:kj x.ev d){b n}(hb:h[b]? =some (.b [.str n])):aA P 89 [.agg x.row,.ptr b 0] h (λv _=>v=.bool (pM n x.ev)):=by
 refine .eF 18 T.mix T.c89 ?_;intro ts hlen t0 t1;unfold fn89 gA;have Rz:=@bh.box _ _ ox;have lb:∀{k:ah}{n':Option Nat}{a:Nat},Ext h k->ao n' (.ptr b a) (λz=>k[z]?)=dC n' a (.b [.str n]):=λe=>az (e.some hb)
 refine Rs (A3 t0 t1 @Rz) ?_;refine WF.res T.c90 (r90 T) ?_;rintro _ g2 ⟨vf,rfl,hk⟩;have lk:∀{z:AV},iw .s z false (.map (h++[ak.b x.row]).length) (.str x.ev.kind) (λb=>(h++[ak.b x.row]++g2)[b]?)=lC z false ((gO x.ev.kind).map vf):=hk.look;rw[wx.kd]at lk;have Sh:∀{z:AV},_=some (vf d,iI.ar):=@lk;obtain⟨rs,a,hv,hr,ha,hab⟩:=(hk.k d).ex;rw[hv]at Sh;unfold pM;rw[wx.ju];unfold yw at hab;have hnl:=wx.nl;cases RK:Ef d with
 |none=>
  rw[RK]at hab;have hab:a=.nilFunc:=hab;subst hab;have en:nv true (mz .qo .nilFunc .nilFunc)=some (.bool false):=rfl;exact Rs (A6 t0 t1 @bC @bW @Sh @en) Tv
 |some i=>
  rw[RK]at hab;by_cases h3:i=3
  ·subst h3;have hab:a=.func (.func 153) [] []:=hab;subst hab;have en:∀{A C:List AV},nv true (mz .qo (.func (.func 153) A C) .nilFunc)=some (.bool true):=rfl;refine Rs (A8 t0 t1 @bC @bW @Sh @en @bR @lb) ?_;refine WF.ce T.c153 (r153 T (ox.ext Xx) n) λg3=>?_
   exact Rs t0 Tv
  ·obtain⟨b3,rfl,UX⟩:∃b',a=.func (.func 240) [] [.ptr b' 0]/\(h++[ak.b x.row]++g2)[b']? =some (.b [.i (i:Int)]):=by
    split at hab
    ·rename_i hz;cases hz
    ·rename_i hz;cases hz;exact absurd rfl h3
    ·rename_i hz;cases hz;exact hab
   have hil:i<x.ev.names.length:=by
    rw[hnl];cases d<;>simp[Ef]at RK<;>first|(subst RK;decide)|exact absurd RK.symm h3
   have en:∀{A C:List AV},nv true (mz .qo (.func (.func 240) A C) .nilFunc)=some (.bool true):=rfl;refine Rs (A8 t0 t1 @bC @bW @Sh @en @bR @lb) ?_;refine WF.ce T.c240 (a:=[]) (c:=[.ptr b3 0]) (r240 T (ox.ext Xx) (Ext.some Xx UX) hil n) λg3=>?_
   exact Rs t0 Tv
def r26{L s}(o:dW h L s)(sh:uJ L)(gl:Gl h)(n:By):aA P 26 [s,.str n] h (λv k=>∃s' L',v=.dL [s',.i (mR (L.map EV.ev) n).2]/\dW k L' s'/\L'.map EV.ev=(mR (L.map EV.ev) n).1):=by
 refine .eF 54 T.mix T.c26 ?_;intro ts hlen t0 t1;unfold fn26 gA;refine Rs (A2 t0 t1) ?_;refine WF.res T.c78 (r78 T (o.ext Xx) sh (gl.ext Xx)) ?_;intro v g hv;obtain⟨p,Vp⟩:∃p,v=.dL [p,.i (bn (L.map EV.ev)).2.1,.i (bn (L.map EV.ev)).2.2]:=by obtain⟨p,h1,_⟩:=hv;exact⟨p,h1⟩
 rw[Vp];by_cases he:(bn (L.map EV.ev)).2.2=0
 case neg=>
  have q:decide ((bn (L.map EV.ev)).2.2=0)=false:=YW he;refine Rs (A3 t0 t1 q) ?_;refine WF.ce T.c85 (r85 T _ _) λg1=>?_
  refine Rs (A2 t0 t1) ?_;refine WF.ce T.c74 (r74 T (cj [_,_]) Si) λg2=>?_
  have e1:aS [(bn (L.map EV.ev)).2.2,bX false 10]=(bn (L.map EV.ev)).2.2:=by rw[aS,Za he]
  have q2:decide ((bn (L.map EV.ev)).2.2≠0)=true:=Y5 he;rw[e1];refine Rs (A3 t0 t1 q2) ?_;have e2:mR (L.map EV.ev) n=([],(bn (L.map EV.ev)).2.2):=by
   rw[mR,q,abc,e1,Zh he]
  rw[e2];exact z198
 obtain⟨b,V,Vq,oV,hV,wV,UW,hle,hr,hz,wn,hn,on,lo⟩:=sU T hv he;rw[Vp]at Vq;have Yu:p=.ptr b 0:=by injection Vq with h1;injection h1
 rw[Yu];have q:decide ((bn (L.map EV.ev)).2.2=0)=true:=Y5 he;refine Rs (A3 t0 t1 q) ?_;refine WF.ce T.c79 (r79 T (oV.rd.ext Xx) hr) λg1=>?_
 refine Rs (A3 t0 t1 @aG) ?_;refine WF.ce T.c86 (r86 T (on.ext Xx) wn.len (t:=0) De _) λg2=>?_
 refine Rs (A2 t0 t1) ?_;refine WF.ce T.c85 (r85 T _ _) λg3=>?_
 refine Rs (A2 t0 t1) ?_;refine WF.ce T.c74 (r74 T (cj [_,_]) Si) λg4=>?_
 rw[hn];rw[mR,q,aav];obtain⟨f,hf⟩:∃f,f=aS [(bn (L.map EV.ev)).2.2,bX (!dX (bn (L.map EV.ev)).1.now 0 n) 10]:=⟨_,rfl⟩;rw[<-hf];by_cases h0:f=0
 case neg=>
  have q:decide (f≠0)=true:=Y5 h0;rw[Zh h0];refine Rs (A3 t0 t1 q) ?_;exact z198
 have q2:decide (f≠0)=false:=YW (λz=>z h0);rw[Za (λz=>z h0)];obtain⟨Hs,YP⟩:∃Hs,Hs=h++[ak.b [AV.str n]]++g++g1++g2++g3++[ak.cells [AV.i (bn (L.map EV.ev)).2.2,.i (bX (!dX (bn (L.map EV.ev)).1.now 0 n) 10)] true true]++g4:=⟨_,rfl⟩;have oH:yv Hs b V:=by rw[YP];exact oV.rd.ext Xx
 have mn:Hs[h.length]? =some (.b [.str n]):=by rw[YP];exact(show Ext (h++[ak.b [AV.str n]]) _ from Xx).some a8
 rw[<-YP];have hb:=oH.hb;have lb:=@dG _ _ _ hb;have hcl:V.fe.length<=1000:=by
  have e1:=wV.le;have e2:V.bV.fe.length=V.fe.length:=by simp[HV.bV]
  have e3:V.bV.dm.length=V.dm.length:=by simp[HV.bV]
  have e4:(L.map EV.ev).length<=1000:=hle;omega
 have wc:∀x∈V.fe,∃d,kj x.ev d:=λx hx=>wV.cn x.ev (Zu hx)
 have oone:∀x∈V.fe,x.sn.one=true/\x.sv.one=true:=λx hx=>⟨(oH.ac x hx).n.one,(oH.ac x hx).v.one⟩
 refine Rs (A4 t0 t1 q2 @lb) ?_;refine WF.res T.c88 (r88 T oH.ic oone Om (λx=>pM n x.ev) (λx hx k e=>by
  obtain⟨d,wx⟩:=wc x hx;exact bH.of (a:=[]) T.c89 (r89 T ((oH.ac x hx).ext e) wx (e.some mn)))) ?_
 rintro s5 g5 h5;refine Rs (A2 t0 t1) ?_;obtain⟨F,hF⟩:∃F,F=V.fe.filter λx=>pM n x.ev:=⟨_,rfl⟩
 rw[<-hF]at h5;have hFm:∀x∈F,x∈V.fe:=λx hx=>by rw[hF]at hx;exact(aag.1 hx).1
 have hFl:F.length<=1000:=by have:F.length<=V.fe.length:=by(rw[hF];exact ZM _ _)
                             omega
 have oF:dW (Hs++g5) F s5:=⟨h5.aW,λx hx=>(oH.ac x (hFm x hx)).ext Xx⟩;refine WF.res T.c87 (r87 T oF Om (λx hx=>by
  obtain⟨d,wx⟩:=wc x (hFm x hx);have h1:=wx.nl;have h2:=wx.vl;have h3:(bM d).length<=3/\cE d<=3:=by cases d<;>decide
  omega)) ?_
 rintro s6 g6 ⟨L6,XQ,f6,i6⟩;obtain⟨Hb,hHb⟩:∃Hb,Hb=Hs++g5:=⟨_,rfl⟩;rw[<-hHb]at f6 i6 ⊢;have hl6:L6.length=F.length:=by have:=Zv List.length XQ;simpa using this
 refine Rs (A3 t0 t1 f6.aW.aH) ?_;refine WL.inv T.mix (λm ts h'=>∃(k:Nat) (g':ah) (L':List EV),k<=L6.length/\m=L6.length-k/\h' =Hb++g'/\L'.length=L6.length/\(∀i (h1:i<L'.length) (h2:i<L6.length),(L'[i]).ev=if i<k then { (L6[i]).ev with num:=(i:Int)+1} else(L6[i]).ev)/\Fr Hb.length (Hb++g') s6 5 (L'.map EV.row)/\(∀x∈L',AX Hb.length (Hb++g') s6 x)/\
   ts.length=54/\slot ts 10=s6/\slot ts 41=s6/\slot ts 42=.i L6.length/\slot ts 43=.i k) L6.length
  ⟨0,g6,L6,Om,rfl,rfl,rfl,λi _ _=>by rw[Za Om],f6,i6,Sn,Sw,Sw,Sw,fV⟩ ?_
 clear t0 t1 hlen lb;clear ts;rintro _ ts _ ⟨k,g',L',hk,rfl,rfl,hlL,hev,hfr,hin,hlen,t10,t41,t42,t43⟩;by_cases hlt:k<L6.length
 ·have e3:=dM hlt;have e5:=wrapN (n:=k) Om;have R6:k<L'.length:=Om
  have ix:=hfr.aW.c8 (kk:=.i64) R6;refine Rs (A7 t10 t41 t42 t43 e3 e5 ix) ?_;obtain⟨x,hx⟩:∃x,x=L'[k]:=⟨_,rfl⟩;have R3:x∈L':=by rw[hx];exact Zb _
  refine WR.vw (h0:=Hb) (x':={x with ev:={x.ev with num:=((k+1:Nat):Int) } }) hfr R6 De rfl (by rw[<-hx];rfl) ?_;intro g2 hlg hff hkp;have kp:∀j,sB s6≠some j->(Hb++g2)[j]? =(Hb++g')[j]? :=λj hj=>hkp j λb0 o n e he zz=>hj (by rw[he,zz];rfl)
  have Xs:∀y:EV,AX Hb.length (Hb++g') s6 y->AX Hb.length (Hb++g2) s6 y:=λy oy=>⟨oy.n.aD λj hj=>kp j (oy.dn j hj),oy.v.aD λj hj=>kp j (oy.dv j hj),oy.dn,oy.dv⟩
  refine Rs (A5 t10 t41 t42 t43 e5) ?_;refine⟨_,Om,k+1,g2,L'.set k {x with ev:={x.ev with num:=((k+1:Nat):Int) } },Om,rfl,rfl,by rw[ZI];exact hlL,λi h1 h2=>?_,hff,λy hy=>?_,rfl⟩
  ·by_cases TL:i=k
   ·subst TL;simp only[aaX];rw[Zh Om];have:=hev i R6 h2;rw[Za Om]at this;rw[hx,this];rfl
   ·simp only[abo (aai TL)];rw[hev i (by simpa using h1) h2];by_cases hil:i<k
    ·rw[Zh hil,Zh Om]
    ·rw[Za hil,Za Om]
  ·rcases aaJ hy with hy|hy
   ·exact Xs y (hin y hy)
   ·rw[hy];have:=Xs x (hin x R3);exact⟨this.n,this.v,this.dn,this.dv⟩
 ·have e3:=eC hlt;have e4:k=L6.length:=Om
  refine Rs (A5 t10 t41 t42 t43 e3) ?_;refine⟨by rw[hHb,YP];exact Xx,s6,L',rfl,⟨hfr.aW,λx hx=>(hin x hx).ok⟩,?_⟩;have e6:(bn (L.map EV.ev)).1.fe.filter (pM n)=L6.map EV.ev:=by
   rw[XQ,hF,<-hV];show List.filter _ (V.fe.map EV.ev)=_;rw[aa1];rfl
  rw[e6,KN];refine List.ext_getElem (by simp[hlL]) λi h1 h2=>?_
  have h1':i<L'.length:=by simpa using h1
  rw[aab,hev i h1' Om,Zh Om,List.getElem_mapIdx,aab]
end
end Go.Abs
