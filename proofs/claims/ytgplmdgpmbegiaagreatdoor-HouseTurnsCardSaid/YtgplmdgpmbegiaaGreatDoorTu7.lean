/- A part of the proof that HouseTurns holds. No condition. -/
import Derived.Test.YtgplmdgpmbegiaaGreatDoorTu6
import Derived.Test.YtgplmdgpmbegiaaGreatDoorTu0
set_option maxHeartbeats 4000000
set_option linter.all false
open Nat (reduceAdd reduceMul reduceLeDiff reduceEqDiff)
namespace Go.Abs
theorem bh.row{h x}(o:bh h x):x.row.all AV.one=true:=by
 simp only[EV.row,DI,DH,CM,GX,o.n.one,o.v.one,Bool.and_self]
def bh.box{h x}(o:bh h x){N}:p8 (.agg x.row) N=some (.ptr N 0,.push (.b x.row)):=by
 have:(AV.agg x.row).cells=x.row:=rfl;simp only[p8,this,o.row,aan]
def mh{x:EV}:x.row[0]? =some (.i x.ev.num):=rfl
def bB{x:EV}:x.row[1]? =some (.str x.ev.kind):=rfl
def aS{x:EV}:x.row[2]? =some x.sn:=rfl
def bg{x:EV}:x.row[3]? =some x.sv:=rfl
def yG{x:EV}:x.row[4]? =some (.str x.ev.text):=rfl
def bR{x:EV}{mu tl:Bool}:dG (some 5) 0 (.cells x.row mu tl)=some (.agg x.row,.ar):=rfl
def mG(d:Kd):(kE d).one=true:=by cases d<;>rfl
def l9(d:Kd):(pX d).one=true:=by cases d<;>rfl
def yE{l:List (By)}:aQ (l.map λs=>bW (!eE s) 8)=if l.any (λs=>!eE s)then 8 else 0:=by
 induction l with
 |nil=>rfl
 |cons a l ih=>
  rw[aaX,aQ,ih,acu,bW];cases h:eE a<;>simp
def qE{l:List Int}:aQ (l.map λn=>bj n 0 999999999)=if l.any (λn=>decide (bj n 0 999999999≠0))then 3 else 0:=by
 induction l with
 |nil=>rfl
 |cons a l ih=>
  rw[aaX,aQ,ih,acu];by_cases h:bj a 0 999999999=0
  ·simp[h]
  ·have h3:bj a 0 999999999=3:=by unfold bj at h ⊢;split<;>simp_all
   simp[h3]
def uA{n lo hi}(h:bj n lo hi≠0):bj n lo hi=3:=by unfold bj at h ⊢;split<;>simp_all
set_option maxRecDepth 10000
attribute [local irreducible] WP WC WE WB WR WF WL WG fX
section
variable {P:Program}(T:fq P) {h:ah}
include T
def r131(s:By):ay P 131 [.str s] h (λv _=>v=.i (bW (!eE s) 8)):=by
 refine .of T.mix T.c131 ?_;unfold fn131 gA;refine Wn ?_;refine WF.ce T.c132 (r132 T s) λg1=>?_
 refine Wn ?_;refine WF.ce T.c85 (r85 T _ _) λg2=>?_
 exact Wn Tv
def r133(n:Int):ay P 133 [.i n] h (λv _=>v=.i (bj n 0 999999999)):=by
 refine .of T.mix T.c133 ?_;unfold fn133 gA;refine Wn ?_;refine WF.ce T.c94 (r94 T _ _ _) λg1=>?_
 exact Wn Tv
def r67{x:EV}(o:bh h x)(hl:x.ev.names.length<=2^40/\x.ev.cw.length<=2^40):ay P 67 [.agg x.row] h (λv _=>v=.i (eA x.ev)):=by
 refine .kM 53 T.mix T.c67 ?_;intro ts hlen t0;unfold fn67 gA;have SG:=@bh.box _ _ o;refine Rs (A3 t0 @SG @mh) ?_;refine WF.ce T.c94 (r94 T _ _ _) λg1=>?_
 by_cases h0:bj x.ev.num 1 1000=0
 case neg=>
  have e0:decide (bj x.ev.num 1 1000≠0)=true:=Z8 h0;refine Rs (A2 t0 e0) ?_;rw[eA,aai h0];exact aax (AV.int .i64) (uA h0)
 have e0:decide (bj x.ev.num 1 1000≠0)=false:=Z3 (λz=>z h0);refine Rs (A2 t0 e0) ?_;refine WF.res T.c90 (r90 T) ?_;rintro _ g2 ⟨vf,rfl,hk⟩;have lk:∀{z:AV},iU .s z true (.map (h++[ak.b x.row]++g1).length) (.str x.ev.kind) (λb=>(h++[ak.b x.row]++g1++g2)[b]?)=lX z true ((iH x.ev.kind).map vf):=hk.look;cases hd:iH x.ev.kind with
 |none=>
  rw[hd]at lk;have Tr:∀{z:AV},_=some (AV.dW [z,.bool false],jd.ar):=@lk;refine Rs (A6 t0 @bB @bZ @Tr @iZ @aay) ?_;rw[eA,aab (by simpa using h0),hd]
 |some d=>
  rw[hd]at lk;have Tr:∀{z:AV},_=some (AV.dW [vf d,.bool true],jd.ar):=@lk;obtain⟨rs,a,hv,hr,ha,hab⟩:=(hk.k d).ex;rw[hv]at Tr;have hlr:=hr.aH;have c1:=mG d;have c2:=l9 d;have c3:=hr.one;refine Rs (Bo t0 @bB @aS @bg @bZ @Tr @aar @c1 @c2 @c3 @ha @hlr o.n.aH o.v.aH) ?_;have esh:eA x.ev=if x.ev.names.length≠(bN d).length\/x.ev.cw.length≠cF d then 2 else aQ [aQ (x.ev.names.map λs=>bW (!eE s) 8),aQ (x.ev.cw.map λn=>bj n 0 999999999),bW (decide (x.ev.text≠[])) 1]:=by
   rw[eA,aab (by simpa using h0),hd,yE,qE];simp only;split
   ·rfl
   cases x.ev.names.any (λs=>!eE s)with
   |true=>rfl
   |false=>
    cases x.ev.cw.any (λn=>decide (bj n 0 999999999≠0))with
    |true=>rfl
    |false=>by_cases ht:x.ev.text=[]<;>simp[aQ,bW,ht]
  rw[esh];by_cases h1:x.ev.names.length=(bN d).length/\x.ev.cw.length=cF d
  case neg=>
   have e1:(!(decide ((x.ev.names.length:Int)=((bN d).length:Int))&&(decide ((x.ev.cw.length:Int)=(cF d:Int))&&true)))=true:=by
    by_cases q1:x.ev.names.length=(bN d).length
    ·have q2:¬x.ev.cw.length=cF d:=λz=>h1 ⟨q1,z⟩
     have q3:¬(x.ev.cw.length:Int)=(cF d:Int):=Om
     simp[q3]
    ·have q3:¬(x.ev.names.length:Int)=((bN d).length:Int):=Om
     simp[q3]
   rw[e1,aai Om];exact Rs t0 Tv
  have e1:(!(decide ((x.ev.names.length:Int)=((bN d).length:Int))&&(decide ((x.ev.cw.length:Int)=(cF d:Int))&&true)))=false:=by
   rw[h1.1,h1.2];simp
  rw[e1,aab Om];refine Rs (A3 t0 @aS @bg) ?_;refine WF.res T.c130 (r130 T (o.n.ext Xx) hl.1 (λs=>bW (!eE s) 8) (λs _ k _=>bH.of (a:=[]) (c:=[]) T.c131 (r131 T s))) ?_;rintro s6 g6 hf6;refine Rs (A3 t0 @aS @bg) ?_;refine WF.res T.c92 (r92 T (o.v.ext Xx) hl.2 (λn=>bj n 0 999999999) (λn _ k _=>bH.of (a:=[]) (c:=[]) T.c133 (r133 T n))) ?_;rintro s7 g7 hf7;refine Rs (A3 t0 @aS @bg) ?_;refine WF.ce T.c74 (r74 T (hf6.aY.ext Xx) (by simp;omega)) λg8=>?_
  refine Rs t0 ?_;refine WF.ce T.c74 (r74 T (hf7.aY.ext Xx) (by simp;omega)) λg9=>?_
  refine Rs (A2 t0 @yG) ?_;refine WF.ce T.c85 (r85 T _ _) λg10=>?_
  refine Rs t0 ?_;refine WF.ce T.c74 (r74 T (cg [_,_,_]) Si) λg11=>?_
  refine Rs t0 ?_;exact⟨Xx,trivial⟩
end
def RQ:List AV:=[.str eo,.str eo,.str eo,.str mH,.str mH,.str o6,.str o6,.str o6]
def Gl(h:ah):Prop:=∃mu tl,h[0]? =some (.cells RQ mu tl)
def Gl.ext{h k}(o:Gl h)(e:Ext h k):Gl k:=by obtain⟨mu,tl,h1⟩:=o;exact⟨mu,tl,e.some h1⟩
structure Cx(h:ah)(V:RV)(x:EV)(d:Kd):Prop where
 o:aB h V
 w:eS V.an
 e:bh h x
 we:j8 x.ev d
 nk:sU V.an x.ev d
def Cx.nm{h V x d}(c:Cx h V x d){i:Nat}(hi:i<(bN d).length):bf 1 x.sn (.i (i:Int))=some (cI x.sn 1 i,.ar)/\∀{k},Ext h k->ao none (cI x.sn 1 i) (λb=>k[b]?)=some (.str (aL x.ev i),.ar):=by
 have hi':i<x.ev.names.length:=by rw[c.we.nl];exact hi
 refine⟨c.e.n.c6 hi',λ{k} e=>?_⟩;have:aL x.ev i=x.ev.names[i]:=by rw[aL,aaN,Z6 hi'];rfl
 rw[this];exact c.e.n.lC hi' rfl e
theorem Cx.vl{h V x d}(c:Cx h V x d){i:Nat}(hi:i<cF d):bf 1 x.sv (.i (i:Int))=some (cI x.sv 1 i,.ar)/\(∀{k},Ext h k->ao none (cI x.sv 1 i) (λb=>k[b]?)=some (.i (bI x.ev i),.ar))/\0<=bI x.ev i/\bI x.ev i<=999999999:=by
 have hi':i<x.ev.cw.length:=by rw[c.we.vl];exact hi
 have:bI x.ev i=x.ev.cw[i]:=by rw[bI,aaN,Z6 hi'];rfl
 refine⟨c.e.v.c6 hi',λ{k} e=>?_,c.we.vr _ (qR hi')⟩;rw[this];exact c.e.v.lC hi' rfl e
theorem Cx.ext{h k V x d}(c:Cx h V x d)(e:Ext h k):Cx k V x d:=⟨c.o.ext e,c.w,c.e.ext e,c.we,c.nk⟩
def dZ{c e l}(he:e≠0):aQ (bW c e::l)=if c=true then e else aQ l:=by
 cases c<;>simp[aQ,bW,he]
def uN{a b c l}:aQ (bj a b c::l)=if bj a b c≠0 then 3 else aQ l:=by
 by_cases h:bj a b c=0
 ·simp[aQ,h]
 ·simp[aQ,h,uA h]
section
variable {P:Program}(T:fq P) {h:ah}
include T
def r148{V x}(c:Cx h V x .line):ay P 148 [.agg V.row,.agg x.row] h (λv _=>v=.i (bz V.an x.ev .line)):=by
 refine .eX 17 T.mix T.c148 ?_;intro ts hlen t0 t1;unfold fn148 gA;have SG:=@aB.box _ _ c.o;have hex:=@bh.box _ _ c.e;have i1:bf 1 x.sv (.i 1)=_:=(c.vl (i:=1) De).1;have d1:=@(c.vl (i:=1) De).2.1;refine Rs (A7 t0 t1 @SG @hex @bg @i1 @d1) ?_;refine WF.ce T.c94 (r94 T _ _ _) λg1=>?_
 refine Rs (A4 t0 t1 @eJ c.o.i0.aH) ?_;refine WF.ce T.c85 (r85 T _ _) λg2=>?_
 refine Rs (A2 t0 t1) ?_;refine WF.ce T.c74 (r74 T (cg [_,_]) Si) λg3=>?_
 refine Rs (A2 t0 t1) ?_;rw[uN,dZ De,bz];congr 2;simp only[aaK,aQ];congr 1;exact propext ⟨λz=>(by have:V.an.lines.length=V.lines.length:=rfl;omega),λz=>(by have:V.an.lines.length=V.lines.length:=rfl;omega)⟩
def r151{V x}(c:Cx h V x .tape):ay P 151 [.agg V.row,.agg x.row] h (λv _=>v=.i (bz V.an x.ev .tape)):=by
 refine .eX 23 T.mix T.c151 ?_;intro ts hlen t0 t1;unfold fn151;have SG:=@aB.box _ _ c.o;have hex:=@bh.box _ _ c.e;have i0:bf 1 x.sv (.i 0)=_:=(c.vl (i:=0) De).1;have d0:=@(c.vl (i:=0) De).2.1;have i1:bf 1 x.sv (.i 1)=_:=(c.vl (i:=1) De).1;have d1:=@(c.vl (i:=1) De).2.1;have q0:=(c.vl (i:=0) De).2.2;have q1:=(c.vl (i:=1) De).2.2;have hw:IntKind.i64.wrap (bI x.ev 0+bI x.ev 1)=bI x.ev 0+bI x.ev 1:=bD Om Om;refine Rs (mU t0 t1 @SG @hex @bg @i0 @d0 @i1 @d1 @hw) ?_;refine WF.ce T.c85 (r85 T _ _) λg1=>?_
 refine Rs (A4 t0 t1 @gR c.o.i1.aH) ?_;refine WF.ce T.c85 (r85 T _ _) λg2=>?_
 refine Rs (A2 t0 t1) ?_;refine WF.ce T.c74 (r74 T (cg [_,_]) Si) λg3=>?_
 refine Rs (A2 t0 t1) ?_;rw[dZ De,dZ De,bz];congr 1;simp only[aaK,aQ];have e:((16:Int)<=(V.aE.length:Int))=(16<=V.an.aE.length):=propext ⟨λz=>(by have:V.an.aE.length=V.aE.length:=rfl;omega),λz=>(by have:V.an.aE.length=V.aE.length:=rfl;omega)⟩;simp only[e]
def r241{V x n d}(c:Cx h V x d)(hd:0<cF d)(hn:n∈iQ V.an):ay P 241 [.agg V.row,.agg x.row,.str n] h (λv _=>v=.i (bW (!gT V.an (bI x.ev 0) n) 30)):=by
 refine .nC 17 T.mix T.c241 ?_;intro ts hlen t0 t1 t2;unfold fn241 gA;have SG:=@aB.box _ _ c.o;have hex:=@bh.box _ _ c.e;have i0:bf 1 x.sv (.i 0)=_:=(c.vl (i:=0) hd).1;have d0:=@(c.vl (i:=0) hd).2.1;refine Rs (A6 t0 t1 t2 @SG @hex @aG) ?_;refine WF.ce T.c134 (r134 T (c.o.ext Xx) c.w.len hn) λg1=>?_
 refine Rs (A6 t0 t1 t2 @bg @i0 @d0) ?_;refine WF.ce T.c135 (r135 T _ _) λg2=>?_
 refine Rs (A3 t0 t1 t2) ?_;refine WF.ce T.c85 (r85 T _ _) λg3=>?_
 refine Rs (A3 t0 t1 t2) ?_;rfl
def r155{V x}(c:Cx h V x .gK):ay P 155 [.agg V.row,.agg x.row] h (λv _=>v=.i (bz V.an x.ev .gK)):=by
 refine .eX 27 T.mix T.c155 ?_;intro ts hlen t0 t1;unfold fn155;have SG:=@aB.box _ _ c.o;have hex:=@bh.box _ _ c.e;have i1:bf 1 x.sn (.i 1)=_:=(c.nm (i:=1) De).1;have d1:=@(c.nm (i:=1) De).2;have i2:bf 1 x.sn (.i 2)=_:=(c.nm (i:=2) De).1;have d2:=@(c.nm (i:=2) De).2;have k1:aL x.ev 1∈eP V.an:=c.nk.kn 1 0 rfl;have k2:aL x.ev 2∈iQ V.an:=c.nk.kn 2 1 rfl;refine Rs (A8 t0 t1 @SG @hex @aG @aS @i1 @d1) ?_;refine WF.ce T.c205 (r205 T (c.o.ext Xx) c.w.len k1) λg1=>?_
 unfold bw;refine Rs (A2 t0 t1) ?_;refine WF.ce T.c85 (r85 T _ _) λg2=>?_
 refine Rs (A7 t0 t1 @aG @bR @aS @i2 @d2) ?_;refine WF.ce T.c241 (r241 T (c.ext Xx) De k2) λg3=>?_
 refine Rs (A4 t0 t1 @dC c.o.i2.aH) ?_;refine WF.ce T.c85 (r85 T _ _) λg4=>?_
 refine Rs (A2 t0 t1) ?_;refine WF.ce T.c74 (r74 T (cg [_,_,_]) Si) λg5=>?_
 refine Rs (A2 t0 t1) ?_;rw[dZ De,dZ De,dZ De,bz];simp only[aaK,aQ];have e:((64:Int)<=(V.aj.length:Int))=(64<=V.an.aj.length):=by
  have:V.an.aj.length=V.aj.length:=by simp[RV.an]
  exact HI
 simp only[e]
end
def B0{R a b}(ha:a∈iQ R)(hb:b∈iQ R):(decide ((jI R a).name=(jI R b).name)&&(decide ((jI R a).last=(jI R b).last)&&true))=decide (a=b):=by
 have e1:(jI R a).name=a:=fB ha;have e2:(jI R b).name=b:=fB hb;by_cases h:a=b
 ·subst h;simp
 ·rw[e1,e2];simp[h]
section
variable {P:Program}(T:fq P) {h:ah}
include T
def r157{V x}(c:Cx h V x .copy):ay P 157 [.agg V.row,.agg x.row] h (λv _=>v=.i (bz V.an x.ev .copy)):=by
 refine .eX 35 T.mix T.c157 ?_;intro ts hlen t0 t1;unfold fn157;have SG:=@aB.box _ _ c.o;have hex:=@bh.box _ _ c.e;have i0:bf 1 x.sn (.i 0)=_:=(c.nm (i:=0) De).1;have d0:=@(c.nm (i:=0) De).2;have i1:bf 1 x.sn (.i 1)=_:=(c.nm (i:=1) De).1;have d1:=@(c.nm (i:=1) De).2;have k0:aL x.ev 0∈iQ V.an:=c.nk.kn 0 1 rfl;have k1:aL x.ev 1∈iQ V.an:=c.nk.kn 1 1 rfl;refine Rs (A8 t0 t1 @SG @hex @aG @aS @i0 @d0) ?_;refine WF.ce T.c134 (r134 T (c.o.ext Xx) c.w.len k0) λg1=>?_
 refine Rs (A6 t0 t1 @aG @aS @i1 @d1) ?_;refine WF.ce T.c134 (r134 T (c.o.ext Xx) c.w.len k1) λg2=>?_
 unfold cB;refine Rs (A2 t0 t1) ?_;refine WF.ce T.c85 (r85 T _ _) λg3=>?_
 rw[B0 k0 k1];have n0:(jI V.an (aL x.ev 0)).name=aL x.ev 0:=fB k0;have n1:(jI V.an (aL x.ev 1)).name=aL x.ev 1:=fB k1;refine Rs (A6 t0 t1 @aG @bR @n0 @n1) ?_;refine WF.ce T.c241 (r241 T (c.ext Xx) De k0) λg4=>?_
 refine Rs (A6 t0 t1 @aG @bR @n0 @n1) ?_;refine WF.ce T.c241 (r241 T (c.ext Xx) De k1) λg5=>?_
 refine Rs (A2 t0 t1) ?_;refine WF.ce T.c74 (r74 T (cg [_,_,_]) Si) λg6=>?_
 refine Rs (A2 t0 t1) ?_;rw[dZ De,dZ De,dZ De,bz];simp only[aaK,aQ];exact⟨Xx,trivial⟩
def r161{V x}(o:aB h V)(e:bh h x):ay P 161 [.agg V.row,.agg x.row] h (λv _=>v=.i (bW (decide (32<=V.an.aC.length)) 5)):=by
 refine .eX 10 T.mix T.c161 ?_;intro ts hlen t0 t1;unfold fn161 gA;have SG:=@aB.box _ _ o;have hex:=@bh.box _ _ e;refine Rs (A6 t0 t1 @SG @hex @eU o.i3.aH) ?_;refine WF.ce T.c85 (r85 T _ _) λg1=>?_
 refine Rs (A2 t0 t1) ?_;have e:decide ((32:Int)<=(V.aC.length:Int))=decide (32<=V.an.aC.length):=by
  have:V.an.aC.length=V.aC.length:=by simp[RV.an]
  rw[abK];omega
 rw[e]
def r244{V x d}(c:Cx h V x d)(hd:0<cF d){y}(hm:y∈V.aj){b b'}(hb:h[b]? =some (.b V.row))(hb':h[b']? =some (.b x.row)):
  ay P 244 [.agg (aU y),.ptr b 0,.ptr b' 0] h (λv _=>v=.bool (!eD V.an y.1 (bI x.ev 0))):=by
 refine .nC 13 T.mix T.c244 ?_;intro ts hlen t0 t1 t2;unfold fn244 gA;have oy:=(c.o.e2 y hm).one;have lb:∀{k:ah}{n:Option Nat}{a:Nat},Ext h k->ao n (.ptr b a) (λz=>k[z]?)=dG n a (.b V.row):=λe=>aA (e.some hb)
 have lc:∀{k:ah}{n:Option Nat}{a:Nat},Ext h k->ao n (.ptr b' a) (λz=>k[z]?)=dG n a (.b x.row):=λe=>aA (e.some hb')
 have i0:bf 1 x.sv (.i 0)=_:=(c.vl (i:=0) hd).1;have d0:=@(c.vl (i:=0) hd).2.1;have hsf:=λ(k:ah) (e:Ext h k)=>r76 T (c.o.ext e) c.w.len ((c.o.e2 y hm).ext e) (c.w.vj.sh y hm).2 (c.w.vj.sh y hm).1 (bI x.ev 0)
 unfold aU at t0 hsf;refine Rs (mU t0 t1 t2 @oy @lb @lc @aG @bg @i0 @d0) ?_;refine WF.ce T.c76 (hsf _ Xx) λg1=>?_
 exact GF
def r159{V x}(c:Cx h V x .accept):ay P 159 [.agg V.row,.agg x.row] h (λv _=>v=.i (bz V.an x.ev .accept)):=by
 refine .eX 36 T.mix T.c159 ?_;intro ts hlen t0 t1;unfold fn159;have SG:=@aB.box _ _ c.o;have hex:=@bh.box _ _ c.e;have i0:bf 1 x.sn (.i 0)=_:=(c.nm (i:=0) De).1;have d0:=@(c.nm (i:=0) De).2;have k0:aL x.ev 0∈eP V.an:=c.nk.kn 0 0 rfl;refine Rs (A8 t0 t1 @SG @hex @aG @aS @i0 @d0) ?_;refine WF.ce T.c205 (r205 T (c.o.ext Xx) c.w.len k0) λg1=>?_
 unfold bw;refine Rs (A6 t0 t1 @aG @aS @i0 @d0) ?_;refine WF.res T.c206 (r206 T (c.o.ext Xx) c.w.len _) ?_;rintro s2 g2 To;refine Rs (A2 t0 t1) ?_;have hin:∀y∈V.aj.filter (λy=>decide (y.1.line=aL x.ev 0)),y∈V.aj:=λy hy=>(aa6.1 hy).1
 have Tg:(V.aj.filter (λy=>decide (y.1.line=aL x.ev 0))).length<=V.aj.length:=aaF _ _;have U5:=c.w.len.l2;refine WF.res T.c243 (r243 T (To.ext Xx) Om (λy=>!eD V.an y.1 (bI x.ev 0)) (λy hy k e=>bH.of (a:=[]) (c:=[.ptr h.length 0,.ptr (h++[ak.b V.row]).length 0]) T.c244 (r244 T (c.ext (Ext.trans Xx e)) De (hin y hy) (e.some ?_) (e.some ?_)))) ?_
 ·exact uR
 ·exact ti
 rintro _ g3 rfl;refine Rs (A2 t0 t1) ?_;refine WF.ce T.c85 (r85 T _ _) λg4=>?_
 have hl2:=To.aH;refine Rs (A3 t0 t1 @hl2) ?_;refine WF.ce T.c85 (r85 T _ _) λg5=>?_
 refine Rs (A2 t0 t1) ?_;refine WF.ce T.c85 (r85 T _ _) λg6=>?_
 refine Rs (A2 t0 t1) ?_;refine WF.ce T.c74 (r74 T (cg [_,_,_]) Si) λg7=>?_
 refine Rs (A2 t0 t1) ?_;rw[dZ De,dZ De,dZ De,bz];have e1:(tJ V.an (aL x.ev 0))=(V.aj.filter (λy=>decide (y.1.line=aL x.ev 0))).map Prod.fst:=by
  show List.filter _ (List.map Prod.fst V.aj)=_;rw[abA];rfl
 rw[e1,aaa,List.any_map];simp only[aaK,aQ];refine⟨Xx,?_⟩;rfl
def r163{V x}(c:Cx h V x .gu)(gl:Gl h):ay P 163 [.agg V.row,.agg x.row] h (λv _=>v=.i (bz V.an x.ev .gu)):=by
 refine .eX 35 T.mix T.c163 ?_;intro ts hlen t0 t1;unfold fn163;have SG:=@aB.box _ _ c.o;have hex:=@bh.box _ _ c.e;have i1:bf 1 x.sn (.i 1)=_:=(c.nm (i:=1) De).1;have d1:=@(c.nm (i:=1) De).2;have j1:bf 1 x.sv (.i 1)=_:=(c.vl (i:=1) De).1;have f1:=@(c.vl (i:=1) De).2.1;have k1:aL x.ev 1∈iC V.an:=c.nk.kn 1 3 rfl;obtain⟨gmu,gtl,hg0⟩:=gl;rw[bz];by_cases hn:1<=bI x.ev 1/\bI x.ev 1<=4
 case neg=>
  have hr:bj (bI x.ev 1) 1 4≠0:=by unfold bj;rw[aai Om];decide
  rw[aai hr];by_cases ha:bI x.ev 1<1
  ·have q1:decide (bI x.ev 1<1)=true:=Z8 ha;exact Rs (A8 t0 t1 @SG @hex @bg @j1 @f1 q1) Tv
  ·have q1:decide (bI x.ev 1<1)=false:=Z3 ha;have q2:decide (4<bI x.ev 1)=true:=Z8 Om;exact Rs (A9 t0 t1 @SG @hex @bg @j1 @f1 q1 q2) Tv
 have hr:¬bj (bI x.ev 1) 1 4≠0:=by unfold bj;rw[aab Om];decide
 rw[aab hr];have q1:decide (bI x.ev 1<1)=false:=Z3 Om;have q2:decide (4<bI x.ev 1)=false:=Z3 Om;have hw:IntKind.i64.wrap (bI x.ev 1-1)=bI x.ev 1-1:=bD Om Om;have a1:ng 4 2 (.ptr 0 0) (.i (bI x.ev 1-1))=some (.ptr 0 ((bI x.ev 1-1).toNat*2)):=by simp only[ng];rw[aai Om,aaP]
 have a2:ng 2 1 (.ptr 0 ((bI x.ev 1-1).toNat*2)) (.i 0)=some (.ptr 0 ((bI x.ev 1-1).toNat*2)):=by simp[ng]
 have lg:∀{k:ah},Ext h k->ao none (.ptr 0 ((bI x.ev 1-1).toNat*2)) (λb=>k[b]?)=some (.str (nA (bI x.ev 1)),.ar):=by
  intro k e;exact Rb
 refine Rs (D3 t0 t1 @SG @hex @aS @bg @j1 @f1 q1 q2 @aG @i1 @d1) ?_;refine WF.res T.c245 (r245 T (c.o.ext Xx) c.w.len k1) ?_;rintro _ g1 ⟨y,hy,Ww,rfl⟩;unfold aR;refine Rs (A6 t0 t1 @hw @a1 @a2 @lg) ?_;refine WF.ce T.c85 (r85 T _ _) λg2=>?_
 refine Rs (A4 t0 t1 @aG @bR) ?_;refine WF.ce T.c161 (r161 T (c.o.ext Xx) (c.e.ext Xx)) λg3=>?_
 refine Rs (A2 t0 t1) ?_;refine WF.ce T.c74 (r74 T (cg [_,_]) Si) λg4=>?_
 refine Rs (A2 t0 t1) ?_;rw[dZ De,dZ De,Ww];simp only[aaK,aQ]
def r165{V x}(c:Cx h V x .merge):ay P 165 [.agg V.row,.agg x.row] h (λv _=>v=.i (bz V.an x.ev .merge)):=by
 refine .eX 36 T.mix T.c165 ?_;intro ts hlen t0 t1;unfold fn165;have SG:=@aB.box _ _ c.o;have hex:=@bh.box _ _ c.e;have i1:bf 1 x.sn (.i 1)=_:=(c.nm (i:=1) De).1;have d1:=@(c.nm (i:=1) De).2;have i2:bf 1 x.sn (.i 2)=_:=(c.nm (i:=2) De).1;have d2:=@(c.nm (i:=2) De).2;have k1:aL x.ev 1∈iC V.an:=c.nk.kn 1 3 rfl;have k2:aL x.ev 2∈iC V.an:=c.nk.kn 2 3 rfl;refine Rs (A9 t0 t1 @SG @hex @aS @i1 @d1 @i2 @d2) ?_;refine WF.ce T.c85 (r85 T _ _) λg1=>?_
 refine Rs (A6 t0 t1 @aG @aS @i1 @d1) ?_;refine WF.res T.c245 (r245 T (c.o.ext Xx) c.w.len k1) ?_;rintro _ g2 ⟨y,hy,Ww,rfl⟩;unfold aR;refine Rs (A6 t0 t1 @aG @aS @i2 @d2) ?_;refine WF.res T.c245 (r245 T (c.o.ext Xx) c.w.len k2) ?_;rintro _ g3 ⟨z,hz,hz1,rfl⟩;unfold aR;refine Rs (A2 t0 t1) ?_;refine WF.ce T.c85 (r85 T _ _) λg4=>?_
 refine Rs (A4 t0 t1 @aG @bR) ?_;refine WF.ce T.c161 (r161 T (c.o.ext Xx) (c.e.ext Xx)) λg5=>?_
 refine Rs (A2 t0 t1) ?_;refine WF.ce T.c74 (r74 T (cg [_,_,_]) Si) λg6=>?_
 refine Rs (A2 t0 t1) ?_;rw[dZ De,dZ De,dZ De,bz,Ww,hz1];simp only[aaK,aQ]
def r247(y:gN):ay P 247 [.agg (bw y)] h (λv _=>v=.bool (!y.acc)):=by
 refine .of T.mix T.c247 ?_;unfold fn247 gA bw;exact Wn Tv
def r167{V x}(c:Cx h V x .run):ay P 167 [.agg V.row,.agg x.row] h (λv _=>v=.i (bz V.an x.ev .run)):=by
 refine .eX 27 T.mix T.c167 ?_;intro ts hlen t0 t1;unfold fn167 gA;have SG:=@aB.box _ _ c.o;have hex:=@bh.box _ _ c.e;have i1:bf 1 x.sn (.i 1)=_:=(c.nm (i:=1) De).1;have d1:=@(c.nm (i:=1) De).2;have j1:bf 1 x.sv (.i 1)=_:=(c.vl (i:=1) De).1;have f1:=@(c.vl (i:=1) De).2.1;have hin:∀y∈V.aC,y.1.bC.length<2^30:=λy hy=>by have:=(c.w.md y.1 (aao hy)).2.1;omega
 refine Rs (A8 t0 t1 @SG @hex @aG @aS @i1 @d1) ?_;refine WF.res T.c122 (r122 T (c.o.ext Xx) c.w.len hin _) ?_;rintro s1 g1 UI;have hsl:(jl V.an (aL x.ev 1)).length<=V.lines.length:=aaF _ _;have U5:=c.w.len.l0;refine Rs (A2 t0 t1) ?_;refine WF.ce T.c246 (r246 T UI Om (λy=>!y.acc) (λy hy k e=>bH.of (a:=[]) (c:=[]) T.c247 (r247 T y))) λg2=>?_
 refine Rs (A2 t0 t1) ?_;refine WF.ce T.c85 (r85 T _ _) λg3=>?_
 refine Rs (A5 t0 t1 @bg @j1 @f1) ?_;refine WF.ce T.c94 (r94 T _ _ _) λg4=>?_
 refine Rs (A4 t0 t1 @fc c.o.i4.aH) ?_;refine WF.ce T.c85 (r85 T _ _) λg5=>?_
 refine Rs (A2 t0 t1) ?_;refine WF.ce T.c74 (r74 T (cg [_,_,_]) Si) λg6=>?_
 refine Rs (A2 t0 t1) ?_;rw[dZ De,uN,dZ De,bz];simp only[aaK,aQ];have e:((16:Int)<=(V.aF.length:Int))=(16<=V.an.aF.length):=by
  have:V.an.aF.length=V.aF.length:=by simp[RV.an]
  exact HI
 simp only[e]
end
theorem tP:∀{l m}{i},cZ (l++m) i=cZ l i++cZ m (i+l.length)
 |[],m,i=>by simp[cZ]
 |x::l,m,i=>by
  have e:i+1+l.length=i+(x::l).length:=by simp;omega
  rw[abe,cZ,cZ,tP,e];split<;>simp
theorem kD:∀{l}{i},(cZ l i).length<=l.length
 |[],i=>by simp[cZ]
 |x::l,i=>by
  have:=kD (l:=l) (i:=i+1);rw[cZ];split<;>simp<;>omega
section
variable {P:Program}(T:fq P) {h:ah}
include T
def r125{x}(hx:aI h x.2 1 (x.1.bE.map aM))(hl:x.1.bE.length<2^30)(hs:∀s∈x.1.bE,-1<=s):ay P 125 [.agg (bF x)] h (λv h'=>aI h' v 1 ((cZ x.1.bE 0).map aM)):=by
 refine .kM 23 T.mix T.c125 ?_;intro ts hlen t0;unfold fn125 gA;have ox:=hx.one;unfold bF at t0;refine Rs (A3 t0 @ox hx.aH) ?_;obtain⟨H0,Vj⟩:∃H0,H0=h++[ak.b [AV.str x.1.name,.str x.1.mod,x.2]]:=⟨_,rfl⟩;have e0:Ext h H0:=by rw[Vj];exact Xx
 have lb:∀{k n a},Ext H0 k->ao n (.ptr h.length a) (λz=>k[z]?)=dG n a (.b [AV.str x.1.name,.str x.1.mod,x.2]):=λ{_ _ _} e=>aA (e.some (by rw[Vj];exact ba))
 rw[<-Vj];refine WL.inv T.mix (λn ts h'=>∃(k:Nat) (out:AV),k<=x.1.bE.length/\n=x.1.bE.length-k/\Ext H0 h'/\Fr H0.length h' out 1 ((cZ (x.1.bE.take k) 0).map aM)/\
   ts.length=23/\slot ts 1=.ptr h.length 0/\slot ts 3=out/\slot ts 7=.i x.1.bE.length/\slot ts 8=.i k) x.1.bE.length
  ⟨0,.af,Om,rfl,Ext.refl _,.nil,Sn,(Sq t0),(Sq t0),(Sq t0),ga⟩ ?_
 rintro _ ts _ ⟨k,out,hk',rfl,⟨g,rfl⟩,hfr,hlen,t1,t3,t7,t8⟩;by_cases hlt:k<x.1.bE.length
 ·have e3:=dN hlt;have ix:=hx.c6 (kk:=.i64) hlt;have ld:∀{k':ah},Ext H0 k'->ao none (cI x.2 1 k) (λb=>k'[b]?)=some (.i x.1.bE[k],.ar):=λ{k'} e=>hx.lC hlt rfl (e0.trans e)
  have e5:=wrapN (n:=k) Om;have S9:cZ (x.1.bE.take (k+1)) 0=cZ (x.1.bE.take k) 0++(if x.1.bE[k]<0 then [(k:Int)]else []):=by
   exact Ra
  have hsk:=hs _ (aad hlt);by_cases hn:x.1.bE[k]= -1
  ·have q:decide (x.1.bE[k]= -1)=true:=Z8 hn;rw[aai Om]at S9;refine Rs (A9 t1 t3 t7 t8 e3 @lb ix @ld q) ?_;have U5:=kD (l:=x.1.bE.take k) (i:=0);refine WR.fg (h0:=H0) (cs:=(cZ (x.1.bE.take k) 0).map aM) (ys:=[aM (k:Int)]) (hfr.app _) (Fr.push (N:=0) (aaC _) [aM (k:Int)] Si).aY De Si (by simp only[aaa,aaQ,Z5,Z9]at U5 ⊢;omega) Xx ?_;intro g' SP hff hkp;have hrow:(cZ (x.1.bE.take k) 0).map aM++[aM (k:Int)]=(cZ (x.1.bE.take (k+1)) 0).map aM:=by rw[S9,aae];rfl
   rw[hrow]at hff;rw[hrow];refine Rs (A5 t1 t3 t7 t8 e5) ?_;exact HC
  ·have q:decide (x.1.bE[k]= -1)=false:=Z3 hn;rw[aab Om,aaw]at S9;rw[<-S9]at hfr;refine Rs (mU t1 t3 t7 t8 e3 @lb ix @ld q e5) ?_;exact⟨_,Om,k+1,_,Om,rfl,hfr,rfl,rfl⟩
 ·have e3:=eF hlt;have e4:k=x.1.bE.length:=Om
  rw[e4,aaI]at hfr;have:=hfr.aY;refine Rs (A5 t1 t3 t7 t8 e3) ?_;exact⟨e0.trans Xx,this⟩
def r249{V x d}(c:Cx h V x d)(hd:1<cF d)(h0:0<(bN d).length)(k0:aL x.ev 0∈jg V.an):ay P 249 [.agg V.row,.agg x.row] h (λv _=>v=.i (kh V.an x.ev)):=by
 refine .eX 28 T.mix T.c249 ?_;intro ts hlen t0 t1;unfold fn249;have SG:=@aB.box _ _ c.o;have hex:=@bh.box _ _ c.e;have i0:bf 1 x.sn (.i 0)=_:=(c.nm (i:=0) h0).1;have d0:=@(c.nm (i:=0) h0).2;have j1:bf 1 x.sv (.i 1)=_:=(c.vl (i:=1) hd).1;have f1:=@(c.vl (i:=1) hd).2.1;have q1:=(c.vl (i:=1) hd).2.2;refine Rs (A8 t0 t1 @SG @hex @aG @aS @i0 @d0) ?_;refine WF.ce T.c251 (r251 T (c.o.ext Xx) c.w.len _) λg1=>?_
 refine Rs (A2 t0 t1) ?_;refine WF.ce T.c85 (r85 T _ _) λg2=>?_
 refine Rs (A9 t0 t1 @bg @j1 @f1 @aG @aS @i0 @d0) ?_;refine WF.res T.c124 (r124 T (c.o.ext Xx) c.w.len k0) ?_;rintro _ g3 ⟨y,hy,Ww,rfl⟩;have Uk:=(c.o.e4 y hy).aH;have VH:=(c.w.jb y.1 (aao hy)).2;have hw:IntKind.i64.wrap ((y.1.bE.length:Int)-1)=(y.1.bE.length:Int)-1:=bD Om Om;unfold bF;refine Rs (A4 t0 t1 @Uk @hw) ?_;refine WF.ce T.c94 (r94 T _ _ _) λg4=>?_
 refine Rs (A2 t0 t1) ?_;refine WF.ce T.c74 (r74 T (cg [_,_]) Si) λg5=>?_
 refine Rs (A2 t0 t1) ?_;rw[dZ De,uN,kh,<-Ww];have e:(bj (bI x.ev 1) 0 ((y.1.bE.length:Int)-1)≠0)=((y.1.bE.length:Int)<=bI x.ev 1):=by
  unfold bj;refine propext ⟨λz=>?_,λz=>?_⟩
  ·split at z
   ·omega
   ·exact absurd rfl z
  ·rw[aai Om];decide
 simp only[e,aQ]
def r169{V x}(c:Cx h V x .gp):ay P 169 [.agg V.row,.agg x.row] h (λv _=>v=.i (bz V.an x.ev .gp)):=by
 refine .eX 27 T.mix T.c169 ?_;intro ts hlen t0 t1;unfold fn169 gA;have SG:=@aB.box _ _ c.o;have hex:=@bh.box _ _ c.e;have i0:bf 1 x.sn (.i 0)=_:=(c.nm (i:=0) De).1;have d0:=@(c.nm (i:=0) De).2;have j1:bf 1 x.sv (.i 1)=_:=(c.vl (i:=1) De).1;have f1:=@(c.vl (i:=1) De).2.1;have q1:=(c.vl (i:=1) De).2.2;have k0:aL x.ev 0∈jg V.an:=c.nk.kn 0 4 rfl;refine Rs (A6 t0 t1 @SG @hex @aG @bR) ?_;refine WF.ce T.c249 (r249 T (c.ext Xx) De De k0) λg1=>?_
 by_cases hb:kh V.an x.ev=0
 case neg=>
  exact z127
 have e1:decide (kh V.an x.ev≠0)=false:=Z3 (λz=>z hb);refine Rs (A7 t0 t1 e1 @aG @aS @i0 @d0) ?_;refine WF.res T.c124 (r124 T (c.o.ext Xx) c.w.len k0) ?_;rintro _ g2 ⟨y,hy,Ww,rfl⟩;have VH:=(c.w.jb y.1 (aao hy)).2;have hlt:(bI x.ev 1).toNat<y.1.bE.length:=by
  exact z168
 have Yo:bI x.ev 1=((bI x.ev 1).toNat:Int):=Om
 have iy:bf 1 y.2 (.i (bI x.ev 1))=some (cI y.2 1 (bI x.ev 1).toNat,.ar):=by
  rw[Yo];exact(c.o.e4 y hy).c6 hlt
 have hsm:fY V.an x.ev=y.1.bE[(bI x.ev 1).toNat]:=by
  exact KG
 have ly:∀{k:ah},Ext h k->ao none (cI y.2 1 (bI x.ev 1).toNat) (λb=>k[b]?)=some (.i (fY V.an x.ev),.ar):=λ{k} e=>by
  rw[hsm];exact(c.o.e4 y hy).lC hlt rfl e
 have hsb:=VH.2.2 _ (aad hlt);rw[<-hsm]at hsb;unfold bF;refine Rs (A7 t0 t1 @bg @j1 @f1 @iy @ly) ?_;refine WF.ce T.c85 (r85 T _ _) λg3=>?_
 refine Rs (A2 t0 t1) ?_;rw[bz,aab (λz=>z hb),bW];have e2:(decide (fY V.an x.ev≠-1)=true)=(0<=fY V.an x.ev):=by
  exact KD
 simp only[e2]
def r171{V x}(c:Cx h V x .fail):ay P 171 [.agg V.row,.agg x.row] h (λv _=>v=.i (bz V.an x.ev .fail)):=by
 refine .eX 27 T.mix T.c171 ?_;intro ts hlen t0 t1;unfold fn171;have SG:=@aB.box _ _ c.o;have hex:=@bh.box _ _ c.e;have i0:bf 1 x.sn (.i 0)=_:=(c.nm (i:=0) De).1;have d0:=@(c.nm (i:=0) De).2;have j1:bf 1 x.sv (.i 1)=_:=(c.vl (i:=1) De).1;have f1:=@(c.vl (i:=1) De).2.1;have q1:=(c.vl (i:=1) De).2.2;have k0:aL x.ev 0∈jg V.an:=c.nk.kn 0 4 rfl;refine Rs (A6 t0 t1 @SG @hex @aG @bR) ?_;refine WF.ce T.c249 (r249 T (c.ext Xx) De De k0) λg1=>?_
 by_cases hb:kh V.an x.ev=0
 case neg=>
  exact z127
 have e1:decide (kh V.an x.ev≠0)=false:=Z3 (λz=>z hb);refine Rs (A7 t0 t1 e1 @aG @aS @i0 @d0) ?_;refine WF.res T.c124 (r124 T (c.o.ext Xx) c.w.len k0) ?_;rintro _ g2 ⟨y,hy,Ww,rfl⟩;have VH:=(c.w.jb y.1 (aao hy)).2;have hlt:(bI x.ev 1).toNat<y.1.bE.length:=by
  exact z168
 have Yo:bI x.ev 1=((bI x.ev 1).toNat:Int):=Om
 have iy:bf 1 y.2 (.i (bI x.ev 1))=some (cI y.2 1 (bI x.ev 1).toNat,.ar):=by
  rw[Yo];exact(c.o.e4 y hy).c6 hlt
 have hsm:fY V.an x.ev=y.1.bE[(bI x.ev 1).toNat]:=by
  exact KG
 have ly:∀{k:ah},Ext h k->ao none (cI y.2 1 (bI x.ev 1).toNat) (λb=>k[b]?)=some (.i (fY V.an x.ev),.ar):=λ{k} e=>by
  rw[hsm];exact(c.o.e4 y hy).lC hlt rfl e
 have hsb:=VH.2.2 _ (aad hlt);rw[<-hsm]at hsb;unfold bF;refine Rs (A7 t0 t1 @bg @j1 @f1 @iy @ly) ?_;refine WF.ce T.c85 (r85 T _ _) λg3=>?_
 refine Rs (A2 t0 t1) ?_;rw[bz,aab (λz=>z hb),bW];have e2:(decide (fY V.an x.ev= -1)=true)=(fY V.an x.ev<0):=by
  exact KD
 simp only[e2]
def r173{V x}(c:Cx h V x .gL):ay P 173 [.agg V.row,.agg x.row] h (λv _=>v=.i (bz V.an x.ev .gL)):=by
 refine .eX 31 T.mix T.c173 ?_;intro ts hlen t0 t1;unfold fn173;have SG:=@aB.box _ _ c.o;have hex:=@bh.box _ _ c.e;have i1:bf 1 x.sn (.i 1)=_:=(c.nm (i:=1) De).1;have d1:=@(c.nm (i:=1) De).2;have k1:aL x.ev 1∈jg V.an:=c.nk.kn 1 4 rfl;refine Rs (A8 t0 t1 @SG @hex @aG @aS @i1 @d1) ?_;refine WF.res T.c124 (r124 T (c.o.ext Xx) c.w.len k1) ?_;rintro _ g1 ⟨y,hy,Ww,rfl⟩;have VH:=(c.w.jb y.1 (aao hy)).2;refine Rs (A2 t0 t1) ?_;refine WF.res T.c125 (r125 T (x:=y) ((c.o.e4 y hy).ext Xx) Om (λs hs=>(VH.2.2 s hs).1)) ?_;rintro s2 g2 To;have hl2:=To.aH;refine Rs (A6 t0 t1 @aG @aS @i1 @d1) ?_
 refine WF.ce T.c251 (r251 T (c.o.ext Xx) c.w.len _) λg3=>?_
 refine Rs (A2 t0 t1) ?_;refine WF.ce T.c85 (r85 T _ _) λg4=>?_
 refine Rs (A3 t0 t1 @hl2) ?_;refine WF.ce T.c85 (r85 T _ _) λg5=>?_
 refine Rs (A4 t0 t1 @fL c.o.i5.aH) ?_;refine WF.ce T.c85 (r85 T _ _) λg6=>?_
 refine Rs (A2 t0 t1) ?_;refine WF.ce T.c74 (r74 T (cg [_,_,_]) Si) λg7=>?_
 refine Rs (A2 t0 t1) ?_;rw[dZ De,dZ De,dZ De,bz,<-Ww];have e1:(decide ((0:Int)<((cZ y.1.bE 0).length:Int))=true)=(cZ y.1.bE 0≠[]):=by
  rw[aaK];refine propext ⟨λz e=>by rw[e]at z;simp at z,λz=>by have:=abV.2 z;omega⟩
 have e2:(decide ((16:Int)<=(V.aJ.length:Int))=true)=(16<=V.an.aJ.length):=by
  rw[aaK];have:V.an.aJ.length=V.aJ.length:=rfl;exact HI
 simp only[e1,e2,aQ];exact⟨Xx,trivial⟩
def r175{V x}(c:Cx h V x .rel):ay P 175 [.agg V.row,.agg x.row] h (λv _=>v=.i (bz V.an x.ev .rel)):=by
 refine .eX 13 T.mix T.c175 ?_;intro ts hlen t0 t1;unfold fn175 gA;have SG:=@aB.box _ _ c.o;have hex:=@bh.box _ _ c.e;have i0:bf 1 x.sn (.i 0)=_:=(c.nm (i:=0) De).1;have d0:=@(c.nm (i:=0) De).2;have k0:aL x.ev 0∈lK V.an:=c.nk.kn 0 5 rfl;refine Rs (A8 t0 t1 @SG @hex @aG @aS @i0 @d0) ?_;refine WF.ce T.c218 (r218 T (c.o.ext Xx) c.w.len k0) λg1=>?_
 unfold cD;refine Rs (A2 t0 t1) ?_;refine WF.ce T.c85 (r85 T _ _) λg2=>?_
 refine Rs (A2 t0 t1) ?_;rw[bz,bW]
def QD{V x d}(hd:d≠.dR)(c:Cx h V x d)(gl:Gl h):bH P (kE d) [.agg V.row,.agg x.row] h (λv _=>v=.i (bz V.an x.ev d)):=by
 cases d with
 |dR=>exact absurd rfl hd
 |line=>exact bH.of (a:=[]) (c:=[]) T.c148 (r148 T c)
 |tape=>exact bH.of (a:=[]) (c:=[]) T.c151 (r151 T c)
 |gK=>exact bH.of (a:=[]) (c:=[]) T.c155 (r155 T c)
 |copy=>exact bH.of (a:=[]) (c:=[]) T.c157 (r157 T c)
 |accept=>exact bH.of (a:=[]) (c:=[]) T.c159 (r159 T c)
 |source=>
  refine bH.of (a:=[]) (c:=[]) T.c161 ((r161 T c.o c.e).mono λv g hv=>?_);rw[hv,bz,bW];simp only[aaK]
 |gu=>exact bH.of (a:=[]) (c:=[]) T.c163 (r163 T c gl)
 |merge=>exact bH.of (a:=[]) (c:=[]) T.c165 (r165 T c)
 |run=>exact bH.of (a:=[]) (c:=[]) T.c167 (r167 T c)
 |gp=>exact bH.of (a:=[]) (c:=[]) T.c169 (r169 T c)
 |fail=>exact bH.of (a:=[]) (c:=[]) T.c171 (r171 T c)
 |gL=>exact bH.of (a:=[]) (c:=[]) T.c173 (r173 T c)
 |rel=>exact bH.of (a:=[]) (c:=[]) T.c175 (r175 T c)
end
def jq{l1 l2:List (Option Nat)}{a y:Option Nat}(h:y∈l1\/y∈l2):y∈l1++a::l2:=by rcases h with h|h<;>simp[h]
def wq{l1 l2:List (Option Nat)}{a y:Option Nat}(h:y∈l1++a::l2):y∈l1\/y=a\/y∈l2:=by simpa using h
def lL.yr{l1 l2 a x}(h:lL (l1++a::l2))(hx:∀i,x=some i->a=some i\/((∀y∈l1,y≠some i)/\∀y∈l2,y≠some i)):lL (l1++x::l2):=by
 obtain⟨h1,h2,h3⟩:=abj.1 h;obtain⟨h4,h5⟩:=aa8.1 h2;refine abj.2 ⟨h1,aa8.2 ⟨λy hy b hb=>?_,h5⟩,λy hy z hz b hb=>?_⟩
 ·rcases hx b hb with ha|⟨_,ha⟩
  ·exact h4 y hy b ha
  ·exact ha y hy
 ·rcases aaJ.1 hz with rfl|hz
  ·intro e;rcases hx b e with ha|⟨ha,_⟩
   ·exact h3 y hy a Si b hb ha
   ·exact ha y hy hb
  ·exact h3 y hy z (aaH _ hz) b hb
def lL.ins{l1 l2 x}(h:lL (l1++l2))(hx:∀i,x=some i->(∀y∈l1,y≠some i)/\∀y∈l2,y≠some i):lL (l1++x::l2):=by
 obtain⟨h1,h2,h3⟩:=abj.1 h;refine abj.2 ⟨h1,aa8.2 ⟨λy hy b hb=>(hx b hb).2 y hy,h2⟩,λy hy z hz b hb=>?_⟩;rcases aaJ.1 hz with rfl|hz
 ·exactλe=>(hx b e).1 y hy hb
 ·exact h3 y hy z hz b hb
structure b9(N:Nat)(h:ah)(b:Nat)(V:RV):Prop where
 o:cK N h V
 hN:N<=b
 m:h[b]? =some (.b V.row)
 ne:some b∉V.bl
def b9.lt{N h b V}(r:b9 N h b V):b<h.length:=(Z2.1 r.m).1
theorem b9.app{N h b V}(r:b9 N h b V)(g:ah):b9 N (h++g) b V:=⟨r.o.app g,r.hN,(Ext.app g (Ext.refl h)).some r.m,r.ne⟩
section
variable {N b:Nat}{h k:ah}{V:RV}
def b9.NJ(r:b9 N h b V){s:AV}{L:List gN}(hs:Fr N k s 3 (L.map bw))(hn:∀i,sB s=some i->sB V.s0=some i\/h.length<=i)(hm:k[b]? =some (.cells {V with lines:=L,s0:=s}.row true false))
  (hk:∀i,i<h.length->sB V.s0≠some i->i≠b->k[i]? =h[i]?):b9 N k b {V with lines:=L,s0:=s}:=by
 have hd:V.bl=[]++sB V.s0:: ([sB V.s1,sB V.s2,sB V.s3,sB V.s4,sB V.s5]++(V.aj.map λx=>sB x.2)++(V.aC.map λx=>sB x.2)++(V.aF.map λx=>sB x.2)):=rfl;have hin:∀i,some i∈V.bl->N<=i/\i<h.length:=λi hi=>r.o.ep hi
 have TD:=r.o.di;rw[hd]at TD;have ar:∀i,(some i∈[]\/some i∈([sB V.s1,sB V.s2,sB V.s3,sB V.s4,sB V.s5]++(V.aj.map λx=>sB x.2)++(V.aC.map λx=>sB x.2)++(V.aF.map λx=>sB x.2)))->k[i]? =h[i]? :=λi hi=>by
  exact z7
 have own:cK N k {V with lines:=L,s0:=s}:=by
  refine⟨hs,(r.o.i1.aD λi hi=>ar i (.inr (by rw[<-hi];simp))),(r.o.i2.aD λi hi=>ar i (.inr (by rw[<-hi];simp))),(r.o.i3.aD λi hi=>ar i (.inr (by rw[<-hi];simp))),(r.o.i4.aD λi hi=>ar i (.inr (by rw[<-hi];simp))),(r.o.i5.aD λi hi=>ar i (.inr (by rw[<-hi];simp))),(λx hx=>(r.o.e2 x hx).aD λi hi=>ar i (.inr (by rw[<-hi];simp only[aac,aaA];exact .inl (.inl (.inr ⟨x,hx,rfl⟩))))),(λx hx=>(r.o.e3 x hx).aD λi hi=>ar i (.inr (by rw[<-hi];simp only[aac,aaA];exact .inl (.inr ⟨x,hx,rfl⟩)))),(λx hx=>(r.o.e4 x hx).aD λi hi=>ar i (.inr (by rw[<-hi];simp only[aac,aaA];exact .inr ⟨x,hx,rfl⟩))),?_⟩;have hx:∀i,sB s=some i->sB V.s0=some i\/((∀y∈[],y≠some i)/\∀y∈([sB V.s1,sB V.s2,sB V.s3,sB V.s4,sB V.s5]++(V.aj.map λx=>sB x.2)++(V.aC.map λx=>sB x.2)++(V.aF.map λx=>sB x.2)),y≠some i):=λi hi=>by
   exact z9
  exact TD.yr hx
 refine⟨own,r.hN,hm,λhb=>?_⟩;have hbl:=r.lt;have U6:=r.ne;rw[hd]at U6;have e:{V with lines:=L,s0:=s}.bl=[]++sB s:: ([sB V.s1,sB V.s2,sB V.s3,sB V.s4,sB V.s5]++(V.aj.map λx=>sB x.2)++(V.aC.map λx=>sB x.2)++(V.aF.map λx=>sB x.2)):=rfl;exact z31
def b9.RN(r:b9 N h b V){s:AV}{L:List sR}(hs:Fr N k s 2 (L.map cB))(hn:∀i,sB s=some i->sB V.s1=some i\/h.length<=i)(hm:k[b]? =some (.cells {V with aE:=L,s1:=s}.row true false))
  (hk:∀i,i<h.length->sB V.s1≠some i->i≠b->k[i]? =h[i]?):b9 N k b {V with aE:=L,s1:=s}:=by
 have hd:V.bl=[sB V.s0]++sB V.s1:: ([sB V.s2,sB V.s3,sB V.s4,sB V.s5]++(V.aj.map λx=>sB x.2)++(V.aC.map λx=>sB x.2)++(V.aF.map λx=>sB x.2)):=rfl;have hin:∀i,some i∈V.bl->N<=i/\i<h.length:=λi hi=>r.o.ep hi
 have TD:=r.o.di;rw[hd]at TD;have ar:∀i,(some i∈[sB V.s0]\/some i∈([sB V.s2,sB V.s3,sB V.s4,sB V.s5]++(V.aj.map λx=>sB x.2)++(V.aC.map λx=>sB x.2)++(V.aF.map λx=>sB x.2)))->k[i]? =h[i]? :=λi hi=>by
  exact z7
 have own:cK N k {V with aE:=L,s1:=s}:=by
  refine⟨(r.o.i0.aD λi hi=>ar i (.inl (by rw[<-hi];simp))),hs,(r.o.i2.aD λi hi=>ar i (.inr (by rw[<-hi];simp))),(r.o.i3.aD λi hi=>ar i (.inr (by rw[<-hi];simp))),(r.o.i4.aD λi hi=>ar i (.inr (by rw[<-hi];simp))),(r.o.i5.aD λi hi=>ar i (.inr (by rw[<-hi];simp))),(λx hx=>(r.o.e2 x hx).aD λi hi=>ar i (.inr (by rw[<-hi];simp only[aac,aaA];exact .inl (.inl (.inr ⟨x,hx,rfl⟩))))),(λx hx=>(r.o.e3 x hx).aD λi hi=>ar i (.inr (by rw[<-hi];simp only[aac,aaA];exact .inl (.inr ⟨x,hx,rfl⟩)))),(λx hx=>(r.o.e4 x hx).aD λi hi=>ar i (.inr (by rw[<-hi];simp only[aac,aaA];exact .inr ⟨x,hx,rfl⟩))),?_⟩;have hx:∀i,sB s=some i->sB V.s1=some i\/((∀y∈[sB V.s0],y≠some i)/\∀y∈([sB V.s2,sB V.s3,sB V.s4,sB V.s5]++(V.aj.map λx=>sB x.2)++(V.aC.map λx=>sB x.2)++(V.aF.map λx=>sB x.2)),y≠some i):=λi hi=>by
   exact z9
  exact TD.yr hx
 refine⟨own,r.hN,hm,λhb=>?_⟩;have hbl:=r.lt;have U6:=r.ne;rw[hd]at U6;have e:{V with aE:=L,s1:=s}.bl=[sB V.s0]++sB s:: ([sB V.s2,sB V.s3,sB V.s4,sB V.s5]++(V.aj.map λx=>sB x.2)++(V.aC.map λx=>sB x.2)++(V.aF.map λx=>sB x.2)):=rfl;exact z31
def b9.RM(r:b9 N h b V){s t:AV}{y:jc}(hs:Fr N k s 3 ((V.aj++[(y,t)]).map aU))(ht:Fr N k t 1 (y.aE.map aq))(hn:∀i,sB s=some i->sB V.s2=some i\/h.length<=i)(hnt:∀i,sB t=some i->h.length<=i/\sB s≠some i)
  (hm:k[b]? =some (.cells {V with aj:=V.aj++[(y,t)],s2:=s}.row true false))
  (hk:∀i,i<h.length->sB V.s2≠some i->i≠b->k[i]? =h[i]?):b9 N k b {V with aj:=V.aj++[(y,t)],s2:=s}:=by
 have hd:V.bl=[sB V.s0,sB V.s1]++sB V.s2:: ([sB V.s3,sB V.s4,sB V.s5]++(V.aj.map λx=>sB x.2)++(V.aC.map λx=>sB x.2)++(V.aF.map λx=>sB x.2)):=rfl;have hin:∀i,some i∈V.bl->N<=i/\i<h.length:=λi hi=>r.o.ep hi
 have TD:=r.o.di;rw[hd]at TD;have ar:∀i,(some i∈[sB V.s0,sB V.s1]\/some i∈([sB V.s3,sB V.s4,sB V.s5]++(V.aj.map λx=>sB x.2)++(V.aC.map λx=>sB x.2)++(V.aF.map λx=>sB x.2)))->k[i]? =h[i]? :=λi hi=>by
  exact z7
 have own:cK N k {V with aj:=V.aj++[(y,t)],s2:=s}:=by
  refine⟨(r.o.i0.aD λi hi=>ar i (.inl (by rw[<-hi];simp))),(r.o.i1.aD λi hi=>ar i (.inl (by rw[<-hi];simp))),hs,(r.o.i3.aD λi hi=>ar i (.inr (by rw[<-hi];simp))),(r.o.i4.aD λi hi=>ar i (.inr (by rw[<-hi];simp))),(r.o.i5.aD λi hi=>ar i (.inr (by rw[<-hi];simp))),(λx hx=>by
   rcases aac.1 hx with hx|hx
   ·exact(r.o.e2 x hx).aD λi hi=>ar i (.inr (by rw[<-hi];simp only[aac,aaA];exact .inl (.inl (.inr ⟨x,hx,rfl⟩))))
   ·rw[aam]at hx;subst hx;exact ht),(λx hx=>(r.o.e3 x hx).aD λi hi=>ar i (.inr (by rw[<-hi];simp only[aac,aaA];exact .inl (.inr ⟨x,hx,rfl⟩)))),(λx hx=>(r.o.e4 x hx).aD λi hi=>ar i (.inr (by rw[<-hi];simp only[aac,aaA];exact .inr ⟨x,hx,rfl⟩))),?_⟩
  have hx:∀i,sB s=some i->sB V.s2=some i\/((∀y∈[sB V.s0,sB V.s1],y≠some i)/\∀y∈([sB V.s3,sB V.s4,sB V.s5]++(V.aj.map λx=>sB x.2)++(V.aC.map λx=>sB x.2)++(V.aF.map λx=>sB x.2)),y≠some i):=λi hi=>by
   exact z9
  have h1:=TD.yr hx;have h2:lL (([sB V.s0,sB V.s1,sB s,sB V.s3,sB V.s4,sB V.s5]++(V.aj.map λx=>sB x.2))++((V.aC.map λx=>sB x.2)++(V.aF.map λx=>sB x.2))):=by
   have:[sB V.s0,sB V.s1]++sB s:: ([sB V.s3,sB V.s4,sB V.s5]++(V.aj.map λx=>sB x.2)++(V.aC.map λx=>sB x.2)++(V.aF.map λx=>sB x.2))=([sB V.s0,sB V.s1,sB s,sB V.s3,sB V.s4,sB V.s5]++(V.aj.map λx=>sB x.2))++((V.aC.map λx=>sB x.2)++(V.aF.map λx=>sB x.2)):=Si
   rw[<-this];exact h1
  have h3:=h2.ins (x:=sB t) (λi hi=>by
   obtain⟨n1,n2⟩:=hnt i hi;refine⟨λy hy e=>?_,λy hy e=>?_⟩
   ·exact N4
   ·subst e;have:=(hin i (by rw[hd];simp only[aac,aaJ,aa3,abH]at hy ⊢<;>grind)).2;omega)
  have:{V with aj:=V.aj++[(y,t)],s2:=s}.bl=([sB V.s0,sB V.s1,sB s,sB V.s3,sB V.s4,sB V.s5]++(V.aj.map λx=>sB x.2))++sB t:: ((V.aC.map λx=>sB x.2)++(V.aF.map λx=>sB x.2)):=by
   simp[RV.bl]
  rw[this];exact h3
 exact N8
def b9.RL(r:b9 N h b V){s t:AV}{y:iP}(hs:Fr N k s 4 ((V.aC++[(y,t)]).map aR))(ht:Fr N k t 1 (y.bC.map aq))(hn:∀i,sB s=some i->sB V.s3=some i\/h.length<=i)(hnt:∀i,sB t=some i->h.length<=i/\sB s≠some i)
  (hm:k[b]? =some (.cells {V with aC:=V.aC++[(y,t)],s3:=s}.row true false))
  (hk:∀i,i<h.length->sB V.s3≠some i->i≠b->k[i]? =h[i]?):b9 N k b {V with aC:=V.aC++[(y,t)],s3:=s}:=by
 have hd:V.bl=[sB V.s0,sB V.s1,sB V.s2]++sB V.s3:: ([sB V.s4,sB V.s5]++(V.aj.map λx=>sB x.2)++(V.aC.map λx=>sB x.2)++(V.aF.map λx=>sB x.2)):=rfl;have hin:∀i,some i∈V.bl->N<=i/\i<h.length:=λi hi=>r.o.ep hi
 have TD:=r.o.di;rw[hd]at TD;have ar:∀i,(some i∈[sB V.s0,sB V.s1,sB V.s2]\/some i∈([sB V.s4,sB V.s5]++(V.aj.map λx=>sB x.2)++(V.aC.map λx=>sB x.2)++(V.aF.map λx=>sB x.2)))->k[i]? =h[i]? :=λi hi=>by
  exact z7
 have own:cK N k {V with aC:=V.aC++[(y,t)],s3:=s}:=by
  refine⟨(r.o.i0.aD λi hi=>ar i (.inl (by rw[<-hi];simp))),(r.o.i1.aD λi hi=>ar i (.inl (by rw[<-hi];simp))),(r.o.i2.aD λi hi=>ar i (.inl (by rw[<-hi];simp))),hs,(r.o.i4.aD λi hi=>ar i (.inr (by rw[<-hi];simp))),(r.o.i5.aD λi hi=>ar i (.inr (by rw[<-hi];simp))),(λx hx=>(r.o.e2 x hx).aD λi hi=>ar i (.inr (by rw[<-hi];simp only[aac,aaA];exact .inl (.inl (.inr ⟨x,hx,rfl⟩))))),(λx hx=>by
   rcases aac.1 hx with hx|hx
   ·exact(r.o.e3 x hx).aD λi hi=>ar i (.inr (by rw[<-hi];simp only[aac,aaA];exact .inl (.inr ⟨x,hx,rfl⟩)))
   ·rw[aam]at hx;subst hx;exact ht),(λx hx=>(r.o.e4 x hx).aD λi hi=>ar i (.inr (by rw[<-hi];simp only[aac,aaA];exact .inr ⟨x,hx,rfl⟩))),?_⟩
  have hx:∀i,sB s=some i->sB V.s3=some i\/((∀y∈[sB V.s0,sB V.s1,sB V.s2],y≠some i)/\∀y∈([sB V.s4,sB V.s5]++(V.aj.map λx=>sB x.2)++(V.aC.map λx=>sB x.2)++(V.aF.map λx=>sB x.2)),y≠some i):=λi hi=>by
   exact z9
  have h1:=TD.yr hx;have h2:lL (([sB V.s0,sB V.s1,sB V.s2,sB s,sB V.s4,sB V.s5]++(V.aj.map λx=>sB x.2)++(V.aC.map λx=>sB x.2))++((V.aF.map λx=>sB x.2))):=by
   have:[sB V.s0,sB V.s1,sB V.s2]++sB s:: ([sB V.s4,sB V.s5]++(V.aj.map λx=>sB x.2)++(V.aC.map λx=>sB x.2)++(V.aF.map λx=>sB x.2))=([sB V.s0,sB V.s1,sB V.s2,sB s,sB V.s4,sB V.s5]++(V.aj.map λx=>sB x.2)++(V.aC.map λx=>sB x.2))++((V.aF.map λx=>sB x.2)):=Si
   rw[<-this];exact h1
  have h3:=h2.ins (x:=sB t) (λi hi=>by
   obtain⟨n1,n2⟩:=hnt i hi;refine⟨λy hy e=>?_,λy hy e=>?_⟩
   ·exact N4
   ·subst e;have:=(hin i (by rw[hd];simp only[aac,aaJ,aa3,abH]at hy ⊢<;>grind)).2;omega)
  have:{V with aC:=V.aC++[(y,t)],s3:=s}.bl=([sB V.s0,sB V.s1,sB V.s2,sB s,sB V.s4,sB V.s5]++(V.aj.map λx=>sB x.2)++(V.aC.map λx=>sB x.2))++sB t:: ((V.aF.map λx=>sB x.2)):=by
   simp[RV.bl]
  rw[this];exact h3
 exact N8
def b9.RK(r:b9 N h b V){s t:AV}{y:lH}(hs:Fr N k s 3 ((V.aF++[(y,t)]).map bF))(ht:Fr N k t 1 (y.bE.map aM))(hn:∀i,sB s=some i->sB V.s4=some i\/h.length<=i)(hnt:∀i,sB t=some i->h.length<=i/\sB s≠some i)
  (hm:k[b]? =some (.cells {V with aF:=V.aF++[(y,t)],s4:=s}.row true false))
  (hk:∀i,i<h.length->sB V.s4≠some i->i≠b->k[i]? =h[i]?):b9 N k b {V with aF:=V.aF++[(y,t)],s4:=s}:=by
 have hd:V.bl=[sB V.s0,sB V.s1,sB V.s2,sB V.s3]++sB V.s4:: ([sB V.s5]++(V.aj.map λx=>sB x.2)++(V.aC.map λx=>sB x.2)++(V.aF.map λx=>sB x.2)):=rfl;have hin:∀i,some i∈V.bl->N<=i/\i<h.length:=λi hi=>r.o.ep hi
 have TD:=r.o.di;rw[hd]at TD;have ar:∀i,(some i∈[sB V.s0,sB V.s1,sB V.s2,sB V.s3]\/some i∈([sB V.s5]++(V.aj.map λx=>sB x.2)++(V.aC.map λx=>sB x.2)++(V.aF.map λx=>sB x.2)))->k[i]? =h[i]? :=λi hi=>by
  exact z7
 have own:cK N k {V with aF:=V.aF++[(y,t)],s4:=s}:=by
  refine⟨(r.o.i0.aD λi hi=>ar i (.inl (by rw[<-hi];simp))),(r.o.i1.aD λi hi=>ar i (.inl (by rw[<-hi];simp))),(r.o.i2.aD λi hi=>ar i (.inl (by rw[<-hi];simp))),(r.o.i3.aD λi hi=>ar i (.inl (by rw[<-hi];simp))),hs,(r.o.i5.aD λi hi=>ar i (.inr (by rw[<-hi];simp))),(λx hx=>(r.o.e2 x hx).aD λi hi=>ar i (.inr (by rw[<-hi];simp only[aac,aaA];exact .inl (.inl (.inr ⟨x,hx,rfl⟩))))),(λx hx=>(r.o.e3 x hx).aD λi hi=>ar i (.inr (by rw[<-hi];simp only[aac,aaA];exact .inl (.inr ⟨x,hx,rfl⟩)))),(λx hx=>by
   rcases aac.1 hx with hx|hx
   ·exact(r.o.e4 x hx).aD λi hi=>ar i (.inr (by rw[<-hi];simp only[aac,aaA];exact .inr ⟨x,hx,rfl⟩))
   ·rw[aam]at hx;subst hx;exact ht),?_⟩
  have hx:∀i,sB s=some i->sB V.s4=some i\/((∀y∈[sB V.s0,sB V.s1,sB V.s2,sB V.s3],y≠some i)/\∀y∈([sB V.s5]++(V.aj.map λx=>sB x.2)++(V.aC.map λx=>sB x.2)++(V.aF.map λx=>sB x.2)),y≠some i):=λi hi=>by
   exact z9
  have h1:=TD.yr hx;have h2:lL (([sB V.s0,sB V.s1,sB V.s2,sB V.s3,sB s,sB V.s5]++(V.aj.map λx=>sB x.2)++(V.aC.map λx=>sB x.2)++(V.aF.map λx=>sB x.2))++([])):=by
   have:[sB V.s0,sB V.s1,sB V.s2,sB V.s3]++sB s:: ([sB V.s5]++(V.aj.map λx=>sB x.2)++(V.aC.map λx=>sB x.2)++(V.aF.map λx=>sB x.2))=([sB V.s0,sB V.s1,sB V.s2,sB V.s3,sB s,sB V.s5]++(V.aj.map λx=>sB x.2)++(V.aC.map λx=>sB x.2)++(V.aF.map λx=>sB x.2))++([]):=Si
   rw[<-this];exact h1
  have h3:=h2.ins (x:=sB t) (λi hi=>by
   obtain⟨n1,n2⟩:=hnt i hi;refine⟨λy hy e=>?_,λy hy e=>?_⟩
   ·exact N4
   ·subst e;have:=(hin i (by rw[hd];simp only[aac,aaJ,aa3,abH]at hy ⊢<;>grind)).2;omega)
  have:{V with aF:=V.aF++[(y,t)],s4:=s}.bl=([sB V.s0,sB V.s1,sB V.s2,sB V.s3,sB s,sB V.s5]++(V.aj.map λx=>sB x.2)++(V.aC.map λx=>sB x.2)++(V.aF.map λx=>sB x.2))++sB t:: ([]):=by
   simp[RV.bl]
  rw[this];exact h3
 exact N8
def b9.NI(r:b9 N h b V){s:AV}{L:List qM}(hs:Fr N k s 4 (L.map cD))(hn:∀i,sB s=some i->sB V.s5=some i\/h.length<=i)(hm:k[b]? =some (.cells {V with aJ:=L,s5:=s}.row true false))
  (hk:∀i,i<h.length->sB V.s5≠some i->i≠b->k[i]? =h[i]?):b9 N k b {V with aJ:=L,s5:=s}:=by
 have hd:V.bl=[sB V.s0,sB V.s1,sB V.s2,sB V.s3,sB V.s4]++sB V.s5:: ([]++(V.aj.map λx=>sB x.2)++(V.aC.map λx=>sB x.2)++(V.aF.map λx=>sB x.2)):=rfl;have hin:∀i,some i∈V.bl->N<=i/\i<h.length:=λi hi=>r.o.ep hi
 have TD:=r.o.di;rw[hd]at TD;have ar:∀i,(some i∈[sB V.s0,sB V.s1,sB V.s2,sB V.s3,sB V.s4]\/some i∈([]++(V.aj.map λx=>sB x.2)++(V.aC.map λx=>sB x.2)++(V.aF.map λx=>sB x.2)))->k[i]? =h[i]? :=λi hi=>by
  exact z7
 have own:cK N k {V with aJ:=L,s5:=s}:=by
  refine⟨(r.o.i0.aD λi hi=>ar i (.inl (by rw[<-hi];simp))),(r.o.i1.aD λi hi=>ar i (.inl (by rw[<-hi];simp))),(r.o.i2.aD λi hi=>ar i (.inl (by rw[<-hi];simp))),(r.o.i3.aD λi hi=>ar i (.inl (by rw[<-hi];simp))),(r.o.i4.aD λi hi=>ar i (.inl (by rw[<-hi];simp))),hs,(λx hx=>(r.o.e2 x hx).aD λi hi=>ar i (.inr (by rw[<-hi];simp only[aac,aaA];exact .inl (.inl (.inr ⟨x,hx,rfl⟩))))),(λx hx=>(r.o.e3 x hx).aD λi hi=>ar i (.inr (by rw[<-hi];simp only[aac,aaA];exact .inl (.inr ⟨x,hx,rfl⟩)))),(λx hx=>(r.o.e4 x hx).aD λi hi=>ar i (.inr (by rw[<-hi];simp only[aac,aaA];exact .inr ⟨x,hx,rfl⟩))),?_⟩;have hx:∀i,sB s=some i->sB V.s5=some i\/((∀y∈[sB V.s0,sB V.s1,sB V.s2,sB V.s3,sB V.s4],y≠some i)/\∀y∈([]++(V.aj.map λx=>sB x.2)++(V.aC.map λx=>sB x.2)++(V.aF.map λx=>sB x.2)),y≠some i):=λi hi=>by
   exact z9
  exact TD.yr hx
 refine⟨own,r.hN,hm,λhb=>?_⟩;have hbl:=r.lt;have U6:=r.ne;rw[hd]at U6;have e:{V with aJ:=L,s5:=s}.bl=[sB V.s0,sB V.s1,sB V.s2,sB V.s3,sB V.s4]++sB s:: ([]++(V.aj.map λx=>sB x.2)++(V.aC.map λx=>sB x.2)++(V.aF.map λx=>sB x.2)):=rfl;exact z31
end
def ui(B:ah)(b:Nat)(V:RV)(e:cY)(d:Kd)(k:ah):Prop:=∃g' V',k=B++g'/\b9 B.length (B++g') b V'/\V'.an=dF V.an e d
def iX{B g:ah}{b i:Nat}{V:RV}{v:AV}(hb:(B++g)[b]? =some (.b V.row))(hv:v.one=true)(hi:i<7):aX 1 (.ptr b i) v (λz=>(B++g)[z]?)=some (az,.set b (.b (V.row.set i v))):=by
 rw[aK hb];exact bP hv (by show i+1<=7;omega)
def nQ{B g:ah}{b:Nat}{V:RV}(X:ak)(hN:B.length<=b)(hb:(B++g)[b]? =some (.b V.row)):(B++g).set b X=B++g.set (b-B.length) X/\(B++g.set (b-B.length) X)[b]? =some X/\∀i,i≠b->(B++g.set (b-B.length) X)[i]? =(B++g)[i]? :=by
 have h1:(B++g).set b X=B++g.set (b-B.length) X:=aa1 _ _ hN;refine⟨h1,?_,λi hi=>?_⟩
 ·rw[<-h1,aak (Z2.1 hb).1]
 ·rw[<-h1,aaj (abo hi)]
def fx{ts h}:cT [] ts h=some (.dW []):=rfl
section
variable {B g g':ah}{b:Nat}{V:RV}{e:cY}{d:Kd}
def MW(r:b9 B.length (B++g) b V){s:AV}{L:List gN}(hff:Fr B.length (B++g') s 3 (L.map bw))(hb':∀i,sB s=some i->sB V.s0=some i\/(B++g).length<=i)(hk1:∀i,i<(B++g).length->sB V.s0≠some i->(B++g')[i]? =(B++g)[i]?)
  (hreg:{V with lines:=L,s0:=s}.an=dF V.an e d):ui B b V e d ((B++g').set b (.b (V.row.set 1 s))):=by
 have hbl:=r.lt;have SY:sB V.s0≠some b:=λz=>r.ne (by rw[<-z];simp[RV.bl])
 have mB:(B++g')[b]? =some (.b V.row):=(hk1 b hbl SY).trans r.m;obtain⟨h1,h2,h3⟩:=nQ (.b (V.row.set 1 s)) r.hN mB;have hsb:∀i,sB s=some i->i≠b:=λi hi z=>by
  exact JQ
 exact⟨_,_,h1,r.NJ (hff.aD λi hi=>h3 i (hsb i hi)) hb' h2 (λi hi hne SY=>(h3 i SY).trans (hk1 i hi hne)),hreg⟩
def MV(r:b9 B.length (B++g) b V){s:AV}{L:List sR}(hff:Fr B.length (B++g') s 2 (L.map cB))(hb':∀i,sB s=some i->sB V.s1=some i\/(B++g).length<=i)(hk1:∀i,i<(B++g).length->sB V.s1≠some i->(B++g')[i]? =(B++g)[i]?)
  (hreg:{V with aE:=L,s1:=s}.an=dF V.an e d):ui B b V e d ((B++g').set b (.b (V.row.set 2 s))):=by
 have hbl:=r.lt;have SY:sB V.s1≠some b:=λz=>r.ne (by rw[<-z];simp[RV.bl])
 have mB:(B++g')[b]? =some (.b V.row):=(hk1 b hbl SY).trans r.m;obtain⟨h1,h2,h3⟩:=nQ (.b (V.row.set 2 s)) r.hN mB;have hsb:∀i,sB s=some i->i≠b:=λi hi z=>by
  exact JQ
 exact⟨_,_,h1,r.RN (hff.aD λi hi=>h3 i (hsb i hi)) hb' h2 (λi hi hne SY=>(h3 i SY).trans (hk1 i hi hne)),hreg⟩
def MU(r:b9 B.length (B++g) b V){s t:AV}{y:jc}(hff:Fr B.length (B++g') s 3 ((V.aj++[(y,t)]).map aU))(ht:Fr B.length (B++g') t 1 (y.aE.map aq))(hb':∀i,sB s=some i->sB V.s2=some i\/(B++g).length<=i)(hk1:∀i,i<(B++g).length->sB V.s2≠some i->(B++g')[i]? =(B++g)[i]?)(hnt:∀i,sB t=some i->(B++g).length<=i/\sB s≠some i)
  (hreg:{V with aj:=V.aj++[(y,t)],s2:=s}.an=dF V.an e d):ui B b V e d ((B++g').set b (.b (V.row.set 3 s))):=by
 have hbl:=r.lt;have SY:sB V.s2≠some b:=λz=>r.ne (by rw[<-z];simp[RV.bl])
 have mB:(B++g')[b]? =some (.b V.row):=(hk1 b hbl SY).trans r.m;obtain⟨h1,h2,h3⟩:=nQ (.b (V.row.set 3 s)) r.hN mB;have hsb:∀i,sB s=some i->i≠b:=λi hi z=>by
  exact JQ
 have htb:∀i,sB t=some i->i≠b:=λi hi z=>by
  exact Ad
 exact⟨_,_,h1,r.RM (hff.aD λi hi=>h3 i (hsb i hi)) (ht.aD λi hi=>h3 i (htb i hi)) hb' hnt h2 (λi hi hne SY=>(h3 i SY).trans (hk1 i hi hne)),hreg⟩
def G9(r:b9 B.length (B++g) b V){s t:AV}{y:iP}(hff:Fr B.length (B++g') s 4 ((V.aC++[(y,t)]).map aR))(ht:Fr B.length (B++g') t 1 (y.bC.map aq))(hb':∀i,sB s=some i->sB V.s3=some i\/(B++g).length<=i)(hk1:∀i,i<(B++g).length->sB V.s3≠some i->(B++g')[i]? =(B++g)[i]?)(hnt:∀i,sB t=some i->(B++g).length<=i/\sB s≠some i)
  (hreg:{V with aC:=V.aC++[(y,t)],s3:=s}.an=dF V.an e d):ui B b V e d ((B++g').set b (.b (V.row.set 4 s))):=by
 have hbl:=r.lt;have SY:sB V.s3≠some b:=λz=>r.ne (by rw[<-z];simp[RV.bl])
 have mB:(B++g')[b]? =some (.b V.row):=(hk1 b hbl SY).trans r.m;obtain⟨h1,h2,h3⟩:=nQ (.b (V.row.set 4 s)) r.hN mB;have hsb:∀i,sB s=some i->i≠b:=λi hi z=>by
  exact JQ
 have htb:∀i,sB t=some i->i≠b:=λi hi z=>by
  exact Ad
 exact⟨_,_,h1,r.RL (hff.aD λi hi=>h3 i (hsb i hi)) (ht.aD λi hi=>h3 i (htb i hi)) hb' hnt h2 (λi hi hne SY=>(h3 i SY).trans (hk1 i hi hne)),hreg⟩
def MT(r:b9 B.length (B++g) b V){s t:AV}{y:lH}(hff:Fr B.length (B++g') s 3 ((V.aF++[(y,t)]).map bF))(ht:Fr B.length (B++g') t 1 (y.bE.map aM))(hb':∀i,sB s=some i->sB V.s4=some i\/(B++g).length<=i)(hk1:∀i,i<(B++g).length->sB V.s4≠some i->(B++g')[i]? =(B++g)[i]?)(hnt:∀i,sB t=some i->(B++g).length<=i/\sB s≠some i)
  (hreg:{V with aF:=V.aF++[(y,t)],s4:=s}.an=dF V.an e d):ui B b V e d ((B++g').set b (.b (V.row.set 5 s))):=by
 have hbl:=r.lt;have SY:sB V.s4≠some b:=λz=>r.ne (by rw[<-z];simp[RV.bl])
 have mB:(B++g')[b]? =some (.b V.row):=(hk1 b hbl SY).trans r.m;obtain⟨h1,h2,h3⟩:=nQ (.b (V.row.set 5 s)) r.hN mB;have hsb:∀i,sB s=some i->i≠b:=λi hi z=>by
  exact JQ
 have htb:∀i,sB t=some i->i≠b:=λi hi z=>by
  exact Ad
 exact⟨_,_,h1,r.RK (hff.aD λi hi=>h3 i (hsb i hi)) (ht.aD λi hi=>h3 i (htb i hi)) hb' hnt h2 (λi hi hne SY=>(h3 i SY).trans (hk1 i hi hne)),hreg⟩
def MS(r:b9 B.length (B++g) b V){s:AV}{L:List qM}(hff:Fr B.length (B++g') s 4 (L.map cD))(hb':∀i,sB s=some i->sB V.s5=some i\/(B++g).length<=i)(hk1:∀i,i<(B++g).length->sB V.s5≠some i->(B++g')[i]? =(B++g)[i]?)
  (hreg:{V with aJ:=L,s5:=s}.an=dF V.an e d):ui B b V e d ((B++g').set b (.b (V.row.set 6 s))):=by
 have hbl:=r.lt;have SY:sB V.s5≠some b:=λz=>r.ne (by rw[<-z];simp[RV.bl])
 have mB:(B++g')[b]? =some (.b V.row):=(hk1 b hbl SY).trans r.m;obtain⟨h1,h2,h3⟩:=nQ (.b (V.row.set 6 s)) r.hN mB;have hsb:∀i,sB s=some i->i≠b:=λi hi z=>by
  exact JQ
 exact⟨_,_,h1,r.NI (hff.aD λi hi=>h3 i (hsb i hi)) hb' h2 (λi hi hne SY=>(h3 i SY).trans (hk1 i hi hne)),hreg⟩
end
section
variable {P:Program}(T:fq P) {B g:ah}{b:Nat}{V:RV}{x:EV}
include T
def P8(r:b9 B.length (B++g) b V)(c:Cx (B++g) V x .line):dA P 149 [.ptr b 0,.agg x.row] (B++g) (λ_ k=>ui B b V x.ev .line k):=by
 refine .eX 22 T.mix T.c149 ?_;intro ts hlen t0 t1;unfold fn149;have hex:=@bh.box _ _ c.e;have lb:=@dB _ _ _ r.m;have i0:bf 1 x.sn (.i 0)=_:=(c.nm (i:=0) De).1;have d0:=@(c.nm (i:=0) De).2;have j1:bf 1 x.sv (.i 1)=_:=(c.vl (i:=1) De).1;have f1:=@(c.vl (i:=1) De).2.1;have q1:=(c.vl (i:=1) De).2.2;obtain⟨y,hy⟩:∃y:gN,y=⟨aL x.ev 0,bI x.ev 1,false⟩:=⟨_,rfl⟩;have TM:bw y=[.str (aL x.ev 0),.i (bI x.ev 1),.bool false]:=by rw[hy];rfl
 refine Rs (lI t0 t1 @hex @lb @eJ @aS @bg @i0 @d0 @j1 @f1) ?_;rw[<-TM];refine WR.fg (h0:=B) (cs:=V.lines.map bw) (ys:=[bw y]) (((r.o.i0).app _).app _) (Fr.push (N:=0) (aaC _) [bw y] (by simp[bw])).aY De Si (by have:=c.w.len.l0;simp;omega) Xx ?_;intro g' SP hff hkp;have hrow:V.lines.map bw++[bw y]=(V.lines++[y]).map bw:=by rw[aae];rfl
 rw[hrow]at hff;rw[hrow];have hbl:=r.lt;have SY:sB V.s0≠some b:=λe=>r.ne (by rw[<-e];simp[RV.bl])
 have hk1:∀i,i<(B++g).length->sB V.s0≠some i->(B++g')[i]? =(B++g)[i]? :=λi hi hne=>by
  exact JU
 have mB:(B++g')[b]? =some (.b V.row):=(hk1 b hbl SY).trans r.m;have VP:=λ(b' o n e:Nat)=>iX (i:=1) (v:=.slice b' o n e) mB rfl De
 refine Rs (A4 t0 t1 @VP @fx) ?_;exact MW r hff (λi hi=>by cases hi;exact .inr (by simp only[Z1];omega)) hk1 (by rw[hy];rfl)
def P7(r:b9 B.length (B++g) b V)(c:Cx (B++g) V x .tape):dA P 152 [.ptr b 0,.agg x.row] (B++g) (λ_ k=>ui B b V x.ev .tape k):=by
 refine .eX 27 T.mix T.c152 ?_;intro ts hlen t0 t1;unfold fn152;have hex:=@bh.box _ _ c.e;have lb:=@dB _ _ _ r.m;have i0:bf 1 x.sn (.i 0)=_:=(c.nm (i:=0) De).1;have d0:=@(c.nm (i:=0) De).2;have j0:bf 1 x.sv (.i 0)=_:=(c.vl (i:=0) De).1;have f0:=@(c.vl (i:=0) De).2.1;have q0:=(c.vl (i:=0) De).2.2;have j1:bf 1 x.sv (.i 1)=_:=(c.vl (i:=1) De).1;have f1:=@(c.vl (i:=1) De).2.1;have q1:=(c.vl (i:=1) De).2.2;have hw:IntKind.i64.wrap (bI x.ev 0+bI x.ev 1)=bI x.ev 0+bI x.ev 1:=bD Om Om;obtain⟨y,hy⟩:∃y:sR,y=⟨aL x.ev 0,bI x.ev 0+bI x.ev 1⟩:=⟨_,rfl⟩
 have TM:cB y=[.str (aL x.ev 0),.i (bI x.ev 0+bI x.ev 1)]:=by rw[hy];rfl
 refine Rs (Bo t0 t1 @hex @lb @gR @aS @bg @hw @i0 @d0 @j0 @f0 @j1 @f1) ?_;rw[<-TM];refine WR.fg (h0:=B) (cs:=V.aE.map cB) (ys:=[cB y]) (((r.o.i1).app _).app _) (Fr.push (N:=0) (aaC _) [cB y] (by simp[cB])).aY De Si (by have:=c.w.len.l1;simp;omega) Xx ?_;intro g' SP hff hkp;have hrow:V.aE.map cB++[cB y]=(V.aE++[y]).map cB:=by rw[aae];rfl
 rw[hrow]at hff;rw[hrow];have hbl:=r.lt;have SY:sB V.s1≠some b:=λe=>r.ne (by rw[<-e];simp[RV.bl])
 have hk1:∀i,i<(B++g).length->sB V.s1≠some i->(B++g')[i]? =(B++g)[i]? :=λi hi hne=>by
  exact JU
 have mB:(B++g')[b]? =some (.b V.row):=(hk1 b hbl SY).trans r.m;have VP:=λ(b' o n e:Nat)=>iX (i:=2) (v:=.slice b' o n e) mB rfl De
 refine Rs (A4 t0 t1 @VP @fx) ?_;exact MV r hff (λi hi=>by cases hi;exact .inr (by simp only[Z1];omega)) hk1 (by rw[hy];rfl)
end
theorem uP:∀(l:List Int) (x:Int),(∀s∈l,-1<=s/\s<=999999999)->-16777213<x->x<16777213->-16777213<l.foldl (λx s=>(257*x+s).tmod 16777213) x/\l.foldl (λx s=>(257*x+s).tmod 16777213) x<16777213
 |[],x,_,h1,h2=>⟨h1,h2⟩
 |s::l,x,hs,h1,h2=>by
  have hb:-16777213<(257*x+s).tmod 16777213/\(257*x+s).tmod 16777213<16777213:=by
   constructor
   ·have:=Int.lt_tmod_of_pos (257*x+s) (show(0:Int)<16777213 by decide);exact this
   ·exact Int.tmod_lt_of_pos _ De
  exact uP l _ (λt ht=>hs t (aaH _ ht)) hb.1 hb.2
section
variable {P:Program}(T:fq P) {h:ah}
include T
def r95{s l}(hs:aI h s 1 (l.map aM))(hl:l.length<2^30)(hb:∀s∈l,-1<=s/\s<=999999999):ay P 95 [s] h (λv _=>v=.i (gE l)):=by
 refine .kM 19 T.mix T.c95 ?_;intro ts hlen t0;unfold fn95 gA;refine Rs (A2 t0 hs.aH) ?_;refine WL.inv T.mix (λn ts h'=>∃k:Nat,k<=l.length/\n=l.length-k/\h' =h/\ts.length=19/\slot ts 3=.i (gE (l.take k))/\slot ts 6=s/\slot ts 7=.i l.length/\slot ts 8=.i k) l.length
  ⟨0,Om,rfl,rfl,Sn,ga,(Sq t0),(Sq t0),ga⟩ ?_
 rintro _ ts _ ⟨k,hk,rfl,rfl,hlen,t3,t6,t7,t8⟩;by_cases hlt:k<l.length
 ·have e3:=dN hlt;have ix:=hs.c6 (kk:=.i64) hlt;have ld:=hs.lC (i:=k) (x:=.i l[k]) hlt rfl (Ext.refl _);have e5:=wrapN (n:=k) Om;have hd:=uP (l.take k) 1 (λs hs=>hb s (aa4 hs)) De De;have U8:=hb _ (aad hlt);have Tn:-16777213<gE (l.take k)/\gE (l.take k)<16777213:=hd;have w1:IntKind.i64.wrap (257*gE (l.take k))=257*gE (l.take k):=bD Om Om;have w2:IntKind.i64.wrap (257*gE (l.take k)+l[k])=257*gE (l.take k)+l[k]:=bD Om Om;have er:=pf (k:=.i64) (a:=257*gE (l.take k)+l[k]) (b:=16777213) De;have S9:gE (l.take (k+1))=(257*gE (l.take k)+l[k]).tmod 16777213:=by
   exact z162
  rw[<-S9]at er;refine Rs (lI t3 t6 t7 t8 e3 ix @ld @w1 @w2 @er e5) ?_;exact⟨_,Om,k+1,Om,rfl,rfl,rfl⟩
 ·have e3:=eF hlt;have e4:k=l.length:=Om
  rw[e4,aaI]at t3;exact Rs (A5 t3 t6 t7 t8 e3) Tv
end
section
variable {P:Program}(T:fq P) {B g:ah}{b:Nat}{V:RV}{x:EV}
include T
def P6(r:b9 B.length (B++g) b V)(c:Cx (B++g) V x .gK):dA P 156 [.ptr b 0,.agg x.row] (B++g) (λ_ k=>ui B b V x.ev .gK k):=by
 refine .eX 27 T.mix T.c156 ?_;intro ts hlen t0 t1;unfold fn156;have hex:=@bh.box _ _ c.e;have lb:=@dB _ _ _ r.m;have i0:bf 1 x.sn (.i 0)=_:=(c.nm (i:=0) De).1;have d0:=@(c.nm (i:=0) De).2;have i1:bf 1 x.sn (.i 1)=_:=(c.nm (i:=1) De).1;have d1:=@(c.nm (i:=1) De).2;have i2:bf 1 x.sn (.i 2)=_:=(c.nm (i:=2) De).1;have d2:=@(c.nm (i:=2) De).2;obtain⟨y,hy⟩:∃y:jc,y=⟨aL x.ev 0,aL x.ev 1,[aL x.ev 2]⟩:=⟨_,rfl⟩;obtain⟨t,ht⟩:∃t,t=AV.slice (B++g++[ak.b x.row]).length 0 1 1:=⟨_,rfl⟩;have TN:Fr (B++g).length (B++g++[ak.b x.row]++[ak.cells [.str (aL x.ev 2)] true true]) t 1 (y.aE.map aq):=by
  rw[ht,hy];exact(Fr.push (h:=B++g++[ak.b x.row]) (N:=(B++g).length) Si [aq (aL x.ev 2)] (by simp[aq]))
 have TM:aU (y,t)=[.str (aL x.ev 0),.str (aL x.ev 1),t]:=by rw[hy];rfl
 refine Rs (D3 t0 t1 @hex @lb @dC @aS @bg @i0 @d0 @i1 @d1 @i2 @d2) ?_;rw[<-ht];have ot:=TN.aY.one;refine Rs (A7 t0 t1 @ot @lb @dC @aS @bg) ?_;rw[<-TM];refine WR.fg (h0:=B) (cs:=V.aj.map aU) (ys:=[aU (y,t)]) ((((r.o.i2).app _).app _).app _) (Fr.push (N:=0) (aaC _) [aU (y,t)] (by simp[aU])).aY De Si (by have:=c.w.len.l2;simp;omega) Xx ?_;intro g' SP hff hkp;have hrow:V.aj.map aU++[aU (y,t)]=(V.aj++[(y,t)]).map aU:=by rw[aae];rfl
 rw[hrow]at hff;rw[hrow];have hbl:=r.lt;have SY:sB V.s2≠some b:=λe=>r.ne (by rw[<-e];simp[RV.bl])
 have hk1:∀i,i<(B++g).length->sB V.s2≠some i->(B++g')[i]? =(B++g)[i]? :=λi hi hne=>by
  exact JU
 have mB:(B++g')[b]? =some (.b V.row):=(hk1 b hbl SY).trans r.m;have VP:=λ(b' o n e:Nat)=>iX (i:=3) (v:=.slice b' o n e) mB rfl De
 refine Rs (A4 t0 t1 @VP @fx) ?_;refine MU r hff ?_ (λi hi=>by cases hi;exact .inr (by simp only[Z1];omega)) hk1 ?_ ?_
 ·exact(((TN.app _).aD λi hi=>hkp i (by have:=(TN.bQ hi).2;simp only[Z1]at this ⊢;omega) (λb0 o n e he z=>by
   have h1:=(TN.bQ hi).1;have h2:=(r.o.i2.bQ (show sB V.s2=some i by rw[he,z];rfl)).2;omega)).low Si)
 ·intro i hi;exact z40
 ·rw[hy];simp[RV.an,dF]
def P3(r:b9 B.length (B++g) b V)(c:Cx (B++g) V x .source):dA P 162 [.ptr b 0,.agg x.row] (B++g) (λ_ k=>ui B b V x.ev .source k):=by
 refine .eX 22 T.mix T.c162 ?_;intro ts hlen t0 t1;unfold fn162;have hex:=@bh.box _ _ c.e;have lb:=@dB _ _ _ r.m;have i0:bf 1 x.sn (.i 0)=_:=(c.nm (i:=0) De).1;have d0:=@(c.nm (i:=0) De).2;have i1:bf 1 x.sn (.i 1)=_:=(c.nm (i:=1) De).1;have d1:=@(c.nm (i:=1) De).2;obtain⟨y,hy⟩:∃y:iP,y=⟨aL x.ev 0,eo,aL x.ev 1,[]⟩:=⟨_,rfl⟩;obtain⟨t,ht⟩:∃t,t=AV.af:=⟨_,rfl⟩;have TM:aR (y,t)=[.str (aL x.ev 0),.str [115,104,111,116,115],.str (aL x.ev 1),.af]:=by rw[hy,ht];rfl
 refine Rs (lI t0 t1 @hex @lb @eU @aS @bg @i0 @d0 @i1 @d1) ?_;rw[<-TM];refine WR.fg (h0:=B) (cs:=V.aC.map aR) (ys:=[aR (y,t)]) (((r.o.i3).app _).app _) (Fr.push (N:=0) (aaC _) [aR (y,t)] (by simp[aR])).aY De Si (by have:=c.w.len.l3;simp;omega) Xx ?_;intro g' SP hff hkp;have hrow:V.aC.map aR++[aR (y,t)]=(V.aC++[(y,t)]).map aR:=by rw[aae];rfl
 rw[hrow]at hff;rw[hrow];have hbl:=r.lt;have SY:sB V.s3≠some b:=λe=>r.ne (by rw[<-e];simp[RV.bl])
 have hk1:∀i,i<(B++g).length->sB V.s3≠some i->(B++g')[i]? =(B++g)[i]? :=λi hi hne=>by
  exact JU
 have mB:(B++g')[b]? =some (.b V.row):=(hk1 b hbl SY).trans r.m;have VP:=λ(b' o n e:Nat)=>iX (i:=4) (v:=.slice b' o n e) mB rfl De
 refine Rs (A4 t0 t1 @VP @fx) ?_;refine G9 r hff ?_ (λi hi=>by cases hi;exact .inr (by simp only[Z1];omega)) hk1 ?_ ?_
 ·rw[ht,hy];exact .nil
 ·intro i hi;rw[ht]at hi;cases hi
 ·rw[hy];simp[RV.an,dF]
def P2(r:b9 B.length (B++g) b V)(c:Cx (B++g) V x .gu)(hc:bz V.an x.ev .gu=0)(gl:Gl (B++g)):dA P 164 [.ptr b 0,.agg x.row] (B++g) (λ_ k=>ui B b V x.ev .gu k):=by
 refine .eX 30 T.mix T.c164 ?_;intro ts hlen t0 t1;unfold fn164;have hex:=@bh.box _ _ c.e;have lb:=@dB _ _ _ r.m;have i0:bf 1 x.sn (.i 0)=_:=(c.nm (i:=0) De).1;have d0:=@(c.nm (i:=0) De).2;have j1:bf 1 x.sv (.i 1)=_:=(c.vl (i:=1) De).1;have f1:=@(c.vl (i:=1) De).2.1;have q1:=(c.vl (i:=1) De).2.2;obtain⟨gmu,gtl,hg0⟩:=gl;have hn:1<=bI x.ev 1/\bI x.ev 1<=4:=by
  rw[bz]at hc;split at hc
  ·cases hc
  case isFalse hr=>exact iR hr
 have hw:IntKind.i64.wrap (bI x.ev 1-1)=bI x.ev 1-1:=bD Om Om;have a1:ng 4 2 (.ptr 0 0) (.i (bI x.ev 1-1))=some (.ptr 0 ((bI x.ev 1-1).toNat*2)):=by simp only[ng];rw[aai Om,aaP]
 have a2:ng 2 1 (.ptr 0 ((bI x.ev 1-1).toNat*2)) (.i 1)=some (.ptr 0 ((bI x.ev 1-1).toNat*2+1)):=by simp[ng]
 have lg:∀{k:ah},Ext (B++g) k->ao none (.ptr 0 ((bI x.ev 1-1).toNat*2+1)) (λb=>k[b]?)=some (.str (kg (bI x.ev 1)),.ar):=by
  intro k e;exact Rb
 have hnl:1<=x.ev.names.length:=by rw[c.we.nl];decide
 have hnl2:x.ev.names.length<=3:=by rw[c.we.nl];decide
 obtain⟨s',es',SI⟩:=c.e.n.Eg (lo:=some (.i 1)) (hi:=none) (mM (k:=1) hnl);have et:List.take (x.ev.names.length-1) (List.drop 1 x.ev.names)=x.ev.names.drop 1:=aaM Si;rw[et]at SI;obtain⟨y,hy⟩:∃y:iP,y=⟨aL x.ev 0,kg (bI x.ev 1),[],x.ev.names.drop 1⟩:=⟨_,rfl⟩;refine Rs (GD t0 t1 @hex @lb @eU @aS @bg @hw @a1 @a2 @lg @es' @i0 @d0 @j1 @f1) ?_;refine WF.res T.c177 (r177 T (SI.ext Xx) (by simp;omega)) ?_;rintro t g1 TN;have TM:aR (y,t)=[.str (aL x.ev 0),.str (kg (bI x.ev 1)),.str [],t]:=by rw[hy];rfl
 have TN:Fr (B++g).length (B++g++[ak.b x.row]++g1) t 1 (y.bC.map aq):=by rw[hy];exact TN.low Si
 have ot:=TN.aY.one;refine Rs (A3 t0 t1 @ot) ?_;rw[<-TM];refine WR.fg (h0:=B) (cs:=V.aC.map aR) (ys:=[aR (y,t)]) ((((r.o.i3).app _).app _).app _) (Fr.push (N:=0) (aaC _) [aR (y,t)] (by simp[aR])).aY De Si (by have:=c.w.len.l3;simp;omega) Xx ?_;intro g' SP hff hkp;exact z8
def P1(r:b9 B.length (B++g) b V)(c:Cx (B++g) V x .merge):dA P 166 [.ptr b 0,.agg x.row] (B++g) (λ_ k=>ui B b V x.ev .merge k):=by
 refine .eX 31 T.mix T.c166 ?_;intro ts hlen t0 t1;unfold fn166;have hex:=@bh.box _ _ c.e;have lb:=@dB _ _ _ r.m;have i0:bf 1 x.sn (.i 0)=_:=(c.nm (i:=0) De).1;have d0:=@(c.nm (i:=0) De).2;have i1:bf 1 x.sn (.i 1)=_:=(c.nm (i:=1) De).1;have d1:=@(c.nm (i:=1) De).2;have hnl:1<=x.ev.names.length:=by rw[c.we.nl];decide
 have hnl2:x.ev.names.length<=3:=by rw[c.we.nl];decide
 obtain⟨s',es',SI⟩:=c.e.n.Eg (lo:=some (.i 1)) (hi:=none) (mM (k:=1) hnl);have et:List.take (x.ev.names.length-1) (List.drop 1 x.ev.names)=x.ev.names.drop 1:=aaM Si;rw[et]at SI;have k1:aL x.ev 1∈iC V.an:=c.nk.kn 1 3 rfl;refine Rs (nT t0 t1 @hex @lb @eU @aG @aS @bg @i0 @d0 @i1 @d1) ?_;refine WF.res T.c245 (r245 T (c.o.ext Xx) c.w.len k1) ?_;rintro _ g1 ⟨z,hz,hz1,rfl⟩;unfold aR;obtain⟨y,hy⟩:∃y:iP,y=⟨aL x.ev 0,(iG V.an (aL x.ev 1)).gives,[],x.ev.names.drop 1⟩:=⟨_,rfl⟩;refine Rs (A5 t0 t1 @lb @aS @es') ?_;refine WF.res T.c177 (r177 T (SI.ext Xx) (by simp;omega)) ?_;rintro t g2 TN;have TM:aR (y,t)=[.str (aL x.ev 0),.str z.1.gives,.str [],t]:=by rw[hy,hz1];rfl
 have TN:Fr (B++g).length (B++g++[ak.b x.row]++g1++g2) t 1 (y.bC.map aq):=by rw[hy];exact TN.low (by simp only[Z1];omega)
 have ot:=TN.aY.one;refine Rs (A3 t0 t1 @ot) ?_;rw[<-TM];refine WR.fg (h0:=B) (cs:=V.aC.map aR) (ys:=[aR (y,t)]) (((((r.o.i3).app _).app _).app _).app _) (Fr.push (N:=0) (aaC _) [aR (y,t)] (by simp[aR])).aY De Si (by have:=c.w.len.l3;simp;omega) Xx ?_;intro g' SP hff hkp;exact z8
def PX(r:b9 B.length (B++g) b V)(c:Cx (B++g) V x .gL):dA P 174 [.ptr b 0,.agg x.row] (B++g) (λ_ k=>ui B b V x.ev .gL k):=by
 refine .eX 32 T.mix T.c174 ?_;intro ts hlen t0 t1;unfold fn174;have hex:=@bh.box _ _ c.e;have lb:=@dB _ _ _ r.m;have i0:bf 1 x.sn (.i 0)=_:=(c.nm (i:=0) De).1;have d0:=@(c.nm (i:=0) De).2;have i1:bf 1 x.sn (.i 1)=_:=(c.nm (i:=1) De).1;have d1:=@(c.nm (i:=1) De).2;have k1:aL x.ev 1∈jg V.an:=c.nk.kn 1 4 rfl;refine Rs (nT t0 t1 @hex @lb @fL @aG @aS @bg @i0 @d0 @i1 @d1) ?_;refine WF.res T.c124 (r124 T (c.o.ext Xx) c.w.len k1) ?_;rintro _ g1 ⟨z,hz,hz1,rfl⟩;have hzb:=(c.w.jb z.1 (aao hz)).2;unfold bF;refine Rs (A2 t0 t1) ?_;refine WF.ce T.c95 (r95 T ((c.o.e4 z hz).ext Xx) Om hzb.2.2) λg2=>?_
 obtain⟨y,hy⟩:∃y:qM,y=⟨aL x.ev 0,aL x.ev 1,gE (gX V.an (aL x.ev 1)).bE,false⟩:=⟨_,rfl⟩;have TM:cD y=[.str (aL x.ev 0),.str (aL x.ev 1),.i (gE z.1.bE),.bool false]:=by rw[hy,hz1];rfl
 refine Rs (A2 t0 t1) ?_;rw[<-TM];refine WR.fg (h0:=B) (cs:=V.aJ.map cD) (ys:=[cD y]) (((((r.o.i5).app _).app _).app _).app _) (Fr.push (N:=0) (aaC _) [cD y] (by simp[cD])).aY De Si (by have:=c.w.len.l5;simp;omega) Xx ?_;intro g' SP hff hkp;have hrow:V.aJ.map cD++[cD y]=(V.aJ++[y]).map cD:=by rw[aae];rfl
 rw[hrow]at hff;rw[hrow];have hbl:=r.lt;have SY:sB V.s5≠some b:=λe=>r.ne (by rw[<-e];simp[RV.bl])
 have hk1:∀i,i<(B++g).length->sB V.s5≠some i->(B++g')[i]? =(B++g)[i]? :=λi hi hne=>by
  exact JU
 have mB:(B++g')[b]? =some (.b V.row):=(hk1 b hbl SY).trans r.m;have VP:=λ(b' o n e:Nat)=>iX (i:=6) (v:=.slice b' o n e) mB rfl De
 refine Rs (A4 t0 t1 @VP @fx) ?_;exact MS r hff (λi hi=>by cases hi;exact .inr (by simp only[Z1];omega)) hk1 (by rw[hy];rfl)
end
def b9.RJ{N b h k V}(r:b9 N h b V){i}(hi:i<V.aF.length){y}(hy:y.name=V.aF[i].1.name/\y.mod=V.aF[i].1.mod)(hf:Fr N k V.aF[i].2 1 (y.bE.map aM))
  (hk:∀j,j<h.length->sB V.aF[i].2≠some j->k[j]? =h[j]?):b9 N k b {V with aF:=V.aF.set i (y,V.aF[i].2) }:=by
 have hin:∀j,some j∈V.bl->N<=j/\j<h.length:=λj hj=>r.o.ep hj
 have hbl:{V with aF:=V.aF.set i (y,V.aF[i].2) }.bl=V.bl:=by
  simp only[RV.bl,ab9];congr 1;have:sB V.aF[i].2=(V.aF.map λx=>sB x.2)[i]'(by simpa using hi):=Si
  exact D7
 obtain⟨h1,h2,h3⟩:=abj.1 (show lL (([sB V.s0,sB V.s1,sB V.s2,sB V.s3,sB V.s4,sB V.s5]++(V.aj.map λx=>sB x.2)++(V.aC.map λx=>sB x.2))++(V.aF.map λx=>sB x.2))from r.o.di);have Us:sB V.aF[i].2∈V.aF.map λx=>sB x.2:=aao (f:=λx:lH×AV=>sB x.2) (aad hi)
 have kA:∀j,some j∈([sB V.s0,sB V.s1,sB V.s2,sB V.s3,sB V.s4,sB V.s5]++(V.aj.map λx=>sB x.2)++(V.aC.map λx=>sB x.2))->k[j]? =h[j]? :=λj hj=>
  hk j (hin j (by rw[RV.bl];exact aac.2 (.inl hj))).2 (h3 _ hj _ Us j rfl)
 have k6:∀j,some j∈[sB V.s0,sB V.s1,sB V.s2,sB V.s3,sB V.s4,sB V.s5]->k[j]? =h[j]? :=λj hj=>kA j (by simp only[aac];exact .inl (.inl hj))
 have hrow:(V.aF.set i (y,V.aF[i].2)).map bF=V.aF.map bF:=by
  rw[ab9];have:bF (y,V.aF[i].2)=(V.aF.map bF)[i]'(by simpa using hi):=by simp[bF,hy.1,hy.2]
  exact D7
 have own:cK N k {V with aF:=V.aF.set i (y,V.aF[i].2) }:=by
  refine⟨r.o.i0.aD λj hj=>k6 j (by rw[<-hj];simp),r.o.i1.aD λj hj=>k6 j (by rw[<-hj];simp),r.o.i2.aD λj hj=>k6 j (by rw[<-hj];simp),r.o.i3.aD λj hj=>k6 j (by rw[<-hj];simp),?_,r.o.i5.aD λj hj=>k6 j (by rw[<-hj];simp),?_,?_,?_,?_⟩
  ·show Fr N k V.s4 3 ((V.aF.set i (y,V.aF[i].2)).map bF);rw[hrow];exact r.o.i4.aD λj hj=>k6 j (by rw[<-hj];simp)
  ·exactλx hx=>(r.o.e2 x hx).aD λj hj=>kA j (by rw[<-hj];simp only[aac,aaA];exact .inl (.inr ⟨x,hx,rfl⟩))
  ·exactλx hx=>(r.o.e3 x hx).aD λj hj=>kA j (by rw[<-hj];simp only[aac,aaA];exact .inr ⟨x,hx,rfl⟩)
  ·intro x hx;obtain⟨n,hn,rfl⟩:=aca hx;have XI:n<V.aF.length:=by simpa using hn
   by_cases hni:n=i
   ·subst hni;simp only[abY];exact hf
   ·simp only[acx (abo hni)];refine(r.o.e4 _ (aad XI)).aD λj hj=>hk j ?_ λe=>?_
    ·exact((r.o.e4 _ (aad XI)).bQ hj).2
    ·have e1:(V.aF.map λx=>sB x.2)[n]'(by simpa using XI)=some j:=by simpa using hj
     have e2:(V.aF.map λx=>sB x.2)[i]'(by simpa using hi)=some j:=by simpa using e
     rcases Nat.lt_or_gt_of_ne hni with hlt|hlt
     ·exact List.pairwise_iff_getElem.1 h2 n i (by simpa using XI) (by simpa using hi) hlt j e1 e2
     ·exact List.pairwise_iff_getElem.1 h2 i n (by simpa using hi) (by simpa using XI) hlt j e2 e1
  ·show lL {V with aF:=V.aF.set i (y,V.aF[i].2) }.bl;rw[hbl];exact r.o.di
 refine⟨own,r.hN,?_,by rw[hbl];exact r.ne⟩;have:sB V.aF[i].2≠some b:=λe=>r.ne (by rw[<-e,RV.bl];exact aac.2 (.inr Us))
 exact(hk b r.lt this).trans r.m
section
variable {P:Program}(T:fq P) {B g:ah}{b:Nat}{V:RV}{x:EV}
include T
def P4(r:b9 B.length (B++g) b V)(c:Cx (B++g) V x .accept):dA P 160 [.ptr b 0,.agg x.row] (B++g) (λ_ k=>ui B b V x.ev .accept k):=by
 refine .eX 19 T.mix T.c160 ?_;intro ts hlen t0 t1;unfold fn160 y4;have hex:=@bh.box _ _ c.e;have lb:=@dB _ _ _ r.m;have i0:bf 1 x.sn (.i 0)=_:=(c.nm (i:=0) De).1;have d0:=@(c.nm (i:=0) De).2;have hn:aL x.ev 0∈eP V.an:=c.nk.kn 0 0 rfl;have hlt:bn (eP V.an) (aL x.ev 0)<V.lines.length:=by have:=cN hn;simpa [eP,RV.an]using this
 have ei:cV (λy:gN=>decide (y.name=aL x.ev 0)) V.lines=(bn (eP V.an) (aL x.ev 0):Int):=fp (f:=gN.name) hn;have ix:bf 3 V.s0 (.i (bn (eP V.an) (aL x.ev 0):Int))=some (cI V.s0 3 (bn (eP V.an) (aL x.ev 0)),.ar):=c.o.i0.c6 hlt;have sp:cC V.an (aL x.ev 0)=V.lines[bn (eP V.an) (aL x.ev 0)]:=de hn;refine Rs (A8 t0 t1 @hex @lb @eJ @aS @i0 @d0) ?_;refine WF.ce T.c142 (r142 T (c.o.i0.ext Xx) (by have:=c.w.len.l0;omega) _) λg1=>?_
 rw[ei];refine Rs (A3 t0 t1 ix) ?_;rw[Z4 B g,Z4 B];refine WR.vX (h0:=B) (x':={V.lines[bn (eP V.an) (aL x.ev 0)]with acc:=true}) (by rw[<-Z4,<-Z4];exact(r.o.i0.app _).app _) hlt De rfl rfl ?_;intro g' SP hff hkp;have hbl:=r.lt;have SY:sB V.s0≠some b:=λe=>r.ne (by rw[<-e];simp[RV.bl])
 have hk1:∀i,i<(B++g).length->sB V.s0≠some i->(B++g')[i]? =(B++g)[i]? :=λi hi hne=>by
  rw[hkp i (λb0 o n e he z=>hne (by rw[he,z];rfl)),<-Z4,<-Z4];exact z46
 refine Rs (A3 t0 t1 @fx) ?_;refine⟨g',{V with lines:=V.lines.set (bn (eP V.an) (aL x.ev 0)) {V.lines[bn (eP V.an) (aL x.ev 0)]with acc:=true},s0:=V.s0},rfl,r.NJ hff (λi hi=>.inl hi) ((hk1 b hbl SY).trans r.m) (λi hi h1 _=>hk1 i hi h1),?_⟩;simp only[dF,sp];rfl
def PW(r:b9 B.length (B++g) b V)(c:Cx (B++g) V x .rel):dA P 176 [.ptr b 0,.agg x.row] (B++g) (λ_ k=>ui B b V x.ev .rel k):=by
 refine .eX 19 T.mix T.c176 ?_;intro ts hlen t0 t1;unfold fn176 y4;have hex:=@bh.box _ _ c.e;have lb:=@dB _ _ _ r.m;have i0:bf 1 x.sn (.i 0)=_:=(c.nm (i:=0) De).1;have d0:=@(c.nm (i:=0) De).2;have hn:aL x.ev 0∈lK V.an:=c.nk.kn 0 5 rfl;have hlt:bn (lK V.an) (aL x.ev 0)<V.aJ.length:=by have:=cN hn;simpa [lK,RV.an]using this
 have ei:cV (λy:qM=>decide (y.name=aL x.ev 0)) V.aJ=(bn (lK V.an) (aL x.ev 0):Int):=fp (f:=qM.name) hn;have ix:bf 4 V.s5 (.i (bn (lK V.an) (aL x.ev 0):Int))=some (cI V.s5 4 (bn (lK V.an) (aL x.ev 0)),.ar):=c.o.i5.c6 hlt;have sp:kC V.an (aL x.ev 0)=V.aJ[bn (lK V.an) (aL x.ev 0)]:=de hn;refine Rs (A8 t0 t1 @hex @lb @fL @aS @i0 @d0) ?_;refine WF.ce T.c146 (r146 T (c.o.i5.ext Xx) (by have:=c.w.len.l5;omega) _) λg1=>?_
 rw[ei];refine Rs (A3 t0 t1 ix) ?_;rw[Z4 B g,Z4 B];refine WR.vX (h0:=B) (x':={V.aJ[bn (lK V.an) (aL x.ev 0)]with rel:=true}) (by rw[<-Z4,<-Z4];exact(r.o.i5.app _).app _) hlt De rfl rfl ?_;intro g' SP hff hkp;have hbl:=r.lt;have SY:sB V.s5≠some b:=λe=>r.ne (by rw[<-e];simp[RV.bl])
 have hk1:∀i,i<(B++g).length->sB V.s5≠some i->(B++g')[i]? =(B++g)[i]? :=λi hi hne=>by
  rw[hkp i (λb0 o n e he z=>hne (by rw[he,z];rfl)),<-Z4,<-Z4];exact z46
 refine Rs (A3 t0 t1 @fx) ?_;refine⟨g',{V with aJ:=V.aJ.set (bn (lK V.an) (aL x.ev 0)) {V.aJ[bn (lK V.an) (aL x.ev 0)]with rel:=true},s5:=V.s5},rfl,r.NI hff (λi hi=>.inl hi) ((hk1 b hbl SY).trans r.m) (λi hi h1 _=>hk1 i hi h1),?_⟩;simp only[dF,sp];rfl
def MP(r:b9 B.length (B++g) b V){d}(c:Cx (B++g) V x d)(hd:1<cF d)(h0:0<(bN d).length)(hn:aL x.ev 0∈jg V.an)(hlt1:bI x.ev 1<(gX V.an (aL x.ev 0)).bE.length)(s:Int):
  dA P 250 [.ptr b 0,.agg x.row,.i s] (B++g) (λ_ k=>∃g' V',k=B++g'/\b9 B.length (B++g') b V'/\V'.an={V.an with aF:=nD V.an x.ev s}):=by
 refine .nC 28 T.mix T.c250 ?_;intro ts hlen t0 t1 t2;unfold fn250;have hex:=@bh.box _ _ c.e;have lb:=@dB _ _ _ r.m;have i0:bf 1 x.sn (.i 0)=_:=(c.nm (i:=0) h0).1;have d0:=@(c.nm (i:=0) h0).2;have j1:bf 1 x.sv (.i 1)=_:=(c.vl (i:=1) hd).1;have f1:=@(c.vl (i:=1) hd).2.1;have q1:=(c.vl (i:=1) hd).2.2;have hlt:bn (jg V.an) (aL x.ev 0)<V.aF.length:=by have:=cN hn;simpa [jg,RV.an]using this
 have ei:cV (λy:lH×AV=>decide (y.1.name=aL x.ev 0)) V.aF=(bn (jg V.an) (aL x.ev 0):Int):=(fp (f:=λy:lH×AV=>y.1.name) (by rw[<-iT];exact hn)).trans (by rw[iT]);have ix:bf 3 V.s4 (.i (bn (jg V.an) (aL x.ev 0):Int))=some (cI V.s4 3 (bn (jg V.an) (aL x.ev 0)),.ar):=c.o.i4.c6 hlt;have sp:(V.aF[bn (jg V.an) (aL x.ev 0)]).1=gX V.an (aL x.ev 0):=by
  have:=de (f:=lH.name) (l:=V.an.aF) (n:=aL x.ev 0) (d:=AA) hn;rw[show gX V.an (aL x.ev 0)=_ from this];exact D8
 obtain⟨p,hp⟩:∃p,p=bn (jg V.an) (aL x.ev 0):=⟨_,rfl⟩;rw[<-hp]at ei ix;have hlt:p<V.aF.length:=by rw[hp];exact hlt
 have sp:V.aF[p].1=gX V.an (aL x.ev 0):=by rw[<-sp];congr 2
 have l2:∀{k:ah},Ext (B++g) k->ao none (jF V.s4 3 p 2) (λb=>k[b]?)=some (V.aF[p].2,.ar):=λ{k} e=>c.o.i4.kT hlt rfl e
 have oj:=r.o.e4 _ (aad hlt);have hsl:(bI x.ev 1).toNat<V.aF[p].1.bE.length:=by rw[sp];omega
 have Yo:bI x.ev 1=((bI x.ev 1).toNat:Int):=Om
 have iy:bf 1 V.aF[p].2 (.i (bI x.ev 1))=some (cI V.aF[p].2 1 (bI x.ev 1).toNat,.ar):=by
  rw[Yo];exact oj.aY.c6 hsl
 refine Rs (A9 t0 t1 t2 @hex @lb @fc @aS @i0 @d0) ?_;refine WF.ce T.c145 (r145 T (c.o.i4.ext Xx) c.o.jL.2.2 (by have:=c.w.len.l4;omega) _) λg1=>?_
 rw[ei];refine Rs (A9 t0 t1 t2 ix @l2 @bg @j1 @f1 @iy) ?_;rw[Z4 B g,Z4 B];have Wk:cI V.aF[p].2 1 (bI x.ev 1).toNat=jF V.aF[p].2 1 (bI x.ev 1).toNat 0:=rfl;rw[Wk];refine WR.vX (h0:=B) (x':=s) (row:=aM) (L:=V.aF[p].1.bE) (by rw[<-Z4,<-Z4];exact(oj.app _).app _) hsl De rfl rfl ?_;intro g' SP hff hkp;have hk1:∀i,i<(B++g).length->sB V.aF[p].2≠some i->(B++g')[i]? =(B++g)[i]? :=λi hi hne=>by
  rw[hkp i (λb0 o n e he z=>hne (by rw[he,z];rfl)),<-Z4,<-Z4];exact z46
 refine Rs (A4 t0 t1 t2 @fx) ?_;refine⟨g',{V with aF:=V.aF.set p ({V.aF[p].1 with bE:=V.aF[p].1.bE.set (bI x.ev 1).toNat s},V.aF[p].2) },rfl,r.RJ hlt ⟨rfl,rfl⟩ hff hk1,?_⟩;have e:nD V.an x.ev s=(V.aF.set p ({V.aF[p].1 with bE:=V.aF[p].1.bE.set (bI x.ev 1).toNat s},V.aF[p].2)).map Prod.fst:=by
  rw[nD,<-hp,<-sp,ab9];rfl
 rw[e];rfl
def PZ(r:b9 B.length (B++g) b V)(c:Cx (B++g) V x .gp)(hc:bz V.an x.ev .gp=0):dA P 170 [.ptr b 0,.agg x.row] (B++g) (λ_ k=>ui B b V x.ev .gp k):=by
 refine .eX 11 T.mix T.c170 ?_;intro ts hlen t0 t1;unfold fn170 gA;have hex:=@bh.box _ _ c.e;have j2:bf 1 x.sv (.i 2)=_:=(c.vl (i:=2) De).1;have f2:=@(c.vl (i:=2) De).2.1;have k0:aL x.ev 0∈jg V.an:=c.nk.kn 0 4 rfl;have hlt:bI x.ev 1<(gX V.an (aL x.ev 0)).bE.length:=by
  exact Ri
 refine Rs (A7 t0 t1 @hex @bR @bg @j2 @f2) ?_;rw[Z4 B g];refine WF.gen T.c250 (MP T (B:=B) (by rw[<-Z4];exact r.app _) (by rw[<-Z4];exact c.ext Xx) De De k0 hlt (bI x.ev 2)) ?_;rintro _ _ ⟨g',V',rfl,h1,h2⟩;exact z194
def PY(r:b9 B.length (B++g) b V)(c:Cx (B++g) V x .fail)(hc:bz V.an x.ev .fail=0):dA P 172 [.ptr b 0,.agg x.row] (B++g) (λ_ k=>ui B b V x.ev .fail k):=by
 refine .eX 7 T.mix T.c172 ?_;intro ts hlen t0 t1;unfold fn172 gA;have hex:=@bh.box _ _ c.e;have k0:aL x.ev 0∈jg V.an:=c.nk.kn 0 4 rfl;have hlt:bI x.ev 1<(gX V.an (aL x.ev 0)).bE.length:=by
  exact Ri
 refine Rs (A4 t0 t1 @hex @bR) ?_;rw[Z4 B g];refine WF.gen T.c250 (MP T (B:=B) (by rw[<-Z4];exact r.app _) (by rw[<-Z4];exact c.ext Xx) De De k0 hlt (-1)) ?_;rintro _ _ ⟨g',V',rfl,h1,h2⟩;exact z194
end
def yb{k:Nat}(hk:k<=32):eV .and (.int .u64 (k:Int)) (.int .u64 4294967295)=some (.int .u64 (k:Int))/\eV .shr (.int .u64 (k:Int)) (.int .u64 32)=some (.int .u64 0):=by
 have:k=0\/k=1\/k=2\/k=3\/k=4\/k=5\/k=6\/k=7\/k=8\/k=9\/k=10\/k=11\/k=12\/k=13\/k=14\/k=15\/k=16\/k=17\/k=18\/k=19\/k=20\/k=21\/k=22\/k=23\/k=24\/k=25\/k=26\/k=27\/k=28\/k=29\/k=30\/k=31\/k=32:=Om
 rcases this with rfl|rfl|rfl|rfl|rfl|rfl|rfl|rfl|rfl|rfl|rfl|rfl|rfl|rfl|rfl|rfl|rfl|rfl|rfl|rfl|rfl|rfl|rfl|rfl|rfl|rfl|rfl|rfl|rfl|rfl|rfl|rfl|rfl<;>exact⟨rfl,rfl⟩
def Ab:eV .and (.int .u64 0) (.int .u64 4294967295)=some (.int .u64 0)/\eV .shr (.int .u64 0) (.int .u64 32)=some (.int .u64 0):=⟨rfl,rfl⟩
def CN:eV .and (.int .u64 1) (.int .u64 4294967295)=some (.int .u64 1)/\eV .shr (.int .u64 1) (.int .u64 32)=some (.int .u64 0):=⟨rfl,rfl⟩
def Ji{x y:c7}{ρ:c7->AV}{h:ah}{b o n m N:Nat}{c:List AV}{tl:Bool}(hx:ρ x=.slice b o n 1)(hy:ρ y=.slice b 0 m 1)(hb:h[b]? =some (.cells c true tl))(hn:o+n<=c.length)(hm:m<=c.length)(h0:0<min m n):
  stepT (.zK 1 x y) ρ (λz=>h[z]?) N=some (.i (min m n:Nat),.set b (.cells (gf c o (c.take (min m n))) true tl)):=by
 have hc:fG 1 (λz=>h[z]?) (ρ y)=some (c.take m,m):=by
  rw[hy];simp only[fG,aan,hb,aaP,acd,abt];rw[aai hm]
 have e:stepT (.zK 1 x y) ρ (λz=>h[z]?) N=(match ρ x,fG 1 (λz=>h[z]?) (ρ y)with
  |.slice b o n es',some (ys,k)=>
   if es' =1 then
    if min k n=0 then some (.i 0,.ar)
    else
     match h[b]? with
     |some (.cells c true tl)=>if o+min k n*1<=c.length then some (.i (min k n:Nat),.set b (.cells (gf c o (ys.take (min k n*1))) true tl))else none
     |_=>none
   else none
  |.af,some _=>some (.i 0,.ar)
  |_,_=>none):=rfl
 rw[e,hc,hx];simp only[aan,hb,acd];rw[aab Om,aai Om,List.take_take,abR (Nat.min_le_left _ _)]
def Fu{x y ρ h b n N c v tl}(hx:ρ x=.slice b 0 n 1)(hy:aI h (ρ y) 1 [[v]])(hb:h[b]? =some (.cells c true tl))(hn:c.length=n)(h0:0<n):
  stepT (.zK 1 x y) ρ (λz=>h[z]?) N=some (.i 1,.set b (.cells (c.set 0 v) true tl)):=by
 have hc:=hy.fG;have e:stepT (.zK 1 x y) ρ (λz=>h[z]?) N=(match ρ x,fG 1 (λz=>h[z]?) (ρ y)with
  |.slice b o n es',some (ys,k)=>
   if es' =1 then
    if min k n=0 then some (.i 0,.ar)
    else
     match h[b]? with
     |some (.cells c true tl)=>if o+min k n*1<=c.length then some (.i (min k n:Nat),.set b (.cells (gf c o (ys.take (min k n*1))) true tl))else none
     |_=>none
   else none
  |.af,some _=>some (.i 0,.ar)
  |_,_=>none):=rfl
 have hm:min 1 n=1:=Om
 rw[e,hc,hx];simp only[aan,hb,aau,hm,acd];rw[aab De,aai Om];rfl
def Cc{v z c m k}(hm:c+m<=k):gf (List.replicate c v++List.replicate (k-c) z) c (List.replicate m v)=List.replicate (c+m) v++List.replicate (k-(c+m)) z:=by
 induction m generalizing c with
 |zero=>rfl
 |succ m ih=>
  rw[abE,pR];have hk:k-c=(k-(c+1))+1:=Om
  have e:(List.replicate c v++List.replicate (k-c) z).set c v=List.replicate (c+1) v++List.replicate (k-(c+1)) z:=by
   rw[aa1 _ _ Si,abd,abb,hk,abE,List.set_cons_zero,List.replicate_succ',Z4];rfl
  rw[e,ih Om];congr 2<;>omega
def B1{v z:AV}{c m k:Nat}(hm:m<=c):(List.replicate c v++List.replicate (k-c) z).take m=List.replicate m v:=by
 rw[List.take_append_of_le_length (by simpa using hm),List.take_replicate,abR hm]
section
variable {P:Program}(T:fq P) {h:ah}
include T
def r286{k:Nat}(hk:k<=32):ay P 286 [.int .u64 1,.int .u64 (k:Int)] h (λv _=>v=.dW [.int .u64 0,.int .u64 (k:Int)]):=by
 refine .eX 51 T.mix T.c286 ?_;intro ts hlen t0 t1;unfold fn286 gA;obtain⟨a1,a2⟩:=yb hk;obtain⟨b1,b2⟩:=Ab;obtain⟨c1,c2⟩:=CN;have w1:IntKind.u64.wrap (1*(k:Int))=(k:Int):=by rw[Int.one_mul];exact yX Om Om
 have w2:IntKind.u64.wrap (0*(k:Int))=0:=by rw[Int.zero_mul];rfl
 have w3:IntKind.u64.wrap (0+0)=0:=rfl;have w4:IntKind.u64.wrap (1*0)=0:=rfl;have w5:IntKind.u64.wrap (0*0)=0:=rfl;exact Rs (D3 t0 t1 @a1 @a2 @b1 @b2 @c1 @c2 @w1 @w2 @w3 @w4 @w5) Tv
def r267{k:Nat}(hk:k<=32):ay P 267 [.int .u64 1,.int .u64 (k:Int)] h (λv _=>v=.dW [.int .u64 0,.int .u64 (k:Int)]):=by
 refine .eX 30 T.mix T.c267 ?_;intro ts hlen t0 t1;unfold fn267 gA;refine Rs (A2 t0 t1) ?_;refine WF.ce T.c286 (r286 T hk) λg1=>?_
 exact Rs (A2 t0 t1) Tv
def r248{s:AV}(hs:aI h s 1 (([-1] :List Int).map aM)){k:Nat}(hk:k<=32)(hk0:0<k):ay P 248 [s,.i (k:Int)] h (λv h'=>Fr h.length h' v 1 ((List.replicate k (-1:Int)).map aM)):=by
 refine .eX 48 T.mix T.c248 ?_;intro ts hlen t0 t1;unfold fn248 gA;have q0:decide ((k:Int)<0)=false:=Z3 Om;have Vt:=λG=>hs.aH G
 have c1:IntKind.u64.wrap ((([-1] :List Int).length:Nat):Int)=1:=rfl;have c2:IntKind.u64.wrap (k:Int)=(k:Int):=yX Om Om;have q1:decide ((0:Int)<0)=false:=rfl;have q2:decide ((9223372036854775807:Int)<(k:Int))=false:=Z3 Om;have c3:IntKind.i64.wrap (k:Int)=(k:Int):=bD Om Om;have mk:∀{N:Nat},tN 1 8 [AV.i 0] (.i (k:Int)) (.i (k:Int)) N=some (.slice N 0 k 1,.push (.cells (dY k [AV.i 0]) true true)):=oM Om Om;refine Rs (A6 t0 t1 q0 @Vt @c1 @c2) ?_;refine WF.ce T.c267 (r267 T hk) λg1=>?_
 refine Rs (A6 t0 t1 q1 q2 @c3 @mk) ?_;rw[Fu (b:=(h++g1).length) (n:=k) (v:=.i (-1)) (c:=dY k [AV.i 0]) (tl:=true)]
 rotate_left
 ·exact(Sq t0)
 ·have:aI (h++g1++[ak.cells (dY k [AV.i 0]) true true]) s 1 [[AV.i (-1)]]:=hs.ext Xx;refine Zs t0 ?_;exact this
 ·exact ba
 ·rw[mz,ab2];simp
 ·exact hk0
 have hz:(dY k [AV.i 0]).set 0 (.i (-1))=List.replicate 1 (AV.i (-1))++List.replicate (k-1) (AV.i 0):=by
  rw[mz,ab2];obtain⟨n,rfl⟩:∃n,k=n+1:=⟨k-1,Om⟩;rw[abE,List.set_cons_zero];rfl
 rw[hz];refine Rs (A2 t0 t1) ?_;obtain⟨b0,T6⟩:∃b0,b0=(h++g1).length:=⟨_,rfl⟩;rw[<-T6];have hN:h.length<=b0:=by rw[T6];simp
 refine WL.inv T.mix (λn ts h'=>∃c:Nat,1<=c/\c<=k/\n=k-c/\h' =h++g1++[ak.cells (List.replicate c (AV.i (-1))++List.replicate (k-c) (AV.i 0)) true true]/\ts.length=48/\slot ts 7=.slice b0 0 k 1/\slot ts 8=.i (c:Int)) (k-1)
  ⟨1,Om,Om,rfl,rfl,Sn,(Sq t0),ga⟩ ?_
 rintro _ ts _ ⟨c,h1,h2,rfl,rfl,hlen,t7,t8⟩;have hb:(h++g1++[ak.cells (List.replicate c (AV.i (-1))++List.replicate (k-c) (AV.i 0)) true true])[b0]? =some (.cells (List.replicate c (AV.i (-1))++List.replicate (k-c) (AV.i 0)) true true):=by rw[T6];exact ba
 have X8:∀G:Nat->Option ak,ja .sl G (.slice b0 0 k 1)=some k:=λ_=>rfl
 by_cases hlt:c<k
 ·have e3:decide ((c:Int)<(k:Int))=true:=Z8 Om;have s1:Al 1 (.slice b0 0 k 1) (some (.i (c:Int))) none=some (.slice b0 c (k-c) 1,.ar):=by
   simp only[Al,aan,mM (kk:=.i64) h2,acd,aaP]
  have s2:Al 1 (.slice b0 0 k 1) none (some (.i (c:Int)))=some (.slice b0 0 c 1,.ar):=by
   simp only[Al,aan,jt (kk:=.i64) h2,acd,aaP,Nat.sub_zero]
  refine Rs (A6 t7 t8 @X8 e3 @s1 @s2) ?_;rw[Ji (b:=b0) (o:=c) (n:=k-c) (m:=c) (c:=List.replicate c (AV.i (-1))++List.replicate (k-c) (AV.i 0)) (tl:=true)]
  rotate_left
  ·exact(Sq t7)
  ·exact(Sq t7)
  ·exact hb
  ·exact z175
  ·exact z175
  ·omega
  rw[B1 (Nat.min_le_left _ _),Cc Om];have bY:∀X:ak,(h++g1++[ak.cells (List.replicate c (AV.i (-1))++List.replicate (k-c) (AV.i 0)) true true]).set b0 X=h++g1++[X]:=λX=>by rw[T6];exact Cb
  have hw:IntKind.i64.wrap ((c:Int)+((min c (k-c):Nat):Int))=((c+min c (k-c):Nat):Int):=by rw[bD Om Om];rfl
  refine Rs (A4 t7 t8 @bY @hw) ?_;exact⟨_,Om,c+min c (k-c),Om,Om,rfl,rfl,rfl⟩
 ·have e3:decide ((c:Int)<(k:Int))=false:=Z3 Om;have e4:c=k:=Om
  refine Rs (A4 t7 t8 @X8 e3) ?_;have Tg:(List.replicate c (AV.i (-1))++List.replicate (k-c) (AV.i 0))=((List.replicate k (-1:Int)).map aM).flatten:=by
   rw[e4,abb,acy,aaw,List.map_replicate,ab2]
  have hlr:((List.replicate k (-1:Int)).map aM).length=k:=Si
  rw[Tg]at hb;have:=Fr.mk (N:=h.length) (es:=1) (cs:=(List.replicate k (-1:Int)).map aM) (b:=b0) (tl:=true) hN hb Si;rw[hlr]at this;rw[Tg];exact this
end
section
variable {P:Program}(T:fq P) {B g:ah}{b:Nat}{V:RV}{x:EV}
include T
def P0(r:b9 B.length (B++g) b V)(c:Cx (B++g) V x .run)(hc:bz V.an x.ev .run=0):dA P 168 [.ptr b 0,.agg x.row] (B++g) (λ_ k=>ui B b V x.ev .run k):=by
 refine .eX 28 T.mix T.c168 ?_;intro ts hlen t0 t1;unfold fn168;have hex:=@bh.box _ _ c.e;have lb:=@dB _ _ _ r.m;have i0:bf 1 x.sn (.i 0)=_:=(c.nm (i:=0) De).1;have d0:=@(c.nm (i:=0) De).2;have i1:bf 1 x.sn (.i 1)=_:=(c.nm (i:=1) De).1;have d1:=@(c.nm (i:=1) De).2;have j1:bf 1 x.sv (.i 1)=_:=(c.vl (i:=1) De).1;have f1:=@(c.vl (i:=1) De).2.1;have q1:=(c.vl (i:=1) De).2.2;have hn:1<=bI x.ev 1/\bI x.ev 1<=32:=by
  rw[bz]at hc;split at hc
  ·cases hc
  split at hc
  ·cases hc
  case isFalse hr=>exact iR hr
 obtain⟨k,hk⟩:∃k:Nat,bI x.ev 1=(k:Int):=⟨(bI x.ev 1).toNat,Om⟩;rw[hk]at f1;obtain⟨y,hy⟩:∃y:lH,y=⟨aL x.ev 0,aL x.ev 1,List.replicate k (-1)⟩:=⟨_,rfl⟩;refine Rs (D3 t0 t1 @hex @lb @fc @aS @bg @i0 @d0 @i1 @d1 @j1 @f1) ?_;refine WF.res T.c248 (r248 T (s:=.slice (B++g++[ak.b x.row]).length 0 1 1) (k:=k) (cg [-1]) Om Om) ?_;rintro t g1 TN;have TM:bF (y,t)=[.str (aL x.ev 0),.str (aL x.ev 1),t]:=by rw[hy];rfl
 have TN:Fr (B++g).length (B++g++[ak.b x.row]++[ak.cells [AV.i (-1)] true true]++g1) t 1 (y.bE.map aM):=by rw[hy];exact TN.low (by simp only[Z1,aau];omega)
 have ot:=TN.aY.one;refine Rs (A3 t0 t1 @ot) ?_;rw[<-TM];refine WR.fg (h0:=B) (cs:=V.aF.map bF) (ys:=[bF (y,t)]) (((((r.o.i4).app _).app _).app _).app _) (Fr.push (N:=0) (aaC _) [bF (y,t)] (by simp[bF])).aY De Si (by have:=c.w.len.l4;simp;omega) Xx ?_;intro g' SP hff hkp;have hrow:V.aF.map bF++[bF (y,t)]=(V.aF++[(y,t)]).map bF:=by rw[aae];rfl
 rw[hrow]at hff;rw[hrow];have hbl:=r.lt;have SY:sB V.s4≠some b:=λe=>r.ne (by rw[<-e];simp[RV.bl])
 have hk1:∀i,i<(B++g).length->sB V.s4≠some i->(B++g')[i]? =(B++g)[i]? :=λi hi hne=>by
  exact JU
 have mB:(B++g')[b]? =some (.b V.row):=(hk1 b hbl SY).trans r.m;have VP:=λ(b' o n e:Nat)=>iX (i:=5) (v:=.slice b' o n e) mB rfl De
 refine Rs (A4 t0 t1 @VP @fx) ?_;refine MT r hff ?_ (λi hi=>by cases hi;exact .inr (by simp only[Z1,aau];omega)) hk1 ?_ ?_
 ·refine Fr.low (N:=(B++g).length) ((show Fr (B++g).length _ t 1 _ from TN.app _).aD λi hi=>hkp i ?_ (λb0 o n e he z=>?_)) Si
  ·have:=(TN.bQ hi).2;simp only[Z1,aau]at this ⊢;omega
  ·have h1:=(TN.bQ hi).1;have h2:=(r.o.i4.bQ (show sB V.s4=some i by rw[he,z];rfl)).2;omega
 ·intro i hi;exact z40
 ·have e:(bI x.ev 1).toNat=k:=Om
  rw[hy];simp[RV.an,dF,e]
end
end Go.Abs
namespace Go.Abs
section
variable {P:Program}{ro:Option Nat->Prop}{ks:List Kt}{ts:TS}{h:ah}{Q:Ex->TS->ah->Prop}{S:ah->Prop}{K:TS->ah->Prop}{l:List bL}
def pG(S:ah->Prop)(H:WM P S l ts h (kq P ro ks Q .normal)):WC P ro (.mP l) ks ts h Q:=⟨S,H⟩
def dt{o}(hS:S h)(hl:nf o=false)(hn:kV (o::l)=false)(H:WP P bJ [o] [] ts h (λ_ Uy h1=>WM P S l Uy h1 K)):WM P S (o::l) ts h K:=⟨hS,.inr ⟨hn,.inr ⟨hl,H⟩⟩⟩
def pF{o}(hS:S h)(hl:kV (o::l)=true)(H:WP P ro (o::l) ks ts h Q):WM P S (o::l) ts h (kq P ro ks Q .normal):=⟨hS,.inl ⟨hl,H⟩⟩
def lD{n a d v}(hS:S h)(hv:∀g,S g->ao n (val ts a) (λb=>g[b]?)=some (v,.ar))(H:WM P S l (put ts d v) h K)(hn:kV (({dst:=d,k:=.load n a,gd:=none,q:=true}:bL)::l)=false:=by rfl):WM P S ({dst:=d,k:=.load n a,gd:=none,q:=true} ::l) ts h K:=by
 refine⟨hS,.inr ⟨hn,.inl ⟨rfl,v,λg hg=>?_,H⟩⟩⟩;refine dL.run trivial ?_ ?_
 ·cases d<;>trivial
 ·have h1:stepT (.load n a) (val ts) (λb=>g[b]?) g.length=some (v,.ar):=hv g hg;exact nZ h1
end
def b9.RI{N b h k V}(r:b9 N h b V){i}(hi:i<V.aj.length){y t}(hs:Fr N k V.s2 3 ((V.aj.set i (y,t)).map aU))(ht:Fr N k t 1 (y.aE.map aq))(hnt:∀j,sB t=some j->h.length<=j)
  (hk:∀j,j<h.length->sB V.s2≠some j->sB V.aj[i].2≠some j->k[j]? =h[j]?):b9 N k b {V with aj:=V.aj.set i (y,t) }:=by
 have hin:∀j,some j∈V.bl->N<=j/\j<h.length:=λj hj=>r.o.ep hj
 let l1:List (Option Nat):=[sB V.s0,sB V.s1,sB V.s2,sB V.s3,sB V.s4,sB V.s5]++(V.aj.take i).map λx=>sB x.2
 let l2:List (Option Nat):=(V.aj.drop (i+1)).map (λx=>sB x.2)++(V.aC.map λx=>sB x.2)++(V.aF.map λx=>sB x.2)
 have hV:V.bl=l1++sB V.aj[i].2::l2:=by
  have e:V.aj=V.aj.take i++V.aj[i]::V.aj.drop (i+1):=by rw[<-ab1 hi,abn]
  have e2:(V.aj.map λx=>sB x.2)=(V.aj.take i).map (λx=>sB x.2)++sB V.aj[i].2:: (V.aj.drop (i+1)).map (λx=>sB x.2):=by
   conv=>lhs;rw[e]
   simp only[aae,aaX]
  exact Kj
 have Yk:{V with aj:=V.aj.set i (y,t) }.bl=l1++sB t::l2:=by
  have e2:((V.aj.set i (y,t)).map λx=>sB x.2)=(V.aj.take i).map (λx=>sB x.2)++sB t:: (V.aj.drop (i+1)).map (λx=>sB x.2):=by
   rw[List.set_eq_take_append_cons_drop,aai hi];simp only[aae,aaX]
  exact Kj
 have TD:=r.o.di;rw[hV]at TD;obtain⟨h1,h2,h3⟩:=abj.1 TD;have h4:=aa8.1 h2;have nti:∀j,some j∈l1\/some j∈l2->sB V.aj[i].2≠some j:=λj hj e=>by
  rcases hj with hj|hj
  ·exact h3 _ hj _ Si j rfl e
  ·exact h4.1 _ hj j e rfl
 have hlt:∀j,some j∈l1\/some j∈l2->j<h.length:=λj hj=>(hin j (by rw[hV];exact jq hj)).2
 have ns2:∀j,(some j∈[sB V.s0,sB V.s1]\/some j∈[sB V.s3,sB V.s4,sB V.s5]++((V.aj.map λx=>sB x.2)++(V.aC.map λx=>sB x.2)++(V.aF.map λx=>sB x.2)))->sB V.s2≠some j:=λj hj e=>by
  have Yf:lL ([sB V.s0,sB V.s1]++sB V.s2:: ([sB V.s3,sB V.s4,sB V.s5]++((V.aj.map λx=>sB x.2)++(V.aC.map λx=>sB x.2)++(V.aF.map λx=>sB x.2)))):=by
   have:=r.o.di;simp only[RV.bl]at this
   simpa using this
  obtain⟨a1,a2,a3⟩:=abj.1 Yf;rcases hj with hj|hj
  ·exact a3 _ hj _ Si j rfl e
  ·exact(aa8.1 a2).1 _ hj j e rfl
 have kp:∀j,(some j∈l1\/some j∈l2)->sB V.s2≠some j->k[j]? =h[j]? :=λj hj hn=>hk j (hlt j hj) hn (nti j hj)
 have own:cK N k {V with aj:=V.aj.set i (y,t) }:=by
  refine⟨r.o.i0.aD λj hj=>kp j (.inl (by rw[<-hj];simp[l1])) (ns2 j (.inl (by rw[<-hj];simp))),r.o.i1.aD λj hj=>kp j (.inl (by rw[<-hj];simp[l1])) (ns2 j (.inl (by rw[<-hj];simp))),hs,
   r.o.i3.aD λj hj=>kp j (.inl (by rw[<-hj];simp[l1])) (ns2 j (.inr (by rw[<-hj];simp))),r.o.i4.aD λj hj=>kp j (.inl (by rw[<-hj];simp[l1])) (ns2 j (.inr (by rw[<-hj];simp))),r.o.i5.aD λj hj=>kp j (.inl (by rw[<-hj];simp[l1])) (ns2 j (.inr (by rw[<-hj];simp))),?_,?_,?_,?_⟩
  ·intro x hx;obtain⟨n,hn,rfl⟩:=aca hx;have XI:n<V.aj.length:=by simpa using hn
   by_cases hni:n=i
   ·subst hni;simp only[abY];exact ht
   ·simp only[acx (abo hni)];refine(r.o.e2 _ (aad XI)).aD λj hj=>kp j ?_ (ns2 j (.inr ?_))
    ·rcases Nat.lt_or_gt_of_ne hni with hlt|hlt
     ·left
      refine aac.2 (.inr (aaA.2 ⟨V.aj[n],?_,hj⟩));exact List.mem_take_iff_getElem.2 ⟨n,Om,rfl⟩
     ·right
      simp only[l2,aac];refine .inl (.inl (aaA.2 ⟨V.aj[n],?_,hj⟩));exact List.mem_drop_iff_getElem.2 ⟨n-(i+1),Om,by congr 1;omega⟩
    ·simp only[aac];exact .inr (.inl (.inl (aaA.2 ⟨V.aj[n],aad XI,hj⟩)))
  ·intro x hx;refine(r.o.e3 x hx).aD λj hj=>kp j (.inr ?_) (ns2 j (.inr ?_))
   ·simp only[l2,aac];exact .inl (.inr (aaA.2 ⟨x,hx,hj⟩))
   ·simp only[aac];exact .inr (.inl (.inr (aaA.2 ⟨x,hx,hj⟩)))
  ·intro x hx;refine(r.o.e4 x hx).aD λj hj=>kp j (.inr ?_) (ns2 j (.inr ?_))
   ·simp only[l2,aac];exact .inr (aaA.2 ⟨x,hx,hj⟩)
   ·simp only[aac];exact .inr (.inr (aaA.2 ⟨x,hx,hj⟩))
  ·show lL {V with aj:=V.aj.set i (y,t) }.bl;rw[Yk];refine TD.yr λj hj=>.inr ⟨λz hz e=>?_,λz hz e=>?_⟩
   ·subst e;have:=hlt j (.inl hz);have:=hnt j hj;omega
   ·subst e;have:=hlt j (.inr hz);have:=hnt j hj;omega
 have hne:=r.ne;rw[hV]at hne;refine⟨own,r.hN,?_,λhb=>?_⟩
 ·have n1:sB V.s2≠some b:=λe=>hne (jq (.inl (by rw[<-e];simp[l1])))
  have n2:sB V.aj[i].2≠some b:=λe=>hne (by rw[e];simp)
  exact(hk b r.lt n1 n2).trans r.m
 ·rw[Yk]at hb;rcases wq hb with z|z|z
  ·exact hne (jq (.inl z))
  ·have:=hnt b z.symm;have:=r.lt;omega
  ·exact hne (jq (.inr z))
set_option maxRecDepth 10000
attribute [local irreducible] WP WC WE WB WR WF WL WG fX
section
variable {P:Program}(T:fq P) {h:ah}
include T
def r266{L s}(hs:aI h s 1 (L.map aq))(hl:L.length<2^63)(n:By):ay P 266 [s,.str n] h (λv _=>v=.i (cV (λy=>decide (n=y)) L)):=by
 refine .eX 19 T.mix T.c266 ?_;intro ts hlen t0 t1;unfold fn266 gA;refine Rs (A3 t0 t1 hs.aH) ?_;refine WL.inv T.mix (λm ts h'=>∃k:Nat,k<=L.length/\m=L.length-k/\h' =h/\L.findIdx? (λy=>decide (n=y))=((L.drop k).findIdx? (λy=>decide (n=y))).map (· +k)/\ts.length=19/\slot ts 0=s/\slot ts 1=.str n/\slot ts 7=.i L.length/\slot ts 8=.i k) L.length
  ⟨0,Om,rfl,rfl,Si,Sn,(Sq t0),(Sq t1),(Sq t0),ga⟩ ?_
 rintro _ ts _ ⟨k,hk,rfl,rfl,hi,hlen,t0,t1,t7,t8⟩;by_cases hlt:k<L.length
 ·have hd:L.drop k=L[k]::L.drop (k+1):=Si
  have e3:=dN hlt;have ix:=hs.c6 (kk:=.i64) hlt;have ld:=hs.lC (i:=k) (x:=.str L[k]) hlt rfl (Ext.refl _);have e5:=wrapN (n:=k) Om;by_cases hp:n=L[k]
  ·have q:decide (n=L[k])=true:=Z8 hp;refine Rs (A8 t0 t1 t7 t8 e3 ix @ld q) ?_;rw[cV,hi,hd,acj,q];simp
  ·have q:decide (n=L[k])=false:=Z3 hp;refine Rs (A9 t0 t1 t7 t8 e3 ix @ld q e5) ?_;refine⟨_,?_,k+1,Om,rfl,?_,rfl⟩
   ·omega
   ·rw[hi,hd,acj,q];exact RE
 ·have e3:=eF hlt;have e4:k=L.length:=Om
  refine Rs (A5 t0 t1 t7 t8 e3) ?_;rw[cV,hi,e4,aa2];rfl
def r242{L:List (By)}{s:AV}(hs:aI h s 1 (L.map aq))(hl:L.length<2^63)(n:By):ay P 242 [s,.str n] h (λv _=>v=.bool (decide (n∈L))):=by
 refine .eX 9 T.mix T.c242 ?_;intro ts hlen t0 t1;unfold fn242 gA;refine Rs (A2 t0 t1) ?_;refine WF.ce T.c266 (r266 T hs hl n) λg1=>?_
 refine Rs (A2 t0 t1) ?_;rw[oX];congr 1;rw[Bool.eq_iff_iff];simp[abx]
end
attribute [local irreducible] WM
section
variable {P:Program}(T:fq P) {B g:ah}{b:Nat}{V:RV}{x:EV}
include T
def P5(r:b9 B.length (B++g) b V)(c:Cx (B++g) V x .copy):dA P 158 [.ptr b 0,.agg x.row] (B++g) (λ_ k=>ui B b V x.ev .copy k):=by
 refine .eX 50 T.mix T.c158 ?_;intro ts hlen t0 t1;unfold fn158;have hex:=@bh.box _ _ c.e;have lb:=@dB _ _ _ r.m;have i0:bf 1 x.sn (.i 0)=_:=(c.nm (i:=0) De).1;have d0:=@(c.nm (i:=0) De).2;have i1:bf 1 x.sn (.i 1)=_:=(c.nm (i:=1) De).1;have d1:=@(c.nm (i:=1) De).2;have U5:V.aj.length<=64:=by have:=c.w.l2;simpa [RV.an]using this
 have htp:∀y∈V.aj,y.1.aE.length<2^30:=λy hy=>(c.w.vj.sh y hy).2
 refine Rs (lI t0 t1 @hex @lb @dC @aS @i0 @d0 @i1 @d1 c.o.i2.aH) ?_;obtain⟨a,ha⟩:∃a,a=aL x.ev 0:=⟨_,rfl⟩;obtain⟨z,hz⟩:∃z,z=aL x.ev 1:=⟨_,rfl⟩;rw[<-ha,<-hz];refine WL.inv T.mix (λn ts h'=>∃(k:Nat) (g':ah) (U:RV),k<=V.aj.length/\n=V.aj.length-k/\h' =B++g'/\b9 B.length (B++g') b U/\U.s2=V.s2/\U.aj.length=V.aj.length/\
   {U.an with aj:=V.an.aj} =V.an/\(∀i (hi:i<U.aj.length) (hi':i<V.aj.length),(U.aj[i]).1=if i<k then jS a z (V.aj[i]).1 else(V.aj[i]).1)/\
   ts.length=50/\slot ts 0=.ptr b 0/\slot ts 4=.str a/\slot ts 5=.str z/\slot ts 19=V.s2/\slot ts 20=.i V.aj.length/\slot ts 21=.i k) V.aj.length
  ⟨0,g++[ak.b x.row],V,Om,rfl,by rw[Z4],by rw[<-Z4];exact r.app _,rfl,rfl,rfl,λi hi hi'=>by rw[aab Om],Sn,(Sq t0),(Sq t0),(Sq t0),(Sq t0),(Sq t0),ga⟩ ?_
 clear t0 t1 hlen i0 d0 i1 d1 hex lb;clear ts;rintro _ ts _ ⟨k,g',U,hk,rfl,rfl,rU,To,UY,hreg,hU,hlen,t0,t4,t5,t19,t20,t21⟩;by_cases hlt:k<V.aj.length
 ·have VY:k<U.aj.length:=Om
  have e3:=dN hlt;have e5:=wrapN (n:=k) Om;have oU:=rU.o.ok;have ix:bf 3 V.s2 (.i (k:Int))=some (cI V.s2 3 k,.ar):=by rw[<-To];exact oU.i2.c6 VY
  have ld:∀{k':ah},Ext (B++g') k'->ao (some 3) (cI V.s2 3 k) (λb=>k'[b]?)=some (.agg (aU U.aj[k]),.ar):=λ{k'} e=>by rw[<-To];exact oU.i2.gP VY e
  have Ta:U.aj[k]∈U.aj:=aad _;have hx1:(U.aj[k]).1=(V.aj[k]).1:=by rw[hU k VY hlt,aab Om]
  have hxl:(U.aj[k]).1.aE.length<2^30:=by rw[hx1];exact htp _ (aad _)
  have Xh:=rU.o.e2 _ Ta;have next:∀(U2:RV),U2.aj.length=V.aj.length->(∀i (hi:i<U2.aj.length) (hi':i<U.aj.length),(U2.aj[i]).1=if i=k then jS a z (U.aj[i]).1 else(U.aj[i]).1)->
    ∀i (hi:i<U2.aj.length) (hi':i<V.aj.length),(U2.aj[i]).1=if i<k+1 then jS a z (V.aj[i]).1 else(V.aj[i]).1:=by
   intro U2 a3 a5 i hi hi';exact z59
  obtain⟨y,hy⟩:∃y,y=U.aj[k]:=⟨_,rfl⟩;rw[<-hy]at ld Xh hxl;have oy:=Xh.aY.one;unfold aU at ld;refine Rs (mU t0 t4 t5 t19 t20 t21 e3 ix @ld @oy) ?_;refine WF.ce T.c242 (r242 T (Xh.aY.ext Xx) Om a) λg1=>?_
  by_cases h1:a∈y.1.aE
  case neg=>
   have q1:decide (a∈y.1.aE)=false:=Z3 h1;rw[q1];refine Rs (A7 t0 t4 t5 t19 t20 t21 e5) ?_;have Wo:B++g'++[ak.b [AV.str y.1.name,.str y.1.line,y.2]]++g1=B++(g'++[ak.b [AV.str y.1.name,.str y.1.line,y.2]]++g1):=by simp only[Z4]
   refine⟨_,Om,k+1,_,U,Om,rfl,Wo,by rw[<-Wo];exact(rU.app _).app _,To,UY,hreg,next U UY (λi hi hi'=>?_),rfl⟩;split
   ·rename_i UR;subst UR;rw[<-hy,jS,aab (λw=>h1 w.1)]
   ·rfl
  have q1:decide (a∈y.1.aE)=true:=Z8 h1;rw[q1];refine Rs (A6 t0 t4 t5 t19 t20 t21) ?_;refine WF.ce T.c242 (r242 T (Xh.aY.ext Xx) Om z) λg2=>?_
  by_cases h2:z∈y.1.aE
  ·have q2:decide (z∈y.1.aE)=true:=Z8 h2;rw[q2];refine Rs (A8 t0 t4 t5 t19 t20 t21 @aar e5) ?_;have Wo:B++g'++[ak.b [AV.str y.1.name,.str y.1.line,y.2]]++g1++g2=B++(g'++[ak.b [AV.str y.1.name,.str y.1.line,y.2]]++g1++g2):=by simp only[Z4]
   refine⟨_,Om,k+1,_,U,Om,rfl,Wo,by rw[<-Wo];exact((rU.app _).app _).app _,To,UY,hreg,next U UY (λi hi hi'=>?_),rfl⟩;split
   ·rename_i UR;subst UR;rw[<-hy,jS,aab (λw=>w.2 h2)]
   ·rfl
  have q2:decide (z∈y.1.aE)=false:=Z3 h2;rw[q2];refine Rs (A7 t0 t4 t5 t19 t20 t21 @aay) ?_;obtain⟨xb,hxb⟩:∃xb,xb=(B++g').length:=⟨_,rfl⟩;obtain⟨G,hG⟩:∃G,G=g'++[ak.b [AV.str y.1.name,.str y.1.line,y.2]]++g1++g2:=⟨_,rfl⟩;have Wo:B++g'++[ak.b [AV.str y.1.name,.str y.1.line,y.2]]++g1++g2=B++G:=by rw[hG];simp only[Z4]
  have hex:Ext (B++g') (B++G):=by rw[<-Wo];exact Xx
  have mx:(B++G)[xb]? =some (.b [AV.str y.1.name,.str y.1.line,y.2]):=by
   rw[<-Wo,hxb,Z4 _ g1,Z7 Si,aaf Om];simp
  have mb:(B++G)[b]? =some (.b U.row):=hex.some rU.m;have hfx2:Fr B.length (B++G) y.2 1 (y.1.aE.map aq):=by rw[<-Wo];exact((Xh.app _).app _).app _
  have hs22:Fr B.length (B++G) V.s2 3 (U.aj.map aU):=by rw[<-Wo,<-To];exact((rU.o.i2.app _).app _).app _
  rw[Wo,<-hxb];refine pG (λh=>h[b]? =some (.b U.row)/\h[xb]? =some (.b [AV.str y.1.name,.str y.1.line,y.2])) ?_;have hS:(λh:ah=>h[b]? =some (.b U.row)/\h[xb]? =some (.b [AV.str y.1.name,.str y.1.line,y.2])) (B++G):=⟨mb,mx⟩;refine dt hS rfl rfl ?_;refine Rs t0 ?_;refine dt hS rfl rfl ?_;refine Rs t0 ?_;refine dt hS rfl rfl ?_;refine Rs t0 ?_;refine lD hS (v:=V.s2) (λg hg=>?_) ?_
  ·simp only[aO,aT,aZ,a8,reduceAdd,reduceMul,reduceLeDiff,reduceEqDiff,bd,hlen,aal,aan,t0,aA hg.1,dC,To]
  refine Rs t0 ?_;refine dt hS rfl rfl ?_;refine Rs t0 ?_;refine dt hS rfl rfl ?_;refine Rs t0 ?_;refine lD hS (v:=y.2) (λg hg=>?_) ?_
  ·simp only[aO,aT,aZ,a8,reduceAdd,reduceMul,reduceLeDiff,reduceEqDiff,bd,hlen,aal,aan,t0,aA hg.2]
  refine Rs t0 ?_;refine dt hS rfl rfl ?_;refine Rs (A2 t0 t5) ?_;obtain⟨zr,hzr⟩:∃zr,zr=aq z:=⟨_,rfl⟩;have hS2:(λh:ah=>h[b]? =some (.b U.row)/\h[xb]? =some (.b [AV.str y.1.name,.str y.1.line,y.2])) (B++G++[ak.cells [.str z] true true]):=⟨(Ext.app _ (Ext.refl _)).some mb,(Ext.app _ (Ext.refl _)).some mx⟩;have hxlt:xb<(B++G).length:=by
   rw[<-Wo,hxb];simp only[Z1,Z5,Z9];omega
  refine dt hS rfl rfl ?_;refine Rs t0 ?_;refine dt hS2 rfl rfl ?_;refine Rs t0 ?_;refine WR.fg (h0:=B) (cs:=y.1.aE.map aq) (ys:=[aq z]) (hfx2.app _) (Fr.push (N:=0) (aaC _) [aq z] (by simp[aq])).aY De Si (by simp only[aaa,Z5,Z9];omega) (by rw[Z4];exact⟨_,rfl⟩) ?_;intro g3 ZG hff hkp;have hrow:y.1.aE.map aq++[aq z]=(y.1.aE++[z]).map aq:=by rw[aae];rfl
  rw[hrow]at hff;rw[hrow];obtain⟨t',ht'⟩:∃t',t' =AV.slice (B++G++[ak.cells [.str z] true true]).length 0 ((y.1.aE++[z]).map aq).length 1:=⟨_,rfl⟩;rw[<-ht']at hff;rw[<-ht'];have o1:t'.one=true:=by rw[ht'];rfl
  have hGl:(B++g').length<=(B++G).length:=hex.len;have hty:sB t' =some (B++G++[ak.cells [.str z] true true]).length:=by rw[ht'];rfl
  have hbl:=rU.lt;have VH:sB y.2≠some b:=λe=>rU.ne (by rw[<-e,RV.bl,hy];simp only[aac,aaA];exact .inl (.inl (.inr ⟨_,Ta,rfl⟩)))
  have Uk:∀i,sB y.2=some i->i<xb:=λi hi=>by rw[hxb];exact(Xh.bQ hi).2
  have hk3:∀i,i<(B++G).length->sB y.2≠some i->(B++g3)[i]? =(B++G)[i]? :=λi hi hne=>by
   rw[hkp i (by simp only[Z1]at hi ⊢;omega) (λb0 o n e he z=>hne (by rw[he,z];rfl)),Z7 hi]
  have hS3:(λh:ah=>h[b]? =some (.b U.row)/\h[xb]? =some (.b [AV.str y.1.name,.str y.1.line,y.2])) (B++g3):=
   ⟨(hk3 b Om VH).trans mb,(hk3 xb hxlt (λe=>by have:=Uk _ e;omega)).trans mx⟩
  have hsy:∀j,sB V.s2=some j->sB y.2≠some j:=λj hj e=>by
   have Yf:lL ([sB U.s0,sB U.s1]++sB U.s2:: ([sB U.s3,sB U.s4,sB U.s5]++((U.aj.map λx=>sB x.2)++(U.aC.map λx=>sB x.2)++(U.aF.map λx=>sB x.2)))):=by
    have:=rU.o.di;simp only[RV.bl]at this
    simpa using this
   obtain⟨_,a2,_⟩:=abj.1 Yf;refine(aa8.1 a2).1 (sB y.2) ?_ j (by rw[To];exact hj) e;simp only[aac,aaA];exact .inr (.inl (.inl ⟨_,Ta,by rw[<-hy]⟩))
  have hs23:Fr B.length (B++g3) V.s2 3 (U.aj.map aU):=hs22.aD λi hi=>hk3 i (hs22.bQ hi).2 (hsy i hi)
  refine Rs t0 ?_;refine pF hS3 rfl ?_;refine Rs (A3 t0 ix @o1) ?_;have hkU:k<U.aj.length:=VY;refine WR.vX (h0:=B) (x':=(⟨y.1.name,y.1.line,y.1.aE++[z]⟩,t')) (row:=aU) hs23 VY De o1 (by rw[<-hy];rfl) ?_;intro g4 hl4 hff4 hkp4;have hk4:∀i,i<(B++g').length->sB V.s2≠some i->sB y.2≠some i->(B++g4)[i]? =(B++g')[i]? :=λi hi n1 n2=>by
   rw[hkp4 i (λb0 o n e he z=>n1 (by rw[he,z];rfl)),hk3 i Om n2];exact hex.get hi
  have nb2:sB V.s2≠some b:=λe=>rU.ne (by rw[<-e,<-To];simp[RV.bl])
  have ht4:Fr B.length (B++g4) t' 1 ((y.1.aE++[z]).map aq):=hff.aD λi hi=>by
   rw[hty]at hi;cases hi;refine hkp4 _ (λb0 o n e he zz=>?_);have:=(rU.o.i2.bQ (show sB U.s2=some b0 by rw[To,he];rfl)).2;have h3:(B++g').length<=(B++G++[ak.cells [.str z] true true]).length:=by simp only[Z1]at hGl ⊢;omega
   omega
  refine Rs (A7 t0 t4 t5 t19 t20 t21 e5) ?_;refine⟨_,Om,k+1,g4,{U with aj:=U.aj.set k (⟨y.1.name,y.1.line,y.1.aE++[z]⟩,t') },Om,rfl,rfl,rU.RI VY (by rw[To];exact hff4) ht4 (λj hj=>?_) (λj hj n1 n2=>hk4 j hj (by rw[<-To];exact n1) (by rw[hy];exact n2)),To,(by simp only[aaL];exact UY),hreg,next _ (by simp only[aaL];exact UY) (λi hi hi'=>?_),rfl⟩
  ·rw[hty]at hj;cases hj;simp only[Z1]at hGl ⊢;omega
  ·by_cases UR:i=k
   ·subst UR;simp only[abY,aan];rw[<-hy,jS,aai ⟨h1,h2⟩]
   ·exact Ke
 ·have e3:decide ((k:Int)<V.aj.length)=false:=Z3 Om;have e4:k=V.aj.length:=Om
  refine Rs (A8 t0 t4 t5 t19 t20 t21 e3 @fx) ?_;refine⟨g',U,rfl,rU,?_⟩;exact RC
end
def HV.now(V:HV):RV:=V.cM.getLastD RV.zero
def HV.jX(V:HV):V.now.an=V.bY.now:=by
 rw[HV.now,HV.bY,gO.now];show _=(V.cM.map RV.an).getLastD dM.zero;rw[abC,abC,List.getLast?_map];cases V.cM.getLast? <;>rfl
structure zY(h:ah)(b:Nat)(V:HV):Prop where
 hb:h[b]? =some (.b [V.se,V.sc,V.sr])
 ie:aI h V.se 5 (V.c9.map EV.row)
 ic:aI h V.sc 5 (V.eT.map EV.row)
 ig:aI h V.sr 7 (V.cM.map RV.row)
 ae:∀x∈V.c9,bh h x
 ac:∀x∈V.eT,bh h x
 ag:∀x∈V.cM,aB h x
theorem zY.ext{h k b V}(o:zY h b V)(e:Ext h k):zY k b V:=
 ⟨e.some o.hb,o.ie.ext e,o.ic.ext e,o.ig.ext e,λx hx=>(o.ae x hx).ext e,λx hx=>(o.ac x hx).ext e,λx hx=>(o.ag x hx).ext e⟩
def cJ.rd{N h b V}(o:cJ N h b V):zY h b V:=
 ⟨o.hb,o.oe.aY,o.oc.aY,o.og.aY,λx hx=>(o.ae x hx).sub (jQ.fZ _ _),λx hx=>(o.ac x hx).sub (jQ.fZ _ _),λx hx=>(o.ag x hx).sub (jQ.fZ _ _)⟩
theorem zY.now{h b V}(o:zY h b V):aB h V.now:=by
 rw[HV.now,abC];cases hx:V.cM.getLast? with
 |none=>exact aB.zero
 |some R=>exact o.ag R (List.mem_of_getLast? hx)
def aB.st{h V}(o:aB h V){b a0 a1 a2 a3 a4 a5 a6 tl}:kN 7 0 (.agg V.row) b (.cells [a0,a1,a2,a3,a4,a5,a6] true tl)=some (az,.set b (.cells V.row true tl)):=by
 refine(n6 (l:=V.row) rfl o.row (by show 0+7<=7;omega)).trans ?_;rfl
def bh.st{h x}(o:bh h x){b a0 a1 a2 a3 a4 tl}:kN 5 0 (.agg x.row) b (.cells [a0,a1,a2,a3,a4] true tl)=some (az,.set b (.cells x.row true tl)):=by
 refine(n6 (l:=x.row) rfl o.row (by show 0+5<=5;omega)).trans ?_;rfl
def IS{e d}(hd:d≠.dR):e.kind=bu d↔gx e=d:=by
 rw[gx];constructor
 ·intro h;rw[h,jD];rfl
 ·intro h;cases hk:iH e.kind with
  |none=>rw[hk]at h;exact absurd h.symm hd
  |some c=>rw[hk]at h;cases h;exact cA hk
structure lq(H:gO):Prop where
 rg:∀R∈H.cM,eS R
 ln:H.cM.length=H.eT.length
 le:H.eT.length<=H.c9.length
 ev:∀e∈H.c9,∃d,j8 e d
 cn:∀e∈H.eT,∃d,j8 e d
theorem lq.zero:lq gO.zero:=by
 refine⟨?_,rfl,aah _,?_,?_⟩
 all_goals intro x hx;cases hx
theorem lq.now{H}(w:lq H):eS H.now:=by
 rw[gO.now,abC];cases hx:H.cM.getLast? with
 |none=>exact eS.zero
 |some R=>exact w.rg R (List.mem_of_getLast? hx)
section
variable {P:Program}(T:fq P)
include T
def Gt{B g b V x d ro ks ts Q dd l}(hd:d≠.dR)(r:b9 B.length (B++g) b V)(c:Cx (B++g) V x d)(hc:bz V.an x.ev d=0)(gl:Gl (B++g))
  (K:∀v h',ui B b V x.ev d h'->WP P ro l ks (put ts dd v) h' Q):WF P ro false (pX d) [.ptr b 0,.agg x.row] dd l ks ts (B++g) Q:=by
 cases d with
 |dR=>exact absurd rfl hd
 |line=>exact WF.gen (a:=[]) (c:=[]) T.c149 (P8 T r c) K
 |tape=>exact WF.gen (a:=[]) (c:=[]) T.c152 (P7 T r c) K
 |gK=>exact WF.gen (a:=[]) (c:=[]) T.c156 (P6 T r c) K
 |copy=>exact WF.gen (a:=[]) (c:=[]) T.c158 (P5 T r c) K
 |accept=>exact WF.gen (a:=[]) (c:=[]) T.c160 (P4 T r c) K
 |source=>exact WF.gen (a:=[]) (c:=[]) T.c162 (P3 T r c) K
 |gu=>exact WF.gen (a:=[]) (c:=[]) T.c164 (P2 T r c hc gl) K
 |merge=>exact WF.gen (a:=[]) (c:=[]) T.c166 (P1 T r c) K
 |run=>exact WF.gen (a:=[]) (c:=[]) T.c168 (P0 T r c hc) K
 |gp=>exact WF.gen (a:=[]) (c:=[]) T.c170 (PZ T r c hc) K
 |fail=>exact WF.gen (a:=[]) (c:=[]) T.c172 (PY T r c hc) K
 |gL=>exact WF.gen (a:=[]) (c:=[]) T.c174 (PX T r c) K
 |rel=>exact WF.gen (a:=[]) (c:=[]) T.c176 (PW T r c) K
variable {h:ah}
def r79{V b}(o:zY h b V)(hl:V.cM.length<=1000):ay P 79 [.ptr b 0] h (λv _=>v=.agg V.now.row):=by
 refine .kM 20 T.mix T.c79 ?_;intro ts hlen t0;unfold fn79 gA;have hb:=o.hb;have lb:=@dB _ _ _ hb;refine Rs (A3 t0 @lb o.ig.aH) ?_;rcases List.eq_nil_or_concat V.cM with hn|⟨L,R,hn⟩
 ·have S2:V.cM.length=0:=by rw[hn];rfl
  have e1:decide ((0:Int)<(V.cM.length:Int))=false:=Z3 Om;refine Rs (A2 t0 e1) ?_;rw[HV.now,hn];rfl
 ·have hlenR:V.cM.length=L.length+1:=by rw[hn];simp
  have e1:decide ((0:Int)<(V.cM.length:Int))=true:=Z8 Om;have e2:IntKind.i64.wrap ((V.cM.length:Int)-1)=(L.length:Int):=by rw[bD Om Om];omega
  have Ym:L.length<V.cM.length:=Om
  have ix:=o.ig.c6 (kk:=.i64) Ym;have ld:∀{k':ah},Ext h k'->_:=λ{k'} e=>o.ig.gP Ym e
  have hR:V.cM[L.length]=R:=by simp only[hn];simp
  rw[hR]at ld;have st:=@aB.st h R (o.ag R (by rw[hn];simp));refine Rs (A8 t0 e1 e2 @lb ix @ld @st @aG) ?_;rw[HV.now,hn];simp
def r116{V b x d}(o:zY h b V)(w:lq V.bY)(hl:V.c9.length<=1000)(ox:bh h x)(wx:j8 x.ev d)(gl:Gl h):
  ay P 116 [.ptr b 0,.agg x.row] h (λv _=>v=.i (jw V.bY x.ev)):=by
 have hcl:V.eT.length<=V.c9.length:=by have:=w.le;simpa [HV.bY]using this
 have Un:V.cM.length=V.eT.length:=by have:=w.ln;simpa [HV.bY]using this
 refine .eX 106 T.mix T.c116 ?_;intro ts hlen t0 t1;unfold fn116;have hb:=o.hb;have lb:=@dB _ _ _ hb;have hex:=@bh.box _ _ ox;have ew:IntKind.i64.wrap ((V.c9.length:Int)+1)=(V.c9.length:Int)+1:=bD Om Om;by_cases h1:x.ev.num=(V.c9.length:Int)+1
 case neg=>
  have q1:decide (x.ev.num≠(V.c9.length:Int)+1)=true:=Z8 h1;refine Rs (A8 t0 t1 @lb @hex @mh o.ie.aH @ew q1) ?_;rw[jw,aai (by simpa [HV.bY]using h1)]
 have q1:decide (x.ev.num≠(V.c9.length:Int)+1)=false:=Z3 (λz=>z h1);have SN:gx x.ev=d:=by rw[gx,wx.kd];rfl
 rw[jw,aab (by simpa [HV.bY]using h1),SN];by_cases h2:d=.dR
 ·have q2:decide (x.ev.kind=[117,110,100,111])=true:=Z8 (by rw[cA wx.kd,h2];rfl);rw[aai h2];refine Rs (lI t0 t1 @lb @hex @mh @bB o.ie.aH o.ic.aH @ew q1 q2) ?_;rcases List.eq_nil_or_concat V.eT with hn|⟨L,c,hn⟩
  ·have S2:V.eT.length=0:=by rw[hn];rfl
   have e1:decide ((V.eT.length:Int)=0)=true:=Z8 Om;refine Rs (A2 t0 e1) ?_;simp only[HV.bY,hn];rfl
  ·have hlenR:V.eT.length=L.length+1:=by rw[hn];simp
   have e1:decide ((V.eT.length:Int)=0)=false:=Z3 Om;have e2:IntKind.i64.wrap ((V.eT.length:Int)-1)=(L.length:Int):=by rw[bD Om Om];omega
   have Ym:L.length<V.eT.length:=Om
   have ix:=o.ic.c6 (kk:=.i64) Ym;have hR:V.eT[L.length]=c:=by simp only[hn];simp
   have lf:∀{k':ah},Ext h k'->ao none (jF V.sc 5 L.length 1) (λb=>k'[b]?)=some (.str c.ev.kind,.ar):=λ{k'} e=>by
    refine o.ic.kT Ym ?_ e;rw[hR];rfl
   refine Rs (A6 t0 e1 e2 @lb ix @lf) ?_;refine WF.ce T.c85 (r85 T _ _) λg1=>?_
   refine Rs t0 ?_;have e3:decide (c.ev.kind=[114,101,108,101,97,115,101])=decide (gx c.ev=.rel):=abK.2 (IS (d:=.rel) De);have e4:V.bY.eT.getLast? =some c.ev:=by simp[HV.bY,hn]
   rw[e3,e4];by_cases h5:gx c.ev=.rel<;>simp[bW,h5]
 have q2:decide (x.ev.kind=[117,110,100,111])=false:=Z3 λz=>h2 (by
  have:=wx.kd;rw[z]at this;exact(aa0 ((jD .dR).symm.trans this)).symm)
 rw[aab h2,<-V.jX];have wn:eS V.now.an:=by rw[V.jX];exact w.now
 have on:=o.now;have ltk:0<cF d:=by cases d<;>first|exact absurd rfl h2|decide
 have Ty:0<x.ev.cw.length:=by rw[wx.vl];exact ltk
 have qP:bf 1 x.sv (.i 0)=some (cI x.sv 1 0,.ar):=ox.v.qP Ty;have ev0:bI x.ev 0=x.ev.cw[0]:=by rw[bI,aaN,Z6 Ty];rfl
 have ld0:∀{k':ah},Ext h k'->ao none (cI x.sv 1 0) (λb=>k'[b]?)=some (.i (bI x.ev 0),.ar):=λ{k'} e=>by
  rw[ev0];exact ox.v.lC Ty rfl e
 refine Rs (lI t0 t1 @lb @hex @mh @bB o.ie.aH o.ic.aH @ew q1 q2) ?_;refine WF.ce T.c79 (r79 T (o.ext Xx) Om) λg1=>?_
 have st:=@aB.st h V.now on;rw[fD];by_cases h3:bI x.ev 0<V.now.an.tick
 ·have q3:decide (bI x.ev 0<V.now.tick)=true:=Z8 h3;refine Rs (A8 t0 t1 @st @mZ @bg @qP @ld0 q3) ?_;rw[aai h3]
 have q3:decide (bI x.ev 0<V.now.tick)=false:=Z3 h3;rw[aab h3];refine Rs (A8 t0 t1 @st @mZ @bg @qP @ld0 q3) ?_;refine WF.res T.c90 (r90 T) ?_;rintro _ g2 ⟨vf,rfl,hk⟩;obtain⟨H,hH⟩:∃H,H=h++[ak.b x.row]++g1++[ak.b V.now.row]:=⟨_,rfl⟩;obtain⟨eb,heb⟩:∃eb,eb=h.length:=⟨_,rfl⟩;obtain⟨rb,X1⟩:∃rb,rb=(h++[ak.b x.row]++g1).length:=⟨_,rfl⟩;have mr:(H++g2)[rb]? =some (.b V.now.row):=by rw[hH,X1];exact(Ext.app _ (Ext.refl _)).some ba
 have me:(H++g2)[eb]? =some (.b x.row):=by rw[hH,heb];exact(show Ext (h++[ak.b x.row]) _ from Xx).some ba
 rw[<-hH]at hk ⊢;rw[<-heb,<-X1];have lk:∀{z:AV},iU .s z false (.map H.length) (.str x.ev.kind) (λb=>(H++g2)[b]?)=lX z false ((iH x.ev.kind).map vf):=hk.look;rw[wx.kd]at lk;have Tr:∀{z:AV},_=some (vf d,jd.ar):=@lk;obtain⟨rs,a,hv,hr,ha,hab⟩:=(hk.k d).ex;rw[hv]at Tr;have c1:=mG d;have c2:=l9 d;have c3:=hr.one;have le:=@dB _ _ _ me;have lr:=@dB _ _ _ mr;refine Rs (nT t0 t1 @le @bB @bZ @Tr @c1 @c2 @c3 @ha hr.aH @iZ) ?_;obtain⟨L,hL⟩:∃L,L=bN d:=⟨_,rfl⟩;have hnl:x.ev.names.length=L.length:=by rw[hL];exact wx.nl
 have Ym:L.length<=3:=by rw[hL];cases d<;>decide
 have YT:∀r∈L,r.1<6:=by rw[hL];cases d<;>decide
 rw[<-hL]at hr ⊢;obtain⟨kb,hkb⟩:∃kb,kb=(H++g2).length:=⟨_,rfl⟩;have hex:Ext h (H++g2):=by rw[hH];exact Xx
 have VS:Ext (H++g2) (H++g2++[ak.b [rs,.i (cF d:Int),kE d,pX d,a]]):=Xx;have mk:(H++g2++[ak.b [rs,.i (cF d:Int),kE d,pX d,a]])[kb]? =some (.b [rs,.i (cF d:Int),kE d,pX d,a]):=by rw[hkb];exact ba
 obtain⟨H2,Xp⟩:∃H2,H2=H++g2++[ak.b [rs,.i (cF d:Int),kE d,pX d,a]]:=⟨_,rfl⟩;rw[<-Xp]at mk VS;have hx3:Ext h H2:=hex.trans VS;have lk:=@dB _ _ _ mk;rw[<-Xp,<-hkb];have Vt:∀(i:Nat) (hi:i<L.length),bf 1 x.sn (.i (i:Int))=some (cI x.sn 1 i,.ar):=λi hi=>ox.n.c6 Om
 have hld:∀(i:Nat) (hi:i<L.length) (k':ah),Ext h k'->ao none (cI x.sn 1 i) (λb=>k'[b]?)=some (.str (aL x.ev i),.ar):=λi hi k' e=>by
  exact Rh
 refine WL.inv T.mix (λm ts h'=>∃k:Nat,k<=L.length/\m=L.length-k/\Ext H2 h'/\lO V.now.an x.ev L 0=lO V.now.an x.ev (L.drop k) k/\ts.length=106/\slot ts 3=.ptr eb 0/\slot ts 6=.ptr rb 0/\slot ts 7=.ptr kb 0/\slot ts 56=rs/\slot ts 57=.i L.length/\slot ts 58=.i k) L.length
  ⟨0,Om,rfl,.refl _,rfl,Sn,Sw,Sw,Sw,Sw,Sw,ga⟩ ?_
 clear t0 t1 hlen lb hb hex le lr;clear ts;rintro _ ts h' ⟨k,hk,rfl,U1,hu,hlen,t3,t6,t7,t56,t57,t58⟩;have le:∀{k' n a},Ext h' k'->ao n (.ptr eb a) (λz=>k'[z]?)=dG n a (.b x.row):=λ{_ _ _} e=>aA (((VS.trans U1).trans e).some me)
 have lr:∀{k' n a},Ext h' k'->ao n (.ptr rb a) (λz=>k'[z]?)=dG n a (.b V.now.row):=λ{_ _ _} e=>aA (((VS.trans U1).trans e).some mr)
 by_cases hlt:k<L.length
 ·have e3:=dN hlt;have e5:=wrapN (n:=k) Om;have ix:=hr.c6 (kk:=.i64) hlt;have ld:∀{k'},Ext h' k'->ao (some 2) (cI rs 2 k) (λb=>k'[b]?)=some (.agg (gq L[k]),.ar):=λ{k'} e=>hr.gP hlt ((VS.trans U1).trans e)
  have iy:=Vt k hlt;have ly:∀{k'},Ext h' k'->ao none (cI x.sn 1 k) (λb=>k'[b]?)=some (.str (aL x.ev k),.ar):=λ{k'} e=>hld k hlt k' ((hx3.trans U1).trans e)
  have hd:L.drop k=L[k]::L.drop (k+1):=Si
  obtain⟨r,WN⟩:∃r,r=L[k]:=⟨_,rfl⟩;have XF:r.1<6:=by rw[WN];exact YT _ (aad _)
  rw[hd,<-WN,lO]at hu;rw[<-WN,gq]at ld;cases T4:r.2 with
  |false=>
   rw[T4]at ld hu;refine Rs (mU t3 t6 t7 t56 t57 t58 e3 ix @ld e5) ?_;exact Ko
  |true=>
   rw[T4]at ld hu;refine Rs (Bn t3 t6 t7 t56 t57 t58 e3 ix @ld @iy @ly @le @lr @aG @aS) ?_;refine WF.ce T.c86 (r86 T ((on.ext (hx3.trans U1)).ext Xx) wn.len XF _) λg3=>?_
   cases hh:dD V.now.an r.1 (aL x.ev k)with
   |true=>
    rw[hh]at hu;refine Rs (A8 t3 t6 t7 t56 t57 t58 @aar e5) ?_;exact Ko
   |false=>
    rw[hh]at hu;have hu1:lO V.now.an x.ev L 0=true:=by rw[hu];rfl
    refine Rs (A7 t3 t6 t7 t56 t57 t58 @aay) ?_;refine⟨(hx3.trans U1).trans Xx,?_⟩;have e6:ka d V.now.an x.ev=10:=by rw[ka,<-hL,aai hu1]
    rw[e6,aai De]
 ·have e3:=eF hlt;have e4:k=L.length:=Om
  have VI:lO V.now.an x.ev L 0=false:=by rw[hu,e4,aa2];rfl
  have lk2:∀{k' n a'},Ext h' k'->ao n (.ptr kb a') (λz=>k'[z]?)=dG n a' (.b [rs,.i (cF d:Int),kE d,pX d,a]):=λ{_ _ _} e=>lk (U1.trans e)
  refine Rs (A9 t3 t6 t7 t56 t57 t58 e3 @lk2 hr.aH) ?_;have hrH:aI h' rs 2 (L.map gq):=hr.ext (VS.trans U1);refine WL.inv T.mix (λm ts Yn=>∃k:Nat,k<=L.length/\m=L.length-k/\Ext h' Yn/\pN V.now.an x.ev L 0=pN V.now.an x.ev (L.drop k) k/\ts.length=106/\slot ts 3=.ptr eb 0/\slot ts 6=.ptr rb 0/\slot ts 7=.ptr kb 0/\slot ts 79=rs/\slot ts 80=.i L.length/\slot ts 81=.i k) L.length
   ⟨0,Om,rfl,.refl _,rfl,Sn,(Sq t3),(Sq t6),(Sq t7),Sw,Sw,ga⟩ ?_
  clear t3 t6 t7 t56 t57 t58 hlen le lr lk2 e3 e4 hu lk;clear hlt hk ts k;rintro _ ts Yn ⟨k,hk,rfl,XW,hu,hlen,t3,t6,t7,t79,t80,t81⟩;have le:∀{k' n a},Ext Yn k'->ao n (.ptr eb a) (λz=>k'[z]?)=dG n a (.b x.row):=λ{_ _ _} e=>aA ((((VS.trans U1).trans XW).trans e).some me)
  have lr:∀{k' n a},Ext Yn k'->ao n (.ptr rb a) (λz=>k'[z]?)=dG n a (.b V.now.row):=λ{_ _ _} e=>aA ((((VS.trans U1).trans XW).trans e).some mr)
  have lk2:∀{k' n a'},Ext Yn k'->ao n (.ptr kb a') (λz=>k'[z]?)=dG n a' (.b [rs,.i (cF d:Int),kE d,pX d,a]):=λ{_ _ _} e=>aA (((U1.trans XW).trans e).some mk)
  by_cases hlt:k<L.length
  ·have e3:=dN hlt;have e5:=wrapN (n:=k) Om;have ix:=hr.c6 (kk:=.i64) hlt;have ld:∀{k'},Ext Yn k'->ao (some 2) (cI rs 2 k) (λb=>k'[b]?)=some (.agg (gq L[k]),.ar):=λ{k'} e=>hrH.gP hlt (XW.trans e)
   have iy:=Vt k hlt;have ly:∀{k'},Ext Yn k'->ao none (cI x.sn 1 k) (λb=>k'[b]?)=some (.str (aL x.ev k),.ar):=λ{k'} e=>hld k hlt k' (((hx3.trans U1).trans XW).trans e)
   have hd:L.drop k=L[k]::L.drop (k+1):=Si
   obtain⟨r,WN⟩:∃r,r=L[k]:=⟨_,rfl⟩;have XF:r.1<6:=by rw[WN];exact YT _ (aad _)
   rw[hd,<-WN,pN]at hu;rw[<-WN,gq]at ld;cases T4:r.2 with
   |true=>
    rw[T4]at ld hu;refine Rs (lI t3 t6 t7 t79 t80 t81 e3 ix @ld e5 @aar) ?_;exact Kp
   |false=>
    rw[T4]at ld hu;refine Rs (GD t3 t6 t7 t79 t80 t81 e3 ix @ld @iy @ly @le @lr @aG @aS @aay) ?_;refine WF.ce T.c86 (r86 T ((on.ext ((hx3.trans U1).trans XW)).ext Xx) wn.len XF _) λg3=>?_
    cases hh:dD V.now.an r.1 (aL x.ev k)with
    |false=>
     rw[hh]at hu;refine Rs (A7 t3 t6 t7 t79 t80 t81 e5) ?_;exact Kp
    |true=>
     rw[hh]at hu;have hu1:pN V.now.an x.ev L 0=true:=by rw[hu];rfl
     refine Rs (A6 t3 t6 t7 t79 t80 t81) ?_;refine⟨((hx3.trans U1).trans XW).trans Xx,?_⟩;have e6:ka d V.now.an x.ev=9:=by rw[ka,<-hL,aab (by rw[VI];decide),aai hu1]
     rw[e6,aai De]
  ·have e3:=eF hlt;have e4:k=L.length:=Om
   have Zq:pN V.now.an x.ev L 0=false:=by rw[hu,e4,aa2];rfl
   have e6:ka d V.now.an x.ev=0:=by rw[ka,<-hL,aab (by rw[VI];decide),aab (by rw[Zq];decide)]
   rw[e6,aab De];have XB:=(hx3.trans U1).trans XW;refine Rs (nT t3 t6 t7 t79 t80 t81 e3 @lk2 @lr @le @aG @bR) ?_;refine WF.val (QD T h2 ⟨on.ext XB,wn,ox.ext XB,wx,wg e6⟩ (gl.ext XB)) ?_;rintro _ g4 rfl;refine Rs t3 ?_;exact⟨XB.trans Xx,trivial⟩
end
def J6(B h0:ah)(b:Nat)(V:HV)(e:cY)(v:AV)(k:ah):Prop:=∃g' V',k=B++g'/\v=.i (dV V.bY e)/\cJ B.length (B++g') b V'/\V'.bY=(if dV V.bY e=0 then gy V.bY e else V.bY)/\(∀i,i<h0.length->some i∉V.ex b->(B++g')[i]? =h0[i]?)/\∀j,some j∈V'.ex b->some j∈V.ex b\/h0.length<=j
def J6.no{B g g1 b V e}(o:cJ B.length (B++g) b V)(h:dV V.bY e≠0){n}(hn:n=dV V.bY e):J6 B (B++g) b V e (.i n) (B++g++g1):=
 ⟨g++g1,V,by rw[Z4],by rw[hn],by rw[<-Z4];exact o.app _,by rw[aab h],λi hi _=>by rw[<-Z4,Z7 hi],λj hj=>.inl hj⟩
def bh.Dt{h x}(o:bh h x){M}:yL 5 1 (fi [.i 0,.str [],.af,.af,.str []] [(0,5,.agg x.row)]) M=some (.slice M 0 1 5,.push (.cells x.row true true)):=yK (c:=x.row) o.row rfl De
def aB.Dt{h V}(o:aB h V){M}:yL 7 1 (fi [.i 0,.af,.af,.af,.af,.af,.af] [(0,7,.agg V.row)]) M=some (.slice M 0 1 7,.push (.cells V.row true true)):=yK (c:=V.row) o.row rfl De
theorem bh.fZ{h x}(o:bh h x){ex}(h1:∀j,sB x.sn=some j->some j∉ex)(h2:∀j,sB x.sv=some j->some j∉ex):bh (Go.Abs.fZ ex h) x:=⟨o.n.fZ h1,o.v.fZ h2⟩
theorem aB.fZ{h V}(o:aB h V){ex}(hx:∀j,some j∈V.bl->some j∉ex):aB (Go.Abs.fZ ex h) V:=by
 have m6:∀x∈[sB V.s0,sB V.s1,sB V.s2,sB V.s3,sB V.s4,sB V.s5],x∈V.bl:=λx hx=>by simp only[RV.bl,aac];exact .inl (.inl (.inl hx))
 refine⟨o.i0.fZ λb hb=>hx b (hb▸m6 _ Si),o.i1.fZ λb hb=>hx b (hb▸m6 _ Si),o.i2.fZ λb hb=>hx b (hb▸m6 _ Si),o.i3.fZ λb hb=>hx b (hb▸m6 _ Si),o.i4.fZ λb hb=>hx b (hb▸m6 _ Si),o.i5.fZ λb hb=>hx b (hb▸m6 _ Si),
  λx hx1=>(o.e2 x hx1).fZ λb hb=>hx b ?_,λx hx1=>(o.e3 x hx1).fZ λb hb=>hx b ?_,λx hx1=>(o.e4 x hx1).fZ λb hb=>hx b ?_⟩
 ·simp only[RV.bl,aac,aaA];exact .inl (.inl (.inr ⟨x,hx1,hb⟩))
 ·simp only[RV.bl,aac,aaA];exact .inl (.inr ⟨x,hx1,hb⟩)
 ·simp only[RV.bl,aac,aaA];exact .inr ⟨x,hx1,hb⟩
def sG{a b c d}:lL [a,b,c,d]↔(∀i,a=some i->b≠some i/\c≠some i/\d≠some i)/\(∀i,b=some i->c≠some i/\d≠some i)/\∀i,c=some i->d≠some i:=by
 simp only[lL,aa8,aaJ,aa3,abH,forall_eq_or_imp,forall_eq,List.Pairwise.nil,and_true,false_implies,implies_true];constructor
 ·rintro⟨⟨h1,h2,h3⟩,⟨h4,h5⟩,h6⟩;exact⟨λi hi=>⟨h1 i hi,h2 i hi,h3 i hi⟩,λi hi=>⟨h4 i hi,h5 i hi⟩,h6⟩
 ·rintro⟨h1,h2,h3⟩;exact⟨⟨λi hi=>(h1 i hi).1,λi hi=>(h1 i hi).2.1,λi hi=>(h1 i hi).2.2⟩,⟨λi hi=>(h2 i hi).1,λi hi=>(h2 i hi).2⟩,h3⟩
def EL{B h:ah}(hl:B.length<=h.length)(hk:∀i,i<B.length->h[i]? =B[i]?):∃g,h=B++g:=by
 refine⟨h.drop B.length,acr λi=>?_⟩;by_cases hi:i<B.length
 ·rw[hk i hi,Z7 hi]
 ·exact z145
def vM{B h:ah}{b:Nat}{X:ak}(hN:B.length<=b)(hh:∃g,h=B++g):∃g,h.set b X=B++g:=by
 obtain⟨g,rfl⟩:=hh;exact⟨_,aa1 _ _ hN⟩
def b9.tk{B g b V}(r:b9 B.length (B++g) b V)(t:Int):∃g',(B++g).set b (.b (V.row.set 0 (.i t)))=B++g'/\b9 B.length (B++g') b {V with tick:=t}:=by
 obtain⟨h1,h2,h3⟩:=nQ (.b (V.row.set 0 (.i t))) r.hN r.m;refine⟨_,h1,?_,r.hN,h2,r.ne⟩;have:=r.o.ar (k:=B++g.set (b-B.length) (.b (V.row.set 0 (.i t)))) λi hi=>h3 i λe=>r.ne (e▸hi)
 exact⟨this.i0,this.i1,this.i2,this.i3,this.i4,this.i5,this.e2,this.e3,this.e4,this.di⟩
section
variable {N b:Nat}{h h':ah}{V:HV}
def cJ.lt(o:cJ N h b V):b<h.length:=(Z2.1 o.hb).1
def cJ.Dd(o:cJ N h b V){j}(hj:some j∈V.ex b):j<h.length:=by
 simp only[HV.ex,aaJ,aa3,abH,aaB]at hj;rcases hj with hj|hj|hj|hj
 ·rw[hj];exact o.lt
 ·exact(o.oe.bQ hj.symm).2
 ·exact(o.oc.bQ hj.symm).2
 ·exact(o.og.bQ hj.symm).2
def cJ.R1(o:cJ N h b V){s' x'}(hk:∀i,i<h.length->sB V.se≠some i->i≠b->h'[i]? =h[i]?)(hs:Ow N h' s' 5 ((V.c9++[x']).map EV.row))(hb:h'[b]? =some (.b [s',V.sc,V.sr]))
  (hn:∀i,sB s' =some i->h.length<=i) (hx:bh (fZ (V.ex b) h) x'):cJ N h' b {V with c9:=V.c9++[x'],se:=s'}:=by
 obtain⟨d1,d2,d3⟩:=sG.1 o.di;have hbl:=o.lt;have hsub:jQ (fZ (V.ex b) h) (fZ ({V with c9:=V.c9++[x'],se:=s'}.ex b) h'):=by
  refine nX (λi hi hne=>hk i hi (λe=>hne (by simp[HV.ex,e])) (λe=>hne (by simp[HV.ex,e]))) λi hi hm=>?_
  simp only[HV.ex,aaJ,aa3,abH,aaB]at hm ⊢;rcases hm with hm|hm|hm|hm
  ·exact .inl hm
  ·have:=hn i hm.symm;omega
  ·exact .inr (.inr (.inl hm))
  ·exact .inr (.inr (.inr hm))
 refine⟨o.hN,hb,hs,o.oc.aD λi hi=>?_,o.og.aD λi hi=>?_,sG.2 ⟨λi hi=>?_,λi hi=>?_,d3⟩,λx hx1=>?_,λx hx1=>(o.ac x hx1).sub hsub,λx hx1=>(o.ag x hx1).sub hsub,o.lo⟩
 ·exact hk i (o.oc.bQ hi).2 (λe=>(d2 i e).1 hi) (λe=>(d1 b rfl).2.1 (by rw[<-e];exact hi))
 ·exact hk i (o.og.bQ hi).2 (λe=>(d2 i e).2 hi) (λe=>(d1 b rfl).2.2 (by rw[<-e];exact hi))
 ·cases hi;exact⟨λe=>by have:=hn b e;omega,(d1 b rfl).2⟩
 ·have h1:=hn i hi;exact⟨λe=>by have:=(o.oc.bQ e).2;omega,λe=>by have:=(o.og.bQ e).2;omega⟩
 ·rcases aac.1 hx1 with hx1|hx1
  ·exact(o.ae x hx1).sub hsub
  ·rw[aam]at hx1;rw[hx1];exact hx.sub hsub
def cJ.R0(o:cJ N h b V){Tl TC n m}(hk:∀i,i<h.length->i≠b->h'[i]? =h[i]?)(hc:Ow N h' Tl 5 ((V.eT.take n).map EV.row))(hr:Ow N h' TC 7 ((V.cM.take m).map RV.row))(hb:h'[b]? =some (.b [V.se,Tl,TC]))
  (nc:sB Tl=sB V.sc) (nr:sB TC=sB V.sr):cJ N h' b {V with eT:=V.eT.take n,cM:=V.cM.take m,sc:=Tl,sr:=TC}:=by
 obtain⟨d1,d2,d3⟩:=sG.1 o.di;have he:{V with eT:=V.eT.take n,cM:=V.cM.take m,sc:=Tl,sr:=TC}.ex b=V.ex b:=by simp only[HV.ex,nc,nr]
 have hsub:jQ (fZ (V.ex b) h) (fZ ({V with eT:=V.eT.take n,cM:=V.cM.take m,sc:=Tl,sr:=TC}.ex b) h'):=by
  rw[he];exact nX (λi hi hne=>hk i hi (λe=>hne (by simp[HV.ex,e]))) λi hi hm=>hm
 refine⟨o.hN,hb,o.oe.aD λi hi=>hk i (o.oe.bQ hi).2 (λe=>(d1 b rfl).1 (by rw[<-e];exact hi)),hc,hr,by rw[he];exact o.di,λx hx1=>(o.ae x hx1).sub hsub,λx hx1=>(o.ac x (aa4 hx1)).sub hsub,λx hx1=>(o.ag x (aa4 hx1)).sub hsub,λx hx1=>o.lo x (aa4 hx1)⟩
def cJ.R2(o:cJ N h b V){Tl TC x' R'}(hk:∀i,i<h.length->sB V.sc≠some i->sB V.sr≠some i->i≠b->h'[i]? =h[i]?)(hc:Ow N h' Tl 5 ((V.eT++[x']).map EV.row))(hr:Ow N h' TC 7 ((V.cM++[R']).map RV.row))(hb:h'[b]? =some (.b [V.se,Tl,TC]))
  (nc:∀i,sB Tl=some i->h.length<=i) (nr:∀i,sB TC=some i->h.length<=i) (ncr:∀i,sB Tl=some i->sB TC≠some i) (hx:bh (fZ (V.ex b) h) x') (hR:aB (fZ (V.ex b) h) R') (hlo:∀j,some j∈R'.bl->N<=j):cJ N h' b {V with eT:=V.eT++[x'],cM:=V.cM++[R'],sc:=Tl,sr:=TC}:=by
 obtain⟨d1,d2,d3⟩:=sG.1 o.di;have hbl:=o.lt;have hsub:jQ (fZ (V.ex b) h) (fZ ({V with eT:=V.eT++[x'],cM:=V.cM++[R'],sc:=Tl,sr:=TC}.ex b) h'):=by
  refine nX (λi hi hne=>hk i hi (λe=>hne (by simp[HV.ex,e])) (λe=>hne (by simp[HV.ex,e])) (λe=>hne (by simp[HV.ex,e]))) λi hi hm=>?_
  simp only[HV.ex,aaJ,aa3,abH,aaB]at hm ⊢;rcases hm with hm|hm|hm|hm
  ·exact .inl hm
  ·exact .inr (.inl hm)
  ·have:=nc i hm.symm;omega
  ·have:=nr i hm.symm;omega
 refine⟨o.hN,hb,o.oe.aD λi hi=>?_,hc,hr,sG.2 ⟨λi hi=>?_,λi hi=>?_,ncr⟩,λx hx1=>(o.ae x hx1).sub hsub,λx hx1=>?_,λx hx1=>?_,λx hx1=>?_⟩
 ·exact hk i (o.oe.bQ hi).2 (λe=>(d2 i hi).1 e) (λe=>(d2 i hi).2 e) (λe=>(d1 b rfl).1 (by rw[<-e];exact hi))
 ·cases hi;exact⟨(d1 b rfl).1,λe=>by have:=nc b e;omega,λe=>by have:=nr b e;omega⟩
 ·have h1:=(o.oe.bQ hi).2;exact⟨λe=>by have:=nc i e;omega,λe=>by have:=nr i e;omega⟩
 ·rcases aac.1 hx1 with hx1|hx1
  ·exact(o.ac x hx1).sub hsub
  ·rw[aam]at hx1;rw[hx1];exact hx.sub hsub
 ·rcases aac.1 hx1 with hx1|hx1
  ·exact(o.ag x hx1).sub hsub
  ·rw[aam]at hx1;rw[hx1];exact hR.sub hsub
 ·rcases aac.1 hx1 with hx1|hx1
  ·exact o.lo x hx1
  ·rw[aam]at hx1;rw[hx1];exact hlo
end
section
variable {P:Program}(T:fq P)
include T
def MQ{B g:ah}{V:HV}{b:Nat}{x:EV}(o:cJ B.length (B++g) b V)(w:lq V.bY)(hl:V.c9.length<1000)(ox:bh (B++g) x)(hxl:x.ev.names.length<=2^40/\x.ev.cw.length<=2^40)(gl:Gl B):
  dA P 112 [.ptr b 0,.agg x.row] (B++g) (λv k=>J6 B (B++g) b V x.ev v k):=by
 have hcl:V.eT.length<=V.c9.length:=by have:=w.le;simpa [HV.bY]using this
 have Un:V.cM.length=V.eT.length:=by have:=w.ln;simpa [HV.bY]using this
 refine .eX 94 T.mix T.c112 ?_;intro ts hlen t0 t1;unfold fn112;have SG:=@bh.box _ _ ox;have gl':Gl (B++g):=gl.ext ⟨g,rfl⟩;refine Rs (A4 t0 t1 @SG @bR) ?_;refine WF.ce T.c67 (r67 T (ox.ext Xx) hxl) λg1=>?_
 by_cases h1:eA x.ev=0
 case neg=>
  have q1:decide (eA x.ev≠0)=true:=Z8 h1;refine Rs (A3 t0 t1 q1) ?_;have e:dV V.bY x.ev=eA x.ev:=by rw[dV,aai h1]
  rw[Z4 (B++g)];exact J6.no o (by rw[e];exact h1) e.symm
 have q1:decide (eA x.ev≠0)=false:=Z3 (λz=>z h1);obtain⟨d,wx⟩:=p6 h1;have eb:dV V.bY x.ev=jw V.bY x.ev:=by rw[dV,aab (λz=>z h1)]
 refine Rs (A4 t0 t1 q1 @bR) ?_;refine WF.ce T.c116 (r116 T (d:=d) (o.rd.ext Xx) w Om (ox.ext Xx) wx (gl'.ext Xx)) λg2=>?_
 by_cases h2:jw V.bY x.ev=0
 case neg=>
  have q2:decide (jw V.bY x.ev≠0)=true:=Z8 h2;refine Rs (A3 t0 t1 q2) ?_;rw[Z4 (B++g),Z4 (B++g)];exact J6.no o (by rw[eb];exact h2) eb.symm
 have q2:decide (jw V.bY x.ev≠0)=false:=Z3 (λz=>z h2);rw[<-eb]at h2;refine Rs (A4 t0 t1 q2 @bR) ?_;refine WF.res T.c91 (r91 T x (ox.ext Xx) hxl) ?_;rintro _ g3 ⟨x',SO,rfl,fn,fv⟩;have Ys:bh _ x':=⟨by rw[SO];exact fn.aY,by rw[SO];exact fv.aY⟩;have st:∀{b':Nat},kN 5 0 (.agg x'.row) b' (.b x.row)=some (az,.set b' (.b x'.row)):=λ{_}=>Ys.st
 refine Rs (A3 t0 t1 @st) ?_;obtain⟨H,hH⟩:∃H,H=B++g++[ak.b x'.row]++g1++g2++g3:=⟨_,rfl⟩;have hHg:∃gH,H=B++gH:=⟨_,by rw[hH];simp only[Z4];rfl⟩;obtain⟨gH,hHB⟩:=hHg;have hex:Ext (B++g) H:=by rw[hH];exact Xx
 have oH:cJ B.length H b V:=by obtain⟨z,hz⟩:=hex;rw[hz];exact o.app z
 have ar:∀j,(B++g).length+1<=j->H[j]? =(B++g++[ak.b x.row]++g1++g2++g3)[j]? :=λj hj=>by
  rw[hH];simp only[Z4];have e:∀C:ak,(B++(g++([C]++(g1++(g2++g3)))))[j]? =(g1++(g2++g3))[j-B.length-g.length-1]? :=λC=>by
   simp only[Z1]at hj;rw[aaf Om,aaf Om,aaf (by simp only[aau];omega)];rfl
  rw[e,e]
 obtain⟨N,hN⟩:∃N,N=(B++g).length:=⟨_,rfl⟩;have fnl:=λj (hj:sB x'.sn=some j)=>fn.bQ hj
 have fvl:=λj (hj:sB x'.sv=some j)=>fv.bQ hj
 have Wp:H.length=(B++g++[ak.b x.row]++g1++g2++g3).length:=by rw[hH];simp only[Z1,Z5,Z9]
 have lnn:∀j,sB x'.sn=some j\/sB x'.sv=some j->(B++g).length+1<=j/\j<H.length:=λj hj=>by
  rw[Wp];rcases hj with hj|hj
  ·have:=fnl j hj;exact z49
  ·have:=fvl j hj;exact z49
 have oxH:bh H x':=⟨by rw[SO];exact(fn.aD λj hj=>ar j (lnn j (.inl hj)).1).aY,by rw[SO];exact(fv.aD λj hj=>ar j (lnn j (.inr hj)).1).aY⟩;have eH:H[N]? =some (.b x'.row):=by rw[hH,hN];exact(show Ext (B++g++[ak.b x'.row]) _ from Xx).some ba
 rw[<-hH,<-hN];have hb:=oH.hb;have lb:=@dB _ _ _ hb;have le:=@dB _ _ _ eH;have bs:=@bh.Dt _ _ oxH;have dH:=sG.1 oH.di;refine Rs (A6 t0 t1 @lb @le @bR @bs) ?_;refine WR.Ju (N:=B.length) (cs:=V.c9.map EV.row) (ys:=[x'.row]) (oH.app _).oe (Fr.push (N:=0) (aaC _) [x'.row] (by intro y hy;rw[aam]at hy;rw[hy];rfl)).aY (by rw[hHB];simp only[Z1];omega) De Si (by simp only[aaa,Z5,Z9];omega) ?_;intro h1 X9 UI hk1;have hrow:V.c9.map EV.row++[x'.row]=(V.c9++[x']).map EV.row:=by rw[aae];rfl
 rw[hrow]at UI;rw[hrow];obtain⟨TA,Zx⟩:∃TA,TA=AV.slice (H++[ak.cells x'.row true true]).length 0 ((V.c9++[x']).map EV.row).length 5:=⟨_,rfl⟩;rw[<-Zx]at UI ⊢;have X3:∀i,sB TA=some i->H.length+1=i:=λi hi=>by rw[Zx]at hi;cases hi;simp
 have ose:TA.one=true:=by rw[Zx];rfl
 have hk1':∀i,i<H.length->sB V.se≠some i->h1[i]? =H[i]? :=λi hi hne=>by rw[hk1 i (by simp;omega) hne,Z7 hi]
 have hbl:=oH.lt;have SY:sB V.se≠some b:=(dH.1 b rfl).1;have Tm:h1[b]? =some (.b [V.se,V.sc,V.sr]):=(hk1' b hbl SY).trans hb;have sb1:aX 1 (.ptr b 0) TA (λz=>h1[z]?)=some (az,.set b (.b [TA,V.sc,V.sr])):=by
  rw[aK Tm];exact bP ose Si
 refine Rs (A2 t0 @sb1) ?_;have hb1l:b<h1.length:=(Z2.1 Tm).1;obtain⟨H1,XQ⟩:∃H1,H1=h1.set b (.b [TA,V.sc,V.sr]):=⟨_,rfl⟩;rw[<-XQ];have k1:∀i,i<H.length->sB V.se≠some i->i≠b->H1[i]? =H[i]? :=λi hi n1 n2=>by rw[XQ,aaj (abo n2)];exact hk1' i hi n1
 have m1:H1[b]? =some (.b [TA,V.sc,V.sr]):=by rw[XQ,aak hb1l]
 have Yw:∀i,i<(B++g).length->some i∉V.ex b->H1[i]? =(B++g)[i]? :=λi hi hn=>by
  rw[k1 i (by rw[Wp];simp only[Z1]at hi ⊢;omega) (λe=>hn (by rw[<-e];simp[HV.ex])) (λe=>hn (by rw[e];simp[HV.ex]))];obtain⟨z,hz⟩:=hex;rw[hz,Z7 hi]
 have hB1:∃g',H1=B++g':=by
  have:=oH.hN;refine⟨H1.drop B.length,?_⟩;refine acr λi=>?_
  by_cases hi:i<B.length
  ·have e2:B.length<=H.length:=by rw[hHB];simp
   have n1:sB V.se≠some i:=λe=>by have:=(oH.oe.bQ e).1;omega
   rw[k1 i Om n1 Om,hHB,Z7 hi,Z7 hi]
  ·exact z145
 have YP:∀j,some j∈V.ex b->j<(B++g).length:=λj hj=>o.Dd hj
 have oxm:bh (fZ (V.ex b) H) x':=oxH.fZ (λj hj hm=>by have:=(lnn j (.inl hj)).1;have:=YP j hm;omega) (λj hj hm=>by have:=(lnn j (.inr hj)).1;have:=YP j hm;omega);have Wc:cJ B.length H1 b {V with c9:=V.c9++[x'],se:=TA}:=oH.R1 k1 (UI.aD λi hi=>by rw[XQ,aaj (by have:=X3 i hi;omega)]) m1 (λi hi=>by have:=X3 i hi;omega) oxm;clear UI hk1 hk1' sb1 hb1l;have owc:Ow B.length H1 V.sc 5 (V.eT.map EV.row):=Wc.oc;have owr:Ow B.length H1 V.sr 7 (V.cM.map RV.row):=Wc.og;obtain⟨V1,VC⟩:∃V1:HV,V1={V with c9:=V.c9++[x'],se:=TA}:=⟨_,rfl⟩;rw[<-VC]at Wc;have eN:H1[N]? =some (.b x'.row):=(k1 N (by rw[Wp,hN];simp only[Z1,Z5];omega) (λe=>by have:=(o.oe.bQ e).2;omega) (by have:=o.lt;omega)).trans eH
 have oxm1:bh (fZ (V1.ex b) H1) x':=Wc.ae x' (by rw[VC];simp);have UB:bh H1 x':=oxm1.sub (jQ.fZ _ _);obtain⟨gH1,hB1⟩:=hB1;have lb1:=@dB _ _ _ m1;have le1:=@dB _ _ _ eN;have hkx:x'.ev.kind=x.ev.kind:=by rw[SO]
 have SN:gx x.ev=d:=by rw[gx,wx.kd];rfl
 by_cases h5:d=.dR
 ·have q5:decide (x.ev.kind=[117,110,100,111])=true:=Z8 (by rw[cA wx.kd,h5];rfl);refine Rs (A7 t0 @le1 @bB @hkx q5 @lb1 owc.aY.aH) ?_;have hne:V.eT≠[]:=λe=>by
   rw[eb,jw,SN,aai h5,show V.bY.eT.getLast? =none by simp[HV.bY,e]]at h2;split at h2<;>exact absurd h2 De
  have hcp:0<V.eT.length:=abV.2 hne;have e2:IntKind.i64.wrap ((V.eT.length:Int)-1)=((V.eT.length-1:Nat):Int):=by rw[bD Om Om];omega
  obtain⟨Tl,c1,c2,c3⟩:=owc.cut (n:=V.eT.length-1) Si (k:=.i64);obtain⟨TC,r1,r2,r3⟩:=owr.cut (n:=V.eT.length-1) (by simp;omega) (k:=.i64);refine Rs (A5 t0 e2 @lb1 @c1 @r1) ?_;have osc:Tl.one=true:=c3.aY.one;have osr:TC.one=true:=r3.aY.one;have sA:aX 1 (.ptr b 1) Tl (λz=>H1[z]?)=some (az,.set b (.b [TA,Tl,V.sr])):=by
   rw[aK m1];exact bP osc Si
  have hbl1:b<H1.length:=Wc.lt;have m2:(H1.set b (.b [TA,Tl,V.sr]))[b]? =some (.b [TA,Tl,V.sr]):=aak hbl1;have sB2:aX 1 (.ptr b 2) TC (λz=>(H1.set b (.b [TA,Tl,V.sr]))[z]?)=some (az,.set b (.b [TA,Tl,TC])):=by
   rw[aK m2];exact bP osr Si
  refine Rs (A3 t0 @sA @sB2) ?_;rw[List.set_set];obtain⟨gz,hz⟩:=vM (X:=.b [TA,Tl,TC]) Wc.hN ⟨_,hB1⟩;have kz:∀i,i≠b->(H1.set b (.b [TA,Tl,TC]))[i]? =H1[i]? :=λi hi=>aaj (abo hi)
  have d1:=sG.1 Wc.di;have d2:=sG.1 o.di;have hfr:∀i,i<(B++g).length->some i∉V.ex b->(B++gz)[i]? =(B++g)[i]? :=λi hi hn=>by
   rw[<-hz,kz i (λe=>hn (by rw[e];simp[HV.ex])),Yw i hi hn]
  refine⟨gz,{V1 with eT:=V1.eT.take (V.eT.length-1),cM:=V1.cM.take (V.eT.length-1),sc:=Tl,sr:=TC},hz,by rw[h2],?_,?_,hfr,λj hj=>?_⟩
  ·rw[<-hz];subst VC;rw[<-acC]at c3 r3;refine Wc.R0 (λi _ hi=>kz i hi) (c3.aD λi hi=>kz i λe=>?_) (r3.aD λi hi=>kz i λe=>?_) (aak hbl1) c2 r2
   ·rw[c2]at hi;exact(d2.1 b rfl).2.1 (by rw[hi,e])
   ·rw[r2]at hi;exact(d2.1 b rfl).2.2 (by rw[hi,e])
  ·rw[aai h2,gy,SN,aai h5,VC];simp only[HV.bY,aae,acC,aaX,abF,SO,List.dropLast_eq_take,aaa,Un]
  ·subst VC;simp only[HV.ex,aaJ,aa3,abH,aaB]at hj ⊢;rcases hj with hj|hj|hj|hj
   ·exact .inl (.inl hj)
   ·have:=X3 j hj.symm;exact .inr (by rw[Wp]at this;simp only[Z1]at this ⊢;omega)
   ·rw[c2]at hj;exact .inl (.inr (.inr (.inl hj)))
   ·rw[r2]at hj;exact .inl (.inr (.inr (.inr hj)))
 have q5:decide (x.ev.kind=[117,110,100,111])=false:=Z3 λz=>h5 (by
  have:=wx.kd;rw[z]at this;exact(aa0 ((jD .dR).symm.trans this)).symm)
 refine Rs (A5 t0 @le1 @bB @hkx q5) ?_;have UD:V1.now=V.now:=by rw[VC];rfl
 have rd1:=Wc.rd;have wn:eS V1.now.an:=by rw[UD,V.jX];exact w.now
 refine WF.ce T.c79 (r79 T rd1 (by rw[VC];show V.cM.length<=1000;omega)) λg4=>?_
 refine Rs t0 ?_;refine WF.res T.c96 (r96 T (rd1.now.ext Xx) wn) ?_;rintro _ g5 ⟨VN,hVN,rfl,own⟩;have stN:∀{b':Nat}{a0 a1 a2 a3 a4 a5 a6:AV},kN 7 0 (.agg VN.row) b' (.b [a0,a1,a2,a3,a4,a5,a6])=some (az,.set b' (.b VN.row)):=λ{_ _ _ _ _ _ _ _}=>own.ok.st
 repeat (first|simp (config:={maxSteps:=1000000}) only[aO,aT,aZ,a8,reduceAdd,reduceMul,reduceLeDiff,reduceEqDiff,bd,hlen,aal,aan,t0,stN]|simp (config:={maxSteps:=1000000}) (disch:=first|(simp only[Z1,Z5,Z9]<;>omega)|rfl|omega|fail) only[dX,aO,aT,aZ,a8,reduceAdd,reduceMul,reduceLeDiff,reduceEqDiff,bd,hlen,aal,aan,t0,stN])
 refine WF.res T.c90 (r90 T) ?_;rintro _ g6 ⟨vf,rfl,hk⟩;obtain⟨hx3,Xf⟩:∃z,z=H1++g4++g5++[ak.b VN.row]:=⟨_,rfl⟩;rw[<-Xf]at hk ⊢;have lk:∀{z:AV},iU .s z false (.map hx3.length) (.str x.ev.kind) (λb=>(hx3++g6)[b]?)=lX z false ((iH x.ev.kind).map vf):=hk.look;rw[wx.kd]at lk;have Tr:∀{z:AV},_=some (vf d,jd.ar):=@lk;obtain⟨rs,a,hv,hr,ha,hab⟩:=(hk.k d).ex;rw[hv]at Tr;have e1x:Ext H1 (hx3++g6):=by rw[Xf];exact Xx
 have le2:∀{k n a},Ext (hx3++g6) k->ao n (.ptr N a) (λz=>k[z]?)=dG n a (.b x'.row):=λ{_ _ _} e=>le1 (e1x.trans e)
 have cd:=l9 d;obtain⟨rb,X1⟩:∃rb,rb=(H1++g4++g5).length:=⟨_,rfl⟩;rw[<-X1];refine Rs (A8 t0 @le2 @bB @hkx @bZ @Tr @cd @bR) ?_;have Vx:fD V.bY.now x.ev d=0:=by
  rw[eb,jw,SN,aab h5]at h2;split at h2
  ·exact absurd h2 De
  ·exact h2
 have UC:x.ev.num=(V.bY.c9.length:Int)+1:=by
  rw[eb,jw]at h2;split at h2
  ·exact absurd h2 De
  case isFalse hh=>exact abN.1 hh
 have hVR:VN.an=V.bY.now:=by rw[hVN,UD,V.jX]
 have S9:¬bI x.ev 0<V.bY.now.tick:=λz=>by rw[fD,aai z]at Vx;exact absurd Vx De
 have Vr:ka d V.bY.now x.ev=0:=by
  rw[fD,aab S9]at Vx;split at Vx
  case isTrue hh=>exact absurd Vx hh
  case isFalse hh=>exact abN.1 hh
 have Ud:bz V.bY.now x.ev d=0:=by rw[fD,aab S9,aab (by rw[Vr];decide)]at Vx;exact Vx
 obtain⟨G,hG⟩:=e1x;have hGl:H1.length<=rb/\rb<(H1++G).length:=by
  rw[<-hG,Xf,X1];simp only[Z1,Z5,Z9];omega
 have rbk:b9 H1.length (H1++G) rb VN:=by
  have:=(((own.app [ak.b VN.row]).app g6).low (M:=H1.length) Si);rw[<-Xf,hG]at this;refine⟨this,hGl.1,?_,λhb'=>?_⟩
  ·rw[<-hG,Xf,X1];exact(Ext.app _ (Ext.refl _)).some ba
  ·have:=(own.ep hb').2;omega
 have glG:Gl (H1++G):=(gl.ext ⟨_,hB1⟩).ext ⟨_,rfl⟩;have cx:Cx (H1++G) VN x' d:=⟨rbk.o.ok,by rw[hVN];exact wn,UB.ext ⟨_,rfl⟩,by rw[SO];exact wx,by rw[hVR,SO];exact wg Vr⟩;rw[hG];refine Gt T h5 rbk cx (by rw[hVR,SO];exact Ud) glG ?_;rintro _ _ ⟨g7,V7,rfl,r7,hr7⟩;have e17:Ext H1 (H1++g7):=⟨_,rfl⟩;have le3:∀{k n a},Ext (H1++g7) k->ao n (.ptr N a) (λz=>k[z]?)=dG n a (.b x'.row):=λ{_ _ _} e=>le1 (e17.trans e)
 have Ty:0<x'.ev.cw.length:=by rw[SO,wx.vl];cases d<;>first|exact absurd rfl h5|decide
 have qP:bf 1 x'.sv (.i 0)=some (cI x'.sv 1 0,.ar):=UB.v.qP Ty;have ld0:∀{k':ah},Ext (H1++g7) k'->ao none (cI x'.sv 1 0) (λb=>k'[b]?)=some (.i (bI x.ev 0),.ar):=λ{k'} e=>by
  have ev0:bI x.ev 0=x'.ev.cw[0]:=by rw[<-SO,bI,aaN,Z6 Ty];rfl
  rw[ev0];exact UB.v.lC Ty rfl (e17.trans e)
 have s7:aX 1 (.ptr rb 0) (.i (bI x.ev 0)) (λz=>(H1++g7)[z]?)=some (az,.set rb (.b (V7.row.set 0 (.i (bI x.ev 0))))):=iX r7.m rfl De;obtain⟨g8,hg8,r8⟩:=r7.tk (bI x.ev 0);refine Rs (A6 t0 @le3 @bg @qP @ld0 @s7) ?_;rw[hg8];obtain⟨V8,hV8⟩:∃V8:RV,V8={V7 with tick:=bI x.ev 0}:=⟨_,rfl⟩;rw[<-hV8]at r8;have hr8:V8.an=fQ V.bY.now x.ev d:=by
  rw[hV8,fQ,<-hVR];have:dF VN.an x.ev d=V7.an:=by rw[hr7,SO]
  rw[this];rfl
 clear s7 le2 le3 ld0 Tr lk hk;have XA:cJ B.length (H1++g8) b V1:=Wc.app g8;have e18:Ext H1 (H1++g8):=⟨_,rfl⟩;have lb2:∀{k n a},Ext (H1++g8) k->ao n (.ptr b a) (λz=>k[z]?)=dG n a (.b [TA,V.sc,V.sr]):=λ{_ _ _} e=>lb1 (e18.trans e)
 have le2:∀{k n a},Ext (H1++g8) k->ao n (.ptr N a) (λz=>k[z]?)=dG n a (.b x'.row):=λ{_ _ _} e=>le1 (e18.trans e)
 have lr2:=@dB _ _ _ r8.m;have bs1:=@bh.Dt _ _ UB;have bs2:=@aB.Dt _ _ r8.o.ok;obtain⟨H2,Xp⟩:∃H2,H2=H1++g8:=⟨_,rfl⟩;have m2:H2[b]? =some (.b [TA,V.sc,V.sr]):=by rw[Xp];exact e18.some m1
 have e2:H2[N]? =some (.b x'.row):=by rw[Xp];exact e18.some eN
 have r2m:H2[rb]? =some (.b V8.row):=by rw[Xp];exact r8.m
 have hB2:∃g',H2=B++g':=⟨_,by rw[Xp,hB1,Z4]⟩;rw[<-Xp]at r8 XA ⊢;have Zj:Ow B.length H2 V.sc 5 (V.eT.map EV.row):=by have:=XA.oc;rw[VC]at this;exact this
 have XT:Ow B.length H2 V.sr 7 (V.cM.map RV.row):=by have:=XA.og;rw[VC]at this;exact this
 have d1:=sG.1 Wc.di;have d1b:sB V.sc≠some b/\sB V.sr≠some b:=by have:=(d1.1 b rfl).2;rw[VC]at this;exact this
 have d1c:∀i,sB V.sc=some i->sB V.sr≠some i:=by have:=d1.2.2;rw[VC]at this;exact this
 have hBl:B.length<=H2.length:=by obtain⟨z,hz⟩:=hB2;rw[hz];simp
 refine pG (λh=>h[b]? =some (.b [TA,V.sc,V.sr])/\h[N]? =some (.b x'.row)/\h[rb]? =some (.b V8.row)) ?_;have hS:(λh:ah=>h[b]? =some (.b [TA,V.sc,V.sr])/\h[N]? =some (.b x'.row)/\h[rb]? =some (.b V8.row)) H2:=⟨m2,e2,r2m⟩;refine dt hS rfl rfl ?_;refine Rs t0 ?_;refine dt hS rfl rfl ?_;refine Rs t0 ?_;refine dt hS rfl rfl ?_;refine Rs t0 ?_;refine dt hS rfl rfl ?_;refine Rs t0 ?_;refine dt hS rfl rfl ?_;refine Rs t0 ?_;refine lD hS (v:=V.sc) (λg hg=>?_) ?_
 ·exact z107
 refine Rs t0 ?_;refine lD hS (v:=.agg x'.row) (λg hg=>?_) ?_
 ·simp only[aO,aT,aZ,a8,reduceAdd,reduceMul,reduceLeDiff,reduceEqDiff,bd,hlen,aal,aan,t0,aA hg.2.1,bR]
 refine Rs t0 ?_;refine dt hS rfl rfl ?_;refine Rs (A2 t0 @bs1) ?_;have x3:Ext H2 (H2++[ak.cells x'.row true true]):=⟨_,rfl⟩;have hS3:(λh:ah=>h[b]? =some (.b [TA,V.sc,V.sr])/\h[N]? =some (.b x'.row)/\h[rb]? =some (.b V8.row)) (H2++[ak.cells x'.row true true]):=⟨x3.some m2,x3.some e2,x3.some r2m⟩;refine dt hS3 rfl rfl ?_;refine Rs t0 ?_;refine WR.Ju (N:=B.length) (cs:=V.eT.map EV.row) (ys:=[x'.row]) (Zj.aD λi hi=>Z7 (Zj.bQ hi).2) (Fr.push (N:=0) (aaC _) [x'.row] (by intro y hy;rw[aam]at hy;rw[hy];rfl)).aY (by simp only[Z1];omega) De Si (by simp only[aaa,Z5,Z9];omega) ?_;intro h4 hl4 hs4 hk4
 have YD:V.eT.map EV.row++[x'.row]=(V.eT++[x']).map EV.row:=by rw[aae];rfl
 rw[YD]at hs4;rw[YD];obtain⟨Tl,hsc⟩:∃Tl,Tl=AV.slice (H2++[ak.cells x'.row true true]).length 0 ((V.eT++[x']).map EV.row).length 5:=⟨_,rfl⟩;rw[<-hsc]at hs4 ⊢;have hl4':h4.length=H2.length+2:=by rw[hl4];simp
 have X4:∀i,sB Tl=some i->H2.length+1=i:=λi hi=>by rw[hsc]at hi;cases hi;simp
 have osc:Tl.one=true:=by rw[hsc];rfl
 have k4:∀i,i<H2.length->sB V.sc≠some i->h4[i]? =H2[i]? :=λi hi hne=>by rw[hk4 i (by simp;omega) hne,Z7 hi]
 have hNl:N<H2.length:=(Z2.1 e2).1;have Un:rb<H2.length:=(Z2.1 r2m).1;have hbl2:b<H2.length:=(Z2.1 m2).1;have Yj:∀j,some j∈V.ex b->j<N:=λj hj=>by rw[hN];exact o.Dd hj
 have ncN:sB V.sc≠some N:=λe=>by have:=Yj N (by rw[<-e];simp[HV.ex]);omega
 have nrN:sB V.sr≠some N:=λe=>by have:=Yj N (by rw[<-e];simp[HV.ex]);omega
 have hNr:N<rb:=by have:=(Z2.1 eN).1;omega
 have ncr:sB V.sc≠some rb:=λe=>by have:=Yj rb (by rw[<-e];simp[HV.ex]);omega
 have nrr:sB V.sr≠some rb:=λe=>by have:=Yj rb (by rw[<-e];simp[HV.ex]);omega
 have Yl:(λh:ah=>h[b]? =some (.b [TA,V.sc,V.sr])/\h[N]? =some (.b x'.row)/\h[rb]? =some (.b V8.row)) h4:=⟨(k4 b hbl2 d1b.1).trans m2,(k4 N hNl ncN).trans e2,(k4 rb Un ncr).trans r2m⟩;refine Rs t0 ?_;refine dt Yl rfl rfl ?_;refine Rs t0 ?_;refine dt Yl rfl rfl ?_;refine Rs t0 ?_;refine dt Yl rfl rfl ?_;refine Rs t0 ?_;refine lD Yl (v:=V.sr) (λg hg=>?_) ?_
 ·exact z107
 refine Rs t0 ?_;refine lD Yl (v:=.agg V8.row) (λg hg=>?_) ?_
 ·simp only[aO,aT,aZ,a8,reduceAdd,reduceMul,reduceLeDiff,reduceEqDiff,bd,hlen,aal,aan,t0,aA hg.2.2,aG]
 refine Rs t0 ?_;refine dt Yl rfl rfl ?_;refine Rs (A2 t0 @bs2) ?_;have x5:Ext h4 (h4++[ak.cells V8.row true true]):=⟨_,rfl⟩;have hS5:(λh:ah=>h[b]? =some (.b [TA,V.sc,V.sr])/\h[N]? =some (.b x'.row)/\h[rb]? =some (.b V8.row)) (h4++[ak.cells V8.row true true]):=⟨x5.some Yl.1,x5.some Yl.2.1,x5.some Yl.2.2⟩;have owr4:Ow B.length (h4++[ak.cells V8.row true true]) V.sr 7 (V.cM.map RV.row):=XT.aD λi hi=>by
  have hil:=(XT.bQ hi).2;rw[Z7 Om];exact k4 i hil λe=>d1c i e hi
 refine dt hS5 rfl rfl ?_;refine Rs t0 ?_;refine WR.Ju (N:=B.length) (cs:=V.cM.map RV.row) (ys:=[V8.row]) owr4 (Fr.push (N:=0) (aaC _) [V8.row] (by intro y hy;rw[aam]at hy;rw[hy];rfl)).aY (by simp only[Z1];omega) De Si (by simp only[aaa,Z5,Z9];omega) ?_;intro h6 hl6 hs6 hk6;have YC:V.cM.map RV.row++[V8.row]=(V.cM++[V8]).map RV.row:=by rw[aae];rfl
 rw[YC]at hs6;rw[YC];obtain⟨TC,hsr⟩:∃TC,TC=AV.slice (h4++[ak.cells V8.row true true]).length 0 ((V.cM++[V8]).map RV.row).length 7:=⟨_,rfl⟩;rw[<-hsr]at hs6 ⊢;have hl6':h6.length=H2.length+4:=by rw[hl6];simp;omega
 have X2:∀i,sB TC=some i->H2.length+3=i:=λi hi=>by rw[hsr]at hi;cases hi;simp;omega
 have osr:TC.one=true:=by rw[hsr];rfl
 have k6:∀i,i<H2.length->sB V.sc≠some i->sB V.sr≠some i->h6[i]? =H2[i]? :=λi hi n1 n2=>by
  rw[hk6 i (by simp;omega) n2,Z7 Om];exact k4 i hi n1
 have hS6:(λh:ah=>h[b]? =some (.b [TA,V.sc,V.sr])/\h[N]? =some (.b x'.row)/\h[rb]? =some (.b V8.row)) h6:=⟨(k6 b hbl2 d1b.1 d1b.2).trans m2,(k6 N hNl ncN nrN).trans e2,(k6 rb Un ncr nrr).trans r2m⟩;refine Rs t0 ?_;refine pF hS6 rfl ?_;have m6:=hS6.1;have hb6:b<h6.length:=(Z2.1 m6).1;have sA:aX 1 (.ptr b 1) Tl (λz=>h6[z]?)=some (az,.set b (.b [TA,Tl,V.sr])):=by
  rw[aK m6];exact bP osc Si
 have m7:(h6.set b (.b [TA,Tl,V.sr]))[b]? =some (.b [TA,Tl,V.sr]):=aak hb6;have sB2:aX 1 (.ptr b 2) TC (λz=>(h6.set b (.b [TA,Tl,V.sr]))[z]?)=some (az,.set b (.b [TA,Tl,TC])):=by
  rw[aK m7];exact bP osr Si
 refine Rs (A3 t0 @sA @sB2) ?_;rw[List.set_set];obtain⟨gB2,hgB2⟩:=hB2;obtain⟨gz,hz⟩:=vM (X:=.b [TA,Tl,TC]) XA.hN (EL (B:=B) (h:=h6) Om λi hi=>by
  rw[k6 i Om (λe=>by have:=(Zj.bQ e).1;omega) (λe=>by have:=(XT.bQ e).1;omega),hgB2,Z7 hi])
 have kz:∀i,i≠b->(h6.set b (.b [TA,Tl,TC]))[i]? =h6[i]? :=λi hi=>aaj (abo hi)
 have oxm2:bh (fZ (V1.ex b) H2) x':=XA.ae x' (by rw[VC];simp);have oR2:aB (fZ (V1.ex b) H2) V8:=r8.o.ok.fZ λj hj hm=>by
  have h1:=(r8.o.ep hj).1;have h2:=Wc.Dd hm;omega
 have hBH1:B.length<=H1.length:=by rw[hB1];simp
 have fin:cJ B.length (h6.set b (.b [TA,Tl,TC])) b {V1 with eT:=V1.eT++[x'],cM:=V1.cM++[V8],sc:=Tl,sr:=TC}:=by
  subst VC;refine XA.R2 (λi hi n1 n2 nb=>(kz i nb).trans (k6 i hi n1 n2)) (hs4.aD λi hi=>?_) (hs6.aD λi hi=>kz i ?_) (aak hb6) (λi hi=>by have:=X4 i hi;omega) (λi hi=>by have:=X2 i hi;omega) (λi h1 h2=>by have:=X4 i h1;have:=X2 i h2;omega) oxm2 oR2 (λj hj=>aaT hBH1 (r8.o.ep hj).1)
  ·have h1:=X4 i hi;rw[kz i Om,hk6 i (by simp;omega) (λe=>by have:=(XT.bQ e).2;omega),Z7 Om]
  ·have h1:=X2 i hi;omega
 have hfr:∀i,i<(B++g).length->some i∉V.ex b->(B++gz)[i]? =(B++g)[i]? :=λi hi hn=>by
  have hi1:=Yw i hi hn;have hil:i<H1.length:=by
   rw[Z6 hi]at hi1;exact(Z2.1 hi1).1
  rw[<-hz,kz i (λe=>hn (by rw[e];simp[HV.ex])),k6 i (by rw[Xp,Z1];omega) (λe=>hn (by rw[<-e];simp[HV.ex])) (λe=>hn (by rw[<-e];simp[HV.ex])),Xp,Z7 hil,hi1]
 have hlo:(B++g).length<=H.length:=by rw[Wp];simp only[Z1];omega
 have hlo2:H.length<=H2.length:=by rw[Xp,Z1,XQ,aaL,X9];simp only[Z1];omega
 have hexn:∀j,some j∈HV.ex b {V1 with eT:=V1.eT++[x'],cM:=V1.cM++[V8],sc:=Tl,sr:=TC}->some j∈V.ex b\/(B++g).length<=j:=λj hj=>by
  subst VC;simp only[HV.ex,aaJ,aa3,abH,aaB]at hj ⊢;rcases hj with hj|hj|hj|hj
  ·exact .inl (.inl hj)
  ·have:=X3 j hj.symm;exact .inr Om
  ·have:=X4 j hj.symm;exact .inr Om
  ·have:=X2 j hj.symm;exact .inr Om
 refine⟨gz,_,hz,by rw[h2],by rw[<-hz];exact fin,?_,hfr,hexn⟩;rw[aai h2,gy,SN,aab h5,VC];simp only[HV.bY,aae,aaX,abF,SO,hr8]
end
def DM{H e}(h:jw H e=0):e.num=(H.c9.length:Int)+1/\(gx e=.dR->H.eT≠[])/\(gx e≠.dR->fD H.now e (gx e)=0):=by
 unfold jw at h;split at h
 ·exact absurd h De
 case isFalse h1=>
 refine⟨abN.1 h1,λhk hn=>?_,λhk=>by rw[aab hk]at h;exact h⟩;rw[aai hk,hn]at h;exact absurd h De
def yO{H e}(h:dV H e=0):eA e=0/\jw H e=0:=by
 unfold dV at h;split at h
 case isTrue h1=>exact absurd h h1
 case isFalse h1=>exact⟨abN.1 h1,h⟩
theorem j8.gx{e d}(w:j8 e d):Go.Abs.gx e=d:=by rw[Go.Abs.gx,w.kd];rfl
def lq.add{H e}(w:lq H)(h:dV H e=0):lq (gy H e):=by
 obtain⟨h1,h2⟩:=yO h;obtain⟨d,we⟩:=p6 h1;obtain⟨h3,h4,h5⟩:=DM h2;have SN:=we.gx;unfold gy;split
 case isTrue hu=>
  have hl:=abV.2 (h4 hu);have e1:=w.ln;have e2:=w.le;refine⟨λR hR=>w.rg R ((List.dropLast_sublist _).mem hR),by simp[e1],?_,λx hx=>?_,λx hx=>w.cn x ((List.dropLast_sublist _).mem hx)⟩
  ·simp only[List.length_dropLast,Z1,aau];omega
  ·exact KS
 case isFalse hu=>
  have e1:=w.ln;have e2:=w.le;have hs:=h5 hu;rw[SN]at hs hu;refine⟨λR hR=>?_,by simp[e1],by simp only[Z1,aau];omega,λx hx=>?_,λx hx=>?_⟩
  ·rcases aac.1 hR with hR|hR
   ·exact w.rg R hR
   ·rw[aam]at hR;rw[hR,SN];exact w.now.step we hu hs
  ·exact KS
  ·rcases aac.1 hx with hx|hx
   ·exact w.cn x hx
   ·rw[aam]at hx;subst hx;exact⟨d,we⟩
def xM{H e}:(gy H e).c9.length=H.c9.length+1:=by
 unfold gy;split<;>simp
def J2(h:ah)(l:List cY)(v:AV)(k:ah):Prop:=
 ∃p,v=.dW [p,.i (aN l).2.1,.i (aN l).2.2]/\((aN l).2.2≠0->p=.nilPtr)/\
  ((aN l).2.2=0->∃b V,p=.ptr b 0/\cJ h.length k b V/\V.bY=(aN l).1/\lq V.bY/\V.c9.length=l.length/\l.length<=1000)
structure qj(L:List EV):Prop where
 l:L.length<=2^30
 e:∀x∈L,x.ev.names.length<=2^30/\x.ev.cw.length<=2^30
section
variable {P:Program}(T:fq P) {h:ah}
include T
def r78{L s}(o:du h L s)(sh:qj L)(gl:Gl h):ay P 78 [s] h (J2 h (L.map EV.ev)):=by
 have U5:=sh.l;refine .kM 31 T.mix T.c78 ?_;intro ts hlen t0;unfold fn78 gA;by_cases h1:1000<L.length
 ·have q1:decide ((1000:Int)<(L.length:Int))=true:=Z8 Om;refine Rs (A3 t0 o.sl.aH q1) ?_;have e:aN (L.map EV.ev)=(gO.zero,0,5):=by rw[aN,aai (by simpa using h1)]
  unfold J2;rw[e];exact⟨_,rfl,λ_=>rfl,λz=>absurd z De⟩
 have q1:decide ((1000:Int)<(L.length:Int))=false:=Z3 Om;refine Rs (A3 t0 o.sl.aH q1) ?_;have e0:aN (L.map EV.ev)=fC gO.zero (L.map EV.ev) 0:=by rw[aN,aab (by simpa using h1)]
 obtain⟨b,hb⟩:∃b,b=h.length:=⟨_,rfl⟩;rw[<-hb];refine WL.inv T.mix (λm ts h'=>∃(k:Nat) (g':ah) (V:HV),k<=L.length/\m=L.length-k/\h' =h++g'/\cJ h.length (h++g') b V/\lq V.bY/\V.c9.length=k/\aN (L.map EV.ev)=fC V.bY ((L.drop k).map EV.ev) k/\ts.length=31/\slot ts 5=.ptr b 0/\slot ts 14=s/\slot ts 15=.i L.length/\slot ts 16=.i k) L.length
  ⟨0,[ak.b [AV.af,.af,.af]],⟨[],[],[],.af,.af,.af⟩,Om,rfl,rfl,⟨Om,by rw[hb];exact ba,.nil,.nil,.nil,sG.2 ⟨λ_ _=>⟨by simp[sB],by simp[sB],by simp[sB]⟩,λ_ z=>by simp[sB]at z,λ_ z=>by simp[sB]at z⟩,(λx hx=>by cases hx),(λx hx=>by cases hx),(λx hx=>by cases hx),(λx hx=>by cases hx)⟩,lq.zero,rfl,e0,Sn,Sw,(Sq t0),Sw,ga⟩ ?_
 rintro _ ts _ ⟨k,g',V,hk,rfl,rfl,oV,wV,hVl,SM,hlen,t5,t14,t15,t16⟩;by_cases hlt:k<L.length
 ·have e3:=dN hlt;have e5:=wrapN (n:=k) Om;have ix:=o.sl.c6 (kk:=.i64) hlt;have ld:∀{k'},Ext (h++g') k'->ao (some 5) (cI s 5 k) (λb=>k'[b]?)=some (.agg (EV.row L[k]),.ar):=λ{k'} e=>o.sl.gP hlt (Ext.trans (Ext.app g' (Ext.refl h)) e)
  obtain⟨x,hx⟩:∃x,x=L[k]:=⟨_,rfl⟩;have hm:x∈L:=by rw[hx];exact aad _
  have hd:L.drop k=x::L.drop (k+1):=by rw[hx];simp
  rw[<-hx]at ld;have ox:bh (h++g') x:=(o.all x hm).ext ⟨_,rfl⟩;have st:∀{b':Nat}{a0 a1 a2 a3 a4:AV},kN 5 0 (.agg x.row) b' (.b [a0,a1,a2,a3,a4])=some (az,.set b' (.b x.row)):=λ{_ _ _ _ _ _}=>ox.st
  refine Rs (A9 t5 t14 t15 t16 e3 ix @ld @st @bR) ?_;rw[Z4 h g'];rw[hd,aaX,fC]at SM;refine WF.gen T.c112 (MQ T (B:=h) (x:=x) (by rw[<-Z4];exact oV.app _) wV Om (by rw[<-Z4];exact ox.ext Xx) ⟨by have:=(sh.e x hm).1;omega,by have:=(sh.e x hm).2;omega⟩ gl) ?_;rintro _ _ ⟨g2,V2,rfl,rfl,o2,hV2,-,-⟩;by_cases h2:dV V.bY x.ev=0
  ·have q2:decide (dV V.bY x.ev≠0)=false:=Z3 (λz=>z h2);rw[aai h2]at hV2;rw[aab (λz=>z h2)]at SM;refine Rs (A6 t5 t14 t15 t16 q2 e5) ?_;refine⟨_,Om,k+1,g2,V2,Om,rfl,rfl,o2,by rw[hV2];exact wV.add h2,?_,by rw[hV2];exact SM,rfl⟩;have:V2.bY.c9.length=V.bY.c9.length+1:=by rw[hV2];exact xM
   simpa [HV.bY,hVl]using this
  ·have q2:decide (dV V.bY x.ev≠0)=true:=Z8 h2;rw[aai h2]at SM;refine Rs (A6 t5 t14 t15 t16 q2 e5) ?_;unfold J2;rw[SM];refine⟨_,?_,λ_=>rfl,λz=>absurd z h2⟩;simp
 ·have e3:=eF hlt;have e4:k=L.length:=Om
  have Wg:aN (L.map EV.ev)=(V.bY,0,0):=by rw[SM,e4,aa2];rfl
  refine Rs (A5 t5 t14 t15 t16 e3) ?_;unfold J2;rw[Wg];exact⟨_,rfl,λz=>absurd rfl z,λ_=>⟨b,V,rfl,oV,rfl,wV,by simp;omega,by simp;omega⟩⟩
end
def jV(t:Int):Int:=bj t 0 999999999
def RU:decide ((0:Int)≠0)=false:=rfl
def iF(l:List cY)(t:Nat)(n:By):dM×Int:=if(aN l).2.2≠0 then(dM.zero,(aN l).2.2)else((aN l).1.now,bW (!dD (aN l).1.now t n) 10)
def cJ.IB{N h b V}(o:cJ N h b V):∀j,some j∈V.now.bl->N<=j:=by
 rw[HV.now,abC];cases hx:V.cM.getLast? with
 |none=>intro j hj;simp[RV.zero,RV.bl,sB]at hj
 |some R=>exact o.lo R (List.mem_of_getLast? hx)
def uL{h X:ah}{A C:ak}{j:Nat}(hj:h.length+1<=j):(h++[A]++X)[j]? =(h++[C]++X)[j]? :=by
 exact z80
section
variable {P:Program}(T:fq P) {h:ah}
include T
def r75(t:Int):ay P 75 [.i t] h (λv _=>v=.i (jV t)):=by
 refine .kM 5 T.mix T.c75 ?_;intro ts hlen t0;unfold fn75 gA;refine Rs t0 ?_;refine WF.ce T.c94 (r94 T _ _ _) λg1=>?_
 refine Rs t0 ?_;rfl
def Cs{l v k}(r:J2 h l v k)(he:(aN l).2.2≠0):v=.dW [.nilPtr,.i (aN l).2.1,.i (aN l).2.2]:=by
 have:=T.mix;obtain⟨p,rfl,h1,_⟩:=r;rw[h1 he]
def vP{l v k}(r:J2 h l v k)(he:(aN l).2.2=0):∃b V,v=.dW [.ptr b 0,.i 0,.i 0]/\cJ h.length k b V/\V.bY=(aN l).1/\lq V.bY/\V.c9.length=l.length/\l.length<=1000/\V.cM.length<=1000/\(aN l).2.1=0/\eS V.now.an/\V.now.an=(aN l).1.now/\aB k V.now/\∀j,some j∈V.now.bl->h.length<=j:=by
 have:=T.mix;obtain⟨p,rfl,_,h2⟩:=r;obtain⟨b,V,rfl,h3,h4,h5,h6,h7⟩:=h2 he;have hz:(aN l).2.1=0:=by
  revert he
  unfold aN;split
  ·intro _;rfl
  ·have key:∀(l:List cY) (H:gO) (i:Nat),(fC H l i).2.2=0->(fC H l i).2.1=0:=by
    intro l
    induction l with
    |nil=>intro H i _;rfl
    |cons e l ih=>
     intro H i;rw[fC];split
     case isTrue hb=>intro hc;exact absurd hc hb
     case isFalse hb=>exact ih _ _
   exact key l _ _
 have hr:V.cM.length<=1000:=by
  have e1:=h5.ln;have e2:=h5.le;exact KV
 exact⟨b,V,by rw[hz,he],h3,h4,h5,h6,h7,hr,hz,by rw[V.jX];exact h5.now,by rw[V.jX,h4],h3.rd.now,h3.IB⟩
def r73{L:List EV}{s:AV}(o:du h L s)(sh:qj L)(gl:Gl h){t:Nat}(ht:t<6)(n:By):ay P 73 [s,.i t,.str n] h (λv k=>∃V:RV,v=.dW [.agg V.row,.i (iF (L.map EV.ev) t n).2]/\V.an=(iF (L.map EV.ev) t n).1/\aB k V/\eS V.an):=by
 refine .nC 31 T.mix T.c73 ?_;intro ts hlen t0 t1 t2;unfold fn73 gA;refine Rs (A3 t0 t1 t2) ?_;refine WF.res T.c78 (r78 T (o.ext Xx) sh (gl.ext Xx)) ?_;intro v g hv;by_cases he:(aN (L.map EV.ev)).2.2=0
 ·obtain⟨b,V,rfl,oV,hV,wV,_,_,hr,_,wn,hn,on,lo⟩:=vP T hv he;have st:=@aB.st _ _ on;refine Rs (A4 t0 t1 t2 @RU) ?_;refine WF.ce T.c79 (r79 T (oV.rd.ext Xx) hr) λg2=>?_
  refine Rs (A5 t0 t1 t2 @st @aG) ?_;refine WF.ce T.c86 (r86 T (on.ext Xx) wn.len ht _) λg3=>?_
  refine Rs (A4 t0 t1 t2 @aG) ?_;refine WF.ce T.c85 (r85 T _ _) λg4=>?_
  refine Rs (A5 t0 t1 t2 @st @aG) ?_;refine⟨V.now,?_,?_,?_,wn⟩
  ·rw[iF,aab (λz=>z he),hn]
  ·rw[iF,aab (λz=>z he),hn]
  ·refine(on.ar (k:=h++[ak.b V.now.row]++g) λj hj=>uL (by have:=lo j hj;simpa using this)).ext Xx
 ·have Um:=Cs T hv he;subst Um;have q:decide ((aN (L.map EV.ev)).2.2≠0)=true:=Z8 he;refine Rs (A4 t0 t1 t2 q) ?_;refine⟨RV.zero,?_,?_,aB.zero,eS.zero⟩
  ·rw[iF,aai he];rfl
  ·rw[iF,aai he];rfl
def r34{L s}(o:du h L s)(sh:qj L)(gl:Gl h):ay P 34 [s] h (λv k=>∃V:RV,v=.dW [.agg V.row,.i (aN (L.map EV.ev)).2.1,.i (aN (L.map EV.ev)).2.2]/\V.an=(aN (L.map EV.ev)).1.now/\aB k V/\eS V.an):=by
 refine .kM 22 T.mix T.c34 ?_;intro ts hlen t0;unfold fn34 gA;refine Rs t0 ?_;refine WF.res T.c78 (r78 T (o.ext Xx) sh (gl.ext Xx)) ?_;intro v g hv;by_cases he:(aN (L.map EV.ev)).2.2=0
 ·obtain⟨b,V,rfl,oV,hV,wV,_,_,hr,hz,wn,hn,on,lo⟩:=vP T hv he;refine Rs (A2 t0 @RU) ?_;refine WF.ce T.c79 (r79 T (oV.rd.ext Xx) hr) λg2=>?_
  refine Rs t0 ?_;refine WF.res T.c96 (r96 T (on.ext Xx) wn) ?_;rintro _ g3 ⟨VN,hVN,rfl,own⟩;have st:∀{b':Nat}{a0 a1 a2 a3 a4 a5 a6:AV},kN 7 0 (.agg VN.row) b' (.b [a0,a1,a2,a3,a4,a5,a6])=some (az,.set b' (.b VN.row)):=λ{_ _ _ _ _ _ _ _}=>own.ok.st
  refine Rs (A3 t0 @st @aG) ?_;refine⟨VN,by rw[he,hz],by rw[hVN,hn],?_,by rw[hVN];exact wn⟩;have:=own.ok.ar (k:=h++[ak.b VN.row]++(g++g2++g3)) λj hj=>by
   have:=(own.ep hj).1;rw[show h++[ak.b [AV.int IntKind.i64 0,AV.af,AV.af,AV.af,AV.af,AV.af,AV.af]]++g++g2++g3=h++[ak.b [AV.int IntKind.i64 0,AV.af,AV.af,AV.af,AV.af,AV.af,AV.af]]++(g++g2++g3) by simp only[Z4]];exact uL (by simp only[Z1,aau]at this;omega)
  simpa only[Z4]using this
 ·have Um:=Cs T hv he;subst Um;have q:decide ((aN (L.map EV.ev)).2.2≠0)=true:=Z8 he;refine Rs (A2 t0 q) ?_;have hz:(aN (L.map EV.ev)).1=gO.zero:=by
   revert he
   unfold aN;split
   ·intro _;rfl
   ·have key:∀(l:List cY) (H:gO) (i:Nat),(fC H l i).2.2≠0->(fC H l i).1=gO.zero:=by
     intro l
     induction l with
     |nil=>intro H i z;exact absurd rfl z
     |cons e l ih=>
      intro H i;rw[fC];split
      case isTrue hb=>intro _;rfl
      case isFalse hb=>exact ih _ _
    exact key _ _ _
  exact⟨RV.zero,rfl,by rw[hz];rfl,aB.zero,eS.zero⟩
def po(l:List cY)(e:cY):Int:=
 if aQ [(aN l).2.2,eA e,bW (decide (1000<=l.length)) 5]≠0 then aQ [(aN l).2.2,eA e,bW (decide (1000<=l.length)) 5]else jw (aN l).1 e
def r48{L s}(o:du h L s)(sh:qj L)(gl:Gl h){x}(ox:bh h x)(hx:x.ev.names.length<=2^30/\x.ev.cw.length<=2^30):ay P 48 [s,.agg x.row] h (λv _=>v=.i (po (L.map EV.ev) x.ev)):=by
 refine .eX 29 T.mix T.c48 ?_;intro ts hlen t0 t1;unfold fn48 gA;have SG:=@bh.box _ _ ox;refine Rs (A3 t0 t1 @SG) ?_;refine WF.res T.c78 (r78 T (o.ext Xx) sh (gl.ext Xx)) ?_;intro v g hv;obtain⟨p,Yz⟩:∃p,v=.dW [p,.i (aN (L.map EV.ev)).2.1,.i (aN (L.map EV.ev)).2.2]:=by obtain⟨p,h1,_⟩:=hv;exact⟨p,h1⟩
 rw[Yz];refine Rs (A3 t0 t1 @bR) ?_;refine WF.ce T.c67 (r67 T (ox.ext Xx) ⟨Om,Om⟩) λg1=>?_
 refine Rs (A3 t0 t1 o.sl.aH) ?_;refine WF.ce T.c85 (r85 T _ _) λg2=>?_
 refine Rs t0 ?_;refine WF.ce T.c74 (r74 T (cg [_,_,_]) Si) λg3=>?_
 have ed:decide ((1000:Int)<=(L.length:Int))=decide (1000<=(L.map EV.ev).length):=abK.2 (by simp;omega);rw[ed];obtain⟨f,hf⟩:∃f,f=aQ [(aN (L.map EV.ev)).2.2,eA x.ev,bW (decide (1000<=(L.map EV.ev).length)) 5]:=⟨_,rfl⟩;rw[<-hf,po,<-hf];by_cases h0:f=0
 case neg=>
  have q:decide (f≠0)=true:=Z8 h0;refine Rs (A3 t0 t1 q) ?_;rw[aai h0]
 have q:decide (f≠0)=false:=Z3 (λz=>z h0);rw[aab (λz=>z h0)];rw[hf]at h0;have f3:∀a b c:Int,aQ [a,b,c]=0->a=0/\b=0:=λa b c hh=>by
  simp only[aQ]at hh;split at hh
  ·rename_i ha;split at hh
   ·rename_i hb;exact⟨ha,hb⟩
   ·rename_i hb;exact absurd hh hb
  ·rename_i ha;exact absurd hh ha
 obtain⟨he,hc⟩:=f3 _ _ _ h0;obtain⟨b,V,YA,oV,hV,wV,Wk,hle,hr,hz,wn,hn,on,lo⟩:=vP T hv he;rw[Yz]at YA;have hpb:p=.ptr b 0:=by injection YA with h1;injection h1
 obtain⟨d,wx⟩:=p6 hc;rw[hpb];refine Rs (A4 t0 t1 q @bR) ?_;refine WF.ce T.c116 (r116 T (d:=d) (oV.rd.ext Xx) wV Om (ox.ext Xx) wx (gl.ext Xx)) λg4=>?_
 refine Rs (A2 t0 t1) ?_;rw[hV]
end
def Im{l t n}(h:(iF l t n).2=0):(aN l).2.2=0/\(iF l t n).1=(aN l).1.now/\n∈GH (aN l).1.now t:=by
 unfold iF at h ⊢;split at h
 case isTrue h1=>exact absurd h h1
 case isFalse h1=>
  rw[aab h1];refine⟨abN.1 h1,rfl,?_⟩;by_cases hh:dD (aN l).1.now t n=true
  ·unfold dD at hh;exact abk hh
  ·have:dD (aN l).1.now t n=false:=by simpa using hh
   simp only[this,bW]at h;exact absurd h De
def lR(l:List cY)(n:By)(t:Int):Bool×Int:=
 if aQ [(iF l 2 n).2,jV t]≠0 then(false,aQ [(iF l 2 n).2,jV t])else(eD (iF l 2 n).1 (lQ (iF l 2 n).1 n) t,0)
def fU(l:List cY)(t:Int):List (By)×Int:=
 if aQ [(aN l).2.2,jV t]≠0 then([],aQ [(aN l).2.2,jV t])else(fK (aN l).1.now t,0)
def yF{a b}(h:aQ [a,b]=0):a=0/\b=0:=by
 simp only[aQ]at h;split at h
 ·rename_i ha;split at h
  ·rename_i hb;exact⟨ha,hb⟩
  ·rename_i hb;exact absurd h hb
 ·rename_i ha;exact absurd h ha
section
variable {P:Program}(T:fq P) {h:ah}
include T
def r16{L s}(o:du h L s)(sh:qj L)(gl:Gl h)(n:By)(t:Int):ay P 16 [s,.str n,.i t] h (λv _=>v=.dW [.bool (lR (L.map EV.ev) n t).1,.i (lR (L.map EV.ev) n t).2]):=by
 refine .nC 31 T.mix T.c16 ?_;intro ts hlen t0 t1 t2;unfold fn16 gA;refine Rs (A3 t0 t1 t2) ?_;refine WF.res T.c73 (r73 T (o.ext Xx) sh (gl.ext Xx) (t:=2) De n) ?_;rintro _ g ⟨V,rfl,hV,oV,wV⟩;have st:∀{b':Nat}{a0 a1 a2 a3 a4 a5 a6:AV},kN 7 0 (.agg V.row) b' (.b [a0,a1,a2,a3,a4,a5,a6])=some (az,.set b' (.b V.row)):=λ{_ _ _ _ _ _ _ _}=>oV.st
 refine Rs (A5 t0 t1 t2 @st @aG) ?_;refine WF.ce T.c75 (r75 T t) λg1=>?_
 refine Rs (A3 t0 t1 t2) ?_;refine WF.ce T.c74 (r74 T (cg [_,_]) Si) λg2=>?_
 obtain⟨f,hf⟩:∃f,f=aQ [(iF (L.map EV.ev) 2 n).2,jV t]:=⟨_,rfl⟩;rw[<-hf,lR,<-hf];by_cases h0:f=0
 case neg=>
  have q:decide (f≠0)=true:=Z8 h0;rw[aai h0];exact Rs (A4 t0 t1 t2 q) Tv
 have q:decide (f≠0)=false:=Z3 (λz=>z h0);rw[aab (λz=>z h0)];rw[hf]at h0;obtain⟨he,hne,hm⟩:=Im (yF h0).1;rw[<-hne,<-hV]at hm;refine Rs (A5 t0 t1 t2 q @aG) ?_;refine WF.res T.c77 (r77 T (oV.ext Xx) wV.len hm) ?_;rintro _ g3 ⟨x,hx,VQ,rfl⟩;refine Rs (A3 t0 t1 t2) ?_;refine WF.ce T.c76 (r76 T (oV.ext Xx) wV.len ((oV.e2 x hx).ext Xx) (wV.vj.sh x hx).2 (wV.vj.sh x hx).1 t) λg4=>?_
 refine Rs (A3 t0 t1 t2) ?_;rw[VQ,hV]
def r17{L s}(o:du h L s)(sh:qj L)(gl:Gl h)(t:Int):ay P 17 [s,.i t] h (λv k=>∃s',v=.dW [s',.i (fU (L.map EV.ev) t).2]/\aI k s' 1 ((fU (L.map EV.ev) t).1.map aq)):=by
 refine .eX 28 T.mix T.c17 ?_;intro ts hlen t0 t1;unfold fn17 gA;refine Rs (A2 t0 t1) ?_;refine WF.res T.c78 (r78 T (o.ext Xx) sh (gl.ext Xx)) ?_;intro v g hv;obtain⟨p,Yz⟩:∃p,v=.dW [p,.i (aN (L.map EV.ev)).2.1,.i (aN (L.map EV.ev)).2.2]:=by obtain⟨p,h1,_⟩:=hv;exact⟨p,h1⟩
 rw[Yz];refine Rs (A2 t0 t1) ?_;refine WF.ce T.c75 (r75 T t) λg1=>?_
 refine Rs (A2 t0 t1) ?_;refine WF.ce T.c74 (r74 T (cg [_,_]) Si) λg2=>?_
 obtain⟨f,hf⟩:∃f,f=aQ [(aN (L.map EV.ev)).2.2,jV t]:=⟨_,rfl⟩;rw[<-hf,fU,<-hf];by_cases h0:f=0
 case neg=>
  have q:decide (f≠0)=true:=Z8 h0;rw[aai h0];refine Rs (A3 t0 t1 q) ?_;exact⟨_,rfl,.nil⟩
 have q:decide (f≠0)=false:=Z3 (λz=>z h0);rw[aab (λz=>z h0)];rw[hf]at h0;obtain⟨b,V,YA,oV,hV,wV,Wk,hle,hr,hz,wn,hn,on,lo⟩:=vP T hv (yF h0).1;rw[Yz]at YA;have hpb:p=.ptr b 0:=by injection YA with h1;injection h1
 rw[hpb];refine Rs (A3 t0 t1 q) ?_;refine WF.ce T.c79 (r79 T (oV.rd.ext Xx) hr) λg3=>?_
 refine Rs (A2 t0 t1) ?_;refine WF.res T.c80 (r80 T (on.ext Xx) wn.len wn.vj t) ?_;rintro v4 g4 h4;refine Rs (A2 t0 t1) ?_;rw[hn]at h4;exact⟨_,rfl,h4⟩
def r219{x:jc×AV}(ox:x.2.one=true){S:List gN}{s:AV}(hs:aI h s 3 (S.map bw))(hl:S.length<2^63){b:Nat}(hb:h[b]? =some (.b [s])):
  ay P 219 [.agg (aU x),.ptr b 0] h (λv _=>v=.bool (decide (x.1.line∈S.map gN.name))):=by
 refine .eX 9 T.mix T.c219 ?_;intro ts hlen t0 t1;unfold fn219 gA;have lb:∀{k:ah}{n':Option Nat}{a:Nat},Ext h k->ao n' (.ptr b a) (λz=>k[z]?)=dG n' a (.b [s]):=λe=>aA (e.some hb)
 unfold aU at t0;refine Rs (A4 t0 t1 @ox @lb) ?_;refine WF.ce T.c142 (r142 T (hs.ext Xx) hl _) λg1=>?_
 rw[show(λy:gN=>decide (y.name=x.1.line))=λy=>decide (gN.name y=x.1.line)from rfl];refine Rs (A2 t0 t1) ?_;rw[fM]
def r126{V:RV}(o:aB h V)(w:eS V.an){p:By}(hp:p∈lK V.an):ay P 126 [.agg V.row,.str p] h (λv h'=>aI h' v 1 ((tG V.an p).map aq)):=by
 refine .eX 20 T.mix T.c126 ?_;intro ts hlen t0 t1;unfold fn126 gA;have SG:=@aB.box _ _ o;have l:=w.len;have hpc:=hP (f:=qM.name) (l:=V.an.aJ) (n:=p) (d:=Ir) hp;have hj:=(w.pc _ hpc).1;refine Rs (A4 t0 t1 @SG @aG) ?_;refine WF.ce T.c218 (r218 T (o.ext Xx) l hp) λg1=>?_
 have pj:(cD (kC V.an p))[1]? =some (.str (kC V.an p).Bt):=rfl;unfold cD;refine Rs (A3 t0 t1 @aG) ?_;refine WF.res T.c124 (r124 T (o.ext Xx) l hj) ?_;rintro _ g2 ⟨x,hx,VQ,rfl⟩;unfold bF;refine Rs (A3 t0 t1 @aG) ?_;have hin:∀x∈V.aC,x.1.bC.length<2^30:=λx hx=>by have:=(w.md x.1 (aao hx)).2.1;omega
 refine WF.res T.c122 (r122 T (o.ext Xx) l hin _) ?_;rintro v3 g3 h3;have ov:=h3.one;have hsl:(jl V.an x.1.mod).length<2^30:=by
  have h1:(jl V.an x.1.mod).length<=V.an.lines.length:=by unfold jl;exact aaF _ _
  have:=w.l0;omega
 have sn:∀{N:Nat},kN 1 0 v3 N (.b [.af])=some (az,.set N (.b [v3])):=λ{_}=>bP ov Si
 refine Rs (A6 t0 t1 @eU @dC @ov @sn) ?_;refine WF.res T.c138 (r138 T (o.i2.ext Xx) o.jL.1 (by have:=l.l2;omega) (λy=>decide (y.1.line∈(jl V.an x.1.mod).map gN.name)) (λy hy k e=>bH.of (a:=[]) T.c219 (r219 T (o.jL.1 y hy) (h3.ext (Ext.trans Xx e)) Om (e.some ba)))) ?_;rintro s4 g4 h4;have Tg:(V.aj.filter λy=>decide (y.1.line∈(jl V.an x.1.mod).map gN.name)).length<=V.aj.length:=aaF _ _;refine Rs (A2 t0 t1) ?_;refine WF.res T.c137 (r137 T h4.aY (λx hx=>o.jL.1 x ((aa6.1 hx).1)) (by have:=l.l2;omega) (λx=>x.1.name) (λx hx k e=>bH.of (a:=[]) (c:=[]) T.c140 (r140 T x (o.jL.1 x ((aa6.1 hx).1))))) ?_
 rintro s5 g5 h5;have:=h5.aY;refine Rs (A2 t0 t1) ?_;have e:tG V.an p=(V.aj.filter λy=>decide (y.1.line∈(jl V.an x.1.mod).map gN.name)).map λx=>x.1.name:=by
  rw[tG,<-VQ];simp only[RV.an,abA,abJ];rfl
 rw[e];exact this
def Fq(l:List Int):Int×Int:=
 if aQ [bW (decide (l.length=0)) 12,bW (decide (32<l.length)) 5]≠0 then(0,aQ [bW (decide (l.length=0)) 12,bW (decide (32<l.length)) 5])
 else if aQ (l.map λn=>bj n 0 999999999)≠0 then(0,aQ (l.map λn=>bj n 0 999999999))else(gE l,0)
def r93(n:Int):ay P 93 [.i n] h (λv _=>v=.i (bj n 0 999999999)):=by
 refine .kM 5 T.mix T.c93 ?_;intro ts hlen t0;unfold fn93 Ll;refine Rs t0 ?_;refine WF.ce T.c94 (r94 T _ _ _) λg1=>?_
 exact Rs t0 Tv
def r27{s l}(hs:aI h s 1 (l.map aM))(hl:l.length<2^30):ay P 27 [s] h (λv _=>v=.dW [.i (Fq l).1,.i (Fq l).2]):=by
 refine .kM 27 T.mix T.c27 ?_;intro ts hlen t0;unfold fn27 gA;refine Rs (A2 t0 hs.aH) ?_;refine WF.ce T.c85 (r85 T _ _) λg1=>?_
 refine Rs (A2 t0 hs.aH) ?_;refine WF.ce T.c85 (r85 T _ _) λg2=>?_
 refine Rs t0 ?_;refine WF.ce T.c74 (r74 T (cg [_,_]) Si) λg3=>?_
 have e1:decide ((l.length:Int)=0)=decide (l.length=0):=abK.2 Om;have e2:decide ((32:Int)<(l.length:Int))=decide (32<l.length):=abK.2 Om;rw[e1,e2];obtain⟨f,hf⟩:∃f,f=aQ [bW (decide (l.length=0)) 12,bW (decide (32<l.length)) 5]:=⟨_,rfl⟩;rw[<-hf,Fq,<-hf];by_cases h0:f=0
 case neg=>
  have q:decide (f≠0)=true:=Z8 h0;rw[aai h0];exact Rs (A2 t0 q) Tv
 have q:decide (f≠0)=false:=Z3 (λz=>z h0);rw[aab (λz=>z h0)];refine Rs (A2 t0 q) ?_;refine WF.res T.c92 (r92 T (hs.ext Xx) Om (λn=>bj n 0 999999999) (λn _ k _=>bH.of (a:=[]) (c:=[]) T.c93 (r93 T n))) ?_;rintro s4 g4 Xj;refine Rs t0 ?_;refine WF.ce T.c74 (r74 T Xj.aY (by simp;omega)) λg5=>?_
 by_cases h1:aQ (l.map λn=>bj n 0 999999999)=0
 case neg=>
  have q:decide (aQ (l.map λn=>bj n 0 999999999)≠0)=true:=Z8 h1;rw[aai h1];exact Rs (A2 t0 q) Tv
 have q1:decide (aQ (l.map λn=>bj n 0 999999999)≠0)=false:=Z3 (λz=>z h1);rw[aab (λz=>z h1)];have hb:∀n∈l,-1<=n/\n<=999999999:=λn hn=>by
  rw[qE]at h1;split at h1
  ·exact absurd h1 De
  case isFalse hh=>
   have:=iR (n:=n) (lo:=0) (hi:=999999999) λz=>hh (abx.2 ⟨n,hn,by simpa using z⟩)
   omega
 refine Rs (A2 t0 q1) ?_;refine WF.ce T.c95 (r95 T (hs.ext Xx) hl hb) λg6=>?_
 exact Rs t0 Tv
end
def zt(l:List cY)(n:By):List (By)×Int:=if(iF l 3 n).2≠0 then([],(iF l 3 n).2)else((na (iF l 3 n).1 n).map iP.name,0)
def Fk{h X:ah}{A A' R R':ak}{j:Nat}(hj:h.length+2<=j):(h++[A]++[R]++X)[j]? =(h++[A']++[R']++X)[j]? :=by
 exact z80
def F3:ai:=((fn213).body.tl).hd
def Nd:ai:=F3.tl.uJ
def QO:ai:=(fn213).body.tl.tl
def Nc:(fn213).body=.seq ((fn213).body.hd) (.seq (.seq F3.hd (.block 0 (.gg (.t 6) [7] Nd.EE Nd.D1))) QO):=rfl
section
variable {P:Program}(T:fq P) {h:ah}
include T
def r213{f:FuncId}{A:au}(hA:bT P f=some A){a c:List AV}{L:List (iP×AV)}{pre:ah->Prop}(hi:IterM P f a c (L.map λx=>[.agg (aR x)]) pre)(ho:∀x∈L,x.2.one=true)(hl:L.length<=2^30)(hp:pre h)(hpe:∀k,Ext h k->pre k):
  ay P 213 [.af,.func (.func f) a c] h (λv k=>aI k v 4 (L.map aR)):=by
 refine .of T.mix T.c213 ?_;obtain⟨ts,SH⟩:∃ts,ts=aW 13 [.af,.func (.func f) a c]:=⟨_,rfl⟩;have hlen:ts.length=13:=by rw[SH];rfl
 have t0:slot ts 0=.af:=by rw[SH];rfl
 have t1:slot ts 1=.func (.func f) a c:=by rw[SH];rfl
 show WC P bJ (fn213).body [] (aW 13 [.af,.func (.func f) a c]) h _;rw[<-SH,Nc];clear SH;obtain⟨RR,TK⟩:∃RR,RR=QO:=⟨_,rfl⟩;obtain⟨RA,YS⟩:∃RA,RA=Nd.EE:=⟨_,rfl⟩;obtain⟨RB,YR⟩:∃RB,RB=Nd.D1:=⟨_,rfl⟩;rw[<-TK,<-YS,<-YR];unfold F3 fn213 gA;simp only[ai.tl,ai.hd];refine Rs (A2 t0 t1) ?_;refine WC.iterM T.mix hA (a:=a) (c:=c) (Sq t0) hi (λy hy=>by obtain⟨z,_,rfl⟩:=aaA.1 hy;rfl)
  (λmm i h' g=>∃sl:AV,h' =h++[ak.b [sl]]/\h'.length+1<=mm/\mm<=h'.length+1+g.length/\i<=L.length/\∀R:ak,Fr mm (h'++[R]++g) sl 4 ((L.take i).map aR)) (λ_ _ _=>False)
  (λg=>⟨.af,rfl,Om,aah _,aaC _,λR=>.nil⟩)
  (λmm i h' g g' hI=>by
   obtain⟨sl,a1,a2,a3,a4,a5⟩:=hI;exact⟨sl,a1,a2,by rw[Z1];omega,a4,λR=>by rw[<-Z4];exact(a5 R).app _⟩)
  (λX=>hpe _ Xx) (λmm i h' g X SP hI=>by obtain⟨sl,rfl,_⟩:=hI;exact hpe _ Xx) (λmm i hi' h' g R B SP hI=>?_) (λe h' g SP hI=>?_)
 ·obtain⟨sl,rfl,UE,XJ,hi0,hfr⟩:=hI;have hiL:i<L.length:=by simpa using hi'
  rw[abf,YS,YR];obtain⟨x,hx⟩:∃x,x=L[i]:=⟨_,rfl⟩;have ox:=ho x (by rw[hx];exact aad _);have S9:L.take (i+1)=L.take i++[x]:=by rw[hx,aaO,Z6 hiL];rfl
  rw[<-hx];unfold Nd F3 fn213 gA;simp only[ai.tl,ai.hd,ai.uJ,ai.EE,ai.D1,setArgs,aR];refine Rs (A3 t0 t1 @ox) ?_;refine⟨_,g++[ak.b [AV.str x.1.name,.str x.1.gives,.str x.1.line,x.2]],by rw[<-Z4],SP,?_⟩;rw[<-Z4];have lb:∀{Z:ah}{n a},ao n (.ptr h.length a) (λz=>(h++[ak.b [sl]]++[B]++g++Z)[z]?)=dG n a (.b [sl]):=λ{_ _ _}=>aA ti
  have lx:∀{n a},ao n (.ptr (h++[ak.b [sl]]++[R]++g).length a) (λz=>(h++[ak.b [sl]]++[B]++g++[ak.b [AV.str x.1.name,.str x.1.gives,.str x.1.line,x.2]])[z]?)=dG n a (.b [AV.str x.1.name,.str x.1.gives,.str x.1.line,x.2]):=λ{_ _}=>by
   have:(h++[ak.b [sl]]++[R]++g).length=(h++[ak.b [sl]]++[B]++g).length:=Si
   rw[this];exact aA ba
  refine Rs (A5 t0 t1 @ox @lb @lx) ?_;obtain⟨gt,V3⟩:∃gt,gt=g.take (mm-(h.length+2)):=⟨_,rfl⟩;have X5:h.length+2<=mm/\mm<=h.length+2+g.length:=by
   simp only[Z1,Z5,Z9]at UE XJ;omega
  have hgl:gt.length=mm-(h.length+2):=by rw[V3,aaQ];omega
  have hgs:g=gt++g.drop (mm-(h.length+2)):=by rw[V3,abn]
  have h0l:(h++[ak.b [sl]]++[B]++gt).length=mm:=by
   exact Kx
  have hfs:Fr (h++[ak.b [sl]]++[B]++gt).length (h++[ak.b [sl]]++[B]++g++[ak.b [AV.str x.1.name,.str x.1.gives,.str x.1.line,x.2]]++[ak.cells [AV.str x.1.name,.str x.1.gives,.str x.1.line,x.2] true true]) sl 4 ((L.take i).map aR):=by
   rw[h0l];exact((hfr B).app _).app _
  have hext:Ext (h++[ak.b [sl]]++[B]++gt) (h++[ak.b [sl]]++[B]++g++[ak.b [AV.str x.1.name,.str x.1.gives,.str x.1.line,x.2]]++[ak.cells [AV.str x.1.name,.str x.1.gives,.str x.1.line,x.2] true true]):=by
   refine⟨g.drop (mm-(h.length+2))++[ak.b [AV.str x.1.name,.str x.1.gives,.str x.1.line,x.2]]++[ak.cells [AV.str x.1.name,.str x.1.gives,.str x.1.line,x.2] true true],?_⟩
   conv=>lhs;rw[hgs]
   simp only[Z4]
  refine WR.fg (h0:=h++[ak.b [sl]]++[B]++gt) (cs:=(L.take i).map aR) (ys:=[aR x]) hfs (Fr.push (N:=0) (aaC _) [aR x] (by simp[aR])).aY De Si (by simp only[aaa,aaQ,Z5,Z9];omega) hext ?_;intro g' hlg hff hkp;have hrow:(L.take i).map aR++[aR x]=(L.take (i+1)).map aR:=by rw[S9,aae];rfl
  rw[hrow]at hff;rw[hrow];obtain⟨sn,Tz⟩:∃sn,sn=AV.slice (h++[ak.b [sl]]++[B]++g++[ak.b [AV.str x.1.name,.str x.1.gives,.str x.1.line,x.2]]++[ak.cells [AV.str x.1.name,.str x.1.gives,.str x.1.line,x.2] true true]).length 0 ((L.take (i+1)).map aR).length 4:=⟨_,rfl⟩;rw[<-Tz]at hff ⊢;have osn:sn.one=true:=by rw[Tz];rfl
  have st:aX 1 (.ptr h.length 0) sn (λz=>(h++[ak.b [sl]]++[B]++gt++g')[z]?)=some (az,.set h.length (.b [sn])):=by
   have:(h++[ak.b [sl]]++[B]++gt++g')[h.length]? =some (.b [sl]):=ti;rw[aK this];exact bP osn Si
  refine Rs (A3 t0 t1 @st) ?_;refine⟨h++[ak.b [sn]],gt++g',by simp only[Z4],Si,λy hy=>?_,sn,rfl,by simp only[Z1,Z5,Z9];omega,?_,Om,λR'=>?_⟩
  ·have Uk:y<gt.length:=by
    simp only[Z1,Z5,Z9]at hy;omega
   rw[Z7 Uk]
   conv=>rhs;rw[hgs]
   rw[Z7 Uk]
  ·exact Kx
  ·rw[<-h0l];refine hff.aD λb hb=>?_
   have hbb:=(hff.bQ hb).1;rw[h0l]at hbb;rw[Z4 _ gt];exact Fk Om
 ·by_cases Ts:e=.normal
  case neg=>rw[aab Ts]at hI;exact hI.elim
  subst Ts;rw[aai rfl]at hI;obtain⟨mm,sl,rfl,_,_,_,hfr⟩:=hI;rw[aaa,aaI]at hfr;rw[TK];have hf:=(hfr ak.dead).aY;have lb:∀{n a},ao n (.ptr h.length a) (λz=>(h++[ak.b [sl]]++[ak.dead]++g)[z]?)=dG n a (.b [sl]):=λ{_ _}=>aA Ba
  unfold QO fn213 gA;simp only[ai.tl,ai.hd];refine Rs (A3 t0 t1 @lb) ?_;exact hf
def r118{f:FuncId}{A:au}(hA:bT P f=some A){a c:List AV}{L:List (iP×AV)}{pre:ah->Prop}(hi:IterM P f a c (L.map λx=>[.agg (aR x)]) pre)(ho:∀x∈L,x.2.one=true)(hl:L.length<=2^30)(hp:pre h)(hpe:∀k,Ext h k->pre k):
  ay P 118 [.func (.func f) a c] h (λv k=>aI k v 4 (L.map aR)):=by
 refine .kM 5 T.mix T.c118 ?_;intro ts hlen t0;unfold fn118 gA;refine Rs t0 ?_;refine WF.res T.c213 (r213 T hA hi ho hl hp hpe) ?_;rintro v g1 h1;refine Rs t0 ?_;exact h1
def r51{L:List EV}{s:AV}(o:du h L s)(sh:qj L)(gl:Gl h)(n:By):ay P 51 [s,.str n] h (λv k=>∃s',v=.dW [s',.i (zt (L.map EV.ev) n).2]/\aI k s' 1 ((zt (L.map EV.ev) n).1.map aq)):=by
 refine .eX 22 T.mix T.c51 ?_;intro ts hlen t0 t1;unfold fn51 gA;refine Rs (A2 t0 t1) ?_;refine WF.res T.c73 (r73 T (o.ext Xx) sh (gl.ext Xx) (t:=3) De n) ?_;rintro _ g ⟨V,rfl,hV,oV,wV⟩;have st:∀{b':Nat}{a0 a1 a2 a3 a4 a5 a6:AV},kN 7 0 (.agg V.row) b' (.b [a0,a1,a2,a3,a4,a5,a6])=some (az,.set b' (.b V.row)):=λ{_ _ _ _ _ _ _ _}=>oV.st
 rw[zt];by_cases h0:(iF (L.map EV.ev) 3 n).2=0
 case neg=>
  have q:decide ((iF (L.map EV.ev) 3 n).2≠0)=true:=Z8 h0;rw[aai h0];refine Rs (A4 t0 t1 @st q) ?_;exact⟨_,rfl,.nil⟩
 have q:decide ((iF (L.map EV.ev) 3 n).2≠0)=false:=Z3 (λz=>z h0);rw[aab (λz=>z h0)];refine Rs (A5 t0 t1 @st q @aG) ?_;have hin:∀x∈V.aC,x.1.bC.length<2^30:=λx hx=>by have:=(wV.md x.1 (aao hx)).2.1;omega
 have ov1:∀x∈je V n,x.2.one=true:=λx hx=>oV.jL.2.1 x (aa6.1 hx).1
 have hnl:(je V n).length<=2^30:=by
  have h1:(je V n).length<=V.aC.length:=by unfold je;exact aaF _ _
  have:=wV.len.l3;omega
 refine WF.res T.c119 (r119 T (oV.ext Xx) n) ?_;rintro _ g1 ⟨rfl,hp⟩;refine Rs (A2 t0 t1) ?_;refine WF.res T.c118 (r118 T T.c214 (a:=[]) (sg T wV.len hin n _ _) ov1 hnl hp (λk e=>qN.ext hp e)) ?_;rintro v2 g2 h2;refine Rs (A2 t0 t1) ?_;refine WF.res T.c117 (r117 T h2 ov1 Om (λx=>x.1.name) (λx hx k _=>bH.of (a:=[]) (c:=[]) T.c120 (r120 T x (ov1 x hx)))) ?_;rintro v3 g3 h3;refine Rs (A2 t0 t1) ?_;refine⟨_,rfl,?_⟩;have:=h3.aY;rw[<-hV,<-pU,abJ (g:=iP.name)];exact this
end
structure Bv(N:Nat)(h:ah)(out:AV)(x:EV):Prop where
 n:Fr N h x.sn 1 (x.ev.names.map aq)
 v:Fr N h x.sv 1 (x.ev.cw.map aM)
 dn:∀j,sB x.sn=some j->sB out≠some j
 dv:∀j,sB x.sv=some j->sB out≠some j
def Bv.ok{N h out x}(o:Bv N h out x):bh h x:=⟨o.n.aY,o.v.aY⟩
theorem Bv.app{N h out x}(o:Bv N h out x)(g:ah):Bv N (h++g) out x:=⟨o.n.app g,o.v.app g,o.dn,o.dv⟩
def fH(n:By)(e:cY):Bool:=
 match wE (gx e)with
 |none=>false
 |some 3=>true
 |some i=>decide (aL e i=n)
def rF(l:List cY):List cY:=l.mapIdx λi e=>{e with num:=(i:Int)+1}
def jJ(l:List cY)(n:By):List cY×Int:=
 if aQ [(aN l).2.2,bW (decide ((aN l).2.2=0) && !dD (aN l).1.now 0 n) 10]≠0 then([],aQ [(aN l).2.2,bW (decide ((aN l).2.2=0) && !dD (aN l).1.now 0 n) 10])
 else(rF ((aN l).1.eT.filter (fH n)),0)
section
variable {P:Program}(T:fq P) {h:ah}
include T
def r87{L s}(hs:du h L s)(hl:L.length<=2^30)(hle:∀x∈L,x.ev.names.length<=2^30/\x.ev.cw.length<=2^30):
  ay P 87 [s,.func (.func 91) [] []] h (λv h'=>∃L':List EV,L'.map EV.ev=L.map EV.ev/\Fr h.length h' v 5 (L'.map EV.row)/\∀x∈L',Bv h.length h' v x):=by
 refine .eX 22 T.mix T.c87 ?_;intro ts hlen t0 t1;unfold fn87;refine Rs (A3 t0 t1 hs.sl.aH) ?_;refine WL.inv T.mix (λn ts h'=>∃(k:Nat) (out:AV) (L':List EV) (g:ah),k<=L.length/\n=L.length-k/\h' =h++g/\L'.map EV.ev=(L.take k).map EV.ev/\Fr h.length (h++g) out 5 (L'.map EV.row)/\(∀x∈L',Bv h.length (h++g) out x)/\
   ts.length=22/\slot ts 1=.func (.func 91) [] []/\slot ts 5=out/\slot ts 8=s/\slot ts 9=.i L.length/\slot ts 10=.i k) L.length
  ⟨0,.af,[],[],Om,rfl,Si,rfl,.nil,(λx hx=>by cases hx),Sn,(Sq t1),Sw,(Sq t0),Sw,ga⟩ ?_
 rintro _ ts _ ⟨k,out,L',g,hk,rfl,rfl,hm,hfr,hin,hlen,t1,t5,t8,t9,t10⟩;have XO:L'.length=k:=by have:=aax List.length hm;simp at this;omega
 by_cases hlt:k<L.length
 ·have e3:=dN hlt;have e5:=wrapN (n:=k) Om;have ix:=hs.sl.c6 (kk:=.i64) hlt;have ld:∀{k'},Ext (h++g) k'->ao (some 5) (cI s 5 k) (λb=>k'[b]?)=some (.agg (EV.row L[k]),.ar):=λ{k'} e=>hs.sl.gP hlt (Ext.trans Xx e)
  obtain⟨x,hx⟩:∃x,x=L[k]:=⟨_,rfl⟩;have UE:x∈L:=by rw[hx];exact aad _
  have S9:L.take (k+1)=L.take k++[x]:=by rw[hx,aaO,Z6 hlt];rfl
  rw[<-hx]at ld;have ox:=hs.all x UE;have st:∀{b':Nat}{a0 a1 a2 a3 a4:AV},kN 5 0 (.agg x.row) b' (.b [a0,a1,a2,a3,a4])=some (az,.set b' (.b x.row)):=λ{_ _ _ _ _ _}=>ox.st
  refine Rs (mU t1 t5 t8 t9 t10 e3 ix @ld @st @bR) ?_;refine WF.res T.c91 (r91 T x (ox.ext Xx) ⟨by have:=(hle x UE).1;omega,by have:=(hle x UE).2;omega⟩) ?_;rintro _ g1 ⟨x',SO,rfl,fn,fv⟩;have Ys:bh (h++g++[ak.b x.row]++g1) x':=⟨by rw[SO];exact fn.aY,by rw[SO];exact fv.aY⟩;have bs:=@bh.Dt _ _ Ys;refine Rs (A6 t1 t5 t8 t9 t10 @bs) ?_;refine WR.fg (h0:=h) (cs:=L'.map EV.row) (ys:=[x'.row]) (((hfr.app _).app _).app _) (Fr.push (N:=0) (aaC _) [x'.row] (by intro y hy;rw[aam]at hy;rw[hy];rfl)).aY De Si (by simp only[aaa,Z5,Z9];omega) Xx ?_;intro g' SP hff hkp;have hrow:L'.map EV.row++[x'.row]=(L'++[x']).map EV.row:=by rw[aae];rfl
  rw[hrow]at hff;rw[hrow];obtain⟨sn,Tz⟩:∃sn,sn=AV.slice (h++g++[ak.b x.row]++g1++[ak.cells x'.row true true]).length 0 ((L'++[x']).map EV.row).length 5:=⟨_,rfl⟩;rw[<-Tz]at hff ⊢;have Vp:∀i,sB sn=some i->(h++g++[ak.b x.row]++g1).length+1=i:=λi hi=>by rw[Tz]at hi;cases hi;simp;omega
  have hout:∀b,sB out=some b->b<(h++g).length:=λb hb=>(hfr.bQ hb).2
  have kp:∀i,i<(h++g++[ak.b x.row]++g1).length->sB out≠some i->(h++g')[i]? =(h++g++[ak.b x.row]++g1)[i]? :=λi hi hne=>by
   rw[hkp i (by rw[Z1];omega) (λb0 o n e he zz=>hne (by rw[he,zz];rfl)),Z7 hi]
  refine Rs (A6 t1 t5 t8 t9 t10 e5) ?_;refine⟨_,Om,k+1,sn,L'++[x'],g',Om,rfl,rfl,?_,hff,λy hy=>?_,rfl,rfl⟩
  ·rw[aae,hm,S9,aae];simp[SO]
  ·rcases aac.1 hy with hy|hy
   ·have oy:=hin y hy;have ln:=λj (hj:sB y.sn=some j)=>(oy.n.bQ hj).2
    have lv:=λj (hj:sB y.sv=some j)=>(oy.v.bQ hj).2
    refine⟨((oy.n.app [ak.b x.row]).app g1).aD λj hj=>kp j (by have:=ln j hj;simp only[Z1]at this ⊢;omega) (oy.dn j hj),((oy.v.app [ak.b x.row]).app g1).aD λj hj=>kp j (by have:=lv j hj;simp only[Z1]at this ⊢;omega) (oy.dv j hj),λj hj e=>?_,λj hj e=>?_⟩
    ·have h1:=ln j hj;have h2:=Vp j e;simp only[Z1]at h1 h2;omega
    ·have h1:=lv j hj;have h2:=Vp j e;simp only[Z1]at h1 h2;omega
   ·rw[aam]at hy;subst hy;have ln:=λj (hj:sB y.sn=some j)=>fn.bQ hj
    have lv:=λj (hj:sB y.sv=some j)=>fv.bQ hj
    have en:(h++g++[ak.b x.row]).length=(h++g).length+1:=by rw[Z1];rfl
    rw[<-SO]at fn fv;exact Rz
 ·have e3:=eF hlt;have e4:k=L.length:=Om
  refine Rs (A6 t1 t5 t8 t9 t10 e3) ?_;rw[e4,aaI]at hm;exact⟨L',hm,hfr,hin⟩
def r240{x}(ox:bh h x){b i:Nat}(hb:h[b]? =some (.b [.i (i:Int)]))(hi:i<x.ev.names.length)(n:By):ay P 240 [.agg x.row,.str n,.ptr b 0] h (λv _=>v=.bool (decide (aL x.ev i=n))):=by
 refine .nC 13 T.mix T.c240 ?_;intro ts hlen t0 t1 t2;unfold fn240 gA;have SG:=@bh.box _ _ ox;have lb:∀{k:ah}{n':Option Nat}{a:Nat},Ext h k->ao n' (.ptr b a) (λz=>k[z]?)=dG n' a (.b [.i (i:Int)]):=λe=>aA (e.some hb)
 have ix:=ox.n.c6 (kk:=.i64) hi;have ev:aL x.ev i=x.ev.names[i]:=by rw[aL,aaN,Z6 hi];rfl
 have ld:∀{k':ah},Ext h k'->ao none (cI x.sn 1 i) (λb=>k'[b]?)=some (.str (aL x.ev i),.ar):=λ{k'} e=>by
  rw[ev];exact ox.n.lC hi rfl e
 exact Rs (A8 t0 t1 t2 @SG @lb @aS ix @ld) Tv
def r153{x}(ox:bh h x)(n:By):ay P 153 [.agg x.row,.str n] h (λv _=>v=.bool true):=by
 refine .eX 5 T.mix T.c153 ?_;intro ts hlen t0 t1;unfold fn153 gA;have SG:=@bh.box _ _ ox;exact Rs (A3 t0 t1 @SG) Tv
def r89{x d}(ox:bh h x)(wx:j8 x.ev d){b n}(hb:h[b]? =some (.b [.str n])):ay P 89 [.agg x.row,.ptr b 0] h (λv _=>v=.bool (fH n x.ev)):=by
 refine .eX 18 T.mix T.c89 ?_;intro ts hlen t0 t1;unfold fn89 gA;have SG:=@bh.box _ _ ox;have lb:∀{k:ah}{n':Option Nat}{a:Nat},Ext h k->ao n' (.ptr b a) (λz=>k[z]?)=dG n' a (.b [.str n]):=λe=>aA (e.some hb)
 refine Rs (A3 t0 t1 @SG) ?_;refine WF.res T.c90 (r90 T) ?_;rintro _ g2 ⟨vf,rfl,hk⟩;have lk:∀{z:AV},iU .s z false (.map (h++[ak.b x.row]).length) (.str x.ev.kind) (λb=>(h++[ak.b x.row]++g2)[b]?)=lX z false ((iH x.ev.kind).map vf):=hk.look;rw[wx.kd]at lk;have Tr:∀{z:AV},_=some (vf d,jd.ar):=@lk;obtain⟨rs,a,hv,hr,ha,hab⟩:=(hk.k d).ex;rw[hv]at Tr;unfold fH;rw[wx.gx];unfold yW at hab;have hnl:=wx.nl;cases SN:wE d with
 |none=>
  rw[SN]at hab;have hab:a=.nilFunc:=hab;subst hab;have en:nO true (mQ .qO .nilFunc .nilFunc)=some (.bool false):=rfl;exact Rs (A6 t0 t1 @bB @bZ @Tr @en) Tv
 |some i=>
  rw[SN]at hab;by_cases h3:i=3
  ·subst h3;have hab:a=.func (.func 153) [] []:=hab;subst hab;have en:∀{A C:List AV},nO true (mQ .qO (.func (.func 153) A C) .nilFunc)=some (.bool true):=rfl;refine Rs (A8 t0 t1 @bB @bZ @Tr @en @bR @lb) ?_;refine WF.ce T.c153 (r153 T (ox.ext Xx) n) λg3=>?_
   exact Rs t0 Tv
  ·obtain⟨b3,rfl,Vh⟩:∃b',a=.func (.func 240) [] [.ptr b' 0]/\(h++[ak.b x.row]++g2)[b']? =some (.b [.i (i:Int)]):=by
    split at hab
    ·rename_i hz;cases hz
    ·rename_i hz;cases hz;exact absurd rfl h3
    ·rename_i hz;cases hz;exact hab
   have hil:i<x.ev.names.length:=by
    rw[hnl];cases d<;>simp[wE]at SN<;>first|(subst SN;decide)|exact absurd SN.symm h3
   have en:∀{A C:List AV},nO true (mQ .qO (.func (.func 240) A C) .nilFunc)=some (.bool true):=rfl;refine Rs (A8 t0 t1 @bB @bZ @Tr @en @bR @lb) ?_;refine WF.ce T.c240 (a:=[]) (c:=[.ptr b3 0]) (r240 T (ox.ext Xx) (Ext.some Xx Vh) hil n) λg3=>?_
   exact Rs t0 Tv
def r26{L s}(o:du h L s)(sh:qj L)(gl:Gl h)(n:By):ay P 26 [s,.str n] h (λv k=>∃s' L',v=.dW [s',.i (jJ (L.map EV.ev) n).2]/\du k L' s'/\L'.map EV.ev=(jJ (L.map EV.ev) n).1):=by
 refine .eX 54 T.mix T.c26 ?_;intro ts hlen t0 t1;unfold fn26 gA;refine Rs (A2 t0 t1) ?_;refine WF.res T.c78 (r78 T (o.ext Xx) sh (gl.ext Xx)) ?_;intro v g hv;obtain⟨p,Yz⟩:∃p,v=.dW [p,.i (aN (L.map EV.ev)).2.1,.i (aN (L.map EV.ev)).2.2]:=by obtain⟨p,h1,_⟩:=hv;exact⟨p,h1⟩
 rw[Yz];by_cases he:(aN (L.map EV.ev)).2.2=0
 case neg=>
  have q:decide ((aN (L.map EV.ev)).2.2=0)=false:=Z3 he;refine Rs (A3 t0 t1 q) ?_;refine WF.ce T.c85 (r85 T _ _) λg1=>?_
  refine Rs (A2 t0 t1) ?_;refine WF.ce T.c74 (r74 T (cg [_,_]) Si) λg2=>?_
  have e1:aQ [(aN (L.map EV.ev)).2.2,bW false 10]=(aN (L.map EV.ev)).2.2:=by rw[aQ,aab he]
  have q2:decide ((aN (L.map EV.ev)).2.2≠0)=true:=Z8 he;rw[e1];refine Rs (A3 t0 t1 q2) ?_;have e2:jJ (L.map EV.ev) n=([],(aN (L.map EV.ev)).2.2):=by
   rw[jJ,q,ab0,e1,aai he]
  rw[e2];exact Kg
 obtain⟨b,V,YA,oV,hV,wV,Wk,hle,hr,hz,wn,hn,on,lo⟩:=vP T hv he;rw[Yz]at YA;have hpb:p=.ptr b 0:=by injection YA with h1;injection h1
 rw[hpb];have q:decide ((aN (L.map EV.ev)).2.2=0)=true:=Z8 he;refine Rs (A3 t0 t1 q) ?_;refine WF.ce T.c79 (r79 T (oV.rd.ext Xx) hr) λg1=>?_
 refine Rs (A3 t0 t1 @aG) ?_;refine WF.ce T.c86 (r86 T (on.ext Xx) wn.len (t:=0) De _) λg2=>?_
 refine Rs (A2 t0 t1) ?_;refine WF.ce T.c85 (r85 T _ _) λg3=>?_
 refine Rs (A2 t0 t1) ?_;refine WF.ce T.c74 (r74 T (cg [_,_]) Si) λg4=>?_
 rw[hn];rw[jJ,q,abu];obtain⟨f,hf⟩:∃f,f=aQ [(aN (L.map EV.ev)).2.2,bW (!dD (aN (L.map EV.ev)).1.now 0 n) 10]:=⟨_,rfl⟩;rw[<-hf];by_cases h0:f=0
 case neg=>
  have q:decide (f≠0)=true:=Z8 h0;rw[aai h0];refine Rs (A3 t0 t1 q) ?_;exact Kg
 have q2:decide (f≠0)=false:=Z3 (λz=>z h0);rw[aab (λz=>z h0)];obtain⟨Hs,ZX⟩:∃Hs,Hs=h++[ak.b [AV.str n]]++g++g1++g2++g3++[ak.cells [AV.i (aN (L.map EV.ev)).2.2,.i (bW (!dD (aN (L.map EV.ev)).1.now 0 n) 10)] true true]++g4:=⟨_,rfl⟩;have oH:zY Hs b V:=by rw[ZX];exact oV.rd.ext Xx
 have mn:Hs[h.length]? =some (.b [.str n]):=by rw[ZX];exact(show Ext (h++[ak.b [AV.str n]]) _ from Xx).some ba
 rw[<-ZX];have hb:=oH.hb;have lb:=@dB _ _ _ hb;have hcl:V.eT.length<=1000:=by
  have e1:=wV.le;have e2:V.bY.eT.length=V.eT.length:=by simp[HV.bY]
  have e3:V.bY.c9.length=V.c9.length:=by simp[HV.bY]
  have e4:(L.map EV.ev).length<=1000:=hle;omega
 have wc:∀x∈V.eT,∃d,j8 x.ev d:=λx hx=>wV.cn x.ev (aao hx)
 have oone:∀x∈V.eT,x.sn.one=true/\x.sv.one=true:=λx hx=>⟨(oH.ac x hx).n.one,(oH.ac x hx).v.one⟩
 refine Rs (A4 t0 t1 q2 @lb) ?_;refine WF.res T.c88 (r88 T oH.ic oone Om (λx=>fH n x.ev) (λx hx k e=>by
  obtain⟨d,wx⟩:=wc x hx;exact bH.of (a:=[]) T.c89 (r89 T ((oH.ac x hx).ext e) wx (e.some mn)))) ?_
 rintro s5 g5 h5;refine Rs (A2 t0 t1) ?_;obtain⟨F,hF⟩:∃F,F=V.eT.filter λx=>fH n x.ev:=⟨_,rfl⟩
 rw[<-hF]at h5;have hFm:∀x∈F,x∈V.eT:=λx hx=>by rw[hF]at hx;exact(aa6.1 hx).1
 have hFl:F.length<=1000:=by have:F.length<=V.eT.length:=by(rw[hF];exact aaF _ _)
                             omega
 have oF:du (Hs++g5) F s5:=⟨h5.aY,λx hx=>(oH.ac x (hFm x hx)).ext Xx⟩;refine WF.res T.c87 (r87 T oF Om (λx hx=>by
  obtain⟨d,wx⟩:=wc x (hFm x hx);have h1:=wx.nl;have h2:=wx.vl;have h3:(bN d).length<=3/\cF d<=3:=by cases d<;>decide
  omega)) ?_
 rintro s6 g6 ⟨L6,YT,f6,i6⟩;obtain⟨Hb,hHb⟩:∃Hb,Hb=Hs++g5:=⟨_,rfl⟩;rw[<-hHb]at f6 i6 ⊢;have hl6:L6.length=F.length:=by have:=aax List.length YT;simpa using this
 refine Rs (A3 t0 t1 f6.aY.aH) ?_;refine WL.inv T.mix (λm ts h'=>∃(k:Nat) (g':ah) (L':List EV),k<=L6.length/\m=L6.length-k/\h' =Hb++g'/\L'.length=L6.length/\(∀i (h1:i<L'.length) (h2:i<L6.length),(L'[i]).ev=if i<k then { (L6[i]).ev with num:=(i:Int)+1} else(L6[i]).ev)/\Fr Hb.length (Hb++g') s6 5 (L'.map EV.row)/\(∀x∈L',Bv Hb.length (Hb++g') s6 x)/\
   ts.length=54/\slot ts 10=s6/\slot ts 41=s6/\slot ts 42=.i L6.length/\slot ts 43=.i k) L6.length
  ⟨0,g6,L6,Om,rfl,rfl,rfl,λi _ _=>by rw[aab Om],f6,i6,Sn,Sw,Sw,Sw,ga⟩ ?_
 clear t0 t1 hlen lb;clear ts;rintro _ ts _ ⟨k,g',L',hk,rfl,rfl,hlL,hev,hfr,hin,hlen,t10,t41,t42,t43⟩;by_cases hlt:k<L6.length
 ·have e3:=dN hlt;have e5:=wrapN (n:=k) Om;have Th:k<L'.length:=Om
  have ix:=hfr.aY.c6 (kk:=.i64) Th;refine Rs (A7 t10 t41 t42 t43 e3 e5 ix) ?_;obtain⟨x,hx⟩:∃x,x=L'[k]:=⟨_,rfl⟩;have Ta:x∈L':=by rw[hx];exact aad _
  refine WR.vX (h0:=Hb) (x':={x with ev:={x.ev with num:=((k+1:Nat):Int) } }) hfr Th De rfl (by rw[<-hx];rfl) ?_;intro g2 hlg hff hkp;have kp:∀j,sB s6≠some j->(Hb++g2)[j]? =(Hb++g')[j]? :=λj hj=>hkp j λb0 o n e he zz=>hj (by rw[he,zz];rfl)
  have Yv:∀y:EV,Bv Hb.length (Hb++g') s6 y->Bv Hb.length (Hb++g2) s6 y:=λy oy=>⟨oy.n.aD λj hj=>kp j (oy.dn j hj),oy.v.aD λj hj=>kp j (oy.dv j hj),oy.dn,oy.dv⟩
  refine Rs (A5 t10 t41 t42 t43 e5) ?_;refine⟨_,Om,k+1,g2,L'.set k {x with ev:={x.ev with num:=((k+1:Nat):Int) } },Om,rfl,rfl,by rw[aaL];exact hlL,λi h1 h2=>?_,hff,λy hy=>?_,rfl⟩
  ·by_cases UR:i=k
   ·subst UR;simp only[abY];rw[aai Om];have:=hev i Th h2;rw[aab Om]at this;rw[hx,this];rfl
   ·simp only[acx (abo UR)];rw[hev i (by simpa using h1) h2];by_cases hil:i<k
    ·rw[aai hil,aai Om]
    ·rw[aab hil,aab Om]
  ·rcases abO hy with hy|hy
   ·exact Yv y (hin y hy)
   ·rw[hy];have:=Yv x (hin x Ta);exact⟨this.n,this.v,this.dn,this.dv⟩
 ·have e3:=eF hlt;have e4:k=L6.length:=Om
  refine Rs (A5 t10 t41 t42 t43 e3) ?_;refine⟨by rw[hHb,ZX];exact Xx,s6,L',rfl,⟨hfr.aY,λx hx=>(hin x hx).ok⟩,?_⟩;have e6:(aN (L.map EV.ev)).1.eT.filter (fH n)=L6.map EV.ev:=by
   rw[YT,hF,<-hV];show List.filter _ (V.eT.map EV.ev)=_;rw[abA];rfl
  rw[e6,rF];refine List.ext_getElem (by simp[hlL]) λi h1 h2=>?_
  have h1':i<L'.length:=by simpa using h1
  rw[abf,hev i h1' Om,aai Om,List.getElem_mapIdx,abf]
end
end Go.Abs
