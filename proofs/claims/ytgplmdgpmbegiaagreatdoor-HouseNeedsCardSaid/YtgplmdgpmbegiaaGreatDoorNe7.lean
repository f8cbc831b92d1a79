/- A part of the proof that HouseNeeds holds. No condition. -/
import Derived.Test.YtgplmdgpmbegiaaGreatDoorNe6
import Derived.Test.YtgplmdgpmbegiaaGreatDoorNe0
set_option maxHeartbeats 4000000
set_option linter.all false
open Nat (reduceAdd reduceMul reduceLeDiff reduceEqDiff)
namespace Go.Abs
theorem bh.row{h x}(o:bh h x):x.row.all AV.one=true:=by
 simp only[EV.row,DO,DN,CD,G5,o.n.one,o.v.one,Bool.and_self]
def bh.box{h x}(o:bh h x){N}:pO (.agg x.row) N=some (.ptr N 0,.push (.b x.row)):=by
 have:(AV.agg x.row).cells=x.row:=rfl;simp only[pO,this,o.row,Z1]
def nJ{x:EV}:x.row[0]? =some (.i x.ev.num):=rfl
def bA{x:EV}:x.row[1]? =some (.str x.ev.kind):=rfl
def aO{x:EV}:x.row[2]? =some x.sn:=rfl
def aY{x:EV}:x.row[3]? =some x.sv:=rfl
def yy{x:EV}:x.row[4]? =some (.str x.ev.text):=rfl
def b9{x:EV}{mu tl:Bool}:dJ (some 5) 0 (.cells x.row mu tl)=some (.agg x.row,.ay):=rfl
def mA(d:Kd):(kh d).one=true:=by cases d<;>rfl
def lS(d:Kd):(pK d).one=true:=by cases d<;>rfl
def yx{l:List (By)}:bD (l.map λs=>cA (!dQ s) 8)=if l.any (λs=>!dQ s)then 8 else 0:=by
 induction l with
 |nil=>rfl
 |cons a l ih=>
  rw[aar,bD,ih,ab1,cA];cases h:dQ a<;>simp
def qp{l:List Int}:bD (l.map λn=>bg n 0 999999999)=if l.any (λn=>decide (bg n 0 999999999≠0))then 3 else 0:=by
 induction l with
 |nil=>rfl
 |cons a l ih=>
  rw[aar,bD,ih,ab1];by_cases h:bg a 0 999999999=0
  ·simp[h]
  ·have h3:bg a 0 999999999=3:=by unfold bg at h ⊢;split<;>simp_all
   simp[h3]
def ze{n lo hi}(h:bg n lo hi≠0):bg n lo hi=3:=by unfold bg at h ⊢;split<;>simp_all
set_option maxRecDepth 10000
attribute [local irreducible] WP WC WE WB WR WF WL WG gk
section
variable {P:Program}(T:fy P) {h:ah}
include T
def r131(s:By):aA P 131 [.str s] h (λv _=>v=.i (cA (!dQ s) 8)):=by
 refine .of T.mix T.c131 ?_;unfold fn131 gA;refine Wn ?_;refine WF.ce T.c132 (r132 T s) λg1=>?_
 refine Wn ?_;refine WF.ce T.c85 (r85 T _ _) λg2=>?_
 exact Wn Tv
def r133(n:Int):aA P 133 [.i n] h (λv _=>v=.i (bg n 0 999999999)):=by
 refine .of T.mix T.c133 ?_;unfold fn133 gA;refine Wn ?_;refine WF.ce T.c94 (r94 T _ _ _) λg1=>?_
 exact Wn Tv
def r67{x:EV}(o:bh h x)(hl:x.ev.names.length<=2^40/\x.ev.cB.length<=2^40):aA P 67 [.agg x.row] h (λv _=>v=.i (gW x.ev)):=by
 refine .lB 53 T.mix T.c67 ?_;intro ts hlen t0;unfold fn67 gA;have Su:=@bh.box _ _ o;refine Rs (A3 t0 @Su @nJ) ?_;refine WF.ce T.c94 (r94 T _ _ _) λg1=>?_
 by_cases h0:bg x.ev.num 1 1000=0
 case neg=>
  have e0:decide (bg x.ev.num 1 1000≠0)=true:=ZI h0;refine Rs (A2 t0 e0) ?_;rw[gW,ZS h0];exact aai (AV.int .i64) (ze h0)
 have e0:decide (bg x.ev.num 1 1000≠0)=false:=ZD (λz=>z h0);refine Rs (A2 t0 e0) ?_;refine WF.res T.c90 (r90 T) ?_;rintro _ g2 ⟨vf,rfl,hk⟩;have lk:∀{z:AV},gZ .s z true (.map (h++[ak.b x.row]++g1).length) (.str x.ev.kind) (λb=>(h++[ak.b x.row]++g1++g2)[b]?)=lQ z true ((gU x.ev.kind).map vf):=hk.look;cases hd:gU x.ev.kind with
 |none=>
  rw[hd]at lk;have Te:∀{z:AV},_=some (AV.dL [z,.bool false],iR.ay):=@lk;refine Rs (A6 t0 @bA @bC @Te @iP @aab) ?_;rw[gW,ZN (by simpa using h0),hd]
 |some d=>
  rw[hd]at lk;have Te:∀{z:AV},_=some (AV.dL [vf d,.bool true],iR.ay):=@lk;obtain⟨rs,a,hv,hr,ha,hab⟩:=(hk.k d).ex;rw[hv]at Te;have Wp:=hr.aK;have c1:=mA d;have c2:=lS d;have c3:=hr.one;refine Rs (xJ t0 @bA @aO @aY @bC @Te @Z7 @c1 @c2 @c3 @ha @Wp o.n.aK o.v.aK) ?_;have esh:gW x.ev=if x.ev.names.length≠(bJ d).length\/x.ev.cB.length≠cD d then 2 else bD [bD (x.ev.names.map λs=>cA (!dQ s) 8),bD (x.ev.cB.map λn=>bg n 0 999999999),cA (decide (x.ev.text≠[])) 1]:=by
   rw[gW,ZN (by simpa using h0),hd,yx,qp];simp only;split
   ·rfl
   cases x.ev.names.any (λs=>!dQ s)with
   |true=>rfl
   |false=>
    cases x.ev.cB.any (λn=>decide (bg n 0 999999999≠0))with
    |true=>rfl
    |false=>by_cases ht:x.ev.text=[]<;>simp[bD,cA,ht]
  rw[esh];by_cases h1:x.ev.names.length=(bJ d).length/\x.ev.cB.length=cD d
  case neg=>
   have e1:(!(decide ((x.ev.names.length:Int)=((bJ d).length:Int))&&(decide ((x.ev.cB.length:Int)=(cD d:Int))&&true)))=true:=by
    by_cases q1:x.ev.names.length=(bJ d).length
    ·have q2:¬x.ev.cB.length=cD d:=λz=>h1 ⟨q1,z⟩
     have q3:¬(x.ev.cB.length:Int)=(cD d:Int):=Om
     simp[q3]
    ·have q3:¬(x.ev.names.length:Int)=((bJ d).length:Int):=Om
     simp[q3]
   rw[e1,ZS Om];exact Rs t0 Tv
  have e1:(!(decide ((x.ev.names.length:Int)=((bJ d).length:Int))&&(decide ((x.ev.cB.length:Int)=(cD d:Int))&&true)))=false:=by
   rw[h1.1,h1.2];simp
  rw[e1,ZN Om];refine Rs (A3 t0 @aO @aY) ?_;refine WF.res T.c130 (r130 T (o.n.ext Xx) hl.1 (λs=>cA (!dQ s) 8) (λs _ k _=>bE.of (a:=[]) (c:=[]) T.c131 (r131 T s))) ?_;rintro s6 g6 hf6;refine Rs (A3 t0 @aO @aY) ?_;refine WF.res T.c92 (r92 T (o.v.ext Xx) hl.2 (λn=>bg n 0 999999999) (λn _ k _=>bE.of (a:=[]) (c:=[]) T.c133 (r133 T n))) ?_;rintro s7 g7 hf7;refine Rs (A3 t0 @aO @aY) ?_;refine WF.ce T.c74 (r74 T (hf6.aX.ext Xx) (by simp;omega)) λg8=>?_
  refine Rs t0 ?_;refine WF.ce T.c74 (r74 T (hf7.aX.ext Xx) (by simp;omega)) λg9=>?_
  refine Rs (A2 t0 @yy) ?_;refine WF.ce T.c85 (r85 T _ _) λg10=>?_
  refine Rs t0 ?_;refine WF.ce T.c74 (r74 T (cC [_,_,_]) Si) λg11=>?_
  refine Rs t0 ?_;exact⟨Xx,trivial⟩
end
def RK:List AV:=[.str dM,.str dM,.str dM,.str mC,.str mC,.str oM,.str oM,.str oM]
def Gl(h:ah):Prop:=∃mu tl,h[0]? =some (.cells RK mu tl)
def Gl.ext{h k}(o:Gl h)(e:Ext h k):Gl k:=by obtain⟨mu,tl,h1⟩:=o;exact⟨mu,tl,e.some h1⟩
structure Cx(h:ah)(V:RV)(x:EV)(d:Kd):Prop where
 o:aD h V
 w:eD V.an
 e:bh h x
 we:jY x.ev d
 nk:sU V.an x.ev d
def Cx.nm{h V x d}(c:Cx h V x d){i:Nat}(hi:i<(bJ d).length):aZ 1 x.sn (.i (i:Int))=some (cT x.sn 1 i,.ay)/\∀{k},Ext h k->aq none (cT x.sn 1 i) (λb=>k[b]?)=some (.str (aL x.ev i),.ay):=by
 have hi':i<x.ev.names.length:=by rw[c.we.nl];exact hi
 refine⟨c.e.n.dE hi',λ{k} e=>?_⟩;have:aL x.ev i=x.ev.names[i]:=by rw[aL,aaf,ZH hi'];rfl
 rw[this];exact c.e.n.kg hi' rfl e
theorem Cx.vl{h V x d}(c:Cx h V x d){i:Nat}(hi:i<cD d):aZ 1 x.sv (.i (i:Int))=some (cT x.sv 1 i,.ay)/\(∀{k},Ext h k->aq none (cT x.sv 1 i) (λb=>k[b]?)=some (.i (bI x.ev i),.ay))/\0<=bI x.ev i/\bI x.ev i<=999999999:=by
 have hi':i<x.ev.cB.length:=by rw[c.we.vl];exact hi
 have:bI x.ev i=x.ev.cB[i]:=by rw[bI,aaf,ZH hi'];rfl
 refine⟨c.e.v.dE hi',λ{k} e=>?_,c.we.vr _ (qD hi')⟩;rw[this];exact c.e.v.kg hi' rfl e
theorem Cx.ext{h k V x d}(c:Cx h V x d)(e:Ext h k):Cx k V x d:=⟨c.o.ext e,c.w,c.e.ext e,c.we,c.nk⟩
def dR{c e l}(he:e≠0):bD (cA c e::l)=if c=true then e else bD l:=by
 cases c<;>simp[bD,cA,he]
def uv{a b c l}:bD (bg a b c::l)=if bg a b c≠0 then 3 else bD l:=by
 by_cases h:bg a b c=0
 ·simp[bD,h]
 ·simp[bD,h,ze h]
section
variable {P:Program}(T:fy P) {h:ah}
include T
def r148{V x}(c:Cx h V x .line):aA P 148 [.agg V.row,.agg x.row] h (λv _=>v=.i (bn V.an x.ev .line)):=by
 refine .eP 17 T.mix T.c148 ?_;intro ts hlen t0 t1;unfold fn148 gA;have Su:=@aD.box _ _ c.o;have hex:=@bh.box _ _ c.e;have i1:aZ 1 x.sv (.i 1)=_:=(c.vl (i:=1) De).1;have d1:=@(c.vl (i:=1) De).2.1;refine Rs (A7 t0 t1 @Su @hex @aY @i1 @d1) ?_;refine WF.ce T.c94 (r94 T _ _ _) λg1=>?_
 refine Rs (A4 t0 t1 @fR c.o.i0.aK) ?_;refine WF.ce T.c85 (r85 T _ _) λg2=>?_
 refine Rs (A2 t0 t1) ?_;refine WF.ce T.c74 (r74 T (cC [_,_]) Si) λg3=>?_
 refine Rs (A2 t0 t1) ?_;rw[uv,dR De,bn];congr 2;simp only[aah,bD];congr 1;exact propext ⟨λz=>(by have:V.an.lines.length=V.lines.length:=rfl;omega),λz=>(by have:V.an.lines.length=V.lines.length:=rfl;omega)⟩
def r151{V x}(c:Cx h V x .tape):aA P 151 [.agg V.row,.agg x.row] h (λv _=>v=.i (bn V.an x.ev .tape)):=by
 refine .eP 23 T.mix T.c151 ?_;intro ts hlen t0 t1;unfold fn151;have Su:=@aD.box _ _ c.o;have hex:=@bh.box _ _ c.e;have i0:aZ 1 x.sv (.i 0)=_:=(c.vl (i:=0) De).1;have d0:=@(c.vl (i:=0) De).2.1;have i1:aZ 1 x.sv (.i 1)=_:=(c.vl (i:=1) De).1;have d1:=@(c.vl (i:=1) De).2.1;have q0:=(c.vl (i:=0) De).2.2;have q1:=(c.vl (i:=1) De).2.2;have hw:IntKind.i64.wrap (bI x.ev 0+bI x.ev 1)=bI x.ev 0+bI x.ev 1:=bj Om Om;refine Rs (na t0 t1 @Su @hex @aY @i0 @d0 @i1 @d1 @hw) ?_;refine WF.ce T.c85 (r85 T _ _) λg1=>?_
 refine Rs (A4 t0 t1 @lJ c.o.i1.aK) ?_;refine WF.ce T.c85 (r85 T _ _) λg2=>?_
 refine Rs (A2 t0 t1) ?_;refine WF.ce T.c74 (r74 T (cC [_,_]) Si) λg3=>?_
 refine Rs (A2 t0 t1) ?_;rw[dR De,dR De,bn];congr 1;simp only[aah,bD];have e:((16:Int)<=(V.aG.length:Int))=(16<=V.an.aG.length):=propext ⟨λz=>(by have:V.an.aG.length=V.aG.length:=rfl;omega),λz=>(by have:V.an.aG.length=V.aG.length:=rfl;omega)⟩;simp only[e]
def r241{V x n d}(c:Cx h V x d)(hd:0<cD d)(hn:n∈jT V.an):aA P 241 [.agg V.row,.agg x.row,.str n] h (λv _=>v=.i (cA (!jJ V.an (bI x.ev 0) n) 30)):=by
 refine .nW 17 T.mix T.c241 ?_;intro ts hlen t0 t1 t2;unfold fn241 gA;have Su:=@aD.box _ _ c.o;have hex:=@bh.box _ _ c.e;have i0:aZ 1 x.sv (.i 0)=_:=(c.vl (i:=0) hd).1;have d0:=@(c.vl (i:=0) hd).2.1;refine Rs (A6 t0 t1 t2 @Su @hex @aF) ?_;refine WF.ce T.c134 (r134 T (c.o.ext Xx) c.w.len hn) λg1=>?_
 refine Rs (A6 t0 t1 t2 @aY @i0 @d0) ?_;refine WF.ce T.c135 (r135 T _ _) λg2=>?_
 refine Rs (A3 t0 t1 t2) ?_;refine WF.ce T.c85 (r85 T _ _) λg3=>?_
 refine Rs (A3 t0 t1 t2) ?_;rfl
def r155{V x}(c:Cx h V x .gp):aA P 155 [.agg V.row,.agg x.row] h (λv _=>v=.i (bn V.an x.ev .gp)):=by
 refine .eP 27 T.mix T.c155 ?_;intro ts hlen t0 t1;unfold fn155;have Su:=@aD.box _ _ c.o;have hex:=@bh.box _ _ c.e;have i1:aZ 1 x.sn (.i 1)=_:=(c.nm (i:=1) De).1;have d1:=@(c.nm (i:=1) De).2;have i2:aZ 1 x.sn (.i 2)=_:=(c.nm (i:=2) De).1;have d2:=@(c.nm (i:=2) De).2;have k1:aL x.ev 1∈gq V.an:=c.nk.kn 1 0 rfl;have k2:aL x.ev 2∈jT V.an:=c.nk.kn 2 1 rfl;refine Rs (A8 t0 t1 @Su @hex @aF @aO @i1 @d1) ?_;refine WF.ce T.c205 (r205 T (c.o.ext Xx) c.w.len k1) λg1=>?_
 unfold bV;refine Rs (A2 t0 t1) ?_;refine WF.ce T.c85 (r85 T _ _) λg2=>?_
 refine Rs (A7 t0 t1 @aF @b9 @aO @i2 @d2) ?_;refine WF.ce T.c241 (r241 T (c.ext Xx) De k2) λg3=>?_
 refine Rs (A4 t0 t1 @fB c.o.i2.aK) ?_;refine WF.ce T.c85 (r85 T _ _) λg4=>?_
 refine Rs (A2 t0 t1) ?_;refine WF.ce T.c74 (r74 T (cC [_,_,_]) Si) λg5=>?_
 refine Rs (A2 t0 t1) ?_;rw[dR De,dR De,dR De,bn];simp only[aah,bD];have e:((64:Int)<=(V.aj.length:Int))=(64<=V.an.aj.length):=by
  have:V.an.aj.length=V.aj.length:=by simp[RV.an]
  exact HP
 simp only[e]
end
def BT{R a b}(ha:a∈jT R)(hb:b∈jT R):(decide ((jH R a).name=(jH R b).name)&&(decide ((jH R a).last=(jH R b).last)&&true))=decide (a=b):=by
 have e1:(jH R a).name=a:=fi ha;have e2:(jH R b).name=b:=fi hb;by_cases h:a=b
 ·subst h;simp
 ·rw[e1,e2];simp[h]
section
variable {P:Program}(T:fy P) {h:ah}
include T
def r157{V x}(c:Cx h V x .copy):aA P 157 [.agg V.row,.agg x.row] h (λv _=>v=.i (bn V.an x.ev .copy)):=by
 refine .eP 35 T.mix T.c157 ?_;intro ts hlen t0 t1;unfold fn157;have Su:=@aD.box _ _ c.o;have hex:=@bh.box _ _ c.e;have i0:aZ 1 x.sn (.i 0)=_:=(c.nm (i:=0) De).1;have d0:=@(c.nm (i:=0) De).2;have i1:aZ 1 x.sn (.i 1)=_:=(c.nm (i:=1) De).1;have d1:=@(c.nm (i:=1) De).2;have k0:aL x.ev 0∈jT V.an:=c.nk.kn 0 1 rfl;have k1:aL x.ev 1∈jT V.an:=c.nk.kn 1 1 rfl;refine Rs (A8 t0 t1 @Su @hex @aF @aO @i0 @d0) ?_;refine WF.ce T.c134 (r134 T (c.o.ext Xx) c.w.len k0) λg1=>?_
 refine Rs (A6 t0 t1 @aF @aO @i1 @d1) ?_;refine WF.ce T.c134 (r134 T (c.o.ext Xx) c.w.len k1) λg2=>?_
 unfold dY;refine Rs (A2 t0 t1) ?_;refine WF.ce T.c85 (r85 T _ _) λg3=>?_
 rw[BT k0 k1];have n0:(jH V.an (aL x.ev 0)).name=aL x.ev 0:=fi k0;have n1:(jH V.an (aL x.ev 1)).name=aL x.ev 1:=fi k1;refine Rs (A6 t0 t1 @aF @b9 @n0 @n1) ?_;refine WF.ce T.c241 (r241 T (c.ext Xx) De k0) λg4=>?_
 refine Rs (A6 t0 t1 @aF @b9 @n0 @n1) ?_;refine WF.ce T.c241 (r241 T (c.ext Xx) De k1) λg5=>?_
 refine Rs (A2 t0 t1) ?_;refine WF.ce T.c74 (r74 T (cC [_,_,_]) Si) λg6=>?_
 refine Rs (A2 t0 t1) ?_;rw[dR De,dR De,dR De,bn];simp only[aah,bD];exact⟨Xx,trivial⟩
def r161{V x}(o:aD h V)(e:bh h x):aA P 161 [.agg V.row,.agg x.row] h (λv _=>v=.i (cA (decide (32<=V.an.ar.length)) 5)):=by
 refine .eP 10 T.mix T.c161 ?_;intro ts hlen t0 t1;unfold fn161 gA;have Su:=@aD.box _ _ o;have hex:=@bh.box _ _ e;refine Rs (A6 t0 t1 @Su @hex @fx o.i3.aK) ?_;refine WF.ce T.c85 (r85 T _ _) λg1=>?_
 refine Rs (A2 t0 t1) ?_;have e:decide ((32:Int)<=(V.ar.length:Int))=decide (32<=V.an.ar.length):=by
  have:V.an.ar.length=V.ar.length:=by simp[RV.an]
  rw[abd];omega
 rw[e]
def r244{V x d}(c:Cx h V x d)(hd:0<cD d){y}(hm:y∈V.aj){b b'}(hb:h[b]? =some (.b V.row))(hb':h[b']? =some (.b x.row)):
  aA P 244 [.agg (bf y),.ptr b 0,.ptr b' 0] h (λv _=>v=.bool (!gX V.an y.1 (bI x.ev 0))):=by
 refine .nW 13 T.mix T.c244 ?_;intro ts hlen t0 t1 t2;unfold fn244 gA;have oy:=(c.o.e2 y hm).one;have lb:∀{k:ah}{n:Option Nat}{a:Nat},Ext h k->aq n (.ptr b a) (λz=>k[z]?)=dJ n a (.b V.row):=λe=>aB (e.some hb)
 have lc:∀{k:ah}{n:Option Nat}{a:Nat},Ext h k->aq n (.ptr b' a) (λz=>k[z]?)=dJ n a (.b x.row):=λe=>aB (e.some hb')
 have i0:aZ 1 x.sv (.i 0)=_:=(c.vl (i:=0) hd).1;have d0:=@(c.vl (i:=0) hd).2.1;have hsf:=λ(k:ah) (e:Ext h k)=>r76 T (c.o.ext e) c.w.len ((c.o.e2 y hm).ext e) (c.w.zB.sh y hm).2 (c.w.zB.sh y hm).1 (bI x.ev 0)
 unfold bf at t0 hsf;refine Rs (na t0 t1 t2 @oy @lb @lc @aF @aY @i0 @d0) ?_;refine WF.ce T.c76 (hsf _ Xx) λg1=>?_
 exact GO
def r159{V x}(c:Cx h V x .accept):aA P 159 [.agg V.row,.agg x.row] h (λv _=>v=.i (bn V.an x.ev .accept)):=by
 refine .eP 36 T.mix T.c159 ?_;intro ts hlen t0 t1;unfold fn159;have Su:=@aD.box _ _ c.o;have hex:=@bh.box _ _ c.e;have i0:aZ 1 x.sn (.i 0)=_:=(c.nm (i:=0) De).1;have d0:=@(c.nm (i:=0) De).2;have k0:aL x.ev 0∈gq V.an:=c.nk.kn 0 0 rfl;refine Rs (A8 t0 t1 @Su @hex @aF @aO @i0 @d0) ?_;refine WF.ce T.c205 (r205 T (c.o.ext Xx) c.w.len k0) λg1=>?_
 unfold bV;refine Rs (A6 t0 t1 @aF @aO @i0 @d0) ?_;refine WF.res T.c206 (r206 T (c.o.ext Xx) c.w.len _) ?_;rintro s2 g2 Tb;refine Rs (A2 t0 t1) ?_;have hin:∀y∈V.aj.filter (λy=>decide (y.1.line=aL x.ev 0)),y∈V.aj:=λy hy=>(aaq.1 hy).1
 have S4:(V.aj.filter (λy=>decide (y.1.line=aL x.ev 0))).length<=V.aj.length:=aaj _ _;have UL:=c.w.len.l2;refine WF.res T.c243 (r243 T (Tb.ext Xx) Om (λy=>!gX V.an y.1 (bI x.ev 0)) (λy hy k e=>bE.of (a:=[]) (c:=[.ptr h.length 0,.ptr (h++[ak.b V.row]).length 0]) T.c244 (r244 T (c.ext (Ext.trans Xx e)) De (hin y hy) (e.some ?_) (e.some ?_)))) ?_
 ·exact uA
 ·exact sR
 rintro _ g3 rfl;refine Rs (A2 t0 t1) ?_;refine WF.ce T.c85 (r85 T _ _) λg4=>?_
 have hl2:=Tb.aK;refine Rs (A3 t0 t1 @hl2) ?_;refine WF.ce T.c85 (r85 T _ _) λg5=>?_
 refine Rs (A2 t0 t1) ?_;refine WF.ce T.c85 (r85 T _ _) λg6=>?_
 refine Rs (A2 t0 t1) ?_;refine WF.ce T.c74 (r74 T (cC [_,_,_]) Si) λg7=>?_
 refine Rs (A2 t0 t1) ?_;rw[dR De,dR De,dR De,bn];have e1:(rC V.an (aL x.ev 0))=(V.aj.filter (λy=>decide (y.1.line=aL x.ev 0))).map Prod.fst:=by
  show List.filter _ (List.map Prod.fst V.aj)=_;rw[abw];rfl
 rw[e1,ZL,List.any_map];simp only[aah,bD];refine⟨Xx,?_⟩;rfl
def r163{V x}(c:Cx h V x .gg)(gl:Gl h):aA P 163 [.agg V.row,.agg x.row] h (λv _=>v=.i (bn V.an x.ev .gg)):=by
 refine .eP 35 T.mix T.c163 ?_;intro ts hlen t0 t1;unfold fn163;have Su:=@aD.box _ _ c.o;have hex:=@bh.box _ _ c.e;have i1:aZ 1 x.sn (.i 1)=_:=(c.nm (i:=1) De).1;have d1:=@(c.nm (i:=1) De).2;have j1:aZ 1 x.sv (.i 1)=_:=(c.vl (i:=1) De).1;have f1:=@(c.vl (i:=1) De).2.1;have k1:aL x.ev 1∈fL V.an:=c.nk.kn 1 3 rfl;obtain⟨gmu,gtl,hg0⟩:=gl;rw[bn];by_cases hn:1<=bI x.ev 1/\bI x.ev 1<=4
 case neg=>
  have hr:bg (bI x.ev 1) 1 4≠0:=by unfold bg;rw[ZS Om];decide
  rw[ZS hr];by_cases ha:bI x.ev 1<1
  ·have q1:decide (bI x.ev 1<1)=true:=ZI ha;exact Rs (A8 t0 t1 @Su @hex @aY @j1 @f1 q1) Tv
  ·have q1:decide (bI x.ev 1<1)=false:=ZD ha;have q2:decide (4<bI x.ev 1)=true:=ZI Om;exact Rs (A9 t0 t1 @Su @hex @aY @j1 @f1 q1 q2) Tv
 have hr:¬bg (bI x.ev 1) 1 4≠0:=by unfold bg;rw[ZN Om];decide
 rw[ZN hr];have q1:decide (bI x.ev 1<1)=false:=ZD Om;have q2:decide (4<bI x.ev 1)=false:=ZD Om;have hw:IntKind.i64.wrap (bI x.ev 1-1)=bI x.ev 1-1:=bj Om Om;have a1:mS 4 2 (.ptr 0 0) (.i (bI x.ev 1-1))=some (.ptr 0 ((bI x.ev 1-1).toNat*2)):=by simp only[mS];rw[ZS Om,aau]
 have a2:mS 2 1 (.ptr 0 ((bI x.ev 1-1).toNat*2)) (.i 0)=some (.ptr 0 ((bI x.ev 1-1).toNat*2)):=by simp[mS]
 have lg:∀{k:ah},Ext h k->aq none (.ptr 0 ((bI x.ev 1-1).toNat*2)) (λb=>k[b]?)=some (.str (ng (bI x.ev 1)),.ay):=by
  intro k e;exact Rc
 refine Rs (Ad t0 t1 @Su @hex @aO @aY @j1 @f1 q1 q2 @aF @i1 @d1) ?_;refine WF.res T.c245 (r245 T (c.o.ext Xx) c.w.len k1) ?_;rintro _ g1 ⟨y,hy,V5,rfl⟩;unfold aP;refine Rs (A6 t0 t1 @hw @a1 @a2 @lg) ?_;refine WF.ce T.c85 (r85 T _ _) λg2=>?_
 refine Rs (A4 t0 t1 @aF @b9) ?_;refine WF.ce T.c161 (r161 T (c.o.ext Xx) (c.e.ext Xx)) λg3=>?_
 refine Rs (A2 t0 t1) ?_;refine WF.ce T.c74 (r74 T (cC [_,_]) Si) λg4=>?_
 refine Rs (A2 t0 t1) ?_;rw[dR De,dR De,V5];simp only[aah,bD]
def r165{V x}(c:Cx h V x .merge):aA P 165 [.agg V.row,.agg x.row] h (λv _=>v=.i (bn V.an x.ev .merge)):=by
 refine .eP 36 T.mix T.c165 ?_;intro ts hlen t0 t1;unfold fn165;have Su:=@aD.box _ _ c.o;have hex:=@bh.box _ _ c.e;have i1:aZ 1 x.sn (.i 1)=_:=(c.nm (i:=1) De).1;have d1:=@(c.nm (i:=1) De).2;have i2:aZ 1 x.sn (.i 2)=_:=(c.nm (i:=2) De).1;have d2:=@(c.nm (i:=2) De).2;have k1:aL x.ev 1∈fL V.an:=c.nk.kn 1 3 rfl;have k2:aL x.ev 2∈fL V.an:=c.nk.kn 2 3 rfl;refine Rs (A9 t0 t1 @Su @hex @aO @i1 @d1 @i2 @d2) ?_;refine WF.ce T.c85 (r85 T _ _) λg1=>?_
 refine Rs (A6 t0 t1 @aF @aO @i1 @d1) ?_;refine WF.res T.c245 (r245 T (c.o.ext Xx) c.w.len k1) ?_;rintro _ g2 ⟨y,hy,V5,rfl⟩;unfold aP;refine Rs (A6 t0 t1 @aF @aO @i2 @d2) ?_;refine WF.res T.c245 (r245 T (c.o.ext Xx) c.w.len k2) ?_;rintro _ g3 ⟨z,hz,hz1,rfl⟩;unfold aP;refine Rs (A2 t0 t1) ?_;refine WF.ce T.c85 (r85 T _ _) λg4=>?_
 refine Rs (A4 t0 t1 @aF @b9) ?_;refine WF.ce T.c161 (r161 T (c.o.ext Xx) (c.e.ext Xx)) λg5=>?_
 refine Rs (A2 t0 t1) ?_;refine WF.ce T.c74 (r74 T (cC [_,_,_]) Si) λg6=>?_
 refine Rs (A2 t0 t1) ?_;rw[dR De,dR De,dR De,bn,V5,hz1];simp only[aah,bD]
def r247(y:dX):aA P 247 [.agg (bV y)] h (λv _=>v=.bool (!y.acc)):=by
 refine .of T.mix T.c247 ?_;unfold fn247 gA bV;exact Wn Tv
def r167{V x}(c:Cx h V x .run):aA P 167 [.agg V.row,.agg x.row] h (λv _=>v=.i (bn V.an x.ev .run)):=by
 refine .eP 27 T.mix T.c167 ?_;intro ts hlen t0 t1;unfold fn167 gA;have Su:=@aD.box _ _ c.o;have hex:=@bh.box _ _ c.e;have i1:aZ 1 x.sn (.i 1)=_:=(c.nm (i:=1) De).1;have d1:=@(c.nm (i:=1) De).2;have j1:aZ 1 x.sv (.i 1)=_:=(c.vl (i:=1) De).1;have f1:=@(c.vl (i:=1) De).2.1;have hin:∀y∈V.ar,y.1.aI.length<2^30:=λy hy=>by have:=(c.w.md y.1 (ZT hy)).2.1;omega
 refine Rs (A8 t0 t1 @Su @hex @aF @aO @i1 @d1) ?_;refine WF.res T.c122 (r122 T (c.o.ext Xx) c.w.len hin _) ?_;rintro s1 g1 Um;have hsl:(dV V.an (aL x.ev 1)).length<=V.lines.length:=aaj _ _;have UL:=c.w.len.l0;refine Rs (A2 t0 t1) ?_;refine WF.ce T.c246 (r246 T Um Om (λy=>!y.acc) (λy hy k e=>bE.of (a:=[]) (c:=[]) T.c247 (r247 T y))) λg2=>?_
 refine Rs (A2 t0 t1) ?_;refine WF.ce T.c85 (r85 T _ _) λg3=>?_
 refine Rs (A5 t0 t1 @aY @j1 @f1) ?_;refine WF.ce T.c94 (r94 T _ _ _) λg4=>?_
 refine Rs (A4 t0 t1 @ga c.o.i4.aK) ?_;refine WF.ce T.c85 (r85 T _ _) λg5=>?_
 refine Rs (A2 t0 t1) ?_;refine WF.ce T.c74 (r74 T (cC [_,_,_]) Si) λg6=>?_
 refine Rs (A2 t0 t1) ?_;rw[dR De,uv,dR De,bn];simp only[aah,bD];have e:((16:Int)<=(V.aE.length:Int))=(16<=V.an.aE.length):=by
  have:V.an.aE.length=V.aE.length:=by simp[RV.an]
  exact HP
 simp only[e]
end
theorem tB:∀{l m}{i},cI (l++m) i=cI l i++cI m (i+l.length)
 |[],m,i=>by simp[cI]
 |x::l,m,i=>by
  have e:i+1+l.length=i+(x::l).length:=by simp;omega
  rw[aaS,cI,cI,tB,e];split<;>simp
theorem ke:∀{l}{i},(cI l i).length<=l.length
 |[],i=>by simp[cI]
 |x::l,i=>by
  have:=ke (l:=l) (i:=i+1);rw[cI];split<;>simp<;>omega
section
variable {P:Program}(T:fy P) {h:ah}
include T
def r125{x}(hx:aH h x.2 1 (x.1.bd.map aM))(hl:x.1.bd.length<2^30)(hs:∀s∈x.1.bd,-1<=s):aA P 125 [.agg (bK x)] h (λv h'=>aH h' v 1 ((cI x.1.bd 0).map aM)):=by
 refine .lB 23 T.mix T.c125 ?_;intro ts hlen t0;unfold fn125 gA;have ox:=hx.one;unfold bK at t0;refine Rs (A3 t0 @ox hx.aK) ?_;obtain⟨H0,WU⟩:∃H0,H0=h++[ak.b [AV.str x.1.name,.str x.1.mod,x.2]]:=⟨_,rfl⟩;have e0:Ext h H0:=by rw[WU];exact Xx
 have lb:∀{k n a},Ext H0 k->aq n (.ptr h.length a) (λz=>k[z]?)=dJ n a (.b [AV.str x.1.name,.str x.1.mod,x.2]):=λ{_ _ _} e=>aB (e.some (by rw[WU];exact aV))
 rw[<-WU];refine WL.inv T.mix (λn ts h'=>∃(k:Nat) (out:AV),k<=x.1.bd.length/\n=x.1.bd.length-k/\Ext H0 h'/\Fr H0.length h' out 1 ((cI (x.1.bd.take k) 0).map aM)/\
   ts.length=23/\slot ts 1=.ptr h.length 0/\slot ts 3=out/\slot ts 7=.i x.1.bd.length/\slot ts 8=.i k) x.1.bd.length
  ⟨0,.af,Om,rfl,Ext.refl _,.nil,Sn,(Sq t0),(Sq t0),(Sq t0),gP⟩ ?_
 rintro _ ts _ ⟨k,out,hk',rfl,⟨g,rfl⟩,hfr,hlen,t1,t3,t7,t8⟩;by_cases hlt:k<x.1.bd.length
 ·have e3:=eC hlt;have ix:=hx.dE (kk:=.i64) hlt;have ld:∀{k':ah},Ext H0 k'->aq none (cT x.2 1 k) (λb=>k'[b]?)=some (.i x.1.bd[k],.ay):=λ{k'} e=>hx.kg hlt rfl (e0.trans e)
  have e5:=wrapN (n:=k) Om;have SU:cI (x.1.bd.take (k+1)) 0=cI (x.1.bd.take k) 0++(if x.1.bd[k]<0 then [(k:Int)]else []):=by
   exact Rb
  have hsk:=hs _ (ZR hlt);by_cases hn:x.1.bd[k]= -1
  ·have q:decide (x.1.bd[k]= -1)=true:=ZI hn;rw[ZS Om]at SU;refine Rs (A9 t1 t3 t7 t8 e3 @lb ix @ld q) ?_;have UL:=ke (l:=x.1.bd.take k) (i:=0);refine WR.fZ (h0:=H0) (cs:=(cI (x.1.bd.take k) 0).map aM) (ys:=[aM (k:Int)]) (hfr.app _) (Fr.push (N:=0) (aac _) [aM (k:Int)] Si).aX De Si (by simp only[ZL,aaB,ZG,ZJ]at UL ⊢;omega) Xx ?_;intro g' SI hff hkp;have hrow:(cI (x.1.bd.take k) 0).map aM++[aM (k:Int)]=(cI (x.1.bd.take (k+1)) 0).map aM:=by rw[SU,ZM];rfl
   rw[hrow]at hff;rw[hrow];refine Rs (A5 t1 t3 t7 t8 e5) ?_;exact z49
  ·have q:decide (x.1.bd[k]= -1)=false:=ZD hn;rw[ZN Om,Z6]at SU;rw[<-SU]at hfr;refine Rs (na t1 t3 t7 t8 e3 @lb ix @ld q e5) ?_;exact⟨_,Om,k+1,_,Om,rfl,hfr,rfl,rfl⟩
 ·have e3:=ff hlt;have e4:k=x.1.bd.length:=Om
  rw[e4,aam]at hfr;have:=hfr.aX;refine Rs (A5 t1 t3 t7 t8 e3) ?_;exact⟨e0.trans Xx,this⟩
def r249{V x d}(c:Cx h V x d)(hd:1<cD d)(h0:0<(bJ d).length)(k0:aL x.ev 0∈iA V.an):aA P 249 [.agg V.row,.agg x.row] h (λv _=>v=.i (jz V.an x.ev)):=by
 refine .eP 28 T.mix T.c249 ?_;intro ts hlen t0 t1;unfold fn249;have Su:=@aD.box _ _ c.o;have hex:=@bh.box _ _ c.e;have i0:aZ 1 x.sn (.i 0)=_:=(c.nm (i:=0) h0).1;have d0:=@(c.nm (i:=0) h0).2;have j1:aZ 1 x.sv (.i 1)=_:=(c.vl (i:=1) hd).1;have f1:=@(c.vl (i:=1) hd).2.1;have q1:=(c.vl (i:=1) hd).2.2;refine Rs (A8 t0 t1 @Su @hex @aF @aO @i0 @d0) ?_;refine WF.ce T.c251 (r251 T (c.o.ext Xx) c.w.len _) λg1=>?_
 refine Rs (A2 t0 t1) ?_;refine WF.ce T.c85 (r85 T _ _) λg2=>?_
 refine Rs (A9 t0 t1 @aY @j1 @f1 @aF @aO @i0 @d0) ?_;refine WF.res T.c124 (r124 T (c.o.ext Xx) c.w.len k0) ?_;rintro _ g3 ⟨y,hy,V5,rfl⟩;have Uf:=(c.o.e4 y hy).aK;have Vo:=(c.w.jb y.1 (ZT hy)).2;have hw:IntKind.i64.wrap ((y.1.bd.length:Int)-1)=(y.1.bd.length:Int)-1:=bj Om Om;unfold bK;refine Rs (A4 t0 t1 @Uf @hw) ?_;refine WF.ce T.c94 (r94 T _ _ _) λg4=>?_
 refine Rs (A2 t0 t1) ?_;refine WF.ce T.c74 (r74 T (cC [_,_]) Si) λg5=>?_
 refine Rs (A2 t0 t1) ?_;rw[dR De,uv,jz,<-V5];have e:(bg (bI x.ev 1) 0 ((y.1.bd.length:Int)-1)≠0)=((y.1.bd.length:Int)<=bI x.ev 1):=by
  unfold bg;refine propext ⟨λz=>?_,λz=>?_⟩
  ·split at z
   ·omega
   ·exact absurd rfl z
  ·rw[ZS Om];decide
 simp only[e,bD]
def r169{V x}(c:Cx h V x .fT):aA P 169 [.agg V.row,.agg x.row] h (λv _=>v=.i (bn V.an x.ev .fT)):=by
 refine .eP 27 T.mix T.c169 ?_;intro ts hlen t0 t1;unfold fn169 gA;have Su:=@aD.box _ _ c.o;have hex:=@bh.box _ _ c.e;have i0:aZ 1 x.sn (.i 0)=_:=(c.nm (i:=0) De).1;have d0:=@(c.nm (i:=0) De).2;have j1:aZ 1 x.sv (.i 1)=_:=(c.vl (i:=1) De).1;have f1:=@(c.vl (i:=1) De).2.1;have q1:=(c.vl (i:=1) De).2.2;have k0:aL x.ev 0∈iA V.an:=c.nk.kn 0 4 rfl;refine Rs (A6 t0 t1 @Su @hex @aF @b9) ?_;refine WF.ce T.c249 (r249 T (c.ext Xx) De De k0) λg1=>?_
 by_cases hb:jz V.an x.ev=0
 case neg=>
  exact KX
 have e1:decide (jz V.an x.ev≠0)=false:=ZD (λz=>z hb);refine Rs (A7 t0 t1 e1 @aF @aO @i0 @d0) ?_;refine WF.res T.c124 (r124 T (c.o.ext Xx) c.w.len k0) ?_;rintro _ g2 ⟨y,hy,V5,rfl⟩;have Vo:=(c.w.jb y.1 (ZT hy)).2;have hlt:(bI x.ev 1).toNat<y.1.bd.length:=by
  exact z162
 have XY:bI x.ev 1=((bI x.ev 1).toNat:Int):=Om
 have iy:aZ 1 y.2 (.i (bI x.ev 1))=some (cT y.2 1 (bI x.ev 1).toNat,.ay):=by
  rw[XY];exact(c.o.e4 y hy).dE hlt
 have hsm:fQ V.an x.ev=y.1.bd[(bI x.ev 1).toNat]:=by
  exact z154
 have ly:∀{k:ah},Ext h k->aq none (cT y.2 1 (bI x.ev 1).toNat) (λb=>k[b]?)=some (.i (fQ V.an x.ev),.ay):=λ{k} e=>by
  rw[hsm];exact(c.o.e4 y hy).kg hlt rfl e
 have hsb:=Vo.2.2 _ (ZR hlt);rw[<-hsm]at hsb;unfold bK;refine Rs (A7 t0 t1 @aY @j1 @f1 @iy @ly) ?_;refine WF.ce T.c85 (r85 T _ _) λg3=>?_
 refine Rs (A2 t0 t1) ?_;rw[bn,ZN (λz=>z hb),cA];have e2:(decide (fQ V.an x.ev≠-1)=true)=(0<=fQ V.an x.ev):=by
  exact KH
 simp only[e2]
def r171{V x}(c:Cx h V x .fail):aA P 171 [.agg V.row,.agg x.row] h (λv _=>v=.i (bn V.an x.ev .fail)):=by
 refine .eP 27 T.mix T.c171 ?_;intro ts hlen t0 t1;unfold fn171;have Su:=@aD.box _ _ c.o;have hex:=@bh.box _ _ c.e;have i0:aZ 1 x.sn (.i 0)=_:=(c.nm (i:=0) De).1;have d0:=@(c.nm (i:=0) De).2;have j1:aZ 1 x.sv (.i 1)=_:=(c.vl (i:=1) De).1;have f1:=@(c.vl (i:=1) De).2.1;have q1:=(c.vl (i:=1) De).2.2;have k0:aL x.ev 0∈iA V.an:=c.nk.kn 0 4 rfl;refine Rs (A6 t0 t1 @Su @hex @aF @b9) ?_;refine WF.ce T.c249 (r249 T (c.ext Xx) De De k0) λg1=>?_
 by_cases hb:jz V.an x.ev=0
 case neg=>
  exact KX
 have e1:decide (jz V.an x.ev≠0)=false:=ZD (λz=>z hb);refine Rs (A7 t0 t1 e1 @aF @aO @i0 @d0) ?_;refine WF.res T.c124 (r124 T (c.o.ext Xx) c.w.len k0) ?_;rintro _ g2 ⟨y,hy,V5,rfl⟩;have Vo:=(c.w.jb y.1 (ZT hy)).2;have hlt:(bI x.ev 1).toNat<y.1.bd.length:=by
  exact z162
 have XY:bI x.ev 1=((bI x.ev 1).toNat:Int):=Om
 have iy:aZ 1 y.2 (.i (bI x.ev 1))=some (cT y.2 1 (bI x.ev 1).toNat,.ay):=by
  rw[XY];exact(c.o.e4 y hy).dE hlt
 have hsm:fQ V.an x.ev=y.1.bd[(bI x.ev 1).toNat]:=by
  exact z154
 have ly:∀{k:ah},Ext h k->aq none (cT y.2 1 (bI x.ev 1).toNat) (λb=>k[b]?)=some (.i (fQ V.an x.ev),.ay):=λ{k} e=>by
  rw[hsm];exact(c.o.e4 y hy).kg hlt rfl e
 have hsb:=Vo.2.2 _ (ZR hlt);rw[<-hsm]at hsb;unfold bK;refine Rs (A7 t0 t1 @aY @j1 @f1 @iy @ly) ?_;refine WF.ce T.c85 (r85 T _ _) λg3=>?_
 refine Rs (A2 t0 t1) ?_;rw[bn,ZN (λz=>z hb),cA];have e2:(decide (fQ V.an x.ev= -1)=true)=(fQ V.an x.ev<0):=by
  exact KH
 simp only[e2]
def r173{V x}(c:Cx h V x .gE):aA P 173 [.agg V.row,.agg x.row] h (λv _=>v=.i (bn V.an x.ev .gE)):=by
 refine .eP 31 T.mix T.c173 ?_;intro ts hlen t0 t1;unfold fn173;have Su:=@aD.box _ _ c.o;have hex:=@bh.box _ _ c.e;have i1:aZ 1 x.sn (.i 1)=_:=(c.nm (i:=1) De).1;have d1:=@(c.nm (i:=1) De).2;have k1:aL x.ev 1∈iA V.an:=c.nk.kn 1 4 rfl;refine Rs (A8 t0 t1 @Su @hex @aF @aO @i1 @d1) ?_;refine WF.res T.c124 (r124 T (c.o.ext Xx) c.w.len k1) ?_;rintro _ g1 ⟨y,hy,V5,rfl⟩;have Vo:=(c.w.jb y.1 (ZT hy)).2;refine Rs (A2 t0 t1) ?_;refine WF.res T.c125 (r125 T (x:=y) ((c.o.e4 y hy).ext Xx) Om (λs hs=>(Vo.2.2 s hs).1)) ?_;rintro s2 g2 Tb;have hl2:=Tb.aK;refine Rs (A6 t0 t1 @aF @aO @i1 @d1) ?_
 refine WF.ce T.c251 (r251 T (c.o.ext Xx) c.w.len _) λg3=>?_
 refine Rs (A2 t0 t1) ?_;refine WF.ce T.c85 (r85 T _ _) λg4=>?_
 refine Rs (A3 t0 t1 @hl2) ?_;refine WF.ce T.c85 (r85 T _ _) λg5=>?_
 refine Rs (A4 t0 t1 @gY c.o.i5.aK) ?_;refine WF.ce T.c85 (r85 T _ _) λg6=>?_
 refine Rs (A2 t0 t1) ?_;refine WF.ce T.c74 (r74 T (cC [_,_,_]) Si) λg7=>?_
 refine Rs (A2 t0 t1) ?_;rw[dR De,dR De,dR De,bn,<-V5];have e1:(decide ((0:Int)<((cI y.1.bd 0).length:Int))=true)=(cI y.1.bd 0≠[]):=by
  rw[aah];refine propext ⟨λz e=>by rw[e]at z;simp at z,λz=>by have:=aby.2 z;omega⟩
 have e2:(decide ((16:Int)<=(V.aJ.length:Int))=true)=(16<=V.an.aJ.length):=by
  rw[aah];have:V.an.aJ.length=V.aJ.length:=rfl;exact HP
 simp only[e1,e2,bD];exact⟨Xx,trivial⟩
def r175{V x}(c:Cx h V x .rel):aA P 175 [.agg V.row,.agg x.row] h (λv _=>v=.i (bn V.an x.ev .rel)):=by
 refine .eP 13 T.mix T.c175 ?_;intro ts hlen t0 t1;unfold fn175 gA;have Su:=@aD.box _ _ c.o;have hex:=@bh.box _ _ c.e;have i0:aZ 1 x.sn (.i 0)=_:=(c.nm (i:=0) De).1;have d0:=@(c.nm (i:=0) De).2;have k0:aL x.ev 0∈lh V.an:=c.nk.kn 0 5 rfl;refine Rs (A8 t0 t1 @Su @hex @aF @aO @i0 @d0) ?_;refine WF.ce T.c218 (r218 T (c.o.ext Xx) c.w.len k0) λg1=>?_
 unfold cF;refine Rs (A2 t0 t1) ?_;refine WF.ce T.c85 (r85 T _ _) λg2=>?_
 refine Rs (A2 t0 t1) ?_;rw[bn,cA]
def Qz{V x d}(hd:d≠.eV)(c:Cx h V x d)(gl:Gl h):bE P (kh d) [.agg V.row,.agg x.row] h (λv _=>v=.i (bn V.an x.ev d)):=by
 cases d with
 |eV=>exact absurd rfl hd
 |line=>exact bE.of (a:=[]) (c:=[]) T.c148 (r148 T c)
 |tape=>exact bE.of (a:=[]) (c:=[]) T.c151 (r151 T c)
 |gp=>exact bE.of (a:=[]) (c:=[]) T.c155 (r155 T c)
 |copy=>exact bE.of (a:=[]) (c:=[]) T.c157 (r157 T c)
 |accept=>exact bE.of (a:=[]) (c:=[]) T.c159 (r159 T c)
 |source=>
  refine bE.of (a:=[]) (c:=[]) T.c161 ((r161 T c.o c.e).mono λv g hv=>?_);rw[hv,bn,cA];simp only[aah]
 |gg=>exact bE.of (a:=[]) (c:=[]) T.c163 (r163 T c gl)
 |merge=>exact bE.of (a:=[]) (c:=[]) T.c165 (r165 T c)
 |run=>exact bE.of (a:=[]) (c:=[]) T.c167 (r167 T c)
 |fT=>exact bE.of (a:=[]) (c:=[]) T.c169 (r169 T c)
 |fail=>exact bE.of (a:=[]) (c:=[]) T.c171 (r171 T c)
 |gE=>exact bE.of (a:=[]) (c:=[]) T.c173 (r173 T c)
 |rel=>exact bE.of (a:=[]) (c:=[]) T.c175 (r175 T c)
end
def ja{l1 l2:List (Option Nat)}{a y:Option Nat}(h:y∈l1\/y∈l2):y∈l1++a::l2:=by rcases h with h|h<;>simp[h]
def vZ{l1 l2:List (Option Nat)}{a y:Option Nat}(h:y∈l1++a::l2):y∈l1\/y=a\/y∈l2:=by simpa using h
def lG.yg{l1 l2 a x}(h:lG (l1++a::l2))(hx:∀i,x=some i->a=some i\/((∀y∈l1,y≠some i)/\∀y∈l2,y≠some i)):lG (l1++x::l2):=by
 obtain⟨h1,h2,h3⟩:=aaT.1 h;obtain⟨h4,h5⟩:=aaH.1 h2;refine aaT.2 ⟨h1,aaH.2 ⟨λy hy b hb=>?_,h5⟩,λy hy z hz b hb=>?_⟩
 ·rcases hx b hb with ha|⟨_,ha⟩
  ·exact h4 y hy b ha
  ·exact ha y hy
 ·rcases aag.1 hz with rfl|hz
  ·intro e;rcases hx b e with ha|⟨ha,_⟩
   ·exact h3 y hy a Si b hb ha
   ·exact ha y hy hb
  ·exact h3 y hy z (Z8 _ hz) b hb
def lG.ins{l1 l2 x}(h:lG (l1++l2))(hx:∀i,x=some i->(∀y∈l1,y≠some i)/\∀y∈l2,y≠some i):lG (l1++x::l2):=by
 obtain⟨h1,h2,h3⟩:=aaT.1 h;refine aaT.2 ⟨h1,aaH.2 ⟨λy hy b hb=>(hx b hb).2 y hy,h2⟩,λy hy z hz b hb=>?_⟩;rcases aag.1 hz with rfl|hz
 ·exactλe=>(hx b e).1 y hy hb
 ·exact h3 y hy z hz b hb
structure bX(N:Nat)(h:ah)(b:Nat)(V:RV):Prop where
 o:cJ N h V
 hN:N<=b
 m:h[b]? =some (.b V.row)
 ne:some b∉V.bl
def bX.lt{N h b V}(r:bX N h b V):b<h.length:=(ZC.1 r.m).1
theorem bX.app{N h b V}(r:bX N h b V)(g:ah):bX N (h++g) b V:=⟨r.o.app g,r.hN,(Ext.app g (Ext.refl h)).some r.m,r.ne⟩
section
variable {N b:Nat}{h k:ah}{V:RV}
def bX.NO(r:bX N h b V){s:AV}{L:List dX}(hs:Fr N k s 3 (L.map bV))(hn:∀i,sB s=some i->sB V.s0=some i\/h.length<=i)(hm:k[b]? =some (.cells {V with lines:=L,s0:=s}.row true false))
  (hk:∀i,i<h.length->sB V.s0≠some i->i≠b->k[i]? =h[i]?):bX N k b {V with lines:=L,s0:=s}:=by
 have hd:V.bl=[]++sB V.s0:: ([sB V.s1,sB V.s2,sB V.s3,sB V.s4,sB V.s5]++(V.aj.map λx=>sB x.2)++(V.ar.map λx=>sB x.2)++(V.aE.map λx=>sB x.2)):=rfl;have hin:∀i,some i∈V.bl->N<=i/\i<h.length:=λi hi=>r.o.dU hi
 have Tq:=r.o.di;rw[hd]at Tq;have ay:∀i,(some i∈[]\/some i∈([sB V.s1,sB V.s2,sB V.s3,sB V.s4,sB V.s5]++(V.aj.map λx=>sB x.2)++(V.ar.map λx=>sB x.2)++(V.aE.map λx=>sB x.2)))->k[i]? =h[i]? :=λi hi=>by
  exact z7
 have own:cJ N k {V with lines:=L,s0:=s}:=by
  refine⟨hs,(r.o.i1.aC λi hi=>ay i (.inr (by rw[<-hi];simp))),(r.o.i2.aC λi hi=>ay i (.inr (by rw[<-hi];simp))),(r.o.i3.aC λi hi=>ay i (.inr (by rw[<-hi];simp))),(r.o.i4.aC λi hi=>ay i (.inr (by rw[<-hi];simp))),(r.o.i5.aC λi hi=>ay i (.inr (by rw[<-hi];simp))),(λx hx=>(r.o.e2 x hx).aC λi hi=>ay i (.inr (by rw[<-hi];simp only[ZK,Z3];exact .inl (.inl (.inr ⟨x,hx,rfl⟩))))),(λx hx=>(r.o.e3 x hx).aC λi hi=>ay i (.inr (by rw[<-hi];simp only[ZK,Z3];exact .inl (.inr ⟨x,hx,rfl⟩)))),(λx hx=>(r.o.e4 x hx).aC λi hi=>ay i (.inr (by rw[<-hi];simp only[ZK,Z3];exact .inr ⟨x,hx,rfl⟩))),?_⟩;have hx:∀i,sB s=some i->sB V.s0=some i\/((∀y∈[],y≠some i)/\∀y∈([sB V.s1,sB V.s2,sB V.s3,sB V.s4,sB V.s5]++(V.aj.map λx=>sB x.2)++(V.ar.map λx=>sB x.2)++(V.aE.map λx=>sB x.2)),y≠some i):=λi hi=>by
   exact z9
  exact Tq.yg hx
 refine⟨own,r.hN,hm,λhb=>?_⟩;have hbl:=r.lt;have UI:=r.ne;rw[hd]at UI;have e:{V with lines:=L,s0:=s}.bl=[]++sB s:: ([sB V.s1,sB V.s2,sB V.s3,sB V.s4,sB V.s5]++(V.aj.map λx=>sB x.2)++(V.ar.map λx=>sB x.2)++(V.aE.map λx=>sB x.2)):=rfl;exact Oc
def bX.RI(r:bX N h b V){s:AV}{L:List sH}(hs:Fr N k s 2 (L.map dY))(hn:∀i,sB s=some i->sB V.s1=some i\/h.length<=i)(hm:k[b]? =some (.cells {V with aG:=L,s1:=s}.row true false))
  (hk:∀i,i<h.length->sB V.s1≠some i->i≠b->k[i]? =h[i]?):bX N k b {V with aG:=L,s1:=s}:=by
 have hd:V.bl=[sB V.s0]++sB V.s1:: ([sB V.s2,sB V.s3,sB V.s4,sB V.s5]++(V.aj.map λx=>sB x.2)++(V.ar.map λx=>sB x.2)++(V.aE.map λx=>sB x.2)):=rfl;have hin:∀i,some i∈V.bl->N<=i/\i<h.length:=λi hi=>r.o.dU hi
 have Tq:=r.o.di;rw[hd]at Tq;have ay:∀i,(some i∈[sB V.s0]\/some i∈([sB V.s2,sB V.s3,sB V.s4,sB V.s5]++(V.aj.map λx=>sB x.2)++(V.ar.map λx=>sB x.2)++(V.aE.map λx=>sB x.2)))->k[i]? =h[i]? :=λi hi=>by
  exact z7
 have own:cJ N k {V with aG:=L,s1:=s}:=by
  refine⟨(r.o.i0.aC λi hi=>ay i (.inl (by rw[<-hi];simp))),hs,(r.o.i2.aC λi hi=>ay i (.inr (by rw[<-hi];simp))),(r.o.i3.aC λi hi=>ay i (.inr (by rw[<-hi];simp))),(r.o.i4.aC λi hi=>ay i (.inr (by rw[<-hi];simp))),(r.o.i5.aC λi hi=>ay i (.inr (by rw[<-hi];simp))),(λx hx=>(r.o.e2 x hx).aC λi hi=>ay i (.inr (by rw[<-hi];simp only[ZK,Z3];exact .inl (.inl (.inr ⟨x,hx,rfl⟩))))),(λx hx=>(r.o.e3 x hx).aC λi hi=>ay i (.inr (by rw[<-hi];simp only[ZK,Z3];exact .inl (.inr ⟨x,hx,rfl⟩)))),(λx hx=>(r.o.e4 x hx).aC λi hi=>ay i (.inr (by rw[<-hi];simp only[ZK,Z3];exact .inr ⟨x,hx,rfl⟩))),?_⟩;have hx:∀i,sB s=some i->sB V.s1=some i\/((∀y∈[sB V.s0],y≠some i)/\∀y∈([sB V.s2,sB V.s3,sB V.s4,sB V.s5]++(V.aj.map λx=>sB x.2)++(V.ar.map λx=>sB x.2)++(V.aE.map λx=>sB x.2)),y≠some i):=λi hi=>by
   exact z9
  exact Tq.yg hx
 refine⟨own,r.hN,hm,λhb=>?_⟩;have hbl:=r.lt;have UI:=r.ne;rw[hd]at UI;have e:{V with aG:=L,s1:=s}.bl=[sB V.s0]++sB s:: ([sB V.s2,sB V.s3,sB V.s4,sB V.s5]++(V.aj.map λx=>sB x.2)++(V.ar.map λx=>sB x.2)++(V.aE.map λx=>sB x.2)):=rfl;exact Oc
def bX.RH(r:bX N h b V){s t:AV}{y:jX}(hs:Fr N k s 3 ((V.aj++[(y,t)]).map bf))(ht:Fr N k t 1 (y.aG.map ao))(hn:∀i,sB s=some i->sB V.s2=some i\/h.length<=i)(hnt:∀i,sB t=some i->h.length<=i/\sB s≠some i)
  (hm:k[b]? =some (.cells {V with aj:=V.aj++[(y,t)],s2:=s}.row true false))
  (hk:∀i,i<h.length->sB V.s2≠some i->i≠b->k[i]? =h[i]?):bX N k b {V with aj:=V.aj++[(y,t)],s2:=s}:=by
 have hd:V.bl=[sB V.s0,sB V.s1]++sB V.s2:: ([sB V.s3,sB V.s4,sB V.s5]++(V.aj.map λx=>sB x.2)++(V.ar.map λx=>sB x.2)++(V.aE.map λx=>sB x.2)):=rfl;have hin:∀i,some i∈V.bl->N<=i/\i<h.length:=λi hi=>r.o.dU hi
 have Tq:=r.o.di;rw[hd]at Tq;have ay:∀i,(some i∈[sB V.s0,sB V.s1]\/some i∈([sB V.s3,sB V.s4,sB V.s5]++(V.aj.map λx=>sB x.2)++(V.ar.map λx=>sB x.2)++(V.aE.map λx=>sB x.2)))->k[i]? =h[i]? :=λi hi=>by
  exact z7
 have own:cJ N k {V with aj:=V.aj++[(y,t)],s2:=s}:=by
  refine⟨(r.o.i0.aC λi hi=>ay i (.inl (by rw[<-hi];simp))),(r.o.i1.aC λi hi=>ay i (.inl (by rw[<-hi];simp))),hs,(r.o.i3.aC λi hi=>ay i (.inr (by rw[<-hi];simp))),(r.o.i4.aC λi hi=>ay i (.inr (by rw[<-hi];simp))),(r.o.i5.aC λi hi=>ay i (.inr (by rw[<-hi];simp))),(λx hx=>by
   rcases ZK.1 hx with hx|hx
   ·exact(r.o.e2 x hx).aC λi hi=>ay i (.inr (by rw[<-hi];simp only[ZK,Z3];exact .inl (.inl (.inr ⟨x,hx,rfl⟩))))
   ·rw[ZW]at hx;subst hx;exact ht),(λx hx=>(r.o.e3 x hx).aC λi hi=>ay i (.inr (by rw[<-hi];simp only[ZK,Z3];exact .inl (.inr ⟨x,hx,rfl⟩)))),(λx hx=>(r.o.e4 x hx).aC λi hi=>ay i (.inr (by rw[<-hi];simp only[ZK,Z3];exact .inr ⟨x,hx,rfl⟩))),?_⟩
  have hx:∀i,sB s=some i->sB V.s2=some i\/((∀y∈[sB V.s0,sB V.s1],y≠some i)/\∀y∈([sB V.s3,sB V.s4,sB V.s5]++(V.aj.map λx=>sB x.2)++(V.ar.map λx=>sB x.2)++(V.aE.map λx=>sB x.2)),y≠some i):=λi hi=>by
   exact z9
  have h1:=Tq.yg hx;have h2:lG (([sB V.s0,sB V.s1,sB s,sB V.s3,sB V.s4,sB V.s5]++(V.aj.map λx=>sB x.2))++((V.ar.map λx=>sB x.2)++(V.aE.map λx=>sB x.2))):=by
   have:[sB V.s0,sB V.s1]++sB s:: ([sB V.s3,sB V.s4,sB V.s5]++(V.aj.map λx=>sB x.2)++(V.ar.map λx=>sB x.2)++(V.aE.map λx=>sB x.2))=([sB V.s0,sB V.s1,sB s,sB V.s3,sB V.s4,sB V.s5]++(V.aj.map λx=>sB x.2))++((V.ar.map λx=>sB x.2)++(V.aE.map λx=>sB x.2)):=Si
   rw[<-this];exact h1
  have h3:=h2.ins (x:=sB t) (λi hi=>by
   obtain⟨n1,n2⟩:=hnt i hi;refine⟨λy hy e=>?_,λy hy e=>?_⟩
   ·exact Oa
   ·subst e;have:=(hin i (by rw[hd];simp only[ZK,aag,aaC,abh]at hy ⊢<;>grind)).2;omega)
  have:{V with aj:=V.aj++[(y,t)],s2:=s}.bl=([sB V.s0,sB V.s1,sB s,sB V.s3,sB V.s4,sB V.s5]++(V.aj.map λx=>sB x.2))++sB t:: ((V.ar.map λx=>sB x.2)++(V.aE.map λx=>sB x.2)):=by
   simp[RV.bl]
  rw[this];exact h3
 exact Og
def bX.RG(r:bX N h b V){s t:AV}{y:cQ}(hs:Fr N k s 4 ((V.ar++[(y,t)]).map aP))(ht:Fr N k t 1 (y.aI.map ao))(hn:∀i,sB s=some i->sB V.s3=some i\/h.length<=i)(hnt:∀i,sB t=some i->h.length<=i/\sB s≠some i)
  (hm:k[b]? =some (.cells {V with ar:=V.ar++[(y,t)],s3:=s}.row true false))
  (hk:∀i,i<h.length->sB V.s3≠some i->i≠b->k[i]? =h[i]?):bX N k b {V with ar:=V.ar++[(y,t)],s3:=s}:=by
 have hd:V.bl=[sB V.s0,sB V.s1,sB V.s2]++sB V.s3:: ([sB V.s4,sB V.s5]++(V.aj.map λx=>sB x.2)++(V.ar.map λx=>sB x.2)++(V.aE.map λx=>sB x.2)):=rfl;have hin:∀i,some i∈V.bl->N<=i/\i<h.length:=λi hi=>r.o.dU hi
 have Tq:=r.o.di;rw[hd]at Tq;have ay:∀i,(some i∈[sB V.s0,sB V.s1,sB V.s2]\/some i∈([sB V.s4,sB V.s5]++(V.aj.map λx=>sB x.2)++(V.ar.map λx=>sB x.2)++(V.aE.map λx=>sB x.2)))->k[i]? =h[i]? :=λi hi=>by
  exact z7
 have own:cJ N k {V with ar:=V.ar++[(y,t)],s3:=s}:=by
  refine⟨(r.o.i0.aC λi hi=>ay i (.inl (by rw[<-hi];simp))),(r.o.i1.aC λi hi=>ay i (.inl (by rw[<-hi];simp))),(r.o.i2.aC λi hi=>ay i (.inl (by rw[<-hi];simp))),hs,(r.o.i4.aC λi hi=>ay i (.inr (by rw[<-hi];simp))),(r.o.i5.aC λi hi=>ay i (.inr (by rw[<-hi];simp))),(λx hx=>(r.o.e2 x hx).aC λi hi=>ay i (.inr (by rw[<-hi];simp only[ZK,Z3];exact .inl (.inl (.inr ⟨x,hx,rfl⟩))))),(λx hx=>by
   rcases ZK.1 hx with hx|hx
   ·exact(r.o.e3 x hx).aC λi hi=>ay i (.inr (by rw[<-hi];simp only[ZK,Z3];exact .inl (.inr ⟨x,hx,rfl⟩)))
   ·rw[ZW]at hx;subst hx;exact ht),(λx hx=>(r.o.e4 x hx).aC λi hi=>ay i (.inr (by rw[<-hi];simp only[ZK,Z3];exact .inr ⟨x,hx,rfl⟩))),?_⟩
  have hx:∀i,sB s=some i->sB V.s3=some i\/((∀y∈[sB V.s0,sB V.s1,sB V.s2],y≠some i)/\∀y∈([sB V.s4,sB V.s5]++(V.aj.map λx=>sB x.2)++(V.ar.map λx=>sB x.2)++(V.aE.map λx=>sB x.2)),y≠some i):=λi hi=>by
   exact z9
  have h1:=Tq.yg hx;have h2:lG (([sB V.s0,sB V.s1,sB V.s2,sB s,sB V.s4,sB V.s5]++(V.aj.map λx=>sB x.2)++(V.ar.map λx=>sB x.2))++((V.aE.map λx=>sB x.2))):=by
   have:[sB V.s0,sB V.s1,sB V.s2]++sB s:: ([sB V.s4,sB V.s5]++(V.aj.map λx=>sB x.2)++(V.ar.map λx=>sB x.2)++(V.aE.map λx=>sB x.2))=([sB V.s0,sB V.s1,sB V.s2,sB s,sB V.s4,sB V.s5]++(V.aj.map λx=>sB x.2)++(V.ar.map λx=>sB x.2))++((V.aE.map λx=>sB x.2)):=Si
   rw[<-this];exact h1
  have h3:=h2.ins (x:=sB t) (λi hi=>by
   obtain⟨n1,n2⟩:=hnt i hi;refine⟨λy hy e=>?_,λy hy e=>?_⟩
   ·exact Oa
   ·subst e;have:=(hin i (by rw[hd];simp only[ZK,aag,aaC,abh]at hy ⊢<;>grind)).2;omega)
  have:{V with ar:=V.ar++[(y,t)],s3:=s}.bl=([sB V.s0,sB V.s1,sB V.s2,sB s,sB V.s4,sB V.s5]++(V.aj.map λx=>sB x.2)++(V.ar.map λx=>sB x.2))++sB t:: ((V.aE.map λx=>sB x.2)):=by
   simp[RV.bl]
  rw[this];exact h3
 exact Og
def bX.RF(r:bX N h b V){s t:AV}{y:kF}(hs:Fr N k s 3 ((V.aE++[(y,t)]).map bK))(ht:Fr N k t 1 (y.bd.map aM))(hn:∀i,sB s=some i->sB V.s4=some i\/h.length<=i)(hnt:∀i,sB t=some i->h.length<=i/\sB s≠some i)
  (hm:k[b]? =some (.cells {V with aE:=V.aE++[(y,t)],s4:=s}.row true false))
  (hk:∀i,i<h.length->sB V.s4≠some i->i≠b->k[i]? =h[i]?):bX N k b {V with aE:=V.aE++[(y,t)],s4:=s}:=by
 have hd:V.bl=[sB V.s0,sB V.s1,sB V.s2,sB V.s3]++sB V.s4:: ([sB V.s5]++(V.aj.map λx=>sB x.2)++(V.ar.map λx=>sB x.2)++(V.aE.map λx=>sB x.2)):=rfl;have hin:∀i,some i∈V.bl->N<=i/\i<h.length:=λi hi=>r.o.dU hi
 have Tq:=r.o.di;rw[hd]at Tq;have ay:∀i,(some i∈[sB V.s0,sB V.s1,sB V.s2,sB V.s3]\/some i∈([sB V.s5]++(V.aj.map λx=>sB x.2)++(V.ar.map λx=>sB x.2)++(V.aE.map λx=>sB x.2)))->k[i]? =h[i]? :=λi hi=>by
  exact z7
 have own:cJ N k {V with aE:=V.aE++[(y,t)],s4:=s}:=by
  refine⟨(r.o.i0.aC λi hi=>ay i (.inl (by rw[<-hi];simp))),(r.o.i1.aC λi hi=>ay i (.inl (by rw[<-hi];simp))),(r.o.i2.aC λi hi=>ay i (.inl (by rw[<-hi];simp))),(r.o.i3.aC λi hi=>ay i (.inl (by rw[<-hi];simp))),hs,(r.o.i5.aC λi hi=>ay i (.inr (by rw[<-hi];simp))),(λx hx=>(r.o.e2 x hx).aC λi hi=>ay i (.inr (by rw[<-hi];simp only[ZK,Z3];exact .inl (.inl (.inr ⟨x,hx,rfl⟩))))),(λx hx=>(r.o.e3 x hx).aC λi hi=>ay i (.inr (by rw[<-hi];simp only[ZK,Z3];exact .inl (.inr ⟨x,hx,rfl⟩)))),(λx hx=>by
   rcases ZK.1 hx with hx|hx
   ·exact(r.o.e4 x hx).aC λi hi=>ay i (.inr (by rw[<-hi];simp only[ZK,Z3];exact .inr ⟨x,hx,rfl⟩))
   ·rw[ZW]at hx;subst hx;exact ht),?_⟩
  have hx:∀i,sB s=some i->sB V.s4=some i\/((∀y∈[sB V.s0,sB V.s1,sB V.s2,sB V.s3],y≠some i)/\∀y∈([sB V.s5]++(V.aj.map λx=>sB x.2)++(V.ar.map λx=>sB x.2)++(V.aE.map λx=>sB x.2)),y≠some i):=λi hi=>by
   exact z9
  have h1:=Tq.yg hx;have h2:lG (([sB V.s0,sB V.s1,sB V.s2,sB V.s3,sB s,sB V.s5]++(V.aj.map λx=>sB x.2)++(V.ar.map λx=>sB x.2)++(V.aE.map λx=>sB x.2))++([])):=by
   have:[sB V.s0,sB V.s1,sB V.s2,sB V.s3]++sB s:: ([sB V.s5]++(V.aj.map λx=>sB x.2)++(V.ar.map λx=>sB x.2)++(V.aE.map λx=>sB x.2))=([sB V.s0,sB V.s1,sB V.s2,sB V.s3,sB s,sB V.s5]++(V.aj.map λx=>sB x.2)++(V.ar.map λx=>sB x.2)++(V.aE.map λx=>sB x.2))++([]):=Si
   rw[<-this];exact h1
  have h3:=h2.ins (x:=sB t) (λi hi=>by
   obtain⟨n1,n2⟩:=hnt i hi;refine⟨λy hy e=>?_,λy hy e=>?_⟩
   ·exact Oa
   ·subst e;have:=(hin i (by rw[hd];simp only[ZK,aag,aaC,abh]at hy ⊢<;>grind)).2;omega)
  have:{V with aE:=V.aE++[(y,t)],s4:=s}.bl=([sB V.s0,sB V.s1,sB V.s2,sB V.s3,sB s,sB V.s5]++(V.aj.map λx=>sB x.2)++(V.ar.map λx=>sB x.2)++(V.aE.map λx=>sB x.2))++sB t:: ([]):=by
   simp[RV.bl]
  rw[this];exact h3
 exact Og
def bX.NN(r:bX N h b V){s:AV}{L:List nP}(hs:Fr N k s 4 (L.map cF))(hn:∀i,sB s=some i->sB V.s5=some i\/h.length<=i)(hm:k[b]? =some (.cells {V with aJ:=L,s5:=s}.row true false))
  (hk:∀i,i<h.length->sB V.s5≠some i->i≠b->k[i]? =h[i]?):bX N k b {V with aJ:=L,s5:=s}:=by
 have hd:V.bl=[sB V.s0,sB V.s1,sB V.s2,sB V.s3,sB V.s4]++sB V.s5:: ([]++(V.aj.map λx=>sB x.2)++(V.ar.map λx=>sB x.2)++(V.aE.map λx=>sB x.2)):=rfl;have hin:∀i,some i∈V.bl->N<=i/\i<h.length:=λi hi=>r.o.dU hi
 have Tq:=r.o.di;rw[hd]at Tq;have ay:∀i,(some i∈[sB V.s0,sB V.s1,sB V.s2,sB V.s3,sB V.s4]\/some i∈([]++(V.aj.map λx=>sB x.2)++(V.ar.map λx=>sB x.2)++(V.aE.map λx=>sB x.2)))->k[i]? =h[i]? :=λi hi=>by
  exact z7
 have own:cJ N k {V with aJ:=L,s5:=s}:=by
  refine⟨(r.o.i0.aC λi hi=>ay i (.inl (by rw[<-hi];simp))),(r.o.i1.aC λi hi=>ay i (.inl (by rw[<-hi];simp))),(r.o.i2.aC λi hi=>ay i (.inl (by rw[<-hi];simp))),(r.o.i3.aC λi hi=>ay i (.inl (by rw[<-hi];simp))),(r.o.i4.aC λi hi=>ay i (.inl (by rw[<-hi];simp))),hs,(λx hx=>(r.o.e2 x hx).aC λi hi=>ay i (.inr (by rw[<-hi];simp only[ZK,Z3];exact .inl (.inl (.inr ⟨x,hx,rfl⟩))))),(λx hx=>(r.o.e3 x hx).aC λi hi=>ay i (.inr (by rw[<-hi];simp only[ZK,Z3];exact .inl (.inr ⟨x,hx,rfl⟩)))),(λx hx=>(r.o.e4 x hx).aC λi hi=>ay i (.inr (by rw[<-hi];simp only[ZK,Z3];exact .inr ⟨x,hx,rfl⟩))),?_⟩;have hx:∀i,sB s=some i->sB V.s5=some i\/((∀y∈[sB V.s0,sB V.s1,sB V.s2,sB V.s3,sB V.s4],y≠some i)/\∀y∈([]++(V.aj.map λx=>sB x.2)++(V.ar.map λx=>sB x.2)++(V.aE.map λx=>sB x.2)),y≠some i):=λi hi=>by
   exact z9
  exact Tq.yg hx
 refine⟨own,r.hN,hm,λhb=>?_⟩;have hbl:=r.lt;have UI:=r.ne;rw[hd]at UI;have e:{V with aJ:=L,s5:=s}.bl=[sB V.s0,sB V.s1,sB V.s2,sB V.s3,sB V.s4]++sB s:: ([]++(V.aj.map λx=>sB x.2)++(V.ar.map λx=>sB x.2)++(V.aE.map λx=>sB x.2)):=rfl;exact Oc
end
def tU(B:ah)(b:Nat)(V:RV)(e:dN)(d:Kd)(k:ah):Prop:=∃g' V',k=B++g'/\bX B.length (B++g') b V'/\V'.an=dt V.an e d
def iI{B g:ah}{b i:Nat}{V:RV}{v:AV}(hb:(B++g)[b]? =some (.b V.row))(hv:v.one=true)(hi:i<7):aU 1 (.ptr b i) v (λz=>(B++g)[z]?)=some (az,.set b (.b (V.row.set i v))):=by
 rw[aN hb];exact bW hv (by show i+1<=7;omega)
def nL{B g:ah}{b:Nat}{V:RV}(X:ak)(hN:B.length<=b)(hb:(B++g)[b]? =some (.b V.row)):(B++g).set b X=B++g.set (b-B.length) X/\(B++g.set (b-B.length) X)[b]? =some X/\∀i,i≠b->(B++g.set (b-B.length) X)[i]? =(B++g)[i]? :=by
 have h1:(B++g).set b X=B++g.set (b-B.length) X:=aaA _ _ hN;refine⟨h1,?_,λi hi=>?_⟩
 ·rw[<-h1,ZU (ZC.1 hb).1]
 ·rw[<-h1,ZV (aa3 hi)]
def fe{ts h}:cU [] ts h=some (.dL []):=rfl
section
variable {B g g':ah}{b:Nat}{V:RV}{e:dN}{d:Kd}
def M1(r:bX B.length (B++g) b V){s:AV}{L:List dX}(hff:Fr B.length (B++g') s 3 (L.map bV))(hb':∀i,sB s=some i->sB V.s0=some i\/(B++g).length<=i)(hk1:∀i,i<(B++g).length->sB V.s0≠some i->(B++g')[i]? =(B++g)[i]?)
  (hreg:{V with lines:=L,s0:=s}.an=dt V.an e d):tU B b V e d ((B++g').set b (.b (V.row.set 1 s))):=by
 have hbl:=r.lt;have SM:sB V.s0≠some b:=λz=>r.ne (by rw[<-z];simp[RV.bl])
 have mB:(B++g')[b]? =some (.b V.row):=(hk1 b hbl SM).trans r.m;obtain⟨h1,h2,h3⟩:=nL (.b (V.row.set 1 s)) r.hN mB;have hsb:∀i,sB s=some i->i≠b:=λi hi z=>by
  exact JZ
 exact⟨_,_,h1,r.NO (hff.aC λi hi=>h3 i (hsb i hi)) hb' h2 (λi hi hne SM=>(h3 i SM).trans (hk1 i hi hne)),hreg⟩
def M0(r:bX B.length (B++g) b V){s:AV}{L:List sH}(hff:Fr B.length (B++g') s 2 (L.map dY))(hb':∀i,sB s=some i->sB V.s1=some i\/(B++g).length<=i)(hk1:∀i,i<(B++g).length->sB V.s1≠some i->(B++g')[i]? =(B++g)[i]?)
  (hreg:{V with aG:=L,s1:=s}.an=dt V.an e d):tU B b V e d ((B++g').set b (.b (V.row.set 2 s))):=by
 have hbl:=r.lt;have SM:sB V.s1≠some b:=λz=>r.ne (by rw[<-z];simp[RV.bl])
 have mB:(B++g')[b]? =some (.b V.row):=(hk1 b hbl SM).trans r.m;obtain⟨h1,h2,h3⟩:=nL (.b (V.row.set 2 s)) r.hN mB;have hsb:∀i,sB s=some i->i≠b:=λi hi z=>by
  exact JZ
 exact⟨_,_,h1,r.RI (hff.aC λi hi=>h3 i (hsb i hi)) hb' h2 (λi hi hne SM=>(h3 i SM).trans (hk1 i hi hne)),hreg⟩
def MZ(r:bX B.length (B++g) b V){s t:AV}{y:jX}(hff:Fr B.length (B++g') s 3 ((V.aj++[(y,t)]).map bf))(ht:Fr B.length (B++g') t 1 (y.aG.map ao))(hb':∀i,sB s=some i->sB V.s2=some i\/(B++g).length<=i)(hk1:∀i,i<(B++g).length->sB V.s2≠some i->(B++g')[i]? =(B++g)[i]?)(hnt:∀i,sB t=some i->(B++g).length<=i/\sB s≠some i)
  (hreg:{V with aj:=V.aj++[(y,t)],s2:=s}.an=dt V.an e d):tU B b V e d ((B++g').set b (.b (V.row.set 3 s))):=by
 have hbl:=r.lt;have SM:sB V.s2≠some b:=λz=>r.ne (by rw[<-z];simp[RV.bl])
 have mB:(B++g')[b]? =some (.b V.row):=(hk1 b hbl SM).trans r.m;obtain⟨h1,h2,h3⟩:=nL (.b (V.row.set 3 s)) r.hN mB;have hsb:∀i,sB s=some i->i≠b:=λi hi z=>by
  exact JZ
 have htb:∀i,sB t=some i->i≠b:=λi hi z=>by
  exact Ag
 exact⟨_,_,h1,r.RH (hff.aC λi hi=>h3 i (hsb i hi)) (ht.aC λi hi=>h3 i (htb i hi)) hb' hnt h2 (λi hi hne SM=>(h3 i SM).trans (hk1 i hi hne)),hreg⟩
def Hj(r:bX B.length (B++g) b V){s t:AV}{y:cQ}(hff:Fr B.length (B++g') s 4 ((V.ar++[(y,t)]).map aP))(ht:Fr B.length (B++g') t 1 (y.aI.map ao))(hb':∀i,sB s=some i->sB V.s3=some i\/(B++g).length<=i)(hk1:∀i,i<(B++g).length->sB V.s3≠some i->(B++g')[i]? =(B++g)[i]?)(hnt:∀i,sB t=some i->(B++g).length<=i/\sB s≠some i)
  (hreg:{V with ar:=V.ar++[(y,t)],s3:=s}.an=dt V.an e d):tU B b V e d ((B++g').set b (.b (V.row.set 4 s))):=by
 have hbl:=r.lt;have SM:sB V.s3≠some b:=λz=>r.ne (by rw[<-z];simp[RV.bl])
 have mB:(B++g')[b]? =some (.b V.row):=(hk1 b hbl SM).trans r.m;obtain⟨h1,h2,h3⟩:=nL (.b (V.row.set 4 s)) r.hN mB;have hsb:∀i,sB s=some i->i≠b:=λi hi z=>by
  exact JZ
 have htb:∀i,sB t=some i->i≠b:=λi hi z=>by
  exact Ag
 exact⟨_,_,h1,r.RG (hff.aC λi hi=>h3 i (hsb i hi)) (ht.aC λi hi=>h3 i (htb i hi)) hb' hnt h2 (λi hi hne SM=>(h3 i SM).trans (hk1 i hi hne)),hreg⟩
def MY(r:bX B.length (B++g) b V){s t:AV}{y:kF}(hff:Fr B.length (B++g') s 3 ((V.aE++[(y,t)]).map bK))(ht:Fr B.length (B++g') t 1 (y.bd.map aM))(hb':∀i,sB s=some i->sB V.s4=some i\/(B++g).length<=i)(hk1:∀i,i<(B++g).length->sB V.s4≠some i->(B++g')[i]? =(B++g)[i]?)(hnt:∀i,sB t=some i->(B++g).length<=i/\sB s≠some i)
  (hreg:{V with aE:=V.aE++[(y,t)],s4:=s}.an=dt V.an e d):tU B b V e d ((B++g').set b (.b (V.row.set 5 s))):=by
 have hbl:=r.lt;have SM:sB V.s4≠some b:=λz=>r.ne (by rw[<-z];simp[RV.bl])
 have mB:(B++g')[b]? =some (.b V.row):=(hk1 b hbl SM).trans r.m;obtain⟨h1,h2,h3⟩:=nL (.b (V.row.set 5 s)) r.hN mB;have hsb:∀i,sB s=some i->i≠b:=λi hi z=>by
  exact JZ
 have htb:∀i,sB t=some i->i≠b:=λi hi z=>by
  exact Ag
 exact⟨_,_,h1,r.RF (hff.aC λi hi=>h3 i (hsb i hi)) (ht.aC λi hi=>h3 i (htb i hi)) hb' hnt h2 (λi hi hne SM=>(h3 i SM).trans (hk1 i hi hne)),hreg⟩
def MX(r:bX B.length (B++g) b V){s:AV}{L:List nP}(hff:Fr B.length (B++g') s 4 (L.map cF))(hb':∀i,sB s=some i->sB V.s5=some i\/(B++g).length<=i)(hk1:∀i,i<(B++g).length->sB V.s5≠some i->(B++g')[i]? =(B++g)[i]?)
  (hreg:{V with aJ:=L,s5:=s}.an=dt V.an e d):tU B b V e d ((B++g').set b (.b (V.row.set 6 s))):=by
 have hbl:=r.lt;have SM:sB V.s5≠some b:=λz=>r.ne (by rw[<-z];simp[RV.bl])
 have mB:(B++g')[b]? =some (.b V.row):=(hk1 b hbl SM).trans r.m;obtain⟨h1,h2,h3⟩:=nL (.b (V.row.set 6 s)) r.hN mB;have hsb:∀i,sB s=some i->i≠b:=λi hi z=>by
  exact JZ
 exact⟨_,_,h1,r.NN (hff.aC λi hi=>h3 i (hsb i hi)) hb' h2 (λi hi hne SM=>(h3 i SM).trans (hk1 i hi hne)),hreg⟩
end
section
variable {P:Program}(T:fy P) {B g:ah}{b:Nat}{V:RV}{x:EV}
include T
def P4(r:bX B.length (B++g) b V)(c:Cx (B++g) V x .line):du P 149 [.ptr b 0,.agg x.row] (B++g) (λ_ k=>tU B b V x.ev .line k):=by
 refine .eP 22 T.mix T.c149 ?_;intro ts hlen t0 t1;unfold fn149;have hex:=@bh.box _ _ c.e;have lb:=@eQ _ _ _ r.m;have i0:aZ 1 x.sn (.i 0)=_:=(c.nm (i:=0) De).1;have d0:=@(c.nm (i:=0) De).2;have j1:aZ 1 x.sv (.i 1)=_:=(c.vl (i:=1) De).1;have f1:=@(c.vl (i:=1) De).2.1;have q1:=(c.vl (i:=1) De).2.2;obtain⟨y,hy⟩:∃y:dX,y=⟨aL x.ev 0,bI x.ev 1,false⟩:=⟨_,rfl⟩;have TQ:bV y=[.str (aL x.ev 0),.i (bI x.ev 1),.bool false]:=by rw[hy];rfl
 refine Rs (mZ t0 t1 @hex @lb @fR @aO @aY @i0 @d0 @j1 @f1) ?_;rw[<-TQ];refine WR.fZ (h0:=B) (cs:=V.lines.map bV) (ys:=[bV y]) (((r.o.i0).app _).app _) (Fr.push (N:=0) (aac _) [bV y] (by simp[bV])).aX De Si (by have:=c.w.len.l0;simp;omega) Xx ?_;intro g' SI hff hkp;have hrow:V.lines.map bV++[bV y]=(V.lines++[y]).map bV:=by rw[ZM];rfl
 rw[hrow]at hff;rw[hrow];have hbl:=r.lt;have SM:sB V.s0≠some b:=λe=>r.ne (by rw[<-e];simp[RV.bl])
 have hk1:∀i,i<(B++g).length->sB V.s0≠some i->(B++g')[i]? =(B++g)[i]? :=λi hi hne=>by
  exact J2
 have mB:(B++g')[b]? =some (.b V.row):=(hk1 b hbl SM).trans r.m;have Vv:=λ(b' o n e:Nat)=>iI (i:=1) (v:=.slice b' o n e) mB rfl De
 refine Rs (A4 t0 t1 @Vv @fe) ?_;exact M1 r hff (λi hi=>by cases hi;exact .inr (by simp only[ZB];omega)) hk1 (by rw[hy];rfl)
def P3(r:bX B.length (B++g) b V)(c:Cx (B++g) V x .tape):du P 152 [.ptr b 0,.agg x.row] (B++g) (λ_ k=>tU B b V x.ev .tape k):=by
 refine .eP 27 T.mix T.c152 ?_;intro ts hlen t0 t1;unfold fn152;have hex:=@bh.box _ _ c.e;have lb:=@eQ _ _ _ r.m;have i0:aZ 1 x.sn (.i 0)=_:=(c.nm (i:=0) De).1;have d0:=@(c.nm (i:=0) De).2;have j0:aZ 1 x.sv (.i 0)=_:=(c.vl (i:=0) De).1;have f0:=@(c.vl (i:=0) De).2.1;have q0:=(c.vl (i:=0) De).2.2;have j1:aZ 1 x.sv (.i 1)=_:=(c.vl (i:=1) De).1;have f1:=@(c.vl (i:=1) De).2.1;have q1:=(c.vl (i:=1) De).2.2;have hw:IntKind.i64.wrap (bI x.ev 0+bI x.ev 1)=bI x.ev 0+bI x.ev 1:=bj Om Om;obtain⟨y,hy⟩:∃y:sH,y=⟨aL x.ev 0,bI x.ev 0+bI x.ev 1⟩:=⟨_,rfl⟩
 have TQ:dY y=[.str (aL x.ev 0),.i (bI x.ev 0+bI x.ev 1)]:=by rw[hy];rfl
 refine Rs (xJ t0 t1 @hex @lb @lJ @aO @aY @hw @i0 @d0 @j0 @f0 @j1 @f1) ?_;rw[<-TQ];refine WR.fZ (h0:=B) (cs:=V.aG.map dY) (ys:=[dY y]) (((r.o.i1).app _).app _) (Fr.push (N:=0) (aac _) [dY y] (by simp[dY])).aX De Si (by have:=c.w.len.l1;simp;omega) Xx ?_;intro g' SI hff hkp;have hrow:V.aG.map dY++[dY y]=(V.aG++[y]).map dY:=by rw[ZM];rfl
 rw[hrow]at hff;rw[hrow];have hbl:=r.lt;have SM:sB V.s1≠some b:=λe=>r.ne (by rw[<-e];simp[RV.bl])
 have hk1:∀i,i<(B++g).length->sB V.s1≠some i->(B++g')[i]? =(B++g)[i]? :=λi hi hne=>by
  exact J2
 have mB:(B++g')[b]? =some (.b V.row):=(hk1 b hbl SM).trans r.m;have Vv:=λ(b' o n e:Nat)=>iI (i:=2) (v:=.slice b' o n e) mB rfl De
 refine Rs (A4 t0 t1 @Vv @fe) ?_;exact M0 r hff (λi hi=>by cases hi;exact .inr (by simp only[ZB];omega)) hk1 (by rw[hy];rfl)
end
theorem ux:∀(l:List Int) (x:Int),(∀s∈l,-1<=s/\s<=999999999)->-16777213<x->x<16777213->-16777213<l.foldl (λx s=>(257*x+s).tmod 16777213) x/\l.foldl (λx s=>(257*x+s).tmod 16777213) x<16777213
 |[],x,_,h1,h2=>⟨h1,h2⟩
 |s::l,x,hs,h1,h2=>by
  have hb:-16777213<(257*x+s).tmod 16777213/\(257*x+s).tmod 16777213<16777213:=by
   constructor
   ·have:=Int.lt_tmod_of_pos (257*x+s) (show(0:Int)<16777213 by decide);exact this
   ·exact Int.tmod_lt_of_pos _ De
  exact ux l _ (λt ht=>hs t (Z8 _ ht)) hb.1 hb.2
section
variable {P:Program}(T:fy P) {h:ah}
include T
def r95{s l}(hs:aH h s 1 (l.map aM))(hl:l.length<2^30)(hb:∀s∈l,-1<=s/\s<=999999999):aA P 95 [s] h (λv _=>v=.i (fP l)):=by
 refine .lB 19 T.mix T.c95 ?_;intro ts hlen t0;unfold fn95 gA;refine Rs (A2 t0 hs.aK) ?_;refine WL.inv T.mix (λn ts h'=>∃k:Nat,k<=l.length/\n=l.length-k/\h' =h/\ts.length=19/\slot ts 3=.i (fP (l.take k))/\slot ts 6=s/\slot ts 7=.i l.length/\slot ts 8=.i k) l.length
  ⟨0,Om,rfl,rfl,Sn,gP,(Sq t0),(Sq t0),gP⟩ ?_
 rintro _ ts _ ⟨k,hk,rfl,rfl,hlen,t3,t6,t7,t8⟩;by_cases hlt:k<l.length
 ·have e3:=eC hlt;have ix:=hs.dE (kk:=.i64) hlt;have ld:=hs.kg (i:=k) (x:=.i l[k]) hlt rfl (Ext.refl _);have e5:=wrapN (n:=k) Om;have hd:=ux (l.take k) 1 (λs hs=>hb s (aaD hs)) De De;have UM:=hb _ (ZR hlt);have Ta:-16777213<fP (l.take k)/\fP (l.take k)<16777213:=hd;have w1:IntKind.i64.wrap (257*fP (l.take k))=257*fP (l.take k):=bj Om Om;have w2:IntKind.i64.wrap (257*fP (l.take k)+l[k])=257*fP (l.take k)+l[k]:=bj Om Om;have er:=oZ (k:=.i64) (a:=257*fP (l.take k)+l[k]) (b:=16777213) De;have SU:fP (l.take (k+1))=(257*fP (l.take k)+l[k]).tmod 16777213:=by
   exact KJ
  rw[<-SU]at er;refine Rs (mZ t3 t6 t7 t8 e3 ix @ld @w1 @w2 @er e5) ?_;exact⟨_,Om,k+1,Om,rfl,rfl,rfl⟩
 ·have e3:=ff hlt;have e4:k=l.length:=Om
  rw[e4,aam]at t3;exact Rs (A5 t3 t6 t7 t8 e3) Tv
end
section
variable {P:Program}(T:fy P) {B g:ah}{b:Nat}{V:RV}{x:EV}
include T
def P2(r:bX B.length (B++g) b V)(c:Cx (B++g) V x .gp):du P 156 [.ptr b 0,.agg x.row] (B++g) (λ_ k=>tU B b V x.ev .gp k):=by
 refine .eP 27 T.mix T.c156 ?_;intro ts hlen t0 t1;unfold fn156;have hex:=@bh.box _ _ c.e;have lb:=@eQ _ _ _ r.m;have i0:aZ 1 x.sn (.i 0)=_:=(c.nm (i:=0) De).1;have d0:=@(c.nm (i:=0) De).2;have i1:aZ 1 x.sn (.i 1)=_:=(c.nm (i:=1) De).1;have d1:=@(c.nm (i:=1) De).2;have i2:aZ 1 x.sn (.i 2)=_:=(c.nm (i:=2) De).1;have d2:=@(c.nm (i:=2) De).2;obtain⟨y,hy⟩:∃y:jX,y=⟨aL x.ev 0,aL x.ev 1,[aL x.ev 2]⟩:=⟨_,rfl⟩;obtain⟨t,ht⟩:∃t,t=AV.slice (B++g++[ak.b x.row]).length 0 1 1:=⟨_,rfl⟩;have Tz:Fr (B++g).length (B++g++[ak.b x.row]++[ak.cells [.str (aL x.ev 2)] true true]) t 1 (y.aG.map ao):=by
  rw[ht,hy];exact(Fr.push (h:=B++g++[ak.b x.row]) (N:=(B++g).length) Si [ao (aL x.ev 2)] (by simp[ao]))
 have TQ:bf (y,t)=[.str (aL x.ev 0),.str (aL x.ev 1),t]:=by rw[hy];rfl
 refine Rs (Ad t0 t1 @hex @lb @fB @aO @aY @i0 @d0 @i1 @d1 @i2 @d2) ?_;rw[<-ht];have ot:=Tz.aX.one;refine Rs (A7 t0 t1 @ot @lb @fB @aO @aY) ?_;rw[<-TQ];refine WR.fZ (h0:=B) (cs:=V.aj.map bf) (ys:=[bf (y,t)]) ((((r.o.i2).app _).app _).app _) (Fr.push (N:=0) (aac _) [bf (y,t)] (by simp[bf])).aX De Si (by have:=c.w.len.l2;simp;omega) Xx ?_;intro g' SI hff hkp;have hrow:V.aj.map bf++[bf (y,t)]=(V.aj++[(y,t)]).map bf:=by rw[ZM];rfl
 rw[hrow]at hff;rw[hrow];have hbl:=r.lt;have SM:sB V.s2≠some b:=λe=>r.ne (by rw[<-e];simp[RV.bl])
 have hk1:∀i,i<(B++g).length->sB V.s2≠some i->(B++g')[i]? =(B++g)[i]? :=λi hi hne=>by
  exact J2
 have mB:(B++g')[b]? =some (.b V.row):=(hk1 b hbl SM).trans r.m;have Vv:=λ(b' o n e:Nat)=>iI (i:=3) (v:=.slice b' o n e) mB rfl De
 refine Rs (A4 t0 t1 @Vv @fe) ?_;refine MZ r hff ?_ (λi hi=>by cases hi;exact .inr (by simp only[ZB];omega)) hk1 ?_ ?_
 ·exact(((Tz.app _).aC λi hi=>hkp i (by have:=(Tz.bP hi).2;simp only[ZB]at this ⊢;omega) (λb0 o n e he z=>by
   have h1:=(Tz.bP hi).1;have h2:=(r.o.i2.bP (show sB V.s2=some i by rw[he,z];rfl)).2;omega)).low Si)
 ·intro i hi;exact Rt
 ·rw[hy];simp[RV.an,dt]
def PZ(r:bX B.length (B++g) b V)(c:Cx (B++g) V x .source):du P 162 [.ptr b 0,.agg x.row] (B++g) (λ_ k=>tU B b V x.ev .source k):=by
 refine .eP 22 T.mix T.c162 ?_;intro ts hlen t0 t1;unfold fn162;have hex:=@bh.box _ _ c.e;have lb:=@eQ _ _ _ r.m;have i0:aZ 1 x.sn (.i 0)=_:=(c.nm (i:=0) De).1;have d0:=@(c.nm (i:=0) De).2;have i1:aZ 1 x.sn (.i 1)=_:=(c.nm (i:=1) De).1;have d1:=@(c.nm (i:=1) De).2;obtain⟨y,hy⟩:∃y:cQ,y=⟨aL x.ev 0,dM,aL x.ev 1,[]⟩:=⟨_,rfl⟩;obtain⟨t,ht⟩:∃t,t=AV.af:=⟨_,rfl⟩;have TQ:aP (y,t)=[.str (aL x.ev 0),.str [115,104,111,116,115],.str (aL x.ev 1),.af]:=by rw[hy,ht];rfl
 refine Rs (mZ t0 t1 @hex @lb @fx @aO @aY @i0 @d0 @i1 @d1) ?_;rw[<-TQ];refine WR.fZ (h0:=B) (cs:=V.ar.map aP) (ys:=[aP (y,t)]) (((r.o.i3).app _).app _) (Fr.push (N:=0) (aac _) [aP (y,t)] (by simp[aP])).aX De Si (by have:=c.w.len.l3;simp;omega) Xx ?_;intro g' SI hff hkp;have hrow:V.ar.map aP++[aP (y,t)]=(V.ar++[(y,t)]).map aP:=by rw[ZM];rfl
 rw[hrow]at hff;rw[hrow];have hbl:=r.lt;have SM:sB V.s3≠some b:=λe=>r.ne (by rw[<-e];simp[RV.bl])
 have hk1:∀i,i<(B++g).length->sB V.s3≠some i->(B++g')[i]? =(B++g)[i]? :=λi hi hne=>by
  exact J2
 have mB:(B++g')[b]? =some (.b V.row):=(hk1 b hbl SM).trans r.m;have Vv:=λ(b' o n e:Nat)=>iI (i:=4) (v:=.slice b' o n e) mB rfl De
 refine Rs (A4 t0 t1 @Vv @fe) ?_;refine Hj r hff ?_ (λi hi=>by cases hi;exact .inr (by simp only[ZB];omega)) hk1 ?_ ?_
 ·rw[ht,hy];exact .nil
 ·intro i hi;rw[ht]at hi;cases hi
 ·rw[hy];simp[RV.an,dt]
def PY(r:bX B.length (B++g) b V)(c:Cx (B++g) V x .gg)(hc:bn V.an x.ev .gg=0)(gl:Gl (B++g)):du P 164 [.ptr b 0,.agg x.row] (B++g) (λ_ k=>tU B b V x.ev .gg k):=by
 refine .eP 30 T.mix T.c164 ?_;intro ts hlen t0 t1;unfold fn164;have hex:=@bh.box _ _ c.e;have lb:=@eQ _ _ _ r.m;have i0:aZ 1 x.sn (.i 0)=_:=(c.nm (i:=0) De).1;have d0:=@(c.nm (i:=0) De).2;have j1:aZ 1 x.sv (.i 1)=_:=(c.vl (i:=1) De).1;have f1:=@(c.vl (i:=1) De).2.1;have q1:=(c.vl (i:=1) De).2.2;obtain⟨gmu,gtl,hg0⟩:=gl;have hn:1<=bI x.ev 1/\bI x.ev 1<=4:=by
  rw[bn]at hc;split at hc
  ·cases hc
  case isFalse hr=>exact iD hr
 have hw:IntKind.i64.wrap (bI x.ev 1-1)=bI x.ev 1-1:=bj Om Om;have a1:mS 4 2 (.ptr 0 0) (.i (bI x.ev 1-1))=some (.ptr 0 ((bI x.ev 1-1).toNat*2)):=by simp only[mS];rw[ZS Om,aau]
 have a2:mS 2 1 (.ptr 0 ((bI x.ev 1-1).toNat*2)) (.i 1)=some (.ptr 0 ((bI x.ev 1-1).toNat*2+1)):=by simp[mS]
 have lg:∀{k:ah},Ext (B++g) k->aq none (.ptr 0 ((bI x.ev 1-1).toNat*2+1)) (λb=>k[b]?)=some (.str (jW (bI x.ev 1)),.ay):=by
  intro k e;exact Rc
 have hnl:1<=x.ev.names.length:=by rw[c.we.nl];decide
 have hnl2:x.ev.names.length<=3:=by rw[c.we.nl];decide
 obtain⟨s',es',Sx⟩:=c.e.n.GR (lo:=some (.i 1)) (hi:=none) (mI (k:=1) hnl);have et:List.take (x.ev.names.length-1) (List.drop 1 x.ev.names)=x.ev.names.drop 1:=aal Si;rw[et]at Sx;obtain⟨y,hy⟩:∃y:cQ,y=⟨aL x.ev 0,jW (bI x.ev 1),[],x.ev.names.drop 1⟩:=⟨_,rfl⟩;refine Rs (D8 t0 t1 @hex @lb @fx @aO @aY @hw @a1 @a2 @lg @es' @i0 @d0 @j1 @f1) ?_;refine WF.res T.c177 (r177 T (Sx.ext Xx) (by simp;omega)) ?_;rintro t g1 Tz;have TQ:aP (y,t)=[.str (aL x.ev 0),.str (jW (bI x.ev 1)),.str [],t]:=by rw[hy];rfl
 have Tz:Fr (B++g).length (B++g++[ak.b x.row]++g1) t 1 (y.aI.map ao):=by rw[hy];exact Tz.low Si
 have ot:=Tz.aX.one;refine Rs (A3 t0 t1 @ot) ?_;rw[<-TQ];refine WR.fZ (h0:=B) (cs:=V.ar.map aP) (ys:=[aP (y,t)]) ((((r.o.i3).app _).app _).app _) (Fr.push (N:=0) (aac _) [aP (y,t)] (by simp[aP])).aX De Si (by have:=c.w.len.l3;simp;omega) Xx ?_;intro g' SI hff hkp;exact z8
def PX(r:bX B.length (B++g) b V)(c:Cx (B++g) V x .merge):du P 166 [.ptr b 0,.agg x.row] (B++g) (λ_ k=>tU B b V x.ev .merge k):=by
 refine .eP 31 T.mix T.c166 ?_;intro ts hlen t0 t1;unfold fn166;have hex:=@bh.box _ _ c.e;have lb:=@eQ _ _ _ r.m;have i0:aZ 1 x.sn (.i 0)=_:=(c.nm (i:=0) De).1;have d0:=@(c.nm (i:=0) De).2;have i1:aZ 1 x.sn (.i 1)=_:=(c.nm (i:=1) De).1;have d1:=@(c.nm (i:=1) De).2;have hnl:1<=x.ev.names.length:=by rw[c.we.nl];decide
 have hnl2:x.ev.names.length<=3:=by rw[c.we.nl];decide
 obtain⟨s',es',Sx⟩:=c.e.n.GR (lo:=some (.i 1)) (hi:=none) (mI (k:=1) hnl);have et:List.take (x.ev.names.length-1) (List.drop 1 x.ev.names)=x.ev.names.drop 1:=aal Si;rw[et]at Sx;have k1:aL x.ev 1∈fL V.an:=c.nk.kn 1 3 rfl;refine Rs (pB t0 t1 @hex @lb @fx @aF @aO @aY @i0 @d0 @i1 @d1) ?_;refine WF.res T.c245 (r245 T (c.o.ext Xx) c.w.len k1) ?_;rintro _ g1 ⟨z,hz,hz1,rfl⟩;unfold aP;obtain⟨y,hy⟩:∃y:cQ,y=⟨aL x.ev 0,(gT V.an (aL x.ev 1)).gives,[],x.ev.names.drop 1⟩:=⟨_,rfl⟩;refine Rs (A5 t0 t1 @lb @aO @es') ?_;refine WF.res T.c177 (r177 T (Sx.ext Xx) (by simp;omega)) ?_;rintro t g2 Tz;have TQ:aP (y,t)=[.str (aL x.ev 0),.str z.1.gives,.str [],t]:=by rw[hy,hz1];rfl
 have Tz:Fr (B++g).length (B++g++[ak.b x.row]++g1++g2) t 1 (y.aI.map ao):=by rw[hy];exact Tz.low (by simp only[ZB];omega)
 have ot:=Tz.aX.one;refine Rs (A3 t0 t1 @ot) ?_;rw[<-TQ];refine WR.fZ (h0:=B) (cs:=V.ar.map aP) (ys:=[aP (y,t)]) (((((r.o.i3).app _).app _).app _).app _) (Fr.push (N:=0) (aac _) [aP (y,t)] (by simp[aP])).aX De Si (by have:=c.w.len.l3;simp;omega) Xx ?_;intro g' SI hff hkp;exact z8
def PT(r:bX B.length (B++g) b V)(c:Cx (B++g) V x .gE):du P 174 [.ptr b 0,.agg x.row] (B++g) (λ_ k=>tU B b V x.ev .gE k):=by
 refine .eP 32 T.mix T.c174 ?_;intro ts hlen t0 t1;unfold fn174;have hex:=@bh.box _ _ c.e;have lb:=@eQ _ _ _ r.m;have i0:aZ 1 x.sn (.i 0)=_:=(c.nm (i:=0) De).1;have d0:=@(c.nm (i:=0) De).2;have i1:aZ 1 x.sn (.i 1)=_:=(c.nm (i:=1) De).1;have d1:=@(c.nm (i:=1) De).2;have k1:aL x.ev 1∈iA V.an:=c.nk.kn 1 4 rfl;refine Rs (pB t0 t1 @hex @lb @gY @aF @aO @aY @i0 @d0 @i1 @d1) ?_;refine WF.res T.c124 (r124 T (c.o.ext Xx) c.w.len k1) ?_;rintro _ g1 ⟨z,hz,hz1,rfl⟩;have hzb:=(c.w.jb z.1 (ZT hz)).2;unfold bK;refine Rs (A2 t0 t1) ?_;refine WF.ce T.c95 (r95 T ((c.o.e4 z hz).ext Xx) Om hzb.2.2) λg2=>?_
 obtain⟨y,hy⟩:∃y:nP,y=⟨aL x.ev 0,aL x.ev 1,fP (cW V.an (aL x.ev 1)).bd,false⟩:=⟨_,rfl⟩;have TQ:cF y=[.str (aL x.ev 0),.str (aL x.ev 1),.i (fP z.1.bd),.bool false]:=by rw[hy,hz1];rfl
 refine Rs (A2 t0 t1) ?_;rw[<-TQ];refine WR.fZ (h0:=B) (cs:=V.aJ.map cF) (ys:=[cF y]) (((((r.o.i5).app _).app _).app _).app _) (Fr.push (N:=0) (aac _) [cF y] (by simp[cF])).aX De Si (by have:=c.w.len.l5;simp;omega) Xx ?_;intro g' SI hff hkp;have hrow:V.aJ.map cF++[cF y]=(V.aJ++[y]).map cF:=by rw[ZM];rfl
 rw[hrow]at hff;rw[hrow];have hbl:=r.lt;have SM:sB V.s5≠some b:=λe=>r.ne (by rw[<-e];simp[RV.bl])
 have hk1:∀i,i<(B++g).length->sB V.s5≠some i->(B++g')[i]? =(B++g)[i]? :=λi hi hne=>by
  exact J2
 have mB:(B++g')[b]? =some (.b V.row):=(hk1 b hbl SM).trans r.m;have Vv:=λ(b' o n e:Nat)=>iI (i:=6) (v:=.slice b' o n e) mB rfl De
 refine Rs (A4 t0 t1 @Vv @fe) ?_;exact MX r hff (λi hi=>by cases hi;exact .inr (by simp only[ZB];omega)) hk1 (by rw[hy];rfl)
end
def bX.RE{N b h k V}(r:bX N h b V){i}(hi:i<V.aE.length){y}(hy:y.name=V.aE[i].1.name/\y.mod=V.aE[i].1.mod)(hf:Fr N k V.aE[i].2 1 (y.bd.map aM))
  (hk:∀j,j<h.length->sB V.aE[i].2≠some j->k[j]? =h[j]?):bX N k b {V with aE:=V.aE.set i (y,V.aE[i].2) }:=by
 have hin:∀j,some j∈V.bl->N<=j/\j<h.length:=λj hj=>r.o.dU hj
 have hbl:{V with aE:=V.aE.set i (y,V.aE[i].2) }.bl=V.bl:=by
  simp only[RV.bl,abJ];congr 1;have:sB V.aE[i].2=(V.aE.map λx=>sB x.2)[i]'(by simpa using hi):=Si
  exact HJ
 obtain⟨h1,h2,h3⟩:=aaT.1 (show lG (([sB V.s0,sB V.s1,sB V.s2,sB V.s3,sB V.s4,sB V.s5]++(V.aj.map λx=>sB x.2)++(V.ar.map λx=>sB x.2))++(V.aE.map λx=>sB x.2))from r.o.di);have T8:sB V.aE[i].2∈V.aE.map λx=>sB x.2:=ZT (f:=λx:kF×AV=>sB x.2) (ZR hi)
 have kA:∀j,some j∈([sB V.s0,sB V.s1,sB V.s2,sB V.s3,sB V.s4,sB V.s5]++(V.aj.map λx=>sB x.2)++(V.ar.map λx=>sB x.2))->k[j]? =h[j]? :=λj hj=>
  hk j (hin j (by rw[RV.bl];exact ZK.2 (.inl hj))).2 (h3 _ hj _ T8 j rfl)
 have k6:∀j,some j∈[sB V.s0,sB V.s1,sB V.s2,sB V.s3,sB V.s4,sB V.s5]->k[j]? =h[j]? :=λj hj=>kA j (by simp only[ZK];exact .inl (.inl hj))
 have hrow:(V.aE.set i (y,V.aE[i].2)).map bK=V.aE.map bK:=by
  rw[abJ];have:bK (y,V.aE[i].2)=(V.aE.map bK)[i]'(by simpa using hi):=by simp[bK,hy.1,hy.2]
  exact HJ
 have own:cJ N k {V with aE:=V.aE.set i (y,V.aE[i].2) }:=by
  refine⟨r.o.i0.aC λj hj=>k6 j (by rw[<-hj];simp),r.o.i1.aC λj hj=>k6 j (by rw[<-hj];simp),r.o.i2.aC λj hj=>k6 j (by rw[<-hj];simp),r.o.i3.aC λj hj=>k6 j (by rw[<-hj];simp),?_,r.o.i5.aC λj hj=>k6 j (by rw[<-hj];simp),?_,?_,?_,?_⟩
  ·show Fr N k V.s4 3 ((V.aE.set i (y,V.aE[i].2)).map bK);rw[hrow];exact r.o.i4.aC λj hj=>k6 j (by rw[<-hj];simp)
  ·exactλx hx=>(r.o.e2 x hx).aC λj hj=>kA j (by rw[<-hj];simp only[ZK,Z3];exact .inl (.inr ⟨x,hx,rfl⟩))
  ·exactλx hx=>(r.o.e3 x hx).aC λj hj=>kA j (by rw[<-hj];simp only[ZK,Z3];exact .inr ⟨x,hx,rfl⟩)
  ·intro x hx;obtain⟨n,hn,rfl⟩:=abt hx;have Xk:n<V.aE.length:=by simpa using hn
   by_cases hni:n=i
   ·subst hni;simp only[abA];exact hf
   ·simp only[abK (aa3 hni)];refine(r.o.e4 _ (ZR Xk)).aC λj hj=>hk j ?_ λe=>?_
    ·exact((r.o.e4 _ (ZR Xk)).bP hj).2
    ·have e1:(V.aE.map λx=>sB x.2)[n]'(by simpa using Xk)=some j:=by simpa using hj
     have e2:(V.aE.map λx=>sB x.2)[i]'(by simpa using hi)=some j:=by simpa using e
     rcases Nat.lt_or_gt_of_ne hni with hlt|hlt
     ·exact List.pairwise_iff_getElem.1 h2 n i (by simpa using Xk) (by simpa using hi) hlt j e1 e2
     ·exact List.pairwise_iff_getElem.1 h2 i n (by simpa using hi) (by simpa using Xk) hlt j e2 e1
  ·show lG {V with aE:=V.aE.set i (y,V.aE[i].2) }.bl;rw[hbl];exact r.o.di
 refine⟨own,r.hN,?_,by rw[hbl];exact r.ne⟩;have:sB V.aE[i].2≠some b:=λe=>r.ne (by rw[<-e,RV.bl];exact ZK.2 (.inr T8))
 exact(hk b r.lt this).trans r.m
section
variable {P:Program}(T:fy P) {B g:ah}{b:Nat}{V:RV}{x:EV}
include T
def P0(r:bX B.length (B++g) b V)(c:Cx (B++g) V x .accept):du P 160 [.ptr b 0,.agg x.row] (B++g) (λ_ k=>tU B b V x.ev .accept k):=by
 refine .eP 19 T.mix T.c160 ?_;intro ts hlen t0 t1;unfold fn160 yU;have hex:=@bh.box _ _ c.e;have lb:=@eQ _ _ _ r.m;have i0:aZ 1 x.sn (.i 0)=_:=(c.nm (i:=0) De).1;have d0:=@(c.nm (i:=0) De).2;have hn:aL x.ev 0∈gq V.an:=c.nk.kn 0 0 rfl;have hlt:a8 (gq V.an) (aL x.ev 0)<V.lines.length:=by have:=cL hn;simpa [gq,RV.an]using this
 have ei:dm (λy:dX=>decide (y.name=aL x.ev 0)) V.lines=(a8 (gq V.an) (aL x.ev 0):Int):=fk (f:=dX.name) hn;have ix:aZ 3 V.s0 (.i (a8 (gq V.an) (aL x.ev 0):Int))=some (cT V.s0 3 (a8 (gq V.an) (aL x.ev 0)),.ay):=c.o.i0.dE hlt;have sp:dq V.an (aL x.ev 0)=V.lines[a8 (gq V.an) (aL x.ev 0)]:=cS hn;refine Rs (A8 t0 t1 @hex @lb @fR @aO @i0 @d0) ?_;refine WF.ce T.c142 (r142 T (c.o.i0.ext Xx) (by have:=c.w.len.l0;omega) _) λg1=>?_
 rw[ei];refine Rs (A3 t0 t1 ix) ?_;rw[ZE B g,ZE B];refine WR.vE (h0:=B) (x':={V.lines[a8 (gq V.an) (aL x.ev 0)]with acc:=true}) (by rw[<-ZE,<-ZE];exact(r.o.i0.app _).app _) hlt De rfl rfl ?_;intro g' SI hff hkp;have hbl:=r.lt;have SM:sB V.s0≠some b:=λe=>r.ne (by rw[<-e];simp[RV.bl])
 have hk1:∀i,i<(B++g).length->sB V.s0≠some i->(B++g')[i]? =(B++g)[i]? :=λi hi hne=>by
  rw[hkp i (λb0 o n e he z=>hne (by rw[he,z];rfl)),<-ZE,<-ZE];exact N8
 refine Rs (A3 t0 t1 @fe) ?_;refine⟨g',{V with lines:=V.lines.set (a8 (gq V.an) (aL x.ev 0)) {V.lines[a8 (gq V.an) (aL x.ev 0)]with acc:=true},s0:=V.s0},rfl,r.NO hff (λi hi=>.inl hi) ((hk1 b hbl SM).trans r.m) (λi hi h1 _=>hk1 i hi h1),?_⟩;simp only[dt,sp];rfl
def PS(r:bX B.length (B++g) b V)(c:Cx (B++g) V x .rel):du P 176 [.ptr b 0,.agg x.row] (B++g) (λ_ k=>tU B b V x.ev .rel k):=by
 refine .eP 19 T.mix T.c176 ?_;intro ts hlen t0 t1;unfold fn176 yU;have hex:=@bh.box _ _ c.e;have lb:=@eQ _ _ _ r.m;have i0:aZ 1 x.sn (.i 0)=_:=(c.nm (i:=0) De).1;have d0:=@(c.nm (i:=0) De).2;have hn:aL x.ev 0∈lh V.an:=c.nk.kn 0 5 rfl;have hlt:a8 (lh V.an) (aL x.ev 0)<V.aJ.length:=by have:=cL hn;simpa [lh,RV.an]using this
 have ei:dm (λy:nP=>decide (y.name=aL x.ev 0)) V.aJ=(a8 (lh V.an) (aL x.ev 0):Int):=fk (f:=nP.name) hn;have ix:aZ 4 V.s5 (.i (a8 (lh V.an) (aL x.ev 0):Int))=some (cT V.s5 4 (a8 (lh V.an) (aL x.ev 0)),.ay):=c.o.i5.dE hlt;have sp:jr V.an (aL x.ev 0)=V.aJ[a8 (lh V.an) (aL x.ev 0)]:=cS hn;refine Rs (A8 t0 t1 @hex @lb @gY @aO @i0 @d0) ?_;refine WF.ce T.c146 (r146 T (c.o.i5.ext Xx) (by have:=c.w.len.l5;omega) _) λg1=>?_
 rw[ei];refine Rs (A3 t0 t1 ix) ?_;rw[ZE B g,ZE B];refine WR.vE (h0:=B) (x':={V.aJ[a8 (lh V.an) (aL x.ev 0)]with rel:=true}) (by rw[<-ZE,<-ZE];exact(r.o.i5.app _).app _) hlt De rfl rfl ?_;intro g' SI hff hkp;have hbl:=r.lt;have SM:sB V.s5≠some b:=λe=>r.ne (by rw[<-e];simp[RV.bl])
 have hk1:∀i,i<(B++g).length->sB V.s5≠some i->(B++g')[i]? =(B++g)[i]? :=λi hi hne=>by
  rw[hkp i (λb0 o n e he z=>hne (by rw[he,z];rfl)),<-ZE,<-ZE];exact N8
 refine Rs (A3 t0 t1 @fe) ?_;refine⟨g',{V with aJ:=V.aJ.set (a8 (lh V.an) (aL x.ev 0)) {V.aJ[a8 (lh V.an) (aL x.ev 0)]with rel:=true},s5:=V.s5},rfl,r.NN hff (λi hi=>.inl hi) ((hk1 b hbl SM).trans r.m) (λi hi h1 _=>hk1 i hi h1),?_⟩;simp only[dt,sp];rfl
def MU(r:bX B.length (B++g) b V){d}(c:Cx (B++g) V x d)(hd:1<cD d)(h0:0<(bJ d).length)(hn:aL x.ev 0∈iA V.an)(hlt1:bI x.ev 1<(cW V.an (aL x.ev 0)).bd.length)(s:Int):
  du P 250 [.ptr b 0,.agg x.row,.i s] (B++g) (λ_ k=>∃g' V',k=B++g'/\bX B.length (B++g') b V'/\V'.an={V.an with aE:=lC V.an x.ev s}):=by
 refine .nW 28 T.mix T.c250 ?_;intro ts hlen t0 t1 t2;unfold fn250;have hex:=@bh.box _ _ c.e;have lb:=@eQ _ _ _ r.m;have i0:aZ 1 x.sn (.i 0)=_:=(c.nm (i:=0) h0).1;have d0:=@(c.nm (i:=0) h0).2;have j1:aZ 1 x.sv (.i 1)=_:=(c.vl (i:=1) hd).1;have f1:=@(c.vl (i:=1) hd).2.1;have q1:=(c.vl (i:=1) hd).2.2;have hlt:a8 (iA V.an) (aL x.ev 0)<V.aE.length:=by have:=cL hn;simpa [iA,RV.an]using this
 have ei:dm (λy:kF×AV=>decide (y.1.name=aL x.ev 0)) V.aE=(a8 (iA V.an) (aL x.ev 0):Int):=(fk (f:=λy:kF×AV=>y.1.name) (by rw[<-iF];exact hn)).trans (by rw[iF]);have ix:aZ 3 V.s4 (.i (a8 (iA V.an) (aL x.ev 0):Int))=some (cT V.s4 3 (a8 (iA V.an) (aL x.ev 0)),.ay):=c.o.i4.dE hlt;have sp:(V.aE[a8 (iA V.an) (aL x.ev 0)]).1=cW V.an (aL x.ev 0):=by
  have:=cS (f:=kF.name) (l:=V.an.aE) (n:=aL x.ev 0) (d:=vO) hn;rw[show cW V.an (aL x.ev 0)=_ from this];exact Eg
 obtain⟨p,hp⟩:∃p,p=a8 (iA V.an) (aL x.ev 0):=⟨_,rfl⟩;rw[<-hp]at ei ix;have hlt:p<V.aE.length:=by rw[hp];exact hlt
 have sp:V.aE[p].1=cW V.an (aL x.ev 0):=by rw[<-sp];congr 2
 have l2:∀{k:ah},Ext (B++g) k->aq none (mD V.s4 3 p 2) (λb=>k[b]?)=some (V.aE[p].2,.ay):=λ{k} e=>c.o.i4.qz hlt rfl e
 have oj:=r.o.e4 _ (ZR hlt);have hsl:(bI x.ev 1).toNat<V.aE[p].1.bd.length:=by rw[sp];omega
 have XY:bI x.ev 1=((bI x.ev 1).toNat:Int):=Om
 have iy:aZ 1 V.aE[p].2 (.i (bI x.ev 1))=some (cT V.aE[p].2 1 (bI x.ev 1).toNat,.ay):=by
  rw[XY];exact oj.aX.dE hsl
 refine Rs (A9 t0 t1 t2 @hex @lb @ga @aO @i0 @d0) ?_;refine WF.ce T.c145 (r145 T (c.o.i4.ext Xx) c.o.js.2.2 (by have:=c.w.len.l4;omega) _) λg1=>?_
 rw[ei];refine Rs (A9 t0 t1 t2 ix @l2 @aY @j1 @f1 @iy) ?_;rw[ZE B g,ZE B];have WD:cT V.aE[p].2 1 (bI x.ev 1).toNat=mD V.aE[p].2 1 (bI x.ev 1).toNat 0:=rfl;rw[WD];refine WR.vE (h0:=B) (x':=s) (row:=aM) (L:=V.aE[p].1.bd) (by rw[<-ZE,<-ZE];exact(oj.app _).app _) hsl De rfl rfl ?_;intro g' SI hff hkp;have hk1:∀i,i<(B++g).length->sB V.aE[p].2≠some i->(B++g')[i]? =(B++g)[i]? :=λi hi hne=>by
  rw[hkp i (λb0 o n e he z=>hne (by rw[he,z];rfl)),<-ZE,<-ZE];exact N8
 refine Rs (A4 t0 t1 t2 @fe) ?_;refine⟨g',{V with aE:=V.aE.set p ({V.aE[p].1 with bd:=V.aE[p].1.bd.set (bI x.ev 1).toNat s},V.aE[p].2) },rfl,r.RE hlt ⟨rfl,rfl⟩ hff hk1,?_⟩;have e:lC V.an x.ev s=(V.aE.set p ({V.aE[p].1 with bd:=V.aE[p].1.bd.set (bI x.ev 1).toNat s},V.aE[p].2)).map Prod.fst:=by
  rw[lC,<-hp,<-sp,abJ];rfl
 rw[e];rfl
def PV(r:bX B.length (B++g) b V)(c:Cx (B++g) V x .fT)(hc:bn V.an x.ev .fT=0):du P 170 [.ptr b 0,.agg x.row] (B++g) (λ_ k=>tU B b V x.ev .fT k):=by
 refine .eP 11 T.mix T.c170 ?_;intro ts hlen t0 t1;unfold fn170 gA;have hex:=@bh.box _ _ c.e;have j2:aZ 1 x.sv (.i 2)=_:=(c.vl (i:=2) De).1;have f2:=@(c.vl (i:=2) De).2.1;have k0:aL x.ev 0∈iA V.an:=c.nk.kn 0 4 rfl;have hlt:bI x.ev 1<(cW V.an (aL x.ev 0)).bd.length:=by
  exact z70
 refine Rs (A7 t0 t1 @hex @b9 @aY @j2 @f2) ?_;rw[ZE B g];refine WF.gen T.c250 (MU T (B:=B) (by rw[<-ZE];exact r.app _) (by rw[<-ZE];exact c.ext Xx) De De k0 hlt (bI x.ev 2)) ?_;rintro _ _ ⟨g',V',rfl,h1,h2⟩;exact Ku
def PU(r:bX B.length (B++g) b V)(c:Cx (B++g) V x .fail)(hc:bn V.an x.ev .fail=0):du P 172 [.ptr b 0,.agg x.row] (B++g) (λ_ k=>tU B b V x.ev .fail k):=by
 refine .eP 7 T.mix T.c172 ?_;intro ts hlen t0 t1;unfold fn172 gA;have hex:=@bh.box _ _ c.e;have k0:aL x.ev 0∈iA V.an:=c.nk.kn 0 4 rfl;have hlt:bI x.ev 1<(cW V.an (aL x.ev 0)).bd.length:=by
  exact z70
 refine Rs (A4 t0 t1 @hex @b9) ?_;rw[ZE B g];refine WF.gen T.c250 (MU T (B:=B) (by rw[<-ZE];exact r.app _) (by rw[<-ZE];exact c.ext Xx) De De k0 hlt (-1)) ?_;rintro _ _ ⟨g',V',rfl,h1,h2⟩;exact Ku
end
def xQ{k:Nat}(hk:k<=32):eF .and (.int .u64 (k:Int)) (.int .u64 4294967295)=some (.int .u64 (k:Int))/\eF .shr (.int .u64 (k:Int)) (.int .u64 32)=some (.int .u64 0):=by
 have:k=0\/k=1\/k=2\/k=3\/k=4\/k=5\/k=6\/k=7\/k=8\/k=9\/k=10\/k=11\/k=12\/k=13\/k=14\/k=15\/k=16\/k=17\/k=18\/k=19\/k=20\/k=21\/k=22\/k=23\/k=24\/k=25\/k=26\/k=27\/k=28\/k=29\/k=30\/k=31\/k=32:=Om
 rcases this with rfl|rfl|rfl|rfl|rfl|rfl|rfl|rfl|rfl|rfl|rfl|rfl|rfl|rfl|rfl|rfl|rfl|rfl|rfl|rfl|rfl|rfl|rfl|rfl|rfl|rfl|rfl|rfl|rfl|rfl|rfl|rfl|rfl<;>exact⟨rfl,rfl⟩
def Ae:eF .and (.int .u64 0) (.int .u64 4294967295)=some (.int .u64 0)/\eF .shr (.int .u64 0) (.int .u64 32)=some (.int .u64 0):=⟨rfl,rfl⟩
def CE:eF .and (.int .u64 1) (.int .u64 4294967295)=some (.int .u64 1)/\eF .shr (.int .u64 1) (.int .u64 32)=some (.int .u64 0):=⟨rfl,rfl⟩
def Jo{x y:cZ}{ρ:cZ->AV}{h:ah}{b o n m N:Nat}{c:List AV}{tl:Bool}(hx:ρ x=.slice b o n 1)(hy:ρ y=.slice b 0 m 1)(hb:h[b]? =some (.cells c true tl))(hn:o+n<=c.length)(hm:m<=c.length)(h0:0<min m n):
  stepT (.zL 1 x y) ρ (λz=>h[z]?) N=some (.i (min m n:Nat),.set b (.cells (fU c o (c.take (min m n))) true tl)):=by
 have hc:fq 1 (λz=>h[z]?) (ρ y)=some (c.take m,m):=by
  rw[hy];simp only[fq,Z1,hb,aau,abM,aa0];rw[ZS hm]
 have e:stepT (.zL 1 x y) ρ (λz=>h[z]?) N=(match ρ x,fq 1 (λz=>h[z]?) (ρ y)with
  |.slice b o n es',some (ys,k)=>
   if es' =1 then
    if min k n=0 then some (.i 0,.ay)
    else
     match h[b]? with
     |some (.cells c true tl)=>if o+min k n*1<=c.length then some (.i (min k n:Nat),.set b (.cells (fU c o (ys.take (min k n*1))) true tl))else none
     |_=>none
   else none
  |.af,some _=>some (.i 0,.ay)
  |_,_=>none):=rfl
 rw[e,hc,hx];simp only[Z1,hb,abM];rw[ZN Om,ZS Om,List.take_take,abr (Nat.min_le_left _ _)]
def FF{x y ρ h b n N c v tl}(hx:ρ x=.slice b 0 n 1)(hy:aH h (ρ y) 1 [[v]])(hb:h[b]? =some (.cells c true tl))(hn:c.length=n)(h0:0<n):
  stepT (.zL 1 x y) ρ (λz=>h[z]?) N=some (.i 1,.set b (.cells (c.set 0 v) true tl)):=by
 have hc:=hy.fq;have e:stepT (.zL 1 x y) ρ (λz=>h[z]?) N=(match ρ x,fq 1 (λz=>h[z]?) (ρ y)with
  |.slice b o n es',some (ys,k)=>
   if es' =1 then
    if min k n=0 then some (.i 0,.ay)
    else
     match h[b]? with
     |some (.cells c true tl)=>if o+min k n*1<=c.length then some (.i (min k n:Nat),.set b (.cells (fU c o (ys.take (min k n*1))) true tl))else none
     |_=>none
   else none
  |.af,some _=>some (.i 0,.ay)
  |_,_=>none):=rfl
 have hm:min 1 n=1:=Om
 rw[e,hc,hx];simp only[Z1,hb,Z4,hm,abM];rw[ZN De,ZS Om];rfl
def B5{v z c m k}(hm:c+m<=k):fU (List.replicate c v++List.replicate (k-c) z) c (List.replicate m v)=List.replicate (c+m) v++List.replicate (k-(c+m)) z:=by
 induction m generalizing c with
 |zero=>rfl
 |succ m ih=>
  rw[abe,pE];have hk:k-c=(k-(c+1))+1:=Om
  have e:(List.replicate c v++List.replicate (k-c) z).set c v=List.replicate (c+1) v++List.replicate (k-(c+1)) z:=by
   rw[aaA _ _ Si,aaK,aaG,hk,abe,List.set_cons_zero,List.replicate_succ',ZE];rfl
  rw[e,ih Om];congr 2<;>omega
def BU{v z:AV}{c m k:Nat}(hm:m<=c):(List.replicate c v++List.replicate (k-c) z).take m=List.replicate m v:=by
 rw[abQ (by simpa using hm),List.take_replicate,abr hm]
section
variable {P:Program}(T:fy P) {h:ah}
include T
def r286{k:Nat}(hk:k<=32):aA P 286 [.int .u64 1,.int .u64 (k:Int)] h (λv _=>v=.dL [.int .u64 0,.int .u64 (k:Int)]):=by
 refine .eP 51 T.mix T.c286 ?_;intro ts hlen t0 t1;unfold fn286 gA;obtain⟨a1,a2⟩:=xQ hk;obtain⟨b1,b2⟩:=Ae;obtain⟨c1,c2⟩:=CE;have w1:IntKind.u64.wrap (1*(k:Int))=(k:Int):=by rw[Int.one_mul];exact yN Om Om
 have w2:IntKind.u64.wrap (0*(k:Int))=0:=by rw[Int.zero_mul];rfl
 have w3:IntKind.u64.wrap (0+0)=0:=rfl;have w4:IntKind.u64.wrap (1*0)=0:=rfl;have w5:IntKind.u64.wrap (0*0)=0:=rfl;exact Rs (Ad t0 t1 @a1 @a2 @b1 @b2 @c1 @c2 @w1 @w2 @w3 @w4 @w5) Tv
def r267{k:Nat}(hk:k<=32):aA P 267 [.int .u64 1,.int .u64 (k:Int)] h (λv _=>v=.dL [.int .u64 0,.int .u64 (k:Int)]):=by
 refine .eP 30 T.mix T.c267 ?_;intro ts hlen t0 t1;unfold fn267 gA;refine Rs (A2 t0 t1) ?_;refine WF.ce T.c286 (r286 T hk) λg1=>?_
 exact Rs (A2 t0 t1) Tv
def r248{s:AV}(hs:aH h s 1 (([-1] :List Int).map aM)){k:Nat}(hk:k<=32)(hk0:0<k):aA P 248 [s,.i (k:Int)] h (λv h'=>Fr h.length h' v 1 ((List.replicate k (-1:Int)).map aM)):=by
 refine .eP 48 T.mix T.c248 ?_;intro ts hlen t0 t1;unfold fn248 gA;have q0:decide ((k:Int)<0)=false:=ZD Om;have Vs:=λG=>hs.aK G
 have c1:IntKind.u64.wrap ((([-1] :List Int).length:Nat):Int)=1:=rfl;have c2:IntKind.u64.wrap (k:Int)=(k:Int):=yN Om Om;have q1:decide ((0:Int)<0)=false:=rfl;have q2:decide ((9223372036854775807:Int)<(k:Int))=false:=ZD Om;have c3:IntKind.i64.wrap (k:Int)=(k:Int):=bj Om Om;have mk:∀{N:Nat},tA 1 8 [AV.i 0] (.i (k:Int)) (.i (k:Int)) N=some (.slice N 0 k 1,.push (.cells (dO k [AV.i 0]) true true)):=om Om Om;refine Rs (A6 t0 t1 q0 @Vs @c1 @c2) ?_;refine WF.ce T.c267 (r267 T hk) λg1=>?_
 refine Rs (A6 t0 t1 q1 q2 @c3 @mk) ?_;rw[FF (b:=(h++g1).length) (n:=k) (v:=.i (-1)) (c:=dO k [AV.i 0]) (tl:=true)]
 rotate_left
 ·exact(Sq t0)
 ·have:aH (h++g1++[ak.cells (dO k [AV.i 0]) true true]) s 1 [[AV.i (-1)]]:=hs.ext Xx;refine Zs t0 ?_;exact this
 ·exact aV
 ·rw[mg,abE];simp
 ·exact hk0
 have hz:(dO k [AV.i 0]).set 0 (.i (-1))=List.replicate 1 (AV.i (-1))++List.replicate (k-1) (AV.i 0):=by
  rw[mg,abE];obtain⟨n,rfl⟩:∃n,k=n+1:=⟨k-1,Om⟩;rw[abe,List.set_cons_zero];rfl
 rw[hz];refine Rs (A2 t0 t1) ?_;obtain⟨b0,TM⟩:∃b0,b0=(h++g1).length:=⟨_,rfl⟩;rw[<-TM];have hN:h.length<=b0:=by rw[TM];simp
 refine WL.inv T.mix (λn ts h'=>∃c:Nat,1<=c/\c<=k/\n=k-c/\h' =h++g1++[ak.cells (List.replicate c (AV.i (-1))++List.replicate (k-c) (AV.i 0)) true true]/\ts.length=48/\slot ts 7=.slice b0 0 k 1/\slot ts 8=.i (c:Int)) (k-1)
  ⟨1,Om,Om,rfl,rfl,Sn,(Sq t0),gP⟩ ?_
 rintro _ ts _ ⟨c,h1,h2,rfl,rfl,hlen,t7,t8⟩;have hb:(h++g1++[ak.cells (List.replicate c (AV.i (-1))++List.replicate (k-c) (AV.i 0)) true true])[b0]? =some (.cells (List.replicate c (AV.i (-1))++List.replicate (k-c) (AV.i 0)) true true):=by rw[TM];exact aV
 have XK:∀G:Nat->Option ak,ju .sl G (.slice b0 0 k 1)=some k:=λ_=>rfl
 by_cases hlt:c<k
 ·have e3:decide ((c:Int)<(k:Int))=true:=ZI Om;have s1:Bx 1 (.slice b0 0 k 1) (some (.i (c:Int))) none=some (.slice b0 c (k-c) 1,.ay):=by
   simp only[Bx,Z1,mI (kk:=.i64) h2,abM,aau]
  have s2:Bx 1 (.slice b0 0 k 1) none (some (.i (c:Int)))=some (.slice b0 0 c 1,.ay):=by
   simp only[Bx,Z1,jQ (kk:=.i64) h2,abM,aau,Nat.sub_zero]
  refine Rs (A6 t7 t8 @XK e3 @s1 @s2) ?_;rw[Jo (b:=b0) (o:=c) (n:=k-c) (m:=c) (c:=List.replicate c (AV.i (-1))++List.replicate (k-c) (AV.i 0)) (tl:=true)]
  rotate_left
  ·exact(Sq t7)
  ·exact(Sq t7)
  ·exact hb
  ·exact z168
  ·exact z168
  ·omega
  rw[BU (Nat.min_le_left _ _),B5 Om];have bS:∀X:ak,(h++g1++[ak.cells (List.replicate c (AV.i (-1))++List.replicate (k-c) (AV.i 0)) true true]).set b0 X=h++g1++[X]:=λX=>by rw[TM];exact B4
  have hw:IntKind.i64.wrap ((c:Int)+((min c (k-c):Nat):Int))=((c+min c (k-c):Nat):Int):=by rw[bj Om Om];rfl
  refine Rs (A4 t7 t8 @bS @hw) ?_;exact⟨_,Om,c+min c (k-c),Om,Om,rfl,rfl,rfl⟩
 ·have e3:decide ((c:Int)<(k:Int))=false:=ZD Om;have e4:c=k:=Om
  refine Rs (A4 t7 t8 @XK e3) ?_;have S4:(List.replicate c (AV.i (-1))++List.replicate (k-c) (AV.i 0))=((List.replicate k (-1:Int)).map aM).flatten:=by
   rw[e4,aaG,ab3,Z6,List.map_replicate,abE]
  have Wp:((List.replicate k (-1:Int)).map aM).length=k:=Si
  rw[S4]at hb;have:=Fr.mk (N:=h.length) (es:=1) (cs:=(List.replicate k (-1:Int)).map aM) (b:=b0) (tl:=true) hN hb Si;rw[Wp]at this;rw[S4];exact this
end
section
variable {P:Program}(T:fy P) {B g:ah}{b:Nat}{V:RV}{x:EV}
include T
def PW(r:bX B.length (B++g) b V)(c:Cx (B++g) V x .run)(hc:bn V.an x.ev .run=0):du P 168 [.ptr b 0,.agg x.row] (B++g) (λ_ k=>tU B b V x.ev .run k):=by
 refine .eP 28 T.mix T.c168 ?_;intro ts hlen t0 t1;unfold fn168;have hex:=@bh.box _ _ c.e;have lb:=@eQ _ _ _ r.m;have i0:aZ 1 x.sn (.i 0)=_:=(c.nm (i:=0) De).1;have d0:=@(c.nm (i:=0) De).2;have i1:aZ 1 x.sn (.i 1)=_:=(c.nm (i:=1) De).1;have d1:=@(c.nm (i:=1) De).2;have j1:aZ 1 x.sv (.i 1)=_:=(c.vl (i:=1) De).1;have f1:=@(c.vl (i:=1) De).2.1;have q1:=(c.vl (i:=1) De).2.2;have hn:1<=bI x.ev 1/\bI x.ev 1<=32:=by
  rw[bn]at hc;split at hc
  ·cases hc
  split at hc
  ·cases hc
  case isFalse hr=>exact iD hr
 obtain⟨k,hk⟩:∃k:Nat,bI x.ev 1=(k:Int):=⟨(bI x.ev 1).toNat,Om⟩;rw[hk]at f1;obtain⟨y,hy⟩:∃y:kF,y=⟨aL x.ev 0,aL x.ev 1,List.replicate k (-1)⟩:=⟨_,rfl⟩;refine Rs (Ad t0 t1 @hex @lb @ga @aO @aY @i0 @d0 @i1 @d1 @j1 @f1) ?_;refine WF.res T.c248 (r248 T (s:=.slice (B++g++[ak.b x.row]).length 0 1 1) (k:=k) (cC [-1]) Om Om) ?_;rintro t g1 Tz;have TQ:bK (y,t)=[.str (aL x.ev 0),.str (aL x.ev 1),t]:=by rw[hy];rfl
 have Tz:Fr (B++g).length (B++g++[ak.b x.row]++[ak.cells [AV.i (-1)] true true]++g1) t 1 (y.bd.map aM):=by rw[hy];exact Tz.low (by simp only[ZB,Z4];omega)
 have ot:=Tz.aX.one;refine Rs (A3 t0 t1 @ot) ?_;rw[<-TQ];refine WR.fZ (h0:=B) (cs:=V.aE.map bK) (ys:=[bK (y,t)]) (((((r.o.i4).app _).app _).app _).app _) (Fr.push (N:=0) (aac _) [bK (y,t)] (by simp[bK])).aX De Si (by have:=c.w.len.l4;simp;omega) Xx ?_;intro g' SI hff hkp;have hrow:V.aE.map bK++[bK (y,t)]=(V.aE++[(y,t)]).map bK:=by rw[ZM];rfl
 rw[hrow]at hff;rw[hrow];have hbl:=r.lt;have SM:sB V.s4≠some b:=λe=>r.ne (by rw[<-e];simp[RV.bl])
 have hk1:∀i,i<(B++g).length->sB V.s4≠some i->(B++g')[i]? =(B++g)[i]? :=λi hi hne=>by
  exact J2
 have mB:(B++g')[b]? =some (.b V.row):=(hk1 b hbl SM).trans r.m;have Vv:=λ(b' o n e:Nat)=>iI (i:=5) (v:=.slice b' o n e) mB rfl De
 refine Rs (A4 t0 t1 @Vv @fe) ?_;refine MY r hff ?_ (λi hi=>by cases hi;exact .inr (by simp only[ZB,Z4];omega)) hk1 ?_ ?_
 ·refine Fr.low (N:=(B++g).length) ((show Fr (B++g).length _ t 1 _ from Tz.app _).aC λi hi=>hkp i ?_ (λb0 o n e he z=>?_)) Si
  ·have:=(Tz.bP hi).2;simp only[ZB,Z4]at this ⊢;omega
  ·have h1:=(Tz.bP hi).1;have h2:=(r.o.i4.bP (show sB V.s4=some i by rw[he,z];rfl)).2;omega
 ·intro i hi;exact Rt
 ·have e:(bI x.ev 1).toNat=k:=Om
  rw[hy];simp[RV.an,dt,e]
end
end Go.Abs
namespace Go.Abs
section
variable {P:Program}{ro:Option Nat->Prop}{ks:List Kt}{ts:TS}{h:ah}{Q:Ex->TS->ah->Prop}{S:ah->Prop}{K:TS->ah->Prop}{l:List bL}
def pr(S:ah->Prop)(H:WM P S l ts h (kq P ro ks Q .normal)):WC P ro (.mM l) ks ts h Q:=⟨S,H⟩
def db{o}(hS:S h)(hl:mR o=false)(hn:kO (o::l)=false)(H:WP P bN [o] [] ts h (λ_ Uc h1=>WM P S l Uc h1 K)):WM P S (o::l) ts h K:=⟨hS,.inr ⟨hn,.inr ⟨hl,H⟩⟩⟩
def pq{o}(hS:S h)(hl:kO (o::l)=true)(H:WP P ro (o::l) ks ts h Q):WM P S (o::l) ts h (kq P ro ks Q .normal):=⟨hS,.inl ⟨hl,H⟩⟩
def lA{n a d v}(hS:S h)(hv:∀g,S g->aq n (val ts a) (λb=>g[b]?)=some (v,.ay))(H:WM P S l (put ts d v) h K)(hn:kO (({dst:=d,k:=.load n a,gd:=none,q:=true}:bL)::l)=false:=by rfl):WM P S ({dst:=d,k:=.load n a,gd:=none,q:=true} ::l) ts h K:=by
 refine⟨hS,.inr ⟨hn,.inl ⟨rfl,v,λg hg=>?_,H⟩⟩⟩;refine dB.run trivial ?_ ?_
 ·cases d<;>trivial
 ·have h1:stepT (.load n a) (val ts) (λb=>g[b]?) g.length=some (v,.ay):=hv g hg;exact nV h1
end
def bX.RD{N b h k V}(r:bX N h b V){i}(hi:i<V.aj.length){y t}(hs:Fr N k V.s2 3 ((V.aj.set i (y,t)).map bf))(ht:Fr N k t 1 (y.aG.map ao))(hnt:∀j,sB t=some j->h.length<=j)
  (hk:∀j,j<h.length->sB V.s2≠some j->sB V.aj[i].2≠some j->k[j]? =h[j]?):bX N k b {V with aj:=V.aj.set i (y,t) }:=by
 have hin:∀j,some j∈V.bl->N<=j/\j<h.length:=λj hj=>r.o.dU hj
 let l1:List (Option Nat):=[sB V.s0,sB V.s1,sB V.s2,sB V.s3,sB V.s4,sB V.s5]++(V.aj.take i).map λx=>sB x.2
 let l2:List (Option Nat):=(V.aj.drop (i+1)).map (λx=>sB x.2)++(V.ar.map λx=>sB x.2)++(V.aE.map λx=>sB x.2)
 have hV:V.bl=l1++sB V.aj[i].2::l2:=by
  have e:V.aj=V.aj.take i++V.aj[i]::V.aj.drop (i+1):=by rw[<-abD hi,aa5]
  have e2:(V.aj.map λx=>sB x.2)=(V.aj.take i).map (λx=>sB x.2)++sB V.aj[i].2:: (V.aj.drop (i+1)).map (λx=>sB x.2):=by
   conv=>lhs;rw[e]
   simp only[ZM,aar]
  exact Kp
 have XU:{V with aj:=V.aj.set i (y,t) }.bl=l1++sB t::l2:=by
  have e2:((V.aj.set i (y,t)).map λx=>sB x.2)=(V.aj.take i).map (λx=>sB x.2)++sB t:: (V.aj.drop (i+1)).map (λx=>sB x.2):=by
   rw[List.set_eq_take_append_cons_drop,ZS hi];simp only[ZM,aar]
  exact Kp
 have Tq:=r.o.di;rw[hV]at Tq;obtain⟨h1,h2,h3⟩:=aaT.1 Tq;have h4:=aaH.1 h2;have nti:∀j,some j∈l1\/some j∈l2->sB V.aj[i].2≠some j:=λj hj e=>by
  rcases hj with hj|hj
  ·exact h3 _ hj _ Si j rfl e
  ·exact h4.1 _ hj j e rfl
 have hlt:∀j,some j∈l1\/some j∈l2->j<h.length:=λj hj=>(hin j (by rw[hV];exact ja hj)).2
 have ns2:∀j,(some j∈[sB V.s0,sB V.s1]\/some j∈[sB V.s3,sB V.s4,sB V.s5]++((V.aj.map λx=>sB x.2)++(V.ar.map λx=>sB x.2)++(V.aE.map λx=>sB x.2)))->sB V.s2≠some j:=λj hj e=>by
  have XP:lG ([sB V.s0,sB V.s1]++sB V.s2:: ([sB V.s3,sB V.s4,sB V.s5]++((V.aj.map λx=>sB x.2)++(V.ar.map λx=>sB x.2)++(V.aE.map λx=>sB x.2)))):=by
   have:=r.o.di;simp only[RV.bl]at this
   simpa using this
  obtain⟨a1,a2,a3⟩:=aaT.1 XP;rcases hj with hj|hj
  ·exact a3 _ hj _ Si j rfl e
  ·exact(aaH.1 a2).1 _ hj j e rfl
 have kp:∀j,(some j∈l1\/some j∈l2)->sB V.s2≠some j->k[j]? =h[j]? :=λj hj hn=>hk j (hlt j hj) hn (nti j hj)
 have own:cJ N k {V with aj:=V.aj.set i (y,t) }:=by
  refine⟨r.o.i0.aC λj hj=>kp j (.inl (by rw[<-hj];simp[l1])) (ns2 j (.inl (by rw[<-hj];simp))),r.o.i1.aC λj hj=>kp j (.inl (by rw[<-hj];simp[l1])) (ns2 j (.inl (by rw[<-hj];simp))),hs,
   r.o.i3.aC λj hj=>kp j (.inl (by rw[<-hj];simp[l1])) (ns2 j (.inr (by rw[<-hj];simp))),r.o.i4.aC λj hj=>kp j (.inl (by rw[<-hj];simp[l1])) (ns2 j (.inr (by rw[<-hj];simp))),r.o.i5.aC λj hj=>kp j (.inl (by rw[<-hj];simp[l1])) (ns2 j (.inr (by rw[<-hj];simp))),?_,?_,?_,?_⟩
  ·intro x hx;obtain⟨n,hn,rfl⟩:=abt hx;have Xk:n<V.aj.length:=by simpa using hn
   by_cases hni:n=i
   ·subst hni;simp only[abA];exact ht
   ·simp only[abK (aa3 hni)];refine(r.o.e2 _ (ZR Xk)).aC λj hj=>kp j ?_ (ns2 j (.inr ?_))
    ·rcases Nat.lt_or_gt_of_ne hni with hlt|hlt
     ·left
      refine ZK.2 (.inr (Z3.2 ⟨V.aj[n],?_,hj⟩));exact List.mem_take_iff_getElem.2 ⟨n,Om,rfl⟩
     ·right
      simp only[l2,ZK];refine .inl (.inl (Z3.2 ⟨V.aj[n],?_,hj⟩));exact List.mem_drop_iff_getElem.2 ⟨n-(i+1),Om,by congr 1;omega⟩
    ·simp only[ZK];exact .inr (.inl (.inl (Z3.2 ⟨V.aj[n],ZR Xk,hj⟩)))
  ·intro x hx;refine(r.o.e3 x hx).aC λj hj=>kp j (.inr ?_) (ns2 j (.inr ?_))
   ·simp only[l2,ZK];exact .inl (.inr (Z3.2 ⟨x,hx,hj⟩))
   ·simp only[ZK];exact .inr (.inl (.inr (Z3.2 ⟨x,hx,hj⟩)))
  ·intro x hx;refine(r.o.e4 x hx).aC λj hj=>kp j (.inr ?_) (ns2 j (.inr ?_))
   ·simp only[l2,ZK];exact .inr (Z3.2 ⟨x,hx,hj⟩)
   ·simp only[ZK];exact .inr (.inr (Z3.2 ⟨x,hx,hj⟩))
  ·show lG {V with aj:=V.aj.set i (y,t) }.bl;rw[XU];refine Tq.yg λj hj=>.inr ⟨λz hz e=>?_,λz hz e=>?_⟩
   ·subst e;have:=hlt j (.inl hz);have:=hnt j hj;omega
   ·subst e;have:=hlt j (.inr hz);have:=hnt j hj;omega
 have hne:=r.ne;rw[hV]at hne;refine⟨own,r.hN,?_,λhb=>?_⟩
 ·have n1:sB V.s2≠some b:=λe=>hne (ja (.inl (by rw[<-e];simp[l1])))
  have n2:sB V.aj[i].2≠some b:=λe=>hne (by rw[e];simp)
  exact(hk b r.lt n1 n2).trans r.m
 ·rw[XU]at hb;rcases vZ hb with z|z|z
  ·exact hne (ja (.inl z))
  ·have:=hnt b z.symm;have:=r.lt;omega
  ·exact hne (ja (.inr z))
set_option maxRecDepth 10000
attribute [local irreducible] WP WC WE WB WR WF WL WG gk
section
variable {P:Program}(T:fy P) {h:ah}
include T
def r266{L s}(hs:aH h s 1 (L.map ao))(hl:L.length<2^63)(n:By):aA P 266 [s,.str n] h (λv _=>v=.i (dm (λy=>decide (n=y)) L)):=by
 refine .eP 19 T.mix T.c266 ?_;intro ts hlen t0 t1;unfold fn266 gA;refine Rs (A3 t0 t1 hs.aK) ?_;refine WL.inv T.mix (λm ts h'=>∃k:Nat,k<=L.length/\m=L.length-k/\h' =h/\L.findIdx? (λy=>decide (n=y))=((L.drop k).findIdx? (λy=>decide (n=y))).map (· +k)/\ts.length=19/\slot ts 0=s/\slot ts 1=.str n/\slot ts 7=.i L.length/\slot ts 8=.i k) L.length
  ⟨0,Om,rfl,rfl,Si,Sn,(Sq t0),(Sq t1),(Sq t0),gP⟩ ?_
 rintro _ ts _ ⟨k,hk,rfl,rfl,hi,hlen,t0,t1,t7,t8⟩;by_cases hlt:k<L.length
 ·have hd:L.drop k=L[k]::L.drop (k+1):=Si
  have e3:=eC hlt;have ix:=hs.dE (kk:=.i64) hlt;have ld:=hs.kg (i:=k) (x:=.str L[k]) hlt rfl (Ext.refl _);have e5:=wrapN (n:=k) Om;by_cases hp:n=L[k]
  ·have q:decide (n=L[k])=true:=ZI hp;refine Rs (A8 t0 t1 t7 t8 e3 ix @ld q) ?_;rw[dm,hi,hd,abS,q];simp
  ·have q:decide (n=L[k])=false:=ZD hp;refine Rs (A9 t0 t1 t7 t8 e3 ix @ld q e5) ?_;refine⟨_,?_,k+1,Om,rfl,?_,rfl⟩
   ·omega
   ·rw[hi,hd,abS,q];exact Rx
 ·have e3:=ff hlt;have e4:k=L.length:=Om
  refine Rs (A5 t0 t1 t7 t8 e3) ?_;rw[dm,hi,e4,aaF];rfl
def r242{L:List (By)}{s:AV}(hs:aH h s 1 (L.map ao))(hl:L.length<2^63)(n:By):aA P 242 [s,.str n] h (λv _=>v=.bool (decide (n∈L))):=by
 refine .eP 9 T.mix T.c242 ?_;intro ts hlen t0 t1;unfold fn242 gA;refine Rs (A2 t0 t1) ?_;refine WF.ce T.c266 (r266 T hs hl n) λg1=>?_
 refine Rs (A2 t0 t1) ?_;rw[oI];congr 1;rw[Bool.eq_iff_iff];simp[aaY]
end
attribute [local irreducible] WM
section
variable {P:Program}(T:fy P) {B g:ah}{b:Nat}{V:RV}{x:EV}
include T
def P1(r:bX B.length (B++g) b V)(c:Cx (B++g) V x .copy):du P 158 [.ptr b 0,.agg x.row] (B++g) (λ_ k=>tU B b V x.ev .copy k):=by
 refine .eP 50 T.mix T.c158 ?_;intro ts hlen t0 t1;unfold fn158;have hex:=@bh.box _ _ c.e;have lb:=@eQ _ _ _ r.m;have i0:aZ 1 x.sn (.i 0)=_:=(c.nm (i:=0) De).1;have d0:=@(c.nm (i:=0) De).2;have i1:aZ 1 x.sn (.i 1)=_:=(c.nm (i:=1) De).1;have d1:=@(c.nm (i:=1) De).2;have UL:V.aj.length<=64:=by have:=c.w.l2;simpa [RV.an]using this
 have htp:∀y∈V.aj,y.1.aG.length<2^30:=λy hy=>(c.w.zB.sh y hy).2
 refine Rs (mZ t0 t1 @hex @lb @fB @aO @i0 @d0 @i1 @d1 c.o.i2.aK) ?_;obtain⟨a,ha⟩:∃a,a=aL x.ev 0:=⟨_,rfl⟩;obtain⟨z,hz⟩:∃z,z=aL x.ev 1:=⟨_,rfl⟩;rw[<-ha,<-hz];refine WL.inv T.mix (λn ts h'=>∃(k:Nat) (g':ah) (U:RV),k<=V.aj.length/\n=V.aj.length-k/\h' =B++g'/\bX B.length (B++g') b U/\U.s2=V.s2/\U.aj.length=V.aj.length/\
   {U.an with aj:=V.an.aj} =V.an/\(∀i (hi:i<U.aj.length) (hi':i<V.aj.length),(U.aj[i]).1=if i<k then je a z (V.aj[i]).1 else(V.aj[i]).1)/\
   ts.length=50/\slot ts 0=.ptr b 0/\slot ts 4=.str a/\slot ts 5=.str z/\slot ts 19=V.s2/\slot ts 20=.i V.aj.length/\slot ts 21=.i k) V.aj.length
  ⟨0,g++[ak.b x.row],V,Om,rfl,by rw[ZE],by rw[<-ZE];exact r.app _,rfl,rfl,rfl,λi hi hi'=>by rw[ZN Om],Sn,(Sq t0),(Sq t0),(Sq t0),(Sq t0),(Sq t0),gP⟩ ?_
 clear t0 t1 hlen i0 d0 i1 d1 hex lb;clear ts;rintro _ ts _ ⟨k,g',U,hk,rfl,rfl,rU,Tb,UC,hreg,hU,hlen,t0,t4,t5,t19,t20,t21⟩;by_cases hlt:k<V.aj.length
 ·have VB:k<U.aj.length:=Om
  have e3:=eC hlt;have e5:=wrapN (n:=k) Om;have oU:=rU.o.ok;have ix:aZ 3 V.s2 (.i (k:Int))=some (cT V.s2 3 k,.ay):=by rw[<-Tb];exact oU.i2.dE VB
  have ld:∀{k':ah},Ext (B++g') k'->aq (some 3) (cT V.s2 3 k) (λb=>k'[b]?)=some (.agg (bf U.aj[k]),.ay):=λ{k'} e=>by rw[<-Tb];exact oU.i2.kf VB e
  have Tm:U.aj[k]∈U.aj:=ZR _;have hx1:(U.aj[k]).1=(V.aj[k]).1:=by rw[hU k VB hlt,ZN Om]
  have hxl:(U.aj[k]).1.aG.length<2^30:=by rw[hx1];exact htp _ (ZR _)
  have Wy:=rU.o.e2 _ Tm;have next:∀(U2:RV),U2.aj.length=V.aj.length->(∀i (hi:i<U2.aj.length) (hi':i<U.aj.length),(U2.aj[i]).1=if i=k then je a z (U.aj[i]).1 else(U.aj[i]).1)->
    ∀i (hi:i<U2.aj.length) (hi':i<V.aj.length),(U2.aj[i]).1=if i<k+1 then je a z (V.aj[i]).1 else(V.aj[i]).1:=by
   intro U2 a3 a5 i hi hi';exact Rm
  obtain⟨y,hy⟩:∃y,y=U.aj[k]:=⟨_,rfl⟩;rw[<-hy]at ld Wy hxl;have oy:=Wy.aX.one;unfold bf at ld;refine Rs (na t0 t4 t5 t19 t20 t21 e3 ix @ld @oy) ?_;refine WF.ce T.c242 (r242 T (Wy.aX.ext Xx) Om a) λg1=>?_
  by_cases h1:a∈y.1.aG
  case neg=>
   have q1:decide (a∈y.1.aG)=false:=ZD h1;rw[q1];refine Rs (A7 t0 t4 t5 t19 t20 t21 e5) ?_;have VW:B++g'++[ak.b [AV.str y.1.name,.str y.1.line,y.2]]++g1=B++(g'++[ak.b [AV.str y.1.name,.str y.1.line,y.2]]++g1):=by simp only[ZE]
   refine⟨_,Om,k+1,_,U,Om,rfl,VW,by rw[<-VW];exact(rU.app _).app _,Tb,UC,hreg,next U UC (λi hi hi'=>?_),rfl⟩;split
   ·rename_i Uw;subst Uw;rw[<-hy,je,ZN (λw=>h1 w.1)]
   ·rfl
  have q1:decide (a∈y.1.aG)=true:=ZI h1;rw[q1];refine Rs (A6 t0 t4 t5 t19 t20 t21) ?_;refine WF.ce T.c242 (r242 T (Wy.aX.ext Xx) Om z) λg2=>?_
  by_cases h2:z∈y.1.aG
  ·have q2:decide (z∈y.1.aG)=true:=ZI h2;rw[q2];refine Rs (A8 t0 t4 t5 t19 t20 t21 @Z7 e5) ?_;have VW:B++g'++[ak.b [AV.str y.1.name,.str y.1.line,y.2]]++g1++g2=B++(g'++[ak.b [AV.str y.1.name,.str y.1.line,y.2]]++g1++g2):=by simp only[ZE]
   refine⟨_,Om,k+1,_,U,Om,rfl,VW,by rw[<-VW];exact((rU.app _).app _).app _,Tb,UC,hreg,next U UC (λi hi hi'=>?_),rfl⟩;split
   ·rename_i Uw;subst Uw;rw[<-hy,je,ZN (λw=>w.2 h2)]
   ·rfl
  have q2:decide (z∈y.1.aG)=false:=ZD h2;rw[q2];refine Rs (A7 t0 t4 t5 t19 t20 t21 @aab) ?_;obtain⟨xb,hxb⟩:∃xb,xb=(B++g').length:=⟨_,rfl⟩;obtain⟨G,hG⟩:∃G,G=g'++[ak.b [AV.str y.1.name,.str y.1.line,y.2]]++g1++g2:=⟨_,rfl⟩;have VW:B++g'++[ak.b [AV.str y.1.name,.str y.1.line,y.2]]++g1++g2=B++G:=by rw[hG];simp only[ZE]
  have hex:Ext (B++g') (B++G):=by rw[<-VW];exact Xx
  have mx:(B++G)[xb]? =some (.b [AV.str y.1.name,.str y.1.line,y.2]):=by
   rw[<-VW,hxb,ZE _ g1,ZF Si,ZP Om];simp
  have mb:(B++G)[b]? =some (.b U.row):=hex.some rU.m;have hfx2:Fr B.length (B++G) y.2 1 (y.1.aG.map ao):=by rw[<-VW];exact((Wy.app _).app _).app _
  have hs22:Fr B.length (B++G) V.s2 3 (U.aj.map bf):=by rw[<-VW,<-Tb];exact((rU.o.i2.app _).app _).app _
  rw[VW,<-hxb];refine pr (λh=>h[b]? =some (.b U.row)/\h[xb]? =some (.b [AV.str y.1.name,.str y.1.line,y.2])) ?_;have hS:(λh:ah=>h[b]? =some (.b U.row)/\h[xb]? =some (.b [AV.str y.1.name,.str y.1.line,y.2])) (B++G):=⟨mb,mx⟩;refine db hS rfl rfl ?_;refine Rs t0 ?_;refine db hS rfl rfl ?_;refine Rs t0 ?_;refine db hS rfl rfl ?_;refine Rs t0 ?_;refine lA hS (v:=V.s2) (λg hg=>?_) ?_
  ·simp only[aS,aW,bo,bp,reduceAdd,reduceMul,reduceLeDiff,reduceEqDiff,bw,hlen,ZY,Z1,t0,aB hg.1,fB,Tb]
  refine Rs t0 ?_;refine db hS rfl rfl ?_;refine Rs t0 ?_;refine db hS rfl rfl ?_;refine Rs t0 ?_;refine lA hS (v:=y.2) (λg hg=>?_) ?_
  ·simp only[aS,aW,bo,bp,reduceAdd,reduceMul,reduceLeDiff,reduceEqDiff,bw,hlen,ZY,Z1,t0,aB hg.2]
  refine Rs t0 ?_;refine db hS rfl rfl ?_;refine Rs (A2 t0 t5) ?_;obtain⟨zr,hzr⟩:∃zr,zr=ao z:=⟨_,rfl⟩;have hS2:(λh:ah=>h[b]? =some (.b U.row)/\h[xb]? =some (.b [AV.str y.1.name,.str y.1.line,y.2])) (B++G++[ak.cells [.str z] true true]):=⟨(Ext.app _ (Ext.refl _)).some mb,(Ext.app _ (Ext.refl _)).some mx⟩;have hxlt:xb<(B++G).length:=by
   rw[<-VW,hxb];simp only[ZB,ZG,ZJ];omega
  refine db hS rfl rfl ?_;refine Rs t0 ?_;refine db hS2 rfl rfl ?_;refine Rs t0 ?_;refine WR.fZ (h0:=B) (cs:=y.1.aG.map ao) (ys:=[ao z]) (hfx2.app _) (Fr.push (N:=0) (aac _) [ao z] (by simp[ao])).aX De Si (by simp only[ZL,ZG,ZJ];omega) (by rw[ZE];exact⟨_,rfl⟩) ?_;intro g3 Zh hff hkp;have hrow:y.1.aG.map ao++[ao z]=(y.1.aG++[z]).map ao:=by rw[ZM];rfl
  rw[hrow]at hff;rw[hrow];obtain⟨t',ht'⟩:∃t',t' =AV.slice (B++G++[ak.cells [.str z] true true]).length 0 ((y.1.aG++[z]).map ao).length 1:=⟨_,rfl⟩;rw[<-ht']at hff;rw[<-ht'];have o1:t'.one=true:=by rw[ht'];rfl
  have hGl:(B++g').length<=(B++G).length:=hex.len;have hty:sB t' =some (B++G++[ak.cells [.str z] true true]).length:=by rw[ht'];rfl
  have hbl:=rU.lt;have Vo:sB y.2≠some b:=λe=>rU.ne (by rw[<-e,RV.bl,hy];simp only[ZK,Z3];exact .inl (.inl (.inr ⟨_,Tm,rfl⟩)))
  have Uf:∀i,sB y.2=some i->i<xb:=λi hi=>by rw[hxb];exact(Wy.bP hi).2
  have hk3:∀i,i<(B++G).length->sB y.2≠some i->(B++g3)[i]? =(B++G)[i]? :=λi hi hne=>by
   rw[hkp i (by simp only[ZB]at hi ⊢;omega) (λb0 o n e he z=>hne (by rw[he,z];rfl)),ZF hi]
  have hS3:(λh:ah=>h[b]? =some (.b U.row)/\h[xb]? =some (.b [AV.str y.1.name,.str y.1.line,y.2])) (B++g3):=
   ⟨(hk3 b Om Vo).trans mb,(hk3 xb hxlt (λe=>by have:=Uf _ e;omega)).trans mx⟩
  have hsy:∀j,sB V.s2=some j->sB y.2≠some j:=λj hj e=>by
   have XP:lG ([sB U.s0,sB U.s1]++sB U.s2:: ([sB U.s3,sB U.s4,sB U.s5]++((U.aj.map λx=>sB x.2)++(U.ar.map λx=>sB x.2)++(U.aE.map λx=>sB x.2)))):=by
    have:=rU.o.di;simp only[RV.bl]at this
    simpa using this
   obtain⟨_,a2,_⟩:=aaT.1 XP;refine(aaH.1 a2).1 (sB y.2) ?_ j (by rw[Tb];exact hj) e;simp only[ZK,Z3];exact .inr (.inl (.inl ⟨_,Tm,by rw[<-hy]⟩))
  have hs23:Fr B.length (B++g3) V.s2 3 (U.aj.map bf):=hs22.aC λi hi=>hk3 i (hs22.bP hi).2 (hsy i hi)
  refine Rs t0 ?_;refine pq hS3 rfl ?_;refine Rs (A3 t0 ix @o1) ?_;have hkU:k<U.aj.length:=VB;refine WR.vE (h0:=B) (x':=(⟨y.1.name,y.1.line,y.1.aG++[z]⟩,t')) (row:=bf) hs23 VB De o1 (by rw[<-hy];rfl) ?_;intro g4 hl4 hff4 hkp4;have hk4:∀i,i<(B++g').length->sB V.s2≠some i->sB y.2≠some i->(B++g4)[i]? =(B++g')[i]? :=λi hi n1 n2=>by
   rw[hkp4 i (λb0 o n e he z=>n1 (by rw[he,z];rfl)),hk3 i Om n2];exact hex.get hi
  have nb2:sB V.s2≠some b:=λe=>rU.ne (by rw[<-e,<-Tb];simp[RV.bl])
  have ht4:Fr B.length (B++g4) t' 1 ((y.1.aG++[z]).map ao):=hff.aC λi hi=>by
   rw[hty]at hi;cases hi;refine hkp4 _ (λb0 o n e he zz=>?_);have:=(rU.o.i2.bP (show sB U.s2=some b0 by rw[Tb,he];rfl)).2;have h3:(B++g').length<=(B++G++[ak.cells [.str z] true true]).length:=by simp only[ZB]at hGl ⊢;omega
   omega
  refine Rs (A7 t0 t4 t5 t19 t20 t21 e5) ?_;refine⟨_,Om,k+1,g4,{U with aj:=U.aj.set k (⟨y.1.name,y.1.line,y.1.aG++[z]⟩,t') },Om,rfl,rfl,rU.RD VB (by rw[Tb];exact hff4) ht4 (λj hj=>?_) (λj hj n1 n2=>hk4 j hj (by rw[<-Tb];exact n1) (by rw[hy];exact n2)),Tb,(by simp only[aap];exact UC),hreg,next _ (by simp only[aap];exact UC) (λi hi hi'=>?_),rfl⟩
  ·rw[hty]at hj;cases hj;simp only[ZB]at hGl ⊢;omega
  ·by_cases Uw:i=k
   ·subst Uw;simp only[abA,Z1];rw[<-hy,je,ZS ⟨h1,h2⟩]
   ·exact Kk
 ·have e3:decide ((k:Int)<V.aj.length)=false:=ZD Om;have e4:k=V.aj.length:=Om
  refine Rs (A8 t0 t4 t5 t19 t20 t21 e3 @fe) ?_;refine⟨g',U,rfl,rU,?_⟩;exact z31
end
def HV.now(V:HV):RV:=V.cM.getLastD RV.zero
def HV.jL(V:HV):V.now.an=V.bS.now:=by
 rw[HV.now,HV.bS,iK.now];show _=(V.cM.map RV.an).getLastD dA.zero;rw[aa1,aa1,List.getLast?_map];cases V.cM.getLast? <;>rfl
structure zZ(h:ah)(b:Nat)(V:HV):Prop where
 hb:h[b]? =some (.b [V.se,V.sc,V.sr])
 ie:aH h V.se 5 (V.da.map EV.row)
 ic:aH h V.sc 5 (V.e8.map EV.row)
 ig:aH h V.sr 7 (V.cM.map RV.row)
 ae:∀x∈V.da,bh h x
 ac:∀x∈V.e8,bh h x
 ag:∀x∈V.cM,aD h x
theorem zZ.ext{h k b V}(o:zZ h b V)(e:Ext h k):zZ k b V:=
 ⟨e.some o.hb,o.ie.ext e,o.ic.ext e,o.ig.ext e,λx hx=>(o.ae x hx).ext e,λx hx=>(o.ac x hx).ext e,λx hx=>(o.ag x hx).ext e⟩
def cH.rd{N h b V}(o:cH N h b V):zZ h b V:=
 ⟨o.hb,o.oe.aX,o.oc.aX,o.og.aX,λx hx=>(o.ae x hx).sub (jA.fS _ _),λx hx=>(o.ac x hx).sub (jA.fS _ _),λx hx=>(o.ag x hx).sub (jA.fS _ _)⟩
theorem zZ.now{h b V}(o:zZ h b V):aD h V.now:=by
 rw[HV.now,aa1];cases hx:V.cM.getLast? with
 |none=>exact aD.zero
 |some R=>exact o.ag R (abF hx)
def aD.st{h V}(o:aD h V){b a0 a1 a2 a3 a4 a5 a6 tl}:jI 7 0 (.agg V.row) b (.cells [a0,a1,a2,a3,a4,a5,a6] true tl)=some (az,.set b (.cells V.row true tl)):=by
 refine(kH (l:=V.row) rfl o.row (by show 0+7<=7;omega)).trans ?_;rfl
def bh.st{h x}(o:bh h x){b a0 a1 a2 a3 a4 tl}:jI 5 0 (.agg x.row) b (.cells [a0,a1,a2,a3,a4] true tl)=some (az,.set b (.cells x.row true tl)):=by
 refine(kH (l:=x.row) rfl o.row (by show 0+5<=5;omega)).trans ?_;rfl
def IX{e d}(hd:d≠.eV):e.kind=bz d↔kE e=d:=by
 rw[kE];constructor
 ·intro h;rw[h,mz];rfl
 ·intro h;cases hk:gU e.kind with
  |none=>rw[hk]at h;exact absurd h.symm hd
  |some c=>rw[hk]at h;cases h;exact cj hk
structure kY(H:iK):Prop where
 rg:∀R∈H.cM,eD R
 ln:H.cM.length=H.e8.length
 le:H.e8.length<=H.da.length
 ev:∀e∈H.da,∃d,jY e d
 cn:∀e∈H.e8,∃d,jY e d
theorem kY.zero:kY iK.zero:=by
 refine⟨?_,rfl,ZO _,?_,?_⟩
 all_goals intro x hx;cases hx
theorem kY.now{H}(w:kY H):eD H.now:=by
 rw[iK.now,aa1];cases hx:H.cM.getLast? with
 |none=>exact eD.zero
 |some R=>exact w.rg R (abF hx)
section
variable {P:Program}(T:fy P)
include T
def GF{B g b V x d ro ks ts Q dd l}(hd:d≠.eV)(r:bX B.length (B++g) b V)(c:Cx (B++g) V x d)(hc:bn V.an x.ev d=0)(gl:Gl (B++g))
  (K:∀v h',tU B b V x.ev d h'->WP P ro l ks (put ts dd v) h' Q):WF P ro false (pK d) [.ptr b 0,.agg x.row] dd l ks ts (B++g) Q:=by
 cases d with
 |eV=>exact absurd rfl hd
 |line=>exact WF.gen (a:=[]) (c:=[]) T.c149 (P4 T r c) K
 |tape=>exact WF.gen (a:=[]) (c:=[]) T.c152 (P3 T r c) K
 |gp=>exact WF.gen (a:=[]) (c:=[]) T.c156 (P2 T r c) K
 |copy=>exact WF.gen (a:=[]) (c:=[]) T.c158 (P1 T r c) K
 |accept=>exact WF.gen (a:=[]) (c:=[]) T.c160 (P0 T r c) K
 |source=>exact WF.gen (a:=[]) (c:=[]) T.c162 (PZ T r c) K
 |gg=>exact WF.gen (a:=[]) (c:=[]) T.c164 (PY T r c hc gl) K
 |merge=>exact WF.gen (a:=[]) (c:=[]) T.c166 (PX T r c) K
 |run=>exact WF.gen (a:=[]) (c:=[]) T.c168 (PW T r c hc) K
 |fT=>exact WF.gen (a:=[]) (c:=[]) T.c170 (PV T r c hc) K
 |fail=>exact WF.gen (a:=[]) (c:=[]) T.c172 (PU T r c hc) K
 |gE=>exact WF.gen (a:=[]) (c:=[]) T.c174 (PT T r c) K
 |rel=>exact WF.gen (a:=[]) (c:=[]) T.c176 (PS T r c) K
variable {h:ah}
def r79{V b}(o:zZ h b V)(hl:V.cM.length<=1000):aA P 79 [.ptr b 0] h (λv _=>v=.agg V.now.row):=by
 refine .lB 20 T.mix T.c79 ?_;intro ts hlen t0;unfold fn79 gA;have hb:=o.hb;have lb:=@eQ _ _ _ hb;refine Rs (A3 t0 @lb o.ig.aK) ?_;rcases List.eq_nil_or_concat V.cM with hn|⟨L,R,hn⟩
 ·have SP:V.cM.length=0:=by rw[hn];rfl
  have e1:decide ((0:Int)<(V.cM.length:Int))=false:=ZD Om;refine Rs (A2 t0 e1) ?_;rw[HV.now,hn];rfl
 ·have hlenR:V.cM.length=L.length+1:=by rw[hn];simp
  have e1:decide ((0:Int)<(V.cM.length:Int))=true:=ZI Om;have e2:IntKind.i64.wrap ((V.cM.length:Int)-1)=(L.length:Int):=by rw[bj Om Om];omega
  have XW:L.length<V.cM.length:=Om
  have ix:=o.ig.dE (kk:=.i64) XW;have ld:∀{k':ah},Ext h k'->_:=λ{k'} e=>o.ig.kf XW e
  have hR:V.cM[L.length]=R:=by simp only[hn];simp
  rw[hR]at ld;have st:=@aD.st h R (o.ag R (by rw[hn];simp));refine Rs (A8 t0 e1 e2 @lb ix @ld @st @aF) ?_;rw[HV.now,hn];simp
def r116{V b x d}(o:zZ h b V)(w:kY V.bS)(hl:V.da.length<=1000)(ox:bh h x)(wx:jY x.ev d)(gl:Gl h):
  aA P 116 [.ptr b 0,.agg x.row] h (λv _=>v=.i (kD V.bS x.ev)):=by
 have hcl:V.e8.length<=V.da.length:=by have:=w.le;simpa [HV.bS]using this
 have T4:V.cM.length=V.e8.length:=by have:=w.ln;simpa [HV.bS]using this
 refine .eP 106 T.mix T.c116 ?_;intro ts hlen t0 t1;unfold fn116;have hb:=o.hb;have lb:=@eQ _ _ _ hb;have hex:=@bh.box _ _ ox;have ew:IntKind.i64.wrap ((V.da.length:Int)+1)=(V.da.length:Int)+1:=bj Om Om;by_cases h1:x.ev.num=(V.da.length:Int)+1
 case neg=>
  have q1:decide (x.ev.num≠(V.da.length:Int)+1)=true:=ZI h1;refine Rs (A8 t0 t1 @lb @hex @nJ o.ie.aK @ew q1) ?_;rw[kD,ZS (by simpa [HV.bS]using h1)]
 have q1:decide (x.ev.num≠(V.da.length:Int)+1)=false:=ZD (λz=>z h1);have SD:kE x.ev=d:=by rw[kE,wx.kd];rfl
 rw[kD,ZN (by simpa [HV.bS]using h1),SD];by_cases h2:d=.eV
 ·have q2:decide (x.ev.kind=[117,110,100,111])=true:=ZI (by rw[cj wx.kd,h2];rfl);rw[ZS h2];refine Rs (mZ t0 t1 @lb @hex @nJ @bA o.ie.aK o.ic.aK @ew q1 q2) ?_;rcases List.eq_nil_or_concat V.e8 with hn|⟨L,c,hn⟩
  ·have SP:V.e8.length=0:=by rw[hn];rfl
   have e1:decide ((V.e8.length:Int)=0)=true:=ZI Om;refine Rs (A2 t0 e1) ?_;simp only[HV.bS,hn];rfl
  ·have hlenR:V.e8.length=L.length+1:=by rw[hn];simp
   have e1:decide ((V.e8.length:Int)=0)=false:=ZD Om;have e2:IntKind.i64.wrap ((V.e8.length:Int)-1)=(L.length:Int):=by rw[bj Om Om];omega
   have XW:L.length<V.e8.length:=Om
   have ix:=o.ic.dE (kk:=.i64) XW;have hR:V.e8[L.length]=c:=by simp only[hn];simp
   have lf:∀{k':ah},Ext h k'->aq none (mD V.sc 5 L.length 1) (λb=>k'[b]?)=some (.str c.ev.kind,.ay):=λ{k'} e=>by
    refine o.ic.qz XW ?_ e;rw[hR];rfl
   refine Rs (A6 t0 e1 e2 @lb ix @lf) ?_;refine WF.ce T.c85 (r85 T _ _) λg1=>?_
   refine Rs t0 ?_;have e3:decide (c.ev.kind=[114,101,108,101,97,115,101])=decide (kE c.ev=.rel):=abd.2 (IX (d:=.rel) De);have e4:V.bS.e8.getLast? =some c.ev:=by simp[HV.bS,hn]
   rw[e3,e4];by_cases h5:kE c.ev=.rel<;>simp[cA,h5]
 have q2:decide (x.ev.kind=[117,110,100,111])=false:=ZD λz=>h2 (by
  have:=wx.kd;rw[z]at this;exact(aaE ((mz .eV).symm.trans this)).symm)
 rw[ZN h2,<-V.jL];have wn:eD V.now.an:=by rw[V.jL];exact w.now
 have on:=o.now;have ltk:0<cD d:=by cases d<;>first|exact absurd rfl h2|decide
 have Tp:0<x.ev.cB.length:=by rw[wx.vl];exact ltk
 have qM:aZ 1 x.sv (.i 0)=some (cT x.sv 1 0,.ay):=ox.v.qM Tp;have ev0:bI x.ev 0=x.ev.cB[0]:=by rw[bI,aaf,ZH Tp];rfl
 have ld0:∀{k':ah},Ext h k'->aq none (cT x.sv 1 0) (λb=>k'[b]?)=some (.i (bI x.ev 0),.ay):=λ{k'} e=>by
  rw[ev0];exact ox.v.kg Tp rfl e
 refine Rs (mZ t0 t1 @lb @hex @nJ @bA o.ie.aK o.ic.aK @ew q1 q2) ?_;refine WF.ce T.c79 (r79 T (o.ext Xx) Om) λg1=>?_
 have st:=@aD.st h V.now on;rw[gL];by_cases h3:bI x.ev 0<V.now.an.tick
 ·have q3:decide (bI x.ev 0<V.now.tick)=true:=ZI h3;refine Rs (A8 t0 t1 @st @ti @aY @qM @ld0 q3) ?_;rw[ZS h3]
 have q3:decide (bI x.ev 0<V.now.tick)=false:=ZD h3;rw[ZN h3];refine Rs (A8 t0 t1 @st @ti @aY @qM @ld0 q3) ?_;refine WF.res T.c90 (r90 T) ?_;rintro _ g2 ⟨vf,rfl,hk⟩;obtain⟨H,hH⟩:∃H,H=h++[ak.b x.row]++g1++[ak.b V.now.row]:=⟨_,rfl⟩;obtain⟨eb,heb⟩:∃eb,eb=h.length:=⟨_,rfl⟩;obtain⟨rb,XC⟩:∃rb,rb=(h++[ak.b x.row]++g1).length:=⟨_,rfl⟩;have mr:(H++g2)[rb]? =some (.b V.now.row):=by rw[hH,XC];exact(Ext.app _ (Ext.refl _)).some aV
 have me:(H++g2)[eb]? =some (.b x.row):=by rw[hH,heb];exact(show Ext (h++[ak.b x.row]) _ from Xx).some aV
 rw[<-hH]at hk ⊢;rw[<-heb,<-XC];have lk:∀{z:AV},gZ .s z false (.map H.length) (.str x.ev.kind) (λb=>(H++g2)[b]?)=lQ z false ((gU x.ev.kind).map vf):=hk.look;rw[wx.kd]at lk;have Te:∀{z:AV},_=some (vf d,iR.ay):=@lk;obtain⟨rs,a,hv,hr,ha,hab⟩:=(hk.k d).ex;rw[hv]at Te;have c1:=mA d;have c2:=lS d;have c3:=hr.one;have le:=@eQ _ _ _ me;have lr:=@eQ _ _ _ mr;refine Rs (pB t0 t1 @le @bA @bC @Te @c1 @c2 @c3 @ha hr.aK @iP) ?_;obtain⟨L,hL⟩:∃L,L=bJ d:=⟨_,rfl⟩;have hnl:x.ev.names.length=L.length:=by rw[hL];exact wx.nl
 have XW:L.length<=3:=by rw[hL];cases d<;>decide
 have Yt:∀r∈L,r.1<6:=by rw[hL];cases d<;>decide
 rw[<-hL]at hr ⊢;obtain⟨kb,hkb⟩:∃kb,kb=(H++g2).length:=⟨_,rfl⟩;have hex:Ext h (H++g2):=by rw[hH];exact Xx
 have Vw:Ext (H++g2) (H++g2++[ak.b [rs,.i (cD d:Int),kh d,pK d,a]]):=Xx;have mk:(H++g2++[ak.b [rs,.i (cD d:Int),kh d,pK d,a]])[kb]? =some (.b [rs,.i (cD d:Int),kh d,pK d,a]):=by rw[hkb];exact aV
 obtain⟨H2,WT⟩:∃H2,H2=H++g2++[ak.b [rs,.i (cD d:Int),kh d,pK d,a]]:=⟨_,rfl⟩;rw[<-WT]at mk Vw;have hx3:Ext h H2:=hex.trans Vw;have lk:=@eQ _ _ _ mk;rw[<-WT,<-hkb];have Vs:∀(i:Nat) (hi:i<L.length),aZ 1 x.sn (.i (i:Int))=some (cT x.sn 1 i,.ay):=λi hi=>ox.n.dE Om
 have hld:∀(i:Nat) (hi:i<L.length) (k':ah),Ext h k'->aq none (cT x.sn 1 i) (λb=>k'[b]?)=some (.str (aL x.ev i),.ay):=λi hi k' e=>by
  exact z75
 refine WL.inv T.mix (λm ts h'=>∃k:Nat,k<=L.length/\m=L.length-k/\Ext H2 h'/\nf V.now.an x.ev L 0=nf V.now.an x.ev (L.drop k) k/\ts.length=106/\slot ts 3=.ptr eb 0/\slot ts 6=.ptr rb 0/\slot ts 7=.ptr kb 0/\slot ts 56=rs/\slot ts 57=.i L.length/\slot ts 58=.i k) L.length
  ⟨0,Om,rfl,.refl _,rfl,Sn,Sw,Sw,Sw,Sw,Sw,gP⟩ ?_
 clear t0 t1 hlen lb hb hex le lr;clear ts;rintro _ ts h' ⟨k,hk,rfl,UF,hu,hlen,t3,t6,t7,t56,t57,t58⟩;have le:∀{k' n a},Ext h' k'->aq n (.ptr eb a) (λz=>k'[z]?)=dJ n a (.b x.row):=λ{_ _ _} e=>aB (((Vw.trans UF).trans e).some me)
 have lr:∀{k' n a},Ext h' k'->aq n (.ptr rb a) (λz=>k'[z]?)=dJ n a (.b V.now.row):=λ{_ _ _} e=>aB (((Vw.trans UF).trans e).some mr)
 by_cases hlt:k<L.length
 ·have e3:=eC hlt;have e5:=wrapN (n:=k) Om;have ix:=hr.dE (kk:=.i64) hlt;have ld:∀{k'},Ext h' k'->aq (some 2) (cT rs 2 k) (λb=>k'[b]?)=some (.agg (gf L[k]),.ay):=λ{k'} e=>hr.kf hlt ((Vw.trans UF).trans e)
  have iy:=Vs k hlt;have ly:∀{k'},Ext h' k'->aq none (cT x.sn 1 k) (λb=>k'[b]?)=some (.str (aL x.ev k),.ay):=λ{k'} e=>hld k hlt k' ((hx3.trans UF).trans e)
  have hd:L.drop k=L[k]::L.drop (k+1):=Si
  obtain⟨r,VO⟩:∃r,r=L[k]:=⟨_,rfl⟩;have Xh:r.1<6:=by rw[VO];exact Yt _ (ZR _)
  rw[hd,<-VO,nf]at hu;rw[<-VO,gf]at ld;cases TK:r.2 with
  |false=>
   rw[TK]at ld hu;refine Rs (na t3 t6 t7 t56 t57 t58 e3 ix @ld e5) ?_;exact Kx
  |true=>
   rw[TK]at ld hu;refine Rs (Bv t3 t6 t7 t56 t57 t58 e3 ix @ld @iy @ly @le @lr @aF @aO) ?_;refine WF.ce T.c86 (r86 T ((on.ext (hx3.trans UF)).ext Xx) wn.len Xh _) λg3=>?_
   cases hh:dW V.now.an r.1 (aL x.ev k)with
   |true=>
    rw[hh]at hu;refine Rs (A8 t3 t6 t7 t56 t57 t58 @Z7 e5) ?_;exact Kx
   |false=>
    rw[hh]at hu;have hu1:nf V.now.an x.ev L 0=true:=by rw[hu];rfl
    refine Rs (A7 t3 t6 t7 t56 t57 t58 @aab) ?_;refine⟨(hx3.trans UF).trans Xx,?_⟩;have e6:kM d V.now.an x.ev=10:=by rw[kM,<-hL,ZS hu1]
    rw[e6,ZS De]
 ·have e3:=ff hlt;have e4:k=L.length:=Om
  have Vp:nf V.now.an x.ev L 0=false:=by rw[hu,e4,aaF];rfl
  have lk2:∀{k' n a'},Ext h' k'->aq n (.ptr kb a') (λz=>k'[z]?)=dJ n a' (.b [rs,.i (cD d:Int),kh d,pK d,a]):=λ{_ _ _} e=>lk (UF.trans e)
  refine Rs (A9 t3 t6 t7 t56 t57 t58 e3 @lk2 hr.aK) ?_;have hrH:aH h' rs 2 (L.map gf):=hr.ext (Vw.trans UF);refine WL.inv T.mix (λm ts XX=>∃k:Nat,k<=L.length/\m=L.length-k/\Ext h' XX/\rf V.now.an x.ev L 0=rf V.now.an x.ev (L.drop k) k/\ts.length=106/\slot ts 3=.ptr eb 0/\slot ts 6=.ptr rb 0/\slot ts 7=.ptr kb 0/\slot ts 79=rs/\slot ts 80=.i L.length/\slot ts 81=.i k) L.length
   ⟨0,Om,rfl,.refl _,rfl,Sn,(Sq t3),(Sq t6),(Sq t7),Sw,Sw,gP⟩ ?_
  clear t3 t6 t7 t56 t57 t58 hlen le lr lk2 e3 e4 hu lk;clear hlt hk ts k;rintro _ ts XX ⟨k,hk,rfl,Xy,hu,hlen,t3,t6,t7,t79,t80,t81⟩;have le:∀{k' n a},Ext XX k'->aq n (.ptr eb a) (λz=>k'[z]?)=dJ n a (.b x.row):=λ{_ _ _} e=>aB ((((Vw.trans UF).trans Xy).trans e).some me)
  have lr:∀{k' n a},Ext XX k'->aq n (.ptr rb a) (λz=>k'[z]?)=dJ n a (.b V.now.row):=λ{_ _ _} e=>aB ((((Vw.trans UF).trans Xy).trans e).some mr)
  have lk2:∀{k' n a'},Ext XX k'->aq n (.ptr kb a') (λz=>k'[z]?)=dJ n a' (.b [rs,.i (cD d:Int),kh d,pK d,a]):=λ{_ _ _} e=>aB (((UF.trans Xy).trans e).some mk)
  by_cases hlt:k<L.length
  ·have e3:=eC hlt;have e5:=wrapN (n:=k) Om;have ix:=hr.dE (kk:=.i64) hlt;have ld:∀{k'},Ext XX k'->aq (some 2) (cT rs 2 k) (λb=>k'[b]?)=some (.agg (gf L[k]),.ay):=λ{k'} e=>hrH.kf hlt (Xy.trans e)
   have iy:=Vs k hlt;have ly:∀{k'},Ext XX k'->aq none (cT x.sn 1 k) (λb=>k'[b]?)=some (.str (aL x.ev k),.ay):=λ{k'} e=>hld k hlt k' (((hx3.trans UF).trans Xy).trans e)
   have hd:L.drop k=L[k]::L.drop (k+1):=Si
   obtain⟨r,VO⟩:∃r,r=L[k]:=⟨_,rfl⟩;have Xh:r.1<6:=by rw[VO];exact Yt _ (ZR _)
   rw[hd,<-VO,rf]at hu;rw[<-VO,gf]at ld;cases TK:r.2 with
   |true=>
    rw[TK]at ld hu;refine Rs (mZ t3 t6 t7 t79 t80 t81 e3 ix @ld e5 @Z7) ?_;exact Ky
   |false=>
    rw[TK]at ld hu;refine Rs (D8 t3 t6 t7 t79 t80 t81 e3 ix @ld @iy @ly @le @lr @aF @aO @aab) ?_;refine WF.ce T.c86 (r86 T ((on.ext ((hx3.trans UF).trans Xy)).ext Xx) wn.len Xh _) λg3=>?_
    cases hh:dW V.now.an r.1 (aL x.ev k)with
    |false=>
     rw[hh]at hu;refine Rs (A7 t3 t6 t7 t79 t80 t81 e5) ?_;exact Ky
    |true=>
     rw[hh]at hu;have hu1:rf V.now.an x.ev L 0=true:=by rw[hu];rfl
     refine Rs (A6 t3 t6 t7 t79 t80 t81) ?_;refine⟨((hx3.trans UF).trans Xy).trans Xx,?_⟩;have e6:kM d V.now.an x.ev=9:=by rw[kM,<-hL,ZN (by rw[Vp];decide),ZS hu1]
     rw[e6,ZS De]
  ·have e3:=ff hlt;have e4:k=L.length:=Om
   have YX:rf V.now.an x.ev L 0=false:=by rw[hu,e4,aaF];rfl
   have e6:kM d V.now.an x.ev=0:=by rw[kM,<-hL,ZN (by rw[Vp];decide),ZN (by rw[YX];decide)]
   rw[e6,ZN De];have Xd:=(hx3.trans UF).trans Xy;refine Rs (pB t3 t6 t7 t79 t80 t81 e3 @lk2 @lr @le @aF @b9) ?_;refine WF.val (Qz T h2 ⟨on.ext Xd,wn,ox.ext Xd,wx,vP e6⟩ (gl.ext Xd)) ?_;rintro _ g4 rfl;refine Rs t3 ?_;exact⟨Xd.trans Xx,trivial⟩
end
def Kf(B h0:ah)(b:Nat)(V:HV)(e:dN)(v:AV)(k:ah):Prop:=∃g' V',k=B++g'/\v=.i (fJ V.bS e)/\cH B.length (B++g') b V'/\V'.bS=(if fJ V.bS e=0 then kX V.bS e else V.bS)/\(∀i,i<h0.length->some i∉V.ex b->(B++g')[i]? =h0[i]?)/\∀j,some j∈V'.ex b->some j∈V.ex b\/h0.length<=j
def Kf.no{B g g1 b V e}(o:cH B.length (B++g) b V)(h:fJ V.bS e≠0){n}(hn:n=fJ V.bS e):Kf B (B++g) b V e (.i n) (B++g++g1):=
 ⟨g++g1,V,by rw[ZE],by rw[hn],by rw[<-ZE];exact o.app _,by rw[ZN h],λi hi _=>by rw[<-ZE,ZF hi],λj hj=>.inl hj⟩
def bh.Hx{h x}(o:bh h x){M}:yC 5 1 (eT [.i 0,.str [],.af,.af,.str []] [(0,5,.agg x.row)]) M=some (.slice M 0 1 5,.push (.cells x.row true true)):=yB (c:=x.row) o.row rfl De
def aD.Hx{h V}(o:aD h V){M}:yC 7 1 (eT [.i 0,.af,.af,.af,.af,.af,.af] [(0,7,.agg V.row)]) M=some (.slice M 0 1 7,.push (.cells V.row true true)):=yB (c:=V.row) o.row rfl De
theorem bh.fS{h x}(o:bh h x){ex}(h1:∀j,sB x.sn=some j->some j∉ex)(h2:∀j,sB x.sv=some j->some j∉ex):bh (Go.Abs.fS ex h) x:=⟨o.n.fS h1,o.v.fS h2⟩
theorem aD.fS{h V}(o:aD h V){ex}(hx:∀j,some j∈V.bl->some j∉ex):aD (Go.Abs.fS ex h) V:=by
 have m6:∀x∈[sB V.s0,sB V.s1,sB V.s2,sB V.s3,sB V.s4,sB V.s5],x∈V.bl:=λx hx=>by simp only[RV.bl,ZK];exact .inl (.inl (.inl hx))
 refine⟨o.i0.fS λb hb=>hx b (hb▸m6 _ Si),o.i1.fS λb hb=>hx b (hb▸m6 _ Si),o.i2.fS λb hb=>hx b (hb▸m6 _ Si),o.i3.fS λb hb=>hx b (hb▸m6 _ Si),o.i4.fS λb hb=>hx b (hb▸m6 _ Si),o.i5.fS λb hb=>hx b (hb▸m6 _ Si),
  λx hx1=>(o.e2 x hx1).fS λb hb=>hx b ?_,λx hx1=>(o.e3 x hx1).fS λb hb=>hx b ?_,λx hx1=>(o.e4 x hx1).fS λb hb=>hx b ?_⟩
 ·simp only[RV.bl,ZK,Z3];exact .inl (.inl (.inr ⟨x,hx1,hb⟩))
 ·simp only[RV.bl,ZK,Z3];exact .inl (.inr ⟨x,hx1,hb⟩)
 ·simp only[RV.bl,ZK,Z3];exact .inr ⟨x,hx1,hb⟩
def rW{a b c d}:lG [a,b,c,d]↔(∀i,a=some i->b≠some i/\c≠some i/\d≠some i)/\(∀i,b=some i->c≠some i/\d≠some i)/\∀i,c=some i->d≠some i:=by
 simp only[lG,aaH,aag,aaC,abh,forall_eq_or_imp,forall_eq,List.Pairwise.nil,and_true,false_implies,implies_true];constructor
 ·rintro⟨⟨h1,h2,h3⟩,⟨h4,h5⟩,h6⟩;exact⟨λi hi=>⟨h1 i hi,h2 i hi,h3 i hi⟩,λi hi=>⟨h4 i hi,h5 i hi⟩,h6⟩
 ·rintro⟨h1,h2,h3⟩;exact⟨⟨λi hi=>(h1 i hi).1,λi hi=>(h1 i hi).2.1,λi hi=>(h1 i hi).2.2⟩,⟨λi hi=>(h2 i hi).1,λi hi=>(h2 i hi).2⟩,h3⟩
def ET{B h:ah}(hl:B.length<=h.length)(hk:∀i,i<B.length->h[i]? =B[i]?):∃g,h=B++g:=by
 refine⟨h.drop B.length,abZ λi=>?_⟩;by_cases hi:i<B.length
 ·rw[hk i hi,ZF hi]
 ·exact KP
def vu{B h:ah}{b:Nat}{X:ak}(hN:B.length<=b)(hh:∃g,h=B++g):∃g,h.set b X=B++g:=by
 obtain⟨g,rfl⟩:=hh;exact⟨_,aaA _ _ hN⟩
def bX.tk{B g b V}(r:bX B.length (B++g) b V)(t:Int):∃g',(B++g).set b (.b (V.row.set 0 (.i t)))=B++g'/\bX B.length (B++g') b {V with tick:=t}:=by
 obtain⟨h1,h2,h3⟩:=nL (.b (V.row.set 0 (.i t))) r.hN r.m;refine⟨_,h1,?_,r.hN,h2,r.ne⟩;have:=r.o.ay (k:=B++g.set (b-B.length) (.b (V.row.set 0 (.i t)))) λi hi=>h3 i λe=>r.ne (e▸hi)
 exact⟨this.i0,this.i1,this.i2,this.i3,this.i4,this.i5,this.e2,this.e3,this.e4,this.di⟩
section
variable {N b:Nat}{h h':ah}{V:HV}
def cH.lt(o:cH N h b V):b<h.length:=(ZC.1 o.hb).1
def cH.Dl(o:cH N h b V){j}(hj:some j∈V.ex b):j<h.length:=by
 simp only[HV.ex,aag,aaC,abh,aaa]at hj;rcases hj with hj|hj|hj|hj
 ·rw[hj];exact o.lt
 ·exact(o.oe.bP hj.symm).2
 ·exact(o.oc.bP hj.symm).2
 ·exact(o.og.bP hj.symm).2
def cH.R1(o:cH N h b V){s' x'}(hk:∀i,i<h.length->sB V.se≠some i->i≠b->h'[i]? =h[i]?)(hs:Ow N h' s' 5 ((V.da++[x']).map EV.row))(hb:h'[b]? =some (.b [s',V.sc,V.sr]))
  (hn:∀i,sB s' =some i->h.length<=i) (hx:bh (fS (V.ex b) h) x'):cH N h' b {V with da:=V.da++[x'],se:=s'}:=by
 obtain⟨d1,d2,d3⟩:=rW.1 o.di;have hbl:=o.lt;have hsub:jA (fS (V.ex b) h) (fS ({V with da:=V.da++[x'],se:=s'}.ex b) h'):=by
  refine nT (λi hi hne=>hk i hi (λe=>hne (by simp[HV.ex,e])) (λe=>hne (by simp[HV.ex,e]))) λi hi hm=>?_
  simp only[HV.ex,aag,aaC,abh,aaa]at hm ⊢;rcases hm with hm|hm|hm|hm
  ·exact .inl hm
  ·have:=hn i hm.symm;omega
  ·exact .inr (.inr (.inl hm))
  ·exact .inr (.inr (.inr hm))
 refine⟨o.hN,hb,hs,o.oc.aC λi hi=>?_,o.og.aC λi hi=>?_,rW.2 ⟨λi hi=>?_,λi hi=>?_,d3⟩,λx hx1=>?_,λx hx1=>(o.ac x hx1).sub hsub,λx hx1=>(o.ag x hx1).sub hsub,o.lo⟩
 ·exact hk i (o.oc.bP hi).2 (λe=>(d2 i e).1 hi) (λe=>(d1 b rfl).2.1 (by rw[<-e];exact hi))
 ·exact hk i (o.og.bP hi).2 (λe=>(d2 i e).2 hi) (λe=>(d1 b rfl).2.2 (by rw[<-e];exact hi))
 ·cases hi;exact⟨λe=>by have:=hn b e;omega,(d1 b rfl).2⟩
 ·have h1:=hn i hi;exact⟨λe=>by have:=(o.oc.bP e).2;omega,λe=>by have:=(o.og.bP e).2;omega⟩
 ·rcases ZK.1 hx1 with hx1|hx1
  ·exact(o.ae x hx1).sub hsub
  ·rw[ZW]at hx1;rw[hx1];exact hx.sub hsub
def cH.R0(o:cH N h b V){S3 To n m}(hk:∀i,i<h.length->i≠b->h'[i]? =h[i]?)(hc:Ow N h' S3 5 ((V.e8.take n).map EV.row))(hr:Ow N h' To 7 ((V.cM.take m).map RV.row))(hb:h'[b]? =some (.b [V.se,S3,To]))
  (nc:sB S3=sB V.sc) (nr:sB To=sB V.sr):cH N h' b {V with e8:=V.e8.take n,cM:=V.cM.take m,sc:=S3,sr:=To}:=by
 obtain⟨d1,d2,d3⟩:=rW.1 o.di;have he:{V with e8:=V.e8.take n,cM:=V.cM.take m,sc:=S3,sr:=To}.ex b=V.ex b:=by simp only[HV.ex,nc,nr]
 have hsub:jA (fS (V.ex b) h) (fS ({V with e8:=V.e8.take n,cM:=V.cM.take m,sc:=S3,sr:=To}.ex b) h'):=by
  rw[he];exact nT (λi hi hne=>hk i hi (λe=>hne (by simp[HV.ex,e]))) λi hi hm=>hm
 refine⟨o.hN,hb,o.oe.aC λi hi=>hk i (o.oe.bP hi).2 (λe=>(d1 b rfl).1 (by rw[<-e];exact hi)),hc,hr,by rw[he];exact o.di,λx hx1=>(o.ae x hx1).sub hsub,λx hx1=>(o.ac x (aaD hx1)).sub hsub,λx hx1=>(o.ag x (aaD hx1)).sub hsub,λx hx1=>o.lo x (aaD hx1)⟩
def cH.R2(o:cH N h b V){S3 To x' R'}(hk:∀i,i<h.length->sB V.sc≠some i->sB V.sr≠some i->i≠b->h'[i]? =h[i]?)(hc:Ow N h' S3 5 ((V.e8++[x']).map EV.row))(hr:Ow N h' To 7 ((V.cM++[R']).map RV.row))(hb:h'[b]? =some (.b [V.se,S3,To]))
  (nc:∀i,sB S3=some i->h.length<=i) (nr:∀i,sB To=some i->h.length<=i) (ncr:∀i,sB S3=some i->sB To≠some i) (hx:bh (fS (V.ex b) h) x') (hR:aD (fS (V.ex b) h) R') (hlo:∀j,some j∈R'.bl->N<=j):cH N h' b {V with e8:=V.e8++[x'],cM:=V.cM++[R'],sc:=S3,sr:=To}:=by
 obtain⟨d1,d2,d3⟩:=rW.1 o.di;have hbl:=o.lt;have hsub:jA (fS (V.ex b) h) (fS ({V with e8:=V.e8++[x'],cM:=V.cM++[R'],sc:=S3,sr:=To}.ex b) h'):=by
  refine nT (λi hi hne=>hk i hi (λe=>hne (by simp[HV.ex,e])) (λe=>hne (by simp[HV.ex,e])) (λe=>hne (by simp[HV.ex,e]))) λi hi hm=>?_
  simp only[HV.ex,aag,aaC,abh,aaa]at hm ⊢;rcases hm with hm|hm|hm|hm
  ·exact .inl hm
  ·exact .inr (.inl hm)
  ·have:=nc i hm.symm;omega
  ·have:=nr i hm.symm;omega
 refine⟨o.hN,hb,o.oe.aC λi hi=>?_,hc,hr,rW.2 ⟨λi hi=>?_,λi hi=>?_,ncr⟩,λx hx1=>(o.ae x hx1).sub hsub,λx hx1=>?_,λx hx1=>?_,λx hx1=>?_⟩
 ·exact hk i (o.oe.bP hi).2 (λe=>(d2 i hi).1 e) (λe=>(d2 i hi).2 e) (λe=>(d1 b rfl).1 (by rw[<-e];exact hi))
 ·cases hi;exact⟨(d1 b rfl).1,λe=>by have:=nc b e;omega,λe=>by have:=nr b e;omega⟩
 ·have h1:=(o.oe.bP hi).2;exact⟨λe=>by have:=nc i e;omega,λe=>by have:=nr i e;omega⟩
 ·rcases ZK.1 hx1 with hx1|hx1
  ·exact(o.ac x hx1).sub hsub
  ·rw[ZW]at hx1;rw[hx1];exact hx.sub hsub
 ·rcases ZK.1 hx1 with hx1|hx1
  ·exact(o.ag x hx1).sub hsub
  ·rw[ZW]at hx1;rw[hx1];exact hR.sub hsub
 ·rcases ZK.1 hx1 with hx1|hx1
  ·exact o.lo x hx1
  ·rw[ZW]at hx1;rw[hx1];exact hlo
end
section
variable {P:Program}(T:fy P)
include T
def MV{B g:ah}{V:HV}{b:Nat}{x:EV}(o:cH B.length (B++g) b V)(w:kY V.bS)(hl:V.da.length<1000)(ox:bh (B++g) x)(hxl:x.ev.names.length<=2^40/\x.ev.cB.length<=2^40)(gl:Gl B):
  du P 112 [.ptr b 0,.agg x.row] (B++g) (λv k=>Kf B (B++g) b V x.ev v k):=by
 have hcl:V.e8.length<=V.da.length:=by have:=w.le;simpa [HV.bS]using this
 have T4:V.cM.length=V.e8.length:=by have:=w.ln;simpa [HV.bS]using this
 refine .eP 94 T.mix T.c112 ?_;intro ts hlen t0 t1;unfold fn112;have Su:=@bh.box _ _ ox;have gl':Gl (B++g):=gl.ext ⟨g,rfl⟩;refine Rs (A4 t0 t1 @Su @b9) ?_;refine WF.ce T.c67 (r67 T (ox.ext Xx) hxl) λg1=>?_
 by_cases h1:gW x.ev=0
 case neg=>
  have q1:decide (gW x.ev≠0)=true:=ZI h1;refine Rs (A3 t0 t1 q1) ?_;have e:fJ V.bS x.ev=gW x.ev:=by rw[fJ,ZS h1]
  rw[ZE (B++g)];exact Kf.no o (by rw[e];exact h1) e.symm
 have q1:decide (gW x.ev≠0)=false:=ZD (λz=>z h1);obtain⟨d,wx⟩:=uy h1;have eb:fJ V.bS x.ev=kD V.bS x.ev:=by rw[fJ,ZN (λz=>z h1)]
 refine Rs (A4 t0 t1 q1 @b9) ?_;refine WF.ce T.c116 (r116 T (d:=d) (o.rd.ext Xx) w Om (ox.ext Xx) wx (gl'.ext Xx)) λg2=>?_
 by_cases h2:kD V.bS x.ev=0
 case neg=>
  have q2:decide (kD V.bS x.ev≠0)=true:=ZI h2;refine Rs (A3 t0 t1 q2) ?_;rw[ZE (B++g),ZE (B++g)];exact Kf.no o (by rw[eb];exact h2) eb.symm
 have q2:decide (kD V.bS x.ev≠0)=false:=ZD (λz=>z h2);rw[<-eb]at h2;refine Rs (A4 t0 t1 q2 @b9) ?_;refine WF.res T.c91 (r91 T x (ox.ext Xx) hxl) ?_;rintro _ g3 ⟨x',SC,rfl,fn,fv⟩;have X5:bh _ x':=⟨by rw[SC];exact fn.aX,by rw[SC];exact fv.aX⟩;have st:∀{b':Nat},jI 5 0 (.agg x'.row) b' (.b x.row)=some (az,.set b' (.b x'.row)):=λ{_}=>X5.st
 refine Rs (A3 t0 t1 @st) ?_;obtain⟨H,hH⟩:∃H,H=B++g++[ak.b x'.row]++g1++g2++g3:=⟨_,rfl⟩;have hHg:∃gH,H=B++gH:=⟨_,by rw[hH];simp only[ZE];rfl⟩;obtain⟨gH,hHB⟩:=hHg;have hex:Ext (B++g) H:=by rw[hH];exact Xx
 have oH:cH B.length H b V:=by obtain⟨z,hz⟩:=hex;rw[hz];exact o.app z
 have ay:∀j,(B++g).length+1<=j->H[j]? =(B++g++[ak.b x.row]++g1++g2++g3)[j]? :=λj hj=>by
  rw[hH];simp only[ZE];have e:∀C:ak,(B++(g++([C]++(g1++(g2++g3)))))[j]? =(g1++(g2++g3))[j-B.length-g.length-1]? :=λC=>by
   simp only[ZB]at hj;rw[ZP Om,ZP Om,ZP (by simp only[Z4];omega)];rfl
  rw[e,e]
 obtain⟨N,hN⟩:∃N,N=(B++g).length:=⟨_,rfl⟩;have fnl:=λj (hj:sB x'.sn=some j)=>fn.bP hj
 have fvl:=λj (hj:sB x'.sv=some j)=>fv.bP hj
 have VX:H.length=(B++g++[ak.b x.row]++g1++g2++g3).length:=by rw[hH];simp only[ZB,ZG,ZJ]
 have lnn:∀j,sB x'.sn=some j\/sB x'.sv=some j->(B++g).length+1<=j/\j<H.length:=λj hj=>by
  rw[VX];rcases hj with hj|hj
  ·have:=fnl j hj;exact z46
  ·have:=fvl j hj;exact z46
 have oxH:bh H x':=⟨by rw[SC];exact(fn.aC λj hj=>ay j (lnn j (.inl hj)).1).aX,by rw[SC];exact(fv.aC λj hj=>ay j (lnn j (.inr hj)).1).aX⟩;have eH:H[N]? =some (.b x'.row):=by rw[hH,hN];exact(show Ext (B++g++[ak.b x'.row]) _ from Xx).some aV
 rw[<-hH,<-hN];have hb:=oH.hb;have lb:=@eQ _ _ _ hb;have le:=@eQ _ _ _ eH;have bs:=@bh.Hx _ _ oxH;have dH:=rW.1 oH.di;refine Rs (A6 t0 t1 @lb @le @b9 @bs) ?_;refine WR.JA (N:=B.length) (cs:=V.da.map EV.row) (ys:=[x'.row]) (oH.app _).oe (Fr.push (N:=0) (aac _) [x'.row] (by intro y hy;rw[ZW]at hy;rw[hy];rfl)).aX (by rw[hHB];simp only[ZB];omega) De Si (by simp only[ZL,ZG,ZJ];omega) ?_;intro h1 Wt Um hk1;have hrow:V.da.map EV.row++[x'.row]=(V.da++[x']).map EV.row:=by rw[ZM];rfl
 rw[hrow]at Um;rw[hrow];obtain⟨Tl,Y8⟩:∃Tl,Tl=AV.slice (H++[ak.cells x'.row true true]).length 0 ((V.da++[x']).map EV.row).length 5:=⟨_,rfl⟩;rw[<-Y8]at Um ⊢;have XE:∀i,sB Tl=some i->H.length+1=i:=λi hi=>by rw[Y8]at hi;cases hi;simp
 have ose:Tl.one=true:=by rw[Y8];rfl
 have hk1':∀i,i<H.length->sB V.se≠some i->h1[i]? =H[i]? :=λi hi hne=>by rw[hk1 i (by simp;omega) hne,ZF hi]
 have hbl:=oH.lt;have SM:sB V.se≠some b:=(dH.1 b rfl).1;have S9:h1[b]? =some (.b [V.se,V.sc,V.sr]):=(hk1' b hbl SM).trans hb;have sb1:aU 1 (.ptr b 0) Tl (λz=>h1[z]?)=some (az,.set b (.b [Tl,V.sc,V.sr])):=by
  rw[aN S9];exact bW ose Si
 refine Rs (A2 t0 @sb1) ?_;have hb1l:b<h1.length:=(ZC.1 S9).1;obtain⟨H1,Xs⟩:∃H1,H1=h1.set b (.b [Tl,V.sc,V.sr]):=⟨_,rfl⟩;rw[<-Xs];have k1:∀i,i<H.length->sB V.se≠some i->i≠b->H1[i]? =H[i]? :=λi hi n1 n2=>by rw[Xs,ZV (aa3 n2)];exact hk1' i hi n1
 have m1:H1[b]? =some (.b [Tl,V.sc,V.sr]):=by rw[Xs,ZU hb1l]
 have X8:∀i,i<(B++g).length->some i∉V.ex b->H1[i]? =(B++g)[i]? :=λi hi hn=>by
  rw[k1 i (by rw[VX];simp only[ZB]at hi ⊢;omega) (λe=>hn (by rw[<-e];simp[HV.ex])) (λe=>hn (by rw[e];simp[HV.ex]))];obtain⟨z,hz⟩:=hex;rw[hz,ZF hi]
 have hB1:∃g',H1=B++g':=by
  have:=oH.hN;refine⟨H1.drop B.length,?_⟩;refine abZ λi=>?_
  by_cases hi:i<B.length
  ·have e2:B.length<=H.length:=by rw[hHB];simp
   have n1:sB V.se≠some i:=λe=>by have:=(oH.oe.bP e).1;omega
   rw[k1 i Om n1 Om,hHB,ZF hi,ZF hi]
  ·exact KP
 have Yo:∀j,some j∈V.ex b->j<(B++g).length:=λj hj=>o.Dl hj
 have oxm:bh (fS (V.ex b) H) x':=oxH.fS (λj hj hm=>by have:=(lnn j (.inl hj)).1;have:=Yo j hm;omega) (λj hj hm=>by have:=(lnn j (.inr hj)).1;have:=Yo j hm;omega);have VJ:cH B.length H1 b {V with da:=V.da++[x'],se:=Tl}:=oH.R1 k1 (Um.aC λi hi=>by rw[Xs,ZV (by have:=XE i hi;omega)]) m1 (λi hi=>by have:=XE i hi;omega) oxm;clear Um hk1 hk1' sb1 hb1l;have owc:Ow B.length H1 V.sc 5 (V.e8.map EV.row):=VJ.oc;have owr:Ow B.length H1 V.sr 7 (V.cM.map RV.row):=VJ.og;obtain⟨V1,Vj⟩:∃V1:HV,V1={V with da:=V.da++[x'],se:=Tl}:=⟨_,rfl⟩;rw[<-Vj]at VJ;have eN:H1[N]? =some (.b x'.row):=(k1 N (by rw[VX,hN];simp only[ZB,ZG];omega) (λe=>by have:=(o.oe.bP e).2;omega) (by have:=o.lt;omega)).trans eH
 have oxm1:bh (fS (V1.ex b) H1) x':=VJ.ae x' (by rw[Vj];simp);have X4:bh H1 x':=oxm1.sub (jA.fS _ _);obtain⟨gH1,hB1⟩:=hB1;have lb1:=@eQ _ _ _ m1;have le1:=@eQ _ _ _ eN;have hkx:x'.ev.kind=x.ev.kind:=by rw[SC]
 have SD:kE x.ev=d:=by rw[kE,wx.kd];rfl
 by_cases h5:d=.eV
 ·have q5:decide (x.ev.kind=[117,110,100,111])=true:=ZI (by rw[cj wx.kd,h5];rfl);refine Rs (A7 t0 @le1 @bA @hkx q5 @lb1 owc.aX.aK) ?_;have hne:V.e8≠[]:=λe=>by
   rw[eb,kD,SD,ZS h5,show V.bS.e8.getLast? =none by simp[HV.bS,e]]at h2;split at h2<;>exact absurd h2 De
  have hcp:0<V.e8.length:=aby.2 hne;have e2:IntKind.i64.wrap ((V.e8.length:Int)-1)=((V.e8.length-1:Nat):Int):=by rw[bj Om Om];omega
  obtain⟨S3,c1,c2,c3⟩:=owc.cut (n:=V.e8.length-1) Si (k:=.i64);obtain⟨To,r1,r2,r3⟩:=owr.cut (n:=V.e8.length-1) (by simp;omega) (k:=.i64);refine Rs (A5 t0 e2 @lb1 @c1 @r1) ?_;have osc:S3.one=true:=c3.aX.one;have osr:To.one=true:=r3.aX.one;have sA:aU 1 (.ptr b 1) S3 (λz=>H1[z]?)=some (az,.set b (.b [Tl,S3,V.sr])):=by
   rw[aN m1];exact bW osc Si
  have hbl1:b<H1.length:=VJ.lt;have m2:(H1.set b (.b [Tl,S3,V.sr]))[b]? =some (.b [Tl,S3,V.sr]):=ZU hbl1;have sB2:aU 1 (.ptr b 2) To (λz=>(H1.set b (.b [Tl,S3,V.sr]))[z]?)=some (az,.set b (.b [Tl,S3,To])):=by
   rw[aN m2];exact bW osr Si
  refine Rs (A3 t0 @sA @sB2) ?_;rw[List.set_set];obtain⟨gz,hz⟩:=vu (X:=.b [Tl,S3,To]) VJ.hN ⟨_,hB1⟩;have kz:∀i,i≠b->(H1.set b (.b [Tl,S3,To]))[i]? =H1[i]? :=λi hi=>ZV (aa3 hi)
  have d1:=rW.1 VJ.di;have d2:=rW.1 o.di;have hfr:∀i,i<(B++g).length->some i∉V.ex b->(B++gz)[i]? =(B++g)[i]? :=λi hi hn=>by
   rw[<-hz,kz i (λe=>hn (by rw[e];simp[HV.ex])),X8 i hi hn]
  refine⟨gz,{V1 with e8:=V1.e8.take (V.e8.length-1),cM:=V1.cM.take (V.e8.length-1),sc:=S3,sr:=To},hz,by rw[h2],?_,?_,hfr,λj hj=>?_⟩
  ·rw[<-hz];subst Vj;rw[<-List.map_take]at c3 r3;refine VJ.R0 (λi _ hi=>kz i hi) (c3.aC λi hi=>kz i λe=>?_) (r3.aC λi hi=>kz i λe=>?_) (ZU hbl1) c2 r2
   ·rw[c2]at hi;exact(d2.1 b rfl).2.1 (by rw[hi,e])
   ·rw[r2]at hi;exact(d2.1 b rfl).2.2 (by rw[hi,e])
  ·rw[ZS h2,kX,SD,ZS h5,Vj];simp only[HV.bS,ZM,List.map_take,aar,abn,SC,List.dropLast_eq_take,ZL,T4]
  ·subst Vj;simp only[HV.ex,aag,aaC,abh,aaa]at hj ⊢;rcases hj with hj|hj|hj|hj
   ·exact .inl (.inl hj)
   ·have:=XE j hj.symm;exact .inr (by rw[VX]at this;simp only[ZB]at this ⊢;omega)
   ·rw[c2]at hj;exact .inl (.inr (.inr (.inl hj)))
   ·rw[r2]at hj;exact .inl (.inr (.inr (.inr hj)))
 have q5:decide (x.ev.kind=[117,110,100,111])=false:=ZD λz=>h5 (by
  have:=wx.kd;rw[z]at this;exact(aaE ((mz .eV).symm.trans this)).symm)
 refine Rs (A5 t0 @le1 @bA @hkx q5) ?_;have U8:V1.now=V.now:=by rw[Vj];rfl
 have rd1:=VJ.rd;have wn:eD V1.now.an:=by rw[U8,V.jL];exact w.now
 refine WF.ce T.c79 (r79 T rd1 (by rw[Vj];show V.cM.length<=1000;omega)) λg4=>?_
 refine Rs t0 ?_;refine WF.res T.c96 (r96 T (rd1.now.ext Xx) wn) ?_;rintro _ g5 ⟨VN,hVN,rfl,own⟩;have J3:∀{b':Nat}{a0 a1 a2 a3 a4 a5 a6:AV},jI 7 0 (.agg VN.row) b' (.b [a0,a1,a2,a3,a4,a5,a6])=some (az,.set b' (.b VN.row)):=λ{_ _ _ _ _ _ _ _}=>own.ok.st
 repeat (first|simp (config:={maxSteps:=1000000}) only[aS,aW,bo,bp,reduceAdd,reduceMul,reduceLeDiff,reduceEqDiff,bw,hlen,ZY,Z1,t0,J3]|simp (config:={maxSteps:=1000000}) (disch:=first|(simp only[ZB,ZG,ZJ]<;>omega)|rfl|omega|fail) only[fN,aS,aW,bo,bp,reduceAdd,reduceMul,reduceLeDiff,reduceEqDiff,bw,hlen,ZY,Z1,t0,J3])
 refine WF.res T.c90 (r90 T) ?_;rintro _ g6 ⟨vf,rfl,hk⟩;obtain⟨hx3,Ww⟩:∃z,z=H1++g4++g5++[ak.b VN.row]:=⟨_,rfl⟩;rw[<-Ww]at hk ⊢;have lk:∀{z:AV},gZ .s z false (.map hx3.length) (.str x.ev.kind) (λb=>(hx3++g6)[b]?)=lQ z false ((gU x.ev.kind).map vf):=hk.look;rw[wx.kd]at lk;have Te:∀{z:AV},_=some (vf d,iR.ay):=@lk;obtain⟨rs,a,hv,hr,ha,hab⟩:=(hk.k d).ex;rw[hv]at Te;have e1x:Ext H1 (hx3++g6):=by rw[Ww];exact Xx
 have le2:∀{k n a},Ext (hx3++g6) k->aq n (.ptr N a) (λz=>k[z]?)=dJ n a (.b x'.row):=λ{_ _ _} e=>le1 (e1x.trans e)
 have cd:=lS d;obtain⟨rb,XC⟩:∃rb,rb=(H1++g4++g5).length:=⟨_,rfl⟩;rw[<-XC];refine Rs (A8 t0 @le2 @bA @hkx @bC @Te @cd @b9) ?_;have Vd:gL V.bS.now x.ev d=0:=by
  rw[eb,kD,SD,ZN h5]at h2;split at h2
  ·exact absurd h2 De
  ·exact h2
 have Ug:x.ev.num=(V.bS.da.length:Int)+1:=by
  rw[eb,kD]at h2;split at h2
  ·exact absurd h2 De
  case isFalse hh=>exact aa2.1 hh
 have hVR:VN.an=V.bS.now:=by rw[hVN,U8,V.jL]
 have SU:¬bI x.ev 0<V.bS.now.tick:=λz=>by rw[gL,ZS z]at Vd;exact absurd Vd De
 have Wh:kM d V.bS.now x.ev=0:=by
  rw[gL,ZN SU]at Vd;split at Vd
  case isTrue hh=>exact absurd Vd hh
  case isFalse hh=>exact aa2.1 hh
 have TU:bn V.bS.now x.ev d=0:=by rw[gL,ZN SU,ZN (by rw[Wh];decide)]at Vd;exact Vd
 obtain⟨G,hG⟩:=e1x;have hGl:H1.length<=rb/\rb<(H1++G).length:=by
  rw[<-hG,Ww,XC];simp only[ZB,ZG,ZJ];omega
 have rbk:bX H1.length (H1++G) rb VN:=by
  have:=(((own.app [ak.b VN.row]).app g6).low (M:=H1.length) Si);rw[<-Ww,hG]at this;refine⟨this,hGl.1,?_,λhb'=>?_⟩
  ·rw[<-hG,Ww,XC];exact(Ext.app _ (Ext.refl _)).some aV
  ·have:=(own.dU hb').2;omega
 have glG:Gl (H1++G):=(gl.ext ⟨_,hB1⟩).ext ⟨_,rfl⟩;have cx:Cx (H1++G) VN x' d:=⟨rbk.o.ok,by rw[hVN];exact wn,X4.ext ⟨_,rfl⟩,by rw[SC];exact wx,by rw[hVR,SC];exact vP Wh⟩;rw[hG];refine GF T h5 rbk cx (by rw[hVR,SC];exact TU) glG ?_;rintro _ _ ⟨g7,V7,rfl,r7,hr7⟩;have e17:Ext H1 (H1++g7):=⟨_,rfl⟩;have le3:∀{k n a},Ext (H1++g7) k->aq n (.ptr N a) (λz=>k[z]?)=dJ n a (.b x'.row):=λ{_ _ _} e=>le1 (e17.trans e)
 have Tp:0<x'.ev.cB.length:=by rw[SC,wx.vl];cases d<;>first|exact absurd rfl h5|decide
 have qM:aZ 1 x'.sv (.i 0)=some (cT x'.sv 1 0,.ay):=X4.v.qM Tp;have ld0:∀{k':ah},Ext (H1++g7) k'->aq none (cT x'.sv 1 0) (λb=>k'[b]?)=some (.i (bI x.ev 0),.ay):=λ{k'} e=>by
  have ev0:bI x.ev 0=x'.ev.cB[0]:=by rw[<-SC,bI,aaf,ZH Tp];rfl
  rw[ev0];exact X4.v.kg Tp rfl (e17.trans e)
 have s7:aU 1 (.ptr rb 0) (.i (bI x.ev 0)) (λz=>(H1++g7)[z]?)=some (az,.set rb (.b (V7.row.set 0 (.i (bI x.ev 0))))):=iI r7.m rfl De;obtain⟨g8,hg8,r8⟩:=r7.tk (bI x.ev 0);refine Rs (A6 t0 @le3 @aY @qM @ld0 @s7) ?_;rw[hg8];obtain⟨V8,hV8⟩:∃V8:RV,V8={V7 with tick:=bI x.ev 0}:=⟨_,rfl⟩;rw[<-hV8]at r8;have hr8:V8.an=iw V.bS.now x.ev d:=by
  rw[hV8,iw,<-hVR];have:dt VN.an x.ev d=V7.an:=by rw[hr7,SC]
  rw[this];rfl
 clear s7 le2 le3 ld0 Te lk hk;have oV2:cH B.length (H1++g8) b V1:=VJ.app g8;have e18:Ext H1 (H1++g8):=⟨_,rfl⟩;have lb2:∀{k n a},Ext (H1++g8) k->aq n (.ptr b a) (λz=>k[z]?)=dJ n a (.b [Tl,V.sc,V.sr]):=λ{_ _ _} e=>lb1 (e18.trans e)
 have le2:∀{k n a},Ext (H1++g8) k->aq n (.ptr N a) (λz=>k[z]?)=dJ n a (.b x'.row):=λ{_ _ _} e=>le1 (e18.trans e)
 have lr2:=@eQ _ _ _ r8.m;have bs1:=@bh.Hx _ _ X4;have bs2:=@aD.Hx _ _ r8.o.ok;obtain⟨H2,WT⟩:∃H2,H2=H1++g8:=⟨_,rfl⟩;have m2:H2[b]? =some (.b [Tl,V.sc,V.sr]):=by rw[WT];exact e18.some m1
 have e2:H2[N]? =some (.b x'.row):=by rw[WT];exact e18.some eN
 have r2m:H2[rb]? =some (.b V8.row):=by rw[WT];exact r8.m
 have hB2:∃g',H2=B++g':=⟨_,by rw[WT,hB1,ZE]⟩;rw[<-WT]at r8 oV2 ⊢;have YP:Ow B.length H2 V.sc 5 (V.e8.map EV.row):=by have:=oV2.oc;rw[Vj]at this;exact this
 have Xv:Ow B.length H2 V.sr 7 (V.cM.map RV.row):=by have:=oV2.og;rw[Vj]at this;exact this
 have d1:=rW.1 VJ.di;have d1b:sB V.sc≠some b/\sB V.sr≠some b:=by have:=(d1.1 b rfl).2;rw[Vj]at this;exact this
 have d1c:∀i,sB V.sc=some i->sB V.sr≠some i:=by have:=d1.2.2;rw[Vj]at this;exact this
 have hBl:B.length<=H2.length:=by obtain⟨z,hz⟩:=hB2;rw[hz];simp
 refine pr (λh=>h[b]? =some (.b [Tl,V.sc,V.sr])/\h[N]? =some (.b x'.row)/\h[rb]? =some (.b V8.row)) ?_;have hS:(λh:ah=>h[b]? =some (.b [Tl,V.sc,V.sr])/\h[N]? =some (.b x'.row)/\h[rb]? =some (.b V8.row)) H2:=⟨m2,e2,r2m⟩;refine db hS rfl rfl ?_;refine Rs t0 ?_;refine db hS rfl rfl ?_;refine Rs t0 ?_;refine db hS rfl rfl ?_;refine Rs t0 ?_;refine db hS rfl rfl ?_;refine Rs t0 ?_;refine db hS rfl rfl ?_;refine Rs t0 ?_;refine lA hS (v:=V.sc) (λg hg=>?_) ?_
 ·exact Q5
 refine Rs t0 ?_;refine lA hS (v:=.agg x'.row) (λg hg=>?_) ?_
 ·simp only[aS,aW,bo,bp,reduceAdd,reduceMul,reduceLeDiff,reduceEqDiff,bw,hlen,ZY,Z1,t0,aB hg.2.1,b9]
 refine Rs t0 ?_;refine db hS rfl rfl ?_;refine Rs (A2 t0 @bs1) ?_;have x3:Ext H2 (H2++[ak.cells x'.row true true]):=⟨_,rfl⟩;have hS3:(λh:ah=>h[b]? =some (.b [Tl,V.sc,V.sr])/\h[N]? =some (.b x'.row)/\h[rb]? =some (.b V8.row)) (H2++[ak.cells x'.row true true]):=⟨x3.some m2,x3.some e2,x3.some r2m⟩;refine db hS3 rfl rfl ?_;refine Rs t0 ?_;refine WR.JA (N:=B.length) (cs:=V.e8.map EV.row) (ys:=[x'.row]) (YP.aC λi hi=>ZF (YP.bP hi).2) (Fr.push (N:=0) (aac _) [x'.row] (by intro y hy;rw[ZW]at hy;rw[hy];rfl)).aX (by simp only[ZB];omega) De Si (by simp only[ZL,ZG,ZJ];omega) ?_;intro h4 hl4 hs4 hk4
 have Yd:V.e8.map EV.row++[x'.row]=(V.e8++[x']).map EV.row:=by rw[ZM];rfl
 rw[Yd]at hs4;rw[Yd];obtain⟨S3,hsc⟩:∃S3,S3=AV.slice (H2++[ak.cells x'.row true true]).length 0 ((V.e8++[x']).map EV.row).length 5:=⟨_,rfl⟩;rw[<-hsc]at hs4 ⊢;have hl4':h4.length=H2.length+2:=by rw[hl4];simp
 have XF:∀i,sB S3=some i->H2.length+1=i:=λi hi=>by rw[hsc]at hi;cases hi;simp
 have osc:S3.one=true:=by rw[hsc];rfl
 have k4:∀i,i<H2.length->sB V.sc≠some i->h4[i]? =H2[i]? :=λi hi hne=>by rw[hk4 i (by simp;omega) hne,ZF hi]
 have hNl:N<H2.length:=(ZC.1 e2).1;have T4:rb<H2.length:=(ZC.1 r2m).1;have hbl2:b<H2.length:=(ZC.1 m2).1;have XT:∀j,some j∈V.ex b->j<N:=λj hj=>by rw[hN];exact o.Dl hj
 have ncN:sB V.sc≠some N:=λe=>by have:=XT N (by rw[<-e];simp[HV.ex]);omega
 have nrN:sB V.sr≠some N:=λe=>by have:=XT N (by rw[<-e];simp[HV.ex]);omega
 have hNr:N<rb:=by have:=(ZC.1 eN).1;omega
 have ncr:sB V.sc≠some rb:=λe=>by have:=XT rb (by rw[<-e];simp[HV.ex]);omega
 have nrr:sB V.sr≠some rb:=λe=>by have:=XT rb (by rw[<-e];simp[HV.ex]);omega
 have XV:(λh:ah=>h[b]? =some (.b [Tl,V.sc,V.sr])/\h[N]? =some (.b x'.row)/\h[rb]? =some (.b V8.row)) h4:=⟨(k4 b hbl2 d1b.1).trans m2,(k4 N hNl ncN).trans e2,(k4 rb T4 ncr).trans r2m⟩;refine Rs t0 ?_;refine db XV rfl rfl ?_;refine Rs t0 ?_;refine db XV rfl rfl ?_;refine Rs t0 ?_;refine db XV rfl rfl ?_;refine Rs t0 ?_;refine lA XV (v:=V.sr) (λg hg=>?_) ?_
 ·exact Q5
 refine Rs t0 ?_;refine lA XV (v:=.agg V8.row) (λg hg=>?_) ?_
 ·simp only[aS,aW,bo,bp,reduceAdd,reduceMul,reduceLeDiff,reduceEqDiff,bw,hlen,ZY,Z1,t0,aB hg.2.2,aF]
 refine Rs t0 ?_;refine db XV rfl rfl ?_;refine Rs (A2 t0 @bs2) ?_;have x5:Ext h4 (h4++[ak.cells V8.row true true]):=⟨_,rfl⟩;have hS5:(λh:ah=>h[b]? =some (.b [Tl,V.sc,V.sr])/\h[N]? =some (.b x'.row)/\h[rb]? =some (.b V8.row)) (h4++[ak.cells V8.row true true]):=⟨x5.some XV.1,x5.some XV.2.1,x5.some XV.2.2⟩;have owr4:Ow B.length (h4++[ak.cells V8.row true true]) V.sr 7 (V.cM.map RV.row):=Xv.aC λi hi=>by
  have hil:=(Xv.bP hi).2;rw[ZF Om];exact k4 i hil λe=>d1c i e hi
 refine db hS5 rfl rfl ?_;refine Rs t0 ?_;refine WR.JA (N:=B.length) (cs:=V.cM.map RV.row) (ys:=[V8.row]) owr4 (Fr.push (N:=0) (aac _) [V8.row] (by intro y hy;rw[ZW]at hy;rw[hy];rfl)).aX (by simp only[ZB];omega) De Si (by simp only[ZL,ZG,ZJ];omega) ?_;intro h6 hl6 hs6 hk6;have Yc:V.cM.map RV.row++[V8.row]=(V.cM++[V8]).map RV.row:=by rw[ZM];rfl
 rw[Yc]at hs6;rw[Yc];obtain⟨To,hsr⟩:∃To,To=AV.slice (h4++[ak.cells V8.row true true]).length 0 ((V.cM++[V8]).map RV.row).length 7:=⟨_,rfl⟩;rw[<-hsr]at hs6 ⊢;have hl6':h6.length=H2.length+4:=by rw[hl6];simp;omega
 have XD:∀i,sB To=some i->H2.length+3=i:=λi hi=>by rw[hsr]at hi;cases hi;simp;omega
 have osr:To.one=true:=by rw[hsr];rfl
 have k6:∀i,i<H2.length->sB V.sc≠some i->sB V.sr≠some i->h6[i]? =H2[i]? :=λi hi n1 n2=>by
  rw[hk6 i (by simp;omega) n2,ZF Om];exact k4 i hi n1
 have hS6:(λh:ah=>h[b]? =some (.b [Tl,V.sc,V.sr])/\h[N]? =some (.b x'.row)/\h[rb]? =some (.b V8.row)) h6:=⟨(k6 b hbl2 d1b.1 d1b.2).trans m2,(k6 N hNl ncN nrN).trans e2,(k6 rb T4 ncr nrr).trans r2m⟩;refine Rs t0 ?_;refine pq hS6 rfl ?_;have m6:=hS6.1;have hb6:b<h6.length:=(ZC.1 m6).1;have sA:aU 1 (.ptr b 1) S3 (λz=>h6[z]?)=some (az,.set b (.b [Tl,S3,V.sr])):=by
  rw[aN m6];exact bW osc Si
 have m7:(h6.set b (.b [Tl,S3,V.sr]))[b]? =some (.b [Tl,S3,V.sr]):=ZU hb6;have sB2:aU 1 (.ptr b 2) To (λz=>(h6.set b (.b [Tl,S3,V.sr]))[z]?)=some (az,.set b (.b [Tl,S3,To])):=by
  rw[aN m7];exact bW osr Si
 refine Rs (A3 t0 @sA @sB2) ?_;rw[List.set_set];obtain⟨gB2,hgB2⟩:=hB2;obtain⟨gz,hz⟩:=vu (X:=.b [Tl,S3,To]) oV2.hN (ET (B:=B) (h:=h6) Om λi hi=>by
  rw[k6 i Om (λe=>by have:=(YP.bP e).1;omega) (λe=>by have:=(Xv.bP e).1;omega),hgB2,ZF hi])
 have kz:∀i,i≠b->(h6.set b (.b [Tl,S3,To]))[i]? =h6[i]? :=λi hi=>ZV (aa3 hi)
 have oxm2:bh (fS (V1.ex b) H2) x':=oV2.ae x' (by rw[Vj];simp);have oR2:aD (fS (V1.ex b) H2) V8:=r8.o.ok.fS λj hj hm=>by
  have h1:=(r8.o.dU hj).1;have h2:=VJ.Dl hm;omega
 have hBH1:B.length<=H1.length:=by rw[hB1];simp
 have fin:cH B.length (h6.set b (.b [Tl,S3,To])) b {V1 with e8:=V1.e8++[x'],cM:=V1.cM++[V8],sc:=S3,sr:=To}:=by
  subst Vj;refine oV2.R2 (λi hi n1 n2 nb=>(kz i nb).trans (k6 i hi n1 n2)) (hs4.aC λi hi=>?_) (hs6.aC λi hi=>kz i ?_) (ZU hb6) (λi hi=>by have:=XF i hi;omega) (λi hi=>by have:=XD i hi;omega) (λi h1 h2=>by have:=XF i h1;have:=XD i h2;omega) oxm2 oR2 (λj hj=>aat hBH1 (r8.o.dU hj).1)
  ·have h1:=XF i hi;rw[kz i Om,hk6 i (by simp;omega) (λe=>by have:=(Xv.bP e).2;omega),ZF Om]
  ·have h1:=XD i hi;omega
 have hfr:∀i,i<(B++g).length->some i∉V.ex b->(B++gz)[i]? =(B++g)[i]? :=λi hi hn=>by
  have hi1:=X8 i hi hn;have hil:i<H1.length:=by
   rw[ZH hi]at hi1;exact(ZC.1 hi1).1
  rw[<-hz,kz i (λe=>hn (by rw[e];simp[HV.ex])),k6 i (by rw[WT,ZB];omega) (λe=>hn (by rw[<-e];simp[HV.ex])) (λe=>hn (by rw[<-e];simp[HV.ex])),WT,ZF hil,hi1]
 have hlo:(B++g).length<=H.length:=by rw[VX];simp only[ZB];omega
 have hlo2:H.length<=H2.length:=by rw[WT,ZB,Xs,aap,Wt];simp only[ZB];omega
 have hexn:∀j,some j∈HV.ex b {V1 with e8:=V1.e8++[x'],cM:=V1.cM++[V8],sc:=S3,sr:=To}->some j∈V.ex b\/(B++g).length<=j:=λj hj=>by
  subst Vj;simp only[HV.ex,aag,aaC,abh,aaa]at hj ⊢;rcases hj with hj|hj|hj|hj
  ·exact .inl (.inl hj)
  ·have:=XE j hj.symm;exact .inr Om
  ·have:=XF j hj.symm;exact .inr Om
  ·have:=XD j hj.symm;exact .inr Om
 refine⟨gz,_,hz,by rw[h2],by rw[<-hz];exact fin,?_,hfr,hexn⟩;rw[ZS h2,kX,SD,ZN h5,Vj];simp only[HV.bS,ZM,aar,abn,SC,hr8]
end
def DR{H e}(h:kD H e=0):e.num=(H.da.length:Int)+1/\(kE e=.eV->H.e8≠[])/\(kE e≠.eV->gL H.now e (kE e)=0):=by
 unfold kD at h;split at h
 ·exact absurd h De
 case isFalse h1=>
 refine⟨aa2.1 h1,λhk hn=>?_,λhk=>by rw[ZN hk]at h;exact h⟩;rw[ZS hk,hn]at h;exact absurd h De
def DF{H e}(h:fJ H e=0):gW e=0/\kD H e=0:=by
 unfold fJ at h;split at h
 case isTrue h1=>exact absurd h h1
 case isFalse h1=>exact⟨aa2.1 h1,h⟩
theorem jY.kE{e d}(w:jY e d):Go.Abs.kE e=d:=by rw[Go.Abs.kE,w.kd];rfl
def kY.add{H e}(w:kY H)(h:fJ H e=0):kY (kX H e):=by
 obtain⟨h1,h2⟩:=DF h;obtain⟨d,we⟩:=uy h1;obtain⟨h3,h4,h5⟩:=DR h2;have SD:=we.kE;unfold kX;split
 case isTrue hu=>
  have hl:=aby.2 (h4 hu);have e1:=w.ln;have e2:=w.le;refine⟨λR hR=>w.rg R ((List.dropLast_sublist _).mem hR),by simp[e1],?_,λx hx=>?_,λx hx=>w.cn x ((List.dropLast_sublist _).mem hx)⟩
  ·simp only[List.length_dropLast,ZB,Z4];omega
  ·exact z116
 case isFalse hu=>
  have e1:=w.ln;have e2:=w.le;have hs:=h5 hu;rw[SD]at hs hu;refine⟨λR hR=>?_,by simp[e1],by simp only[ZB,Z4];omega,λx hx=>?_,λx hx=>?_⟩
  ·rcases ZK.1 hR with hR|hR
   ·exact w.rg R hR
   ·rw[ZW]at hR;rw[hR,SD];exact w.now.step we hu hs
  ·exact z116
  ·rcases ZK.1 hx with hx|hx
   ·exact w.cn x hx
   ·rw[ZW]at hx;subst hx;exact⟨d,we⟩
def xA{H e}:(kX H e).da.length=H.da.length+1:=by
 unfold kX;split<;>simp
def Kb(h:ah)(l:List dN)(v:AV)(k:ah):Prop:=
 ∃p,v=.dL [p,.i (bF l).2.1,.i (bF l).2.2]/\((bF l).2.2≠0->p=.nilPtr)/\
  ((bF l).2.2=0->∃b V,p=.ptr b 0/\cH h.length k b V/\V.bS=(bF l).1/\kY V.bS/\V.da.length=l.length/\l.length<=1000)
structure uV(L:List EV):Prop where
 l:L.length<=2^30
 e:∀x∈L,x.ev.names.length<=2^30/\x.ev.cB.length<=2^30
section
variable {P:Program}(T:fy P) {h:ah}
include T
def r78{L s}(o:eE h L s)(sh:uV L)(gl:Gl h):aA P 78 [s] h (Kb h (L.map EV.ev)):=by
 have UL:=sh.l;refine .lB 31 T.mix T.c78 ?_;intro ts hlen t0;unfold fn78 gA;by_cases h1:1000<L.length
 ·have q1:decide ((1000:Int)<(L.length:Int))=true:=ZI Om;refine Rs (A3 t0 o.sl.aK q1) ?_;have e:bF (L.map EV.ev)=(iK.zero,0,5):=by rw[bF,ZS (by simpa using h1)]
  unfold Kb;rw[e];exact⟨_,rfl,λ_=>rfl,λz=>absurd z De⟩
 have q1:decide ((1000:Int)<(L.length:Int))=false:=ZD Om;refine Rs (A3 t0 o.sl.aK q1) ?_;have e0:bF (L.map EV.ev)=jC iK.zero (L.map EV.ev) 0:=by rw[bF,ZN (by simpa using h1)]
 obtain⟨b,hb⟩:∃b,b=h.length:=⟨_,rfl⟩;rw[<-hb];refine WL.inv T.mix (λm ts h'=>∃(k:Nat) (g':ah) (V:HV),k<=L.length/\m=L.length-k/\h' =h++g'/\cH h.length (h++g') b V/\kY V.bS/\V.da.length=k/\bF (L.map EV.ev)=jC V.bS ((L.drop k).map EV.ev) k/\ts.length=31/\slot ts 5=.ptr b 0/\slot ts 14=s/\slot ts 15=.i L.length/\slot ts 16=.i k) L.length
  ⟨0,[ak.b [AV.af,.af,.af]],⟨[],[],[],.af,.af,.af⟩,Om,rfl,rfl,⟨Om,by rw[hb];exact aV,.nil,.nil,.nil,rW.2 ⟨λ_ _=>⟨by simp[sB],by simp[sB],by simp[sB]⟩,λ_ z=>by simp[sB]at z,λ_ z=>by simp[sB]at z⟩,(λx hx=>by cases hx),(λx hx=>by cases hx),(λx hx=>by cases hx),(λx hx=>by cases hx)⟩,kY.zero,rfl,e0,Sn,Sw,(Sq t0),Sw,gP⟩ ?_
 rintro _ ts _ ⟨k,g',V,hk,rfl,rfl,oV,wV,hVl,SB,hlen,t5,t14,t15,t16⟩;by_cases hlt:k<L.length
 ·have e3:=eC hlt;have e5:=wrapN (n:=k) Om;have ix:=o.sl.dE (kk:=.i64) hlt;have ld:∀{k'},Ext (h++g') k'->aq (some 5) (cT s 5 k) (λb=>k'[b]?)=some (.agg (EV.row L[k]),.ay):=λ{k'} e=>o.sl.kf hlt (Ext.trans (Ext.app g' (Ext.refl h)) e)
  obtain⟨x,hx⟩:∃x,x=L[k]:=⟨_,rfl⟩;have hm:x∈L:=by rw[hx];exact ZR _
  have hd:L.drop k=x::L.drop (k+1):=by rw[hx];simp
  rw[<-hx]at ld;have ox:bh (h++g') x:=(o.all x hm).ext ⟨_,rfl⟩;have st:∀{b':Nat}{a0 a1 a2 a3 a4:AV},jI 5 0 (.agg x.row) b' (.b [a0,a1,a2,a3,a4])=some (az,.set b' (.b x.row)):=λ{_ _ _ _ _ _}=>ox.st
  refine Rs (A9 t5 t14 t15 t16 e3 ix @ld @st @b9) ?_;rw[ZE h g'];rw[hd,aar,jC]at SB;refine WF.gen T.c112 (MV T (B:=h) (x:=x) (by rw[<-ZE];exact oV.app _) wV Om (by rw[<-ZE];exact ox.ext Xx) ⟨by have:=(sh.e x hm).1;omega,by have:=(sh.e x hm).2;omega⟩ gl) ?_;rintro _ _ ⟨g2,V2,rfl,rfl,o2,hV2,-,-⟩;by_cases h2:fJ V.bS x.ev=0
  ·have q2:decide (fJ V.bS x.ev≠0)=false:=ZD (λz=>z h2);rw[ZS h2]at hV2;rw[ZN (λz=>z h2)]at SB;refine Rs (A6 t5 t14 t15 t16 q2 e5) ?_;refine⟨_,Om,k+1,g2,V2,Om,rfl,rfl,o2,by rw[hV2];exact wV.add h2,?_,by rw[hV2];exact SB,rfl⟩;have:V2.bS.da.length=V.bS.da.length+1:=by rw[hV2];exact xA
   simpa [HV.bS,hVl]using this
  ·have q2:decide (fJ V.bS x.ev≠0)=true:=ZI h2;rw[ZS h2]at SB;refine Rs (A6 t5 t14 t15 t16 q2 e5) ?_;unfold Kb;rw[SB];refine⟨_,?_,λ_=>rfl,λz=>absurd z h2⟩;simp
 ·have e3:=ff hlt;have e4:k=L.length:=Om
  have VP:bF (L.map EV.ev)=(V.bS,0,0):=by rw[SB,e4,aaF];rfl
  refine Rs (A5 t5 t14 t15 t16 e3) ?_;unfold Kb;rw[VP];exact⟨_,rfl,λz=>absurd rfl z,λ_=>⟨b,V,rfl,oV,rfl,wV,by simp;omega,by simp;omega⟩⟩
end
def rh(t:Int):Int:=bg t 0 999999999
def RQ:decide ((0:Int)≠0)=false:=rfl
def eM(l:List dN)(t:Nat)(n:By):dA×Int:=if(bF l).2.2≠0 then(dA.zero,(bF l).2.2)else((bF l).1.now,cA (!dW (bF l).1.now t n) 10)
def cH.IG{N h b V}(o:cH N h b V):∀j,some j∈V.now.bl->N<=j:=by
 rw[HV.now,aa1];cases hx:V.cM.getLast? with
 |none=>intro j hj;simp[RV.zero,RV.bl,sB]at hj
 |some R=>exact o.lo R (abF hx)
def ur{h X:ah}{A C:ak}{j:Nat}(hj:h.length+1<=j):(h++[A]++X)[j]? =(h++[C]++X)[j]? :=by
 exact N1
section
variable {P:Program}(T:fy P) {h:ah}
include T
def r75(t:Int):aA P 75 [.i t] h (λv _=>v=.i (rh t)):=by
 refine .lB 5 T.mix T.c75 ?_;intro ts hlen t0;unfold fn75 gA;refine Rs t0 ?_;refine WF.ce T.c94 (r94 T _ _ _) λg1=>?_
 refine Rs t0 ?_;rfl
def Ck{l v k}(r:Kb h l v k)(he:(bF l).2.2≠0):v=.dL [.nilPtr,.i (bF l).2.1,.i (bF l).2.2]:=by
 have:=T.mix;obtain⟨p,rfl,h1,_⟩:=r;rw[h1 he]
def y9{l v k}(r:Kb h l v k)(he:(bF l).2.2=0):∃b V,v=.dL [.ptr b 0,.i 0,.i 0]/\cH h.length k b V/\V.bS=(bF l).1/\kY V.bS/\V.da.length=l.length/\l.length<=1000/\V.cM.length<=1000/\(bF l).2.1=0/\eD V.now.an/\V.now.an=(bF l).1.now/\aD k V.now/\∀j,some j∈V.now.bl->h.length<=j:=by
 have:=T.mix;obtain⟨p,rfl,_,h2⟩:=r;obtain⟨b,V,rfl,h3,h4,h5,h6,h7⟩:=h2 he;have hz:(bF l).2.1=0:=by
  revert he
  unfold bF;split
  ·intro _;rfl
  ·have key:∀(l:List dN) (H:iK) (i:Nat),(jC H l i).2.2=0->(jC H l i).2.1=0:=by
    intro l
    induction l with
    |nil=>intro H i _;rfl
    |cons e l ih=>
     intro H i;rw[jC];split
     case isTrue hb=>intro hc;exact absurd hc hb
     case isFalse hb=>exact ih _ _
   exact key l _ _
 have hr:V.cM.length<=1000:=by
  have e1:=h5.ln;have e2:=h5.le;exact K2
 exact⟨b,V,by rw[hz,he],h3,h4,h5,h6,h7,hr,hz,by rw[V.jL];exact h5.now,by rw[V.jL,h4],h3.rd.now,h3.IG⟩
def r73{L:List EV}{s:AV}(o:eE h L s)(sh:uV L)(gl:Gl h){t:Nat}(ht:t<6)(n:By):aA P 73 [s,.i t,.str n] h (λv k=>∃V:RV,v=.dL [.agg V.row,.i (eM (L.map EV.ev) t n).2]/\V.an=(eM (L.map EV.ev) t n).1/\aD k V/\eD V.an):=by
 refine .nW 31 T.mix T.c73 ?_;intro ts hlen t0 t1 t2;unfold fn73 gA;refine Rs (A3 t0 t1 t2) ?_;refine WF.res T.c78 (r78 T (o.ext Xx) sh (gl.ext Xx)) ?_;intro v g hv;by_cases he:(bF (L.map EV.ev)).2.2=0
 ·obtain⟨b,V,rfl,oV,hV,wV,_,_,hr,_,wn,hn,on,lo⟩:=y9 T hv he;have st:=@aD.st _ _ on;refine Rs (A4 t0 t1 t2 @RQ) ?_;refine WF.ce T.c79 (r79 T (oV.rd.ext Xx) hr) λg2=>?_
  refine Rs (A5 t0 t1 t2 @st @aF) ?_;refine WF.ce T.c86 (r86 T (on.ext Xx) wn.len ht _) λg3=>?_
  refine Rs (A4 t0 t1 t2 @aF) ?_;refine WF.ce T.c85 (r85 T _ _) λg4=>?_
  refine Rs (A5 t0 t1 t2 @st @aF) ?_;refine⟨V.now,?_,?_,?_,wn⟩
  ·rw[eM,ZN (λz=>z he),hn]
  ·rw[eM,ZN (λz=>z he),hn]
  ·refine(on.ay (k:=h++[ak.b V.now.row]++g) λj hj=>ur (by have:=lo j hj;simpa using this)).ext Xx
 ·have T3:=Ck T hv he;subst T3;have q:decide ((bF (L.map EV.ev)).2.2≠0)=true:=ZI he;refine Rs (A4 t0 t1 t2 q) ?_;refine⟨RV.zero,?_,?_,aD.zero,eD.zero⟩
  ·rw[eM,ZS he];rfl
  ·rw[eM,ZS he];rfl
def r34{L s}(o:eE h L s)(sh:uV L)(gl:Gl h):aA P 34 [s] h (λv k=>∃V:RV,v=.dL [.agg V.row,.i (bF (L.map EV.ev)).2.1,.i (bF (L.map EV.ev)).2.2]/\V.an=(bF (L.map EV.ev)).1.now/\aD k V/\eD V.an):=by
 refine .lB 22 T.mix T.c34 ?_;intro ts hlen t0;unfold fn34 gA;refine Rs t0 ?_;refine WF.res T.c78 (r78 T (o.ext Xx) sh (gl.ext Xx)) ?_;intro v g hv;by_cases he:(bF (L.map EV.ev)).2.2=0
 ·obtain⟨b,V,rfl,oV,hV,wV,_,_,hr,hz,wn,hn,on,lo⟩:=y9 T hv he;refine Rs (A2 t0 @RQ) ?_;refine WF.ce T.c79 (r79 T (oV.rd.ext Xx) hr) λg2=>?_
  refine Rs t0 ?_;refine WF.res T.c96 (r96 T (on.ext Xx) wn) ?_;rintro _ g3 ⟨VN,hVN,rfl,own⟩;have st:∀{b':Nat}{a0 a1 a2 a3 a4 a5 a6:AV},jI 7 0 (.agg VN.row) b' (.b [a0,a1,a2,a3,a4,a5,a6])=some (az,.set b' (.b VN.row)):=λ{_ _ _ _ _ _ _ _}=>own.ok.st
  refine Rs (A3 t0 @st @aF) ?_;refine⟨VN,by rw[he,hz],by rw[hVN,hn],?_,by rw[hVN];exact wn⟩;have:=own.ok.ay (k:=h++[ak.b VN.row]++(g++g2++g3)) λj hj=>by
   have:=(own.dU hj).1;rw[show h++[ak.b [AV.int IntKind.i64 0,AV.af,AV.af,AV.af,AV.af,AV.af,AV.af]]++g++g2++g3=h++[ak.b [AV.int IntKind.i64 0,AV.af,AV.af,AV.af,AV.af,AV.af,AV.af]]++(g++g2++g3) by simp only[ZE]];exact ur (by simp only[ZB,Z4]at this;omega)
  simpa only[ZE]using this
 ·have T3:=Ck T hv he;subst T3;have q:decide ((bF (L.map EV.ev)).2.2≠0)=true:=ZI he;refine Rs (A2 t0 q) ?_;have hz:(bF (L.map EV.ev)).1=iK.zero:=by
   revert he
   unfold bF;split
   ·intro _;rfl
   ·have key:∀(l:List dN) (H:iK) (i:Nat),(jC H l i).2.2≠0->(jC H l i).1=iK.zero:=by
     intro l
     induction l with
     |nil=>intro H i z;exact absurd rfl z
     |cons e l ih=>
      intro H i;rw[jC];split
      case isTrue hb=>intro _;rfl
      case isFalse hb=>exact ih _ _
    exact key _ _ _
  exact⟨RV.zero,rfl,by rw[hz];rfl,aD.zero,eD.zero⟩
end
def yo{l t n}(h:(eM l t n).2=0):(bF l).2.2=0/\(eM l t n).1=(bF l).1.now/\n∈H3 (bF l).1.now t:=by
 unfold eM at h ⊢;split at h
 case isTrue h1=>exact absurd h h1
 case isFalse h1=>
  rw[ZN h1];refine⟨aa2.1 h1,rfl,?_⟩;by_cases hh:dW (bF l).1.now t n=true
  ·unfold dW at hh;exact aaU hh
  ·have:dW (bF l).1.now t n=false:=by simpa using hh
   simp only[this,cA]at h;exact absurd h De
def vw(l:List dN)(n:By)(t:Int):Bool×Int:=
 if bD [(eM l 2 n).2,rh t]≠0 then(false,bD [(eM l 2 n).2,rh t])else(gX (eM l 2 n).1 (rm (eM l 2 n).1 n) t,0)
def qE(l:List dN)(t:Int):List (By)×Int:=
 if bD [(bF l).2.2,rh t]≠0 then([],bD [(bF l).2.2,rh t])else(kG (bF l).1.now t,0)
def wi(l:List dN)(n:By):List Int×Int:=if(eM l 4 n).2≠0 then([],(eM l 4 n).2)else(cI (cW (eM l 4 n).1 n).bd 0,0)
def BY(l:List dN)(n:By):List (By)×Int:=if(eM l 3 n).2≠0 then([],(eM l 3 n).2)else((dV (eM l 3 n).1 n).map dX.name,0)
def Dg{a b}(h:bD [a,b]=0):a=0/\b=0:=by
 simp only[bD]at h;split at h
 ·rename_i ha;split at h
  ·rename_i hb;exact⟨ha,hb⟩
  ·rename_i hb;exact absurd h hb
 ·rename_i ha;exact absurd h ha
section
variable {P:Program}(T:fy P) {h:ah}
include T
def r16{L s}(o:eE h L s)(sh:uV L)(gl:Gl h)(n:By)(t:Int):aA P 16 [s,.str n,.i t] h (λv _=>v=.dL [.bool (vw (L.map EV.ev) n t).1,.i (vw (L.map EV.ev) n t).2]):=by
 refine .nW 31 T.mix T.c16 ?_;intro ts hlen t0 t1 t2;unfold fn16 gA;refine Rs (A3 t0 t1 t2) ?_;refine WF.res T.c73 (r73 T (o.ext Xx) sh (gl.ext Xx) (t:=2) De n) ?_;rintro _ g ⟨V,rfl,hV,oV,wV⟩;have st:∀{b':Nat}{a0 a1 a2 a3 a4 a5 a6:AV},jI 7 0 (.agg V.row) b' (.b [a0,a1,a2,a3,a4,a5,a6])=some (az,.set b' (.b V.row)):=λ{_ _ _ _ _ _ _ _}=>oV.st
 refine Rs (A5 t0 t1 t2 @st @aF) ?_;refine WF.ce T.c75 (r75 T t) λg1=>?_
 refine Rs (A3 t0 t1 t2) ?_;refine WF.ce T.c74 (r74 T (cC [_,_]) Si) λg2=>?_
 obtain⟨f,hf⟩:∃f,f=bD [(eM (L.map EV.ev) 2 n).2,rh t]:=⟨_,rfl⟩;rw[<-hf,vw,<-hf];by_cases h0:f=0
 case neg=>
  have q:decide (f≠0)=true:=ZI h0;rw[ZS h0];exact Rs (A4 t0 t1 t2 q) Tv
 have q:decide (f≠0)=false:=ZD (λz=>z h0);rw[ZN (λz=>z h0)];rw[hf]at h0;obtain⟨he,hne,hm⟩:=yo (Dg h0).1;rw[<-hne,<-hV]at hm;refine Rs (A5 t0 t1 t2 q @aF) ?_;refine WF.res T.c77 (r77 T (oV.ext Xx) wV.len hm) ?_;rintro _ g3 ⟨x,hx,U1,rfl⟩;refine Rs (A3 t0 t1 t2) ?_;refine WF.ce T.c76 (r76 T (oV.ext Xx) wV.len ((oV.e2 x hx).ext Xx) (wV.zB.sh x hx).2 (wV.zB.sh x hx).1 t) λg4=>?_
 refine Rs (A3 t0 t1 t2) ?_;rw[U1,hV]
def r17{L s}(o:eE h L s)(sh:uV L)(gl:Gl h)(t:Int):aA P 17 [s,.i t] h (λv k=>∃s',v=.dL [s',.i (qE (L.map EV.ev) t).2]/\aH k s' 1 ((qE (L.map EV.ev) t).1.map ao)):=by
 refine .eP 28 T.mix T.c17 ?_;intro ts hlen t0 t1;unfold fn17 gA;refine Rs (A2 t0 t1) ?_;refine WF.res T.c78 (r78 T (o.ext Xx) sh (gl.ext Xx)) ?_;intro v g hv;obtain⟨p,hvp⟩:∃p,v=.dL [p,.i (bF (L.map EV.ev)).2.1,.i (bF (L.map EV.ev)).2.2]:=by obtain⟨p,h1,_⟩:=hv;exact⟨p,h1⟩
 rw[hvp];refine Rs (A2 t0 t1) ?_;refine WF.ce T.c75 (r75 T t) λg1=>?_
 refine Rs (A2 t0 t1) ?_;refine WF.ce T.c74 (r74 T (cC [_,_]) Si) λg2=>?_
 obtain⟨f,hf⟩:∃f,f=bD [(bF (L.map EV.ev)).2.2,rh t]:=⟨_,rfl⟩;rw[<-hf,qE,<-hf];by_cases h0:f=0
 case neg=>
  have q:decide (f≠0)=true:=ZI h0;rw[ZS h0];refine Rs (A3 t0 t1 q) ?_;exact⟨_,rfl,.nil⟩
 have q:decide (f≠0)=false:=ZD (λz=>z h0);rw[ZN (λz=>z h0)];rw[hf]at h0;obtain⟨b,V,hvb,oV,hV,wV,WD,hle,hr,hz,wn,hn,on,lo⟩:=y9 T hv (Dg h0).1;rw[hvp]at hvb;have hpb:p=.ptr b 0:=by injection hvb with h1;injection h1
 rw[hpb];refine Rs (A3 t0 t1 q) ?_;refine WF.ce T.c79 (r79 T (oV.rd.ext Xx) hr) λg3=>?_
 refine Rs (A2 t0 t1) ?_;refine WF.res T.c80 (r80 T (on.ext Xx) wn.len wn.zB t) ?_;rintro v4 g4 h4;refine Rs (A2 t0 t1) ?_;rw[hn]at h4;exact⟨_,rfl,h4⟩
def r53{L s}(o:eE h L s)(sh:uV L)(gl:Gl h)(n:By):aA P 53 [s,.str n] h (λv k=>∃s',v=.dL [s',.i (wi (L.map EV.ev) n).2]/\aH k s' 1 ((wi (L.map EV.ev) n).1.map aM)):=by
 refine .eP 21 T.mix T.c53 ?_;intro ts hlen t0 t1;unfold fn53 gA;refine Rs (A2 t0 t1) ?_;refine WF.res T.c73 (r73 T (o.ext Xx) sh (gl.ext Xx) (t:=4) De n) ?_;rintro _ g ⟨V,rfl,hV,oV,wV⟩;have st:∀{b':Nat}{a0 a1 a2 a3 a4 a5 a6:AV},jI 7 0 (.agg V.row) b' (.b [a0,a1,a2,a3,a4,a5,a6])=some (az,.set b' (.b V.row)):=λ{_ _ _ _ _ _ _ _}=>oV.st
 rw[wi];by_cases h0:(eM (L.map EV.ev) 4 n).2=0
 case neg=>
  have q:decide ((eM (L.map EV.ev) 4 n).2≠0)=true:=ZI h0;exact z72
 have q:decide ((eM (L.map EV.ev) 4 n).2≠0)=false:=ZD (λz=>z h0);rw[ZN (λz=>z h0)];obtain⟨he,hne,hm⟩:=yo h0;rw[<-hne,<-hV]at hm;refine Rs (A5 t0 t1 @st q @aF) ?_;refine WF.res T.c124 (r124 T (oV.ext Xx) wV.len hm) ?_;rintro _ g3 ⟨x,hx,U1,rfl⟩;have hj:=wV.jb x.1 (ZT hx);refine Rs (A2 t0 t1) ?_;refine WF.res T.c125 (r125 T ((oV.e4 x hx).ext Xx) Om (λs hs=>(hj.2.2.2 s hs).1)) ?_;rintro v4 g4 h4;refine Rs (A2 t0 t1) ?_;rw[U1,hV]at h4;exact⟨_,rfl,h4⟩
def r52{L s}(o:eE h L s)(sh:uV L)(gl:Gl h)(n:By):aA P 52 [s,.str n] h (λv k=>∃s',v=.dL [s',.i (BY (L.map EV.ev) n).2]/\aH k s' 1 ((BY (L.map EV.ev) n).1.map ao)):=by
 refine .eP 21 T.mix T.c52 ?_;intro ts hlen t0 t1;unfold fn52 gA;refine Rs (A2 t0 t1) ?_;refine WF.res T.c73 (r73 T (o.ext Xx) sh (gl.ext Xx) (t:=3) De n) ?_;rintro _ g ⟨V,rfl,hV,oV,wV⟩;have st:∀{b':Nat}{a0 a1 a2 a3 a4 a5 a6:AV},jI 7 0 (.agg V.row) b' (.b [a0,a1,a2,a3,a4,a5,a6])=some (az,.set b' (.b V.row)):=λ{_ _ _ _ _ _ _ _}=>oV.st
 rw[BY];by_cases h0:(eM (L.map EV.ev) 3 n).2=0
 case neg=>
  have q:decide ((eM (L.map EV.ev) 3 n).2≠0)=true:=ZI h0;exact z72
 have q:decide ((eM (L.map EV.ev) 3 n).2≠0)=false:=ZD (λz=>z h0);rw[ZN (λz=>z h0)];refine Rs (A5 t0 t1 @st q @aF) ?_;have hin:∀x∈V.ar,x.1.aI.length<2^30:=λx hx=>by have:=(wV.md x.1 (ZT hx)).2.1;omega
 refine WF.res T.c122 (r122 T (oV.ext Xx) wV.len hin n) ?_;rintro v3 g3 h3;have hsl:(dV V.an n).length<=2^40:=by
  have h1:(dV V.an n).length<=V.an.lines.length:=by unfold dV;exact aaj _ _
  have:=wV.l0;omega
 refine Rs (A2 t0 t1) ?_;refine WF.res T.c121 (r121 T h3 hsl (λx=>x.name) (λx _ k _=>bE.of (a:=[]) (c:=[]) T.c123 (r123 T x))) ?_;rintro v4 g4 h4;refine Rs (A2 t0 t1) ?_;rw[hV]at h4;exact⟨_,rfl,h4.aX⟩
def r219{x:jX×AV}(ox:x.2.one=true){S:List dX}{s:AV}(hs:aH h s 3 (S.map bV))(hl:S.length<2^63){b:Nat}(hb:h[b]? =some (.b [s])):
  aA P 219 [.agg (bf x),.ptr b 0] h (λv _=>v=.bool (decide (x.1.line∈S.map dX.name))):=by
 refine .eP 9 T.mix T.c219 ?_;intro ts hlen t0 t1;unfold fn219 gA;have lb:∀{k:ah}{n':Option Nat}{a:Nat},Ext h k->aq n' (.ptr b a) (λz=>k[z]?)=dJ n' a (.b [s]):=λe=>aB (e.some hb)
 unfold bf at t0;refine Rs (A4 t0 t1 @ox @lb) ?_;refine WF.ce T.c142 (r142 T (hs.ext Xx) hl _) λg1=>?_
 rw[show(λy:dX=>decide (y.name=x.1.line))=λy=>decide (dX.name y=x.1.line)from rfl];refine Rs (A2 t0 t1) ?_;rw[fO]
def r126{V:RV}(o:aD h V)(w:eD V.an){p:By}(hp:p∈lh V.an):aA P 126 [.agg V.row,.str p] h (λv h'=>aH h' v 1 ((gD V.an p).map ao)):=by
 refine .eP 20 T.mix T.c126 ?_;intro ts hlen t0 t1;unfold fn126 gA;have Su:=@aD.box _ _ o;have l:=w.len;have hpc:=fH (f:=nP.name) (l:=V.an.aJ) (n:=p) (d:=Iw) hp;have hj:=(w.pc _ hpc).1;refine Rs (A4 t0 t1 @Su @aF) ?_;refine WF.ce T.c218 (r218 T (o.ext Xx) l hp) λg1=>?_
 have pj:(cF (jr V.an p))[1]? =some (.str (jr V.an p).jw):=rfl;unfold cF;refine Rs (A3 t0 t1 @aF) ?_;refine WF.res T.c124 (r124 T (o.ext Xx) l hj) ?_;rintro _ g2 ⟨x,hx,U1,rfl⟩;unfold bK;refine Rs (A3 t0 t1 @aF) ?_;have hin:∀x∈V.ar,x.1.aI.length<2^30:=λx hx=>by have:=(w.md x.1 (ZT hx)).2.1;omega
 refine WF.res T.c122 (r122 T (o.ext Xx) l hin _) ?_;rintro v3 g3 h3;have ov:=h3.one;have hsl:(dV V.an x.1.mod).length<2^30:=by
  have h1:(dV V.an x.1.mod).length<=V.an.lines.length:=by unfold dV;exact aaj _ _
  have:=w.l0;omega
 have sn:∀{N:Nat},jI 1 0 v3 N (.b [.af])=some (az,.set N (.b [v3])):=λ{_}=>bW ov Si
 refine Rs (A6 t0 t1 @fx @fB @ov @sn) ?_;refine WF.res T.c138 (r138 T (o.i2.ext Xx) o.js.1 (by have:=l.l2;omega) (λy=>decide (y.1.line∈(dV V.an x.1.mod).map dX.name)) (λy hy k e=>bE.of (a:=[]) T.c219 (r219 T (o.js.1 y hy) (h3.ext (Ext.trans Xx e)) Om (e.some aV)))) ?_;rintro s4 g4 h4;have S4:(V.aj.filter λy=>decide (y.1.line∈(dV V.an x.1.mod).map dX.name)).length<=V.aj.length:=aaj _ _;refine Rs (A2 t0 t1) ?_;refine WF.res T.c137 (r137 T h4.aX (λx hx=>o.js.1 x ((aaq.1 hx).1)) (by have:=l.l2;omega) (λx=>x.1.name) (λx hx k e=>bE.of (a:=[]) (c:=[]) T.c140 (r140 T x (o.js.1 x ((aaq.1 hx).1))))) ?_
 rintro s5 g5 h5;have:=h5.aX;refine Rs (A2 t0 t1) ?_;have e:gD V.an p=(V.aj.filter λy=>decide (y.1.line∈(dV V.an x.1.mod).map dX.name)).map λx=>x.1.name:=by
  rw[gD,<-U1];simp only[RV.an,abw,abj];rfl
 rw[e];exact this
def vF(l:List dN)(n:By):List (By)×Int:=if(eM l 5 n).2≠0 then([],(eM l 5 n).2)else(gD (eM l 5 n).1 n,0)
def r54{L s}(o:eE h L s)(sh:uV L)(gl:Gl h)(n:By):aA P 54 [s,.str n] h (λv k=>∃s',v=.dL [s',.i (vF (L.map EV.ev) n).2]/\aH k s' 1 ((vF (L.map EV.ev) n).1.map ao)):=by
 refine .eP 20 T.mix T.c54 ?_;intro ts hlen t0 t1;unfold fn54 gA;refine Rs (A2 t0 t1) ?_;refine WF.res T.c73 (r73 T (o.ext Xx) sh (gl.ext Xx) (t:=5) De n) ?_;rintro _ g ⟨V,rfl,hV,oV,wV⟩;have st:∀{b':Nat}{a0 a1 a2 a3 a4 a5 a6:AV},jI 7 0 (.agg V.row) b' (.b [a0,a1,a2,a3,a4,a5,a6])=some (az,.set b' (.b V.row)):=λ{_ _ _ _ _ _ _ _}=>oV.st
 rw[vF];by_cases h0:(eM (L.map EV.ev) 5 n).2=0
 case neg=>
  have q:decide ((eM (L.map EV.ev) 5 n).2≠0)=true:=ZI h0;exact z72
 have q:decide ((eM (L.map EV.ev) 5 n).2≠0)=false:=ZD (λz=>z h0);rw[ZN (λz=>z h0)];obtain⟨he,hne,hm⟩:=yo h0;rw[<-hne,<-hV]at hm;refine Rs (A5 t0 t1 @st q @aF) ?_;refine WF.res T.c126 (r126 T (oV.ext Xx) wV hm) ?_;rintro v4 g4 h4;refine Rs (A2 t0 t1) ?_;rw[hV]at h4;exact⟨_,rfl,h4⟩
def AX(l:List Int):Int×Int:=
 if bD [cA (decide (l.length=0)) 12,cA (decide (32<l.length)) 5]≠0 then(0,bD [cA (decide (l.length=0)) 12,cA (decide (32<l.length)) 5])
 else if bD (l.map λn=>bg n 0 999999999)≠0 then(0,bD (l.map λn=>bg n 0 999999999))else(fP l,0)
def r93(n:Int):aA P 93 [.i n] h (λv _=>v=.i (bg n 0 999999999)):=by
 refine .lB 5 T.mix T.c93 ?_;intro ts hlen t0;unfold fn93 Lh;refine Rs t0 ?_;refine WF.ce T.c94 (r94 T _ _ _) λg1=>?_
 exact Rs t0 Tv
def r27{s l}(hs:aH h s 1 (l.map aM))(hl:l.length<2^30):aA P 27 [s] h (λv _=>v=.dL [.i (AX l).1,.i (AX l).2]):=by
 refine .lB 27 T.mix T.c27 ?_;intro ts hlen t0;unfold fn27 gA;refine Rs (A2 t0 hs.aK) ?_;refine WF.ce T.c85 (r85 T _ _) λg1=>?_
 refine Rs (A2 t0 hs.aK) ?_;refine WF.ce T.c85 (r85 T _ _) λg2=>?_
 refine Rs t0 ?_;refine WF.ce T.c74 (r74 T (cC [_,_]) Si) λg3=>?_
 have e1:decide ((l.length:Int)=0)=decide (l.length=0):=abd.2 Om;have e2:decide ((32:Int)<(l.length:Int))=decide (32<l.length):=abd.2 Om;rw[e1,e2];obtain⟨f,hf⟩:∃f,f=bD [cA (decide (l.length=0)) 12,cA (decide (32<l.length)) 5]:=⟨_,rfl⟩;rw[<-hf,AX,<-hf];by_cases h0:f=0
 case neg=>
  have q:decide (f≠0)=true:=ZI h0;rw[ZS h0];exact Rs (A2 t0 q) Tv
 have q:decide (f≠0)=false:=ZD (λz=>z h0);rw[ZN (λz=>z h0)];refine Rs (A2 t0 q) ?_;refine WF.res T.c92 (r92 T (hs.ext Xx) Om (λn=>bg n 0 999999999) (λn _ k _=>bE.of (a:=[]) (c:=[]) T.c93 (r93 T n))) ?_;rintro s4 g4 hf4;refine Rs t0 ?_;refine WF.ce T.c74 (r74 T hf4.aX (by simp;omega)) λg5=>?_
 by_cases h1:bD (l.map λn=>bg n 0 999999999)=0
 case neg=>
  have q:decide (bD (l.map λn=>bg n 0 999999999)≠0)=true:=ZI h1;rw[ZS h1];exact Rs (A2 t0 q) Tv
 have q1:decide (bD (l.map λn=>bg n 0 999999999)≠0)=false:=ZD (λz=>z h1);rw[ZN (λz=>z h1)];have hb:∀n∈l,-1<=n/\n<=999999999:=λn hn=>by
  rw[qp]at h1;split at h1
  ·exact absurd h1 De
  case isFalse hh=>
   have:=iD (n:=n) (lo:=0) (hi:=999999999) λz=>hh (aaY.2 ⟨n,hn,by simpa using z⟩)
   omega
 refine Rs (A2 t0 q1) ?_;refine WF.ce T.c95 (r95 T (hs.ext Xx) hl hb) λg6=>?_
 exact Rs t0 Tv
end
def tw(l:List dN)(n:By):List (By)×Int:=if(eM l 3 n).2≠0 then([],(eM l 3 n).2)else((dP (eM l 3 n).1 n).map cQ.name,0)
def Fz{h X:ah}{A A' R R':ak}{j:Nat}(hj:h.length+2<=j):(h++[A]++[R]++X)[j]? =(h++[A']++[R']++X)[j]? :=by
 exact N1
def Ge:ai:=((fn213).body.tl).hd
def Nj:ai:=Ge.tl.jE
def QK:ai:=(fn213).body.tl.tl
def Ni:(fn213).body=.seq ((fn213).body.hd) (.seq (.seq Ge.hd (.block 0 (.fW (.t 6) [7] Nj.EK Nj.D9))) QK):=rfl
section
variable {P:Program}(T:fy P) {h:ah}
include T
def r213{f:FuncId}{A:au}(hA:bR P f=some A){a c:List AV}{L:List (cQ×AV)}{pre:ah->Prop}(hi:IterM P f a c (L.map λx=>[.agg (aP x)]) pre)(ho:∀x∈L,x.2.one=true)(hl:L.length<=2^30)(hp:pre h)(hpe:∀k,Ext h k->pre k):
  aA P 213 [.af,.func (.func f) a c] h (λv k=>aH k v 4 (L.map aP)):=by
 refine .of T.mix T.c213 ?_;obtain⟨ts,Sv⟩:∃ts,ts=aT 13 [.af,.func (.func f) a c]:=⟨_,rfl⟩;have hlen:ts.length=13:=by rw[Sv];rfl
 have t0:slot ts 0=.af:=by rw[Sv];rfl
 have t1:slot ts 1=.func (.func f) a c:=by rw[Sv];rfl
 show WC P bN (fn213).body [] (aT 13 [.af,.func (.func f) a c]) h _;rw[<-Sv,Ni];clear Sv;obtain⟨RR,Tx⟩:∃RR,RR=QK:=⟨_,rfl⟩;obtain⟨RA,Ys⟩:∃RA,RA=Nj.EK:=⟨_,rfl⟩;obtain⟨RB,Yr⟩:∃RB,RB=Nj.D9:=⟨_,rfl⟩;rw[<-Tx,<-Ys,<-Yr];unfold Ge fn213 gA;simp only[ai.tl,ai.hd];refine Rs (A2 t0 t1) ?_;refine WC.iterM T.mix hA (a:=a) (c:=c) (Sq t0) hi (λy hy=>by obtain⟨z,_,rfl⟩:=Z3.1 hy;rfl)
  (λmm i h' g=>∃sl:AV,h' =h++[ak.b [sl]]/\h'.length+1<=mm/\mm<=h'.length+1+g.length/\i<=L.length/\∀R:ak,Fr mm (h'++[R]++g) sl 4 ((L.take i).map aP)) (λ_ _ _=>False)
  (λg=>⟨.af,rfl,Om,ZO _,aac _,λR=>.nil⟩)
  (λmm i h' g g' hI=>by
   obtain⟨sl,a1,a2,a3,a4,a5⟩:=hI;exact⟨sl,a1,a2,by rw[ZB];omega,a4,λR=>by rw[<-ZE];exact(a5 R).app _⟩)
  (λX=>hpe _ Xx) (λmm i h' g X SI hI=>by obtain⟨sl,rfl,_⟩:=hI;exact hpe _ Xx) (λmm i hi' h' g R B SI hI=>?_) (λe h' g SI hI=>?_)
 ·obtain⟨sl,rfl,Ui,Xl,hi0,hfr⟩:=hI;have hiL:i<L.length:=by simpa using hi'
  rw[aaN,Ys,Yr];obtain⟨x,hx⟩:∃x,x=L[i]:=⟨_,rfl⟩;have ox:=ho x (by rw[hx];exact ZR _);have SU:L.take (i+1)=L.take i++[x]:=by rw[hx,aao,ZH hiL];rfl
  rw[<-hx];unfold Nj Ge fn213 gA;simp only[ai.tl,ai.hd,ai.jE,ai.EK,ai.D9,setArgs,aP];refine Rs (A3 t0 t1 @ox) ?_;refine⟨_,g++[ak.b [AV.str x.1.name,.str x.1.gives,.str x.1.line,x.2]],by rw[<-ZE],SI,?_⟩;rw[<-ZE];have lb:∀{Z:ah}{n a},aq n (.ptr h.length a) (λz=>(h++[ak.b [sl]]++[B]++g++Z)[z]?)=dJ n a (.b [sl]):=λ{_ _ _}=>aB sR
  have lx:∀{n a},aq n (.ptr (h++[ak.b [sl]]++[R]++g).length a) (λz=>(h++[ak.b [sl]]++[B]++g++[ak.b [AV.str x.1.name,.str x.1.gives,.str x.1.line,x.2]])[z]?)=dJ n a (.b [AV.str x.1.name,.str x.1.gives,.str x.1.line,x.2]):=λ{_ _}=>by
   have:(h++[ak.b [sl]]++[R]++g).length=(h++[ak.b [sl]]++[B]++g).length:=Si
   rw[this];exact aB aV
  refine Rs (A5 t0 t1 @ox @lb @lx) ?_;obtain⟨gt,VD⟩:∃gt,gt=g.take (mm-(h.length+2)):=⟨_,rfl⟩;have XG:h.length+2<=mm/\mm<=h.length+2+g.length:=by
   simp only[ZB,ZG,ZJ]at Ui Xl;omega
  have hgl:gt.length=mm-(h.length+2):=by rw[VD,aaB];omega
  have hgs:g=gt++g.drop (mm-(h.length+2)):=by rw[VD,aa5]
  have h0l:(h++[ak.b [sl]]++[B]++gt).length=mm:=by
   exact z171
  have hfs:Fr (h++[ak.b [sl]]++[B]++gt).length (h++[ak.b [sl]]++[B]++g++[ak.b [AV.str x.1.name,.str x.1.gives,.str x.1.line,x.2]]++[ak.cells [AV.str x.1.name,.str x.1.gives,.str x.1.line,x.2] true true]) sl 4 ((L.take i).map aP):=by
   rw[h0l];exact((hfr B).app _).app _
  have hext:Ext (h++[ak.b [sl]]++[B]++gt) (h++[ak.b [sl]]++[B]++g++[ak.b [AV.str x.1.name,.str x.1.gives,.str x.1.line,x.2]]++[ak.cells [AV.str x.1.name,.str x.1.gives,.str x.1.line,x.2] true true]):=by
   refine⟨g.drop (mm-(h.length+2))++[ak.b [AV.str x.1.name,.str x.1.gives,.str x.1.line,x.2]]++[ak.cells [AV.str x.1.name,.str x.1.gives,.str x.1.line,x.2] true true],?_⟩
   conv=>lhs;rw[hgs]
   simp only[ZE]
  refine WR.fZ (h0:=h++[ak.b [sl]]++[B]++gt) (cs:=(L.take i).map aP) (ys:=[aP x]) hfs (Fr.push (N:=0) (aac _) [aP x] (by simp[aP])).aX De Si (by simp only[ZL,aaB,ZG,ZJ];omega) hext ?_;intro g' hlg hff hkp;have hrow:(L.take i).map aP++[aP x]=(L.take (i+1)).map aP:=by rw[SU,ZM];rfl
  rw[hrow]at hff;rw[hrow];obtain⟨sn,Tg⟩:∃sn,sn=AV.slice (h++[ak.b [sl]]++[B]++g++[ak.b [AV.str x.1.name,.str x.1.gives,.str x.1.line,x.2]]++[ak.cells [AV.str x.1.name,.str x.1.gives,.str x.1.line,x.2] true true]).length 0 ((L.take (i+1)).map aP).length 4:=⟨_,rfl⟩;rw[<-Tg]at hff ⊢;have osn:sn.one=true:=by rw[Tg];rfl
  have st:aU 1 (.ptr h.length 0) sn (λz=>(h++[ak.b [sl]]++[B]++gt++g')[z]?)=some (az,.set h.length (.b [sn])):=by
   have:(h++[ak.b [sl]]++[B]++gt++g')[h.length]? =some (.b [sl]):=sR;rw[aN this];exact bW osn Si
  refine Rs (A3 t0 t1 @st) ?_;refine⟨h++[ak.b [sn]],gt++g',by simp only[ZE],Si,λy hy=>?_,sn,rfl,by simp only[ZB,ZG,ZJ];omega,?_,Om,λR'=>?_⟩
  ·have Uf:y<gt.length:=by
    simp only[ZB,ZG,ZJ]at hy;omega
   rw[ZF Uf]
   conv=>rhs;rw[hgs]
   rw[ZF Uf]
  ·exact z171
  ·rw[<-h0l];refine hff.aC λb hb=>?_
   have hbb:=(hff.bP hb).1;rw[h0l]at hbb;rw[ZE _ gt];exact Fz Om
 ·by_cases Th:e=.normal
  case neg=>rw[ZN Th]at hI;exact hI.elim
  subst Th;rw[ZS rfl]at hI;obtain⟨mm,sl,rfl,_,_,_,hfr⟩:=hI;rw[ZL,aam]at hfr;rw[Tx];have hf:=(hfr ak.dead).aX;have lb:∀{n a},aq n (.ptr h.length a) (λz=>(h++[ak.b [sl]]++[ak.dead]++g)[z]?)=dJ n a (.b [sl]):=λ{_ _}=>aB xy
  unfold QK fn213 gA;simp only[ai.tl,ai.hd];refine Rs (A3 t0 t1 @lb) ?_;exact hf
def r118{f:FuncId}{A:au}(hA:bR P f=some A){a c:List AV}{L:List (cQ×AV)}{pre:ah->Prop}(hi:IterM P f a c (L.map λx=>[.agg (aP x)]) pre)(ho:∀x∈L,x.2.one=true)(hl:L.length<=2^30)(hp:pre h)(hpe:∀k,Ext h k->pre k):
  aA P 118 [.func (.func f) a c] h (λv k=>aH k v 4 (L.map aP)):=by
 refine .lB 5 T.mix T.c118 ?_;intro ts hlen t0;unfold fn118 gA;refine Rs t0 ?_;refine WF.res T.c213 (r213 T hA hi ho hl hp hpe) ?_;rintro v g1 h1;refine Rs t0 ?_;exact h1
def r51{L:List EV}{s:AV}(o:eE h L s)(sh:uV L)(gl:Gl h)(n:By):aA P 51 [s,.str n] h (λv k=>∃s',v=.dL [s',.i (tw (L.map EV.ev) n).2]/\aH k s' 1 ((tw (L.map EV.ev) n).1.map ao)):=by
 refine .eP 22 T.mix T.c51 ?_;intro ts hlen t0 t1;unfold fn51 gA;refine Rs (A2 t0 t1) ?_;refine WF.res T.c73 (r73 T (o.ext Xx) sh (gl.ext Xx) (t:=3) De n) ?_;rintro _ g ⟨V,rfl,hV,oV,wV⟩;have st:∀{b':Nat}{a0 a1 a2 a3 a4 a5 a6:AV},jI 7 0 (.agg V.row) b' (.b [a0,a1,a2,a3,a4,a5,a6])=some (az,.set b' (.b V.row)):=λ{_ _ _ _ _ _ _ _}=>oV.st
 rw[tw];by_cases h0:(eM (L.map EV.ev) 3 n).2=0
 case neg=>
  have q:decide ((eM (L.map EV.ev) 3 n).2≠0)=true:=ZI h0;exact z72
 have q:decide ((eM (L.map EV.ev) 3 n).2≠0)=false:=ZD (λz=>z h0);rw[ZN (λz=>z h0)];refine Rs (A5 t0 t1 @st q @aF) ?_;have hin:∀x∈V.ar,x.1.aI.length<2^30:=λx hx=>by have:=(wV.md x.1 (ZT hx)).2.1;omega
 have ov1:∀x∈iS V n,x.2.one=true:=λx hx=>oV.js.2.1 x (aaq.1 hx).1
 have hnl:(iS V n).length<=2^30:=by
  have h1:(iS V n).length<=V.ar.length:=by unfold iS;exact aaj _ _
  have:=wV.len.l3;omega
 refine WF.res T.c119 (r119 T (oV.ext Xx) n) ?_;rintro _ g1 ⟨rfl,hp⟩;refine Rs (A2 t0 t1) ?_;refine WF.res T.c118 (r118 T T.c214 (a:=[]) (rO T wV.len hin n _ _) ov1 hnl hp (λk e=>qw.ext hp e)) ?_;rintro v2 g2 h2;refine Rs (A2 t0 t1) ?_;refine WF.res T.c117 (r117 T h2 ov1 Om (λx=>x.1.name) (λx hx k _=>bE.of (a:=[]) (c:=[]) T.c120 (r120 T x (ov1 x hx)))) ?_;rintro v3 g3 h3;refine Rs (A2 t0 t1) ?_;refine⟨_,rfl,?_⟩;have:=h3.aX;rw[<-hV,<-pH,abj (g:=cQ.name)];exact this
end
structure BD(N:Nat)(h:ah)(out:AV)(x:EV):Prop where
 n:Fr N h x.sn 1 (x.ev.names.map ao)
 v:Fr N h x.sv 1 (x.ev.cB.map aM)
 dn:∀j,sB x.sn=some j->sB out≠some j
 dv:∀j,sB x.sv=some j->sB out≠some j
def BD.ok{N h out x}(o:BD N h out x):bh h x:=⟨o.n.aX,o.v.aX⟩
theorem BD.app{N h out x}(o:BD N h out x)(g:ah):BD N (h++g) out x:=⟨o.n.app g,o.v.app g,o.dn,o.dv⟩
def pV(n:By)(e:dN):Bool:=
 match Fl (kE e)with
 |none=>false
 |some 3=>true
 |some i=>decide (aL e i=n)
def LL(l:List dN):List dN:=l.mapIdx λi e=>{e with num:=(i:Int)+1}
def ni(l:List dN)(n:By):List dN×Int:=
 if bD [(bF l).2.2,cA (decide ((bF l).2.2=0) && !dW (bF l).1.now 0 n) 10]≠0 then([],bD [(bF l).2.2,cA (decide ((bF l).2.2=0) && !dW (bF l).1.now 0 n) 10])
 else(LL ((bF l).1.e8.filter (pV n)),0)
section
variable {P:Program}(T:fy P) {h:ah}
include T
def r87{L s}(hs:eE h L s)(hl:L.length<=2^30)(hle:∀x∈L,x.ev.names.length<=2^30/\x.ev.cB.length<=2^30):
  aA P 87 [s,.func (.func 91) [] []] h (λv h'=>∃L':List EV,L'.map EV.ev=L.map EV.ev/\Fr h.length h' v 5 (L'.map EV.row)/\∀x∈L',BD h.length h' v x):=by
 refine .eP 22 T.mix T.c87 ?_;intro ts hlen t0 t1;unfold fn87;refine Rs (A3 t0 t1 hs.sl.aK) ?_;refine WL.inv T.mix (λn ts h'=>∃(k:Nat) (out:AV) (L':List EV) (g:ah),k<=L.length/\n=L.length-k/\h' =h++g/\L'.map EV.ev=(L.take k).map EV.ev/\Fr h.length (h++g) out 5 (L'.map EV.row)/\(∀x∈L',BD h.length (h++g) out x)/\
   ts.length=22/\slot ts 1=.func (.func 91) [] []/\slot ts 5=out/\slot ts 8=s/\slot ts 9=.i L.length/\slot ts 10=.i k) L.length
  ⟨0,.af,[],[],Om,rfl,Si,rfl,.nil,(λx hx=>by cases hx),Sn,(Sq t1),Sw,(Sq t0),Sw,gP⟩ ?_
 rintro _ ts _ ⟨k,out,L',g,hk,rfl,rfl,hm,hfr,hin,hlen,t1,t5,t8,t9,t10⟩;have Xq:L'.length=k:=by have:=aai List.length hm;simp at this;omega
 by_cases hlt:k<L.length
 ·have e3:=eC hlt;have e5:=wrapN (n:=k) Om;have ix:=hs.sl.dE (kk:=.i64) hlt;have ld:∀{k'},Ext (h++g) k'->aq (some 5) (cT s 5 k) (λb=>k'[b]?)=some (.agg (EV.row L[k]),.ay):=λ{k'} e=>hs.sl.kf hlt (Ext.trans Xx e)
  obtain⟨x,hx⟩:∃x,x=L[k]:=⟨_,rfl⟩;have Ui:x∈L:=by rw[hx];exact ZR _
  have SU:L.take (k+1)=L.take k++[x]:=by rw[hx,aao,ZH hlt];rfl
  rw[<-hx]at ld;have ox:=hs.all x Ui;have st:∀{b':Nat}{a0 a1 a2 a3 a4:AV},jI 5 0 (.agg x.row) b' (.b [a0,a1,a2,a3,a4])=some (az,.set b' (.b x.row)):=λ{_ _ _ _ _ _}=>ox.st
  refine Rs (na t1 t5 t8 t9 t10 e3 ix @ld @st @b9) ?_;refine WF.res T.c91 (r91 T x (ox.ext Xx) ⟨by have:=(hle x Ui).1;omega,by have:=(hle x Ui).2;omega⟩) ?_;rintro _ g1 ⟨x',SC,rfl,fn,fv⟩;have X5:bh (h++g++[ak.b x.row]++g1) x':=⟨by rw[SC];exact fn.aX,by rw[SC];exact fv.aX⟩;have bs:=@bh.Hx _ _ X5;refine Rs (A6 t1 t5 t8 t9 t10 @bs) ?_;refine WR.fZ (h0:=h) (cs:=L'.map EV.row) (ys:=[x'.row]) (((hfr.app _).app _).app _) (Fr.push (N:=0) (aac _) [x'.row] (by intro y hy;rw[ZW]at hy;rw[hy];rfl)).aX De Si (by simp only[ZL,ZG,ZJ];omega) Xx ?_;intro g' SI hff hkp;have hrow:L'.map EV.row++[x'.row]=(L'++[x']).map EV.row:=by rw[ZM];rfl
  rw[hrow]at hff;rw[hrow];obtain⟨sn,Tg⟩:∃sn,sn=AV.slice (h++g++[ak.b x.row]++g1++[ak.cells x'.row true true]).length 0 ((L'++[x']).map EV.row).length 5:=⟨_,rfl⟩;rw[<-Tg]at hff ⊢;have U7:∀i,sB sn=some i->(h++g++[ak.b x.row]++g1).length+1=i:=λi hi=>by rw[Tg]at hi;cases hi;simp;omega
  have hout:∀b,sB out=some b->b<(h++g).length:=λb hb=>(hfr.bP hb).2
  have kp:∀i,i<(h++g++[ak.b x.row]++g1).length->sB out≠some i->(h++g')[i]? =(h++g++[ak.b x.row]++g1)[i]? :=λi hi hne=>by
   rw[hkp i (by rw[ZB];omega) (λb0 o n e he zz=>hne (by rw[he,zz];rfl)),ZF hi]
  refine Rs (A6 t1 t5 t8 t9 t10 e5) ?_;refine⟨_,Om,k+1,sn,L'++[x'],g',Om,rfl,rfl,?_,hff,λy hy=>?_,rfl,rfl⟩
  ·rw[ZM,hm,SU,ZM];simp[SC]
  ·rcases ZK.1 hy with hy|hy
   ·have oy:=hin y hy;have ln:=λj (hj:sB y.sn=some j)=>(oy.n.bP hj).2
    have lv:=λj (hj:sB y.sv=some j)=>(oy.v.bP hj).2
    refine⟨((oy.n.app [ak.b x.row]).app g1).aC λj hj=>kp j (by have:=ln j hj;simp only[ZB]at this ⊢;omega) (oy.dn j hj),((oy.v.app [ak.b x.row]).app g1).aC λj hj=>kp j (by have:=lv j hj;simp only[ZB]at this ⊢;omega) (oy.dv j hj),λj hj e=>?_,λj hj e=>?_⟩
    ·have h1:=ln j hj;have h2:=U7 j e;simp only[ZB]at h1 h2;omega
    ·have h1:=lv j hj;have h2:=U7 j e;simp only[ZB]at h1 h2;omega
   ·rw[ZW]at hy;subst hy;have ln:=λj (hj:sB y.sn=some j)=>fn.bP hj
    have lv:=λj (hj:sB y.sv=some j)=>fv.bP hj
    have en:(h++g++[ak.b x.row]).length=(h++g).length+1:=by rw[ZB];rfl
    rw[<-SC]at fn fv;exact Rw
 ·have e3:=ff hlt;have e4:k=L.length:=Om
  refine Rs (A6 t1 t5 t8 t9 t10 e3) ?_;rw[e4,aam]at hm;exact⟨L',hm,hfr,hin⟩
def r240{x}(ox:bh h x){b i:Nat}(hb:h[b]? =some (.b [.i (i:Int)]))(hi:i<x.ev.names.length)(n:By):aA P 240 [.agg x.row,.str n,.ptr b 0] h (λv _=>v=.bool (decide (aL x.ev i=n))):=by
 refine .nW 13 T.mix T.c240 ?_;intro ts hlen t0 t1 t2;unfold fn240 gA;have Su:=@bh.box _ _ ox;have lb:∀{k:ah}{n':Option Nat}{a:Nat},Ext h k->aq n' (.ptr b a) (λz=>k[z]?)=dJ n' a (.b [.i (i:Int)]):=λe=>aB (e.some hb)
 have ix:=ox.n.dE (kk:=.i64) hi;have ev:aL x.ev i=x.ev.names[i]:=by rw[aL,aaf,ZH hi];rfl
 have ld:∀{k':ah},Ext h k'->aq none (cT x.sn 1 i) (λb=>k'[b]?)=some (.str (aL x.ev i),.ay):=λ{k'} e=>by
  rw[ev];exact ox.n.kg hi rfl e
 exact Rs (A8 t0 t1 t2 @Su @lb @aO ix @ld) Tv
def r153{x}(ox:bh h x)(n:By):aA P 153 [.agg x.row,.str n] h (λv _=>v=.bool true):=by
 refine .eP 5 T.mix T.c153 ?_;intro ts hlen t0 t1;unfold fn153 gA;have Su:=@bh.box _ _ ox;exact Rs (A3 t0 t1 @Su) Tv
def r89{x d}(ox:bh h x)(wx:jY x.ev d){b n}(hb:h[b]? =some (.b [.str n])):aA P 89 [.agg x.row,.ptr b 0] h (λv _=>v=.bool (pV n x.ev)):=by
 refine .eP 18 T.mix T.c89 ?_;intro ts hlen t0 t1;unfold fn89 gA;have Su:=@bh.box _ _ ox;have lb:∀{k:ah}{n':Option Nat}{a:Nat},Ext h k->aq n' (.ptr b a) (λz=>k[z]?)=dJ n' a (.b [.str n]):=λe=>aB (e.some hb)
 refine Rs (A3 t0 t1 @Su) ?_;refine WF.res T.c90 (r90 T) ?_;rintro _ g2 ⟨vf,rfl,hk⟩;have lk:∀{z:AV},gZ .s z false (.map (h++[ak.b x.row]).length) (.str x.ev.kind) (λb=>(h++[ak.b x.row]++g2)[b]?)=lQ z false ((gU x.ev.kind).map vf):=hk.look;rw[wx.kd]at lk;have Te:∀{z:AV},_=some (vf d,iR.ay):=@lk;obtain⟨rs,a,hv,hr,ha,hab⟩:=(hk.k d).ex;rw[hv]at Te;unfold pV;rw[wx.kE];unfold yM at hab;have hnl:=wx.nl;cases SD:Fl d with
 |none=>
  rw[SD]at hab;have hab:a=.nilFunc:=hab;subst hab;have en:sP true (oQ .qx .nilFunc .nilFunc)=some (.bool false):=rfl;exact Rs (A6 t0 t1 @bA @bC @Te @en) Tv
 |some i=>
  rw[SD]at hab;by_cases h3:i=3
  ·subst h3;have hab:a=.func (.func 153) [] []:=hab;subst hab;have en:∀{A C:List AV},sP true (oQ .qx (.func (.func 153) A C) .nilFunc)=some (.bool true):=rfl;refine Rs (A8 t0 t1 @bA @bC @Te @en @b9 @lb) ?_;refine WF.ce T.c153 (r153 T (ox.ext Xx) n) λg3=>?_
   exact Rs t0 Tv
  ·obtain⟨b3,rfl,VE⟩:∃b',a=.func (.func 240) [] [.ptr b' 0]/\(h++[ak.b x.row]++g2)[b']? =some (.b [.i (i:Int)]):=by
    split at hab
    ·rename_i hz;cases hz
    ·rename_i hz;cases hz;exact absurd rfl h3
    ·rename_i hz;cases hz;exact hab
   have hil:i<x.ev.names.length:=by
    rw[hnl];cases d<;>simp[Fl]at SD<;>first|(subst SD;decide)|exact absurd SD.symm h3
   have en:∀{A C:List AV},sP true (oQ .qx (.func (.func 240) A C) .nilFunc)=some (.bool true):=rfl;refine Rs (A8 t0 t1 @bA @bC @Te @en @b9 @lb) ?_;refine WF.ce T.c240 (a:=[]) (c:=[.ptr b3 0]) (r240 T (ox.ext Xx) (Ext.some Xx VE) hil n) λg3=>?_
   exact Rs t0 Tv
def r26{L s}(o:eE h L s)(sh:uV L)(gl:Gl h)(n:By):aA P 26 [s,.str n] h (λv k=>∃s' L',v=.dL [s',.i (ni (L.map EV.ev) n).2]/\eE k L' s'/\L'.map EV.ev=(ni (L.map EV.ev) n).1):=by
 refine .eP 54 T.mix T.c26 ?_;intro ts hlen t0 t1;unfold fn26 gA;refine Rs (A2 t0 t1) ?_;refine WF.res T.c78 (r78 T (o.ext Xx) sh (gl.ext Xx)) ?_;intro v g hv;obtain⟨p,hvp⟩:∃p,v=.dL [p,.i (bF (L.map EV.ev)).2.1,.i (bF (L.map EV.ev)).2.2]:=by obtain⟨p,h1,_⟩:=hv;exact⟨p,h1⟩
 rw[hvp];by_cases he:(bF (L.map EV.ev)).2.2=0
 case neg=>
  have q:decide ((bF (L.map EV.ev)).2.2=0)=false:=ZD he;refine Rs (A3 t0 t1 q) ?_;refine WF.ce T.c85 (r85 T _ _) λg1=>?_
  refine Rs (A2 t0 t1) ?_;refine WF.ce T.c74 (r74 T (cC [_,_]) Si) λg2=>?_
  have e1:bD [(bF (L.map EV.ev)).2.2,cA false 10]=(bF (L.map EV.ev)).2.2:=by rw[bD,ZN he]
  have q2:decide ((bF (L.map EV.ev)).2.2≠0)=true:=ZI he;rw[e1];refine Rs (A3 t0 t1 q2) ?_;have e2:ni (L.map EV.ev) n=([],(bF (L.map EV.ev)).2.2):=by
   rw[ni,q,abC,e1,ZS he]
  rw[e2];exact Km
 obtain⟨b,V,hvb,oV,hV,wV,WD,hle,hr,hz,wn,hn,on,lo⟩:=y9 T hv he;rw[hvp]at hvb;have hpb:p=.ptr b 0:=by injection hvb with h1;injection h1
 rw[hpb];have q:decide ((bF (L.map EV.ev)).2.2=0)=true:=ZI he;refine Rs (A3 t0 t1 q) ?_;refine WF.ce T.c79 (r79 T (oV.rd.ext Xx) hr) λg1=>?_
 refine Rs (A3 t0 t1 @aF) ?_;refine WF.ce T.c86 (r86 T (on.ext Xx) wn.len (t:=0) De _) λg2=>?_
 refine Rs (A2 t0 t1) ?_;refine WF.ce T.c85 (r85 T _ _) λg3=>?_
 refine Rs (A2 t0 t1) ?_;refine WF.ce T.c74 (r74 T (cC [_,_]) Si) λg4=>?_
 rw[hn];rw[ni,q,aa4];obtain⟨f,hf⟩:∃f,f=bD [(bF (L.map EV.ev)).2.2,cA (!dW (bF (L.map EV.ev)).1.now 0 n) 10]:=⟨_,rfl⟩;rw[<-hf];by_cases h0:f=0
 case neg=>
  have q:decide (f≠0)=true:=ZI h0;rw[ZS h0];refine Rs (A3 t0 t1 q) ?_;exact Km
 have q2:decide (f≠0)=false:=ZD (λz=>z h0);rw[ZN (λz=>z h0)];obtain⟨Hs,Zx⟩:∃Hs,Hs=h++[ak.b [AV.str n]]++g++g1++g2++g3++[ak.cells [AV.i (bF (L.map EV.ev)).2.2,.i (cA (!dW (bF (L.map EV.ev)).1.now 0 n) 10)] true true]++g4:=⟨_,rfl⟩;have oH:zZ Hs b V:=by rw[Zx];exact oV.rd.ext Xx
 have mn:Hs[h.length]? =some (.b [.str n]):=by rw[Zx];exact(show Ext (h++[ak.b [AV.str n]]) _ from Xx).some aV
 rw[<-Zx];have hb:=oH.hb;have lb:=@eQ _ _ _ hb;have hcl:V.e8.length<=1000:=by
  have e1:=wV.le;have e2:V.bS.e8.length=V.e8.length:=by simp[HV.bS]
  have e3:V.bS.da.length=V.da.length:=by simp[HV.bS]
  have e4:(L.map EV.ev).length<=1000:=hle;omega
 have wc:∀x∈V.e8,∃d,jY x.ev d:=λx hx=>wV.cn x.ev (ZT hx)
 have oone:∀x∈V.e8,x.sn.one=true/\x.sv.one=true:=λx hx=>⟨(oH.ac x hx).n.one,(oH.ac x hx).v.one⟩
 refine Rs (A4 t0 t1 q2 @lb) ?_;refine WF.res T.c88 (r88 T oH.ic oone Om (λx=>pV n x.ev) (λx hx k e=>by
  obtain⟨d,wx⟩:=wc x hx;exact bE.of (a:=[]) T.c89 (r89 T ((oH.ac x hx).ext e) wx (e.some mn)))) ?_
 rintro s5 g5 h5;refine Rs (A2 t0 t1) ?_;obtain⟨F,hF⟩:∃F,F=V.e8.filter λx=>pV n x.ev:=⟨_,rfl⟩
 rw[<-hF]at h5;have hFm:∀x∈F,x∈V.e8:=λx hx=>by rw[hF]at hx;exact(aaq.1 hx).1
 have hFl:F.length<=1000:=by have:F.length<=V.e8.length:=by(rw[hF];exact aaj _ _)
                             omega
 have oF:eE (Hs++g5) F s5:=⟨h5.aX,λx hx=>(oH.ac x (hFm x hx)).ext Xx⟩;refine WF.res T.c87 (r87 T oF Om (λx hx=>by
  obtain⟨d,wx⟩:=wc x (hFm x hx);have h1:=wx.nl;have h2:=wx.vl;have h3:(bJ d).length<=3/\cD d<=3:=by cases d<;>decide
  omega)) ?_
 rintro s6 g6 ⟨L6,Yt,f6,i6⟩;obtain⟨Hb,hHb⟩:∃Hb,Hb=Hs++g5:=⟨_,rfl⟩;rw[<-hHb]at f6 i6 ⊢;have hl6:L6.length=F.length:=by have:=aai List.length Yt;simpa using this
 refine Rs (A3 t0 t1 f6.aX.aK) ?_;refine WL.inv T.mix (λm ts h'=>∃(k:Nat) (g':ah) (L':List EV),k<=L6.length/\m=L6.length-k/\h' =Hb++g'/\L'.length=L6.length/\(∀i (h1:i<L'.length) (h2:i<L6.length),(L'[i]).ev=if i<k then { (L6[i]).ev with num:=(i:Int)+1} else(L6[i]).ev)/\Fr Hb.length (Hb++g') s6 5 (L'.map EV.row)/\(∀x∈L',BD Hb.length (Hb++g') s6 x)/\
   ts.length=54/\slot ts 10=s6/\slot ts 41=s6/\slot ts 42=.i L6.length/\slot ts 43=.i k) L6.length
  ⟨0,g6,L6,Om,rfl,rfl,rfl,λi _ _=>by rw[ZN Om],f6,i6,Sn,Sw,Sw,Sw,gP⟩ ?_
 clear t0 t1 hlen lb;clear ts;rintro _ ts _ ⟨k,g',L',hk,rfl,rfl,hlL,hev,hfr,hin,hlen,t10,t41,t42,t43⟩;by_cases hlt:k<L6.length
 ·have e3:=eC hlt;have e5:=wrapN (n:=k) Om;have Td:k<L'.length:=Om
  have ix:=hfr.aX.dE (kk:=.i64) Td;refine Rs (A7 t10 t41 t42 t43 e3 e5 ix) ?_;obtain⟨x,hx⟩:∃x,x=L'[k]:=⟨_,rfl⟩;have Tm:x∈L':=by rw[hx];exact ZR _
  refine WR.vE (h0:=Hb) (x':={x with ev:={x.ev with num:=((k+1:Nat):Int) } }) hfr Td De rfl (by rw[<-hx];rfl) ?_;intro g2 hlg hff hkp;have kp:∀j,sB s6≠some j->(Hb++g2)[j]? =(Hb++g')[j]? :=λj hj=>hkp j λb0 o n e he zz=>hj (by rw[he,zz];rfl)
  have X7:∀y:EV,BD Hb.length (Hb++g') s6 y->BD Hb.length (Hb++g2) s6 y:=λy oy=>⟨oy.n.aC λj hj=>kp j (oy.dn j hj),oy.v.aC λj hj=>kp j (oy.dv j hj),oy.dn,oy.dv⟩
  refine Rs (A5 t10 t41 t42 t43 e5) ?_;refine⟨_,Om,k+1,g2,L'.set k {x with ev:={x.ev with num:=((k+1:Nat):Int) } },Om,rfl,rfl,by rw[aap];exact hlL,λi h1 h2=>?_,hff,λy hy=>?_,rfl⟩
  ·by_cases Uw:i=k
   ·subst Uw;simp only[abA];rw[ZS Om];have:=hev i Td h2;rw[ZN Om]at this;rw[hx,this];rfl
   ·simp only[abK (aa3 Uw)];rw[hev i (by simpa using h1) h2];by_cases hil:i<k
    ·rw[ZS hil,ZS Om]
    ·rw[ZN hil,ZN Om]
  ·rcases aaQ hy with hy|hy
   ·exact X7 y (hin y hy)
   ·rw[hy];have:=X7 x (hin x Tm);exact⟨this.n,this.v,this.dn,this.dv⟩
 ·have e3:=ff hlt;have e4:k=L6.length:=Om
  refine Rs (A5 t10 t41 t42 t43 e3) ?_;refine⟨by rw[hHb,Zx];exact Xx,s6,L',rfl,⟨hfr.aX,λx hx=>(hin x hx).ok⟩,?_⟩;have e6:(bF (L.map EV.ev)).1.e8.filter (pV n)=L6.map EV.ev:=by
   rw[Yt,hF,<-hV];show List.filter _ (V.e8.map EV.ev)=_;rw[abw];rfl
  rw[e6,LL];refine List.ext_getElem (by simp[hlL]) λi h1 h2=>?_
  have h1':i<L'.length:=by simpa using h1
  rw[aaN,hev i h1' Om,ZS Om,List.getElem_mapIdx,aaN]
end
end Go.Abs
