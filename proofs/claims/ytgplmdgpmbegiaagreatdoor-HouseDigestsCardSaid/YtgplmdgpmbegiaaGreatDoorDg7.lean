/- A part of the proof that HouseDigests holds. No condition. -/
import Derived.Test.YtgplmdgpmbegiaaGreatDoorDg6
import Derived.Test.YtgplmdgpmbegiaaGreatDoorDg0
set_option maxHeartbeats 4000000
set_option linter.all false
open Nat (reduceAdd reduceMul reduceLeDiff reduceEqDiff)
namespace Go.Abs
theorem a8.row{h x}(o:a8 h x):x.row.all AV.one=true:=by
 simp only[EV.row,AH,AG,zE,DE,o.n.one,o.v.one,Bool.and_self]
def a8.box{h x}(o:a8 h x){N}:mZ (.agg x.row) N=some (.ptr N 0,.push (.b x.row)):=by
 have:(AV.agg x.row).cells=x.row:=rfl;simp only[mZ,this,o.row,TQ]
def mU{x:EV}:x.row[0]? =some (.i x.ev.num):=rfl
def fH{x:EV}:x.row[1]? =some (.str x.ev.kind):=rfl
def bE{x:EV}:x.row[2]? =some x.sn:=rfl
def cB{x:EV}:x.row[3]? =some x.sv:=rfl
def Fw{x:EV}:x.row[4]? =some (.str x.ev.text):=rfl
def cA{x:EV}{mu tl:Bool}:dy (some 5) 0 (.cells x.row mu tl)=some (.agg x.row,.aq):=rfl
def j6(d:Kd):(iD d).one=true:=by cases d<;>rfl
def jJ(d:Kd):(mR d).one=true:=by cases d<;>rfl
def uV{l:List (By)}:aG (l.map λs=>bz (!ff s) 8)=if l.any (λs=>!ff s)then 8 else 0:=by
 induction l with
 |nil=>rfl
 |cons a l ih=>
  rw[Un,aG,ih,List.any_cons,bz];cases h:ff a<;>simp
def nP{l:List Int}:aG (l.map λn=>aU n 0 999999999)=if l.any (λn=>decide (aU n 0 999999999≠0))then 3 else 0:=by
 induction l with
 |nil=>rfl
 |cons a l ih=>
  rw[Un,aG,ih,List.any_cons];by_cases h:aU a 0 999999999=0
  ·simp[h]
  ·have h3:aU a 0 999999999=3:=by unfold aU at h ⊢;split<;>simp_all
   simp[h3]
def vX{n lo hi}(h:aU n lo hi≠0):aU n lo hi=3:=by unfold aU at h ⊢;split<;>simp_all
set_option maxRecDepth 10000
attribute [local irreducible] WP WC WE WB WR WF WL WG eD
section
variable {P:Program}(T:dB P) {h:af}
include T
def r131(s:By):ao P 131 [.str s] h (λv _=>v=.i (bz (!ff s) 8)):=by
 refine .of T.mix T.c131 ?_;unfold fn131 gA;refine Wn ?_;refine WF.ce T.c132 (r132 T s) λg1=>?_
 refine Wn ?_;refine WF.ce T.c85 (r85 T _ _) λg2=>?_
 exact Wn Tv
def r133(n:Int):ao P 133 [.i n] h (λv _=>v=.i (aU n 0 999999999)):=by
 refine .of T.mix T.c133 ?_;unfold fn133 gA;refine Wn ?_;refine WF.ce T.c94 (r94 T _ _ _) λg1=>?_
 exact Wn Tv
def r67{x:EV}(o:a8 h x)(hl:x.ev.names.length<=2^40/\x.ev.cK.length<=2^40):ao P 67 [.agg x.row] h (λv _=>v=.i (eS x.ev)):=by
 refine .mG 53 T.mix T.c67 ?_;intro ts hlen t0;unfold fn67 gA;have NJ:=@a8.box _ _ o;refine Rs (A3 t0 @NJ @mU) ?_;refine WF.ce T.c94 (r94 T _ _ _) λg1=>?_
 by_cases h0:aU x.ev.num 1 1000=0
 case neg=>
  have e0:decide (aU x.ev.num 1 1000≠0)=true:=Tq h0;refine Rs (A2 t0 e0) ?_;rw[eS,Ty h0];exact TO (AV.int .i64) (vX h0)
 have e0:decide (aU x.ev.num 1 1000≠0)=false:=Tm (λz=>z h0);refine Rs (A2 t0 e0) ?_;refine WF.res T.c90 (r90 T) ?_;rintro _ g2 ⟨vf,rfl,hk⟩;have lk:∀{z:AV},fJ .s z true (.map (h++[ai.b x.row]++g1).length) (.str x.ev.kind) (λb=>(h++[ai.b x.row]++g1++g2)[b]?)=jH z true ((gb x.ev.kind).map vf):=hk.look;cases hd:gb x.ev.kind with
 |none=>
  rw[hd]at lk;have N8:∀{z:AV},_=some (AV.dh [z,.bool false],fR.aq):=@lk;refine Rs (A6 t0 @fH @bn @N8 @fP @TW) ?_;rw[eS,Tt (by simpa using h0),hd]
 |some d=>
  rw[hd]at lk;have N8:∀{z:AV},_=some (AV.dh [vf d,.bool true],fR.aq):=@lk;obtain⟨rs,a,hv,hr,ha,hab⟩:=(hk.k d).ex;rw[hv]at N8;have hlr:=hr.bh;have c1:=j6 d;have c2:=jJ d;have c3:=hr.one;refine Rs (JQ t0 @fH @bE @cB @bn @N8 @TU @c1 @c2 @c3 @ha @hlr o.n.bh o.v.bh) ?_;have esh:eS x.ev=if x.ev.names.length≠(bV d).length\/x.ev.cK.length≠cO d then 2 else aG [aG (x.ev.names.map λs=>bz (!ff s) 8),aG (x.ev.cK.map λn=>aU n 0 999999999),bz (decide (x.ev.text≠[])) 1]:=by
   rw[eS,Tt (by simpa using h0),hd,uV,nP];simp only;split
   ·rfl
   cases x.ev.names.any (λs=>!ff s)with
   |true=>rfl
   |false=>
    cases x.ev.cK.any (λn=>decide (aU n 0 999999999≠0))with
    |true=>rfl
    |false=>by_cases ht:x.ev.text=[]<;>simp[aG,bz,ht]
  rw[esh];by_cases h1:x.ev.names.length=(bV d).length/\x.ev.cK.length=cO d
  case neg=>
   have e1:(!(decide ((x.ev.names.length:Int)=((bV d).length:Int))&&(decide ((x.ev.cK.length:Int)=(cO d:Int))&&true)))=true:=by
    by_cases q1:x.ev.names.length=(bV d).length
    ·have q2:¬x.ev.cK.length=cO d:=λz=>h1 ⟨q1,z⟩
     have q3:¬(x.ev.cK.length:Int)=(cO d:Int):=Om
     simp[q3]
    ·have q3:¬(x.ev.names.length:Int)=((bV d).length:Int):=Om
     simp[q3]
   rw[e1,Ty Om];exact Rs t0 Tv
  have e1:(!(decide ((x.ev.names.length:Int)=((bV d).length:Int))&&(decide ((x.ev.cK.length:Int)=(cO d:Int))&&true)))=false:=by
   rw[h1.1,h1.2];simp
  rw[e1,Tt Om];refine Rs (A3 t0 @bE @cB) ?_;refine WF.res T.c130 (r130 T (o.n.ext Xx) hl.1 (λs=>bz (!ff s) 8) (λs _ k _=>aQ.of (a:=[]) (c:=[]) T.c131 (r131 T s))) ?_;rintro s6 g6 hf6;refine Rs (A3 t0 @bE @cB) ?_;refine WF.res T.c92 (r92 T (o.v.ext Xx) hl.2 (λn=>aU n 0 999999999) (λn _ k _=>aQ.of (a:=[]) (c:=[]) T.c133 (r133 T n))) ?_;rintro s7 g7 hf7;refine Rs (A3 t0 @bE @cB) ?_;refine WF.ce T.c74 (r74 T (hf6.aN.ext Xx) (by simp;omega)) λg8=>?_
  refine Rs t0 ?_;refine WF.ce T.c74 (r74 T (hf7.aN.ext Xx) (by simp;omega)) λg9=>?_
  refine Rs (A2 t0 @Fw) ?_;refine WF.ce T.c85 (r85 T _ _) λg10=>?_
  refine Rs t0 ?_;refine WF.ce T.c74 (r74 T (bG [_,_,_]) Si) λg11=>?_
  refine Rs t0 ?_;exact⟨Xx,trivial⟩
end
def M5:List AV:=[.str gf,.str gf,.str gf,.str j7,.str j7,.str lR,.str lR,.str lR]
def Gl(h:af):Prop:=∃mu tl,h[0]? =some (.cells M5 mu tl)
def Gl.ext{h k}(o:Gl h)(e:Ext h k):Gl k:=by obtain⟨mu,tl,h1⟩:=o;exact⟨mu,tl,e.some h1⟩
structure Cx(h:af)(V:RV)(x:EV)(d:Kd):Prop where
 o:aE h V
 w:jl V.aC
 e:a8 h x
 we:r9 x.ev d
 nk:Me V.aC x.ev d
def Cx.nm{h V x d}(c:Cx h V x d){i:Nat}(hi:i<(bV d).length):aV 1 x.sn (.i (i:Int))=some (dG x.sn 1 i,.aq)/\∀{k},Ext h k->au none (dG x.sn 1 i) (λb=>k[b]?)=some (.str (ba x.ev i),.aq):=by
 have hi':i<x.ev.names.length:=by rw[c.we.nl];exact hi
 refine⟨c.e.n.eX hi',λ{k} e=>?_⟩;have:ba x.ev i=x.ev.names[i]:=by rw[ba,TF,Tk hi'];rfl
 rw[this];exact c.e.n.kV hi' rfl e
theorem Cx.vl{h V x d}(c:Cx h V x d){i:Nat}(hi:i<cO d):aV 1 x.sv (.i (i:Int))=some (dG x.sv 1 i,.aq)/\(∀{k},Ext h k->au none (dG x.sv 1 i) (λb=>k[b]?)=some (.i (bW x.ev i),.aq))/\0<=bW x.ev i/\bW x.ev i<=999999999:=by
 have hi':i<x.ev.cK.length:=by rw[c.we.vl];exact hi
 have:bW x.ev i=x.ev.cK[i]:=by rw[bW,TF,Tk hi'];rfl
 refine⟨c.e.v.eX hi',λ{k} e=>?_,c.we.vr _ (qY hi')⟩;rw[this];exact c.e.v.kV hi' rfl e
theorem Cx.ext{h k V x d}(c:Cx h V x d)(e:Ext h k):Cx k V x d:=⟨c.o.ext e,c.w,c.e.ext e,c.we,c.nk⟩
def c6{c e l}(he:e≠0):aG (bz c e::l)=if c=true then e else aG l:=by
 cases c<;>simp[aG,bz,he]
def rB{a b c l}:aG (aU a b c::l)=if aU a b c≠0 then 3 else aG l:=by
 by_cases h:aU a b c=0
 ·simp[aG,h]
 ·simp[aG,h,vX h]
section
variable {P:Program}(T:dB P) {h:af}
include T
def r148{V x}(c:Cx h V x .line):ao P 148 [.agg V.row,.agg x.row] h (λv _=>v=.i (cX V.aC x.ev .line)):=by
 refine .dU 17 T.mix T.c148 ?_;intro ts hlen t0 t1;unfold fn148 gA;have NJ:=@aE.box _ _ c.o;have hex:=@a8.box _ _ c.e;have i1:aV 1 x.sv (.i 1)=_:=(c.vl (i:=1) De).1;have d1:=@(c.vl (i:=1) De).2.1;refine Rs (A7 t0 t1 @NJ @hex @cB @i1 @d1) ?_;refine WF.ce T.c94 (r94 T _ _ _) λg1=>?_
 refine Rs (A4 t0 t1 @oS c.o.i0.bh) ?_;refine WF.ce T.c85 (r85 T _ _) λg2=>?_
 refine Rs (A2 t0 t1) ?_;refine WF.ce T.c74 (r74 T (bG [_,_]) Si) λg3=>?_
 refine Rs (A2 t0 t1) ?_;rw[rB,c6 De,cX];congr 2;simp only[T3,aG];congr 1;exact propext ⟨λz=>(by have:V.aC.lines.length=V.lines.length:=rfl;omega),λz=>(by have:V.aC.lines.length=V.lines.length:=rfl;omega)⟩
def r151{V x}(c:Cx h V x .tape):ao P 151 [.agg V.row,.agg x.row] h (λv _=>v=.i (cX V.aC x.ev .tape)):=by
 refine .dU 23 T.mix T.c151 ?_;intro ts hlen t0 t1;unfold fn151;have NJ:=@aE.box _ _ c.o;have hex:=@a8.box _ _ c.e;have i0:aV 1 x.sv (.i 0)=_:=(c.vl (i:=0) De).1;have d0:=@(c.vl (i:=0) De).2.1;have i1:aV 1 x.sv (.i 1)=_:=(c.vl (i:=1) De).1;have d1:=@(c.vl (i:=1) De).2.1;have q0:=(c.vl (i:=0) De).2.2;have q1:=(c.vl (i:=1) De).2.2;have hw:IntKind.i64.wrap (bW x.ev 0+bW x.ev 1)=bW x.ev 0+bW x.ev 1:=aR Om Om;refine Rs (yD t0 t1 @NJ @hex @cB @i0 @d0 @i1 @d1 @hw) ?_;refine WF.ce T.c85 (r85 T _ _) λg1=>?_
 refine Rs (A4 t0 t1 @sP c.o.i1.bh) ?_;refine WF.ce T.c85 (r85 T _ _) λg2=>?_
 refine Rs (A2 t0 t1) ?_;refine WF.ce T.c74 (r74 T (bG [_,_]) Si) λg3=>?_
 refine Rs (A2 t0 t1) ?_;rw[c6 De,c6 De,cX];congr 1;simp only[T3,aG];have e:((16:Int)<=(V.aJ.length:Int))=(16<=V.aC.aJ.length):=propext ⟨λz=>(by have:V.aC.aJ.length=V.aJ.length:=rfl;omega),λz=>(by have:V.aC.aJ.length=V.aJ.length:=rfl;omega)⟩;simp only[e]
def r241{V x n d}(c:Cx h V x d)(hd:0<cO d)(hn:n∈kJ V.aC):ao P 241 [.agg V.row,.agg x.row,.str n] h (λv _=>v=.i (bz (!nC V.aC (bW x.ev 0) n) 30)):=by
 refine .ue 17 T.mix T.c241 ?_;intro ts hlen t0 t1 t2;unfold fn241 gA;have NJ:=@aE.box _ _ c.o;have hex:=@a8.box _ _ c.e;have i0:aV 1 x.sv (.i 0)=_:=(c.vl (i:=0) hd).1;have d0:=@(c.vl (i:=0) hd).2.1;refine Rs (A6 t0 t1 t2 @NJ @hex @bu) ?_;refine WF.ce T.c134 (r134 T (c.o.ext Xx) c.w.len hn) λg1=>?_
 refine Rs (A6 t0 t1 t2 @cB @i0 @d0) ?_;refine WF.ce T.c135 (r135 T _ _) λg2=>?_
 refine Rs (A3 t0 t1 t2) ?_;refine WF.ce T.c85 (r85 T _ _) λg3=>?_
 refine Rs (A3 t0 t1 t2) ?_;rfl
def r155{V x}(c:Cx h V x .iR):ao P 155 [.agg V.row,.agg x.row] h (λv _=>v=.i (cX V.aC x.ev .iR)):=by
 refine .dU 27 T.mix T.c155 ?_;intro ts hlen t0 t1;unfold fn155;have NJ:=@aE.box _ _ c.o;have hex:=@a8.box _ _ c.e;have i1:aV 1 x.sn (.i 1)=_:=(c.nm (i:=1) De).1;have d1:=@(c.nm (i:=1) De).2;have i2:aV 1 x.sn (.i 2)=_:=(c.nm (i:=2) De).1;have d2:=@(c.nm (i:=2) De).2;have k1:ba x.ev 1∈jy V.aC:=c.nk.kn 1 0 rfl;have k2:ba x.ev 2∈kJ V.aC:=c.nk.kn 2 1 rfl;refine Rs (A8 t0 t1 @NJ @hex @bu @bE @i1 @d1) ?_;refine WF.ce T.c205 (r205 T (c.o.ext Xx) c.w.len k1) λg1=>?_
 unfold bX;refine Rs (A2 t0 t1) ?_;refine WF.ce T.c85 (r85 T _ _) λg2=>?_
 refine Rs (A7 t0 t1 @bu @cA @bE @i2 @d2) ?_;refine WF.ce T.c241 (r241 T (c.ext Xx) De k2) λg3=>?_
 refine Rs (A4 t0 t1 @jB c.o.i2.bh) ?_;refine WF.ce T.c85 (r85 T _ _) λg4=>?_
 refine Rs (A2 t0 t1) ?_;refine WF.ce T.c74 (r74 T (bG [_,_,_]) Si) λg5=>?_
 refine Rs (A2 t0 t1) ?_;rw[c6 De,c6 De,c6 De,cX];simp only[T3,aG];have e:((64:Int)<=(V.al.length:Int))=(64<=V.aC.al.length):=by
  have:V.aC.al.length=V.al.length:=by simp[RV.aC]
  exact JR
 simp only[e]
end
def yU{R a b}(ha:a∈kJ R)(hb:b∈kJ R):(decide ((jr R a).name=(jr R b).name)&&(decide ((jr R a).last=(jr R b).last)&&true))=decide (a=b):=by
 have e1:(jr R a).name=a:=fG ha;have e2:(jr R b).name=b:=fG hb;by_cases h:a=b
 ·subst h;simp
 ·rw[e1,e2];simp[h]
section
variable {P:Program}(T:dB P) {h:af}
include T
def r157{V x}(c:Cx h V x .copy):ao P 157 [.agg V.row,.agg x.row] h (λv _=>v=.i (cX V.aC x.ev .copy)):=by
 refine .dU 35 T.mix T.c157 ?_;intro ts hlen t0 t1;unfold fn157;have NJ:=@aE.box _ _ c.o;have hex:=@a8.box _ _ c.e;have i0:aV 1 x.sn (.i 0)=_:=(c.nm (i:=0) De).1;have d0:=@(c.nm (i:=0) De).2;have i1:aV 1 x.sn (.i 1)=_:=(c.nm (i:=1) De).1;have d1:=@(c.nm (i:=1) De).2;have k0:ba x.ev 0∈kJ V.aC:=c.nk.kn 0 1 rfl;have k1:ba x.ev 1∈kJ V.aC:=c.nk.kn 1 1 rfl;refine Rs (A8 t0 t1 @NJ @hex @bu @bE @i0 @d0) ?_;refine WF.ce T.c134 (r134 T (c.o.ext Xx) c.w.len k0) λg1=>?_
 refine Rs (A6 t0 t1 @bu @bE @i1 @d1) ?_;refine WF.ce T.c134 (r134 T (c.o.ext Xx) c.w.len k1) λg2=>?_
 unfold dW;refine Rs (A2 t0 t1) ?_;refine WF.ce T.c85 (r85 T _ _) λg3=>?_
 rw[yU k0 k1];have n0:(jr V.aC (ba x.ev 0)).name=ba x.ev 0:=fG k0;have n1:(jr V.aC (ba x.ev 1)).name=ba x.ev 1:=fG k1;refine Rs (A6 t0 t1 @bu @cA @n0 @n1) ?_;refine WF.ce T.c241 (r241 T (c.ext Xx) De k0) λg4=>?_
 refine Rs (A6 t0 t1 @bu @cA @n0 @n1) ?_;refine WF.ce T.c241 (r241 T (c.ext Xx) De k1) λg5=>?_
 refine Rs (A2 t0 t1) ?_;refine WF.ce T.c74 (r74 T (bG [_,_,_]) Si) λg6=>?_
 refine Rs (A2 t0 t1) ?_;rw[c6 De,c6 De,c6 De,cX];simp only[T3,aG];exact⟨Xx,trivial⟩
def r161{V x}(o:aE h V)(e:a8 h x):ao P 161 [.agg V.row,.agg x.row] h (λv _=>v=.i (bz (decide (32<=V.aC.aI.length)) 5)):=by
 refine .dU 10 T.mix T.c161 ?_;intro ts hlen t0 t1;unfold fn161 gA;have NJ:=@aE.box _ _ o;have hex:=@a8.box _ _ e;refine Rs (A6 t0 t1 @NJ @hex @kB o.i3.bh) ?_;refine WF.ce T.c85 (r85 T _ _) λg1=>?_
 refine Rs (A2 t0 t1) ?_;have e:decide ((32:Int)<=(V.aI.length:Int))=decide (32<=V.aC.aI.length):=by
  have:V.aC.aI.length=V.aI.length:=by simp[RV.aC]
  rw[UW];omega
 rw[e]
def r244{V x d}(c:Cx h V x d)(hd:0<cO d){y}(hm:y∈V.al){b b'}(hb:h[b]? =some (.b V.row))(hb':h[b']? =some (.b x.row)):
  ao P 244 [.agg (aW y),.ptr b 0,.ptr b' 0] h (λv _=>v=.bool (!js V.aC y.1 (bW x.ev 0))):=by
 refine .ue 13 T.mix T.c244 ?_;intro ts hlen t0 t1 t2;unfold fn244 gA;have oy:=(c.o.e2 y hm).one;have lb:∀{k:af}{n:Option Nat}{a:Nat},Ext h k->au n (.ptr b a) (λz=>k[z]?)=dy n a (.b V.row):=λe=>az (e.some hb)
 have lc:∀{k:af}{n:Option Nat}{a:Nat},Ext h k->au n (.ptr b' a) (λz=>k[z]?)=dy n a (.b x.row):=λe=>az (e.some hb')
 have i0:aV 1 x.sv (.i 0)=_:=(c.vl (i:=0) hd).1;have d0:=@(c.vl (i:=0) hd).2.1;have hsf:=λ(k:af) (e:Ext h k)=>r76 T (c.o.ext e) c.w.len ((c.o.e2 y hm).ext e) (c.w.zX.sh y hm).2 (c.w.zX.sh y hm).1 (bW x.ev 0)
 unfold aW at t0 hsf;refine Rs (yD t0 t1 t2 @oy @lb @lc @bu @cB @i0 @d0) ?_;refine WF.ce T.c76 (hsf _ Xx) λg1=>?_
 exact Dq
def r159{V x}(c:Cx h V x .accept):ao P 159 [.agg V.row,.agg x.row] h (λv _=>v=.i (cX V.aC x.ev .accept)):=by
 refine .dU 36 T.mix T.c159 ?_;intro ts hlen t0 t1;unfold fn159;have NJ:=@aE.box _ _ c.o;have hex:=@a8.box _ _ c.e;have i0:aV 1 x.sn (.i 0)=_:=(c.nm (i:=0) De).1;have d0:=@(c.nm (i:=0) De).2;have k0:ba x.ev 0∈jy V.aC:=c.nk.kn 0 0 rfl;refine Rs (A8 t0 t1 @NJ @hex @bu @bE @i0 @d0) ?_;refine WF.ce T.c205 (r205 T (c.o.ext Xx) c.w.len k0) λg1=>?_
 unfold bX;refine Rs (A6 t0 t1 @bu @bE @i0 @d0) ?_;refine WF.res T.c206 (r206 T (c.o.ext Xx) c.w.len _) ?_;rintro s2 g2 Ob;refine Rs (A2 t0 t1) ?_;have hin:∀y∈V.al.filter (λy=>decide (y.1.line=ba x.ev 0)),y∈V.al:=λy hy=>(UK.1 hy).1
 have Of:(V.al.filter (λy=>decide (y.1.line=ba x.ev 0))).length<=V.al.length:=Uc _ _;have QQ:=c.w.len.l2;refine WF.res T.c243 (r243 T (Ob.ext Xx) Om (λy=>!js V.aC y.1 (bW x.ev 0)) (λy hy k e=>aQ.of (a:=[]) (c:=[.ptr h.length 0,.ptr (h++[ai.b V.row]).length 0]) T.c244 (r244 T (c.ext (Ext.trans Xx e)) De (hin y hy) (e.some ?_) (e.some ?_)))) ?_
 ·exact rI
 ·exact p9
 rintro _ g3 rfl;refine Rs (A2 t0 t1) ?_;refine WF.ce T.c85 (r85 T _ _) λg4=>?_
 have hl2:=Ob.bh;refine Rs (A3 t0 t1 @hl2) ?_;refine WF.ce T.c85 (r85 T _ _) λg5=>?_
 refine Rs (A2 t0 t1) ?_;refine WF.ce T.c85 (r85 T _ _) λg6=>?_
 refine Rs (A2 t0 t1) ?_;refine WF.ce T.c74 (r74 T (bG [_,_,_]) Si) λg7=>?_
 refine Rs (A2 t0 t1) ?_;rw[c6 De,c6 De,c6 De,cX];have e1:(BE V.aC (ba x.ev 0))=(V.al.filter (λy=>decide (y.1.line=ba x.ev 0))).map Prod.fst:=by
  show List.filter _ (List.map Prod.fst V.al)=_;rw[Vq];rfl
 rw[e1,Tu,List.any_map];simp only[T3,aG];refine⟨Xx,?_⟩;rfl
def r163{V x}(c:Cx h V x .iV)(gl:Gl h):ao P 163 [.agg V.row,.agg x.row] h (λv _=>v=.i (cX V.aC x.ev .iV)):=by
 refine .dU 35 T.mix T.c163 ?_;intro ts hlen t0 t1;unfold fn163;have NJ:=@aE.box _ _ c.o;have hex:=@a8.box _ _ c.e;have i1:aV 1 x.sn (.i 1)=_:=(c.nm (i:=1) De).1;have d1:=@(c.nm (i:=1) De).2;have j1:aV 1 x.sv (.i 1)=_:=(c.vl (i:=1) De).1;have f1:=@(c.vl (i:=1) De).2.1;have k1:ba x.ev 1∈jG V.aC:=c.nk.kn 1 3 rfl;obtain⟨gmu,gtl,hg0⟩:=gl;rw[cX];by_cases hn:1<=bW x.ev 1/\bW x.ev 1<=4
 case neg=>
  have hr:aU (bW x.ev 1) 1 4≠0:=by unfold aU;rw[Ty Om];decide
  rw[Ty hr];by_cases ha:bW x.ev 1<1
  ·have q1:decide (bW x.ev 1<1)=true:=Tq ha;exact Rs (A8 t0 t1 @NJ @hex @cB @j1 @f1 q1) Tv
  ·have q1:decide (bW x.ev 1<1)=false:=Tm ha;have q2:decide (4<bW x.ev 1)=true:=Tq Om;exact Rs (A9 t0 t1 @NJ @hex @cB @j1 @f1 q1 q2) Tv
 have hr:¬aU (bW x.ev 1) 1 4≠0:=by unfold aU;rw[Tt Om];decide
 rw[Tt hr];have q1:decide (bW x.ev 1<1)=false:=Tm Om;have q2:decide (4<bW x.ev 1)=false:=Tm Om;have hw:IntKind.i64.wrap (bW x.ev 1-1)=bW x.ev 1-1:=aR Om Om;have a1:kD 4 2 (.ptr 0 0) (.i (bW x.ev 1-1))=some (.ptr 0 ((bW x.ev 1-1).toNat*2)):=by simp only[kD];rw[Ty Om,TZ]
 have a2:kD 2 1 (.ptr 0 ((bW x.ev 1-1).toNat*2)) (.i 0)=some (.ptr 0 ((bW x.ev 1-1).toNat*2)):=by simp[kD]
 have lg:∀{k:af},Ext h k->au none (.ptr 0 ((bW x.ev 1-1).toNat*2)) (λb=>k[b]?)=some (.str (yV (bW x.ev 1)),.aq):=by
  intro k e;exact MD
 refine Rs (GG t0 t1 @NJ @hex @bE @cB @j1 @f1 q1 q2 @bu @i1 @d1) ?_;refine WF.res T.c245 (r245 T (c.o.ext Xx) c.w.len k1) ?_;rintro _ g1 ⟨y,hy,PI,rfl⟩;unfold aL;refine Rs (A6 t0 t1 @hw @a1 @a2 @lg) ?_;refine WF.ce T.c85 (r85 T _ _) λg2=>?_
 refine Rs (A4 t0 t1 @bu @cA) ?_;refine WF.ce T.c161 (r161 T (c.o.ext Xx) (c.e.ext Xx)) λg3=>?_
 refine Rs (A2 t0 t1) ?_;refine WF.ce T.c74 (r74 T (bG [_,_]) Si) λg4=>?_
 refine Rs (A2 t0 t1) ?_;rw[c6 De,c6 De,PI];simp only[T3,aG]
def r165{V x}(c:Cx h V x .merge):ao P 165 [.agg V.row,.agg x.row] h (λv _=>v=.i (cX V.aC x.ev .merge)):=by
 refine .dU 36 T.mix T.c165 ?_;intro ts hlen t0 t1;unfold fn165;have NJ:=@aE.box _ _ c.o;have hex:=@a8.box _ _ c.e;have i1:aV 1 x.sn (.i 1)=_:=(c.nm (i:=1) De).1;have d1:=@(c.nm (i:=1) De).2;have i2:aV 1 x.sn (.i 2)=_:=(c.nm (i:=2) De).1;have d2:=@(c.nm (i:=2) De).2;have k1:ba x.ev 1∈jG V.aC:=c.nk.kn 1 3 rfl;have k2:ba x.ev 2∈jG V.aC:=c.nk.kn 2 3 rfl;refine Rs (A9 t0 t1 @NJ @hex @bE @i1 @d1 @i2 @d2) ?_;refine WF.ce T.c85 (r85 T _ _) λg1=>?_
 refine Rs (A6 t0 t1 @bu @bE @i1 @d1) ?_;refine WF.res T.c245 (r245 T (c.o.ext Xx) c.w.len k1) ?_;rintro _ g2 ⟨y,hy,PI,rfl⟩;unfold aL;refine Rs (A6 t0 t1 @bu @bE @i2 @d2) ?_;refine WF.res T.c245 (r245 T (c.o.ext Xx) c.w.len k2) ?_;rintro _ g3 ⟨z,hz,hz1,rfl⟩;unfold aL;refine Rs (A2 t0 t1) ?_;refine WF.ce T.c85 (r85 T _ _) λg4=>?_
 refine Rs (A4 t0 t1 @bu @cA) ?_;refine WF.ce T.c161 (r161 T (c.o.ext Xx) (c.e.ext Xx)) λg5=>?_
 refine Rs (A2 t0 t1) ?_;refine WF.ce T.c74 (r74 T (bG [_,_,_]) Si) λg6=>?_
 refine Rs (A2 t0 t1) ?_;rw[c6 De,c6 De,c6 De,cX,PI,hz1];simp only[T3,aG]
def r247(y:jx):ao P 247 [.agg (bX y)] h (λv _=>v=.bool (!y.acc)):=by
 refine .of T.mix T.c247 ?_;unfold fn247 gA bX;exact Wn Tv
def r167{V x}(c:Cx h V x .run):ao P 167 [.agg V.row,.agg x.row] h (λv _=>v=.i (cX V.aC x.ev .run)):=by
 refine .dU 27 T.mix T.c167 ?_;intro ts hlen t0 t1;unfold fn167 gA;have NJ:=@aE.box _ _ c.o;have hex:=@a8.box _ _ c.e;have i1:aV 1 x.sn (.i 1)=_:=(c.nm (i:=1) De).1;have d1:=@(c.nm (i:=1) De).2;have j1:aV 1 x.sv (.i 1)=_:=(c.vl (i:=1) De).1;have f1:=@(c.vl (i:=1) De).2.1;have hin:∀y∈V.aI,y.1.bt.length<2^30:=λy hy=>by have:=(c.w.md y.1 (TR hy)).2.1;omega
 refine Rs (A8 t0 t1 @NJ @hex @bu @bE @i1 @d1) ?_;refine WF.res T.c122 (r122 T (c.o.ext Xx) c.w.len hin _) ?_;rintro s1 g1 O9;have hsl:(jA V.aC (ba x.ev 1)).length<=V.lines.length:=Uc _ _;have QQ:=c.w.len.l0;refine Rs (A2 t0 t1) ?_;refine WF.ce T.c246 (r246 T O9 Om (λy=>!y.acc) (λy hy k e=>aQ.of (a:=[]) (c:=[]) T.c247 (r247 T y))) λg2=>?_
 refine Rs (A2 t0 t1) ?_;refine WF.ce T.c85 (r85 T _ _) λg3=>?_
 refine Rs (A5 t0 t1 @cB @j1 @f1) ?_;refine WF.ce T.c94 (r94 T _ _ _) λg4=>?_
 refine Rs (A4 t0 t1 @qm c.o.i4.bh) ?_;refine WF.ce T.c85 (r85 T _ _) λg5=>?_
 refine Rs (A2 t0 t1) ?_;refine WF.ce T.c74 (r74 T (bG [_,_,_]) Si) λg6=>?_
 refine Rs (A2 t0 t1) ?_;rw[c6 De,rB,c6 De,cX];simp only[T3,aG];have e:((16:Int)<=(V.aH.length:Int))=(16<=V.aC.aH.length):=by
  have:V.aC.aH.length=V.aH.length:=by simp[RV.aC]
  exact JR
 simp only[e]
end
theorem qB:∀{l m}{i},bR (l++m) i=bR l i++bR m (i+l.length)
 |[],m,i=>by simp[bR]
 |x::l,m,i=>by
  have e:i+1+l.length=i+(x::l).length:=by simp;omega
  rw[Uu,bR,bR,qB,e];split<;>simp
theorem jZ:∀{l}{i},(bR l i).length<=l.length
 |[],i=>by simp[bR]
 |x::l,i=>by
  have:=jZ (l:=l) (i:=i+1);rw[bR];split<;>simp<;>omega
section
variable {P:Program}(T:dB P) {h:af}
include T
def r125{x}(hx:aA h x.2 1 (x.1.bQ.map aB))(hl:x.1.bQ.length<2^30)(hs:∀s∈x.1.bQ,-1<=s):ao P 125 [.agg (bI x)] h (λv h'=>aA h' v 1 ((bR x.1.bQ 0).map aB)):=by
 refine .mG 23 T.mix T.c125 ?_;intro ts hlen t0;unfold fn125 gA;have ox:=hx.one;unfold bI at t0;refine Rs (A3 t0 @ox hx.bh) ?_;obtain⟨H0,Tc⟩:∃H0,H0=h++[ai.b [AV.str x.1.name,.str x.1.mod,x.2]]:=⟨_,rfl⟩;have e0:Ext h H0:=by rw[Tc];exact Xx
 have lb:∀{k n a},Ext H0 k->au n (.ptr h.length a) (λz=>k[z]?)=dy n a (.b [AV.str x.1.name,.str x.1.mod,x.2]):=λ{_ _ _} e=>az (e.some (by rw[Tc];exact bF))
 rw[<-Tc];refine WL.inv T.mix (λn ts h'=>∃(k:Nat) (out:AV),k<=x.1.bQ.length/\n=x.1.bQ.length-k/\Ext H0 h'/\Fr H0.length h' out 1 ((bR (x.1.bQ.take k) 0).map aB)/\
   ts.length=23/\slot ts 1=.ptr h.length 0/\slot ts 3=out/\slot ts 7=.i x.1.bQ.length/\slot ts 8=.i k) x.1.bQ.length
  ⟨0,.ah,Om,rfl,Ext.refl _,.nil,Sn,(Sq t0),(Sq t0),(Sq t0),my⟩ ?_
 rintro _ ts _ ⟨k,out,hk',rfl,⟨g,rfl⟩,hfr,hlen,t1,t3,t7,t8⟩;by_cases hlt:k<x.1.bQ.length
 ·have e3:=hX hlt;have ix:=hx.eX (kk:=.i64) hlt;have ld:∀{k':af},Ext H0 k'->au none (dG x.2 1 k) (λb=>k'[b]?)=some (.i x.1.bQ[k],.aq):=λ{k'} e=>hx.kV hlt rfl (e0.trans e)
  have e5:=wrapN (n:=k) Om;have Oy:bR (x.1.bQ.take (k+1)) 0=bR (x.1.bQ.take k) 0++(if x.1.bQ[k]<0 then [(k:Int)]else []):=by
   rw[T9,Tk hlt,qB];simp only[Option.toList_some,bR,TZ,UB];rw[U3 Om]
  have hsk:=hs _ (TE hlt);by_cases hn:x.1.bQ[k]= -1
  ·have q:decide (x.1.bQ[k]= -1)=true:=Tq hn;rw[Ty Om]at Oy;refine Rs (A9 t1 t3 t7 t8 e3 @lb ix @ld q) ?_;have QQ:=jZ (l:=x.1.bQ.take k) (i:=0);refine WR.fN (h0:=H0) (cs:=(bR (x.1.bQ.take k) 0).map aB) (ys:=[aB (k:Int)]) (hfr.app _) (Fr.push (N:=0) (TJ _) [aB (k:Int)] Si).aN De Si (by simp only[Tu,UB,Tl,Tr]at QQ ⊢;omega) Xx ?_;intro g' N1 hff hkp;have hrow:(bR (x.1.bQ.take k) 0).map aB++[aB (k:Int)]=(bR (x.1.bQ.take (k+1)) 0).map aB:=by rw[Oy,Tx];rfl
   rw[hrow]at hff;rw[hrow];refine Rs (A5 t1 t3 t7 t8 e5) ?_;exact⟨_,Om,k+1,_,Om,rfl,hff,rfl,rfl⟩
  ·have q:decide (x.1.bQ[k]= -1)=false:=Tm hn;rw[Tt Om,TH]at Oy;rw[<-Oy]at hfr;refine Rs (yD t1 t3 t7 t8 e3 @lb ix @ld q e5) ?_;exact⟨_,Om,k+1,_,Om,rfl,hfr,rfl,rfl⟩
 ·have e3:=jf hlt;have e4:k=x.1.bQ.length:=Om
  rw[e4,T7]at hfr;have:=hfr.aN;refine Rs (A5 t1 t3 t7 t8 e3) ?_;exact⟨e0.trans Xx,this⟩
def r249{V x d}(c:Cx h V x d)(hd:1<cO d)(h0:0<(bV d).length)(k0:ba x.ev 0∈hC V.aC):ao P 249 [.agg V.row,.agg x.row] h (λv _=>v=.i (jv V.aC x.ev)):=by
 refine .dU 28 T.mix T.c249 ?_;intro ts hlen t0 t1;unfold fn249;have NJ:=@aE.box _ _ c.o;have hex:=@a8.box _ _ c.e;have i0:aV 1 x.sn (.i 0)=_:=(c.nm (i:=0) h0).1;have d0:=@(c.nm (i:=0) h0).2;have j1:aV 1 x.sv (.i 1)=_:=(c.vl (i:=1) hd).1;have f1:=@(c.vl (i:=1) hd).2.1;have q1:=(c.vl (i:=1) hd).2.2;refine Rs (A8 t0 t1 @NJ @hex @bu @bE @i0 @d0) ?_;refine WF.ce T.c251 (r251 T (c.o.ext Xx) c.w.len _) λg1=>?_
 refine Rs (A2 t0 t1) ?_;refine WF.ce T.c85 (r85 T _ _) λg2=>?_
 refine Rs (A9 t0 t1 @cB @j1 @f1 @bu @bE @i0 @d0) ?_;refine WF.res T.c124 (r124 T (c.o.ext Xx) c.w.len k0) ?_;rintro _ g3 ⟨y,hy,PI,rfl⟩;have Pr:=(c.o.e4 y hy).bh;have PH:=(c.w.jb y.1 (TR hy)).2;have hw:IntKind.i64.wrap ((y.1.bQ.length:Int)-1)=(y.1.bQ.length:Int)-1:=aR Om Om;unfold bI;refine Rs (A4 t0 t1 @Pr @hw) ?_;refine WF.ce T.c94 (r94 T _ _ _) λg4=>?_
 refine Rs (A2 t0 t1) ?_;refine WF.ce T.c74 (r74 T (bG [_,_]) Si) λg5=>?_
 refine Rs (A2 t0 t1) ?_;rw[c6 De,rB,jv,<-PI];have e:(aU (bW x.ev 1) 0 ((y.1.bQ.length:Int)-1)≠0)=((y.1.bQ.length:Int)<=bW x.ev 1):=by
  unfold aU;refine propext ⟨λz=>?_,λz=>?_⟩
  ·split at z
   ·omega
   ·exact absurd rfl z
  ·rw[Ty Om];decide
 simp only[e,aG]
def r169{V x}(c:Cx h V x .gJ):ao P 169 [.agg V.row,.agg x.row] h (λv _=>v=.i (cX V.aC x.ev .gJ)):=by
 refine .dU 27 T.mix T.c169 ?_;intro ts hlen t0 t1;unfold fn169 gA;have NJ:=@aE.box _ _ c.o;have hex:=@a8.box _ _ c.e;have i0:aV 1 x.sn (.i 0)=_:=(c.nm (i:=0) De).1;have d0:=@(c.nm (i:=0) De).2;have j1:aV 1 x.sv (.i 1)=_:=(c.vl (i:=1) De).1;have f1:=@(c.vl (i:=1) De).2.1;have q1:=(c.vl (i:=1) De).2.2;have k0:ba x.ev 0∈hC V.aC:=c.nk.kn 0 4 rfl;refine Rs (A6 t0 t1 @NJ @hex @bu @cA) ?_;refine WF.ce T.c249 (r249 T (c.ext Xx) De De k0) λg1=>?_
 by_cases hb:jv V.aC x.ev=0
 case neg=>
  exact z93
 have e1:decide (jv V.aC x.ev≠0)=false:=Tm (λz=>z hb);refine Rs (A7 t0 t1 e1 @bu @bE @i0 @d0) ?_;refine WF.res T.c124 (r124 T (c.o.ext Xx) c.w.len k0) ?_;rintro _ g2 ⟨y,hy,PI,rfl⟩;have PH:=(c.w.jb y.1 (TR hy)).2;have hlt:(bW x.ev 1).toNat<y.1.bQ.length:=by
  exact G2
 have ev1:bW x.ev 1=((bW x.ev 1).toNat:Int):=Om
 have iy:aV 1 y.2 (.i (bW x.ev 1))=some (dG y.2 1 (bW x.ev 1).toNat,.aq):=by
  rw[ev1];exact(c.o.e4 y hy).eX hlt
 have hsm:iw V.aC x.ev=y.1.bQ[(bW x.ev 1).toNat]:=by
  exact G6
 have ly:∀{k:af},Ext h k->au none (dG y.2 1 (bW x.ev 1).toNat) (λb=>k[b]?)=some (.i (iw V.aC x.ev),.aq):=λ{k} e=>by
  rw[hsm];exact(c.o.e4 y hy).kV hlt rfl e
 have hsb:=PH.2.2 _ (TE hlt);rw[<-hsm]at hsb;unfold bI;refine Rs (A7 t0 t1 @cB @j1 @f1 @iy @ly) ?_;refine WF.ce T.c85 (r85 T _ _) λg3=>?_
 refine Rs (A2 t0 t1) ?_;rw[cX,Tt (λz=>z hb),bz];have e2:(decide (iw V.aC x.ev≠-1)=true)=(0<=iw V.aC x.ev):=by
  exact G1
 simp only[e2]
def r171{V x}(c:Cx h V x .fail):ao P 171 [.agg V.row,.agg x.row] h (λv _=>v=.i (cX V.aC x.ev .fail)):=by
 refine .dU 27 T.mix T.c171 ?_;intro ts hlen t0 t1;unfold fn171;have NJ:=@aE.box _ _ c.o;have hex:=@a8.box _ _ c.e;have i0:aV 1 x.sn (.i 0)=_:=(c.nm (i:=0) De).1;have d0:=@(c.nm (i:=0) De).2;have j1:aV 1 x.sv (.i 1)=_:=(c.vl (i:=1) De).1;have f1:=@(c.vl (i:=1) De).2.1;have q1:=(c.vl (i:=1) De).2.2;have k0:ba x.ev 0∈hC V.aC:=c.nk.kn 0 4 rfl;refine Rs (A6 t0 t1 @NJ @hex @bu @cA) ?_;refine WF.ce T.c249 (r249 T (c.ext Xx) De De k0) λg1=>?_
 by_cases hb:jv V.aC x.ev=0
 case neg=>
  exact z93
 have e1:decide (jv V.aC x.ev≠0)=false:=Tm (λz=>z hb);refine Rs (A7 t0 t1 e1 @bu @bE @i0 @d0) ?_;refine WF.res T.c124 (r124 T (c.o.ext Xx) c.w.len k0) ?_;rintro _ g2 ⟨y,hy,PI,rfl⟩;have PH:=(c.w.jb y.1 (TR hy)).2;have hlt:(bW x.ev 1).toNat<y.1.bQ.length:=by
  exact G2
 have ev1:bW x.ev 1=((bW x.ev 1).toNat:Int):=Om
 have iy:aV 1 y.2 (.i (bW x.ev 1))=some (dG y.2 1 (bW x.ev 1).toNat,.aq):=by
  rw[ev1];exact(c.o.e4 y hy).eX hlt
 have hsm:iw V.aC x.ev=y.1.bQ[(bW x.ev 1).toNat]:=by
  exact G6
 have ly:∀{k:af},Ext h k->au none (dG y.2 1 (bW x.ev 1).toNat) (λb=>k[b]?)=some (.i (iw V.aC x.ev),.aq):=λ{k} e=>by
  rw[hsm];exact(c.o.e4 y hy).kV hlt rfl e
 have hsb:=PH.2.2 _ (TE hlt);rw[<-hsm]at hsb;unfold bI;refine Rs (A7 t0 t1 @cB @j1 @f1 @iy @ly) ?_;refine WF.ce T.c85 (r85 T _ _) λg3=>?_
 refine Rs (A2 t0 t1) ?_;rw[cX,Tt (λz=>z hb),bz];have e2:(decide (iw V.aC x.ev= -1)=true)=(iw V.aC x.ev<0):=by
  exact G1
 simp only[e2]
def r173{V x}(c:Cx h V x .gK):ao P 173 [.agg V.row,.agg x.row] h (λv _=>v=.i (cX V.aC x.ev .gK)):=by
 refine .dU 31 T.mix T.c173 ?_;intro ts hlen t0 t1;unfold fn173;have NJ:=@aE.box _ _ c.o;have hex:=@a8.box _ _ c.e;have i1:aV 1 x.sn (.i 1)=_:=(c.nm (i:=1) De).1;have d1:=@(c.nm (i:=1) De).2;have k1:ba x.ev 1∈hC V.aC:=c.nk.kn 1 4 rfl;refine Rs (A8 t0 t1 @NJ @hex @bu @bE @i1 @d1) ?_;refine WF.res T.c124 (r124 T (c.o.ext Xx) c.w.len k1) ?_;rintro _ g1 ⟨y,hy,PI,rfl⟩;have PH:=(c.w.jb y.1 (TR hy)).2;refine Rs (A2 t0 t1) ?_;refine WF.res T.c125 (r125 T (x:=y) ((c.o.e4 y hy).ext Xx) Om (λs hs=>(PH.2.2 s hs).1)) ?_;rintro s2 g2 Ob;have hl2:=Ob.bh;refine Rs (A6 t0 t1 @bu @bE @i1 @d1) ?_
 refine WF.ce T.c251 (r251 T (c.o.ext Xx) c.w.len _) λg3=>?_
 refine Rs (A2 t0 t1) ?_;refine WF.ce T.c85 (r85 T _ _) λg4=>?_
 refine Rs (A3 t0 t1 @hl2) ?_;refine WF.ce T.c85 (r85 T _ _) λg5=>?_
 refine Rs (A4 t0 t1 @kv c.o.i5.bh) ?_;refine WF.ce T.c85 (r85 T _ _) λg6=>?_
 refine Rs (A2 t0 t1) ?_;refine WF.ce T.c74 (r74 T (bG [_,_,_]) Si) λg7=>?_
 refine Rs (A2 t0 t1) ?_;rw[c6 De,c6 De,c6 De,cX,<-PI];have e1:(decide ((0:Int)<((bR y.1.bQ 0).length:Int))=true)=(bR y.1.bQ 0≠[]):=by
  rw[T3];refine propext ⟨λz e=>by rw[e]at z;simp at z,λz=>by have:=Vj.2 z;omega⟩
 have e2:(decide ((16:Int)<=(V.aO.length:Int))=true)=(16<=V.aC.aO.length):=by
  rw[T3];have:V.aC.aO.length=V.aO.length:=rfl;exact JR
 simp only[e1,e2,aG];exact⟨Xx,trivial⟩
def r175{V x}(c:Cx h V x .rel):ao P 175 [.agg V.row,.agg x.row] h (λv _=>v=.i (cX V.aC x.ev .rel)):=by
 refine .dU 13 T.mix T.c175 ?_;intro ts hlen t0 t1;unfold fn175 gA;have NJ:=@aE.box _ _ c.o;have hex:=@a8.box _ _ c.e;have i0:aV 1 x.sn (.i 0)=_:=(c.nm (i:=0) De).1;have d0:=@(c.nm (i:=0) De).2;have k0:ba x.ev 0∈kP V.aC:=c.nk.kn 0 5 rfl;refine Rs (A8 t0 t1 @NJ @hex @bu @bE @i0 @d0) ?_;refine WF.ce T.c218 (r218 T (c.o.ext Xx) c.w.len k0) λg1=>?_
 unfold cS;refine Rs (A2 t0 t1) ?_;refine WF.ce T.c85 (r85 T _ _) λg2=>?_
 refine Rs (A2 t0 t1) ?_;rw[cX,bz]
def L5{V x d}(hd:d≠.eV)(c:Cx h V x d)(gl:Gl h):aQ P (iD d) [.agg V.row,.agg x.row] h (λv _=>v=.i (cX V.aC x.ev d)):=by
 cases d with
 |eV=>exact absurd rfl hd
 |line=>exact aQ.of (a:=[]) (c:=[]) T.c148 (r148 T c)
 |tape=>exact aQ.of (a:=[]) (c:=[]) T.c151 (r151 T c)
 |iR=>exact aQ.of (a:=[]) (c:=[]) T.c155 (r155 T c)
 |copy=>exact aQ.of (a:=[]) (c:=[]) T.c157 (r157 T c)
 |accept=>exact aQ.of (a:=[]) (c:=[]) T.c159 (r159 T c)
 |source=>
  refine aQ.of (a:=[]) (c:=[]) T.c161 ((r161 T c.o c.e).mono λv g hv=>?_);rw[hv,cX,bz];simp only[T3]
 |iV=>exact aQ.of (a:=[]) (c:=[]) T.c163 (r163 T c gl)
 |merge=>exact aQ.of (a:=[]) (c:=[]) T.c165 (r165 T c)
 |run=>exact aQ.of (a:=[]) (c:=[]) T.c167 (r167 T c)
 |gJ=>exact aQ.of (a:=[]) (c:=[]) T.c169 (r169 T c)
 |fail=>exact aQ.of (a:=[]) (c:=[]) T.c171 (r171 T c)
 |gK=>exact aQ.of (a:=[]) (c:=[]) T.c173 (r173 T c)
 |rel=>exact aQ.of (a:=[]) (c:=[]) T.c175 (r175 T c)
end
def fZ{l1 l2:List (Option Nat)}{a y:Option Nat}(h:y∈l1\/y∈l2):y∈l1++a::l2:=by rcases h with h|h<;>simp[h]
def tq{l1 l2:List (Option Nat)}{a y:Option Nat}(h:y∈l1++a::l2):y∈l1\/y=a\/y∈l2:=by simpa using h
def jS.uI{l1 l2 a x}(h:jS (l1++a::l2))(hx:∀i,x=some i->a=some i\/((∀y∈l1,y≠some i)/\∀y∈l2,y≠some i)):jS (l1++x::l2):=by
 obtain⟨h1,h2,h3⟩:=Us.1 h;obtain⟨h4,h5⟩:=Uy.1 h2;refine Us.2 ⟨h1,Uy.2 ⟨λy hy b hb=>?_,h5⟩,λy hy z hz b hb=>?_⟩
 ·rcases hx b hb with ha|⟨_,ha⟩
  ·exact h4 y hy b ha
  ·exact ha y hy
 ·rcases TP.1 hz with rfl|hz
  ·intro e;rcases hx b e with ha|⟨ha,_⟩
   ·exact h3 y hy a Si b hb ha
   ·exact ha y hy hb
  ·exact h3 y hy z (TK _ hz) b hb
def jS.ins{l1 l2 x}(h:jS (l1++l2))(hx:∀i,x=some i->(∀y∈l1,y≠some i)/\∀y∈l2,y≠some i):jS (l1++x::l2):=by
 obtain⟨h1,h2,h3⟩:=Us.1 h;refine Us.2 ⟨h1,Uy.2 ⟨λy hy b hb=>(hx b hb).2 y hy,h2⟩,λy hy z hz b hb=>?_⟩;rcases TP.1 hz with rfl|hz
 ·exactλe=>(hx b e).1 y hy hb
 ·exact h3 y hy z hz b hb
structure bw(N:Nat)(h:af)(b:Nat)(V:RV):Prop where
 o:cY N h V
 hN:N<=b
 m:h[b]? =some (.b V.row)
 ne:some b∉V.bl
def bw.lt{N h b V}(r:bw N h b V):b<h.length:=(Th.1 r.m).1
theorem bw.app{N h b V}(r:bw N h b V)(g:af):bw N (h++g) b V:=⟨r.o.app g,r.hN,(Ext.app g (Ext.refl h)).some r.m,r.ne⟩
section
variable {N b:Nat}{h k:af}{V:RV}
def bw.M3(r:bw N h b V){s:AV}{L:List jx}(hs:Fr N k s 3 (L.map bX))(hn:∀i,sB s=some i->sB V.s0=some i\/h.length<=i)(hm:k[b]? =some (.cells {V with lines:=L,s0:=s}.row true false))
  (hk:∀i,i<h.length->sB V.s0≠some i->i≠b->k[i]? =h[i]?):bw N k b {V with lines:=L,s0:=s}:=by
 have hd:V.bl=[]++sB V.s0:: ([sB V.s1,sB V.s2,sB V.s3,sB V.s4,sB V.s5]++(V.al.map λx=>sB x.2)++(V.aI.map λx=>sB x.2)++(V.aH.map λx=>sB x.2)):=rfl;have hin:∀i,some i∈V.bl->N<=i/\i<h.length:=λi hi=>r.o.dx hi
 have OH:=r.o.di;rw[hd]at OH;have aq:∀i,(some i∈[]\/some i∈([sB V.s1,sB V.s2,sB V.s3,sB V.s4,sB V.s5]++(V.al.map λx=>sB x.2)++(V.aI.map λx=>sB x.2)++(V.aH.map λx=>sB x.2)))->k[i]? =h[i]? :=λi hi=>by
  exact z6
 have own:cY N k {V with lines:=L,s0:=s}:=by
  refine⟨hs,(r.o.i1.ay λi hi=>aq i (.inr (by rw[<-hi];simp))),(r.o.i2.ay λi hi=>aq i (.inr (by rw[<-hi];simp))),(r.o.i3.ay λi hi=>aq i (.inr (by rw[<-hi];simp))),(r.o.i4.ay λi hi=>aq i (.inr (by rw[<-hi];simp))),(r.o.i5.ay λi hi=>aq i (.inr (by rw[<-hi];simp))),(λx hx=>(r.o.e2 x hx).ay λi hi=>aq i (.inr (by rw[<-hi];simp only[Tn,TI];exact .inl (.inl (.inr ⟨x,hx,rfl⟩))))),(λx hx=>(r.o.e3 x hx).ay λi hi=>aq i (.inr (by rw[<-hi];simp only[Tn,TI];exact .inl (.inr ⟨x,hx,rfl⟩)))),(λx hx=>(r.o.e4 x hx).ay λi hi=>aq i (.inr (by rw[<-hi];simp only[Tn,TI];exact .inr ⟨x,hx,rfl⟩))),?_⟩;have hx:∀i,sB s=some i->sB V.s0=some i\/((∀y∈[],y≠some i)/\∀y∈([sB V.s1,sB V.s2,sB V.s3,sB V.s4,sB V.s5]++(V.al.map λx=>sB x.2)++(V.aI.map λx=>sB x.2)++(V.aH.map λx=>sB x.2)),y≠some i):=λi hi=>by
   exact z8
  exact OH.uI hx
 refine⟨own,r.hN,hm,λhb=>?_⟩;have hbl:=r.lt;have Pv:=r.ne;rw[hd]at Pv;have e:{V with lines:=L,s0:=s}.bl=[]++sB s:: ([sB V.s1,sB V.s2,sB V.s3,sB V.s4,sB V.s5]++(V.al.map λx=>sB x.2)++(V.aI.map λx=>sB x.2)++(V.aH.map λx=>sB x.2)):=rfl;exact Ka
def bw.Nq(r:bw N h b V){s:AV}{L:List ui}(hs:Fr N k s 2 (L.map dW))(hn:∀i,sB s=some i->sB V.s1=some i\/h.length<=i)(hm:k[b]? =some (.cells {V with aJ:=L,s1:=s}.row true false))
  (hk:∀i,i<h.length->sB V.s1≠some i->i≠b->k[i]? =h[i]?):bw N k b {V with aJ:=L,s1:=s}:=by
 have hd:V.bl=[sB V.s0]++sB V.s1:: ([sB V.s2,sB V.s3,sB V.s4,sB V.s5]++(V.al.map λx=>sB x.2)++(V.aI.map λx=>sB x.2)++(V.aH.map λx=>sB x.2)):=rfl;have hin:∀i,some i∈V.bl->N<=i/\i<h.length:=λi hi=>r.o.dx hi
 have OH:=r.o.di;rw[hd]at OH;have aq:∀i,(some i∈[sB V.s0]\/some i∈([sB V.s2,sB V.s3,sB V.s4,sB V.s5]++(V.al.map λx=>sB x.2)++(V.aI.map λx=>sB x.2)++(V.aH.map λx=>sB x.2)))->k[i]? =h[i]? :=λi hi=>by
  exact z6
 have own:cY N k {V with aJ:=L,s1:=s}:=by
  refine⟨(r.o.i0.ay λi hi=>aq i (.inl (by rw[<-hi];simp))),hs,(r.o.i2.ay λi hi=>aq i (.inr (by rw[<-hi];simp))),(r.o.i3.ay λi hi=>aq i (.inr (by rw[<-hi];simp))),(r.o.i4.ay λi hi=>aq i (.inr (by rw[<-hi];simp))),(r.o.i5.ay λi hi=>aq i (.inr (by rw[<-hi];simp))),(λx hx=>(r.o.e2 x hx).ay λi hi=>aq i (.inr (by rw[<-hi];simp only[Tn,TI];exact .inl (.inl (.inr ⟨x,hx,rfl⟩))))),(λx hx=>(r.o.e3 x hx).ay λi hi=>aq i (.inr (by rw[<-hi];simp only[Tn,TI];exact .inl (.inr ⟨x,hx,rfl⟩)))),(λx hx=>(r.o.e4 x hx).ay λi hi=>aq i (.inr (by rw[<-hi];simp only[Tn,TI];exact .inr ⟨x,hx,rfl⟩))),?_⟩;have hx:∀i,sB s=some i->sB V.s1=some i\/((∀y∈[sB V.s0],y≠some i)/\∀y∈([sB V.s2,sB V.s3,sB V.s4,sB V.s5]++(V.al.map λx=>sB x.2)++(V.aI.map λx=>sB x.2)++(V.aH.map λx=>sB x.2)),y≠some i):=λi hi=>by
   exact z8
  exact OH.uI hx
 refine⟨own,r.hN,hm,λhb=>?_⟩;have hbl:=r.lt;have Pv:=r.ne;rw[hd]at Pv;have e:{V with aJ:=L,s1:=s}.bl=[sB V.s0]++sB s:: ([sB V.s2,sB V.s3,sB V.s4,sB V.s5]++(V.al.map λx=>sB x.2)++(V.aI.map λx=>sB x.2)++(V.aH.map λx=>sB x.2)):=rfl;exact Ka
def bw.Np(r:bw N h b V){s t:AV}{y:km}(hs:Fr N k s 3 ((V.al++[(y,t)]).map aW))(ht:Fr N k t 1 (y.aJ.map an))(hn:∀i,sB s=some i->sB V.s2=some i\/h.length<=i)(hnt:∀i,sB t=some i->h.length<=i/\sB s≠some i)
  (hm:k[b]? =some (.cells {V with al:=V.al++[(y,t)],s2:=s}.row true false))
  (hk:∀i,i<h.length->sB V.s2≠some i->i≠b->k[i]? =h[i]?):bw N k b {V with al:=V.al++[(y,t)],s2:=s}:=by
 have hd:V.bl=[sB V.s0,sB V.s1]++sB V.s2:: ([sB V.s3,sB V.s4,sB V.s5]++(V.al.map λx=>sB x.2)++(V.aI.map λx=>sB x.2)++(V.aH.map λx=>sB x.2)):=rfl;have hin:∀i,some i∈V.bl->N<=i/\i<h.length:=λi hi=>r.o.dx hi
 have OH:=r.o.di;rw[hd]at OH;have aq:∀i,(some i∈[sB V.s0,sB V.s1]\/some i∈([sB V.s3,sB V.s4,sB V.s5]++(V.al.map λx=>sB x.2)++(V.aI.map λx=>sB x.2)++(V.aH.map λx=>sB x.2)))->k[i]? =h[i]? :=λi hi=>by
  exact z6
 have own:cY N k {V with al:=V.al++[(y,t)],s2:=s}:=by
  refine⟨(r.o.i0.ay λi hi=>aq i (.inl (by rw[<-hi];simp))),(r.o.i1.ay λi hi=>aq i (.inl (by rw[<-hi];simp))),hs,(r.o.i3.ay λi hi=>aq i (.inr (by rw[<-hi];simp))),(r.o.i4.ay λi hi=>aq i (.inr (by rw[<-hi];simp))),(r.o.i5.ay λi hi=>aq i (.inr (by rw[<-hi];simp))),(λx hx=>by
   rcases Tn.1 hx with hx|hx
   ·exact(r.o.e2 x hx).ay λi hi=>aq i (.inr (by rw[<-hi];simp only[Tn,TI];exact .inl (.inl (.inr ⟨x,hx,rfl⟩))))
   ·rw[TD]at hx;subst hx;exact ht),(λx hx=>(r.o.e3 x hx).ay λi hi=>aq i (.inr (by rw[<-hi];simp only[Tn,TI];exact .inl (.inr ⟨x,hx,rfl⟩)))),(λx hx=>(r.o.e4 x hx).ay λi hi=>aq i (.inr (by rw[<-hi];simp only[Tn,TI];exact .inr ⟨x,hx,rfl⟩))),?_⟩
  have hx:∀i,sB s=some i->sB V.s2=some i\/((∀y∈[sB V.s0,sB V.s1],y≠some i)/\∀y∈([sB V.s3,sB V.s4,sB V.s5]++(V.al.map λx=>sB x.2)++(V.aI.map λx=>sB x.2)++(V.aH.map λx=>sB x.2)),y≠some i):=λi hi=>by
   exact z8
  have h1:=OH.uI hx;have h2:jS (([sB V.s0,sB V.s1,sB s,sB V.s3,sB V.s4,sB V.s5]++(V.al.map λx=>sB x.2))++((V.aI.map λx=>sB x.2)++(V.aH.map λx=>sB x.2))):=by
   have:[sB V.s0,sB V.s1]++sB s:: ([sB V.s3,sB V.s4,sB V.s5]++(V.al.map λx=>sB x.2)++(V.aI.map λx=>sB x.2)++(V.aH.map λx=>sB x.2))=([sB V.s0,sB V.s1,sB s,sB V.s3,sB V.s4,sB V.s5]++(V.al.map λx=>sB x.2))++((V.aI.map λx=>sB x.2)++(V.aH.map λx=>sB x.2)):=Si
   rw[<-this];exact h1
  have h3:=h2.ins (x:=sB t) (λi hi=>by
   obtain⟨n1,n2⟩:=hnt i hi;refine⟨λy hy e=>?_,λy hy e=>?_⟩
   ·exact J9
   ·subst e;have:=(hin i (by rw[hd];simp only[Tn,TP,Ui,UO]at hy ⊢<;>grind)).2;omega)
  have:{V with al:=V.al++[(y,t)],s2:=s}.bl=([sB V.s0,sB V.s1,sB s,sB V.s3,sB V.s4,sB V.s5]++(V.al.map λx=>sB x.2))++sB t:: ((V.aI.map λx=>sB x.2)++(V.aH.map λx=>sB x.2)):=by
   simp[RV.bl]
  rw[this];exact h3
 exact z9
def bw.No(r:bw N h b V){s t:AV}{y:jo}(hs:Fr N k s 4 ((V.aI++[(y,t)]).map aL))(ht:Fr N k t 1 (y.bt.map an))(hn:∀i,sB s=some i->sB V.s3=some i\/h.length<=i)(hnt:∀i,sB t=some i->h.length<=i/\sB s≠some i)
  (hm:k[b]? =some (.cells {V with aI:=V.aI++[(y,t)],s3:=s}.row true false))
  (hk:∀i,i<h.length->sB V.s3≠some i->i≠b->k[i]? =h[i]?):bw N k b {V with aI:=V.aI++[(y,t)],s3:=s}:=by
 have hd:V.bl=[sB V.s0,sB V.s1,sB V.s2]++sB V.s3:: ([sB V.s4,sB V.s5]++(V.al.map λx=>sB x.2)++(V.aI.map λx=>sB x.2)++(V.aH.map λx=>sB x.2)):=rfl;have hin:∀i,some i∈V.bl->N<=i/\i<h.length:=λi hi=>r.o.dx hi
 have OH:=r.o.di;rw[hd]at OH;have aq:∀i,(some i∈[sB V.s0,sB V.s1,sB V.s2]\/some i∈([sB V.s4,sB V.s5]++(V.al.map λx=>sB x.2)++(V.aI.map λx=>sB x.2)++(V.aH.map λx=>sB x.2)))->k[i]? =h[i]? :=λi hi=>by
  exact z6
 have own:cY N k {V with aI:=V.aI++[(y,t)],s3:=s}:=by
  refine⟨(r.o.i0.ay λi hi=>aq i (.inl (by rw[<-hi];simp))),(r.o.i1.ay λi hi=>aq i (.inl (by rw[<-hi];simp))),(r.o.i2.ay λi hi=>aq i (.inl (by rw[<-hi];simp))),hs,(r.o.i4.ay λi hi=>aq i (.inr (by rw[<-hi];simp))),(r.o.i5.ay λi hi=>aq i (.inr (by rw[<-hi];simp))),(λx hx=>(r.o.e2 x hx).ay λi hi=>aq i (.inr (by rw[<-hi];simp only[Tn,TI];exact .inl (.inl (.inr ⟨x,hx,rfl⟩))))),(λx hx=>by
   rcases Tn.1 hx with hx|hx
   ·exact(r.o.e3 x hx).ay λi hi=>aq i (.inr (by rw[<-hi];simp only[Tn,TI];exact .inl (.inr ⟨x,hx,rfl⟩)))
   ·rw[TD]at hx;subst hx;exact ht),(λx hx=>(r.o.e4 x hx).ay λi hi=>aq i (.inr (by rw[<-hi];simp only[Tn,TI];exact .inr ⟨x,hx,rfl⟩))),?_⟩
  have hx:∀i,sB s=some i->sB V.s3=some i\/((∀y∈[sB V.s0,sB V.s1,sB V.s2],y≠some i)/\∀y∈([sB V.s4,sB V.s5]++(V.al.map λx=>sB x.2)++(V.aI.map λx=>sB x.2)++(V.aH.map λx=>sB x.2)),y≠some i):=λi hi=>by
   exact z8
  have h1:=OH.uI hx;have h2:jS (([sB V.s0,sB V.s1,sB V.s2,sB s,sB V.s4,sB V.s5]++(V.al.map λx=>sB x.2)++(V.aI.map λx=>sB x.2))++((V.aH.map λx=>sB x.2))):=by
   have:[sB V.s0,sB V.s1,sB V.s2]++sB s:: ([sB V.s4,sB V.s5]++(V.al.map λx=>sB x.2)++(V.aI.map λx=>sB x.2)++(V.aH.map λx=>sB x.2))=([sB V.s0,sB V.s1,sB V.s2,sB s,sB V.s4,sB V.s5]++(V.al.map λx=>sB x.2)++(V.aI.map λx=>sB x.2))++((V.aH.map λx=>sB x.2)):=Si
   rw[<-this];exact h1
  have h3:=h2.ins (x:=sB t) (λi hi=>by
   obtain⟨n1,n2⟩:=hnt i hi;refine⟨λy hy e=>?_,λy hy e=>?_⟩
   ·exact J9
   ·subst e;have:=(hin i (by rw[hd];simp only[Tn,TP,Ui,UO]at hy ⊢<;>grind)).2;omega)
  have:{V with aI:=V.aI++[(y,t)],s3:=s}.bl=([sB V.s0,sB V.s1,sB V.s2,sB s,sB V.s4,sB V.s5]++(V.al.map λx=>sB x.2)++(V.aI.map λx=>sB x.2))++sB t:: ((V.aH.map λx=>sB x.2)):=by
   simp[RV.bl]
  rw[this];exact h3
 exact z9
def bw.Nn(r:bw N h b V){s t:AV}{y:mE}(hs:Fr N k s 3 ((V.aH++[(y,t)]).map bI))(ht:Fr N k t 1 (y.bQ.map aB))(hn:∀i,sB s=some i->sB V.s4=some i\/h.length<=i)(hnt:∀i,sB t=some i->h.length<=i/\sB s≠some i)
  (hm:k[b]? =some (.cells {V with aH:=V.aH++[(y,t)],s4:=s}.row true false))
  (hk:∀i,i<h.length->sB V.s4≠some i->i≠b->k[i]? =h[i]?):bw N k b {V with aH:=V.aH++[(y,t)],s4:=s}:=by
 have hd:V.bl=[sB V.s0,sB V.s1,sB V.s2,sB V.s3]++sB V.s4:: ([sB V.s5]++(V.al.map λx=>sB x.2)++(V.aI.map λx=>sB x.2)++(V.aH.map λx=>sB x.2)):=rfl;have hin:∀i,some i∈V.bl->N<=i/\i<h.length:=λi hi=>r.o.dx hi
 have OH:=r.o.di;rw[hd]at OH;have aq:∀i,(some i∈[sB V.s0,sB V.s1,sB V.s2,sB V.s3]\/some i∈([sB V.s5]++(V.al.map λx=>sB x.2)++(V.aI.map λx=>sB x.2)++(V.aH.map λx=>sB x.2)))->k[i]? =h[i]? :=λi hi=>by
  exact z6
 have own:cY N k {V with aH:=V.aH++[(y,t)],s4:=s}:=by
  refine⟨(r.o.i0.ay λi hi=>aq i (.inl (by rw[<-hi];simp))),(r.o.i1.ay λi hi=>aq i (.inl (by rw[<-hi];simp))),(r.o.i2.ay λi hi=>aq i (.inl (by rw[<-hi];simp))),(r.o.i3.ay λi hi=>aq i (.inl (by rw[<-hi];simp))),hs,(r.o.i5.ay λi hi=>aq i (.inr (by rw[<-hi];simp))),(λx hx=>(r.o.e2 x hx).ay λi hi=>aq i (.inr (by rw[<-hi];simp only[Tn,TI];exact .inl (.inl (.inr ⟨x,hx,rfl⟩))))),(λx hx=>(r.o.e3 x hx).ay λi hi=>aq i (.inr (by rw[<-hi];simp only[Tn,TI];exact .inl (.inr ⟨x,hx,rfl⟩)))),(λx hx=>by
   rcases Tn.1 hx with hx|hx
   ·exact(r.o.e4 x hx).ay λi hi=>aq i (.inr (by rw[<-hi];simp only[Tn,TI];exact .inr ⟨x,hx,rfl⟩))
   ·rw[TD]at hx;subst hx;exact ht),?_⟩
  have hx:∀i,sB s=some i->sB V.s4=some i\/((∀y∈[sB V.s0,sB V.s1,sB V.s2,sB V.s3],y≠some i)/\∀y∈([sB V.s5]++(V.al.map λx=>sB x.2)++(V.aI.map λx=>sB x.2)++(V.aH.map λx=>sB x.2)),y≠some i):=λi hi=>by
   exact z8
  have h1:=OH.uI hx;have h2:jS (([sB V.s0,sB V.s1,sB V.s2,sB V.s3,sB s,sB V.s5]++(V.al.map λx=>sB x.2)++(V.aI.map λx=>sB x.2)++(V.aH.map λx=>sB x.2))++([])):=by
   have:[sB V.s0,sB V.s1,sB V.s2,sB V.s3]++sB s:: ([sB V.s5]++(V.al.map λx=>sB x.2)++(V.aI.map λx=>sB x.2)++(V.aH.map λx=>sB x.2))=([sB V.s0,sB V.s1,sB V.s2,sB V.s3,sB s,sB V.s5]++(V.al.map λx=>sB x.2)++(V.aI.map λx=>sB x.2)++(V.aH.map λx=>sB x.2))++([]):=Si
   rw[<-this];exact h1
  have h3:=h2.ins (x:=sB t) (λi hi=>by
   obtain⟨n1,n2⟩:=hnt i hi;refine⟨λy hy e=>?_,λy hy e=>?_⟩
   ·exact J9
   ·subst e;have:=(hin i (by rw[hd];simp only[Tn,TP,Ui,UO]at hy ⊢<;>grind)).2;omega)
  have:{V with aH:=V.aH++[(y,t)],s4:=s}.bl=([sB V.s0,sB V.s1,sB V.s2,sB V.s3,sB s,sB V.s5]++(V.al.map λx=>sB x.2)++(V.aI.map λx=>sB x.2)++(V.aH.map λx=>sB x.2))++sB t:: ([]):=by
   simp[RV.bl]
  rw[this];exact h3
 exact z9
def bw.M1(r:bw N h b V){s:AV}{L:List mA}(hs:Fr N k s 4 (L.map cS))(hn:∀i,sB s=some i->sB V.s5=some i\/h.length<=i)(hm:k[b]? =some (.cells {V with aO:=L,s5:=s}.row true false))
  (hk:∀i,i<h.length->sB V.s5≠some i->i≠b->k[i]? =h[i]?):bw N k b {V with aO:=L,s5:=s}:=by
 have hd:V.bl=[sB V.s0,sB V.s1,sB V.s2,sB V.s3,sB V.s4]++sB V.s5:: ([]++(V.al.map λx=>sB x.2)++(V.aI.map λx=>sB x.2)++(V.aH.map λx=>sB x.2)):=rfl;have hin:∀i,some i∈V.bl->N<=i/\i<h.length:=λi hi=>r.o.dx hi
 have OH:=r.o.di;rw[hd]at OH;have aq:∀i,(some i∈[sB V.s0,sB V.s1,sB V.s2,sB V.s3,sB V.s4]\/some i∈([]++(V.al.map λx=>sB x.2)++(V.aI.map λx=>sB x.2)++(V.aH.map λx=>sB x.2)))->k[i]? =h[i]? :=λi hi=>by
  exact z6
 have own:cY N k {V with aO:=L,s5:=s}:=by
  refine⟨(r.o.i0.ay λi hi=>aq i (.inl (by rw[<-hi];simp))),(r.o.i1.ay λi hi=>aq i (.inl (by rw[<-hi];simp))),(r.o.i2.ay λi hi=>aq i (.inl (by rw[<-hi];simp))),(r.o.i3.ay λi hi=>aq i (.inl (by rw[<-hi];simp))),(r.o.i4.ay λi hi=>aq i (.inl (by rw[<-hi];simp))),hs,(λx hx=>(r.o.e2 x hx).ay λi hi=>aq i (.inr (by rw[<-hi];simp only[Tn,TI];exact .inl (.inl (.inr ⟨x,hx,rfl⟩))))),(λx hx=>(r.o.e3 x hx).ay λi hi=>aq i (.inr (by rw[<-hi];simp only[Tn,TI];exact .inl (.inr ⟨x,hx,rfl⟩)))),(λx hx=>(r.o.e4 x hx).ay λi hi=>aq i (.inr (by rw[<-hi];simp only[Tn,TI];exact .inr ⟨x,hx,rfl⟩))),?_⟩;have hx:∀i,sB s=some i->sB V.s5=some i\/((∀y∈[sB V.s0,sB V.s1,sB V.s2,sB V.s3,sB V.s4],y≠some i)/\∀y∈([]++(V.al.map λx=>sB x.2)++(V.aI.map λx=>sB x.2)++(V.aH.map λx=>sB x.2)),y≠some i):=λi hi=>by
   exact z8
  exact OH.uI hx
 refine⟨own,r.hN,hm,λhb=>?_⟩;have hbl:=r.lt;have Pv:=r.ne;rw[hd]at Pv;have e:{V with aO:=L,s5:=s}.bl=[sB V.s0,sB V.s1,sB V.s2,sB V.s3,sB V.s4]++sB s:: ([]++(V.al.map λx=>sB x.2)++(V.aI.map λx=>sB x.2)++(V.aH.map λx=>sB x.2)):=rfl;exact Ka
end
def qW(B:af)(b:Nat)(V:RV)(e:db)(d:Kd)(k:af):Prop:=∃g' V',k=B++g'/\bw B.length (B++g') b V'/\V'.aC=fC V.aC e d
def fM{B g:af}{b i:Nat}{V:RV}{v:AV}(hb:(B++g)[b]? =some (.b V.row))(hv:v.one=true)(hi:i<7):bB 1 (.ptr b i) v (λz=>(B++g)[z]?)=some (ar,.set b (.b (V.row.set i v))):=by
 rw[aX hb];exact dR hv (by show i+1<=7;omega)
def k7{B g:af}{b:Nat}{V:RV}(X:ai)(hN:B.length<=b)(hb:(B++g)[b]? =some (.b V.row)):(B++g).set b X=B++g.set (b-B.length) X/\(B++g.set (b-B.length) X)[b]? =some X/\∀i,i≠b->(B++g.set (b-B.length) X)[i]? =(B++g)[i]? :=by
 have h1:(B++g).set b X=B++g.set (b-B.length) X:=Ub _ _ hN;refine⟨h1,?_,λi hi=>?_⟩
 ·rw[<-h1,T2 (Th.1 hb).1]
 ·rw[<-h1,Ua (Vl hi)]
def dI{ts h}:cD [] ts h=some (.dh []):=rfl
section
variable {B g g':af}{b:Nat}{V:RV}{e:db}{d:Kd}
def IW(r:bw B.length (B++g) b V){s:AV}{L:List jx}(hff:Fr B.length (B++g') s 3 (L.map bX))(hb':∀i,sB s=some i->sB V.s0=some i\/(B++g).length<=i)(hk1:∀i,i<(B++g).length->sB V.s0≠some i->(B++g')[i]? =(B++g)[i]?)
  (hreg:{V with lines:=L,s0:=s}.aC=fC V.aC e d):qW B b V e d ((B++g').set b (.b (V.row.set 1 s))):=by
 have hbl:=r.lt;have NZ:sB V.s0≠some b:=λz=>r.ne (by rw[<-z];simp[RV.bl])
 have mB:(B++g')[b]? =some (.b V.row):=(hk1 b hbl NZ).trans r.m;obtain⟨h1,h2,h3⟩:=k7 (.b (V.row.set 1 s)) r.hN mB;have hsb:∀i,sB s=some i->i≠b:=λi hi z=>by
  exact Gs
 exact⟨_,_,h1,r.M3 (hff.ay λi hi=>h3 i (hsb i hi)) hb' h2 (λi hi hne NZ=>(h3 i NZ).trans (hk1 i hi hne)),hreg⟩
def IV(r:bw B.length (B++g) b V){s:AV}{L:List ui}(hff:Fr B.length (B++g') s 2 (L.map dW))(hb':∀i,sB s=some i->sB V.s1=some i\/(B++g).length<=i)(hk1:∀i,i<(B++g).length->sB V.s1≠some i->(B++g')[i]? =(B++g)[i]?)
  (hreg:{V with aJ:=L,s1:=s}.aC=fC V.aC e d):qW B b V e d ((B++g').set b (.b (V.row.set 2 s))):=by
 have hbl:=r.lt;have NZ:sB V.s1≠some b:=λz=>r.ne (by rw[<-z];simp[RV.bl])
 have mB:(B++g')[b]? =some (.b V.row):=(hk1 b hbl NZ).trans r.m;obtain⟨h1,h2,h3⟩:=k7 (.b (V.row.set 2 s)) r.hN mB;have hsb:∀i,sB s=some i->i≠b:=λi hi z=>by
  exact Gs
 exact⟨_,_,h1,r.Nq (hff.ay λi hi=>h3 i (hsb i hi)) hb' h2 (λi hi hne NZ=>(h3 i NZ).trans (hk1 i hi hne)),hreg⟩
def IU(r:bw B.length (B++g) b V){s t:AV}{y:km}(hff:Fr B.length (B++g') s 3 ((V.al++[(y,t)]).map aW))(ht:Fr B.length (B++g') t 1 (y.aJ.map an))(hb':∀i,sB s=some i->sB V.s2=some i\/(B++g).length<=i)(hk1:∀i,i<(B++g).length->sB V.s2≠some i->(B++g')[i]? =(B++g)[i]?)(hnt:∀i,sB t=some i->(B++g).length<=i/\sB s≠some i)
  (hreg:{V with al:=V.al++[(y,t)],s2:=s}.aC=fC V.aC e d):qW B b V e d ((B++g').set b (.b (V.row.set 3 s))):=by
 have hbl:=r.lt;have NZ:sB V.s2≠some b:=λz=>r.ne (by rw[<-z];simp[RV.bl])
 have mB:(B++g')[b]? =some (.b V.row):=(hk1 b hbl NZ).trans r.m;obtain⟨h1,h2,h3⟩:=k7 (.b (V.row.set 3 s)) r.hN mB;have hsb:∀i,sB s=some i->i≠b:=λi hi z=>by
  exact Gs
 have htb:∀i,sB t=some i->i≠b:=λi hi z=>by
  exact Ed
 exact⟨_,_,h1,r.Np (hff.ay λi hi=>h3 i (hsb i hi)) (ht.ay λi hi=>h3 i (htb i hi)) hb' hnt h2 (λi hi hne NZ=>(h3 i NZ).trans (hk1 i hi hne)),hreg⟩
def DR(r:bw B.length (B++g) b V){s t:AV}{y:jo}(hff:Fr B.length (B++g') s 4 ((V.aI++[(y,t)]).map aL))(ht:Fr B.length (B++g') t 1 (y.bt.map an))(hb':∀i,sB s=some i->sB V.s3=some i\/(B++g).length<=i)(hk1:∀i,i<(B++g).length->sB V.s3≠some i->(B++g')[i]? =(B++g)[i]?)(hnt:∀i,sB t=some i->(B++g).length<=i/\sB s≠some i)
  (hreg:{V with aI:=V.aI++[(y,t)],s3:=s}.aC=fC V.aC e d):qW B b V e d ((B++g').set b (.b (V.row.set 4 s))):=by
 have hbl:=r.lt;have NZ:sB V.s3≠some b:=λz=>r.ne (by rw[<-z];simp[RV.bl])
 have mB:(B++g')[b]? =some (.b V.row):=(hk1 b hbl NZ).trans r.m;obtain⟨h1,h2,h3⟩:=k7 (.b (V.row.set 4 s)) r.hN mB;have hsb:∀i,sB s=some i->i≠b:=λi hi z=>by
  exact Gs
 have htb:∀i,sB t=some i->i≠b:=λi hi z=>by
  exact Ed
 exact⟨_,_,h1,r.No (hff.ay λi hi=>h3 i (hsb i hi)) (ht.ay λi hi=>h3 i (htb i hi)) hb' hnt h2 (λi hi hne NZ=>(h3 i NZ).trans (hk1 i hi hne)),hreg⟩
def IT(r:bw B.length (B++g) b V){s t:AV}{y:mE}(hff:Fr B.length (B++g') s 3 ((V.aH++[(y,t)]).map bI))(ht:Fr B.length (B++g') t 1 (y.bQ.map aB))(hb':∀i,sB s=some i->sB V.s4=some i\/(B++g).length<=i)(hk1:∀i,i<(B++g).length->sB V.s4≠some i->(B++g')[i]? =(B++g)[i]?)(hnt:∀i,sB t=some i->(B++g).length<=i/\sB s≠some i)
  (hreg:{V with aH:=V.aH++[(y,t)],s4:=s}.aC=fC V.aC e d):qW B b V e d ((B++g').set b (.b (V.row.set 5 s))):=by
 have hbl:=r.lt;have NZ:sB V.s4≠some b:=λz=>r.ne (by rw[<-z];simp[RV.bl])
 have mB:(B++g')[b]? =some (.b V.row):=(hk1 b hbl NZ).trans r.m;obtain⟨h1,h2,h3⟩:=k7 (.b (V.row.set 5 s)) r.hN mB;have hsb:∀i,sB s=some i->i≠b:=λi hi z=>by
  exact Gs
 have htb:∀i,sB t=some i->i≠b:=λi hi z=>by
  exact Ed
 exact⟨_,_,h1,r.Nn (hff.ay λi hi=>h3 i (hsb i hi)) (ht.ay λi hi=>h3 i (htb i hi)) hb' hnt h2 (λi hi hne NZ=>(h3 i NZ).trans (hk1 i hi hne)),hreg⟩
def IS(r:bw B.length (B++g) b V){s:AV}{L:List mA}(hff:Fr B.length (B++g') s 4 (L.map cS))(hb':∀i,sB s=some i->sB V.s5=some i\/(B++g).length<=i)(hk1:∀i,i<(B++g).length->sB V.s5≠some i->(B++g')[i]? =(B++g)[i]?)
  (hreg:{V with aO:=L,s5:=s}.aC=fC V.aC e d):qW B b V e d ((B++g').set b (.b (V.row.set 6 s))):=by
 have hbl:=r.lt;have NZ:sB V.s5≠some b:=λz=>r.ne (by rw[<-z];simp[RV.bl])
 have mB:(B++g')[b]? =some (.b V.row):=(hk1 b hbl NZ).trans r.m;obtain⟨h1,h2,h3⟩:=k7 (.b (V.row.set 6 s)) r.hN mB;have hsb:∀i,sB s=some i->i≠b:=λi hi z=>by
  exact Gs
 exact⟨_,_,h1,r.M1 (hff.ay λi hi=>h3 i (hsb i hi)) hb' h2 (λi hi hne NZ=>(h3 i NZ).trans (hk1 i hi hne)),hreg⟩
end
section
variable {P:Program}(T:dB P) {B g:af}{b:Nat}{V:RV}{x:EV}
include T
def Lq(r:bw B.length (B++g) b V)(c:Cx (B++g) V x .line):cT P 149 [.ptr b 0,.agg x.row] (B++g) (λ_ k=>qW B b V x.ev .line k):=by
 refine .dU 22 T.mix T.c149 ?_;intro ts hlen t0 t1;unfold fn149;have hex:=@a8.box _ _ c.e;have lb:=@iL _ _ _ r.m;have i0:aV 1 x.sn (.i 0)=_:=(c.nm (i:=0) De).1;have d0:=@(c.nm (i:=0) De).2;have j1:aV 1 x.sv (.i 1)=_:=(c.vl (i:=1) De).1;have f1:=@(c.vl (i:=1) De).2.1;have q1:=(c.vl (i:=1) De).2.2;obtain⟨y,hy⟩:∃y:jx,y=⟨ba x.ev 0,bW x.ev 1,false⟩:=⟨_,rfl⟩;have PN:bX y=[.str (ba x.ev 0),.i (bW x.ev 1),.bool false]:=by rw[hy];rfl
 refine Rs (AZ t0 t1 @hex @lb @oS @bE @cB @i0 @d0 @j1 @f1) ?_;rw[<-PN];refine WR.fN (h0:=B) (cs:=V.lines.map bX) (ys:=[bX y]) (((r.o.i0).app _).app _) (Fr.push (N:=0) (TJ _) [bX y] (by simp[bX])).aN De Si (by have:=c.w.len.l0;simp;omega) Xx ?_;intro g' N1 hff hkp;have hrow:V.lines.map bX++[bX y]=(V.lines++[y]).map bX:=by rw[Tx];rfl
 rw[hrow]at hff;rw[hrow];have hbl:=r.lt;have NZ:sB V.s0≠some b:=λe=>r.ne (by rw[<-e];simp[RV.bl])
 have hk1:∀i,i<(B++g).length->sB V.s0≠some i->(B++g')[i]? =(B++g)[i]? :=λi hi hne=>by
  exact Gt
 have mB:(B++g')[b]? =some (.b V.row):=(hk1 b hbl NZ).trans r.m;have Qb:=λ(b' o n e:Nat)=>fM (i:=1) (v:=.slice b' o n e) mB rfl De
 refine Rs (A4 t0 t1 @Qb @dI) ?_;exact IW r hff (λi hi=>by cases hi;exact .inr (by simp only[Tg];omega)) hk1 (by rw[hy];rfl)
def Lp(r:bw B.length (B++g) b V)(c:Cx (B++g) V x .tape):cT P 152 [.ptr b 0,.agg x.row] (B++g) (λ_ k=>qW B b V x.ev .tape k):=by
 refine .dU 27 T.mix T.c152 ?_;intro ts hlen t0 t1;unfold fn152;have hex:=@a8.box _ _ c.e;have lb:=@iL _ _ _ r.m;have i0:aV 1 x.sn (.i 0)=_:=(c.nm (i:=0) De).1;have d0:=@(c.nm (i:=0) De).2;have j0:aV 1 x.sv (.i 0)=_:=(c.vl (i:=0) De).1;have f0:=@(c.vl (i:=0) De).2.1;have q0:=(c.vl (i:=0) De).2.2;have j1:aV 1 x.sv (.i 1)=_:=(c.vl (i:=1) De).1;have f1:=@(c.vl (i:=1) De).2.1;have q1:=(c.vl (i:=1) De).2.2;have hw:IntKind.i64.wrap (bW x.ev 0+bW x.ev 1)=bW x.ev 0+bW x.ev 1:=aR Om Om;obtain⟨y,hy⟩:∃y:ui,y=⟨ba x.ev 0,bW x.ev 0+bW x.ev 1⟩:=⟨_,rfl⟩
 have PN:dW y=[.str (ba x.ev 0),.i (bW x.ev 0+bW x.ev 1)]:=by rw[hy];rfl
 refine Rs (JQ t0 t1 @hex @lb @sP @bE @cB @hw @i0 @d0 @j0 @f0 @j1 @f1) ?_;rw[<-PN];refine WR.fN (h0:=B) (cs:=V.aJ.map dW) (ys:=[dW y]) (((r.o.i1).app _).app _) (Fr.push (N:=0) (TJ _) [dW y] (by simp[dW])).aN De Si (by have:=c.w.len.l1;simp;omega) Xx ?_;intro g' N1 hff hkp;have hrow:V.aJ.map dW++[dW y]=(V.aJ++[y]).map dW:=by rw[Tx];rfl
 rw[hrow]at hff;rw[hrow];have hbl:=r.lt;have NZ:sB V.s1≠some b:=λe=>r.ne (by rw[<-e];simp[RV.bl])
 have hk1:∀i,i<(B++g).length->sB V.s1≠some i->(B++g')[i]? =(B++g)[i]? :=λi hi hne=>by
  exact Gt
 have mB:(B++g')[b]? =some (.b V.row):=(hk1 b hbl NZ).trans r.m;have Qb:=λ(b' o n e:Nat)=>fM (i:=2) (v:=.slice b' o n e) mB rfl De
 refine Rs (A4 t0 t1 @Qb @dI) ?_;exact IV r hff (λi hi=>by cases hi;exact .inr (by simp only[Tg];omega)) hk1 (by rw[hy];rfl)
end
theorem wE:∀(l:List Int) (x:Int),(∀s∈l,-1<=s/\s<=999999999)->-16777213<x->x<16777213->-16777213<l.foldl (λx s=>(257*x+s).tmod 16777213) x/\l.foldl (λx s=>(257*x+s).tmod 16777213) x<16777213
 |[],x,_,h1,h2=>⟨h1,h2⟩
 |s::l,x,hs,h1,h2=>by
  have hb:-16777213<(257*x+s).tmod 16777213/\(257*x+s).tmod 16777213<16777213:=by
   constructor
   ·have:=Int.lt_tmod_of_pos (257*x+s) (show(0:Int)<16777213 by decide);exact this
   ·exact Vn _ De
  exact wE l _ (λt ht=>hs t (TK _ ht)) hb.1 hb.2
section
variable {P:Program}(T:dB P) {h:af}
include T
def r95{s l}(hs:aA h s 1 (l.map aB))(hl:l.length<2^30)(hb:∀s∈l,-1<=s/\s<=999999999):ao P 95 [s] h (λv _=>v=.i (ia l)):=by
 refine .mG 19 T.mix T.c95 ?_;intro ts hlen t0;unfold fn95 gA;refine Rs (A2 t0 hs.bh) ?_;refine WL.inv T.mix (λn ts h'=>∃k:Nat,k<=l.length/\n=l.length-k/\h' =h/\ts.length=19/\slot ts 3=.i (ia (l.take k))/\slot ts 6=s/\slot ts 7=.i l.length/\slot ts 8=.i k) l.length
  ⟨0,Om,rfl,rfl,Sn,my,(Sq t0),(Sq t0),my⟩ ?_
 rintro _ ts _ ⟨k,hk,rfl,rfl,hlen,t3,t6,t7,t8⟩;by_cases hlt:k<l.length
 ·have e3:=hX hlt;have ix:=hs.eX (kk:=.i64) hlt;have ld:=hs.kV (i:=k) (x:=.i l[k]) hlt rfl (Ext.refl _);have e5:=wrapN (n:=k) Om;have hd:=wE (l.take k) 1 (λs hs=>hb s (Ut hs)) De De;have PJ:=hb _ (TE hlt);have N6:-16777213<ia (l.take k)/\ia (l.take k)<16777213:=hd;have w1:IntKind.i64.wrap (257*ia (l.take k))=257*ia (l.take k):=aR Om Om;have w2:IntKind.i64.wrap (257*ia (l.take k)+l[k])=257*ia (l.take k)+l[k]:=aR Om Om;have er:=ji (k:=.i64) (a:=257*ia (l.take k)+l[k]) (b:=16777213) De;have Oy:ia (l.take (k+1))=(257*ia (l.take k)+l[k]).tmod 16777213:=by
   rw[T9,Tk hlt,ia,List.foldl_append];rfl
  rw[<-Oy]at er;refine Rs (AZ t3 t6 t7 t8 e3 ix @ld @w1 @w2 @er e5) ?_;exact⟨_,Om,k+1,Om,rfl,rfl,rfl⟩
 ·have e3:=jf hlt;have e4:k=l.length:=Om
  rw[e4,T7]at t3;exact Rs (A5 t3 t6 t7 t8 e3) Tv
end
section
variable {P:Program}(T:dB P) {B g:af}{b:Nat}{V:RV}{x:EV}
include T
def Lo(r:bw B.length (B++g) b V)(c:Cx (B++g) V x .iR):cT P 156 [.ptr b 0,.agg x.row] (B++g) (λ_ k=>qW B b V x.ev .iR k):=by
 refine .dU 27 T.mix T.c156 ?_;intro ts hlen t0 t1;unfold fn156;have hex:=@a8.box _ _ c.e;have lb:=@iL _ _ _ r.m;have i0:aV 1 x.sn (.i 0)=_:=(c.nm (i:=0) De).1;have d0:=@(c.nm (i:=0) De).2;have i1:aV 1 x.sn (.i 1)=_:=(c.nm (i:=1) De).1;have d1:=@(c.nm (i:=1) De).2;have i2:aV 1 x.sn (.i 2)=_:=(c.nm (i:=2) De).1;have d2:=@(c.nm (i:=2) De).2;obtain⟨y,hy⟩:∃y:km,y=⟨ba x.ev 0,ba x.ev 1,[ba x.ev 2]⟩:=⟨_,rfl⟩;obtain⟨t,ht⟩:∃t,t=AV.slice (B++g++[ai.b x.row]).length 0 1 1:=⟨_,rfl⟩;have OQ:Fr (B++g).length (B++g++[ai.b x.row]++[ai.cells [.str (ba x.ev 2)] true true]) t 1 (y.aJ.map an):=by
  rw[ht,hy];exact(Fr.push (h:=B++g++[ai.b x.row]) (N:=(B++g).length) Si [an (ba x.ev 2)] (by simp[an]))
 have PN:aW (y,t)=[.str (ba x.ev 0),.str (ba x.ev 1),t]:=by rw[hy];rfl
 refine Rs (GG t0 t1 @hex @lb @jB @bE @cB @i0 @d0 @i1 @d1 @i2 @d2) ?_;rw[<-ht];have ot:=OQ.aN.one;refine Rs (A7 t0 t1 @ot @lb @jB @bE @cB) ?_;rw[<-PN];refine WR.fN (h0:=B) (cs:=V.al.map aW) (ys:=[aW (y,t)]) ((((r.o.i2).app _).app _).app _) (Fr.push (N:=0) (TJ _) [aW (y,t)] (by simp[aW])).aN De Si (by have:=c.w.len.l2;simp;omega) Xx ?_;intro g' N1 hff hkp;have hrow:V.al.map aW++[aW (y,t)]=(V.al++[(y,t)]).map aW:=by rw[Tx];rfl
 rw[hrow]at hff;rw[hrow];have hbl:=r.lt;have NZ:sB V.s2≠some b:=λe=>r.ne (by rw[<-e];simp[RV.bl])
 have hk1:∀i,i<(B++g).length->sB V.s2≠some i->(B++g')[i]? =(B++g)[i]? :=λi hi hne=>by
  exact Gt
 have mB:(B++g')[b]? =some (.b V.row):=(hk1 b hbl NZ).trans r.m;have Qb:=λ(b' o n e:Nat)=>fM (i:=3) (v:=.slice b' o n e) mB rfl De
 refine Rs (A4 t0 t1 @Qb @dI) ?_;refine IU r hff ?_ (λi hi=>by cases hi;exact .inr (by simp only[Tg];omega)) hk1 ?_ ?_
 ·exact(((OQ.app _).ay λi hi=>hkp i (by have:=(OQ.bN hi).2;simp only[Tg]at this ⊢;omega) (λb0 o n e he z=>by
   have h1:=(OQ.bN hi).1;have h2:=(r.o.i2.bN (show sB V.s2=some i by rw[he,z];rfl)).2;omega)).low Si)
 ·intro i hi;exact z31
 ·rw[hy];simp[RV.aC,fC]
def Ll(r:bw B.length (B++g) b V)(c:Cx (B++g) V x .source):cT P 162 [.ptr b 0,.agg x.row] (B++g) (λ_ k=>qW B b V x.ev .source k):=by
 refine .dU 22 T.mix T.c162 ?_;intro ts hlen t0 t1;unfold fn162;have hex:=@a8.box _ _ c.e;have lb:=@iL _ _ _ r.m;have i0:aV 1 x.sn (.i 0)=_:=(c.nm (i:=0) De).1;have d0:=@(c.nm (i:=0) De).2;have i1:aV 1 x.sn (.i 1)=_:=(c.nm (i:=1) De).1;have d1:=@(c.nm (i:=1) De).2;obtain⟨y,hy⟩:∃y:jo,y=⟨ba x.ev 0,gf,ba x.ev 1,[]⟩:=⟨_,rfl⟩;obtain⟨t,ht⟩:∃t,t=AV.ah:=⟨_,rfl⟩;have PN:aL (y,t)=[.str (ba x.ev 0),.str [115,104,111,116,115],.str (ba x.ev 1),.ah]:=by rw[hy,ht];rfl
 refine Rs (AZ t0 t1 @hex @lb @kB @bE @cB @i0 @d0 @i1 @d1) ?_;rw[<-PN];refine WR.fN (h0:=B) (cs:=V.aI.map aL) (ys:=[aL (y,t)]) (((r.o.i3).app _).app _) (Fr.push (N:=0) (TJ _) [aL (y,t)] (by simp[aL])).aN De Si (by have:=c.w.len.l3;simp;omega) Xx ?_;intro g' N1 hff hkp;have hrow:V.aI.map aL++[aL (y,t)]=(V.aI++[(y,t)]).map aL:=by rw[Tx];rfl
 rw[hrow]at hff;rw[hrow];have hbl:=r.lt;have NZ:sB V.s3≠some b:=λe=>r.ne (by rw[<-e];simp[RV.bl])
 have hk1:∀i,i<(B++g).length->sB V.s3≠some i->(B++g')[i]? =(B++g)[i]? :=λi hi hne=>by
  exact Gt
 have mB:(B++g')[b]? =some (.b V.row):=(hk1 b hbl NZ).trans r.m;have Qb:=λ(b' o n e:Nat)=>fM (i:=4) (v:=.slice b' o n e) mB rfl De
 refine Rs (A4 t0 t1 @Qb @dI) ?_;refine DR r hff ?_ (λi hi=>by cases hi;exact .inr (by simp only[Tg];omega)) hk1 ?_ ?_
 ·rw[ht,hy];exact .nil
 ·intro i hi;rw[ht]at hi;cases hi
 ·rw[hy];simp[RV.aC,fC]
def Lk(r:bw B.length (B++g) b V)(c:Cx (B++g) V x .iV)(hc:cX V.aC x.ev .iV=0)(gl:Gl (B++g)):cT P 164 [.ptr b 0,.agg x.row] (B++g) (λ_ k=>qW B b V x.ev .iV k):=by
 refine .dU 30 T.mix T.c164 ?_;intro ts hlen t0 t1;unfold fn164;have hex:=@a8.box _ _ c.e;have lb:=@iL _ _ _ r.m;have i0:aV 1 x.sn (.i 0)=_:=(c.nm (i:=0) De).1;have d0:=@(c.nm (i:=0) De).2;have j1:aV 1 x.sv (.i 1)=_:=(c.vl (i:=1) De).1;have f1:=@(c.vl (i:=1) De).2.1;have q1:=(c.vl (i:=1) De).2.2;obtain⟨gmu,gtl,hg0⟩:=gl;have hn:1<=bW x.ev 1/\bW x.ev 1<=4:=by
  rw[cX]at hc;split at hc
  ·cases hc
  case isFalse hr=>exact fI hr
 have hw:IntKind.i64.wrap (bW x.ev 1-1)=bW x.ev 1-1:=aR Om Om;have a1:kD 4 2 (.ptr 0 0) (.i (bW x.ev 1-1))=some (.ptr 0 ((bW x.ev 1-1).toNat*2)):=by simp only[kD];rw[Ty Om,TZ]
 have a2:kD 2 1 (.ptr 0 ((bW x.ev 1-1).toNat*2)) (.i 1)=some (.ptr 0 ((bW x.ev 1-1).toNat*2+1)):=by simp[kD]
 have lg:∀{k:af},Ext (B++g) k->au none (.ptr 0 ((bW x.ev 1-1).toNat*2+1)) (λb=>k[b]?)=some (.str (rA (bW x.ev 1)),.aq):=by
  intro k e;exact MD
 have Ry:1<=x.ev.names.length:=by rw[c.we.nl];decide
 have hnl2:x.ev.names.length<=3:=by rw[c.we.nl];decide
 obtain⟨s',es',NI⟩:=c.e.n.HC (lo:=some (.i 1)) (hi:=none) (lY (k:=1) Ry);have et:List.take (x.ev.names.length-1) (List.drop 1 x.ev.names)=x.ev.names.drop 1:=TV Si;rw[et]at NI;obtain⟨y,hy⟩:∃y:jo,y=⟨ba x.ev 0,rA (bW x.ev 1),[],x.ev.names.drop 1⟩:=⟨_,rfl⟩;refine Rs (JP t0 t1 @hex @lb @kB @bE @cB @hw @a1 @a2 @lg @es' @i0 @d0 @j1 @f1) ?_;refine WF.res T.c177 (r177 T (NI.ext Xx) (by simp;omega)) ?_;rintro t g1 OQ;have PN:aL (y,t)=[.str (ba x.ev 0),.str (rA (bW x.ev 1)),.str [],t]:=by rw[hy];rfl
 have OQ:Fr (B++g).length (B++g++[ai.b x.row]++g1) t 1 (y.bt.map an):=by rw[hy];exact OQ.low Si
 have ot:=OQ.aN.one;refine Rs (A3 t0 t1 @ot) ?_;rw[<-PN];refine WR.fN (h0:=B) (cs:=V.aI.map aL) (ys:=[aL (y,t)]) ((((r.o.i3).app _).app _).app _) (Fr.push (N:=0) (TJ _) [aL (y,t)] (by simp[aL])).aN De Si (by have:=c.w.len.l3;simp;omega) Xx ?_;intro g' N1 hff hkp;exact z7
def Lj(r:bw B.length (B++g) b V)(c:Cx (B++g) V x .merge):cT P 166 [.ptr b 0,.agg x.row] (B++g) (λ_ k=>qW B b V x.ev .merge k):=by
 refine .dU 31 T.mix T.c166 ?_;intro ts hlen t0 t1;unfold fn166;have hex:=@a8.box _ _ c.e;have lb:=@iL _ _ _ r.m;have i0:aV 1 x.sn (.i 0)=_:=(c.nm (i:=0) De).1;have d0:=@(c.nm (i:=0) De).2;have i1:aV 1 x.sn (.i 1)=_:=(c.nm (i:=1) De).1;have d1:=@(c.nm (i:=1) De).2;have Ry:1<=x.ev.names.length:=by rw[c.we.nl];decide
 have hnl2:x.ev.names.length<=3:=by rw[c.we.nl];decide
 obtain⟨s',es',NI⟩:=c.e.n.HC (lo:=some (.i 1)) (hi:=none) (lY (k:=1) Ry);have et:List.take (x.ev.names.length-1) (List.drop 1 x.ev.names)=x.ev.names.drop 1:=TV Si;rw[et]at NI;have k1:ba x.ev 1∈jG V.aC:=c.nk.kn 1 3 rfl;refine Rs (GH t0 t1 @hex @lb @kB @bu @bE @cB @i0 @d0 @i1 @d1) ?_;refine WF.res T.c245 (r245 T (c.o.ext Xx) c.w.len k1) ?_;rintro _ g1 ⟨z,hz,hz1,rfl⟩;unfold aL;obtain⟨y,hy⟩:∃y:jo,y=⟨ba x.ev 0,(tj V.aC (ba x.ev 1)).gives,[],x.ev.names.drop 1⟩:=⟨_,rfl⟩;refine Rs (A5 t0 t1 @lb @bE @es') ?_;refine WF.res T.c177 (r177 T (NI.ext Xx) (by simp;omega)) ?_;rintro t g2 OQ;have PN:aL (y,t)=[.str (ba x.ev 0),.str z.1.gives,.str [],t]:=by rw[hy,hz1];rfl
 have OQ:Fr (B++g).length (B++g++[ai.b x.row]++g1++g2) t 1 (y.bt.map an):=by rw[hy];exact OQ.low (by simp only[Tg];omega)
 have ot:=OQ.aN.one;refine Rs (A3 t0 t1 @ot) ?_;rw[<-PN];refine WR.fN (h0:=B) (cs:=V.aI.map aL) (ys:=[aL (y,t)]) (((((r.o.i3).app _).app _).app _).app _) (Fr.push (N:=0) (TJ _) [aL (y,t)] (by simp[aL])).aN De Si (by have:=c.w.len.l3;simp;omega) Xx ?_;intro g' N1 hff hkp;exact z7
def Lf(r:bw B.length (B++g) b V)(c:Cx (B++g) V x .gK):cT P 174 [.ptr b 0,.agg x.row] (B++g) (λ_ k=>qW B b V x.ev .gK k):=by
 refine .dU 32 T.mix T.c174 ?_;intro ts hlen t0 t1;unfold fn174;have hex:=@a8.box _ _ c.e;have lb:=@iL _ _ _ r.m;have i0:aV 1 x.sn (.i 0)=_:=(c.nm (i:=0) De).1;have d0:=@(c.nm (i:=0) De).2;have i1:aV 1 x.sn (.i 1)=_:=(c.nm (i:=1) De).1;have d1:=@(c.nm (i:=1) De).2;have k1:ba x.ev 1∈hC V.aC:=c.nk.kn 1 4 rfl;refine Rs (GH t0 t1 @hex @lb @kv @bu @bE @cB @i0 @d0 @i1 @d1) ?_;refine WF.res T.c124 (r124 T (c.o.ext Xx) c.w.len k1) ?_;rintro _ g1 ⟨z,hz,hz1,rfl⟩;have hzb:=(c.w.jb z.1 (TR hz)).2;unfold bI;refine Rs (A2 t0 t1) ?_;refine WF.ce T.c95 (r95 T ((c.o.e4 z hz).ext Xx) Om hzb.2.2) λg2=>?_
 obtain⟨y,hy⟩:∃y:mA,y=⟨ba x.ev 0,ba x.ev 1,ia (fQ V.aC (ba x.ev 1)).bQ,false⟩:=⟨_,rfl⟩;have PN:cS y=[.str (ba x.ev 0),.str (ba x.ev 1),.i (ia z.1.bQ),.bool false]:=by rw[hy,hz1];rfl
 refine Rs (A2 t0 t1) ?_;rw[<-PN];refine WR.fN (h0:=B) (cs:=V.aO.map cS) (ys:=[cS y]) (((((r.o.i5).app _).app _).app _).app _) (Fr.push (N:=0) (TJ _) [cS y] (by simp[cS])).aN De Si (by have:=c.w.len.l5;simp;omega) Xx ?_;intro g' N1 hff hkp;have hrow:V.aO.map cS++[cS y]=(V.aO++[y]).map cS:=by rw[Tx];rfl
 rw[hrow]at hff;rw[hrow];have hbl:=r.lt;have NZ:sB V.s5≠some b:=λe=>r.ne (by rw[<-e];simp[RV.bl])
 have hk1:∀i,i<(B++g).length->sB V.s5≠some i->(B++g')[i]? =(B++g)[i]? :=λi hi hne=>by
  exact Gt
 have mB:(B++g')[b]? =some (.b V.row):=(hk1 b hbl NZ).trans r.m;have Qb:=λ(b' o n e:Nat)=>fM (i:=6) (v:=.slice b' o n e) mB rfl De
 refine Rs (A4 t0 t1 @Qb @dI) ?_;exact IS r hff (λi hi=>by cases hi;exact .inr (by simp only[Tg];omega)) hk1 (by rw[hy];rfl)
end
def bw.Nj{N b h k V}(r:bw N h b V){i}(hi:i<V.aH.length){y}(hy:y.name=V.aH[i].1.name/\y.mod=V.aH[i].1.mod)(hf:Fr N k V.aH[i].2 1 (y.bQ.map aB))
  (hk:∀j,j<h.length->sB V.aH[i].2≠some j->k[j]? =h[j]?):bw N k b {V with aH:=V.aH.set i (y,V.aH[i].2) }:=by
 have hin:∀j,some j∈V.bl->N<=j/\j<h.length:=λj hj=>r.o.dx hj
 have hbl:{V with aH:=V.aH.set i (y,V.aH[i].2) }.bl=V.bl:=by
  simp only[RV.bl,List.map_set];congr 1;have:sB V.aH[i].2=(V.aH.map λx=>sB x.2)[i]'(by simpa using hi):=Si
  rw[this];exact U5 _
 obtain⟨h1,h2,h3⟩:=Us.1 (show jS (([sB V.s0,sB V.s1,sB V.s2,sB V.s3,sB V.s4,sB V.s5]++(V.al.map λx=>sB x.2)++(V.aI.map λx=>sB x.2))++(V.aH.map λx=>sB x.2))from r.o.di);have Pf:sB V.aH[i].2∈V.aH.map λx=>sB x.2:=TR (f:=λx:mE×AV=>sB x.2) (TE hi)
 have kA:∀j,some j∈([sB V.s0,sB V.s1,sB V.s2,sB V.s3,sB V.s4,sB V.s5]++(V.al.map λx=>sB x.2)++(V.aI.map λx=>sB x.2))->k[j]? =h[j]? :=λj hj=>
  hk j (hin j (by rw[RV.bl];exact Tn.2 (.inl hj))).2 (h3 _ hj _ Pf j rfl)
 have k6:∀j,some j∈[sB V.s0,sB V.s1,sB V.s2,sB V.s3,sB V.s4,sB V.s5]->k[j]? =h[j]? :=λj hj=>kA j (by simp only[Tn];exact .inl (.inl hj))
 have hrow:(V.aH.set i (y,V.aH[i].2)).map bI=V.aH.map bI:=by
  rw[List.map_set];have:bI (y,V.aH[i].2)=(V.aH.map bI)[i]'(by simpa using hi):=by simp[bI,hy.1,hy.2]
  rw[this];exact U5 _
 have own:cY N k {V with aH:=V.aH.set i (y,V.aH[i].2) }:=by
  refine⟨r.o.i0.ay λj hj=>k6 j (by rw[<-hj];simp),r.o.i1.ay λj hj=>k6 j (by rw[<-hj];simp),r.o.i2.ay λj hj=>k6 j (by rw[<-hj];simp),r.o.i3.ay λj hj=>k6 j (by rw[<-hj];simp),?_,r.o.i5.ay λj hj=>k6 j (by rw[<-hj];simp),?_,?_,?_,?_⟩
  ·show Fr N k V.s4 3 ((V.aH.set i (y,V.aH[i].2)).map bI);rw[hrow];exact r.o.i4.ay λj hj=>k6 j (by rw[<-hj];simp)
  ·exactλx hx=>(r.o.e2 x hx).ay λj hj=>kA j (by rw[<-hj];simp only[Tn,TI];exact .inl (.inr ⟨x,hx,rfl⟩))
  ·exactλx hx=>(r.o.e3 x hx).ay λj hj=>kA j (by rw[<-hj];simp only[Tn,TI];exact .inr ⟨x,hx,rfl⟩)
  ·intro x hx;obtain⟨n,hn,rfl⟩:=VA hx;have Re:n<V.aH.length:=by simpa using hn
   by_cases hni:n=i
   ·subst hni;simp only[Vr];exact hf
   ·simp only[VC (Vl hni)];refine(r.o.e4 _ (TE Re)).ay λj hj=>hk j ?_ λe=>?_
    ·exact((r.o.e4 _ (TE Re)).bN hj).2
    ·have e1:(V.aH.map λx=>sB x.2)[n]'(by simpa using Re)=some j:=by simpa using hj
     have e2:(V.aH.map λx=>sB x.2)[i]'(by simpa using hi)=some j:=by simpa using e
     rcases Nat.lt_or_gt_of_ne hni with hlt|hlt
     ·exact List.pairwise_iff_getElem.1 h2 n i (by simpa using Re) (by simpa using hi) hlt j e1 e2
     ·exact List.pairwise_iff_getElem.1 h2 i n (by simpa using hi) (by simpa using Re) hlt j e2 e1
  ·show jS {V with aH:=V.aH.set i (y,V.aH[i].2) }.bl;rw[hbl];exact r.o.di
 refine⟨own,r.hN,?_,by rw[hbl];exact r.ne⟩;have:sB V.aH[i].2≠some b:=λe=>r.ne (by rw[<-e,RV.bl];exact Tn.2 (.inr Pf))
 exact(hk b r.lt this).trans r.m
section
variable {P:Program}(T:dB P) {B g:af}{b:Nat}{V:RV}{x:EV}
include T
def Lm(r:bw B.length (B++g) b V)(c:Cx (B++g) V x .accept):cT P 160 [.ptr b 0,.agg x.row] (B++g) (λ_ k=>qW B b V x.ev .accept k):=by
 refine .dU 19 T.mix T.c160 ?_;intro ts hlen t0 t1;unfold fn160 vL;have hex:=@a8.box _ _ c.e;have lb:=@iL _ _ _ r.m;have i0:aV 1 x.sn (.i 0)=_:=(c.nm (i:=0) De).1;have d0:=@(c.nm (i:=0) De).2;have hn:ba x.ev 0∈jy V.aC:=c.nk.kn 0 0 rfl;have hlt:bC (jy V.aC) (ba x.ev 0)<V.lines.length:=by have:=dS hn;simpa [jy,RV.aC]using this
 have ei:dM (λy:jx=>decide (y.name=ba x.ev 0)) V.lines=(bC (jy V.aC) (ba x.ev 0):Int):=iY (f:=jx.name) hn;have ix:aV 3 V.s0 (.i (bC (jy V.aC) (ba x.ev 0):Int))=some (dG V.s0 3 (bC (jy V.aC) (ba x.ev 0)),.aq):=c.o.i0.eX hlt;have sp:fk V.aC (ba x.ev 0)=V.lines[bC (jy V.aC) (ba x.ev 0)]:=fp hn;refine Rs (A8 t0 t1 @hex @lb @oS @bE @i0 @d0) ?_;refine WF.ce T.c142 (r142 T (c.o.i0.ext Xx) (by have:=c.w.len.l0;omega) _) λg1=>?_
 rw[ei];refine Rs (A3 t0 t1 ix) ?_;rw[Ti B g,Ti B];refine WR.rm (h0:=B) (x':={V.lines[bC (jy V.aC) (ba x.ev 0)]with acc:=true}) (by rw[<-Ti,<-Ti];exact(r.o.i0.app _).app _) hlt De rfl rfl ?_;intro g' N1 hff hkp;have hbl:=r.lt;have NZ:sB V.s0≠some b:=λe=>r.ne (by rw[<-e];simp[RV.bl])
 have hk1:∀i,i<(B++g).length->sB V.s0≠some i->(B++g')[i]? =(B++g)[i]? :=λi hi hne=>by
  rw[hkp i (λb0 o n e he z=>hne (by rw[he,z];rfl)),<-Ti,<-Ti];exact J6
 refine Rs (A3 t0 t1 @dI) ?_;refine⟨g',{V with lines:=V.lines.set (bC (jy V.aC) (ba x.ev 0)) {V.lines[bC (jy V.aC) (ba x.ev 0)]with acc:=true},s0:=V.s0},rfl,r.M3 hff (λi hi=>.inl hi) ((hk1 b hbl NZ).trans r.m) (λi hi h1 _=>hk1 i hi h1),?_⟩;simp only[fC,sp];rfl
def Le(r:bw B.length (B++g) b V)(c:Cx (B++g) V x .rel):cT P 176 [.ptr b 0,.agg x.row] (B++g) (λ_ k=>qW B b V x.ev .rel k):=by
 refine .dU 19 T.mix T.c176 ?_;intro ts hlen t0 t1;unfold fn176 vL;have hex:=@a8.box _ _ c.e;have lb:=@iL _ _ _ r.m;have i0:aV 1 x.sn (.i 0)=_:=(c.nm (i:=0) De).1;have d0:=@(c.nm (i:=0) De).2;have hn:ba x.ev 0∈kP V.aC:=c.nk.kn 0 5 rfl;have hlt:bC (kP V.aC) (ba x.ev 0)<V.aO.length:=by have:=dS hn;simpa [kP,RV.aC]using this
 have ei:dM (λy:mA=>decide (y.name=ba x.ev 0)) V.aO=(bC (kP V.aC) (ba x.ev 0):Int):=iY (f:=mA.name) hn;have ix:aV 4 V.s5 (.i (bC (kP V.aC) (ba x.ev 0):Int))=some (dG V.s5 4 (bC (kP V.aC) (ba x.ev 0)),.aq):=c.o.i5.eX hlt;have sp:lH V.aC (ba x.ev 0)=V.aO[bC (kP V.aC) (ba x.ev 0)]:=fp hn;refine Rs (A8 t0 t1 @hex @lb @kv @bE @i0 @d0) ?_;refine WF.ce T.c146 (r146 T (c.o.i5.ext Xx) (by have:=c.w.len.l5;omega) _) λg1=>?_
 rw[ei];refine Rs (A3 t0 t1 ix) ?_;rw[Ti B g,Ti B];refine WR.rm (h0:=B) (x':={V.aO[bC (kP V.aC) (ba x.ev 0)]with rel:=true}) (by rw[<-Ti,<-Ti];exact(r.o.i5.app _).app _) hlt De rfl rfl ?_;intro g' N1 hff hkp;have hbl:=r.lt;have NZ:sB V.s5≠some b:=λe=>r.ne (by rw[<-e];simp[RV.bl])
 have hk1:∀i,i<(B++g).length->sB V.s5≠some i->(B++g')[i]? =(B++g)[i]? :=λi hi hne=>by
  rw[hkp i (λb0 o n e he z=>hne (by rw[he,z];rfl)),<-Ti,<-Ti];exact J6
 refine Rs (A3 t0 t1 @dI) ?_;refine⟨g',{V with aO:=V.aO.set (bC (kP V.aC) (ba x.ev 0)) {V.aO[bC (kP V.aC) (ba x.ev 0)]with rel:=true},s5:=V.s5},rfl,r.M1 hff (λi hi=>.inl hi) ((hk1 b hbl NZ).trans r.m) (λi hi h1 _=>hk1 i hi h1),?_⟩;simp only[fC,sp];rfl
def IN(r:bw B.length (B++g) b V){d}(c:Cx (B++g) V x d)(hd:1<cO d)(h0:0<(bV d).length)(hn:ba x.ev 0∈hC V.aC)(hlt1:bW x.ev 1<(fQ V.aC (ba x.ev 0)).bQ.length)(s:Int):
  cT P 250 [.ptr b 0,.agg x.row,.i s] (B++g) (λ_ k=>∃g' V',k=B++g'/\bw B.length (B++g') b V'/\V'.aC={V.aC with aH:=oO V.aC x.ev s}):=by
 refine .ue 28 T.mix T.c250 ?_;intro ts hlen t0 t1 t2;unfold fn250;have hex:=@a8.box _ _ c.e;have lb:=@iL _ _ _ r.m;have i0:aV 1 x.sn (.i 0)=_:=(c.nm (i:=0) h0).1;have d0:=@(c.nm (i:=0) h0).2;have j1:aV 1 x.sv (.i 1)=_:=(c.vl (i:=1) hd).1;have f1:=@(c.vl (i:=1) hd).2.1;have q1:=(c.vl (i:=1) hd).2.2;have hlt:bC (hC V.aC) (ba x.ev 0)<V.aH.length:=by have:=dS hn;simpa [hC,RV.aC]using this
 have ei:dM (λy:mE×AV=>decide (y.1.name=ba x.ev 0)) V.aH=(bC (hC V.aC) (ba x.ev 0):Int):=(iY (f:=λy:mE×AV=>y.1.name) (by rw[<-jF];exact hn)).trans (by rw[jF]);have ix:aV 3 V.s4 (.i (bC (hC V.aC) (ba x.ev 0):Int))=some (dG V.s4 3 (bC (hC V.aC) (ba x.ev 0)),.aq):=c.o.i4.eX hlt;have sp:(V.aH[bC (hC V.aC) (ba x.ev 0)]).1=fQ V.aC (ba x.ev 0):=by
  have:=fp (f:=mE.name) (l:=V.aC.aH) (n:=ba x.ev 0) (d:=zH) hn;rw[show fQ V.aC (ba x.ev 0)=_ from this];exact Bc
 obtain⟨p,hp⟩:∃p,p=bC (hC V.aC) (ba x.ev 0):=⟨_,rfl⟩;rw[<-hp]at ei ix;have hlt:p<V.aH.length:=by rw[hp];exact hlt
 have sp:V.aH[p].1=fQ V.aC (ba x.ev 0):=by rw[<-sp];congr 2
 have l2:∀{k:af},Ext (B++g) k->au none (Gy V.s4 3 p 2) (λb=>k[b]?)=some (V.aH[p].2,.aq):=λ{k} e=>c.o.i4.M6 hlt rfl e
 have oj:=r.o.e4 _ (TE hlt);have hsl:(bW x.ev 1).toNat<V.aH[p].1.bQ.length:=by rw[sp];omega
 have ev1:bW x.ev 1=((bW x.ev 1).toNat:Int):=Om
 have iy:aV 1 V.aH[p].2 (.i (bW x.ev 1))=some (dG V.aH[p].2 1 (bW x.ev 1).toNat,.aq):=by
  rw[ev1];exact oj.aN.eX hsl
 refine Rs (A9 t0 t1 t2 @hex @lb @qm @bE @i0 @d0) ?_;refine WF.ce T.c145 (r145 T (c.o.i4.ext Xx) c.o.gB.2.2 (by have:=c.w.len.l4;omega) _) λg1=>?_
 rw[ei];refine Rs (A9 t0 t1 t2 ix @l2 @cB @j1 @f1 @iy) ?_;rw[Ti B g,Ti B];have Sg:dG V.aH[p].2 1 (bW x.ev 1).toNat=Gy V.aH[p].2 1 (bW x.ev 1).toNat 0:=rfl;rw[Sg];refine WR.rm (h0:=B) (x':=s) (row:=aB) (L:=V.aH[p].1.bQ) (by rw[<-Ti,<-Ti];exact(oj.app _).app _) hsl De rfl rfl ?_;intro g' N1 hff hkp;have hk1:∀i,i<(B++g).length->sB V.aH[p].2≠some i->(B++g')[i]? =(B++g)[i]? :=λi hi hne=>by
  rw[hkp i (λb0 o n e he z=>hne (by rw[he,z];rfl)),<-Ti,<-Ti];exact J6
 refine Rs (A4 t0 t1 t2 @dI) ?_;refine⟨g',{V with aH:=V.aH.set p ({V.aH[p].1 with bQ:=V.aH[p].1.bQ.set (bW x.ev 1).toNat s},V.aH[p].2) },rfl,r.Nj hlt ⟨rfl,rfl⟩ hff hk1,?_⟩;have e:oO V.aC x.ev s=(V.aH.set p ({V.aH[p].1 with bQ:=V.aH[p].1.bQ.set (bW x.ev 1).toNat s},V.aH[p].2)).map Prod.fst:=by
  rw[oO,<-hp,<-sp,List.map_set];rfl
 rw[e];rfl
def Lh(r:bw B.length (B++g) b V)(c:Cx (B++g) V x .gJ)(hc:cX V.aC x.ev .gJ=0):cT P 170 [.ptr b 0,.agg x.row] (B++g) (λ_ k=>qW B b V x.ev .gJ k):=by
 refine .dU 11 T.mix T.c170 ?_;intro ts hlen t0 t1;unfold fn170 gA;have hex:=@a8.box _ _ c.e;have j2:aV 1 x.sv (.i 2)=_:=(c.vl (i:=2) De).1;have f2:=@(c.vl (i:=2) De).2.1;have k0:ba x.ev 0∈hC V.aC:=c.nk.kn 0 4 rfl;have hlt:bW x.ev 1<(fQ V.aC (ba x.ev 0)).bQ.length:=by
  exact MJ
 refine Rs (A7 t0 t1 @hex @cA @cB @j2 @f2) ?_;rw[Ti B g];refine WF.gen T.c250 (IN T (B:=B) (by rw[<-Ti];exact r.app _) (by rw[<-Ti];exact c.ext Xx) De De k0 hlt (bW x.ev 2)) ?_;rintro _ _ ⟨g',V',rfl,h1,h2⟩;exact GO
def Lg(r:bw B.length (B++g) b V)(c:Cx (B++g) V x .fail)(hc:cX V.aC x.ev .fail=0):cT P 172 [.ptr b 0,.agg x.row] (B++g) (λ_ k=>qW B b V x.ev .fail k):=by
 refine .dU 7 T.mix T.c172 ?_;intro ts hlen t0 t1;unfold fn172 gA;have hex:=@a8.box _ _ c.e;have k0:ba x.ev 0∈hC V.aC:=c.nk.kn 0 4 rfl;have hlt:bW x.ev 1<(fQ V.aC (ba x.ev 0)).bQ.length:=by
  exact MJ
 refine Rs (A4 t0 t1 @hex @cA) ?_;rw[Ti B g];refine WF.gen T.c250 (IN T (B:=B) (by rw[<-Ti];exact r.app _) (by rw[<-Ti];exact c.ext Xx) De De k0 hlt (-1)) ?_;rintro _ _ ⟨g',V',rfl,h1,h2⟩;exact GO
end
def uu{k:Nat}(hk:k<=32):dm .and (.int .u64 (k:Int)) (.int .u64 4294967295)=some (.int .u64 (k:Int))/\dm .shr (.int .u64 (k:Int)) (.int .u64 32)=some (.int .u64 0):=by
 have:k=0\/k=1\/k=2\/k=3\/k=4\/k=5\/k=6\/k=7\/k=8\/k=9\/k=10\/k=11\/k=12\/k=13\/k=14\/k=15\/k=16\/k=17\/k=18\/k=19\/k=20\/k=21\/k=22\/k=23\/k=24\/k=25\/k=26\/k=27\/k=28\/k=29\/k=30\/k=31\/k=32:=Om
 rcases this with rfl|rfl|rfl|rfl|rfl|rfl|rfl|rfl|rfl|rfl|rfl|rfl|rfl|rfl|rfl|rfl|rfl|rfl|rfl|rfl|rfl|rfl|rfl|rfl|rfl|rfl|rfl|rfl|rfl|rfl|rfl|rfl|rfl<;>exact⟨rfl,rfl⟩
def xz:dm .and (.int .u64 0) (.int .u64 4294967295)=some (.int .u64 0)/\dm .shr (.int .u64 0) (.int .u64 32)=some (.int .u64 0):=⟨rfl,rfl⟩
def zF:dm .and (.int .u64 1) (.int .u64 4294967295)=some (.int .u64 1)/\dm .shr (.int .u64 1) (.int .u64 32)=some (.int .u64 0):=⟨rfl,rfl⟩
def FT{x y:cC}{ρ:cC->AV}{h:af}{b o n m N:Nat}{c:List AV}{tl:Bool}(hx:ρ x=.slice b o n 1)(hy:ρ y=.slice b 0 m 1)(hb:h[b]? =some (.cells c true tl))(hn:o+n<=c.length)(hm:m<=c.length)(h0:0<min m n):
  stepT (.wL 1 x y) ρ (λz=>h[z]?) N=some (.i (min m n:Nat),.set b (.cells (eJ c o (c.take (min m n))) true tl)):=by
 have hc:dO 1 (λz=>h[z]?) (ρ y)=some (c.take m,m):=by
  rw[hy];simp only[dO,TQ,hb,TZ,Vg,UF];rw[Ty hm]
 have e:stepT (.wL 1 x y) ρ (λz=>h[z]?) N=(match ρ x,dO 1 (λz=>h[z]?) (ρ y)with
  |.slice b o n es',some (ys,k)=>
   if es' =1 then
    if min k n=0 then some (.i 0,.aq)
    else
     match h[b]? with
     |some (.cells c true tl)=>if o+min k n*1<=c.length then some (.i (min k n:Nat),.set b (.cells (eJ c o (ys.take (min k n*1))) true tl))else none
     |_=>none
   else none
  |.ah,some _=>some (.i 0,.aq)
  |_,_=>none):=rfl
 rw[e,hc,hx];simp only[TQ,hb,Vg];rw[Tt Om,Ty Om,List.take_take,U3 (Nat.min_le_left _ _)]
def Ci{x y ρ h b n N c v tl}(hx:ρ x=.slice b 0 n 1)(hy:aA h (ρ y) 1 [[v]])(hb:h[b]? =some (.cells c true tl))(hn:c.length=n)(h0:0<n):
  stepT (.wL 1 x y) ρ (λz=>h[z]?) N=some (.i 1,.set b (.cells (c.set 0 v) true tl)):=by
 have hc:=hy.dO;have e:stepT (.wL 1 x y) ρ (λz=>h[z]?) N=(match ρ x,dO 1 (λz=>h[z]?) (ρ y)with
  |.slice b o n es',some (ys,k)=>
   if es' =1 then
    if min k n=0 then some (.i 0,.aq)
    else
     match h[b]? with
     |some (.cells c true tl)=>if o+min k n*1<=c.length then some (.i (min k n:Nat),.set b (.cells (eJ c o (ys.take (min k n*1))) true tl))else none
     |_=>none
   else none
  |.ah,some _=>some (.i 0,.aq)
  |_,_=>none):=rfl
 have hm:min 1 n=1:=Om
 rw[e,hc,hx];simp only[TQ,hb,TC,hm,Vg];rw[Tt De,Ty Om];rfl
def y6{v z c m k}(hm:c+m<=k):eJ (List.replicate c v++List.replicate (k-c) z) c (List.replicate m v)=List.replicate (c+m) v++List.replicate (k-(c+m)) z:=by
 induction m generalizing c with
 |zero=>rfl
 |succ m ih=>
  rw[UN,mL];have hk:k-c=(k-(c+1))+1:=Om
  have e:(List.replicate c v++List.replicate (k-c) z).set c v=List.replicate (c+1) v++List.replicate (k-(c+1)) z:=by
   rw[Ub _ _ Si,Up,Uf,hk,UN,List.set_cons_zero,List.replicate_succ',Ti];rfl
  rw[e,ih Om];congr 2<;>omega
def yW{v z:AV}{c m k:Nat}(hm:m<=c):(List.replicate c v++List.replicate (k-c) z).take m=List.replicate m v:=by
 rw[List.take_append_of_le_length (by simpa using hm),List.take_replicate,U3 hm]
section
variable {P:Program}(T:dB P) {h:af}
include T
def r286{k:Nat}(hk:k<=32):ao P 286 [.int .u64 1,.int .u64 (k:Int)] h (λv _=>v=.dh [.int .u64 0,.int .u64 (k:Int)]):=by
 refine .dU 51 T.mix T.c286 ?_;intro ts hlen t0 t1;unfold fn286 gA;obtain⟨a1,a2⟩:=uu hk;obtain⟨b1,b2⟩:=xz;obtain⟨c1,c2⟩:=zF;have w1:IntKind.u64.wrap (1*(k:Int))=(k:Int):=by rw[Int.one_mul];exact vF Om Om
 have w2:IntKind.u64.wrap (0*(k:Int))=0:=by rw[Int.zero_mul];rfl
 have w3:IntKind.u64.wrap (0+0)=0:=rfl;have w4:IntKind.u64.wrap (1*0)=0:=rfl;have w5:IntKind.u64.wrap (0*0)=0:=rfl;exact Rs (GG t0 t1 @a1 @a2 @b1 @b2 @c1 @c2 @w1 @w2 @w3 @w4 @w5) Tv
def r267{k:Nat}(hk:k<=32):ao P 267 [.int .u64 1,.int .u64 (k:Int)] h (λv _=>v=.dh [.int .u64 0,.int .u64 (k:Int)]):=by
 refine .dU 30 T.mix T.c267 ?_;intro ts hlen t0 t1;unfold fn267 gA;refine Rs (A2 t0 t1) ?_;refine WF.ce T.c286 (r286 T hk) λg1=>?_
 exact Rs (A2 t0 t1) Tv
def r248{s:AV}(hs:aA h s 1 (([-1] :List Int).map aB)){k:Nat}(hk:k<=32)(hk0:0<k):ao P 248 [s,.i (k:Int)] h (λv h'=>Fr h.length h' v 1 ((List.replicate k (-1:Int)).map aB)):=by
 refine .dU 48 T.mix T.c248 ?_;intro ts hlen t0 t1;unfold fn248 gA;have q0:decide ((k:Int)<0)=false:=Tm Om;have QP:=λG=>hs.bh G
 have c1:IntKind.u64.wrap ((([-1] :List Int).length:Nat):Int)=1:=rfl;have c2:IntKind.u64.wrap (k:Int)=(k:Int):=vF Om Om;have q1:decide ((0:Int)<0)=false:=rfl;have q2:decide ((9223372036854775807:Int)<(k:Int))=false:=Tm Om;have c3:IntKind.i64.wrap (k:Int)=(k:Int):=aR Om Om;have mk:∀{N:Nat},qz 1 8 [AV.i 0] (.i (k:Int)) (.i (k:Int)) N=some (.slice N 0 k 1,.push (.cells (cZ k [AV.i 0]) true true)):=lK Om Om;refine Rs (A6 t0 t1 q0 @QP @c1 @c2) ?_;refine WF.ce T.c267 (r267 T hk) λg1=>?_
 refine Rs (A6 t0 t1 q1 q2 @c3 @mk) ?_;rw[Ci (b:=(h++g1).length) (n:=k) (v:=.i (-1)) (c:=cZ k [AV.i 0]) (tl:=true)]
 rotate_left
 ·exact(Sq t0)
 ·have:aA (h++g1++[ai.cells (cZ k [AV.i 0]) true true]) s 1 [[AV.i (-1)]]:=hs.ext Xx;refine Zs t0 ?_;exact this
 ·exact bF
 ·rw[jT,Vb];simp
 ·exact hk0
 have hz:(cZ k [AV.i 0]).set 0 (.i (-1))=List.replicate 1 (AV.i (-1))++List.replicate (k-1) (AV.i 0):=by
  rw[jT,Vb];obtain⟨n,rfl⟩:∃n,k=n+1:=⟨k-1,Om⟩;rw[UN,List.set_cons_zero];rfl
 rw[hz];refine Rs (A2 t0 t1) ?_;obtain⟨b0,O8⟩:∃b0,b0=(h++g1).length:=⟨_,rfl⟩;rw[<-O8];have hN:h.length<=b0:=by rw[O8];simp
 refine WL.inv T.mix (λn ts h'=>∃c:Nat,1<=c/\c<=k/\n=k-c/\h' =h++g1++[ai.cells (List.replicate c (AV.i (-1))++List.replicate (k-c) (AV.i 0)) true true]/\ts.length=48/\slot ts 7=.slice b0 0 k 1/\slot ts 8=.i (c:Int)) (k-1)
  ⟨1,Om,Om,rfl,rfl,Sn,(Sq t0),my⟩ ?_
 rintro _ ts _ ⟨c,h1,h2,rfl,rfl,hlen,t7,t8⟩;have hb:(h++g1++[ai.cells (List.replicate c (AV.i (-1))++List.replicate (k-c) (AV.i 0)) true true])[b0]? =some (.cells (List.replicate c (AV.i (-1))++List.replicate (k-c) (AV.i 0)) true true):=by rw[O8];exact bF
 have hln:∀G:Nat->Option ai,gZ .sl G (.slice b0 0 k 1)=some k:=λ_=>rfl
 by_cases hlt:c<k
 ·have e3:decide ((c:Int)<(k:Int))=true:=Tq Om;have s1:yx 1 (.slice b0 0 k 1) (some (.i (c:Int))) none=some (.slice b0 c (k-c) 1,.aq):=by
   simp only[yx,TQ,lY (kk:=.i64) h2,Vg,TZ]
  have s2:yx 1 (.slice b0 0 k 1) none (some (.i (c:Int)))=some (.slice b0 0 c 1,.aq):=by
   simp only[yx,TQ,kf (kk:=.i64) h2,Vg,TZ,Nat.sub_zero]
  refine Rs (A6 t7 t8 @hln e3 @s1 @s2) ?_;rw[FT (b:=b0) (o:=c) (n:=k-c) (m:=c) (c:=List.replicate c (AV.i (-1))++List.replicate (k-c) (AV.i 0)) (tl:=true)]
  rotate_left
  ·exact(Sq t7)
  ·exact(Sq t7)
  ·exact hb
  ·exact GY
  ·exact GY
  ·omega
  rw[yW (Nat.min_le_left _ _),y6 Om];have bp:∀X:ai,(h++g1++[ai.cells (List.replicate c (AV.i (-1))++List.replicate (k-c) (AV.i 0)) true true]).set b0 X=h++g1++[X]:=λX=>by rw[O8];exact y5
  have hw:IntKind.i64.wrap ((c:Int)+((min c (k-c):Nat):Int))=((c+min c (k-c):Nat):Int):=by rw[aR Om Om];rfl
  refine Rs (A4 t7 t8 @bp @hw) ?_;exact⟨_,Om,c+min c (k-c),Om,Om,rfl,rfl,rfl⟩
 ·have e3:decide ((c:Int)<(k:Int))=false:=Tm Om;have e4:c=k:=Om
  refine Rs (A4 t7 t8 @hln e3) ?_;have Of:(List.replicate c (AV.i (-1))++List.replicate (k-c) (AV.i 0))=((List.replicate k (-1:Int)).map aB).flatten:=by
   rw[e4,Uf,VB,TH,List.map_replicate,Vb]
  have hlr:((List.replicate k (-1:Int)).map aB).length=k:=Si
  rw[Of]at hb;have:=Fr.mk (N:=h.length) (es:=1) (cs:=(List.replicate k (-1:Int)).map aB) (b:=b0) (tl:=true) hN hb Si;rw[hlr]at this;rw[Of];exact this
end
section
variable {P:Program}(T:dB P) {B g:af}{b:Nat}{V:RV}{x:EV}
include T
def Li(r:bw B.length (B++g) b V)(c:Cx (B++g) V x .run)(hc:cX V.aC x.ev .run=0):cT P 168 [.ptr b 0,.agg x.row] (B++g) (λ_ k=>qW B b V x.ev .run k):=by
 refine .dU 28 T.mix T.c168 ?_;intro ts hlen t0 t1;unfold fn168;have hex:=@a8.box _ _ c.e;have lb:=@iL _ _ _ r.m;have i0:aV 1 x.sn (.i 0)=_:=(c.nm (i:=0) De).1;have d0:=@(c.nm (i:=0) De).2;have i1:aV 1 x.sn (.i 1)=_:=(c.nm (i:=1) De).1;have d1:=@(c.nm (i:=1) De).2;have j1:aV 1 x.sv (.i 1)=_:=(c.vl (i:=1) De).1;have f1:=@(c.vl (i:=1) De).2.1;have q1:=(c.vl (i:=1) De).2.2;have hn:1<=bW x.ev 1/\bW x.ev 1<=32:=by
  rw[cX]at hc;split at hc
  ·cases hc
  split at hc
  ·cases hc
  case isFalse hr=>exact fI hr
 obtain⟨k,hk⟩:∃k:Nat,bW x.ev 1=(k:Int):=⟨(bW x.ev 1).toNat,Om⟩;rw[hk]at f1;obtain⟨y,hy⟩:∃y:mE,y=⟨ba x.ev 0,ba x.ev 1,List.replicate k (-1)⟩:=⟨_,rfl⟩;refine Rs (GG t0 t1 @hex @lb @qm @bE @cB @i0 @d0 @i1 @d1 @j1 @f1) ?_;refine WF.res T.c248 (r248 T (s:=.slice (B++g++[ai.b x.row]).length 0 1 1) (k:=k) (bG [-1]) Om Om) ?_;rintro t g1 OQ;have PN:bI (y,t)=[.str (ba x.ev 0),.str (ba x.ev 1),t]:=by rw[hy];rfl
 have OQ:Fr (B++g).length (B++g++[ai.b x.row]++[ai.cells [AV.i (-1)] true true]++g1) t 1 (y.bQ.map aB):=by rw[hy];exact OQ.low (by simp only[Tg,TC];omega)
 have ot:=OQ.aN.one;refine Rs (A3 t0 t1 @ot) ?_;rw[<-PN];refine WR.fN (h0:=B) (cs:=V.aH.map bI) (ys:=[bI (y,t)]) (((((r.o.i4).app _).app _).app _).app _) (Fr.push (N:=0) (TJ _) [bI (y,t)] (by simp[bI])).aN De Si (by have:=c.w.len.l4;simp;omega) Xx ?_;intro g' N1 hff hkp;have hrow:V.aH.map bI++[bI (y,t)]=(V.aH++[(y,t)]).map bI:=by rw[Tx];rfl
 rw[hrow]at hff;rw[hrow];have hbl:=r.lt;have NZ:sB V.s4≠some b:=λe=>r.ne (by rw[<-e];simp[RV.bl])
 have hk1:∀i,i<(B++g).length->sB V.s4≠some i->(B++g')[i]? =(B++g)[i]? :=λi hi hne=>by
  exact Gt
 have mB:(B++g')[b]? =some (.b V.row):=(hk1 b hbl NZ).trans r.m;have Qb:=λ(b' o n e:Nat)=>fM (i:=5) (v:=.slice b' o n e) mB rfl De
 refine Rs (A4 t0 t1 @Qb @dI) ?_;refine IT r hff ?_ (λi hi=>by cases hi;exact .inr (by simp only[Tg,TC];omega)) hk1 ?_ ?_
 ·refine Fr.low (N:=(B++g).length) ((show Fr (B++g).length _ t 1 _ from OQ.app _).ay λi hi=>hkp i ?_ (λb0 o n e he z=>?_)) Si
  ·have:=(OQ.bN hi).2;simp only[Tg,TC]at this ⊢;omega
  ·have h1:=(OQ.bN hi).1;have h2:=(r.o.i4.bN (show sB V.s4=some i by rw[he,z];rfl)).2;omega
 ·intro i hi;exact z31
 ·have e:(bW x.ev 1).toNat=k:=Om
  rw[hy];simp[RV.aC,fC,e]
end
end Go.Abs
namespace Go.Abs
section
variable {P:Program}{ro:Option Nat->Prop}{ks:List Kt}{ts:TS}{h:af}{Q:Ex->TS->af->Prop}{S:af->Prop}{K:TS->af->Prop}{l:List aZ}
def wZ(S:af->Prop)(H:WM P S l ts h (kq P ro ks Q .normal)):WC P ro (.lI l) ks ts h Q:=⟨S,H⟩
def fg{o}(hS:S h)(hl:kC o=false)(hn:iW (o::l)=false)(H:WP P bS [o] [] ts h (λ_ O3 h1=>WM P S l O3 h1 K)):WM P S (o::l) ts h K:=⟨hS,.inr ⟨hn,.inr ⟨hl,H⟩⟩⟩
def wX{o}(hS:S h)(hl:iW (o::l)=true)(H:WP P ro (o::l) ks ts h Q):WM P S (o::l) ts h (kq P ro ks Q .normal):=⟨hS,.inl ⟨hl,H⟩⟩
def qU{n a d v}(hS:S h)(hv:∀g,S g->au n (val ts a) (λb=>g[b]?)=some (v,.aq))(H:WM P S l (put ts d v) h K)(hn:iW (({dst:=d,k:=.load n a,gd:=none,q:=true}:aZ)::l)=false:=by rfl):WM P S ({dst:=d,k:=.load n a,gd:=none,q:=true} ::l) ts h K:=by
 refine⟨hS,.inr ⟨hn,.inl ⟨rfl,v,λg hg=>?_,H⟩⟩⟩;refine cQ.run trivial ?_ ?_
 ·cases d<;>trivial
 ·have h1:stepT (.load n a) (val ts) (λb=>g[b]?) g.length=some (v,.aq):=hv g hg;exact lu h1
end
def bw.Ni{N b h k V}(r:bw N h b V){i}(hi:i<V.al.length){y t}(hs:Fr N k V.s2 3 ((V.al.set i (y,t)).map aW))(ht:Fr N k t 1 (y.aJ.map an))(hnt:∀j,sB t=some j->h.length<=j)
  (hk:∀j,j<h.length->sB V.s2≠some j->sB V.al[i].2≠some j->k[j]? =h[j]?):bw N k b {V with al:=V.al.set i (y,t) }:=by
 have hin:∀j,some j∈V.bl->N<=j/\j<h.length:=λj hj=>r.o.dx hj
 let l1:List (Option Nat):=[sB V.s0,sB V.s1,sB V.s2,sB V.s3,sB V.s4,sB V.s5]++(V.al.take i).map λx=>sB x.2
 let l2:List (Option Nat):=(V.al.drop (i+1)).map (λx=>sB x.2)++(V.aI.map λx=>sB x.2)++(V.aH.map λx=>sB x.2)
 have hV:V.bl=l1++sB V.al[i].2::l2:=by
  have e:V.al=V.al.take i++V.al[i]::V.al.drop (i+1):=by rw[<-U9 hi,Uz]
  have e2:(V.al.map λx=>sB x.2)=(V.al.take i).map (λx=>sB x.2)++sB V.al[i].2:: (V.al.drop (i+1)).map (λx=>sB x.2):=by
   conv=>lhs;rw[e]
   simp only[Tx,Un]
  exact z152
 have S9:{V with al:=V.al.set i (y,t) }.bl=l1++sB t::l2:=by
  have e2:((V.al.set i (y,t)).map λx=>sB x.2)=(V.al.take i).map (λx=>sB x.2)++sB t:: (V.al.drop (i+1)).map (λx=>sB x.2):=by
   rw[List.set_eq_take_append_cons_drop,Ty hi];simp only[Tx,Un]
  exact z152
 have OH:=r.o.di;rw[hV]at OH;obtain⟨h1,h2,h3⟩:=Us.1 OH;have h4:=Uy.1 h2;have nti:∀j,some j∈l1\/some j∈l2->sB V.al[i].2≠some j:=λj hj e=>by
  rcases hj with hj|hj
  ·exact h3 _ hj _ Si j rfl e
  ·exact h4.1 _ hj j e rfl
 have hlt:∀j,some j∈l1\/some j∈l2->j<h.length:=λj hj=>(hin j (by rw[hV];exact fZ hj)).2
 have ns2:∀j,(some j∈[sB V.s0,sB V.s1]\/some j∈[sB V.s3,sB V.s4,sB V.s5]++((V.al.map λx=>sB x.2)++(V.aI.map λx=>sB x.2)++(V.aH.map λx=>sB x.2)))->sB V.s2≠some j:=λj hj e=>by
  have hd2:jS ([sB V.s0,sB V.s1]++sB V.s2:: ([sB V.s3,sB V.s4,sB V.s5]++((V.al.map λx=>sB x.2)++(V.aI.map λx=>sB x.2)++(V.aH.map λx=>sB x.2)))):=by
   have:=r.o.di;simp only[RV.bl]at this
   simpa using this
  obtain⟨a1,a2,a3⟩:=Us.1 hd2;rcases hj with hj|hj
  ·exact a3 _ hj _ Si j rfl e
  ·exact(Uy.1 a2).1 _ hj j e rfl
 have kp:∀j,(some j∈l1\/some j∈l2)->sB V.s2≠some j->k[j]? =h[j]? :=λj hj hn=>hk j (hlt j hj) hn (nti j hj)
 have own:cY N k {V with al:=V.al.set i (y,t) }:=by
  refine⟨r.o.i0.ay λj hj=>kp j (.inl (by rw[<-hj];simp[l1])) (ns2 j (.inl (by rw[<-hj];simp))),r.o.i1.ay λj hj=>kp j (.inl (by rw[<-hj];simp[l1])) (ns2 j (.inl (by rw[<-hj];simp))),hs,
   r.o.i3.ay λj hj=>kp j (.inl (by rw[<-hj];simp[l1])) (ns2 j (.inr (by rw[<-hj];simp))),r.o.i4.ay λj hj=>kp j (.inl (by rw[<-hj];simp[l1])) (ns2 j (.inr (by rw[<-hj];simp))),r.o.i5.ay λj hj=>kp j (.inl (by rw[<-hj];simp[l1])) (ns2 j (.inr (by rw[<-hj];simp))),?_,?_,?_,?_⟩
  ·intro x hx;obtain⟨n,hn,rfl⟩:=VA hx;have Re:n<V.al.length:=by simpa using hn
   by_cases hni:n=i
   ·subst hni;simp only[Vr];exact ht
   ·simp only[VC (Vl hni)];refine(r.o.e2 _ (TE Re)).ay λj hj=>kp j ?_ (ns2 j (.inr ?_))
    ·rcases Nat.lt_or_gt_of_ne hni with hlt|hlt
     ·left
      refine Tn.2 (.inr (TI.2 ⟨V.al[n],?_,hj⟩));exact List.mem_take_iff_getElem.2 ⟨n,Om,rfl⟩
     ·right
      simp only[l2,Tn];refine .inl (.inl (TI.2 ⟨V.al[n],?_,hj⟩));exact List.mem_drop_iff_getElem.2 ⟨n-(i+1),Om,by congr 1;omega⟩
    ·simp only[Tn];exact .inr (.inl (.inl (TI.2 ⟨V.al[n],TE Re,hj⟩)))
  ·intro x hx;refine(r.o.e3 x hx).ay λj hj=>kp j (.inr ?_) (ns2 j (.inr ?_))
   ·simp only[l2,Tn];exact .inl (.inr (TI.2 ⟨x,hx,hj⟩))
   ·simp only[Tn];exact .inr (.inl (.inr (TI.2 ⟨x,hx,hj⟩)))
  ·intro x hx;refine(r.o.e4 x hx).ay λj hj=>kp j (.inr ?_) (ns2 j (.inr ?_))
   ·simp only[l2,Tn];exact .inr (TI.2 ⟨x,hx,hj⟩)
   ·simp only[Tn];exact .inr (.inr (TI.2 ⟨x,hx,hj⟩))
  ·show jS {V with al:=V.al.set i (y,t) }.bl;rw[S9];refine OH.uI λj hj=>.inr ⟨λz hz e=>?_,λz hz e=>?_⟩
   ·subst e;have:=hlt j (.inl hz);have:=hnt j hj;omega
   ·subst e;have:=hlt j (.inr hz);have:=hnt j hj;omega
 have hne:=r.ne;rw[hV]at hne;refine⟨own,r.hN,?_,λhb=>?_⟩
 ·have n1:sB V.s2≠some b:=λe=>hne (fZ (.inl (by rw[<-e];simp[l1])))
  have n2:sB V.al[i].2≠some b:=λe=>hne (by rw[e];simp)
  exact(hk b r.lt n1 n2).trans r.m
 ·rw[S9]at hb;rcases tq hb with z|z|z
  ·exact hne (fZ (.inl z))
  ·have:=hnt b z.symm;have:=r.lt;omega
  ·exact hne (fZ (.inr z))
set_option maxRecDepth 10000
attribute [local irreducible] WP WC WE WB WR WF WL WG eD
section
variable {P:Program}(T:dB P) {h:af}
include T
def r266{L s}(hs:aA h s 1 (L.map an))(hl:L.length<2^63)(n:By):ao P 266 [s,.str n] h (λv _=>v=.i (dM (λy=>decide (n=y)) L)):=by
 refine .dU 19 T.mix T.c266 ?_;intro ts hlen t0 t1;unfold fn266 gA;refine Rs (A3 t0 t1 hs.bh) ?_;refine WL.inv T.mix (λm ts h'=>∃k:Nat,k<=L.length/\m=L.length-k/\h' =h/\L.findIdx? (λy=>decide (n=y))=((L.drop k).findIdx? (λy=>decide (n=y))).map (· +k)/\ts.length=19/\slot ts 0=s/\slot ts 1=.str n/\slot ts 7=.i L.length/\slot ts 8=.i k) L.length
  ⟨0,Om,rfl,rfl,Si,Sn,(Sq t0),(Sq t1),(Sq t0),my⟩ ?_
 rintro _ ts _ ⟨k,hk,rfl,rfl,hi,hlen,t0,t1,t7,t8⟩;by_cases hlt:k<L.length
 ·have hd:L.drop k=L[k]::L.drop (k+1):=Si
  have e3:=hX hlt;have ix:=hs.eX (kk:=.i64) hlt;have ld:=hs.kV (i:=k) (x:=.str L[k]) hlt rfl (Ext.refl _);have e5:=wrapN (n:=k) Om;by_cases hp:n=L[k]
  ·have q:decide (n=L[k])=true:=Tq hp;refine Rs (A8 t0 t1 t7 t8 e3 ix @ld q) ?_;rw[dM,hi,hd,List.findIdx?_cons,q];simp
  ·have q:decide (n=L[k])=false:=Tm hp;refine Rs (A9 t0 t1 t7 t8 e3 ix @ld q e5) ?_;refine⟨_,?_,k+1,Om,rfl,?_,rfl⟩
   ·omega
   ·rw[hi,hd,List.findIdx?_cons,q];simp only[T8,TT,Option.map_map];congr 1;funext i;simp only[Function.comp];omega
 ·have e3:=jf hlt;have e4:k=L.length:=Om
  refine Rs (A5 t0 t1 t7 t8 e3) ?_;rw[dM,hi,e4,UQ];rfl
def r242{L:List (By)}{s:AV}(hs:aA h s 1 (L.map an))(hl:L.length<2^63)(n:By):ao P 242 [s,.str n] h (λv _=>v=.bool (decide (n∈L))):=by
 refine .dU 9 T.mix T.c242 ?_;intro ts hlen t0 t1;unfold fn242 gA;refine Rs (A2 t0 t1) ?_;refine WF.ce T.c266 (r266 T hs hl n) λg1=>?_
 refine Rs (A2 t0 t1) ?_;rw[lQ];congr 1;rw[Bool.eq_iff_iff];simp[UR]
end
attribute [local irreducible] WM
section
variable {P:Program}(T:dB P) {B g:af}{b:Nat}{V:RV}{x:EV}
include T
def Ln(r:bw B.length (B++g) b V)(c:Cx (B++g) V x .copy):cT P 158 [.ptr b 0,.agg x.row] (B++g) (λ_ k=>qW B b V x.ev .copy k):=by
 refine .dU 50 T.mix T.c158 ?_;intro ts hlen t0 t1;unfold fn158;have hex:=@a8.box _ _ c.e;have lb:=@iL _ _ _ r.m;have i0:aV 1 x.sn (.i 0)=_:=(c.nm (i:=0) De).1;have d0:=@(c.nm (i:=0) De).2;have i1:aV 1 x.sn (.i 1)=_:=(c.nm (i:=1) De).1;have d1:=@(c.nm (i:=1) De).2;have QQ:V.al.length<=64:=by have:=c.w.l2;simpa [RV.aC]using this
 have htp:∀y∈V.al,y.1.aJ.length<2^30:=λy hy=>(c.w.zX.sh y hy).2
 refine Rs (AZ t0 t1 @hex @lb @jB @bE @i0 @d0 @i1 @d1 c.o.i2.bh) ?_;obtain⟨a,ha⟩:∃a,a=ba x.ev 0:=⟨_,rfl⟩;obtain⟨z,hz⟩:∃z,z=ba x.ev 1:=⟨_,rfl⟩;rw[<-ha,<-hz];refine WL.inv T.mix (λn ts h'=>∃(k:Nat) (g':af) (U:RV),k<=V.al.length/\n=V.al.length-k/\h' =B++g'/\bw B.length (B++g') b U/\U.s2=V.s2/\U.al.length=V.al.length/\
   {U.aC with al:=V.aC.al} =V.aC/\(∀i (hi:i<U.al.length) (hi':i<V.al.length),(U.al[i]).1=if i<k then mX a z (V.al[i]).1 else(V.al[i]).1)/\
   ts.length=50/\slot ts 0=.ptr b 0/\slot ts 4=.str a/\slot ts 5=.str z/\slot ts 19=V.s2/\slot ts 20=.i V.al.length/\slot ts 21=.i k) V.al.length
  ⟨0,g++[ai.b x.row],V,Om,rfl,by rw[Ti],by rw[<-Ti];exact r.app _,rfl,rfl,rfl,λi hi hi'=>by rw[Tt Om],Sn,(Sq t0),(Sq t0),(Sq t0),(Sq t0),(Sq t0),my⟩ ?_
 clear t0 t1 hlen i0 d0 i1 d1 hex lb;clear ts;rintro _ ts _ ⟨k,g',U,hk,rfl,rfl,rU,Ob,Ta,hreg,hU,hlen,t0,t4,t5,t19,t20,t21⟩;by_cases hlt:k<V.al.length
 ·have hlU:k<U.al.length:=Om
  have e3:=hX hlt;have e5:=wrapN (n:=k) Om;have oU:=rU.o.ok;have ix:aV 3 V.s2 (.i (k:Int))=some (dG V.s2 3 k,.aq):=by rw[<-Ob];exact oU.i2.eX hlU
  have ld:∀{k':af},Ext (B++g') k'->au (some 3) (dG V.s2 3 k) (λb=>k'[b]?)=some (.agg (aW U.al[k]),.aq):=λ{k'} e=>by rw[<-Ob];exact oU.i2.lO hlU e
  have P6:U.al[k]∈U.al:=TE _;have hx1:(U.al[k]).1=(V.al[k]).1:=by rw[hU k hlU hlt,Tt Om]
  have hxl:(U.al[k]).1.aJ.length<2^30:=by rw[hx1];exact htp _ (TE _)
  have hfx:=rU.o.e2 _ P6;have next:∀(U2:RV),U2.al.length=V.al.length->(∀i (hi:i<U2.al.length) (hi':i<U.al.length),(U2.al[i]).1=if i=k then mX a z (U.al[i]).1 else(U.al[i]).1)->
    ∀i (hi:i<U2.al.length) (hi':i<V.al.length),(U2.al[i]).1=if i<k+1 then mX a z (V.al[i]).1 else(V.al[i]).1:=by
   intro U2 a3 a5 i hi hi';rw[a5 i hi Om,hU i Om hi'];by_cases Qi:i=k
   ·subst Qi;rw[Ty rfl,Tt Om,Ty Om]
   ·rw[Tt Qi];exact He
  obtain⟨y,hy⟩:∃y,y=U.al[k]:=⟨_,rfl⟩;rw[<-hy]at ld hfx hxl;have oy:=hfx.aN.one;unfold aW at ld;refine Rs (yD t0 t4 t5 t19 t20 t21 e3 ix @ld @oy) ?_;refine WF.ce T.c242 (r242 T (hfx.aN.ext Xx) Om a) λg1=>?_
  by_cases h1:a∈y.1.aJ
  case neg=>
   have q1:decide (a∈y.1.aJ)=false:=Tm h1;rw[q1];refine Rs (A7 t0 t4 t5 t19 t20 t21 e5) ?_;have Qz:B++g'++[ai.b [AV.str y.1.name,.str y.1.line,y.2]]++g1=B++(g'++[ai.b [AV.str y.1.name,.str y.1.line,y.2]]++g1):=by simp only[Ti]
   refine⟨_,Om,k+1,_,U,Om,rfl,Qz,by rw[<-Qz];exact(rU.app _).app _,Ob,Ta,hreg,next U Ta (λi hi hi'=>?_),rfl⟩;split
   ·rename_i Qi;subst Qi;rw[<-hy,mX,Tt (λw=>h1 w.1)]
   ·rfl
  have q1:decide (a∈y.1.aJ)=true:=Tq h1;rw[q1];refine Rs (A6 t0 t4 t5 t19 t20 t21) ?_;refine WF.ce T.c242 (r242 T (hfx.aN.ext Xx) Om z) λg2=>?_
  by_cases h2:z∈y.1.aJ
  ·have q2:decide (z∈y.1.aJ)=true:=Tq h2;rw[q2];refine Rs (A8 t0 t4 t5 t19 t20 t21 @TU e5) ?_;have Qz:B++g'++[ai.b [AV.str y.1.name,.str y.1.line,y.2]]++g1++g2=B++(g'++[ai.b [AV.str y.1.name,.str y.1.line,y.2]]++g1++g2):=by simp only[Ti]
   refine⟨_,Om,k+1,_,U,Om,rfl,Qz,by rw[<-Qz];exact((rU.app _).app _).app _,Ob,Ta,hreg,next U Ta (λi hi hi'=>?_),rfl⟩;split
   ·rename_i Qi;subst Qi;rw[<-hy,mX,Tt (λw=>w.2 h2)]
   ·rfl
  have q2:decide (z∈y.1.aJ)=false:=Tm h2;rw[q2];refine Rs (A7 t0 t4 t5 t19 t20 t21 @TW) ?_;obtain⟨xb,hxb⟩:∃xb,xb=(B++g').length:=⟨_,rfl⟩;obtain⟨G,hG⟩:∃G,G=g'++[ai.b [AV.str y.1.name,.str y.1.line,y.2]]++g1++g2:=⟨_,rfl⟩;have Qz:B++g'++[ai.b [AV.str y.1.name,.str y.1.line,y.2]]++g1++g2=B++G:=by rw[hG];simp only[Ti]
  have hex:Ext (B++g') (B++G):=by rw[<-Qz];exact Xx
  have mx:(B++G)[xb]? =some (.b [AV.str y.1.name,.str y.1.line,y.2]):=by
   rw[<-Qz,hxb,Ti _ g1,Tj Si,To Om];simp
  have mb:(B++G)[b]? =some (.b U.row):=hex.some rU.m;have hfx2:Fr B.length (B++G) y.2 1 (y.1.aJ.map an):=by rw[<-Qz];exact((hfx.app _).app _).app _
  have hs22:Fr B.length (B++G) V.s2 3 (U.al.map aW):=by rw[<-Qz,<-Ob];exact((rU.o.i2.app _).app _).app _
  rw[Qz,<-hxb];refine wZ (λh=>h[b]? =some (.b U.row)/\h[xb]? =some (.b [AV.str y.1.name,.str y.1.line,y.2])) ?_;have hS:(λh:af=>h[b]? =some (.b U.row)/\h[xb]? =some (.b [AV.str y.1.name,.str y.1.line,y.2])) (B++G):=⟨mb,mx⟩;refine fg hS rfl rfl ?_;refine Rs t0 ?_;refine fg hS rfl rfl ?_;refine Rs t0 ?_;refine fg hS rfl rfl ?_;refine Rs t0 ?_;refine qU hS (v:=V.s2) (λg hg=>?_) ?_
  ·simp only[bx,bo,bL,bM,reduceAdd,reduceMul,reduceLeDiff,reduceEqDiff,bP,hlen,TT,TQ,t0,az hg.1,jB,Ob]
  refine Rs t0 ?_;refine fg hS rfl rfl ?_;refine Rs t0 ?_;refine fg hS rfl rfl ?_;refine Rs t0 ?_;refine qU hS (v:=y.2) (λg hg=>?_) ?_
  ·simp only[bx,bo,bL,bM,reduceAdd,reduceMul,reduceLeDiff,reduceEqDiff,bP,hlen,TT,TQ,t0,az hg.2]
  refine Rs t0 ?_;refine fg hS rfl rfl ?_;refine Rs (A2 t0 t5) ?_;obtain⟨zr,hzr⟩:∃zr,zr=an z:=⟨_,rfl⟩;have hS2:(λh:af=>h[b]? =some (.b U.row)/\h[xb]? =some (.b [AV.str y.1.name,.str y.1.line,y.2])) (B++G++[ai.cells [.str z] true true]):=⟨(Ext.app _ (Ext.refl _)).some mb,(Ext.app _ (Ext.refl _)).some mx⟩;have hxlt:xb<(B++G).length:=by
   rw[<-Qz,hxb];simp only[Tg,Tl,Tr];omega
  refine fg hS rfl rfl ?_;refine Rs t0 ?_;refine fg hS2 rfl rfl ?_;refine Rs t0 ?_;refine WR.fN (h0:=B) (cs:=y.1.aJ.map an) (ys:=[an z]) (hfx2.app _) (Fr.push (N:=0) (TJ _) [an z] (by simp[an])).aN De Si (by simp only[Tu,Tl,Tr];omega) (by rw[Ti];exact⟨_,rfl⟩) ?_;intro g3 Rg hff hkp;have hrow:y.1.aJ.map an++[an z]=(y.1.aJ++[z]).map an:=by rw[Tx];rfl
  rw[hrow]at hff;rw[hrow];obtain⟨t',ht'⟩:∃t',t' =AV.slice (B++G++[ai.cells [.str z] true true]).length 0 ((y.1.aJ++[z]).map an).length 1:=⟨_,rfl⟩;rw[<-ht']at hff;rw[<-ht'];have o1:t'.one=true:=by rw[ht'];rfl
  have hGl:(B++g').length<=(B++G).length:=hex.len;have hty:sB t' =some (B++G++[ai.cells [.str z] true true]).length:=by rw[ht'];rfl
  have hbl:=rU.lt;have PH:sB y.2≠some b:=λe=>rU.ne (by rw[<-e,RV.bl,hy];simp only[Tn,TI];exact .inl (.inl (.inr ⟨_,P6,rfl⟩)))
  have Pr:∀i,sB y.2=some i->i<xb:=λi hi=>by rw[hxb];exact(hfx.bN hi).2
  have hk3:∀i,i<(B++G).length->sB y.2≠some i->(B++g3)[i]? =(B++G)[i]? :=λi hi hne=>by
   rw[hkp i (by simp only[Tg]at hi ⊢;omega) (λb0 o n e he z=>hne (by rw[he,z];rfl)),Tj hi]
  have hS3:(λh:af=>h[b]? =some (.b U.row)/\h[xb]? =some (.b [AV.str y.1.name,.str y.1.line,y.2])) (B++g3):=
   ⟨(hk3 b Om PH).trans mb,(hk3 xb hxlt (λe=>by have:=Pr _ e;omega)).trans mx⟩
  have hsy:∀j,sB V.s2=some j->sB y.2≠some j:=λj hj e=>by
   have hd2:jS ([sB U.s0,sB U.s1]++sB U.s2:: ([sB U.s3,sB U.s4,sB U.s5]++((U.al.map λx=>sB x.2)++(U.aI.map λx=>sB x.2)++(U.aH.map λx=>sB x.2)))):=by
    have:=rU.o.di;simp only[RV.bl]at this
    simpa using this
   obtain⟨_,a2,_⟩:=Us.1 hd2;refine(Uy.1 a2).1 (sB y.2) ?_ j (by rw[Ob];exact hj) e;simp only[Tn,TI];exact .inr (.inl (.inl ⟨_,P6,by rw[<-hy]⟩))
  have hs23:Fr B.length (B++g3) V.s2 3 (U.al.map aW):=hs22.ay λi hi=>hk3 i (hs22.bN hi).2 (hsy i hi)
  refine Rs t0 ?_;refine wX hS3 rfl ?_;refine Rs (A3 t0 ix @o1) ?_;have hkU:k<U.al.length:=hlU;refine WR.rm (h0:=B) (x':=(⟨y.1.name,y.1.line,y.1.aJ++[z]⟩,t')) (row:=aW) hs23 hlU De o1 (by rw[<-hy];rfl) ?_;intro g4 hl4 hff4 hkp4;have hk4:∀i,i<(B++g').length->sB V.s2≠some i->sB y.2≠some i->(B++g4)[i]? =(B++g')[i]? :=λi hi n1 n2=>by
   rw[hkp4 i (λb0 o n e he z=>n1 (by rw[he,z];rfl)),hk3 i Om n2];exact hex.get hi
  have nb2:sB V.s2≠some b:=λe=>rU.ne (by rw[<-e,<-Ob];simp[RV.bl])
  have ht4:Fr B.length (B++g4) t' 1 ((y.1.aJ++[z]).map an):=hff.ay λi hi=>by
   rw[hty]at hi;cases hi;refine hkp4 _ (λb0 o n e he zz=>?_);have:=(rU.o.i2.bN (show sB U.s2=some b0 by rw[Ob,he];rfl)).2;have h3:(B++g').length<=(B++G++[ai.cells [.str z] true true]).length:=by simp only[Tg]at hGl ⊢;omega
   omega
  refine Rs (A7 t0 t4 t5 t19 t20 t21 e5) ?_;refine⟨_,Om,k+1,g4,{U with al:=U.al.set k (⟨y.1.name,y.1.line,y.1.aJ++[z]⟩,t') },Om,rfl,rfl,rU.Ni hlU (by rw[Ob];exact hff4) ht4 (λj hj=>?_) (λj hj n1 n2=>hk4 j hj (by rw[<-Ob];exact n1) (by rw[hy];exact n2)),Ob,(by simp only[Um];exact Ta),hreg,next _ (by simp only[Um];exact Ta) (λi hi hi'=>?_),rfl⟩
  ·rw[hty]at hj;cases hj;simp only[Tg]at hGl ⊢;omega
  ·by_cases Qi:i=k
   ·subst Qi;simp only[Vr,TQ];rw[<-hy,mX,Ty ⟨h1,h2⟩]
   ·rw[Tt Qi];simp only[VC (Vl Qi)]
 ·have e3:decide ((k:Int)<V.al.length)=false:=Tm Om;have e4:k=V.al.length:=Om
  refine Rs (A8 t0 t4 t5 t19 t20 t21 e3 @dI) ?_;refine⟨g',U,rfl,rU,?_⟩;have hsh:U.aC.al=V.aC.al.map (mX a z):=by
   refine List.ext_getElem (by simp[RV.aC,Ta]) λi h1 h2=>?_
   have hi:i<U.al.length:=by simpa [RV.aC]using h1
   have:=hU i hi Om;rw[Ty Om]at this
   simpa [RV.aC]using this
  have heq:∀A C:fy,{A with al:=C.al} =C->A={C with al:=A.al}:=by
   intro A C h;cases A;cases C;simp_all
  have:=heq _ _ hreg;rw[this,hsh,fC,ha,hz]
end
def HV.now(V:HV):RV:=V.cp.getLastD RV.zero
def HV.gR(V:HV):V.now.aC=V.bp.now:=by
 rw[HV.now,HV.bp,gM.now];show _=(V.cp.map RV.aC).getLastD fy.zero;rw[UM,UM,List.getLast?_map];cases V.cp.getLast? <;>rfl
structure w9(h:af)(b:Nat)(V:HV):Prop where
 hb:h[b]? =some (.b [V.se,V.sc,V.sr])
 ie:aA h V.se 5 (V.cI.map EV.row)
 ic:aA h V.sc 5 (V.eC.map EV.row)
 ig:aA h V.sr 7 (V.cp.map RV.row)
 ae:∀x∈V.cI,a8 h x
 ac:∀x∈V.eC,a8 h x
 ag:∀x∈V.cp,aE h x
theorem w9.ext{h k b V}(o:w9 h b V)(e:Ext h k):w9 k b V:=
 ⟨e.some o.hb,o.ie.ext e,o.ic.ext e,o.ig.ext e,λx hx=>(o.ae x hx).ext e,λx hx=>(o.ac x hx).ext e,λx hx=>(o.ag x hx).ext e⟩
def bT.rd{N h b V}(o:bT N h b V):w9 h b V:=
 ⟨o.hb,o.oe.aN,o.oc.aN,o.og.aN,λx hx=>(o.ae x hx).sub (mz.fY _ _),λx hx=>(o.ac x hx).sub (mz.fY _ _),λx hx=>(o.ag x hx).sub (mz.fY _ _)⟩
theorem w9.now{h b V}(o:w9 h b V):aE h V.now:=by
 rw[HV.now,UM];cases hx:V.cp.getLast? with
 |none=>exact aE.zero
 |some R=>exact o.ag R (List.mem_of_getLast? hx)
def aE.st{h V}(o:aE h V){b a0 a1 a2 a3 a4 a5 a6 tl}:iP 7 0 (.agg V.row) b (.cells [a0,a1,a2,a3,a4,a5,a6] true tl)=some (ar,.set b (.cells V.row true tl)):=by
 refine(ri (l:=V.row) rfl o.row (by show 0+7<=7;omega)).trans ?_;rfl
def a8.st{h x}(o:a8 h x){b a0 a1 a2 a3 a4 tl}:iP 5 0 (.agg x.row) b (.cells [a0,a1,a2,a3,a4] true tl)=some (ar,.set b (.cells x.row true tl)):=by
 refine(ri (l:=x.row) rfl o.row (by show 0+5<=5;omega)).trans ?_;rfl
def Fl{e d}(hd:d≠.eV):e.kind=bJ d↔mH e=d:=by
 rw[mH];constructor
 ·intro h;rw[h,mQ];rfl
 ·intro h;cases hk:gb e.kind with
  |none=>rw[hk]at h;exact absurd h.symm hd
  |some c=>rw[hk]at h;cases h;exact iC hk
structure kH(H:gM):Prop where
 rg:∀R∈H.cp,jl R
 ln:H.cp.length=H.eC.length
 le:H.eC.length<=H.cI.length
 ev:∀e∈H.cI,∃d,r9 e d
 cn:∀e∈H.eC,∃d,r9 e d
theorem kH.zero:kH gM.zero:=by
 refine⟨?_,rfl,Ts _,?_,?_⟩
 all_goals intro x hx;cases hx
theorem kH.now{H}(w:kH H):jl H.now:=by
 rw[gM.now,UM];cases hx:H.cp.getLast? with
 |none=>exact jl.zero
 |some R=>exact w.rg R (List.mem_of_getLast? hx)
section
variable {P:Program}(T:dB P)
include T
def Dd{B g b V x d ro ks ts Q dd l}(hd:d≠.eV)(r:bw B.length (B++g) b V)(c:Cx (B++g) V x d)(hc:cX V.aC x.ev d=0)(gl:Gl (B++g))
  (K:∀v h',qW B b V x.ev d h'->WP P ro l ks (put ts dd v) h' Q):WF P ro false (mR d) [.ptr b 0,.agg x.row] dd l ks ts (B++g) Q:=by
 cases d with
 |eV=>exact absurd rfl hd
 |line=>exact WF.gen (a:=[]) (c:=[]) T.c149 (Lq T r c) K
 |tape=>exact WF.gen (a:=[]) (c:=[]) T.c152 (Lp T r c) K
 |iR=>exact WF.gen (a:=[]) (c:=[]) T.c156 (Lo T r c) K
 |copy=>exact WF.gen (a:=[]) (c:=[]) T.c158 (Ln T r c) K
 |accept=>exact WF.gen (a:=[]) (c:=[]) T.c160 (Lm T r c) K
 |source=>exact WF.gen (a:=[]) (c:=[]) T.c162 (Ll T r c) K
 |iV=>exact WF.gen (a:=[]) (c:=[]) T.c164 (Lk T r c hc gl) K
 |merge=>exact WF.gen (a:=[]) (c:=[]) T.c166 (Lj T r c) K
 |run=>exact WF.gen (a:=[]) (c:=[]) T.c168 (Li T r c hc) K
 |gJ=>exact WF.gen (a:=[]) (c:=[]) T.c170 (Lh T r c hc) K
 |fail=>exact WF.gen (a:=[]) (c:=[]) T.c172 (Lg T r c hc) K
 |gK=>exact WF.gen (a:=[]) (c:=[]) T.c174 (Lf T r c) K
 |rel=>exact WF.gen (a:=[]) (c:=[]) T.c176 (Le T r c) K
variable {h:af}
def r79{V b}(o:w9 h b V)(hl:V.cp.length<=1000):ao P 79 [.ptr b 0] h (λv _=>v=.agg V.now.row):=by
 refine .mG 20 T.mix T.c79 ?_;intro ts hlen t0;unfold fn79 gA;have hb:=o.hb;have lb:=@iL _ _ _ hb;refine Rs (A3 t0 @lb o.ig.bh) ?_;rcases List.eq_nil_or_concat V.cp with hn|⟨L,R,hn⟩
 ·have NW:V.cp.length=0:=by rw[hn];rfl
  have e1:decide ((0:Int)<(V.cp.length:Int))=false:=Tm Om;refine Rs (A2 t0 e1) ?_;rw[HV.now,hn];rfl
 ·have hlenR:V.cp.length=L.length+1:=by rw[hn];simp
  have e1:decide ((0:Int)<(V.cp.length:Int))=true:=Tq Om;have e2:IntKind.i64.wrap ((V.cp.length:Int)-1)=(L.length:Int):=by rw[aR Om Om];omega
  have Sm:L.length<V.cp.length:=Om
  have ix:=o.ig.eX (kk:=.i64) Sm;have ld:∀{k':af},Ext h k'->_:=λ{k'} e=>o.ig.lO Sm e
  have hR:V.cp[L.length]=R:=by simp only[hn];simp
  rw[hR]at ld;have st:=@aE.st h R (o.ag R (by rw[hn];simp));refine Rs (A8 t0 e1 e2 @lb ix @ld @st @bu) ?_;rw[HV.now,hn];simp
def r116{V b x d}(o:w9 h b V)(w:kH V.bp)(hl:V.cI.length<=1000)(ox:a8 h x)(wx:r9 x.ev d)(gl:Gl h):
  ao P 116 [.ptr b 0,.agg x.row] h (λv _=>v=.i (jw V.bp x.ev)):=by
 have hcl:V.eC.length<=V.cI.length:=by have:=w.le;simpa [HV.bp]using this
 have PR:V.cp.length=V.eC.length:=by have:=w.ln;simpa [HV.bp]using this
 refine .dU 106 T.mix T.c116 ?_;intro ts hlen t0 t1;unfold fn116;have hb:=o.hb;have lb:=@iL _ _ _ hb;have hex:=@a8.box _ _ ox;have ew:IntKind.i64.wrap ((V.cI.length:Int)+1)=(V.cI.length:Int)+1:=aR Om Om;by_cases h1:x.ev.num=(V.cI.length:Int)+1
 case neg=>
  have q1:decide (x.ev.num≠(V.cI.length:Int)+1)=true:=Tq h1;refine Rs (A8 t0 t1 @lb @hex @mU o.ie.bh @ew q1) ?_;rw[jw,Ty (by simpa [HV.bp]using h1)]
 have q1:decide (x.ev.num≠(V.cI.length:Int)+1)=false:=Tm (λz=>z h1);have O2:mH x.ev=d:=by rw[mH,wx.kd];rfl
 rw[jw,Tt (by simpa [HV.bp]using h1),O2];by_cases h2:d=.eV
 ·have q2:decide (x.ev.kind=[117,110,100,111])=true:=Tq (by rw[iC wx.kd,h2];rfl);rw[Ty h2];refine Rs (AZ t0 t1 @lb @hex @mU @fH o.ie.bh o.ic.bh @ew q1 q2) ?_;rcases List.eq_nil_or_concat V.eC with hn|⟨L,c,hn⟩
  ·have NW:V.eC.length=0:=by rw[hn];rfl
   have e1:decide ((V.eC.length:Int)=0)=true:=Tq Om;refine Rs (A2 t0 e1) ?_;simp only[HV.bp,hn];rfl
  ·have hlenR:V.eC.length=L.length+1:=by rw[hn];simp
   have e1:decide ((V.eC.length:Int)=0)=false:=Tm Om;have e2:IntKind.i64.wrap ((V.eC.length:Int)-1)=(L.length:Int):=by rw[aR Om Om];omega
   have Sm:L.length<V.eC.length:=Om
   have ix:=o.ic.eX (kk:=.i64) Sm;have hR:V.eC[L.length]=c:=by simp only[hn];simp
   have lf:∀{k':af},Ext h k'->au none (Gy V.sc 5 L.length 1) (λb=>k'[b]?)=some (.str c.ev.kind,.aq):=λ{k'} e=>by
    refine o.ic.M6 Sm ?_ e;rw[hR];rfl
   refine Rs (A6 t0 e1 e2 @lb ix @lf) ?_;refine WF.ce T.c85 (r85 T _ _) λg1=>?_
   refine Rs t0 ?_;have e3:decide (c.ev.kind=[114,101,108,101,97,115,101])=decide (mH c.ev=.rel):=UW.2 (Fl (d:=.rel) De);have e4:V.bp.eC.getLast? =some c.ev:=by simp[HV.bp,hn]
   rw[e3,e4];by_cases h5:mH c.ev=.rel<;>simp[bz,h5]
 have q2:decide (x.ev.kind=[117,110,100,111])=false:=Tm λz=>h2 (by
  have:=wx.kd;rw[z]at this;exact(Ug ((mQ .eV).symm.trans this)).symm)
 rw[Tt h2,<-V.gR];have wn:jl V.now.aC:=by rw[V.gR];exact w.now
 have on:=o.now;have ltk:0<cO d:=by cases d<;>first|exact absurd rfl h2|decide
 have OJ:0<x.ev.cK.length:=by rw[wx.vl];exact ltk
 have n8:aV 1 x.sv (.i 0)=some (dG x.sv 1 0,.aq):=ox.v.n8 OJ;have ev0:bW x.ev 0=x.ev.cK[0]:=by rw[bW,TF,Tk OJ];rfl
 have ld0:∀{k':af},Ext h k'->au none (dG x.sv 1 0) (λb=>k'[b]?)=some (.i (bW x.ev 0),.aq):=λ{k'} e=>by
  rw[ev0];exact ox.v.kV OJ rfl e
 refine Rs (AZ t0 t1 @lb @hex @mU @fH o.ie.bh o.ic.bh @ew q1 q2) ?_;refine WF.ce T.c79 (r79 T (o.ext Xx) Om) λg1=>?_
 have st:=@aE.st h V.now on;rw[iF];by_cases h3:bW x.ev 0<V.now.aC.tick
 ·have q3:decide (bW x.ev 0<V.now.tick)=true:=Tq h3;refine Rs (A8 t0 t1 @st @vV @cB @n8 @ld0 q3) ?_;rw[Ty h3]
 have q3:decide (bW x.ev 0<V.now.tick)=false:=Tm h3;rw[Tt h3];refine Rs (A8 t0 t1 @st @vV @cB @n8 @ld0 q3) ?_;refine WF.res T.c90 (r90 T) ?_;rintro _ g2 ⟨vf,rfl,hk⟩;obtain⟨H,hH⟩:∃H,H=h++[ai.b x.row]++g1++[ai.b V.now.row]:=⟨_,rfl⟩;obtain⟨eb,heb⟩:∃eb,eb=h.length:=⟨_,rfl⟩;obtain⟨rb,Ru⟩:∃rb,rb=(h++[ai.b x.row]++g1).length:=⟨_,rfl⟩;have mr:(H++g2)[rb]? =some (.b V.now.row):=by rw[hH,Ru];exact(Ext.app _ (Ext.refl _)).some bF
 have me:(H++g2)[eb]? =some (.b x.row):=by rw[hH,heb];exact(show Ext (h++[ai.b x.row]) _ from Xx).some bF
 rw[<-hH]at hk ⊢;rw[<-heb,<-Ru];have lk:∀{z:AV},fJ .s z false (.map H.length) (.str x.ev.kind) (λb=>(H++g2)[b]?)=jH z false ((gb x.ev.kind).map vf):=hk.look;rw[wx.kd]at lk;have N8:∀{z:AV},_=some (vf d,fR.aq):=@lk;obtain⟨rs,a,hv,hr,ha,hab⟩:=(hk.k d).ex;rw[hv]at N8;have c1:=j6 d;have c2:=jJ d;have c3:=hr.one;have le:=@iL _ _ _ me;have lr:=@iL _ _ _ mr;refine Rs (GH t0 t1 @le @fH @bn @N8 @c1 @c2 @c3 @ha hr.bh @fP) ?_;obtain⟨L,hL⟩:∃L,L=bV d:=⟨_,rfl⟩;have Ry:x.ev.names.length=L.length:=by rw[hL];exact wx.nl
 have Sm:L.length<=3:=by rw[hL];cases d<;>decide
 have hL6:∀r∈L,r.1<6:=by rw[hL];cases d<;>decide
 rw[<-hL]at hr ⊢;obtain⟨kb,hkb⟩:∃kb,kb=(H++g2).length:=⟨_,rfl⟩;have hex:Ext h (H++g2):=by rw[hH];exact Xx
 have Qc:Ext (H++g2) (H++g2++[ai.b [rs,.i (cO d:Int),iD d,mR d,a]]):=Xx;have mk:(H++g2++[ai.b [rs,.i (cO d:Int),iD d,mR d,a]])[kb]? =some (.b [rs,.i (cO d:Int),iD d,mR d,a]):=by rw[hkb];exact bF
 obtain⟨H2,Q3⟩:∃H2,H2=H++g2++[ai.b [rs,.i (cO d:Int),iD d,mR d,a]]:=⟨_,rfl⟩;rw[<-Q3]at mk Qc;have hx3:Ext h H2:=hex.trans Qc;have lk:=@iL _ _ _ mk;rw[<-Q3,<-hkb];have QP:∀(i:Nat) (hi:i<L.length),aV 1 x.sn (.i (i:Int))=some (dG x.sn 1 i,.aq):=λi hi=>ox.n.eX Om
 have hld:∀(i:Nat) (hi:i<L.length) (k':af),Ext h k'->au none (dG x.sn 1 i) (λb=>k'[b]?)=some (.str (ba x.ev i),.aq):=λi hi k' e=>by
  have hi':i<x.ev.names.length:=Om
  have:ba x.ev i=x.ev.names[i]:=by rw[ba,TF,Tk hi'];rfl
  rw[this];exact ox.n.kV hi' rfl e
 refine WL.inv T.mix (λm ts h'=>∃k:Nat,k<=L.length/\m=L.length-k/\Ext H2 h'/\qZ V.now.aC x.ev L 0=qZ V.now.aC x.ev (L.drop k) k/\ts.length=106/\slot ts 3=.ptr eb 0/\slot ts 6=.ptr rb 0/\slot ts 7=.ptr kb 0/\slot ts 56=rs/\slot ts 57=.i L.length/\slot ts 58=.i k) L.length
  ⟨0,Om,rfl,.refl _,rfl,Sn,Sw,Sw,Sw,Sw,Sw,my⟩ ?_
 clear t0 t1 hlen lb hb hex le lr;clear ts;rintro _ ts h' ⟨k,hk,rfl,Ps,hu,hlen,t3,t6,t7,t56,t57,t58⟩;have le:∀{k' n a},Ext h' k'->au n (.ptr eb a) (λz=>k'[z]?)=dy n a (.b x.row):=λ{_ _ _} e=>az (((Qc.trans Ps).trans e).some me)
 have lr:∀{k' n a},Ext h' k'->au n (.ptr rb a) (λz=>k'[z]?)=dy n a (.b V.now.row):=λ{_ _ _} e=>az (((Qc.trans Ps).trans e).some mr)
 by_cases hlt:k<L.length
 ·have e3:=hX hlt;have e5:=wrapN (n:=k) Om;have ix:=hr.eX (kk:=.i64) hlt;have ld:∀{k'},Ext h' k'->au (some 2) (dG rs 2 k) (λb=>k'[b]?)=some (.agg (eT L[k]),.aq):=λ{k'} e=>hr.lO hlt ((Qc.trans Ps).trans e)
  have iy:=QP k hlt;have ly:∀{k'},Ext h' k'->au none (dG x.sn 1 k) (λb=>k'[b]?)=some (.str (ba x.ev k),.aq):=λ{k'} e=>hld k hlt k' ((hx3.trans Ps).trans e)
  have hd:L.drop k=L[k]::L.drop (k+1):=Si
  obtain⟨r,SM⟩:∃r,r=L[k]:=⟨_,rfl⟩;have hr6:r.1<6:=by rw[SM];exact hL6 _ (TE _)
  rw[hd,<-SM,qZ]at hu;rw[<-SM,eT]at ld;cases Pd:r.2 with
  |false=>
   rw[Pd]at ld hu;refine Rs (yD t3 t6 t7 t56 t57 t58 e3 ix @ld e5) ?_;exact z145
  |true=>
   rw[Pd]at ld hu;refine Rs (Nc t3 t6 t7 t56 t57 t58 e3 ix @ld @iy @ly @le @lr @bu @bE) ?_;refine WF.ce T.c86 (r86 T ((on.ext (hx3.trans Ps)).ext Xx) wn.len hr6 _) λg3=>?_
   cases hh:ez V.now.aC r.1 (ba x.ev k)with
   |true=>
    rw[hh]at hu;refine Rs (A8 t3 t6 t7 t56 t57 t58 @TU e5) ?_;exact z145
   |false=>
    rw[hh]at hu;have hu1:qZ V.now.aC x.ev L 0=true:=by rw[hu];rfl
    refine Rs (A7 t3 t6 t7 t56 t57 t58 @TW) ?_;refine⟨(hx3.trans Ps).trans Xx,?_⟩;have e6:kQ d V.now.aC x.ev=10:=by rw[kQ,<-hL,Ty hu1]
    rw[e6,Ty De]
 ·have e3:=jf hlt;have e4:k=L.length:=Om
  have Qt:qZ V.now.aC x.ev L 0=false:=by rw[hu,e4,UQ];rfl
  have lk2:∀{k' n a'},Ext h' k'->au n (.ptr kb a') (λz=>k'[z]?)=dy n a' (.b [rs,.i (cO d:Int),iD d,mR d,a]):=λ{_ _ _} e=>lk (Ps.trans e)
  refine Rs (A9 t3 t6 t7 t56 t57 t58 e3 @lk2 hr.bh) ?_;have hrH:aA h' rs 2 (L.map eT):=hr.ext (Qc.trans Ps);refine WL.inv T.mix (λm ts Td=>∃k:Nat,k<=L.length/\m=L.length-k/\Ext h' Td/\ra V.now.aC x.ev L 0=ra V.now.aC x.ev (L.drop k) k/\ts.length=106/\slot ts 3=.ptr eb 0/\slot ts 6=.ptr rb 0/\slot ts 7=.ptr kb 0/\slot ts 79=rs/\slot ts 80=.i L.length/\slot ts 81=.i k) L.length
   ⟨0,Om,rfl,.refl _,rfl,Sn,(Sq t3),(Sq t6),(Sq t7),Sw,Sw,my⟩ ?_
  clear t3 t6 t7 t56 t57 t58 hlen le lr lk2 e3 e4 hu lk;clear hlt hk ts k;rintro _ ts Td ⟨k,hk,rfl,Rp,hu,hlen,t3,t6,t7,t79,t80,t81⟩;have le:∀{k' n a},Ext Td k'->au n (.ptr eb a) (λz=>k'[z]?)=dy n a (.b x.row):=λ{_ _ _} e=>az ((((Qc.trans Ps).trans Rp).trans e).some me)
  have lr:∀{k' n a},Ext Td k'->au n (.ptr rb a) (λz=>k'[z]?)=dy n a (.b V.now.row):=λ{_ _ _} e=>az ((((Qc.trans Ps).trans Rp).trans e).some mr)
  have lk2:∀{k' n a'},Ext Td k'->au n (.ptr kb a') (λz=>k'[z]?)=dy n a' (.b [rs,.i (cO d:Int),iD d,mR d,a]):=λ{_ _ _} e=>az (((Ps.trans Rp).trans e).some mk)
  by_cases hlt:k<L.length
  ·have e3:=hX hlt;have e5:=wrapN (n:=k) Om;have ix:=hr.eX (kk:=.i64) hlt;have ld:∀{k'},Ext Td k'->au (some 2) (dG rs 2 k) (λb=>k'[b]?)=some (.agg (eT L[k]),.aq):=λ{k'} e=>hrH.lO hlt (Rp.trans e)
   have iy:=QP k hlt;have ly:∀{k'},Ext Td k'->au none (dG x.sn 1 k) (λb=>k'[b]?)=some (.str (ba x.ev k),.aq):=λ{k'} e=>hld k hlt k' (((hx3.trans Ps).trans Rp).trans e)
   have hd:L.drop k=L[k]::L.drop (k+1):=Si
   obtain⟨r,SM⟩:∃r,r=L[k]:=⟨_,rfl⟩;have hr6:r.1<6:=by rw[SM];exact hL6 _ (TE _)
   rw[hd,<-SM,ra]at hu;rw[<-SM,eT]at ld;cases Pd:r.2 with
   |true=>
    rw[Pd]at ld hu;refine Rs (AZ t3 t6 t7 t79 t80 t81 e3 ix @ld e5 @TU) ?_;exact GR
   |false=>
    rw[Pd]at ld hu;refine Rs (JP t3 t6 t7 t79 t80 t81 e3 ix @ld @iy @ly @le @lr @bu @bE @TW) ?_;refine WF.ce T.c86 (r86 T ((on.ext ((hx3.trans Ps).trans Rp)).ext Xx) wn.len hr6 _) λg3=>?_
    cases hh:ez V.now.aC r.1 (ba x.ev k)with
    |false=>
     rw[hh]at hu;refine Rs (A7 t3 t6 t7 t79 t80 t81 e5) ?_;exact GR
    |true=>
     rw[hh]at hu;have hu1:ra V.now.aC x.ev L 0=true:=by rw[hu];rfl
     refine Rs (A6 t3 t6 t7 t79 t80 t81) ?_;refine⟨((hx3.trans Ps).trans Rp).trans Xx,?_⟩;have e6:kQ d V.now.aC x.ev=9:=by rw[kQ,<-hL,Tt (by rw[Qt];decide),Ty hu1]
     rw[e6,Ty De]
  ·have e3:=jf hlt;have e4:k=L.length:=Om
   have SG:ra V.now.aC x.ev L 0=false:=by rw[hu,e4,UQ];rfl
   have e6:kQ d V.now.aC x.ev=0:=by rw[kQ,<-hL,Tt (by rw[Qt];decide),Tt (by rw[SG];decide)]
   rw[e6,Tt De];have hxx:=(hx3.trans Ps).trans Rp;refine Rs (GH t3 t6 t7 t79 t80 t81 e3 @lk2 @lr @le @bu @cA) ?_;refine WF.val (L5 T h2 ⟨on.ext hxx,wn,ox.ext hxx,wx,zI e6⟩ (gl.ext hxx)) ?_;rintro _ g4 rfl;refine Rs t3 ?_;exact⟨hxx.trans Xx,trivial⟩
end
def GF(B h0:af)(b:Nat)(V:HV)(e:db)(v:AV)(k:af):Prop:=∃g' V',k=B++g'/\v=.i (dV V.bp e)/\bT B.length (B++g') b V'/\V'.bp=(if dV V.bp e=0 then jQ V.bp e else V.bp)/\(∀i,i<h0.length->some i∉V.ex b->(B++g')[i]? =h0[i]?)/\∀j,some j∈V'.ex b->some j∈V.ex b\/h0.length<=j
def GF.no{B g g1 b V e}(o:bT B.length (B++g) b V)(h:dV V.bp e≠0){n}(hn:n=dV V.bp e):GF B (B++g) b V e (.i n) (B++g++g1):=
 ⟨g++g1,V,by rw[Ti],by rw[hn],by rw[<-Ti];exact o.app _,by rw[Tt h],λi hi _=>by rw[<-Ti,Tj hi],λj hj=>.inl hj⟩
def a8.FU{h x}(o:a8 h x){M}:vt 5 1 (dA [.i 0,.str [],.ah,.ah,.str []] [(0,5,.agg x.row)]) M=some (.slice M 0 1 5,.push (.cells x.row true true)):=vq (c:=x.row) o.row rfl De
def aE.FU{h V}(o:aE h V){M}:vt 7 1 (dA [.i 0,.ah,.ah,.ah,.ah,.ah,.ah] [(0,7,.agg V.row)]) M=some (.slice M 0 1 7,.push (.cells V.row true true)):=vq (c:=V.row) o.row rfl De
theorem a8.fY{h x}(o:a8 h x){ex}(h1:∀j,sB x.sn=some j->some j∉ex)(h2:∀j,sB x.sv=some j->some j∉ex):a8 (Go.Abs.fY ex h) x:=⟨o.n.fY h1,o.v.fY h2⟩
theorem aE.fY{h V}(o:aE h V){ex}(hx:∀j,some j∈V.bl->some j∉ex):aE (Go.Abs.fY ex h) V:=by
 have m6:∀x∈[sB V.s0,sB V.s1,sB V.s2,sB V.s3,sB V.s4,sB V.s5],x∈V.bl:=λx hx=>by simp only[RV.bl,Tn];exact .inl (.inl (.inl hx))
 refine⟨o.i0.fY λb hb=>hx b (hb▸m6 _ Si),o.i1.fY λb hb=>hx b (hb▸m6 _ Si),o.i2.fY λb hb=>hx b (hb▸m6 _ Si),o.i3.fY λb hb=>hx b (hb▸m6 _ Si),o.i4.fY λb hb=>hx b (hb▸m6 _ Si),o.i5.fY λb hb=>hx b (hb▸m6 _ Si),
  λx hx1=>(o.e2 x hx1).fY λb hb=>hx b ?_,λx hx1=>(o.e3 x hx1).fY λb hb=>hx b ?_,λx hx1=>(o.e4 x hx1).fY λb hb=>hx b ?_⟩
 ·simp only[RV.bl,Tn,TI];exact .inl (.inl (.inr ⟨x,hx1,hb⟩))
 ·simp only[RV.bl,Tn,TI];exact .inl (.inr ⟨x,hx1,hb⟩)
 ·simp only[RV.bl,Tn,TI];exact .inr ⟨x,hx1,hb⟩
def pA{a b c d}:jS [a,b,c,d]↔(∀i,a=some i->b≠some i/\c≠some i/\d≠some i)/\(∀i,b=some i->c≠some i/\d≠some i)/\∀i,c=some i->d≠some i:=by
 simp only[jS,Uy,TP,Ui,UO,forall_eq_or_imp,forall_eq,List.Pairwise.nil,and_true,false_implies,implies_true];constructor
 ·rintro⟨⟨h1,h2,h3⟩,⟨h4,h5⟩,h6⟩;exact⟨λi hi=>⟨h1 i hi,h2 i hi,h3 i hi⟩,λi hi=>⟨h4 i hi,h5 i hi⟩,h6⟩
 ·rintro⟨h1,h2,h3⟩;exact⟨⟨λi hi=>(h1 i hi).1,λi hi=>(h1 i hi).2.1,λi hi=>(h1 i hi).2.2⟩,⟨λi hi=>(h2 i hi).1,λi hi=>(h2 i hi).2⟩,h3⟩
def BB{B h:af}(hl:B.length<=h.length)(hk:∀i,i<B.length->h[i]? =B[i]?):∃g,h=B++g:=by
 refine⟨h.drop B.length,Vt λi=>?_⟩;by_cases hi:i<B.length
 ·rw[hk i hi,Tj hi]
 ·exact z109
def sI{B h:af}{b:Nat}{X:ai}(hN:B.length<=b)(hh:∃g,h=B++g):∃g,h.set b X=B++g:=by
 obtain⟨g,rfl⟩:=hh;exact⟨_,Ub _ _ hN⟩
def bw.tk{B g b V}(r:bw B.length (B++g) b V)(t:Int):∃g',(B++g).set b (.b (V.row.set 0 (.i t)))=B++g'/\bw B.length (B++g') b {V with tick:=t}:=by
 obtain⟨h1,h2,h3⟩:=k7 (.b (V.row.set 0 (.i t))) r.hN r.m;refine⟨_,h1,?_,r.hN,h2,r.ne⟩;have:=r.o.aq (k:=B++g.set (b-B.length) (.b (V.row.set 0 (.i t)))) λi hi=>h3 i λe=>r.ne (e▸hi)
 exact⟨this.i0,this.i1,this.i2,this.i3,this.i4,this.i5,this.e2,this.e3,this.e4,this.di⟩
section
variable {N b:Nat}{h h':af}{V:HV}
def bT.lt(o:bT N h b V):b<h.length:=(Th.1 o.hb).1
def bT.Ae(o:bT N h b V){j}(hj:some j∈V.ex b):j<h.length:=by
 simp only[HV.ex,TP,Ui,UO,TG]at hj;rcases hj with hj|hj|hj|hj
 ·rw[hj];exact o.lt
 ·exact(o.oe.bN hj.symm).2
 ·exact(o.oc.bN hj.symm).2
 ·exact(o.og.bN hj.symm).2
def bT.Nk(o:bT N h b V){s' x'}(hk:∀i,i<h.length->sB V.se≠some i->i≠b->h'[i]? =h[i]?)(hs:Ow N h' s' 5 ((V.cI++[x']).map EV.row))(hb:h'[b]? =some (.b [s',V.sc,V.sr]))
  (hn:∀i,sB s' =some i->h.length<=i) (hx:a8 (fY (V.ex b) h) x'):bT N h' b {V with cI:=V.cI++[x'],se:=s'}:=by
 obtain⟨d1,d2,d3⟩:=pA.1 o.di;have hbl:=o.lt;have hsub:mz (fY (V.ex b) h) (fY ({V with cI:=V.cI++[x'],se:=s'}.ex b) h'):=by
  refine n6 (λi hi hne=>hk i hi (λe=>hne (by simp[HV.ex,e])) (λe=>hne (by simp[HV.ex,e]))) λi hi hm=>?_
  simp only[HV.ex,TP,Ui,UO,TG]at hm ⊢;rcases hm with hm|hm|hm|hm
  ·exact .inl hm
  ·have:=hn i hm.symm;omega
  ·exact .inr (.inr (.inl hm))
  ·exact .inr (.inr (.inr hm))
 refine⟨o.hN,hb,hs,o.oc.ay λi hi=>?_,o.og.ay λi hi=>?_,pA.2 ⟨λi hi=>?_,λi hi=>?_,d3⟩,λx hx1=>?_,λx hx1=>(o.ac x hx1).sub hsub,λx hx1=>(o.ag x hx1).sub hsub,o.lo⟩
 ·exact hk i (o.oc.bN hi).2 (λe=>(d2 i e).1 hi) (λe=>(d1 b rfl).2.1 (by rw[<-e];exact hi))
 ·exact hk i (o.og.bN hi).2 (λe=>(d2 i e).2 hi) (λe=>(d1 b rfl).2.2 (by rw[<-e];exact hi))
 ·cases hi;exact⟨λe=>by have:=hn b e;omega,(d1 b rfl).2⟩
 ·have h1:=hn i hi;exact⟨λe=>by have:=(o.oc.bN e).2;omega,λe=>by have:=(o.og.bN e).2;omega⟩
 ·rcases Tn.1 hx1 with hx1|hx1
  ·exact(o.ae x hx1).sub hsub
  ·rw[TD]at hx1;rw[hx1];exact hx.sub hsub
def bT.Nh(o:bT N h b V){N5 Oj n m}(hk:∀i,i<h.length->i≠b->h'[i]? =h[i]?)(hc:Ow N h' N5 5 ((V.eC.take n).map EV.row))(hr:Ow N h' Oj 7 ((V.cp.take m).map RV.row))(hb:h'[b]? =some (.b [V.se,N5,Oj]))
  (nc:sB N5=sB V.sc) (nr:sB Oj=sB V.sr):bT N h' b {V with eC:=V.eC.take n,cp:=V.cp.take m,sc:=N5,sr:=Oj}:=by
 obtain⟨d1,d2,d3⟩:=pA.1 o.di;have he:{V with eC:=V.eC.take n,cp:=V.cp.take m,sc:=N5,sr:=Oj}.ex b=V.ex b:=by simp only[HV.ex,nc,nr]
 have hsub:mz (fY (V.ex b) h) (fY ({V with eC:=V.eC.take n,cp:=V.cp.take m,sc:=N5,sr:=Oj}.ex b) h'):=by
  rw[he];exact n6 (λi hi hne=>hk i hi (λe=>hne (by simp[HV.ex,e]))) λi hi hm=>hm
 refine⟨o.hN,hb,o.oe.ay λi hi=>hk i (o.oe.bN hi).2 (λe=>(d1 b rfl).1 (by rw[<-e];exact hi)),hc,hr,by rw[he];exact o.di,λx hx1=>(o.ae x hx1).sub hsub,λx hx1=>(o.ac x (Ut hx1)).sub hsub,λx hx1=>(o.ag x (Ut hx1)).sub hsub,λx hx1=>o.lo x (Ut hx1)⟩
def bT.Nl(o:bT N h b V){N5 Oj x' R'}(hk:∀i,i<h.length->sB V.sc≠some i->sB V.sr≠some i->i≠b->h'[i]? =h[i]?)(hc:Ow N h' N5 5 ((V.eC++[x']).map EV.row))(hr:Ow N h' Oj 7 ((V.cp++[R']).map RV.row))(hb:h'[b]? =some (.b [V.se,N5,Oj]))
  (nc:∀i,sB N5=some i->h.length<=i) (nr:∀i,sB Oj=some i->h.length<=i) (ncr:∀i,sB N5=some i->sB Oj≠some i) (hx:a8 (fY (V.ex b) h) x') (hR:aE (fY (V.ex b) h) R') (hlo:∀j,some j∈R'.bl->N<=j):bT N h' b {V with eC:=V.eC++[x'],cp:=V.cp++[R'],sc:=N5,sr:=Oj}:=by
 obtain⟨d1,d2,d3⟩:=pA.1 o.di;have hbl:=o.lt;have hsub:mz (fY (V.ex b) h) (fY ({V with eC:=V.eC++[x'],cp:=V.cp++[R'],sc:=N5,sr:=Oj}.ex b) h'):=by
  refine n6 (λi hi hne=>hk i hi (λe=>hne (by simp[HV.ex,e])) (λe=>hne (by simp[HV.ex,e])) (λe=>hne (by simp[HV.ex,e]))) λi hi hm=>?_
  simp only[HV.ex,TP,Ui,UO,TG]at hm ⊢;rcases hm with hm|hm|hm|hm
  ·exact .inl hm
  ·exact .inr (.inl hm)
  ·have:=nc i hm.symm;omega
  ·have:=nr i hm.symm;omega
 refine⟨o.hN,hb,o.oe.ay λi hi=>?_,hc,hr,pA.2 ⟨λi hi=>?_,λi hi=>?_,ncr⟩,λx hx1=>(o.ae x hx1).sub hsub,λx hx1=>?_,λx hx1=>?_,λx hx1=>?_⟩
 ·exact hk i (o.oe.bN hi).2 (λe=>(d2 i hi).1 e) (λe=>(d2 i hi).2 e) (λe=>(d1 b rfl).1 (by rw[<-e];exact hi))
 ·cases hi;exact⟨(d1 b rfl).1,λe=>by have:=nc b e;omega,λe=>by have:=nr b e;omega⟩
 ·have h1:=(o.oe.bN hi).2;exact⟨λe=>by have:=nc i e;omega,λe=>by have:=nr i e;omega⟩
 ·rcases Tn.1 hx1 with hx1|hx1
  ·exact(o.ac x hx1).sub hsub
  ·rw[TD]at hx1;rw[hx1];exact hx.sub hsub
 ·rcases Tn.1 hx1 with hx1|hx1
  ·exact(o.ag x hx1).sub hsub
  ·rw[TD]at hx1;rw[hx1];exact hR.sub hsub
 ·rcases Tn.1 hx1 with hx1|hx1
  ·exact o.lo x hx1
  ·rw[TD]at hx1;rw[hx1];exact hlo
end
section
variable {P:Program}(T:dB P)
include T
def IP{B g:af}{V:HV}{b:Nat}{x:EV}(o:bT B.length (B++g) b V)(w:kH V.bp)(hl:V.cI.length<1000)(ox:a8 (B++g) x)(hxl:x.ev.names.length<=2^40/\x.ev.cK.length<=2^40)(gl:Gl B):
  cT P 112 [.ptr b 0,.agg x.row] (B++g) (λv k=>GF B (B++g) b V x.ev v k):=by
 have hcl:V.eC.length<=V.cI.length:=by have:=w.le;simpa [HV.bp]using this
 have PR:V.cp.length=V.eC.length:=by have:=w.ln;simpa [HV.bp]using this
 refine .dU 94 T.mix T.c112 ?_;intro ts hlen t0 t1;unfold fn112;have NJ:=@a8.box _ _ ox;have gl':Gl (B++g):=gl.ext ⟨g,rfl⟩;refine Rs (A4 t0 t1 @NJ @cA) ?_;refine WF.ce T.c67 (r67 T (ox.ext Xx) hxl) λg1=>?_
 by_cases h1:eS x.ev=0
 case neg=>
  have q1:decide (eS x.ev≠0)=true:=Tq h1;refine Rs (A3 t0 t1 q1) ?_;have e:dV V.bp x.ev=eS x.ev:=by rw[dV,Ty h1]
  rw[Ti (B++g)];exact GF.no o (by rw[e];exact h1) e.symm
 have q1:decide (eS x.ev≠0)=false:=Tm (λz=>z h1);obtain⟨d,wx⟩:=vp h1;have eb:dV V.bp x.ev=jw V.bp x.ev:=by rw[dV,Tt (λz=>z h1)]
 refine Rs (A4 t0 t1 q1 @cA) ?_;refine WF.ce T.c116 (r116 T (d:=d) (o.rd.ext Xx) w Om (ox.ext Xx) wx (gl'.ext Xx)) λg2=>?_
 by_cases h2:jw V.bp x.ev=0
 case neg=>
  have q2:decide (jw V.bp x.ev≠0)=true:=Tq h2;refine Rs (A3 t0 t1 q2) ?_;rw[Ti (B++g),Ti (B++g)];exact GF.no o (by rw[eb];exact h2) eb.symm
 have q2:decide (jw V.bp x.ev≠0)=false:=Tm (λz=>z h2);rw[<-eb]at h2;refine Rs (A4 t0 t1 q2 @cA) ?_;refine WF.res T.c91 (r91 T x (ox.ext Xx) hxl) ?_;rintro _ g3 ⟨x',NL,rfl,fn,fv⟩;have RS:a8 _ x':=⟨by rw[NL];exact fn.aN,by rw[NL];exact fv.aN⟩;have st:∀{b':Nat},iP 5 0 (.agg x'.row) b' (.b x.row)=some (ar,.set b' (.b x'.row)):=λ{_}=>RS.st
 refine Rs (A3 t0 t1 @st) ?_;obtain⟨H,hH⟩:∃H,H=B++g++[ai.b x'.row]++g1++g2++g3:=⟨_,rfl⟩;have hHg:∃gH,H=B++gH:=⟨_,by rw[hH];simp only[Ti];rfl⟩;obtain⟨gH,hHB⟩:=hHg;have hex:Ext (B++g) H:=by rw[hH];exact Xx
 have oH:bT B.length H b V:=by obtain⟨z,hz⟩:=hex;rw[hz];exact o.app z
 have aq:∀j,(B++g).length+1<=j->H[j]? =(B++g++[ai.b x.row]++g1++g2++g3)[j]? :=λj hj=>by
  rw[hH];simp only[Ti];have e:∀C:ai,(B++(g++([C]++(g1++(g2++g3)))))[j]? =(g1++(g2++g3))[j-B.length-g.length-1]? :=λC=>by
   simp only[Tg]at hj;rw[To Om,To Om,To (by simp only[TC];omega)];rfl
  rw[e,e]
 obtain⟨N,hN⟩:∃N,N=(B++g).length:=⟨_,rfl⟩;have fnl:=λj (hj:sB x'.sn=some j)=>fn.bN hj
 have fvl:=λj (hj:sB x'.sv=some j)=>fv.bN hj
 have Q2:H.length=(B++g++[ai.b x.row]++g1++g2++g3).length:=by rw[hH];simp only[Tg,Tl,Tr]
 have lnn:∀j,sB x'.sn=some j\/sB x'.sv=some j->(B++g).length+1<=j/\j<H.length:=λj hj=>by
  rw[Q2];rcases hj with hj|hj
  ·have:=fnl j hj;exact z37
  ·have:=fvl j hj;exact z37
 have oxH:a8 H x':=⟨by rw[NL];exact(fn.ay λj hj=>aq j (lnn j (.inl hj)).1).aN,by rw[NL];exact(fv.ay λj hj=>aq j (lnn j (.inr hj)).1).aN⟩;have eH:H[N]? =some (.b x'.row):=by rw[hH,hN];exact(show Ext (B++g++[ai.b x'.row]) _ from Xx).some bF
 rw[<-hH,<-hN];have hb:=oH.hb;have lb:=@iL _ _ _ hb;have le:=@iL _ _ _ eH;have bs:=@a8.FU _ _ oxH;have dH:=pA.1 oH.di;refine Rs (A6 t0 t1 @lb @le @cA @bs) ?_;refine WR.F6 (N:=B.length) (cs:=V.cI.map EV.row) (ys:=[x'.row]) (oH.app _).oe (Fr.push (N:=0) (TJ _) [x'.row] (by intro y hy;rw[TD]at hy;rw[hy];rfl)).aN (by rw[hHB];simp only[Tg];omega) De Si (by simp only[Tu,Tl,Tr];omega) ?_;intro h1 hl1 O9 hk1;have hrow:V.cI.map EV.row++[x'.row]=(V.cI++[x']).map EV.row:=by rw[Tx];rfl
 rw[hrow]at O9;rw[hrow];obtain⟨Og,hse⟩:∃Og,Og=AV.slice (H++[ai.cells x'.row true true]).length 0 ((V.cI++[x']).map EV.row).length 5:=⟨_,rfl⟩;rw[<-hse]at O9 ⊢;have Rw:∀i,sB Og=some i->H.length+1=i:=λi hi=>by rw[hse]at hi;cases hi;simp
 have ose:Og.one=true:=by rw[hse];rfl
 have hk1':∀i,i<H.length->sB V.se≠some i->h1[i]? =H[i]? :=λi hi hne=>by rw[hk1 i (by simp;omega) hne,Tj hi]
 have hbl:=oH.lt;have NZ:sB V.se≠some b:=(dH.1 b rfl).1;have On:h1[b]? =some (.b [V.se,V.sc,V.sr]):=(hk1' b hbl NZ).trans hb;have sb1:bB 1 (.ptr b 0) Og (λz=>h1[z]?)=some (ar,.set b (.b [Og,V.sc,V.sr])):=by
  rw[aX On];exact dR ose Si
 refine Rs (A2 t0 @sb1) ?_;have hb1l:b<h1.length:=(Th.1 On).1;obtain⟨H1,hH1⟩:∃H1,H1=h1.set b (.b [Og,V.sc,V.sr]):=⟨_,rfl⟩;rw[<-hH1];have k1:∀i,i<H.length->sB V.se≠some i->i≠b->H1[i]? =H[i]? :=λi hi n1 n2=>by rw[hH1,Ua (Vl n2)];exact hk1' i hi n1
 have m1:H1[b]? =some (.b [Og,V.sc,V.sr]):=by rw[hH1,T2 hb1l]
 have RW:∀i,i<(B++g).length->some i∉V.ex b->H1[i]? =(B++g)[i]? :=λi hi hn=>by
  rw[k1 i (by rw[Q2];simp only[Tg]at hi ⊢;omega) (λe=>hn (by rw[<-e];simp[HV.ex])) (λe=>hn (by rw[e];simp[HV.ex]))];obtain⟨z,hz⟩:=hex;rw[hz,Tj hi]
 have hB1:∃g',H1=B++g':=by
  have:=oH.hN;refine⟨H1.drop B.length,?_⟩;refine Vt λi=>?_
  by_cases hi:i<B.length
  ·have e2:B.length<=H.length:=by rw[hHB];simp
   have n1:sB V.se≠some i:=λe=>by have:=(oH.oe.bN e).1;omega
   rw[k1 i Om n1 Om,hHB,Tj hi,Tj hi]
  ·exact z109
 have Sf:∀j,some j∈V.ex b->j<(B++g).length:=λj hj=>o.Ae hj
 have oxm:a8 (fY (V.ex b) H) x':=oxH.fY (λj hj hm=>by have:=(lnn j (.inl hj)).1;have:=Sf j hm;omega) (λj hj hm=>by have:=(lnn j (.inr hj)).1;have:=Sf j hm;omega);have Qq:bT B.length H1 b {V with cI:=V.cI++[x'],se:=Og}:=oH.Nk k1 (O9.ay λi hi=>by rw[hH1,Ua (by have:=Rw i hi;omega)]) m1 (λi hi=>by have:=Rw i hi;omega) oxm;clear O9 hk1 hk1' sb1 hb1l;have owc:Ow B.length H1 V.sc 5 (V.eC.map EV.row):=Qq.oc;have owr:Ow B.length H1 V.sr 7 (V.cp.map RV.row):=Qq.og;obtain⟨V1,P2⟩:∃V1:HV,V1={V with cI:=V.cI++[x'],se:=Og}:=⟨_,rfl⟩;rw[<-P2]at Qq;have eN:H1[N]? =some (.b x'.row):=(k1 N (by rw[Q2,hN];simp only[Tg,Tl];omega) (λe=>by have:=(o.oe.bN e).2;omega) (by have:=o.lt;omega)).trans eH
 have oxm1:a8 (fY (V1.ex b) H1) x':=Qq.ae x' (by rw[P2];simp);have ox1:a8 H1 x':=oxm1.sub (mz.fY _ _);obtain⟨gH1,hB1⟩:=hB1;have lb1:=@iL _ _ _ m1;have le1:=@iL _ _ _ eN;have hkx:x'.ev.kind=x.ev.kind:=by rw[NL]
 have O2:mH x.ev=d:=by rw[mH,wx.kd];rfl
 by_cases h5:d=.eV
 ·have q5:decide (x.ev.kind=[117,110,100,111])=true:=Tq (by rw[iC wx.kd,h5];rfl);refine Rs (A7 t0 @le1 @fH @hkx q5 @lb1 owc.aN.bh) ?_;have hne:V.eC≠[]:=λe=>by
   rw[eb,jw,O2,Ty h5,show V.bp.eC.getLast? =none by simp[HV.bp,e]]at h2;split at h2<;>exact absurd h2 De
  have hcp:0<V.eC.length:=Vj.2 hne;have e2:IntKind.i64.wrap ((V.eC.length:Int)-1)=((V.eC.length-1:Nat):Int):=by rw[aR Om Om];omega
  obtain⟨N5,c1,c2,c3⟩:=owc.cut (n:=V.eC.length-1) Si (k:=.i64);obtain⟨Oj,r1,r2,r3⟩:=owr.cut (n:=V.eC.length-1) (by simp;omega) (k:=.i64);refine Rs (A5 t0 e2 @lb1 @c1 @r1) ?_;have osc:N5.one=true:=c3.aN.one;have osr:Oj.one=true:=r3.aN.one;have sA:bB 1 (.ptr b 1) N5 (λz=>H1[z]?)=some (ar,.set b (.b [Og,N5,V.sr])):=by
   rw[aX m1];exact dR osc Si
  have hbl1:b<H1.length:=Qq.lt;have m2:(H1.set b (.b [Og,N5,V.sr]))[b]? =some (.b [Og,N5,V.sr]):=T2 hbl1;have sB2:bB 1 (.ptr b 2) Oj (λz=>(H1.set b (.b [Og,N5,V.sr]))[z]?)=some (ar,.set b (.b [Og,N5,Oj])):=by
   rw[aX m2];exact dR osr Si
  refine Rs (A3 t0 @sA @sB2) ?_;rw[List.set_set];obtain⟨gz,hz⟩:=sI (X:=.b [Og,N5,Oj]) Qq.hN ⟨_,hB1⟩;have kz:∀i,i≠b->(H1.set b (.b [Og,N5,Oj]))[i]? =H1[i]? :=λi hi=>Ua (Vl hi)
  have d1:=pA.1 Qq.di;have d2:=pA.1 o.di;have hfr:∀i,i<(B++g).length->some i∉V.ex b->(B++gz)[i]? =(B++g)[i]? :=λi hi hn=>by
   rw[<-hz,kz i (λe=>hn (by rw[e];simp[HV.ex])),RW i hi hn]
  refine⟨gz,{V1 with eC:=V1.eC.take (V.eC.length-1),cp:=V1.cp.take (V.eC.length-1),sc:=N5,sr:=Oj},hz,by rw[h2],?_,?_,hfr,λj hj=>?_⟩
  ·rw[<-hz];subst P2;rw[<-List.map_take]at c3 r3;refine Qq.Nh (λi _ hi=>kz i hi) (c3.ay λi hi=>kz i λe=>?_) (r3.ay λi hi=>kz i λe=>?_) (T2 hbl1) c2 r2
   ·rw[c2]at hi;exact(d2.1 b rfl).2.1 (by rw[hi,e])
   ·rw[r2]at hi;exact(d2.1 b rfl).2.2 (by rw[hi,e])
  ·rw[Ty h2,jQ,O2,Ty h5,P2];simp only[HV.bp,Tx,List.map_take,Un,List.map_nil,NL,List.dropLast_eq_take,Tu,PR]
  ·subst P2;simp only[HV.ex,TP,Ui,UO,TG]at hj ⊢;rcases hj with hj|hj|hj|hj
   ·exact .inl (.inl hj)
   ·have:=Rw j hj.symm;exact .inr (by rw[Q2]at this;simp only[Tg]at this ⊢;omega)
   ·rw[c2]at hj;exact .inl (.inr (.inr (.inl hj)))
   ·rw[r2]at hj;exact .inl (.inr (.inr (.inr hj)))
 have q5:decide (x.ev.kind=[117,110,100,111])=false:=Tm λz=>h5 (by
  have:=wx.kd;rw[z]at this;exact(Ug ((mQ .eV).symm.trans this)).symm)
 refine Rs (A5 t0 @le1 @fH @hkx q5) ?_;have hnow:V1.now=V.now:=by rw[P2];rfl
 have rd1:=Qq.rd;have wn:jl V1.now.aC:=by rw[hnow,V.gR];exact w.now
 refine WF.ce T.c79 (r79 T rd1 (by rw[P2];show V.cp.length<=1000;omega)) λg4=>?_
 refine Rs t0 ?_;refine WF.res T.c96 (r96 T (rd1.now.ext Xx) wn) ?_;rintro _ g5 ⟨VN,hVN,rfl,own⟩;have stN:∀{b':Nat}{a0 a1 a2 a3 a4 a5 a6:AV},iP 7 0 (.agg VN.row) b' (.b [a0,a1,a2,a3,a4,a5,a6])=some (ar,.set b' (.b VN.row)):=λ{_ _ _ _ _ _ _ _}=>own.ok.st
 repeat (first|simp (config:={maxSteps:=1000000}) only[bx,bo,bL,bM,reduceAdd,reduceMul,reduceLeDiff,reduceEqDiff,bP,hlen,TT,TQ,t0,stN]|simp (config:={maxSteps:=1000000}) (disch:=first|(simp only[Tg,Tl,Tr]<;>omega)|rfl|omega|fail) only[gL,bx,bo,bL,bM,reduceAdd,reduceMul,reduceLeDiff,reduceEqDiff,bP,hlen,TT,TQ,t0,stN])
 refine WF.res T.c90 (r90 T) ?_;rintro _ g6 ⟨vf,rfl,hk⟩;obtain⟨hx3,QW⟩:∃z,z=H1++g4++g5++[ai.b VN.row]:=⟨_,rfl⟩;rw[<-QW]at hk ⊢;have lk:∀{z:AV},fJ .s z false (.map hx3.length) (.str x.ev.kind) (λb=>(hx3++g6)[b]?)=jH z false ((gb x.ev.kind).map vf):=hk.look;rw[wx.kd]at lk;have N8:∀{z:AV},_=some (vf d,fR.aq):=@lk;obtain⟨rs,a,hv,hr,ha,hab⟩:=(hk.k d).ex;rw[hv]at N8;have e1x:Ext H1 (hx3++g6):=by rw[QW];exact Xx
 have le2:∀{k n a},Ext (hx3++g6) k->au n (.ptr N a) (λz=>k[z]?)=dy n a (.b x'.row):=λ{_ _ _} e=>le1 (e1x.trans e)
 have cd:=jJ d;obtain⟨rb,Ru⟩:∃rb,rb=(H1++g4++g5).length:=⟨_,rfl⟩;rw[<-Ru];refine Rs (A8 t0 @le2 @fH @hkx @bn @N8 @cd @cA) ?_;have PX:iF V.bp.now x.ev d=0:=by
  rw[eb,jw,O2,Tt h5]at h2;split at h2
  ·exact absurd h2 De
  ·exact h2
 have O4:x.ev.num=(V.bp.cI.length:Int)+1:=by
  rw[eb,jw]at h2;split at h2
  ·exact absurd h2 De
  case isFalse hh=>exact U1.1 hh
 have hVR:VN.aC=V.bp.now:=by rw[hVN,hnow,V.gR]
 have Oy:¬bW x.ev 0<V.bp.now.tick:=λz=>by rw[iF,Ty z]at PX;exact absurd PX De
 have hnm:kQ d V.bp.now x.ev=0:=by
  rw[iF,Tt Oy]at PX;split at PX
  case isTrue hh=>exact absurd PX hh
  case isFalse hh=>exact U1.1 hh
 have hck:cX V.bp.now x.ev d=0:=by rw[iF,Tt Oy,Tt (by rw[hnm];decide)]at PX;exact PX
 obtain⟨G,hG⟩:=e1x;have hGl:H1.length<=rb/\rb<(H1++G).length:=by
  rw[<-hG,QW,Ru];simp only[Tg,Tl,Tr];omega
 have rbk:bw H1.length (H1++G) rb VN:=by
  have:=(((own.app [ai.b VN.row]).app g6).low (M:=H1.length) Si);rw[<-QW,hG]at this;refine⟨this,hGl.1,?_,λhb'=>?_⟩
  ·rw[<-hG,QW,Ru];exact(Ext.app _ (Ext.refl _)).some bF
  ·have:=(own.dx hb').2;omega
 have glG:Gl (H1++G):=(gl.ext ⟨_,hB1⟩).ext ⟨_,rfl⟩;have cx:Cx (H1++G) VN x' d:=⟨rbk.o.ok,by rw[hVN];exact wn,ox1.ext ⟨_,rfl⟩,by rw[NL];exact wx,by rw[hVR,NL];exact zI hnm⟩;rw[hG];refine Dd T h5 rbk cx (by rw[hVR,NL];exact hck) glG ?_;rintro _ _ ⟨g7,V7,rfl,r7,hr7⟩;have e17:Ext H1 (H1++g7):=⟨_,rfl⟩;have le3:∀{k n a},Ext (H1++g7) k->au n (.ptr N a) (λz=>k[z]?)=dy n a (.b x'.row):=λ{_ _ _} e=>le1 (e17.trans e)
 have OJ:0<x'.ev.cK.length:=by rw[NL,wx.vl];cases d<;>first|exact absurd rfl h5|decide
 have n8:aV 1 x'.sv (.i 0)=some (dG x'.sv 1 0,.aq):=ox1.v.n8 OJ;have ld0:∀{k':af},Ext (H1++g7) k'->au none (dG x'.sv 1 0) (λb=>k'[b]?)=some (.i (bW x.ev 0),.aq):=λ{k'} e=>by
  have ev0:bW x.ev 0=x'.ev.cK[0]:=by rw[<-NL,bW,TF,Tk OJ];rfl
  rw[ev0];exact ox1.v.kV OJ rfl (e17.trans e)
 have s7:bB 1 (.ptr rb 0) (.i (bW x.ev 0)) (λz=>(H1++g7)[z]?)=some (ar,.set rb (.b (V7.row.set 0 (.i (bW x.ev 0))))):=fM r7.m rfl De;obtain⟨g8,hg8,r8⟩:=r7.tk (bW x.ev 0);refine Rs (A6 t0 @le3 @cB @n8 @ld0 @s7) ?_;rw[hg8];obtain⟨V8,hV8⟩:∃V8:RV,V8={V7 with tick:=bW x.ev 0}:=⟨_,rfl⟩;rw[<-hV8]at r8;have hr8:V8.aC=xN V.bp.now x.ev d:=by
  rw[hV8,xN,<-hVR];have:fC VN.aC x.ev d=V7.aC:=by rw[hr7,NL]
  rw[this];rfl
 clear s7 le2 le3 ld0 N8 lk hk;have oV2:bT B.length (H1++g8) b V1:=Qq.app g8;have e18:Ext H1 (H1++g8):=⟨_,rfl⟩;have lb2:∀{k n a},Ext (H1++g8) k->au n (.ptr b a) (λz=>k[z]?)=dy n a (.b [Og,V.sc,V.sr]):=λ{_ _ _} e=>lb1 (e18.trans e)
 have le2:∀{k n a},Ext (H1++g8) k->au n (.ptr N a) (λz=>k[z]?)=dy n a (.b x'.row):=λ{_ _ _} e=>le1 (e18.trans e)
 have lr2:=@iL _ _ _ r8.m;have bs1:=@a8.FU _ _ ox1;have bs2:=@aE.FU _ _ r8.o.ok;obtain⟨H2,Q3⟩:∃H2,H2=H1++g8:=⟨_,rfl⟩;have m2:H2[b]? =some (.b [Og,V.sc,V.sr]):=by rw[Q3];exact e18.some m1
 have e2:H2[N]? =some (.b x'.row):=by rw[Q3];exact e18.some eN
 have r2m:H2[rb]? =some (.b V8.row):=by rw[Q3];exact r8.m
 have hB2:∃g',H2=B++g':=⟨_,by rw[Q3,hB1,Ti]⟩;rw[<-Q3]at r8 oV2 ⊢;have SB:Ow B.length H2 V.sc 5 (V.eC.map EV.row):=by have:=oV2.oc;rw[P2]at this;exact this
 have Rn:Ow B.length H2 V.sr 7 (V.cp.map RV.row):=by have:=oV2.og;rw[P2]at this;exact this
 have d1:=pA.1 Qq.di;have d1b:sB V.sc≠some b/\sB V.sr≠some b:=by have:=(d1.1 b rfl).2;rw[P2]at this;exact this
 have d1c:∀i,sB V.sc=some i->sB V.sr≠some i:=by have:=d1.2.2;rw[P2]at this;exact this
 have hBl:B.length<=H2.length:=by obtain⟨z,hz⟩:=hB2;rw[hz];simp
 refine wZ (λh=>h[b]? =some (.b [Og,V.sc,V.sr])/\h[N]? =some (.b x'.row)/\h[rb]? =some (.b V8.row)) ?_;have hS:(λh:af=>h[b]? =some (.b [Og,V.sc,V.sr])/\h[N]? =some (.b x'.row)/\h[rb]? =some (.b V8.row)) H2:=⟨m2,e2,r2m⟩;refine fg hS rfl rfl ?_;refine Rs t0 ?_;refine fg hS rfl rfl ?_;refine Rs t0 ?_;refine fg hS rfl rfl ?_;refine Rs t0 ?_;refine fg hS rfl rfl ?_;refine Rs t0 ?_;refine fg hS rfl rfl ?_;refine Rs t0 ?_;refine qU hS (v:=V.sc) (λg hg=>?_) ?_
 ·exact z75
 refine Rs t0 ?_;refine qU hS (v:=.agg x'.row) (λg hg=>?_) ?_
 ·simp only[bx,bo,bL,bM,reduceAdd,reduceMul,reduceLeDiff,reduceEqDiff,bP,hlen,TT,TQ,t0,az hg.2.1,cA]
 refine Rs t0 ?_;refine fg hS rfl rfl ?_;refine Rs (A2 t0 @bs1) ?_;have x3:Ext H2 (H2++[ai.cells x'.row true true]):=⟨_,rfl⟩;have hS3:(λh:af=>h[b]? =some (.b [Og,V.sc,V.sr])/\h[N]? =some (.b x'.row)/\h[rb]? =some (.b V8.row)) (H2++[ai.cells x'.row true true]):=⟨x3.some m2,x3.some e2,x3.some r2m⟩;refine fg hS3 rfl rfl ?_;refine Rs t0 ?_;refine WR.F6 (N:=B.length) (cs:=V.eC.map EV.row) (ys:=[x'.row]) (SB.ay λi hi=>Tj (SB.bN hi).2) (Fr.push (N:=0) (TJ _) [x'.row] (by intro y hy;rw[TD]at hy;rw[hy];rfl)).aN (by simp only[Tg];omega) De Si (by simp only[Tu,Tl,Tr];omega) ?_;intro h4 hl4 hs4 hk4
 have R3:V.eC.map EV.row++[x'.row]=(V.eC++[x']).map EV.row:=by rw[Tx];rfl
 rw[R3]at hs4;rw[R3];obtain⟨N5,hsc⟩:∃N5,N5=AV.slice (H2++[ai.cells x'.row true true]).length 0 ((V.eC++[x']).map EV.row).length 5:=⟨_,rfl⟩;rw[<-hsc]at hs4 ⊢;have hl4':h4.length=H2.length+2:=by rw[hl4];simp
 have Rx:∀i,sB N5=some i->H2.length+1=i:=λi hi=>by rw[hsc]at hi;cases hi;simp
 have osc:N5.one=true:=by rw[hsc];rfl
 have k4:∀i,i<H2.length->sB V.sc≠some i->h4[i]? =H2[i]? :=λi hi hne=>by rw[hk4 i (by simp;omega) hne,Tj hi]
 have hNl:N<H2.length:=(Th.1 e2).1;have PR:rb<H2.length:=(Th.1 r2m).1;have hbl2:b<H2.length:=(Th.1 m2).1;have RN:∀j,some j∈V.ex b->j<N:=λj hj=>by rw[hN];exact o.Ae hj
 have ncN:sB V.sc≠some N:=λe=>by have:=RN N (by rw[<-e];simp[HV.ex]);omega
 have nrN:sB V.sr≠some N:=λe=>by have:=RN N (by rw[<-e];simp[HV.ex]);omega
 have hNr:N<rb:=by have:=(Th.1 eN).1;omega
 have ncr:sB V.sc≠some rb:=λe=>by have:=RN rb (by rw[<-e];simp[HV.ex]);omega
 have nrr:sB V.sr≠some rb:=λe=>by have:=RN rb (by rw[<-e];simp[HV.ex]);omega
 have RO:(λh:af=>h[b]? =some (.b [Og,V.sc,V.sr])/\h[N]? =some (.b x'.row)/\h[rb]? =some (.b V8.row)) h4:=⟨(k4 b hbl2 d1b.1).trans m2,(k4 N hNl ncN).trans e2,(k4 rb PR ncr).trans r2m⟩;refine Rs t0 ?_;refine fg RO rfl rfl ?_;refine Rs t0 ?_;refine fg RO rfl rfl ?_;refine Rs t0 ?_;refine fg RO rfl rfl ?_;refine Rs t0 ?_;refine qU RO (v:=V.sr) (λg hg=>?_) ?_
 ·exact z75
 refine Rs t0 ?_;refine qU RO (v:=.agg V8.row) (λg hg=>?_) ?_
 ·simp only[bx,bo,bL,bM,reduceAdd,reduceMul,reduceLeDiff,reduceEqDiff,bP,hlen,TT,TQ,t0,az hg.2.2,bu]
 refine Rs t0 ?_;refine fg RO rfl rfl ?_;refine Rs (A2 t0 @bs2) ?_;have x5:Ext h4 (h4++[ai.cells V8.row true true]):=⟨_,rfl⟩;have hS5:(λh:af=>h[b]? =some (.b [Og,V.sc,V.sr])/\h[N]? =some (.b x'.row)/\h[rb]? =some (.b V8.row)) (h4++[ai.cells V8.row true true]):=⟨x5.some RO.1,x5.some RO.2.1,x5.some RO.2.2⟩;have owr4:Ow B.length (h4++[ai.cells V8.row true true]) V.sr 7 (V.cp.map RV.row):=Rn.ay λi hi=>by
  have hil:=(Rn.bN hi).2;rw[Tj Om];exact k4 i hil λe=>d1c i e hi
 refine fg hS5 rfl rfl ?_;refine Rs t0 ?_;refine WR.F6 (N:=B.length) (cs:=V.cp.map RV.row) (ys:=[V8.row]) owr4 (Fr.push (N:=0) (TJ _) [V8.row] (by intro y hy;rw[TD]at hy;rw[hy];rfl)).aN (by simp only[Tg];omega) De Si (by simp only[Tu,Tl,Tr];omega) ?_;intro h6 hl6 hs6 hk6;have R2:V.cp.map RV.row++[V8.row]=(V.cp++[V8]).map RV.row:=by rw[Tx];rfl
 rw[R2]at hs6;rw[R2];obtain⟨Oj,hsr⟩:∃Oj,Oj=AV.slice (h4++[ai.cells V8.row true true]).length 0 ((V.cp++[V8]).map RV.row).length 7:=⟨_,rfl⟩;rw[<-hsr]at hs6 ⊢;have hl6':h6.length=H2.length+4:=by rw[hl6];simp;omega
 have Rv:∀i,sB Oj=some i->H2.length+3=i:=λi hi=>by rw[hsr]at hi;cases hi;simp;omega
 have osr:Oj.one=true:=by rw[hsr];rfl
 have k6:∀i,i<H2.length->sB V.sc≠some i->sB V.sr≠some i->h6[i]? =H2[i]? :=λi hi n1 n2=>by
  rw[hk6 i (by simp;omega) n2,Tj Om];exact k4 i hi n1
 have hS6:(λh:af=>h[b]? =some (.b [Og,V.sc,V.sr])/\h[N]? =some (.b x'.row)/\h[rb]? =some (.b V8.row)) h6:=⟨(k6 b hbl2 d1b.1 d1b.2).trans m2,(k6 N hNl ncN nrN).trans e2,(k6 rb PR ncr nrr).trans r2m⟩;refine Rs t0 ?_;refine wX hS6 rfl ?_;have m6:=hS6.1;have hb6:b<h6.length:=(Th.1 m6).1;have sA:bB 1 (.ptr b 1) N5 (λz=>h6[z]?)=some (ar,.set b (.b [Og,N5,V.sr])):=by
  rw[aX m6];exact dR osc Si
 have m7:(h6.set b (.b [Og,N5,V.sr]))[b]? =some (.b [Og,N5,V.sr]):=T2 hb6;have sB2:bB 1 (.ptr b 2) Oj (λz=>(h6.set b (.b [Og,N5,V.sr]))[z]?)=some (ar,.set b (.b [Og,N5,Oj])):=by
  rw[aX m7];exact dR osr Si
 refine Rs (A3 t0 @sA @sB2) ?_;rw[List.set_set];obtain⟨gB2,hgB2⟩:=hB2;obtain⟨gz,hz⟩:=sI (X:=.b [Og,N5,Oj]) oV2.hN (BB (B:=B) (h:=h6) Om λi hi=>by
  rw[k6 i Om (λe=>by have:=(SB.bN e).1;omega) (λe=>by have:=(Rn.bN e).1;omega),hgB2,Tj hi])
 have kz:∀i,i≠b->(h6.set b (.b [Og,N5,Oj]))[i]? =h6[i]? :=λi hi=>Ua (Vl hi)
 have oxm2:a8 (fY (V1.ex b) H2) x':=oV2.ae x' (by rw[P2];simp);have oR2:aE (fY (V1.ex b) H2) V8:=r8.o.ok.fY λj hj hm=>by
  have h1:=(r8.o.dx hj).1;have h2:=Qq.Ae hm;omega
 have hBH1:B.length<=H1.length:=by rw[hB1];simp
 have fin:bT B.length (h6.set b (.b [Og,N5,Oj])) b {V1 with eC:=V1.eC++[x'],cp:=V1.cp++[V8],sc:=N5,sr:=Oj}:=by
  subst P2;refine oV2.Nl (λi hi n1 n2 nb=>(kz i nb).trans (k6 i hi n1 n2)) (hs4.ay λi hi=>?_) (hs6.ay λi hi=>kz i ?_) (T2 hb6) (λi hi=>by have:=Rx i hi;omega) (λi hi=>by have:=Rv i hi;omega) (λi h1 h2=>by have:=Rx i h1;have:=Rv i h2;omega) oxm2 oR2 (λj hj=>Ur hBH1 (r8.o.dx hj).1)
  ·have h1:=Rx i hi;rw[kz i Om,hk6 i (by simp;omega) (λe=>by have:=(Rn.bN e).2;omega),Tj Om]
  ·have h1:=Rv i hi;omega
 have hfr:∀i,i<(B++g).length->some i∉V.ex b->(B++gz)[i]? =(B++g)[i]? :=λi hi hn=>by
  have hi1:=RW i hi hn;have hil:i<H1.length:=by
   rw[Tk hi]at hi1;exact(Th.1 hi1).1
  rw[<-hz,kz i (λe=>hn (by rw[e];simp[HV.ex])),k6 i (by rw[Q3,Tg];omega) (λe=>hn (by rw[<-e];simp[HV.ex])) (λe=>hn (by rw[<-e];simp[HV.ex])),Q3,Tj hil,hi1]
 have hlo:(B++g).length<=H.length:=by rw[Q2];simp only[Tg];omega
 have hlo2:H.length<=H2.length:=by rw[Q3,Tg,hH1,Um,hl1];simp only[Tg];omega
 have hexn:∀j,some j∈HV.ex b {V1 with eC:=V1.eC++[x'],cp:=V1.cp++[V8],sc:=N5,sr:=Oj}->some j∈V.ex b\/(B++g).length<=j:=λj hj=>by
  subst P2;simp only[HV.ex,TP,Ui,UO,TG]at hj ⊢;rcases hj with hj|hj|hj|hj
  ·exact .inl (.inl hj)
  ·have:=Rw j hj.symm;exact .inr Om
  ·have:=Rx j hj.symm;exact .inr Om
  ·have:=Rv j hj.symm;exact .inr Om
 refine⟨gz,_,hz,by rw[h2],by rw[<-hz];exact fin,?_,hfr,hexn⟩;rw[Ty h2,jQ,O2,Tt h5,P2];simp only[HV.bp,Tx,Un,List.map_nil,NL,hr8]
end
def F9{H e}(h:jw H e=0):e.num=(H.cI.length:Int)+1/\(mH e=.eV->H.eC≠[])/\(mH e≠.eV->iF H.now e (mH e)=0):=by
 unfold jw at h;split at h
 ·exact absurd h De
 case isFalse h1=>
 refine⟨U1.1 h1,λhk hn=>?_,λhk=>by rw[Tt hk]at h;exact h⟩;rw[Ty hk,hn]at h;exact absurd h De
def FV{H e}(h:dV H e=0):eS e=0/\jw H e=0:=by
 unfold dV at h;split at h
 case isTrue h1=>exact absurd h h1
 case isFalse h1=>exact⟨U1.1 h1,h⟩
theorem r9.mH{e d}(w:r9 e d):Go.Abs.mH e=d:=by rw[Go.Abs.mH,w.kd];rfl
def kH.add{H e}(w:kH H)(h:dV H e=0):kH (jQ H e):=by
 obtain⟨h1,h2⟩:=FV h;obtain⟨d,we⟩:=vp h1;obtain⟨h3,h4,h5⟩:=F9 h2;have O2:=we.mH;unfold jQ;split
 case isTrue hu=>
  have hl:=Vj.2 (h4 hu);have e1:=w.ln;have e2:=w.le;refine⟨λR hR=>w.rg R ((List.dropLast_sublist _).mem hR),by simp[e1],?_,λx hx=>?_,λx hx=>w.cn x ((List.dropLast_sublist _).mem hx)⟩
  ·simp only[List.length_dropLast,Tg,TC];omega
  ·exact z91
 case isFalse hu=>
  have e1:=w.ln;have e2:=w.le;have hs:=h5 hu;rw[O2]at hs hu;refine⟨λR hR=>?_,by simp[e1],by simp only[Tg,TC];omega,λx hx=>?_,λx hx=>?_⟩
  ·rcases Tn.1 hR with hR|hR
   ·exact w.rg R hR
   ·rw[TD]at hR;rw[hR,O2];exact w.now.step we hu hs
  ·exact z91
  ·rcases Tn.1 hx with hx|hx
   ·exact w.cn x hx
   ·rw[TD]at hx;subst hx;exact⟨d,we⟩
def tZ{H e}:(jQ H e).cI.length=H.cI.length+1:=by
 unfold jQ;split<;>simp
def GD(h:af)(l:List db)(v:AV)(k:af):Prop:=
 ∃p,v=.dh [p,.i (aT l).2.1,.i (aT l).2.2]/\((aT l).2.2≠0->p=.nilPtr)/\
  ((aT l).2.2=0->∃b V,p=.ptr b 0/\bT h.length k b V/\V.bp=(aT l).1/\kH V.bp/\V.cI.length=l.length/\l.length<=1000)
structure uj(L:List EV):Prop where
 l:L.length<=2^30
 e:∀x∈L,x.ev.names.length<=2^30/\x.ev.cK.length<=2^30
section
variable {P:Program}(T:dB P) {h:af}
include T
def r78{L s}(o:eA h L s)(sh:uj L)(gl:Gl h):ao P 78 [s] h (GD h (L.map EV.ev)):=by
 have QQ:=sh.l;refine .mG 31 T.mix T.c78 ?_;intro ts hlen t0;unfold fn78 gA;by_cases h1:1000<L.length
 ·have q1:decide ((1000:Int)<(L.length:Int))=true:=Tq Om;refine Rs (A3 t0 o.sl.bh q1) ?_;have e:aT (L.map EV.ev)=(gM.zero,0,5):=by rw[aT,Ty (by simpa using h1)]
  unfold GD;rw[e];exact⟨_,rfl,λ_=>rfl,λz=>absurd z De⟩
 have q1:decide ((1000:Int)<(L.length:Int))=false:=Tm Om;refine Rs (A3 t0 o.sl.bh q1) ?_;have e0:aT (L.map EV.ev)=fD gM.zero (L.map EV.ev) 0:=by rw[aT,Tt (by simpa using h1)]
 obtain⟨b,hb⟩:∃b,b=h.length:=⟨_,rfl⟩;rw[<-hb];refine WL.inv T.mix (λm ts h'=>∃(k:Nat) (g':af) (V:HV),k<=L.length/\m=L.length-k/\h' =h++g'/\bT h.length (h++g') b V/\kH V.bp/\V.cI.length=k/\aT (L.map EV.ev)=fD V.bp ((L.drop k).map EV.ev) k/\ts.length=31/\slot ts 5=.ptr b 0/\slot ts 14=s/\slot ts 15=.i L.length/\slot ts 16=.i k) L.length
  ⟨0,[ai.b [AV.ah,.ah,.ah]],⟨[],[],[],.ah,.ah,.ah⟩,Om,rfl,rfl,⟨Om,by rw[hb];exact bF,.nil,.nil,.nil,pA.2 ⟨λ_ _=>⟨by simp[sB],by simp[sB],by simp[sB]⟩,λ_ z=>by simp[sB]at z,λ_ z=>by simp[sB]at z⟩,(λx hx=>by cases hx),(λx hx=>by cases hx),(λx hx=>by cases hx),(λx hx=>by cases hx)⟩,kH.zero,rfl,e0,Sn,Sw,(Sq t0),Sw,my⟩ ?_
 rintro _ ts _ ⟨k,g',V,hk,rfl,rfl,oV,wV,hVl,NM,hlen,t5,t14,t15,t16⟩;by_cases hlt:k<L.length
 ·have e3:=hX hlt;have e5:=wrapN (n:=k) Om;have ix:=o.sl.eX (kk:=.i64) hlt;have ld:∀{k'},Ext (h++g') k'->au (some 5) (dG s 5 k) (λb=>k'[b]?)=some (.agg (EV.row L[k]),.aq):=λ{k'} e=>o.sl.lO hlt (Ext.trans (Ext.app g' (Ext.refl h)) e)
  obtain⟨x,hx⟩:∃x,x=L[k]:=⟨_,rfl⟩;have hm:x∈L:=by rw[hx];exact TE _
  have hd:L.drop k=x::L.drop (k+1):=by rw[hx];simp
  rw[<-hx]at ld;have ox:a8 (h++g') x:=(o.all x hm).ext ⟨_,rfl⟩;have st:∀{b':Nat}{a0 a1 a2 a3 a4:AV},iP 5 0 (.agg x.row) b' (.b [a0,a1,a2,a3,a4])=some (ar,.set b' (.b x.row)):=λ{_ _ _ _ _ _}=>ox.st
  refine Rs (A9 t5 t14 t15 t16 e3 ix @ld @st @cA) ?_;rw[Ti h g'];rw[hd,Un,fD]at NM;refine WF.gen T.c112 (IP T (B:=h) (x:=x) (by rw[<-Ti];exact oV.app _) wV Om (by rw[<-Ti];exact ox.ext Xx) ⟨by have:=(sh.e x hm).1;omega,by have:=(sh.e x hm).2;omega⟩ gl) ?_;rintro _ _ ⟨g2,V2,rfl,rfl,o2,Sj,-,-⟩;by_cases h2:dV V.bp x.ev=0
  ·have q2:decide (dV V.bp x.ev≠0)=false:=Tm (λz=>z h2);rw[Ty h2]at Sj;rw[Tt (λz=>z h2)]at NM;refine Rs (A6 t5 t14 t15 t16 q2 e5) ?_;refine⟨_,Om,k+1,g2,V2,Om,rfl,rfl,o2,by rw[Sj];exact wV.add h2,?_,by rw[Sj];exact NM,rfl⟩;have:V2.bp.cI.length=V.bp.cI.length+1:=by rw[Sj];exact tZ
   simpa [HV.bp,hVl]using this
  ·have q2:decide (dV V.bp x.ev≠0)=true:=Tq h2;rw[Ty h2]at NM;refine Rs (A6 t5 t14 t15 t16 q2 e5) ?_;unfold GD;rw[NM];refine⟨_,?_,λ_=>rfl,λz=>absurd z h2⟩;simp
 ·have e3:=jf hlt;have e4:k=L.length:=Om
  have hr0:aT (L.map EV.ev)=(V.bp,0,0):=by rw[NM,e4,UQ];rfl
  refine Rs (A5 t5 t14 t15 t16 e3) ?_;unfold GD;rw[hr0];exact⟨_,rfl,λz=>absurd rfl z,λ_=>⟨b,V,rfl,oV,rfl,wV,by simp;omega,by simp;omega⟩⟩
end
def oE(t:Int):Int:=aU t 0 999999999
def Na:decide ((0:Int)≠0)=false:=rfl
def eF(l:List db)(t:Nat)(n:By):fy×Int:=if(aT l).2.2≠0 then(fy.zero,(aT l).2.2)else((aT l).1.now,bz (!ez (aT l).1.now t n) 10)
def bT.E5{N h b V}(o:bT N h b V):∀j,some j∈V.now.bl->N<=j:=by
 rw[HV.now,UM];cases hx:V.cp.getLast? with
 |none=>intro j hj;simp[RV.zero,RV.bl,sB]at hj
 |some R=>exact o.lo R (List.mem_of_getLast? hx)
def wy{h X:af}{A C:ai}{j:Nat}(hj:h.length+1<=j):(h++[A]++X)[j]? =(h++[C]++X)[j]? :=by
 exact JX
section
variable {P:Program}(T:dB P) {h:af}
include T
def r75(t:Int):ao P 75 [.i t] h (λv _=>v=.i (oE t)):=by
 refine .mG 5 T.mix T.c75 ?_;intro ts hlen t0;unfold fn75 gA;refine Rs t0 ?_;refine WF.ce T.c94 (r94 T _ _ _) λg1=>?_
 refine Rs t0 ?_;rfl
def zl{l v k}(r:GD h l v k)(he:(aT l).2.2≠0):v=.dh [.nilPtr,.i (aT l).2.1,.i (aT l).2.2]:=by
 have:=T.mix;obtain⟨p,rfl,h1,_⟩:=r;rw[h1 he]
def sN{l v k}(r:GD h l v k)(he:(aT l).2.2=0):∃b V,v=.dh [.ptr b 0,.i 0,.i 0]/\bT h.length k b V/\V.bp=(aT l).1/\kH V.bp/\V.cI.length=l.length/\l.length<=1000/\V.cp.length<=1000/\(aT l).2.1=0/\jl V.now.aC/\V.now.aC=(aT l).1.now/\aE k V.now/\∀j,some j∈V.now.bl->h.length<=j:=by
 have:=T.mix;obtain⟨p,rfl,_,h2⟩:=r;obtain⟨b,V,rfl,h3,h4,h5,h6,h7⟩:=h2 he;have hz:(aT l).2.1=0:=by
  revert he
  unfold aT;split
  ·intro _;rfl
  ·have key:∀(l:List db) (H:gM) (i:Nat),(fD H l i).2.2=0->(fD H l i).2.1=0:=by
    intro l
    induction l with
    |nil=>intro H i _;rfl
    |cons e l ih=>
     intro H i;rw[fD];split
     case isTrue hb=>intro hc;exact absurd hc hb
     case isFalse hb=>exact ih _ _
   exact key l _ _
 have hr:V.cp.length<=1000:=by
  have e1:=h5.ln;have e2:=h5.le;exact Mu
 exact⟨b,V,by rw[hz,he],h3,h4,h5,h6,h7,hr,hz,by rw[V.gR];exact h5.now,by rw[V.gR,h4],h3.rd.now,h3.E5⟩
def r73{L:List EV}{s:AV}(o:eA h L s)(sh:uj L)(gl:Gl h){t:Nat}(ht:t<6)(n:By):ao P 73 [s,.i t,.str n] h (λv k=>∃V:RV,v=.dh [.agg V.row,.i (eF (L.map EV.ev) t n).2]/\V.aC=(eF (L.map EV.ev) t n).1/\aE k V/\jl V.aC):=by
 refine .ue 31 T.mix T.c73 ?_;intro ts hlen t0 t1 t2;unfold fn73 gA;refine Rs (A3 t0 t1 t2) ?_;refine WF.res T.c78 (r78 T (o.ext Xx) sh (gl.ext Xx)) ?_;intro v g hv;by_cases he:(aT (L.map EV.ev)).2.2=0
 ·obtain⟨b,V,rfl,oV,hV,wV,_,_,hr,_,wn,hn,on,lo⟩:=sN T hv he;have st:=@aE.st _ _ on;refine Rs (A4 t0 t1 t2 @Na) ?_;refine WF.ce T.c79 (r79 T (oV.rd.ext Xx) hr) λg2=>?_
  refine Rs (A5 t0 t1 t2 @st @bu) ?_;refine WF.ce T.c86 (r86 T (on.ext Xx) wn.len ht _) λg3=>?_
  refine Rs (A4 t0 t1 t2 @bu) ?_;refine WF.ce T.c85 (r85 T _ _) λg4=>?_
  refine Rs (A5 t0 t1 t2 @st @bu) ?_;refine⟨V.now,?_,?_,?_,wn⟩
  ·rw[eF,Tt (λz=>z he),hn]
  ·rw[eF,Tt (λz=>z he),hn]
  ·refine(on.aq (k:=h++[ai.b V.now.row]++g) λj hj=>wy (by have:=lo j hj;simpa using this)).ext Xx
 ·have OV:=zl T hv he;subst OV;have q:decide ((aT (L.map EV.ev)).2.2≠0)=true:=Tq he;refine Rs (A4 t0 t1 t2 q) ?_;refine⟨RV.zero,?_,?_,aE.zero,jl.zero⟩
  ·rw[eF,Ty he];rfl
  ·rw[eF,Ty he];rfl
def r34{L s}(o:eA h L s)(sh:uj L)(gl:Gl h):ao P 34 [s] h (λv k=>∃V:RV,v=.dh [.agg V.row,.i (aT (L.map EV.ev)).2.1,.i (aT (L.map EV.ev)).2.2]/\V.aC=(aT (L.map EV.ev)).1.now/\aE k V/\jl V.aC):=by
 refine .mG 22 T.mix T.c34 ?_;intro ts hlen t0;unfold fn34 gA;refine Rs t0 ?_;refine WF.res T.c78 (r78 T (o.ext Xx) sh (gl.ext Xx)) ?_;intro v g hv;by_cases he:(aT (L.map EV.ev)).2.2=0
 ·obtain⟨b,V,rfl,oV,hV,wV,_,_,hr,hz,wn,hn,on,lo⟩:=sN T hv he;refine Rs (A2 t0 @Na) ?_;refine WF.ce T.c79 (r79 T (oV.rd.ext Xx) hr) λg2=>?_
  refine Rs t0 ?_;refine WF.res T.c96 (r96 T (on.ext Xx) wn) ?_;rintro _ g3 ⟨VN,hVN,rfl,own⟩;have st:∀{b':Nat}{a0 a1 a2 a3 a4 a5 a6:AV},iP 7 0 (.agg VN.row) b' (.b [a0,a1,a2,a3,a4,a5,a6])=some (ar,.set b' (.b VN.row)):=λ{_ _ _ _ _ _ _ _}=>own.ok.st
  refine Rs (A3 t0 @st @bu) ?_;refine⟨VN,by rw[he,hz],by rw[hVN,hn],?_,by rw[hVN];exact wn⟩;have:=own.ok.aq (k:=h++[ai.b VN.row]++(g++g2++g3)) λj hj=>by
   have:=(own.dx hj).1;rw[show h++[ai.b [AV.int IntKind.i64 0,AV.ah,AV.ah,AV.ah,AV.ah,AV.ah,AV.ah]]++g++g2++g3=h++[ai.b [AV.int IntKind.i64 0,AV.ah,AV.ah,AV.ah,AV.ah,AV.ah,AV.ah]]++(g++g2++g3) by simp only[Ti]];exact wy (by simp only[Tg,TC]at this;omega)
  simpa only[Ti]using this
 ·have OV:=zl T hv he;subst OV;have q:decide ((aT (L.map EV.ev)).2.2≠0)=true:=Tq he;refine Rs (A2 t0 q) ?_;have hz:(aT (L.map EV.ev)).1=gM.zero:=by
   revert he
   unfold aT;split
   ·intro _;rfl
   ·have key:∀(l:List db) (H:gM) (i:Nat),(fD H l i).2.2≠0->(fD H l i).1=gM.zero:=by
     intro l
     induction l with
     |nil=>intro H i z;exact absurd rfl z
     |cons e l ih=>
      intro H i;rw[fD];split
      case isTrue hb=>intro _;rfl
      case isFalse hb=>exact ih _ _
    exact key _ _ _
  exact⟨RV.zero,rfl,by rw[hz];rfl,aE.zero,jl.zero⟩
def pL(l:List db)(e:db):Int:=
 if aG [(aT l).2.2,eS e,bz (decide (1000<=l.length)) 5]≠0 then aG [(aT l).2.2,eS e,bz (decide (1000<=l.length)) 5]else jw (aT l).1 e
def r48{L s}(o:eA h L s)(sh:uj L)(gl:Gl h){x}(ox:a8 h x)(hx:x.ev.names.length<=2^30/\x.ev.cK.length<=2^30):ao P 48 [s,.agg x.row] h (λv _=>v=.i (pL (L.map EV.ev) x.ev)):=by
 refine .dU 29 T.mix T.c48 ?_;intro ts hlen t0 t1;unfold fn48 gA;have NJ:=@a8.box _ _ ox;refine Rs (A3 t0 t1 @NJ) ?_;refine WF.res T.c78 (r78 T (o.ext Xx) sh (gl.ext Xx)) ?_;intro v g hv;obtain⟨p,RZ⟩:∃p,v=.dh [p,.i (aT (L.map EV.ev)).2.1,.i (aT (L.map EV.ev)).2.2]:=by obtain⟨p,h1,_⟩:=hv;exact⟨p,h1⟩
 rw[RZ];refine Rs (A3 t0 t1 @cA) ?_;refine WF.ce T.c67 (r67 T (ox.ext Xx) ⟨Om,Om⟩) λg1=>?_
 refine Rs (A3 t0 t1 o.sl.bh) ?_;refine WF.ce T.c85 (r85 T _ _) λg2=>?_
 refine Rs t0 ?_;refine WF.ce T.c74 (r74 T (bG [_,_,_]) Si) λg3=>?_
 have ed:decide ((1000:Int)<=(L.length:Int))=decide (1000<=(L.map EV.ev).length):=UW.2 (by simp;omega);rw[ed];obtain⟨f,hf⟩:∃f,f=aG [(aT (L.map EV.ev)).2.2,eS x.ev,bz (decide (1000<=(L.map EV.ev).length)) 5]:=⟨_,rfl⟩;rw[<-hf,pL,<-hf];by_cases h0:f=0
 case neg=>
  have q:decide (f≠0)=true:=Tq h0;refine Rs (A3 t0 t1 q) ?_;rw[Ty h0]
 have q:decide (f≠0)=false:=Tm (λz=>z h0);rw[Tt (λz=>z h0)];rw[hf]at h0;have f3:∀a b c:Int,aG [a,b,c]=0->a=0/\b=0:=λa b c hh=>by
  simp only[aG]at hh;split at hh
  ·rename_i ha;split at hh
   ·rename_i hb;exact⟨ha,hb⟩
   ·rename_i hb;exact absurd hh hb
  ·rename_i ha;exact absurd hh ha
 obtain⟨he,hc⟩:=f3 _ _ _ h0;obtain⟨b,V,R0,oV,hV,wV,Sg,hle,hr,hz,wn,hn,on,lo⟩:=sN T hv he;rw[RZ]at R0;have hpb:p=.ptr b 0:=by injection R0 with h1;injection h1
 obtain⟨d,wx⟩:=vp hc;rw[hpb];refine Rs (A4 t0 t1 q @cA) ?_;refine WF.ce T.c116 (r116 T (d:=d) (oV.rd.ext Xx) wV Om (ox.ext Xx) wx (gl.ext Xx)) λg4=>?_
 refine Rs (A2 t0 t1) ?_;rw[hV]
end
def uQ{l t n}(h:(eF l t n).2=0):(aT l).2.2=0/\(eF l t n).1=(aT l).1.now/\n∈Es (aT l).1.now t:=by
 unfold eF at h ⊢;split at h
 case isTrue h1=>exact absurd h h1
 case isFalse h1=>
  rw[Tt h1];refine⟨U1.1 h1,rfl,?_⟩;by_cases hh:ez (aT l).1.now t n=true
  ·unfold ez at hh;exact UH hh
  ·have:ez (aT l).1.now t n=false:=by simpa using hh
   simp only[this,bz]at h;exact absurd h De
def sK(l:List db)(n:By)(t:Int):Bool×Int:=
 if aG [(eF l 2 n).2,oE t]≠0 then(false,aG [(eF l 2 n).2,oE t])else(js (eF l 2 n).1 (sE (eF l 2 n).1 n) t,0)
def nZ(l:List db)(t:Int):List (By)×Int:=
 if aG [(aT l).2.2,oE t]≠0 then([],aG [(aT l).2.2,oE t])else(iO (aT l).1.now t,0)
def qC(l:List db)(n:By):List Int×Int:=if(eF l 4 n).2≠0 then([],(eF l 4 n).2)else(bR (fQ (eF l 4 n).1 n).bQ 0,0)
def zZ{a b}(h:aG [a,b]=0):a=0/\b=0:=by
 simp only[aG]at h;split at h
 ·rename_i ha;split at h
  ·rename_i hb;exact⟨ha,hb⟩
  ·rename_i hb;exact absurd h hb
 ·rename_i ha;exact absurd h ha
section
variable {P:Program}(T:dB P) {h:af}
include T
def r16{L s}(o:eA h L s)(sh:uj L)(gl:Gl h)(n:By)(t:Int):ao P 16 [s,.str n,.i t] h (λv _=>v=.dh [.bool (sK (L.map EV.ev) n t).1,.i (sK (L.map EV.ev) n t).2]):=by
 refine .ue 31 T.mix T.c16 ?_;intro ts hlen t0 t1 t2;unfold fn16 gA;refine Rs (A3 t0 t1 t2) ?_;refine WF.res T.c73 (r73 T (o.ext Xx) sh (gl.ext Xx) (t:=2) De n) ?_;rintro _ g ⟨V,rfl,hV,oV,wV⟩;have st:∀{b':Nat}{a0 a1 a2 a3 a4 a5 a6:AV},iP 7 0 (.agg V.row) b' (.b [a0,a1,a2,a3,a4,a5,a6])=some (ar,.set b' (.b V.row)):=λ{_ _ _ _ _ _ _ _}=>oV.st
 refine Rs (A5 t0 t1 t2 @st @bu) ?_;refine WF.ce T.c75 (r75 T t) λg1=>?_
 refine Rs (A3 t0 t1 t2) ?_;refine WF.ce T.c74 (r74 T (bG [_,_]) Si) λg2=>?_
 obtain⟨f,hf⟩:∃f,f=aG [(eF (L.map EV.ev) 2 n).2,oE t]:=⟨_,rfl⟩;rw[<-hf,sK,<-hf];by_cases h0:f=0
 case neg=>
  have q:decide (f≠0)=true:=Tq h0;rw[Ty h0];exact Rs (A4 t0 t1 t2 q) Tv
 have q:decide (f≠0)=false:=Tm (λz=>z h0);rw[Tt (λz=>z h0)];rw[hf]at h0;obtain⟨he,hne,hm⟩:=uQ (zZ h0).1;rw[<-hne,<-hV]at hm;refine Rs (A5 t0 t1 t2 q @bu) ?_;refine WF.res T.c77 (r77 T (oV.ext Xx) wV.len hm) ?_;rintro _ g3 ⟨x,hx,PO,rfl⟩;refine Rs (A3 t0 t1 t2) ?_;refine WF.ce T.c76 (r76 T (oV.ext Xx) wV.len ((oV.e2 x hx).ext Xx) (wV.zX.sh x hx).2 (wV.zX.sh x hx).1 t) λg4=>?_
 refine Rs (A3 t0 t1 t2) ?_;rw[PO,hV]
def r17{L s}(o:eA h L s)(sh:uj L)(gl:Gl h)(t:Int):ao P 17 [s,.i t] h (λv k=>∃s',v=.dh [s',.i (nZ (L.map EV.ev) t).2]/\aA k s' 1 ((nZ (L.map EV.ev) t).1.map an)):=by
 refine .dU 28 T.mix T.c17 ?_;intro ts hlen t0 t1;unfold fn17 gA;refine Rs (A2 t0 t1) ?_;refine WF.res T.c78 (r78 T (o.ext Xx) sh (gl.ext Xx)) ?_;intro v g hv;obtain⟨p,RZ⟩:∃p,v=.dh [p,.i (aT (L.map EV.ev)).2.1,.i (aT (L.map EV.ev)).2.2]:=by obtain⟨p,h1,_⟩:=hv;exact⟨p,h1⟩
 rw[RZ];refine Rs (A2 t0 t1) ?_;refine WF.ce T.c75 (r75 T t) λg1=>?_
 refine Rs (A2 t0 t1) ?_;refine WF.ce T.c74 (r74 T (bG [_,_]) Si) λg2=>?_
 obtain⟨f,hf⟩:∃f,f=aG [(aT (L.map EV.ev)).2.2,oE t]:=⟨_,rfl⟩;rw[<-hf,nZ,<-hf];by_cases h0:f=0
 case neg=>
  have q:decide (f≠0)=true:=Tq h0;rw[Ty h0];refine Rs (A3 t0 t1 q) ?_;exact⟨_,rfl,.nil⟩
 have q:decide (f≠0)=false:=Tm (λz=>z h0);rw[Tt (λz=>z h0)];rw[hf]at h0;obtain⟨b,V,R0,oV,hV,wV,Sg,hle,hr,hz,wn,hn,on,lo⟩:=sN T hv (zZ h0).1;rw[RZ]at R0;have hpb:p=.ptr b 0:=by injection R0 with h1;injection h1
 rw[hpb];refine Rs (A3 t0 t1 q) ?_;refine WF.ce T.c79 (r79 T (oV.rd.ext Xx) hr) λg3=>?_
 refine Rs (A2 t0 t1) ?_;refine WF.res T.c80 (r80 T (on.ext Xx) wn.len wn.zX t) ?_;rintro v4 g4 h4;refine Rs (A2 t0 t1) ?_;rw[hn]at h4;exact⟨_,rfl,h4⟩
def r53{L s}(o:eA h L s)(sh:uj L)(gl:Gl h)(n:By):ao P 53 [s,.str n] h (λv k=>∃s',v=.dh [s',.i (qC (L.map EV.ev) n).2]/\aA k s' 1 ((qC (L.map EV.ev) n).1.map aB)):=by
 refine .dU 21 T.mix T.c53 ?_;intro ts hlen t0 t1;unfold fn53 gA;refine Rs (A2 t0 t1) ?_;refine WF.res T.c73 (r73 T (o.ext Xx) sh (gl.ext Xx) (t:=4) De n) ?_;rintro _ g ⟨V,rfl,hV,oV,wV⟩;have st:∀{b':Nat}{a0 a1 a2 a3 a4 a5 a6:AV},iP 7 0 (.agg V.row) b' (.b [a0,a1,a2,a3,a4,a5,a6])=some (ar,.set b' (.b V.row)):=λ{_ _ _ _ _ _ _ _}=>oV.st
 rw[qC];by_cases h0:(eF (L.map EV.ev) 4 n).2=0
 case neg=>
  have q:decide ((eF (L.map EV.ev) 4 n).2≠0)=true:=Tq h0;exact JU
 have q:decide ((eF (L.map EV.ev) 4 n).2≠0)=false:=Tm (λz=>z h0);rw[Tt (λz=>z h0)];obtain⟨he,hne,hm⟩:=uQ h0;rw[<-hne,<-hV]at hm;refine Rs (A5 t0 t1 @st q @bu) ?_;refine WF.res T.c124 (r124 T (oV.ext Xx) wV.len hm) ?_;rintro _ g3 ⟨x,hx,PO,rfl⟩;have hj:=wV.jb x.1 (TR hx);refine Rs (A2 t0 t1) ?_;refine WF.res T.c125 (r125 T ((oV.e4 x hx).ext Xx) Om (λs hs=>(hj.2.2.2 s hs).1)) ?_;rintro v4 g4 h4;refine Rs (A2 t0 t1) ?_;rw[PO,hV]at h4;exact⟨_,rfl,h4⟩
def r219{x:km×AV}(ox:x.2.one=true){S:List jx}{s:AV}(hs:aA h s 3 (S.map bX))(hl:S.length<2^63){b:Nat}(hb:h[b]? =some (.b [s])):
  ao P 219 [.agg (aW x),.ptr b 0] h (λv _=>v=.bool (decide (x.1.line∈S.map jx.name))):=by
 refine .dU 9 T.mix T.c219 ?_;intro ts hlen t0 t1;unfold fn219 gA;have lb:∀{k:af}{n':Option Nat}{a:Nat},Ext h k->au n' (.ptr b a) (λz=>k[z]?)=dy n' a (.b [s]):=λe=>az (e.some hb)
 unfold aW at t0;refine Rs (A4 t0 t1 @ox @lb) ?_;refine WF.ce T.c142 (r142 T (hs.ext Xx) hl _) λg1=>?_
 rw[show(λy:jx=>decide (y.name=x.1.line))=λy=>decide (jx.name y=x.1.line)from rfl];refine Rs (A2 t0 t1) ?_;rw[iZ]
def r126{V:RV}(o:aE h V)(w:jl V.aC){p:By}(hp:p∈kP V.aC):ao P 126 [.agg V.row,.str p] h (λv h'=>aA h' v 1 ((lF V.aC p).map an)):=by
 refine .dU 20 T.mix T.c126 ?_;intro ts hlen t0 t1;unfold fn126 gA;have NJ:=@aE.box _ _ o;have l:=w.len;have hpc:=fK (f:=mA.name) (l:=V.aC.aO) (n:=p) (d:=EU) hp;have hj:=(w.pc _ hpc).1;refine Rs (A4 t0 t1 @NJ @bu) ?_;refine WF.ce T.c218 (r218 T (o.ext Xx) l hp) λg1=>?_
 have pj:(cS (lH V.aC p))[1]? =some (.str (lH V.aC p).A1):=rfl;unfold cS;refine Rs (A3 t0 t1 @bu) ?_;refine WF.res T.c124 (r124 T (o.ext Xx) l hj) ?_;rintro _ g2 ⟨x,hx,PO,rfl⟩;unfold bI;refine Rs (A3 t0 t1 @bu) ?_;have hin:∀x∈V.aI,x.1.bt.length<2^30:=λx hx=>by have:=(w.md x.1 (TR hx)).2.1;omega
 refine WF.res T.c122 (r122 T (o.ext Xx) l hin _) ?_;rintro v3 g3 h3;have ov:=h3.one;have hsl:(jA V.aC x.1.mod).length<2^30:=by
  have h1:(jA V.aC x.1.mod).length<=V.aC.lines.length:=by unfold jA;exact Uc _ _
  have:=w.l0;omega
 have sn:∀{N:Nat},iP 1 0 v3 N (.b [.ah])=some (ar,.set N (.b [v3])):=λ{_}=>dR ov Si
 refine Rs (A6 t0 t1 @kB @jB @ov @sn) ?_;refine WF.res T.c138 (r138 T (o.i2.ext Xx) o.gB.1 (by have:=l.l2;omega) (λy=>decide (y.1.line∈(jA V.aC x.1.mod).map jx.name)) (λy hy k e=>aQ.of (a:=[]) T.c219 (r219 T (o.gB.1 y hy) (h3.ext (Ext.trans Xx e)) Om (e.some bF)))) ?_;rintro s4 g4 h4;have Of:(V.al.filter λy=>decide (y.1.line∈(jA V.aC x.1.mod).map jx.name)).length<=V.al.length:=Uc _ _;refine Rs (A2 t0 t1) ?_;refine WF.res T.c137 (r137 T h4.aN (λx hx=>o.gB.1 x ((UK.1 hx).1)) (by have:=l.l2;omega) (λx=>x.1.name) (λx hx k e=>aQ.of (a:=[]) (c:=[]) T.c140 (r140 T x (o.gB.1 x ((UK.1 hx).1))))) ?_
 rintro s5 g5 h5;have:=h5.aN;refine Rs (A2 t0 t1) ?_;have e:lF V.aC p=(V.al.filter λy=>decide (y.1.line∈(jA V.aC x.1.mod).map jx.name)).map λx=>x.1.name:=by
  rw[lF,<-PO];simp only[RV.aC,Vq,U7];rfl
 rw[e];exact this
def sW(l:List db)(n:By):List (By)×Int:=if(eF l 5 n).2≠0 then([],(eF l 5 n).2)else(lF (eF l 5 n).1 n,0)
def r54{L s}(o:eA h L s)(sh:uj L)(gl:Gl h)(n:By):ao P 54 [s,.str n] h (λv k=>∃s',v=.dh [s',.i (sW (L.map EV.ev) n).2]/\aA k s' 1 ((sW (L.map EV.ev) n).1.map an)):=by
 refine .dU 20 T.mix T.c54 ?_;intro ts hlen t0 t1;unfold fn54 gA;refine Rs (A2 t0 t1) ?_;refine WF.res T.c73 (r73 T (o.ext Xx) sh (gl.ext Xx) (t:=5) De n) ?_;rintro _ g ⟨V,rfl,hV,oV,wV⟩;have st:∀{b':Nat}{a0 a1 a2 a3 a4 a5 a6:AV},iP 7 0 (.agg V.row) b' (.b [a0,a1,a2,a3,a4,a5,a6])=some (ar,.set b' (.b V.row)):=λ{_ _ _ _ _ _ _ _}=>oV.st
 rw[sW];by_cases h0:(eF (L.map EV.ev) 5 n).2=0
 case neg=>
  have q:decide ((eF (L.map EV.ev) 5 n).2≠0)=true:=Tq h0;exact JU
 have q:decide ((eF (L.map EV.ev) 5 n).2≠0)=false:=Tm (λz=>z h0);rw[Tt (λz=>z h0)];obtain⟨he,hne,hm⟩:=uQ h0;rw[<-hne,<-hV]at hm;refine Rs (A5 t0 t1 @st q @bu) ?_;refine WF.res T.c126 (r126 T (oV.ext Xx) wV hm) ?_;rintro v4 g4 h4;refine Rs (A2 t0 t1) ?_;rw[hV]at h4;exact⟨_,rfl,h4⟩
def x8(l:List Int):Int×Int:=
 if aG [bz (decide (l.length=0)) 12,bz (decide (32<l.length)) 5]≠0 then(0,aG [bz (decide (l.length=0)) 12,bz (decide (32<l.length)) 5])
 else if aG (l.map λn=>aU n 0 999999999)≠0 then(0,aG (l.map λn=>aU n 0 999999999))else(ia l,0)
def r93(n:Int):ao P 93 [.i n] h (λv _=>v=.i (aU n 0 999999999)):=by
 refine .mG 5 T.mix T.c93 ?_;intro ts hlen t0;unfold fn93 Hr;refine Rs t0 ?_;refine WF.ce T.c94 (r94 T _ _ _) λg1=>?_
 exact Rs t0 Tv
def r27{s l}(hs:aA h s 1 (l.map aB))(hl:l.length<2^30):ao P 27 [s] h (λv _=>v=.dh [.i (x8 l).1,.i (x8 l).2]):=by
 refine .mG 27 T.mix T.c27 ?_;intro ts hlen t0;unfold fn27 gA;refine Rs (A2 t0 hs.bh) ?_;refine WF.ce T.c85 (r85 T _ _) λg1=>?_
 refine Rs (A2 t0 hs.bh) ?_;refine WF.ce T.c85 (r85 T _ _) λg2=>?_
 refine Rs t0 ?_;refine WF.ce T.c74 (r74 T (bG [_,_]) Si) λg3=>?_
 have e1:decide ((l.length:Int)=0)=decide (l.length=0):=UW.2 Om;have e2:decide ((32:Int)<(l.length:Int))=decide (32<l.length):=UW.2 Om;rw[e1,e2];obtain⟨f,hf⟩:∃f,f=aG [bz (decide (l.length=0)) 12,bz (decide (32<l.length)) 5]:=⟨_,rfl⟩;rw[<-hf,x8,<-hf];by_cases h0:f=0
 case neg=>
  have q:decide (f≠0)=true:=Tq h0;rw[Ty h0];exact Rs (A2 t0 q) Tv
 have q:decide (f≠0)=false:=Tm (λz=>z h0);rw[Tt (λz=>z h0)];refine Rs (A2 t0 q) ?_;refine WF.res T.c92 (r92 T (hs.ext Xx) Om (λn=>aU n 0 999999999) (λn _ k _=>aQ.of (a:=[]) (c:=[]) T.c93 (r93 T n))) ?_;rintro s4 g4 hf4;refine Rs t0 ?_;refine WF.ce T.c74 (r74 T hf4.aN (by simp;omega)) λg5=>?_
 by_cases h1:aG (l.map λn=>aU n 0 999999999)=0
 case neg=>
  have q:decide (aG (l.map λn=>aU n 0 999999999)≠0)=true:=Tq h1;rw[Ty h1];exact Rs (A2 t0 q) Tv
 have q1:decide (aG (l.map λn=>aU n 0 999999999)≠0)=false:=Tm (λz=>z h1);rw[Tt (λz=>z h1)];have hb:∀n∈l,-1<=n/\n<=999999999:=λn hn=>by
  rw[nP]at h1;split at h1
  ·exact absurd h1 De
  case isFalse hh=>
   have:=fI (n:=n) (lo:=0) (hi:=999999999) λz=>hh (UR.2 ⟨n,hn,by simpa using z⟩)
   omega
 refine Rs (A2 t0 q1) ?_;refine WF.ce T.c95 (r95 T (hs.ext Xx) hl hb) λg6=>?_
 exact Rs t0 Tv
end
def wg(l:List db)(n:By):List (By)×Int:=if(eF l 3 n).2≠0 then([],(eF l 3 n).2)else((te (eF l 3 n).1 n).map jo.name,0)
def B8{h X:af}{A A' R R':ai}{j:Nat}(hj:h.length+2<=j):(h++[A]++[R]++X)[j]? =(h++[A']++[R']++X)[j]? :=by
 exact JX
def CM:aj:=((fn213).body.tl).hd
def Jk:aj:=CM.tl.uS
def L8:aj:=(fn213).body.tl.tl
def Jj:(fn213).body=.seq ((fn213).body.hd) (.seq (.seq CM.hd (.block 0 (.eM (.t 6) [7] Jk.Bx Jk.A0))) L8):=rfl
section
variable {P:Program}(T:dB P) {h:af}
include T
def r213{f:FuncId}{A:ak}(hA:bf P f=some A){a c:List AV}{L:List (jo×AV)}{pre:af->Prop}(hi:IterM P f a c (L.map λx=>[.agg (aL x)]) pre)(ho:∀x∈L,x.2.one=true)(hl:L.length<=2^30)(hp:pre h)(hpe:∀k,Ext h k->pre k):
  ao P 213 [.ah,.func (.func f) a c] h (λv k=>aA k v 4 (L.map aL)):=by
 refine .of T.mix T.c213 ?_;obtain⟨ts,NK⟩:∃ts,ts=aM 13 [.ah,.func (.func f) a c]:=⟨_,rfl⟩;have hlen:ts.length=13:=by rw[NK];rfl
 have t0:slot ts 0=.ah:=by rw[NK];rfl
 have t1:slot ts 1=.func (.func f) a c:=by rw[NK];rfl
 show WC P bS (fn213).body [] (aM 13 [.ah,.func (.func f) a c]) h _;rw[<-NK,Jj];clear NK;obtain⟨RR,Ou⟩:∃RR,RR=L8:=⟨_,rfl⟩;obtain⟨RA,Sl⟩:∃RA,RA=Jk.Bx:=⟨_,rfl⟩;obtain⟨RB,Sk⟩:∃RB,RB=Jk.A0:=⟨_,rfl⟩;rw[<-Ou,<-Sl,<-Sk];unfold CM fn213 gA;simp only[aj.tl,aj.hd];refine Rs (A2 t0 t1) ?_;refine WC.iterM T.mix hA (a:=a) (c:=c) (Sq t0) hi (λy hy=>by obtain⟨z,_,rfl⟩:=TI.1 hy;rfl)
  (λmm i h' g=>∃sl:AV,h' =h++[ai.b [sl]]/\h'.length+1<=mm/\mm<=h'.length+1+g.length/\i<=L.length/\∀R:ai,Fr mm (h'++[R]++g) sl 4 ((L.take i).map aL)) (λ_ _ _=>False)
  (λg=>⟨.ah,rfl,Om,Ts _,TJ _,λR=>.nil⟩)
  (λmm i h' g g' hI=>by
   obtain⟨sl,a1,a2,a3,a4,a5⟩:=hI;exact⟨sl,a1,a2,by rw[Tg];omega,a4,λR=>by rw[<-Ti];exact(a5 R).app _⟩)
  (λX=>hpe _ Xx) (λmm i h' g X N1 hI=>by obtain⟨sl,rfl,_⟩:=hI;exact hpe _ Xx) (λmm i hi' h' g R B N1 hI=>?_) (λe h' g N1 hI=>?_)
 ·obtain⟨sl,rfl,Qu,Rf,hi0,hfr⟩:=hI;have hiL:i<L.length:=by simpa using hi'
  rw[Ux,Sl,Sk];obtain⟨x,hx⟩:∃x,x=L[i]:=⟨_,rfl⟩;have ox:=ho x (by rw[hx];exact TE _);have Oy:L.take (i+1)=L.take i++[x]:=by rw[hx,T9,Tk hiL];rfl
  rw[<-hx];unfold Jk CM fn213 gA;simp only[aj.tl,aj.hd,aj.uS,aj.Bx,aj.A0,setArgs,aL];refine Rs (A3 t0 t1 @ox) ?_;refine⟨_,g++[ai.b [AV.str x.1.name,.str x.1.gives,.str x.1.line,x.2]],by rw[<-Ti],N1,?_⟩;rw[<-Ti];have lb:∀{Z:af}{n a},au n (.ptr h.length a) (λz=>(h++[ai.b [sl]]++[B]++g++Z)[z]?)=dy n a (.b [sl]):=λ{_ _ _}=>az p9
  have lx:∀{n a},au n (.ptr (h++[ai.b [sl]]++[R]++g).length a) (λz=>(h++[ai.b [sl]]++[B]++g++[ai.b [AV.str x.1.name,.str x.1.gives,.str x.1.line,x.2]])[z]?)=dy n a (.b [AV.str x.1.name,.str x.1.gives,.str x.1.line,x.2]):=λ{_ _}=>by
   have:(h++[ai.b [sl]]++[R]++g).length=(h++[ai.b [sl]]++[B]++g).length:=Si
   rw[this];exact az bF
  refine Rs (A5 t0 t1 @ox @lb @lx) ?_;obtain⟨gt,Qk⟩:∃gt,gt=g.take (mm-(h.length+2)):=⟨_,rfl⟩;have Rz:h.length+2<=mm/\mm<=h.length+2+g.length:=by
   simp only[Tg,Tl,Tr]at Qu Rf;omega
  have hgl:gt.length=mm-(h.length+2):=by rw[Qk,UB];omega
  have hgs:g=gt++g.drop (mm-(h.length+2)):=by rw[Qk,Uz]
  have h0l:(h++[ai.b [sl]]++[B]++gt).length=mm:=by
   exact GW
  have hfs:Fr (h++[ai.b [sl]]++[B]++gt).length (h++[ai.b [sl]]++[B]++g++[ai.b [AV.str x.1.name,.str x.1.gives,.str x.1.line,x.2]]++[ai.cells [AV.str x.1.name,.str x.1.gives,.str x.1.line,x.2] true true]) sl 4 ((L.take i).map aL):=by
   rw[h0l];exact((hfr B).app _).app _
  have hext:Ext (h++[ai.b [sl]]++[B]++gt) (h++[ai.b [sl]]++[B]++g++[ai.b [AV.str x.1.name,.str x.1.gives,.str x.1.line,x.2]]++[ai.cells [AV.str x.1.name,.str x.1.gives,.str x.1.line,x.2] true true]):=by
   refine⟨g.drop (mm-(h.length+2))++[ai.b [AV.str x.1.name,.str x.1.gives,.str x.1.line,x.2]]++[ai.cells [AV.str x.1.name,.str x.1.gives,.str x.1.line,x.2] true true],?_⟩
   conv=>lhs;rw[hgs]
   simp only[Ti]
  refine WR.fN (h0:=h++[ai.b [sl]]++[B]++gt) (cs:=(L.take i).map aL) (ys:=[aL x]) hfs (Fr.push (N:=0) (TJ _) [aL x] (by simp[aL])).aN De Si (by simp only[Tu,UB,Tl,Tr];omega) hext ?_;intro g' hlg hff hkp;have hrow:(L.take i).map aL++[aL x]=(L.take (i+1)).map aL:=by rw[Oy,Tx];rfl
  rw[hrow]at hff;rw[hrow];obtain⟨sn,Oe⟩:∃sn,sn=AV.slice (h++[ai.b [sl]]++[B]++g++[ai.b [AV.str x.1.name,.str x.1.gives,.str x.1.line,x.2]]++[ai.cells [AV.str x.1.name,.str x.1.gives,.str x.1.line,x.2] true true]).length 0 ((L.take (i+1)).map aL).length 4:=⟨_,rfl⟩;rw[<-Oe]at hff ⊢;have osn:sn.one=true:=by rw[Oe];rfl
  have st:bB 1 (.ptr h.length 0) sn (λz=>(h++[ai.b [sl]]++[B]++gt++g')[z]?)=some (ar,.set h.length (.b [sn])):=by
   have:(h++[ai.b [sl]]++[B]++gt++g')[h.length]? =some (.b [sl]):=p9;rw[aX this];exact dR osn Si
  refine Rs (A3 t0 t1 @st) ?_;refine⟨h++[ai.b [sn]],gt++g',by simp only[Ti],Si,λy hy=>?_,sn,rfl,by simp only[Tg,Tl,Tr];omega,?_,Om,λR'=>?_⟩
  ·have Pr:y<gt.length:=by
    simp only[Tg,Tl,Tr]at hy;omega
   rw[Tj Pr]
   conv=>rhs;rw[hgs]
   rw[Tj Pr]
  ·exact GW
  ·rw[<-h0l];refine hff.ay λb hb=>?_
   have hbb:=(hff.bN hb).1;rw[h0l]at hbb;rw[Ti _ gt];exact B8 Om
 ·by_cases N9:e=.normal
  case neg=>rw[Tt N9]at hI;exact hI.elim
  subst N9;rw[Ty rfl]at hI;obtain⟨mm,sl,rfl,_,_,_,hfr⟩:=hI;rw[Tu,T7]at hfr;rw[Ou];have hf:=(hfr ai.dead).aN;have lb:∀{n a},au n (.ptr h.length a) (λz=>(h++[ai.b [sl]]++[ai.dead]++g)[z]?)=dy n a (.b [sl]):=λ{_ _}=>az yi
  unfold L8 fn213 gA;simp only[aj.tl,aj.hd];refine Rs (A3 t0 t1 @lb) ?_;exact hf
def r118{f:FuncId}{A:ak}(hA:bf P f=some A){a c:List AV}{L:List (jo×AV)}{pre:af->Prop}(hi:IterM P f a c (L.map λx=>[.agg (aL x)]) pre)(ho:∀x∈L,x.2.one=true)(hl:L.length<=2^30)(hp:pre h)(hpe:∀k,Ext h k->pre k):
  ao P 118 [.func (.func f) a c] h (λv k=>aA k v 4 (L.map aL)):=by
 refine .mG 5 T.mix T.c118 ?_;intro ts hlen t0;unfold fn118 gA;refine Rs t0 ?_;refine WF.res T.c213 (r213 T hA hi ho hl hp hpe) ?_;rintro v g1 h1;refine Rs t0 ?_;exact h1
def r51{L:List EV}{s:AV}(o:eA h L s)(sh:uj L)(gl:Gl h)(n:By):ao P 51 [s,.str n] h (λv k=>∃s',v=.dh [s',.i (wg (L.map EV.ev) n).2]/\aA k s' 1 ((wg (L.map EV.ev) n).1.map an)):=by
 refine .dU 22 T.mix T.c51 ?_;intro ts hlen t0 t1;unfold fn51 gA;refine Rs (A2 t0 t1) ?_;refine WF.res T.c73 (r73 T (o.ext Xx) sh (gl.ext Xx) (t:=3) De n) ?_;rintro _ g ⟨V,rfl,hV,oV,wV⟩;have st:∀{b':Nat}{a0 a1 a2 a3 a4 a5 a6:AV},iP 7 0 (.agg V.row) b' (.b [a0,a1,a2,a3,a4,a5,a6])=some (ar,.set b' (.b V.row)):=λ{_ _ _ _ _ _ _ _}=>oV.st
 rw[wg];by_cases h0:(eF (L.map EV.ev) 3 n).2=0
 case neg=>
  have q:decide ((eF (L.map EV.ev) 3 n).2≠0)=true:=Tq h0;exact JU
 have q:decide ((eF (L.map EV.ev) 3 n).2≠0)=false:=Tm (λz=>z h0);rw[Tt (λz=>z h0)];refine Rs (A5 t0 t1 @st q @bu) ?_;have hin:∀x∈V.aI,x.1.bt.length<2^30:=λx hx=>by have:=(wV.md x.1 (TR hx)).2.1;omega
 have ov1:∀x∈gC V n,x.2.one=true:=λx hx=>oV.gB.2.1 x (UK.1 hx).1
 have Ry:(gC V n).length<=2^30:=by
  have h1:(gC V n).length<=V.aI.length:=by unfold gC;exact Uc _ _
  have:=wV.len.l3;omega
 refine WF.res T.c119 (r119 T (oV.ext Xx) n) ?_;rintro _ g1 ⟨rfl,hp⟩;refine Rs (A2 t0 t1) ?_;refine WF.res T.c118 (r118 T T.c214 (a:=[]) (pr T wV.len hin n _ _) ov1 Ry hp (λk e=>nU.ext hp e)) ?_;rintro v2 g2 h2;refine Rs (A2 t0 t1) ?_;refine WF.res T.c117 (r117 T h2 ov1 Om (λx=>x.1.name) (λx hx k _=>aQ.of (a:=[]) (c:=[]) T.c120 (r120 T x (ov1 x hx)))) ?_;rintro v3 g3 h3;refine Rs (A2 t0 t1) ?_;refine⟨_,rfl,?_⟩;have:=h3.aN;rw[<-hV,<-qx,U7 (g:=jo.name)];exact this
end
structure yC(N:Nat)(h:af)(out:AV)(x:EV):Prop where
 n:Fr N h x.sn 1 (x.ev.names.map an)
 v:Fr N h x.sv 1 (x.ev.cK.map aB)
 dn:∀j,sB x.sn=some j->sB out≠some j
 dv:∀j,sB x.sv=some j->sB out≠some j
def yC.ok{N h out x}(o:yC N h out x):a8 h x:=⟨o.n.aN,o.v.aN⟩
theorem yC.app{N h out x}(o:yC N h out x)(g:af):yC N (h++g) out x:=⟨o.n.app g,o.v.app g,o.dn,o.dv⟩
def ni(n:By)(e:db):Bool:=
 match BW (mH e)with
 |none=>false
 |some 3=>true
 |some i=>decide (ba e i=n)
def HS(l:List db):List db:=l.mapIdx λi e=>{e with num:=(i:Int)+1}
def kL(l:List db)(n:By):List db×Int:=
 if aG [(aT l).2.2,bz (decide ((aT l).2.2=0) && !ez (aT l).1.now 0 n) 10]≠0 then([],aG [(aT l).2.2,bz (decide ((aT l).2.2=0) && !ez (aT l).1.now 0 n) 10])
 else(HS ((aT l).1.eC.filter (ni n)),0)
section
variable {P:Program}(T:dB P) {h:af}
include T
def r87{L s}(hs:eA h L s)(hl:L.length<=2^30)(hle:∀x∈L,x.ev.names.length<=2^30/\x.ev.cK.length<=2^30):
  ao P 87 [s,.func (.func 91) [] []] h (λv h'=>∃L':List EV,L'.map EV.ev=L.map EV.ev/\Fr h.length h' v 5 (L'.map EV.row)/\∀x∈L',yC h.length h' v x):=by
 refine .dU 22 T.mix T.c87 ?_;intro ts hlen t0 t1;unfold fn87;refine Rs (A3 t0 t1 hs.sl.bh) ?_;refine WL.inv T.mix (λn ts h'=>∃(k:Nat) (out:AV) (L':List EV) (g:af),k<=L.length/\n=L.length-k/\h' =h++g/\L'.map EV.ev=(L.take k).map EV.ev/\Fr h.length (h++g) out 5 (L'.map EV.row)/\(∀x∈L',yC h.length (h++g) out x)/\
   ts.length=22/\slot ts 1=.func (.func 91) [] []/\slot ts 5=out/\slot ts 8=s/\slot ts 9=.i L.length/\slot ts 10=.i k) L.length
  ⟨0,.ah,[],[],Om,rfl,Si,rfl,.nil,(λx hx=>by cases hx),Sn,(Sq t1),Sw,(Sq t0),Sw,my⟩ ?_
 rintro _ ts _ ⟨k,out,L',g,hk,rfl,rfl,hm,hfr,hin,hlen,t1,t5,t8,t9,t10⟩;have Rl:L'.length=k:=by have:=TO List.length hm;simp at this;omega
 by_cases hlt:k<L.length
 ·have e3:=hX hlt;have e5:=wrapN (n:=k) Om;have ix:=hs.sl.eX (kk:=.i64) hlt;have ld:∀{k'},Ext (h++g) k'->au (some 5) (dG s 5 k) (λb=>k'[b]?)=some (.agg (EV.row L[k]),.aq):=λ{k'} e=>hs.sl.lO hlt (Ext.trans Xx e)
  obtain⟨x,hx⟩:∃x,x=L[k]:=⟨_,rfl⟩;have Qu:x∈L:=by rw[hx];exact TE _
  have Oy:L.take (k+1)=L.take k++[x]:=by rw[hx,T9,Tk hlt];rfl
  rw[<-hx]at ld;have ox:=hs.all x Qu;have st:∀{b':Nat}{a0 a1 a2 a3 a4:AV},iP 5 0 (.agg x.row) b' (.b [a0,a1,a2,a3,a4])=some (ar,.set b' (.b x.row)):=λ{_ _ _ _ _ _}=>ox.st
  refine Rs (yD t1 t5 t8 t9 t10 e3 ix @ld @st @cA) ?_;refine WF.res T.c91 (r91 T x (ox.ext Xx) ⟨by have:=(hle x Qu).1;omega,by have:=(hle x Qu).2;omega⟩) ?_;rintro _ g1 ⟨x',NL,rfl,fn,fv⟩;have RS:a8 (h++g++[ai.b x.row]++g1) x':=⟨by rw[NL];exact fn.aN,by rw[NL];exact fv.aN⟩;have bs:=@a8.FU _ _ RS;refine Rs (A6 t1 t5 t8 t9 t10 @bs) ?_;refine WR.fN (h0:=h) (cs:=L'.map EV.row) (ys:=[x'.row]) (((hfr.app _).app _).app _) (Fr.push (N:=0) (TJ _) [x'.row] (by intro y hy;rw[TD]at hy;rw[hy];rfl)).aN De Si (by simp only[Tu,Tl,Tr];omega) Xx ?_;intro g' N1 hff hkp;have hrow:L'.map EV.row++[x'.row]=(L'++[x']).map EV.row:=by rw[Tx];rfl
  rw[hrow]at hff;rw[hrow];obtain⟨sn,Oe⟩:∃sn,sn=AV.slice (h++g++[ai.b x.row]++g1++[ai.cells x'.row true true]).length 0 ((L'++[x']).map EV.row).length 5:=⟨_,rfl⟩;rw[<-Oe]at hff ⊢;have PU:∀i,sB sn=some i->(h++g++[ai.b x.row]++g1).length+1=i:=λi hi=>by rw[Oe]at hi;cases hi;simp;omega
  have hout:∀b,sB out=some b->b<(h++g).length:=λb hb=>(hfr.bN hb).2
  have kp:∀i,i<(h++g++[ai.b x.row]++g1).length->sB out≠some i->(h++g')[i]? =(h++g++[ai.b x.row]++g1)[i]? :=λi hi hne=>by
   rw[hkp i (by rw[Tg];omega) (λb0 o n e he zz=>hne (by rw[he,zz];rfl)),Tj hi]
  refine Rs (A6 t1 t5 t8 t9 t10 e5) ?_;refine⟨_,Om,k+1,sn,L'++[x'],g',Om,rfl,rfl,?_,hff,λy hy=>?_,rfl,rfl⟩
  ·rw[Tx,hm,Oy,Tx];simp[NL]
  ·rcases Tn.1 hy with hy|hy
   ·have oy:=hin y hy;have ln:=λj (hj:sB y.sn=some j)=>(oy.n.bN hj).2
    have lv:=λj (hj:sB y.sv=some j)=>(oy.v.bN hj).2
    refine⟨((oy.n.app [ai.b x.row]).app g1).ay λj hj=>kp j (by have:=ln j hj;simp only[Tg]at this ⊢;omega) (oy.dn j hj),((oy.v.app [ai.b x.row]).app g1).ay λj hj=>kp j (by have:=lv j hj;simp only[Tg]at this ⊢;omega) (oy.dv j hj),λj hj e=>?_,λj hj e=>?_⟩
    ·have h1:=ln j hj;have h2:=PU j e;simp only[Tg]at h1 h2;omega
    ·have h1:=lv j hj;have h2:=PU j e;simp only[Tg]at h1 h2;omega
   ·rw[TD]at hy;subst hy;have ln:=λj (hj:sB y.sn=some j)=>fn.bN hj
    have lv:=λj (hj:sB y.sv=some j)=>fv.bN hj
    have en:(h++g++[ai.b x.row]).length=(h++g).length+1:=by rw[Tg];rfl
    rw[<-NL]at fn fv;exact MV
 ·have e3:=jf hlt;have e4:k=L.length:=Om
  refine Rs (A6 t1 t5 t8 t9 t10 e3) ?_;rw[e4,T7]at hm;exact⟨L',hm,hfr,hin⟩
def r240{x}(ox:a8 h x){b i:Nat}(hb:h[b]? =some (.b [.i (i:Int)]))(hi:i<x.ev.names.length)(n:By):ao P 240 [.agg x.row,.str n,.ptr b 0] h (λv _=>v=.bool (decide (ba x.ev i=n))):=by
 refine .ue 13 T.mix T.c240 ?_;intro ts hlen t0 t1 t2;unfold fn240 gA;have NJ:=@a8.box _ _ ox;have lb:∀{k:af}{n':Option Nat}{a:Nat},Ext h k->au n' (.ptr b a) (λz=>k[z]?)=dy n' a (.b [.i (i:Int)]):=λe=>az (e.some hb)
 have ix:=ox.n.eX (kk:=.i64) hi;have ev:ba x.ev i=x.ev.names[i]:=by rw[ba,TF,Tk hi];rfl
 have ld:∀{k':af},Ext h k'->au none (dG x.sn 1 i) (λb=>k'[b]?)=some (.str (ba x.ev i),.aq):=λ{k'} e=>by
  rw[ev];exact ox.n.kV hi rfl e
 exact Rs (A8 t0 t1 t2 @NJ @lb @bE ix @ld) Tv
def r153{x}(ox:a8 h x)(n:By):ao P 153 [.agg x.row,.str n] h (λv _=>v=.bool true):=by
 refine .dU 5 T.mix T.c153 ?_;intro ts hlen t0 t1;unfold fn153 gA;have NJ:=@a8.box _ _ ox;exact Rs (A3 t0 t1 @NJ) Tv
def r89{x d}(ox:a8 h x)(wx:r9 x.ev d){b n}(hb:h[b]? =some (.b [.str n])):ao P 89 [.agg x.row,.ptr b 0] h (λv _=>v=.bool (ni n x.ev)):=by
 refine .dU 18 T.mix T.c89 ?_;intro ts hlen t0 t1;unfold fn89 gA;have NJ:=@a8.box _ _ ox;have lb:∀{k:af}{n':Option Nat}{a:Nat},Ext h k->au n' (.ptr b a) (λz=>k[z]?)=dy n' a (.b [.str n]):=λe=>az (e.some hb)
 refine Rs (A3 t0 t1 @NJ) ?_;refine WF.res T.c90 (r90 T) ?_;rintro _ g2 ⟨vf,rfl,hk⟩;have lk:∀{z:AV},fJ .s z false (.map (h++[ai.b x.row]).length) (.str x.ev.kind) (λb=>(h++[ai.b x.row]++g2)[b]?)=jH z false ((gb x.ev.kind).map vf):=hk.look;rw[wx.kd]at lk;have N8:∀{z:AV},_=some (vf d,fR.aq):=@lk;obtain⟨rs,a,hv,hr,ha,hab⟩:=(hk.k d).ex;rw[hv]at N8;unfold ni;rw[wx.mH];unfold vE at hab;have Ry:=wx.nl;cases O2:BW d with
 |none=>
  rw[O2]at hab;have hab:a=.nilFunc:=hab;subst hab;have en:nW true (kY .nV .nilFunc .nilFunc)=some (.bool false):=rfl;exact Rs (A6 t0 t1 @fH @bn @N8 @en) Tv
 |some i=>
  rw[O2]at hab;by_cases h3:i=3
  ·subst h3;have hab:a=.func (.func 153) [] []:=hab;subst hab;have en:∀{A C:List AV},nW true (kY .nV (.func (.func 153) A C) .nilFunc)=some (.bool true):=rfl;refine Rs (A8 t0 t1 @fH @bn @N8 @en @cA @lb) ?_;refine WF.ce T.c153 (r153 T (ox.ext Xx) n) λg3=>?_
   exact Rs t0 Tv
  ·obtain⟨b3,rfl,hb3⟩:∃b',a=.func (.func 240) [] [.ptr b' 0]/\(h++[ai.b x.row]++g2)[b']? =some (.b [.i (i:Int)]):=by
    split at hab
    ·rename_i hz;cases hz
    ·rename_i hz;cases hz;exact absurd rfl h3
    ·rename_i hz;cases hz;exact hab
   have hil:i<x.ev.names.length:=by
    rw[Ry];cases d<;>simp[BW]at O2<;>first|(subst O2;decide)|exact absurd O2.symm h3
   have en:∀{A C:List AV},nW true (kY .nV (.func (.func 240) A C) .nilFunc)=some (.bool true):=rfl;refine Rs (A8 t0 t1 @fH @bn @N8 @en @cA @lb) ?_;refine WF.ce T.c240 (a:=[]) (c:=[.ptr b3 0]) (r240 T (ox.ext Xx) (Ext.some Xx hb3) hil n) λg3=>?_
   exact Rs t0 Tv
def r26{L s}(o:eA h L s)(sh:uj L)(gl:Gl h)(n:By):ao P 26 [s,.str n] h (λv k=>∃s' L',v=.dh [s',.i (kL (L.map EV.ev) n).2]/\eA k L' s'/\L'.map EV.ev=(kL (L.map EV.ev) n).1):=by
 refine .dU 54 T.mix T.c26 ?_;intro ts hlen t0 t1;unfold fn26 gA;refine Rs (A2 t0 t1) ?_;refine WF.res T.c78 (r78 T (o.ext Xx) sh (gl.ext Xx)) ?_;intro v g hv;obtain⟨p,RZ⟩:∃p,v=.dh [p,.i (aT (L.map EV.ev)).2.1,.i (aT (L.map EV.ev)).2.2]:=by obtain⟨p,h1,_⟩:=hv;exact⟨p,h1⟩
 rw[RZ];by_cases he:(aT (L.map EV.ev)).2.2=0
 case neg=>
  have q:decide ((aT (L.map EV.ev)).2.2=0)=false:=Tm he;refine Rs (A3 t0 t1 q) ?_;refine WF.ce T.c85 (r85 T _ _) λg1=>?_
  refine Rs (A2 t0 t1) ?_;refine WF.ce T.c74 (r74 T (bG [_,_]) Si) λg2=>?_
  have e1:aG [(aT (L.map EV.ev)).2.2,bz false 10]=(aT (L.map EV.ev)).2.2:=by rw[aG,Tt he]
  have q2:decide ((aT (L.map EV.ev)).2.2≠0)=true:=Tq he;rw[e1];refine Rs (A3 t0 t1 q2) ?_;have e2:kL (L.map EV.ev) n=([],(aT (L.map EV.ev)).2.2):=by
   rw[kL,q,Bool.false_and,e1,Ty he]
  rw[e2];exact z157
 obtain⟨b,V,R0,oV,hV,wV,Sg,hle,hr,hz,wn,hn,on,lo⟩:=sN T hv he;rw[RZ]at R0;have hpb:p=.ptr b 0:=by injection R0 with h1;injection h1
 rw[hpb];have q:decide ((aT (L.map EV.ev)).2.2=0)=true:=Tq he;refine Rs (A3 t0 t1 q) ?_;refine WF.ce T.c79 (r79 T (oV.rd.ext Xx) hr) λg1=>?_
 refine Rs (A3 t0 t1 @bu) ?_;refine WF.ce T.c86 (r86 T (on.ext Xx) wn.len (t:=0) De _) λg2=>?_
 refine Rs (A2 t0 t1) ?_;refine WF.ce T.c85 (r85 T _ _) λg3=>?_
 refine Rs (A2 t0 t1) ?_;refine WF.ce T.c74 (r74 T (bG [_,_]) Si) λg4=>?_
 rw[hn];rw[kL,q,Vv];obtain⟨f,hf⟩:∃f,f=aG [(aT (L.map EV.ev)).2.2,bz (!ez (aT (L.map EV.ev)).1.now 0 n) 10]:=⟨_,rfl⟩;rw[<-hf];by_cases h0:f=0
 case neg=>
  have q:decide (f≠0)=true:=Tq h0;rw[Ty h0];refine Rs (A3 t0 t1 q) ?_;exact z157
 have q2:decide (f≠0)=false:=Tm (λz=>z h0);rw[Tt (λz=>z h0)];obtain⟨Hs,Tb⟩:∃Hs,Hs=h++[ai.b [AV.str n]]++g++g1++g2++g3++[ai.cells [AV.i (aT (L.map EV.ev)).2.2,.i (bz (!ez (aT (L.map EV.ev)).1.now 0 n) 10)] true true]++g4:=⟨_,rfl⟩;have oH:w9 Hs b V:=by rw[Tb];exact oV.rd.ext Xx
 have mn:Hs[h.length]? =some (.b [.str n]):=by rw[Tb];exact(show Ext (h++[ai.b [AV.str n]]) _ from Xx).some bF
 rw[<-Tb];have hb:=oH.hb;have lb:=@iL _ _ _ hb;have hcl:V.eC.length<=1000:=by
  have e1:=wV.le;have e2:V.bp.eC.length=V.eC.length:=by simp[HV.bp]
  have e3:V.bp.cI.length=V.cI.length:=by simp[HV.bp]
  have e4:(L.map EV.ev).length<=1000:=hle;omega
 have wc:∀x∈V.eC,∃d,r9 x.ev d:=λx hx=>wV.cn x.ev (TR hx)
 have oone:∀x∈V.eC,x.sn.one=true/\x.sv.one=true:=λx hx=>⟨(oH.ac x hx).n.one,(oH.ac x hx).v.one⟩
 refine Rs (A4 t0 t1 q2 @lb) ?_;refine WF.res T.c88 (r88 T oH.ic oone Om (λx=>ni n x.ev) (λx hx k e=>by
  obtain⟨d,wx⟩:=wc x hx;exact aQ.of (a:=[]) T.c89 (r89 T ((oH.ac x hx).ext e) wx (e.some mn)))) ?_
 rintro s5 g5 h5;refine Rs (A2 t0 t1) ?_;obtain⟨F,hF⟩:∃F,F=V.eC.filter λx=>ni n x.ev:=⟨_,rfl⟩
 rw[<-hF]at h5;have hFm:∀x∈F,x∈V.eC:=λx hx=>by rw[hF]at hx;exact(UK.1 hx).1
 have hFl:F.length<=1000:=by have:F.length<=V.eC.length:=by(rw[hF];exact Uc _ _)
                             omega
 have oF:eA (Hs++g5) F s5:=⟨h5.aN,λx hx=>(oH.ac x (hFm x hx)).ext Xx⟩;refine WF.res T.c87 (r87 T oF Om (λx hx=>by
  obtain⟨d,wx⟩:=wc x (hFm x hx);have h1:=wx.nl;have h2:=wx.vl;have h3:(bV d).length<=3/\cO d<=3:=by cases d<;>decide
  omega)) ?_
 rintro s6 g6 ⟨L6,hL6,f6,i6⟩;obtain⟨Hb,hHb⟩:∃Hb,Hb=Hs++g5:=⟨_,rfl⟩;rw[<-hHb]at f6 i6 ⊢;have hl6:L6.length=F.length:=by have:=TO List.length hL6;simpa using this
 refine Rs (A3 t0 t1 f6.aN.bh) ?_;refine WL.inv T.mix (λm ts h'=>∃(k:Nat) (g':af) (L':List EV),k<=L6.length/\m=L6.length-k/\h' =Hb++g'/\L'.length=L6.length/\(∀i (h1:i<L'.length) (h2:i<L6.length),(L'[i]).ev=if i<k then { (L6[i]).ev with num:=(i:Int)+1} else(L6[i]).ev)/\Fr Hb.length (Hb++g') s6 5 (L'.map EV.row)/\(∀x∈L',yC Hb.length (Hb++g') s6 x)/\
   ts.length=54/\slot ts 10=s6/\slot ts 41=s6/\slot ts 42=.i L6.length/\slot ts 43=.i k) L6.length
  ⟨0,g6,L6,Om,rfl,rfl,rfl,λi _ _=>by rw[Tt Om],f6,i6,Sn,Sw,Sw,Sw,my⟩ ?_
 clear t0 t1 hlen lb;clear ts;rintro _ ts _ ⟨k,g',L',hk,rfl,rfl,hlL,hev,hfr,hin,hlen,t10,t41,t42,t43⟩;by_cases hlt:k<L6.length
 ·have e3:=hX hlt;have e5:=wrapN (n:=k) Om;have Oh:k<L'.length:=Om
  have ix:=hfr.aN.eX (kk:=.i64) Oh;refine Rs (A7 t10 t41 t42 t43 e3 e5 ix) ?_;obtain⟨x,hx⟩:∃x,x=L'[k]:=⟨_,rfl⟩;have P6:x∈L':=by rw[hx];exact TE _
  refine WR.rm (h0:=Hb) (x':={x with ev:={x.ev with num:=((k+1:Nat):Int) } }) hfr Oh De rfl (by rw[<-hx];rfl) ?_;intro g2 hlg hff hkp;have kp:∀j,sB s6≠some j->(Hb++g2)[j]? =(Hb++g')[j]? :=λj hj=>hkp j λb0 o n e he zz=>hj (by rw[he,zz];rfl)
  have RU:∀y:EV,yC Hb.length (Hb++g') s6 y->yC Hb.length (Hb++g2) s6 y:=λy oy=>⟨oy.n.ay λj hj=>kp j (oy.dn j hj),oy.v.ay λj hj=>kp j (oy.dv j hj),oy.dn,oy.dv⟩
  refine Rs (A5 t10 t41 t42 t43 e5) ?_;refine⟨_,Om,k+1,g2,L'.set k {x with ev:={x.ev with num:=((k+1:Nat):Int) } },Om,rfl,rfl,by rw[Um];exact hlL,λi h1 h2=>?_,hff,λy hy=>?_,rfl⟩
  ·by_cases Qi:i=k
   ·subst Qi;simp only[Vr];rw[Ty Om];have:=hev i Oh h2;rw[Tt Om]at this;rw[hx,this];rfl
   ·simp only[VC (Vl Qi)];rw[hev i (by simpa using h1) h2];exact He
  ·rcases Va hy with hy|hy
   ·exact RU y (hin y hy)
   ·rw[hy];have:=RU x (hin x P6);exact⟨this.n,this.v,this.dn,this.dv⟩
 ·have e3:=jf hlt;have e4:k=L6.length:=Om
  refine Rs (A5 t10 t41 t42 t43 e3) ?_;refine⟨by rw[hHb,Tb];exact Xx,s6,L',rfl,⟨hfr.aN,λx hx=>(hin x hx).ok⟩,?_⟩;have e6:(aT (L.map EV.ev)).1.eC.filter (ni n)=L6.map EV.ev:=by
   rw[hL6,hF,<-hV];show List.filter _ (V.eC.map EV.ev)=_;rw[Vq];rfl
  rw[e6,HS];refine List.ext_getElem (by simp[hlL]) λi h1 h2=>?_
  have h1':i<L'.length:=by simpa using h1
  rw[Ux,hev i h1' Om,Ty Om,List.getElem_mapIdx,Ux]
end
end Go.Abs
